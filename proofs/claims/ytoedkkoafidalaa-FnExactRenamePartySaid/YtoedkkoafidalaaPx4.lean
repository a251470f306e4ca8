-- PRINTED by print.py (a twelfth state) out of the translation. Not trusted: Lean checks it.
import Derived.Test.YtoedkkoafidalaaPx0
import Derived.Test.YtoedkkoafidalaaPx3
namespace Go.Proofs.Ytoedkkoafidalaa.P
open Go.RowKit Go.Proofs.YtoedkkoafidalaaW.PrintWords Go.Proofs.YtoedkkoafidalaaW.PrintLast Go.Proofs.YtoedkkoafidalaaW.PrintMore
open Bool renaming true → T, false → F
attribute [local go_sem] max2_int min2_int max_two min_two max_three min_three max_four min_four   -- for this text's walks alone
set_option linter.unusedVariables false
set_option linter.unusedSimpArgs false

/-! ### impl_IsParty: function 50 -/
def impl_IsParty.l0:Nat→List (S70)→Int→Int→Int→List (S70)→Option (Bool)
 | 0,_,_,_,_,_=>none
 | k+1,x6,x7,x8,x228000,x228001=>if x8 < x7 then (if 0≤x8 then (if x8 < (x6.length:Int) then (if ((rd_T70 x6 x8).f0) < 0 then (some false) else (if ((rd_T70 x6 x8).f0) ≥ ((rd_T70 x6 x8).f1) then (some false) else (if ((rd_T70 x6 x8).f1) ≥ x228000 then (some false) else (if x8 > 0 then (if 0≤(wrap64 (x8 - 1)) then (if (wrap64 (x8 - 1)) < (x228001.length:Int) then ((impl_comparePairs.f k ((rd_T70 x228001 (wrap64 (x8 - 1))).f0) ((rd_T70 x228001 (wrap64 (x8 - 1))).f1) ((rd_T70 x6 x8).f0) ((rd_T70 x6 x8).f1)).bind fun t231=>(if t231 ≥ 0 then (some false) else (impl_IsParty.l0 k x6 x7 (wrap64 (x8+1)) x228000 x228001))) else (none)) else (none)) else (impl_IsParty.l0 k x6 x7 (wrap64 (x8+1)) x228000 x228001))))) else (none)) else (none)) else ((impl_areCrowd.f x228000).bind fun t232=>(some t232))
def impl_IsParty.f (k:Nat) (a0_0:Int) (l0_1:List (S70)):Option (Bool):=impl_IsParty.l0 k l0_1 (l0_1.length:Int) 0 a0_0 l0_1
theorem impl_IsParty.mono_l:∀ k,(∀ y0 y1 y2 y3 y4,LeO (impl_IsParty.l0 k y0 y1 y2 y3 y4) (impl_IsParty.l0 (k+1) y0 y1 y2 y3 y4))
 | 0=>fun _ _ _ _ _ r h=>by simp [impl_IsParty.l0] at h
 | k+1=>by
  have ih0:=impl_IsParty.mono_l k
  ·intro y0 y1 y2 y3 y4
   unfold impl_IsParty.l0
   repeat' first
   | (with_reducible exact ih0 _ _ _ _ _)
   | (with_reducible exact impl_comparePairs.mono _ _ _ _ _)
   | (with_reducible exact LeO.refl _)
   | (with_reducible exact LeO.none _)
   | (with_reducible refine LeO.ite ?_ ?_)
   | (with_reducible refine LeO.bind ?_ (fun _=>?_))
   | exact ih0 _ _ _ _ _
   | exact impl_comparePairs.mono _ _ _ _ _
   | exact LeO.none _
   | refine LeO.ite ?_ ?_
   | refine LeO.bind ?_ (fun _=>?_)
theorem impl_IsParty.mono:∀ a0 a1 k,LeO (impl_IsParty.f k a0 a1) (impl_IsParty.f (k+1) a0 a1):=by
 intro a0 a1 k
 have ih0:=impl_IsParty.mono_l k
 unfold impl_IsParty.f
 repeat' first
   | (with_reducible exact ih0 _ _ _ _ _)
   | (with_reducible exact impl_comparePairs.mono _ _ _ _ _)
   | (with_reducible exact LeO.refl _)
   | (with_reducible exact LeO.none _)
   | (with_reducible refine LeO.ite ?_ ?_)
   | (with_reducible refine LeO.bind ?_ (fun _=>?_))
   | exact ih0 _ _ _ _ _
   | exact impl_comparePairs.mono _ _ _ _ _
   | exact LeO.none _
   | refine LeO.ite ?_ ?_
   | refine LeO.bind ?_ (fun _=>?_)
def impl_IsParty.T4:Bool × List (List Nat × List Nat):=(true,[([],[]),([0],[0]),([1],[1]),([2],[2]),([3],[3]),([4,3],[3,4]),([3],[3]),([6,3],[3,6]),([5,7,3],[3,5,7]),([3,8],[3,8]),([9,3],[9]),([10],[10]),([11,10],[10,11]),([10],[10]),([13,10],[10,13]),([12,14,10],[10,12,14]),([10,15],[10,15]),([16,10],[16]),([17],[17]),([18,17],[17,18]),([19,17,17],[17,19]),([20],[20]),([21,20],[20,21]),([20],[20]),([23,20],[20,23]),([22,24,20],[20,22,24]),([25,20],[20,25]),([20],[20]),([26,27,20,20],[20,26,27]),([28,20],[20,28]),([20,29,17],[17,20,29]),([17,30],[17,30])])
def impl_IsParty.B4:List Nat:=[0,1,3,7,15,31,15,79,255,511,1023,2047,4095,2047,10239,32767,65535,131071,262143,524287,1048575,2097151,4194303,2097151,10485759,33554431,67108863,2097151,268435455,536870911,1073741823,2147483647]
theorem impl_IsParty.tab4:rtab .any (opsOf Try.f50 4)=impl_IsParty.T4:=by kernel_rfl
theorem impl_IsParty.bits4:waitsOk impl_IsParty.T4.2 impl_IsParty.B4=true:=by kernel_rfl
set_option maxHeartbeats 8000000 in
set_option maxRecDepth 100000 in
theorem impl_IsParty.calls (k:Nat) (a0_0:Int) (A0_1:Option Addr) (c0_1:Nat) (l0_1:List (S70)) (r:Bool) (w:World) (hr0_1:Kd.C k70 w A0_1 l0_1.length l0_1) (hc0_1:l0_1.length≤c0_1) (h:impl_IsParty.f k a0_0 l0_1=some r) :
  Calls Try.prog 50 #[.agg #[.int .i64 a0_0,.slice A0_1 l0_1.length c0_1]] w fun e w'=>e=.returned (.bool r)∧Below w.heap.size w w':=by
 have hu30:=Try.underlying30
 have hu70:=Try.underlying70
 have HR0_1:=zz31 hr0_1
 have HC0_1:=zz31 hc0_1
 clear hr0_1 hc0_1
 have HB:=zz31 (Below.refl w.heap.size w)
 have H:(impl_IsParty.l0 k l0_1 (l0_1.length:Int) 0 a0_0 l0_1)=some r:=h
 clear h
 have H':=zz31 H
 clear H
 go_enter Try.func50,Try.ntmps50
 go_wp2_with (first | ((with_reducible refine gate_dst (N:=1) rfl ?_);refine box_event ?hg (N:=1) ?hd (cs:=#[.int .i64 a0_0,.slice A0_1 l0_1.length c0_1]) (t:=30) ?hr ?_;(case hd=>rfl);(case hg=>rfl);(case hr=>first | (go_simp;done) | (go_simp;rfl));intro gb227 hg w2 hbox hb;have n0_:=zz31 (zz4 (by repeat first | exact HB.out | apply zz2 | apply zz0 | apply zz1) hb);have n1_:=zz31 (hbox);have n2_:=zz31 ((by rw [hg];exact (zz5 (by repeat first | exact HB.out | apply zz2 | apply zz0 | apply zz1)):w.heap.size≤gb227));have n3_:=zz31 ((by rw [hg];exact (zz5 (by repeat first | exact HB.out | apply zz2 | apply zz0 | apply zz1)):w.heap.size≤gb227));clear HB;have HB:=n0_;have BK227:=n1_;have GW227:=n2_;have GE227:=n3_;clear n0_ n1_ n2_ n3_;clear hb hbox hg;have hcz3_0:w2.cell? ⟨gb227,0,none⟩=some (.int .i64 a0_0):=(zz9 BK227.out 0).trans rfl;have hcz3_1:w2.cell? ⟨gb227,1,none⟩=some (.slice A0_1 l0_1.length c0_1):=(zz9 BK227.out 1).trans rfl;have hfz3_0:=zz10 BK227.out 0;have hfz3_1:=zz10 BK227.out 1))
 go_loopg [8] k (fun kq v8 w'=>∃ (x8_1:Int),v8=.int .i64 x8_1∧Aside0 (impl_IsParty.l0 kq l0_1 (l0_1.length:Int) x8_1 a0_0 l0_1=some r)∧Aside0 (kq≤k)∧Aside0 (w'.heap[gb227]?=some (.cells #[.int .i64 a0_0,(.slice A0_1 l0_1.length c0_1)] 30 (0,0)))∧Aside0 (Below w.heap.size w w'))
 case atStart=>exact ⟨(0),(by first | rfl | (simp;done) | (simp [*];done)),H',⟨Nat.le_refl _⟩,⟨by (with_reducible repeat (first | refine zz6 ?_ _ | refine zz7 ?_ | refine zz8 ?_ _));exact BK227.out⟩,⟨by repeat first | exact HB.out | apply zz2 | apply zz0 | apply zz1 | refine zz3 ?_ GE227.out⟩⟩
 case round =>
  clear H'
  try clear p2
  try clear hcz3_0
  try clear hcz3_1
  try clear hfz3_0
  try clear hfz3_1
  obtain ⟨x8_1,rfl,HA,HK1,BK227,HB⟩:=hrel
  cases gk with
  | zero=>exact absurd HA.out (by simp [impl_IsParty.l0])
  | succ k1 =>
   have H:=HA.out
   clear HA
   simp only [impl_IsParty.l0] at H
   by_cases c4:x8_1 < (l0_1.length:Int)
   ·rw [if_pos c4] at H
    have c4b0:decide (x8_1 < (l0_1.length:Int))=true:=decide_eq_true c4
    clear c4
    by_cases c5:0≤x8_1
    ·rw [if_pos c5] at H
     have c5b0:decide (0≤x8_1)=true:=decide_eq_true c5
     clear c5
     by_cases c6:x8_1 < (l0_1.length:Int)
     ·rw [if_pos c6] at H
      have c6b0:decide (x8_1 < (l0_1.length:Int))=true:=decide_eq_true c6
      clear c6
      by_cases c7:((rd_T70 l0_1 x8_1).f0) < 0
      ·rw [if_pos c7] at H
       have c7b0:decide (((rd_T70 l0_1 x8_1).f0) < 0)=true:=decide_eq_true c7
       clear c7
       obtain rfl:=Option.some.inj H
       have p228:0≤(x8_1:Int):=zz29 (by first | (with_reducible assumption) | assumption)
       have q228:x8_1 < (l0_1.length:Int):=zz29 (by first | (with_reducible assumption) | assumption)
       obtain ⟨ad228,e228,hx228_0,hx228_1⟩:=at_T70 HR0_1.out x8_1 p228 q228
       cases e228
       try replace hx228_0:=(HB.out.cell (World.block_lt_of_cell? w _ hx228_0)).trans hx228_0
       try replace hx228_1:=(HB.out.cell (World.block_lt_of_cell? w _ hx228_1)).trans hx228_1
       replace p228:=eq_true p228
       replace q228:=eq_true q228
       try go_wp2_with (first | ((with_reducible refine gate_dst (N:=4) rfl ?_);refine box_event ?hg (N:=4) ?hd (cs:=#[.int .i64 0,.int .i64 0]) (t:=70) ?hr ?_;(case hd=>rfl);(case hg=>rfl);(case hr=>first | (go_simp;done) | (go_simp;rfl));intro gb229 hg w8 hbox hb;have n0_:=zz31 (zz11 (g:=gb227) (o:=.cells #[.int .i64 a0_0,.slice (some ad228) l0_1.length c0_1] 30 (0,0)) (by (with_reducible repeat (first | refine zz6 ?_ _ | refine zz7 ?_ | refine zz8 ?_ _));exact BK227.out) hb);have n1_:=zz31 (zz4 (by repeat first | exact HB.out | apply zz2 | apply zz0 | apply zz1 | refine zz3 ?_ GE227.out) hb);have n2_:=zz31 (hbox);have n3_:=zz31 ((by rw [hg];exact (zz5 (by repeat first | exact HB.out | apply zz2 | apply zz0 | apply zz1 | refine zz3 ?_ GE227.out)):w.heap.size≤gb229));have n4_:=zz31 ((by rw [hg];exact (zz5 (by repeat first | exact HB.out | apply zz2 | apply zz0 | apply zz1 | refine zz3 ?_ GE227.out)):w.heap.size≤gb229));have n5_:=zz31 ((by rw [hg];exact Nat.ne_of_lt (blk_lt (g:=gb227) (o:=.cells #[.int .i64 a0_0,.slice (some ad228) l0_1.length c0_1] 30 (0,0)) (by (with_reducible repeat (first | refine zz6 ?_ _ | refine zz7 ?_ | refine zz8 ?_ _));exact BK227.out)):gb227 ≠ gb229));have n6_:=zz31 ((by rw [hg];exact Nat.ne_of_gt (blk_lt (g:=gb227) (o:=.cells #[.int .i64 a0_0,.slice (some ad228) l0_1.length c0_1] 30 (0,0)) (by (with_reducible repeat (first | refine zz6 ?_ _ | refine zz7 ?_ | refine zz8 ?_ _));exact BK227.out)):gb229 ≠ gb227));clear BK227;clear HB;have BK227:=n0_;have HB:=n1_;have BK229:=n2_;have GW229:=n3_;have GE229:=n4_;have NB227_229:=n5_;have NB229_227:=n6_;clear n0_ n1_ n2_ n3_ n4_ n5_ n6_;clear hb hbox hg;have hnb9:=NB229_227.out;have hnc9:=NB227_229.out;have hcz10_0:w8.cell? ⟨gb229,0,none⟩=some (.int .i64 0):=(zz9 BK229.out 0).trans rfl;have hcz10_1:w8.cell? ⟨gb229,1,none⟩=some (.int .i64 0):=(zz9 BK229.out 1).trans rfl;have hfz10_0:=zz10 BK229.out 0;have hfz10_1:=zz10 BK229.out 1))
       have n0_:Aside0 (((w8.setCell ⟨gb229,0,none⟩ (.int .i64 ((rd_T70 l0_1 x8_1).f0))).setCell ⟨gb229,1,none⟩ (.int .i64 ((rd_T70 l0_1 x8_1).f1))).heap[gb227]?=some (.cells #[.int .i64 a0_0,.slice (some ad228) l0_1.length c0_1] 30 (0,0))):=⟨by (with_reducible repeat (first | refine zz6 ?_ _ | refine zz7 ?_ | refine zz8 ?_ _));refine blk_far ?_ NB227_229.out _;(with_reducible repeat (first | refine zz6 ?_ _ | refine zz7 ?_ | refine zz8 ?_ _));refine blk_far ?_ NB227_229.out _;(with_reducible repeat (first | refine zz6 ?_ _ | refine zz7 ?_ | refine zz8 ?_ _));exact BK227.out⟩
       have n1_:Aside0 (((w8.setCell ⟨gb229,0,none⟩ (.int .i64 ((rd_T70 l0_1 x8_1).f0))).setCell ⟨gb229,1,none⟩ (.int .i64 ((rd_T70 l0_1 x8_1).f1))).heap[gb229]?=some (.cells #[.int .i64 ((rd_T70 l0_1 x8_1).f0),.int .i64 ((rd_T70 l0_1 x8_1).f1)] 70 (0,0))):=⟨by (with_reducible repeat (first | refine zz6 ?_ _ | refine zz7 ?_ | refine zz8 ?_ _));refine blk_put (cs:=#[.int .i64 ((rd_T70 l0_1 x8_1).f0),.int .i64 0]) ?_ 1 _ rfl;(with_reducible repeat (first | refine zz6 ?_ _ | refine zz7 ?_ | refine zz8 ?_ _));refine blk_put (cs:=#[.int .i64 0,.int .i64 0]) ?_ 0 _ rfl;(with_reducible repeat (first | refine zz6 ?_ _ | refine zz7 ?_ | refine zz8 ?_ _));exact BK229.out⟩
       have n2_:Aside0 (Below w.heap.size w ((w8.setCell ⟨gb229,0,none⟩ (.int .i64 ((rd_T70 l0_1 x8_1).f0))).setCell ⟨gb229,1,none⟩ (.int .i64 ((rd_T70 l0_1 x8_1).f1)))):=⟨by repeat first | exact HB.out | apply zz2 | apply zz0 | apply zz1 | refine zz3 ?_ GE227.out | refine zz3 ?_ GE229.out⟩
       (try clear BK227)
       (try clear BK229)
       (try clear HB)
       generalize ((w8.setCell ⟨gb229,0,none⟩ (.int .i64 ((rd_T70 l0_1 x8_1).f0))).setCell ⟨gb229,1,none⟩ (.int .i64 ((rd_T70 l0_1 x8_1).f1)))=w11 at n0_ n1_ n2_ ⊢
       have BK227:=n0_
       have BK229:=n1_
       have HB:=n2_
       clear n0_ n1_ n2_
       have n0_:=zz31 (zz7 BK227.out)
       have n1_:=zz31 (zz7 BK229.out)
       have n2_:=zz31 (zz1 HB.out)
       clear BK227
       clear BK229
       clear HB
       have BK227:=n0_
       have BK229:=n1_
       have HB:=n2_
       clear n0_ n1_ n2_
       refine start_ (n:=32) (S:=fun w'=>w'.cell? ⟨gb229,0,none⟩=some (.int .i64 ((rd_T70 l0_1 x8_1).f0))∧w'.cell? ⟨gb229,1,none⟩=some (.int .i64 ((rd_T70 l0_1 x8_1).f1))) (ds:=[]) #[F,F,F,F,F,F,F,F,F,F,F,F,F,F,F,F,F,F,F,F,F,F,F,F,F,F,F,F,F,F,F,F] (by kernel_rfl) rfl rfl ⟨(zz9 BK229.out 0).trans rfl,(zz9 BK229.out 1).trans rfl⟩ (fun hHeld=>?_);refine with_tabW impl_IsParty.tab4 impl_IsParty.bits4 (fun HT_ HW_=>?_)
       generalize w11.drew=w12 at BK227 BK229 HB hHeld ⊢
       refine pure_ (i:=0) (N:=some 13) (v:=?_) (a':=?_) #[T,F,F,F,F,F,F,F,F,F,F,F,F,F,F,F,F,F,F,F,F,F,F,F,F,F,F,F,F,F,F,F] rfl rfl (any_of HT_.out (by kernel_rfl)) (fun _ _ _ h=>h) (Or.inl ⟨by rfl,?_⟩) ?_ ?_
       rotate_left
       ·intro w'
        go_simp
        with_reducible rfl
       rotate_left
       ·simp only [Act.put,zz21,zz22,zz23,i64_w,i32_w]
        rfl
       refine take_ (i:=1) (N:=some 14) (v:=?_) (a':=?_) #[T,T,F,F,F,F,F,F,F,F,F,F,F,F,F,F,F,F,F,F,F,F,F,F,F,F,F,F,F,F,F,F] rfl rfl (take_ofW HT_.out HW_.out (by kernel_rfl)) (fun _ _ _ h=>h) (Or.inl ⟨by rfl,?_⟩) hHeld ?_ ?_
       rotate_left
       ·rintro w' ⟨s0,s1⟩
        go_simp
        with_reducible rfl
       rotate_left
       ·simp only [Act.put,zz21,zz22,zz23,i64_w,i32_w]
        rfl
       refine pure_ (i:=2) (N:=some 15) (v:=?_) (a':=?_) #[T,T,T,F,F,F,F,F,F,F,F,F,F,F,F,F,F,F,F,F,F,F,F,F,F,F,F,F,F,F,F,F] rfl rfl (any_of HT_.out (by kernel_rfl)) (fun _ _ _ h=>h) (Or.inl ⟨by rfl,?_⟩) ?_ ?_
       rotate_left
       ·intro w'
        go_simp
        with_reducible rfl
       rotate_left
       ·simp only [Act.put,zz21,zz22,zz23,i64_w,i32_w]
        rfl
       refine pure_ (i:=3) (N:=some 16) (v:=?_) (a':=?_) #[T,T,T,T,F,F,F,F,F,F,F,F,F,F,F,F,F,F,F,F,F,F,F,F,F,F,F,F,F,F,F,F] rfl rfl (any_of HT_.out (by kernel_rfl)) (fun _ _ _ h=>h) (Or.inl ⟨by rfl,?_⟩) ?_ ?_
       rotate_left
       ·intro w'
        go_simp
        with_reducible rfl
       rotate_left
       ·simp only [Act.put,zz21,zz22,zz23,i64_w,i32_w]
        rfl
       refine pure_ (i:=4) (N:=some 17) (v:=undef) (a':=?_) #[T,T,T,T,T,F,F,F,F,F,F,F,F,F,F,F,F,F,F,F,F,F,F,F,F,F,F,F,F,F,F,F] rfl rfl (any_of HT_.out (by kernel_rfl)) (fun _ _ _ h=>h) (Or.inr ⟨by rfl,rfl⟩) ?_ ?_
       rotate_left
       ·simp only [Act.put,zz21,zz22,zz23,i64_w,i32_w]
        rfl
       refine pure_ (i:=5) (N:=some 18) (v:=undef) (a':=?_) #[T,T,T,T,T,T,F,F,F,F,F,F,F,F,F,F,F,F,F,F,F,F,F,F,F,F,F,F,F,F,F,F] rfl rfl (any_of HT_.out (by kernel_rfl)) (fun _ _ _ h=>h) (Or.inr ⟨by rfl,rfl⟩) ?_ ?_
       rotate_left
       ·simp only [Act.put,zz21,zz22,zz23,i64_w,i32_w]
        rfl
       refine pure_ (i:=6) (N:=some 19) (v:=undef) (a':=?_) #[T,T,T,T,T,T,T,F,F,F,F,F,F,F,F,F,F,F,F,F,F,F,F,F,F,F,F,F,F,F,F,F] rfl rfl (any_of HT_.out (by kernel_rfl)) (fun _ _ _ h=>h) (Or.inr ⟨by rfl,rfl⟩) ?_ ?_
       rotate_left
       ·simp only [Act.put,zz21,zz22,zz23,i64_w,i32_w]
        rfl
       refine pure_ (i:=7) (N:=some 20) (v:=undef) (a':=?_) #[T,T,T,T,T,T,T,T,F,F,F,F,F,F,F,F,F,F,F,F,F,F,F,F,F,F,F,F,F,F,F,F] rfl rfl (any_of HT_.out (by kernel_rfl)) (fun _ _ _ h=>h) (Or.inr ⟨by rfl,rfl⟩) ?_ ?_
       rotate_left
       ·simp only [Act.put,zz21,zz22,zz23,i64_w,i32_w]
        rfl
       refine pure_ (i:=8) (N:=some 21) (v:=undef) (a':=?_) #[T,T,T,T,T,T,T,T,T,F,F,F,F,F,F,F,F,F,F,F,F,F,F,F,F,F,F,F,F,F,F,F] rfl rfl (any_of HT_.out (by kernel_rfl)) (fun _ _ _ h=>h) (Or.inr ⟨by rfl,rfl⟩) ?_ ?_
       rotate_left
       ·simp only [Act.put,zz21,zz22,zz23,i64_w,i32_w]
        rfl
       refine pure_ (i:=9) (N:=some 22) (v:=?_) (a':=?_) #[T,T,T,T,T,T,T,T,T,T,F,F,F,F,F,F,F,F,F,F,F,F,F,F,F,F,F,F,F,F,F,F] rfl rfl (any_of HT_.out (by kernel_rfl)) (fun _ _ _ h=>h) (Or.inl ⟨by rfl,?_⟩) ?_ ?_
       rotate_left
       ·intro w'
        go_simp
        with_reducible rfl
       rotate_left
       ·simp only [Act.put,zz21,zz22,zz23,i64_w,i32_w]
        rfl
       refine pure_ (i:=10) (N:=some 23) (v:=?_) (a':=?_) #[T,T,T,T,T,T,T,T,T,T,T,F,F,F,F,F,F,F,F,F,F,F,F,F,F,F,F,F,F,F,F,F] rfl rfl (any_of HT_.out (by kernel_rfl)) (fun _ _ _ h=>h) (Or.inl ⟨by rfl,?_⟩) ?_ ?_
       rotate_left
       ·intro w'
        go_simp
        with_reducible rfl
       rotate_left
       ·simp only [Act.put,zz21,zz22,zz23,i64_w,i32_w]
        rfl
       refine pure_ (i:=11) (N:=some 24) (v:=undef) (a':=?_) #[T,T,T,T,T,T,T,T,T,T,T,T,F,F,F,F,F,F,F,F,F,F,F,F,F,F,F,F,F,F,F,F] rfl rfl (any_of HT_.out (by kernel_rfl)) (fun _ _ _ h=>h) (Or.inr ⟨by rfl,rfl⟩) ?_ ?_
       rotate_left
       ·simp only [Act.put,zz21,zz22,zz23,i64_w,i32_w]
        rfl
       refine pure_ (i:=12) (N:=some 25) (v:=undef) (a':=?_) #[T,T,T,T,T,T,T,T,T,T,T,T,T,F,F,F,F,F,F,F,F,F,F,F,F,F,F,F,F,F,F,F] rfl rfl (any_of HT_.out (by kernel_rfl)) (fun _ _ _ h=>h) (Or.inr ⟨by rfl,rfl⟩) ?_ ?_
       rotate_left
       ·simp only [Act.put,zz21,zz22,zz23,i64_w,i32_w]
        rfl
       refine pure_ (i:=13) (N:=some 26) (v:=undef) (a':=?_) #[T,T,T,T,T,T,T,T,T,T,T,T,T,T,F,F,F,F,F,F,F,F,F,F,F,F,F,F,F,F,F,F] rfl rfl (any_of HT_.out (by kernel_rfl)) (fun _ _ _ h=>h) (Or.inr ⟨by rfl,rfl⟩) ?_ ?_
       rotate_left
       ·simp only [Act.put,zz21,zz22,zz23,i64_w,i32_w]
        rfl
       refine pure_ (i:=14) (N:=some 27) (v:=undef) (a':=?_) #[T,T,T,T,T,T,T,T,T,T,T,T,T,T,T,F,F,F,F,F,F,F,F,F,F,F,F,F,F,F,F,F] rfl rfl (any_of HT_.out (by kernel_rfl)) (fun _ _ _ h=>h) (Or.inr ⟨by rfl,rfl⟩) ?_ ?_
       rotate_left
       ·simp only [Act.put,zz21,zz22,zz23,i64_w,i32_w]
        rfl
       refine pure_ (i:=15) (N:=some 28) (v:=undef) (a':=?_) #[T,T,T,T,T,T,T,T,T,T,T,T,T,T,T,T,F,F,F,F,F,F,F,F,F,F,F,F,F,F,F,F] rfl rfl (any_of HT_.out (by kernel_rfl)) (fun _ _ _ h=>h) (Or.inr ⟨by rfl,rfl⟩) ?_ ?_
       rotate_left
       ·simp only [Act.put,zz21,zz22,zz23,i64_w,i32_w]
        rfl
       refine pure_ (i:=16) (N:=some 29) (v:=?_) (a':=?_) #[T,T,T,T,T,T,T,T,T,T,T,T,T,T,T,T,T,F,F,F,F,F,F,F,F,F,F,F,F,F,F,F] rfl rfl (any_of HT_.out (by kernel_rfl)) (fun _ _ _ h=>h) (Or.inl ⟨by rfl,?_⟩) ?_ ?_
       rotate_left
       ·intro w'
        go_simp
        with_reducible rfl
       rotate_left
       ·simp only [Act.put,zz21,zz22,zz23,i64_w,i32_w]
        rfl
       refine pure_ (i:=17) (N:=some 30) (v:=?_) (a':=?_) #[T,T,T,T,T,T,T,T,T,T,T,T,T,T,T,T,T,T,F,F,F,F,F,F,F,F,F,F,F,F,F,F] rfl rfl (any_of HT_.out (by kernel_rfl)) (fun _ _ _ h=>h) (Or.inl ⟨by rfl,?_⟩) ?_ ?_
       rotate_left
       ·intro w'
        go_simp
        with_reducible rfl
       rotate_left
       ·simp only [Act.put,zz21,zz22,zz23,i64_w,i32_w]
        rfl
       refine pure_ (i:=18) (N:=some 31) (v:=undef) (a':=?_) #[T,T,T,T,T,T,T,T,T,T,T,T,T,T,T,T,T,T,T,F,F,F,F,F,F,F,F,F,F,F,F,F] rfl rfl (any_of HT_.out (by kernel_rfl)) (fun _ _ _ h=>h) (Or.inr ⟨by rfl,rfl⟩) ?_ ?_
       rotate_left
       ·simp only [Act.put,zz21,zz22,zz23,i64_w,i32_w]
        rfl
       refine pure_ (i:=19) (N:=some 32) (v:=undef) (a':=?_) #[T,T,T,T,T,T,T,T,T,T,T,T,T,T,T,T,T,T,T,T,F,F,F,F,F,F,F,F,F,F,F,F] rfl rfl (any_of HT_.out (by kernel_rfl)) (fun _ _ _ h=>h) (Or.inr ⟨by rfl,rfl⟩) ?_ ?_
       rotate_left
       ·simp only [Act.put,zz21,zz22,zz23,i64_w,i32_w]
        rfl
       refine pure_ (i:=20) (N:=some 33) (v:=undef) (a':=?_) #[T,T,T,T,T,T,T,T,T,T,T,T,T,T,T,T,T,T,T,T,T,F,F,F,F,F,F,F,F,F,F,F] rfl rfl (any_of HT_.out (by kernel_rfl)) (fun _ _ _ h=>h) (Or.inr ⟨by rfl,rfl⟩) ?_ ?_
       rotate_left
       ·simp only [Act.put,zz21,zz22,zz23,i64_w,i32_w]
        rfl
       refine pure_ (i:=21) (N:=some 34) (v:=undef) (a':=?_) #[T,T,T,T,T,T,T,T,T,T,T,T,T,T,T,T,T,T,T,T,T,T,F,F,F,F,F,F,F,F,F,F] rfl rfl (any_of HT_.out (by kernel_rfl)) (fun _ _ _ h=>h) (Or.inr ⟨by rfl,rfl⟩) ?_ ?_
       rotate_left
       ·simp only [Act.put,zz21,zz22,zz23,i64_w,i32_w]
        rfl
       refine pure_ (i:=22) (N:=some 35) (v:=undef) (a':=?_) #[T,T,T,T,T,T,T,T,T,T,T,T,T,T,T,T,T,T,T,T,T,T,T,F,F,F,F,F,F,F,F,F] rfl rfl (any_of HT_.out (by kernel_rfl)) (fun _ _ _ h=>h) (Or.inr ⟨by rfl,rfl⟩) ?_ ?_
       rotate_left
       ·simp only [Act.put,zz21,zz22,zz23,i64_w,i32_w]
        rfl
       refine pure_ (i:=23) (N:=some 36) (v:=undef) (a':=?_) #[T,T,T,T,T,T,T,T,T,T,T,T,T,T,T,T,T,T,T,T,T,T,T,T,F,F,F,F,F,F,F,F] rfl rfl (any_of HT_.out (by kernel_rfl)) (fun _ _ _ h=>h) (Or.inr ⟨by rfl,rfl⟩) ?_ ?_
       rotate_left
       ·simp only [Act.put,zz21,zz22,zz23,i64_w,i32_w]
        rfl
       refine pure_ (i:=24) (N:=some 37) (v:=undef) (a':=?_) #[T,T,T,T,T,T,T,T,T,T,T,T,T,T,T,T,T,T,T,T,T,T,T,T,T,F,F,F,F,F,F,F] rfl rfl (any_of HT_.out (by kernel_rfl)) (fun _ _ _ h=>h) (Or.inr ⟨by rfl,rfl⟩) ?_ ?_
       rotate_left
       ·simp only [Act.put,zz21,zz22,zz23,i64_w,i32_w]
        rfl
       refine pure_ (i:=25) (N:=some 38) (v:=undef) (a':=?_) #[T,T,T,T,T,T,T,T,T,T,T,T,T,T,T,T,T,T,T,T,T,T,T,T,T,T,F,F,F,F,F,F] rfl rfl (any_of HT_.out (by kernel_rfl)) (fun _ _ _ h=>h) (Or.inr ⟨by rfl,rfl⟩) ?_ ?_
       rotate_left
       ·simp only [Act.put,zz21,zz22,zz23,i64_w,i32_w]
        rfl
       refine pure_ (i:=26) (N:=some 39) (v:=undef) (a':=?_) #[T,T,T,T,T,T,T,T,T,T,T,T,T,T,T,T,T,T,T,T,T,T,T,T,T,T,T,F,F,F,F,F] rfl rfl (any_of HT_.out (by kernel_rfl)) (fun _ _ _ h=>h) (Or.inr ⟨by rfl,rfl⟩) ?_ ?_
       rotate_left
       ·simp only [Act.put,zz21,zz22,zz23,i64_w,i32_w]
        rfl
       refine pure_ (i:=27) (N:=some 40) (v:=undef) (a':=?_) #[T,T,T,T,T,T,T,T,T,T,T,T,T,T,T,T,T,T,T,T,T,T,T,T,T,T,T,T,F,F,F,F] rfl rfl (any_of HT_.out (by kernel_rfl)) (fun _ _ _ h=>h) (Or.inr ⟨by rfl,rfl⟩) ?_ ?_
       rotate_left
       ·simp only [Act.put,zz21,zz22,zz23,i64_w,i32_w]
        rfl
       refine pure_ (i:=28) (N:=some 41) (v:=undef) (a':=?_) #[T,T,T,T,T,T,T,T,T,T,T,T,T,T,T,T,T,T,T,T,T,T,T,T,T,T,T,T,T,F,F,F] rfl rfl (any_of HT_.out (by kernel_rfl)) (fun _ _ _ h=>h) (Or.inr ⟨by rfl,rfl⟩) ?_ ?_
       rotate_left
       ·simp only [Act.put,zz21,zz22,zz23,i64_w,i32_w]
        rfl
       refine pure_ (i:=29) (N:=some 42) (v:=undef) (a':=?_) #[T,T,T,T,T,T,T,T,T,T,T,T,T,T,T,T,T,T,T,T,T,T,T,T,T,T,T,T,T,T,F,F] rfl rfl (any_of HT_.out (by kernel_rfl)) (fun _ _ _ h=>h) (Or.inr ⟨by rfl,rfl⟩) ?_ ?_
       rotate_left
       ·simp only [Act.put,zz21,zz22,zz23,i64_w,i32_w]
        rfl
       refine pure_ (i:=30) (N:=some 43) (v:=undef) (a':=?_) #[T,T,T,T,T,T,T,T,T,T,T,T,T,T,T,T,T,T,T,T,T,T,T,T,T,T,T,T,T,T,T,F] rfl rfl (any_of HT_.out (by kernel_rfl)) (fun _ _ _ h=>h) (Or.inr ⟨by rfl,rfl⟩) ?_ ?_
       rotate_left
       ·simp only [Act.put,zz21,zz22,zz23,i64_w,i32_w]
        rfl
       refine pure_ (i:=31) (N:=some 44) (v:=?_) (a':=?_) #[T,T,T,T,T,T,T,T,T,T,T,T,T,T,T,T,T,T,T,T,T,T,T,T,T,T,T,T,T,T,T,T] rfl rfl (any_of HT_.out (by kernel_rfl)) (fun _ _ _ h=>h) (Or.inl ⟨by rfl,?_⟩) ?_ ?_
       rotate_left
       ·intro w'
        go_simp
        with_reducible rfl
       rotate_left
       ·simp only [Act.put,zz21,zz22,zz23,i64_w,i32_w]
        rfl
       refine done_ (done_of HT_.out (by kernel_rfl)) ?_
       try go_wp2
       go_ret
       exact ⟨by first | rfl | (simp [errW_none,errW_some] <;> rfl) | (simp [*,errW_none,errW_some] <;> rfl),by repeat first | exact HB.out | apply zz2 | apply zz0 | apply zz1 | refine zz3 ?_ GE227.out | refine zz3 ?_ GE229.out⟩
      ·rw [if_neg c7] at H
       have c7b0:decide (((rd_T70 l0_1 x8_1).f0) < 0)=false:=decide_eq_false c7
       clear c7
       by_cases c13:((rd_T70 l0_1 x8_1).f0) ≥ ((rd_T70 l0_1 x8_1).f1)
       ·rw [if_pos c13] at H
        have c13b0:decide (((rd_T70 l0_1 x8_1).f1)≤((rd_T70 l0_1 x8_1).f0))=true:=decide_eq_true c13
        clear c13
        obtain rfl:=Option.some.inj H
        have p228:0≤(x8_1:Int):=zz29 (by first | (with_reducible assumption) | assumption)
        have q228:x8_1 < (l0_1.length:Int):=zz29 (by first | (with_reducible assumption) | assumption)
        obtain ⟨ad228,e228,hx228_0,hx228_1⟩:=at_T70 HR0_1.out x8_1 p228 q228
        cases e228
        try replace hx228_0:=(HB.out.cell (World.block_lt_of_cell? w _ hx228_0)).trans hx228_0
        try replace hx228_1:=(HB.out.cell (World.block_lt_of_cell? w _ hx228_1)).trans hx228_1
        replace p228:=eq_true p228
        replace q228:=eq_true q228
        try go_wp2_with (first | ((with_reducible refine gate_dst (N:=4) rfl ?_);refine box_event ?hg (N:=4) ?hd (cs:=#[.int .i64 0,.int .i64 0]) (t:=70) ?hr ?_;(case hd=>rfl);(case hg=>rfl);(case hr=>first | (go_simp;done) | (go_simp;rfl));intro gb229 hg w14 hbox hb;have n0_:=zz31 (zz11 (g:=gb227) (o:=.cells #[.int .i64 a0_0,.slice (some ad228) l0_1.length c0_1] 30 (0,0)) (by (with_reducible repeat (first | refine zz6 ?_ _ | refine zz7 ?_ | refine zz8 ?_ _));exact BK227.out) hb);have n1_:=zz31 (zz4 (by repeat first | exact HB.out | apply zz2 | apply zz0 | apply zz1 | refine zz3 ?_ GE227.out) hb);have n2_:=zz31 (hbox);have n3_:=zz31 ((by rw [hg];exact (zz5 (by repeat first | exact HB.out | apply zz2 | apply zz0 | apply zz1 | refine zz3 ?_ GE227.out)):w.heap.size≤gb229));have n4_:=zz31 ((by rw [hg];exact (zz5 (by repeat first | exact HB.out | apply zz2 | apply zz0 | apply zz1 | refine zz3 ?_ GE227.out)):w.heap.size≤gb229));have n5_:=zz31 ((by rw [hg];exact Nat.ne_of_lt (blk_lt (g:=gb227) (o:=.cells #[.int .i64 a0_0,.slice (some ad228) l0_1.length c0_1] 30 (0,0)) (by (with_reducible repeat (first | refine zz6 ?_ _ | refine zz7 ?_ | refine zz8 ?_ _));exact BK227.out)):gb227 ≠ gb229));have n6_:=zz31 ((by rw [hg];exact Nat.ne_of_gt (blk_lt (g:=gb227) (o:=.cells #[.int .i64 a0_0,.slice (some ad228) l0_1.length c0_1] 30 (0,0)) (by (with_reducible repeat (first | refine zz6 ?_ _ | refine zz7 ?_ | refine zz8 ?_ _));exact BK227.out)):gb229 ≠ gb227));clear BK227;clear HB;have BK227:=n0_;have HB:=n1_;have BK229:=n2_;have GW229:=n3_;have GE229:=n4_;have NB227_229:=n5_;have NB229_227:=n6_;clear n0_ n1_ n2_ n3_ n4_ n5_ n6_;clear hb hbox hg;have hnb15:=NB229_227.out;have hnc15:=NB227_229.out;have hcz16_0:w14.cell? ⟨gb229,0,none⟩=some (.int .i64 0):=(zz9 BK229.out 0).trans rfl;have hcz16_1:w14.cell? ⟨gb229,1,none⟩=some (.int .i64 0):=(zz9 BK229.out 1).trans rfl;have hfz16_0:=zz10 BK229.out 0;have hfz16_1:=zz10 BK229.out 1))
        have n0_:Aside0 (((w14.setCell ⟨gb229,0,none⟩ (.int .i64 ((rd_T70 l0_1 x8_1).f0))).setCell ⟨gb229,1,none⟩ (.int .i64 ((rd_T70 l0_1 x8_1).f1))).heap[gb227]?=some (.cells #[.int .i64 a0_0,.slice (some ad228) l0_1.length c0_1] 30 (0,0))):=⟨by (with_reducible repeat (first | refine zz6 ?_ _ | refine zz7 ?_ | refine zz8 ?_ _));refine blk_far ?_ NB227_229.out _;(with_reducible repeat (first | refine zz6 ?_ _ | refine zz7 ?_ | refine zz8 ?_ _));refine blk_far ?_ NB227_229.out _;(with_reducible repeat (first | refine zz6 ?_ _ | refine zz7 ?_ | refine zz8 ?_ _));exact BK227.out⟩
        have n1_:Aside0 (((w14.setCell ⟨gb229,0,none⟩ (.int .i64 ((rd_T70 l0_1 x8_1).f0))).setCell ⟨gb229,1,none⟩ (.int .i64 ((rd_T70 l0_1 x8_1).f1))).heap[gb229]?=some (.cells #[.int .i64 ((rd_T70 l0_1 x8_1).f0),.int .i64 ((rd_T70 l0_1 x8_1).f1)] 70 (0,0))):=⟨by (with_reducible repeat (first | refine zz6 ?_ _ | refine zz7 ?_ | refine zz8 ?_ _));refine blk_put (cs:=#[.int .i64 ((rd_T70 l0_1 x8_1).f0),.int .i64 0]) ?_ 1 _ rfl;(with_reducible repeat (first | refine zz6 ?_ _ | refine zz7 ?_ | refine zz8 ?_ _));refine blk_put (cs:=#[.int .i64 0,.int .i64 0]) ?_ 0 _ rfl;(with_reducible repeat (first | refine zz6 ?_ _ | refine zz7 ?_ | refine zz8 ?_ _));exact BK229.out⟩
        have n2_:Aside0 (Below w.heap.size w ((w14.setCell ⟨gb229,0,none⟩ (.int .i64 ((rd_T70 l0_1 x8_1).f0))).setCell ⟨gb229,1,none⟩ (.int .i64 ((rd_T70 l0_1 x8_1).f1)))):=⟨by repeat first | exact HB.out | apply zz2 | apply zz0 | apply zz1 | refine zz3 ?_ GE227.out | refine zz3 ?_ GE229.out⟩
        (try clear BK227)
        (try clear BK229)
        (try clear HB)
        generalize ((w14.setCell ⟨gb229,0,none⟩ (.int .i64 ((rd_T70 l0_1 x8_1).f0))).setCell ⟨gb229,1,none⟩ (.int .i64 ((rd_T70 l0_1 x8_1).f1)))=w17 at n0_ n1_ n2_ ⊢
        have BK227:=n0_
        have BK229:=n1_
        have HB:=n2_
        clear n0_ n1_ n2_
        have n0_:=zz31 (zz7 BK227.out)
        have n1_:=zz31 (zz7 BK229.out)
        have n2_:=zz31 (zz1 HB.out)
        clear BK227
        clear BK229
        clear HB
        have BK227:=n0_
        have BK229:=n1_
        have HB:=n2_
        clear n0_ n1_ n2_
        refine start_ (n:=32) (S:=fun w'=>w'.cell? ⟨gb229,0,none⟩=some (.int .i64 ((rd_T70 l0_1 x8_1).f0))∧w'.cell? ⟨gb229,1,none⟩=some (.int .i64 ((rd_T70 l0_1 x8_1).f1))) (ds:=[]) #[F,F,F,F,F,F,F,F,F,F,F,F,F,F,F,F,F,F,F,F,F,F,F,F,F,F,F,F,F,F,F,F] (by kernel_rfl) rfl rfl ⟨(zz9 BK229.out 0).trans rfl,(zz9 BK229.out 1).trans rfl⟩ (fun hHeld=>?_);refine with_tabW impl_IsParty.tab4 impl_IsParty.bits4 (fun HT_ HW_=>?_)
        generalize w17.drew=w18 at BK227 BK229 HB hHeld ⊢
        refine pure_ (i:=0) (N:=some 13) (v:=?_) (a':=?_) #[T,F,F,F,F,F,F,F,F,F,F,F,F,F,F,F,F,F,F,F,F,F,F,F,F,F,F,F,F,F,F,F] rfl rfl (any_of HT_.out (by kernel_rfl)) (fun _ _ _ h=>h) (Or.inl ⟨by rfl,?_⟩) ?_ ?_
        rotate_left
        ·intro w'
         go_simp
         with_reducible rfl
        rotate_left
        ·simp only [Act.put,zz21,zz22,zz23,i64_w,i32_w]
         rfl
        refine take_ (i:=1) (N:=some 14) (v:=?_) (a':=?_) #[T,T,F,F,F,F,F,F,F,F,F,F,F,F,F,F,F,F,F,F,F,F,F,F,F,F,F,F,F,F,F,F] rfl rfl (take_ofW HT_.out HW_.out (by kernel_rfl)) (fun _ _ _ h=>h) (Or.inl ⟨by rfl,?_⟩) hHeld ?_ ?_
        rotate_left
        ·rintro w' ⟨s0,s1⟩
         go_simp
         with_reducible rfl
        rotate_left
        ·simp only [Act.put,zz21,zz22,zz23,i64_w,i32_w]
         rfl
        refine pure_ (i:=2) (N:=some 15) (v:=?_) (a':=?_) #[T,T,T,F,F,F,F,F,F,F,F,F,F,F,F,F,F,F,F,F,F,F,F,F,F,F,F,F,F,F,F,F] rfl rfl (any_of HT_.out (by kernel_rfl)) (fun _ _ _ h=>h) (Or.inl ⟨by rfl,?_⟩) ?_ ?_
        rotate_left
        ·intro w'
         go_simp
         with_reducible rfl
        rotate_left
        ·simp only [Act.put,zz21,zz22,zz23,i64_w,i32_w]
         rfl
        refine pure_ (i:=3) (N:=some 16) (v:=?_) (a':=?_) #[T,T,T,T,F,F,F,F,F,F,F,F,F,F,F,F,F,F,F,F,F,F,F,F,F,F,F,F,F,F,F,F] rfl rfl (any_of HT_.out (by kernel_rfl)) (fun _ _ _ h=>h) (Or.inl ⟨by rfl,?_⟩) ?_ ?_
        rotate_left
        ·intro w'
         go_simp
         with_reducible rfl
        rotate_left
        ·simp only [Act.put,zz21,zz22,zz23,i64_w,i32_w]
         rfl
        refine pure_ (i:=4) (N:=some 17) (v:=?_) (a':=?_) #[T,T,T,T,T,F,F,F,F,F,F,F,F,F,F,F,F,F,F,F,F,F,F,F,F,F,F,F,F,F,F,F] rfl rfl (any_of HT_.out (by kernel_rfl)) (fun _ _ _ h=>h) (Or.inl ⟨by rfl,?_⟩) ?_ ?_
        rotate_left
        ·intro w'
         go_simp
         with_reducible rfl
        rotate_left
        ·simp only [Act.put,zz21,zz22,zz23,i64_w,i32_w]
         rfl
        refine pure_ (i:=6) (N:=some 19) (v:=?_) (a':=?_) #[T,T,T,T,T,F,T,F,F,F,F,F,F,F,F,F,F,F,F,F,F,F,F,F,F,F,F,F,F,F,F,F] rfl rfl (any_of HT_.out (by kernel_rfl)) (fun _ _ _ h=>h) (Or.inl ⟨by rfl,?_⟩) ?_ ?_
        rotate_left
        ·intro w'
         go_simp
         with_reducible rfl
        rotate_left
        ·simp only [Act.put,zz21,zz22,zz23,i64_w,i32_w]
         rfl
        refine take_ (i:=5) (N:=some 18) (v:=?_) (a':=?_) #[T,T,T,T,T,T,T,F,F,F,F,F,F,F,F,F,F,F,F,F,F,F,F,F,F,F,F,F,F,F,F,F] rfl rfl (take_ofW HT_.out HW_.out (by kernel_rfl)) (fun _ _ _ h=>h) (Or.inl ⟨by rfl,?_⟩) hHeld ?_ ?_
        rotate_left
        ·rintro w' ⟨s0,s1⟩
         go_simp
         with_reducible rfl
        rotate_left
        ·simp only [Act.put,zz21,zz22,zz23,i64_w,i32_w]
         rfl
        refine take_ (i:=7) (N:=some 20) (v:=?_) (a':=?_) #[T,T,T,T,T,T,T,T,F,F,F,F,F,F,F,F,F,F,F,F,F,F,F,F,F,F,F,F,F,F,F,F] rfl rfl (take_ofW HT_.out HW_.out (by kernel_rfl)) (fun _ _ _ h=>h) (Or.inl ⟨by rfl,?_⟩) hHeld ?_ ?_
        rotate_left
        ·rintro w' ⟨s0,s1⟩
         go_simp
         with_reducible rfl
        rotate_left
        ·simp only [Act.put,zz21,zz22,zz23,i64_w,i32_w]
         rfl
        refine pure_ (i:=8) (N:=some 21) (v:=?_) (a':=?_) #[T,T,T,T,T,T,T,T,T,F,F,F,F,F,F,F,F,F,F,F,F,F,F,F,F,F,F,F,F,F,F,F] rfl rfl (any_of HT_.out (by kernel_rfl)) (fun _ _ _ h=>h) (Or.inl ⟨by rfl,?_⟩) ?_ ?_
        rotate_left
        ·intro w'
         go_simp
         with_reducible rfl
        rotate_left
        ·simp only [Act.put,zz21,zz22,zz23,i64_w,i32_w]
         rfl
        refine pure_ (i:=9) (N:=some 22) (v:=?_) (a':=?_) #[T,T,T,T,T,T,T,T,T,T,F,F,F,F,F,F,F,F,F,F,F,F,F,F,F,F,F,F,F,F,F,F] rfl rfl (any_of HT_.out (by kernel_rfl)) (fun _ _ _ h=>h) (Or.inl ⟨by rfl,?_⟩) ?_ ?_
        rotate_left
        ·intro w'
         go_simp
         with_reducible rfl
        rotate_left
        ·simp only [Act.put,zz21,zz22,zz23,i64_w,i32_w]
         rfl
        refine pure_ (i:=10) (N:=some 23) (v:=?_) (a':=?_) #[T,T,T,T,T,T,T,T,T,T,T,F,F,F,F,F,F,F,F,F,F,F,F,F,F,F,F,F,F,F,F,F] rfl rfl (any_of HT_.out (by kernel_rfl)) (fun _ _ _ h=>h) (Or.inl ⟨by rfl,?_⟩) ?_ ?_
        rotate_left
        ·intro w'
         go_simp
         with_reducible rfl
        rotate_left
        ·simp only [Act.put,zz21,zz22,zz23,i64_w,i32_w]
         rfl
        refine pure_ (i:=11) (N:=some 24) (v:=undef) (a':=?_) #[T,T,T,T,T,T,T,T,T,T,T,T,F,F,F,F,F,F,F,F,F,F,F,F,F,F,F,F,F,F,F,F] rfl rfl (any_of HT_.out (by kernel_rfl)) (fun _ _ _ h=>h) (Or.inr ⟨by rfl,rfl⟩) ?_ ?_
        rotate_left
        ·simp only [Act.put,zz21,zz22,zz23,i64_w,i32_w]
         rfl
        refine pure_ (i:=12) (N:=some 25) (v:=undef) (a':=?_) #[T,T,T,T,T,T,T,T,T,T,T,T,T,F,F,F,F,F,F,F,F,F,F,F,F,F,F,F,F,F,F,F] rfl rfl (any_of HT_.out (by kernel_rfl)) (fun _ _ _ h=>h) (Or.inr ⟨by rfl,rfl⟩) ?_ ?_
        rotate_left
        ·simp only [Act.put,zz21,zz22,zz23,i64_w,i32_w]
         rfl
        refine pure_ (i:=13) (N:=some 26) (v:=undef) (a':=?_) #[T,T,T,T,T,T,T,T,T,T,T,T,T,T,F,F,F,F,F,F,F,F,F,F,F,F,F,F,F,F,F,F] rfl rfl (any_of HT_.out (by kernel_rfl)) (fun _ _ _ h=>h) (Or.inr ⟨by rfl,rfl⟩) ?_ ?_
        rotate_left
        ·simp only [Act.put,zz21,zz22,zz23,i64_w,i32_w]
         rfl
        refine pure_ (i:=14) (N:=some 27) (v:=undef) (a':=?_) #[T,T,T,T,T,T,T,T,T,T,T,T,T,T,T,F,F,F,F,F,F,F,F,F,F,F,F,F,F,F,F,F] rfl rfl (any_of HT_.out (by kernel_rfl)) (fun _ _ _ h=>h) (Or.inr ⟨by rfl,rfl⟩) ?_ ?_
        rotate_left
        ·simp only [Act.put,zz21,zz22,zz23,i64_w,i32_w]
         rfl
        refine pure_ (i:=15) (N:=some 28) (v:=undef) (a':=?_) #[T,T,T,T,T,T,T,T,T,T,T,T,T,T,T,T,F,F,F,F,F,F,F,F,F,F,F,F,F,F,F,F] rfl rfl (any_of HT_.out (by kernel_rfl)) (fun _ _ _ h=>h) (Or.inr ⟨by rfl,rfl⟩) ?_ ?_
        rotate_left
        ·simp only [Act.put,zz21,zz22,zz23,i64_w,i32_w]
         rfl
        refine pure_ (i:=16) (N:=some 29) (v:=?_) (a':=?_) #[T,T,T,T,T,T,T,T,T,T,T,T,T,T,T,T,T,F,F,F,F,F,F,F,F,F,F,F,F,F,F,F] rfl rfl (any_of HT_.out (by kernel_rfl)) (fun _ _ _ h=>h) (Or.inl ⟨by rfl,?_⟩) ?_ ?_
        rotate_left
        ·intro w'
         go_simp
         with_reducible rfl
        rotate_left
        ·simp only [Act.put,zz21,zz22,zz23,i64_w,i32_w]
         rfl
        refine pure_ (i:=17) (N:=some 30) (v:=?_) (a':=?_) #[T,T,T,T,T,T,T,T,T,T,T,T,T,T,T,T,T,T,F,F,F,F,F,F,F,F,F,F,F,F,F,F] rfl rfl (any_of HT_.out (by kernel_rfl)) (fun _ _ _ h=>h) (Or.inl ⟨by rfl,?_⟩) ?_ ?_
        rotate_left
        ·intro w'
         go_simp
         with_reducible rfl
        rotate_left
        ·simp only [Act.put,zz21,zz22,zz23,i64_w,i32_w]
         rfl
        refine pure_ (i:=18) (N:=some 31) (v:=undef) (a':=?_) #[T,T,T,T,T,T,T,T,T,T,T,T,T,T,T,T,T,T,T,F,F,F,F,F,F,F,F,F,F,F,F,F] rfl rfl (any_of HT_.out (by kernel_rfl)) (fun _ _ _ h=>h) (Or.inr ⟨by rfl,rfl⟩) ?_ ?_
        rotate_left
        ·simp only [Act.put,zz21,zz22,zz23,i64_w,i32_w]
         rfl
        refine pure_ (i:=19) (N:=some 32) (v:=undef) (a':=?_) #[T,T,T,T,T,T,T,T,T,T,T,T,T,T,T,T,T,T,T,T,F,F,F,F,F,F,F,F,F,F,F,F] rfl rfl (any_of HT_.out (by kernel_rfl)) (fun _ _ _ h=>h) (Or.inr ⟨by rfl,rfl⟩) ?_ ?_
        rotate_left
        ·simp only [Act.put,zz21,zz22,zz23,i64_w,i32_w]
         rfl
        refine pure_ (i:=20) (N:=some 33) (v:=undef) (a':=?_) #[T,T,T,T,T,T,T,T,T,T,T,T,T,T,T,T,T,T,T,T,T,F,F,F,F,F,F,F,F,F,F,F] rfl rfl (any_of HT_.out (by kernel_rfl)) (fun _ _ _ h=>h) (Or.inr ⟨by rfl,rfl⟩) ?_ ?_
        rotate_left
        ·simp only [Act.put,zz21,zz22,zz23,i64_w,i32_w]
         rfl
        refine pure_ (i:=21) (N:=some 34) (v:=undef) (a':=?_) #[T,T,T,T,T,T,T,T,T,T,T,T,T,T,T,T,T,T,T,T,T,T,F,F,F,F,F,F,F,F,F,F] rfl rfl (any_of HT_.out (by kernel_rfl)) (fun _ _ _ h=>h) (Or.inr ⟨by rfl,rfl⟩) ?_ ?_
        rotate_left
        ·simp only [Act.put,zz21,zz22,zz23,i64_w,i32_w]
         rfl
        refine pure_ (i:=22) (N:=some 35) (v:=undef) (a':=?_) #[T,T,T,T,T,T,T,T,T,T,T,T,T,T,T,T,T,T,T,T,T,T,T,F,F,F,F,F,F,F,F,F] rfl rfl (any_of HT_.out (by kernel_rfl)) (fun _ _ _ h=>h) (Or.inr ⟨by rfl,rfl⟩) ?_ ?_
        rotate_left
        ·simp only [Act.put,zz21,zz22,zz23,i64_w,i32_w]
         rfl
        refine pure_ (i:=23) (N:=some 36) (v:=undef) (a':=?_) #[T,T,T,T,T,T,T,T,T,T,T,T,T,T,T,T,T,T,T,T,T,T,T,T,F,F,F,F,F,F,F,F] rfl rfl (any_of HT_.out (by kernel_rfl)) (fun _ _ _ h=>h) (Or.inr ⟨by rfl,rfl⟩) ?_ ?_
        rotate_left
        ·simp only [Act.put,zz21,zz22,zz23,i64_w,i32_w]
         rfl
        refine pure_ (i:=24) (N:=some 37) (v:=undef) (a':=?_) #[T,T,T,T,T,T,T,T,T,T,T,T,T,T,T,T,T,T,T,T,T,T,T,T,T,F,F,F,F,F,F,F] rfl rfl (any_of HT_.out (by kernel_rfl)) (fun _ _ _ h=>h) (Or.inr ⟨by rfl,rfl⟩) ?_ ?_
        rotate_left
        ·simp only [Act.put,zz21,zz22,zz23,i64_w,i32_w]
         rfl
        refine pure_ (i:=25) (N:=some 38) (v:=undef) (a':=?_) #[T,T,T,T,T,T,T,T,T,T,T,T,T,T,T,T,T,T,T,T,T,T,T,T,T,T,F,F,F,F,F,F] rfl rfl (any_of HT_.out (by kernel_rfl)) (fun _ _ _ h=>h) (Or.inr ⟨by rfl,rfl⟩) ?_ ?_
        rotate_left
        ·simp only [Act.put,zz21,zz22,zz23,i64_w,i32_w]
         rfl
        refine pure_ (i:=26) (N:=some 39) (v:=undef) (a':=?_) #[T,T,T,T,T,T,T,T,T,T,T,T,T,T,T,T,T,T,T,T,T,T,T,T,T,T,T,F,F,F,F,F] rfl rfl (any_of HT_.out (by kernel_rfl)) (fun _ _ _ h=>h) (Or.inr ⟨by rfl,rfl⟩) ?_ ?_
        rotate_left
        ·simp only [Act.put,zz21,zz22,zz23,i64_w,i32_w]
         rfl
        refine pure_ (i:=27) (N:=some 40) (v:=undef) (a':=?_) #[T,T,T,T,T,T,T,T,T,T,T,T,T,T,T,T,T,T,T,T,T,T,T,T,T,T,T,T,F,F,F,F] rfl rfl (any_of HT_.out (by kernel_rfl)) (fun _ _ _ h=>h) (Or.inr ⟨by rfl,rfl⟩) ?_ ?_
        rotate_left
        ·simp only [Act.put,zz21,zz22,zz23,i64_w,i32_w]
         rfl
        refine pure_ (i:=28) (N:=some 41) (v:=undef) (a':=?_) #[T,T,T,T,T,T,T,T,T,T,T,T,T,T,T,T,T,T,T,T,T,T,T,T,T,T,T,T,T,F,F,F] rfl rfl (any_of HT_.out (by kernel_rfl)) (fun _ _ _ h=>h) (Or.inr ⟨by rfl,rfl⟩) ?_ ?_
        rotate_left
        ·simp only [Act.put,zz21,zz22,zz23,i64_w,i32_w]
         rfl
        refine pure_ (i:=29) (N:=some 42) (v:=undef) (a':=?_) #[T,T,T,T,T,T,T,T,T,T,T,T,T,T,T,T,T,T,T,T,T,T,T,T,T,T,T,T,T,T,F,F] rfl rfl (any_of HT_.out (by kernel_rfl)) (fun _ _ _ h=>h) (Or.inr ⟨by rfl,rfl⟩) ?_ ?_
        rotate_left
        ·simp only [Act.put,zz21,zz22,zz23,i64_w,i32_w]
         rfl
        refine pure_ (i:=30) (N:=some 43) (v:=undef) (a':=?_) #[T,T,T,T,T,T,T,T,T,T,T,T,T,T,T,T,T,T,T,T,T,T,T,T,T,T,T,T,T,T,T,F] rfl rfl (any_of HT_.out (by kernel_rfl)) (fun _ _ _ h=>h) (Or.inr ⟨by rfl,rfl⟩) ?_ ?_
        rotate_left
        ·simp only [Act.put,zz21,zz22,zz23,i64_w,i32_w]
         rfl
        refine pure_ (i:=31) (N:=some 44) (v:=?_) (a':=?_) #[T,T,T,T,T,T,T,T,T,T,T,T,T,T,T,T,T,T,T,T,T,T,T,T,T,T,T,T,T,T,T,T] rfl rfl (any_of HT_.out (by kernel_rfl)) (fun _ _ _ h=>h) (Or.inl ⟨by rfl,?_⟩) ?_ ?_
        rotate_left
        ·intro w'
         go_simp
         with_reducible rfl
        rotate_left
        ·simp only [Act.put,zz21,zz22,zz23,i64_w,i32_w]
         rfl
        refine done_ (done_of HT_.out (by kernel_rfl)) ?_
        try go_wp2
        go_ret
        exact ⟨by first | rfl | (simp [errW_none,errW_some] <;> rfl) | (simp [*,errW_none,errW_some] <;> rfl),by repeat first | exact HB.out | apply zz2 | apply zz0 | apply zz1 | refine zz3 ?_ GE227.out | refine zz3 ?_ GE229.out⟩
       ·rw [if_neg c13] at H
        have c13b0:decide (((rd_T70 l0_1 x8_1).f1)≤((rd_T70 l0_1 x8_1).f0))=false:=decide_eq_false c13
        clear c13
        by_cases c19:((rd_T70 l0_1 x8_1).f1) ≥ a0_0
        ·rw [if_pos c19] at H
         have c19b0:decide (a0_0≤((rd_T70 l0_1 x8_1).f1))=true:=decide_eq_true c19
         clear c19
         obtain rfl:=Option.some.inj H
         have p228:0≤(x8_1:Int):=zz29 (by first | (with_reducible assumption) | assumption)
         have q228:x8_1 < (l0_1.length:Int):=zz29 (by first | (with_reducible assumption) | assumption)
         obtain ⟨ad228,e228,hx228_0,hx228_1⟩:=at_T70 HR0_1.out x8_1 p228 q228
         cases e228
         try replace hx228_0:=(HB.out.cell (World.block_lt_of_cell? w _ hx228_0)).trans hx228_0
         try replace hx228_1:=(HB.out.cell (World.block_lt_of_cell? w _ hx228_1)).trans hx228_1
         replace p228:=eq_true p228
         replace q228:=eq_true q228
         try go_wp2_with (first | ((with_reducible refine gate_dst (N:=4) rfl ?_);refine box_event ?hg (N:=4) ?hd (cs:=#[.int .i64 0,.int .i64 0]) (t:=70) ?hr ?_;(case hd=>rfl);(case hg=>rfl);(case hr=>first | (go_simp;done) | (go_simp;rfl));intro gb229 hg w20 hbox hb;have n0_:=zz31 (zz11 (g:=gb227) (o:=.cells #[.int .i64 a0_0,.slice (some ad228) l0_1.length c0_1] 30 (0,0)) (by (with_reducible repeat (first | refine zz6 ?_ _ | refine zz7 ?_ | refine zz8 ?_ _));exact BK227.out) hb);have n1_:=zz31 (zz4 (by repeat first | exact HB.out | apply zz2 | apply zz0 | apply zz1 | refine zz3 ?_ GE227.out) hb);have n2_:=zz31 (hbox);have n3_:=zz31 ((by rw [hg];exact (zz5 (by repeat first | exact HB.out | apply zz2 | apply zz0 | apply zz1 | refine zz3 ?_ GE227.out)):w.heap.size≤gb229));have n4_:=zz31 ((by rw [hg];exact (zz5 (by repeat first | exact HB.out | apply zz2 | apply zz0 | apply zz1 | refine zz3 ?_ GE227.out)):w.heap.size≤gb229));have n5_:=zz31 ((by rw [hg];exact Nat.ne_of_lt (blk_lt (g:=gb227) (o:=.cells #[.int .i64 a0_0,.slice (some ad228) l0_1.length c0_1] 30 (0,0)) (by (with_reducible repeat (first | refine zz6 ?_ _ | refine zz7 ?_ | refine zz8 ?_ _));exact BK227.out)):gb227 ≠ gb229));have n6_:=zz31 ((by rw [hg];exact Nat.ne_of_gt (blk_lt (g:=gb227) (o:=.cells #[.int .i64 a0_0,.slice (some ad228) l0_1.length c0_1] 30 (0,0)) (by (with_reducible repeat (first | refine zz6 ?_ _ | refine zz7 ?_ | refine zz8 ?_ _));exact BK227.out)):gb229 ≠ gb227));clear BK227;clear HB;have BK227:=n0_;have HB:=n1_;have BK229:=n2_;have GW229:=n3_;have GE229:=n4_;have NB227_229:=n5_;have NB229_227:=n6_;clear n0_ n1_ n2_ n3_ n4_ n5_ n6_;clear hb hbox hg;have hnb21:=NB229_227.out;have hnc21:=NB227_229.out;have hcz22_0:w20.cell? ⟨gb229,0,none⟩=some (.int .i64 0):=(zz9 BK229.out 0).trans rfl;have hcz22_1:w20.cell? ⟨gb229,1,none⟩=some (.int .i64 0):=(zz9 BK229.out 1).trans rfl;have hfz22_0:=zz10 BK229.out 0;have hfz22_1:=zz10 BK229.out 1))
         have n0_:Aside0 (((w20.setCell ⟨gb229,0,none⟩ (.int .i64 ((rd_T70 l0_1 x8_1).f0))).setCell ⟨gb229,1,none⟩ (.int .i64 ((rd_T70 l0_1 x8_1).f1))).heap[gb227]?=some (.cells #[.int .i64 a0_0,.slice (some ad228) l0_1.length c0_1] 30 (0,0))):=⟨by (with_reducible repeat (first | refine zz6 ?_ _ | refine zz7 ?_ | refine zz8 ?_ _));refine blk_far ?_ NB227_229.out _;(with_reducible repeat (first | refine zz6 ?_ _ | refine zz7 ?_ | refine zz8 ?_ _));refine blk_far ?_ NB227_229.out _;(with_reducible repeat (first | refine zz6 ?_ _ | refine zz7 ?_ | refine zz8 ?_ _));exact BK227.out⟩
         have n1_:Aside0 (((w20.setCell ⟨gb229,0,none⟩ (.int .i64 ((rd_T70 l0_1 x8_1).f0))).setCell ⟨gb229,1,none⟩ (.int .i64 ((rd_T70 l0_1 x8_1).f1))).heap[gb229]?=some (.cells #[.int .i64 ((rd_T70 l0_1 x8_1).f0),.int .i64 ((rd_T70 l0_1 x8_1).f1)] 70 (0,0))):=⟨by (with_reducible repeat (first | refine zz6 ?_ _ | refine zz7 ?_ | refine zz8 ?_ _));refine blk_put (cs:=#[.int .i64 ((rd_T70 l0_1 x8_1).f0),.int .i64 0]) ?_ 1 _ rfl;(with_reducible repeat (first | refine zz6 ?_ _ | refine zz7 ?_ | refine zz8 ?_ _));refine blk_put (cs:=#[.int .i64 0,.int .i64 0]) ?_ 0 _ rfl;(with_reducible repeat (first | refine zz6 ?_ _ | refine zz7 ?_ | refine zz8 ?_ _));exact BK229.out⟩
         have n2_:Aside0 (Below w.heap.size w ((w20.setCell ⟨gb229,0,none⟩ (.int .i64 ((rd_T70 l0_1 x8_1).f0))).setCell ⟨gb229,1,none⟩ (.int .i64 ((rd_T70 l0_1 x8_1).f1)))):=⟨by repeat first | exact HB.out | apply zz2 | apply zz0 | apply zz1 | refine zz3 ?_ GE227.out | refine zz3 ?_ GE229.out⟩
         (try clear BK227)
         (try clear BK229)
         (try clear HB)
         generalize ((w20.setCell ⟨gb229,0,none⟩ (.int .i64 ((rd_T70 l0_1 x8_1).f0))).setCell ⟨gb229,1,none⟩ (.int .i64 ((rd_T70 l0_1 x8_1).f1)))=w23 at n0_ n1_ n2_ ⊢
         have BK227:=n0_
         have BK229:=n1_
         have HB:=n2_
         clear n0_ n1_ n2_
         have n0_:=zz31 (zz7 BK227.out)
         have n1_:=zz31 (zz7 BK229.out)
         have n2_:=zz31 (zz1 HB.out)
         clear BK227
         clear BK229
         clear HB
         have BK227:=n0_
         have BK229:=n1_
         have HB:=n2_
         clear n0_ n1_ n2_
         refine start_ (n:=32) (S:=fun w'=>w'.cell? ⟨gb229,0,none⟩=some (.int .i64 ((rd_T70 l0_1 x8_1).f0))∧w'.cell? ⟨gb229,1,none⟩=some (.int .i64 ((rd_T70 l0_1 x8_1).f1))∧w'.cell? ⟨gb227,0,none⟩=some (.int .i64 a0_0)∧w'.cell? ⟨gb227,1,none⟩=some (.slice (some ad228) l0_1.length c0_1)) (ds:=[]) #[F,F,F,F,F,F,F,F,F,F,F,F,F,F,F,F,F,F,F,F,F,F,F,F,F,F,F,F,F,F,F,F] (by kernel_rfl) rfl rfl ⟨(zz9 BK229.out 0).trans rfl,(zz9 BK229.out 1).trans rfl,(zz9 BK227.out 0).trans rfl,(zz9 BK227.out 1).trans rfl⟩ (fun hHeld=>?_);refine with_tabW impl_IsParty.tab4 impl_IsParty.bits4 (fun HT_ HW_=>?_)
         generalize w23.drew=w24 at BK227 BK229 HB hHeld ⊢
         refine pure_ (i:=0) (N:=some 13) (v:=?_) (a':=?_) #[T,F,F,F,F,F,F,F,F,F,F,F,F,F,F,F,F,F,F,F,F,F,F,F,F,F,F,F,F,F,F,F] rfl rfl (any_of HT_.out (by kernel_rfl)) (fun _ _ _ h=>h) (Or.inl ⟨by rfl,?_⟩) ?_ ?_
         rotate_left
         ·intro w'
          go_simp
          with_reducible rfl
         rotate_left
         ·simp only [Act.put,zz21,zz22,zz23,i64_w,i32_w]
          rfl
         refine take_ (i:=1) (N:=some 14) (v:=?_) (a':=?_) #[T,T,F,F,F,F,F,F,F,F,F,F,F,F,F,F,F,F,F,F,F,F,F,F,F,F,F,F,F,F,F,F] rfl rfl (take_ofW HT_.out HW_.out (by kernel_rfl)) (fun _ _ _ h=>h) (Or.inl ⟨by rfl,?_⟩) hHeld ?_ ?_
         rotate_left
         ·rintro w' ⟨s0,s1,s2,s3⟩
          go_simp
          with_reducible rfl
         rotate_left
         ·simp only [Act.put,zz21,zz22,zz23,i64_w,i32_w]
          rfl
         refine pure_ (i:=2) (N:=some 15) (v:=?_) (a':=?_) #[T,T,T,F,F,F,F,F,F,F,F,F,F,F,F,F,F,F,F,F,F,F,F,F,F,F,F,F,F,F,F,F] rfl rfl (any_of HT_.out (by kernel_rfl)) (fun _ _ _ h=>h) (Or.inl ⟨by rfl,?_⟩) ?_ ?_
         rotate_left
         ·intro w'
          go_simp
          with_reducible rfl
         rotate_left
         ·simp only [Act.put,zz21,zz22,zz23,i64_w,i32_w]
          rfl
         refine pure_ (i:=3) (N:=some 16) (v:=?_) (a':=?_) #[T,T,T,T,F,F,F,F,F,F,F,F,F,F,F,F,F,F,F,F,F,F,F,F,F,F,F,F,F,F,F,F] rfl rfl (any_of HT_.out (by kernel_rfl)) (fun _ _ _ h=>h) (Or.inl ⟨by rfl,?_⟩) ?_ ?_
         rotate_left
         ·intro w'
          go_simp
          with_reducible rfl
         rotate_left
         ·simp only [Act.put,zz21,zz22,zz23,i64_w,i32_w]
          rfl
         refine pure_ (i:=4) (N:=some 17) (v:=?_) (a':=?_) #[T,T,T,T,T,F,F,F,F,F,F,F,F,F,F,F,F,F,F,F,F,F,F,F,F,F,F,F,F,F,F,F] rfl rfl (any_of HT_.out (by kernel_rfl)) (fun _ _ _ h=>h) (Or.inl ⟨by rfl,?_⟩) ?_ ?_
         rotate_left
         ·intro w'
          go_simp
          with_reducible rfl
         rotate_left
         ·simp only [Act.put,zz21,zz22,zz23,i64_w,i32_w]
          rfl
         refine pure_ (i:=6) (N:=some 19) (v:=?_) (a':=?_) #[T,T,T,T,T,F,T,F,F,F,F,F,F,F,F,F,F,F,F,F,F,F,F,F,F,F,F,F,F,F,F,F] rfl rfl (any_of HT_.out (by kernel_rfl)) (fun _ _ _ h=>h) (Or.inl ⟨by rfl,?_⟩) ?_ ?_
         rotate_left
         ·intro w'
          go_simp
          with_reducible rfl
         rotate_left
         ·simp only [Act.put,zz21,zz22,zz23,i64_w,i32_w]
          rfl
         refine take_ (i:=5) (N:=some 18) (v:=?_) (a':=?_) #[T,T,T,T,T,T,T,F,F,F,F,F,F,F,F,F,F,F,F,F,F,F,F,F,F,F,F,F,F,F,F,F] rfl rfl (take_ofW HT_.out HW_.out (by kernel_rfl)) (fun _ _ _ h=>h) (Or.inl ⟨by rfl,?_⟩) hHeld ?_ ?_
         rotate_left
         ·rintro w' ⟨s0,s1,s2,s3⟩
          go_simp
          with_reducible rfl
         rotate_left
         ·simp only [Act.put,zz21,zz22,zz23,i64_w,i32_w]
          rfl
         refine take_ (i:=7) (N:=some 20) (v:=?_) (a':=?_) #[T,T,T,T,T,T,T,T,F,F,F,F,F,F,F,F,F,F,F,F,F,F,F,F,F,F,F,F,F,F,F,F] rfl rfl (take_ofW HT_.out HW_.out (by kernel_rfl)) (fun _ _ _ h=>h) (Or.inl ⟨by rfl,?_⟩) hHeld ?_ ?_
         rotate_left
         ·rintro w' ⟨s0,s1,s2,s3⟩
          go_simp
          with_reducible rfl
         rotate_left
         ·simp only [Act.put,zz21,zz22,zz23,i64_w,i32_w]
          rfl
         refine pure_ (i:=8) (N:=some 21) (v:=?_) (a':=?_) #[T,T,T,T,T,T,T,T,T,F,F,F,F,F,F,F,F,F,F,F,F,F,F,F,F,F,F,F,F,F,F,F] rfl rfl (any_of HT_.out (by kernel_rfl)) (fun _ _ _ h=>h) (Or.inl ⟨by rfl,?_⟩) ?_ ?_
         rotate_left
         ·intro w'
          go_simp
          with_reducible rfl
         rotate_left
         ·simp only [Act.put,zz21,zz22,zz23,i64_w,i32_w]
          rfl
         refine pure_ (i:=9) (N:=some 22) (v:=?_) (a':=?_) #[T,T,T,T,T,T,T,T,T,T,F,F,F,F,F,F,F,F,F,F,F,F,F,F,F,F,F,F,F,F,F,F] rfl rfl (any_of HT_.out (by kernel_rfl)) (fun _ _ _ h=>h) (Or.inl ⟨by rfl,?_⟩) ?_ ?_
         rotate_left
         ·intro w'
          go_simp
          with_reducible rfl
         rotate_left
         ·simp only [Act.put,zz21,zz22,zz23,i64_w,i32_w]
          rfl
         refine pure_ (i:=10) (N:=some 23) (v:=?_) (a':=?_) #[T,T,T,T,T,T,T,T,T,T,T,F,F,F,F,F,F,F,F,F,F,F,F,F,F,F,F,F,F,F,F,F] rfl rfl (any_of HT_.out (by kernel_rfl)) (fun _ _ _ h=>h) (Or.inl ⟨by rfl,?_⟩) ?_ ?_
         rotate_left
         ·intro w'
          go_simp
          with_reducible rfl
         rotate_left
         ·simp only [Act.put,zz21,zz22,zz23,i64_w,i32_w]
          rfl
         refine pure_ (i:=11) (N:=some 24) (v:=?_) (a':=?_) #[T,T,T,T,T,T,T,T,T,T,T,T,F,F,F,F,F,F,F,F,F,F,F,F,F,F,F,F,F,F,F,F] rfl rfl (any_of HT_.out (by kernel_rfl)) (fun _ _ _ h=>h) (Or.inl ⟨by rfl,?_⟩) ?_ ?_
         rotate_left
         ·intro w'
          go_simp
          with_reducible rfl
         rotate_left
         ·simp only [Act.put,zz21,zz22,zz23,i64_w,i32_w]
          rfl
         refine pure_ (i:=13) (N:=some 26) (v:=?_) (a':=?_) #[T,T,T,T,T,T,T,T,T,T,T,T,F,T,F,F,F,F,F,F,F,F,F,F,F,F,F,F,F,F,F,F] rfl rfl (any_of HT_.out (by kernel_rfl)) (fun _ _ _ h=>h) (Or.inl ⟨by rfl,?_⟩) ?_ ?_
         rotate_left
         ·intro w'
          go_simp
          with_reducible rfl
         rotate_left
         ·simp only [Act.put,zz21,zz22,zz23,i64_w,i32_w]
          rfl
         refine take_ (i:=12) (N:=some 25) (v:=?_) (a':=?_) #[T,T,T,T,T,T,T,T,T,T,T,T,T,T,F,F,F,F,F,F,F,F,F,F,F,F,F,F,F,F,F,F] rfl rfl (take_ofW HT_.out HW_.out (by kernel_rfl)) (fun _ _ _ h=>h) (Or.inl ⟨by rfl,?_⟩) hHeld ?_ ?_
         rotate_left
         ·rintro w' ⟨s0,s1,s2,s3⟩
          go_simp
          with_reducible rfl
         rotate_left
         ·simp only [Act.put,zz21,zz22,zz23,i64_w,i32_w]
          rfl
         refine take_ (i:=14) (N:=some 27) (v:=?_) (a':=?_) #[T,T,T,T,T,T,T,T,T,T,T,T,T,T,T,F,F,F,F,F,F,F,F,F,F,F,F,F,F,F,F,F] rfl rfl (take_ofW HT_.out HW_.out (by kernel_rfl)) (fun _ _ _ h=>h) (Or.inl ⟨by rfl,?_⟩) hHeld ?_ ?_
         rotate_left
         ·rintro w' ⟨s0,s1,s2,s3⟩
          go_simp
          with_reducible rfl
         rotate_left
         ·simp only [Act.put,zz21,zz22,zz23,i64_w,i32_w]
          rfl
         refine pure_ (i:=15) (N:=some 28) (v:=?_) (a':=?_) #[T,T,T,T,T,T,T,T,T,T,T,T,T,T,T,T,F,F,F,F,F,F,F,F,F,F,F,F,F,F,F,F] rfl rfl (any_of HT_.out (by kernel_rfl)) (fun _ _ _ h=>h) (Or.inl ⟨by rfl,?_⟩) ?_ ?_
         rotate_left
         ·intro w'
          go_simp
          with_reducible rfl
         rotate_left
         ·simp only [Act.put,zz21,zz22,zz23,i64_w,i32_w]
          rfl
         refine pure_ (i:=16) (N:=some 29) (v:=?_) (a':=?_) #[T,T,T,T,T,T,T,T,T,T,T,T,T,T,T,T,T,F,F,F,F,F,F,F,F,F,F,F,F,F,F,F] rfl rfl (any_of HT_.out (by kernel_rfl)) (fun _ _ _ h=>h) (Or.inl ⟨by rfl,?_⟩) ?_ ?_
         rotate_left
         ·intro w'
          go_simp
          with_reducible rfl
         rotate_left
         ·simp only [Act.put,zz21,zz22,zz23,i64_w,i32_w]
          rfl
         refine pure_ (i:=17) (N:=some 30) (v:=?_) (a':=?_) #[T,T,T,T,T,T,T,T,T,T,T,T,T,T,T,T,T,T,F,F,F,F,F,F,F,F,F,F,F,F,F,F] rfl rfl (any_of HT_.out (by kernel_rfl)) (fun _ _ _ h=>h) (Or.inl ⟨by rfl,?_⟩) ?_ ?_
         rotate_left
         ·intro w'
          go_simp
          with_reducible rfl
         rotate_left
         ·simp only [Act.put,zz21,zz22,zz23,i64_w,i32_w]
          rfl
         refine pure_ (i:=18) (N:=some 31) (v:=undef) (a':=?_) #[T,T,T,T,T,T,T,T,T,T,T,T,T,T,T,T,T,T,T,F,F,F,F,F,F,F,F,F,F,F,F,F] rfl rfl (any_of HT_.out (by kernel_rfl)) (fun _ _ _ h=>h) (Or.inr ⟨by rfl,rfl⟩) ?_ ?_
         rotate_left
         ·simp only [Act.put,zz21,zz22,zz23,i64_w,i32_w]
          rfl
         refine pure_ (i:=19) (N:=some 32) (v:=undef) (a':=?_) #[T,T,T,T,T,T,T,T,T,T,T,T,T,T,T,T,T,T,T,T,F,F,F,F,F,F,F,F,F,F,F,F] rfl rfl (any_of HT_.out (by kernel_rfl)) (fun _ _ _ h=>h) (Or.inr ⟨by rfl,rfl⟩) ?_ ?_
         rotate_left
         ·simp only [Act.put,zz21,zz22,zz23,i64_w,i32_w]
          rfl
         refine pure_ (i:=20) (N:=some 33) (v:=undef) (a':=?_) #[T,T,T,T,T,T,T,T,T,T,T,T,T,T,T,T,T,T,T,T,T,F,F,F,F,F,F,F,F,F,F,F] rfl rfl (any_of HT_.out (by kernel_rfl)) (fun _ _ _ h=>h) (Or.inr ⟨by rfl,rfl⟩) ?_ ?_
         rotate_left
         ·simp only [Act.put,zz21,zz22,zz23,i64_w,i32_w]
          rfl
         refine pure_ (i:=21) (N:=some 34) (v:=undef) (a':=?_) #[T,T,T,T,T,T,T,T,T,T,T,T,T,T,T,T,T,T,T,T,T,T,F,F,F,F,F,F,F,F,F,F] rfl rfl (any_of HT_.out (by kernel_rfl)) (fun _ _ _ h=>h) (Or.inr ⟨by rfl,rfl⟩) ?_ ?_
         rotate_left
         ·simp only [Act.put,zz21,zz22,zz23,i64_w,i32_w]
          rfl
         refine pure_ (i:=22) (N:=some 35) (v:=undef) (a':=?_) #[T,T,T,T,T,T,T,T,T,T,T,T,T,T,T,T,T,T,T,T,T,T,T,F,F,F,F,F,F,F,F,F] rfl rfl (any_of HT_.out (by kernel_rfl)) (fun _ _ _ h=>h) (Or.inr ⟨by rfl,rfl⟩) ?_ ?_
         rotate_left
         ·simp only [Act.put,zz21,zz22,zz23,i64_w,i32_w]
          rfl
         refine pure_ (i:=23) (N:=some 36) (v:=undef) (a':=?_) #[T,T,T,T,T,T,T,T,T,T,T,T,T,T,T,T,T,T,T,T,T,T,T,T,F,F,F,F,F,F,F,F] rfl rfl (any_of HT_.out (by kernel_rfl)) (fun _ _ _ h=>h) (Or.inr ⟨by rfl,rfl⟩) ?_ ?_
         rotate_left
         ·simp only [Act.put,zz21,zz22,zz23,i64_w,i32_w]
          rfl
         refine pure_ (i:=24) (N:=some 37) (v:=undef) (a':=?_) #[T,T,T,T,T,T,T,T,T,T,T,T,T,T,T,T,T,T,T,T,T,T,T,T,T,F,F,F,F,F,F,F] rfl rfl (any_of HT_.out (by kernel_rfl)) (fun _ _ _ h=>h) (Or.inr ⟨by rfl,rfl⟩) ?_ ?_
         rotate_left
         ·simp only [Act.put,zz21,zz22,zz23,i64_w,i32_w]
          rfl
         refine pure_ (i:=25) (N:=some 38) (v:=undef) (a':=?_) #[T,T,T,T,T,T,T,T,T,T,T,T,T,T,T,T,T,T,T,T,T,T,T,T,T,T,F,F,F,F,F,F] rfl rfl (any_of HT_.out (by kernel_rfl)) (fun _ _ _ h=>h) (Or.inr ⟨by rfl,rfl⟩) ?_ ?_
         rotate_left
         ·simp only [Act.put,zz21,zz22,zz23,i64_w,i32_w]
          rfl
         refine pure_ (i:=26) (N:=some 39) (v:=undef) (a':=?_) #[T,T,T,T,T,T,T,T,T,T,T,T,T,T,T,T,T,T,T,T,T,T,T,T,T,T,T,F,F,F,F,F] rfl rfl (any_of HT_.out (by kernel_rfl)) (fun _ _ _ h=>h) (Or.inr ⟨by rfl,rfl⟩) ?_ ?_
         rotate_left
         ·simp only [Act.put,zz21,zz22,zz23,i64_w,i32_w]
          rfl
         refine pure_ (i:=27) (N:=some 40) (v:=undef) (a':=?_) #[T,T,T,T,T,T,T,T,T,T,T,T,T,T,T,T,T,T,T,T,T,T,T,T,T,T,T,T,F,F,F,F] rfl rfl (any_of HT_.out (by kernel_rfl)) (fun _ _ _ h=>h) (Or.inr ⟨by rfl,rfl⟩) ?_ ?_
         rotate_left
         ·simp only [Act.put,zz21,zz22,zz23,i64_w,i32_w]
          rfl
         refine pure_ (i:=28) (N:=some 41) (v:=undef) (a':=?_) #[T,T,T,T,T,T,T,T,T,T,T,T,T,T,T,T,T,T,T,T,T,T,T,T,T,T,T,T,T,F,F,F] rfl rfl (any_of HT_.out (by kernel_rfl)) (fun _ _ _ h=>h) (Or.inr ⟨by rfl,rfl⟩) ?_ ?_
         rotate_left
         ·simp only [Act.put,zz21,zz22,zz23,i64_w,i32_w]
          rfl
         refine pure_ (i:=29) (N:=some 42) (v:=undef) (a':=?_) #[T,T,T,T,T,T,T,T,T,T,T,T,T,T,T,T,T,T,T,T,T,T,T,T,T,T,T,T,T,T,F,F] rfl rfl (any_of HT_.out (by kernel_rfl)) (fun _ _ _ h=>h) (Or.inr ⟨by rfl,rfl⟩) ?_ ?_
         rotate_left
         ·simp only [Act.put,zz21,zz22,zz23,i64_w,i32_w]
          rfl
         refine pure_ (i:=30) (N:=some 43) (v:=undef) (a':=?_) #[T,T,T,T,T,T,T,T,T,T,T,T,T,T,T,T,T,T,T,T,T,T,T,T,T,T,T,T,T,T,T,F] rfl rfl (any_of HT_.out (by kernel_rfl)) (fun _ _ _ h=>h) (Or.inr ⟨by rfl,rfl⟩) ?_ ?_
         rotate_left
         ·simp only [Act.put,zz21,zz22,zz23,i64_w,i32_w]
          rfl
         refine pure_ (i:=31) (N:=some 44) (v:=?_) (a':=?_) #[T,T,T,T,T,T,T,T,T,T,T,T,T,T,T,T,T,T,T,T,T,T,T,T,T,T,T,T,T,T,T,T] rfl rfl (any_of HT_.out (by kernel_rfl)) (fun _ _ _ h=>h) (Or.inl ⟨by rfl,?_⟩) ?_ ?_
         rotate_left
         ·intro w'
          go_simp
          with_reducible rfl
         rotate_left
         ·simp only [Act.put,zz21,zz22,zz23,i64_w,i32_w]
          rfl
         refine done_ (done_of HT_.out (by kernel_rfl)) ?_
         try go_wp2
         go_ret
         exact ⟨by first | rfl | (simp [errW_none,errW_some] <;> rfl) | (simp [*,errW_none,errW_some] <;> rfl),by repeat first | exact HB.out | apply zz2 | apply zz0 | apply zz1 | refine zz3 ?_ GE227.out | refine zz3 ?_ GE229.out⟩
        ·rw [if_neg c19] at H
         have c19b0:decide (a0_0≤((rd_T70 l0_1 x8_1).f1))=false:=decide_eq_false c19
         clear c19
         by_cases c25:x8_1 > 0
         ·rw [if_pos c25] at H
          have c25b0:decide (0 < x8_1)=true:=decide_eq_true c25
          clear c25
          obtain ⟨ji26,hji26⟩:∃ j_:Int,(wrap64 (x8_1 - 1))=j_:=⟨_,rfl⟩
          replace H:(if 0≤(ji26) then (if (ji26) < (l0_1.length:Int) then ((impl_comparePairs.f k1 ((rd_T70 l0_1 (ji26)).f0) ((rd_T70 l0_1 (ji26)).f1) ((rd_T70 l0_1 x8_1).f0) ((rd_T70 l0_1 x8_1).f1)).bind fun t231=>(if t231 ≥ 0 then (some false) else (impl_IsParty.l0 k1 l0_1 (l0_1.length:Int) (wrap64 (x8_1+1)) a0_0 l0_1))) else (none)) else (none))=some r:=by first | (rw [hji26] at H;exact H) | (simp only [hji26] at H ⊢;exact H)
          have hji26w:(IntKind.i64.wrap (x8_1 - 1))=ji26:=(i64_w _).trans hji26
          by_cases c27:0≤(ji26)
          ·rw [if_pos c27] at H
           have c27b0:decide (0≤(ji26))=true:=decide_eq_true c27
           clear c27
           by_cases c28:(ji26) < (l0_1.length:Int)
           ·rw [if_pos c28] at H
            have c28b0:decide ((ji26) < (l0_1.length:Int))=true:=decide_eq_true c28
            clear c28
            replace H:=zz30.mp H
            obtain ⟨t231,A290,H⟩:=H
            replace H:(if t231 ≥ 0 then (some false) else (impl_IsParty.l0 k1 l0_1 (l0_1.length:Int) (wrap64 (x8_1+1)) a0_0 l0_1))=some r:=H
            have A29:=zz31 A290
            clear A290
            by_cases c30:t231 ≥ 0
            ·rw [if_pos c30] at H
             have c30b0:decide (0≤t231)=true:=decide_eq_true c30
             clear c30
             obtain rfl:=Option.some.inj H
             have p228:0≤(x8_1:Int):=zz29 (by first | (with_reducible assumption) | assumption)
             have q228:x8_1 < (l0_1.length:Int):=zz29 (by first | (with_reducible assumption) | assumption)
             obtain ⟨ad228,e228,hx228_0,hx228_1⟩:=at_T70 HR0_1.out x8_1 p228 q228
             cases e228
             try replace hx228_0:=(HB.out.cell (World.block_lt_of_cell? w _ hx228_0)).trans hx228_0
             try replace hx228_1:=(HB.out.cell (World.block_lt_of_cell? w _ hx228_1)).trans hx228_1
             replace p228:=eq_true p228
             replace q228:=eq_true q228
             try go_wp2_with (first | ((with_reducible refine gate_dst (N:=4) rfl ?_);refine box_event ?hg (N:=4) ?hd (cs:=#[.int .i64 0,.int .i64 0]) (t:=70) ?hr ?_;(case hd=>rfl);(case hg=>rfl);(case hr=>first | (go_simp;done) | (go_simp;rfl));intro gb229 hg w31 hbox hb;have n0_:=zz31 (zz11 (g:=gb227) (o:=.cells #[.int .i64 a0_0,.slice (some ad228) l0_1.length c0_1] 30 (0,0)) (by (with_reducible repeat (first | refine zz6 ?_ _ | refine zz7 ?_ | refine zz8 ?_ _));exact BK227.out) hb);have n1_:=zz31 (zz4 (by repeat first | exact HB.out | apply zz2 | apply zz0 | apply zz1 | refine zz3 ?_ GE227.out) hb);have n2_:=zz31 (hbox);have n3_:=zz31 ((by rw [hg];exact (zz5 (by repeat first | exact HB.out | apply zz2 | apply zz0 | apply zz1 | refine zz3 ?_ GE227.out)):w.heap.size≤gb229));have n4_:=zz31 ((by rw [hg];exact (zz5 (by repeat first | exact HB.out | apply zz2 | apply zz0 | apply zz1 | refine zz3 ?_ GE227.out)):w.heap.size≤gb229));have n5_:=zz31 ((by rw [hg];exact Nat.ne_of_lt (blk_lt (g:=gb227) (o:=.cells #[.int .i64 a0_0,.slice (some ad228) l0_1.length c0_1] 30 (0,0)) (by (with_reducible repeat (first | refine zz6 ?_ _ | refine zz7 ?_ | refine zz8 ?_ _));exact BK227.out)):gb227 ≠ gb229));have n6_:=zz31 ((by rw [hg];exact Nat.ne_of_gt (blk_lt (g:=gb227) (o:=.cells #[.int .i64 a0_0,.slice (some ad228) l0_1.length c0_1] 30 (0,0)) (by (with_reducible repeat (first | refine zz6 ?_ _ | refine zz7 ?_ | refine zz8 ?_ _));exact BK227.out)):gb229 ≠ gb227));clear BK227;clear HB;have BK227:=n0_;have HB:=n1_;have BK229:=n2_;have GW229:=n3_;have GE229:=n4_;have NB227_229:=n5_;have NB229_227:=n6_;clear n0_ n1_ n2_ n3_ n4_ n5_ n6_;clear hb hbox hg;have hnb32:=NB229_227.out;have hnc32:=NB227_229.out;have hcz33_0:w31.cell? ⟨gb229,0,none⟩=some (.int .i64 0):=(zz9 BK229.out 0).trans rfl;have hcz33_1:w31.cell? ⟨gb229,1,none⟩=some (.int .i64 0):=(zz9 BK229.out 1).trans rfl;have hfz33_0:=zz10 BK229.out 0;have hfz33_1:=zz10 BK229.out 1))
             have n0_:Aside0 (((w31.setCell ⟨gb229,0,none⟩ (.int .i64 ((rd_T70 l0_1 x8_1).f0))).setCell ⟨gb229,1,none⟩ (.int .i64 ((rd_T70 l0_1 x8_1).f1))).heap[gb227]?=some (.cells #[.int .i64 a0_0,.slice (some ad228) l0_1.length c0_1] 30 (0,0))):=⟨by (with_reducible repeat (first | refine zz6 ?_ _ | refine zz7 ?_ | refine zz8 ?_ _));refine blk_far ?_ NB227_229.out _;(with_reducible repeat (first | refine zz6 ?_ _ | refine zz7 ?_ | refine zz8 ?_ _));refine blk_far ?_ NB227_229.out _;(with_reducible repeat (first | refine zz6 ?_ _ | refine zz7 ?_ | refine zz8 ?_ _));exact BK227.out⟩
             have n1_:Aside0 (((w31.setCell ⟨gb229,0,none⟩ (.int .i64 ((rd_T70 l0_1 x8_1).f0))).setCell ⟨gb229,1,none⟩ (.int .i64 ((rd_T70 l0_1 x8_1).f1))).heap[gb229]?=some (.cells #[.int .i64 ((rd_T70 l0_1 x8_1).f0),.int .i64 ((rd_T70 l0_1 x8_1).f1)] 70 (0,0))):=⟨by (with_reducible repeat (first | refine zz6 ?_ _ | refine zz7 ?_ | refine zz8 ?_ _));refine blk_put (cs:=#[.int .i64 ((rd_T70 l0_1 x8_1).f0),.int .i64 0]) ?_ 1 _ rfl;(with_reducible repeat (first | refine zz6 ?_ _ | refine zz7 ?_ | refine zz8 ?_ _));refine blk_put (cs:=#[.int .i64 0,.int .i64 0]) ?_ 0 _ rfl;(with_reducible repeat (first | refine zz6 ?_ _ | refine zz7 ?_ | refine zz8 ?_ _));exact BK229.out⟩
             have n2_:Aside0 (Below w.heap.size w ((w31.setCell ⟨gb229,0,none⟩ (.int .i64 ((rd_T70 l0_1 x8_1).f0))).setCell ⟨gb229,1,none⟩ (.int .i64 ((rd_T70 l0_1 x8_1).f1)))):=⟨by repeat first | exact HB.out | apply zz2 | apply zz0 | apply zz1 | refine zz3 ?_ GE227.out | refine zz3 ?_ GE229.out⟩
             (try clear BK227)
             (try clear BK229)
             (try clear HB)
             generalize ((w31.setCell ⟨gb229,0,none⟩ (.int .i64 ((rd_T70 l0_1 x8_1).f0))).setCell ⟨gb229,1,none⟩ (.int .i64 ((rd_T70 l0_1 x8_1).f1)))=w34 at n0_ n1_ n2_ ⊢
             have BK227:=n0_
             have BK229:=n1_
             have HB:=n2_
             clear n0_ n1_ n2_
             have n0_:=zz31 (zz7 BK227.out)
             have n1_:=zz31 (zz7 BK229.out)
             have n2_:=zz31 (zz1 HB.out)
             clear BK227
             clear BK229
             clear HB
             have BK227:=n0_
             have BK229:=n1_
             have HB:=n2_
             clear n0_ n1_ n2_
             have p230:0≤((ji26):Int):=zz29 (by first | (with_reducible assumption) | assumption)
             have q230:(ji26) < (l0_1.length:Int):=zz29 (by first | (with_reducible assumption) | assumption)
             obtain ⟨ad230,e230,hx230_0,hx230_1⟩:=at_T70 HR0_1.out (ji26) p230 q230
             have hw230_1:=hx230_1
             have hw230_0:=hx230_0
             obtain rfl:ad228=ad230:=(by injection e230)
             try replace hx230_0:=(HB.out.cell (World.block_lt_of_cell? w _ hx230_0)).trans hx230_0
             try replace hx230_1:=(HB.out.cell (World.block_lt_of_cell? w _ hx230_1)).trans hx230_1
             replace p230:=eq_true p230
             replace q230:=eq_true q230
             refine start_ (n:=32) (S:=fun w'=>w'.cell? ⟨gb229,0,none⟩=some (.int .i64 ((rd_T70 l0_1 x8_1).f0))∧w'.cell? ⟨gb229,1,none⟩=some (.int .i64 ((rd_T70 l0_1 x8_1).f1))∧w'.cell? ⟨gb227,0,none⟩=some (.int .i64 a0_0)∧w'.cell? ⟨gb227,1,none⟩=some (.slice (some ad228) l0_1.length c0_1)∧w'.cell? (ad228.add (((ji26)).toNat * 2))=some (.int .i64 ((rd_T70 l0_1 (ji26)).f0))∧w'.cell? ⟨(ad228.add (((ji26)).toNat * 2)).block,(ad228.add (((ji26)).toNat * 2)).off+1,none⟩=some (.int .i64 ((rd_T70 l0_1 (ji26)).f1))) (ds:=[]) #[F,F,F,F,F,F,F,F,F,F,F,F,F,F,F,F,F,F,F,F,F,F,F,F,F,F,F,F,F,F,F,F] (by kernel_rfl) rfl rfl ⟨(zz9 BK229.out 0).trans rfl,(zz9 BK229.out 1).trans rfl,(zz9 BK227.out 0).trans rfl,(zz9 BK227.out 1).trans rfl,((HB.out.cell (World.block_lt_of_cell? w _ hw230_0)).trans hw230_0),((HB.out.cell (World.block_lt_of_cell? w _ hw230_1)).trans hw230_1)⟩ (fun hHeld=>?_);refine with_tabW impl_IsParty.tab4 impl_IsParty.bits4 (fun HT_ HW_=>?_)
             generalize w34.drew=w35 at BK227 BK229 HB hx230_0 hx230_1 hHeld ⊢
             refine pure_ (i:=0) (N:=some 13) (v:=?_) (a':=?_) #[T,F,F,F,F,F,F,F,F,F,F,F,F,F,F,F,F,F,F,F,F,F,F,F,F,F,F,F,F,F,F,F] rfl rfl (any_of HT_.out (by kernel_rfl)) (fun _ _ _ h=>h) (Or.inl ⟨by rfl,?_⟩) ?_ ?_
             rotate_left
             ·intro w'
              go_simp
              with_reducible rfl
             rotate_left
             ·simp only [Act.put,zz21,zz22,zz23,i64_w,i32_w]
              rfl
             refine take_ (i:=1) (N:=some 14) (v:=?_) (a':=?_) #[T,T,F,F,F,F,F,F,F,F,F,F,F,F,F,F,F,F,F,F,F,F,F,F,F,F,F,F,F,F,F,F] rfl rfl (take_ofW HT_.out HW_.out (by kernel_rfl)) (fun _ _ _ h=>h) (Or.inl ⟨by rfl,?_⟩) hHeld ?_ ?_
             rotate_left
             ·rintro w' ⟨s0,s1,s2,s3,s4,s5⟩
              go_simp
              with_reducible rfl
             rotate_left
             ·simp only [Act.put,zz21,zz22,zz23,i64_w,i32_w]
              rfl
             refine pure_ (i:=2) (N:=some 15) (v:=?_) (a':=?_) #[T,T,T,F,F,F,F,F,F,F,F,F,F,F,F,F,F,F,F,F,F,F,F,F,F,F,F,F,F,F,F,F] rfl rfl (any_of HT_.out (by kernel_rfl)) (fun _ _ _ h=>h) (Or.inl ⟨by rfl,?_⟩) ?_ ?_
             rotate_left
             ·intro w'
              go_simp
              with_reducible rfl
             rotate_left
             ·simp only [Act.put,zz21,zz22,zz23,i64_w,i32_w]
              rfl
             refine pure_ (i:=3) (N:=some 16) (v:=?_) (a':=?_) #[T,T,T,T,F,F,F,F,F,F,F,F,F,F,F,F,F,F,F,F,F,F,F,F,F,F,F,F,F,F,F,F] rfl rfl (any_of HT_.out (by kernel_rfl)) (fun _ _ _ h=>h) (Or.inl ⟨by rfl,?_⟩) ?_ ?_
             rotate_left
             ·intro w'
              go_simp
              with_reducible rfl
             rotate_left
             ·simp only [Act.put,zz21,zz22,zz23,i64_w,i32_w]
              rfl
             refine pure_ (i:=4) (N:=some 17) (v:=?_) (a':=?_) #[T,T,T,T,T,F,F,F,F,F,F,F,F,F,F,F,F,F,F,F,F,F,F,F,F,F,F,F,F,F,F,F] rfl rfl (any_of HT_.out (by kernel_rfl)) (fun _ _ _ h=>h) (Or.inl ⟨by rfl,?_⟩) ?_ ?_
             rotate_left
             ·intro w'
              go_simp
              with_reducible rfl
             rotate_left
             ·simp only [Act.put,zz21,zz22,zz23,i64_w,i32_w]
              rfl
             refine pure_ (i:=6) (N:=some 19) (v:=?_) (a':=?_) #[T,T,T,T,T,F,T,F,F,F,F,F,F,F,F,F,F,F,F,F,F,F,F,F,F,F,F,F,F,F,F,F] rfl rfl (any_of HT_.out (by kernel_rfl)) (fun _ _ _ h=>h) (Or.inl ⟨by rfl,?_⟩) ?_ ?_
             rotate_left
             ·intro w'
              go_simp
              with_reducible rfl
             rotate_left
             ·simp only [Act.put,zz21,zz22,zz23,i64_w,i32_w]
              rfl
             refine take_ (i:=5) (N:=some 18) (v:=?_) (a':=?_) #[T,T,T,T,T,T,T,F,F,F,F,F,F,F,F,F,F,F,F,F,F,F,F,F,F,F,F,F,F,F,F,F] rfl rfl (take_ofW HT_.out HW_.out (by kernel_rfl)) (fun _ _ _ h=>h) (Or.inl ⟨by rfl,?_⟩) hHeld ?_ ?_
             rotate_left
             ·rintro w' ⟨s0,s1,s2,s3,s4,s5⟩
              go_simp
              with_reducible rfl
             rotate_left
             ·simp only [Act.put,zz21,zz22,zz23,i64_w,i32_w]
              rfl
             refine take_ (i:=7) (N:=some 20) (v:=?_) (a':=?_) #[T,T,T,T,T,T,T,T,F,F,F,F,F,F,F,F,F,F,F,F,F,F,F,F,F,F,F,F,F,F,F,F] rfl rfl (take_ofW HT_.out HW_.out (by kernel_rfl)) (fun _ _ _ h=>h) (Or.inl ⟨by rfl,?_⟩) hHeld ?_ ?_
             rotate_left
             ·rintro w' ⟨s0,s1,s2,s3,s4,s5⟩
              go_simp
              with_reducible rfl
             rotate_left
             ·simp only [Act.put,zz21,zz22,zz23,i64_w,i32_w]
              rfl
             refine pure_ (i:=8) (N:=some 21) (v:=?_) (a':=?_) #[T,T,T,T,T,T,T,T,T,F,F,F,F,F,F,F,F,F,F,F,F,F,F,F,F,F,F,F,F,F,F,F] rfl rfl (any_of HT_.out (by kernel_rfl)) (fun _ _ _ h=>h) (Or.inl ⟨by rfl,?_⟩) ?_ ?_
             rotate_left
             ·intro w'
              go_simp
              with_reducible rfl
             rotate_left
             ·simp only [Act.put,zz21,zz22,zz23,i64_w,i32_w]
              rfl
             refine pure_ (i:=9) (N:=some 22) (v:=?_) (a':=?_) #[T,T,T,T,T,T,T,T,T,T,F,F,F,F,F,F,F,F,F,F,F,F,F,F,F,F,F,F,F,F,F,F] rfl rfl (any_of HT_.out (by kernel_rfl)) (fun _ _ _ h=>h) (Or.inl ⟨by rfl,?_⟩) ?_ ?_
             rotate_left
             ·intro w'
              go_simp
              with_reducible rfl
             rotate_left
             ·simp only [Act.put,zz21,zz22,zz23,i64_w,i32_w]
              rfl
             refine pure_ (i:=10) (N:=some 23) (v:=?_) (a':=?_) #[T,T,T,T,T,T,T,T,T,T,T,F,F,F,F,F,F,F,F,F,F,F,F,F,F,F,F,F,F,F,F,F] rfl rfl (any_of HT_.out (by kernel_rfl)) (fun _ _ _ h=>h) (Or.inl ⟨by rfl,?_⟩) ?_ ?_
             rotate_left
             ·intro w'
              go_simp
              with_reducible rfl
             rotate_left
             ·simp only [Act.put,zz21,zz22,zz23,i64_w,i32_w]
              rfl
             refine pure_ (i:=11) (N:=some 24) (v:=?_) (a':=?_) #[T,T,T,T,T,T,T,T,T,T,T,T,F,F,F,F,F,F,F,F,F,F,F,F,F,F,F,F,F,F,F,F] rfl rfl (any_of HT_.out (by kernel_rfl)) (fun _ _ _ h=>h) (Or.inl ⟨by rfl,?_⟩) ?_ ?_
             rotate_left
             ·intro w'
              go_simp
              with_reducible rfl
             rotate_left
             ·simp only [Act.put,zz21,zz22,zz23,i64_w,i32_w]
              rfl
             refine pure_ (i:=13) (N:=some 26) (v:=?_) (a':=?_) #[T,T,T,T,T,T,T,T,T,T,T,T,F,T,F,F,F,F,F,F,F,F,F,F,F,F,F,F,F,F,F,F] rfl rfl (any_of HT_.out (by kernel_rfl)) (fun _ _ _ h=>h) (Or.inl ⟨by rfl,?_⟩) ?_ ?_
             rotate_left
             ·intro w'
              go_simp
              with_reducible rfl
             rotate_left
             ·simp only [Act.put,zz21,zz22,zz23,i64_w,i32_w]
              rfl
             refine take_ (i:=12) (N:=some 25) (v:=?_) (a':=?_) #[T,T,T,T,T,T,T,T,T,T,T,T,T,T,F,F,F,F,F,F,F,F,F,F,F,F,F,F,F,F,F,F] rfl rfl (take_ofW HT_.out HW_.out (by kernel_rfl)) (fun _ _ _ h=>h) (Or.inl ⟨by rfl,?_⟩) hHeld ?_ ?_
             rotate_left
             ·rintro w' ⟨s0,s1,s2,s3,s4,s5⟩
              go_simp
              with_reducible rfl
             rotate_left
             ·simp only [Act.put,zz21,zz22,zz23,i64_w,i32_w]
              rfl
             refine take_ (i:=14) (N:=some 27) (v:=?_) (a':=?_) #[T,T,T,T,T,T,T,T,T,T,T,T,T,T,T,F,F,F,F,F,F,F,F,F,F,F,F,F,F,F,F,F] rfl rfl (take_ofW HT_.out HW_.out (by kernel_rfl)) (fun _ _ _ h=>h) (Or.inl ⟨by rfl,?_⟩) hHeld ?_ ?_
             rotate_left
             ·rintro w' ⟨s0,s1,s2,s3,s4,s5⟩
              go_simp
              with_reducible rfl
             rotate_left
             ·simp only [Act.put,zz21,zz22,zz23,i64_w,i32_w]
              rfl
             refine pure_ (i:=15) (N:=some 28) (v:=?_) (a':=?_) #[T,T,T,T,T,T,T,T,T,T,T,T,T,T,T,T,F,F,F,F,F,F,F,F,F,F,F,F,F,F,F,F] rfl rfl (any_of HT_.out (by kernel_rfl)) (fun _ _ _ h=>h) (Or.inl ⟨by rfl,?_⟩) ?_ ?_
             rotate_left
             ·intro w'
              go_simp
              with_reducible rfl
             rotate_left
             ·simp only [Act.put,zz21,zz22,zz23,i64_w,i32_w]
              rfl
             refine pure_ (i:=16) (N:=some 29) (v:=?_) (a':=?_) #[T,T,T,T,T,T,T,T,T,T,T,T,T,T,T,T,T,F,F,F,F,F,F,F,F,F,F,F,F,F,F,F] rfl rfl (any_of HT_.out (by kernel_rfl)) (fun _ _ _ h=>h) (Or.inl ⟨by rfl,?_⟩) ?_ ?_
             rotate_left
             ·intro w'
              go_simp
              with_reducible rfl
             rotate_left
             ·simp only [Act.put,zz21,zz22,zz23,i64_w,i32_w]
              rfl
             refine pure_ (i:=17) (N:=some 30) (v:=?_) (a':=?_) #[T,T,T,T,T,T,T,T,T,T,T,T,T,T,T,T,T,T,F,F,F,F,F,F,F,F,F,F,F,F,F,F] rfl rfl (any_of HT_.out (by kernel_rfl)) (fun _ _ _ h=>h) (Or.inl ⟨by rfl,?_⟩) ?_ ?_
             rotate_left
             ·intro w'
              go_simp
              with_reducible rfl
             rotate_left
             ·simp only [Act.put,zz21,zz22,zz23,i64_w,i32_w]
              rfl
             refine pure_ (i:=18) (N:=some 31) (v:=?_) (a':=?_) #[T,T,T,T,T,T,T,T,T,T,T,T,T,T,T,T,T,T,T,F,F,F,F,F,F,F,F,F,F,F,F,F] rfl rfl (any_of HT_.out (by kernel_rfl)) (fun _ _ _ h=>h) (Or.inl ⟨by rfl,?_⟩) ?_ ?_
             rotate_left
             ·intro w'
              go_simp
              with_reducible rfl
             rotate_left
             ·simp only [Act.put,zz21,zz22,zz23,i64_w,i32_w]
              rfl
             refine pure_ (i:=19) (N:=some 32) (v:=?_) (a':=?_) #[T,T,T,T,T,T,T,T,T,T,T,T,T,T,T,T,T,T,T,T,F,F,F,F,F,F,F,F,F,F,F,F] rfl rfl (any_of HT_.out (by kernel_rfl)) (fun _ _ _ h=>h) (Or.inl ⟨by rfl,?_⟩) ?_ ?_
             rotate_left
             ·intro w'
              go_simp
              with_reducible rfl
             rotate_left
             ·simp only [Act.put,zz21,zz22,zz23,i64_w,i32_w]
              rfl
             refine pure_ (i:=20) (N:=some 33) (v:=?_) (a':=?_) #[T,T,T,T,T,T,T,T,T,T,T,T,T,T,T,T,T,T,T,T,T,F,F,F,F,F,F,F,F,F,F,F] rfl rfl (any_of HT_.out (by kernel_rfl)) (fun _ _ _ h=>h) (Or.inl ⟨by rfl,?_⟩) ?_ ?_
             rotate_left
             ·intro w'
              go_simp
              with_reducible rfl
             rotate_left
             ·simp only [Act.put,zz21,zz22,zz23,i64_w,i32_w]
              rfl
             refine pure_ (i:=21) (N:=some 34) (v:=?_) (a':=?_) #[T,T,T,T,T,T,T,T,T,T,T,T,T,T,T,T,T,T,T,T,T,T,F,F,F,F,F,F,F,F,F,F] rfl rfl (any_of HT_.out (by kernel_rfl)) (fun _ _ _ h=>h) (Or.inl ⟨by rfl,?_⟩) ?_ ?_
             rotate_left
             ·intro w'
              go_simp
              with_reducible rfl
             rotate_left
             ·simp only [Act.put,zz21,zz22,zz23,i64_w,i32_w]
              rfl
             refine pure_ (i:=23) (N:=some 36) (v:=?_) (a':=?_) #[T,T,T,T,T,T,T,T,T,T,T,T,T,T,T,T,T,T,T,T,T,T,F,T,F,F,F,F,F,F,F,F] rfl rfl (any_of HT_.out (by kernel_rfl)) (fun _ _ _ h=>h) (Or.inl ⟨by rfl,?_⟩) ?_ ?_
             rotate_left
             ·intro w'
              go_simp
              with_reducible rfl
             rotate_left
             ·simp only [Act.put,zz21,zz22,zz23,i64_w,i32_w]
              rfl
             refine pure_ (i:=24) (N:=some 37) (v:=?_) (a':=?_) #[T,T,T,T,T,T,T,T,T,T,T,T,T,T,T,T,T,T,T,T,T,T,F,T,T,F,F,F,F,F,F,F] rfl rfl (any_of HT_.out (by kernel_rfl)) (fun _ _ _ h=>h) (Or.inl ⟨by rfl,?_⟩) ?_ ?_
             rotate_left
             ·intro w'
              go_simp
              with_reducible rfl
             rotate_left
             ·simp only [Act.put,zz21,zz22,zz23,i64_w,i32_w]
              rfl
             refine take_ (i:=22) (N:=some 35) (v:=?_) (a':=?_) #[T,T,T,T,T,T,T,T,T,T,T,T,T,T,T,T,T,T,T,T,T,T,T,T,T,F,F,F,F,F,F,F] rfl rfl (take_ofW HT_.out HW_.out (by kernel_rfl)) (fun _ _ _ h=>h) (Or.inl ⟨by rfl,?_⟩) hHeld ?_ ?_
             rotate_left
             ·rintro w' ⟨s0,s1,s2,s3,s4,s5⟩
              go_simp
              with_reducible rfl
             rotate_left
             ·simp only [Act.put,zz21,zz22,zz23,i64_w,i32_w]
              rfl
             refine pure_ (i:=25) (N:=some 38) (v:=?_) (a':=?_) #[T,T,T,T,T,T,T,T,T,T,T,T,T,T,T,T,T,T,T,T,T,T,T,T,T,T,F,F,F,F,F,F] rfl rfl (any_of HT_.out (by kernel_rfl)) (fun _ _ _ h=>h) (Or.inl ⟨by rfl,?_⟩) ?_ ?_
             rotate_left
             ·intro w'
              go_simp
              with_reducible rfl
             rotate_left
             ·simp only [Act.put,zz21,zz22,zz23,i64_w,i32_w]
              rfl
             refine take_ (i:=26) (N:=some 39) (v:=?_) (a':=?_) #[T,T,T,T,T,T,T,T,T,T,T,T,T,T,T,T,T,T,T,T,T,T,T,T,T,T,T,F,F,F,F,F] rfl rfl (take_ofW HT_.out HW_.out (by kernel_rfl)) (fun _ _ _ h=>h) (Or.inl ⟨by rfl,?_⟩) hHeld ?_ ?_
             rotate_left
             ·rintro w' ⟨s0,s1,s2,s3,s4,s5⟩
              go_simp
              with_reducible rfl
             rotate_left
             ·simp only [Act.put,zz21,zz22,zz23,i64_w,i32_w]
              rfl
             refine take_ (i:=27) (N:=some 40) (v:=?_) (a':=?_) #[T,T,T,T,T,T,T,T,T,T,T,T,T,T,T,T,T,T,T,T,T,T,T,T,T,T,T,T,F,F,F,F] rfl rfl (take_ofW HT_.out HW_.out (by kernel_rfl)) (fun _ _ _ h=>h) (Or.inl ⟨by rfl,?_⟩) hHeld ?_ ?_
             rotate_left
             ·rintro w' ⟨s0,s1,s2,s3,s4,s5⟩
              go_simp
              with_reducible rfl
             rotate_left
             ·simp only [Act.put,zz21,zz22,zz23,i64_w,i32_w]
              rfl
             refine one_ (i:=28) (N:=some 41) #[T,T,T,T,T,T,T,T,T,T,T,T,T,T,T,T,T,T,T,T,T,T,T,T,T,T,T,T,T,F,F,F] rfl rfl (one_of HT_.out (by kernel_rfl)) (by decide) (fun K hK=>?_)
             refine goes_ Try.func65 (by kernel_rfl) rfl #[.agg #[.int .i64 ((rd_T70 l0_1 (ji26)).f0),.int .i64 ((rd_T70 l0_1 (ji26)).f1)],.agg #[.int .i64 ((rd_T70 l0_1 x8_1).f0),.int .i64 ((rd_T70 l0_1 x8_1).f1)]] (by rfl) rfl rfl (by (try simp only [zz26,zz27,zz28]);first | done | (simp only [hji26];rfl) | rfl | (simp only [zz24,zz25];rfl)) ?_
             with_reducible refine (impl_comparePairs.calls k1 ((rd_T70 l0_1 (ji26)).f0) ((rd_T70 l0_1 (ji26)).f1) ((rd_T70 l0_1 x8_1).f0) ((rd_T70 l0_1 x8_1).f1) t231 _ A29.out).mono ?_
             rintro e w36 ⟨rfl,hb⟩
             refine ⟨_,rfl,?_⟩
             have n0_:=zz31 (zz11 (g:=gb227) (o:=.cells #[.int .i64 a0_0,.slice (some ad228) l0_1.length c0_1] 30 (0,0)) (by (with_reducible repeat (first | refine zz6 ?_ _ | refine zz7 ?_ | refine zz8 ?_ _));exact BK227.out) hb)
             have n1_:=zz31 (zz11 (g:=gb229) (o:=.cells #[.int .i64 ((rd_T70 l0_1 x8_1).f0),.int .i64 ((rd_T70 l0_1 x8_1).f1)] 70 (0,0)) (by (with_reducible repeat (first | refine zz6 ?_ _ | refine zz7 ?_ | refine zz8 ?_ _));exact BK229.out) hb)
             have n2_:=zz31 (zz4 (by repeat first | exact HB.out | apply zz2 | apply zz0 | apply zz1 | refine zz3 ?_ GE227.out | refine zz3 ?_ GE229.out) hb)
             clear BK227
             clear BK229
             clear HB
             have BK227:=n0_
             have BK229:=n1_
             have HB:=n2_
             clear n0_ n1_ n2_
             (try clear hb)
             (try clear hb2)
             (try clear hk)
             (try clear hi)
             refine hK.out _ _ ⟨(zz9 BK229.out 0).trans rfl,(zz9 BK229.out 1).trans rfl,(zz9 BK227.out 0).trans rfl,(zz9 BK227.out 1).trans rfl,((HB.out.cell (World.block_lt_of_cell? w _ hw230_0)).trans hw230_0),((HB.out.cell (World.block_lt_of_cell? w _ hw230_1)).trans hw230_1)⟩ (fun hHeld=>?_)
             clear hK K
             refine norm_ (a':=?_) ?_ ?_
             rotate_left
             ·show Act.put _ (some 41) _=_
              simp only [Act.put,zz21,zz22,zz23,i64_w,i32_w]
              rfl
             refine pure_ (i:=29) (N:=some 42) (v:=?_) (a':=?_) #[T,T,T,T,T,T,T,T,T,T,T,T,T,T,T,T,T,T,T,T,T,T,T,T,T,T,T,T,T,T,F,F] rfl rfl (any_of HT_.out (by kernel_rfl)) (fun _ _ _ h=>h) (Or.inl ⟨by rfl,?_⟩) ?_ ?_
             rotate_left
             ·intro w'
              go_simp
              with_reducible rfl
             rotate_left
             ·simp only [Act.put,zz21,zz22,zz23,i64_w,i32_w]
              rfl
             refine pure_ (i:=30) (N:=some 43) (v:=?_) (a':=?_) #[T,T,T,T,T,T,T,T,T,T,T,T,T,T,T,T,T,T,T,T,T,T,T,T,T,T,T,T,T,T,T,F] rfl rfl (any_of HT_.out (by kernel_rfl)) (fun _ _ _ h=>h) (Or.inl ⟨by rfl,?_⟩) ?_ ?_
             rotate_left
             ·intro w'
              go_simp
              with_reducible rfl
             rotate_left
             ·simp only [Act.put,zz21,zz22,zz23,i64_w,i32_w]
              rfl
             refine pure_ (i:=31) (N:=some 44) (v:=?_) (a':=?_) #[T,T,T,T,T,T,T,T,T,T,T,T,T,T,T,T,T,T,T,T,T,T,T,T,T,T,T,T,T,T,T,T] rfl rfl (any_of HT_.out (by kernel_rfl)) (fun _ _ _ h=>h) (Or.inl ⟨by rfl,?_⟩) ?_ ?_
             rotate_left
             ·intro w'
              go_simp
              with_reducible rfl
             rotate_left
             ·simp only [Act.put,zz21,zz22,zz23,i64_w,i32_w]
              rfl
             refine done_ (done_of HT_.out (by kernel_rfl)) ?_
             try go_wp2
             go_ret
             exact ⟨by first | rfl | (simp [errW_none,errW_some] <;> rfl) | (simp only [← hji26];first | rfl | (simp [errW_none,errW_some] <;> rfl)) | (simp [*,errW_none,errW_some] <;> rfl),by repeat first | exact HB.out | apply zz2 | apply zz0 | apply zz1 | refine zz3 ?_ GE227.out | refine zz3 ?_ GE229.out⟩
            ·rw [if_neg c30] at H
             have c30b0:decide (0≤t231)=false:=decide_eq_false c30
             clear c30
             have H':=zz31 H
             clear H
             have p228:0≤(x8_1:Int):=zz29 (by first | (with_reducible assumption) | assumption)
             have q228:x8_1 < (l0_1.length:Int):=zz29 (by first | (with_reducible assumption) | assumption)
             obtain ⟨ad228,e228,hx228_0,hx228_1⟩:=at_T70 HR0_1.out x8_1 p228 q228
             cases e228
             try replace hx228_0:=(HB.out.cell (World.block_lt_of_cell? w _ hx228_0)).trans hx228_0
             try replace hx228_1:=(HB.out.cell (World.block_lt_of_cell? w _ hx228_1)).trans hx228_1
             replace p228:=eq_true p228
             replace q228:=eq_true q228
             try go_wp2_with (first | ((with_reducible refine gate_dst (N:=4) rfl ?_);refine box_event ?hg (N:=4) ?hd (cs:=#[.int .i64 0,.int .i64 0]) (t:=70) ?hr ?_;(case hd=>rfl);(case hg=>rfl);(case hr=>first | (go_simp;done) | (go_simp;rfl));intro gb229 hg w37 hbox hb;have n0_:=zz31 (zz11 (g:=gb227) (o:=.cells #[.int .i64 a0_0,.slice (some ad228) l0_1.length c0_1] 30 (0,0)) (by (with_reducible repeat (first | refine zz6 ?_ _ | refine zz7 ?_ | refine zz8 ?_ _));exact BK227.out) hb);have n1_:=zz31 (zz4 (by repeat first | exact HB.out | apply zz2 | apply zz0 | apply zz1 | refine zz3 ?_ GE227.out) hb);have n2_:=zz31 (hbox);have n3_:=zz31 ((by rw [hg];exact (zz5 (by repeat first | exact HB.out | apply zz2 | apply zz0 | apply zz1 | refine zz3 ?_ GE227.out)):w.heap.size≤gb229));have n4_:=zz31 ((by rw [hg];exact (zz5 (by repeat first | exact HB.out | apply zz2 | apply zz0 | apply zz1 | refine zz3 ?_ GE227.out)):w.heap.size≤gb229));have n5_:=zz31 ((by rw [hg];exact Nat.ne_of_lt (blk_lt (g:=gb227) (o:=.cells #[.int .i64 a0_0,.slice (some ad228) l0_1.length c0_1] 30 (0,0)) (by (with_reducible repeat (first | refine zz6 ?_ _ | refine zz7 ?_ | refine zz8 ?_ _));exact BK227.out)):gb227 ≠ gb229));have n6_:=zz31 ((by rw [hg];exact Nat.ne_of_gt (blk_lt (g:=gb227) (o:=.cells #[.int .i64 a0_0,.slice (some ad228) l0_1.length c0_1] 30 (0,0)) (by (with_reducible repeat (first | refine zz6 ?_ _ | refine zz7 ?_ | refine zz8 ?_ _));exact BK227.out)):gb229 ≠ gb227));clear BK227;clear HB;have BK227:=n0_;have HB:=n1_;have BK229:=n2_;have GW229:=n3_;have GE229:=n4_;have NB227_229:=n5_;have NB229_227:=n6_;clear n0_ n1_ n2_ n3_ n4_ n5_ n6_;clear hb hbox hg;have hnb38:=NB229_227.out;have hnc38:=NB227_229.out;have hcz39_0:w37.cell? ⟨gb229,0,none⟩=some (.int .i64 0):=(zz9 BK229.out 0).trans rfl;have hcz39_1:w37.cell? ⟨gb229,1,none⟩=some (.int .i64 0):=(zz9 BK229.out 1).trans rfl;have hfz39_0:=zz10 BK229.out 0;have hfz39_1:=zz10 BK229.out 1))
             have n0_:Aside0 (((w37.setCell ⟨gb229,0,none⟩ (.int .i64 ((rd_T70 l0_1 x8_1).f0))).setCell ⟨gb229,1,none⟩ (.int .i64 ((rd_T70 l0_1 x8_1).f1))).heap[gb227]?=some (.cells #[.int .i64 a0_0,.slice (some ad228) l0_1.length c0_1] 30 (0,0))):=⟨by (with_reducible repeat (first | refine zz6 ?_ _ | refine zz7 ?_ | refine zz8 ?_ _));refine blk_far ?_ NB227_229.out _;(with_reducible repeat (first | refine zz6 ?_ _ | refine zz7 ?_ | refine zz8 ?_ _));refine blk_far ?_ NB227_229.out _;(with_reducible repeat (first | refine zz6 ?_ _ | refine zz7 ?_ | refine zz8 ?_ _));exact BK227.out⟩
             have n1_:Aside0 (((w37.setCell ⟨gb229,0,none⟩ (.int .i64 ((rd_T70 l0_1 x8_1).f0))).setCell ⟨gb229,1,none⟩ (.int .i64 ((rd_T70 l0_1 x8_1).f1))).heap[gb229]?=some (.cells #[.int .i64 ((rd_T70 l0_1 x8_1).f0),.int .i64 ((rd_T70 l0_1 x8_1).f1)] 70 (0,0))):=⟨by (with_reducible repeat (first | refine zz6 ?_ _ | refine zz7 ?_ | refine zz8 ?_ _));refine blk_put (cs:=#[.int .i64 ((rd_T70 l0_1 x8_1).f0),.int .i64 0]) ?_ 1 _ rfl;(with_reducible repeat (first | refine zz6 ?_ _ | refine zz7 ?_ | refine zz8 ?_ _));refine blk_put (cs:=#[.int .i64 0,.int .i64 0]) ?_ 0 _ rfl;(with_reducible repeat (first | refine zz6 ?_ _ | refine zz7 ?_ | refine zz8 ?_ _));exact BK229.out⟩
             have n2_:Aside0 (Below w.heap.size w ((w37.setCell ⟨gb229,0,none⟩ (.int .i64 ((rd_T70 l0_1 x8_1).f0))).setCell ⟨gb229,1,none⟩ (.int .i64 ((rd_T70 l0_1 x8_1).f1)))):=⟨by repeat first | exact HB.out | apply zz2 | apply zz0 | apply zz1 | refine zz3 ?_ GE227.out | refine zz3 ?_ GE229.out⟩
             (try clear BK227)
             (try clear BK229)
             (try clear HB)
             generalize ((w37.setCell ⟨gb229,0,none⟩ (.int .i64 ((rd_T70 l0_1 x8_1).f0))).setCell ⟨gb229,1,none⟩ (.int .i64 ((rd_T70 l0_1 x8_1).f1)))=w40 at n0_ n1_ n2_ ⊢
             have BK227:=n0_
             have BK229:=n1_
             have HB:=n2_
             clear n0_ n1_ n2_
             have n0_:=zz31 (zz7 BK227.out)
             have n1_:=zz31 (zz7 BK229.out)
             have n2_:=zz31 (zz1 HB.out)
             clear BK227
             clear BK229
             clear HB
             have BK227:=n0_
             have BK229:=n1_
             have HB:=n2_
             clear n0_ n1_ n2_
             have p230:0≤((ji26):Int):=zz29 (by first | (with_reducible assumption) | assumption)
             have q230:(ji26) < (l0_1.length:Int):=zz29 (by first | (with_reducible assumption) | assumption)
             obtain ⟨ad230,e230,hx230_0,hx230_1⟩:=at_T70 HR0_1.out (ji26) p230 q230
             have hw230_1:=hx230_1
             have hw230_0:=hx230_0
             obtain rfl:ad228=ad230:=(by injection e230)
             try replace hx230_0:=(HB.out.cell (World.block_lt_of_cell? w _ hx230_0)).trans hx230_0
             try replace hx230_1:=(HB.out.cell (World.block_lt_of_cell? w _ hx230_1)).trans hx230_1
             replace p230:=eq_true p230
             replace q230:=eq_true q230
             refine start_ (n:=32) (S:=fun w'=>w'.cell? ⟨gb229,0,none⟩=some (.int .i64 ((rd_T70 l0_1 x8_1).f0))∧w'.cell? ⟨gb229,1,none⟩=some (.int .i64 ((rd_T70 l0_1 x8_1).f1))∧w'.cell? ⟨gb227,0,none⟩=some (.int .i64 a0_0)∧w'.cell? ⟨gb227,1,none⟩=some (.slice (some ad228) l0_1.length c0_1)∧w'.cell? (ad228.add (((ji26)).toNat * 2))=some (.int .i64 ((rd_T70 l0_1 (ji26)).f0))∧w'.cell? ⟨(ad228.add (((ji26)).toNat * 2)).block,(ad228.add (((ji26)).toNat * 2)).off+1,none⟩=some (.int .i64 ((rd_T70 l0_1 (ji26)).f1))) (ds:=[]) #[F,F,F,F,F,F,F,F,F,F,F,F,F,F,F,F,F,F,F,F,F,F,F,F,F,F,F,F,F,F,F,F] (by kernel_rfl) rfl rfl ⟨(zz9 BK229.out 0).trans rfl,(zz9 BK229.out 1).trans rfl,(zz9 BK227.out 0).trans rfl,(zz9 BK227.out 1).trans rfl,((HB.out.cell (World.block_lt_of_cell? w _ hw230_0)).trans hw230_0),((HB.out.cell (World.block_lt_of_cell? w _ hw230_1)).trans hw230_1)⟩ (fun hHeld=>?_);refine with_tabW impl_IsParty.tab4 impl_IsParty.bits4 (fun HT_ HW_=>?_)
             generalize w40.drew=w41 at BK227 BK229 HB hx230_0 hx230_1 hHeld ⊢
             refine pure_ (i:=0) (N:=some 13) (v:=?_) (a':=?_) #[T,F,F,F,F,F,F,F,F,F,F,F,F,F,F,F,F,F,F,F,F,F,F,F,F,F,F,F,F,F,F,F] rfl rfl (any_of HT_.out (by kernel_rfl)) (fun _ _ _ h=>h) (Or.inl ⟨by rfl,?_⟩) ?_ ?_
             rotate_left
             ·intro w'
              go_simp
              with_reducible rfl
             rotate_left
             ·simp only [Act.put,zz21,zz22,zz23,i64_w,i32_w]
              rfl
             refine take_ (i:=1) (N:=some 14) (v:=?_) (a':=?_) #[T,T,F,F,F,F,F,F,F,F,F,F,F,F,F,F,F,F,F,F,F,F,F,F,F,F,F,F,F,F,F,F] rfl rfl (take_ofW HT_.out HW_.out (by kernel_rfl)) (fun _ _ _ h=>h) (Or.inl ⟨by rfl,?_⟩) hHeld ?_ ?_
             rotate_left
             ·rintro w' ⟨s0,s1,s2,s3,s4,s5⟩
              go_simp
              with_reducible rfl
             rotate_left
             ·simp only [Act.put,zz21,zz22,zz23,i64_w,i32_w]
              rfl
             refine pure_ (i:=2) (N:=some 15) (v:=?_) (a':=?_) #[T,T,T,F,F,F,F,F,F,F,F,F,F,F,F,F,F,F,F,F,F,F,F,F,F,F,F,F,F,F,F,F] rfl rfl (any_of HT_.out (by kernel_rfl)) (fun _ _ _ h=>h) (Or.inl ⟨by rfl,?_⟩) ?_ ?_
             rotate_left
             ·intro w'
              go_simp
              with_reducible rfl
             rotate_left
             ·simp only [Act.put,zz21,zz22,zz23,i64_w,i32_w]
              rfl
             refine pure_ (i:=3) (N:=some 16) (v:=?_) (a':=?_) #[T,T,T,T,F,F,F,F,F,F,F,F,F,F,F,F,F,F,F,F,F,F,F,F,F,F,F,F,F,F,F,F] rfl rfl (any_of HT_.out (by kernel_rfl)) (fun _ _ _ h=>h) (Or.inl ⟨by rfl,?_⟩) ?_ ?_
             rotate_left
             ·intro w'
              go_simp
              with_reducible rfl
             rotate_left
             ·simp only [Act.put,zz21,zz22,zz23,i64_w,i32_w]
              rfl
             refine pure_ (i:=4) (N:=some 17) (v:=?_) (a':=?_) #[T,T,T,T,T,F,F,F,F,F,F,F,F,F,F,F,F,F,F,F,F,F,F,F,F,F,F,F,F,F,F,F] rfl rfl (any_of HT_.out (by kernel_rfl)) (fun _ _ _ h=>h) (Or.inl ⟨by rfl,?_⟩) ?_ ?_
             rotate_left
             ·intro w'
              go_simp
              with_reducible rfl
             rotate_left
             ·simp only [Act.put,zz21,zz22,zz23,i64_w,i32_w]
              rfl
             refine pure_ (i:=6) (N:=some 19) (v:=?_) (a':=?_) #[T,T,T,T,T,F,T,F,F,F,F,F,F,F,F,F,F,F,F,F,F,F,F,F,F,F,F,F,F,F,F,F] rfl rfl (any_of HT_.out (by kernel_rfl)) (fun _ _ _ h=>h) (Or.inl ⟨by rfl,?_⟩) ?_ ?_
             rotate_left
             ·intro w'
              go_simp
              with_reducible rfl
             rotate_left
             ·simp only [Act.put,zz21,zz22,zz23,i64_w,i32_w]
              rfl
             refine take_ (i:=5) (N:=some 18) (v:=?_) (a':=?_) #[T,T,T,T,T,T,T,F,F,F,F,F,F,F,F,F,F,F,F,F,F,F,F,F,F,F,F,F,F,F,F,F] rfl rfl (take_ofW HT_.out HW_.out (by kernel_rfl)) (fun _ _ _ h=>h) (Or.inl ⟨by rfl,?_⟩) hHeld ?_ ?_
             rotate_left
             ·rintro w' ⟨s0,s1,s2,s3,s4,s5⟩
              go_simp
              with_reducible rfl
             rotate_left
             ·simp only [Act.put,zz21,zz22,zz23,i64_w,i32_w]
              rfl
             refine take_ (i:=7) (N:=some 20) (v:=?_) (a':=?_) #[T,T,T,T,T,T,T,T,F,F,F,F,F,F,F,F,F,F,F,F,F,F,F,F,F,F,F,F,F,F,F,F] rfl rfl (take_ofW HT_.out HW_.out (by kernel_rfl)) (fun _ _ _ h=>h) (Or.inl ⟨by rfl,?_⟩) hHeld ?_ ?_
             rotate_left
             ·rintro w' ⟨s0,s1,s2,s3,s4,s5⟩
              go_simp
              with_reducible rfl
             rotate_left
             ·simp only [Act.put,zz21,zz22,zz23,i64_w,i32_w]
              rfl
             refine pure_ (i:=8) (N:=some 21) (v:=?_) (a':=?_) #[T,T,T,T,T,T,T,T,T,F,F,F,F,F,F,F,F,F,F,F,F,F,F,F,F,F,F,F,F,F,F,F] rfl rfl (any_of HT_.out (by kernel_rfl)) (fun _ _ _ h=>h) (Or.inl ⟨by rfl,?_⟩) ?_ ?_
             rotate_left
             ·intro w'
              go_simp
              with_reducible rfl
             rotate_left
             ·simp only [Act.put,zz21,zz22,zz23,i64_w,i32_w]
              rfl
             refine pure_ (i:=9) (N:=some 22) (v:=?_) (a':=?_) #[T,T,T,T,T,T,T,T,T,T,F,F,F,F,F,F,F,F,F,F,F,F,F,F,F,F,F,F,F,F,F,F] rfl rfl (any_of HT_.out (by kernel_rfl)) (fun _ _ _ h=>h) (Or.inl ⟨by rfl,?_⟩) ?_ ?_
             rotate_left
             ·intro w'
              go_simp
              with_reducible rfl
             rotate_left
             ·simp only [Act.put,zz21,zz22,zz23,i64_w,i32_w]
              rfl
             refine pure_ (i:=10) (N:=some 23) (v:=?_) (a':=?_) #[T,T,T,T,T,T,T,T,T,T,T,F,F,F,F,F,F,F,F,F,F,F,F,F,F,F,F,F,F,F,F,F] rfl rfl (any_of HT_.out (by kernel_rfl)) (fun _ _ _ h=>h) (Or.inl ⟨by rfl,?_⟩) ?_ ?_
             rotate_left
             ·intro w'
              go_simp
              with_reducible rfl
             rotate_left
             ·simp only [Act.put,zz21,zz22,zz23,i64_w,i32_w]
              rfl
             refine pure_ (i:=11) (N:=some 24) (v:=?_) (a':=?_) #[T,T,T,T,T,T,T,T,T,T,T,T,F,F,F,F,F,F,F,F,F,F,F,F,F,F,F,F,F,F,F,F] rfl rfl (any_of HT_.out (by kernel_rfl)) (fun _ _ _ h=>h) (Or.inl ⟨by rfl,?_⟩) ?_ ?_
             rotate_left
             ·intro w'
              go_simp
              with_reducible rfl
             rotate_left
             ·simp only [Act.put,zz21,zz22,zz23,i64_w,i32_w]
              rfl
             refine pure_ (i:=13) (N:=some 26) (v:=?_) (a':=?_) #[T,T,T,T,T,T,T,T,T,T,T,T,F,T,F,F,F,F,F,F,F,F,F,F,F,F,F,F,F,F,F,F] rfl rfl (any_of HT_.out (by kernel_rfl)) (fun _ _ _ h=>h) (Or.inl ⟨by rfl,?_⟩) ?_ ?_
             rotate_left
             ·intro w'
              go_simp
              with_reducible rfl
             rotate_left
             ·simp only [Act.put,zz21,zz22,zz23,i64_w,i32_w]
              rfl
             refine take_ (i:=12) (N:=some 25) (v:=?_) (a':=?_) #[T,T,T,T,T,T,T,T,T,T,T,T,T,T,F,F,F,F,F,F,F,F,F,F,F,F,F,F,F,F,F,F] rfl rfl (take_ofW HT_.out HW_.out (by kernel_rfl)) (fun _ _ _ h=>h) (Or.inl ⟨by rfl,?_⟩) hHeld ?_ ?_
             rotate_left
             ·rintro w' ⟨s0,s1,s2,s3,s4,s5⟩
              go_simp
              with_reducible rfl
             rotate_left
             ·simp only [Act.put,zz21,zz22,zz23,i64_w,i32_w]
              rfl
             refine take_ (i:=14) (N:=some 27) (v:=?_) (a':=?_) #[T,T,T,T,T,T,T,T,T,T,T,T,T,T,T,F,F,F,F,F,F,F,F,F,F,F,F,F,F,F,F,F] rfl rfl (take_ofW HT_.out HW_.out (by kernel_rfl)) (fun _ _ _ h=>h) (Or.inl ⟨by rfl,?_⟩) hHeld ?_ ?_
             rotate_left
             ·rintro w' ⟨s0,s1,s2,s3,s4,s5⟩
              go_simp
              with_reducible rfl
             rotate_left
             ·simp only [Act.put,zz21,zz22,zz23,i64_w,i32_w]
              rfl
             refine pure_ (i:=15) (N:=some 28) (v:=?_) (a':=?_) #[T,T,T,T,T,T,T,T,T,T,T,T,T,T,T,T,F,F,F,F,F,F,F,F,F,F,F,F,F,F,F,F] rfl rfl (any_of HT_.out (by kernel_rfl)) (fun _ _ _ h=>h) (Or.inl ⟨by rfl,?_⟩) ?_ ?_
             rotate_left
             ·intro w'
              go_simp
              with_reducible rfl
             rotate_left
             ·simp only [Act.put,zz21,zz22,zz23,i64_w,i32_w]
              rfl
             refine pure_ (i:=16) (N:=some 29) (v:=?_) (a':=?_) #[T,T,T,T,T,T,T,T,T,T,T,T,T,T,T,T,T,F,F,F,F,F,F,F,F,F,F,F,F,F,F,F] rfl rfl (any_of HT_.out (by kernel_rfl)) (fun _ _ _ h=>h) (Or.inl ⟨by rfl,?_⟩) ?_ ?_
             rotate_left
             ·intro w'
              go_simp
              with_reducible rfl
             rotate_left
             ·simp only [Act.put,zz21,zz22,zz23,i64_w,i32_w]
              rfl
             refine pure_ (i:=17) (N:=some 30) (v:=?_) (a':=?_) #[T,T,T,T,T,T,T,T,T,T,T,T,T,T,T,T,T,T,F,F,F,F,F,F,F,F,F,F,F,F,F,F] rfl rfl (any_of HT_.out (by kernel_rfl)) (fun _ _ _ h=>h) (Or.inl ⟨by rfl,?_⟩) ?_ ?_
             rotate_left
             ·intro w'
              go_simp
              with_reducible rfl
             rotate_left
             ·simp only [Act.put,zz21,zz22,zz23,i64_w,i32_w]
              rfl
             refine pure_ (i:=18) (N:=some 31) (v:=?_) (a':=?_) #[T,T,T,T,T,T,T,T,T,T,T,T,T,T,T,T,T,T,T,F,F,F,F,F,F,F,F,F,F,F,F,F] rfl rfl (any_of HT_.out (by kernel_rfl)) (fun _ _ _ h=>h) (Or.inl ⟨by rfl,?_⟩) ?_ ?_
             rotate_left
             ·intro w'
              go_simp
              with_reducible rfl
             rotate_left
             ·simp only [Act.put,zz21,zz22,zz23,i64_w,i32_w]
              rfl
             refine pure_ (i:=19) (N:=some 32) (v:=?_) (a':=?_) #[T,T,T,T,T,T,T,T,T,T,T,T,T,T,T,T,T,T,T,T,F,F,F,F,F,F,F,F,F,F,F,F] rfl rfl (any_of HT_.out (by kernel_rfl)) (fun _ _ _ h=>h) (Or.inl ⟨by rfl,?_⟩) ?_ ?_
             rotate_left
             ·intro w'
              go_simp
              with_reducible rfl
             rotate_left
             ·simp only [Act.put,zz21,zz22,zz23,i64_w,i32_w]
              rfl
             refine pure_ (i:=20) (N:=some 33) (v:=?_) (a':=?_) #[T,T,T,T,T,T,T,T,T,T,T,T,T,T,T,T,T,T,T,T,T,F,F,F,F,F,F,F,F,F,F,F] rfl rfl (any_of HT_.out (by kernel_rfl)) (fun _ _ _ h=>h) (Or.inl ⟨by rfl,?_⟩) ?_ ?_
             rotate_left
             ·intro w'
              go_simp
              with_reducible rfl
             rotate_left
             ·simp only [Act.put,zz21,zz22,zz23,i64_w,i32_w]
              rfl
             refine pure_ (i:=21) (N:=some 34) (v:=?_) (a':=?_) #[T,T,T,T,T,T,T,T,T,T,T,T,T,T,T,T,T,T,T,T,T,T,F,F,F,F,F,F,F,F,F,F] rfl rfl (any_of HT_.out (by kernel_rfl)) (fun _ _ _ h=>h) (Or.inl ⟨by rfl,?_⟩) ?_ ?_
             rotate_left
             ·intro w'
              go_simp
              with_reducible rfl
             rotate_left
             ·simp only [Act.put,zz21,zz22,zz23,i64_w,i32_w]
              rfl
             refine pure_ (i:=23) (N:=some 36) (v:=?_) (a':=?_) #[T,T,T,T,T,T,T,T,T,T,T,T,T,T,T,T,T,T,T,T,T,T,F,T,F,F,F,F,F,F,F,F] rfl rfl (any_of HT_.out (by kernel_rfl)) (fun _ _ _ h=>h) (Or.inl ⟨by rfl,?_⟩) ?_ ?_
             rotate_left
             ·intro w'
              go_simp
              with_reducible rfl
             rotate_left
             ·simp only [Act.put,zz21,zz22,zz23,i64_w,i32_w]
              rfl
             refine pure_ (i:=24) (N:=some 37) (v:=?_) (a':=?_) #[T,T,T,T,T,T,T,T,T,T,T,T,T,T,T,T,T,T,T,T,T,T,F,T,T,F,F,F,F,F,F,F] rfl rfl (any_of HT_.out (by kernel_rfl)) (fun _ _ _ h=>h) (Or.inl ⟨by rfl,?_⟩) ?_ ?_
             rotate_left
             ·intro w'
              go_simp
              with_reducible rfl
             rotate_left
             ·simp only [Act.put,zz21,zz22,zz23,i64_w,i32_w]
              rfl
             refine take_ (i:=22) (N:=some 35) (v:=?_) (a':=?_) #[T,T,T,T,T,T,T,T,T,T,T,T,T,T,T,T,T,T,T,T,T,T,T,T,T,F,F,F,F,F,F,F] rfl rfl (take_ofW HT_.out HW_.out (by kernel_rfl)) (fun _ _ _ h=>h) (Or.inl ⟨by rfl,?_⟩) hHeld ?_ ?_
             rotate_left
             ·rintro w' ⟨s0,s1,s2,s3,s4,s5⟩
              go_simp
              with_reducible rfl
             rotate_left
             ·simp only [Act.put,zz21,zz22,zz23,i64_w,i32_w]
              rfl
             refine pure_ (i:=25) (N:=some 38) (v:=?_) (a':=?_) #[T,T,T,T,T,T,T,T,T,T,T,T,T,T,T,T,T,T,T,T,T,T,T,T,T,T,F,F,F,F,F,F] rfl rfl (any_of HT_.out (by kernel_rfl)) (fun _ _ _ h=>h) (Or.inl ⟨by rfl,?_⟩) ?_ ?_
             rotate_left
             ·intro w'
              go_simp
              with_reducible rfl
             rotate_left
             ·simp only [Act.put,zz21,zz22,zz23,i64_w,i32_w]
              rfl
             refine take_ (i:=26) (N:=some 39) (v:=?_) (a':=?_) #[T,T,T,T,T,T,T,T,T,T,T,T,T,T,T,T,T,T,T,T,T,T,T,T,T,T,T,F,F,F,F,F] rfl rfl (take_ofW HT_.out HW_.out (by kernel_rfl)) (fun _ _ _ h=>h) (Or.inl ⟨by rfl,?_⟩) hHeld ?_ ?_
             rotate_left
             ·rintro w' ⟨s0,s1,s2,s3,s4,s5⟩
              go_simp
              with_reducible rfl
             rotate_left
             ·simp only [Act.put,zz21,zz22,zz23,i64_w,i32_w]
              rfl
             refine take_ (i:=27) (N:=some 40) (v:=?_) (a':=?_) #[T,T,T,T,T,T,T,T,T,T,T,T,T,T,T,T,T,T,T,T,T,T,T,T,T,T,T,T,F,F,F,F] rfl rfl (take_ofW HT_.out HW_.out (by kernel_rfl)) (fun _ _ _ h=>h) (Or.inl ⟨by rfl,?_⟩) hHeld ?_ ?_
             rotate_left
             ·rintro w' ⟨s0,s1,s2,s3,s4,s5⟩
              go_simp
              with_reducible rfl
             rotate_left
             ·simp only [Act.put,zz21,zz22,zz23,i64_w,i32_w]
              rfl
             refine one_ (i:=28) (N:=some 41) #[T,T,T,T,T,T,T,T,T,T,T,T,T,T,T,T,T,T,T,T,T,T,T,T,T,T,T,T,T,F,F,F] rfl rfl (one_of HT_.out (by kernel_rfl)) (by decide) (fun K hK=>?_)
             refine goes_ Try.func65 (by kernel_rfl) rfl #[.agg #[.int .i64 ((rd_T70 l0_1 (ji26)).f0),.int .i64 ((rd_T70 l0_1 (ji26)).f1)],.agg #[.int .i64 ((rd_T70 l0_1 x8_1).f0),.int .i64 ((rd_T70 l0_1 x8_1).f1)]] (by rfl) rfl rfl (by (try simp only [zz26,zz27,zz28]);first | done | (simp only [hji26];rfl) | rfl | (simp only [zz24,zz25];rfl)) ?_
             with_reducible refine (impl_comparePairs.calls k1 ((rd_T70 l0_1 (ji26)).f0) ((rd_T70 l0_1 (ji26)).f1) ((rd_T70 l0_1 x8_1).f0) ((rd_T70 l0_1 x8_1).f1) t231 _ A29.out).mono ?_
             rintro e w42 ⟨rfl,hb⟩
             refine ⟨_,rfl,?_⟩
             have n0_:=zz31 (zz11 (g:=gb227) (o:=.cells #[.int .i64 a0_0,.slice (some ad228) l0_1.length c0_1] 30 (0,0)) (by (with_reducible repeat (first | refine zz6 ?_ _ | refine zz7 ?_ | refine zz8 ?_ _));exact BK227.out) hb)
             have n1_:=zz31 (zz11 (g:=gb229) (o:=.cells #[.int .i64 ((rd_T70 l0_1 x8_1).f0),.int .i64 ((rd_T70 l0_1 x8_1).f1)] 70 (0,0)) (by (with_reducible repeat (first | refine zz6 ?_ _ | refine zz7 ?_ | refine zz8 ?_ _));exact BK229.out) hb)
             have n2_:=zz31 (zz4 (by repeat first | exact HB.out | apply zz2 | apply zz0 | apply zz1 | refine zz3 ?_ GE227.out | refine zz3 ?_ GE229.out) hb)
             clear BK227
             clear BK229
             clear HB
             have BK227:=n0_
             have BK229:=n1_
             have HB:=n2_
             clear n0_ n1_ n2_
             (try clear hb)
             (try clear hb2)
             (try clear hk)
             (try clear hi)
             refine hK.out _ _ ⟨(zz9 BK229.out 0).trans rfl,(zz9 BK229.out 1).trans rfl,(zz9 BK227.out 0).trans rfl,(zz9 BK227.out 1).trans rfl,((HB.out.cell (World.block_lt_of_cell? w _ hw230_0)).trans hw230_0),((HB.out.cell (World.block_lt_of_cell? w _ hw230_1)).trans hw230_1)⟩ (fun hHeld=>?_)
             clear hK K
             refine norm_ (a':=?_) ?_ ?_
             rotate_left
             ·show Act.put _ (some 41) _=_
              simp only [Act.put,zz21,zz22,zz23,i64_w,i32_w]
              rfl
             refine pure_ (i:=29) (N:=some 42) (v:=?_) (a':=?_) #[T,T,T,T,T,T,T,T,T,T,T,T,T,T,T,T,T,T,T,T,T,T,T,T,T,T,T,T,T,T,F,F] rfl rfl (any_of HT_.out (by kernel_rfl)) (fun _ _ _ h=>h) (Or.inl ⟨by rfl,?_⟩) ?_ ?_
             rotate_left
             ·intro w'
              go_simp
              with_reducible rfl
             rotate_left
             ·simp only [Act.put,zz21,zz22,zz23,i64_w,i32_w]
              rfl
             refine pure_ (i:=30) (N:=some 43) (v:=?_) (a':=?_) #[T,T,T,T,T,T,T,T,T,T,T,T,T,T,T,T,T,T,T,T,T,T,T,T,T,T,T,T,T,T,T,F] rfl rfl (any_of HT_.out (by kernel_rfl)) (fun _ _ _ h=>h) (Or.inl ⟨by rfl,?_⟩) ?_ ?_
             rotate_left
             ·intro w'
              go_simp
              with_reducible rfl
             rotate_left
             ·simp only [Act.put,zz21,zz22,zz23,i64_w,i32_w]
              rfl
             refine pure_ (i:=31) (N:=some 44) (v:=?_) (a':=?_) #[T,T,T,T,T,T,T,T,T,T,T,T,T,T,T,T,T,T,T,T,T,T,T,T,T,T,T,T,T,T,T,T] rfl rfl (any_of HT_.out (by kernel_rfl)) (fun _ _ _ h=>h) (Or.inl ⟨by rfl,?_⟩) ?_ ?_
             rotate_left
             ·intro w'
              go_simp
              with_reducible rfl
             rotate_left
             ·simp only [Act.put,zz21,zz22,zz23,i64_w,i32_w]
              rfl
             refine done_ (done_of HT_.out (by kernel_rfl)) ?_
             try go_wp2
             go_roundg k1
             case measure=>have:=HK1.out;omega
             case rel=>exact ⟨(wrap64 (x8_1+1)),(by first | rfl | (simp;done) | (simp [*];done)),H',⟨by have:=HK1.out;omega⟩,⟨by (with_reducible repeat (first | refine zz6 ?_ _ | refine zz7 ?_ | refine zz8 ?_ _));exact BK227.out⟩,⟨by repeat first | exact HB.out | apply zz2 | apply zz0 | apply zz1 | refine zz3 ?_ GE227.out | refine zz3 ?_ GE229.out⟩⟩
           ·rw [if_neg c28] at H
            exact absurd H (by simp)
          ·rw [if_neg c27] at H
           exact absurd H (by simp)
         ·rw [if_neg c25] at H
          have c25b0:decide (0 < x8_1)=false:=decide_eq_false c25
          clear c25
          have H':=zz31 H
          clear H
          have p228:0≤(x8_1:Int):=zz29 (by first | (with_reducible assumption) | assumption)
          have q228:x8_1 < (l0_1.length:Int):=zz29 (by first | (with_reducible assumption) | assumption)
          obtain ⟨ad228,e228,hx228_0,hx228_1⟩:=at_T70 HR0_1.out x8_1 p228 q228
          cases e228
          try replace hx228_0:=(HB.out.cell (World.block_lt_of_cell? w _ hx228_0)).trans hx228_0
          try replace hx228_1:=(HB.out.cell (World.block_lt_of_cell? w _ hx228_1)).trans hx228_1
          replace p228:=eq_true p228
          replace q228:=eq_true q228
          try go_wp2_with (first | ((with_reducible refine gate_dst (N:=4) rfl ?_);refine box_event ?hg (N:=4) ?hd (cs:=#[.int .i64 0,.int .i64 0]) (t:=70) ?hr ?_;(case hd=>rfl);(case hg=>rfl);(case hr=>first | (go_simp;done) | (go_simp;rfl));intro gb229 hg w43 hbox hb;have n0_:=zz31 (zz11 (g:=gb227) (o:=.cells #[.int .i64 a0_0,.slice (some ad228) l0_1.length c0_1] 30 (0,0)) (by (with_reducible repeat (first | refine zz6 ?_ _ | refine zz7 ?_ | refine zz8 ?_ _));exact BK227.out) hb);have n1_:=zz31 (zz4 (by repeat first | exact HB.out | apply zz2 | apply zz0 | apply zz1 | refine zz3 ?_ GE227.out) hb);have n2_:=zz31 (hbox);have n3_:=zz31 ((by rw [hg];exact (zz5 (by repeat first | exact HB.out | apply zz2 | apply zz0 | apply zz1 | refine zz3 ?_ GE227.out)):w.heap.size≤gb229));have n4_:=zz31 ((by rw [hg];exact (zz5 (by repeat first | exact HB.out | apply zz2 | apply zz0 | apply zz1 | refine zz3 ?_ GE227.out)):w.heap.size≤gb229));have n5_:=zz31 ((by rw [hg];exact Nat.ne_of_lt (blk_lt (g:=gb227) (o:=.cells #[.int .i64 a0_0,.slice (some ad228) l0_1.length c0_1] 30 (0,0)) (by (with_reducible repeat (first | refine zz6 ?_ _ | refine zz7 ?_ | refine zz8 ?_ _));exact BK227.out)):gb227 ≠ gb229));have n6_:=zz31 ((by rw [hg];exact Nat.ne_of_gt (blk_lt (g:=gb227) (o:=.cells #[.int .i64 a0_0,.slice (some ad228) l0_1.length c0_1] 30 (0,0)) (by (with_reducible repeat (first | refine zz6 ?_ _ | refine zz7 ?_ | refine zz8 ?_ _));exact BK227.out)):gb229 ≠ gb227));clear BK227;clear HB;have BK227:=n0_;have HB:=n1_;have BK229:=n2_;have GW229:=n3_;have GE229:=n4_;have NB227_229:=n5_;have NB229_227:=n6_;clear n0_ n1_ n2_ n3_ n4_ n5_ n6_;clear hb hbox hg;have hnb44:=NB229_227.out;have hnc44:=NB227_229.out;have hcz45_0:w43.cell? ⟨gb229,0,none⟩=some (.int .i64 0):=(zz9 BK229.out 0).trans rfl;have hcz45_1:w43.cell? ⟨gb229,1,none⟩=some (.int .i64 0):=(zz9 BK229.out 1).trans rfl;have hfz45_0:=zz10 BK229.out 0;have hfz45_1:=zz10 BK229.out 1))
          have n0_:Aside0 (((w43.setCell ⟨gb229,0,none⟩ (.int .i64 ((rd_T70 l0_1 x8_1).f0))).setCell ⟨gb229,1,none⟩ (.int .i64 ((rd_T70 l0_1 x8_1).f1))).heap[gb227]?=some (.cells #[.int .i64 a0_0,.slice (some ad228) l0_1.length c0_1] 30 (0,0))):=⟨by (with_reducible repeat (first | refine zz6 ?_ _ | refine zz7 ?_ | refine zz8 ?_ _));refine blk_far ?_ NB227_229.out _;(with_reducible repeat (first | refine zz6 ?_ _ | refine zz7 ?_ | refine zz8 ?_ _));refine blk_far ?_ NB227_229.out _;(with_reducible repeat (first | refine zz6 ?_ _ | refine zz7 ?_ | refine zz8 ?_ _));exact BK227.out⟩
          have n1_:Aside0 (((w43.setCell ⟨gb229,0,none⟩ (.int .i64 ((rd_T70 l0_1 x8_1).f0))).setCell ⟨gb229,1,none⟩ (.int .i64 ((rd_T70 l0_1 x8_1).f1))).heap[gb229]?=some (.cells #[.int .i64 ((rd_T70 l0_1 x8_1).f0),.int .i64 ((rd_T70 l0_1 x8_1).f1)] 70 (0,0))):=⟨by (with_reducible repeat (first | refine zz6 ?_ _ | refine zz7 ?_ | refine zz8 ?_ _));refine blk_put (cs:=#[.int .i64 ((rd_T70 l0_1 x8_1).f0),.int .i64 0]) ?_ 1 _ rfl;(with_reducible repeat (first | refine zz6 ?_ _ | refine zz7 ?_ | refine zz8 ?_ _));refine blk_put (cs:=#[.int .i64 0,.int .i64 0]) ?_ 0 _ rfl;(with_reducible repeat (first | refine zz6 ?_ _ | refine zz7 ?_ | refine zz8 ?_ _));exact BK229.out⟩
          have n2_:Aside0 (Below w.heap.size w ((w43.setCell ⟨gb229,0,none⟩ (.int .i64 ((rd_T70 l0_1 x8_1).f0))).setCell ⟨gb229,1,none⟩ (.int .i64 ((rd_T70 l0_1 x8_1).f1)))):=⟨by repeat first | exact HB.out | apply zz2 | apply zz0 | apply zz1 | refine zz3 ?_ GE227.out | refine zz3 ?_ GE229.out⟩
          (try clear BK227)
          (try clear BK229)
          (try clear HB)
          generalize ((w43.setCell ⟨gb229,0,none⟩ (.int .i64 ((rd_T70 l0_1 x8_1).f0))).setCell ⟨gb229,1,none⟩ (.int .i64 ((rd_T70 l0_1 x8_1).f1)))=w46 at n0_ n1_ n2_ ⊢
          have BK227:=n0_
          have BK229:=n1_
          have HB:=n2_
          clear n0_ n1_ n2_
          have n0_:=zz31 (zz7 BK227.out)
          have n1_:=zz31 (zz7 BK229.out)
          have n2_:=zz31 (zz1 HB.out)
          clear BK227
          clear BK229
          clear HB
          have BK227:=n0_
          have BK229:=n1_
          have HB:=n2_
          clear n0_ n1_ n2_
          refine start_ (n:=32) (S:=fun w'=>w'.cell? ⟨gb229,0,none⟩=some (.int .i64 ((rd_T70 l0_1 x8_1).f0))∧w'.cell? ⟨gb229,1,none⟩=some (.int .i64 ((rd_T70 l0_1 x8_1).f1))∧w'.cell? ⟨gb227,0,none⟩=some (.int .i64 a0_0)∧w'.cell? ⟨gb227,1,none⟩=some (.slice (some ad228) l0_1.length c0_1)) (ds:=[]) #[F,F,F,F,F,F,F,F,F,F,F,F,F,F,F,F,F,F,F,F,F,F,F,F,F,F,F,F,F,F,F,F] (by kernel_rfl) rfl rfl ⟨(zz9 BK229.out 0).trans rfl,(zz9 BK229.out 1).trans rfl,(zz9 BK227.out 0).trans rfl,(zz9 BK227.out 1).trans rfl⟩ (fun hHeld=>?_);refine with_tabW impl_IsParty.tab4 impl_IsParty.bits4 (fun HT_ HW_=>?_)
          generalize w46.drew=w47 at BK227 BK229 HB hHeld ⊢
          refine pure_ (i:=0) (N:=some 13) (v:=?_) (a':=?_) #[T,F,F,F,F,F,F,F,F,F,F,F,F,F,F,F,F,F,F,F,F,F,F,F,F,F,F,F,F,F,F,F] rfl rfl (any_of HT_.out (by kernel_rfl)) (fun _ _ _ h=>h) (Or.inl ⟨by rfl,?_⟩) ?_ ?_
          rotate_left
          ·intro w'
           go_simp
           with_reducible rfl
          rotate_left
          ·simp only [Act.put,zz21,zz22,zz23,i64_w,i32_w]
           rfl
          refine take_ (i:=1) (N:=some 14) (v:=?_) (a':=?_) #[T,T,F,F,F,F,F,F,F,F,F,F,F,F,F,F,F,F,F,F,F,F,F,F,F,F,F,F,F,F,F,F] rfl rfl (take_ofW HT_.out HW_.out (by kernel_rfl)) (fun _ _ _ h=>h) (Or.inl ⟨by rfl,?_⟩) hHeld ?_ ?_
          rotate_left
          ·rintro w' ⟨s0,s1,s2,s3⟩
           go_simp
           with_reducible rfl
          rotate_left
          ·simp only [Act.put,zz21,zz22,zz23,i64_w,i32_w]
           rfl
          refine pure_ (i:=2) (N:=some 15) (v:=?_) (a':=?_) #[T,T,T,F,F,F,F,F,F,F,F,F,F,F,F,F,F,F,F,F,F,F,F,F,F,F,F,F,F,F,F,F] rfl rfl (any_of HT_.out (by kernel_rfl)) (fun _ _ _ h=>h) (Or.inl ⟨by rfl,?_⟩) ?_ ?_
          rotate_left
          ·intro w'
           go_simp
           with_reducible rfl
          rotate_left
          ·simp only [Act.put,zz21,zz22,zz23,i64_w,i32_w]
           rfl
          refine pure_ (i:=3) (N:=some 16) (v:=?_) (a':=?_) #[T,T,T,T,F,F,F,F,F,F,F,F,F,F,F,F,F,F,F,F,F,F,F,F,F,F,F,F,F,F,F,F] rfl rfl (any_of HT_.out (by kernel_rfl)) (fun _ _ _ h=>h) (Or.inl ⟨by rfl,?_⟩) ?_ ?_
          rotate_left
          ·intro w'
           go_simp
           with_reducible rfl
          rotate_left
          ·simp only [Act.put,zz21,zz22,zz23,i64_w,i32_w]
           rfl
          refine pure_ (i:=4) (N:=some 17) (v:=?_) (a':=?_) #[T,T,T,T,T,F,F,F,F,F,F,F,F,F,F,F,F,F,F,F,F,F,F,F,F,F,F,F,F,F,F,F] rfl rfl (any_of HT_.out (by kernel_rfl)) (fun _ _ _ h=>h) (Or.inl ⟨by rfl,?_⟩) ?_ ?_
          rotate_left
          ·intro w'
           go_simp
           with_reducible rfl
          rotate_left
          ·simp only [Act.put,zz21,zz22,zz23,i64_w,i32_w]
           rfl
          refine pure_ (i:=6) (N:=some 19) (v:=?_) (a':=?_) #[T,T,T,T,T,F,T,F,F,F,F,F,F,F,F,F,F,F,F,F,F,F,F,F,F,F,F,F,F,F,F,F] rfl rfl (any_of HT_.out (by kernel_rfl)) (fun _ _ _ h=>h) (Or.inl ⟨by rfl,?_⟩) ?_ ?_
          rotate_left
          ·intro w'
           go_simp
           with_reducible rfl
          rotate_left
          ·simp only [Act.put,zz21,zz22,zz23,i64_w,i32_w]
           rfl
          refine take_ (i:=5) (N:=some 18) (v:=?_) (a':=?_) #[T,T,T,T,T,T,T,F,F,F,F,F,F,F,F,F,F,F,F,F,F,F,F,F,F,F,F,F,F,F,F,F] rfl rfl (take_ofW HT_.out HW_.out (by kernel_rfl)) (fun _ _ _ h=>h) (Or.inl ⟨by rfl,?_⟩) hHeld ?_ ?_
          rotate_left
          ·rintro w' ⟨s0,s1,s2,s3⟩
           go_simp
           with_reducible rfl
          rotate_left
          ·simp only [Act.put,zz21,zz22,zz23,i64_w,i32_w]
           rfl
          refine take_ (i:=7) (N:=some 20) (v:=?_) (a':=?_) #[T,T,T,T,T,T,T,T,F,F,F,F,F,F,F,F,F,F,F,F,F,F,F,F,F,F,F,F,F,F,F,F] rfl rfl (take_ofW HT_.out HW_.out (by kernel_rfl)) (fun _ _ _ h=>h) (Or.inl ⟨by rfl,?_⟩) hHeld ?_ ?_
          rotate_left
          ·rintro w' ⟨s0,s1,s2,s3⟩
           go_simp
           with_reducible rfl
          rotate_left
          ·simp only [Act.put,zz21,zz22,zz23,i64_w,i32_w]
           rfl
          refine pure_ (i:=8) (N:=some 21) (v:=?_) (a':=?_) #[T,T,T,T,T,T,T,T,T,F,F,F,F,F,F,F,F,F,F,F,F,F,F,F,F,F,F,F,F,F,F,F] rfl rfl (any_of HT_.out (by kernel_rfl)) (fun _ _ _ h=>h) (Or.inl ⟨by rfl,?_⟩) ?_ ?_
          rotate_left
          ·intro w'
           go_simp
           with_reducible rfl
          rotate_left
          ·simp only [Act.put,zz21,zz22,zz23,i64_w,i32_w]
           rfl
          refine pure_ (i:=9) (N:=some 22) (v:=?_) (a':=?_) #[T,T,T,T,T,T,T,T,T,T,F,F,F,F,F,F,F,F,F,F,F,F,F,F,F,F,F,F,F,F,F,F] rfl rfl (any_of HT_.out (by kernel_rfl)) (fun _ _ _ h=>h) (Or.inl ⟨by rfl,?_⟩) ?_ ?_
          rotate_left
          ·intro w'
           go_simp
           with_reducible rfl
          rotate_left
          ·simp only [Act.put,zz21,zz22,zz23,i64_w,i32_w]
           rfl
          refine pure_ (i:=10) (N:=some 23) (v:=?_) (a':=?_) #[T,T,T,T,T,T,T,T,T,T,T,F,F,F,F,F,F,F,F,F,F,F,F,F,F,F,F,F,F,F,F,F] rfl rfl (any_of HT_.out (by kernel_rfl)) (fun _ _ _ h=>h) (Or.inl ⟨by rfl,?_⟩) ?_ ?_
          rotate_left
          ·intro w'
           go_simp
           with_reducible rfl
          rotate_left
          ·simp only [Act.put,zz21,zz22,zz23,i64_w,i32_w]
           rfl
          refine pure_ (i:=11) (N:=some 24) (v:=?_) (a':=?_) #[T,T,T,T,T,T,T,T,T,T,T,T,F,F,F,F,F,F,F,F,F,F,F,F,F,F,F,F,F,F,F,F] rfl rfl (any_of HT_.out (by kernel_rfl)) (fun _ _ _ h=>h) (Or.inl ⟨by rfl,?_⟩) ?_ ?_
          rotate_left
          ·intro w'
           go_simp
           with_reducible rfl
          rotate_left
          ·simp only [Act.put,zz21,zz22,zz23,i64_w,i32_w]
           rfl
          refine pure_ (i:=13) (N:=some 26) (v:=?_) (a':=?_) #[T,T,T,T,T,T,T,T,T,T,T,T,F,T,F,F,F,F,F,F,F,F,F,F,F,F,F,F,F,F,F,F] rfl rfl (any_of HT_.out (by kernel_rfl)) (fun _ _ _ h=>h) (Or.inl ⟨by rfl,?_⟩) ?_ ?_
          rotate_left
          ·intro w'
           go_simp
           with_reducible rfl
          rotate_left
          ·simp only [Act.put,zz21,zz22,zz23,i64_w,i32_w]
           rfl
          refine take_ (i:=12) (N:=some 25) (v:=?_) (a':=?_) #[T,T,T,T,T,T,T,T,T,T,T,T,T,T,F,F,F,F,F,F,F,F,F,F,F,F,F,F,F,F,F,F] rfl rfl (take_ofW HT_.out HW_.out (by kernel_rfl)) (fun _ _ _ h=>h) (Or.inl ⟨by rfl,?_⟩) hHeld ?_ ?_
          rotate_left
          ·rintro w' ⟨s0,s1,s2,s3⟩
           go_simp
           with_reducible rfl
          rotate_left
          ·simp only [Act.put,zz21,zz22,zz23,i64_w,i32_w]
           rfl
          refine take_ (i:=14) (N:=some 27) (v:=?_) (a':=?_) #[T,T,T,T,T,T,T,T,T,T,T,T,T,T,T,F,F,F,F,F,F,F,F,F,F,F,F,F,F,F,F,F] rfl rfl (take_ofW HT_.out HW_.out (by kernel_rfl)) (fun _ _ _ h=>h) (Or.inl ⟨by rfl,?_⟩) hHeld ?_ ?_
          rotate_left
          ·rintro w' ⟨s0,s1,s2,s3⟩
           go_simp
           with_reducible rfl
          rotate_left
          ·simp only [Act.put,zz21,zz22,zz23,i64_w,i32_w]
           rfl
          refine pure_ (i:=15) (N:=some 28) (v:=?_) (a':=?_) #[T,T,T,T,T,T,T,T,T,T,T,T,T,T,T,T,F,F,F,F,F,F,F,F,F,F,F,F,F,F,F,F] rfl rfl (any_of HT_.out (by kernel_rfl)) (fun _ _ _ h=>h) (Or.inl ⟨by rfl,?_⟩) ?_ ?_
          rotate_left
          ·intro w'
           go_simp
           with_reducible rfl
          rotate_left
          ·simp only [Act.put,zz21,zz22,zz23,i64_w,i32_w]
           rfl
          refine pure_ (i:=16) (N:=some 29) (v:=?_) (a':=?_) #[T,T,T,T,T,T,T,T,T,T,T,T,T,T,T,T,T,F,F,F,F,F,F,F,F,F,F,F,F,F,F,F] rfl rfl (any_of HT_.out (by kernel_rfl)) (fun _ _ _ h=>h) (Or.inl ⟨by rfl,?_⟩) ?_ ?_
          rotate_left
          ·intro w'
           go_simp
           with_reducible rfl
          rotate_left
          ·simp only [Act.put,zz21,zz22,zz23,i64_w,i32_w]
           rfl
          refine pure_ (i:=17) (N:=some 30) (v:=?_) (a':=?_) #[T,T,T,T,T,T,T,T,T,T,T,T,T,T,T,T,T,T,F,F,F,F,F,F,F,F,F,F,F,F,F,F] rfl rfl (any_of HT_.out (by kernel_rfl)) (fun _ _ _ h=>h) (Or.inl ⟨by rfl,?_⟩) ?_ ?_
          rotate_left
          ·intro w'
           go_simp
           with_reducible rfl
          rotate_left
          ·simp only [Act.put,zz21,zz22,zz23,i64_w,i32_w]
           rfl
          refine pure_ (i:=18) (N:=some 31) (v:=?_) (a':=?_) #[T,T,T,T,T,T,T,T,T,T,T,T,T,T,T,T,T,T,T,F,F,F,F,F,F,F,F,F,F,F,F,F] rfl rfl (any_of HT_.out (by kernel_rfl)) (fun _ _ _ h=>h) (Or.inl ⟨by rfl,?_⟩) ?_ ?_
          rotate_left
          ·intro w'
           go_simp
           with_reducible rfl
          rotate_left
          ·simp only [Act.put,zz21,zz22,zz23,i64_w,i32_w]
           rfl
          refine pure_ (i:=19) (N:=some 32) (v:=?_) (a':=?_) #[T,T,T,T,T,T,T,T,T,T,T,T,T,T,T,T,T,T,T,T,F,F,F,F,F,F,F,F,F,F,F,F] rfl rfl (any_of HT_.out (by kernel_rfl)) (fun _ _ _ h=>h) (Or.inl ⟨by rfl,?_⟩) ?_ ?_
          rotate_left
          ·intro w'
           go_simp
           with_reducible rfl
          rotate_left
          ·simp only [Act.put,zz21,zz22,zz23,i64_w,i32_w]
           rfl
          refine pure_ (i:=20) (N:=some 33) (v:=?_) (a':=?_) #[T,T,T,T,T,T,T,T,T,T,T,T,T,T,T,T,T,T,T,T,T,F,F,F,F,F,F,F,F,F,F,F] rfl rfl (any_of HT_.out (by kernel_rfl)) (fun _ _ _ h=>h) (Or.inl ⟨by rfl,?_⟩) ?_ ?_
          rotate_left
          ·intro w'
           go_simp
           with_reducible rfl
          rotate_left
          ·simp only [Act.put,zz21,zz22,zz23,i64_w,i32_w]
           rfl
          refine pure_ (i:=21) (N:=some 34) (v:=undef) (a':=?_) #[T,T,T,T,T,T,T,T,T,T,T,T,T,T,T,T,T,T,T,T,T,T,F,F,F,F,F,F,F,F,F,F] rfl rfl (any_of HT_.out (by kernel_rfl)) (fun _ _ _ h=>h) (Or.inr ⟨by rfl,rfl⟩) ?_ ?_
          rotate_left
          ·simp only [Act.put,zz21,zz22,zz23,i64_w,i32_w]
           rfl
          refine pure_ (i:=22) (N:=some 35) (v:=undef) (a':=?_) #[T,T,T,T,T,T,T,T,T,T,T,T,T,T,T,T,T,T,T,T,T,T,T,F,F,F,F,F,F,F,F,F] rfl rfl (any_of HT_.out (by kernel_rfl)) (fun _ _ _ h=>h) (Or.inr ⟨by rfl,rfl⟩) ?_ ?_
          rotate_left
          ·simp only [Act.put,zz21,zz22,zz23,i64_w,i32_w]
           rfl
          refine pure_ (i:=23) (N:=some 36) (v:=undef) (a':=?_) #[T,T,T,T,T,T,T,T,T,T,T,T,T,T,T,T,T,T,T,T,T,T,T,T,F,F,F,F,F,F,F,F] rfl rfl (any_of HT_.out (by kernel_rfl)) (fun _ _ _ h=>h) (Or.inr ⟨by rfl,rfl⟩) ?_ ?_
          rotate_left
          ·simp only [Act.put,zz21,zz22,zz23,i64_w,i32_w]
           rfl
          refine pure_ (i:=24) (N:=some 37) (v:=undef) (a':=?_) #[T,T,T,T,T,T,T,T,T,T,T,T,T,T,T,T,T,T,T,T,T,T,T,T,T,F,F,F,F,F,F,F] rfl rfl (any_of HT_.out (by kernel_rfl)) (fun _ _ _ h=>h) (Or.inr ⟨by rfl,rfl⟩) ?_ ?_
          rotate_left
          ·simp only [Act.put,zz21,zz22,zz23,i64_w,i32_w]
           rfl
          refine pure_ (i:=25) (N:=some 38) (v:=undef) (a':=?_) #[T,T,T,T,T,T,T,T,T,T,T,T,T,T,T,T,T,T,T,T,T,T,T,T,T,T,F,F,F,F,F,F] rfl rfl (any_of HT_.out (by kernel_rfl)) (fun _ _ _ h=>h) (Or.inr ⟨by rfl,rfl⟩) ?_ ?_
          rotate_left
          ·simp only [Act.put,zz21,zz22,zz23,i64_w,i32_w]
           rfl
          refine pure_ (i:=26) (N:=some 39) (v:=undef) (a':=?_) #[T,T,T,T,T,T,T,T,T,T,T,T,T,T,T,T,T,T,T,T,T,T,T,T,T,T,T,F,F,F,F,F] rfl rfl (any_of HT_.out (by kernel_rfl)) (fun _ _ _ h=>h) (Or.inr ⟨by rfl,rfl⟩) ?_ ?_
          rotate_left
          ·simp only [Act.put,zz21,zz22,zz23,i64_w,i32_w]
           rfl
          refine pure_ (i:=27) (N:=some 40) (v:=undef) (a':=?_) #[T,T,T,T,T,T,T,T,T,T,T,T,T,T,T,T,T,T,T,T,T,T,T,T,T,T,T,T,F,F,F,F] rfl rfl (any_of HT_.out (by kernel_rfl)) (fun _ _ _ h=>h) (Or.inr ⟨by rfl,rfl⟩) ?_ ?_
          rotate_left
          ·simp only [Act.put,zz21,zz22,zz23,i64_w,i32_w]
           rfl
          refine pure_ (i:=28) (N:=some 41) (v:=undef) (a':=?_) #[T,T,T,T,T,T,T,T,T,T,T,T,T,T,T,T,T,T,T,T,T,T,T,T,T,T,T,T,T,F,F,F] rfl rfl (any_of HT_.out (by kernel_rfl)) (fun _ _ _ h=>h) (Or.inr ⟨by rfl,rfl⟩) ?_ ?_
          rotate_left
          ·simp only [Act.put,zz21,zz22,zz23,i64_w,i32_w]
           rfl
          refine pure_ (i:=29) (N:=some 42) (v:=undef) (a':=?_) #[T,T,T,T,T,T,T,T,T,T,T,T,T,T,T,T,T,T,T,T,T,T,T,T,T,T,T,T,T,T,F,F] rfl rfl (any_of HT_.out (by kernel_rfl)) (fun _ _ _ h=>h) (Or.inr ⟨by rfl,rfl⟩) ?_ ?_
          rotate_left
          ·simp only [Act.put,zz21,zz22,zz23,i64_w,i32_w]
           rfl
          refine pure_ (i:=30) (N:=some 43) (v:=?_) (a':=?_) #[T,T,T,T,T,T,T,T,T,T,T,T,T,T,T,T,T,T,T,T,T,T,T,T,T,T,T,T,T,T,T,F] rfl rfl (any_of HT_.out (by kernel_rfl)) (fun _ _ _ h=>h) (Or.inl ⟨by rfl,?_⟩) ?_ ?_
          rotate_left
          ·intro w'
           go_simp
           with_reducible rfl
          rotate_left
          ·simp only [Act.put,zz21,zz22,zz23,i64_w,i32_w]
           rfl
          refine pure_ (i:=31) (N:=some 44) (v:=?_) (a':=?_) #[T,T,T,T,T,T,T,T,T,T,T,T,T,T,T,T,T,T,T,T,T,T,T,T,T,T,T,T,T,T,T,T] rfl rfl (any_of HT_.out (by kernel_rfl)) (fun _ _ _ h=>h) (Or.inl ⟨by rfl,?_⟩) ?_ ?_
          rotate_left
          ·intro w'
           go_simp
           with_reducible rfl
          rotate_left
          ·simp only [Act.put,zz21,zz22,zz23,i64_w,i32_w]
           rfl
          refine done_ (done_of HT_.out (by kernel_rfl)) ?_
          try go_wp2
          go_roundg k1
          case measure=>have:=HK1.out;omega
          case rel=>exact ⟨(wrap64 (x8_1+1)),(by first | rfl | (simp;done) | (simp [*];done)),H',⟨by have:=HK1.out;omega⟩,⟨by (with_reducible repeat (first | refine zz6 ?_ _ | refine zz7 ?_ | refine zz8 ?_ _));exact BK227.out⟩,⟨by repeat first | exact HB.out | apply zz2 | apply zz0 | apply zz1 | refine zz3 ?_ GE227.out | refine zz3 ?_ GE229.out⟩⟩
     ·rw [if_neg c6] at H
      exact absurd H (by simp)
    ·rw [if_neg c5] at H
     exact absurd H (by simp)
   ·rw [if_neg c4] at H
    have c4b0:decide (x8_1 < (l0_1.length:Int))=false:=decide_eq_false c4
    clear c4
    replace H:=zz30.mp H
    obtain ⟨t232,A480,H⟩:=H
    replace H:(some t232)=some r:=H
    have A48:=zz31 A480
    clear A480
    obtain rfl:=Option.some.inj H
    have hcz49_0:wr.cell? ⟨gb227,0,none⟩=some (.int .i64 a0_0):=(zz9 BK227.out 0).trans rfl
    have hcz49_1:wr.cell? ⟨gb227,1,none⟩=some (.slice A0_1 l0_1.length c0_1):=(zz9 BK227.out 1).trans rfl
    have hfz49_0:=zz10 BK227.out 0
    have hfz49_1:=zz10 BK227.out 1
    go_wp2_with (first | ((with_reducible refine gate_callee (f:=76) rfl ?_);refine goesL_ (some 48) rfl rfl Try.func76 (by kernel_rfl) rfl #[.int .i64 a0_0] rfl (by (try simp only [zz26,zz27,zz28]);first | done | rfl | (simp only [zz24,zz25];rfl)) ?_;(with_reducible refine (impl_areCrowd.calls a0_0 t232 _ A48.out).mono ?_);rintro e w' ⟨rfl,⟨nd,rfl⟩⟩;refine ⟨_,rfl,?_⟩))
    go_ret
    exact ⟨by first | rfl | (simp [errW_none,errW_some] <;> rfl) | (simp [*,errW_none,errW_some] <;> rfl),by repeat first | exact HB.out | apply zz2 | apply zz0 | apply zz1 | refine zz3 ?_ GE227.out⟩

/-! ### slices_Equal_int_int: function 77 -/
def slices_Equal_int_int.l0:Nat→List Int→List Int→Int→Int→Option (Bool)
 | 0,_,_,_,_=>none
 | k+1,x0,x1,x12,x13=>if x13 < x12 then (if 0≤x13 then (if x13 < (x0.length:Int) then (if x13 < (x1.length:Int) then (if (rd x0 x13)=(rd x1 x13) then (slices_Equal_int_int.l0 k x0 x1 x12 (wrap64 (x13+1))) else (some false)) else (none)) else (none)) else (none)) else (some true)
def slices_Equal_int_int.f (k:Nat) (l0:List Int) (l1:List Int):Option (Bool):=if (l0.length:Int)=(l1.length:Int) then (slices_Equal_int_int.l0 k l0 l1 (l0.length:Int) 0) else (some false)
theorem slices_Equal_int_int.mono_l:∀ k,(∀ y0 y1 y2 y3,LeO (slices_Equal_int_int.l0 k y0 y1 y2 y3) (slices_Equal_int_int.l0 (k+1) y0 y1 y2 y3))
 | 0=>fun _ _ _ _ r h=>by simp [slices_Equal_int_int.l0] at h
 | k+1=>by
  have ih0:=slices_Equal_int_int.mono_l k
  ·intro y0 y1 y2 y3
   unfold slices_Equal_int_int.l0
   repeat' first
   | (with_reducible exact ih0 _ _ _ _)
   | (with_reducible exact LeO.refl _)
   | (with_reducible exact LeO.none _)
   | (with_reducible refine LeO.ite ?_ ?_)
   | (with_reducible refine LeO.bind ?_ (fun _=>?_))
   | exact ih0 _ _ _ _
   | exact LeO.none _
   | refine LeO.ite ?_ ?_
   | refine LeO.bind ?_ (fun _=>?_)
theorem slices_Equal_int_int.mono:∀ a0 a1 k,LeO (slices_Equal_int_int.f k a0 a1) (slices_Equal_int_int.f (k+1) a0 a1):=by
 intro a0 a1 k
 have ih0:=slices_Equal_int_int.mono_l k
 unfold slices_Equal_int_int.f
 repeat' first
   | (with_reducible exact ih0 _ _ _ _)
   | (with_reducible exact LeO.refl _)
   | (with_reducible exact LeO.none _)
   | (with_reducible refine LeO.ite ?_ ?_)
   | (with_reducible refine LeO.bind ?_ (fun _=>?_))
   | exact ih0 _ _ _ _
   | exact LeO.none _
   | refine LeO.ite ?_ ?_
   | refine LeO.bind ?_ (fun _=>?_)
set_option maxHeartbeats 8000000 in
set_option maxRecDepth 100000 in
theorem slices_Equal_int_int.calls (k:Nat) (A0:Option Addr) (c0:Nat) (l0:List Int) (A1:Option Addr) (c1:Nat) (l1:List Int) (r:Bool) (w:World) (hr0:Kd.C (Kd.int .i64) w A0 l0.length l0) (hc0:l0.length≤c0) (hr1:Kd.C (Kd.int .i64) w A1 l1.length l1) (hc1:l1.length≤c1) (h:slices_Equal_int_int.f k l0 l1=some r) :
  Calls Try.prog 77 #[.slice A0 l0.length c0,.slice A1 l1.length c1] w fun e w'=>e=.returned (.bool r)∧Drawn0 w w':=by
 have HR0:=zz31 hr0
 have HC0:=zz31 hc0
 clear hr0 hc0
 have HR1:=zz31 hr1
 have HC1:=zz31 hc1
 clear hr1 hc1
 have H:(if (l0.length:Int)=(l1.length:Int) then (slices_Equal_int_int.l0 k l0 l1 (l0.length:Int) 0) else (some false))=some r:=h
 clear h
 by_cases c3:(l0.length:Int)=(l1.length:Int)
 ·rw [if_pos c3] at H
  have c3b0:((l0.length:Int) == (l1.length:Int))=true:=beq_iff_eq.mpr c3
  have c3b1:((l0.length:Int) != (l1.length:Int))=false:=bne_eq_false_iff_eq.mpr c3
  have c3b2:(l0.length == l1.length)=true:=by first | simpa using c3 | (simp at c3 ⊢;omega)
  clear c3
  have H':=zz31 H
  clear H
  go_enter Try.func77,Try.ntmps77
  go_wp2
  repeat (go_quiet (fail);try go_wp2)
  go_loopg [13] k (fun kq v13 w'=>∃ (x13_1:Int),v13=.int .i64 x13_1∧Aside0 (slices_Equal_int_int.l0 kq l0 l1 (l0.length:Int) x13_1=some r)∧Aside0 (kq≤k)∧Drawn0 w w')
  case atStart=>exact ⟨(0),(by first | rfl | (simp;done) | (simp [*];done)),H',⟨Nat.le_refl _⟩,by repeat (first | exact Drawn0.refl _ | apply Drawn0.step)⟩
  case round =>
   clear H'
   try clear c1
   try clear p2
   try clear c3
   try clear c3b0
   try clear c3b1
   try clear c3b2
   obtain ⟨x13_1,rfl,HA,HK1,⟨m1,rfl⟩⟩:=hrel
   cases gk with
   | zero=>exact absurd HA.out (by simp [slices_Equal_int_int.l0])
   | succ k1 =>
    have H:=HA.out
    clear HA
    simp only [slices_Equal_int_int.l0] at H
    by_cases c4:x13_1 < (l0.length:Int)
    ·rw [if_pos c4] at H
     have c4b0:decide (x13_1 < (l0.length:Int))=true:=decide_eq_true c4
     clear c4
     by_cases c5:0≤x13_1
     ·rw [if_pos c5] at H
      have c5b0:decide (0≤x13_1)=true:=decide_eq_true c5
      clear c5
      by_cases c6:x13_1 < (l0.length:Int)
      ·rw [if_pos c6] at H
       have c6b0:decide (x13_1 < (l0.length:Int))=true:=decide_eq_true c6
       clear c6
       by_cases c7:x13_1 < (l1.length:Int)
       ·rw [if_pos c7] at H
        have c7b0:decide (x13_1 < (l1.length:Int))=true:=decide_eq_true c7
        clear c7
        by_cases c8:(rd l0 x13_1)=(rd l1 x13_1)
        ·rw [if_pos c8] at H
         have c8b0:((rd l0 x13_1) == (rd l1 x13_1))=true:=beq_iff_eq.mpr c8
         have c8b1:((rd l0 x13_1) != (rd l1 x13_1))=false:=bne_eq_false_iff_eq.mpr c8
         clear c8
         have H':=zz31 H
         clear H
         have p233:0≤(x13_1:Int):=zz29 (by first | (with_reducible assumption) | assumption)
         have q233:x13_1 < (l0.length:Int):=zz29 (by first | (with_reducible assumption) | assumption)
         obtain ⟨ad233,e233,hx233_0⟩:=Kd.at_int HR0.out x13_1 p233 q233
         cases e233
         replace p233:=eq_true p233
         replace q233:=eq_true q233
         have p234:0≤(x13_1:Int):=zz29 (by first | (with_reducible assumption) | assumption)
         have q234:x13_1 < (l1.length:Int):=zz29 (by first | (with_reducible assumption) | assumption)
         obtain ⟨ad234,e234,hx234_0⟩:=Kd.at_int HR1.out x13_1 p234 q234
         cases e234
         replace p234:=eq_true p234
         replace q234:=eq_true q234
         go_wp2
         repeat (go_quiet (fail);try go_wp2)
         go_roundg k1
         case measure=>have:=HK1.out;omega
         case rel=>exact ⟨(wrap64 (x13_1+1)),(by first | rfl | (simp;done) | (simp [*];done)),H',⟨by have:=HK1.out;omega⟩,by repeat (first | exact Drawn0.refl _ | apply Drawn0.step)⟩
        ·rw [if_neg c8] at H
         have c8b0:((rd l0 x13_1) == (rd l1 x13_1))=false:=beq_eq_false_iff_ne.mpr c8
         have c8b1:((rd l0 x13_1) != (rd l1 x13_1))=true:=bne_iff_ne.mpr c8
         obtain rfl:=Option.some.inj H
         have p233:0≤(x13_1:Int):=zz29 (by first | (with_reducible assumption) | assumption)
         have q233:x13_1 < (l0.length:Int):=zz29 (by first | (with_reducible assumption) | assumption)
         obtain ⟨ad233,e233,hx233_0⟩:=Kd.at_int HR0.out x13_1 p233 q233
         cases e233
         replace p233:=eq_true p233
         replace q233:=eq_true q233
         have p234:0≤(x13_1:Int):=zz29 (by first | (with_reducible assumption) | assumption)
         have q234:x13_1 < (l1.length:Int):=zz29 (by first | (with_reducible assumption) | assumption)
         obtain ⟨ad234,e234,hx234_0⟩:=Kd.at_int HR1.out x13_1 p234 q234
         cases e234
         replace p234:=eq_true p234
         replace q234:=eq_true q234
         go_wp2
         repeat (go_quiet (fail);try go_wp2)
         go_ret
         exact ⟨by first | rfl | (simp;done) | (simp [*];done),by repeat (first | exact Drawn0.refl _ | apply Drawn0.step)⟩
       ·rw [if_neg c7] at H
        exact absurd H (by simp)
      ·rw [if_neg c6] at H
       exact absurd H (by simp)
     ·rw [if_neg c5] at H
      exact absurd H (by simp)
    ·rw [if_neg c4] at H
     have c4b0:decide (x13_1 < (l0.length:Int))=false:=decide_eq_false c4
     clear c4
     obtain rfl:=Option.some.inj H
     go_wp2
     repeat (go_quiet (fail);try go_wp2)
     go_ret
     exact ⟨by first | rfl | (simp;done) | (simp [*];done),by repeat (first | exact Drawn0.refl _ | apply Drawn0.step)⟩
 ·rw [if_neg c3] at H
  have c3b0:((l0.length:Int) == (l1.length:Int))=false:=beq_eq_false_iff_ne.mpr c3
  have c3b1:((l0.length:Int) != (l1.length:Int))=true:=bne_iff_ne.mpr c3
  have c3b2:(l0.length == l1.length)=false:=by first | simpa using c3 | (simp at c3 ⊢;omega)
  obtain rfl:=Option.some.inj H
  go_enter Try.func77,Try.ntmps77
  go_wp2
  repeat (go_quiet (fail);try go_wp2)
  go_ret
  exact ⟨by first | rfl | (simp;done) | (simp [*];done),by repeat (first | exact Drawn0.refl _ | apply Drawn0.step)⟩

-- NOT PRINTED: function 104 (slices_AppendSeq_int_int)

-- NOT PRINTED: function 90 (slices_Collect_int)

-- NOT PRINTED: function 101 (bits_Len32)

-- NOT PRINTED: function 102 (bits_Len64)

-- NOT PRINTED: function 84 (bits_Len)

/-! ### cmp_Less_int: function 117 -/
def cmp_Less_int.f (a0:Int) (a1:Int):Option (Bool):=(cmp_isNaN_int.f a0).bind fun t235=>(if t235=true then ((cmp_isNaN_int.f a1).bind fun t236=>(if t236=true then (some (decide (a0 < a1))) else (some true))) else (some (decide (a0 < a1))))
set_option maxHeartbeats 8000000 in
set_option maxRecDepth 100000 in
theorem cmp_Less_int.calls (a0:Int) (a1:Int) (r:Bool) (w:World) (h:cmp_Less_int.f a0 a1=some r) :
  Calls Try.prog 117 #[.int .i64 a0,.int .i64 a1] w fun e w'=>e=.returned (.bool r)∧Drawn0 w w':=by
 have H:((cmp_isNaN_int.f a0).bind fun t235=>(if t235=true then ((cmp_isNaN_int.f a1).bind fun t236=>(if t236=true then (some (decide (a0 < a1))) else (some true))) else (some (decide (a0 < a1)))))=some r:=h
 clear h
 replace H:=zz30.mp H
 obtain ⟨t235,A30,H⟩:=H
 replace H:(if t235=true then ((cmp_isNaN_int.f a1).bind fun t236=>(if t236=true then (some (decide (a0 < a1))) else (some true))) else (some (decide (a0 < a1))))=some r:=H
 have A3:=zz31 A30
 clear A30
 by_cases c4:t235=true
 ·subst c4
  have H1:((cmp_isNaN_int.f a1).bind fun t236=>(if t236=true then (some (decide (a0 < a1))) else (some true)))=some r:=by rw [if_pos rfl] at H;exact H
  clear H
  have H:=H1
  clear H1
  replace H:=zz30.mp H
  obtain ⟨t236,A50,H⟩:=H
  replace H:(if t236=true then (some (decide (a0 < a1))) else (some true))=some r:=H
  have A5:=zz31 A50
  clear A50
  by_cases c6:t236=true
  ·subst c6
   have H1:(some (decide (a0 < a1)))=some r:=by rw [if_pos rfl] at H;exact H
   clear H
   have H:=H1
   clear H1
   obtain rfl:=Option.some.inj H
   go_enter Try.func117,Try.ntmps117
   go_wp2_with (first | ((with_reducible refine gate_callee (f:=103) rfl ?_);refine goesL_ (some 6) rfl rfl Try.func103 (by kernel_rfl) rfl #[.int .i64 a0] rfl (by (try simp only [zz26,zz27,zz28]);first | done | rfl | (simp only [zz24,zz25];rfl)) ?_;(with_reducible refine (cmp_isNaN_int.calls a0 true _ A3.out).mono ?_);rintro e w' ⟨rfl,⟨nd,rfl⟩⟩;refine ⟨_,rfl,?_⟩) | (go_at_call 103;(with_reducible refine (cmp_isNaN_int.calls a1 true _ A5.out).mono ?_);rintro e w' ⟨rfl,⟨nd,rfl⟩⟩))
   go_ret
   exact ⟨by first | rfl | (simp;done) | (simp [*];done),by repeat (first | exact Drawn0.refl _ | apply Drawn0.step)⟩
  ·replace c6:=Bool.eq_false_iff.mpr c6
   subst c6
   have H1:(some true)=some r:=by rw [if_neg (show ¬ (false=true) by decide)] at H;exact H
   clear H
   have H:=H1
   clear H1
   obtain rfl:=Option.some.inj H
   go_enter Try.func117,Try.ntmps117
   go_wp2_with (first | ((with_reducible refine gate_callee (f:=103) rfl ?_);refine goesL_ (some 6) rfl rfl Try.func103 (by kernel_rfl) rfl #[.int .i64 a0] rfl (by (try simp only [zz26,zz27,zz28]);first | done | rfl | (simp only [zz24,zz25];rfl)) ?_;(with_reducible refine (cmp_isNaN_int.calls a0 true _ A3.out).mono ?_);rintro e w' ⟨rfl,⟨nd,rfl⟩⟩;refine ⟨_,rfl,?_⟩) | (go_at_call 103;(with_reducible refine (cmp_isNaN_int.calls a1 false _ A5.out).mono ?_);rintro e w' ⟨rfl,⟨nd,rfl⟩⟩))
   go_ret
   exact ⟨by first | rfl | (simp;done) | (simp [*];done),by repeat (first | exact Drawn0.refl _ | apply Drawn0.step)⟩
 ·replace c4:=Bool.eq_false_iff.mpr c4
  subst c4
  have H1:(some (decide (a0 < a1)))=some r:=by rw [if_neg (show ¬ (false=true) by decide)] at H;exact H
  clear H
  have H:=H1
  clear H1
  obtain rfl:=Option.some.inj H
  go_enter Try.func117,Try.ntmps117
  go_wp2_with (first | ((with_reducible refine gate_callee (f:=103) rfl ?_);refine goesL_ (some 6) rfl rfl Try.func103 (by kernel_rfl) rfl #[.int .i64 a0] rfl (by (try simp only [zz26,zz27,zz28]);first | done | rfl | (simp only [zz24,zz25];rfl)) ?_;(with_reducible refine (cmp_isNaN_int.calls a0 false _ A3.out).mono ?_);rintro e w' ⟨rfl,⟨nd,rfl⟩⟩;refine ⟨_,rfl,?_⟩))
  go_ret
  exact ⟨by first | rfl | (simp;done) | (simp [*];done),by repeat (first | exact Drawn0.refl _ | apply Drawn0.step)⟩

-- NOT PRINTED: function 111 (slices_insertionSortOrdered_int)

-- NOT PRINTED: function 121 (slices_siftDownOrdered_int)

-- NOT PRINTED: function 112 (slices_heapSortOrdered_int)

-- NOT PRINTED: function 107 (slices_nextPowerOfTwo)

-- NOT PRINTED: function 108 (slices_xorshift_Next)

-- NOT PRINTED: function 113 (slices_breakPatternsOrdered_int)

-- NOT PRINTED: function 124 (slices_order2Ordered_int)

-- NOT PRINTED: function 123 (slices_medianOrdered_int)

-- NOT PRINTED: function 122 (slices_medianAdjacentOrdered_int)

-- NOT PRINTED: function 114 (slices_choosePivotOrdered_int)

-- NOT PRINTED: function 115 (slices_reverseRangeOrdered_int)

-- NOT PRINTED: function 116 (slices_partialInsertionSortOrdered_int)

-- NOT PRINTED: function 118 (slices_partitionEqualOrdered_int)

-- NOT PRINTED: function 119 (slices_partitionOrdered_int)

-- NOT PRINTED: function 105 (slices_pdqsortOrdered_int)

/-! ### slices_Sort_int_int: function 91 (a contract of our own) -/
def sortRen:Go.Shelf.Ren:=⟨fun | 125=>84 | 128=>101 | 129=>102 | 189=>91 | 215=>103 | 216=>117 | 257=>105 | 294=>111 | 295=>112 | 296=>113 | 297=>114 | 298=>115 | 299=>116 | 300=>118 | 301=>119 | 328=>121 | 329=>107 | 330=>108 | 331=>122 | 332=>123 | 343=>124 | n=>n,fun | 0=>0 | 3=>3 | 4=>4 | 5=>5 | 9=>9 | 28=>40 | 46=>105 | 51=>116 | 53=>118 | 131=>34 | 182=>109 | 183=>110 | 218=>121 | 222=>125 | 228=>131 | 229=>132 | n=>n,fun | n=>n⟩
theorem sortLays:Go.Proofs.Lays.n189 Try.prog sortRen:={
 mixed:=by kernel_rfl
 f125:=Try.func84.trans (congrArg some (by kernel_rfl))
 f128:=Try.func101.trans (congrArg some (by kernel_rfl))
 f129:=Try.func102.trans (congrArg some (by kernel_rfl))
 f189:=Try.func91.trans (congrArg some (by kernel_rfl))
 f215:=Try.func103.trans (congrArg some (by kernel_rfl))
 f216:=Try.func117.trans (congrArg some (by kernel_rfl))
 f257:=Try.func105.trans (congrArg some (by kernel_rfl))
 f294:=Try.func111.trans (congrArg some (by kernel_rfl))
 f295:=Try.func112.trans (congrArg some (by kernel_rfl))
 f296:=Try.func113.trans (congrArg some (by kernel_rfl))
 f297:=Try.func114.trans (congrArg some (by kernel_rfl))
 f298:=Try.func115.trans (congrArg some (by kernel_rfl))
 f299:=Try.func116.trans (congrArg some (by kernel_rfl))
 f300:=Try.func118.trans (congrArg some (by kernel_rfl))
 f301:=Try.func119.trans (congrArg some (by kernel_rfl))
 f328:=Try.func121.trans (congrArg some (by kernel_rfl))
 f329:=Try.func107.trans (congrArg some (by kernel_rfl))
 f330:=Try.func108.trans (congrArg some (by kernel_rfl))
 f331:=Try.func122.trans (congrArg some (by kernel_rfl))
 f332:=Try.func123.trans (congrArg some (by kernel_rfl))
 f343:=Try.func124.trans (congrArg some (by kernel_rfl))
 t0:=Try.underlying0
 a0:=Try.isAgg0
 z0:=Try.sizeOf0
 v0:=Try.zeroValue0
 t3:=Try.underlying3
 a3:=Try.isAgg3
 z3:=Try.sizeOf3
 v3:=Try.zeroValue3
 t4:=Try.underlying4
 a4:=Try.isAgg4
 z4:=Try.sizeOf4
 v4:=Try.zeroValue4
 t5:=Try.underlying5
 a5:=Try.isAgg5
 z5:=Try.sizeOf5
 v5:=Try.zeroValue5
 t9:=Try.underlying9
 a9:=Try.isAgg9
 z9:=Try.sizeOf9
 v9:=Try.zeroValue9
 t28:=Try.underlying40
 a28:=Try.isAgg40
 z28:=Try.sizeOf40
 v28:=Try.zeroValue40
 t46:=Try.underlying105
 a46:=Try.isAgg105
 z46:=Try.sizeOf105
 v46:=Try.zeroValue105
 t51:=Try.underlying116
 a51:=Try.isAgg116
 z51:=Try.sizeOf116
 v51:=Try.zeroValue116
 t53:=Try.underlying118
 a53:=Try.isAgg118
 z53:=Try.sizeOf118
 v53:=Try.zeroValue118
 t131:=Try.underlying34
 a131:=Try.isAgg34
 z131:=Try.sizeOf34
 v131:=Try.zeroValue34
 t182:=Try.underlying109
 a182:=Try.isAgg109
 z182:=Try.sizeOf109
 v182:=Try.zeroValue109
 t183:=Try.underlying110
 a183:=Try.isAgg110
 z183:=Try.sizeOf110
 v183:=Try.zeroValue110
 t218:=Try.underlying121
 a218:=Try.isAgg121
 z218:=Try.sizeOf121
 v218:=Try.zeroValue121
 t222:=Try.underlying125
 a222:=Try.isAgg125
 z222:=Try.sizeOf125
 v222:=Try.zeroValue125
 t228:=Try.underlying131
 a228:=Try.isAgg131
 z228:=Try.sizeOf131
 v228:=Try.zeroValue131
 t229:=Try.underlying132
 a229:=Try.isAgg132
 z229:=Try.sizeOf132
 v229:=Try.zeroValue132 }
/-- What slices.Sort does at whole numbers, as the library tells it. -/
theorem sortInts (blk off cap:Nat) (zs:List Int) (w:World) (hH:Go.Sort.Holds (Value.int .i64) w blk off zs.toArray) (hb:blk < w.heap.size) (hz:zs.length < 4611686018427387904) :
    Calls Try.prog 91 #[.slice (some ⟨blk,off,none⟩) zs.length cap] w fun e w' =>
      e=.returned (.tuple #[])∧∃ n os,w'=Go.Sort.grow (Go.Sort.putRow (Value.int .i64) (Go.Sort.ahead w n) blk off (zs.mergeSort fun x y=>decide (x≤y)).toArray) os:=Any.slices_Sort_int sortLays blk off cap zs w hH hb hz
theorem sortNone (p:Option Addr) (cap:Nat) (W:World):Calls Try.prog 91 #[.slice p 0 cap] W fun e w'=>e=.returned (.tuple #[])∧w'=W:=Any.slices_Sort_int_none sortLays p cap W
def slices_Sort_int_int.f (l0:List Int):Option (List Int):=if l0.length < 4611686018427387904 then some (l0.mergeSort fun x y=>decide (x≤y)) else none
theorem slices_Sort_int_int.calls (P0_:Nat→Prop) (u9000_:Value) (l0:List Int) (r:List Int) (w0 w:World) (hB:Below w0.heap.size w0 w) (ho0:Kd.R (Kd.int .i64) 3 w w0.heap.size P0_ u9000_ l0) (h:slices_Sort_int_int.f l0=some r) :
    Calls Try.prog 91 #[u9000_] w fun e w'=>e=.returned (.tuple #[])∧Kd.R (Kd.int .i64) 3 w' w0.heap.size (fun k_=>(P0_ k_ ∨ w.heap.size≤k_)) u9000_ r∧Below w0.heap.size w0 w'∧Kept w w' (fun k_=>P0_ k_):=by
  unfold slices_Sort_int_int.f at h
  by_cases hl:l0.length < 4611686018427387904
  case neg=>rw [if_neg hl] at h;exact absurd h (by simp)
  rw [if_pos hl] at h
  obtain rfl:=Option.some.inj h
  have hml:(l0.mergeSort fun x y=>decide (x≤y)).length=l0.length:=List.length_mergeSort _
  have ho:=Kd.own_of_R ho0
  rcases ho.2 with ⟨rfl,hz⟩ | ⟨gb,cp,cur,rfl,hbase,hgb,r1,r2,r3,r4⟩
  · obtain rfl:l0=[]:=List.eq_nil_of_length_eq_zero hz
    refine (sortNone none 0 w).mono ?_
    rintro e w' ⟨rfl,rfl⟩
    exact ⟨rfl,by simpa using Kd.R_nil _ _ _ _ _,hB,Kept.refl _ _⟩
  · have hH:Go.Sort.Holds (Value.int .i64) w gb 0 l0.toArray:=holds_of_blockI hgb (by rw [Nat.mul_one] at r4;exact r4)
    refine (sortInts gb 0 cp l0 w hH (Array.getElem?_eq_some_iff.1 hgb).1 hl).mono ?_
    rintro e w' ⟨rfl,nn,os,rfl⟩
    have hp:P0_ gb:=ho0.1 gb (by simp [Value.ownBlock])
    refine ⟨rfl,Kd.R_of_own (enc:=Value.int .i64) (h1:=fun _=>rfl) (by rw [hml];exact ownsRow_sortedI hml hbase hgb r1 r2 r3) (fun k hk=>.inl ?_),hB.grown (grownBy_sortedI _) hB.size (fun j hj=>by cases hj;exact hbase),Kept.of_grown (grownBy_sortedI _) (Kept.refl _ _) (fun k hk=>.inl ?_)⟩
    · have:gb=k:=by simpa [Value.ownBlock] using hk
      rw [← this];exact hp
    · cases hk;exact hp

/-! ### slices_Sorted_int: function 78 (lemmas of our own) -/
section
open Go.Shelf
attribute [local go_sem] Oper.semAt_some
set_option maxRecDepth 100000 in
set_option maxHeartbeats 2000000 in
/-- The iterator of slices.Values over whole numbers, for every loop body that keeps what lay below n₀. -/
theorem vals1_in (F:Fence) (n:Nat) (h7:F.fn 92) (hro:F.round=none) (hn:1≤n) (l Bs n₀ cap:Nat) (ad:Addr) (xs:List Int) (hreach:xs.length≤9223372036854775807) (hb:ad.block < n₀) (J Jx:List Int→World→Prop)
  (hY:∀ pre x W,J pre W→pre.length < xs.length→YieldAt F (n - 1) Try.prog l #[.int .i64 x] W fun e W' =>
   (e=.returned (.bool true)∧J (pre ++ [x]) W'∧Below n₀ W W') ∨ (e=.returned (.bool false)∧Jx (pre ++ [x]) W'))
  (W:World) (hBs:W.cell? ⟨Bs,0,none⟩=some (.slice (some ad) xs.length cap)) (hc:∀ j,j < xs.length→W.cell? (ad.add j)=some (.int .i64 (rd xs j))) (h0:J [] W) :
  CallsIn F n Try.prog 92 #[.func (.yield l) #[] #[],.pointer (some ⟨Bs,0,none⟩)] W fun e W'=>(∃ v,e=.returned v) ∧
   ((∃ ys,ys=xs∧J ys W') ∨ (∃ pre,pre <+: xs∧Jx pre W')):=by
 refine callsIn_of_wp Try.func92 rfl h7 ?_ hro
 simp only [Try.ntmps92,List.size_toArray,List.length_cons,List.length_nil,Nat.reduceAdd,Nat.reduceSub,Array.replicate_succ,Array.replicate_zero,List.push_toArray,List.append_toArray,List.nil_append,List.cons_append]
 gi_wp2
 gi_loopw [7] (fun i wr=>∃ k:Nat,k≤xs.length∧i=.int .i64 k∧J (xs.take k) wr∧Below n₀ W wr)
  (fun i _=>xs.length - (intOf i).toNat)
 case atStart=>exact ⟨0,Nat.zero_le _,rfl,by simpa using h0,Below.refl _ _⟩
 case round =>
  obtain ⟨k,hk,rfl,hJs,hnx⟩:=hrel
  by_cases hlt:k < xs.length
  ·obtain ⟨y,hy⟩:∃ y,y=rd xs k:=⟨_,rfl⟩
   have hcx:wr.cell? (ad.add k)=some (.int .i64 y):=by
    have hbk:(ad.add k).block=ad.block:=by unfold Addr.add;split <;> rfl
    rw [hy]
    exact (hnx.cell (p:=ad.add k) (by rw [hbk];exact hb)).trans (hc k hlt)
   have hsn:Aside0 (xs.take (k+1)=xs.take k ++ [y]):=⟨by rw [List.take_succ_eq_append_getElem hlt,hy];simp [rd,List.getD_eq_getElem?_getD,hlt]⟩
   have hkz:(k:Int) < (xs.length:Int):=by omega
   obtain ⟨fn,tmps,assign,body,hyy,hR⟩:=hY _ y wr hJs (by rw [zz25];omega)
   clear hy
   gi_wp2
   refine hR.mono ?_
   rintro e W3 (⟨rfl,hJ3,hk3⟩ | ⟨rfl,hJx3⟩)
   ·gi_wp2
    go_roundw
    case rel=>exact ⟨k+1,by omega,by go_num,by rw [hsn.out];exact hJ3,hnx.trans hk3⟩
    case measure=>simp [intOf];omega
   ·gi_wp2
    refine bodyPost_ret (results_none rfl _ _ _) rfl ?_
    exact ⟨⟨_,rfl⟩,.inr ⟨_,by rw [← hsn.out];exact List.take_prefix _ _,hJx3⟩⟩
  ·have hkl:xs.length≤k:=by omega
   have hkz:¬ (k:Int) < (xs.length:Int):=by omega
   have hJx:J xs wr:=by rw [List.take_of_length_le hkl] at hJs;exact hJs
   gi_wp2
   go_end0
   exact ⟨⟨_,rfl⟩,.inl (by first | exact hJx | exact ⟨_,rfl,hJx⟩)⟩
set_option maxRecDepth 100000 in
set_option maxHeartbeats 1000000 in
theorem vals1_nil_in (F:Fence) (n:Nat) (h7:F.fn 92) (hro:F.round=none) (l Bs:Nat) (A:Option Addr) (cap:Nat) (J:List Int→World→Prop) (W:World) (hBs:W.cell? ⟨Bs,0,none⟩=some (.slice A 0 cap)) (h0:J [] W) :
  CallsIn F n Try.prog 92 #[.func (.yield l) #[] #[],.pointer (some ⟨Bs,0,none⟩)] W fun e W'=>(∃ v,e=.returned v)∧J [] W':=by
 refine callsIn_of_wp Try.func92 rfl h7 ?_ hro
 simp only [Try.ntmps92,List.size_toArray,List.length_cons,List.length_nil,Nat.reduceAdd,Nat.reduceSub,Array.replicate_succ,Array.replicate_zero,List.push_toArray,List.append_toArray,List.nil_append,List.cons_append]
 gi_wp2
 gi_loopw [7] (fun i wr=>i=.int .i64 0∧J [] wr) (fun _ _=>0)
 case atStart=>exact ⟨rfl,h0⟩
 case round =>
  obtain ⟨rfl,hJs⟩:=hrel
  gi_wp2
  go_end0
  exact ⟨⟨_,rfl⟩,hJs⟩
/-- slices.Values(xs) hands back an iterator that gives xs, in order. -/
theorem vals_stops (F:Fence) (n:Nat) (h7:F.fn 92) (hro:F.round=none) (hn:1≤n) (Bs:Nat) (A:Option Addr) (cap:Nat) (xs:List Int) (w w0:World) (hBs:Bs < w.heap.size) (hn₀:w0.heap.size≤w.heap.size)
  (hc:w.cell? ⟨Bs,0,none⟩=some (.slice A xs.length cap)) (hr:Kd.C (Kd.int .i64) w0 A xs.length xs) (hb0:Below w0.heap.size w0 w) :
  SeqStopsK F n Try.prog 92 #[.pointer (some ⟨Bs,0,none⟩)] (fun x:Int=>#[Value.int .i64 x]) (Below w0.heap.size) (fun ys=>ys=xs) (fun pre=>pre <+: xs) xs.length w:=fun l J Jx W hW _ _ hY h0=>by
 have hc':=(hW.cell (p:=⟨Bs,0,none⟩) hBs).trans hc
 have hb1:Below w0.heap.size w0 W:=hb0.trans (hW.mono hn₀)
 rcases Nat.eq_zero_or_pos xs.length with hz | hz
 ·obtain rfl:xs=[]:=List.eq_nil_of_length_eq_zero hz
  exact (vals1_nil_in F n h7 hro l Bs A cap J W hc' h0).mono fun e W' ⟨he,hj⟩=>⟨he,.inl ⟨_,rfl,hj⟩⟩
 ·obtain ⟨ad,rfl,h1⟩:=Kd.at_int hr 0 (by decide) (by omega)
  have hcell:∀ j,j < xs.length→w0.cell? (ad.add j)=some (.int .i64 (rd xs j)):=fun j hj=>by
   obtain ⟨ad',e,h2⟩:=Kd.at_int hr (j:Int) (by omega) (by omega)
   cases e
   simpa using h2
  have hblk:ad.block < w0.heap.size:=by
   have:=World.block_lt_of_cell? w0 _ h1
   unfold Addr.add at this
   split at this <;> exact this
  refine (vals1_in F n h7 hro hn l Bs w0.heap.size cap ad xs hr.2.1 hblk J Jx hY W hc' (fun j hj=>?_) h0).mono ?_
  ·refine (hb1.cell (p:=ad.add j) ?_).trans (hcell j hj)
   have hbk:(ad.add j).block=ad.block:=by unfold Addr.add;split <;> rfl
   rw [hbk];exact hblk
  ·rintro e W' ⟨he,⟨ys,rfl,hj⟩ | ⟨pre,hp,hj⟩⟩
   ·exact ⟨he,.inl ⟨_,rfl,hj⟩⟩
   ·exact ⟨he,.inr ⟨_,hp,hj⟩⟩
set_option maxRecDepth 100000 in
set_option maxHeartbeats 2000000 in
/-- slices.AppendSeq(nil, slices.Values(xs)): a row of the call's own that holds xs. -/
theorem appendVals_in (F:Fence) (n:Nat) (h3:F.fn 104) (h7:F.fn 92) (hro:F.round=none) (hn:3≤n) (Bs:Nat) (A:Option Addr) (cap:Nat) (xs:List Int) (w:World) (hBs:Bs < w.heap.size)
  (hc:w.cell? ⟨Bs,0,none⟩=some (.slice A xs.length cap)) (hr:Kd.C (Kd.int .i64) w A xs.length xs) (hlen:xs.length≤17592186044416) :
  CallsIn F n Try.prog 104 #[.slice none 0 0,.func (.func 92) #[] #[.pointer (some ⟨Bs,0,none⟩)]] w fun e W'=>∃ v,e=.returned v∧W'.ownsRow w.heap.size 3 1 v xs.length (xs.map (Value.int .i64))∧Below w.heap.size w W':=by
 have h1:1≤n:=by omega
 have hinfo:(Try.prog.info? 3).map (fun i=>(i.zero,i.size,i.bytes))=some (some (.int .i64 0),1,8):=by kernel_rfl
 obtain ⟨i0,hi,hz0,hz1,hz2⟩:=info_parts hinfo
 refine callsIn_of_wp_marks Try.func104 rfl h3 ?_ hro
 simp only [Try.ntmps104,List.size_toArray,List.length_cons,List.length_nil,Nat.reduceAdd,Nat.reduceSub,Array.replicate_succ,Array.replicate_zero,List.push_toArray,List.append_toArray,List.nil_append,List.cons_append]
 gi_wp2
 have bO:=Boxed.new w 40 (.slice none 0 0)
 have hB0:Below w.heap.size w (w.alloc (.cells #[.slice none 0 0] 40)):=(Below.refl _ w).alloc (Nat.le_refl _) _
 have hc0:(w.alloc (.cells #[.slice none 0 0] 40)).cell? ⟨Bs,0,none⟩=some (.slice A xs.length cap):=(hB0.cell (p:=⟨Bs,0,none⟩) hBs).trans hc
 refine wpIn_rangeFunc_ownG hro h1 (gf:=92) (lb:=#[.pointer (some ⟨Bs,0,none⟩)]) rfl h7 (enters_of Try.func92 (by kernel_rfl) rfl)
  (vals_stops F (n - 1) h7 hro (by omega) Bs A cap xs _ w (by simp;omega) (by simp) hc0 hr hB0) belowK_t (belowK_b (by simp)) (Below.refl _ _) (fun _=>rfl)
  (fun pre W=>(∃ v,Boxed W w.heap.size 40 v∧W.ownsRow w.heap.size 3 1 v pre.length (pre.map (Value.int .i64))∧True)∧Below w.heap.size w W)
  (fun _ _ _=>False)
  (OwnFrom.and (Own.from (holdsRow_own w.heap.size w.heap.size 40 3 1 (fun pre:List Int=>pre.length) (fun pre=>pre.map (Value.int .i64)) (fun _ _=>True)) _) (ownFrom_below (Nat.le_refl _) (by simp)))
  (fun _ _ _ _ _ hs _ _=>hs)
  ⟨⟨_,bO,World.ownsRow_nil _ _ _ _,trivial⟩,hB0⟩
  (fun x=>{ tmps:=#[.slice none 0 0,.func (.func 92) #[] #[.pointer (some ⟨Bs,0,none⟩)],.pointer (some ⟨w.heap.size,0,none⟩),undef,.slice none 0 0,.int .i64 x,.func (.func 92) #[] #[.pointer (some ⟨Bs,0,none⟩)],.int .i64 x,undef,undef,undef,undef,undef],defers:=[] }) ?assign ?body ?done ?stop
 case assign =>
  intro l x W K hK
  gi_wp2
  exact hK
 case body =>
  rintro l pre x W ⟨⟨v,hv,hrow,_⟩,hB⟩ hlt
  have hc:=hv.cell
  gi_wp2_with (gi_at_builtin;refine wpListIn_append_own _ rfl _ _ 40 rfl w.heap.size 3 i0 (.int .i64 0) 1 8 Try.underlying40 hi hz0 hz1 hz2 rfl (by decide) _ _ _ rfl (hrow.alloc _) ⟨W.heap.size,0,none⟩ 1 1 [.int .i64 x] rfl rfl (cell_one_new _ _ _) (by simp [Value.oneCell']) (by simp only [maxLen];omega) (by omega) (by have:=hB.size;simp;omega) ?_;intro v' w1 hown' hgrow _;obtain ⟨g',cap',rfl⟩:=ownsRow_succ hown';obtain ⟨hv1,hv2,hr2,hk2,hb2⟩:=hv.appended (by decide) hrow hB.size (Nat.le_refl _) hown' hgrow;have hc1:=hv1.cell;have hf1:=hv1.frozen)
  exact ⟨hk2.from _,hb2,⟨_,hv2,by simpa using hr2,trivial⟩,hB.trans hb2⟩
 case done =>
  rintro D ys W hD rfl ⟨⟨v,hv,hrow,_⟩,hB⟩ hK
  have hc:=hv.cell
  gi_wp2
  refine ⟨by simp,.inl ⟨_,_,rfl,run_takeDeferred hK,?_⟩⟩
  exact ⟨_,results_tmp rfl _ _ _,v,rfl,ownsRow_putObj hrow _ hK rfl,hB.trans (belowK_b (w:=w) (Nat.le_refl _) W D _ _ (by simp at hD;omega) hK rfl rfl)⟩
 case stop =>
  rintro D c pre W _ _ h _
  exact h.elim
end
set_option maxHeartbeats 1000000 in
theorem values_any (A:Option Addr) (n c:Nat) (w:World):Calls Try.prog 79 #[.slice A n c] w fun e w'=>e=.returned (.func (.func 92) #[] #[.pointer (some ⟨w.heap.size,0,none⟩)])∧w'=w.alloc (.cells #[.slice A n c] 40):=by
 go_enter Try.func79,Try.ntmps79
 go_wp2
 go_ret
 exact ⟨rfl,rfl⟩
set_option maxHeartbeats 1000000 in
/-- slices.Sorted(slices.Values(xs)): a row of the call's own: xs, sorted. -/
theorem sortedVals (Bs:Nat) (A:Option Addr) (cap:Nat) (xs:List Int) (w:World) (hBs:Bs < w.heap.size) (hc:w.cell? ⟨Bs,0,none⟩=some (.slice A xs.length cap)) (hr:Kd.C (Kd.int .i64) w A xs.length xs) (hlen:xs.length≤17592186044416) :
  Calls Try.prog 78 #[.func (.func 92) #[] #[.pointer (some ⟨Bs,0,none⟩)]] w fun e w'=>∃ v,e=.returned v∧Kd.R (Kd.int .i64) 3 w' w.heap.size (fun _=>True) v (xs.mergeSort fun x y=>decide (x≤y))∧Below w.heap.size w w':=by
 have cA:=(callsIn_wide (n:=3)).1 (appendVals_in Fence.wide 3 trivial trivial rfl (by omega) Bs A cap xs w hBs hc hr hlen)
 clear hr hc
 have cC:Calls Try.prog 90 #[.func (.func 92) #[] #[.pointer (some ⟨Bs,0,none⟩)]] w fun e W'=>∃ v,e=.returned v∧W'.ownsRow w.heap.size 3 1 v xs.length (xs.map (Value.int .i64))∧Below w.heap.size w W':=by
  go_enter Try.func90,Try.ntmps90
  go_wp2_with (go_at_call 104;refine cA.mono ?_;rintro e w' ⟨v,rfl,hrow,hb⟩)
  go_ret
  exact ⟨v,rfl,hrow,hb⟩
 clear cA
 have R_of:∀ (W:World) (v:Value) (ys:List Int),W.ownsRow w.heap.size 3 1 v ys.length (ys.map (Value.int .i64))→Kd.R (Kd.int .i64) 3 W w.heap.size (fun _=>True) v ys:=fun W v ys h=>Kd.R_of_own (enc:=Value.int .i64) (h1:=fun _=>rfl) h (fun _ _=>trivial)
 have HR:=zz31 R_of
 clear R_of
 go_enter Try.func78,Try.ntmps78
 go_wp2_with (go_at_call 90;refine cC.mono ?_;rintro e W ⟨v,rfl,hrow,hb⟩)
 rcases hrow.2 with ⟨rfl,hz⟩ | ⟨gb,cp,cur,rfl,hbase,hgb,r1,r2,r3,r4⟩
 ·have hx:xs=[]:=List.eq_nil_of_length_eq_zero hz
  subst hx
  have HB:=zz31 hb
  clear hb hrow hz
  go_wp2_with (go_at_call 91;refine (sortNone none 0 _).mono ?_;rintro e w' ⟨rfl,rfl⟩)
  go_ret
  exact ⟨_,rfl,by simpa using Kd.R_nil _ _ _ _ _,HB.out⟩
 ·have hH:Go.Sort.Holds (Value.int .i64) W gb 0 xs.toArray:=holds_of_blockI hgb (by simpa using r4)
  have hgl:gb < W.heap.size:=(Array.getElem?_eq_some_iff.1 hgb).1
  have cS:=sortInts gb 0 cp xs W hH hgl (by omega)
  have HB:=zz31 hb
  have HG:=zz31 hgb
  have R1:=zz31 r1
  have R2:=zz31 r2
  have R3:=zz31 r3
  clear hrow hb hgb r1 r2 r3 r4 hH hgl
  go_wp2_with (go_at_call 91;refine cS.mono ?_;rintro e w' ⟨rfl,nn,os,rfl⟩)
  go_ret
  have hml:(xs.mergeSort fun x y=>decide (x≤y)).length=xs.length:=List.length_mergeSort _
  exact ⟨_,rfl,HR.out _ _ _ (by rw [hml];exact ownsRow_sortedI hml hbase HG.out R1.out R2.out R3.out),HB.out.grown (grownBy_sortedI _) HB.out.size (fun j hj=>by cases hj;exact hbase)⟩

-- NOT PRINTED: function 92 (slices_Values_int_int_1)

-- NOT PRINTED: function 79 (slices_Values_int_int)

/-! ### impl_upTo: function 80 -/
def impl_upTo.l0:Nat→List Int→Int→Int→Option (List Int)
 | 0,_,_,_=>none
 | k+1,x3,x6,x7=>if x7 < x6 then (if x3.length < 17592186044416 then (impl_upTo.l0 k (x3 ++ [x7]) x6 (wrap64 (x7+1))) else (none)) else (some x3)
def impl_upTo.f (k:Nat) (a0:Int):Option (List Int):=impl_upTo.l0 k (([]:List Int)) a0 0
theorem impl_upTo.mono_l:∀ k,(∀ y0 y1 y2,LeO (impl_upTo.l0 k y0 y1 y2) (impl_upTo.l0 (k+1) y0 y1 y2))
 | 0=>fun _ _ _ r h=>by simp [impl_upTo.l0] at h
 | k+1=>by
  have ih0:=impl_upTo.mono_l k
  ·intro y0 y1 y2
   unfold impl_upTo.l0
   repeat' first
   | (with_reducible exact ih0 _ _ _)
   | (with_reducible exact LeO.refl _)
   | (with_reducible exact LeO.none _)
   | (with_reducible refine LeO.ite ?_ ?_)
   | (with_reducible refine LeO.bind ?_ (fun _=>?_))
   | exact ih0 _ _ _
   | exact LeO.none _
   | refine LeO.ite ?_ ?_
   | refine LeO.bind ?_ (fun _=>?_)
theorem impl_upTo.mono:∀ a0 k,LeO (impl_upTo.f k a0) (impl_upTo.f (k+1) a0):=by
 intro a0 k
 have ih0:=impl_upTo.mono_l k
 unfold impl_upTo.f
 repeat' first
   | (with_reducible exact ih0 _ _ _)
   | (with_reducible exact LeO.refl _)
   | (with_reducible exact LeO.none _)
   | (with_reducible refine LeO.ite ?_ ?_)
   | (with_reducible refine LeO.bind ?_ (fun _=>?_))
   | exact ih0 _ _ _
   | exact LeO.none _
   | refine LeO.ite ?_ ?_
   | refine LeO.bind ?_ (fun _=>?_)
set_option maxHeartbeats 8000000 in
set_option maxRecDepth 100000 in
theorem impl_upTo.calls (k:Nat) (a0:Int) (r:List Int) (w:World) (h:impl_upTo.f k a0=some r) :
  Calls Try.prog 80 #[.int .i64 a0] w fun e w'=>∃ v0_:Value,e=.returned (v0_)∧Kd.R (Kd.int .i64) 3 w' w.heap.size (fun _=>True) v0_ r∧Below w.heap.size w w':=by
 have HB:=zz31 (Below.refl w.heap.size w)
 have H:(impl_upTo.l0 k (([]:List Int)) a0 0)=some r:=h
 clear h
 obtain ⟨y237,hy237⟩:∃ y_:List Int,y_=(([]:List Int)):=⟨_,rfl⟩
 replace H:(impl_upTo.l0 k y237 a0 0)=some r:=by first | (rw [hy237];with_reducible exact H) | (have H2_:=(Option.bind_some _ _).symm.trans H;rw [hy237];with_reducible exact H2_) | (have H2_:=(Option.bind_some _ _).symm.trans H;with_reducible exact H2_) | with_reducible exact H | (rw [hy237];exact H) | exact H
 have Ny237:=zz31 hy237
 clear hy237
 have H':=zz31 H
 clear H
 go_enter Try.func80,Try.ntmps80
 go_wp2_with (first | ((with_reducible refine gate_dst (N:=5) rfl ?_);refine Kd.R_lit (Kd.int .i64) _ 3 ?hg (N:=5) ?hd (xs:=([]:List Int)) (inner:=[]) (ok:=fun _=>True) (okp:=fun _=>True) ?hr ?hp (fun _ hk=>hk) trivial (Below.refl _ _) (Nat.le_refl _) (by simp) ?_;(case hd=>rfl);(case hg=>rfl);(case hr=>first | (go_simp;done) | (go_simp;rfl));(case hp=>exact (Reps.none _ _));intro v238 w2 ho3 hb hg_ hnew_;clear hg_ hnew_;(first | rw [← Ny237.out] at ho3 | (simp only [Int.reduceToNat] at ho3;rw [← Ny237.out] at ho3));have n0_:=zz31 (Kd.R_lower ho3 (zz5 (by repeat first | exact HB.out | apply zz2 | apply zz0 | apply zz1)));have n1_:=zz31 (zz4 (by repeat first | exact HB.out | apply zz2 | apply zz0 | apply zz1) hb);clear HB;have HO239:=n0_;have HB:=n1_;clear n0_ n1_;clear hb ho3))
 go_loopg [3,7] k (fun kq v3 v7 w'=>∃ (x3_1:List Int) (x7_1:Int),v7=.int .i64 x7_1∧Aside0 (impl_upTo.l0 kq x3_1 a0 x7_1=some r)∧Aside0 (kq≤k)∧Aside0 (Kd.R (Kd.int .i64) 3 w' w.heap.size (fun _=>True) v3 x3_1)∧Aside0 (Below w.heap.size w w'))
 case atStart=>exact ⟨(y237),(0),(by first | rfl | (simp;done) | (simp [*];done)),H',⟨Nat.le_refl _⟩,⟨by (with_reducible repeat (first | apply zz12 | apply zz13 | apply zz14));exact HO239.out⟩,⟨by repeat first | exact HB.out | apply zz2 | apply zz0 | apply zz1⟩⟩
 case round =>
  clear H'
  try clear p2
  obtain ⟨x3_1,x7_1,rfl,HA,HK1,HO_3,HB⟩:=hrel
  cases gk with
  | zero=>exact absurd HA.out (by simp [impl_upTo.l0])
  | succ k1 =>
   have H:=HA.out
   clear HA
   simp only [impl_upTo.l0] at H
   by_cases c4:x7_1 < a0
   ·rw [if_pos c4] at H
    have c4b0:decide (x7_1 < a0)=true:=decide_eq_true c4
    clear c4
    by_cases c5:x3_1.length < 17592186044416
    ·rw [if_pos c5] at H
     have LMc5:=zz31 c5
     clear c5
     obtain ⟨y240,hy240⟩:∃ y_:List Int,y_=(x3_1 ++ [x7_1]):=⟨_,rfl⟩
     replace H:(impl_upTo.l0 k1 y240 a0 (wrap64 (x7_1+1)))=some r:=by first | (rw [hy240];with_reducible exact H) | (have H2_:=(Option.bind_some _ _).symm.trans H;rw [hy240];with_reducible exact H2_) | (have H2_:=(Option.bind_some _ _).symm.trans H;with_reducible exact H2_) | with_reducible exact H | (rw [hy240];exact H) | exact H
     have Ny240:=zz31 hy240
     clear hy240
     have H':=zz31 H
     clear H
     go_wp2_with (first | ((with_reducible refine gate_builtin (b:=.append) (xs:=#[.tmp 10,.tmp 12]) rfl ?_);at_builtin;refine Kd.R_append (Kd.int .i64) (w0:=w) w.heap.size rfl (.tmp 10) (.tmp 12) 40 3 (.int .i64 0) 8 rfl Try.underlying40 info3 rfl (by decide) (by omega) u3 x3_1 x7_1 [.int .i64 x7_1] (fun _=>True) (fun _=>False) rfl rfl ?aP (fun _ hk=>hk.elim) ?aF ?aO ?aB ?aS ?aL ?_;(case aP=>exact rfl);(case aB=>exact (by repeat first | exact HB.out | apply zz2 | apply zz0 | apply zz1));(case aF=>exact (fun _ _=>trivial));(case aO=>exact (by (with_reducible repeat (first | apply zz12 | apply zz13 | apply zz14));exact HO_3.out));(case aS=>exact (zz5 (by repeat first | exact HB.out | apply zz2 | apply zz0 | apply zz1)));(case aL=>have:=LMc5.out;omega);intro v241 w6 ho hb hg hat;rw [← Ny240.out] at ho;have n0_:=zz31 (hb);have n1_:=zz31 (ho);clear HB;clear HO_3;have HB:=n0_;have HO242:=n1_;clear n0_ n1_;clear ho hb hg hat))
     go_roundg k1
     case measure=>have:=HK1.out;omega
     case rel=>exact ⟨(y240),(wrap64 (x7_1+1)),(by first | rfl | (simp;done) | (simp [*];done)),H',⟨by have:=HK1.out;omega⟩,⟨by (with_reducible repeat (first | apply zz12 | apply zz13 | apply zz14));exact HO242.out⟩,⟨by repeat first | exact HB.out | apply zz2 | apply zz0 | apply zz1⟩⟩
    ·rw [if_neg c5] at H
     exact absurd H (by simp)
   ·rw [if_neg c4] at H
    have c4b0:decide (x7_1 < a0)=false:=decide_eq_false c4
    clear c4
    obtain rfl:=Option.some.inj H
    go_wp2
    go_ret
    exact ⟨_,by first | rfl | (simp [errW_none,errW_some] <;> rfl) | (simp [*,errW_none,errW_some] <;> rfl),by (with_reducible repeat (first | apply zz12 | apply zz13 | apply zz14));exact HO_3.out,by repeat first | exact HB.out | apply zz2 | apply zz0 | apply zz1⟩

/-! ### impl_isPermutation: function 51 (a contract of our own) -/
def impl_isPermutation.f (k:Nat) (l0:List Int) (a1:Int):Option (Bool):=if l0.length≤17592186044416 then (impl_upTo.f k a1).bind fun u=>slices_Equal_int_int.f k (l0.mergeSort fun x y=>decide (x≤y)) u else none
theorem impl_isPermutation.mono:∀ a0 a1 k,LeO (impl_isPermutation.f k a0 a1) (impl_isPermutation.f (k+1) a0 a1):=by
 intro a0 a1 k
 unfold impl_isPermutation.f
 exact LeO.ite (LeO.bind (impl_upTo.mono _ _) fun u=>slices_Equal_int_int.mono _ _ _) (LeO.none _)
set_option maxHeartbeats 1000000 in
set_option maxRecDepth 100000 in
theorem impl_isPermutation.calls (k:Nat) (A0:Option Addr) (c0:Nat) (l0:List Int) (a1:Int) (r:Bool) (w:World) (hr0:Kd.C (Kd.int .i64) w A0 l0.length l0) (hc0:l0.length≤c0) (h:impl_isPermutation.f k l0 a1=some r) :
  Calls Try.prog 51 #[.slice A0 l0.length c0,.int .i64 a1] w fun e w'=>e=.returned (.bool r)∧Below w.heap.size w w':=by
 unfold impl_isPermutation.f at h
 by_cases hl:l0.length≤17592186044416
 case neg=>rw [if_neg hl] at h;exact absurd h (by simp)
 rw [if_pos hl] at h
 obtain ⟨u,hu,h⟩:=zz30.1 h
 have HC1:=zz31 (zz18 hr0 (.cells #[.slice A0 l0.length c0] 40))
 have HB1:=zz31 (zz2 (Below.refl w.heap.size w) (.cells #[.slice A0 l0.length c0] 40))
 have HL:=zz31 hl
 have HU:=zz31 hu
 obtain ⟨S,hS⟩:∃ S,S=l0.mergeSort fun x y=>decide (x≤y):=⟨_,rfl⟩
 rw [← hS] at h
 have HSE:=zz31 hS
 have HE:=zz31 h
 have HS1:Aside0 (w.heap.size < (w.alloc (.cells #[.slice A0 l0.length c0] 40)).heap.size):=⟨by simp⟩
 have HX1:=zz31 (show (w.alloc (.cells #[.slice A0 l0.length c0] 40)).cell? ⟨w.heap.size,0,none⟩=some (.slice A0 l0.length c0) from World.cell?_alloc_new w _ _ 0)
 clear hr0 hl hu h hS
 go_enter Try.func51,Try.ntmps51
 go_wp2_with (first | (go_at_call 79; refine (values_any A0 l0.length c0 w).mono ?_; rintro e w' ⟨rfl, rfl⟩) | (go_at_call 78; refine (sortedVals w.heap.size A0 c0 l0 _ HS1.out HX1.out HC1.out HL.out).mono ?_; rintro e w2 ⟨v2, rfl, ho, hb⟩; rw [← HSE.out] at ho; obtain ⟨A2, c2, rfl⟩ := Kd.R_slice ho; have HR2 := zz31 ho; have HB2 := zz31 (zz4 HB1.out hb); clear ho hb) | (go_at_call 80; refine (impl_upTo.calls k a1 u _ HU.out).mono ?_; rintro e w3 ⟨v3, rfl, ho, hb⟩; obtain ⟨A3, c3, rfl⟩ := Kd.R_slice ho; have HR3 := zz31 ho; have HR23 := zz31 (Kd.R_below HR2.out hb); have HB3 := zz31 (zz4 HB2.out hb); clear ho hb) | (go_at_call 77; refine (slices_Equal_int_int.calls k A2 c2 S A3 c3 u r _ (Kd.R_reads' HR23.out).2.2 (Kd.R_reads' HR23.out).2.1 (Kd.R_reads' HR3.out).2.2 (Kd.R_reads' HR3.out).2.1 HE.out).mono ?_; rintro e w4 ⟨rfl, hd⟩; obtain ⟨q, hq⟩ := hd.out; subst hq) | (fail "no arm"))
 refine bodyPost_ret (results_tmp rfl _ _ _) rfl ?_
 exact ⟨rfl,by repeat first | exact HB3.out | apply zz0 | apply below_drew⟩

/-! ### impl_RenameParty: function 21 -/
def impl_RenameParty.f (k:Nat) (a0_0:Int) (l0_1:List (S70)) (l1:List Int):Option (Int × (List (S70)) × Bool):=(impl_IsParty.f k a0_0 l0_1).bind fun t245=>(if t245=true then ((impl_isPermutation.f k l1 a0_0).bind fun t246=>(if t246=true then ((impl_renamed.f k a0_0 l0_1 l1).bind fun bt247=>(some (bt247.1,bt247.2,true))) else (some (0,([]:List (S70)),false)))) else (some (0,([]:List (S70)),false)))
theorem impl_RenameParty.mono:∀ a0 a1 a2 k,LeO (impl_RenameParty.f k a0 a1 a2) (impl_RenameParty.f (k+1) a0 a1 a2):=by
 intro a0 a1 a2 k
 unfold impl_RenameParty.f
 repeat' first
   | (with_reducible exact impl_IsParty.mono _ _ _)
   | (with_reducible exact impl_isPermutation.mono _ _ _)
   | (with_reducible exact impl_renamed.mono _ _ _ _)
   | (with_reducible exact LeO.refl _)
   | (with_reducible exact LeO.none _)
   | (with_reducible refine LeO.ite ?_ ?_)
   | (with_reducible refine LeO.bind ?_ (fun _=>?_))
   | exact impl_IsParty.mono _ _ _
   | exact impl_isPermutation.mono _ _ _
   | exact impl_renamed.mono _ _ _ _
   | exact LeO.none _
   | refine LeO.ite ?_ ?_
   | refine LeO.bind ?_ (fun _=>?_)
set_option maxHeartbeats 8000000 in
set_option maxRecDepth 100000 in
theorem impl_RenameParty.calls (k:Nat) (a0_0:Int) (A0_1:Option Addr) (c0_1:Nat) (l0_1:List (S70)) (A1:Option Addr) (c1:Nat) (l1:List Int) (r1:Int) (r2:List (S70)) (r3:Bool) (w:World) (hr0_1:Kd.C k70 w A0_1 l0_1.length l0_1) (hc0_1:l0_1.length≤c0_1) (hr1:Kd.C (Kd.int .i64) w A1 l1.length l1) (hc1:l1.length≤c1) (h:impl_RenameParty.f k a0_0 l0_1 l1=some (r1,r2,r3)) :
  Calls Try.prog 21 #[.agg #[.int .i64 a0_0,.slice A0_1 l0_1.length c0_1],.slice A1 l1.length c1] w fun e w'=>∃ v1_:Value,e=.returned (.tuple #[.agg #[.int .i64 r1,v1_],.bool r3])∧Kd.R k70 70 w' w.heap.size (fun _=>True) v1_ r2∧Below w.heap.size w w':=by
 have hu30:=Try.underlying30
 have HR0_1:=zz31 hr0_1
 have HC0_1:=zz31 hc0_1
 clear hr0_1 hc0_1
 have HR1:=zz31 hr1
 have HC1:=zz31 hc1
 clear hr1 hc1
 have HB:=zz31 (Below.refl w.heap.size w)
 have H:((impl_IsParty.f k a0_0 l0_1).bind fun t245=>(if t245=true then ((impl_isPermutation.f k l1 a0_0).bind fun t246=>(if t246=true then ((impl_renamed.f k a0_0 l0_1 l1).bind fun bt247=>(some (bt247.1,bt247.2,true))) else (some (0,([]:List (S70)),false)))) else (some (0,([]:List (S70)),false))))=some (r1,r2,r3):=h
 clear h
 replace H:=zz30.mp H
 obtain ⟨t245,A30,H⟩:=H
 replace H:(if t245=true then ((impl_isPermutation.f k l1 a0_0).bind fun t246=>(if t246=true then ((impl_renamed.f k a0_0 l0_1 l1).bind fun bt247=>(some (bt247.1,bt247.2,true))) else (some (0,([]:List (S70)),false)))) else (some (0,([]:List (S70)),false)))=some (r1,r2,r3):=H
 have A3:=zz31 A30
 clear A30
 by_cases c4:t245=true
 ·subst c4
  have H1:((impl_isPermutation.f k l1 a0_0).bind fun t246=>(if t246=true then ((impl_renamed.f k a0_0 l0_1 l1).bind fun bt247=>(some (bt247.1,bt247.2,true))) else (some (0,([]:List (S70)),false))))=some (r1,r2,r3):=by rw [if_pos rfl] at H;exact H
  clear H
  have H:=H1
  clear H1
  replace H:=zz30.mp H
  obtain ⟨t246,A50,H⟩:=H
  replace H:(if t246=true then ((impl_renamed.f k a0_0 l0_1 l1).bind fun bt247=>(some (bt247.1,bt247.2,true))) else (some (0,([]:List (S70)),false)))=some (r1,r2,r3):=H
  have A5:=zz31 A50
  clear A50
  by_cases c6:t246=true
  ·subst c6
   have H1:((impl_renamed.f k a0_0 l0_1 l1).bind fun bt247=>(some (bt247.1,bt247.2,true)))=some (r1,r2,r3):=by rw [if_pos rfl] at H;exact H
   clear H
   have H:=H1
   clear H1
   replace H:=zz30.mp H
   obtain ⟨⟨t247,t248⟩,A70,H⟩:=H
   replace H:(some (t247,t248,true))=some (r1,r2,r3):=H
   have A7:=zz31 A70
   clear A70
   simp only [Option.some.injEq,Prod.mk.injEq] at H
   obtain ⟨rfl,rfl,rfl⟩:=H
   go_enter Try.func21,Try.ntmps21
   go_wp2_with (first | ((with_reducible refine gate_dst (N:=2) rfl ?_);refine box_event ?hg (N:=2) ?hd (cs:=#[.int .i64 a0_0,.slice A0_1 l0_1.length c0_1]) (t:=30) ?hr ?_;(case hd=>rfl);(case hg=>rfl);(case hr=>first | (go_simp;done) | (go_simp;rfl));intro gb243 hg w8 hbox hb;have n0_:=zz31 (zz4 (by repeat first | exact HB.out | apply zz2 | apply zz0 | apply zz1) hb);have n1_:=zz31 (hbox);have n2_:=zz31 ((by rw [hg];exact (zz5 (by repeat first | exact HB.out | apply zz2 | apply zz0 | apply zz1)):w.heap.size≤gb243));have n3_:=zz31 ((by rw [hg];exact (zz5 (by repeat first | exact HB.out | apply zz2 | apply zz0 | apply zz1)):w.heap.size≤gb243));clear HB;have HB:=n0_;have BK243:=n1_;have GW243:=n2_;have GE243:=n3_;clear n0_ n1_ n2_ n3_;clear hb hbox hg) | ((with_reducible refine gate_dst (N:=4) rfl ?_);refine box_event ?hg (N:=4) ?hd (cs:=#[.int .i64 0,.slice none 0 0]) (t:=30) ?hr ?_;(case hd=>rfl);(case hg=>rfl);(case hr=>first | (go_simp;done) | (go_simp;rfl));intro gb244 hg w9 hbox hb;have n0_:=zz31 (zz11 (g:=gb243) (o:=.cells #[.int .i64 a0_0,.slice A0_1 l0_1.length c0_1] 30 (0,0)) (by (with_reducible repeat (first | refine zz6 ?_ _ | refine zz7 ?_ | refine zz8 ?_ _));exact BK243.out) hb);have n1_:=zz31 (zz4 (by repeat first | exact HB.out | apply zz2 | apply zz0 | apply zz1 | refine zz3 ?_ GE243.out) hb);have n2_:=zz31 (hbox);have n3_:=zz31 ((by rw [hg];exact (zz5 (by repeat first | exact HB.out | apply zz2 | apply zz0 | apply zz1 | refine zz3 ?_ GE243.out)):w.heap.size≤gb244));have n4_:=zz31 ((by rw [hg];exact (zz5 (by repeat first | exact HB.out | apply zz2 | apply zz0 | apply zz1 | refine zz3 ?_ GE243.out)):w.heap.size≤gb244));have n5_:=zz31 ((by rw [hg];exact Nat.ne_of_lt (blk_lt (g:=gb243) (o:=.cells #[.int .i64 a0_0,.slice A0_1 l0_1.length c0_1] 30 (0,0)) (by (with_reducible repeat (first | refine zz6 ?_ _ | refine zz7 ?_ | refine zz8 ?_ _));exact BK243.out)):gb243 ≠ gb244));have n6_:=zz31 ((by rw [hg];exact Nat.ne_of_gt (blk_lt (g:=gb243) (o:=.cells #[.int .i64 a0_0,.slice A0_1 l0_1.length c0_1] 30 (0,0)) (by (with_reducible repeat (first | refine zz6 ?_ _ | refine zz7 ?_ | refine zz8 ?_ _));exact BK243.out)):gb244 ≠ gb243));clear BK243;clear HB;have BK243:=n0_;have HB:=n1_;have BK244:=n2_;have GW244:=n3_;have GE244:=n4_;have NB243_244:=n5_;have NB244_243:=n6_;clear n0_ n1_ n2_ n3_ n4_ n5_ n6_;clear hb hbox hg;have hnb10:=NB243_244.out;have hnc10:=NB244_243.out;have hcz11_0:w9.cell? ⟨gb243,0,none⟩=some (.int .i64 a0_0):=(zz9 BK243.out 0).trans rfl;have hcz11_1:w9.cell? ⟨gb243,1,none⟩=some (.slice A0_1 l0_1.length c0_1):=(zz9 BK243.out 1).trans rfl;have hfz11_0:=zz10 BK243.out 0;have hfz11_1:=zz10 BK243.out 1) | ((with_reducible refine gate_callee (f:=50) rfl ?_);refine goesL_ (some 7) rfl rfl Try.func50 (by kernel_rfl) rfl #[.agg #[.int .i64 a0_0,.slice A0_1 l0_1.length c0_1]] rfl (by (try simp only [zz26,zz27,zz28]);first | done | rfl | (simp only [zz24,zz25];rfl)) ?_;(with_reducible refine (impl_IsParty.calls k a0_0 _ _ l0_1 true _ ?side1 ?side2 A3.out).mono ?_);(case side1=>repeat (first | exact (Kd.C_below HR0_1.out HB.out) | (with_reducible refine zz18 ?_ _) | (with_reducible refine zz19 ?_ _) | (with_reducible refine zz20 ?_)));(case side2=>exact HC0_1.out);rintro e w12 ⟨rfl,hb⟩;refine ⟨_,rfl,?_⟩;have n0_:=zz31 (zz11 (g:=gb243) (o:=.cells #[.int .i64 a0_0,.slice A0_1 l0_1.length c0_1] 30 (0,0)) (by (with_reducible repeat (first | refine zz6 ?_ _ | refine zz7 ?_ | refine zz8 ?_ _));exact BK243.out) hb);have n1_:=zz31 (zz11 (g:=gb244) (o:=.cells #[.int .i64 0,.slice none 0 0] 30 (0,0)) (by (with_reducible repeat (first | refine zz6 ?_ _ | refine zz7 ?_ | refine zz8 ?_ _));exact BK244.out) hb);have n2_:=zz31 (zz4 (by repeat first | exact HB.out | apply zz2 | apply zz0 | apply zz1 | refine zz3 ?_ GE243.out | refine zz3 ?_ GE244.out) hb);clear BK243;clear BK244;clear HB;have BK243:=n0_;have BK244:=n1_;have HB:=n2_;clear n0_ n1_ n2_;(try clear hb);(try clear hb2);(try clear hk);(try clear hi);have hcz13_0:w12.cell? ⟨gb243,0,none⟩=some (.int .i64 a0_0):=(zz9 BK243.out 0).trans rfl;have hcz13_1:w12.cell? ⟨gb243,1,none⟩=some (.slice A0_1 l0_1.length c0_1):=(zz9 BK243.out 1).trans rfl;have hfz13_0:=zz10 BK243.out 0;have hfz13_1:=zz10 BK243.out 1) | (go_at_call 51;(with_reducible refine (impl_isPermutation.calls k _ _ l1 a0_0 true _ ?side1 ?side2 A5.out).mono ?_);(case side1=>repeat (first | exact (Kd.C_below HR1.out HB.out) | (with_reducible refine zz18 ?_ _) | (with_reducible refine zz19 ?_ _) | (with_reducible refine zz20 ?_)));(case side2=>exact HC1.out);rintro e w14 ⟨rfl,hb⟩;have n0_:=zz31 (zz11 (g:=gb243) (o:=.cells #[.int .i64 a0_0,.slice A0_1 l0_1.length c0_1] 30 (0,0)) (by (with_reducible repeat (first | refine zz6 ?_ _ | refine zz7 ?_ | refine zz8 ?_ _));exact BK243.out) hb);have n1_:=zz31 (zz11 (g:=gb244) (o:=.cells #[.int .i64 0,.slice none 0 0] 30 (0,0)) (by (with_reducible repeat (first | refine zz6 ?_ _ | refine zz7 ?_ | refine zz8 ?_ _));exact BK244.out) hb);have n2_:=zz31 (zz4 (by repeat first | exact HB.out | apply zz2 | apply zz0 | apply zz1 | refine zz3 ?_ GE243.out | refine zz3 ?_ GE244.out) hb);clear BK243;clear BK244;clear HB;have BK243:=n0_;have BK244:=n1_;have HB:=n2_;clear n0_ n1_ n2_;(try clear hb);(try clear hb2);(try clear hk);(try clear hi);have hcz15_0:w14.cell? ⟨gb243,0,none⟩=some (.int .i64 a0_0):=(zz9 BK243.out 0).trans rfl;have hcz15_1:w14.cell? ⟨gb243,1,none⟩=some (.slice A0_1 l0_1.length c0_1):=(zz9 BK243.out 1).trans rfl;have hfz15_0:=zz10 BK243.out 0;have hfz15_1:=zz10 BK243.out 1) | ((with_reducible refine gate_callee (f:=41) rfl ?_);refine goesL_ (some 19) rfl rfl Try.func41 (by kernel_rfl) rfl #[.agg #[.int .i64 a0_0,.slice A0_1 l0_1.length c0_1],.slice A1 l1.length c1] rfl (by (try simp only [zz26,zz27,zz28]);first | done | rfl | (simp only [zz24,zz25];rfl)) ?_;(with_reducible refine (impl_renamed.calls k a0_0 _ _ l0_1 _ _ l1 t247 t248 _ ?side1 ?side2 ?side3 ?side4 A7.out).mono ?_);(case side1=>repeat (first | exact (Kd.C_below HR0_1.out HB.out) | (with_reducible refine zz18 ?_ _) | (with_reducible refine zz19 ?_ _) | (with_reducible refine zz20 ?_)));(case side2=>exact HC0_1.out);(case side3=>repeat (first | exact (Kd.C_below HR1.out HB.out) | (with_reducible refine zz18 ?_ _) | (with_reducible refine zz19 ?_ _) | (with_reducible refine zz20 ?_)));(case side4=>exact HC1.out);rintro e w16 ⟨v249,rfl,ho0,hb⟩;refine ⟨_,rfl,?_⟩;have n0_:=zz31 (Kd.R_lower ho0 (zz5 (by repeat first | exact HB.out | apply zz2 | apply zz0 | apply zz1 | refine zz3 ?_ GE243.out | refine zz3 ?_ GE244.out)));have n1_:=zz31 (zz11 (g:=gb243) (o:=.cells #[.int .i64 a0_0,.slice A0_1 l0_1.length c0_1] 30 (0,0)) (by (with_reducible repeat (first | refine zz6 ?_ _ | refine zz7 ?_ | refine zz8 ?_ _));exact BK243.out) hb);have n2_:=zz31 (zz11 (g:=gb244) (o:=.cells #[.int .i64 0,.slice none 0 0] 30 (0,0)) (by (with_reducible repeat (first | refine zz6 ?_ _ | refine zz7 ?_ | refine zz8 ?_ _));exact BK244.out) hb);have n3_:=zz31 (zz4 (by repeat first | exact HB.out | apply zz2 | apply zz0 | apply zz1 | refine zz3 ?_ GE243.out | refine zz3 ?_ GE244.out) hb);clear BK243;clear BK244;clear HB;have HO250:=n0_;have BK243:=n1_;have BK244:=n2_;have HB:=n3_;clear n0_ n1_ n2_ n3_;(try clear hb);(try clear hb2);(try clear hk);(try clear hi);(try clear ho0);have hcz17_0:w16.cell? ⟨gb244,0,none⟩=some (.int .i64 0):=(zz9 BK244.out 0).trans rfl;have hcz17_1:w16.cell? ⟨gb244,1,none⟩=some (.slice none 0 0):=(zz9 BK244.out 1).trans rfl;have hfz17_0:=zz10 BK244.out 0;have hfz17_1:=zz10 BK244.out 1;obtain ⟨Ao18,co18,eo18⟩:=Kd.R_slice HO250.out;subst eo18))
   refine bodyPost_ret (results_ct rfl _ _ gb244 30 #[.int .i64 t247,.slice Ao18 t248.length co18] (0,0) _ rfl (by (with_reducible repeat (first | refine zz6 ?_ _ | refine zz7 ?_ | refine zz8 ?_ _));refine blk_put (cs:=#[.int .i64 t247,.slice none 0 0]) ?_ 1 _ rfl;(with_reducible repeat (first | refine zz6 ?_ _ | refine zz7 ?_ | refine zz8 ?_ _));refine blk_put (cs:=#[.int .i64 0,.slice none 0 0]) ?_ 0 _ rfl;(with_reducible repeat (first | refine zz6 ?_ _ | refine zz7 ?_ | refine zz8 ?_ _));exact BK244.out) Try.underlying30 rfl (by kernel_rfl)) rfl ?_
   exact ⟨_,by first | rfl | (simp [errW_none,errW_some] <;> rfl) | (simp [*,errW_none,errW_some] <;> rfl),by (with_reducible repeat (first | apply zz12 | apply zz13 | apply zz14));exact Kd.R_mono (Kd.R_far (p:=⟨gb244,1,none⟩) (Kd.R_far (p:=⟨gb244,0,none⟩) (Kd.R_types HO250.out BK244.out (by decide)) (fun _ hk=>hk.2) (.int .i64 t247)) (fun _ hk=>hk.2) (.slice Ao18 t248.length co18)) (fun _ hk=>trivial),by repeat first | exact HB.out | apply zz2 | apply zz0 | apply zz1 | refine zz3 ?_ GE243.out | refine zz3 ?_ GE244.out⟩
  ·replace c6:=Bool.eq_false_iff.mpr c6
   subst c6
   have H1:(some (0,([]:List (S70)),false))=some (r1,r2,r3):=by rw [if_neg (show ¬ (false=true) by decide)] at H;exact H
   clear H
   have H:=H1
   clear H1
   simp only [Option.some.injEq,Prod.mk.injEq] at H
   obtain ⟨rfl,rfl,rfl⟩:=H
   go_enter Try.func21,Try.ntmps21
   go_wp2_with (first | ((with_reducible refine gate_dst (N:=2) rfl ?_);refine box_event ?hg (N:=2) ?hd (cs:=#[.int .i64 a0_0,.slice A0_1 l0_1.length c0_1]) (t:=30) ?hr ?_;(case hd=>rfl);(case hg=>rfl);(case hr=>first | (go_simp;done) | (go_simp;rfl));intro gb243 hg w19 hbox hb;have n0_:=zz31 (zz4 (by repeat first | exact HB.out | apply zz2 | apply zz0 | apply zz1) hb);have n1_:=zz31 (hbox);have n2_:=zz31 ((by rw [hg];exact (zz5 (by repeat first | exact HB.out | apply zz2 | apply zz0 | apply zz1)):w.heap.size≤gb243));have n3_:=zz31 ((by rw [hg];exact (zz5 (by repeat first | exact HB.out | apply zz2 | apply zz0 | apply zz1)):w.heap.size≤gb243));clear HB;have HB:=n0_;have BK243:=n1_;have GW243:=n2_;have GE243:=n3_;clear n0_ n1_ n2_ n3_;clear hb hbox hg) | ((with_reducible refine gate_dst (N:=4) rfl ?_);refine box_event ?hg (N:=4) ?hd (cs:=#[.int .i64 0,.slice none 0 0]) (t:=30) ?hr ?_;(case hd=>rfl);(case hg=>rfl);(case hr=>first | (go_simp;done) | (go_simp;rfl));intro gb244 hg w20 hbox hb;have n0_:=zz31 (zz11 (g:=gb243) (o:=.cells #[.int .i64 a0_0,.slice A0_1 l0_1.length c0_1] 30 (0,0)) (by (with_reducible repeat (first | refine zz6 ?_ _ | refine zz7 ?_ | refine zz8 ?_ _));exact BK243.out) hb);have n1_:=zz31 (zz4 (by repeat first | exact HB.out | apply zz2 | apply zz0 | apply zz1 | refine zz3 ?_ GE243.out) hb);have n2_:=zz31 (hbox);have n3_:=zz31 ((by rw [hg];exact (zz5 (by repeat first | exact HB.out | apply zz2 | apply zz0 | apply zz1 | refine zz3 ?_ GE243.out)):w.heap.size≤gb244));have n4_:=zz31 ((by rw [hg];exact (zz5 (by repeat first | exact HB.out | apply zz2 | apply zz0 | apply zz1 | refine zz3 ?_ GE243.out)):w.heap.size≤gb244));have n5_:=zz31 ((by rw [hg];exact Nat.ne_of_lt (blk_lt (g:=gb243) (o:=.cells #[.int .i64 a0_0,.slice A0_1 l0_1.length c0_1] 30 (0,0)) (by (with_reducible repeat (first | refine zz6 ?_ _ | refine zz7 ?_ | refine zz8 ?_ _));exact BK243.out)):gb243 ≠ gb244));have n6_:=zz31 ((by rw [hg];exact Nat.ne_of_gt (blk_lt (g:=gb243) (o:=.cells #[.int .i64 a0_0,.slice A0_1 l0_1.length c0_1] 30 (0,0)) (by (with_reducible repeat (first | refine zz6 ?_ _ | refine zz7 ?_ | refine zz8 ?_ _));exact BK243.out)):gb244 ≠ gb243));clear BK243;clear HB;have BK243:=n0_;have HB:=n1_;have BK244:=n2_;have GW244:=n3_;have GE244:=n4_;have NB243_244:=n5_;have NB244_243:=n6_;clear n0_ n1_ n2_ n3_ n4_ n5_ n6_;clear hb hbox hg;have hnb21:=NB243_244.out;have hnc21:=NB244_243.out;have hcz22_0:w20.cell? ⟨gb243,0,none⟩=some (.int .i64 a0_0):=(zz9 BK243.out 0).trans rfl;have hcz22_1:w20.cell? ⟨gb243,1,none⟩=some (.slice A0_1 l0_1.length c0_1):=(zz9 BK243.out 1).trans rfl;have hfz22_0:=zz10 BK243.out 0;have hfz22_1:=zz10 BK243.out 1) | ((with_reducible refine gate_callee (f:=50) rfl ?_);refine goesL_ (some 7) rfl rfl Try.func50 (by kernel_rfl) rfl #[.agg #[.int .i64 a0_0,.slice A0_1 l0_1.length c0_1]] rfl (by (try simp only [zz26,zz27,zz28]);first | done | rfl | (simp only [zz24,zz25];rfl)) ?_;(with_reducible refine (impl_IsParty.calls k a0_0 _ _ l0_1 true _ ?side1 ?side2 A3.out).mono ?_);(case side1=>repeat (first | exact (Kd.C_below HR0_1.out HB.out) | (with_reducible refine zz18 ?_ _) | (with_reducible refine zz19 ?_ _) | (with_reducible refine zz20 ?_)));(case side2=>exact HC0_1.out);rintro e w23 ⟨rfl,hb⟩;refine ⟨_,rfl,?_⟩;have n0_:=zz31 (zz11 (g:=gb243) (o:=.cells #[.int .i64 a0_0,.slice A0_1 l0_1.length c0_1] 30 (0,0)) (by (with_reducible repeat (first | refine zz6 ?_ _ | refine zz7 ?_ | refine zz8 ?_ _));exact BK243.out) hb);have n1_:=zz31 (zz11 (g:=gb244) (o:=.cells #[.int .i64 0,.slice none 0 0] 30 (0,0)) (by (with_reducible repeat (first | refine zz6 ?_ _ | refine zz7 ?_ | refine zz8 ?_ _));exact BK244.out) hb);have n2_:=zz31 (zz4 (by repeat first | exact HB.out | apply zz2 | apply zz0 | apply zz1 | refine zz3 ?_ GE243.out | refine zz3 ?_ GE244.out) hb);clear BK243;clear BK244;clear HB;have BK243:=n0_;have BK244:=n1_;have HB:=n2_;clear n0_ n1_ n2_;(try clear hb);(try clear hb2);(try clear hk);(try clear hi);have hcz24_0:w23.cell? ⟨gb243,0,none⟩=some (.int .i64 a0_0):=(zz9 BK243.out 0).trans rfl;have hcz24_1:w23.cell? ⟨gb243,1,none⟩=some (.slice A0_1 l0_1.length c0_1):=(zz9 BK243.out 1).trans rfl;have hfz24_0:=zz10 BK243.out 0;have hfz24_1:=zz10 BK243.out 1) | (go_at_call 51;(with_reducible refine (impl_isPermutation.calls k _ _ l1 a0_0 false _ ?side1 ?side2 A5.out).mono ?_);(case side1=>repeat (first | exact (Kd.C_below HR1.out HB.out) | (with_reducible refine zz18 ?_ _) | (with_reducible refine zz19 ?_ _) | (with_reducible refine zz20 ?_)));(case side2=>exact HC1.out);rintro e w25 ⟨rfl,hb⟩;have n0_:=zz31 (zz11 (g:=gb243) (o:=.cells #[.int .i64 a0_0,.slice A0_1 l0_1.length c0_1] 30 (0,0)) (by (with_reducible repeat (first | refine zz6 ?_ _ | refine zz7 ?_ | refine zz8 ?_ _));exact BK243.out) hb);have n1_:=zz31 (zz11 (g:=gb244) (o:=.cells #[.int .i64 0,.slice none 0 0] 30 (0,0)) (by (with_reducible repeat (first | refine zz6 ?_ _ | refine zz7 ?_ | refine zz8 ?_ _));exact BK244.out) hb);have n2_:=zz31 (zz4 (by repeat first | exact HB.out | apply zz2 | apply zz0 | apply zz1 | refine zz3 ?_ GE243.out | refine zz3 ?_ GE244.out) hb);clear BK243;clear BK244;clear HB;have BK243:=n0_;have BK244:=n1_;have HB:=n2_;clear n0_ n1_ n2_;(try clear hb);(try clear hb2);(try clear hk);(try clear hi);have hcz26_0:w25.cell? ⟨gb244,0,none⟩=some (.int .i64 0):=(zz9 BK244.out 0).trans rfl;have hcz26_1:w25.cell? ⟨gb244,1,none⟩=some (.slice none 0 0):=(zz9 BK244.out 1).trans rfl;have hfz26_0:=zz10 BK244.out 0;have hfz26_1:=zz10 BK244.out 1))
   refine bodyPost_ret (results_ct rfl _ _ gb244 30 #[.int .i64 0,.slice none 0 0] (0,0) _ rfl (by (with_reducible repeat (first | refine zz6 ?_ _ | refine zz7 ?_ | refine zz8 ?_ _));refine blk_put (cs:=#[.int .i64 0,.slice none 0 0]) ?_ 1 _ rfl;(with_reducible repeat (first | refine zz6 ?_ _ | refine zz7 ?_ | refine zz8 ?_ _));refine blk_put (cs:=#[.int .i64 0,.slice none 0 0]) ?_ 0 _ rfl;(with_reducible repeat (first | refine zz6 ?_ _ | refine zz7 ?_ | refine zz8 ?_ _));exact BK244.out) Try.underlying30 rfl (by kernel_rfl)) rfl ?_
   exact ⟨_,by first | rfl | (simp [errW_none,errW_some] <;> rfl) | (simp [*,errW_none,errW_some] <;> rfl),by first | exact Kd.R_nil _ _ _ _ _ | exact Kd.N_nil _ _ _ _ _ | exact Kd.V_nil _ _ _ _ _ | exact Kd.Q_nil _ _ _ _ _ | exact Kd.S_nil _ _ _ _ _,by repeat first | exact HB.out | apply zz2 | apply zz0 | apply zz1 | refine zz3 ?_ GE243.out | refine zz3 ?_ GE244.out⟩
 ·replace c4:=Bool.eq_false_iff.mpr c4
  subst c4
  have H1:(some (0,([]:List (S70)),false))=some (r1,r2,r3):=by rw [if_neg (show ¬ (false=true) by decide)] at H;exact H
  clear H
  have H:=H1
  clear H1
  simp only [Option.some.injEq,Prod.mk.injEq] at H
  obtain ⟨rfl,rfl,rfl⟩:=H
  go_enter Try.func21,Try.ntmps21
  go_wp2_with (first | ((with_reducible refine gate_dst (N:=2) rfl ?_);refine box_event ?hg (N:=2) ?hd (cs:=#[.int .i64 a0_0,.slice A0_1 l0_1.length c0_1]) (t:=30) ?hr ?_;(case hd=>rfl);(case hg=>rfl);(case hr=>first | (go_simp;done) | (go_simp;rfl));intro gb243 hg w27 hbox hb;have n0_:=zz31 (zz4 (by repeat first | exact HB.out | apply zz2 | apply zz0 | apply zz1) hb);have n1_:=zz31 (hbox);have n2_:=zz31 ((by rw [hg];exact (zz5 (by repeat first | exact HB.out | apply zz2 | apply zz0 | apply zz1)):w.heap.size≤gb243));have n3_:=zz31 ((by rw [hg];exact (zz5 (by repeat first | exact HB.out | apply zz2 | apply zz0 | apply zz1)):w.heap.size≤gb243));clear HB;have HB:=n0_;have BK243:=n1_;have GW243:=n2_;have GE243:=n3_;clear n0_ n1_ n2_ n3_;clear hb hbox hg) | ((with_reducible refine gate_dst (N:=4) rfl ?_);refine box_event ?hg (N:=4) ?hd (cs:=#[.int .i64 0,.slice none 0 0]) (t:=30) ?hr ?_;(case hd=>rfl);(case hg=>rfl);(case hr=>first | (go_simp;done) | (go_simp;rfl));intro gb244 hg w28 hbox hb;have n0_:=zz31 (zz11 (g:=gb243) (o:=.cells #[.int .i64 a0_0,.slice A0_1 l0_1.length c0_1] 30 (0,0)) (by (with_reducible repeat (first | refine zz6 ?_ _ | refine zz7 ?_ | refine zz8 ?_ _));exact BK243.out) hb);have n1_:=zz31 (zz4 (by repeat first | exact HB.out | apply zz2 | apply zz0 | apply zz1 | refine zz3 ?_ GE243.out) hb);have n2_:=zz31 (hbox);have n3_:=zz31 ((by rw [hg];exact (zz5 (by repeat first | exact HB.out | apply zz2 | apply zz0 | apply zz1 | refine zz3 ?_ GE243.out)):w.heap.size≤gb244));have n4_:=zz31 ((by rw [hg];exact (zz5 (by repeat first | exact HB.out | apply zz2 | apply zz0 | apply zz1 | refine zz3 ?_ GE243.out)):w.heap.size≤gb244));have n5_:=zz31 ((by rw [hg];exact Nat.ne_of_lt (blk_lt (g:=gb243) (o:=.cells #[.int .i64 a0_0,.slice A0_1 l0_1.length c0_1] 30 (0,0)) (by (with_reducible repeat (first | refine zz6 ?_ _ | refine zz7 ?_ | refine zz8 ?_ _));exact BK243.out)):gb243 ≠ gb244));have n6_:=zz31 ((by rw [hg];exact Nat.ne_of_gt (blk_lt (g:=gb243) (o:=.cells #[.int .i64 a0_0,.slice A0_1 l0_1.length c0_1] 30 (0,0)) (by (with_reducible repeat (first | refine zz6 ?_ _ | refine zz7 ?_ | refine zz8 ?_ _));exact BK243.out)):gb244 ≠ gb243));clear BK243;clear HB;have BK243:=n0_;have HB:=n1_;have BK244:=n2_;have GW244:=n3_;have GE244:=n4_;have NB243_244:=n5_;have NB244_243:=n6_;clear n0_ n1_ n2_ n3_ n4_ n5_ n6_;clear hb hbox hg;have hnb29:=NB243_244.out;have hnc29:=NB244_243.out;have hcz30_0:w28.cell? ⟨gb243,0,none⟩=some (.int .i64 a0_0):=(zz9 BK243.out 0).trans rfl;have hcz30_1:w28.cell? ⟨gb243,1,none⟩=some (.slice A0_1 l0_1.length c0_1):=(zz9 BK243.out 1).trans rfl;have hfz30_0:=zz10 BK243.out 0;have hfz30_1:=zz10 BK243.out 1) | ((with_reducible refine gate_callee (f:=50) rfl ?_);refine goesL_ (some 7) rfl rfl Try.func50 (by kernel_rfl) rfl #[.agg #[.int .i64 a0_0,.slice A0_1 l0_1.length c0_1]] rfl (by (try simp only [zz26,zz27,zz28]);first | done | rfl | (simp only [zz24,zz25];rfl)) ?_;(with_reducible refine (impl_IsParty.calls k a0_0 _ _ l0_1 false _ ?side1 ?side2 A3.out).mono ?_);(case side1=>repeat (first | exact (Kd.C_below HR0_1.out HB.out) | (with_reducible refine zz18 ?_ _) | (with_reducible refine zz19 ?_ _) | (with_reducible refine zz20 ?_)));(case side2=>exact HC0_1.out);rintro e w31 ⟨rfl,hb⟩;refine ⟨_,rfl,?_⟩;have n0_:=zz31 (zz11 (g:=gb243) (o:=.cells #[.int .i64 a0_0,.slice A0_1 l0_1.length c0_1] 30 (0,0)) (by (with_reducible repeat (first | refine zz6 ?_ _ | refine zz7 ?_ | refine zz8 ?_ _));exact BK243.out) hb);have n1_:=zz31 (zz11 (g:=gb244) (o:=.cells #[.int .i64 0,.slice none 0 0] 30 (0,0)) (by (with_reducible repeat (first | refine zz6 ?_ _ | refine zz7 ?_ | refine zz8 ?_ _));exact BK244.out) hb);have n2_:=zz31 (zz4 (by repeat first | exact HB.out | apply zz2 | apply zz0 | apply zz1 | refine zz3 ?_ GE243.out | refine zz3 ?_ GE244.out) hb);clear BK243;clear BK244;clear HB;have BK243:=n0_;have BK244:=n1_;have HB:=n2_;clear n0_ n1_ n2_;(try clear hb);(try clear hb2);(try clear hk);(try clear hi);have hcz32_0:w31.cell? ⟨gb244,0,none⟩=some (.int .i64 0):=(zz9 BK244.out 0).trans rfl;have hcz32_1:w31.cell? ⟨gb244,1,none⟩=some (.slice none 0 0):=(zz9 BK244.out 1).trans rfl;have hfz32_0:=zz10 BK244.out 0;have hfz32_1:=zz10 BK244.out 1))
  refine bodyPost_ret (results_ct rfl _ _ gb244 30 #[.int .i64 0,.slice none 0 0] (0,0) _ rfl (by (with_reducible repeat (first | refine zz6 ?_ _ | refine zz7 ?_ | refine zz8 ?_ _));refine blk_put (cs:=#[.int .i64 0,.slice none 0 0]) ?_ 1 _ rfl;(with_reducible repeat (first | refine zz6 ?_ _ | refine zz7 ?_ | refine zz8 ?_ _));refine blk_put (cs:=#[.int .i64 0,.slice none 0 0]) ?_ 0 _ rfl;(with_reducible repeat (first | refine zz6 ?_ _ | refine zz7 ?_ | refine zz8 ?_ _));exact BK244.out) Try.underlying30 rfl (by kernel_rfl)) rfl ?_
  exact ⟨_,by first | rfl | (simp [errW_none,errW_some] <;> rfl) | (simp [*,errW_none,errW_some] <;> rfl),by first | exact Kd.R_nil _ _ _ _ _ | exact Kd.N_nil _ _ _ _ _ | exact Kd.V_nil _ _ _ _ _ | exact Kd.Q_nil _ _ _ _ _ | exact Kd.S_nil _ _ _ _ _,by repeat first | exact HB.out | apply zz2 | apply zz0 | apply zz1 | refine zz3 ?_ GE243.out | refine zz3 ?_ GE244.out⟩

/-! ### laws_eqIntS: function 22 -/
def laws_eqIntS.l0:Nat→List Int→List Int→Int→Option (Bool)
 | 0,_,_,_=>none
 | k+1,x0,x1,x5=>if x5 < (x0.length:Int) then (if 0≤x5 then (if x5 < (x1.length:Int) then (if (rd x0 x5)=(rd x1 x5) then (laws_eqIntS.l0 k x0 x1 (wrap64 (x5+1))) else (some false)) else (none)) else (none)) else (some true)
def laws_eqIntS.f (k:Nat) (l0:List Int) (l1:List Int):Option (Bool):=if (l0.length:Int)=(l1.length:Int) then (laws_eqIntS.l0 k l0 l1 0) else (some false)
theorem laws_eqIntS.mono_l:∀ k,(∀ y0 y1 y2,LeO (laws_eqIntS.l0 k y0 y1 y2) (laws_eqIntS.l0 (k+1) y0 y1 y2))
 | 0=>fun _ _ _ r h=>by simp [laws_eqIntS.l0] at h
 | k+1=>by
  have ih0:=laws_eqIntS.mono_l k
  ·intro y0 y1 y2
   unfold laws_eqIntS.l0
   repeat' first
   | (with_reducible exact ih0 _ _ _)
   | (with_reducible exact LeO.refl _)
   | (with_reducible exact LeO.none _)
   | (with_reducible refine LeO.ite ?_ ?_)
   | (with_reducible refine LeO.bind ?_ (fun _=>?_))
   | exact ih0 _ _ _
   | exact LeO.none _
   | refine LeO.ite ?_ ?_
   | refine LeO.bind ?_ (fun _=>?_)
theorem laws_eqIntS.mono:∀ a0 a1 k,LeO (laws_eqIntS.f k a0 a1) (laws_eqIntS.f (k+1) a0 a1):=by
 intro a0 a1 k
 have ih0:=laws_eqIntS.mono_l k
 unfold laws_eqIntS.f
 repeat' first
   | (with_reducible exact ih0 _ _ _)
   | (with_reducible exact LeO.refl _)
   | (with_reducible exact LeO.none _)
   | (with_reducible refine LeO.ite ?_ ?_)
   | (with_reducible refine LeO.bind ?_ (fun _=>?_))
   | exact ih0 _ _ _
   | exact LeO.none _
   | refine LeO.ite ?_ ?_
   | refine LeO.bind ?_ (fun _=>?_)
set_option maxHeartbeats 8000000 in
set_option maxRecDepth 100000 in
theorem laws_eqIntS.calls (k:Nat) (A0:Option Addr) (c0:Nat) (l0:List Int) (A1:Option Addr) (c1:Nat) (l1:List Int) (r:Bool) (w:World) (hr0:Kd.C (Kd.int .i64) w A0 l0.length l0) (hc0:l0.length≤c0) (hr1:Kd.C (Kd.int .i64) w A1 l1.length l1) (hc1:l1.length≤c1) (h:laws_eqIntS.f k l0 l1=some r) :
  Calls Try.prog 22 #[.slice A0 l0.length c0,.slice A1 l1.length c1] w fun e w'=>e=.returned (.bool r)∧Drawn0 w w':=by
 have HR0:=zz31 hr0
 have HC0:=zz31 hc0
 clear hr0 hc0
 have HR1:=zz31 hr1
 have HC1:=zz31 hc1
 clear hr1 hc1
 have H:(if (l0.length:Int)=(l1.length:Int) then (laws_eqIntS.l0 k l0 l1 0) else (some false))=some r:=h
 clear h
 by_cases c3:(l0.length:Int)=(l1.length:Int)
 ·rw [if_pos c3] at H
  have c3b0:((l0.length:Int) == (l1.length:Int))=true:=beq_iff_eq.mpr c3
  have c3b1:((l0.length:Int) != (l1.length:Int))=false:=bne_eq_false_iff_eq.mpr c3
  have c3b2:(l0.length == l1.length)=true:=by first | simpa using c3 | (simp at c3 ⊢;omega)
  clear c3
  have H':=zz31 H
  clear H
  go_enter Try.func22,Try.ntmps22
  go_wp2
  repeat (go_quiet (fail);try go_wp2)
  go_loopg [5] k (fun kq v5 w'=>∃ (x5_1:Int),v5=.int .i64 x5_1∧Aside0 (laws_eqIntS.l0 kq l0 l1 x5_1=some r)∧Aside0 (kq≤k)∧Drawn0 w w')
  case atStart=>exact ⟨(0),(by first | rfl | (simp;done) | (simp [*];done)),H',⟨Nat.le_refl _⟩,by repeat (first | exact Drawn0.refl _ | apply Drawn0.step)⟩
  case round =>
   clear H'
   try clear c1
   try clear c2
   try clear p2
   try clear c3
   try clear c3b0
   try clear c3b1
   try clear c3b2
   obtain ⟨x5_1,rfl,HA,HK1,⟨m1,rfl⟩⟩:=hrel
   cases gk with
   | zero=>exact absurd HA.out (by simp [laws_eqIntS.l0])
   | succ k1 =>
    have H:=HA.out
    clear HA
    simp only [laws_eqIntS.l0] at H
    by_cases c4:x5_1 < (l0.length:Int)
    ·rw [if_pos c4] at H
     have c4b0:decide (x5_1 < (l0.length:Int))=true:=decide_eq_true c4
     clear c4
     by_cases c5:0≤x5_1
     ·rw [if_pos c5] at H
      have c5b0:decide (0≤x5_1)=true:=decide_eq_true c5
      clear c5
      by_cases c6:x5_1 < (l1.length:Int)
      ·rw [if_pos c6] at H
       have c6b0:decide (x5_1 < (l1.length:Int))=true:=decide_eq_true c6
       clear c6
       by_cases c7:(rd l0 x5_1)=(rd l1 x5_1)
       ·rw [if_pos c7] at H
        have c7b0:((rd l0 x5_1) == (rd l1 x5_1))=true:=beq_iff_eq.mpr c7
        have c7b1:((rd l0 x5_1) != (rd l1 x5_1))=false:=bne_eq_false_iff_eq.mpr c7
        clear c7
        have H':=zz31 H
        clear H
        have p251:0≤(x5_1:Int):=zz29 (by first | (with_reducible assumption) | assumption)
        have q251:x5_1 < (l0.length:Int):=zz29 (by first | (with_reducible assumption) | assumption)
        obtain ⟨ad251,e251,hx251_0⟩:=Kd.at_int HR0.out x5_1 p251 q251
        cases e251
        replace p251:=eq_true p251
        replace q251:=eq_true q251
        have p252:0≤(x5_1:Int):=zz29 (by first | (with_reducible assumption) | assumption)
        have q252:x5_1 < (l1.length:Int):=zz29 (by first | (with_reducible assumption) | assumption)
        obtain ⟨ad252,e252,hx252_0⟩:=Kd.at_int HR1.out x5_1 p252 q252
        cases e252
        replace p252:=eq_true p252
        replace q252:=eq_true q252
        go_wp2
        repeat (go_quiet (fail);try go_wp2)
        go_roundg k1
        case measure=>have:=HK1.out;omega
        case rel=>exact ⟨(wrap64 (x5_1+1)),(by first | rfl | (simp;done) | (simp [*];done)),H',⟨by have:=HK1.out;omega⟩,by repeat (first | exact Drawn0.refl _ | apply Drawn0.step)⟩
       ·rw [if_neg c7] at H
        have c7b0:((rd l0 x5_1) == (rd l1 x5_1))=false:=beq_eq_false_iff_ne.mpr c7
        have c7b1:((rd l0 x5_1) != (rd l1 x5_1))=true:=bne_iff_ne.mpr c7
        obtain rfl:=Option.some.inj H
        have p251:0≤(x5_1:Int):=zz29 (by first | (with_reducible assumption) | assumption)
        have q251:x5_1 < (l0.length:Int):=zz29 (by first | (with_reducible assumption) | assumption)
        obtain ⟨ad251,e251,hx251_0⟩:=Kd.at_int HR0.out x5_1 p251 q251
        cases e251
        replace p251:=eq_true p251
        replace q251:=eq_true q251
        have p252:0≤(x5_1:Int):=zz29 (by first | (with_reducible assumption) | assumption)
        have q252:x5_1 < (l1.length:Int):=zz29 (by first | (with_reducible assumption) | assumption)
        obtain ⟨ad252,e252,hx252_0⟩:=Kd.at_int HR1.out x5_1 p252 q252
        cases e252
        replace p252:=eq_true p252
        replace q252:=eq_true q252
        go_wp2
        repeat (go_quiet (fail);try go_wp2)
        go_ret
        exact ⟨by first | rfl | (simp;done) | (simp [*];done),by repeat (first | exact Drawn0.refl _ | apply Drawn0.step)⟩
      ·rw [if_neg c6] at H
       exact absurd H (by simp)
     ·rw [if_neg c5] at H
      exact absurd H (by simp)
    ·rw [if_neg c4] at H
     have c4b0:decide (x5_1 < (l0.length:Int))=false:=decide_eq_false c4
     clear c4
     obtain rfl:=Option.some.inj H
     go_wp2
     repeat (go_quiet (fail);try go_wp2)
     go_ret
     exact ⟨by first | rfl | (simp;done) | (simp [*];done),by repeat (first | exact Drawn0.refl _ | apply Drawn0.step)⟩
 ·rw [if_neg c3] at H
  have c3b0:((l0.length:Int) == (l1.length:Int))=false:=beq_eq_false_iff_ne.mpr c3
  have c3b1:((l0.length:Int) != (l1.length:Int))=true:=bne_iff_ne.mpr c3
  have c3b2:(l0.length == l1.length)=false:=by first | simpa using c3 | (simp at c3 ⊢;omega)
  obtain rfl:=Option.some.inj H
  go_enter Try.func22,Try.ntmps22
  go_wp2
  repeat (go_quiet (fail);try go_wp2)
  go_ret
  exact ⟨by first | rfl | (simp;done) | (simp [*];done),by repeat (first | exact Drawn0.refl _ | apply Drawn0.step)⟩

/-! ### laws_markIntS: function 23 -/
def laws_markIntS.l0:Nat→List Int→Int→Int→Option (Int × List Int)
 | 0,_,_,_=>none
 | k+1,x0,x1,x5=>if x5 < (x0.length:Int) then (if 0≤x5 then (laws_markIntS.l0 k (x0.set (x5:Int).toNat x1) (wrap64 (x1+1)) (wrap64 (x5+1))) else (none)) else (some (x1,x0))
def laws_markIntS.f (k:Nat) (l0:List Int) (a1:Int):Option (Int × List Int):=laws_markIntS.l0 k l0 a1 0
theorem laws_markIntS.mono_l:∀ k,(∀ y0 y1 y2,LeO (laws_markIntS.l0 k y0 y1 y2) (laws_markIntS.l0 (k+1) y0 y1 y2))
 | 0=>fun _ _ _ r h=>by simp [laws_markIntS.l0] at h
 | k+1=>by
  have ih0:=laws_markIntS.mono_l k
  ·intro y0 y1 y2
   unfold laws_markIntS.l0
   repeat' first
   | (with_reducible exact ih0 _ _ _)
   | (with_reducible exact LeO.refl _)
   | (with_reducible exact LeO.none _)
   | (with_reducible refine LeO.ite ?_ ?_)
   | (with_reducible refine LeO.bind ?_ (fun _=>?_))
   | exact ih0 _ _ _
   | exact LeO.none _
   | refine LeO.ite ?_ ?_
   | refine LeO.bind ?_ (fun _=>?_)
theorem laws_markIntS.mono:∀ a0 a1 k,LeO (laws_markIntS.f k a0 a1) (laws_markIntS.f (k+1) a0 a1):=by
 intro a0 a1 k
 have ih0:=laws_markIntS.mono_l k
 unfold laws_markIntS.f
 repeat' first
   | (with_reducible exact ih0 _ _ _)
   | (with_reducible exact LeO.refl _)
   | (with_reducible exact LeO.none _)
   | (with_reducible refine LeO.ite ?_ ?_)
   | (with_reducible refine LeO.bind ?_ (fun _=>?_))
   | exact ih0 _ _ _
   | exact LeO.none _
   | refine LeO.ite ?_ ?_
   | refine LeO.bind ?_ (fun _=>?_)
set_option maxHeartbeats 8000000 in
set_option maxRecDepth 100000 in
theorem laws_markIntS.calls (k:Nat) (P0_:Nat→Prop) (u9000_:Value) (l0:List Int) (a1:Int) (r1:Int) (r2:List Int) (w0 w:World) (hB:Below w0.heap.size w0 w) (ho0:Kd.R (Kd.int .i64) 3 w w0.heap.size P0_ u9000_ l0) (h:laws_markIntS.f k l0 a1=some (r1,r2)) :
  Calls Try.prog 23 #[u9000_,.int .i64 a1] w fun e w'=>e=.returned (.int .i64 r1)∧Kd.R (Kd.int .i64) 3 w' w0.heap.size (fun k_=>(P0_ k_ ∨ w.heap.size≤k_)) u9000_ r2∧Below w0.heap.size w0 w'∧Kept w w' (fun k_=>P0_ k_):=by
 have HO0:=zz31 (show Kd.R (Kd.int .i64) 3 w w0.heap.size (fun k_=>(P0_ k_ ∨ w.heap.size≤k_)) u9000_ l0 from Kd.R_mono ho0 (fun k_ hk=>(.inl hk)))
 have HK:=zz31 (Kept.refl w (fun k_=>P0_ k_))
 have HW0:=zz31 hB.size
 have HB:=zz31 hB
 clear hB
 have H:(laws_markIntS.l0 k l0 a1 0)=some (r1,r2):=h
 clear h
 have H':=zz31 H
 clear H
 go_enter Try.func23,Try.ntmps23
 go_wp2
 go_loopg [1,5] k (fun kq v1 v5 w'=>∃ (x0_1:List Int) (x1_1:Int) (x5_1:Int),v1=.int .i64 x1_1∧v5=.int .i64 x5_1∧Aside0 (laws_markIntS.l0 kq x0_1 x1_1 x5_1=some (r1,r2))∧Aside0 (kq≤k)∧Aside0 (Kd.R (Kd.int .i64) 3 w' w0.heap.size (fun k_=>(P0_ k_ ∨ w.heap.size≤k_)) u9000_ x0_1)∧Aside0 (Kept w w' (fun k_=>P0_ k_))∧Aside0 (Below w0.heap.size w0 w'))
 case atStart=>exact ⟨(l0),(a1),(0),(by first | rfl | (simp;done) | (simp [*];done)),(by first | rfl | (simp;done) | (simp [*];done)),H',⟨Nat.le_refl _⟩,⟨by (with_reducible repeat (first | apply zz12 | apply zz13 | apply zz14));exact HO0.out⟩,⟨by repeat (first | (with_reducible first | exact HK.out | apply Kept.alloc | apply Kept.drewN | apply Kept.drew) | exact HK.out)⟩,⟨by repeat first | exact HB.out | apply zz2 | apply zz0 | apply zz1⟩⟩
 case round =>
  clear H'
  try clear c2
  try clear p2
  obtain ⟨x0_1,x1_1,x5_1,rfl,rfl,HA,HK1,HO_0,HK,HB⟩:=hrel
  cases gk with
  | zero=>exact absurd HA.out (by simp [laws_markIntS.l0])
  | succ k1 =>
   have H:=HA.out
   clear HA
   simp only [laws_markIntS.l0] at H
   by_cases c3:x5_1 < (x0_1.length:Int)
   ·rw [if_pos c3] at H
    have c3b0:decide (x5_1 < (x0_1.length:Int))=true:=decide_eq_true c3
    clear c3
    by_cases c4:0≤x5_1
    ·rw [if_pos c4] at H
     have c4b0:decide (0≤x5_1)=true:=decide_eq_true c4
     clear c4
     obtain ⟨y253,hy253⟩:∃ y_:List Int,y_=(x0_1.set (x5_1:Int).toNat x1_1):=⟨_,rfl⟩
     replace H:(laws_markIntS.l0 k1 y253 (wrap64 (x1_1+1)) (wrap64 (x5_1+1)))=some (r1,r2):=by first | (rw [hy253];with_reducible exact H) | (have H2_:=(Option.bind_some _ _).symm.trans H;rw [hy253];with_reducible exact H2_) | (have H2_:=(Option.bind_some _ _).symm.trans H;with_reducible exact H2_) | with_reducible exact H | (rw [hy253];exact H) | exact H
     have Ny253:=zz31 hy253
     clear hy253
     have H':=zz31 H
     clear H
     obtain ⟨Ao6,co6,eo6⟩:=Kd.R_slice HO_0.out
     subst eo6
     have p5:0≤(x5_1:Int):=zz29 (by first | (with_reducible assumption) | assumption)
     have q5:(x5_1:Int) < ((x0_1.length:Int):Int):=zz29 (by first | (with_reducible assumption) | assumption)
     obtain ⟨go5,co5,eo5,gb5,gl5,cl5,HG5⟩:=Kd.R_form HO_0.out (by omega)
     (first | cases eo5 | (injection eo5 with ea_ en_ ec_;(first | subst ea_ | (injection ea_ with ea_;subst ea_));subst ec_;clear en_))
     have GB5:=zz31 gb5
     have GG5:=zz31 HG5
     clear gb5 gl5 HG5
     have HMgo5:=zz31 (show (P0_ go5 ∨ w.heap.size≤go5) from (HO_0.out.1 _ rfl))
     obtain ⟨hx5_0,hf5_0⟩:=Kd.R_celln 0 HO_0.out (x5_1:Int) p5 q5
     replace p5:=eq_true p5
     replace q5:=eq_true q5
     have HP7:=Kd.R_putg HO_0.out (x5_1:Int) x1_1
     go_wp2_with (first | ((with_reducible refine gate_store (t:=3) (p:=15) rfl ?_);refine store_event (t:=3) (p:=15) (v:=?vo_w8) (w1:=(wr.setCell ⟨go5,(x5_1:Int).toNat,none⟩ (.int .i64 x1_1))) ?hg ?ho ?hn ?hr ?_;(case ho=>rfl);(case hg=>rfl);(case hn=>rfl);(case hr=>first | (go_simp;done) | (go_simp;rfl));intro w8 hw;have hg:wr.grownBy w8 (some go5):=(by rw [hw];exact HP7.2);have hp_:Kd.R (Kd.int .i64) 3 w8 w0.heap.size (fun k_=>(P0_ k_ ∨ w.heap.size≤k_)) (.slice (some ⟨go5,0,none⟩) x0_1.length co6) y253:=(by rw [hw,Ny253.out];exact HP7.1);clear HP7;have n0_:=zz31 (hp_);have n1_:=zz31 ((by rw [hw];exact zz3 (HB.out) GB5.out:Below w0.heap.size w0 w8));have n2_:=zz31 (Kept.of_grown (S:=(fun k_=>P0_ k_)) hg (by repeat (first | (with_reducible first | exact HK.out | apply Kept.alloc | apply Kept.drewN | apply Kept.drew) | exact HK.out)) (fun k_ e_=>(HO_0.out.1 k_ e_)));clear HO_0;clear HB;clear HK;have HO_0:=n0_;have HB:=n1_;have HK:=n2_;clear n0_ n1_ n2_;clear hg hw hp_))
     go_roundg k1
     case measure=>have:=HK1.out;omega
     case rel=>exact ⟨(y253),(wrap64 (x1_1+1)),(wrap64 (x5_1+1)),(by first | rfl | (simp;done) | (simp [*];done)),(by first | rfl | (simp;done) | (simp [*];done)),H',⟨by have:=HK1.out;omega⟩,⟨by (with_reducible repeat (first | apply zz12 | apply zz13 | apply zz14));exact HO_0.out⟩,⟨by repeat (first | (with_reducible first | exact HK.out | apply Kept.alloc | apply Kept.drewN | apply Kept.drew) | exact HK.out)⟩,⟨by repeat first | exact HB.out | apply zz2 | apply zz0 | apply zz1⟩⟩
    ·rw [if_neg c4] at H
     exact absurd H (by simp)
   ·rw [if_neg c3] at H
    have c3b0:decide (x5_1 < (x0_1.length:Int))=false:=decide_eq_false c3
    clear c3
    simp only [Option.some.injEq,Prod.mk.injEq] at H
    obtain ⟨rfl,rfl⟩:=H
    obtain ⟨Ao9,co9,eo9⟩:=Kd.R_slice HO_0.out
    subst eo9
    go_wp2
    go_ret
    exact ⟨by first | rfl | (simp [errW_none,errW_some] <;> rfl) | (simp [*,errW_none,errW_some] <;> rfl),by (with_reducible repeat (first | apply zz12 | apply zz13 | apply zz14));exact HO_0.out,by repeat first | exact HB.out | apply zz2 | apply zz0 | apply zz1,by repeat (first | (with_reducible first | exact HK.out | apply Kept.alloc | apply Kept.drewN | apply Kept.drew) | exact HK.out)⟩

end Go.Proofs.Ytoedkkoafidalaa.P
