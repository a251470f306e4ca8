-- PRINTED by print.py (a twelfth state) out of the translation. Not trusted: Lean checks it.
import Derived.Test.YtoedkkoafidalaaPx0
import Derived.Test.YtoedkkoafidalaaPx6
namespace Go.Proofs.Ytoedkkoafidalaa.P
open Go.RowKit Go.Proofs.YtoedkkoafidalaaW.PrintWords Go.Proofs.YtoedkkoafidalaaW.PrintLast Go.Proofs.YtoedkkoafidalaaW.PrintMore
open Bool renaming true → T, false → F
attribute [local go_sem] max2_int min2_int max_two min_two max_three min_three max_four min_four   -- for this text's walks alone
set_option linter.unusedVariables false
set_option linter.unusedSimpArgs false

/-! ### impl_IsParty: function 50 -/
def impl_IsParty.l0:Nat→List (S70)→Int→Int→Int→List (S70)→Option (Bool)
 | 0,_,_,_,_,_=>none
 | k+1,x6,x7,x8,x266000,x266001=>if x8 < x7 then (if 0≤x8 then (if x8 < (x6.length:Int) then (if ((rd_T70 x6 x8).f0) < 0 then (some false) else (if ((rd_T70 x6 x8).f0) ≥ ((rd_T70 x6 x8).f1) then (some false) else (if ((rd_T70 x6 x8).f1) ≥ x266000 then (some false) else (if x8 > 0 then (if 0≤(wrap64 (x8 - 1)) then (if (wrap64 (x8 - 1)) < (x266001.length:Int) then ((impl_comparePairs.f k ((rd_T70 x266001 (wrap64 (x8 - 1))).f0) ((rd_T70 x266001 (wrap64 (x8 - 1))).f1) ((rd_T70 x6 x8).f0) ((rd_T70 x6 x8).f1)).bind fun t269=>(if t269 ≥ 0 then (some false) else (impl_IsParty.l0 k x6 x7 (wrap64 (x8+1)) x266000 x266001))) else (none)) else (none)) else (impl_IsParty.l0 k x6 x7 (wrap64 (x8+1)) x266000 x266001))))) else (none)) else (none)) else ((impl_areCrowd.f x266000).bind fun t270=>(some t270))
def impl_IsParty.f (k:Nat) (a0_0:Int) (l0_1:List (S70)):Option (Bool):=impl_IsParty.l0 k l0_1 (l0_1.length:Int) 0 a0_0 l0_1
theorem impl_IsParty.mono_l:∀ k,(∀ y0 y1 y2 y3 y4,LeO (impl_IsParty.l0 k y0 y1 y2 y3 y4) (impl_IsParty.l0 (k+1) y0 y1 y2 y3 y4))
 | 0=>fun _ _ _ _ _ r h=>by simp [impl_IsParty.l0] at h
 | k+1=>by
  have ih0:=impl_IsParty.mono_l k
  ·intro y0 y1 y2 y3 y4
   unfold impl_IsParty.l0
   repeat' first
   | (with_reducible exact ih0 _ _ _ _ _)
   | (with_reducible exact impl_comparePairs.mono _ _ _ _ _)
   | (with_reducible exact LeO.refl _)
   | (with_reducible exact LeO.none _)
   | (with_reducible refine LeO.ite ?_ ?_)
   | (with_reducible refine LeO.bind ?_ (fun _=>?_))
   | exact ih0 _ _ _ _ _
   | exact impl_comparePairs.mono _ _ _ _ _
   | exact LeO.none _
   | refine LeO.ite ?_ ?_
   | refine LeO.bind ?_ (fun _=>?_)
theorem impl_IsParty.mono:∀ a0 a1 k,LeO (impl_IsParty.f k a0 a1) (impl_IsParty.f (k+1) a0 a1):=by
 intro a0 a1 k
 have ih0:=impl_IsParty.mono_l k
 unfold impl_IsParty.f
 repeat' first
   | (with_reducible exact ih0 _ _ _ _ _)
   | (with_reducible exact impl_comparePairs.mono _ _ _ _ _)
   | (with_reducible exact LeO.refl _)
   | (with_reducible exact LeO.none _)
   | (with_reducible refine LeO.ite ?_ ?_)
   | (with_reducible refine LeO.bind ?_ (fun _=>?_))
   | exact ih0 _ _ _ _ _
   | exact impl_comparePairs.mono _ _ _ _ _
   | exact LeO.none _
   | refine LeO.ite ?_ ?_
   | refine LeO.bind ?_ (fun _=>?_)
def impl_IsParty.T4:Bool × List (List Nat × List Nat):=(true,[([],[]),([0],[0]),([1],[1]),([2],[2]),([3],[3]),([4,3],[3,4]),([3],[3]),([6,3],[3,6]),([5,7,3],[3,5,7]),([3,8],[3,8]),([9,3],[9]),([10],[10]),([11,10],[10,11]),([10],[10]),([13,10],[10,13]),([12,14,10],[10,12,14]),([10,15],[10,15]),([16,10],[16]),([17],[17]),([18,17],[17,18]),([19,17,17],[17,19]),([20],[20]),([21,20],[20,21]),([20],[20]),([23,20],[20,23]),([22,24,20],[20,22,24]),([25,20],[20,25]),([20],[20]),([26,27,20,20],[20,26,27]),([28,20],[20,28]),([20,29,17],[17,20,29]),([17,30],[17,30])])
def impl_IsParty.B4:List Nat:=[0,1,3,7,15,31,15,79,255,511,1023,2047,4095,2047,10239,32767,65535,131071,262143,524287,1048575,2097151,4194303,2097151,10485759,33554431,67108863,2097151,268435455,536870911,1073741823,2147483647]
theorem impl_IsParty.tab4:rtab .any (opsOf Try.f50 4)=impl_IsParty.T4:=by kernel_rfl
theorem impl_IsParty.bits4:waitsOk impl_IsParty.T4.2 impl_IsParty.B4=true:=by kernel_rfl
set_option maxHeartbeats 8000000 in
set_option maxRecDepth 100000 in
theorem impl_IsParty.calls (k:Nat) (a0_0:Int) (A0_1:Option Addr) (c0_1:Nat) (l0_1:List (S70)) (r:Bool) (w:World) (hr0_1:Kd.C k70 w A0_1 l0_1.length l0_1) (hc0_1:l0_1.length≤c0_1) (h:impl_IsParty.f k a0_0 l0_1=some r) :
  Calls Try.prog 50 #[.agg #[.int .i64 a0_0,.slice A0_1 l0_1.length c0_1]] w fun e w'=>e=.returned (.bool r)∧Below w.heap.size w w':=by
 have hu30:=Try.underlying30
 have hu70:=Try.underlying70
 have HR0_1:=zz31 hr0_1
 have HC0_1:=zz31 hc0_1
 clear hr0_1 hc0_1
 have HB:=zz31 (Below.refl w.heap.size w)
 have H:(impl_IsParty.l0 k l0_1 (l0_1.length:Int) 0 a0_0 l0_1)=some r:=h
 clear h
 have H':=zz31 H
 clear H
 go_enter Try.func50,Try.ntmps50
 go_wp2_with (first | ((with_reducible refine gate_dst (N:=1) rfl ?_);refine box_event ?hg (N:=1) ?hd (cs:=#[.int .i64 a0_0,.slice A0_1 l0_1.length c0_1]) (t:=30) ?hr ?_;(case hd=>rfl);(case hg=>rfl);(case hr=>first | (go_simp;done) | (go_simp;rfl));intro gb265 hg w2 hbox hb;have BK265:=zz31 (hbox);have GW265:=zz31 ((by rw [hg];exact (zz5 (by repeat first | exact HB.out | apply zz2 | apply zz0 | apply zz1)):w.heap.size≤gb265));replace HB:=zz31 (zz4 (by repeat first | exact HB.out | apply zz2 | apply zz0 | apply zz1) hb);have GE265:=GW265;clear hb hbox hg;have hcz3_0:w2.cell? ⟨gb265,0,none⟩=some (.int .i64 a0_0):=(zz9 BK265.out 0).trans rfl;have hcz3_1:w2.cell? ⟨gb265,1,none⟩=some (.slice A0_1 l0_1.length c0_1):=(zz9 BK265.out 1).trans rfl;have hfz3_0:=zz10 BK265.out 0;have hfz3_1:=zz10 BK265.out 1))
 go_loopg [8] k (fun kq v8 w'=>∃ (x8_1:Int),v8=.int .i64 x8_1∧Aside0 (impl_IsParty.l0 kq l0_1 (l0_1.length:Int) x8_1 a0_0 l0_1=some r)∧Aside0 (kq≤k)∧Aside0 (w'.heap[gb265]?=some (.cells #[.int .i64 a0_0,(.slice A0_1 l0_1.length c0_1)] 30 (0,0)))∧Aside0 (Below w.heap.size w w'))
 case atStart=>exact ⟨(0),(by first | rfl | (simp;done) | (simp [*];done)),H',⟨Nat.le_refl _⟩,⟨by (with_reducible repeat (first | refine zz6 ?_ _ | refine zz7 ?_ | refine zz8 ?_ _));exact BK265.out⟩,⟨by repeat first | exact HB.out | apply zz2 | apply zz0 | apply zz1 | refine zz3 ?_ GE265.out⟩⟩
 case round =>
  clear H'
  try clear p2
  try clear hcz3_0
  try clear hcz3_1
  try clear hfz3_0
  try clear hfz3_1
  obtain ⟨x8_1,rfl,HA,HK1,BK265,HB⟩:=hrel
  cases gk with
  | zero=>exact absurd HA.out (by simp [impl_IsParty.l0])
  | succ k1 =>
   have H:=HA.out
   clear HA
   simp only [impl_IsParty.l0] at H
   by_cases c4:x8_1 < (l0_1.length:Int)
   ·rw [if_pos c4] at H
    have c4b0:decide (x8_1 < (l0_1.length:Int))=true:=decide_eq_true c4
    clear c4
    by_cases c5:0≤x8_1
    ·rw [if_pos c5] at H
     have c5b0:decide (0≤x8_1)=true:=decide_eq_true c5
     clear c5
     by_cases c6:x8_1 < (l0_1.length:Int)
     ·rw [if_pos c6] at H
      have c6b0:decide (x8_1 < (l0_1.length:Int))=true:=decide_eq_true c6
      clear c6
      by_cases c7:((rd_T70 l0_1 x8_1).f0) < 0
      ·rw [if_pos c7] at H
       have c7b0:decide (((rd_T70 l0_1 x8_1).f0) < 0)=true:=decide_eq_true c7
       clear c7
       obtain rfl:=Option.some.inj H
       have p266:0≤(x8_1:Int):=zz29 (by first | (with_reducible assumption) | assumption)
       have q266:x8_1 < (l0_1.length:Int):=zz29 (by first | (with_reducible assumption) | assumption)
       obtain ⟨ad266,e266,hx266_0,hx266_1⟩:=at_T70 HR0_1.out x8_1 p266 q266
       cases e266
       try replace hx266_0:=(HB.out.cell (World.block_lt_of_cell? w _ hx266_0)).trans hx266_0
       try replace hx266_1:=(HB.out.cell (World.block_lt_of_cell? w _ hx266_1)).trans hx266_1
       replace p266:=eq_true p266
       replace q266:=eq_true q266
       try go_wp2_with (first | ((with_reducible refine gate_dst (N:=4) rfl ?_);refine box_event ?hg (N:=4) ?hd (cs:=#[.int .i64 0,.int .i64 0]) (t:=70) ?hr ?_;(case hd=>rfl);(case hg=>rfl);(case hr=>first | (go_simp;done) | (go_simp;rfl));intro gb267 hg w8 hbox hb;have BK267:=zz31 (hbox);have GW267:=zz31 ((by rw [hg];exact (zz5 (by repeat first | exact HB.out | apply zz2 | apply zz0 | apply zz1 | refine zz3 ?_ GE265.out)):w.heap.size≤gb267));replace HB:=zz31 (zz4 (by repeat first | exact HB.out | apply zz2 | apply zz0 | apply zz1 | refine zz3 ?_ GE265.out) hb);have GE267:=GW267;have NB265_267:=zz31 ((by rw [hg];exact Nat.ne_of_lt (blk_lt (g:=gb265) (o:=.cells #[.int .i64 a0_0,.slice (some ad266) l0_1.length c0_1] 30 (0,0)) (by (with_reducible repeat (first | refine zz6 ?_ _ | refine zz7 ?_ | refine zz8 ?_ _));exact BK265.out)):gb265 ≠ gb267));have NB267_265:=zz31 ((by rw [hg];exact Nat.ne_of_gt (blk_lt (g:=gb265) (o:=.cells #[.int .i64 a0_0,.slice (some ad266) l0_1.length c0_1] 30 (0,0)) (by (with_reducible repeat (first | refine zz6 ?_ _ | refine zz7 ?_ | refine zz8 ?_ _));exact BK265.out)):gb267 ≠ gb265));replace BK265:=zz31 (zz11 (g:=gb265) (o:=.cells #[.int .i64 a0_0,.slice (some ad266) l0_1.length c0_1] 30 (0,0)) (by (with_reducible repeat (first | refine zz6 ?_ _ | refine zz7 ?_ | refine zz8 ?_ _));exact BK265.out) hb);clear hb hbox hg;have hnb9:=NB267_265.out;have hnc9:=NB265_267.out;have hcz10_0:w8.cell? ⟨gb267,0,none⟩=some (.int .i64 0):=(zz9 BK267.out 0).trans rfl;have hcz10_1:w8.cell? ⟨gb267,1,none⟩=some (.int .i64 0):=(zz9 BK267.out 1).trans rfl;have hfz10_0:=zz10 BK267.out 0;have hfz10_1:=zz10 BK267.out 1))
       have n0_:Aside0 (((w8.setCell ⟨gb267,0,none⟩ (.int .i64 ((rd_T70 l0_1 x8_1).f0))).setCell ⟨gb267,1,none⟩ (.int .i64 ((rd_T70 l0_1 x8_1).f1))).heap[gb265]?=some (.cells #[.int .i64 a0_0,.slice (some ad266) l0_1.length c0_1] 30 (0,0))):=⟨by (with_reducible repeat (first | refine zz6 ?_ _ | refine zz7 ?_ | refine zz8 ?_ _));refine blk_far ?_ NB265_267.out _;(with_reducible repeat (first | refine zz6 ?_ _ | refine zz7 ?_ | refine zz8 ?_ _));refine blk_far ?_ NB265_267.out _;(with_reducible repeat (first | refine zz6 ?_ _ | refine zz7 ?_ | refine zz8 ?_ _));exact BK265.out⟩
       have n1_:Aside0 (((w8.setCell ⟨gb267,0,none⟩ (.int .i64 ((rd_T70 l0_1 x8_1).f0))).setCell ⟨gb267,1,none⟩ (.int .i64 ((rd_T70 l0_1 x8_1).f1))).heap[gb267]?=some (.cells #[.int .i64 ((rd_T70 l0_1 x8_1).f0),.int .i64 ((rd_T70 l0_1 x8_1).f1)] 70 (0,0))):=⟨by (with_reducible repeat (first | refine zz6 ?_ _ | refine zz7 ?_ | refine zz8 ?_ _));refine blk_put (cs:=#[.int .i64 ((rd_T70 l0_1 x8_1).f0),.int .i64 0]) ?_ 1 _ rfl;(with_reducible repeat (first | refine zz6 ?_ _ | refine zz7 ?_ | refine zz8 ?_ _));refine blk_put (cs:=#[.int .i64 0,.int .i64 0]) ?_ 0 _ rfl;(with_reducible repeat (first | refine zz6 ?_ _ | refine zz7 ?_ | refine zz8 ?_ _));exact BK267.out⟩
       have n2_:Aside0 (Below w.heap.size w ((w8.setCell ⟨gb267,0,none⟩ (.int .i64 ((rd_T70 l0_1 x8_1).f0))).setCell ⟨gb267,1,none⟩ (.int .i64 ((rd_T70 l0_1 x8_1).f1)))):=⟨by repeat first | exact HB.out | apply zz2 | apply zz0 | apply zz1 | refine zz3 ?_ GE265.out | refine zz3 ?_ GE267.out⟩
       (try clear BK265)
       (try clear BK267)
       (try clear HB)
       generalize ((w8.setCell ⟨gb267,0,none⟩ (.int .i64 ((rd_T70 l0_1 x8_1).f0))).setCell ⟨gb267,1,none⟩ (.int .i64 ((rd_T70 l0_1 x8_1).f1)))=w11 at n0_ n1_ n2_ ⊢
       have BK265:=n0_
       have BK267:=n1_
       have HB:=n2_
       clear n0_ n1_ n2_
       replace BK265:=zz31 (zz7 BK265.out)
       replace BK267:=zz31 (zz7 BK267.out)
       replace HB:=zz31 (zz1 HB.out)
       refine start_ (n:=32) (S:=fun w'=>w'.cell? ⟨gb267,0,none⟩=some (.int .i64 ((rd_T70 l0_1 x8_1).f0))∧w'.cell? ⟨gb267,1,none⟩=some (.int .i64 ((rd_T70 l0_1 x8_1).f1))) (ds:=[]) #[F,F,F,F,F,F,F,F,F,F,F,F,F,F,F,F,F,F,F,F,F,F,F,F,F,F,F,F,F,F,F,F] (by kernel_rfl) rfl rfl ⟨(zz9 BK267.out 0).trans rfl,(zz9 BK267.out 1).trans rfl⟩ (fun hHeld=>?_);refine with_tabW impl_IsParty.tab4 impl_IsParty.bits4 (fun HT_ HW_=>?_)
       generalize w11.drew=w12 at BK265 BK267 HB hHeld ⊢
       refine zz32 (v:=?_) (a':=?_) 0 (some 13) #[T,F,F,F,F,F,F,F,F,F,F,F,F,F,F,F,F,F,F,F,F,F,F,F,F,F,F,F,F,F,F,F] rfl rfl HT_.out (by kernel_rfl) (fun _ _ _ h=>h) (by rfl) (fun w'=>?_) ?_ ?_;rotate_left;(go_simp;with_reducible rfl);rotate_left;(simp only [Act.put,zz21,zz22,zz23,i64_w,i32_w];rfl)
       refine zz33 (v:=?_) (a':=?_) 1 (some 14) #[T,T,F,F,F,F,F,F,F,F,F,F,F,F,F,F,F,F,F,F,F,F,F,F,F,F,F,F,F,F,F,F] rfl rfl HT_.out HW_.out (by kernel_rfl) (fun _ _ _ h=>h) (by rfl) ?_ hHeld ?_ ?_;rotate_left;(rintro w' ⟨s0,s1⟩;go_simp;with_reducible rfl);rotate_left;(simp only [Act.put,zz21,zz22,zz23,i64_w,i32_w];rfl)
       refine zz32 (v:=?_) (a':=?_) 2 (some 15) #[T,T,T,F,F,F,F,F,F,F,F,F,F,F,F,F,F,F,F,F,F,F,F,F,F,F,F,F,F,F,F,F] rfl rfl HT_.out (by kernel_rfl) (fun _ _ _ h=>h) (by rfl) (fun w'=>?_) ?_ ?_;rotate_left;(go_simp;with_reducible rfl);rotate_left;(simp only [Act.put,zz21,zz22,zz23,i64_w,i32_w];rfl)
       refine zz32 (v:=?_) (a':=?_) 3 (some 16) #[T,T,T,T,F,F,F,F,F,F,F,F,F,F,F,F,F,F,F,F,F,F,F,F,F,F,F,F,F,F,F,F] rfl rfl HT_.out (by kernel_rfl) (fun _ _ _ h=>h) (by rfl) (fun w'=>?_) ?_ ?_;rotate_left;(go_simp;with_reducible rfl);rotate_left;(simp only [Act.put,zz21,zz22,zz23,i64_w,i32_w];rfl)
       refine pure_ (i:=4) (N:=some 17) (v:=undef) (a':=?_) #[T,T,T,T,T,F,F,F,F,F,F,F,F,F,F,F,F,F,F,F,F,F,F,F,F,F,F,F,F,F,F,F] rfl rfl (any_of HT_.out (by kernel_rfl)) (fun _ _ _ h=>h) (Or.inr ⟨by rfl,rfl⟩) ?_ ?_
       rotate_left
       ·simp only [Act.put,zz21,zz22,zz23,i64_w,i32_w]
        rfl
       refine pure_ (i:=5) (N:=some 18) (v:=undef) (a':=?_) #[T,T,T,T,T,T,F,F,F,F,F,F,F,F,F,F,F,F,F,F,F,F,F,F,F,F,F,F,F,F,F,F] rfl rfl (any_of HT_.out (by kernel_rfl)) (fun _ _ _ h=>h) (Or.inr ⟨by rfl,rfl⟩) ?_ ?_
       rotate_left
       ·simp only [Act.put,zz21,zz22,zz23,i64_w,i32_w]
        rfl
       refine pure_ (i:=6) (N:=some 19) (v:=undef) (a':=?_) #[T,T,T,T,T,T,T,F,F,F,F,F,F,F,F,F,F,F,F,F,F,F,F,F,F,F,F,F,F,F,F,F] rfl rfl (any_of HT_.out (by kernel_rfl)) (fun _ _ _ h=>h) (Or.inr ⟨by rfl,rfl⟩) ?_ ?_
       rotate_left
       ·simp only [Act.put,zz21,zz22,zz23,i64_w,i32_w]
        rfl
       refine pure_ (i:=7) (N:=some 20) (v:=undef) (a':=?_) #[T,T,T,T,T,T,T,T,F,F,F,F,F,F,F,F,F,F,F,F,F,F,F,F,F,F,F,F,F,F,F,F] rfl rfl (any_of HT_.out (by kernel_rfl)) (fun _ _ _ h=>h) (Or.inr ⟨by rfl,rfl⟩) ?_ ?_
       rotate_left
       ·simp only [Act.put,zz21,zz22,zz23,i64_w,i32_w]
        rfl
       refine pure_ (i:=8) (N:=some 21) (v:=undef) (a':=?_) #[T,T,T,T,T,T,T,T,T,F,F,F,F,F,F,F,F,F,F,F,F,F,F,F,F,F,F,F,F,F,F,F] rfl rfl (any_of HT_.out (by kernel_rfl)) (fun _ _ _ h=>h) (Or.inr ⟨by rfl,rfl⟩) ?_ ?_
       rotate_left
       ·simp only [Act.put,zz21,zz22,zz23,i64_w,i32_w]
        rfl
       refine zz32 (v:=?_) (a':=?_) 9 (some 22) #[T,T,T,T,T,T,T,T,T,T,F,F,F,F,F,F,F,F,F,F,F,F,F,F,F,F,F,F,F,F,F,F] rfl rfl HT_.out (by kernel_rfl) (fun _ _ _ h=>h) (by rfl) (fun w'=>?_) ?_ ?_;rotate_left;(go_simp;with_reducible rfl);rotate_left;(simp only [Act.put,zz21,zz22,zz23,i64_w,i32_w];rfl)
       refine zz32 (v:=?_) (a':=?_) 10 (some 23) #[T,T,T,T,T,T,T,T,T,T,T,F,F,F,F,F,F,F,F,F,F,F,F,F,F,F,F,F,F,F,F,F] rfl rfl HT_.out (by kernel_rfl) (fun _ _ _ h=>h) (by rfl) (fun w'=>?_) ?_ ?_;rotate_left;(go_simp;with_reducible rfl);rotate_left;(simp only [Act.put,zz21,zz22,zz23,i64_w,i32_w];rfl)
       refine pure_ (i:=11) (N:=some 24) (v:=undef) (a':=?_) #[T,T,T,T,T,T,T,T,T,T,T,T,F,F,F,F,F,F,F,F,F,F,F,F,F,F,F,F,F,F,F,F] rfl rfl (any_of HT_.out (by kernel_rfl)) (fun _ _ _ h=>h) (Or.inr ⟨by rfl,rfl⟩) ?_ ?_
       rotate_left
       ·simp only [Act.put,zz21,zz22,zz23,i64_w,i32_w]
        rfl
       refine pure_ (i:=12) (N:=some 25) (v:=undef) (a':=?_) #[T,T,T,T,T,T,T,T,T,T,T,T,T,F,F,F,F,F,F,F,F,F,F,F,F,F,F,F,F,F,F,F] rfl rfl (any_of HT_.out (by kernel_rfl)) (fun _ _ _ h=>h) (Or.inr ⟨by rfl,rfl⟩) ?_ ?_
       rotate_left
       ·simp only [Act.put,zz21,zz22,zz23,i64_w,i32_w]
        rfl
       refine pure_ (i:=13) (N:=some 26) (v:=undef) (a':=?_) #[T,T,T,T,T,T,T,T,T,T,T,T,T,T,F,F,F,F,F,F,F,F,F,F,F,F,F,F,F,F,F,F] rfl rfl (any_of HT_.out (by kernel_rfl)) (fun _ _ _ h=>h) (Or.inr ⟨by rfl,rfl⟩) ?_ ?_
       rotate_left
       ·simp only [Act.put,zz21,zz22,zz23,i64_w,i32_w]
        rfl
       refine pure_ (i:=14) (N:=some 27) (v:=undef) (a':=?_) #[T,T,T,T,T,T,T,T,T,T,T,T,T,T,T,F,F,F,F,F,F,F,F,F,F,F,F,F,F,F,F,F] rfl rfl (any_of HT_.out (by kernel_rfl)) (fun _ _ _ h=>h) (Or.inr ⟨by rfl,rfl⟩) ?_ ?_
       rotate_left
       ·simp only [Act.put,zz21,zz22,zz23,i64_w,i32_w]
        rfl
       refine pure_ (i:=15) (N:=some 28) (v:=undef) (a':=?_) #[T,T,T,T,T,T,T,T,T,T,T,T,T,T,T,T,F,F,F,F,F,F,F,F,F,F,F,F,F,F,F,F] rfl rfl (any_of HT_.out (by kernel_rfl)) (fun _ _ _ h=>h) (Or.inr ⟨by rfl,rfl⟩) ?_ ?_
       rotate_left
       ·simp only [Act.put,zz21,zz22,zz23,i64_w,i32_w]
        rfl
       refine zz32 (v:=?_) (a':=?_) 16 (some 29) #[T,T,T,T,T,T,T,T,T,T,T,T,T,T,T,T,T,F,F,F,F,F,F,F,F,F,F,F,F,F,F,F] rfl rfl HT_.out (by kernel_rfl) (fun _ _ _ h=>h) (by rfl) (fun w'=>?_) ?_ ?_;rotate_left;(go_simp;with_reducible rfl);rotate_left;(simp only [Act.put,zz21,zz22,zz23,i64_w,i32_w];rfl)
       refine zz32 (v:=?_) (a':=?_) 17 (some 30) #[T,T,T,T,T,T,T,T,T,T,T,T,T,T,T,T,T,T,F,F,F,F,F,F,F,F,F,F,F,F,F,F] rfl rfl HT_.out (by kernel_rfl) (fun _ _ _ h=>h) (by rfl) (fun w'=>?_) ?_ ?_;rotate_left;(go_simp;with_reducible rfl);rotate_left;(simp only [Act.put,zz21,zz22,zz23,i64_w,i32_w];rfl)
       refine pure_ (i:=18) (N:=some 31) (v:=undef) (a':=?_) #[T,T,T,T,T,T,T,T,T,T,T,T,T,T,T,T,T,T,T,F,F,F,F,F,F,F,F,F,F,F,F,F] rfl rfl (any_of HT_.out (by kernel_rfl)) (fun _ _ _ h=>h) (Or.inr ⟨by rfl,rfl⟩) ?_ ?_
       rotate_left
       ·simp only [Act.put,zz21,zz22,zz23,i64_w,i32_w]
        rfl
       refine pure_ (i:=19) (N:=some 32) (v:=undef) (a':=?_) #[T,T,T,T,T,T,T,T,T,T,T,T,T,T,T,T,T,T,T,T,F,F,F,F,F,F,F,F,F,F,F,F] rfl rfl (any_of HT_.out (by kernel_rfl)) (fun _ _ _ h=>h) (Or.inr ⟨by rfl,rfl⟩) ?_ ?_
       rotate_left
       ·simp only [Act.put,zz21,zz22,zz23,i64_w,i32_w]
        rfl
       refine pure_ (i:=20) (N:=some 33) (v:=undef) (a':=?_) #[T,T,T,T,T,T,T,T,T,T,T,T,T,T,T,T,T,T,T,T,T,F,F,F,F,F,F,F,F,F,F,F] rfl rfl (any_of HT_.out (by kernel_rfl)) (fun _ _ _ h=>h) (Or.inr ⟨by rfl,rfl⟩) ?_ ?_
       rotate_left
       ·simp only [Act.put,zz21,zz22,zz23,i64_w,i32_w]
        rfl
       refine pure_ (i:=21) (N:=some 34) (v:=undef) (a':=?_) #[T,T,T,T,T,T,T,T,T,T,T,T,T,T,T,T,T,T,T,T,T,T,F,F,F,F,F,F,F,F,F,F] rfl rfl (any_of HT_.out (by kernel_rfl)) (fun _ _ _ h=>h) (Or.inr ⟨by rfl,rfl⟩) ?_ ?_
       rotate_left
       ·simp only [Act.put,zz21,zz22,zz23,i64_w,i32_w]
        rfl
       refine pure_ (i:=22) (N:=some 35) (v:=undef) (a':=?_) #[T,T,T,T,T,T,T,T,T,T,T,T,T,T,T,T,T,T,T,T,T,T,T,F,F,F,F,F,F,F,F,F] rfl rfl (any_of HT_.out (by kernel_rfl)) (fun _ _ _ h=>h) (Or.inr ⟨by rfl,rfl⟩) ?_ ?_
       rotate_left
       ·simp only [Act.put,zz21,zz22,zz23,i64_w,i32_w]
        rfl
       refine pure_ (i:=23) (N:=some 36) (v:=undef) (a':=?_) #[T,T,T,T,T,T,T,T,T,T,T,T,T,T,T,T,T,T,T,T,T,T,T,T,F,F,F,F,F,F,F,F] rfl rfl (any_of HT_.out (by kernel_rfl)) (fun _ _ _ h=>h) (Or.inr ⟨by rfl,rfl⟩) ?_ ?_
       rotate_left
       ·simp only [Act.put,zz21,zz22,zz23,i64_w,i32_w]
        rfl
       refine pure_ (i:=24) (N:=some 37) (v:=undef) (a':=?_) #[T,T,T,T,T,T,T,T,T,T,T,T,T,T,T,T,T,T,T,T,T,T,T,T,T,F,F,F,F,F,F,F] rfl rfl (any_of HT_.out (by kernel_rfl)) (fun _ _ _ h=>h) (Or.inr ⟨by rfl,rfl⟩) ?_ ?_
       rotate_left
       ·simp only [Act.put,zz21,zz22,zz23,i64_w,i32_w]
        rfl
       refine pure_ (i:=25) (N:=some 38) (v:=undef) (a':=?_) #[T,T,T,T,T,T,T,T,T,T,T,T,T,T,T,T,T,T,T,T,T,T,T,T,T,T,F,F,F,F,F,F] rfl rfl (any_of HT_.out (by kernel_rfl)) (fun _ _ _ h=>h) (Or.inr ⟨by rfl,rfl⟩) ?_ ?_
       rotate_left
       ·simp only [Act.put,zz21,zz22,zz23,i64_w,i32_w]
        rfl
       refine pure_ (i:=26) (N:=some 39) (v:=undef) (a':=?_) #[T,T,T,T,T,T,T,T,T,T,T,T,T,T,T,T,T,T,T,T,T,T,T,T,T,T,T,F,F,F,F,F] rfl rfl (any_of HT_.out (by kernel_rfl)) (fun _ _ _ h=>h) (Or.inr ⟨by rfl,rfl⟩) ?_ ?_
       rotate_left
       ·simp only [Act.put,zz21,zz22,zz23,i64_w,i32_w]
        rfl
       refine pure_ (i:=27) (N:=some 40) (v:=undef) (a':=?_) #[T,T,T,T,T,T,T,T,T,T,T,T,T,T,T,T,T,T,T,T,T,T,T,T,T,T,T,T,F,F,F,F] rfl rfl (any_of HT_.out (by kernel_rfl)) (fun _ _ _ h=>h) (Or.inr ⟨by rfl,rfl⟩) ?_ ?_
       rotate_left
       ·simp only [Act.put,zz21,zz22,zz23,i64_w,i32_w]
        rfl
       refine pure_ (i:=28) (N:=some 41) (v:=undef) (a':=?_) #[T,T,T,T,T,T,T,T,T,T,T,T,T,T,T,T,T,T,T,T,T,T,T,T,T,T,T,T,T,F,F,F] rfl rfl (any_of HT_.out (by kernel_rfl)) (fun _ _ _ h=>h) (Or.inr ⟨by rfl,rfl⟩) ?_ ?_
       rotate_left
       ·simp only [Act.put,zz21,zz22,zz23,i64_w,i32_w]
        rfl
       refine pure_ (i:=29) (N:=some 42) (v:=undef) (a':=?_) #[T,T,T,T,T,T,T,T,T,T,T,T,T,T,T,T,T,T,T,T,T,T,T,T,T,T,T,T,T,T,F,F] rfl rfl (any_of HT_.out (by kernel_rfl)) (fun _ _ _ h=>h) (Or.inr ⟨by rfl,rfl⟩) ?_ ?_
       rotate_left
       ·simp only [Act.put,zz21,zz22,zz23,i64_w,i32_w]
        rfl
       refine pure_ (i:=30) (N:=some 43) (v:=undef) (a':=?_) #[T,T,T,T,T,T,T,T,T,T,T,T,T,T,T,T,T,T,T,T,T,T,T,T,T,T,T,T,T,T,T,F] rfl rfl (any_of HT_.out (by kernel_rfl)) (fun _ _ _ h=>h) (Or.inr ⟨by rfl,rfl⟩) ?_ ?_
       rotate_left
       ·simp only [Act.put,zz21,zz22,zz23,i64_w,i32_w]
        rfl
       refine zz32 (v:=?_) (a':=?_) 31 (some 44) #[T,T,T,T,T,T,T,T,T,T,T,T,T,T,T,T,T,T,T,T,T,T,T,T,T,T,T,T,T,T,T,T] rfl rfl HT_.out (by kernel_rfl) (fun _ _ _ h=>h) (by rfl) (fun w'=>?_) ?_ ?_;rotate_left;(go_simp;with_reducible rfl);rotate_left;(simp only [Act.put,zz21,zz22,zz23,i64_w,i32_w];rfl)
       refine done_ (done_of HT_.out (by kernel_rfl)) ?_
       try go_wp2
       go_ret
       exact ⟨by first | rfl | (simp [errW_none,errW_some] <;> rfl) | (simp [*,errW_none,errW_some] <;> rfl),by repeat first | exact HB.out | apply zz2 | apply zz0 | apply zz1 | refine zz3 ?_ GE265.out | refine zz3 ?_ GE267.out⟩
      ·rw [if_neg c7] at H
       have c7b0:decide (((rd_T70 l0_1 x8_1).f0) < 0)=false:=decide_eq_false c7
       clear c7
       by_cases c13:((rd_T70 l0_1 x8_1).f0) ≥ ((rd_T70 l0_1 x8_1).f1)
       ·rw [if_pos c13] at H
        have c13b0:decide (((rd_T70 l0_1 x8_1).f1)≤((rd_T70 l0_1 x8_1).f0))=true:=decide_eq_true c13
        clear c13
        obtain rfl:=Option.some.inj H
        have p266:0≤(x8_1:Int):=zz29 (by first | (with_reducible assumption) | assumption)
        have q266:x8_1 < (l0_1.length:Int):=zz29 (by first | (with_reducible assumption) | assumption)
        obtain ⟨ad266,e266,hx266_0,hx266_1⟩:=at_T70 HR0_1.out x8_1 p266 q266
        cases e266
        try replace hx266_0:=(HB.out.cell (World.block_lt_of_cell? w _ hx266_0)).trans hx266_0
        try replace hx266_1:=(HB.out.cell (World.block_lt_of_cell? w _ hx266_1)).trans hx266_1
        replace p266:=eq_true p266
        replace q266:=eq_true q266
        try go_wp2_with (first | ((with_reducible refine gate_dst (N:=4) rfl ?_);refine box_event ?hg (N:=4) ?hd (cs:=#[.int .i64 0,.int .i64 0]) (t:=70) ?hr ?_;(case hd=>rfl);(case hg=>rfl);(case hr=>first | (go_simp;done) | (go_simp;rfl));intro gb267 hg w14 hbox hb;have BK267:=zz31 (hbox);have GW267:=zz31 ((by rw [hg];exact (zz5 (by repeat first | exact HB.out | apply zz2 | apply zz0 | apply zz1 | refine zz3 ?_ GE265.out)):w.heap.size≤gb267));replace HB:=zz31 (zz4 (by repeat first | exact HB.out | apply zz2 | apply zz0 | apply zz1 | refine zz3 ?_ GE265.out) hb);have GE267:=GW267;have NB265_267:=zz31 ((by rw [hg];exact Nat.ne_of_lt (blk_lt (g:=gb265) (o:=.cells #[.int .i64 a0_0,.slice (some ad266) l0_1.length c0_1] 30 (0,0)) (by (with_reducible repeat (first | refine zz6 ?_ _ | refine zz7 ?_ | refine zz8 ?_ _));exact BK265.out)):gb265 ≠ gb267));have NB267_265:=zz31 ((by rw [hg];exact Nat.ne_of_gt (blk_lt (g:=gb265) (o:=.cells #[.int .i64 a0_0,.slice (some ad266) l0_1.length c0_1] 30 (0,0)) (by (with_reducible repeat (first | refine zz6 ?_ _ | refine zz7 ?_ | refine zz8 ?_ _));exact BK265.out)):gb267 ≠ gb265));replace BK265:=zz31 (zz11 (g:=gb265) (o:=.cells #[.int .i64 a0_0,.slice (some ad266) l0_1.length c0_1] 30 (0,0)) (by (with_reducible repeat (first | refine zz6 ?_ _ | refine zz7 ?_ | refine zz8 ?_ _));exact BK265.out) hb);clear hb hbox hg;have hnb15:=NB267_265.out;have hnc15:=NB265_267.out;have hcz16_0:w14.cell? ⟨gb267,0,none⟩=some (.int .i64 0):=(zz9 BK267.out 0).trans rfl;have hcz16_1:w14.cell? ⟨gb267,1,none⟩=some (.int .i64 0):=(zz9 BK267.out 1).trans rfl;have hfz16_0:=zz10 BK267.out 0;have hfz16_1:=zz10 BK267.out 1))
        have n0_:Aside0 (((w14.setCell ⟨gb267,0,none⟩ (.int .i64 ((rd_T70 l0_1 x8_1).f0))).setCell ⟨gb267,1,none⟩ (.int .i64 ((rd_T70 l0_1 x8_1).f1))).heap[gb265]?=some (.cells #[.int .i64 a0_0,.slice (some ad266) l0_1.length c0_1] 30 (0,0))):=⟨by (with_reducible repeat (first | refine zz6 ?_ _ | refine zz7 ?_ | refine zz8 ?_ _));refine blk_far ?_ NB265_267.out _;(with_reducible repeat (first | refine zz6 ?_ _ | refine zz7 ?_ | refine zz8 ?_ _));refine blk_far ?_ NB265_267.out _;(with_reducible repeat (first | refine zz6 ?_ _ | refine zz7 ?_ | refine zz8 ?_ _));exact BK265.out⟩
        have n1_:Aside0 (((w14.setCell ⟨gb267,0,none⟩ (.int .i64 ((rd_T70 l0_1 x8_1).f0))).setCell ⟨gb267,1,none⟩ (.int .i64 ((rd_T70 l0_1 x8_1).f1))).heap[gb267]?=some (.cells #[.int .i64 ((rd_T70 l0_1 x8_1).f0),.int .i64 ((rd_T70 l0_1 x8_1).f1)] 70 (0,0))):=⟨by (with_reducible repeat (first | refine zz6 ?_ _ | refine zz7 ?_ | refine zz8 ?_ _));refine blk_put (cs:=#[.int .i64 ((rd_T70 l0_1 x8_1).f0),.int .i64 0]) ?_ 1 _ rfl;(with_reducible repeat (first | refine zz6 ?_ _ | refine zz7 ?_ | refine zz8 ?_ _));refine blk_put (cs:=#[.int .i64 0,.int .i64 0]) ?_ 0 _ rfl;(with_reducible repeat (first | refine zz6 ?_ _ | refine zz7 ?_ | refine zz8 ?_ _));exact BK267.out⟩
        have n2_:Aside0 (Below w.heap.size w ((w14.setCell ⟨gb267,0,none⟩ (.int .i64 ((rd_T70 l0_1 x8_1).f0))).setCell ⟨gb267,1,none⟩ (.int .i64 ((rd_T70 l0_1 x8_1).f1)))):=⟨by repeat first | exact HB.out | apply zz2 | apply zz0 | apply zz1 | refine zz3 ?_ GE265.out | refine zz3 ?_ GE267.out⟩
        (try clear BK265)
        (try clear BK267)
        (try clear HB)
        generalize ((w14.setCell ⟨gb267,0,none⟩ (.int .i64 ((rd_T70 l0_1 x8_1).f0))).setCell ⟨gb267,1,none⟩ (.int .i64 ((rd_T70 l0_1 x8_1).f1)))=w17 at n0_ n1_ n2_ ⊢
        have BK265:=n0_
        have BK267:=n1_
        have HB:=n2_
        clear n0_ n1_ n2_
        replace BK265:=zz31 (zz7 BK265.out)
        replace BK267:=zz31 (zz7 BK267.out)
        replace HB:=zz31 (zz1 HB.out)
        refine start_ (n:=32) (S:=fun w'=>w'.cell? ⟨gb267,0,none⟩=some (.int .i64 ((rd_T70 l0_1 x8_1).f0))∧w'.cell? ⟨gb267,1,none⟩=some (.int .i64 ((rd_T70 l0_1 x8_1).f1))) (ds:=[]) #[F,F,F,F,F,F,F,F,F,F,F,F,F,F,F,F,F,F,F,F,F,F,F,F,F,F,F,F,F,F,F,F] (by kernel_rfl) rfl rfl ⟨(zz9 BK267.out 0).trans rfl,(zz9 BK267.out 1).trans rfl⟩ (fun hHeld=>?_);refine with_tabW impl_IsParty.tab4 impl_IsParty.bits4 (fun HT_ HW_=>?_)
        generalize w17.drew=w18 at BK265 BK267 HB hHeld ⊢
        refine zz32 (v:=?_) (a':=?_) 0 (some 13) #[T,F,F,F,F,F,F,F,F,F,F,F,F,F,F,F,F,F,F,F,F,F,F,F,F,F,F,F,F,F,F,F] rfl rfl HT_.out (by kernel_rfl) (fun _ _ _ h=>h) (by rfl) (fun w'=>?_) ?_ ?_;rotate_left;(go_simp;with_reducible rfl);rotate_left;(simp only [Act.put,zz21,zz22,zz23,i64_w,i32_w];rfl)
        refine zz33 (v:=?_) (a':=?_) 1 (some 14) #[T,T,F,F,F,F,F,F,F,F,F,F,F,F,F,F,F,F,F,F,F,F,F,F,F,F,F,F,F,F,F,F] rfl rfl HT_.out HW_.out (by kernel_rfl) (fun _ _ _ h=>h) (by rfl) ?_ hHeld ?_ ?_;rotate_left;(rintro w' ⟨s0,s1⟩;go_simp;with_reducible rfl);rotate_left;(simp only [Act.put,zz21,zz22,zz23,i64_w,i32_w];rfl)
        refine zz32 (v:=?_) (a':=?_) 2 (some 15) #[T,T,T,F,F,F,F,F,F,F,F,F,F,F,F,F,F,F,F,F,F,F,F,F,F,F,F,F,F,F,F,F] rfl rfl HT_.out (by kernel_rfl) (fun _ _ _ h=>h) (by rfl) (fun w'=>?_) ?_ ?_;rotate_left;(go_simp;with_reducible rfl);rotate_left;(simp only [Act.put,zz21,zz22,zz23,i64_w,i32_w];rfl)
        refine zz32 (v:=?_) (a':=?_) 3 (some 16) #[T,T,T,T,F,F,F,F,F,F,F,F,F,F,F,F,F,F,F,F,F,F,F,F,F,F,F,F,F,F,F,F] rfl rfl HT_.out (by kernel_rfl) (fun _ _ _ h=>h) (by rfl) (fun w'=>?_) ?_ ?_;rotate_left;(go_simp;with_reducible rfl);rotate_left;(simp only [Act.put,zz21,zz22,zz23,i64_w,i32_w];rfl)
        refine zz32 (v:=?_) (a':=?_) 4 (some 17) #[T,T,T,T,T,F,F,F,F,F,F,F,F,F,F,F,F,F,F,F,F,F,F,F,F,F,F,F,F,F,F,F] rfl rfl HT_.out (by kernel_rfl) (fun _ _ _ h=>h) (by rfl) (fun w'=>?_) ?_ ?_;rotate_left;(go_simp;with_reducible rfl);rotate_left;(simp only [Act.put,zz21,zz22,zz23,i64_w,i32_w];rfl)
        refine zz32 (v:=?_) (a':=?_) 6 (some 19) #[T,T,T,T,T,F,T,F,F,F,F,F,F,F,F,F,F,F,F,F,F,F,F,F,F,F,F,F,F,F,F,F] rfl rfl HT_.out (by kernel_rfl) (fun _ _ _ h=>h) (by rfl) (fun w'=>?_) ?_ ?_;rotate_left;(go_simp;with_reducible rfl);rotate_left;(simp only [Act.put,zz21,zz22,zz23,i64_w,i32_w];rfl)
        refine zz33 (v:=?_) (a':=?_) 5 (some 18) #[T,T,T,T,T,T,T,F,F,F,F,F,F,F,F,F,F,F,F,F,F,F,F,F,F,F,F,F,F,F,F,F] rfl rfl HT_.out HW_.out (by kernel_rfl) (fun _ _ _ h=>h) (by rfl) ?_ hHeld ?_ ?_;rotate_left;(rintro w' ⟨s0,s1⟩;go_simp;with_reducible rfl);rotate_left;(simp only [Act.put,zz21,zz22,zz23,i64_w,i32_w];rfl)
        refine zz33 (v:=?_) (a':=?_) 7 (some 20) #[T,T,T,T,T,T,T,T,F,F,F,F,F,F,F,F,F,F,F,F,F,F,F,F,F,F,F,F,F,F,F,F] rfl rfl HT_.out HW_.out (by kernel_rfl) (fun _ _ _ h=>h) (by rfl) ?_ hHeld ?_ ?_;rotate_left;(rintro w' ⟨s0,s1⟩;go_simp;with_reducible rfl);rotate_left;(simp only [Act.put,zz21,zz22,zz23,i64_w,i32_w];rfl)
        refine zz32 (v:=?_) (a':=?_) 8 (some 21) #[T,T,T,T,T,T,T,T,T,F,F,F,F,F,F,F,F,F,F,F,F,F,F,F,F,F,F,F,F,F,F,F] rfl rfl HT_.out (by kernel_rfl) (fun _ _ _ h=>h) (by rfl) (fun w'=>?_) ?_ ?_;rotate_left;(go_simp;with_reducible rfl);rotate_left;(simp only [Act.put,zz21,zz22,zz23,i64_w,i32_w];rfl)
        refine zz32 (v:=?_) (a':=?_) 9 (some 22) #[T,T,T,T,T,T,T,T,T,T,F,F,F,F,F,F,F,F,F,F,F,F,F,F,F,F,F,F,F,F,F,F] rfl rfl HT_.out (by kernel_rfl) (fun _ _ _ h=>h) (by rfl) (fun w'=>?_) ?_ ?_;rotate_left;(go_simp;with_reducible rfl);rotate_left;(simp only [Act.put,zz21,zz22,zz23,i64_w,i32_w];rfl)
        refine zz32 (v:=?_) (a':=?_) 10 (some 23) #[T,T,T,T,T,T,T,T,T,T,T,F,F,F,F,F,F,F,F,F,F,F,F,F,F,F,F,F,F,F,F,F] rfl rfl HT_.out (by kernel_rfl) (fun _ _ _ h=>h) (by rfl) (fun w'=>?_) ?_ ?_;rotate_left;(go_simp;with_reducible rfl);rotate_left;(simp only [Act.put,zz21,zz22,zz23,i64_w,i32_w];rfl)
        refine pure_ (i:=11) (N:=some 24) (v:=undef) (a':=?_) #[T,T,T,T,T,T,T,T,T,T,T,T,F,F,F,F,F,F,F,F,F,F,F,F,F,F,F,F,F,F,F,F] rfl rfl (any_of HT_.out (by kernel_rfl)) (fun _ _ _ h=>h) (Or.inr ⟨by rfl,rfl⟩) ?_ ?_
        rotate_left
        ·simp only [Act.put,zz21,zz22,zz23,i64_w,i32_w]
         rfl
        refine pure_ (i:=12) (N:=some 25) (v:=undef) (a':=?_) #[T,T,T,T,T,T,T,T,T,T,T,T,T,F,F,F,F,F,F,F,F,F,F,F,F,F,F,F,F,F,F,F] rfl rfl (any_of HT_.out (by kernel_rfl)) (fun _ _ _ h=>h) (Or.inr ⟨by rfl,rfl⟩) ?_ ?_
        rotate_left
        ·simp only [Act.put,zz21,zz22,zz23,i64_w,i32_w]
         rfl
        refine pure_ (i:=13) (N:=some 26) (v:=undef) (a':=?_) #[T,T,T,T,T,T,T,T,T,T,T,T,T,T,F,F,F,F,F,F,F,F,F,F,F,F,F,F,F,F,F,F] rfl rfl (any_of HT_.out (by kernel_rfl)) (fun _ _ _ h=>h) (Or.inr ⟨by rfl,rfl⟩) ?_ ?_
        rotate_left
        ·simp only [Act.put,zz21,zz22,zz23,i64_w,i32_w]
         rfl
        refine pure_ (i:=14) (N:=some 27) (v:=undef) (a':=?_) #[T,T,T,T,T,T,T,T,T,T,T,T,T,T,T,F,F,F,F,F,F,F,F,F,F,F,F,F,F,F,F,F] rfl rfl (any_of HT_.out (by kernel_rfl)) (fun _ _ _ h=>h) (Or.inr ⟨by rfl,rfl⟩) ?_ ?_
        rotate_left
        ·simp only [Act.put,zz21,zz22,zz23,i64_w,i32_w]
         rfl
        refine pure_ (i:=15) (N:=some 28) (v:=undef) (a':=?_) #[T,T,T,T,T,T,T,T,T,T,T,T,T,T,T,T,F,F,F,F,F,F,F,F,F,F,F,F,F,F,F,F] rfl rfl (any_of HT_.out (by kernel_rfl)) (fun _ _ _ h=>h) (Or.inr ⟨by rfl,rfl⟩) ?_ ?_
        rotate_left
        ·simp only [Act.put,zz21,zz22,zz23,i64_w,i32_w]
         rfl
        refine zz32 (v:=?_) (a':=?_) 16 (some 29) #[T,T,T,T,T,T,T,T,T,T,T,T,T,T,T,T,T,F,F,F,F,F,F,F,F,F,F,F,F,F,F,F] rfl rfl HT_.out (by kernel_rfl) (fun _ _ _ h=>h) (by rfl) (fun w'=>?_) ?_ ?_;rotate_left;(go_simp;with_reducible rfl);rotate_left;(simp only [Act.put,zz21,zz22,zz23,i64_w,i32_w];rfl)
        refine zz32 (v:=?_) (a':=?_) 17 (some 30) #[T,T,T,T,T,T,T,T,T,T,T,T,T,T,T,T,T,T,F,F,F,F,F,F,F,F,F,F,F,F,F,F] rfl rfl HT_.out (by kernel_rfl) (fun _ _ _ h=>h) (by rfl) (fun w'=>?_) ?_ ?_;rotate_left;(go_simp;with_reducible rfl);rotate_left;(simp only [Act.put,zz21,zz22,zz23,i64_w,i32_w];rfl)
        refine pure_ (i:=18) (N:=some 31) (v:=undef) (a':=?_) #[T,T,T,T,T,T,T,T,T,T,T,T,T,T,T,T,T,T,T,F,F,F,F,F,F,F,F,F,F,F,F,F] rfl rfl (any_of HT_.out (by kernel_rfl)) (fun _ _ _ h=>h) (Or.inr ⟨by rfl,rfl⟩) ?_ ?_
        rotate_left
        ·simp only [Act.put,zz21,zz22,zz23,i64_w,i32_w]
         rfl
        refine pure_ (i:=19) (N:=some 32) (v:=undef) (a':=?_) #[T,T,T,T,T,T,T,T,T,T,T,T,T,T,T,T,T,T,T,T,F,F,F,F,F,F,F,F,F,F,F,F] rfl rfl (any_of HT_.out (by kernel_rfl)) (fun _ _ _ h=>h) (Or.inr ⟨by rfl,rfl⟩) ?_ ?_
        rotate_left
        ·simp only [Act.put,zz21,zz22,zz23,i64_w,i32_w]
         rfl
        refine pure_ (i:=20) (N:=some 33) (v:=undef) (a':=?_) #[T,T,T,T,T,T,T,T,T,T,T,T,T,T,T,T,T,T,T,T,T,F,F,F,F,F,F,F,F,F,F,F] rfl rfl (any_of HT_.out (by kernel_rfl)) (fun _ _ _ h=>h) (Or.inr ⟨by rfl,rfl⟩) ?_ ?_
        rotate_left
        ·simp only [Act.put,zz21,zz22,zz23,i64_w,i32_w]
         rfl
        refine pure_ (i:=21) (N:=some 34) (v:=undef) (a':=?_) #[T,T,T,T,T,T,T,T,T,T,T,T,T,T,T,T,T,T,T,T,T,T,F,F,F,F,F,F,F,F,F,F] rfl rfl (any_of HT_.out (by kernel_rfl)) (fun _ _ _ h=>h) (Or.inr ⟨by rfl,rfl⟩) ?_ ?_
        rotate_left
        ·simp only [Act.put,zz21,zz22,zz23,i64_w,i32_w]
         rfl
        refine pure_ (i:=22) (N:=some 35) (v:=undef) (a':=?_) #[T,T,T,T,T,T,T,T,T,T,T,T,T,T,T,T,T,T,T,T,T,T,T,F,F,F,F,F,F,F,F,F] rfl rfl (any_of HT_.out (by kernel_rfl)) (fun _ _ _ h=>h) (Or.inr ⟨by rfl,rfl⟩) ?_ ?_
        rotate_left
        ·simp only [Act.put,zz21,zz22,zz23,i64_w,i32_w]
         rfl
        refine pure_ (i:=23) (N:=some 36) (v:=undef) (a':=?_) #[T,T,T,T,T,T,T,T,T,T,T,T,T,T,T,T,T,T,T,T,T,T,T,T,F,F,F,F,F,F,F,F] rfl rfl (any_of HT_.out (by kernel_rfl)) (fun _ _ _ h=>h) (Or.inr ⟨by rfl,rfl⟩) ?_ ?_
        rotate_left
        ·simp only [Act.put,zz21,zz22,zz23,i64_w,i32_w]
         rfl
        refine pure_ (i:=24) (N:=some 37) (v:=undef) (a':=?_) #[T,T,T,T,T,T,T,T,T,T,T,T,T,T,T,T,T,T,T,T,T,T,T,T,T,F,F,F,F,F,F,F] rfl rfl (any_of HT_.out (by kernel_rfl)) (fun _ _ _ h=>h) (Or.inr ⟨by rfl,rfl⟩) ?_ ?_
        rotate_left
        ·simp only [Act.put,zz21,zz22,zz23,i64_w,i32_w]
         rfl
        refine pure_ (i:=25) (N:=some 38) (v:=undef) (a':=?_) #[T,T,T,T,T,T,T,T,T,T,T,T,T,T,T,T,T,T,T,T,T,T,T,T,T,T,F,F,F,F,F,F] rfl rfl (any_of HT_.out (by kernel_rfl)) (fun _ _ _ h=>h) (Or.inr ⟨by rfl,rfl⟩) ?_ ?_
        rotate_left
        ·simp only [Act.put,zz21,zz22,zz23,i64_w,i32_w]
         rfl
        refine pure_ (i:=26) (N:=some 39) (v:=undef) (a':=?_) #[T,T,T,T,T,T,T,T,T,T,T,T,T,T,T,T,T,T,T,T,T,T,T,T,T,T,T,F,F,F,F,F] rfl rfl (any_of HT_.out (by kernel_rfl)) (fun _ _ _ h=>h) (Or.inr ⟨by rfl,rfl⟩) ?_ ?_
        rotate_left
        ·simp only [Act.put,zz21,zz22,zz23,i64_w,i32_w]
         rfl
        refine pure_ (i:=27) (N:=some 40) (v:=undef) (a':=?_) #[T,T,T,T,T,T,T,T,T,T,T,T,T,T,T,T,T,T,T,T,T,T,T,T,T,T,T,T,F,F,F,F] rfl rfl (any_of HT_.out (by kernel_rfl)) (fun _ _ _ h=>h) (Or.inr ⟨by rfl,rfl⟩) ?_ ?_
        rotate_left
        ·simp only [Act.put,zz21,zz22,zz23,i64_w,i32_w]
         rfl
        refine pure_ (i:=28) (N:=some 41) (v:=undef) (a':=?_) #[T,T,T,T,T,T,T,T,T,T,T,T,T,T,T,T,T,T,T,T,T,T,T,T,T,T,T,T,T,F,F,F] rfl rfl (any_of HT_.out (by kernel_rfl)) (fun _ _ _ h=>h) (Or.inr ⟨by rfl,rfl⟩) ?_ ?_
        rotate_left
        ·simp only [Act.put,zz21,zz22,zz23,i64_w,i32_w]
         rfl
        refine pure_ (i:=29) (N:=some 42) (v:=undef) (a':=?_) #[T,T,T,T,T,T,T,T,T,T,T,T,T,T,T,T,T,T,T,T,T,T,T,T,T,T,T,T,T,T,F,F] rfl rfl (any_of HT_.out (by kernel_rfl)) (fun _ _ _ h=>h) (Or.inr ⟨by rfl,rfl⟩) ?_ ?_
        rotate_left
        ·simp only [Act.put,zz21,zz22,zz23,i64_w,i32_w]
         rfl
        refine pure_ (i:=30) (N:=some 43) (v:=undef) (a':=?_) #[T,T,T,T,T,T,T,T,T,T,T,T,T,T,T,T,T,T,T,T,T,T,T,T,T,T,T,T,T,T,T,F] rfl rfl (any_of HT_.out (by kernel_rfl)) (fun _ _ _ h=>h) (Or.inr ⟨by rfl,rfl⟩) ?_ ?_
        rotate_left
        ·simp only [Act.put,zz21,zz22,zz23,i64_w,i32_w]
         rfl
        refine zz32 (v:=?_) (a':=?_) 31 (some 44) #[T,T,T,T,T,T,T,T,T,T,T,T,T,T,T,T,T,T,T,T,T,T,T,T,T,T,T,T,T,T,T,T] rfl rfl HT_.out (by kernel_rfl) (fun _ _ _ h=>h) (by rfl) (fun w'=>?_) ?_ ?_;rotate_left;(go_simp;with_reducible rfl);rotate_left;(simp only [Act.put,zz21,zz22,zz23,i64_w,i32_w];rfl)
        refine done_ (done_of HT_.out (by kernel_rfl)) ?_
        try go_wp2
        go_ret
        exact ⟨by first | rfl | (simp [errW_none,errW_some] <;> rfl) | (simp [*,errW_none,errW_some] <;> rfl),by repeat first | exact HB.out | apply zz2 | apply zz0 | apply zz1 | refine zz3 ?_ GE265.out | refine zz3 ?_ GE267.out⟩
       ·rw [if_neg c13] at H
        have c13b0:decide (((rd_T70 l0_1 x8_1).f1)≤((rd_T70 l0_1 x8_1).f0))=false:=decide_eq_false c13
        clear c13
        by_cases c19:((rd_T70 l0_1 x8_1).f1) ≥ a0_0
        ·rw [if_pos c19] at H
         have c19b0:decide (a0_0≤((rd_T70 l0_1 x8_1).f1))=true:=decide_eq_true c19
         clear c19
         obtain rfl:=Option.some.inj H
         have p266:0≤(x8_1:Int):=zz29 (by first | (with_reducible assumption) | assumption)
         have q266:x8_1 < (l0_1.length:Int):=zz29 (by first | (with_reducible assumption) | assumption)
         obtain ⟨ad266,e266,hx266_0,hx266_1⟩:=at_T70 HR0_1.out x8_1 p266 q266
         cases e266
         try replace hx266_0:=(HB.out.cell (World.block_lt_of_cell? w _ hx266_0)).trans hx266_0
         try replace hx266_1:=(HB.out.cell (World.block_lt_of_cell? w _ hx266_1)).trans hx266_1
         replace p266:=eq_true p266
         replace q266:=eq_true q266
         try go_wp2_with (first | ((with_reducible refine gate_dst (N:=4) rfl ?_);refine box_event ?hg (N:=4) ?hd (cs:=#[.int .i64 0,.int .i64 0]) (t:=70) ?hr ?_;(case hd=>rfl);(case hg=>rfl);(case hr=>first | (go_simp;done) | (go_simp;rfl));intro gb267 hg w20 hbox hb;have BK267:=zz31 (hbox);have GW267:=zz31 ((by rw [hg];exact (zz5 (by repeat first | exact HB.out | apply zz2 | apply zz0 | apply zz1 | refine zz3 ?_ GE265.out)):w.heap.size≤gb267));replace HB:=zz31 (zz4 (by repeat first | exact HB.out | apply zz2 | apply zz0 | apply zz1 | refine zz3 ?_ GE265.out) hb);have GE267:=GW267;have NB265_267:=zz31 ((by rw [hg];exact Nat.ne_of_lt (blk_lt (g:=gb265) (o:=.cells #[.int .i64 a0_0,.slice (some ad266) l0_1.length c0_1] 30 (0,0)) (by (with_reducible repeat (first | refine zz6 ?_ _ | refine zz7 ?_ | refine zz8 ?_ _));exact BK265.out)):gb265 ≠ gb267));have NB267_265:=zz31 ((by rw [hg];exact Nat.ne_of_gt (blk_lt (g:=gb265) (o:=.cells #[.int .i64 a0_0,.slice (some ad266) l0_1.length c0_1] 30 (0,0)) (by (with_reducible repeat (first | refine zz6 ?_ _ | refine zz7 ?_ | refine zz8 ?_ _));exact BK265.out)):gb267 ≠ gb265));replace BK265:=zz31 (zz11 (g:=gb265) (o:=.cells #[.int .i64 a0_0,.slice (some ad266) l0_1.length c0_1] 30 (0,0)) (by (with_reducible repeat (first | refine zz6 ?_ _ | refine zz7 ?_ | refine zz8 ?_ _));exact BK265.out) hb);clear hb hbox hg;have hnb21:=NB267_265.out;have hnc21:=NB265_267.out;have hcz22_0:w20.cell? ⟨gb267,0,none⟩=some (.int .i64 0):=(zz9 BK267.out 0).trans rfl;have hcz22_1:w20.cell? ⟨gb267,1,none⟩=some (.int .i64 0):=(zz9 BK267.out 1).trans rfl;have hfz22_0:=zz10 BK267.out 0;have hfz22_1:=zz10 BK267.out 1))
         have n0_:Aside0 (((w20.setCell ⟨gb267,0,none⟩ (.int .i64 ((rd_T70 l0_1 x8_1).f0))).setCell ⟨gb267,1,none⟩ (.int .i64 ((rd_T70 l0_1 x8_1).f1))).heap[gb265]?=some (.cells #[.int .i64 a0_0,.slice (some ad266) l0_1.length c0_1] 30 (0,0))):=⟨by (with_reducible repeat (first | refine zz6 ?_ _ | refine zz7 ?_ | refine zz8 ?_ _));refine blk_far ?_ NB265_267.out _;(with_reducible repeat (first | refine zz6 ?_ _ | refine zz7 ?_ | refine zz8 ?_ _));refine blk_far ?_ NB265_267.out _;(with_reducible repeat (first | refine zz6 ?_ _ | refine zz7 ?_ | refine zz8 ?_ _));exact BK265.out⟩
         have n1_:Aside0 (((w20.setCell ⟨gb267,0,none⟩ (.int .i64 ((rd_T70 l0_1 x8_1).f0))).setCell ⟨gb267,1,none⟩ (.int .i64 ((rd_T70 l0_1 x8_1).f1))).heap[gb267]?=some (.cells #[.int .i64 ((rd_T70 l0_1 x8_1).f0),.int .i64 ((rd_T70 l0_1 x8_1).f1)] 70 (0,0))):=⟨by (with_reducible repeat (first | refine zz6 ?_ _ | refine zz7 ?_ | refine zz8 ?_ _));refine blk_put (cs:=#[.int .i64 ((rd_T70 l0_1 x8_1).f0),.int .i64 0]) ?_ 1 _ rfl;(with_reducible repeat (first | refine zz6 ?_ _ | refine zz7 ?_ | refine zz8 ?_ _));refine blk_put (cs:=#[.int .i64 0,.int .i64 0]) ?_ 0 _ rfl;(with_reducible repeat (first | refine zz6 ?_ _ | refine zz7 ?_ | refine zz8 ?_ _));exact BK267.out⟩
         have n2_:Aside0 (Below w.heap.size w ((w20.setCell ⟨gb267,0,none⟩ (.int .i64 ((rd_T70 l0_1 x8_1).f0))).setCell ⟨gb267,1,none⟩ (.int .i64 ((rd_T70 l0_1 x8_1).f1)))):=⟨by repeat first | exact HB.out | apply zz2 | apply zz0 | apply zz1 | refine zz3 ?_ GE265.out | refine zz3 ?_ GE267.out⟩
         (try clear BK265)
         (try clear BK267)
         (try clear HB)
         generalize ((w20.setCell ⟨gb267,0,none⟩ (.int .i64 ((rd_T70 l0_1 x8_1).f0))).setCell ⟨gb267,1,none⟩ (.int .i64 ((rd_T70 l0_1 x8_1).f1)))=w23 at n0_ n1_ n2_ ⊢
         have BK265:=n0_
         have BK267:=n1_
         have HB:=n2_
         clear n0_ n1_ n2_
         replace BK265:=zz31 (zz7 BK265.out)
         replace BK267:=zz31 (zz7 BK267.out)
         replace HB:=zz31 (zz1 HB.out)
         refine start_ (n:=32) (S:=fun w'=>w'.cell? ⟨gb267,0,none⟩=some (.int .i64 ((rd_T70 l0_1 x8_1).f0))∧w'.cell? ⟨gb267,1,none⟩=some (.int .i64 ((rd_T70 l0_1 x8_1).f1))∧w'.cell? ⟨gb265,0,none⟩=some (.int .i64 a0_0)∧w'.cell? ⟨gb265,1,none⟩=some (.slice (some ad266) l0_1.length c0_1)) (ds:=[]) #[F,F,F,F,F,F,F,F,F,F,F,F,F,F,F,F,F,F,F,F,F,F,F,F,F,F,F,F,F,F,F,F] (by kernel_rfl) rfl rfl ⟨(zz9 BK267.out 0).trans rfl,(zz9 BK267.out 1).trans rfl,(zz9 BK265.out 0).trans rfl,(zz9 BK265.out 1).trans rfl⟩ (fun hHeld=>?_);refine with_tabW impl_IsParty.tab4 impl_IsParty.bits4 (fun HT_ HW_=>?_)
         generalize w23.drew=w24 at BK265 BK267 HB hHeld ⊢
         refine zz32 (v:=?_) (a':=?_) 0 (some 13) #[T,F,F,F,F,F,F,F,F,F,F,F,F,F,F,F,F,F,F,F,F,F,F,F,F,F,F,F,F,F,F,F] rfl rfl HT_.out (by kernel_rfl) (fun _ _ _ h=>h) (by rfl) (fun w'=>?_) ?_ ?_;rotate_left;(go_simp;with_reducible rfl);rotate_left;(simp only [Act.put,zz21,zz22,zz23,i64_w,i32_w];rfl)
         refine zz33 (v:=?_) (a':=?_) 1 (some 14) #[T,T,F,F,F,F,F,F,F,F,F,F,F,F,F,F,F,F,F,F,F,F,F,F,F,F,F,F,F,F,F,F] rfl rfl HT_.out HW_.out (by kernel_rfl) (fun _ _ _ h=>h) (by rfl) ?_ hHeld ?_ ?_;rotate_left;(rintro w' ⟨s0,s1,s2,s3⟩;go_simp;with_reducible rfl);rotate_left;(simp only [Act.put,zz21,zz22,zz23,i64_w,i32_w];rfl)
         refine zz32 (v:=?_) (a':=?_) 2 (some 15) #[T,T,T,F,F,F,F,F,F,F,F,F,F,F,F,F,F,F,F,F,F,F,F,F,F,F,F,F,F,F,F,F] rfl rfl HT_.out (by kernel_rfl) (fun _ _ _ h=>h) (by rfl) (fun w'=>?_) ?_ ?_;rotate_left;(go_simp;with_reducible rfl);rotate_left;(simp only [Act.put,zz21,zz22,zz23,i64_w,i32_w];rfl)
         refine zz32 (v:=?_) (a':=?_) 3 (some 16) #[T,T,T,T,F,F,F,F,F,F,F,F,F,F,F,F,F,F,F,F,F,F,F,F,F,F,F,F,F,F,F,F] rfl rfl HT_.out (by kernel_rfl) (fun _ _ _ h=>h) (by rfl) (fun w'=>?_) ?_ ?_;rotate_left;(go_simp;with_reducible rfl);rotate_left;(simp only [Act.put,zz21,zz22,zz23,i64_w,i32_w];rfl)
         refine zz32 (v:=?_) (a':=?_) 4 (some 17) #[T,T,T,T,T,F,F,F,F,F,F,F,F,F,F,F,F,F,F,F,F,F,F,F,F,F,F,F,F,F,F,F] rfl rfl HT_.out (by kernel_rfl) (fun _ _ _ h=>h) (by rfl) (fun w'=>?_) ?_ ?_;rotate_left;(go_simp;with_reducible rfl);rotate_left;(simp only [Act.put,zz21,zz22,zz23,i64_w,i32_w];rfl)
         refine zz32 (v:=?_) (a':=?_) 6 (some 19) #[T,T,T,T,T,F,T,F,F,F,F,F,F,F,F,F,F,F,F,F,F,F,F,F,F,F,F,F,F,F,F,F] rfl rfl HT_.out (by kernel_rfl) (fun _ _ _ h=>h) (by rfl) (fun w'=>?_) ?_ ?_;rotate_left;(go_simp;with_reducible rfl);rotate_left;(simp only [Act.put,zz21,zz22,zz23,i64_w,i32_w];rfl)
         refine zz33 (v:=?_) (a':=?_) 5 (some 18) #[T,T,T,T,T,T,T,F,F,F,F,F,F,F,F,F,F,F,F,F,F,F,F,F,F,F,F,F,F,F,F,F] rfl rfl HT_.out HW_.out (by kernel_rfl) (fun _ _ _ h=>h) (by rfl) ?_ hHeld ?_ ?_;rotate_left;(rintro w' ⟨s0,s1,s2,s3⟩;go_simp;with_reducible rfl);rotate_left;(simp only [Act.put,zz21,zz22,zz23,i64_w,i32_w];rfl)
         refine zz33 (v:=?_) (a':=?_) 7 (some 20) #[T,T,T,T,T,T,T,T,F,F,F,F,F,F,F,F,F,F,F,F,F,F,F,F,F,F,F,F,F,F,F,F] rfl rfl HT_.out HW_.out (by kernel_rfl) (fun _ _ _ h=>h) (by rfl) ?_ hHeld ?_ ?_;rotate_left;(rintro w' ⟨s0,s1,s2,s3⟩;go_simp;with_reducible rfl);rotate_left;(simp only [Act.put,zz21,zz22,zz23,i64_w,i32_w];rfl)
         refine zz32 (v:=?_) (a':=?_) 8 (some 21) #[T,T,T,T,T,T,T,T,T,F,F,F,F,F,F,F,F,F,F,F,F,F,F,F,F,F,F,F,F,F,F,F] rfl rfl HT_.out (by kernel_rfl) (fun _ _ _ h=>h) (by rfl) (fun w'=>?_) ?_ ?_;rotate_left;(go_simp;with_reducible rfl);rotate_left;(simp only [Act.put,zz21,zz22,zz23,i64_w,i32_w];rfl)
         refine zz32 (v:=?_) (a':=?_) 9 (some 22) #[T,T,T,T,T,T,T,T,T,T,F,F,F,F,F,F,F,F,F,F,F,F,F,F,F,F,F,F,F,F,F,F] rfl rfl HT_.out (by kernel_rfl) (fun _ _ _ h=>h) (by rfl) (fun w'=>?_) ?_ ?_;rotate_left;(go_simp;with_reducible rfl);rotate_left;(simp only [Act.put,zz21,zz22,zz23,i64_w,i32_w];rfl)
         refine zz32 (v:=?_) (a':=?_) 10 (some 23) #[T,T,T,T,T,T,T,T,T,T,T,F,F,F,F,F,F,F,F,F,F,F,F,F,F,F,F,F,F,F,F,F] rfl rfl HT_.out (by kernel_rfl) (fun _ _ _ h=>h) (by rfl) (fun w'=>?_) ?_ ?_;rotate_left;(go_simp;with_reducible rfl);rotate_left;(simp only [Act.put,zz21,zz22,zz23,i64_w,i32_w];rfl)
         refine zz32 (v:=?_) (a':=?_) 11 (some 24) #[T,T,T,T,T,T,T,T,T,T,T,T,F,F,F,F,F,F,F,F,F,F,F,F,F,F,F,F,F,F,F,F] rfl rfl HT_.out (by kernel_rfl) (fun _ _ _ h=>h) (by rfl) (fun w'=>?_) ?_ ?_;rotate_left;(go_simp;with_reducible rfl);rotate_left;(simp only [Act.put,zz21,zz22,zz23,i64_w,i32_w];rfl)
         refine zz32 (v:=?_) (a':=?_) 13 (some 26) #[T,T,T,T,T,T,T,T,T,T,T,T,F,T,F,F,F,F,F,F,F,F,F,F,F,F,F,F,F,F,F,F] rfl rfl HT_.out (by kernel_rfl) (fun _ _ _ h=>h) (by rfl) (fun w'=>?_) ?_ ?_;rotate_left;(go_simp;with_reducible rfl);rotate_left;(simp only [Act.put,zz21,zz22,zz23,i64_w,i32_w];rfl)
         refine zz33 (v:=?_) (a':=?_) 12 (some 25) #[T,T,T,T,T,T,T,T,T,T,T,T,T,T,F,F,F,F,F,F,F,F,F,F,F,F,F,F,F,F,F,F] rfl rfl HT_.out HW_.out (by kernel_rfl) (fun _ _ _ h=>h) (by rfl) ?_ hHeld ?_ ?_;rotate_left;(rintro w' ⟨s0,s1,s2,s3⟩;go_simp;with_reducible rfl);rotate_left;(simp only [Act.put,zz21,zz22,zz23,i64_w,i32_w];rfl)
         refine zz33 (v:=?_) (a':=?_) 14 (some 27) #[T,T,T,T,T,T,T,T,T,T,T,T,T,T,T,F,F,F,F,F,F,F,F,F,F,F,F,F,F,F,F,F] rfl rfl HT_.out HW_.out (by kernel_rfl) (fun _ _ _ h=>h) (by rfl) ?_ hHeld ?_ ?_;rotate_left;(rintro w' ⟨s0,s1,s2,s3⟩;go_simp;with_reducible rfl);rotate_left;(simp only [Act.put,zz21,zz22,zz23,i64_w,i32_w];rfl)
         refine zz32 (v:=?_) (a':=?_) 15 (some 28) #[T,T,T,T,T,T,T,T,T,T,T,T,T,T,T,T,F,F,F,F,F,F,F,F,F,F,F,F,F,F,F,F] rfl rfl HT_.out (by kernel_rfl) (fun _ _ _ h=>h) (by rfl) (fun w'=>?_) ?_ ?_;rotate_left;(go_simp;with_reducible rfl);rotate_left;(simp only [Act.put,zz21,zz22,zz23,i64_w,i32_w];rfl)
         refine zz32 (v:=?_) (a':=?_) 16 (some 29) #[T,T,T,T,T,T,T,T,T,T,T,T,T,T,T,T,T,F,F,F,F,F,F,F,F,F,F,F,F,F,F,F] rfl rfl HT_.out (by kernel_rfl) (fun _ _ _ h=>h) (by rfl) (fun w'=>?_) ?_ ?_;rotate_left;(go_simp;with_reducible rfl);rotate_left;(simp only [Act.put,zz21,zz22,zz23,i64_w,i32_w];rfl)
         refine zz32 (v:=?_) (a':=?_) 17 (some 30) #[T,T,T,T,T,T,T,T,T,T,T,T,T,T,T,T,T,T,F,F,F,F,F,F,F,F,F,F,F,F,F,F] rfl rfl HT_.out (by kernel_rfl) (fun _ _ _ h=>h) (by rfl) (fun w'=>?_) ?_ ?_;rotate_left;(go_simp;with_reducible rfl);rotate_left;(simp only [Act.put,zz21,zz22,zz23,i64_w,i32_w];rfl)
         refine pure_ (i:=18) (N:=some 31) (v:=undef) (a':=?_) #[T,T,T,T,T,T,T,T,T,T,T,T,T,T,T,T,T,T,T,F,F,F,F,F,F,F,F,F,F,F,F,F] rfl rfl (any_of HT_.out (by kernel_rfl)) (fun _ _ _ h=>h) (Or.inr ⟨by rfl,rfl⟩) ?_ ?_
         rotate_left
         ·simp only [Act.put,zz21,zz22,zz23,i64_w,i32_w]
          rfl
         refine pure_ (i:=19) (N:=some 32) (v:=undef) (a':=?_) #[T,T,T,T,T,T,T,T,T,T,T,T,T,T,T,T,T,T,T,T,F,F,F,F,F,F,F,F,F,F,F,F] rfl rfl (any_of HT_.out (by kernel_rfl)) (fun _ _ _ h=>h) (Or.inr ⟨by rfl,rfl⟩) ?_ ?_
         rotate_left
         ·simp only [Act.put,zz21,zz22,zz23,i64_w,i32_w]
          rfl
         refine pure_ (i:=20) (N:=some 33) (v:=undef) (a':=?_) #[T,T,T,T,T,T,T,T,T,T,T,T,T,T,T,T,T,T,T,T,T,F,F,F,F,F,F,F,F,F,F,F] rfl rfl (any_of HT_.out (by kernel_rfl)) (fun _ _ _ h=>h) (Or.inr ⟨by rfl,rfl⟩) ?_ ?_
         rotate_left
         ·simp only [Act.put,zz21,zz22,zz23,i64_w,i32_w]
          rfl
         refine pure_ (i:=21) (N:=some 34) (v:=undef) (a':=?_) #[T,T,T,T,T,T,T,T,T,T,T,T,T,T,T,T,T,T,T,T,T,T,F,F,F,F,F,F,F,F,F,F] rfl rfl (any_of HT_.out (by kernel_rfl)) (fun _ _ _ h=>h) (Or.inr ⟨by rfl,rfl⟩) ?_ ?_
         rotate_left
         ·simp only [Act.put,zz21,zz22,zz23,i64_w,i32_w]
          rfl
         refine pure_ (i:=22) (N:=some 35) (v:=undef) (a':=?_) #[T,T,T,T,T,T,T,T,T,T,T,T,T,T,T,T,T,T,T,T,T,T,T,F,F,F,F,F,F,F,F,F] rfl rfl (any_of HT_.out (by kernel_rfl)) (fun _ _ _ h=>h) (Or.inr ⟨by rfl,rfl⟩) ?_ ?_
         rotate_left
         ·simp only [Act.put,zz21,zz22,zz23,i64_w,i32_w]
          rfl
         refine pure_ (i:=23) (N:=some 36) (v:=undef) (a':=?_) #[T,T,T,T,T,T,T,T,T,T,T,T,T,T,T,T,T,T,T,T,T,T,T,T,F,F,F,F,F,F,F,F] rfl rfl (any_of HT_.out (by kernel_rfl)) (fun _ _ _ h=>h) (Or.inr ⟨by rfl,rfl⟩) ?_ ?_
         rotate_left
         ·simp only [Act.put,zz21,zz22,zz23,i64_w,i32_w]
          rfl
         refine pure_ (i:=24) (N:=some 37) (v:=undef) (a':=?_) #[T,T,T,T,T,T,T,T,T,T,T,T,T,T,T,T,T,T,T,T,T,T,T,T,T,F,F,F,F,F,F,F] rfl rfl (any_of HT_.out (by kernel_rfl)) (fun _ _ _ h=>h) (Or.inr ⟨by rfl,rfl⟩) ?_ ?_
         rotate_left
         ·simp only [Act.put,zz21,zz22,zz23,i64_w,i32_w]
          rfl
         refine pure_ (i:=25) (N:=some 38) (v:=undef) (a':=?_) #[T,T,T,T,T,T,T,T,T,T,T,T,T,T,T,T,T,T,T,T,T,T,T,T,T,T,F,F,F,F,F,F] rfl rfl (any_of HT_.out (by kernel_rfl)) (fun _ _ _ h=>h) (Or.inr ⟨by rfl,rfl⟩) ?_ ?_
         rotate_left
         ·simp only [Act.put,zz21,zz22,zz23,i64_w,i32_w]
          rfl
         refine pure_ (i:=26) (N:=some 39) (v:=undef) (a':=?_) #[T,T,T,T,T,T,T,T,T,T,T,T,T,T,T,T,T,T,T,T,T,T,T,T,T,T,T,F,F,F,F,F] rfl rfl (any_of HT_.out (by kernel_rfl)) (fun _ _ _ h=>h) (Or.inr ⟨by rfl,rfl⟩) ?_ ?_
         rotate_left
         ·simp only [Act.put,zz21,zz22,zz23,i64_w,i32_w]
          rfl
         refine pure_ (i:=27) (N:=some 40) (v:=undef) (a':=?_) #[T,T,T,T,T,T,T,T,T,T,T,T,T,T,T,T,T,T,T,T,T,T,T,T,T,T,T,T,F,F,F,F] rfl rfl (any_of HT_.out (by kernel_rfl)) (fun _ _ _ h=>h) (Or.inr ⟨by rfl,rfl⟩) ?_ ?_
         rotate_left
         ·simp only [Act.put,zz21,zz22,zz23,i64_w,i32_w]
          rfl
         refine pure_ (i:=28) (N:=some 41) (v:=undef) (a':=?_) #[T,T,T,T,T,T,T,T,T,T,T,T,T,T,T,T,T,T,T,T,T,T,T,T,T,T,T,T,T,F,F,F] rfl rfl (any_of HT_.out (by kernel_rfl)) (fun _ _ _ h=>h) (Or.inr ⟨by rfl,rfl⟩) ?_ ?_
         rotate_left
         ·simp only [Act.put,zz21,zz22,zz23,i64_w,i32_w]
          rfl
         refine pure_ (i:=29) (N:=some 42) (v:=undef) (a':=?_) #[T,T,T,T,T,T,T,T,T,T,T,T,T,T,T,T,T,T,T,T,T,T,T,T,T,T,T,T,T,T,F,F] rfl rfl (any_of HT_.out (by kernel_rfl)) (fun _ _ _ h=>h) (Or.inr ⟨by rfl,rfl⟩) ?_ ?_
         rotate_left
         ·simp only [Act.put,zz21,zz22,zz23,i64_w,i32_w]
          rfl
         refine pure_ (i:=30) (N:=some 43) (v:=undef) (a':=?_) #[T,T,T,T,T,T,T,T,T,T,T,T,T,T,T,T,T,T,T,T,T,T,T,T,T,T,T,T,T,T,T,F] rfl rfl (any_of HT_.out (by kernel_rfl)) (fun _ _ _ h=>h) (Or.inr ⟨by rfl,rfl⟩) ?_ ?_
         rotate_left
         ·simp only [Act.put,zz21,zz22,zz23,i64_w,i32_w]
          rfl
         refine zz32 (v:=?_) (a':=?_) 31 (some 44) #[T,T,T,T,T,T,T,T,T,T,T,T,T,T,T,T,T,T,T,T,T,T,T,T,T,T,T,T,T,T,T,T] rfl rfl HT_.out (by kernel_rfl) (fun _ _ _ h=>h) (by rfl) (fun w'=>?_) ?_ ?_;rotate_left;(go_simp;with_reducible rfl);rotate_left;(simp only [Act.put,zz21,zz22,zz23,i64_w,i32_w];rfl)
         refine done_ (done_of HT_.out (by kernel_rfl)) ?_
         try go_wp2
         go_ret
         exact ⟨by first | rfl | (simp [errW_none,errW_some] <;> rfl) | (simp [*,errW_none,errW_some] <;> rfl),by repeat first | exact HB.out | apply zz2 | apply zz0 | apply zz1 | refine zz3 ?_ GE265.out | refine zz3 ?_ GE267.out⟩
        ·rw [if_neg c19] at H
         have c19b0:decide (a0_0≤((rd_T70 l0_1 x8_1).f1))=false:=decide_eq_false c19
         clear c19
         by_cases c25:x8_1 > 0
         ·rw [if_pos c25] at H
          have c25b0:decide (0 < x8_1)=true:=decide_eq_true c25
          clear c25
          obtain ⟨ji26,hji26⟩:∃ j_:Int,(wrap64 (x8_1 - 1))=j_:=⟨_,rfl⟩
          replace H:(if 0≤(ji26) then (if (ji26) < (l0_1.length:Int) then ((impl_comparePairs.f k1 ((rd_T70 l0_1 (ji26)).f0) ((rd_T70 l0_1 (ji26)).f1) ((rd_T70 l0_1 x8_1).f0) ((rd_T70 l0_1 x8_1).f1)).bind fun t269=>(if t269 ≥ 0 then (some false) else (impl_IsParty.l0 k1 l0_1 (l0_1.length:Int) (wrap64 (x8_1+1)) a0_0 l0_1))) else (none)) else (none))=some r:=by first | (rw [hji26] at H;exact H) | (simp only [hji26] at H ⊢;exact H)
          have hji26w:(IntKind.i64.wrap (x8_1 - 1))=ji26:=(i64_w _).trans hji26
          by_cases c27:0≤(ji26)
          ·rw [if_pos c27] at H
           have c27b0:decide (0≤(ji26))=true:=decide_eq_true c27
           clear c27
           by_cases c28:(ji26) < (l0_1.length:Int)
           ·rw [if_pos c28] at H
            have c28b0:decide ((ji26) < (l0_1.length:Int))=true:=decide_eq_true c28
            clear c28
            replace H:=zz30.mp H
            obtain ⟨t269,A290,H⟩:=H
            replace H:(if t269 ≥ 0 then (some false) else (impl_IsParty.l0 k1 l0_1 (l0_1.length:Int) (wrap64 (x8_1+1)) a0_0 l0_1))=some r:=H
            have A29:=zz31 A290
            clear A290
            by_cases c30:t269 ≥ 0
            ·rw [if_pos c30] at H
             have c30b0:decide (0≤t269)=true:=decide_eq_true c30
             clear c30
             obtain rfl:=Option.some.inj H
             have p266:0≤(x8_1:Int):=zz29 (by first | (with_reducible assumption) | assumption)
             have q266:x8_1 < (l0_1.length:Int):=zz29 (by first | (with_reducible assumption) | assumption)
             obtain ⟨ad266,e266,hx266_0,hx266_1⟩:=at_T70 HR0_1.out x8_1 p266 q266
             cases e266
             try replace hx266_0:=(HB.out.cell (World.block_lt_of_cell? w _ hx266_0)).trans hx266_0
             try replace hx266_1:=(HB.out.cell (World.block_lt_of_cell? w _ hx266_1)).trans hx266_1
             replace p266:=eq_true p266
             replace q266:=eq_true q266
             try go_wp2_with (first | ((with_reducible refine gate_dst (N:=4) rfl ?_);refine box_event ?hg (N:=4) ?hd (cs:=#[.int .i64 0,.int .i64 0]) (t:=70) ?hr ?_;(case hd=>rfl);(case hg=>rfl);(case hr=>first | (go_simp;done) | (go_simp;rfl));intro gb267 hg w31 hbox hb;have BK267:=zz31 (hbox);have GW267:=zz31 ((by rw [hg];exact (zz5 (by repeat first | exact HB.out | apply zz2 | apply zz0 | apply zz1 | refine zz3 ?_ GE265.out)):w.heap.size≤gb267));replace HB:=zz31 (zz4 (by repeat first | exact HB.out | apply zz2 | apply zz0 | apply zz1 | refine zz3 ?_ GE265.out) hb);have GE267:=GW267;have NB265_267:=zz31 ((by rw [hg];exact Nat.ne_of_lt (blk_lt (g:=gb265) (o:=.cells #[.int .i64 a0_0,.slice (some ad266) l0_1.length c0_1] 30 (0,0)) (by (with_reducible repeat (first | refine zz6 ?_ _ | refine zz7 ?_ | refine zz8 ?_ _));exact BK265.out)):gb265 ≠ gb267));have NB267_265:=zz31 ((by rw [hg];exact Nat.ne_of_gt (blk_lt (g:=gb265) (o:=.cells #[.int .i64 a0_0,.slice (some ad266) l0_1.length c0_1] 30 (0,0)) (by (with_reducible repeat (first | refine zz6 ?_ _ | refine zz7 ?_ | refine zz8 ?_ _));exact BK265.out)):gb267 ≠ gb265));replace BK265:=zz31 (zz11 (g:=gb265) (o:=.cells #[.int .i64 a0_0,.slice (some ad266) l0_1.length c0_1] 30 (0,0)) (by (with_reducible repeat (first | refine zz6 ?_ _ | refine zz7 ?_ | refine zz8 ?_ _));exact BK265.out) hb);clear hb hbox hg;have hnb32:=NB267_265.out;have hnc32:=NB265_267.out;have hcz33_0:w31.cell? ⟨gb267,0,none⟩=some (.int .i64 0):=(zz9 BK267.out 0).trans rfl;have hcz33_1:w31.cell? ⟨gb267,1,none⟩=some (.int .i64 0):=(zz9 BK267.out 1).trans rfl;have hfz33_0:=zz10 BK267.out 0;have hfz33_1:=zz10 BK267.out 1))
             have n0_:Aside0 (((w31.setCell ⟨gb267,0,none⟩ (.int .i64 ((rd_T70 l0_1 x8_1).f0))).setCell ⟨gb267,1,none⟩ (.int .i64 ((rd_T70 l0_1 x8_1).f1))).heap[gb265]?=some (.cells #[.int .i64 a0_0,.slice (some ad266) l0_1.length c0_1] 30 (0,0))):=⟨by (with_reducible repeat (first | refine zz6 ?_ _ | refine zz7 ?_ | refine zz8 ?_ _));refine blk_far ?_ NB265_267.out _;(with_reducible repeat (first | refine zz6 ?_ _ | refine zz7 ?_ | refine zz8 ?_ _));refine blk_far ?_ NB265_267.out _;(with_reducible repeat (first | refine zz6 ?_ _ | refine zz7 ?_ | refine zz8 ?_ _));exact BK265.out⟩
             have n1_:Aside0 (((w31.setCell ⟨gb267,0,none⟩ (.int .i64 ((rd_T70 l0_1 x8_1).f0))).setCell ⟨gb267,1,none⟩ (.int .i64 ((rd_T70 l0_1 x8_1).f1))).heap[gb267]?=some (.cells #[.int .i64 ((rd_T70 l0_1 x8_1).f0),.int .i64 ((rd_T70 l0_1 x8_1).f1)] 70 (0,0))):=⟨by (with_reducible repeat (first | refine zz6 ?_ _ | refine zz7 ?_ | refine zz8 ?_ _));refine blk_put (cs:=#[.int .i64 ((rd_T70 l0_1 x8_1).f0),.int .i64 0]) ?_ 1 _ rfl;(with_reducible repeat (first | refine zz6 ?_ _ | refine zz7 ?_ | refine zz8 ?_ _));refine blk_put (cs:=#[.int .i64 0,.int .i64 0]) ?_ 0 _ rfl;(with_reducible repeat (first | refine zz6 ?_ _ | refine zz7 ?_ | refine zz8 ?_ _));exact BK267.out⟩
             have n2_:Aside0 (Below w.heap.size w ((w31.setCell ⟨gb267,0,none⟩ (.int .i64 ((rd_T70 l0_1 x8_1).f0))).setCell ⟨gb267,1,none⟩ (.int .i64 ((rd_T70 l0_1 x8_1).f1)))):=⟨by repeat first | exact HB.out | apply zz2 | apply zz0 | apply zz1 | refine zz3 ?_ GE265.out | refine zz3 ?_ GE267.out⟩
             (try clear BK265)
             (try clear BK267)
             (try clear HB)
             generalize ((w31.setCell ⟨gb267,0,none⟩ (.int .i64 ((rd_T70 l0_1 x8_1).f0))).setCell ⟨gb267,1,none⟩ (.int .i64 ((rd_T70 l0_1 x8_1).f1)))=w34 at n0_ n1_ n2_ ⊢
             have BK265:=n0_
             have BK267:=n1_
             have HB:=n2_
             clear n0_ n1_ n2_
             replace BK265:=zz31 (zz7 BK265.out)
             replace BK267:=zz31 (zz7 BK267.out)
             replace HB:=zz31 (zz1 HB.out)
             have p268:0≤((ji26):Int):=zz29 (by first | (with_reducible assumption) | assumption)
             have q268:(ji26) < (l0_1.length:Int):=zz29 (by first | (with_reducible assumption) | assumption)
             obtain ⟨ad268,e268,hx268_0,hx268_1⟩:=at_T70 HR0_1.out (ji26) p268 q268
             have hw268_1:=hx268_1
             have hw268_0:=hx268_0
             obtain rfl:ad266=ad268:=(by injection e268)
             try replace hx268_0:=(HB.out.cell (World.block_lt_of_cell? w _ hx268_0)).trans hx268_0
             try replace hx268_1:=(HB.out.cell (World.block_lt_of_cell? w _ hx268_1)).trans hx268_1
             replace p268:=eq_true p268
             replace q268:=eq_true q268
             refine start_ (n:=32) (S:=fun w'=>w'.cell? ⟨gb267,0,none⟩=some (.int .i64 ((rd_T70 l0_1 x8_1).f0))∧w'.cell? ⟨gb267,1,none⟩=some (.int .i64 ((rd_T70 l0_1 x8_1).f1))∧w'.cell? ⟨gb265,0,none⟩=some (.int .i64 a0_0)∧w'.cell? ⟨gb265,1,none⟩=some (.slice (some ad266) l0_1.length c0_1)∧w'.cell? (ad266.add (((ji26)).toNat * 2))=some (.int .i64 ((rd_T70 l0_1 (ji26)).f0))∧w'.cell? ⟨(ad266.add (((ji26)).toNat * 2)).block,(ad266.add (((ji26)).toNat * 2)).off+1,none⟩=some (.int .i64 ((rd_T70 l0_1 (ji26)).f1))) (ds:=[]) #[F,F,F,F,F,F,F,F,F,F,F,F,F,F,F,F,F,F,F,F,F,F,F,F,F,F,F,F,F,F,F,F] (by kernel_rfl) rfl rfl ⟨(zz9 BK267.out 0).trans rfl,(zz9 BK267.out 1).trans rfl,(zz9 BK265.out 0).trans rfl,(zz9 BK265.out 1).trans rfl,((HB.out.cell (World.block_lt_of_cell? w _ hw268_0)).trans hw268_0),((HB.out.cell (World.block_lt_of_cell? w _ hw268_1)).trans hw268_1)⟩ (fun hHeld=>?_);refine with_tabW impl_IsParty.tab4 impl_IsParty.bits4 (fun HT_ HW_=>?_)
             generalize w34.drew=w35 at BK265 BK267 HB hx268_0 hx268_1 hHeld ⊢
             refine zz32 (v:=?_) (a':=?_) 0 (some 13) #[T,F,F,F,F,F,F,F,F,F,F,F,F,F,F,F,F,F,F,F,F,F,F,F,F,F,F,F,F,F,F,F] rfl rfl HT_.out (by kernel_rfl) (fun _ _ _ h=>h) (by rfl) (fun w'=>?_) ?_ ?_;rotate_left;(go_simp;with_reducible rfl);rotate_left;(simp only [Act.put,zz21,zz22,zz23,i64_w,i32_w];rfl)
             refine zz33 (v:=?_) (a':=?_) 1 (some 14) #[T,T,F,F,F,F,F,F,F,F,F,F,F,F,F,F,F,F,F,F,F,F,F,F,F,F,F,F,F,F,F,F] rfl rfl HT_.out HW_.out (by kernel_rfl) (fun _ _ _ h=>h) (by rfl) ?_ hHeld ?_ ?_;rotate_left;(rintro w' ⟨s0,s1,s2,s3,s4,s5⟩;go_simp;with_reducible rfl);rotate_left;(simp only [Act.put,zz21,zz22,zz23,i64_w,i32_w];rfl)
             refine zz32 (v:=?_) (a':=?_) 2 (some 15) #[T,T,T,F,F,F,F,F,F,F,F,F,F,F,F,F,F,F,F,F,F,F,F,F,F,F,F,F,F,F,F,F] rfl rfl HT_.out (by kernel_rfl) (fun _ _ _ h=>h) (by rfl) (fun w'=>?_) ?_ ?_;rotate_left;(go_simp;with_reducible rfl);rotate_left;(simp only [Act.put,zz21,zz22,zz23,i64_w,i32_w];rfl)
             refine zz32 (v:=?_) (a':=?_) 3 (some 16) #[T,T,T,T,F,F,F,F,F,F,F,F,F,F,F,F,F,F,F,F,F,F,F,F,F,F,F,F,F,F,F,F] rfl rfl HT_.out (by kernel_rfl) (fun _ _ _ h=>h) (by rfl) (fun w'=>?_) ?_ ?_;rotate_left;(go_simp;with_reducible rfl);rotate_left;(simp only [Act.put,zz21,zz22,zz23,i64_w,i32_w];rfl)
             refine zz32 (v:=?_) (a':=?_) 4 (some 17) #[T,T,T,T,T,F,F,F,F,F,F,F,F,F,F,F,F,F,F,F,F,F,F,F,F,F,F,F,F,F,F,F] rfl rfl HT_.out (by kernel_rfl) (fun _ _ _ h=>h) (by rfl) (fun w'=>?_) ?_ ?_;rotate_left;(go_simp;with_reducible rfl);rotate_left;(simp only [Act.put,zz21,zz22,zz23,i64_w,i32_w];rfl)
             refine zz32 (v:=?_) (a':=?_) 6 (some 19) #[T,T,T,T,T,F,T,F,F,F,F,F,F,F,F,F,F,F,F,F,F,F,F,F,F,F,F,F,F,F,F,F] rfl rfl HT_.out (by kernel_rfl) (fun _ _ _ h=>h) (by rfl) (fun w'=>?_) ?_ ?_;rotate_left;(go_simp;with_reducible rfl);rotate_left;(simp only [Act.put,zz21,zz22,zz23,i64_w,i32_w];rfl)
             refine zz33 (v:=?_) (a':=?_) 5 (some 18) #[T,T,T,T,T,T,T,F,F,F,F,F,F,F,F,F,F,F,F,F,F,F,F,F,F,F,F,F,F,F,F,F] rfl rfl HT_.out HW_.out (by kernel_rfl) (fun _ _ _ h=>h) (by rfl) ?_ hHeld ?_ ?_;rotate_left;(rintro w' ⟨s0,s1,s2,s3,s4,s5⟩;go_simp;with_reducible rfl);rotate_left;(simp only [Act.put,zz21,zz22,zz23,i64_w,i32_w];rfl)
             refine zz33 (v:=?_) (a':=?_) 7 (some 20) #[T,T,T,T,T,T,T,T,F,F,F,F,F,F,F,F,F,F,F,F,F,F,F,F,F,F,F,F,F,F,F,F] rfl rfl HT_.out HW_.out (by kernel_rfl) (fun _ _ _ h=>h) (by rfl) ?_ hHeld ?_ ?_;rotate_left;(rintro w' ⟨s0,s1,s2,s3,s4,s5⟩;go_simp;with_reducible rfl);rotate_left;(simp only [Act.put,zz21,zz22,zz23,i64_w,i32_w];rfl)
             refine zz32 (v:=?_) (a':=?_) 8 (some 21) #[T,T,T,T,T,T,T,T,T,F,F,F,F,F,F,F,F,F,F,F,F,F,F,F,F,F,F,F,F,F,F,F] rfl rfl HT_.out (by kernel_rfl) (fun _ _ _ h=>h) (by rfl) (fun w'=>?_) ?_ ?_;rotate_left;(go_simp;with_reducible rfl);rotate_left;(simp only [Act.put,zz21,zz22,zz23,i64_w,i32_w];rfl)
             refine zz32 (v:=?_) (a':=?_) 9 (some 22) #[T,T,T,T,T,T,T,T,T,T,F,F,F,F,F,F,F,F,F,F,F,F,F,F,F,F,F,F,F,F,F,F] rfl rfl HT_.out (by kernel_rfl) (fun _ _ _ h=>h) (by rfl) (fun w'=>?_) ?_ ?_;rotate_left;(go_simp;with_reducible rfl);rotate_left;(simp only [Act.put,zz21,zz22,zz23,i64_w,i32_w];rfl)
             refine zz32 (v:=?_) (a':=?_) 10 (some 23) #[T,T,T,T,T,T,T,T,T,T,T,F,F,F,F,F,F,F,F,F,F,F,F,F,F,F,F,F,F,F,F,F] rfl rfl HT_.out (by kernel_rfl) (fun _ _ _ h=>h) (by rfl) (fun w'=>?_) ?_ ?_;rotate_left;(go_simp;with_reducible rfl);rotate_left;(simp only [Act.put,zz21,zz22,zz23,i64_w,i32_w];rfl)
             refine zz32 (v:=?_) (a':=?_) 11 (some 24) #[T,T,T,T,T,T,T,T,T,T,T,T,F,F,F,F,F,F,F,F,F,F,F,F,F,F,F,F,F,F,F,F] rfl rfl HT_.out (by kernel_rfl) (fun _ _ _ h=>h) (by rfl) (fun w'=>?_) ?_ ?_;rotate_left;(go_simp;with_reducible rfl);rotate_left;(simp only [Act.put,zz21,zz22,zz23,i64_w,i32_w];rfl)
             refine zz32 (v:=?_) (a':=?_) 13 (some 26) #[T,T,T,T,T,T,T,T,T,T,T,T,F,T,F,F,F,F,F,F,F,F,F,F,F,F,F,F,F,F,F,F] rfl rfl HT_.out (by kernel_rfl) (fun _ _ _ h=>h) (by rfl) (fun w'=>?_) ?_ ?_;rotate_left;(go_simp;with_reducible rfl);rotate_left;(simp only [Act.put,zz21,zz22,zz23,i64_w,i32_w];rfl)
             refine zz33 (v:=?_) (a':=?_) 12 (some 25) #[T,T,T,T,T,T,T,T,T,T,T,T,T,T,F,F,F,F,F,F,F,F,F,F,F,F,F,F,F,F,F,F] rfl rfl HT_.out HW_.out (by kernel_rfl) (fun _ _ _ h=>h) (by rfl) ?_ hHeld ?_ ?_;rotate_left;(rintro w' ⟨s0,s1,s2,s3,s4,s5⟩;go_simp;with_reducible rfl);rotate_left;(simp only [Act.put,zz21,zz22,zz23,i64_w,i32_w];rfl)
             refine zz33 (v:=?_) (a':=?_) 14 (some 27) #[T,T,T,T,T,T,T,T,T,T,T,T,T,T,T,F,F,F,F,F,F,F,F,F,F,F,F,F,F,F,F,F] rfl rfl HT_.out HW_.out (by kernel_rfl) (fun _ _ _ h=>h) (by rfl) ?_ hHeld ?_ ?_;rotate_left;(rintro w' ⟨s0,s1,s2,s3,s4,s5⟩;go_simp;with_reducible rfl);rotate_left;(simp only [Act.put,zz21,zz22,zz23,i64_w,i32_w];rfl)
             refine zz32 (v:=?_) (a':=?_) 15 (some 28) #[T,T,T,T,T,T,T,T,T,T,T,T,T,T,T,T,F,F,F,F,F,F,F,F,F,F,F,F,F,F,F,F] rfl rfl HT_.out (by kernel_rfl) (fun _ _ _ h=>h) (by rfl) (fun w'=>?_) ?_ ?_;rotate_left;(go_simp;with_reducible rfl);rotate_left;(simp only [Act.put,zz21,zz22,zz23,i64_w,i32_w];rfl)
             refine zz32 (v:=?_) (a':=?_) 16 (some 29) #[T,T,T,T,T,T,T,T,T,T,T,T,T,T,T,T,T,F,F,F,F,F,F,F,F,F,F,F,F,F,F,F] rfl rfl HT_.out (by kernel_rfl) (fun _ _ _ h=>h) (by rfl) (fun w'=>?_) ?_ ?_;rotate_left;(go_simp;with_reducible rfl);rotate_left;(simp only [Act.put,zz21,zz22,zz23,i64_w,i32_w];rfl)
             refine zz32 (v:=?_) (a':=?_) 17 (some 30) #[T,T,T,T,T,T,T,T,T,T,T,T,T,T,T,T,T,T,F,F,F,F,F,F,F,F,F,F,F,F,F,F] rfl rfl HT_.out (by kernel_rfl) (fun _ _ _ h=>h) (by rfl) (fun w'=>?_) ?_ ?_;rotate_left;(go_simp;with_reducible rfl);rotate_left;(simp only [Act.put,zz21,zz22,zz23,i64_w,i32_w];rfl)
             refine zz32 (v:=?_) (a':=?_) 18 (some 31) #[T,T,T,T,T,T,T,T,T,T,T,T,T,T,T,T,T,T,T,F,F,F,F,F,F,F,F,F,F,F,F,F] rfl rfl HT_.out (by kernel_rfl) (fun _ _ _ h=>h) (by rfl) (fun w'=>?_) ?_ ?_;rotate_left;(go_simp;with_reducible rfl);rotate_left;(simp only [Act.put,zz21,zz22,zz23,i64_w,i32_w];rfl)
             refine zz32 (v:=?_) (a':=?_) 19 (some 32) #[T,T,T,T,T,T,T,T,T,T,T,T,T,T,T,T,T,T,T,T,F,F,F,F,F,F,F,F,F,F,F,F] rfl rfl HT_.out (by kernel_rfl) (fun _ _ _ h=>h) (by rfl) (fun w'=>?_) ?_ ?_;rotate_left;(go_simp;with_reducible rfl);rotate_left;(simp only [Act.put,zz21,zz22,zz23,i64_w,i32_w];rfl)
             refine zz32 (v:=?_) (a':=?_) 20 (some 33) #[T,T,T,T,T,T,T,T,T,T,T,T,T,T,T,T,T,T,T,T,T,F,F,F,F,F,F,F,F,F,F,F] rfl rfl HT_.out (by kernel_rfl) (fun _ _ _ h=>h) (by rfl) (fun w'=>?_) ?_ ?_;rotate_left;(go_simp;with_reducible rfl);rotate_left;(simp only [Act.put,zz21,zz22,zz23,i64_w,i32_w];rfl)
             refine zz32 (v:=?_) (a':=?_) 21 (some 34) #[T,T,T,T,T,T,T,T,T,T,T,T,T,T,T,T,T,T,T,T,T,T,F,F,F,F,F,F,F,F,F,F] rfl rfl HT_.out (by kernel_rfl) (fun _ _ _ h=>h) (by rfl) (fun w'=>?_) ?_ ?_;rotate_left;(go_simp;with_reducible rfl);rotate_left;(simp only [Act.put,zz21,zz22,zz23,i64_w,i32_w];rfl)
             refine zz32 (v:=?_) (a':=?_) 23 (some 36) #[T,T,T,T,T,T,T,T,T,T,T,T,T,T,T,T,T,T,T,T,T,T,F,T,F,F,F,F,F,F,F,F] rfl rfl HT_.out (by kernel_rfl) (fun _ _ _ h=>h) (by rfl) (fun w'=>?_) ?_ ?_;rotate_left;(go_simp;with_reducible rfl);rotate_left;(simp only [Act.put,zz21,zz22,zz23,i64_w,i32_w];rfl)
             refine zz32 (v:=?_) (a':=?_) 24 (some 37) #[T,T,T,T,T,T,T,T,T,T,T,T,T,T,T,T,T,T,T,T,T,T,F,T,T,F,F,F,F,F,F,F] rfl rfl HT_.out (by kernel_rfl) (fun _ _ _ h=>h) (by rfl) (fun w'=>?_) ?_ ?_;rotate_left;(go_simp;with_reducible rfl);rotate_left;(simp only [Act.put,zz21,zz22,zz23,i64_w,i32_w];rfl)
             refine zz33 (v:=?_) (a':=?_) 22 (some 35) #[T,T,T,T,T,T,T,T,T,T,T,T,T,T,T,T,T,T,T,T,T,T,T,T,T,F,F,F,F,F,F,F] rfl rfl HT_.out HW_.out (by kernel_rfl) (fun _ _ _ h=>h) (by rfl) ?_ hHeld ?_ ?_;rotate_left;(rintro w' ⟨s0,s1,s2,s3,s4,s5⟩;go_simp;with_reducible rfl);rotate_left;(simp only [Act.put,zz21,zz22,zz23,i64_w,i32_w];rfl)
             refine zz32 (v:=?_) (a':=?_) 25 (some 38) #[T,T,T,T,T,T,T,T,T,T,T,T,T,T,T,T,T,T,T,T,T,T,T,T,T,T,F,F,F,F,F,F] rfl rfl HT_.out (by kernel_rfl) (fun _ _ _ h=>h) (by rfl) (fun w'=>?_) ?_ ?_;rotate_left;(go_simp;with_reducible rfl);rotate_left;(simp only [Act.put,zz21,zz22,zz23,i64_w,i32_w];rfl)
             refine zz33 (v:=?_) (a':=?_) 26 (some 39) #[T,T,T,T,T,T,T,T,T,T,T,T,T,T,T,T,T,T,T,T,T,T,T,T,T,T,T,F,F,F,F,F] rfl rfl HT_.out HW_.out (by kernel_rfl) (fun _ _ _ h=>h) (by rfl) ?_ hHeld ?_ ?_;rotate_left;(rintro w' ⟨s0,s1,s2,s3,s4,s5⟩;go_simp;with_reducible rfl);rotate_left;(simp only [Act.put,zz21,zz22,zz23,i64_w,i32_w];rfl)
             refine zz33 (v:=?_) (a':=?_) 27 (some 40) #[T,T,T,T,T,T,T,T,T,T,T,T,T,T,T,T,T,T,T,T,T,T,T,T,T,T,T,T,F,F,F,F] rfl rfl HT_.out HW_.out (by kernel_rfl) (fun _ _ _ h=>h) (by rfl) ?_ hHeld ?_ ?_;rotate_left;(rintro w' ⟨s0,s1,s2,s3,s4,s5⟩;go_simp;with_reducible rfl);rotate_left;(simp only [Act.put,zz21,zz22,zz23,i64_w,i32_w];rfl)
             refine one_ (i:=28) (N:=some 41) #[T,T,T,T,T,T,T,T,T,T,T,T,T,T,T,T,T,T,T,T,T,T,T,T,T,T,T,T,T,F,F,F] rfl rfl (one_of HT_.out (by kernel_rfl)) (by decide) (fun K hK=>?_)
             refine goes_ Try.func65 (by kernel_rfl) rfl #[.agg #[.int .i64 ((rd_T70 l0_1 (ji26)).f0),.int .i64 ((rd_T70 l0_1 (ji26)).f1)],.agg #[.int .i64 ((rd_T70 l0_1 x8_1).f0),.int .i64 ((rd_T70 l0_1 x8_1).f1)]] (by rfl) rfl rfl (by (try simp only [zz26,zz27,zz28]);first | done | (simp only [hji26];rfl) | rfl | (simp only [zz24,zz25];rfl)) ?_
             with_reducible refine (impl_comparePairs.calls k1 ((rd_T70 l0_1 (ji26)).f0) ((rd_T70 l0_1 (ji26)).f1) ((rd_T70 l0_1 x8_1).f0) ((rd_T70 l0_1 x8_1).f1) t269 _ A29.out).mono ?_
             rintro e w36 ⟨rfl,hb⟩
             refine ⟨_,rfl,?_⟩
             replace BK265:=zz31 (zz11 (g:=gb265) (o:=.cells #[.int .i64 a0_0,.slice (some ad266) l0_1.length c0_1] 30 (0,0)) (by (with_reducible repeat (first | refine zz6 ?_ _ | refine zz7 ?_ | refine zz8 ?_ _));exact BK265.out) hb)
             replace BK267:=zz31 (zz11 (g:=gb267) (o:=.cells #[.int .i64 ((rd_T70 l0_1 x8_1).f0),.int .i64 ((rd_T70 l0_1 x8_1).f1)] 70 (0,0)) (by (with_reducible repeat (first | refine zz6 ?_ _ | refine zz7 ?_ | refine zz8 ?_ _));exact BK267.out) hb)
             replace HB:=zz31 (zz4 (by repeat first | exact HB.out | apply zz2 | apply zz0 | apply zz1 | refine zz3 ?_ GE265.out | refine zz3 ?_ GE267.out) hb)
             (try clear hb)
             (try clear hb2)
             (try clear hk)
             (try clear hi)
             refine hK.out _ _ ⟨(zz9 BK267.out 0).trans rfl,(zz9 BK267.out 1).trans rfl,(zz9 BK265.out 0).trans rfl,(zz9 BK265.out 1).trans rfl,((HB.out.cell (World.block_lt_of_cell? w _ hw268_0)).trans hw268_0),((HB.out.cell (World.block_lt_of_cell? w _ hw268_1)).trans hw268_1)⟩ (fun hHeld=>?_)
             clear hK K
             refine norm_ (a':=?_) ?_ ?_;rotate_left;(show Act.put _ (some 41) _=_;simp only [Act.put,zz21,zz22,zz23,i64_w,i32_w];rfl)
             refine zz32 (v:=?_) (a':=?_) 29 (some 42) #[T,T,T,T,T,T,T,T,T,T,T,T,T,T,T,T,T,T,T,T,T,T,T,T,T,T,T,T,T,T,F,F] rfl rfl HT_.out (by kernel_rfl) (fun _ _ _ h=>h) (by rfl) (fun w'=>?_) ?_ ?_;rotate_left;(go_simp;with_reducible rfl);rotate_left;(simp only [Act.put,zz21,zz22,zz23,i64_w,i32_w];rfl)
             refine zz32 (v:=?_) (a':=?_) 30 (some 43) #[T,T,T,T,T,T,T,T,T,T,T,T,T,T,T,T,T,T,T,T,T,T,T,T,T,T,T,T,T,T,T,F] rfl rfl HT_.out (by kernel_rfl) (fun _ _ _ h=>h) (by rfl) (fun w'=>?_) ?_ ?_;rotate_left;(go_simp;with_reducible rfl);rotate_left;(simp only [Act.put,zz21,zz22,zz23,i64_w,i32_w];rfl)
             refine zz32 (v:=?_) (a':=?_) 31 (some 44) #[T,T,T,T,T,T,T,T,T,T,T,T,T,T,T,T,T,T,T,T,T,T,T,T,T,T,T,T,T,T,T,T] rfl rfl HT_.out (by kernel_rfl) (fun _ _ _ h=>h) (by rfl) (fun w'=>?_) ?_ ?_;rotate_left;(go_simp;with_reducible rfl);rotate_left;(simp only [Act.put,zz21,zz22,zz23,i64_w,i32_w];rfl)
             refine done_ (done_of HT_.out (by kernel_rfl)) ?_
             try go_wp2
             go_ret
             exact ⟨by first | rfl | (simp [errW_none,errW_some] <;> rfl) | (simp only [← hji26];first | rfl | (simp [errW_none,errW_some] <;> rfl)) | (simp [*,errW_none,errW_some] <;> rfl),by repeat first | exact HB.out | apply zz2 | apply zz0 | apply zz1 | refine zz3 ?_ GE265.out | refine zz3 ?_ GE267.out⟩
            ·rw [if_neg c30] at H
             have c30b0:decide (0≤t269)=false:=decide_eq_false c30
             clear c30
             have H':=zz31 H
             clear H
             have p266:0≤(x8_1:Int):=zz29 (by first | (with_reducible assumption) | assumption)
             have q266:x8_1 < (l0_1.length:Int):=zz29 (by first | (with_reducible assumption) | assumption)
             obtain ⟨ad266,e266,hx266_0,hx266_1⟩:=at_T70 HR0_1.out x8_1 p266 q266
             cases e266
             try replace hx266_0:=(HB.out.cell (World.block_lt_of_cell? w _ hx266_0)).trans hx266_0
             try replace hx266_1:=(HB.out.cell (World.block_lt_of_cell? w _ hx266_1)).trans hx266_1
             replace p266:=eq_true p266
             replace q266:=eq_true q266
             try go_wp2_with (first | ((with_reducible refine gate_dst (N:=4) rfl ?_);refine box_event ?hg (N:=4) ?hd (cs:=#[.int .i64 0,.int .i64 0]) (t:=70) ?hr ?_;(case hd=>rfl);(case hg=>rfl);(case hr=>first | (go_simp;done) | (go_simp;rfl));intro gb267 hg w37 hbox hb;have BK267:=zz31 (hbox);have GW267:=zz31 ((by rw [hg];exact (zz5 (by repeat first | exact HB.out | apply zz2 | apply zz0 | apply zz1 | refine zz3 ?_ GE265.out)):w.heap.size≤gb267));replace HB:=zz31 (zz4 (by repeat first | exact HB.out | apply zz2 | apply zz0 | apply zz1 | refine zz3 ?_ GE265.out) hb);have GE267:=GW267;have NB265_267:=zz31 ((by rw [hg];exact Nat.ne_of_lt (blk_lt (g:=gb265) (o:=.cells #[.int .i64 a0_0,.slice (some ad266) l0_1.length c0_1] 30 (0,0)) (by (with_reducible repeat (first | refine zz6 ?_ _ | refine zz7 ?_ | refine zz8 ?_ _));exact BK265.out)):gb265 ≠ gb267));have NB267_265:=zz31 ((by rw [hg];exact Nat.ne_of_gt (blk_lt (g:=gb265) (o:=.cells #[.int .i64 a0_0,.slice (some ad266) l0_1.length c0_1] 30 (0,0)) (by (with_reducible repeat (first | refine zz6 ?_ _ | refine zz7 ?_ | refine zz8 ?_ _));exact BK265.out)):gb267 ≠ gb265));replace BK265:=zz31 (zz11 (g:=gb265) (o:=.cells #[.int .i64 a0_0,.slice (some ad266) l0_1.length c0_1] 30 (0,0)) (by (with_reducible repeat (first | refine zz6 ?_ _ | refine zz7 ?_ | refine zz8 ?_ _));exact BK265.out) hb);clear hb hbox hg;have hnb38:=NB267_265.out;have hnc38:=NB265_267.out;have hcz39_0:w37.cell? ⟨gb267,0,none⟩=some (.int .i64 0):=(zz9 BK267.out 0).trans rfl;have hcz39_1:w37.cell? ⟨gb267,1,none⟩=some (.int .i64 0):=(zz9 BK267.out 1).trans rfl;have hfz39_0:=zz10 BK267.out 0;have hfz39_1:=zz10 BK267.out 1))
             have n0_:Aside0 (((w37.setCell ⟨gb267,0,none⟩ (.int .i64 ((rd_T70 l0_1 x8_1).f0))).setCell ⟨gb267,1,none⟩ (.int .i64 ((rd_T70 l0_1 x8_1).f1))).heap[gb265]?=some (.cells #[.int .i64 a0_0,.slice (some ad266) l0_1.length c0_1] 30 (0,0))):=⟨by (with_reducible repeat (first | refine zz6 ?_ _ | refine zz7 ?_ | refine zz8 ?_ _));refine blk_far ?_ NB265_267.out _;(with_reducible repeat (first | refine zz6 ?_ _ | refine zz7 ?_ | refine zz8 ?_ _));refine blk_far ?_ NB265_267.out _;(with_reducible repeat (first | refine zz6 ?_ _ | refine zz7 ?_ | refine zz8 ?_ _));exact BK265.out⟩
             have n1_:Aside0 (((w37.setCell ⟨gb267,0,none⟩ (.int .i64 ((rd_T70 l0_1 x8_1).f0))).setCell ⟨gb267,1,none⟩ (.int .i64 ((rd_T70 l0_1 x8_1).f1))).heap[gb267]?=some (.cells #[.int .i64 ((rd_T70 l0_1 x8_1).f0),.int .i64 ((rd_T70 l0_1 x8_1).f1)] 70 (0,0))):=⟨by (with_reducible repeat (first | refine zz6 ?_ _ | refine zz7 ?_ | refine zz8 ?_ _));refine blk_put (cs:=#[.int .i64 ((rd_T70 l0_1 x8_1).f0),.int .i64 0]) ?_ 1 _ rfl;(with_reducible repeat (first | refine zz6 ?_ _ | refine zz7 ?_ | refine zz8 ?_ _));refine blk_put (cs:=#[.int .i64 0,.int .i64 0]) ?_ 0 _ rfl;(with_reducible repeat (first | refine zz6 ?_ _ | refine zz7 ?_ | refine zz8 ?_ _));exact BK267.out⟩
             have n2_:Aside0 (Below w.heap.size w ((w37.setCell ⟨gb267,0,none⟩ (.int .i64 ((rd_T70 l0_1 x8_1).f0))).setCell ⟨gb267,1,none⟩ (.int .i64 ((rd_T70 l0_1 x8_1).f1)))):=⟨by repeat first | exact HB.out | apply zz2 | apply zz0 | apply zz1 | refine zz3 ?_ GE265.out | refine zz3 ?_ GE267.out⟩
             (try clear BK265)
             (try clear BK267)
             (try clear HB)
             generalize ((w37.setCell ⟨gb267,0,none⟩ (.int .i64 ((rd_T70 l0_1 x8_1).f0))).setCell ⟨gb267,1,none⟩ (.int .i64 ((rd_T70 l0_1 x8_1).f1)))=w40 at n0_ n1_ n2_ ⊢
             have BK265:=n0_
             have BK267:=n1_
             have HB:=n2_
             clear n0_ n1_ n2_
             replace BK265:=zz31 (zz7 BK265.out)
             replace BK267:=zz31 (zz7 BK267.out)
             replace HB:=zz31 (zz1 HB.out)
             have p268:0≤((ji26):Int):=zz29 (by first | (with_reducible assumption) | assumption)
             have q268:(ji26) < (l0_1.length:Int):=zz29 (by first | (with_reducible assumption) | assumption)
             obtain ⟨ad268,e268,hx268_0,hx268_1⟩:=at_T70 HR0_1.out (ji26) p268 q268
             have hw268_1:=hx268_1
             have hw268_0:=hx268_0
             obtain rfl:ad266=ad268:=(by injection e268)
             try replace hx268_0:=(HB.out.cell (World.block_lt_of_cell? w _ hx268_0)).trans hx268_0
             try replace hx268_1:=(HB.out.cell (World.block_lt_of_cell? w _ hx268_1)).trans hx268_1
             replace p268:=eq_true p268
             replace q268:=eq_true q268
             refine start_ (n:=32) (S:=fun w'=>w'.cell? ⟨gb267,0,none⟩=some (.int .i64 ((rd_T70 l0_1 x8_1).f0))∧w'.cell? ⟨gb267,1,none⟩=some (.int .i64 ((rd_T70 l0_1 x8_1).f1))∧w'.cell? ⟨gb265,0,none⟩=some (.int .i64 a0_0)∧w'.cell? ⟨gb265,1,none⟩=some (.slice (some ad266) l0_1.length c0_1)∧w'.cell? (ad266.add (((ji26)).toNat * 2))=some (.int .i64 ((rd_T70 l0_1 (ji26)).f0))∧w'.cell? ⟨(ad266.add (((ji26)).toNat * 2)).block,(ad266.add (((ji26)).toNat * 2)).off+1,none⟩=some (.int .i64 ((rd_T70 l0_1 (ji26)).f1))) (ds:=[]) #[F,F,F,F,F,F,F,F,F,F,F,F,F,F,F,F,F,F,F,F,F,F,F,F,F,F,F,F,F,F,F,F] (by kernel_rfl) rfl rfl ⟨(zz9 BK267.out 0).trans rfl,(zz9 BK267.out 1).trans rfl,(zz9 BK265.out 0).trans rfl,(zz9 BK265.out 1).trans rfl,((HB.out.cell (World.block_lt_of_cell? w _ hw268_0)).trans hw268_0),((HB.out.cell (World.block_lt_of_cell? w _ hw268_1)).trans hw268_1)⟩ (fun hHeld=>?_);refine with_tabW impl_IsParty.tab4 impl_IsParty.bits4 (fun HT_ HW_=>?_)
             generalize w40.drew=w41 at BK265 BK267 HB hx268_0 hx268_1 hHeld ⊢
             refine zz32 (v:=?_) (a':=?_) 0 (some 13) #[T,F,F,F,F,F,F,F,F,F,F,F,F,F,F,F,F,F,F,F,F,F,F,F,F,F,F,F,F,F,F,F] rfl rfl HT_.out (by kernel_rfl) (fun _ _ _ h=>h) (by rfl) (fun w'=>?_) ?_ ?_;rotate_left;(go_simp;with_reducible rfl);rotate_left;(simp only [Act.put,zz21,zz22,zz23,i64_w,i32_w];rfl)
             refine zz33 (v:=?_) (a':=?_) 1 (some 14) #[T,T,F,F,F,F,F,F,F,F,F,F,F,F,F,F,F,F,F,F,F,F,F,F,F,F,F,F,F,F,F,F] rfl rfl HT_.out HW_.out (by kernel_rfl) (fun _ _ _ h=>h) (by rfl) ?_ hHeld ?_ ?_;rotate_left;(rintro w' ⟨s0,s1,s2,s3,s4,s5⟩;go_simp;with_reducible rfl);rotate_left;(simp only [Act.put,zz21,zz22,zz23,i64_w,i32_w];rfl)
             refine zz32 (v:=?_) (a':=?_) 2 (some 15) #[T,T,T,F,F,F,F,F,F,F,F,F,F,F,F,F,F,F,F,F,F,F,F,F,F,F,F,F,F,F,F,F] rfl rfl HT_.out (by kernel_rfl) (fun _ _ _ h=>h) (by rfl) (fun w'=>?_) ?_ ?_;rotate_left;(go_simp;with_reducible rfl);rotate_left;(simp only [Act.put,zz21,zz22,zz23,i64_w,i32_w];rfl)
             refine zz32 (v:=?_) (a':=?_) 3 (some 16) #[T,T,T,T,F,F,F,F,F,F,F,F,F,F,F,F,F,F,F,F,F,F,F,F,F,F,F,F,F,F,F,F] rfl rfl HT_.out (by kernel_rfl) (fun _ _ _ h=>h) (by rfl) (fun w'=>?_) ?_ ?_;rotate_left;(go_simp;with_reducible rfl);rotate_left;(simp only [Act.put,zz21,zz22,zz23,i64_w,i32_w];rfl)
             refine zz32 (v:=?_) (a':=?_) 4 (some 17) #[T,T,T,T,T,F,F,F,F,F,F,F,F,F,F,F,F,F,F,F,F,F,F,F,F,F,F,F,F,F,F,F] rfl rfl HT_.out (by kernel_rfl) (fun _ _ _ h=>h) (by rfl) (fun w'=>?_) ?_ ?_;rotate_left;(go_simp;with_reducible rfl);rotate_left;(simp only [Act.put,zz21,zz22,zz23,i64_w,i32_w];rfl)
             refine zz32 (v:=?_) (a':=?_) 6 (some 19) #[T,T,T,T,T,F,T,F,F,F,F,F,F,F,F,F,F,F,F,F,F,F,F,F,F,F,F,F,F,F,F,F] rfl rfl HT_.out (by kernel_rfl) (fun _ _ _ h=>h) (by rfl) (fun w'=>?_) ?_ ?_;rotate_left;(go_simp;with_reducible rfl);rotate_left;(simp only [Act.put,zz21,zz22,zz23,i64_w,i32_w];rfl)
             refine zz33 (v:=?_) (a':=?_) 5 (some 18) #[T,T,T,T,T,T,T,F,F,F,F,F,F,F,F,F,F,F,F,F,F,F,F,F,F,F,F,F,F,F,F,F] rfl rfl HT_.out HW_.out (by kernel_rfl) (fun _ _ _ h=>h) (by rfl) ?_ hHeld ?_ ?_;rotate_left;(rintro w' ⟨s0,s1,s2,s3,s4,s5⟩;go_simp;with_reducible rfl);rotate_left;(simp only [Act.put,zz21,zz22,zz23,i64_w,i32_w];rfl)
             refine zz33 (v:=?_) (a':=?_) 7 (some 20) #[T,T,T,T,T,T,T,T,F,F,F,F,F,F,F,F,F,F,F,F,F,F,F,F,F,F,F,F,F,F,F,F] rfl rfl HT_.out HW_.out (by kernel_rfl) (fun _ _ _ h=>h) (by rfl) ?_ hHeld ?_ ?_;rotate_left;(rintro w' ⟨s0,s1,s2,s3,s4,s5⟩;go_simp;with_reducible rfl);rotate_left;(simp only [Act.put,zz21,zz22,zz23,i64_w,i32_w];rfl)
             refine zz32 (v:=?_) (a':=?_) 8 (some 21) #[T,T,T,T,T,T,T,T,T,F,F,F,F,F,F,F,F,F,F,F,F,F,F,F,F,F,F,F,F,F,F,F] rfl rfl HT_.out (by kernel_rfl) (fun _ _ _ h=>h) (by rfl) (fun w'=>?_) ?_ ?_;rotate_left;(go_simp;with_reducible rfl);rotate_left;(simp only [Act.put,zz21,zz22,zz23,i64_w,i32_w];rfl)
             refine zz32 (v:=?_) (a':=?_) 9 (some 22) #[T,T,T,T,T,T,T,T,T,T,F,F,F,F,F,F,F,F,F,F,F,F,F,F,F,F,F,F,F,F,F,F] rfl rfl HT_.out (by kernel_rfl) (fun _ _ _ h=>h) (by rfl) (fun w'=>?_) ?_ ?_;rotate_left;(go_simp;with_reducible rfl);rotate_left;(simp only [Act.put,zz21,zz22,zz23,i64_w,i32_w];rfl)
             refine zz32 (v:=?_) (a':=?_) 10 (some 23) #[T,T,T,T,T,T,T,T,T,T,T,F,F,F,F,F,F,F,F,F,F,F,F,F,F,F,F,F,F,F,F,F] rfl rfl HT_.out (by kernel_rfl) (fun _ _ _ h=>h) (by rfl) (fun w'=>?_) ?_ ?_;rotate_left;(go_simp;with_reducible rfl);rotate_left;(simp only [Act.put,zz21,zz22,zz23,i64_w,i32_w];rfl)
             refine zz32 (v:=?_) (a':=?_) 11 (some 24) #[T,T,T,T,T,T,T,T,T,T,T,T,F,F,F,F,F,F,F,F,F,F,F,F,F,F,F,F,F,F,F,F] rfl rfl HT_.out (by kernel_rfl) (fun _ _ _ h=>h) (by rfl) (fun w'=>?_) ?_ ?_;rotate_left;(go_simp;with_reducible rfl);rotate_left;(simp only [Act.put,zz21,zz22,zz23,i64_w,i32_w];rfl)
             refine zz32 (v:=?_) (a':=?_) 13 (some 26) #[T,T,T,T,T,T,T,T,T,T,T,T,F,T,F,F,F,F,F,F,F,F,F,F,F,F,F,F,F,F,F,F] rfl rfl HT_.out (by kernel_rfl) (fun _ _ _ h=>h) (by rfl) (fun w'=>?_) ?_ ?_;rotate_left;(go_simp;with_reducible rfl);rotate_left;(simp only [Act.put,zz21,zz22,zz23,i64_w,i32_w];rfl)
             refine zz33 (v:=?_) (a':=?_) 12 (some 25) #[T,T,T,T,T,T,T,T,T,T,T,T,T,T,F,F,F,F,F,F,F,F,F,F,F,F,F,F,F,F,F,F] rfl rfl HT_.out HW_.out (by kernel_rfl) (fun _ _ _ h=>h) (by rfl) ?_ hHeld ?_ ?_;rotate_left;(rintro w' ⟨s0,s1,s2,s3,s4,s5⟩;go_simp;with_reducible rfl);rotate_left;(simp only [Act.put,zz21,zz22,zz23,i64_w,i32_w];rfl)
             refine zz33 (v:=?_) (a':=?_) 14 (some 27) #[T,T,T,T,T,T,T,T,T,T,T,T,T,T,T,F,F,F,F,F,F,F,F,F,F,F,F,F,F,F,F,F] rfl rfl HT_.out HW_.out (by kernel_rfl) (fun _ _ _ h=>h) (by rfl) ?_ hHeld ?_ ?_;rotate_left;(rintro w' ⟨s0,s1,s2,s3,s4,s5⟩;go_simp;with_reducible rfl);rotate_left;(simp only [Act.put,zz21,zz22,zz23,i64_w,i32_w];rfl)
             refine zz32 (v:=?_) (a':=?_) 15 (some 28) #[T,T,T,T,T,T,T,T,T,T,T,T,T,T,T,T,F,F,F,F,F,F,F,F,F,F,F,F,F,F,F,F] rfl rfl HT_.out (by kernel_rfl) (fun _ _ _ h=>h) (by rfl) (fun w'=>?_) ?_ ?_;rotate_left;(go_simp;with_reducible rfl);rotate_left;(simp only [Act.put,zz21,zz22,zz23,i64_w,i32_w];rfl)
             refine zz32 (v:=?_) (a':=?_) 16 (some 29) #[T,T,T,T,T,T,T,T,T,T,T,T,T,T,T,T,T,F,F,F,F,F,F,F,F,F,F,F,F,F,F,F] rfl rfl HT_.out (by kernel_rfl) (fun _ _ _ h=>h) (by rfl) (fun w'=>?_) ?_ ?_;rotate_left;(go_simp;with_reducible rfl);rotate_left;(simp only [Act.put,zz21,zz22,zz23,i64_w,i32_w];rfl)
             refine zz32 (v:=?_) (a':=?_) 17 (some 30) #[T,T,T,T,T,T,T,T,T,T,T,T,T,T,T,T,T,T,F,F,F,F,F,F,F,F,F,F,F,F,F,F] rfl rfl HT_.out (by kernel_rfl) (fun _ _ _ h=>h) (by rfl) (fun w'=>?_) ?_ ?_;rotate_left;(go_simp;with_reducible rfl);rotate_left;(simp only [Act.put,zz21,zz22,zz23,i64_w,i32_w];rfl)
             refine zz32 (v:=?_) (a':=?_) 18 (some 31) #[T,T,T,T,T,T,T,T,T,T,T,T,T,T,T,T,T,T,T,F,F,F,F,F,F,F,F,F,F,F,F,F] rfl rfl HT_.out (by kernel_rfl) (fun _ _ _ h=>h) (by rfl) (fun w'=>?_) ?_ ?_;rotate_left;(go_simp;with_reducible rfl);rotate_left;(simp only [Act.put,zz21,zz22,zz23,i64_w,i32_w];rfl)
             refine zz32 (v:=?_) (a':=?_) 19 (some 32) #[T,T,T,T,T,T,T,T,T,T,T,T,T,T,T,T,T,T,T,T,F,F,F,F,F,F,F,F,F,F,F,F] rfl rfl HT_.out (by kernel_rfl) (fun _ _ _ h=>h) (by rfl) (fun w'=>?_) ?_ ?_;rotate_left;(go_simp;with_reducible rfl);rotate_left;(simp only [Act.put,zz21,zz22,zz23,i64_w,i32_w];rfl)
             refine zz32 (v:=?_) (a':=?_) 20 (some 33) #[T,T,T,T,T,T,T,T,T,T,T,T,T,T,T,T,T,T,T,T,T,F,F,F,F,F,F,F,F,F,F,F] rfl rfl HT_.out (by kernel_rfl) (fun _ _ _ h=>h) (by rfl) (fun w'=>?_) ?_ ?_;rotate_left;(go_simp;with_reducible rfl);rotate_left;(simp only [Act.put,zz21,zz22,zz23,i64_w,i32_w];rfl)
             refine zz32 (v:=?_) (a':=?_) 21 (some 34) #[T,T,T,T,T,T,T,T,T,T,T,T,T,T,T,T,T,T,T,T,T,T,F,F,F,F,F,F,F,F,F,F] rfl rfl HT_.out (by kernel_rfl) (fun _ _ _ h=>h) (by rfl) (fun w'=>?_) ?_ ?_;rotate_left;(go_simp;with_reducible rfl);rotate_left;(simp only [Act.put,zz21,zz22,zz23,i64_w,i32_w];rfl)
             refine zz32 (v:=?_) (a':=?_) 23 (some 36) #[T,T,T,T,T,T,T,T,T,T,T,T,T,T,T,T,T,T,T,T,T,T,F,T,F,F,F,F,F,F,F,F] rfl rfl HT_.out (by kernel_rfl) (fun _ _ _ h=>h) (by rfl) (fun w'=>?_) ?_ ?_;rotate_left;(go_simp;with_reducible rfl);rotate_left;(simp only [Act.put,zz21,zz22,zz23,i64_w,i32_w];rfl)
             refine zz32 (v:=?_) (a':=?_) 24 (some 37) #[T,T,T,T,T,T,T,T,T,T,T,T,T,T,T,T,T,T,T,T,T,T,F,T,T,F,F,F,F,F,F,F] rfl rfl HT_.out (by kernel_rfl) (fun _ _ _ h=>h) (by rfl) (fun w'=>?_) ?_ ?_;rotate_left;(go_simp;with_reducible rfl);rotate_left;(simp only [Act.put,zz21,zz22,zz23,i64_w,i32_w];rfl)
             refine zz33 (v:=?_) (a':=?_) 22 (some 35) #[T,T,T,T,T,T,T,T,T,T,T,T,T,T,T,T,T,T,T,T,T,T,T,T,T,F,F,F,F,F,F,F] rfl rfl HT_.out HW_.out (by kernel_rfl) (fun _ _ _ h=>h) (by rfl) ?_ hHeld ?_ ?_;rotate_left;(rintro w' ⟨s0,s1,s2,s3,s4,s5⟩;go_simp;with_reducible rfl);rotate_left;(simp only [Act.put,zz21,zz22,zz23,i64_w,i32_w];rfl)
             refine zz32 (v:=?_) (a':=?_) 25 (some 38) #[T,T,T,T,T,T,T,T,T,T,T,T,T,T,T,T,T,T,T,T,T,T,T,T,T,T,F,F,F,F,F,F] rfl rfl HT_.out (by kernel_rfl) (fun _ _ _ h=>h) (by rfl) (fun w'=>?_) ?_ ?_;rotate_left;(go_simp;with_reducible rfl);rotate_left;(simp only [Act.put,zz21,zz22,zz23,i64_w,i32_w];rfl)
             refine zz33 (v:=?_) (a':=?_) 26 (some 39) #[T,T,T,T,T,T,T,T,T,T,T,T,T,T,T,T,T,T,T,T,T,T,T,T,T,T,T,F,F,F,F,F] rfl rfl HT_.out HW_.out (by kernel_rfl) (fun _ _ _ h=>h) (by rfl) ?_ hHeld ?_ ?_;rotate_left;(rintro w' ⟨s0,s1,s2,s3,s4,s5⟩;go_simp;with_reducible rfl);rotate_left;(simp only [Act.put,zz21,zz22,zz23,i64_w,i32_w];rfl)
             refine zz33 (v:=?_) (a':=?_) 27 (some 40) #[T,T,T,T,T,T,T,T,T,T,T,T,T,T,T,T,T,T,T,T,T,T,T,T,T,T,T,T,F,F,F,F] rfl rfl HT_.out HW_.out (by kernel_rfl) (fun _ _ _ h=>h) (by rfl) ?_ hHeld ?_ ?_;rotate_left;(rintro w' ⟨s0,s1,s2,s3,s4,s5⟩;go_simp;with_reducible rfl);rotate_left;(simp only [Act.put,zz21,zz22,zz23,i64_w,i32_w];rfl)
             refine one_ (i:=28) (N:=some 41) #[T,T,T,T,T,T,T,T,T,T,T,T,T,T,T,T,T,T,T,T,T,T,T,T,T,T,T,T,T,F,F,F] rfl rfl (one_of HT_.out (by kernel_rfl)) (by decide) (fun K hK=>?_)
             refine goes_ Try.func65 (by kernel_rfl) rfl #[.agg #[.int .i64 ((rd_T70 l0_1 (ji26)).f0),.int .i64 ((rd_T70 l0_1 (ji26)).f1)],.agg #[.int .i64 ((rd_T70 l0_1 x8_1).f0),.int .i64 ((rd_T70 l0_1 x8_1).f1)]] (by rfl) rfl rfl (by (try simp only [zz26,zz27,zz28]);first | done | (simp only [hji26];rfl) | rfl | (simp only [zz24,zz25];rfl)) ?_
             with_reducible refine (impl_comparePairs.calls k1 ((rd_T70 l0_1 (ji26)).f0) ((rd_T70 l0_1 (ji26)).f1) ((rd_T70 l0_1 x8_1).f0) ((rd_T70 l0_1 x8_1).f1) t269 _ A29.out).mono ?_
             rintro e w42 ⟨rfl,hb⟩
             refine ⟨_,rfl,?_⟩
             replace BK265:=zz31 (zz11 (g:=gb265) (o:=.cells #[.int .i64 a0_0,.slice (some ad266) l0_1.length c0_1] 30 (0,0)) (by (with_reducible repeat (first | refine zz6 ?_ _ | refine zz7 ?_ | refine zz8 ?_ _));exact BK265.out) hb)
             replace BK267:=zz31 (zz11 (g:=gb267) (o:=.cells #[.int .i64 ((rd_T70 l0_1 x8_1).f0),.int .i64 ((rd_T70 l0_1 x8_1).f1)] 70 (0,0)) (by (with_reducible repeat (first | refine zz6 ?_ _ | refine zz7 ?_ | refine zz8 ?_ _));exact BK267.out) hb)
             replace HB:=zz31 (zz4 (by repeat first | exact HB.out | apply zz2 | apply zz0 | apply zz1 | refine zz3 ?_ GE265.out | refine zz3 ?_ GE267.out) hb)
             (try clear hb)
             (try clear hb2)
             (try clear hk)
             (try clear hi)
             refine hK.out _ _ ⟨(zz9 BK267.out 0).trans rfl,(zz9 BK267.out 1).trans rfl,(zz9 BK265.out 0).trans rfl,(zz9 BK265.out 1).trans rfl,((HB.out.cell (World.block_lt_of_cell? w _ hw268_0)).trans hw268_0),((HB.out.cell (World.block_lt_of_cell? w _ hw268_1)).trans hw268_1)⟩ (fun hHeld=>?_)
             clear hK K
             refine norm_ (a':=?_) ?_ ?_;rotate_left;(show Act.put _ (some 41) _=_;simp only [Act.put,zz21,zz22,zz23,i64_w,i32_w];rfl)
             refine zz32 (v:=?_) (a':=?_) 29 (some 42) #[T,T,T,T,T,T,T,T,T,T,T,T,T,T,T,T,T,T,T,T,T,T,T,T,T,T,T,T,T,T,F,F] rfl rfl HT_.out (by kernel_rfl) (fun _ _ _ h=>h) (by rfl) (fun w'=>?_) ?_ ?_;rotate_left;(go_simp;with_reducible rfl);rotate_left;(simp only [Act.put,zz21,zz22,zz23,i64_w,i32_w];rfl)
             refine zz32 (v:=?_) (a':=?_) 30 (some 43) #[T,T,T,T,T,T,T,T,T,T,T,T,T,T,T,T,T,T,T,T,T,T,T,T,T,T,T,T,T,T,T,F] rfl rfl HT_.out (by kernel_rfl) (fun _ _ _ h=>h) (by rfl) (fun w'=>?_) ?_ ?_;rotate_left;(go_simp;with_reducible rfl);rotate_left;(simp only [Act.put,zz21,zz22,zz23,i64_w,i32_w];rfl)
             refine zz32 (v:=?_) (a':=?_) 31 (some 44) #[T,T,T,T,T,T,T,T,T,T,T,T,T,T,T,T,T,T,T,T,T,T,T,T,T,T,T,T,T,T,T,T] rfl rfl HT_.out (by kernel_rfl) (fun _ _ _ h=>h) (by rfl) (fun w'=>?_) ?_ ?_;rotate_left;(go_simp;with_reducible rfl);rotate_left;(simp only [Act.put,zz21,zz22,zz23,i64_w,i32_w];rfl)
             refine done_ (done_of HT_.out (by kernel_rfl)) ?_
             try go_wp2
             go_roundg k1
             case measure=>have:=HK1.out;omega
             case rel=>exact ⟨(wrap64 (x8_1+1)),(by first | rfl | (simp;done) | (simp [*];done)),H',⟨by have:=HK1.out;omega⟩,⟨by (with_reducible repeat (first | refine zz6 ?_ _ | refine zz7 ?_ | refine zz8 ?_ _));exact BK265.out⟩,⟨by repeat first | exact HB.out | apply zz2 | apply zz0 | apply zz1 | refine zz3 ?_ GE265.out | refine zz3 ?_ GE267.out⟩⟩
           ·rw [if_neg c28] at H
            exact absurd H (by simp)
          ·rw [if_neg c27] at H
           exact absurd H (by simp)
         ·rw [if_neg c25] at H
          have c25b0:decide (0 < x8_1)=false:=decide_eq_false c25
          clear c25
          have H':=zz31 H
          clear H
          have p266:0≤(x8_1:Int):=zz29 (by first | (with_reducible assumption) | assumption)
          have q266:x8_1 < (l0_1.length:Int):=zz29 (by first | (with_reducible assumption) | assumption)
          obtain ⟨ad266,e266,hx266_0,hx266_1⟩:=at_T70 HR0_1.out x8_1 p266 q266
          cases e266
          try replace hx266_0:=(HB.out.cell (World.block_lt_of_cell? w _ hx266_0)).trans hx266_0
          try replace hx266_1:=(HB.out.cell (World.block_lt_of_cell? w _ hx266_1)).trans hx266_1
          replace p266:=eq_true p266
          replace q266:=eq_true q266
          try go_wp2_with (first | ((with_reducible refine gate_dst (N:=4) rfl ?_);refine box_event ?hg (N:=4) ?hd (cs:=#[.int .i64 0,.int .i64 0]) (t:=70) ?hr ?_;(case hd=>rfl);(case hg=>rfl);(case hr=>first | (go_simp;done) | (go_simp;rfl));intro gb267 hg w43 hbox hb;have BK267:=zz31 (hbox);have GW267:=zz31 ((by rw [hg];exact (zz5 (by repeat first | exact HB.out | apply zz2 | apply zz0 | apply zz1 | refine zz3 ?_ GE265.out)):w.heap.size≤gb267));replace HB:=zz31 (zz4 (by repeat first | exact HB.out | apply zz2 | apply zz0 | apply zz1 | refine zz3 ?_ GE265.out) hb);have GE267:=GW267;have NB265_267:=zz31 ((by rw [hg];exact Nat.ne_of_lt (blk_lt (g:=gb265) (o:=.cells #[.int .i64 a0_0,.slice (some ad266) l0_1.length c0_1] 30 (0,0)) (by (with_reducible repeat (first | refine zz6 ?_ _ | refine zz7 ?_ | refine zz8 ?_ _));exact BK265.out)):gb265 ≠ gb267));have NB267_265:=zz31 ((by rw [hg];exact Nat.ne_of_gt (blk_lt (g:=gb265) (o:=.cells #[.int .i64 a0_0,.slice (some ad266) l0_1.length c0_1] 30 (0,0)) (by (with_reducible repeat (first | refine zz6 ?_ _ | refine zz7 ?_ | refine zz8 ?_ _));exact BK265.out)):gb267 ≠ gb265));replace BK265:=zz31 (zz11 (g:=gb265) (o:=.cells #[.int .i64 a0_0,.slice (some ad266) l0_1.length c0_1] 30 (0,0)) (by (with_reducible repeat (first | refine zz6 ?_ _ | refine zz7 ?_ | refine zz8 ?_ _));exact BK265.out) hb);clear hb hbox hg;have hnb44:=NB267_265.out;have hnc44:=NB265_267.out;have hcz45_0:w43.cell? ⟨gb267,0,none⟩=some (.int .i64 0):=(zz9 BK267.out 0).trans rfl;have hcz45_1:w43.cell? ⟨gb267,1,none⟩=some (.int .i64 0):=(zz9 BK267.out 1).trans rfl;have hfz45_0:=zz10 BK267.out 0;have hfz45_1:=zz10 BK267.out 1))
          have n0_:Aside0 (((w43.setCell ⟨gb267,0,none⟩ (.int .i64 ((rd_T70 l0_1 x8_1).f0))).setCell ⟨gb267,1,none⟩ (.int .i64 ((rd_T70 l0_1 x8_1).f1))).heap[gb265]?=some (.cells #[.int .i64 a0_0,.slice (some ad266) l0_1.length c0_1] 30 (0,0))):=⟨by (with_reducible repeat (first | refine zz6 ?_ _ | refine zz7 ?_ | refine zz8 ?_ _));refine blk_far ?_ NB265_267.out _;(with_reducible repeat (first | refine zz6 ?_ _ | refine zz7 ?_ | refine zz8 ?_ _));refine blk_far ?_ NB265_267.out _;(with_reducible repeat (first | refine zz6 ?_ _ | refine zz7 ?_ | refine zz8 ?_ _));exact BK265.out⟩
          have n1_:Aside0 (((w43.setCell ⟨gb267,0,none⟩ (.int .i64 ((rd_T70 l0_1 x8_1).f0))).setCell ⟨gb267,1,none⟩ (.int .i64 ((rd_T70 l0_1 x8_1).f1))).heap[gb267]?=some (.cells #[.int .i64 ((rd_T70 l0_1 x8_1).f0),.int .i64 ((rd_T70 l0_1 x8_1).f1)] 70 (0,0))):=⟨by (with_reducible repeat (first | refine zz6 ?_ _ | refine zz7 ?_ | refine zz8 ?_ _));refine blk_put (cs:=#[.int .i64 ((rd_T70 l0_1 x8_1).f0),.int .i64 0]) ?_ 1 _ rfl;(with_reducible repeat (first | refine zz6 ?_ _ | refine zz7 ?_ | refine zz8 ?_ _));refine blk_put (cs:=#[.int .i64 0,.int .i64 0]) ?_ 0 _ rfl;(with_reducible repeat (first | refine zz6 ?_ _ | refine zz7 ?_ | refine zz8 ?_ _));exact BK267.out⟩
          have n2_:Aside0 (Below w.heap.size w ((w43.setCell ⟨gb267,0,none⟩ (.int .i64 ((rd_T70 l0_1 x8_1).f0))).setCell ⟨gb267,1,none⟩ (.int .i64 ((rd_T70 l0_1 x8_1).f1)))):=⟨by repeat first | exact HB.out | apply zz2 | apply zz0 | apply zz1 | refine zz3 ?_ GE265.out | refine zz3 ?_ GE267.out⟩
          (try clear BK265)
          (try clear BK267)
          (try clear HB)
          generalize ((w43.setCell ⟨gb267,0,none⟩ (.int .i64 ((rd_T70 l0_1 x8_1).f0))).setCell ⟨gb267,1,none⟩ (.int .i64 ((rd_T70 l0_1 x8_1).f1)))=w46 at n0_ n1_ n2_ ⊢
          have BK265:=n0_
          have BK267:=n1_
          have HB:=n2_
          clear n0_ n1_ n2_
          replace BK265:=zz31 (zz7 BK265.out)
          replace BK267:=zz31 (zz7 BK267.out)
          replace HB:=zz31 (zz1 HB.out)
          refine start_ (n:=32) (S:=fun w'=>w'.cell? ⟨gb267,0,none⟩=some (.int .i64 ((rd_T70 l0_1 x8_1).f0))∧w'.cell? ⟨gb267,1,none⟩=some (.int .i64 ((rd_T70 l0_1 x8_1).f1))∧w'.cell? ⟨gb265,0,none⟩=some (.int .i64 a0_0)∧w'.cell? ⟨gb265,1,none⟩=some (.slice (some ad266) l0_1.length c0_1)) (ds:=[]) #[F,F,F,F,F,F,F,F,F,F,F,F,F,F,F,F,F,F,F,F,F,F,F,F,F,F,F,F,F,F,F,F] (by kernel_rfl) rfl rfl ⟨(zz9 BK267.out 0).trans rfl,(zz9 BK267.out 1).trans rfl,(zz9 BK265.out 0).trans rfl,(zz9 BK265.out 1).trans rfl⟩ (fun hHeld=>?_);refine with_tabW impl_IsParty.tab4 impl_IsParty.bits4 (fun HT_ HW_=>?_)
          generalize w46.drew=w47 at BK265 BK267 HB hHeld ⊢
          refine zz32 (v:=?_) (a':=?_) 0 (some 13) #[T,F,F,F,F,F,F,F,F,F,F,F,F,F,F,F,F,F,F,F,F,F,F,F,F,F,F,F,F,F,F,F] rfl rfl HT_.out (by kernel_rfl) (fun _ _ _ h=>h) (by rfl) (fun w'=>?_) ?_ ?_;rotate_left;(go_simp;with_reducible rfl);rotate_left;(simp only [Act.put,zz21,zz22,zz23,i64_w,i32_w];rfl)
          refine zz33 (v:=?_) (a':=?_) 1 (some 14) #[T,T,F,F,F,F,F,F,F,F,F,F,F,F,F,F,F,F,F,F,F,F,F,F,F,F,F,F,F,F,F,F] rfl rfl HT_.out HW_.out (by kernel_rfl) (fun _ _ _ h=>h) (by rfl) ?_ hHeld ?_ ?_;rotate_left;(rintro w' ⟨s0,s1,s2,s3⟩;go_simp;with_reducible rfl);rotate_left;(simp only [Act.put,zz21,zz22,zz23,i64_w,i32_w];rfl)
          refine zz32 (v:=?_) (a':=?_) 2 (some 15) #[T,T,T,F,F,F,F,F,F,F,F,F,F,F,F,F,F,F,F,F,F,F,F,F,F,F,F,F,F,F,F,F] rfl rfl HT_.out (by kernel_rfl) (fun _ _ _ h=>h) (by rfl) (fun w'=>?_) ?_ ?_;rotate_left;(go_simp;with_reducible rfl);rotate_left;(simp only [Act.put,zz21,zz22,zz23,i64_w,i32_w];rfl)
          refine zz32 (v:=?_) (a':=?_) 3 (some 16) #[T,T,T,T,F,F,F,F,F,F,F,F,F,F,F,F,F,F,F,F,F,F,F,F,F,F,F,F,F,F,F,F] rfl rfl HT_.out (by kernel_rfl) (fun _ _ _ h=>h) (by rfl) (fun w'=>?_) ?_ ?_;rotate_left;(go_simp;with_reducible rfl);rotate_left;(simp only [Act.put,zz21,zz22,zz23,i64_w,i32_w];rfl)
          refine zz32 (v:=?_) (a':=?_) 4 (some 17) #[T,T,T,T,T,F,F,F,F,F,F,F,F,F,F,F,F,F,F,F,F,F,F,F,F,F,F,F,F,F,F,F] rfl rfl HT_.out (by kernel_rfl) (fun _ _ _ h=>h) (by rfl) (fun w'=>?_) ?_ ?_;rotate_left;(go_simp;with_reducible rfl);rotate_left;(simp only [Act.put,zz21,zz22,zz23,i64_w,i32_w];rfl)
          refine zz32 (v:=?_) (a':=?_) 6 (some 19) #[T,T,T,T,T,F,T,F,F,F,F,F,F,F,F,F,F,F,F,F,F,F,F,F,F,F,F,F,F,F,F,F] rfl rfl HT_.out (by kernel_rfl) (fun _ _ _ h=>h) (by rfl) (fun w'=>?_) ?_ ?_;rotate_left;(go_simp;with_reducible rfl);rotate_left;(simp only [Act.put,zz21,zz22,zz23,i64_w,i32_w];rfl)
          refine zz33 (v:=?_) (a':=?_) 5 (some 18) #[T,T,T,T,T,T,T,F,F,F,F,F,F,F,F,F,F,F,F,F,F,F,F,F,F,F,F,F,F,F,F,F] rfl rfl HT_.out HW_.out (by kernel_rfl) (fun _ _ _ h=>h) (by rfl) ?_ hHeld ?_ ?_;rotate_left;(rintro w' ⟨s0,s1,s2,s3⟩;go_simp;with_reducible rfl);rotate_left;(simp only [Act.put,zz21,zz22,zz23,i64_w,i32_w];rfl)
          refine zz33 (v:=?_) (a':=?_) 7 (some 20) #[T,T,T,T,T,T,T,T,F,F,F,F,F,F,F,F,F,F,F,F,F,F,F,F,F,F,F,F,F,F,F,F] rfl rfl HT_.out HW_.out (by kernel_rfl) (fun _ _ _ h=>h) (by rfl) ?_ hHeld ?_ ?_;rotate_left;(rintro w' ⟨s0,s1,s2,s3⟩;go_simp;with_reducible rfl);rotate_left;(simp only [Act.put,zz21,zz22,zz23,i64_w,i32_w];rfl)
          refine zz32 (v:=?_) (a':=?_) 8 (some 21) #[T,T,T,T,T,T,T,T,T,F,F,F,F,F,F,F,F,F,F,F,F,F,F,F,F,F,F,F,F,F,F,F] rfl rfl HT_.out (by kernel_rfl) (fun _ _ _ h=>h) (by rfl) (fun w'=>?_) ?_ ?_;rotate_left;(go_simp;with_reducible rfl);rotate_left;(simp only [Act.put,zz21,zz22,zz23,i64_w,i32_w];rfl)
          refine zz32 (v:=?_) (a':=?_) 9 (some 22) #[T,T,T,T,T,T,T,T,T,T,F,F,F,F,F,F,F,F,F,F,F,F,F,F,F,F,F,F,F,F,F,F] rfl rfl HT_.out (by kernel_rfl) (fun _ _ _ h=>h) (by rfl) (fun w'=>?_) ?_ ?_;rotate_left;(go_simp;with_reducible rfl);rotate_left;(simp only [Act.put,zz21,zz22,zz23,i64_w,i32_w];rfl)
          refine zz32 (v:=?_) (a':=?_) 10 (some 23) #[T,T,T,T,T,T,T,T,T,T,T,F,F,F,F,F,F,F,F,F,F,F,F,F,F,F,F,F,F,F,F,F] rfl rfl HT_.out (by kernel_rfl) (fun _ _ _ h=>h) (by rfl) (fun w'=>?_) ?_ ?_;rotate_left;(go_simp;with_reducible rfl);rotate_left;(simp only [Act.put,zz21,zz22,zz23,i64_w,i32_w];rfl)
          refine zz32 (v:=?_) (a':=?_) 11 (some 24) #[T,T,T,T,T,T,T,T,T,T,T,T,F,F,F,F,F,F,F,F,F,F,F,F,F,F,F,F,F,F,F,F] rfl rfl HT_.out (by kernel_rfl) (fun _ _ _ h=>h) (by rfl) (fun w'=>?_) ?_ ?_;rotate_left;(go_simp;with_reducible rfl);rotate_left;(simp only [Act.put,zz21,zz22,zz23,i64_w,i32_w];rfl)
          refine zz32 (v:=?_) (a':=?_) 13 (some 26) #[T,T,T,T,T,T,T,T,T,T,T,T,F,T,F,F,F,F,F,F,F,F,F,F,F,F,F,F,F,F,F,F] rfl rfl HT_.out (by kernel_rfl) (fun _ _ _ h=>h) (by rfl) (fun w'=>?_) ?_ ?_;rotate_left;(go_simp;with_reducible rfl);rotate_left;(simp only [Act.put,zz21,zz22,zz23,i64_w,i32_w];rfl)
          refine zz33 (v:=?_) (a':=?_) 12 (some 25) #[T,T,T,T,T,T,T,T,T,T,T,T,T,T,F,F,F,F,F,F,F,F,F,F,F,F,F,F,F,F,F,F] rfl rfl HT_.out HW_.out (by kernel_rfl) (fun _ _ _ h=>h) (by rfl) ?_ hHeld ?_ ?_;rotate_left;(rintro w' ⟨s0,s1,s2,s3⟩;go_simp;with_reducible rfl);rotate_left;(simp only [Act.put,zz21,zz22,zz23,i64_w,i32_w];rfl)
          refine zz33 (v:=?_) (a':=?_) 14 (some 27) #[T,T,T,T,T,T,T,T,T,T,T,T,T,T,T,F,F,F,F,F,F,F,F,F,F,F,F,F,F,F,F,F] rfl rfl HT_.out HW_.out (by kernel_rfl) (fun _ _ _ h=>h) (by rfl) ?_ hHeld ?_ ?_;rotate_left;(rintro w' ⟨s0,s1,s2,s3⟩;go_simp;with_reducible rfl);rotate_left;(simp only [Act.put,zz21,zz22,zz23,i64_w,i32_w];rfl)
          refine zz32 (v:=?_) (a':=?_) 15 (some 28) #[T,T,T,T,T,T,T,T,T,T,T,T,T,T,T,T,F,F,F,F,F,F,F,F,F,F,F,F,F,F,F,F] rfl rfl HT_.out (by kernel_rfl) (fun _ _ _ h=>h) (by rfl) (fun w'=>?_) ?_ ?_;rotate_left;(go_simp;with_reducible rfl);rotate_left;(simp only [Act.put,zz21,zz22,zz23,i64_w,i32_w];rfl)
          refine zz32 (v:=?_) (a':=?_) 16 (some 29) #[T,T,T,T,T,T,T,T,T,T,T,T,T,T,T,T,T,F,F,F,F,F,F,F,F,F,F,F,F,F,F,F] rfl rfl HT_.out (by kernel_rfl) (fun _ _ _ h=>h) (by rfl) (fun w'=>?_) ?_ ?_;rotate_left;(go_simp;with_reducible rfl);rotate_left;(simp only [Act.put,zz21,zz22,zz23,i64_w,i32_w];rfl)
          refine zz32 (v:=?_) (a':=?_) 17 (some 30) #[T,T,T,T,T,T,T,T,T,T,T,T,T,T,T,T,T,T,F,F,F,F,F,F,F,F,F,F,F,F,F,F] rfl rfl HT_.out (by kernel_rfl) (fun _ _ _ h=>h) (by rfl) (fun w'=>?_) ?_ ?_;rotate_left;(go_simp;with_reducible rfl);rotate_left;(simp only [Act.put,zz21,zz22,zz23,i64_w,i32_w];rfl)
          refine zz32 (v:=?_) (a':=?_) 18 (some 31) #[T,T,T,T,T,T,T,T,T,T,T,T,T,T,T,T,T,T,T,F,F,F,F,F,F,F,F,F,F,F,F,F] rfl rfl HT_.out (by kernel_rfl) (fun _ _ _ h=>h) (by rfl) (fun w'=>?_) ?_ ?_;rotate_left;(go_simp;with_reducible rfl);rotate_left;(simp only [Act.put,zz21,zz22,zz23,i64_w,i32_w];rfl)
          refine zz32 (v:=?_) (a':=?_) 19 (some 32) #[T,T,T,T,T,T,T,T,T,T,T,T,T,T,T,T,T,T,T,T,F,F,F,F,F,F,F,F,F,F,F,F] rfl rfl HT_.out (by kernel_rfl) (fun _ _ _ h=>h) (by rfl) (fun w'=>?_) ?_ ?_;rotate_left;(go_simp;with_reducible rfl);rotate_left;(simp only [Act.put,zz21,zz22,zz23,i64_w,i32_w];rfl)
          refine zz32 (v:=?_) (a':=?_) 20 (some 33) #[T,T,T,T,T,T,T,T,T,T,T,T,T,T,T,T,T,T,T,T,T,F,F,F,F,F,F,F,F,F,F,F] rfl rfl HT_.out (by kernel_rfl) (fun _ _ _ h=>h) (by rfl) (fun w'=>?_) ?_ ?_;rotate_left;(go_simp;with_reducible rfl);rotate_left;(simp only [Act.put,zz21,zz22,zz23,i64_w,i32_w];rfl)
          refine pure_ (i:=21) (N:=some 34) (v:=undef) (a':=?_) #[T,T,T,T,T,T,T,T,T,T,T,T,T,T,T,T,T,T,T,T,T,T,F,F,F,F,F,F,F,F,F,F] rfl rfl (any_of HT_.out (by kernel_rfl)) (fun _ _ _ h=>h) (Or.inr ⟨by rfl,rfl⟩) ?_ ?_
          rotate_left
          ·simp only [Act.put,zz21,zz22,zz23,i64_w,i32_w]
           rfl
          refine pure_ (i:=22) (N:=some 35) (v:=undef) (a':=?_) #[T,T,T,T,T,T,T,T,T,T,T,T,T,T,T,T,T,T,T,T,T,T,T,F,F,F,F,F,F,F,F,F] rfl rfl (any_of HT_.out (by kernel_rfl)) (fun _ _ _ h=>h) (Or.inr ⟨by rfl,rfl⟩) ?_ ?_
          rotate_left
          ·simp only [Act.put,zz21,zz22,zz23,i64_w,i32_w]
           rfl
          refine pure_ (i:=23) (N:=some 36) (v:=undef) (a':=?_) #[T,T,T,T,T,T,T,T,T,T,T,T,T,T,T,T,T,T,T,T,T,T,T,T,F,F,F,F,F,F,F,F] rfl rfl (any_of HT_.out (by kernel_rfl)) (fun _ _ _ h=>h) (Or.inr ⟨by rfl,rfl⟩) ?_ ?_
          rotate_left
          ·simp only [Act.put,zz21,zz22,zz23,i64_w,i32_w]
           rfl
          refine pure_ (i:=24) (N:=some 37) (v:=undef) (a':=?_) #[T,T,T,T,T,T,T,T,T,T,T,T,T,T,T,T,T,T,T,T,T,T,T,T,T,F,F,F,F,F,F,F] rfl rfl (any_of HT_.out (by kernel_rfl)) (fun _ _ _ h=>h) (Or.inr ⟨by rfl,rfl⟩) ?_ ?_
          rotate_left
          ·simp only [Act.put,zz21,zz22,zz23,i64_w,i32_w]
           rfl
          refine pure_ (i:=25) (N:=some 38) (v:=undef) (a':=?_) #[T,T,T,T,T,T,T,T,T,T,T,T,T,T,T,T,T,T,T,T,T,T,T,T,T,T,F,F,F,F,F,F] rfl rfl (any_of HT_.out (by kernel_rfl)) (fun _ _ _ h=>h) (Or.inr ⟨by rfl,rfl⟩) ?_ ?_
          rotate_left
          ·simp only [Act.put,zz21,zz22,zz23,i64_w,i32_w]
           rfl
          refine pure_ (i:=26) (N:=some 39) (v:=undef) (a':=?_) #[T,T,T,T,T,T,T,T,T,T,T,T,T,T,T,T,T,T,T,T,T,T,T,T,T,T,T,F,F,F,F,F] rfl rfl (any_of HT_.out (by kernel_rfl)) (fun _ _ _ h=>h) (Or.inr ⟨by rfl,rfl⟩) ?_ ?_
          rotate_left
          ·simp only [Act.put,zz21,zz22,zz23,i64_w,i32_w]
           rfl
          refine pure_ (i:=27) (N:=some 40) (v:=undef) (a':=?_) #[T,T,T,T,T,T,T,T,T,T,T,T,T,T,T,T,T,T,T,T,T,T,T,T,T,T,T,T,F,F,F,F] rfl rfl (any_of HT_.out (by kernel_rfl)) (fun _ _ _ h=>h) (Or.inr ⟨by rfl,rfl⟩) ?_ ?_
          rotate_left
          ·simp only [Act.put,zz21,zz22,zz23,i64_w,i32_w]
           rfl
          refine pure_ (i:=28) (N:=some 41) (v:=undef) (a':=?_) #[T,T,T,T,T,T,T,T,T,T,T,T,T,T,T,T,T,T,T,T,T,T,T,T,T,T,T,T,T,F,F,F] rfl rfl (any_of HT_.out (by kernel_rfl)) (fun _ _ _ h=>h) (Or.inr ⟨by rfl,rfl⟩) ?_ ?_
          rotate_left
          ·simp only [Act.put,zz21,zz22,zz23,i64_w,i32_w]
           rfl
          refine pure_ (i:=29) (N:=some 42) (v:=undef) (a':=?_) #[T,T,T,T,T,T,T,T,T,T,T,T,T,T,T,T,T,T,T,T,T,T,T,T,T,T,T,T,T,T,F,F] rfl rfl (any_of HT_.out (by kernel_rfl)) (fun _ _ _ h=>h) (Or.inr ⟨by rfl,rfl⟩) ?_ ?_
          rotate_left
          ·simp only [Act.put,zz21,zz22,zz23,i64_w,i32_w]
           rfl
          refine zz32 (v:=?_) (a':=?_) 30 (some 43) #[T,T,T,T,T,T,T,T,T,T,T,T,T,T,T,T,T,T,T,T,T,T,T,T,T,T,T,T,T,T,T,F] rfl rfl HT_.out (by kernel_rfl) (fun _ _ _ h=>h) (by rfl) (fun w'=>?_) ?_ ?_;rotate_left;(go_simp;with_reducible rfl);rotate_left;(simp only [Act.put,zz21,zz22,zz23,i64_w,i32_w];rfl)
          refine zz32 (v:=?_) (a':=?_) 31 (some 44) #[T,T,T,T,T,T,T,T,T,T,T,T,T,T,T,T,T,T,T,T,T,T,T,T,T,T,T,T,T,T,T,T] rfl rfl HT_.out (by kernel_rfl) (fun _ _ _ h=>h) (by rfl) (fun w'=>?_) ?_ ?_;rotate_left;(go_simp;with_reducible rfl);rotate_left;(simp only [Act.put,zz21,zz22,zz23,i64_w,i32_w];rfl)
          refine done_ (done_of HT_.out (by kernel_rfl)) ?_
          try go_wp2
          go_roundg k1
          case measure=>have:=HK1.out;omega
          case rel=>exact ⟨(wrap64 (x8_1+1)),(by first | rfl | (simp;done) | (simp [*];done)),H',⟨by have:=HK1.out;omega⟩,⟨by (with_reducible repeat (first | refine zz6 ?_ _ | refine zz7 ?_ | refine zz8 ?_ _));exact BK265.out⟩,⟨by repeat first | exact HB.out | apply zz2 | apply zz0 | apply zz1 | refine zz3 ?_ GE265.out | refine zz3 ?_ GE267.out⟩⟩
     ·rw [if_neg c6] at H
      exact absurd H (by simp)
    ·rw [if_neg c5] at H
     exact absurd H (by simp)
   ·rw [if_neg c4] at H
    have c4b0:decide (x8_1 < (l0_1.length:Int))=false:=decide_eq_false c4
    clear c4
    replace H:=zz30.mp H
    obtain ⟨t270,A480,H⟩:=H
    replace H:(some t270)=some r:=H
    have A48:=zz31 A480
    clear A480
    obtain rfl:=Option.some.inj H
    have hcz49_0:wr.cell? ⟨gb265,0,none⟩=some (.int .i64 a0_0):=(zz9 BK265.out 0).trans rfl
    have hcz49_1:wr.cell? ⟨gb265,1,none⟩=some (.slice A0_1 l0_1.length c0_1):=(zz9 BK265.out 1).trans rfl
    have hfz49_0:=zz10 BK265.out 0
    have hfz49_1:=zz10 BK265.out 1
    go_wp2_with (first | ((with_reducible refine gate_callee (f:=76) rfl ?_);refine goesL_ (some 48) rfl rfl Try.func76 (by kernel_rfl) rfl #[.int .i64 a0_0] rfl (by (try simp only [zz26,zz27,zz28]);first | done | rfl | (simp only [zz24,zz25];rfl)) ?_;(with_reducible refine (impl_areCrowd.calls a0_0 t270 _ A48.out).mono ?_);rintro e w' ⟨rfl,⟨nd,rfl⟩⟩;refine ⟨_,rfl,?_⟩))
    go_ret
    exact ⟨by first | rfl | (simp [errW_none,errW_some] <;> rfl) | (simp [*,errW_none,errW_some] <;> rfl),by repeat first | exact HB.out | apply zz2 | apply zz0 | apply zz1 | refine zz3 ?_ GE265.out⟩

/-! ### impl_Party_table: function 54 -/
def impl_Party_table.l0:Nat→List Int→List (S70)→Int→Int→Option (List Int)
 | 0,_,_,_,_=>none
 | k+1,x3,x10,x11,x12=>if x12 < x11 then (if 0≤x12 then (if x12 < (x10.length:Int) then (if 0≤((rd_T70 x10 x12).f0) then (if ((rd_T70 x10 x12).f0) < (x3.length:Int) then (if 0≤((rd_T70 x10 x12).f1) then ((some (x3.set (((rd_T70 x10 x12).f0):Int).toNat (Go.bits .or .u16 (rd x3 ((rd_T70 x10 x12).f0)) (shl .u16 1 ((rd_T70 x10 x12).f1))):List Int)).bind fun y278=>(if ((rd_T70 x10 x12).f1) < (x3.length:Int) then (impl_Party_table.l0 k (y278.set (((rd_T70 x10 x12).f1):Int).toNat (Go.bits .or .u16 (rd y278 ((rd_T70 x10 x12).f1)) (shl .u16 1 ((rd_T70 x10 x12).f0)))) x10 x11 (wrap64 (x12+1))) else (none))) else (none)) else (none)) else (none)) else (none)) else (none)) else (some x3)
def impl_Party_table.f (k:Nat) (a0_0:Int) (l0_1:List (S70)):Option (List Int):=if 0≤a0_0 then (if (a0_0:Int).toNat≤140737488355328 then (impl_Party_table.l0 k (List.replicate (a0_0:Int).toNat 0) l0_1 (l0_1.length:Int) 0) else (none)) else (none)
theorem impl_Party_table.mono_l:∀ k,(∀ y0 y1 y2 y3,LeO (impl_Party_table.l0 k y0 y1 y2 y3) (impl_Party_table.l0 (k+1) y0 y1 y2 y3))
 | 0=>fun _ _ _ _ r h=>by simp [impl_Party_table.l0] at h
 | k+1=>by
  have ih0:=impl_Party_table.mono_l k
  ·intro y0 y1 y2 y3
   unfold impl_Party_table.l0
   repeat' first
   | (with_reducible exact ih0 _ _ _ _)
   | (with_reducible exact LeO.refl _)
   | (with_reducible exact LeO.none _)
   | (with_reducible refine LeO.ite ?_ ?_)
   | (with_reducible refine LeO.bind ?_ (fun _=>?_))
   | exact ih0 _ _ _ _
   | exact LeO.none _
   | refine LeO.ite ?_ ?_
   | refine LeO.bind ?_ (fun _=>?_)
theorem impl_Party_table.mono:∀ a0 a1 k,LeO (impl_Party_table.f k a0 a1) (impl_Party_table.f (k+1) a0 a1):=by
 intro a0 a1 k
 have ih0:=impl_Party_table.mono_l k
 unfold impl_Party_table.f
 repeat' first
   | (with_reducible exact ih0 _ _ _ _)
   | (with_reducible exact LeO.refl _)
   | (with_reducible exact LeO.none _)
   | (with_reducible refine LeO.ite ?_ ?_)
   | (with_reducible refine LeO.bind ?_ (fun _=>?_))
   | exact ih0 _ _ _ _
   | exact LeO.none _
   | refine LeO.ite ?_ ?_
   | refine LeO.bind ?_ (fun _=>?_)
def impl_Party_table.T5:Bool × List (List Nat × List Nat):=(true,[([],[]),([],[]),([1],[1]),([0,2],[0,2]),([3],[3]),([],[]),([5],[5]),([6],[6]),([4,7],[4,7]),([0,2,0,1,2,3,4,5,6,7,8],[0,2]),([9,8,0,1,2,3,4,5,6,7,8],[8,9])])
def impl_Party_table.B5:List Nat:=[0,0,2,7,15,0,32,96,255,511,1023]
theorem impl_Party_table.tab5:rtab .any (opsOf Try.f54 5)=impl_Party_table.T5:=by kernel_rfl
theorem impl_Party_table.bits5:waitsOk impl_Party_table.T5.2 impl_Party_table.B5=true:=by kernel_rfl
def impl_Party_table.T6:Bool × List (List Nat × List Nat):=(true,[([],[]),([],[]),([1],[1]),([0,2],[0,2]),([3],[3]),([],[]),([5],[5]),([6],[6]),([4,7],[4,7]),([0,2,0,1,2,3,4,5,6,7,8],[0,2]),([9,8,0,1,2,3,4,5,6,7,8],[8,9])])
def impl_Party_table.B6:List Nat:=[0,0,2,7,15,0,32,96,255,511,1023]
theorem impl_Party_table.tab6:rtab .any (opsOf Try.f54 6)=impl_Party_table.T6:=by kernel_rfl
theorem impl_Party_table.bits6:waitsOk impl_Party_table.T6.2 impl_Party_table.B6=true:=by kernel_rfl
set_option maxHeartbeats 8000000 in
set_option maxRecDepth 100000 in
theorem impl_Party_table.calls (k:Nat) (a0_0:Int) (A0_1:Option Addr) (c0_1:Nat) (l0_1:List (S70)) (r:List Int) (w:World) (hr0_1:Kd.C k70 w A0_1 l0_1.length l0_1) (hc0_1:l0_1.length≤c0_1) (h:impl_Party_table.f k a0_0 l0_1=some r) :
  Calls Try.prog 54 #[.agg #[.int .i64 a0_0,.slice A0_1 l0_1.length c0_1]] w fun e w'=>∃ v0_:Value,e=.returned (v0_)∧Kd.R (Kd.int .u16) 100 w' w.heap.size (fun _=>True) v0_ r∧Below w.heap.size w w':=by
 have hu30:=Try.underlying30
 have hu70:=Try.underlying70
 have HR0_1:=zz31 hr0_1
 have HC0_1:=zz31 hc0_1
 clear hr0_1 hc0_1
 have HB:=zz31 (Below.refl w.heap.size w)
 have H:(if 0≤a0_0 then (if (a0_0:Int).toNat≤140737488355328 then (impl_Party_table.l0 k (List.replicate (a0_0:Int).toNat 0) l0_1 (l0_1.length:Int) 0) else (none)) else (none))=some r:=h
 clear h
 by_cases c2:0≤a0_0
 ·rw [if_pos c2] at H
  have c2b0:=eq_true c2
  have c2b1:decide (0≤a0_0)=true:=decide_eq_true c2
  clear c2
  by_cases c3:(a0_0:Int).toNat≤140737488355328
  ·rw [if_pos c3] at H
   have c3b0:=eq_true c3
   have c3b1:decide ((a0_0:Int).toNat≤140737488355328)=true:=decide_eq_true c3
   clear c3
   obtain ⟨y272,hy272⟩:∃ y_:List Int,y_=(List.replicate (a0_0:Int).toNat 0):=⟨_,rfl⟩
   replace H:(impl_Party_table.l0 k y272 l0_1 (l0_1.length:Int) 0)=some r:=by first | (rw [hy272];with_reducible exact H) | (have H2_:=(Option.bind_some _ _).symm.trans H;rw [hy272];with_reducible exact H2_) | (have H2_:=(Option.bind_some _ _).symm.trans H;with_reducible exact H2_) | with_reducible exact H | (rw [hy272];exact H) | exact H
   have Ny272:=zz31 hy272
   clear hy272
   have H':=zz31 H
   clear H
   go_enter Try.func54,Try.ntmps54
   go_wp2_with (first | ((with_reducible refine gate_dst (N:=1) rfl ?_);refine box_event ?hg (N:=1) ?hd (cs:=#[.int .i64 a0_0,.slice A0_1 l0_1.length c0_1]) (t:=30) ?hr ?_;(case hd=>rfl);(case hg=>rfl);(case hr=>first | (go_simp;done) | (go_simp;rfl));intro gb271 hg w4 hbox hb;have BK271:=zz31 (hbox);have GW271:=zz31 ((by rw [hg];exact (zz5 (by repeat first | exact HB.out | apply zz2 | apply zz0 | apply zz1)):w.heap.size≤gb271));replace HB:=zz31 (zz4 (by repeat first | exact HB.out | apply zz2 | apply zz0 | apply zz1) hb);have GE271:=GW271;clear hb hbox hg;have hcz5_0:w4.cell? ⟨gb271,0,none⟩=some (.int .i64 a0_0):=(zz9 BK271.out 0).trans rfl;have hcz5_1:w4.cell? ⟨gb271,1,none⟩=some (.slice A0_1 l0_1.length c0_1):=(zz9 BK271.out 1).trans rfl;have hfz5_0:=zz10 BK271.out 0;have hfz5_1:=zz10 BK271.out 1) | ((with_reducible refine gate_dst (N:=8) rfl ?_);refine Kd.R_make (Kd.int .u16) _ 100 rfl (N:=8) rfl 74 _ _ rfl a0_0 rfl rfl Try.underlying74 (.int .u16 0) 2 info100 rfl (by decide) (by omega) 0 (ok:=fun _=>True) (okp:=fun _=>True) rfl (fun _ hk=>hk) trivial (zz29 (by first | (with_reducible assumption) | assumption)) (Nat.le_trans (Nat.mul_le_mul_right _ (zz29 (by first | (with_reducible assumption) | assumption):a0_0.toNat≤140737488355328)) (by omega)) (Below.refl _ _) (Nat.le_refl _) ?_;intro v273 w6 ho7 hb hg_ hnew_;clear hg_ hnew_;(first | rw [← Ny272.out] at ho7 | (simp only [Int.reduceToNat] at ho7;rw [← Ny272.out] at ho7));have HO274:=zz31 (Kd.R_lower ho7 (zz5 (by repeat first | exact HB.out | apply zz2 | apply zz0 | apply zz1 | refine zz3 ?_ GE271.out)));replace BK271:=zz31 (zz11 (g:=gb271) (o:=.cells #[.int .i64 a0_0,.slice A0_1 l0_1.length c0_1] 30 (0,0)) (by (with_reducible repeat (first | refine zz6 ?_ _ | refine zz7 ?_ | refine zz8 ?_ _));exact BK271.out) hb);replace HB:=zz31 (zz4 (by repeat first | exact HB.out | apply zz2 | apply zz0 | apply zz1 | refine zz3 ?_ GE271.out) hb);clear hb ho7;have hcz8_0:w6.cell? ⟨gb271,0,none⟩=some (.int .i64 a0_0):=(zz9 BK271.out 0).trans rfl;have hcz8_1:w6.cell? ⟨gb271,1,none⟩=some (.slice A0_1 l0_1.length c0_1):=(zz9 BK271.out 1).trans rfl;have hfz8_0:=zz10 BK271.out 0;have hfz8_1:=zz10 BK271.out 1))
   go_loopg [12] k (fun kq v12 w'=>∃ (x3_1:List Int) (x12_1:Int),v12=.int .i64 x12_1∧Aside0 (impl_Party_table.l0 kq x3_1 l0_1 (l0_1.length:Int) x12_1=some r)∧Aside0 (kq≤k)∧Aside0 (Kd.R (Kd.int .u16) 100 w' w.heap.size (fun _=>True) v273 x3_1)∧Aside0 (w'.heap[gb271]?=some (.cells #[.int .i64 a0_0,(.slice A0_1 l0_1.length c0_1)] 30 (0,0)))∧Aside0 (Below w.heap.size w w'))
   case atStart=>exact ⟨(y272),(0),(by first | rfl | (simp;done) | (simp [*];done)),H',⟨Nat.le_refl _⟩,⟨by (with_reducible repeat (first | apply zz12 | apply zz13 | apply zz14));exact HO274.out⟩,⟨by (with_reducible repeat (first | refine zz6 ?_ _ | refine zz7 ?_ | refine zz8 ?_ _));exact BK271.out⟩,⟨by repeat first | exact HB.out | apply zz2 | apply zz0 | apply zz1 | refine zz3 ?_ GE271.out⟩⟩
   case round =>
    clear H'
    try clear c2
    try clear c2b0
    try clear c2b1
    try clear p2
    try clear c3
    try clear c3b0
    try clear c3b1
    try clear c5
    try clear hcz5_0
    try clear hcz5_1
    try clear hcz8_0
    try clear hcz8_1
    try clear hfz5_0
    try clear hfz5_1
    try clear hfz8_0
    try clear hfz8_1
    obtain ⟨x3_1,x12_1,rfl,HA,HK1,HO_3,BK271,HB⟩:=hrel
    cases gk with
    | zero=>exact absurd HA.out (by simp [impl_Party_table.l0])
    | succ k1 =>
     have H:=HA.out
     clear HA
     simp only [impl_Party_table.l0] at H
     by_cases c9:x12_1 < (l0_1.length:Int)
     ·rw [if_pos c9] at H
      have c9b0:decide (x12_1 < (l0_1.length:Int))=true:=decide_eq_true c9
      clear c9
      by_cases c10:0≤x12_1
      ·rw [if_pos c10] at H
       have c10b0:decide (0≤x12_1)=true:=decide_eq_true c10
       clear c10
       by_cases c11:x12_1 < (l0_1.length:Int)
       ·rw [if_pos c11] at H
        have c11b0:decide (x12_1 < (l0_1.length:Int))=true:=decide_eq_true c11
        clear c11
        by_cases c12:0≤((rd_T70 l0_1 x12_1).f0)
        ·rw [if_pos c12] at H
         have c12b0:decide (0≤((rd_T70 l0_1 x12_1).f0))=true:=decide_eq_true c12
         clear c12
         by_cases c13:((rd_T70 l0_1 x12_1).f0) < (x3_1.length:Int)
         ·rw [if_pos c13] at H
          have c13b0:decide (((rd_T70 l0_1 x12_1).f0) < (x3_1.length:Int))=true:=decide_eq_true c13
          clear c13
          by_cases c14:0≤((rd_T70 l0_1 x12_1).f1)
          ·rw [if_pos c14] at H
           have c14b0:=eq_true c14
           have c14b1:decide (0≤((rd_T70 l0_1 x12_1).f1))=true:=decide_eq_true c14
           clear c14
           obtain ⟨ji15,hji15⟩:∃ j_:Int,(shl .u16 1 ((rd_T70 l0_1 x12_1).f1))=j_:=⟨_,rfl⟩
           replace H:((some (x3_1.set (((rd_T70 l0_1 x12_1).f0):Int).toNat (Go.bits .or .u16 (rd x3_1 ((rd_T70 l0_1 x12_1).f0)) (ji15)):List Int)).bind fun y278=>(if ((rd_T70 l0_1 x12_1).f1) < (x3_1.length:Int) then (impl_Party_table.l0 k1 (y278.set (((rd_T70 l0_1 x12_1).f1):Int).toNat (Go.bits .or .u16 (rd y278 ((rd_T70 l0_1 x12_1).f1)) (shl .u16 1 ((rd_T70 l0_1 x12_1).f0)))) l0_1 (l0_1.length:Int) (wrap64 (x12_1+1))) else (none)))=some r:=by first | (rw [hji15] at H;exact H) | (simp only [hji15] at H ⊢;exact H)
           have hji15_:(IntKind.u16.wrap (1 * 2 ^ min ((rd_T70 l0_1 x12_1).f1).toNat 16))=ji15:=hji15
           have hji15z:((rd_T70 l0_1 x12_1).f1)≤16→(IntKind.u16.wrap (1 * 2 ^ ((rd_T70 l0_1 x12_1).f1).toNat))=ji15:=shl_small hji15
           have hji15u:(IntKind.u16.wrap (2 ^ min ((rd_T70 l0_1 x12_1).f1).toNat 16))=ji15:=by have h_:=hji15_;rw [Int.one_mul] at h_;exact h_
           have hji15v:((rd_T70 l0_1 x12_1).f1)≤16→(IntKind.u16.wrap (2 ^ ((rd_T70 l0_1 x12_1).f1).toNat))=ji15:=fun hle_=>by have h_:=hji15z hle_;rw [Int.one_mul] at h_;exact h_
           obtain ⟨y278,hy278⟩:∃ y_:List Int,y_=(x3_1.set (((rd_T70 l0_1 x12_1).f0):Int).toNat (Go.bits .or .u16 (rd x3_1 ((rd_T70 l0_1 x12_1).f0)) (ji15))):=⟨_,rfl⟩
           replace H:(if ((rd_T70 l0_1 x12_1).f1) < (x3_1.length:Int) then (impl_Party_table.l0 k1 (y278.set (((rd_T70 l0_1 x12_1).f1):Int).toNat (Go.bits .or .u16 (rd y278 ((rd_T70 l0_1 x12_1).f1)) (shl .u16 1 ((rd_T70 l0_1 x12_1).f0)))) l0_1 (l0_1.length:Int) (wrap64 (x12_1+1))) else (none))=some r:=by first | (rw [hy278];with_reducible exact H) | (have H2_:=(Option.bind_some _ _).symm.trans H;rw [hy278];with_reducible exact H2_) | (have H2_:=(Option.bind_some _ _).symm.trans H;with_reducible exact H2_) | with_reducible exact H | (rw [hy278];exact H) | exact H
           have Ny278:=zz31 hy278
           clear hy278
           by_cases c17:((rd_T70 l0_1 x12_1).f1) < (x3_1.length:Int)
           ·rw [if_pos c17] at H
            have c17b0:decide (((rd_T70 l0_1 x12_1).f1) < (x3_1.length:Int))=true:=decide_eq_true c17
            clear c17
            have c18b0:=eq_true (zz29 (by first | (with_reducible assumption) | assumption):0≤((rd_T70 l0_1 x12_1).f0))
            obtain ⟨ji19,hji19⟩:∃ j_:Int,(shl .u16 1 ((rd_T70 l0_1 x12_1).f0))=j_:=⟨_,rfl⟩
            replace H:(impl_Party_table.l0 k1 (y278.set (((rd_T70 l0_1 x12_1).f1):Int).toNat (Go.bits .or .u16 (rd y278 ((rd_T70 l0_1 x12_1).f1)) (ji19))) l0_1 (l0_1.length:Int) (wrap64 (x12_1+1)))=some r:=by first | (rw [hji19] at H;exact H) | (simp only [hji19] at H ⊢;exact H)
            have hji19_:(IntKind.u16.wrap (1 * 2 ^ min ((rd_T70 l0_1 x12_1).f0).toNat 16))=ji19:=hji19
            have hji19z:((rd_T70 l0_1 x12_1).f0)≤16→(IntKind.u16.wrap (1 * 2 ^ ((rd_T70 l0_1 x12_1).f0).toNat))=ji19:=shl_small hji19
            have hji19u:(IntKind.u16.wrap (2 ^ min ((rd_T70 l0_1 x12_1).f0).toNat 16))=ji19:=by have h_:=hji19_;rw [Int.one_mul] at h_;exact h_
            have hji19v:((rd_T70 l0_1 x12_1).f0)≤16→(IntKind.u16.wrap (2 ^ ((rd_T70 l0_1 x12_1).f0).toNat))=ji19:=fun hle_=>by have h_:=hji19z hle_;rw [Int.one_mul] at h_;exact h_
            obtain ⟨y280,hy280⟩:∃ y_:List Int,y_=(y278.set (((rd_T70 l0_1 x12_1).f1):Int).toNat (Go.bits .or .u16 (rd y278 ((rd_T70 l0_1 x12_1).f1)) (ji19))):=⟨_,rfl⟩
            replace H:(impl_Party_table.l0 k1 y280 l0_1 (l0_1.length:Int) (wrap64 (x12_1+1)))=some r:=by first | (rw [hy280];with_reducible exact H) | (have H2_:=(Option.bind_some _ _).symm.trans H;rw [hy280];with_reducible exact H2_) | (have H2_:=(Option.bind_some _ _).symm.trans H;with_reducible exact H2_) | with_reducible exact H | (rw [hy280];exact H) | exact H
            have Ny280:=zz31 hy280
            clear hy280
            have H':=zz31 H
            clear H
            have p275:0≤(x12_1:Int):=zz29 (by first | (with_reducible assumption) | assumption)
            have q275:x12_1 < (l0_1.length:Int):=zz29 (by first | (with_reducible assumption) | assumption)
            obtain ⟨ad275,e275,hx275_0,hx275_1⟩:=at_T70 HR0_1.out x12_1 p275 q275
            cases e275
            try replace hx275_0:=(HB.out.cell (World.block_lt_of_cell? w _ hx275_0)).trans hx275_0
            try replace hx275_1:=(HB.out.cell (World.block_lt_of_cell? w _ hx275_1)).trans hx275_1
            replace p275:=eq_true p275
            replace q275:=eq_true q275
            try go_wp2_with (first | ((with_reducible refine gate_dst (N:=5) rfl ?_);refine box_event ?hg (N:=5) ?hd (cs:=#[.int .i64 0,.int .i64 0]) (t:=70) ?hr ?_;(case hd=>rfl);(case hg=>rfl);(case hr=>first | (go_simp;done) | (go_simp;rfl));intro gb276 hg w21 hbox hb;replace HO_3:=zz31 (Kd.R_below (by (with_reducible repeat (first | apply zz12 | apply zz13 | apply zz14));exact HO_3.out) hb);have BK276:=zz31 (hbox);have GW276:=zz31 ((by rw [hg];exact (zz5 (by repeat first | exact HB.out | apply zz2 | apply zz0 | apply zz1 | refine zz3 ?_ GE271.out)):w.heap.size≤gb276));replace HB:=zz31 (zz4 (by repeat first | exact HB.out | apply zz2 | apply zz0 | apply zz1 | refine zz3 ?_ GE271.out) hb);have GE276:=GW276;have NB271_276:=zz31 ((by rw [hg];exact Nat.ne_of_lt (blk_lt (g:=gb271) (o:=.cells #[.int .i64 a0_0,.slice (some ad275) l0_1.length c0_1] 30 (0,0)) (by (with_reducible repeat (first | refine zz6 ?_ _ | refine zz7 ?_ | refine zz8 ?_ _));exact BK271.out)):gb271 ≠ gb276));have NB276_271:=zz31 ((by rw [hg];exact Nat.ne_of_gt (blk_lt (g:=gb271) (o:=.cells #[.int .i64 a0_0,.slice (some ad275) l0_1.length c0_1] 30 (0,0)) (by (with_reducible repeat (first | refine zz6 ?_ _ | refine zz7 ?_ | refine zz8 ?_ _));exact BK271.out)):gb276 ≠ gb271));replace BK271:=zz31 (zz11 (g:=gb271) (o:=.cells #[.int .i64 a0_0,.slice (some ad275) l0_1.length c0_1] 30 (0,0)) (by (with_reducible repeat (first | refine zz6 ?_ _ | refine zz7 ?_ | refine zz8 ?_ _));exact BK271.out) hb);clear hb hbox hg;have hnb22:=NB276_271.out;have hnc22:=NB271_276.out;have hcz23_0:w21.cell? ⟨gb276,0,none⟩=some (.int .i64 0):=(zz9 BK276.out 0).trans rfl;have hcz23_1:w21.cell? ⟨gb276,1,none⟩=some (.int .i64 0):=(zz9 BK276.out 1).trans rfl;have hfz23_0:=zz10 BK276.out 0;have hfz23_1:=zz10 BK276.out 1))
            have n0_:Aside0 (Kd.R (Kd.int .u16) 100 ((w21.setCell ⟨gb276,0,none⟩ (.int .i64 ((rd_T70 l0_1 x12_1).f0))).setCell ⟨gb276,1,none⟩ (.int .i64 ((rd_T70 l0_1 x12_1).f1))) w.heap.size (fun _=>True) v273 x3_1):=⟨by (with_reducible repeat (first | apply zz12 | apply zz13 | apply zz14));exact Kd.R_mono (Kd.R_far (p:=⟨gb276,1,none⟩) (Kd.R_far (p:=⟨gb276,0,none⟩) (Kd.R_types HO_3.out BK276.out (by decide)) (fun _ hk=>hk.2) (.int .i64 ((rd_T70 l0_1 x12_1).f0))) (fun _ hk=>hk.2) (.int .i64 ((rd_T70 l0_1 x12_1).f1))) (fun _ hk=>trivial)⟩
            have n1_:Aside0 (((w21.setCell ⟨gb276,0,none⟩ (.int .i64 ((rd_T70 l0_1 x12_1).f0))).setCell ⟨gb276,1,none⟩ (.int .i64 ((rd_T70 l0_1 x12_1).f1))).heap[gb271]?=some (.cells #[.int .i64 a0_0,.slice (some ad275) l0_1.length c0_1] 30 (0,0))):=⟨by (with_reducible repeat (first | refine zz6 ?_ _ | refine zz7 ?_ | refine zz8 ?_ _));refine blk_far ?_ NB271_276.out _;(with_reducible repeat (first | refine zz6 ?_ _ | refine zz7 ?_ | refine zz8 ?_ _));refine blk_far ?_ NB271_276.out _;(with_reducible repeat (first | refine zz6 ?_ _ | refine zz7 ?_ | refine zz8 ?_ _));exact BK271.out⟩
            have n2_:Aside0 (((w21.setCell ⟨gb276,0,none⟩ (.int .i64 ((rd_T70 l0_1 x12_1).f0))).setCell ⟨gb276,1,none⟩ (.int .i64 ((rd_T70 l0_1 x12_1).f1))).heap[gb276]?=some (.cells #[.int .i64 ((rd_T70 l0_1 x12_1).f0),.int .i64 ((rd_T70 l0_1 x12_1).f1)] 70 (0,0))):=⟨by (with_reducible repeat (first | refine zz6 ?_ _ | refine zz7 ?_ | refine zz8 ?_ _));refine blk_put (cs:=#[.int .i64 ((rd_T70 l0_1 x12_1).f0),.int .i64 0]) ?_ 1 _ rfl;(with_reducible repeat (first | refine zz6 ?_ _ | refine zz7 ?_ | refine zz8 ?_ _));refine blk_put (cs:=#[.int .i64 0,.int .i64 0]) ?_ 0 _ rfl;(with_reducible repeat (first | refine zz6 ?_ _ | refine zz7 ?_ | refine zz8 ?_ _));exact BK276.out⟩
            have n3_:Aside0 (Below w.heap.size w ((w21.setCell ⟨gb276,0,none⟩ (.int .i64 ((rd_T70 l0_1 x12_1).f0))).setCell ⟨gb276,1,none⟩ (.int .i64 ((rd_T70 l0_1 x12_1).f1)))):=⟨by repeat first | exact HB.out | apply zz2 | apply zz0 | apply zz1 | refine zz3 ?_ GE271.out | refine zz3 ?_ GE276.out⟩
            (try clear HO_3)
            (try clear BK271)
            (try clear BK276)
            (try clear HB)
            generalize ((w21.setCell ⟨gb276,0,none⟩ (.int .i64 ((rd_T70 l0_1 x12_1).f0))).setCell ⟨gb276,1,none⟩ (.int .i64 ((rd_T70 l0_1 x12_1).f1)))=w24 at n0_ n1_ n2_ n3_ ⊢
            have HO_3:=n0_
            have BK271:=n1_
            have BK276:=n2_
            have HB:=n3_
            clear n0_ n1_ n2_ n3_
            replace HO_3:=zz31 (zz14 HO_3.out)
            replace BK271:=zz31 (zz7 BK271.out)
            replace BK276:=zz31 (zz7 BK276.out)
            replace HB:=zz31 (zz1 HB.out)
            obtain ⟨Ao26,co26,eo26⟩:=Kd.R_slice HO_3.out
            (first | subst eo26 | (injection eo26 with f1_ f2_ f3_;have f4_:=f1_.symm;have f5_:=f3_.symm;clear f1_ f2_ f3_;subst f4_;subst f5_))
            have p277:0≤(((rd_T70 l0_1 x12_1).f0):Int):=zz29 (by first | (with_reducible assumption) | assumption)
            have q277:((rd_T70 l0_1 x12_1).f0) < (x3_1.length:Int):=zz29 (by first | (with_reducible assumption) | assumption)
            obtain ⟨ad277,e277,hx277_0⟩:=Kd.at_int (Kd.R_reads' HO_3.out).2.2 ((rd_T70 l0_1 x12_1).f0) p277 q277
            cases e277
            replace p277:=eq_true p277
            replace q277:=eq_true q277
            have p16:0≤(((rd_T70 l0_1 x12_1).f0):Int):=zz29 (by first | (with_reducible assumption) | assumption)
            have q16:(((rd_T70 l0_1 x12_1).f0):Int) < ((x3_1.length:Int):Int):=zz29 (by first | (with_reducible assumption) | assumption)
            obtain ⟨go16,co16,eo16,gb16,gl16,cl16,HG16⟩:=Kd.R_form HO_3.out (by omega)
            (first | cases eo16 | (injection eo16 with ea_ en_ ec_;(first | subst ea_ | (injection ea_ with ea_;subst ea_));subst ec_;clear en_))
            have GB16:=zz31 gb16
            have GG16:=zz31 HG16
            clear gb16 gl16 HG16
            (first | simp only [add_plain] at hx277_0 | skip)
            obtain ⟨hx16_0,hf16_0⟩:=Kd.R_celln 0 HO_3.out (((rd_T70 l0_1 x12_1).f0):Int) p16 q16
            replace p16:=eq_true p16
            replace q16:=eq_true q16
            have HP27:=Kd.R_putn HO_3.out (((rd_T70 l0_1 x12_1).f0):Int) (Go.bits .or .u16 (rd x3_1 ((rd_T70 l0_1 x12_1).f0)) (ji15))
            rw [← Ny278.out] at HP27
            have HQ27:=zz31 HP27
            clear HP27
            refine start_ (n:=11) (S:=fun w'=>w'.cell? ⟨gb276,0,none⟩=some (.int .i64 ((rd_T70 l0_1 x12_1).f0))∧w'.cell? ⟨gb276,1,none⟩=some (.int .i64 ((rd_T70 l0_1 x12_1).f1))∧w'.cell? ⟨go16,(((rd_T70 l0_1 x12_1).f0)).toNat,none⟩=some (.int .u16 (rd x3_1 ((rd_T70 l0_1 x12_1).f0)))) (ds:=[10]) #[F,F,F,F,F,F,F,F,F,F,F] (by kernel_rfl) rfl rfl ⟨(zz9 BK276.out 0).trans rfl,(zz9 BK276.out 1).trans rfl,hx277_0⟩ (fun hHeld=>?_);refine with_tabW impl_Party_table.tab5 impl_Party_table.bits5 (fun HT_ HW_=>?_)
            generalize w24.drew=w25 at HO_3 BK271 BK276 HB GG16 HQ27 hf16_0 hx16_0 hx277_0 hHeld ⊢
            refine zz32 (v:=?_) (a':=?_) 0 (some 16) #[T,F,F,F,F,F,F,F,F,F,F] rfl rfl HT_.out (by kernel_rfl) (fun _ _ _ h=>h) (by rfl) (fun w'=>?_) ?_ ?_;rotate_left;(go_simp;with_reducible rfl);rotate_left;(simp only [Act.put,zz21,zz22,zz23,i64_w,i32_w];rfl)
            refine zz32 (v:=?_) (a':=?_) 1 (some 17) #[T,T,F,F,F,F,F,F,F,F,F] rfl rfl HT_.out (by kernel_rfl) (fun _ _ _ h=>h) (by rfl) (fun w'=>?_) ?_ ?_;rotate_left;(go_simp;with_reducible rfl);rotate_left;(simp only [Act.put,zz21,zz22,zz23,i64_w,i32_w];rfl)
            refine zz32 (v:=?_) (a':=?_) 5 (some 21) #[T,T,F,F,F,T,F,F,F,F,F] rfl rfl HT_.out (by kernel_rfl) (fun _ _ _ h=>h) (by rfl) (fun w'=>?_) ?_ ?_;rotate_left;(go_simp;with_reducible rfl);rotate_left;(simp only [Act.put,zz21,zz22,zz23,i64_w,i32_w];rfl)
            refine zz33 (v:=?_) (a':=?_) 2 (some 18) #[T,T,T,F,F,T,F,F,F,F,F] rfl rfl HT_.out HW_.out (by kernel_rfl) (fun _ _ _ h=>h) (by rfl) ?_ hHeld ?_ ?_;rotate_left;(rintro w' ⟨s0,s1,s2⟩;go_simp;with_reducible rfl);rotate_left;(simp only [Act.put,zz21,zz22,zz23,i64_w,i32_w];rfl)
            refine zz32 (v:=?_) (a':=?_) 3 (some 19) #[T,T,T,T,F,T,F,F,F,F,F] rfl rfl HT_.out (by kernel_rfl) (fun _ _ _ h=>h) (by rfl) (fun w'=>?_) ?_ ?_;rotate_left;(go_simp;with_reducible rfl);rotate_left;(simp only [Act.put,zz21,zz22,zz23,i64_w,i32_w];rfl)
            refine zz33 (v:=?_) (a':=?_) 4 (some 20) #[T,T,T,T,T,T,F,F,F,F,F] rfl rfl HT_.out HW_.out (by kernel_rfl) (fun _ _ _ h=>h) (by rfl) ?_ hHeld ?_ ?_;rotate_left;(rintro w' ⟨s0,s1,s2⟩;go_simp;with_reducible rfl);rotate_left;(simp only [Act.put,zz21,zz22,zz23,i64_w,i32_w];rfl)
            refine zz33 (v:=?_) (a':=?_) 6 (some 22) #[T,T,T,T,T,T,T,F,F,F,F] rfl rfl HT_.out HW_.out (by kernel_rfl) (fun _ _ _ h=>h) (by rfl) ?_ hHeld ?_ ?_;rotate_left;(rintro w' ⟨s0,s1,s2⟩;go_simp;with_reducible rfl);rotate_left;(simp only [Act.put,zz21,zz22,zz23,i64_w,i32_w];rfl)
            refine zz32 (v:=?_) (a':=?_) 7 (some 23) #[T,T,T,T,T,T,T,T,F,F,F] rfl rfl HT_.out (by kernel_rfl) (fun _ _ _ h=>h) (by rfl) (fun w'=>?_) ?_ ?_;rotate_left;(go_simp;with_reducible rfl);rotate_left;(simp only [Act.put,zz21,zz22,zz23,i64_w,i32_w];rfl)
            refine zz32 (v:=?_) (a':=?_) 8 (some 24) #[T,T,T,T,T,T,T,T,T,F,F] rfl rfl HT_.out (by kernel_rfl) (fun _ _ _ h=>h) (by rfl) (fun w'=>?_) ?_ ?_;rotate_left;(go_simp;with_reducible rfl);rotate_left;(simp only [Act.put,zz21,zz22,zz23,i64_w,i32_w];rfl)
            refine zz32 (v:=?_) (a':=?_) 9 (some 25) #[T,T,T,T,T,T,T,T,T,T,F] rfl rfl HT_.out (by kernel_rfl) (fun _ _ _ h=>h) (by rfl) (fun w'=>?_) ?_ ?_;rotate_left;(go_simp;with_reducible rfl);rotate_left;(simp only [Act.put,zz21,zz22,zz23,i64_w,i32_w];rfl)
            refine last_ (i:=10) (N:=none) #[T,T,T,T,T,T,T,T,T,T,T] rfl rfl (one_of HT_.out (by kernel_rfl)) (by decide) (fun K hK=>?_)
            refine skip_ (w1:=?_) (by rfl) rfl ?_ ?_
            rotate_left
            ·go_simp
             rfl
            refine hK.out _ _ ?_
            clear hK K
            refine done_ (done_of HT_.out (by kernel_rfl)) ?_
            try go_wp2
            have n0_:Aside0 (Kd.R (Kd.int .u16) 100 (w25.setCell ⟨go16,(((rd_T70 l0_1 x12_1).f0):Int).toNat,none⟩ (.int .u16 (Go.bits .or .u16 (rd x3_1 ((rd_T70 l0_1 x12_1).f0)) (ji15)))) w.heap.size (fun _=>True) (.slice (some ⟨go16,0,none⟩) x3_1.length co26) y278):=⟨by (with_reducible repeat (first | apply zz12 | apply zz13 | apply zz14));exact HQ27.out⟩
            have n1_:Aside0 ((w25.setCell ⟨go16,(((rd_T70 l0_1 x12_1).f0):Int).toNat,none⟩ (.int .u16 (Go.bits .or .u16 (rd x3_1 ((rd_T70 l0_1 x12_1).f0)) (ji15)))).heap[gb271]?=some (.cells #[.int .i64 a0_0,.slice (some ad275) l0_1.length c0_1] 30 (0,0))):=⟨by (with_reducible repeat (first | refine zz6 ?_ _ | refine zz7 ?_ | refine zz8 ?_ _));refine blk_far ?_ (by have h_:=Kd.R_ne HO_3.out BK271.out (by decide);intro e_;exact h_ (by rw [e_];rfl)) _;(with_reducible repeat (first | refine zz6 ?_ _ | refine zz7 ?_ | refine zz8 ?_ _));exact BK271.out⟩
            have n2_:Aside0 ((w25.setCell ⟨go16,(((rd_T70 l0_1 x12_1).f0):Int).toNat,none⟩ (.int .u16 (Go.bits .or .u16 (rd x3_1 ((rd_T70 l0_1 x12_1).f0)) (ji15)))).heap[gb276]?=some (.cells #[.int .i64 ((rd_T70 l0_1 x12_1).f0),.int .i64 ((rd_T70 l0_1 x12_1).f1)] 70 (0,0))):=⟨by (with_reducible repeat (first | refine zz6 ?_ _ | refine zz7 ?_ | refine zz8 ?_ _));refine blk_far ?_ (by have h_:=Kd.R_ne HO_3.out BK276.out (by decide);intro e_;exact h_ (by rw [e_];rfl)) _;(with_reducible repeat (first | refine zz6 ?_ _ | refine zz7 ?_ | refine zz8 ?_ _));exact BK276.out⟩
            have n3_:Aside0 (Below w.heap.size w (w25.setCell ⟨go16,(((rd_T70 l0_1 x12_1).f0):Int).toNat,none⟩ (.int .u16 (Go.bits .or .u16 (rd x3_1 ((rd_T70 l0_1 x12_1).f0)) (ji15))))):=⟨by repeat first | exact HB.out | apply zz2 | apply zz0 | apply zz1 | refine zz3 ?_ GB16.out | refine zz3 ?_ GE271.out | refine zz3 ?_ GE276.out⟩
            (try clear HO_3)
            (try clear BK271)
            (try clear BK276)
            (try clear HB)
            generalize (w25.setCell ⟨go16,(((rd_T70 l0_1 x12_1).f0):Int).toNat,none⟩ (.int .u16 (Go.bits .or .u16 (rd x3_1 ((rd_T70 l0_1 x12_1).f0)) (ji15))))=w28 at n0_ n1_ n2_ n3_ ⊢
            have HO_3:=n0_
            have BK271:=n1_
            have BK276:=n2_
            have HB:=n3_
            clear n0_ n1_ n2_ n3_
            replace HO_3:=zz31 (zz14 HO_3.out)
            replace BK271:=zz31 (zz7 BK271.out)
            replace BK276:=zz31 (zz7 BK276.out)
            replace HB:=zz31 (zz1 HB.out)
            have p279:0≤(((rd_T70 l0_1 x12_1).f1):Int):=zz29 (by first | (with_reducible assumption) | assumption)
            have q279:((rd_T70 l0_1 x12_1).f1) < (y278.length:Int):=(by have h_:(((rd_T70 l0_1 x12_1).f1):Int) < ((x3_1.length:Int):Int):=zz29 (by first | (with_reducible assumption) | assumption);first | (have e_:=(Kd.R_reads' HO_3.out).1;omega) | simpa only [Ny278.out,List.length_set] using h_)
            have ql279:((((rd_T70 l0_1 x12_1).f1):Int) < ((x3_1.length:Int):Int))=True:=eq_true (zz29 (by first | (with_reducible assumption) | assumption))
            obtain ⟨ad279,e279,hx279_0⟩:=Kd.at_int (Kd.R_reads' HO_3.out).2.2 ((rd_T70 l0_1 x12_1).f1) p279 q279
            obtain rfl:(⟨go16,0,none⟩:Addr)=ad279:=(by injection e279)
            (first | simp only [add_plain] at hx279_0 | simp only [add_at] at hx279_0 | simp only [Addr.add,Nat.zero_add] at hx279_0 | skip)
            replace p279:=eq_true p279
            replace q279:=eq_true q279
            have p20:0≤(((rd_T70 l0_1 x12_1).f1):Int):=zz29 (by first | (with_reducible assumption) | assumption)
            have q20:(((rd_T70 l0_1 x12_1).f1):Int) < ((x3_1.length:Int):Int):=zz29 (by first | (with_reducible assumption) | assumption)
            obtain ⟨hx20_0,hf20_0⟩:=Kd.R_celln 0 HO_3.out (((rd_T70 l0_1 x12_1).f1):Int) p20 q20
            replace p20:=eq_true p20
            replace q20:=eq_true q20
            have HP30:=Kd.R_putn HO_3.out (((rd_T70 l0_1 x12_1).f1):Int) (Go.bits .or .u16 (rd y278 ((rd_T70 l0_1 x12_1).f1)) (ji19))
            rw [← Ny280.out] at HP30
            have HQ30:=zz31 HP30
            clear HP30
            refine start_ (n:=11) (S:=fun w'=>w'.cell? ⟨gb276,0,none⟩=some (.int .i64 ((rd_T70 l0_1 x12_1).f0))∧w'.cell? ⟨gb276,1,none⟩=some (.int .i64 ((rd_T70 l0_1 x12_1).f1))∧w'.cell? ⟨go16,(((rd_T70 l0_1 x12_1).f1)).toNat,none⟩=some (.int .u16 (rd y278 ((rd_T70 l0_1 x12_1).f1)))) (ds:=[10]) #[F,F,F,F,F,F,F,F,F,F,F] (by kernel_rfl) rfl rfl ⟨(zz9 BK276.out 0).trans rfl,(zz9 BK276.out 1).trans rfl,hx279_0⟩ (fun hHeld=>?_);refine with_tabW impl_Party_table.tab6 impl_Party_table.bits6 (fun HT_ HW_=>?_)
            generalize w28.drew=w29 at HO_3 BK271 BK276 HB HQ27 HQ30 hf20_0 hx20_0 hx279_0 hHeld ⊢
            refine zz32 (v:=?_) (a':=?_) 0 (some 26) #[T,F,F,F,F,F,F,F,F,F,F] rfl rfl HT_.out (by kernel_rfl) (fun _ _ _ h=>h) (by rfl) (fun w'=>?_) ?_ ?_;rotate_left;(go_simp;with_reducible rfl);rotate_left;(simp only [Act.put,zz21,zz22,zz23,i64_w,i32_w];rfl)
            refine zz32 (v:=?_) (a':=?_) 1 (some 27) #[T,T,F,F,F,F,F,F,F,F,F] rfl rfl HT_.out (by kernel_rfl) (fun _ _ _ h=>h) (by rfl) (fun w'=>?_) ?_ ?_;rotate_left;(go_simp;with_reducible rfl);rotate_left;(simp only [Act.put,zz21,zz22,zz23,i64_w,i32_w];rfl)
            refine zz32 (v:=?_) (a':=?_) 5 (some 31) #[T,T,F,F,F,T,F,F,F,F,F] rfl rfl HT_.out (by kernel_rfl) (fun _ _ _ h=>h) (by rfl) (fun w'=>?_) ?_ ?_;rotate_left;(go_simp;with_reducible rfl);rotate_left;(simp only [Act.put,zz21,zz22,zz23,i64_w,i32_w];rfl)
            refine zz33 (v:=?_) (a':=?_) 2 (some 28) #[T,T,T,F,F,T,F,F,F,F,F] rfl rfl HT_.out HW_.out (by kernel_rfl) (fun _ _ _ h=>h) (by rfl) ?_ hHeld ?_ ?_;rotate_left;(rintro w' ⟨s0,s1,s2⟩;go_simp;with_reducible rfl);rotate_left;(simp only [Act.put,zz21,zz22,zz23,i64_w,i32_w];rfl)
            refine zz32 (v:=?_) (a':=?_) 3 (some 29) #[T,T,T,T,F,T,F,F,F,F,F] rfl rfl HT_.out (by kernel_rfl) (fun _ _ _ h=>h) (by rfl) (fun w'=>?_) ?_ ?_;rotate_left;(go_simp;with_reducible rfl);rotate_left;(simp only [Act.put,zz21,zz22,zz23,i64_w,i32_w];rfl)
            refine zz33 (v:=?_) (a':=?_) 4 (some 30) #[T,T,T,T,T,T,F,F,F,F,F] rfl rfl HT_.out HW_.out (by kernel_rfl) (fun _ _ _ h=>h) (by rfl) ?_ hHeld ?_ ?_;rotate_left;(rintro w' ⟨s0,s1,s2⟩;go_simp;with_reducible rfl);rotate_left;(simp only [Act.put,zz21,zz22,zz23,i64_w,i32_w];rfl)
            refine zz33 (v:=?_) (a':=?_) 6 (some 32) #[T,T,T,T,T,T,T,F,F,F,F] rfl rfl HT_.out HW_.out (by kernel_rfl) (fun _ _ _ h=>h) (by rfl) ?_ hHeld ?_ ?_;rotate_left;(rintro w' ⟨s0,s1,s2⟩;go_simp;with_reducible rfl);rotate_left;(simp only [Act.put,zz21,zz22,zz23,i64_w,i32_w];rfl)
            refine zz32 (v:=?_) (a':=?_) 7 (some 33) #[T,T,T,T,T,T,T,T,F,F,F] rfl rfl HT_.out (by kernel_rfl) (fun _ _ _ h=>h) (by rfl) (fun w'=>?_) ?_ ?_;rotate_left;(go_simp;with_reducible rfl);rotate_left;(simp only [Act.put,zz21,zz22,zz23,i64_w,i32_w];rfl)
            refine zz32 (v:=?_) (a':=?_) 8 (some 34) #[T,T,T,T,T,T,T,T,T,F,F] rfl rfl HT_.out (by kernel_rfl) (fun _ _ _ h=>h) (by rfl) (fun w'=>?_) ?_ ?_;rotate_left;(go_simp;with_reducible rfl);rotate_left;(simp only [Act.put,zz21,zz22,zz23,i64_w,i32_w];rfl)
            refine zz32 (v:=?_) (a':=?_) 9 (some 35) #[T,T,T,T,T,T,T,T,T,T,F] rfl rfl HT_.out (by kernel_rfl) (fun _ _ _ h=>h) (by rfl) (fun w'=>?_) ?_ ?_;rotate_left;(go_simp;with_reducible rfl);rotate_left;(simp only [Act.put,zz21,zz22,zz23,i64_w,i32_w];rfl)
            refine last_ (i:=10) (N:=none) #[T,T,T,T,T,T,T,T,T,T,T] rfl rfl (one_of HT_.out (by kernel_rfl)) (by decide) (fun K hK=>?_)
            refine skip_ (w1:=?_) (by rfl) rfl ?_ ?_
            rotate_left
            ·go_simp
             rfl
            refine hK.out _ _ ?_
            clear hK K
            refine done_ (done_of HT_.out (by kernel_rfl)) ?_
            try go_wp2
            go_roundg k1
            case measure=>have:=HK1.out;omega
            case rel=>exact ⟨(y280),(wrap64 (x12_1+1)),(by first | rfl | (simp;done) | (simp [*];done)),H',⟨by have:=HK1.out;omega⟩,⟨by (with_reducible repeat (first | apply zz12 | apply zz13 | apply zz14));exact HQ30.out⟩,⟨by (with_reducible repeat (first | refine zz6 ?_ _ | refine zz7 ?_ | refine zz8 ?_ _));refine blk_far ?_ (by have h_:=Kd.R_ne HO_3.out BK271.out (by decide);intro e_;exact h_ (by rw [e_];rfl)) _;(with_reducible repeat (first | refine zz6 ?_ _ | refine zz7 ?_ | refine zz8 ?_ _));exact BK271.out⟩,⟨by repeat first | exact HB.out | apply zz2 | apply zz0 | apply zz1 | refine zz3 ?_ GB16.out | refine zz3 ?_ GE271.out | refine zz3 ?_ GE276.out⟩⟩
           ·rw [if_neg c17] at H
            exact absurd H (by simp)
          ·rw [if_neg c14] at H
           exact absurd H (by simp)
         ·rw [if_neg c13] at H
          exact absurd H (by simp)
        ·rw [if_neg c12] at H
         exact absurd H (by simp)
       ·rw [if_neg c11] at H
        exact absurd H (by simp)
      ·rw [if_neg c10] at H
       exact absurd H (by simp)
     ·rw [if_neg c9] at H
      have c9b0:decide (x12_1 < (l0_1.length:Int))=false:=decide_eq_false c9
      clear c9
      obtain rfl:=Option.some.inj H
      go_wp2
      go_ret
      exact ⟨_,by first | rfl | (simp [errW_none,errW_some] <;> rfl) | (simp [*,errW_none,errW_some] <;> rfl),by (with_reducible repeat (first | apply zz12 | apply zz13 | apply zz14));exact HO_3.out,by repeat first | exact HB.out | apply zz2 | apply zz0 | apply zz1 | refine zz3 ?_ GE271.out⟩
  ·rw [if_neg c3] at H
   exact absurd H (by simp)
 ·rw [if_neg c2] at H
  exact absurd H (by simp)

/-! ### impl_table_has: function 81 -/
def impl_table_has.f (l0:List Int) (a1:Int) (a2:Int):Option (Bool):=if 0≤a1 then (if a1 < (l0.length:Int) then (if 0≤a2 then (some ((Go.bits .and .u16 (shr .u16 (rd l0 a1) a2) 1) == 1)) else (none)) else (none)) else (none)
set_option maxHeartbeats 8000000 in
set_option maxRecDepth 100000 in
theorem impl_table_has.calls (A0:Option Addr) (c0:Nat) (l0:List Int) (a1:Int) (a2:Int) (r:Bool) (w:World) (hr0:Kd.C (Kd.int .u16) w A0 l0.length l0) (hc0:l0.length≤c0) (h:impl_table_has.f l0 a1 a2=some r) :
  Calls Try.prog 81 #[.slice A0 l0.length c0,.int .i64 a1,.int .i64 a2] w fun e w'=>e=.returned (.bool r)∧Drawn0 w w':=by
 have HR0:=zz31 hr0
 have HC0:=zz31 hc0
 clear hr0 hc0
 have H:(if 0≤a1 then (if a1 < (l0.length:Int) then (if 0≤a2 then (some ((Go.bits .and .u16 (shr .u16 (rd l0 a1) a2) 1) == 1)) else (none)) else (none)) else (none))=some r:=h
 clear h
 by_cases c4:0≤a1
 ·rw [if_pos c4] at H
  have c4b0:decide (0≤a1)=true:=decide_eq_true c4
  clear c4
  by_cases c5:a1 < (l0.length:Int)
  ·rw [if_pos c5] at H
   have c5b0:decide (a1 < (l0.length:Int))=true:=decide_eq_true c5
   clear c5
   by_cases c6:0≤a2
   ·rw [if_pos c6] at H
    have c6b0:=eq_true c6
    have c6b1:decide (0≤a2)=true:=decide_eq_true c6
    clear c6
    obtain ⟨ji7,hji7⟩:∃ j_:Int,(shr .u16 (rd l0 a1) a2)=j_:=⟨_,rfl⟩
    replace H:(some ((Go.bits .and .u16 (ji7) 1) == 1))=some r:=by first | (rw [hji7] at H;exact H) | (simp only [hji7] at H ⊢;exact H)
    have hji7_:((rd l0 a1) / 2 ^ min a2.toNat 16)=ji7:=hji7
    have hji7z:a2≤16→((rd l0 a1) / 2 ^ a2.toNat)=ji7:=shr_small hji7
    obtain rfl:=Option.some.inj H
    have p281:0≤(a1:Int):=zz29 (by first | (with_reducible assumption) | assumption)
    have q281:a1 < (l0.length:Int):=zz29 (by first | (with_reducible assumption) | assumption)
    obtain ⟨ad281,e281,hx281_0⟩:=Kd.at_int HR0.out a1 p281 q281
    cases e281
    replace p281:=eq_true p281
    replace q281:=eq_true q281
    go_enter Try.func81,Try.ntmps81
    go_wp2
    go_ret
    exact ⟨by first | rfl | (simp;done) | (simp only [← hji7] <;> (first | rfl | simp)) | (simp [*];done),by repeat (first | exact Drawn0.refl _ | apply Drawn0.step)⟩
   ·rw [if_neg c6] at H
    exact absurd H (by simp)
  ·rw [if_neg c5] at H
   exact absurd H (by simp)
 ·rw [if_neg c4] at H
  exact absurd H (by simp)

/-! ### impl_table_canExchange: function 55 -/
def impl_table_canExchange.f (l0:List Int) (a1:Int) (a2:Int) (a3:Int) (a4:Int):Option (Bool):=(impl_table_has.f l0 a1 a2).bind fun t282=>(if t282=true then ((impl_table_has.f l0 a3 a4).bind fun t283=>(if t283=true then ((impl_table_has.f l0 a1 a3).bind fun t284=>(if t284=true then (some false) else ((impl_table_has.f l0 a2 a4).bind fun t285=>(if t285=true then (some false) else (if a1=a3 then (some false) else (if a1=a4 then (some false) else (if a2=a3 then (some false) else (some (a2 != a4))))))))) else (some false))) else (some false))
set_option maxHeartbeats 8000000 in
set_option maxRecDepth 100000 in
theorem impl_table_canExchange.calls (A0:Option Addr) (c0:Nat) (l0:List Int) (a1:Int) (a2:Int) (a3:Int) (a4:Int) (r:Bool) (w:World) (hr0:Kd.C (Kd.int .u16) w A0 l0.length l0) (hc0:l0.length≤c0) (h:impl_table_canExchange.f l0 a1 a2 a3 a4=some r) :
  Calls Try.prog 55 #[.slice A0 l0.length c0,.int .i64 a1,.int .i64 a2,.int .i64 a3,.int .i64 a4] w fun e w'=>e=.returned (.bool r)∧Drawn0 w w':=by
 have HR0:=zz31 hr0
 have HC0:=zz31 hc0
 clear hr0 hc0
 have H:((impl_table_has.f l0 a1 a2).bind fun t282=>(if t282=true then ((impl_table_has.f l0 a3 a4).bind fun t283=>(if t283=true then ((impl_table_has.f l0 a1 a3).bind fun t284=>(if t284=true then (some false) else ((impl_table_has.f l0 a2 a4).bind fun t285=>(if t285=true then (some false) else (if a1=a3 then (some false) else (if a1=a4 then (some false) else (if a2=a3 then (some false) else (some (a2 != a4))))))))) else (some false))) else (some false)))=some r:=h
 clear h
 replace H:=zz30.mp H
 obtain ⟨t282,A60,H⟩:=H
 replace H:(if t282=true then ((impl_table_has.f l0 a3 a4).bind fun t283=>(if t283=true then ((impl_table_has.f l0 a1 a3).bind fun t284=>(if t284=true then (some false) else ((impl_table_has.f l0 a2 a4).bind fun t285=>(if t285=true then (some false) else (if a1=a3 then (some false) else (if a1=a4 then (some false) else (if a2=a3 then (some false) else (some (a2 != a4))))))))) else (some false))) else (some false))=some r:=H
 have A6:=zz31 A60
 clear A60
 by_cases c7:t282=true
 ·subst c7
  have H1:((impl_table_has.f l0 a3 a4).bind fun t283=>(if t283=true then ((impl_table_has.f l0 a1 a3).bind fun t284=>(if t284=true then (some false) else ((impl_table_has.f l0 a2 a4).bind fun t285=>(if t285=true then (some false) else (if a1=a3 then (some false) else (if a1=a4 then (some false) else (if a2=a3 then (some false) else (some (a2 != a4))))))))) else (some false)))=some r:=by rw [if_pos rfl] at H;exact H
  clear H
  have H:=H1
  clear H1
  replace H:=zz30.mp H
  obtain ⟨t283,A80,H⟩:=H
  replace H:(if t283=true then ((impl_table_has.f l0 a1 a3).bind fun t284=>(if t284=true then (some false) else ((impl_table_has.f l0 a2 a4).bind fun t285=>(if t285=true then (some false) else (if a1=a3 then (some false) else (if a1=a4 then (some false) else (if a2=a3 then (some false) else (some (a2 != a4))))))))) else (some false))=some r:=H
  have A8:=zz31 A80
  clear A80
  by_cases c9:t283=true
  ·subst c9
   have H1:((impl_table_has.f l0 a1 a3).bind fun t284=>(if t284=true then (some false) else ((impl_table_has.f l0 a2 a4).bind fun t285=>(if t285=true then (some false) else (if a1=a3 then (some false) else (if a1=a4 then (some false) else (if a2=a3 then (some false) else (some (a2 != a4)))))))))=some r:=by rw [if_pos rfl] at H;exact H
   clear H
   have H:=H1
   clear H1
   replace H:=zz30.mp H
   obtain ⟨t284,A100,H⟩:=H
   replace H:(if t284=true then (some false) else ((impl_table_has.f l0 a2 a4).bind fun t285=>(if t285=true then (some false) else (if a1=a3 then (some false) else (if a1=a4 then (some false) else (if a2=a3 then (some false) else (some (a2 != a4))))))))=some r:=H
   have A10:=zz31 A100
   clear A100
   by_cases c11:t284=true
   ·subst c11
    have H1:(some false)=some r:=by rw [if_pos rfl] at H;exact H
    clear H
    have H:=H1
    clear H1
    obtain rfl:=Option.some.inj H
    go_enter Try.func55,Try.ntmps55
    go_wp2_with (first | ((with_reducible refine gate_callee (f:=81) rfl ?_);refine goesL_ (some 14) rfl rfl Try.func81 (by kernel_rfl) rfl #[.slice A0 l0.length c0,.int .i64 a1,.int .i64 a2] rfl (by (try simp only [zz26,zz27,zz28]);first | done | rfl | (simp only [zz24,zz25];rfl)) ?_;(with_reducible refine (impl_table_has.calls _ _ l0 a1 a2 true _ ?side1 ?side2 A6.out).mono ?_);(case side1=>repeat (first | exact HR0.out | (with_reducible refine zz18 ?_ _) | (with_reducible refine zz19 ?_ _) | (with_reducible refine zz20 ?_)));(case side2=>exact HC0.out);rintro e w' ⟨rfl,⟨nd,rfl⟩⟩;refine ⟨_,rfl,?_⟩) | (go_at_call 81;(with_reducible refine (impl_table_has.calls _ _ l0 a3 a4 true _ ?side1 ?side2 A8.out).mono ?_);(case side1=>repeat (first | exact HR0.out | (with_reducible refine zz18 ?_ _) | (with_reducible refine zz19 ?_ _) | (with_reducible refine zz20 ?_)));(case side2=>exact HC0.out);rintro e w' ⟨rfl,⟨nd,rfl⟩⟩) | (go_at_call 81;(with_reducible refine (impl_table_has.calls _ _ l0 a1 a3 true _ ?side1 ?side2 A10.out).mono ?_);(case side1=>repeat (first | exact HR0.out | (with_reducible refine zz18 ?_ _) | (with_reducible refine zz19 ?_ _) | (with_reducible refine zz20 ?_)));(case side2=>exact HC0.out);rintro e w' ⟨rfl,⟨nd,rfl⟩⟩))
    go_ret
    exact ⟨by first | rfl | (simp;done) | (simp [*];done),by repeat (first | exact Drawn0.refl _ | apply Drawn0.step)⟩
   ·replace c11:=Bool.eq_false_iff.mpr c11
    subst c11
    have H1:((impl_table_has.f l0 a2 a4).bind fun t285=>(if t285=true then (some false) else (if a1=a3 then (some false) else (if a1=a4 then (some false) else (if a2=a3 then (some false) else (some (a2 != a4)))))))=some r:=by rw [if_neg (show ¬ (false=true) by decide)] at H;exact H
    clear H
    have H:=H1
    clear H1
    replace H:=zz30.mp H
    obtain ⟨t285,A120,H⟩:=H
    replace H:(if t285=true then (some false) else (if a1=a3 then (some false) else (if a1=a4 then (some false) else (if a2=a3 then (some false) else (some (a2 != a4))))))=some r:=H
    have A12:=zz31 A120
    clear A120
    by_cases c13:t285=true
    ·subst c13
     have H1:(some false)=some r:=by rw [if_pos rfl] at H;exact H
     clear H
     have H:=H1
     clear H1
     obtain rfl:=Option.some.inj H
     go_enter Try.func55,Try.ntmps55
     go_wp2_with (first | ((with_reducible refine gate_callee (f:=81) rfl ?_);refine goesL_ (some 14) rfl rfl Try.func81 (by kernel_rfl) rfl #[.slice A0 l0.length c0,.int .i64 a1,.int .i64 a2] rfl (by (try simp only [zz26,zz27,zz28]);first | done | rfl | (simp only [zz24,zz25];rfl)) ?_;(with_reducible refine (impl_table_has.calls _ _ l0 a1 a2 true _ ?side1 ?side2 A6.out).mono ?_);(case side1=>repeat (first | exact HR0.out | (with_reducible refine zz18 ?_ _) | (with_reducible refine zz19 ?_ _) | (with_reducible refine zz20 ?_)));(case side2=>exact HC0.out);rintro e w' ⟨rfl,⟨nd,rfl⟩⟩;refine ⟨_,rfl,?_⟩) | (go_at_call 81;(with_reducible refine (impl_table_has.calls _ _ l0 a3 a4 true _ ?side1 ?side2 A8.out).mono ?_);(case side1=>repeat (first | exact HR0.out | (with_reducible refine zz18 ?_ _) | (with_reducible refine zz19 ?_ _) | (with_reducible refine zz20 ?_)));(case side2=>exact HC0.out);rintro e w' ⟨rfl,⟨nd,rfl⟩⟩) | (go_at_call 81;(with_reducible refine (impl_table_has.calls _ _ l0 a1 a3 false _ ?side1 ?side2 A10.out).mono ?_);(case side1=>repeat (first | exact HR0.out | (with_reducible refine zz18 ?_ _) | (with_reducible refine zz19 ?_ _) | (with_reducible refine zz20 ?_)));(case side2=>exact HC0.out);rintro e w' ⟨rfl,⟨nd,rfl⟩⟩) | (go_at_call 81;(with_reducible refine (impl_table_has.calls _ _ l0 a2 a4 true _ ?side1 ?side2 A12.out).mono ?_);(case side1=>repeat (first | exact HR0.out | (with_reducible refine zz18 ?_ _) | (with_reducible refine zz19 ?_ _) | (with_reducible refine zz20 ?_)));(case side2=>exact HC0.out);rintro e w' ⟨rfl,⟨nd,rfl⟩⟩))
     go_ret
     exact ⟨by first | rfl | (simp;done) | (simp [*];done),by repeat (first | exact Drawn0.refl _ | apply Drawn0.step)⟩
    ·replace c13:=Bool.eq_false_iff.mpr c13
     subst c13
     have H1:(if a1=a3 then (some false) else (if a1=a4 then (some false) else (if a2=a3 then (some false) else (some (a2 != a4)))))=some r:=by rw [if_neg (show ¬ (false=true) by decide)] at H;exact H
     clear H
     have H:=H1
     clear H1
     by_cases c14:a1=a3
     ·rw [if_pos c14] at H
      have c14b0:(a1 == a3)=true:=beq_iff_eq.mpr c14
      have c14b1:(a1 != a3)=false:=bne_eq_false_iff_eq.mpr c14
      clear c14
      obtain rfl:=Option.some.inj H
      go_enter Try.func55,Try.ntmps55
      go_wp2_with (first | ((with_reducible refine gate_callee (f:=81) rfl ?_);refine goesL_ (some 14) rfl rfl Try.func81 (by kernel_rfl) rfl #[.slice A0 l0.length c0,.int .i64 a1,.int .i64 a2] rfl (by (try simp only [zz26,zz27,zz28]);first | done | rfl | (simp only [zz24,zz25];rfl)) ?_;(with_reducible refine (impl_table_has.calls _ _ l0 a1 a2 true _ ?side1 ?side2 A6.out).mono ?_);(case side1=>repeat (first | exact HR0.out | (with_reducible refine zz18 ?_ _) | (with_reducible refine zz19 ?_ _) | (with_reducible refine zz20 ?_)));(case side2=>exact HC0.out);rintro e w' ⟨rfl,⟨nd,rfl⟩⟩;refine ⟨_,rfl,?_⟩) | (go_at_call 81;(with_reducible refine (impl_table_has.calls _ _ l0 a3 a4 true _ ?side1 ?side2 A8.out).mono ?_);(case side1=>repeat (first | exact HR0.out | (with_reducible refine zz18 ?_ _) | (with_reducible refine zz19 ?_ _) | (with_reducible refine zz20 ?_)));(case side2=>exact HC0.out);rintro e w' ⟨rfl,⟨nd,rfl⟩⟩) | (go_at_call 81;(with_reducible refine (impl_table_has.calls _ _ l0 a1 a3 false _ ?side1 ?side2 A10.out).mono ?_);(case side1=>repeat (first | exact HR0.out | (with_reducible refine zz18 ?_ _) | (with_reducible refine zz19 ?_ _) | (with_reducible refine zz20 ?_)));(case side2=>exact HC0.out);rintro e w' ⟨rfl,⟨nd,rfl⟩⟩) | (go_at_call 81;(with_reducible refine (impl_table_has.calls _ _ l0 a2 a4 false _ ?side1 ?side2 A12.out).mono ?_);(case side1=>repeat (first | exact HR0.out | (with_reducible refine zz18 ?_ _) | (with_reducible refine zz19 ?_ _) | (with_reducible refine zz20 ?_)));(case side2=>exact HC0.out);rintro e w' ⟨rfl,⟨nd,rfl⟩⟩))
      go_ret
      exact ⟨by first | rfl | (simp;done) | (simp [*];done),by repeat (first | exact Drawn0.refl _ | apply Drawn0.step)⟩
     ·rw [if_neg c14] at H
      have c14b0:(a1 == a3)=false:=beq_eq_false_iff_ne.mpr c14
      have c14b1:(a1 != a3)=true:=bne_iff_ne.mpr c14
      by_cases c15:a1=a4
      ·rw [if_pos c15] at H
       have c15b0:(a1 == a4)=true:=beq_iff_eq.mpr c15
       have c15b1:(a1 != a4)=false:=bne_eq_false_iff_eq.mpr c15
       clear c15
       obtain rfl:=Option.some.inj H
       go_enter Try.func55,Try.ntmps55
       go_wp2_with (first | ((with_reducible refine gate_callee (f:=81) rfl ?_);refine goesL_ (some 14) rfl rfl Try.func81 (by kernel_rfl) rfl #[.slice A0 l0.length c0,.int .i64 a1,.int .i64 a2] rfl (by (try simp only [zz26,zz27,zz28]);first | done | rfl | (simp only [zz24,zz25];rfl)) ?_;(with_reducible refine (impl_table_has.calls _ _ l0 a1 a2 true _ ?side1 ?side2 A6.out).mono ?_);(case side1=>repeat (first | exact HR0.out | (with_reducible refine zz18 ?_ _) | (with_reducible refine zz19 ?_ _) | (with_reducible refine zz20 ?_)));(case side2=>exact HC0.out);rintro e w' ⟨rfl,⟨nd,rfl⟩⟩;refine ⟨_,rfl,?_⟩) | (go_at_call 81;(with_reducible refine (impl_table_has.calls _ _ l0 a3 a4 true _ ?side1 ?side2 A8.out).mono ?_);(case side1=>repeat (first | exact HR0.out | (with_reducible refine zz18 ?_ _) | (with_reducible refine zz19 ?_ _) | (with_reducible refine zz20 ?_)));(case side2=>exact HC0.out);rintro e w' ⟨rfl,⟨nd,rfl⟩⟩) | (go_at_call 81;(with_reducible refine (impl_table_has.calls _ _ l0 a1 a3 false _ ?side1 ?side2 A10.out).mono ?_);(case side1=>repeat (first | exact HR0.out | (with_reducible refine zz18 ?_ _) | (with_reducible refine zz19 ?_ _) | (with_reducible refine zz20 ?_)));(case side2=>exact HC0.out);rintro e w' ⟨rfl,⟨nd,rfl⟩⟩) | (go_at_call 81;(with_reducible refine (impl_table_has.calls _ _ l0 a2 a4 false _ ?side1 ?side2 A12.out).mono ?_);(case side1=>repeat (first | exact HR0.out | (with_reducible refine zz18 ?_ _) | (with_reducible refine zz19 ?_ _) | (with_reducible refine zz20 ?_)));(case side2=>exact HC0.out);rintro e w' ⟨rfl,⟨nd,rfl⟩⟩))
       go_ret
       exact ⟨by first | rfl | (simp;done) | (simp [*];done),by repeat (first | exact Drawn0.refl _ | apply Drawn0.step)⟩
      ·rw [if_neg c15] at H
       have c15b0:(a1 == a4)=false:=beq_eq_false_iff_ne.mpr c15
       have c15b1:(a1 != a4)=true:=bne_iff_ne.mpr c15
       by_cases c16:a2=a3
       ·rw [if_pos c16] at H
        have c16b0:(a2 == a3)=true:=beq_iff_eq.mpr c16
        have c16b1:(a2 != a3)=false:=bne_eq_false_iff_eq.mpr c16
        clear c16
        obtain rfl:=Option.some.inj H
        go_enter Try.func55,Try.ntmps55
        go_wp2_with (first | ((with_reducible refine gate_callee (f:=81) rfl ?_);refine goesL_ (some 14) rfl rfl Try.func81 (by kernel_rfl) rfl #[.slice A0 l0.length c0,.int .i64 a1,.int .i64 a2] rfl (by (try simp only [zz26,zz27,zz28]);first | done | rfl | (simp only [zz24,zz25];rfl)) ?_;(with_reducible refine (impl_table_has.calls _ _ l0 a1 a2 true _ ?side1 ?side2 A6.out).mono ?_);(case side1=>repeat (first | exact HR0.out | (with_reducible refine zz18 ?_ _) | (with_reducible refine zz19 ?_ _) | (with_reducible refine zz20 ?_)));(case side2=>exact HC0.out);rintro e w' ⟨rfl,⟨nd,rfl⟩⟩;refine ⟨_,rfl,?_⟩) | (go_at_call 81;(with_reducible refine (impl_table_has.calls _ _ l0 a3 a4 true _ ?side1 ?side2 A8.out).mono ?_);(case side1=>repeat (first | exact HR0.out | (with_reducible refine zz18 ?_ _) | (with_reducible refine zz19 ?_ _) | (with_reducible refine zz20 ?_)));(case side2=>exact HC0.out);rintro e w' ⟨rfl,⟨nd,rfl⟩⟩) | (go_at_call 81;(with_reducible refine (impl_table_has.calls _ _ l0 a1 a3 false _ ?side1 ?side2 A10.out).mono ?_);(case side1=>repeat (first | exact HR0.out | (with_reducible refine zz18 ?_ _) | (with_reducible refine zz19 ?_ _) | (with_reducible refine zz20 ?_)));(case side2=>exact HC0.out);rintro e w' ⟨rfl,⟨nd,rfl⟩⟩) | (go_at_call 81;(with_reducible refine (impl_table_has.calls _ _ l0 a2 a4 false _ ?side1 ?side2 A12.out).mono ?_);(case side1=>repeat (first | exact HR0.out | (with_reducible refine zz18 ?_ _) | (with_reducible refine zz19 ?_ _) | (with_reducible refine zz20 ?_)));(case side2=>exact HC0.out);rintro e w' ⟨rfl,⟨nd,rfl⟩⟩))
        go_ret
        exact ⟨by first | rfl | (simp;done) | (simp [*];done),by repeat (first | exact Drawn0.refl _ | apply Drawn0.step)⟩
       ·rw [if_neg c16] at H
        have c16b0:(a2 == a3)=false:=beq_eq_false_iff_ne.mpr c16
        have c16b1:(a2 != a3)=true:=bne_iff_ne.mpr c16
        obtain rfl:=Option.some.inj H
        go_enter Try.func55,Try.ntmps55
        go_wp2_with (first | ((with_reducible refine gate_callee (f:=81) rfl ?_);refine goesL_ (some 14) rfl rfl Try.func81 (by kernel_rfl) rfl #[.slice A0 l0.length c0,.int .i64 a1,.int .i64 a2] rfl (by (try simp only [zz26,zz27,zz28]);first | done | rfl | (simp only [zz24,zz25];rfl)) ?_;(with_reducible refine (impl_table_has.calls _ _ l0 a1 a2 true _ ?side1 ?side2 A6.out).mono ?_);(case side1=>repeat (first | exact HR0.out | (with_reducible refine zz18 ?_ _) | (with_reducible refine zz19 ?_ _) | (with_reducible refine zz20 ?_)));(case side2=>exact HC0.out);rintro e w' ⟨rfl,⟨nd,rfl⟩⟩;refine ⟨_,rfl,?_⟩) | (go_at_call 81;(with_reducible refine (impl_table_has.calls _ _ l0 a3 a4 true _ ?side1 ?side2 A8.out).mono ?_);(case side1=>repeat (first | exact HR0.out | (with_reducible refine zz18 ?_ _) | (with_reducible refine zz19 ?_ _) | (with_reducible refine zz20 ?_)));(case side2=>exact HC0.out);rintro e w' ⟨rfl,⟨nd,rfl⟩⟩) | (go_at_call 81;(with_reducible refine (impl_table_has.calls _ _ l0 a1 a3 false _ ?side1 ?side2 A10.out).mono ?_);(case side1=>repeat (first | exact HR0.out | (with_reducible refine zz18 ?_ _) | (with_reducible refine zz19 ?_ _) | (with_reducible refine zz20 ?_)));(case side2=>exact HC0.out);rintro e w' ⟨rfl,⟨nd,rfl⟩⟩) | (go_at_call 81;(with_reducible refine (impl_table_has.calls _ _ l0 a2 a4 false _ ?side1 ?side2 A12.out).mono ?_);(case side1=>repeat (first | exact HR0.out | (with_reducible refine zz18 ?_ _) | (with_reducible refine zz19 ?_ _) | (with_reducible refine zz20 ?_)));(case side2=>exact HC0.out);rintro e w' ⟨rfl,⟨nd,rfl⟩⟩))
        go_ret
        exact ⟨by first | rfl | (simp;done) | (simp [*];done),by repeat (first | exact Drawn0.refl _ | apply Drawn0.step)⟩
  ·replace c9:=Bool.eq_false_iff.mpr c9
   subst c9
   have H1:(some false)=some r:=by rw [if_neg (show ¬ (false=true) by decide)] at H;exact H
   clear H
   have H:=H1
   clear H1
   obtain rfl:=Option.some.inj H
   go_enter Try.func55,Try.ntmps55
   go_wp2_with (first | ((with_reducible refine gate_callee (f:=81) rfl ?_);refine goesL_ (some 14) rfl rfl Try.func81 (by kernel_rfl) rfl #[.slice A0 l0.length c0,.int .i64 a1,.int .i64 a2] rfl (by (try simp only [zz26,zz27,zz28]);first | done | rfl | (simp only [zz24,zz25];rfl)) ?_;(with_reducible refine (impl_table_has.calls _ _ l0 a1 a2 true _ ?side1 ?side2 A6.out).mono ?_);(case side1=>repeat (first | exact HR0.out | (with_reducible refine zz18 ?_ _) | (with_reducible refine zz19 ?_ _) | (with_reducible refine zz20 ?_)));(case side2=>exact HC0.out);rintro e w' ⟨rfl,⟨nd,rfl⟩⟩;refine ⟨_,rfl,?_⟩) | (go_at_call 81;(with_reducible refine (impl_table_has.calls _ _ l0 a3 a4 false _ ?side1 ?side2 A8.out).mono ?_);(case side1=>repeat (first | exact HR0.out | (with_reducible refine zz18 ?_ _) | (with_reducible refine zz19 ?_ _) | (with_reducible refine zz20 ?_)));(case side2=>exact HC0.out);rintro e w' ⟨rfl,⟨nd,rfl⟩⟩))
   go_ret
   exact ⟨by first | rfl | (simp;done) | (simp [*];done),by repeat (first | exact Drawn0.refl _ | apply Drawn0.step)⟩
 ·replace c7:=Bool.eq_false_iff.mpr c7
  subst c7
  have H1:(some false)=some r:=by rw [if_neg (show ¬ (false=true) by decide)] at H;exact H
  clear H
  have H:=H1
  clear H1
  obtain rfl:=Option.some.inj H
  go_enter Try.func55,Try.ntmps55
  go_wp2_with (first | ((with_reducible refine gate_callee (f:=81) rfl ?_);refine goesL_ (some 14) rfl rfl Try.func81 (by kernel_rfl) rfl #[.slice A0 l0.length c0,.int .i64 a1,.int .i64 a2] rfl (by (try simp only [zz26,zz27,zz28]);first | done | rfl | (simp only [zz24,zz25];rfl)) ?_;(with_reducible refine (impl_table_has.calls _ _ l0 a1 a2 false _ ?side1 ?side2 A6.out).mono ?_);(case side1=>repeat (first | exact HR0.out | (with_reducible refine zz18 ?_ _) | (with_reducible refine zz19 ?_ _) | (with_reducible refine zz20 ?_)));(case side2=>exact HC0.out);rintro e w' ⟨rfl,⟨nd,rfl⟩⟩;refine ⟨_,rfl,?_⟩))
  go_ret
  exact ⟨by first | rfl | (simp;done) | (simp [*];done),by repeat (first | exact Drawn0.refl _ | apply Drawn0.step)⟩

/-! ### impl_table_uint16: function 82 (a contract of our own) -/
def impl_table_uint16.f (l0:List Int):Option (List Int):=if l0.length≤1000000000 then some l0 else none
set_option maxHeartbeats 1000000 in
set_option maxRecDepth 100000 in
theorem impl_table_uint16.calls (A0:Option Addr) (c0:Nat) (l0:List Int) (r:List Int) (w:World) (hr0:Kd.C (Kd.int .u16) w A0 l0.length l0) (hc0:l0.length≤c0) (h:impl_table_uint16.f l0=some r) :
  Calls Try.prog 82 #[.slice A0 l0.length c0] w fun e w'=>∃ v0_:Value,e=.returned (v0_)∧Kd.R (Kd.int .u16) 100 w' w.heap.size (fun _=>True) v0_ r∧Below w.heap.size w w':=by
 unfold impl_table_uint16.f at h
 by_cases hb:l0.length≤1000000000
 case neg=>rw [if_neg hb] at h;exact absurd h (by simp)
 rw [if_pos hb] at h
 obtain rfl:=Option.some.inj h
 clear h
 have HR:=zz31 hr0
 have HBIG:=zz31 hb
 clear hb hc0
 cases A0 with
 | none =>
  have h0:l0=[]:=by
   rcases Nat.eq_zero_or_pos l0.length with hz | hz
   ·exact List.eq_nil_of_length_eq_zero hz
   ·obtain ⟨ad,e,_⟩:=hr0.2.2 hz
    cases e
  subst h0
  clear hr0
  have heq:∀ W:World,(binOp .eql 74 (.slice none 0 c0) (.slice none 0 0)).run Try.prog W=.ok (.bool true) W:=fun W=>Lib.run_eql_slice_nil_nil W 0 c0 Try.underlying74
  go_enter Try.func82,Try.ntmps82
  go_wp2
  go_ret
  exact ⟨_,rfl,Kd.R_nil _ _ _ _ _,Below.refl _ _⟩
 | some ad =>
  clear hr0
  have heq:∀ W:World,(binOp .eql 74 (.slice (some ad) l0.length c0) (.slice none 0 0)).run Try.prog W=.ok (.bool false) W:=fun W=>Lib.run_eql_slice_some_nil W ad l0.length c0 Try.underlying74
  go_enter Try.func82,Try.ntmps82
  go_wp2_with (first | ((with_reducible refine gate_dst (N:=5) rfl ?_);refine Kd.R_lit (Kd.int .u16) (w0:=w) w.heap.size 100 ?hg (N:=5) ?hd (xs:=([]:List Int)) (inner:=[]) (ok:=fun _=>True) (okp:=fun _=>True) ?hr ?hp (fun _ hk=>hk) trivial (Below.refl _ _) (Nat.le_refl _) (by simp) ?_;(case hd=>rfl);(case hg=>rfl);(case hr=>first | (go_simp;done) | (go_simp;rfl));(case hp=>exact (Reps.none _ _));intro v3 w3 ho hb hg_ hnew_;clear hg_ hnew_;have HO:=zz31 ho;have HB:=zz31 hb;clear ho hb) | ((with_reducible refine gate_dst (N:=7) rfl ?_);refine Kd.R_append_rows (Kd.int .u16) (w0:=w) w.heap.size rfl (.tmp 5) (.tmp 6) 74 100 (.int .u16 0) 2 rfl Try.underlying74 info100 rfl (by decide) (by omega) v3 [] l0 _ _ _ (fun _=>True) (fun _=>False) rfl rfl HO.out (Kd.C_below HR.out HB.out) ?aR (fun _ h=>h.elim) (fun _ _=>trivial) HB.out HB.out.size ?aL ?_;(case aR=>exact (fun _ _ h=>h));(case aL=>(have:=HBIG.out;simp;omega));intro v4 w4 ho4 hb4 hg4 hn4;clear hg4 hn4;have HO4:=zz31 ho4;have HB4:=zz31 hb4;clear ho4 hb4))
  go_ret
  exact ⟨_,rfl,by simpa using HO4.out,HB4.out⟩

end Go.Proofs.Ytoedkkoafidalaa.P
