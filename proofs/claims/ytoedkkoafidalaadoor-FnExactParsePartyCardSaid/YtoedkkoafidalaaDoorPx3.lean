-- PRINTED by print.py (a twelfth state) out of the translation. Not trusted: Lean checks it.
import Derived.Test.YtoedkkoafidalaaDoorPx0
import Derived.Test.YtoedkkoafidalaaDoorPx2
namespace Go.Proofs.YtoedkkoafidalaaDoor.P
open Go.RowKit Go.Proofs.YtoedkkoafidalaaDoorW.PrintWords Go.Proofs.YtoedkkoafidalaaDoorW.PrintLast Go.Proofs.YtoedkkoafidalaaDoorW.PrintMore
open Bool renaming true → T, false → F
attribute [local go_sem] max2_int min2_int max_two min_two max_three min_three max_four min_four   -- for this text's walks alone
set_option linter.unusedVariables false
set_option linter.unusedSimpArgs false

/-! ### impl_IsParty: function 18 -/
def impl_IsParty.l0:Nat→List (S50)→Int→Int→Int→List (S50)→Option (Bool)
 | 0,_,_,_,_,_=>none
 | k+1,x6,x7,x8,x171000,x171001=>if x8 < x7 then (if 0≤x8 then (if x8 < (x6.length:Int) then (if ((rd_T50 x6 x8).f0) < 0 then (some false) else (if ((rd_T50 x6 x8).f0) ≥ ((rd_T50 x6 x8).f1) then (some false) else (if ((rd_T50 x6 x8).f1) ≥ x171000 then (some false) else (if x8 > 0 then (if 0≤(wrap64 (x8 - 1)) then (if (wrap64 (x8 - 1)) < (x171001.length:Int) then ((impl_comparePairs.f k ((rd_T50 x171001 (wrap64 (x8 - 1))).f0) ((rd_T50 x171001 (wrap64 (x8 - 1))).f1) ((rd_T50 x6 x8).f0) ((rd_T50 x6 x8).f1)).bind fun t174=>(if t174 ≥ 0 then (some false) else (impl_IsParty.l0 k x6 x7 (wrap64 (x8+1)) x171000 x171001))) else (none)) else (none)) else (impl_IsParty.l0 k x6 x7 (wrap64 (x8+1)) x171000 x171001))))) else (none)) else (none)) else ((impl_areCrowd.f x171000).bind fun t175=>(some t175))
def impl_IsParty.f (k:Nat) (a0_0:Int) (l0_1:List (S50)):Option (Bool):=impl_IsParty.l0 k l0_1 (l0_1.length:Int) 0 a0_0 l0_1
theorem impl_IsParty.mono_l:∀ k,(∀ y0 y1 y2 y3 y4,LeO (impl_IsParty.l0 k y0 y1 y2 y3 y4) (impl_IsParty.l0 (k+1) y0 y1 y2 y3 y4))
 | 0=>fun _ _ _ _ _ r h=>by simp [impl_IsParty.l0] at h
 | k+1=>by
  have ih0:=impl_IsParty.mono_l k
  ·intro y0 y1 y2 y3 y4
   unfold impl_IsParty.l0
   repeat' first
   | (with_reducible exact ih0 _ _ _ _ _)
   | (with_reducible exact impl_comparePairs.mono _ _ _ _ _)
   | (with_reducible exact LeO.refl _)
   | (with_reducible exact LeO.none _)
   | (with_reducible refine LeO.ite ?_ ?_)
   | (with_reducible refine LeO.bind ?_ (fun _=>?_))
   | exact ih0 _ _ _ _ _
   | exact impl_comparePairs.mono _ _ _ _ _
   | exact LeO.none _
   | refine LeO.ite ?_ ?_
   | refine LeO.bind ?_ (fun _=>?_)
theorem impl_IsParty.mono:∀ a0 a1 k,LeO (impl_IsParty.f k a0 a1) (impl_IsParty.f (k+1) a0 a1):=by
 intro a0 a1 k
 have ih0:=impl_IsParty.mono_l k
 unfold impl_IsParty.f
 repeat' first
   | (with_reducible exact ih0 _ _ _ _ _)
   | (with_reducible exact impl_comparePairs.mono _ _ _ _ _)
   | (with_reducible exact LeO.refl _)
   | (with_reducible exact LeO.none _)
   | (with_reducible refine LeO.ite ?_ ?_)
   | (with_reducible refine LeO.bind ?_ (fun _=>?_))
   | exact ih0 _ _ _ _ _
   | exact impl_comparePairs.mono _ _ _ _ _
   | exact LeO.none _
   | refine LeO.ite ?_ ?_
   | refine LeO.bind ?_ (fun _=>?_)
def impl_IsParty.T4:Bool × List (List Nat × List Nat):=(true,[([],[]),([0],[0]),([1],[1]),([2],[2]),([3],[3]),([4,3],[3,4]),([3],[3]),([6,3],[3,6]),([5,7,3],[3,5,7]),([3,8],[3,8]),([9,3],[9]),([10],[10]),([11,10],[10,11]),([10],[10]),([13,10],[10,13]),([12,14,10],[10,12,14]),([10,15],[10,15]),([16,10],[16]),([17],[17]),([18,17],[17,18]),([19,17,17],[17,19]),([20],[20]),([21,20],[20,21]),([20],[20]),([23,20],[20,23]),([22,24,20],[20,22,24]),([25,20],[20,25]),([20],[20]),([26,27,20,20],[20,26,27]),([28,20],[20,28]),([20,29,17],[17,20,29]),([17,30],[17,30])])
def impl_IsParty.B4:List Nat:=[0,1,3,7,15,31,15,79,255,511,1023,2047,4095,2047,10239,32767,65535,131071,262143,524287,1048575,2097151,4194303,2097151,10485759,33554431,67108863,2097151,268435455,536870911,1073741823,2147483647]
theorem impl_IsParty.tab4:rtab .any (opsOf Tryd.f18 4)=impl_IsParty.T4:=by kernel_rfl
theorem impl_IsParty.bits4:waitsOk impl_IsParty.T4.2 impl_IsParty.B4=true:=by kernel_rfl
set_option maxHeartbeats 8000000 in
set_option maxRecDepth 100000 in
theorem impl_IsParty.calls (k:Nat) (a0_0:Int) (A0_1:Option Addr) (c0_1:Nat) (l0_1:List (S50)) (r:Bool) (w:World) (hr0_1:Kd.C k50 w A0_1 l0_1.length l0_1) (hc0_1:l0_1.length≤c0_1) (h:impl_IsParty.f k a0_0 l0_1=some r) :
  Calls Tryd.prog 18 #[.agg #[.int .i64 a0_0,.slice A0_1 l0_1.length c0_1]] w fun e w'=>e=.returned (.bool r)∧Below w.heap.size w w':=by
 have hu30:=Tryd.underlying30
 have hu50:=Tryd.underlying50
 have HR0_1:=zz31 hr0_1
 have HC0_1:=zz31 hc0_1
 clear hr0_1 hc0_1
 have HB:=zz31 (Below.refl w.heap.size w)
 have H:(impl_IsParty.l0 k l0_1 (l0_1.length:Int) 0 a0_0 l0_1)=some r:=h
 clear h
 have H':=zz31 H
 clear H
 go_enter Tryd.func18,Tryd.ntmps18
 go_wp2_with (first | ((with_reducible refine gate_dst (N:=1) rfl ?_);refine box_event ?hg (N:=1) ?hd (cs:=#[.int .i64 a0_0,.slice A0_1 l0_1.length c0_1]) (t:=30) ?hr ?_;(case hd=>rfl);(case hg=>rfl);(case hr=>first | (go_simp;done) | (go_simp;rfl));intro gb170 hg w2 hbox hb;have n0_:=zz31 (zz4 (by repeat first | exact HB.out | apply zz2 | apply zz0 | apply zz1) hb);have n1_:=zz31 (hbox);have n2_:=zz31 ((by rw [hg];exact (zz5 (by repeat first | exact HB.out | apply zz2 | apply zz0 | apply zz1)):w.heap.size≤gb170));have n3_:=zz31 ((by rw [hg];exact (zz5 (by repeat first | exact HB.out | apply zz2 | apply zz0 | apply zz1)):w.heap.size≤gb170));clear HB;have HB:=n0_;have BK170:=n1_;have GW170:=n2_;have GE170:=n3_;clear n0_ n1_ n2_ n3_;clear hb hbox hg;have hcz3_0:w2.cell? ⟨gb170,0,none⟩=some (.int .i64 a0_0):=(zz9 BK170.out 0).trans rfl;have hcz3_1:w2.cell? ⟨gb170,1,none⟩=some (.slice A0_1 l0_1.length c0_1):=(zz9 BK170.out 1).trans rfl;have hfz3_0:=zz10 BK170.out 0;have hfz3_1:=zz10 BK170.out 1))
 go_loopg [8] k (fun kq v8 w'=>∃ (x8_1:Int),v8=.int .i64 x8_1∧Aside0 (impl_IsParty.l0 kq l0_1 (l0_1.length:Int) x8_1 a0_0 l0_1=some r)∧Aside0 (kq≤k)∧Aside0 (w'.heap[gb170]?=some (.cells #[.int .i64 a0_0,(.slice A0_1 l0_1.length c0_1)] 30 (0,0)))∧Aside0 (Below w.heap.size w w'))
 case atStart=>exact ⟨(0),(by first | rfl | (simp;done) | (simp [*];done)),H',⟨Nat.le_refl _⟩,⟨by (with_reducible repeat (first | refine zz6 ?_ _ | refine zz7 ?_ | refine zz8 ?_ _));exact BK170.out⟩,⟨by repeat first | exact HB.out | apply zz2 | apply zz0 | apply zz1 | refine zz3 ?_ GE170.out⟩⟩
 case round =>
  clear H'
  try clear c1
  try clear p2
  try clear hcz3_0
  try clear hcz3_1
  try clear hfz3_0
  try clear hfz3_1
  obtain ⟨x8_1,rfl,HA,HK1,BK170,HB⟩:=hrel
  cases gk with
  | zero=>exact absurd HA.out (by simp [impl_IsParty.l0])
  | succ k1 =>
   have H:=HA.out
   clear HA
   simp only [impl_IsParty.l0] at H
   by_cases c4:x8_1 < (l0_1.length:Int)
   ·rw [if_pos c4] at H
    have c4b0:decide (x8_1 < (l0_1.length:Int))=true:=decide_eq_true c4
    clear c4
    by_cases c5:0≤x8_1
    ·rw [if_pos c5] at H
     have c5b0:decide (0≤x8_1)=true:=decide_eq_true c5
     clear c5
     by_cases c6:x8_1 < (l0_1.length:Int)
     ·rw [if_pos c6] at H
      have c6b0:decide (x8_1 < (l0_1.length:Int))=true:=decide_eq_true c6
      clear c6
      by_cases c7:((rd_T50 l0_1 x8_1).f0) < 0
      ·rw [if_pos c7] at H
       have c7b0:decide (((rd_T50 l0_1 x8_1).f0) < 0)=true:=decide_eq_true c7
       clear c7
       obtain rfl:=Option.some.inj H
       have p171:0≤(x8_1:Int):=zz29 (by first | (with_reducible assumption) | assumption)
       have q171:x8_1 < (l0_1.length:Int):=zz29 (by first | (with_reducible assumption) | assumption)
       obtain ⟨ad171,e171,hx171_0,hx171_1⟩:=at_T50 HR0_1.out x8_1 p171 q171
       cases e171
       try replace hx171_0:=(HB.out.cell (World.block_lt_of_cell? w _ hx171_0)).trans hx171_0
       try replace hx171_1:=(HB.out.cell (World.block_lt_of_cell? w _ hx171_1)).trans hx171_1
       replace p171:=eq_true p171
       replace q171:=eq_true q171
       try go_wp2_with (first | ((with_reducible refine gate_dst (N:=4) rfl ?_);refine box_event ?hg (N:=4) ?hd (cs:=#[.int .i64 0,.int .i64 0]) (t:=50) ?hr ?_;(case hd=>rfl);(case hg=>rfl);(case hr=>first | (go_simp;done) | (go_simp;rfl));intro gb172 hg w8 hbox hb;have n0_:=zz31 (zz11 (g:=gb170) (o:=.cells #[.int .i64 a0_0,.slice (some ad171) l0_1.length c0_1] 30 (0,0)) (by (with_reducible repeat (first | refine zz6 ?_ _ | refine zz7 ?_ | refine zz8 ?_ _));exact BK170.out) hb);have n1_:=zz31 (zz4 (by repeat first | exact HB.out | apply zz2 | apply zz0 | apply zz1 | refine zz3 ?_ GE170.out) hb);have n2_:=zz31 (hbox);have n3_:=zz31 ((by rw [hg];exact (zz5 (by repeat first | exact HB.out | apply zz2 | apply zz0 | apply zz1 | refine zz3 ?_ GE170.out)):w.heap.size≤gb172));have n4_:=zz31 ((by rw [hg];exact (zz5 (by repeat first | exact HB.out | apply zz2 | apply zz0 | apply zz1 | refine zz3 ?_ GE170.out)):w.heap.size≤gb172));have n5_:=zz31 ((by rw [hg];exact Nat.ne_of_lt (blk_lt (g:=gb170) (o:=.cells #[.int .i64 a0_0,.slice (some ad171) l0_1.length c0_1] 30 (0,0)) (by (with_reducible repeat (first | refine zz6 ?_ _ | refine zz7 ?_ | refine zz8 ?_ _));exact BK170.out)):gb170 ≠ gb172));have n6_:=zz31 ((by rw [hg];exact Nat.ne_of_gt (blk_lt (g:=gb170) (o:=.cells #[.int .i64 a0_0,.slice (some ad171) l0_1.length c0_1] 30 (0,0)) (by (with_reducible repeat (first | refine zz6 ?_ _ | refine zz7 ?_ | refine zz8 ?_ _));exact BK170.out)):gb172 ≠ gb170));clear BK170;clear HB;have BK170:=n0_;have HB:=n1_;have BK172:=n2_;have GW172:=n3_;have GE172:=n4_;have NB170_172:=n5_;have NB172_170:=n6_;clear n0_ n1_ n2_ n3_ n4_ n5_ n6_;clear hb hbox hg;have hnb9:=NB172_170.out;have hnc9:=NB170_172.out;have hcz10_0:w8.cell? ⟨gb172,0,none⟩=some (.int .i64 0):=(zz9 BK172.out 0).trans rfl;have hcz10_1:w8.cell? ⟨gb172,1,none⟩=some (.int .i64 0):=(zz9 BK172.out 1).trans rfl;have hfz10_0:=zz10 BK172.out 0;have hfz10_1:=zz10 BK172.out 1))
       have n0_:Aside0 (((w8.setCell ⟨gb172,0,none⟩ (.int .i64 ((rd_T50 l0_1 x8_1).f0))).setCell ⟨gb172,1,none⟩ (.int .i64 ((rd_T50 l0_1 x8_1).f1))).heap[gb170]?=some (.cells #[.int .i64 a0_0,.slice (some ad171) l0_1.length c0_1] 30 (0,0))):=⟨by (with_reducible repeat (first | refine zz6 ?_ _ | refine zz7 ?_ | refine zz8 ?_ _));refine blk_far ?_ NB170_172.out _;(with_reducible repeat (first | refine zz6 ?_ _ | refine zz7 ?_ | refine zz8 ?_ _));refine blk_far ?_ NB170_172.out _;(with_reducible repeat (first | refine zz6 ?_ _ | refine zz7 ?_ | refine zz8 ?_ _));exact BK170.out⟩
       have n1_:Aside0 (((w8.setCell ⟨gb172,0,none⟩ (.int .i64 ((rd_T50 l0_1 x8_1).f0))).setCell ⟨gb172,1,none⟩ (.int .i64 ((rd_T50 l0_1 x8_1).f1))).heap[gb172]?=some (.cells #[.int .i64 ((rd_T50 l0_1 x8_1).f0),.int .i64 ((rd_T50 l0_1 x8_1).f1)] 50 (0,0))):=⟨by (with_reducible repeat (first | refine zz6 ?_ _ | refine zz7 ?_ | refine zz8 ?_ _));refine blk_put (cs:=#[.int .i64 ((rd_T50 l0_1 x8_1).f0),.int .i64 0]) ?_ 1 _ rfl;(with_reducible repeat (first | refine zz6 ?_ _ | refine zz7 ?_ | refine zz8 ?_ _));refine blk_put (cs:=#[.int .i64 0,.int .i64 0]) ?_ 0 _ rfl;(with_reducible repeat (first | refine zz6 ?_ _ | refine zz7 ?_ | refine zz8 ?_ _));exact BK172.out⟩
       have n2_:Aside0 (Below w.heap.size w ((w8.setCell ⟨gb172,0,none⟩ (.int .i64 ((rd_T50 l0_1 x8_1).f0))).setCell ⟨gb172,1,none⟩ (.int .i64 ((rd_T50 l0_1 x8_1).f1)))):=⟨by repeat first | exact HB.out | apply zz2 | apply zz0 | apply zz1 | refine zz3 ?_ GE170.out | refine zz3 ?_ GE172.out⟩
       (try clear BK170)
       (try clear BK172)
       (try clear HB)
       generalize ((w8.setCell ⟨gb172,0,none⟩ (.int .i64 ((rd_T50 l0_1 x8_1).f0))).setCell ⟨gb172,1,none⟩ (.int .i64 ((rd_T50 l0_1 x8_1).f1)))=w11 at n0_ n1_ n2_ ⊢
       have BK170:=n0_
       have BK172:=n1_
       have HB:=n2_
       clear n0_ n1_ n2_
       have n0_:=zz31 (zz7 BK170.out)
       have n1_:=zz31 (zz7 BK172.out)
       have n2_:=zz31 (zz1 HB.out)
       clear BK170
       clear BK172
       clear HB
       have BK170:=n0_
       have BK172:=n1_
       have HB:=n2_
       clear n0_ n1_ n2_
       refine start_ (n:=32) (S:=fun w'=>w'.cell? ⟨gb172,0,none⟩=some (.int .i64 ((rd_T50 l0_1 x8_1).f0))∧w'.cell? ⟨gb172,1,none⟩=some (.int .i64 ((rd_T50 l0_1 x8_1).f1))) (ds:=[]) #[F,F,F,F,F,F,F,F,F,F,F,F,F,F,F,F,F,F,F,F,F,F,F,F,F,F,F,F,F,F,F,F] (by kernel_rfl) rfl rfl ⟨(zz9 BK172.out 0).trans rfl,(zz9 BK172.out 1).trans rfl⟩ (fun hHeld=>?_);refine with_tabW impl_IsParty.tab4 impl_IsParty.bits4 (fun HT_ HW_=>?_)
       generalize w11.drew=w12 at BK170 BK172 HB hHeld ⊢
       refine pure_ (i:=0) (N:=some 13) (v:=?_) (a':=?_) #[T,F,F,F,F,F,F,F,F,F,F,F,F,F,F,F,F,F,F,F,F,F,F,F,F,F,F,F,F,F,F,F] rfl rfl (any_of HT_.out (by kernel_rfl)) (fun _ _ _ h=>h) (Or.inl ⟨by rfl,?_⟩) ?_ ?_
       rotate_left
       ·intro w'
        go_simp
        with_reducible rfl
       rotate_left
       ·simp only [Act.put,zz21,zz22,zz23,i64_w,i32_w]
        rfl
       refine take_ (i:=1) (N:=some 14) (v:=?_) (a':=?_) #[T,T,F,F,F,F,F,F,F,F,F,F,F,F,F,F,F,F,F,F,F,F,F,F,F,F,F,F,F,F,F,F] rfl rfl (take_ofW HT_.out HW_.out (by kernel_rfl)) (fun _ _ _ h=>h) (Or.inl ⟨by rfl,?_⟩) hHeld ?_ ?_
       rotate_left
       ·rintro w' ⟨s0,s1⟩
        go_simp
        with_reducible rfl
       rotate_left
       ·simp only [Act.put,zz21,zz22,zz23,i64_w,i32_w]
        rfl
       refine pure_ (i:=2) (N:=some 15) (v:=?_) (a':=?_) #[T,T,T,F,F,F,F,F,F,F,F,F,F,F,F,F,F,F,F,F,F,F,F,F,F,F,F,F,F,F,F,F] rfl rfl (any_of HT_.out (by kernel_rfl)) (fun _ _ _ h=>h) (Or.inl ⟨by rfl,?_⟩) ?_ ?_
       rotate_left
       ·intro w'
        go_simp
        with_reducible rfl
       rotate_left
       ·simp only [Act.put,zz21,zz22,zz23,i64_w,i32_w]
        rfl
       refine pure_ (i:=3) (N:=some 16) (v:=?_) (a':=?_) #[T,T,T,T,F,F,F,F,F,F,F,F,F,F,F,F,F,F,F,F,F,F,F,F,F,F,F,F,F,F,F,F] rfl rfl (any_of HT_.out (by kernel_rfl)) (fun _ _ _ h=>h) (Or.inl ⟨by rfl,?_⟩) ?_ ?_
       rotate_left
       ·intro w'
        go_simp
        with_reducible rfl
       rotate_left
       ·simp only [Act.put,zz21,zz22,zz23,i64_w,i32_w]
        rfl
       refine pure_ (i:=4) (N:=some 17) (v:=undef) (a':=?_) #[T,T,T,T,T,F,F,F,F,F,F,F,F,F,F,F,F,F,F,F,F,F,F,F,F,F,F,F,F,F,F,F] rfl rfl (any_of HT_.out (by kernel_rfl)) (fun _ _ _ h=>h) (Or.inr ⟨by rfl,rfl⟩) ?_ ?_
       rotate_left
       ·simp only [Act.put,zz21,zz22,zz23,i64_w,i32_w]
        rfl
       refine pure_ (i:=5) (N:=some 18) (v:=undef) (a':=?_) #[T,T,T,T,T,T,F,F,F,F,F,F,F,F,F,F,F,F,F,F,F,F,F,F,F,F,F,F,F,F,F,F] rfl rfl (any_of HT_.out (by kernel_rfl)) (fun _ _ _ h=>h) (Or.inr ⟨by rfl,rfl⟩) ?_ ?_
       rotate_left
       ·simp only [Act.put,zz21,zz22,zz23,i64_w,i32_w]
        rfl
       refine pure_ (i:=6) (N:=some 19) (v:=undef) (a':=?_) #[T,T,T,T,T,T,T,F,F,F,F,F,F,F,F,F,F,F,F,F,F,F,F,F,F,F,F,F,F,F,F,F] rfl rfl (any_of HT_.out (by kernel_rfl)) (fun _ _ _ h=>h) (Or.inr ⟨by rfl,rfl⟩) ?_ ?_
       rotate_left
       ·simp only [Act.put,zz21,zz22,zz23,i64_w,i32_w]
        rfl
       refine pure_ (i:=7) (N:=some 20) (v:=undef) (a':=?_) #[T,T,T,T,T,T,T,T,F,F,F,F,F,F,F,F,F,F,F,F,F,F,F,F,F,F,F,F,F,F,F,F] rfl rfl (any_of HT_.out (by kernel_rfl)) (fun _ _ _ h=>h) (Or.inr ⟨by rfl,rfl⟩) ?_ ?_
       rotate_left
       ·simp only [Act.put,zz21,zz22,zz23,i64_w,i32_w]
        rfl
       refine pure_ (i:=8) (N:=some 21) (v:=undef) (a':=?_) #[T,T,T,T,T,T,T,T,T,F,F,F,F,F,F,F,F,F,F,F,F,F,F,F,F,F,F,F,F,F,F,F] rfl rfl (any_of HT_.out (by kernel_rfl)) (fun _ _ _ h=>h) (Or.inr ⟨by rfl,rfl⟩) ?_ ?_
       rotate_left
       ·simp only [Act.put,zz21,zz22,zz23,i64_w,i32_w]
        rfl
       refine pure_ (i:=9) (N:=some 22) (v:=?_) (a':=?_) #[T,T,T,T,T,T,T,T,T,T,F,F,F,F,F,F,F,F,F,F,F,F,F,F,F,F,F,F,F,F,F,F] rfl rfl (any_of HT_.out (by kernel_rfl)) (fun _ _ _ h=>h) (Or.inl ⟨by rfl,?_⟩) ?_ ?_
       rotate_left
       ·intro w'
        go_simp
        with_reducible rfl
       rotate_left
       ·simp only [Act.put,zz21,zz22,zz23,i64_w,i32_w]
        rfl
       refine pure_ (i:=10) (N:=some 23) (v:=?_) (a':=?_) #[T,T,T,T,T,T,T,T,T,T,T,F,F,F,F,F,F,F,F,F,F,F,F,F,F,F,F,F,F,F,F,F] rfl rfl (any_of HT_.out (by kernel_rfl)) (fun _ _ _ h=>h) (Or.inl ⟨by rfl,?_⟩) ?_ ?_
       rotate_left
       ·intro w'
        go_simp
        with_reducible rfl
       rotate_left
       ·simp only [Act.put,zz21,zz22,zz23,i64_w,i32_w]
        rfl
       refine pure_ (i:=11) (N:=some 24) (v:=undef) (a':=?_) #[T,T,T,T,T,T,T,T,T,T,T,T,F,F,F,F,F,F,F,F,F,F,F,F,F,F,F,F,F,F,F,F] rfl rfl (any_of HT_.out (by kernel_rfl)) (fun _ _ _ h=>h) (Or.inr ⟨by rfl,rfl⟩) ?_ ?_
       rotate_left
       ·simp only [Act.put,zz21,zz22,zz23,i64_w,i32_w]
        rfl
       refine pure_ (i:=12) (N:=some 25) (v:=undef) (a':=?_) #[T,T,T,T,T,T,T,T,T,T,T,T,T,F,F,F,F,F,F,F,F,F,F,F,F,F,F,F,F,F,F,F] rfl rfl (any_of HT_.out (by kernel_rfl)) (fun _ _ _ h=>h) (Or.inr ⟨by rfl,rfl⟩) ?_ ?_
       rotate_left
       ·simp only [Act.put,zz21,zz22,zz23,i64_w,i32_w]
        rfl
       refine pure_ (i:=13) (N:=some 26) (v:=undef) (a':=?_) #[T,T,T,T,T,T,T,T,T,T,T,T,T,T,F,F,F,F,F,F,F,F,F,F,F,F,F,F,F,F,F,F] rfl rfl (any_of HT_.out (by kernel_rfl)) (fun _ _ _ h=>h) (Or.inr ⟨by rfl,rfl⟩) ?_ ?_
       rotate_left
       ·simp only [Act.put,zz21,zz22,zz23,i64_w,i32_w]
        rfl
       refine pure_ (i:=14) (N:=some 27) (v:=undef) (a':=?_) #[T,T,T,T,T,T,T,T,T,T,T,T,T,T,T,F,F,F,F,F,F,F,F,F,F,F,F,F,F,F,F,F] rfl rfl (any_of HT_.out (by kernel_rfl)) (fun _ _ _ h=>h) (Or.inr ⟨by rfl,rfl⟩) ?_ ?_
       rotate_left
       ·simp only [Act.put,zz21,zz22,zz23,i64_w,i32_w]
        rfl
       refine pure_ (i:=15) (N:=some 28) (v:=undef) (a':=?_) #[T,T,T,T,T,T,T,T,T,T,T,T,T,T,T,T,F,F,F,F,F,F,F,F,F,F,F,F,F,F,F,F] rfl rfl (any_of HT_.out (by kernel_rfl)) (fun _ _ _ h=>h) (Or.inr ⟨by rfl,rfl⟩) ?_ ?_
       rotate_left
       ·simp only [Act.put,zz21,zz22,zz23,i64_w,i32_w]
        rfl
       refine pure_ (i:=16) (N:=some 29) (v:=?_) (a':=?_) #[T,T,T,T,T,T,T,T,T,T,T,T,T,T,T,T,T,F,F,F,F,F,F,F,F,F,F,F,F,F,F,F] rfl rfl (any_of HT_.out (by kernel_rfl)) (fun _ _ _ h=>h) (Or.inl ⟨by rfl,?_⟩) ?_ ?_
       rotate_left
       ·intro w'
        go_simp
        with_reducible rfl
       rotate_left
       ·simp only [Act.put,zz21,zz22,zz23,i64_w,i32_w]
        rfl
       refine pure_ (i:=17) (N:=some 30) (v:=?_) (a':=?_) #[T,T,T,T,T,T,T,T,T,T,T,T,T,T,T,T,T,T,F,F,F,F,F,F,F,F,F,F,F,F,F,F] rfl rfl (any_of HT_.out (by kernel_rfl)) (fun _ _ _ h=>h) (Or.inl ⟨by rfl,?_⟩) ?_ ?_
       rotate_left
       ·intro w'
        go_simp
        with_reducible rfl
       rotate_left
       ·simp only [Act.put,zz21,zz22,zz23,i64_w,i32_w]
        rfl
       refine pure_ (i:=18) (N:=some 31) (v:=undef) (a':=?_) #[T,T,T,T,T,T,T,T,T,T,T,T,T,T,T,T,T,T,T,F,F,F,F,F,F,F,F,F,F,F,F,F] rfl rfl (any_of HT_.out (by kernel_rfl)) (fun _ _ _ h=>h) (Or.inr ⟨by rfl,rfl⟩) ?_ ?_
       rotate_left
       ·simp only [Act.put,zz21,zz22,zz23,i64_w,i32_w]
        rfl
       refine pure_ (i:=19) (N:=some 32) (v:=undef) (a':=?_) #[T,T,T,T,T,T,T,T,T,T,T,T,T,T,T,T,T,T,T,T,F,F,F,F,F,F,F,F,F,F,F,F] rfl rfl (any_of HT_.out (by kernel_rfl)) (fun _ _ _ h=>h) (Or.inr ⟨by rfl,rfl⟩) ?_ ?_
       rotate_left
       ·simp only [Act.put,zz21,zz22,zz23,i64_w,i32_w]
        rfl
       refine pure_ (i:=20) (N:=some 33) (v:=undef) (a':=?_) #[T,T,T,T,T,T,T,T,T,T,T,T,T,T,T,T,T,T,T,T,T,F,F,F,F,F,F,F,F,F,F,F] rfl rfl (any_of HT_.out (by kernel_rfl)) (fun _ _ _ h=>h) (Or.inr ⟨by rfl,rfl⟩) ?_ ?_
       rotate_left
       ·simp only [Act.put,zz21,zz22,zz23,i64_w,i32_w]
        rfl
       refine pure_ (i:=21) (N:=some 34) (v:=undef) (a':=?_) #[T,T,T,T,T,T,T,T,T,T,T,T,T,T,T,T,T,T,T,T,T,T,F,F,F,F,F,F,F,F,F,F] rfl rfl (any_of HT_.out (by kernel_rfl)) (fun _ _ _ h=>h) (Or.inr ⟨by rfl,rfl⟩) ?_ ?_
       rotate_left
       ·simp only [Act.put,zz21,zz22,zz23,i64_w,i32_w]
        rfl
       refine pure_ (i:=22) (N:=some 35) (v:=undef) (a':=?_) #[T,T,T,T,T,T,T,T,T,T,T,T,T,T,T,T,T,T,T,T,T,T,T,F,F,F,F,F,F,F,F,F] rfl rfl (any_of HT_.out (by kernel_rfl)) (fun _ _ _ h=>h) (Or.inr ⟨by rfl,rfl⟩) ?_ ?_
       rotate_left
       ·simp only [Act.put,zz21,zz22,zz23,i64_w,i32_w]
        rfl
       refine pure_ (i:=23) (N:=some 36) (v:=undef) (a':=?_) #[T,T,T,T,T,T,T,T,T,T,T,T,T,T,T,T,T,T,T,T,T,T,T,T,F,F,F,F,F,F,F,F] rfl rfl (any_of HT_.out (by kernel_rfl)) (fun _ _ _ h=>h) (Or.inr ⟨by rfl,rfl⟩) ?_ ?_
       rotate_left
       ·simp only [Act.put,zz21,zz22,zz23,i64_w,i32_w]
        rfl
       refine pure_ (i:=24) (N:=some 37) (v:=undef) (a':=?_) #[T,T,T,T,T,T,T,T,T,T,T,T,T,T,T,T,T,T,T,T,T,T,T,T,T,F,F,F,F,F,F,F] rfl rfl (any_of HT_.out (by kernel_rfl)) (fun _ _ _ h=>h) (Or.inr ⟨by rfl,rfl⟩) ?_ ?_
       rotate_left
       ·simp only [Act.put,zz21,zz22,zz23,i64_w,i32_w]
        rfl
       refine pure_ (i:=25) (N:=some 38) (v:=undef) (a':=?_) #[T,T,T,T,T,T,T,T,T,T,T,T,T,T,T,T,T,T,T,T,T,T,T,T,T,T,F,F,F,F,F,F] rfl rfl (any_of HT_.out (by kernel_rfl)) (fun _ _ _ h=>h) (Or.inr ⟨by rfl,rfl⟩) ?_ ?_
       rotate_left
       ·simp only [Act.put,zz21,zz22,zz23,i64_w,i32_w]
        rfl
       refine pure_ (i:=26) (N:=some 39) (v:=undef) (a':=?_) #[T,T,T,T,T,T,T,T,T,T,T,T,T,T,T,T,T,T,T,T,T,T,T,T,T,T,T,F,F,F,F,F] rfl rfl (any_of HT_.out (by kernel_rfl)) (fun _ _ _ h=>h) (Or.inr ⟨by rfl,rfl⟩) ?_ ?_
       rotate_left
       ·simp only [Act.put,zz21,zz22,zz23,i64_w,i32_w]
        rfl
       refine pure_ (i:=27) (N:=some 40) (v:=undef) (a':=?_) #[T,T,T,T,T,T,T,T,T,T,T,T,T,T,T,T,T,T,T,T,T,T,T,T,T,T,T,T,F,F,F,F] rfl rfl (any_of HT_.out (by kernel_rfl)) (fun _ _ _ h=>h) (Or.inr ⟨by rfl,rfl⟩) ?_ ?_
       rotate_left
       ·simp only [Act.put,zz21,zz22,zz23,i64_w,i32_w]
        rfl
       refine pure_ (i:=28) (N:=some 41) (v:=undef) (a':=?_) #[T,T,T,T,T,T,T,T,T,T,T,T,T,T,T,T,T,T,T,T,T,T,T,T,T,T,T,T,T,F,F,F] rfl rfl (any_of HT_.out (by kernel_rfl)) (fun _ _ _ h=>h) (Or.inr ⟨by rfl,rfl⟩) ?_ ?_
       rotate_left
       ·simp only [Act.put,zz21,zz22,zz23,i64_w,i32_w]
        rfl
       refine pure_ (i:=29) (N:=some 42) (v:=undef) (a':=?_) #[T,T,T,T,T,T,T,T,T,T,T,T,T,T,T,T,T,T,T,T,T,T,T,T,T,T,T,T,T,T,F,F] rfl rfl (any_of HT_.out (by kernel_rfl)) (fun _ _ _ h=>h) (Or.inr ⟨by rfl,rfl⟩) ?_ ?_
       rotate_left
       ·simp only [Act.put,zz21,zz22,zz23,i64_w,i32_w]
        rfl
       refine pure_ (i:=30) (N:=some 43) (v:=undef) (a':=?_) #[T,T,T,T,T,T,T,T,T,T,T,T,T,T,T,T,T,T,T,T,T,T,T,T,T,T,T,T,T,T,T,F] rfl rfl (any_of HT_.out (by kernel_rfl)) (fun _ _ _ h=>h) (Or.inr ⟨by rfl,rfl⟩) ?_ ?_
       rotate_left
       ·simp only [Act.put,zz21,zz22,zz23,i64_w,i32_w]
        rfl
       refine pure_ (i:=31) (N:=some 44) (v:=?_) (a':=?_) #[T,T,T,T,T,T,T,T,T,T,T,T,T,T,T,T,T,T,T,T,T,T,T,T,T,T,T,T,T,T,T,T] rfl rfl (any_of HT_.out (by kernel_rfl)) (fun _ _ _ h=>h) (Or.inl ⟨by rfl,?_⟩) ?_ ?_
       rotate_left
       ·intro w'
        go_simp
        with_reducible rfl
       rotate_left
       ·simp only [Act.put,zz21,zz22,zz23,i64_w,i32_w]
        rfl
       refine done_ (done_of HT_.out (by kernel_rfl)) ?_
       try go_wp2
       go_ret
       exact ⟨by first | rfl | (simp [errW_none,errW_some] <;> rfl) | (simp [*,errW_none,errW_some] <;> rfl),by repeat first | exact HB.out | apply zz2 | apply zz0 | apply zz1 | refine zz3 ?_ GE170.out | refine zz3 ?_ GE172.out⟩
      ·rw [if_neg c7] at H
       have c7b0:decide (((rd_T50 l0_1 x8_1).f0) < 0)=false:=decide_eq_false c7
       clear c7
       by_cases c13:((rd_T50 l0_1 x8_1).f0) ≥ ((rd_T50 l0_1 x8_1).f1)
       ·rw [if_pos c13] at H
        have c13b0:decide (((rd_T50 l0_1 x8_1).f1)≤((rd_T50 l0_1 x8_1).f0))=true:=decide_eq_true c13
        clear c13
        obtain rfl:=Option.some.inj H
        have p171:0≤(x8_1:Int):=zz29 (by first | (with_reducible assumption) | assumption)
        have q171:x8_1 < (l0_1.length:Int):=zz29 (by first | (with_reducible assumption) | assumption)
        obtain ⟨ad171,e171,hx171_0,hx171_1⟩:=at_T50 HR0_1.out x8_1 p171 q171
        cases e171
        try replace hx171_0:=(HB.out.cell (World.block_lt_of_cell? w _ hx171_0)).trans hx171_0
        try replace hx171_1:=(HB.out.cell (World.block_lt_of_cell? w _ hx171_1)).trans hx171_1
        replace p171:=eq_true p171
        replace q171:=eq_true q171
        try go_wp2_with (first | ((with_reducible refine gate_dst (N:=4) rfl ?_);refine box_event ?hg (N:=4) ?hd (cs:=#[.int .i64 0,.int .i64 0]) (t:=50) ?hr ?_;(case hd=>rfl);(case hg=>rfl);(case hr=>first | (go_simp;done) | (go_simp;rfl));intro gb172 hg w14 hbox hb;have n0_:=zz31 (zz11 (g:=gb170) (o:=.cells #[.int .i64 a0_0,.slice (some ad171) l0_1.length c0_1] 30 (0,0)) (by (with_reducible repeat (first | refine zz6 ?_ _ | refine zz7 ?_ | refine zz8 ?_ _));exact BK170.out) hb);have n1_:=zz31 (zz4 (by repeat first | exact HB.out | apply zz2 | apply zz0 | apply zz1 | refine zz3 ?_ GE170.out) hb);have n2_:=zz31 (hbox);have n3_:=zz31 ((by rw [hg];exact (zz5 (by repeat first | exact HB.out | apply zz2 | apply zz0 | apply zz1 | refine zz3 ?_ GE170.out)):w.heap.size≤gb172));have n4_:=zz31 ((by rw [hg];exact (zz5 (by repeat first | exact HB.out | apply zz2 | apply zz0 | apply zz1 | refine zz3 ?_ GE170.out)):w.heap.size≤gb172));have n5_:=zz31 ((by rw [hg];exact Nat.ne_of_lt (blk_lt (g:=gb170) (o:=.cells #[.int .i64 a0_0,.slice (some ad171) l0_1.length c0_1] 30 (0,0)) (by (with_reducible repeat (first | refine zz6 ?_ _ | refine zz7 ?_ | refine zz8 ?_ _));exact BK170.out)):gb170 ≠ gb172));have n6_:=zz31 ((by rw [hg];exact Nat.ne_of_gt (blk_lt (g:=gb170) (o:=.cells #[.int .i64 a0_0,.slice (some ad171) l0_1.length c0_1] 30 (0,0)) (by (with_reducible repeat (first | refine zz6 ?_ _ | refine zz7 ?_ | refine zz8 ?_ _));exact BK170.out)):gb172 ≠ gb170));clear BK170;clear HB;have BK170:=n0_;have HB:=n1_;have BK172:=n2_;have GW172:=n3_;have GE172:=n4_;have NB170_172:=n5_;have NB172_170:=n6_;clear n0_ n1_ n2_ n3_ n4_ n5_ n6_;clear hb hbox hg;have hnb15:=NB172_170.out;have hnc15:=NB170_172.out;have hcz16_0:w14.cell? ⟨gb172,0,none⟩=some (.int .i64 0):=(zz9 BK172.out 0).trans rfl;have hcz16_1:w14.cell? ⟨gb172,1,none⟩=some (.int .i64 0):=(zz9 BK172.out 1).trans rfl;have hfz16_0:=zz10 BK172.out 0;have hfz16_1:=zz10 BK172.out 1))
        have n0_:Aside0 (((w14.setCell ⟨gb172,0,none⟩ (.int .i64 ((rd_T50 l0_1 x8_1).f0))).setCell ⟨gb172,1,none⟩ (.int .i64 ((rd_T50 l0_1 x8_1).f1))).heap[gb170]?=some (.cells #[.int .i64 a0_0,.slice (some ad171) l0_1.length c0_1] 30 (0,0))):=⟨by (with_reducible repeat (first | refine zz6 ?_ _ | refine zz7 ?_ | refine zz8 ?_ _));refine blk_far ?_ NB170_172.out _;(with_reducible repeat (first | refine zz6 ?_ _ | refine zz7 ?_ | refine zz8 ?_ _));refine blk_far ?_ NB170_172.out _;(with_reducible repeat (first | refine zz6 ?_ _ | refine zz7 ?_ | refine zz8 ?_ _));exact BK170.out⟩
        have n1_:Aside0 (((w14.setCell ⟨gb172,0,none⟩ (.int .i64 ((rd_T50 l0_1 x8_1).f0))).setCell ⟨gb172,1,none⟩ (.int .i64 ((rd_T50 l0_1 x8_1).f1))).heap[gb172]?=some (.cells #[.int .i64 ((rd_T50 l0_1 x8_1).f0),.int .i64 ((rd_T50 l0_1 x8_1).f1)] 50 (0,0))):=⟨by (with_reducible repeat (first | refine zz6 ?_ _ | refine zz7 ?_ | refine zz8 ?_ _));refine blk_put (cs:=#[.int .i64 ((rd_T50 l0_1 x8_1).f0),.int .i64 0]) ?_ 1 _ rfl;(with_reducible repeat (first | refine zz6 ?_ _ | refine zz7 ?_ | refine zz8 ?_ _));refine blk_put (cs:=#[.int .i64 0,.int .i64 0]) ?_ 0 _ rfl;(with_reducible repeat (first | refine zz6 ?_ _ | refine zz7 ?_ | refine zz8 ?_ _));exact BK172.out⟩
        have n2_:Aside0 (Below w.heap.size w ((w14.setCell ⟨gb172,0,none⟩ (.int .i64 ((rd_T50 l0_1 x8_1).f0))).setCell ⟨gb172,1,none⟩ (.int .i64 ((rd_T50 l0_1 x8_1).f1)))):=⟨by repeat first | exact HB.out | apply zz2 | apply zz0 | apply zz1 | refine zz3 ?_ GE170.out | refine zz3 ?_ GE172.out⟩
        (try clear BK170)
        (try clear BK172)
        (try clear HB)
        generalize ((w14.setCell ⟨gb172,0,none⟩ (.int .i64 ((rd_T50 l0_1 x8_1).f0))).setCell ⟨gb172,1,none⟩ (.int .i64 ((rd_T50 l0_1 x8_1).f1)))=w17 at n0_ n1_ n2_ ⊢
        have BK170:=n0_
        have BK172:=n1_
        have HB:=n2_
        clear n0_ n1_ n2_
        have n0_:=zz31 (zz7 BK170.out)
        have n1_:=zz31 (zz7 BK172.out)
        have n2_:=zz31 (zz1 HB.out)
        clear BK170
        clear BK172
        clear HB
        have BK170:=n0_
        have BK172:=n1_
        have HB:=n2_
        clear n0_ n1_ n2_
        refine start_ (n:=32) (S:=fun w'=>w'.cell? ⟨gb172,0,none⟩=some (.int .i64 ((rd_T50 l0_1 x8_1).f0))∧w'.cell? ⟨gb172,1,none⟩=some (.int .i64 ((rd_T50 l0_1 x8_1).f1))) (ds:=[]) #[F,F,F,F,F,F,F,F,F,F,F,F,F,F,F,F,F,F,F,F,F,F,F,F,F,F,F,F,F,F,F,F] (by kernel_rfl) rfl rfl ⟨(zz9 BK172.out 0).trans rfl,(zz9 BK172.out 1).trans rfl⟩ (fun hHeld=>?_);refine with_tabW impl_IsParty.tab4 impl_IsParty.bits4 (fun HT_ HW_=>?_)
        generalize w17.drew=w18 at BK170 BK172 HB hHeld ⊢
        refine pure_ (i:=0) (N:=some 13) (v:=?_) (a':=?_) #[T,F,F,F,F,F,F,F,F,F,F,F,F,F,F,F,F,F,F,F,F,F,F,F,F,F,F,F,F,F,F,F] rfl rfl (any_of HT_.out (by kernel_rfl)) (fun _ _ _ h=>h) (Or.inl ⟨by rfl,?_⟩) ?_ ?_
        rotate_left
        ·intro w'
         go_simp
         with_reducible rfl
        rotate_left
        ·simp only [Act.put,zz21,zz22,zz23,i64_w,i32_w]
         rfl
        refine take_ (i:=1) (N:=some 14) (v:=?_) (a':=?_) #[T,T,F,F,F,F,F,F,F,F,F,F,F,F,F,F,F,F,F,F,F,F,F,F,F,F,F,F,F,F,F,F] rfl rfl (take_ofW HT_.out HW_.out (by kernel_rfl)) (fun _ _ _ h=>h) (Or.inl ⟨by rfl,?_⟩) hHeld ?_ ?_
        rotate_left
        ·rintro w' ⟨s0,s1⟩
         go_simp
         with_reducible rfl
        rotate_left
        ·simp only [Act.put,zz21,zz22,zz23,i64_w,i32_w]
         rfl
        refine pure_ (i:=2) (N:=some 15) (v:=?_) (a':=?_) #[T,T,T,F,F,F,F,F,F,F,F,F,F,F,F,F,F,F,F,F,F,F,F,F,F,F,F,F,F,F,F,F] rfl rfl (any_of HT_.out (by kernel_rfl)) (fun _ _ _ h=>h) (Or.inl ⟨by rfl,?_⟩) ?_ ?_
        rotate_left
        ·intro w'
         go_simp
         with_reducible rfl
        rotate_left
        ·simp only [Act.put,zz21,zz22,zz23,i64_w,i32_w]
         rfl
        refine pure_ (i:=3) (N:=some 16) (v:=?_) (a':=?_) #[T,T,T,T,F,F,F,F,F,F,F,F,F,F,F,F,F,F,F,F,F,F,F,F,F,F,F,F,F,F,F,F] rfl rfl (any_of HT_.out (by kernel_rfl)) (fun _ _ _ h=>h) (Or.inl ⟨by rfl,?_⟩) ?_ ?_
        rotate_left
        ·intro w'
         go_simp
         with_reducible rfl
        rotate_left
        ·simp only [Act.put,zz21,zz22,zz23,i64_w,i32_w]
         rfl
        refine pure_ (i:=4) (N:=some 17) (v:=?_) (a':=?_) #[T,T,T,T,T,F,F,F,F,F,F,F,F,F,F,F,F,F,F,F,F,F,F,F,F,F,F,F,F,F,F,F] rfl rfl (any_of HT_.out (by kernel_rfl)) (fun _ _ _ h=>h) (Or.inl ⟨by rfl,?_⟩) ?_ ?_
        rotate_left
        ·intro w'
         go_simp
         with_reducible rfl
        rotate_left
        ·simp only [Act.put,zz21,zz22,zz23,i64_w,i32_w]
         rfl
        refine pure_ (i:=6) (N:=some 19) (v:=?_) (a':=?_) #[T,T,T,T,T,F,T,F,F,F,F,F,F,F,F,F,F,F,F,F,F,F,F,F,F,F,F,F,F,F,F,F] rfl rfl (any_of HT_.out (by kernel_rfl)) (fun _ _ _ h=>h) (Or.inl ⟨by rfl,?_⟩) ?_ ?_
        rotate_left
        ·intro w'
         go_simp
         with_reducible rfl
        rotate_left
        ·simp only [Act.put,zz21,zz22,zz23,i64_w,i32_w]
         rfl
        refine take_ (i:=5) (N:=some 18) (v:=?_) (a':=?_) #[T,T,T,T,T,T,T,F,F,F,F,F,F,F,F,F,F,F,F,F,F,F,F,F,F,F,F,F,F,F,F,F] rfl rfl (take_ofW HT_.out HW_.out (by kernel_rfl)) (fun _ _ _ h=>h) (Or.inl ⟨by rfl,?_⟩) hHeld ?_ ?_
        rotate_left
        ·rintro w' ⟨s0,s1⟩
         go_simp
         with_reducible rfl
        rotate_left
        ·simp only [Act.put,zz21,zz22,zz23,i64_w,i32_w]
         rfl
        refine take_ (i:=7) (N:=some 20) (v:=?_) (a':=?_) #[T,T,T,T,T,T,T,T,F,F,F,F,F,F,F,F,F,F,F,F,F,F,F,F,F,F,F,F,F,F,F,F] rfl rfl (take_ofW HT_.out HW_.out (by kernel_rfl)) (fun _ _ _ h=>h) (Or.inl ⟨by rfl,?_⟩) hHeld ?_ ?_
        rotate_left
        ·rintro w' ⟨s0,s1⟩
         go_simp
         with_reducible rfl
        rotate_left
        ·simp only [Act.put,zz21,zz22,zz23,i64_w,i32_w]
         rfl
        refine pure_ (i:=8) (N:=some 21) (v:=?_) (a':=?_) #[T,T,T,T,T,T,T,T,T,F,F,F,F,F,F,F,F,F,F,F,F,F,F,F,F,F,F,F,F,F,F,F] rfl rfl (any_of HT_.out (by kernel_rfl)) (fun _ _ _ h=>h) (Or.inl ⟨by rfl,?_⟩) ?_ ?_
        rotate_left
        ·intro w'
         go_simp
         with_reducible rfl
        rotate_left
        ·simp only [Act.put,zz21,zz22,zz23,i64_w,i32_w]
         rfl
        refine pure_ (i:=9) (N:=some 22) (v:=?_) (a':=?_) #[T,T,T,T,T,T,T,T,T,T,F,F,F,F,F,F,F,F,F,F,F,F,F,F,F,F,F,F,F,F,F,F] rfl rfl (any_of HT_.out (by kernel_rfl)) (fun _ _ _ h=>h) (Or.inl ⟨by rfl,?_⟩) ?_ ?_
        rotate_left
        ·intro w'
         go_simp
         with_reducible rfl
        rotate_left
        ·simp only [Act.put,zz21,zz22,zz23,i64_w,i32_w]
         rfl
        refine pure_ (i:=10) (N:=some 23) (v:=?_) (a':=?_) #[T,T,T,T,T,T,T,T,T,T,T,F,F,F,F,F,F,F,F,F,F,F,F,F,F,F,F,F,F,F,F,F] rfl rfl (any_of HT_.out (by kernel_rfl)) (fun _ _ _ h=>h) (Or.inl ⟨by rfl,?_⟩) ?_ ?_
        rotate_left
        ·intro w'
         go_simp
         with_reducible rfl
        rotate_left
        ·simp only [Act.put,zz21,zz22,zz23,i64_w,i32_w]
         rfl
        refine pure_ (i:=11) (N:=some 24) (v:=undef) (a':=?_) #[T,T,T,T,T,T,T,T,T,T,T,T,F,F,F,F,F,F,F,F,F,F,F,F,F,F,F,F,F,F,F,F] rfl rfl (any_of HT_.out (by kernel_rfl)) (fun _ _ _ h=>h) (Or.inr ⟨by rfl,rfl⟩) ?_ ?_
        rotate_left
        ·simp only [Act.put,zz21,zz22,zz23,i64_w,i32_w]
         rfl
        refine pure_ (i:=12) (N:=some 25) (v:=undef) (a':=?_) #[T,T,T,T,T,T,T,T,T,T,T,T,T,F,F,F,F,F,F,F,F,F,F,F,F,F,F,F,F,F,F,F] rfl rfl (any_of HT_.out (by kernel_rfl)) (fun _ _ _ h=>h) (Or.inr ⟨by rfl,rfl⟩) ?_ ?_
        rotate_left
        ·simp only [Act.put,zz21,zz22,zz23,i64_w,i32_w]
         rfl
        refine pure_ (i:=13) (N:=some 26) (v:=undef) (a':=?_) #[T,T,T,T,T,T,T,T,T,T,T,T,T,T,F,F,F,F,F,F,F,F,F,F,F,F,F,F,F,F,F,F] rfl rfl (any_of HT_.out (by kernel_rfl)) (fun _ _ _ h=>h) (Or.inr ⟨by rfl,rfl⟩) ?_ ?_
        rotate_left
        ·simp only [Act.put,zz21,zz22,zz23,i64_w,i32_w]
         rfl
        refine pure_ (i:=14) (N:=some 27) (v:=undef) (a':=?_) #[T,T,T,T,T,T,T,T,T,T,T,T,T,T,T,F,F,F,F,F,F,F,F,F,F,F,F,F,F,F,F,F] rfl rfl (any_of HT_.out (by kernel_rfl)) (fun _ _ _ h=>h) (Or.inr ⟨by rfl,rfl⟩) ?_ ?_
        rotate_left
        ·simp only [Act.put,zz21,zz22,zz23,i64_w,i32_w]
         rfl
        refine pure_ (i:=15) (N:=some 28) (v:=undef) (a':=?_) #[T,T,T,T,T,T,T,T,T,T,T,T,T,T,T,T,F,F,F,F,F,F,F,F,F,F,F,F,F,F,F,F] rfl rfl (any_of HT_.out (by kernel_rfl)) (fun _ _ _ h=>h) (Or.inr ⟨by rfl,rfl⟩) ?_ ?_
        rotate_left
        ·simp only [Act.put,zz21,zz22,zz23,i64_w,i32_w]
         rfl
        refine pure_ (i:=16) (N:=some 29) (v:=?_) (a':=?_) #[T,T,T,T,T,T,T,T,T,T,T,T,T,T,T,T,T,F,F,F,F,F,F,F,F,F,F,F,F,F,F,F] rfl rfl (any_of HT_.out (by kernel_rfl)) (fun _ _ _ h=>h) (Or.inl ⟨by rfl,?_⟩) ?_ ?_
        rotate_left
        ·intro w'
         go_simp
         with_reducible rfl
        rotate_left
        ·simp only [Act.put,zz21,zz22,zz23,i64_w,i32_w]
         rfl
        refine pure_ (i:=17) (N:=some 30) (v:=?_) (a':=?_) #[T,T,T,T,T,T,T,T,T,T,T,T,T,T,T,T,T,T,F,F,F,F,F,F,F,F,F,F,F,F,F,F] rfl rfl (any_of HT_.out (by kernel_rfl)) (fun _ _ _ h=>h) (Or.inl ⟨by rfl,?_⟩) ?_ ?_
        rotate_left
        ·intro w'
         go_simp
         with_reducible rfl
        rotate_left
        ·simp only [Act.put,zz21,zz22,zz23,i64_w,i32_w]
         rfl
        refine pure_ (i:=18) (N:=some 31) (v:=undef) (a':=?_) #[T,T,T,T,T,T,T,T,T,T,T,T,T,T,T,T,T,T,T,F,F,F,F,F,F,F,F,F,F,F,F,F] rfl rfl (any_of HT_.out (by kernel_rfl)) (fun _ _ _ h=>h) (Or.inr ⟨by rfl,rfl⟩) ?_ ?_
        rotate_left
        ·simp only [Act.put,zz21,zz22,zz23,i64_w,i32_w]
         rfl
        refine pure_ (i:=19) (N:=some 32) (v:=undef) (a':=?_) #[T,T,T,T,T,T,T,T,T,T,T,T,T,T,T,T,T,T,T,T,F,F,F,F,F,F,F,F,F,F,F,F] rfl rfl (any_of HT_.out (by kernel_rfl)) (fun _ _ _ h=>h) (Or.inr ⟨by rfl,rfl⟩) ?_ ?_
        rotate_left
        ·simp only [Act.put,zz21,zz22,zz23,i64_w,i32_w]
         rfl
        refine pure_ (i:=20) (N:=some 33) (v:=undef) (a':=?_) #[T,T,T,T,T,T,T,T,T,T,T,T,T,T,T,T,T,T,T,T,T,F,F,F,F,F,F,F,F,F,F,F] rfl rfl (any_of HT_.out (by kernel_rfl)) (fun _ _ _ h=>h) (Or.inr ⟨by rfl,rfl⟩) ?_ ?_
        rotate_left
        ·simp only [Act.put,zz21,zz22,zz23,i64_w,i32_w]
         rfl
        refine pure_ (i:=21) (N:=some 34) (v:=undef) (a':=?_) #[T,T,T,T,T,T,T,T,T,T,T,T,T,T,T,T,T,T,T,T,T,T,F,F,F,F,F,F,F,F,F,F] rfl rfl (any_of HT_.out (by kernel_rfl)) (fun _ _ _ h=>h) (Or.inr ⟨by rfl,rfl⟩) ?_ ?_
        rotate_left
        ·simp only [Act.put,zz21,zz22,zz23,i64_w,i32_w]
         rfl
        refine pure_ (i:=22) (N:=some 35) (v:=undef) (a':=?_) #[T,T,T,T,T,T,T,T,T,T,T,T,T,T,T,T,T,T,T,T,T,T,T,F,F,F,F,F,F,F,F,F] rfl rfl (any_of HT_.out (by kernel_rfl)) (fun _ _ _ h=>h) (Or.inr ⟨by rfl,rfl⟩) ?_ ?_
        rotate_left
        ·simp only [Act.put,zz21,zz22,zz23,i64_w,i32_w]
         rfl
        refine pure_ (i:=23) (N:=some 36) (v:=undef) (a':=?_) #[T,T,T,T,T,T,T,T,T,T,T,T,T,T,T,T,T,T,T,T,T,T,T,T,F,F,F,F,F,F,F,F] rfl rfl (any_of HT_.out (by kernel_rfl)) (fun _ _ _ h=>h) (Or.inr ⟨by rfl,rfl⟩) ?_ ?_
        rotate_left
        ·simp only [Act.put,zz21,zz22,zz23,i64_w,i32_w]
         rfl
        refine pure_ (i:=24) (N:=some 37) (v:=undef) (a':=?_) #[T,T,T,T,T,T,T,T,T,T,T,T,T,T,T,T,T,T,T,T,T,T,T,T,T,F,F,F,F,F,F,F] rfl rfl (any_of HT_.out (by kernel_rfl)) (fun _ _ _ h=>h) (Or.inr ⟨by rfl,rfl⟩) ?_ ?_
        rotate_left
        ·simp only [Act.put,zz21,zz22,zz23,i64_w,i32_w]
         rfl
        refine pure_ (i:=25) (N:=some 38) (v:=undef) (a':=?_) #[T,T,T,T,T,T,T,T,T,T,T,T,T,T,T,T,T,T,T,T,T,T,T,T,T,T,F,F,F,F,F,F] rfl rfl (any_of HT_.out (by kernel_rfl)) (fun _ _ _ h=>h) (Or.inr ⟨by rfl,rfl⟩) ?_ ?_
        rotate_left
        ·simp only [Act.put,zz21,zz22,zz23,i64_w,i32_w]
         rfl
        refine pure_ (i:=26) (N:=some 39) (v:=undef) (a':=?_) #[T,T,T,T,T,T,T,T,T,T,T,T,T,T,T,T,T,T,T,T,T,T,T,T,T,T,T,F,F,F,F,F] rfl rfl (any_of HT_.out (by kernel_rfl)) (fun _ _ _ h=>h) (Or.inr ⟨by rfl,rfl⟩) ?_ ?_
        rotate_left
        ·simp only [Act.put,zz21,zz22,zz23,i64_w,i32_w]
         rfl
        refine pure_ (i:=27) (N:=some 40) (v:=undef) (a':=?_) #[T,T,T,T,T,T,T,T,T,T,T,T,T,T,T,T,T,T,T,T,T,T,T,T,T,T,T,T,F,F,F,F] rfl rfl (any_of HT_.out (by kernel_rfl)) (fun _ _ _ h=>h) (Or.inr ⟨by rfl,rfl⟩) ?_ ?_
        rotate_left
        ·simp only [Act.put,zz21,zz22,zz23,i64_w,i32_w]
         rfl
        refine pure_ (i:=28) (N:=some 41) (v:=undef) (a':=?_) #[T,T,T,T,T,T,T,T,T,T,T,T,T,T,T,T,T,T,T,T,T,T,T,T,T,T,T,T,T,F,F,F] rfl rfl (any_of HT_.out (by kernel_rfl)) (fun _ _ _ h=>h) (Or.inr ⟨by rfl,rfl⟩) ?_ ?_
        rotate_left
        ·simp only [Act.put,zz21,zz22,zz23,i64_w,i32_w]
         rfl
        refine pure_ (i:=29) (N:=some 42) (v:=undef) (a':=?_) #[T,T,T,T,T,T,T,T,T,T,T,T,T,T,T,T,T,T,T,T,T,T,T,T,T,T,T,T,T,T,F,F] rfl rfl (any_of HT_.out (by kernel_rfl)) (fun _ _ _ h=>h) (Or.inr ⟨by rfl,rfl⟩) ?_ ?_
        rotate_left
        ·simp only [Act.put,zz21,zz22,zz23,i64_w,i32_w]
         rfl
        refine pure_ (i:=30) (N:=some 43) (v:=undef) (a':=?_) #[T,T,T,T,T,T,T,T,T,T,T,T,T,T,T,T,T,T,T,T,T,T,T,T,T,T,T,T,T,T,T,F] rfl rfl (any_of HT_.out (by kernel_rfl)) (fun _ _ _ h=>h) (Or.inr ⟨by rfl,rfl⟩) ?_ ?_
        rotate_left
        ·simp only [Act.put,zz21,zz22,zz23,i64_w,i32_w]
         rfl
        refine pure_ (i:=31) (N:=some 44) (v:=?_) (a':=?_) #[T,T,T,T,T,T,T,T,T,T,T,T,T,T,T,T,T,T,T,T,T,T,T,T,T,T,T,T,T,T,T,T] rfl rfl (any_of HT_.out (by kernel_rfl)) (fun _ _ _ h=>h) (Or.inl ⟨by rfl,?_⟩) ?_ ?_
        rotate_left
        ·intro w'
         go_simp
         with_reducible rfl
        rotate_left
        ·simp only [Act.put,zz21,zz22,zz23,i64_w,i32_w]
         rfl
        refine done_ (done_of HT_.out (by kernel_rfl)) ?_
        try go_wp2
        go_ret
        exact ⟨by first | rfl | (simp [errW_none,errW_some] <;> rfl) | (simp [*,errW_none,errW_some] <;> rfl),by repeat first | exact HB.out | apply zz2 | apply zz0 | apply zz1 | refine zz3 ?_ GE170.out | refine zz3 ?_ GE172.out⟩
       ·rw [if_neg c13] at H
        have c13b0:decide (((rd_T50 l0_1 x8_1).f1)≤((rd_T50 l0_1 x8_1).f0))=false:=decide_eq_false c13
        clear c13
        by_cases c19:((rd_T50 l0_1 x8_1).f1) ≥ a0_0
        ·rw [if_pos c19] at H
         have c19b0:decide (a0_0≤((rd_T50 l0_1 x8_1).f1))=true:=decide_eq_true c19
         clear c19
         obtain rfl:=Option.some.inj H
         have p171:0≤(x8_1:Int):=zz29 (by first | (with_reducible assumption) | assumption)
         have q171:x8_1 < (l0_1.length:Int):=zz29 (by first | (with_reducible assumption) | assumption)
         obtain ⟨ad171,e171,hx171_0,hx171_1⟩:=at_T50 HR0_1.out x8_1 p171 q171
         cases e171
         try replace hx171_0:=(HB.out.cell (World.block_lt_of_cell? w _ hx171_0)).trans hx171_0
         try replace hx171_1:=(HB.out.cell (World.block_lt_of_cell? w _ hx171_1)).trans hx171_1
         replace p171:=eq_true p171
         replace q171:=eq_true q171
         try go_wp2_with (first | ((with_reducible refine gate_dst (N:=4) rfl ?_);refine box_event ?hg (N:=4) ?hd (cs:=#[.int .i64 0,.int .i64 0]) (t:=50) ?hr ?_;(case hd=>rfl);(case hg=>rfl);(case hr=>first | (go_simp;done) | (go_simp;rfl));intro gb172 hg w20 hbox hb;have n0_:=zz31 (zz11 (g:=gb170) (o:=.cells #[.int .i64 a0_0,.slice (some ad171) l0_1.length c0_1] 30 (0,0)) (by (with_reducible repeat (first | refine zz6 ?_ _ | refine zz7 ?_ | refine zz8 ?_ _));exact BK170.out) hb);have n1_:=zz31 (zz4 (by repeat first | exact HB.out | apply zz2 | apply zz0 | apply zz1 | refine zz3 ?_ GE170.out) hb);have n2_:=zz31 (hbox);have n3_:=zz31 ((by rw [hg];exact (zz5 (by repeat first | exact HB.out | apply zz2 | apply zz0 | apply zz1 | refine zz3 ?_ GE170.out)):w.heap.size≤gb172));have n4_:=zz31 ((by rw [hg];exact (zz5 (by repeat first | exact HB.out | apply zz2 | apply zz0 | apply zz1 | refine zz3 ?_ GE170.out)):w.heap.size≤gb172));have n5_:=zz31 ((by rw [hg];exact Nat.ne_of_lt (blk_lt (g:=gb170) (o:=.cells #[.int .i64 a0_0,.slice (some ad171) l0_1.length c0_1] 30 (0,0)) (by (with_reducible repeat (first | refine zz6 ?_ _ | refine zz7 ?_ | refine zz8 ?_ _));exact BK170.out)):gb170 ≠ gb172));have n6_:=zz31 ((by rw [hg];exact Nat.ne_of_gt (blk_lt (g:=gb170) (o:=.cells #[.int .i64 a0_0,.slice (some ad171) l0_1.length c0_1] 30 (0,0)) (by (with_reducible repeat (first | refine zz6 ?_ _ | refine zz7 ?_ | refine zz8 ?_ _));exact BK170.out)):gb172 ≠ gb170));clear BK170;clear HB;have BK170:=n0_;have HB:=n1_;have BK172:=n2_;have GW172:=n3_;have GE172:=n4_;have NB170_172:=n5_;have NB172_170:=n6_;clear n0_ n1_ n2_ n3_ n4_ n5_ n6_;clear hb hbox hg;have hnb21:=NB172_170.out;have hnc21:=NB170_172.out;have hcz22_0:w20.cell? ⟨gb172,0,none⟩=some (.int .i64 0):=(zz9 BK172.out 0).trans rfl;have hcz22_1:w20.cell? ⟨gb172,1,none⟩=some (.int .i64 0):=(zz9 BK172.out 1).trans rfl;have hfz22_0:=zz10 BK172.out 0;have hfz22_1:=zz10 BK172.out 1))
         have n0_:Aside0 (((w20.setCell ⟨gb172,0,none⟩ (.int .i64 ((rd_T50 l0_1 x8_1).f0))).setCell ⟨gb172,1,none⟩ (.int .i64 ((rd_T50 l0_1 x8_1).f1))).heap[gb170]?=some (.cells #[.int .i64 a0_0,.slice (some ad171) l0_1.length c0_1] 30 (0,0))):=⟨by (with_reducible repeat (first | refine zz6 ?_ _ | refine zz7 ?_ | refine zz8 ?_ _));refine blk_far ?_ NB170_172.out _;(with_reducible repeat (first | refine zz6 ?_ _ | refine zz7 ?_ | refine zz8 ?_ _));refine blk_far ?_ NB170_172.out _;(with_reducible repeat (first | refine zz6 ?_ _ | refine zz7 ?_ | refine zz8 ?_ _));exact BK170.out⟩
         have n1_:Aside0 (((w20.setCell ⟨gb172,0,none⟩ (.int .i64 ((rd_T50 l0_1 x8_1).f0))).setCell ⟨gb172,1,none⟩ (.int .i64 ((rd_T50 l0_1 x8_1).f1))).heap[gb172]?=some (.cells #[.int .i64 ((rd_T50 l0_1 x8_1).f0),.int .i64 ((rd_T50 l0_1 x8_1).f1)] 50 (0,0))):=⟨by (with_reducible repeat (first | refine zz6 ?_ _ | refine zz7 ?_ | refine zz8 ?_ _));refine blk_put (cs:=#[.int .i64 ((rd_T50 l0_1 x8_1).f0),.int .i64 0]) ?_ 1 _ rfl;(with_reducible repeat (first | refine zz6 ?_ _ | refine zz7 ?_ | refine zz8 ?_ _));refine blk_put (cs:=#[.int .i64 0,.int .i64 0]) ?_ 0 _ rfl;(with_reducible repeat (first | refine zz6 ?_ _ | refine zz7 ?_ | refine zz8 ?_ _));exact BK172.out⟩
         have n2_:Aside0 (Below w.heap.size w ((w20.setCell ⟨gb172,0,none⟩ (.int .i64 ((rd_T50 l0_1 x8_1).f0))).setCell ⟨gb172,1,none⟩ (.int .i64 ((rd_T50 l0_1 x8_1).f1)))):=⟨by repeat first | exact HB.out | apply zz2 | apply zz0 | apply zz1 | refine zz3 ?_ GE170.out | refine zz3 ?_ GE172.out⟩
         (try clear BK170)
         (try clear BK172)
         (try clear HB)
         generalize ((w20.setCell ⟨gb172,0,none⟩ (.int .i64 ((rd_T50 l0_1 x8_1).f0))).setCell ⟨gb172,1,none⟩ (.int .i64 ((rd_T50 l0_1 x8_1).f1)))=w23 at n0_ n1_ n2_ ⊢
         have BK170:=n0_
         have BK172:=n1_
         have HB:=n2_
         clear n0_ n1_ n2_
         have n0_:=zz31 (zz7 BK170.out)
         have n1_:=zz31 (zz7 BK172.out)
         have n2_:=zz31 (zz1 HB.out)
         clear BK170
         clear BK172
         clear HB
         have BK170:=n0_
         have BK172:=n1_
         have HB:=n2_
         clear n0_ n1_ n2_
         refine start_ (n:=32) (S:=fun w'=>w'.cell? ⟨gb172,0,none⟩=some (.int .i64 ((rd_T50 l0_1 x8_1).f0))∧w'.cell? ⟨gb172,1,none⟩=some (.int .i64 ((rd_T50 l0_1 x8_1).f1))∧w'.cell? ⟨gb170,0,none⟩=some (.int .i64 a0_0)∧w'.cell? ⟨gb170,1,none⟩=some (.slice (some ad171) l0_1.length c0_1)) (ds:=[]) #[F,F,F,F,F,F,F,F,F,F,F,F,F,F,F,F,F,F,F,F,F,F,F,F,F,F,F,F,F,F,F,F] (by kernel_rfl) rfl rfl ⟨(zz9 BK172.out 0).trans rfl,(zz9 BK172.out 1).trans rfl,(zz9 BK170.out 0).trans rfl,(zz9 BK170.out 1).trans rfl⟩ (fun hHeld=>?_);refine with_tabW impl_IsParty.tab4 impl_IsParty.bits4 (fun HT_ HW_=>?_)
         generalize w23.drew=w24 at BK170 BK172 HB hHeld ⊢
         refine pure_ (i:=0) (N:=some 13) (v:=?_) (a':=?_) #[T,F,F,F,F,F,F,F,F,F,F,F,F,F,F,F,F,F,F,F,F,F,F,F,F,F,F,F,F,F,F,F] rfl rfl (any_of HT_.out (by kernel_rfl)) (fun _ _ _ h=>h) (Or.inl ⟨by rfl,?_⟩) ?_ ?_
         rotate_left
         ·intro w'
          go_simp
          with_reducible rfl
         rotate_left
         ·simp only [Act.put,zz21,zz22,zz23,i64_w,i32_w]
          rfl
         refine take_ (i:=1) (N:=some 14) (v:=?_) (a':=?_) #[T,T,F,F,F,F,F,F,F,F,F,F,F,F,F,F,F,F,F,F,F,F,F,F,F,F,F,F,F,F,F,F] rfl rfl (take_ofW HT_.out HW_.out (by kernel_rfl)) (fun _ _ _ h=>h) (Or.inl ⟨by rfl,?_⟩) hHeld ?_ ?_
         rotate_left
         ·rintro w' ⟨s0,s1,s2,s3⟩
          go_simp
          with_reducible rfl
         rotate_left
         ·simp only [Act.put,zz21,zz22,zz23,i64_w,i32_w]
          rfl
         refine pure_ (i:=2) (N:=some 15) (v:=?_) (a':=?_) #[T,T,T,F,F,F,F,F,F,F,F,F,F,F,F,F,F,F,F,F,F,F,F,F,F,F,F,F,F,F,F,F] rfl rfl (any_of HT_.out (by kernel_rfl)) (fun _ _ _ h=>h) (Or.inl ⟨by rfl,?_⟩) ?_ ?_
         rotate_left
         ·intro w'
          go_simp
          with_reducible rfl
         rotate_left
         ·simp only [Act.put,zz21,zz22,zz23,i64_w,i32_w]
          rfl
         refine pure_ (i:=3) (N:=some 16) (v:=?_) (a':=?_) #[T,T,T,T,F,F,F,F,F,F,F,F,F,F,F,F,F,F,F,F,F,F,F,F,F,F,F,F,F,F,F,F] rfl rfl (any_of HT_.out (by kernel_rfl)) (fun _ _ _ h=>h) (Or.inl ⟨by rfl,?_⟩) ?_ ?_
         rotate_left
         ·intro w'
          go_simp
          with_reducible rfl
         rotate_left
         ·simp only [Act.put,zz21,zz22,zz23,i64_w,i32_w]
          rfl
         refine pure_ (i:=4) (N:=some 17) (v:=?_) (a':=?_) #[T,T,T,T,T,F,F,F,F,F,F,F,F,F,F,F,F,F,F,F,F,F,F,F,F,F,F,F,F,F,F,F] rfl rfl (any_of HT_.out (by kernel_rfl)) (fun _ _ _ h=>h) (Or.inl ⟨by rfl,?_⟩) ?_ ?_
         rotate_left
         ·intro w'
          go_simp
          with_reducible rfl
         rotate_left
         ·simp only [Act.put,zz21,zz22,zz23,i64_w,i32_w]
          rfl
         refine pure_ (i:=6) (N:=some 19) (v:=?_) (a':=?_) #[T,T,T,T,T,F,T,F,F,F,F,F,F,F,F,F,F,F,F,F,F,F,F,F,F,F,F,F,F,F,F,F] rfl rfl (any_of HT_.out (by kernel_rfl)) (fun _ _ _ h=>h) (Or.inl ⟨by rfl,?_⟩) ?_ ?_
         rotate_left
         ·intro w'
          go_simp
          with_reducible rfl
         rotate_left
         ·simp only [Act.put,zz21,zz22,zz23,i64_w,i32_w]
          rfl
         refine take_ (i:=5) (N:=some 18) (v:=?_) (a':=?_) #[T,T,T,T,T,T,T,F,F,F,F,F,F,F,F,F,F,F,F,F,F,F,F,F,F,F,F,F,F,F,F,F] rfl rfl (take_ofW HT_.out HW_.out (by kernel_rfl)) (fun _ _ _ h=>h) (Or.inl ⟨by rfl,?_⟩) hHeld ?_ ?_
         rotate_left
         ·rintro w' ⟨s0,s1,s2,s3⟩
          go_simp
          with_reducible rfl
         rotate_left
         ·simp only [Act.put,zz21,zz22,zz23,i64_w,i32_w]
          rfl
         refine take_ (i:=7) (N:=some 20) (v:=?_) (a':=?_) #[T,T,T,T,T,T,T,T,F,F,F,F,F,F,F,F,F,F,F,F,F,F,F,F,F,F,F,F,F,F,F,F] rfl rfl (take_ofW HT_.out HW_.out (by kernel_rfl)) (fun _ _ _ h=>h) (Or.inl ⟨by rfl,?_⟩) hHeld ?_ ?_
         rotate_left
         ·rintro w' ⟨s0,s1,s2,s3⟩
          go_simp
          with_reducible rfl
         rotate_left
         ·simp only [Act.put,zz21,zz22,zz23,i64_w,i32_w]
          rfl
         refine pure_ (i:=8) (N:=some 21) (v:=?_) (a':=?_) #[T,T,T,T,T,T,T,T,T,F,F,F,F,F,F,F,F,F,F,F,F,F,F,F,F,F,F,F,F,F,F,F] rfl rfl (any_of HT_.out (by kernel_rfl)) (fun _ _ _ h=>h) (Or.inl ⟨by rfl,?_⟩) ?_ ?_
         rotate_left
         ·intro w'
          go_simp
          with_reducible rfl
         rotate_left
         ·simp only [Act.put,zz21,zz22,zz23,i64_w,i32_w]
          rfl
         refine pure_ (i:=9) (N:=some 22) (v:=?_) (a':=?_) #[T,T,T,T,T,T,T,T,T,T,F,F,F,F,F,F,F,F,F,F,F,F,F,F,F,F,F,F,F,F,F,F] rfl rfl (any_of HT_.out (by kernel_rfl)) (fun _ _ _ h=>h) (Or.inl ⟨by rfl,?_⟩) ?_ ?_
         rotate_left
         ·intro w'
          go_simp
          with_reducible rfl
         rotate_left
         ·simp only [Act.put,zz21,zz22,zz23,i64_w,i32_w]
          rfl
         refine pure_ (i:=10) (N:=some 23) (v:=?_) (a':=?_) #[T,T,T,T,T,T,T,T,T,T,T,F,F,F,F,F,F,F,F,F,F,F,F,F,F,F,F,F,F,F,F,F] rfl rfl (any_of HT_.out (by kernel_rfl)) (fun _ _ _ h=>h) (Or.inl ⟨by rfl,?_⟩) ?_ ?_
         rotate_left
         ·intro w'
          go_simp
          with_reducible rfl
         rotate_left
         ·simp only [Act.put,zz21,zz22,zz23,i64_w,i32_w]
          rfl
         refine pure_ (i:=11) (N:=some 24) (v:=?_) (a':=?_) #[T,T,T,T,T,T,T,T,T,T,T,T,F,F,F,F,F,F,F,F,F,F,F,F,F,F,F,F,F,F,F,F] rfl rfl (any_of HT_.out (by kernel_rfl)) (fun _ _ _ h=>h) (Or.inl ⟨by rfl,?_⟩) ?_ ?_
         rotate_left
         ·intro w'
          go_simp
          with_reducible rfl
         rotate_left
         ·simp only [Act.put,zz21,zz22,zz23,i64_w,i32_w]
          rfl
         refine pure_ (i:=13) (N:=some 26) (v:=?_) (a':=?_) #[T,T,T,T,T,T,T,T,T,T,T,T,F,T,F,F,F,F,F,F,F,F,F,F,F,F,F,F,F,F,F,F] rfl rfl (any_of HT_.out (by kernel_rfl)) (fun _ _ _ h=>h) (Or.inl ⟨by rfl,?_⟩) ?_ ?_
         rotate_left
         ·intro w'
          go_simp
          with_reducible rfl
         rotate_left
         ·simp only [Act.put,zz21,zz22,zz23,i64_w,i32_w]
          rfl
         refine take_ (i:=12) (N:=some 25) (v:=?_) (a':=?_) #[T,T,T,T,T,T,T,T,T,T,T,T,T,T,F,F,F,F,F,F,F,F,F,F,F,F,F,F,F,F,F,F] rfl rfl (take_ofW HT_.out HW_.out (by kernel_rfl)) (fun _ _ _ h=>h) (Or.inl ⟨by rfl,?_⟩) hHeld ?_ ?_
         rotate_left
         ·rintro w' ⟨s0,s1,s2,s3⟩
          go_simp
          with_reducible rfl
         rotate_left
         ·simp only [Act.put,zz21,zz22,zz23,i64_w,i32_w]
          rfl
         refine take_ (i:=14) (N:=some 27) (v:=?_) (a':=?_) #[T,T,T,T,T,T,T,T,T,T,T,T,T,T,T,F,F,F,F,F,F,F,F,F,F,F,F,F,F,F,F,F] rfl rfl (take_ofW HT_.out HW_.out (by kernel_rfl)) (fun _ _ _ h=>h) (Or.inl ⟨by rfl,?_⟩) hHeld ?_ ?_
         rotate_left
         ·rintro w' ⟨s0,s1,s2,s3⟩
          go_simp
          with_reducible rfl
         rotate_left
         ·simp only [Act.put,zz21,zz22,zz23,i64_w,i32_w]
          rfl
         refine pure_ (i:=15) (N:=some 28) (v:=?_) (a':=?_) #[T,T,T,T,T,T,T,T,T,T,T,T,T,T,T,T,F,F,F,F,F,F,F,F,F,F,F,F,F,F,F,F] rfl rfl (any_of HT_.out (by kernel_rfl)) (fun _ _ _ h=>h) (Or.inl ⟨by rfl,?_⟩) ?_ ?_
         rotate_left
         ·intro w'
          go_simp
          with_reducible rfl
         rotate_left
         ·simp only [Act.put,zz21,zz22,zz23,i64_w,i32_w]
          rfl
         refine pure_ (i:=16) (N:=some 29) (v:=?_) (a':=?_) #[T,T,T,T,T,T,T,T,T,T,T,T,T,T,T,T,T,F,F,F,F,F,F,F,F,F,F,F,F,F,F,F] rfl rfl (any_of HT_.out (by kernel_rfl)) (fun _ _ _ h=>h) (Or.inl ⟨by rfl,?_⟩) ?_ ?_
         rotate_left
         ·intro w'
          go_simp
          with_reducible rfl
         rotate_left
         ·simp only [Act.put,zz21,zz22,zz23,i64_w,i32_w]
          rfl
         refine pure_ (i:=17) (N:=some 30) (v:=?_) (a':=?_) #[T,T,T,T,T,T,T,T,T,T,T,T,T,T,T,T,T,T,F,F,F,F,F,F,F,F,F,F,F,F,F,F] rfl rfl (any_of HT_.out (by kernel_rfl)) (fun _ _ _ h=>h) (Or.inl ⟨by rfl,?_⟩) ?_ ?_
         rotate_left
         ·intro w'
          go_simp
          with_reducible rfl
         rotate_left
         ·simp only [Act.put,zz21,zz22,zz23,i64_w,i32_w]
          rfl
         refine pure_ (i:=18) (N:=some 31) (v:=undef) (a':=?_) #[T,T,T,T,T,T,T,T,T,T,T,T,T,T,T,T,T,T,T,F,F,F,F,F,F,F,F,F,F,F,F,F] rfl rfl (any_of HT_.out (by kernel_rfl)) (fun _ _ _ h=>h) (Or.inr ⟨by rfl,rfl⟩) ?_ ?_
         rotate_left
         ·simp only [Act.put,zz21,zz22,zz23,i64_w,i32_w]
          rfl
         refine pure_ (i:=19) (N:=some 32) (v:=undef) (a':=?_) #[T,T,T,T,T,T,T,T,T,T,T,T,T,T,T,T,T,T,T,T,F,F,F,F,F,F,F,F,F,F,F,F] rfl rfl (any_of HT_.out (by kernel_rfl)) (fun _ _ _ h=>h) (Or.inr ⟨by rfl,rfl⟩) ?_ ?_
         rotate_left
         ·simp only [Act.put,zz21,zz22,zz23,i64_w,i32_w]
          rfl
         refine pure_ (i:=20) (N:=some 33) (v:=undef) (a':=?_) #[T,T,T,T,T,T,T,T,T,T,T,T,T,T,T,T,T,T,T,T,T,F,F,F,F,F,F,F,F,F,F,F] rfl rfl (any_of HT_.out (by kernel_rfl)) (fun _ _ _ h=>h) (Or.inr ⟨by rfl,rfl⟩) ?_ ?_
         rotate_left
         ·simp only [Act.put,zz21,zz22,zz23,i64_w,i32_w]
          rfl
         refine pure_ (i:=21) (N:=some 34) (v:=undef) (a':=?_) #[T,T,T,T,T,T,T,T,T,T,T,T,T,T,T,T,T,T,T,T,T,T,F,F,F,F,F,F,F,F,F,F] rfl rfl (any_of HT_.out (by kernel_rfl)) (fun _ _ _ h=>h) (Or.inr ⟨by rfl,rfl⟩) ?_ ?_
         rotate_left
         ·simp only [Act.put,zz21,zz22,zz23,i64_w,i32_w]
          rfl
         refine pure_ (i:=22) (N:=some 35) (v:=undef) (a':=?_) #[T,T,T,T,T,T,T,T,T,T,T,T,T,T,T,T,T,T,T,T,T,T,T,F,F,F,F,F,F,F,F,F] rfl rfl (any_of HT_.out (by kernel_rfl)) (fun _ _ _ h=>h) (Or.inr ⟨by rfl,rfl⟩) ?_ ?_
         rotate_left
         ·simp only [Act.put,zz21,zz22,zz23,i64_w,i32_w]
          rfl
         refine pure_ (i:=23) (N:=some 36) (v:=undef) (a':=?_) #[T,T,T,T,T,T,T,T,T,T,T,T,T,T,T,T,T,T,T,T,T,T,T,T,F,F,F,F,F,F,F,F] rfl rfl (any_of HT_.out (by kernel_rfl)) (fun _ _ _ h=>h) (Or.inr ⟨by rfl,rfl⟩) ?_ ?_
         rotate_left
         ·simp only [Act.put,zz21,zz22,zz23,i64_w,i32_w]
          rfl
         refine pure_ (i:=24) (N:=some 37) (v:=undef) (a':=?_) #[T,T,T,T,T,T,T,T,T,T,T,T,T,T,T,T,T,T,T,T,T,T,T,T,T,F,F,F,F,F,F,F] rfl rfl (any_of HT_.out (by kernel_rfl)) (fun _ _ _ h=>h) (Or.inr ⟨by rfl,rfl⟩) ?_ ?_
         rotate_left
         ·simp only [Act.put,zz21,zz22,zz23,i64_w,i32_w]
          rfl
         refine pure_ (i:=25) (N:=some 38) (v:=undef) (a':=?_) #[T,T,T,T,T,T,T,T,T,T,T,T,T,T,T,T,T,T,T,T,T,T,T,T,T,T,F,F,F,F,F,F] rfl rfl (any_of HT_.out (by kernel_rfl)) (fun _ _ _ h=>h) (Or.inr ⟨by rfl,rfl⟩) ?_ ?_
         rotate_left
         ·simp only [Act.put,zz21,zz22,zz23,i64_w,i32_w]
          rfl
         refine pure_ (i:=26) (N:=some 39) (v:=undef) (a':=?_) #[T,T,T,T,T,T,T,T,T,T,T,T,T,T,T,T,T,T,T,T,T,T,T,T,T,T,T,F,F,F,F,F] rfl rfl (any_of HT_.out (by kernel_rfl)) (fun _ _ _ h=>h) (Or.inr ⟨by rfl,rfl⟩) ?_ ?_
         rotate_left
         ·simp only [Act.put,zz21,zz22,zz23,i64_w,i32_w]
          rfl
         refine pure_ (i:=27) (N:=some 40) (v:=undef) (a':=?_) #[T,T,T,T,T,T,T,T,T,T,T,T,T,T,T,T,T,T,T,T,T,T,T,T,T,T,T,T,F,F,F,F] rfl rfl (any_of HT_.out (by kernel_rfl)) (fun _ _ _ h=>h) (Or.inr ⟨by rfl,rfl⟩) ?_ ?_
         rotate_left
         ·simp only [Act.put,zz21,zz22,zz23,i64_w,i32_w]
          rfl
         refine pure_ (i:=28) (N:=some 41) (v:=undef) (a':=?_) #[T,T,T,T,T,T,T,T,T,T,T,T,T,T,T,T,T,T,T,T,T,T,T,T,T,T,T,T,T,F,F,F] rfl rfl (any_of HT_.out (by kernel_rfl)) (fun _ _ _ h=>h) (Or.inr ⟨by rfl,rfl⟩) ?_ ?_
         rotate_left
         ·simp only [Act.put,zz21,zz22,zz23,i64_w,i32_w]
          rfl
         refine pure_ (i:=29) (N:=some 42) (v:=undef) (a':=?_) #[T,T,T,T,T,T,T,T,T,T,T,T,T,T,T,T,T,T,T,T,T,T,T,T,T,T,T,T,T,T,F,F] rfl rfl (any_of HT_.out (by kernel_rfl)) (fun _ _ _ h=>h) (Or.inr ⟨by rfl,rfl⟩) ?_ ?_
         rotate_left
         ·simp only [Act.put,zz21,zz22,zz23,i64_w,i32_w]
          rfl
         refine pure_ (i:=30) (N:=some 43) (v:=undef) (a':=?_) #[T,T,T,T,T,T,T,T,T,T,T,T,T,T,T,T,T,T,T,T,T,T,T,T,T,T,T,T,T,T,T,F] rfl rfl (any_of HT_.out (by kernel_rfl)) (fun _ _ _ h=>h) (Or.inr ⟨by rfl,rfl⟩) ?_ ?_
         rotate_left
         ·simp only [Act.put,zz21,zz22,zz23,i64_w,i32_w]
          rfl
         refine pure_ (i:=31) (N:=some 44) (v:=?_) (a':=?_) #[T,T,T,T,T,T,T,T,T,T,T,T,T,T,T,T,T,T,T,T,T,T,T,T,T,T,T,T,T,T,T,T] rfl rfl (any_of HT_.out (by kernel_rfl)) (fun _ _ _ h=>h) (Or.inl ⟨by rfl,?_⟩) ?_ ?_
         rotate_left
         ·intro w'
          go_simp
          with_reducible rfl
         rotate_left
         ·simp only [Act.put,zz21,zz22,zz23,i64_w,i32_w]
          rfl
         refine done_ (done_of HT_.out (by kernel_rfl)) ?_
         try go_wp2
         go_ret
         exact ⟨by first | rfl | (simp [errW_none,errW_some] <;> rfl) | (simp [*,errW_none,errW_some] <;> rfl),by repeat first | exact HB.out | apply zz2 | apply zz0 | apply zz1 | refine zz3 ?_ GE170.out | refine zz3 ?_ GE172.out⟩
        ·rw [if_neg c19] at H
         have c19b0:decide (a0_0≤((rd_T50 l0_1 x8_1).f1))=false:=decide_eq_false c19
         clear c19
         by_cases c25:x8_1 > 0
         ·rw [if_pos c25] at H
          have c25b0:decide (0 < x8_1)=true:=decide_eq_true c25
          clear c25
          obtain ⟨ji26,hji26⟩:∃ j_:Int,(wrap64 (x8_1 - 1))=j_:=⟨_,rfl⟩
          replace H:(if 0≤(ji26) then (if (ji26) < (l0_1.length:Int) then ((impl_comparePairs.f k1 ((rd_T50 l0_1 (ji26)).f0) ((rd_T50 l0_1 (ji26)).f1) ((rd_T50 l0_1 x8_1).f0) ((rd_T50 l0_1 x8_1).f1)).bind fun t174=>(if t174 ≥ 0 then (some false) else (impl_IsParty.l0 k1 l0_1 (l0_1.length:Int) (wrap64 (x8_1+1)) a0_0 l0_1))) else (none)) else (none))=some r:=by first | (rw [hji26] at H;exact H) | (simp only [hji26] at H ⊢;exact H)
          have hji26w:(IntKind.i64.wrap (x8_1 - 1))=ji26:=(i64_w _).trans hji26
          by_cases c27:0≤(ji26)
          ·rw [if_pos c27] at H
           have c27b0:decide (0≤(ji26))=true:=decide_eq_true c27
           clear c27
           by_cases c28:(ji26) < (l0_1.length:Int)
           ·rw [if_pos c28] at H
            have c28b0:decide ((ji26) < (l0_1.length:Int))=true:=decide_eq_true c28
            clear c28
            replace H:=zz30.mp H
            obtain ⟨t174,A290,H⟩:=H
            replace H:(if t174 ≥ 0 then (some false) else (impl_IsParty.l0 k1 l0_1 (l0_1.length:Int) (wrap64 (x8_1+1)) a0_0 l0_1))=some r:=H
            have A29:=zz31 A290
            clear A290
            by_cases c30:t174 ≥ 0
            ·rw [if_pos c30] at H
             have c30b0:decide (0≤t174)=true:=decide_eq_true c30
             clear c30
             obtain rfl:=Option.some.inj H
             have p171:0≤(x8_1:Int):=zz29 (by first | (with_reducible assumption) | assumption)
             have q171:x8_1 < (l0_1.length:Int):=zz29 (by first | (with_reducible assumption) | assumption)
             obtain ⟨ad171,e171,hx171_0,hx171_1⟩:=at_T50 HR0_1.out x8_1 p171 q171
             cases e171
             try replace hx171_0:=(HB.out.cell (World.block_lt_of_cell? w _ hx171_0)).trans hx171_0
             try replace hx171_1:=(HB.out.cell (World.block_lt_of_cell? w _ hx171_1)).trans hx171_1
             replace p171:=eq_true p171
             replace q171:=eq_true q171
             try go_wp2_with (first | ((with_reducible refine gate_dst (N:=4) rfl ?_);refine box_event ?hg (N:=4) ?hd (cs:=#[.int .i64 0,.int .i64 0]) (t:=50) ?hr ?_;(case hd=>rfl);(case hg=>rfl);(case hr=>first | (go_simp;done) | (go_simp;rfl));intro gb172 hg w31 hbox hb;have n0_:=zz31 (zz11 (g:=gb170) (o:=.cells #[.int .i64 a0_0,.slice (some ad171) l0_1.length c0_1] 30 (0,0)) (by (with_reducible repeat (first | refine zz6 ?_ _ | refine zz7 ?_ | refine zz8 ?_ _));exact BK170.out) hb);have n1_:=zz31 (zz4 (by repeat first | exact HB.out | apply zz2 | apply zz0 | apply zz1 | refine zz3 ?_ GE170.out) hb);have n2_:=zz31 (hbox);have n3_:=zz31 ((by rw [hg];exact (zz5 (by repeat first | exact HB.out | apply zz2 | apply zz0 | apply zz1 | refine zz3 ?_ GE170.out)):w.heap.size≤gb172));have n4_:=zz31 ((by rw [hg];exact (zz5 (by repeat first | exact HB.out | apply zz2 | apply zz0 | apply zz1 | refine zz3 ?_ GE170.out)):w.heap.size≤gb172));have n5_:=zz31 ((by rw [hg];exact Nat.ne_of_lt (blk_lt (g:=gb170) (o:=.cells #[.int .i64 a0_0,.slice (some ad171) l0_1.length c0_1] 30 (0,0)) (by (with_reducible repeat (first | refine zz6 ?_ _ | refine zz7 ?_ | refine zz8 ?_ _));exact BK170.out)):gb170 ≠ gb172));have n6_:=zz31 ((by rw [hg];exact Nat.ne_of_gt (blk_lt (g:=gb170) (o:=.cells #[.int .i64 a0_0,.slice (some ad171) l0_1.length c0_1] 30 (0,0)) (by (with_reducible repeat (first | refine zz6 ?_ _ | refine zz7 ?_ | refine zz8 ?_ _));exact BK170.out)):gb172 ≠ gb170));clear BK170;clear HB;have BK170:=n0_;have HB:=n1_;have BK172:=n2_;have GW172:=n3_;have GE172:=n4_;have NB170_172:=n5_;have NB172_170:=n6_;clear n0_ n1_ n2_ n3_ n4_ n5_ n6_;clear hb hbox hg;have hnb32:=NB172_170.out;have hnc32:=NB170_172.out;have hcz33_0:w31.cell? ⟨gb172,0,none⟩=some (.int .i64 0):=(zz9 BK172.out 0).trans rfl;have hcz33_1:w31.cell? ⟨gb172,1,none⟩=some (.int .i64 0):=(zz9 BK172.out 1).trans rfl;have hfz33_0:=zz10 BK172.out 0;have hfz33_1:=zz10 BK172.out 1))
             have n0_:Aside0 (((w31.setCell ⟨gb172,0,none⟩ (.int .i64 ((rd_T50 l0_1 x8_1).f0))).setCell ⟨gb172,1,none⟩ (.int .i64 ((rd_T50 l0_1 x8_1).f1))).heap[gb170]?=some (.cells #[.int .i64 a0_0,.slice (some ad171) l0_1.length c0_1] 30 (0,0))):=⟨by (with_reducible repeat (first | refine zz6 ?_ _ | refine zz7 ?_ | refine zz8 ?_ _));refine blk_far ?_ NB170_172.out _;(with_reducible repeat (first | refine zz6 ?_ _ | refine zz7 ?_ | refine zz8 ?_ _));refine blk_far ?_ NB170_172.out _;(with_reducible repeat (first | refine zz6 ?_ _ | refine zz7 ?_ | refine zz8 ?_ _));exact BK170.out⟩
             have n1_:Aside0 (((w31.setCell ⟨gb172,0,none⟩ (.int .i64 ((rd_T50 l0_1 x8_1).f0))).setCell ⟨gb172,1,none⟩ (.int .i64 ((rd_T50 l0_1 x8_1).f1))).heap[gb172]?=some (.cells #[.int .i64 ((rd_T50 l0_1 x8_1).f0),.int .i64 ((rd_T50 l0_1 x8_1).f1)] 50 (0,0))):=⟨by (with_reducible repeat (first | refine zz6 ?_ _ | refine zz7 ?_ | refine zz8 ?_ _));refine blk_put (cs:=#[.int .i64 ((rd_T50 l0_1 x8_1).f0),.int .i64 0]) ?_ 1 _ rfl;(with_reducible repeat (first | refine zz6 ?_ _ | refine zz7 ?_ | refine zz8 ?_ _));refine blk_put (cs:=#[.int .i64 0,.int .i64 0]) ?_ 0 _ rfl;(with_reducible repeat (first | refine zz6 ?_ _ | refine zz7 ?_ | refine zz8 ?_ _));exact BK172.out⟩
             have n2_:Aside0 (Below w.heap.size w ((w31.setCell ⟨gb172,0,none⟩ (.int .i64 ((rd_T50 l0_1 x8_1).f0))).setCell ⟨gb172,1,none⟩ (.int .i64 ((rd_T50 l0_1 x8_1).f1)))):=⟨by repeat first | exact HB.out | apply zz2 | apply zz0 | apply zz1 | refine zz3 ?_ GE170.out | refine zz3 ?_ GE172.out⟩
             (try clear BK170)
             (try clear BK172)
             (try clear HB)
             generalize ((w31.setCell ⟨gb172,0,none⟩ (.int .i64 ((rd_T50 l0_1 x8_1).f0))).setCell ⟨gb172,1,none⟩ (.int .i64 ((rd_T50 l0_1 x8_1).f1)))=w34 at n0_ n1_ n2_ ⊢
             have BK170:=n0_
             have BK172:=n1_
             have HB:=n2_
             clear n0_ n1_ n2_
             have n0_:=zz31 (zz7 BK170.out)
             have n1_:=zz31 (zz7 BK172.out)
             have n2_:=zz31 (zz1 HB.out)
             clear BK170
             clear BK172
             clear HB
             have BK170:=n0_
             have BK172:=n1_
             have HB:=n2_
             clear n0_ n1_ n2_
             have p173:0≤((ji26):Int):=zz29 (by first | (with_reducible assumption) | assumption)
             have q173:(ji26) < (l0_1.length:Int):=zz29 (by first | (with_reducible assumption) | assumption)
             obtain ⟨ad173,e173,hx173_0,hx173_1⟩:=at_T50 HR0_1.out (ji26) p173 q173
             have hw173_1:=hx173_1
             have hw173_0:=hx173_0
             obtain rfl:ad171=ad173:=(by injection e173)
             try replace hx173_0:=(HB.out.cell (World.block_lt_of_cell? w _ hx173_0)).trans hx173_0
             try replace hx173_1:=(HB.out.cell (World.block_lt_of_cell? w _ hx173_1)).trans hx173_1
             replace p173:=eq_true p173
             replace q173:=eq_true q173
             refine start_ (n:=32) (S:=fun w'=>w'.cell? ⟨gb172,0,none⟩=some (.int .i64 ((rd_T50 l0_1 x8_1).f0))∧w'.cell? ⟨gb172,1,none⟩=some (.int .i64 ((rd_T50 l0_1 x8_1).f1))∧w'.cell? ⟨gb170,0,none⟩=some (.int .i64 a0_0)∧w'.cell? ⟨gb170,1,none⟩=some (.slice (some ad171) l0_1.length c0_1)∧w'.cell? (ad171.add (((ji26)).toNat * 2))=some (.int .i64 ((rd_T50 l0_1 (ji26)).f0))∧w'.cell? ⟨(ad171.add (((ji26)).toNat * 2)).block,(ad171.add (((ji26)).toNat * 2)).off+1,none⟩=some (.int .i64 ((rd_T50 l0_1 (ji26)).f1))) (ds:=[]) #[F,F,F,F,F,F,F,F,F,F,F,F,F,F,F,F,F,F,F,F,F,F,F,F,F,F,F,F,F,F,F,F] (by kernel_rfl) rfl rfl ⟨(zz9 BK172.out 0).trans rfl,(zz9 BK172.out 1).trans rfl,(zz9 BK170.out 0).trans rfl,(zz9 BK170.out 1).trans rfl,((HB.out.cell (World.block_lt_of_cell? w _ hw173_0)).trans hw173_0),((HB.out.cell (World.block_lt_of_cell? w _ hw173_1)).trans hw173_1)⟩ (fun hHeld=>?_);refine with_tabW impl_IsParty.tab4 impl_IsParty.bits4 (fun HT_ HW_=>?_)
             generalize w34.drew=w35 at BK170 BK172 HB hx173_0 hx173_1 hHeld ⊢
             refine pure_ (i:=0) (N:=some 13) (v:=?_) (a':=?_) #[T,F,F,F,F,F,F,F,F,F,F,F,F,F,F,F,F,F,F,F,F,F,F,F,F,F,F,F,F,F,F,F] rfl rfl (any_of HT_.out (by kernel_rfl)) (fun _ _ _ h=>h) (Or.inl ⟨by rfl,?_⟩) ?_ ?_
             rotate_left
             ·intro w'
              go_simp
              with_reducible rfl
             rotate_left
             ·simp only [Act.put,zz21,zz22,zz23,i64_w,i32_w]
              rfl
             refine take_ (i:=1) (N:=some 14) (v:=?_) (a':=?_) #[T,T,F,F,F,F,F,F,F,F,F,F,F,F,F,F,F,F,F,F,F,F,F,F,F,F,F,F,F,F,F,F] rfl rfl (take_ofW HT_.out HW_.out (by kernel_rfl)) (fun _ _ _ h=>h) (Or.inl ⟨by rfl,?_⟩) hHeld ?_ ?_
             rotate_left
             ·rintro w' ⟨s0,s1,s2,s3,s4,s5⟩
              go_simp
              with_reducible rfl
             rotate_left
             ·simp only [Act.put,zz21,zz22,zz23,i64_w,i32_w]
              rfl
             refine pure_ (i:=2) (N:=some 15) (v:=?_) (a':=?_) #[T,T,T,F,F,F,F,F,F,F,F,F,F,F,F,F,F,F,F,F,F,F,F,F,F,F,F,F,F,F,F,F] rfl rfl (any_of HT_.out (by kernel_rfl)) (fun _ _ _ h=>h) (Or.inl ⟨by rfl,?_⟩) ?_ ?_
             rotate_left
             ·intro w'
              go_simp
              with_reducible rfl
             rotate_left
             ·simp only [Act.put,zz21,zz22,zz23,i64_w,i32_w]
              rfl
             refine pure_ (i:=3) (N:=some 16) (v:=?_) (a':=?_) #[T,T,T,T,F,F,F,F,F,F,F,F,F,F,F,F,F,F,F,F,F,F,F,F,F,F,F,F,F,F,F,F] rfl rfl (any_of HT_.out (by kernel_rfl)) (fun _ _ _ h=>h) (Or.inl ⟨by rfl,?_⟩) ?_ ?_
             rotate_left
             ·intro w'
              go_simp
              with_reducible rfl
             rotate_left
             ·simp only [Act.put,zz21,zz22,zz23,i64_w,i32_w]
              rfl
             refine pure_ (i:=4) (N:=some 17) (v:=?_) (a':=?_) #[T,T,T,T,T,F,F,F,F,F,F,F,F,F,F,F,F,F,F,F,F,F,F,F,F,F,F,F,F,F,F,F] rfl rfl (any_of HT_.out (by kernel_rfl)) (fun _ _ _ h=>h) (Or.inl ⟨by rfl,?_⟩) ?_ ?_
             rotate_left
             ·intro w'
              go_simp
              with_reducible rfl
             rotate_left
             ·simp only [Act.put,zz21,zz22,zz23,i64_w,i32_w]
              rfl
             refine pure_ (i:=6) (N:=some 19) (v:=?_) (a':=?_) #[T,T,T,T,T,F,T,F,F,F,F,F,F,F,F,F,F,F,F,F,F,F,F,F,F,F,F,F,F,F,F,F] rfl rfl (any_of HT_.out (by kernel_rfl)) (fun _ _ _ h=>h) (Or.inl ⟨by rfl,?_⟩) ?_ ?_
             rotate_left
             ·intro w'
              go_simp
              with_reducible rfl
             rotate_left
             ·simp only [Act.put,zz21,zz22,zz23,i64_w,i32_w]
              rfl
             refine take_ (i:=5) (N:=some 18) (v:=?_) (a':=?_) #[T,T,T,T,T,T,T,F,F,F,F,F,F,F,F,F,F,F,F,F,F,F,F,F,F,F,F,F,F,F,F,F] rfl rfl (take_ofW HT_.out HW_.out (by kernel_rfl)) (fun _ _ _ h=>h) (Or.inl ⟨by rfl,?_⟩) hHeld ?_ ?_
             rotate_left
             ·rintro w' ⟨s0,s1,s2,s3,s4,s5⟩
              go_simp
              with_reducible rfl
             rotate_left
             ·simp only [Act.put,zz21,zz22,zz23,i64_w,i32_w]
              rfl
             refine take_ (i:=7) (N:=some 20) (v:=?_) (a':=?_) #[T,T,T,T,T,T,T,T,F,F,F,F,F,F,F,F,F,F,F,F,F,F,F,F,F,F,F,F,F,F,F,F] rfl rfl (take_ofW HT_.out HW_.out (by kernel_rfl)) (fun _ _ _ h=>h) (Or.inl ⟨by rfl,?_⟩) hHeld ?_ ?_
             rotate_left
             ·rintro w' ⟨s0,s1,s2,s3,s4,s5⟩
              go_simp
              with_reducible rfl
             rotate_left
             ·simp only [Act.put,zz21,zz22,zz23,i64_w,i32_w]
              rfl
             refine pure_ (i:=8) (N:=some 21) (v:=?_) (a':=?_) #[T,T,T,T,T,T,T,T,T,F,F,F,F,F,F,F,F,F,F,F,F,F,F,F,F,F,F,F,F,F,F,F] rfl rfl (any_of HT_.out (by kernel_rfl)) (fun _ _ _ h=>h) (Or.inl ⟨by rfl,?_⟩) ?_ ?_
             rotate_left
             ·intro w'
              go_simp
              with_reducible rfl
             rotate_left
             ·simp only [Act.put,zz21,zz22,zz23,i64_w,i32_w]
              rfl
             refine pure_ (i:=9) (N:=some 22) (v:=?_) (a':=?_) #[T,T,T,T,T,T,T,T,T,T,F,F,F,F,F,F,F,F,F,F,F,F,F,F,F,F,F,F,F,F,F,F] rfl rfl (any_of HT_.out (by kernel_rfl)) (fun _ _ _ h=>h) (Or.inl ⟨by rfl,?_⟩) ?_ ?_
             rotate_left
             ·intro w'
              go_simp
              with_reducible rfl
             rotate_left
             ·simp only [Act.put,zz21,zz22,zz23,i64_w,i32_w]
              rfl
             refine pure_ (i:=10) (N:=some 23) (v:=?_) (a':=?_) #[T,T,T,T,T,T,T,T,T,T,T,F,F,F,F,F,F,F,F,F,F,F,F,F,F,F,F,F,F,F,F,F] rfl rfl (any_of HT_.out (by kernel_rfl)) (fun _ _ _ h=>h) (Or.inl ⟨by rfl,?_⟩) ?_ ?_
             rotate_left
             ·intro w'
              go_simp
              with_reducible rfl
             rotate_left
             ·simp only [Act.put,zz21,zz22,zz23,i64_w,i32_w]
              rfl
             refine pure_ (i:=11) (N:=some 24) (v:=?_) (a':=?_) #[T,T,T,T,T,T,T,T,T,T,T,T,F,F,F,F,F,F,F,F,F,F,F,F,F,F,F,F,F,F,F,F] rfl rfl (any_of HT_.out (by kernel_rfl)) (fun _ _ _ h=>h) (Or.inl ⟨by rfl,?_⟩) ?_ ?_
             rotate_left
             ·intro w'
              go_simp
              with_reducible rfl
             rotate_left
             ·simp only [Act.put,zz21,zz22,zz23,i64_w,i32_w]
              rfl
             refine pure_ (i:=13) (N:=some 26) (v:=?_) (a':=?_) #[T,T,T,T,T,T,T,T,T,T,T,T,F,T,F,F,F,F,F,F,F,F,F,F,F,F,F,F,F,F,F,F] rfl rfl (any_of HT_.out (by kernel_rfl)) (fun _ _ _ h=>h) (Or.inl ⟨by rfl,?_⟩) ?_ ?_
             rotate_left
             ·intro w'
              go_simp
              with_reducible rfl
             rotate_left
             ·simp only [Act.put,zz21,zz22,zz23,i64_w,i32_w]
              rfl
             refine take_ (i:=12) (N:=some 25) (v:=?_) (a':=?_) #[T,T,T,T,T,T,T,T,T,T,T,T,T,T,F,F,F,F,F,F,F,F,F,F,F,F,F,F,F,F,F,F] rfl rfl (take_ofW HT_.out HW_.out (by kernel_rfl)) (fun _ _ _ h=>h) (Or.inl ⟨by rfl,?_⟩) hHeld ?_ ?_
             rotate_left
             ·rintro w' ⟨s0,s1,s2,s3,s4,s5⟩
              go_simp
              with_reducible rfl
             rotate_left
             ·simp only [Act.put,zz21,zz22,zz23,i64_w,i32_w]
              rfl
             refine take_ (i:=14) (N:=some 27) (v:=?_) (a':=?_) #[T,T,T,T,T,T,T,T,T,T,T,T,T,T,T,F,F,F,F,F,F,F,F,F,F,F,F,F,F,F,F,F] rfl rfl (take_ofW HT_.out HW_.out (by kernel_rfl)) (fun _ _ _ h=>h) (Or.inl ⟨by rfl,?_⟩) hHeld ?_ ?_
             rotate_left
             ·rintro w' ⟨s0,s1,s2,s3,s4,s5⟩
              go_simp
              with_reducible rfl
             rotate_left
             ·simp only [Act.put,zz21,zz22,zz23,i64_w,i32_w]
              rfl
             refine pure_ (i:=15) (N:=some 28) (v:=?_) (a':=?_) #[T,T,T,T,T,T,T,T,T,T,T,T,T,T,T,T,F,F,F,F,F,F,F,F,F,F,F,F,F,F,F,F] rfl rfl (any_of HT_.out (by kernel_rfl)) (fun _ _ _ h=>h) (Or.inl ⟨by rfl,?_⟩) ?_ ?_
             rotate_left
             ·intro w'
              go_simp
              with_reducible rfl
             rotate_left
             ·simp only [Act.put,zz21,zz22,zz23,i64_w,i32_w]
              rfl
             refine pure_ (i:=16) (N:=some 29) (v:=?_) (a':=?_) #[T,T,T,T,T,T,T,T,T,T,T,T,T,T,T,T,T,F,F,F,F,F,F,F,F,F,F,F,F,F,F,F] rfl rfl (any_of HT_.out (by kernel_rfl)) (fun _ _ _ h=>h) (Or.inl ⟨by rfl,?_⟩) ?_ ?_
             rotate_left
             ·intro w'
              go_simp
              with_reducible rfl
             rotate_left
             ·simp only [Act.put,zz21,zz22,zz23,i64_w,i32_w]
              rfl
             refine pure_ (i:=17) (N:=some 30) (v:=?_) (a':=?_) #[T,T,T,T,T,T,T,T,T,T,T,T,T,T,T,T,T,T,F,F,F,F,F,F,F,F,F,F,F,F,F,F] rfl rfl (any_of HT_.out (by kernel_rfl)) (fun _ _ _ h=>h) (Or.inl ⟨by rfl,?_⟩) ?_ ?_
             rotate_left
             ·intro w'
              go_simp
              with_reducible rfl
             rotate_left
             ·simp only [Act.put,zz21,zz22,zz23,i64_w,i32_w]
              rfl
             refine pure_ (i:=18) (N:=some 31) (v:=?_) (a':=?_) #[T,T,T,T,T,T,T,T,T,T,T,T,T,T,T,T,T,T,T,F,F,F,F,F,F,F,F,F,F,F,F,F] rfl rfl (any_of HT_.out (by kernel_rfl)) (fun _ _ _ h=>h) (Or.inl ⟨by rfl,?_⟩) ?_ ?_
             rotate_left
             ·intro w'
              go_simp
              with_reducible rfl
             rotate_left
             ·simp only [Act.put,zz21,zz22,zz23,i64_w,i32_w]
              rfl
             refine pure_ (i:=19) (N:=some 32) (v:=?_) (a':=?_) #[T,T,T,T,T,T,T,T,T,T,T,T,T,T,T,T,T,T,T,T,F,F,F,F,F,F,F,F,F,F,F,F] rfl rfl (any_of HT_.out (by kernel_rfl)) (fun _ _ _ h=>h) (Or.inl ⟨by rfl,?_⟩) ?_ ?_
             rotate_left
             ·intro w'
              go_simp
              with_reducible rfl
             rotate_left
             ·simp only [Act.put,zz21,zz22,zz23,i64_w,i32_w]
              rfl
             refine pure_ (i:=20) (N:=some 33) (v:=?_) (a':=?_) #[T,T,T,T,T,T,T,T,T,T,T,T,T,T,T,T,T,T,T,T,T,F,F,F,F,F,F,F,F,F,F,F] rfl rfl (any_of HT_.out (by kernel_rfl)) (fun _ _ _ h=>h) (Or.inl ⟨by rfl,?_⟩) ?_ ?_
             rotate_left
             ·intro w'
              go_simp
              with_reducible rfl
             rotate_left
             ·simp only [Act.put,zz21,zz22,zz23,i64_w,i32_w]
              rfl
             refine pure_ (i:=21) (N:=some 34) (v:=?_) (a':=?_) #[T,T,T,T,T,T,T,T,T,T,T,T,T,T,T,T,T,T,T,T,T,T,F,F,F,F,F,F,F,F,F,F] rfl rfl (any_of HT_.out (by kernel_rfl)) (fun _ _ _ h=>h) (Or.inl ⟨by rfl,?_⟩) ?_ ?_
             rotate_left
             ·intro w'
              go_simp
              with_reducible rfl
             rotate_left
             ·simp only [Act.put,zz21,zz22,zz23,i64_w,i32_w]
              rfl
             refine pure_ (i:=23) (N:=some 36) (v:=?_) (a':=?_) #[T,T,T,T,T,T,T,T,T,T,T,T,T,T,T,T,T,T,T,T,T,T,F,T,F,F,F,F,F,F,F,F] rfl rfl (any_of HT_.out (by kernel_rfl)) (fun _ _ _ h=>h) (Or.inl ⟨by rfl,?_⟩) ?_ ?_
             rotate_left
             ·intro w'
              go_simp
              with_reducible rfl
             rotate_left
             ·simp only [Act.put,zz21,zz22,zz23,i64_w,i32_w]
              rfl
             refine pure_ (i:=24) (N:=some 37) (v:=?_) (a':=?_) #[T,T,T,T,T,T,T,T,T,T,T,T,T,T,T,T,T,T,T,T,T,T,F,T,T,F,F,F,F,F,F,F] rfl rfl (any_of HT_.out (by kernel_rfl)) (fun _ _ _ h=>h) (Or.inl ⟨by rfl,?_⟩) ?_ ?_
             rotate_left
             ·intro w'
              go_simp
              with_reducible rfl
             rotate_left
             ·simp only [Act.put,zz21,zz22,zz23,i64_w,i32_w]
              rfl
             refine take_ (i:=22) (N:=some 35) (v:=?_) (a':=?_) #[T,T,T,T,T,T,T,T,T,T,T,T,T,T,T,T,T,T,T,T,T,T,T,T,T,F,F,F,F,F,F,F] rfl rfl (take_ofW HT_.out HW_.out (by kernel_rfl)) (fun _ _ _ h=>h) (Or.inl ⟨by rfl,?_⟩) hHeld ?_ ?_
             rotate_left
             ·rintro w' ⟨s0,s1,s2,s3,s4,s5⟩
              go_simp
              with_reducible rfl
             rotate_left
             ·simp only [Act.put,zz21,zz22,zz23,i64_w,i32_w]
              rfl
             refine pure_ (i:=25) (N:=some 38) (v:=?_) (a':=?_) #[T,T,T,T,T,T,T,T,T,T,T,T,T,T,T,T,T,T,T,T,T,T,T,T,T,T,F,F,F,F,F,F] rfl rfl (any_of HT_.out (by kernel_rfl)) (fun _ _ _ h=>h) (Or.inl ⟨by rfl,?_⟩) ?_ ?_
             rotate_left
             ·intro w'
              go_simp
              with_reducible rfl
             rotate_left
             ·simp only [Act.put,zz21,zz22,zz23,i64_w,i32_w]
              rfl
             refine take_ (i:=26) (N:=some 39) (v:=?_) (a':=?_) #[T,T,T,T,T,T,T,T,T,T,T,T,T,T,T,T,T,T,T,T,T,T,T,T,T,T,T,F,F,F,F,F] rfl rfl (take_ofW HT_.out HW_.out (by kernel_rfl)) (fun _ _ _ h=>h) (Or.inl ⟨by rfl,?_⟩) hHeld ?_ ?_
             rotate_left
             ·rintro w' ⟨s0,s1,s2,s3,s4,s5⟩
              go_simp
              with_reducible rfl
             rotate_left
             ·simp only [Act.put,zz21,zz22,zz23,i64_w,i32_w]
              rfl
             refine take_ (i:=27) (N:=some 40) (v:=?_) (a':=?_) #[T,T,T,T,T,T,T,T,T,T,T,T,T,T,T,T,T,T,T,T,T,T,T,T,T,T,T,T,F,F,F,F] rfl rfl (take_ofW HT_.out HW_.out (by kernel_rfl)) (fun _ _ _ h=>h) (Or.inl ⟨by rfl,?_⟩) hHeld ?_ ?_
             rotate_left
             ·rintro w' ⟨s0,s1,s2,s3,s4,s5⟩
              go_simp
              with_reducible rfl
             rotate_left
             ·simp only [Act.put,zz21,zz22,zz23,i64_w,i32_w]
              rfl
             refine one_ (i:=28) (N:=some 41) #[T,T,T,T,T,T,T,T,T,T,T,T,T,T,T,T,T,T,T,T,T,T,T,T,T,T,T,T,T,F,F,F] rfl rfl (one_of HT_.out (by kernel_rfl)) (by decide) (fun K hK=>?_)
             refine goes_ Tryd.func31 (by kernel_rfl) rfl #[.agg #[.int .i64 ((rd_T50 l0_1 (ji26)).f0),.int .i64 ((rd_T50 l0_1 (ji26)).f1)],.agg #[.int .i64 ((rd_T50 l0_1 x8_1).f0),.int .i64 ((rd_T50 l0_1 x8_1).f1)]] (by rfl) rfl rfl (by (try simp only [zz26,zz27,zz28]);first | done | (simp only [hji26];rfl) | rfl | (simp only [zz24,zz25];rfl)) ?_
             with_reducible refine (impl_comparePairs.calls k1 ((rd_T50 l0_1 (ji26)).f0) ((rd_T50 l0_1 (ji26)).f1) ((rd_T50 l0_1 x8_1).f0) ((rd_T50 l0_1 x8_1).f1) t174 _ A29.out).mono ?_
             rintro e w36 ⟨rfl,hb⟩
             refine ⟨_,rfl,?_⟩
             have n0_:=zz31 (zz11 (g:=gb170) (o:=.cells #[.int .i64 a0_0,.slice (some ad171) l0_1.length c0_1] 30 (0,0)) (by (with_reducible repeat (first | refine zz6 ?_ _ | refine zz7 ?_ | refine zz8 ?_ _));exact BK170.out) hb)
             have n1_:=zz31 (zz11 (g:=gb172) (o:=.cells #[.int .i64 ((rd_T50 l0_1 x8_1).f0),.int .i64 ((rd_T50 l0_1 x8_1).f1)] 50 (0,0)) (by (with_reducible repeat (first | refine zz6 ?_ _ | refine zz7 ?_ | refine zz8 ?_ _));exact BK172.out) hb)
             have n2_:=zz31 (zz4 (by repeat first | exact HB.out | apply zz2 | apply zz0 | apply zz1 | refine zz3 ?_ GE170.out | refine zz3 ?_ GE172.out) hb)
             clear BK170
             clear BK172
             clear HB
             have BK170:=n0_
             have BK172:=n1_
             have HB:=n2_
             clear n0_ n1_ n2_
             (try clear hb)
             (try clear hb2)
             (try clear hk)
             (try clear hi)
             refine hK.out _ _ ⟨(zz9 BK172.out 0).trans rfl,(zz9 BK172.out 1).trans rfl,(zz9 BK170.out 0).trans rfl,(zz9 BK170.out 1).trans rfl,((HB.out.cell (World.block_lt_of_cell? w _ hw173_0)).trans hw173_0),((HB.out.cell (World.block_lt_of_cell? w _ hw173_1)).trans hw173_1)⟩ (fun hHeld=>?_)
             clear hK K
             refine norm_ (a':=?_) ?_ ?_
             rotate_left
             ·show Act.put _ (some 41) _=_
              simp only [Act.put,zz21,zz22,zz23,i64_w,i32_w]
              rfl
             refine pure_ (i:=29) (N:=some 42) (v:=?_) (a':=?_) #[T,T,T,T,T,T,T,T,T,T,T,T,T,T,T,T,T,T,T,T,T,T,T,T,T,T,T,T,T,T,F,F] rfl rfl (any_of HT_.out (by kernel_rfl)) (fun _ _ _ h=>h) (Or.inl ⟨by rfl,?_⟩) ?_ ?_
             rotate_left
             ·intro w'
              go_simp
              with_reducible rfl
             rotate_left
             ·simp only [Act.put,zz21,zz22,zz23,i64_w,i32_w]
              rfl
             refine pure_ (i:=30) (N:=some 43) (v:=?_) (a':=?_) #[T,T,T,T,T,T,T,T,T,T,T,T,T,T,T,T,T,T,T,T,T,T,T,T,T,T,T,T,T,T,T,F] rfl rfl (any_of HT_.out (by kernel_rfl)) (fun _ _ _ h=>h) (Or.inl ⟨by rfl,?_⟩) ?_ ?_
             rotate_left
             ·intro w'
              go_simp
              with_reducible rfl
             rotate_left
             ·simp only [Act.put,zz21,zz22,zz23,i64_w,i32_w]
              rfl
             refine pure_ (i:=31) (N:=some 44) (v:=?_) (a':=?_) #[T,T,T,T,T,T,T,T,T,T,T,T,T,T,T,T,T,T,T,T,T,T,T,T,T,T,T,T,T,T,T,T] rfl rfl (any_of HT_.out (by kernel_rfl)) (fun _ _ _ h=>h) (Or.inl ⟨by rfl,?_⟩) ?_ ?_
             rotate_left
             ·intro w'
              go_simp
              with_reducible rfl
             rotate_left
             ·simp only [Act.put,zz21,zz22,zz23,i64_w,i32_w]
              rfl
             refine done_ (done_of HT_.out (by kernel_rfl)) ?_
             try go_wp2
             go_ret
             exact ⟨by first | rfl | (simp [errW_none,errW_some] <;> rfl) | (simp only [← hji26];first | rfl | (simp [errW_none,errW_some] <;> rfl)) | (simp [*,errW_none,errW_some] <;> rfl),by repeat first | exact HB.out | apply zz2 | apply zz0 | apply zz1 | refine zz3 ?_ GE170.out | refine zz3 ?_ GE172.out⟩
            ·rw [if_neg c30] at H
             have c30b0:decide (0≤t174)=false:=decide_eq_false c30
             clear c30
             have H':=zz31 H
             clear H
             have p171:0≤(x8_1:Int):=zz29 (by first | (with_reducible assumption) | assumption)
             have q171:x8_1 < (l0_1.length:Int):=zz29 (by first | (with_reducible assumption) | assumption)
             obtain ⟨ad171,e171,hx171_0,hx171_1⟩:=at_T50 HR0_1.out x8_1 p171 q171
             cases e171
             try replace hx171_0:=(HB.out.cell (World.block_lt_of_cell? w _ hx171_0)).trans hx171_0
             try replace hx171_1:=(HB.out.cell (World.block_lt_of_cell? w _ hx171_1)).trans hx171_1
             replace p171:=eq_true p171
             replace q171:=eq_true q171
             try go_wp2_with (first | ((with_reducible refine gate_dst (N:=4) rfl ?_);refine box_event ?hg (N:=4) ?hd (cs:=#[.int .i64 0,.int .i64 0]) (t:=50) ?hr ?_;(case hd=>rfl);(case hg=>rfl);(case hr=>first | (go_simp;done) | (go_simp;rfl));intro gb172 hg w37 hbox hb;have n0_:=zz31 (zz11 (g:=gb170) (o:=.cells #[.int .i64 a0_0,.slice (some ad171) l0_1.length c0_1] 30 (0,0)) (by (with_reducible repeat (first | refine zz6 ?_ _ | refine zz7 ?_ | refine zz8 ?_ _));exact BK170.out) hb);have n1_:=zz31 (zz4 (by repeat first | exact HB.out | apply zz2 | apply zz0 | apply zz1 | refine zz3 ?_ GE170.out) hb);have n2_:=zz31 (hbox);have n3_:=zz31 ((by rw [hg];exact (zz5 (by repeat first | exact HB.out | apply zz2 | apply zz0 | apply zz1 | refine zz3 ?_ GE170.out)):w.heap.size≤gb172));have n4_:=zz31 ((by rw [hg];exact (zz5 (by repeat first | exact HB.out | apply zz2 | apply zz0 | apply zz1 | refine zz3 ?_ GE170.out)):w.heap.size≤gb172));have n5_:=zz31 ((by rw [hg];exact Nat.ne_of_lt (blk_lt (g:=gb170) (o:=.cells #[.int .i64 a0_0,.slice (some ad171) l0_1.length c0_1] 30 (0,0)) (by (with_reducible repeat (first | refine zz6 ?_ _ | refine zz7 ?_ | refine zz8 ?_ _));exact BK170.out)):gb170 ≠ gb172));have n6_:=zz31 ((by rw [hg];exact Nat.ne_of_gt (blk_lt (g:=gb170) (o:=.cells #[.int .i64 a0_0,.slice (some ad171) l0_1.length c0_1] 30 (0,0)) (by (with_reducible repeat (first | refine zz6 ?_ _ | refine zz7 ?_ | refine zz8 ?_ _));exact BK170.out)):gb172 ≠ gb170));clear BK170;clear HB;have BK170:=n0_;have HB:=n1_;have BK172:=n2_;have GW172:=n3_;have GE172:=n4_;have NB170_172:=n5_;have NB172_170:=n6_;clear n0_ n1_ n2_ n3_ n4_ n5_ n6_;clear hb hbox hg;have hnb38:=NB172_170.out;have hnc38:=NB170_172.out;have hcz39_0:w37.cell? ⟨gb172,0,none⟩=some (.int .i64 0):=(zz9 BK172.out 0).trans rfl;have hcz39_1:w37.cell? ⟨gb172,1,none⟩=some (.int .i64 0):=(zz9 BK172.out 1).trans rfl;have hfz39_0:=zz10 BK172.out 0;have hfz39_1:=zz10 BK172.out 1))
             have n0_:Aside0 (((w37.setCell ⟨gb172,0,none⟩ (.int .i64 ((rd_T50 l0_1 x8_1).f0))).setCell ⟨gb172,1,none⟩ (.int .i64 ((rd_T50 l0_1 x8_1).f1))).heap[gb170]?=some (.cells #[.int .i64 a0_0,.slice (some ad171) l0_1.length c0_1] 30 (0,0))):=⟨by (with_reducible repeat (first | refine zz6 ?_ _ | refine zz7 ?_ | refine zz8 ?_ _));refine blk_far ?_ NB170_172.out _;(with_reducible repeat (first | refine zz6 ?_ _ | refine zz7 ?_ | refine zz8 ?_ _));refine blk_far ?_ NB170_172.out _;(with_reducible repeat (first | refine zz6 ?_ _ | refine zz7 ?_ | refine zz8 ?_ _));exact BK170.out⟩
             have n1_:Aside0 (((w37.setCell ⟨gb172,0,none⟩ (.int .i64 ((rd_T50 l0_1 x8_1).f0))).setCell ⟨gb172,1,none⟩ (.int .i64 ((rd_T50 l0_1 x8_1).f1))).heap[gb172]?=some (.cells #[.int .i64 ((rd_T50 l0_1 x8_1).f0),.int .i64 ((rd_T50 l0_1 x8_1).f1)] 50 (0,0))):=⟨by (with_reducible repeat (first | refine zz6 ?_ _ | refine zz7 ?_ | refine zz8 ?_ _));refine blk_put (cs:=#[.int .i64 ((rd_T50 l0_1 x8_1).f0),.int .i64 0]) ?_ 1 _ rfl;(with_reducible repeat (first | refine zz6 ?_ _ | refine zz7 ?_ | refine zz8 ?_ _));refine blk_put (cs:=#[.int .i64 0,.int .i64 0]) ?_ 0 _ rfl;(with_reducible repeat (first | refine zz6 ?_ _ | refine zz7 ?_ | refine zz8 ?_ _));exact BK172.out⟩
             have n2_:Aside0 (Below w.heap.size w ((w37.setCell ⟨gb172,0,none⟩ (.int .i64 ((rd_T50 l0_1 x8_1).f0))).setCell ⟨gb172,1,none⟩ (.int .i64 ((rd_T50 l0_1 x8_1).f1)))):=⟨by repeat first | exact HB.out | apply zz2 | apply zz0 | apply zz1 | refine zz3 ?_ GE170.out | refine zz3 ?_ GE172.out⟩
             (try clear BK170)
             (try clear BK172)
             (try clear HB)
             generalize ((w37.setCell ⟨gb172,0,none⟩ (.int .i64 ((rd_T50 l0_1 x8_1).f0))).setCell ⟨gb172,1,none⟩ (.int .i64 ((rd_T50 l0_1 x8_1).f1)))=w40 at n0_ n1_ n2_ ⊢
             have BK170:=n0_
             have BK172:=n1_
             have HB:=n2_
             clear n0_ n1_ n2_
             have n0_:=zz31 (zz7 BK170.out)
             have n1_:=zz31 (zz7 BK172.out)
             have n2_:=zz31 (zz1 HB.out)
             clear BK170
             clear BK172
             clear HB
             have BK170:=n0_
             have BK172:=n1_
             have HB:=n2_
             clear n0_ n1_ n2_
             have p173:0≤((ji26):Int):=zz29 (by first | (with_reducible assumption) | assumption)
             have q173:(ji26) < (l0_1.length:Int):=zz29 (by first | (with_reducible assumption) | assumption)
             obtain ⟨ad173,e173,hx173_0,hx173_1⟩:=at_T50 HR0_1.out (ji26) p173 q173
             have hw173_1:=hx173_1
             have hw173_0:=hx173_0
             obtain rfl:ad171=ad173:=(by injection e173)
             try replace hx173_0:=(HB.out.cell (World.block_lt_of_cell? w _ hx173_0)).trans hx173_0
             try replace hx173_1:=(HB.out.cell (World.block_lt_of_cell? w _ hx173_1)).trans hx173_1
             replace p173:=eq_true p173
             replace q173:=eq_true q173
             refine start_ (n:=32) (S:=fun w'=>w'.cell? ⟨gb172,0,none⟩=some (.int .i64 ((rd_T50 l0_1 x8_1).f0))∧w'.cell? ⟨gb172,1,none⟩=some (.int .i64 ((rd_T50 l0_1 x8_1).f1))∧w'.cell? ⟨gb170,0,none⟩=some (.int .i64 a0_0)∧w'.cell? ⟨gb170,1,none⟩=some (.slice (some ad171) l0_1.length c0_1)∧w'.cell? (ad171.add (((ji26)).toNat * 2))=some (.int .i64 ((rd_T50 l0_1 (ji26)).f0))∧w'.cell? ⟨(ad171.add (((ji26)).toNat * 2)).block,(ad171.add (((ji26)).toNat * 2)).off+1,none⟩=some (.int .i64 ((rd_T50 l0_1 (ji26)).f1))) (ds:=[]) #[F,F,F,F,F,F,F,F,F,F,F,F,F,F,F,F,F,F,F,F,F,F,F,F,F,F,F,F,F,F,F,F] (by kernel_rfl) rfl rfl ⟨(zz9 BK172.out 0).trans rfl,(zz9 BK172.out 1).trans rfl,(zz9 BK170.out 0).trans rfl,(zz9 BK170.out 1).trans rfl,((HB.out.cell (World.block_lt_of_cell? w _ hw173_0)).trans hw173_0),((HB.out.cell (World.block_lt_of_cell? w _ hw173_1)).trans hw173_1)⟩ (fun hHeld=>?_);refine with_tabW impl_IsParty.tab4 impl_IsParty.bits4 (fun HT_ HW_=>?_)
             generalize w40.drew=w41 at BK170 BK172 HB hx173_0 hx173_1 hHeld ⊢
             refine pure_ (i:=0) (N:=some 13) (v:=?_) (a':=?_) #[T,F,F,F,F,F,F,F,F,F,F,F,F,F,F,F,F,F,F,F,F,F,F,F,F,F,F,F,F,F,F,F] rfl rfl (any_of HT_.out (by kernel_rfl)) (fun _ _ _ h=>h) (Or.inl ⟨by rfl,?_⟩) ?_ ?_
             rotate_left
             ·intro w'
              go_simp
              with_reducible rfl
             rotate_left
             ·simp only [Act.put,zz21,zz22,zz23,i64_w,i32_w]
              rfl
             refine take_ (i:=1) (N:=some 14) (v:=?_) (a':=?_) #[T,T,F,F,F,F,F,F,F,F,F,F,F,F,F,F,F,F,F,F,F,F,F,F,F,F,F,F,F,F,F,F] rfl rfl (take_ofW HT_.out HW_.out (by kernel_rfl)) (fun _ _ _ h=>h) (Or.inl ⟨by rfl,?_⟩) hHeld ?_ ?_
             rotate_left
             ·rintro w' ⟨s0,s1,s2,s3,s4,s5⟩
              go_simp
              with_reducible rfl
             rotate_left
             ·simp only [Act.put,zz21,zz22,zz23,i64_w,i32_w]
              rfl
             refine pure_ (i:=2) (N:=some 15) (v:=?_) (a':=?_) #[T,T,T,F,F,F,F,F,F,F,F,F,F,F,F,F,F,F,F,F,F,F,F,F,F,F,F,F,F,F,F,F] rfl rfl (any_of HT_.out (by kernel_rfl)) (fun _ _ _ h=>h) (Or.inl ⟨by rfl,?_⟩) ?_ ?_
             rotate_left
             ·intro w'
              go_simp
              with_reducible rfl
             rotate_left
             ·simp only [Act.put,zz21,zz22,zz23,i64_w,i32_w]
              rfl
             refine pure_ (i:=3) (N:=some 16) (v:=?_) (a':=?_) #[T,T,T,T,F,F,F,F,F,F,F,F,F,F,F,F,F,F,F,F,F,F,F,F,F,F,F,F,F,F,F,F] rfl rfl (any_of HT_.out (by kernel_rfl)) (fun _ _ _ h=>h) (Or.inl ⟨by rfl,?_⟩) ?_ ?_
             rotate_left
             ·intro w'
              go_simp
              with_reducible rfl
             rotate_left
             ·simp only [Act.put,zz21,zz22,zz23,i64_w,i32_w]
              rfl
             refine pure_ (i:=4) (N:=some 17) (v:=?_) (a':=?_) #[T,T,T,T,T,F,F,F,F,F,F,F,F,F,F,F,F,F,F,F,F,F,F,F,F,F,F,F,F,F,F,F] rfl rfl (any_of HT_.out (by kernel_rfl)) (fun _ _ _ h=>h) (Or.inl ⟨by rfl,?_⟩) ?_ ?_
             rotate_left
             ·intro w'
              go_simp
              with_reducible rfl
             rotate_left
             ·simp only [Act.put,zz21,zz22,zz23,i64_w,i32_w]
              rfl
             refine pure_ (i:=6) (N:=some 19) (v:=?_) (a':=?_) #[T,T,T,T,T,F,T,F,F,F,F,F,F,F,F,F,F,F,F,F,F,F,F,F,F,F,F,F,F,F,F,F] rfl rfl (any_of HT_.out (by kernel_rfl)) (fun _ _ _ h=>h) (Or.inl ⟨by rfl,?_⟩) ?_ ?_
             rotate_left
             ·intro w'
              go_simp
              with_reducible rfl
             rotate_left
             ·simp only [Act.put,zz21,zz22,zz23,i64_w,i32_w]
              rfl
             refine take_ (i:=5) (N:=some 18) (v:=?_) (a':=?_) #[T,T,T,T,T,T,T,F,F,F,F,F,F,F,F,F,F,F,F,F,F,F,F,F,F,F,F,F,F,F,F,F] rfl rfl (take_ofW HT_.out HW_.out (by kernel_rfl)) (fun _ _ _ h=>h) (Or.inl ⟨by rfl,?_⟩) hHeld ?_ ?_
             rotate_left
             ·rintro w' ⟨s0,s1,s2,s3,s4,s5⟩
              go_simp
              with_reducible rfl
             rotate_left
             ·simp only [Act.put,zz21,zz22,zz23,i64_w,i32_w]
              rfl
             refine take_ (i:=7) (N:=some 20) (v:=?_) (a':=?_) #[T,T,T,T,T,T,T,T,F,F,F,F,F,F,F,F,F,F,F,F,F,F,F,F,F,F,F,F,F,F,F,F] rfl rfl (take_ofW HT_.out HW_.out (by kernel_rfl)) (fun _ _ _ h=>h) (Or.inl ⟨by rfl,?_⟩) hHeld ?_ ?_
             rotate_left
             ·rintro w' ⟨s0,s1,s2,s3,s4,s5⟩
              go_simp
              with_reducible rfl
             rotate_left
             ·simp only [Act.put,zz21,zz22,zz23,i64_w,i32_w]
              rfl
             refine pure_ (i:=8) (N:=some 21) (v:=?_) (a':=?_) #[T,T,T,T,T,T,T,T,T,F,F,F,F,F,F,F,F,F,F,F,F,F,F,F,F,F,F,F,F,F,F,F] rfl rfl (any_of HT_.out (by kernel_rfl)) (fun _ _ _ h=>h) (Or.inl ⟨by rfl,?_⟩) ?_ ?_
             rotate_left
             ·intro w'
              go_simp
              with_reducible rfl
             rotate_left
             ·simp only [Act.put,zz21,zz22,zz23,i64_w,i32_w]
              rfl
             refine pure_ (i:=9) (N:=some 22) (v:=?_) (a':=?_) #[T,T,T,T,T,T,T,T,T,T,F,F,F,F,F,F,F,F,F,F,F,F,F,F,F,F,F,F,F,F,F,F] rfl rfl (any_of HT_.out (by kernel_rfl)) (fun _ _ _ h=>h) (Or.inl ⟨by rfl,?_⟩) ?_ ?_
             rotate_left
             ·intro w'
              go_simp
              with_reducible rfl
             rotate_left
             ·simp only [Act.put,zz21,zz22,zz23,i64_w,i32_w]
              rfl
             refine pure_ (i:=10) (N:=some 23) (v:=?_) (a':=?_) #[T,T,T,T,T,T,T,T,T,T,T,F,F,F,F,F,F,F,F,F,F,F,F,F,F,F,F,F,F,F,F,F] rfl rfl (any_of HT_.out (by kernel_rfl)) (fun _ _ _ h=>h) (Or.inl ⟨by rfl,?_⟩) ?_ ?_
             rotate_left
             ·intro w'
              go_simp
              with_reducible rfl
             rotate_left
             ·simp only [Act.put,zz21,zz22,zz23,i64_w,i32_w]
              rfl
             refine pure_ (i:=11) (N:=some 24) (v:=?_) (a':=?_) #[T,T,T,T,T,T,T,T,T,T,T,T,F,F,F,F,F,F,F,F,F,F,F,F,F,F,F,F,F,F,F,F] rfl rfl (any_of HT_.out (by kernel_rfl)) (fun _ _ _ h=>h) (Or.inl ⟨by rfl,?_⟩) ?_ ?_
             rotate_left
             ·intro w'
              go_simp
              with_reducible rfl
             rotate_left
             ·simp only [Act.put,zz21,zz22,zz23,i64_w,i32_w]
              rfl
             refine pure_ (i:=13) (N:=some 26) (v:=?_) (a':=?_) #[T,T,T,T,T,T,T,T,T,T,T,T,F,T,F,F,F,F,F,F,F,F,F,F,F,F,F,F,F,F,F,F] rfl rfl (any_of HT_.out (by kernel_rfl)) (fun _ _ _ h=>h) (Or.inl ⟨by rfl,?_⟩) ?_ ?_
             rotate_left
             ·intro w'
              go_simp
              with_reducible rfl
             rotate_left
             ·simp only [Act.put,zz21,zz22,zz23,i64_w,i32_w]
              rfl
             refine take_ (i:=12) (N:=some 25) (v:=?_) (a':=?_) #[T,T,T,T,T,T,T,T,T,T,T,T,T,T,F,F,F,F,F,F,F,F,F,F,F,F,F,F,F,F,F,F] rfl rfl (take_ofW HT_.out HW_.out (by kernel_rfl)) (fun _ _ _ h=>h) (Or.inl ⟨by rfl,?_⟩) hHeld ?_ ?_
             rotate_left
             ·rintro w' ⟨s0,s1,s2,s3,s4,s5⟩
              go_simp
              with_reducible rfl
             rotate_left
             ·simp only [Act.put,zz21,zz22,zz23,i64_w,i32_w]
              rfl
             refine take_ (i:=14) (N:=some 27) (v:=?_) (a':=?_) #[T,T,T,T,T,T,T,T,T,T,T,T,T,T,T,F,F,F,F,F,F,F,F,F,F,F,F,F,F,F,F,F] rfl rfl (take_ofW HT_.out HW_.out (by kernel_rfl)) (fun _ _ _ h=>h) (Or.inl ⟨by rfl,?_⟩) hHeld ?_ ?_
             rotate_left
             ·rintro w' ⟨s0,s1,s2,s3,s4,s5⟩
              go_simp
              with_reducible rfl
             rotate_left
             ·simp only [Act.put,zz21,zz22,zz23,i64_w,i32_w]
              rfl
             refine pure_ (i:=15) (N:=some 28) (v:=?_) (a':=?_) #[T,T,T,T,T,T,T,T,T,T,T,T,T,T,T,T,F,F,F,F,F,F,F,F,F,F,F,F,F,F,F,F] rfl rfl (any_of HT_.out (by kernel_rfl)) (fun _ _ _ h=>h) (Or.inl ⟨by rfl,?_⟩) ?_ ?_
             rotate_left
             ·intro w'
              go_simp
              with_reducible rfl
             rotate_left
             ·simp only [Act.put,zz21,zz22,zz23,i64_w,i32_w]
              rfl
             refine pure_ (i:=16) (N:=some 29) (v:=?_) (a':=?_) #[T,T,T,T,T,T,T,T,T,T,T,T,T,T,T,T,T,F,F,F,F,F,F,F,F,F,F,F,F,F,F,F] rfl rfl (any_of HT_.out (by kernel_rfl)) (fun _ _ _ h=>h) (Or.inl ⟨by rfl,?_⟩) ?_ ?_
             rotate_left
             ·intro w'
              go_simp
              with_reducible rfl
             rotate_left
             ·simp only [Act.put,zz21,zz22,zz23,i64_w,i32_w]
              rfl
             refine pure_ (i:=17) (N:=some 30) (v:=?_) (a':=?_) #[T,T,T,T,T,T,T,T,T,T,T,T,T,T,T,T,T,T,F,F,F,F,F,F,F,F,F,F,F,F,F,F] rfl rfl (any_of HT_.out (by kernel_rfl)) (fun _ _ _ h=>h) (Or.inl ⟨by rfl,?_⟩) ?_ ?_
             rotate_left
             ·intro w'
              go_simp
              with_reducible rfl
             rotate_left
             ·simp only [Act.put,zz21,zz22,zz23,i64_w,i32_w]
              rfl
             refine pure_ (i:=18) (N:=some 31) (v:=?_) (a':=?_) #[T,T,T,T,T,T,T,T,T,T,T,T,T,T,T,T,T,T,T,F,F,F,F,F,F,F,F,F,F,F,F,F] rfl rfl (any_of HT_.out (by kernel_rfl)) (fun _ _ _ h=>h) (Or.inl ⟨by rfl,?_⟩) ?_ ?_
             rotate_left
             ·intro w'
              go_simp
              with_reducible rfl
             rotate_left
             ·simp only [Act.put,zz21,zz22,zz23,i64_w,i32_w]
              rfl
             refine pure_ (i:=19) (N:=some 32) (v:=?_) (a':=?_) #[T,T,T,T,T,T,T,T,T,T,T,T,T,T,T,T,T,T,T,T,F,F,F,F,F,F,F,F,F,F,F,F] rfl rfl (any_of HT_.out (by kernel_rfl)) (fun _ _ _ h=>h) (Or.inl ⟨by rfl,?_⟩) ?_ ?_
             rotate_left
             ·intro w'
              go_simp
              with_reducible rfl
             rotate_left
             ·simp only [Act.put,zz21,zz22,zz23,i64_w,i32_w]
              rfl
             refine pure_ (i:=20) (N:=some 33) (v:=?_) (a':=?_) #[T,T,T,T,T,T,T,T,T,T,T,T,T,T,T,T,T,T,T,T,T,F,F,F,F,F,F,F,F,F,F,F] rfl rfl (any_of HT_.out (by kernel_rfl)) (fun _ _ _ h=>h) (Or.inl ⟨by rfl,?_⟩) ?_ ?_
             rotate_left
             ·intro w'
              go_simp
              with_reducible rfl
             rotate_left
             ·simp only [Act.put,zz21,zz22,zz23,i64_w,i32_w]
              rfl
             refine pure_ (i:=21) (N:=some 34) (v:=?_) (a':=?_) #[T,T,T,T,T,T,T,T,T,T,T,T,T,T,T,T,T,T,T,T,T,T,F,F,F,F,F,F,F,F,F,F] rfl rfl (any_of HT_.out (by kernel_rfl)) (fun _ _ _ h=>h) (Or.inl ⟨by rfl,?_⟩) ?_ ?_
             rotate_left
             ·intro w'
              go_simp
              with_reducible rfl
             rotate_left
             ·simp only [Act.put,zz21,zz22,zz23,i64_w,i32_w]
              rfl
             refine pure_ (i:=23) (N:=some 36) (v:=?_) (a':=?_) #[T,T,T,T,T,T,T,T,T,T,T,T,T,T,T,T,T,T,T,T,T,T,F,T,F,F,F,F,F,F,F,F] rfl rfl (any_of HT_.out (by kernel_rfl)) (fun _ _ _ h=>h) (Or.inl ⟨by rfl,?_⟩) ?_ ?_
             rotate_left
             ·intro w'
              go_simp
              with_reducible rfl
             rotate_left
             ·simp only [Act.put,zz21,zz22,zz23,i64_w,i32_w]
              rfl
             refine pure_ (i:=24) (N:=some 37) (v:=?_) (a':=?_) #[T,T,T,T,T,T,T,T,T,T,T,T,T,T,T,T,T,T,T,T,T,T,F,T,T,F,F,F,F,F,F,F] rfl rfl (any_of HT_.out (by kernel_rfl)) (fun _ _ _ h=>h) (Or.inl ⟨by rfl,?_⟩) ?_ ?_
             rotate_left
             ·intro w'
              go_simp
              with_reducible rfl
             rotate_left
             ·simp only [Act.put,zz21,zz22,zz23,i64_w,i32_w]
              rfl
             refine take_ (i:=22) (N:=some 35) (v:=?_) (a':=?_) #[T,T,T,T,T,T,T,T,T,T,T,T,T,T,T,T,T,T,T,T,T,T,T,T,T,F,F,F,F,F,F,F] rfl rfl (take_ofW HT_.out HW_.out (by kernel_rfl)) (fun _ _ _ h=>h) (Or.inl ⟨by rfl,?_⟩) hHeld ?_ ?_
             rotate_left
             ·rintro w' ⟨s0,s1,s2,s3,s4,s5⟩
              go_simp
              with_reducible rfl
             rotate_left
             ·simp only [Act.put,zz21,zz22,zz23,i64_w,i32_w]
              rfl
             refine pure_ (i:=25) (N:=some 38) (v:=?_) (a':=?_) #[T,T,T,T,T,T,T,T,T,T,T,T,T,T,T,T,T,T,T,T,T,T,T,T,T,T,F,F,F,F,F,F] rfl rfl (any_of HT_.out (by kernel_rfl)) (fun _ _ _ h=>h) (Or.inl ⟨by rfl,?_⟩) ?_ ?_
             rotate_left
             ·intro w'
              go_simp
              with_reducible rfl
             rotate_left
             ·simp only [Act.put,zz21,zz22,zz23,i64_w,i32_w]
              rfl
             refine take_ (i:=26) (N:=some 39) (v:=?_) (a':=?_) #[T,T,T,T,T,T,T,T,T,T,T,T,T,T,T,T,T,T,T,T,T,T,T,T,T,T,T,F,F,F,F,F] rfl rfl (take_ofW HT_.out HW_.out (by kernel_rfl)) (fun _ _ _ h=>h) (Or.inl ⟨by rfl,?_⟩) hHeld ?_ ?_
             rotate_left
             ·rintro w' ⟨s0,s1,s2,s3,s4,s5⟩
              go_simp
              with_reducible rfl
             rotate_left
             ·simp only [Act.put,zz21,zz22,zz23,i64_w,i32_w]
              rfl
             refine take_ (i:=27) (N:=some 40) (v:=?_) (a':=?_) #[T,T,T,T,T,T,T,T,T,T,T,T,T,T,T,T,T,T,T,T,T,T,T,T,T,T,T,T,F,F,F,F] rfl rfl (take_ofW HT_.out HW_.out (by kernel_rfl)) (fun _ _ _ h=>h) (Or.inl ⟨by rfl,?_⟩) hHeld ?_ ?_
             rotate_left
             ·rintro w' ⟨s0,s1,s2,s3,s4,s5⟩
              go_simp
              with_reducible rfl
             rotate_left
             ·simp only [Act.put,zz21,zz22,zz23,i64_w,i32_w]
              rfl
             refine one_ (i:=28) (N:=some 41) #[T,T,T,T,T,T,T,T,T,T,T,T,T,T,T,T,T,T,T,T,T,T,T,T,T,T,T,T,T,F,F,F] rfl rfl (one_of HT_.out (by kernel_rfl)) (by decide) (fun K hK=>?_)
             refine goes_ Tryd.func31 (by kernel_rfl) rfl #[.agg #[.int .i64 ((rd_T50 l0_1 (ji26)).f0),.int .i64 ((rd_T50 l0_1 (ji26)).f1)],.agg #[.int .i64 ((rd_T50 l0_1 x8_1).f0),.int .i64 ((rd_T50 l0_1 x8_1).f1)]] (by rfl) rfl rfl (by (try simp only [zz26,zz27,zz28]);first | done | (simp only [hji26];rfl) | rfl | (simp only [zz24,zz25];rfl)) ?_
             with_reducible refine (impl_comparePairs.calls k1 ((rd_T50 l0_1 (ji26)).f0) ((rd_T50 l0_1 (ji26)).f1) ((rd_T50 l0_1 x8_1).f0) ((rd_T50 l0_1 x8_1).f1) t174 _ A29.out).mono ?_
             rintro e w42 ⟨rfl,hb⟩
             refine ⟨_,rfl,?_⟩
             have n0_:=zz31 (zz11 (g:=gb170) (o:=.cells #[.int .i64 a0_0,.slice (some ad171) l0_1.length c0_1] 30 (0,0)) (by (with_reducible repeat (first | refine zz6 ?_ _ | refine zz7 ?_ | refine zz8 ?_ _));exact BK170.out) hb)
             have n1_:=zz31 (zz11 (g:=gb172) (o:=.cells #[.int .i64 ((rd_T50 l0_1 x8_1).f0),.int .i64 ((rd_T50 l0_1 x8_1).f1)] 50 (0,0)) (by (with_reducible repeat (first | refine zz6 ?_ _ | refine zz7 ?_ | refine zz8 ?_ _));exact BK172.out) hb)
             have n2_:=zz31 (zz4 (by repeat first | exact HB.out | apply zz2 | apply zz0 | apply zz1 | refine zz3 ?_ GE170.out | refine zz3 ?_ GE172.out) hb)
             clear BK170
             clear BK172
             clear HB
             have BK170:=n0_
             have BK172:=n1_
             have HB:=n2_
             clear n0_ n1_ n2_
             (try clear hb)
             (try clear hb2)
             (try clear hk)
             (try clear hi)
             refine hK.out _ _ ⟨(zz9 BK172.out 0).trans rfl,(zz9 BK172.out 1).trans rfl,(zz9 BK170.out 0).trans rfl,(zz9 BK170.out 1).trans rfl,((HB.out.cell (World.block_lt_of_cell? w _ hw173_0)).trans hw173_0),((HB.out.cell (World.block_lt_of_cell? w _ hw173_1)).trans hw173_1)⟩ (fun hHeld=>?_)
             clear hK K
             refine norm_ (a':=?_) ?_ ?_
             rotate_left
             ·show Act.put _ (some 41) _=_
              simp only [Act.put,zz21,zz22,zz23,i64_w,i32_w]
              rfl
             refine pure_ (i:=29) (N:=some 42) (v:=?_) (a':=?_) #[T,T,T,T,T,T,T,T,T,T,T,T,T,T,T,T,T,T,T,T,T,T,T,T,T,T,T,T,T,T,F,F] rfl rfl (any_of HT_.out (by kernel_rfl)) (fun _ _ _ h=>h) (Or.inl ⟨by rfl,?_⟩) ?_ ?_
             rotate_left
             ·intro w'
              go_simp
              with_reducible rfl
             rotate_left
             ·simp only [Act.put,zz21,zz22,zz23,i64_w,i32_w]
              rfl
             refine pure_ (i:=30) (N:=some 43) (v:=?_) (a':=?_) #[T,T,T,T,T,T,T,T,T,T,T,T,T,T,T,T,T,T,T,T,T,T,T,T,T,T,T,T,T,T,T,F] rfl rfl (any_of HT_.out (by kernel_rfl)) (fun _ _ _ h=>h) (Or.inl ⟨by rfl,?_⟩) ?_ ?_
             rotate_left
             ·intro w'
              go_simp
              with_reducible rfl
             rotate_left
             ·simp only [Act.put,zz21,zz22,zz23,i64_w,i32_w]
              rfl
             refine pure_ (i:=31) (N:=some 44) (v:=?_) (a':=?_) #[T,T,T,T,T,T,T,T,T,T,T,T,T,T,T,T,T,T,T,T,T,T,T,T,T,T,T,T,T,T,T,T] rfl rfl (any_of HT_.out (by kernel_rfl)) (fun _ _ _ h=>h) (Or.inl ⟨by rfl,?_⟩) ?_ ?_
             rotate_left
             ·intro w'
              go_simp
              with_reducible rfl
             rotate_left
             ·simp only [Act.put,zz21,zz22,zz23,i64_w,i32_w]
              rfl
             refine done_ (done_of HT_.out (by kernel_rfl)) ?_
             try go_wp2
             go_roundg k1
             case measure=>have:=HK1.out;omega
             case rel=>exact ⟨(wrap64 (x8_1+1)),(by first | rfl | (simp;done) | (simp [*];done)),H',⟨by have:=HK1.out;omega⟩,⟨by (with_reducible repeat (first | refine zz6 ?_ _ | refine zz7 ?_ | refine zz8 ?_ _));exact BK170.out⟩,⟨by repeat first | exact HB.out | apply zz2 | apply zz0 | apply zz1 | refine zz3 ?_ GE170.out | refine zz3 ?_ GE172.out⟩⟩
           ·rw [if_neg c28] at H
            exact absurd H (by simp)
          ·rw [if_neg c27] at H
           exact absurd H (by simp)
         ·rw [if_neg c25] at H
          have c25b0:decide (0 < x8_1)=false:=decide_eq_false c25
          clear c25
          have H':=zz31 H
          clear H
          have p171:0≤(x8_1:Int):=zz29 (by first | (with_reducible assumption) | assumption)
          have q171:x8_1 < (l0_1.length:Int):=zz29 (by first | (with_reducible assumption) | assumption)
          obtain ⟨ad171,e171,hx171_0,hx171_1⟩:=at_T50 HR0_1.out x8_1 p171 q171
          cases e171
          try replace hx171_0:=(HB.out.cell (World.block_lt_of_cell? w _ hx171_0)).trans hx171_0
          try replace hx171_1:=(HB.out.cell (World.block_lt_of_cell? w _ hx171_1)).trans hx171_1
          replace p171:=eq_true p171
          replace q171:=eq_true q171
          try go_wp2_with (first | ((with_reducible refine gate_dst (N:=4) rfl ?_);refine box_event ?hg (N:=4) ?hd (cs:=#[.int .i64 0,.int .i64 0]) (t:=50) ?hr ?_;(case hd=>rfl);(case hg=>rfl);(case hr=>first | (go_simp;done) | (go_simp;rfl));intro gb172 hg w43 hbox hb;have n0_:=zz31 (zz11 (g:=gb170) (o:=.cells #[.int .i64 a0_0,.slice (some ad171) l0_1.length c0_1] 30 (0,0)) (by (with_reducible repeat (first | refine zz6 ?_ _ | refine zz7 ?_ | refine zz8 ?_ _));exact BK170.out) hb);have n1_:=zz31 (zz4 (by repeat first | exact HB.out | apply zz2 | apply zz0 | apply zz1 | refine zz3 ?_ GE170.out) hb);have n2_:=zz31 (hbox);have n3_:=zz31 ((by rw [hg];exact (zz5 (by repeat first | exact HB.out | apply zz2 | apply zz0 | apply zz1 | refine zz3 ?_ GE170.out)):w.heap.size≤gb172));have n4_:=zz31 ((by rw [hg];exact (zz5 (by repeat first | exact HB.out | apply zz2 | apply zz0 | apply zz1 | refine zz3 ?_ GE170.out)):w.heap.size≤gb172));have n5_:=zz31 ((by rw [hg];exact Nat.ne_of_lt (blk_lt (g:=gb170) (o:=.cells #[.int .i64 a0_0,.slice (some ad171) l0_1.length c0_1] 30 (0,0)) (by (with_reducible repeat (first | refine zz6 ?_ _ | refine zz7 ?_ | refine zz8 ?_ _));exact BK170.out)):gb170 ≠ gb172));have n6_:=zz31 ((by rw [hg];exact Nat.ne_of_gt (blk_lt (g:=gb170) (o:=.cells #[.int .i64 a0_0,.slice (some ad171) l0_1.length c0_1] 30 (0,0)) (by (with_reducible repeat (first | refine zz6 ?_ _ | refine zz7 ?_ | refine zz8 ?_ _));exact BK170.out)):gb172 ≠ gb170));clear BK170;clear HB;have BK170:=n0_;have HB:=n1_;have BK172:=n2_;have GW172:=n3_;have GE172:=n4_;have NB170_172:=n5_;have NB172_170:=n6_;clear n0_ n1_ n2_ n3_ n4_ n5_ n6_;clear hb hbox hg;have hnb44:=NB172_170.out;have hnc44:=NB170_172.out;have hcz45_0:w43.cell? ⟨gb172,0,none⟩=some (.int .i64 0):=(zz9 BK172.out 0).trans rfl;have hcz45_1:w43.cell? ⟨gb172,1,none⟩=some (.int .i64 0):=(zz9 BK172.out 1).trans rfl;have hfz45_0:=zz10 BK172.out 0;have hfz45_1:=zz10 BK172.out 1))
          have n0_:Aside0 (((w43.setCell ⟨gb172,0,none⟩ (.int .i64 ((rd_T50 l0_1 x8_1).f0))).setCell ⟨gb172,1,none⟩ (.int .i64 ((rd_T50 l0_1 x8_1).f1))).heap[gb170]?=some (.cells #[.int .i64 a0_0,.slice (some ad171) l0_1.length c0_1] 30 (0,0))):=⟨by (with_reducible repeat (first | refine zz6 ?_ _ | refine zz7 ?_ | refine zz8 ?_ _));refine blk_far ?_ NB170_172.out _;(with_reducible repeat (first | refine zz6 ?_ _ | refine zz7 ?_ | refine zz8 ?_ _));refine blk_far ?_ NB170_172.out _;(with_reducible repeat (first | refine zz6 ?_ _ | refine zz7 ?_ | refine zz8 ?_ _));exact BK170.out⟩
          have n1_:Aside0 (((w43.setCell ⟨gb172,0,none⟩ (.int .i64 ((rd_T50 l0_1 x8_1).f0))).setCell ⟨gb172,1,none⟩ (.int .i64 ((rd_T50 l0_1 x8_1).f1))).heap[gb172]?=some (.cells #[.int .i64 ((rd_T50 l0_1 x8_1).f0),.int .i64 ((rd_T50 l0_1 x8_1).f1)] 50 (0,0))):=⟨by (with_reducible repeat (first | refine zz6 ?_ _ | refine zz7 ?_ | refine zz8 ?_ _));refine blk_put (cs:=#[.int .i64 ((rd_T50 l0_1 x8_1).f0),.int .i64 0]) ?_ 1 _ rfl;(with_reducible repeat (first | refine zz6 ?_ _ | refine zz7 ?_ | refine zz8 ?_ _));refine blk_put (cs:=#[.int .i64 0,.int .i64 0]) ?_ 0 _ rfl;(with_reducible repeat (first | refine zz6 ?_ _ | refine zz7 ?_ | refine zz8 ?_ _));exact BK172.out⟩
          have n2_:Aside0 (Below w.heap.size w ((w43.setCell ⟨gb172,0,none⟩ (.int .i64 ((rd_T50 l0_1 x8_1).f0))).setCell ⟨gb172,1,none⟩ (.int .i64 ((rd_T50 l0_1 x8_1).f1)))):=⟨by repeat first | exact HB.out | apply zz2 | apply zz0 | apply zz1 | refine zz3 ?_ GE170.out | refine zz3 ?_ GE172.out⟩
          (try clear BK170)
          (try clear BK172)
          (try clear HB)
          generalize ((w43.setCell ⟨gb172,0,none⟩ (.int .i64 ((rd_T50 l0_1 x8_1).f0))).setCell ⟨gb172,1,none⟩ (.int .i64 ((rd_T50 l0_1 x8_1).f1)))=w46 at n0_ n1_ n2_ ⊢
          have BK170:=n0_
          have BK172:=n1_
          have HB:=n2_
          clear n0_ n1_ n2_
          have n0_:=zz31 (zz7 BK170.out)
          have n1_:=zz31 (zz7 BK172.out)
          have n2_:=zz31 (zz1 HB.out)
          clear BK170
          clear BK172
          clear HB
          have BK170:=n0_
          have BK172:=n1_
          have HB:=n2_
          clear n0_ n1_ n2_
          refine start_ (n:=32) (S:=fun w'=>w'.cell? ⟨gb172,0,none⟩=some (.int .i64 ((rd_T50 l0_1 x8_1).f0))∧w'.cell? ⟨gb172,1,none⟩=some (.int .i64 ((rd_T50 l0_1 x8_1).f1))∧w'.cell? ⟨gb170,0,none⟩=some (.int .i64 a0_0)∧w'.cell? ⟨gb170,1,none⟩=some (.slice (some ad171) l0_1.length c0_1)) (ds:=[]) #[F,F,F,F,F,F,F,F,F,F,F,F,F,F,F,F,F,F,F,F,F,F,F,F,F,F,F,F,F,F,F,F] (by kernel_rfl) rfl rfl ⟨(zz9 BK172.out 0).trans rfl,(zz9 BK172.out 1).trans rfl,(zz9 BK170.out 0).trans rfl,(zz9 BK170.out 1).trans rfl⟩ (fun hHeld=>?_);refine with_tabW impl_IsParty.tab4 impl_IsParty.bits4 (fun HT_ HW_=>?_)
          generalize w46.drew=w47 at BK170 BK172 HB hHeld ⊢
          refine pure_ (i:=0) (N:=some 13) (v:=?_) (a':=?_) #[T,F,F,F,F,F,F,F,F,F,F,F,F,F,F,F,F,F,F,F,F,F,F,F,F,F,F,F,F,F,F,F] rfl rfl (any_of HT_.out (by kernel_rfl)) (fun _ _ _ h=>h) (Or.inl ⟨by rfl,?_⟩) ?_ ?_
          rotate_left
          ·intro w'
           go_simp
           with_reducible rfl
          rotate_left
          ·simp only [Act.put,zz21,zz22,zz23,i64_w,i32_w]
           rfl
          refine take_ (i:=1) (N:=some 14) (v:=?_) (a':=?_) #[T,T,F,F,F,F,F,F,F,F,F,F,F,F,F,F,F,F,F,F,F,F,F,F,F,F,F,F,F,F,F,F] rfl rfl (take_ofW HT_.out HW_.out (by kernel_rfl)) (fun _ _ _ h=>h) (Or.inl ⟨by rfl,?_⟩) hHeld ?_ ?_
          rotate_left
          ·rintro w' ⟨s0,s1,s2,s3⟩
           go_simp
           with_reducible rfl
          rotate_left
          ·simp only [Act.put,zz21,zz22,zz23,i64_w,i32_w]
           rfl
          refine pure_ (i:=2) (N:=some 15) (v:=?_) (a':=?_) #[T,T,T,F,F,F,F,F,F,F,F,F,F,F,F,F,F,F,F,F,F,F,F,F,F,F,F,F,F,F,F,F] rfl rfl (any_of HT_.out (by kernel_rfl)) (fun _ _ _ h=>h) (Or.inl ⟨by rfl,?_⟩) ?_ ?_
          rotate_left
          ·intro w'
           go_simp
           with_reducible rfl
          rotate_left
          ·simp only [Act.put,zz21,zz22,zz23,i64_w,i32_w]
           rfl
          refine pure_ (i:=3) (N:=some 16) (v:=?_) (a':=?_) #[T,T,T,T,F,F,F,F,F,F,F,F,F,F,F,F,F,F,F,F,F,F,F,F,F,F,F,F,F,F,F,F] rfl rfl (any_of HT_.out (by kernel_rfl)) (fun _ _ _ h=>h) (Or.inl ⟨by rfl,?_⟩) ?_ ?_
          rotate_left
          ·intro w'
           go_simp
           with_reducible rfl
          rotate_left
          ·simp only [Act.put,zz21,zz22,zz23,i64_w,i32_w]
           rfl
          refine pure_ (i:=4) (N:=some 17) (v:=?_) (a':=?_) #[T,T,T,T,T,F,F,F,F,F,F,F,F,F,F,F,F,F,F,F,F,F,F,F,F,F,F,F,F,F,F,F] rfl rfl (any_of HT_.out (by kernel_rfl)) (fun _ _ _ h=>h) (Or.inl ⟨by rfl,?_⟩) ?_ ?_
          rotate_left
          ·intro w'
           go_simp
           with_reducible rfl
          rotate_left
          ·simp only [Act.put,zz21,zz22,zz23,i64_w,i32_w]
           rfl
          refine pure_ (i:=6) (N:=some 19) (v:=?_) (a':=?_) #[T,T,T,T,T,F,T,F,F,F,F,F,F,F,F,F,F,F,F,F,F,F,F,F,F,F,F,F,F,F,F,F] rfl rfl (any_of HT_.out (by kernel_rfl)) (fun _ _ _ h=>h) (Or.inl ⟨by rfl,?_⟩) ?_ ?_
          rotate_left
          ·intro w'
           go_simp
           with_reducible rfl
          rotate_left
          ·simp only [Act.put,zz21,zz22,zz23,i64_w,i32_w]
           rfl
          refine take_ (i:=5) (N:=some 18) (v:=?_) (a':=?_) #[T,T,T,T,T,T,T,F,F,F,F,F,F,F,F,F,F,F,F,F,F,F,F,F,F,F,F,F,F,F,F,F] rfl rfl (take_ofW HT_.out HW_.out (by kernel_rfl)) (fun _ _ _ h=>h) (Or.inl ⟨by rfl,?_⟩) hHeld ?_ ?_
          rotate_left
          ·rintro w' ⟨s0,s1,s2,s3⟩
           go_simp
           with_reducible rfl
          rotate_left
          ·simp only [Act.put,zz21,zz22,zz23,i64_w,i32_w]
           rfl
          refine take_ (i:=7) (N:=some 20) (v:=?_) (a':=?_) #[T,T,T,T,T,T,T,T,F,F,F,F,F,F,F,F,F,F,F,F,F,F,F,F,F,F,F,F,F,F,F,F] rfl rfl (take_ofW HT_.out HW_.out (by kernel_rfl)) (fun _ _ _ h=>h) (Or.inl ⟨by rfl,?_⟩) hHeld ?_ ?_
          rotate_left
          ·rintro w' ⟨s0,s1,s2,s3⟩
           go_simp
           with_reducible rfl
          rotate_left
          ·simp only [Act.put,zz21,zz22,zz23,i64_w,i32_w]
           rfl
          refine pure_ (i:=8) (N:=some 21) (v:=?_) (a':=?_) #[T,T,T,T,T,T,T,T,T,F,F,F,F,F,F,F,F,F,F,F,F,F,F,F,F,F,F,F,F,F,F,F] rfl rfl (any_of HT_.out (by kernel_rfl)) (fun _ _ _ h=>h) (Or.inl ⟨by rfl,?_⟩) ?_ ?_
          rotate_left
          ·intro w'
           go_simp
           with_reducible rfl
          rotate_left
          ·simp only [Act.put,zz21,zz22,zz23,i64_w,i32_w]
           rfl
          refine pure_ (i:=9) (N:=some 22) (v:=?_) (a':=?_) #[T,T,T,T,T,T,T,T,T,T,F,F,F,F,F,F,F,F,F,F,F,F,F,F,F,F,F,F,F,F,F,F] rfl rfl (any_of HT_.out (by kernel_rfl)) (fun _ _ _ h=>h) (Or.inl ⟨by rfl,?_⟩) ?_ ?_
          rotate_left
          ·intro w'
           go_simp
           with_reducible rfl
          rotate_left
          ·simp only [Act.put,zz21,zz22,zz23,i64_w,i32_w]
           rfl
          refine pure_ (i:=10) (N:=some 23) (v:=?_) (a':=?_) #[T,T,T,T,T,T,T,T,T,T,T,F,F,F,F,F,F,F,F,F,F,F,F,F,F,F,F,F,F,F,F,F] rfl rfl (any_of HT_.out (by kernel_rfl)) (fun _ _ _ h=>h) (Or.inl ⟨by rfl,?_⟩) ?_ ?_
          rotate_left
          ·intro w'
           go_simp
           with_reducible rfl
          rotate_left
          ·simp only [Act.put,zz21,zz22,zz23,i64_w,i32_w]
           rfl
          refine pure_ (i:=11) (N:=some 24) (v:=?_) (a':=?_) #[T,T,T,T,T,T,T,T,T,T,T,T,F,F,F,F,F,F,F,F,F,F,F,F,F,F,F,F,F,F,F,F] rfl rfl (any_of HT_.out (by kernel_rfl)) (fun _ _ _ h=>h) (Or.inl ⟨by rfl,?_⟩) ?_ ?_
          rotate_left
          ·intro w'
           go_simp
           with_reducible rfl
          rotate_left
          ·simp only [Act.put,zz21,zz22,zz23,i64_w,i32_w]
           rfl
          refine pure_ (i:=13) (N:=some 26) (v:=?_) (a':=?_) #[T,T,T,T,T,T,T,T,T,T,T,T,F,T,F,F,F,F,F,F,F,F,F,F,F,F,F,F,F,F,F,F] rfl rfl (any_of HT_.out (by kernel_rfl)) (fun _ _ _ h=>h) (Or.inl ⟨by rfl,?_⟩) ?_ ?_
          rotate_left
          ·intro w'
           go_simp
           with_reducible rfl
          rotate_left
          ·simp only [Act.put,zz21,zz22,zz23,i64_w,i32_w]
           rfl
          refine take_ (i:=12) (N:=some 25) (v:=?_) (a':=?_) #[T,T,T,T,T,T,T,T,T,T,T,T,T,T,F,F,F,F,F,F,F,F,F,F,F,F,F,F,F,F,F,F] rfl rfl (take_ofW HT_.out HW_.out (by kernel_rfl)) (fun _ _ _ h=>h) (Or.inl ⟨by rfl,?_⟩) hHeld ?_ ?_
          rotate_left
          ·rintro w' ⟨s0,s1,s2,s3⟩
           go_simp
           with_reducible rfl
          rotate_left
          ·simp only [Act.put,zz21,zz22,zz23,i64_w,i32_w]
           rfl
          refine take_ (i:=14) (N:=some 27) (v:=?_) (a':=?_) #[T,T,T,T,T,T,T,T,T,T,T,T,T,T,T,F,F,F,F,F,F,F,F,F,F,F,F,F,F,F,F,F] rfl rfl (take_ofW HT_.out HW_.out (by kernel_rfl)) (fun _ _ _ h=>h) (Or.inl ⟨by rfl,?_⟩) hHeld ?_ ?_
          rotate_left
          ·rintro w' ⟨s0,s1,s2,s3⟩
           go_simp
           with_reducible rfl
          rotate_left
          ·simp only [Act.put,zz21,zz22,zz23,i64_w,i32_w]
           rfl
          refine pure_ (i:=15) (N:=some 28) (v:=?_) (a':=?_) #[T,T,T,T,T,T,T,T,T,T,T,T,T,T,T,T,F,F,F,F,F,F,F,F,F,F,F,F,F,F,F,F] rfl rfl (any_of HT_.out (by kernel_rfl)) (fun _ _ _ h=>h) (Or.inl ⟨by rfl,?_⟩) ?_ ?_
          rotate_left
          ·intro w'
           go_simp
           with_reducible rfl
          rotate_left
          ·simp only [Act.put,zz21,zz22,zz23,i64_w,i32_w]
           rfl
          refine pure_ (i:=16) (N:=some 29) (v:=?_) (a':=?_) #[T,T,T,T,T,T,T,T,T,T,T,T,T,T,T,T,T,F,F,F,F,F,F,F,F,F,F,F,F,F,F,F] rfl rfl (any_of HT_.out (by kernel_rfl)) (fun _ _ _ h=>h) (Or.inl ⟨by rfl,?_⟩) ?_ ?_
          rotate_left
          ·intro w'
           go_simp
           with_reducible rfl
          rotate_left
          ·simp only [Act.put,zz21,zz22,zz23,i64_w,i32_w]
           rfl
          refine pure_ (i:=17) (N:=some 30) (v:=?_) (a':=?_) #[T,T,T,T,T,T,T,T,T,T,T,T,T,T,T,T,T,T,F,F,F,F,F,F,F,F,F,F,F,F,F,F] rfl rfl (any_of HT_.out (by kernel_rfl)) (fun _ _ _ h=>h) (Or.inl ⟨by rfl,?_⟩) ?_ ?_
          rotate_left
          ·intro w'
           go_simp
           with_reducible rfl
          rotate_left
          ·simp only [Act.put,zz21,zz22,zz23,i64_w,i32_w]
           rfl
          refine pure_ (i:=18) (N:=some 31) (v:=?_) (a':=?_) #[T,T,T,T,T,T,T,T,T,T,T,T,T,T,T,T,T,T,T,F,F,F,F,F,F,F,F,F,F,F,F,F] rfl rfl (any_of HT_.out (by kernel_rfl)) (fun _ _ _ h=>h) (Or.inl ⟨by rfl,?_⟩) ?_ ?_
          rotate_left
          ·intro w'
           go_simp
           with_reducible rfl
          rotate_left
          ·simp only [Act.put,zz21,zz22,zz23,i64_w,i32_w]
           rfl
          refine pure_ (i:=19) (N:=some 32) (v:=?_) (a':=?_) #[T,T,T,T,T,T,T,T,T,T,T,T,T,T,T,T,T,T,T,T,F,F,F,F,F,F,F,F,F,F,F,F] rfl rfl (any_of HT_.out (by kernel_rfl)) (fun _ _ _ h=>h) (Or.inl ⟨by rfl,?_⟩) ?_ ?_
          rotate_left
          ·intro w'
           go_simp
           with_reducible rfl
          rotate_left
          ·simp only [Act.put,zz21,zz22,zz23,i64_w,i32_w]
           rfl
          refine pure_ (i:=20) (N:=some 33) (v:=?_) (a':=?_) #[T,T,T,T,T,T,T,T,T,T,T,T,T,T,T,T,T,T,T,T,T,F,F,F,F,F,F,F,F,F,F,F] rfl rfl (any_of HT_.out (by kernel_rfl)) (fun _ _ _ h=>h) (Or.inl ⟨by rfl,?_⟩) ?_ ?_
          rotate_left
          ·intro w'
           go_simp
           with_reducible rfl
          rotate_left
          ·simp only [Act.put,zz21,zz22,zz23,i64_w,i32_w]
           rfl
          refine pure_ (i:=21) (N:=some 34) (v:=undef) (a':=?_) #[T,T,T,T,T,T,T,T,T,T,T,T,T,T,T,T,T,T,T,T,T,T,F,F,F,F,F,F,F,F,F,F] rfl rfl (any_of HT_.out (by kernel_rfl)) (fun _ _ _ h=>h) (Or.inr ⟨by rfl,rfl⟩) ?_ ?_
          rotate_left
          ·simp only [Act.put,zz21,zz22,zz23,i64_w,i32_w]
           rfl
          refine pure_ (i:=22) (N:=some 35) (v:=undef) (a':=?_) #[T,T,T,T,T,T,T,T,T,T,T,T,T,T,T,T,T,T,T,T,T,T,T,F,F,F,F,F,F,F,F,F] rfl rfl (any_of HT_.out (by kernel_rfl)) (fun _ _ _ h=>h) (Or.inr ⟨by rfl,rfl⟩) ?_ ?_
          rotate_left
          ·simp only [Act.put,zz21,zz22,zz23,i64_w,i32_w]
           rfl
          refine pure_ (i:=23) (N:=some 36) (v:=undef) (a':=?_) #[T,T,T,T,T,T,T,T,T,T,T,T,T,T,T,T,T,T,T,T,T,T,T,T,F,F,F,F,F,F,F,F] rfl rfl (any_of HT_.out (by kernel_rfl)) (fun _ _ _ h=>h) (Or.inr ⟨by rfl,rfl⟩) ?_ ?_
          rotate_left
          ·simp only [Act.put,zz21,zz22,zz23,i64_w,i32_w]
           rfl
          refine pure_ (i:=24) (N:=some 37) (v:=undef) (a':=?_) #[T,T,T,T,T,T,T,T,T,T,T,T,T,T,T,T,T,T,T,T,T,T,T,T,T,F,F,F,F,F,F,F] rfl rfl (any_of HT_.out (by kernel_rfl)) (fun _ _ _ h=>h) (Or.inr ⟨by rfl,rfl⟩) ?_ ?_
          rotate_left
          ·simp only [Act.put,zz21,zz22,zz23,i64_w,i32_w]
           rfl
          refine pure_ (i:=25) (N:=some 38) (v:=undef) (a':=?_) #[T,T,T,T,T,T,T,T,T,T,T,T,T,T,T,T,T,T,T,T,T,T,T,T,T,T,F,F,F,F,F,F] rfl rfl (any_of HT_.out (by kernel_rfl)) (fun _ _ _ h=>h) (Or.inr ⟨by rfl,rfl⟩) ?_ ?_
          rotate_left
          ·simp only [Act.put,zz21,zz22,zz23,i64_w,i32_w]
           rfl
          refine pure_ (i:=26) (N:=some 39) (v:=undef) (a':=?_) #[T,T,T,T,T,T,T,T,T,T,T,T,T,T,T,T,T,T,T,T,T,T,T,T,T,T,T,F,F,F,F,F] rfl rfl (any_of HT_.out (by kernel_rfl)) (fun _ _ _ h=>h) (Or.inr ⟨by rfl,rfl⟩) ?_ ?_
          rotate_left
          ·simp only [Act.put,zz21,zz22,zz23,i64_w,i32_w]
           rfl
          refine pure_ (i:=27) (N:=some 40) (v:=undef) (a':=?_) #[T,T,T,T,T,T,T,T,T,T,T,T,T,T,T,T,T,T,T,T,T,T,T,T,T,T,T,T,F,F,F,F] rfl rfl (any_of HT_.out (by kernel_rfl)) (fun _ _ _ h=>h) (Or.inr ⟨by rfl,rfl⟩) ?_ ?_
          rotate_left
          ·simp only [Act.put,zz21,zz22,zz23,i64_w,i32_w]
           rfl
          refine pure_ (i:=28) (N:=some 41) (v:=undef) (a':=?_) #[T,T,T,T,T,T,T,T,T,T,T,T,T,T,T,T,T,T,T,T,T,T,T,T,T,T,T,T,T,F,F,F] rfl rfl (any_of HT_.out (by kernel_rfl)) (fun _ _ _ h=>h) (Or.inr ⟨by rfl,rfl⟩) ?_ ?_
          rotate_left
          ·simp only [Act.put,zz21,zz22,zz23,i64_w,i32_w]
           rfl
          refine pure_ (i:=29) (N:=some 42) (v:=undef) (a':=?_) #[T,T,T,T,T,T,T,T,T,T,T,T,T,T,T,T,T,T,T,T,T,T,T,T,T,T,T,T,T,T,F,F] rfl rfl (any_of HT_.out (by kernel_rfl)) (fun _ _ _ h=>h) (Or.inr ⟨by rfl,rfl⟩) ?_ ?_
          rotate_left
          ·simp only [Act.put,zz21,zz22,zz23,i64_w,i32_w]
           rfl
          refine pure_ (i:=30) (N:=some 43) (v:=?_) (a':=?_) #[T,T,T,T,T,T,T,T,T,T,T,T,T,T,T,T,T,T,T,T,T,T,T,T,T,T,T,T,T,T,T,F] rfl rfl (any_of HT_.out (by kernel_rfl)) (fun _ _ _ h=>h) (Or.inl ⟨by rfl,?_⟩) ?_ ?_
          rotate_left
          ·intro w'
           go_simp
           with_reducible rfl
          rotate_left
          ·simp only [Act.put,zz21,zz22,zz23,i64_w,i32_w]
           rfl
          refine pure_ (i:=31) (N:=some 44) (v:=?_) (a':=?_) #[T,T,T,T,T,T,T,T,T,T,T,T,T,T,T,T,T,T,T,T,T,T,T,T,T,T,T,T,T,T,T,T] rfl rfl (any_of HT_.out (by kernel_rfl)) (fun _ _ _ h=>h) (Or.inl ⟨by rfl,?_⟩) ?_ ?_
          rotate_left
          ·intro w'
           go_simp
           with_reducible rfl
          rotate_left
          ·simp only [Act.put,zz21,zz22,zz23,i64_w,i32_w]
           rfl
          refine done_ (done_of HT_.out (by kernel_rfl)) ?_
          try go_wp2
          go_roundg k1
          case measure=>have:=HK1.out;omega
          case rel=>exact ⟨(wrap64 (x8_1+1)),(by first | rfl | (simp;done) | (simp [*];done)),H',⟨by have:=HK1.out;omega⟩,⟨by (with_reducible repeat (first | refine zz6 ?_ _ | refine zz7 ?_ | refine zz8 ?_ _));exact BK170.out⟩,⟨by repeat first | exact HB.out | apply zz2 | apply zz0 | apply zz1 | refine zz3 ?_ GE170.out | refine zz3 ?_ GE172.out⟩⟩
     ·rw [if_neg c6] at H
      exact absurd H (by simp)
    ·rw [if_neg c5] at H
     exact absurd H (by simp)
   ·rw [if_neg c4] at H
    have c4b0:decide (x8_1 < (l0_1.length:Int))=false:=decide_eq_false c4
    clear c4
    replace H:=zz30.mp H
    obtain ⟨t175,A480,H⟩:=H
    replace H:(some t175)=some r:=H
    have A48:=zz31 A480
    clear A480
    obtain rfl:=Option.some.inj H
    have hcz49_0:wr.cell? ⟨gb170,0,none⟩=some (.int .i64 a0_0):=(zz9 BK170.out 0).trans rfl
    have hcz49_1:wr.cell? ⟨gb170,1,none⟩=some (.slice A0_1 l0_1.length c0_1):=(zz9 BK170.out 1).trans rfl
    have hfz49_0:=zz10 BK170.out 0
    have hfz49_1:=zz10 BK170.out 1
    go_wp2_with (first | ((with_reducible refine gate_callee (f:=32) rfl ?_);refine goesL_ (some 48) rfl rfl Tryd.func32 (by kernel_rfl) rfl #[.int .i64 a0_0] rfl (by (try simp only [zz26,zz27,zz28]);first | done | rfl | (simp only [zz24,zz25];rfl)) ?_;(with_reducible refine (impl_areCrowd.calls a0_0 t175 _ A48.out).mono ?_);rintro e w' ⟨rfl,⟨nd,rfl⟩⟩;refine ⟨_,rfl,?_⟩))
    go_ret
    exact ⟨by first | rfl | (simp [errW_none,errW_some] <;> rfl) | (simp [*,errW_none,errW_some] <;> rfl),by repeat first | exact HB.out | apply zz2 | apply zz0 | apply zz1 | refine zz3 ?_ GE170.out⟩

-- NOT PRINTED: function 62 (strconv_small)

-- NOT PRINTED: function 74 (strconv_log10Pow2)

-- NOT PRINTED: function 75 (bits_Len64)

-- NOT PRINTED: function 76 (strconv_bool2_int)

-- NOT PRINTED: function 63 (strconv_numDigits)

-- NOT PRINTED: function 64 (strconv_formatBase10)

-- NOT PRINTED: function 77 (strconv_isPowerOfTwo)

-- NOT PRINTED: function 83 (bits_TrailingZeros32)

-- NOT PRINTED: function 84 (bits_TrailingZeros64)

-- NOT PRINTED: function 78 (bits_TrailingZeros)

-- NOT PRINTED: function 65 (strconv_formatBits)

-- NOT PRINTED: function 53 (strconv_FormatInt)

-- NOT PRINTED: function 46 (strconv_Itoa_46)

/-! ### strconv_Itoa_33: function 33 (a contract of our own) -/
def itoaLaysRen:Go.Shelf.Ren:=⟨fun | 171=>33 | 243=>46 | 246=>53 | 283=>62 | 284=>63 | 285=>64 | 286=>65 | 129=>75 | 317=>74 | 318=>76 | 319=>77 | 320=>78 | 337=>83 | 338=>84 | n=>n,fun | 3=>3 | 9=>9 | 2=>2 | 4=>4 | 171=>92 | 0=>0 | 53=>93 | 37=>69 | 5=>5 | 173=>96 | 212=>108 | 51=>109 | 20=>20 | 213=>110 | 46=>89 | 232=>123 | 233=>124 | n=>n,fun | 17=>1 | 18=>4 | 19=>5 | n=>n⟩
theorem itoaLays:Go.Proofs.Lays.n171 Tryd.prog itoaLaysRen:={
 mixed:=by kernel_rfl
 f129:=Tryd.func75.trans (congrArg some (by kernel_rfl))
 f171:=Tryd.func33.trans (congrArg some (by kernel_rfl))
 f243:=Tryd.func46.trans (congrArg some (by kernel_rfl))
 f246:=Tryd.func53.trans (congrArg some (by kernel_rfl))
 f283:=Tryd.func62.trans (congrArg some (by kernel_rfl))
 f284:=Tryd.func63.trans (congrArg some (by kernel_rfl))
 f285:=Tryd.func64.trans (congrArg some (by kernel_rfl))
 f286:=Tryd.func65.trans (congrArg some (by kernel_rfl))
 f317:=Tryd.func74.trans (congrArg some (by kernel_rfl))
 f318:=Tryd.func76.trans (congrArg some (by kernel_rfl))
 f319:=Tryd.func77.trans (congrArg some (by kernel_rfl))
 f320:=Tryd.func78.trans (congrArg some (by kernel_rfl))
 f337:=Tryd.func83.trans (congrArg some (by kernel_rfl))
 f338:=Tryd.func84.trans (congrArg some (by kernel_rfl))
 t0:=Tryd.underlying0
 a0:=Tryd.isAgg0
 z0:=Tryd.sizeOf0
 v0:=Tryd.zeroValue0
 t2:=Tryd.underlying2
 a2:=Tryd.isAgg2
 z2:=Tryd.sizeOf2
 v2:=Tryd.zeroValue2
 t3:=Tryd.underlying3
 a3:=Tryd.isAgg3
 z3:=Tryd.sizeOf3
 v3:=Tryd.zeroValue3
 t4:=Tryd.underlying4
 a4:=Tryd.isAgg4
 z4:=Tryd.sizeOf4
 v4:=Tryd.zeroValue4
 t5:=Tryd.underlying5
 a5:=Tryd.isAgg5
 z5:=Tryd.sizeOf5
 v5:=Tryd.zeroValue5
 t9:=Tryd.underlying9
 a9:=Tryd.isAgg9
 z9:=Tryd.sizeOf9
 v9:=Tryd.zeroValue9
 t20:=Tryd.underlying20
 a20:=Tryd.isAgg20
 z20:=Tryd.sizeOf20
 v20:=Tryd.zeroValue20
 t37:=Tryd.underlying69
 a37:=Tryd.isAgg69
 z37:=Tryd.sizeOf69
 v37:=Tryd.zeroValue69
 t46:=Tryd.underlying89
 a46:=Tryd.isAgg89
 z46:=Tryd.sizeOf89
 v46:=Tryd.zeroValue89
 t51:=Tryd.underlying109
 a51:=Tryd.isAgg109
 z51:=Tryd.sizeOf109
 v51:=Tryd.zeroValue109
 t53:=Tryd.underlying93
 a53:=Tryd.isAgg93
 z53:=Tryd.sizeOf93
 v53:=Tryd.zeroValue93
 t171:=Tryd.underlying92
 a171:=Tryd.isAgg92
 z171:=Tryd.sizeOf92
 v171:=Tryd.zeroValue92
 t173:=Tryd.underlying96
 a173:=Tryd.isAgg96
 z173:=Tryd.sizeOf96
 v173:=Tryd.zeroValue96
 t212:=Tryd.underlying108
 a212:=Tryd.isAgg108
 z212:=Tryd.sizeOf108
 v212:=Tryd.zeroValue108
 t213:=Tryd.underlying110
 a213:=Tryd.isAgg110
 z213:=Tryd.sizeOf110
 t232:=Tryd.underlying123
 a232:=Tryd.isAgg123
 z232:=Tryd.sizeOf123
 v232:=Tryd.zeroValue123
 t233:=Tryd.underlying124
 a233:=Tryd.isAgg124
 z233:=Tryd.sizeOf124
 v233:=Tryd.zeroValue124
 g17:=by kernel_rfl
 g18:=by kernel_rfl
 g19:=by kernel_rfl }
def strconv_Itoa_33.f (a0:Int):Option ByteArray:=if 0≤a0∧a0 < 100 then some ⟨(Lib.decDigits a0.toNat).toArray⟩ else none
theorem strconv_Itoa_33.calls (a0:Int) (r:ByteArray) (w:World) (h:strconv_Itoa_33.f a0=some r) :
  Calls Tryd.prog 33 #[.int .i64 a0] w fun e w'=>e=.returned (.string r)∧Drawn0 w w':=by
 unfold strconv_Itoa_33.f at h
 by_cases h0:0≤a0∧a0 < 100
 case neg=>rw [if_neg h0] at h;exact absurd h (by simp)
 rw [if_pos h0] at h
 injection h with h
 obtain ⟨x,rfl⟩:=Int.eq_ofNat_of_zero_le h0.1
 subst h
 rw [show ((x:Int)).toNat=x from Int.toNat_natCast x]
 exact (Any.strconv_Itoa_small itoaLays x (by omega) w).mono fun e w' ⟨h1,h2⟩=>⟨h1,by rw [h2];exact Drawn0.refl _⟩

-- NOT PRINTED: function 66 (abi_NoEscape)

-- NOT PRINTED: function 54 (strings_Builder_copyCheck)

-- NOT PRINTED: function 67 (bytealg_MakeNoZero)

-- NOT PRINTED: function 55 (strings_Builder_grow)

-- NOT PRINTED: function 47 (strings_Builder_Grow)

-- NOT PRINTED: function 48 (strings_Builder_WriteString)

-- NOT PRINTED: function 49 (strings_Builder_String)

/-! ### strings_Join: function 34 (a contract of our own) -/
def joinLaysRen:Go.Shelf.Ren:=⟨fun | 156=>34 | 165=>47 | 166=>48 | 169=>49 | 240=>54 | 241=>55 | 276=>66 | 277=>67 | n=>n,fun | 31=>59 | 9=>9 | 3=>3 | 4=>4 | 0=>0 | 20=>20 | 72=>74 | 76=>78 | 70=>72 | 37=>69 | 75=>77 | 127=>86 | 164=>98 | 5=>5 | 80=>80 | n=>n,fun | n=>n⟩
theorem joinLays:Go.Proofs.Lays.n156 Tryd.prog joinLaysRen:={
 mixed:=by kernel_rfl
 f156:=Tryd.func34.trans (congrArg some (by kernel_rfl))
 f165:=Tryd.func47.trans (congrArg some (by kernel_rfl))
 f166:=Tryd.func48.trans (congrArg some (by kernel_rfl))
 f169:=Tryd.func49.trans (congrArg some (by kernel_rfl))
 f240:=Tryd.func54.trans (congrArg some (by kernel_rfl))
 f241:=Tryd.func55.trans (congrArg some (by kernel_rfl))
 f276:=Tryd.func66.trans (congrArg some (by kernel_rfl))
 f277:=Tryd.func67.trans (congrArg some (by kernel_rfl))
 t0:=Tryd.underlying0
 a0:=Tryd.isAgg0
 z0:=Tryd.sizeOf0
 v0:=Tryd.zeroValue0
 t3:=Tryd.underlying3
 a3:=Tryd.isAgg3
 z3:=Tryd.sizeOf3
 v3:=Tryd.zeroValue3
 t4:=Tryd.underlying4
 a4:=Tryd.isAgg4
 z4:=Tryd.sizeOf4
 v4:=Tryd.zeroValue4
 t9:=Tryd.underlying9
 a9:=Tryd.isAgg9
 z9:=Tryd.sizeOf9
 v9:=Tryd.zeroValue9
 t20:=Tryd.underlying20
 a20:=Tryd.isAgg20
 z20:=Tryd.sizeOf20
 v20:=Tryd.zeroValue20
 t31:=Tryd.underlying59
 a31:=Tryd.isAgg59
 z31:=Tryd.sizeOf59
 v31:=Tryd.zeroValue59
 t37:=Tryd.underlying69
 a37:=Tryd.isAgg69
 z37:=Tryd.sizeOf69
 v37:=Tryd.zeroValue69
 t70:=Tryd.underlying72
 a70:=Tryd.isAgg72
 z70:=Tryd.sizeOf72
 v70:=Tryd.zeroValue72
 t72:=Tryd.underlying74
 a72:=Tryd.isAgg74
 z72:=Tryd.sizeOf74
 v72:=Tryd.zeroValue74
 t75:=Tryd.underlying77
 a75:=Tryd.isAgg77
 z75:=Tryd.sizeOf77
 v75:=Tryd.zeroValue77
 t76:=Tryd.underlying78
 a76:=Tryd.isAgg78
 z76:=Tryd.sizeOf78
 v76:=Tryd.zeroValue78
 t127:=Tryd.underlying86
 a127:=Tryd.isAgg86
 z127:=Tryd.sizeOf86
 v127:=Tryd.zeroValue86
 t164:=Tryd.underlying98
 a164:=Tryd.isAgg98
 z164:=Tryd.sizeOf98
 v164:=Tryd.zeroValue98 }
theorem joinExtra:Builder.Extra Tryd.prog joinLaysRen:={
 sizeBuilder:=by kernel_rfl
 liesBuilder:=by kernel_rfl
 t5:=Tryd.underlying5
 a5:=Tryd.isAgg5
 z5:=Tryd.sizeOf5
 v5:=Tryd.zeroValue5
 infoByte:=by kernel_rfl
 cellsByte:=by kernel_rfl
 sizeByte:=by kernel_rfl
 neB5:=by decide }
def strings_Join.f (l0:List ByteArray) (a1:ByteArray):Option ByteArray:=if l0.length≤140737488355328∧(Lib.join (l0.map (·.data.toList)) a1.data.toList).length≤140737488355328 then some ⟨(Lib.join (l0.map (·.data.toList)) a1.data.toList).toArray⟩ else none
theorem spot_none {w:World} {ad:Addr} {v:Value} (h:w.cell? ad=some v):ad.spot=none:=by
 unfold World.cell? at h
 cases hs:ad.spot with
 | none=>rfl
 | some x=>rw [hs] at h;split at h <;> simp at h
theorem strings_Join.calls (A0:Option Addr) (c0:Nat) (l0:List ByteArray) (a1:ByteArray) (r:ByteArray) (w:World) (hr0:Kd.C Kd.string w A0 l0.length l0) (hc0:l0.length≤c0) (h:strings_Join.f l0 a1=some r) :
  Calls Tryd.prog 34 #[.slice A0 l0.length c0,.string a1] w fun e w'=>e=.returned (.string r)∧Below w.heap.size w w':=by
 unfold strings_Join.f at h
 by_cases hl:l0.length≤140737488355328∧(Lib.join (l0.map (·.data.toList)) a1.data.toList).length≤140737488355328
 case neg=>rw [if_neg hl] at h;exact absurd h (by simp)
 rw [if_pos hl] at h
 injection h with h
 subst h
 rcases Nat.eq_zero_or_pos l0.length with hz | hz
 ·obtain rfl:l0=[]:=List.eq_nil_of_length_eq_zero hz
  exact (Any.strings_Join_none joinLays joinExtra A0 c0 a1 w).mono fun e w' ⟨h1,h2⟩=>⟨h1,by rw [h2];exact Below.refl _ _⟩
 ·obtain ⟨ad,rfl,hcell⟩:=Kd.at_string hr0 0 (Int.le_refl 0) (by omega)
  have hs:ad.spot=none:=by have:=spot_none hcell;simpa [Addr.add] using this
  obtain ⟨b,o,s⟩:=ad
  obtain rfl:s=none:=hs
  have hb:b < w.heap.size:=by have:=World.block_lt_of_cell? w _ hcell;simpa [Addr.add] using this
  refine Any.strings_Join joinLays joinExtra b o c0 l0 a1 w (fun j x hx=>?_) hb hl.1 hc0 hl.2
  have hj:j < l0.length:=by
   rcases Nat.lt_or_ge j l0.length with h2 | h2
   ·exact h2
   ·rw [List.getElem?_eq_none h2] at hx;cases hx
  obtain ⟨ad,e,hc⟩:=Kd.at_string hr0 (j:Int) (by omega) (by omega)
  cases e
  have hx2:rdOf ByteArray.empty l0 (j:Int)=x:=by
   unfold rdOf
   rw [Int.toNat_natCast,List.getD_eq_getElem?_getD,hx];rfl
  rw [hx2,Int.toNat_natCast] at hc
  rw [show (⟨b,o,none⟩:Addr).add j=⟨b,o+j,none⟩ from by unfold Addr.add;split <;> simp_all] at hc
  exact hc

/-! ### impl_partyText: function 19 -/
def impl_partyText.l0:Nat→List ByteArray→List (S50)→Int→Int→Int→List (S50)→Option (ByteArray)
 | 0,_,_,_,_,_,_=>none
 | k+1,x3,x8,x9,x10,x177000,x177001=>if x10 < x9 then (if 0≤x10 then (if x10 < (x8.length:Int) then ((strconv_Itoa_33.f ((rd_T50 x8 x10).f0)).bind fun t182=>(if t182.size+1≤9223372036854775807 then ((strconv_Itoa_33.f ((rd_T50 x8 x10).f1)).bind fun t183=>(if (t182 ++ (⟨#[45]⟩:ByteArray)).size+t183.size≤9223372036854775807 then (if x3.length < 8796093022208 then (impl_partyText.l0 k (x3 ++ [(t182 ++ (⟨#[45]⟩:ByteArray)) ++ t183]) x8 x9 (wrap64 (x10+1)) x177000 x177001) else (none)) else (none))) else (none))) else (none)) else (none)) else ((strconv_Itoa_33.f x177000).bind fun t187=>(if t187.size+1≤9223372036854775807 then ((strings_Join.f x3 (⟨#[44]⟩:ByteArray)).bind fun t188=>(if (t187 ++ (⟨#[58]⟩:ByteArray)).size+t188.size≤9223372036854775807 then (some ((t187 ++ (⟨#[58]⟩:ByteArray)) ++ t188)) else (none))) else (none)))
def impl_partyText.f (k:Nat) (a0_0:Int) (l0_1:List (S50)):Option (ByteArray):=impl_partyText.l0 k (([]:List ByteArray)) l0_1 (l0_1.length:Int) 0 a0_0 l0_1
theorem impl_partyText.mono_l:∀ k,(∀ y0 y1 y2 y3 y4 y5,LeO (impl_partyText.l0 k y0 y1 y2 y3 y4 y5) (impl_partyText.l0 (k+1) y0 y1 y2 y3 y4 y5))
 | 0=>fun _ _ _ _ _ _ r h=>by simp [impl_partyText.l0] at h
 | k+1=>by
  have ih0:=impl_partyText.mono_l k
  ·intro y0 y1 y2 y3 y4 y5
   unfold impl_partyText.l0
   repeat' first
   | (with_reducible exact ih0 _ _ _ _ _ _)
   | (with_reducible exact LeO.refl _)
   | (with_reducible exact LeO.none _)
   | (with_reducible refine LeO.ite ?_ ?_)
   | (with_reducible refine LeO.bind ?_ (fun _=>?_))
   | exact ih0 _ _ _ _ _ _
   | exact LeO.none _
   | refine LeO.ite ?_ ?_
   | refine LeO.bind ?_ (fun _=>?_)
theorem impl_partyText.mono:∀ a0 a1 k,LeO (impl_partyText.f k a0 a1) (impl_partyText.f (k+1) a0 a1):=by
 intro a0 a1 k
 have ih0:=impl_partyText.mono_l k
 unfold impl_partyText.f
 repeat' first
   | (with_reducible exact ih0 _ _ _ _ _ _)
   | (with_reducible exact LeO.refl _)
   | (with_reducible exact LeO.none _)
   | (with_reducible refine LeO.ite ?_ ?_)
   | (with_reducible refine LeO.bind ?_ (fun _=>?_))
   | exact ih0 _ _ _ _ _ _
   | exact LeO.none _
   | refine LeO.ite ?_ ?_
   | refine LeO.bind ?_ (fun _=>?_)
def impl_partyText.T5:Bool × List (List Nat × List Nat):=(true,[([],[]),([],[]),([1],[1]),([2],[2]),([3],[3]),([],[]),([5],[5]),([6,3],[6]),([4,7],[4,7]),([8],[8]),([0,9,7],[0,9]),([10,10,0,1,2,3,4,5,6,7,8,9,10],[0,10])])
def impl_partyText.B5:List Nat:=[0,0,2,6,14,0,32,110,254,510,1023,2047]
theorem impl_partyText.tab5:rtab .any (opsOf Tryd.f19 5)=impl_partyText.T5:=by kernel_rfl
theorem impl_partyText.bits5:waitsOk impl_partyText.T5.2 impl_partyText.B5=true:=by kernel_rfl
set_option maxHeartbeats 8000000 in
set_option maxRecDepth 100000 in
theorem impl_partyText.calls (k:Nat) (a0_0:Int) (A0_1:Option Addr) (c0_1:Nat) (l0_1:List (S50)) (r:ByteArray) (w:World) (hr0_1:Kd.C k50 w A0_1 l0_1.length l0_1) (hc0_1:l0_1.length≤c0_1) (h:impl_partyText.f k a0_0 l0_1=some r) :
  Calls Tryd.prog 19 #[.agg #[.int .i64 a0_0,.slice A0_1 l0_1.length c0_1]] w fun e w'=>e=.returned (.string r)∧Below w.heap.size w w':=by
 have hu30:=Tryd.underlying30
 have hu50:=Tryd.underlying50
 have HR0_1:=zz31 hr0_1
 have HC0_1:=zz31 hc0_1
 clear hr0_1 hc0_1
 have HB:=zz31 (Below.refl w.heap.size w)
 have H:(impl_partyText.l0 k (([]:List ByteArray)) l0_1 (l0_1.length:Int) 0 a0_0 l0_1)=some r:=h
 clear h
 obtain ⟨y177,hy177⟩:∃ y_:List ByteArray,y_=(([]:List ByteArray)):=⟨_,rfl⟩
 replace H:(impl_partyText.l0 k y177 l0_1 (l0_1.length:Int) 0 a0_0 l0_1)=some r:=by first | (rw [hy177];with_reducible exact H) | (have H2_:=(Option.bind_some _ _).symm.trans H;rw [hy177];with_reducible exact H2_) | (have H2_:=(Option.bind_some _ _).symm.trans H;with_reducible exact H2_) | with_reducible exact H | (rw [hy177];exact H) | exact H
 have Ny177:=zz31 hy177
 clear hy177
 have H':=zz31 H
 clear H
 go_enter Tryd.func19,Tryd.ntmps19
 go_wp2_with (first | ((with_reducible refine gate_dst (N:=1) rfl ?_);refine box_event ?hg (N:=1) ?hd (cs:=#[.int .i64 a0_0,.slice A0_1 l0_1.length c0_1]) (t:=30) ?hr ?_;(case hd=>rfl);(case hg=>rfl);(case hr=>first | (go_simp;done) | (go_simp;rfl));intro gb176 hg w2 hbox hb;have n0_:=zz31 (zz4 (by repeat first | exact HB.out | apply zz2 | apply zz0 | apply zz1) hb);have n1_:=zz31 (hbox);have n2_:=zz31 ((by rw [hg];exact (zz5 (by repeat first | exact HB.out | apply zz2 | apply zz0 | apply zz1)):w.heap.size≤gb176));have n3_:=zz31 ((by rw [hg];exact (zz5 (by repeat first | exact HB.out | apply zz2 | apply zz0 | apply zz1)):w.heap.size≤gb176));clear HB;have HB:=n0_;have BK176:=n1_;have GW176:=n2_;have GE176:=n3_;clear n0_ n1_ n2_ n3_;clear hb hbox hg) | ((with_reducible refine gate_dst (N:=6) rfl ?_);refine Kd.R_lit Kd.string _ 9 ?hg (N:=6) ?hd (xs:=([]:List ByteArray)) (inner:=[]) (ok:=fun _=>True) (okp:=fun _=>True) ?hr ?hp (fun _ hk=>hk) trivial (Below.refl _ _) (Nat.le_refl _) (by simp) ?_;(case hd=>rfl);(case hg=>rfl);(case hr=>first | (go_simp;done) | (go_simp;rfl));(case hp=>exact (Reps.none _ _));intro v178 w3 ho4 hb hg_ hnew_;clear hg_ hnew_;(first | rw [← Ny177.out] at ho4 | (simp only [Int.reduceToNat] at ho4;rw [← Ny177.out] at ho4));have n0_:=zz31 (Kd.R_lower ho4 (zz5 (by repeat first | exact HB.out | apply zz2 | apply zz0 | apply zz1 | refine zz3 ?_ GE176.out)));have n1_:=zz31 (zz11 (g:=gb176) (o:=.cells #[.int .i64 a0_0,.slice A0_1 l0_1.length c0_1] 30 (0,0)) (by (with_reducible repeat (first | refine zz6 ?_ _ | refine zz7 ?_ | refine zz8 ?_ _));exact BK176.out) hb);have n2_:=zz31 (zz4 (by repeat first | exact HB.out | apply zz2 | apply zz0 | apply zz1 | refine zz3 ?_ GE176.out) hb);clear BK176;clear HB;have HO179:=n0_;have BK176:=n1_;have HB:=n2_;clear n0_ n1_ n2_;clear hb ho4;have hcz5_0:w3.cell? ⟨gb176,0,none⟩=some (.int .i64 a0_0):=(zz9 BK176.out 0).trans rfl;have hcz5_1:w3.cell? ⟨gb176,1,none⟩=some (.slice A0_1 l0_1.length c0_1):=(zz9 BK176.out 1).trans rfl;have hfz5_0:=zz10 BK176.out 0;have hfz5_1:=zz10 BK176.out 1))
 go_loopg [3,10] k (fun kq v3 v10 w'=>∃ (x3_1:List ByteArray) (x10_1:Int),v10=.int .i64 x10_1∧Aside0 (impl_partyText.l0 kq x3_1 l0_1 (l0_1.length:Int) x10_1 a0_0 l0_1=some r)∧Aside0 (kq≤k)∧Aside0 (Kd.R Kd.string 9 w' w.heap.size (fun _=>True) v3 x3_1)∧Aside0 (w'.heap[gb176]?=some (.cells #[.int .i64 a0_0,(.slice A0_1 l0_1.length c0_1)] 30 (0,0)))∧Aside0 (Below w.heap.size w w'))
 case atStart=>exact ⟨(y177),(0),(by first | rfl | (simp;done) | (simp [*];done)),H',⟨Nat.le_refl _⟩,⟨by (with_reducible repeat (first | apply zz12 | apply zz13 | apply zz14));exact HO179.out⟩,⟨by (with_reducible repeat (first | refine zz6 ?_ _ | refine zz7 ?_ | refine zz8 ?_ _));exact BK176.out⟩,⟨by repeat first | exact HB.out | apply zz2 | apply zz0 | apply zz1 | refine zz3 ?_ GE176.out⟩⟩
 case round =>
  clear H'
  try clear c1
  try clear p2
  try clear hcz5_0
  try clear hcz5_1
  try clear hfz5_0
  try clear hfz5_1
  obtain ⟨x3_1,x10_1,rfl,HA,HK1,HO_3,BK176,HB⟩:=hrel
  cases gk with
  | zero=>exact absurd HA.out (by simp [impl_partyText.l0])
  | succ k1 =>
   have H:=HA.out
   clear HA
   simp only [impl_partyText.l0] at H
   by_cases c6:x10_1 < (l0_1.length:Int)
   ·rw [if_pos c6] at H
    have c6b0:decide (x10_1 < (l0_1.length:Int))=true:=decide_eq_true c6
    clear c6
    by_cases c7:0≤x10_1
    ·rw [if_pos c7] at H
     have c7b0:decide (0≤x10_1)=true:=decide_eq_true c7
     clear c7
     by_cases c8:x10_1 < (l0_1.length:Int)
     ·rw [if_pos c8] at H
      have c8b0:decide (x10_1 < (l0_1.length:Int))=true:=decide_eq_true c8
      clear c8
      replace H:=zz30.mp H
      obtain ⟨t182,A90,H⟩:=H
      replace H:(if t182.size+1≤9223372036854775807 then ((strconv_Itoa_33.f ((rd_T50 l0_1 x10_1).f1)).bind fun t183=>(if (t182 ++ (⟨#[45]⟩:ByteArray)).size+t183.size≤9223372036854775807 then (if x3_1.length < 8796093022208 then (impl_partyText.l0 k1 (x3_1 ++ [(t182 ++ (⟨#[45]⟩:ByteArray)) ++ t183]) l0_1 (l0_1.length:Int) (wrap64 (x10_1+1)) a0_0 l0_1) else (none)) else (none))) else (none))=some r:=H
      have A9:=zz31 A90
      clear A90
      by_cases c10:t182.size+1≤9223372036854775807
      ·rw [if_pos c10] at H
       have c10b0:=eq_true c10
       have c10b1:decide (t182.size+1≤9223372036854775807)=true:=decide_eq_true c10
       try have c10b2:(9223372036854775807 < t182.size+1)=False:=eq_false (Nat.not_lt.2 c10)
       replace H:=zz30.mp H
       obtain ⟨t183,A110,H⟩:=H
       replace H:(if (t182 ++ (⟨#[45]⟩:ByteArray)).size+t183.size≤9223372036854775807 then (if x3_1.length < 8796093022208 then (impl_partyText.l0 k1 (x3_1 ++ [(t182 ++ (⟨#[45]⟩:ByteArray)) ++ t183]) l0_1 (l0_1.length:Int) (wrap64 (x10_1+1)) a0_0 l0_1) else (none)) else (none))=some r:=H
       have A11:=zz31 A110
       clear A110
       by_cases c12:(t182 ++ (⟨#[45]⟩:ByteArray)).size+t183.size≤9223372036854775807
       ·rw [if_pos c12] at H
        have c12b0:=eq_true c12
        have c12b1:decide ((t182 ++ (⟨#[45]⟩:ByteArray)).size+t183.size≤9223372036854775807)=true:=decide_eq_true c12
        try have c12b2:(9223372036854775807 < (t182 ++ (⟨#[45]⟩:ByteArray)).size+t183.size)=False:=eq_false (Nat.not_lt.2 c12)
        (try (have c12b3:=c12b2;simp only [ByteArray.size_append,show (⟨#[45]⟩:ByteArray).size=1 from rfl] at c12b3))
        by_cases c13:x3_1.length < 8796093022208
        ·rw [if_pos c13] at H
         have LMc13:=zz31 c13
         clear c13
         obtain ⟨y184,hy184⟩:∃ y_:List ByteArray,y_=(x3_1 ++ [(t182 ++ (⟨#[45]⟩:ByteArray)) ++ t183]):=⟨_,rfl⟩
         replace H:(impl_partyText.l0 k1 y184 l0_1 (l0_1.length:Int) (wrap64 (x10_1+1)) a0_0 l0_1)=some r:=by first | (rw [hy184];with_reducible exact H) | (have H2_:=(Option.bind_some _ _).symm.trans H;rw [hy184];with_reducible exact H2_) | (have H2_:=(Option.bind_some _ _).symm.trans H;with_reducible exact H2_) | with_reducible exact H | (rw [hy184];exact H) | exact H
         have Ny184:=zz31 hy184
         clear hy184
         have H':=zz31 H
         clear H
         have p180:0≤(x10_1:Int):=zz29 (by first | (with_reducible assumption) | assumption)
         have q180:x10_1 < (l0_1.length:Int):=zz29 (by first | (with_reducible assumption) | assumption)
         obtain ⟨ad180,e180,hx180_0,hx180_1⟩:=at_T50 HR0_1.out x10_1 p180 q180
         cases e180
         try replace hx180_0:=(HB.out.cell (World.block_lt_of_cell? w _ hx180_0)).trans hx180_0
         try replace hx180_1:=(HB.out.cell (World.block_lt_of_cell? w _ hx180_1)).trans hx180_1
         replace p180:=eq_true p180
         replace q180:=eq_true q180
         try go_wp2_with (first | ((with_reducible refine gate_dst (N:=5) rfl ?_);refine box_event ?hg (N:=5) ?hd (cs:=#[.int .i64 0,.int .i64 0]) (t:=50) ?hr ?_;(case hd=>rfl);(case hg=>rfl);(case hr=>first | (go_simp;done) | (go_simp;rfl));intro gb181 hg w14 hbox hb;have n0_:=zz31 (Kd.R_below (by (with_reducible repeat (first | apply zz12 | apply zz13 | apply zz14));exact HO_3.out) hb);have n1_:=zz31 (zz11 (g:=gb176) (o:=.cells #[.int .i64 a0_0,.slice (some ad180) l0_1.length c0_1] 30 (0,0)) (by (with_reducible repeat (first | refine zz6 ?_ _ | refine zz7 ?_ | refine zz8 ?_ _));exact BK176.out) hb);have n2_:=zz31 (zz4 (by repeat first | exact HB.out | apply zz2 | apply zz0 | apply zz1 | refine zz3 ?_ GE176.out) hb);have n3_:=zz31 (hbox);have n4_:=zz31 ((by rw [hg];exact (zz5 (by repeat first | exact HB.out | apply zz2 | apply zz0 | apply zz1 | refine zz3 ?_ GE176.out)):w.heap.size≤gb181));have n5_:=zz31 ((by rw [hg];exact (zz5 (by repeat first | exact HB.out | apply zz2 | apply zz0 | apply zz1 | refine zz3 ?_ GE176.out)):w.heap.size≤gb181));have n6_:=zz31 ((by rw [hg];exact Nat.ne_of_lt (blk_lt (g:=gb176) (o:=.cells #[.int .i64 a0_0,.slice (some ad180) l0_1.length c0_1] 30 (0,0)) (by (with_reducible repeat (first | refine zz6 ?_ _ | refine zz7 ?_ | refine zz8 ?_ _));exact BK176.out)):gb176 ≠ gb181));have n7_:=zz31 ((by rw [hg];exact Nat.ne_of_gt (blk_lt (g:=gb176) (o:=.cells #[.int .i64 a0_0,.slice (some ad180) l0_1.length c0_1] 30 (0,0)) (by (with_reducible repeat (first | refine zz6 ?_ _ | refine zz7 ?_ | refine zz8 ?_ _));exact BK176.out)):gb181 ≠ gb176));clear HO_3;clear BK176;clear HB;have HO_3:=n0_;have BK176:=n1_;have HB:=n2_;have BK181:=n3_;have GW181:=n4_;have GE181:=n5_;have NB176_181:=n6_;have NB181_176:=n7_;clear n0_ n1_ n2_ n3_ n4_ n5_ n6_ n7_;clear hb hbox hg;have hnb15:=NB181_176.out;have hnc15:=NB176_181.out;have hcz16_0:w14.cell? ⟨gb181,0,none⟩=some (.int .i64 0):=(zz9 BK181.out 0).trans rfl;have hcz16_1:w14.cell? ⟨gb181,1,none⟩=some (.int .i64 0):=(zz9 BK181.out 1).trans rfl;have hfz16_0:=zz10 BK181.out 0;have hfz16_1:=zz10 BK181.out 1))
         have n0_:Aside0 (Kd.R Kd.string 9 ((w14.setCell ⟨gb181,0,none⟩ (.int .i64 ((rd_T50 l0_1 x10_1).f0))).setCell ⟨gb181,1,none⟩ (.int .i64 ((rd_T50 l0_1 x10_1).f1))) w.heap.size (fun _=>True) u3 x3_1):=⟨by (with_reducible repeat (first | apply zz12 | apply zz13 | apply zz14));exact Kd.R_mono (Kd.R_far (p:=⟨gb181,1,none⟩) (Kd.R_far (p:=⟨gb181,0,none⟩) (Kd.R_types HO_3.out BK181.out (by decide)) (fun _ hk=>hk.2) (.int .i64 ((rd_T50 l0_1 x10_1).f0))) (fun _ hk=>hk.2) (.int .i64 ((rd_T50 l0_1 x10_1).f1))) (fun _ hk=>trivial)⟩
         have n1_:Aside0 (((w14.setCell ⟨gb181,0,none⟩ (.int .i64 ((rd_T50 l0_1 x10_1).f0))).setCell ⟨gb181,1,none⟩ (.int .i64 ((rd_T50 l0_1 x10_1).f1))).heap[gb176]?=some (.cells #[.int .i64 a0_0,.slice (some ad180) l0_1.length c0_1] 30 (0,0))):=⟨by (with_reducible repeat (first | refine zz6 ?_ _ | refine zz7 ?_ | refine zz8 ?_ _));refine blk_far ?_ NB176_181.out _;(with_reducible repeat (first | refine zz6 ?_ _ | refine zz7 ?_ | refine zz8 ?_ _));refine blk_far ?_ NB176_181.out _;(with_reducible repeat (first | refine zz6 ?_ _ | refine zz7 ?_ | refine zz8 ?_ _));exact BK176.out⟩
         have n2_:Aside0 (((w14.setCell ⟨gb181,0,none⟩ (.int .i64 ((rd_T50 l0_1 x10_1).f0))).setCell ⟨gb181,1,none⟩ (.int .i64 ((rd_T50 l0_1 x10_1).f1))).heap[gb181]?=some (.cells #[.int .i64 ((rd_T50 l0_1 x10_1).f0),.int .i64 ((rd_T50 l0_1 x10_1).f1)] 50 (0,0))):=⟨by (with_reducible repeat (first | refine zz6 ?_ _ | refine zz7 ?_ | refine zz8 ?_ _));refine blk_put (cs:=#[.int .i64 ((rd_T50 l0_1 x10_1).f0),.int .i64 0]) ?_ 1 _ rfl;(with_reducible repeat (first | refine zz6 ?_ _ | refine zz7 ?_ | refine zz8 ?_ _));refine blk_put (cs:=#[.int .i64 0,.int .i64 0]) ?_ 0 _ rfl;(with_reducible repeat (first | refine zz6 ?_ _ | refine zz7 ?_ | refine zz8 ?_ _));exact BK181.out⟩
         have n3_:Aside0 (Below w.heap.size w ((w14.setCell ⟨gb181,0,none⟩ (.int .i64 ((rd_T50 l0_1 x10_1).f0))).setCell ⟨gb181,1,none⟩ (.int .i64 ((rd_T50 l0_1 x10_1).f1)))):=⟨by repeat first | exact HB.out | apply zz2 | apply zz0 | apply zz1 | refine zz3 ?_ GE176.out | refine zz3 ?_ GE181.out⟩
         (try clear HO_3)
         (try clear BK176)
         (try clear BK181)
         (try clear HB)
         generalize ((w14.setCell ⟨gb181,0,none⟩ (.int .i64 ((rd_T50 l0_1 x10_1).f0))).setCell ⟨gb181,1,none⟩ (.int .i64 ((rd_T50 l0_1 x10_1).f1)))=w17 at n0_ n1_ n2_ n3_ ⊢
         have HO_3:=n0_
         have BK176:=n1_
         have BK181:=n2_
         have HB:=n3_
         clear n0_ n1_ n2_ n3_
         have n0_:=zz31 (zz14 HO_3.out)
         have n1_:=zz31 (zz7 BK176.out)
         have n2_:=zz31 (zz7 BK181.out)
         have n3_:=zz31 (zz1 HB.out)
         clear HO_3
         clear BK176
         clear BK181
         clear HB
         have HO_3:=n0_
         have BK176:=n1_
         have BK181:=n2_
         have HB:=n3_
         clear n0_ n1_ n2_ n3_
         refine start_ (n:=12) (S:=fun w'=>w'.cell? ⟨gb181,0,none⟩=some (.int .i64 ((rd_T50 l0_1 x10_1).f0))∧w'.cell? ⟨gb181,1,none⟩=some (.int .i64 ((rd_T50 l0_1 x10_1).f1))) (ds:=[]) #[F,F,F,F,F,F,F,F,F,F,F,F] (by kernel_rfl) rfl rfl ⟨(zz9 BK181.out 0).trans rfl,(zz9 BK181.out 1).trans rfl⟩ (fun hHeld=>?_);refine with_tabW impl_partyText.tab5 impl_partyText.bits5 (fun HT_ HW_=>?_)
         generalize w17.drew=w18 at HO_3 BK176 BK181 HB hHeld ⊢
         refine pure_ (i:=0) (N:=some 14) (v:=?_) (a':=?_) #[T,F,F,F,F,F,F,F,F,F,F,F] rfl rfl (any_of HT_.out (by kernel_rfl)) (fun _ _ _ h=>h) (Or.inl ⟨by rfl,?_⟩) ?_ ?_
         rotate_left
         ·intro w'
          go_simp
          with_reducible rfl
         rotate_left
         ·simp only [Act.put,zz21,zz22,zz23,i64_w,i32_w]
          rfl
         refine pure_ (i:=1) (N:=some 15) (v:=?_) (a':=?_) #[T,T,F,F,F,F,F,F,F,F,F,F] rfl rfl (any_of HT_.out (by kernel_rfl)) (fun _ _ _ h=>h) (Or.inl ⟨by rfl,?_⟩) ?_ ?_
         rotate_left
         ·intro w'
          go_simp
          with_reducible rfl
         rotate_left
         ·simp only [Act.put,zz21,zz22,zz23,i64_w,i32_w]
          rfl
         refine pure_ (i:=5) (N:=some 19) (v:=?_) (a':=?_) #[T,T,F,F,F,T,F,F,F,F,F,F] rfl rfl (any_of HT_.out (by kernel_rfl)) (fun _ _ _ h=>h) (Or.inl ⟨by rfl,?_⟩) ?_ ?_
         rotate_left
         ·intro w'
          go_simp
          with_reducible rfl
         rotate_left
         ·simp only [Act.put,zz21,zz22,zz23,i64_w,i32_w]
          rfl
         refine take_ (i:=2) (N:=some 16) (v:=?_) (a':=?_) #[T,T,T,F,F,T,F,F,F,F,F,F] rfl rfl (take_ofW HT_.out HW_.out (by kernel_rfl)) (fun _ _ _ h=>h) (Or.inl ⟨by rfl,?_⟩) hHeld ?_ ?_
         rotate_left
         ·rintro w' ⟨s0,s1⟩
          go_simp
          with_reducible rfl
         rotate_left
         ·simp only [Act.put,zz21,zz22,zz23,i64_w,i32_w]
          rfl
         refine take_ (i:=6) (N:=some 20) (v:=?_) (a':=?_) #[T,T,T,F,F,T,T,F,F,F,F,F] rfl rfl (take_ofW HT_.out HW_.out (by kernel_rfl)) (fun _ _ _ h=>h) (Or.inl ⟨by rfl,?_⟩) hHeld ?_ ?_
         rotate_left
         ·rintro w' ⟨s0,s1⟩
          go_simp
          with_reducible rfl
         rotate_left
         ·simp only [Act.put,zz21,zz22,zz23,i64_w,i32_w]
          rfl
         refine one_ (i:=3) (N:=some 17) #[T,T,T,T,F,T,T,F,F,F,F,F] rfl rfl (one_of HT_.out (by kernel_rfl)) (by decide) (fun K hK=>?_)
         refine goes_ Tryd.func33 (by kernel_rfl) rfl #[.int .i64 ((rd_T50 l0_1 x10_1).f0)] (by rfl) rfl rfl (by (try simp only [zz26,zz27,zz28]);first | done | rfl | (simp only [zz24,zz25];rfl)) ?_
         with_reducible refine (strconv_Itoa_33.calls ((rd_T50 l0_1 x10_1).f0) t182 _ A9.out).mono ?_
         rintro e w' ⟨rfl,⟨nd,rfl⟩⟩
         refine ⟨_,rfl,?_⟩
         refine hK.out _ _ ⟨(zz9 BK181.out 0).trans rfl,(zz9 BK181.out 1).trans rfl⟩ (fun hHeld=>?_)
         clear hK K
         refine norm_ (a':=?_) ?_ ?_
         rotate_left
         ·show Act.put _ (some 17) _=_
          simp only [Act.put,zz21,zz22,zz23,i64_w,i32_w]
          rfl
         refine pure_ (i:=4) (N:=some 18) (v:=?_) (a':=?_) #[T,T,T,T,T,T,T,F,F,F,F,F] rfl rfl (any_of HT_.out (by kernel_rfl)) (fun _ _ _ h=>h) (Or.inl ⟨by rfl,?_⟩) ?_ ?_
         rotate_left
         ·intro w'
          go_simp
          with_reducible rfl
         rotate_left
         ·simp only [Act.put,zz21,zz22,zz23,i64_w,i32_w]
          rfl
         refine one_ (i:=7) (N:=some 21) #[T,T,T,T,T,T,T,T,F,F,F,F] rfl rfl (one_of HT_.out (by kernel_rfl)) (by decide) (fun K hK=>?_)
         refine goes_ Tryd.func33 (by kernel_rfl) rfl #[.int .i64 ((rd_T50 l0_1 x10_1).f1)] (by rfl) rfl rfl (by (try simp only [zz26,zz27,zz28]);first | done | rfl | (simp only [zz24,zz25];rfl)) ?_
         with_reducible refine (strconv_Itoa_33.calls ((rd_T50 l0_1 x10_1).f1) t183 _ A11.out).mono ?_
         rintro e w' ⟨rfl,⟨nd,rfl⟩⟩
         refine ⟨_,rfl,?_⟩
         refine hK.out _ _ ⟨(zz9 BK181.out 0).trans rfl,(zz9 BK181.out 1).trans rfl⟩ (fun hHeld=>?_)
         clear hK K
         refine norm_ (a':=?_) ?_ ?_
         rotate_left
         ·show Act.put _ (some 21) _=_
          simp only [Act.put,zz21,zz22,zz23,i64_w,i32_w]
          rfl
         refine pure_ (i:=8) (N:=some 22) (v:=?_) (a':=?_) #[T,T,T,T,T,T,T,T,T,F,F,F] rfl rfl (any_of HT_.out (by kernel_rfl)) (fun _ _ _ h=>h) (Or.inl ⟨by rfl,?_⟩) ?_ ?_
         rotate_left
         ·intro w'
          go_simp
          with_reducible rfl
         rotate_left
         ·simp only [Act.put,zz21,zz22,zz23,i64_w,i32_w]
          rfl
         refine one_ (i:=9) (N:=some 23) #[T,T,T,T,T,T,T,T,T,T,F,F] rfl rfl (one_of HT_.out (by kernel_rfl)) (by decide) (fun K hK=>?_)
         refine value_ (w1:=?_) (v:=?_) (by rfl) rfl ?_ ?_
         rotate_left 2
         ·go_simp
          constructor
          ·rfl
          ·rfl
         refine hK.out _ _ ⟨(zz9 (zz8 BK181.out _) 0).trans rfl,(zz9 (zz8 BK181.out _) 1).trans rfl⟩ (fun hHeld=>?_)
         clear hK K
         refine norm_ (a':=?_) ?_ ?_
         rotate_left
         ·show Act.put _ (some 23) _=_
          simp only [Act.put,zz21,zz22,zz23,i64_w,i32_w]
          rfl
         refine one_ (i:=10) (N:=some 24) #[T,T,T,T,T,T,T,T,T,T,T,F] rfl rfl (one_of HT_.out (by kernel_rfl)) (by decide) (fun K hK=>?_)
         refine Kd.R_append_step Kd.string (w0:=w) w.heap.size (by rfl) (.tmp 14) (.tmp 23) 59 9 (.string ⟨#[]⟩) 16 rfl Tryd.underlying59 info9 rfl (by decide) (by omega) u3 x3_1 ((t182 ++ (⟨#[45]⟩:ByteArray)) ++ t183) [.string ((t182 ++ (⟨#[45]⟩:ByteArray)) ++ t183)] (fun _=>True) (fun _=>False) rfl rfl ?aP (fun _ hk=>hk.elim) ?aF ?aO ?aB ?aS ?aL ?_
         (case aP=>exact rfl)
         (case aB=>exact (by repeat first | exact HB.out | apply zz2 | apply zz0 | apply zz1 | refine zz3 ?_ GE176.out | refine zz3 ?_ GE181.out))
         (case aF=>exact (fun _ _=>trivial))
         (case aO=>exact (by (with_reducible repeat (first | apply zz12 | apply zz13 | apply zz14));exact HO_3.out))
         (case aS=>exact (zz5 (by repeat first | exact HB.out | apply zz2 | apply zz0 | apply zz1 | refine zz3 ?_ GE176.out | refine zz3 ?_ GE181.out)))
         (case aL=>have:=LMc13.out;omega)
         intro v185 w19 ho hb hg hat
         rw [← Ny184.out] at ho
         have n0_:=zz31 (blk_grown (g:=gb176) (o:=.cells #[.int .i64 a0_0,.slice (some ad180) l0_1.length c0_1] 30 (0,0)) (by (with_reducible repeat (first | refine zz6 ?_ _ | refine zz7 ?_ | refine zz8 ?_ _));exact BK176.out) hg (Kd.R_ne HO_3.out BK176.out (by decide)))
         have n1_:=zz31 (blk_grown (g:=gb181) (o:=.cells #[.int .i64 ((rd_T50 l0_1 x10_1).f0),.int .i64 ((rd_T50 l0_1 x10_1).f1)] 50 (0,0)) (by (with_reducible repeat (first | refine zz6 ?_ _ | refine zz7 ?_ | refine zz8 ?_ _));exact BK181.out) hg (Kd.R_ne HO_3.out BK181.out (by decide)))
         have n2_:=zz31 (hb)
         have n3_:=zz31 (ho)
         clear BK176
         clear BK181
         clear HB
         clear HO_3
         have BK176:=n0_
         have BK181:=n1_
         have HB:=n2_
         have HO186:=n3_
         clear n0_ n1_ n2_ n3_
         clear ho hb hg hat
         refine hK.out _ _ ⟨(zz9 BK181.out 0).trans rfl,(zz9 BK181.out 1).trans rfl⟩ (fun hHeld=>?_)
         clear hK K
         refine norm_ (a':=?_) ?_ ?_
         rotate_left
         ·show Act.put _ (some 24) _=_
          simp only [Act.put,zz21,zz22,zz23,i64_w,i32_w]
          rfl
         refine pure_ (i:=11) (N:=some 3) (v:=?_) (a':=?_) #[T,T,T,T,T,T,T,T,T,T,T,T] rfl rfl (any_of HT_.out (by kernel_rfl)) (fun _ _ _ h=>h) (Or.inl ⟨by rfl,?_⟩) ?_ ?_
         rotate_left
         ·intro w'
          go_simp
          with_reducible rfl
         rotate_left
         ·simp only [Act.put,zz21,zz22,zz23,i64_w,i32_w]
          rfl
         refine done_ (done_of HT_.out (by kernel_rfl)) ?_
         try go_wp2
         go_roundg k1
         case measure=>have:=HK1.out;omega
         case rel=>exact ⟨(y184),(wrap64 (x10_1+1)),(by first | rfl | (simp;done) | (simp [*];done)),H',⟨by have:=HK1.out;omega⟩,⟨by (with_reducible repeat (first | apply zz12 | apply zz13 | apply zz14));exact HO186.out⟩,⟨by (with_reducible repeat (first | refine zz6 ?_ _ | refine zz7 ?_ | refine zz8 ?_ _));exact BK176.out⟩,⟨by repeat first | exact HB.out | apply zz2 | apply zz0 | apply zz1 | refine zz3 ?_ GE176.out | refine zz3 ?_ GE181.out⟩⟩
        ·rw [if_neg c13] at H
         exact absurd H (by simp)
       ·rw [if_neg c12] at H
        exact absurd H (by simp)
      ·rw [if_neg c10] at H
       exact absurd H (by simp)
     ·rw [if_neg c8] at H
      exact absurd H (by simp)
    ·rw [if_neg c7] at H
     exact absurd H (by simp)
   ·rw [if_neg c6] at H
    have c6b0:decide (x10_1 < (l0_1.length:Int))=false:=decide_eq_false c6
    clear c6
    replace H:=zz30.mp H
    obtain ⟨t187,A200,H⟩:=H
    replace H:(if t187.size+1≤9223372036854775807 then ((strings_Join.f x3_1 (⟨#[44]⟩:ByteArray)).bind fun t188=>(if (t187 ++ (⟨#[58]⟩:ByteArray)).size+t188.size≤9223372036854775807 then (some ((t187 ++ (⟨#[58]⟩:ByteArray)) ++ t188)) else (none))) else (none))=some r:=H
    have A20:=zz31 A200
    clear A200
    by_cases c21:t187.size+1≤9223372036854775807
    ·rw [if_pos c21] at H
     have c21b0:=eq_true c21
     have c21b1:decide (t187.size+1≤9223372036854775807)=true:=decide_eq_true c21
     try have c21b2:(9223372036854775807 < t187.size+1)=False:=eq_false (Nat.not_lt.2 c21)
     replace H:=zz30.mp H
     obtain ⟨t188,A220,H⟩:=H
     replace H:(if (t187 ++ (⟨#[58]⟩:ByteArray)).size+t188.size≤9223372036854775807 then (some ((t187 ++ (⟨#[58]⟩:ByteArray)) ++ t188)) else (none))=some r:=H
     have A22:=zz31 A220
     clear A220
     by_cases c23:(t187 ++ (⟨#[58]⟩:ByteArray)).size+t188.size≤9223372036854775807
     ·rw [if_pos c23] at H
      have c23b0:=eq_true c23
      have c23b1:decide ((t187 ++ (⟨#[58]⟩:ByteArray)).size+t188.size≤9223372036854775807)=true:=decide_eq_true c23
      try have c23b2:(9223372036854775807 < (t187 ++ (⟨#[58]⟩:ByteArray)).size+t188.size)=False:=eq_false (Nat.not_lt.2 c23)
      (try (have c23b3:=c23b2;simp only [ByteArray.size_append,show (⟨#[58]⟩:ByteArray).size=1 from rfl] at c23b3))
      obtain rfl:=Option.some.inj H
      have hcz24_0:wr.cell? ⟨gb176,0,none⟩=some (.int .i64 a0_0):=(zz9 BK176.out 0).trans rfl
      have hcz24_1:wr.cell? ⟨gb176,1,none⟩=some (.slice A0_1 l0_1.length c0_1):=(zz9 BK176.out 1).trans rfl
      have hfz24_0:=zz10 BK176.out 0
      have hfz24_1:=zz10 BK176.out 1
      go_wp2_with (first | ((with_reducible refine gate_callee (f:=33) rfl ?_);refine goesL_ (some 28) rfl rfl Tryd.func33 (by kernel_rfl) rfl #[.int .i64 a0_0] rfl (by (try simp only [zz26,zz27,zz28]);first | done | rfl | (simp only [zz24,zz25];rfl)) ?_;(with_reducible refine (strconv_Itoa_33.calls a0_0 t187 _ A20.out).mono ?_);rintro e w' ⟨rfl,⟨nd,rfl⟩⟩;refine ⟨_,rfl,?_⟩;obtain ⟨Ao25,co25,eo25⟩:=Kd.R_slice HO_3.out;subst eo25) | ((with_reducible refine gate_callee (f:=34) rfl ?_);refine goesL_ (some 31) rfl rfl Tryd.func34 (by kernel_rfl) rfl #[.slice Ao25 x3_1.length co25,.string (⟨#[44]⟩:ByteArray)] rfl (by (try simp only [zz26,zz27,zz28]);first | done | rfl | (simp only [zz24,zz25];rfl)) ?_;(with_reducible refine (strings_Join.calls _ _ x3_1 (⟨#[44]⟩:ByteArray) t188 _ ?side1 ?side2 A22.out).mono ?_);(case side1=>repeat (first | exact (Kd.R_reads' HO_3.out).2.2 | (with_reducible refine zz18 ?_ _) | (with_reducible refine zz19 ?_ _) | (with_reducible refine zz20 ?_)));(case side2=>exact (Kd.R_reads' HO_3.out).2.1);rintro e w26 ⟨rfl,hb⟩;refine ⟨_,rfl,?_⟩;have n0_:=zz31 (Kd.R_below (by (with_reducible repeat (first | apply zz12 | apply zz13 | apply zz14));exact HO_3.out) hb);have n1_:=zz31 (zz11 (g:=gb176) (o:=.cells #[.int .i64 a0_0,.slice A0_1 l0_1.length c0_1] 30 (0,0)) (by (with_reducible repeat (first | refine zz6 ?_ _ | refine zz7 ?_ | refine zz8 ?_ _));exact BK176.out) hb);have n2_:=zz31 (zz4 (by repeat first | exact HB.out | apply zz2 | apply zz0 | apply zz1 | refine zz3 ?_ GE176.out) hb);clear HO_3;clear BK176;clear HB;have HO_3:=n0_;have BK176:=n1_;have HB:=n2_;clear n0_ n1_ n2_;(try clear hb);(try clear hb2);(try clear hk);(try clear hi)))
      go_ret
      exact ⟨by first | rfl | (simp [errW_none,errW_some] <;> rfl) | (simp [*,errW_none,errW_some] <;> rfl),by repeat first | exact HB.out | apply zz2 | apply zz0 | apply zz1 | refine zz3 ?_ GE176.out⟩
     ·rw [if_neg c23] at H
      exact absurd H (by simp)
    ·rw [if_neg c21] at H
     exact absurd H (by simp)

-- NOT PRINTED: function 38 (strings_FieldsFunc)

-- NOT PRINTED: function 79 (bytealg_IndexByteString)

-- NOT PRINTED: function 68 (stringslite_IndexByte)

-- NOT PRINTED: function 56 (strings_IndexByte)

-- NOT PRINTED: function 57 (utf8_ValidRune)

-- NOT PRINTED: function 58 (bytealg_Cutover)

-- NOT PRINTED: function 59 (bytealg_IndexString)

/-! ### strings_IndexRune: function 50 (lemmas of our own) -/
def ibyteLaysRen:Go.Shelf.Ren:=⟨fun | 137=>56 | 217=>68 | 266=>79 | n=>n,fun | 9=>9 | 5=>5 | 3=>3 | n=>n,fun | n=>n⟩
theorem ibyteLays:Go.Proofs.Lays.n137 Tryd.prog ibyteLaysRen:={
 mixed:=by kernel_rfl
 f137:=Tryd.func56.trans (congrArg some (by kernel_rfl))
 f217:=Tryd.func68.trans (congrArg some (by kernel_rfl))
 f266:=Tryd.func79.trans (congrArg some (by kernel_rfl))
 t3:=Tryd.underlying3
 a3:=Tryd.isAgg3
 z3:=Tryd.sizeOf3
 v3:=Tryd.zeroValue3
 t5:=Tryd.underlying5
 a5:=Tryd.isAgg5
 z5:=Tryd.sizeOf5
 v5:=Tryd.zeroValue5
 t9:=Tryd.underlying9
 a9:=Tryd.isAgg9
 z9:=Tryd.sizeOf9
 v9:=Tryd.zeroValue9 }
def sepS:ByteArray:=⟨#[58,45,44]⟩
theorem sep_small:∀ r:Nat,r < 128→(0≤Lib.indexByte [58,45,44] r.toUInt8 ↔ r=58 ∨ r=45 ∨ r=44):=by decide
set_option maxHeartbeats 2000000 in
set_option maxRecDepth 100000 in
theorem idxSep_small (r:Nat) (hr:r < 128) (w:World):Calls Tryd.prog 50 #[.string ⟨#[58,45,44]⟩,.int .i32 (r:Int)] w fun e w'=>∃ i:Int,e=.returned (.int .i64 i)∧(0≤i ↔ r=58 ∨ r=45 ∨ r=44)∧Below w.heap.size w w':=by
 have h0:(0:Int)≤(r:Int):=by omega
 have h1:(r:Int) < 128:=by omega
 have hs:=zz31 (sep_small r hr)
 go_enter Tryd.func50,Tryd.ntmps50
 go_wp2_with (first | (go_at_call 56; refine (Any.strings_IndexByte ibyteLays _ _ _).mono ?_; rintro e w' ⟨rfl, rfl⟩) | (fail "no arm"))
 go_ret
 refine ⟨_,rfl,?_,Below.refl _ _⟩
 exact hs.out
set_option maxHeartbeats 4000000 in
set_option maxRecDepth 100000 in
theorem idxSep_err (w:World):Calls Tryd.prog 50 #[.string ⟨#[58,45,44]⟩,.int .i32 65533] w fun e w'=>∃ i:Int,e=.returned (.int .i64 i)∧(0≤i ↔ False)∧Below w.heap.size w w':=by
 go_enter Tryd.func50,Tryd.ntmps50
 go_wp2
 go_loopg [5,6] 3 (fun gg v5 v6 wr=>∃ j:Nat,j≤3∧3 - j≤gg∧Aside0 (wr.heap[w.heap.size]?=some (.stringIter ⟨#[58,45,44]⟩ j))∧Aside0 (Below w.heap.size w wr))
 case atStart=>exact ⟨0,by omega,by omega,⟨World.iter_heap w _ 0⟩,⟨zz2 (Below.refl _ _) _⟩⟩
 case round =>
  obtain ⟨j,hj,hg,HI,HB⟩:=hrel
  by_cases hlt:j < 3
  ·have hb:∃ c:Nat,c < 128∧((⟨#[58,45,44]⟩:ByteArray)[j]'hlt).toNat=c:=⟨_,by
    have:∀ i (h:i < 3),((⟨#[58,45,44]⟩:ByteArray)[i]'h).toNat < 128:=by decide
    exact this j hlt,rfl⟩
   obtain ⟨c,hc,hcv⟩:=hb
   have hnx:∀ ty,(Instr.next (.pointer (some ⟨w.heap.size,0,none⟩)) true ty).run Tryd.prog wr=_:=fun ty=>Lib.run_next_ascii_at wr w.heap.size ⟨#[58,45,44]⟩ j ty HI.out hlt (by rw [hcv];exact hc)
   rw [hcv] at hnx
   have hne:((c:Int) == 65533)=false:=beq_eq_false_iff_ne.2 (by omega)
   clear hcv
   have HI2:=zz31 (Lib.iterAt_heap wr w.heap.size ⟨#[58,45,44]⟩ j (j+1) HI.out)
   have HB2:=zz31 (Lib.below_iterAt HB.out (Nat.le_refl _) ⟨#[58,45,44]⟩ (j+1))
   generalize wr.iterAt w.heap.size ⟨#[58,45,44]⟩ (j+1)=wi at hnx HI2 HB2
   go_wp2
   go_roundg (3 - (j+1))
   case measure=>omega
   case rel=>exact ⟨j+1,by omega,by omega,HI2,HB2⟩
  ·obtain rfl:j=3:=by omega
   have hnx:∀ ty,(Instr.next (.pointer (some ⟨w.heap.size,0,none⟩)) true ty).run Tryd.prog wr=_:=fun ty=>Lib.run_next_end_at wr w.heap.size ⟨#[58,45,44]⟩ 3 ty HI.out (by decide)
   go_wp2
   go_ret
   exact ⟨_,rfl,by simp,HB.out⟩
set_option maxHeartbeats 4000000 in
theorem validR (x:Int) (w:World) (h0:0≤x) (h1:x≤1114111):Calls Tryd.prog 57 #[.int .i32 x] w fun e w'=>e=.returned (.bool (decide (x < 55296 ∨ 57343 < x)))∧w'=w:=by
 by_cases h2:x < 55296
 ·rw [decide_eq_true (.inl h2)]
  go_enter Tryd.func57,Tryd.ntmps57
  go_wp2
  go_ret
  exact ⟨rfl,rfl⟩
 ·by_cases h3:57343 < x
  ·rw [decide_eq_true (.inr h3)]
   go_enter Tryd.func57,Tryd.ntmps57
   go_wp2
   go_ret
   exact ⟨rfl,rfl⟩
  ·rw [decide_eq_false (by omega)]
   go_enter Tryd.func57,Tryd.ntmps57
   go_wp2
   go_ret
   exact ⟨rfl,rfl⟩
set_option maxHeartbeats 4000000 in
set_option maxRecDepth 100000 in
theorem idxSep_bad (x:Int) (h3:55296≤x) (h4:x≤57343) (w:World):Calls Tryd.prog 50 #[.string ⟨#[58,45,44]⟩,.int .i32 x] w fun e w'=>∃ i:Int,e=.returned (.int .i64 i)∧(0≤i ↔ False)∧Below w.heap.size w w':=by
 have h0:(0:Int)≤x:=by omega
 have h1:¬ x < 128:=by omega
 have h2:(x == 65533)=false:=beq_eq_false_iff_ne.2 (by omega)
 have cV:=zz31 (fun W=>validR x W h0 (by omega))
 rw [decide_eq_false (show ¬ (x < 55296 ∨ 57343 < x) by omega)] at cV
 go_enter Tryd.func50,Tryd.ntmps50
 go_wp2_with (first | (go_at_call 57; refine (cV.out _).mono ?_; rintro e w' ⟨rfl, rfl⟩) | (fail "no arm"))
 go_ret
 exact ⟨_,rfl,by simp,Below.refl _ _⟩
theorem idxB_none:∀ (l:List UInt8) (c:UInt8),(∀ b ∈ l,b ≠ c)→Lib.indexByte l c=-1
 | [],_,_=>rfl
 | b :: l,c,h=>by
  have e:(b == c)=false:=beq_eq_false_iff_ne.2 (h b (List.mem_cons_self ..))
  unfold Lib.indexByte
  rw [e,idxB_none l c (fun x hx=>h x (List.mem_cons_of_mem _ hx))]
  rfl
theorem sep128:∀ b ∈ (⟨#[58,45,44]⟩:ByteArray).data.toList,b.toNat < 128:=by decide
theorem idxB_calls (s:ByteArray) (c:UInt8) (hc:128≤c.toNat) (w:World) (hs:∀ b ∈ s.data.toList,b.toNat < 128):Calls Tryd.prog 56 #[.string s,.int .u8 (c.toNat:Int)] w fun e w'=>e=.returned (.int .i64 (-1))∧w'=w:=by
 refine (Any.strings_IndexByte ibyteLays _ _ w).mono ?_
 rintro e w' ⟨rfl,rfl⟩
 have ec:(c.toNat:Int).toNat.toUInt8=c:=by
  rw [Int.toNat_natCast];simp
 rw [ec,idxB_none _ _ (fun b hb he=>by have:=hs b hb;subst he;omega)]
 exact ⟨rfl,rfl⟩
theorem enc_last (x:Int) (h0:128≤x) (h1:x≤1114111) (hv:x < 55296 ∨ 57343 < x):∃ n,(Utf8.encode x).size=n+1∧1≤n∧n≤3∧∀ h:n < (Utf8.encode x).size,128≤((Utf8.encode x)[n]'h).toNat:=by
 have hval:Utf8.valid x=true:=by
  unfold Utf8.valid
  rw [Bool.or_eq_true,Bool.and_eq_true,Bool.and_eq_true]
  simp only [decide_eq_true_eq]
  omega
 obtain ⟨h2,h4,hl⟩:=encode_facts x hval h0
 exact ⟨(Utf8.encode x).size - 1,by omega,by omega,by omega,hl⟩
set_option maxHeartbeats 4000000 in
set_option maxRecDepth 100000 in
theorem idxSep_big (x:Int) (h5:128≤x) (h6:x≤1114111) (hv:x < 55296 ∨ 57343 < x) (hne:x ≠ 65533) (w:World):Calls Tryd.prog 50 #[.string ⟨#[58,45,44]⟩,.int .i32 x] w fun e w'=>∃ i:Int,e=.returned (.int .i64 i)∧(0≤i ↔ False)∧Below w.heap.size w w':=by
 have h0:(0:Int)≤x:=by omega
 have h1:¬ x < 128:=by omega
 have h2:(x == 65533)=false:=beq_eq_false_iff_ne.2 (by omega)
 have cV:=zz31 (fun W=>validR x W h0 (by omega))
 rw [decide_eq_true hv] at cV
 go_enter Tryd.func50,Tryd.ntmps50
 obtain ⟨n,hn,hn1,hn3,hl⟩:=enc_last x h5 h6 hv
 go_wp2_with (first | (go_at_call 57; refine (cV.out _).mono ?_; rintro e w' ⟨rfl, rfl⟩) | (fail "no arm"))
 go_step3
 generalize hE:Utf8.encode x=E at hn hl
 go_upto_region 2 with fail
 clear hE
 clear hv hne h0 h1 h2 h5 h6 cV
 obtain rfl | rfl | rfl:n=1 ∨ n=2 ∨ n=3:=by omega
 ·clear hn1 hn3
  have hi:=hl (by omega)
  obtain ⟨c,hc⟩:∃ c:UInt8,E[1]'(by omega)=c:=⟨_,rfl⟩
  rw [hc] at hi
  have hcl:=zz31 hi
  have hne:(((((⟨#[58,45,44]⟩:ByteArray)[1]'(by decide)).toNat:Int)) != (c.toNat:Int))=true:=by
   rw [bne_iff_ne]
   show ¬ ((45:Nat):Int)=(c.toNat:Int)
   omega
  clear hi hl
  go_wp2
  have hwr:IntKind.i64.wrap 2=2:=by decide
  have hsl:∀ W:World,(Instr.slice 9 (.string ⟨#[58,45,44]⟩) (some (.int .i64 2)) none none).run Tryd.prog W=.ok (.string ((⟨#[58,45,44]⟩:ByteArray).extract 2 3)) W:=fun W=>run_slice_string_l W 9 _ Tryd.underlying9 _ _ (by decide) (by decide)
  go_loopg [9,10] 1 (fun gg v9 v10 wr=>v9=.int .i64 1∧wr=w')
  case atStart=>exact ⟨rfl,rfl⟩
  case round =>
   obtain ⟨rfl,rfl⟩:=hrel
   go_wp2
   go_step3
   go_wp2
   go_quiet (fail)
   go_wp2
   go_quiet (first | (go_at_call 56; exact (idxB_calls _ c hcl.out _ (by first | (intro b hb; exact sep128 b (mem_extract hb)) | decide)).mono fun _ _ h => ⟨h.1, _, h.2⟩) | (fail "no arm"))
   go_wp2
   rw [Exit.noGoto_ret]
   go_wp2
   rw [Exit.noGoto_ret]
   go_ret
   exact ⟨_,rfl,by simp,by repeat first | exact Below.refl _ _ | apply zz0⟩
 ·clear hn1 hn3
  have hi:=hl (by omega)
  obtain ⟨c,hc⟩:∃ c:UInt8,E[2]'(by omega)=c:=⟨_,rfl⟩
  rw [hc] at hi
  have hcl:=zz31 hi
  have hne:(((((⟨#[58,45,44]⟩:ByteArray)[2]'(by decide)).toNat:Int)) != (c.toNat:Int))=true:=by
   rw [bne_iff_ne]
   show ¬ ((44:Nat):Int)=(c.toNat:Int)
   omega
  clear hi hl
  go_wp2
  have hwr:IntKind.i64.wrap 3=3:=by decide
  have hsl:∀ W:World,(Instr.slice 9 (.string ⟨#[58,45,44]⟩) (some (.int .i64 3)) none none).run Tryd.prog W=.ok (.string ((⟨#[58,45,44]⟩:ByteArray).extract 3 3)) W:=fun W=>run_slice_string_l W 9 _ Tryd.underlying9 _ _ (by decide) (by decide)
  go_loopg [9,10] 1 (fun gg v9 v10 wr=>v9=.int .i64 2∧wr=w')
  case atStart=>exact ⟨rfl,rfl⟩
  case round =>
   obtain ⟨rfl,rfl⟩:=hrel
   go_wp2
   go_step3
   go_wp2
   go_quiet (fail)
   go_wp2
   go_quiet (first | (go_at_call 56; exact (idxB_calls _ c hcl.out _ (by first | (intro b hb; exact sep128 b (mem_extract hb)) | decide)).mono fun _ _ h => ⟨h.1, _, h.2⟩) | (fail "no arm"))
   go_wp2
   rw [Exit.noGoto_ret]
   go_wp2
   rw [Exit.noGoto_ret]
   go_ret
   exact ⟨_,rfl,by simp,by repeat first | exact Below.refl _ _ | apply zz0⟩
 ·clear hl
  go_wp2
  go_loopg [9,10] 1 (fun gg v9 v10 wr=>v9=.int .i64 3∧wr=w')
  case atStart=>exact ⟨rfl,rfl⟩
  case round =>
   obtain ⟨rfl,rfl⟩:=hrel
   go_wp2
   rw [Exit.noGoto_ret]
   go_ret
   exact ⟨_,rfl,by simp,Below.refl _ _⟩
theorem idxSep_all (r:Nat) (hr:r≤1114111) (w:World):Calls Tryd.prog 50 #[.string ⟨#[58,45,44]⟩,.int .i32 (r:Int)] w fun e w'=>∃ i:Int,e=.returned (.int .i64 i)∧(0≤i ↔ r=58 ∨ r=45 ∨ r=44)∧Below w.heap.size w w':=by
 by_cases h1:r < 128
 ·exact idxSep_small r h1 w
 ·have hf:(False ↔ r=58 ∨ r=45 ∨ r=44):=⟨False.elim,fun h=>by omega⟩
  by_cases h2:r=65533
  ·subst h2
   exact (idxSep_err w).mono fun e w' ⟨i,h3,h4,h5⟩=>⟨i,h3,h4.trans hf,h5⟩
  ·by_cases h3:55296≤r∧r≤57343
   ·exact (idxSep_bad (r:Int) (by omega) (by omega) w).mono fun e w' ⟨i,h3,h4,h5⟩=>⟨i,h3,h4.trans hf,h5⟩
   ·exact (idxSep_big (r:Int) (by omega) (by omega) (by omega) (by omega) w).mono fun e w' ⟨i,h3,h4,h5⟩=>⟨i,h3,h4.trans hf,h5⟩
/-- What parts a text into words: ':', '-', ','. -/
def isSep (r:Nat):Bool:=decide (r=58 ∨ r=45 ∨ r=44)
set_option maxHeartbeats 2000000 in
theorem hasSep_all (r:Nat) (hr:r≤1114111) (w:World):Calls Tryd.prog 40 #[.string ⟨#[58,45,44]⟩,.int .i32 (r:Int)] w fun e w'=>e=.returned (.bool (isSep r))∧Below w.heap.size w w':=by
 have cI:=zz31 (fun W=>idxSep_all r hr W)
 go_enter Tryd.func40,Tryd.ntmps40
 go_wp2_with (first | (go_at_call 50; refine (cI.out _).mono ?_; rintro e w1 ⟨i, rfl, hi, hb⟩; have HB := zz31 hb; have hdi : decide (0 ≤ i) = isSep r := decide_eq_decide.2 hi; clear hi hb) | (fail "no arm"))
 go_ret
 exact ⟨by rw [← hdi];rfl,HB.out⟩
set_option maxHeartbeats 2000000 in
theorem sepClo_pays (b:Nat) (w:World) (h:w.cell? ⟨b,0,none⟩=some (.string ⟨#[58,45,44]⟩)) (hb:b < w.heap.size):PredGrows Tryd.prog 39 #[.pointer (some ⟨b,0,none⟩)] isSep w:=by
 intro W x hx hB
 have cH:=zz31 (fun W=>hasSep_all x hx W)
 have f1:W.cell? ⟨b,0,none⟩=some (.string ⟨#[58,45,44]⟩):=(hB.cell hb).trans h
 show Calls Tryd.prog 39 #[.int .i32 (x:Int),.pointer (some ⟨b,0,none⟩)] W _
 go_enter Tryd.func39,Tryd.ntmps39
 go_wp2_with (first | (go_at_call 40; refine (cH.out _).mono ?_; rintro e w1 ⟨rfl, hb⟩; have HB := zz31 hb; clear hb) | (fail "no arm"))
 go_ret
 exact ⟨rfl,HB.out⟩

-- NOT PRINTED: function 40 (strings_ContainsRune)

-- NOT PRINTED: function 39 (impl_numbersIn_1)

-- NOT PRINTED: function 85 (strconv_lower)

-- NOT PRINTED: function 86 (strconv_underscoreOK)

-- NOT PRINTED: function 80 (strconv_ParseUint)

-- NOT PRINTED: function 69 (strconv_ParseInt)

-- NOT PRINTED: function 60 (strconv_Atoi_60)

-- NOT PRINTED: function 81 (stringslite_Clone)

-- NOT PRINTED: function 70 (strconv_syntaxError)

-- NOT PRINTED: function 71 (strconv_rangeError)

-- NOT PRINTED: function 82 (errors_New)

-- NOT PRINTED: function 72 (strconv_baseError)

-- NOT PRINTED: function 73 (strconv_bitSizeError)

-- NOT PRINTED: function 61 (strconv_toError)

-- NOT PRINTED: function 51 (strconv_Atoi_51)

/-! ### impl_number: function 41 (a contract of our own) -/
def atoiLaysRen:Go.Shelf.Ren:=⟨fun | 172=>51 | 244=>60 | 245=>61 | 247=>69 | 279=>70 | 280=>71 | 281=>72 | 282=>73 | 287=>80 | 316=>81 | 171=>33 | 205=>82 | 321=>85 | 322=>86 | 243=>46 | 246=>53 | 283=>62 | 284=>63 | 285=>64 | 286=>65 | 129=>75 | 317=>74 | 318=>76 | 319=>77 | 320=>78 | 337=>83 | 338=>84 | n=>n,fun | 9=>9 | 3=>3 | 75=>77 | 76=>78 | 4=>4 | 5=>5 | 167=>101 | 37=>69 | 0=>0 | 85=>102 | 2=>2 | 168=>104 | 53=>93 | 175=>112 | 46=>89 | 210=>116 | 127=>86 | 145=>122 | 143=>120 | 21=>21 | 171=>92 | 173=>96 | 212=>108 | 51=>109 | 20=>20 | 213=>110 | 232=>123 | 233=>124 | 80=>80 | n=>n,fun | 15=>2 | 16=>3 | 17=>1 | 18=>4 | 19=>5 | n=>n⟩
theorem atoiLays:Go.Proofs.LaysC.n172 Tryd.prog atoiLaysRen:={
 mixed:=by kernel_rfl
 f129:=Tryd.func75.trans (congrArg some (by kernel_rfl))
 f171:=Tryd.func33.trans (congrArg some (by kernel_rfl))
 f172:=Tryd.func51.trans (congrArg some (by kernel_rfl))
 f205:=Tryd.func82.trans (congrArg some (by kernel_rfl))
 f243:=Tryd.func46.trans (congrArg some (by kernel_rfl))
 f244:=Tryd.func60.trans (congrArg some (by kernel_rfl))
 f245:=Tryd.func61.trans (congrArg some (by kernel_rfl))
 f246:=Tryd.func53.trans (congrArg some (by kernel_rfl))
 f247:=Tryd.func69.trans (congrArg some (by kernel_rfl))
 f279:=Tryd.func70.trans (congrArg some (by kernel_rfl))
 f280:=Tryd.func71.trans (congrArg some (by kernel_rfl))
 f281:=Tryd.func72.trans (congrArg some (by kernel_rfl))
 f282:=Tryd.func73.trans (congrArg some (by kernel_rfl))
 f283:=Tryd.func62.trans (congrArg some (by kernel_rfl))
 f284:=Tryd.func63.trans (congrArg some (by kernel_rfl))
 f285:=Tryd.func64.trans (congrArg some (by kernel_rfl))
 f286:=Tryd.func65.trans (congrArg some (by kernel_rfl))
 f287:=Tryd.func80.trans (congrArg some (by kernel_rfl))
 f316:=Tryd.func81.trans (congrArg some (by kernel_rfl))
 f317:=Tryd.func74.trans (congrArg some (by kernel_rfl))
 f318:=Tryd.func76.trans (congrArg some (by kernel_rfl))
 f319:=Tryd.func77.trans (congrArg some (by kernel_rfl))
 f320:=Tryd.func78.trans (congrArg some (by kernel_rfl))
 f321:=Tryd.func85.trans (congrArg some (by kernel_rfl))
 f322:=Tryd.func86.trans (congrArg some (by kernel_rfl))
 f337:=Tryd.func83.trans (congrArg some (by kernel_rfl))
 f338:=Tryd.func84.trans (congrArg some (by kernel_rfl))
 t0:=Tryd.underlying0
 a0:=Tryd.isAgg0
 z0:=Tryd.sizeOf0
 v0:=Tryd.zeroValue0
 t2:=Tryd.underlying2
 a2:=Tryd.isAgg2
 z2:=Tryd.sizeOf2
 v2:=Tryd.zeroValue2
 t3:=Tryd.underlying3
 a3:=Tryd.isAgg3
 z3:=Tryd.sizeOf3
 v3:=Tryd.zeroValue3
 t4:=Tryd.underlying4
 a4:=Tryd.isAgg4
 z4:=Tryd.sizeOf4
 v4:=Tryd.zeroValue4
 t5:=Tryd.underlying5
 a5:=Tryd.isAgg5
 z5:=Tryd.sizeOf5
 v5:=Tryd.zeroValue5
 t9:=Tryd.underlying9
 a9:=Tryd.isAgg9
 z9:=Tryd.sizeOf9
 v9:=Tryd.zeroValue9
 t20:=Tryd.underlying20
 a20:=Tryd.isAgg20
 z20:=Tryd.sizeOf20
 v20:=Tryd.zeroValue20
 t21:=Tryd.underlying21
 a21:=Tryd.isAgg21
 z21:=Tryd.sizeOf21
 v21:=Tryd.zeroValue21
 t37:=Tryd.underlying69
 a37:=Tryd.isAgg69
 z37:=Tryd.sizeOf69
 v37:=Tryd.zeroValue69
 t46:=Tryd.underlying89
 a46:=Tryd.isAgg89
 z46:=Tryd.sizeOf89
 v46:=Tryd.zeroValue89
 t51:=Tryd.underlying109
 a51:=Tryd.isAgg109
 z51:=Tryd.sizeOf109
 v51:=Tryd.zeroValue109
 t53:=Tryd.underlying93
 a53:=Tryd.isAgg93
 z53:=Tryd.sizeOf93
 v53:=Tryd.zeroValue93
 t75:=Tryd.underlying77
 a75:=Tryd.isAgg77
 z75:=Tryd.sizeOf77
 v75:=Tryd.zeroValue77
 t76:=Tryd.underlying78
 a76:=Tryd.isAgg78
 z76:=Tryd.sizeOf78
 v76:=Tryd.zeroValue78
 t85:=Tryd.underlying102
 a85:=Tryd.isAgg102
 z85:=Tryd.sizeOf102
 v85:=Tryd.zeroValue102
 t127:=Tryd.underlying86
 a127:=Tryd.isAgg86
 z127:=Tryd.sizeOf86
 v127:=Tryd.zeroValue86
 t143:=Tryd.underlying120
 a143:=Tryd.isAgg120
 z143:=Tryd.sizeOf120
 v143:=Tryd.zeroValue120
 t145:=Tryd.underlying122
 a145:=Tryd.isAgg122
 z145:=Tryd.sizeOf122
 v145:=Tryd.zeroValue122
 t167:=Tryd.underlying101
 a167:=Tryd.isAgg101
 z167:=Tryd.sizeOf101
 v167:=Tryd.zeroValue101
 t168:=Tryd.underlying104
 a168:=Tryd.isAgg104
 z168:=Tryd.sizeOf104
 v168:=Tryd.zeroValue104
 t171:=Tryd.underlying92
 a171:=Tryd.isAgg92
 z171:=Tryd.sizeOf92
 v171:=Tryd.zeroValue92
 t173:=Tryd.underlying96
 a173:=Tryd.isAgg96
 z173:=Tryd.sizeOf96
 v173:=Tryd.zeroValue96
 t175:=Tryd.underlying112
 a175:=Tryd.isAgg112
 z175:=Tryd.sizeOf112
 v175:=Tryd.zeroValue112
 t210:=Tryd.underlying116
 a210:=Tryd.isAgg116
 z210:=Tryd.sizeOf116
 v210:=Tryd.zeroValue116
 t212:=Tryd.underlying108
 a212:=Tryd.isAgg108
 z212:=Tryd.sizeOf108
 v212:=Tryd.zeroValue108
 t213:=Tryd.underlying110
 a213:=Tryd.isAgg110
 z213:=Tryd.sizeOf110
 t232:=Tryd.underlying123
 a232:=Tryd.isAgg123
 z232:=Tryd.sizeOf123
 v232:=Tryd.zeroValue123
 t233:=Tryd.underlying124
 a233:=Tryd.isAgg124
 z233:=Tryd.sizeOf124
 v233:=Tryd.zeroValue124
 g15:=by kernel_rfl
 g16:=by kernel_rfl
 g17:=by kernel_rfl
 g18:=by kernel_rfl
 g19:=by kernel_rfl
 t80:=Tryd.underlying80
 a80:=Tryd.isAgg80
 z80:=Tryd.sizeOf80
 v80:=Tryd.zeroValue80
 i0:=by kernel_rfl
 i2:=by kernel_rfl
 i3:=by kernel_rfl
 i4:=by kernel_rfl
 i5:=by kernel_rfl
 i9:=by kernel_rfl
 i20:=by kernel_rfl
 i21:=by kernel_rfl
 i37:=by kernel_rfl
 i46:=by kernel_rfl
 i51:=by kernel_rfl
 i53:=by kernel_rfl
 i75:=by kernel_rfl
 i76:=by kernel_rfl
 i80:=by kernel_rfl
 i85:=by kernel_rfl
 i127:=by kernel_rfl
 i143:=by kernel_rfl
 i145:=by kernel_rfl
 i167:=by kernel_rfl
 i168:=by kernel_rfl
 i171:=by kernel_rfl
 i173:=by kernel_rfl
 i175:=by kernel_rfl
 i210:=by kernel_rfl
 i212:=by kernel_rfl
 i232:=by kernel_rfl
 i233:=by kernel_rfl
 m15:=by kernel_rfl
 m16:=by kernel_rfl
 m17:=by kernel_rfl
 m18:=by kernel_rfl
 m19:=by kernel_rfl
 c0:=by kernel_rfl
 c2:=by kernel_rfl
 c3:=by kernel_rfl
 c4:=by kernel_rfl
 c5:=by kernel_rfl
 c9:=by kernel_rfl
 c20:=by kernel_rfl
 c21:=by kernel_rfl
 c37:=by kernel_rfl
 c46:=by kernel_rfl
 c51:=by kernel_rfl
 c53:=by kernel_rfl
 c75:=by kernel_rfl
 c76:=by kernel_rfl
 c80:=by kernel_rfl
 c85:=by kernel_rfl
 c127:=by kernel_rfl
 c143:=by kernel_rfl
 c145:=by kernel_rfl
 c167:=by kernel_rfl
 c168:=by kernel_rfl
 c171:=by kernel_rfl
 c173:=by kernel_rfl
 c175:=by kernel_rfl
 c210:=by kernel_rfl
 c212:=by kernel_rfl
 c213:=by kernel_rfl
 c232:=by kernel_rfl
 c233:=by kernel_rfl }
def itoaMLaysRen:Go.Shelf.Ren:=⟨fun | 171=>33 | 243=>46 | 246=>53 | 283=>62 | 284=>63 | 285=>64 | 286=>65 | 129=>75 | 317=>74 | 318=>76 | 319=>77 | 320=>78 | 337=>83 | 338=>84 | n=>n,fun | 3=>3 | 9=>9 | 2=>2 | 4=>4 | 171=>92 | 0=>0 | 53=>93 | 37=>69 | 5=>5 | 173=>96 | 212=>108 | 51=>109 | 20=>20 | 213=>110 | 46=>89 | 232=>123 | 233=>124 | n=>n,fun | 17=>1 | 18=>4 | 19=>5 | n=>n⟩
theorem itoaMLays:Go.Proofs.LaysM.n171 Tryd.prog itoaMLaysRen:={
 mixed:=by kernel_rfl
 f129:=Tryd.func75.trans (congrArg some (by kernel_rfl))
 f171:=Tryd.func33.trans (congrArg some (by kernel_rfl))
 f243:=Tryd.func46.trans (congrArg some (by kernel_rfl))
 f246:=Tryd.func53.trans (congrArg some (by kernel_rfl))
 f283:=Tryd.func62.trans (congrArg some (by kernel_rfl))
 f284:=Tryd.func63.trans (congrArg some (by kernel_rfl))
 f285:=Tryd.func64.trans (congrArg some (by kernel_rfl))
 f286:=Tryd.func65.trans (congrArg some (by kernel_rfl))
 f317:=Tryd.func74.trans (congrArg some (by kernel_rfl))
 f318:=Tryd.func76.trans (congrArg some (by kernel_rfl))
 f319:=Tryd.func77.trans (congrArg some (by kernel_rfl))
 f320:=Tryd.func78.trans (congrArg some (by kernel_rfl))
 f337:=Tryd.func83.trans (congrArg some (by kernel_rfl))
 f338:=Tryd.func84.trans (congrArg some (by kernel_rfl))
 t0:=Tryd.underlying0
 a0:=Tryd.isAgg0
 z0:=Tryd.sizeOf0
 v0:=Tryd.zeroValue0
 t2:=Tryd.underlying2
 a2:=Tryd.isAgg2
 z2:=Tryd.sizeOf2
 v2:=Tryd.zeroValue2
 t3:=Tryd.underlying3
 a3:=Tryd.isAgg3
 z3:=Tryd.sizeOf3
 v3:=Tryd.zeroValue3
 t4:=Tryd.underlying4
 a4:=Tryd.isAgg4
 z4:=Tryd.sizeOf4
 v4:=Tryd.zeroValue4
 t5:=Tryd.underlying5
 a5:=Tryd.isAgg5
 z5:=Tryd.sizeOf5
 v5:=Tryd.zeroValue5
 t9:=Tryd.underlying9
 a9:=Tryd.isAgg9
 z9:=Tryd.sizeOf9
 v9:=Tryd.zeroValue9
 t20:=Tryd.underlying20
 a20:=Tryd.isAgg20
 z20:=Tryd.sizeOf20
 v20:=Tryd.zeroValue20
 t37:=Tryd.underlying69
 a37:=Tryd.isAgg69
 z37:=Tryd.sizeOf69
 v37:=Tryd.zeroValue69
 t46:=Tryd.underlying89
 a46:=Tryd.isAgg89
 z46:=Tryd.sizeOf89
 v46:=Tryd.zeroValue89
 t51:=Tryd.underlying109
 a51:=Tryd.isAgg109
 z51:=Tryd.sizeOf109
 v51:=Tryd.zeroValue109
 t53:=Tryd.underlying93
 a53:=Tryd.isAgg93
 z53:=Tryd.sizeOf93
 v53:=Tryd.zeroValue93
 t171:=Tryd.underlying92
 a171:=Tryd.isAgg92
 z171:=Tryd.sizeOf92
 v171:=Tryd.zeroValue92
 t173:=Tryd.underlying96
 a173:=Tryd.isAgg96
 z173:=Tryd.sizeOf96
 v173:=Tryd.zeroValue96
 t212:=Tryd.underlying108
 a212:=Tryd.isAgg108
 z212:=Tryd.sizeOf108
 v212:=Tryd.zeroValue108
 t213:=Tryd.underlying110
 a213:=Tryd.isAgg110
 z213:=Tryd.sizeOf110
 t232:=Tryd.underlying123
 a232:=Tryd.isAgg123
 z232:=Tryd.sizeOf123
 v232:=Tryd.zeroValue123
 t233:=Tryd.underlying124
 a233:=Tryd.isAgg124
 z233:=Tryd.sizeOf124
 v233:=Tryd.zeroValue124
 g17:=by kernel_rfl
 g18:=by kernel_rfl
 g19:=by kernel_rfl
 i0:=by kernel_rfl
 i2:=by kernel_rfl
 i3:=by kernel_rfl
 i4:=by kernel_rfl
 i5:=by kernel_rfl
 i9:=by kernel_rfl
 i20:=by kernel_rfl
 i37:=by kernel_rfl
 i46:=by kernel_rfl
 i51:=by kernel_rfl
 i53:=by kernel_rfl
 i171:=by kernel_rfl
 i173:=by kernel_rfl
 i212:=by kernel_rfl
 i232:=by kernel_rfl
 i233:=by kernel_rfl
 m17:=by kernel_rfl
 m18:=by kernel_rfl
 m19:=by kernel_rfl }
/-- The library's variables that the law leans on. -/
def Tz (w : World) : Prop := Lib.TabIs Tryd.prog w "internal/strconv.uint64pow10" .u64 Lib.pow10Tab ∧ (∃ tp p, w.var? Tryd.prog "strconv.ErrSyntax" = some #[.iface tp p]) ∧ ∃ tp p, w.var? Tryd.prog "strconv.ErrRange" = some #[.iface tp p]
theorem Tz.below {w w':World} (h:Tz w) (hb:Below w.heap.size w w'):Tz w':=by
 obtain ⟨h1,⟨t2,p2,h2⟩,t3,p3,h3⟩:=h
 exact ⟨Go.Joins.var_stays (g:=1) (by kernel_rfl) h1 hb (Nat.le_refl _),⟨t2,p2,Go.Joins.var_stays (g:=2) (by kernel_rfl) h2 hb (Nat.le_refl _)⟩,t3,p3,Go.Joins.var_stays (g:=3) (by kernel_rfl) h3 hb (Nat.le_refl _)⟩
theorem grow_below (w:World) (k:Nat) (os:Array Obj):Below w.heap.size w (Go.Sort.grow (w.drewN k) os) :=
 ⟨rfl,rfl,rfl,by simp [Go.Sort.grow,World.drewN],fun q hq=>by simp [Go.Sort.grow,World.drewN,Array.getElem?_append_left hq]⟩
theorem bytes_below {w w':World} {e:TypeId} (h:w'=w ∨ ∃ t,w'=Lib.bytesWorld w e t):Below w.heap.size w w':=by
 rcases h with rfl | ⟨t,rfl⟩
 ·exact Below.refl _ _
 ·exact Lib.bytesWorld_below w e t
theorem str_ne {a b:ByteArray} (h:a ≠ b):(a.toList == b.toList)=false:=by
 rw [beq_eq_false_iff_ne]
 intro e
 rw [ByteArray.toList_eq,ByteArray.toList_eq] at e
 apply h
 cases a
 cases b
 congr 1
 exact Array.ext' e
def numV (s:ByteArray) (mx:Int):Option Int:=match Lib.atoiAll s.data.toList with
 | .ok v=>if (⟨(Lib.itoa v).toArray⟩:ByteArray)=s∧0≤v∧v≤mx then some v else none
 | _=>none
def impl_number.f (a0:ByteArray) (a1:Int):Option (Int × Bool):=if a0.size≤281474976710656 then (match numV a0 a1 with | some v=>some (v,true) | none=>some (0,false)) else none
set_option maxHeartbeats 2000000 in
set_option maxRecDepth 100000 in
theorem impl_number.calls (a0:ByteArray) (a1:Int) (r1:Int) (r2:Bool) (w:World) (h:impl_number.f a0 a1=some (r1,r2)) (hT:Tz w) :
  Calls Tryd.prog 41 #[.string a0,.int .i64 a1] w fun e w'=>e=.returned (.tuple #[.int .i64 r1,.bool r2])∧Below w.heap.size w w':=by
 unfold impl_number.f at h
 by_cases hl:a0.size≤281474976710656
 case neg=>rw [if_neg hl] at h;exact absurd h (by simp)
 rw [if_pos hl] at h
 have HT:=zz31 hT
 unfold numV at h
 cases ha:Lib.atoiAll a0.data.toList
 case ok v =>
  rw [ha] at h
  dsimp only at h
  obtain ⟨b0,b1⟩:=Lib.atoiAll_bounds ha
  have cA:=zz31 (Any.strconv_Atoi_ok atoiLays a0 (by omega) v ha w)
  have cI:=zz31 (fun (W:World) (hW:Tz W)=>Any.strconv_Itoa itoaMLays v b0 b1 W hW.1)
  obtain ⟨X,hX⟩:∃ X:ByteArray,X=⟨(Lib.itoa v).toArray⟩:=⟨_,rfl⟩
  rw [← hX] at h cI
  clear ha hX
  by_cases he:X=a0
  ·obtain ⟨r,hr⟩:∃ r,r=decide (0≤v∧v≤a1):=⟨_,rfl⟩
   have cW:Aside0 (impl_within.f v 0 a1=some r):=⟨by
    unfold impl_within.f
    by_cases h0:(0:Int)≤v
    ·rw [if_pos h0,hr];simp [h0]
    ·rw [if_neg h0,hr];simp [h0]⟩
   by_cases hin:0≤v∧v≤a1
   ·subst he
    rw [if_pos (show X=X∧0≤v∧v≤a1 from ⟨rfl,hin⟩)] at h
    simp only [Option.some.injEq,Prod.mk.injEq] at h
    obtain ⟨rfl,rfl⟩:=h
    rw [decide_eq_true hin] at hr
    subst hr
    clear hin
    go_enter Tryd.func41,Tryd.ntmps41
    go_wp2_with (first | (go_at_call 51; refine cA.out.mono ?_; rintro e w1 ⟨rfl, hw⟩; have HB1 := zz31 (bytes_below hw); clear hw) | (go_at_call 33; refine (cI.out _ (HT.out.below HB1.out)).mono ?_; rintro e w2 ⟨rfl, k2, os2, rfl⟩; have HB2 := zz31 (zz4 HB1.out (grow_below w1 k2 os2))) | (go_at_call 45; refine (impl_within.calls v 0 a1 _ _ cW.out).mono ?_; rintro e w3 ⟨rfl, ⟨n3, rfl⟩⟩) | (fail "no arm"))
    go_ret2
    exact ⟨rfl,by repeat first | exact HB2.out | apply zz0 | apply below_drew⟩
   ·subst he
    rw [if_neg (show ¬ (X=X∧0≤v∧v≤a1) from fun h=>hin h.2)] at h
    simp only [Option.some.injEq,Prod.mk.injEq] at h
    obtain ⟨rfl,rfl⟩:=h
    rw [decide_eq_false hin] at hr
    subst hr
    clear hin
    go_enter Tryd.func41,Tryd.ntmps41
    go_wp2_with (first | (go_at_call 51; refine cA.out.mono ?_; rintro e w1 ⟨rfl, hw⟩; have HB1 := zz31 (bytes_below hw); clear hw) | (go_at_call 33; refine (cI.out _ (HT.out.below HB1.out)).mono ?_; rintro e w2 ⟨rfl, k2, os2, rfl⟩; have HB2 := zz31 (zz4 HB1.out (grow_below w1 k2 os2))) | (go_at_call 45; refine (impl_within.calls v 0 a1 _ _ cW.out).mono ?_; rintro e w3 ⟨rfl, ⟨n3, rfl⟩⟩) | (fail "no arm"))
    go_ret2
    exact ⟨rfl,by repeat first | exact HB2.out | apply zz0 | apply below_drew⟩
  ·have heq:=str_ne he
   simp only [if_neg (show ¬ (X=a0∧0≤v∧v≤a1) from fun h=>he h.1),Option.some.injEq,Prod.mk.injEq] at h
   obtain ⟨rfl,rfl⟩:=h
   go_enter Tryd.func41,Tryd.ntmps41
   go_wp2_with (first | (go_at_call 51; refine cA.out.mono ?_; rintro e w1 ⟨rfl, hw⟩; have HB1 := zz31 (bytes_below hw); clear hw) | (go_at_call 33; refine (cI.out _ (HT.out.below HB1.out)).mono ?_; rintro e w2 ⟨rfl, k2, os2, rfl⟩; have HB2 := zz31 (zz4 HB1.out (grow_below w1 k2 os2))) | (fail "no arm"))
   go_ret2
   exact ⟨rfl,HB2.out⟩
 case range =>
  rw [ha] at h
  simp only [Option.some.injEq,Prod.mk.injEq] at h
  obtain ⟨rfl,rfl⟩:=h
  obtain ⟨_,_,tp,p,hv⟩:=hT
  have cA:=zz31 (Any.strconv_Atoi_range_var atoiLays a0 hl ha tp p w hv)
  clear hv ha
  go_enter Tryd.func41,Tryd.ntmps41
  go_wp2_with (first | (go_at_call 51; refine cA.out.mono ?_; rintro e w1 ⟨N, rfl, -, -, hb⟩; have HB1 := zz31 hb; clear hb) | (fail "no arm"))
  go_ret2
  exact ⟨rfl,HB1.out⟩
 rw [ha] at h
 simp only [Option.some.injEq,Prod.mk.injEq] at h
 obtain ⟨rfl,rfl⟩:=h
 obtain ⟨_,⟨tp,p,hv⟩,_⟩:=hT
 have cA:=zz31 (Any.strconv_Atoi_syntax_var atoiLays a0 hl ha tp p w hv)
 clear hv ha
 go_enter Tryd.func41,Tryd.ntmps41
 go_wp2_with (first | (go_at_call 51; refine cA.out.mono ?_; rintro e w1 ⟨N, rfl, -, -, hb⟩; have HB1 := zz31 hb; clear hb) | (fail "no arm"))
 go_ret2
 exact ⟨rfl,HB1.out⟩

/-! ### impl_numbersIn: function 22 (lemmas of our own) -/
def fieldsLaysRen:Go.Shelf.Ren:=⟨fun | 229=>38 | n=>n,fun | 9=>9 | 40=>65 | 31=>59 | 152=>81 | 3=>3 | 0=>0 | 4=>4 | 21=>21 | 154=>83 | n=>n,fun | n=>n⟩
theorem fieldsLays:Go.Proofs.Lays.n229 Tryd.prog fieldsLaysRen:={
 mixed:=by kernel_rfl
 f229:=Tryd.func38.trans (congrArg some (by kernel_rfl))
 t0:=Tryd.underlying0
 a0:=Tryd.isAgg0
 z0:=Tryd.sizeOf0
 v0:=Tryd.zeroValue0
 t3:=Tryd.underlying3
 a3:=Tryd.isAgg3
 z3:=Tryd.sizeOf3
 v3:=Tryd.zeroValue3
 t4:=Tryd.underlying4
 a4:=Tryd.isAgg4
 z4:=Tryd.sizeOf4
 v4:=Tryd.zeroValue4
 t9:=Tryd.underlying9
 a9:=Tryd.isAgg9
 z9:=Tryd.sizeOf9
 v9:=Tryd.zeroValue9
 t21:=Tryd.underlying21
 a21:=Tryd.isAgg21
 z21:=Tryd.sizeOf21
 v21:=Tryd.zeroValue21
 t31:=Tryd.underlying59
 a31:=Tryd.isAgg59
 z31:=Tryd.sizeOf59
 v31:=Tryd.zeroValue59
 t40:=Tryd.underlying65
 a40:=Tryd.isAgg65
 z40:=Tryd.sizeOf65
 v40:=Tryd.zeroValue65
 t152:=Tryd.underlying81
 a152:=Tryd.isAgg81
 z152:=Tryd.sizeOf81
 v152:=Tryd.zeroValue81
 t154:=Tryd.underlying83
 a154:=Tryd.isAgg83
 z154:=Tryd.sizeOf83
 v154:=Tryd.zeroValue83 }
def numsV (mx:Int):List ByteArray→Option (List Int)
 | []=>some []
 | x :: xs=>match numV x mx with
  | none=>none
  | some v=>(numsV mx xs).map (v :: ·)
theorem spansFromP_le (p:Nat→Bool) (s:ByteArray):∀ (f pos:Nat) (st:Option Nat) (acc:List (Nat × Nat)),(Lib.spansFromP p s f pos st acc).1.length≤acc.length+f
 | 0,_,_,acc=>Nat.le_refl _
 | f+1,pos,st,acc=>by
  unfold Lib.spansFromP
  split
  ·split
   ·split
    ·refine Nat.le_trans (spansFromP_le p s f _ _ _) ?_
     rw [List.length_append];simp only [List.length_cons,List.length_nil];omega
    ·exact Nat.le_trans (spansFromP_le p s f _ _ _) (by omega)
   ·split
    ·exact Nat.le_trans (spansFromP_le p s f _ _ _) (by omega)
    ·exact Nat.le_trans (spansFromP_le p s f _ _ _) (by omega)
  ·simp
theorem fields_le (p:Nat→Bool) (s:ByteArray):(Lib.goFieldsP p s).length≤s.size+1:=by
 unfold Lib.goFieldsP Lib.spansOfP
 rw [List.length_map]
 have h:=spansFromP_le p s s.size 0 none []
 rw [List.length_nil] at h
 unfold Lib.closeSpans
 split <;> simp at h ⊢ <;> omega
theorem fields_size (p:Nat→Bool) (s:ByteArray) (x:ByteArray) (hx:x ∈ Lib.goFieldsP p s):x.size≤s.size:=by
 unfold Lib.goFieldsP at hx
 obtain ⟨y,_,rfl⟩:=List.mem_map.1 hx
 rw [ByteArray.size_extract]
 omega
theorem numsV_step (mx:Int) (ws:List ByteArray) (k:Nat) (x:ByteArray) (l:List Int) (hk:ws[k]?=some x) (h:numsV mx ws=(numsV mx (ws.drop k)).map (l ++ ·)) :
  numsV mx ws=match numV x mx with
   | none=>none
   | some v=>(numsV mx (ws.drop (k+1))).map ((l ++ [v]) ++ ·):=by
 have e:ws.drop k=x :: ws.drop (k+1):=by
  obtain ⟨hl,hx⟩:=List.getElem?_eq_some_iff.1 hk
  rw [List.drop_eq_getElem_cons hl,hx]
 rw [e] at h
 rw [h]
 show Option.map _ (match numV x mx with | none=>none | some v=>(numsV mx (ws.drop (k+1))).map (v :: ·))=_
 cases numV x mx with
 | none=>rfl
 | some v =>
  show Option.map _ (Option.map _ _)=_
  rw [Option.map_map]
  congr 1
  funext t
  simp
theorem row_ne {W:World} {B e size n A t:Nat} {v:Value} {xs:List Value} {cur:Array Value} (hA:W.heap[A]?=some (.cells cur t (0,0))) (hr:W.ownsRow B e size v n xs) (ht:t ≠ e):some A ≠ v.ownBlock:=by
 rcases hr.2 with ⟨rfl,_⟩ | ⟨g,cap,c,rfl,_,hg,_⟩
 ·simp [Value.ownBlock]
 ·intro h
  obtain rfl:A=g:=by simpa [Value.ownBlock] using h
  rw [hA] at hg
  simp at hg
  exact ht hg.2
/-- What numbersIn hands back: nothing, or a row of its own. -/
def numsRes (o:Option (List Int)) (B:Nat) (e:Ending) (w':World):Prop :=
 match o with
 | none=>e=.returned (.tuple #[.slice none 0 0,.bool false])
 | some l=>∃ v,e=.returned (.tuple #[v,.bool true])∧w'.ownsRow B 3 1 v l.length (l.map (Value.int .i64))
set_option maxHeartbeats 4000000 in
set_option maxRecDepth 100000 in
theorem numbersIn_calls (s:ByteArray) (mx:Int) (hs:s.size≤1048576) (w:World) (hT:Tz w) :
  Calls Tryd.prog 22 #[.string s,.string ⟨#[58,45,44]⟩,.int .i64 mx] w fun e w' =>
   numsRes (numsV mx (Lib.goFieldsP isSep s)) w.heap.size e w'∧Below w.heap.size w w':=by
 have hinfo:(Tryd.prog.info? 3).map (fun i=>(i.zero,i.size,i.bytes))=some (some (.int .i64 0),1,8):=by kernel_rfl
 obtain ⟨i0,hi,hz0,hz1,hz2⟩:=info_parts hinfo
 have HT:=zz31 hT
 clear hT
 obtain ⟨ws,hws⟩:∃ ws,ws=Lib.goFieldsP isSep s:=⟨_,rfl⟩
 have hwl:ws.length≤1048577:=by rw [hws];exact Nat.le_trans (fields_le _ _) (by omega)
 have hwsz:∀ x ∈ ws,x.size≤1048576:=fun x hx=>Nat.le_trans (fields_size isSep s x (by rw [← hws];exact hx)) hs
 have cF:∀ (b:Nat) (W:World),W.cell? ⟨b,0,none⟩=some (.string ⟨#[58,45,44]⟩)→b < W.heap.size→Calls Tryd.prog 38 #[.string s,.func (.func 39) #[] #[.pointer (some ⟨b,0,none⟩)]] W fun e w'=>∃ A,e=.returned (.slice (some ⟨A,0,none⟩) ws.length ws.length)∧W.heap.size≤A∧w'.ownsRow W.heap.size 9 1 (.slice (some ⟨A,0,none⟩) ws.length ws.length) ws.length (ws.map Value.string)∧Below W.heap.size W w':=by
  intro b W hc hb
  rw [hws]
  exact Any.strings_FieldsFunc_grows fieldsLays 39 #[.pointer (some ⟨b,0,none⟩)] (enters_of Tryd.func39 (by kernel_rfl) rfl) isSep s W (by omega) (sepClo_pays b W hc hb) (by kernel_rfl) (by kernel_rfl)
 rw [← hws]
 clear hws
 have CF:=zz31 cF
 clear cF
 go_enter Tryd.func22,Tryd.ntmps22
 have hc0:Aside0 (((w.alloc (.cells #[.string ⟨#[58,45,44]⟩] 9)).alloc (.cells #[] 3)).cell? ⟨w.heap.size,0,none⟩=some (.string ⟨#[58,45,44]⟩)):=⟨(Below.alloc (Below.refl _ _) (Nat.le_refl _) _).cell (by simp) |>.trans (Boxed.new w 9 _).cell⟩
 have hb0:Aside0 (w.heap.size < ((w.alloc (.cells #[.string ⟨#[58,45,44]⟩] 9)).alloc (.cells #[] 3)).heap.size):=⟨by simp;omega⟩
 have hB0:Aside0 (Below w.heap.size w ((w.alloc (.cells #[.string ⟨#[58,45,44]⟩] 9)).alloc (.cells #[] 3))):=⟨((Below.refl _ w).alloc (Nat.le_refl _) _).alloc (by simp) _⟩
 have hO0:Aside0 (((w.alloc (.cells #[.string ⟨#[58,45,44]⟩] 9)).alloc (.cells #[] 3)).ownsRow w.heap.size 3 1 (.slice (some ⟨w.heap.size+1,0,none⟩) 0 0) 0 []):=⟨by
  have h:=World.ownsRow_made (base:=w.heap.size) (e:=3) (size:=1) (w.alloc (.cells #[.string ⟨#[58,45,44]⟩] 9)) #[] 0 (by simp) (by unfold maxLen;decide) rfl
  simpa using h⟩
 have cF0:=zz31 (CF.out _ _ hc0.out hb0.out)
 clear hc0 hb0 CF
 go_wp2_with (first | (go_at_call 38; refine cF0.out.mono ?_; rintro e wf ⟨A, rfl, hA, hown, hb⟩; have HB := zz31 (zz4 hB0.out hb); have HO := zz31 (own_below hO0.out hb); have HW := zz31 hown; clear hA hown hb) | (fail "no arm"))
 obtain ⟨cur,hcur,hcl⟩:∃ cur,Aside0 (wf.heap[A]?=some (.cells cur 9 (0,0)))∧Aside0 (∀ j x,ws[j]?=some x→cur[j]?=some (Value.string x)):=by
  rcases HW.out.2 with ⟨h,_⟩ | ⟨g,cap,cur,hv,_,hg,h1,_,h3,h4⟩
  ·cases h
  ·cases hv
   refine ⟨cur,⟨hg⟩,⟨fun j x hx=>?_⟩⟩
   have hj:j < ws.length:=(List.getElem?_eq_some_iff.1 hx).1
   have h5:(cur.toList.take (ws.length * 1))[j]?=some (.string x):=by rw [h4,List.getElem?_map,hx];rfl
   rw [List.getElem?_take_of_lt (by omega),Array.getElem?_toList] at h5
   exact h5
 clear HW cF0 hO0 hB0
 go_loopg [8,18] ws.length (fun gg v8 v18 wr=>∃ (k:Nat) (l:List Int),k≤ws.length∧ws.length - k≤gg∧v18=.int .i64 (k:Int)∧Aside0 (l.length=k)∧Aside0 (numsV mx ws=(numsV mx (ws.drop k)).map (l ++ ·))∧Aside0 (wr.ownsRow w.heap.size 3 1 v8 k (l.map (Value.int .i64)))∧Aside0 (wr.heap[A]?=some (.cells cur 9 (0,0)))∧Aside0 (Below w.heap.size w wr))
 case atStart=>exact ⟨0,[],by omega,by omega,rfl,⟨rfl⟩,⟨by simp⟩,HO,hcur,HB⟩
 case round =>
  clear HO hcur HB
  obtain ⟨k,l,hk,hg,rfl,HL,HN,HO,HA,HB⟩:=hrel
  by_cases hlt:k < ws.length
  ·obtain ⟨x,hx⟩:∃ x,ws[k]?=some x:=⟨_,List.getElem?_eq_getElem hlt⟩
   have hlz:(k:Int) < (ws.length:Int):=by omega
   have hcx:wr.cell? ⟨A,k,none⟩=some (.string x):=by
    have:=hcl.out k x hx
    simp [World.cell?,HA.out,this]
   have hxs:x.size≤281474976710656:=Nat.le_trans (hwsz x (List.mem_of_getElem? hx)) (by omega)
   have HN2:=zz31 (numsV_step mx ws k x l hx HN.out)
   have HX:=zz31 hx
   clear hx
   cases hn:numV x mx with
   | none =>
    rw [hn] at HN2
    have cN:=zz31 (fun W (h:Tz W)=>impl_number.calls x mx 0 false W (by unfold impl_number.f;rw [if_pos hxs,hn]) h)
    clear hn
    go_wp2_with (first | (go_at_call 41; refine (cN.out _ (HT.out.below HB.out)).mono ?_; rintro e wn ⟨rfl, hb⟩; have HBn := zz31 (zz4 HB.out hb); clear hb) | (fail "no arm"))
    go_ret2
    refine ⟨?_,HBn.out⟩
    have h2:numsV mx ws=none:=HN2.out
    rw [h2]
    rfl
   | some v =>
    rw [hn] at HN2
    have cN:=zz31 (fun W (h:Tz W)=>impl_number.calls x mx v true W (by unfold impl_number.f;rw [if_pos hxs,hn]) h)
    clear hn
    go_wp2_with (first | (go_at_call 41; refine (cN.out _ (HT.out.below HB.out)).mono ?_; rintro e wn ⟨rfl, hb⟩; have HBn := zz31 (zz4 HB.out hb); have HOn := zz31 (own_below HO.out hb); have HAn := zz31 ((hb.block A (Array.getElem?_eq_some_iff.1 HA.out).1).trans HA.out); clear hb) | (at_builtin; refine wpList_append_own _ rfl _ _ 43 rfl w.heap.size 3 i0 (.int .i64 0) 1 8 Tryd.underlying43 hi hz0 hz1 hz2 rfl (by decide) _ _ _ rfl (HOn.out.alloc _) ⟨wn.heap.size, 0, none⟩ 1 1 [.int .i64 v] rfl rfl (cell_one_new _ _ _) (by simp [Value.oneCell']) (by simp only [maxLen]; omega) (by omega) (by have := HBn.out.size; simp; omega) ?_; intro v' w1 hown' hgrow _; have HO' := zz31 hown'; have HG' := zz31 hgrow; clear hown' hgrow) | (fail "no arm"))
    have hg':(wn.alloc (.cells #[.int .i64 v] 3)).grownBy w1 u8.ownBlock:=HG'.out
    have HB1:=zz31 (((HBn.out.alloc HBn.out.size _).grown hg' (HBn.out.alloc HBn.out.size (.cells #[.int .i64 v] 3)).size (fun q hq=>(HOn.out.lt q hq).1)))
    have HA1:=zz31 ((hg'.block A (Nat.lt_of_lt_of_le (Array.getElem?_eq_some_iff.1 HAn.out).1 (by simp)) (row_ne HAn.out HOn.out (by decide))).trans (show (wn.alloc (.cells #[.int .i64 v] 3)).heap[A]?=_ from ((Below.refl wn.heap.size wn).alloc (Nat.le_refl _) _).block A (Array.getElem?_eq_some_iff.1 HAn.out).1 |>.trans HAn.out))
    go_roundg (ws.length - (k+1))
    case measure=>omega
    case rel=>exact ⟨k+1,l ++ [v],by omega,by omega,by go_num,⟨by rw [List.length_append,HL.out];rfl⟩,HN2,⟨by have h:=HO'.out;simpa using h⟩,HA1,HB1⟩
  ·obtain rfl:k=ws.length:=by omega
   have hlz:¬ (ws.length:Int) < (ws.length:Int):=by omega
   go_wp2
   go_ret2
   refine ⟨?_,HB.out⟩
   rw [HN.out,List.drop_length]
   refine ⟨_,rfl,?_⟩
   have h:=HO.out
   rw [← HL.out] at h
   simpa using h

-- NOT PRINTED: function 42 (slices_Chunk_int_int_1)

/-! ### slices_Chunk_int_int: function 23 (lemmas of our own) -/
/-- What lay below n₁, but for block b, lies as it lay. -/
structure KpX (n₁ b : Nat) (W W' : World) : Prop where
 size:W.heap.size≤W'.heap.size
 same:∀ k,k < n₁→k ≠ b→k < W.heap.size→W'.heap[k]?=W.heap[k]?
theorem KpX.refl (n₁ b:Nat) (W:World):KpX n₁ b W W:=⟨Nat.le_refl _,fun _ _ _ _=>rfl⟩
theorem KpX.drewN (n₁ b:Nat) (W:World) (q:Nat):KpX n₁ b W (W.drewN q):=⟨Nat.le_refl _,fun _ _ _ _=>rfl⟩
theorem KpX.trans {n₁ b:Nat} {A B C:World} (h:KpX n₁ b A B) (k:KpX n₁ b B C):KpX n₁ b A C :=
 ⟨Nat.le_trans h.size k.size,fun q h1 h2 h3=>(k.same q h1 h2 (Nat.lt_of_lt_of_le h3 h.size)).trans (h.same q h1 h2 h3)⟩
theorem KpX.cell {n₁ b:Nat} {W W':World} (h:KpX n₁ b W W') {q o:Nat} {v:Value} (hc:W.cell? ⟨q,o,none⟩=some v) (h1:q < n₁) (h2:q ≠ b):W'.cell? ⟨q,o,none⟩=some v :=
 (World.cell?_of_block (a:=⟨q,o,none⟩) (h.same q h1 h2 (World.block_lt_of_cell? W _ hc))).trans hc
theorem KpX.put {n₁ b:Nat} {w:World} (hn:n₁≤w.heap.size) (W:World) (l:Nat) (o o':Obj) (hl:w.heap.size≤l) (h:W.heap[l]?=some o) (_:o.isCells=false) (_:o.isWalk=false):KpX n₁ b W (W.putObj l o') :=
 ⟨(grownBy_putObj' W l o').size,fun k h1 _ h3=>(grownBy_putObj' W l o').block k h3 (fun e=>by cases e;omega)⟩
theorem chunk_from (g o cap m k:Nat) (hlt:k < m) (hcap:2 * m≤cap) (W:World):(Instr.slice 43 (.slice (some ⟨g,o,none⟩) (2 * m) cap) (some (.int .i64 (2 * (k:Int)))) none none).run Tryd.prog W=.ok (.slice (some ⟨g,o+2 * k,none⟩) (2 * m - 2 * k) (cap - 2 * k)) W:=by
 have e:(2 * (k:Int)).toNat=2 * k:=by omega
 rw [run_slice_l W 43 (some ⟨g,o,none⟩) (2 * m) cap (by kernel_rfl) .i64 _ (by omega) (by omega),show sizeOf (Tryd.prog.elem 43)=sizeOf 3 from by kernel_rfl]
 rw [e]
 have h2:¬ cap=2 * k:=by omega
 simp [go_sem,Tryd.sizeOf3,h2]
theorem chunk_two (g o cap m k:Nat) (hlt:k < m) (hcap:2 * m≤cap) (W:World):(Instr.slice 43 (.slice (some ⟨g,o,none⟩) (2 * m) cap) (some (.int .i64 (2 * (k:Int)))) (some (.int .i64 (2 * (k:Int)+2))) (some (.int .i64 (2 * (k:Int)+2)))).run Tryd.prog W=.ok (.slice (some ⟨g,o+2 * k,none⟩) 2 2) W:=by
 have e:(2 * (k:Int)).toNat=2 * k:=by omega
 have e2:(2 * (k:Int)+2).toNat=2 * k+2:=by omega
 rw [run_slice_lhm W 43 (some ⟨g,o,none⟩) (2 * m) cap (by kernel_rfl) .i64 .i64 .i64 _ _ _ (by omega) (by omega) (by omega) (by omega),show sizeOf (Tryd.prog.elem 43)=sizeOf 3 from by kernel_rfl]
 rw [e,e2]
 have h2:¬ 2 * k+2=2 * k:=by omega
 have h3:2 * k+2 - 2 * k=2:=by omega
 simp [go_sem,Tryd.sizeOf3,h2,h3]
section
open Go.Shelf
attribute [local go_sem] Oper.semAt_some
set_option maxRecDepth 100000 in
set_option maxHeartbeats 2000000 in
/-- The iterator of slices.Chunk(xs, 2) over a row of 2 m whole numbers. -/
theorem chunk1_in (n:Nat) (hn:1≤n) (l Bs Bn g o cap m n₁ b:Nat) (hcap:2 * m≤cap) (hcm:2 * m≤8796093022208) (J Jx:List (Fin m)→World→Prop) (hJd:∀ s W q,J s W→J s (W.drewN q))
  (hY:∀ pre x W,J pre W→pre.length < m→YieldAt Fence.wide (n - 1) Tryd.prog l #[.slice (some ⟨g,o+2 * x.val,none⟩) 2 2] W fun e W' =>
   (e=.returned (.bool true)∧J (pre ++ [x]) W'∧KpX n₁ b W W') ∨ (e=.returned (.bool false)∧Jx (pre ++ [x]) W'))
  (W:World) (hBs:W.cell? ⟨Bs,0,none⟩=some (.slice (some ⟨g,o,none⟩) (2 * m) cap)) (hBn:W.cell? ⟨Bn,0,none⟩=some (.int .i64 2)) (hs1:Bs < n₁) (hs2:Bs ≠ b) (hn1:Bn < n₁) (hn2:Bn ≠ b) (h0:J [] W) :
  CallsIn Fence.wide n Tryd.prog 42 #[.func (.yield l) #[] #[],.pointer (some ⟨Bs,0,none⟩),.pointer (some ⟨Bn,0,none⟩)] W fun e W'=>(∃ v,e=.returned v) ∧
   ((∃ ys,ys=List.finRange m∧J ys W') ∨ (∃ pre,True∧Jx pre W')):=by
 refine callsIn_of_wp Tryd.func42 rfl trivial ?_ rfl
 simp only [Tryd.ntmps42,List.size_toArray,List.length_cons,List.length_nil,Nat.reduceAdd,Nat.reduceSub,Array.replicate_succ,Array.replicate_zero,List.push_toArray,List.append_toArray,List.nil_append,List.cons_append]
 gi_wp2
 gi_loopw [4] (fun i wr=>∃ k:Nat,k≤m∧i=.int .i64 (2 * (k:Int))∧J ((List.finRange m).take k) wr∧KpX n₁ b W wr)
  (fun i _=>2 * m - (intOf i).toNat)
 case atStart=>exact ⟨0,Nat.zero_le _,rfl,by simpa using h0,KpX.refl _ _ _⟩
 case round =>
  obtain ⟨k,hk,rfl,hJs,hnx⟩:=hrel
  have hcs:=hnx.cell hBs hs1 hs2
  have hcn:=hnx.cell hBn hn1 hn2
  by_cases hlt:k < m
  ·have hsn:Aside0 ((List.finRange m).take (k+1)=(List.finRange m).take k ++ [⟨k,hlt⟩]):=⟨by rw [List.take_succ_eq_append_getElem (by rw [List.length_finRange];exact hlt)];simp⟩
   have hkz:2 * (k:Int) < ((2 * m:Nat):Int):=by omega
   obtain ⟨d,hd⟩:∃ d,d=2 * m - 2 * k:=⟨_,rfl⟩
   have hsl1:=fun W=>chunk_from g o cap m k hlt hcap W
   have hsl2:=fun W=>chunk_two g o cap m k hlt hcap W
   rw [← hd] at hsl1
   have hmn:((d:Int) < 2)=False:=eq_false (by omega)
   clear hd
   gi_wp2
   refine wpIn_wide.2 ?_
   go_quiet (fail)
   obtain ⟨fn,tmps,assign,body,hyy,hR⟩:=hY _ ⟨k,hlt⟩ (wr.drewN nq) (hJd _ _ _ hJs) (by rw [zz25,List.length_finRange];omega)
   gi_wp2
   refine hR.mono ?_
   rintro e W3 (⟨rfl,hJ3,hk3⟩ | ⟨rfl,hJx3⟩)
   ·have hk4:=hnx.trans ((KpX.drewN _ _ _ _).trans hk3)
    have hcn3:=hk4.cell hBn hn1 hn2
    gi_wp2
    go_roundw
    case rel=>exact ⟨k+1,by omega,by go_num,by rw [hsn.out];exact hJ3,hk4⟩
    case measure=>simp [intOf];omega
   ·gi_wp2
    refine bodyPost_ret (results_none rfl _ _ _) rfl ?_
    exact ⟨⟨_,rfl⟩,.inr ⟨_,trivial,hJx3⟩⟩
  ·obtain rfl:k=m:=by omega
   have hkz:¬ 2 * (k:Int) < 2 * (k:Int):=by omega
   have hJe:J (List.finRange k) wr:=by rw [List.take_of_length_le (by rw [List.length_finRange];exact Nat.le_refl _)] at hJs;exact hJs
   gi_wp2
   go_end0
   exact ⟨⟨_,rfl⟩,.inl (by first | exact hJe | exact ⟨_,rfl,hJe⟩)⟩
end

set_option maxRecDepth 100000 in
set_option maxHeartbeats 1000000 in
theorem chunk1_nil (n l Bs Bn cap:Nat) (A:Option Addr) {m:Nat} (J:List (Fin m)→World→Prop) (W:World) (hBs:W.cell? ⟨Bs,0,none⟩=some (.slice A 0 cap)) (h0:J [] W) :
  CallsIn Fence.wide n Tryd.prog 42 #[.func (.yield l) #[] #[],.pointer (some ⟨Bs,0,none⟩),.pointer (some ⟨Bn,0,none⟩)] W fun e W'=>(∃ v,e=.returned v)∧J [] W':=by
 refine callsIn_of_wp Tryd.func42 rfl trivial ?_ rfl
 simp only [Tryd.ntmps42,List.size_toArray,List.length_cons,List.length_nil,Nat.reduceAdd,Nat.reduceSub,Array.replicate_succ,Array.replicate_zero,List.push_toArray,List.append_toArray,List.nil_append,List.cons_append]
 gi_wp2
 gi_loopw [4] (fun i wr=>i=.int .i64 0∧J [] wr∧wr.cell? ⟨Bs,0,none⟩=some (.slice A 0 cap)) (fun _ _=>0)
 case atStart=>exact ⟨rfl,h0,hBs⟩
 case round =>
  obtain ⟨rfl,hJs,hc⟩:=hrel
  gi_wp2
  go_end0
  exact ⟨⟨_,rfl⟩,hJs⟩
/-- slices.Chunk(xs, 2) over 2 m whole numbers: m rows of two, in order. -/
theorem chunk_stops (n:Nat) (hn:1≤n) (Bs Bn g cap m n₁ b:Nat) (A:Option Addr) (hA:0 < m→A=some ⟨g,1,none⟩) (hcap:2 * m≤cap) (hcm:2 * m≤8796093022208) (w:World) (hs1:Bs < n₁) (hs2:Bs ≠ b) (hn1:Bn < n₁) (hn2:Bn ≠ b)
  (hBs:w.cell? ⟨Bs,0,none⟩=some (.slice A (2 * m) cap)) (hBn:w.cell? ⟨Bn,0,none⟩=some (.int .i64 2)) :
  SeqStopsK Fence.wide n Tryd.prog 42 #[.pointer (some ⟨Bs,0,none⟩),.pointer (some ⟨Bn,0,none⟩)] (fun x:Fin m=>#[Value.slice (some ⟨g,1+2 * x.val,none⟩) 2 2]) (KpX n₁ b) (fun ys=>ys=List.finRange m) (fun _=>True) m w:=fun l J Jx W hW hJ _ hY h0=>by
 have hs':=(hW.cell (p:=⟨Bs,0,none⟩) (World.block_lt_of_cell? w _ hBs)).trans hBs
 have hn':=(hW.cell (p:=⟨Bn,0,none⟩) (World.block_lt_of_cell? w _ hBn)).trans hBn
 have hJd:∀ s W q,J s W→J s (W.drewN q):=fun s W q h=>hJ s W (W.drewN q) none h ⟨rfl,rfl,rfl,Nat.le_refl _,fun _ _ _=>rfl⟩ (fun r e=>by cases e)
 rcases Nat.eq_zero_or_pos m with hz | hz
 ·subst hz
  exact (chunk1_nil n l Bs Bn cap A J W hs' h0).mono fun e W' ⟨he,hj⟩=>⟨he,.inl ⟨_,rfl,hj⟩⟩
 ·have e:=hA hz
  subst e
  exact chunk1_in n hn l Bs Bn g 1 cap m n₁ b hcap hcm J Jx hJd hY W hs' hn' hs1 hs2 hn1 hn2 h0
set_option maxHeartbeats 1000000 in
theorem chunk_any (A:Option Addr) (n c:Nat) (w:World):Calls Tryd.prog 23 #[.slice A n c,.int .i64 2] w fun e w'=>e=.returned (.func (.func 42) #[] #[.pointer (some ⟨w.heap.size,0,none⟩),.pointer (some ⟨w.heap.size+1,0,none⟩)])∧w'=(w.alloc (.cells #[.slice A n c] 43)).alloc (.cells #[.int .i64 2] 3):=by
 go_enter Tryd.func23,Tryd.ntmps23
 go_wp2
 go_ret
 exact ⟨rfl,rfl⟩

end Go.Proofs.YtoedkkoafidalaaDoor.P
