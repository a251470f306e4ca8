-- PRINTED by print.py (a twelfth state) out of the translation. Not trusted: Lean checks it.
import Derived.Test.YtoedkkoafidalaaDoorPx0
import Derived.Test.YtoedkkoafidalaaDoorPx1
import Derived.Test.YtoedkkoafidalaaDoorPx2
namespace Go.Proofs.YtoedkkoafidalaaDoor.P
open Go.RowKit Go.Proofs.YtoedkkoafidalaaDoorW.PrintWords Go.Proofs.YtoedkkoafidalaaDoorW.PrintLast Go.Proofs.YtoedkkoafidalaaDoorW.PrintMore
open Bool renaming true → T, false → F
attribute [local go_sem] max2_int min2_int max_two min_two max_three min_three max_four min_four   -- for this text's walks alone
set_option linter.unusedVariables false
set_option linter.unusedSimpArgs false

/-! ### impl_partyText: function 19 -/
def impl_partyText.l0:Nat→List ByteArray→List (S50)→Int→Int→Int→List (S50)→Option (ByteArray)
 | 0,_,_,_,_,_,_=>none
 | k+1,x3,x8,x9,x10,x184000,x184001=>if x10 < x9 then (if 0≤x10 then (if x10 < (x8.length:Int) then ((strconv_Itoa_33.f ((rd_T50 x8 x10).f0)).bind fun t189=>(if t189.size+1≤9223372036854775807 then ((strconv_Itoa_33.f ((rd_T50 x8 x10).f1)).bind fun t190=>(if (t189 ++ (⟨#[45]⟩:ByteArray)).size+t190.size≤9223372036854775807 then (if x3.length < 8796093022208 then (impl_partyText.l0 k (x3 ++ [(t189 ++ (⟨#[45]⟩:ByteArray)) ++ t190]) x8 x9 (wrap64 (x10+1)) x184000 x184001) else (none)) else (none))) else (none))) else (none)) else (none)) else ((strconv_Itoa_33.f x184000).bind fun t194=>(if t194.size+1≤9223372036854775807 then ((strings_Join.f x3 (⟨#[44]⟩:ByteArray)).bind fun t195=>(if (t194 ++ (⟨#[58]⟩:ByteArray)).size+t195.size≤9223372036854775807 then (some ((t194 ++ (⟨#[58]⟩:ByteArray)) ++ t195)) else (none))) else (none)))
def impl_partyText.f (k:Nat) (a0_0:Int) (l0_1:List (S50)):Option (ByteArray):=impl_partyText.l0 k (([]:List ByteArray)) l0_1 (l0_1.length:Int) 0 a0_0 l0_1
theorem impl_partyText.mono_l:∀ k,(∀ y0 y1 y2 y3 y4 y5,LeO (impl_partyText.l0 k y0 y1 y2 y3 y4 y5) (impl_partyText.l0 (k+1) y0 y1 y2 y3 y4 y5))
 | 0=>fun _ _ _ _ _ _ r h=>by simp [impl_partyText.l0] at h
 | k+1=>by
  have ih0:=impl_partyText.mono_l k
  ·intro y0 y1 y2 y3 y4 y5
   unfold impl_partyText.l0
   repeat' first
   | (with_reducible exact ih0 _ _ _ _ _ _)
   | (with_reducible exact LeO.refl _)
   | (with_reducible exact LeO.none _)
   | (with_reducible refine LeO.ite ?_ ?_)
   | (with_reducible refine LeO.bind ?_ (fun _=>?_))
   | exact ih0 _ _ _ _ _ _
   | exact LeO.none _
   | refine LeO.ite ?_ ?_
   | refine LeO.bind ?_ (fun _=>?_)
theorem impl_partyText.mono:∀ a0 a1 k,LeO (impl_partyText.f k a0 a1) (impl_partyText.f (k+1) a0 a1):=by
 intro a0 a1 k
 have ih0:=impl_partyText.mono_l k
 unfold impl_partyText.f
 repeat' first
   | (with_reducible exact ih0 _ _ _ _ _ _)
   | (with_reducible exact LeO.refl _)
   | (with_reducible exact LeO.none _)
   | (with_reducible refine LeO.ite ?_ ?_)
   | (with_reducible refine LeO.bind ?_ (fun _=>?_))
   | exact ih0 _ _ _ _ _ _
   | exact LeO.none _
   | refine LeO.ite ?_ ?_
   | refine LeO.bind ?_ (fun _=>?_)
def impl_partyText.T5:Bool × List (List Nat × List Nat):=(true,[([],[]),([],[]),([1],[1]),([2],[2]),([3],[3]),([],[]),([5],[5]),([6,3],[6]),([4,7],[4,7]),([8],[8]),([0,9,7],[0,9]),([10,10,0,1,2,3,4,5,6,7,8,9,10],[0,10])])
def impl_partyText.B5:List Nat:=[0,0,2,6,14,0,32,110,254,510,1023,2047]
theorem impl_partyText.tab5:rtab .any (opsOf Tryd.f19 5)=impl_partyText.T5:=by kernel_rfl
theorem impl_partyText.bits5:waitsOk impl_partyText.T5.2 impl_partyText.B5=true:=by kernel_rfl
set_option maxHeartbeats 8000000 in
set_option maxRecDepth 100000 in
theorem impl_partyText.calls (k:Nat) (a0_0:Int) (A0_1:Option Addr) (c0_1:Nat) (l0_1:List (S50)) (r:ByteArray) (w:World) (hr0_1:Kd.C k50 w A0_1 l0_1.length l0_1) (hc0_1:l0_1.length≤c0_1) (h:impl_partyText.f k a0_0 l0_1=some r) :
  Calls Tryd.prog 19 #[.agg #[.int .i64 a0_0,.slice A0_1 l0_1.length c0_1]] w fun e w'=>e=.returned (.string r)∧Below w.heap.size w w':=by
 have hu30:=Tryd.underlying30
 have hu50:=Tryd.underlying50
 have HR0_1:=zz31 hr0_1
 have HC0_1:=zz31 hc0_1
 clear hr0_1 hc0_1
 have HB:=zz31 (Below.refl w.heap.size w)
 have H:(impl_partyText.l0 k (([]:List ByteArray)) l0_1 (l0_1.length:Int) 0 a0_0 l0_1)=some r:=h
 clear h
 obtain ⟨y184,hy184⟩:∃ y_:List ByteArray,y_=(([]:List ByteArray)):=⟨_,rfl⟩
 replace H:(impl_partyText.l0 k y184 l0_1 (l0_1.length:Int) 0 a0_0 l0_1)=some r:=by first | (rw [hy184];with_reducible exact H) | (have H2_:=(Option.bind_some _ _).symm.trans H;rw [hy184];with_reducible exact H2_) | (have H2_:=(Option.bind_some _ _).symm.trans H;with_reducible exact H2_) | with_reducible exact H | (rw [hy184];exact H) | exact H
 have Ny184:=zz31 hy184
 clear hy184
 have H':=zz31 H
 clear H
 go_enter Tryd.func19,Tryd.ntmps19
 go_wp2_with (first | ((with_reducible refine gate_dst (N:=1) rfl ?_);refine box_event ?hg (N:=1) ?hd (cs:=#[.int .i64 a0_0,.slice A0_1 l0_1.length c0_1]) (t:=30) ?hr ?_;(case hd=>rfl);(case hg=>rfl);(case hr=>first | (go_simp;done) | (go_simp;rfl));intro gb183 hg w2 hbox hb;have n0_:=zz31 (zz4 (by repeat first | exact HB.out | apply zz2 | apply zz0 | apply zz1) hb);have n1_:=zz31 (hbox);have n2_:=zz31 ((by rw [hg];exact (zz5 (by repeat first | exact HB.out | apply zz2 | apply zz0 | apply zz1)):w.heap.size≤gb183));have n3_:=zz31 ((by rw [hg];exact (zz5 (by repeat first | exact HB.out | apply zz2 | apply zz0 | apply zz1)):w.heap.size≤gb183));clear HB;have HB:=n0_;have BK183:=n1_;have GW183:=n2_;have GE183:=n3_;clear n0_ n1_ n2_ n3_;clear hb hbox hg) | ((with_reducible refine gate_dst (N:=6) rfl ?_);refine Kd.R_lit Kd.string _ 9 ?hg (N:=6) ?hd (xs:=([]:List ByteArray)) (inner:=[]) (ok:=fun _=>True) (okp:=fun _=>True) ?hr ?hp (fun _ hk=>hk) trivial (Below.refl _ _) (Nat.le_refl _) (by simp) ?_;(case hd=>rfl);(case hg=>rfl);(case hr=>first | (go_simp;done) | (go_simp;rfl));(case hp=>exact (Reps.none _ _));intro v185 w3 ho4 hb hg_ hnew_;clear hg_ hnew_;(first | rw [← Ny184.out] at ho4 | (simp only [Int.reduceToNat] at ho4;rw [← Ny184.out] at ho4));have n0_:=zz31 (Kd.R_lower ho4 (zz5 (by repeat first | exact HB.out | apply zz2 | apply zz0 | apply zz1 | refine zz3 ?_ GE183.out)));have n1_:=zz31 (zz11 (g:=gb183) (o:=.cells #[.int .i64 a0_0,.slice A0_1 l0_1.length c0_1] 30 (0,0)) (by (with_reducible repeat (first | refine zz6 ?_ _ | refine zz7 ?_ | refine zz8 ?_ _));exact BK183.out) hb);have n2_:=zz31 (zz4 (by repeat first | exact HB.out | apply zz2 | apply zz0 | apply zz1 | refine zz3 ?_ GE183.out) hb);clear BK183;clear HB;have HO186:=n0_;have BK183:=n1_;have HB:=n2_;clear n0_ n1_ n2_;clear hb ho4;have hcz5_0:w3.cell? ⟨gb183,0,none⟩=some (.int .i64 a0_0):=(zz9 BK183.out 0).trans rfl;have hcz5_1:w3.cell? ⟨gb183,1,none⟩=some (.slice A0_1 l0_1.length c0_1):=(zz9 BK183.out 1).trans rfl;have hfz5_0:=zz10 BK183.out 0;have hfz5_1:=zz10 BK183.out 1))
 go_loopg [3,10] k (fun kq v3 v10 w'=>∃ (x3_1:List ByteArray) (x10_1:Int),v10=.int .i64 x10_1∧Aside0 (impl_partyText.l0 kq x3_1 l0_1 (l0_1.length:Int) x10_1 a0_0 l0_1=some r)∧Aside0 (kq≤k)∧Aside0 (Kd.R Kd.string 9 w' w.heap.size (fun _=>True) v3 x3_1)∧Aside0 (w'.heap[gb183]?=some (.cells #[.int .i64 a0_0,(.slice A0_1 l0_1.length c0_1)] 30 (0,0)))∧Aside0 (Below w.heap.size w w'))
 case atStart=>exact ⟨(y184),(0),(by first | rfl | (simp;done) | (simp [*];done)),H',⟨Nat.le_refl _⟩,⟨by (with_reducible repeat (first | apply zz12 | apply zz13 | apply zz14));exact HO186.out⟩,⟨by (with_reducible repeat (first | refine zz6 ?_ _ | refine zz7 ?_ | refine zz8 ?_ _));exact BK183.out⟩,⟨by repeat first | exact HB.out | apply zz2 | apply zz0 | apply zz1 | refine zz3 ?_ GE183.out⟩⟩
 case round =>
  clear H'
  try clear c1
  try clear p2
  try clear hcz5_0
  try clear hcz5_1
  try clear hfz5_0
  try clear hfz5_1
  obtain ⟨x3_1,x10_1,rfl,HA,HK1,HO_3,BK183,HB⟩:=hrel
  cases gk with
  | zero=>exact absurd HA.out (by simp [impl_partyText.l0])
  | succ k1 =>
   have H:=HA.out
   clear HA
   simp only [impl_partyText.l0] at H
   by_cases c6:x10_1 < (l0_1.length:Int)
   ·rw [if_pos c6] at H
    have c6b0:decide (x10_1 < (l0_1.length:Int))=true:=decide_eq_true c6
    clear c6
    by_cases c7:0≤x10_1
    ·rw [if_pos c7] at H
     have c7b0:decide (0≤x10_1)=true:=decide_eq_true c7
     clear c7
     by_cases c8:x10_1 < (l0_1.length:Int)
     ·rw [if_pos c8] at H
      have c8b0:decide (x10_1 < (l0_1.length:Int))=true:=decide_eq_true c8
      clear c8
      replace H:=zz30.mp H
      obtain ⟨t189,A90,H⟩:=H
      replace H:(if t189.size+1≤9223372036854775807 then ((strconv_Itoa_33.f ((rd_T50 l0_1 x10_1).f1)).bind fun t190=>(if (t189 ++ (⟨#[45]⟩:ByteArray)).size+t190.size≤9223372036854775807 then (if x3_1.length < 8796093022208 then (impl_partyText.l0 k1 (x3_1 ++ [(t189 ++ (⟨#[45]⟩:ByteArray)) ++ t190]) l0_1 (l0_1.length:Int) (wrap64 (x10_1+1)) a0_0 l0_1) else (none)) else (none))) else (none))=some r:=H
      have A9:=zz31 A90
      clear A90
      by_cases c10:t189.size+1≤9223372036854775807
      ·rw [if_pos c10] at H
       have c10b0:=eq_true c10
       have c10b1:decide (t189.size+1≤9223372036854775807)=true:=decide_eq_true c10
       try have c10b2:(9223372036854775807 < t189.size+1)=False:=eq_false (Nat.not_lt.2 c10)
       replace H:=zz30.mp H
       obtain ⟨t190,A110,H⟩:=H
       replace H:(if (t189 ++ (⟨#[45]⟩:ByteArray)).size+t190.size≤9223372036854775807 then (if x3_1.length < 8796093022208 then (impl_partyText.l0 k1 (x3_1 ++ [(t189 ++ (⟨#[45]⟩:ByteArray)) ++ t190]) l0_1 (l0_1.length:Int) (wrap64 (x10_1+1)) a0_0 l0_1) else (none)) else (none))=some r:=H
       have A11:=zz31 A110
       clear A110
       by_cases c12:(t189 ++ (⟨#[45]⟩:ByteArray)).size+t190.size≤9223372036854775807
       ·rw [if_pos c12] at H
        have c12b0:=eq_true c12
        have c12b1:decide ((t189 ++ (⟨#[45]⟩:ByteArray)).size+t190.size≤9223372036854775807)=true:=decide_eq_true c12
        try have c12b2:(9223372036854775807 < (t189 ++ (⟨#[45]⟩:ByteArray)).size+t190.size)=False:=eq_false (Nat.not_lt.2 c12)
        (try (have c12b3:=c12b2;simp only [ByteArray.size_append,show (⟨#[45]⟩:ByteArray).size=1 from rfl] at c12b3))
        by_cases c13:x3_1.length < 8796093022208
        ·rw [if_pos c13] at H
         have LMc13:=zz31 c13
         clear c13
         obtain ⟨y191,hy191⟩:∃ y_:List ByteArray,y_=(x3_1 ++ [(t189 ++ (⟨#[45]⟩:ByteArray)) ++ t190]):=⟨_,rfl⟩
         replace H:(impl_partyText.l0 k1 y191 l0_1 (l0_1.length:Int) (wrap64 (x10_1+1)) a0_0 l0_1)=some r:=by first | (rw [hy191];with_reducible exact H) | (have H2_:=(Option.bind_some _ _).symm.trans H;rw [hy191];with_reducible exact H2_) | (have H2_:=(Option.bind_some _ _).symm.trans H;with_reducible exact H2_) | with_reducible exact H | (rw [hy191];exact H) | exact H
         have Ny191:=zz31 hy191
         clear hy191
         have H':=zz31 H
         clear H
         have p187:0≤(x10_1:Int):=zz29 (by first | (with_reducible assumption) | assumption)
         have q187:x10_1 < (l0_1.length:Int):=zz29 (by first | (with_reducible assumption) | assumption)
         obtain ⟨ad187,e187,hx187_0,hx187_1⟩:=at_T50 HR0_1.out x10_1 p187 q187
         cases e187
         try replace hx187_0:=(HB.out.cell (World.block_lt_of_cell? w _ hx187_0)).trans hx187_0
         try replace hx187_1:=(HB.out.cell (World.block_lt_of_cell? w _ hx187_1)).trans hx187_1
         replace p187:=eq_true p187
         replace q187:=eq_true q187
         try go_wp2_with (first | ((with_reducible refine gate_dst (N:=5) rfl ?_);refine box_event ?hg (N:=5) ?hd (cs:=#[.int .i64 0,.int .i64 0]) (t:=50) ?hr ?_;(case hd=>rfl);(case hg=>rfl);(case hr=>first | (go_simp;done) | (go_simp;rfl));intro gb188 hg w14 hbox hb;have n0_:=zz31 (Kd.R_below (by (with_reducible repeat (first | apply zz12 | apply zz13 | apply zz14));exact HO_3.out) hb);have n1_:=zz31 (zz11 (g:=gb183) (o:=.cells #[.int .i64 a0_0,.slice (some ad187) l0_1.length c0_1] 30 (0,0)) (by (with_reducible repeat (first | refine zz6 ?_ _ | refine zz7 ?_ | refine zz8 ?_ _));exact BK183.out) hb);have n2_:=zz31 (zz4 (by repeat first | exact HB.out | apply zz2 | apply zz0 | apply zz1 | refine zz3 ?_ GE183.out) hb);have n3_:=zz31 (hbox);have n4_:=zz31 ((by rw [hg];exact (zz5 (by repeat first | exact HB.out | apply zz2 | apply zz0 | apply zz1 | refine zz3 ?_ GE183.out)):w.heap.size≤gb188));have n5_:=zz31 ((by rw [hg];exact (zz5 (by repeat first | exact HB.out | apply zz2 | apply zz0 | apply zz1 | refine zz3 ?_ GE183.out)):w.heap.size≤gb188));have n6_:=zz31 ((by rw [hg];exact Nat.ne_of_lt (blk_lt (g:=gb183) (o:=.cells #[.int .i64 a0_0,.slice (some ad187) l0_1.length c0_1] 30 (0,0)) (by (with_reducible repeat (first | refine zz6 ?_ _ | refine zz7 ?_ | refine zz8 ?_ _));exact BK183.out)):gb183 ≠ gb188));have n7_:=zz31 ((by rw [hg];exact Nat.ne_of_gt (blk_lt (g:=gb183) (o:=.cells #[.int .i64 a0_0,.slice (some ad187) l0_1.length c0_1] 30 (0,0)) (by (with_reducible repeat (first | refine zz6 ?_ _ | refine zz7 ?_ | refine zz8 ?_ _));exact BK183.out)):gb188 ≠ gb183));clear HO_3;clear BK183;clear HB;have HO_3:=n0_;have BK183:=n1_;have HB:=n2_;have BK188:=n3_;have GW188:=n4_;have GE188:=n5_;have NB183_188:=n6_;have NB188_183:=n7_;clear n0_ n1_ n2_ n3_ n4_ n5_ n6_ n7_;clear hb hbox hg;have hnb15:=NB188_183.out;have hnc15:=NB183_188.out;have hcz16_0:w14.cell? ⟨gb188,0,none⟩=some (.int .i64 0):=(zz9 BK188.out 0).trans rfl;have hcz16_1:w14.cell? ⟨gb188,1,none⟩=some (.int .i64 0):=(zz9 BK188.out 1).trans rfl;have hfz16_0:=zz10 BK188.out 0;have hfz16_1:=zz10 BK188.out 1))
         have n0_:Aside0 (Kd.R Kd.string 9 ((w14.setCell ⟨gb188,0,none⟩ (.int .i64 ((rd_T50 l0_1 x10_1).f0))).setCell ⟨gb188,1,none⟩ (.int .i64 ((rd_T50 l0_1 x10_1).f1))) w.heap.size (fun _=>True) u3 x3_1):=⟨by (with_reducible repeat (first | apply zz12 | apply zz13 | apply zz14));exact Kd.R_mono (Kd.R_far (p:=⟨gb188,1,none⟩) (Kd.R_far (p:=⟨gb188,0,none⟩) (Kd.R_types HO_3.out BK188.out (by decide)) (fun _ hk=>hk.2) (.int .i64 ((rd_T50 l0_1 x10_1).f0))) (fun _ hk=>hk.2) (.int .i64 ((rd_T50 l0_1 x10_1).f1))) (fun _ hk=>trivial)⟩
         have n1_:Aside0 (((w14.setCell ⟨gb188,0,none⟩ (.int .i64 ((rd_T50 l0_1 x10_1).f0))).setCell ⟨gb188,1,none⟩ (.int .i64 ((rd_T50 l0_1 x10_1).f1))).heap[gb183]?=some (.cells #[.int .i64 a0_0,.slice (some ad187) l0_1.length c0_1] 30 (0,0))):=⟨by (with_reducible repeat (first | refine zz6 ?_ _ | refine zz7 ?_ | refine zz8 ?_ _));refine blk_far ?_ NB183_188.out _;(with_reducible repeat (first | refine zz6 ?_ _ | refine zz7 ?_ | refine zz8 ?_ _));refine blk_far ?_ NB183_188.out _;(with_reducible repeat (first | refine zz6 ?_ _ | refine zz7 ?_ | refine zz8 ?_ _));exact BK183.out⟩
         have n2_:Aside0 (((w14.setCell ⟨gb188,0,none⟩ (.int .i64 ((rd_T50 l0_1 x10_1).f0))).setCell ⟨gb188,1,none⟩ (.int .i64 ((rd_T50 l0_1 x10_1).f1))).heap[gb188]?=some (.cells #[.int .i64 ((rd_T50 l0_1 x10_1).f0),.int .i64 ((rd_T50 l0_1 x10_1).f1)] 50 (0,0))):=⟨by (with_reducible repeat (first | refine zz6 ?_ _ | refine zz7 ?_ | refine zz8 ?_ _));refine blk_put (cs:=#[.int .i64 ((rd_T50 l0_1 x10_1).f0),.int .i64 0]) ?_ 1 _ rfl;(with_reducible repeat (first | refine zz6 ?_ _ | refine zz7 ?_ | refine zz8 ?_ _));refine blk_put (cs:=#[.int .i64 0,.int .i64 0]) ?_ 0 _ rfl;(with_reducible repeat (first | refine zz6 ?_ _ | refine zz7 ?_ | refine zz8 ?_ _));exact BK188.out⟩
         have n3_:Aside0 (Below w.heap.size w ((w14.setCell ⟨gb188,0,none⟩ (.int .i64 ((rd_T50 l0_1 x10_1).f0))).setCell ⟨gb188,1,none⟩ (.int .i64 ((rd_T50 l0_1 x10_1).f1)))):=⟨by repeat first | exact HB.out | apply zz2 | apply zz0 | apply zz1 | refine zz3 ?_ GE183.out | refine zz3 ?_ GE188.out⟩
         (try clear HO_3)
         (try clear BK183)
         (try clear BK188)
         (try clear HB)
         generalize ((w14.setCell ⟨gb188,0,none⟩ (.int .i64 ((rd_T50 l0_1 x10_1).f0))).setCell ⟨gb188,1,none⟩ (.int .i64 ((rd_T50 l0_1 x10_1).f1)))=w17 at n0_ n1_ n2_ n3_ ⊢
         have HO_3:=n0_
         have BK183:=n1_
         have BK188:=n2_
         have HB:=n3_
         clear n0_ n1_ n2_ n3_
         have n0_:=zz31 (zz14 HO_3.out)
         have n1_:=zz31 (zz7 BK183.out)
         have n2_:=zz31 (zz7 BK188.out)
         have n3_:=zz31 (zz1 HB.out)
         clear HO_3
         clear BK183
         clear BK188
         clear HB
         have HO_3:=n0_
         have BK183:=n1_
         have BK188:=n2_
         have HB:=n3_
         clear n0_ n1_ n2_ n3_
         refine start_ (n:=12) (S:=fun w'=>w'.cell? ⟨gb188,0,none⟩=some (.int .i64 ((rd_T50 l0_1 x10_1).f0))∧w'.cell? ⟨gb188,1,none⟩=some (.int .i64 ((rd_T50 l0_1 x10_1).f1))) (ds:=[]) #[F,F,F,F,F,F,F,F,F,F,F,F] (by kernel_rfl) rfl rfl ⟨(zz9 BK188.out 0).trans rfl,(zz9 BK188.out 1).trans rfl⟩ (fun hHeld=>?_);refine with_tabW impl_partyText.tab5 impl_partyText.bits5 (fun HT_ HW_=>?_)
         generalize w17.drew=w18 at HO_3 BK183 BK188 HB hHeld ⊢
         refine pure_ (i:=0) (N:=some 14) (v:=?_) (a':=?_) #[T,F,F,F,F,F,F,F,F,F,F,F] rfl rfl (any_of HT_.out (by kernel_rfl)) (fun _ _ _ h=>h) (Or.inl ⟨by rfl,?_⟩) ?_ ?_
         rotate_left
         ·intro w'
          go_simp
          with_reducible rfl
         rotate_left
         ·simp only [Act.put,zz21,zz22,zz23,i64_w,i32_w]
          rfl
         refine pure_ (i:=1) (N:=some 15) (v:=?_) (a':=?_) #[T,T,F,F,F,F,F,F,F,F,F,F] rfl rfl (any_of HT_.out (by kernel_rfl)) (fun _ _ _ h=>h) (Or.inl ⟨by rfl,?_⟩) ?_ ?_
         rotate_left
         ·intro w'
          go_simp
          with_reducible rfl
         rotate_left
         ·simp only [Act.put,zz21,zz22,zz23,i64_w,i32_w]
          rfl
         refine pure_ (i:=5) (N:=some 19) (v:=?_) (a':=?_) #[T,T,F,F,F,T,F,F,F,F,F,F] rfl rfl (any_of HT_.out (by kernel_rfl)) (fun _ _ _ h=>h) (Or.inl ⟨by rfl,?_⟩) ?_ ?_
         rotate_left
         ·intro w'
          go_simp
          with_reducible rfl
         rotate_left
         ·simp only [Act.put,zz21,zz22,zz23,i64_w,i32_w]
          rfl
         refine take_ (i:=2) (N:=some 16) (v:=?_) (a':=?_) #[T,T,T,F,F,T,F,F,F,F,F,F] rfl rfl (take_ofW HT_.out HW_.out (by kernel_rfl)) (fun _ _ _ h=>h) (Or.inl ⟨by rfl,?_⟩) hHeld ?_ ?_
         rotate_left
         ·rintro w' ⟨s0,s1⟩
          go_simp
          with_reducible rfl
         rotate_left
         ·simp only [Act.put,zz21,zz22,zz23,i64_w,i32_w]
          rfl
         refine take_ (i:=6) (N:=some 20) (v:=?_) (a':=?_) #[T,T,T,F,F,T,T,F,F,F,F,F] rfl rfl (take_ofW HT_.out HW_.out (by kernel_rfl)) (fun _ _ _ h=>h) (Or.inl ⟨by rfl,?_⟩) hHeld ?_ ?_
         rotate_left
         ·rintro w' ⟨s0,s1⟩
          go_simp
          with_reducible rfl
         rotate_left
         ·simp only [Act.put,zz21,zz22,zz23,i64_w,i32_w]
          rfl
         refine one_ (i:=3) (N:=some 17) #[T,T,T,T,F,T,T,F,F,F,F,F] rfl rfl (one_of HT_.out (by kernel_rfl)) (by decide) (fun K hK=>?_)
         refine goes_ Tryd.func33 (by kernel_rfl) rfl #[.int .i64 ((rd_T50 l0_1 x10_1).f0)] (by rfl) rfl rfl (by (try simp only [zz26,zz27,zz28]);first | done | rfl | (simp only [zz24,zz25];rfl)) ?_
         with_reducible refine (strconv_Itoa_33.calls ((rd_T50 l0_1 x10_1).f0) t189 _ A9.out).mono ?_
         rintro e w' ⟨rfl,⟨nd,rfl⟩⟩
         refine ⟨_,rfl,?_⟩
         refine hK.out _ _ ⟨(zz9 BK188.out 0).trans rfl,(zz9 BK188.out 1).trans rfl⟩ (fun hHeld=>?_)
         clear hK K
         refine norm_ (a':=?_) ?_ ?_
         rotate_left
         ·show Act.put _ (some 17) _=_
          simp only [Act.put,zz21,zz22,zz23,i64_w,i32_w]
          rfl
         refine pure_ (i:=4) (N:=some 18) (v:=?_) (a':=?_) #[T,T,T,T,T,T,T,F,F,F,F,F] rfl rfl (any_of HT_.out (by kernel_rfl)) (fun _ _ _ h=>h) (Or.inl ⟨by rfl,?_⟩) ?_ ?_
         rotate_left
         ·intro w'
          go_simp
          with_reducible rfl
         rotate_left
         ·simp only [Act.put,zz21,zz22,zz23,i64_w,i32_w]
          rfl
         refine one_ (i:=7) (N:=some 21) #[T,T,T,T,T,T,T,T,F,F,F,F] rfl rfl (one_of HT_.out (by kernel_rfl)) (by decide) (fun K hK=>?_)
         refine goes_ Tryd.func33 (by kernel_rfl) rfl #[.int .i64 ((rd_T50 l0_1 x10_1).f1)] (by rfl) rfl rfl (by (try simp only [zz26,zz27,zz28]);first | done | rfl | (simp only [zz24,zz25];rfl)) ?_
         with_reducible refine (strconv_Itoa_33.calls ((rd_T50 l0_1 x10_1).f1) t190 _ A11.out).mono ?_
         rintro e w' ⟨rfl,⟨nd,rfl⟩⟩
         refine ⟨_,rfl,?_⟩
         refine hK.out _ _ ⟨(zz9 BK188.out 0).trans rfl,(zz9 BK188.out 1).trans rfl⟩ (fun hHeld=>?_)
         clear hK K
         refine norm_ (a':=?_) ?_ ?_
         rotate_left
         ·show Act.put _ (some 21) _=_
          simp only [Act.put,zz21,zz22,zz23,i64_w,i32_w]
          rfl
         refine pure_ (i:=8) (N:=some 22) (v:=?_) (a':=?_) #[T,T,T,T,T,T,T,T,T,F,F,F] rfl rfl (any_of HT_.out (by kernel_rfl)) (fun _ _ _ h=>h) (Or.inl ⟨by rfl,?_⟩) ?_ ?_
         rotate_left
         ·intro w'
          go_simp
          with_reducible rfl
         rotate_left
         ·simp only [Act.put,zz21,zz22,zz23,i64_w,i32_w]
          rfl
         refine one_ (i:=9) (N:=some 23) #[T,T,T,T,T,T,T,T,T,T,F,F] rfl rfl (one_of HT_.out (by kernel_rfl)) (by decide) (fun K hK=>?_)
         refine value_ (w1:=?_) (v:=?_) (by rfl) rfl ?_ ?_
         rotate_left 2
         ·go_simp
          constructor
          ·rfl
          ·rfl
         refine hK.out _ _ ⟨(zz9 (zz8 BK188.out _) 0).trans rfl,(zz9 (zz8 BK188.out _) 1).trans rfl⟩ (fun hHeld=>?_)
         clear hK K
         refine norm_ (a':=?_) ?_ ?_
         rotate_left
         ·show Act.put _ (some 23) _=_
          simp only [Act.put,zz21,zz22,zz23,i64_w,i32_w]
          rfl
         refine one_ (i:=10) (N:=some 24) #[T,T,T,T,T,T,T,T,T,T,T,F] rfl rfl (one_of HT_.out (by kernel_rfl)) (by decide) (fun K hK=>?_)
         refine Kd.R_append_step Kd.string (w0:=w) w.heap.size (by rfl) (.tmp 14) (.tmp 23) 59 9 (.string ⟨#[]⟩) 16 rfl Tryd.underlying59 info9 rfl (by decide) (by omega) u3 x3_1 ((t189 ++ (⟨#[45]⟩:ByteArray)) ++ t190) [.string ((t189 ++ (⟨#[45]⟩:ByteArray)) ++ t190)] (fun _=>True) (fun _=>False) rfl rfl ?aP (fun _ hk=>hk.elim) ?aF ?aO ?aB ?aS ?aL ?_
         (case aP=>exact rfl)
         (case aB=>exact (by repeat first | exact HB.out | apply zz2 | apply zz0 | apply zz1 | refine zz3 ?_ GE183.out | refine zz3 ?_ GE188.out))
         (case aF=>exact (fun _ _=>trivial))
         (case aO=>exact (by (with_reducible repeat (first | apply zz12 | apply zz13 | apply zz14));exact HO_3.out))
         (case aS=>exact (zz5 (by repeat first | exact HB.out | apply zz2 | apply zz0 | apply zz1 | refine zz3 ?_ GE183.out | refine zz3 ?_ GE188.out)))
         (case aL=>have:=LMc13.out;omega)
         intro v192 w19 ho hb hg hat
         rw [← Ny191.out] at ho
         have n0_:=zz31 (blk_grown (g:=gb183) (o:=.cells #[.int .i64 a0_0,.slice (some ad187) l0_1.length c0_1] 30 (0,0)) (by (with_reducible repeat (first | refine zz6 ?_ _ | refine zz7 ?_ | refine zz8 ?_ _));exact BK183.out) hg (Kd.R_ne HO_3.out BK183.out (by decide)))
         have n1_:=zz31 (blk_grown (g:=gb188) (o:=.cells #[.int .i64 ((rd_T50 l0_1 x10_1).f0),.int .i64 ((rd_T50 l0_1 x10_1).f1)] 50 (0,0)) (by (with_reducible repeat (first | refine zz6 ?_ _ | refine zz7 ?_ | refine zz8 ?_ _));exact BK188.out) hg (Kd.R_ne HO_3.out BK188.out (by decide)))
         have n2_:=zz31 (hb)
         have n3_:=zz31 (ho)
         clear BK183
         clear BK188
         clear HB
         clear HO_3
         have BK183:=n0_
         have BK188:=n1_
         have HB:=n2_
         have HO193:=n3_
         clear n0_ n1_ n2_ n3_
         clear ho hb hg hat
         refine hK.out _ _ ⟨(zz9 BK188.out 0).trans rfl,(zz9 BK188.out 1).trans rfl⟩ (fun hHeld=>?_)
         clear hK K
         refine norm_ (a':=?_) ?_ ?_
         rotate_left
         ·show Act.put _ (some 24) _=_
          simp only [Act.put,zz21,zz22,zz23,i64_w,i32_w]
          rfl
         refine pure_ (i:=11) (N:=some 3) (v:=?_) (a':=?_) #[T,T,T,T,T,T,T,T,T,T,T,T] rfl rfl (any_of HT_.out (by kernel_rfl)) (fun _ _ _ h=>h) (Or.inl ⟨by rfl,?_⟩) ?_ ?_
         rotate_left
         ·intro w'
          go_simp
          with_reducible rfl
         rotate_left
         ·simp only [Act.put,zz21,zz22,zz23,i64_w,i32_w]
          rfl
         refine done_ (done_of HT_.out (by kernel_rfl)) ?_
         try go_wp2
         go_roundg k1
         case measure=>have:=HK1.out;omega
         case rel=>exact ⟨(y191),(wrap64 (x10_1+1)),(by first | rfl | (simp;done) | (simp [*];done)),H',⟨by have:=HK1.out;omega⟩,⟨by (with_reducible repeat (first | apply zz12 | apply zz13 | apply zz14));exact HO193.out⟩,⟨by (with_reducible repeat (first | refine zz6 ?_ _ | refine zz7 ?_ | refine zz8 ?_ _));exact BK183.out⟩,⟨by repeat first | exact HB.out | apply zz2 | apply zz0 | apply zz1 | refine zz3 ?_ GE183.out | refine zz3 ?_ GE188.out⟩⟩
        ·rw [if_neg c13] at H
         exact absurd H (by simp)
       ·rw [if_neg c12] at H
        exact absurd H (by simp)
      ·rw [if_neg c10] at H
       exact absurd H (by simp)
     ·rw [if_neg c8] at H
      exact absurd H (by simp)
    ·rw [if_neg c7] at H
     exact absurd H (by simp)
   ·rw [if_neg c6] at H
    have c6b0:decide (x10_1 < (l0_1.length:Int))=false:=decide_eq_false c6
    clear c6
    replace H:=zz30.mp H
    obtain ⟨t194,A200,H⟩:=H
    replace H:(if t194.size+1≤9223372036854775807 then ((strings_Join.f x3_1 (⟨#[44]⟩:ByteArray)).bind fun t195=>(if (t194 ++ (⟨#[58]⟩:ByteArray)).size+t195.size≤9223372036854775807 then (some ((t194 ++ (⟨#[58]⟩:ByteArray)) ++ t195)) else (none))) else (none))=some r:=H
    have A20:=zz31 A200
    clear A200
    by_cases c21:t194.size+1≤9223372036854775807
    ·rw [if_pos c21] at H
     have c21b0:=eq_true c21
     have c21b1:decide (t194.size+1≤9223372036854775807)=true:=decide_eq_true c21
     try have c21b2:(9223372036854775807 < t194.size+1)=False:=eq_false (Nat.not_lt.2 c21)
     replace H:=zz30.mp H
     obtain ⟨t195,A220,H⟩:=H
     replace H:(if (t194 ++ (⟨#[58]⟩:ByteArray)).size+t195.size≤9223372036854775807 then (some ((t194 ++ (⟨#[58]⟩:ByteArray)) ++ t195)) else (none))=some r:=H
     have A22:=zz31 A220
     clear A220
     by_cases c23:(t194 ++ (⟨#[58]⟩:ByteArray)).size+t195.size≤9223372036854775807
     ·rw [if_pos c23] at H
      have c23b0:=eq_true c23
      have c23b1:decide ((t194 ++ (⟨#[58]⟩:ByteArray)).size+t195.size≤9223372036854775807)=true:=decide_eq_true c23
      try have c23b2:(9223372036854775807 < (t194 ++ (⟨#[58]⟩:ByteArray)).size+t195.size)=False:=eq_false (Nat.not_lt.2 c23)
      (try (have c23b3:=c23b2;simp only [ByteArray.size_append,show (⟨#[58]⟩:ByteArray).size=1 from rfl] at c23b3))
      obtain rfl:=Option.some.inj H
      have hcz24_0:wr.cell? ⟨gb183,0,none⟩=some (.int .i64 a0_0):=(zz9 BK183.out 0).trans rfl
      have hcz24_1:wr.cell? ⟨gb183,1,none⟩=some (.slice A0_1 l0_1.length c0_1):=(zz9 BK183.out 1).trans rfl
      have hfz24_0:=zz10 BK183.out 0
      have hfz24_1:=zz10 BK183.out 1
      go_wp2_with (first | ((with_reducible refine gate_callee (f:=33) rfl ?_);refine goesL_ (some 28) rfl rfl Tryd.func33 (by kernel_rfl) rfl #[.int .i64 a0_0] rfl (by (try simp only [zz26,zz27,zz28]);first | done | rfl | (simp only [zz24,zz25];rfl)) ?_;(with_reducible refine (strconv_Itoa_33.calls a0_0 t194 _ A20.out).mono ?_);rintro e w' ⟨rfl,⟨nd,rfl⟩⟩;refine ⟨_,rfl,?_⟩;obtain ⟨Ao25,co25,eo25⟩:=Kd.R_slice HO_3.out;subst eo25) | ((with_reducible refine gate_callee (f:=34) rfl ?_);refine goesL_ (some 31) rfl rfl Tryd.func34 (by kernel_rfl) rfl #[.slice Ao25 x3_1.length co25,.string (⟨#[44]⟩:ByteArray)] rfl (by (try simp only [zz26,zz27,zz28]);first | done | rfl | (simp only [zz24,zz25];rfl)) ?_;(with_reducible refine (strings_Join.calls _ _ x3_1 (⟨#[44]⟩:ByteArray) t195 _ ?side1 ?side2 A22.out).mono ?_);(case side1=>repeat (first | exact (Kd.R_reads' HO_3.out).2.2 | (with_reducible refine zz18 ?_ _) | (with_reducible refine zz19 ?_ _) | (with_reducible refine zz20 ?_)));(case side2=>exact (Kd.R_reads' HO_3.out).2.1);rintro e w26 ⟨rfl,hb⟩;refine ⟨_,rfl,?_⟩;have n0_:=zz31 (Kd.R_below (by (with_reducible repeat (first | apply zz12 | apply zz13 | apply zz14));exact HO_3.out) hb);have n1_:=zz31 (zz11 (g:=gb183) (o:=.cells #[.int .i64 a0_0,.slice A0_1 l0_1.length c0_1] 30 (0,0)) (by (with_reducible repeat (first | refine zz6 ?_ _ | refine zz7 ?_ | refine zz8 ?_ _));exact BK183.out) hb);have n2_:=zz31 (zz4 (by repeat first | exact HB.out | apply zz2 | apply zz0 | apply zz1 | refine zz3 ?_ GE183.out) hb);clear HO_3;clear BK183;clear HB;have HO_3:=n0_;have BK183:=n1_;have HB:=n2_;clear n0_ n1_ n2_;(try clear hb);(try clear hb2);(try clear hk);(try clear hi)))
      go_ret
      exact ⟨by first | rfl | (simp [errW_none,errW_some] <;> rfl) | (simp [*,errW_none,errW_some] <;> rfl),by repeat first | exact HB.out | apply zz2 | apply zz0 | apply zz1 | refine zz3 ?_ GE183.out⟩
     ·rw [if_neg c23] at H
      exact absurd H (by simp)
    ·rw [if_neg c21] at H
     exact absurd H (by simp)

/-! ### impl_PartyText: function 8 -/
def impl_PartyText.f (k:Nat) (a0_0:Int) (l0_1:List (S50)):Option (ByteArray × Bool):=(impl_IsParty.f k a0_0 l0_1).bind fun t197=>(if t197=true then ((impl_partyText.f k a0_0 l0_1).bind fun t198=>(some (t198,true))) else (some ((⟨#[]⟩:ByteArray),false)))
theorem impl_PartyText.mono:∀ a0 a1 k,LeO (impl_PartyText.f k a0 a1) (impl_PartyText.f (k+1) a0 a1):=by
 intro a0 a1 k
 unfold impl_PartyText.f
 repeat' first
   | (with_reducible exact impl_IsParty.mono _ _ _)
   | (with_reducible exact impl_partyText.mono _ _ _)
   | (with_reducible exact LeO.refl _)
   | (with_reducible exact LeO.none _)
   | (with_reducible refine LeO.ite ?_ ?_)
   | (with_reducible refine LeO.bind ?_ (fun _=>?_))
   | exact impl_IsParty.mono _ _ _
   | exact impl_partyText.mono _ _ _
   | exact LeO.none _
   | refine LeO.ite ?_ ?_
   | refine LeO.bind ?_ (fun _=>?_)
set_option maxHeartbeats 8000000 in
set_option maxRecDepth 100000 in
theorem impl_PartyText.calls (k:Nat) (a0_0:Int) (A0_1:Option Addr) (c0_1:Nat) (l0_1:List (S50)) (r1:ByteArray) (r2:Bool) (w:World) (hr0_1:Kd.C k50 w A0_1 l0_1.length l0_1) (hc0_1:l0_1.length≤c0_1) (h:impl_PartyText.f k a0_0 l0_1=some (r1,r2)) :
  Calls Tryd.prog 8 #[.agg #[.int .i64 a0_0,.slice A0_1 l0_1.length c0_1]] w fun e w'=>e=.returned (.tuple #[.string r1,.bool r2])∧Below w.heap.size w w':=by
 have hu30:=Tryd.underlying30
 have HR0_1:=zz31 hr0_1
 have HC0_1:=zz31 hc0_1
 clear hr0_1 hc0_1
 have HB:=zz31 (Below.refl w.heap.size w)
 have H:((impl_IsParty.f k a0_0 l0_1).bind fun t197=>(if t197=true then ((impl_partyText.f k a0_0 l0_1).bind fun t198=>(some (t198,true))) else (some ((⟨#[]⟩:ByteArray),false))))=some (r1,r2):=h
 clear h
 replace H:=zz30.mp H
 obtain ⟨t197,A20,H⟩:=H
 replace H:(if t197=true then ((impl_partyText.f k a0_0 l0_1).bind fun t198=>(some (t198,true))) else (some ((⟨#[]⟩:ByteArray),false)))=some (r1,r2):=H
 have A2:=zz31 A20
 clear A20
 by_cases c3:t197=true
 ·subst c3
  have H1:((impl_partyText.f k a0_0 l0_1).bind fun t198=>(some (t198,true)))=some (r1,r2):=by rw [if_pos rfl] at H;exact H
  clear H
  have H:=H1
  clear H1
  replace H:=zz30.mp H
  obtain ⟨t198,A40,H⟩:=H
  replace H:(some (t198,true))=some (r1,r2):=H
  have A4:=zz31 A40
  clear A40
  simp only [Option.some.injEq,Prod.mk.injEq] at H
  obtain ⟨rfl,rfl⟩:=H
  go_enter Tryd.func8,Tryd.ntmps8
  go_wp2_with (first | ((with_reducible refine gate_dst (N:=1) rfl ?_);refine box_event ?hg (N:=1) ?hd (cs:=#[.int .i64 a0_0,.slice A0_1 l0_1.length c0_1]) (t:=30) ?hr ?_;(case hd=>rfl);(case hg=>rfl);(case hr=>first | (go_simp;done) | (go_simp;rfl));intro gb196 hg w5 hbox hb;have n0_:=zz31 (zz4 (by repeat first | exact HB.out | apply zz2 | apply zz0 | apply zz1) hb);have n1_:=zz31 (hbox);have n2_:=zz31 ((by rw [hg];exact (zz5 (by repeat first | exact HB.out | apply zz2 | apply zz0 | apply zz1)):w.heap.size≤gb196));have n3_:=zz31 ((by rw [hg];exact (zz5 (by repeat first | exact HB.out | apply zz2 | apply zz0 | apply zz1)):w.heap.size≤gb196));clear HB;have HB:=n0_;have BK196:=n1_;have GW196:=n2_;have GE196:=n3_;clear n0_ n1_ n2_ n3_;clear hb hbox hg;have hcz6_0:w5.cell? ⟨gb196,0,none⟩=some (.int .i64 a0_0):=(zz9 BK196.out 0).trans rfl;have hcz6_1:w5.cell? ⟨gb196,1,none⟩=some (.slice A0_1 l0_1.length c0_1):=(zz9 BK196.out 1).trans rfl;have hfz6_0:=zz10 BK196.out 0;have hfz6_1:=zz10 BK196.out 1) | ((with_reducible refine gate_callee (f:=18) rfl ?_);refine goesL_ (some 5) rfl rfl Tryd.func18 (by kernel_rfl) rfl #[.agg #[.int .i64 a0_0,.slice A0_1 l0_1.length c0_1]] rfl (by (try simp only [zz26,zz27,zz28]);first | done | rfl | (simp only [zz24,zz25];rfl)) ?_;(with_reducible refine (impl_IsParty.calls k a0_0 _ _ l0_1 true _ ?side1 ?side2 A2.out).mono ?_);(case side1=>repeat (first | exact (Kd.C_below HR0_1.out HB.out) | (with_reducible refine zz18 ?_ _) | (with_reducible refine zz19 ?_ _) | (with_reducible refine zz20 ?_)));(case side2=>exact HC0_1.out);rintro e w7 ⟨rfl,hb⟩;refine ⟨_,rfl,?_⟩;have n0_:=zz31 (zz11 (g:=gb196) (o:=.cells #[.int .i64 a0_0,.slice A0_1 l0_1.length c0_1] 30 (0,0)) (by (with_reducible repeat (first | refine zz6 ?_ _ | refine zz7 ?_ | refine zz8 ?_ _));exact BK196.out) hb);have n1_:=zz31 (zz4 (by repeat first | exact HB.out | apply zz2 | apply zz0 | apply zz1 | refine zz3 ?_ GE196.out) hb);clear BK196;clear HB;have BK196:=n0_;have HB:=n1_;clear n0_ n1_;(try clear hb);(try clear hb2);(try clear hk);(try clear hi);have hcz8_0:w7.cell? ⟨gb196,0,none⟩=some (.int .i64 a0_0):=(zz9 BK196.out 0).trans rfl;have hcz8_1:w7.cell? ⟨gb196,1,none⟩=some (.slice A0_1 l0_1.length c0_1):=(zz9 BK196.out 1).trans rfl;have hfz8_0:=zz10 BK196.out 0;have hfz8_1:=zz10 BK196.out 1) | ((with_reducible refine gate_callee (f:=19) rfl ?_);refine goesL_ (some 8) rfl rfl Tryd.func19 (by kernel_rfl) rfl #[.agg #[.int .i64 a0_0,.slice A0_1 l0_1.length c0_1]] rfl (by (try simp only [zz26,zz27,zz28]);first | done | rfl | (simp only [zz24,zz25];rfl)) ?_;(with_reducible refine (impl_partyText.calls k a0_0 _ _ l0_1 t198 _ ?side1 ?side2 A4.out).mono ?_);(case side1=>repeat (first | exact (Kd.C_below HR0_1.out HB.out) | (with_reducible refine zz18 ?_ _) | (with_reducible refine zz19 ?_ _) | (with_reducible refine zz20 ?_)));(case side2=>exact HC0_1.out);rintro e w9 ⟨rfl,hb⟩;refine ⟨_,rfl,?_⟩;have n0_:=zz31 (zz11 (g:=gb196) (o:=.cells #[.int .i64 a0_0,.slice A0_1 l0_1.length c0_1] 30 (0,0)) (by (with_reducible repeat (first | refine zz6 ?_ _ | refine zz7 ?_ | refine zz8 ?_ _));exact BK196.out) hb);have n1_:=zz31 (zz4 (by repeat first | exact HB.out | apply zz2 | apply zz0 | apply zz1 | refine zz3 ?_ GE196.out) hb);clear BK196;clear HB;have BK196:=n0_;have HB:=n1_;clear n0_ n1_;(try clear hb);(try clear hb2);(try clear hk);(try clear hi)))
  go_ret2
  exact ⟨by first | rfl | (simp [errW_none,errW_some] <;> rfl) | (simp [*,errW_none,errW_some] <;> rfl),by repeat first | exact HB.out | apply zz2 | apply zz0 | apply zz1 | refine zz3 ?_ GE196.out⟩
 ·replace c3:=Bool.eq_false_iff.mpr c3
  subst c3
  have H1:(some ((⟨#[]⟩:ByteArray),false))=some (r1,r2):=by rw [if_neg (show ¬ (false=true) by decide)] at H;exact H
  clear H
  have H:=H1
  clear H1
  simp only [Option.some.injEq,Prod.mk.injEq] at H
  obtain ⟨rfl,rfl⟩:=H
  go_enter Tryd.func8,Tryd.ntmps8
  go_wp2_with (first | ((with_reducible refine gate_dst (N:=1) rfl ?_);refine box_event ?hg (N:=1) ?hd (cs:=#[.int .i64 a0_0,.slice A0_1 l0_1.length c0_1]) (t:=30) ?hr ?_;(case hd=>rfl);(case hg=>rfl);(case hr=>first | (go_simp;done) | (go_simp;rfl));intro gb196 hg w10 hbox hb;have n0_:=zz31 (zz4 (by repeat first | exact HB.out | apply zz2 | apply zz0 | apply zz1) hb);have n1_:=zz31 (hbox);have n2_:=zz31 ((by rw [hg];exact (zz5 (by repeat first | exact HB.out | apply zz2 | apply zz0 | apply zz1)):w.heap.size≤gb196));have n3_:=zz31 ((by rw [hg];exact (zz5 (by repeat first | exact HB.out | apply zz2 | apply zz0 | apply zz1)):w.heap.size≤gb196));clear HB;have HB:=n0_;have BK196:=n1_;have GW196:=n2_;have GE196:=n3_;clear n0_ n1_ n2_ n3_;clear hb hbox hg;have hcz11_0:w10.cell? ⟨gb196,0,none⟩=some (.int .i64 a0_0):=(zz9 BK196.out 0).trans rfl;have hcz11_1:w10.cell? ⟨gb196,1,none⟩=some (.slice A0_1 l0_1.length c0_1):=(zz9 BK196.out 1).trans rfl;have hfz11_0:=zz10 BK196.out 0;have hfz11_1:=zz10 BK196.out 1) | ((with_reducible refine gate_callee (f:=18) rfl ?_);refine goesL_ (some 5) rfl rfl Tryd.func18 (by kernel_rfl) rfl #[.agg #[.int .i64 a0_0,.slice A0_1 l0_1.length c0_1]] rfl (by (try simp only [zz26,zz27,zz28]);first | done | rfl | (simp only [zz24,zz25];rfl)) ?_;(with_reducible refine (impl_IsParty.calls k a0_0 _ _ l0_1 false _ ?side1 ?side2 A2.out).mono ?_);(case side1=>repeat (first | exact (Kd.C_below HR0_1.out HB.out) | (with_reducible refine zz18 ?_ _) | (with_reducible refine zz19 ?_ _) | (with_reducible refine zz20 ?_)));(case side2=>exact HC0_1.out);rintro e w12 ⟨rfl,hb⟩;refine ⟨_,rfl,?_⟩;have n0_:=zz31 (zz11 (g:=gb196) (o:=.cells #[.int .i64 a0_0,.slice A0_1 l0_1.length c0_1] 30 (0,0)) (by (with_reducible repeat (first | refine zz6 ?_ _ | refine zz7 ?_ | refine zz8 ?_ _));exact BK196.out) hb);have n1_:=zz31 (zz4 (by repeat first | exact HB.out | apply zz2 | apply zz0 | apply zz1 | refine zz3 ?_ GE196.out) hb);clear BK196;clear HB;have BK196:=n0_;have HB:=n1_;clear n0_ n1_;(try clear hb);(try clear hb2);(try clear hk);(try clear hi)))
  go_ret2
  exact ⟨by first | rfl | (simp [errW_none,errW_some] <;> rfl) | (simp [*,errW_none,errW_some] <;> rfl),by repeat first | exact HB.out | apply zz2 | apply zz0 | apply zz1 | refine zz3 ?_ GE196.out⟩

/-! ### laws_eqPair: function 35 -/
def laws_eqPair.f (a0_0:Int) (a0_1:Int) (a1_0:Int) (a1_1:Int):Option (Bool):=if a0_0=a1_0 then (if a0_1=a1_1 then (some true) else (some false)) else (some false)
set_option maxHeartbeats 8000000 in
set_option maxRecDepth 100000 in
theorem laws_eqPair.calls (a0_0:Int) (a0_1:Int) (a1_0:Int) (a1_1:Int) (r:Bool) (w:World) (h:laws_eqPair.f a0_0 a0_1 a1_0 a1_1=some r) :
  Calls Tryd.prog 35 #[.agg #[.int .i64 a0_0,.int .i64 a0_1],.agg #[.int .i64 a1_0,.int .i64 a1_1]] w fun e w'=>e=.returned (.bool r)∧Below w.heap.size w w':=by
 have hu50:=Tryd.underlying50
 have HB:=zz31 (Below.refl w.heap.size w)
 have H:(if a0_0=a1_0 then (if a0_1=a1_1 then (some true) else (some false)) else (some false))=some r:=h
 clear h
 by_cases c3:a0_0=a1_0
 ·rw [if_pos c3] at H
  have c3b0:(a0_0 == a1_0)=true:=beq_iff_eq.mpr c3
  have c3b1:(a0_0 != a1_0)=false:=bne_eq_false_iff_eq.mpr c3
  clear c3
  by_cases c4:a0_1=a1_1
  ·rw [if_pos c4] at H
   have c4b0:(a0_1 == a1_1)=true:=beq_iff_eq.mpr c4
   have c4b1:(a0_1 != a1_1)=false:=bne_eq_false_iff_eq.mpr c4
   clear c4
   obtain rfl:=Option.some.inj H
   go_enter Tryd.func35,Tryd.ntmps35
   go_wp2_with (first | ((with_reducible refine gate_dst (N:=2) rfl ?_);refine box_event ?hg (N:=2) ?hd (cs:=#[.int .i64 a0_0,.int .i64 a0_1]) (t:=50) ?hr ?_;(case hd=>rfl);(case hg=>rfl);(case hr=>first | (go_simp;done) | (go_simp;rfl));intro gb199 hg w5 hbox hb;have n0_:=zz31 (zz4 (by repeat first | exact HB.out | apply zz2 | apply zz0 | apply zz1) hb);have n1_:=zz31 (hbox);have n2_:=zz31 ((by rw [hg];exact (zz5 (by repeat first | exact HB.out | apply zz2 | apply zz0 | apply zz1)):w.heap.size≤gb199));have n3_:=zz31 ((by rw [hg];exact (zz5 (by repeat first | exact HB.out | apply zz2 | apply zz0 | apply zz1)):w.heap.size≤gb199));clear HB;have HB:=n0_;have BK199:=n1_;have GW199:=n2_;have GE199:=n3_;clear n0_ n1_ n2_ n3_;clear hb hbox hg) | ((with_reducible refine gate_dst (N:=3) rfl ?_);refine box_event ?hg (N:=3) ?hd (cs:=#[.int .i64 a1_0,.int .i64 a1_1]) (t:=50) ?hr ?_;(case hd=>rfl);(case hg=>rfl);(case hr=>first | (go_simp;done) | (go_simp;rfl));intro gb200 hg w6 hbox hb;have n0_:=zz31 (zz11 (g:=gb199) (o:=.cells #[.int .i64 a0_0,.int .i64 a0_1] 50 (0,0)) (by (with_reducible repeat (first | refine zz6 ?_ _ | refine zz7 ?_ | refine zz8 ?_ _));exact BK199.out) hb);have n1_:=zz31 (zz4 (by repeat first | exact HB.out | apply zz2 | apply zz0 | apply zz1 | refine zz3 ?_ GE199.out) hb);have n2_:=zz31 (hbox);have n3_:=zz31 ((by rw [hg];exact (zz5 (by repeat first | exact HB.out | apply zz2 | apply zz0 | apply zz1 | refine zz3 ?_ GE199.out)):w.heap.size≤gb200));have n4_:=zz31 ((by rw [hg];exact (zz5 (by repeat first | exact HB.out | apply zz2 | apply zz0 | apply zz1 | refine zz3 ?_ GE199.out)):w.heap.size≤gb200));have n5_:=zz31 ((by rw [hg];exact Nat.ne_of_lt (blk_lt (g:=gb199) (o:=.cells #[.int .i64 a0_0,.int .i64 a0_1] 50 (0,0)) (by (with_reducible repeat (first | refine zz6 ?_ _ | refine zz7 ?_ | refine zz8 ?_ _));exact BK199.out)):gb199 ≠ gb200));have n6_:=zz31 ((by rw [hg];exact Nat.ne_of_gt (blk_lt (g:=gb199) (o:=.cells #[.int .i64 a0_0,.int .i64 a0_1] 50 (0,0)) (by (with_reducible repeat (first | refine zz6 ?_ _ | refine zz7 ?_ | refine zz8 ?_ _));exact BK199.out)):gb200 ≠ gb199));clear BK199;clear HB;have BK199:=n0_;have HB:=n1_;have BK200:=n2_;have GW200:=n3_;have GE200:=n4_;have NB199_200:=n5_;have NB200_199:=n6_;clear n0_ n1_ n2_ n3_ n4_ n5_ n6_;clear hb hbox hg;have hnb7:=NB199_200.out;have hnc7:=NB200_199.out;have hcz8_0:w6.cell? ⟨gb199,0,none⟩=some (.int .i64 a0_0):=(zz9 BK199.out 0).trans rfl;have hcz8_1:w6.cell? ⟨gb199,1,none⟩=some (.int .i64 a0_1):=(zz9 BK199.out 1).trans rfl;have hfz8_0:=zz10 BK199.out 0;have hfz8_1:=zz10 BK199.out 1;have hcz9_0:w6.cell? ⟨gb200,0,none⟩=some (.int .i64 a1_0):=(zz9 BK200.out 0).trans rfl;have hcz9_1:w6.cell? ⟨gb200,1,none⟩=some (.int .i64 a1_1):=(zz9 BK200.out 1).trans rfl;have hfz9_0:=zz10 BK200.out 0;have hfz9_1:=zz10 BK200.out 1))
   go_ret
   exact ⟨by first | rfl | (simp [errW_none,errW_some] <;> rfl) | (simp [*,errW_none,errW_some] <;> rfl),by repeat first | exact HB.out | apply zz2 | apply zz0 | apply zz1 | refine zz3 ?_ GE199.out | refine zz3 ?_ GE200.out⟩
  ·rw [if_neg c4] at H
   have c4b0:(a0_1 == a1_1)=false:=beq_eq_false_iff_ne.mpr c4
   have c4b1:(a0_1 != a1_1)=true:=bne_iff_ne.mpr c4
   obtain rfl:=Option.some.inj H
   go_enter Tryd.func35,Tryd.ntmps35
   go_wp2_with (first | ((with_reducible refine gate_dst (N:=2) rfl ?_);refine box_event ?hg (N:=2) ?hd (cs:=#[.int .i64 a0_0,.int .i64 a0_1]) (t:=50) ?hr ?_;(case hd=>rfl);(case hg=>rfl);(case hr=>first | (go_simp;done) | (go_simp;rfl));intro gb199 hg w10 hbox hb;have n0_:=zz31 (zz4 (by repeat first | exact HB.out | apply zz2 | apply zz0 | apply zz1) hb);have n1_:=zz31 (hbox);have n2_:=zz31 ((by rw [hg];exact (zz5 (by repeat first | exact HB.out | apply zz2 | apply zz0 | apply zz1)):w.heap.size≤gb199));have n3_:=zz31 ((by rw [hg];exact (zz5 (by repeat first | exact HB.out | apply zz2 | apply zz0 | apply zz1)):w.heap.size≤gb199));clear HB;have HB:=n0_;have BK199:=n1_;have GW199:=n2_;have GE199:=n3_;clear n0_ n1_ n2_ n3_;clear hb hbox hg) | ((with_reducible refine gate_dst (N:=3) rfl ?_);refine box_event ?hg (N:=3) ?hd (cs:=#[.int .i64 a1_0,.int .i64 a1_1]) (t:=50) ?hr ?_;(case hd=>rfl);(case hg=>rfl);(case hr=>first | (go_simp;done) | (go_simp;rfl));intro gb200 hg w11 hbox hb;have n0_:=zz31 (zz11 (g:=gb199) (o:=.cells #[.int .i64 a0_0,.int .i64 a0_1] 50 (0,0)) (by (with_reducible repeat (first | refine zz6 ?_ _ | refine zz7 ?_ | refine zz8 ?_ _));exact BK199.out) hb);have n1_:=zz31 (zz4 (by repeat first | exact HB.out | apply zz2 | apply zz0 | apply zz1 | refine zz3 ?_ GE199.out) hb);have n2_:=zz31 (hbox);have n3_:=zz31 ((by rw [hg];exact (zz5 (by repeat first | exact HB.out | apply zz2 | apply zz0 | apply zz1 | refine zz3 ?_ GE199.out)):w.heap.size≤gb200));have n4_:=zz31 ((by rw [hg];exact (zz5 (by repeat first | exact HB.out | apply zz2 | apply zz0 | apply zz1 | refine zz3 ?_ GE199.out)):w.heap.size≤gb200));have n5_:=zz31 ((by rw [hg];exact Nat.ne_of_lt (blk_lt (g:=gb199) (o:=.cells #[.int .i64 a0_0,.int .i64 a0_1] 50 (0,0)) (by (with_reducible repeat (first | refine zz6 ?_ _ | refine zz7 ?_ | refine zz8 ?_ _));exact BK199.out)):gb199 ≠ gb200));have n6_:=zz31 ((by rw [hg];exact Nat.ne_of_gt (blk_lt (g:=gb199) (o:=.cells #[.int .i64 a0_0,.int .i64 a0_1] 50 (0,0)) (by (with_reducible repeat (first | refine zz6 ?_ _ | refine zz7 ?_ | refine zz8 ?_ _));exact BK199.out)):gb200 ≠ gb199));clear BK199;clear HB;have BK199:=n0_;have HB:=n1_;have BK200:=n2_;have GW200:=n3_;have GE200:=n4_;have NB199_200:=n5_;have NB200_199:=n6_;clear n0_ n1_ n2_ n3_ n4_ n5_ n6_;clear hb hbox hg;have hnb12:=NB199_200.out;have hnc12:=NB200_199.out;have hcz13_0:w11.cell? ⟨gb199,0,none⟩=some (.int .i64 a0_0):=(zz9 BK199.out 0).trans rfl;have hcz13_1:w11.cell? ⟨gb199,1,none⟩=some (.int .i64 a0_1):=(zz9 BK199.out 1).trans rfl;have hfz13_0:=zz10 BK199.out 0;have hfz13_1:=zz10 BK199.out 1;have hcz14_0:w11.cell? ⟨gb200,0,none⟩=some (.int .i64 a1_0):=(zz9 BK200.out 0).trans rfl;have hcz14_1:w11.cell? ⟨gb200,1,none⟩=some (.int .i64 a1_1):=(zz9 BK200.out 1).trans rfl;have hfz14_0:=zz10 BK200.out 0;have hfz14_1:=zz10 BK200.out 1))
   go_ret
   exact ⟨by first | rfl | (simp [errW_none,errW_some] <;> rfl) | (simp [*,errW_none,errW_some] <;> rfl),by repeat first | exact HB.out | apply zz2 | apply zz0 | apply zz1 | refine zz3 ?_ GE199.out | refine zz3 ?_ GE200.out⟩
 ·rw [if_neg c3] at H
  have c3b0:(a0_0 == a1_0)=false:=beq_eq_false_iff_ne.mpr c3
  have c3b1:(a0_0 != a1_0)=true:=bne_iff_ne.mpr c3
  obtain rfl:=Option.some.inj H
  go_enter Tryd.func35,Tryd.ntmps35
  go_wp2_with (first | ((with_reducible refine gate_dst (N:=2) rfl ?_);refine box_event ?hg (N:=2) ?hd (cs:=#[.int .i64 a0_0,.int .i64 a0_1]) (t:=50) ?hr ?_;(case hd=>rfl);(case hg=>rfl);(case hr=>first | (go_simp;done) | (go_simp;rfl));intro gb199 hg w15 hbox hb;have n0_:=zz31 (zz4 (by repeat first | exact HB.out | apply zz2 | apply zz0 | apply zz1) hb);have n1_:=zz31 (hbox);have n2_:=zz31 ((by rw [hg];exact (zz5 (by repeat first | exact HB.out | apply zz2 | apply zz0 | apply zz1)):w.heap.size≤gb199));have n3_:=zz31 ((by rw [hg];exact (zz5 (by repeat first | exact HB.out | apply zz2 | apply zz0 | apply zz1)):w.heap.size≤gb199));clear HB;have HB:=n0_;have BK199:=n1_;have GW199:=n2_;have GE199:=n3_;clear n0_ n1_ n2_ n3_;clear hb hbox hg) | ((with_reducible refine gate_dst (N:=3) rfl ?_);refine box_event ?hg (N:=3) ?hd (cs:=#[.int .i64 a1_0,.int .i64 a1_1]) (t:=50) ?hr ?_;(case hd=>rfl);(case hg=>rfl);(case hr=>first | (go_simp;done) | (go_simp;rfl));intro gb200 hg w16 hbox hb;have n0_:=zz31 (zz11 (g:=gb199) (o:=.cells #[.int .i64 a0_0,.int .i64 a0_1] 50 (0,0)) (by (with_reducible repeat (first | refine zz6 ?_ _ | refine zz7 ?_ | refine zz8 ?_ _));exact BK199.out) hb);have n1_:=zz31 (zz4 (by repeat first | exact HB.out | apply zz2 | apply zz0 | apply zz1 | refine zz3 ?_ GE199.out) hb);have n2_:=zz31 (hbox);have n3_:=zz31 ((by rw [hg];exact (zz5 (by repeat first | exact HB.out | apply zz2 | apply zz0 | apply zz1 | refine zz3 ?_ GE199.out)):w.heap.size≤gb200));have n4_:=zz31 ((by rw [hg];exact (zz5 (by repeat first | exact HB.out | apply zz2 | apply zz0 | apply zz1 | refine zz3 ?_ GE199.out)):w.heap.size≤gb200));have n5_:=zz31 ((by rw [hg];exact Nat.ne_of_lt (blk_lt (g:=gb199) (o:=.cells #[.int .i64 a0_0,.int .i64 a0_1] 50 (0,0)) (by (with_reducible repeat (first | refine zz6 ?_ _ | refine zz7 ?_ | refine zz8 ?_ _));exact BK199.out)):gb199 ≠ gb200));have n6_:=zz31 ((by rw [hg];exact Nat.ne_of_gt (blk_lt (g:=gb199) (o:=.cells #[.int .i64 a0_0,.int .i64 a0_1] 50 (0,0)) (by (with_reducible repeat (first | refine zz6 ?_ _ | refine zz7 ?_ | refine zz8 ?_ _));exact BK199.out)):gb200 ≠ gb199));clear BK199;clear HB;have BK199:=n0_;have HB:=n1_;have BK200:=n2_;have GW200:=n3_;have GE200:=n4_;have NB199_200:=n5_;have NB200_199:=n6_;clear n0_ n1_ n2_ n3_ n4_ n5_ n6_;clear hb hbox hg;have hnb17:=NB199_200.out;have hnc17:=NB200_199.out;have hcz18_0:w16.cell? ⟨gb199,0,none⟩=some (.int .i64 a0_0):=(zz9 BK199.out 0).trans rfl;have hcz18_1:w16.cell? ⟨gb199,1,none⟩=some (.int .i64 a0_1):=(zz9 BK199.out 1).trans rfl;have hfz18_0:=zz10 BK199.out 0;have hfz18_1:=zz10 BK199.out 1;have hcz19_0:w16.cell? ⟨gb200,0,none⟩=some (.int .i64 a1_0):=(zz9 BK200.out 0).trans rfl;have hcz19_1:w16.cell? ⟨gb200,1,none⟩=some (.int .i64 a1_1):=(zz9 BK200.out 1).trans rfl;have hfz19_0:=zz10 BK200.out 0;have hfz19_1:=zz10 BK200.out 1))
  go_ret
  exact ⟨by first | rfl | (simp [errW_none,errW_some] <;> rfl) | (simp [*,errW_none,errW_some] <;> rfl),by repeat first | exact HB.out | apply zz2 | apply zz0 | apply zz1 | refine zz3 ?_ GE199.out | refine zz3 ?_ GE200.out⟩

/-! ### laws_eqPairS: function 20 -/
def laws_eqPairS.l0:Nat→List (S50)→List (S50)→Int→Option (Bool)
 | 0,_,_,_=>none
 | k+1,x0,x1,x5=>if x5 < (x0.length:Int) then (if 0≤x5 then (if x5 < (x1.length:Int) then ((laws_eqPair.f ((rd_T50 x0 x5).f0) ((rd_T50 x0 x5).f1) ((rd_T50 x1 x5).f0) ((rd_T50 x1 x5).f1)).bind fun t203=>(if t203=true then (laws_eqPairS.l0 k x0 x1 (wrap64 (x5+1))) else (some false))) else (none)) else (none)) else (some true)
def laws_eqPairS.f (k:Nat) (l0:List (S50)) (l1:List (S50)):Option (Bool):=if (l0.length:Int)=(l1.length:Int) then (laws_eqPairS.l0 k l0 l1 0) else (some false)
theorem laws_eqPairS.mono_l:∀ k,(∀ y0 y1 y2,LeO (laws_eqPairS.l0 k y0 y1 y2) (laws_eqPairS.l0 (k+1) y0 y1 y2))
 | 0=>fun _ _ _ r h=>by simp [laws_eqPairS.l0] at h
 | k+1=>by
  have ih0:=laws_eqPairS.mono_l k
  ·intro y0 y1 y2
   unfold laws_eqPairS.l0
   repeat' first
   | (with_reducible exact ih0 _ _ _)
   | (with_reducible exact LeO.refl _)
   | (with_reducible exact LeO.none _)
   | (with_reducible refine LeO.ite ?_ ?_)
   | (with_reducible refine LeO.bind ?_ (fun _=>?_))
   | exact ih0 _ _ _
   | exact LeO.none _
   | refine LeO.ite ?_ ?_
   | refine LeO.bind ?_ (fun _=>?_)
theorem laws_eqPairS.mono:∀ a0 a1 k,LeO (laws_eqPairS.f k a0 a1) (laws_eqPairS.f (k+1) a0 a1):=by
 intro a0 a1 k
 have ih0:=laws_eqPairS.mono_l k
 unfold laws_eqPairS.f
 repeat' first
   | (with_reducible exact ih0 _ _ _)
   | (with_reducible exact LeO.refl _)
   | (with_reducible exact LeO.none _)
   | (with_reducible refine LeO.ite ?_ ?_)
   | (with_reducible refine LeO.bind ?_ (fun _=>?_))
   | exact ih0 _ _ _
   | exact LeO.none _
   | refine LeO.ite ?_ ?_
   | refine LeO.bind ?_ (fun _=>?_)
def laws_eqPairS.T6:Bool × List (List Nat × List Nat):=(true,[([],[]),([],[]),([0,1],[0,1]),([2],[2]),([],[]),([],[]),([4,5],[4,5]),([6],[6]),([3,7],[3,7]),([8],[8])])
def laws_eqPairS.B6:List Nat:=[0,0,3,7,0,0,48,112,255,511]
theorem laws_eqPairS.tab6:rtab .any (opsOf Tryd.f20 6)=laws_eqPairS.T6:=by kernel_rfl
theorem laws_eqPairS.bits6:waitsOk laws_eqPairS.T6.2 laws_eqPairS.B6=true:=by kernel_rfl
set_option maxHeartbeats 8000000 in
set_option maxRecDepth 100000 in
theorem laws_eqPairS.calls (k:Nat) (A0:Option Addr) (c0:Nat) (l0:List (S50)) (A1:Option Addr) (c1:Nat) (l1:List (S50)) (r:Bool) (w:World) (hr0:Kd.C k50 w A0 l0.length l0) (hc0:l0.length≤c0) (hr1:Kd.C k50 w A1 l1.length l1) (hc1:l1.length≤c1) (h:laws_eqPairS.f k l0 l1=some r) :
  Calls Tryd.prog 20 #[.slice A0 l0.length c0,.slice A1 l1.length c1] w fun e w'=>e=.returned (.bool r)∧Below w.heap.size w w':=by
 have hu50:=Tryd.underlying50
 have HR0:=zz31 hr0
 have HC0:=zz31 hc0
 clear hr0 hc0
 have HR1:=zz31 hr1
 have HC1:=zz31 hc1
 clear hr1 hc1
 have HB:=zz31 (Below.refl w.heap.size w)
 have H:(if (l0.length:Int)=(l1.length:Int) then (laws_eqPairS.l0 k l0 l1 0) else (some false))=some r:=h
 clear h
 by_cases c3:(l0.length:Int)=(l1.length:Int)
 ·rw [if_pos c3] at H
  have c3b0:((l0.length:Int) == (l1.length:Int))=true:=beq_iff_eq.mpr c3
  have c3b1:((l0.length:Int) != (l1.length:Int))=false:=bne_eq_false_iff_eq.mpr c3
  have c3b2:(l0.length == l1.length)=true:=by first | simpa using c3 | (simp at c3 ⊢;omega)
  clear c3
  have H':=zz31 H
  clear H
  go_enter Tryd.func20,Tryd.ntmps20
  go_wp2
  go_loopg [5] k (fun kq v5 w'=>∃ (x5_1:Int),v5=.int .i64 x5_1∧Aside0 (laws_eqPairS.l0 kq l0 l1 x5_1=some r)∧Aside0 (kq≤k)∧Aside0 (Below w.heap.size w w'))
  case atStart=>exact ⟨(0),(by first | rfl | (simp;done) | (simp [*];done)),H',⟨Nat.le_refl _⟩,⟨by repeat first | exact HB.out | apply zz2 | apply zz0 | apply zz1⟩⟩
  case round =>
   clear H'
   try clear c1
   try clear c2
   try clear p2
   try clear c3
   try clear c3b0
   try clear c3b1
   try clear c3b2
   obtain ⟨x5_1,rfl,HA,HK1,HB⟩:=hrel
   cases gk with
   | zero=>exact absurd HA.out (by simp [laws_eqPairS.l0])
   | succ k1 =>
    have H:=HA.out
    clear HA
    simp only [laws_eqPairS.l0] at H
    by_cases c4:x5_1 < (l0.length:Int)
    ·rw [if_pos c4] at H
     have c4b0:decide (x5_1 < (l0.length:Int))=true:=decide_eq_true c4
     clear c4
     by_cases c5:0≤x5_1
     ·rw [if_pos c5] at H
      have c5b0:decide (0≤x5_1)=true:=decide_eq_true c5
      clear c5
      by_cases c6:x5_1 < (l1.length:Int)
      ·rw [if_pos c6] at H
       have c6b0:decide (x5_1 < (l1.length:Int))=true:=decide_eq_true c6
       clear c6
       replace H:=zz30.mp H
       obtain ⟨t203,A70,H⟩:=H
       replace H:(if t203=true then (laws_eqPairS.l0 k1 l0 l1 (wrap64 (x5_1+1))) else (some false))=some r:=H
       have A7:=zz31 A70
       clear A70
       by_cases c8:t203=true
       ·subst c8
        have H1:(laws_eqPairS.l0 k1 l0 l1 (wrap64 (x5_1+1)))=some r:=by rw [if_pos rfl] at H;exact H
        clear H
        have H:=H1
        clear H1
        have H':=zz31 H
        clear H
        try go_wp2
        have n0_:=zz31 (zz1 HB.out)
        clear HB
        have HB:=n0_
        clear n0_
        have p201:0≤(x5_1:Int):=zz29 (by first | (with_reducible assumption) | assumption)
        have q201:x5_1 < (l0.length:Int):=zz29 (by first | (with_reducible assumption) | assumption)
        obtain ⟨ad201,e201,hx201_0,hx201_1⟩:=at_T50 HR0.out x5_1 p201 q201
        have hw201_1:=hx201_1
        have hw201_0:=hx201_0
        cases e201
        try replace hx201_0:=(HB.out.cell (World.block_lt_of_cell? w _ hx201_0)).trans hx201_0
        try replace hx201_1:=(HB.out.cell (World.block_lt_of_cell? w _ hx201_1)).trans hx201_1
        replace p201:=eq_true p201
        replace q201:=eq_true q201
        have p202:0≤(x5_1:Int):=zz29 (by first | (with_reducible assumption) | assumption)
        have q202:x5_1 < (l1.length:Int):=zz29 (by first | (with_reducible assumption) | assumption)
        obtain ⟨ad202,e202,hx202_0,hx202_1⟩:=at_T50 HR1.out x5_1 p202 q202
        have hw202_1:=hx202_1
        have hw202_0:=hx202_0
        cases e202
        try replace hx202_0:=(HB.out.cell (World.block_lt_of_cell? w _ hx202_0)).trans hx202_0
        try replace hx202_1:=(HB.out.cell (World.block_lt_of_cell? w _ hx202_1)).trans hx202_1
        replace p202:=eq_true p202
        replace q202:=eq_true q202
        refine start_ (n:=10) (S:=fun w'=>w'.cell? (ad201.add ((x5_1).toNat * 2))=some (.int .i64 ((rd_T50 l0 x5_1).f0))∧w'.cell? ⟨(ad201.add ((x5_1).toNat * 2)).block,(ad201.add ((x5_1).toNat * 2)).off+1,none⟩=some (.int .i64 ((rd_T50 l0 x5_1).f1))∧w'.cell? (ad202.add ((x5_1).toNat * 2))=some (.int .i64 ((rd_T50 l1 x5_1).f0))∧w'.cell? ⟨(ad202.add ((x5_1).toNat * 2)).block,(ad202.add ((x5_1).toNat * 2)).off+1,none⟩=some (.int .i64 ((rd_T50 l1 x5_1).f1))) (ds:=[]) #[F,F,F,F,F,F,F,F,F,F] (by kernel_rfl) rfl rfl ⟨((HB.out.cell (World.block_lt_of_cell? w _ hw201_0)).trans hw201_0),((HB.out.cell (World.block_lt_of_cell? w _ hw201_1)).trans hw201_1),((HB.out.cell (World.block_lt_of_cell? w _ hw202_0)).trans hw202_0),((HB.out.cell (World.block_lt_of_cell? w _ hw202_1)).trans hw202_1)⟩ (fun hHeld=>?_);refine with_tabW laws_eqPairS.tab6 laws_eqPairS.bits6 (fun HT_ HW_=>?_)
        generalize wr.drew=w9 at HB hx201_0 hx201_1 hx202_0 hx202_1 hHeld ⊢
        refine pure_ (i:=0) (N:=some 17) (v:=?_) (a':=?_) #[T,F,F,F,F,F,F,F,F,F] rfl rfl (any_of HT_.out (by kernel_rfl)) (fun _ _ _ h=>h) (Or.inl ⟨by rfl,?_⟩) ?_ ?_
        rotate_left
        ·intro w'
         go_simp
         with_reducible rfl
        rotate_left
        ·simp only [Act.put,zz21,zz22,zz23,i64_w,i32_w]
         rfl
        refine pure_ (i:=1) (N:=some 18) (v:=?_) (a':=?_) #[T,T,F,F,F,F,F,F,F,F] rfl rfl (any_of HT_.out (by kernel_rfl)) (fun _ _ _ h=>h) (Or.inl ⟨by rfl,?_⟩) ?_ ?_
        rotate_left
        ·intro w'
         go_simp
         with_reducible rfl
        rotate_left
        ·simp only [Act.put,zz21,zz22,zz23,i64_w,i32_w]
         rfl
        refine pure_ (i:=2) (N:=some 19) (v:=?_) (a':=?_) #[T,T,T,F,F,F,F,F,F,F] rfl rfl (any_of HT_.out (by kernel_rfl)) (fun _ _ _ h=>h) (Or.inl ⟨by rfl,?_⟩) ?_ ?_
        rotate_left
        ·intro w'
         go_simp
         with_reducible rfl
        rotate_left
        ·simp only [Act.put,zz21,zz22,zz23,i64_w,i32_w]
         rfl
        refine pure_ (i:=4) (N:=some 21) (v:=?_) (a':=?_) #[T,T,T,F,T,F,F,F,F,F] rfl rfl (any_of HT_.out (by kernel_rfl)) (fun _ _ _ h=>h) (Or.inl ⟨by rfl,?_⟩) ?_ ?_
        rotate_left
        ·intro w'
         go_simp
         with_reducible rfl
        rotate_left
        ·simp only [Act.put,zz21,zz22,zz23,i64_w,i32_w]
         rfl
        refine pure_ (i:=5) (N:=some 22) (v:=?_) (a':=?_) #[T,T,T,F,T,T,F,F,F,F] rfl rfl (any_of HT_.out (by kernel_rfl)) (fun _ _ _ h=>h) (Or.inl ⟨by rfl,?_⟩) ?_ ?_
        rotate_left
        ·intro w'
         go_simp
         with_reducible rfl
        rotate_left
        ·simp only [Act.put,zz21,zz22,zz23,i64_w,i32_w]
         rfl
        refine pure_ (i:=6) (N:=some 23) (v:=?_) (a':=?_) #[T,T,T,F,T,T,T,F,F,F] rfl rfl (any_of HT_.out (by kernel_rfl)) (fun _ _ _ h=>h) (Or.inl ⟨by rfl,?_⟩) ?_ ?_
        rotate_left
        ·intro w'
         go_simp
         with_reducible rfl
        rotate_left
        ·simp only [Act.put,zz21,zz22,zz23,i64_w,i32_w]
         rfl
        refine take_ (i:=3) (N:=some 20) (v:=?_) (a':=?_) #[T,T,T,T,T,T,T,F,F,F] rfl rfl (take_ofW HT_.out HW_.out (by kernel_rfl)) (fun _ _ _ h=>h) (Or.inl ⟨by rfl,?_⟩) hHeld ?_ ?_
        rotate_left
        ·rintro w' ⟨s0,s1,s2,s3⟩
         go_simp
         with_reducible rfl
        rotate_left
        ·simp only [Act.put,zz21,zz22,zz23,i64_w,i32_w]
         rfl
        refine take_ (i:=7) (N:=some 24) (v:=?_) (a':=?_) #[T,T,T,T,T,T,T,T,F,F] rfl rfl (take_ofW HT_.out HW_.out (by kernel_rfl)) (fun _ _ _ h=>h) (Or.inl ⟨by rfl,?_⟩) hHeld ?_ ?_
        rotate_left
        ·rintro w' ⟨s0,s1,s2,s3⟩
         go_simp
         with_reducible rfl
        rotate_left
        ·simp only [Act.put,zz21,zz22,zz23,i64_w,i32_w]
         rfl
        refine one_ (i:=8) (N:=some 25) #[T,T,T,T,T,T,T,T,T,F] rfl rfl (one_of HT_.out (by kernel_rfl)) (by decide) (fun K hK=>?_)
        refine goes_ Tryd.func35 (by kernel_rfl) rfl #[.agg #[.int .i64 ((rd_T50 l0 x5_1).f0),.int .i64 ((rd_T50 l0 x5_1).f1)],.agg #[.int .i64 ((rd_T50 l1 x5_1).f0),.int .i64 ((rd_T50 l1 x5_1).f1)]] (by rfl) rfl rfl (by (try simp only [zz26,zz27,zz28]);first | done | rfl | (simp only [zz24,zz25];rfl)) ?_
        with_reducible refine (laws_eqPair.calls ((rd_T50 l0 x5_1).f0) ((rd_T50 l0 x5_1).f1) ((rd_T50 l1 x5_1).f0) ((rd_T50 l1 x5_1).f1) true _ A7.out).mono ?_
        rintro e w10 ⟨rfl,hb⟩
        refine ⟨_,rfl,?_⟩
        have n0_:=zz31 (zz4 (by repeat first | exact HB.out | apply zz2 | apply zz0 | apply zz1) hb)
        clear HB
        have HB:=n0_
        clear n0_
        (try clear hb)
        (try clear hb2)
        (try clear hk)
        (try clear hi)
        refine hK.out _ _ ⟨((HB.out.cell (World.block_lt_of_cell? w _ hw201_0)).trans hw201_0),((HB.out.cell (World.block_lt_of_cell? w _ hw201_1)).trans hw201_1),((HB.out.cell (World.block_lt_of_cell? w _ hw202_0)).trans hw202_0),((HB.out.cell (World.block_lt_of_cell? w _ hw202_1)).trans hw202_1)⟩ (fun hHeld=>?_)
        clear hK K
        refine norm_ (a':=?_) ?_ ?_
        rotate_left
        ·show Act.put _ (some 25) _=_
         simp only [Act.put,zz21,zz22,zz23,i64_w,i32_w]
         rfl
        refine pure_ (i:=9) (N:=some 26) (v:=?_) (a':=?_) #[T,T,T,T,T,T,T,T,T,T] rfl rfl (any_of HT_.out (by kernel_rfl)) (fun _ _ _ h=>h) (Or.inl ⟨by rfl,?_⟩) ?_ ?_
        rotate_left
        ·intro w'
         go_simp
         with_reducible rfl
        rotate_left
        ·simp only [Act.put,zz21,zz22,zz23,i64_w,i32_w]
         rfl
        refine done_ (done_of HT_.out (by kernel_rfl)) ?_
        try go_wp2
        go_roundg k1
        case measure=>have:=HK1.out;omega
        case rel=>exact ⟨(wrap64 (x5_1+1)),(by first | rfl | (simp;done) | (simp [*];done)),H',⟨by have:=HK1.out;omega⟩,⟨by repeat first | exact HB.out | apply zz2 | apply zz0 | apply zz1⟩⟩
       ·replace c8:=Bool.eq_false_iff.mpr c8
        subst c8
        have H1:(some false)=some r:=by rw [if_neg (show ¬ (false=true) by decide)] at H;exact H
        clear H
        have H:=H1
        clear H1
        obtain rfl:=Option.some.inj H
        try go_wp2
        have n0_:=zz31 (zz1 HB.out)
        clear HB
        have HB:=n0_
        clear n0_
        have p201:0≤(x5_1:Int):=zz29 (by first | (with_reducible assumption) | assumption)
        have q201:x5_1 < (l0.length:Int):=zz29 (by first | (with_reducible assumption) | assumption)
        obtain ⟨ad201,e201,hx201_0,hx201_1⟩:=at_T50 HR0.out x5_1 p201 q201
        have hw201_1:=hx201_1
        have hw201_0:=hx201_0
        cases e201
        try replace hx201_0:=(HB.out.cell (World.block_lt_of_cell? w _ hx201_0)).trans hx201_0
        try replace hx201_1:=(HB.out.cell (World.block_lt_of_cell? w _ hx201_1)).trans hx201_1
        replace p201:=eq_true p201
        replace q201:=eq_true q201
        have p202:0≤(x5_1:Int):=zz29 (by first | (with_reducible assumption) | assumption)
        have q202:x5_1 < (l1.length:Int):=zz29 (by first | (with_reducible assumption) | assumption)
        obtain ⟨ad202,e202,hx202_0,hx202_1⟩:=at_T50 HR1.out x5_1 p202 q202
        have hw202_1:=hx202_1
        have hw202_0:=hx202_0
        cases e202
        try replace hx202_0:=(HB.out.cell (World.block_lt_of_cell? w _ hx202_0)).trans hx202_0
        try replace hx202_1:=(HB.out.cell (World.block_lt_of_cell? w _ hx202_1)).trans hx202_1
        replace p202:=eq_true p202
        replace q202:=eq_true q202
        refine start_ (n:=10) (S:=fun w'=>w'.cell? (ad201.add ((x5_1).toNat * 2))=some (.int .i64 ((rd_T50 l0 x5_1).f0))∧w'.cell? ⟨(ad201.add ((x5_1).toNat * 2)).block,(ad201.add ((x5_1).toNat * 2)).off+1,none⟩=some (.int .i64 ((rd_T50 l0 x5_1).f1))∧w'.cell? (ad202.add ((x5_1).toNat * 2))=some (.int .i64 ((rd_T50 l1 x5_1).f0))∧w'.cell? ⟨(ad202.add ((x5_1).toNat * 2)).block,(ad202.add ((x5_1).toNat * 2)).off+1,none⟩=some (.int .i64 ((rd_T50 l1 x5_1).f1))) (ds:=[]) #[F,F,F,F,F,F,F,F,F,F] (by kernel_rfl) rfl rfl ⟨((HB.out.cell (World.block_lt_of_cell? w _ hw201_0)).trans hw201_0),((HB.out.cell (World.block_lt_of_cell? w _ hw201_1)).trans hw201_1),((HB.out.cell (World.block_lt_of_cell? w _ hw202_0)).trans hw202_0),((HB.out.cell (World.block_lt_of_cell? w _ hw202_1)).trans hw202_1)⟩ (fun hHeld=>?_);refine with_tabW laws_eqPairS.tab6 laws_eqPairS.bits6 (fun HT_ HW_=>?_)
        generalize wr.drew=w11 at HB hx201_0 hx201_1 hx202_0 hx202_1 hHeld ⊢
        refine pure_ (i:=0) (N:=some 17) (v:=?_) (a':=?_) #[T,F,F,F,F,F,F,F,F,F] rfl rfl (any_of HT_.out (by kernel_rfl)) (fun _ _ _ h=>h) (Or.inl ⟨by rfl,?_⟩) ?_ ?_
        rotate_left
        ·intro w'
         go_simp
         with_reducible rfl
        rotate_left
        ·simp only [Act.put,zz21,zz22,zz23,i64_w,i32_w]
         rfl
        refine pure_ (i:=1) (N:=some 18) (v:=?_) (a':=?_) #[T,T,F,F,F,F,F,F,F,F] rfl rfl (any_of HT_.out (by kernel_rfl)) (fun _ _ _ h=>h) (Or.inl ⟨by rfl,?_⟩) ?_ ?_
        rotate_left
        ·intro w'
         go_simp
         with_reducible rfl
        rotate_left
        ·simp only [Act.put,zz21,zz22,zz23,i64_w,i32_w]
         rfl
        refine pure_ (i:=2) (N:=some 19) (v:=?_) (a':=?_) #[T,T,T,F,F,F,F,F,F,F] rfl rfl (any_of HT_.out (by kernel_rfl)) (fun _ _ _ h=>h) (Or.inl ⟨by rfl,?_⟩) ?_ ?_
        rotate_left
        ·intro w'
         go_simp
         with_reducible rfl
        rotate_left
        ·simp only [Act.put,zz21,zz22,zz23,i64_w,i32_w]
         rfl
        refine pure_ (i:=4) (N:=some 21) (v:=?_) (a':=?_) #[T,T,T,F,T,F,F,F,F,F] rfl rfl (any_of HT_.out (by kernel_rfl)) (fun _ _ _ h=>h) (Or.inl ⟨by rfl,?_⟩) ?_ ?_
        rotate_left
        ·intro w'
         go_simp
         with_reducible rfl
        rotate_left
        ·simp only [Act.put,zz21,zz22,zz23,i64_w,i32_w]
         rfl
        refine pure_ (i:=5) (N:=some 22) (v:=?_) (a':=?_) #[T,T,T,F,T,T,F,F,F,F] rfl rfl (any_of HT_.out (by kernel_rfl)) (fun _ _ _ h=>h) (Or.inl ⟨by rfl,?_⟩) ?_ ?_
        rotate_left
        ·intro w'
         go_simp
         with_reducible rfl
        rotate_left
        ·simp only [Act.put,zz21,zz22,zz23,i64_w,i32_w]
         rfl
        refine pure_ (i:=6) (N:=some 23) (v:=?_) (a':=?_) #[T,T,T,F,T,T,T,F,F,F] rfl rfl (any_of HT_.out (by kernel_rfl)) (fun _ _ _ h=>h) (Or.inl ⟨by rfl,?_⟩) ?_ ?_
        rotate_left
        ·intro w'
         go_simp
         with_reducible rfl
        rotate_left
        ·simp only [Act.put,zz21,zz22,zz23,i64_w,i32_w]
         rfl
        refine take_ (i:=3) (N:=some 20) (v:=?_) (a':=?_) #[T,T,T,T,T,T,T,F,F,F] rfl rfl (take_ofW HT_.out HW_.out (by kernel_rfl)) (fun _ _ _ h=>h) (Or.inl ⟨by rfl,?_⟩) hHeld ?_ ?_
        rotate_left
        ·rintro w' ⟨s0,s1,s2,s3⟩
         go_simp
         with_reducible rfl
        rotate_left
        ·simp only [Act.put,zz21,zz22,zz23,i64_w,i32_w]
         rfl
        refine take_ (i:=7) (N:=some 24) (v:=?_) (a':=?_) #[T,T,T,T,T,T,T,T,F,F] rfl rfl (take_ofW HT_.out HW_.out (by kernel_rfl)) (fun _ _ _ h=>h) (Or.inl ⟨by rfl,?_⟩) hHeld ?_ ?_
        rotate_left
        ·rintro w' ⟨s0,s1,s2,s3⟩
         go_simp
         with_reducible rfl
        rotate_left
        ·simp only [Act.put,zz21,zz22,zz23,i64_w,i32_w]
         rfl
        refine one_ (i:=8) (N:=some 25) #[T,T,T,T,T,T,T,T,T,F] rfl rfl (one_of HT_.out (by kernel_rfl)) (by decide) (fun K hK=>?_)
        refine goes_ Tryd.func35 (by kernel_rfl) rfl #[.agg #[.int .i64 ((rd_T50 l0 x5_1).f0),.int .i64 ((rd_T50 l0 x5_1).f1)],.agg #[.int .i64 ((rd_T50 l1 x5_1).f0),.int .i64 ((rd_T50 l1 x5_1).f1)]] (by rfl) rfl rfl (by (try simp only [zz26,zz27,zz28]);first | done | rfl | (simp only [zz24,zz25];rfl)) ?_
        with_reducible refine (laws_eqPair.calls ((rd_T50 l0 x5_1).f0) ((rd_T50 l0 x5_1).f1) ((rd_T50 l1 x5_1).f0) ((rd_T50 l1 x5_1).f1) false _ A7.out).mono ?_
        rintro e w12 ⟨rfl,hb⟩
        refine ⟨_,rfl,?_⟩
        have n0_:=zz31 (zz4 (by repeat first | exact HB.out | apply zz2 | apply zz0 | apply zz1) hb)
        clear HB
        have HB:=n0_
        clear n0_
        (try clear hb)
        (try clear hb2)
        (try clear hk)
        (try clear hi)
        refine hK.out _ _ ⟨((HB.out.cell (World.block_lt_of_cell? w _ hw201_0)).trans hw201_0),((HB.out.cell (World.block_lt_of_cell? w _ hw201_1)).trans hw201_1),((HB.out.cell (World.block_lt_of_cell? w _ hw202_0)).trans hw202_0),((HB.out.cell (World.block_lt_of_cell? w _ hw202_1)).trans hw202_1)⟩ (fun hHeld=>?_)
        clear hK K
        refine norm_ (a':=?_) ?_ ?_
        rotate_left
        ·show Act.put _ (some 25) _=_
         simp only [Act.put,zz21,zz22,zz23,i64_w,i32_w]
         rfl
        refine pure_ (i:=9) (N:=some 26) (v:=?_) (a':=?_) #[T,T,T,T,T,T,T,T,T,T] rfl rfl (any_of HT_.out (by kernel_rfl)) (fun _ _ _ h=>h) (Or.inl ⟨by rfl,?_⟩) ?_ ?_
        rotate_left
        ·intro w'
         go_simp
         with_reducible rfl
        rotate_left
        ·simp only [Act.put,zz21,zz22,zz23,i64_w,i32_w]
         rfl
        refine done_ (done_of HT_.out (by kernel_rfl)) ?_
        try go_wp2
        go_ret
        exact ⟨by first | rfl | (simp [errW_none,errW_some] <;> rfl) | (simp [*,errW_none,errW_some] <;> rfl),by repeat first | exact HB.out | apply zz2 | apply zz0 | apply zz1⟩
      ·rw [if_neg c6] at H
       exact absurd H (by simp)
     ·rw [if_neg c5] at H
      exact absurd H (by simp)
    ·rw [if_neg c4] at H
     have c4b0:decide (x5_1 < (l0.length:Int))=false:=decide_eq_false c4
     clear c4
     obtain rfl:=Option.some.inj H
     go_wp2
     go_ret
     exact ⟨by first | rfl | (simp [errW_none,errW_some] <;> rfl) | (simp [*,errW_none,errW_some] <;> rfl),by repeat first | exact HB.out | apply zz2 | apply zz0 | apply zz1⟩
 ·rw [if_neg c3] at H
  have c3b0:((l0.length:Int) == (l1.length:Int))=false:=beq_eq_false_iff_ne.mpr c3
  have c3b1:((l0.length:Int) != (l1.length:Int))=true:=bne_iff_ne.mpr c3
  have c3b2:(l0.length == l1.length)=false:=by first | simpa using c3 | (simp at c3 ⊢;omega)
  obtain rfl:=Option.some.inj H
  go_enter Tryd.func20,Tryd.ntmps20
  go_wp2
  go_ret
  exact ⟨by first | rfl | (simp [errW_none,errW_some] <;> rfl) | (simp [*,errW_none,errW_some] <;> rfl),by repeat first | exact HB.out | apply zz2 | apply zz0 | apply zz1⟩

/-! ### laws_eqParty: function 9 -/
def laws_eqParty.f (k:Nat) (a0_0:Int) (l0_1:List (S50)) (a1_0:Int) (l1_1:List (S50)):Option (Bool):=if a0_0=a1_0 then ((laws_eqPairS.f k l0_1 l1_1).bind fun t206=>(if t206=true then (some true) else (some false))) else (some false)
theorem laws_eqParty.mono:∀ a0 a1 a2 a3 k,LeO (laws_eqParty.f k a0 a1 a2 a3) (laws_eqParty.f (k+1) a0 a1 a2 a3):=by
 intro a0 a1 a2 a3 k
 unfold laws_eqParty.f
 repeat' first
   | (with_reducible exact laws_eqPairS.mono _ _ _)
   | (with_reducible exact LeO.refl _)
   | (with_reducible exact LeO.none _)
   | (with_reducible refine LeO.ite ?_ ?_)
   | (with_reducible refine LeO.bind ?_ (fun _=>?_))
   | exact laws_eqPairS.mono _ _ _
   | exact LeO.none _
   | refine LeO.ite ?_ ?_
   | refine LeO.bind ?_ (fun _=>?_)
set_option maxHeartbeats 8000000 in
set_option maxRecDepth 100000 in
theorem laws_eqParty.calls (k:Nat) (a0_0:Int) (A0_1:Option Addr) (c0_1:Nat) (l0_1:List (S50)) (a1_0:Int) (A1_1:Option Addr) (c1_1:Nat) (l1_1:List (S50)) (r:Bool) (w:World) (hr0_1:Kd.C k50 w A0_1 l0_1.length l0_1) (hc0_1:l0_1.length≤c0_1) (hr1_1:Kd.C k50 w A1_1 l1_1.length l1_1) (hc1_1:l1_1.length≤c1_1) (h:laws_eqParty.f k a0_0 l0_1 a1_0 l1_1=some r) :
  Calls Tryd.prog 9 #[.agg #[.int .i64 a0_0,.slice A0_1 l0_1.length c0_1],.agg #[.int .i64 a1_0,.slice A1_1 l1_1.length c1_1]] w fun e w'=>e=.returned (.bool r)∧Below w.heap.size w w':=by
 have hu30:=Tryd.underlying30
 have HR0_1:=zz31 hr0_1
 have HC0_1:=zz31 hc0_1
 clear hr0_1 hc0_1
 have HR1_1:=zz31 hr1_1
 have HC1_1:=zz31 hc1_1
 clear hr1_1 hc1_1
 have HB:=zz31 (Below.refl w.heap.size w)
 have H:(if a0_0=a1_0 then ((laws_eqPairS.f k l0_1 l1_1).bind fun t206=>(if t206=true then (some true) else (some false))) else (some false))=some r:=h
 clear h
 by_cases c3:a0_0=a1_0
 ·rw [if_pos c3] at H
  have c3b0:(a0_0 == a1_0)=true:=beq_iff_eq.mpr c3
  have c3b1:(a0_0 != a1_0)=false:=bne_eq_false_iff_eq.mpr c3
  clear c3
  replace H:=zz30.mp H
  obtain ⟨t206,A40,H⟩:=H
  replace H:(if t206=true then (some true) else (some false))=some r:=H
  have A4:=zz31 A40
  clear A40
  by_cases c5:t206=true
  ·subst c5
   have H1:(some true)=some r:=by rw [if_pos rfl] at H;exact H
   clear H
   have H:=H1
   clear H1
   obtain rfl:=Option.some.inj H
   go_enter Tryd.func9,Tryd.ntmps9
   go_wp2_with (first | ((with_reducible refine gate_dst (N:=2) rfl ?_);refine box_event ?hg (N:=2) ?hd (cs:=#[.int .i64 a0_0,.slice A0_1 l0_1.length c0_1]) (t:=30) ?hr ?_;(case hd=>rfl);(case hg=>rfl);(case hr=>first | (go_simp;done) | (go_simp;rfl));intro gb204 hg w6 hbox hb;have n0_:=zz31 (zz4 (by repeat first | exact HB.out | apply zz2 | apply zz0 | apply zz1) hb);have n1_:=zz31 (hbox);have n2_:=zz31 ((by rw [hg];exact (zz5 (by repeat first | exact HB.out | apply zz2 | apply zz0 | apply zz1)):w.heap.size≤gb204));have n3_:=zz31 ((by rw [hg];exact (zz5 (by repeat first | exact HB.out | apply zz2 | apply zz0 | apply zz1)):w.heap.size≤gb204));clear HB;have HB:=n0_;have BK204:=n1_;have GW204:=n2_;have GE204:=n3_;clear n0_ n1_ n2_ n3_;clear hb hbox hg) | ((with_reducible refine gate_dst (N:=3) rfl ?_);refine box_event ?hg (N:=3) ?hd (cs:=#[.int .i64 a1_0,.slice A1_1 l1_1.length c1_1]) (t:=30) ?hr ?_;(case hd=>rfl);(case hg=>rfl);(case hr=>first | (go_simp;done) | (go_simp;rfl));intro gb205 hg w7 hbox hb;have n0_:=zz31 (zz11 (g:=gb204) (o:=.cells #[.int .i64 a0_0,.slice A0_1 l0_1.length c0_1] 30 (0,0)) (by (with_reducible repeat (first | refine zz6 ?_ _ | refine zz7 ?_ | refine zz8 ?_ _));exact BK204.out) hb);have n1_:=zz31 (zz4 (by repeat first | exact HB.out | apply zz2 | apply zz0 | apply zz1 | refine zz3 ?_ GE204.out) hb);have n2_:=zz31 (hbox);have n3_:=zz31 ((by rw [hg];exact (zz5 (by repeat first | exact HB.out | apply zz2 | apply zz0 | apply zz1 | refine zz3 ?_ GE204.out)):w.heap.size≤gb205));have n4_:=zz31 ((by rw [hg];exact (zz5 (by repeat first | exact HB.out | apply zz2 | apply zz0 | apply zz1 | refine zz3 ?_ GE204.out)):w.heap.size≤gb205));have n5_:=zz31 ((by rw [hg];exact Nat.ne_of_lt (blk_lt (g:=gb204) (o:=.cells #[.int .i64 a0_0,.slice A0_1 l0_1.length c0_1] 30 (0,0)) (by (with_reducible repeat (first | refine zz6 ?_ _ | refine zz7 ?_ | refine zz8 ?_ _));exact BK204.out)):gb204 ≠ gb205));have n6_:=zz31 ((by rw [hg];exact Nat.ne_of_gt (blk_lt (g:=gb204) (o:=.cells #[.int .i64 a0_0,.slice A0_1 l0_1.length c0_1] 30 (0,0)) (by (with_reducible repeat (first | refine zz6 ?_ _ | refine zz7 ?_ | refine zz8 ?_ _));exact BK204.out)):gb205 ≠ gb204));clear BK204;clear HB;have BK204:=n0_;have HB:=n1_;have BK205:=n2_;have GW205:=n3_;have GE205:=n4_;have NB204_205:=n5_;have NB205_204:=n6_;clear n0_ n1_ n2_ n3_ n4_ n5_ n6_;clear hb hbox hg;have hnb8:=NB204_205.out;have hnc8:=NB205_204.out;have hcz9_0:w7.cell? ⟨gb204,0,none⟩=some (.int .i64 a0_0):=(zz9 BK204.out 0).trans rfl;have hcz9_1:w7.cell? ⟨gb204,1,none⟩=some (.slice A0_1 l0_1.length c0_1):=(zz9 BK204.out 1).trans rfl;have hfz9_0:=zz10 BK204.out 0;have hfz9_1:=zz10 BK204.out 1;have hcz10_0:w7.cell? ⟨gb205,0,none⟩=some (.int .i64 a1_0):=(zz9 BK205.out 0).trans rfl;have hcz10_1:w7.cell? ⟨gb205,1,none⟩=some (.slice A1_1 l1_1.length c1_1):=(zz9 BK205.out 1).trans rfl;have hfz10_0:=zz10 BK205.out 0;have hfz10_1:=zz10 BK205.out 1) | ((with_reducible refine gate_callee (f:=20) rfl ?_);refine goesL_ (some 14) rfl rfl Tryd.func20 (by kernel_rfl) rfl #[.slice A0_1 l0_1.length c0_1,.slice A1_1 l1_1.length c1_1] rfl (by (try simp only [zz26,zz27,zz28]);first | done | rfl | (simp only [zz24,zz25];rfl)) ?_;(with_reducible refine (laws_eqPairS.calls k _ _ l0_1 _ _ l1_1 true _ ?side1 ?side2 ?side3 ?side4 A4.out).mono ?_);(case side1=>repeat (first | exact (Kd.C_below HR0_1.out HB.out) | (with_reducible refine zz18 ?_ _) | (with_reducible refine zz19 ?_ _) | (with_reducible refine zz20 ?_)));(case side2=>exact HC0_1.out);(case side3=>repeat (first | exact (Kd.C_below HR1_1.out HB.out) | (with_reducible refine zz18 ?_ _) | (with_reducible refine zz19 ?_ _) | (with_reducible refine zz20 ?_)));(case side4=>exact HC1_1.out);rintro e w11 ⟨rfl,hb⟩;refine ⟨_,rfl,?_⟩;have n0_:=zz31 (zz11 (g:=gb204) (o:=.cells #[.int .i64 a0_0,.slice A0_1 l0_1.length c0_1] 30 (0,0)) (by (with_reducible repeat (first | refine zz6 ?_ _ | refine zz7 ?_ | refine zz8 ?_ _));exact BK204.out) hb);have n1_:=zz31 (zz11 (g:=gb205) (o:=.cells #[.int .i64 a1_0,.slice A1_1 l1_1.length c1_1] 30 (0,0)) (by (with_reducible repeat (first | refine zz6 ?_ _ | refine zz7 ?_ | refine zz8 ?_ _));exact BK205.out) hb);have n2_:=zz31 (zz4 (by repeat first | exact HB.out | apply zz2 | apply zz0 | apply zz1 | refine zz3 ?_ GE204.out | refine zz3 ?_ GE205.out) hb);clear BK204;clear BK205;clear HB;have BK204:=n0_;have BK205:=n1_;have HB:=n2_;clear n0_ n1_ n2_;(try clear hb);(try clear hb2);(try clear hk);(try clear hi)))
   go_ret
   exact ⟨by first | rfl | (simp [errW_none,errW_some] <;> rfl) | (simp [*,errW_none,errW_some] <;> rfl),by repeat first | exact HB.out | apply zz2 | apply zz0 | apply zz1 | refine zz3 ?_ GE204.out | refine zz3 ?_ GE205.out⟩
  ·replace c5:=Bool.eq_false_iff.mpr c5
   subst c5
   have H1:(some false)=some r:=by rw [if_neg (show ¬ (false=true) by decide)] at H;exact H
   clear H
   have H:=H1
   clear H1
   obtain rfl:=Option.some.inj H
   go_enter Tryd.func9,Tryd.ntmps9
   go_wp2_with (first | ((with_reducible refine gate_dst (N:=2) rfl ?_);refine box_event ?hg (N:=2) ?hd (cs:=#[.int .i64 a0_0,.slice A0_1 l0_1.length c0_1]) (t:=30) ?hr ?_;(case hd=>rfl);(case hg=>rfl);(case hr=>first | (go_simp;done) | (go_simp;rfl));intro gb204 hg w12 hbox hb;have n0_:=zz31 (zz4 (by repeat first | exact HB.out | apply zz2 | apply zz0 | apply zz1) hb);have n1_:=zz31 (hbox);have n2_:=zz31 ((by rw [hg];exact (zz5 (by repeat first | exact HB.out | apply zz2 | apply zz0 | apply zz1)):w.heap.size≤gb204));have n3_:=zz31 ((by rw [hg];exact (zz5 (by repeat first | exact HB.out | apply zz2 | apply zz0 | apply zz1)):w.heap.size≤gb204));clear HB;have HB:=n0_;have BK204:=n1_;have GW204:=n2_;have GE204:=n3_;clear n0_ n1_ n2_ n3_;clear hb hbox hg) | ((with_reducible refine gate_dst (N:=3) rfl ?_);refine box_event ?hg (N:=3) ?hd (cs:=#[.int .i64 a1_0,.slice A1_1 l1_1.length c1_1]) (t:=30) ?hr ?_;(case hd=>rfl);(case hg=>rfl);(case hr=>first | (go_simp;done) | (go_simp;rfl));intro gb205 hg w13 hbox hb;have n0_:=zz31 (zz11 (g:=gb204) (o:=.cells #[.int .i64 a0_0,.slice A0_1 l0_1.length c0_1] 30 (0,0)) (by (with_reducible repeat (first | refine zz6 ?_ _ | refine zz7 ?_ | refine zz8 ?_ _));exact BK204.out) hb);have n1_:=zz31 (zz4 (by repeat first | exact HB.out | apply zz2 | apply zz0 | apply zz1 | refine zz3 ?_ GE204.out) hb);have n2_:=zz31 (hbox);have n3_:=zz31 ((by rw [hg];exact (zz5 (by repeat first | exact HB.out | apply zz2 | apply zz0 | apply zz1 | refine zz3 ?_ GE204.out)):w.heap.size≤gb205));have n4_:=zz31 ((by rw [hg];exact (zz5 (by repeat first | exact HB.out | apply zz2 | apply zz0 | apply zz1 | refine zz3 ?_ GE204.out)):w.heap.size≤gb205));have n5_:=zz31 ((by rw [hg];exact Nat.ne_of_lt (blk_lt (g:=gb204) (o:=.cells #[.int .i64 a0_0,.slice A0_1 l0_1.length c0_1] 30 (0,0)) (by (with_reducible repeat (first | refine zz6 ?_ _ | refine zz7 ?_ | refine zz8 ?_ _));exact BK204.out)):gb204 ≠ gb205));have n6_:=zz31 ((by rw [hg];exact Nat.ne_of_gt (blk_lt (g:=gb204) (o:=.cells #[.int .i64 a0_0,.slice A0_1 l0_1.length c0_1] 30 (0,0)) (by (with_reducible repeat (first | refine zz6 ?_ _ | refine zz7 ?_ | refine zz8 ?_ _));exact BK204.out)):gb205 ≠ gb204));clear BK204;clear HB;have BK204:=n0_;have HB:=n1_;have BK205:=n2_;have GW205:=n3_;have GE205:=n4_;have NB204_205:=n5_;have NB205_204:=n6_;clear n0_ n1_ n2_ n3_ n4_ n5_ n6_;clear hb hbox hg;have hnb14:=NB204_205.out;have hnc14:=NB205_204.out;have hcz15_0:w13.cell? ⟨gb204,0,none⟩=some (.int .i64 a0_0):=(zz9 BK204.out 0).trans rfl;have hcz15_1:w13.cell? ⟨gb204,1,none⟩=some (.slice A0_1 l0_1.length c0_1):=(zz9 BK204.out 1).trans rfl;have hfz15_0:=zz10 BK204.out 0;have hfz15_1:=zz10 BK204.out 1;have hcz16_0:w13.cell? ⟨gb205,0,none⟩=some (.int .i64 a1_0):=(zz9 BK205.out 0).trans rfl;have hcz16_1:w13.cell? ⟨gb205,1,none⟩=some (.slice A1_1 l1_1.length c1_1):=(zz9 BK205.out 1).trans rfl;have hfz16_0:=zz10 BK205.out 0;have hfz16_1:=zz10 BK205.out 1) | ((with_reducible refine gate_callee (f:=20) rfl ?_);refine goesL_ (some 14) rfl rfl Tryd.func20 (by kernel_rfl) rfl #[.slice A0_1 l0_1.length c0_1,.slice A1_1 l1_1.length c1_1] rfl (by (try simp only [zz26,zz27,zz28]);first | done | rfl | (simp only [zz24,zz25];rfl)) ?_;(with_reducible refine (laws_eqPairS.calls k _ _ l0_1 _ _ l1_1 false _ ?side1 ?side2 ?side3 ?side4 A4.out).mono ?_);(case side1=>repeat (first | exact (Kd.C_below HR0_1.out HB.out) | (with_reducible refine zz18 ?_ _) | (with_reducible refine zz19 ?_ _) | (with_reducible refine zz20 ?_)));(case side2=>exact HC0_1.out);(case side3=>repeat (first | exact (Kd.C_below HR1_1.out HB.out) | (with_reducible refine zz18 ?_ _) | (with_reducible refine zz19 ?_ _) | (with_reducible refine zz20 ?_)));(case side4=>exact HC1_1.out);rintro e w17 ⟨rfl,hb⟩;refine ⟨_,rfl,?_⟩;have n0_:=zz31 (zz11 (g:=gb204) (o:=.cells #[.int .i64 a0_0,.slice A0_1 l0_1.length c0_1] 30 (0,0)) (by (with_reducible repeat (first | refine zz6 ?_ _ | refine zz7 ?_ | refine zz8 ?_ _));exact BK204.out) hb);have n1_:=zz31 (zz11 (g:=gb205) (o:=.cells #[.int .i64 a1_0,.slice A1_1 l1_1.length c1_1] 30 (0,0)) (by (with_reducible repeat (first | refine zz6 ?_ _ | refine zz7 ?_ | refine zz8 ?_ _));exact BK205.out) hb);have n2_:=zz31 (zz4 (by repeat first | exact HB.out | apply zz2 | apply zz0 | apply zz1 | refine zz3 ?_ GE204.out | refine zz3 ?_ GE205.out) hb);clear BK204;clear BK205;clear HB;have BK204:=n0_;have BK205:=n1_;have HB:=n2_;clear n0_ n1_ n2_;(try clear hb);(try clear hb2);(try clear hk);(try clear hi)))
   go_ret
   exact ⟨by first | rfl | (simp [errW_none,errW_some] <;> rfl) | (simp [*,errW_none,errW_some] <;> rfl),by repeat first | exact HB.out | apply zz2 | apply zz0 | apply zz1 | refine zz3 ?_ GE204.out | refine zz3 ?_ GE205.out⟩
 ·rw [if_neg c3] at H
  have c3b0:(a0_0 == a1_0)=false:=beq_eq_false_iff_ne.mpr c3
  have c3b1:(a0_0 != a1_0)=true:=bne_iff_ne.mpr c3
  obtain rfl:=Option.some.inj H
  go_enter Tryd.func9,Tryd.ntmps9
  go_wp2_with (first | ((with_reducible refine gate_dst (N:=2) rfl ?_);refine box_event ?hg (N:=2) ?hd (cs:=#[.int .i64 a0_0,.slice A0_1 l0_1.length c0_1]) (t:=30) ?hr ?_;(case hd=>rfl);(case hg=>rfl);(case hr=>first | (go_simp;done) | (go_simp;rfl));intro gb204 hg w18 hbox hb;have n0_:=zz31 (zz4 (by repeat first | exact HB.out | apply zz2 | apply zz0 | apply zz1) hb);have n1_:=zz31 (hbox);have n2_:=zz31 ((by rw [hg];exact (zz5 (by repeat first | exact HB.out | apply zz2 | apply zz0 | apply zz1)):w.heap.size≤gb204));have n3_:=zz31 ((by rw [hg];exact (zz5 (by repeat first | exact HB.out | apply zz2 | apply zz0 | apply zz1)):w.heap.size≤gb204));clear HB;have HB:=n0_;have BK204:=n1_;have GW204:=n2_;have GE204:=n3_;clear n0_ n1_ n2_ n3_;clear hb hbox hg) | ((with_reducible refine gate_dst (N:=3) rfl ?_);refine box_event ?hg (N:=3) ?hd (cs:=#[.int .i64 a1_0,.slice A1_1 l1_1.length c1_1]) (t:=30) ?hr ?_;(case hd=>rfl);(case hg=>rfl);(case hr=>first | (go_simp;done) | (go_simp;rfl));intro gb205 hg w19 hbox hb;have n0_:=zz31 (zz11 (g:=gb204) (o:=.cells #[.int .i64 a0_0,.slice A0_1 l0_1.length c0_1] 30 (0,0)) (by (with_reducible repeat (first | refine zz6 ?_ _ | refine zz7 ?_ | refine zz8 ?_ _));exact BK204.out) hb);have n1_:=zz31 (zz4 (by repeat first | exact HB.out | apply zz2 | apply zz0 | apply zz1 | refine zz3 ?_ GE204.out) hb);have n2_:=zz31 (hbox);have n3_:=zz31 ((by rw [hg];exact (zz5 (by repeat first | exact HB.out | apply zz2 | apply zz0 | apply zz1 | refine zz3 ?_ GE204.out)):w.heap.size≤gb205));have n4_:=zz31 ((by rw [hg];exact (zz5 (by repeat first | exact HB.out | apply zz2 | apply zz0 | apply zz1 | refine zz3 ?_ GE204.out)):w.heap.size≤gb205));have n5_:=zz31 ((by rw [hg];exact Nat.ne_of_lt (blk_lt (g:=gb204) (o:=.cells #[.int .i64 a0_0,.slice A0_1 l0_1.length c0_1] 30 (0,0)) (by (with_reducible repeat (first | refine zz6 ?_ _ | refine zz7 ?_ | refine zz8 ?_ _));exact BK204.out)):gb204 ≠ gb205));have n6_:=zz31 ((by rw [hg];exact Nat.ne_of_gt (blk_lt (g:=gb204) (o:=.cells #[.int .i64 a0_0,.slice A0_1 l0_1.length c0_1] 30 (0,0)) (by (with_reducible repeat (first | refine zz6 ?_ _ | refine zz7 ?_ | refine zz8 ?_ _));exact BK204.out)):gb205 ≠ gb204));clear BK204;clear HB;have BK204:=n0_;have HB:=n1_;have BK205:=n2_;have GW205:=n3_;have GE205:=n4_;have NB204_205:=n5_;have NB205_204:=n6_;clear n0_ n1_ n2_ n3_ n4_ n5_ n6_;clear hb hbox hg;have hnb20:=NB204_205.out;have hnc20:=NB205_204.out;have hcz21_0:w19.cell? ⟨gb204,0,none⟩=some (.int .i64 a0_0):=(zz9 BK204.out 0).trans rfl;have hcz21_1:w19.cell? ⟨gb204,1,none⟩=some (.slice A0_1 l0_1.length c0_1):=(zz9 BK204.out 1).trans rfl;have hfz21_0:=zz10 BK204.out 0;have hfz21_1:=zz10 BK204.out 1;have hcz22_0:w19.cell? ⟨gb205,0,none⟩=some (.int .i64 a1_0):=(zz9 BK205.out 0).trans rfl;have hcz22_1:w19.cell? ⟨gb205,1,none⟩=some (.slice A1_1 l1_1.length c1_1):=(zz9 BK205.out 1).trans rfl;have hfz22_0:=zz10 BK205.out 0;have hfz22_1:=zz10 BK205.out 1))
  go_ret
  exact ⟨by first | rfl | (simp [errW_none,errW_some] <;> rfl) | (simp [*,errW_none,errW_some] <;> rfl),by repeat first | exact HB.out | apply zz2 | apply zz0 | apply zz1 | refine zz3 ?_ GE204.out | refine zz3 ?_ GE205.out⟩

/-! ### laws_FnExactPartyText: function 3 -/
def laws_FnExactPartyText.j0:Nat→Bool→Int→List (S57)→Int→List (S50)→Option (Bool)
 | 0,_,_,_,_,_=>none
 | k+1,x34,x208000,x208001,x220000,x220001=>if x34=true then (some false) else ((laws_toParty.f k x208000 x208001).bind fun bt222=>((laws_eqParty.f k x220000 x220001 bt222.1 bt222.2).bind fun t226=>(if t226=true then (some true) else (some false))))
def laws_FnExactPartyText.f (k:Nat) (a0_0:Int) (l0_1:List (S57)):Option (Bool):=(laws_szParty.f a0_0 l0_1 1048576).bind fun t208=>(if t208 < 0 then (some true) else ((laws_toParty.f k a0_0 l0_1).bind fun bt209=>((spec_PartyText.f k bt209.1 bt209.2).bind fun bt213=>((laws_toParty.f k a0_0 l0_1).bind fun bt215=>((impl_PartyText.f k bt215.1 bt215.2).bind fun bt220=>(if bt220.1.toList=bt213.1.toList then (laws_FnExactPartyText.j0 k (bt220.2 != bt213.2) a0_0 l0_1 bt215.1 bt215.2) else (laws_FnExactPartyText.j0 k true a0_0 l0_1 bt215.1 bt215.2)))))))
theorem laws_FnExactPartyText.mono_l:∀ k,(∀ y0 y1 y2 y3 y4,LeO (laws_FnExactPartyText.j0 k y0 y1 y2 y3 y4) (laws_FnExactPartyText.j0 (k+1) y0 y1 y2 y3 y4))
 | 0=>fun _ _ _ _ _ r h=>by simp [laws_FnExactPartyText.j0] at h
 | k+1=>by
  have ih0:=laws_FnExactPartyText.mono_l k
  ·intro y0 y1 y2 y3 y4
   unfold laws_FnExactPartyText.j0
   repeat' first
   | (with_reducible exact ih0 _ _ _ _ _)
   | (with_reducible exact impl_PartyText.mono _ _ _)
   | (with_reducible exact laws_eqParty.mono _ _ _ _ _)
   | (with_reducible exact laws_toParty.mono _ _ _)
   | (with_reducible exact spec_PartyText.mono _ _ _)
   | (with_reducible exact LeO.refl _)
   | (with_reducible exact LeO.none _)
   | (with_reducible refine LeO.ite ?_ ?_)
   | (with_reducible refine LeO.bind ?_ (fun _=>?_))
   | exact ih0 _ _ _ _ _
   | exact impl_PartyText.mono _ _ _
   | exact laws_eqParty.mono _ _ _ _ _
   | exact laws_toParty.mono _ _ _
   | exact spec_PartyText.mono _ _ _
   | exact LeO.none _
   | refine LeO.ite ?_ ?_
   | refine LeO.bind ?_ (fun _=>?_)
theorem laws_FnExactPartyText.mono:∀ a0 a1 k,LeO (laws_FnExactPartyText.f k a0 a1) (laws_FnExactPartyText.f (k+1) a0 a1):=by
 intro a0 a1 k
 have ih0:=laws_FnExactPartyText.mono_l k
 unfold laws_FnExactPartyText.f
 repeat' first
   | (with_reducible exact ih0 _ _ _ _ _)
   | (with_reducible exact impl_PartyText.mono _ _ _)
   | (with_reducible exact laws_eqParty.mono _ _ _ _ _)
   | (with_reducible exact laws_toParty.mono _ _ _)
   | (with_reducible exact spec_PartyText.mono _ _ _)
   | (with_reducible exact LeO.refl _)
   | (with_reducible exact LeO.none _)
   | (with_reducible refine LeO.ite ?_ ?_)
   | (with_reducible refine LeO.bind ?_ (fun _=>?_))
   | exact ih0 _ _ _ _ _
   | exact impl_PartyText.mono _ _ _
   | exact laws_eqParty.mono _ _ _ _ _
   | exact laws_toParty.mono _ _ _
   | exact spec_PartyText.mono _ _ _
   | exact LeO.none _
   | refine LeO.ite ?_ ?_
   | refine LeO.bind ?_ (fun _=>?_)
set_option maxHeartbeats 8000000 in
set_option maxRecDepth 100000 in
theorem laws_FnExactPartyText.calls (k:Nat) (a0_0:Int) (A0_1:Option Addr) (c0_1:Nat) (l0_1:List (S57)) (r:Bool) (w:World) (hr0_1:Kd.C k57 w A0_1 l0_1.length l0_1) (hc0_1:l0_1.length≤c0_1) (h:laws_FnExactPartyText.f k a0_0 l0_1=some r) :
  Calls Tryd.prog 3 #[.agg #[.int .i64 a0_0,.slice A0_1 l0_1.length c0_1]] w fun e w'=>e=.returned (.bool r)∧Below w.heap.size w w':=by
 have hu24:=Tryd.underlying24
 have hu30:=Tryd.underlying30
 have HR0_1:=zz31 hr0_1
 have HC0_1:=zz31 hc0_1
 clear hr0_1 hc0_1
 have HB:=zz31 (Below.refl w.heap.size w)
 have H:((laws_szParty.f a0_0 l0_1 1048576).bind fun t208=>(if t208 < 0 then (some true) else ((laws_toParty.f k a0_0 l0_1).bind fun bt209=>((spec_PartyText.f k bt209.1 bt209.2).bind fun bt213=>((laws_toParty.f k a0_0 l0_1).bind fun bt215=>((impl_PartyText.f k bt215.1 bt215.2).bind fun bt220=>(if bt220.1.toList=bt213.1.toList then (laws_FnExactPartyText.j0 k (bt220.2 != bt213.2) a0_0 l0_1 bt215.1 bt215.2) else (laws_FnExactPartyText.j0 k true a0_0 l0_1 bt215.1 bt215.2))))))))=some r:=h
 clear h
 replace H:=zz30.mp H
 obtain ⟨t208,A20,H⟩:=H
 replace H:(if t208 < 0 then (some true) else ((laws_toParty.f k a0_0 l0_1).bind fun bt209=>((spec_PartyText.f k bt209.1 bt209.2).bind fun bt213=>((laws_toParty.f k a0_0 l0_1).bind fun bt215=>((impl_PartyText.f k bt215.1 bt215.2).bind fun bt220=>(if bt220.1.toList=bt213.1.toList then (laws_FnExactPartyText.j0 k (bt220.2 != bt213.2) a0_0 l0_1 bt215.1 bt215.2) else (laws_FnExactPartyText.j0 k true a0_0 l0_1 bt215.1 bt215.2)))))))=some r:=H
 have A2:=zz31 A20
 clear A20
 by_cases c3:t208 < 0
 ·rw [if_pos c3] at H
  have c3b0:decide (t208 < 0)=true:=decide_eq_true c3
  clear c3
  obtain rfl:=Option.some.inj H
  go_enter Tryd.func3,Tryd.ntmps3
  go_wp2_with (first | ((with_reducible refine gate_dst (N:=1) rfl ?_);refine box_event ?hg (N:=1) ?hd (cs:=#[.int .i64 a0_0,.slice A0_1 l0_1.length c0_1]) (t:=24) ?hr ?_;(case hd=>rfl);(case hg=>rfl);(case hr=>first | (go_simp;done) | (go_simp;rfl));intro gb207 hg w4 hbox hb;have n0_:=zz31 (zz4 (by repeat first | exact HB.out | apply zz2 | apply zz0 | apply zz1) hb);have n1_:=zz31 (hbox);have n2_:=zz31 ((by rw [hg];exact (zz5 (by repeat first | exact HB.out | apply zz2 | apply zz0 | apply zz1)):w.heap.size≤gb207));have n3_:=zz31 ((by rw [hg];exact (zz5 (by repeat first | exact HB.out | apply zz2 | apply zz0 | apply zz1)):w.heap.size≤gb207));clear HB;have HB:=n0_;have BK207:=n1_;have GW207:=n2_;have GE207:=n3_;clear n0_ n1_ n2_ n3_;clear hb hbox hg;have hcz5_0:w4.cell? ⟨gb207,0,none⟩=some (.int .i64 a0_0):=(zz9 BK207.out 0).trans rfl;have hcz5_1:w4.cell? ⟨gb207,1,none⟩=some (.slice A0_1 l0_1.length c0_1):=(zz9 BK207.out 1).trans rfl;have hfz5_0:=zz10 BK207.out 0;have hfz5_1:=zz10 BK207.out 1) | ((with_reducible refine gate_callee (f:=5) rfl ?_);refine goesL_ (some 11) rfl rfl Tryd.func5 (by kernel_rfl) rfl #[.agg #[.int .i64 a0_0,.slice A0_1 l0_1.length c0_1],.int .i64 1048576] rfl (by (try simp only [zz26,zz27,zz28]);first | done | rfl | (simp only [zz24,zz25];rfl)) ?_;(with_reducible refine (laws_szParty.calls a0_0 _ _ l0_1 1048576 t208 _ ?side1 ?side2 A2.out).mono ?_);(case side1=>repeat (first | exact (Kd.C_below HR0_1.out HB.out) | (with_reducible refine zz18 ?_ _) | (with_reducible refine zz19 ?_ _) | (with_reducible refine zz20 ?_)));(case side2=>exact HC0_1.out);rintro e w6 ⟨rfl,hb⟩;refine ⟨_,rfl,?_⟩;have n0_:=zz31 (zz11 (g:=gb207) (o:=.cells #[.int .i64 a0_0,.slice A0_1 l0_1.length c0_1] 24 (0,0)) (by (with_reducible repeat (first | refine zz6 ?_ _ | refine zz7 ?_ | refine zz8 ?_ _));exact BK207.out) hb);have n1_:=zz31 (zz4 (by repeat first | exact HB.out | apply zz2 | apply zz0 | apply zz1 | refine zz3 ?_ GE207.out) hb);clear BK207;clear HB;have BK207:=n0_;have HB:=n1_;clear n0_ n1_;(try clear hb);(try clear hb2);(try clear hk);(try clear hi)))
  go_ret
  exact ⟨by first | rfl | (simp [errW_none,errW_some] <;> rfl) | (simp [*,errW_none,errW_some] <;> rfl),by repeat first | exact HB.out | apply zz2 | apply zz0 | apply zz1 | refine zz3 ?_ GE207.out⟩
 ·rw [if_neg c3] at H
  have c3b0:decide (t208 < 0)=false:=decide_eq_false c3
  clear c3
  replace H:=zz30.mp H
  obtain ⟨⟨t209,t210⟩,A70,H⟩:=H
  replace H:((spec_PartyText.f k t209 t210).bind fun bt213=>((laws_toParty.f k a0_0 l0_1).bind fun bt215=>((impl_PartyText.f k bt215.1 bt215.2).bind fun bt220=>(if bt220.1.toList=bt213.1.toList then (laws_FnExactPartyText.j0 k (bt220.2 != bt213.2) a0_0 l0_1 bt215.1 bt215.2) else (laws_FnExactPartyText.j0 k true a0_0 l0_1 bt215.1 bt215.2)))))=some r:=H
  have A7:=zz31 A70
  clear A70
  replace H:=zz30.mp H
  obtain ⟨⟨t213,t214⟩,A80,H⟩:=H
  replace H:((laws_toParty.f k a0_0 l0_1).bind fun bt215=>((impl_PartyText.f k bt215.1 bt215.2).bind fun bt220=>(if bt220.1.toList=t213.toList then (laws_FnExactPartyText.j0 k (bt220.2 != t214) a0_0 l0_1 bt215.1 bt215.2) else (laws_FnExactPartyText.j0 k true a0_0 l0_1 bt215.1 bt215.2))))=some r:=H
  have A8:=zz31 A80
  clear A80
  replace H:=zz30.mp H
  obtain ⟨⟨t215,t216⟩,A90,H⟩:=H
  replace H:((impl_PartyText.f k t215 t216).bind fun bt220=>(if bt220.1.toList=t213.toList then (laws_FnExactPartyText.j0 k (bt220.2 != t214) a0_0 l0_1 t215 t216) else (laws_FnExactPartyText.j0 k true a0_0 l0_1 t215 t216)))=some r:=H
  have A9:=zz31 A90
  clear A90
  replace H:=zz30.mp H
  obtain ⟨⟨t220,t221⟩,A100,H⟩:=H
  replace H:(if t220.toList=t213.toList then (laws_FnExactPartyText.j0 k (t221 != t214) a0_0 l0_1 t215 t216) else (laws_FnExactPartyText.j0 k true a0_0 l0_1 t215 t216))=some r:=H
  have A10:=zz31 A100
  clear A100
  have HC11:=zz31 H
  clear H
  go_enter Tryd.func3,Tryd.ntmps3
  go_upto_region 8 with (first | ((with_reducible refine gate_dst (N:=1) rfl ?_);refine box_event ?hg (N:=1) ?hd (cs:=#[.int .i64 a0_0,.slice A0_1 l0_1.length c0_1]) (t:=24) ?hr ?_;(case hd=>rfl);(case hg=>rfl);(case hr=>first | (go_simp;done) | (go_simp;rfl));intro gb207 hg w12 hbox hb;have n0_:=zz31 (zz4 (by repeat first | exact HB.out | apply zz2 | apply zz0 | apply zz1) hb);have n1_:=zz31 (hbox);have n2_:=zz31 ((by rw [hg];exact (zz5 (by repeat first | exact HB.out | apply zz2 | apply zz0 | apply zz1)):w.heap.size≤gb207));have n3_:=zz31 ((by rw [hg];exact (zz5 (by repeat first | exact HB.out | apply zz2 | apply zz0 | apply zz1)):w.heap.size≤gb207));clear HB;have HB:=n0_;have BK207:=n1_;have GW207:=n2_;have GE207:=n3_;clear n0_ n1_ n2_ n3_;clear hb hbox hg;have hcz13_0:w12.cell? ⟨gb207,0,none⟩=some (.int .i64 a0_0):=(zz9 BK207.out 0).trans rfl;have hcz13_1:w12.cell? ⟨gb207,1,none⟩=some (.slice A0_1 l0_1.length c0_1):=(zz9 BK207.out 1).trans rfl;have hfz13_0:=zz10 BK207.out 0;have hfz13_1:=zz10 BK207.out 1) | ((with_reducible refine gate_callee (f:=5) rfl ?_);refine goesL_ (some 11) rfl rfl Tryd.func5 (by kernel_rfl) rfl #[.agg #[.int .i64 a0_0,.slice A0_1 l0_1.length c0_1],.int .i64 1048576] rfl (by (try simp only [zz26,zz27,zz28]);first | done | rfl | (simp only [zz24,zz25];rfl)) ?_;(with_reducible refine (laws_szParty.calls a0_0 _ _ l0_1 1048576 t208 _ ?side1 ?side2 A2.out).mono ?_);(case side1=>repeat (first | exact (Kd.C_below HR0_1.out HB.out) | (with_reducible refine zz18 ?_ _) | (with_reducible refine zz19 ?_ _) | (with_reducible refine zz20 ?_)));(case side2=>exact HC0_1.out);rintro e w14 ⟨rfl,hb⟩;refine ⟨_,rfl,?_⟩;have n0_:=zz31 (zz11 (g:=gb207) (o:=.cells #[.int .i64 a0_0,.slice A0_1 l0_1.length c0_1] 24 (0,0)) (by (with_reducible repeat (first | refine zz6 ?_ _ | refine zz7 ?_ | refine zz8 ?_ _));exact BK207.out) hb);have n1_:=zz31 (zz4 (by repeat first | exact HB.out | apply zz2 | apply zz0 | apply zz1 | refine zz3 ?_ GE207.out) hb);clear BK207;clear HB;have BK207:=n0_;have HB:=n1_;clear n0_ n1_;(try clear hb);(try clear hb2);(try clear hk);(try clear hi);have hcz15_0:w14.cell? ⟨gb207,0,none⟩=some (.int .i64 a0_0):=(zz9 BK207.out 0).trans rfl;have hcz15_1:w14.cell? ⟨gb207,1,none⟩=some (.slice A0_1 l0_1.length c0_1):=(zz9 BK207.out 1).trans rfl;have hfz15_0:=zz10 BK207.out 0;have hfz15_1:=zz10 BK207.out 1) | ((with_reducible refine gate_callee (f:=7) rfl ?_);refine goesL_ (some 16) rfl rfl Tryd.func7 (by kernel_rfl) rfl #[.agg #[.int .i64 a0_0,.slice A0_1 l0_1.length c0_1]] rfl (by (try simp only [zz26,zz27,zz28]);first | done | rfl | (simp only [zz24,zz25];rfl)) ?_;(with_reducible refine (laws_toParty.calls k a0_0 _ _ l0_1 t209 t210 _ ?side1 ?side2 A7.out).mono ?_);(case side1=>repeat (first | exact (Kd.C_below HR0_1.out HB.out) | (with_reducible refine zz18 ?_ _) | (with_reducible refine zz19 ?_ _) | (with_reducible refine zz20 ?_)));(case side2=>exact HC0_1.out);rintro e w16 ⟨v211,rfl,ho0,hb⟩;refine ⟨_,rfl,?_⟩;have n0_:=zz31 (Kd.R_lower ho0 (zz5 (by repeat first | exact HB.out | apply zz2 | apply zz0 | apply zz1 | refine zz3 ?_ GE207.out)));have n1_:=zz31 (zz11 (g:=gb207) (o:=.cells #[.int .i64 a0_0,.slice A0_1 l0_1.length c0_1] 24 (0,0)) (by (with_reducible repeat (first | refine zz6 ?_ _ | refine zz7 ?_ | refine zz8 ?_ _));exact BK207.out) hb);have n2_:=zz31 (zz4 (by repeat first | exact HB.out | apply zz2 | apply zz0 | apply zz1 | refine zz3 ?_ GE207.out) hb);clear BK207;clear HB;have HO212:=n0_;have BK207:=n1_;have HB:=n2_;clear n0_ n1_ n2_;(try clear hb);(try clear hb2);(try clear hk);(try clear hi);(try clear ho0);obtain ⟨Ao17,co17,eo17⟩:=Kd.R_slice HO212.out;subst eo17) | ((with_reducible refine gate_callee (f:=6) rfl ?_);refine goesL_ (some 17) rfl rfl Tryd.func6 (by kernel_rfl) rfl #[.agg #[.int .i64 t209,.slice Ao17 t210.length co17]] rfl (by (try simp only [zz26,zz27,zz28]);first | done | rfl | (simp only [zz24,zz25];rfl)) ?_;(with_reducible refine (spec_PartyText.calls k t209 _ _ t210 t213 t214 _ ?side1 ?side2 A8.out).mono ?_);(case side1=>repeat (first | exact (Kd.R_reads' HO212.out).2.2 | (with_reducible refine zz18 ?_ _) | (with_reducible refine zz19 ?_ _) | (with_reducible refine zz20 ?_)));(case side2=>exact (Kd.R_reads' HO212.out).2.1);rintro e w18 ⟨rfl,hb⟩;refine ⟨_,rfl,?_⟩;have n0_:=zz31 (Kd.R_below (by (with_reducible repeat (first | apply zz12 | apply zz13 | apply zz14));exact HO212.out) hb);have n1_:=zz31 (zz11 (g:=gb207) (o:=.cells #[.int .i64 a0_0,.slice A0_1 l0_1.length c0_1] 24 (0,0)) (by (with_reducible repeat (first | refine zz6 ?_ _ | refine zz7 ?_ | refine zz8 ?_ _));exact BK207.out) hb);have n2_:=zz31 (zz4 (by repeat first | exact HB.out | apply zz2 | apply zz0 | apply zz1 | refine zz3 ?_ GE207.out) hb);clear HO212;clear BK207;clear HB;have HO212:=n0_;have BK207:=n1_;have HB:=n2_;clear n0_ n1_ n2_;(try clear hb);(try clear hb2);(try clear hk);(try clear hi);have hcz19_0:w18.cell? ⟨gb207,0,none⟩=some (.int .i64 a0_0):=(zz9 BK207.out 0).trans rfl;have hcz19_1:w18.cell? ⟨gb207,1,none⟩=some (.slice A0_1 l0_1.length c0_1):=(zz9 BK207.out 1).trans rfl;have hfz19_0:=zz10 BK207.out 0;have hfz19_1:=zz10 BK207.out 1) | ((with_reducible refine gate_callee (f:=7) rfl ?_);refine goesL_ (some 21) rfl rfl Tryd.func7 (by kernel_rfl) rfl #[.agg #[.int .i64 a0_0,.slice A0_1 l0_1.length c0_1]] rfl (by (try simp only [zz26,zz27,zz28]);first | done | rfl | (simp only [zz24,zz25];rfl)) ?_;(with_reducible refine (laws_toParty.calls k a0_0 _ _ l0_1 t215 t216 _ ?side1 ?side2 A9.out).mono ?_);(case side1=>repeat (first | exact (Kd.C_below HR0_1.out HB.out) | (with_reducible refine zz18 ?_ _) | (with_reducible refine zz19 ?_ _) | (with_reducible refine zz20 ?_)));(case side2=>exact HC0_1.out);rintro e w20 ⟨v217,rfl,ho0,hb⟩;refine ⟨_,rfl,?_⟩;have n0_:=zz31 (Kd.R_elder' (by (with_reducible repeat (first | apply zz12 | apply zz13 | apply zz14));exact HO212.out) (Kd.R_base ho0) hb);have n1_:=zz31 (Kd.R_lower (Kd.R_new' ho0 (Kd.R_lt (by (with_reducible repeat (first | apply zz12 | apply zz13 | apply zz14));exact HO212.out))) (zz5 (by repeat first | exact HB.out | apply zz2 | apply zz0 | apply zz1 | refine zz3 ?_ GE207.out)));have n2_:=zz31 (zz11 (g:=gb207) (o:=.cells #[.int .i64 a0_0,.slice A0_1 l0_1.length c0_1] 24 (0,0)) (by (with_reducible repeat (first | refine zz6 ?_ _ | refine zz7 ?_ | refine zz8 ?_ _));exact BK207.out) hb);have n3_:=zz31 (zz4 (by repeat first | exact HB.out | apply zz2 | apply zz0 | apply zz1 | refine zz3 ?_ GE207.out) hb);clear HO212;clear BK207;clear HB;have HO212:=n0_;have HO218:=n1_;have BK207:=n2_;have HB:=n3_;clear n0_ n1_ n2_ n3_;(try clear hb);(try clear hb2);(try clear hk);(try clear hi);(try clear ho0)) | ((with_reducible refine gate_dst (N:=6) rfl ?_);refine box_event ?hg (N:=6) ?hd (cs:=#[.int .i64 0,.slice none 0 0]) (t:=30) ?hr ?_;(case hd=>rfl);(case hg=>rfl);(case hr=>first | (go_simp;done) | (go_simp;rfl));intro gb219 hg w21 hbox hb;have n0_:=zz31 (Kd.R_below (by (with_reducible repeat (first | apply zz12 | apply zz13 | apply zz14));exact HO212.out) hb);have n1_:=zz31 (Kd.R_below (by (with_reducible repeat (first | apply zz12 | apply zz13 | apply zz14));exact HO218.out) hb);have n2_:=zz31 (zz11 (g:=gb207) (o:=.cells #[.int .i64 a0_0,.slice A0_1 l0_1.length c0_1] 24 (0,0)) (by (with_reducible repeat (first | refine zz6 ?_ _ | refine zz7 ?_ | refine zz8 ?_ _));exact BK207.out) hb);have n3_:=zz31 (zz4 (by repeat first | exact HB.out | apply zz2 | apply zz0 | apply zz1 | refine zz3 ?_ GE207.out) hb);have n4_:=zz31 (hbox);have n5_:=zz31 ((by rw [hg];exact (zz5 (by repeat first | exact HB.out | apply zz2 | apply zz0 | apply zz1 | refine zz3 ?_ GE207.out)):w.heap.size≤gb219));have n6_:=zz31 ((by rw [hg];exact (zz5 (by repeat first | exact HB.out | apply zz2 | apply zz0 | apply zz1 | refine zz3 ?_ GE207.out)):w.heap.size≤gb219));have n7_:=zz31 ((by rw [hg];exact Nat.ne_of_lt (blk_lt (g:=gb207) (o:=.cells #[.int .i64 a0_0,.slice A0_1 l0_1.length c0_1] 24 (0,0)) (by (with_reducible repeat (first | refine zz6 ?_ _ | refine zz7 ?_ | refine zz8 ?_ _));exact BK207.out)):gb207 ≠ gb219));have n8_:=zz31 ((by rw [hg];exact Nat.ne_of_gt (blk_lt (g:=gb207) (o:=.cells #[.int .i64 a0_0,.slice A0_1 l0_1.length c0_1] 24 (0,0)) (by (with_reducible repeat (first | refine zz6 ?_ _ | refine zz7 ?_ | refine zz8 ?_ _));exact BK207.out)):gb219 ≠ gb207));clear HO212;clear HO218;clear BK207;clear HB;have HO212:=n0_;have HO218:=n1_;have BK207:=n2_;have HB:=n3_;have BK219:=n4_;have GW219:=n5_;have GE219:=n6_;have NB207_219:=n7_;have NB219_207:=n8_;clear n0_ n1_ n2_ n3_ n4_ n5_ n6_ n7_ n8_;clear hb hbox hg;have hnb22:=NB219_207.out;have hnc22:=NB207_219.out;have hcz23_0:w21.cell? ⟨gb219,0,none⟩=some (.int .i64 0):=(zz9 BK219.out 0).trans rfl;have hcz23_1:w21.cell? ⟨gb219,1,none⟩=some (.slice none 0 0):=(zz9 BK219.out 1).trans rfl;have hfz23_0:=zz10 BK219.out 0;have hfz23_1:=zz10 BK219.out 1;obtain ⟨Ao24,co24,eo24⟩:=Kd.R_slice HO218.out;subst eo24) | ((with_reducible refine gate_callee (f:=8) rfl ?_);refine goesL_ (some 24) rfl rfl Tryd.func8 (by kernel_rfl) rfl #[.agg #[.int .i64 t215,.slice Ao24 t216.length co24]] rfl (by (try simp only [zz26,zz27,zz28]);first | done | rfl | (simp only [zz24,zz25];rfl)) ?_;(with_reducible refine (impl_PartyText.calls k t215 _ _ t216 t220 t221 _ ?side1 ?side2 A10.out).mono ?_);(case side1=>refine (Kd.R_reads' (e:=50) (base:=w.heap.size) (ok:=fun k_=>(True∧some k_ ≠ (.slice Ao17 t210.length co17:Value).ownBlock)) (n:=t216.length) (c:=co24) ?_).2.2;exact (by (with_reducible repeat (first | apply zz12 | apply zz13 | apply zz14));exact (Kd.R_mono (Kd.R_far (p:=⟨gb219,1,none⟩) (Kd.R_far (p:=⟨gb219,0,none⟩) (Kd.R_types HO218.out BK219.out (by decide)) (fun _ hk=>hk.2) (.int .i64 t215)) (fun _ hk=>hk.2) (.slice Ao24 t216.length co24)) (fun _ h_=>h_.1))));(case side2=>exact (Kd.R_reads' HO218.out).2.1);rintro e w25 ⟨rfl,hb⟩;refine ⟨_,rfl,?_⟩;have n0_:=zz31 (Kd.R_below (by (with_reducible repeat (first | apply zz12 | apply zz13 | apply zz14));exact (Kd.R_mono (Kd.R_far (p:=⟨gb219,1,none⟩) (Kd.R_far (p:=⟨gb219,0,none⟩) (Kd.R_types HO212.out BK219.out (by decide)) (fun _ hk=>hk.2) (.int .i64 t215)) (fun _ hk=>hk.2) (.slice Ao24 t216.length co24)) (fun _ h_=>h_.1))) hb);have n1_:=zz31 (Kd.R_below (by (with_reducible repeat (first | apply zz12 | apply zz13 | apply zz14));exact (Kd.R_mono (Kd.R_far (p:=⟨gb219,1,none⟩) (Kd.R_far (p:=⟨gb219,0,none⟩) (Kd.R_types HO218.out BK219.out (by decide)) (fun _ hk=>hk.2) (.int .i64 t215)) (fun _ hk=>hk.2) (.slice Ao24 t216.length co24)) (fun _ h_=>h_.1))) hb);have n2_:=zz31 (zz11 (g:=gb207) (o:=.cells #[.int .i64 a0_0,.slice A0_1 l0_1.length c0_1] 24 (0,0)) (by (with_reducible repeat (first | refine zz6 ?_ _ | refine zz7 ?_ | refine zz8 ?_ _));refine blk_far ?_ NB207_219.out _;(with_reducible repeat (first | refine zz6 ?_ _ | refine zz7 ?_ | refine zz8 ?_ _));refine blk_far ?_ NB207_219.out _;(with_reducible repeat (first | refine zz6 ?_ _ | refine zz7 ?_ | refine zz8 ?_ _));exact BK207.out) hb);have n3_:=zz31 (zz11 (g:=gb219) (o:=.cells #[.int .i64 t215,.slice Ao24 t216.length co24] 30 (0,0)) (by (with_reducible repeat (first | refine zz6 ?_ _ | refine zz7 ?_ | refine zz8 ?_ _));refine blk_put (cs:=#[.int .i64 t215,.slice none 0 0]) ?_ 1 _ rfl;(with_reducible repeat (first | refine zz6 ?_ _ | refine zz7 ?_ | refine zz8 ?_ _));refine blk_put (cs:=#[.int .i64 0,.slice none 0 0]) ?_ 0 _ rfl;(with_reducible repeat (first | refine zz6 ?_ _ | refine zz7 ?_ | refine zz8 ?_ _));exact BK219.out) hb);have n4_:=zz31 (zz4 (by repeat first | exact HB.out | apply zz2 | apply zz0 | apply zz1 | refine zz3 ?_ GE207.out | refine zz3 ?_ GE219.out) hb);clear HO212;clear HO218;clear BK207;clear BK219;clear HB;have HO212:=n0_;have HO218:=n1_;have BK207:=n2_;have BK219:=n3_;have HB:=n4_;clear n0_ n1_ n2_ n3_ n4_;(try clear hb);(try clear hb2);(try clear hk);(try clear hi)))
  (try simp only [Act.put,zz21,zz22,zz23])
  go_cut [34] (fun v34 wc=>∃ (kq:Nat) (x34_10:Bool),v34=.bool x34_10∧Aside0 (laws_FnExactPartyText.j0 kq x34_10 a0_0 l0_1 t215 t216=some r)∧Aside0 (kq≤k)∧Aside0 (Kd.R k50 50 wc w.heap.size (fun _=>True) (.slice Ao24 t216.length co24) t216)∧Aside0 (wc.heap[gb207]?=some (.cells #[.int .i64 a0_0,(.slice A0_1 l0_1.length c0_1)] 24 (0,0)))∧Aside0 (wc.heap[gb219]?=some (.cells #[.int .i64 t215,(.slice Ao24 t216.length co24)] 30 (0,0)))∧Aside0 (Below w.heap.size w wc))
  case first =>
   have H:=HC11.out
   clear HC11
   by_cases c26:t220.toList=t213.toList
   ·rw [if_pos c26] at H
    have c26b0:(t220.toList == t213.toList)=true:=beq_iff_eq.mpr c26
    have c26b1:(t220.toList != t213.toList)=false:=bne_eq_false_iff_eq.mpr c26
    clear c26
    (first | rw [c26b0] | (simp only [i64_w,i32_w];rw [c26b0]) | skip)
    have H':=zz31 H
    clear H
    go_wp2
    go_meet
    case rel=>exact ⟨_,((t221 != t214)),(by first | rfl | (simp;done) | (simp [*];done)),H',⟨by first | omega | exact Nat.le_refl _⟩,⟨by (with_reducible repeat (first | apply zz12 | apply zz13 | apply zz14));exact Kd.R_mono HO218.out (fun _ hk=>trivial)⟩,⟨by (with_reducible repeat (first | refine zz6 ?_ _ | refine zz7 ?_ | refine zz8 ?_ _));exact BK207.out⟩,⟨by (with_reducible repeat (first | refine zz6 ?_ _ | refine zz7 ?_ | refine zz8 ?_ _));exact BK219.out⟩,⟨by repeat first | exact HB.out | apply zz2 | apply zz0 | apply zz1 | refine zz3 ?_ GE207.out | refine zz3 ?_ GE219.out⟩⟩
   ·rw [if_neg c26] at H
    have c26b0:(t220.toList == t213.toList)=false:=beq_eq_false_iff_ne.mpr c26
    have c26b1:(t220.toList != t213.toList)=true:=bne_iff_ne.mpr c26
    (first | rw [c26b0] | (simp only [i64_w,i32_w];rw [c26b0]) | skip)
    have H':=zz31 H
    clear H
    go_wp2
    go_meet
    case rel=>exact ⟨_,(true),(by first | rfl | (simp;done) | (simp [*];done)),H',⟨by first | omega | exact Nat.le_refl _⟩,⟨by (with_reducible repeat (first | apply zz12 | apply zz13 | apply zz14));exact Kd.R_mono HO218.out (fun _ hk=>trivial)⟩,⟨by (with_reducible repeat (first | refine zz6 ?_ _ | refine zz7 ?_ | refine zz8 ?_ _));exact BK207.out⟩,⟨by (with_reducible repeat (first | refine zz6 ?_ _ | refine zz7 ?_ | refine zz8 ?_ _));exact BK219.out⟩,⟨by repeat first | exact HB.out | apply zz2 | apply zz0 | apply zz1 | refine zz3 ?_ GE207.out | refine zz3 ?_ GE219.out⟩⟩
  case rest =>
   clear HC11
   try clear c2
   try clear p2
   try clear c3
   try clear c3b0
   try clear c5
   try clear c6
   try clear c7
   try clear c8
   try clear c22
   try clear c26
   try clear c26b0
   try clear c26b1
   try clear hcz13_0
   try clear hcz13_1
   try clear hcz15_0
   try clear hcz15_1
   try clear hcz19_0
   try clear hcz19_1
   try clear hcz23_0
   try clear hcz23_1
   try clear hcz5_0
   try clear hcz5_1
   try clear hfz13_0
   try clear hfz13_1
   try clear hfz15_0
   try clear hfz15_1
   try clear hfz19_0
   try clear hfz19_1
   try clear hfz23_0
   try clear hfz23_1
   try clear hfz5_0
   try clear hfz5_1
   obtain ⟨kq,x34_10,rfl,HA,HJ10,HO_220001,BK207,BK219,HB⟩:=hcut
   cases kq with
   | zero=>exact absurd HA.out (by simp [laws_FnExactPartyText.j0])
   | succ kj10 =>
    have H:=HA.out
    clear HA
    simp only [laws_FnExactPartyText.j0] at H
    by_cases c27:x34_10=true
    ·subst c27
     have H1:(some false)=some r:=by rw [if_pos rfl] at H;exact H
     clear H
     have H:=H1
     clear H1
     obtain rfl:=Option.some.inj H
     go_wp2
     go_ret
     exact ⟨by first | rfl | (simp [errW_none,errW_some] <;> rfl) | (simp [*,errW_none,errW_some] <;> rfl),by repeat first | exact HB.out | apply zz2 | apply zz0 | apply zz1 | refine zz3 ?_ GE207.out | refine zz3 ?_ GE219.out⟩
    ·replace c27:=Bool.eq_false_iff.mpr c27
     subst c27
     have H1:((laws_toParty.f kj10 a0_0 l0_1).bind fun bt222=>((laws_eqParty.f kj10 t215 t216 bt222.1 bt222.2).bind fun t226=>(if t226=true then (some true) else (some false))))=some r:=by rw [if_neg (show ¬ (false=true) by decide)] at H;exact H
     clear H
     have H:=H1
     clear H1
     replace H:=zz30.mp H
     obtain ⟨⟨t222,t223⟩,A280,H⟩:=H
     replace H:((laws_eqParty.f kj10 t215 t216 t222 t223).bind fun t226=>(if t226=true then (some true) else (some false)))=some r:=H
     have A28:=zz31 A280
     clear A280
     replace H:=zz30.mp H
     obtain ⟨t226,A290,H⟩:=H
     replace H:(if t226=true then (some true) else (some false))=some r:=H
     have A29:=zz31 A290
     clear A290
     by_cases c30:t226=true
     ·subst c30
      have H1:(some true)=some r:=by rw [if_pos rfl] at H;exact H
      clear H
      have H:=H1
      clear H1
      obtain rfl:=Option.some.inj H
      try go_wp2
      have n0_:=zz31 (zz14 HO_220001.out)
      have n1_:=zz31 (zz7 BK207.out)
      have n2_:=zz31 (zz7 BK219.out)
      have n3_:=zz31 (zz1 HB.out)
      clear HO_220001
      clear BK207
      clear BK219
      clear HB
      have HO_220001:=n0_
      have BK207:=n1_
      have BK219:=n2_
      have HB:=n3_
      clear n0_ n1_ n2_ n3_
      refine start_ (n:=5) (S:=fun w'=>w'.cell? ⟨gb219,0,none⟩=some (.int .i64 t215)∧w'.cell? ⟨gb219,1,none⟩=some (.slice Ao24 t216.length co24)∧w'.cell? ⟨gb207,0,none⟩=some (.int .i64 a0_0)∧w'.cell? ⟨gb207,1,none⟩=some (.slice A0_1 l0_1.length c0_1)) (ds:=[]) #[F,F,F,F,F] (by kernel_rfl) rfl rfl ⟨(zz9 BK219.out 0).trans rfl,(zz9 BK219.out 1).trans rfl,(zz9 BK207.out 0).trans rfl,(zz9 BK207.out 1).trans rfl⟩ (fun hHeld=>?_)
      generalize wc.drew=w31 at HO_220001 BK207 BK219 HB hHeld ⊢
      refine take_ (i:=0) (N:=some 35) (v:=?_) (a':=?_) #[T,F,F,F,F] rfl rfl (by kernel_rfl) (fun _ _ _ h=>h) (Or.inl ⟨by rfl,?_⟩) hHeld ?_ ?_
      rotate_left
      ·rintro w' ⟨s0,s1,s2,s3⟩
       go_simp
       with_reducible rfl
      rotate_left
      ·simp only [Act.put,zz21,zz22,zz23,i64_w,i32_w]
       rfl
      refine take_ (i:=1) (N:=some 36) (v:=?_) (a':=?_) #[T,T,F,F,F] rfl rfl (by kernel_rfl) (fun _ _ _ h=>h) (Or.inl ⟨by rfl,?_⟩) hHeld ?_ ?_
      rotate_left
      ·rintro w' ⟨s0,s1,s2,s3⟩
       go_simp
       with_reducible rfl
      rotate_left
      ·simp only [Act.put,zz21,zz22,zz23,i64_w,i32_w]
       rfl
      refine one_ (i:=2) (N:=some 37) #[T,T,T,F,F] rfl rfl (by kernel_rfl) (by decide) (fun K hK=>?_)
      refine goes_ Tryd.func7 (by kernel_rfl) rfl #[.agg #[.int .i64 a0_0,.slice A0_1 l0_1.length c0_1]] (by rfl) rfl rfl (by (try simp only [zz26,zz27,zz28]);first | done | rfl | (simp only [zz24,zz25];rfl)) ?_
      with_reducible refine (laws_toParty.calls kj10 a0_0 _ _ l0_1 t222 t223 _ ?side1 ?side2 A28.out).mono ?_
      (case side1=>repeat (first | exact (Kd.C_below HR0_1.out HB.out) | (with_reducible refine zz18 ?_ _) | (with_reducible refine zz19 ?_ _) | (with_reducible refine zz20 ?_)))
      (case side2=>exact HC0_1.out)
      rintro e w32 ⟨v224,rfl,ho0,hb⟩
      refine ⟨_,rfl,?_⟩
      have n0_:=zz31 (Kd.R_elder' (by (with_reducible repeat (first | apply zz12 | apply zz13 | apply zz14));exact HO_220001.out) (Kd.R_base ho0) hb)
      have n1_:=zz31 (Kd.R_lower (Kd.R_new' ho0 (Kd.R_lt (by (with_reducible repeat (first | apply zz12 | apply zz13 | apply zz14));exact HO_220001.out))) (zz5 (by repeat first | exact HB.out | apply zz2 | apply zz0 | apply zz1 | refine zz3 ?_ GE207.out | refine zz3 ?_ GE219.out)))
      have n2_:=zz31 (zz11 (g:=gb207) (o:=.cells #[.int .i64 a0_0,.slice A0_1 l0_1.length c0_1] 24 (0,0)) (by (with_reducible repeat (first | refine zz6 ?_ _ | refine zz7 ?_ | refine zz8 ?_ _));exact BK207.out) hb)
      have n3_:=zz31 (zz11 (g:=gb219) (o:=.cells #[.int .i64 t215,.slice Ao24 t216.length co24] 30 (0,0)) (by (with_reducible repeat (first | refine zz6 ?_ _ | refine zz7 ?_ | refine zz8 ?_ _));exact BK219.out) hb)
      have n4_:=zz31 (zz4 (by repeat first | exact HB.out | apply zz2 | apply zz0 | apply zz1 | refine zz3 ?_ GE207.out | refine zz3 ?_ GE219.out) hb)
      clear HO_220001
      clear BK207
      clear BK219
      clear HB
      have HO_220001:=n0_
      have HO225:=n1_
      have BK207:=n2_
      have BK219:=n3_
      have HB:=n4_
      clear n0_ n1_ n2_ n3_ n4_
      (try clear hb)
      (try clear hb2)
      (try clear hk)
      (try clear hi)
      (try clear ho0)
      obtain ⟨Ao33,co33,eo33⟩:=Kd.R_slice HO225.out
      (first | subst eo33 | (injection eo33 with f1_ f2_ f3_;have f4_:=f1_.symm;have f5_:=f3_.symm;clear f1_ f2_ f3_;subst f4_;subst f5_))
      refine hK.out _ _ ⟨(zz9 BK219.out 0).trans rfl,(zz9 BK219.out 1).trans rfl,(zz9 BK207.out 0).trans rfl,(zz9 BK207.out 1).trans rfl⟩ (fun hHeld=>?_)
      clear hK K
      refine norm_ (a':=?_) ?_ ?_
      rotate_left
      ·show Act.put _ (some 37) _=_
       simp only [Act.put,zz21,zz22,zz23,i64_w,i32_w]
       rfl
      refine one_ (i:=3) (N:=some 38) #[T,T,T,T,F] rfl rfl (by kernel_rfl) (by decide) (fun K hK=>?_)
      refine goes_ Tryd.func9 (by kernel_rfl) rfl #[.agg #[.int .i64 t215,.slice Ao24 t216.length co24],.agg #[.int .i64 t222,.slice Ao33 t223.length co33]] (by rfl) rfl rfl (by (try simp only [zz26,zz27,zz28]);first | done | rfl | (simp only [zz24,zz25];rfl)) ?_
      with_reducible refine (laws_eqParty.calls kj10 t215 _ _ t216 t222 _ _ t223 true _ ?side1 ?side2 ?side3 ?side4 A29.out).mono ?_
      (case side1=>repeat (first | exact (Kd.R_reads' HO_220001.out).2.2 | (with_reducible refine zz18 ?_ _) | (with_reducible refine zz19 ?_ _) | (with_reducible refine zz20 ?_)))
      (case side2=>exact (Kd.R_reads' HO_220001.out).2.1)
      (case side3=>repeat (first | exact (Kd.R_reads' HO225.out).2.2 | (with_reducible refine zz18 ?_ _) | (with_reducible refine zz19 ?_ _) | (with_reducible refine zz20 ?_)))
      (case side4=>exact (Kd.R_reads' HO225.out).2.1)
      rintro e w34 ⟨rfl,hb⟩
      refine ⟨_,rfl,?_⟩
      have n0_:=zz31 (Kd.R_below (by (with_reducible repeat (first | apply zz12 | apply zz13 | apply zz14));exact HO_220001.out) hb)
      have n1_:=zz31 (Kd.R_below (by (with_reducible repeat (first | apply zz12 | apply zz13 | apply zz14));exact HO225.out) hb)
      have n2_:=zz31 (zz11 (g:=gb207) (o:=.cells #[.int .i64 a0_0,.slice A0_1 l0_1.length c0_1] 24 (0,0)) (by (with_reducible repeat (first | refine zz6 ?_ _ | refine zz7 ?_ | refine zz8 ?_ _));exact BK207.out) hb)
      have n3_:=zz31 (zz11 (g:=gb219) (o:=.cells #[.int .i64 t215,.slice Ao24 t216.length co24] 30 (0,0)) (by (with_reducible repeat (first | refine zz6 ?_ _ | refine zz7 ?_ | refine zz8 ?_ _));exact BK219.out) hb)
      have n4_:=zz31 (zz4 (by repeat first | exact HB.out | apply zz2 | apply zz0 | apply zz1 | refine zz3 ?_ GE207.out | refine zz3 ?_ GE219.out) hb)
      clear HO_220001
      clear HO225
      clear BK207
      clear BK219
      clear HB
      have HO_220001:=n0_
      have HO225:=n1_
      have BK207:=n2_
      have BK219:=n3_
      have HB:=n4_
      clear n0_ n1_ n2_ n3_ n4_
      (try clear hb)
      (try clear hb2)
      (try clear hk)
      (try clear hi)
      refine hK.out _ _ ⟨(zz9 BK219.out 0).trans rfl,(zz9 BK219.out 1).trans rfl,(zz9 BK207.out 0).trans rfl,(zz9 BK207.out 1).trans rfl⟩ (fun hHeld=>?_)
      clear hK K
      refine norm_ (a':=?_) ?_ ?_
      rotate_left
      ·show Act.put _ (some 38) _=_
       simp only [Act.put,zz21,zz22,zz23,i64_w,i32_w]
       rfl
      refine pure_ (i:=4) (N:=some 39) (v:=?_) (a':=?_) #[T,T,T,T,T] rfl rfl (by kernel_rfl) (fun _ _ _ h=>h) (Or.inl ⟨by rfl,?_⟩) ?_ ?_
      rotate_left
      ·intro w'
       go_simp
       with_reducible rfl
      rotate_left
      ·simp only [Act.put,zz21,zz22,zz23,i64_w,i32_w]
       rfl
      refine done_ (by kernel_rfl) ?_
      try go_wp2
      go_ret
      exact ⟨by first | rfl | (simp [errW_none,errW_some] <;> rfl) | (simp [*,errW_none,errW_some] <;> rfl),by repeat first | exact HB.out | apply zz2 | apply zz0 | apply zz1 | refine zz3 ?_ GE207.out | refine zz3 ?_ GE219.out⟩
     ·replace c30:=Bool.eq_false_iff.mpr c30
      subst c30
      have H1:(some false)=some r:=by rw [if_neg (show ¬ (false=true) by decide)] at H;exact H
      clear H
      have H:=H1
      clear H1
      obtain rfl:=Option.some.inj H
      try go_wp2
      have n0_:=zz31 (zz14 HO_220001.out)
      have n1_:=zz31 (zz7 BK207.out)
      have n2_:=zz31 (zz7 BK219.out)
      have n3_:=zz31 (zz1 HB.out)
      clear HO_220001
      clear BK207
      clear BK219
      clear HB
      have HO_220001:=n0_
      have BK207:=n1_
      have BK219:=n2_
      have HB:=n3_
      clear n0_ n1_ n2_ n3_
      refine start_ (n:=5) (S:=fun w'=>w'.cell? ⟨gb219,0,none⟩=some (.int .i64 t215)∧w'.cell? ⟨gb219,1,none⟩=some (.slice Ao24 t216.length co24)∧w'.cell? ⟨gb207,0,none⟩=some (.int .i64 a0_0)∧w'.cell? ⟨gb207,1,none⟩=some (.slice A0_1 l0_1.length c0_1)) (ds:=[]) #[F,F,F,F,F] (by kernel_rfl) rfl rfl ⟨(zz9 BK219.out 0).trans rfl,(zz9 BK219.out 1).trans rfl,(zz9 BK207.out 0).trans rfl,(zz9 BK207.out 1).trans rfl⟩ (fun hHeld=>?_)
      generalize wc.drew=w35 at HO_220001 BK207 BK219 HB hHeld ⊢
      refine take_ (i:=0) (N:=some 35) (v:=?_) (a':=?_) #[T,F,F,F,F] rfl rfl (by kernel_rfl) (fun _ _ _ h=>h) (Or.inl ⟨by rfl,?_⟩) hHeld ?_ ?_
      rotate_left
      ·rintro w' ⟨s0,s1,s2,s3⟩
       go_simp
       with_reducible rfl
      rotate_left
      ·simp only [Act.put,zz21,zz22,zz23,i64_w,i32_w]
       rfl
      refine take_ (i:=1) (N:=some 36) (v:=?_) (a':=?_) #[T,T,F,F,F] rfl rfl (by kernel_rfl) (fun _ _ _ h=>h) (Or.inl ⟨by rfl,?_⟩) hHeld ?_ ?_
      rotate_left
      ·rintro w' ⟨s0,s1,s2,s3⟩
       go_simp
       with_reducible rfl
      rotate_left
      ·simp only [Act.put,zz21,zz22,zz23,i64_w,i32_w]
       rfl
      refine one_ (i:=2) (N:=some 37) #[T,T,T,F,F] rfl rfl (by kernel_rfl) (by decide) (fun K hK=>?_)
      refine goes_ Tryd.func7 (by kernel_rfl) rfl #[.agg #[.int .i64 a0_0,.slice A0_1 l0_1.length c0_1]] (by rfl) rfl rfl (by (try simp only [zz26,zz27,zz28]);first | done | rfl | (simp only [zz24,zz25];rfl)) ?_
      with_reducible refine (laws_toParty.calls kj10 a0_0 _ _ l0_1 t222 t223 _ ?side1 ?side2 A28.out).mono ?_
      (case side1=>repeat (first | exact (Kd.C_below HR0_1.out HB.out) | (with_reducible refine zz18 ?_ _) | (with_reducible refine zz19 ?_ _) | (with_reducible refine zz20 ?_)))
      (case side2=>exact HC0_1.out)
      rintro e w36 ⟨v224,rfl,ho0,hb⟩
      refine ⟨_,rfl,?_⟩
      have n0_:=zz31 (Kd.R_elder' (by (with_reducible repeat (first | apply zz12 | apply zz13 | apply zz14));exact HO_220001.out) (Kd.R_base ho0) hb)
      have n1_:=zz31 (Kd.R_lower (Kd.R_new' ho0 (Kd.R_lt (by (with_reducible repeat (first | apply zz12 | apply zz13 | apply zz14));exact HO_220001.out))) (zz5 (by repeat first | exact HB.out | apply zz2 | apply zz0 | apply zz1 | refine zz3 ?_ GE207.out | refine zz3 ?_ GE219.out)))
      have n2_:=zz31 (zz11 (g:=gb207) (o:=.cells #[.int .i64 a0_0,.slice A0_1 l0_1.length c0_1] 24 (0,0)) (by (with_reducible repeat (first | refine zz6 ?_ _ | refine zz7 ?_ | refine zz8 ?_ _));exact BK207.out) hb)
      have n3_:=zz31 (zz11 (g:=gb219) (o:=.cells #[.int .i64 t215,.slice Ao24 t216.length co24] 30 (0,0)) (by (with_reducible repeat (first | refine zz6 ?_ _ | refine zz7 ?_ | refine zz8 ?_ _));exact BK219.out) hb)
      have n4_:=zz31 (zz4 (by repeat first | exact HB.out | apply zz2 | apply zz0 | apply zz1 | refine zz3 ?_ GE207.out | refine zz3 ?_ GE219.out) hb)
      clear HO_220001
      clear BK207
      clear BK219
      clear HB
      have HO_220001:=n0_
      have HO225:=n1_
      have BK207:=n2_
      have BK219:=n3_
      have HB:=n4_
      clear n0_ n1_ n2_ n3_ n4_
      (try clear hb)
      (try clear hb2)
      (try clear hk)
      (try clear hi)
      (try clear ho0)
      obtain ⟨Ao37,co37,eo37⟩:=Kd.R_slice HO225.out
      (first | subst eo37 | (injection eo37 with f1_ f2_ f3_;have f4_:=f1_.symm;have f5_:=f3_.symm;clear f1_ f2_ f3_;subst f4_;subst f5_))
      refine hK.out _ _ ⟨(zz9 BK219.out 0).trans rfl,(zz9 BK219.out 1).trans rfl,(zz9 BK207.out 0).trans rfl,(zz9 BK207.out 1).trans rfl⟩ (fun hHeld=>?_)
      clear hK K
      refine norm_ (a':=?_) ?_ ?_
      rotate_left
      ·show Act.put _ (some 37) _=_
       simp only [Act.put,zz21,zz22,zz23,i64_w,i32_w]
       rfl
      refine one_ (i:=3) (N:=some 38) #[T,T,T,T,F] rfl rfl (by kernel_rfl) (by decide) (fun K hK=>?_)
      refine goes_ Tryd.func9 (by kernel_rfl) rfl #[.agg #[.int .i64 t215,.slice Ao24 t216.length co24],.agg #[.int .i64 t222,.slice Ao37 t223.length co37]] (by rfl) rfl rfl (by (try simp only [zz26,zz27,zz28]);first | done | rfl | (simp only [zz24,zz25];rfl)) ?_
      with_reducible refine (laws_eqParty.calls kj10 t215 _ _ t216 t222 _ _ t223 false _ ?side1 ?side2 ?side3 ?side4 A29.out).mono ?_
      (case side1=>repeat (first | exact (Kd.R_reads' HO_220001.out).2.2 | (with_reducible refine zz18 ?_ _) | (with_reducible refine zz19 ?_ _) | (with_reducible refine zz20 ?_)))
      (case side2=>exact (Kd.R_reads' HO_220001.out).2.1)
      (case side3=>repeat (first | exact (Kd.R_reads' HO225.out).2.2 | (with_reducible refine zz18 ?_ _) | (with_reducible refine zz19 ?_ _) | (with_reducible refine zz20 ?_)))
      (case side4=>exact (Kd.R_reads' HO225.out).2.1)
      rintro e w38 ⟨rfl,hb⟩
      refine ⟨_,rfl,?_⟩
      have n0_:=zz31 (Kd.R_below (by (with_reducible repeat (first | apply zz12 | apply zz13 | apply zz14));exact HO_220001.out) hb)
      have n1_:=zz31 (Kd.R_below (by (with_reducible repeat (first | apply zz12 | apply zz13 | apply zz14));exact HO225.out) hb)
      have n2_:=zz31 (zz11 (g:=gb207) (o:=.cells #[.int .i64 a0_0,.slice A0_1 l0_1.length c0_1] 24 (0,0)) (by (with_reducible repeat (first | refine zz6 ?_ _ | refine zz7 ?_ | refine zz8 ?_ _));exact BK207.out) hb)
      have n3_:=zz31 (zz11 (g:=gb219) (o:=.cells #[.int .i64 t215,.slice Ao24 t216.length co24] 30 (0,0)) (by (with_reducible repeat (first | refine zz6 ?_ _ | refine zz7 ?_ | refine zz8 ?_ _));exact BK219.out) hb)
      have n4_:=zz31 (zz4 (by repeat first | exact HB.out | apply zz2 | apply zz0 | apply zz1 | refine zz3 ?_ GE207.out | refine zz3 ?_ GE219.out) hb)
      clear HO_220001
      clear HO225
      clear BK207
      clear BK219
      clear HB
      have HO_220001:=n0_
      have HO225:=n1_
      have BK207:=n2_
      have BK219:=n3_
      have HB:=n4_
      clear n0_ n1_ n2_ n3_ n4_
      (try clear hb)
      (try clear hb2)
      (try clear hk)
      (try clear hi)
      refine hK.out _ _ ⟨(zz9 BK219.out 0).trans rfl,(zz9 BK219.out 1).trans rfl,(zz9 BK207.out 0).trans rfl,(zz9 BK207.out 1).trans rfl⟩ (fun hHeld=>?_)
      clear hK K
      refine norm_ (a':=?_) ?_ ?_
      rotate_left
      ·show Act.put _ (some 38) _=_
       simp only [Act.put,zz21,zz22,zz23,i64_w,i32_w]
       rfl
      refine pure_ (i:=4) (N:=some 39) (v:=?_) (a':=?_) #[T,T,T,T,T] rfl rfl (by kernel_rfl) (fun _ _ _ h=>h) (Or.inl ⟨by rfl,?_⟩) ?_ ?_
      rotate_left
      ·intro w'
       go_simp
       with_reducible rfl
      rotate_left
      ·simp only [Act.put,zz21,zz22,zz23,i64_w,i32_w]
       rfl
      refine done_ (by kernel_rfl) ?_
      try go_wp2
      go_ret
      exact ⟨by first | rfl | (simp [errW_none,errW_some] <;> rfl) | (simp [*,errW_none,errW_some] <;> rfl),by repeat first | exact HB.out | apply zz2 | apply zz0 | apply zz1 | refine zz3 ?_ GE207.out | refine zz3 ?_ GE219.out⟩

end Go.Proofs.YtoedkkoafidalaaDoor.P
