-- PRINTED by print.py (a twelfth state) out of the translation. Not trusted: Lean checks it.
import Derived.Test.YtiopgbpjkjnphaaPx0
import Derived.Test.YtiopgbpjkjnphaaPx7
import Derived.Test.YtiopgbpjkjnphaaPx8
namespace Go.Proofs.Ytiopgbpjkjnphaa.P
open Go.RowKit Go.Proofs.YtiopgbpjkjnphaaW.PrintWords Go.Proofs.YtiopgbpjkjnphaaW.PrintLast Go.Proofs.YtiopgbpjkjnphaaW.PrintMore
open Bool renaming true → T, false → F
attribute [local go_sem] max2_int min2_int max_two min_two max_three min_three max_four min_four   -- for this text's walks alone
set_option linter.unusedVariables false
set_option linter.unusedSimpArgs false

/-! ### spec_paOther: function 55 -/
mutual
def spec_paOther.l0:Nat→List (List Bool)→Int→Int→Option (Int × (List (S61)))
 | 0,_,_,_=>none
 | k+1,x3,x9,x10=>if x10 < x9 then (spec_paOther.l1 k x3 x10 x9 x10 (x3.length:Int) 0) else ((spec_paOf.f k x3).bind fun bt205=>(some (bt205.1,bt205.2)))
def spec_paOther.l1:Nat→List (List Bool)→Int→Int→Int→Int→Int→Option (Int × (List (S61)))
 | 0,_,_,_,_,_,_=>none
 | k+1,x3,x4,x9,x10,x14,x15=>if x15 < x14 then (if 0≤x4 then (if x4 < (x3.length:Int) then (if 0≤x15 then (if x15 < ((rd_L4 x3 x4).length:Int) then (spec_paOther.l1 k (x3.set (x4:Int).toNat ((rd_L4 x3 x4).set (x15:Int).toNat (!(rdOf false (rd_L4 x3 x4) x15)))) x4 x9 x10 x14 (wrap64 (x15+1))) else (none)) else (none)) else (none)) else (none)) else (spec_paOther.l0 k x3 x9 (wrap64 (x10+1)))
end
def spec_paOther.f (k:Nat) (a0_0:Int) (l0_1:List (S61)):Option (Int × (List (S61))):=(spec_paTable.f k a0_0 l0_1).bind fun t202=>(spec_paOther.l0 k t202 (t202.length:Int) 0)
theorem spec_paOther.mono_l:∀ k,(∀ y0 y1 y2,LeO (spec_paOther.l0 k y0 y1 y2) (spec_paOther.l0 (k+1) y0 y1 y2))∧(∀ y0 y1 y2 y3 y4 y5,LeO (spec_paOther.l1 k y0 y1 y2 y3 y4 y5) (spec_paOther.l1 (k+1) y0 y1 y2 y3 y4 y5))
 | 0=>⟨fun _ _ _ r h=>by simp [spec_paOther.l0] at h,fun _ _ _ _ _ _ r h=>by simp [spec_paOther.l1] at h⟩
 | k+1=>by
  obtain ⟨ih0,ih1⟩:=spec_paOther.mono_l k
  refine ⟨?_,?_⟩
  ·intro y0 y1 y2
   unfold spec_paOther.l0
   repeat' first
   | (with_reducible exact ih0 _ _ _)
   | (with_reducible exact ih1 _ _ _ _ _ _)
   | (with_reducible exact spec_paOf.mono _ _)
   | (with_reducible exact spec_paTable.mono _ _ _)
   | (with_reducible exact LeO.refl _)
   | (with_reducible exact LeO.none _)
   | (with_reducible refine LeO.ite ?_ ?_)
   | (with_reducible refine LeO.bind ?_ (fun _=>?_))
   | exact ih0 _ _ _
   | exact ih1 _ _ _ _ _ _
   | exact spec_paOf.mono _ _
   | exact spec_paTable.mono _ _ _
   | exact LeO.none _
   | refine LeO.ite ?_ ?_
   | refine LeO.bind ?_ (fun _=>?_)
  ·intro y0 y1 y2 y3 y4 y5
   unfold spec_paOther.l1
   repeat' first
   | (with_reducible exact ih0 _ _ _)
   | (with_reducible exact ih1 _ _ _ _ _ _)
   | (with_reducible exact spec_paOf.mono _ _)
   | (with_reducible exact spec_paTable.mono _ _ _)
   | (with_reducible exact LeO.refl _)
   | (with_reducible exact LeO.none _)
   | (with_reducible refine LeO.ite ?_ ?_)
   | (with_reducible refine LeO.bind ?_ (fun _=>?_))
   | exact ih0 _ _ _
   | exact ih1 _ _ _ _ _ _
   | exact spec_paOf.mono _ _
   | exact spec_paTable.mono _ _ _
   | exact LeO.none _
   | refine LeO.ite ?_ ?_
   | refine LeO.bind ?_ (fun _=>?_)
theorem spec_paOther.mono:∀ a0 a1 k,LeO (spec_paOther.f k a0 a1) (spec_paOther.f (k+1) a0 a1):=by
 intro a0 a1 k
 obtain ⟨ih0,ih1⟩:=spec_paOther.mono_l k
 unfold spec_paOther.f
 repeat' first
   | (with_reducible exact ih0 _ _ _)
   | (with_reducible exact ih1 _ _ _ _ _ _)
   | (with_reducible exact spec_paOf.mono _ _)
   | (with_reducible exact spec_paTable.mono _ _ _)
   | (with_reducible exact LeO.refl _)
   | (with_reducible exact LeO.none _)
   | (with_reducible refine LeO.ite ?_ ?_)
   | (with_reducible refine LeO.bind ?_ (fun _=>?_))
   | exact ih0 _ _ _
   | exact ih1 _ _ _ _ _ _
   | exact spec_paOf.mono _ _
   | exact spec_paTable.mono _ _ _
   | exact LeO.none _
   | refine LeO.ite ?_ ?_
   | refine LeO.bind ?_ (fun _=>?_)
def spec_paOther.T8:Bool × List (List Nat × List Nat):=(true,[([],[]),([],[]),([0,1],[0,1]),([2],[2]),([],[]),([],[]),([],[]),([5,6],[5,6]),([7],[7]),([],[]),([8,9],[8,9]),([10],[10]),([11],[11]),([3,4,0,1,2,3,4,5,6,7,8,9,10,11,12],[3,4]),([13,12,0,1,2,3,4,5,6,7,8,9,10,11,12],[12,13])])
def spec_paOther.B8:List Nat:=[0,0,3,7,0,0,0,96,224,0,992,2016,4064,8191,16383]
theorem spec_paOther.tab8:rtab .any (opsOf Try.f55 8)=spec_paOther.T8:=by kernel_rfl
theorem spec_paOther.bits8:waitsOk spec_paOther.T8.2 spec_paOther.B8=true:=by kernel_rfl
set_option maxHeartbeats 8000000 in
set_option maxRecDepth 100000 in
theorem spec_paOther.calls (k:Nat) (a0_0:Int) (A0_1:Option Addr) (c0_1:Nat) (l0_1:List (S61)) (r1:Int) (r2:List (S61)) (w:World) (hr0_1:Kd.C k61 w A0_1 l0_1.length l0_1) (hc0_1:l0_1.length≤c0_1) (h:spec_paOther.f k a0_0 l0_1=some (r1,r2)) :
  Calls Try.prog 55 #[.agg #[.int .i64 a0_0,.slice A0_1 l0_1.length c0_1]] w fun e w'=>∃ v1_:Value,e=.returned (.agg #[.int .i64 r1,v1_])∧Kd.R k61 61 w' w.heap.size (fun _=>True) v1_ r2∧Below w.heap.size w w':=by
 have hu29:=Try.underlying29
 have HR0_1:=Aside0.mk hr0_1
 have HC0_1:=Aside0.mk hc0_1
 clear hr0_1 hc0_1
 have HB:=Aside0.mk (Below.refl w.heap.size w)
 have H:((spec_paTable.f k a0_0 l0_1).bind fun t202=>(spec_paOther.l0 k t202 (t202.length:Int) 0))=some (r1,r2):=h
 clear h
 replace H:=zz30.mp H
 obtain ⟨t202,A20,H⟩:=H
 replace H:(spec_paOther.l0 k t202 (t202.length:Int) 0)=some (r1,r2):=H
 have A2:=Aside0.mk A20
 clear A20
 have H':=Aside0.mk H
 clear H
 go_enter Try.func55,Try.ntmps55
 go_wp2_with (first | ((with_reducible refine gate_dst (N:=1) rfl ?_);refine box_event ?hg (N:=1) ?hd (cs:=#[.int .i64 a0_0,.slice A0_1 l0_1.length c0_1]) (t:=29) ?hr ?_;(case hd=>rfl);(case hg=>rfl);(case hr=>first | (go_simp;done) | (go_simp;rfl));intro gb200 hg w3 hbox hb;have n0_:=Aside0.mk (zz4 (by repeat first | exact HB.out | apply zz2 | apply zz0 | apply zz1) hb);have n1_:=Aside0.mk (hbox);have n2_:=Aside0.mk ((by rw [hg];exact (zz5 (by repeat first | exact HB.out | apply zz2 | apply zz0 | apply zz1)):w.heap.size≤gb200));have n3_:=Aside0.mk ((by rw [hg];exact (zz5 (by repeat first | exact HB.out | apply zz2 | apply zz0 | apply zz1)):w.heap.size≤gb200));clear HB;have HB:=n0_;have BK200:=n1_;have GW200:=n2_;have GE200:=n3_;clear n0_ n1_ n2_ n3_;clear hb hbox hg) | ((with_reducible refine gate_dst (N:=2) rfl ?_);refine box_event ?hg (N:=2) ?hd (cs:=#[.int .i64 0,.slice none 0 0]) (t:=29) ?hr ?_;(case hd=>rfl);(case hg=>rfl);(case hr=>first | (go_simp;done) | (go_simp;rfl));intro gb201 hg w4 hbox hb;have n0_:=Aside0.mk (zz11 (g:=gb200) (o:=.cells #[.int .i64 a0_0,.slice A0_1 l0_1.length c0_1] 29 (0,0)) (by (with_reducible repeat (first | refine zz6 ?_ _ | refine zz7 ?_ | refine zz8 ?_ _));exact BK200.out) hb);have n1_:=Aside0.mk (zz4 (by repeat first | exact HB.out | apply zz2 | apply zz0 | apply zz1 | refine zz3 ?_ GE200.out) hb);have n2_:=Aside0.mk (hbox);have n3_:=Aside0.mk ((by rw [hg];exact (zz5 (by repeat first | exact HB.out | apply zz2 | apply zz0 | apply zz1 | refine zz3 ?_ GE200.out)):w.heap.size≤gb201));have n4_:=Aside0.mk ((by rw [hg];exact (zz5 (by repeat first | exact HB.out | apply zz2 | apply zz0 | apply zz1 | refine zz3 ?_ GE200.out)):w.heap.size≤gb201));have n5_:=Aside0.mk ((by rw [hg];exact Nat.ne_of_lt (blk_lt (g:=gb200) (o:=.cells #[.int .i64 a0_0,.slice A0_1 l0_1.length c0_1] 29 (0,0)) (by (with_reducible repeat (first | refine zz6 ?_ _ | refine zz7 ?_ | refine zz8 ?_ _));exact BK200.out)):gb200 ≠ gb201));have n6_:=Aside0.mk ((by rw [hg];exact Nat.ne_of_gt (blk_lt (g:=gb200) (o:=.cells #[.int .i64 a0_0,.slice A0_1 l0_1.length c0_1] 29 (0,0)) (by (with_reducible repeat (first | refine zz6 ?_ _ | refine zz7 ?_ | refine zz8 ?_ _));exact BK200.out)):gb201 ≠ gb200));clear BK200;clear HB;have BK200:=n0_;have HB:=n1_;have BK201:=n2_;have GW201:=n3_;have GE201:=n4_;have NB200_201:=n5_;have NB201_200:=n6_;clear n0_ n1_ n2_ n3_ n4_ n5_ n6_;clear hb hbox hg;have hnb5:=NB200_201.out;have hnc5:=NB201_200.out;have hcz6_0:w4.cell? ⟨gb200,0,none⟩=some (.int .i64 a0_0):=(zz9 BK200.out 0).trans rfl;have hcz6_1:w4.cell? ⟨gb200,1,none⟩=some (.slice A0_1 l0_1.length c0_1):=(zz9 BK200.out 1).trans rfl;have hfz6_0:=zz10 BK200.out 0;have hfz6_1:=zz10 BK200.out 1) | ((with_reducible refine gate_callee (f:=64) rfl ?_);refine goesL_ (some 7) rfl rfl Try.func64 (by kernel_rfl) rfl #[.agg #[.int .i64 a0_0,.slice A0_1 l0_1.length c0_1]] rfl (by (try simp only [zz26,zz27,zz28]);first | done | rfl | (simp only [zz24,zz25];rfl) | (simp only [zz25];congr;(try simp only [decide_eq_true_eq] at *);omega)) ?_;(with_reducible refine (spec_paTable.calls k a0_0 _ _ l0_1 t202 _ ?side1 ?side2 A2.out).mono ?_);(case side1=>repeat (first | exact (Kd.C_below HR0_1.out HB.out) | (with_reducible refine zz18 ?_ _) | (with_reducible refine zz19 ?_ _) | (with_reducible refine zz20 ?_)));(case side2=>exact HC0_1.out);rintro e w7 ⟨v203,rfl,ho0,hb⟩;refine ⟨_,rfl,?_⟩;have n0_:=Aside0.mk (Kd.S_lower ho0 (zz5 (by repeat first | exact HB.out | apply zz2 | apply zz0 | apply zz1 | refine zz3 ?_ GE200.out | refine zz3 ?_ GE201.out)));have n1_:=Aside0.mk (zz11 (g:=gb200) (o:=.cells #[.int .i64 a0_0,.slice A0_1 l0_1.length c0_1] 29 (0,0)) (by (with_reducible repeat (first | refine zz6 ?_ _ | refine zz7 ?_ | refine zz8 ?_ _));exact BK200.out) hb);have n2_:=Aside0.mk (zz11 (g:=gb201) (o:=.cells #[.int .i64 0,.slice none 0 0] 29 (0,0)) (by (with_reducible repeat (first | refine zz6 ?_ _ | refine zz7 ?_ | refine zz8 ?_ _));exact BK201.out) hb);have n3_:=Aside0.mk (zz4 (by repeat first | exact HB.out | apply zz2 | apply zz0 | apply zz1 | refine zz3 ?_ GE200.out | refine zz3 ?_ GE201.out) hb);clear BK200;clear BK201;clear HB;have HO204:=n0_;have BK200:=n1_;have BK201:=n2_;have HB:=n3_;clear n0_ n1_ n2_ n3_;(try clear hb);(try clear hb2);(try clear hk);(try clear hi);(try clear ho0);obtain ⟨Ao8,co8,eo8⟩:=Kd.S_slice HO204.out;subst eo8))
 go_loopg [10] k (fun kq v10 w'=>∃ (x3_1:List (List Bool)) (x10_1:Int),v10=.int .i64 x10_1∧Aside0 (spec_paOther.l0 kq x3_1 (t202.length:Int) x10_1=some (r1,r2))∧Aside0 (kq≤k)∧Aside0 (Kd.S (Kd.slice 4 Kd.bool) 74 w' w.heap.size (fun _=>True) (.slice Ao8 t202.length co8) x3_1)∧Aside0 (w'.heap[gb200]?=some (.cells #[.int .i64 a0_0,(.slice A0_1 l0_1.length c0_1)] 29 (0,0)))∧Aside0 (w'.heap[gb201]?=some (.cells #[.int .i64 0,(.slice none 0 0)] 29 (0,0)))∧Aside0 (Below w.heap.size w w'))
 case atStart=>exact ⟨(t202),(0),(by first | rfl | (simp;done) | (simp [*];done)),H',⟨Nat.le_refl _⟩,⟨by (with_reducible repeat (first | apply zz15 | apply zz16 | apply zz17));exact HO204.out⟩,⟨by (with_reducible repeat (first | refine zz6 ?_ _ | refine zz7 ?_ | refine zz8 ?_ _));exact BK200.out⟩,⟨by (with_reducible repeat (first | refine zz6 ?_ _ | refine zz7 ?_ | refine zz8 ?_ _));exact BK201.out⟩,⟨by repeat first | exact HB.out | apply zz2 | apply zz0 | apply zz1 | refine zz3 ?_ GE200.out | refine zz3 ?_ GE201.out⟩⟩
 case round =>
  clear H'
  try clear p2
  try clear c5
  try clear c6
  try clear hcz6_0
  try clear hcz6_1
  try clear hfz6_0
  try clear hfz6_1
  obtain ⟨x3_1,x10_1,rfl,HA,HK1,HO_3,BK200,BK201,HB⟩:=hrel
  have hl3_1:=(Kd.S_reads' HO_3.out).1
  rw [hl3_1] at HO_3
  (try simp only [hl3_1])
  (try simp only [hl3_1] at BK200)
  (try simp only [hl3_1] at BK201)
  cases gk with
  | zero=>exact absurd HA.out (by simp [spec_paOther.l0])
  | succ k1 =>
   have H:=HA.out
   clear HA
   simp only [spec_paOther.l0] at H
   by_cases c9:x10_1 < (t202.length:Int)
   ·rw [if_pos c9] at H
    have c9b0:decide (x10_1 < (t202.length:Int))=true:=decide_eq_true c9
    (try simp only [hl3_1] at c9b0)
    clear c9
    have H':=Aside0.mk H
    clear H
    go_wp2
    go_loopg [15] k1 (fun kq v15 w'=>∃ (x3_2:List (List Bool)) (x15_2:Int),v15=.int .i64 x15_2∧Aside0 (spec_paOther.l1 kq x3_2 x10_1 (t202.length:Int) x10_1 (x3_1.length:Int) x15_2=some (r1,r2))∧Aside0 (kq≤k1)∧Aside0 (Kd.S (Kd.slice 4 Kd.bool) 74 w' w.heap.size (fun _=>True) (.slice Ao8 x3_1.length co8) x3_2)∧Aside0 (w'.heap[gb200]?=some (.cells #[.int .i64 a0_0,(.slice A0_1 l0_1.length c0_1)] 29 (0,0)))∧Aside0 (w'.heap[gb201]?=some (.cells #[.int .i64 0,(.slice none 0 0)] 29 (0,0)))∧Aside0 (Below w.heap.size w w'))
    case atStart=>exact ⟨(x3_1),(0),(by first | rfl | (simp;done) | (simp [*];done)),H',⟨Nat.le_refl _⟩,⟨by (try simp only [hl3_1]);(with_reducible repeat (first | apply zz15 | apply zz16 | apply zz17));exact HO_3.out⟩,⟨by (try simp only [hl3_1]);(with_reducible repeat (first | refine zz6 ?_ _ | refine zz7 ?_ | refine zz8 ?_ _));exact BK200.out⟩,⟨by (try simp only [hl3_1]);(with_reducible repeat (first | refine zz6 ?_ _ | refine zz7 ?_ | refine zz8 ?_ _));exact BK201.out⟩,⟨by repeat first | exact HB.out | apply zz2 | apply zz0 | apply zz1 | refine zz3 ?_ GE200.out | refine zz3 ?_ GE201.out⟩⟩
    case round =>
     clear H'
     try clear p2
     try clear c5
     try clear c6
     try clear c9
     try clear c9b0
     try clear hcz6_0
     try clear hcz6_1
     try clear hfz6_0
     try clear hfz6_1
     try clear p2
     obtain ⟨x3_2,x15_2,rfl,HA,HK2,HO_3,BK200,BK201,HB⟩:=hrel
     have hl3_2:=(Kd.S_reads' HO_3.out).1
     rw [hl3_2] at HO_3
     (try simp only [hl3_2])
     (try simp only [hl3_2] at BK200)
     (try simp only [hl3_2] at BK201)
     cases gk with
     | zero=>exact absurd HA.out (by simp [spec_paOther.l1])
     | succ k2 =>
      have H:=HA.out
      clear HA
      simp only [spec_paOther.l1] at H
      by_cases c10:x15_2 < (x3_1.length:Int)
      ·rw [if_pos c10] at H
       have c10b0:decide (x15_2 < (x3_1.length:Int))=true:=decide_eq_true c10
       (try simp only [hl3_1] at c10b0)
       (try simp only [hl3_2] at c10b0)
       clear c10
       by_cases c11:0≤x10_1
       ·rw [if_pos c11] at H
        have c11b0:decide (0≤x10_1)=true:=decide_eq_true c11
        clear c11
        by_cases c12:x10_1 < (x3_2.length:Int)
        ·rw [if_pos c12] at H
         have c12b0:decide (x10_1 < (x3_2.length:Int))=true:=decide_eq_true c12
         (try simp only [hl3_1] at c12b0)
         (try simp only [hl3_2] at c12b0)
         clear c12
         by_cases c13:0≤x15_2
         ·rw [if_pos c13] at H
          have c13b0:decide (0≤x15_2)=true:=decide_eq_true c13
          clear c13
          by_cases c14:x15_2 < ((rd_L4 x3_2 x10_1).length:Int)
          ·rw [if_pos c14] at H
           have c14b0:decide (x15_2 < ((rd_L4 x3_2 x10_1).length:Int))=true:=decide_eq_true c14
           (try simp only [hl3_1] at c14b0)
           (try simp only [hl3_2] at c14b0)
           clear c14
           obtain ⟨y212,hy212⟩:∃ y_:List Bool,y_=((rd_L4 x3_2 x10_1).set (x15_2:Int).toNat (!(rdOf false (rd_L4 x3_2 x10_1) x15_2))):=⟨_,rfl⟩
           replace H:(spec_paOther.l1 k2 (x3_2.set (x10_1:Int).toNat y212) x10_1 (t202.length:Int) x10_1 (x3_1.length:Int) (wrap64 (x15_2+1)))=some (r1,r2):=by first | (rw [hy212];with_reducible exact H) | (have H2_:=(Option.bind_some _ _).symm.trans H;rw [hy212];with_reducible exact H2_) | (have H2_:=(Option.bind_some _ _).symm.trans H;with_reducible exact H2_) | with_reducible exact H | (rw [hy212];exact H) | exact H
           have Ny212:=Aside0.mk hy212
           clear hy212
           obtain ⟨y214,hy214⟩:∃ y_:List (List Bool),y_=(x3_2.set (x10_1:Int).toNat y212):=⟨_,rfl⟩
           replace H:(spec_paOther.l1 k2 y214 x10_1 (t202.length:Int) x10_1 (x3_1.length:Int) (wrap64 (x15_2+1)))=some (r1,r2):=by first | (rw [hy214];with_reducible exact H) | (have H2_:=(Option.bind_some _ _).symm.trans H;rw [hy214];with_reducible exact H2_) | (have H2_:=(Option.bind_some _ _).symm.trans H;with_reducible exact H2_) | with_reducible exact H | (rw [hy214];exact H) | exact H
           have Ny214:=Aside0.mk hy214
           clear hy214
           have H':=Aside0.mk H
           clear H
           try go_wp2
           have n0_:=Aside0.mk (zz17 HO_3.out)
           have n1_:=Aside0.mk (zz7 BK200.out)
           have n2_:=Aside0.mk (zz7 BK201.out)
           have n3_:=Aside0.mk (zz1 HB.out)
           clear HO_3
           clear BK200
           clear BK201
           clear HB
           have HO_3:=n0_
           have BK200:=n1_
           have BK201:=n2_
           have HB:=n3_
           clear n0_ n1_ n2_ n3_
           have p209:0≤(x10_1:Int):=zz29 (by first | (with_reducible assumption) | assumption)
           have q209:x10_1 < (x3_2.length:Int):=zz29 (by first | (with_reducible assumption) | assumption)
           obtain ⟨ad209,A209_0,c209_0,e209,hx209_0,hl209_0,hi209_0⟩:=at_L4 (Kd.S_reads' HO_3.out).2.2 x10_1 p209 q209
           cases e209
           obtain ⟨ce209,hce209,hMe209,hcc209⟩:=Kd.S_get HO_3.out [] x10_1 p209 (by first | exact q209 | exact zz29 (by first | (with_reducible assumption) | assumption) | (have e_:=(Kd.S_reads' HO_3.out).1;omega))
           obtain ⟨ve209_0,rfl,ge209_0⟩:=hMe209
           have hv209_0:=hcc209 0 _ rfl
           rw [Nat.add_zero,show ((Kd.slice 4 Kd.bool)).sz=1 from rfl,Nat.mul_one] at hv209_0
           replace hv209_0:=Option.some.inj (hv209_0.symm.trans hx209_0)
           rw [hv209_0] at ge209_0
           have HL209_0:=Aside0.mk (show Kd.R Kd.bool 4 _ _ _ _ (rd_L4 x3_2 x10_1) from ge209_0)
           clear hv209_0 ge209_0
           have HX209_0:=Aside0.mk hx209_0
           clear hcc209 hce209
           have HR209_0:=Aside0.mk hi209_0
           have HC209_0:=Aside0.mk hl209_0
           clear hi209_0 hl209_0
           replace p209:=eq_true p209
           replace q209:=eq_true q209
           have p210:0≤(x10_1:Int):=zz29 (by first | (with_reducible assumption) | assumption)
           have q210:x10_1 < (x3_2.length:Int):=zz29 (by first | (with_reducible assumption) | assumption)
           obtain ⟨ad210,A210_0,c210_0,e210,hx210_0,hl210_0,hi210_0⟩:=at_L4 (Kd.S_reads' HO_3.out).2.2 x10_1 p210 q210
           obtain rfl:ad209=ad210:=(by injection e210)
           obtain ⟨ce210,hce210,hMe210,hcc210⟩:=Kd.S_get HO_3.out [] x10_1 p210 (by first | exact q210 | exact zz29 (by first | (with_reducible assumption) | assumption) | (have e_:=(Kd.S_reads' HO_3.out).1;omega))
           obtain ⟨ve210_0,rfl,ge210_0⟩:=hMe210
           have hv210_0:=hcc210 0 _ rfl
           rw [Nat.add_zero,show ((Kd.slice 4 Kd.bool)).sz=1 from rfl,Nat.mul_one] at hv210_0
           replace hv210_0:=Option.some.inj (hv210_0.symm.trans hx210_0)
           rw [hv210_0] at ge210_0
           have HL210_0:=Aside0.mk (show Kd.R Kd.bool 4 _ _ _ _ (rd_L4 x3_2 x10_1) from ge210_0)
           clear hv210_0 ge210_0
           have HX210_0:=Aside0.mk hx210_0
           clear hcc210 hce210
           have HR210_0:=Aside0.mk hi210_0
           have HC210_0:=Aside0.mk hl210_0
           clear hi210_0 hl210_0
           replace p210:=eq_true p210
           replace q210:=eq_true q210
           have ea_:=Option.some.inj (hx209_0.symm.trans hx210_0)
           injection ea_ with ea_ en_ ec_
           subst ea_
           subst ec_
           clear en_
           have p211:0≤(x15_2:Int):=zz29 (by first | (with_reducible assumption) | assumption)
           have q211:x15_2 < ((rd_L4 x3_2 x10_1).length:Int):=zz29 (by first | (with_reducible assumption) | assumption)
           obtain ⟨ad211,e211,hx211_0⟩:=Kd.at_bool (by repeat (first | (with_reducible exact HR210_0.out) | (with_reducible refine zz18 ?_ _) | (with_reducible refine zz19 ?_ _) | (with_reducible refine zz20 ?_) | exact HR210_0.out)) x15_2 p211 q211
           cases e211
           replace p211:=eq_true p211
           replace q211:=eq_true q211
           have p15:0≤(x15_2:Int):=zz29 (by first | (with_reducible assumption) | assumption)
           have q15:(x15_2:Int) < (((rd_L4 x3_2 x10_1).length:Int):Int):=zz29 (by first | (with_reducible assumption) | assumption)
           obtain ⟨go15,co15,eo15,gb15,gl15,cl15,HG15⟩:=Kd.R_form HL209_0.out (by omega)
           (first | cases eo15 | (injection eo15 with ea_ en_ ec_;(first | subst ea_ | (injection ea_ with ea_;subst ea_));subst ec_;clear en_))
           have GB15:=Aside0.mk gb15
           have GG15:=Aside0.mk HG15
           clear gb15 gl15 HG15
           (first | simp only [add_plain] at hx211_0 | skip)
           obtain ⟨hx15_0,hf15_0⟩:=Kd.R_celln false HL209_0.out (x15_2:Int) p15 q15
           replace p15:=eq_true p15
           replace q15:=eq_true q15
           have hq17:(x10_1:Int) < (x3_2.length:Int):=(by have h_:(x10_1:Int) < ((x3_2.length:Int):Int):=zz29 (by first | (with_reducible assumption) | assumption);first | exact h_ | (have e_:=(Kd.S_reads' HO_3.out).1;omega) | simpa only [List.length_set,List.length_set] using h_)
           obtain ⟨oki17,ce17,hcl17,hM17,hcc17,hok17,hbk17⟩:=Kd.S_borrow HO_3.out [] (x10_1:Int) (zz29 (by first | (with_reducible assumption) | assumption)) (by first | exact hq17 | (have e_:=(Kd.S_reads' HO_3.out).1;omega))
           obtain ⟨ve17_0,rfl,ge17_0⟩:=hM17
           have hv17:=hcc17 0 _ rfl
           rw [Nat.add_zero,show ((Kd.slice 4 Kd.bool)).sz=1 from rfl,Nat.mul_one] at hv17
           replace hv17:=Option.some.inj (hv17.symm.trans HX209_0.out)
           subst hv17
           clear hcc17 hcl17
           replace ge17_0:=(show Kd.R Kd.bool 4 _ _ _ _ (rd_L4 x3_2 x10_1) from ge17_0)
           have HP17:=Kd.R_putg ge17_0 (x15_2:Int) (!(rdOf false (rd_L4 x3_2 x10_1) x15_2))
           rw [← Ny212.out] at HP17
           have HS17:=hbk17 HP17.2 (fun k_ e_=>by injection e_ with e_;subst e_;exact ge17_0.1 _ rfl) (x':=y212) (Kd.M_row HP17.1)
           rw [← Ny214.out] at HS17
           have HQ17:=Aside0.mk HS17
           clear HP17 HS17 hbk17 hok17
           refine start_ (n:=15) (S:=fun w'=>w'.cell? (ad209.add (x10_1).toNat)=some (.slice (some (⟨go15,0,none⟩:Addr)) (rd_L4 x3_2 x10_1).length c209_0)∧w'.cell? (ad209.add (x10_1).toNat)=some (.slice (some (⟨go15,0,none⟩:Addr)) (rd_L4 x3_2 x10_1).length c209_0)∧w'.cell? ⟨go15,(x15_2).toNat,none⟩=some (.bool (rdOf false (rd_L4 x3_2 x10_1) x15_2))) (ds:=[14]) #[F,F,F,F,F,F,F,F,F,F,F,F,F,F,F] (by kernel_rfl) rfl rfl ⟨hx209_0,hx210_0,hx211_0⟩ (fun hHeld=>?_);refine with_tabW spec_paOther.tab8 spec_paOther.bits8 (fun HT_ HW_=>?_)
           generalize wr.drew=w16 at HO_3 BK200 BK201 HB GG15 HL209_0 HL210_0 HQ17 HR209_0 HR210_0 HX209_0 HX210_0 hf15_0 hx15_0 hx209_0 hx210_0 hx211_0 hHeld ⊢
           refine pure_ (i:=0) (N:=some 18) (v:=?_) (a':=?_) #[T,F,F,F,F,F,F,F,F,F,F,F,F,F,F] rfl rfl (any_of HT_.out (by kernel_rfl)) (fun _ _ _ h=>h) (Or.inl ⟨by rfl,?_⟩) ?_ ?_
           rotate_left
           ·intro w'
            go_simp
            with_reducible rfl
           rotate_left
           ·simp only [Act.put,zz21,zz22,zz23,i64_w,i32_w]
            rfl
           refine pure_ (i:=1) (N:=some 19) (v:=?_) (a':=?_) #[T,T,F,F,F,F,F,F,F,F,F,F,F,F,F] rfl rfl (any_of HT_.out (by kernel_rfl)) (fun _ _ _ h=>h) (Or.inl ⟨by rfl,?_⟩) ?_ ?_
           rotate_left
           ·intro w'
            go_simp
            with_reducible rfl
           rotate_left
           ·simp only [Act.put,zz21,zz22,zz23,i64_w,i32_w]
            rfl
           refine pure_ (i:=2) (N:=some 20) (v:=?_) (a':=?_) #[T,T,T,F,F,F,F,F,F,F,F,F,F,F,F] rfl rfl (any_of HT_.out (by kernel_rfl)) (fun _ _ _ h=>h) (Or.inl ⟨by rfl,?_⟩) ?_ ?_
           rotate_left
           ·intro w'
            go_simp
            with_reducible rfl
           rotate_left
           ·simp only [Act.put,zz21,zz22,zz23,i64_w,i32_w]
            rfl
           refine pure_ (i:=4) (N:=some 22) (v:=?_) (a':=?_) #[T,T,T,F,T,F,F,F,F,F,F,F,F,F,F] rfl rfl (any_of HT_.out (by kernel_rfl)) (fun _ _ _ h=>h) (Or.inl ⟨by rfl,?_⟩) ?_ ?_
           rotate_left
           ·intro w'
            go_simp
            with_reducible rfl
           rotate_left
           ·simp only [Act.put,zz21,zz22,zz23,i64_w,i32_w]
            rfl
           refine pure_ (i:=5) (N:=some 23) (v:=?_) (a':=?_) #[T,T,T,F,T,T,F,F,F,F,F,F,F,F,F] rfl rfl (any_of HT_.out (by kernel_rfl)) (fun _ _ _ h=>h) (Or.inl ⟨by rfl,?_⟩) ?_ ?_
           rotate_left
           ·intro w'
            go_simp
            with_reducible rfl
           rotate_left
           ·simp only [Act.put,zz21,zz22,zz23,i64_w,i32_w]
            rfl
           refine pure_ (i:=6) (N:=some 24) (v:=?_) (a':=?_) #[T,T,T,F,T,T,T,F,F,F,F,F,F,F,F] rfl rfl (any_of HT_.out (by kernel_rfl)) (fun _ _ _ h=>h) (Or.inl ⟨by rfl,?_⟩) ?_ ?_
           rotate_left
           ·intro w'
            go_simp
            with_reducible rfl
           rotate_left
           ·simp only [Act.put,zz21,zz22,zz23,i64_w,i32_w]
            rfl
           refine pure_ (i:=7) (N:=some 25) (v:=?_) (a':=?_) #[T,T,T,F,T,T,T,T,F,F,F,F,F,F,F] rfl rfl (any_of HT_.out (by kernel_rfl)) (fun _ _ _ h=>h) (Or.inl ⟨by rfl,?_⟩) ?_ ?_
           rotate_left
           ·intro w'
            go_simp
            with_reducible rfl
           rotate_left
           ·simp only [Act.put,zz21,zz22,zz23,i64_w,i32_w]
            rfl
           refine pure_ (i:=9) (N:=some 27) (v:=?_) (a':=?_) #[T,T,T,F,T,T,T,T,F,T,F,F,F,F,F] rfl rfl (any_of HT_.out (by kernel_rfl)) (fun _ _ _ h=>h) (Or.inl ⟨by rfl,?_⟩) ?_ ?_
           rotate_left
           ·intro w'
            go_simp
            with_reducible rfl
           rotate_left
           ·simp only [Act.put,zz21,zz22,zz23,i64_w,i32_w]
            rfl
           refine take_ (i:=3) (N:=some 21) (v:=?_) (a':=?_) #[T,T,T,T,T,T,T,T,F,T,F,F,F,F,F] rfl rfl (take_ofW HT_.out HW_.out (by kernel_rfl)) (fun _ _ _ h=>h) (Or.inl ⟨by rfl,?_⟩) hHeld ?_ ?_
           rotate_left
           ·rintro w' ⟨s0,s1,s2⟩
            go_simp
            with_reducible rfl
           rotate_left
           ·simp only [Act.put,zz21,zz22,zz23,i64_w,i32_w]
            rfl
           refine take_ (i:=8) (N:=some 26) (v:=?_) (a':=?_) #[T,T,T,T,T,T,T,T,T,T,F,F,F,F,F] rfl rfl (take_ofW HT_.out HW_.out (by kernel_rfl)) (fun _ _ _ h=>h) (Or.inl ⟨by rfl,?_⟩) hHeld ?_ ?_
           rotate_left
           ·rintro w' ⟨s0,s1,s2⟩
            go_simp
            with_reducible rfl
           rotate_left
           ·simp only [Act.put,zz21,zz22,zz23,i64_w,i32_w]
            rfl
           refine pure_ (i:=10) (N:=some 28) (v:=?_) (a':=?_) #[T,T,T,T,T,T,T,T,T,T,T,F,F,F,F] rfl rfl (any_of HT_.out (by kernel_rfl)) (fun _ _ _ h=>h) (Or.inl ⟨by rfl,?_⟩) ?_ ?_
           rotate_left
           ·intro w'
            go_simp
            with_reducible rfl
           rotate_left
           ·simp only [Act.put,zz21,zz22,zz23,i64_w,i32_w]
            rfl
           refine take_ (i:=11) (N:=some 29) (v:=?_) (a':=?_) #[T,T,T,T,T,T,T,T,T,T,T,T,F,F,F] rfl rfl (take_ofW HT_.out HW_.out (by kernel_rfl)) (fun _ _ _ h=>h) (Or.inl ⟨by rfl,?_⟩) hHeld ?_ ?_
           rotate_left
           ·rintro w' ⟨s0,s1,s2⟩
            go_simp
            with_reducible rfl
           rotate_left
           ·simp only [Act.put,zz21,zz22,zz23,i64_w,i32_w]
            rfl
           refine pure_ (i:=12) (N:=some 30) (v:=?_) (a':=?_) #[T,T,T,T,T,T,T,T,T,T,T,T,T,F,F] rfl rfl (any_of HT_.out (by kernel_rfl)) (fun _ _ _ h=>h) (Or.inl ⟨by rfl,?_⟩) ?_ ?_
           rotate_left
           ·intro w'
            go_simp
            with_reducible rfl
           rotate_left
           ·simp only [Act.put,zz21,zz22,zz23,i64_w,i32_w]
            rfl
           refine pure_ (i:=13) (N:=some 31) (v:=?_) (a':=?_) #[T,T,T,T,T,T,T,T,T,T,T,T,T,T,F] rfl rfl (any_of HT_.out (by kernel_rfl)) (fun _ _ _ h=>h) (Or.inl ⟨by rfl,?_⟩) ?_ ?_
           rotate_left
           ·intro w'
            go_simp
            with_reducible rfl
           rotate_left
           ·simp only [Act.put,zz21,zz22,zz23,i64_w,i32_w]
            rfl
           refine last_ (i:=14) (N:=none) #[T,T,T,T,T,T,T,T,T,T,T,T,T,T,T] rfl rfl (one_of HT_.out (by kernel_rfl)) (by decide) (fun K hK=>?_)
           refine skip_ (w1:=?_) (by rfl) rfl ?_ ?_
           rotate_left
           ·go_simp
            rfl
           refine hK.out _ _ ?_
           clear hK K
           refine done_ (done_of HT_.out (by kernel_rfl)) ?_
           try go_wp2
           (try simp only [← hl3_2])
           go_roundg k2
           case measure=>have:=HK1.out;have:=HK2.out;omega
           case rel=>exact ⟨(y214),(wrap64 (x15_2+1)),(by first | rfl | (simp;done) | (simp [*];done)),H',⟨by have:=HK1.out;have:=HK2.out;omega⟩,⟨by (try simp only [hl3_1]);(try simp only [hl3_2]);(with_reducible repeat (first | apply zz15 | apply zz16 | apply zz17));exact HQ17.out⟩,⟨by (try simp only [hl3_1]);(try simp only [hl3_2]);(with_reducible repeat (first | refine zz6 ?_ _ | refine zz7 ?_ | refine zz8 ?_ _));refine blk_far ?_ (by have h_:=Kd.R_ne HL209_0.out BK200.out (by decide);intro e_;exact h_ (by rw [e_];rfl)) _;(with_reducible repeat (first | refine zz6 ?_ _ | refine zz7 ?_ | refine zz8 ?_ _));exact BK200.out⟩,⟨by (try simp only [hl3_1]);(try simp only [hl3_2]);(with_reducible repeat (first | refine zz6 ?_ _ | refine zz7 ?_ | refine zz8 ?_ _));refine blk_far ?_ (by have h_:=Kd.R_ne HL209_0.out BK201.out (by decide);intro e_;exact h_ (by rw [e_];rfl)) _;(with_reducible repeat (first | refine zz6 ?_ _ | refine zz7 ?_ | refine zz8 ?_ _));exact BK201.out⟩,⟨by repeat first | exact HB.out | apply zz2 | apply zz0 | apply zz1 | refine zz3 ?_ GB15.out | refine zz3 ?_ GE200.out | refine zz3 ?_ GE201.out⟩⟩
          ·rw [if_neg c14] at H
           exact absurd H (by simp)
         ·rw [if_neg c13] at H
          exact absurd H (by simp)
        ·rw [if_neg c12] at H
         exact absurd H (by simp)
       ·rw [if_neg c11] at H
        exact absurd H (by simp)
      ·rw [if_neg c10] at H
       have c10b0:decide (x15_2 < (x3_1.length:Int))=false:=decide_eq_false c10
       (try simp only [hl3_1] at c10b0)
       (try simp only [hl3_2] at c10b0)
       clear c10
       have H':=Aside0.mk H
       clear H
       go_wp2
       (try simp only [← hl3_1,← hl3_2])
       go_roundg k2
       case measure=>have:=HK1.out;have:=HK2.out;omega
       case rel=>exact ⟨(x3_2),(wrap64 (x10_1+1)),(by first | rfl | (simp;done) | (simp [*];done)),H',⟨by have:=HK1.out;have:=HK2.out;omega⟩,⟨by (try simp only [hl3_1]);(try simp only [hl3_2]);(with_reducible repeat (first | apply zz15 | apply zz16 | apply zz17));exact HO_3.out⟩,⟨by (try simp only [hl3_1]);(try simp only [hl3_2]);(with_reducible repeat (first | refine zz6 ?_ _ | refine zz7 ?_ | refine zz8 ?_ _));exact BK200.out⟩,⟨by (try simp only [hl3_1]);(try simp only [hl3_2]);(with_reducible repeat (first | refine zz6 ?_ _ | refine zz7 ?_ | refine zz8 ?_ _));exact BK201.out⟩,⟨by repeat first | exact HB.out | apply zz2 | apply zz0 | apply zz1 | refine zz3 ?_ GE200.out | refine zz3 ?_ GE201.out⟩⟩
   ·rw [if_neg c9] at H
    have c9b0:decide (x10_1 < (t202.length:Int))=false:=decide_eq_false c9
    (try simp only [hl3_1] at c9b0)
    clear c9
    replace H:=zz30.mp H
    obtain ⟨⟨t205,t206⟩,A190,H⟩:=H
    replace H:(some (t205,t206))=some (r1,r2):=H
    have A19:=Aside0.mk A190
    clear A190
    simp only [Option.some.injEq,Prod.mk.injEq] at H
    obtain ⟨rfl,rfl⟩:=H
    go_wp2_with (first | ((with_reducible refine gate_callee (f:=88) rfl ?_);refine goesL_ (some 35) rfl rfl Try.func88 (by kernel_rfl) rfl #[.slice Ao8 x3_1.length co8] rfl (by (try simp only [zz26,zz27,zz28]);first | done | rfl | (simp only [zz24,zz25];rfl) | (simp only [zz25];congr;(try simp only [decide_eq_true_eq] at *);omega)) ?_;(with_reducible refine (spec_paOf.calls k1 _ _ x3_1 t205 t206 _ ?side1 ?side2 A19.out).mono ?_);(case side1=>repeat (first | exact (Kd.S_reads' HO_3.out).2.2 | (with_reducible refine zz18 ?_ _) | (with_reducible refine zz19 ?_ _) | (with_reducible refine zz20 ?_)));(case side2=>exact (Kd.S_reads' HO_3.out).2.1);rintro e w20 ⟨v207,rfl,ho0,hb⟩;refine ⟨_,rfl,?_⟩;have n0_:=Aside0.mk (Kd.S_below (by (with_reducible repeat (first | apply zz15 | apply zz16 | apply zz17));exact HO_3.out) hb);have n1_:=Aside0.mk (Kd.R_lower ho0 (zz5 (by repeat first | exact HB.out | apply zz2 | apply zz0 | apply zz1 | refine zz3 ?_ GE200.out | refine zz3 ?_ GE201.out)));have n2_:=Aside0.mk (zz11 (g:=gb200) (o:=.cells #[.int .i64 a0_0,.slice A0_1 l0_1.length c0_1] 29 (0,0)) (by (with_reducible repeat (first | refine zz6 ?_ _ | refine zz7 ?_ | refine zz8 ?_ _));exact BK200.out) hb);have n3_:=Aside0.mk (zz11 (g:=gb201) (o:=.cells #[.int .i64 0,.slice none 0 0] 29 (0,0)) (by (with_reducible repeat (first | refine zz6 ?_ _ | refine zz7 ?_ | refine zz8 ?_ _));exact BK201.out) hb);have n4_:=Aside0.mk (zz4 (by repeat first | exact HB.out | apply zz2 | apply zz0 | apply zz1 | refine zz3 ?_ GE200.out | refine zz3 ?_ GE201.out) hb);clear HO_3;clear BK200;clear BK201;clear HB;have HO_3:=n0_;have HO208:=n1_;have BK200:=n2_;have BK201:=n3_;have HB:=n4_;clear n0_ n1_ n2_ n3_ n4_;(try clear hb);(try clear hb2);(try clear hk);(try clear hi);(try clear ho0);have hnb21:=NB201_200.out;have hnc21:=NB200_201.out;have hcz22_0:w20.cell? ⟨gb201,0,none⟩=some (.int .i64 0):=(zz9 BK201.out 0).trans rfl;have hcz22_1:w20.cell? ⟨gb201,1,none⟩=some (.slice none 0 0):=(zz9 BK201.out 1).trans rfl;have hfz22_0:=zz10 BK201.out 0;have hfz22_1:=zz10 BK201.out 1;obtain ⟨Ao23,co23,eo23⟩:=Kd.R_slice HO208.out;subst eo23))
    refine bodyPost_ret (results_cell_row rfl _ _ gb201 29 #[.int .i64 t205,.slice Ao23 t206.length co23] (0,0) _ rfl (by (with_reducible repeat (first | refine zz6 ?_ _ | refine zz7 ?_ | refine zz8 ?_ _));refine blk_put (cs:=#[.int .i64 t205,.slice none 0 0]) ?_ 1 _ rfl;(with_reducible repeat (first | refine zz6 ?_ _ | refine zz7 ?_ | refine zz8 ?_ _));refine blk_put (cs:=#[.int .i64 0,.slice none 0 0]) ?_ 0 _ rfl;(with_reducible repeat (first | refine zz6 ?_ _ | refine zz7 ?_ | refine zz8 ?_ _));exact BK201.out) Try.underlying29 rfl (by kernel_rfl)) rfl ?_
    exact ⟨_,by first | rfl | (simp [errW_none,errW_some] <;> rfl) | (simp [*,errW_none,errW_some] <;> rfl),by (with_reducible repeat (first | apply zz12 | apply zz13 | apply zz14));exact Kd.R_mono (Kd.R_far (p:=⟨gb201,1,none⟩) (Kd.R_far (p:=⟨gb201,0,none⟩) (Kd.R_types HO208.out BK201.out (by decide)) (fun _ hk=>hk.2) (.int .i64 t205)) (fun _ hk=>hk.2) (.slice Ao23 t206.length co23)) (fun _ hk=>trivial),by repeat first | exact HB.out | apply zz2 | apply zz0 | apply zz1 | refine zz3 ?_ GE200.out | refine zz3 ?_ GE201.out⟩

/-! ### impl_table_others: function 56 -/
def impl_table_others.l0:Nat→List Int→List Int→Int→Int→Option (List Int)
 | 0,_,_,_,_=>none
 | k+1,x0,x3,x9,x10=>if x10 < x9 then (if 0≤x10 then (if x10 < (x0.length:Int) then (if x10 < (x3.length:Int) then (impl_table_others.l0 k x0 (x3.set (x10:Int).toNat (Go.bits .andNot .u16 (Go.bits .andNot .u16 (IntKind.u16.wrap ((shl .u16 1 (x0.length:Int)) - 1)) (rd x0 x10)) (shl .u16 1 x10))) x9 (wrap64 (x10+1))) else (none)) else (none)) else (none)) else (some x3)
def impl_table_others.f (k:Nat) (l0:List Int):Option (List Int):=if 0≤(l0.length:Int) then (if ((l0.length:Int):Int).toNat≤140737488355328 then (impl_table_others.l0 k l0 (List.replicate ((l0.length:Int):Int).toNat 0) (l0.length:Int) 0) else (none)) else (none)
theorem impl_table_others.mono_l:∀ k,(∀ y0 y1 y2 y3,LeO (impl_table_others.l0 k y0 y1 y2 y3) (impl_table_others.l0 (k+1) y0 y1 y2 y3))
 | 0=>fun _ _ _ _ r h=>by simp [impl_table_others.l0] at h
 | k+1=>by
  have ih0:=impl_table_others.mono_l k
  ·intro y0 y1 y2 y3
   unfold impl_table_others.l0
   repeat' first
   | (with_reducible exact ih0 _ _ _ _)
   | (with_reducible exact LeO.refl _)
   | (with_reducible exact LeO.none _)
   | (with_reducible refine LeO.ite ?_ ?_)
   | (with_reducible refine LeO.bind ?_ (fun _=>?_))
   | exact ih0 _ _ _ _
   | exact LeO.none _
   | refine LeO.ite ?_ ?_
   | refine LeO.bind ?_ (fun _=>?_)
theorem impl_table_others.mono:∀ a0 k,LeO (impl_table_others.f k a0) (impl_table_others.f (k+1) a0):=by
 intro a0 k
 have ih0:=impl_table_others.mono_l k
 unfold impl_table_others.f
 repeat' first
   | (with_reducible exact ih0 _ _ _ _)
   | (with_reducible exact LeO.refl _)
   | (with_reducible exact LeO.none _)
   | (with_reducible refine LeO.ite ?_ ?_)
   | (with_reducible refine LeO.bind ?_ (fun _=>?_))
   | exact ih0 _ _ _ _
   | exact LeO.none _
   | refine LeO.ite ?_ ?_
   | refine LeO.bind ?_ (fun _=>?_)
def impl_table_others.T5:Bool × List (List Nat × List Nat):=(true,[([],[]),([],[]),([],[]),([2],[2]),([3],[3]),([4],[4]),([],[]),([],[]),([6,7],[6,7]),([8],[8]),([5,9],[5,9]),([],[]),([11],[11]),([10,12],[10,12]),([0,1,0,1,2,3,4,5,6,7,8,9,10,11,12,13],[0,1]),([14,13,0,1,2,3,4,5,6,7,8,9,10,11,12,13],[13,14])])
def impl_table_others.B5:List Nat:=[0,0,0,4,12,28,0,0,192,448,1020,0,2048,8188,16383,32767]
theorem impl_table_others.tab5:rtab .any (opsOf Try.f56 5)=impl_table_others.T5:=by kernel_rfl
theorem impl_table_others.bits5:waitsOk impl_table_others.T5.2 impl_table_others.B5=true:=by kernel_rfl
set_option maxHeartbeats 8000000 in
set_option maxRecDepth 100000 in
theorem impl_table_others.calls (k:Nat) (A0:Option Addr) (c0:Nat) (l0:List Int) (r:List Int) (w:World) (hr0:Kd.C (Kd.int .u16) w A0 l0.length l0) (hc0:l0.length≤c0) (h:impl_table_others.f k l0=some r) :
  Calls Try.prog 56 #[.slice A0 l0.length c0] w fun e w'=>∃ v0_:Value,e=.returned (v0_)∧Kd.R (Kd.int .u16) 91 w' w.heap.size (fun _=>True) v0_ r∧Below w.heap.size w w':=by
 have HR0:=Aside0.mk hr0
 have HC0:=Aside0.mk hc0
 clear hr0 hc0
 have HB:=Aside0.mk (Below.refl w.heap.size w)
 have H:(if 0≤(l0.length:Int) then (if ((l0.length:Int):Int).toNat≤140737488355328 then (impl_table_others.l0 k l0 (List.replicate ((l0.length:Int):Int).toNat 0) (l0.length:Int) 0) else (none)) else (none))=some r:=h
 clear h
 by_cases c2:0≤(l0.length:Int)
 ·rw [if_pos c2] at H
  have c2b0:=eq_true c2
  have c2b1:decide (0≤(l0.length:Int))=true:=decide_eq_true c2
  clear c2
  by_cases c3:((l0.length:Int):Int).toNat≤140737488355328
  ·rw [if_pos c3] at H
   have c3b0:=eq_true c3
   have c3b1:decide (((l0.length:Int):Int).toNat≤140737488355328)=true:=decide_eq_true c3
   clear c3
   obtain ⟨y221,hy221⟩:∃ y_:List Int,y_=(List.replicate ((l0.length:Int):Int).toNat 0):=⟨_,rfl⟩
   replace H:(impl_table_others.l0 k l0 y221 (l0.length:Int) 0)=some r:=by first | (rw [hy221];with_reducible exact H) | (have H2_:=(Option.bind_some _ _).symm.trans H;rw [hy221];with_reducible exact H2_) | (have H2_:=(Option.bind_some _ _).symm.trans H;with_reducible exact H2_) | with_reducible exact H | (rw [hy221];exact H) | exact H
   have Ny221:=Aside0.mk hy221
   clear hy221
   have H':=Aside0.mk H
   clear H
   go_enter Try.func56,Try.ntmps56
   go_wp2_with (first | ((with_reducible refine gate_dst (N:=7) rfl ?_);refine Kd.R_make (Kd.int .u16) _ 91 rfl (N:=7) rfl 66 _ _ rfl (l0.length:Int) rfl rfl Try.underlying66 (.int .u16 0) 2 info91 rfl (by decide) (by omega) 0 (ok:=fun _=>True) (okp:=fun _=>True) rfl (fun _ hk=>hk) trivial (zz29 (by first | (with_reducible assumption) | assumption)) (Nat.le_trans (Nat.mul_le_mul_right _ (zz29 (by first | (with_reducible assumption) | assumption):(l0.length:Int).toNat≤140737488355328)) (by omega)) (Below.refl _ _) (Nat.le_refl _) ?_;intro v222 w4 ho5 hb hg_ hnew_;clear hg_ hnew_;(first | rw [← Ny221.out] at ho5 | (simp only [Int.reduceToNat] at ho5;rw [← Ny221.out] at ho5));have n0_:=Aside0.mk (Kd.R_lower ho5 (zz5 (by repeat first | exact HB.out | apply zz2 | apply zz0 | apply zz1)));have n1_:=Aside0.mk (zz4 (by repeat first | exact HB.out | apply zz2 | apply zz0 | apply zz1) hb);clear HB;have HO223:=n0_;have HB:=n1_;clear n0_ n1_;clear hb ho5))
   go_loopg [10] k (fun kq v10 w'=>∃ (x3_1:List Int) (x10_1:Int),v10=.int .i64 x10_1∧Aside0 (impl_table_others.l0 kq l0 x3_1 (l0.length:Int) x10_1=some r)∧Aside0 (kq≤k)∧Aside0 (Kd.R (Kd.int .u16) 91 w' w.heap.size (fun _=>True) v222 x3_1)∧Aside0 (Below w.heap.size w w'))
   case atStart=>exact ⟨(y221),(0),(by first | rfl | (simp;done) | (simp [*];done)),H',⟨Nat.le_refl _⟩,⟨by (with_reducible repeat (first | apply zz12 | apply zz13 | apply zz14));exact HO223.out⟩,⟨by repeat first | exact HB.out | apply zz2 | apply zz0 | apply zz1⟩⟩
   case round =>
    clear H'
    try clear c2
    try clear c2b0
    try clear c2b1
    try clear p2
    try clear c3
    try clear c3b0
    try clear c3b1
    try clear c5
    obtain ⟨x3_1,x10_1,rfl,HA,HK1,HO_3,HB⟩:=hrel
    cases gk with
    | zero=>exact absurd HA.out (by simp [impl_table_others.l0])
    | succ k1 =>
     have H:=HA.out
     clear HA
     simp only [impl_table_others.l0] at H
     by_cases c6:x10_1 < (l0.length:Int)
     ·rw [if_pos c6] at H
      have c6b0:decide (x10_1 < (l0.length:Int))=true:=decide_eq_true c6
      clear c6
      obtain ⟨ji7,hji7⟩:∃ j_:Int,(shl .u16 1 (l0.length:Int))=j_:=⟨_,rfl⟩
      replace H:(if 0≤x10_1 then (if x10_1 < (l0.length:Int) then (if x10_1 < (x3_1.length:Int) then (impl_table_others.l0 k1 l0 (x3_1.set (x10_1:Int).toNat (Go.bits .andNot .u16 (Go.bits .andNot .u16 (IntKind.u16.wrap ((ji7) - 1)) (rd l0 x10_1)) (shl .u16 1 x10_1))) (l0.length:Int) (wrap64 (x10_1+1))) else (none)) else (none)) else (none))=some r:=by first | (rw [hji7] at H;exact H) | (simp only [hji7] at H ⊢;exact H)
      have hji7_:(IntKind.u16.wrap (1 * 2 ^ min (l0.length:Int).toNat 16))=ji7:=hji7
      have hji7z:(l0.length:Int)≤16→(IntKind.u16.wrap (1 * 2 ^ (l0.length:Int).toNat))=ji7:=shl_small hji7
      have hji7p:(IntKind.u16.wrap (1 * 2 ^ min l0.length 16))=ji7:=hji7_
      have hji7q:(l0.length:Int)≤16→(IntKind.u16.wrap (1 * 2 ^ l0.length))=ji7:=hji7z
      have hji7r:(IntKind.u16.wrap (2 ^ min l0.length 16))=ji7:=by have h_:=hji7p;rw [Int.one_mul] at h_;exact h_
      have hji7s:(l0.length:Int)≤16→(IntKind.u16.wrap (2 ^ l0.length))=ji7:=fun hle_=>by have h_:=hji7q hle_;rw [Int.one_mul] at h_;exact h_
      have hji7u:(IntKind.u16.wrap (2 ^ min (l0.length:Int).toNat 16))=ji7:=by have h_:=hji7_;rw [Int.one_mul] at h_;exact h_
      have hji7v:(l0.length:Int)≤16→(IntKind.u16.wrap (2 ^ (l0.length:Int).toNat))=ji7:=fun hle_=>by have h_:=hji7z hle_;rw [Int.one_mul] at h_;exact h_
      by_cases c8:0≤x10_1
      ·rw [if_pos c8] at H
       have c8b0:decide (0≤x10_1)=true:=decide_eq_true c8
       clear c8
       by_cases c9:x10_1 < (l0.length:Int)
       ·rw [if_pos c9] at H
        have c9b0:decide (x10_1 < (l0.length:Int))=true:=decide_eq_true c9
        clear c9
        have c10b0:=eq_true (zz29 (by first | (with_reducible assumption) | assumption):0≤x10_1)
        obtain ⟨ji11,hji11⟩:∃ j_:Int,(shl .u16 1 x10_1)=j_:=⟨_,rfl⟩
        replace H:(if x10_1 < (x3_1.length:Int) then (impl_table_others.l0 k1 l0 (x3_1.set (x10_1:Int).toNat (Go.bits .andNot .u16 (Go.bits .andNot .u16 (IntKind.u16.wrap ((ji7) - 1)) (rd l0 x10_1)) (ji11))) (l0.length:Int) (wrap64 (x10_1+1))) else (none))=some r:=by first | (rw [hji11] at H;exact H) | (simp only [hji11] at H ⊢;exact H)
        have hji11_:(IntKind.u16.wrap (1 * 2 ^ min x10_1.toNat 16))=ji11:=hji11
        have hji11z:x10_1≤16→(IntKind.u16.wrap (1 * 2 ^ x10_1.toNat))=ji11:=shl_small hji11
        have hji11u:(IntKind.u16.wrap (2 ^ min x10_1.toNat 16))=ji11:=by have h_:=hji11_;rw [Int.one_mul] at h_;exact h_
        have hji11v:x10_1≤16→(IntKind.u16.wrap (2 ^ x10_1.toNat))=ji11:=fun hle_=>by have h_:=hji11z hle_;rw [Int.one_mul] at h_;exact h_
        by_cases c12:x10_1 < (x3_1.length:Int)
        ·rw [if_pos c12] at H
         have c12b0:decide (x10_1 < (x3_1.length:Int))=true:=decide_eq_true c12
         clear c12
         obtain ⟨y225,hy225⟩:∃ y_:List Int,y_=(x3_1.set (x10_1:Int).toNat (Go.bits .andNot .u16 (Go.bits .andNot .u16 (IntKind.u16.wrap ((ji7) - 1)) (rd l0 x10_1)) (ji11))):=⟨_,rfl⟩
         replace H:(impl_table_others.l0 k1 l0 y225 (l0.length:Int) (wrap64 (x10_1+1)))=some r:=by first | (rw [hy225];with_reducible exact H) | (have H2_:=(Option.bind_some _ _).symm.trans H;rw [hy225];with_reducible exact H2_) | (have H2_:=(Option.bind_some _ _).symm.trans H;with_reducible exact H2_) | with_reducible exact H | (rw [hy225];exact H) | exact H
         have Ny225:=Aside0.mk hy225
         clear hy225
         have H':=Aside0.mk H
         clear H
         try go_wp2
         have n0_:=Aside0.mk (zz14 HO_3.out)
         have n1_:=Aside0.mk (zz1 HB.out)
         clear HO_3
         clear HB
         have HO_3:=n0_
         have HB:=n1_
         clear n0_ n1_
         have p224:0≤(x10_1:Int):=zz29 (by first | (with_reducible assumption) | assumption)
         have q224:x10_1 < (l0.length:Int):=zz29 (by first | (with_reducible assumption) | assumption)
         obtain ⟨ad224,e224,hx224_0⟩:=Kd.at_int HR0.out x10_1 p224 q224
         have hw224_0:=hx224_0
         cases e224
         replace hx224_0:=(HB.out.cell (World.block_lt_of_cell? w _ hx224_0)).trans hx224_0
         replace p224:=eq_true p224
         replace q224:=eq_true q224
         have p13:0≤(x10_1:Int):=zz29 (by first | (with_reducible assumption) | assumption)
         have q13:(x10_1:Int) < ((x3_1.length:Int):Int):=zz29 (by first | (with_reducible assumption) | assumption)
         obtain ⟨go13,co13,eo13,gb13,gl13,cl13,HG13⟩:=Kd.R_form HO_3.out (by omega)
         (first | cases eo13 | (injection eo13 with ea_ en_ ec_;(first | subst ea_ | (injection ea_ with ea_;subst ea_));subst ec_;clear en_))
         have GB13:=Aside0.mk gb13
         have GG13:=Aside0.mk HG13
         clear gb13 gl13 HG13
         obtain ⟨hx13_0,hf13_0⟩:=Kd.R_celln 0 HO_3.out (x10_1:Int) p13 q13
         replace p13:=eq_true p13
         replace q13:=eq_true q13
         have HP15:=Kd.R_putn HO_3.out (x10_1:Int) (Go.bits .andNot .u16 (Go.bits .andNot .u16 (IntKind.u16.wrap ((ji7) - 1)) (rd l0 x10_1)) (ji11))
         rw [← Ny225.out] at HP15
         have HQ15:=Aside0.mk HP15
         clear HP15
         refine start_ (n:=16) (S:=fun w'=>w'.cell? (ad224.add (x10_1).toNat)=some (.int .u16 (rd l0 x10_1))) (ds:=[15]) #[F,F,F,F,F,F,F,F,F,F,F,F,F,F,F,F] (by kernel_rfl) rfl rfl (((HB.out.cell (World.block_lt_of_cell? w _ hw224_0)).trans hw224_0)) (fun hHeld=>?_);refine with_tabW impl_table_others.tab5 impl_table_others.bits5 (fun HT_ HW_=>?_)
         generalize wr.drew=w14 at HO_3 HB GG13 HQ15 hf13_0 hx13_0 hx224_0 hHeld ⊢
         refine pure_ (i:=0) (N:=some 13) (v:=?_) (a':=?_) #[T,F,F,F,F,F,F,F,F,F,F,F,F,F,F,F] rfl rfl (any_of HT_.out (by kernel_rfl)) (fun _ _ _ h=>h) (Or.inl ⟨by rfl,?_⟩) ?_ ?_
         rotate_left
         ·intro w'
          go_simp
          with_reducible rfl
         rotate_left
         ·simp only [Act.put,zz21,zz22,zz23,i64_w,i32_w]
          rfl
         refine pure_ (i:=1) (N:=some 14) (v:=?_) (a':=?_) #[T,T,F,F,F,F,F,F,F,F,F,F,F,F,F,F] rfl rfl (any_of HT_.out (by kernel_rfl)) (fun _ _ _ h=>h) (Or.inl ⟨by rfl,?_⟩) ?_ ?_
         rotate_left
         ·intro w'
          go_simp
          with_reducible rfl
         rotate_left
         ·simp only [Act.put,zz21,zz22,zz23,i64_w,i32_w]
          rfl
         refine pure_ (i:=2) (N:=some 15) (v:=?_) (a':=?_) #[T,T,T,F,F,F,F,F,F,F,F,F,F,F,F,F] rfl rfl (any_of HT_.out (by kernel_rfl)) (fun _ _ _ h=>h) (Or.inl ⟨by rfl,?_⟩) ?_ ?_
         rotate_left
         ·intro w'
          go_simp
          with_reducible rfl
         rotate_left
         ·simp only [Act.put,zz21,zz22,zz23,i64_w,i32_w]
          rfl
         refine pure_ (i:=3) (N:=some 16) (v:=?_) (a':=?_) #[T,T,T,T,F,F,F,F,F,F,F,F,F,F,F,F] rfl rfl (any_of HT_.out (by kernel_rfl)) (fun _ _ _ h=>h) (Or.inl ⟨by rfl,?_⟩) ?_ ?_
         rotate_left
         ·intro w'
          go_simp
          with_reducible rfl
         rotate_left
         ·simp only [Act.put,zz21,zz22,zz23,i64_w,i32_w]
          rfl
         refine pure_ (i:=4) (N:=some 17) (v:=?_) (a':=?_) #[T,T,T,T,T,F,F,F,F,F,F,F,F,F,F,F] rfl rfl (any_of HT_.out (by kernel_rfl)) (fun _ _ _ h=>h) (Or.inl ⟨by rfl,?_⟩) ?_ ?_
         rotate_left
         ·intro w'
          go_simp
          with_reducible rfl
         rotate_left
         ·simp only [Act.put,zz21,zz22,zz23,i64_w,i32_w]
          rfl
         refine pure_ (i:=5) (N:=some 18) (v:=?_) (a':=?_) #[T,T,T,T,T,T,F,F,F,F,F,F,F,F,F,F] rfl rfl (any_of HT_.out (by kernel_rfl)) (fun _ _ _ h=>h) (Or.inl ⟨by rfl,?_⟩) ?_ ?_
         rotate_left
         ·intro w'
          go_simp
          with_reducible rfl
         rotate_left
         ·simp only [Act.put,zz21,zz22,zz23,i64_w,i32_w]
          rfl
         refine pure_ (i:=6) (N:=some 19) (v:=?_) (a':=?_) #[T,T,T,T,T,T,T,F,F,F,F,F,F,F,F,F] rfl rfl (any_of HT_.out (by kernel_rfl)) (fun _ _ _ h=>h) (Or.inl ⟨by rfl,?_⟩) ?_ ?_
         rotate_left
         ·intro w'
          go_simp
          with_reducible rfl
         rotate_left
         ·simp only [Act.put,zz21,zz22,zz23,i64_w,i32_w]
          rfl
         refine pure_ (i:=7) (N:=some 20) (v:=?_) (a':=?_) #[T,T,T,T,T,T,T,T,F,F,F,F,F,F,F,F] rfl rfl (any_of HT_.out (by kernel_rfl)) (fun _ _ _ h=>h) (Or.inl ⟨by rfl,?_⟩) ?_ ?_
         rotate_left
         ·intro w'
          go_simp
          with_reducible rfl
         rotate_left
         ·simp only [Act.put,zz21,zz22,zz23,i64_w,i32_w]
          rfl
         refine pure_ (i:=8) (N:=some 21) (v:=?_) (a':=?_) #[T,T,T,T,T,T,T,T,T,F,F,F,F,F,F,F] rfl rfl (any_of HT_.out (by kernel_rfl)) (fun _ _ _ h=>h) (Or.inl ⟨by rfl,?_⟩) ?_ ?_
         rotate_left
         ·intro w'
          go_simp
          with_reducible rfl
         rotate_left
         ·simp only [Act.put,zz21,zz22,zz23,i64_w,i32_w]
          rfl
         refine pure_ (i:=11) (N:=some 24) (v:=?_) (a':=?_) #[T,T,T,T,T,T,T,T,T,F,F,T,F,F,F,F] rfl rfl (any_of HT_.out (by kernel_rfl)) (fun _ _ _ h=>h) (Or.inl ⟨by rfl,?_⟩) ?_ ?_
         rotate_left
         ·intro w'
          go_simp
          with_reducible rfl
         rotate_left
         ·simp only [Act.put,zz21,zz22,zz23,i64_w,i32_w]
          rfl
         refine pure_ (i:=12) (N:=some 25) (v:=?_) (a':=?_) #[T,T,T,T,T,T,T,T,T,F,F,T,T,F,F,F] rfl rfl (any_of HT_.out (by kernel_rfl)) (fun _ _ _ h=>h) (Or.inl ⟨by rfl,?_⟩) ?_ ?_
         rotate_left
         ·intro w'
          go_simp
          with_reducible rfl
         rotate_left
         ·simp only [Act.put,zz21,zz22,zz23,i64_w,i32_w]
          rfl
         refine take_ (i:=9) (N:=some 22) (v:=?_) (a':=?_) #[T,T,T,T,T,T,T,T,T,T,F,T,T,F,F,F] rfl rfl (take_ofW HT_.out HW_.out (by kernel_rfl)) (fun _ _ _ h=>h) (Or.inl ⟨by rfl,?_⟩) hHeld ?_ ?_
         rotate_left
         ·intro w' s0
          go_simp
          with_reducible rfl
         rotate_left
         ·simp only [Act.put,zz21,zz22,zz23,i64_w,i32_w]
          rfl
         refine pure_ (i:=10) (N:=some 23) (v:=?_) (a':=?_) #[T,T,T,T,T,T,T,T,T,T,T,T,T,F,F,F] rfl rfl (any_of HT_.out (by kernel_rfl)) (fun _ _ _ h=>h) (Or.inl ⟨by rfl,?_⟩) ?_ ?_
         rotate_left
         ·intro w'
          go_simp
          with_reducible rfl
         rotate_left
         ·simp only [Act.put,zz21,zz22,zz23,i64_w,i32_w]
          rfl
         refine pure_ (i:=13) (N:=some 26) (v:=?_) (a':=?_) #[T,T,T,T,T,T,T,T,T,T,T,T,T,T,F,F] rfl rfl (any_of HT_.out (by kernel_rfl)) (fun _ _ _ h=>h) (Or.inl ⟨by rfl,?_⟩) ?_ ?_
         rotate_left
         ·intro w'
          go_simp
          with_reducible rfl
         rotate_left
         ·simp only [Act.put,zz21,zz22,zz23,i64_w,i32_w]
          rfl
         refine pure_ (i:=14) (N:=some 27) (v:=?_) (a':=?_) #[T,T,T,T,T,T,T,T,T,T,T,T,T,T,T,F] rfl rfl (any_of HT_.out (by kernel_rfl)) (fun _ _ _ h=>h) (Or.inl ⟨by rfl,?_⟩) ?_ ?_
         rotate_left
         ·intro w'
          go_simp
          with_reducible rfl
         rotate_left
         ·simp only [Act.put,zz21,zz22,zz23,i64_w,i32_w]
          rfl
         refine last_ (i:=15) (N:=none) #[T,T,T,T,T,T,T,T,T,T,T,T,T,T,T,T] rfl rfl (one_of HT_.out (by kernel_rfl)) (by decide) (fun K hK=>?_)
         refine skip_ (w1:=?_) (by rfl) rfl ?_ ?_
         rotate_left
         ·go_simp
          rfl
         refine hK.out _ _ ?_
         clear hK K
         refine done_ (done_of HT_.out (by kernel_rfl)) ?_
         try go_wp2
         go_roundg k1
         case measure=>have:=HK1.out;omega
         case rel=>exact ⟨(y225),(wrap64 (x10_1+1)),(by first | rfl | (simp;done) | (simp [*];done)),H',⟨by have:=HK1.out;omega⟩,⟨by (with_reducible repeat (first | apply zz12 | apply zz13 | apply zz14));exact HQ15.out⟩,⟨by repeat first | exact HB.out | apply zz2 | apply zz0 | apply zz1 | refine zz3 ?_ GB13.out⟩⟩
        ·rw [if_neg c12] at H
         exact absurd H (by simp)
       ·rw [if_neg c9] at H
        exact absurd H (by simp)
      ·rw [if_neg c8] at H
       exact absurd H (by simp)
     ·rw [if_neg c6] at H
      have c6b0:decide (x10_1 < (l0.length:Int))=false:=decide_eq_false c6
      clear c6
      obtain rfl:=Option.some.inj H
      go_wp2
      go_ret
      exact ⟨_,by first | rfl | (simp [errW_none,errW_some] <;> rfl) | (simp [*,errW_none,errW_some] <;> rfl),by (with_reducible repeat (first | apply zz12 | apply zz13 | apply zz14));exact HO_3.out,by repeat first | exact HB.out | apply zz2 | apply zz0 | apply zz1⟩
  ·rw [if_neg c3] at H
   exact absurd H (by simp)
 ·rw [if_neg c2] at H
  exact absurd H (by simp)

end Go.Proofs.Ytiopgbpjkjnphaa.P
