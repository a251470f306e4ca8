-- PRINTED by print.py (a twelfth state) out of the translation. Not trusted: Lean checks it.
import Derived.Test.YtifkaefccghgdaaDoorPx0
import Derived.Test.YtifkaefccghgdaaDoorPx1
import Derived.Test.YtifkaefccghgdaaDoorPx5
import Derived.Test.YtifkaefccghgdaaDoorPx7
import Derived.Test.YtifkaefccghgdaaDoorPx12
import Derived.Test.YtifkaefccghgdaaDoorPx13
namespace Go.Proofs.YtifkaefccghgdaaDoor.P
open Go.RowKit Go.Proofs.YtifkaefccghgdaaDoorW.PrintWords Go.Proofs.YtifkaefccghgdaaDoorW.PrintLast Go.Proofs.YtifkaefccghgdaaDoorW.PrintMore
open Bool renaming true → T, false → F
attribute [local go_sem] max2_int min2_int max_two min_two max_three min_three max_four min_four   -- for this text's walks alone
set_option linter.unusedVariables false
set_option linter.unusedSimpArgs false

/-! ### spec_paOf: function 74 -/
mutual
def spec_paOf.l0:Nat→List (List Bool)→Int→Int→Int→List (S74)→Option (Int × (List (S74)))
 | 0,_,_,_,_,_=>none
 | k+1,x0,x10,x11,x355000,x355001=>if x11 < x10 then (spec_paOf.l1 k x0 x11 (wrap64 (x11+1)) x10 x11 x355000 x355001) else (some (x355000,x355001))
def spec_paOf.l1:Nat→List (List Bool)→Int→Int→Int→Int→Int→List (S74)→Option (Int × (List (S74)))
 | 0,_,_,_,_,_,_,_=>none
 | k+1,x0,x4,x5,x10,x11,x355000,x355001=>if x5 < (x0.length:Int) then (if 0≤x4 then (if x4 < (x0.length:Int) then (if 0≤x5 then (if x5 < ((rd_L4 x0 x4).length:Int) then (if rdOf false (rd_L4 x0 x4) x5=true then (if x355001.length < 8796093022208 then (spec_paOf.l1 k x0 x4 (wrap64 (x5+1)) x10 x11 x355000 (x355001 ++ [(⟨x4,x5⟩:S74)])) else (none)) else (spec_paOf.l1 k x0 x4 (wrap64 (x5+1)) x10 x11 x355000 x355001)) else (none)) else (none)) else (none)) else (none)) else (spec_paOf.l0 k x0 x10 (wrap64 (x11+1)) x355000 x355001)
end
def spec_paOf.f (k:Nat) (l0:List (List Bool)):Option (Int × (List (S74))):=spec_paOf.l0 k l0 (l0.length:Int) 0 (l0.length:Int) ([]:List (S74))
theorem spec_paOf.mono_l:∀ k,(∀ y0 y1 y2 y3 y4,LeO (spec_paOf.l0 k y0 y1 y2 y3 y4) (spec_paOf.l0 (k+1) y0 y1 y2 y3 y4))∧(∀ y0 y1 y2 y3 y4 y5 y6,LeO (spec_paOf.l1 k y0 y1 y2 y3 y4 y5 y6) (spec_paOf.l1 (k+1) y0 y1 y2 y3 y4 y5 y6))
 | 0=>⟨fun _ _ _ _ _ r h=>by simp [spec_paOf.l0] at h,fun _ _ _ _ _ _ _ r h=>by simp [spec_paOf.l1] at h⟩
 | k+1=>by
  obtain ⟨ih0,ih1⟩:=spec_paOf.mono_l k
  refine ⟨?_,?_⟩
  ·intro y0 y1 y2 y3 y4
   unfold spec_paOf.l0
   repeat' first
   | (with_reducible exact ih0 _ _ _ _ _)
   | (with_reducible exact ih1 _ _ _ _ _ _ _)
   | (with_reducible exact LeO.refl _)
   | (with_reducible exact LeO.none _)
   | (with_reducible refine LeO.ite ?_ ?_)
   | (with_reducible refine LeO.bind ?_ (fun _=>?_))
   | exact ih0 _ _ _ _ _
   | exact ih1 _ _ _ _ _ _ _
   | exact LeO.none _
   | refine LeO.ite ?_ ?_
   | refine LeO.bind ?_ (fun _=>?_)
  ·intro y0 y1 y2 y3 y4 y5 y6
   unfold spec_paOf.l1
   repeat' first
   | (with_reducible exact ih0 _ _ _ _ _)
   | (with_reducible exact ih1 _ _ _ _ _ _ _)
   | (with_reducible exact LeO.refl _)
   | (with_reducible exact LeO.none _)
   | (with_reducible refine LeO.ite ?_ ?_)
   | (with_reducible refine LeO.bind ?_ (fun _=>?_))
   | exact ih0 _ _ _ _ _
   | exact ih1 _ _ _ _ _ _ _
   | exact LeO.none _
   | refine LeO.ite ?_ ?_
   | refine LeO.bind ?_ (fun _=>?_)
theorem spec_paOf.mono:∀ a0 k,LeO (spec_paOf.f k a0) (spec_paOf.f (k+1) a0):=by
 intro a0 k
 obtain ⟨ih0,ih1⟩:=spec_paOf.mono_l k
 unfold spec_paOf.f
 repeat' first
   | (with_reducible exact ih0 _ _ _ _ _)
   | (with_reducible exact ih1 _ _ _ _ _ _ _)
   | (with_reducible exact LeO.refl _)
   | (with_reducible exact LeO.none _)
   | (with_reducible refine LeO.ite ?_ ?_)
   | (with_reducible refine LeO.bind ?_ (fun _=>?_))
   | exact ih0 _ _ _ _ _
   | exact ih1 _ _ _ _ _ _ _
   | exact LeO.none _
   | refine LeO.ite ?_ ?_
   | refine LeO.bind ?_ (fun _=>?_)
set_option maxHeartbeats 8000000 in
set_option maxRecDepth 100000 in
theorem spec_paOf.calls (k:Nat) (A0:Option Addr) (c0:Nat) (l0:List (List Bool)) (r1:Int) (r2:List (S74)) (w:World) (hr0:Kd.C (Kd.slice 4 Kd.bool) w A0 l0.length l0) (hc0:l0.length≤c0) (h:spec_paOf.f k l0=some (r1,r2)) :
  Calls Tryd.prog 74 #[.slice A0 l0.length c0] w fun e w'=>∃ v1_:Value,e=.returned (.agg #[.int .i64 r1,v1_])∧Kd.R k74 74 w' w.heap.size (fun _=>True) v1_ r2∧Below w.heap.size w w':=by
 have hu30:=Tryd.underlying30
 have hu74:=Tryd.underlying74
 have HR0:=zz31 hr0
 have HC0:=zz31 hc0
 clear hr0 hc0
 have HB:=zz31 (Below.refl w.heap.size w)
 have H:(spec_paOf.l0 k l0 (l0.length:Int) 0 (l0.length:Int) ([]:List (S74)))=some (r1,r2):=h
 clear h
 have H':=zz31 H
 clear H
 go_enter Tryd.func74,Tryd.ntmps74
 go_wp2_with (first | ((with_reducible refine gate_dst (N:=2) rfl ?_);refine box_event ?hg (N:=2) ?hd (cs:=#[.int .i64 0,.slice none 0 0]) (t:=30) ?hr ?_;(case hd=>rfl);(case hg=>rfl);(case hr=>first | (go_simp;done) | (go_simp;rfl));intro gb353 hg w2 hbox hb;have n0_:=zz31 (zz4 (by repeat first | exact HB.out | apply zz2 | apply zz0 | apply zz1) hb);have n1_:=zz31 (hbox);have n2_:=zz31 ((by rw [hg];exact (zz5 (by repeat first | exact HB.out | apply zz2 | apply zz0 | apply zz1)):w.heap.size≤gb353));have n3_:=zz31 ((by rw [hg];exact (zz5 (by repeat first | exact HB.out | apply zz2 | apply zz0 | apply zz1)):w.heap.size≤gb353));clear HB;have HB:=n0_;have BK353:=n1_;have GW353:=n2_;have GE353:=n3_;clear n0_ n1_ n2_ n3_;clear hb hbox hg) | ((with_reducible refine gate_dst (N:=3) rfl ?_);refine box_event ?hg (N:=3) ?hd (cs:=#[.int .i64 0,.slice none 0 0]) (t:=30) ?hr ?_;(case hd=>rfl);(case hg=>rfl);(case hr=>first | (go_simp;done) | (go_simp;rfl));intro gb354 hg w3 hbox hb;have n0_:=zz31 (zz11 (g:=gb353) (o:=.cells #[.int .i64 0,.slice none 0 0] 30 (0,0)) (by (with_reducible repeat (first | refine zz6 ?_ _ | refine zz7 ?_ | refine zz8 ?_ _));exact BK353.out) hb);have n1_:=zz31 (zz4 (by repeat first | exact HB.out | apply zz2 | apply zz0 | apply zz1 | refine zz3 ?_ GE353.out) hb);have n2_:=zz31 (hbox);have n3_:=zz31 ((by rw [hg];exact (zz5 (by repeat first | exact HB.out | apply zz2 | apply zz0 | apply zz1 | refine zz3 ?_ GE353.out)):w.heap.size≤gb354));have n4_:=zz31 ((by rw [hg];exact (zz5 (by repeat first | exact HB.out | apply zz2 | apply zz0 | apply zz1 | refine zz3 ?_ GE353.out)):w.heap.size≤gb354));have n5_:=zz31 ((by rw [hg];exact Nat.ne_of_lt (blk_lt (g:=gb353) (o:=.cells #[.int .i64 0,.slice none 0 0] 30 (0,0)) (by (with_reducible repeat (first | refine zz6 ?_ _ | refine zz7 ?_ | refine zz8 ?_ _));exact BK353.out)):gb353 ≠ gb354));have n6_:=zz31 ((by rw [hg];exact Nat.ne_of_gt (blk_lt (g:=gb353) (o:=.cells #[.int .i64 0,.slice none 0 0] 30 (0,0)) (by (with_reducible repeat (first | refine zz6 ?_ _ | refine zz7 ?_ | refine zz8 ?_ _));exact BK353.out)):gb354 ≠ gb353));clear BK353;clear HB;have BK353:=n0_;have HB:=n1_;have BK354:=n2_;have GW354:=n3_;have GE354:=n4_;have NB353_354:=n5_;have NB354_353:=n6_;clear n0_ n1_ n2_ n3_ n4_ n5_ n6_;clear hb hbox hg;have hnb4:=NB354_353.out;have hnc4:=NB353_354.out;have hcz5_0:w3.cell? ⟨gb354,0,none⟩=some (.int .i64 0):=(zz9 BK354.out 0).trans rfl;have hcz5_1:w3.cell? ⟨gb354,1,none⟩=some (.slice none 0 0):=(zz9 BK354.out 1).trans rfl;have hfz5_0:=zz10 BK354.out 0;have hfz5_1:=zz10 BK354.out 1))
 go_loopg [11] k (fun kq v11 w'=>∃ (x11_1:Int) (x355001_1:List (S74)) (u355001:Value),v11=.int .i64 x11_1∧Aside0 (spec_paOf.l0 kq l0 (l0.length:Int) x11_1 (l0.length:Int) x355001_1=some (r1,r2))∧Aside0 (kq≤k)∧Aside0 (Kd.R k74 74 w' w.heap.size (fun _=>True) u355001 x355001_1)∧Aside0 (w'.heap[gb353]?=some (.cells #[.int .i64 0,(.slice none 0 0)] 30 (0,0)))∧Aside0 (w'.heap[gb354]?=some (.cells #[.int .i64 (l0.length:Int),u355001] 30 (0,0)))∧Aside0 (Below w.heap.size w w'))
 case atStart=>exact ⟨(0),(([]:List (S74))),(.slice none 0 0),(by first | rfl | (simp;done) | (simp [*];done)),H',⟨Nat.le_refl _⟩,⟨by first | exact Kd.R_nil _ _ _ _ _ | exact Kd.N_nil _ _ _ _ _ | exact Kd.V_nil _ _ _ _ _ | exact Kd.Q_nil _ _ _ _ _ | exact Kd.S_nil _ _ _ _ _⟩,⟨by (with_reducible repeat (first | refine zz6 ?_ _ | refine zz7 ?_ | refine zz8 ?_ _));refine blk_far ?_ NB353_354.out _;(with_reducible repeat (first | refine zz6 ?_ _ | refine zz7 ?_ | refine zz8 ?_ _));refine blk_far ?_ NB353_354.out _;(with_reducible repeat (first | refine zz6 ?_ _ | refine zz7 ?_ | refine zz8 ?_ _));exact BK353.out⟩,⟨by (with_reducible repeat (first | refine zz6 ?_ _ | refine zz7 ?_ | refine zz8 ?_ _));refine blk_put (cs:=#[.int .i64 (l0.length:Int),.slice none 0 0]) ?_ 1 _ rfl;(with_reducible repeat (first | refine zz6 ?_ _ | refine zz7 ?_ | refine zz8 ?_ _));refine blk_put (cs:=#[.int .i64 0,.slice none 0 0]) ?_ 0 _ rfl;(with_reducible repeat (first | refine zz6 ?_ _ | refine zz7 ?_ | refine zz8 ?_ _));exact BK354.out⟩,⟨by repeat first | exact HB.out | apply zz2 | apply zz0 | apply zz1 | refine zz3 ?_ GE353.out | refine zz3 ?_ GE354.out⟩⟩
 case round =>
  clear H'
  try clear p2
  try clear c4
  try clear hcz5_0
  try clear hcz5_1
  try clear hfz5_0
  try clear hfz5_1
  obtain ⟨x11_1,x355001_1,u355001,rfl,HA,HK1,HO_355001,BK353,BK354,HB⟩:=hrel
  cases gk with
  | zero=>exact absurd HA.out (by simp [spec_paOf.l0])
  | succ k1 =>
   have H:=HA.out
   clear HA
   simp only [spec_paOf.l0] at H
   by_cases c6:x11_1 < (l0.length:Int)
   ·rw [if_pos c6] at H
    have c6b0:decide (x11_1 < (l0.length:Int))=true:=decide_eq_true c6
    clear c6
    have H':=zz31 H
    clear H
    go_wp2
    go_loopg [5] k1 (fun kq v5 w'=>∃ (x5_2:Int) (x355001_2:List (S74)) (u355001:Value),v5=.int .i64 x5_2∧Aside0 (spec_paOf.l1 kq l0 x11_1 x5_2 (l0.length:Int) x11_1 (l0.length:Int) x355001_2=some (r1,r2))∧Aside0 (kq≤k1)∧Aside0 (Kd.R k74 74 w' w.heap.size (fun _=>True) u355001 x355001_2)∧Aside0 (w'.heap[gb353]?=some (.cells #[.int .i64 0,(.slice none 0 0)] 30 (0,0)))∧Aside0 (w'.heap[gb354]?=some (.cells #[.int .i64 (l0.length:Int),u355001] 30 (0,0)))∧Aside0 (Below w.heap.size w w'))
    case atStart=>exact ⟨(wrap64 (x11_1+1)),(x355001_1),(u355001),(by first | rfl | (simp;done) | (simp [*];done)),H',⟨Nat.le_refl _⟩,⟨by (with_reducible repeat (first | apply zz12 | apply zz13 | apply zz14));exact HO_355001.out⟩,⟨by (with_reducible repeat (first | refine zz6 ?_ _ | refine zz7 ?_ | refine zz8 ?_ _));exact BK353.out⟩,⟨by (with_reducible repeat (first | refine zz6 ?_ _ | refine zz7 ?_ | refine zz8 ?_ _));exact BK354.out⟩,⟨by repeat first | exact HB.out | apply zz2 | apply zz0 | apply zz1 | refine zz3 ?_ GE353.out | refine zz3 ?_ GE354.out⟩⟩
    case round =>
     clear H'
     try clear p2
     try clear c4
     try clear c6
     try clear c6b0
     try clear p6
     try clear hcz5_0
     try clear hcz5_1
     try clear hfz5_0
     try clear hfz5_1
     try clear p2
     obtain ⟨x5_2,x355001_2,u355001,rfl,HA,HK2,HO_355001,BK353,BK354,HB⟩:=hrel
     cases gk with
     | zero=>exact absurd HA.out (by simp [spec_paOf.l1])
     | succ k2 =>
      have H:=HA.out
      clear HA
      simp only [spec_paOf.l1] at H
      by_cases c7:x5_2 < (l0.length:Int)
      ·rw [if_pos c7] at H
       have c7b0:decide (x5_2 < (l0.length:Int))=true:=decide_eq_true c7
       clear c7
       by_cases c8:0≤x11_1
       ·rw [if_pos c8] at H
        have c8b0:decide (0≤x11_1)=true:=decide_eq_true c8
        clear c8
        by_cases c9:x11_1 < (l0.length:Int)
        ·rw [if_pos c9] at H
         have c9b0:decide (x11_1 < (l0.length:Int))=true:=decide_eq_true c9
         clear c9
         by_cases c10:0≤x5_2
         ·rw [if_pos c10] at H
          have c10b0:decide (0≤x5_2)=true:=decide_eq_true c10
          clear c10
          by_cases c11:x5_2 < ((rd_L4 l0 x11_1).length:Int)
          ·rw [if_pos c11] at H
           have c11b0:decide (x5_2 < ((rd_L4 l0 x11_1).length:Int))=true:=decide_eq_true c11
           clear c11
           obtain ⟨bq12,hbq12⟩:∃ b_:Bool,b_=(rdOf false (rd_L4 l0 x11_1) x5_2):=⟨_,rfl⟩
           replace H:(if bq12=true then (if x355001_2.length < 8796093022208 then (spec_paOf.l1 k2 l0 x11_1 (wrap64 (x5_2+1)) (l0.length:Int) x11_1 (l0.length:Int) (x355001_2 ++ [(⟨x11_1,x5_2⟩:S74)])) else (none)) else (spec_paOf.l1 k2 l0 x11_1 (wrap64 (x5_2+1)) (l0.length:Int) x11_1 (l0.length:Int) x355001_2))=some (r1,r2):=by rw [← hbq12] at H;exact H
           have Nbq12:=zz31 hbq12
           clear hbq12
           by_cases c13:bq12=true
           ·subst c13
            have H1:(if x355001_2.length < 8796093022208 then (spec_paOf.l1 k2 l0 x11_1 (wrap64 (x5_2+1)) (l0.length:Int) x11_1 (l0.length:Int) (x355001_2 ++ [(⟨x11_1,x5_2⟩:S74)])) else (none))=some (r1,r2):=by rw [if_pos rfl] at H;exact H
            clear H
            have H:=H1
            clear H1
            by_cases c14:x355001_2.length < 8796093022208
            ·rw [if_pos c14] at H
             have LMc14:=zz31 c14
             clear c14
             obtain ⟨y357,hy357⟩:∃ y_:List (S74),y_=(x355001_2 ++ [(⟨x11_1,x5_2⟩:S74)]):=⟨_,rfl⟩
             replace H:(spec_paOf.l1 k2 l0 x11_1 (wrap64 (x5_2+1)) (l0.length:Int) x11_1 (l0.length:Int) y357)=some (r1,r2):=by first | (rw [hy357];with_reducible exact H) | (have H2_:=(Option.bind_some _ _).symm.trans H;rw [hy357];with_reducible exact H2_) | (have H2_:=(Option.bind_some _ _).symm.trans H;with_reducible exact H2_) | with_reducible exact H | (rw [hy357];exact H) | exact H
             have Ny357:=zz31 hy357
             clear hy357
             have H':=zz31 H
             clear H
             have p355:0≤(x11_1:Int):=zz29 (by first | (with_reducible assumption) | assumption)
             have q355:x11_1 < (l0.length:Int):=zz29 (by first | (with_reducible assumption) | assumption)
             obtain ⟨ad355,A355_0,c355_0,e355,hx355_0,hl355_0,hi355_0⟩:=at_L4 HR0.out x11_1 p355 q355
             cases e355
             replace hx355_0:=(HB.out.cell (World.block_lt_of_cell? w _ hx355_0)).trans hx355_0
             have HR355_0:=zz31 hi355_0
             have HC355_0:=zz31 hl355_0
             clear hi355_0 hl355_0
             replace p355:=eq_true p355
             replace q355:=eq_true q355
             have p356:0≤(x5_2:Int):=zz29 (by first | (with_reducible assumption) | assumption)
             have q356:x5_2 < ((rd_L4 l0 x11_1).length:Int):=zz29 (by first | (with_reducible assumption) | assumption)
             obtain ⟨ad356,e356,hx356_0⟩:=Kd.at_bool HR355_0.out x5_2 p356 q356
             (try rw [← Nbq12.out] at hx356_0)
             cases e356
             replace hx356_0:=(HB.out.cell (World.block_lt_of_cell? w _ hx356_0)).trans hx356_0
             replace p356:=eq_true p356
             replace q356:=eq_true q356
             have hnb15:=NB354_353.out
             have hnc15:=NB353_354.out
             have hcz16_0:wr.cell? ⟨gb354,0,none⟩=some (.int .i64 (l0.length:Int)):=(zz9 BK354.out 0).trans rfl
             have hcz16_1:wr.cell? ⟨gb354,1,none⟩=some (u355001):=(zz9 BK354.out 1).trans rfl
             have hfz16_0:=zz10 BK354.out 0
             have hfz16_1:=zz10 BK354.out 1
             go_wp2_with (first | ((with_reducible refine gate_builtin (b:=.append) (xs:=#[.tmp 30,.tmp 34]) rfl ?_);at_builtin;refine Kd.R_append k74 (w0:=w) w.heap.size rfl (.tmp 30) (.tmp 34) 28 74 (.agg #[(.int .i64 0),(.int .i64 0)]) 16 rfl Tryd.underlying28 info74 rfl (by decide) (by omega) u355001 x355001_2 (⟨x11_1,x5_2⟩:S74) [.int .i64 x11_1,.int .i64 x5_2] (fun _=>True) (fun _=>False) rfl rfl ?aP (fun _ hk=>hk.elim) ?aF ?aO ?aB ?aS ?aL ?_;(case aP=>exact k74_mkM _ _ _ (⟨x11_1,x5_2⟩:S74));(case aB=>exact (by repeat first | exact HB.out | apply zz2 | apply zz0 | apply zz1 | refine zz3 ?_ GE353.out | refine zz3 ?_ GE354.out));(case aF=>exact (fun _ _=>trivial));(case aO=>exact (by (with_reducible repeat (first | apply zz12 | apply zz13 | apply zz14));exact HO_355001.out));(case aS=>exact (zz5 (by repeat first | exact HB.out | apply zz2 | apply zz0 | apply zz1 | refine zz3 ?_ GE353.out | refine zz3 ?_ GE354.out)));(case aL=>have:=LMc14.out;omega);intro v358 w17 ho hb hg hat;rw [← Ny357.out] at ho;have n0_:=zz31 (blk_grown (g:=gb353) (o:=.cells #[.int .i64 0,.slice none 0 0] 30 (0,0)) (by (with_reducible repeat (first | refine zz6 ?_ _ | refine zz7 ?_ | refine zz8 ?_ _));exact BK353.out) hg (Kd.R_ne HO_355001.out BK353.out (by decide)));have n1_:=zz31 (blk_grown (g:=gb354) (o:=.cells #[.int .i64 (l0.length:Int),u355001] 30 (0,0)) (by (with_reducible repeat (first | refine zz6 ?_ _ | refine zz7 ?_ | refine zz8 ?_ _));exact BK354.out) hg (Kd.R_ne HO_355001.out BK354.out (by decide)));have n2_:=zz31 (hb);have n3_:=zz31 (ho);clear BK353;clear BK354;clear HB;clear HO_355001;have BK353:=n0_;have BK354:=n1_;have HB:=n2_;have HO359:=n3_;clear n0_ n1_ n2_ n3_;clear ho hb hg hat;obtain ⟨Ao18,co18,eo18⟩:=Kd.R_slice HO359.out;subst eo18;have hcz19_0:w17.cell? ⟨gb354,0,none⟩=some (.int .i64 (l0.length:Int)):=(zz9 BK354.out 0).trans rfl;have hcz19_1:w17.cell? ⟨gb354,1,none⟩=some (u355001):=(zz9 BK354.out 1).trans rfl;have hfz19_0:=zz10 BK354.out 0;have hfz19_1:=zz10 BK354.out 1))
             go_roundg k2
             case measure=>have:=HK1.out;have:=HK2.out;omega
             case rel=>exact ⟨(wrap64 (x5_2+1)),(y357),(.slice Ao18 y357.length co18),(by first | rfl | (simp;done) | (simp [*];done)),H',⟨by have:=HK1.out;have:=HK2.out;omega⟩,⟨by (with_reducible repeat (first | apply zz12 | apply zz13 | apply zz14));exact Kd.R_mono (Kd.R_far (p:=⟨gb354,1,none⟩) (Kd.R_types HO359.out BK354.out (by decide)) (fun _ hk=>hk.2) (.slice Ao18 y357.length co18)) (fun _ hk=>trivial)⟩,⟨by (with_reducible repeat (first | refine zz6 ?_ _ | refine zz7 ?_ | refine zz8 ?_ _));refine blk_far ?_ NB353_354.out _;(with_reducible repeat (first | refine zz6 ?_ _ | refine zz7 ?_ | refine zz8 ?_ _));exact BK353.out⟩,⟨by (with_reducible repeat (first | refine zz6 ?_ _ | refine zz7 ?_ | refine zz8 ?_ _));refine blk_put (cs:=#[.int .i64 (l0.length:Int),u355001]) ?_ 1 _ rfl;(with_reducible repeat (first | refine zz6 ?_ _ | refine zz7 ?_ | refine zz8 ?_ _));exact BK354.out⟩,⟨by repeat first | exact HB.out | apply zz2 | apply zz0 | apply zz1 | refine zz3 ?_ GE353.out | refine zz3 ?_ GE354.out⟩⟩
            ·rw [if_neg c14] at H
             exact absurd H (by simp)
           ·replace c13:=Bool.eq_false_iff.mpr c13
            subst c13
            have H1:(spec_paOf.l1 k2 l0 x11_1 (wrap64 (x5_2+1)) (l0.length:Int) x11_1 (l0.length:Int) x355001_2)=some (r1,r2):=by rw [if_neg (show ¬ (false=true) by decide)] at H;exact H
            clear H
            have H:=H1
            clear H1
            have H':=zz31 H
            clear H
            have p355:0≤(x11_1:Int):=zz29 (by first | (with_reducible assumption) | assumption)
            have q355:x11_1 < (l0.length:Int):=zz29 (by first | (with_reducible assumption) | assumption)
            obtain ⟨ad355,A355_0,c355_0,e355,hx355_0,hl355_0,hi355_0⟩:=at_L4 HR0.out x11_1 p355 q355
            cases e355
            replace hx355_0:=(HB.out.cell (World.block_lt_of_cell? w _ hx355_0)).trans hx355_0
            have HR355_0:=zz31 hi355_0
            have HC355_0:=zz31 hl355_0
            clear hi355_0 hl355_0
            replace p355:=eq_true p355
            replace q355:=eq_true q355
            have p356:0≤(x5_2:Int):=zz29 (by first | (with_reducible assumption) | assumption)
            have q356:x5_2 < ((rd_L4 l0 x11_1).length:Int):=zz29 (by first | (with_reducible assumption) | assumption)
            obtain ⟨ad356,e356,hx356_0⟩:=Kd.at_bool HR355_0.out x5_2 p356 q356
            (try rw [← Nbq12.out] at hx356_0)
            cases e356
            replace hx356_0:=(HB.out.cell (World.block_lt_of_cell? w _ hx356_0)).trans hx356_0
            replace p356:=eq_true p356
            replace q356:=eq_true q356
            go_wp2
            go_roundg k2
            case measure=>have:=HK1.out;have:=HK2.out;omega
            case rel=>exact ⟨(wrap64 (x5_2+1)),(x355001_2),(u355001),(by first | rfl | (simp;done) | (simp [*];done)),H',⟨by have:=HK1.out;have:=HK2.out;omega⟩,⟨by (with_reducible repeat (first | apply zz12 | apply zz13 | apply zz14));exact HO_355001.out⟩,⟨by (with_reducible repeat (first | refine zz6 ?_ _ | refine zz7 ?_ | refine zz8 ?_ _));exact BK353.out⟩,⟨by (with_reducible repeat (first | refine zz6 ?_ _ | refine zz7 ?_ | refine zz8 ?_ _));exact BK354.out⟩,⟨by repeat first | exact HB.out | apply zz2 | apply zz0 | apply zz1 | refine zz3 ?_ GE353.out | refine zz3 ?_ GE354.out⟩⟩
          ·rw [if_neg c11] at H
           exact absurd H (by simp)
         ·rw [if_neg c10] at H
          exact absurd H (by simp)
        ·rw [if_neg c9] at H
         exact absurd H (by simp)
       ·rw [if_neg c8] at H
        exact absurd H (by simp)
      ·rw [if_neg c7] at H
       have c7b0:decide (x5_2 < (l0.length:Int))=false:=decide_eq_false c7
       clear c7
       have H':=zz31 H
       clear H
       go_wp2
       go_roundg k2
       case measure=>have:=HK1.out;have:=HK2.out;omega
       case rel=>exact ⟨(wrap64 (x11_1+1)),(x355001_2),(u355001),(by first | rfl | (simp;done) | (simp [*];done)),H',⟨by have:=HK1.out;have:=HK2.out;omega⟩,⟨by (with_reducible repeat (first | apply zz12 | apply zz13 | apply zz14));exact HO_355001.out⟩,⟨by (with_reducible repeat (first | refine zz6 ?_ _ | refine zz7 ?_ | refine zz8 ?_ _));exact BK353.out⟩,⟨by (with_reducible repeat (first | refine zz6 ?_ _ | refine zz7 ?_ | refine zz8 ?_ _));exact BK354.out⟩,⟨by repeat first | exact HB.out | apply zz2 | apply zz0 | apply zz1 | refine zz3 ?_ GE353.out | refine zz3 ?_ GE354.out⟩⟩
   ·rw [if_neg c6] at H
    have c6b0:decide (x11_1 < (l0.length:Int))=false:=decide_eq_false c6
    clear c6
    simp only [Option.some.injEq,Prod.mk.injEq] at H
    obtain ⟨rfl,rfl⟩:=H
    have hnb20:=NB354_353.out
    have hnc20:=NB353_354.out
    have hcz21_0:wr.cell? ⟨gb354,0,none⟩=some (.int .i64 (l0.length:Int)):=(zz9 BK354.out 0).trans rfl
    have hcz21_1:wr.cell? ⟨gb354,1,none⟩=some (u355001):=(zz9 BK354.out 1).trans rfl
    have hfz21_0:=zz10 BK354.out 0
    have hfz21_1:=zz10 BK354.out 1
    have hcz22_0:wr.cell? ⟨gb353,0,none⟩=some (.int .i64 0):=(zz9 BK353.out 0).trans rfl
    have hcz22_1:wr.cell? ⟨gb353,1,none⟩=some (.slice none 0 0):=(zz9 BK353.out 1).trans rfl
    have hfz22_0:=zz10 BK353.out 0
    have hfz22_1:=zz10 BK353.out 1
    obtain ⟨Ao23,co23,eo23⟩:=Kd.R_slice HO_355001.out
    subst eo23
    go_wp2
    refine bodyPost_ret (results_cell_row rfl _ _ gb353 30 #[.int .i64 (l0.length:Int),.slice Ao23 x355001_1.length co23] (0,0) _ rfl (by (with_reducible repeat (first | refine zz6 ?_ _ | refine zz7 ?_ | refine zz8 ?_ _));refine blk_put (cs:=#[.int .i64 (l0.length:Int),.slice none 0 0]) ?_ 1 _ rfl;(with_reducible repeat (first | refine zz6 ?_ _ | refine zz7 ?_ | refine zz8 ?_ _));refine blk_put (cs:=#[.int .i64 0,.slice none 0 0]) ?_ 0 _ rfl;(with_reducible repeat (first | refine zz6 ?_ _ | refine zz7 ?_ | refine zz8 ?_ _));exact BK353.out) Tryd.underlying30 rfl (by kernel_rfl)) rfl ?_
    exact ⟨_,by first | rfl | (simp [errW_none,errW_some] <;> rfl) | (simp [*,errW_none,errW_some] <;> rfl),by (with_reducible repeat (first | apply zz12 | apply zz13 | apply zz14));exact Kd.R_mono (Kd.R_far (p:=⟨gb353,1,none⟩) (Kd.R_far (p:=⟨gb353,0,none⟩) (Kd.R_types HO_355001.out BK353.out (by decide)) (fun _ hk=>hk.2) (.int .i64 (l0.length:Int))) (fun _ hk=>hk.2) (.slice Ao23 x355001_1.length co23)) (fun _ hk=>trivial),by repeat first | exact HB.out | apply zz2 | apply zz0 | apply zz1 | refine zz3 ?_ GE353.out | refine zz3 ?_ GE354.out⟩

/-! ### spec_paOther: function 52 -/
mutual
def spec_paOther.l0:Nat→List (List Bool)→Int→Int→Option (Int × (List (S74)))
 | 0,_,_,_=>none
 | k+1,x3,x9,x10=>if x10 < x9 then (spec_paOther.l1 k x3 x10 x9 x10 (x3.length:Int) 0) else ((spec_paOf.f k x3).bind fun bt365=>(some (bt365.1,bt365.2)))
def spec_paOther.l1:Nat→List (List Bool)→Int→Int→Int→Int→Int→Option (Int × (List (S74)))
 | 0,_,_,_,_,_,_=>none
 | k+1,x3,x4,x9,x10,x14,x15=>if x15 < x14 then (if 0≤x4 then (if x4 < (x3.length:Int) then (if 0≤x15 then (if x15 < ((rd_L4 x3 x4).length:Int) then (spec_paOther.l1 k (x3.set (x4:Int).toNat ((rd_L4 x3 x4).set (x15:Int).toNat (!(rdOf false (rd_L4 x3 x4) x15)))) x4 x9 x10 x14 (wrap64 (x15+1))) else (none)) else (none)) else (none)) else (none)) else (spec_paOther.l0 k x3 x9 (wrap64 (x10+1)))
end
def spec_paOther.f (k:Nat) (a0_0:Int) (l0_1:List (S74)):Option (Int × (List (S74))):=(spec_paTable.f k a0_0 l0_1).bind fun t362=>(spec_paOther.l0 k t362 (t362.length:Int) 0)
theorem spec_paOther.mono_l:∀ k,(∀ y0 y1 y2,LeO (spec_paOther.l0 k y0 y1 y2) (spec_paOther.l0 (k+1) y0 y1 y2))∧(∀ y0 y1 y2 y3 y4 y5,LeO (spec_paOther.l1 k y0 y1 y2 y3 y4 y5) (spec_paOther.l1 (k+1) y0 y1 y2 y3 y4 y5))
 | 0=>⟨fun _ _ _ r h=>by simp [spec_paOther.l0] at h,fun _ _ _ _ _ _ r h=>by simp [spec_paOther.l1] at h⟩
 | k+1=>by
  obtain ⟨ih0,ih1⟩:=spec_paOther.mono_l k
  refine ⟨?_,?_⟩
  ·intro y0 y1 y2
   unfold spec_paOther.l0
   repeat' first
   | (with_reducible exact ih0 _ _ _)
   | (with_reducible exact ih1 _ _ _ _ _ _)
   | (with_reducible exact spec_paOf.mono _ _)
   | (with_reducible exact spec_paTable.mono _ _ _)
   | (with_reducible exact LeO.refl _)
   | (with_reducible exact LeO.none _)
   | (with_reducible refine LeO.ite ?_ ?_)
   | (with_reducible refine LeO.bind ?_ (fun _=>?_))
   | exact ih0 _ _ _
   | exact ih1 _ _ _ _ _ _
   | exact spec_paOf.mono _ _
   | exact spec_paTable.mono _ _ _
   | exact LeO.none _
   | refine LeO.ite ?_ ?_
   | refine LeO.bind ?_ (fun _=>?_)
  ·intro y0 y1 y2 y3 y4 y5
   unfold spec_paOther.l1
   repeat' first
   | (with_reducible exact ih0 _ _ _)
   | (with_reducible exact ih1 _ _ _ _ _ _)
   | (with_reducible exact spec_paOf.mono _ _)
   | (with_reducible exact spec_paTable.mono _ _ _)
   | (with_reducible exact LeO.refl _)
   | (with_reducible exact LeO.none _)
   | (with_reducible refine LeO.ite ?_ ?_)
   | (with_reducible refine LeO.bind ?_ (fun _=>?_))
   | exact ih0 _ _ _
   | exact ih1 _ _ _ _ _ _
   | exact spec_paOf.mono _ _
   | exact spec_paTable.mono _ _ _
   | exact LeO.none _
   | refine LeO.ite ?_ ?_
   | refine LeO.bind ?_ (fun _=>?_)
theorem spec_paOther.mono:∀ a0 a1 k,LeO (spec_paOther.f k a0 a1) (spec_paOther.f (k+1) a0 a1):=by
 intro a0 a1 k
 obtain ⟨ih0,ih1⟩:=spec_paOther.mono_l k
 unfold spec_paOther.f
 repeat' first
   | (with_reducible exact ih0 _ _ _)
   | (with_reducible exact ih1 _ _ _ _ _ _)
   | (with_reducible exact spec_paOf.mono _ _)
   | (with_reducible exact spec_paTable.mono _ _ _)
   | (with_reducible exact LeO.refl _)
   | (with_reducible exact LeO.none _)
   | (with_reducible refine LeO.ite ?_ ?_)
   | (with_reducible refine LeO.bind ?_ (fun _=>?_))
   | exact ih0 _ _ _
   | exact ih1 _ _ _ _ _ _
   | exact spec_paOf.mono _ _
   | exact spec_paTable.mono _ _ _
   | exact LeO.none _
   | refine LeO.ite ?_ ?_
   | refine LeO.bind ?_ (fun _=>?_)
def spec_paOther.T8:Bool × List (List Nat × List Nat):=(true,[([],[]),([],[]),([0,1],[0,1]),([2],[2]),([],[]),([],[]),([],[]),([5,6],[5,6]),([7],[7]),([],[]),([8,9],[8,9]),([10],[10]),([11],[11]),([3,4,0,1,2,3,4,5,6,7,8,9,10,11,12],[3,4]),([13,12,0,1,2,3,4,5,6,7,8,9,10,11,12],[12,13])])
def spec_paOther.B8:List Nat:=[0,0,3,7,0,0,0,96,224,0,992,2016,4064,8191,16383]
theorem spec_paOther.tab8:rtab .any (opsOf Tryd.f52 8)=spec_paOther.T8:=by kernel_rfl
theorem spec_paOther.bits8:waitsOk spec_paOther.T8.2 spec_paOther.B8=true:=by kernel_rfl
set_option maxHeartbeats 8000000 in
set_option maxRecDepth 100000 in
theorem spec_paOther.calls (k:Nat) (a0_0:Int) (A0_1:Option Addr) (c0_1:Nat) (l0_1:List (S74)) (r1:Int) (r2:List (S74)) (w:World) (hr0_1:Kd.C k74 w A0_1 l0_1.length l0_1) (hc0_1:l0_1.length≤c0_1) (h:spec_paOther.f k a0_0 l0_1=some (r1,r2)) :
  Calls Tryd.prog 52 #[.agg #[.int .i64 a0_0,.slice A0_1 l0_1.length c0_1]] w fun e w'=>∃ v1_:Value,e=.returned (.agg #[.int .i64 r1,v1_])∧Kd.R k74 74 w' w.heap.size (fun _=>True) v1_ r2∧Below w.heap.size w w':=by
 have hu30:=Tryd.underlying30
 have HR0_1:=zz31 hr0_1
 have HC0_1:=zz31 hc0_1
 clear hr0_1 hc0_1
 have HB:=zz31 (Below.refl w.heap.size w)
 have H:((spec_paTable.f k a0_0 l0_1).bind fun t362=>(spec_paOther.l0 k t362 (t362.length:Int) 0))=some (r1,r2):=h
 clear h
 replace H:=zz30.mp H
 obtain ⟨t362,A20,H⟩:=H
 replace H:(spec_paOther.l0 k t362 (t362.length:Int) 0)=some (r1,r2):=H
 have A2:=zz31 A20
 clear A20
 have H':=zz31 H
 clear H
 go_enter Tryd.func52,Tryd.ntmps52
 go_wp2_with (first | ((with_reducible refine gate_dst (N:=1) rfl ?_);refine box_event ?hg (N:=1) ?hd (cs:=#[.int .i64 a0_0,.slice A0_1 l0_1.length c0_1]) (t:=30) ?hr ?_;(case hd=>rfl);(case hg=>rfl);(case hr=>first | (go_simp;done) | (go_simp;rfl));intro gb360 hg w3 hbox hb;have n0_:=zz31 (zz4 (by repeat first | exact HB.out | apply zz2 | apply zz0 | apply zz1) hb);have n1_:=zz31 (hbox);have n2_:=zz31 ((by rw [hg];exact (zz5 (by repeat first | exact HB.out | apply zz2 | apply zz0 | apply zz1)):w.heap.size≤gb360));have n3_:=zz31 ((by rw [hg];exact (zz5 (by repeat first | exact HB.out | apply zz2 | apply zz0 | apply zz1)):w.heap.size≤gb360));clear HB;have HB:=n0_;have BK360:=n1_;have GW360:=n2_;have GE360:=n3_;clear n0_ n1_ n2_ n3_;clear hb hbox hg) | ((with_reducible refine gate_dst (N:=2) rfl ?_);refine box_event ?hg (N:=2) ?hd (cs:=#[.int .i64 0,.slice none 0 0]) (t:=30) ?hr ?_;(case hd=>rfl);(case hg=>rfl);(case hr=>first | (go_simp;done) | (go_simp;rfl));intro gb361 hg w4 hbox hb;have n0_:=zz31 (zz11 (g:=gb360) (o:=.cells #[.int .i64 a0_0,.slice A0_1 l0_1.length c0_1] 30 (0,0)) (by (with_reducible repeat (first | refine zz6 ?_ _ | refine zz7 ?_ | refine zz8 ?_ _));exact BK360.out) hb);have n1_:=zz31 (zz4 (by repeat first | exact HB.out | apply zz2 | apply zz0 | apply zz1 | refine zz3 ?_ GE360.out) hb);have n2_:=zz31 (hbox);have n3_:=zz31 ((by rw [hg];exact (zz5 (by repeat first | exact HB.out | apply zz2 | apply zz0 | apply zz1 | refine zz3 ?_ GE360.out)):w.heap.size≤gb361));have n4_:=zz31 ((by rw [hg];exact (zz5 (by repeat first | exact HB.out | apply zz2 | apply zz0 | apply zz1 | refine zz3 ?_ GE360.out)):w.heap.size≤gb361));have n5_:=zz31 ((by rw [hg];exact Nat.ne_of_lt (blk_lt (g:=gb360) (o:=.cells #[.int .i64 a0_0,.slice A0_1 l0_1.length c0_1] 30 (0,0)) (by (with_reducible repeat (first | refine zz6 ?_ _ | refine zz7 ?_ | refine zz8 ?_ _));exact BK360.out)):gb360 ≠ gb361));have n6_:=zz31 ((by rw [hg];exact Nat.ne_of_gt (blk_lt (g:=gb360) (o:=.cells #[.int .i64 a0_0,.slice A0_1 l0_1.length c0_1] 30 (0,0)) (by (with_reducible repeat (first | refine zz6 ?_ _ | refine zz7 ?_ | refine zz8 ?_ _));exact BK360.out)):gb361 ≠ gb360));clear BK360;clear HB;have BK360:=n0_;have HB:=n1_;have BK361:=n2_;have GW361:=n3_;have GE361:=n4_;have NB360_361:=n5_;have NB361_360:=n6_;clear n0_ n1_ n2_ n3_ n4_ n5_ n6_;clear hb hbox hg;have hnb5:=NB360_361.out;have hnc5:=NB361_360.out;have hcz6_0:w4.cell? ⟨gb360,0,none⟩=some (.int .i64 a0_0):=(zz9 BK360.out 0).trans rfl;have hcz6_1:w4.cell? ⟨gb360,1,none⟩=some (.slice A0_1 l0_1.length c0_1):=(zz9 BK360.out 1).trans rfl;have hfz6_0:=zz10 BK360.out 0;have hfz6_1:=zz10 BK360.out 1) | ((with_reducible refine gate_callee (f:=33) rfl ?_);refine goesL_ (some 7) rfl rfl Tryd.func33 (by kernel_rfl) rfl #[.agg #[.int .i64 a0_0,.slice A0_1 l0_1.length c0_1]] rfl (by (try simp only [zz26,zz27,zz28]);first | done | rfl | (simp only [zz24,zz25];rfl)) ?_;(with_reducible refine (spec_paTable.calls k a0_0 _ _ l0_1 t362 _ ?side1 ?side2 A2.out).mono ?_);(case side1=>repeat (first | exact (Kd.C_below HR0_1.out HB.out) | (with_reducible refine zz18 ?_ _) | (with_reducible refine zz19 ?_ _) | (with_reducible refine zz20 ?_)));(case side2=>exact HC0_1.out);rintro e w7 ⟨v363,rfl,ho0,hb⟩;refine ⟨_,rfl,?_⟩;have n0_:=zz31 (Kd.S_lower ho0 (zz5 (by repeat first | exact HB.out | apply zz2 | apply zz0 | apply zz1 | refine zz3 ?_ GE360.out | refine zz3 ?_ GE361.out)));have n1_:=zz31 (zz11 (g:=gb360) (o:=.cells #[.int .i64 a0_0,.slice A0_1 l0_1.length c0_1] 30 (0,0)) (by (with_reducible repeat (first | refine zz6 ?_ _ | refine zz7 ?_ | refine zz8 ?_ _));exact BK360.out) hb);have n2_:=zz31 (zz11 (g:=gb361) (o:=.cells #[.int .i64 0,.slice none 0 0] 30 (0,0)) (by (with_reducible repeat (first | refine zz6 ?_ _ | refine zz7 ?_ | refine zz8 ?_ _));exact BK361.out) hb);have n3_:=zz31 (zz4 (by repeat first | exact HB.out | apply zz2 | apply zz0 | apply zz1 | refine zz3 ?_ GE360.out | refine zz3 ?_ GE361.out) hb);clear BK360;clear BK361;clear HB;have HO364:=n0_;have BK360:=n1_;have BK361:=n2_;have HB:=n3_;clear n0_ n1_ n2_ n3_;(try clear hb);(try clear hb2);(try clear hk);(try clear hi);(try clear ho0);obtain ⟨Ao8,co8,eo8⟩:=Kd.S_slice HO364.out;subst eo8))
 go_loopg [10] k (fun kq v10 w'=>∃ (x3_1:List (List Bool)) (x10_1:Int),v10=.int .i64 x10_1∧Aside0 (spec_paOther.l0 kq x3_1 (t362.length:Int) x10_1=some (r1,r2))∧Aside0 (kq≤k)∧Aside0 (Kd.S (Kd.slice 4 Kd.bool) 68 w' w.heap.size (fun _=>True) (.slice Ao8 t362.length co8) x3_1)∧Aside0 (w'.heap[gb360]?=some (.cells #[.int .i64 a0_0,(.slice A0_1 l0_1.length c0_1)] 30 (0,0)))∧Aside0 (w'.heap[gb361]?=some (.cells #[.int .i64 0,(.slice none 0 0)] 30 (0,0)))∧Aside0 (Below w.heap.size w w'))
 case atStart=>exact ⟨(t362),(0),(by first | rfl | (simp;done) | (simp [*];done)),H',⟨Nat.le_refl _⟩,⟨by (with_reducible repeat (first | apply zz15 | apply zz16 | apply zz17));exact HO364.out⟩,⟨by (with_reducible repeat (first | refine zz6 ?_ _ | refine zz7 ?_ | refine zz8 ?_ _));exact BK360.out⟩,⟨by (with_reducible repeat (first | refine zz6 ?_ _ | refine zz7 ?_ | refine zz8 ?_ _));exact BK361.out⟩,⟨by repeat first | exact HB.out | apply zz2 | apply zz0 | apply zz1 | refine zz3 ?_ GE360.out | refine zz3 ?_ GE361.out⟩⟩
 case round =>
  clear H'
  try clear p2
  try clear c3
  try clear c5
  try clear hcz6_0
  try clear hcz6_1
  try clear hfz6_0
  try clear hfz6_1
  obtain ⟨x3_1,x10_1,rfl,HA,HK1,HO_3,BK360,BK361,HB⟩:=hrel
  have hl3_1:=(Kd.S_reads' HO_3.out).1
  rw [hl3_1] at HO_3
  (try simp only [hl3_1])
  (try simp only [hl3_1] at BK360)
  (try simp only [hl3_1] at BK361)
  cases gk with
  | zero=>exact absurd HA.out (by simp [spec_paOther.l0])
  | succ k1 =>
   have H:=HA.out
   clear HA
   simp only [spec_paOther.l0] at H
   by_cases c9:x10_1 < (t362.length:Int)
   ·rw [if_pos c9] at H
    have c9b0:decide (x10_1 < (t362.length:Int))=true:=decide_eq_true c9
    (try simp only [hl3_1] at c9b0)
    clear c9
    have H':=zz31 H
    clear H
    go_wp2
    go_loopg [15] k1 (fun kq v15 w'=>∃ (x3_2:List (List Bool)) (x15_2:Int),v15=.int .i64 x15_2∧Aside0 (spec_paOther.l1 kq x3_2 x10_1 (t362.length:Int) x10_1 (x3_1.length:Int) x15_2=some (r1,r2))∧Aside0 (kq≤k1)∧Aside0 (Kd.S (Kd.slice 4 Kd.bool) 68 w' w.heap.size (fun _=>True) (.slice Ao8 x3_1.length co8) x3_2)∧Aside0 (w'.heap[gb360]?=some (.cells #[.int .i64 a0_0,(.slice A0_1 l0_1.length c0_1)] 30 (0,0)))∧Aside0 (w'.heap[gb361]?=some (.cells #[.int .i64 0,(.slice none 0 0)] 30 (0,0)))∧Aside0 (Below w.heap.size w w'))
    case atStart=>exact ⟨(x3_1),(0),(by first | rfl | (simp;done) | (simp [*];done)),H',⟨Nat.le_refl _⟩,⟨by (try simp only [hl3_1]);(with_reducible repeat (first | apply zz15 | apply zz16 | apply zz17));exact HO_3.out⟩,⟨by (try simp only [hl3_1]);(with_reducible repeat (first | refine zz6 ?_ _ | refine zz7 ?_ | refine zz8 ?_ _));exact BK360.out⟩,⟨by (try simp only [hl3_1]);(with_reducible repeat (first | refine zz6 ?_ _ | refine zz7 ?_ | refine zz8 ?_ _));exact BK361.out⟩,⟨by repeat first | exact HB.out | apply zz2 | apply zz0 | apply zz1 | refine zz3 ?_ GE360.out | refine zz3 ?_ GE361.out⟩⟩
    case round =>
     clear H'
     try clear p2
     try clear c3
     try clear c5
     try clear c9
     try clear c9b0
     try clear hcz6_0
     try clear hcz6_1
     try clear hfz6_0
     try clear hfz6_1
     try clear p2
     obtain ⟨x3_2,x15_2,rfl,HA,HK2,HO_3,BK360,BK361,HB⟩:=hrel
     have hl3_2:=(Kd.S_reads' HO_3.out).1
     rw [hl3_2] at HO_3
     (try simp only [hl3_2])
     (try simp only [hl3_2] at BK360)
     (try simp only [hl3_2] at BK361)
     cases gk with
     | zero=>exact absurd HA.out (by simp [spec_paOther.l1])
     | succ k2 =>
      have H:=HA.out
      clear HA
      simp only [spec_paOther.l1] at H
      by_cases c10:x15_2 < (x3_1.length:Int)
      ·rw [if_pos c10] at H
       have c10b0:decide (x15_2 < (x3_1.length:Int))=true:=decide_eq_true c10
       (try simp only [hl3_1] at c10b0)
       (try simp only [hl3_2] at c10b0)
       clear c10
       by_cases c11:0≤x10_1
       ·rw [if_pos c11] at H
        have c11b0:decide (0≤x10_1)=true:=decide_eq_true c11
        clear c11
        by_cases c12:x10_1 < (x3_2.length:Int)
        ·rw [if_pos c12] at H
         have c12b0:decide (x10_1 < (x3_2.length:Int))=true:=decide_eq_true c12
         (try simp only [hl3_1] at c12b0)
         (try simp only [hl3_2] at c12b0)
         clear c12
         by_cases c13:0≤x15_2
         ·rw [if_pos c13] at H
          have c13b0:decide (0≤x15_2)=true:=decide_eq_true c13
          clear c13
          by_cases c14:x15_2 < ((rd_L4 x3_2 x10_1).length:Int)
          ·rw [if_pos c14] at H
           have c14b0:decide (x15_2 < ((rd_L4 x3_2 x10_1).length:Int))=true:=decide_eq_true c14
           (try simp only [hl3_1] at c14b0)
           (try simp only [hl3_2] at c14b0)
           clear c14
           obtain ⟨y372,hy372⟩:∃ y_:List Bool,y_=((rd_L4 x3_2 x10_1).set (x15_2:Int).toNat (!(rdOf false (rd_L4 x3_2 x10_1) x15_2))):=⟨_,rfl⟩
           replace H:(spec_paOther.l1 k2 (x3_2.set (x10_1:Int).toNat y372) x10_1 (t362.length:Int) x10_1 (x3_1.length:Int) (wrap64 (x15_2+1)))=some (r1,r2):=by first | (rw [hy372];with_reducible exact H) | (have H2_:=(Option.bind_some _ _).symm.trans H;rw [hy372];with_reducible exact H2_) | (have H2_:=(Option.bind_some _ _).symm.trans H;with_reducible exact H2_) | with_reducible exact H | (rw [hy372];exact H) | exact H
           have Ny372:=zz31 hy372
           clear hy372
           obtain ⟨y374,hy374⟩:∃ y_:List (List Bool),y_=(x3_2.set (x10_1:Int).toNat y372):=⟨_,rfl⟩
           replace H:(spec_paOther.l1 k2 y374 x10_1 (t362.length:Int) x10_1 (x3_1.length:Int) (wrap64 (x15_2+1)))=some (r1,r2):=by first | (rw [hy374];with_reducible exact H) | (have H2_:=(Option.bind_some _ _).symm.trans H;rw [hy374];with_reducible exact H2_) | (have H2_:=(Option.bind_some _ _).symm.trans H;with_reducible exact H2_) | with_reducible exact H | (rw [hy374];exact H) | exact H
           have Ny374:=zz31 hy374
           clear hy374
           have H':=zz31 H
           clear H
           try go_wp2
           have n0_:=zz31 (zz17 HO_3.out)
           have n1_:=zz31 (zz7 BK360.out)
           have n2_:=zz31 (zz7 BK361.out)
           have n3_:=zz31 (zz1 HB.out)
           clear HO_3
           clear BK360
           clear BK361
           clear HB
           have HO_3:=n0_
           have BK360:=n1_
           have BK361:=n2_
           have HB:=n3_
           clear n0_ n1_ n2_ n3_
           have p369:0≤(x10_1:Int):=zz29 (by first | (with_reducible assumption) | assumption)
           have q369:x10_1 < (x3_2.length:Int):=zz29 (by first | (with_reducible assumption) | assumption)
           obtain ⟨ad369,A369_0,c369_0,e369,hx369_0,hl369_0,hi369_0⟩:=at_L4 (Kd.S_reads' HO_3.out).2.2 x10_1 p369 q369
           cases e369
           obtain ⟨ce369,hce369,hMe369,hcc369⟩:=Kd.S_get HO_3.out [] x10_1 p369 (by first | exact q369 | exact zz29 (by first | (with_reducible assumption) | assumption) | (have e_:=(Kd.S_reads' HO_3.out).1;omega))
           obtain ⟨ve369_0,rfl,ge369_0⟩:=hMe369
           have hv369_0:=hcc369 0 _ rfl
           rw [Nat.add_zero,show ((Kd.slice 4 Kd.bool)).sz=1 from rfl,Nat.mul_one] at hv369_0
           replace hv369_0:=Option.some.inj (hv369_0.symm.trans hx369_0)
           rw [hv369_0] at ge369_0
           have HL369_0:=zz31 (show Kd.R Kd.bool 4 _ _ _ _ (rd_L4 x3_2 x10_1) from ge369_0)
           clear hv369_0 ge369_0
           have HX369_0:=zz31 hx369_0
           clear hcc369 hce369
           have HR369_0:=zz31 hi369_0
           have HC369_0:=zz31 hl369_0
           clear hi369_0 hl369_0
           replace p369:=eq_true p369
           replace q369:=eq_true q369
           have p370:0≤(x10_1:Int):=zz29 (by first | (with_reducible assumption) | assumption)
           have q370:x10_1 < (x3_2.length:Int):=zz29 (by first | (with_reducible assumption) | assumption)
           obtain ⟨ad370,A370_0,c370_0,e370,hx370_0,hl370_0,hi370_0⟩:=at_L4 (Kd.S_reads' HO_3.out).2.2 x10_1 p370 q370
           obtain rfl:ad369=ad370:=(by injection e370)
           obtain ⟨ce370,hce370,hMe370,hcc370⟩:=Kd.S_get HO_3.out [] x10_1 p370 (by first | exact q370 | exact zz29 (by first | (with_reducible assumption) | assumption) | (have e_:=(Kd.S_reads' HO_3.out).1;omega))
           obtain ⟨ve370_0,rfl,ge370_0⟩:=hMe370
           have hv370_0:=hcc370 0 _ rfl
           rw [Nat.add_zero,show ((Kd.slice 4 Kd.bool)).sz=1 from rfl,Nat.mul_one] at hv370_0
           replace hv370_0:=Option.some.inj (hv370_0.symm.trans hx370_0)
           rw [hv370_0] at ge370_0
           have HL370_0:=zz31 (show Kd.R Kd.bool 4 _ _ _ _ (rd_L4 x3_2 x10_1) from ge370_0)
           clear hv370_0 ge370_0
           have HX370_0:=zz31 hx370_0
           clear hcc370 hce370
           have HR370_0:=zz31 hi370_0
           have HC370_0:=zz31 hl370_0
           clear hi370_0 hl370_0
           replace p370:=eq_true p370
           replace q370:=eq_true q370
           have ea_:=Option.some.inj (hx369_0.symm.trans hx370_0)
           injection ea_ with ea_ en_ ec_
           subst ea_
           subst ec_
           clear en_
           have p371:0≤(x15_2:Int):=zz29 (by first | (with_reducible assumption) | assumption)
           have q371:x15_2 < ((rd_L4 x3_2 x10_1).length:Int):=zz29 (by first | (with_reducible assumption) | assumption)
           obtain ⟨ad371,e371,hx371_0⟩:=Kd.at_bool (by repeat (first | (with_reducible exact HR370_0.out) | (with_reducible refine zz18 ?_ _) | (with_reducible refine zz19 ?_ _) | (with_reducible refine zz20 ?_) | exact HR370_0.out)) x15_2 p371 q371
           cases e371
           replace p371:=eq_true p371
           replace q371:=eq_true q371
           have p15:0≤(x15_2:Int):=zz29 (by first | (with_reducible assumption) | assumption)
           have q15:(x15_2:Int) < (((rd_L4 x3_2 x10_1).length:Int):Int):=zz29 (by first | (with_reducible assumption) | assumption)
           obtain ⟨go15,co15,eo15,gb15,gl15,cl15,HG15⟩:=Kd.R_form HL369_0.out (by omega)
           (first | cases eo15 | (injection eo15 with ea_ en_ ec_;(first | subst ea_ | (injection ea_ with ea_;subst ea_));subst ec_;clear en_))
           have GB15:=zz31 gb15
           have GG15:=zz31 HG15
           clear gb15 gl15 HG15
           (first | simp only [add_plain] at hx371_0 | skip)
           obtain ⟨hx15_0,hf15_0⟩:=Kd.R_celln false HL369_0.out (x15_2:Int) p15 q15
           replace p15:=eq_true p15
           replace q15:=eq_true q15
           have hq17:(x10_1:Int) < (x3_2.length:Int):=(by have h_:(x10_1:Int) < ((x3_2.length:Int):Int):=zz29 (by first | (with_reducible assumption) | assumption);first | exact h_ | (have e_:=(Kd.S_reads' HO_3.out).1;omega) | simpa only [List.length_set,List.length_set] using h_)
           obtain ⟨oki17,ce17,hcl17,hM17,hcc17,hok17,hbk17⟩:=Kd.S_borrow HO_3.out [] (x10_1:Int) (zz29 (by first | (with_reducible assumption) | assumption)) (by first | exact hq17 | (have e_:=(Kd.S_reads' HO_3.out).1;omega))
           obtain ⟨ve17_0,rfl,ge17_0⟩:=hM17
           have hv17:=hcc17 0 _ rfl
           rw [Nat.add_zero,show ((Kd.slice 4 Kd.bool)).sz=1 from rfl,Nat.mul_one] at hv17
           replace hv17:=Option.some.inj (hv17.symm.trans HX369_0.out)
           subst hv17
           clear hcc17 hcl17
           replace ge17_0:=(show Kd.R Kd.bool 4 _ _ _ _ (rd_L4 x3_2 x10_1) from ge17_0)
           have HP17:=Kd.R_putg ge17_0 (x15_2:Int) (!(rdOf false (rd_L4 x3_2 x10_1) x15_2))
           rw [← Ny372.out] at HP17
           have HS17:=hbk17 HP17.2 (fun k_ e_=>by injection e_ with e_;subst e_;exact ge17_0.1 _ rfl) (x':=y372) (Kd.M_row HP17.1)
           rw [← Ny374.out] at HS17
           have HQ17:=zz31 HS17
           clear HP17 HS17 hbk17 hok17
           refine start_ (n:=15) (S:=fun w'=>w'.cell? (ad369.add (x10_1).toNat)=some (.slice (some (⟨go15,0,none⟩:Addr)) (rd_L4 x3_2 x10_1).length c369_0)∧w'.cell? (ad369.add (x10_1).toNat)=some (.slice (some (⟨go15,0,none⟩:Addr)) (rd_L4 x3_2 x10_1).length c369_0)∧w'.cell? ⟨go15,(x15_2).toNat,none⟩=some (.bool (rdOf false (rd_L4 x3_2 x10_1) x15_2))) (ds:=[14]) #[F,F,F,F,F,F,F,F,F,F,F,F,F,F,F] (by kernel_rfl) rfl rfl ⟨hx369_0,hx370_0,hx371_0⟩ (fun hHeld=>?_);refine with_tabW spec_paOther.tab8 spec_paOther.bits8 (fun HT_ HW_=>?_)
           generalize wr.drew=w16 at HO_3 BK360 BK361 HB GG15 HL369_0 HL370_0 HQ17 HR369_0 HR370_0 HX369_0 HX370_0 hf15_0 hx15_0 hx369_0 hx370_0 hx371_0 hHeld ⊢
           refine pure_ (i:=0) (N:=some 18) (v:=?_) (a':=?_) #[T,F,F,F,F,F,F,F,F,F,F,F,F,F,F] rfl rfl (any_of HT_.out (by kernel_rfl)) (fun _ _ _ h=>h) (Or.inl ⟨by rfl,?_⟩) ?_ ?_
           rotate_left
           ·intro w'
            go_simp
            with_reducible rfl
           rotate_left
           ·simp only [Act.put,zz21,zz22,zz23,i64_w,i32_w]
            rfl
           refine pure_ (i:=1) (N:=some 19) (v:=?_) (a':=?_) #[T,T,F,F,F,F,F,F,F,F,F,F,F,F,F] rfl rfl (any_of HT_.out (by kernel_rfl)) (fun _ _ _ h=>h) (Or.inl ⟨by rfl,?_⟩) ?_ ?_
           rotate_left
           ·intro w'
            go_simp
            with_reducible rfl
           rotate_left
           ·simp only [Act.put,zz21,zz22,zz23,i64_w,i32_w]
            rfl
           refine pure_ (i:=2) (N:=some 20) (v:=?_) (a':=?_) #[T,T,T,F,F,F,F,F,F,F,F,F,F,F,F] rfl rfl (any_of HT_.out (by kernel_rfl)) (fun _ _ _ h=>h) (Or.inl ⟨by rfl,?_⟩) ?_ ?_
           rotate_left
           ·intro w'
            go_simp
            with_reducible rfl
           rotate_left
           ·simp only [Act.put,zz21,zz22,zz23,i64_w,i32_w]
            rfl
           refine pure_ (i:=4) (N:=some 22) (v:=?_) (a':=?_) #[T,T,T,F,T,F,F,F,F,F,F,F,F,F,F] rfl rfl (any_of HT_.out (by kernel_rfl)) (fun _ _ _ h=>h) (Or.inl ⟨by rfl,?_⟩) ?_ ?_
           rotate_left
           ·intro w'
            go_simp
            with_reducible rfl
           rotate_left
           ·simp only [Act.put,zz21,zz22,zz23,i64_w,i32_w]
            rfl
           refine pure_ (i:=5) (N:=some 23) (v:=?_) (a':=?_) #[T,T,T,F,T,T,F,F,F,F,F,F,F,F,F] rfl rfl (any_of HT_.out (by kernel_rfl)) (fun _ _ _ h=>h) (Or.inl ⟨by rfl,?_⟩) ?_ ?_
           rotate_left
           ·intro w'
            go_simp
            with_reducible rfl
           rotate_left
           ·simp only [Act.put,zz21,zz22,zz23,i64_w,i32_w]
            rfl
           refine pure_ (i:=6) (N:=some 24) (v:=?_) (a':=?_) #[T,T,T,F,T,T,T,F,F,F,F,F,F,F,F] rfl rfl (any_of HT_.out (by kernel_rfl)) (fun _ _ _ h=>h) (Or.inl ⟨by rfl,?_⟩) ?_ ?_
           rotate_left
           ·intro w'
            go_simp
            with_reducible rfl
           rotate_left
           ·simp only [Act.put,zz21,zz22,zz23,i64_w,i32_w]
            rfl
           refine pure_ (i:=7) (N:=some 25) (v:=?_) (a':=?_) #[T,T,T,F,T,T,T,T,F,F,F,F,F,F,F] rfl rfl (any_of HT_.out (by kernel_rfl)) (fun _ _ _ h=>h) (Or.inl ⟨by rfl,?_⟩) ?_ ?_
           rotate_left
           ·intro w'
            go_simp
            with_reducible rfl
           rotate_left
           ·simp only [Act.put,zz21,zz22,zz23,i64_w,i32_w]
            rfl
           refine pure_ (i:=9) (N:=some 27) (v:=?_) (a':=?_) #[T,T,T,F,T,T,T,T,F,T,F,F,F,F,F] rfl rfl (any_of HT_.out (by kernel_rfl)) (fun _ _ _ h=>h) (Or.inl ⟨by rfl,?_⟩) ?_ ?_
           rotate_left
           ·intro w'
            go_simp
            with_reducible rfl
           rotate_left
           ·simp only [Act.put,zz21,zz22,zz23,i64_w,i32_w]
            rfl
           refine take_ (i:=3) (N:=some 21) (v:=?_) (a':=?_) #[T,T,T,T,T,T,T,T,F,T,F,F,F,F,F] rfl rfl (take_ofW HT_.out HW_.out (by kernel_rfl)) (fun _ _ _ h=>h) (Or.inl ⟨by rfl,?_⟩) hHeld ?_ ?_
           rotate_left
           ·rintro w' ⟨s0,s1,s2⟩
            go_simp
            with_reducible rfl
           rotate_left
           ·simp only [Act.put,zz21,zz22,zz23,i64_w,i32_w]
            rfl
           refine take_ (i:=8) (N:=some 26) (v:=?_) (a':=?_) #[T,T,T,T,T,T,T,T,T,T,F,F,F,F,F] rfl rfl (take_ofW HT_.out HW_.out (by kernel_rfl)) (fun _ _ _ h=>h) (Or.inl ⟨by rfl,?_⟩) hHeld ?_ ?_
           rotate_left
           ·rintro w' ⟨s0,s1,s2⟩
            go_simp
            with_reducible rfl
           rotate_left
           ·simp only [Act.put,zz21,zz22,zz23,i64_w,i32_w]
            rfl
           refine pure_ (i:=10) (N:=some 28) (v:=?_) (a':=?_) #[T,T,T,T,T,T,T,T,T,T,T,F,F,F,F] rfl rfl (any_of HT_.out (by kernel_rfl)) (fun _ _ _ h=>h) (Or.inl ⟨by rfl,?_⟩) ?_ ?_
           rotate_left
           ·intro w'
            go_simp
            with_reducible rfl
           rotate_left
           ·simp only [Act.put,zz21,zz22,zz23,i64_w,i32_w]
            rfl
           refine take_ (i:=11) (N:=some 29) (v:=?_) (a':=?_) #[T,T,T,T,T,T,T,T,T,T,T,T,F,F,F] rfl rfl (take_ofW HT_.out HW_.out (by kernel_rfl)) (fun _ _ _ h=>h) (Or.inl ⟨by rfl,?_⟩) hHeld ?_ ?_
           rotate_left
           ·rintro w' ⟨s0,s1,s2⟩
            go_simp
            with_reducible rfl
           rotate_left
           ·simp only [Act.put,zz21,zz22,zz23,i64_w,i32_w]
            rfl
           refine pure_ (i:=12) (N:=some 30) (v:=?_) (a':=?_) #[T,T,T,T,T,T,T,T,T,T,T,T,T,F,F] rfl rfl (any_of HT_.out (by kernel_rfl)) (fun _ _ _ h=>h) (Or.inl ⟨by rfl,?_⟩) ?_ ?_
           rotate_left
           ·intro w'
            go_simp
            with_reducible rfl
           rotate_left
           ·simp only [Act.put,zz21,zz22,zz23,i64_w,i32_w]
            rfl
           refine pure_ (i:=13) (N:=some 31) (v:=?_) (a':=?_) #[T,T,T,T,T,T,T,T,T,T,T,T,T,T,F] rfl rfl (any_of HT_.out (by kernel_rfl)) (fun _ _ _ h=>h) (Or.inl ⟨by rfl,?_⟩) ?_ ?_
           rotate_left
           ·intro w'
            go_simp
            with_reducible rfl
           rotate_left
           ·simp only [Act.put,zz21,zz22,zz23,i64_w,i32_w]
            rfl
           refine last_ (i:=14) (N:=none) #[T,T,T,T,T,T,T,T,T,T,T,T,T,T,T] rfl rfl (one_of HT_.out (by kernel_rfl)) (by decide) (fun K hK=>?_)
           refine skip_ (w1:=?_) (by rfl) rfl ?_ ?_
           rotate_left
           ·go_simp
            rfl
           refine hK.out _ _ ?_
           clear hK K
           refine done_ (done_of HT_.out (by kernel_rfl)) ?_
           try go_wp2
           (try simp only [← hl3_2])
           go_roundg k2
           case measure=>have:=HK1.out;have:=HK2.out;omega
           case rel=>exact ⟨(y374),(wrap64 (x15_2+1)),(by first | rfl | (simp;done) | (simp [*];done)),H',⟨by have:=HK1.out;have:=HK2.out;omega⟩,⟨by (try simp only [hl3_1]);(try simp only [hl3_2]);(with_reducible repeat (first | apply zz15 | apply zz16 | apply zz17));exact HQ17.out⟩,⟨by (try simp only [hl3_1]);(try simp only [hl3_2]);(with_reducible repeat (first | refine zz6 ?_ _ | refine zz7 ?_ | refine zz8 ?_ _));refine blk_far ?_ (by have h_:=Kd.R_ne HL369_0.out BK360.out (by decide);intro e_;exact h_ (by rw [e_];rfl)) _;(with_reducible repeat (first | refine zz6 ?_ _ | refine zz7 ?_ | refine zz8 ?_ _));exact BK360.out⟩,⟨by (try simp only [hl3_1]);(try simp only [hl3_2]);(with_reducible repeat (first | refine zz6 ?_ _ | refine zz7 ?_ | refine zz8 ?_ _));refine blk_far ?_ (by have h_:=Kd.R_ne HL369_0.out BK361.out (by decide);intro e_;exact h_ (by rw [e_];rfl)) _;(with_reducible repeat (first | refine zz6 ?_ _ | refine zz7 ?_ | refine zz8 ?_ _));exact BK361.out⟩,⟨by repeat first | exact HB.out | apply zz2 | apply zz0 | apply zz1 | refine zz3 ?_ GB15.out | refine zz3 ?_ GE360.out | refine zz3 ?_ GE361.out⟩⟩
          ·rw [if_neg c14] at H
           exact absurd H (by simp)
         ·rw [if_neg c13] at H
          exact absurd H (by simp)
        ·rw [if_neg c12] at H
         exact absurd H (by simp)
       ·rw [if_neg c11] at H
        exact absurd H (by simp)
      ·rw [if_neg c10] at H
       have c10b0:decide (x15_2 < (x3_1.length:Int))=false:=decide_eq_false c10
       (try simp only [hl3_1] at c10b0)
       (try simp only [hl3_2] at c10b0)
       clear c10
       have H':=zz31 H
       clear H
       go_wp2
       (try simp only [← hl3_1,← hl3_2])
       go_roundg k2
       case measure=>have:=HK1.out;have:=HK2.out;omega
       case rel=>exact ⟨(x3_2),(wrap64 (x10_1+1)),(by first | rfl | (simp;done) | (simp [*];done)),H',⟨by have:=HK1.out;have:=HK2.out;omega⟩,⟨by (try simp only [hl3_1]);(try simp only [hl3_2]);(with_reducible repeat (first | apply zz15 | apply zz16 | apply zz17));exact HO_3.out⟩,⟨by (try simp only [hl3_1]);(try simp only [hl3_2]);(with_reducible repeat (first | refine zz6 ?_ _ | refine zz7 ?_ | refine zz8 ?_ _));exact BK360.out⟩,⟨by (try simp only [hl3_1]);(try simp only [hl3_2]);(with_reducible repeat (first | refine zz6 ?_ _ | refine zz7 ?_ | refine zz8 ?_ _));exact BK361.out⟩,⟨by repeat first | exact HB.out | apply zz2 | apply zz0 | apply zz1 | refine zz3 ?_ GE360.out | refine zz3 ?_ GE361.out⟩⟩
   ·rw [if_neg c9] at H
    have c9b0:decide (x10_1 < (t362.length:Int))=false:=decide_eq_false c9
    (try simp only [hl3_1] at c9b0)
    clear c9
    replace H:=zz30.mp H
    obtain ⟨⟨t365,t366⟩,A190,H⟩:=H
    replace H:(some (t365,t366))=some (r1,r2):=H
    have A19:=zz31 A190
    clear A190
    simp only [Option.some.injEq,Prod.mk.injEq] at H
    obtain ⟨rfl,rfl⟩:=H
    go_wp2_with (first | ((with_reducible refine gate_callee (f:=74) rfl ?_);refine goesL_ (some 35) rfl rfl Tryd.func74 (by kernel_rfl) rfl #[.slice Ao8 x3_1.length co8] rfl (by (try simp only [zz26,zz27,zz28]);first | done | rfl | (simp only [zz24,zz25];rfl)) ?_;(with_reducible refine (spec_paOf.calls k1 _ _ x3_1 t365 t366 _ ?side1 ?side2 A19.out).mono ?_);(case side1=>repeat (first | exact (Kd.S_reads' HO_3.out).2.2 | (with_reducible refine zz18 ?_ _) | (with_reducible refine zz19 ?_ _) | (with_reducible refine zz20 ?_)));(case side2=>exact (Kd.S_reads' HO_3.out).2.1);rintro e w20 ⟨v367,rfl,ho0,hb⟩;refine ⟨_,rfl,?_⟩;have n0_:=zz31 (Kd.S_below (by (with_reducible repeat (first | apply zz15 | apply zz16 | apply zz17));exact HO_3.out) hb);have n1_:=zz31 (Kd.R_lower ho0 (zz5 (by repeat first | exact HB.out | apply zz2 | apply zz0 | apply zz1 | refine zz3 ?_ GE360.out | refine zz3 ?_ GE361.out)));have n2_:=zz31 (zz11 (g:=gb360) (o:=.cells #[.int .i64 a0_0,.slice A0_1 l0_1.length c0_1] 30 (0,0)) (by (with_reducible repeat (first | refine zz6 ?_ _ | refine zz7 ?_ | refine zz8 ?_ _));exact BK360.out) hb);have n3_:=zz31 (zz11 (g:=gb361) (o:=.cells #[.int .i64 0,.slice none 0 0] 30 (0,0)) (by (with_reducible repeat (first | refine zz6 ?_ _ | refine zz7 ?_ | refine zz8 ?_ _));exact BK361.out) hb);have n4_:=zz31 (zz4 (by repeat first | exact HB.out | apply zz2 | apply zz0 | apply zz1 | refine zz3 ?_ GE360.out | refine zz3 ?_ GE361.out) hb);clear HO_3;clear BK360;clear BK361;clear HB;have HO_3:=n0_;have HO368:=n1_;have BK360:=n2_;have BK361:=n3_;have HB:=n4_;clear n0_ n1_ n2_ n3_ n4_;(try clear hb);(try clear hb2);(try clear hk);(try clear hi);(try clear ho0);have hnb21:=NB361_360.out;have hnc21:=NB360_361.out;have hcz22_0:w20.cell? ⟨gb361,0,none⟩=some (.int .i64 0):=(zz9 BK361.out 0).trans rfl;have hcz22_1:w20.cell? ⟨gb361,1,none⟩=some (.slice none 0 0):=(zz9 BK361.out 1).trans rfl;have hfz22_0:=zz10 BK361.out 0;have hfz22_1:=zz10 BK361.out 1;obtain ⟨Ao23,co23,eo23⟩:=Kd.R_slice HO368.out;subst eo23))
    refine bodyPost_ret (results_cell_row rfl _ _ gb361 30 #[.int .i64 t365,.slice Ao23 t366.length co23] (0,0) _ rfl (by (with_reducible repeat (first | refine zz6 ?_ _ | refine zz7 ?_ | refine zz8 ?_ _));refine blk_put (cs:=#[.int .i64 t365,.slice none 0 0]) ?_ 1 _ rfl;(with_reducible repeat (first | refine zz6 ?_ _ | refine zz7 ?_ | refine zz8 ?_ _));refine blk_put (cs:=#[.int .i64 0,.slice none 0 0]) ?_ 0 _ rfl;(with_reducible repeat (first | refine zz6 ?_ _ | refine zz7 ?_ | refine zz8 ?_ _));exact BK361.out) Tryd.underlying30 rfl (by kernel_rfl)) rfl ?_
    exact ⟨_,by first | rfl | (simp [errW_none,errW_some] <;> rfl) | (simp [*,errW_none,errW_some] <;> rfl),by (with_reducible repeat (first | apply zz12 | apply zz13 | apply zz14));exact Kd.R_mono (Kd.R_far (p:=⟨gb361,1,none⟩) (Kd.R_far (p:=⟨gb361,0,none⟩) (Kd.R_types HO368.out BK361.out (by decide)) (fun _ hk=>hk.2) (.int .i64 t365)) (fun _ hk=>hk.2) (.slice Ao23 t366.length co23)) (fun _ hk=>trivial),by repeat first | exact HB.out | apply zz2 | apply zz0 | apply zz1 | refine zz3 ?_ GE360.out | refine zz3 ?_ GE361.out⟩

/-! ### spec_GreatestStrange: function 24 -/
def spec_GreatestStrange.f (k:Nat) (a0_0:Int) (l0_1:List (S74)):Option (List Int × Bool):=(spec_paGood.f k a0_0 l0_1).bind fun t376=>(if t376=true then ((spec_paOther.f k a0_0 l0_1).bind fun bt377=>((spec_trGreatest.f k bt377.1 bt377.2).bind fun t381=>(some (t381,true)))) else (some (([]:List Int),false)))
theorem spec_GreatestStrange.mono:∀ a0 a1 k,LeO (spec_GreatestStrange.f k a0 a1) (spec_GreatestStrange.f (k+1) a0 a1):=by
 intro a0 a1 k
 unfold spec_GreatestStrange.f
 repeat' first
   | (with_reducible exact spec_paGood.mono _ _ _)
   | (with_reducible exact spec_paOther.mono _ _ _)
   | (with_reducible exact spec_trGreatest.mono _ _ _)
   | (with_reducible exact LeO.refl _)
   | (with_reducible exact LeO.none _)
   | (with_reducible refine LeO.ite ?_ ?_)
   | (with_reducible refine LeO.bind ?_ (fun _=>?_))
   | exact spec_paGood.mono _ _ _
   | exact spec_paOther.mono _ _ _
   | exact spec_trGreatest.mono _ _ _
   | exact LeO.none _
   | refine LeO.ite ?_ ?_
   | refine LeO.bind ?_ (fun _=>?_)
set_option maxHeartbeats 8000000 in
set_option maxRecDepth 100000 in
theorem spec_GreatestStrange.calls (k:Nat) (a0_0:Int) (A0_1:Option Addr) (c0_1:Nat) (l0_1:List (S74)) (r1:List Int) (r2:Bool) (w:World) (hr0_1:Kd.C k74 w A0_1 l0_1.length l0_1) (hc0_1:l0_1.length≤c0_1) (h:spec_GreatestStrange.f k a0_0 l0_1=some (r1,r2)) :
  Calls Tryd.prog 24 #[.agg #[.int .i64 a0_0,.slice A0_1 l0_1.length c0_1]] w fun e w'=>∃ v0_:Value,e=.returned (.tuple #[v0_,.bool r2])∧Kd.V (Kd.int .i64) 3 w' w.heap.size (fun k_=>(w.heap.size≤k_)) v0_ r1∧Below w.heap.size w w':=by
 have hu30:=Tryd.underlying30
 have HR0_1:=zz31 hr0_1
 have HC0_1:=zz31 hc0_1
 clear hr0_1 hc0_1
 have HB:=zz31 (Below.refl w.heap.size w)
 have H:((spec_paGood.f k a0_0 l0_1).bind fun t376=>(if t376=true then ((spec_paOther.f k a0_0 l0_1).bind fun bt377=>((spec_trGreatest.f k bt377.1 bt377.2).bind fun t381=>(some (t381,true)))) else (some (([]:List Int),false))))=some (r1,r2):=h
 clear h
 replace H:=zz30.mp H
 obtain ⟨t376,A20,H⟩:=H
 replace H:(if t376=true then ((spec_paOther.f k a0_0 l0_1).bind fun bt377=>((spec_trGreatest.f k bt377.1 bt377.2).bind fun t381=>(some (t381,true)))) else (some (([]:List Int),false)))=some (r1,r2):=H
 have A2:=zz31 A20
 clear A20
 by_cases c3:t376=true
 ·subst c3
  have H1:((spec_paOther.f k a0_0 l0_1).bind fun bt377=>((spec_trGreatest.f k bt377.1 bt377.2).bind fun t381=>(some (t381,true))))=some (r1,r2):=by rw [if_pos rfl] at H;exact H
  clear H
  have H:=H1
  clear H1
  replace H:=zz30.mp H
  obtain ⟨⟨t377,t378⟩,A40,H⟩:=H
  replace H:((spec_trGreatest.f k t377 t378).bind fun t381=>(some (t381,true)))=some (r1,r2):=H
  have A4:=zz31 A40
  clear A40
  replace H:=zz30.mp H
  obtain ⟨t381,A50,H⟩:=H
  replace H:(some (t381,true))=some (r1,r2):=H
  have A5:=zz31 A50
  clear A50
  simp only [Option.some.injEq,Prod.mk.injEq] at H
  obtain ⟨rfl,rfl⟩:=H
  go_enter Tryd.func24,Tryd.ntmps24
  go_wp2_with (first | ((with_reducible refine gate_dst (N:=1) rfl ?_);refine box_event ?hg (N:=1) ?hd (cs:=#[.int .i64 a0_0,.slice A0_1 l0_1.length c0_1]) (t:=30) ?hr ?_;(case hd=>rfl);(case hg=>rfl);(case hr=>first | (go_simp;done) | (go_simp;rfl));intro gb375 hg w6 hbox hb;have n0_:=zz31 (zz4 (by repeat first | exact HB.out | apply zz2 | apply zz0 | apply zz1) hb);have n1_:=zz31 (hbox);have n2_:=zz31 ((by rw [hg];exact (zz5 (by repeat first | exact HB.out | apply zz2 | apply zz0 | apply zz1)):w.heap.size≤gb375));have n3_:=zz31 ((by rw [hg];exact (zz5 (by repeat first | exact HB.out | apply zz2 | apply zz0 | apply zz1)):w.heap.size≤gb375));clear HB;have HB:=n0_;have BK375:=n1_;have GW375:=n2_;have GE375:=n3_;clear n0_ n1_ n2_ n3_;clear hb hbox hg;have hcz7_0:w6.cell? ⟨gb375,0,none⟩=some (.int .i64 a0_0):=(zz9 BK375.out 0).trans rfl;have hcz7_1:w6.cell? ⟨gb375,1,none⟩=some (.slice A0_1 l0_1.length c0_1):=(zz9 BK375.out 1).trans rfl;have hfz7_0:=zz10 BK375.out 0;have hfz7_1:=zz10 BK375.out 1) | ((with_reducible refine gate_callee (f:=30) rfl ?_);refine goesL_ (some 5) rfl rfl Tryd.func30 (by kernel_rfl) rfl #[.agg #[.int .i64 a0_0,.slice A0_1 l0_1.length c0_1]] rfl (by (try simp only [zz26,zz27,zz28]);first | done | rfl | (simp only [zz24,zz25];rfl)) ?_;(with_reducible refine (spec_paGood.calls k a0_0 _ _ l0_1 true _ ?side1 ?side2 A2.out).mono ?_);(case side1=>repeat (first | exact (Kd.C_below HR0_1.out HB.out) | (with_reducible refine zz18 ?_ _) | (with_reducible refine zz19 ?_ _) | (with_reducible refine zz20 ?_)));(case side2=>exact HC0_1.out);rintro e w8 ⟨rfl,hb⟩;refine ⟨_,rfl,?_⟩;have n0_:=zz31 (zz11 (g:=gb375) (o:=.cells #[.int .i64 a0_0,.slice A0_1 l0_1.length c0_1] 30 (0,0)) (by (with_reducible repeat (first | refine zz6 ?_ _ | refine zz7 ?_ | refine zz8 ?_ _));exact BK375.out) hb);have n1_:=zz31 (zz4 (by repeat first | exact HB.out | apply zz2 | apply zz0 | apply zz1 | refine zz3 ?_ GE375.out) hb);clear BK375;clear HB;have BK375:=n0_;have HB:=n1_;clear n0_ n1_;(try clear hb);(try clear hb2);(try clear hk);(try clear hi);have hcz9_0:w8.cell? ⟨gb375,0,none⟩=some (.int .i64 a0_0):=(zz9 BK375.out 0).trans rfl;have hcz9_1:w8.cell? ⟨gb375,1,none⟩=some (.slice A0_1 l0_1.length c0_1):=(zz9 BK375.out 1).trans rfl;have hfz9_0:=zz10 BK375.out 0;have hfz9_1:=zz10 BK375.out 1) | ((with_reducible refine gate_callee (f:=52) rfl ?_);refine goesL_ (some 8) rfl rfl Tryd.func52 (by kernel_rfl) rfl #[.agg #[.int .i64 a0_0,.slice A0_1 l0_1.length c0_1]] rfl (by (try simp only [zz26,zz27,zz28]);first | done | rfl | (simp only [zz24,zz25];rfl)) ?_;(with_reducible refine (spec_paOther.calls k a0_0 _ _ l0_1 t377 t378 _ ?side1 ?side2 A4.out).mono ?_);(case side1=>repeat (first | exact (Kd.C_below HR0_1.out HB.out) | (with_reducible refine zz18 ?_ _) | (with_reducible refine zz19 ?_ _) | (with_reducible refine zz20 ?_)));(case side2=>exact HC0_1.out);rintro e w10 ⟨v379,rfl,ho0,hb⟩;refine ⟨_,rfl,?_⟩;have n0_:=zz31 (Kd.R_lower (Kd.R_newM (M:=fun k_=>(w.heap.size≤k_)) ho0 (zz5 (by repeat first | exact HB.out | apply zz2 | apply zz0 | apply zz1 | refine zz3 ?_ GE375.out)) (fun k_ h_=>h_)) (zz5 (by repeat first | exact HB.out | apply zz2 | apply zz0 | apply zz1 | refine zz3 ?_ GE375.out)));have n1_:=zz31 (zz11 (g:=gb375) (o:=.cells #[.int .i64 a0_0,.slice A0_1 l0_1.length c0_1] 30 (0,0)) (by (with_reducible repeat (first | refine zz6 ?_ _ | refine zz7 ?_ | refine zz8 ?_ _));exact BK375.out) hb);have n2_:=zz31 (zz4 (by repeat first | exact HB.out | apply zz2 | apply zz0 | apply zz1 | refine zz3 ?_ GE375.out) hb);clear BK375;clear HB;have HO380:=n0_;have BK375:=n1_;have HB:=n2_;clear n0_ n1_ n2_;(try clear hb);(try clear hb2);(try clear hk);(try clear hi);(try clear ho0);obtain ⟨Ao11,co11,eo11⟩:=Kd.R_slice HO380.out;subst eo11) | ((with_reducible refine gate_callee (f:=50) rfl ?_);refine goesL_ (some 9) rfl rfl Tryd.func50 (by kernel_rfl) rfl #[.agg #[.int .i64 t377,.slice Ao11 t378.length co11]] rfl (by (try simp only [zz26,zz27,zz28]);first | done | rfl | (simp only [zz24,zz25];rfl)) ?_;(with_reducible refine (spec_trGreatest.calls k t377 _ _ t378 t381 _ ?side1 ?side2 A5.out).mono ?_);(case side1=>repeat (first | exact (Kd.R_reads' HO380.out).2.2 | (with_reducible refine zz18 ?_ _) | (with_reducible refine zz19 ?_ _) | (with_reducible refine zz20 ?_)));(case side2=>exact (Kd.R_reads' HO380.out).2.1);rintro e w12 ⟨v382,rfl,ho0,hb⟩;refine ⟨_,rfl,?_⟩;have n0_:=zz31 (Kd.R_below (by (with_reducible repeat (first | apply zz12 | apply zz13 | apply zz14));exact HO380.out) hb);have n1_:=zz31 (Kd.V_lower (Kd.V_mono (ok':=fun k_=>(w.heap.size≤k_)∧some k_ ≠ (.slice Ao11 t378.length co11:Value).ownBlock∧k_ ≠ gb375) ho0 (fun k_ hk_=>⟨(Nat.le_trans (zz5 (by repeat first | exact HB.out | apply zz2 | apply zz0 | apply zz1 | refine zz3 ?_ GE375.out)) hk_),(Kd.fresh' (Kd.R_lt (by (with_reducible repeat (first | apply zz12 | apply zz13 | apply zz14));exact HO380.out)) k_ hk_),(Kd.freshB (g:=gb375) (o:=.cells #[.int .i64 a0_0,.slice A0_1 l0_1.length c0_1] 30 (0,0)) (by (with_reducible repeat (first | refine zz6 ?_ _ | refine zz7 ?_ | refine zz8 ?_ _));exact BK375.out) k_ hk_)⟩)) (zz5 (by repeat first | exact HB.out | apply zz2 | apply zz0 | apply zz1 | refine zz3 ?_ GE375.out)));have n2_:=zz31 (zz11 (g:=gb375) (o:=.cells #[.int .i64 a0_0,.slice A0_1 l0_1.length c0_1] 30 (0,0)) (by (with_reducible repeat (first | refine zz6 ?_ _ | refine zz7 ?_ | refine zz8 ?_ _));exact BK375.out) hb);have n3_:=zz31 (zz4 (by repeat first | exact HB.out | apply zz2 | apply zz0 | apply zz1 | refine zz3 ?_ GE375.out) hb);clear HO380;clear BK375;clear HB;have HO380:=n0_;have HO383:=n1_;have BK375:=n2_;have HB:=n3_;clear n0_ n1_ n2_ n3_;(try clear hb);(try clear hb2);(try clear hk);(try clear hi);(try clear ho0)))
  go_ret2
  exact ⟨_,by first | rfl | (simp [errW_none,errW_some] <;> rfl) | (simp [*,errW_none,errW_some] <;> rfl),by (with_reducible repeat (first | apply Kd.V_alloc | apply Kd.V_drewN | apply Kd.V_drew));exact Kd.V_mono HO383.out (fun _ hk=>hk.1),by repeat first | exact HB.out | apply zz2 | apply zz0 | apply zz1 | refine zz3 ?_ GE375.out⟩
 ·replace c3:=Bool.eq_false_iff.mpr c3
  subst c3
  have H1:(some (([]:List Int),false))=some (r1,r2):=by rw [if_neg (show ¬ (false=true) by decide)] at H;exact H
  clear H
  have H:=H1
  clear H1
  simp only [Option.some.injEq,Prod.mk.injEq] at H
  obtain ⟨rfl,rfl⟩:=H
  go_enter Tryd.func24,Tryd.ntmps24
  go_wp2_with (first | ((with_reducible refine gate_dst (N:=1) rfl ?_);refine box_event ?hg (N:=1) ?hd (cs:=#[.int .i64 a0_0,.slice A0_1 l0_1.length c0_1]) (t:=30) ?hr ?_;(case hd=>rfl);(case hg=>rfl);(case hr=>first | (go_simp;done) | (go_simp;rfl));intro gb375 hg w13 hbox hb;have n0_:=zz31 (zz4 (by repeat first | exact HB.out | apply zz2 | apply zz0 | apply zz1) hb);have n1_:=zz31 (hbox);have n2_:=zz31 ((by rw [hg];exact (zz5 (by repeat first | exact HB.out | apply zz2 | apply zz0 | apply zz1)):w.heap.size≤gb375));have n3_:=zz31 ((by rw [hg];exact (zz5 (by repeat first | exact HB.out | apply zz2 | apply zz0 | apply zz1)):w.heap.size≤gb375));clear HB;have HB:=n0_;have BK375:=n1_;have GW375:=n2_;have GE375:=n3_;clear n0_ n1_ n2_ n3_;clear hb hbox hg;have hcz14_0:w13.cell? ⟨gb375,0,none⟩=some (.int .i64 a0_0):=(zz9 BK375.out 0).trans rfl;have hcz14_1:w13.cell? ⟨gb375,1,none⟩=some (.slice A0_1 l0_1.length c0_1):=(zz9 BK375.out 1).trans rfl;have hfz14_0:=zz10 BK375.out 0;have hfz14_1:=zz10 BK375.out 1) | ((with_reducible refine gate_callee (f:=30) rfl ?_);refine goesL_ (some 5) rfl rfl Tryd.func30 (by kernel_rfl) rfl #[.agg #[.int .i64 a0_0,.slice A0_1 l0_1.length c0_1]] rfl (by (try simp only [zz26,zz27,zz28]);first | done | rfl | (simp only [zz24,zz25];rfl)) ?_;(with_reducible refine (spec_paGood.calls k a0_0 _ _ l0_1 false _ ?side1 ?side2 A2.out).mono ?_);(case side1=>repeat (first | exact (Kd.C_below HR0_1.out HB.out) | (with_reducible refine zz18 ?_ _) | (with_reducible refine zz19 ?_ _) | (with_reducible refine zz20 ?_)));(case side2=>exact HC0_1.out);rintro e w15 ⟨rfl,hb⟩;refine ⟨_,rfl,?_⟩;have n0_:=zz31 (zz11 (g:=gb375) (o:=.cells #[.int .i64 a0_0,.slice A0_1 l0_1.length c0_1] 30 (0,0)) (by (with_reducible repeat (first | refine zz6 ?_ _ | refine zz7 ?_ | refine zz8 ?_ _));exact BK375.out) hb);have n1_:=zz31 (zz4 (by repeat first | exact HB.out | apply zz2 | apply zz0 | apply zz1 | refine zz3 ?_ GE375.out) hb);clear BK375;clear HB;have BK375:=n0_;have HB:=n1_;clear n0_ n1_;(try clear hb);(try clear hb2);(try clear hk);(try clear hi)))
  go_ret2
  exact ⟨.slice none 0 0,by first | rfl | (simp [errW_none,errW_some] <;> rfl) | (simp [*,errW_none,errW_some] <;> rfl),Kd.R_V (Kd.R_nil _ _ _ 0 _),by repeat first | exact HB.out | apply zz2 | apply zz0 | apply zz1 | refine zz3 ?_ GE375.out⟩

/-! ### impl_table_others: function 53 -/
def impl_table_others.l0:Nat→List Int→List Int→Int→Int→Option (List Int)
 | 0,_,_,_,_=>none
 | k+1,x0,x3,x9,x10=>if x10 < x9 then (if 0≤x10 then (if x10 < (x0.length:Int) then (if x10 < (x3.length:Int) then (impl_table_others.l0 k x0 (x3.set (x10:Int).toNat (Go.bits .andNot .u16 (Go.bits .andNot .u16 (IntKind.u16.wrap ((shl .u16 1 (x0.length:Int)) - 1)) (rd x0 x10)) (shl .u16 1 x10))) x9 (wrap64 (x10+1))) else (none)) else (none)) else (none)) else (some x3)
def impl_table_others.f (k:Nat) (l0:List Int):Option (List Int):=if 0≤(l0.length:Int) then (if ((l0.length:Int):Int).toNat≤140737488355328 then (impl_table_others.l0 k l0 (List.replicate ((l0.length:Int):Int).toNat 0) (l0.length:Int) 0) else (none)) else (none)
theorem impl_table_others.mono_l:∀ k,(∀ y0 y1 y2 y3,LeO (impl_table_others.l0 k y0 y1 y2 y3) (impl_table_others.l0 (k+1) y0 y1 y2 y3))
 | 0=>fun _ _ _ _ r h=>by simp [impl_table_others.l0] at h
 | k+1=>by
  have ih0:=impl_table_others.mono_l k
  ·intro y0 y1 y2 y3
   unfold impl_table_others.l0
   repeat' first
   | (with_reducible exact ih0 _ _ _ _)
   | (with_reducible exact LeO.refl _)
   | (with_reducible exact LeO.none _)
   | (with_reducible refine LeO.ite ?_ ?_)
   | (with_reducible refine LeO.bind ?_ (fun _=>?_))
   | exact ih0 _ _ _ _
   | exact LeO.none _
   | refine LeO.ite ?_ ?_
   | refine LeO.bind ?_ (fun _=>?_)
theorem impl_table_others.mono:∀ a0 k,LeO (impl_table_others.f k a0) (impl_table_others.f (k+1) a0):=by
 intro a0 k
 have ih0:=impl_table_others.mono_l k
 unfold impl_table_others.f
 repeat' first
   | (with_reducible exact ih0 _ _ _ _)
   | (with_reducible exact LeO.refl _)
   | (with_reducible exact LeO.none _)
   | (with_reducible refine LeO.ite ?_ ?_)
   | (with_reducible refine LeO.bind ?_ (fun _=>?_))
   | exact ih0 _ _ _ _
   | exact LeO.none _
   | refine LeO.ite ?_ ?_
   | refine LeO.bind ?_ (fun _=>?_)
def impl_table_others.T5:Bool × List (List Nat × List Nat):=(true,[([],[]),([],[]),([],[]),([2],[2]),([3],[3]),([4],[4]),([],[]),([],[]),([6,7],[6,7]),([8],[8]),([5,9],[5,9]),([],[]),([11],[11]),([10,12],[10,12]),([0,1,0,1,2,3,4,5,6,7,8,9,10,11,12,13],[0,1]),([14,13,0,1,2,3,4,5,6,7,8,9,10,11,12,13],[13,14])])
def impl_table_others.B5:List Nat:=[0,0,0,4,12,28,0,0,192,448,1020,0,2048,8188,16383,32767]
theorem impl_table_others.tab5:rtab .any (opsOf Tryd.f53 5)=impl_table_others.T5:=by kernel_rfl
theorem impl_table_others.bits5:waitsOk impl_table_others.T5.2 impl_table_others.B5=true:=by kernel_rfl
set_option maxHeartbeats 8000000 in
set_option maxRecDepth 100000 in
theorem impl_table_others.calls (k:Nat) (A0:Option Addr) (c0:Nat) (l0:List Int) (r:List Int) (w:World) (hr0:Kd.C (Kd.int .u16) w A0 l0.length l0) (hc0:l0.length≤c0) (h:impl_table_others.f k l0=some r) :
  Calls Tryd.prog 53 #[.slice A0 l0.length c0] w fun e w'=>∃ v0_:Value,e=.returned (v0_)∧Kd.R (Kd.int .u16) 72 w' w.heap.size (fun _=>True) v0_ r∧Below w.heap.size w w':=by
 have HR0:=zz31 hr0
 have HC0:=zz31 hc0
 clear hr0 hc0
 have HB:=zz31 (Below.refl w.heap.size w)
 have H:(if 0≤(l0.length:Int) then (if ((l0.length:Int):Int).toNat≤140737488355328 then (impl_table_others.l0 k l0 (List.replicate ((l0.length:Int):Int).toNat 0) (l0.length:Int) 0) else (none)) else (none))=some r:=h
 clear h
 by_cases c2:0≤(l0.length:Int)
 ·rw [if_pos c2] at H
  have c2b0:=eq_true c2
  have c2b1:decide (0≤(l0.length:Int))=true:=decide_eq_true c2
  clear c2
  by_cases c3:((l0.length:Int):Int).toNat≤140737488355328
  ·rw [if_pos c3] at H
   have c3b0:=eq_true c3
   have c3b1:decide (((l0.length:Int):Int).toNat≤140737488355328)=true:=decide_eq_true c3
   clear c3
   obtain ⟨y384,hy384⟩:∃ y_:List Int,y_=(List.replicate ((l0.length:Int):Int).toNat 0):=⟨_,rfl⟩
   replace H:(impl_table_others.l0 k l0 y384 (l0.length:Int) 0)=some r:=by first | (rw [hy384];with_reducible exact H) | (have H2_:=(Option.bind_some _ _).symm.trans H;rw [hy384];with_reducible exact H2_) | (have H2_:=(Option.bind_some _ _).symm.trans H;with_reducible exact H2_) | with_reducible exact H | (rw [hy384];exact H) | exact H
   have Ny384:=zz31 hy384
   clear hy384
   have H':=zz31 H
   clear H
   go_enter Tryd.func53,Tryd.ntmps53
   go_wp2_with (first | ((with_reducible refine gate_dst (N:=7) rfl ?_);refine Kd.R_make (Kd.int .u16) _ 72 rfl (N:=7) rfl 53 _ _ rfl (l0.length:Int) rfl rfl Tryd.underlying53 (.int .u16 0) 2 info72 rfl (by decide) (by omega) 0 (ok:=fun _=>True) (okp:=fun _=>True) rfl (fun _ hk=>hk) trivial (zz29 (by first | (with_reducible assumption) | assumption)) (Nat.le_trans (Nat.mul_le_mul_right _ (zz29 (by first | (with_reducible assumption) | assumption):(l0.length:Int).toNat≤140737488355328)) (by omega)) (Below.refl _ _) (Nat.le_refl _) ?_;intro v385 w4 ho5 hb hg_ hnew_;clear hg_ hnew_;(first | rw [← Ny384.out] at ho5 | (simp only [Int.reduceToNat] at ho5;rw [← Ny384.out] at ho5));have n0_:=zz31 (Kd.R_lower ho5 (zz5 (by repeat first | exact HB.out | apply zz2 | apply zz0 | apply zz1)));have n1_:=zz31 (zz4 (by repeat first | exact HB.out | apply zz2 | apply zz0 | apply zz1) hb);clear HB;have HO386:=n0_;have HB:=n1_;clear n0_ n1_;clear hb ho5))
   go_loopg [10] k (fun kq v10 w'=>∃ (x3_1:List Int) (x10_1:Int),v10=.int .i64 x10_1∧Aside0 (impl_table_others.l0 kq l0 x3_1 (l0.length:Int) x10_1=some r)∧Aside0 (kq≤k)∧Aside0 (Kd.R (Kd.int .u16) 72 w' w.heap.size (fun _=>True) v385 x3_1)∧Aside0 (Below w.heap.size w w'))
   case atStart=>exact ⟨(y384),(0),(by first | rfl | (simp;done) | (simp [*];done)),H',⟨Nat.le_refl _⟩,⟨by (with_reducible repeat (first | apply zz12 | apply zz13 | apply zz14));exact HO386.out⟩,⟨by repeat first | exact HB.out | apply zz2 | apply zz0 | apply zz1⟩⟩
   case round =>
    clear H'
    try clear c2
    try clear c2b0
    try clear c2b1
    try clear p2
    try clear c3
    try clear c3b0
    try clear c3b1
    try clear c5
    obtain ⟨x3_1,x10_1,rfl,HA,HK1,HO_3,HB⟩:=hrel
    cases gk with
    | zero=>exact absurd HA.out (by simp [impl_table_others.l0])
    | succ k1 =>
     have H:=HA.out
     clear HA
     simp only [impl_table_others.l0] at H
     by_cases c6:x10_1 < (l0.length:Int)
     ·rw [if_pos c6] at H
      have c6b0:decide (x10_1 < (l0.length:Int))=true:=decide_eq_true c6
      clear c6
      obtain ⟨ji7,hji7⟩:∃ j_:Int,(shl .u16 1 (l0.length:Int))=j_:=⟨_,rfl⟩
      replace H:(if 0≤x10_1 then (if x10_1 < (l0.length:Int) then (if x10_1 < (x3_1.length:Int) then (impl_table_others.l0 k1 l0 (x3_1.set (x10_1:Int).toNat (Go.bits .andNot .u16 (Go.bits .andNot .u16 (IntKind.u16.wrap ((ji7) - 1)) (rd l0 x10_1)) (shl .u16 1 x10_1))) (l0.length:Int) (wrap64 (x10_1+1))) else (none)) else (none)) else (none))=some r:=by first | (rw [hji7] at H;exact H) | (simp only [hji7] at H ⊢;exact H)
      have hji7_:(IntKind.u16.wrap (1 * 2 ^ min (l0.length:Int).toNat 16))=ji7:=hji7
      have hji7z:(l0.length:Int)≤16→(IntKind.u16.wrap (1 * 2 ^ (l0.length:Int).toNat))=ji7:=shl_small hji7
      have hji7p:(IntKind.u16.wrap (1 * 2 ^ min l0.length 16))=ji7:=hji7_
      have hji7q:(l0.length:Int)≤16→(IntKind.u16.wrap (1 * 2 ^ l0.length))=ji7:=hji7z
      have hji7r:(IntKind.u16.wrap (2 ^ min l0.length 16))=ji7:=by have h_:=hji7p;rw [Int.one_mul] at h_;exact h_
      have hji7s:(l0.length:Int)≤16→(IntKind.u16.wrap (2 ^ l0.length))=ji7:=fun hle_=>by have h_:=hji7q hle_;rw [Int.one_mul] at h_;exact h_
      have hji7u:(IntKind.u16.wrap (2 ^ min (l0.length:Int).toNat 16))=ji7:=by have h_:=hji7_;rw [Int.one_mul] at h_;exact h_
      have hji7v:(l0.length:Int)≤16→(IntKind.u16.wrap (2 ^ (l0.length:Int).toNat))=ji7:=fun hle_=>by have h_:=hji7z hle_;rw [Int.one_mul] at h_;exact h_
      by_cases c8:0≤x10_1
      ·rw [if_pos c8] at H
       have c8b0:decide (0≤x10_1)=true:=decide_eq_true c8
       clear c8
       by_cases c9:x10_1 < (l0.length:Int)
       ·rw [if_pos c9] at H
        have c9b0:decide (x10_1 < (l0.length:Int))=true:=decide_eq_true c9
        clear c9
        have c10b0:=eq_true (zz29 (by first | (with_reducible assumption) | assumption):0≤x10_1)
        obtain ⟨ji11,hji11⟩:∃ j_:Int,(shl .u16 1 x10_1)=j_:=⟨_,rfl⟩
        replace H:(if x10_1 < (x3_1.length:Int) then (impl_table_others.l0 k1 l0 (x3_1.set (x10_1:Int).toNat (Go.bits .andNot .u16 (Go.bits .andNot .u16 (IntKind.u16.wrap ((ji7) - 1)) (rd l0 x10_1)) (ji11))) (l0.length:Int) (wrap64 (x10_1+1))) else (none))=some r:=by first | (rw [hji11] at H;exact H) | (simp only [hji11] at H ⊢;exact H)
        have hji11_:(IntKind.u16.wrap (1 * 2 ^ min x10_1.toNat 16))=ji11:=hji11
        have hji11z:x10_1≤16→(IntKind.u16.wrap (1 * 2 ^ x10_1.toNat))=ji11:=shl_small hji11
        have hji11u:(IntKind.u16.wrap (2 ^ min x10_1.toNat 16))=ji11:=by have h_:=hji11_;rw [Int.one_mul] at h_;exact h_
        have hji11v:x10_1≤16→(IntKind.u16.wrap (2 ^ x10_1.toNat))=ji11:=fun hle_=>by have h_:=hji11z hle_;rw [Int.one_mul] at h_;exact h_
        by_cases c12:x10_1 < (x3_1.length:Int)
        ·rw [if_pos c12] at H
         have c12b0:decide (x10_1 < (x3_1.length:Int))=true:=decide_eq_true c12
         clear c12
         obtain ⟨y388,hy388⟩:∃ y_:List Int,y_=(x3_1.set (x10_1:Int).toNat (Go.bits .andNot .u16 (Go.bits .andNot .u16 (IntKind.u16.wrap ((ji7) - 1)) (rd l0 x10_1)) (ji11))):=⟨_,rfl⟩
         replace H:(impl_table_others.l0 k1 l0 y388 (l0.length:Int) (wrap64 (x10_1+1)))=some r:=by first | (rw [hy388];with_reducible exact H) | (have H2_:=(Option.bind_some _ _).symm.trans H;rw [hy388];with_reducible exact H2_) | (have H2_:=(Option.bind_some _ _).symm.trans H;with_reducible exact H2_) | with_reducible exact H | (rw [hy388];exact H) | exact H
         have Ny388:=zz31 hy388
         clear hy388
         have H':=zz31 H
         clear H
         try go_wp2
         have n0_:=zz31 (zz14 HO_3.out)
         have n1_:=zz31 (zz1 HB.out)
         clear HO_3
         clear HB
         have HO_3:=n0_
         have HB:=n1_
         clear n0_ n1_
         have p387:0≤(x10_1:Int):=zz29 (by first | (with_reducible assumption) | assumption)
         have q387:x10_1 < (l0.length:Int):=zz29 (by first | (with_reducible assumption) | assumption)
         obtain ⟨ad387,e387,hx387_0⟩:=Kd.at_int HR0.out x10_1 p387 q387
         have hw387_0:=hx387_0
         cases e387
         replace hx387_0:=(HB.out.cell (World.block_lt_of_cell? w _ hx387_0)).trans hx387_0
         replace p387:=eq_true p387
         replace q387:=eq_true q387
         have p13:0≤(x10_1:Int):=zz29 (by first | (with_reducible assumption) | assumption)
         have q13:(x10_1:Int) < ((x3_1.length:Int):Int):=zz29 (by first | (with_reducible assumption) | assumption)
         obtain ⟨go13,co13,eo13,gb13,gl13,cl13,HG13⟩:=Kd.R_form HO_3.out (by omega)
         (first | cases eo13 | (injection eo13 with ea_ en_ ec_;(first | subst ea_ | (injection ea_ with ea_;subst ea_));subst ec_;clear en_))
         have GB13:=zz31 gb13
         have GG13:=zz31 HG13
         clear gb13 gl13 HG13
         obtain ⟨hx13_0,hf13_0⟩:=Kd.R_celln 0 HO_3.out (x10_1:Int) p13 q13
         replace p13:=eq_true p13
         replace q13:=eq_true q13
         have HP15:=Kd.R_putn HO_3.out (x10_1:Int) (Go.bits .andNot .u16 (Go.bits .andNot .u16 (IntKind.u16.wrap ((ji7) - 1)) (rd l0 x10_1)) (ji11))
         rw [← Ny388.out] at HP15
         have HQ15:=zz31 HP15
         clear HP15
         refine start_ (n:=16) (S:=fun w'=>w'.cell? (ad387.add (x10_1).toNat)=some (.int .u16 (rd l0 x10_1))) (ds:=[15]) #[F,F,F,F,F,F,F,F,F,F,F,F,F,F,F,F] (by kernel_rfl) rfl rfl (((HB.out.cell (World.block_lt_of_cell? w _ hw387_0)).trans hw387_0)) (fun hHeld=>?_);refine with_tabW impl_table_others.tab5 impl_table_others.bits5 (fun HT_ HW_=>?_)
         generalize wr.drew=w14 at HO_3 HB GG13 HQ15 hf13_0 hx13_0 hx387_0 hHeld ⊢
         refine pure_ (i:=0) (N:=some 13) (v:=?_) (a':=?_) #[T,F,F,F,F,F,F,F,F,F,F,F,F,F,F,F] rfl rfl (any_of HT_.out (by kernel_rfl)) (fun _ _ _ h=>h) (Or.inl ⟨by rfl,?_⟩) ?_ ?_
         rotate_left
         ·intro w'
          go_simp
          with_reducible rfl
         rotate_left
         ·simp only [Act.put,zz21,zz22,zz23,i64_w,i32_w]
          rfl
         refine pure_ (i:=1) (N:=some 14) (v:=?_) (a':=?_) #[T,T,F,F,F,F,F,F,F,F,F,F,F,F,F,F] rfl rfl (any_of HT_.out (by kernel_rfl)) (fun _ _ _ h=>h) (Or.inl ⟨by rfl,?_⟩) ?_ ?_
         rotate_left
         ·intro w'
          go_simp
          with_reducible rfl
         rotate_left
         ·simp only [Act.put,zz21,zz22,zz23,i64_w,i32_w]
          rfl
         refine pure_ (i:=2) (N:=some 15) (v:=?_) (a':=?_) #[T,T,T,F,F,F,F,F,F,F,F,F,F,F,F,F] rfl rfl (any_of HT_.out (by kernel_rfl)) (fun _ _ _ h=>h) (Or.inl ⟨by rfl,?_⟩) ?_ ?_
         rotate_left
         ·intro w'
          go_simp
          with_reducible rfl
         rotate_left
         ·simp only [Act.put,zz21,zz22,zz23,i64_w,i32_w]
          rfl
         refine pure_ (i:=3) (N:=some 16) (v:=?_) (a':=?_) #[T,T,T,T,F,F,F,F,F,F,F,F,F,F,F,F] rfl rfl (any_of HT_.out (by kernel_rfl)) (fun _ _ _ h=>h) (Or.inl ⟨by rfl,?_⟩) ?_ ?_
         rotate_left
         ·intro w'
          go_simp
          with_reducible rfl
         rotate_left
         ·simp only [Act.put,zz21,zz22,zz23,i64_w,i32_w]
          rfl
         refine pure_ (i:=4) (N:=some 17) (v:=?_) (a':=?_) #[T,T,T,T,T,F,F,F,F,F,F,F,F,F,F,F] rfl rfl (any_of HT_.out (by kernel_rfl)) (fun _ _ _ h=>h) (Or.inl ⟨by rfl,?_⟩) ?_ ?_
         rotate_left
         ·intro w'
          go_simp
          with_reducible rfl
         rotate_left
         ·simp only [Act.put,zz21,zz22,zz23,i64_w,i32_w]
          rfl
         refine pure_ (i:=5) (N:=some 18) (v:=?_) (a':=?_) #[T,T,T,T,T,T,F,F,F,F,F,F,F,F,F,F] rfl rfl (any_of HT_.out (by kernel_rfl)) (fun _ _ _ h=>h) (Or.inl ⟨by rfl,?_⟩) ?_ ?_
         rotate_left
         ·intro w'
          go_simp
          with_reducible rfl
         rotate_left
         ·simp only [Act.put,zz21,zz22,zz23,i64_w,i32_w]
          rfl
         refine pure_ (i:=6) (N:=some 19) (v:=?_) (a':=?_) #[T,T,T,T,T,T,T,F,F,F,F,F,F,F,F,F] rfl rfl (any_of HT_.out (by kernel_rfl)) (fun _ _ _ h=>h) (Or.inl ⟨by rfl,?_⟩) ?_ ?_
         rotate_left
         ·intro w'
          go_simp
          with_reducible rfl
         rotate_left
         ·simp only [Act.put,zz21,zz22,zz23,i64_w,i32_w]
          rfl
         refine pure_ (i:=7) (N:=some 20) (v:=?_) (a':=?_) #[T,T,T,T,T,T,T,T,F,F,F,F,F,F,F,F] rfl rfl (any_of HT_.out (by kernel_rfl)) (fun _ _ _ h=>h) (Or.inl ⟨by rfl,?_⟩) ?_ ?_
         rotate_left
         ·intro w'
          go_simp
          with_reducible rfl
         rotate_left
         ·simp only [Act.put,zz21,zz22,zz23,i64_w,i32_w]
          rfl
         refine pure_ (i:=8) (N:=some 21) (v:=?_) (a':=?_) #[T,T,T,T,T,T,T,T,T,F,F,F,F,F,F,F] rfl rfl (any_of HT_.out (by kernel_rfl)) (fun _ _ _ h=>h) (Or.inl ⟨by rfl,?_⟩) ?_ ?_
         rotate_left
         ·intro w'
          go_simp
          with_reducible rfl
         rotate_left
         ·simp only [Act.put,zz21,zz22,zz23,i64_w,i32_w]
          rfl
         refine pure_ (i:=11) (N:=some 24) (v:=?_) (a':=?_) #[T,T,T,T,T,T,T,T,T,F,F,T,F,F,F,F] rfl rfl (any_of HT_.out (by kernel_rfl)) (fun _ _ _ h=>h) (Or.inl ⟨by rfl,?_⟩) ?_ ?_
         rotate_left
         ·intro w'
          go_simp
          with_reducible rfl
         rotate_left
         ·simp only [Act.put,zz21,zz22,zz23,i64_w,i32_w]
          rfl
         refine pure_ (i:=12) (N:=some 25) (v:=?_) (a':=?_) #[T,T,T,T,T,T,T,T,T,F,F,T,T,F,F,F] rfl rfl (any_of HT_.out (by kernel_rfl)) (fun _ _ _ h=>h) (Or.inl ⟨by rfl,?_⟩) ?_ ?_
         rotate_left
         ·intro w'
          go_simp
          with_reducible rfl
         rotate_left
         ·simp only [Act.put,zz21,zz22,zz23,i64_w,i32_w]
          rfl
         refine take_ (i:=9) (N:=some 22) (v:=?_) (a':=?_) #[T,T,T,T,T,T,T,T,T,T,F,T,T,F,F,F] rfl rfl (take_ofW HT_.out HW_.out (by kernel_rfl)) (fun _ _ _ h=>h) (Or.inl ⟨by rfl,?_⟩) hHeld ?_ ?_
         rotate_left
         ·intro w' s0
          go_simp
          with_reducible rfl
         rotate_left
         ·simp only [Act.put,zz21,zz22,zz23,i64_w,i32_w]
          rfl
         refine pure_ (i:=10) (N:=some 23) (v:=?_) (a':=?_) #[T,T,T,T,T,T,T,T,T,T,T,T,T,F,F,F] rfl rfl (any_of HT_.out (by kernel_rfl)) (fun _ _ _ h=>h) (Or.inl ⟨by rfl,?_⟩) ?_ ?_
         rotate_left
         ·intro w'
          go_simp
          with_reducible rfl
         rotate_left
         ·simp only [Act.put,zz21,zz22,zz23,i64_w,i32_w]
          rfl
         refine pure_ (i:=13) (N:=some 26) (v:=?_) (a':=?_) #[T,T,T,T,T,T,T,T,T,T,T,T,T,T,F,F] rfl rfl (any_of HT_.out (by kernel_rfl)) (fun _ _ _ h=>h) (Or.inl ⟨by rfl,?_⟩) ?_ ?_
         rotate_left
         ·intro w'
          go_simp
          with_reducible rfl
         rotate_left
         ·simp only [Act.put,zz21,zz22,zz23,i64_w,i32_w]
          rfl
         refine pure_ (i:=14) (N:=some 27) (v:=?_) (a':=?_) #[T,T,T,T,T,T,T,T,T,T,T,T,T,T,T,F] rfl rfl (any_of HT_.out (by kernel_rfl)) (fun _ _ _ h=>h) (Or.inl ⟨by rfl,?_⟩) ?_ ?_
         rotate_left
         ·intro w'
          go_simp
          with_reducible rfl
         rotate_left
         ·simp only [Act.put,zz21,zz22,zz23,i64_w,i32_w]
          rfl
         refine last_ (i:=15) (N:=none) #[T,T,T,T,T,T,T,T,T,T,T,T,T,T,T,T] rfl rfl (one_of HT_.out (by kernel_rfl)) (by decide) (fun K hK=>?_)
         refine skip_ (w1:=?_) (by rfl) rfl ?_ ?_
         rotate_left
         ·go_simp
          rfl
         refine hK.out _ _ ?_
         clear hK K
         refine done_ (done_of HT_.out (by kernel_rfl)) ?_
         try go_wp2
         go_roundg k1
         case measure=>have:=HK1.out;omega
         case rel=>exact ⟨(y388),(wrap64 (x10_1+1)),(by first | rfl | (simp;done) | (simp [*];done)),H',⟨by have:=HK1.out;omega⟩,⟨by (with_reducible repeat (first | apply zz12 | apply zz13 | apply zz14));exact HQ15.out⟩,⟨by repeat first | exact HB.out | apply zz2 | apply zz0 | apply zz1 | refine zz3 ?_ GB13.out⟩⟩
        ·rw [if_neg c12] at H
         exact absurd H (by simp)
       ·rw [if_neg c9] at H
        exact absurd H (by simp)
      ·rw [if_neg c8] at H
       exact absurd H (by simp)
     ·rw [if_neg c6] at H
      have c6b0:decide (x10_1 < (l0.length:Int))=false:=decide_eq_false c6
      clear c6
      obtain rfl:=Option.some.inj H
      go_wp2
      go_ret
      exact ⟨_,by first | rfl | (simp [errW_none,errW_some] <;> rfl) | (simp [*,errW_none,errW_some] <;> rfl),by (with_reducible repeat (first | apply zz12 | apply zz13 | apply zz14));exact HO_3.out,by repeat first | exact HB.out | apply zz2 | apply zz0 | apply zz1⟩
  ·rw [if_neg c3] at H
   exact absurd H (by simp)
 ·rw [if_neg c2] at H
  exact absurd H (by simp)

/-! ### impl_GreatestStrange: function 25 -/
def impl_GreatestStrange.f (k:Nat) (a0_0:Int) (l0_1:List (S74)):Option (List Int × Bool):=(impl_IsParty.f k a0_0 l0_1).bind fun t390=>(if t390=true then ((impl_Party_table.f k a0_0 l0_1).bind fun t391=>((impl_table_others.f k t391).bind fun t394=>((impl_table_greatest.f t394).bind fun t397=>(some (t397,true))))) else (some (([]:List Int),false)))
theorem impl_GreatestStrange.mono:∀ a0 a1 k,LeO (impl_GreatestStrange.f k a0 a1) (impl_GreatestStrange.f (k+1) a0 a1):=by
 intro a0 a1 k
 unfold impl_GreatestStrange.f
 repeat' first
   | (with_reducible exact impl_IsParty.mono _ _ _)
   | (with_reducible exact impl_Party_table.mono _ _ _)
   | (with_reducible exact impl_table_others.mono _ _)
   | (with_reducible exact LeO.refl _)
   | (with_reducible exact LeO.none _)
   | (with_reducible refine LeO.ite ?_ ?_)
   | (with_reducible refine LeO.bind ?_ (fun _=>?_))
   | exact impl_IsParty.mono _ _ _
   | exact impl_Party_table.mono _ _ _
   | exact impl_table_others.mono _ _
   | exact LeO.none _
   | refine LeO.ite ?_ ?_
   | refine LeO.bind ?_ (fun _=>?_)
set_option maxHeartbeats 8000000 in
set_option maxRecDepth 100000 in
theorem impl_GreatestStrange.calls (k:Nat) (a0_0:Int) (A0_1:Option Addr) (c0_1:Nat) (l0_1:List (S74)) (r1:List Int) (r2:Bool) (w:World) (hr0_1:Kd.C k74 w A0_1 l0_1.length l0_1) (hc0_1:l0_1.length≤c0_1) (h:impl_GreatestStrange.f k a0_0 l0_1=some (r1,r2)) (hT:Tz w) :
  Calls Tryd.prog 25 #[.agg #[.int .i64 a0_0,.slice A0_1 l0_1.length c0_1]] w fun e w'=>∃ v0_:Value,e=.returned (.tuple #[v0_,.bool r2])∧Kd.R (Kd.int .i64) 3 w' w.heap.size (fun _=>True) v0_ r1∧Below w.heap.size w w':=by
 have hu30:=Tryd.underlying30
 have HR0_1:=zz31 hr0_1
 have HC0_1:=zz31 hc0_1
 clear hr0_1 hc0_1
 have HB:=zz31 (Below.refl w.heap.size w)
 have HT:=zz31 hT
 clear hT
 have H:((impl_IsParty.f k a0_0 l0_1).bind fun t390=>(if t390=true then ((impl_Party_table.f k a0_0 l0_1).bind fun t391=>((impl_table_others.f k t391).bind fun t394=>((impl_table_greatest.f t394).bind fun t397=>(some (t397,true))))) else (some (([]:List Int),false))))=some (r1,r2):=h
 clear h
 replace H:=zz30.mp H
 obtain ⟨t390,A20,H⟩:=H
 replace H:(if t390=true then ((impl_Party_table.f k a0_0 l0_1).bind fun t391=>((impl_table_others.f k t391).bind fun t394=>((impl_table_greatest.f t394).bind fun t397=>(some (t397,true))))) else (some (([]:List Int),false)))=some (r1,r2):=H
 have A2:=zz31 A20
 clear A20
 by_cases c3:t390=true
 ·subst c3
  have H1:((impl_Party_table.f k a0_0 l0_1).bind fun t391=>((impl_table_others.f k t391).bind fun t394=>((impl_table_greatest.f t394).bind fun t397=>(some (t397,true)))))=some (r1,r2):=by rw [if_pos rfl] at H;exact H
  clear H
  have H:=H1
  clear H1
  replace H:=zz30.mp H
  obtain ⟨t391,A40,H⟩:=H
  replace H:((impl_table_others.f k t391).bind fun t394=>((impl_table_greatest.f t394).bind fun t397=>(some (t397,true))))=some (r1,r2):=H
  have A4:=zz31 A40
  clear A40
  replace H:=zz30.mp H
  obtain ⟨t394,A50,H⟩:=H
  replace H:((impl_table_greatest.f t394).bind fun t397=>(some (t397,true)))=some (r1,r2):=H
  have A5:=zz31 A50
  clear A50
  replace H:=zz30.mp H
  obtain ⟨t397,A60,H⟩:=H
  replace H:(some (t397,true))=some (r1,r2):=H
  have A6:=zz31 A60
  clear A60
  simp only [Option.some.injEq,Prod.mk.injEq] at H
  obtain ⟨rfl,rfl⟩:=H
  go_enter Tryd.func25,Tryd.ntmps25
  go_wp2_with (first | ((with_reducible refine gate_dst (N:=1) rfl ?_);refine box_event ?hg (N:=1) ?hd (cs:=#[.int .i64 a0_0,.slice A0_1 l0_1.length c0_1]) (t:=30) ?hr ?_;(case hd=>rfl);(case hg=>rfl);(case hr=>first | (go_simp;done) | (go_simp;rfl));intro gb389 hg w7 hbox hb;have n0_:=zz31 (zz4 (by repeat first | exact HB.out | apply zz2 | apply zz0 | apply zz1) hb);have n1_:=zz31 (hbox);have n2_:=zz31 ((by rw [hg];exact (zz5 (by repeat first | exact HB.out | apply zz2 | apply zz0 | apply zz1)):w.heap.size≤gb389));have n3_:=zz31 ((by rw [hg];exact (zz5 (by repeat first | exact HB.out | apply zz2 | apply zz0 | apply zz1)):w.heap.size≤gb389));clear HB;have HB:=n0_;have BK389:=n1_;have GW389:=n2_;have GE389:=n3_;clear n0_ n1_ n2_ n3_;clear hb hbox hg;have hcz8_0:w7.cell? ⟨gb389,0,none⟩=some (.int .i64 a0_0):=(zz9 BK389.out 0).trans rfl;have hcz8_1:w7.cell? ⟨gb389,1,none⟩=some (.slice A0_1 l0_1.length c0_1):=(zz9 BK389.out 1).trans rfl;have hfz8_0:=zz10 BK389.out 0;have hfz8_1:=zz10 BK389.out 1) | ((with_reducible refine gate_callee (f:=35) rfl ?_);refine goesL_ (some 5) rfl rfl Tryd.func35 (by kernel_rfl) rfl #[.agg #[.int .i64 a0_0,.slice A0_1 l0_1.length c0_1]] rfl (by (try simp only [zz26,zz27,zz28]);first | done | rfl | (simp only [zz24,zz25];rfl)) ?_;(with_reducible refine (impl_IsParty.calls k a0_0 _ _ l0_1 true _ ?side1 ?side2 A2.out).mono ?_);(case side1=>repeat (first | exact (Kd.C_below HR0_1.out HB.out) | (with_reducible refine zz18 ?_ _) | (with_reducible refine zz19 ?_ _) | (with_reducible refine zz20 ?_)));(case side2=>exact HC0_1.out);rintro e w9 ⟨rfl,hb⟩;refine ⟨_,rfl,?_⟩;have n0_:=zz31 (zz11 (g:=gb389) (o:=.cells #[.int .i64 a0_0,.slice A0_1 l0_1.length c0_1] 30 (0,0)) (by (with_reducible repeat (first | refine zz6 ?_ _ | refine zz7 ?_ | refine zz8 ?_ _));exact BK389.out) hb);have n1_:=zz31 (zz4 (by repeat first | exact HB.out | apply zz2 | apply zz0 | apply zz1 | refine zz3 ?_ GE389.out) hb);clear BK389;clear HB;have BK389:=n0_;have HB:=n1_;clear n0_ n1_;(try clear hb);(try clear hb2);(try clear hk);(try clear hi);have hcz10_0:w9.cell? ⟨gb389,0,none⟩=some (.int .i64 a0_0):=(zz9 BK389.out 0).trans rfl;have hcz10_1:w9.cell? ⟨gb389,1,none⟩=some (.slice A0_1 l0_1.length c0_1):=(zz9 BK389.out 1).trans rfl;have hfz10_0:=zz10 BK389.out 0;have hfz10_1:=zz10 BK389.out 1) | ((with_reducible refine gate_callee (f:=37) rfl ?_);refine goesL_ (some 8) rfl rfl Tryd.func37 (by kernel_rfl) rfl #[.agg #[.int .i64 a0_0,.slice A0_1 l0_1.length c0_1]] rfl (by (try simp only [zz26,zz27,zz28]);first | done | rfl | (simp only [zz24,zz25];rfl)) ?_;(with_reducible refine (impl_Party_table.calls k a0_0 _ _ l0_1 t391 _ ?side1 ?side2 A4.out).mono ?_);(case side1=>repeat (first | exact (Kd.C_below HR0_1.out HB.out) | (with_reducible refine zz18 ?_ _) | (with_reducible refine zz19 ?_ _) | (with_reducible refine zz20 ?_)));(case side2=>exact HC0_1.out);rintro e w11 ⟨v392,rfl,ho0,hb⟩;refine ⟨_,rfl,?_⟩;have n0_:=zz31 (Kd.R_lower ho0 (zz5 (by repeat first | exact HB.out | apply zz2 | apply zz0 | apply zz1 | refine zz3 ?_ GE389.out)));have n1_:=zz31 (zz11 (g:=gb389) (o:=.cells #[.int .i64 a0_0,.slice A0_1 l0_1.length c0_1] 30 (0,0)) (by (with_reducible repeat (first | refine zz6 ?_ _ | refine zz7 ?_ | refine zz8 ?_ _));exact BK389.out) hb);have n2_:=zz31 (zz4 (by repeat first | exact HB.out | apply zz2 | apply zz0 | apply zz1 | refine zz3 ?_ GE389.out) hb);clear BK389;clear HB;have HO393:=n0_;have BK389:=n1_;have HB:=n2_;clear n0_ n1_ n2_;(try clear hb);(try clear hb2);(try clear hk);(try clear hi);(try clear ho0);obtain ⟨Ao12,co12,eo12⟩:=Kd.R_slice HO393.out;subst eo12) | ((with_reducible refine gate_callee (f:=53) rfl ?_);refine goesL_ (some 9) rfl rfl Tryd.func53 (by kernel_rfl) rfl #[.slice Ao12 t391.length co12] rfl (by (try simp only [zz26,zz27,zz28]);first | done | rfl | (simp only [zz24,zz25];rfl)) ?_;(with_reducible refine (impl_table_others.calls k _ _ t391 t394 _ ?side1 ?side2 A5.out).mono ?_);(case side1=>repeat (first | exact (Kd.R_reads' HO393.out).2.2 | (with_reducible refine zz18 ?_ _) | (with_reducible refine zz19 ?_ _) | (with_reducible refine zz20 ?_)));(case side2=>exact (Kd.R_reads' HO393.out).2.1);rintro e w13 ⟨v395,rfl,ho0,hb⟩;refine ⟨_,rfl,?_⟩;have n0_:=zz31 (Kd.R_elder' (by (with_reducible repeat (first | apply zz12 | apply zz13 | apply zz14));exact HO393.out) (Kd.R_base ho0) hb);have n1_:=zz31 (Kd.R_lower (Kd.R_new' ho0 (Kd.R_lt (by (with_reducible repeat (first | apply zz12 | apply zz13 | apply zz14));exact HO393.out))) (zz5 (by repeat first | exact HB.out | apply zz2 | apply zz0 | apply zz1 | refine zz3 ?_ GE389.out)));have n2_:=zz31 (zz11 (g:=gb389) (o:=.cells #[.int .i64 a0_0,.slice A0_1 l0_1.length c0_1] 30 (0,0)) (by (with_reducible repeat (first | refine zz6 ?_ _ | refine zz7 ?_ | refine zz8 ?_ _));exact BK389.out) hb);have n3_:=zz31 (zz4 (by repeat first | exact HB.out | apply zz2 | apply zz0 | apply zz1 | refine zz3 ?_ GE389.out) hb);clear HO393;clear BK389;clear HB;have HO393:=n0_;have HO396:=n1_;have BK389:=n2_;have HB:=n3_;clear n0_ n1_ n2_ n3_;(try clear hb);(try clear hb2);(try clear hk);(try clear hi);(try clear ho0);obtain ⟨Ao14,co14,eo14⟩:=Kd.R_slice HO396.out;subst eo14) | ((with_reducible refine gate_callee (f:=51) rfl ?_);refine goesL_ (some 10) rfl rfl Tryd.func51 (by kernel_rfl) rfl #[.slice Ao14 t394.length co14] rfl (by (try simp only [zz26,zz27,zz28]);first | done | rfl | (simp only [zz24,zz25];rfl)) ?_;(with_reducible refine (impl_table_greatest.calls _ _ t394 t397 _ ?side1 ?side2 A6.out (HT.out.below (by repeat first | exact HB.out | apply zz2 | apply zz0 | apply zz1 | refine zz3 ?_ GE389.out))).mono ?_);(case side1=>repeat (first | exact (Kd.R_reads' HO396.out).2.2 | (with_reducible refine zz18 ?_ _) | (with_reducible refine zz19 ?_ _) | (with_reducible refine zz20 ?_)));(case side2=>exact (Kd.R_reads' HO396.out).2.1);rintro e w15 ⟨v398,rfl,ho0,hb⟩;refine ⟨_,rfl,?_⟩;have n0_:=zz31 (Kd.R_below (by (with_reducible repeat (first | apply zz12 | apply zz13 | apply zz14));exact HO393.out) hb);have n1_:=zz31 (Kd.R_below (by (with_reducible repeat (first | apply zz12 | apply zz13 | apply zz14));exact HO396.out) hb);have n2_:=zz31 (Kd.R_lower ho0 (zz5 (by repeat first | exact HB.out | apply zz2 | apply zz0 | apply zz1 | refine zz3 ?_ GE389.out)));have n3_:=zz31 (zz11 (g:=gb389) (o:=.cells #[.int .i64 a0_0,.slice A0_1 l0_1.length c0_1] 30 (0,0)) (by (with_reducible repeat (first | refine zz6 ?_ _ | refine zz7 ?_ | refine zz8 ?_ _));exact BK389.out) hb);have n4_:=zz31 (zz4 (by repeat first | exact HB.out | apply zz2 | apply zz0 | apply zz1 | refine zz3 ?_ GE389.out) hb);clear HO393;clear HO396;clear BK389;clear HB;have HO393:=n0_;have HO396:=n1_;have HO399:=n2_;have BK389:=n3_;have HB:=n4_;clear n0_ n1_ n2_ n3_ n4_;(try clear hb);(try clear hb2);(try clear hk);(try clear hi);(try clear ho0)))
  go_ret2
  exact ⟨_,by first | rfl | (simp [errW_none,errW_some] <;> rfl) | (simp [*,errW_none,errW_some] <;> rfl),by (with_reducible repeat (first | apply zz12 | apply zz13 | apply zz14));exact HO399.out,by repeat first | exact HB.out | apply zz2 | apply zz0 | apply zz1 | refine zz3 ?_ GE389.out⟩
 ·replace c3:=Bool.eq_false_iff.mpr c3
  subst c3
  have H1:(some (([]:List Int),false))=some (r1,r2):=by rw [if_neg (show ¬ (false=true) by decide)] at H;exact H
  clear H
  have H:=H1
  clear H1
  simp only [Option.some.injEq,Prod.mk.injEq] at H
  obtain ⟨rfl,rfl⟩:=H
  go_enter Tryd.func25,Tryd.ntmps25
  go_wp2_with (first | ((with_reducible refine gate_dst (N:=1) rfl ?_);refine box_event ?hg (N:=1) ?hd (cs:=#[.int .i64 a0_0,.slice A0_1 l0_1.length c0_1]) (t:=30) ?hr ?_;(case hd=>rfl);(case hg=>rfl);(case hr=>first | (go_simp;done) | (go_simp;rfl));intro gb389 hg w16 hbox hb;have n0_:=zz31 (zz4 (by repeat first | exact HB.out | apply zz2 | apply zz0 | apply zz1) hb);have n1_:=zz31 (hbox);have n2_:=zz31 ((by rw [hg];exact (zz5 (by repeat first | exact HB.out | apply zz2 | apply zz0 | apply zz1)):w.heap.size≤gb389));have n3_:=zz31 ((by rw [hg];exact (zz5 (by repeat first | exact HB.out | apply zz2 | apply zz0 | apply zz1)):w.heap.size≤gb389));clear HB;have HB:=n0_;have BK389:=n1_;have GW389:=n2_;have GE389:=n3_;clear n0_ n1_ n2_ n3_;clear hb hbox hg;have hcz17_0:w16.cell? ⟨gb389,0,none⟩=some (.int .i64 a0_0):=(zz9 BK389.out 0).trans rfl;have hcz17_1:w16.cell? ⟨gb389,1,none⟩=some (.slice A0_1 l0_1.length c0_1):=(zz9 BK389.out 1).trans rfl;have hfz17_0:=zz10 BK389.out 0;have hfz17_1:=zz10 BK389.out 1) | ((with_reducible refine gate_callee (f:=35) rfl ?_);refine goesL_ (some 5) rfl rfl Tryd.func35 (by kernel_rfl) rfl #[.agg #[.int .i64 a0_0,.slice A0_1 l0_1.length c0_1]] rfl (by (try simp only [zz26,zz27,zz28]);first | done | rfl | (simp only [zz24,zz25];rfl)) ?_;(with_reducible refine (impl_IsParty.calls k a0_0 _ _ l0_1 false _ ?side1 ?side2 A2.out).mono ?_);(case side1=>repeat (first | exact (Kd.C_below HR0_1.out HB.out) | (with_reducible refine zz18 ?_ _) | (with_reducible refine zz19 ?_ _) | (with_reducible refine zz20 ?_)));(case side2=>exact HC0_1.out);rintro e w18 ⟨rfl,hb⟩;refine ⟨_,rfl,?_⟩;have n0_:=zz31 (zz11 (g:=gb389) (o:=.cells #[.int .i64 a0_0,.slice A0_1 l0_1.length c0_1] 30 (0,0)) (by (with_reducible repeat (first | refine zz6 ?_ _ | refine zz7 ?_ | refine zz8 ?_ _));exact BK389.out) hb);have n1_:=zz31 (zz4 (by repeat first | exact HB.out | apply zz2 | apply zz0 | apply zz1 | refine zz3 ?_ GE389.out) hb);clear BK389;clear HB;have BK389:=n0_;have HB:=n1_;clear n0_ n1_;(try clear hb);(try clear hb2);(try clear hk);(try clear hi)))
  go_ret2
  exact ⟨_,by first | rfl | (simp [errW_none,errW_some] <;> rfl) | (simp [*,errW_none,errW_some] <;> rfl),by first | exact Kd.R_nil _ _ _ _ _ | exact Kd.N_nil _ _ _ _ _ | exact Kd.V_nil _ _ _ _ _ | exact Kd.Q_nil _ _ _ _ _ | exact Kd.S_nil _ _ _ _ _,by repeat first | exact HB.out | apply zz2 | apply zz0 | apply zz1 | refine zz3 ?_ GE389.out⟩

/-! ### laws_FnExactGreatestStrange: function 7 -/
mutual
def laws_FnExactGreatestStrange.j0:Nat→List Int→Bool→List Int→Bool→Bool→Int→List (S79)→Int→List (S74)→Option (Bool)
 | 0,_,_,_,_,_,_,_,_,_=>none
 | k+1,x4,x5,x7,x8,x40,x401000,x401001,x415000,x415001=>if x40=true then (some false) else ((laws_toParty.f k x401000 x401001).bind fun bt420=>((laws_eqParty.f k x415000 x415001 bt420.1 bt420.2).bind fun t424=>(if t424=true then ((laws_markParty.f k x415000 x415001 1).bind fun bt425=>(if bt425.1 < 0 then (laws_FnExactGreatestStrange.j1 k x4 x5 x7 true x401000 x401001) else ((laws_eqIntS.f k x7 x4).bind fun t427=>(if t427=true then (laws_FnExactGreatestStrange.j1 k x4 x5 x7 (x8 != x5) x401000 x401001) else (laws_FnExactGreatestStrange.j1 k x4 x5 x7 true x401000 x401001))))) else (some false))))
def laws_FnExactGreatestStrange.j1:Nat→List Int→Bool→List Int→Bool→Int→List (S79)→Option (Bool)
 | 0,_,_,_,_,_,_=>none
 | k+1,x4,x5,x7,x61,x401000,x401001=>if x61=true then (some false) else ((laws_markIntS.f k x7 1).bind fun bt428=>((laws_heldIntS.f k bt428.2 1).bind fun t430=>(if t430 < 0 then (some false) else (if t430=bt428.1 then ((laws_toParty.f k x401000 x401001).bind fun bt431=>((impl_GreatestStrange.f k bt431.1 bt431.2).bind fun bt435=>((laws_eqIntS.f k bt435.1 x4).bind fun t439=>(if t439=true then (laws_FnExactGreatestStrange.j2 k bt428.2 bt428.1 (bt435.2 != x5)) else (laws_FnExactGreatestStrange.j2 k bt428.2 bt428.1 true))))) else (some false)))))
def laws_FnExactGreatestStrange.j2:Nat→List Int→Int→Bool→Option (Bool)
 | 0,_,_,_=>none
 | k+1,x7,x10,x87=>if x87=true then (some false) else ((laws_heldIntS.f k x7 1).bind fun t440=>(if t440 < 0 then (some false) else (if t440=x10 then (some true) else (some false))))
end
def laws_FnExactGreatestStrange.f (k:Nat) (a0_0:Int) (l0_1:List (S79)):Option (Bool):=(laws_szParty.f a0_0 l0_1 1048576).bind fun t401=>(if t401 < 0 then (some true) else ((laws_toParty.f k a0_0 l0_1).bind fun bt402=>((spec_GreatestStrange.f k bt402.1 bt402.2).bind fun bt406=>((laws_toParty.f k a0_0 l0_1).bind fun bt410=>((impl_GreatestStrange.f k bt410.1 bt410.2).bind fun bt415=>((laws_eqIntS.f k bt415.1 bt406.1).bind fun t419=>(if t419=true then (laws_FnExactGreatestStrange.j0 k bt406.1 bt406.2 bt415.1 bt415.2 (bt415.2 != bt406.2) a0_0 l0_1 bt410.1 bt410.2) else (laws_FnExactGreatestStrange.j0 k bt406.1 bt406.2 bt415.1 bt415.2 true a0_0 l0_1 bt410.1 bt410.2))))))))
theorem laws_FnExactGreatestStrange.mono_l:∀ k,(∀ y0 y1 y2 y3 y4 y5 y6 y7 y8,LeO (laws_FnExactGreatestStrange.j0 k y0 y1 y2 y3 y4 y5 y6 y7 y8) (laws_FnExactGreatestStrange.j0 (k+1) y0 y1 y2 y3 y4 y5 y6 y7 y8))∧(∀ y0 y1 y2 y3 y4 y5,LeO (laws_FnExactGreatestStrange.j1 k y0 y1 y2 y3 y4 y5) (laws_FnExactGreatestStrange.j1 (k+1) y0 y1 y2 y3 y4 y5))∧(∀ y0 y1 y2,LeO (laws_FnExactGreatestStrange.j2 k y0 y1 y2) (laws_FnExactGreatestStrange.j2 (k+1) y0 y1 y2))
 | 0=>⟨fun _ _ _ _ _ _ _ _ _ r h=>by simp [laws_FnExactGreatestStrange.j0] at h,fun _ _ _ _ _ _ r h=>by simp [laws_FnExactGreatestStrange.j1] at h,fun _ _ _ r h=>by simp [laws_FnExactGreatestStrange.j2] at h⟩
 | k+1=>by
  obtain ⟨ih0,ih1,ih2⟩:=laws_FnExactGreatestStrange.mono_l k
  refine ⟨?_,?_,?_⟩
  ·intro y0 y1 y2 y3 y4 y5 y6 y7 y8
   unfold laws_FnExactGreatestStrange.j0
   repeat' first
   | (with_reducible exact ih0 _ _ _ _ _ _ _ _ _)
   | (with_reducible exact ih1 _ _ _ _ _ _)
   | (with_reducible exact ih2 _ _ _)
   | (with_reducible exact impl_GreatestStrange.mono _ _ _)
   | (with_reducible exact laws_eqIntS.mono _ _ _)
   | (with_reducible exact laws_eqParty.mono _ _ _ _ _)
   | (with_reducible exact laws_heldIntS.mono _ _ _)
   | (with_reducible exact laws_markIntS.mono _ _ _)
   | (with_reducible exact laws_markParty.mono _ _ _ _)
   | (with_reducible exact laws_toParty.mono _ _ _)
   | (with_reducible exact spec_GreatestStrange.mono _ _ _)
   | (with_reducible exact LeO.refl _)
   | (with_reducible exact LeO.none _)
   | (with_reducible refine LeO.ite ?_ ?_)
   | (with_reducible refine LeO.bind ?_ (fun _=>?_))
   | exact ih0 _ _ _ _ _ _ _ _ _
   | exact ih1 _ _ _ _ _ _
   | exact ih2 _ _ _
   | exact impl_GreatestStrange.mono _ _ _
   | exact laws_eqIntS.mono _ _ _
   | exact laws_eqParty.mono _ _ _ _ _
   | exact laws_heldIntS.mono _ _ _
   | exact laws_markIntS.mono _ _ _
   | exact laws_markParty.mono _ _ _ _
   | exact laws_toParty.mono _ _ _
   | exact spec_GreatestStrange.mono _ _ _
   | exact LeO.none _
   | refine LeO.ite ?_ ?_
   | refine LeO.bind ?_ (fun _=>?_)
  ·intro y0 y1 y2 y3 y4 y5
   unfold laws_FnExactGreatestStrange.j1
   repeat' first
   | (with_reducible exact ih0 _ _ _ _ _ _ _ _ _)
   | (with_reducible exact ih1 _ _ _ _ _ _)
   | (with_reducible exact ih2 _ _ _)
   | (with_reducible exact impl_GreatestStrange.mono _ _ _)
   | (with_reducible exact laws_eqIntS.mono _ _ _)
   | (with_reducible exact laws_eqParty.mono _ _ _ _ _)
   | (with_reducible exact laws_heldIntS.mono _ _ _)
   | (with_reducible exact laws_markIntS.mono _ _ _)
   | (with_reducible exact laws_markParty.mono _ _ _ _)
   | (with_reducible exact laws_toParty.mono _ _ _)
   | (with_reducible exact spec_GreatestStrange.mono _ _ _)
   | (with_reducible exact LeO.refl _)
   | (with_reducible exact LeO.none _)
   | (with_reducible refine LeO.ite ?_ ?_)
   | (with_reducible refine LeO.bind ?_ (fun _=>?_))
   | exact ih0 _ _ _ _ _ _ _ _ _
   | exact ih1 _ _ _ _ _ _
   | exact ih2 _ _ _
   | exact impl_GreatestStrange.mono _ _ _
   | exact laws_eqIntS.mono _ _ _
   | exact laws_eqParty.mono _ _ _ _ _
   | exact laws_heldIntS.mono _ _ _
   | exact laws_markIntS.mono _ _ _
   | exact laws_markParty.mono _ _ _ _
   | exact laws_toParty.mono _ _ _
   | exact spec_GreatestStrange.mono _ _ _
   | exact LeO.none _
   | refine LeO.ite ?_ ?_
   | refine LeO.bind ?_ (fun _=>?_)
  ·intro y0 y1 y2
   unfold laws_FnExactGreatestStrange.j2
   repeat' first
   | (with_reducible exact ih0 _ _ _ _ _ _ _ _ _)
   | (with_reducible exact ih1 _ _ _ _ _ _)
   | (with_reducible exact ih2 _ _ _)
   | (with_reducible exact impl_GreatestStrange.mono _ _ _)
   | (with_reducible exact laws_eqIntS.mono _ _ _)
   | (with_reducible exact laws_eqParty.mono _ _ _ _ _)
   | (with_reducible exact laws_heldIntS.mono _ _ _)
   | (with_reducible exact laws_markIntS.mono _ _ _)
   | (with_reducible exact laws_markParty.mono _ _ _ _)
   | (with_reducible exact laws_toParty.mono _ _ _)
   | (with_reducible exact spec_GreatestStrange.mono _ _ _)
   | (with_reducible exact LeO.refl _)
   | (with_reducible exact LeO.none _)
   | (with_reducible refine LeO.ite ?_ ?_)
   | (with_reducible refine LeO.bind ?_ (fun _=>?_))
   | exact ih0 _ _ _ _ _ _ _ _ _
   | exact ih1 _ _ _ _ _ _
   | exact ih2 _ _ _
   | exact impl_GreatestStrange.mono _ _ _
   | exact laws_eqIntS.mono _ _ _
   | exact laws_eqParty.mono _ _ _ _ _
   | exact laws_heldIntS.mono _ _ _
   | exact laws_markIntS.mono _ _ _
   | exact laws_markParty.mono _ _ _ _
   | exact laws_toParty.mono _ _ _
   | exact spec_GreatestStrange.mono _ _ _
   | exact LeO.none _
   | refine LeO.ite ?_ ?_
   | refine LeO.bind ?_ (fun _=>?_)
theorem laws_FnExactGreatestStrange.mono:∀ a0 a1 k,LeO (laws_FnExactGreatestStrange.f k a0 a1) (laws_FnExactGreatestStrange.f (k+1) a0 a1):=by
 intro a0 a1 k
 obtain ⟨ih0,ih1,ih2⟩:=laws_FnExactGreatestStrange.mono_l k
 unfold laws_FnExactGreatestStrange.f
 repeat' first
   | (with_reducible exact ih0 _ _ _ _ _ _ _ _ _)
   | (with_reducible exact ih1 _ _ _ _ _ _)
   | (with_reducible exact ih2 _ _ _)
   | (with_reducible exact impl_GreatestStrange.mono _ _ _)
   | (with_reducible exact laws_eqIntS.mono _ _ _)
   | (with_reducible exact laws_eqParty.mono _ _ _ _ _)
   | (with_reducible exact laws_heldIntS.mono _ _ _)
   | (with_reducible exact laws_markIntS.mono _ _ _)
   | (with_reducible exact laws_markParty.mono _ _ _ _)
   | (with_reducible exact laws_toParty.mono _ _ _)
   | (with_reducible exact spec_GreatestStrange.mono _ _ _)
   | (with_reducible exact LeO.refl _)
   | (with_reducible exact LeO.none _)
   | (with_reducible refine LeO.ite ?_ ?_)
   | (with_reducible refine LeO.bind ?_ (fun _=>?_))
   | exact ih0 _ _ _ _ _ _ _ _ _
   | exact ih1 _ _ _ _ _ _
   | exact ih2 _ _ _
   | exact impl_GreatestStrange.mono _ _ _
   | exact laws_eqIntS.mono _ _ _
   | exact laws_eqParty.mono _ _ _ _ _
   | exact laws_heldIntS.mono _ _ _
   | exact laws_markIntS.mono _ _ _
   | exact laws_markParty.mono _ _ _ _
   | exact laws_toParty.mono _ _ _
   | exact spec_GreatestStrange.mono _ _ _
   | exact LeO.none _
   | refine LeO.ite ?_ ?_
   | refine LeO.bind ?_ (fun _=>?_)
set_option maxHeartbeats 8000000 in
set_option maxRecDepth 100000 in
theorem laws_FnExactGreatestStrange.calls (k:Nat) (a0_0:Int) (A0_1:Option Addr) (c0_1:Nat) (l0_1:List (S79)) (r:Bool) (w:World) (hr0_1:Kd.C k79 w A0_1 l0_1.length l0_1) (hc0_1:l0_1.length≤c0_1) (h:laws_FnExactGreatestStrange.f k a0_0 l0_1=some r) (hT:Tz w) :
  Calls Tryd.prog 7 #[.agg #[.int .i64 a0_0,.slice A0_1 l0_1.length c0_1]] w fun e w'=>e=.returned (.bool r)∧Below w.heap.size w w':=by
 have hu24:=Tryd.underlying24
 have hu30:=Tryd.underlying30
 have HR0_1:=zz31 hr0_1
 have HC0_1:=zz31 hc0_1
 clear hr0_1 hc0_1
 have HB:=zz31 (Below.refl w.heap.size w)
 have HT:=zz31 hT
 clear hT
 have H:((laws_szParty.f a0_0 l0_1 1048576).bind fun t401=>(if t401 < 0 then (some true) else ((laws_toParty.f k a0_0 l0_1).bind fun bt402=>((spec_GreatestStrange.f k bt402.1 bt402.2).bind fun bt406=>((laws_toParty.f k a0_0 l0_1).bind fun bt410=>((impl_GreatestStrange.f k bt410.1 bt410.2).bind fun bt415=>((laws_eqIntS.f k bt415.1 bt406.1).bind fun t419=>(if t419=true then (laws_FnExactGreatestStrange.j0 k bt406.1 bt406.2 bt415.1 bt415.2 (bt415.2 != bt406.2) a0_0 l0_1 bt410.1 bt410.2) else (laws_FnExactGreatestStrange.j0 k bt406.1 bt406.2 bt415.1 bt415.2 true a0_0 l0_1 bt410.1 bt410.2)))))))))=some r:=h
 clear h
 replace H:=zz30.mp H
 obtain ⟨t401,A20,H⟩:=H
 replace H:(if t401 < 0 then (some true) else ((laws_toParty.f k a0_0 l0_1).bind fun bt402=>((spec_GreatestStrange.f k bt402.1 bt402.2).bind fun bt406=>((laws_toParty.f k a0_0 l0_1).bind fun bt410=>((impl_GreatestStrange.f k bt410.1 bt410.2).bind fun bt415=>((laws_eqIntS.f k bt415.1 bt406.1).bind fun t419=>(if t419=true then (laws_FnExactGreatestStrange.j0 k bt406.1 bt406.2 bt415.1 bt415.2 (bt415.2 != bt406.2) a0_0 l0_1 bt410.1 bt410.2) else (laws_FnExactGreatestStrange.j0 k bt406.1 bt406.2 bt415.1 bt415.2 true a0_0 l0_1 bt410.1 bt410.2))))))))=some r:=H
 have A2:=zz31 A20
 clear A20
 by_cases c3:t401 < 0
 ·rw [if_pos c3] at H
  have c3b0:decide (t401 < 0)=true:=decide_eq_true c3
  clear c3
  obtain rfl:=Option.some.inj H
  go_enter Tryd.func7,Tryd.ntmps7
  go_wp2_with (first | ((with_reducible refine gate_dst (N:=1) rfl ?_);refine box_event ?hg (N:=1) ?hd (cs:=#[.int .i64 a0_0,.slice A0_1 l0_1.length c0_1]) (t:=24) ?hr ?_;(case hd=>rfl);(case hg=>rfl);(case hr=>first | (go_simp;done) | (go_simp;rfl));intro gb400 hg w4 hbox hb;have n0_:=zz31 (zz4 (by repeat first | exact HB.out | apply zz2 | apply zz0 | apply zz1) hb);have n1_:=zz31 (hbox);have n2_:=zz31 ((by rw [hg];exact (zz5 (by repeat first | exact HB.out | apply zz2 | apply zz0 | apply zz1)):w.heap.size≤gb400));have n3_:=zz31 ((by rw [hg];exact (zz5 (by repeat first | exact HB.out | apply zz2 | apply zz0 | apply zz1)):w.heap.size≤gb400));clear HB;have HB:=n0_;have BK400:=n1_;have GW400:=n2_;have GE400:=n3_;clear n0_ n1_ n2_ n3_;clear hb hbox hg;have hcz5_0:w4.cell? ⟨gb400,0,none⟩=some (.int .i64 a0_0):=(zz9 BK400.out 0).trans rfl;have hcz5_1:w4.cell? ⟨gb400,1,none⟩=some (.slice A0_1 l0_1.length c0_1):=(zz9 BK400.out 1).trans rfl;have hfz5_0:=zz10 BK400.out 0;have hfz5_1:=zz10 BK400.out 1) | ((with_reducible refine gate_callee (f:=9) rfl ?_);refine goesL_ (some 16) rfl rfl Tryd.func9 (by kernel_rfl) rfl #[.agg #[.int .i64 a0_0,.slice A0_1 l0_1.length c0_1],.int .i64 1048576] rfl (by (try simp only [zz26,zz27,zz28]);first | done | rfl | (simp only [zz24,zz25];rfl)) ?_;(with_reducible refine (laws_szParty.calls a0_0 _ _ l0_1 1048576 t401 _ ?side1 ?side2 A2.out).mono ?_);(case side1=>repeat (first | exact (Kd.C_below HR0_1.out HB.out) | (with_reducible refine zz18 ?_ _) | (with_reducible refine zz19 ?_ _) | (with_reducible refine zz20 ?_)));(case side2=>exact HC0_1.out);rintro e w6 ⟨rfl,hb⟩;refine ⟨_,rfl,?_⟩;have n0_:=zz31 (zz11 (g:=gb400) (o:=.cells #[.int .i64 a0_0,.slice A0_1 l0_1.length c0_1] 24 (0,0)) (by (with_reducible repeat (first | refine zz6 ?_ _ | refine zz7 ?_ | refine zz8 ?_ _));exact BK400.out) hb);have n1_:=zz31 (zz4 (by repeat first | exact HB.out | apply zz2 | apply zz0 | apply zz1 | refine zz3 ?_ GE400.out) hb);clear BK400;clear HB;have BK400:=n0_;have HB:=n1_;clear n0_ n1_;(try clear hb);(try clear hb2);(try clear hk);(try clear hi)))
  go_ret
  exact ⟨by first | rfl | (simp [errW_none,errW_some] <;> rfl) | (simp [*,errW_none,errW_some] <;> rfl),by repeat first | exact HB.out | apply zz2 | apply zz0 | apply zz1 | refine zz3 ?_ GE400.out⟩
 ·rw [if_neg c3] at H
  have c3b0:decide (t401 < 0)=false:=decide_eq_false c3
  clear c3
  replace H:=zz30.mp H
  obtain ⟨⟨t402,t403⟩,A70,H⟩:=H
  replace H:((spec_GreatestStrange.f k t402 t403).bind fun bt406=>((laws_toParty.f k a0_0 l0_1).bind fun bt410=>((impl_GreatestStrange.f k bt410.1 bt410.2).bind fun bt415=>((laws_eqIntS.f k bt415.1 bt406.1).bind fun t419=>(if t419=true then (laws_FnExactGreatestStrange.j0 k bt406.1 bt406.2 bt415.1 bt415.2 (bt415.2 != bt406.2) a0_0 l0_1 bt410.1 bt410.2) else (laws_FnExactGreatestStrange.j0 k bt406.1 bt406.2 bt415.1 bt415.2 true a0_0 l0_1 bt410.1 bt410.2))))))=some r:=H
  have A7:=zz31 A70
  clear A70
  replace H:=zz30.mp H
  obtain ⟨⟨t406,t409⟩,A80,H⟩:=H
  replace H:((laws_toParty.f k a0_0 l0_1).bind fun bt410=>((impl_GreatestStrange.f k bt410.1 bt410.2).bind fun bt415=>((laws_eqIntS.f k bt415.1 t406).bind fun t419=>(if t419=true then (laws_FnExactGreatestStrange.j0 k t406 t409 bt415.1 bt415.2 (bt415.2 != t409) a0_0 l0_1 bt410.1 bt410.2) else (laws_FnExactGreatestStrange.j0 k t406 t409 bt415.1 bt415.2 true a0_0 l0_1 bt410.1 bt410.2)))))=some r:=H
  have A8:=zz31 A80
  clear A80
  replace H:=zz30.mp H
  obtain ⟨⟨t410,t411⟩,A90,H⟩:=H
  replace H:((impl_GreatestStrange.f k t410 t411).bind fun bt415=>((laws_eqIntS.f k bt415.1 t406).bind fun t419=>(if t419=true then (laws_FnExactGreatestStrange.j0 k t406 t409 bt415.1 bt415.2 (bt415.2 != t409) a0_0 l0_1 t410 t411) else (laws_FnExactGreatestStrange.j0 k t406 t409 bt415.1 bt415.2 true a0_0 l0_1 t410 t411))))=some r:=H
  have A9:=zz31 A90
  clear A90
  replace H:=zz30.mp H
  obtain ⟨⟨t415,t418⟩,A100,H⟩:=H
  replace H:((laws_eqIntS.f k t415 t406).bind fun t419=>(if t419=true then (laws_FnExactGreatestStrange.j0 k t406 t409 t415 t418 (t418 != t409) a0_0 l0_1 t410 t411) else (laws_FnExactGreatestStrange.j0 k t406 t409 t415 t418 true a0_0 l0_1 t410 t411)))=some r:=H
  have A10:=zz31 A100
  clear A100
  have HC11:=zz31 H
  clear H
  go_enter Tryd.func7,Tryd.ntmps7
  go_upto_region 8 with (first | ((with_reducible refine gate_dst (N:=1) rfl ?_);refine box_event ?hg (N:=1) ?hd (cs:=#[.int .i64 a0_0,.slice A0_1 l0_1.length c0_1]) (t:=24) ?hr ?_;(case hd=>rfl);(case hg=>rfl);(case hr=>first | (go_simp;done) | (go_simp;rfl));intro gb400 hg w12 hbox hb;have n0_:=zz31 (zz4 (by repeat first | exact HB.out | apply zz2 | apply zz0 | apply zz1) hb);have n1_:=zz31 (hbox);have n2_:=zz31 ((by rw [hg];exact (zz5 (by repeat first | exact HB.out | apply zz2 | apply zz0 | apply zz1)):w.heap.size≤gb400));have n3_:=zz31 ((by rw [hg];exact (zz5 (by repeat first | exact HB.out | apply zz2 | apply zz0 | apply zz1)):w.heap.size≤gb400));clear HB;have HB:=n0_;have BK400:=n1_;have GW400:=n2_;have GE400:=n3_;clear n0_ n1_ n2_ n3_;clear hb hbox hg;have hcz13_0:w12.cell? ⟨gb400,0,none⟩=some (.int .i64 a0_0):=(zz9 BK400.out 0).trans rfl;have hcz13_1:w12.cell? ⟨gb400,1,none⟩=some (.slice A0_1 l0_1.length c0_1):=(zz9 BK400.out 1).trans rfl;have hfz13_0:=zz10 BK400.out 0;have hfz13_1:=zz10 BK400.out 1) | ((with_reducible refine gate_callee (f:=9) rfl ?_);refine goesL_ (some 16) rfl rfl Tryd.func9 (by kernel_rfl) rfl #[.agg #[.int .i64 a0_0,.slice A0_1 l0_1.length c0_1],.int .i64 1048576] rfl (by (try simp only [zz26,zz27,zz28]);first | done | rfl | (simp only [zz24,zz25];rfl)) ?_;(with_reducible refine (laws_szParty.calls a0_0 _ _ l0_1 1048576 t401 _ ?side1 ?side2 A2.out).mono ?_);(case side1=>repeat (first | exact (Kd.C_below HR0_1.out HB.out) | (with_reducible refine zz18 ?_ _) | (with_reducible refine zz19 ?_ _) | (with_reducible refine zz20 ?_)));(case side2=>exact HC0_1.out);rintro e w14 ⟨rfl,hb⟩;refine ⟨_,rfl,?_⟩;have n0_:=zz31 (zz11 (g:=gb400) (o:=.cells #[.int .i64 a0_0,.slice A0_1 l0_1.length c0_1] 24 (0,0)) (by (with_reducible repeat (first | refine zz6 ?_ _ | refine zz7 ?_ | refine zz8 ?_ _));exact BK400.out) hb);have n1_:=zz31 (zz4 (by repeat first | exact HB.out | apply zz2 | apply zz0 | apply zz1 | refine zz3 ?_ GE400.out) hb);clear BK400;clear HB;have BK400:=n0_;have HB:=n1_;clear n0_ n1_;(try clear hb);(try clear hb2);(try clear hk);(try clear hi);have hcz15_0:w14.cell? ⟨gb400,0,none⟩=some (.int .i64 a0_0):=(zz9 BK400.out 0).trans rfl;have hcz15_1:w14.cell? ⟨gb400,1,none⟩=some (.slice A0_1 l0_1.length c0_1):=(zz9 BK400.out 1).trans rfl;have hfz15_0:=zz10 BK400.out 0;have hfz15_1:=zz10 BK400.out 1) | ((with_reducible refine gate_callee (f:=11) rfl ?_);refine goesL_ (some 21) rfl rfl Tryd.func11 (by kernel_rfl) rfl #[.agg #[.int .i64 a0_0,.slice A0_1 l0_1.length c0_1]] rfl (by (try simp only [zz26,zz27,zz28]);first | done | rfl | (simp only [zz24,zz25];rfl)) ?_;(with_reducible refine (laws_toParty.calls k a0_0 _ _ l0_1 t402 t403 _ ?side1 ?side2 A7.out).mono ?_);(case side1=>repeat (first | exact (Kd.C_below HR0_1.out HB.out) | (with_reducible refine zz18 ?_ _) | (with_reducible refine zz19 ?_ _) | (with_reducible refine zz20 ?_)));(case side2=>exact HC0_1.out);rintro e w16 ⟨v404,rfl,ho0,hb⟩;refine ⟨_,rfl,?_⟩;have n0_:=zz31 (Kd.R_lower ho0 (zz5 (by repeat first | exact HB.out | apply zz2 | apply zz0 | apply zz1 | refine zz3 ?_ GE400.out)));have n1_:=zz31 (zz11 (g:=gb400) (o:=.cells #[.int .i64 a0_0,.slice A0_1 l0_1.length c0_1] 24 (0,0)) (by (with_reducible repeat (first | refine zz6 ?_ _ | refine zz7 ?_ | refine zz8 ?_ _));exact BK400.out) hb);have n2_:=zz31 (zz4 (by repeat first | exact HB.out | apply zz2 | apply zz0 | apply zz1 | refine zz3 ?_ GE400.out) hb);clear BK400;clear HB;have HO405:=n0_;have BK400:=n1_;have HB:=n2_;clear n0_ n1_ n2_;(try clear hb);(try clear hb2);(try clear hk);(try clear hi);(try clear ho0);obtain ⟨Ao17,co17,eo17⟩:=Kd.R_slice HO405.out;subst eo17) | ((with_reducible refine gate_callee (f:=24) rfl ?_);refine goesL_ (some 22) rfl rfl Tryd.func24 (by kernel_rfl) rfl #[.agg #[.int .i64 t402,.slice Ao17 t403.length co17]] rfl (by (try simp only [zz26,zz27,zz28]);first | done | rfl | (simp only [zz24,zz25];rfl)) ?_;(with_reducible refine (spec_GreatestStrange.calls k t402 _ _ t403 t406 t409 _ ?side1 ?side2 A8.out).mono ?_);(case side1=>repeat (first | exact (Kd.R_reads' HO405.out).2.2 | (with_reducible refine zz18 ?_ _) | (with_reducible refine zz19 ?_ _) | (with_reducible refine zz20 ?_)));(case side2=>exact (Kd.R_reads' HO405.out).2.1);rintro e w18 ⟨v407,rfl,ho0,hb⟩;refine ⟨_,rfl,?_⟩;have n0_:=zz31 (Kd.R_below (by (with_reducible repeat (first | apply zz12 | apply zz13 | apply zz14));exact HO405.out) hb);have n1_:=zz31 (Kd.V_lower (Kd.V_mono (ok':=fun k_=>some k_ ≠ (.slice Ao17 t403.length co17:Value).ownBlock∧k_ ≠ gb400) ho0 (fun k_ hk_=>⟨(Kd.fresh' (Kd.R_lt (by (with_reducible repeat (first | apply zz12 | apply zz13 | apply zz14));exact HO405.out)) k_ hk_),(Kd.freshB (g:=gb400) (o:=.cells #[.int .i64 a0_0,.slice A0_1 l0_1.length c0_1] 24 (0,0)) (by (with_reducible repeat (first | refine zz6 ?_ _ | refine zz7 ?_ | refine zz8 ?_ _));exact BK400.out) k_ hk_)⟩)) (zz5 (by repeat first | exact HB.out | apply zz2 | apply zz0 | apply zz1 | refine zz3 ?_ GE400.out)));have n2_:=zz31 (zz11 (g:=gb400) (o:=.cells #[.int .i64 a0_0,.slice A0_1 l0_1.length c0_1] 24 (0,0)) (by (with_reducible repeat (first | refine zz6 ?_ _ | refine zz7 ?_ | refine zz8 ?_ _));exact BK400.out) hb);have n3_:=zz31 (zz4 (by repeat first | exact HB.out | apply zz2 | apply zz0 | apply zz1 | refine zz3 ?_ GE400.out) hb);clear HO405;clear BK400;clear HB;have HO405:=n0_;have HO408:=n1_;have BK400:=n2_;have HB:=n3_;clear n0_ n1_ n2_ n3_;(try clear hb);(try clear hb2);(try clear hk);(try clear hi);(try clear ho0);have hcz19_0:w18.cell? ⟨gb400,0,none⟩=some (.int .i64 a0_0):=(zz9 BK400.out 0).trans rfl;have hcz19_1:w18.cell? ⟨gb400,1,none⟩=some (.slice A0_1 l0_1.length c0_1):=(zz9 BK400.out 1).trans rfl;have hfz19_0:=zz10 BK400.out 0;have hfz19_1:=zz10 BK400.out 1) | ((with_reducible refine gate_callee (f:=11) rfl ?_);refine goesL_ (some 26) rfl rfl Tryd.func11 (by kernel_rfl) rfl #[.agg #[.int .i64 a0_0,.slice A0_1 l0_1.length c0_1]] rfl (by (try simp only [zz26,zz27,zz28]);first | done | rfl | (simp only [zz24,zz25];rfl)) ?_;(with_reducible refine (laws_toParty.calls k a0_0 _ _ l0_1 t410 t411 _ ?side1 ?side2 A9.out).mono ?_);(case side1=>repeat (first | exact (Kd.C_below HR0_1.out HB.out) | (with_reducible refine zz18 ?_ _) | (with_reducible refine zz19 ?_ _) | (with_reducible refine zz20 ?_)));(case side2=>exact HC0_1.out);rintro e w20 ⟨v412,rfl,ho0,hb⟩;refine ⟨_,rfl,?_⟩;have n0_:=zz31 (Kd.R_elder' (by (with_reducible repeat (first | apply zz12 | apply zz13 | apply zz14));exact HO405.out) (Kd.R_base ho0) hb);have n1_:=zz31 (Kd.V_elder' (by (with_reducible repeat (first | apply Kd.V_alloc | apply Kd.V_drewN | apply Kd.V_drew));exact HO408.out) (Kd.R_base ho0) hb);have n2_:=zz31 (Kd.R_lower (Kd.R_new' ho0 (Kd.R_lt (by (with_reducible repeat (first | apply zz12 | apply zz13 | apply zz14));exact HO405.out))) (zz5 (by repeat first | exact HB.out | apply zz2 | apply zz0 | apply zz1 | refine zz3 ?_ GE400.out)));have n3_:=zz31 (zz11 (g:=gb400) (o:=.cells #[.int .i64 a0_0,.slice A0_1 l0_1.length c0_1] 24 (0,0)) (by (with_reducible repeat (first | refine zz6 ?_ _ | refine zz7 ?_ | refine zz8 ?_ _));exact BK400.out) hb);have n4_:=zz31 (zz4 (by repeat first | exact HB.out | apply zz2 | apply zz0 | apply zz1 | refine zz3 ?_ GE400.out) hb);clear HO405;clear HO408;clear BK400;clear HB;have HO405:=n0_;have HO408:=n1_;have HO413:=n2_;have BK400:=n3_;have HB:=n4_;clear n0_ n1_ n2_ n3_ n4_;(try clear hb);(try clear hb2);(try clear hk);(try clear hi);(try clear ho0)) | ((with_reducible refine gate_dst (N:=6) rfl ?_);refine box_event ?hg (N:=6) ?hd (cs:=#[.int .i64 0,.slice none 0 0]) (t:=30) ?hr ?_;(case hd=>rfl);(case hg=>rfl);(case hr=>first | (go_simp;done) | (go_simp;rfl));intro gb414 hg w21 hbox hb;have n0_:=zz31 (Kd.R_below (by (with_reducible repeat (first | apply zz12 | apply zz13 | apply zz14));exact HO405.out) hb);have n1_:=zz31 (Kd.V_below (Kd.V_elderB (by (with_reducible repeat (first | apply Kd.V_alloc | apply Kd.V_drewN | apply Kd.V_drew));exact HO408.out) gb414 (Nat.le_of_eq hg.symm)) hb);have n2_:=zz31 (Kd.R_below (by (with_reducible repeat (first | apply zz12 | apply zz13 | apply zz14));exact HO413.out) hb);have n3_:=zz31 (zz11 (g:=gb400) (o:=.cells #[.int .i64 a0_0,.slice A0_1 l0_1.length c0_1] 24 (0,0)) (by (with_reducible repeat (first | refine zz6 ?_ _ | refine zz7 ?_ | refine zz8 ?_ _));exact BK400.out) hb);have n4_:=zz31 (zz4 (by repeat first | exact HB.out | apply zz2 | apply zz0 | apply zz1 | refine zz3 ?_ GE400.out) hb);have n5_:=zz31 (hbox);have n6_:=zz31 ((by rw [hg];exact (zz5 (by repeat first | exact HB.out | apply zz2 | apply zz0 | apply zz1 | refine zz3 ?_ GE400.out)):w.heap.size≤gb414));have n7_:=zz31 ((by rw [hg];exact (zz5 (by repeat first | exact HB.out | apply zz2 | apply zz0 | apply zz1 | refine zz3 ?_ GE400.out)):w.heap.size≤gb414));have n8_:=zz31 ((by rw [hg];exact Nat.ne_of_lt (blk_lt (g:=gb400) (o:=.cells #[.int .i64 a0_0,.slice A0_1 l0_1.length c0_1] 24 (0,0)) (by (with_reducible repeat (first | refine zz6 ?_ _ | refine zz7 ?_ | refine zz8 ?_ _));exact BK400.out)):gb400 ≠ gb414));have n9_:=zz31 ((by rw [hg];exact Nat.ne_of_gt (blk_lt (g:=gb400) (o:=.cells #[.int .i64 a0_0,.slice A0_1 l0_1.length c0_1] 24 (0,0)) (by (with_reducible repeat (first | refine zz6 ?_ _ | refine zz7 ?_ | refine zz8 ?_ _));exact BK400.out)):gb414 ≠ gb400));clear HO405;clear HO408;clear HO413;clear BK400;clear HB;have HO405:=n0_;have HO408:=n1_;have HO413:=n2_;have BK400:=n3_;have HB:=n4_;have BK414:=n5_;have GW414:=n6_;have GE414:=n7_;have NB400_414:=n8_;have NB414_400:=n9_;clear n0_ n1_ n2_ n3_ n4_ n5_ n6_ n7_ n8_ n9_;clear hb hbox hg;have hnb22:=NB414_400.out;have hnc22:=NB400_414.out;have hcz23_0:w21.cell? ⟨gb414,0,none⟩=some (.int .i64 0):=(zz9 BK414.out 0).trans rfl;have hcz23_1:w21.cell? ⟨gb414,1,none⟩=some (.slice none 0 0):=(zz9 BK414.out 1).trans rfl;have hfz23_0:=zz10 BK414.out 0;have hfz23_1:=zz10 BK414.out 1;obtain ⟨Ao24,co24,eo24⟩:=Kd.R_slice HO413.out;subst eo24) | ((with_reducible refine gate_callee (f:=25) rfl ?_);refine goesL_ (some 29) rfl rfl Tryd.func25 (by kernel_rfl) rfl #[.agg #[.int .i64 t410,.slice Ao24 t411.length co24]] rfl (by (try simp only [zz26,zz27,zz28]);first | done | rfl | (simp only [zz24,zz25];rfl)) ?_;(with_reducible refine (impl_GreatestStrange.calls k t410 _ _ t411 t415 t418 _ ?side1 ?side2 A10.out (HT.out.below (by repeat first | exact HB.out | apply zz2 | apply zz0 | apply zz1 | refine zz3 ?_ GE400.out | refine zz3 ?_ GE414.out))).mono ?_);(case side1=>refine (Kd.R_reads' (e:=74) (base:=w.heap.size) (ok:=fun k_=>(True∧some k_ ≠ (.slice Ao17 t403.length co17:Value).ownBlock)) (n:=t411.length) (c:=co24) ?_).2.2;exact (by (with_reducible repeat (first | apply zz12 | apply zz13 | apply zz14));exact (Kd.R_mono (Kd.R_far (p:=⟨gb414,1,none⟩) (Kd.R_far (p:=⟨gb414,0,none⟩) (Kd.R_types HO413.out BK414.out (by decide)) (fun _ hk=>hk.2) (.int .i64 t410)) (fun _ hk=>hk.2) (.slice Ao24 t411.length co24)) (fun _ h_=>h_.1))));(case side2=>exact (Kd.R_reads' HO413.out).2.1);rintro e w25 ⟨v416,rfl,ho0,hb⟩;refine ⟨_,rfl,?_⟩;have n0_:=zz31 (Kd.R_below (by (with_reducible repeat (first | apply zz12 | apply zz13 | apply zz14));exact (Kd.R_mono (Kd.R_far (p:=⟨gb414,1,none⟩) (Kd.R_far (p:=⟨gb414,0,none⟩) (Kd.R_types HO405.out BK414.out (by decide)) (fun _ hk=>hk.2) (.int .i64 t410)) (fun _ hk=>hk.2) (.slice Ao24 t411.length co24)) (fun _ h_=>h_.1))) hb);have n1_:=zz31 (Kd.V_elder' (by (with_reducible repeat (first | apply Kd.V_alloc | apply Kd.V_drewN | apply Kd.V_drew));exact (Kd.V_mono (Kd.V_far (p:=⟨gb414,1,none⟩) (Kd.V_far (p:=⟨gb414,0,none⟩) (Kd.V_mono HO408.out (fun k_ hk=>(⟨hk,hk.2⟩:_∧k_ ≠ gb414))) (fun _ hk=>hk.2) (.int .i64 t410)) (fun _ hk=>hk.2) (.slice Ao24 t411.length co24)) (fun _ h_=>h_.1))) (Kd.R_base ho0) hb);have n2_:=zz31 (Kd.R_below (by (with_reducible repeat (first | apply zz12 | apply zz13 | apply zz14));exact (Kd.R_mono (Kd.R_far (p:=⟨gb414,1,none⟩) (Kd.R_far (p:=⟨gb414,0,none⟩) (Kd.R_types HO413.out BK414.out (by decide)) (fun _ hk=>hk.2) (.int .i64 t410)) (fun _ hk=>hk.2) (.slice Ao24 t411.length co24)) (fun _ h_=>h_.1))) hb);have n3_:=zz31 (Kd.R_lower ho0 (zz5 (by repeat first | exact HB.out | apply zz2 | apply zz0 | apply zz1 | refine zz3 ?_ GE400.out | refine zz3 ?_ GE414.out)));have n4_:=zz31 (zz11 (g:=gb400) (o:=.cells #[.int .i64 a0_0,.slice A0_1 l0_1.length c0_1] 24 (0,0)) (by (with_reducible repeat (first | refine zz6 ?_ _ | refine zz7 ?_ | refine zz8 ?_ _));refine blk_far ?_ NB400_414.out _;(with_reducible repeat (first | refine zz6 ?_ _ | refine zz7 ?_ | refine zz8 ?_ _));refine blk_far ?_ NB400_414.out _;(with_reducible repeat (first | refine zz6 ?_ _ | refine zz7 ?_ | refine zz8 ?_ _));exact BK400.out) hb);have n5_:=zz31 (zz11 (g:=gb414) (o:=.cells #[.int .i64 t410,.slice Ao24 t411.length co24] 30 (0,0)) (by (with_reducible repeat (first | refine zz6 ?_ _ | refine zz7 ?_ | refine zz8 ?_ _));refine blk_put (cs:=#[.int .i64 t410,.slice none 0 0]) ?_ 1 _ rfl;(with_reducible repeat (first | refine zz6 ?_ _ | refine zz7 ?_ | refine zz8 ?_ _));refine blk_put (cs:=#[.int .i64 0,.slice none 0 0]) ?_ 0 _ rfl;(with_reducible repeat (first | refine zz6 ?_ _ | refine zz7 ?_ | refine zz8 ?_ _));exact BK414.out) hb);have n6_:=zz31 (zz4 (by repeat first | exact HB.out | apply zz2 | apply zz0 | apply zz1 | refine zz3 ?_ GE400.out | refine zz3 ?_ GE414.out) hb);clear HO405;clear HO408;clear HO413;clear BK400;clear BK414;clear HB;have HO405:=n0_;have HO408:=n1_;have HO413:=n2_;have HO417:=n3_;have BK400:=n4_;have BK414:=n5_;have HB:=n6_;clear n0_ n1_ n2_ n3_ n4_ n5_ n6_;(try clear hb);(try clear hb2);(try clear hk);(try clear hi);(try clear ho0)))
  (try simp only [Act.put,zz21,zz22,zz23])
  go_cut [40] (fun v40 wc=>∃ (kq:Nat) (x40_10:Bool),v40=.bool x40_10∧Aside0 (laws_FnExactGreatestStrange.j0 kq t406 t409 t415 t418 x40_10 a0_0 l0_1 t410 t411=some r)∧Aside0 (kq≤k)∧Aside0 (Kd.V (Kd.int .i64) 3 wc w.heap.size (fun k_=>some k_ ≠ (v416:Value).ownBlock∧some k_ ≠ ((.slice Ao24 t411.length co24):Value).ownBlock∧k_ ≠ gb400∧k_ ≠ gb414) v407 t406)∧Aside0 (Kd.R (Kd.int .i64) 3 wc w.heap.size (fun _=>True) v416 t415)∧Aside0 (Kd.R k74 74 wc w.heap.size (fun _=>True) (.slice Ao24 t411.length co24) t411)∧Aside0 (wc.heap[gb400]?=some (.cells #[.int .i64 a0_0,(.slice A0_1 l0_1.length c0_1)] 24 (0,0)))∧Aside0 (wc.heap[gb414]?=some (.cells #[.int .i64 t410,(.slice Ao24 t411.length co24)] 30 (0,0)))∧Aside0 (Below w.heap.size w wc))
  case first =>
   have H:=HC11.out
   clear HC11
   replace H:=zz30.mp H
   obtain ⟨t419,A260,H⟩:=H
   replace H:(if t419=true then (laws_FnExactGreatestStrange.j0 k t406 t409 t415 t418 (t418 != t409) a0_0 l0_1 t410 t411) else (laws_FnExactGreatestStrange.j0 k t406 t409 t415 t418 true a0_0 l0_1 t410 t411))=some r:=H
   have A26:=zz31 A260
   clear A260
   by_cases c27:t419=true
   ·subst c27
    have H1:(laws_FnExactGreatestStrange.j0 k t406 t409 t415 t418 (t418 != t409) a0_0 l0_1 t410 t411)=some r:=by rw [if_pos rfl] at H;exact H
    clear H
    have H:=H1
    clear H1
    have H':=zz31 H
    clear H
    obtain ⟨Ao28,co28,eo28⟩:=Kd.R_slice HO417.out
    subst eo28
    obtain ⟨Ao29,co29,eo29⟩:=Kd.V_slice HO408.out
    subst eo29
    go_wp2_with (first | ((with_reducible refine gate_callee (f:=18) rfl ?_);refine goesL_ (some 34) rfl rfl Tryd.func18 (by kernel_rfl) rfl #[.slice Ao28 t415.length co28,.slice Ao29 t406.length co29] rfl (by (try simp only [zz26,zz27,zz28]);first | done | rfl | (simp only [zz24,zz25];rfl)) ?_;(with_reducible refine (laws_eqIntS.calls k _ _ t415 _ _ t406 true _ ?side1 ?side2 ?side3 ?side4 A26.out).mono ?_);(case side1=>repeat (first | exact (Kd.R_reads' HO417.out).2.2 | (with_reducible refine zz18 ?_ _) | (with_reducible refine zz19 ?_ _) | (with_reducible refine zz20 ?_)));(case side2=>exact (Kd.R_reads' HO417.out).2.1);(case side3=>repeat (first | exact (Kd.V_reads' HO408.out).2.2 | (with_reducible refine zz18 ?_ _) | (with_reducible refine zz19 ?_ _) | (with_reducible refine zz20 ?_)));(case side4=>exact (Kd.V_reads' HO408.out).2.1);rintro e w' ⟨rfl,⟨nd,rfl⟩⟩;refine ⟨_,rfl,?_⟩))
    go_meet
    case rel=>exact ⟨_,((t418 != t409)),(by first | rfl | (simp;done) | (simp [*];done)),H',⟨by first | omega | exact Nat.le_refl _⟩,⟨by (with_reducible repeat (first | apply Kd.V_alloc | apply Kd.V_drewN | apply Kd.V_drew));exact Kd.V_mono HO408.out (fun _ hk=>⟨hk.2,⟨hk.1.1.2,⟨hk.1.1.1.2,hk.1.2⟩⟩⟩)⟩,⟨by (with_reducible repeat (first | apply zz12 | apply zz13 | apply zz14));exact HO417.out⟩,⟨by (with_reducible repeat (first | apply zz12 | apply zz13 | apply zz14));exact Kd.R_mono HO413.out (fun _ hk=>trivial)⟩,⟨by (with_reducible repeat (first | refine zz6 ?_ _ | refine zz7 ?_ | refine zz8 ?_ _));exact BK400.out⟩,⟨by (with_reducible repeat (first | refine zz6 ?_ _ | refine zz7 ?_ | refine zz8 ?_ _));exact BK414.out⟩,⟨by repeat first | exact HB.out | apply zz2 | apply zz0 | apply zz1 | refine zz3 ?_ GE400.out | refine zz3 ?_ GE414.out⟩⟩
   ·replace c27:=Bool.eq_false_iff.mpr c27
    subst c27
    have H1:(laws_FnExactGreatestStrange.j0 k t406 t409 t415 t418 true a0_0 l0_1 t410 t411)=some r:=by rw [if_neg (show ¬ (false=true) by decide)] at H;exact H
    clear H
    have H:=H1
    clear H1
    have H':=zz31 H
    clear H
    obtain ⟨Ao30,co30,eo30⟩:=Kd.R_slice HO417.out
    subst eo30
    obtain ⟨Ao31,co31,eo31⟩:=Kd.V_slice HO408.out
    subst eo31
    go_wp2_with (first | ((with_reducible refine gate_callee (f:=18) rfl ?_);refine goesL_ (some 34) rfl rfl Tryd.func18 (by kernel_rfl) rfl #[.slice Ao30 t415.length co30,.slice Ao31 t406.length co31] rfl (by (try simp only [zz26,zz27,zz28]);first | done | rfl | (simp only [zz24,zz25];rfl)) ?_;(with_reducible refine (laws_eqIntS.calls k _ _ t415 _ _ t406 false _ ?side1 ?side2 ?side3 ?side4 A26.out).mono ?_);(case side1=>repeat (first | exact (Kd.R_reads' HO417.out).2.2 | (with_reducible refine zz18 ?_ _) | (with_reducible refine zz19 ?_ _) | (with_reducible refine zz20 ?_)));(case side2=>exact (Kd.R_reads' HO417.out).2.1);(case side3=>repeat (first | exact (Kd.V_reads' HO408.out).2.2 | (with_reducible refine zz18 ?_ _) | (with_reducible refine zz19 ?_ _) | (with_reducible refine zz20 ?_)));(case side4=>exact (Kd.V_reads' HO408.out).2.1);rintro e w' ⟨rfl,⟨nd,rfl⟩⟩;refine ⟨_,rfl,?_⟩))
    go_meet
    case rel=>exact ⟨_,(true),(by first | rfl | (simp;done) | (simp [*];done)),H',⟨by first | omega | exact Nat.le_refl _⟩,⟨by (with_reducible repeat (first | apply Kd.V_alloc | apply Kd.V_drewN | apply Kd.V_drew));exact Kd.V_mono HO408.out (fun _ hk=>⟨hk.2,⟨hk.1.1.2,⟨hk.1.1.1.2,hk.1.2⟩⟩⟩)⟩,⟨by (with_reducible repeat (first | apply zz12 | apply zz13 | apply zz14));exact HO417.out⟩,⟨by (with_reducible repeat (first | apply zz12 | apply zz13 | apply zz14));exact Kd.R_mono HO413.out (fun _ hk=>trivial)⟩,⟨by (with_reducible repeat (first | refine zz6 ?_ _ | refine zz7 ?_ | refine zz8 ?_ _));exact BK400.out⟩,⟨by (with_reducible repeat (first | refine zz6 ?_ _ | refine zz7 ?_ | refine zz8 ?_ _));exact BK414.out⟩,⟨by repeat first | exact HB.out | apply zz2 | apply zz0 | apply zz1 | refine zz3 ?_ GE400.out | refine zz3 ?_ GE414.out⟩⟩
  case rest =>
   clear HC11
   try clear c1
   try clear c2
   try clear p2
   try clear c3
   try clear c3b0
   try clear c7
   try clear c9
   try clear c11
   try clear c18
   try clear c22
   try clear c24
   try clear c25
   try clear c27
   try clear hcz13_0
   try clear hcz13_1
   try clear hcz15_0
   try clear hcz15_1
   try clear hcz19_0
   try clear hcz19_1
   try clear hcz23_0
   try clear hcz23_1
   try clear hcz5_0
   try clear hcz5_1
   try clear hfz13_0
   try clear hfz13_1
   try clear hfz15_0
   try clear hfz15_1
   try clear hfz19_0
   try clear hfz19_1
   try clear hfz23_0
   try clear hfz23_1
   try clear hfz5_0
   try clear hfz5_1
   obtain ⟨kq,x40_10,rfl,HA,HJ10,HO_4,HO_7,HO_415001,BK400,BK414,HB⟩:=hcut
   cases kq with
   | zero=>exact absurd HA.out (by simp [laws_FnExactGreatestStrange.j0])
   | succ kj10 =>
    have H:=HA.out
    clear HA
    simp only [laws_FnExactGreatestStrange.j0] at H
    by_cases c32:x40_10=true
    ·subst c32
     have H1:(some false)=some r:=by rw [if_pos rfl] at H;exact H
     clear H
     have H:=H1
     clear H1
     obtain rfl:=Option.some.inj H
     go_wp2
     go_ret
     exact ⟨by first | rfl | (simp [errW_none,errW_some] <;> rfl) | (simp [*,errW_none,errW_some] <;> rfl),by repeat first | exact HB.out | apply zz2 | apply zz0 | apply zz1 | refine zz3 ?_ GE400.out | refine zz3 ?_ GE414.out⟩
    ·replace c32:=Bool.eq_false_iff.mpr c32
     subst c32
     have H1:((laws_toParty.f kj10 a0_0 l0_1).bind fun bt420=>((laws_eqParty.f kj10 t410 t411 bt420.1 bt420.2).bind fun t424=>(if t424=true then ((laws_markParty.f kj10 t410 t411 1).bind fun bt425=>(if bt425.1 < 0 then (laws_FnExactGreatestStrange.j1 kj10 t406 t409 t415 true a0_0 l0_1) else ((laws_eqIntS.f kj10 t415 t406).bind fun t427=>(if t427=true then (laws_FnExactGreatestStrange.j1 kj10 t406 t409 t415 (t418 != t409) a0_0 l0_1) else (laws_FnExactGreatestStrange.j1 kj10 t406 t409 t415 true a0_0 l0_1))))) else (some false))))=some r:=by rw [if_neg (show ¬ (false=true) by decide)] at H;exact H
     clear H
     have H:=H1
     clear H1
     replace H:=zz30.mp H
     obtain ⟨⟨t420,t421⟩,A330,H⟩:=H
     replace H:((laws_eqParty.f kj10 t410 t411 t420 t421).bind fun t424=>(if t424=true then ((laws_markParty.f kj10 t410 t411 1).bind fun bt425=>(if bt425.1 < 0 then (laws_FnExactGreatestStrange.j1 kj10 t406 t409 t415 true a0_0 l0_1) else ((laws_eqIntS.f kj10 t415 t406).bind fun t427=>(if t427=true then (laws_FnExactGreatestStrange.j1 kj10 t406 t409 t415 (t418 != t409) a0_0 l0_1) else (laws_FnExactGreatestStrange.j1 kj10 t406 t409 t415 true a0_0 l0_1))))) else (some false)))=some r:=H
     have A33:=zz31 A330
     clear A330
     replace H:=zz30.mp H
     obtain ⟨t424,A340,H⟩:=H
     replace H:(if t424=true then ((laws_markParty.f kj10 t410 t411 1).bind fun bt425=>(if bt425.1 < 0 then (laws_FnExactGreatestStrange.j1 kj10 t406 t409 t415 true a0_0 l0_1) else ((laws_eqIntS.f kj10 t415 t406).bind fun t427=>(if t427=true then (laws_FnExactGreatestStrange.j1 kj10 t406 t409 t415 (t418 != t409) a0_0 l0_1) else (laws_FnExactGreatestStrange.j1 kj10 t406 t409 t415 true a0_0 l0_1))))) else (some false))=some r:=H
     have A34:=zz31 A340
     clear A340
     by_cases c35:t424=true
     ·subst c35
      have H1:((laws_markParty.f kj10 t410 t411 1).bind fun bt425=>(if bt425.1 < 0 then (laws_FnExactGreatestStrange.j1 kj10 t406 t409 t415 true a0_0 l0_1) else ((laws_eqIntS.f kj10 t415 t406).bind fun t427=>(if t427=true then (laws_FnExactGreatestStrange.j1 kj10 t406 t409 t415 (t418 != t409) a0_0 l0_1) else (laws_FnExactGreatestStrange.j1 kj10 t406 t409 t415 true a0_0 l0_1)))))=some r:=by rw [if_pos rfl] at H;exact H
      clear H
      have H:=H1
      clear H1
      replace H:=zz30.mp H
      obtain ⟨⟨t425,t426⟩,A360,H⟩:=H
      replace H:(if t425 < 0 then (laws_FnExactGreatestStrange.j1 kj10 t406 t409 t415 true a0_0 l0_1) else ((laws_eqIntS.f kj10 t415 t406).bind fun t427=>(if t427=true then (laws_FnExactGreatestStrange.j1 kj10 t406 t409 t415 (t418 != t409) a0_0 l0_1) else (laws_FnExactGreatestStrange.j1 kj10 t406 t409 t415 true a0_0 l0_1))))=some r:=H
      have A36:=zz31 A360
      clear A360
      have HC37:=zz31 H
      clear H
      try go_wp2
      have n0_:=zz31 (Kd.V_drew HO_4.out)
      have n1_:=zz31 (zz14 HO_7.out)
      have n2_:=zz31 (zz14 HO_415001.out)
      have n3_:=zz31 (zz7 BK400.out)
      have n4_:=zz31 (zz7 BK414.out)
      have n5_:=zz31 (zz1 HB.out)
      clear HO_4
      clear HO_7
      clear HO_415001
      clear BK400
      clear BK414
      clear HB
      have HO_4:=n0_
      have HO_7:=n1_
      have HO_415001:=n2_
      have BK400:=n3_
      have BK414:=n4_
      have HB:=n5_
      clear n0_ n1_ n2_ n3_ n4_ n5_
      refine start_ (n:=5) (S:=fun w'=>w'.cell? ⟨gb414,0,none⟩=some (.int .i64 t410)∧w'.cell? ⟨gb414,1,none⟩=some (.slice Ao24 t411.length co24)∧w'.cell? ⟨gb400,0,none⟩=some (.int .i64 a0_0)∧w'.cell? ⟨gb400,1,none⟩=some (.slice A0_1 l0_1.length c0_1)) (ds:=[]) #[F,F,F,F,F] (by kernel_rfl) rfl rfl ⟨(zz9 BK414.out 0).trans rfl,(zz9 BK414.out 1).trans rfl,(zz9 BK400.out 0).trans rfl,(zz9 BK400.out 1).trans rfl⟩ (fun hHeld=>?_)
      generalize wc.drew=w38 at HO_4 HO_7 HO_415001 BK400 BK414 HB hHeld ⊢
      refine take_ (i:=0) (N:=some 41) (v:=?_) (a':=?_) #[T,F,F,F,F] rfl rfl (by kernel_rfl) (fun _ _ _ h=>h) (Or.inl ⟨by rfl,?_⟩) hHeld ?_ ?_
      rotate_left
      ·rintro w' ⟨s0,s1,s2,s3⟩
       go_simp
       with_reducible rfl
      rotate_left
      ·simp only [Act.put,zz21,zz22,zz23,i64_w,i32_w]
       rfl
      refine take_ (i:=1) (N:=some 42) (v:=?_) (a':=?_) #[T,T,F,F,F] rfl rfl (by kernel_rfl) (fun _ _ _ h=>h) (Or.inl ⟨by rfl,?_⟩) hHeld ?_ ?_
      rotate_left
      ·rintro w' ⟨s0,s1,s2,s3⟩
       go_simp
       with_reducible rfl
      rotate_left
      ·simp only [Act.put,zz21,zz22,zz23,i64_w,i32_w]
       rfl
      refine one_ (i:=2) (N:=some 43) #[T,T,T,F,F] rfl rfl (by kernel_rfl) (by decide) (fun K hK=>?_)
      refine goes_ Tryd.func11 (by kernel_rfl) rfl #[.agg #[.int .i64 a0_0,.slice A0_1 l0_1.length c0_1]] (by rfl) rfl rfl (by (try simp only [zz26,zz27,zz28]);first | done | rfl | (simp only [zz24,zz25];rfl)) ?_
      with_reducible refine (laws_toParty.calls kj10 a0_0 _ _ l0_1 t420 t421 _ ?side1 ?side2 A33.out).mono ?_
      (case side1=>repeat (first | exact (Kd.C_below HR0_1.out HB.out) | (with_reducible refine zz18 ?_ _) | (with_reducible refine zz19 ?_ _) | (with_reducible refine zz20 ?_)))
      (case side2=>exact HC0_1.out)
      rintro e w39 ⟨v422,rfl,ho0,hb⟩
      refine ⟨_,rfl,?_⟩
      have n0_:=zz31 (Kd.V_elder' (by (with_reducible repeat (first | apply Kd.V_alloc | apply Kd.V_drewN | apply Kd.V_drew));exact HO_4.out) (Kd.R_base ho0) hb)
      have n1_:=zz31 (Kd.R_below (by (with_reducible repeat (first | apply zz12 | apply zz13 | apply zz14));exact HO_7.out) hb)
      have n2_:=zz31 (Kd.R_elder' (by (with_reducible repeat (first | apply zz12 | apply zz13 | apply zz14));exact HO_415001.out) (Kd.R_base ho0) hb)
      have n3_:=zz31 (Kd.R_lower (Kd.R_new' ho0 (Kd.R_lt (by (with_reducible repeat (first | apply zz12 | apply zz13 | apply zz14));exact HO_415001.out))) (zz5 (by repeat first | exact HB.out | apply zz2 | apply zz0 | apply zz1 | refine zz3 ?_ GE400.out | refine zz3 ?_ GE414.out)))
      have n4_:=zz31 (zz11 (g:=gb400) (o:=.cells #[.int .i64 a0_0,.slice A0_1 l0_1.length c0_1] 24 (0,0)) (by (with_reducible repeat (first | refine zz6 ?_ _ | refine zz7 ?_ | refine zz8 ?_ _));exact BK400.out) hb)
      have n5_:=zz31 (zz11 (g:=gb414) (o:=.cells #[.int .i64 t410,.slice Ao24 t411.length co24] 30 (0,0)) (by (with_reducible repeat (first | refine zz6 ?_ _ | refine zz7 ?_ | refine zz8 ?_ _));exact BK414.out) hb)
      have n6_:=zz31 (zz4 (by repeat first | exact HB.out | apply zz2 | apply zz0 | apply zz1 | refine zz3 ?_ GE400.out | refine zz3 ?_ GE414.out) hb)
      clear HO_4
      clear HO_7
      clear HO_415001
      clear BK400
      clear BK414
      clear HB
      have HO_4:=n0_
      have HO_7:=n1_
      have HO_415001:=n2_
      have HO423:=n3_
      have BK400:=n4_
      have BK414:=n5_
      have HB:=n6_
      clear n0_ n1_ n2_ n3_ n4_ n5_ n6_
      (try clear hb)
      (try clear hb2)
      (try clear hk)
      (try clear hi)
      (try clear ho0)
      obtain ⟨Ao40,co40,eo40⟩:=Kd.R_slice HO423.out
      (first | subst eo40 | (injection eo40 with f1_ f2_ f3_;have f4_:=f1_.symm;have f5_:=f3_.symm;clear f1_ f2_ f3_;subst f4_;subst f5_))
      refine hK.out _ _ ⟨(zz9 BK414.out 0).trans rfl,(zz9 BK414.out 1).trans rfl,(zz9 BK400.out 0).trans rfl,(zz9 BK400.out 1).trans rfl⟩ (fun hHeld=>?_)
      clear hK K
      refine norm_ (a':=?_) ?_ ?_
      rotate_left
      ·show Act.put _ (some 43) _=_
       simp only [Act.put,zz21,zz22,zz23,i64_w,i32_w]
       rfl
      refine one_ (i:=3) (N:=some 44) #[T,T,T,T,F] rfl rfl (by kernel_rfl) (by decide) (fun K hK=>?_)
      refine goes_ Tryd.func13 (by kernel_rfl) rfl #[.agg #[.int .i64 t410,.slice Ao24 t411.length co24],.agg #[.int .i64 t420,.slice Ao40 t421.length co40]] (by rfl) rfl rfl (by (try simp only [zz26,zz27,zz28]);first | done | rfl | (simp only [zz24,zz25];rfl)) ?_
      with_reducible refine (laws_eqParty.calls kj10 t410 _ _ t411 t420 _ _ t421 true _ ?side1 ?side2 ?side3 ?side4 A34.out).mono ?_
      (case side1=>repeat (first | exact (Kd.R_reads' HO_415001.out).2.2 | (with_reducible refine zz18 ?_ _) | (with_reducible refine zz19 ?_ _) | (with_reducible refine zz20 ?_)))
      (case side2=>exact (Kd.R_reads' HO_415001.out).2.1)
      (case side3=>repeat (first | exact (Kd.R_reads' HO423.out).2.2 | (with_reducible refine zz18 ?_ _) | (with_reducible refine zz19 ?_ _) | (with_reducible refine zz20 ?_)))
      (case side4=>exact (Kd.R_reads' HO423.out).2.1)
      rintro e w41 ⟨rfl,hb⟩
      refine ⟨_,rfl,?_⟩
      have n0_:=zz31 (Kd.V_below (by (with_reducible repeat (first | apply Kd.V_alloc | apply Kd.V_drewN | apply Kd.V_drew));exact HO_4.out) hb)
      have n1_:=zz31 (Kd.R_below (by (with_reducible repeat (first | apply zz12 | apply zz13 | apply zz14));exact HO_7.out) hb)
      have n2_:=zz31 (Kd.R_below (by (with_reducible repeat (first | apply zz12 | apply zz13 | apply zz14));exact HO_415001.out) hb)
      have n3_:=zz31 (Kd.R_below (by (with_reducible repeat (first | apply zz12 | apply zz13 | apply zz14));exact HO423.out) hb)
      have n4_:=zz31 (zz11 (g:=gb400) (o:=.cells #[.int .i64 a0_0,.slice A0_1 l0_1.length c0_1] 24 (0,0)) (by (with_reducible repeat (first | refine zz6 ?_ _ | refine zz7 ?_ | refine zz8 ?_ _));exact BK400.out) hb)
      have n5_:=zz31 (zz11 (g:=gb414) (o:=.cells #[.int .i64 t410,.slice Ao24 t411.length co24] 30 (0,0)) (by (with_reducible repeat (first | refine zz6 ?_ _ | refine zz7 ?_ | refine zz8 ?_ _));exact BK414.out) hb)
      have n6_:=zz31 (zz4 (by repeat first | exact HB.out | apply zz2 | apply zz0 | apply zz1 | refine zz3 ?_ GE400.out | refine zz3 ?_ GE414.out) hb)
      clear HO_4
      clear HO_7
      clear HO_415001
      clear HO423
      clear BK400
      clear BK414
      clear HB
      have HO_4:=n0_
      have HO_7:=n1_
      have HO_415001:=n2_
      have HO423:=n3_
      have BK400:=n4_
      have BK414:=n5_
      have HB:=n6_
      clear n0_ n1_ n2_ n3_ n4_ n5_ n6_
      (try clear hb)
      (try clear hb2)
      (try clear hk)
      (try clear hi)
      refine hK.out _ _ ⟨(zz9 BK414.out 0).trans rfl,(zz9 BK414.out 1).trans rfl,(zz9 BK400.out 0).trans rfl,(zz9 BK400.out 1).trans rfl⟩ (fun hHeld=>?_)
      clear hK K
      refine norm_ (a':=?_) ?_ ?_
      rotate_left
      ·show Act.put _ (some 44) _=_
       simp only [Act.put,zz21,zz22,zz23,i64_w,i32_w]
       rfl
      refine pure_ (i:=4) (N:=some 45) (v:=?_) (a':=?_) #[T,T,T,T,T] rfl rfl (by kernel_rfl) (fun _ _ _ h=>h) (Or.inl ⟨by rfl,?_⟩) ?_ ?_
      rotate_left
      ·intro w'
       go_simp
       with_reducible rfl
      rotate_left
      ·simp only [Act.put,zz21,zz22,zz23,i64_w,i32_w]
       rfl
      refine done_ (by kernel_rfl) ?_
      have hnb42:=NB414_400.out
      have hnc42:=NB400_414.out
      have hcz43_0:w41.cell? ⟨gb414,0,none⟩=some (.int .i64 t410):=(zz9 BK414.out 0).trans rfl
      have hcz43_1:w41.cell? ⟨gb414,1,none⟩=some (.slice Ao24 t411.length co24):=(zz9 BK414.out 1).trans rfl
      have hfz43_0:=zz10 BK414.out 0
      have hfz43_1:=zz10 BK414.out 1
      go_upto_region 14 with (first | ((with_reducible refine gate_callee (f:=19) rfl ?_);refine goesL_ (some 48) rfl rfl Tryd.func19 (by kernel_rfl) rfl #[.agg #[.int .i64 t410,.slice Ao24 t411.length co24],.int .i64 1] rfl (by (try simp only [zz26,zz27,zz28]);first | done | rfl | (simp only [zz24,zz25];rfl)) ?_;(with_reducible refine (laws_markParty.calls kj10 t410 (fun k_=>some k_=(.slice Ao24 t411.length co24:Value).ownBlock) (.slice Ao24 t411.length co24) t411 1 t425 t426 w _ ?side1 ?side2 A36.out).mono ?_);(case side1=>repeat first | exact HB.out | apply zz2 | apply zz0 | apply zz1 | refine zz3 ?_ GE400.out | refine zz3 ?_ GE414.out);(case side2=>exact Kd.R_tight rfl HO_415001.out);rintro e w44 ⟨rfl,hy0,hb,hkp⟩;refine ⟨_,rfl,?_⟩;have n0_:=zz31 (Kd.V_mono (ok':=fun k_=>some k_ ≠ (v416:Value).ownBlock∧some k_ ≠ (.slice Ao24 t411.length co24:Value).ownBlock∧some k_ ≠ (.slice Ao40 t421.length co40:Value).ownBlock∧k_ ≠ gb400∧k_ ≠ gb414) (Kd.V_keptB (HO_4.out) hkp (fun k_ hk_ hs_=>(hk_.1.2.1) hs_)) (fun k_ hk_=>⟨hk_.1.1.1,hk_.1.1.2.1,hk_.1.2,hk_.1.1.2.2.1,hk_.1.1.2.2.2⟩));have n1_:=zz31 (Kd.R_mono (ok':=fun k_=>True) (Kd.R_keptB ((Kd.R_apart' HO_7.out (Kd.R_typed HO_415001.out) (by decide))) hkp (fun k_ hk_ hs_=>(hk_.2) hs_)) (fun k_ hk_=>trivial));have n2_:=zz31 (Kd.R_reok rfl hy0 (fun k_ e_=>HO_415001.out.1 k_ e_));(first | have n3_:=zz31 (blk_kept BK400.out hkp (fun hs_=>(fun e_=>(Kd.R_ne HO_415001.out BK400.out (by decide)) e_) hs_)) | have n3_:=zz31 (blk_kept (by (with_reducible repeat (first | refine zz6 ?_ _ | refine zz7 ?_ | refine zz8 ?_ _));exact BK400.out) hkp (fun hs_=>(fun e_=>(Kd.R_ne HO_415001.out BK400.out (by decide)) e_) hs_)));(first | have n4_:=zz31 (blk_kept BK414.out hkp (fun hs_=>(fun e_=>(Kd.R_ne HO_415001.out BK414.out (by decide)) e_) hs_)) | have n4_:=zz31 (blk_kept (by (with_reducible repeat (first | refine zz6 ?_ _ | refine zz7 ?_ | refine zz8 ?_ _));exact BK414.out) hkp (fun hs_=>(fun e_=>(Kd.R_ne HO_415001.out BK414.out (by decide)) e_) hs_)));have n5_:=zz31 (Kd.R_mono (ok':=fun k_=>some k_ ≠ (.slice Ao24 t411.length co24:Value).ownBlock) (Kd.R_keptB (HO423.out) hkp (fun k_ hk_ hs_=>(hk_.2) hs_)) (fun k_ hk_=>hk_.1.2));have n6_:=zz31 (hb);clear HO_4;clear HO_7;clear HO_415001;clear BK400;clear BK414;clear HO423;clear HB;have HO_4:=n0_;have HO_7:=n1_;have HO_415001:=n2_;have BK400:=n3_;have BK414:=n4_;have HO423:=n5_;have HB:=n6_;clear n0_ n1_ n2_ n3_ n4_ n5_ n6_;(try clear hb);(try clear hkp);(try clear hy0)))
      (try simp only [Act.put,zz21,zz22,zz23])
      go_cut [61] (fun v61 wc=>∃ (kq:Nat) (x61_36:Bool),v61=.bool x61_36∧Aside0 (laws_FnExactGreatestStrange.j1 kq t406 t409 t415 x61_36 a0_0 l0_1=some r)∧Aside0 (kq≤kj10)∧Aside0 (Kd.V (Kd.int .i64) 3 wc w.heap.size (fun k_=>some k_ ≠ (v416:Value).ownBlock∧some k_ ≠ ((.slice Ao24 t411.length co24):Value).ownBlock∧k_ ≠ gb400∧k_ ≠ gb414) v407 t406)∧Aside0 (Kd.R (Kd.int .i64) 3 wc w.heap.size (fun _=>True) v416 t415)∧Aside0 (Kd.R k74 74 wc w.heap.size (fun _=>True) (.slice Ao24 t411.length co24) t426)∧Aside0 (wc.heap[gb400]?=some (.cells #[.int .i64 a0_0,(.slice A0_1 l0_1.length c0_1)] 24 (0,0)))∧Aside0 (wc.heap[gb414]?=some (.cells #[.int .i64 t410,(.slice Ao24 t411.length co24)] 30 (0,0)))∧Aside0 (Below w.heap.size w wc))
      case first =>
       have H:=HC37.out
       clear HC37
       by_cases c45:t425 < 0
       ·rw [if_pos c45] at H
        have c45b0:decide (t425 < 0)=true:=decide_eq_true c45
        clear c45
        (first | rw [c45b0] | (simp only [i64_w,i32_w];rw [c45b0]) | skip)
        have H':=zz31 H
        clear H
        go_wp2
        go_meet
        case rel=>exact ⟨_,(true),(by first | rfl | (simp;done) | (simp [*];done)),H',⟨by have:=HJ10.out;first | omega | exact Nat.le_refl _⟩,⟨by (with_reducible repeat (first | apply Kd.V_alloc | apply Kd.V_drewN | apply Kd.V_drew));exact Kd.V_mono HO_4.out (fun _ hk=>⟨hk.1,⟨hk.2.1,⟨hk.2.2.2.1,hk.2.2.2.2⟩⟩⟩)⟩,⟨by (with_reducible repeat (first | apply zz12 | apply zz13 | apply zz14));exact HO_7.out⟩,⟨by (with_reducible repeat (first | apply zz12 | apply zz13 | apply zz14));exact Kd.R_mono HO_415001.out (fun _ hk=>trivial)⟩,⟨by (with_reducible repeat (first | refine zz6 ?_ _ | refine zz7 ?_ | refine zz8 ?_ _));exact BK400.out⟩,⟨by (with_reducible repeat (first | refine zz6 ?_ _ | refine zz7 ?_ | refine zz8 ?_ _));exact BK414.out⟩,⟨by repeat first | exact HB.out | apply zz2 | apply zz0 | apply zz1 | refine zz3 ?_ GE400.out | refine zz3 ?_ GE414.out⟩⟩
       ·rw [if_neg c45] at H
        have c45b0:decide (t425 < 0)=false:=decide_eq_false c45
        clear c45
        (first | rw [c45b0] | (simp only [i64_w,i32_w];rw [c45b0]) | skip)
        replace H:=zz30.mp H
        obtain ⟨t427,A460,H⟩:=H
        replace H:(if t427=true then (laws_FnExactGreatestStrange.j1 kj10 t406 t409 t415 (t418 != t409) a0_0 l0_1) else (laws_FnExactGreatestStrange.j1 kj10 t406 t409 t415 true a0_0 l0_1))=some r:=H
        have A46:=zz31 A460
        clear A460
        by_cases c47:t427=true
        ·subst c47
         have H1:(laws_FnExactGreatestStrange.j1 kj10 t406 t409 t415 (t418 != t409) a0_0 l0_1)=some r:=by rw [if_pos rfl] at H;exact H
         clear H
         have H:=H1
         clear H1
         have H':=zz31 H
         clear H
         obtain ⟨Ao48,co48,eo48⟩:=Kd.R_slice HO_7.out
         subst eo48
         obtain ⟨Ao49,co49,eo49⟩:=Kd.V_slice HO_4.out
         subst eo49
         go_wp2_with (first | (go_at_call 18;(with_reducible refine (laws_eqIntS.calls kj10 _ _ t415 _ _ t406 true _ ?side1 ?side2 ?side3 ?side4 A46.out).mono ?_);(case side1=>repeat (first | exact (Kd.R_reads' HO_7.out).2.2 | (with_reducible refine zz18 ?_ _) | (with_reducible refine zz19 ?_ _) | (with_reducible refine zz20 ?_)));(case side2=>exact (Kd.R_reads' HO_7.out).2.1);(case side3=>repeat (first | exact (Kd.V_reads' HO_4.out).2.2 | (with_reducible refine zz18 ?_ _) | (with_reducible refine zz19 ?_ _) | (with_reducible refine zz20 ?_)));(case side4=>exact (Kd.V_reads' HO_4.out).2.1);rintro e w' ⟨rfl,⟨nd,rfl⟩⟩))
         go_meet
         case rel=>exact ⟨_,((t418 != t409)),(by first | rfl | (simp;done) | (simp [*];done)),H',⟨by have:=HJ10.out;first | omega | exact Nat.le_refl _⟩,⟨by (with_reducible repeat (first | apply Kd.V_alloc | apply Kd.V_drewN | apply Kd.V_drew));exact Kd.V_mono HO_4.out (fun _ hk=>⟨hk.1,⟨hk.2.1,⟨hk.2.2.2.1,hk.2.2.2.2⟩⟩⟩)⟩,⟨by (with_reducible repeat (first | apply zz12 | apply zz13 | apply zz14));exact HO_7.out⟩,⟨by (with_reducible repeat (first | apply zz12 | apply zz13 | apply zz14));exact Kd.R_mono HO_415001.out (fun _ hk=>trivial)⟩,⟨by (with_reducible repeat (first | refine zz6 ?_ _ | refine zz7 ?_ | refine zz8 ?_ _));exact BK400.out⟩,⟨by (with_reducible repeat (first | refine zz6 ?_ _ | refine zz7 ?_ | refine zz8 ?_ _));exact BK414.out⟩,⟨by repeat first | exact HB.out | apply zz2 | apply zz0 | apply zz1 | refine zz3 ?_ GE400.out | refine zz3 ?_ GE414.out⟩⟩
        ·replace c47:=Bool.eq_false_iff.mpr c47
         subst c47
         have H1:(laws_FnExactGreatestStrange.j1 kj10 t406 t409 t415 true a0_0 l0_1)=some r:=by rw [if_neg (show ¬ (false=true) by decide)] at H;exact H
         clear H
         have H:=H1
         clear H1
         have H':=zz31 H
         clear H
         obtain ⟨Ao50,co50,eo50⟩:=Kd.R_slice HO_7.out
         subst eo50
         obtain ⟨Ao51,co51,eo51⟩:=Kd.V_slice HO_4.out
         subst eo51
         go_wp2_with (first | (go_at_call 18;(with_reducible refine (laws_eqIntS.calls kj10 _ _ t415 _ _ t406 false _ ?side1 ?side2 ?side3 ?side4 A46.out).mono ?_);(case side1=>repeat (first | exact (Kd.R_reads' HO_7.out).2.2 | (with_reducible refine zz18 ?_ _) | (with_reducible refine zz19 ?_ _) | (with_reducible refine zz20 ?_)));(case side2=>exact (Kd.R_reads' HO_7.out).2.1);(case side3=>repeat (first | exact (Kd.V_reads' HO_4.out).2.2 | (with_reducible refine zz18 ?_ _) | (with_reducible refine zz19 ?_ _) | (with_reducible refine zz20 ?_)));(case side4=>exact (Kd.V_reads' HO_4.out).2.1);rintro e w' ⟨rfl,⟨nd,rfl⟩⟩))
         go_meet
         case rel=>exact ⟨_,(true),(by first | rfl | (simp;done) | (simp [*];done)),H',⟨by have:=HJ10.out;first | omega | exact Nat.le_refl _⟩,⟨by (with_reducible repeat (first | apply Kd.V_alloc | apply Kd.V_drewN | apply Kd.V_drew));exact Kd.V_mono HO_4.out (fun _ hk=>⟨hk.1,⟨hk.2.1,⟨hk.2.2.2.1,hk.2.2.2.2⟩⟩⟩)⟩,⟨by (with_reducible repeat (first | apply zz12 | apply zz13 | apply zz14));exact HO_7.out⟩,⟨by (with_reducible repeat (first | apply zz12 | apply zz13 | apply zz14));exact Kd.R_mono HO_415001.out (fun _ hk=>trivial)⟩,⟨by (with_reducible repeat (first | refine zz6 ?_ _ | refine zz7 ?_ | refine zz8 ?_ _));exact BK400.out⟩,⟨by (with_reducible repeat (first | refine zz6 ?_ _ | refine zz7 ?_ | refine zz8 ?_ _));exact BK414.out⟩,⟨by repeat first | exact HB.out | apply zz2 | apply zz0 | apply zz1 | refine zz3 ?_ GE400.out | refine zz3 ?_ GE414.out⟩⟩
      case rest =>
       clear HC37
       try clear c1
       try clear c2
       try clear p2
       try clear c3
       try clear c3b0
       try clear c4
       try clear c7
       try clear c9
       try clear c11
       try clear c13
       try clear c18
       try clear c19
       try clear c22
       try clear c24
       try clear c25
       try clear c27
       try clear c32
       try clear c35
       try clear c42
       try clear c45
       try clear c45b0
       try clear c47
       try clear hcz13_0
       try clear hcz13_1
       try clear hcz15_0
       try clear hcz15_1
       try clear hcz19_0
       try clear hcz19_1
       try clear hcz23_0
       try clear hcz23_1
       try clear hcz43_0
       try clear hcz43_1
       try clear hcz5_0
       try clear hcz5_1
       try clear hfz13_0
       try clear hfz13_1
       try clear hfz15_0
       try clear hfz15_1
       try clear hfz19_0
       try clear hfz19_1
       try clear hfz23_0
       try clear hfz23_1
       try clear hfz43_0
       try clear hfz43_1
       try clear hfz5_0
       try clear hfz5_1
       try clear p2
       obtain ⟨kq,x61_36,rfl,HA,HJ36,HO_4,HO_7,HO_415001,BK400,BK414,HB⟩:=hcut
       have hl415001_36:=(Kd.R_reads' HO_415001.out).1
       rw [hl415001_36] at HO_415001
       (try simp only [hl415001_36])
       (try simp only [hl415001_36] at BK400)
       (try simp only [hl415001_36] at BK414)
       (try simp only [hl415001_36] at HO_4)
       (try simp only [hl415001_36] at HO_7)
       cases kq with
       | zero=>exact absurd HA.out (by simp [laws_FnExactGreatestStrange.j1])
       | succ kj36 =>
        have H:=HA.out
        clear HA
        simp only [laws_FnExactGreatestStrange.j1] at H
        by_cases c52:x61_36=true
        ·subst c52
         have H1:(some false)=some r:=by rw [if_pos rfl] at H;exact H
         clear H
         have H:=H1
         clear H1
         obtain rfl:=Option.some.inj H
         go_wp2
         go_ret
         exact ⟨by first | rfl | (simp [errW_none,errW_some] <;> rfl) | (simp [*,errW_none,errW_some] <;> rfl),by repeat first | exact HB.out | apply zz2 | apply zz0 | apply zz1 | refine zz3 ?_ GE400.out | refine zz3 ?_ GE414.out⟩
        ·replace c52:=Bool.eq_false_iff.mpr c52
         subst c52
         have H1:((laws_markIntS.f kj36 t415 1).bind fun bt428=>((laws_heldIntS.f kj36 bt428.2 1).bind fun t430=>(if t430 < 0 then (some false) else (if t430=bt428.1 then ((laws_toParty.f kj36 a0_0 l0_1).bind fun bt431=>((impl_GreatestStrange.f kj36 bt431.1 bt431.2).bind fun bt435=>((laws_eqIntS.f kj36 bt435.1 t406).bind fun t439=>(if t439=true then (laws_FnExactGreatestStrange.j2 kj36 bt428.2 bt428.1 (bt435.2 != t409)) else (laws_FnExactGreatestStrange.j2 kj36 bt428.2 bt428.1 true))))) else (some false)))))=some r:=by rw [if_neg (show ¬ (false=true) by decide)] at H;exact H
         clear H
         have H:=H1
         clear H1
         replace H:=zz30.mp H
         obtain ⟨⟨t428,t429⟩,A530,H⟩:=H
         replace H:((laws_heldIntS.f kj36 t429 1).bind fun t430=>(if t430 < 0 then (some false) else (if t430=t428 then ((laws_toParty.f kj36 a0_0 l0_1).bind fun bt431=>((impl_GreatestStrange.f kj36 bt431.1 bt431.2).bind fun bt435=>((laws_eqIntS.f kj36 bt435.1 t406).bind fun t439=>(if t439=true then (laws_FnExactGreatestStrange.j2 kj36 t429 t428 (bt435.2 != t409)) else (laws_FnExactGreatestStrange.j2 kj36 t429 t428 true))))) else (some false))))=some r:=H
         have A53:=zz31 A530
         clear A530
         replace H:=zz30.mp H
         obtain ⟨t430,A540,H⟩:=H
         replace H:(if t430 < 0 then (some false) else (if t430=t428 then ((laws_toParty.f kj36 a0_0 l0_1).bind fun bt431=>((impl_GreatestStrange.f kj36 bt431.1 bt431.2).bind fun bt435=>((laws_eqIntS.f kj36 bt435.1 t406).bind fun t439=>(if t439=true then (laws_FnExactGreatestStrange.j2 kj36 t429 t428 (bt435.2 != t409)) else (laws_FnExactGreatestStrange.j2 kj36 t429 t428 true))))) else (some false)))=some r:=H
         have A54:=zz31 A540
         clear A540
         by_cases c55:t430 < 0
         ·rw [if_pos c55] at H
          have c55b0:decide (t430 < 0)=true:=decide_eq_true c55
          clear c55
          obtain rfl:=Option.some.inj H
          obtain ⟨Ao56,co56,eo56⟩:=Kd.R_slice HO_7.out
          subst eo56
          go_wp2_with (first | ((with_reducible refine gate_callee (f:=20) rfl ?_);refine goesL_ (some 64) rfl rfl Tryd.func20 (by kernel_rfl) rfl #[.slice Ao56 t415.length co56,.int .i64 1] rfl (by (try simp only [zz26,zz27,zz28]);first | done | rfl | (simp only [zz24,zz25];rfl)) ?_;(with_reducible refine (laws_markIntS.calls kj36 (fun k_=>some k_=(.slice Ao56 t415.length co56:Value).ownBlock) (.slice Ao56 t415.length co56) t415 1 t428 t429 w _ ?side1 ?side2 A53.out).mono ?_);(case side1=>repeat first | exact HB.out | apply zz2 | apply zz0 | apply zz1 | refine zz3 ?_ GE400.out | refine zz3 ?_ GE414.out);(case side2=>exact Kd.R_tight rfl HO_7.out);rintro e w57 ⟨rfl,hy0,hb,hkp⟩;refine ⟨_,rfl,?_⟩;have n0_:=zz31 (Kd.V_mono (ok':=fun k_=>some k_ ≠ (.slice Ao56 t415.length co56:Value).ownBlock∧some k_ ≠ (.slice Ao24 t426.length co24:Value).ownBlock∧k_ ≠ gb400∧k_ ≠ gb414) (Kd.V_keptB (HO_4.out) hkp (fun k_ hk_ hs_=>(hk_.1) hs_)) (fun k_ hk_=>⟨hk_.1.1,hk_.1.2.1,hk_.1.2.2.1,hk_.1.2.2.2⟩));have n1_:=zz31 (Kd.R_reok rfl hy0 (fun k_ e_=>HO_7.out.1 k_ e_));have n2_:=zz31 (Kd.R_mono (ok':=fun k_=>True) (Kd.R_keptB ((Kd.R_apart' HO_415001.out (Kd.R_typed HO_7.out) (by decide))) hkp (fun k_ hk_ hs_=>(hk_.2) hs_)) (fun k_ hk_=>trivial));(first | have n3_:=zz31 (blk_kept BK400.out hkp (fun hs_=>(fun e_=>(Kd.R_ne HO_7.out BK400.out (by decide)) e_) hs_)) | have n3_:=zz31 (blk_kept (by (with_reducible repeat (first | refine zz6 ?_ _ | refine zz7 ?_ | refine zz8 ?_ _));exact BK400.out) hkp (fun hs_=>(fun e_=>(Kd.R_ne HO_7.out BK400.out (by decide)) e_) hs_)));(first | have n4_:=zz31 (blk_kept BK414.out hkp (fun hs_=>(fun e_=>(Kd.R_ne HO_7.out BK414.out (by decide)) e_) hs_)) | have n4_:=zz31 (blk_kept (by (with_reducible repeat (first | refine zz6 ?_ _ | refine zz7 ?_ | refine zz8 ?_ _));exact BK414.out) hkp (fun hs_=>(fun e_=>(Kd.R_ne HO_7.out BK414.out (by decide)) e_) hs_)));have n5_:=zz31 (hb);clear HO_4;clear HO_7;clear HO_415001;clear BK400;clear BK414;clear HB;have HO_4:=n0_;have HO_7:=n1_;have HO_415001:=n2_;have BK400:=n3_;have BK414:=n4_;have HB:=n5_;clear n0_ n1_ n2_ n3_ n4_ n5_;(try clear hb);(try clear hkp);(try clear hy0)) | ((with_reducible refine gate_callee (f:=21) rfl ?_);refine goesL_ (some 67) rfl rfl Tryd.func21 (by kernel_rfl) rfl #[.slice Ao56 t429.length co56,.int .i64 1] rfl (by (try simp only [zz26,zz27,zz28]);first | done | (rw [show t429.length=t415.length from (Kd.R_reads' HO_7.out).1.symm] <;> rfl) | rfl | (simp only [zz24,zz25];rfl)) ?_;(with_reducible refine (laws_heldIntS.calls kj36 _ _ t429 1 t430 _ ?side1 ?side2 A54.out).mono ?_);(case side1=>repeat (first | exact (Kd.R_reads' HO_7.out).2.2 | (with_reducible refine zz18 ?_ _) | (with_reducible refine zz19 ?_ _) | (with_reducible refine zz20 ?_)));(case side2=>rw [show t429.length=t415.length from (Kd.R_reads' HO_7.out).1.symm];exact (Kd.R_reads' HO_7.out).2.1);rintro e w' ⟨rfl,⟨nd,rfl⟩⟩;refine ⟨_,rfl,?_⟩))
          go_ret
          exact ⟨by first | rfl | (simp [errW_none,errW_some] <;> rfl) | (simp [*,errW_none,errW_some] <;> rfl),by repeat first | exact HB.out | apply zz2 | apply zz0 | apply zz1 | refine zz3 ?_ GE400.out | refine zz3 ?_ GE414.out⟩
         ·rw [if_neg c55] at H
          have c55b0:decide (t430 < 0)=false:=decide_eq_false c55
          clear c55
          by_cases c58:t430=t428
          ·rw [if_pos c58] at H
           have c58b0:(t430 == t428)=true:=beq_iff_eq.mpr c58
           have c58b1:(t430 != t428)=false:=bne_eq_false_iff_eq.mpr c58
           clear c58
           replace H:=zz30.mp H
           obtain ⟨⟨t431,t432⟩,A590,H⟩:=H
           replace H:((impl_GreatestStrange.f kj36 t431 t432).bind fun bt435=>((laws_eqIntS.f kj36 bt435.1 t406).bind fun t439=>(if t439=true then (laws_FnExactGreatestStrange.j2 kj36 t429 t428 (bt435.2 != t409)) else (laws_FnExactGreatestStrange.j2 kj36 t429 t428 true))))=some r:=H
           have A59:=zz31 A590
           clear A590
           replace H:=zz30.mp H
           obtain ⟨⟨t435,t438⟩,A600,H⟩:=H
           replace H:((laws_eqIntS.f kj36 t435 t406).bind fun t439=>(if t439=true then (laws_FnExactGreatestStrange.j2 kj36 t429 t428 (t438 != t409)) else (laws_FnExactGreatestStrange.j2 kj36 t429 t428 true)))=some r:=H
           have A60:=zz31 A600
           clear A600
           have HC61:=zz31 H
           clear H
           obtain ⟨Ao62,co62,eo62⟩:=Kd.R_slice HO_7.out
           subst eo62
           go_upto_region 25 with (first | ((with_reducible refine gate_callee (f:=20) rfl ?_);refine goesL_ (some 64) rfl rfl Tryd.func20 (by kernel_rfl) rfl #[.slice Ao62 t415.length co62,.int .i64 1] rfl (by (try simp only [zz26,zz27,zz28]);first | done | rfl | (simp only [zz24,zz25];rfl)) ?_;(with_reducible refine (laws_markIntS.calls kj36 (fun k_=>some k_=(.slice Ao62 t415.length co62:Value).ownBlock) (.slice Ao62 t415.length co62) t415 1 t428 t429 w _ ?side1 ?side2 A53.out).mono ?_);(case side1=>repeat first | exact HB.out | apply zz2 | apply zz0 | apply zz1 | refine zz3 ?_ GE400.out | refine zz3 ?_ GE414.out);(case side2=>exact Kd.R_tight rfl HO_7.out);rintro e w63 ⟨rfl,hy0,hb,hkp⟩;refine ⟨_,rfl,?_⟩;have n0_:=zz31 (Kd.V_mono (ok':=fun k_=>some k_ ≠ (.slice Ao62 t415.length co62:Value).ownBlock∧some k_ ≠ (.slice Ao24 t426.length co24:Value).ownBlock∧k_ ≠ gb400∧k_ ≠ gb414) (Kd.V_keptB (HO_4.out) hkp (fun k_ hk_ hs_=>(hk_.1) hs_)) (fun k_ hk_=>⟨hk_.1.1,hk_.1.2.1,hk_.1.2.2.1,hk_.1.2.2.2⟩));have n1_:=zz31 (Kd.R_reok rfl hy0 (fun k_ e_=>HO_7.out.1 k_ e_));have n2_:=zz31 (Kd.R_mono (ok':=fun k_=>True) (Kd.R_keptB ((Kd.R_apart' HO_415001.out (Kd.R_typed HO_7.out) (by decide))) hkp (fun k_ hk_ hs_=>(hk_.2) hs_)) (fun k_ hk_=>trivial));(first | have n3_:=zz31 (blk_kept BK400.out hkp (fun hs_=>(fun e_=>(Kd.R_ne HO_7.out BK400.out (by decide)) e_) hs_)) | have n3_:=zz31 (blk_kept (by (with_reducible repeat (first | refine zz6 ?_ _ | refine zz7 ?_ | refine zz8 ?_ _));exact BK400.out) hkp (fun hs_=>(fun e_=>(Kd.R_ne HO_7.out BK400.out (by decide)) e_) hs_)));(first | have n4_:=zz31 (blk_kept BK414.out hkp (fun hs_=>(fun e_=>(Kd.R_ne HO_7.out BK414.out (by decide)) e_) hs_)) | have n4_:=zz31 (blk_kept (by (with_reducible repeat (first | refine zz6 ?_ _ | refine zz7 ?_ | refine zz8 ?_ _));exact BK414.out) hkp (fun hs_=>(fun e_=>(Kd.R_ne HO_7.out BK414.out (by decide)) e_) hs_)));have n5_:=zz31 (hb);clear HO_4;clear HO_7;clear HO_415001;clear BK400;clear BK414;clear HB;have HO_4:=n0_;have HO_7:=n1_;have HO_415001:=n2_;have BK400:=n3_;have BK414:=n4_;have HB:=n5_;clear n0_ n1_ n2_ n3_ n4_ n5_;(try clear hb);(try clear hkp);(try clear hy0)) | ((with_reducible refine gate_callee (f:=21) rfl ?_);refine goesL_ (some 67) rfl rfl Tryd.func21 (by kernel_rfl) rfl #[.slice Ao62 t429.length co62,.int .i64 1] rfl (by (try simp only [zz26,zz27,zz28]);first | done | (rw [show t429.length=t415.length from (Kd.R_reads' HO_7.out).1.symm] <;> rfl) | rfl | (simp only [zz24,zz25];rfl)) ?_;(with_reducible refine (laws_heldIntS.calls kj36 _ _ t429 1 t430 _ ?side1 ?side2 A54.out).mono ?_);(case side1=>repeat (first | exact (Kd.R_reads' HO_7.out).2.2 | (with_reducible refine zz18 ?_ _) | (with_reducible refine zz19 ?_ _) | (with_reducible refine zz20 ?_)));(case side2=>rw [show t429.length=t415.length from (Kd.R_reads' HO_7.out).1.symm];exact (Kd.R_reads' HO_7.out).2.1);rintro e w' ⟨rfl,⟨nd,rfl⟩⟩;refine ⟨_,rfl,?_⟩;have hnb64:=NB400_414.out;have hnc64:=NB414_400.out;have hcz65_0:w63.cell? ⟨gb400,0,none⟩=some (.int .i64 a0_0):=(zz9 BK400.out 0).trans rfl;have hcz65_1:w63.cell? ⟨gb400,1,none⟩=some (.slice A0_1 l0_1.length c0_1):=(zz9 BK400.out 1).trans rfl;have hfz65_0:=zz10 BK400.out 0;have hfz65_1:=zz10 BK400.out 1) | ((with_reducible refine gate_callee (f:=11) rfl ?_);refine goesL_ (some 75) rfl rfl Tryd.func11 (by kernel_rfl) rfl #[.agg #[.int .i64 a0_0,.slice A0_1 l0_1.length c0_1]] rfl (by (try simp only [zz26,zz27,zz28]);first | done | rfl | (simp only [zz24,zz25];rfl)) ?_;(with_reducible refine (laws_toParty.calls kj36 a0_0 _ _ l0_1 t431 t432 _ ?side1 ?side2 A59.out).mono ?_);(case side1=>repeat (first | exact (Kd.C_below HR0_1.out (by repeat first | exact HB.out | apply zz2 | apply zz0 | apply zz1 | refine zz3 ?_ GE400.out | refine zz3 ?_ GE414.out)) | (with_reducible refine zz18 ?_ _) | (with_reducible refine zz19 ?_ _) | (with_reducible refine zz20 ?_)));(case side2=>exact HC0_1.out);rintro e w66 ⟨v433,rfl,ho0,hb⟩;refine ⟨_,rfl,?_⟩;have n0_:=zz31 (Kd.V_elder' (by (with_reducible repeat (first | apply Kd.V_alloc | apply Kd.V_drewN | apply Kd.V_drew));exact HO_4.out) (Kd.R_base ho0) hb);have n1_:=zz31 (Kd.R_below (by (with_reducible repeat (first | apply zz12 | apply zz13 | apply zz14));exact HO_7.out) hb);have n2_:=zz31 (Kd.R_elder' (by (with_reducible repeat (first | apply zz12 | apply zz13 | apply zz14));exact HO_415001.out) (Kd.R_base ho0) hb);have n3_:=zz31 (Kd.R_lower (Kd.R_new' ho0 (Kd.R_lt (by (with_reducible repeat (first | apply zz12 | apply zz13 | apply zz14));exact HO_415001.out))) (zz5 (by repeat first | exact HB.out | apply zz2 | apply zz0 | apply zz1 | refine zz3 ?_ GE400.out | refine zz3 ?_ GE414.out)));have n4_:=zz31 (zz11 (g:=gb400) (o:=.cells #[.int .i64 a0_0,.slice A0_1 l0_1.length c0_1] 24 (0,0)) (by (with_reducible repeat (first | refine zz6 ?_ _ | refine zz7 ?_ | refine zz8 ?_ _));exact BK400.out) hb);have n5_:=zz31 (zz11 (g:=gb414) (o:=.cells #[.int .i64 t410,.slice Ao24 t426.length co24] 30 (0,0)) (by (with_reducible repeat (first | refine zz6 ?_ _ | refine zz7 ?_ | refine zz8 ?_ _));exact BK414.out) hb);have n6_:=zz31 (zz4 (by repeat first | exact HB.out | apply zz2 | apply zz0 | apply zz1 | refine zz3 ?_ GE400.out | refine zz3 ?_ GE414.out) hb);clear HO_4;clear HO_7;clear HO_415001;clear BK400;clear BK414;clear HB;have HO_4:=n0_;have HO_7:=n1_;have HO_415001:=n2_;have HO434:=n3_;have BK400:=n4_;have BK414:=n5_;have HB:=n6_;clear n0_ n1_ n2_ n3_ n4_ n5_ n6_;(try clear hb);(try clear hb2);(try clear hk);(try clear hi);(try clear ho0);obtain ⟨Ao67,co67,eo67⟩:=Kd.R_slice HO434.out;subst eo67) | ((with_reducible refine gate_callee (f:=25) rfl ?_);refine goesL_ (some 76) rfl rfl Tryd.func25 (by kernel_rfl) rfl #[.agg #[.int .i64 t431,.slice Ao67 t432.length co67]] rfl (by (try simp only [zz26,zz27,zz28]);first | done | rfl | (simp only [zz24,zz25];rfl)) ?_;(with_reducible refine (impl_GreatestStrange.calls kj36 t431 _ _ t432 t435 t438 _ ?side1 ?side2 A60.out (HT.out.below (by repeat first | exact HB.out | apply zz2 | apply zz0 | apply zz1 | refine zz3 ?_ GE400.out | refine zz3 ?_ GE414.out))).mono ?_);(case side1=>repeat (first | exact (Kd.R_reads' HO434.out).2.2 | (with_reducible refine zz18 ?_ _) | (with_reducible refine zz19 ?_ _) | (with_reducible refine zz20 ?_)));(case side2=>exact (Kd.R_reads' HO434.out).2.1);rintro e w68 ⟨v436,rfl,ho0,hb⟩;refine ⟨_,rfl,?_⟩;have n0_:=zz31 (Kd.V_elder' (by (with_reducible repeat (first | apply Kd.V_alloc | apply Kd.V_drewN | apply Kd.V_drew));exact HO_4.out) (Kd.R_base ho0) hb);have n1_:=zz31 (Kd.R_elder' (by (with_reducible repeat (first | apply zz12 | apply zz13 | apply zz14));exact HO_7.out) (Kd.R_base ho0) hb);have n2_:=zz31 (Kd.R_below (by (with_reducible repeat (first | apply zz12 | apply zz13 | apply zz14));exact HO_415001.out) hb);have n3_:=zz31 (Kd.R_below (by (with_reducible repeat (first | apply zz12 | apply zz13 | apply zz14));exact HO434.out) hb);have n4_:=zz31 (Kd.R_lower (Kd.R_new' ho0 (Kd.R_lt (by (with_reducible repeat (first | apply zz12 | apply zz13 | apply zz14));exact HO_7.out))) (zz5 (by repeat first | exact HB.out | apply zz2 | apply zz0 | apply zz1 | refine zz3 ?_ GE400.out | refine zz3 ?_ GE414.out)));have n5_:=zz31 (zz11 (g:=gb400) (o:=.cells #[.int .i64 a0_0,.slice A0_1 l0_1.length c0_1] 24 (0,0)) (by (with_reducible repeat (first | refine zz6 ?_ _ | refine zz7 ?_ | refine zz8 ?_ _));exact BK400.out) hb);have n6_:=zz31 (zz11 (g:=gb414) (o:=.cells #[.int .i64 t410,.slice Ao24 t426.length co24] 30 (0,0)) (by (with_reducible repeat (first | refine zz6 ?_ _ | refine zz7 ?_ | refine zz8 ?_ _));exact BK414.out) hb);have n7_:=zz31 (zz4 (by repeat first | exact HB.out | apply zz2 | apply zz0 | apply zz1 | refine zz3 ?_ GE400.out | refine zz3 ?_ GE414.out) hb);clear HO_4;clear HO_7;clear HO_415001;clear HO434;clear BK400;clear BK414;clear HB;have HO_4:=n0_;have HO_7:=n1_;have HO_415001:=n2_;have HO434:=n3_;have HO437:=n4_;have BK400:=n5_;have BK414:=n6_;have HB:=n7_;clear n0_ n1_ n2_ n3_ n4_ n5_ n6_ n7_;(try clear hb);(try clear hb2);(try clear hk);(try clear hi);(try clear ho0)))
           (try simp only [Act.put,zz21,zz22,zz23])
           go_cut [87] (fun v87 wc=>∃ (kq:Nat) (x87_60:Bool),v87=.bool x87_60∧Aside0 (laws_FnExactGreatestStrange.j2 kq t429 t428 x87_60=some r)∧Aside0 (kq≤kj36)∧Aside0 (Kd.R (Kd.int .i64) 3 wc w.heap.size (fun _=>True) (.slice Ao62 t415.length co62) t429)∧Aside0 (Kd.R k74 74 wc w.heap.size (fun _=>True) (.slice Ao24 t426.length co24) t426)∧Aside0 (wc.heap[gb400]?=some (.cells #[.int .i64 a0_0,(.slice A0_1 l0_1.length c0_1)] 24 (0,0)))∧Aside0 (wc.heap[gb414]?=some (.cells #[.int .i64 t410,(.slice Ao24 t426.length co24)] 30 (0,0)))∧Aside0 (Below w.heap.size w wc))
           case first =>
            have H:=HC61.out
            clear HC61
            replace H:=zz30.mp H
            obtain ⟨t439,A690,H⟩:=H
            replace H:(if t439=true then (laws_FnExactGreatestStrange.j2 kj36 t429 t428 (t438 != t409)) else (laws_FnExactGreatestStrange.j2 kj36 t429 t428 true))=some r:=H
            have A69:=zz31 A690
            clear A690
            by_cases c70:t439=true
            ·subst c70
             have H1:(laws_FnExactGreatestStrange.j2 kj36 t429 t428 (t438 != t409))=some r:=by rw [if_pos rfl] at H;exact H
             clear H
             have H:=H1
             clear H1
             have H':=zz31 H
             clear H
             obtain ⟨Ao71,co71,eo71⟩:=Kd.R_slice HO437.out
             subst eo71
             obtain ⟨Ao72,co72,eo72⟩:=Kd.V_slice HO_4.out
             subst eo72
             go_wp2_with (first | ((with_reducible refine gate_callee (f:=18) rfl ?_);refine goesL_ (some 81) rfl rfl Tryd.func18 (by kernel_rfl) rfl #[.slice Ao71 t435.length co71,.slice Ao72 t406.length co72] rfl (by (try simp only [zz26,zz27,zz28]);first | done | rfl | (simp only [zz24,zz25];rfl)) ?_;(with_reducible refine (laws_eqIntS.calls kj36 _ _ t435 _ _ t406 true _ ?side1 ?side2 ?side3 ?side4 A69.out).mono ?_);(case side1=>repeat (first | exact (Kd.R_reads' HO437.out).2.2 | (with_reducible refine zz18 ?_ _) | (with_reducible refine zz19 ?_ _) | (with_reducible refine zz20 ?_)));(case side2=>exact (Kd.R_reads' HO437.out).2.1);(case side3=>repeat (first | exact (Kd.V_reads' HO_4.out).2.2 | (with_reducible refine zz18 ?_ _) | (with_reducible refine zz19 ?_ _) | (with_reducible refine zz20 ?_)));(case side4=>exact (Kd.V_reads' HO_4.out).2.1);rintro e w' ⟨rfl,⟨nd,rfl⟩⟩;refine ⟨_,rfl,?_⟩))
             go_meet
             case rel=>exact ⟨_,((t438 != t409)),(by first | rfl | (simp;done) | (simp [*];done)),H',⟨by have:=HJ10.out;have:=HJ36.out;first | omega | exact Nat.le_refl _⟩,⟨by (try simp only [hl415001_36]);(with_reducible repeat (first | apply zz12 | apply zz13 | apply zz14));exact Kd.R_mono HO_7.out (fun _ hk=>trivial)⟩,⟨by (try simp only [hl415001_36]);(with_reducible repeat (first | apply zz12 | apply zz13 | apply zz14));exact Kd.R_mono HO_415001.out (fun _ hk=>trivial)⟩,⟨by (try simp only [hl415001_36]);(with_reducible repeat (first | refine zz6 ?_ _ | refine zz7 ?_ | refine zz8 ?_ _));exact BK400.out⟩,⟨by (try simp only [hl415001_36]);(with_reducible repeat (first | refine zz6 ?_ _ | refine zz7 ?_ | refine zz8 ?_ _));exact BK414.out⟩,⟨by repeat first | exact HB.out | apply zz2 | apply zz0 | apply zz1 | refine zz3 ?_ GE400.out | refine zz3 ?_ GE414.out⟩⟩
            ·replace c70:=Bool.eq_false_iff.mpr c70
             subst c70
             have H1:(laws_FnExactGreatestStrange.j2 kj36 t429 t428 true)=some r:=by rw [if_neg (show ¬ (false=true) by decide)] at H;exact H
             clear H
             have H:=H1
             clear H1
             have H':=zz31 H
             clear H
             obtain ⟨Ao73,co73,eo73⟩:=Kd.R_slice HO437.out
             subst eo73
             obtain ⟨Ao74,co74,eo74⟩:=Kd.V_slice HO_4.out
             subst eo74
             go_wp2_with (first | ((with_reducible refine gate_callee (f:=18) rfl ?_);refine goesL_ (some 81) rfl rfl Tryd.func18 (by kernel_rfl) rfl #[.slice Ao73 t435.length co73,.slice Ao74 t406.length co74] rfl (by (try simp only [zz26,zz27,zz28]);first | done | rfl | (simp only [zz24,zz25];rfl)) ?_;(with_reducible refine (laws_eqIntS.calls kj36 _ _ t435 _ _ t406 false _ ?side1 ?side2 ?side3 ?side4 A69.out).mono ?_);(case side1=>repeat (first | exact (Kd.R_reads' HO437.out).2.2 | (with_reducible refine zz18 ?_ _) | (with_reducible refine zz19 ?_ _) | (with_reducible refine zz20 ?_)));(case side2=>exact (Kd.R_reads' HO437.out).2.1);(case side3=>repeat (first | exact (Kd.V_reads' HO_4.out).2.2 | (with_reducible refine zz18 ?_ _) | (with_reducible refine zz19 ?_ _) | (with_reducible refine zz20 ?_)));(case side4=>exact (Kd.V_reads' HO_4.out).2.1);rintro e w' ⟨rfl,⟨nd,rfl⟩⟩;refine ⟨_,rfl,?_⟩))
             go_meet
             case rel=>exact ⟨_,(true),(by first | rfl | (simp;done) | (simp [*];done)),H',⟨by have:=HJ10.out;have:=HJ36.out;first | omega | exact Nat.le_refl _⟩,⟨by (try simp only [hl415001_36]);(with_reducible repeat (first | apply zz12 | apply zz13 | apply zz14));exact Kd.R_mono HO_7.out (fun _ hk=>trivial)⟩,⟨by (try simp only [hl415001_36]);(with_reducible repeat (first | apply zz12 | apply zz13 | apply zz14));exact Kd.R_mono HO_415001.out (fun _ hk=>trivial)⟩,⟨by (try simp only [hl415001_36]);(with_reducible repeat (first | refine zz6 ?_ _ | refine zz7 ?_ | refine zz8 ?_ _));exact BK400.out⟩,⟨by (try simp only [hl415001_36]);(with_reducible repeat (first | refine zz6 ?_ _ | refine zz7 ?_ | refine zz8 ?_ _));exact BK414.out⟩,⟨by repeat first | exact HB.out | apply zz2 | apply zz0 | apply zz1 | refine zz3 ?_ GE400.out | refine zz3 ?_ GE414.out⟩⟩
           case rest =>
            clear HC61
            try clear c1
            try clear c2
            try clear p2
            try clear c3
            try clear c3b0
            try clear c4
            try clear c5
            try clear c6
            try clear c7
            try clear c9
            try clear c11
            try clear c13
            try clear c18
            try clear c19
            try clear c20
            try clear c21
            try clear c22
            try clear c24
            try clear c25
            try clear c27
            try clear c32
            try clear c35
            try clear c42
            try clear c45
            try clear c45b0
            try clear c47
            try clear c52
            try clear c55
            try clear c55b0
            try clear c58
            try clear c58b0
            try clear c58b1
            try clear c64
            try clear c70
            try clear hcz13_0
            try clear hcz13_1
            try clear hcz15_0
            try clear hcz15_1
            try clear hcz19_0
            try clear hcz19_1
            try clear hcz23_0
            try clear hcz23_1
            try clear hcz43_0
            try clear hcz43_1
            try clear hcz5_0
            try clear hcz5_1
            try clear hcz65_0
            try clear hcz65_1
            try clear hfz13_0
            try clear hfz13_1
            try clear hfz15_0
            try clear hfz15_1
            try clear hfz19_0
            try clear hfz19_1
            try clear hfz23_0
            try clear hfz23_1
            try clear hfz43_0
            try clear hfz43_1
            try clear hfz5_0
            try clear hfz5_1
            try clear hfz65_0
            try clear hfz65_1
            try clear p2
            obtain ⟨kq,x87_60,rfl,HA,HJ60,HO_7,HO_415001,BK400,BK414,HB⟩:=hcut
            have hl7_60:=(Kd.R_reads' HO_7.out).1
            rw [hl7_60] at HO_7
            (try simp only [hl7_60])
            (try simp only [hl7_60] at BK400)
            (try simp only [hl7_60] at BK414)
            (try simp only [hl7_60] at HO_415001)
            cases kq with
            | zero=>exact absurd HA.out (by simp [laws_FnExactGreatestStrange.j2])
            | succ kj60 =>
             have H:=HA.out
             clear HA
             simp only [laws_FnExactGreatestStrange.j2] at H
             by_cases c75:x87_60=true
             ·subst c75
              have H1:(some false)=some r:=by rw [if_pos rfl] at H;exact H
              clear H
              have H:=H1
              clear H1
              obtain rfl:=Option.some.inj H
              go_wp2
              go_ret
              exact ⟨by first | rfl | (simp [errW_none,errW_some] <;> rfl) | (simp [*,errW_none,errW_some] <;> rfl),by repeat first | exact HB.out | apply zz2 | apply zz0 | apply zz1 | refine zz3 ?_ GE400.out | refine zz3 ?_ GE414.out⟩
             ·replace c75:=Bool.eq_false_iff.mpr c75
              subst c75
              have H1:((laws_heldIntS.f kj60 t429 1).bind fun t440=>(if t440 < 0 then (some false) else (if t440=t428 then (some true) else (some false))))=some r:=by rw [if_neg (show ¬ (false=true) by decide)] at H;exact H
              clear H
              have H:=H1
              clear H1
              replace H:=zz30.mp H
              obtain ⟨t440,A760,H⟩:=H
              replace H:(if t440 < 0 then (some false) else (if t440=t428 then (some true) else (some false)))=some r:=H
              have A76:=zz31 A760
              clear A760
              by_cases c77:t440 < 0
              ·rw [if_pos c77] at H
               have c77b0:decide (t440 < 0)=true:=decide_eq_true c77
               clear c77
               obtain rfl:=Option.some.inj H
               go_wp2_with (first | ((with_reducible refine gate_callee (f:=21) rfl ?_);refine goesL_ (some 90) rfl rfl Tryd.func21 (by kernel_rfl) rfl #[.slice Ao62 t429.length co62,.int .i64 1] rfl (by (try simp only [zz26,zz27,zz28]);first | done | rfl | (simp only [zz24,zz25];rfl)) ?_;(with_reducible refine (laws_heldIntS.calls kj60 _ _ t429 1 t440 _ ?side1 ?side2 A76.out).mono ?_);(case side1=>repeat (first | exact (Kd.R_reads' HO_7.out).2.2 | (with_reducible refine zz18 ?_ _) | (with_reducible refine zz19 ?_ _) | (with_reducible refine zz20 ?_)));(case side2=>exact (Kd.R_reads' HO_7.out).2.1);rintro e w' ⟨rfl,⟨nd,rfl⟩⟩;refine ⟨_,rfl,?_⟩))
               go_ret
               exact ⟨by first | rfl | (simp [errW_none,errW_some] <;> rfl) | (simp [*,errW_none,errW_some] <;> rfl),by repeat first | exact HB.out | apply zz2 | apply zz0 | apply zz1 | refine zz3 ?_ GE400.out | refine zz3 ?_ GE414.out⟩
              ·rw [if_neg c77] at H
               have c77b0:decide (t440 < 0)=false:=decide_eq_false c77
               clear c77
               by_cases c78:t440=t428
               ·rw [if_pos c78] at H
                have c78b0:(t440 == t428)=true:=beq_iff_eq.mpr c78
                have c78b1:(t440 != t428)=false:=bne_eq_false_iff_eq.mpr c78
                clear c78
                obtain rfl:=Option.some.inj H
                go_wp2_with (first | ((with_reducible refine gate_callee (f:=21) rfl ?_);refine goesL_ (some 90) rfl rfl Tryd.func21 (by kernel_rfl) rfl #[.slice Ao62 t429.length co62,.int .i64 1] rfl (by (try simp only [zz26,zz27,zz28]);first | done | rfl | (simp only [zz24,zz25];rfl)) ?_;(with_reducible refine (laws_heldIntS.calls kj60 _ _ t429 1 t440 _ ?side1 ?side2 A76.out).mono ?_);(case side1=>repeat (first | exact (Kd.R_reads' HO_7.out).2.2 | (with_reducible refine zz18 ?_ _) | (with_reducible refine zz19 ?_ _) | (with_reducible refine zz20 ?_)));(case side2=>exact (Kd.R_reads' HO_7.out).2.1);rintro e w' ⟨rfl,⟨nd,rfl⟩⟩;refine ⟨_,rfl,?_⟩))
                go_ret
                exact ⟨by first | rfl | (simp [errW_none,errW_some] <;> rfl) | (simp [*,errW_none,errW_some] <;> rfl),by repeat first | exact HB.out | apply zz2 | apply zz0 | apply zz1 | refine zz3 ?_ GE400.out | refine zz3 ?_ GE414.out⟩
               ·rw [if_neg c78] at H
                have c78b0:(t440 == t428)=false:=beq_eq_false_iff_ne.mpr c78
                have c78b1:(t440 != t428)=true:=bne_iff_ne.mpr c78
                obtain rfl:=Option.some.inj H
                go_wp2_with (first | ((with_reducible refine gate_callee (f:=21) rfl ?_);refine goesL_ (some 90) rfl rfl Tryd.func21 (by kernel_rfl) rfl #[.slice Ao62 t429.length co62,.int .i64 1] rfl (by (try simp only [zz26,zz27,zz28]);first | done | rfl | (simp only [zz24,zz25];rfl)) ?_;(with_reducible refine (laws_heldIntS.calls kj60 _ _ t429 1 t440 _ ?side1 ?side2 A76.out).mono ?_);(case side1=>repeat (first | exact (Kd.R_reads' HO_7.out).2.2 | (with_reducible refine zz18 ?_ _) | (with_reducible refine zz19 ?_ _) | (with_reducible refine zz20 ?_)));(case side2=>exact (Kd.R_reads' HO_7.out).2.1);rintro e w' ⟨rfl,⟨nd,rfl⟩⟩;refine ⟨_,rfl,?_⟩))
                go_ret
                exact ⟨by first | rfl | (simp [errW_none,errW_some] <;> rfl) | (simp [*,errW_none,errW_some] <;> rfl),by repeat first | exact HB.out | apply zz2 | apply zz0 | apply zz1 | refine zz3 ?_ GE400.out | refine zz3 ?_ GE414.out⟩
          ·rw [if_neg c58] at H
           have c58b0:(t430 == t428)=false:=beq_eq_false_iff_ne.mpr c58
           have c58b1:(t430 != t428)=true:=bne_iff_ne.mpr c58
           obtain rfl:=Option.some.inj H
           obtain ⟨Ao79,co79,eo79⟩:=Kd.R_slice HO_7.out
           subst eo79
           go_wp2_with (first | ((with_reducible refine gate_callee (f:=20) rfl ?_);refine goesL_ (some 64) rfl rfl Tryd.func20 (by kernel_rfl) rfl #[.slice Ao79 t415.length co79,.int .i64 1] rfl (by (try simp only [zz26,zz27,zz28]);first | done | rfl | (simp only [zz24,zz25];rfl)) ?_;(with_reducible refine (laws_markIntS.calls kj36 (fun k_=>some k_=(.slice Ao79 t415.length co79:Value).ownBlock) (.slice Ao79 t415.length co79) t415 1 t428 t429 w _ ?side1 ?side2 A53.out).mono ?_);(case side1=>repeat first | exact HB.out | apply zz2 | apply zz0 | apply zz1 | refine zz3 ?_ GE400.out | refine zz3 ?_ GE414.out);(case side2=>exact Kd.R_tight rfl HO_7.out);rintro e w80 ⟨rfl,hy0,hb,hkp⟩;refine ⟨_,rfl,?_⟩;have n0_:=zz31 (Kd.V_mono (ok':=fun k_=>some k_ ≠ (.slice Ao79 t415.length co79:Value).ownBlock∧some k_ ≠ (.slice Ao24 t426.length co24:Value).ownBlock∧k_ ≠ gb400∧k_ ≠ gb414) (Kd.V_keptB (HO_4.out) hkp (fun k_ hk_ hs_=>(hk_.1) hs_)) (fun k_ hk_=>⟨hk_.1.1,hk_.1.2.1,hk_.1.2.2.1,hk_.1.2.2.2⟩));have n1_:=zz31 (Kd.R_reok rfl hy0 (fun k_ e_=>HO_7.out.1 k_ e_));have n2_:=zz31 (Kd.R_mono (ok':=fun k_=>True) (Kd.R_keptB ((Kd.R_apart' HO_415001.out (Kd.R_typed HO_7.out) (by decide))) hkp (fun k_ hk_ hs_=>(hk_.2) hs_)) (fun k_ hk_=>trivial));(first | have n3_:=zz31 (blk_kept BK400.out hkp (fun hs_=>(fun e_=>(Kd.R_ne HO_7.out BK400.out (by decide)) e_) hs_)) | have n3_:=zz31 (blk_kept (by (with_reducible repeat (first | refine zz6 ?_ _ | refine zz7 ?_ | refine zz8 ?_ _));exact BK400.out) hkp (fun hs_=>(fun e_=>(Kd.R_ne HO_7.out BK400.out (by decide)) e_) hs_)));(first | have n4_:=zz31 (blk_kept BK414.out hkp (fun hs_=>(fun e_=>(Kd.R_ne HO_7.out BK414.out (by decide)) e_) hs_)) | have n4_:=zz31 (blk_kept (by (with_reducible repeat (first | refine zz6 ?_ _ | refine zz7 ?_ | refine zz8 ?_ _));exact BK414.out) hkp (fun hs_=>(fun e_=>(Kd.R_ne HO_7.out BK414.out (by decide)) e_) hs_)));have n5_:=zz31 (hb);clear HO_4;clear HO_7;clear HO_415001;clear BK400;clear BK414;clear HB;have HO_4:=n0_;have HO_7:=n1_;have HO_415001:=n2_;have BK400:=n3_;have BK414:=n4_;have HB:=n5_;clear n0_ n1_ n2_ n3_ n4_ n5_;(try clear hb);(try clear hkp);(try clear hy0)) | ((with_reducible refine gate_callee (f:=21) rfl ?_);refine goesL_ (some 67) rfl rfl Tryd.func21 (by kernel_rfl) rfl #[.slice Ao79 t429.length co79,.int .i64 1] rfl (by (try simp only [zz26,zz27,zz28]);first | done | (rw [show t429.length=t415.length from (Kd.R_reads' HO_7.out).1.symm] <;> rfl) | rfl | (simp only [zz24,zz25];rfl)) ?_;(with_reducible refine (laws_heldIntS.calls kj36 _ _ t429 1 t430 _ ?side1 ?side2 A54.out).mono ?_);(case side1=>repeat (first | exact (Kd.R_reads' HO_7.out).2.2 | (with_reducible refine zz18 ?_ _) | (with_reducible refine zz19 ?_ _) | (with_reducible refine zz20 ?_)));(case side2=>rw [show t429.length=t415.length from (Kd.R_reads' HO_7.out).1.symm];exact (Kd.R_reads' HO_7.out).2.1);rintro e w' ⟨rfl,⟨nd,rfl⟩⟩;refine ⟨_,rfl,?_⟩))
           go_ret
           exact ⟨by first | rfl | (simp [errW_none,errW_some] <;> rfl) | (simp [*,errW_none,errW_some] <;> rfl),by repeat first | exact HB.out | apply zz2 | apply zz0 | apply zz1 | refine zz3 ?_ GE400.out | refine zz3 ?_ GE414.out⟩
     ·replace c35:=Bool.eq_false_iff.mpr c35
      subst c35
      have H1:(some false)=some r:=by rw [if_neg (show ¬ (false=true) by decide)] at H;exact H
      clear H
      have H:=H1
      clear H1
      obtain rfl:=Option.some.inj H
      try go_wp2
      have n0_:=zz31 (Kd.V_drew HO_4.out)
      have n1_:=zz31 (zz14 HO_7.out)
      have n2_:=zz31 (zz14 HO_415001.out)
      have n3_:=zz31 (zz7 BK400.out)
      have n4_:=zz31 (zz7 BK414.out)
      have n5_:=zz31 (zz1 HB.out)
      clear HO_4
      clear HO_7
      clear HO_415001
      clear BK400
      clear BK414
      clear HB
      have HO_4:=n0_
      have HO_7:=n1_
      have HO_415001:=n2_
      have BK400:=n3_
      have BK414:=n4_
      have HB:=n5_
      clear n0_ n1_ n2_ n3_ n4_ n5_
      refine start_ (n:=5) (S:=fun w'=>w'.cell? ⟨gb414,0,none⟩=some (.int .i64 t410)∧w'.cell? ⟨gb414,1,none⟩=some (.slice Ao24 t411.length co24)∧w'.cell? ⟨gb400,0,none⟩=some (.int .i64 a0_0)∧w'.cell? ⟨gb400,1,none⟩=some (.slice A0_1 l0_1.length c0_1)) (ds:=[]) #[F,F,F,F,F] (by kernel_rfl) rfl rfl ⟨(zz9 BK414.out 0).trans rfl,(zz9 BK414.out 1).trans rfl,(zz9 BK400.out 0).trans rfl,(zz9 BK400.out 1).trans rfl⟩ (fun hHeld=>?_)
      generalize wc.drew=w81 at HO_4 HO_7 HO_415001 BK400 BK414 HB hHeld ⊢
      refine take_ (i:=0) (N:=some 41) (v:=?_) (a':=?_) #[T,F,F,F,F] rfl rfl (by kernel_rfl) (fun _ _ _ h=>h) (Or.inl ⟨by rfl,?_⟩) hHeld ?_ ?_
      rotate_left
      ·rintro w' ⟨s0,s1,s2,s3⟩
       go_simp
       with_reducible rfl
      rotate_left
      ·simp only [Act.put,zz21,zz22,zz23,i64_w,i32_w]
       rfl
      refine take_ (i:=1) (N:=some 42) (v:=?_) (a':=?_) #[T,T,F,F,F] rfl rfl (by kernel_rfl) (fun _ _ _ h=>h) (Or.inl ⟨by rfl,?_⟩) hHeld ?_ ?_
      rotate_left
      ·rintro w' ⟨s0,s1,s2,s3⟩
       go_simp
       with_reducible rfl
      rotate_left
      ·simp only [Act.put,zz21,zz22,zz23,i64_w,i32_w]
       rfl
      refine one_ (i:=2) (N:=some 43) #[T,T,T,F,F] rfl rfl (by kernel_rfl) (by decide) (fun K hK=>?_)
      refine goes_ Tryd.func11 (by kernel_rfl) rfl #[.agg #[.int .i64 a0_0,.slice A0_1 l0_1.length c0_1]] (by rfl) rfl rfl (by (try simp only [zz26,zz27,zz28]);first | done | rfl | (simp only [zz24,zz25];rfl)) ?_
      with_reducible refine (laws_toParty.calls kj10 a0_0 _ _ l0_1 t420 t421 _ ?side1 ?side2 A33.out).mono ?_
      (case side1=>repeat (first | exact (Kd.C_below HR0_1.out HB.out) | (with_reducible refine zz18 ?_ _) | (with_reducible refine zz19 ?_ _) | (with_reducible refine zz20 ?_)))
      (case side2=>exact HC0_1.out)
      rintro e w82 ⟨v422,rfl,ho0,hb⟩
      refine ⟨_,rfl,?_⟩
      have n0_:=zz31 (Kd.V_elder' (by (with_reducible repeat (first | apply Kd.V_alloc | apply Kd.V_drewN | apply Kd.V_drew));exact HO_4.out) (Kd.R_base ho0) hb)
      have n1_:=zz31 (Kd.R_below (by (with_reducible repeat (first | apply zz12 | apply zz13 | apply zz14));exact HO_7.out) hb)
      have n2_:=zz31 (Kd.R_elder' (by (with_reducible repeat (first | apply zz12 | apply zz13 | apply zz14));exact HO_415001.out) (Kd.R_base ho0) hb)
      have n3_:=zz31 (Kd.R_lower (Kd.R_new' ho0 (Kd.R_lt (by (with_reducible repeat (first | apply zz12 | apply zz13 | apply zz14));exact HO_415001.out))) (zz5 (by repeat first | exact HB.out | apply zz2 | apply zz0 | apply zz1 | refine zz3 ?_ GE400.out | refine zz3 ?_ GE414.out)))
      have n4_:=zz31 (zz11 (g:=gb400) (o:=.cells #[.int .i64 a0_0,.slice A0_1 l0_1.length c0_1] 24 (0,0)) (by (with_reducible repeat (first | refine zz6 ?_ _ | refine zz7 ?_ | refine zz8 ?_ _));exact BK400.out) hb)
      have n5_:=zz31 (zz11 (g:=gb414) (o:=.cells #[.int .i64 t410,.slice Ao24 t411.length co24] 30 (0,0)) (by (with_reducible repeat (first | refine zz6 ?_ _ | refine zz7 ?_ | refine zz8 ?_ _));exact BK414.out) hb)
      have n6_:=zz31 (zz4 (by repeat first | exact HB.out | apply zz2 | apply zz0 | apply zz1 | refine zz3 ?_ GE400.out | refine zz3 ?_ GE414.out) hb)
      clear HO_4
      clear HO_7
      clear HO_415001
      clear BK400
      clear BK414
      clear HB
      have HO_4:=n0_
      have HO_7:=n1_
      have HO_415001:=n2_
      have HO423:=n3_
      have BK400:=n4_
      have BK414:=n5_
      have HB:=n6_
      clear n0_ n1_ n2_ n3_ n4_ n5_ n6_
      (try clear hb)
      (try clear hb2)
      (try clear hk)
      (try clear hi)
      (try clear ho0)
      obtain ⟨Ao83,co83,eo83⟩:=Kd.R_slice HO423.out
      (first | subst eo83 | (injection eo83 with f1_ f2_ f3_;have f4_:=f1_.symm;have f5_:=f3_.symm;clear f1_ f2_ f3_;subst f4_;subst f5_))
      refine hK.out _ _ ⟨(zz9 BK414.out 0).trans rfl,(zz9 BK414.out 1).trans rfl,(zz9 BK400.out 0).trans rfl,(zz9 BK400.out 1).trans rfl⟩ (fun hHeld=>?_)
      clear hK K
      refine norm_ (a':=?_) ?_ ?_
      rotate_left
      ·show Act.put _ (some 43) _=_
       simp only [Act.put,zz21,zz22,zz23,i64_w,i32_w]
       rfl
      refine one_ (i:=3) (N:=some 44) #[T,T,T,T,F] rfl rfl (by kernel_rfl) (by decide) (fun K hK=>?_)
      refine goes_ Tryd.func13 (by kernel_rfl) rfl #[.agg #[.int .i64 t410,.slice Ao24 t411.length co24],.agg #[.int .i64 t420,.slice Ao83 t421.length co83]] (by rfl) rfl rfl (by (try simp only [zz26,zz27,zz28]);first | done | rfl | (simp only [zz24,zz25];rfl)) ?_
      with_reducible refine (laws_eqParty.calls kj10 t410 _ _ t411 t420 _ _ t421 false _ ?side1 ?side2 ?side3 ?side4 A34.out).mono ?_
      (case side1=>repeat (first | exact (Kd.R_reads' HO_415001.out).2.2 | (with_reducible refine zz18 ?_ _) | (with_reducible refine zz19 ?_ _) | (with_reducible refine zz20 ?_)))
      (case side2=>exact (Kd.R_reads' HO_415001.out).2.1)
      (case side3=>repeat (first | exact (Kd.R_reads' HO423.out).2.2 | (with_reducible refine zz18 ?_ _) | (with_reducible refine zz19 ?_ _) | (with_reducible refine zz20 ?_)))
      (case side4=>exact (Kd.R_reads' HO423.out).2.1)
      rintro e w84 ⟨rfl,hb⟩
      refine ⟨_,rfl,?_⟩
      have n0_:=zz31 (Kd.V_below (by (with_reducible repeat (first | apply Kd.V_alloc | apply Kd.V_drewN | apply Kd.V_drew));exact HO_4.out) hb)
      have n1_:=zz31 (Kd.R_below (by (with_reducible repeat (first | apply zz12 | apply zz13 | apply zz14));exact HO_7.out) hb)
      have n2_:=zz31 (Kd.R_below (by (with_reducible repeat (first | apply zz12 | apply zz13 | apply zz14));exact HO_415001.out) hb)
      have n3_:=zz31 (Kd.R_below (by (with_reducible repeat (first | apply zz12 | apply zz13 | apply zz14));exact HO423.out) hb)
      have n4_:=zz31 (zz11 (g:=gb400) (o:=.cells #[.int .i64 a0_0,.slice A0_1 l0_1.length c0_1] 24 (0,0)) (by (with_reducible repeat (first | refine zz6 ?_ _ | refine zz7 ?_ | refine zz8 ?_ _));exact BK400.out) hb)
      have n5_:=zz31 (zz11 (g:=gb414) (o:=.cells #[.int .i64 t410,.slice Ao24 t411.length co24] 30 (0,0)) (by (with_reducible repeat (first | refine zz6 ?_ _ | refine zz7 ?_ | refine zz8 ?_ _));exact BK414.out) hb)
      have n6_:=zz31 (zz4 (by repeat first | exact HB.out | apply zz2 | apply zz0 | apply zz1 | refine zz3 ?_ GE400.out | refine zz3 ?_ GE414.out) hb)
      clear HO_4
      clear HO_7
      clear HO_415001
      clear HO423
      clear BK400
      clear BK414
      clear HB
      have HO_4:=n0_
      have HO_7:=n1_
      have HO_415001:=n2_
      have HO423:=n3_
      have BK400:=n4_
      have BK414:=n5_
      have HB:=n6_
      clear n0_ n1_ n2_ n3_ n4_ n5_ n6_
      (try clear hb)
      (try clear hb2)
      (try clear hk)
      (try clear hi)
      refine hK.out _ _ ⟨(zz9 BK414.out 0).trans rfl,(zz9 BK414.out 1).trans rfl,(zz9 BK400.out 0).trans rfl,(zz9 BK400.out 1).trans rfl⟩ (fun hHeld=>?_)
      clear hK K
      refine norm_ (a':=?_) ?_ ?_
      rotate_left
      ·show Act.put _ (some 44) _=_
       simp only [Act.put,zz21,zz22,zz23,i64_w,i32_w]
       rfl
      refine pure_ (i:=4) (N:=some 45) (v:=?_) (a':=?_) #[T,T,T,T,T] rfl rfl (by kernel_rfl) (fun _ _ _ h=>h) (Or.inl ⟨by rfl,?_⟩) ?_ ?_
      rotate_left
      ·intro w'
       go_simp
       with_reducible rfl
      rotate_left
      ·simp only [Act.put,zz21,zz22,zz23,i64_w,i32_w]
       rfl
      refine done_ (by kernel_rfl) ?_
      try go_wp2
      go_ret
      exact ⟨by first | rfl | (simp [errW_none,errW_some] <;> rfl) | (simp [*,errW_none,errW_some] <;> rfl),by repeat first | exact HB.out | apply zz2 | apply zz0 | apply zz1 | refine zz3 ?_ GE400.out | refine zz3 ?_ GE414.out⟩

end Go.Proofs.YtifkaefccghgdaaDoor.P
