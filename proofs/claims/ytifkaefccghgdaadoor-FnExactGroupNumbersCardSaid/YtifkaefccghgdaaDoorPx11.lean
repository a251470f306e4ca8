-- PRINTED by print.py (a twelfth state) out of the translation. Not trusted: Lean checks it.
import Derived.Test.YtifkaefccghgdaaDoorPx0
import Derived.Test.YtifkaefccghgdaaDoorPx1
import Derived.Test.YtifkaefccghgdaaDoorPx2
import Derived.Test.YtifkaefccghgdaaDoorPx5
import Derived.Test.YtifkaefccghgdaaDoorPx7
import Derived.Test.YtifkaefccghgdaaDoorPx9
import Derived.Test.YtifkaefccghgdaaDoorPx12
namespace Go.Proofs.YtifkaefccghgdaaDoor.P
open Go.RowKit Go.Proofs.YtifkaefccghgdaaDoorW.PrintWords Go.Proofs.YtifkaefccghgdaaDoorW.PrintLast Go.Proofs.YtifkaefccghgdaaDoorW.PrintMore
open Bool renaming true → T, false → F
attribute [local go_sem] max2_int min2_int max_two min_two max_three min_three max_four min_four   -- for this text's walks alone
set_option linter.unusedVariables false
set_option linter.unusedSimpArgs false

/-! ### spec_GroupNumbers: function 16 -/
mutual
def spec_GroupNumbers.l0:Nat→List Int→List (List Int)→Int→Int→Option (List Int × Bool)
 | 0,_,_,_,_=>none
 | k+1,x4,x12,x13,x14=>if x14 < x13 then (if 0≤x14 then (if x14 < (x12.length:Int) then (spec_GroupNumbers.l1 k x4 (rd_L5 x12 x14) x12 x13 x14) else (none)) else (none)) else (some (x4,true))
def spec_GroupNumbers.l1:Nat→List Int→List Int→List (List Int)→Int→Int→Option (List Int × Bool)
 | 0,_,_,_,_,_=>none
 | k+1,x4,x6,x12,x13,x14=>if (x4.length:Int)≤(x6.length:Int) then (if x4.length < 17592186044416 then (spec_GroupNumbers.l1 k (x4 ++ [0]) x6 x12 x13 x14) else (none)) else (if 0≤(x6.length:Int) then (if (x6.length:Int) < (x4.length:Int) then (spec_GroupNumbers.l0 k (x4.set ((x6.length:Int):Int).toNat (wrap64 ((rd x4 (x6.length:Int))+1))) x12 x13 (wrap64 (x14+1))) else (none)) else (none))
end
def spec_GroupNumbers.f (k:Nat) (a0_0:Int) (l0_1:List (S74)):Option (List Int × Bool):=(spec_paGood.f k a0_0 l0_1).bind fun t291=>(if t291=true then ((spec_paTable.f k a0_0 l0_1).bind fun t292=>((spec_grGroups.f t292).bind fun t295=>(spec_GroupNumbers.l0 k ([]:List Int) t295 (t295.length:Int) 0))) else (some (([]:List Int),false)))
theorem spec_GroupNumbers.mono_l:∀ k,(∀ y0 y1 y2 y3,LeO (spec_GroupNumbers.l0 k y0 y1 y2 y3) (spec_GroupNumbers.l0 (k+1) y0 y1 y2 y3))∧(∀ y0 y1 y2 y3 y4,LeO (spec_GroupNumbers.l1 k y0 y1 y2 y3 y4) (spec_GroupNumbers.l1 (k+1) y0 y1 y2 y3 y4))
 | 0=>⟨fun _ _ _ _ r h=>by simp [spec_GroupNumbers.l0] at h,fun _ _ _ _ _ r h=>by simp [spec_GroupNumbers.l1] at h⟩
 | k+1=>by
  obtain ⟨ih0,ih1⟩:=spec_GroupNumbers.mono_l k
  refine ⟨?_,?_⟩
  ·intro y0 y1 y2 y3
   unfold spec_GroupNumbers.l0
   repeat' first
   | (with_reducible exact ih0 _ _ _ _)
   | (with_reducible exact ih1 _ _ _ _ _)
   | (with_reducible exact spec_paGood.mono _ _ _)
   | (with_reducible exact spec_paTable.mono _ _ _)
   | (with_reducible exact LeO.refl _)
   | (with_reducible exact LeO.none _)
   | (with_reducible refine LeO.ite ?_ ?_)
   | (with_reducible refine LeO.bind ?_ (fun _=>?_))
   | exact ih0 _ _ _ _
   | exact ih1 _ _ _ _ _
   | exact spec_paGood.mono _ _ _
   | exact spec_paTable.mono _ _ _
   | exact LeO.none _
   | refine LeO.ite ?_ ?_
   | refine LeO.bind ?_ (fun _=>?_)
  ·intro y0 y1 y2 y3 y4
   unfold spec_GroupNumbers.l1
   repeat' first
   | (with_reducible exact ih0 _ _ _ _)
   | (with_reducible exact ih1 _ _ _ _ _)
   | (with_reducible exact spec_paGood.mono _ _ _)
   | (with_reducible exact spec_paTable.mono _ _ _)
   | (with_reducible exact LeO.refl _)
   | (with_reducible exact LeO.none _)
   | (with_reducible refine LeO.ite ?_ ?_)
   | (with_reducible refine LeO.bind ?_ (fun _=>?_))
   | exact ih0 _ _ _ _
   | exact ih1 _ _ _ _ _
   | exact spec_paGood.mono _ _ _
   | exact spec_paTable.mono _ _ _
   | exact LeO.none _
   | refine LeO.ite ?_ ?_
   | refine LeO.bind ?_ (fun _=>?_)
theorem spec_GroupNumbers.mono:∀ a0 a1 k,LeO (spec_GroupNumbers.f k a0 a1) (spec_GroupNumbers.f (k+1) a0 a1):=by
 intro a0 a1 k
 obtain ⟨ih0,ih1⟩:=spec_GroupNumbers.mono_l k
 unfold spec_GroupNumbers.f
 repeat' first
   | (with_reducible exact ih0 _ _ _ _)
   | (with_reducible exact ih1 _ _ _ _ _)
   | (with_reducible exact spec_paGood.mono _ _ _)
   | (with_reducible exact spec_paTable.mono _ _ _)
   | (with_reducible exact LeO.refl _)
   | (with_reducible exact LeO.none _)
   | (with_reducible refine LeO.ite ?_ ?_)
   | (with_reducible refine LeO.bind ?_ (fun _=>?_))
   | exact ih0 _ _ _ _
   | exact ih1 _ _ _ _ _
   | exact spec_paGood.mono _ _ _
   | exact spec_paTable.mono _ _ _
   | exact LeO.none _
   | refine LeO.ite ?_ ?_
   | refine LeO.bind ?_ (fun _=>?_)
set_option maxHeartbeats 8000000 in
set_option maxRecDepth 100000 in
theorem spec_GroupNumbers.calls (k:Nat) (a0_0:Int) (A0_1:Option Addr) (c0_1:Nat) (l0_1:List (S74)) (r1:List Int) (r2:Bool) (w:World) (hr0_1:Kd.C k74 w A0_1 l0_1.length l0_1) (hc0_1:l0_1.length≤c0_1) (h:spec_GroupNumbers.f k a0_0 l0_1=some (r1,r2)) :
  Calls Tryd.prog 16 #[.agg #[.int .i64 a0_0,.slice A0_1 l0_1.length c0_1]] w fun e w'=>∃ v0_:Value,e=.returned (.tuple #[v0_,.bool r2])∧Kd.R (Kd.int .i64) 3 w' w.heap.size (fun _=>True) v0_ r1∧Below w.heap.size w w':=by
 have hu30:=Tryd.underlying30
 have HR0_1:=zz31 hr0_1
 have HC0_1:=zz31 hc0_1
 clear hr0_1 hc0_1
 have HB:=zz31 (Below.refl w.heap.size w)
 have H:((spec_paGood.f k a0_0 l0_1).bind fun t291=>(if t291=true then ((spec_paTable.f k a0_0 l0_1).bind fun t292=>((spec_grGroups.f t292).bind fun t295=>(spec_GroupNumbers.l0 k ([]:List Int) t295 (t295.length:Int) 0))) else (some (([]:List Int),false))))=some (r1,r2):=h
 clear h
 replace H:=zz30.mp H
 obtain ⟨t291,A20,H⟩:=H
 replace H:(if t291=true then ((spec_paTable.f k a0_0 l0_1).bind fun t292=>((spec_grGroups.f t292).bind fun t295=>(spec_GroupNumbers.l0 k ([]:List Int) t295 (t295.length:Int) 0))) else (some (([]:List Int),false)))=some (r1,r2):=H
 have A2:=zz31 A20
 clear A20
 by_cases c3:t291=true
 ·subst c3
  have H1:((spec_paTable.f k a0_0 l0_1).bind fun t292=>((spec_grGroups.f t292).bind fun t295=>(spec_GroupNumbers.l0 k ([]:List Int) t295 (t295.length:Int) 0)))=some (r1,r2):=by rw [if_pos rfl] at H;exact H
  clear H
  have H:=H1
  clear H1
  replace H:=zz30.mp H
  obtain ⟨t292,A40,H⟩:=H
  replace H:((spec_grGroups.f t292).bind fun t295=>(spec_GroupNumbers.l0 k ([]:List Int) t295 (t295.length:Int) 0))=some (r1,r2):=H
  have A4:=zz31 A40
  clear A40
  replace H:=zz30.mp H
  obtain ⟨t295,A50,H⟩:=H
  replace H:(spec_GroupNumbers.l0 k ([]:List Int) t295 (t295.length:Int) 0)=some (r1,r2):=H
  have A5:=zz31 A50
  clear A50
  have H':=zz31 H
  clear H
  go_enter Tryd.func16,Tryd.ntmps16
  go_wp2_with (first | ((with_reducible refine gate_dst (N:=1) rfl ?_);refine box_event ?hg (N:=1) ?hd (cs:=#[.int .i64 a0_0,.slice A0_1 l0_1.length c0_1]) (t:=30) ?hr ?_;(case hd=>rfl);(case hg=>rfl);(case hr=>first | (go_simp;done) | (go_simp;rfl));intro gb290 hg w6 hbox hb;have n0_:=zz31 (zz4 (by repeat first | exact HB.out | apply zz2 | apply zz0 | apply zz1) hb);have n1_:=zz31 (hbox);have n2_:=zz31 ((by rw [hg];exact (zz5 (by repeat first | exact HB.out | apply zz2 | apply zz0 | apply zz1)):w.heap.size≤gb290));have n3_:=zz31 ((by rw [hg];exact (zz5 (by repeat first | exact HB.out | apply zz2 | apply zz0 | apply zz1)):w.heap.size≤gb290));clear HB;have HB:=n0_;have BK290:=n1_;have GW290:=n2_;have GE290:=n3_;clear n0_ n1_ n2_ n3_;clear hb hbox hg;have hcz7_0:w6.cell? ⟨gb290,0,none⟩=some (.int .i64 a0_0):=(zz9 BK290.out 0).trans rfl;have hcz7_1:w6.cell? ⟨gb290,1,none⟩=some (.slice A0_1 l0_1.length c0_1):=(zz9 BK290.out 1).trans rfl;have hfz7_0:=zz10 BK290.out 0;have hfz7_1:=zz10 BK290.out 1) | ((with_reducible refine gate_callee (f:=30) rfl ?_);refine goesL_ (some 8) rfl rfl Tryd.func30 (by kernel_rfl) rfl #[.agg #[.int .i64 a0_0,.slice A0_1 l0_1.length c0_1]] rfl (by (try simp only [zz26,zz27,zz28]);first | done | rfl | (simp only [zz24,zz25];rfl)) ?_;(with_reducible refine (spec_paGood.calls k a0_0 _ _ l0_1 true _ ?side1 ?side2 A2.out).mono ?_);(case side1=>repeat (first | exact (Kd.C_below HR0_1.out HB.out) | (with_reducible refine zz18 ?_ _) | (with_reducible refine zz19 ?_ _) | (with_reducible refine zz20 ?_)));(case side2=>exact HC0_1.out);rintro e w8 ⟨rfl,hb⟩;refine ⟨_,rfl,?_⟩;have n0_:=zz31 (zz11 (g:=gb290) (o:=.cells #[.int .i64 a0_0,.slice A0_1 l0_1.length c0_1] 30 (0,0)) (by (with_reducible repeat (first | refine zz6 ?_ _ | refine zz7 ?_ | refine zz8 ?_ _));exact BK290.out) hb);have n1_:=zz31 (zz4 (by repeat first | exact HB.out | apply zz2 | apply zz0 | apply zz1 | refine zz3 ?_ GE290.out) hb);clear BK290;clear HB;have BK290:=n0_;have HB:=n1_;clear n0_ n1_;(try clear hb);(try clear hb2);(try clear hk);(try clear hi);have hcz9_0:w8.cell? ⟨gb290,0,none⟩=some (.int .i64 a0_0):=(zz9 BK290.out 0).trans rfl;have hcz9_1:w8.cell? ⟨gb290,1,none⟩=some (.slice A0_1 l0_1.length c0_1):=(zz9 BK290.out 1).trans rfl;have hfz9_0:=zz10 BK290.out 0;have hfz9_1:=zz10 BK290.out 1) | ((with_reducible refine gate_callee (f:=33) rfl ?_);refine goesL_ (some 11) rfl rfl Tryd.func33 (by kernel_rfl) rfl #[.agg #[.int .i64 a0_0,.slice A0_1 l0_1.length c0_1]] rfl (by (try simp only [zz26,zz27,zz28]);first | done | rfl | (simp only [zz24,zz25];rfl)) ?_;(with_reducible refine (spec_paTable.calls k a0_0 _ _ l0_1 t292 _ ?side1 ?side2 A4.out).mono ?_);(case side1=>repeat (first | exact (Kd.C_below HR0_1.out HB.out) | (with_reducible refine zz18 ?_ _) | (with_reducible refine zz19 ?_ _) | (with_reducible refine zz20 ?_)));(case side2=>exact HC0_1.out);rintro e w10 ⟨v293,rfl,ho0,hb⟩;refine ⟨_,rfl,?_⟩;have n0_:=zz31 (Kd.S_lower ho0 (zz5 (by repeat first | exact HB.out | apply zz2 | apply zz0 | apply zz1 | refine zz3 ?_ GE290.out)));have n1_:=zz31 (zz11 (g:=gb290) (o:=.cells #[.int .i64 a0_0,.slice A0_1 l0_1.length c0_1] 30 (0,0)) (by (with_reducible repeat (first | refine zz6 ?_ _ | refine zz7 ?_ | refine zz8 ?_ _));exact BK290.out) hb);have n2_:=zz31 (zz4 (by repeat first | exact HB.out | apply zz2 | apply zz0 | apply zz1 | refine zz3 ?_ GE290.out) hb);clear BK290;clear HB;have HO294:=n0_;have BK290:=n1_;have HB:=n2_;clear n0_ n1_ n2_;(try clear hb);(try clear hb2);(try clear hk);(try clear hi);(try clear ho0);obtain ⟨Ao11,co11,eo11⟩:=Kd.S_slice HO294.out;subst eo11) | ((with_reducible refine gate_callee (f:=43) rfl ?_);refine goesL_ (some 12) rfl rfl Tryd.func43 (by kernel_rfl) rfl #[.slice Ao11 t292.length co11] rfl (by (try simp only [zz26,zz27,zz28]);first | done | rfl | (simp only [zz24,zz25];rfl)) ?_;(with_reducible refine (spec_grGroups.calls _ _ t292 t295 _ ?side1 ?side2 A5.out).mono ?_);(case side1=>repeat (first | exact (Kd.S_reads' HO294.out).2.2 | (with_reducible refine zz18 ?_ _) | (with_reducible refine zz19 ?_ _) | (with_reducible refine zz20 ?_)));(case side2=>exact (Kd.S_reads' HO294.out).2.1);rintro e w12 ⟨v296,rfl,ho0,hb⟩;refine ⟨_,rfl,?_⟩;have n0_:=zz31 (Kd.S_below (by (with_reducible repeat (first | apply zz15 | apply zz16 | apply zz17));exact HO294.out) hb);have n1_:=zz31 (Kd.S_lower ho0 (zz5 (by repeat first | exact HB.out | apply zz2 | apply zz0 | apply zz1 | refine zz3 ?_ GE290.out)));have n2_:=zz31 (zz11 (g:=gb290) (o:=.cells #[.int .i64 a0_0,.slice A0_1 l0_1.length c0_1] 30 (0,0)) (by (with_reducible repeat (first | refine zz6 ?_ _ | refine zz7 ?_ | refine zz8 ?_ _));exact BK290.out) hb);have n3_:=zz31 (zz4 (by repeat first | exact HB.out | apply zz2 | apply zz0 | apply zz1 | refine zz3 ?_ GE290.out) hb);clear HO294;clear BK290;clear HB;have HO294:=n0_;have HO297:=n1_;have BK290:=n2_;have HB:=n3_;clear n0_ n1_ n2_ n3_;(try clear hb);(try clear hb2);(try clear hk);(try clear hi);(try clear ho0);obtain ⟨Ao13,co13,eo13⟩:=Kd.S_slice HO297.out;subst eo13))
  go_loopg [4,14] k (fun kq v4 v14 w'=>∃ (x4_1:List Int) (x14_1:Int),v14=.int .i64 x14_1∧Aside0 (spec_GroupNumbers.l0 kq x4_1 t295 (t295.length:Int) x14_1=some (r1,r2))∧Aside0 (kq≤k)∧Aside0 (Kd.R (Kd.int .i64) 3 w' w.heap.size (fun _=>True) v4 x4_1)∧Aside0 (Kd.S (Kd.slice 3 (Kd.int .i64)) 34 w' w.heap.size (fun k_=>some k_ ≠ (v4:Value).ownBlock) (.slice Ao13 t295.length co13) t295)∧Aside0 (w'.heap[gb290]?=some (.cells #[.int .i64 a0_0,(.slice A0_1 l0_1.length c0_1)] 30 (0,0)))∧Aside0 (Below w.heap.size w w'))
  case atStart=>exact ⟨(([]:List Int)),(0),(by first | rfl | (simp;done) | (simp [*];done)),H',⟨Nat.le_refl _⟩,⟨by first | exact Kd.R_nil _ _ _ _ _ | exact Kd.N_nil _ _ _ _ _ | exact Kd.V_nil _ _ _ _ _ | exact Kd.Q_nil _ _ _ _ _ | exact Kd.S_nil _ _ _ _ _⟩,⟨by (with_reducible repeat (first | apply zz15 | apply zz16 | apply zz17));exact Kd.S_mono HO297.out (fun _ hk=>(by simp [Value.ownBlock]))⟩,⟨by (with_reducible repeat (first | refine zz6 ?_ _ | refine zz7 ?_ | refine zz8 ?_ _));exact BK290.out⟩,⟨by repeat first | exact HB.out | apply zz2 | apply zz0 | apply zz1 | refine zz3 ?_ GE290.out⟩⟩
  case round =>
   clear H'
   try clear c1
   try clear p2
   try clear c3
   try clear c4
   try clear hcz7_0
   try clear hcz7_1
   try clear hcz9_0
   try clear hcz9_1
   try clear hfz7_0
   try clear hfz7_1
   try clear hfz9_0
   try clear hfz9_1
   obtain ⟨x4_1,x14_1,rfl,HA,HK1,HO_4,HO_12,BK290,HB⟩:=hrel
   cases gk with
   | zero=>exact absurd HA.out (by simp [spec_GroupNumbers.l0])
   | succ k1 =>
    have H:=HA.out
    clear HA
    simp only [spec_GroupNumbers.l0] at H
    by_cases c14:x14_1 < (t295.length:Int)
    ·rw [if_pos c14] at H
     have c14b0:decide (x14_1 < (t295.length:Int))=true:=decide_eq_true c14
     clear c14
     by_cases c15:0≤x14_1
     ·rw [if_pos c15] at H
      have c15b0:decide (0≤x14_1)=true:=decide_eq_true c15
      clear c15
      by_cases c16:x14_1 < (t295.length:Int)
      ·rw [if_pos c16] at H
       have c16b0:decide (x14_1 < (t295.length:Int))=true:=decide_eq_true c16
       clear c16
       have H':=zz31 H
       clear H
       have p298:0≤(x14_1:Int):=zz29 (by first | (with_reducible assumption) | assumption)
       have q298:x14_1 < (t295.length:Int):=zz29 (by first | (with_reducible assumption) | assumption)
       obtain ⟨ad298,A298_0,c298_0,e298,hx298_0,hl298_0,hi298_0⟩:=at_L5 (Kd.S_reads' HO_12.out).2.2 x14_1 p298 q298
       cases e298
       obtain ⟨ce298,hce298,hMe298,hcc298⟩:=Kd.S_get HO_12.out [] x14_1 p298 (by first | exact q298 | exact zz29 (by first | (with_reducible assumption) | assumption) | (have e_:=(Kd.S_reads' HO_12.out).1;omega))
       obtain ⟨ve298_0,rfl,ge298_0⟩:=hMe298
       have hv298_0:=hcc298 0 _ rfl
       rw [Nat.add_zero,show ((Kd.slice 3 (Kd.int .i64))).sz=1 from rfl,Nat.mul_one] at hv298_0
       replace hv298_0:=Option.some.inj (hv298_0.symm.trans hx298_0)
       rw [hv298_0] at ge298_0
       have HL298_0:=zz31 (show Kd.R (Kd.int .i64) 3 _ _ _ _ (rd_L5 t295 x14_1) from ge298_0)
       clear hv298_0 ge298_0
       clear hcc298 hce298
       have HR298_0:=zz31 hi298_0
       have HC298_0:=zz31 hl298_0
       clear hi298_0 hl298_0
       replace p298:=eq_true p298
       replace q298:=eq_true q298
       go_wp2
       go_loopg [4] k1 (fun kq v4 w'=>∃ (x4_2:List Int),Aside0 (spec_GroupNumbers.l1 kq x4_2 (rd_L5 t295 x14_1) t295 (t295.length:Int) x14_1=some (r1,r2))∧Aside0 (kq≤k1)∧Aside0 (Kd.R (Kd.int .i64) 3 w' w.heap.size (fun _=>True) v4 x4_2)∧Aside0 (Kd.S (Kd.slice 3 (Kd.int .i64)) 34 w' w.heap.size (fun k_=>some k_ ≠ (v4:Value).ownBlock) (.slice (some ad298) t295.length co13) t295)∧Aside0 (w'.heap[gb290]?=some (.cells #[.int .i64 a0_0,(.slice A0_1 l0_1.length c0_1)] 30 (0,0)))∧Aside0 (Below w.heap.size w w'))
       case atStart=>exact ⟨(x4_1),H',⟨Nat.le_refl _⟩,⟨by (with_reducible repeat (first | apply zz12 | apply zz13 | apply zz14));exact HO_4.out⟩,⟨by (with_reducible repeat (first | apply zz15 | apply zz16 | apply zz17));exact HO_12.out⟩,⟨by (with_reducible repeat (first | refine zz6 ?_ _ | refine zz7 ?_ | refine zz8 ?_ _));exact BK290.out⟩,⟨by repeat first | exact HB.out | apply zz2 | apply zz0 | apply zz1 | refine zz3 ?_ GE290.out⟩⟩
       case round =>
        clear H'
        try clear c1
        try clear c2
        try clear p2
        try clear q2
        try clear hx2
        try clear c3
        try clear c4
        try clear c14
        try clear c14b0
        try clear c15
        try clear c15b0
        try clear c16
        try clear c16b0
        try clear hcz7_0
        try clear hcz7_1
        try clear hcz9_0
        try clear hcz9_1
        try clear hfz7_0
        try clear hfz7_1
        try clear hfz9_0
        try clear hfz9_1
        try clear hx298_0
        try clear p2
        try clear p298
        try clear q298
        obtain ⟨x4_2,HA,HK2,HO_4,HO_12,BK290,HB⟩:=hrel
        cases gk with
        | zero=>exact absurd HA.out (by simp [spec_GroupNumbers.l1])
        | succ k2 =>
         have H:=HA.out
         clear HA
         simp only [spec_GroupNumbers.l1] at H
         by_cases c17:(x4_2.length:Int)≤((rd_L5 t295 x14_1).length:Int)
         ·rw [if_pos c17] at H
          have c17b0:decide ((x4_2.length:Int)≤((rd_L5 t295 x14_1).length:Int))=true:=decide_eq_true c17
          have c17b1:decide (x4_2.length≤(rd_L5 t295 x14_1).length)=true:=decide_eq_true (Int.ofNat_le.mp c17)
          clear c17
          by_cases c18:x4_2.length < 17592186044416
          ·rw [if_pos c18] at H
           have LMc18:=zz31 c18
           clear c18
           obtain ⟨y299,hy299⟩:∃ y_:List Int,y_=(x4_2 ++ [0]):=⟨_,rfl⟩
           replace H:(spec_GroupNumbers.l1 k2 y299 (rd_L5 t295 x14_1) t295 (t295.length:Int) x14_1)=some (r1,r2):=by first | (rw [hy299];with_reducible exact H) | (have H2_:=(Option.bind_some _ _).symm.trans H;rw [hy299];with_reducible exact H2_) | (have H2_:=(Option.bind_some _ _).symm.trans H;with_reducible exact H2_) | with_reducible exact H | (rw [hy299];exact H) | exact H
           have Ny299:=zz31 hy299
           clear hy299
           have H':=zz31 H
           clear H
           obtain ⟨Ao19,co19,eo19⟩:=Kd.R_slice HO_4.out
           subst eo19
           go_wp2_with (first | ((with_reducible refine gate_builtin (b:=.append) (xs:=#[.tmp 23,.tmp 24]) rfl ?_);at_builtin;refine Kd.R_append (Kd.int .i64) (w0:=w) w.heap.size rfl (.tmp 23) (.tmp 24) 34 3 (.int .i64 0) 8 rfl Tryd.underlying34 info3 rfl (by decide) (by omega) (.slice Ao19 x4_2.length co19) x4_2 0 [.int .i64 0] (fun _=>True) (fun _=>False) rfl rfl ?aP (fun _ hk=>hk.elim) ?aF ?aO ?aB ?aS ?aL ?_;(case aP=>exact rfl);(case aB=>exact (by repeat first | exact HB.out | apply zz2 | apply zz0 | apply zz1 | refine zz3 ?_ GE290.out));(case aF=>exact (fun _ _=>trivial));(case aO=>exact (by (with_reducible repeat (first | apply zz12 | apply zz13 | apply zz14));exact HO_4.out));(case aS=>exact (zz5 (by repeat first | exact HB.out | apply zz2 | apply zz0 | apply zz1 | refine zz3 ?_ GE290.out)));(case aL=>have:=LMc18.out;omega);intro v300 w20 ho hb hg hat;rw [← Ny299.out] at ho;have n0_:=zz31 (Kd.S_after (ok:=(fun _=>True)) (by (with_reducible repeat (first | apply zz15 | apply zz16 | apply zz17));exact Kd.S_mono HO_12.out (fun _ hk=>⟨trivial,hk⟩)) hg hat);have n1_:=zz31 (blk_grown (g:=gb290) (o:=.cells #[.int .i64 a0_0,.slice A0_1 l0_1.length c0_1] 30 (0,0)) (by (with_reducible repeat (first | refine zz6 ?_ _ | refine zz7 ?_ | refine zz8 ?_ _));exact BK290.out) hg (Kd.R_ne HO_4.out BK290.out (by decide)));have n2_:=zz31 (hb);have n3_:=zz31 (ho);clear HO_12;clear BK290;clear HB;clear HO_4;have HO_12:=n0_;have BK290:=n1_;have HB:=n2_;have HO301:=n3_;clear n0_ n1_ n2_ n3_;clear ho hb hg hat))
           go_roundg k2
           case measure=>have:=HK1.out;have:=HK2.out;omega
           case rel=>exact ⟨(y299),H',⟨by have:=HK1.out;have:=HK2.out;omega⟩,⟨by (with_reducible repeat (first | apply zz12 | apply zz13 | apply zz14));exact HO301.out⟩,⟨by (with_reducible repeat (first | apply zz15 | apply zz16 | apply zz17));exact Kd.S_mono HO_12.out (fun _ hk=>hk.2)⟩,⟨by (with_reducible repeat (first | refine zz6 ?_ _ | refine zz7 ?_ | refine zz8 ?_ _));exact BK290.out⟩,⟨by repeat first | exact HB.out | apply zz2 | apply zz0 | apply zz1 | refine zz3 ?_ GE290.out⟩⟩
          ·rw [if_neg c18] at H
           exact absurd H (by simp)
         ·rw [if_neg c17] at H
          have c17b0:decide ((x4_2.length:Int)≤((rd_L5 t295 x14_1).length:Int))=false:=decide_eq_false c17
          have c17b1:decide (x4_2.length≤(rd_L5 t295 x14_1).length)=false:=decide_eq_false (fun h=>c17 (Int.ofNat_le.mpr h))
          clear c17
          by_cases c21:0≤((rd_L5 t295 x14_1).length:Int)
          ·rw [if_pos c21] at H
           have c21b0:decide (0≤((rd_L5 t295 x14_1).length:Int))=true:=decide_eq_true c21
           have c21b1:decide (0≤(rd_L5 t295 x14_1).length)=true:=decide_eq_true (by omega)
           clear c21
           by_cases c22:((rd_L5 t295 x14_1).length:Int) < (x4_2.length:Int)
           ·rw [if_pos c22] at H
            have c22b0:decide (((rd_L5 t295 x14_1).length:Int) < (x4_2.length:Int))=true:=decide_eq_true c22
            have c22b1:decide ((rd_L5 t295 x14_1).length < x4_2.length)=true:=decide_eq_true (Int.ofNat_lt.mp c22)
            clear c22
            obtain ⟨y303,hy303⟩:∃ y_:List Int,y_=(x4_2.set (((rd_L5 t295 x14_1).length:Int):Int).toNat (wrap64 ((rd x4_2 ((rd_L5 t295 x14_1).length:Int))+1))):=⟨_,rfl⟩
            replace H:(spec_GroupNumbers.l0 k2 y303 t295 (t295.length:Int) (wrap64 (x14_1+1)))=some (r1,r2):=by first | (rw [hy303];with_reducible exact H) | (have H2_:=(Option.bind_some _ _).symm.trans H;rw [hy303];with_reducible exact H2_) | (have H2_:=(Option.bind_some _ _).symm.trans H;with_reducible exact H2_) | with_reducible exact H | (rw [hy303];exact H) | exact H
            have Ny303:=zz31 hy303
            clear hy303
            have H':=zz31 H
            clear H
            obtain ⟨Ao24,co24,eo24⟩:=Kd.R_slice HO_4.out
            subst eo24
            have p302:0≤(((rd_L5 t295 x14_1).length:Int):Int):=zz29 (by first | (with_reducible assumption) | assumption)
            have q302:((rd_L5 t295 x14_1).length:Int) < (x4_2.length:Int):=zz29 (by first | (with_reducible assumption) | assumption)
            obtain ⟨ad302,e302,hx302_0⟩:=Kd.at_int (Kd.R_reads' HO_4.out).2.2 ((rd_L5 t295 x14_1).length:Int) p302 q302
            cases e302
            (try simp only [Go.IntWalk.toNatUp] at hx302_0)
            replace p302:=eq_true p302
            replace q302:=eq_true q302
            have p23:0≤(((rd_L5 t295 x14_1).length:Int):Int):=zz29 (by first | (with_reducible assumption) | assumption)
            have q23:(((rd_L5 t295 x14_1).length:Int):Int) < ((x4_2.length:Int):Int):=zz29 (by first | (with_reducible assumption) | assumption)
            obtain ⟨go23,co23,eo23,gb23,gl23,cl23,HG23⟩:=Kd.R_form HO_4.out (by omega)
            (first | cases eo23 | (injection eo23 with ea_ en_ ec_;(first | subst ea_ | (injection ea_ with ea_;subst ea_));subst ec_;clear en_))
            have GB23:=zz31 gb23
            have GG23:=zz31 HG23
            clear gb23 gl23 HG23
            (first | simp only [add_plain] at hx302_0 | skip)
            obtain ⟨hx23_0,hf23_0⟩:=Kd.R_celln 0 HO_4.out (((rd_L5 t295 x14_1).length:Int):Int) p23 q23
            (try simp only [Int.toNat_natCast] at hx23_0)
            (try simp only [Int.toNat_natCast] at hf23_0)
            replace p23:=eq_true p23
            replace q23:=eq_true q23
            have HP25:=Kd.R_putg HO_4.out (((rd_L5 t295 x14_1).length:Int):Int) (wrap64 ((rd x4_2 ((rd_L5 t295 x14_1).length:Int))+1))
            go_wp2_with (first | ((with_reducible refine gate_store (t:=3) (p:=32) rfl ?_);refine store_event (t:=3) (p:=32) (v:=?vo_w26) (w1:=(wr.setCell ⟨go23,(((rd_L5 t295 x14_1).length:Int):Int).toNat,none⟩ (.int .i64 (wrap64 ((rd x4_2 ((rd_L5 t295 x14_1).length:Int))+1))))) ?hg ?ho ?hn ?hr ?_;(case ho=>rfl);(case hg=>rfl);(case hn=>rfl);(case hr=>first | (go_simp;done) | (go_simp;rfl));intro w26 hw;have hg:wr.grownBy w26 (some go23):=(by rw [hw];exact HP25.2);have hp_:Kd.R (Kd.int .i64) 3 w26 w.heap.size (fun _=>True) (.slice (some ⟨go23,0,none⟩) x4_2.length co24) y303:=(by rw [hw,Ny303.out];exact HP25.1);clear HP25;have n0_:=zz31 (hp_);have n1_:=zz31 (Kd.S_after (v:=(.slice (some ⟨go23,0,none⟩) x4_2.length co24)) (v1:=(.slice (some ⟨go23,0,none⟩) x4_2.length co24)) (ok:=(fun _=>True)) (by (with_reducible repeat (first | apply zz15 | apply zz16 | apply zz17));exact Kd.S_mono HO_12.out (fun _ hk=>⟨trivial,hk⟩)) hg (.inl rfl));have n2_:=zz31 (blk_grown (g:=gb290) (o:=.cells #[.int .i64 a0_0,.slice A0_1 l0_1.length c0_1] 30 (0,0)) (by (with_reducible repeat (first | refine zz6 ?_ _ | refine zz7 ?_ | refine zz8 ?_ _));exact BK290.out) hg (Kd.R_ne HO_4.out BK290.out (by decide)));have n3_:=zz31 ((by rw [hw];exact zz3 (HB.out) GB23.out:Below w.heap.size w w26));clear HO_4;clear HO_12;clear BK290;clear HB;have HO_4:=n0_;have HO_12:=n1_;have BK290:=n2_;have HB:=n3_;clear n0_ n1_ n2_ n3_;clear hg hw hp_))
            go_roundg k2
            case measure=>have:=HK1.out;have:=HK2.out;omega
            case rel=>exact ⟨(y303),(wrap64 (x14_1+1)),(by first | rfl | (simp;done) | (simp [*];done)),H',⟨by have:=HK1.out;have:=HK2.out;omega⟩,⟨by (with_reducible repeat (first | apply zz12 | apply zz13 | apply zz14));exact HO_4.out⟩,⟨by (with_reducible repeat (first | apply zz15 | apply zz16 | apply zz17));exact Kd.S_mono HO_12.out (fun _ hk=>hk.2)⟩,⟨by (with_reducible repeat (first | refine zz6 ?_ _ | refine zz7 ?_ | refine zz8 ?_ _));exact BK290.out⟩,⟨by repeat first | exact HB.out | apply zz2 | apply zz0 | apply zz1 | refine zz3 ?_ GE290.out⟩⟩
           ·rw [if_neg c22] at H
            exact absurd H (by simp)
          ·rw [if_neg c21] at H
           exact absurd H (by simp)
      ·rw [if_neg c16] at H
       exact absurd H (by simp)
     ·rw [if_neg c15] at H
      exact absurd H (by simp)
    ·rw [if_neg c14] at H
     have c14b0:decide (x14_1 < (t295.length:Int))=false:=decide_eq_false c14
     clear c14
     simp only [Option.some.injEq,Prod.mk.injEq] at H
     obtain ⟨rfl,rfl⟩:=H
     go_wp2
     go_ret2
     exact ⟨_,by first | rfl | (simp [errW_none,errW_some] <;> rfl) | (simp [*,errW_none,errW_some] <;> rfl),by (with_reducible repeat (first | apply zz12 | apply zz13 | apply zz14));exact HO_4.out,by repeat first | exact HB.out | apply zz2 | apply zz0 | apply zz1 | refine zz3 ?_ GE290.out⟩
 ·replace c3:=Bool.eq_false_iff.mpr c3
  subst c3
  have H1:(some (([]:List Int),false))=some (r1,r2):=by rw [if_neg (show ¬ (false=true) by decide)] at H;exact H
  clear H
  have H:=H1
  clear H1
  simp only [Option.some.injEq,Prod.mk.injEq] at H
  obtain ⟨rfl,rfl⟩:=H
  go_enter Tryd.func16,Tryd.ntmps16
  go_wp2_with (first | ((with_reducible refine gate_dst (N:=1) rfl ?_);refine box_event ?hg (N:=1) ?hd (cs:=#[.int .i64 a0_0,.slice A0_1 l0_1.length c0_1]) (t:=30) ?hr ?_;(case hd=>rfl);(case hg=>rfl);(case hr=>first | (go_simp;done) | (go_simp;rfl));intro gb290 hg w27 hbox hb;have n0_:=zz31 (zz4 (by repeat first | exact HB.out | apply zz2 | apply zz0 | apply zz1) hb);have n1_:=zz31 (hbox);have n2_:=zz31 ((by rw [hg];exact (zz5 (by repeat first | exact HB.out | apply zz2 | apply zz0 | apply zz1)):w.heap.size≤gb290));have n3_:=zz31 ((by rw [hg];exact (zz5 (by repeat first | exact HB.out | apply zz2 | apply zz0 | apply zz1)):w.heap.size≤gb290));clear HB;have HB:=n0_;have BK290:=n1_;have GW290:=n2_;have GE290:=n3_;clear n0_ n1_ n2_ n3_;clear hb hbox hg;have hcz28_0:w27.cell? ⟨gb290,0,none⟩=some (.int .i64 a0_0):=(zz9 BK290.out 0).trans rfl;have hcz28_1:w27.cell? ⟨gb290,1,none⟩=some (.slice A0_1 l0_1.length c0_1):=(zz9 BK290.out 1).trans rfl;have hfz28_0:=zz10 BK290.out 0;have hfz28_1:=zz10 BK290.out 1) | ((with_reducible refine gate_callee (f:=30) rfl ?_);refine goesL_ (some 8) rfl rfl Tryd.func30 (by kernel_rfl) rfl #[.agg #[.int .i64 a0_0,.slice A0_1 l0_1.length c0_1]] rfl (by (try simp only [zz26,zz27,zz28]);first | done | rfl | (simp only [zz24,zz25];rfl)) ?_;(with_reducible refine (spec_paGood.calls k a0_0 _ _ l0_1 false _ ?side1 ?side2 A2.out).mono ?_);(case side1=>repeat (first | exact (Kd.C_below HR0_1.out HB.out) | (with_reducible refine zz18 ?_ _) | (with_reducible refine zz19 ?_ _) | (with_reducible refine zz20 ?_)));(case side2=>exact HC0_1.out);rintro e w29 ⟨rfl,hb⟩;refine ⟨_,rfl,?_⟩;have n0_:=zz31 (zz11 (g:=gb290) (o:=.cells #[.int .i64 a0_0,.slice A0_1 l0_1.length c0_1] 30 (0,0)) (by (with_reducible repeat (first | refine zz6 ?_ _ | refine zz7 ?_ | refine zz8 ?_ _));exact BK290.out) hb);have n1_:=zz31 (zz4 (by repeat first | exact HB.out | apply zz2 | apply zz0 | apply zz1 | refine zz3 ?_ GE290.out) hb);clear BK290;clear HB;have BK290:=n0_;have HB:=n1_;clear n0_ n1_;(try clear hb);(try clear hb2);(try clear hk);(try clear hi)))
  go_ret2
  exact ⟨_,by first | rfl | (simp [errW_none,errW_some] <;> rfl) | (simp [*,errW_none,errW_some] <;> rfl),by first | exact Kd.R_nil _ _ _ _ _ | exact Kd.N_nil _ _ _ _ _ | exact Kd.V_nil _ _ _ _ _ | exact Kd.Q_nil _ _ _ _ _ | exact Kd.S_nil _ _ _ _ _,by repeat first | exact HB.out | apply zz2 | apply zz0 | apply zz1 | refine zz3 ?_ GE290.out⟩

-- NOT PRINTED: function 48 (impl_GroupNumbers_1)

/-! ### impl_GroupNumbers: function 17 (a contract of our own) -/
def padN (s:List Int) (q:Nat):List Int:=s ++ List.replicate q 0
def numStep (s:List Int) (cs:List Int):List Int:=(padN s (cs.length+1 - s.length)).set cs.length (wrap64 (rd (padN s (cs.length+1 - s.length)) (cs.length:Int)+1))
theorem padN_len (s:List Int) (q:Nat):(padN s q).length=s.length+q:=by simp [padN]
theorem padN_succ (s:List Int) (q:Nat):padN s (q+1)=padN s q ++ [0]:=by
 unfold padN;rw [List.replicate_succ',List.append_assoc]
/-- The numbers so far in one block, behind a variable in another one. -/
def NumI (B0 bo:Nat) (s:List Int) (own:Nat→Prop) (W:World):Prop :=
 0 < B0∧B0≤bo∧s.length≤100∧∃ v,own=ownV bo v∧W.heap[bo]?=some (.cells #[v] 34 (0,0))∧(Kd.int .i64).R 3 W B0 (fun k=>k ≠ bo) v s
theorem NumI.below {B0 bo:Nat} {s:List Int} {own:Nat→Prop} {W W':World} (h:NumI B0 bo s own W) (hb:Below W.heap.size W W'):NumI B0 bo s own W':=by
 obtain ⟨h1,h2,h3,v,h4,h5,h6⟩:=h
 exact ⟨h1,h2,h3,v,h4,zz11 h5 hb,Kd.R_below h6 hb⟩
theorem NumI.lt {B0 bo:Nat} {s:List Int} {own:Nat→Prop} {W:World} (h:NumI B0 bo s own W):∀ i,own i→i < W.heap.size:=by
 obtain ⟨h1,h2,h3,v,h4,h5,h6⟩:=h
 subst h4
 rintro i (rfl | hi)
 ·exact blk_lt h5
 ·exact Kd.R_lt h6 i hi.symm
theorem NumI.tab {B0 bo:Nat} {s:List Int} {own:Nat→Prop} {W:World} (h:NumI B0 bo s own W):¬ own 0:=by
 obtain ⟨h1,h2,h3,v,h4,h5,h6⟩:=h
 subst h4
 rintro (hi | hi)
 ·omega
 ·have:=Kd.R_base h6 _ hi.symm;omega
set_option maxHeartbeats 1000000 in
set_option maxRecDepth 100000 in
theorem nums_each (B0 bo:Nat):EachGrp (List Int) 48 #[.pointer (some ⟨bo,0,none⟩)] B0 (NumI B0 bo) numStep:=by
 intro s own W A c cs hI hB hc8 hR
 obtain ⟨h1,h2,h3,v,rfl,h5,h6⟩:=hI
 have HC:=zz31 hR
 have HX:=zz31 h5
 have HR:=zz31 h6
 have hW:=hB
 clear hR h5 h6
 go_enter Tryd.func48,Tryd.ntmps48
 go_wp2
 go_loopg [] (cs.length+1 - s.length) (fun gg wr=>∃ (q:Nat) (vr:Value),q≤cs.length+1 - s.length∧cs.length+1 - s.length - q≤gg∧Aside0 (wr.heap[bo]?=some (.cells #[vr] 34 (0,0)))∧Aside0 ((Kd.int .i64).R 3 wr B0 (fun k=>k ≠ bo) vr (padN s q))∧Aside0 (Fr (ownV bo v) (ownV bo vr) W wr))
 case atStart=>exact ⟨0,v,by omega,by omega,HX,⟨by simpa [padN] using HR.out⟩,⟨Fr.refl _ _⟩⟩
 case round =>
  obtain ⟨q,vr,hq,hgg,HXr,HRr,HFr⟩:=hrel
  obtain ⟨L,hL⟩:∃ L,L=padN s q:=⟨_,rfl⟩
  have HL:=zz31 hL
  have hlen:L.length=s.length+q:=by rw [hL,padN_len]
  have hRr:=HRr.out
  rw [← hL] at hRr
  obtain ⟨Ar,cr,rfl⟩:=Kd.R_slice hRr
  have HRL:=zz31 hRr
  have HBr:=zz31 (Nat.le_trans hB HFr.out.size)
  have f1:=zz9 HXr.out 0
  have f2:=zz10 HXr.out 0
  simp only [List.getElem?_toArray,List.getElem?_cons_zero] at f1
  clear hL hRr
  by_cases hlt:L.length≤cs.length
  ·have hltz:(L.length:Int)≤(cs.length:Int):=by omega
   have HLEN:=zz31 hlen
   have HLc:=zz31 (show (L.length+1) * 8≤140737488355328 from by omega)
   have HNO:=zz31 (show ∀ k,(Value.slice Ar L.length cr).ownBlock=some k→k ≠ bo from fun k hk=>HRL.out.1 k hk)
   have HLT:=zz31 (blk_lt HXr.out)
   obtain ⟨L1,hL1⟩:∃ L1,L1=L ++ [0]:=⟨_,rfl⟩
   have HLE:=zz31 hL1
   clear hlen hL1
   go_wp2_with (first | (at_builtin; refine Kd.R_append (Kd.int .i64) (w0 := wr) B0 rfl (.tmp 8) (.tmp 9) 34 3 (.int .i64 0) 8 rfl Tryd.underlying34 info3 rfl (by decide) (by omega) (.slice Ar L.length cr) L 0 [.int .i64 0] (fun k => k ≠ bo) (fun _ => False) rfl rfl ?_ (fun _ hk => hk.elim) ?_ ?_ ?_ ?_ HLc.out ?_; exact rfl; exact (fun k hk => Nat.ne_of_gt (Nat.lt_of_lt_of_le HLT.out hk)); exact HRL.out; exact Below.refl _ _; exact HBr.out; intro v6 w6 ho hb hg hat; rw [← HLE.out] at ho; obtain ⟨A6, c6, rfl⟩ := Kd.R_slice ho; have HX6 : Aside0 (w6.heap[bo]? = some (.cells #[.slice Ar L.length cr] 34 (0, 0))) := ⟨(hg.block bo HLT.out (fun he => HNO.out _ he.symm rfl)).trans HXr.out⟩; have g1 := zz9 HX6.out 0; have g2 := zz10 HX6.out 0; simp only [List.getElem?_toArray, List.getElem?_cons_zero] at g1; have HR6 := zz31 ho; have HG6 := zz31 hg; have HA6 := zz31 hat; clear ho hb hg hat) | (fail "no arm"))
   have HF2:=zz31 (fr_put (Below.refl wr.heap.size wr) HG6.out HA6.out HLT.out)
   have HX2:Aside0 ((w6.setCell ⟨bo,0,none⟩ (.slice A6 L1.length c6)).heap[bo]?=some (.cells #[.slice A6 L1.length c6] 34 (0,0))):=⟨blk_set HX6.out 0 _⟩
   have HR2:=zz31 (Kd.R_far HR6.out (fun k hk he=>hk he) (.slice A6 L1.length c6) (p:=⟨bo,0,none⟩))
   clear g1 g2 f1 f2
   go_roundg (cs.length+1 - s.length - (q+1))
   case measure=>have:=HLEN.out;omega
   case rel=>exact ⟨q+1,.slice A6 L1.length c6,by have:=HLEN.out;omega,by omega,⟨by (with_reducible repeat (first | refine zz6 ?_ _ | refine zz7 ?_));exact HX2.out⟩,⟨by rw [padN_succ,← HL.out,← HLE.out];(with_reducible repeat (first | refine zz13 ?_ _ | refine zz14 ?_));exact HR2.out⟩,⟨HFr.out.trans (HF2.out.trans (Fr.of_below _ (by repeat first | exact Below.refl _ _ | apply zz0 | apply below_drew)))⟩⟩
  ·have hltz:¬ (L.length:Int)≤(cs.length:Int):=by omega
   have hlt2:(cs.length:Int) < (L.length:Int):=by omega
   have hge2:(0:Int)≤(cs.length:Int):=by omega
   have hq1:q=cs.length+1 - s.length:=by omega
   obtain ⟨g,cap,ev,hgb,hgl,cl,HG⟩:=Kd.R_form HRL.out (by omega)
   simp only [Value.slice.injEq,true_and] at ev
   obtain ⟨rfl,rfl⟩:=ev
   obtain ⟨ad,e1,hcell⟩:=Kd.at_int (Kd.R_reads' HRL.out).2.2 (cs.length:Int) hge2 hlt2
   cases e1
   obtain ⟨y,hy⟩:∃ y,y=rd L (cs.length:Int):=⟨_,rfl⟩
   rw [← hy] at hcell
   have ea:∀ n:Nat,(⟨g,0,none⟩:Addr).add n=⟨g,n,none⟩:=fun n=>by unfold Addr.add;split <;> simp_all
   rw [Int.toNat_natCast,ea] at hcell
   have hcell2:wr.cell? ⟨g,cs.length,none⟩=some (.int .i64 y):=hcell
   clear ea
   have hfz:=zz10 HG cs.length
   have HY:=zz31 hy
   have HQ:=zz31 hq1
   have HLEN:=zz31 hlen
   have HNB:=zz31 (show g ≠ bo from HRL.out.1 g rfl)
   have HPUT:=zz31 (Kd.R_put HRL.out (cs.length:Int) (wrap64 (y+1))).1
   clear hlen hq1 hy hcell HG hgb hgl
   go_wp2
   refine bodyPost_end (results_none rfl _ _ _) rfl ⟨rfl,ownV bo (.slice (some ⟨g,0,none⟩) L.length cr),?_,?_⟩
   ·have e2:numStep s cs=L.set cs.length (wrap64 (y+1)):=by
     unfold numStep
     rw [← HQ.out,← HL.out,← HY.out]
    refine ⟨h1,h2,?_,_,rfl,blk_far HXr.out (p:=⟨g,cs.length,none⟩) (fun h=>HNB.out h.symm) _,?_⟩
    ·rw [e2,List.length_set];have:=HLEN.out;have:=HQ.out;omega
    ·rw [e2];exact HPUT.out
   ·refine HFr.out.trans ⟨rfl,rfl,rfl,by simp [World.setCell],fun i hi hn=>?_,fun i hi=>.inl hi⟩
    rw [Below.heap_setCell _ _ _ i (fun he=>hn (.inr (by rw [he];rfl)))]
theorem frozen_at (W:World) (o:Obj) (c:Array Value) (e:Nat):((W.alloc o).alloc (.cells c e)).frozen? ⟨W.heap.size+1,0,none⟩=false:=by
 have e1:(W.alloc o).heap.size=W.heap.size+1:=by simp
 rw [← e1];exact frozen_new _ _ _ 0
theorem nums_new (W:World) (B0:Nat) (hB:B0≤W.heap.size):Below W.heap.size W ((W.alloc (.cells #[] 3)).alloc (.cells #[.slice (some ⟨W.heap.size,0,none⟩) 0 0] 34))∧((W.alloc (.cells #[] 3)).alloc (.cells #[.slice (some ⟨W.heap.size,0,none⟩) 0 0] 34)).heap[W.heap.size+1]?=some (.cells #[.slice (some ⟨W.heap.size,0,none⟩) 0 0] 34 (0,0)) ∧
  (Kd.int .i64).R 3 ((W.alloc (.cells #[] 3)).alloc (.cells #[.slice (some ⟨W.heap.size,0,none⟩) 0 0] 34)) B0 (fun k=>k ≠ W.heap.size+1) (.slice (some ⟨W.heap.size,0,none⟩) 0 0) []:=by
 have e:(W.alloc (.cells #[] 3)).heap.size=W.heap.size+1:=by simp
 have b1:=blk_new (W.alloc (.cells #[] 3)) (.cells #[.slice (some ⟨W.heap.size,0,none⟩) 0 0] 34)
 rw [e] at b1
 exact ⟨zz2 (zz2 (Below.refl _ _) _) _,b1,zz12 (R_lit0 rfl hB (by omega)) _⟩
theorem row_above {k:IntKind} {e base n c B:Nat} {ok:Nat→Prop} {W:World} {A:Option Addr} {xs:List Int} (h:Kd.R (Kd.int k) e W base ok (.slice A n c) xs) (hB:B < base):∀ ad,A=some ad→B < ad.block:=by
 intro ad e1
 subst e1
 have:=Kd.R_base h ad.block rfl
 omega
def impl_GroupNumbers.f (k:Nat) (a0_0:Int) (l0_1:List (S74)):Option (List Int × Bool) :=
 (impl_IsParty.f k a0_0 l0_1).bind fun ok=>if ok=true then (impl_Party_table.f k a0_0 l0_1).bind fun t=>if t.length≤12∧gokB t 17 (fullOf t)=true then some ((grs t 17 [] (fullOf t)).foldl numStep [],true) else none else some ([],false)
theorem impl_GroupNumbers.mono:∀ a0 a1 k,LeO (impl_GroupNumbers.f k a0 a1) (impl_GroupNumbers.f (k+1) a0 a1):=by
 intro a0 a1 k
 unfold impl_GroupNumbers.f
 refine LeO.bind (impl_IsParty.mono _ _ _) fun ok=>LeO.ite (LeO.bind (impl_Party_table.mono _ _ _) fun t=>LeO.refl _) (LeO.refl _)
set_option maxHeartbeats 4000000 in
set_option maxRecDepth 100000 in
theorem impl_GroupNumbers.calls (k:Nat) (a0_0:Int) (A0_1:Option Addr) (c0_1:Nat) (l0_1:List (S74)) (r1:List Int) (r2:Bool) (w:World) (hr0_1:Kd.C k74 w A0_1 l0_1.length l0_1) (hc0_1:l0_1.length≤c0_1) (h:impl_GroupNumbers.f k a0_0 l0_1=some (r1,r2)) (hT:Tz w) :
  Calls Tryd.prog 17 #[.agg #[.int .i64 a0_0,.slice A0_1 l0_1.length c0_1]] w fun e w'=>∃ v0_:Value,e=.returned (.tuple #[v0_,.bool r2])∧Kd.R (Kd.int .i64) 3 w' w.heap.size (fun _=>True) v0_ r1∧Below w.heap.size w w':=by
 have hu:=Tryd.underlying30
 unfold impl_GroupNumbers.f at h
 obtain ⟨ok,hok,h⟩:=zz30.1 h
 have HOK:=zz31 hok
 have HCC:=zz31 hc0_1
 have HC1:=zz31 (zz18 hr0_1 (.cells #[.int .i64 a0_0,.slice A0_1 l0_1.length c0_1] 30))
 have HB1:Aside0 (Below w.heap.size w (w.alloc (.cells #[.int .i64 a0_0,.slice A0_1 l0_1.length c0_1] 30))):=⟨zz2 (Below.refl _ _) _⟩
 have HX1:=zz31 (blk_new w (.cells #[.int .i64 a0_0,.slice A0_1 l0_1.length c0_1] 30))
 have HTz:=zz31 hT
 clear hok hr0_1 hc0_1 hT
 cases ok with
 | false =>
  rw [if_neg (by simp)] at h
  simp only [Option.some.injEq,Prod.mk.injEq] at h
  obtain ⟨rfl,rfl⟩:=h
  go_enter Tryd.func17,Tryd.ntmps17
  go_wp2_with (first | (go_at_call 35; refine (impl_IsParty.calls k a0_0 A0_1 c0_1 l0_1 false _ HC1.out HCC.out HOK.out).mono ?_; rintro e w3 ⟨rfl, hb⟩; have HB3 := zz31 (zz4 HB1.out hb); clear hb) | (fail "no arm"))
  refine bodyPost_ret (results_tmp2 rfl _ _ _) rfl ?_
  exact ⟨.slice none 0 0,rfl,Kd.R_nil _ _ _ _ _,HB3.out⟩
 | true =>
  rw [if_pos rfl] at h
  obtain ⟨t,ht,h⟩:=zz30.1 h
  split at h
  case isFalse=>simp at h
  rename_i hcond
  simp only [Option.some.injEq,Prod.mk.injEq] at h
  obtain ⟨h1,rfl⟩:=h
  have HT:=zz31 ht
  have CG:Aside0 (∀ (Wx:World) (At:Option Addr) (ct n3:Nat),Below w.heap.size w Wx→w.heap.size≤n3→Wx.heap[n3+1]?=some (.cells #[.slice (some ⟨n3,0,none⟩) 0 0] 34 (0,0))→(Kd.int .i64).R 3 Wx w.heap.size (fun k=>k ≠ n3+1) (.slice (some ⟨n3,0,none⟩) 0 0) []→Kd.C (Kd.int .u16) Wx At t.length t→t.length≤ct→(∀ ad,At=some ad→n3+1 < ad.block) →
    Calls Tryd.prog 38 #[.slice At t.length ct,.func (.func 48) #[] #[.pointer (some ⟨n3+1,0,none⟩)]] Wx fun e W'=>e=.returned (.tuple #[])∧∃ v,W'.cell? ⟨n3+1,0,none⟩=some v∧Kd.R (Kd.int .i64) 3 W' w.heap.size (fun _=>True) v r1∧Below w.heap.size w W'):=⟨fun Wx At ct n3 hb hn3 hcell hR hC hct hap=>by
   have hz:=HTz.out.pos
   have hs:NumI w.heap.size (n3+1) [] (ownV (n3+1) (.slice (some ⟨n3,0,none⟩) 0 0)) Wx:=⟨hz,by omega,by simp,_,rfl,hcell,hR⟩
   exact (groups_calls (List Int) 48 #[.pointer (some ⟨n3+1,0,none⟩)] (fun _ _=>rfl) w.heap.size (NumI w.heap.size (n3+1)) numStep (nums_each _ _) (fun _ _ _ _ h hb=>h.below hb) (fun _ _ _ h=>h.lt) (fun _ _ _ h=>h.tab) t hcond.1 At ct [] _ Wx ⟨hC,fun ad e _ h=>by
    have:=hap ad e
    rcases h with h | h
    ·omega
    ·simp only [Value.ownBlock,Option.some.injEq] at h;omega⟩ hct hcond.2 (HTz.out.below hb) hs hb.size).mono fun e W' ⟨g1,own',g2,g3⟩=>by
    rw [h1] at g2
    obtain ⟨p1,p2,p3,v,p4,p5,p6⟩:=g2
    exact ⟨g1,v,zz9 p5 0,Kd.R_mono p6 (fun _ _=>trivial),hb.trans (g3.below hb.size (fun i hi=>by
     rcases hi with hi | hi
     ·omega
     ·simp only [Value.ownBlock,Option.some.injEq] at hi;omega))⟩⟩
  clear ht h1 hcond
  go_enter Tryd.func17,Tryd.ntmps17
  go_wp2_with (first | (go_at_call 35; refine (impl_IsParty.calls k a0_0 A0_1 c0_1 l0_1 true _ HC1.out HCC.out HOK.out).mono ?_; rintro e w3 ⟨rfl, hb⟩; have HB3 := zz31 (zz4 HB1.out hb); have HX3 := zz31 (zz11 HX1.out hb); have HC3 := zz31 (Kd.C_below HC1.out hb); have hc0 : w3.cell? ⟨w.heap.size, 0, none⟩ = some (.int .i64 a0_0) := zz9 HX3.out 0; have hc1 : w3.cell? ⟨w.heap.size, 1, none⟩ = some (.slice A0_1 l0_1.length c0_1) := zz9 HX3.out 1; have hf1 : ((w3.alloc (.cells #[] 3)).alloc (.cells #[.slice none 0 0] 34)).frozen? ⟨w3.heap.size + 1, 0, none⟩ = false := frozen_at w3 _ _ _; have HW := zz31 (nums_new w3 w.heap.size HB3.out.size); have hd0 : ((w3.alloc (.cells #[] 3)).alloc (.cells #[.slice (some ⟨w3.heap.size, 0, none⟩) 0 0] 34)).cell? ⟨w.heap.size, 0, none⟩ = some (.int .i64 a0_0) := zz9 (zz8 (zz8 HX3.out _) _) 0; have hd1 : ((w3.alloc (.cells #[] 3)).alloc (.cells #[.slice (some ⟨w3.heap.size, 0, none⟩) 0 0] 34)).cell? ⟨w.heap.size, 1, none⟩ = some (.slice A0_1 l0_1.length c0_1) := zz9 (zz8 (zz8 HX3.out _) _) 1; clear hb) | (go_at_call 37; refine (impl_Party_table.calls k a0_0 A0_1 c0_1 l0_1 t _ (zz18 (zz18 HC3.out _) _) HCC.out HT.out).mono ?_; rintro e w5 ⟨vt, rfl, ho, hb⟩; obtain ⟨At, ct, rfl⟩ := Kd.R_slice ho; have HB5 := zz31 (zz4 (HB3.out.trans (HW.out.1.mono HB3.out.size)) hb); have HM5 := zz31 (zz11 HW.out.2.1 hb); have HN5 := zz31 (Kd.R_below HW.out.2.2 hb); have HR5 := zz31 ho; clear ho hb) | (go_at_call 38; refine (CG.out _ At ct w3.heap.size HB5.out HB3.out.size HM5.out HN5.out (Kd.R_reads' HR5.out).2.2 (Kd.R_reads' HR5.out).2.1 ?_).mono ?_; exact row_above HR5.out (by simp); rintro e w6 ⟨rfl, v6, hm6, hr6, hb6⟩; have HR6 := zz31 hr6; have HB6 := zz31 hb6; clear hr6 hb6) | (fail "no arm"))
  refine bodyPost_ret (results_tmp2 rfl _ _ _) rfl ?_
  exact ⟨v6,rfl,Kd.R_below HR6.out (by repeat first | exact Below.refl _ _ | apply zz0 | apply below_drew),HB6.out.trans (by repeat first | exact (Below.refl _ _).mono HB6.out.size | apply zz0 | apply below_drew)⟩

/-! ### laws_FnExactGroupNumbers: function 5 -/
mutual
def laws_FnExactGroupNumbers.j0:Nat→List Int→Bool→List Int→Bool→Bool→Int→List (S79)→Int→List (S74)→Option (Bool)
 | 0,_,_,_,_,_,_,_,_,_=>none
 | k+1,x4,x5,x7,x8,x40,x314000,x314001,x328000,x328001=>if x40=true then (some false) else ((laws_toParty.f k x314000 x314001).bind fun bt333=>((laws_eqParty.f k x328000 x328001 bt333.1 bt333.2).bind fun t337=>(if t337=true then ((laws_markParty.f k x328000 x328001 1).bind fun bt338=>(if bt338.1 < 0 then (laws_FnExactGroupNumbers.j1 k x4 x5 x7 true x314000 x314001) else ((laws_eqIntS.f k x7 x4).bind fun t340=>(if t340=true then (laws_FnExactGroupNumbers.j1 k x4 x5 x7 (x8 != x5) x314000 x314001) else (laws_FnExactGroupNumbers.j1 k x4 x5 x7 true x314000 x314001))))) else (some false))))
def laws_FnExactGroupNumbers.j1:Nat→List Int→Bool→List Int→Bool→Int→List (S79)→Option (Bool)
 | 0,_,_,_,_,_,_=>none
 | k+1,x4,x5,x7,x61,x314000,x314001=>if x61=true then (some false) else ((laws_markIntS.f k x7 1).bind fun bt341=>((laws_heldIntS.f k bt341.2 1).bind fun t343=>(if t343 < 0 then (some false) else (if t343=bt341.1 then ((laws_toParty.f k x314000 x314001).bind fun bt344=>((impl_GroupNumbers.f k bt344.1 bt344.2).bind fun bt348=>((laws_eqIntS.f k bt348.1 x4).bind fun t352=>(if t352=true then (laws_FnExactGroupNumbers.j2 k bt341.2 bt341.1 (bt348.2 != x5)) else (laws_FnExactGroupNumbers.j2 k bt341.2 bt341.1 true))))) else (some false)))))
def laws_FnExactGroupNumbers.j2:Nat→List Int→Int→Bool→Option (Bool)
 | 0,_,_,_=>none
 | k+1,x7,x10,x87=>if x87=true then (some false) else ((laws_heldIntS.f k x7 1).bind fun t353=>(if t353 < 0 then (some false) else (if t353=x10 then (some true) else (some false))))
end
def laws_FnExactGroupNumbers.f (k:Nat) (a0_0:Int) (l0_1:List (S79)):Option (Bool):=(laws_szParty.f a0_0 l0_1 1048576).bind fun t314=>(if t314 < 0 then (some true) else ((laws_toParty.f k a0_0 l0_1).bind fun bt315=>((spec_GroupNumbers.f k bt315.1 bt315.2).bind fun bt319=>((laws_toParty.f k a0_0 l0_1).bind fun bt323=>((impl_GroupNumbers.f k bt323.1 bt323.2).bind fun bt328=>((laws_eqIntS.f k bt328.1 bt319.1).bind fun t332=>(if t332=true then (laws_FnExactGroupNumbers.j0 k bt319.1 bt319.2 bt328.1 bt328.2 (bt328.2 != bt319.2) a0_0 l0_1 bt323.1 bt323.2) else (laws_FnExactGroupNumbers.j0 k bt319.1 bt319.2 bt328.1 bt328.2 true a0_0 l0_1 bt323.1 bt323.2))))))))
theorem laws_FnExactGroupNumbers.mono_l:∀ k,(∀ y0 y1 y2 y3 y4 y5 y6 y7 y8,LeO (laws_FnExactGroupNumbers.j0 k y0 y1 y2 y3 y4 y5 y6 y7 y8) (laws_FnExactGroupNumbers.j0 (k+1) y0 y1 y2 y3 y4 y5 y6 y7 y8))∧(∀ y0 y1 y2 y3 y4 y5,LeO (laws_FnExactGroupNumbers.j1 k y0 y1 y2 y3 y4 y5) (laws_FnExactGroupNumbers.j1 (k+1) y0 y1 y2 y3 y4 y5))∧(∀ y0 y1 y2,LeO (laws_FnExactGroupNumbers.j2 k y0 y1 y2) (laws_FnExactGroupNumbers.j2 (k+1) y0 y1 y2))
 | 0=>⟨fun _ _ _ _ _ _ _ _ _ r h=>by simp [laws_FnExactGroupNumbers.j0] at h,fun _ _ _ _ _ _ r h=>by simp [laws_FnExactGroupNumbers.j1] at h,fun _ _ _ r h=>by simp [laws_FnExactGroupNumbers.j2] at h⟩
 | k+1=>by
  obtain ⟨ih0,ih1,ih2⟩:=laws_FnExactGroupNumbers.mono_l k
  refine ⟨?_,?_,?_⟩
  ·intro y0 y1 y2 y3 y4 y5 y6 y7 y8
   unfold laws_FnExactGroupNumbers.j0
   repeat' first
   | (with_reducible exact ih0 _ _ _ _ _ _ _ _ _)
   | (with_reducible exact ih1 _ _ _ _ _ _)
   | (with_reducible exact ih2 _ _ _)
   | (with_reducible exact impl_GroupNumbers.mono _ _ _)
   | (with_reducible exact laws_eqIntS.mono _ _ _)
   | (with_reducible exact laws_eqParty.mono _ _ _ _ _)
   | (with_reducible exact laws_heldIntS.mono _ _ _)
   | (with_reducible exact laws_markIntS.mono _ _ _)
   | (with_reducible exact laws_markParty.mono _ _ _ _)
   | (with_reducible exact laws_toParty.mono _ _ _)
   | (with_reducible exact spec_GroupNumbers.mono _ _ _)
   | (with_reducible exact LeO.refl _)
   | (with_reducible exact LeO.none _)
   | (with_reducible refine LeO.ite ?_ ?_)
   | (with_reducible refine LeO.bind ?_ (fun _=>?_))
   | exact ih0 _ _ _ _ _ _ _ _ _
   | exact ih1 _ _ _ _ _ _
   | exact ih2 _ _ _
   | exact impl_GroupNumbers.mono _ _ _
   | exact laws_eqIntS.mono _ _ _
   | exact laws_eqParty.mono _ _ _ _ _
   | exact laws_heldIntS.mono _ _ _
   | exact laws_markIntS.mono _ _ _
   | exact laws_markParty.mono _ _ _ _
   | exact laws_toParty.mono _ _ _
   | exact spec_GroupNumbers.mono _ _ _
   | exact LeO.none _
   | refine LeO.ite ?_ ?_
   | refine LeO.bind ?_ (fun _=>?_)
  ·intro y0 y1 y2 y3 y4 y5
   unfold laws_FnExactGroupNumbers.j1
   repeat' first
   | (with_reducible exact ih0 _ _ _ _ _ _ _ _ _)
   | (with_reducible exact ih1 _ _ _ _ _ _)
   | (with_reducible exact ih2 _ _ _)
   | (with_reducible exact impl_GroupNumbers.mono _ _ _)
   | (with_reducible exact laws_eqIntS.mono _ _ _)
   | (with_reducible exact laws_eqParty.mono _ _ _ _ _)
   | (with_reducible exact laws_heldIntS.mono _ _ _)
   | (with_reducible exact laws_markIntS.mono _ _ _)
   | (with_reducible exact laws_markParty.mono _ _ _ _)
   | (with_reducible exact laws_toParty.mono _ _ _)
   | (with_reducible exact spec_GroupNumbers.mono _ _ _)
   | (with_reducible exact LeO.refl _)
   | (with_reducible exact LeO.none _)
   | (with_reducible refine LeO.ite ?_ ?_)
   | (with_reducible refine LeO.bind ?_ (fun _=>?_))
   | exact ih0 _ _ _ _ _ _ _ _ _
   | exact ih1 _ _ _ _ _ _
   | exact ih2 _ _ _
   | exact impl_GroupNumbers.mono _ _ _
   | exact laws_eqIntS.mono _ _ _
   | exact laws_eqParty.mono _ _ _ _ _
   | exact laws_heldIntS.mono _ _ _
   | exact laws_markIntS.mono _ _ _
   | exact laws_markParty.mono _ _ _ _
   | exact laws_toParty.mono _ _ _
   | exact spec_GroupNumbers.mono _ _ _
   | exact LeO.none _
   | refine LeO.ite ?_ ?_
   | refine LeO.bind ?_ (fun _=>?_)
  ·intro y0 y1 y2
   unfold laws_FnExactGroupNumbers.j2
   repeat' first
   | (with_reducible exact ih0 _ _ _ _ _ _ _ _ _)
   | (with_reducible exact ih1 _ _ _ _ _ _)
   | (with_reducible exact ih2 _ _ _)
   | (with_reducible exact impl_GroupNumbers.mono _ _ _)
   | (with_reducible exact laws_eqIntS.mono _ _ _)
   | (with_reducible exact laws_eqParty.mono _ _ _ _ _)
   | (with_reducible exact laws_heldIntS.mono _ _ _)
   | (with_reducible exact laws_markIntS.mono _ _ _)
   | (with_reducible exact laws_markParty.mono _ _ _ _)
   | (with_reducible exact laws_toParty.mono _ _ _)
   | (with_reducible exact spec_GroupNumbers.mono _ _ _)
   | (with_reducible exact LeO.refl _)
   | (with_reducible exact LeO.none _)
   | (with_reducible refine LeO.ite ?_ ?_)
   | (with_reducible refine LeO.bind ?_ (fun _=>?_))
   | exact ih0 _ _ _ _ _ _ _ _ _
   | exact ih1 _ _ _ _ _ _
   | exact ih2 _ _ _
   | exact impl_GroupNumbers.mono _ _ _
   | exact laws_eqIntS.mono _ _ _
   | exact laws_eqParty.mono _ _ _ _ _
   | exact laws_heldIntS.mono _ _ _
   | exact laws_markIntS.mono _ _ _
   | exact laws_markParty.mono _ _ _ _
   | exact laws_toParty.mono _ _ _
   | exact spec_GroupNumbers.mono _ _ _
   | exact LeO.none _
   | refine LeO.ite ?_ ?_
   | refine LeO.bind ?_ (fun _=>?_)
theorem laws_FnExactGroupNumbers.mono:∀ a0 a1 k,LeO (laws_FnExactGroupNumbers.f k a0 a1) (laws_FnExactGroupNumbers.f (k+1) a0 a1):=by
 intro a0 a1 k
 obtain ⟨ih0,ih1,ih2⟩:=laws_FnExactGroupNumbers.mono_l k
 unfold laws_FnExactGroupNumbers.f
 repeat' first
   | (with_reducible exact ih0 _ _ _ _ _ _ _ _ _)
   | (with_reducible exact ih1 _ _ _ _ _ _)
   | (with_reducible exact ih2 _ _ _)
   | (with_reducible exact impl_GroupNumbers.mono _ _ _)
   | (with_reducible exact laws_eqIntS.mono _ _ _)
   | (with_reducible exact laws_eqParty.mono _ _ _ _ _)
   | (with_reducible exact laws_heldIntS.mono _ _ _)
   | (with_reducible exact laws_markIntS.mono _ _ _)
   | (with_reducible exact laws_markParty.mono _ _ _ _)
   | (with_reducible exact laws_toParty.mono _ _ _)
   | (with_reducible exact spec_GroupNumbers.mono _ _ _)
   | (with_reducible exact LeO.refl _)
   | (with_reducible exact LeO.none _)
   | (with_reducible refine LeO.ite ?_ ?_)
   | (with_reducible refine LeO.bind ?_ (fun _=>?_))
   | exact ih0 _ _ _ _ _ _ _ _ _
   | exact ih1 _ _ _ _ _ _
   | exact ih2 _ _ _
   | exact impl_GroupNumbers.mono _ _ _
   | exact laws_eqIntS.mono _ _ _
   | exact laws_eqParty.mono _ _ _ _ _
   | exact laws_heldIntS.mono _ _ _
   | exact laws_markIntS.mono _ _ _
   | exact laws_markParty.mono _ _ _ _
   | exact laws_toParty.mono _ _ _
   | exact spec_GroupNumbers.mono _ _ _
   | exact LeO.none _
   | refine LeO.ite ?_ ?_
   | refine LeO.bind ?_ (fun _=>?_)
set_option maxHeartbeats 8000000 in
set_option maxRecDepth 100000 in
theorem laws_FnExactGroupNumbers.calls (k:Nat) (a0_0:Int) (A0_1:Option Addr) (c0_1:Nat) (l0_1:List (S79)) (r:Bool) (w:World) (hr0_1:Kd.C k79 w A0_1 l0_1.length l0_1) (hc0_1:l0_1.length≤c0_1) (h:laws_FnExactGroupNumbers.f k a0_0 l0_1=some r) (hT:Tz w) :
  Calls Tryd.prog 5 #[.agg #[.int .i64 a0_0,.slice A0_1 l0_1.length c0_1]] w fun e w'=>e=.returned (.bool r)∧Below w.heap.size w w':=by
 have hu24:=Tryd.underlying24
 have hu30:=Tryd.underlying30
 have HR0_1:=zz31 hr0_1
 have HC0_1:=zz31 hc0_1
 clear hr0_1 hc0_1
 have HB:=zz31 (Below.refl w.heap.size w)
 have HT:=zz31 hT
 clear hT
 have H:((laws_szParty.f a0_0 l0_1 1048576).bind fun t314=>(if t314 < 0 then (some true) else ((laws_toParty.f k a0_0 l0_1).bind fun bt315=>((spec_GroupNumbers.f k bt315.1 bt315.2).bind fun bt319=>((laws_toParty.f k a0_0 l0_1).bind fun bt323=>((impl_GroupNumbers.f k bt323.1 bt323.2).bind fun bt328=>((laws_eqIntS.f k bt328.1 bt319.1).bind fun t332=>(if t332=true then (laws_FnExactGroupNumbers.j0 k bt319.1 bt319.2 bt328.1 bt328.2 (bt328.2 != bt319.2) a0_0 l0_1 bt323.1 bt323.2) else (laws_FnExactGroupNumbers.j0 k bt319.1 bt319.2 bt328.1 bt328.2 true a0_0 l0_1 bt323.1 bt323.2)))))))))=some r:=h
 clear h
 replace H:=zz30.mp H
 obtain ⟨t314,A20,H⟩:=H
 replace H:(if t314 < 0 then (some true) else ((laws_toParty.f k a0_0 l0_1).bind fun bt315=>((spec_GroupNumbers.f k bt315.1 bt315.2).bind fun bt319=>((laws_toParty.f k a0_0 l0_1).bind fun bt323=>((impl_GroupNumbers.f k bt323.1 bt323.2).bind fun bt328=>((laws_eqIntS.f k bt328.1 bt319.1).bind fun t332=>(if t332=true then (laws_FnExactGroupNumbers.j0 k bt319.1 bt319.2 bt328.1 bt328.2 (bt328.2 != bt319.2) a0_0 l0_1 bt323.1 bt323.2) else (laws_FnExactGroupNumbers.j0 k bt319.1 bt319.2 bt328.1 bt328.2 true a0_0 l0_1 bt323.1 bt323.2))))))))=some r:=H
 have A2:=zz31 A20
 clear A20
 by_cases c3:t314 < 0
 ·rw [if_pos c3] at H
  have c3b0:decide (t314 < 0)=true:=decide_eq_true c3
  clear c3
  obtain rfl:=Option.some.inj H
  go_enter Tryd.func5,Tryd.ntmps5
  go_wp2_with (first | ((with_reducible refine gate_dst (N:=1) rfl ?_);refine box_event ?hg (N:=1) ?hd (cs:=#[.int .i64 a0_0,.slice A0_1 l0_1.length c0_1]) (t:=24) ?hr ?_;(case hd=>rfl);(case hg=>rfl);(case hr=>first | (go_simp;done) | (go_simp;rfl));intro gb313 hg w4 hbox hb;have n0_:=zz31 (zz4 (by repeat first | exact HB.out | apply zz2 | apply zz0 | apply zz1) hb);have n1_:=zz31 (hbox);have n2_:=zz31 ((by rw [hg];exact (zz5 (by repeat first | exact HB.out | apply zz2 | apply zz0 | apply zz1)):w.heap.size≤gb313));have n3_:=zz31 ((by rw [hg];exact (zz5 (by repeat first | exact HB.out | apply zz2 | apply zz0 | apply zz1)):w.heap.size≤gb313));clear HB;have HB:=n0_;have BK313:=n1_;have GW313:=n2_;have GE313:=n3_;clear n0_ n1_ n2_ n3_;clear hb hbox hg;have hcz5_0:w4.cell? ⟨gb313,0,none⟩=some (.int .i64 a0_0):=(zz9 BK313.out 0).trans rfl;have hcz5_1:w4.cell? ⟨gb313,1,none⟩=some (.slice A0_1 l0_1.length c0_1):=(zz9 BK313.out 1).trans rfl;have hfz5_0:=zz10 BK313.out 0;have hfz5_1:=zz10 BK313.out 1) | ((with_reducible refine gate_callee (f:=9) rfl ?_);refine goesL_ (some 16) rfl rfl Tryd.func9 (by kernel_rfl) rfl #[.agg #[.int .i64 a0_0,.slice A0_1 l0_1.length c0_1],.int .i64 1048576] rfl (by (try simp only [zz26,zz27,zz28]);first | done | rfl | (simp only [zz24,zz25];rfl)) ?_;(with_reducible refine (laws_szParty.calls a0_0 _ _ l0_1 1048576 t314 _ ?side1 ?side2 A2.out).mono ?_);(case side1=>repeat (first | exact (Kd.C_below HR0_1.out HB.out) | (with_reducible refine zz18 ?_ _) | (with_reducible refine zz19 ?_ _) | (with_reducible refine zz20 ?_)));(case side2=>exact HC0_1.out);rintro e w6 ⟨rfl,hb⟩;refine ⟨_,rfl,?_⟩;have n0_:=zz31 (zz11 (g:=gb313) (o:=.cells #[.int .i64 a0_0,.slice A0_1 l0_1.length c0_1] 24 (0,0)) (by (with_reducible repeat (first | refine zz6 ?_ _ | refine zz7 ?_ | refine zz8 ?_ _));exact BK313.out) hb);have n1_:=zz31 (zz4 (by repeat first | exact HB.out | apply zz2 | apply zz0 | apply zz1 | refine zz3 ?_ GE313.out) hb);clear BK313;clear HB;have BK313:=n0_;have HB:=n1_;clear n0_ n1_;(try clear hb);(try clear hb2);(try clear hk);(try clear hi)))
  go_ret
  exact ⟨by first | rfl | (simp [errW_none,errW_some] <;> rfl) | (simp [*,errW_none,errW_some] <;> rfl),by repeat first | exact HB.out | apply zz2 | apply zz0 | apply zz1 | refine zz3 ?_ GE313.out⟩
 ·rw [if_neg c3] at H
  have c3b0:decide (t314 < 0)=false:=decide_eq_false c3
  clear c3
  replace H:=zz30.mp H
  obtain ⟨⟨t315,t316⟩,A70,H⟩:=H
  replace H:((spec_GroupNumbers.f k t315 t316).bind fun bt319=>((laws_toParty.f k a0_0 l0_1).bind fun bt323=>((impl_GroupNumbers.f k bt323.1 bt323.2).bind fun bt328=>((laws_eqIntS.f k bt328.1 bt319.1).bind fun t332=>(if t332=true then (laws_FnExactGroupNumbers.j0 k bt319.1 bt319.2 bt328.1 bt328.2 (bt328.2 != bt319.2) a0_0 l0_1 bt323.1 bt323.2) else (laws_FnExactGroupNumbers.j0 k bt319.1 bt319.2 bt328.1 bt328.2 true a0_0 l0_1 bt323.1 bt323.2))))))=some r:=H
  have A7:=zz31 A70
  clear A70
  replace H:=zz30.mp H
  obtain ⟨⟨t319,t322⟩,A80,H⟩:=H
  replace H:((laws_toParty.f k a0_0 l0_1).bind fun bt323=>((impl_GroupNumbers.f k bt323.1 bt323.2).bind fun bt328=>((laws_eqIntS.f k bt328.1 t319).bind fun t332=>(if t332=true then (laws_FnExactGroupNumbers.j0 k t319 t322 bt328.1 bt328.2 (bt328.2 != t322) a0_0 l0_1 bt323.1 bt323.2) else (laws_FnExactGroupNumbers.j0 k t319 t322 bt328.1 bt328.2 true a0_0 l0_1 bt323.1 bt323.2)))))=some r:=H
  have A8:=zz31 A80
  clear A80
  replace H:=zz30.mp H
  obtain ⟨⟨t323,t324⟩,A90,H⟩:=H
  replace H:((impl_GroupNumbers.f k t323 t324).bind fun bt328=>((laws_eqIntS.f k bt328.1 t319).bind fun t332=>(if t332=true then (laws_FnExactGroupNumbers.j0 k t319 t322 bt328.1 bt328.2 (bt328.2 != t322) a0_0 l0_1 t323 t324) else (laws_FnExactGroupNumbers.j0 k t319 t322 bt328.1 bt328.2 true a0_0 l0_1 t323 t324))))=some r:=H
  have A9:=zz31 A90
  clear A90
  replace H:=zz30.mp H
  obtain ⟨⟨t328,t331⟩,A100,H⟩:=H
  replace H:((laws_eqIntS.f k t328 t319).bind fun t332=>(if t332=true then (laws_FnExactGroupNumbers.j0 k t319 t322 t328 t331 (t331 != t322) a0_0 l0_1 t323 t324) else (laws_FnExactGroupNumbers.j0 k t319 t322 t328 t331 true a0_0 l0_1 t323 t324)))=some r:=H
  have A10:=zz31 A100
  clear A100
  have HC11:=zz31 H
  clear H
  go_enter Tryd.func5,Tryd.ntmps5
  go_upto_region 8 with (first | ((with_reducible refine gate_dst (N:=1) rfl ?_);refine box_event ?hg (N:=1) ?hd (cs:=#[.int .i64 a0_0,.slice A0_1 l0_1.length c0_1]) (t:=24) ?hr ?_;(case hd=>rfl);(case hg=>rfl);(case hr=>first | (go_simp;done) | (go_simp;rfl));intro gb313 hg w12 hbox hb;have n0_:=zz31 (zz4 (by repeat first | exact HB.out | apply zz2 | apply zz0 | apply zz1) hb);have n1_:=zz31 (hbox);have n2_:=zz31 ((by rw [hg];exact (zz5 (by repeat first | exact HB.out | apply zz2 | apply zz0 | apply zz1)):w.heap.size≤gb313));have n3_:=zz31 ((by rw [hg];exact (zz5 (by repeat first | exact HB.out | apply zz2 | apply zz0 | apply zz1)):w.heap.size≤gb313));clear HB;have HB:=n0_;have BK313:=n1_;have GW313:=n2_;have GE313:=n3_;clear n0_ n1_ n2_ n3_;clear hb hbox hg;have hcz13_0:w12.cell? ⟨gb313,0,none⟩=some (.int .i64 a0_0):=(zz9 BK313.out 0).trans rfl;have hcz13_1:w12.cell? ⟨gb313,1,none⟩=some (.slice A0_1 l0_1.length c0_1):=(zz9 BK313.out 1).trans rfl;have hfz13_0:=zz10 BK313.out 0;have hfz13_1:=zz10 BK313.out 1) | ((with_reducible refine gate_callee (f:=9) rfl ?_);refine goesL_ (some 16) rfl rfl Tryd.func9 (by kernel_rfl) rfl #[.agg #[.int .i64 a0_0,.slice A0_1 l0_1.length c0_1],.int .i64 1048576] rfl (by (try simp only [zz26,zz27,zz28]);first | done | rfl | (simp only [zz24,zz25];rfl)) ?_;(with_reducible refine (laws_szParty.calls a0_0 _ _ l0_1 1048576 t314 _ ?side1 ?side2 A2.out).mono ?_);(case side1=>repeat (first | exact (Kd.C_below HR0_1.out HB.out) | (with_reducible refine zz18 ?_ _) | (with_reducible refine zz19 ?_ _) | (with_reducible refine zz20 ?_)));(case side2=>exact HC0_1.out);rintro e w14 ⟨rfl,hb⟩;refine ⟨_,rfl,?_⟩;have n0_:=zz31 (zz11 (g:=gb313) (o:=.cells #[.int .i64 a0_0,.slice A0_1 l0_1.length c0_1] 24 (0,0)) (by (with_reducible repeat (first | refine zz6 ?_ _ | refine zz7 ?_ | refine zz8 ?_ _));exact BK313.out) hb);have n1_:=zz31 (zz4 (by repeat first | exact HB.out | apply zz2 | apply zz0 | apply zz1 | refine zz3 ?_ GE313.out) hb);clear BK313;clear HB;have BK313:=n0_;have HB:=n1_;clear n0_ n1_;(try clear hb);(try clear hb2);(try clear hk);(try clear hi);have hcz15_0:w14.cell? ⟨gb313,0,none⟩=some (.int .i64 a0_0):=(zz9 BK313.out 0).trans rfl;have hcz15_1:w14.cell? ⟨gb313,1,none⟩=some (.slice A0_1 l0_1.length c0_1):=(zz9 BK313.out 1).trans rfl;have hfz15_0:=zz10 BK313.out 0;have hfz15_1:=zz10 BK313.out 1) | ((with_reducible refine gate_callee (f:=11) rfl ?_);refine goesL_ (some 21) rfl rfl Tryd.func11 (by kernel_rfl) rfl #[.agg #[.int .i64 a0_0,.slice A0_1 l0_1.length c0_1]] rfl (by (try simp only [zz26,zz27,zz28]);first | done | rfl | (simp only [zz24,zz25];rfl)) ?_;(with_reducible refine (laws_toParty.calls k a0_0 _ _ l0_1 t315 t316 _ ?side1 ?side2 A7.out).mono ?_);(case side1=>repeat (first | exact (Kd.C_below HR0_1.out HB.out) | (with_reducible refine zz18 ?_ _) | (with_reducible refine zz19 ?_ _) | (with_reducible refine zz20 ?_)));(case side2=>exact HC0_1.out);rintro e w16 ⟨v317,rfl,ho0,hb⟩;refine ⟨_,rfl,?_⟩;have n0_:=zz31 (Kd.R_lower ho0 (zz5 (by repeat first | exact HB.out | apply zz2 | apply zz0 | apply zz1 | refine zz3 ?_ GE313.out)));have n1_:=zz31 (zz11 (g:=gb313) (o:=.cells #[.int .i64 a0_0,.slice A0_1 l0_1.length c0_1] 24 (0,0)) (by (with_reducible repeat (first | refine zz6 ?_ _ | refine zz7 ?_ | refine zz8 ?_ _));exact BK313.out) hb);have n2_:=zz31 (zz4 (by repeat first | exact HB.out | apply zz2 | apply zz0 | apply zz1 | refine zz3 ?_ GE313.out) hb);clear BK313;clear HB;have HO318:=n0_;have BK313:=n1_;have HB:=n2_;clear n0_ n1_ n2_;(try clear hb);(try clear hb2);(try clear hk);(try clear hi);(try clear ho0);obtain ⟨Ao17,co17,eo17⟩:=Kd.R_slice HO318.out;subst eo17) | ((with_reducible refine gate_callee (f:=16) rfl ?_);refine goesL_ (some 22) rfl rfl Tryd.func16 (by kernel_rfl) rfl #[.agg #[.int .i64 t315,.slice Ao17 t316.length co17]] rfl (by (try simp only [zz26,zz27,zz28]);first | done | rfl | (simp only [zz24,zz25];rfl)) ?_;(with_reducible refine (spec_GroupNumbers.calls k t315 _ _ t316 t319 t322 _ ?side1 ?side2 A8.out).mono ?_);(case side1=>repeat (first | exact (Kd.R_reads' HO318.out).2.2 | (with_reducible refine zz18 ?_ _) | (with_reducible refine zz19 ?_ _) | (with_reducible refine zz20 ?_)));(case side2=>exact (Kd.R_reads' HO318.out).2.1);rintro e w18 ⟨v320,rfl,ho0,hb⟩;refine ⟨_,rfl,?_⟩;have n0_:=zz31 (Kd.R_below (by (with_reducible repeat (first | apply zz12 | apply zz13 | apply zz14));exact HO318.out) hb);have n1_:=zz31 (Kd.R_lower ho0 (zz5 (by repeat first | exact HB.out | apply zz2 | apply zz0 | apply zz1 | refine zz3 ?_ GE313.out)));have n2_:=zz31 (zz11 (g:=gb313) (o:=.cells #[.int .i64 a0_0,.slice A0_1 l0_1.length c0_1] 24 (0,0)) (by (with_reducible repeat (first | refine zz6 ?_ _ | refine zz7 ?_ | refine zz8 ?_ _));exact BK313.out) hb);have n3_:=zz31 (zz4 (by repeat first | exact HB.out | apply zz2 | apply zz0 | apply zz1 | refine zz3 ?_ GE313.out) hb);clear HO318;clear BK313;clear HB;have HO318:=n0_;have HO321:=n1_;have BK313:=n2_;have HB:=n3_;clear n0_ n1_ n2_ n3_;(try clear hb);(try clear hb2);(try clear hk);(try clear hi);(try clear ho0);have hcz19_0:w18.cell? ⟨gb313,0,none⟩=some (.int .i64 a0_0):=(zz9 BK313.out 0).trans rfl;have hcz19_1:w18.cell? ⟨gb313,1,none⟩=some (.slice A0_1 l0_1.length c0_1):=(zz9 BK313.out 1).trans rfl;have hfz19_0:=zz10 BK313.out 0;have hfz19_1:=zz10 BK313.out 1) | ((with_reducible refine gate_callee (f:=11) rfl ?_);refine goesL_ (some 26) rfl rfl Tryd.func11 (by kernel_rfl) rfl #[.agg #[.int .i64 a0_0,.slice A0_1 l0_1.length c0_1]] rfl (by (try simp only [zz26,zz27,zz28]);first | done | rfl | (simp only [zz24,zz25];rfl)) ?_;(with_reducible refine (laws_toParty.calls k a0_0 _ _ l0_1 t323 t324 _ ?side1 ?side2 A9.out).mono ?_);(case side1=>repeat (first | exact (Kd.C_below HR0_1.out HB.out) | (with_reducible refine zz18 ?_ _) | (with_reducible refine zz19 ?_ _) | (with_reducible refine zz20 ?_)));(case side2=>exact HC0_1.out);rintro e w20 ⟨v325,rfl,ho0,hb⟩;refine ⟨_,rfl,?_⟩;have n0_:=zz31 (Kd.R_elder' (by (with_reducible repeat (first | apply zz12 | apply zz13 | apply zz14));exact HO318.out) (Kd.R_base ho0) hb);have n1_:=zz31 (Kd.R_below (by (with_reducible repeat (first | apply zz12 | apply zz13 | apply zz14));exact HO321.out) hb);have n2_:=zz31 (Kd.R_lower (Kd.R_new' ho0 (Kd.R_lt (by (with_reducible repeat (first | apply zz12 | apply zz13 | apply zz14));exact HO318.out))) (zz5 (by repeat first | exact HB.out | apply zz2 | apply zz0 | apply zz1 | refine zz3 ?_ GE313.out)));have n3_:=zz31 (zz11 (g:=gb313) (o:=.cells #[.int .i64 a0_0,.slice A0_1 l0_1.length c0_1] 24 (0,0)) (by (with_reducible repeat (first | refine zz6 ?_ _ | refine zz7 ?_ | refine zz8 ?_ _));exact BK313.out) hb);have n4_:=zz31 (zz4 (by repeat first | exact HB.out | apply zz2 | apply zz0 | apply zz1 | refine zz3 ?_ GE313.out) hb);clear HO318;clear HO321;clear BK313;clear HB;have HO318:=n0_;have HO321:=n1_;have HO326:=n2_;have BK313:=n3_;have HB:=n4_;clear n0_ n1_ n2_ n3_ n4_;(try clear hb);(try clear hb2);(try clear hk);(try clear hi);(try clear ho0)) | ((with_reducible refine gate_dst (N:=6) rfl ?_);refine box_event ?hg (N:=6) ?hd (cs:=#[.int .i64 0,.slice none 0 0]) (t:=30) ?hr ?_;(case hd=>rfl);(case hg=>rfl);(case hr=>first | (go_simp;done) | (go_simp;rfl));intro gb327 hg w21 hbox hb;have n0_:=zz31 (Kd.R_below (by (with_reducible repeat (first | apply zz12 | apply zz13 | apply zz14));exact HO318.out) hb);have n1_:=zz31 (Kd.R_below (by (with_reducible repeat (first | apply zz12 | apply zz13 | apply zz14));exact HO321.out) hb);have n2_:=zz31 (Kd.R_below (by (with_reducible repeat (first | apply zz12 | apply zz13 | apply zz14));exact HO326.out) hb);have n3_:=zz31 (zz11 (g:=gb313) (o:=.cells #[.int .i64 a0_0,.slice A0_1 l0_1.length c0_1] 24 (0,0)) (by (with_reducible repeat (first | refine zz6 ?_ _ | refine zz7 ?_ | refine zz8 ?_ _));exact BK313.out) hb);have n4_:=zz31 (zz4 (by repeat first | exact HB.out | apply zz2 | apply zz0 | apply zz1 | refine zz3 ?_ GE313.out) hb);have n5_:=zz31 (hbox);have n6_:=zz31 ((by rw [hg];exact (zz5 (by repeat first | exact HB.out | apply zz2 | apply zz0 | apply zz1 | refine zz3 ?_ GE313.out)):w.heap.size≤gb327));have n7_:=zz31 ((by rw [hg];exact (zz5 (by repeat first | exact HB.out | apply zz2 | apply zz0 | apply zz1 | refine zz3 ?_ GE313.out)):w.heap.size≤gb327));have n8_:=zz31 ((by rw [hg];exact Nat.ne_of_lt (blk_lt (g:=gb313) (o:=.cells #[.int .i64 a0_0,.slice A0_1 l0_1.length c0_1] 24 (0,0)) (by (with_reducible repeat (first | refine zz6 ?_ _ | refine zz7 ?_ | refine zz8 ?_ _));exact BK313.out)):gb313 ≠ gb327));have n9_:=zz31 ((by rw [hg];exact Nat.ne_of_gt (blk_lt (g:=gb313) (o:=.cells #[.int .i64 a0_0,.slice A0_1 l0_1.length c0_1] 24 (0,0)) (by (with_reducible repeat (first | refine zz6 ?_ _ | refine zz7 ?_ | refine zz8 ?_ _));exact BK313.out)):gb327 ≠ gb313));clear HO318;clear HO321;clear HO326;clear BK313;clear HB;have HO318:=n0_;have HO321:=n1_;have HO326:=n2_;have BK313:=n3_;have HB:=n4_;have BK327:=n5_;have GW327:=n6_;have GE327:=n7_;have NB313_327:=n8_;have NB327_313:=n9_;clear n0_ n1_ n2_ n3_ n4_ n5_ n6_ n7_ n8_ n9_;clear hb hbox hg;have hnb22:=NB327_313.out;have hnc22:=NB313_327.out;have hcz23_0:w21.cell? ⟨gb327,0,none⟩=some (.int .i64 0):=(zz9 BK327.out 0).trans rfl;have hcz23_1:w21.cell? ⟨gb327,1,none⟩=some (.slice none 0 0):=(zz9 BK327.out 1).trans rfl;have hfz23_0:=zz10 BK327.out 0;have hfz23_1:=zz10 BK327.out 1;obtain ⟨Ao24,co24,eo24⟩:=Kd.R_slice HO326.out;subst eo24) | ((with_reducible refine gate_callee (f:=17) rfl ?_);refine goesL_ (some 29) rfl rfl Tryd.func17 (by kernel_rfl) rfl #[.agg #[.int .i64 t323,.slice Ao24 t324.length co24]] rfl (by (try simp only [zz26,zz27,zz28]);first | done | rfl | (simp only [zz24,zz25];rfl)) ?_;(with_reducible refine (impl_GroupNumbers.calls k t323 _ _ t324 t328 t331 _ ?side1 ?side2 A10.out (HT.out.below (by repeat first | exact HB.out | apply zz2 | apply zz0 | apply zz1 | refine zz3 ?_ GE313.out | refine zz3 ?_ GE327.out))).mono ?_);(case side1=>refine (Kd.R_reads' (e:=74) (base:=w.heap.size) (ok:=fun k_=>(True∧some k_ ≠ (.slice Ao17 t316.length co17:Value).ownBlock)) (n:=t324.length) (c:=co24) ?_).2.2;exact (by (with_reducible repeat (first | apply zz12 | apply zz13 | apply zz14));exact (Kd.R_mono (Kd.R_far (p:=⟨gb327,1,none⟩) (Kd.R_far (p:=⟨gb327,0,none⟩) (Kd.R_types HO326.out BK327.out (by decide)) (fun _ hk=>hk.2) (.int .i64 t323)) (fun _ hk=>hk.2) (.slice Ao24 t324.length co24)) (fun _ h_=>h_.1))));(case side2=>exact (Kd.R_reads' HO326.out).2.1);rintro e w25 ⟨v329,rfl,ho0,hb⟩;refine ⟨_,rfl,?_⟩;have n0_:=zz31 (Kd.R_below (by (with_reducible repeat (first | apply zz12 | apply zz13 | apply zz14));exact (Kd.R_mono (Kd.R_far (p:=⟨gb327,1,none⟩) (Kd.R_far (p:=⟨gb327,0,none⟩) (Kd.R_types HO318.out BK327.out (by decide)) (fun _ hk=>hk.2) (.int .i64 t323)) (fun _ hk=>hk.2) (.slice Ao24 t324.length co24)) (fun _ h_=>h_.1))) hb);have n1_:=zz31 (Kd.R_elder' (by (with_reducible repeat (first | apply zz12 | apply zz13 | apply zz14));exact (Kd.R_mono (Kd.R_far (p:=⟨gb327,1,none⟩) (Kd.R_far (p:=⟨gb327,0,none⟩) (Kd.R_types HO321.out BK327.out (by decide)) (fun _ hk=>hk.2) (.int .i64 t323)) (fun _ hk=>hk.2) (.slice Ao24 t324.length co24)) (fun _ h_=>h_.1))) (Kd.R_base ho0) hb);have n2_:=zz31 (Kd.R_below (by (with_reducible repeat (first | apply zz12 | apply zz13 | apply zz14));exact (Kd.R_mono (Kd.R_far (p:=⟨gb327,1,none⟩) (Kd.R_far (p:=⟨gb327,0,none⟩) (Kd.R_types HO326.out BK327.out (by decide)) (fun _ hk=>hk.2) (.int .i64 t323)) (fun _ hk=>hk.2) (.slice Ao24 t324.length co24)) (fun _ h_=>h_.1))) hb);have n3_:=zz31 (Kd.R_lower (Kd.R_new' ho0 (Kd.R_lt (by (with_reducible repeat (first | apply zz12 | apply zz13 | apply zz14));exact (Kd.R_mono (Kd.R_far (p:=⟨gb327,1,none⟩) (Kd.R_far (p:=⟨gb327,0,none⟩) (Kd.R_types HO321.out BK327.out (by decide)) (fun _ hk=>hk.2) (.int .i64 t323)) (fun _ hk=>hk.2) (.slice Ao24 t324.length co24)) (fun _ h_=>h_.1))))) (zz5 (by repeat first | exact HB.out | apply zz2 | apply zz0 | apply zz1 | refine zz3 ?_ GE313.out | refine zz3 ?_ GE327.out)));have n4_:=zz31 (zz11 (g:=gb313) (o:=.cells #[.int .i64 a0_0,.slice A0_1 l0_1.length c0_1] 24 (0,0)) (by (with_reducible repeat (first | refine zz6 ?_ _ | refine zz7 ?_ | refine zz8 ?_ _));refine blk_far ?_ NB313_327.out _;(with_reducible repeat (first | refine zz6 ?_ _ | refine zz7 ?_ | refine zz8 ?_ _));refine blk_far ?_ NB313_327.out _;(with_reducible repeat (first | refine zz6 ?_ _ | refine zz7 ?_ | refine zz8 ?_ _));exact BK313.out) hb);have n5_:=zz31 (zz11 (g:=gb327) (o:=.cells #[.int .i64 t323,.slice Ao24 t324.length co24] 30 (0,0)) (by (with_reducible repeat (first | refine zz6 ?_ _ | refine zz7 ?_ | refine zz8 ?_ _));refine blk_put (cs:=#[.int .i64 t323,.slice none 0 0]) ?_ 1 _ rfl;(with_reducible repeat (first | refine zz6 ?_ _ | refine zz7 ?_ | refine zz8 ?_ _));refine blk_put (cs:=#[.int .i64 0,.slice none 0 0]) ?_ 0 _ rfl;(with_reducible repeat (first | refine zz6 ?_ _ | refine zz7 ?_ | refine zz8 ?_ _));exact BK327.out) hb);have n6_:=zz31 (zz4 (by repeat first | exact HB.out | apply zz2 | apply zz0 | apply zz1 | refine zz3 ?_ GE313.out | refine zz3 ?_ GE327.out) hb);clear HO318;clear HO321;clear HO326;clear BK313;clear BK327;clear HB;have HO318:=n0_;have HO321:=n1_;have HO326:=n2_;have HO330:=n3_;have BK313:=n4_;have BK327:=n5_;have HB:=n6_;clear n0_ n1_ n2_ n3_ n4_ n5_ n6_;(try clear hb);(try clear hb2);(try clear hk);(try clear hi);(try clear ho0)))
  (try simp only [Act.put,zz21,zz22,zz23])
  go_cut [40] (fun v40 wc=>∃ (kq:Nat) (x40_10:Bool),v40=.bool x40_10∧Aside0 (laws_FnExactGroupNumbers.j0 kq t319 t322 t328 t331 x40_10 a0_0 l0_1 t323 t324=some r)∧Aside0 (kq≤k)∧Aside0 (Kd.R (Kd.int .i64) 3 wc w.heap.size (fun k_=>some k_ ≠ (v329:Value).ownBlock) v320 t319)∧Aside0 (Kd.R (Kd.int .i64) 3 wc w.heap.size (fun k_=>some k_ ≠ (v320:Value).ownBlock) v329 t328)∧Aside0 (Kd.R k74 74 wc w.heap.size (fun _=>True) (.slice Ao24 t324.length co24) t324)∧Aside0 (wc.heap[gb313]?=some (.cells #[.int .i64 a0_0,(.slice A0_1 l0_1.length c0_1)] 24 (0,0)))∧Aside0 (wc.heap[gb327]?=some (.cells #[.int .i64 t323,(.slice Ao24 t324.length co24)] 30 (0,0)))∧Aside0 (Below w.heap.size w wc))
  case first =>
   have H:=HC11.out
   clear HC11
   replace H:=zz30.mp H
   obtain ⟨t332,A260,H⟩:=H
   replace H:(if t332=true then (laws_FnExactGroupNumbers.j0 k t319 t322 t328 t331 (t331 != t322) a0_0 l0_1 t323 t324) else (laws_FnExactGroupNumbers.j0 k t319 t322 t328 t331 true a0_0 l0_1 t323 t324))=some r:=H
   have A26:=zz31 A260
   clear A260
   by_cases c27:t332=true
   ·subst c27
    have H1:(laws_FnExactGroupNumbers.j0 k t319 t322 t328 t331 (t331 != t322) a0_0 l0_1 t323 t324)=some r:=by rw [if_pos rfl] at H;exact H
    clear H
    have H:=H1
    clear H1
    have H':=zz31 H
    clear H
    obtain ⟨Ao28,co28,eo28⟩:=Kd.R_slice HO330.out
    subst eo28
    obtain ⟨Ao29,co29,eo29⟩:=Kd.R_slice HO321.out
    subst eo29
    go_wp2_with (first | ((with_reducible refine gate_callee (f:=18) rfl ?_);refine goesL_ (some 34) rfl rfl Tryd.func18 (by kernel_rfl) rfl #[.slice Ao28 t328.length co28,.slice Ao29 t319.length co29] rfl (by (try simp only [zz26,zz27,zz28]);first | done | rfl | (simp only [zz24,zz25];rfl)) ?_;(with_reducible refine (laws_eqIntS.calls k _ _ t328 _ _ t319 true _ ?side1 ?side2 ?side3 ?side4 A26.out).mono ?_);(case side1=>repeat (first | exact (Kd.R_reads' HO330.out).2.2 | (with_reducible refine zz18 ?_ _) | (with_reducible refine zz19 ?_ _) | (with_reducible refine zz20 ?_)));(case side2=>exact (Kd.R_reads' HO330.out).2.1);(case side3=>repeat (first | exact (Kd.R_reads' HO321.out).2.2 | (with_reducible refine zz18 ?_ _) | (with_reducible refine zz19 ?_ _) | (with_reducible refine zz20 ?_)));(case side4=>exact (Kd.R_reads' HO321.out).2.1);rintro e w' ⟨rfl,⟨nd,rfl⟩⟩;refine ⟨_,rfl,?_⟩))
    go_meet
    case rel=>exact ⟨_,((t331 != t322)),(by first | rfl | (simp;done) | (simp [*];done)),H',⟨by first | omega | exact Nat.le_refl _⟩,⟨by (with_reducible repeat (first | apply zz12 | apply zz13 | apply zz14));exact Kd.R_mono HO321.out (fun _ hk=>hk.2)⟩,⟨by (with_reducible repeat (first | apply zz12 | apply zz13 | apply zz14));exact Kd.R_mono HO330.out (fun _ hk=>hk.2)⟩,⟨by (with_reducible repeat (first | apply zz12 | apply zz13 | apply zz14));exact Kd.R_mono HO326.out (fun _ hk=>trivial)⟩,⟨by (with_reducible repeat (first | refine zz6 ?_ _ | refine zz7 ?_ | refine zz8 ?_ _));exact BK313.out⟩,⟨by (with_reducible repeat (first | refine zz6 ?_ _ | refine zz7 ?_ | refine zz8 ?_ _));exact BK327.out⟩,⟨by repeat first | exact HB.out | apply zz2 | apply zz0 | apply zz1 | refine zz3 ?_ GE313.out | refine zz3 ?_ GE327.out⟩⟩
   ·replace c27:=Bool.eq_false_iff.mpr c27
    subst c27
    have H1:(laws_FnExactGroupNumbers.j0 k t319 t322 t328 t331 true a0_0 l0_1 t323 t324)=some r:=by rw [if_neg (show ¬ (false=true) by decide)] at H;exact H
    clear H
    have H:=H1
    clear H1
    have H':=zz31 H
    clear H
    obtain ⟨Ao30,co30,eo30⟩:=Kd.R_slice HO330.out
    subst eo30
    obtain ⟨Ao31,co31,eo31⟩:=Kd.R_slice HO321.out
    subst eo31
    go_wp2_with (first | ((with_reducible refine gate_callee (f:=18) rfl ?_);refine goesL_ (some 34) rfl rfl Tryd.func18 (by kernel_rfl) rfl #[.slice Ao30 t328.length co30,.slice Ao31 t319.length co31] rfl (by (try simp only [zz26,zz27,zz28]);first | done | rfl | (simp only [zz24,zz25];rfl)) ?_;(with_reducible refine (laws_eqIntS.calls k _ _ t328 _ _ t319 false _ ?side1 ?side2 ?side3 ?side4 A26.out).mono ?_);(case side1=>repeat (first | exact (Kd.R_reads' HO330.out).2.2 | (with_reducible refine zz18 ?_ _) | (with_reducible refine zz19 ?_ _) | (with_reducible refine zz20 ?_)));(case side2=>exact (Kd.R_reads' HO330.out).2.1);(case side3=>repeat (first | exact (Kd.R_reads' HO321.out).2.2 | (with_reducible refine zz18 ?_ _) | (with_reducible refine zz19 ?_ _) | (with_reducible refine zz20 ?_)));(case side4=>exact (Kd.R_reads' HO321.out).2.1);rintro e w' ⟨rfl,⟨nd,rfl⟩⟩;refine ⟨_,rfl,?_⟩))
    go_meet
    case rel=>exact ⟨_,(true),(by first | rfl | (simp;done) | (simp [*];done)),H',⟨by first | omega | exact Nat.le_refl _⟩,⟨by (with_reducible repeat (first | apply zz12 | apply zz13 | apply zz14));exact Kd.R_mono HO321.out (fun _ hk=>hk.2)⟩,⟨by (with_reducible repeat (first | apply zz12 | apply zz13 | apply zz14));exact Kd.R_mono HO330.out (fun _ hk=>hk.2)⟩,⟨by (with_reducible repeat (first | apply zz12 | apply zz13 | apply zz14));exact Kd.R_mono HO326.out (fun _ hk=>trivial)⟩,⟨by (with_reducible repeat (first | refine zz6 ?_ _ | refine zz7 ?_ | refine zz8 ?_ _));exact BK313.out⟩,⟨by (with_reducible repeat (first | refine zz6 ?_ _ | refine zz7 ?_ | refine zz8 ?_ _));exact BK327.out⟩,⟨by repeat first | exact HB.out | apply zz2 | apply zz0 | apply zz1 | refine zz3 ?_ GE313.out | refine zz3 ?_ GE327.out⟩⟩
  case rest =>
   clear HC11
   try clear c1
   try clear c2
   try clear p2
   try clear c3
   try clear c3b0
   try clear c5
   try clear c9
   try clear c11
   try clear c16
   try clear c17
   try clear c18
   try clear c22
   try clear c27
   try clear hcz13_0
   try clear hcz13_1
   try clear hcz15_0
   try clear hcz15_1
   try clear hcz19_0
   try clear hcz19_1
   try clear hcz23_0
   try clear hcz23_1
   try clear hcz5_0
   try clear hcz5_1
   try clear hfz13_0
   try clear hfz13_1
   try clear hfz15_0
   try clear hfz15_1
   try clear hfz19_0
   try clear hfz19_1
   try clear hfz23_0
   try clear hfz23_1
   try clear hfz5_0
   try clear hfz5_1
   obtain ⟨kq,x40_10,rfl,HA,HJ10,HO_4,HO_7,HO_328001,BK313,BK327,HB⟩:=hcut
   cases kq with
   | zero=>exact absurd HA.out (by simp [laws_FnExactGroupNumbers.j0])
   | succ kj10 =>
    have H:=HA.out
    clear HA
    simp only [laws_FnExactGroupNumbers.j0] at H
    by_cases c32:x40_10=true
    ·subst c32
     have H1:(some false)=some r:=by rw [if_pos rfl] at H;exact H
     clear H
     have H:=H1
     clear H1
     obtain rfl:=Option.some.inj H
     go_wp2
     go_ret
     exact ⟨by first | rfl | (simp [errW_none,errW_some] <;> rfl) | (simp [*,errW_none,errW_some] <;> rfl),by repeat first | exact HB.out | apply zz2 | apply zz0 | apply zz1 | refine zz3 ?_ GE313.out | refine zz3 ?_ GE327.out⟩
    ·replace c32:=Bool.eq_false_iff.mpr c32
     subst c32
     have H1:((laws_toParty.f kj10 a0_0 l0_1).bind fun bt333=>((laws_eqParty.f kj10 t323 t324 bt333.1 bt333.2).bind fun t337=>(if t337=true then ((laws_markParty.f kj10 t323 t324 1).bind fun bt338=>(if bt338.1 < 0 then (laws_FnExactGroupNumbers.j1 kj10 t319 t322 t328 true a0_0 l0_1) else ((laws_eqIntS.f kj10 t328 t319).bind fun t340=>(if t340=true then (laws_FnExactGroupNumbers.j1 kj10 t319 t322 t328 (t331 != t322) a0_0 l0_1) else (laws_FnExactGroupNumbers.j1 kj10 t319 t322 t328 true a0_0 l0_1))))) else (some false))))=some r:=by rw [if_neg (show ¬ (false=true) by decide)] at H;exact H
     clear H
     have H:=H1
     clear H1
     replace H:=zz30.mp H
     obtain ⟨⟨t333,t334⟩,A330,H⟩:=H
     replace H:((laws_eqParty.f kj10 t323 t324 t333 t334).bind fun t337=>(if t337=true then ((laws_markParty.f kj10 t323 t324 1).bind fun bt338=>(if bt338.1 < 0 then (laws_FnExactGroupNumbers.j1 kj10 t319 t322 t328 true a0_0 l0_1) else ((laws_eqIntS.f kj10 t328 t319).bind fun t340=>(if t340=true then (laws_FnExactGroupNumbers.j1 kj10 t319 t322 t328 (t331 != t322) a0_0 l0_1) else (laws_FnExactGroupNumbers.j1 kj10 t319 t322 t328 true a0_0 l0_1))))) else (some false)))=some r:=H
     have A33:=zz31 A330
     clear A330
     replace H:=zz30.mp H
     obtain ⟨t337,A340,H⟩:=H
     replace H:(if t337=true then ((laws_markParty.f kj10 t323 t324 1).bind fun bt338=>(if bt338.1 < 0 then (laws_FnExactGroupNumbers.j1 kj10 t319 t322 t328 true a0_0 l0_1) else ((laws_eqIntS.f kj10 t328 t319).bind fun t340=>(if t340=true then (laws_FnExactGroupNumbers.j1 kj10 t319 t322 t328 (t331 != t322) a0_0 l0_1) else (laws_FnExactGroupNumbers.j1 kj10 t319 t322 t328 true a0_0 l0_1))))) else (some false))=some r:=H
     have A34:=zz31 A340
     clear A340
     by_cases c35:t337=true
     ·subst c35
      have H1:((laws_markParty.f kj10 t323 t324 1).bind fun bt338=>(if bt338.1 < 0 then (laws_FnExactGroupNumbers.j1 kj10 t319 t322 t328 true a0_0 l0_1) else ((laws_eqIntS.f kj10 t328 t319).bind fun t340=>(if t340=true then (laws_FnExactGroupNumbers.j1 kj10 t319 t322 t328 (t331 != t322) a0_0 l0_1) else (laws_FnExactGroupNumbers.j1 kj10 t319 t322 t328 true a0_0 l0_1)))))=some r:=by rw [if_pos rfl] at H;exact H
      clear H
      have H:=H1
      clear H1
      replace H:=zz30.mp H
      obtain ⟨⟨t338,t339⟩,A360,H⟩:=H
      replace H:(if t338 < 0 then (laws_FnExactGroupNumbers.j1 kj10 t319 t322 t328 true a0_0 l0_1) else ((laws_eqIntS.f kj10 t328 t319).bind fun t340=>(if t340=true then (laws_FnExactGroupNumbers.j1 kj10 t319 t322 t328 (t331 != t322) a0_0 l0_1) else (laws_FnExactGroupNumbers.j1 kj10 t319 t322 t328 true a0_0 l0_1))))=some r:=H
      have A36:=zz31 A360
      clear A360
      have HC37:=zz31 H
      clear H
      try go_wp2
      have n0_:=zz31 (zz14 HO_4.out)
      have n1_:=zz31 (zz14 HO_7.out)
      have n2_:=zz31 (zz14 HO_328001.out)
      have n3_:=zz31 (zz7 BK313.out)
      have n4_:=zz31 (zz7 BK327.out)
      have n5_:=zz31 (zz1 HB.out)
      clear HO_4
      clear HO_7
      clear HO_328001
      clear BK313
      clear BK327
      clear HB
      have HO_4:=n0_
      have HO_7:=n1_
      have HO_328001:=n2_
      have BK313:=n3_
      have BK327:=n4_
      have HB:=n5_
      clear n0_ n1_ n2_ n3_ n4_ n5_
      refine start_ (n:=5) (S:=fun w'=>w'.cell? ⟨gb327,0,none⟩=some (.int .i64 t323)∧w'.cell? ⟨gb327,1,none⟩=some (.slice Ao24 t324.length co24)∧w'.cell? ⟨gb313,0,none⟩=some (.int .i64 a0_0)∧w'.cell? ⟨gb313,1,none⟩=some (.slice A0_1 l0_1.length c0_1)) (ds:=[]) #[F,F,F,F,F] (by kernel_rfl) rfl rfl ⟨(zz9 BK327.out 0).trans rfl,(zz9 BK327.out 1).trans rfl,(zz9 BK313.out 0).trans rfl,(zz9 BK313.out 1).trans rfl⟩ (fun hHeld=>?_)
      generalize wc.drew=w38 at HO_4 HO_7 HO_328001 BK313 BK327 HB hHeld ⊢
      refine take_ (i:=0) (N:=some 41) (v:=?_) (a':=?_) #[T,F,F,F,F] rfl rfl (by kernel_rfl) (fun _ _ _ h=>h) (Or.inl ⟨by rfl,?_⟩) hHeld ?_ ?_
      rotate_left
      ·rintro w' ⟨s0,s1,s2,s3⟩
       go_simp
       with_reducible rfl
      rotate_left
      ·simp only [Act.put,zz21,zz22,zz23,i64_w,i32_w]
       rfl
      refine take_ (i:=1) (N:=some 42) (v:=?_) (a':=?_) #[T,T,F,F,F] rfl rfl (by kernel_rfl) (fun _ _ _ h=>h) (Or.inl ⟨by rfl,?_⟩) hHeld ?_ ?_
      rotate_left
      ·rintro w' ⟨s0,s1,s2,s3⟩
       go_simp
       with_reducible rfl
      rotate_left
      ·simp only [Act.put,zz21,zz22,zz23,i64_w,i32_w]
       rfl
      refine one_ (i:=2) (N:=some 43) #[T,T,T,F,F] rfl rfl (by kernel_rfl) (by decide) (fun K hK=>?_)
      refine goes_ Tryd.func11 (by kernel_rfl) rfl #[.agg #[.int .i64 a0_0,.slice A0_1 l0_1.length c0_1]] (by rfl) rfl rfl (by (try simp only [zz26,zz27,zz28]);first | done | rfl | (simp only [zz24,zz25];rfl)) ?_
      with_reducible refine (laws_toParty.calls kj10 a0_0 _ _ l0_1 t333 t334 _ ?side1 ?side2 A33.out).mono ?_
      (case side1=>repeat (first | exact (Kd.C_below HR0_1.out HB.out) | (with_reducible refine zz18 ?_ _) | (with_reducible refine zz19 ?_ _) | (with_reducible refine zz20 ?_)))
      (case side2=>exact HC0_1.out)
      rintro e w39 ⟨v335,rfl,ho0,hb⟩
      refine ⟨_,rfl,?_⟩
      have n0_:=zz31 (Kd.R_below (by (with_reducible repeat (first | apply zz12 | apply zz13 | apply zz14));exact HO_4.out) hb)
      have n1_:=zz31 (Kd.R_below (by (with_reducible repeat (first | apply zz12 | apply zz13 | apply zz14));exact HO_7.out) hb)
      have n2_:=zz31 (Kd.R_elder' (by (with_reducible repeat (first | apply zz12 | apply zz13 | apply zz14));exact HO_328001.out) (Kd.R_base ho0) hb)
      have n3_:=zz31 (Kd.R_lower (Kd.R_new' ho0 (Kd.R_lt (by (with_reducible repeat (first | apply zz12 | apply zz13 | apply zz14));exact HO_328001.out))) (zz5 (by repeat first | exact HB.out | apply zz2 | apply zz0 | apply zz1 | refine zz3 ?_ GE313.out | refine zz3 ?_ GE327.out)))
      have n4_:=zz31 (zz11 (g:=gb313) (o:=.cells #[.int .i64 a0_0,.slice A0_1 l0_1.length c0_1] 24 (0,0)) (by (with_reducible repeat (first | refine zz6 ?_ _ | refine zz7 ?_ | refine zz8 ?_ _));exact BK313.out) hb)
      have n5_:=zz31 (zz11 (g:=gb327) (o:=.cells #[.int .i64 t323,.slice Ao24 t324.length co24] 30 (0,0)) (by (with_reducible repeat (first | refine zz6 ?_ _ | refine zz7 ?_ | refine zz8 ?_ _));exact BK327.out) hb)
      have n6_:=zz31 (zz4 (by repeat first | exact HB.out | apply zz2 | apply zz0 | apply zz1 | refine zz3 ?_ GE313.out | refine zz3 ?_ GE327.out) hb)
      clear HO_4
      clear HO_7
      clear HO_328001
      clear BK313
      clear BK327
      clear HB
      have HO_4:=n0_
      have HO_7:=n1_
      have HO_328001:=n2_
      have HO336:=n3_
      have BK313:=n4_
      have BK327:=n5_
      have HB:=n6_
      clear n0_ n1_ n2_ n3_ n4_ n5_ n6_
      (try clear hb)
      (try clear hb2)
      (try clear hk)
      (try clear hi)
      (try clear ho0)
      obtain ⟨Ao40,co40,eo40⟩:=Kd.R_slice HO336.out
      (first | subst eo40 | (injection eo40 with f1_ f2_ f3_;have f4_:=f1_.symm;have f5_:=f3_.symm;clear f1_ f2_ f3_;subst f4_;subst f5_))
      refine hK.out _ _ ⟨(zz9 BK327.out 0).trans rfl,(zz9 BK327.out 1).trans rfl,(zz9 BK313.out 0).trans rfl,(zz9 BK313.out 1).trans rfl⟩ (fun hHeld=>?_)
      clear hK K
      refine norm_ (a':=?_) ?_ ?_
      rotate_left
      ·show Act.put _ (some 43) _=_
       simp only [Act.put,zz21,zz22,zz23,i64_w,i32_w]
       rfl
      refine one_ (i:=3) (N:=some 44) #[T,T,T,T,F] rfl rfl (by kernel_rfl) (by decide) (fun K hK=>?_)
      refine goes_ Tryd.func13 (by kernel_rfl) rfl #[.agg #[.int .i64 t323,.slice Ao24 t324.length co24],.agg #[.int .i64 t333,.slice Ao40 t334.length co40]] (by rfl) rfl rfl (by (try simp only [zz26,zz27,zz28]);first | done | rfl | (simp only [zz24,zz25];rfl)) ?_
      with_reducible refine (laws_eqParty.calls kj10 t323 _ _ t324 t333 _ _ t334 true _ ?side1 ?side2 ?side3 ?side4 A34.out).mono ?_
      (case side1=>repeat (first | exact (Kd.R_reads' HO_328001.out).2.2 | (with_reducible refine zz18 ?_ _) | (with_reducible refine zz19 ?_ _) | (with_reducible refine zz20 ?_)))
      (case side2=>exact (Kd.R_reads' HO_328001.out).2.1)
      (case side3=>repeat (first | exact (Kd.R_reads' HO336.out).2.2 | (with_reducible refine zz18 ?_ _) | (with_reducible refine zz19 ?_ _) | (with_reducible refine zz20 ?_)))
      (case side4=>exact (Kd.R_reads' HO336.out).2.1)
      rintro e w41 ⟨rfl,hb⟩
      refine ⟨_,rfl,?_⟩
      have n0_:=zz31 (Kd.R_below (by (with_reducible repeat (first | apply zz12 | apply zz13 | apply zz14));exact HO_4.out) hb)
      have n1_:=zz31 (Kd.R_below (by (with_reducible repeat (first | apply zz12 | apply zz13 | apply zz14));exact HO_7.out) hb)
      have n2_:=zz31 (Kd.R_below (by (with_reducible repeat (first | apply zz12 | apply zz13 | apply zz14));exact HO_328001.out) hb)
      have n3_:=zz31 (Kd.R_below (by (with_reducible repeat (first | apply zz12 | apply zz13 | apply zz14));exact HO336.out) hb)
      have n4_:=zz31 (zz11 (g:=gb313) (o:=.cells #[.int .i64 a0_0,.slice A0_1 l0_1.length c0_1] 24 (0,0)) (by (with_reducible repeat (first | refine zz6 ?_ _ | refine zz7 ?_ | refine zz8 ?_ _));exact BK313.out) hb)
      have n5_:=zz31 (zz11 (g:=gb327) (o:=.cells #[.int .i64 t323,.slice Ao24 t324.length co24] 30 (0,0)) (by (with_reducible repeat (first | refine zz6 ?_ _ | refine zz7 ?_ | refine zz8 ?_ _));exact BK327.out) hb)
      have n6_:=zz31 (zz4 (by repeat first | exact HB.out | apply zz2 | apply zz0 | apply zz1 | refine zz3 ?_ GE313.out | refine zz3 ?_ GE327.out) hb)
      clear HO_4
      clear HO_7
      clear HO_328001
      clear HO336
      clear BK313
      clear BK327
      clear HB
      have HO_4:=n0_
      have HO_7:=n1_
      have HO_328001:=n2_
      have HO336:=n3_
      have BK313:=n4_
      have BK327:=n5_
      have HB:=n6_
      clear n0_ n1_ n2_ n3_ n4_ n5_ n6_
      (try clear hb)
      (try clear hb2)
      (try clear hk)
      (try clear hi)
      refine hK.out _ _ ⟨(zz9 BK327.out 0).trans rfl,(zz9 BK327.out 1).trans rfl,(zz9 BK313.out 0).trans rfl,(zz9 BK313.out 1).trans rfl⟩ (fun hHeld=>?_)
      clear hK K
      refine norm_ (a':=?_) ?_ ?_
      rotate_left
      ·show Act.put _ (some 44) _=_
       simp only [Act.put,zz21,zz22,zz23,i64_w,i32_w]
       rfl
      refine pure_ (i:=4) (N:=some 45) (v:=?_) (a':=?_) #[T,T,T,T,T] rfl rfl (by kernel_rfl) (fun _ _ _ h=>h) (Or.inl ⟨by rfl,?_⟩) ?_ ?_
      rotate_left
      ·intro w'
       go_simp
       with_reducible rfl
      rotate_left
      ·simp only [Act.put,zz21,zz22,zz23,i64_w,i32_w]
       rfl
      refine done_ (by kernel_rfl) ?_
      have hnb42:=NB327_313.out
      have hnc42:=NB313_327.out
      have hcz43_0:w41.cell? ⟨gb327,0,none⟩=some (.int .i64 t323):=(zz9 BK327.out 0).trans rfl
      have hcz43_1:w41.cell? ⟨gb327,1,none⟩=some (.slice Ao24 t324.length co24):=(zz9 BK327.out 1).trans rfl
      have hfz43_0:=zz10 BK327.out 0
      have hfz43_1:=zz10 BK327.out 1
      go_upto_region 14 with (first | ((with_reducible refine gate_callee (f:=19) rfl ?_);refine goesL_ (some 48) rfl rfl Tryd.func19 (by kernel_rfl) rfl #[.agg #[.int .i64 t323,.slice Ao24 t324.length co24],.int .i64 1] rfl (by (try simp only [zz26,zz27,zz28]);first | done | rfl | (simp only [zz24,zz25];rfl)) ?_;(with_reducible refine (laws_markParty.calls kj10 t323 (fun k_=>some k_=(.slice Ao24 t324.length co24:Value).ownBlock) (.slice Ao24 t324.length co24) t324 1 t338 t339 w _ ?side1 ?side2 A36.out).mono ?_);(case side1=>repeat first | exact HB.out | apply zz2 | apply zz0 | apply zz1 | refine zz3 ?_ GE313.out | refine zz3 ?_ GE327.out);(case side2=>exact Kd.R_tight rfl HO_328001.out);rintro e w44 ⟨rfl,hy0,hb,hkp⟩;refine ⟨_,rfl,?_⟩;have n0_:=zz31 (Kd.R_mono (ok':=fun k_=>some k_ ≠ (v329:Value).ownBlock) (Kd.R_keptB ((Kd.R_apart' HO_4.out (Kd.R_typed HO_328001.out) (by decide))) hkp (fun k_ hk_ hs_=>(hk_.2) hs_)) (fun k_ hk_=>hk_.1.1));have n1_:=zz31 (Kd.R_mono (ok':=fun k_=>some k_ ≠ (v320:Value).ownBlock) (Kd.R_keptB ((Kd.R_apart' HO_7.out (Kd.R_typed HO_328001.out) (by decide))) hkp (fun k_ hk_ hs_=>(hk_.2) hs_)) (fun k_ hk_=>hk_.1.1));have n2_:=zz31 (Kd.R_reok rfl hy0 (fun k_ e_=>HO_328001.out.1 k_ e_));(first | have n3_:=zz31 (blk_kept BK313.out hkp (fun hs_=>(fun e_=>(Kd.R_ne HO_328001.out BK313.out (by decide)) e_) hs_)) | have n3_:=zz31 (blk_kept (by (with_reducible repeat (first | refine zz6 ?_ _ | refine zz7 ?_ | refine zz8 ?_ _));exact BK313.out) hkp (fun hs_=>(fun e_=>(Kd.R_ne HO_328001.out BK313.out (by decide)) e_) hs_)));(first | have n4_:=zz31 (blk_kept BK327.out hkp (fun hs_=>(fun e_=>(Kd.R_ne HO_328001.out BK327.out (by decide)) e_) hs_)) | have n4_:=zz31 (blk_kept (by (with_reducible repeat (first | refine zz6 ?_ _ | refine zz7 ?_ | refine zz8 ?_ _));exact BK327.out) hkp (fun hs_=>(fun e_=>(Kd.R_ne HO_328001.out BK327.out (by decide)) e_) hs_)));have n5_:=zz31 (Kd.R_mono (ok':=fun k_=>some k_ ≠ (.slice Ao24 t324.length co24:Value).ownBlock) (Kd.R_keptB (HO336.out) hkp (fun k_ hk_ hs_=>(hk_.2) hs_)) (fun k_ hk_=>hk_.1.2));have n6_:=zz31 (hb);clear HO_4;clear HO_7;clear HO_328001;clear BK313;clear BK327;clear HO336;clear HB;have HO_4:=n0_;have HO_7:=n1_;have HO_328001:=n2_;have BK313:=n3_;have BK327:=n4_;have HO336:=n5_;have HB:=n6_;clear n0_ n1_ n2_ n3_ n4_ n5_ n6_;(try clear hb);(try clear hkp);(try clear hy0)))
      (try simp only [Act.put,zz21,zz22,zz23])
      go_cut [61] (fun v61 wc=>∃ (kq:Nat) (x61_36:Bool),v61=.bool x61_36∧Aside0 (laws_FnExactGroupNumbers.j1 kq t319 t322 t328 x61_36 a0_0 l0_1=some r)∧Aside0 (kq≤kj10)∧Aside0 (Kd.R (Kd.int .i64) 3 wc w.heap.size (fun k_=>some k_ ≠ (v329:Value).ownBlock) v320 t319)∧Aside0 (Kd.R (Kd.int .i64) 3 wc w.heap.size (fun k_=>some k_ ≠ (v320:Value).ownBlock) v329 t328)∧Aside0 (Kd.R k74 74 wc w.heap.size (fun _=>True) (.slice Ao24 t324.length co24) t339)∧Aside0 (wc.heap[gb313]?=some (.cells #[.int .i64 a0_0,(.slice A0_1 l0_1.length c0_1)] 24 (0,0)))∧Aside0 (wc.heap[gb327]?=some (.cells #[.int .i64 t323,(.slice Ao24 t324.length co24)] 30 (0,0)))∧Aside0 (Below w.heap.size w wc))
      case first =>
       have H:=HC37.out
       clear HC37
       by_cases c45:t338 < 0
       ·rw [if_pos c45] at H
        have c45b0:decide (t338 < 0)=true:=decide_eq_true c45
        clear c45
        (first | rw [c45b0] | (simp only [i64_w,i32_w];rw [c45b0]) | skip)
        have H':=zz31 H
        clear H
        go_wp2
        go_meet
        case rel=>exact ⟨_,(true),(by first | rfl | (simp;done) | (simp [*];done)),H',⟨by have:=HJ10.out;first | omega | exact Nat.le_refl _⟩,⟨by (with_reducible repeat (first | apply zz12 | apply zz13 | apply zz14));exact HO_4.out⟩,⟨by (with_reducible repeat (first | apply zz12 | apply zz13 | apply zz14));exact HO_7.out⟩,⟨by (with_reducible repeat (first | apply zz12 | apply zz13 | apply zz14));exact Kd.R_mono HO_328001.out (fun _ hk=>trivial)⟩,⟨by (with_reducible repeat (first | refine zz6 ?_ _ | refine zz7 ?_ | refine zz8 ?_ _));exact BK313.out⟩,⟨by (with_reducible repeat (first | refine zz6 ?_ _ | refine zz7 ?_ | refine zz8 ?_ _));exact BK327.out⟩,⟨by repeat first | exact HB.out | apply zz2 | apply zz0 | apply zz1 | refine zz3 ?_ GE313.out | refine zz3 ?_ GE327.out⟩⟩
       ·rw [if_neg c45] at H
        have c45b0:decide (t338 < 0)=false:=decide_eq_false c45
        clear c45
        (first | rw [c45b0] | (simp only [i64_w,i32_w];rw [c45b0]) | skip)
        replace H:=zz30.mp H
        obtain ⟨t340,A460,H⟩:=H
        replace H:(if t340=true then (laws_FnExactGroupNumbers.j1 kj10 t319 t322 t328 (t331 != t322) a0_0 l0_1) else (laws_FnExactGroupNumbers.j1 kj10 t319 t322 t328 true a0_0 l0_1))=some r:=H
        have A46:=zz31 A460
        clear A460
        by_cases c47:t340=true
        ·subst c47
         have H1:(laws_FnExactGroupNumbers.j1 kj10 t319 t322 t328 (t331 != t322) a0_0 l0_1)=some r:=by rw [if_pos rfl] at H;exact H
         clear H
         have H:=H1
         clear H1
         have H':=zz31 H
         clear H
         obtain ⟨Ao48,co48,eo48⟩:=Kd.R_slice HO_7.out
         subst eo48
         obtain ⟨Ao49,co49,eo49⟩:=Kd.R_slice HO_4.out
         subst eo49
         go_wp2_with (first | (go_at_call 18;(with_reducible refine (laws_eqIntS.calls kj10 _ _ t328 _ _ t319 true _ ?side1 ?side2 ?side3 ?side4 A46.out).mono ?_);(case side1=>repeat (first | exact (Kd.R_reads' HO_7.out).2.2 | (with_reducible refine zz18 ?_ _) | (with_reducible refine zz19 ?_ _) | (with_reducible refine zz20 ?_)));(case side2=>exact (Kd.R_reads' HO_7.out).2.1);(case side3=>repeat (first | exact (Kd.R_reads' HO_4.out).2.2 | (with_reducible refine zz18 ?_ _) | (with_reducible refine zz19 ?_ _) | (with_reducible refine zz20 ?_)));(case side4=>exact (Kd.R_reads' HO_4.out).2.1);rintro e w' ⟨rfl,⟨nd,rfl⟩⟩))
         go_meet
         case rel=>exact ⟨_,((t331 != t322)),(by first | rfl | (simp;done) | (simp [*];done)),H',⟨by have:=HJ10.out;first | omega | exact Nat.le_refl _⟩,⟨by (with_reducible repeat (first | apply zz12 | apply zz13 | apply zz14));exact HO_4.out⟩,⟨by (with_reducible repeat (first | apply zz12 | apply zz13 | apply zz14));exact HO_7.out⟩,⟨by (with_reducible repeat (first | apply zz12 | apply zz13 | apply zz14));exact Kd.R_mono HO_328001.out (fun _ hk=>trivial)⟩,⟨by (with_reducible repeat (first | refine zz6 ?_ _ | refine zz7 ?_ | refine zz8 ?_ _));exact BK313.out⟩,⟨by (with_reducible repeat (first | refine zz6 ?_ _ | refine zz7 ?_ | refine zz8 ?_ _));exact BK327.out⟩,⟨by repeat first | exact HB.out | apply zz2 | apply zz0 | apply zz1 | refine zz3 ?_ GE313.out | refine zz3 ?_ GE327.out⟩⟩
        ·replace c47:=Bool.eq_false_iff.mpr c47
         subst c47
         have H1:(laws_FnExactGroupNumbers.j1 kj10 t319 t322 t328 true a0_0 l0_1)=some r:=by rw [if_neg (show ¬ (false=true) by decide)] at H;exact H
         clear H
         have H:=H1
         clear H1
         have H':=zz31 H
         clear H
         obtain ⟨Ao50,co50,eo50⟩:=Kd.R_slice HO_7.out
         subst eo50
         obtain ⟨Ao51,co51,eo51⟩:=Kd.R_slice HO_4.out
         subst eo51
         go_wp2_with (first | (go_at_call 18;(with_reducible refine (laws_eqIntS.calls kj10 _ _ t328 _ _ t319 false _ ?side1 ?side2 ?side3 ?side4 A46.out).mono ?_);(case side1=>repeat (first | exact (Kd.R_reads' HO_7.out).2.2 | (with_reducible refine zz18 ?_ _) | (with_reducible refine zz19 ?_ _) | (with_reducible refine zz20 ?_)));(case side2=>exact (Kd.R_reads' HO_7.out).2.1);(case side3=>repeat (first | exact (Kd.R_reads' HO_4.out).2.2 | (with_reducible refine zz18 ?_ _) | (with_reducible refine zz19 ?_ _) | (with_reducible refine zz20 ?_)));(case side4=>exact (Kd.R_reads' HO_4.out).2.1);rintro e w' ⟨rfl,⟨nd,rfl⟩⟩))
         go_meet
         case rel=>exact ⟨_,(true),(by first | rfl | (simp;done) | (simp [*];done)),H',⟨by have:=HJ10.out;first | omega | exact Nat.le_refl _⟩,⟨by (with_reducible repeat (first | apply zz12 | apply zz13 | apply zz14));exact HO_4.out⟩,⟨by (with_reducible repeat (first | apply zz12 | apply zz13 | apply zz14));exact HO_7.out⟩,⟨by (with_reducible repeat (first | apply zz12 | apply zz13 | apply zz14));exact Kd.R_mono HO_328001.out (fun _ hk=>trivial)⟩,⟨by (with_reducible repeat (first | refine zz6 ?_ _ | refine zz7 ?_ | refine zz8 ?_ _));exact BK313.out⟩,⟨by (with_reducible repeat (first | refine zz6 ?_ _ | refine zz7 ?_ | refine zz8 ?_ _));exact BK327.out⟩,⟨by repeat first | exact HB.out | apply zz2 | apply zz0 | apply zz1 | refine zz3 ?_ GE313.out | refine zz3 ?_ GE327.out⟩⟩
      case rest =>
       clear HC37
       try clear c1
       try clear c2
       try clear p2
       try clear c3
       try clear c3b0
       try clear c4
       try clear c5
       try clear c9
       try clear c11
       try clear c13
       try clear c16
       try clear c17
       try clear c18
       try clear c19
       try clear c22
       try clear c27
       try clear c32
       try clear c35
       try clear c42
       try clear c45
       try clear c45b0
       try clear c47
       try clear hcz13_0
       try clear hcz13_1
       try clear hcz15_0
       try clear hcz15_1
       try clear hcz19_0
       try clear hcz19_1
       try clear hcz23_0
       try clear hcz23_1
       try clear hcz43_0
       try clear hcz43_1
       try clear hcz5_0
       try clear hcz5_1
       try clear hfz13_0
       try clear hfz13_1
       try clear hfz15_0
       try clear hfz15_1
       try clear hfz19_0
       try clear hfz19_1
       try clear hfz23_0
       try clear hfz23_1
       try clear hfz43_0
       try clear hfz43_1
       try clear hfz5_0
       try clear hfz5_1
       try clear p2
       obtain ⟨kq,x61_36,rfl,HA,HJ36,HO_4,HO_7,HO_328001,BK313,BK327,HB⟩:=hcut
       have hl328001_36:=(Kd.R_reads' HO_328001.out).1
       rw [hl328001_36] at HO_328001
       (try simp only [hl328001_36])
       (try simp only [hl328001_36] at BK313)
       (try simp only [hl328001_36] at BK327)
       (try simp only [hl328001_36] at HO_4)
       (try simp only [hl328001_36] at HO_7)
       cases kq with
       | zero=>exact absurd HA.out (by simp [laws_FnExactGroupNumbers.j1])
       | succ kj36 =>
        have H:=HA.out
        clear HA
        simp only [laws_FnExactGroupNumbers.j1] at H
        by_cases c52:x61_36=true
        ·subst c52
         have H1:(some false)=some r:=by rw [if_pos rfl] at H;exact H
         clear H
         have H:=H1
         clear H1
         obtain rfl:=Option.some.inj H
         go_wp2
         go_ret
         exact ⟨by first | rfl | (simp [errW_none,errW_some] <;> rfl) | (simp [*,errW_none,errW_some] <;> rfl),by repeat first | exact HB.out | apply zz2 | apply zz0 | apply zz1 | refine zz3 ?_ GE313.out | refine zz3 ?_ GE327.out⟩
        ·replace c52:=Bool.eq_false_iff.mpr c52
         subst c52
         have H1:((laws_markIntS.f kj36 t328 1).bind fun bt341=>((laws_heldIntS.f kj36 bt341.2 1).bind fun t343=>(if t343 < 0 then (some false) else (if t343=bt341.1 then ((laws_toParty.f kj36 a0_0 l0_1).bind fun bt344=>((impl_GroupNumbers.f kj36 bt344.1 bt344.2).bind fun bt348=>((laws_eqIntS.f kj36 bt348.1 t319).bind fun t352=>(if t352=true then (laws_FnExactGroupNumbers.j2 kj36 bt341.2 bt341.1 (bt348.2 != t322)) else (laws_FnExactGroupNumbers.j2 kj36 bt341.2 bt341.1 true))))) else (some false)))))=some r:=by rw [if_neg (show ¬ (false=true) by decide)] at H;exact H
         clear H
         have H:=H1
         clear H1
         replace H:=zz30.mp H
         obtain ⟨⟨t341,t342⟩,A530,H⟩:=H
         replace H:((laws_heldIntS.f kj36 t342 1).bind fun t343=>(if t343 < 0 then (some false) else (if t343=t341 then ((laws_toParty.f kj36 a0_0 l0_1).bind fun bt344=>((impl_GroupNumbers.f kj36 bt344.1 bt344.2).bind fun bt348=>((laws_eqIntS.f kj36 bt348.1 t319).bind fun t352=>(if t352=true then (laws_FnExactGroupNumbers.j2 kj36 t342 t341 (bt348.2 != t322)) else (laws_FnExactGroupNumbers.j2 kj36 t342 t341 true))))) else (some false))))=some r:=H
         have A53:=zz31 A530
         clear A530
         replace H:=zz30.mp H
         obtain ⟨t343,A540,H⟩:=H
         replace H:(if t343 < 0 then (some false) else (if t343=t341 then ((laws_toParty.f kj36 a0_0 l0_1).bind fun bt344=>((impl_GroupNumbers.f kj36 bt344.1 bt344.2).bind fun bt348=>((laws_eqIntS.f kj36 bt348.1 t319).bind fun t352=>(if t352=true then (laws_FnExactGroupNumbers.j2 kj36 t342 t341 (bt348.2 != t322)) else (laws_FnExactGroupNumbers.j2 kj36 t342 t341 true))))) else (some false)))=some r:=H
         have A54:=zz31 A540
         clear A540
         by_cases c55:t343 < 0
         ·rw [if_pos c55] at H
          have c55b0:decide (t343 < 0)=true:=decide_eq_true c55
          clear c55
          obtain rfl:=Option.some.inj H
          obtain ⟨Ao56,co56,eo56⟩:=Kd.R_slice HO_7.out
          subst eo56
          go_wp2_with (first | ((with_reducible refine gate_callee (f:=20) rfl ?_);refine goesL_ (some 64) rfl rfl Tryd.func20 (by kernel_rfl) rfl #[.slice Ao56 t328.length co56,.int .i64 1] rfl (by (try simp only [zz26,zz27,zz28]);first | done | rfl | (simp only [zz24,zz25];rfl)) ?_;(with_reducible refine (laws_markIntS.calls kj36 (fun k_=>some k_=(.slice Ao56 t328.length co56:Value).ownBlock) (.slice Ao56 t328.length co56) t328 1 t341 t342 w _ ?side1 ?side2 A53.out).mono ?_);(case side1=>repeat first | exact HB.out | apply zz2 | apply zz0 | apply zz1 | refine zz3 ?_ GE313.out | refine zz3 ?_ GE327.out);(case side2=>exact Kd.R_tight rfl HO_7.out);rintro e w57 ⟨rfl,hy0,hb,hkp⟩;refine ⟨_,rfl,?_⟩;have n0_:=zz31 (Kd.R_mono (ok':=fun k_=>some k_ ≠ (.slice Ao56 t328.length co56:Value).ownBlock) (Kd.R_keptB (HO_4.out) hkp (fun k_ hk_ hs_=>(hk_) hs_)) (fun k_ hk_=>hk_.1));have n1_:=zz31 (Kd.R_reok rfl hy0 (fun k_ e_=>HO_7.out.1 k_ e_));have n2_:=zz31 (Kd.R_mono (ok':=fun k_=>True) (Kd.R_keptB ((Kd.R_apart' HO_328001.out (Kd.R_typed HO_7.out) (by decide))) hkp (fun k_ hk_ hs_=>(hk_.2) hs_)) (fun k_ hk_=>trivial));(first | have n3_:=zz31 (blk_kept BK313.out hkp (fun hs_=>(fun e_=>(Kd.R_ne HO_7.out BK313.out (by decide)) e_) hs_)) | have n3_:=zz31 (blk_kept (by (with_reducible repeat (first | refine zz6 ?_ _ | refine zz7 ?_ | refine zz8 ?_ _));exact BK313.out) hkp (fun hs_=>(fun e_=>(Kd.R_ne HO_7.out BK313.out (by decide)) e_) hs_)));(first | have n4_:=zz31 (blk_kept BK327.out hkp (fun hs_=>(fun e_=>(Kd.R_ne HO_7.out BK327.out (by decide)) e_) hs_)) | have n4_:=zz31 (blk_kept (by (with_reducible repeat (first | refine zz6 ?_ _ | refine zz7 ?_ | refine zz8 ?_ _));exact BK327.out) hkp (fun hs_=>(fun e_=>(Kd.R_ne HO_7.out BK327.out (by decide)) e_) hs_)));have n5_:=zz31 (hb);clear HO_4;clear HO_7;clear HO_328001;clear BK313;clear BK327;clear HB;have HO_4:=n0_;have HO_7:=n1_;have HO_328001:=n2_;have BK313:=n3_;have BK327:=n4_;have HB:=n5_;clear n0_ n1_ n2_ n3_ n4_ n5_;(try clear hb);(try clear hkp);(try clear hy0)) | ((with_reducible refine gate_callee (f:=21) rfl ?_);refine goesL_ (some 67) rfl rfl Tryd.func21 (by kernel_rfl) rfl #[.slice Ao56 t342.length co56,.int .i64 1] rfl (by (try simp only [zz26,zz27,zz28]);first | done | (rw [show t342.length=t328.length from (Kd.R_reads' HO_7.out).1.symm] <;> rfl) | rfl | (simp only [zz24,zz25];rfl)) ?_;(with_reducible refine (laws_heldIntS.calls kj36 _ _ t342 1 t343 _ ?side1 ?side2 A54.out).mono ?_);(case side1=>repeat (first | exact (Kd.R_reads' HO_7.out).2.2 | (with_reducible refine zz18 ?_ _) | (with_reducible refine zz19 ?_ _) | (with_reducible refine zz20 ?_)));(case side2=>rw [show t342.length=t328.length from (Kd.R_reads' HO_7.out).1.symm];exact (Kd.R_reads' HO_7.out).2.1);rintro e w' ⟨rfl,⟨nd,rfl⟩⟩;refine ⟨_,rfl,?_⟩))
          go_ret
          exact ⟨by first | rfl | (simp [errW_none,errW_some] <;> rfl) | (simp [*,errW_none,errW_some] <;> rfl),by repeat first | exact HB.out | apply zz2 | apply zz0 | apply zz1 | refine zz3 ?_ GE313.out | refine zz3 ?_ GE327.out⟩
         ·rw [if_neg c55] at H
          have c55b0:decide (t343 < 0)=false:=decide_eq_false c55
          clear c55
          by_cases c58:t343=t341
          ·rw [if_pos c58] at H
           have c58b0:(t343 == t341)=true:=beq_iff_eq.mpr c58
           have c58b1:(t343 != t341)=false:=bne_eq_false_iff_eq.mpr c58
           clear c58
           replace H:=zz30.mp H
           obtain ⟨⟨t344,t345⟩,A590,H⟩:=H
           replace H:((impl_GroupNumbers.f kj36 t344 t345).bind fun bt348=>((laws_eqIntS.f kj36 bt348.1 t319).bind fun t352=>(if t352=true then (laws_FnExactGroupNumbers.j2 kj36 t342 t341 (bt348.2 != t322)) else (laws_FnExactGroupNumbers.j2 kj36 t342 t341 true))))=some r:=H
           have A59:=zz31 A590
           clear A590
           replace H:=zz30.mp H
           obtain ⟨⟨t348,t351⟩,A600,H⟩:=H
           replace H:((laws_eqIntS.f kj36 t348 t319).bind fun t352=>(if t352=true then (laws_FnExactGroupNumbers.j2 kj36 t342 t341 (t351 != t322)) else (laws_FnExactGroupNumbers.j2 kj36 t342 t341 true)))=some r:=H
           have A60:=zz31 A600
           clear A600
           have HC61:=zz31 H
           clear H
           obtain ⟨Ao62,co62,eo62⟩:=Kd.R_slice HO_7.out
           subst eo62
           go_upto_region 25 with (first | ((with_reducible refine gate_callee (f:=20) rfl ?_);refine goesL_ (some 64) rfl rfl Tryd.func20 (by kernel_rfl) rfl #[.slice Ao62 t328.length co62,.int .i64 1] rfl (by (try simp only [zz26,zz27,zz28]);first | done | rfl | (simp only [zz24,zz25];rfl)) ?_;(with_reducible refine (laws_markIntS.calls kj36 (fun k_=>some k_=(.slice Ao62 t328.length co62:Value).ownBlock) (.slice Ao62 t328.length co62) t328 1 t341 t342 w _ ?side1 ?side2 A53.out).mono ?_);(case side1=>repeat first | exact HB.out | apply zz2 | apply zz0 | apply zz1 | refine zz3 ?_ GE313.out | refine zz3 ?_ GE327.out);(case side2=>exact Kd.R_tight rfl HO_7.out);rintro e w63 ⟨rfl,hy0,hb,hkp⟩;refine ⟨_,rfl,?_⟩;have n0_:=zz31 (Kd.R_mono (ok':=fun k_=>some k_ ≠ (.slice Ao62 t328.length co62:Value).ownBlock) (Kd.R_keptB (HO_4.out) hkp (fun k_ hk_ hs_=>(hk_) hs_)) (fun k_ hk_=>hk_.1));have n1_:=zz31 (Kd.R_reok rfl hy0 (fun k_ e_=>HO_7.out.1 k_ e_));have n2_:=zz31 (Kd.R_mono (ok':=fun k_=>True) (Kd.R_keptB ((Kd.R_apart' HO_328001.out (Kd.R_typed HO_7.out) (by decide))) hkp (fun k_ hk_ hs_=>(hk_.2) hs_)) (fun k_ hk_=>trivial));(first | have n3_:=zz31 (blk_kept BK313.out hkp (fun hs_=>(fun e_=>(Kd.R_ne HO_7.out BK313.out (by decide)) e_) hs_)) | have n3_:=zz31 (blk_kept (by (with_reducible repeat (first | refine zz6 ?_ _ | refine zz7 ?_ | refine zz8 ?_ _));exact BK313.out) hkp (fun hs_=>(fun e_=>(Kd.R_ne HO_7.out BK313.out (by decide)) e_) hs_)));(first | have n4_:=zz31 (blk_kept BK327.out hkp (fun hs_=>(fun e_=>(Kd.R_ne HO_7.out BK327.out (by decide)) e_) hs_)) | have n4_:=zz31 (blk_kept (by (with_reducible repeat (first | refine zz6 ?_ _ | refine zz7 ?_ | refine zz8 ?_ _));exact BK327.out) hkp (fun hs_=>(fun e_=>(Kd.R_ne HO_7.out BK327.out (by decide)) e_) hs_)));have n5_:=zz31 (hb);clear HO_4;clear HO_7;clear HO_328001;clear BK313;clear BK327;clear HB;have HO_4:=n0_;have HO_7:=n1_;have HO_328001:=n2_;have BK313:=n3_;have BK327:=n4_;have HB:=n5_;clear n0_ n1_ n2_ n3_ n4_ n5_;(try clear hb);(try clear hkp);(try clear hy0)) | ((with_reducible refine gate_callee (f:=21) rfl ?_);refine goesL_ (some 67) rfl rfl Tryd.func21 (by kernel_rfl) rfl #[.slice Ao62 t342.length co62,.int .i64 1] rfl (by (try simp only [zz26,zz27,zz28]);first | done | (rw [show t342.length=t328.length from (Kd.R_reads' HO_7.out).1.symm] <;> rfl) | rfl | (simp only [zz24,zz25];rfl)) ?_;(with_reducible refine (laws_heldIntS.calls kj36 _ _ t342 1 t343 _ ?side1 ?side2 A54.out).mono ?_);(case side1=>repeat (first | exact (Kd.R_reads' HO_7.out).2.2 | (with_reducible refine zz18 ?_ _) | (with_reducible refine zz19 ?_ _) | (with_reducible refine zz20 ?_)));(case side2=>rw [show t342.length=t328.length from (Kd.R_reads' HO_7.out).1.symm];exact (Kd.R_reads' HO_7.out).2.1);rintro e w' ⟨rfl,⟨nd,rfl⟩⟩;refine ⟨_,rfl,?_⟩;have hnb64:=NB313_327.out;have hnc64:=NB327_313.out;have hcz65_0:w63.cell? ⟨gb313,0,none⟩=some (.int .i64 a0_0):=(zz9 BK313.out 0).trans rfl;have hcz65_1:w63.cell? ⟨gb313,1,none⟩=some (.slice A0_1 l0_1.length c0_1):=(zz9 BK313.out 1).trans rfl;have hfz65_0:=zz10 BK313.out 0;have hfz65_1:=zz10 BK313.out 1) | ((with_reducible refine gate_callee (f:=11) rfl ?_);refine goesL_ (some 75) rfl rfl Tryd.func11 (by kernel_rfl) rfl #[.agg #[.int .i64 a0_0,.slice A0_1 l0_1.length c0_1]] rfl (by (try simp only [zz26,zz27,zz28]);first | done | rfl | (simp only [zz24,zz25];rfl)) ?_;(with_reducible refine (laws_toParty.calls kj36 a0_0 _ _ l0_1 t344 t345 _ ?side1 ?side2 A59.out).mono ?_);(case side1=>repeat (first | exact (Kd.C_below HR0_1.out (by repeat first | exact HB.out | apply zz2 | apply zz0 | apply zz1 | refine zz3 ?_ GE313.out | refine zz3 ?_ GE327.out)) | (with_reducible refine zz18 ?_ _) | (with_reducible refine zz19 ?_ _) | (with_reducible refine zz20 ?_)));(case side2=>exact HC0_1.out);rintro e w66 ⟨v346,rfl,ho0,hb⟩;refine ⟨_,rfl,?_⟩;have n0_:=zz31 (Kd.R_below (by (with_reducible repeat (first | apply zz12 | apply zz13 | apply zz14));exact HO_4.out) hb);have n1_:=zz31 (Kd.R_below (by (with_reducible repeat (first | apply zz12 | apply zz13 | apply zz14));exact HO_7.out) hb);have n2_:=zz31 (Kd.R_elder' (by (with_reducible repeat (first | apply zz12 | apply zz13 | apply zz14));exact HO_328001.out) (Kd.R_base ho0) hb);have n3_:=zz31 (Kd.R_lower (Kd.R_new' ho0 (Kd.R_lt (by (with_reducible repeat (first | apply zz12 | apply zz13 | apply zz14));exact HO_328001.out))) (zz5 (by repeat first | exact HB.out | apply zz2 | apply zz0 | apply zz1 | refine zz3 ?_ GE313.out | refine zz3 ?_ GE327.out)));have n4_:=zz31 (zz11 (g:=gb313) (o:=.cells #[.int .i64 a0_0,.slice A0_1 l0_1.length c0_1] 24 (0,0)) (by (with_reducible repeat (first | refine zz6 ?_ _ | refine zz7 ?_ | refine zz8 ?_ _));exact BK313.out) hb);have n5_:=zz31 (zz11 (g:=gb327) (o:=.cells #[.int .i64 t323,.slice Ao24 t339.length co24] 30 (0,0)) (by (with_reducible repeat (first | refine zz6 ?_ _ | refine zz7 ?_ | refine zz8 ?_ _));exact BK327.out) hb);have n6_:=zz31 (zz4 (by repeat first | exact HB.out | apply zz2 | apply zz0 | apply zz1 | refine zz3 ?_ GE313.out | refine zz3 ?_ GE327.out) hb);clear HO_4;clear HO_7;clear HO_328001;clear BK313;clear BK327;clear HB;have HO_4:=n0_;have HO_7:=n1_;have HO_328001:=n2_;have HO347:=n3_;have BK313:=n4_;have BK327:=n5_;have HB:=n6_;clear n0_ n1_ n2_ n3_ n4_ n5_ n6_;(try clear hb);(try clear hb2);(try clear hk);(try clear hi);(try clear ho0);obtain ⟨Ao67,co67,eo67⟩:=Kd.R_slice HO347.out;subst eo67) | ((with_reducible refine gate_callee (f:=17) rfl ?_);refine goesL_ (some 76) rfl rfl Tryd.func17 (by kernel_rfl) rfl #[.agg #[.int .i64 t344,.slice Ao67 t345.length co67]] rfl (by (try simp only [zz26,zz27,zz28]);first | done | rfl | (simp only [zz24,zz25];rfl)) ?_;(with_reducible refine (impl_GroupNumbers.calls kj36 t344 _ _ t345 t348 t351 _ ?side1 ?side2 A60.out (HT.out.below (by repeat first | exact HB.out | apply zz2 | apply zz0 | apply zz1 | refine zz3 ?_ GE313.out | refine zz3 ?_ GE327.out))).mono ?_);(case side1=>repeat (first | exact (Kd.R_reads' HO347.out).2.2 | (with_reducible refine zz18 ?_ _) | (with_reducible refine zz19 ?_ _) | (with_reducible refine zz20 ?_)));(case side2=>exact (Kd.R_reads' HO347.out).2.1);rintro e w68 ⟨v349,rfl,ho0,hb⟩;refine ⟨_,rfl,?_⟩;have n0_:=zz31 (Kd.R_elder' (by (with_reducible repeat (first | apply zz12 | apply zz13 | apply zz14));exact HO_4.out) (Kd.R_base ho0) hb);have n1_:=zz31 (Kd.R_elder' (by (with_reducible repeat (first | apply zz12 | apply zz13 | apply zz14));exact HO_7.out) (Kd.R_base ho0) hb);have n2_:=zz31 (Kd.R_below (by (with_reducible repeat (first | apply zz12 | apply zz13 | apply zz14));exact HO_328001.out) hb);have n3_:=zz31 (Kd.R_below (by (with_reducible repeat (first | apply zz12 | apply zz13 | apply zz14));exact HO347.out) hb);have n4_:=zz31 (Kd.R_lower (Kd.R_new' (Kd.R_new' ho0 (Kd.R_lt (by (with_reducible repeat (first | apply zz12 | apply zz13 | apply zz14));exact HO_4.out))) (Kd.R_lt (by (with_reducible repeat (first | apply zz12 | apply zz13 | apply zz14));exact HO_7.out))) (zz5 (by repeat first | exact HB.out | apply zz2 | apply zz0 | apply zz1 | refine zz3 ?_ GE313.out | refine zz3 ?_ GE327.out)));have n5_:=zz31 (zz11 (g:=gb313) (o:=.cells #[.int .i64 a0_0,.slice A0_1 l0_1.length c0_1] 24 (0,0)) (by (with_reducible repeat (first | refine zz6 ?_ _ | refine zz7 ?_ | refine zz8 ?_ _));exact BK313.out) hb);have n6_:=zz31 (zz11 (g:=gb327) (o:=.cells #[.int .i64 t323,.slice Ao24 t339.length co24] 30 (0,0)) (by (with_reducible repeat (first | refine zz6 ?_ _ | refine zz7 ?_ | refine zz8 ?_ _));exact BK327.out) hb);have n7_:=zz31 (zz4 (by repeat first | exact HB.out | apply zz2 | apply zz0 | apply zz1 | refine zz3 ?_ GE313.out | refine zz3 ?_ GE327.out) hb);clear HO_4;clear HO_7;clear HO_328001;clear HO347;clear BK313;clear BK327;clear HB;have HO_4:=n0_;have HO_7:=n1_;have HO_328001:=n2_;have HO347:=n3_;have HO350:=n4_;have BK313:=n5_;have BK327:=n6_;have HB:=n7_;clear n0_ n1_ n2_ n3_ n4_ n5_ n6_ n7_;(try clear hb);(try clear hb2);(try clear hk);(try clear hi);(try clear ho0)))
           (try simp only [Act.put,zz21,zz22,zz23])
           go_cut [87] (fun v87 wc=>∃ (kq:Nat) (x87_60:Bool),v87=.bool x87_60∧Aside0 (laws_FnExactGroupNumbers.j2 kq t342 t341 x87_60=some r)∧Aside0 (kq≤kj36)∧Aside0 (Kd.R (Kd.int .i64) 3 wc w.heap.size (fun _=>True) (.slice Ao62 t328.length co62) t342)∧Aside0 (Kd.R k74 74 wc w.heap.size (fun _=>True) (.slice Ao24 t339.length co24) t339)∧Aside0 (wc.heap[gb313]?=some (.cells #[.int .i64 a0_0,(.slice A0_1 l0_1.length c0_1)] 24 (0,0)))∧Aside0 (wc.heap[gb327]?=some (.cells #[.int .i64 t323,(.slice Ao24 t339.length co24)] 30 (0,0)))∧Aside0 (Below w.heap.size w wc))
           case first =>
            have H:=HC61.out
            clear HC61
            replace H:=zz30.mp H
            obtain ⟨t352,A690,H⟩:=H
            replace H:(if t352=true then (laws_FnExactGroupNumbers.j2 kj36 t342 t341 (t351 != t322)) else (laws_FnExactGroupNumbers.j2 kj36 t342 t341 true))=some r:=H
            have A69:=zz31 A690
            clear A690
            by_cases c70:t352=true
            ·subst c70
             have H1:(laws_FnExactGroupNumbers.j2 kj36 t342 t341 (t351 != t322))=some r:=by rw [if_pos rfl] at H;exact H
             clear H
             have H:=H1
             clear H1
             have H':=zz31 H
             clear H
             obtain ⟨Ao71,co71,eo71⟩:=Kd.R_slice HO350.out
             subst eo71
             obtain ⟨Ao72,co72,eo72⟩:=Kd.R_slice HO_4.out
             subst eo72
             go_wp2_with (first | ((with_reducible refine gate_callee (f:=18) rfl ?_);refine goesL_ (some 81) rfl rfl Tryd.func18 (by kernel_rfl) rfl #[.slice Ao71 t348.length co71,.slice Ao72 t319.length co72] rfl (by (try simp only [zz26,zz27,zz28]);first | done | rfl | (simp only [zz24,zz25];rfl)) ?_;(with_reducible refine (laws_eqIntS.calls kj36 _ _ t348 _ _ t319 true _ ?side1 ?side2 ?side3 ?side4 A69.out).mono ?_);(case side1=>repeat (first | exact (Kd.R_reads' HO350.out).2.2 | (with_reducible refine zz18 ?_ _) | (with_reducible refine zz19 ?_ _) | (with_reducible refine zz20 ?_)));(case side2=>exact (Kd.R_reads' HO350.out).2.1);(case side3=>repeat (first | exact (Kd.R_reads' HO_4.out).2.2 | (with_reducible refine zz18 ?_ _) | (with_reducible refine zz19 ?_ _) | (with_reducible refine zz20 ?_)));(case side4=>exact (Kd.R_reads' HO_4.out).2.1);rintro e w' ⟨rfl,⟨nd,rfl⟩⟩;refine ⟨_,rfl,?_⟩))
             go_meet
             case rel=>exact ⟨_,((t351 != t322)),(by first | rfl | (simp;done) | (simp [*];done)),H',⟨by have:=HJ10.out;have:=HJ36.out;first | omega | exact Nat.le_refl _⟩,⟨by (try simp only [hl328001_36]);(with_reducible repeat (first | apply zz12 | apply zz13 | apply zz14));exact Kd.R_mono HO_7.out (fun _ hk=>trivial)⟩,⟨by (try simp only [hl328001_36]);(with_reducible repeat (first | apply zz12 | apply zz13 | apply zz14));exact Kd.R_mono HO_328001.out (fun _ hk=>trivial)⟩,⟨by (try simp only [hl328001_36]);(with_reducible repeat (first | refine zz6 ?_ _ | refine zz7 ?_ | refine zz8 ?_ _));exact BK313.out⟩,⟨by (try simp only [hl328001_36]);(with_reducible repeat (first | refine zz6 ?_ _ | refine zz7 ?_ | refine zz8 ?_ _));exact BK327.out⟩,⟨by repeat first | exact HB.out | apply zz2 | apply zz0 | apply zz1 | refine zz3 ?_ GE313.out | refine zz3 ?_ GE327.out⟩⟩
            ·replace c70:=Bool.eq_false_iff.mpr c70
             subst c70
             have H1:(laws_FnExactGroupNumbers.j2 kj36 t342 t341 true)=some r:=by rw [if_neg (show ¬ (false=true) by decide)] at H;exact H
             clear H
             have H:=H1
             clear H1
             have H':=zz31 H
             clear H
             obtain ⟨Ao73,co73,eo73⟩:=Kd.R_slice HO350.out
             subst eo73
             obtain ⟨Ao74,co74,eo74⟩:=Kd.R_slice HO_4.out
             subst eo74
             go_wp2_with (first | ((with_reducible refine gate_callee (f:=18) rfl ?_);refine goesL_ (some 81) rfl rfl Tryd.func18 (by kernel_rfl) rfl #[.slice Ao73 t348.length co73,.slice Ao74 t319.length co74] rfl (by (try simp only [zz26,zz27,zz28]);first | done | rfl | (simp only [zz24,zz25];rfl)) ?_;(with_reducible refine (laws_eqIntS.calls kj36 _ _ t348 _ _ t319 false _ ?side1 ?side2 ?side3 ?side4 A69.out).mono ?_);(case side1=>repeat (first | exact (Kd.R_reads' HO350.out).2.2 | (with_reducible refine zz18 ?_ _) | (with_reducible refine zz19 ?_ _) | (with_reducible refine zz20 ?_)));(case side2=>exact (Kd.R_reads' HO350.out).2.1);(case side3=>repeat (first | exact (Kd.R_reads' HO_4.out).2.2 | (with_reducible refine zz18 ?_ _) | (with_reducible refine zz19 ?_ _) | (with_reducible refine zz20 ?_)));(case side4=>exact (Kd.R_reads' HO_4.out).2.1);rintro e w' ⟨rfl,⟨nd,rfl⟩⟩;refine ⟨_,rfl,?_⟩))
             go_meet
             case rel=>exact ⟨_,(true),(by first | rfl | (simp;done) | (simp [*];done)),H',⟨by have:=HJ10.out;have:=HJ36.out;first | omega | exact Nat.le_refl _⟩,⟨by (try simp only [hl328001_36]);(with_reducible repeat (first | apply zz12 | apply zz13 | apply zz14));exact Kd.R_mono HO_7.out (fun _ hk=>trivial)⟩,⟨by (try simp only [hl328001_36]);(with_reducible repeat (first | apply zz12 | apply zz13 | apply zz14));exact Kd.R_mono HO_328001.out (fun _ hk=>trivial)⟩,⟨by (try simp only [hl328001_36]);(with_reducible repeat (first | refine zz6 ?_ _ | refine zz7 ?_ | refine zz8 ?_ _));exact BK313.out⟩,⟨by (try simp only [hl328001_36]);(with_reducible repeat (first | refine zz6 ?_ _ | refine zz7 ?_ | refine zz8 ?_ _));exact BK327.out⟩,⟨by repeat first | exact HB.out | apply zz2 | apply zz0 | apply zz1 | refine zz3 ?_ GE313.out | refine zz3 ?_ GE327.out⟩⟩
           case rest =>
            clear HC61
            try clear c1
            try clear c2
            try clear p2
            try clear c3
            try clear c3b0
            try clear c4
            try clear c5
            try clear c6
            try clear c7
            try clear c9
            try clear c11
            try clear c13
            try clear c16
            try clear c17
            try clear c18
            try clear c19
            try clear c20
            try clear c21
            try clear c22
            try clear c27
            try clear c32
            try clear c35
            try clear c42
            try clear c45
            try clear c45b0
            try clear c47
            try clear c52
            try clear c55
            try clear c55b0
            try clear c58
            try clear c58b0
            try clear c58b1
            try clear c64
            try clear c70
            try clear hcz13_0
            try clear hcz13_1
            try clear hcz15_0
            try clear hcz15_1
            try clear hcz19_0
            try clear hcz19_1
            try clear hcz23_0
            try clear hcz23_1
            try clear hcz43_0
            try clear hcz43_1
            try clear hcz5_0
            try clear hcz5_1
            try clear hcz65_0
            try clear hcz65_1
            try clear hfz13_0
            try clear hfz13_1
            try clear hfz15_0
            try clear hfz15_1
            try clear hfz19_0
            try clear hfz19_1
            try clear hfz23_0
            try clear hfz23_1
            try clear hfz43_0
            try clear hfz43_1
            try clear hfz5_0
            try clear hfz5_1
            try clear hfz65_0
            try clear hfz65_1
            try clear p2
            obtain ⟨kq,x87_60,rfl,HA,HJ60,HO_7,HO_328001,BK313,BK327,HB⟩:=hcut
            have hl7_60:=(Kd.R_reads' HO_7.out).1
            rw [hl7_60] at HO_7
            (try simp only [hl7_60])
            (try simp only [hl7_60] at BK313)
            (try simp only [hl7_60] at BK327)
            (try simp only [hl7_60] at HO_328001)
            cases kq with
            | zero=>exact absurd HA.out (by simp [laws_FnExactGroupNumbers.j2])
            | succ kj60 =>
             have H:=HA.out
             clear HA
             simp only [laws_FnExactGroupNumbers.j2] at H
             by_cases c75:x87_60=true
             ·subst c75
              have H1:(some false)=some r:=by rw [if_pos rfl] at H;exact H
              clear H
              have H:=H1
              clear H1
              obtain rfl:=Option.some.inj H
              go_wp2
              go_ret
              exact ⟨by first | rfl | (simp [errW_none,errW_some] <;> rfl) | (simp [*,errW_none,errW_some] <;> rfl),by repeat first | exact HB.out | apply zz2 | apply zz0 | apply zz1 | refine zz3 ?_ GE313.out | refine zz3 ?_ GE327.out⟩
             ·replace c75:=Bool.eq_false_iff.mpr c75
              subst c75
              have H1:((laws_heldIntS.f kj60 t342 1).bind fun t353=>(if t353 < 0 then (some false) else (if t353=t341 then (some true) else (some false))))=some r:=by rw [if_neg (show ¬ (false=true) by decide)] at H;exact H
              clear H
              have H:=H1
              clear H1
              replace H:=zz30.mp H
              obtain ⟨t353,A760,H⟩:=H
              replace H:(if t353 < 0 then (some false) else (if t353=t341 then (some true) else (some false)))=some r:=H
              have A76:=zz31 A760
              clear A760
              by_cases c77:t353 < 0
              ·rw [if_pos c77] at H
               have c77b0:decide (t353 < 0)=true:=decide_eq_true c77
               clear c77
               obtain rfl:=Option.some.inj H
               go_wp2_with (first | ((with_reducible refine gate_callee (f:=21) rfl ?_);refine goesL_ (some 90) rfl rfl Tryd.func21 (by kernel_rfl) rfl #[.slice Ao62 t342.length co62,.int .i64 1] rfl (by (try simp only [zz26,zz27,zz28]);first | done | rfl | (simp only [zz24,zz25];rfl)) ?_;(with_reducible refine (laws_heldIntS.calls kj60 _ _ t342 1 t353 _ ?side1 ?side2 A76.out).mono ?_);(case side1=>repeat (first | exact (Kd.R_reads' HO_7.out).2.2 | (with_reducible refine zz18 ?_ _) | (with_reducible refine zz19 ?_ _) | (with_reducible refine zz20 ?_)));(case side2=>exact (Kd.R_reads' HO_7.out).2.1);rintro e w' ⟨rfl,⟨nd,rfl⟩⟩;refine ⟨_,rfl,?_⟩))
               go_ret
               exact ⟨by first | rfl | (simp [errW_none,errW_some] <;> rfl) | (simp [*,errW_none,errW_some] <;> rfl),by repeat first | exact HB.out | apply zz2 | apply zz0 | apply zz1 | refine zz3 ?_ GE313.out | refine zz3 ?_ GE327.out⟩
              ·rw [if_neg c77] at H
               have c77b0:decide (t353 < 0)=false:=decide_eq_false c77
               clear c77
               by_cases c78:t353=t341
               ·rw [if_pos c78] at H
                have c78b0:(t353 == t341)=true:=beq_iff_eq.mpr c78
                have c78b1:(t353 != t341)=false:=bne_eq_false_iff_eq.mpr c78
                clear c78
                obtain rfl:=Option.some.inj H
                go_wp2_with (first | ((with_reducible refine gate_callee (f:=21) rfl ?_);refine goesL_ (some 90) rfl rfl Tryd.func21 (by kernel_rfl) rfl #[.slice Ao62 t342.length co62,.int .i64 1] rfl (by (try simp only [zz26,zz27,zz28]);first | done | rfl | (simp only [zz24,zz25];rfl)) ?_;(with_reducible refine (laws_heldIntS.calls kj60 _ _ t342 1 t353 _ ?side1 ?side2 A76.out).mono ?_);(case side1=>repeat (first | exact (Kd.R_reads' HO_7.out).2.2 | (with_reducible refine zz18 ?_ _) | (with_reducible refine zz19 ?_ _) | (with_reducible refine zz20 ?_)));(case side2=>exact (Kd.R_reads' HO_7.out).2.1);rintro e w' ⟨rfl,⟨nd,rfl⟩⟩;refine ⟨_,rfl,?_⟩))
                go_ret
                exact ⟨by first | rfl | (simp [errW_none,errW_some] <;> rfl) | (simp [*,errW_none,errW_some] <;> rfl),by repeat first | exact HB.out | apply zz2 | apply zz0 | apply zz1 | refine zz3 ?_ GE313.out | refine zz3 ?_ GE327.out⟩
               ·rw [if_neg c78] at H
                have c78b0:(t353 == t341)=false:=beq_eq_false_iff_ne.mpr c78
                have c78b1:(t353 != t341)=true:=bne_iff_ne.mpr c78
                obtain rfl:=Option.some.inj H
                go_wp2_with (first | ((with_reducible refine gate_callee (f:=21) rfl ?_);refine goesL_ (some 90) rfl rfl Tryd.func21 (by kernel_rfl) rfl #[.slice Ao62 t342.length co62,.int .i64 1] rfl (by (try simp only [zz26,zz27,zz28]);first | done | rfl | (simp only [zz24,zz25];rfl)) ?_;(with_reducible refine (laws_heldIntS.calls kj60 _ _ t342 1 t353 _ ?side1 ?side2 A76.out).mono ?_);(case side1=>repeat (first | exact (Kd.R_reads' HO_7.out).2.2 | (with_reducible refine zz18 ?_ _) | (with_reducible refine zz19 ?_ _) | (with_reducible refine zz20 ?_)));(case side2=>exact (Kd.R_reads' HO_7.out).2.1);rintro e w' ⟨rfl,⟨nd,rfl⟩⟩;refine ⟨_,rfl,?_⟩))
                go_ret
                exact ⟨by first | rfl | (simp [errW_none,errW_some] <;> rfl) | (simp [*,errW_none,errW_some] <;> rfl),by repeat first | exact HB.out | apply zz2 | apply zz0 | apply zz1 | refine zz3 ?_ GE313.out | refine zz3 ?_ GE327.out⟩
          ·rw [if_neg c58] at H
           have c58b0:(t343 == t341)=false:=beq_eq_false_iff_ne.mpr c58
           have c58b1:(t343 != t341)=true:=bne_iff_ne.mpr c58
           obtain rfl:=Option.some.inj H
           obtain ⟨Ao79,co79,eo79⟩:=Kd.R_slice HO_7.out
           subst eo79
           go_wp2_with (first | ((with_reducible refine gate_callee (f:=20) rfl ?_);refine goesL_ (some 64) rfl rfl Tryd.func20 (by kernel_rfl) rfl #[.slice Ao79 t328.length co79,.int .i64 1] rfl (by (try simp only [zz26,zz27,zz28]);first | done | rfl | (simp only [zz24,zz25];rfl)) ?_;(with_reducible refine (laws_markIntS.calls kj36 (fun k_=>some k_=(.slice Ao79 t328.length co79:Value).ownBlock) (.slice Ao79 t328.length co79) t328 1 t341 t342 w _ ?side1 ?side2 A53.out).mono ?_);(case side1=>repeat first | exact HB.out | apply zz2 | apply zz0 | apply zz1 | refine zz3 ?_ GE313.out | refine zz3 ?_ GE327.out);(case side2=>exact Kd.R_tight rfl HO_7.out);rintro e w80 ⟨rfl,hy0,hb,hkp⟩;refine ⟨_,rfl,?_⟩;have n0_:=zz31 (Kd.R_mono (ok':=fun k_=>some k_ ≠ (.slice Ao79 t328.length co79:Value).ownBlock) (Kd.R_keptB (HO_4.out) hkp (fun k_ hk_ hs_=>(hk_) hs_)) (fun k_ hk_=>hk_.1));have n1_:=zz31 (Kd.R_reok rfl hy0 (fun k_ e_=>HO_7.out.1 k_ e_));have n2_:=zz31 (Kd.R_mono (ok':=fun k_=>True) (Kd.R_keptB ((Kd.R_apart' HO_328001.out (Kd.R_typed HO_7.out) (by decide))) hkp (fun k_ hk_ hs_=>(hk_.2) hs_)) (fun k_ hk_=>trivial));(first | have n3_:=zz31 (blk_kept BK313.out hkp (fun hs_=>(fun e_=>(Kd.R_ne HO_7.out BK313.out (by decide)) e_) hs_)) | have n3_:=zz31 (blk_kept (by (with_reducible repeat (first | refine zz6 ?_ _ | refine zz7 ?_ | refine zz8 ?_ _));exact BK313.out) hkp (fun hs_=>(fun e_=>(Kd.R_ne HO_7.out BK313.out (by decide)) e_) hs_)));(first | have n4_:=zz31 (blk_kept BK327.out hkp (fun hs_=>(fun e_=>(Kd.R_ne HO_7.out BK327.out (by decide)) e_) hs_)) | have n4_:=zz31 (blk_kept (by (with_reducible repeat (first | refine zz6 ?_ _ | refine zz7 ?_ | refine zz8 ?_ _));exact BK327.out) hkp (fun hs_=>(fun e_=>(Kd.R_ne HO_7.out BK327.out (by decide)) e_) hs_)));have n5_:=zz31 (hb);clear HO_4;clear HO_7;clear HO_328001;clear BK313;clear BK327;clear HB;have HO_4:=n0_;have HO_7:=n1_;have HO_328001:=n2_;have BK313:=n3_;have BK327:=n4_;have HB:=n5_;clear n0_ n1_ n2_ n3_ n4_ n5_;(try clear hb);(try clear hkp);(try clear hy0)) | ((with_reducible refine gate_callee (f:=21) rfl ?_);refine goesL_ (some 67) rfl rfl Tryd.func21 (by kernel_rfl) rfl #[.slice Ao79 t342.length co79,.int .i64 1] rfl (by (try simp only [zz26,zz27,zz28]);first | done | (rw [show t342.length=t328.length from (Kd.R_reads' HO_7.out).1.symm] <;> rfl) | rfl | (simp only [zz24,zz25];rfl)) ?_;(with_reducible refine (laws_heldIntS.calls kj36 _ _ t342 1 t343 _ ?side1 ?side2 A54.out).mono ?_);(case side1=>repeat (first | exact (Kd.R_reads' HO_7.out).2.2 | (with_reducible refine zz18 ?_ _) | (with_reducible refine zz19 ?_ _) | (with_reducible refine zz20 ?_)));(case side2=>rw [show t342.length=t328.length from (Kd.R_reads' HO_7.out).1.symm];exact (Kd.R_reads' HO_7.out).2.1);rintro e w' ⟨rfl,⟨nd,rfl⟩⟩;refine ⟨_,rfl,?_⟩))
           go_ret
           exact ⟨by first | rfl | (simp [errW_none,errW_some] <;> rfl) | (simp [*,errW_none,errW_some] <;> rfl),by repeat first | exact HB.out | apply zz2 | apply zz0 | apply zz1 | refine zz3 ?_ GE313.out | refine zz3 ?_ GE327.out⟩
     ·replace c35:=Bool.eq_false_iff.mpr c35
      subst c35
      have H1:(some false)=some r:=by rw [if_neg (show ¬ (false=true) by decide)] at H;exact H
      clear H
      have H:=H1
      clear H1
      obtain rfl:=Option.some.inj H
      try go_wp2
      have n0_:=zz31 (zz14 HO_4.out)
      have n1_:=zz31 (zz14 HO_7.out)
      have n2_:=zz31 (zz14 HO_328001.out)
      have n3_:=zz31 (zz7 BK313.out)
      have n4_:=zz31 (zz7 BK327.out)
      have n5_:=zz31 (zz1 HB.out)
      clear HO_4
      clear HO_7
      clear HO_328001
      clear BK313
      clear BK327
      clear HB
      have HO_4:=n0_
      have HO_7:=n1_
      have HO_328001:=n2_
      have BK313:=n3_
      have BK327:=n4_
      have HB:=n5_
      clear n0_ n1_ n2_ n3_ n4_ n5_
      refine start_ (n:=5) (S:=fun w'=>w'.cell? ⟨gb327,0,none⟩=some (.int .i64 t323)∧w'.cell? ⟨gb327,1,none⟩=some (.slice Ao24 t324.length co24)∧w'.cell? ⟨gb313,0,none⟩=some (.int .i64 a0_0)∧w'.cell? ⟨gb313,1,none⟩=some (.slice A0_1 l0_1.length c0_1)) (ds:=[]) #[F,F,F,F,F] (by kernel_rfl) rfl rfl ⟨(zz9 BK327.out 0).trans rfl,(zz9 BK327.out 1).trans rfl,(zz9 BK313.out 0).trans rfl,(zz9 BK313.out 1).trans rfl⟩ (fun hHeld=>?_)
      generalize wc.drew=w81 at HO_4 HO_7 HO_328001 BK313 BK327 HB hHeld ⊢
      refine take_ (i:=0) (N:=some 41) (v:=?_) (a':=?_) #[T,F,F,F,F] rfl rfl (by kernel_rfl) (fun _ _ _ h=>h) (Or.inl ⟨by rfl,?_⟩) hHeld ?_ ?_
      rotate_left
      ·rintro w' ⟨s0,s1,s2,s3⟩
       go_simp
       with_reducible rfl
      rotate_left
      ·simp only [Act.put,zz21,zz22,zz23,i64_w,i32_w]
       rfl
      refine take_ (i:=1) (N:=some 42) (v:=?_) (a':=?_) #[T,T,F,F,F] rfl rfl (by kernel_rfl) (fun _ _ _ h=>h) (Or.inl ⟨by rfl,?_⟩) hHeld ?_ ?_
      rotate_left
      ·rintro w' ⟨s0,s1,s2,s3⟩
       go_simp
       with_reducible rfl
      rotate_left
      ·simp only [Act.put,zz21,zz22,zz23,i64_w,i32_w]
       rfl
      refine one_ (i:=2) (N:=some 43) #[T,T,T,F,F] rfl rfl (by kernel_rfl) (by decide) (fun K hK=>?_)
      refine goes_ Tryd.func11 (by kernel_rfl) rfl #[.agg #[.int .i64 a0_0,.slice A0_1 l0_1.length c0_1]] (by rfl) rfl rfl (by (try simp only [zz26,zz27,zz28]);first | done | rfl | (simp only [zz24,zz25];rfl)) ?_
      with_reducible refine (laws_toParty.calls kj10 a0_0 _ _ l0_1 t333 t334 _ ?side1 ?side2 A33.out).mono ?_
      (case side1=>repeat (first | exact (Kd.C_below HR0_1.out HB.out) | (with_reducible refine zz18 ?_ _) | (with_reducible refine zz19 ?_ _) | (with_reducible refine zz20 ?_)))
      (case side2=>exact HC0_1.out)
      rintro e w82 ⟨v335,rfl,ho0,hb⟩
      refine ⟨_,rfl,?_⟩
      have n0_:=zz31 (Kd.R_below (by (with_reducible repeat (first | apply zz12 | apply zz13 | apply zz14));exact HO_4.out) hb)
      have n1_:=zz31 (Kd.R_below (by (with_reducible repeat (first | apply zz12 | apply zz13 | apply zz14));exact HO_7.out) hb)
      have n2_:=zz31 (Kd.R_elder' (by (with_reducible repeat (first | apply zz12 | apply zz13 | apply zz14));exact HO_328001.out) (Kd.R_base ho0) hb)
      have n3_:=zz31 (Kd.R_lower (Kd.R_new' ho0 (Kd.R_lt (by (with_reducible repeat (first | apply zz12 | apply zz13 | apply zz14));exact HO_328001.out))) (zz5 (by repeat first | exact HB.out | apply zz2 | apply zz0 | apply zz1 | refine zz3 ?_ GE313.out | refine zz3 ?_ GE327.out)))
      have n4_:=zz31 (zz11 (g:=gb313) (o:=.cells #[.int .i64 a0_0,.slice A0_1 l0_1.length c0_1] 24 (0,0)) (by (with_reducible repeat (first | refine zz6 ?_ _ | refine zz7 ?_ | refine zz8 ?_ _));exact BK313.out) hb)
      have n5_:=zz31 (zz11 (g:=gb327) (o:=.cells #[.int .i64 t323,.slice Ao24 t324.length co24] 30 (0,0)) (by (with_reducible repeat (first | refine zz6 ?_ _ | refine zz7 ?_ | refine zz8 ?_ _));exact BK327.out) hb)
      have n6_:=zz31 (zz4 (by repeat first | exact HB.out | apply zz2 | apply zz0 | apply zz1 | refine zz3 ?_ GE313.out | refine zz3 ?_ GE327.out) hb)
      clear HO_4
      clear HO_7
      clear HO_328001
      clear BK313
      clear BK327
      clear HB
      have HO_4:=n0_
      have HO_7:=n1_
      have HO_328001:=n2_
      have HO336:=n3_
      have BK313:=n4_
      have BK327:=n5_
      have HB:=n6_
      clear n0_ n1_ n2_ n3_ n4_ n5_ n6_
      (try clear hb)
      (try clear hb2)
      (try clear hk)
      (try clear hi)
      (try clear ho0)
      obtain ⟨Ao83,co83,eo83⟩:=Kd.R_slice HO336.out
      (first | subst eo83 | (injection eo83 with f1_ f2_ f3_;have f4_:=f1_.symm;have f5_:=f3_.symm;clear f1_ f2_ f3_;subst f4_;subst f5_))
      refine hK.out _ _ ⟨(zz9 BK327.out 0).trans rfl,(zz9 BK327.out 1).trans rfl,(zz9 BK313.out 0).trans rfl,(zz9 BK313.out 1).trans rfl⟩ (fun hHeld=>?_)
      clear hK K
      refine norm_ (a':=?_) ?_ ?_
      rotate_left
      ·show Act.put _ (some 43) _=_
       simp only [Act.put,zz21,zz22,zz23,i64_w,i32_w]
       rfl
      refine one_ (i:=3) (N:=some 44) #[T,T,T,T,F] rfl rfl (by kernel_rfl) (by decide) (fun K hK=>?_)
      refine goes_ Tryd.func13 (by kernel_rfl) rfl #[.agg #[.int .i64 t323,.slice Ao24 t324.length co24],.agg #[.int .i64 t333,.slice Ao83 t334.length co83]] (by rfl) rfl rfl (by (try simp only [zz26,zz27,zz28]);first | done | rfl | (simp only [zz24,zz25];rfl)) ?_
      with_reducible refine (laws_eqParty.calls kj10 t323 _ _ t324 t333 _ _ t334 false _ ?side1 ?side2 ?side3 ?side4 A34.out).mono ?_
      (case side1=>repeat (first | exact (Kd.R_reads' HO_328001.out).2.2 | (with_reducible refine zz18 ?_ _) | (with_reducible refine zz19 ?_ _) | (with_reducible refine zz20 ?_)))
      (case side2=>exact (Kd.R_reads' HO_328001.out).2.1)
      (case side3=>repeat (first | exact (Kd.R_reads' HO336.out).2.2 | (with_reducible refine zz18 ?_ _) | (with_reducible refine zz19 ?_ _) | (with_reducible refine zz20 ?_)))
      (case side4=>exact (Kd.R_reads' HO336.out).2.1)
      rintro e w84 ⟨rfl,hb⟩
      refine ⟨_,rfl,?_⟩
      have n0_:=zz31 (Kd.R_below (by (with_reducible repeat (first | apply zz12 | apply zz13 | apply zz14));exact HO_4.out) hb)
      have n1_:=zz31 (Kd.R_below (by (with_reducible repeat (first | apply zz12 | apply zz13 | apply zz14));exact HO_7.out) hb)
      have n2_:=zz31 (Kd.R_below (by (with_reducible repeat (first | apply zz12 | apply zz13 | apply zz14));exact HO_328001.out) hb)
      have n3_:=zz31 (Kd.R_below (by (with_reducible repeat (first | apply zz12 | apply zz13 | apply zz14));exact HO336.out) hb)
      have n4_:=zz31 (zz11 (g:=gb313) (o:=.cells #[.int .i64 a0_0,.slice A0_1 l0_1.length c0_1] 24 (0,0)) (by (with_reducible repeat (first | refine zz6 ?_ _ | refine zz7 ?_ | refine zz8 ?_ _));exact BK313.out) hb)
      have n5_:=zz31 (zz11 (g:=gb327) (o:=.cells #[.int .i64 t323,.slice Ao24 t324.length co24] 30 (0,0)) (by (with_reducible repeat (first | refine zz6 ?_ _ | refine zz7 ?_ | refine zz8 ?_ _));exact BK327.out) hb)
      have n6_:=zz31 (zz4 (by repeat first | exact HB.out | apply zz2 | apply zz0 | apply zz1 | refine zz3 ?_ GE313.out | refine zz3 ?_ GE327.out) hb)
      clear HO_4
      clear HO_7
      clear HO_328001
      clear HO336
      clear BK313
      clear BK327
      clear HB
      have HO_4:=n0_
      have HO_7:=n1_
      have HO_328001:=n2_
      have HO336:=n3_
      have BK313:=n4_
      have BK327:=n5_
      have HB:=n6_
      clear n0_ n1_ n2_ n3_ n4_ n5_ n6_
      (try clear hb)
      (try clear hb2)
      (try clear hk)
      (try clear hi)
      refine hK.out _ _ ⟨(zz9 BK327.out 0).trans rfl,(zz9 BK327.out 1).trans rfl,(zz9 BK313.out 0).trans rfl,(zz9 BK313.out 1).trans rfl⟩ (fun hHeld=>?_)
      clear hK K
      refine norm_ (a':=?_) ?_ ?_
      rotate_left
      ·show Act.put _ (some 44) _=_
       simp only [Act.put,zz21,zz22,zz23,i64_w,i32_w]
       rfl
      refine pure_ (i:=4) (N:=some 45) (v:=?_) (a':=?_) #[T,T,T,T,T] rfl rfl (by kernel_rfl) (fun _ _ _ h=>h) (Or.inl ⟨by rfl,?_⟩) ?_ ?_
      rotate_left
      ·intro w'
       go_simp
       with_reducible rfl
      rotate_left
      ·simp only [Act.put,zz21,zz22,zz23,i64_w,i32_w]
       rfl
      refine done_ (by kernel_rfl) ?_
      try go_wp2
      go_ret
      exact ⟨by first | rfl | (simp [errW_none,errW_some] <;> rfl) | (simp [*,errW_none,errW_some] <;> rfl),by repeat first | exact HB.out | apply zz2 | apply zz0 | apply zz1 | refine zz3 ?_ GE313.out | refine zz3 ?_ GE327.out⟩

end Go.Proofs.YtifkaefccghgdaaDoor.P
