-- PRINTED by print.py (a twelfth state) out of the translation. Not trusted: Lean checks it.
import Derived.Test.YtifkaefccghgdaaDoorPx0
import Derived.Test.YtifkaefccghgdaaDoorPx1
import Derived.Test.YtifkaefccghgdaaDoorPx2
import Derived.Test.YtifkaefccghgdaaDoorPx3
import Derived.Test.YtifkaefccghgdaaDoorPx5
namespace Go.Proofs.YtifkaefccghgdaaDoor.P
open Go.RowKit Go.Proofs.YtifkaefccghgdaaDoorW.PrintWords Go.Proofs.YtifkaefccghgdaaDoorW.PrintLast Go.Proofs.YtifkaefccghgdaaDoorW.PrintMore
attribute [local go_sem] max2_int min2_int max_two min_two max_three min_three max_four min_four   -- for this text's walks alone
set_option linter.unusedVariables false
set_option linter.unusedSimpArgs false

/-! ### spec_trGreatest: function 50 -/
def spec_trGreatest.l0:Nat→List (List Bool)→Int→Option (List Int)
 | 0,_,_=>none
 | k+1,x3,x4=>if x4 > 0 then ((spec_trGroups.f k x3 ([]:List Int) x4).bind fun t295=>(if (t295.length:Int) > 0 then (if 0 < (t295.length:Int) then (some (rd_L5 t295 0)) else (none)) else (spec_trGreatest.l0 k x3 (wrap64 (x4 - 1))))) else (some ([]:List Int))
def spec_trGreatest.f (k:Nat) (a0_0:Int) (l0_1:List (S74)):Option (List Int):=(spec_paTable.f k a0_0 l0_1).bind fun t292=>(spec_trGreatest.l0 k t292 a0_0)
theorem spec_trGreatest.mono_l:∀ k,(∀ y0 y1,LeO (spec_trGreatest.l0 k y0 y1) (spec_trGreatest.l0 (k+1) y0 y1))
 | 0=>fun _ _ r h=>by simp [spec_trGreatest.l0] at h
 | k+1=>by
  have ih0:=spec_trGreatest.mono_l k
  ·intro y0 y1
   unfold spec_trGreatest.l0
   repeat' first
   | (with_reducible exact ih0 _ _)
   | (with_reducible exact spec_paTable.mono _ _ _)
   | (with_reducible exact spec_trGroups.mono _ _ _ _)
   | (with_reducible exact LeO.refl _)
   | (with_reducible exact LeO.none _)
   | (with_reducible refine LeO.ite ?_ ?_)
   | (with_reducible refine LeO.bind ?_ (fun _=>?_))
   | exact ih0 _ _
   | exact spec_paTable.mono _ _ _
   | exact spec_trGroups.mono _ _ _ _
   | exact LeO.none _
   | refine LeO.ite ?_ ?_
   | refine LeO.bind ?_ (fun _=>?_)
theorem spec_trGreatest.mono:∀ a0 a1 k,LeO (spec_trGreatest.f k a0 a1) (spec_trGreatest.f (k+1) a0 a1):=by
 intro a0 a1 k
 have ih0:=spec_trGreatest.mono_l k
 unfold spec_trGreatest.f
 repeat' first
   | (with_reducible exact ih0 _ _)
   | (with_reducible exact spec_paTable.mono _ _ _)
   | (with_reducible exact spec_trGroups.mono _ _ _ _)
   | (with_reducible exact LeO.refl _)
   | (with_reducible exact LeO.none _)
   | (with_reducible refine LeO.ite ?_ ?_)
   | (with_reducible refine LeO.bind ?_ (fun _=>?_))
   | exact ih0 _ _
   | exact spec_paTable.mono _ _ _
   | exact spec_trGroups.mono _ _ _ _
   | exact LeO.none _
   | refine LeO.ite ?_ ?_
   | refine LeO.bind ?_ (fun _=>?_)
set_option maxHeartbeats 8000000 in
set_option maxRecDepth 100000 in
theorem spec_trGreatest.calls (k:Nat) (a0_0:Int) (A0_1:Option Addr) (c0_1:Nat) (l0_1:List (S74)) (r:List Int) (w:World) (hr0_1:Kd.C k74 w A0_1 l0_1.length l0_1) (hc0_1:l0_1.length≤c0_1) (h:spec_trGreatest.f k a0_0 l0_1=some r) :
  Calls Tryd.prog 50 #[.agg #[.int .i64 a0_0,.slice A0_1 l0_1.length c0_1]] w fun e w'=>∃ v0_:Value,e=.returned (v0_)∧Kd.V (Kd.int .i64) 3 w' w.heap.size (fun k_=>(w.heap.size≤k_)) v0_ r∧Below w.heap.size w w':=by
 have hu30:=Tryd.underlying30
 have HR0_1:=zz31 hr0_1
 have HC0_1:=zz31 hc0_1
 clear hr0_1 hc0_1
 have HB:=zz31 (Below.refl w.heap.size w)
 have H:((spec_paTable.f k a0_0 l0_1).bind fun t292=>(spec_trGreatest.l0 k t292 a0_0))=some r:=h
 clear h
 replace H:=zz30.mp H
 obtain ⟨t292,A20,H⟩:=H
 replace H:(spec_trGreatest.l0 k t292 a0_0)=some r:=H
 have A2:=zz31 A20
 clear A20
 have H':=zz31 H
 clear H
 go_enter Tryd.func50,Tryd.ntmps50
 go_wp2_with (first | ((with_reducible refine gate_dst (N:=1) rfl ?_);refine box_event ?hg (N:=1) ?hd (cs:=#[.int .i64 a0_0,.slice A0_1 l0_1.length c0_1]) (t:=30) ?hr ?_;(case hd=>rfl);(case hg=>rfl);(case hr=>first | (go_simp;done) | (go_simp;rfl));intro gb291 hg w3 hbox hb;have n0_:=zz31 (zz4 (by repeat first | exact HB.out | apply zz2 | apply zz0 | apply zz1) hb);have n1_:=zz31 (hbox);have n2_:=zz31 ((by rw [hg];exact (zz5 (by repeat first | exact HB.out | apply zz2 | apply zz0 | apply zz1)):w.heap.size≤gb291));have n3_:=zz31 ((by rw [hg];exact (zz5 (by repeat first | exact HB.out | apply zz2 | apply zz0 | apply zz1)):w.heap.size≤gb291));clear HB;have HB:=n0_;have BK291:=n1_;have GW291:=n2_;have GE291:=n3_;clear n0_ n1_ n2_ n3_;clear hb hbox hg;have hcz4_0:w3.cell? ⟨gb291,0,none⟩=some (.int .i64 a0_0):=(zz9 BK291.out 0).trans rfl;have hcz4_1:w3.cell? ⟨gb291,1,none⟩=some (.slice A0_1 l0_1.length c0_1):=(zz9 BK291.out 1).trans rfl;have hfz4_0:=zz10 BK291.out 0;have hfz4_1:=zz10 BK291.out 1) | ((with_reducible refine gate_callee (f:=33) rfl ?_);refine goesL_ (some 7) rfl rfl Tryd.func33 (by kernel_rfl) rfl #[.agg #[.int .i64 a0_0,.slice A0_1 l0_1.length c0_1]] rfl (by (try simp only [zz26,zz27,zz28]);first | done | rfl | (simp only [zz24,zz25];rfl)) ?_;(with_reducible refine (spec_paTable.calls k a0_0 _ _ l0_1 t292 _ ?side1 ?side2 A2.out).mono ?_);(case side1=>repeat (first | exact (Kd.C_below HR0_1.out HB.out) | (with_reducible refine zz18 ?_ _) | (with_reducible refine zz19 ?_ _) | (with_reducible refine zz20 ?_)));(case side2=>exact HC0_1.out);rintro e w5 ⟨v293,rfl,ho0,hb⟩;refine ⟨_,rfl,?_⟩;have n0_:=zz31 (Kd.N_lower (Kd.N_mono (ok':=fun k_=>(w.heap.size≤k_)∧k_ ≠ gb291) (Kd.S_N (Kd.S_bound ho0)) (fun k_ hk_=>⟨(Nat.le_trans (zz5 (by repeat first | exact HB.out | apply zz2 | apply zz0 | apply zz1 | refine zz3 ?_ GE291.out)) hk_.2.1),(Kd.freshB (g:=gb291) (o:=.cells #[.int .i64 a0_0,.slice A0_1 l0_1.length c0_1] 30 (0,0)) (by (with_reducible repeat (first | refine zz6 ?_ _ | refine zz7 ?_ | refine zz8 ?_ _));exact BK291.out) k_ hk_.2.1)⟩)) (zz5 (by repeat first | exact HB.out | apply zz2 | apply zz0 | apply zz1 | refine zz3 ?_ GE291.out)));have n1_:=zz31 (zz11 (g:=gb291) (o:=.cells #[.int .i64 a0_0,.slice A0_1 l0_1.length c0_1] 30 (0,0)) (by (with_reducible repeat (first | refine zz6 ?_ _ | refine zz7 ?_ | refine zz8 ?_ _));exact BK291.out) hb);have n2_:=zz31 (zz4 (by repeat first | exact HB.out | apply zz2 | apply zz0 | apply zz1 | refine zz3 ?_ GE291.out) hb);clear BK291;clear HB;have HO294:=n0_;have BK291:=n1_;have HB:=n2_;clear n0_ n1_ n2_;(try clear hb);(try clear hb2);(try clear hk);(try clear hi);(try clear ho0);have hcz6_0:w5.cell? ⟨gb291,0,none⟩=some (.int .i64 a0_0):=(zz9 BK291.out 0).trans rfl;have hcz6_1:w5.cell? ⟨gb291,1,none⟩=some (.slice A0_1 l0_1.length c0_1):=(zz9 BK291.out 1).trans rfl;have hfz6_0:=zz10 BK291.out 0;have hfz6_1:=zz10 BK291.out 1))
 go_loopg [4] k (fun kq v4 w'=>∃ (x4_1:Int),v4=.int .i64 x4_1∧Aside0 (spec_trGreatest.l0 kq t292 x4_1=some r)∧Aside0 (kq≤k)∧Aside0 (Kd.N (Kd.slice 4 Kd.bool) 68 w' w.heap.size (fun k_=>(w.heap.size≤k_)∧k_ ≠ gb291) v293 t292)∧Aside0 (w'.heap[gb291]?=some (.cells #[.int .i64 a0_0,(.slice A0_1 l0_1.length c0_1)] 30 (0,0)))∧Aside0 (Below w.heap.size w w'))
 case atStart=>exact ⟨(a0_0),(by first | rfl | (simp;done) | (simp [*];done)),H',⟨Nat.le_refl _⟩,⟨by (with_reducible repeat (first | apply Kd.N_alloc | apply Kd.N_drewN | apply Kd.N_drew));exact HO294.out⟩,⟨by (with_reducible repeat (first | refine zz6 ?_ _ | refine zz7 ?_ | refine zz8 ?_ _));exact BK291.out⟩,⟨by repeat first | exact HB.out | apply zz2 | apply zz0 | apply zz1 | refine zz3 ?_ GE291.out⟩⟩
 case round =>
  clear H'
  try clear p2
  try clear c3
  try clear c5
  try clear hcz4_0
  try clear hcz4_1
  try clear hcz6_0
  try clear hcz6_1
  try clear hfz4_0
  try clear hfz4_1
  try clear hfz6_0
  try clear hfz6_1
  obtain ⟨x4_1,rfl,HA,HK1,HO_3,BK291,HB⟩:=hrel
  cases gk with
  | zero=>exact absurd HA.out (by simp [spec_trGreatest.l0])
  | succ k1 =>
   have H:=HA.out
   clear HA
   simp only [spec_trGreatest.l0] at H
   by_cases c7:x4_1 > 0
   ·rw [if_pos c7] at H
    have c7b0:decide (0 < x4_1)=true:=decide_eq_true c7
    clear c7
    replace H:=zz30.mp H
    obtain ⟨t295,A80,H⟩:=H
    replace H:(if (t295.length:Int) > 0 then (if 0 < (t295.length:Int) then (some (rd_L5 t295 0)) else (none)) else (spec_trGreatest.l0 k1 t292 (wrap64 (x4_1 - 1))))=some r:=H
    have A8:=zz31 A80
    clear A80
    by_cases c9:(t295.length:Int) > 0
    ·rw [if_pos c9] at H
     have c9b0:decide (0 < (t295.length:Int))=true:=decide_eq_true c9
     have c9n0:decide (0 < t295.length)=true:=by have:=c9b0;simpa using this
     have c9p0:0 < t295.length:=zz29 c9n0
     have c9q0:(0 < t295.length)=True:=eq_true c9p0
     have c9b1:decide (0 < t295.length)=true:=decide_eq_true (by omega)
     clear c9
     by_cases c10:0 < (t295.length:Int)
     ·rw [if_pos c10] at H
      have c10b0:decide (0 < (t295.length:Int))=true:=decide_eq_true c10
      have c10n0:decide (0 < t295.length)=true:=by have:=c10b0;simpa using this
      have c10p0:0 < t295.length:=zz29 c10n0
      have c10q0:(0 < t295.length)=True:=eq_true c10p0
      have c10b1:decide (0 < t295.length)=true:=decide_eq_true (by omega)
      clear c10
      obtain rfl:=Option.some.inj H
      obtain ⟨Ao11,co11,eo11⟩:=Kd.N_slice HO_3.out
      subst eo11
      go_wp2_with (first | ((with_reducible refine gate_callee (f:=32) rfl ?_);refine goesL_ (some 16) rfl rfl Tryd.func32 (by kernel_rfl) rfl #[.slice Ao11 t292.length co11,.slice none 0 0,.int .i64 x4_1] rfl (by (try simp only [zz26,zz27,zz28]);first | done | rfl | (simp only [zz24,zz25];rfl)) ?_;(refine (spec_trGroups.calls k1 _ _ t292 _ _ ([]:List Int) x4_1 t295 _ ?side1 ?side2 ?side3 ?side4 A8.out).mono ?_);(case side1=>repeat (first | exact (Kd.N_reads' HO_3.out).2.2 | (with_reducible refine zz18 ?_ _) | (with_reducible refine zz19 ?_ _) | (with_reducible refine zz20 ?_)));(case side2=>exact (Kd.N_reads' HO_3.out).2.1);(case side3=>exact Kd.C_nil _ _);(case side4=>exact Nat.le_refl _);rintro e w12 ⟨v296,rfl,ho0,hb⟩;refine ⟨_,rfl,?_⟩;have n0_:=zz31 (Kd.N_elder' (by (with_reducible repeat (first | apply Kd.N_alloc | apply Kd.N_drewN | apply Kd.N_drew));exact HO_3.out) (Kd.N_base ho0) hb);have n1_:=zz31 (Kd.N_lower (Kd.N_mono (ok':=fun k_=>(w.heap.size≤k_)∧some k_ ≠ (.slice Ao11 t292.length co11:Value).ownBlock∧k_ ≠ gb291) ho0 (fun k_ hk_=>⟨(Nat.le_trans (zz5 (by repeat first | exact HB.out | apply zz2 | apply zz0 | apply zz1 | refine zz3 ?_ GE291.out)) hk_),(Kd.fresh' (Kd.N_lt (by (with_reducible repeat (first | apply Kd.N_alloc | apply Kd.N_drewN | apply Kd.N_drew));exact HO_3.out)) k_ hk_),(Kd.freshB (g:=gb291) (o:=.cells #[.int .i64 a0_0,.slice A0_1 l0_1.length c0_1] 30 (0,0)) (by (with_reducible repeat (first | refine zz6 ?_ _ | refine zz7 ?_ | refine zz8 ?_ _));exact BK291.out) k_ hk_)⟩)) (zz5 (by repeat first | exact HB.out | apply zz2 | apply zz0 | apply zz1 | refine zz3 ?_ GE291.out)));have n2_:=zz31 (zz11 (g:=gb291) (o:=.cells #[.int .i64 a0_0,.slice A0_1 l0_1.length c0_1] 30 (0,0)) (by (with_reducible repeat (first | refine zz6 ?_ _ | refine zz7 ?_ | refine zz8 ?_ _));exact BK291.out) hb);have n3_:=zz31 (zz4 (by repeat first | exact HB.out | apply zz2 | apply zz0 | apply zz1 | refine zz3 ?_ GE291.out) hb);clear HO_3;clear BK291;clear HB;have HO_3:=n0_;have HO297:=n1_;have BK291:=n2_;have HB:=n3_;clear n0_ n1_ n2_ n3_;(try clear hb);(try clear hb2);(try clear hk);(try clear hi);(try clear ho0);obtain ⟨Ao13,co13,eo13⟩:=Kd.N_slice HO297.out;subst eo13;have p298:0≤(0:Int):=(by omega);have q298:0 < (t295.length:Int):=zz29 (by first | (with_reducible assumption) | assumption);obtain ⟨ad298,A298_0,c298_0,e298,hx298_0,hl298_0,hi298_0⟩:=at_L5 (Kd.N_reads' HO297.out).2.2 0 p298 q298;cases e298;obtain ⟨ce298,hce298,hMe298,hcc298⟩:=Kd.N_get HO297.out [] 0 p298 (by first | exact q298 | exact zz29 (by first | (with_reducible assumption) | assumption) | (have e_:=(Kd.N_reads' HO297.out).1;omega));obtain ⟨ua298_0,uc298_0,rfl,ul298_0,ge298_0⟩:=Kd.FK_slice_open hMe298;have hv298_0:=hcc298 0 _ rfl;rw [Nat.add_zero,show ((Kd.slice 3 (Kd.int .i64))).sz=1 from rfl,Nat.mul_one] at hv298_0;replace hv298_0:=Option.some.inj (hv298_0.symm.trans hx298_0);injection hv298_0 with hva_ hvn_ hvc_;rw [hva_] at ge298_0;rw [hvc_] at ul298_0;have HL298_0:=zz31 (show Kd.V (Kd.int .i64) 3 _ w.heap.size _ _ (rd_L5 t295 0) from Kd.V_mk ul298_0 ge298_0);clear hva_ hvn_ hvc_ ge298_0 ul298_0;clear hcc298 hce298;have qi298:(0 < t295.length)=True:=eq_true (by omega);(try rw [show ((0:Int)).toNat=0 from rfl] at hx298_0);(try rw [Addr.add_zero'] at hx298_0);have HR298_0:=zz31 hi298_0;have HC298_0:=zz31 hl298_0;clear hi298_0 hl298_0;replace p298:=eq_true p298;replace q298:=eq_true q298))
      go_ret
      exact ⟨_,by first | rfl | (simp [errW_none,errW_some] <;> rfl) | (simp [*,errW_none,errW_some] <;> rfl),by (with_reducible repeat (first | apply Kd.V_alloc | apply Kd.V_drewN | apply Kd.V_drew));exact Kd.V_mono HL298_0.out (fun _ hk=>hk.1.1),by repeat first | exact HB.out | apply zz2 | apply zz0 | apply zz1 | refine zz3 ?_ GE291.out⟩
     ·rw [if_neg c10] at H
      exact absurd H (by simp)
    ·rw [if_neg c9] at H
     have c9b0:decide (0 < (t295.length:Int))=false:=decide_eq_false c9
     have c9n0:decide (0 < t295.length)=false:=by have:=c9b0;simpa using this
     have c9p0:¬ (0 < t295.length):=of_decide_eq_false c9n0
     have c9q0:(0 < t295.length)=False:=eq_false c9p0
     have c9b1:decide (0 < t295.length)=false:=decide_eq_false (by omega)
     clear c9
     have H':=zz31 H
     clear H
     obtain ⟨Ao14,co14,eo14⟩:=Kd.N_slice HO_3.out
     subst eo14
     go_wp2_with (first | ((with_reducible refine gate_callee (f:=32) rfl ?_);refine goesL_ (some 16) rfl rfl Tryd.func32 (by kernel_rfl) rfl #[.slice Ao14 t292.length co14,.slice none 0 0,.int .i64 x4_1] rfl (by (try simp only [zz26,zz27,zz28]);first | done | rfl | (simp only [zz24,zz25];rfl)) ?_;(refine (spec_trGroups.calls k1 _ _ t292 _ _ ([]:List Int) x4_1 t295 _ ?side1 ?side2 ?side3 ?side4 A8.out).mono ?_);(case side1=>repeat (first | exact (Kd.N_reads' HO_3.out).2.2 | (with_reducible refine zz18 ?_ _) | (with_reducible refine zz19 ?_ _) | (with_reducible refine zz20 ?_)));(case side2=>exact (Kd.N_reads' HO_3.out).2.1);(case side3=>exact Kd.C_nil _ _);(case side4=>exact Nat.le_refl _);rintro e w15 ⟨v296,rfl,ho0,hb⟩;refine ⟨_,rfl,?_⟩;have n0_:=zz31 (Kd.N_elder' (by (with_reducible repeat (first | apply Kd.N_alloc | apply Kd.N_drewN | apply Kd.N_drew));exact HO_3.out) (Kd.N_base ho0) hb);have n1_:=zz31 (Kd.N_lower (Kd.N_mono (ok':=fun k_=>(w.heap.size≤k_)∧some k_ ≠ (.slice Ao14 t292.length co14:Value).ownBlock∧k_ ≠ gb291) ho0 (fun k_ hk_=>⟨(Nat.le_trans (zz5 (by repeat first | exact HB.out | apply zz2 | apply zz0 | apply zz1 | refine zz3 ?_ GE291.out)) hk_),(Kd.fresh' (Kd.N_lt (by (with_reducible repeat (first | apply Kd.N_alloc | apply Kd.N_drewN | apply Kd.N_drew));exact HO_3.out)) k_ hk_),(Kd.freshB (g:=gb291) (o:=.cells #[.int .i64 a0_0,.slice A0_1 l0_1.length c0_1] 30 (0,0)) (by (with_reducible repeat (first | refine zz6 ?_ _ | refine zz7 ?_ | refine zz8 ?_ _));exact BK291.out) k_ hk_)⟩)) (zz5 (by repeat first | exact HB.out | apply zz2 | apply zz0 | apply zz1 | refine zz3 ?_ GE291.out)));have n2_:=zz31 (zz11 (g:=gb291) (o:=.cells #[.int .i64 a0_0,.slice A0_1 l0_1.length c0_1] 30 (0,0)) (by (with_reducible repeat (first | refine zz6 ?_ _ | refine zz7 ?_ | refine zz8 ?_ _));exact BK291.out) hb);have n3_:=zz31 (zz4 (by repeat first | exact HB.out | apply zz2 | apply zz0 | apply zz1 | refine zz3 ?_ GE291.out) hb);clear HO_3;clear BK291;clear HB;have HO_3:=n0_;have HO297:=n1_;have BK291:=n2_;have HB:=n3_;clear n0_ n1_ n2_ n3_;(try clear hb);(try clear hb2);(try clear hk);(try clear hi);(try clear ho0);obtain ⟨Ao16,co16,eo16⟩:=Kd.N_slice HO297.out;subst eo16))
     go_roundg k1
     case measure=>have:=HK1.out;omega
     case rel=>exact ⟨(wrap64 (x4_1 - 1)),(by first | rfl | (simp;done) | (simp [*];done)),H',⟨by have:=HK1.out;omega⟩,⟨by (with_reducible repeat (first | apply Kd.N_alloc | apply Kd.N_drewN | apply Kd.N_drew));exact Kd.N_mono HO_3.out (fun _ hk=>⟨hk.1.1,hk.1.2⟩)⟩,⟨by (with_reducible repeat (first | refine zz6 ?_ _ | refine zz7 ?_ | refine zz8 ?_ _));exact BK291.out⟩,⟨by repeat first | exact HB.out | apply zz2 | apply zz0 | apply zz1 | refine zz3 ?_ GE291.out⟩⟩
   ·rw [if_neg c7] at H
    have c7b0:decide (0 < x4_1)=false:=decide_eq_false c7
    clear c7
    obtain rfl:=Option.some.inj H
    go_wp2
    go_ret
    exact ⟨.slice none 0 0,by first | rfl | (simp [errW_none,errW_some] <;> rfl) | (simp [*,errW_none,errW_some] <;> rfl),Kd.R_V (Kd.R_nil _ _ _ 0 _),by repeat first | exact HB.out | apply zz2 | apply zz0 | apply zz1 | refine zz3 ?_ GE291.out⟩

-- NOT PRINTED: function 73 (impl_table_greatest_1)

/-! ### impl_table_greatest: function 51 (a contract of our own) -/
def greatStep (s:List Int) (cs:List Int):List Int:=if s.length < cs.length then cs else s
def GreatI (B0 bb:Nat) (s:List Int) (own:Nat→Prop) (W:World):Prop :=
 own=(fun i=>i=bb)∧bb ≠ 0∧∃ A c,W.heap[bb]?=some (.cells #[.slice A s.length c] 34 (0,0))∧(Kd.int .i64).R 3 W B0 (fun k=>¬ k=bb) (.slice A s.length c) s
theorem GreatI.below {B0 bb:Nat} {s:List Int} {own:Nat→Prop} {W W':World} (h:GreatI B0 bb s own W) (hb:Below W.heap.size W W'):GreatI B0 bb s own W':=by
 obtain ⟨h1,h0,A,c,h3,h4⟩:=h
 exact ⟨h1,h0,A,c,zz11 h3 hb,Kd.R_below h4 hb⟩
theorem GreatI.lt {B0 bb:Nat} {s:List Int} {own:Nat→Prop} {W:World} (h:GreatI B0 bb s own W):∀ i,own i→i < W.heap.size:=by
 obtain ⟨h1,h0,A,c,h3,h4⟩:=h
 subst h1
 rintro i rfl
 exact blk_lt h3
theorem GreatI.tab {B0 bb:Nat} {s:List Int} {own:Nat→Prop} {W:World} (h:GreatI B0 bb s own W):¬ own 0:=by
 obtain ⟨h1,h0,_⟩:=h
 subst h1
 exact fun h=>h0 h.symm
theorem GreatI.put {B0 bb:Nat} {s:List Int} {W:World} (h:GreatI B0 bb s (fun i=>i=bb) W) (A:Option Addr) (c:Nat) (cs:List Int) (hR:(Kd.int .i64).R 3 W B0 (fun k=>¬ k=bb) (.slice A cs.length c) cs) :
  GreatI B0 bb cs (fun i=>i=bb) (W.setCell ⟨bb,0,none⟩ (.slice A cs.length c))∧Fr (fun i=>i=bb) (fun i=>i=bb) W (W.setCell ⟨bb,0,none⟩ (.slice A cs.length c)):=by
 obtain ⟨h1,h0,A0,c0,h3,h4⟩:=h
 refine ⟨⟨rfl,h0,A,c,blk_set h3 0 _,Kd.R_far hR (fun k hk he=>hk he) _⟩,rfl,rfl,rfl,by simp [World.setCell],fun i hi hn=>?_,fun i hi=>.inl hi⟩
 rw [Below.heap_setCell _ _ _ i (fun he=>hn he)]
set_option maxHeartbeats 1000000 in
set_option maxRecDepth 100000 in
theorem great_each (B0 bb:Nat):EachGrp (List Int) 73 #[.pointer (some ⟨bb,0,none⟩)] B0 (GreatI B0 bb) greatStep:=by
 intro s own W A c cs hI hB hc8 hR
 obtain ⟨rfl,h0,A0,c0,h3,h4⟩:=hI
 have f3:=zz9 h3 0
 have f4:=zz10 h3 0
 simp only [List.getElem?_toArray,List.getElem?_cons_zero] at f3
 have HP:=zz31 (GreatI.put ⟨rfl,h0,A0,c0,h3,h4⟩ A c cs hR)
 have H0:=zz31 (show GreatI B0 bb s (fun i=>i=bb) W from ⟨rfl,h0,A0,c0,h3,h4⟩)
 clear h0 h3 h4 hR
 by_cases q1:s.length < cs.length
 ·have q1z:(s.length:Int) < (cs.length:Int):=by omega
  have HQ:=zz31 q1
  go_enter Tryd.func73,Tryd.ntmps73
  go_wp2
  exact bodyPost_end (results_none rfl _ _ _) rfl ⟨rfl,_,by rw [greatStep,if_pos HQ.out];exact HP.out.1,HP.out.2⟩
 ·have q1z:¬ (s.length:Int) < (cs.length:Int):=by omega
  have HQ:=zz31 q1
  go_enter Tryd.func73,Tryd.ntmps73
  go_wp2
  exact bodyPost_end (results_none rfl _ _ _) rfl ⟨rfl,_,by rw [greatStep,if_neg HQ.out];exact H0.out,Fr.refl _ _⟩
theorem Tz.pos {w:World} (h:Tz w):0 < w.heap.size:=World.block_lt_of_cell? w _ (h 0 (by decide))
def impl_table_greatest.f (l0:List Int):Option (List Int):=if l0.length≤12∧gokB l0 17 (fullOf l0)=true then some ((grs l0 17 [] (fullOf l0)).foldl greatStep []) else none
set_option maxHeartbeats 1000000 in
set_option maxRecDepth 100000 in
theorem impl_table_greatest.calls (A0:Option Addr) (c0:Nat) (l0:List Int) (r:List Int) (w:World) (hr0:Kd.C (Kd.int .u16) w A0 l0.length l0) (hc0:l0.length≤c0) (h:impl_table_greatest.f l0=some r) (hT:Tz w) :
  Calls Tryd.prog 51 #[.slice A0 l0.length c0] w fun e w'=>∃ v0_:Value,e=.returned v0_∧Kd.R (Kd.int .i64) 3 w' w.heap.size (fun _=>True) v0_ r∧Below w.heap.size w w':=by
 unfold impl_table_greatest.f at h
 by_cases hl:l0.length≤12∧gokB l0 17 (fullOf l0)=true
 case neg=>rw [if_neg hl] at h;exact absurd h (by simp)
 rw [if_pos hl] at h
 injection h with h
 have CG:Aside0 (∀ (Wx:World) (bb:Nat) (A:Option Addr) (c:Nat),Below w.heap.size w Wx→w.heap.size≤bb→Wx.heap[bb]?=some (.cells #[.slice A ([]:List Int).length c] 34 (0,0))→(Kd.int .i64).R 3 Wx w.heap.size (fun k=>¬ k=bb) (.slice A ([]:List Int).length c) [] →
   Calls Tryd.prog 38 #[.slice A0 l0.length c0,.func (.func 73) #[] #[.pointer (some ⟨bb,0,none⟩)]] Wx fun e W'=>e=.returned (.tuple #[])∧∃ v,W'.cell? ⟨bb,0,none⟩=some v∧Kd.R (Kd.int .i64) 3 W' w.heap.size (fun _=>True) v r∧Below w.heap.size w W'):=⟨fun Wx bb A c hb hbb hcell hR=>by
  have hz:=hT.pos
  have hs:GreatI w.heap.size bb [] (fun i=>i=bb) Wx:=⟨rfl,by omega,A,c,hcell,hR⟩
  have hTt:ReadApart .u16 (fun i=>i=bb) Wx A0 l0.length l0:=by
   have h0:ReadApart .u16 (fun i=>False) w A0 l0.length l0:=⟨hr0,fun _ _ _ h=>h⟩
   have h1:=h0.fr (own':=fun i=>i=bb) (w':=w) ⟨rfl,rfl,rfl,Nat.le_refl _,fun _ _ _=>rfl,fun i hi=>.inr (by omega)⟩
   exact h1.fr (Fr.of_below _ hb)
  exact (groups_calls (List Int) 73 #[.pointer (some ⟨bb,0,none⟩)] (fun _ _=>rfl) w.heap.size (GreatI w.heap.size bb) greatStep (great_each _ _) (fun _ _ _ _ h hb=>h.below hb) (fun _ _ _ h=>h.lt) (fun _ _ _ h=>h.tab) l0 hl.1 A0 c0 [] _ Wx hTt hc0 hl.2 (hT.below hb) hs hb.size).mono fun e W' ⟨h1,own',h2,h3⟩=>by
   rw [h] at h2
   obtain ⟨g1,g0,A1,c1,g3,g4⟩:=h2
   exact ⟨h1,_,zz9 g3 0,Kd.R_mono g4 (fun _ _=>trivial),hb.trans (h3.below hb.size (fun i hi=>by omega))⟩⟩
 have hf1:((w.alloc (.cells #[] 3)).alloc (.cells #[.slice none 0 0] 34)).frozen? ⟨w.heap.size+1,0,none⟩=false:=by
  have e:(w.alloc (.cells #[] 3)).heap.size=w.heap.size+1:=by simp
  rw [← e];exact frozen_new _ _ _ 0
 have HW:=zz31 (show Below w.heap.size w ((w.alloc (.cells #[] 3)).alloc (.cells #[.slice (some ⟨w.heap.size,0,none⟩) 0 0] 34))∧((w.alloc (.cells #[] 3)).alloc (.cells #[.slice (some ⟨w.heap.size,0,none⟩) 0 0] 34)).heap[w.heap.size+1]?=some (.cells #[.slice (some ⟨w.heap.size,0,none⟩) ([]:List Int).length 0] 34 (0,0)) ∧
   (Kd.int .i64).R 3 ((w.alloc (.cells #[] 3)).alloc (.cells #[.slice (some ⟨w.heap.size,0,none⟩) 0 0] 34)) w.heap.size (fun k=>¬ k=w.heap.size+1) (.slice (some ⟨w.heap.size,0,none⟩) ([]:List Int).length 0) [] from by
  have e:(w.alloc (.cells #[] 3)).heap.size=w.heap.size+1:=by simp
  have b1:=blk_new (w.alloc (.cells #[] 3)) (.cells #[.slice (some ⟨w.heap.size,0,none⟩) 0 0] 34)
  rw [e] at b1
  exact ⟨zz2 (zz2 (Below.refl _ _) _) _,b1,zz12 (R_lit0 rfl (Nat.le_refl _) (by omega)) _⟩)
 clear h hr0 hc0 hT hl
 go_enter Tryd.func51,Tryd.ntmps51
 go_wp2_with (first | (go_at_call 38; refine (CG.out _ (w.heap.size + 1) _ _ HW.out.1 (Nat.le_succ _) HW.out.2.1 HW.out.2.2).mono ?_; rintro e w' ⟨rfl, v, hc, hR, hb⟩; have HR := zz31 hR; have HB := zz31 hb; clear hR hb) | (fail "no arm"))
 refine bodyPost_ret (results_tmp rfl _ _ _) rfl ?_
 exact ⟨v,rfl,Kd.R_below HR.out (by repeat first | exact Below.refl _ _ | apply zz0 | apply below_drew),HB.out.trans (by repeat first | exact (Below.refl _ _).mono HB.out.size | apply zz0 | apply below_drew)⟩

end Go.Proofs.YtifkaefccghgdaaDoor.P
