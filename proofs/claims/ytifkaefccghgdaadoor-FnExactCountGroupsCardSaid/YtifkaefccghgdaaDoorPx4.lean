-- PRINTED by print.py (a twelfth state) out of the translation. Not trusted: Lean checks it.
import Derived.Test.YtifkaefccghgdaaDoorPx0
import Derived.Test.YtifkaefccghgdaaDoorPx1
import Derived.Test.YtifkaefccghgdaaDoorPx2
import Derived.Test.YtifkaefccghgdaaDoorPx3
import Derived.Test.YtifkaefccghgdaaDoorPx5
import Derived.Test.YtifkaefccghgdaaDoorPx6
import Derived.Test.YtifkaefccghgdaaDoorPx7
namespace Go.Proofs.YtifkaefccghgdaaDoor.P
open Go.RowKit Go.Proofs.YtifkaefccghgdaaDoorW.PrintWords Go.Proofs.YtifkaefccghgdaaDoorW.PrintLast Go.Proofs.YtifkaefccghgdaaDoorW.PrintMore
open Bool renaming true → T, false → F
attribute [local go_sem] max2_int min2_int max_two min_two max_three min_three max_four min_four   -- for this text's walks alone
set_option linter.unusedVariables false
set_option linter.unusedSimpArgs false

/-! ### spec_CountGroups: function 10 -/
def spec_CountGroups.j0:Nat→Int→Bool→Int→List (S74)→Option (Int × Bool)
 | 0,_,_,_,_=>none
 | k+1,x1,x13,x161000,x161001=>if x13=true then (some (0,false)) else ((spec_paTable.f k x161000 x161001).bind fun t163=>((spec_trGroups.f k t163 ([]:List Int) x1).bind fun t166=>(some ((t166.length:Int),true))))
def spec_CountGroups.f (k:Nat) (a0_0:Int) (l0_1:List (S74)) (a1:Int):Option (Int × Bool):=(spec_paGood.f k a0_0 l0_1).bind fun t161=>(if t161=true then ((spec_paPeople.f a1).bind fun t162=>(spec_CountGroups.j0 k a1 (!t162) a0_0 l0_1)) else (spec_CountGroups.j0 k a1 true a0_0 l0_1))
theorem spec_CountGroups.mono_l:∀ k,(∀ y0 y1 y2 y3,LeO (spec_CountGroups.j0 k y0 y1 y2 y3) (spec_CountGroups.j0 (k+1) y0 y1 y2 y3))
 | 0=>fun _ _ _ _ r h=>by simp [spec_CountGroups.j0] at h
 | k+1=>by
  have ih0:=spec_CountGroups.mono_l k
  ·intro y0 y1 y2 y3
   unfold spec_CountGroups.j0
   repeat' first
   | (with_reducible exact ih0 _ _ _ _)
   | (with_reducible exact spec_paGood.mono _ _ _)
   | (with_reducible exact spec_paTable.mono _ _ _)
   | (with_reducible exact spec_trGroups.mono _ _ _ _)
   | (with_reducible exact LeO.refl _)
   | (with_reducible exact LeO.none _)
   | (with_reducible refine LeO.ite ?_ ?_)
   | (with_reducible refine LeO.bind ?_ (fun _=>?_))
   | exact ih0 _ _ _ _
   | exact spec_paGood.mono _ _ _
   | exact spec_paTable.mono _ _ _
   | exact spec_trGroups.mono _ _ _ _
   | exact LeO.none _
   | refine LeO.ite ?_ ?_
   | refine LeO.bind ?_ (fun _=>?_)
theorem spec_CountGroups.mono:∀ a0 a1 a2 k,LeO (spec_CountGroups.f k a0 a1 a2) (spec_CountGroups.f (k+1) a0 a1 a2):=by
 intro a0 a1 a2 k
 have ih0:=spec_CountGroups.mono_l k
 unfold spec_CountGroups.f
 repeat' first
   | (with_reducible exact ih0 _ _ _ _)
   | (with_reducible exact spec_paGood.mono _ _ _)
   | (with_reducible exact spec_paTable.mono _ _ _)
   | (with_reducible exact spec_trGroups.mono _ _ _ _)
   | (with_reducible exact LeO.refl _)
   | (with_reducible exact LeO.none _)
   | (with_reducible refine LeO.ite ?_ ?_)
   | (with_reducible refine LeO.bind ?_ (fun _=>?_))
   | exact ih0 _ _ _ _
   | exact spec_paGood.mono _ _ _
   | exact spec_paTable.mono _ _ _
   | exact spec_trGroups.mono _ _ _ _
   | exact LeO.none _
   | refine LeO.ite ?_ ?_
   | refine LeO.bind ?_ (fun _=>?_)
set_option maxHeartbeats 8000000 in
set_option maxRecDepth 100000 in
theorem spec_CountGroups.calls (k:Nat) (a0_0:Int) (A0_1:Option Addr) (c0_1:Nat) (l0_1:List (S74)) (a1:Int) (r1:Int) (r2:Bool) (w:World) (hr0_1:Kd.C k74 w A0_1 l0_1.length l0_1) (hc0_1:l0_1.length≤c0_1) (h:spec_CountGroups.f k a0_0 l0_1 a1=some (r1,r2)) :
  Calls Tryd.prog 10 #[.agg #[.int .i64 a0_0,.slice A0_1 l0_1.length c0_1],.int .i64 a1] w fun e w'=>e=.returned (.tuple #[.int .i64 r1,.bool r2])∧Below w.heap.size w w':=by
 have hu30:=Tryd.underlying30
 have HR0_1:=zz31 hr0_1
 have HC0_1:=zz31 hc0_1
 clear hr0_1 hc0_1
 have HB:=zz31 (Below.refl w.heap.size w)
 have H:((spec_paGood.f k a0_0 l0_1).bind fun t161=>(if t161=true then ((spec_paPeople.f a1).bind fun t162=>(spec_CountGroups.j0 k a1 (!t162) a0_0 l0_1)) else (spec_CountGroups.j0 k a1 true a0_0 l0_1)))=some (r1,r2):=h
 clear h
 have HC3:=zz31 H
 clear H
 go_enter Tryd.func10,Tryd.ntmps10
 go_upto_region 1 with (first | ((with_reducible refine gate_dst (N:=2) rfl ?_);refine box_event ?hg (N:=2) ?hd (cs:=#[.int .i64 a0_0,.slice A0_1 l0_1.length c0_1]) (t:=30) ?hr ?_;(case hd=>rfl);(case hg=>rfl);(case hr=>first | (go_simp;done) | (go_simp;rfl));intro gb160 hg w4 hbox hb;have n0_:=zz31 (zz4 (by repeat first | exact HB.out | apply zz2 | apply zz0 | apply zz1) hb);have n1_:=zz31 (hbox);have n2_:=zz31 ((by rw [hg];exact (zz5 (by repeat first | exact HB.out | apply zz2 | apply zz0 | apply zz1)):w.heap.size≤gb160));have n3_:=zz31 ((by rw [hg];exact (zz5 (by repeat first | exact HB.out | apply zz2 | apply zz0 | apply zz1)):w.heap.size≤gb160));clear HB;have HB:=n0_;have BK160:=n1_;have GW160:=n2_;have GE160:=n3_;clear n0_ n1_ n2_ n3_;clear hb hbox hg))
 (try simp only [Act.put,zz21,zz22,zz23])
 go_cut [13] (fun v13 wc=>∃ (kq:Nat) (x13_2:Bool),v13=.bool x13_2∧Aside0 (spec_CountGroups.j0 kq a1 x13_2 a0_0 l0_1=some (r1,r2))∧Aside0 (kq≤k)∧Aside0 (wc.heap[gb160]?=some (.cells #[.int .i64 a0_0,(.slice A0_1 l0_1.length c0_1)] 30 (0,0)))∧Aside0 (Below w.heap.size w wc))
 case first =>
  have H:=HC3.out
  clear HC3
  replace H:=zz30.mp H
  obtain ⟨t161,A50,H⟩:=H
  replace H:(if t161=true then ((spec_paPeople.f a1).bind fun t162=>(spec_CountGroups.j0 k a1 (!t162) a0_0 l0_1)) else (spec_CountGroups.j0 k a1 true a0_0 l0_1))=some (r1,r2):=H
  have A5:=zz31 A50
  clear A50
  by_cases c6:t161=true
  ·subst c6
   have H1:((spec_paPeople.f a1).bind fun t162=>(spec_CountGroups.j0 k a1 (!t162) a0_0 l0_1))=some (r1,r2):=by rw [if_pos rfl] at H;exact H
   clear H
   have H:=H1
   clear H1
   replace H:=zz30.mp H
   obtain ⟨t162,A70,H⟩:=H
   replace H:(spec_CountGroups.j0 k a1 (!t162) a0_0 l0_1)=some (r1,r2):=H
   have A7:=zz31 A70
   clear A70
   have H':=zz31 H
   clear H
   have hcz8_0:w4.cell? ⟨gb160,0,none⟩=some (.int .i64 a0_0):=(zz9 BK160.out 0).trans rfl
   have hcz8_1:w4.cell? ⟨gb160,1,none⟩=some (.slice A0_1 l0_1.length c0_1):=(zz9 BK160.out 1).trans rfl
   have hfz8_0:=zz10 BK160.out 0
   have hfz8_1:=zz10 BK160.out 1
   go_wp2_with (first | ((with_reducible refine gate_callee (f:=30) rfl ?_);refine goesL_ (some 7) rfl rfl Tryd.func30 (by kernel_rfl) rfl #[.agg #[.int .i64 a0_0,.slice A0_1 l0_1.length c0_1]] rfl (by (try simp only [zz26,zz27,zz28]);first | done | rfl | (simp only [zz24,zz25];rfl)) ?_;(with_reducible refine (spec_paGood.calls k a0_0 _ _ l0_1 true _ ?side1 ?side2 A5.out).mono ?_);(case side1=>repeat (first | exact (Kd.C_below HR0_1.out HB.out) | (with_reducible refine zz18 ?_ _) | (with_reducible refine zz19 ?_ _) | (with_reducible refine zz20 ?_)));(case side2=>exact HC0_1.out);rintro e w9 ⟨rfl,hb⟩;refine ⟨_,rfl,?_⟩;have n0_:=zz31 (zz11 (g:=gb160) (o:=.cells #[.int .i64 a0_0,.slice A0_1 l0_1.length c0_1] 30 (0,0)) (by (with_reducible repeat (first | refine zz6 ?_ _ | refine zz7 ?_ | refine zz8 ?_ _));exact BK160.out) hb);have n1_:=zz31 (zz4 (by repeat first | exact HB.out | apply zz2 | apply zz0 | apply zz1 | refine zz3 ?_ GE160.out) hb);clear BK160;clear HB;have BK160:=n0_;have HB:=n1_;clear n0_ n1_;(try clear hb);(try clear hb2);(try clear hk);(try clear hi)) | (go_at_call 31;(with_reducible refine (spec_paPeople.calls a1 t162 _ A7.out).mono ?_);rintro e w' ⟨rfl,⟨nd,rfl⟩⟩))
   go_meet
   case rel=>exact ⟨_,(!t162),(by first | rfl | (simp;done) | (simp [*];done)),H',⟨by first | omega | exact Nat.le_refl _⟩,⟨by (with_reducible repeat (first | refine zz6 ?_ _ | refine zz7 ?_ | refine zz8 ?_ _));exact BK160.out⟩,⟨by repeat first | exact HB.out | apply zz2 | apply zz0 | apply zz1 | refine zz3 ?_ GE160.out⟩⟩
  ·replace c6:=Bool.eq_false_iff.mpr c6
   subst c6
   have H1:(spec_CountGroups.j0 k a1 true a0_0 l0_1)=some (r1,r2):=by rw [if_neg (show ¬ (false=true) by decide)] at H;exact H
   clear H
   have H:=H1
   clear H1
   have H':=zz31 H
   clear H
   have hcz10_0:w4.cell? ⟨gb160,0,none⟩=some (.int .i64 a0_0):=(zz9 BK160.out 0).trans rfl
   have hcz10_1:w4.cell? ⟨gb160,1,none⟩=some (.slice A0_1 l0_1.length c0_1):=(zz9 BK160.out 1).trans rfl
   have hfz10_0:=zz10 BK160.out 0
   have hfz10_1:=zz10 BK160.out 1
   go_wp2_with (first | ((with_reducible refine gate_callee (f:=30) rfl ?_);refine goesL_ (some 7) rfl rfl Tryd.func30 (by kernel_rfl) rfl #[.agg #[.int .i64 a0_0,.slice A0_1 l0_1.length c0_1]] rfl (by (try simp only [zz26,zz27,zz28]);first | done | rfl | (simp only [zz24,zz25];rfl)) ?_;(with_reducible refine (spec_paGood.calls k a0_0 _ _ l0_1 false _ ?side1 ?side2 A5.out).mono ?_);(case side1=>repeat (first | exact (Kd.C_below HR0_1.out HB.out) | (with_reducible refine zz18 ?_ _) | (with_reducible refine zz19 ?_ _) | (with_reducible refine zz20 ?_)));(case side2=>exact HC0_1.out);rintro e w11 ⟨rfl,hb⟩;refine ⟨_,rfl,?_⟩;have n0_:=zz31 (zz11 (g:=gb160) (o:=.cells #[.int .i64 a0_0,.slice A0_1 l0_1.length c0_1] 30 (0,0)) (by (with_reducible repeat (first | refine zz6 ?_ _ | refine zz7 ?_ | refine zz8 ?_ _));exact BK160.out) hb);have n1_:=zz31 (zz4 (by repeat first | exact HB.out | apply zz2 | apply zz0 | apply zz1 | refine zz3 ?_ GE160.out) hb);clear BK160;clear HB;have BK160:=n0_;have HB:=n1_;clear n0_ n1_;(try clear hb);(try clear hb2);(try clear hk);(try clear hi)))
   go_meet
   case rel=>exact ⟨_,(true),(by first | rfl | (simp;done) | (simp [*];done)),H',⟨by first | omega | exact Nat.le_refl _⟩,⟨by (with_reducible repeat (first | refine zz6 ?_ _ | refine zz7 ?_ | refine zz8 ?_ _));exact BK160.out⟩,⟨by repeat first | exact HB.out | apply zz2 | apply zz0 | apply zz1 | refine zz3 ?_ GE160.out⟩⟩
 case rest =>
  clear HC3
  try clear c1
  try clear p2
  try clear c3
  try clear c6
  try clear c10
  try clear hcz10_0
  try clear hcz10_1
  try clear hcz8_0
  try clear hcz8_1
  try clear hfz10_0
  try clear hfz10_1
  try clear hfz8_0
  try clear hfz8_1
  obtain ⟨kq,x13_2,rfl,HA,HJ2,BK160,HB⟩:=hcut
  cases kq with
  | zero=>exact absurd HA.out (by simp [spec_CountGroups.j0])
  | succ kj2 =>
   have H:=HA.out
   clear HA
   simp only [spec_CountGroups.j0] at H
   by_cases c12:x13_2=true
   ·subst c12
    have H1:(some (0,false))=some (r1,r2):=by rw [if_pos rfl] at H;exact H
    clear H
    have H:=H1
    clear H1
    simp only [Option.some.injEq,Prod.mk.injEq] at H
    obtain ⟨rfl,rfl⟩:=H
    go_wp2
    go_ret2
    exact ⟨by first | rfl | (simp [errW_none,errW_some] <;> rfl) | (simp [*,errW_none,errW_some] <;> rfl),by repeat first | exact HB.out | apply zz2 | apply zz0 | apply zz1 | refine zz3 ?_ GE160.out⟩
   ·replace c12:=Bool.eq_false_iff.mpr c12
    subst c12
    have H1:((spec_paTable.f kj2 a0_0 l0_1).bind fun t163=>((spec_trGroups.f kj2 t163 ([]:List Int) a1).bind fun t166=>(some ((t166.length:Int),true))))=some (r1,r2):=by rw [if_neg (show ¬ (false=true) by decide)] at H;exact H
    clear H
    have H:=H1
    clear H1
    replace H:=zz30.mp H
    obtain ⟨t163,A130,H⟩:=H
    replace H:((spec_trGroups.f kj2 t163 ([]:List Int) a1).bind fun t166=>(some ((t166.length:Int),true)))=some (r1,r2):=H
    have A13:=zz31 A130
    clear A130
    replace H:=zz30.mp H
    obtain ⟨t166,A140,H⟩:=H
    replace H:(some ((t166.length:Int),true))=some (r1,r2):=H
    have A14:=zz31 A140
    clear A140
    simp only [Option.some.injEq,Prod.mk.injEq] at H
    obtain ⟨rfl,rfl⟩:=H
    have hcz15_0:wc.cell? ⟨gb160,0,none⟩=some (.int .i64 a0_0):=(zz9 BK160.out 0).trans rfl
    have hcz15_1:wc.cell? ⟨gb160,1,none⟩=some (.slice A0_1 l0_1.length c0_1):=(zz9 BK160.out 1).trans rfl
    have hfz15_0:=zz10 BK160.out 0
    have hfz15_1:=zz10 BK160.out 1
    go_wp2_with (first | ((with_reducible refine gate_callee (f:=33) rfl ?_);refine goesL_ (some 15) rfl rfl Tryd.func33 (by kernel_rfl) rfl #[.agg #[.int .i64 a0_0,.slice A0_1 l0_1.length c0_1]] rfl (by (try simp only [zz26,zz27,zz28]);first | done | rfl | (simp only [zz24,zz25];rfl)) ?_;(with_reducible refine (spec_paTable.calls kj2 a0_0 _ _ l0_1 t163 _ ?side1 ?side2 A13.out).mono ?_);(case side1=>repeat (first | exact (Kd.C_below HR0_1.out HB.out) | (with_reducible refine zz18 ?_ _) | (with_reducible refine zz19 ?_ _) | (with_reducible refine zz20 ?_)));(case side2=>exact HC0_1.out);rintro e w16 ⟨v164,rfl,ho0,hb⟩;refine ⟨_,rfl,?_⟩;have n0_:=zz31 (Kd.N_lower (Kd.N_mono (ok':=fun k_=>k_ ≠ gb160) (Kd.S_N (Kd.S_bound ho0)) (fun k_ hk_=>(Kd.freshB (g:=gb160) (o:=.cells #[.int .i64 a0_0,.slice A0_1 l0_1.length c0_1] 30 (0,0)) (by (with_reducible repeat (first | refine zz6 ?_ _ | refine zz7 ?_ | refine zz8 ?_ _));exact BK160.out) k_ hk_.2.1))) (zz5 (by repeat first | exact HB.out | apply zz2 | apply zz0 | apply zz1 | refine zz3 ?_ GE160.out)));have n1_:=zz31 (zz11 (g:=gb160) (o:=.cells #[.int .i64 a0_0,.slice A0_1 l0_1.length c0_1] 30 (0,0)) (by (with_reducible repeat (first | refine zz6 ?_ _ | refine zz7 ?_ | refine zz8 ?_ _));exact BK160.out) hb);have n2_:=zz31 (zz4 (by repeat first | exact HB.out | apply zz2 | apply zz0 | apply zz1 | refine zz3 ?_ GE160.out) hb);clear BK160;clear HB;have HO165:=n0_;have BK160:=n1_;have HB:=n2_;clear n0_ n1_ n2_;(try clear hb);(try clear hb2);(try clear hk);(try clear hi);(try clear ho0);obtain ⟨Ao17,co17,eo17⟩:=Kd.N_slice HO165.out;subst eo17) | ((with_reducible refine gate_callee (f:=32) rfl ?_);refine goesL_ (some 17) rfl rfl Tryd.func32 (by kernel_rfl) rfl #[.slice Ao17 t163.length co17,.slice none 0 0,.int .i64 a1] rfl (by (try simp only [zz26,zz27,zz28]);first | done | rfl | (simp only [zz24,zz25];rfl)) ?_;(refine (spec_trGroups.calls kj2 _ _ t163 _ _ ([]:List Int) a1 t166 _ ?side1 ?side2 ?side3 ?side4 A14.out).mono ?_);(case side1=>repeat (first | exact (Kd.N_reads' HO165.out).2.2 | (with_reducible refine zz18 ?_ _) | (with_reducible refine zz19 ?_ _) | (with_reducible refine zz20 ?_)));(case side2=>exact (Kd.N_reads' HO165.out).2.1);(case side3=>exact Kd.C_nil _ _);(case side4=>exact Nat.le_refl _);rintro e w18 ⟨v167,rfl,ho0,hb⟩;refine ⟨_,rfl,?_⟩;have n0_:=zz31 (Kd.N_elder' (by (with_reducible repeat (first | apply Kd.N_alloc | apply Kd.N_drewN | apply Kd.N_drew));exact HO165.out) (Kd.N_base ho0) hb);have n1_:=zz31 (Kd.N_lower (Kd.N_mono (ok':=fun k_=>some k_ ≠ (.slice Ao17 t163.length co17:Value).ownBlock∧k_ ≠ gb160) ho0 (fun k_ hk_=>⟨(Kd.fresh' (Kd.N_lt (by (with_reducible repeat (first | apply Kd.N_alloc | apply Kd.N_drewN | apply Kd.N_drew));exact HO165.out)) k_ hk_),(Kd.freshB (g:=gb160) (o:=.cells #[.int .i64 a0_0,.slice A0_1 l0_1.length c0_1] 30 (0,0)) (by (with_reducible repeat (first | refine zz6 ?_ _ | refine zz7 ?_ | refine zz8 ?_ _));exact BK160.out) k_ hk_)⟩)) (zz5 (by repeat first | exact HB.out | apply zz2 | apply zz0 | apply zz1 | refine zz3 ?_ GE160.out)));have n2_:=zz31 (zz11 (g:=gb160) (o:=.cells #[.int .i64 a0_0,.slice A0_1 l0_1.length c0_1] 30 (0,0)) (by (with_reducible repeat (first | refine zz6 ?_ _ | refine zz7 ?_ | refine zz8 ?_ _));exact BK160.out) hb);have n3_:=zz31 (zz4 (by repeat first | exact HB.out | apply zz2 | apply zz0 | apply zz1 | refine zz3 ?_ GE160.out) hb);clear HO165;clear BK160;clear HB;have HO165:=n0_;have HO168:=n1_;have BK160:=n2_;have HB:=n3_;clear n0_ n1_ n2_ n3_;(try clear hb);(try clear hb2);(try clear hk);(try clear hi);(try clear ho0);obtain ⟨Ao19,co19,eo19⟩:=Kd.N_slice HO168.out;subst eo19))
    go_ret2
    exact ⟨by first | rfl | (simp [errW_none,errW_some] <;> rfl) | (simp [*,errW_none,errW_some] <;> rfl),by repeat first | exact HB.out | apply zz2 | apply zz0 | apply zz1 | refine zz3 ?_ GE160.out⟩

-- NOT PRINTED: function 39 (impl_CountGroups_1)

/-! ### impl_CountGroups: function 12 (a contract of our own) -/
def cntStep (p:List Int→Bool) (s:Int) (cs:List Int):Int:=wrap64 (s+(if p cs then 1 else 0))
/-- A count in one block, a number in another one. -/
def CntI (bm bz:Nat) (z:Int) (s:Int) (own:Nat→Prop) (W:World):Prop :=
 own=(fun i=>i=bm)∧bm ≠ 0∧bz ≠ bm∧W.heap[bm]?=some (.cells #[.int .i64 s] 3 (0,0))∧W.cell? ⟨bz,0,none⟩=some (.int .i64 z)
theorem CntI.below {bm bz:Nat} {z s:Int} {own:Nat→Prop} {W W':World} (h:CntI bm bz z s own W) (hb:Below W.heap.size W W'):CntI bm bz z s own W':=by
 obtain ⟨h1,h0,h2,h3,h4⟩:=h
 exact ⟨h1,h0,h2,zz11 h3 hb,pw_cell_below hb h4⟩
theorem CntI.lt {bm bz:Nat} {z s:Int} {own:Nat→Prop} {W:World} (h:CntI bm bz z s own W):∀ i,own i→i < W.heap.size:=by
 obtain ⟨h1,h0,h2,h3,h4⟩:=h
 subst h1
 rintro i rfl
 exact blk_lt h3
theorem CntI.tab {bm bz:Nat} {z s:Int} {own:Nat→Prop} {W:World} (h:CntI bm bz z s own W):¬ own 0:=by
 obtain ⟨h1,h0,_⟩:=h
 subst h1
 exact fun h=>h0 h.symm
theorem CntI.put {bm bz:Nat} {z s:Int} {W:World} (h:CntI bm bz z s (fun i=>i=bm) W) (n:Int) (W2:World) (hW:Below W.heap.size W W2) :
  CntI bm bz z n (fun i=>i=bm) (W2.setCell ⟨bm,0,none⟩ (.int .i64 n))∧Fr (fun i=>i=bm) (fun i=>i=bm) W (W2.setCell ⟨bm,0,none⟩ (.int .i64 n)):=by
 obtain ⟨h1,h0,h2,h3,h4⟩:=h.below hW
 refine ⟨⟨rfl,h0,h2,blk_set h3 0 _,?_⟩,(Fr.of_below _ hW).trans ⟨rfl,rfl,rfl,by simp [World.setCell],fun i hi hn=>?_,fun i hi=>.inl hi⟩⟩
 ·have:(W2.setCell ⟨bm,0,none⟩ (.int .i64 n)).heap[bz]?=W2.heap[bz]?:=Below.heap_setCell _ _ _ bz (fun he=>h2 he)
  simpa [World.cell?,this] using h4
 ·rw [Below.heap_setCell _ _ _ i (fun he=>hn he)]
set_option maxHeartbeats 1000000 in
set_option maxRecDepth 100000 in
theorem countG_each (B0 bm bz:Nat) (z:Int):EachGrp Int 39 #[.pointer (some ⟨bm,0,none⟩),.pointer (some ⟨bz,0,none⟩)] B0 (CntI bm bz z) (cntStep fun cs=>decide ((cs.length:Int)=z)):=by
 intro s own W A c cs hI hB hc8 hR
 have hI':=hI
 obtain ⟨rfl,h0,h2,h3,h4⟩:=hI
 have f3:=zz9 h3 0
 have f4:=zz10 h3 0
 simp only [List.getElem?_toArray,List.getElem?_cons_zero] at f3
 obtain ⟨b,hbz⟩:∃ b,((cs.length:Int) == z)=b:=⟨_,rfl⟩
 have HBZ:=zz31 (show decide ((cs.length:Int)=z)=b from by rw [← hbz];cases h:((cs.length:Int) == z) <;> simp_all)
 have HI:=zz31 hI'
 obtain ⟨v,hv⟩:∃ v:Int,v=if b=true then 1 else 0:=⟨_,rfl⟩
 have HV:=zz31 hv
 have HN:=zz31 (show cntStep (fun cs=>decide ((cs.length:Int)=z)) s cs=IntKind.i64.wrap (s+v) from by
  show wrap64 (s+if decide ((cs.length:Int)=z)=true then 1 else 0)=_
  rw [HBZ.out,← HV.out];simp [i64_w])
 have HBIT:=zz31 (show impl_bit.f b=some v from by rw [hv];cases b <;> rfl)
 clear hv
 clear h0 h2 h3 hR hI'
 go_enter Tryd.func39,Tryd.ntmps39
 go_region_with (first | (go_at_call 40; (with_reducible refine (impl_bit.calls b v _ HBIT.out).mono ?_); rintro e w' ⟨rfl, hd⟩; obtain ⟨q, hq⟩ := hd.out; subst hq) | (fail "no arm"))
 all_goals exact bodyPost_end (results_none rfl _ _ _) rfl ⟨rfl,_,by rw [HN.out];exact (CntI.put HI.out _ _ (by repeat first | exact Below.refl _ _ | apply zz0)).1,(CntI.put HI.out _ _ (by repeat first | exact Below.refl _ _ | apply zz0)).2⟩
theorem row_apart {k:IntKind} {e base n c B:Nat} {ok:Nat→Prop} {W:World} {A:Option Addr} {xs:List Int} (h:Kd.R (Kd.int k) e W base ok (.slice A n c) xs) (hB:B < base):∀ ad,A=some ad→ad.block ≠ B:=by
 intro ad e1
 subst e1
 have:=Kd.R_base h ad.block rfl
 omega
def impl_CountGroups.f (k:Nat) (a0_0:Int) (l0_1:List (S74)) (a1:Int):Option (Int × Bool) :=
 (impl_IsParty.f k a0_0 l0_1).bind fun ok=>if ok=true then (impl_areCrowd.f a1).bind fun c=>if c=true then (impl_Party_table.f k a0_0 l0_1).bind fun t=>if t.length≤12∧gokB t 17 (fullOf t)=true then some ((grs t 17 [] (fullOf t)).foldl (cntStep fun cs=>decide ((cs.length:Int)=a1)) 0,true) else none else some (0,false) else some (0,false)
theorem impl_CountGroups.mono:∀ a0 a1 a2 k,LeO (impl_CountGroups.f k a0 a1 a2) (impl_CountGroups.f (k+1) a0 a1 a2):=by
 intro a0 a1 a2 k
 unfold impl_CountGroups.f
 refine LeO.bind (impl_IsParty.mono _ _ _) fun ok=>LeO.ite (LeO.bind (LeO.refl _) fun c=>LeO.ite (LeO.bind (impl_Party_table.mono _ _ _) fun t=>LeO.refl _) (LeO.refl _)) (LeO.refl _)
set_option maxHeartbeats 4000000 in
set_option maxRecDepth 100000 in
theorem impl_CountGroups.calls (k:Nat) (a0_0:Int) (A0_1:Option Addr) (c0_1:Nat) (l0_1:List (S74)) (a1:Int) (r1:Int) (r2:Bool) (w:World) (hr0_1:Kd.C k74 w A0_1 l0_1.length l0_1) (hc0_1:l0_1.length≤c0_1) (h:impl_CountGroups.f k a0_0 l0_1 a1=some (r1,r2)) (hT:Tz w) :
  Calls Tryd.prog 12 #[.agg #[.int .i64 a0_0,.slice A0_1 l0_1.length c0_1],.int .i64 a1] w fun e w'=>e=.returned (.tuple #[.int .i64 r1,.bool r2])∧Below w.heap.size w w':=by
 have hu:=Tryd.underlying30
 unfold impl_CountGroups.f at h
 obtain ⟨ok,hok,h⟩:=zz30.1 h
 have HOK:=zz31 hok
 have HCC:=zz31 hc0_1
 have e1:(w.alloc (.cells #[.int .i64 a0_0,.slice A0_1 l0_1.length c0_1] 30)).heap.size=w.heap.size+1:=by simp
 have b1:=blk_new (w.alloc (.cells #[.int .i64 a0_0,.slice A0_1 l0_1.length c0_1] 30)) (.cells #[.int .i64 a1] 3)
 rw [e1] at b1
 have HC1:=zz31 (zz18 (zz18 hr0_1 (.cells #[.int .i64 a0_0,.slice A0_1 l0_1.length c0_1] 30)) (.cells #[.int .i64 a1] 3))
 have HB1:Aside0 (Below w.heap.size w ((w.alloc (.cells #[.int .i64 a0_0,.slice A0_1 l0_1.length c0_1] 30)).alloc (.cells #[.int .i64 a1] 3))):=⟨zz2 (zz2 (Below.refl _ _) _) _⟩
 have HX1:=zz31 (zz8 (blk_new w (.cells #[.int .i64 a0_0,.slice A0_1 l0_1.length c0_1] 30)) (.cells #[.int .i64 a1] 3))
 have HS1:=zz31 b1
 have HTz:=zz31 hT
 clear hok hr0_1 hc0_1 b1 e1 hT
 cases ok with
 | false =>
  rw [if_neg (by simp)] at h
  simp only [Option.some.injEq,Prod.mk.injEq] at h
  obtain ⟨rfl,rfl⟩:=h
  go_enter Tryd.func12,Tryd.ntmps12
  go_wp2_with (first | (go_at_call 35; refine (impl_IsParty.calls k a0_0 A0_1 c0_1 l0_1 false _ HC1.out HCC.out HOK.out).mono ?_; rintro e w3 ⟨rfl, hb⟩; have HB3 := zz31 (zz4 HB1.out hb); clear hb) | (fail "no arm"))
  refine bodyPost_ret (results_tmp2 rfl _ _ _) rfl ?_
  exact ⟨rfl,HB3.out⟩
 | true =>
  rw [if_pos rfl] at h
  obtain ⟨cr,hcr,h⟩:=zz30.1 h
  have HCR:=zz31 hcr
  clear hcr
  cases cr with
  | false =>
   rw [if_neg (by simp)] at h
   simp only [Option.some.injEq,Prod.mk.injEq] at h
   obtain ⟨rfl,rfl⟩:=h
   go_enter Tryd.func12,Tryd.ntmps12
   go_wp2_with (first | (go_at_call 35; refine (impl_IsParty.calls k a0_0 A0_1 c0_1 l0_1 true _ HC1.out HCC.out HOK.out).mono ?_; rintro e w3 ⟨rfl, hb⟩; have HB3 := zz31 (zz4 HB1.out hb); have hs3 := zz9 (zz11 HS1.out hb) 0; clear hb) | (go_at_call 36; refine (impl_areCrowd.calls a1 false _ HCR.out).mono ?_; rintro e w4 ⟨rfl, hd⟩; obtain ⟨q, hq⟩ := hd.out; subst hq) | (fail "no arm"))
   refine bodyPost_ret (results_tmp2 rfl _ _ _) rfl ?_
   exact ⟨rfl,by repeat first | exact HB3.out | apply zz0 | apply below_drew⟩
  | true =>
   rw [if_pos rfl] at h
   obtain ⟨t,ht,h⟩:=zz30.1 h
   split at h
   case isFalse=>simp at h
   rename_i hcond
   simp only [Option.some.injEq,Prod.mk.injEq] at h
   obtain ⟨h1,rfl⟩:=h
   have HT:=zz31 ht
   have CG:Aside0 (∀ (Wx:World) (At:Option Addr) (ct bm:Nat),Below w.heap.size w Wx→w.heap.size+1 < bm→Wx.heap[bm]?=some (.cells #[.int .i64 0] 3 (0,0))→Wx.cell? ⟨w.heap.size+1,0,none⟩=some (.int .i64 a1)→Kd.C (Kd.int .u16) Wx At t.length t→t.length≤ct→(∀ ad,At=some ad→ad.block ≠ bm) →
     Calls Tryd.prog 38 #[.slice At t.length ct,.func (.func 39) #[] #[.pointer (some ⟨bm,0,none⟩),.pointer (some ⟨w.heap.size+1,0,none⟩)]] Wx fun e W'=>e=.returned (.tuple #[])∧W'.cell? ⟨bm,0,none⟩=some (.int .i64 r1)∧Below w.heap.size w W'):=⟨fun Wx At ct bm hb hbm hcell hsz hC hct hap=>by
    have hz:=HTz.out.pos
    have hs:CntI bm (w.heap.size+1) a1 0 (fun i=>i=bm) Wx:=⟨rfl,by omega,by omega,hcell,hsz⟩
    exact (groups_calls Int 39 #[.pointer (some ⟨bm,0,none⟩),.pointer (some ⟨w.heap.size+1,0,none⟩)] (fun _ _=>rfl) w.heap.size (CntI bm (w.heap.size+1) a1) (cntStep fun cs=>decide ((cs.length:Int)=a1)) (countG_each _ _ _ _) (fun _ _ _ _ h hb=>h.below hb) (fun _ _ _ h=>h.lt) (fun _ _ _ h=>h.tab) t hcond.1 At ct 0 _ Wx ⟨hC,fun ad e _=>hap ad e⟩ hct hcond.2 (HTz.out.below hb) hs hb.size).mono fun e W' ⟨g1,own',g2,g3⟩=>by
     rw [h1] at g2
     obtain ⟨p1,p0,p2,p3,p4⟩:=g2
     exact ⟨g1,zz9 p3 0,hb.trans (g3.below hb.size (fun i hi=>by omega))⟩⟩
   clear ht h1 hcond
   go_enter Tryd.func12,Tryd.ntmps12
   go_wp2_with (first | (go_at_call 35; refine (impl_IsParty.calls k a0_0 A0_1 c0_1 l0_1 true _ HC1.out HCC.out HOK.out).mono ?_; rintro e w3 ⟨rfl, hb⟩; have HB3 := zz31 (zz4 HB1.out hb); have HS3 := zz31 (zz11 HS1.out hb); have HX3 := zz31 (zz11 HX1.out hb); have HC3 := zz31 (Kd.C_below HC1.out hb); have hs3 := zz9 HS3.out 0; have hc0 : w3.cell? ⟨w.heap.size, 0, none⟩ = some (.int .i64 a0_0) := zz9 HX3.out 0; have hc1 : w3.cell? ⟨w.heap.size, 1, none⟩ = some (.slice A0_1 l0_1.length c0_1) := zz9 HX3.out 1; have HLT := zz31 (show w.heap.size + 1 < w3.heap.size from blk_lt HS3.out); clear hb) | (go_at_call 36; refine (impl_areCrowd.calls a1 true _ HCR.out).mono ?_; rintro e w4 ⟨rfl, hd⟩; obtain ⟨q, hq⟩ := hd.out; subst hq; have hf5 : ((w3.drewN q).alloc (.cells #[.int .i64 0] 3)).frozen? ⟨w3.heap.size, 0, none⟩ = false := frozen_new (w3.drewN q) _ _ 0; have hc5 : ((w3.drewN q).alloc (.cells #[.int .i64 0] 3)).cell? ⟨w3.heap.size, 0, none⟩ = some (.int .i64 0) := World.cell?_alloc_new (w3.drewN q) _ _ 0; have hba : Below w3.heap.size w3 (((w3.drewN q).alloc (.cells #[.int .i64 0] 3)).setCell ⟨w3.heap.size, 0, none⟩ (.int .i64 0)) := zz3 (zz2 (zz0 (Below.refl _ _) q) _) (Nat.le_refl _); have HBA := zz31 hba; have hd0 : (((w3.drewN q).alloc (.cells #[.int .i64 0] 3)).setCell ⟨w3.heap.size, 0, none⟩ (.int .i64 0)).cell? ⟨w.heap.size, 0, none⟩ = some (.int .i64 a0_0) := zz9 (zz11 HX3.out hba) 0; have hd1 : (((w3.drewN q).alloc (.cells #[.int .i64 0] 3)).setCell ⟨w3.heap.size, 0, none⟩ (.int .i64 0)).cell? ⟨w.heap.size, 1, none⟩ = some (.slice A0_1 l0_1.length c0_1) := zz9 (zz11 HX3.out hba) 1; have HM4 := zz31 (show (((w3.drewN q).alloc (.cells #[.int .i64 0] 3)).setCell ⟨w3.heap.size, 0, none⟩ (.int .i64 0)).heap[w3.heap.size]? = some (.cells #[.int .i64 0] 3 (0, 0)) from blk_set (blk_new (w3.drewN q) _) 0 _); clear hba) | (go_at_call 37; refine (impl_Party_table.calls k a0_0 A0_1 c0_1 l0_1 t _ (Kd.C_below HC3.out HBA.out) HCC.out HT.out).mono ?_; rintro e w5 ⟨vt, rfl, ho, hb⟩; obtain ⟨At, ct, rfl⟩ := Kd.R_slice ho; have HB5 := zz31 (zz4 (HB3.out.trans (HBA.out.mono HB3.out.size)) hb); have HM5 := zz31 (zz11 HM4.out hb); have HS5 := zz31 (zz9 (zz11 (zz11 HS3.out HBA.out) hb) 0); have HR5 := zz31 ho; clear ho hb) | (go_at_call 38; refine (CG.out _ At ct w3.heap.size HB5.out ?_ HM5.out HS5.out (Kd.R_reads' HR5.out).2.2 (Kd.R_reads' HR5.out).2.1 ?_).mono ?_; exact HLT.out; exact row_apart HR5.out (by simp); rintro e w6 ⟨rfl, hm6, hb6⟩; have HB6 := zz31 hb6; clear hb6) | (fail "no arm"))
   refine bodyPost_ret (results_tmp2 rfl _ _ _) rfl ?_
   exact ⟨rfl,by repeat first | exact HB6.out | apply zz0 | apply below_drew⟩

/-! ### laws_FnExactCountGroups: function 3 -/
def laws_FnExactCountGroups.j0:Nat→Bool→Int→List (S79)→Int→List (S74)→Option (Bool)
 | 0,_,_,_,_,_=>none
 | k+1,x38,x229000,x229001,x241000,x241001=>if x38=true then (some false) else ((laws_toParty.f k x229000 x229001).bind fun bt243=>((laws_eqParty.f k x241000 x241001 bt243.1 bt243.2).bind fun t247=>(if t247=true then (some true) else (some false))))
def laws_FnExactCountGroups.f (k:Nat) (a0_0:Int) (l0_1:List (S79)) (a1:Int):Option (Bool):=(laws_szParty.f a0_0 l0_1 1048576).bind fun t229=>(if t229 < 0 then (some true) else ((laws_toParty.f k a0_0 l0_1).bind fun bt230=>((spec_CountGroups.f k bt230.1 bt230.2 a1).bind fun bt234=>((laws_toParty.f k a0_0 l0_1).bind fun bt236=>((impl_CountGroups.f k bt236.1 bt236.2 a1).bind fun bt241=>(if bt241.1=bt234.1 then (laws_FnExactCountGroups.j0 k (bt241.2 != bt234.2) a0_0 l0_1 bt236.1 bt236.2) else (laws_FnExactCountGroups.j0 k true a0_0 l0_1 bt236.1 bt236.2)))))))
theorem laws_FnExactCountGroups.mono_l:∀ k,(∀ y0 y1 y2 y3 y4,LeO (laws_FnExactCountGroups.j0 k y0 y1 y2 y3 y4) (laws_FnExactCountGroups.j0 (k+1) y0 y1 y2 y3 y4))
 | 0=>fun _ _ _ _ _ r h=>by simp [laws_FnExactCountGroups.j0] at h
 | k+1=>by
  have ih0:=laws_FnExactCountGroups.mono_l k
  ·intro y0 y1 y2 y3 y4
   unfold laws_FnExactCountGroups.j0
   repeat' first
   | (with_reducible exact ih0 _ _ _ _ _)
   | (with_reducible exact impl_CountGroups.mono _ _ _ _)
   | (with_reducible exact laws_eqParty.mono _ _ _ _ _)
   | (with_reducible exact laws_toParty.mono _ _ _)
   | (with_reducible exact spec_CountGroups.mono _ _ _ _)
   | (with_reducible exact LeO.refl _)
   | (with_reducible exact LeO.none _)
   | (with_reducible refine LeO.ite ?_ ?_)
   | (with_reducible refine LeO.bind ?_ (fun _=>?_))
   | exact ih0 _ _ _ _ _
   | exact impl_CountGroups.mono _ _ _ _
   | exact laws_eqParty.mono _ _ _ _ _
   | exact laws_toParty.mono _ _ _
   | exact spec_CountGroups.mono _ _ _ _
   | exact LeO.none _
   | refine LeO.ite ?_ ?_
   | refine LeO.bind ?_ (fun _=>?_)
theorem laws_FnExactCountGroups.mono:∀ a0 a1 a2 k,LeO (laws_FnExactCountGroups.f k a0 a1 a2) (laws_FnExactCountGroups.f (k+1) a0 a1 a2):=by
 intro a0 a1 a2 k
 have ih0:=laws_FnExactCountGroups.mono_l k
 unfold laws_FnExactCountGroups.f
 repeat' first
   | (with_reducible exact ih0 _ _ _ _ _)
   | (with_reducible exact impl_CountGroups.mono _ _ _ _)
   | (with_reducible exact laws_eqParty.mono _ _ _ _ _)
   | (with_reducible exact laws_toParty.mono _ _ _)
   | (with_reducible exact spec_CountGroups.mono _ _ _ _)
   | (with_reducible exact LeO.refl _)
   | (with_reducible exact LeO.none _)
   | (with_reducible refine LeO.ite ?_ ?_)
   | (with_reducible refine LeO.bind ?_ (fun _=>?_))
   | exact ih0 _ _ _ _ _
   | exact impl_CountGroups.mono _ _ _ _
   | exact laws_eqParty.mono _ _ _ _ _
   | exact laws_toParty.mono _ _ _
   | exact spec_CountGroups.mono _ _ _ _
   | exact LeO.none _
   | refine LeO.ite ?_ ?_
   | refine LeO.bind ?_ (fun _=>?_)
set_option maxHeartbeats 8000000 in
set_option maxRecDepth 100000 in
theorem laws_FnExactCountGroups.calls (k:Nat) (a0_0:Int) (A0_1:Option Addr) (c0_1:Nat) (l0_1:List (S79)) (a1:Int) (r:Bool) (w:World) (hr0_1:Kd.C k79 w A0_1 l0_1.length l0_1) (hc0_1:l0_1.length≤c0_1) (h:laws_FnExactCountGroups.f k a0_0 l0_1 a1=some r) (hT:Tz w) :
  Calls Tryd.prog 3 #[.agg #[.int .i64 a0_0,.slice A0_1 l0_1.length c0_1],.int .i64 a1] w fun e w'=>e=.returned (.bool r)∧Below w.heap.size w w':=by
 have hu24:=Tryd.underlying24
 have hu30:=Tryd.underlying30
 have HR0_1:=zz31 hr0_1
 have HC0_1:=zz31 hc0_1
 clear hr0_1 hc0_1
 have HB:=zz31 (Below.refl w.heap.size w)
 have HT:=zz31 hT
 clear hT
 have H:((laws_szParty.f a0_0 l0_1 1048576).bind fun t229=>(if t229 < 0 then (some true) else ((laws_toParty.f k a0_0 l0_1).bind fun bt230=>((spec_CountGroups.f k bt230.1 bt230.2 a1).bind fun bt234=>((laws_toParty.f k a0_0 l0_1).bind fun bt236=>((impl_CountGroups.f k bt236.1 bt236.2 a1).bind fun bt241=>(if bt241.1=bt234.1 then (laws_FnExactCountGroups.j0 k (bt241.2 != bt234.2) a0_0 l0_1 bt236.1 bt236.2) else (laws_FnExactCountGroups.j0 k true a0_0 l0_1 bt236.1 bt236.2))))))))=some r:=h
 clear h
 replace H:=zz30.mp H
 obtain ⟨t229,A30,H⟩:=H
 replace H:(if t229 < 0 then (some true) else ((laws_toParty.f k a0_0 l0_1).bind fun bt230=>((spec_CountGroups.f k bt230.1 bt230.2 a1).bind fun bt234=>((laws_toParty.f k a0_0 l0_1).bind fun bt236=>((impl_CountGroups.f k bt236.1 bt236.2 a1).bind fun bt241=>(if bt241.1=bt234.1 then (laws_FnExactCountGroups.j0 k (bt241.2 != bt234.2) a0_0 l0_1 bt236.1 bt236.2) else (laws_FnExactCountGroups.j0 k true a0_0 l0_1 bt236.1 bt236.2)))))))=some r:=H
 have A3:=zz31 A30
 clear A30
 by_cases c4:t229 < 0
 ·rw [if_pos c4] at H
  have c4b0:decide (t229 < 0)=true:=decide_eq_true c4
  clear c4
  obtain rfl:=Option.some.inj H
  go_enter Tryd.func3,Tryd.ntmps3
  go_wp2_with (first | ((with_reducible refine gate_dst (N:=2) rfl ?_);refine box_event ?hg (N:=2) ?hd (cs:=#[.int .i64 a0_0,.slice A0_1 l0_1.length c0_1]) (t:=24) ?hr ?_;(case hd=>rfl);(case hg=>rfl);(case hr=>first | (go_simp;done) | (go_simp;rfl));intro gb228 hg w5 hbox hb;have n0_:=zz31 (zz4 (by repeat first | exact HB.out | apply zz2 | apply zz0 | apply zz1) hb);have n1_:=zz31 (hbox);have n2_:=zz31 ((by rw [hg];exact (zz5 (by repeat first | exact HB.out | apply zz2 | apply zz0 | apply zz1)):w.heap.size≤gb228));have n3_:=zz31 ((by rw [hg];exact (zz5 (by repeat first | exact HB.out | apply zz2 | apply zz0 | apply zz1)):w.heap.size≤gb228));clear HB;have HB:=n0_;have BK228:=n1_;have GW228:=n2_;have GE228:=n3_;clear n0_ n1_ n2_ n3_;clear hb hbox hg;have hcz6_0:w5.cell? ⟨gb228,0,none⟩=some (.int .i64 a0_0):=(zz9 BK228.out 0).trans rfl;have hcz6_1:w5.cell? ⟨gb228,1,none⟩=some (.slice A0_1 l0_1.length c0_1):=(zz9 BK228.out 1).trans rfl;have hfz6_0:=zz10 BK228.out 0;have hfz6_1:=zz10 BK228.out 1) | ((with_reducible refine gate_callee (f:=9) rfl ?_);refine goesL_ (some 13) rfl rfl Tryd.func9 (by kernel_rfl) rfl #[.agg #[.int .i64 a0_0,.slice A0_1 l0_1.length c0_1],.int .i64 1048576] rfl (by (try simp only [zz26,zz27,zz28]);first | done | rfl | (simp only [zz24,zz25];rfl)) ?_;(with_reducible refine (laws_szParty.calls a0_0 _ _ l0_1 1048576 t229 _ ?side1 ?side2 A3.out).mono ?_);(case side1=>repeat (first | exact (Kd.C_below HR0_1.out HB.out) | (with_reducible refine zz18 ?_ _) | (with_reducible refine zz19 ?_ _) | (with_reducible refine zz20 ?_)));(case side2=>exact HC0_1.out);rintro e w7 ⟨rfl,hb⟩;refine ⟨_,rfl,?_⟩;have n0_:=zz31 (zz11 (g:=gb228) (o:=.cells #[.int .i64 a0_0,.slice A0_1 l0_1.length c0_1] 24 (0,0)) (by (with_reducible repeat (first | refine zz6 ?_ _ | refine zz7 ?_ | refine zz8 ?_ _));exact BK228.out) hb);have n1_:=zz31 (zz4 (by repeat first | exact HB.out | apply zz2 | apply zz0 | apply zz1 | refine zz3 ?_ GE228.out) hb);clear BK228;clear HB;have BK228:=n0_;have HB:=n1_;clear n0_ n1_;(try clear hb);(try clear hb2);(try clear hk);(try clear hi)))
  go_ret
  exact ⟨by first | rfl | (simp [errW_none,errW_some] <;> rfl) | (simp [*,errW_none,errW_some] <;> rfl),by repeat first | exact HB.out | apply zz2 | apply zz0 | apply zz1 | refine zz3 ?_ GE228.out⟩
 ·rw [if_neg c4] at H
  have c4b0:decide (t229 < 0)=false:=decide_eq_false c4
  clear c4
  replace H:=zz30.mp H
  obtain ⟨⟨t230,t231⟩,A80,H⟩:=H
  replace H:((spec_CountGroups.f k t230 t231 a1).bind fun bt234=>((laws_toParty.f k a0_0 l0_1).bind fun bt236=>((impl_CountGroups.f k bt236.1 bt236.2 a1).bind fun bt241=>(if bt241.1=bt234.1 then (laws_FnExactCountGroups.j0 k (bt241.2 != bt234.2) a0_0 l0_1 bt236.1 bt236.2) else (laws_FnExactCountGroups.j0 k true a0_0 l0_1 bt236.1 bt236.2)))))=some r:=H
  have A8:=zz31 A80
  clear A80
  replace H:=zz30.mp H
  obtain ⟨⟨t234,t235⟩,A90,H⟩:=H
  replace H:((laws_toParty.f k a0_0 l0_1).bind fun bt236=>((impl_CountGroups.f k bt236.1 bt236.2 a1).bind fun bt241=>(if bt241.1=t234 then (laws_FnExactCountGroups.j0 k (bt241.2 != t235) a0_0 l0_1 bt236.1 bt236.2) else (laws_FnExactCountGroups.j0 k true a0_0 l0_1 bt236.1 bt236.2))))=some r:=H
  have A9:=zz31 A90
  clear A90
  replace H:=zz30.mp H
  obtain ⟨⟨t236,t237⟩,A100,H⟩:=H
  replace H:((impl_CountGroups.f k t236 t237 a1).bind fun bt241=>(if bt241.1=t234 then (laws_FnExactCountGroups.j0 k (bt241.2 != t235) a0_0 l0_1 t236 t237) else (laws_FnExactCountGroups.j0 k true a0_0 l0_1 t236 t237)))=some r:=H
  have A10:=zz31 A100
  clear A100
  replace H:=zz30.mp H
  obtain ⟨⟨t241,t242⟩,A110,H⟩:=H
  replace H:(if t241=t234 then (laws_FnExactCountGroups.j0 k (t242 != t235) a0_0 l0_1 t236 t237) else (laws_FnExactCountGroups.j0 k true a0_0 l0_1 t236 t237))=some r:=H
  have A11:=zz31 A110
  clear A110
  have HC12:=zz31 H
  clear H
  go_enter Tryd.func3,Tryd.ntmps3
  go_upto_region 8 with (first | ((with_reducible refine gate_dst (N:=2) rfl ?_);refine box_event ?hg (N:=2) ?hd (cs:=#[.int .i64 a0_0,.slice A0_1 l0_1.length c0_1]) (t:=24) ?hr ?_;(case hd=>rfl);(case hg=>rfl);(case hr=>first | (go_simp;done) | (go_simp;rfl));intro gb228 hg w13 hbox hb;have n0_:=zz31 (zz4 (by repeat first | exact HB.out | apply zz2 | apply zz0 | apply zz1) hb);have n1_:=zz31 (hbox);have n2_:=zz31 ((by rw [hg];exact (zz5 (by repeat first | exact HB.out | apply zz2 | apply zz0 | apply zz1)):w.heap.size≤gb228));have n3_:=zz31 ((by rw [hg];exact (zz5 (by repeat first | exact HB.out | apply zz2 | apply zz0 | apply zz1)):w.heap.size≤gb228));clear HB;have HB:=n0_;have BK228:=n1_;have GW228:=n2_;have GE228:=n3_;clear n0_ n1_ n2_ n3_;clear hb hbox hg;have hcz14_0:w13.cell? ⟨gb228,0,none⟩=some (.int .i64 a0_0):=(zz9 BK228.out 0).trans rfl;have hcz14_1:w13.cell? ⟨gb228,1,none⟩=some (.slice A0_1 l0_1.length c0_1):=(zz9 BK228.out 1).trans rfl;have hfz14_0:=zz10 BK228.out 0;have hfz14_1:=zz10 BK228.out 1) | ((with_reducible refine gate_callee (f:=9) rfl ?_);refine goesL_ (some 13) rfl rfl Tryd.func9 (by kernel_rfl) rfl #[.agg #[.int .i64 a0_0,.slice A0_1 l0_1.length c0_1],.int .i64 1048576] rfl (by (try simp only [zz26,zz27,zz28]);first | done | rfl | (simp only [zz24,zz25];rfl)) ?_;(with_reducible refine (laws_szParty.calls a0_0 _ _ l0_1 1048576 t229 _ ?side1 ?side2 A3.out).mono ?_);(case side1=>repeat (first | exact (Kd.C_below HR0_1.out HB.out) | (with_reducible refine zz18 ?_ _) | (with_reducible refine zz19 ?_ _) | (with_reducible refine zz20 ?_)));(case side2=>exact HC0_1.out);rintro e w15 ⟨rfl,hb⟩;refine ⟨_,rfl,?_⟩;have n0_:=zz31 (zz11 (g:=gb228) (o:=.cells #[.int .i64 a0_0,.slice A0_1 l0_1.length c0_1] 24 (0,0)) (by (with_reducible repeat (first | refine zz6 ?_ _ | refine zz7 ?_ | refine zz8 ?_ _));exact BK228.out) hb);have n1_:=zz31 (zz4 (by repeat first | exact HB.out | apply zz2 | apply zz0 | apply zz1 | refine zz3 ?_ GE228.out) hb);clear BK228;clear HB;have BK228:=n0_;have HB:=n1_;clear n0_ n1_;(try clear hb);(try clear hb2);(try clear hk);(try clear hi);have hcz16_0:w15.cell? ⟨gb228,0,none⟩=some (.int .i64 a0_0):=(zz9 BK228.out 0).trans rfl;have hcz16_1:w15.cell? ⟨gb228,1,none⟩=some (.slice A0_1 l0_1.length c0_1):=(zz9 BK228.out 1).trans rfl;have hfz16_0:=zz10 BK228.out 0;have hfz16_1:=zz10 BK228.out 1) | ((with_reducible refine gate_callee (f:=11) rfl ?_);refine goesL_ (some 18) rfl rfl Tryd.func11 (by kernel_rfl) rfl #[.agg #[.int .i64 a0_0,.slice A0_1 l0_1.length c0_1]] rfl (by (try simp only [zz26,zz27,zz28]);first | done | rfl | (simp only [zz24,zz25];rfl)) ?_;(with_reducible refine (laws_toParty.calls k a0_0 _ _ l0_1 t230 t231 _ ?side1 ?side2 A8.out).mono ?_);(case side1=>repeat (first | exact (Kd.C_below HR0_1.out HB.out) | (with_reducible refine zz18 ?_ _) | (with_reducible refine zz19 ?_ _) | (with_reducible refine zz20 ?_)));(case side2=>exact HC0_1.out);rintro e w17 ⟨v232,rfl,ho0,hb⟩;refine ⟨_,rfl,?_⟩;have n0_:=zz31 (Kd.R_lower ho0 (zz5 (by repeat first | exact HB.out | apply zz2 | apply zz0 | apply zz1 | refine zz3 ?_ GE228.out)));have n1_:=zz31 (zz11 (g:=gb228) (o:=.cells #[.int .i64 a0_0,.slice A0_1 l0_1.length c0_1] 24 (0,0)) (by (with_reducible repeat (first | refine zz6 ?_ _ | refine zz7 ?_ | refine zz8 ?_ _));exact BK228.out) hb);have n2_:=zz31 (zz4 (by repeat first | exact HB.out | apply zz2 | apply zz0 | apply zz1 | refine zz3 ?_ GE228.out) hb);clear BK228;clear HB;have HO233:=n0_;have BK228:=n1_;have HB:=n2_;clear n0_ n1_ n2_;(try clear hb);(try clear hb2);(try clear hk);(try clear hi);(try clear ho0);obtain ⟨Ao18,co18,eo18⟩:=Kd.R_slice HO233.out;subst eo18) | ((with_reducible refine gate_callee (f:=10) rfl ?_);refine goesL_ (some 20) rfl rfl Tryd.func10 (by kernel_rfl) rfl #[.agg #[.int .i64 t230,.slice Ao18 t231.length co18],.int .i64 a1] rfl (by (try simp only [zz26,zz27,zz28]);first | done | rfl | (simp only [zz24,zz25];rfl)) ?_;(with_reducible refine (spec_CountGroups.calls k t230 _ _ t231 a1 t234 t235 _ ?side1 ?side2 A9.out).mono ?_);(case side1=>repeat (first | exact (Kd.R_reads' HO233.out).2.2 | (with_reducible refine zz18 ?_ _) | (with_reducible refine zz19 ?_ _) | (with_reducible refine zz20 ?_)));(case side2=>exact (Kd.R_reads' HO233.out).2.1);rintro e w19 ⟨rfl,hb⟩;refine ⟨_,rfl,?_⟩;have n0_:=zz31 (Kd.R_below (by (with_reducible repeat (first | apply zz12 | apply zz13 | apply zz14));exact HO233.out) hb);have n1_:=zz31 (zz11 (g:=gb228) (o:=.cells #[.int .i64 a0_0,.slice A0_1 l0_1.length c0_1] 24 (0,0)) (by (with_reducible repeat (first | refine zz6 ?_ _ | refine zz7 ?_ | refine zz8 ?_ _));exact BK228.out) hb);have n2_:=zz31 (zz4 (by repeat first | exact HB.out | apply zz2 | apply zz0 | apply zz1 | refine zz3 ?_ GE228.out) hb);clear HO233;clear BK228;clear HB;have HO233:=n0_;have BK228:=n1_;have HB:=n2_;clear n0_ n1_ n2_;(try clear hb);(try clear hb2);(try clear hk);(try clear hi);have hcz20_0:w19.cell? ⟨gb228,0,none⟩=some (.int .i64 a0_0):=(zz9 BK228.out 0).trans rfl;have hcz20_1:w19.cell? ⟨gb228,1,none⟩=some (.slice A0_1 l0_1.length c0_1):=(zz9 BK228.out 1).trans rfl;have hfz20_0:=zz10 BK228.out 0;have hfz20_1:=zz10 BK228.out 1) | ((with_reducible refine gate_callee (f:=11) rfl ?_);refine goesL_ (some 24) rfl rfl Tryd.func11 (by kernel_rfl) rfl #[.agg #[.int .i64 a0_0,.slice A0_1 l0_1.length c0_1]] rfl (by (try simp only [zz26,zz27,zz28]);first | done | rfl | (simp only [zz24,zz25];rfl)) ?_;(with_reducible refine (laws_toParty.calls k a0_0 _ _ l0_1 t236 t237 _ ?side1 ?side2 A10.out).mono ?_);(case side1=>repeat (first | exact (Kd.C_below HR0_1.out HB.out) | (with_reducible refine zz18 ?_ _) | (with_reducible refine zz19 ?_ _) | (with_reducible refine zz20 ?_)));(case side2=>exact HC0_1.out);rintro e w21 ⟨v238,rfl,ho0,hb⟩;refine ⟨_,rfl,?_⟩;have n0_:=zz31 (Kd.R_elder' (by (with_reducible repeat (first | apply zz12 | apply zz13 | apply zz14));exact HO233.out) (Kd.R_base ho0) hb);have n1_:=zz31 (Kd.R_lower (Kd.R_new' ho0 (Kd.R_lt (by (with_reducible repeat (first | apply zz12 | apply zz13 | apply zz14));exact HO233.out))) (zz5 (by repeat first | exact HB.out | apply zz2 | apply zz0 | apply zz1 | refine zz3 ?_ GE228.out)));have n2_:=zz31 (zz11 (g:=gb228) (o:=.cells #[.int .i64 a0_0,.slice A0_1 l0_1.length c0_1] 24 (0,0)) (by (with_reducible repeat (first | refine zz6 ?_ _ | refine zz7 ?_ | refine zz8 ?_ _));exact BK228.out) hb);have n3_:=zz31 (zz4 (by repeat first | exact HB.out | apply zz2 | apply zz0 | apply zz1 | refine zz3 ?_ GE228.out) hb);clear HO233;clear BK228;clear HB;have HO233:=n0_;have HO239:=n1_;have BK228:=n2_;have HB:=n3_;clear n0_ n1_ n2_ n3_;(try clear hb);(try clear hb2);(try clear hk);(try clear hi);(try clear ho0)) | ((with_reducible refine gate_dst (N:=8) rfl ?_);refine box_event ?hg (N:=8) ?hd (cs:=#[.int .i64 0,.slice none 0 0]) (t:=30) ?hr ?_;(case hd=>rfl);(case hg=>rfl);(case hr=>first | (go_simp;done) | (go_simp;rfl));intro gb240 hg w22 hbox hb;have n0_:=zz31 (Kd.R_below (by (with_reducible repeat (first | apply zz12 | apply zz13 | apply zz14));exact HO233.out) hb);have n1_:=zz31 (Kd.R_below (by (with_reducible repeat (first | apply zz12 | apply zz13 | apply zz14));exact HO239.out) hb);have n2_:=zz31 (zz11 (g:=gb228) (o:=.cells #[.int .i64 a0_0,.slice A0_1 l0_1.length c0_1] 24 (0,0)) (by (with_reducible repeat (first | refine zz6 ?_ _ | refine zz7 ?_ | refine zz8 ?_ _));exact BK228.out) hb);have n3_:=zz31 (zz4 (by repeat first | exact HB.out | apply zz2 | apply zz0 | apply zz1 | refine zz3 ?_ GE228.out) hb);have n4_:=zz31 (hbox);have n5_:=zz31 ((by rw [hg];exact (zz5 (by repeat first | exact HB.out | apply zz2 | apply zz0 | apply zz1 | refine zz3 ?_ GE228.out)):w.heap.size≤gb240));have n6_:=zz31 ((by rw [hg];exact (zz5 (by repeat first | exact HB.out | apply zz2 | apply zz0 | apply zz1 | refine zz3 ?_ GE228.out)):w.heap.size≤gb240));have n7_:=zz31 ((by rw [hg];exact Nat.ne_of_lt (blk_lt (g:=gb228) (o:=.cells #[.int .i64 a0_0,.slice A0_1 l0_1.length c0_1] 24 (0,0)) (by (with_reducible repeat (first | refine zz6 ?_ _ | refine zz7 ?_ | refine zz8 ?_ _));exact BK228.out)):gb228 ≠ gb240));have n8_:=zz31 ((by rw [hg];exact Nat.ne_of_gt (blk_lt (g:=gb228) (o:=.cells #[.int .i64 a0_0,.slice A0_1 l0_1.length c0_1] 24 (0,0)) (by (with_reducible repeat (first | refine zz6 ?_ _ | refine zz7 ?_ | refine zz8 ?_ _));exact BK228.out)):gb240 ≠ gb228));clear HO233;clear HO239;clear BK228;clear HB;have HO233:=n0_;have HO239:=n1_;have BK228:=n2_;have HB:=n3_;have BK240:=n4_;have GW240:=n5_;have GE240:=n6_;have NB228_240:=n7_;have NB240_228:=n8_;clear n0_ n1_ n2_ n3_ n4_ n5_ n6_ n7_ n8_;clear hb hbox hg;have hnb23:=NB240_228.out;have hnc23:=NB228_240.out;have hcz24_0:w22.cell? ⟨gb240,0,none⟩=some (.int .i64 0):=(zz9 BK240.out 0).trans rfl;have hcz24_1:w22.cell? ⟨gb240,1,none⟩=some (.slice none 0 0):=(zz9 BK240.out 1).trans rfl;have hfz24_0:=zz10 BK240.out 0;have hfz24_1:=zz10 BK240.out 1;obtain ⟨Ao25,co25,eo25⟩:=Kd.R_slice HO239.out;subst eo25) | ((with_reducible refine gate_callee (f:=12) rfl ?_);refine goesL_ (some 28) rfl rfl Tryd.func12 (by kernel_rfl) rfl #[.agg #[.int .i64 t236,.slice Ao25 t237.length co25],.int .i64 a1] rfl (by (try simp only [zz26,zz27,zz28]);first | done | rfl | (simp only [zz24,zz25];rfl)) ?_;(with_reducible refine (impl_CountGroups.calls k t236 _ _ t237 a1 t241 t242 _ ?side1 ?side2 A11.out (HT.out.below (by repeat first | exact HB.out | apply zz2 | apply zz0 | apply zz1 | refine zz3 ?_ GE228.out | refine zz3 ?_ GE240.out))).mono ?_);(case side1=>refine (Kd.R_reads' (e:=74) (base:=w.heap.size) (ok:=fun k_=>(True∧some k_ ≠ (.slice Ao18 t231.length co18:Value).ownBlock)) (n:=t237.length) (c:=co25) ?_).2.2;exact (by (with_reducible repeat (first | apply zz12 | apply zz13 | apply zz14));exact (Kd.R_mono (Kd.R_far (p:=⟨gb240,1,none⟩) (Kd.R_far (p:=⟨gb240,0,none⟩) (Kd.R_types HO239.out BK240.out (by decide)) (fun _ hk=>hk.2) (.int .i64 t236)) (fun _ hk=>hk.2) (.slice Ao25 t237.length co25)) (fun _ h_=>h_.1))));(case side2=>exact (Kd.R_reads' HO239.out).2.1);rintro e w26 ⟨rfl,hb⟩;refine ⟨_,rfl,?_⟩;have n0_:=zz31 (Kd.R_below (by (with_reducible repeat (first | apply zz12 | apply zz13 | apply zz14));exact (Kd.R_mono (Kd.R_far (p:=⟨gb240,1,none⟩) (Kd.R_far (p:=⟨gb240,0,none⟩) (Kd.R_types HO233.out BK240.out (by decide)) (fun _ hk=>hk.2) (.int .i64 t236)) (fun _ hk=>hk.2) (.slice Ao25 t237.length co25)) (fun _ h_=>h_.1))) hb);have n1_:=zz31 (Kd.R_below (by (with_reducible repeat (first | apply zz12 | apply zz13 | apply zz14));exact (Kd.R_mono (Kd.R_far (p:=⟨gb240,1,none⟩) (Kd.R_far (p:=⟨gb240,0,none⟩) (Kd.R_types HO239.out BK240.out (by decide)) (fun _ hk=>hk.2) (.int .i64 t236)) (fun _ hk=>hk.2) (.slice Ao25 t237.length co25)) (fun _ h_=>h_.1))) hb);have n2_:=zz31 (zz11 (g:=gb228) (o:=.cells #[.int .i64 a0_0,.slice A0_1 l0_1.length c0_1] 24 (0,0)) (by (with_reducible repeat (first | refine zz6 ?_ _ | refine zz7 ?_ | refine zz8 ?_ _));refine blk_far ?_ NB228_240.out _;(with_reducible repeat (first | refine zz6 ?_ _ | refine zz7 ?_ | refine zz8 ?_ _));refine blk_far ?_ NB228_240.out _;(with_reducible repeat (first | refine zz6 ?_ _ | refine zz7 ?_ | refine zz8 ?_ _));exact BK228.out) hb);have n3_:=zz31 (zz11 (g:=gb240) (o:=.cells #[.int .i64 t236,.slice Ao25 t237.length co25] 30 (0,0)) (by (with_reducible repeat (first | refine zz6 ?_ _ | refine zz7 ?_ | refine zz8 ?_ _));refine blk_put (cs:=#[.int .i64 t236,.slice none 0 0]) ?_ 1 _ rfl;(with_reducible repeat (first | refine zz6 ?_ _ | refine zz7 ?_ | refine zz8 ?_ _));refine blk_put (cs:=#[.int .i64 0,.slice none 0 0]) ?_ 0 _ rfl;(with_reducible repeat (first | refine zz6 ?_ _ | refine zz7 ?_ | refine zz8 ?_ _));exact BK240.out) hb);have n4_:=zz31 (zz4 (by repeat first | exact HB.out | apply zz2 | apply zz0 | apply zz1 | refine zz3 ?_ GE228.out | refine zz3 ?_ GE240.out) hb);clear HO233;clear HO239;clear BK228;clear BK240;clear HB;have HO233:=n0_;have HO239:=n1_;have BK228:=n2_;have BK240:=n3_;have HB:=n4_;clear n0_ n1_ n2_ n3_ n4_;(try clear hb);(try clear hb2);(try clear hk);(try clear hi)))
  (try simp only [Act.put,zz21,zz22,zz23])
  go_cut [38] (fun v38 wc=>∃ (kq:Nat) (x38_11:Bool),v38=.bool x38_11∧Aside0 (laws_FnExactCountGroups.j0 kq x38_11 a0_0 l0_1 t236 t237=some r)∧Aside0 (kq≤k)∧Aside0 (Kd.R k74 74 wc w.heap.size (fun _=>True) (.slice Ao25 t237.length co25) t237)∧Aside0 (wc.heap[gb228]?=some (.cells #[.int .i64 a0_0,(.slice A0_1 l0_1.length c0_1)] 24 (0,0)))∧Aside0 (wc.heap[gb240]?=some (.cells #[.int .i64 t236,(.slice Ao25 t237.length co25)] 30 (0,0)))∧Aside0 (Below w.heap.size w wc))
  case first =>
   have H:=HC12.out
   clear HC12
   by_cases c27:t241=t234
   ·rw [if_pos c27] at H
    have c27b0:(t241 == t234)=true:=beq_iff_eq.mpr c27
    have c27b1:(t241 != t234)=false:=bne_eq_false_iff_eq.mpr c27
    clear c27
    (first | rw [c27b0] | (simp only [i64_w,i32_w];rw [c27b0]) | skip)
    have H':=zz31 H
    clear H
    go_wp2
    go_meet
    case rel=>exact ⟨_,((t242 != t235)),(by first | rfl | (simp;done) | (simp [*];done)),H',⟨by first | omega | exact Nat.le_refl _⟩,⟨by (with_reducible repeat (first | apply zz12 | apply zz13 | apply zz14));exact Kd.R_mono HO239.out (fun _ hk=>trivial)⟩,⟨by (with_reducible repeat (first | refine zz6 ?_ _ | refine zz7 ?_ | refine zz8 ?_ _));exact BK228.out⟩,⟨by (with_reducible repeat (first | refine zz6 ?_ _ | refine zz7 ?_ | refine zz8 ?_ _));exact BK240.out⟩,⟨by repeat first | exact HB.out | apply zz2 | apply zz0 | apply zz1 | refine zz3 ?_ GE228.out | refine zz3 ?_ GE240.out⟩⟩
   ·rw [if_neg c27] at H
    have c27b0:(t241 == t234)=false:=beq_eq_false_iff_ne.mpr c27
    have c27b1:(t241 != t234)=true:=bne_iff_ne.mpr c27
    (first | rw [c27b0] | (simp only [i64_w,i32_w];rw [c27b0]) | skip)
    have H':=zz31 H
    clear H
    go_wp2
    go_meet
    case rel=>exact ⟨_,(true),(by first | rfl | (simp;done) | (simp [*];done)),H',⟨by first | omega | exact Nat.le_refl _⟩,⟨by (with_reducible repeat (first | apply zz12 | apply zz13 | apply zz14));exact Kd.R_mono HO239.out (fun _ hk=>trivial)⟩,⟨by (with_reducible repeat (first | refine zz6 ?_ _ | refine zz7 ?_ | refine zz8 ?_ _));exact BK228.out⟩,⟨by (with_reducible repeat (first | refine zz6 ?_ _ | refine zz7 ?_ | refine zz8 ?_ _));exact BK240.out⟩,⟨by repeat first | exact HB.out | apply zz2 | apply zz0 | apply zz1 | refine zz3 ?_ GE228.out | refine zz3 ?_ GE240.out⟩⟩
  case rest =>
   clear HC12
   try clear c1
   try clear c2
   try clear p2
   try clear c3
   try clear c4
   try clear c4b0
   try clear c9
   try clear c10
   try clear c11
   try clear c12
   try clear c23
   try clear c27
   try clear c27b0
   try clear c27b1
   try clear hcz14_0
   try clear hcz14_1
   try clear hcz16_0
   try clear hcz16_1
   try clear hcz20_0
   try clear hcz20_1
   try clear hcz24_0
   try clear hcz24_1
   try clear hcz6_0
   try clear hcz6_1
   try clear hfz14_0
   try clear hfz14_1
   try clear hfz16_0
   try clear hfz16_1
   try clear hfz20_0
   try clear hfz20_1
   try clear hfz24_0
   try clear hfz24_1
   try clear hfz6_0
   try clear hfz6_1
   obtain ⟨kq,x38_11,rfl,HA,HJ11,HO_241001,BK228,BK240,HB⟩:=hcut
   cases kq with
   | zero=>exact absurd HA.out (by simp [laws_FnExactCountGroups.j0])
   | succ kj11 =>
    have H:=HA.out
    clear HA
    simp only [laws_FnExactCountGroups.j0] at H
    by_cases c28:x38_11=true
    ·subst c28
     have H1:(some false)=some r:=by rw [if_pos rfl] at H;exact H
     clear H
     have H:=H1
     clear H1
     obtain rfl:=Option.some.inj H
     go_wp2
     go_ret
     exact ⟨by first | rfl | (simp [errW_none,errW_some] <;> rfl) | (simp [*,errW_none,errW_some] <;> rfl),by repeat first | exact HB.out | apply zz2 | apply zz0 | apply zz1 | refine zz3 ?_ GE228.out | refine zz3 ?_ GE240.out⟩
    ·replace c28:=Bool.eq_false_iff.mpr c28
     subst c28
     have H1:((laws_toParty.f kj11 a0_0 l0_1).bind fun bt243=>((laws_eqParty.f kj11 t236 t237 bt243.1 bt243.2).bind fun t247=>(if t247=true then (some true) else (some false))))=some r:=by rw [if_neg (show ¬ (false=true) by decide)] at H;exact H
     clear H
     have H:=H1
     clear H1
     replace H:=zz30.mp H
     obtain ⟨⟨t243,t244⟩,A290,H⟩:=H
     replace H:((laws_eqParty.f kj11 t236 t237 t243 t244).bind fun t247=>(if t247=true then (some true) else (some false)))=some r:=H
     have A29:=zz31 A290
     clear A290
     replace H:=zz30.mp H
     obtain ⟨t247,A300,H⟩:=H
     replace H:(if t247=true then (some true) else (some false))=some r:=H
     have A30:=zz31 A300
     clear A300
     by_cases c31:t247=true
     ·subst c31
      have H1:(some true)=some r:=by rw [if_pos rfl] at H;exact H
      clear H
      have H:=H1
      clear H1
      obtain rfl:=Option.some.inj H
      try go_wp2
      have n0_:=zz31 (zz14 HO_241001.out)
      have n1_:=zz31 (zz7 BK228.out)
      have n2_:=zz31 (zz7 BK240.out)
      have n3_:=zz31 (zz1 HB.out)
      clear HO_241001
      clear BK228
      clear BK240
      clear HB
      have HO_241001:=n0_
      have BK228:=n1_
      have BK240:=n2_
      have HB:=n3_
      clear n0_ n1_ n2_ n3_
      refine start_ (n:=5) (S:=fun w'=>w'.cell? ⟨gb240,0,none⟩=some (.int .i64 t236)∧w'.cell? ⟨gb240,1,none⟩=some (.slice Ao25 t237.length co25)∧w'.cell? ⟨gb228,0,none⟩=some (.int .i64 a0_0)∧w'.cell? ⟨gb228,1,none⟩=some (.slice A0_1 l0_1.length c0_1)) (ds:=[]) #[F,F,F,F,F] (by kernel_rfl) rfl rfl ⟨(zz9 BK240.out 0).trans rfl,(zz9 BK240.out 1).trans rfl,(zz9 BK228.out 0).trans rfl,(zz9 BK228.out 1).trans rfl⟩ (fun hHeld=>?_)
      generalize wc.drew=w32 at HO_241001 BK228 BK240 HB hHeld ⊢
      refine take_ (i:=0) (N:=some 39) (v:=?_) (a':=?_) #[T,F,F,F,F] rfl rfl (by kernel_rfl) (fun _ _ _ h=>h) (Or.inl ⟨by rfl,?_⟩) hHeld ?_ ?_
      rotate_left
      ·rintro w' ⟨s0,s1,s2,s3⟩
       go_simp
       with_reducible rfl
      rotate_left
      ·simp only [Act.put,zz21,zz22,zz23,i64_w,i32_w]
       rfl
      refine take_ (i:=1) (N:=some 40) (v:=?_) (a':=?_) #[T,T,F,F,F] rfl rfl (by kernel_rfl) (fun _ _ _ h=>h) (Or.inl ⟨by rfl,?_⟩) hHeld ?_ ?_
      rotate_left
      ·rintro w' ⟨s0,s1,s2,s3⟩
       go_simp
       with_reducible rfl
      rotate_left
      ·simp only [Act.put,zz21,zz22,zz23,i64_w,i32_w]
       rfl
      refine one_ (i:=2) (N:=some 41) #[T,T,T,F,F] rfl rfl (by kernel_rfl) (by decide) (fun K hK=>?_)
      refine goes_ Tryd.func11 (by kernel_rfl) rfl #[.agg #[.int .i64 a0_0,.slice A0_1 l0_1.length c0_1]] (by rfl) rfl rfl (by (try simp only [zz26,zz27,zz28]);first | done | rfl | (simp only [zz24,zz25];rfl)) ?_
      with_reducible refine (laws_toParty.calls kj11 a0_0 _ _ l0_1 t243 t244 _ ?side1 ?side2 A29.out).mono ?_
      (case side1=>repeat (first | exact (Kd.C_below HR0_1.out HB.out) | (with_reducible refine zz18 ?_ _) | (with_reducible refine zz19 ?_ _) | (with_reducible refine zz20 ?_)))
      (case side2=>exact HC0_1.out)
      rintro e w33 ⟨v245,rfl,ho0,hb⟩
      refine ⟨_,rfl,?_⟩
      have n0_:=zz31 (Kd.R_elder' (by (with_reducible repeat (first | apply zz12 | apply zz13 | apply zz14));exact HO_241001.out) (Kd.R_base ho0) hb)
      have n1_:=zz31 (Kd.R_lower (Kd.R_new' ho0 (Kd.R_lt (by (with_reducible repeat (first | apply zz12 | apply zz13 | apply zz14));exact HO_241001.out))) (zz5 (by repeat first | exact HB.out | apply zz2 | apply zz0 | apply zz1 | refine zz3 ?_ GE228.out | refine zz3 ?_ GE240.out)))
      have n2_:=zz31 (zz11 (g:=gb228) (o:=.cells #[.int .i64 a0_0,.slice A0_1 l0_1.length c0_1] 24 (0,0)) (by (with_reducible repeat (first | refine zz6 ?_ _ | refine zz7 ?_ | refine zz8 ?_ _));exact BK228.out) hb)
      have n3_:=zz31 (zz11 (g:=gb240) (o:=.cells #[.int .i64 t236,.slice Ao25 t237.length co25] 30 (0,0)) (by (with_reducible repeat (first | refine zz6 ?_ _ | refine zz7 ?_ | refine zz8 ?_ _));exact BK240.out) hb)
      have n4_:=zz31 (zz4 (by repeat first | exact HB.out | apply zz2 | apply zz0 | apply zz1 | refine zz3 ?_ GE228.out | refine zz3 ?_ GE240.out) hb)
      clear HO_241001
      clear BK228
      clear BK240
      clear HB
      have HO_241001:=n0_
      have HO246:=n1_
      have BK228:=n2_
      have BK240:=n3_
      have HB:=n4_
      clear n0_ n1_ n2_ n3_ n4_
      (try clear hb)
      (try clear hb2)
      (try clear hk)
      (try clear hi)
      (try clear ho0)
      obtain ⟨Ao34,co34,eo34⟩:=Kd.R_slice HO246.out
      (first | subst eo34 | (injection eo34 with f1_ f2_ f3_;have f4_:=f1_.symm;have f5_:=f3_.symm;clear f1_ f2_ f3_;subst f4_;subst f5_))
      refine hK.out _ _ ⟨(zz9 BK240.out 0).trans rfl,(zz9 BK240.out 1).trans rfl,(zz9 BK228.out 0).trans rfl,(zz9 BK228.out 1).trans rfl⟩ (fun hHeld=>?_)
      clear hK K
      refine norm_ (a':=?_) ?_ ?_
      rotate_left
      ·show Act.put _ (some 41) _=_
       simp only [Act.put,zz21,zz22,zz23,i64_w,i32_w]
       rfl
      refine one_ (i:=3) (N:=some 42) #[T,T,T,T,F] rfl rfl (by kernel_rfl) (by decide) (fun K hK=>?_)
      refine goes_ Tryd.func13 (by kernel_rfl) rfl #[.agg #[.int .i64 t236,.slice Ao25 t237.length co25],.agg #[.int .i64 t243,.slice Ao34 t244.length co34]] (by rfl) rfl rfl (by (try simp only [zz26,zz27,zz28]);first | done | rfl | (simp only [zz24,zz25];rfl)) ?_
      with_reducible refine (laws_eqParty.calls kj11 t236 _ _ t237 t243 _ _ t244 true _ ?side1 ?side2 ?side3 ?side4 A30.out).mono ?_
      (case side1=>repeat (first | exact (Kd.R_reads' HO_241001.out).2.2 | (with_reducible refine zz18 ?_ _) | (with_reducible refine zz19 ?_ _) | (with_reducible refine zz20 ?_)))
      (case side2=>exact (Kd.R_reads' HO_241001.out).2.1)
      (case side3=>repeat (first | exact (Kd.R_reads' HO246.out).2.2 | (with_reducible refine zz18 ?_ _) | (with_reducible refine zz19 ?_ _) | (with_reducible refine zz20 ?_)))
      (case side4=>exact (Kd.R_reads' HO246.out).2.1)
      rintro e w35 ⟨rfl,hb⟩
      refine ⟨_,rfl,?_⟩
      have n0_:=zz31 (Kd.R_below (by (with_reducible repeat (first | apply zz12 | apply zz13 | apply zz14));exact HO_241001.out) hb)
      have n1_:=zz31 (Kd.R_below (by (with_reducible repeat (first | apply zz12 | apply zz13 | apply zz14));exact HO246.out) hb)
      have n2_:=zz31 (zz11 (g:=gb228) (o:=.cells #[.int .i64 a0_0,.slice A0_1 l0_1.length c0_1] 24 (0,0)) (by (with_reducible repeat (first | refine zz6 ?_ _ | refine zz7 ?_ | refine zz8 ?_ _));exact BK228.out) hb)
      have n3_:=zz31 (zz11 (g:=gb240) (o:=.cells #[.int .i64 t236,.slice Ao25 t237.length co25] 30 (0,0)) (by (with_reducible repeat (first | refine zz6 ?_ _ | refine zz7 ?_ | refine zz8 ?_ _));exact BK240.out) hb)
      have n4_:=zz31 (zz4 (by repeat first | exact HB.out | apply zz2 | apply zz0 | apply zz1 | refine zz3 ?_ GE228.out | refine zz3 ?_ GE240.out) hb)
      clear HO_241001
      clear HO246
      clear BK228
      clear BK240
      clear HB
      have HO_241001:=n0_
      have HO246:=n1_
      have BK228:=n2_
      have BK240:=n3_
      have HB:=n4_
      clear n0_ n1_ n2_ n3_ n4_
      (try clear hb)
      (try clear hb2)
      (try clear hk)
      (try clear hi)
      refine hK.out _ _ ⟨(zz9 BK240.out 0).trans rfl,(zz9 BK240.out 1).trans rfl,(zz9 BK228.out 0).trans rfl,(zz9 BK228.out 1).trans rfl⟩ (fun hHeld=>?_)
      clear hK K
      refine norm_ (a':=?_) ?_ ?_
      rotate_left
      ·show Act.put _ (some 42) _=_
       simp only [Act.put,zz21,zz22,zz23,i64_w,i32_w]
       rfl
      refine pure_ (i:=4) (N:=some 43) (v:=?_) (a':=?_) #[T,T,T,T,T] rfl rfl (by kernel_rfl) (fun _ _ _ h=>h) (Or.inl ⟨by rfl,?_⟩) ?_ ?_
      rotate_left
      ·intro w'
       go_simp
       with_reducible rfl
      rotate_left
      ·simp only [Act.put,zz21,zz22,zz23,i64_w,i32_w]
       rfl
      refine done_ (by kernel_rfl) ?_
      try go_wp2
      go_ret
      exact ⟨by first | rfl | (simp [errW_none,errW_some] <;> rfl) | (simp [*,errW_none,errW_some] <;> rfl),by repeat first | exact HB.out | apply zz2 | apply zz0 | apply zz1 | refine zz3 ?_ GE228.out | refine zz3 ?_ GE240.out⟩
     ·replace c31:=Bool.eq_false_iff.mpr c31
      subst c31
      have H1:(some false)=some r:=by rw [if_neg (show ¬ (false=true) by decide)] at H;exact H
      clear H
      have H:=H1
      clear H1
      obtain rfl:=Option.some.inj H
      try go_wp2
      have n0_:=zz31 (zz14 HO_241001.out)
      have n1_:=zz31 (zz7 BK228.out)
      have n2_:=zz31 (zz7 BK240.out)
      have n3_:=zz31 (zz1 HB.out)
      clear HO_241001
      clear BK228
      clear BK240
      clear HB
      have HO_241001:=n0_
      have BK228:=n1_
      have BK240:=n2_
      have HB:=n3_
      clear n0_ n1_ n2_ n3_
      refine start_ (n:=5) (S:=fun w'=>w'.cell? ⟨gb240,0,none⟩=some (.int .i64 t236)∧w'.cell? ⟨gb240,1,none⟩=some (.slice Ao25 t237.length co25)∧w'.cell? ⟨gb228,0,none⟩=some (.int .i64 a0_0)∧w'.cell? ⟨gb228,1,none⟩=some (.slice A0_1 l0_1.length c0_1)) (ds:=[]) #[F,F,F,F,F] (by kernel_rfl) rfl rfl ⟨(zz9 BK240.out 0).trans rfl,(zz9 BK240.out 1).trans rfl,(zz9 BK228.out 0).trans rfl,(zz9 BK228.out 1).trans rfl⟩ (fun hHeld=>?_)
      generalize wc.drew=w36 at HO_241001 BK228 BK240 HB hHeld ⊢
      refine take_ (i:=0) (N:=some 39) (v:=?_) (a':=?_) #[T,F,F,F,F] rfl rfl (by kernel_rfl) (fun _ _ _ h=>h) (Or.inl ⟨by rfl,?_⟩) hHeld ?_ ?_
      rotate_left
      ·rintro w' ⟨s0,s1,s2,s3⟩
       go_simp
       with_reducible rfl
      rotate_left
      ·simp only [Act.put,zz21,zz22,zz23,i64_w,i32_w]
       rfl
      refine take_ (i:=1) (N:=some 40) (v:=?_) (a':=?_) #[T,T,F,F,F] rfl rfl (by kernel_rfl) (fun _ _ _ h=>h) (Or.inl ⟨by rfl,?_⟩) hHeld ?_ ?_
      rotate_left
      ·rintro w' ⟨s0,s1,s2,s3⟩
       go_simp
       with_reducible rfl
      rotate_left
      ·simp only [Act.put,zz21,zz22,zz23,i64_w,i32_w]
       rfl
      refine one_ (i:=2) (N:=some 41) #[T,T,T,F,F] rfl rfl (by kernel_rfl) (by decide) (fun K hK=>?_)
      refine goes_ Tryd.func11 (by kernel_rfl) rfl #[.agg #[.int .i64 a0_0,.slice A0_1 l0_1.length c0_1]] (by rfl) rfl rfl (by (try simp only [zz26,zz27,zz28]);first | done | rfl | (simp only [zz24,zz25];rfl)) ?_
      with_reducible refine (laws_toParty.calls kj11 a0_0 _ _ l0_1 t243 t244 _ ?side1 ?side2 A29.out).mono ?_
      (case side1=>repeat (first | exact (Kd.C_below HR0_1.out HB.out) | (with_reducible refine zz18 ?_ _) | (with_reducible refine zz19 ?_ _) | (with_reducible refine zz20 ?_)))
      (case side2=>exact HC0_1.out)
      rintro e w37 ⟨v245,rfl,ho0,hb⟩
      refine ⟨_,rfl,?_⟩
      have n0_:=zz31 (Kd.R_elder' (by (with_reducible repeat (first | apply zz12 | apply zz13 | apply zz14));exact HO_241001.out) (Kd.R_base ho0) hb)
      have n1_:=zz31 (Kd.R_lower (Kd.R_new' ho0 (Kd.R_lt (by (with_reducible repeat (first | apply zz12 | apply zz13 | apply zz14));exact HO_241001.out))) (zz5 (by repeat first | exact HB.out | apply zz2 | apply zz0 | apply zz1 | refine zz3 ?_ GE228.out | refine zz3 ?_ GE240.out)))
      have n2_:=zz31 (zz11 (g:=gb228) (o:=.cells #[.int .i64 a0_0,.slice A0_1 l0_1.length c0_1] 24 (0,0)) (by (with_reducible repeat (first | refine zz6 ?_ _ | refine zz7 ?_ | refine zz8 ?_ _));exact BK228.out) hb)
      have n3_:=zz31 (zz11 (g:=gb240) (o:=.cells #[.int .i64 t236,.slice Ao25 t237.length co25] 30 (0,0)) (by (with_reducible repeat (first | refine zz6 ?_ _ | refine zz7 ?_ | refine zz8 ?_ _));exact BK240.out) hb)
      have n4_:=zz31 (zz4 (by repeat first | exact HB.out | apply zz2 | apply zz0 | apply zz1 | refine zz3 ?_ GE228.out | refine zz3 ?_ GE240.out) hb)
      clear HO_241001
      clear BK228
      clear BK240
      clear HB
      have HO_241001:=n0_
      have HO246:=n1_
      have BK228:=n2_
      have BK240:=n3_
      have HB:=n4_
      clear n0_ n1_ n2_ n3_ n4_
      (try clear hb)
      (try clear hb2)
      (try clear hk)
      (try clear hi)
      (try clear ho0)
      obtain ⟨Ao38,co38,eo38⟩:=Kd.R_slice HO246.out
      (first | subst eo38 | (injection eo38 with f1_ f2_ f3_;have f4_:=f1_.symm;have f5_:=f3_.symm;clear f1_ f2_ f3_;subst f4_;subst f5_))
      refine hK.out _ _ ⟨(zz9 BK240.out 0).trans rfl,(zz9 BK240.out 1).trans rfl,(zz9 BK228.out 0).trans rfl,(zz9 BK228.out 1).trans rfl⟩ (fun hHeld=>?_)
      clear hK K
      refine norm_ (a':=?_) ?_ ?_
      rotate_left
      ·show Act.put _ (some 41) _=_
       simp only [Act.put,zz21,zz22,zz23,i64_w,i32_w]
       rfl
      refine one_ (i:=3) (N:=some 42) #[T,T,T,T,F] rfl rfl (by kernel_rfl) (by decide) (fun K hK=>?_)
      refine goes_ Tryd.func13 (by kernel_rfl) rfl #[.agg #[.int .i64 t236,.slice Ao25 t237.length co25],.agg #[.int .i64 t243,.slice Ao38 t244.length co38]] (by rfl) rfl rfl (by (try simp only [zz26,zz27,zz28]);first | done | rfl | (simp only [zz24,zz25];rfl)) ?_
      with_reducible refine (laws_eqParty.calls kj11 t236 _ _ t237 t243 _ _ t244 false _ ?side1 ?side2 ?side3 ?side4 A30.out).mono ?_
      (case side1=>repeat (first | exact (Kd.R_reads' HO_241001.out).2.2 | (with_reducible refine zz18 ?_ _) | (with_reducible refine zz19 ?_ _) | (with_reducible refine zz20 ?_)))
      (case side2=>exact (Kd.R_reads' HO_241001.out).2.1)
      (case side3=>repeat (first | exact (Kd.R_reads' HO246.out).2.2 | (with_reducible refine zz18 ?_ _) | (with_reducible refine zz19 ?_ _) | (with_reducible refine zz20 ?_)))
      (case side4=>exact (Kd.R_reads' HO246.out).2.1)
      rintro e w39 ⟨rfl,hb⟩
      refine ⟨_,rfl,?_⟩
      have n0_:=zz31 (Kd.R_below (by (with_reducible repeat (first | apply zz12 | apply zz13 | apply zz14));exact HO_241001.out) hb)
      have n1_:=zz31 (Kd.R_below (by (with_reducible repeat (first | apply zz12 | apply zz13 | apply zz14));exact HO246.out) hb)
      have n2_:=zz31 (zz11 (g:=gb228) (o:=.cells #[.int .i64 a0_0,.slice A0_1 l0_1.length c0_1] 24 (0,0)) (by (with_reducible repeat (first | refine zz6 ?_ _ | refine zz7 ?_ | refine zz8 ?_ _));exact BK228.out) hb)
      have n3_:=zz31 (zz11 (g:=gb240) (o:=.cells #[.int .i64 t236,.slice Ao25 t237.length co25] 30 (0,0)) (by (with_reducible repeat (first | refine zz6 ?_ _ | refine zz7 ?_ | refine zz8 ?_ _));exact BK240.out) hb)
      have n4_:=zz31 (zz4 (by repeat first | exact HB.out | apply zz2 | apply zz0 | apply zz1 | refine zz3 ?_ GE228.out | refine zz3 ?_ GE240.out) hb)
      clear HO_241001
      clear HO246
      clear BK228
      clear BK240
      clear HB
      have HO_241001:=n0_
      have HO246:=n1_
      have BK228:=n2_
      have BK240:=n3_
      have HB:=n4_
      clear n0_ n1_ n2_ n3_ n4_
      (try clear hb)
      (try clear hb2)
      (try clear hk)
      (try clear hi)
      refine hK.out _ _ ⟨(zz9 BK240.out 0).trans rfl,(zz9 BK240.out 1).trans rfl,(zz9 BK228.out 0).trans rfl,(zz9 BK228.out 1).trans rfl⟩ (fun hHeld=>?_)
      clear hK K
      refine norm_ (a':=?_) ?_ ?_
      rotate_left
      ·show Act.put _ (some 42) _=_
       simp only [Act.put,zz21,zz22,zz23,i64_w,i32_w]
       rfl
      refine pure_ (i:=4) (N:=some 43) (v:=?_) (a':=?_) #[T,T,T,T,T] rfl rfl (by kernel_rfl) (fun _ _ _ h=>h) (Or.inl ⟨by rfl,?_⟩) ?_ ?_
      rotate_left
      ·intro w'
       go_simp
       with_reducible rfl
      rotate_left
      ·simp only [Act.put,zz21,zz22,zz23,i64_w,i32_w]
       rfl
      refine done_ (by kernel_rfl) ?_
      try go_wp2
      go_ret
      exact ⟨by first | rfl | (simp [errW_none,errW_some] <;> rfl) | (simp [*,errW_none,errW_some] <;> rfl),by repeat first | exact HB.out | apply zz2 | apply zz0 | apply zz1 | refine zz3 ?_ GE228.out | refine zz3 ?_ GE240.out⟩

end Go.Proofs.YtifkaefccghgdaaDoor.P
