-- PRINTED by print.py (a twelfth state) out of the translation. Not trusted: Lean checks it.
import Derived.Test.YtoedkkoafidalaaPx0
import Derived.Test.YtoedkkoafidalaaPx2
import Derived.Test.YtoedkkoafidalaaPx3
import Derived.Test.YtoedkkoafidalaaPx4
import Derived.Test.YtoedkkoafidalaaPx6
import Derived.Test.YtoedkkoafidalaaPx7
namespace Go.Proofs.Ytoedkkoafidalaa.P
open Go.RowKit Go.Proofs.YtoedkkoafidalaaW.PrintWords Go.Proofs.YtoedkkoafidalaaW.PrintLast Go.Proofs.YtoedkkoafidalaaW.PrintMore
open Bool renaming true → T, false → F
attribute [local go_sem] max2_int min2_int max_two min_two max_three min_three max_four min_four   -- for this text's walks alone
set_option linter.unusedVariables false
set_option linter.unusedSimpArgs false

/-! ### spec_CountNamed: function 13 -/
def spec_CountNamed.l0:Nat→Int→Int→Int→Int→List (S70)→Option (Int × Bool)
 | 0,_,_,_,_,_=>none
 | k+1,x5,x6,x7,x408000,x408001=>if x7≤x408000 then (spec_CountNamed.l0 k x5 (wrap64 (x6 * x7)) (wrap64 (x7+1)) x408000 x408001) else (if x5=0 then (none) else (some (wrap64 (Int.tdiv x6 x5),true)))
def spec_CountNamed.f (k:Nat) (a0_0:Int) (l0_1:List (S70)):Option (Int × Bool):=(spec_paFew.f k a0_0 l0_1).bind fun t408=>(if t408=true then ((spec_paLeast.f k a0_0 l0_1).bind fun bt409=>(spec_CountNamed.l0 k bt409.2.2 1 2 a0_0 l0_1)) else (some (0,false)))
theorem spec_CountNamed.mono_l:∀ k,(∀ y0 y1 y2 y3 y4,LeO (spec_CountNamed.l0 k y0 y1 y2 y3 y4) (spec_CountNamed.l0 (k+1) y0 y1 y2 y3 y4))
 | 0=>fun _ _ _ _ _ r h=>by simp [spec_CountNamed.l0] at h
 | k+1=>by
  have ih0:=spec_CountNamed.mono_l k
  ·intro y0 y1 y2 y3 y4
   unfold spec_CountNamed.l0
   repeat' first
   | (with_reducible exact ih0 _ _ _ _ _)
   | (with_reducible exact spec_paFew.mono _ _ _)
   | (with_reducible exact spec_paLeast.mono _ _ _)
   | (with_reducible exact LeO.refl _)
   | (with_reducible exact LeO.none _)
   | (with_reducible refine LeO.ite ?_ ?_)
   | (with_reducible refine LeO.bind ?_ (fun _=>?_))
   | exact ih0 _ _ _ _ _
   | exact spec_paFew.mono _ _ _
   | exact spec_paLeast.mono _ _ _
   | exact LeO.none _
   | refine LeO.ite ?_ ?_
   | refine LeO.bind ?_ (fun _=>?_)
theorem spec_CountNamed.mono:∀ a0 a1 k,LeO (spec_CountNamed.f k a0 a1) (spec_CountNamed.f (k+1) a0 a1):=by
 intro a0 a1 k
 have ih0:=spec_CountNamed.mono_l k
 unfold spec_CountNamed.f
 repeat' first
   | (with_reducible exact ih0 _ _ _ _ _)
   | (with_reducible exact spec_paFew.mono _ _ _)
   | (with_reducible exact spec_paLeast.mono _ _ _)
   | (with_reducible exact LeO.refl _)
   | (with_reducible exact LeO.none _)
   | (with_reducible refine LeO.ite ?_ ?_)
   | (with_reducible refine LeO.bind ?_ (fun _=>?_))
   | exact ih0 _ _ _ _ _
   | exact spec_paFew.mono _ _ _
   | exact spec_paLeast.mono _ _ _
   | exact LeO.none _
   | refine LeO.ite ?_ ?_
   | refine LeO.bind ?_ (fun _=>?_)
set_option maxHeartbeats 8000000 in
set_option maxRecDepth 100000 in
theorem spec_CountNamed.calls (k:Nat) (a0_0:Int) (A0_1:Option Addr) (c0_1:Nat) (l0_1:List (S70)) (r1:Int) (r2:Bool) (w:World) (hr0_1:Kd.C k70 w A0_1 l0_1.length l0_1) (hc0_1:l0_1.length≤c0_1) (h:spec_CountNamed.f k a0_0 l0_1=some (r1,r2)) :
  Calls Try.prog 13 #[.agg #[.int .i64 a0_0,.slice A0_1 l0_1.length c0_1]] w fun e w'=>e=.returned (.tuple #[.int .i64 r1,.bool r2])∧Below w.heap.size w w':=by
 have hu30:=Try.underlying30
 have HR0_1:=zz31 hr0_1
 have HC0_1:=zz31 hc0_1
 clear hr0_1 hc0_1
 have HB:=zz31 (Below.refl w.heap.size w)
 have H:((spec_paFew.f k a0_0 l0_1).bind fun t408=>(if t408=true then ((spec_paLeast.f k a0_0 l0_1).bind fun bt409=>(spec_CountNamed.l0 k bt409.2.2 1 2 a0_0 l0_1)) else (some (0,false))))=some (r1,r2):=h
 clear h
 replace H:=zz30.mp H
 obtain ⟨t408,A20,H⟩:=H
 replace H:(if t408=true then ((spec_paLeast.f k a0_0 l0_1).bind fun bt409=>(spec_CountNamed.l0 k bt409.2.2 1 2 a0_0 l0_1)) else (some (0,false)))=some (r1,r2):=H
 have A2:=zz31 A20
 clear A20
 by_cases c3:t408=true
 ·subst c3
  have H1:((spec_paLeast.f k a0_0 l0_1).bind fun bt409=>(spec_CountNamed.l0 k bt409.2.2 1 2 a0_0 l0_1))=some (r1,r2):=by rw [if_pos rfl] at H;exact H
  clear H
  have H:=H1
  clear H1
  replace H:=zz30.mp H
  obtain ⟨⟨t409,t410,t413⟩,A40,H⟩:=H
  replace H:(spec_CountNamed.l0 k t413 1 2 a0_0 l0_1)=some (r1,r2):=H
  have A4:=zz31 A40
  clear A40
  have H':=zz31 H
  clear H
  go_enter Try.func13,Try.ntmps13
  go_wp2_with (first | ((with_reducible refine gate_dst (N:=1) rfl ?_);refine box_event ?hg (N:=1) ?hd (cs:=#[.int .i64 a0_0,.slice A0_1 l0_1.length c0_1]) (t:=30) ?hr ?_;(case hd=>rfl);(case hg=>rfl);(case hr=>first | (go_simp;done) | (go_simp;rfl));intro gb407 hg w5 hbox hb;have n0_:=zz31 (zz4 (by repeat first | exact HB.out | apply zz2 | apply zz0 | apply zz1) hb);have n1_:=zz31 (hbox);have n2_:=zz31 ((by rw [hg];exact (zz5 (by repeat first | exact HB.out | apply zz2 | apply zz0 | apply zz1)):w.heap.size≤gb407));have n3_:=zz31 ((by rw [hg];exact (zz5 (by repeat first | exact HB.out | apply zz2 | apply zz0 | apply zz1)):w.heap.size≤gb407));clear HB;have HB:=n0_;have BK407:=n1_;have GW407:=n2_;have GE407:=n3_;clear n0_ n1_ n2_ n3_;clear hb hbox hg;have hcz6_0:w5.cell? ⟨gb407,0,none⟩=some (.int .i64 a0_0):=(zz9 BK407.out 0).trans rfl;have hcz6_1:w5.cell? ⟨gb407,1,none⟩=some (.slice A0_1 l0_1.length c0_1):=(zz9 BK407.out 1).trans rfl;have hfz6_0:=zz10 BK407.out 0;have hfz6_1:=zz10 BK407.out 1) | ((with_reducible refine gate_callee (f:=30) rfl ?_);refine goesL_ (some 9) rfl rfl Try.func30 (by kernel_rfl) rfl #[.agg #[.int .i64 a0_0,.slice A0_1 l0_1.length c0_1]] rfl (by (try simp only [zz26,zz27,zz28]);first | done | rfl | (simp only [zz24,zz25];rfl)) ?_;(with_reducible refine (spec_paFew.calls k a0_0 _ _ l0_1 true _ ?side1 ?side2 A2.out).mono ?_);(case side1=>repeat (first | exact (Kd.C_below HR0_1.out HB.out) | (with_reducible refine zz18 ?_ _) | (with_reducible refine zz19 ?_ _) | (with_reducible refine zz20 ?_)));(case side2=>exact HC0_1.out);rintro e w7 ⟨rfl,hb⟩;refine ⟨_,rfl,?_⟩;have n0_:=zz31 (zz11 (g:=gb407) (o:=.cells #[.int .i64 a0_0,.slice A0_1 l0_1.length c0_1] 30 (0,0)) (by (with_reducible repeat (first | refine zz6 ?_ _ | refine zz7 ?_ | refine zz8 ?_ _));exact BK407.out) hb);have n1_:=zz31 (zz4 (by repeat first | exact HB.out | apply zz2 | apply zz0 | apply zz1 | refine zz3 ?_ GE407.out) hb);clear BK407;clear HB;have BK407:=n0_;have HB:=n1_;clear n0_ n1_;(try clear hb);(try clear hb2);(try clear hk);(try clear hi);have hcz8_0:w7.cell? ⟨gb407,0,none⟩=some (.int .i64 a0_0):=(zz9 BK407.out 0).trans rfl;have hcz8_1:w7.cell? ⟨gb407,1,none⟩=some (.slice A0_1 l0_1.length c0_1):=(zz9 BK407.out 1).trans rfl;have hfz8_0:=zz10 BK407.out 0;have hfz8_1:=zz10 BK407.out 1) | ((with_reducible refine gate_callee (f:=31) rfl ?_);refine goesL_ (some 13) rfl rfl Try.func31 (by kernel_rfl) rfl #[.agg #[.int .i64 a0_0,.slice A0_1 l0_1.length c0_1]] rfl (by (try simp only [zz26,zz27,zz28]);first | done | rfl | (simp only [zz24,zz25];rfl)) ?_;(with_reducible refine (spec_paLeast.calls k a0_0 (fun k_=>k_ < w.heap.size) _ _ l0_1 t409 t410 t413 _ ?side1 A4.out).mono ?_);(case side1=>exact Kd.V_mk HC0_1.out (Kd.F_below (Kd.C_F k70_heap HR0_1.out) (by repeat first | exact HB.out | apply zz2 | apply zz0 | apply zz1 | refine zz3 ?_ GE407.out)));rintro e w9 ⟨v411,rfl,ho0,hb⟩;refine ⟨_,rfl,?_⟩;have n0_:=zz31 (Kd.V_lower (Kd.V_mono (ok':=fun k_=>k_ ≠ gb407) ho0 (fun k_ hk_=>Or.elim hk_ (fun hs_=>fun e_=>Nat.not_le.2 hs_ (by rw [e_];exact GW407.out)) (fun hn_=>(Kd.freshB (g:=gb407) (o:=.cells #[.int .i64 a0_0,.slice A0_1 l0_1.length c0_1] 30 (0,0)) (by (with_reducible repeat (first | refine zz6 ?_ _ | refine zz7 ?_ | refine zz8 ?_ _));exact BK407.out) k_ hn_)))) (zz5 (by repeat first | exact HB.out | apply zz2 | apply zz0 | apply zz1 | refine zz3 ?_ GE407.out)));have n1_:=zz31 (zz11 (g:=gb407) (o:=.cells #[.int .i64 a0_0,.slice A0_1 l0_1.length c0_1] 30 (0,0)) (by (with_reducible repeat (first | refine zz6 ?_ _ | refine zz7 ?_ | refine zz8 ?_ _));exact BK407.out) hb);have n2_:=zz31 (zz4 (by repeat first | exact HB.out | apply zz2 | apply zz0 | apply zz1 | refine zz3 ?_ GE407.out) hb);clear BK407;clear HB;have HO412:=n0_;have BK407:=n1_;have HB:=n2_;clear n0_ n1_ n2_;(try clear hb);(try clear hb2);(try clear hk);(try clear hi);(try clear ho0)) | ((with_reducible refine gate_dst (N:=4) rfl ?_);refine box_event ?hg (N:=4) ?hd (cs:=#[.int .i64 0,.slice none 0 0]) (t:=30) ?hr ?_;(case hd=>rfl);(case hg=>rfl);(case hr=>first | (go_simp;done) | (go_simp;rfl));intro gb414 hg w10 hbox hb;have n0_:=zz31 (Kd.V_below (Kd.V_elderB (by (with_reducible repeat (first | apply Kd.V_alloc | apply Kd.V_drewN | apply Kd.V_drew));exact HO412.out) gb414 (Nat.le_of_eq hg.symm)) hb);have n1_:=zz31 (zz11 (g:=gb407) (o:=.cells #[.int .i64 a0_0,.slice A0_1 l0_1.length c0_1] 30 (0,0)) (by (with_reducible repeat (first | refine zz6 ?_ _ | refine zz7 ?_ | refine zz8 ?_ _));exact BK407.out) hb);have n2_:=zz31 (zz4 (by repeat first | exact HB.out | apply zz2 | apply zz0 | apply zz1 | refine zz3 ?_ GE407.out) hb);have n3_:=zz31 (hbox);have n4_:=zz31 ((by rw [hg];exact (zz5 (by repeat first | exact HB.out | apply zz2 | apply zz0 | apply zz1 | refine zz3 ?_ GE407.out)):w.heap.size≤gb414));have n5_:=zz31 ((by rw [hg];exact (zz5 (by repeat first | exact HB.out | apply zz2 | apply zz0 | apply zz1 | refine zz3 ?_ GE407.out)):w.heap.size≤gb414));have n6_:=zz31 ((by rw [hg];exact Nat.ne_of_lt (blk_lt (g:=gb407) (o:=.cells #[.int .i64 a0_0,.slice A0_1 l0_1.length c0_1] 30 (0,0)) (by (with_reducible repeat (first | refine zz6 ?_ _ | refine zz7 ?_ | refine zz8 ?_ _));exact BK407.out)):gb407 ≠ gb414));have n7_:=zz31 ((by rw [hg];exact Nat.ne_of_gt (blk_lt (g:=gb407) (o:=.cells #[.int .i64 a0_0,.slice A0_1 l0_1.length c0_1] 30 (0,0)) (by (with_reducible repeat (first | refine zz6 ?_ _ | refine zz7 ?_ | refine zz8 ?_ _));exact BK407.out)):gb414 ≠ gb407));clear HO412;clear BK407;clear HB;have HO412:=n0_;have BK407:=n1_;have HB:=n2_;have BK414:=n3_;have GW414:=n4_;have GE414:=n5_;have NB407_414:=n6_;have NB414_407:=n7_;clear n0_ n1_ n2_ n3_ n4_ n5_ n6_ n7_;clear hb hbox hg;have hnb11:=NB414_407.out;have hnc11:=NB407_414.out;have hcz12_0:w10.cell? ⟨gb414,0,none⟩=some (.int .i64 0):=(zz9 BK414.out 0).trans rfl;have hcz12_1:w10.cell? ⟨gb414,1,none⟩=some (.slice none 0 0):=(zz9 BK414.out 1).trans rfl;have hfz12_0:=zz10 BK414.out 0;have hfz12_1:=zz10 BK414.out 1;obtain ⟨Ao13,co13,eo13⟩:=Kd.V_slice HO412.out;subst eo13))
  go_loopg [6,7] k (fun kq v6 v7 w'=>∃ (x6_1:Int) (x7_1:Int),v6=.int .i64 x6_1∧v7=.int .i64 x7_1∧Aside0 (spec_CountNamed.l0 kq t413 x6_1 x7_1 a0_0 l0_1=some (r1,r2))∧Aside0 (kq≤k)∧Aside0 (Kd.V k70 70 w' w.heap.size (fun k_=>k_ ≠ gb407∧k_ ≠ gb414) (.slice Ao13 t410.length co13) t410)∧Aside0 (w'.heap[gb407]?=some (.cells #[.int .i64 a0_0,(.slice A0_1 l0_1.length c0_1)] 30 (0,0)))∧Aside0 (w'.heap[gb414]?=some (.cells #[.int .i64 t409,(.slice Ao13 t410.length co13)] 30 (0,0)))∧Aside0 (Below w.heap.size w w'))
  case atStart=>exact ⟨(1),(2),(by first | rfl | (simp;done) | (simp [*];done)),(by first | rfl | (simp;done) | (simp [*];done)),H',⟨Nat.le_refl _⟩,⟨by (with_reducible repeat (first | apply Kd.V_alloc | apply Kd.V_drewN | apply Kd.V_drew));exact Kd.V_mono (Kd.V_far (p:=⟨gb414,1,none⟩) (Kd.V_far (p:=⟨gb414,0,none⟩) (Kd.V_mono HO412.out (fun k_ hk=>(⟨hk,hk.2⟩:_∧k_ ≠ gb414))) (fun _ hk=>hk.2) (.int .i64 t409)) (fun _ hk=>hk.2) (.slice Ao13 t410.length co13)) (fun _ hk=>⟨hk.1.1,hk.1.2⟩)⟩,⟨by (with_reducible repeat (first | refine zz6 ?_ _ | refine zz7 ?_ | refine zz8 ?_ _));refine blk_far ?_ NB407_414.out _;(with_reducible repeat (first | refine zz6 ?_ _ | refine zz7 ?_ | refine zz8 ?_ _));refine blk_far ?_ NB407_414.out _;(with_reducible repeat (first | refine zz6 ?_ _ | refine zz7 ?_ | refine zz8 ?_ _));exact BK407.out⟩,⟨by (with_reducible repeat (first | refine zz6 ?_ _ | refine zz7 ?_ | refine zz8 ?_ _));refine blk_put (cs:=#[.int .i64 t409,.slice none 0 0]) ?_ 1 _ rfl;(with_reducible repeat (first | refine zz6 ?_ _ | refine zz7 ?_ | refine zz8 ?_ _));refine blk_put (cs:=#[.int .i64 0,.slice none 0 0]) ?_ 0 _ rfl;(with_reducible repeat (first | refine zz6 ?_ _ | refine zz7 ?_ | refine zz8 ?_ _));exact BK414.out⟩,⟨by repeat first | exact HB.out | apply zz2 | apply zz0 | apply zz1 | refine zz3 ?_ GE407.out | refine zz3 ?_ GE414.out⟩⟩
  case round =>
   clear H'
   try clear c1
   try clear p2
   try clear c3
   try clear c11
   try clear c13
   try clear hcz12_0
   try clear hcz12_1
   try clear hcz6_0
   try clear hcz6_1
   try clear hcz8_0
   try clear hcz8_1
   try clear hfz12_0
   try clear hfz12_1
   try clear hfz6_0
   try clear hfz6_1
   try clear hfz8_0
   try clear hfz8_1
   obtain ⟨x6_1,x7_1,rfl,rfl,HA,HK1,HO_415001,BK407,BK414,HB⟩:=hrel
   cases gk with
   | zero=>exact absurd HA.out (by simp [spec_CountNamed.l0])
   | succ k1 =>
    have H:=HA.out
    clear HA
    simp only [spec_CountNamed.l0] at H
    by_cases c14:x7_1≤a0_0
    ·rw [if_pos c14] at H
     have c14b0:decide (x7_1≤a0_0)=true:=decide_eq_true c14
     clear c14
     have H':=zz31 H
     clear H
     have hnb15:=NB407_414.out
     have hnc15:=NB414_407.out
     have hcz16_0:wr.cell? ⟨gb407,0,none⟩=some (.int .i64 a0_0):=(zz9 BK407.out 0).trans rfl
     have hcz16_1:wr.cell? ⟨gb407,1,none⟩=some (.slice A0_1 l0_1.length c0_1):=(zz9 BK407.out 1).trans rfl
     have hfz16_0:=zz10 BK407.out 0
     have hfz16_1:=zz10 BK407.out 1
     go_wp2
     go_roundg k1
     case measure=>have:=HK1.out;omega
     case rel=>exact ⟨(wrap64 (x6_1 * x7_1)),(wrap64 (x7_1+1)),(by first | rfl | (simp;done) | (simp [*];done)),(by first | rfl | (simp;done) | (simp [*];done)),H',⟨by have:=HK1.out;omega⟩,⟨by (with_reducible repeat (first | apply Kd.V_alloc | apply Kd.V_drewN | apply Kd.V_drew));exact HO_415001.out⟩,⟨by (with_reducible repeat (first | refine zz6 ?_ _ | refine zz7 ?_ | refine zz8 ?_ _));exact BK407.out⟩,⟨by (with_reducible repeat (first | refine zz6 ?_ _ | refine zz7 ?_ | refine zz8 ?_ _));exact BK414.out⟩,⟨by repeat first | exact HB.out | apply zz2 | apply zz0 | apply zz1 | refine zz3 ?_ GE407.out | refine zz3 ?_ GE414.out⟩⟩
    ·rw [if_neg c14] at H
     have c14b0:decide (x7_1≤a0_0)=false:=decide_eq_false c14
     clear c14
     by_cases c17:t413=0
     ·rw [if_pos c17] at H
      exact absurd H (by simp)
     ·rw [if_neg c17] at H
      have c17b0:(t413 == 0)=false:=beq_eq_false_iff_ne.mpr c17
      have c17b1:(t413 != 0)=true:=bne_iff_ne.mpr c17
      simp only [Option.some.injEq,Prod.mk.injEq] at H
      obtain ⟨rfl,rfl⟩:=H
      have hnb18:=NB407_414.out
      have hnc18:=NB414_407.out
      have hcz19_0:wr.cell? ⟨gb407,0,none⟩=some (.int .i64 a0_0):=(zz9 BK407.out 0).trans rfl
      have hcz19_1:wr.cell? ⟨gb407,1,none⟩=some (.slice A0_1 l0_1.length c0_1):=(zz9 BK407.out 1).trans rfl
      have hfz19_0:=zz10 BK407.out 0
      have hfz19_1:=zz10 BK407.out 1
      go_wp2
      go_ret2
      exact ⟨by first | rfl | (simp [errW_none,errW_some] <;> rfl) | (simp [*,errW_none,errW_some] <;> rfl),by repeat first | exact HB.out | apply zz2 | apply zz0 | apply zz1 | refine zz3 ?_ GE407.out | refine zz3 ?_ GE414.out⟩
 ·replace c3:=Bool.eq_false_iff.mpr c3
  subst c3
  have H1:(some (0,false))=some (r1,r2):=by rw [if_neg (show ¬ (false=true) by decide)] at H;exact H
  clear H
  have H:=H1
  clear H1
  simp only [Option.some.injEq,Prod.mk.injEq] at H
  obtain ⟨rfl,rfl⟩:=H
  go_enter Try.func13,Try.ntmps13
  go_wp2_with (first | ((with_reducible refine gate_dst (N:=1) rfl ?_);refine box_event ?hg (N:=1) ?hd (cs:=#[.int .i64 a0_0,.slice A0_1 l0_1.length c0_1]) (t:=30) ?hr ?_;(case hd=>rfl);(case hg=>rfl);(case hr=>first | (go_simp;done) | (go_simp;rfl));intro gb407 hg w20 hbox hb;have n0_:=zz31 (zz4 (by repeat first | exact HB.out | apply zz2 | apply zz0 | apply zz1) hb);have n1_:=zz31 (hbox);have n2_:=zz31 ((by rw [hg];exact (zz5 (by repeat first | exact HB.out | apply zz2 | apply zz0 | apply zz1)):w.heap.size≤gb407));have n3_:=zz31 ((by rw [hg];exact (zz5 (by repeat first | exact HB.out | apply zz2 | apply zz0 | apply zz1)):w.heap.size≤gb407));clear HB;have HB:=n0_;have BK407:=n1_;have GW407:=n2_;have GE407:=n3_;clear n0_ n1_ n2_ n3_;clear hb hbox hg;have hcz21_0:w20.cell? ⟨gb407,0,none⟩=some (.int .i64 a0_0):=(zz9 BK407.out 0).trans rfl;have hcz21_1:w20.cell? ⟨gb407,1,none⟩=some (.slice A0_1 l0_1.length c0_1):=(zz9 BK407.out 1).trans rfl;have hfz21_0:=zz10 BK407.out 0;have hfz21_1:=zz10 BK407.out 1) | ((with_reducible refine gate_callee (f:=30) rfl ?_);refine goesL_ (some 9) rfl rfl Try.func30 (by kernel_rfl) rfl #[.agg #[.int .i64 a0_0,.slice A0_1 l0_1.length c0_1]] rfl (by (try simp only [zz26,zz27,zz28]);first | done | rfl | (simp only [zz24,zz25];rfl)) ?_;(with_reducible refine (spec_paFew.calls k a0_0 _ _ l0_1 false _ ?side1 ?side2 A2.out).mono ?_);(case side1=>repeat (first | exact (Kd.C_below HR0_1.out HB.out) | (with_reducible refine zz18 ?_ _) | (with_reducible refine zz19 ?_ _) | (with_reducible refine zz20 ?_)));(case side2=>exact HC0_1.out);rintro e w22 ⟨rfl,hb⟩;refine ⟨_,rfl,?_⟩;have n0_:=zz31 (zz11 (g:=gb407) (o:=.cells #[.int .i64 a0_0,.slice A0_1 l0_1.length c0_1] 30 (0,0)) (by (with_reducible repeat (first | refine zz6 ?_ _ | refine zz7 ?_ | refine zz8 ?_ _));exact BK407.out) hb);have n1_:=zz31 (zz4 (by repeat first | exact HB.out | apply zz2 | apply zz0 | apply zz1 | refine zz3 ?_ GE407.out) hb);clear BK407;clear HB;have BK407:=n0_;have HB:=n1_;clear n0_ n1_;(try clear hb);(try clear hb2);(try clear hk);(try clear hi)))
  go_ret2
  exact ⟨by first | rfl | (simp [errW_none,errW_some] <;> rfl) | (simp [*,errW_none,errW_some] <;> rfl),by repeat first | exact HB.out | apply zz2 | apply zz0 | apply zz1 | refine zz3 ?_ GE407.out⟩

/-! ### impl_bit: function 40 -/
def impl_bit.f (a0:Bool):Option (Int):=if a0=true then (some 1) else (some 0)
set_option maxHeartbeats 8000000 in
set_option maxRecDepth 100000 in
theorem impl_bit.calls (a0:Bool) (r:Int) (w:World) (h:impl_bit.f a0=some r) :
  Calls Try.prog 40 #[.bool a0] w fun e w'=>e=.returned (.int .i64 r)∧Drawn0 w w':=by
 have H:(if a0=true then (some 1) else (some 0))=some r:=h
 clear h
 by_cases c2:a0=true
 ·subst c2
  have H1:(some 1)=some r:=by rw [if_pos rfl] at H;exact H
  clear H
  have H:=H1
  clear H1
  obtain rfl:=Option.some.inj H
  go_enter Try.func40,Try.ntmps40
  go_wp2
  go_ret
  exact ⟨by first | rfl | (simp;done) | (simp [*];done),by repeat (first | exact Drawn0.refl _ | apply Drawn0.step)⟩
 ·replace c2:=Bool.eq_false_iff.mpr c2
  subst c2
  have H1:(some 0)=some r:=by rw [if_neg (show ¬ (false=true) by decide)] at H;exact H
  clear H
  have H:=H1
  clear H1
  obtain rfl:=Option.some.inj H
  go_enter Try.func40,Try.ntmps40
  go_wp2
  go_ret
  exact ⟨by first | rfl | (simp;done) | (simp [*];done),by repeat (first | exact Drawn0.refl _ | apply Drawn0.step)⟩

-- NOT PRINTED: function 39 (impl_CountNamed_1)

/-! ### impl_CountNamed: function 14 (a contract of our own) -/
/-- What the closure of CountNamed keeps: the party in one block, two numbers in two others. -/
def CnI (w0:World) (a0:Int) (A0:Option Addr) (n0 c0 Bp Ba Bs:Nat) (s:Int × Int) (own:Nat→Prop) (W:World):Prop :=
 own=(fun i=>i=Ba ∨ i=Bs)∧Below w0.heap.size w0 W∧W.heap[Bp]?=some (.cells #[.int .i64 a0,.slice A0 n0 c0] 30 (0,0)) ∧
  W.heap[Ba]?=some (.cells #[.int .i64 s.1] 3 (0,0))∧W.heap[Bs]?=some (.cells #[.int .i64 s.2] 3 (0,0))
theorem CnI.below {w0:World} {a0:Int} {A0:Option Addr} {n0 c0 Bp Ba Bs:Nat} {s:Int × Int} {own:Nat→Prop} {W W':World} (h:CnI w0 a0 A0 n0 c0 Bp Ba Bs s own W) (hb:Below W.heap.size W W'):CnI w0 a0 A0 n0 c0 Bp Ba Bs s own W':=by
 obtain ⟨h1,h2,h3,h4,h5⟩:=h
 exact ⟨h1,h2.trans (hb.mono h2.size),zz11 h3 hb,zz11 h4 hb,zz11 h5 hb⟩
theorem CnI.lt {w0:World} {a0:Int} {A0:Option Addr} {n0 c0 Bp Ba Bs:Nat} {s:Int × Int} {own:Nat→Prop} {W:World} (h:CnI w0 a0 A0 n0 c0 Bp Ba Bs s own W):∀ i,own i→i < W.heap.size:=by
 obtain ⟨h1,h2,h3,h4,h5⟩:=h
 subst h1
 rintro i (rfl | rfl)
 ·exact blk_lt h4
 ·exact blk_lt h5
def cnAdd (l0:List S70) (s:Int × Int) (r:Int × List S70):Int × Int:=(wrap64 (s.1+1),wrap64 (s.2+if cmpT r.2 l0=0 then 1 else 0))
def cnStep (k:Nat) (a0:Int) (l0:List S70) (s:Int × Int) (q:List Int):Int × Int:=cnAdd l0 s ((impl_renamed.f k a0 l0 q).getD (0,[]))
theorem fr_set2 {Ba Bs:Nat} {W:World} (B i:Nat) (v:Value) (hB:B=Ba ∨ B=Bs):Fr (fun i=>i=Ba ∨ i=Bs) (fun i=>i=Ba ∨ i=Bs) W (W.setCell ⟨B,i,none⟩ v) :=
 ⟨rfl,rfl,rfl,by simp [World.setCell],fun j hj hn=>Below.heap_setCell _ _ _ j (fun he=>hn (by have:j=B:=he;rw [this];exact hB)),fun j hj=>.inl hj⟩
set_option maxHeartbeats 8000000 in
set_option maxRecDepth 100000 in
theorem named_each (k n:Nat) (a0:Int) (A0:Option Addr) (c0:Nat) (l0:List S70) (w0:World) (hc0:l0.length≤c0) (hr0:Kd.C k70 w0 A0 l0.length l0) (Bp Ba Bs:Nat) (hlb:w0.heap.size≤Ba) (hls:w0.heap.size≤Bs) (hpa:Bp ≠ Ba) (hps:Bp ≠ Bs) (has:Ba ≠ Bs)
  (hall:∀ q ∈ rns n n [],∃ r:Int × List S70,r.2.length≤1000000000∧impl_renamed.f (k+4) a0 l0 q=some r) :
  EachR (Int × Int) 39 #[.pointer (some ⟨Ba,0,none⟩),.pointer (some ⟨Bs,0,none⟩),.pointer (some ⟨Bp,0,none⟩)] w0.heap.size n (CnI w0 a0 A0 l0.length c0 Bp Ba Bs) (cnStep (k+4) a0 l0) (fun q=>q ∈ rns n n []):=by
 intro s own W A c q hI hB hq hl hR
 obtain ⟨⟨r1,r2⟩,hrl,hrq⟩:=hall q hq
 replace hrl:r2.length≤1000000000:=hrl
 have hst:cnStep (k+4) a0 l0 s q=(wrap64 (s.1+1),wrap64 (s.2+if cmpT r2 l0=0 then 1 else 0)):=by unfold cnStep cnAdd;rw [hrq];rfl
 obtain ⟨s1,s2⟩:=s
 obtain ⟨rfl,hbw,h3,h4,h5⟩:=hI
 have hcm:impl_compareParties.f (k+4) r1 r2 a0 l0=some (cmpT r2 l0):=by unfold impl_compareParties.f;rw [if_pos (by omega),cmpL_eq]
 have hu:=Try.underlying30
 have HC0:=zz31 (Kd.C_below hr0 hbw)
 have HCC:=zz31 hc0
 have HCs:=zz31 (Kd.R_reads' hR).2.2
 have HCc:=zz31 (Kd.R_reads' hR).2.1
 have HRN:=zz31 hrq
 have HR:=zz31 hR
 have HX1:=zz31 h3
 have HXa:=zz31 h4
 have HXs:=zz31 h5
 have HBW:=zz31 hbw
 have HLB:=zz31 (And.intro hlb hls)
 have HNE:=zz31 (And.intro hpa (And.intro hps has))
 have HST:=zz31 hst
 have f0:=zz9 h4 0
 have f1:=zz10 h4 0
 simp only [List.getElem?_toArray,List.getElem?_cons_zero,List.getElem?_cons_succ] at f0
 obtain ⟨bb,hbb⟩:∃ bb:Int,bb=if cmpT r2 l0=0 then 1 else 0:=⟨_,rfl⟩
 rw [← hbb] at HST
 obtain ⟨cc,hcc⟩:∃ cc,cc=cmpT r2 l0:=⟨_,rfl⟩
 rw [← hcc] at hcm hbb
 have HBB:=zz31 (show impl_bit.f (cc == 0)=some bb from by unfold impl_bit.f;rw [hbb];by_cases h:cc=0 <;> simp [h])
 have HCM:=zz31 hcm
 clear hcm hst h3 h4 h5 hbw hrq hq hR hcc hpa hps has hlb hls hc0 hrl hall hB hl hbb
 go_enter Try.func39,Try.ntmps39
 go_upto_region 1 with (fail)
 have HSa:=zz31 (blk_set HXa.out 0 (.int .i64 (wrap64 (s1+1))))
 have HSs:=zz31 (blk_far HXs.out (p:=⟨Ba,0,none⟩) HNE.out.2.2.symm (.int .i64 (wrap64 (s1+1))))
 have HSp:=zz31 (blk_far HX1.out (p:=⟨Ba,0,none⟩) HNE.out.1 (.int .i64 (wrap64 (s1+1))))
 generalize hwv:(W.setCell ⟨Ba,0,none⟩ (.int .i64 (wrap64 (s1+1))))=wv at HSa HSs HSp ⊢
 have HC1:Aside0 (Kd.C k70 wv A0 l0.length l0):=⟨by rw [← hwv];exact Kd.C_below hr0 (zz3 HBW.out HLB.out.1)⟩
 have HFV:Aside0 (Fr (fun i=>i=Ba ∨ i=Bs) (fun i=>i=Ba ∨ i=Bs) W wv):=⟨by rw [← hwv];exact fr_set2 Ba 0 _ (.inl rfl)⟩
 have HBV:Aside0 (Below w0.heap.size w0 wv):=⟨by rw [← hwv];exact zz3 HBW.out HLB.out.1⟩
 have HCs1:Aside0 (Kd.C (Kd.int .i64) wv A q.length q):=⟨(Kd.R_reads' (HFV.out.R HR.out (fun _ h=>h))).2.2⟩
 clear hwv f0 f1 hr0
 have f0:=zz9 HSs.out 0
 have f1:=zz10 HSs.out 0
 have f2:=zz9 HSp.out 0
 have f3:=zz9 HSp.out 1
 simp only [List.getElem?_toArray,List.getElem?_cons_zero,List.getElem?_cons_succ] at f0 f2 f3
 have h0:=zz9 (zz7 HSs.out) 0
 have h2:=zz9 (zz7 HSp.out) 0
 have h3:=zz9 (zz7 HSp.out) 1
 simp only [List.getElem?_toArray,List.getElem?_cons_zero,List.getElem?_cons_succ] at h0 h2 h3
 clear f0 f1 f2 f3
 go_region_law (first | (rw [if_pos (by rfl)]; go_simp; go_at_call 41; refine (impl_renamed.calls (k + 4) a0 A0 c0 l0 A c q r1 r2 _ ?q1 HCC.out ?q2 HCc.out HRN.out).mono ?_; (case q1 => (repeat (first | exact HC1.out | (with_reducible refine zz19 ?_ _) | (with_reducible refine zz20 ?_)))); (case q2 => (repeat (first | exact HCs1.out | (with_reducible refine zz19 ?_ _) | (with_reducible refine zz20 ?_)))); rintro e w3 ⟨v1, rfl, ho, hb⟩; obtain ⟨A1, c1, rfl⟩ := Kd.R_slice ho; have HB3 := zz31 (zz4 (w := wv) (by repeat (first | exact Below.refl _ _ | apply zz0 | apply below_drew | apply zz2)) hb); have HO3 := zz31 (Kd.R_reads' ho).2.2; have HO3c := zz31 (Kd.R_reads' ho).2.1; have HP3 := zz31 (zz11 HSp.out HB3.out); have HS3 := zz31 (zz11 HSs.out HB3.out); have HC3 := zz31 (Kd.C_below HC1.out HB3.out); clear h0 h2 h3; have h0 := zz9 HS3.out 0; have h2 := zz9 HP3.out 0; have h3 := zz9 HP3.out 1; simp only [List.getElem?_toArray, List.getElem?_cons_zero, List.getElem?_cons_succ] at h0 h2 h3; clear ho hb) | (rw [if_pos (by rfl)]; go_simp; go_at_call 35; refine (impl_compareParties.calls (k + 4) r1 A1 c1 r2 a0 A0 c0 l0 cc _ ?q1 HO3c.out ?q2 HCC.out HCM.out).mono ?_; (case q1 => (repeat (first | exact HO3.out | (with_reducible refine zz19 ?_ _) | (with_reducible refine zz20 ?_)))); (case q2 => (repeat (first | exact HC3.out | (with_reducible refine zz19 ?_ _) | (with_reducible refine zz20 ?_)))); rintro e w4 ⟨rfl, hb⟩; have HB4 := zz31 (zz4 (w := w3) (by repeat (first | exact Below.refl _ _ | apply zz0 | apply below_drew | apply zz2)) hb); have HP4 := zz31 (zz11 HP3.out HB4.out); have HS4 := zz31 (zz11 HS3.out HB4.out); clear h0 h2 h3; have h0 := zz9 HS4.out 0; have h2 := zz9 HP4.out 0; have h3 := zz9 HP4.out 1; have h4 := zz10 HS4.out 0; simp only [List.getElem?_toArray, List.getElem?_cons_zero, List.getElem?_cons_succ] at h0 h2 h3; clear hb) | (rw [if_pos (by rfl)]; go_simp; go_at_call 40; refine (impl_bit.calls (cc == 0) bb _ HBB.out).mono ?_; rintro e w5 ⟨rfl, hd⟩; obtain ⟨q5, hq5⟩ := hd.out; subst hq5) | (fail "no arm"))
 all_goals
  have HX:=zz31 (HB3.out.trans (HB4.out.mono HB3.out.size))
  have HW2:=zz31 (show IntKind.i64.wrap (s2+bb)=wrap64 (s2+bb) from i64_w _)
  refine bodyPost_end (results_none rfl _ _ _) rfl ⟨rfl,(fun i=>i=Ba ∨ i=Bs),?_,HFV.out.trans (((Fr.of_below _ HX.out).drewN _).trans (fr_set2 Bs 0 _ (.inr rfl)))⟩
  rw [HST.out,HW2.out]
  exact ⟨rfl,zz3 (zz0 (HBV.out.trans (HX.out.mono HBV.out.size)) _) HLB.out.2,blk_far (zz6 HP4.out _) (p:=⟨Bs,0,none⟩) HNE.out.2.1 _,blk_far (zz6 (zz11 HSa.out HX.out) _) (p:=⟨Bs,0,none⟩) HNE.out.2.2 _,blk_set (zz6 HS4.out _) 0 _⟩
def impl_CountNamed.f (k:Nat) (a0_0:Int) (l0_1:List (S70)):Option (Int × Bool) :=
 (impl_areRenamed.f k a0_0 l0_1).bind fun ok=>if ok=true then
  (if 4≤k∧0≤a0_0∧a0_0≤7∧l0_1.length≤1000000000 then
   (mapO (fun q=>impl_renamed.f k a0_0 l0_1 q) (rns a0_0.toNat a0_0.toNat [])).bind fun rs =>
    if (∀ r ∈ rs,r.2.length≤1000000000)∧(rs.foldl (cnAdd l0_1) (0,0)).2 ≠ 0 then some (wrap64 (Int.tdiv (rs.foldl (cnAdd l0_1) (0,0)).1 (rs.foldl (cnAdd l0_1) (0,0)).2),true) else none
  else none) else some (0,false)
theorem impl_CountNamed.mono:∀ a0 a1 k,LeO (impl_CountNamed.f k a0 a1) (impl_CountNamed.f (k+1) a0 a1):=by
 intro a0 a1 k
 unfold impl_CountNamed.f
 refine LeO.bind (impl_areRenamed.mono _ _ _) fun ok=>LeO.ite ?_ (LeO.refl _)
 by_cases h:4≤k∧0≤a0∧a0≤7∧a1.length≤1000000000
 ·rw [if_pos h,if_pos ⟨by omega,h.2⟩]
  exact LeO.bind (mapO_mono _ _ (fun q=>impl_renamed.mono _ _ _ _) _) fun _=>LeO.refl _
 ·rw [if_neg h]
  exact LeO.none _
set_option maxHeartbeats 4000000 in
set_option maxRecDepth 100000 in
theorem impl_CountNamed.calls (k:Nat) (a0_0:Int) (A0_1:Option Addr) (c0_1:Nat) (l0_1:List (S70)) (r1:Int) (r2:Bool) (w:World) (hr0_1:Kd.C k70 w A0_1 l0_1.length l0_1) (hc0_1:l0_1.length≤c0_1) (h:impl_CountNamed.f k a0_0 l0_1=some (r1,r2)) :
  Calls Try.prog 14 #[.agg #[.int .i64 a0_0,.slice A0_1 l0_1.length c0_1]] w fun e w'=>e=.returned (.tuple #[.int .i64 r1,.bool r2])∧Below w.heap.size w w':=by
 have hu:=Try.underlying30
 unfold impl_CountNamed.f at h
 obtain ⟨ok,hok,h⟩:=zz30.1 h
 have HOK:=zz31 hok
 clear hok
 have HBX:=zz31 (blk_new w (.cells #[.int .i64 a0_0,.slice A0_1 l0_1.length c0_1] 30))
 have HBb:Aside0 (Below w.heap.size w (w.alloc (.cells #[.int .i64 a0_0,.slice A0_1 l0_1.length c0_1] 30))):=⟨zz2 (Below.refl _ _) _⟩
 have HCr:=zz31 (zz18 hr0_1 (.cells #[.int .i64 a0_0,.slice A0_1 l0_1.length c0_1] 30))
 cases ok with
 | false =>
  rw [if_neg (by simp)] at h
  simp only [Option.some.injEq,Prod.mk.injEq] at h
  obtain ⟨rfl,rfl⟩:=h
  clear hr0_1
  go_enter Try.func14,Try.ntmps14
  go_wp2_with (first | (go_at_call 34; refine (impl_areRenamed.calls k a0_0 A0_1 c0_1 l0_1 false _ HCr.out hc0_1 HOK.out).mono ?_; rintro e w3 ⟨rfl, hb⟩; have HB3 := zz31 (zz4 HBb.out hb); clear hb) | (fail "no arm"))
  refine bodyPost_ret (results_tmp2 rfl _ _ _) rfl ?_
  exact ⟨rfl,HB3.out⟩
 | true =>
  rw [if_pos rfl] at h
  by_cases hg:4≤k∧0≤a0_0∧a0_0≤7∧l0_1.length≤1000000000
  case neg=>rw [if_neg hg] at h;exact absurd h (by simp)
  rw [if_pos hg] at h
  obtain ⟨rs,hrs,h⟩:=zz30.1 h
  by_cases hrl:(∀ r ∈ rs,r.2.length≤1000000000)∧(rs.foldl (cnAdd l0_1) (0,0)).2 ≠ 0
  case neg=>rw [if_neg hrl] at h;exact absurd h (by simp)
  rw [if_pos hrl] at h
  simp only [Option.some.injEq,Prod.mk.injEq] at h
  obtain ⟨hr1,rfl⟩:=h
  obtain ⟨hk4,hg0,hg7,hgl⟩:=hg
  obtain ⟨k,rfl⟩:∃ k',k=k'+4:=⟨k - 4,by omega⟩
  obtain ⟨n,rfl⟩:=Int.eq_ofNat_of_zero_le hg0
  rw [Int.toNat_natCast] at hrs
  obtain ⟨sm,hsm⟩:∃ sm,sm=rs.foldl (cnAdd l0_1) (0,0):=⟨_,rfl⟩
  rw [← hsm] at hrl hr1
  have hfold:(rns n n []).foldl (cnStep (k+4) (n:Int) l0_1) (0,0)=sm:=by
   rw [hsm]
   exact mapO_fold (0,[]) (cnAdd l0_1) _ hrs
  have hall:∀ q ∈ rns n n [],∃ r:Int × List S70,r.2.length≤1000000000∧impl_renamed.f (k+4) (n:Int) l0_1 q=some r:=fun q hq=>by
   obtain ⟨y,hy,e⟩:=mapO_mem hrs q hq
   exact ⟨y,hrl.1 y hy,e⟩
  obtain ⟨sa,sb⟩:=sm
  have CG:Aside0 (∀ (Wx:World) (Ba:Nat),Below w.heap.size w Wx→w.heap.size < Ba→Wx.heap[w.heap.size]?=some (.cells #[.int .i64 (n:Int),.slice A0_1 l0_1.length c0_1] 30 (0,0))→Wx.heap[Ba]?=some (.cells #[.int .i64 0] 3 (0,0))→Wx.heap[Ba+1]?=some (.cells #[.int .i64 0] 3 (0,0)) →
    Calls Try.prog 38 #[.int .i64 (n:Int),.func (.func 39) #[] #[.pointer (some ⟨Ba,0,none⟩),.pointer (some ⟨Ba+1,0,none⟩),.pointer (some ⟨w.heap.size,0,none⟩)]] Wx fun e W'=>e=.returned (.tuple #[])∧Below w.heap.size w W'∧W'.cell? ⟨Ba,0,none⟩=some (.int .i64 sa)∧W'.cell? ⟨Ba+1,0,none⟩=some (.int .i64 sb)):=⟨fun Wx Ba hb hlb h1 h2 h3=>by
   have hs:CnI w (n:Int) A0_1 l0_1.length c0_1 w.heap.size Ba (Ba+1) (0,0) (fun i=>i=Ba ∨ i=Ba+1) Wx:=⟨rfl,hb,h1,h2,h3⟩
   refine (renamings_each (Int × Int) 39 #[.pointer (some ⟨Ba,0,none⟩),.pointer (some ⟨Ba+1,0,none⟩),.pointer (some ⟨w.heap.size,0,none⟩)] (fun _ _=>rfl) w.heap.size n (CnI w (n:Int) A0_1 l0_1.length c0_1 w.heap.size Ba (Ba+1)) (cnStep (k+4) (n:Int) l0_1) (named_each k n (n:Int) A0_1 c0_1 l0_1 w hc0_1 hr0_1 w.heap.size Ba (Ba+1) (by omega) (by omega) (by omega) (by omega) (by omega) hall) (fun _ _ _ _ h hb=>h.below hb) (fun _ _ _ h=>h.lt) (by omega) _ _ Wx hs hb.size).mono ?_
   rintro e W' ⟨g1,own',g2,g3⟩
   rw [hfold] at g2
   obtain ⟨p1,p2,p3,p4,p5⟩:=g2
   exact ⟨g1,p2,zz9 p4 0,zz9 p5 0⟩⟩
  have hz:(sb == 0)=false:=beq_eq_false_iff_ne.2 hrl.2
  have hz2:¬ sb=0:=hrl.2
  have HR1:=zz31 hr1
  clear hall hfold hrs hrl hg0 hg7 hgl hk4 hr1 hsm hr0_1
  go_enter Try.func14,Try.ntmps14
  go_wp2_with (first | (go_at_call 34; refine (impl_areRenamed.calls (k + 4) (n : Int) A0_1 c0_1 l0_1 true _ HCr.out hc0_1 HOK.out).mono ?_; rintro e w3 ⟨rfl, hb⟩; have HB3 := zz31 (zz4 HBb.out hb); have HX3 := zz31 (zz11 HBX.out hb); have hba : Below w3.heap.size w3 ((w3.alloc (.cells #[.int .i64 0] 3)).alloc (.cells #[.int .i64 0] 3)) := zz2 (zz2 (Below.refl _ _) _) _; have HBA := zz31 (HB3.out.trans (hba.mono HB3.out.size)); have HXX := zz31 (zz11 HX3.out hba); have HM0 := zz31 (zz8 (blk_new w3 (.cells #[.int .i64 0] 3)) (.cells #[.int .i64 0] 3)); have HM1 : Aside0 (((w3.alloc (.cells #[.int .i64 0] 3)).alloc (.cells #[.int .i64 0] 3)).heap[w3.heap.size + 1]? = some (.cells #[.int .i64 0] 3 (0, 0))) := ⟨by have h1 := blk_new (w3.alloc (.cells #[.int .i64 0] 3)) (.cells #[.int .i64 0] 3); rw [show (w3.alloc (.cells #[.int .i64 0] 3)).heap.size = w3.heap.size + 1 from by simp] at h1; exact h1⟩; have HLT := zz31 (blk_lt HX3.out); have j0 : ((w3.alloc (.cells #[.int .i64 0] 3)).alloc (.cells #[.int .i64 0] 3)).cell? ⟨w.heap.size, 0, none⟩ = some (.int .i64 (n : Int)) := zz9 HXX.out 0; clear hb hba) | (go_at_call 38; refine (CG.out _ w3.heap.size HBA.out HLT.out HXX.out HM0.out HM1.out).mono ?_; rintro e w4 ⟨rfl, hb, h4, h5⟩; have HB4 := zz31 hb; clear hb) | (fail "no arm"))
  obtain rfl:wrap64 (sa.tdiv sb)=r1:=HR1.out
  refine bodyPost_ret (results_tmp2 rfl _ _ _) rfl ?_
  exact ⟨rfl,HB4.out⟩

/-! ### laws_FnExactCountNamed: function 4 -/
def laws_FnExactCountNamed.j0:Nat→Bool→Int→List (S86)→Int→List (S70)→Option (Bool)
 | 0,_,_,_,_,_=>none
 | k+1,x34,x416000,x416001,x428000,x428001=>if x34=true then (some false) else ((laws_toParty.f k x416000 x416001).bind fun bt430=>((laws_eqParty.f k x428000 x428001 bt430.1 bt430.2).bind fun t434=>(if t434=true then (some true) else (some false))))
def laws_FnExactCountNamed.f (k:Nat) (a0_0:Int) (l0_1:List (S86)):Option (Bool):=(laws_szParty.f a0_0 l0_1 1048576).bind fun t416=>(if t416 < 0 then (some true) else ((laws_toParty.f k a0_0 l0_1).bind fun bt417=>((spec_CountNamed.f k bt417.1 bt417.2).bind fun bt421=>((laws_toParty.f k a0_0 l0_1).bind fun bt423=>((impl_CountNamed.f k bt423.1 bt423.2).bind fun bt428=>(if bt428.1=bt421.1 then (laws_FnExactCountNamed.j0 k (bt428.2 != bt421.2) a0_0 l0_1 bt423.1 bt423.2) else (laws_FnExactCountNamed.j0 k true a0_0 l0_1 bt423.1 bt423.2)))))))
theorem laws_FnExactCountNamed.mono_l:∀ k,(∀ y0 y1 y2 y3 y4,LeO (laws_FnExactCountNamed.j0 k y0 y1 y2 y3 y4) (laws_FnExactCountNamed.j0 (k+1) y0 y1 y2 y3 y4))
 | 0=>fun _ _ _ _ _ r h=>by simp [laws_FnExactCountNamed.j0] at h
 | k+1=>by
  have ih0:=laws_FnExactCountNamed.mono_l k
  ·intro y0 y1 y2 y3 y4
   unfold laws_FnExactCountNamed.j0
   repeat' first
   | (with_reducible exact ih0 _ _ _ _ _)
   | (with_reducible exact impl_CountNamed.mono _ _ _)
   | (with_reducible exact laws_eqParty.mono _ _ _ _ _)
   | (with_reducible exact laws_toParty.mono _ _ _)
   | (with_reducible exact spec_CountNamed.mono _ _ _)
   | (with_reducible exact LeO.refl _)
   | (with_reducible exact LeO.none _)
   | (with_reducible refine LeO.ite ?_ ?_)
   | (with_reducible refine LeO.bind ?_ (fun _=>?_))
   | exact ih0 _ _ _ _ _
   | exact impl_CountNamed.mono _ _ _
   | exact laws_eqParty.mono _ _ _ _ _
   | exact laws_toParty.mono _ _ _
   | exact spec_CountNamed.mono _ _ _
   | exact LeO.none _
   | refine LeO.ite ?_ ?_
   | refine LeO.bind ?_ (fun _=>?_)
theorem laws_FnExactCountNamed.mono:∀ a0 a1 k,LeO (laws_FnExactCountNamed.f k a0 a1) (laws_FnExactCountNamed.f (k+1) a0 a1):=by
 intro a0 a1 k
 have ih0:=laws_FnExactCountNamed.mono_l k
 unfold laws_FnExactCountNamed.f
 repeat' first
   | (with_reducible exact ih0 _ _ _ _ _)
   | (with_reducible exact impl_CountNamed.mono _ _ _)
   | (with_reducible exact laws_eqParty.mono _ _ _ _ _)
   | (with_reducible exact laws_toParty.mono _ _ _)
   | (with_reducible exact spec_CountNamed.mono _ _ _)
   | (with_reducible exact LeO.refl _)
   | (with_reducible exact LeO.none _)
   | (with_reducible refine LeO.ite ?_ ?_)
   | (with_reducible refine LeO.bind ?_ (fun _=>?_))
   | exact ih0 _ _ _ _ _
   | exact impl_CountNamed.mono _ _ _
   | exact laws_eqParty.mono _ _ _ _ _
   | exact laws_toParty.mono _ _ _
   | exact spec_CountNamed.mono _ _ _
   | exact LeO.none _
   | refine LeO.ite ?_ ?_
   | refine LeO.bind ?_ (fun _=>?_)
set_option maxHeartbeats 8000000 in
set_option maxRecDepth 100000 in
theorem laws_FnExactCountNamed.calls (k:Nat) (a0_0:Int) (A0_1:Option Addr) (c0_1:Nat) (l0_1:List (S86)) (r:Bool) (w:World) (hr0_1:Kd.C k86 w A0_1 l0_1.length l0_1) (hc0_1:l0_1.length≤c0_1) (h:laws_FnExactCountNamed.f k a0_0 l0_1=some r) :
  Calls Try.prog 4 #[.agg #[.int .i64 a0_0,.slice A0_1 l0_1.length c0_1]] w fun e w'=>e=.returned (.bool r)∧Below w.heap.size w w':=by
 have hu24:=Try.underlying24
 have hu30:=Try.underlying30
 have HR0_1:=zz31 hr0_1
 have HC0_1:=zz31 hc0_1
 clear hr0_1 hc0_1
 have HB:=zz31 (Below.refl w.heap.size w)
 have H:((laws_szParty.f a0_0 l0_1 1048576).bind fun t416=>(if t416 < 0 then (some true) else ((laws_toParty.f k a0_0 l0_1).bind fun bt417=>((spec_CountNamed.f k bt417.1 bt417.2).bind fun bt421=>((laws_toParty.f k a0_0 l0_1).bind fun bt423=>((impl_CountNamed.f k bt423.1 bt423.2).bind fun bt428=>(if bt428.1=bt421.1 then (laws_FnExactCountNamed.j0 k (bt428.2 != bt421.2) a0_0 l0_1 bt423.1 bt423.2) else (laws_FnExactCountNamed.j0 k true a0_0 l0_1 bt423.1 bt423.2))))))))=some r:=h
 clear h
 replace H:=zz30.mp H
 obtain ⟨t416,A20,H⟩:=H
 replace H:(if t416 < 0 then (some true) else ((laws_toParty.f k a0_0 l0_1).bind fun bt417=>((spec_CountNamed.f k bt417.1 bt417.2).bind fun bt421=>((laws_toParty.f k a0_0 l0_1).bind fun bt423=>((impl_CountNamed.f k bt423.1 bt423.2).bind fun bt428=>(if bt428.1=bt421.1 then (laws_FnExactCountNamed.j0 k (bt428.2 != bt421.2) a0_0 l0_1 bt423.1 bt423.2) else (laws_FnExactCountNamed.j0 k true a0_0 l0_1 bt423.1 bt423.2)))))))=some r:=H
 have A2:=zz31 A20
 clear A20
 by_cases c3:t416 < 0
 ·rw [if_pos c3] at H
  have c3b0:decide (t416 < 0)=true:=decide_eq_true c3
  clear c3
  obtain rfl:=Option.some.inj H
  go_enter Try.func4,Try.ntmps4
  go_wp2_with (first | ((with_reducible refine gate_dst (N:=1) rfl ?_);refine box_event ?hg (N:=1) ?hd (cs:=#[.int .i64 a0_0,.slice A0_1 l0_1.length c0_1]) (t:=24) ?hr ?_;(case hd=>rfl);(case hg=>rfl);(case hr=>first | (go_simp;done) | (go_simp;rfl));intro gb415 hg w4 hbox hb;have n0_:=zz31 (zz4 (by repeat first | exact HB.out | apply zz2 | apply zz0 | apply zz1) hb);have n1_:=zz31 (hbox);have n2_:=zz31 ((by rw [hg];exact (zz5 (by repeat first | exact HB.out | apply zz2 | apply zz0 | apply zz1)):w.heap.size≤gb415));have n3_:=zz31 ((by rw [hg];exact (zz5 (by repeat first | exact HB.out | apply zz2 | apply zz0 | apply zz1)):w.heap.size≤gb415));clear HB;have HB:=n0_;have BK415:=n1_;have GW415:=n2_;have GE415:=n3_;clear n0_ n1_ n2_ n3_;clear hb hbox hg;have hcz5_0:w4.cell? ⟨gb415,0,none⟩=some (.int .i64 a0_0):=(zz9 BK415.out 0).trans rfl;have hcz5_1:w4.cell? ⟨gb415,1,none⟩=some (.slice A0_1 l0_1.length c0_1):=(zz9 BK415.out 1).trans rfl;have hfz5_0:=zz10 BK415.out 0;have hfz5_1:=zz10 BK415.out 1) | ((with_reducible refine gate_callee (f:=8) rfl ?_);refine goesL_ (some 11) rfl rfl Try.func8 (by kernel_rfl) rfl #[.agg #[.int .i64 a0_0,.slice A0_1 l0_1.length c0_1],.int .i64 1048576] rfl (by (try simp only [zz26,zz27,zz28]);first | done | rfl | (simp only [zz24,zz25];rfl)) ?_;(with_reducible refine (laws_szParty.calls a0_0 _ _ l0_1 1048576 t416 _ ?side1 ?side2 A2.out).mono ?_);(case side1=>repeat (first | exact (Kd.C_below HR0_1.out HB.out) | (with_reducible refine zz18 ?_ _) | (with_reducible refine zz19 ?_ _) | (with_reducible refine zz20 ?_)));(case side2=>exact HC0_1.out);rintro e w6 ⟨rfl,hb⟩;refine ⟨_,rfl,?_⟩;have n0_:=zz31 (zz11 (g:=gb415) (o:=.cells #[.int .i64 a0_0,.slice A0_1 l0_1.length c0_1] 24 (0,0)) (by (with_reducible repeat (first | refine zz6 ?_ _ | refine zz7 ?_ | refine zz8 ?_ _));exact BK415.out) hb);have n1_:=zz31 (zz4 (by repeat first | exact HB.out | apply zz2 | apply zz0 | apply zz1 | refine zz3 ?_ GE415.out) hb);clear BK415;clear HB;have BK415:=n0_;have HB:=n1_;clear n0_ n1_;(try clear hb);(try clear hb2);(try clear hk);(try clear hi)))
  go_ret
  exact ⟨by first | rfl | (simp [errW_none,errW_some] <;> rfl) | (simp [*,errW_none,errW_some] <;> rfl),by repeat first | exact HB.out | apply zz2 | apply zz0 | apply zz1 | refine zz3 ?_ GE415.out⟩
 ·rw [if_neg c3] at H
  have c3b0:decide (t416 < 0)=false:=decide_eq_false c3
  clear c3
  replace H:=zz30.mp H
  obtain ⟨⟨t417,t418⟩,A70,H⟩:=H
  replace H:((spec_CountNamed.f k t417 t418).bind fun bt421=>((laws_toParty.f k a0_0 l0_1).bind fun bt423=>((impl_CountNamed.f k bt423.1 bt423.2).bind fun bt428=>(if bt428.1=bt421.1 then (laws_FnExactCountNamed.j0 k (bt428.2 != bt421.2) a0_0 l0_1 bt423.1 bt423.2) else (laws_FnExactCountNamed.j0 k true a0_0 l0_1 bt423.1 bt423.2)))))=some r:=H
  have A7:=zz31 A70
  clear A70
  replace H:=zz30.mp H
  obtain ⟨⟨t421,t422⟩,A80,H⟩:=H
  replace H:((laws_toParty.f k a0_0 l0_1).bind fun bt423=>((impl_CountNamed.f k bt423.1 bt423.2).bind fun bt428=>(if bt428.1=t421 then (laws_FnExactCountNamed.j0 k (bt428.2 != t422) a0_0 l0_1 bt423.1 bt423.2) else (laws_FnExactCountNamed.j0 k true a0_0 l0_1 bt423.1 bt423.2))))=some r:=H
  have A8:=zz31 A80
  clear A80
  replace H:=zz30.mp H
  obtain ⟨⟨t423,t424⟩,A90,H⟩:=H
  replace H:((impl_CountNamed.f k t423 t424).bind fun bt428=>(if bt428.1=t421 then (laws_FnExactCountNamed.j0 k (bt428.2 != t422) a0_0 l0_1 t423 t424) else (laws_FnExactCountNamed.j0 k true a0_0 l0_1 t423 t424)))=some r:=H
  have A9:=zz31 A90
  clear A90
  replace H:=zz30.mp H
  obtain ⟨⟨t428,t429⟩,A100,H⟩:=H
  replace H:(if t428=t421 then (laws_FnExactCountNamed.j0 k (t429 != t422) a0_0 l0_1 t423 t424) else (laws_FnExactCountNamed.j0 k true a0_0 l0_1 t423 t424))=some r:=H
  have A10:=zz31 A100
  clear A100
  have HC11:=zz31 H
  clear H
  go_enter Try.func4,Try.ntmps4
  go_upto_region 8 with (first | ((with_reducible refine gate_dst (N:=1) rfl ?_);refine box_event ?hg (N:=1) ?hd (cs:=#[.int .i64 a0_0,.slice A0_1 l0_1.length c0_1]) (t:=24) ?hr ?_;(case hd=>rfl);(case hg=>rfl);(case hr=>first | (go_simp;done) | (go_simp;rfl));intro gb415 hg w12 hbox hb;have n0_:=zz31 (zz4 (by repeat first | exact HB.out | apply zz2 | apply zz0 | apply zz1) hb);have n1_:=zz31 (hbox);have n2_:=zz31 ((by rw [hg];exact (zz5 (by repeat first | exact HB.out | apply zz2 | apply zz0 | apply zz1)):w.heap.size≤gb415));have n3_:=zz31 ((by rw [hg];exact (zz5 (by repeat first | exact HB.out | apply zz2 | apply zz0 | apply zz1)):w.heap.size≤gb415));clear HB;have HB:=n0_;have BK415:=n1_;have GW415:=n2_;have GE415:=n3_;clear n0_ n1_ n2_ n3_;clear hb hbox hg;have hcz13_0:w12.cell? ⟨gb415,0,none⟩=some (.int .i64 a0_0):=(zz9 BK415.out 0).trans rfl;have hcz13_1:w12.cell? ⟨gb415,1,none⟩=some (.slice A0_1 l0_1.length c0_1):=(zz9 BK415.out 1).trans rfl;have hfz13_0:=zz10 BK415.out 0;have hfz13_1:=zz10 BK415.out 1) | ((with_reducible refine gate_callee (f:=8) rfl ?_);refine goesL_ (some 11) rfl rfl Try.func8 (by kernel_rfl) rfl #[.agg #[.int .i64 a0_0,.slice A0_1 l0_1.length c0_1],.int .i64 1048576] rfl (by (try simp only [zz26,zz27,zz28]);first | done | rfl | (simp only [zz24,zz25];rfl)) ?_;(with_reducible refine (laws_szParty.calls a0_0 _ _ l0_1 1048576 t416 _ ?side1 ?side2 A2.out).mono ?_);(case side1=>repeat (first | exact (Kd.C_below HR0_1.out HB.out) | (with_reducible refine zz18 ?_ _) | (with_reducible refine zz19 ?_ _) | (with_reducible refine zz20 ?_)));(case side2=>exact HC0_1.out);rintro e w14 ⟨rfl,hb⟩;refine ⟨_,rfl,?_⟩;have n0_:=zz31 (zz11 (g:=gb415) (o:=.cells #[.int .i64 a0_0,.slice A0_1 l0_1.length c0_1] 24 (0,0)) (by (with_reducible repeat (first | refine zz6 ?_ _ | refine zz7 ?_ | refine zz8 ?_ _));exact BK415.out) hb);have n1_:=zz31 (zz4 (by repeat first | exact HB.out | apply zz2 | apply zz0 | apply zz1 | refine zz3 ?_ GE415.out) hb);clear BK415;clear HB;have BK415:=n0_;have HB:=n1_;clear n0_ n1_;(try clear hb);(try clear hb2);(try clear hk);(try clear hi);have hcz15_0:w14.cell? ⟨gb415,0,none⟩=some (.int .i64 a0_0):=(zz9 BK415.out 0).trans rfl;have hcz15_1:w14.cell? ⟨gb415,1,none⟩=some (.slice A0_1 l0_1.length c0_1):=(zz9 BK415.out 1).trans rfl;have hfz15_0:=zz10 BK415.out 0;have hfz15_1:=zz10 BK415.out 1) | ((with_reducible refine gate_callee (f:=10) rfl ?_);refine goesL_ (some 16) rfl rfl Try.func10 (by kernel_rfl) rfl #[.agg #[.int .i64 a0_0,.slice A0_1 l0_1.length c0_1]] rfl (by (try simp only [zz26,zz27,zz28]);first | done | rfl | (simp only [zz24,zz25];rfl)) ?_;(with_reducible refine (laws_toParty.calls k a0_0 _ _ l0_1 t417 t418 _ ?side1 ?side2 A7.out).mono ?_);(case side1=>repeat (first | exact (Kd.C_below HR0_1.out HB.out) | (with_reducible refine zz18 ?_ _) | (with_reducible refine zz19 ?_ _) | (with_reducible refine zz20 ?_)));(case side2=>exact HC0_1.out);rintro e w16 ⟨v419,rfl,ho0,hb⟩;refine ⟨_,rfl,?_⟩;have n0_:=zz31 (Kd.R_lower ho0 (zz5 (by repeat first | exact HB.out | apply zz2 | apply zz0 | apply zz1 | refine zz3 ?_ GE415.out)));have n1_:=zz31 (zz11 (g:=gb415) (o:=.cells #[.int .i64 a0_0,.slice A0_1 l0_1.length c0_1] 24 (0,0)) (by (with_reducible repeat (first | refine zz6 ?_ _ | refine zz7 ?_ | refine zz8 ?_ _));exact BK415.out) hb);have n2_:=zz31 (zz4 (by repeat first | exact HB.out | apply zz2 | apply zz0 | apply zz1 | refine zz3 ?_ GE415.out) hb);clear BK415;clear HB;have HO420:=n0_;have BK415:=n1_;have HB:=n2_;clear n0_ n1_ n2_;(try clear hb);(try clear hb2);(try clear hk);(try clear hi);(try clear ho0);obtain ⟨Ao17,co17,eo17⟩:=Kd.R_slice HO420.out;subst eo17) | ((with_reducible refine gate_callee (f:=13) rfl ?_);refine goesL_ (some 17) rfl rfl Try.func13 (by kernel_rfl) rfl #[.agg #[.int .i64 t417,.slice Ao17 t418.length co17]] rfl (by (try simp only [zz26,zz27,zz28]);first | done | rfl | (simp only [zz24,zz25];rfl)) ?_;(with_reducible refine (spec_CountNamed.calls k t417 _ _ t418 t421 t422 _ ?side1 ?side2 A8.out).mono ?_);(case side1=>repeat (first | exact (Kd.R_reads' HO420.out).2.2 | (with_reducible refine zz18 ?_ _) | (with_reducible refine zz19 ?_ _) | (with_reducible refine zz20 ?_)));(case side2=>exact (Kd.R_reads' HO420.out).2.1);rintro e w18 ⟨rfl,hb⟩;refine ⟨_,rfl,?_⟩;have n0_:=zz31 (Kd.R_below (by (with_reducible repeat (first | apply zz12 | apply zz13 | apply zz14));exact HO420.out) hb);have n1_:=zz31 (zz11 (g:=gb415) (o:=.cells #[.int .i64 a0_0,.slice A0_1 l0_1.length c0_1] 24 (0,0)) (by (with_reducible repeat (first | refine zz6 ?_ _ | refine zz7 ?_ | refine zz8 ?_ _));exact BK415.out) hb);have n2_:=zz31 (zz4 (by repeat first | exact HB.out | apply zz2 | apply zz0 | apply zz1 | refine zz3 ?_ GE415.out) hb);clear HO420;clear BK415;clear HB;have HO420:=n0_;have BK415:=n1_;have HB:=n2_;clear n0_ n1_ n2_;(try clear hb);(try clear hb2);(try clear hk);(try clear hi);have hcz19_0:w18.cell? ⟨gb415,0,none⟩=some (.int .i64 a0_0):=(zz9 BK415.out 0).trans rfl;have hcz19_1:w18.cell? ⟨gb415,1,none⟩=some (.slice A0_1 l0_1.length c0_1):=(zz9 BK415.out 1).trans rfl;have hfz19_0:=zz10 BK415.out 0;have hfz19_1:=zz10 BK415.out 1) | ((with_reducible refine gate_callee (f:=10) rfl ?_);refine goesL_ (some 21) rfl rfl Try.func10 (by kernel_rfl) rfl #[.agg #[.int .i64 a0_0,.slice A0_1 l0_1.length c0_1]] rfl (by (try simp only [zz26,zz27,zz28]);first | done | rfl | (simp only [zz24,zz25];rfl)) ?_;(with_reducible refine (laws_toParty.calls k a0_0 _ _ l0_1 t423 t424 _ ?side1 ?side2 A9.out).mono ?_);(case side1=>repeat (first | exact (Kd.C_below HR0_1.out HB.out) | (with_reducible refine zz18 ?_ _) | (with_reducible refine zz19 ?_ _) | (with_reducible refine zz20 ?_)));(case side2=>exact HC0_1.out);rintro e w20 ⟨v425,rfl,ho0,hb⟩;refine ⟨_,rfl,?_⟩;have n0_:=zz31 (Kd.R_elder' (by (with_reducible repeat (first | apply zz12 | apply zz13 | apply zz14));exact HO420.out) (Kd.R_base ho0) hb);have n1_:=zz31 (Kd.R_lower (Kd.R_new' ho0 (Kd.R_lt (by (with_reducible repeat (first | apply zz12 | apply zz13 | apply zz14));exact HO420.out))) (zz5 (by repeat first | exact HB.out | apply zz2 | apply zz0 | apply zz1 | refine zz3 ?_ GE415.out)));have n2_:=zz31 (zz11 (g:=gb415) (o:=.cells #[.int .i64 a0_0,.slice A0_1 l0_1.length c0_1] 24 (0,0)) (by (with_reducible repeat (first | refine zz6 ?_ _ | refine zz7 ?_ | refine zz8 ?_ _));exact BK415.out) hb);have n3_:=zz31 (zz4 (by repeat first | exact HB.out | apply zz2 | apply zz0 | apply zz1 | refine zz3 ?_ GE415.out) hb);clear HO420;clear BK415;clear HB;have HO420:=n0_;have HO426:=n1_;have BK415:=n2_;have HB:=n3_;clear n0_ n1_ n2_ n3_;(try clear hb);(try clear hb2);(try clear hk);(try clear hi);(try clear ho0)) | ((with_reducible refine gate_dst (N:=6) rfl ?_);refine box_event ?hg (N:=6) ?hd (cs:=#[.int .i64 0,.slice none 0 0]) (t:=30) ?hr ?_;(case hd=>rfl);(case hg=>rfl);(case hr=>first | (go_simp;done) | (go_simp;rfl));intro gb427 hg w21 hbox hb;have n0_:=zz31 (Kd.R_below (by (with_reducible repeat (first | apply zz12 | apply zz13 | apply zz14));exact HO420.out) hb);have n1_:=zz31 (Kd.R_below (by (with_reducible repeat (first | apply zz12 | apply zz13 | apply zz14));exact HO426.out) hb);have n2_:=zz31 (zz11 (g:=gb415) (o:=.cells #[.int .i64 a0_0,.slice A0_1 l0_1.length c0_1] 24 (0,0)) (by (with_reducible repeat (first | refine zz6 ?_ _ | refine zz7 ?_ | refine zz8 ?_ _));exact BK415.out) hb);have n3_:=zz31 (zz4 (by repeat first | exact HB.out | apply zz2 | apply zz0 | apply zz1 | refine zz3 ?_ GE415.out) hb);have n4_:=zz31 (hbox);have n5_:=zz31 ((by rw [hg];exact (zz5 (by repeat first | exact HB.out | apply zz2 | apply zz0 | apply zz1 | refine zz3 ?_ GE415.out)):w.heap.size≤gb427));have n6_:=zz31 ((by rw [hg];exact (zz5 (by repeat first | exact HB.out | apply zz2 | apply zz0 | apply zz1 | refine zz3 ?_ GE415.out)):w.heap.size≤gb427));have n7_:=zz31 ((by rw [hg];exact Nat.ne_of_lt (blk_lt (g:=gb415) (o:=.cells #[.int .i64 a0_0,.slice A0_1 l0_1.length c0_1] 24 (0,0)) (by (with_reducible repeat (first | refine zz6 ?_ _ | refine zz7 ?_ | refine zz8 ?_ _));exact BK415.out)):gb415 ≠ gb427));have n8_:=zz31 ((by rw [hg];exact Nat.ne_of_gt (blk_lt (g:=gb415) (o:=.cells #[.int .i64 a0_0,.slice A0_1 l0_1.length c0_1] 24 (0,0)) (by (with_reducible repeat (first | refine zz6 ?_ _ | refine zz7 ?_ | refine zz8 ?_ _));exact BK415.out)):gb427 ≠ gb415));clear HO420;clear HO426;clear BK415;clear HB;have HO420:=n0_;have HO426:=n1_;have BK415:=n2_;have HB:=n3_;have BK427:=n4_;have GW427:=n5_;have GE427:=n6_;have NB415_427:=n7_;have NB427_415:=n8_;clear n0_ n1_ n2_ n3_ n4_ n5_ n6_ n7_ n8_;clear hb hbox hg;have hnb22:=NB427_415.out;have hnc22:=NB415_427.out;have hcz23_0:w21.cell? ⟨gb427,0,none⟩=some (.int .i64 0):=(zz9 BK427.out 0).trans rfl;have hcz23_1:w21.cell? ⟨gb427,1,none⟩=some (.slice none 0 0):=(zz9 BK427.out 1).trans rfl;have hfz23_0:=zz10 BK427.out 0;have hfz23_1:=zz10 BK427.out 1;obtain ⟨Ao24,co24,eo24⟩:=Kd.R_slice HO426.out;subst eo24) | ((with_reducible refine gate_callee (f:=14) rfl ?_);refine goesL_ (some 24) rfl rfl Try.func14 (by kernel_rfl) rfl #[.agg #[.int .i64 t423,.slice Ao24 t424.length co24]] rfl (by (try simp only [zz26,zz27,zz28]);first | done | rfl | (simp only [zz24,zz25];rfl)) ?_;(with_reducible refine (impl_CountNamed.calls k t423 _ _ t424 t428 t429 _ ?side1 ?side2 A10.out).mono ?_);(case side1=>refine (Kd.R_reads' (e:=70) (base:=w.heap.size) (ok:=fun k_=>(True∧some k_ ≠ (.slice Ao17 t418.length co17:Value).ownBlock)) (n:=t424.length) (c:=co24) ?_).2.2;exact (by (with_reducible repeat (first | apply zz12 | apply zz13 | apply zz14));exact (Kd.R_mono (Kd.R_far (p:=⟨gb427,1,none⟩) (Kd.R_far (p:=⟨gb427,0,none⟩) (Kd.R_types HO426.out BK427.out (by decide)) (fun _ hk=>hk.2) (.int .i64 t423)) (fun _ hk=>hk.2) (.slice Ao24 t424.length co24)) (fun _ h_=>h_.1))));(case side2=>exact (Kd.R_reads' HO426.out).2.1);rintro e w25 ⟨rfl,hb⟩;refine ⟨_,rfl,?_⟩;have n0_:=zz31 (Kd.R_below (by (with_reducible repeat (first | apply zz12 | apply zz13 | apply zz14));exact (Kd.R_mono (Kd.R_far (p:=⟨gb427,1,none⟩) (Kd.R_far (p:=⟨gb427,0,none⟩) (Kd.R_types HO420.out BK427.out (by decide)) (fun _ hk=>hk.2) (.int .i64 t423)) (fun _ hk=>hk.2) (.slice Ao24 t424.length co24)) (fun _ h_=>h_.1))) hb);have n1_:=zz31 (Kd.R_below (by (with_reducible repeat (first | apply zz12 | apply zz13 | apply zz14));exact (Kd.R_mono (Kd.R_far (p:=⟨gb427,1,none⟩) (Kd.R_far (p:=⟨gb427,0,none⟩) (Kd.R_types HO426.out BK427.out (by decide)) (fun _ hk=>hk.2) (.int .i64 t423)) (fun _ hk=>hk.2) (.slice Ao24 t424.length co24)) (fun _ h_=>h_.1))) hb);have n2_:=zz31 (zz11 (g:=gb415) (o:=.cells #[.int .i64 a0_0,.slice A0_1 l0_1.length c0_1] 24 (0,0)) (by (with_reducible repeat (first | refine zz6 ?_ _ | refine zz7 ?_ | refine zz8 ?_ _));refine blk_far ?_ NB415_427.out _;(with_reducible repeat (first | refine zz6 ?_ _ | refine zz7 ?_ | refine zz8 ?_ _));refine blk_far ?_ NB415_427.out _;(with_reducible repeat (first | refine zz6 ?_ _ | refine zz7 ?_ | refine zz8 ?_ _));exact BK415.out) hb);have n3_:=zz31 (zz11 (g:=gb427) (o:=.cells #[.int .i64 t423,.slice Ao24 t424.length co24] 30 (0,0)) (by (with_reducible repeat (first | refine zz6 ?_ _ | refine zz7 ?_ | refine zz8 ?_ _));refine blk_put (cs:=#[.int .i64 t423,.slice none 0 0]) ?_ 1 _ rfl;(with_reducible repeat (first | refine zz6 ?_ _ | refine zz7 ?_ | refine zz8 ?_ _));refine blk_put (cs:=#[.int .i64 0,.slice none 0 0]) ?_ 0 _ rfl;(with_reducible repeat (first | refine zz6 ?_ _ | refine zz7 ?_ | refine zz8 ?_ _));exact BK427.out) hb);have n4_:=zz31 (zz4 (by repeat first | exact HB.out | apply zz2 | apply zz0 | apply zz1 | refine zz3 ?_ GE415.out | refine zz3 ?_ GE427.out) hb);clear HO420;clear HO426;clear BK415;clear BK427;clear HB;have HO420:=n0_;have HO426:=n1_;have BK415:=n2_;have BK427:=n3_;have HB:=n4_;clear n0_ n1_ n2_ n3_ n4_;(try clear hb);(try clear hb2);(try clear hk);(try clear hi)))
  (try simp only [Act.put,zz21,zz22,zz23])
  go_cut [34] (fun v34 wc=>∃ (kq:Nat) (x34_10:Bool),v34=.bool x34_10∧Aside0 (laws_FnExactCountNamed.j0 kq x34_10 a0_0 l0_1 t423 t424=some r)∧Aside0 (kq≤k)∧Aside0 (Kd.R k70 70 wc w.heap.size (fun _=>True) (.slice Ao24 t424.length co24) t424)∧Aside0 (wc.heap[gb415]?=some (.cells #[.int .i64 a0_0,(.slice A0_1 l0_1.length c0_1)] 24 (0,0)))∧Aside0 (wc.heap[gb427]?=some (.cells #[.int .i64 t423,(.slice Ao24 t424.length co24)] 30 (0,0)))∧Aside0 (Below w.heap.size w wc))
  case first =>
   have H:=HC11.out
   clear HC11
   by_cases c26:t428=t421
   ·rw [if_pos c26] at H
    have c26b0:(t428 == t421)=true:=beq_iff_eq.mpr c26
    have c26b1:(t428 != t421)=false:=bne_eq_false_iff_eq.mpr c26
    clear c26
    (first | rw [c26b0] | (simp only [i64_w,i32_w];rw [c26b0]) | skip)
    have H':=zz31 H
    clear H
    go_wp2
    go_meet
    case rel=>exact ⟨_,((t429 != t422)),(by first | rfl | (simp;done) | (simp [*];done)),H',⟨by first | omega | exact Nat.le_refl _⟩,⟨by (with_reducible repeat (first | apply zz12 | apply zz13 | apply zz14));exact Kd.R_mono HO426.out (fun _ hk=>trivial)⟩,⟨by (with_reducible repeat (first | refine zz6 ?_ _ | refine zz7 ?_ | refine zz8 ?_ _));exact BK415.out⟩,⟨by (with_reducible repeat (first | refine zz6 ?_ _ | refine zz7 ?_ | refine zz8 ?_ _));exact BK427.out⟩,⟨by repeat first | exact HB.out | apply zz2 | apply zz0 | apply zz1 | refine zz3 ?_ GE415.out | refine zz3 ?_ GE427.out⟩⟩
   ·rw [if_neg c26] at H
    have c26b0:(t428 == t421)=false:=beq_eq_false_iff_ne.mpr c26
    have c26b1:(t428 != t421)=true:=bne_iff_ne.mpr c26
    (first | rw [c26b0] | (simp only [i64_w,i32_w];rw [c26b0]) | skip)
    have H':=zz31 H
    clear H
    go_wp2
    go_meet
    case rel=>exact ⟨_,(true),(by first | rfl | (simp;done) | (simp [*];done)),H',⟨by first | omega | exact Nat.le_refl _⟩,⟨by (with_reducible repeat (first | apply zz12 | apply zz13 | apply zz14));exact Kd.R_mono HO426.out (fun _ hk=>trivial)⟩,⟨by (with_reducible repeat (first | refine zz6 ?_ _ | refine zz7 ?_ | refine zz8 ?_ _));exact BK415.out⟩,⟨by (with_reducible repeat (first | refine zz6 ?_ _ | refine zz7 ?_ | refine zz8 ?_ _));exact BK427.out⟩,⟨by repeat first | exact HB.out | apply zz2 | apply zz0 | apply zz1 | refine zz3 ?_ GE415.out | refine zz3 ?_ GE427.out⟩⟩
  case rest =>
   clear HC11
   try clear c1
   try clear c2
   try clear p2
   try clear c3
   try clear c3b0
   try clear c4
   try clear c8
   try clear c10
   try clear c13
   try clear c14
   try clear c22
   try clear c26
   try clear c26b0
   try clear c26b1
   try clear hcz13_0
   try clear hcz13_1
   try clear hcz15_0
   try clear hcz15_1
   try clear hcz19_0
   try clear hcz19_1
   try clear hcz23_0
   try clear hcz23_1
   try clear hcz5_0
   try clear hcz5_1
   try clear hfz13_0
   try clear hfz13_1
   try clear hfz15_0
   try clear hfz15_1
   try clear hfz19_0
   try clear hfz19_1
   try clear hfz23_0
   try clear hfz23_1
   try clear hfz5_0
   try clear hfz5_1
   obtain ⟨kq,x34_10,rfl,HA,HJ10,HO_428001,BK415,BK427,HB⟩:=hcut
   cases kq with
   | zero=>exact absurd HA.out (by simp [laws_FnExactCountNamed.j0])
   | succ kj10 =>
    have H:=HA.out
    clear HA
    simp only [laws_FnExactCountNamed.j0] at H
    by_cases c27:x34_10=true
    ·subst c27
     have H1:(some false)=some r:=by rw [if_pos rfl] at H;exact H
     clear H
     have H:=H1
     clear H1
     obtain rfl:=Option.some.inj H
     go_wp2
     go_ret
     exact ⟨by first | rfl | (simp [errW_none,errW_some] <;> rfl) | (simp [*,errW_none,errW_some] <;> rfl),by repeat first | exact HB.out | apply zz2 | apply zz0 | apply zz1 | refine zz3 ?_ GE415.out | refine zz3 ?_ GE427.out⟩
    ·replace c27:=Bool.eq_false_iff.mpr c27
     subst c27
     have H1:((laws_toParty.f kj10 a0_0 l0_1).bind fun bt430=>((laws_eqParty.f kj10 t423 t424 bt430.1 bt430.2).bind fun t434=>(if t434=true then (some true) else (some false))))=some r:=by rw [if_neg (show ¬ (false=true) by decide)] at H;exact H
     clear H
     have H:=H1
     clear H1
     replace H:=zz30.mp H
     obtain ⟨⟨t430,t431⟩,A280,H⟩:=H
     replace H:((laws_eqParty.f kj10 t423 t424 t430 t431).bind fun t434=>(if t434=true then (some true) else (some false)))=some r:=H
     have A28:=zz31 A280
     clear A280
     replace H:=zz30.mp H
     obtain ⟨t434,A290,H⟩:=H
     replace H:(if t434=true then (some true) else (some false))=some r:=H
     have A29:=zz31 A290
     clear A290
     by_cases c30:t434=true
     ·subst c30
      have H1:(some true)=some r:=by rw [if_pos rfl] at H;exact H
      clear H
      have H:=H1
      clear H1
      obtain rfl:=Option.some.inj H
      try go_wp2
      have n0_:=zz31 (zz14 HO_428001.out)
      have n1_:=zz31 (zz7 BK415.out)
      have n2_:=zz31 (zz7 BK427.out)
      have n3_:=zz31 (zz1 HB.out)
      clear HO_428001
      clear BK415
      clear BK427
      clear HB
      have HO_428001:=n0_
      have BK415:=n1_
      have BK427:=n2_
      have HB:=n3_
      clear n0_ n1_ n2_ n3_
      refine start_ (n:=5) (S:=fun w'=>w'.cell? ⟨gb427,0,none⟩=some (.int .i64 t423)∧w'.cell? ⟨gb427,1,none⟩=some (.slice Ao24 t424.length co24)∧w'.cell? ⟨gb415,0,none⟩=some (.int .i64 a0_0)∧w'.cell? ⟨gb415,1,none⟩=some (.slice A0_1 l0_1.length c0_1)) (ds:=[]) #[F,F,F,F,F] (by kernel_rfl) rfl rfl ⟨(zz9 BK427.out 0).trans rfl,(zz9 BK427.out 1).trans rfl,(zz9 BK415.out 0).trans rfl,(zz9 BK415.out 1).trans rfl⟩ (fun hHeld=>?_)
      generalize wc.drew=w31 at HO_428001 BK415 BK427 HB hHeld ⊢
      refine take_ (i:=0) (N:=some 35) (v:=?_) (a':=?_) #[T,F,F,F,F] rfl rfl (by kernel_rfl) (fun _ _ _ h=>h) (Or.inl ⟨by rfl,?_⟩) hHeld ?_ ?_
      rotate_left
      ·rintro w' ⟨s0,s1,s2,s3⟩
       go_simp
       with_reducible rfl
      rotate_left
      ·simp only [Act.put,zz21,zz22,zz23,i64_w,i32_w]
       rfl
      refine take_ (i:=1) (N:=some 36) (v:=?_) (a':=?_) #[T,T,F,F,F] rfl rfl (by kernel_rfl) (fun _ _ _ h=>h) (Or.inl ⟨by rfl,?_⟩) hHeld ?_ ?_
      rotate_left
      ·rintro w' ⟨s0,s1,s2,s3⟩
       go_simp
       with_reducible rfl
      rotate_left
      ·simp only [Act.put,zz21,zz22,zz23,i64_w,i32_w]
       rfl
      refine one_ (i:=2) (N:=some 37) #[T,T,T,F,F] rfl rfl (by kernel_rfl) (by decide) (fun K hK=>?_)
      refine goes_ Try.func10 (by kernel_rfl) rfl #[.agg #[.int .i64 a0_0,.slice A0_1 l0_1.length c0_1]] (by rfl) rfl rfl (by (try simp only [zz26,zz27,zz28]);first | done | rfl | (simp only [zz24,zz25];rfl)) ?_
      with_reducible refine (laws_toParty.calls kj10 a0_0 _ _ l0_1 t430 t431 _ ?side1 ?side2 A28.out).mono ?_
      (case side1=>repeat (first | exact (Kd.C_below HR0_1.out HB.out) | (with_reducible refine zz18 ?_ _) | (with_reducible refine zz19 ?_ _) | (with_reducible refine zz20 ?_)))
      (case side2=>exact HC0_1.out)
      rintro e w32 ⟨v432,rfl,ho0,hb⟩
      refine ⟨_,rfl,?_⟩
      have n0_:=zz31 (Kd.R_elder' (by (with_reducible repeat (first | apply zz12 | apply zz13 | apply zz14));exact HO_428001.out) (Kd.R_base ho0) hb)
      have n1_:=zz31 (Kd.R_lower (Kd.R_new' ho0 (Kd.R_lt (by (with_reducible repeat (first | apply zz12 | apply zz13 | apply zz14));exact HO_428001.out))) (zz5 (by repeat first | exact HB.out | apply zz2 | apply zz0 | apply zz1 | refine zz3 ?_ GE415.out | refine zz3 ?_ GE427.out)))
      have n2_:=zz31 (zz11 (g:=gb415) (o:=.cells #[.int .i64 a0_0,.slice A0_1 l0_1.length c0_1] 24 (0,0)) (by (with_reducible repeat (first | refine zz6 ?_ _ | refine zz7 ?_ | refine zz8 ?_ _));exact BK415.out) hb)
      have n3_:=zz31 (zz11 (g:=gb427) (o:=.cells #[.int .i64 t423,.slice Ao24 t424.length co24] 30 (0,0)) (by (with_reducible repeat (first | refine zz6 ?_ _ | refine zz7 ?_ | refine zz8 ?_ _));exact BK427.out) hb)
      have n4_:=zz31 (zz4 (by repeat first | exact HB.out | apply zz2 | apply zz0 | apply zz1 | refine zz3 ?_ GE415.out | refine zz3 ?_ GE427.out) hb)
      clear HO_428001
      clear BK415
      clear BK427
      clear HB
      have HO_428001:=n0_
      have HO433:=n1_
      have BK415:=n2_
      have BK427:=n3_
      have HB:=n4_
      clear n0_ n1_ n2_ n3_ n4_
      (try clear hb)
      (try clear hb2)
      (try clear hk)
      (try clear hi)
      (try clear ho0)
      obtain ⟨Ao33,co33,eo33⟩:=Kd.R_slice HO433.out
      (first | subst eo33 | (injection eo33 with f1_ f2_ f3_;have f4_:=f1_.symm;have f5_:=f3_.symm;clear f1_ f2_ f3_;subst f4_;subst f5_))
      refine hK.out _ _ ⟨(zz9 BK427.out 0).trans rfl,(zz9 BK427.out 1).trans rfl,(zz9 BK415.out 0).trans rfl,(zz9 BK415.out 1).trans rfl⟩ (fun hHeld=>?_)
      clear hK K
      refine norm_ (a':=?_) ?_ ?_
      rotate_left
      ·show Act.put _ (some 37) _=_
       simp only [Act.put,zz21,zz22,zz23,i64_w,i32_w]
       rfl
      refine one_ (i:=3) (N:=some 38) #[T,T,T,T,F] rfl rfl (by kernel_rfl) (by decide) (fun K hK=>?_)
      refine goes_ Try.func12 (by kernel_rfl) rfl #[.agg #[.int .i64 t423,.slice Ao24 t424.length co24],.agg #[.int .i64 t430,.slice Ao33 t431.length co33]] (by rfl) rfl rfl (by (try simp only [zz26,zz27,zz28]);first | done | rfl | (simp only [zz24,zz25];rfl)) ?_
      with_reducible refine (laws_eqParty.calls kj10 t423 _ _ t424 t430 _ _ t431 true _ ?side1 ?side2 ?side3 ?side4 A29.out).mono ?_
      (case side1=>repeat (first | exact (Kd.R_reads' HO_428001.out).2.2 | (with_reducible refine zz18 ?_ _) | (with_reducible refine zz19 ?_ _) | (with_reducible refine zz20 ?_)))
      (case side2=>exact (Kd.R_reads' HO_428001.out).2.1)
      (case side3=>repeat (first | exact (Kd.R_reads' HO433.out).2.2 | (with_reducible refine zz18 ?_ _) | (with_reducible refine zz19 ?_ _) | (with_reducible refine zz20 ?_)))
      (case side4=>exact (Kd.R_reads' HO433.out).2.1)
      rintro e w34 ⟨rfl,hb⟩
      refine ⟨_,rfl,?_⟩
      have n0_:=zz31 (Kd.R_below (by (with_reducible repeat (first | apply zz12 | apply zz13 | apply zz14));exact HO_428001.out) hb)
      have n1_:=zz31 (Kd.R_below (by (with_reducible repeat (first | apply zz12 | apply zz13 | apply zz14));exact HO433.out) hb)
      have n2_:=zz31 (zz11 (g:=gb415) (o:=.cells #[.int .i64 a0_0,.slice A0_1 l0_1.length c0_1] 24 (0,0)) (by (with_reducible repeat (first | refine zz6 ?_ _ | refine zz7 ?_ | refine zz8 ?_ _));exact BK415.out) hb)
      have n3_:=zz31 (zz11 (g:=gb427) (o:=.cells #[.int .i64 t423,.slice Ao24 t424.length co24] 30 (0,0)) (by (with_reducible repeat (first | refine zz6 ?_ _ | refine zz7 ?_ | refine zz8 ?_ _));exact BK427.out) hb)
      have n4_:=zz31 (zz4 (by repeat first | exact HB.out | apply zz2 | apply zz0 | apply zz1 | refine zz3 ?_ GE415.out | refine zz3 ?_ GE427.out) hb)
      clear HO_428001
      clear HO433
      clear BK415
      clear BK427
      clear HB
      have HO_428001:=n0_
      have HO433:=n1_
      have BK415:=n2_
      have BK427:=n3_
      have HB:=n4_
      clear n0_ n1_ n2_ n3_ n4_
      (try clear hb)
      (try clear hb2)
      (try clear hk)
      (try clear hi)
      refine hK.out _ _ ⟨(zz9 BK427.out 0).trans rfl,(zz9 BK427.out 1).trans rfl,(zz9 BK415.out 0).trans rfl,(zz9 BK415.out 1).trans rfl⟩ (fun hHeld=>?_)
      clear hK K
      refine norm_ (a':=?_) ?_ ?_
      rotate_left
      ·show Act.put _ (some 38) _=_
       simp only [Act.put,zz21,zz22,zz23,i64_w,i32_w]
       rfl
      refine pure_ (i:=4) (N:=some 39) (v:=?_) (a':=?_) #[T,T,T,T,T] rfl rfl (by kernel_rfl) (fun _ _ _ h=>h) (Or.inl ⟨by rfl,?_⟩) ?_ ?_
      rotate_left
      ·intro w'
       go_simp
       with_reducible rfl
      rotate_left
      ·simp only [Act.put,zz21,zz22,zz23,i64_w,i32_w]
       rfl
      refine done_ (by kernel_rfl) ?_
      try go_wp2
      go_ret
      exact ⟨by first | rfl | (simp [errW_none,errW_some] <;> rfl) | (simp [*,errW_none,errW_some] <;> rfl),by repeat first | exact HB.out | apply zz2 | apply zz0 | apply zz1 | refine zz3 ?_ GE415.out | refine zz3 ?_ GE427.out⟩
     ·replace c30:=Bool.eq_false_iff.mpr c30
      subst c30
      have H1:(some false)=some r:=by rw [if_neg (show ¬ (false=true) by decide)] at H;exact H
      clear H
      have H:=H1
      clear H1
      obtain rfl:=Option.some.inj H
      try go_wp2
      have n0_:=zz31 (zz14 HO_428001.out)
      have n1_:=zz31 (zz7 BK415.out)
      have n2_:=zz31 (zz7 BK427.out)
      have n3_:=zz31 (zz1 HB.out)
      clear HO_428001
      clear BK415
      clear BK427
      clear HB
      have HO_428001:=n0_
      have BK415:=n1_
      have BK427:=n2_
      have HB:=n3_
      clear n0_ n1_ n2_ n3_
      refine start_ (n:=5) (S:=fun w'=>w'.cell? ⟨gb427,0,none⟩=some (.int .i64 t423)∧w'.cell? ⟨gb427,1,none⟩=some (.slice Ao24 t424.length co24)∧w'.cell? ⟨gb415,0,none⟩=some (.int .i64 a0_0)∧w'.cell? ⟨gb415,1,none⟩=some (.slice A0_1 l0_1.length c0_1)) (ds:=[]) #[F,F,F,F,F] (by kernel_rfl) rfl rfl ⟨(zz9 BK427.out 0).trans rfl,(zz9 BK427.out 1).trans rfl,(zz9 BK415.out 0).trans rfl,(zz9 BK415.out 1).trans rfl⟩ (fun hHeld=>?_)
      generalize wc.drew=w35 at HO_428001 BK415 BK427 HB hHeld ⊢
      refine take_ (i:=0) (N:=some 35) (v:=?_) (a':=?_) #[T,F,F,F,F] rfl rfl (by kernel_rfl) (fun _ _ _ h=>h) (Or.inl ⟨by rfl,?_⟩) hHeld ?_ ?_
      rotate_left
      ·rintro w' ⟨s0,s1,s2,s3⟩
       go_simp
       with_reducible rfl
      rotate_left
      ·simp only [Act.put,zz21,zz22,zz23,i64_w,i32_w]
       rfl
      refine take_ (i:=1) (N:=some 36) (v:=?_) (a':=?_) #[T,T,F,F,F] rfl rfl (by kernel_rfl) (fun _ _ _ h=>h) (Or.inl ⟨by rfl,?_⟩) hHeld ?_ ?_
      rotate_left
      ·rintro w' ⟨s0,s1,s2,s3⟩
       go_simp
       with_reducible rfl
      rotate_left
      ·simp only [Act.put,zz21,zz22,zz23,i64_w,i32_w]
       rfl
      refine one_ (i:=2) (N:=some 37) #[T,T,T,F,F] rfl rfl (by kernel_rfl) (by decide) (fun K hK=>?_)
      refine goes_ Try.func10 (by kernel_rfl) rfl #[.agg #[.int .i64 a0_0,.slice A0_1 l0_1.length c0_1]] (by rfl) rfl rfl (by (try simp only [zz26,zz27,zz28]);first | done | rfl | (simp only [zz24,zz25];rfl)) ?_
      with_reducible refine (laws_toParty.calls kj10 a0_0 _ _ l0_1 t430 t431 _ ?side1 ?side2 A28.out).mono ?_
      (case side1=>repeat (first | exact (Kd.C_below HR0_1.out HB.out) | (with_reducible refine zz18 ?_ _) | (with_reducible refine zz19 ?_ _) | (with_reducible refine zz20 ?_)))
      (case side2=>exact HC0_1.out)
      rintro e w36 ⟨v432,rfl,ho0,hb⟩
      refine ⟨_,rfl,?_⟩
      have n0_:=zz31 (Kd.R_elder' (by (with_reducible repeat (first | apply zz12 | apply zz13 | apply zz14));exact HO_428001.out) (Kd.R_base ho0) hb)
      have n1_:=zz31 (Kd.R_lower (Kd.R_new' ho0 (Kd.R_lt (by (with_reducible repeat (first | apply zz12 | apply zz13 | apply zz14));exact HO_428001.out))) (zz5 (by repeat first | exact HB.out | apply zz2 | apply zz0 | apply zz1 | refine zz3 ?_ GE415.out | refine zz3 ?_ GE427.out)))
      have n2_:=zz31 (zz11 (g:=gb415) (o:=.cells #[.int .i64 a0_0,.slice A0_1 l0_1.length c0_1] 24 (0,0)) (by (with_reducible repeat (first | refine zz6 ?_ _ | refine zz7 ?_ | refine zz8 ?_ _));exact BK415.out) hb)
      have n3_:=zz31 (zz11 (g:=gb427) (o:=.cells #[.int .i64 t423,.slice Ao24 t424.length co24] 30 (0,0)) (by (with_reducible repeat (first | refine zz6 ?_ _ | refine zz7 ?_ | refine zz8 ?_ _));exact BK427.out) hb)
      have n4_:=zz31 (zz4 (by repeat first | exact HB.out | apply zz2 | apply zz0 | apply zz1 | refine zz3 ?_ GE415.out | refine zz3 ?_ GE427.out) hb)
      clear HO_428001
      clear BK415
      clear BK427
      clear HB
      have HO_428001:=n0_
      have HO433:=n1_
      have BK415:=n2_
      have BK427:=n3_
      have HB:=n4_
      clear n0_ n1_ n2_ n3_ n4_
      (try clear hb)
      (try clear hb2)
      (try clear hk)
      (try clear hi)
      (try clear ho0)
      obtain ⟨Ao37,co37,eo37⟩:=Kd.R_slice HO433.out
      (first | subst eo37 | (injection eo37 with f1_ f2_ f3_;have f4_:=f1_.symm;have f5_:=f3_.symm;clear f1_ f2_ f3_;subst f4_;subst f5_))
      refine hK.out _ _ ⟨(zz9 BK427.out 0).trans rfl,(zz9 BK427.out 1).trans rfl,(zz9 BK415.out 0).trans rfl,(zz9 BK415.out 1).trans rfl⟩ (fun hHeld=>?_)
      clear hK K
      refine norm_ (a':=?_) ?_ ?_
      rotate_left
      ·show Act.put _ (some 37) _=_
       simp only [Act.put,zz21,zz22,zz23,i64_w,i32_w]
       rfl
      refine one_ (i:=3) (N:=some 38) #[T,T,T,T,F] rfl rfl (by kernel_rfl) (by decide) (fun K hK=>?_)
      refine goes_ Try.func12 (by kernel_rfl) rfl #[.agg #[.int .i64 t423,.slice Ao24 t424.length co24],.agg #[.int .i64 t430,.slice Ao37 t431.length co37]] (by rfl) rfl rfl (by (try simp only [zz26,zz27,zz28]);first | done | rfl | (simp only [zz24,zz25];rfl)) ?_
      with_reducible refine (laws_eqParty.calls kj10 t423 _ _ t424 t430 _ _ t431 false _ ?side1 ?side2 ?side3 ?side4 A29.out).mono ?_
      (case side1=>repeat (first | exact (Kd.R_reads' HO_428001.out).2.2 | (with_reducible refine zz18 ?_ _) | (with_reducible refine zz19 ?_ _) | (with_reducible refine zz20 ?_)))
      (case side2=>exact (Kd.R_reads' HO_428001.out).2.1)
      (case side3=>repeat (first | exact (Kd.R_reads' HO433.out).2.2 | (with_reducible refine zz18 ?_ _) | (with_reducible refine zz19 ?_ _) | (with_reducible refine zz20 ?_)))
      (case side4=>exact (Kd.R_reads' HO433.out).2.1)
      rintro e w38 ⟨rfl,hb⟩
      refine ⟨_,rfl,?_⟩
      have n0_:=zz31 (Kd.R_below (by (with_reducible repeat (first | apply zz12 | apply zz13 | apply zz14));exact HO_428001.out) hb)
      have n1_:=zz31 (Kd.R_below (by (with_reducible repeat (first | apply zz12 | apply zz13 | apply zz14));exact HO433.out) hb)
      have n2_:=zz31 (zz11 (g:=gb415) (o:=.cells #[.int .i64 a0_0,.slice A0_1 l0_1.length c0_1] 24 (0,0)) (by (with_reducible repeat (first | refine zz6 ?_ _ | refine zz7 ?_ | refine zz8 ?_ _));exact BK415.out) hb)
      have n3_:=zz31 (zz11 (g:=gb427) (o:=.cells #[.int .i64 t423,.slice Ao24 t424.length co24] 30 (0,0)) (by (with_reducible repeat (first | refine zz6 ?_ _ | refine zz7 ?_ | refine zz8 ?_ _));exact BK427.out) hb)
      have n4_:=zz31 (zz4 (by repeat first | exact HB.out | apply zz2 | apply zz0 | apply zz1 | refine zz3 ?_ GE415.out | refine zz3 ?_ GE427.out) hb)
      clear HO_428001
      clear HO433
      clear BK415
      clear BK427
      clear HB
      have HO_428001:=n0_
      have HO433:=n1_
      have BK415:=n2_
      have BK427:=n3_
      have HB:=n4_
      clear n0_ n1_ n2_ n3_ n4_
      (try clear hb)
      (try clear hb2)
      (try clear hk)
      (try clear hi)
      refine hK.out _ _ ⟨(zz9 BK427.out 0).trans rfl,(zz9 BK427.out 1).trans rfl,(zz9 BK415.out 0).trans rfl,(zz9 BK415.out 1).trans rfl⟩ (fun hHeld=>?_)
      clear hK K
      refine norm_ (a':=?_) ?_ ?_
      rotate_left
      ·show Act.put _ (some 38) _=_
       simp only [Act.put,zz21,zz22,zz23,i64_w,i32_w]
       rfl
      refine pure_ (i:=4) (N:=some 39) (v:=?_) (a':=?_) #[T,T,T,T,T] rfl rfl (by kernel_rfl) (fun _ _ _ h=>h) (Or.inl ⟨by rfl,?_⟩) ?_ ?_
      rotate_left
      ·intro w'
       go_simp
       with_reducible rfl
      rotate_left
      ·simp only [Act.put,zz21,zz22,zz23,i64_w,i32_w]
       rfl
      refine done_ (by kernel_rfl) ?_
      try go_wp2
      go_ret
      exact ⟨by first | rfl | (simp [errW_none,errW_some] <;> rfl) | (simp [*,errW_none,errW_some] <;> rfl),by repeat first | exact HB.out | apply zz2 | apply zz0 | apply zz1 | refine zz3 ?_ GE415.out | refine zz3 ?_ GE427.out⟩

end Go.Proofs.Ytoedkkoafidalaa.P
