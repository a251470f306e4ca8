-- PRINTED by print.py (a twelfth state) out of the translation. Not trusted: Lean checks it.
import Derived.Test.YtoedkkoafidalaaPx0
import Derived.Test.YtoedkkoafidalaaPx2
import Derived.Test.YtoedkkoafidalaaPx3
import Derived.Test.YtoedkkoafidalaaPx4
import Derived.Test.YtoedkkoafidalaaPx6
import Derived.Test.YtoedkkoafidalaaPx8
namespace Go.Proofs.Ytoedkkoafidalaa.P
open Go.RowKit Go.Proofs.YtoedkkoafidalaaW.PrintWords Go.Proofs.YtoedkkoafidalaaW.PrintLast Go.Proofs.YtoedkkoafidalaaW.PrintMore
open Bool renaming true → T, false → F
attribute [local go_sem] max2_int min2_int max_two min_two max_three min_three max_four min_four   -- for this text's walks alone
set_option linter.unusedVariables false
set_option linter.unusedSimpArgs false

/-! ### spec_AreSame: function 9 -/
mutual
def spec_AreSame.j0:Nat→Bool→Int→List (S70)→Int→List (S70)→Option (Bool × Bool)
 | 0,_,_,_,_,_=>none
 | k+1,x17,x342000,x342001,x343000,x343001=>if x17=true then (some (false,false)) else (if x342000=x343000 then (spec_AreSame.j1 k ((x342001.length:Int) != (x343001.length:Int)) x342000 x342001 x343000 x343001) else (spec_AreSame.j1 k true x342000 x342001 x343000 x343001))
def spec_AreSame.j1:Nat→Bool→Int→List (S70)→Int→List (S70)→Option (Bool × Bool)
 | 0,_,_,_,_,_=>none
 | k+1,x31,x342000,x342001,x343000,x343001=>if x31=true then (some (false,true)) else ((spec_paLeast.f k x342000 x342001).bind fun bt345=>((spec_paLeast.f k x343000 x343001).bind fun bt351=>((spec_paSame.f k bt345.1 bt345.2.1 bt351.1 bt351.2.1).bind fun t357=>(some (t357,true)))))
end
def spec_AreSame.f (k:Nat) (a0_0:Int) (l0_1:List (S70)) (a1_0:Int) (l1_1:List (S70)):Option (Bool × Bool):=(spec_paFew.f k a0_0 l0_1).bind fun t343=>(if t343=true then ((spec_paFew.f k a1_0 l1_1).bind fun t344=>(spec_AreSame.j0 k (!t344) a0_0 l0_1 a1_0 l1_1)) else (spec_AreSame.j0 k true a0_0 l0_1 a1_0 l1_1))
theorem spec_AreSame.mono_l:∀ k,(∀ y0 y1 y2 y3 y4,LeO (spec_AreSame.j0 k y0 y1 y2 y3 y4) (spec_AreSame.j0 (k+1) y0 y1 y2 y3 y4))∧(∀ y0 y1 y2 y3 y4,LeO (spec_AreSame.j1 k y0 y1 y2 y3 y4) (spec_AreSame.j1 (k+1) y0 y1 y2 y3 y4))
 | 0=>⟨fun _ _ _ _ _ r h=>by simp [spec_AreSame.j0] at h,fun _ _ _ _ _ r h=>by simp [spec_AreSame.j1] at h⟩
 | k+1=>by
  obtain ⟨ih0,ih1⟩:=spec_AreSame.mono_l k
  refine ⟨?_,?_⟩
  ·intro y0 y1 y2 y3 y4
   unfold spec_AreSame.j0
   repeat' first
   | (with_reducible exact ih0 _ _ _ _ _)
   | (with_reducible exact ih1 _ _ _ _ _)
   | (with_reducible exact spec_paFew.mono _ _ _)
   | (with_reducible exact spec_paLeast.mono _ _ _)
   | (with_reducible exact spec_paSame.mono _ _ _ _ _)
   | (with_reducible exact LeO.refl _)
   | (with_reducible exact LeO.none _)
   | (with_reducible refine LeO.ite ?_ ?_)
   | (with_reducible refine LeO.bind ?_ (fun _=>?_))
   | exact ih0 _ _ _ _ _
   | exact ih1 _ _ _ _ _
   | exact spec_paFew.mono _ _ _
   | exact spec_paLeast.mono _ _ _
   | exact spec_paSame.mono _ _ _ _ _
   | exact LeO.none _
   | refine LeO.ite ?_ ?_
   | refine LeO.bind ?_ (fun _=>?_)
  ·intro y0 y1 y2 y3 y4
   unfold spec_AreSame.j1
   repeat' first
   | (with_reducible exact ih0 _ _ _ _ _)
   | (with_reducible exact ih1 _ _ _ _ _)
   | (with_reducible exact spec_paFew.mono _ _ _)
   | (with_reducible exact spec_paLeast.mono _ _ _)
   | (with_reducible exact spec_paSame.mono _ _ _ _ _)
   | (with_reducible exact LeO.refl _)
   | (with_reducible exact LeO.none _)
   | (with_reducible refine LeO.ite ?_ ?_)
   | (with_reducible refine LeO.bind ?_ (fun _=>?_))
   | exact ih0 _ _ _ _ _
   | exact ih1 _ _ _ _ _
   | exact spec_paFew.mono _ _ _
   | exact spec_paLeast.mono _ _ _
   | exact spec_paSame.mono _ _ _ _ _
   | exact LeO.none _
   | refine LeO.ite ?_ ?_
   | refine LeO.bind ?_ (fun _=>?_)
theorem spec_AreSame.mono:∀ a0 a1 a2 a3 k,LeO (spec_AreSame.f k a0 a1 a2 a3) (spec_AreSame.f (k+1) a0 a1 a2 a3):=by
 intro a0 a1 a2 a3 k
 obtain ⟨ih0,ih1⟩:=spec_AreSame.mono_l k
 unfold spec_AreSame.f
 repeat' first
   | (with_reducible exact ih0 _ _ _ _ _)
   | (with_reducible exact ih1 _ _ _ _ _)
   | (with_reducible exact spec_paFew.mono _ _ _)
   | (with_reducible exact spec_paLeast.mono _ _ _)
   | (with_reducible exact spec_paSame.mono _ _ _ _ _)
   | (with_reducible exact LeO.refl _)
   | (with_reducible exact LeO.none _)
   | (with_reducible refine LeO.ite ?_ ?_)
   | (with_reducible refine LeO.bind ?_ (fun _=>?_))
   | exact ih0 _ _ _ _ _
   | exact ih1 _ _ _ _ _
   | exact spec_paFew.mono _ _ _
   | exact spec_paLeast.mono _ _ _
   | exact spec_paSame.mono _ _ _ _ _
   | exact LeO.none _
   | refine LeO.ite ?_ ?_
   | refine LeO.bind ?_ (fun _=>?_)
set_option maxHeartbeats 8000000 in
set_option maxRecDepth 100000 in
theorem spec_AreSame.calls (k:Nat) (a0_0:Int) (A0_1:Option Addr) (c0_1:Nat) (l0_1:List (S70)) (a1_0:Int) (A1_1:Option Addr) (c1_1:Nat) (l1_1:List (S70)) (r1:Bool) (r2:Bool) (w:World) (hr0_1:Kd.C k70 w A0_1 l0_1.length l0_1) (hc0_1:l0_1.length≤c0_1) (hr1_1:Kd.C k70 w A1_1 l1_1.length l1_1) (hc1_1:l1_1.length≤c1_1) (h:spec_AreSame.f k a0_0 l0_1 a1_0 l1_1=some (r1,r2)) :
  Calls Try.prog 9 #[.agg #[.int .i64 a0_0,.slice A0_1 l0_1.length c0_1],.agg #[.int .i64 a1_0,.slice A1_1 l1_1.length c1_1]] w fun e w'=>e=.returned (.tuple #[.bool r1,.bool r2])∧Below w.heap.size w w':=by
 have hu30:=Try.underlying30
 have HR0_1:=zz31 hr0_1
 have HC0_1:=zz31 hc0_1
 clear hr0_1 hc0_1
 have HR1_1:=zz31 hr1_1
 have HC1_1:=zz31 hc1_1
 clear hr1_1 hc1_1
 have HB:=zz31 (Below.refl w.heap.size w)
 have H:((spec_paFew.f k a0_0 l0_1).bind fun t343=>(if t343=true then ((spec_paFew.f k a1_0 l1_1).bind fun t344=>(spec_AreSame.j0 k (!t344) a0_0 l0_1 a1_0 l1_1)) else (spec_AreSame.j0 k true a0_0 l0_1 a1_0 l1_1)))=some (r1,r2):=h
 clear h
 have HC3:=zz31 H
 clear H
 go_enter Try.func9,Try.ntmps9
 go_upto_region 1 with (first | ((with_reducible refine gate_dst (N:=2) rfl ?_);(try (refine gate_guard (by rfl) ?_;dsimp only));refine box_event ?hg (N:=2) ?hd (cs:=#[.int .i64 a0_0,.slice A0_1 l0_1.length c0_1]) (t:=30) ?hr ?_;(case hd=>rfl);(case hg=>rfl);(case hr=>first | (go_simp;done) | (go_simp;rfl));intro gb341 hg w4 hbox hb;have n0_:=zz31 (zz4 (by repeat first | exact HB.out | apply zz2 | apply zz0 | apply zz1) hb);have n1_:=zz31 (hbox);have n2_:=zz31 ((by rw [hg];exact (zz5 (by repeat first | exact HB.out | apply zz2 | apply zz0 | apply zz1)):w.heap.size≤gb341));have n3_:=zz31 ((by rw [hg];exact (zz5 (by repeat first | exact HB.out | apply zz2 | apply zz0 | apply zz1)):w.heap.size≤gb341));clear HB;have HB:=n0_;have BK341:=n1_;have GW341:=n2_;have GE341:=n3_;clear n0_ n1_ n2_ n3_;clear hb hbox hg) | ((with_reducible refine gate_dst (N:=3) rfl ?_);(try (refine gate_guard (by rfl) ?_;dsimp only));refine box_event ?hg (N:=3) ?hd (cs:=#[.int .i64 a1_0,.slice A1_1 l1_1.length c1_1]) (t:=30) ?hr ?_;(case hd=>rfl);(case hg=>rfl);(case hr=>first | (go_simp;done) | (go_simp;rfl));intro gb342 hg w5 hbox hb;have n0_:=zz31 (zz11 (g:=gb341) (o:=.cells #[.int .i64 a0_0,.slice A0_1 l0_1.length c0_1] 30 (0,0)) (by (with_reducible repeat (first | refine zz6 ?_ _ | refine zz7 ?_ | refine zz8 ?_ _));exact BK341.out) hb);have n1_:=zz31 (zz4 (by repeat first | exact HB.out | apply zz2 | apply zz0 | apply zz1 | refine zz3 ?_ GE341.out) hb);have n2_:=zz31 (hbox);have n3_:=zz31 ((by rw [hg];exact (zz5 (by repeat first | exact HB.out | apply zz2 | apply zz0 | apply zz1 | refine zz3 ?_ GE341.out)):w.heap.size≤gb342));have n4_:=zz31 ((by rw [hg];exact (zz5 (by repeat first | exact HB.out | apply zz2 | apply zz0 | apply zz1 | refine zz3 ?_ GE341.out)):w.heap.size≤gb342));have n5_:=zz31 ((by rw [hg];exact Nat.ne_of_lt (blk_lt (g:=gb341) (o:=.cells #[.int .i64 a0_0,.slice A0_1 l0_1.length c0_1] 30 (0,0)) (by (with_reducible repeat (first | refine zz6 ?_ _ | refine zz7 ?_ | refine zz8 ?_ _));exact BK341.out)):gb341 ≠ gb342));have n6_:=zz31 ((by rw [hg];exact Nat.ne_of_gt (blk_lt (g:=gb341) (o:=.cells #[.int .i64 a0_0,.slice A0_1 l0_1.length c0_1] 30 (0,0)) (by (with_reducible repeat (first | refine zz6 ?_ _ | refine zz7 ?_ | refine zz8 ?_ _));exact BK341.out)):gb342 ≠ gb341));clear BK341;clear HB;have BK341:=n0_;have HB:=n1_;have BK342:=n2_;have GW342:=n3_;have GE342:=n4_;have NB341_342:=n5_;have NB342_341:=n6_;clear n0_ n1_ n2_ n3_ n4_ n5_ n6_;clear hb hbox hg))
 (try simp only [Act.put,zz21,zz22,zz23])
 go_cut [17] (fun v17 wc=>∃ (kq:Nat) (x17_2:Bool),v17=.bool x17_2∧Aside0 (spec_AreSame.j0 kq x17_2 a0_0 l0_1 a1_0 l1_1=some (r1,r2))∧Aside0 (kq≤k)∧Aside0 (wc.heap[gb341]?=some (.cells #[.int .i64 a0_0,(.slice A0_1 l0_1.length c0_1)] 30 (0,0)))∧Aside0 (wc.heap[gb342]?=some (.cells #[.int .i64 a1_0,(.slice A1_1 l1_1.length c1_1)] 30 (0,0)))∧Aside0 (Below w.heap.size w wc))
 case first =>
  have H:=HC3.out
  clear HC3
  replace H:=zz30.mp H
  obtain ⟨t343,A60,H⟩:=H
  replace H:(if t343=true then ((spec_paFew.f k a1_0 l1_1).bind fun t344=>(spec_AreSame.j0 k (!t344) a0_0 l0_1 a1_0 l1_1)) else (spec_AreSame.j0 k true a0_0 l0_1 a1_0 l1_1))=some (r1,r2):=H
  have A6:=zz31 A60
  clear A60
  by_cases c7:t343=true
  ·subst c7
   have H1:((spec_paFew.f k a1_0 l1_1).bind fun t344=>(spec_AreSame.j0 k (!t344) a0_0 l0_1 a1_0 l1_1))=some (r1,r2):=by rw [if_pos rfl] at H;exact H
   clear H
   have H:=H1
   clear H1
   replace H:=zz30.mp H
   obtain ⟨t344,A80,H⟩:=H
   replace H:(spec_AreSame.j0 k (!t344) a0_0 l0_1 a1_0 l1_1)=some (r1,r2):=H
   have A8:=zz31 A80
   clear A80
   have H':=zz31 H
   clear H
   have hnb9:=NB341_342.out
   have hnc9:=NB342_341.out
   have hcz10_0:w5.cell? ⟨gb341,0,none⟩=some (.int .i64 a0_0):=(zz9 BK341.out 0).trans rfl
   have hcz10_1:w5.cell? ⟨gb341,1,none⟩=some (.slice A0_1 l0_1.length c0_1):=(zz9 BK341.out 1).trans rfl
   have hfz10_0:=zz10 BK341.out 0
   have hfz10_1:=zz10 BK341.out 1
   go_wp2_with (first | ((with_reducible refine gate_callee (f:=30) rfl ?_);refine goesL_ (some 11) rfl rfl Try.func30 (by kernel_rfl) rfl #[.agg #[.int .i64 a0_0,.slice A0_1 l0_1.length c0_1]] rfl (by (try simp only [zz26,zz27,zz28]);first | done | rfl | (simp only [zz24,zz25];rfl)) ?_;(with_reducible refine (spec_paFew.calls k a0_0 _ _ l0_1 true _ ?side1 ?side2 A6.out).mono ?_);(case side1=>repeat (first | exact (Kd.C_below HR0_1.out HB.out) | (with_reducible refine zz18 ?_ _) | (with_reducible refine zz19 ?_ _) | (with_reducible refine zz20 ?_)));(case side2=>exact HC0_1.out);rintro e w11 ⟨rfl,hb⟩;refine ⟨_,rfl,?_⟩;have n0_:=zz31 (zz11 (g:=gb341) (o:=.cells #[.int .i64 a0_0,.slice A0_1 l0_1.length c0_1] 30 (0,0)) (by (with_reducible repeat (first | refine zz6 ?_ _ | refine zz7 ?_ | refine zz8 ?_ _));exact BK341.out) hb);have n1_:=zz31 (zz11 (g:=gb342) (o:=.cells #[.int .i64 a1_0,.slice A1_1 l1_1.length c1_1] 30 (0,0)) (by (with_reducible repeat (first | refine zz6 ?_ _ | refine zz7 ?_ | refine zz8 ?_ _));exact BK342.out) hb);have n2_:=zz31 (zz4 (by repeat first | exact HB.out | apply zz2 | apply zz0 | apply zz1 | refine zz3 ?_ GE341.out | refine zz3 ?_ GE342.out) hb);clear BK341;clear BK342;clear HB;have BK341:=n0_;have BK342:=n1_;have HB:=n2_;clear n0_ n1_ n2_;(try clear hb);(try clear hb2);(try clear hk);(try clear hi);have hcz12_0:w11.cell? ⟨gb342,0,none⟩=some (.int .i64 a1_0):=(zz9 BK342.out 0).trans rfl;have hcz12_1:w11.cell? ⟨gb342,1,none⟩=some (.slice A1_1 l1_1.length c1_1):=(zz9 BK342.out 1).trans rfl;have hfz12_0:=zz10 BK342.out 0;have hfz12_1:=zz10 BK342.out 1) | (go_at_call 30;(with_reducible refine (spec_paFew.calls k a1_0 _ _ l1_1 t344 _ ?side1 ?side2 A8.out).mono ?_);(case side1=>repeat (first | exact (Kd.C_below HR1_1.out HB.out) | (with_reducible refine zz18 ?_ _) | (with_reducible refine zz19 ?_ _) | (with_reducible refine zz20 ?_)));(case side2=>exact HC1_1.out);rintro e w13 ⟨rfl,hb⟩;have n0_:=zz31 (zz11 (g:=gb341) (o:=.cells #[.int .i64 a0_0,.slice A0_1 l0_1.length c0_1] 30 (0,0)) (by (with_reducible repeat (first | refine zz6 ?_ _ | refine zz7 ?_ | refine zz8 ?_ _));exact BK341.out) hb);have n1_:=zz31 (zz11 (g:=gb342) (o:=.cells #[.int .i64 a1_0,.slice A1_1 l1_1.length c1_1] 30 (0,0)) (by (with_reducible repeat (first | refine zz6 ?_ _ | refine zz7 ?_ | refine zz8 ?_ _));exact BK342.out) hb);have n2_:=zz31 (zz4 (by repeat first | exact HB.out | apply zz2 | apply zz0 | apply zz1 | refine zz3 ?_ GE341.out | refine zz3 ?_ GE342.out) hb);clear BK341;clear BK342;clear HB;have BK341:=n0_;have BK342:=n1_;have HB:=n2_;clear n0_ n1_ n2_;(try clear hb);(try clear hb2);(try clear hk);(try clear hi)))
   go_meet
   case rel=>exact ⟨_,(!t344),(by first | rfl | (simp;done) | (simp [*];done)),H',⟨by first | omega | exact Nat.le_refl _⟩,⟨by (with_reducible repeat (first | refine zz6 ?_ _ | refine zz7 ?_ | refine zz8 ?_ _));exact BK341.out⟩,⟨by (with_reducible repeat (first | refine zz6 ?_ _ | refine zz7 ?_ | refine zz8 ?_ _));exact BK342.out⟩,⟨by repeat first | exact HB.out | apply zz2 | apply zz0 | apply zz1 | refine zz3 ?_ GE341.out | refine zz3 ?_ GE342.out⟩⟩
  ·replace c7:=Bool.eq_false_iff.mpr c7
   subst c7
   have H1:(spec_AreSame.j0 k true a0_0 l0_1 a1_0 l1_1)=some (r1,r2):=by rw [if_neg (show ¬ (false=true) by decide)] at H;exact H
   clear H
   have H:=H1
   clear H1
   have H':=zz31 H
   clear H
   have hnb14:=NB341_342.out
   have hnc14:=NB342_341.out
   have hcz15_0:w5.cell? ⟨gb341,0,none⟩=some (.int .i64 a0_0):=(zz9 BK341.out 0).trans rfl
   have hcz15_1:w5.cell? ⟨gb341,1,none⟩=some (.slice A0_1 l0_1.length c0_1):=(zz9 BK341.out 1).trans rfl
   have hfz15_0:=zz10 BK341.out 0
   have hfz15_1:=zz10 BK341.out 1
   go_wp2_with (first | ((with_reducible refine gate_callee (f:=30) rfl ?_);refine goesL_ (some 11) rfl rfl Try.func30 (by kernel_rfl) rfl #[.agg #[.int .i64 a0_0,.slice A0_1 l0_1.length c0_1]] rfl (by (try simp only [zz26,zz27,zz28]);first | done | rfl | (simp only [zz24,zz25];rfl)) ?_;(with_reducible refine (spec_paFew.calls k a0_0 _ _ l0_1 false _ ?side1 ?side2 A6.out).mono ?_);(case side1=>repeat (first | exact (Kd.C_below HR0_1.out HB.out) | (with_reducible refine zz18 ?_ _) | (with_reducible refine zz19 ?_ _) | (with_reducible refine zz20 ?_)));(case side2=>exact HC0_1.out);rintro e w16 ⟨rfl,hb⟩;refine ⟨_,rfl,?_⟩;have n0_:=zz31 (zz11 (g:=gb341) (o:=.cells #[.int .i64 a0_0,.slice A0_1 l0_1.length c0_1] 30 (0,0)) (by (with_reducible repeat (first | refine zz6 ?_ _ | refine zz7 ?_ | refine zz8 ?_ _));exact BK341.out) hb);have n1_:=zz31 (zz11 (g:=gb342) (o:=.cells #[.int .i64 a1_0,.slice A1_1 l1_1.length c1_1] 30 (0,0)) (by (with_reducible repeat (first | refine zz6 ?_ _ | refine zz7 ?_ | refine zz8 ?_ _));exact BK342.out) hb);have n2_:=zz31 (zz4 (by repeat first | exact HB.out | apply zz2 | apply zz0 | apply zz1 | refine zz3 ?_ GE341.out | refine zz3 ?_ GE342.out) hb);clear BK341;clear BK342;clear HB;have BK341:=n0_;have BK342:=n1_;have HB:=n2_;clear n0_ n1_ n2_;(try clear hb);(try clear hb2);(try clear hk);(try clear hi)))
   go_meet
   case rel=>exact ⟨_,(true),(by first | rfl | (simp;done) | (simp [*];done)),H',⟨by first | omega | exact Nat.le_refl _⟩,⟨by (with_reducible repeat (first | refine zz6 ?_ _ | refine zz7 ?_ | refine zz8 ?_ _));exact BK341.out⟩,⟨by (with_reducible repeat (first | refine zz6 ?_ _ | refine zz7 ?_ | refine zz8 ?_ _));exact BK342.out⟩,⟨by repeat first | exact HB.out | apply zz2 | apply zz0 | apply zz1 | refine zz3 ?_ GE341.out | refine zz3 ?_ GE342.out⟩⟩
 case rest =>
  clear HC3
  try clear c1
  try clear p2
  try clear c3
  try clear c7
  try clear c9
  try clear c14
  try clear hcz10_0
  try clear hcz10_1
  try clear hcz12_0
  try clear hcz12_1
  try clear hcz15_0
  try clear hcz15_1
  try clear hfz10_0
  try clear hfz10_1
  try clear hfz12_0
  try clear hfz12_1
  try clear hfz15_0
  try clear hfz15_1
  obtain ⟨kq,x17_2,rfl,HA,HJ2,BK341,BK342,HB⟩:=hcut
  cases kq with
  | zero=>exact absurd HA.out (by simp [spec_AreSame.j0])
  | succ kj2 =>
   have H:=HA.out
   clear HA
   simp only [spec_AreSame.j0] at H
   by_cases c17:x17_2=true
   ·subst c17
    have H1:(some (false,false))=some (r1,r2):=by rw [if_pos rfl] at H;exact H
    clear H
    have H:=H1
    clear H1
    simp only [Option.some.injEq,Prod.mk.injEq] at H
    obtain ⟨rfl,rfl⟩:=H
    go_wp2
    go_ret2
    exact ⟨by first | rfl | (simp [errW_none,errW_some] <;> rfl) | (simp [*,errW_none,errW_some] <;> rfl),by repeat first | exact HB.out | apply zz2 | apply zz0 | apply zz1 | refine zz3 ?_ GE341.out | refine zz3 ?_ GE342.out⟩
   ·replace c17:=Bool.eq_false_iff.mpr c17
    subst c17
    have H1:(if a0_0=a1_0 then (spec_AreSame.j1 kj2 ((l0_1.length:Int) != (l1_1.length:Int)) a0_0 l0_1 a1_0 l1_1) else (spec_AreSame.j1 kj2 true a0_0 l0_1 a1_0 l1_1))=some (r1,r2):=by rw [if_neg (show ¬ (false=true) by decide)] at H;exact H
    clear H
    have H:=H1
    clear H1
    have HC18:=zz31 H
    clear H
    go_upto_region 3 with (fail)
    go_cut [31] (fun v31 wc=>∃ (kq:Nat) (x31_17:Bool),v31=.bool x31_17∧Aside0 (spec_AreSame.j1 kq x31_17 a0_0 l0_1 a1_0 l1_1=some (r1,r2))∧Aside0 (kq≤kj2)∧Aside0 (wc.heap[gb341]?=some (.cells #[.int .i64 a0_0,(.slice A0_1 l0_1.length c0_1)] 30 (0,0)))∧Aside0 (wc.heap[gb342]?=some (.cells #[.int .i64 a1_0,(.slice A1_1 l1_1.length c1_1)] 30 (0,0)))∧Aside0 (Below w.heap.size w wc))
    case first =>
     have H:=HC18.out
     clear HC18
     by_cases c19:a0_0=a1_0
     ·rw [if_pos c19] at H
      have c19b0:(a0_0 == a1_0)=true:=beq_iff_eq.mpr c19
      have c19b1:(a0_0 != a1_0)=false:=bne_eq_false_iff_eq.mpr c19
      clear c19
      (first | rw [c19b0] | (simp only [i64_w,i32_w];rw [c19b0]) | skip)
      have H':=zz31 H
      clear H
      have hnb20:=NB341_342.out
      have hnc20:=NB342_341.out
      have hcz21_0:wc.cell? ⟨gb341,0,none⟩=some (.int .i64 a0_0):=(zz9 BK341.out 0).trans rfl
      have hcz21_1:wc.cell? ⟨gb341,1,none⟩=some (.slice A0_1 l0_1.length c0_1):=(zz9 BK341.out 1).trans rfl
      have hfz21_0:=zz10 BK341.out 0
      have hfz21_1:=zz10 BK341.out 1
      have hcz22_0:wc.cell? ⟨gb342,0,none⟩=some (.int .i64 a1_0):=(zz9 BK342.out 0).trans rfl
      have hcz22_1:wc.cell? ⟨gb342,1,none⟩=some (.slice A1_1 l1_1.length c1_1):=(zz9 BK342.out 1).trans rfl
      have hfz22_0:=zz10 BK342.out 0
      have hfz22_1:=zz10 BK342.out 1
      go_wp2
      go_meet
      case rel=>exact ⟨_,(((l0_1.length:Int) != (l1_1.length:Int))),(by first | rfl | (simp;done) | (simp [*];done)),H',⟨by have:=HJ2.out;first | omega | exact Nat.le_refl _⟩,⟨by (with_reducible repeat (first | refine zz6 ?_ _ | refine zz7 ?_ | refine zz8 ?_ _));exact BK341.out⟩,⟨by (with_reducible repeat (first | refine zz6 ?_ _ | refine zz7 ?_ | refine zz8 ?_ _));exact BK342.out⟩,⟨by repeat first | exact HB.out | apply zz2 | apply zz0 | apply zz1 | refine zz3 ?_ GE341.out | refine zz3 ?_ GE342.out⟩⟩
     ·rw [if_neg c19] at H
      have c19b0:(a0_0 == a1_0)=false:=beq_eq_false_iff_ne.mpr c19
      have c19b1:(a0_0 != a1_0)=true:=bne_iff_ne.mpr c19
      (first | rw [c19b0] | (simp only [i64_w,i32_w];rw [c19b0]) | skip)
      have H':=zz31 H
      clear H
      have hnb23:=NB341_342.out
      have hnc23:=NB342_341.out
      have hcz24_0:wc.cell? ⟨gb341,0,none⟩=some (.int .i64 a0_0):=(zz9 BK341.out 0).trans rfl
      have hcz24_1:wc.cell? ⟨gb341,1,none⟩=some (.slice A0_1 l0_1.length c0_1):=(zz9 BK341.out 1).trans rfl
      have hfz24_0:=zz10 BK341.out 0
      have hfz24_1:=zz10 BK341.out 1
      have hcz25_0:wc.cell? ⟨gb342,0,none⟩=some (.int .i64 a1_0):=(zz9 BK342.out 0).trans rfl
      have hcz25_1:wc.cell? ⟨gb342,1,none⟩=some (.slice A1_1 l1_1.length c1_1):=(zz9 BK342.out 1).trans rfl
      have hfz25_0:=zz10 BK342.out 0
      have hfz25_1:=zz10 BK342.out 1
      go_wp2
      go_meet
      case rel=>exact ⟨_,(true),(by first | rfl | (simp;done) | (simp [*];done)),H',⟨by have:=HJ2.out;first | omega | exact Nat.le_refl _⟩,⟨by (with_reducible repeat (first | refine zz6 ?_ _ | refine zz7 ?_ | refine zz8 ?_ _));exact BK341.out⟩,⟨by (with_reducible repeat (first | refine zz6 ?_ _ | refine zz7 ?_ | refine zz8 ?_ _));exact BK342.out⟩,⟨by repeat first | exact HB.out | apply zz2 | apply zz0 | apply zz1 | refine zz3 ?_ GE341.out | refine zz3 ?_ GE342.out⟩⟩
    case rest =>
     clear HC18
     try clear c1
     try clear c2
     try clear p2
     try clear c3
     try clear c7
     try clear c9
     try clear c14
     try clear c17
     try clear c19
     try clear c19b0
     try clear c19b1
     try clear c20
     try clear c23
     try clear hcz10_0
     try clear hcz10_1
     try clear hcz12_0
     try clear hcz12_1
     try clear hcz15_0
     try clear hcz15_1
     try clear hcz21_0
     try clear hcz21_1
     try clear hcz22_0
     try clear hcz22_1
     try clear hcz24_0
     try clear hcz24_1
     try clear hcz25_0
     try clear hcz25_1
     try clear hfz10_0
     try clear hfz10_1
     try clear hfz12_0
     try clear hfz12_1
     try clear hfz15_0
     try clear hfz15_1
     try clear hfz21_0
     try clear hfz21_1
     try clear hfz22_0
     try clear hfz22_1
     try clear hfz24_0
     try clear hfz24_1
     try clear hfz25_0
     try clear hfz25_1
     try clear p2
     obtain ⟨kq,x31_17,rfl,HA,HJ17,BK341,BK342,HB⟩:=hcut
     cases kq with
     | zero=>exact absurd HA.out (by simp [spec_AreSame.j1])
     | succ kj17 =>
      have H:=HA.out
      clear HA
      simp only [spec_AreSame.j1] at H
      by_cases c26:x31_17=true
      ·subst c26
       have H1:(some (false,true))=some (r1,r2):=by rw [if_pos rfl] at H;exact H
       clear H
       have H:=H1
       clear H1
       simp only [Option.some.injEq,Prod.mk.injEq] at H
       obtain ⟨rfl,rfl⟩:=H
       go_wp2
       go_ret2
       exact ⟨by first | rfl | (simp [errW_none,errW_some] <;> rfl) | (simp [*,errW_none,errW_some] <;> rfl),by repeat first | exact HB.out | apply zz2 | apply zz0 | apply zz1 | refine zz3 ?_ GE341.out | refine zz3 ?_ GE342.out⟩
      ·replace c26:=Bool.eq_false_iff.mpr c26
       subst c26
       have H1:((spec_paLeast.f kj17 a0_0 l0_1).bind fun bt345=>((spec_paLeast.f kj17 a1_0 l1_1).bind fun bt351=>((spec_paSame.f kj17 bt345.1 bt345.2.1 bt351.1 bt351.2.1).bind fun t357=>(some (t357,true)))))=some (r1,r2):=by rw [if_neg (show ¬ (false=true) by decide)] at H;exact H
       clear H
       have H:=H1
       clear H1
       replace H:=zz30.mp H
       obtain ⟨⟨t345,t346,t349⟩,A270,H⟩:=H
       replace H:((spec_paLeast.f kj17 a1_0 l1_1).bind fun bt351=>((spec_paSame.f kj17 t345 t346 bt351.1 bt351.2.1).bind fun t357=>(some (t357,true))))=some (r1,r2):=H
       have A27:=zz31 A270
       clear A270
       replace H:=zz30.mp H
       obtain ⟨⟨t351,t352,t355⟩,A280,H⟩:=H
       replace H:((spec_paSame.f kj17 t345 t346 t351 t352).bind fun t357=>(some (t357,true)))=some (r1,r2):=H
       have A28:=zz31 A280
       clear A280
       replace H:=zz30.mp H
       obtain ⟨t357,A290,H⟩:=H
       replace H:(some (t357,true))=some (r1,r2):=H
       have A29:=zz31 A290
       clear A290
       simp only [Option.some.injEq,Prod.mk.injEq] at H
       obtain ⟨rfl,rfl⟩:=H
       have hnb30:=NB341_342.out
       have hnc30:=NB342_341.out
       have hcz31_0:wc.cell? ⟨gb341,0,none⟩=some (.int .i64 a0_0):=(zz9 BK341.out 0).trans rfl
       have hcz31_1:wc.cell? ⟨gb341,1,none⟩=some (.slice A0_1 l0_1.length c0_1):=(zz9 BK341.out 1).trans rfl
       have hfz31_0:=zz10 BK341.out 0
       have hfz31_1:=zz10 BK341.out 1
       go_wp2_with (first | ((with_reducible refine gate_callee (f:=31) rfl ?_);refine goesL_ (some 34) rfl rfl Try.func31 (by kernel_rfl) rfl #[.agg #[.int .i64 a0_0,.slice A0_1 l0_1.length c0_1]] rfl (by (try simp only [zz26,zz27,zz28]);first | done | rfl | (simp only [zz24,zz25];rfl)) ?_;(with_reducible refine (spec_paLeast.calls kj17 a0_0 (fun k_=>k_ < w.heap.size) _ _ l0_1 t345 t346 t349 _ ?side1 A27.out).mono ?_);(case side1=>exact Kd.V_mk HC0_1.out (Kd.F_below (Kd.C_F k70_heap HR0_1.out) (by repeat first | exact HB.out | apply zz2 | apply zz0 | apply zz1 | refine zz3 ?_ GE341.out | refine zz3 ?_ GE342.out)));rintro e w32 ⟨v347,rfl,ho0,hb⟩;refine ⟨_,rfl,?_⟩;have n0_:=zz31 (Kd.V_lower (Kd.V_mono (ok':=fun k_=>k_ ≠ gb341∧k_ ≠ gb342) ho0 (fun k_ hk_=>⟨Or.elim hk_ (fun hs_=>fun e_=>Nat.not_le.2 hs_ (by rw [e_];exact GW341.out)) (fun hn_=>(Kd.freshB (g:=gb341) (o:=.cells #[.int .i64 a0_0,.slice A0_1 l0_1.length c0_1] 30 (0,0)) (by (with_reducible repeat (first | refine zz6 ?_ _ | refine zz7 ?_ | refine zz8 ?_ _));exact BK341.out) k_ hn_)),Or.elim hk_ (fun hs_=>fun e_=>Nat.not_le.2 hs_ (by rw [e_];exact GW342.out)) (fun hn_=>(Kd.freshB (g:=gb342) (o:=.cells #[.int .i64 a1_0,.slice A1_1 l1_1.length c1_1] 30 (0,0)) (by (with_reducible repeat (first | refine zz6 ?_ _ | refine zz7 ?_ | refine zz8 ?_ _));exact BK342.out) k_ hn_))⟩)) (zz5 (by repeat first | exact HB.out | apply zz2 | apply zz0 | apply zz1 | refine zz3 ?_ GE341.out | refine zz3 ?_ GE342.out)));have n1_:=zz31 (zz11 (g:=gb341) (o:=.cells #[.int .i64 a0_0,.slice A0_1 l0_1.length c0_1] 30 (0,0)) (by (with_reducible repeat (first | refine zz6 ?_ _ | refine zz7 ?_ | refine zz8 ?_ _));exact BK341.out) hb);have n2_:=zz31 (zz11 (g:=gb342) (o:=.cells #[.int .i64 a1_0,.slice A1_1 l1_1.length c1_1] 30 (0,0)) (by (with_reducible repeat (first | refine zz6 ?_ _ | refine zz7 ?_ | refine zz8 ?_ _));exact BK342.out) hb);have n3_:=zz31 (zz4 (by repeat first | exact HB.out | apply zz2 | apply zz0 | apply zz1 | refine zz3 ?_ GE341.out | refine zz3 ?_ GE342.out) hb);clear BK341;clear BK342;clear HB;have HO348:=n0_;have BK341:=n1_;have BK342:=n2_;have HB:=n3_;clear n0_ n1_ n2_ n3_;(try clear hb);(try clear hb2);(try clear hk);(try clear hi);(try clear ho0)) | ((with_reducible refine gate_dst (N:=6) rfl ?_);(try (refine gate_guard (by rfl) ?_;dsimp only));refine box_event ?hg (N:=6) ?hd (cs:=#[.int .i64 0,.slice none 0 0]) (t:=30) ?hr ?_;(case hd=>rfl);(case hg=>rfl);(case hr=>first | (go_simp;done) | (go_simp;rfl));intro gb350 hg w33 hbox hb;have n0_:=zz31 (Kd.V_below (Kd.V_elderB (by (with_reducible repeat (first | apply Kd.V_alloc | apply Kd.V_drewN | apply Kd.V_drew));exact HO348.out) gb350 (Nat.le_of_eq hg.symm)) hb);have n1_:=zz31 (zz11 (g:=gb341) (o:=.cells #[.int .i64 a0_0,.slice A0_1 l0_1.length c0_1] 30 (0,0)) (by (with_reducible repeat (first | refine zz6 ?_ _ | refine zz7 ?_ | refine zz8 ?_ _));exact BK341.out) hb);have n2_:=zz31 (zz11 (g:=gb342) (o:=.cells #[.int .i64 a1_0,.slice A1_1 l1_1.length c1_1] 30 (0,0)) (by (with_reducible repeat (first | refine zz6 ?_ _ | refine zz7 ?_ | refine zz8 ?_ _));exact BK342.out) hb);have n3_:=zz31 (zz4 (by repeat first | exact HB.out | apply zz2 | apply zz0 | apply zz1 | refine zz3 ?_ GE341.out | refine zz3 ?_ GE342.out) hb);have n4_:=zz31 (hbox);have n5_:=zz31 ((by rw [hg];exact (zz5 (by repeat first | exact HB.out | apply zz2 | apply zz0 | apply zz1 | refine zz3 ?_ GE341.out | refine zz3 ?_ GE342.out)):w.heap.size≤gb350));have n6_:=zz31 ((by rw [hg];exact (zz5 (by repeat first | exact HB.out | apply zz2 | apply zz0 | apply zz1 | refine zz3 ?_ GE341.out | refine zz3 ?_ GE342.out)):w.heap.size≤gb350));have n7_:=zz31 ((by rw [hg];exact Nat.ne_of_lt (blk_lt (g:=gb341) (o:=.cells #[.int .i64 a0_0,.slice A0_1 l0_1.length c0_1] 30 (0,0)) (by (with_reducible repeat (first | refine zz6 ?_ _ | refine zz7 ?_ | refine zz8 ?_ _));exact BK341.out)):gb341 ≠ gb350));have n8_:=zz31 ((by rw [hg];exact Nat.ne_of_gt (blk_lt (g:=gb341) (o:=.cells #[.int .i64 a0_0,.slice A0_1 l0_1.length c0_1] 30 (0,0)) (by (with_reducible repeat (first | refine zz6 ?_ _ | refine zz7 ?_ | refine zz8 ?_ _));exact BK341.out)):gb350 ≠ gb341));have n9_:=zz31 ((by rw [hg];exact Nat.ne_of_lt (blk_lt (g:=gb342) (o:=.cells #[.int .i64 a1_0,.slice A1_1 l1_1.length c1_1] 30 (0,0)) (by (with_reducible repeat (first | refine zz6 ?_ _ | refine zz7 ?_ | refine zz8 ?_ _));exact BK342.out)):gb342 ≠ gb350));have n10_:=zz31 ((by rw [hg];exact Nat.ne_of_gt (blk_lt (g:=gb342) (o:=.cells #[.int .i64 a1_0,.slice A1_1 l1_1.length c1_1] 30 (0,0)) (by (with_reducible repeat (first | refine zz6 ?_ _ | refine zz7 ?_ | refine zz8 ?_ _));exact BK342.out)):gb350 ≠ gb342));clear HO348;clear BK341;clear BK342;clear HB;have HO348:=n0_;have BK341:=n1_;have BK342:=n2_;have HB:=n3_;have BK350:=n4_;have GW350:=n5_;have GE350:=n6_;have NB341_350:=n7_;have NB350_341:=n8_;have NB342_350:=n9_;have NB350_342:=n10_;clear n0_ n1_ n2_ n3_ n4_ n5_ n6_ n7_ n8_ n9_ n10_;clear hb hbox hg;have hnb34:=NB350_341.out;have hnc34:=NB341_350.out;have hnb35:=NB350_342.out;have hnc35:=NB342_350.out;have hcz36_0:w33.cell? ⟨gb350,0,none⟩=some (.int .i64 0):=(zz9 BK350.out 0).trans rfl;have hcz36_1:w33.cell? ⟨gb350,1,none⟩=some (.slice none 0 0):=(zz9 BK350.out 1).trans rfl;have hfz36_0:=zz10 BK350.out 0;have hfz36_1:=zz10 BK350.out 1;obtain ⟨Ao37,co37,eo37⟩:=Kd.V_slice HO348.out;subst eo37) | ((with_reducible refine gate_store (t:=30) (p:=6) rfl ?_);refine store_event (t:=30) (p:=6) (v:=?vo_w38) (w1:=((w33.setCell ⟨gb350,0,none⟩ (.int .i64 t345)).setCell ⟨gb350,1,none⟩ (.slice Ao37 t346.length co37))) ?hg ?ho ?hn ?hr ?_;(case ho=>rfl);(case hg=>rfl);(case hn=>rfl);(case hr=>first | (go_simp;done) | (go_simp;rfl));intro w38 hw;have n0_:Aside0 (Kd.V k70 70 w38 w.heap.size (fun k_=>k_ ≠ gb341∧k_ ≠ gb342∧k_ ≠ gb350) (.slice Ao37 t346.length co37) t346):=⟨(by rw [hw];exact (by (with_reducible repeat (first | apply Kd.V_alloc | apply Kd.V_drewN | apply Kd.V_drew));exact Kd.V_mono (Kd.V_far (p:=⟨gb350,1,none⟩) (Kd.V_far (p:=⟨gb350,0,none⟩) (Kd.V_mono HO348.out (fun k_ hk=>(⟨hk,hk.2⟩:_∧k_ ≠ gb350))) (fun _ hk=>hk.2) (.int .i64 t345)) (fun _ hk=>hk.2) (.slice Ao37 t346.length co37)) (fun _ hk=>⟨hk.1.1.1,⟨hk.1.1.2,hk.1.2⟩⟩)))⟩;have n1_:Aside0 (w38.heap[gb341]?=some (.cells #[.int .i64 a0_0,.slice A0_1 l0_1.length c0_1] 30 (0,0))):=⟨(by rw [hw];exact (by (with_reducible repeat (first | refine zz6 ?_ _ | refine zz7 ?_ | refine zz8 ?_ _));refine blk_far ?_ NB341_350.out _;(with_reducible repeat (first | refine zz6 ?_ _ | refine zz7 ?_ | refine zz8 ?_ _));refine blk_far ?_ NB341_350.out _;(with_reducible repeat (first | refine zz6 ?_ _ | refine zz7 ?_ | refine zz8 ?_ _));exact BK341.out))⟩;have n2_:Aside0 (w38.heap[gb342]?=some (.cells #[.int .i64 a1_0,.slice A1_1 l1_1.length c1_1] 30 (0,0))):=⟨(by rw [hw];exact (by (with_reducible repeat (first | refine zz6 ?_ _ | refine zz7 ?_ | refine zz8 ?_ _));refine blk_far ?_ NB342_350.out _;(with_reducible repeat (first | refine zz6 ?_ _ | refine zz7 ?_ | refine zz8 ?_ _));refine blk_far ?_ NB342_350.out _;(with_reducible repeat (first | refine zz6 ?_ _ | refine zz7 ?_ | refine zz8 ?_ _));exact BK342.out))⟩;have n3_:Aside0 (w38.heap[gb350]?=some (.cells #[.int .i64 t345,.slice Ao37 t346.length co37] 30 (0,0))):=⟨(by rw [hw];exact (by (with_reducible repeat (first | refine zz6 ?_ _ | refine zz7 ?_ | refine zz8 ?_ _));refine blk_put (cs:=#[.int .i64 t345,.slice none 0 0]) ?_ 1 _ rfl;(with_reducible repeat (first | refine zz6 ?_ _ | refine zz7 ?_ | refine zz8 ?_ _));refine blk_put (cs:=#[.int .i64 0,.slice none 0 0]) ?_ 0 _ rfl;(with_reducible repeat (first | refine zz6 ?_ _ | refine zz7 ?_ | refine zz8 ?_ _));exact BK350.out))⟩;have n4_:Aside0 (Below w.heap.size w w38):=⟨(by rw [hw];exact (by repeat first | exact HB.out | apply zz2 | apply zz0 | apply zz1 | refine zz3 ?_ GE341.out | refine zz3 ?_ GE342.out | refine zz3 ?_ GE350.out))⟩;clear hw;clear HO348;clear BK341;clear BK342;clear BK350;clear HB;have HO348:=n0_;have BK341:=n1_;have BK342:=n2_;have BK350:=n3_;have HB:=n4_;clear n0_ n1_ n2_ n3_ n4_;have hcz39_0:w38.cell? ⟨gb342,0,none⟩=some (.int .i64 a1_0):=(zz9 BK342.out 0).trans rfl;have hcz39_1:w38.cell? ⟨gb342,1,none⟩=some (.slice A1_1 l1_1.length c1_1):=(zz9 BK342.out 1).trans rfl;have hfz39_0:=zz10 BK342.out 0;have hfz39_1:=zz10 BK342.out 1) | ((with_reducible refine gate_callee (f:=31) rfl ?_);refine goesL_ (some 39) rfl rfl Try.func31 (by kernel_rfl) rfl #[.agg #[.int .i64 a1_0,.slice A1_1 l1_1.length c1_1]] rfl (by (try simp only [zz26,zz27,zz28]);first | done | rfl | (simp only [zz24,zz25];rfl)) ?_;(with_reducible refine (spec_paLeast.calls kj17 a1_0 (fun k_=>k_ < w.heap.size) _ _ l1_1 t351 t352 t355 _ ?side1 A28.out).mono ?_);(case side1=>exact Kd.V_mk HC1_1.out (Kd.F_below (Kd.C_F k70_heap HR1_1.out) (by repeat first | exact HB.out | apply zz2 | apply zz0 | apply zz1 | refine zz3 ?_ GE341.out | refine zz3 ?_ GE342.out | refine zz3 ?_ GE350.out)));rintro e w40 ⟨v353,rfl,ho0,hb⟩;refine ⟨_,rfl,?_⟩;have n0_:=zz31 (Kd.V_below (by (with_reducible repeat (first | apply Kd.V_alloc | apply Kd.V_drewN | apply Kd.V_drew));exact HO348.out) hb);have n1_:=zz31 (Kd.V_lower (Kd.V_mono (ok':=fun k_=>k_ ≠ gb341∧k_ ≠ gb342∧k_ ≠ gb350) ho0 (fun k_ hk_=>⟨Or.elim hk_ (fun hs_=>fun e_=>Nat.not_le.2 hs_ (by rw [e_];exact GW341.out)) (fun hn_=>(Kd.freshB (g:=gb341) (o:=.cells #[.int .i64 a0_0,.slice A0_1 l0_1.length c0_1] 30 (0,0)) (by (with_reducible repeat (first | refine zz6 ?_ _ | refine zz7 ?_ | refine zz8 ?_ _));exact BK341.out) k_ hn_)),Or.elim hk_ (fun hs_=>fun e_=>Nat.not_le.2 hs_ (by rw [e_];exact GW342.out)) (fun hn_=>(Kd.freshB (g:=gb342) (o:=.cells #[.int .i64 a1_0,.slice A1_1 l1_1.length c1_1] 30 (0,0)) (by (with_reducible repeat (first | refine zz6 ?_ _ | refine zz7 ?_ | refine zz8 ?_ _));exact BK342.out) k_ hn_)),Or.elim hk_ (fun hs_=>fun e_=>Nat.not_le.2 hs_ (by rw [e_];exact GW350.out)) (fun hn_=>(Kd.freshB (g:=gb350) (o:=.cells #[.int .i64 t345,.slice Ao37 t346.length co37] 30 (0,0)) (by (with_reducible repeat (first | refine zz6 ?_ _ | refine zz7 ?_ | refine zz8 ?_ _));exact BK350.out) k_ hn_))⟩)) (zz5 (by repeat first | exact HB.out | apply zz2 | apply zz0 | apply zz1 | refine zz3 ?_ GE341.out | refine zz3 ?_ GE342.out | refine zz3 ?_ GE350.out)));have n2_:=zz31 (zz11 (g:=gb341) (o:=.cells #[.int .i64 a0_0,.slice A0_1 l0_1.length c0_1] 30 (0,0)) (by (with_reducible repeat (first | refine zz6 ?_ _ | refine zz7 ?_ | refine zz8 ?_ _));exact BK341.out) hb);have n3_:=zz31 (zz11 (g:=gb342) (o:=.cells #[.int .i64 a1_0,.slice A1_1 l1_1.length c1_1] 30 (0,0)) (by (with_reducible repeat (first | refine zz6 ?_ _ | refine zz7 ?_ | refine zz8 ?_ _));exact BK342.out) hb);have n4_:=zz31 (zz11 (g:=gb350) (o:=.cells #[.int .i64 t345,.slice Ao37 t346.length co37] 30 (0,0)) (by (with_reducible repeat (first | refine zz6 ?_ _ | refine zz7 ?_ | refine zz8 ?_ _));exact BK350.out) hb);have n5_:=zz31 (zz4 (by repeat first | exact HB.out | apply zz2 | apply zz0 | apply zz1 | refine zz3 ?_ GE341.out | refine zz3 ?_ GE342.out | refine zz3 ?_ GE350.out) hb);clear HO348;clear BK341;clear BK342;clear BK350;clear HB;have HO348:=n0_;have HO354:=n1_;have BK341:=n2_;have BK342:=n3_;have BK350:=n4_;have HB:=n5_;clear n0_ n1_ n2_ n3_ n4_ n5_;(try clear hb);(try clear hb2);(try clear hk);(try clear hi);(try clear ho0)) | ((with_reducible refine gate_dst (N:=8) rfl ?_);(try (refine gate_guard (by rfl) ?_;dsimp only));refine box_event ?hg (N:=8) ?hd (cs:=#[.int .i64 0,.slice none 0 0]) (t:=30) ?hr ?_;(case hd=>rfl);(case hg=>rfl);(case hr=>first | (go_simp;done) | (go_simp;rfl));intro gb356 hg w41 hbox hb;have n0_:=zz31 (Kd.V_below (Kd.V_elderB (by (with_reducible repeat (first | apply Kd.V_alloc | apply Kd.V_drewN | apply Kd.V_drew));exact HO348.out) gb356 (Nat.le_of_eq hg.symm)) hb);have n1_:=zz31 (Kd.V_below (Kd.V_elderB (by (with_reducible repeat (first | apply Kd.V_alloc | apply Kd.V_drewN | apply Kd.V_drew));exact HO354.out) gb356 (Nat.le_of_eq hg.symm)) hb);have n2_:=zz31 (zz11 (g:=gb341) (o:=.cells #[.int .i64 a0_0,.slice A0_1 l0_1.length c0_1] 30 (0,0)) (by (with_reducible repeat (first | refine zz6 ?_ _ | refine zz7 ?_ | refine zz8 ?_ _));exact BK341.out) hb);have n3_:=zz31 (zz11 (g:=gb342) (o:=.cells #[.int .i64 a1_0,.slice A1_1 l1_1.length c1_1] 30 (0,0)) (by (with_reducible repeat (first | refine zz6 ?_ _ | refine zz7 ?_ | refine zz8 ?_ _));exact BK342.out) hb);have n4_:=zz31 (zz11 (g:=gb350) (o:=.cells #[.int .i64 t345,.slice Ao37 t346.length co37] 30 (0,0)) (by (with_reducible repeat (first | refine zz6 ?_ _ | refine zz7 ?_ | refine zz8 ?_ _));exact BK350.out) hb);have n5_:=zz31 (zz4 (by repeat first | exact HB.out | apply zz2 | apply zz0 | apply zz1 | refine zz3 ?_ GE341.out | refine zz3 ?_ GE342.out | refine zz3 ?_ GE350.out) hb);have n6_:=zz31 (hbox);have n7_:=zz31 ((by rw [hg];exact (zz5 (by repeat first | exact HB.out | apply zz2 | apply zz0 | apply zz1 | refine zz3 ?_ GE341.out | refine zz3 ?_ GE342.out | refine zz3 ?_ GE350.out)):w.heap.size≤gb356));have n8_:=zz31 ((by rw [hg];exact (zz5 (by repeat first | exact HB.out | apply zz2 | apply zz0 | apply zz1 | refine zz3 ?_ GE341.out | refine zz3 ?_ GE342.out | refine zz3 ?_ GE350.out)):w.heap.size≤gb356));have n9_:=zz31 ((by rw [hg];exact Nat.ne_of_lt (blk_lt (g:=gb341) (o:=.cells #[.int .i64 a0_0,.slice A0_1 l0_1.length c0_1] 30 (0,0)) (by (with_reducible repeat (first | refine zz6 ?_ _ | refine zz7 ?_ | refine zz8 ?_ _));exact BK341.out)):gb341 ≠ gb356));have n10_:=zz31 ((by rw [hg];exact Nat.ne_of_gt (blk_lt (g:=gb341) (o:=.cells #[.int .i64 a0_0,.slice A0_1 l0_1.length c0_1] 30 (0,0)) (by (with_reducible repeat (first | refine zz6 ?_ _ | refine zz7 ?_ | refine zz8 ?_ _));exact BK341.out)):gb356 ≠ gb341));have n11_:=zz31 ((by rw [hg];exact Nat.ne_of_lt (blk_lt (g:=gb342) (o:=.cells #[.int .i64 a1_0,.slice A1_1 l1_1.length c1_1] 30 (0,0)) (by (with_reducible repeat (first | refine zz6 ?_ _ | refine zz7 ?_ | refine zz8 ?_ _));exact BK342.out)):gb342 ≠ gb356));have n12_:=zz31 ((by rw [hg];exact Nat.ne_of_gt (blk_lt (g:=gb342) (o:=.cells #[.int .i64 a1_0,.slice A1_1 l1_1.length c1_1] 30 (0,0)) (by (with_reducible repeat (first | refine zz6 ?_ _ | refine zz7 ?_ | refine zz8 ?_ _));exact BK342.out)):gb356 ≠ gb342));have n13_:=zz31 ((by rw [hg];exact Nat.ne_of_lt (blk_lt (g:=gb350) (o:=.cells #[.int .i64 t345,.slice Ao37 t346.length co37] 30 (0,0)) (by (with_reducible repeat (first | refine zz6 ?_ _ | refine zz7 ?_ | refine zz8 ?_ _));exact BK350.out)):gb350 ≠ gb356));have n14_:=zz31 ((by rw [hg];exact Nat.ne_of_gt (blk_lt (g:=gb350) (o:=.cells #[.int .i64 t345,.slice Ao37 t346.length co37] 30 (0,0)) (by (with_reducible repeat (first | refine zz6 ?_ _ | refine zz7 ?_ | refine zz8 ?_ _));exact BK350.out)):gb356 ≠ gb350));clear HO348;clear HO354;clear BK341;clear BK342;clear BK350;clear HB;have HO348:=n0_;have HO354:=n1_;have BK341:=n2_;have BK342:=n3_;have BK350:=n4_;have HB:=n5_;have BK356:=n6_;have GW356:=n7_;have GE356:=n8_;have NB341_356:=n9_;have NB356_341:=n10_;have NB342_356:=n11_;have NB356_342:=n12_;have NB350_356:=n13_;have NB356_350:=n14_;clear n0_ n1_ n2_ n3_ n4_ n5_ n6_ n7_ n8_ n9_ n10_ n11_ n12_ n13_ n14_;clear hb hbox hg;have hnb42:=NB356_341.out;have hnc42:=NB341_356.out;have hnb43:=NB356_342.out;have hnc43:=NB342_356.out;have hnb44:=NB356_350.out;have hnc44:=NB350_356.out;have hcz45_0:w41.cell? ⟨gb356,0,none⟩=some (.int .i64 0):=(zz9 BK356.out 0).trans rfl;have hcz45_1:w41.cell? ⟨gb356,1,none⟩=some (.slice none 0 0):=(zz9 BK356.out 1).trans rfl;have hfz45_0:=zz10 BK356.out 0;have hfz45_1:=zz10 BK356.out 1;obtain ⟨Ao46,co46,eo46⟩:=Kd.V_slice HO354.out;subst eo46;have hcz47_0:w41.cell? ⟨gb350,0,none⟩=some (.int .i64 t345):=(zz9 BK350.out 0).trans rfl;have hcz47_1:w41.cell? ⟨gb350,1,none⟩=some (.slice Ao37 t346.length co37):=(zz9 BK350.out 1).trans rfl;have hfz47_0:=zz10 BK350.out 0;have hfz47_1:=zz10 BK350.out 1) | ((with_reducible refine gate_callee (f:=32) rfl ?_);refine goesL_ (some 44) rfl rfl Try.func32 (by kernel_rfl) rfl #[.agg #[.int .i64 t345,.slice Ao37 t346.length co37],.agg #[.int .i64 t351,.slice Ao46 t352.length co46]] rfl (by (try simp only [zz26,zz27,zz28]);first | done | rfl | (simp only [zz24,zz25];rfl)) ?_;(with_reducible refine (spec_paSame.calls kj17 t345 _ _ t346 t351 _ _ t352 t357 _ ?side1 ?side2 ?side3 ?side4 A29.out).mono ?_);(case side1=>refine (Kd.V_reads' (e:=70) (base:=w.heap.size) (ok:=fun k_=>((k_ ≠ gb341∧(k_ ≠ gb342∧k_ ≠ gb350))∧k_ ≠ gb356)) (n:=t346.length) (c:=co37) ?_).2.2;exact (by (with_reducible repeat (first | apply Kd.V_alloc | apply Kd.V_drewN | apply Kd.V_drew));exact (Kd.V_mono (Kd.V_far (p:=⟨gb356,1,none⟩) (Kd.V_far (p:=⟨gb356,0,none⟩) (Kd.V_mono HO348.out (fun k_ hk=>(⟨hk,hk.2⟩:_∧k_ ≠ gb356))) (fun _ hk=>hk.2) (.int .i64 t351)) (fun _ hk=>hk.2) (.slice Ao46 t352.length co46)) (fun _ h_=>h_.1))));(case side2=>exact (Kd.V_reads' HO348.out).2.1);(case side3=>refine (Kd.V_reads' (e:=70) (base:=w.heap.size) (ok:=fun k_=>((k_ ≠ gb341∧(k_ ≠ gb342∧k_ ≠ gb350))∧k_ ≠ gb356)) (n:=t352.length) (c:=co46) ?_).2.2;exact (by (with_reducible repeat (first | apply Kd.V_alloc | apply Kd.V_drewN | apply Kd.V_drew));exact (Kd.V_mono (Kd.V_far (p:=⟨gb356,1,none⟩) (Kd.V_far (p:=⟨gb356,0,none⟩) (Kd.V_mono HO354.out (fun k_ hk=>(⟨hk,hk.2⟩:_∧k_ ≠ gb356))) (fun _ hk=>hk.2) (.int .i64 t351)) (fun _ hk=>hk.2) (.slice Ao46 t352.length co46)) (fun _ h_=>h_.1))));(case side4=>exact (Kd.V_reads' HO354.out).2.1);rintro e w48 ⟨rfl,hb⟩;refine ⟨_,rfl,?_⟩;have n0_:=zz31 (Kd.V_below (by (with_reducible repeat (first | apply Kd.V_alloc | apply Kd.V_drewN | apply Kd.V_drew));exact (Kd.V_mono (Kd.V_far (p:=⟨gb356,1,none⟩) (Kd.V_far (p:=⟨gb356,0,none⟩) (Kd.V_mono HO348.out (fun k_ hk=>(⟨hk,hk.2⟩:_∧k_ ≠ gb356))) (fun _ hk=>hk.2) (.int .i64 t351)) (fun _ hk=>hk.2) (.slice Ao46 t352.length co46)) (fun _ h_=>h_.1))) hb);have n1_:=zz31 (Kd.V_below (by (with_reducible repeat (first | apply Kd.V_alloc | apply Kd.V_drewN | apply Kd.V_drew));exact (Kd.V_mono (Kd.V_far (p:=⟨gb356,1,none⟩) (Kd.V_far (p:=⟨gb356,0,none⟩) (Kd.V_mono HO354.out (fun k_ hk=>(⟨hk,hk.2⟩:_∧k_ ≠ gb356))) (fun _ hk=>hk.2) (.int .i64 t351)) (fun _ hk=>hk.2) (.slice Ao46 t352.length co46)) (fun _ h_=>h_.1))) hb);have n2_:=zz31 (zz11 (g:=gb341) (o:=.cells #[.int .i64 a0_0,.slice A0_1 l0_1.length c0_1] 30 (0,0)) (by (with_reducible repeat (first | refine zz6 ?_ _ | refine zz7 ?_ | refine zz8 ?_ _));refine blk_far ?_ NB341_356.out _;(with_reducible repeat (first | refine zz6 ?_ _ | refine zz7 ?_ | refine zz8 ?_ _));refine blk_far ?_ NB341_356.out _;(with_reducible repeat (first | refine zz6 ?_ _ | refine zz7 ?_ | refine zz8 ?_ _));exact BK341.out) hb);have n3_:=zz31 (zz11 (g:=gb342) (o:=.cells #[.int .i64 a1_0,.slice A1_1 l1_1.length c1_1] 30 (0,0)) (by (with_reducible repeat (first | refine zz6 ?_ _ | refine zz7 ?_ | refine zz8 ?_ _));refine blk_far ?_ NB342_356.out _;(with_reducible repeat (first | refine zz6 ?_ _ | refine zz7 ?_ | refine zz8 ?_ _));refine blk_far ?_ NB342_356.out _;(with_reducible repeat (first | refine zz6 ?_ _ | refine zz7 ?_ | refine zz8 ?_ _));exact BK342.out) hb);have n4_:=zz31 (zz11 (g:=gb350) (o:=.cells #[.int .i64 t345,.slice Ao37 t346.length co37] 30 (0,0)) (by (with_reducible repeat (first | refine zz6 ?_ _ | refine zz7 ?_ | refine zz8 ?_ _));refine blk_far ?_ NB350_356.out _;(with_reducible repeat (first | refine zz6 ?_ _ | refine zz7 ?_ | refine zz8 ?_ _));refine blk_far ?_ NB350_356.out _;(with_reducible repeat (first | refine zz6 ?_ _ | refine zz7 ?_ | refine zz8 ?_ _));exact BK350.out) hb);have n5_:=zz31 (zz11 (g:=gb356) (o:=.cells #[.int .i64 t351,.slice Ao46 t352.length co46] 30 (0,0)) (by (with_reducible repeat (first | refine zz6 ?_ _ | refine zz7 ?_ | refine zz8 ?_ _));refine blk_put (cs:=#[.int .i64 t351,.slice none 0 0]) ?_ 1 _ rfl;(with_reducible repeat (first | refine zz6 ?_ _ | refine zz7 ?_ | refine zz8 ?_ _));refine blk_put (cs:=#[.int .i64 0,.slice none 0 0]) ?_ 0 _ rfl;(with_reducible repeat (first | refine zz6 ?_ _ | refine zz7 ?_ | refine zz8 ?_ _));exact BK356.out) hb);have n6_:=zz31 (zz4 (by repeat first | exact HB.out | apply zz2 | apply zz0 | apply zz1 | refine zz3 ?_ GE341.out | refine zz3 ?_ GE342.out | refine zz3 ?_ GE350.out | refine zz3 ?_ GE356.out) hb);clear HO348;clear HO354;clear BK341;clear BK342;clear BK350;clear BK356;clear HB;have HO348:=n0_;have HO354:=n1_;have BK341:=n2_;have BK342:=n3_;have BK350:=n4_;have BK356:=n5_;have HB:=n6_;clear n0_ n1_ n2_ n3_ n4_ n5_ n6_;(try clear hb);(try clear hb2);(try clear hk);(try clear hi)))
       go_ret2
       exact ⟨by first | rfl | (simp [errW_none,errW_some] <;> rfl) | (simp [*,errW_none,errW_some] <;> rfl),by repeat first | exact HB.out | apply zz2 | apply zz0 | apply zz1 | refine zz3 ?_ GE341.out | refine zz3 ?_ GE342.out | refine zz3 ?_ GE350.out | refine zz3 ?_ GE356.out⟩

/-! ### impl_AreSame: function 11 -/
def impl_AreSame.j0:Nat→Bool→Int→List (S70)→Int→List (S70)→Option (Bool × Bool)
 | 0,_,_,_,_,_=>none
 | k+1,x13,x359000,x359001,x360000,x360001=>if x13=true then (some (false,false)) else (if x359000=x360000 then (if (x359001.length:Int)=(x360001.length:Int) then ((impl_least.f k x359000 x359001).bind fun bt362=>((impl_least.f k x360000 x360001).bind fun bt366=>((impl_compareParties.f k bt362.1 bt362.2 bt366.1 bt366.2).bind fun t370=>(some ((t370 == 0),true))))) else (some (false,true))) else (some (false,true)))
def impl_AreSame.f (k:Nat) (a0_0:Int) (l0_1:List (S70)) (a1_0:Int) (l1_1:List (S70)):Option (Bool × Bool):=(impl_areRenamed.f k a0_0 l0_1).bind fun t360=>(if t360=true then ((impl_areRenamed.f k a1_0 l1_1).bind fun t361=>(impl_AreSame.j0 k (!t361) a0_0 l0_1 a1_0 l1_1)) else (impl_AreSame.j0 k true a0_0 l0_1 a1_0 l1_1))
theorem impl_AreSame.mono_l:∀ k,(∀ y0 y1 y2 y3 y4,LeO (impl_AreSame.j0 k y0 y1 y2 y3 y4) (impl_AreSame.j0 (k+1) y0 y1 y2 y3 y4))
 | 0=>fun _ _ _ _ _ r h=>by simp [impl_AreSame.j0] at h
 | k+1=>by
  have ih0:=impl_AreSame.mono_l k
  ·intro y0 y1 y2 y3 y4
   unfold impl_AreSame.j0
   repeat' first
   | (with_reducible exact ih0 _ _ _ _ _)
   | (with_reducible exact impl_areRenamed.mono _ _ _)
   | (with_reducible exact impl_compareParties.mono _ _ _ _ _)
   | (with_reducible exact impl_least.mono _ _ _)
   | (with_reducible exact LeO.refl _)
   | (with_reducible exact LeO.none _)
   | (with_reducible refine LeO.ite ?_ ?_)
   | (with_reducible refine LeO.bind ?_ (fun _=>?_))
   | exact ih0 _ _ _ _ _
   | exact impl_areRenamed.mono _ _ _
   | exact impl_compareParties.mono _ _ _ _ _
   | exact impl_least.mono _ _ _
   | exact LeO.none _
   | refine LeO.ite ?_ ?_
   | refine LeO.bind ?_ (fun _=>?_)
theorem impl_AreSame.mono:∀ a0 a1 a2 a3 k,LeO (impl_AreSame.f k a0 a1 a2 a3) (impl_AreSame.f (k+1) a0 a1 a2 a3):=by
 intro a0 a1 a2 a3 k
 have ih0:=impl_AreSame.mono_l k
 unfold impl_AreSame.f
 repeat' first
   | (with_reducible exact ih0 _ _ _ _ _)
   | (with_reducible exact impl_areRenamed.mono _ _ _)
   | (with_reducible exact impl_compareParties.mono _ _ _ _ _)
   | (with_reducible exact impl_least.mono _ _ _)
   | (with_reducible exact LeO.refl _)
   | (with_reducible exact LeO.none _)
   | (with_reducible refine LeO.ite ?_ ?_)
   | (with_reducible refine LeO.bind ?_ (fun _=>?_))
   | exact ih0 _ _ _ _ _
   | exact impl_areRenamed.mono _ _ _
   | exact impl_compareParties.mono _ _ _ _ _
   | exact impl_least.mono _ _ _
   | exact LeO.none _
   | refine LeO.ite ?_ ?_
   | refine LeO.bind ?_ (fun _=>?_)
set_option maxHeartbeats 8000000 in
set_option maxRecDepth 100000 in
theorem impl_AreSame.calls (k:Nat) (a0_0:Int) (A0_1:Option Addr) (c0_1:Nat) (l0_1:List (S70)) (a1_0:Int) (A1_1:Option Addr) (c1_1:Nat) (l1_1:List (S70)) (r1:Bool) (r2:Bool) (w:World) (hr0_1:Kd.C k70 w A0_1 l0_1.length l0_1) (hc0_1:l0_1.length≤c0_1) (hr1_1:Kd.C k70 w A1_1 l1_1.length l1_1) (hc1_1:l1_1.length≤c1_1) (h:impl_AreSame.f k a0_0 l0_1 a1_0 l1_1=some (r1,r2)) :
  Calls Try.prog 11 #[.agg #[.int .i64 a0_0,.slice A0_1 l0_1.length c0_1],.agg #[.int .i64 a1_0,.slice A1_1 l1_1.length c1_1]] w fun e w'=>e=.returned (.tuple #[.bool r1,.bool r2])∧Below w.heap.size w w':=by
 have hu30:=Try.underlying30
 have HR0_1:=zz31 hr0_1
 have HC0_1:=zz31 hc0_1
 clear hr0_1 hc0_1
 have HR1_1:=zz31 hr1_1
 have HC1_1:=zz31 hc1_1
 clear hr1_1 hc1_1
 have HB:=zz31 (Below.refl w.heap.size w)
 have H:((impl_areRenamed.f k a0_0 l0_1).bind fun t360=>(if t360=true then ((impl_areRenamed.f k a1_0 l1_1).bind fun t361=>(impl_AreSame.j0 k (!t361) a0_0 l0_1 a1_0 l1_1)) else (impl_AreSame.j0 k true a0_0 l0_1 a1_0 l1_1)))=some (r1,r2):=h
 clear h
 have HC3:=zz31 H
 clear H
 go_enter Try.func11,Try.ntmps11
 go_upto_region 1 with (first | ((with_reducible refine gate_dst (N:=2) rfl ?_);(try (refine gate_guard (by rfl) ?_;dsimp only));refine box_event ?hg (N:=2) ?hd (cs:=#[.int .i64 a0_0,.slice A0_1 l0_1.length c0_1]) (t:=30) ?hr ?_;(case hd=>rfl);(case hg=>rfl);(case hr=>first | (go_simp;done) | (go_simp;rfl));intro gb358 hg w4 hbox hb;have n0_:=zz31 (zz4 (by repeat first | exact HB.out | apply zz2 | apply zz0 | apply zz1) hb);have n1_:=zz31 (hbox);have n2_:=zz31 ((by rw [hg];exact (zz5 (by repeat first | exact HB.out | apply zz2 | apply zz0 | apply zz1)):w.heap.size≤gb358));have n3_:=zz31 ((by rw [hg];exact (zz5 (by repeat first | exact HB.out | apply zz2 | apply zz0 | apply zz1)):w.heap.size≤gb358));clear HB;have HB:=n0_;have BK358:=n1_;have GW358:=n2_;have GE358:=n3_;clear n0_ n1_ n2_ n3_;clear hb hbox hg) | ((with_reducible refine gate_dst (N:=3) rfl ?_);(try (refine gate_guard (by rfl) ?_;dsimp only));refine box_event ?hg (N:=3) ?hd (cs:=#[.int .i64 a1_0,.slice A1_1 l1_1.length c1_1]) (t:=30) ?hr ?_;(case hd=>rfl);(case hg=>rfl);(case hr=>first | (go_simp;done) | (go_simp;rfl));intro gb359 hg w5 hbox hb;have n0_:=zz31 (zz11 (g:=gb358) (o:=.cells #[.int .i64 a0_0,.slice A0_1 l0_1.length c0_1] 30 (0,0)) (by (with_reducible repeat (first | refine zz6 ?_ _ | refine zz7 ?_ | refine zz8 ?_ _));exact BK358.out) hb);have n1_:=zz31 (zz4 (by repeat first | exact HB.out | apply zz2 | apply zz0 | apply zz1 | refine zz3 ?_ GE358.out) hb);have n2_:=zz31 (hbox);have n3_:=zz31 ((by rw [hg];exact (zz5 (by repeat first | exact HB.out | apply zz2 | apply zz0 | apply zz1 | refine zz3 ?_ GE358.out)):w.heap.size≤gb359));have n4_:=zz31 ((by rw [hg];exact (zz5 (by repeat first | exact HB.out | apply zz2 | apply zz0 | apply zz1 | refine zz3 ?_ GE358.out)):w.heap.size≤gb359));have n5_:=zz31 ((by rw [hg];exact Nat.ne_of_lt (blk_lt (g:=gb358) (o:=.cells #[.int .i64 a0_0,.slice A0_1 l0_1.length c0_1] 30 (0,0)) (by (with_reducible repeat (first | refine zz6 ?_ _ | refine zz7 ?_ | refine zz8 ?_ _));exact BK358.out)):gb358 ≠ gb359));have n6_:=zz31 ((by rw [hg];exact Nat.ne_of_gt (blk_lt (g:=gb358) (o:=.cells #[.int .i64 a0_0,.slice A0_1 l0_1.length c0_1] 30 (0,0)) (by (with_reducible repeat (first | refine zz6 ?_ _ | refine zz7 ?_ | refine zz8 ?_ _));exact BK358.out)):gb359 ≠ gb358));clear BK358;clear HB;have BK358:=n0_;have HB:=n1_;have BK359:=n2_;have GW359:=n3_;have GE359:=n4_;have NB358_359:=n5_;have NB359_358:=n6_;clear n0_ n1_ n2_ n3_ n4_ n5_ n6_;clear hb hbox hg))
 repeat (go_quiet (first | ((with_reducible refine gate_dst (N:=2) rfl ?_);(try (refine gate_guard (by rfl) ?_;dsimp only));refine box_event ?hg (N:=2) ?hd (cs:=#[.int .i64 a0_0,.slice A0_1 l0_1.length c0_1]) (t:=30) ?hr ?_;(case hd=>rfl);(case hg=>rfl);(case hr=>first | (go_simp;done) | (go_simp;rfl));intro gb358 hg w4 hbox hb;have n0_:=zz31 (zz4 (by repeat first | exact HB.out | apply zz2 | apply zz0 | apply zz1) hb);have n1_:=zz31 (hbox);have n2_:=zz31 ((by rw [hg];exact (zz5 (by repeat first | exact HB.out | apply zz2 | apply zz0 | apply zz1)):w.heap.size≤gb358));have n3_:=zz31 ((by rw [hg];exact (zz5 (by repeat first | exact HB.out | apply zz2 | apply zz0 | apply zz1)):w.heap.size≤gb358));clear HB;have HB:=n0_;have BK358:=n1_;have GW358:=n2_;have GE358:=n3_;clear n0_ n1_ n2_ n3_;clear hb hbox hg) | ((with_reducible refine gate_dst (N:=3) rfl ?_);(try (refine gate_guard (by rfl) ?_;dsimp only));refine box_event ?hg (N:=3) ?hd (cs:=#[.int .i64 a1_0,.slice A1_1 l1_1.length c1_1]) (t:=30) ?hr ?_;(case hd=>rfl);(case hg=>rfl);(case hr=>first | (go_simp;done) | (go_simp;rfl));intro gb359 hg w5 hbox hb;have n0_:=zz31 (zz11 (g:=gb358) (o:=.cells #[.int .i64 a0_0,.slice A0_1 l0_1.length c0_1] 30 (0,0)) (by (with_reducible repeat (first | refine zz6 ?_ _ | refine zz7 ?_ | refine zz8 ?_ _));exact BK358.out) hb);have n1_:=zz31 (zz4 (by repeat first | exact HB.out | apply zz2 | apply zz0 | apply zz1 | refine zz3 ?_ GE358.out) hb);have n2_:=zz31 (hbox);have n3_:=zz31 ((by rw [hg];exact (zz5 (by repeat first | exact HB.out | apply zz2 | apply zz0 | apply zz1 | refine zz3 ?_ GE358.out)):w.heap.size≤gb359));have n4_:=zz31 ((by rw [hg];exact (zz5 (by repeat first | exact HB.out | apply zz2 | apply zz0 | apply zz1 | refine zz3 ?_ GE358.out)):w.heap.size≤gb359));have n5_:=zz31 ((by rw [hg];exact Nat.ne_of_lt (blk_lt (g:=gb358) (o:=.cells #[.int .i64 a0_0,.slice A0_1 l0_1.length c0_1] 30 (0,0)) (by (with_reducible repeat (first | refine zz6 ?_ _ | refine zz7 ?_ | refine zz8 ?_ _));exact BK358.out)):gb358 ≠ gb359));have n6_:=zz31 ((by rw [hg];exact Nat.ne_of_gt (blk_lt (g:=gb358) (o:=.cells #[.int .i64 a0_0,.slice A0_1 l0_1.length c0_1] 30 (0,0)) (by (with_reducible repeat (first | refine zz6 ?_ _ | refine zz7 ?_ | refine zz8 ?_ _));exact BK358.out)):gb359 ≠ gb358));clear BK358;clear HB;have BK358:=n0_;have HB:=n1_;have BK359:=n2_;have GW359:=n3_;have GE359:=n4_;have NB358_359:=n5_;have NB359_358:=n6_;clear n0_ n1_ n2_ n3_ n4_ n5_ n6_;clear hb hbox hg));go_upto_region 1 with (first | ((with_reducible refine gate_dst (N:=2) rfl ?_);(try (refine gate_guard (by rfl) ?_;dsimp only));refine box_event ?hg (N:=2) ?hd (cs:=#[.int .i64 a0_0,.slice A0_1 l0_1.length c0_1]) (t:=30) ?hr ?_;(case hd=>rfl);(case hg=>rfl);(case hr=>first | (go_simp;done) | (go_simp;rfl));intro gb358 hg w4 hbox hb;have n0_:=zz31 (zz4 (by repeat first | exact HB.out | apply zz2 | apply zz0 | apply zz1) hb);have n1_:=zz31 (hbox);have n2_:=zz31 ((by rw [hg];exact (zz5 (by repeat first | exact HB.out | apply zz2 | apply zz0 | apply zz1)):w.heap.size≤gb358));have n3_:=zz31 ((by rw [hg];exact (zz5 (by repeat first | exact HB.out | apply zz2 | apply zz0 | apply zz1)):w.heap.size≤gb358));clear HB;have HB:=n0_;have BK358:=n1_;have GW358:=n2_;have GE358:=n3_;clear n0_ n1_ n2_ n3_;clear hb hbox hg) | ((with_reducible refine gate_dst (N:=3) rfl ?_);(try (refine gate_guard (by rfl) ?_;dsimp only));refine box_event ?hg (N:=3) ?hd (cs:=#[.int .i64 a1_0,.slice A1_1 l1_1.length c1_1]) (t:=30) ?hr ?_;(case hd=>rfl);(case hg=>rfl);(case hr=>first | (go_simp;done) | (go_simp;rfl));intro gb359 hg w5 hbox hb;have n0_:=zz31 (zz11 (g:=gb358) (o:=.cells #[.int .i64 a0_0,.slice A0_1 l0_1.length c0_1] 30 (0,0)) (by (with_reducible repeat (first | refine zz6 ?_ _ | refine zz7 ?_ | refine zz8 ?_ _));exact BK358.out) hb);have n1_:=zz31 (zz4 (by repeat first | exact HB.out | apply zz2 | apply zz0 | apply zz1 | refine zz3 ?_ GE358.out) hb);have n2_:=zz31 (hbox);have n3_:=zz31 ((by rw [hg];exact (zz5 (by repeat first | exact HB.out | apply zz2 | apply zz0 | apply zz1 | refine zz3 ?_ GE358.out)):w.heap.size≤gb359));have n4_:=zz31 ((by rw [hg];exact (zz5 (by repeat first | exact HB.out | apply zz2 | apply zz0 | apply zz1 | refine zz3 ?_ GE358.out)):w.heap.size≤gb359));have n5_:=zz31 ((by rw [hg];exact Nat.ne_of_lt (blk_lt (g:=gb358) (o:=.cells #[.int .i64 a0_0,.slice A0_1 l0_1.length c0_1] 30 (0,0)) (by (with_reducible repeat (first | refine zz6 ?_ _ | refine zz7 ?_ | refine zz8 ?_ _));exact BK358.out)):gb358 ≠ gb359));have n6_:=zz31 ((by rw [hg];exact Nat.ne_of_gt (blk_lt (g:=gb358) (o:=.cells #[.int .i64 a0_0,.slice A0_1 l0_1.length c0_1] 30 (0,0)) (by (with_reducible repeat (first | refine zz6 ?_ _ | refine zz7 ?_ | refine zz8 ?_ _));exact BK358.out)):gb359 ≠ gb358));clear BK358;clear HB;have BK358:=n0_;have HB:=n1_;have BK359:=n2_;have GW359:=n3_;have GE359:=n4_;have NB358_359:=n5_;have NB359_358:=n6_;clear n0_ n1_ n2_ n3_ n4_ n5_ n6_;clear hb hbox hg)))
 (try simp only [Act.put,zz21,zz22,zz23])
 go_cut [13] (fun v13 wc=>∃ (kq:Nat) (x13_2:Bool),v13=.bool x13_2∧Aside0 (impl_AreSame.j0 kq x13_2 a0_0 l0_1 a1_0 l1_1=some (r1,r2))∧Aside0 (kq≤k)∧Aside0 (wc.heap[gb358]?=some (.cells #[.int .i64 a0_0,(.slice A0_1 l0_1.length c0_1)] 30 (0,0)))∧Aside0 (wc.heap[gb359]?=some (.cells #[.int .i64 a1_0,(.slice A1_1 l1_1.length c1_1)] 30 (0,0)))∧Aside0 (Below w.heap.size w wc))
 case first =>
  have H:=HC3.out
  clear HC3
  replace H:=zz30.mp H
  obtain ⟨t360,A60,H⟩:=H
  replace H:(if t360=true then ((impl_areRenamed.f k a1_0 l1_1).bind fun t361=>(impl_AreSame.j0 k (!t361) a0_0 l0_1 a1_0 l1_1)) else (impl_AreSame.j0 k true a0_0 l0_1 a1_0 l1_1))=some (r1,r2):=H
  have A6:=zz31 A60
  clear A60
  by_cases c7:t360=true
  ·subst c7
   have H1:((impl_areRenamed.f k a1_0 l1_1).bind fun t361=>(impl_AreSame.j0 k (!t361) a0_0 l0_1 a1_0 l1_1))=some (r1,r2):=by rw [if_pos rfl] at H;exact H
   clear H
   have H:=H1
   clear H1
   replace H:=zz30.mp H
   obtain ⟨t361,A80,H⟩:=H
   replace H:(impl_AreSame.j0 k (!t361) a0_0 l0_1 a1_0 l1_1)=some (r1,r2):=H
   have A8:=zz31 A80
   clear A80
   have H':=zz31 H
   clear H
   have hnb9:=NB358_359.out
   have hnc9:=NB359_358.out
   have hcz10_0:w5.cell? ⟨gb358,0,none⟩=some (.int .i64 a0_0):=(zz9 BK358.out 0).trans rfl
   have hcz10_1:w5.cell? ⟨gb358,1,none⟩=some (.slice A0_1 l0_1.length c0_1):=(zz9 BK358.out 1).trans rfl
   have hfz10_0:=zz10 BK358.out 0
   have hfz10_1:=zz10 BK358.out 1
   go_wp2_with (first | (go_at_call 34;(with_reducible refine (impl_areRenamed.calls k a0_0 _ _ l0_1 true _ ?side1 ?side2 A6.out).mono ?_);(case side1=>repeat (first | exact (Kd.C_below HR0_1.out HB.out) | (with_reducible refine zz18 ?_ _) | (with_reducible refine zz19 ?_ _) | (with_reducible refine zz20 ?_)));(case side2=>exact HC0_1.out);rintro e w11 ⟨rfl,hb⟩;have n0_:=zz31 (zz11 (g:=gb358) (o:=.cells #[.int .i64 a0_0,.slice A0_1 l0_1.length c0_1] 30 (0,0)) (by (with_reducible repeat (first | refine zz6 ?_ _ | refine zz7 ?_ | refine zz8 ?_ _));exact BK358.out) hb);have n1_:=zz31 (zz11 (g:=gb359) (o:=.cells #[.int .i64 a1_0,.slice A1_1 l1_1.length c1_1] 30 (0,0)) (by (with_reducible repeat (first | refine zz6 ?_ _ | refine zz7 ?_ | refine zz8 ?_ _));exact BK359.out) hb);have n2_:=zz31 (zz4 (by repeat first | exact HB.out | apply zz2 | apply zz0 | apply zz1 | refine zz3 ?_ GE358.out | refine zz3 ?_ GE359.out) hb);clear BK358;clear BK359;clear HB;have BK358:=n0_;have BK359:=n1_;have HB:=n2_;clear n0_ n1_ n2_;(try clear hb);(try clear hb2);(try clear hk);(try clear hi);have hcz12_0:w11.cell? ⟨gb359,0,none⟩=some (.int .i64 a1_0):=(zz9 BK359.out 0).trans rfl;have hcz12_1:w11.cell? ⟨gb359,1,none⟩=some (.slice A1_1 l1_1.length c1_1):=(zz9 BK359.out 1).trans rfl;have hfz12_0:=zz10 BK359.out 0;have hfz12_1:=zz10 BK359.out 1) | (go_at_call 34;(with_reducible refine (impl_areRenamed.calls k a1_0 _ _ l1_1 t361 _ ?side1 ?side2 A8.out).mono ?_);(case side1=>repeat (first | exact (Kd.C_below HR1_1.out HB.out) | (with_reducible refine zz18 ?_ _) | (with_reducible refine zz19 ?_ _) | (with_reducible refine zz20 ?_)));(case side2=>exact HC1_1.out);rintro e w13 ⟨rfl,hb⟩;have n0_:=zz31 (zz11 (g:=gb358) (o:=.cells #[.int .i64 a0_0,.slice A0_1 l0_1.length c0_1] 30 (0,0)) (by (with_reducible repeat (first | refine zz6 ?_ _ | refine zz7 ?_ | refine zz8 ?_ _));exact BK358.out) hb);have n1_:=zz31 (zz11 (g:=gb359) (o:=.cells #[.int .i64 a1_0,.slice A1_1 l1_1.length c1_1] 30 (0,0)) (by (with_reducible repeat (first | refine zz6 ?_ _ | refine zz7 ?_ | refine zz8 ?_ _));exact BK359.out) hb);have n2_:=zz31 (zz4 (by repeat first | exact HB.out | apply zz2 | apply zz0 | apply zz1 | refine zz3 ?_ GE358.out | refine zz3 ?_ GE359.out) hb);clear BK358;clear BK359;clear HB;have BK358:=n0_;have BK359:=n1_;have HB:=n2_;clear n0_ n1_ n2_;(try clear hb);(try clear hb2);(try clear hk);(try clear hi)))
   repeat (go_quiet (first | (go_at_call 34;(with_reducible refine (impl_areRenamed.calls k a0_0 _ _ l0_1 true _ ?side1 ?side2 A6.out).mono ?_);(case side1=>repeat (first | exact (Kd.C_below HR0_1.out HB.out) | (with_reducible refine zz18 ?_ _) | (with_reducible refine zz19 ?_ _) | (with_reducible refine zz20 ?_)));(case side2=>exact HC0_1.out);rintro e w11 ⟨rfl,hb⟩;have n0_:=zz31 (zz11 (g:=gb358) (o:=.cells #[.int .i64 a0_0,.slice A0_1 l0_1.length c0_1] 30 (0,0)) (by (with_reducible repeat (first | refine zz6 ?_ _ | refine zz7 ?_ | refine zz8 ?_ _));exact BK358.out) hb);have n1_:=zz31 (zz11 (g:=gb359) (o:=.cells #[.int .i64 a1_0,.slice A1_1 l1_1.length c1_1] 30 (0,0)) (by (with_reducible repeat (first | refine zz6 ?_ _ | refine zz7 ?_ | refine zz8 ?_ _));exact BK359.out) hb);have n2_:=zz31 (zz4 (by repeat first | exact HB.out | apply zz2 | apply zz0 | apply zz1 | refine zz3 ?_ GE358.out | refine zz3 ?_ GE359.out) hb);clear BK358;clear BK359;clear HB;have BK358:=n0_;have BK359:=n1_;have HB:=n2_;clear n0_ n1_ n2_;(try clear hb);(try clear hb2);(try clear hk);(try clear hi);have hcz12_0:w11.cell? ⟨gb359,0,none⟩=some (.int .i64 a1_0):=(zz9 BK359.out 0).trans rfl;have hcz12_1:w11.cell? ⟨gb359,1,none⟩=some (.slice A1_1 l1_1.length c1_1):=(zz9 BK359.out 1).trans rfl;have hfz12_0:=zz10 BK359.out 0;have hfz12_1:=zz10 BK359.out 1) | (go_at_call 34;(with_reducible refine (impl_areRenamed.calls k a1_0 _ _ l1_1 t361 _ ?side1 ?side2 A8.out).mono ?_);(case side1=>repeat (first | exact (Kd.C_below HR1_1.out HB.out) | (with_reducible refine zz18 ?_ _) | (with_reducible refine zz19 ?_ _) | (with_reducible refine zz20 ?_)));(case side2=>exact HC1_1.out);rintro e w13 ⟨rfl,hb⟩;have n0_:=zz31 (zz11 (g:=gb358) (o:=.cells #[.int .i64 a0_0,.slice A0_1 l0_1.length c0_1] 30 (0,0)) (by (with_reducible repeat (first | refine zz6 ?_ _ | refine zz7 ?_ | refine zz8 ?_ _));exact BK358.out) hb);have n1_:=zz31 (zz11 (g:=gb359) (o:=.cells #[.int .i64 a1_0,.slice A1_1 l1_1.length c1_1] 30 (0,0)) (by (with_reducible repeat (first | refine zz6 ?_ _ | refine zz7 ?_ | refine zz8 ?_ _));exact BK359.out) hb);have n2_:=zz31 (zz4 (by repeat first | exact HB.out | apply zz2 | apply zz0 | apply zz1 | refine zz3 ?_ GE358.out | refine zz3 ?_ GE359.out) hb);clear BK358;clear BK359;clear HB;have BK358:=n0_;have BK359:=n1_;have HB:=n2_;clear n0_ n1_ n2_;(try clear hb);(try clear hb2);(try clear hk);(try clear hi)));try go_wp2_with (first | (go_at_call 34;(with_reducible refine (impl_areRenamed.calls k a0_0 _ _ l0_1 true _ ?side1 ?side2 A6.out).mono ?_);(case side1=>repeat (first | exact (Kd.C_below HR0_1.out HB.out) | (with_reducible refine zz18 ?_ _) | (with_reducible refine zz19 ?_ _) | (with_reducible refine zz20 ?_)));(case side2=>exact HC0_1.out);rintro e w11 ⟨rfl,hb⟩;have n0_:=zz31 (zz11 (g:=gb358) (o:=.cells #[.int .i64 a0_0,.slice A0_1 l0_1.length c0_1] 30 (0,0)) (by (with_reducible repeat (first | refine zz6 ?_ _ | refine zz7 ?_ | refine zz8 ?_ _));exact BK358.out) hb);have n1_:=zz31 (zz11 (g:=gb359) (o:=.cells #[.int .i64 a1_0,.slice A1_1 l1_1.length c1_1] 30 (0,0)) (by (with_reducible repeat (first | refine zz6 ?_ _ | refine zz7 ?_ | refine zz8 ?_ _));exact BK359.out) hb);have n2_:=zz31 (zz4 (by repeat first | exact HB.out | apply zz2 | apply zz0 | apply zz1 | refine zz3 ?_ GE358.out | refine zz3 ?_ GE359.out) hb);clear BK358;clear BK359;clear HB;have BK358:=n0_;have BK359:=n1_;have HB:=n2_;clear n0_ n1_ n2_;(try clear hb);(try clear hb2);(try clear hk);(try clear hi);have hcz12_0:w11.cell? ⟨gb359,0,none⟩=some (.int .i64 a1_0):=(zz9 BK359.out 0).trans rfl;have hcz12_1:w11.cell? ⟨gb359,1,none⟩=some (.slice A1_1 l1_1.length c1_1):=(zz9 BK359.out 1).trans rfl;have hfz12_0:=zz10 BK359.out 0;have hfz12_1:=zz10 BK359.out 1) | (go_at_call 34;(with_reducible refine (impl_areRenamed.calls k a1_0 _ _ l1_1 t361 _ ?side1 ?side2 A8.out).mono ?_);(case side1=>repeat (first | exact (Kd.C_below HR1_1.out HB.out) | (with_reducible refine zz18 ?_ _) | (with_reducible refine zz19 ?_ _) | (with_reducible refine zz20 ?_)));(case side2=>exact HC1_1.out);rintro e w13 ⟨rfl,hb⟩;have n0_:=zz31 (zz11 (g:=gb358) (o:=.cells #[.int .i64 a0_0,.slice A0_1 l0_1.length c0_1] 30 (0,0)) (by (with_reducible repeat (first | refine zz6 ?_ _ | refine zz7 ?_ | refine zz8 ?_ _));exact BK358.out) hb);have n1_:=zz31 (zz11 (g:=gb359) (o:=.cells #[.int .i64 a1_0,.slice A1_1 l1_1.length c1_1] 30 (0,0)) (by (with_reducible repeat (first | refine zz6 ?_ _ | refine zz7 ?_ | refine zz8 ?_ _));exact BK359.out) hb);have n2_:=zz31 (zz4 (by repeat first | exact HB.out | apply zz2 | apply zz0 | apply zz1 | refine zz3 ?_ GE358.out | refine zz3 ?_ GE359.out) hb);clear BK358;clear BK359;clear HB;have BK358:=n0_;have BK359:=n1_;have HB:=n2_;clear n0_ n1_ n2_;(try clear hb);(try clear hb2);(try clear hk);(try clear hi))))
   go_meet
   case rel=>exact ⟨_,(!t361),(by first | rfl | (simp;done) | (simp [*];done)),H',⟨by first | omega | exact Nat.le_refl _⟩,⟨by (with_reducible repeat (first | refine zz6 ?_ _ | refine zz7 ?_ | refine zz8 ?_ _));exact BK358.out⟩,⟨by (with_reducible repeat (first | refine zz6 ?_ _ | refine zz7 ?_ | refine zz8 ?_ _));exact BK359.out⟩,⟨by repeat first | exact HB.out | apply zz2 | apply zz0 | apply zz1 | refine zz3 ?_ GE358.out | refine zz3 ?_ GE359.out⟩⟩
  ·replace c7:=Bool.eq_false_iff.mpr c7
   subst c7
   have H1:(impl_AreSame.j0 k true a0_0 l0_1 a1_0 l1_1)=some (r1,r2):=by rw [if_neg (show ¬ (false=true) by decide)] at H;exact H
   clear H
   have H:=H1
   clear H1
   have H':=zz31 H
   clear H
   have hnb14:=NB358_359.out
   have hnc14:=NB359_358.out
   have hcz15_0:w5.cell? ⟨gb358,0,none⟩=some (.int .i64 a0_0):=(zz9 BK358.out 0).trans rfl
   have hcz15_1:w5.cell? ⟨gb358,1,none⟩=some (.slice A0_1 l0_1.length c0_1):=(zz9 BK358.out 1).trans rfl
   have hfz15_0:=zz10 BK358.out 0
   have hfz15_1:=zz10 BK358.out 1
   go_wp2_with (first | (go_at_call 34;(with_reducible refine (impl_areRenamed.calls k a0_0 _ _ l0_1 false _ ?side1 ?side2 A6.out).mono ?_);(case side1=>repeat (first | exact (Kd.C_below HR0_1.out HB.out) | (with_reducible refine zz18 ?_ _) | (with_reducible refine zz19 ?_ _) | (with_reducible refine zz20 ?_)));(case side2=>exact HC0_1.out);rintro e w16 ⟨rfl,hb⟩;have n0_:=zz31 (zz11 (g:=gb358) (o:=.cells #[.int .i64 a0_0,.slice A0_1 l0_1.length c0_1] 30 (0,0)) (by (with_reducible repeat (first | refine zz6 ?_ _ | refine zz7 ?_ | refine zz8 ?_ _));exact BK358.out) hb);have n1_:=zz31 (zz11 (g:=gb359) (o:=.cells #[.int .i64 a1_0,.slice A1_1 l1_1.length c1_1] 30 (0,0)) (by (with_reducible repeat (first | refine zz6 ?_ _ | refine zz7 ?_ | refine zz8 ?_ _));exact BK359.out) hb);have n2_:=zz31 (zz4 (by repeat first | exact HB.out | apply zz2 | apply zz0 | apply zz1 | refine zz3 ?_ GE358.out | refine zz3 ?_ GE359.out) hb);clear BK358;clear BK359;clear HB;have BK358:=n0_;have BK359:=n1_;have HB:=n2_;clear n0_ n1_ n2_;(try clear hb);(try clear hb2);(try clear hk);(try clear hi)))
   repeat (go_quiet (first | (go_at_call 34;(with_reducible refine (impl_areRenamed.calls k a0_0 _ _ l0_1 false _ ?side1 ?side2 A6.out).mono ?_);(case side1=>repeat (first | exact (Kd.C_below HR0_1.out HB.out) | (with_reducible refine zz18 ?_ _) | (with_reducible refine zz19 ?_ _) | (with_reducible refine zz20 ?_)));(case side2=>exact HC0_1.out);rintro e w16 ⟨rfl,hb⟩;have n0_:=zz31 (zz11 (g:=gb358) (o:=.cells #[.int .i64 a0_0,.slice A0_1 l0_1.length c0_1] 30 (0,0)) (by (with_reducible repeat (first | refine zz6 ?_ _ | refine zz7 ?_ | refine zz8 ?_ _));exact BK358.out) hb);have n1_:=zz31 (zz11 (g:=gb359) (o:=.cells #[.int .i64 a1_0,.slice A1_1 l1_1.length c1_1] 30 (0,0)) (by (with_reducible repeat (first | refine zz6 ?_ _ | refine zz7 ?_ | refine zz8 ?_ _));exact BK359.out) hb);have n2_:=zz31 (zz4 (by repeat first | exact HB.out | apply zz2 | apply zz0 | apply zz1 | refine zz3 ?_ GE358.out | refine zz3 ?_ GE359.out) hb);clear BK358;clear BK359;clear HB;have BK358:=n0_;have BK359:=n1_;have HB:=n2_;clear n0_ n1_ n2_;(try clear hb);(try clear hb2);(try clear hk);(try clear hi)));try go_wp2_with (first | (go_at_call 34;(with_reducible refine (impl_areRenamed.calls k a0_0 _ _ l0_1 false _ ?side1 ?side2 A6.out).mono ?_);(case side1=>repeat (first | exact (Kd.C_below HR0_1.out HB.out) | (with_reducible refine zz18 ?_ _) | (with_reducible refine zz19 ?_ _) | (with_reducible refine zz20 ?_)));(case side2=>exact HC0_1.out);rintro e w16 ⟨rfl,hb⟩;have n0_:=zz31 (zz11 (g:=gb358) (o:=.cells #[.int .i64 a0_0,.slice A0_1 l0_1.length c0_1] 30 (0,0)) (by (with_reducible repeat (first | refine zz6 ?_ _ | refine zz7 ?_ | refine zz8 ?_ _));exact BK358.out) hb);have n1_:=zz31 (zz11 (g:=gb359) (o:=.cells #[.int .i64 a1_0,.slice A1_1 l1_1.length c1_1] 30 (0,0)) (by (with_reducible repeat (first | refine zz6 ?_ _ | refine zz7 ?_ | refine zz8 ?_ _));exact BK359.out) hb);have n2_:=zz31 (zz4 (by repeat first | exact HB.out | apply zz2 | apply zz0 | apply zz1 | refine zz3 ?_ GE358.out | refine zz3 ?_ GE359.out) hb);clear BK358;clear BK359;clear HB;have BK358:=n0_;have BK359:=n1_;have HB:=n2_;clear n0_ n1_ n2_;(try clear hb);(try clear hb2);(try clear hk);(try clear hi))))
   go_meet
   case rel=>exact ⟨_,(true),(by first | rfl | (simp;done) | (simp [*];done)),H',⟨by first | omega | exact Nat.le_refl _⟩,⟨by (with_reducible repeat (first | refine zz6 ?_ _ | refine zz7 ?_ | refine zz8 ?_ _));exact BK358.out⟩,⟨by (with_reducible repeat (first | refine zz6 ?_ _ | refine zz7 ?_ | refine zz8 ?_ _));exact BK359.out⟩,⟨by repeat first | exact HB.out | apply zz2 | apply zz0 | apply zz1 | refine zz3 ?_ GE358.out | refine zz3 ?_ GE359.out⟩⟩
 case rest =>
  clear HC3
  try clear c1
  try clear p2
  try clear c7
  try clear c9
  try clear c11
  try clear c14
  try clear hcz10_0
  try clear hcz10_1
  try clear hcz12_0
  try clear hcz12_1
  try clear hcz15_0
  try clear hcz15_1
  try clear hfz10_0
  try clear hfz10_1
  try clear hfz12_0
  try clear hfz12_1
  try clear hfz15_0
  try clear hfz15_1
  obtain ⟨kq,x13_2,rfl,HA,HJ2,BK358,BK359,HB⟩:=hcut
  cases kq with
  | zero=>exact absurd HA.out (by simp [impl_AreSame.j0])
  | succ kj2 =>
   have H:=HA.out
   clear HA
   simp only [impl_AreSame.j0] at H
   by_cases c17:x13_2=true
   ·subst c17
    have H1:(some (false,false))=some (r1,r2):=by rw [if_pos rfl] at H;exact H
    clear H
    have H:=H1
    clear H1
    simp only [Option.some.injEq,Prod.mk.injEq] at H
    obtain ⟨rfl,rfl⟩:=H
    go_wp2
    repeat (go_quiet (fail);try go_wp2)
    go_ret2
    exact ⟨by first | rfl | (simp [errW_none,errW_some] <;> rfl) | (simp [*,errW_none,errW_some] <;> rfl),by repeat first | exact HB.out | apply zz2 | apply zz0 | apply zz1 | refine zz3 ?_ GE358.out | refine zz3 ?_ GE359.out⟩
   ·replace c17:=Bool.eq_false_iff.mpr c17
    subst c17
    have H1:(if a0_0=a1_0 then (if (l0_1.length:Int)=(l1_1.length:Int) then ((impl_least.f kj2 a0_0 l0_1).bind fun bt362=>((impl_least.f kj2 a1_0 l1_1).bind fun bt366=>((impl_compareParties.f kj2 bt362.1 bt362.2 bt366.1 bt366.2).bind fun t370=>(some ((t370 == 0),true))))) else (some (false,true))) else (some (false,true)))=some (r1,r2):=by rw [if_neg (show ¬ (false=true) by decide)] at H;exact H
    clear H
    have H:=H1
    clear H1
    by_cases c18:a0_0=a1_0
    ·rw [if_pos c18] at H
     have c18b0:(a0_0 == a1_0)=true:=beq_iff_eq.mpr c18
     have c18b1:(a0_0 != a1_0)=false:=bne_eq_false_iff_eq.mpr c18
     clear c18
     by_cases c19:(l0_1.length:Int)=(l1_1.length:Int)
     ·rw [if_pos c19] at H
      have c19b0:((l0_1.length:Int) == (l1_1.length:Int))=true:=beq_iff_eq.mpr c19
      have c19b1:((l0_1.length:Int) != (l1_1.length:Int))=false:=bne_eq_false_iff_eq.mpr c19
      have c19b2:(l0_1.length == l1_1.length)=true:=by first | simpa using c19 | (simp at c19 ⊢;omega)
      clear c19
      replace H:=zz30.mp H
      obtain ⟨⟨t362,t363⟩,A200,H⟩:=H
      replace H:((impl_least.f kj2 a1_0 l1_1).bind fun bt366=>((impl_compareParties.f kj2 t362 t363 bt366.1 bt366.2).bind fun t370=>(some ((t370 == 0),true))))=some (r1,r2):=H
      have A20:=zz31 A200
      clear A200
      replace H:=zz30.mp H
      obtain ⟨⟨t366,t367⟩,A210,H⟩:=H
      replace H:((impl_compareParties.f kj2 t362 t363 t366 t367).bind fun t370=>(some ((t370 == 0),true)))=some (r1,r2):=H
      have A21:=zz31 A210
      clear A210
      replace H:=zz30.mp H
      obtain ⟨t370,A220,H⟩:=H
      replace H:(some ((t370 == 0),true))=some (r1,r2):=H
      have A22:=zz31 A220
      clear A220
      simp only [Option.some.injEq,Prod.mk.injEq] at H
      obtain ⟨rfl,rfl⟩:=H
      have hnb23:=NB358_359.out
      have hnc23:=NB359_358.out
      have hcz24_0:wc.cell? ⟨gb358,0,none⟩=some (.int .i64 a0_0):=(zz9 BK358.out 0).trans rfl
      have hcz24_1:wc.cell? ⟨gb358,1,none⟩=some (.slice A0_1 l0_1.length c0_1):=(zz9 BK358.out 1).trans rfl
      have hfz24_0:=zz10 BK358.out 0
      have hfz24_1:=zz10 BK358.out 1
      have hcz25_0:wc.cell? ⟨gb359,0,none⟩=some (.int .i64 a1_0):=(zz9 BK359.out 0).trans rfl
      have hcz25_1:wc.cell? ⟨gb359,1,none⟩=some (.slice A1_1 l1_1.length c1_1):=(zz9 BK359.out 1).trans rfl
      have hfz25_0:=zz10 BK359.out 0
      have hfz25_1:=zz10 BK359.out 1
      have HCA:=Aside0.mk (Kd.C_below HR0_1.out HB.out)
      have HCB:=Aside0.mk (Kd.C_below HR1_1.out HB.out)
      clear hcz24_0 hcz24_1 hcz25_0 hcz25_1 hfz24_0 hfz24_1 hfz25_0 hfz25_1
      have h0:=blk_cell (blk_drew BK358.out) 0;have h1:=blk_cell (blk_drew BK358.out) 1;have h2:=blk_cell (blk_drew BK359.out) 0;have h3:=blk_cell (blk_drew BK359.out) 1;simp only [List.getElem?_toArray,List.getElem?_cons_zero,List.getElem?_cons_succ] at h0 h1 h2 h3
      go_wp2
      go_region_law (first | (rw [if_pos (by rfl)];go_simp;go_at_call 36;(with_reducible refine (impl_least.calls kj2 a0_0 A0_1 c0_1 l0_1 t362 t363 _ ?q1 HC0_1.out A20.out).mono ?_);(case q1=>(repeat (first | exact HCA.out | (with_reducible refine Kd.C_drewN ?_ _) | (with_reducible refine Kd.C_drew ?_))));rintro e wA ⟨vA,rfl,ho,hb⟩;obtain ⟨AA,cA,rfl⟩:=Kd.R_slice ho;have HBA:=Aside0.mk (below_step (w:=wc) (by repeat (first | exact Below.refl _ _ | apply pw_below_drewN | apply below_drew | apply below_alloc)) hb);have HOA:=Aside0.mk (Kd.R_reads' ho).2.2;have HOAc:=Aside0.mk (Kd.R_reads' ho).2.1;have HPA:=Aside0.mk (blk_below BK358.out HBA.out);have HQA:=Aside0.mk (blk_below BK359.out HBA.out);have HCBA:=Aside0.mk (Kd.C_below HCB.out HBA.out);clear h0 h1 h2 h3;have h0:=blk_cell HPA.out 0;have h1:=blk_cell HPA.out 1;have h2:=blk_cell HQA.out 0;have h3:=blk_cell HQA.out 1;simp only [List.getElem?_toArray,List.getElem?_cons_zero,List.getElem?_cons_succ] at h0 h1 h2 h3;clear ho hb) | (rw [if_pos (by rfl)];go_simp;go_at_call 36;(with_reducible refine (impl_least.calls kj2 a1_0 A1_1 c1_1 l1_1 t366 t367 _ ?q1 HC1_1.out A21.out).mono ?_);(case q1=>(repeat (first | exact HCBA.out | (with_reducible refine Kd.C_drewN ?_ _) | (with_reducible refine Kd.C_drew ?_))));rintro e wB ⟨vB,rfl,ho,hb⟩;obtain ⟨AB,cB,rfl⟩:=Kd.R_slice ho;have HBB:=Aside0.mk (below_step (w:=wA) (by repeat (first | exact Below.refl _ _ | apply pw_below_drewN | apply below_drew | apply below_alloc)) hb);have HOB:=Aside0.mk (Kd.R_reads' ho).2.2;have HOBc:=Aside0.mk (Kd.R_reads' ho).2.1;have HOA2:=Aside0.mk (Kd.C_below HOA.out HBB.out);clear h0 h1 h2 h3;clear ho hb) | (rw [if_pos (by rfl)];go_simp;go_at_call 35;(with_reducible refine (impl_compareParties.calls kj2 t362 AA cA t363 t366 AB cB t367 t370 _ ?q1 HOAc.out ?q2 HOBc.out A22.out).mono ?_);(case q1=>(repeat (first | exact HOA2.out | (with_reducible refine Kd.C_drewN ?_ _) | (with_reducible refine Kd.C_drew ?_))));(case q2=>(repeat (first | exact HOB.out | (with_reducible refine Kd.C_drewN ?_ _) | (with_reducible refine Kd.C_drew ?_))));rintro e wC ⟨rfl,hb⟩;have HBC:=Aside0.mk (below_step (w:=wB) (by repeat (first | exact Below.refl _ _ | apply pw_below_drewN | apply below_drew | apply below_alloc)) hb);clear hb) | (fail "no arm"))
      all_goals
       (simp only [Act.put]);(try go_simp);go_wp2;go_ret2
       exact ⟨by first | rfl | (simp [*]),((HB.out.trans (HBA.out.mono HB.out.size)).trans (HBB.out.mono (HB.out.trans (HBA.out.mono HB.out.size)).size)).trans (HBC.out.mono ((HB.out.trans (HBA.out.mono HB.out.size)).trans (HBB.out.mono (HB.out.trans (HBA.out.mono HB.out.size)).size)).size)⟩
     ·rw [if_neg c19] at H
      have c19b0:((l0_1.length:Int) == (l1_1.length:Int))=false:=beq_eq_false_iff_ne.mpr c19
      have c19b1:((l0_1.length:Int) != (l1_1.length:Int))=true:=bne_iff_ne.mpr c19
      have c19b2:(l0_1.length == l1_1.length)=false:=by first | simpa using c19 | (simp at c19 ⊢;omega)
      simp only [Option.some.injEq,Prod.mk.injEq] at H
      obtain ⟨rfl,rfl⟩:=H
      have hnb32:=NB358_359.out
      have hnc32:=NB359_358.out
      have hcz33_0:wc.cell? ⟨gb358,0,none⟩=some (.int .i64 a0_0):=(zz9 BK358.out 0).trans rfl
      have hcz33_1:wc.cell? ⟨gb358,1,none⟩=some (.slice A0_1 l0_1.length c0_1):=(zz9 BK358.out 1).trans rfl
      have hfz33_0:=zz10 BK358.out 0
      have hfz33_1:=zz10 BK358.out 1
      have hcz34_0:wc.cell? ⟨gb359,0,none⟩=some (.int .i64 a1_0):=(zz9 BK359.out 0).trans rfl
      have hcz34_1:wc.cell? ⟨gb359,1,none⟩=some (.slice A1_1 l1_1.length c1_1):=(zz9 BK359.out 1).trans rfl
      have hfz34_0:=zz10 BK359.out 0
      have hfz34_1:=zz10 BK359.out 1
      go_wp2
      repeat (go_quiet (fail);try go_wp2)
      go_ret2
      exact ⟨by first | rfl | (simp [errW_none,errW_some] <;> rfl) | (simp [*,errW_none,errW_some] <;> rfl),by repeat first | exact HB.out | apply zz2 | apply zz0 | apply zz1 | refine zz3 ?_ GE358.out | refine zz3 ?_ GE359.out⟩
    ·rw [if_neg c18] at H
     have c18b0:(a0_0 == a1_0)=false:=beq_eq_false_iff_ne.mpr c18
     have c18b1:(a0_0 != a1_0)=true:=bne_iff_ne.mpr c18
     simp only [Option.some.injEq,Prod.mk.injEq] at H
     obtain ⟨rfl,rfl⟩:=H
     have hnb35:=NB358_359.out
     have hnc35:=NB359_358.out
     have hcz36_0:wc.cell? ⟨gb358,0,none⟩=some (.int .i64 a0_0):=(zz9 BK358.out 0).trans rfl
     have hcz36_1:wc.cell? ⟨gb358,1,none⟩=some (.slice A0_1 l0_1.length c0_1):=(zz9 BK358.out 1).trans rfl
     have hfz36_0:=zz10 BK358.out 0
     have hfz36_1:=zz10 BK358.out 1
     have hcz37_0:wc.cell? ⟨gb359,0,none⟩=some (.int .i64 a1_0):=(zz9 BK359.out 0).trans rfl
     have hcz37_1:wc.cell? ⟨gb359,1,none⟩=some (.slice A1_1 l1_1.length c1_1):=(zz9 BK359.out 1).trans rfl
     have hfz37_0:=zz10 BK359.out 0
     have hfz37_1:=zz10 BK359.out 1
     go_wp2
     repeat (go_quiet (fail);try go_wp2)
     go_ret2
     exact ⟨by first | rfl | (simp [errW_none,errW_some] <;> rfl) | (simp [*,errW_none,errW_some] <;> rfl),by repeat first | exact HB.out | apply zz2 | apply zz0 | apply zz1 | refine zz3 ?_ GE358.out | refine zz3 ?_ GE359.out⟩

/-! ### laws_FnExactAreSame: function 3 -/
def laws_FnExactAreSame.j0:Nat→Bool→Int→List (S86)→Int→List (S86)→Int→List (S70)→Int→List (S70)→Option (Bool)
 | 0,_,_,_,_,_,_,_,_,_=>none
 | k+1,x47,x372000,x372001,x373000,x373001,x390000,x390001,x395000,x395001=>if x47=true then (some false) else ((laws_toParty.f k x372000 x372001).bind fun bt397=>((laws_eqParty.f k x390000 x390001 bt397.1 bt397.2).bind fun t401=>(if t401=true then ((laws_toParty.f k x373000 x373001).bind fun bt402=>((laws_eqParty.f k x395000 x395001 bt402.1 bt402.2).bind fun t406=>(if t406=true then (some true) else (some false)))) else (some false))))
def laws_FnExactAreSame.f (k:Nat) (a0_0:Int) (l0_1:List (S86)) (a1_0:Int) (l1_1:List (S86)):Option (Bool):=(laws_szParty.f a0_0 l0_1 1048576).bind fun t373=>(if t373 < 0 then (some true) else ((laws_szParty.f a1_0 l1_1 t373).bind fun t374=>(if t374 < 0 then (some true) else ((laws_toParty.f k a0_0 l0_1).bind fun bt375=>((laws_toParty.f k a1_0 l1_1).bind fun bt379=>((spec_AreSame.f k bt375.1 bt375.2 bt379.1 bt379.2).bind fun bt383=>((laws_toParty.f k a0_0 l0_1).bind fun bt385=>((laws_toParty.f k a1_0 l1_1).bind fun bt390=>((impl_AreSame.f k bt385.1 bt385.2 bt390.1 bt390.2).bind fun bt395=>(if (bt395.1 != bt383.1)=true then (laws_FnExactAreSame.j0 k true a0_0 l0_1 a1_0 l1_1 bt385.1 bt385.2 bt390.1 bt390.2) else (laws_FnExactAreSame.j0 k (bt395.2 != bt383.2) a0_0 l0_1 a1_0 l1_1 bt385.1 bt385.2 bt390.1 bt390.2)))))))))))
theorem laws_FnExactAreSame.mono_l:∀ k,(∀ y0 y1 y2 y3 y4 y5 y6 y7 y8,LeO (laws_FnExactAreSame.j0 k y0 y1 y2 y3 y4 y5 y6 y7 y8) (laws_FnExactAreSame.j0 (k+1) y0 y1 y2 y3 y4 y5 y6 y7 y8))
 | 0=>fun _ _ _ _ _ _ _ _ _ r h=>by simp [laws_FnExactAreSame.j0] at h
 | k+1=>by
  have ih0:=laws_FnExactAreSame.mono_l k
  ·intro y0 y1 y2 y3 y4 y5 y6 y7 y8
   unfold laws_FnExactAreSame.j0
   repeat' first
   | (with_reducible exact ih0 _ _ _ _ _ _ _ _ _)
   | (with_reducible exact impl_AreSame.mono _ _ _ _ _)
   | (with_reducible exact laws_eqParty.mono _ _ _ _ _)
   | (with_reducible exact laws_toParty.mono _ _ _)
   | (with_reducible exact spec_AreSame.mono _ _ _ _ _)
   | (with_reducible exact LeO.refl _)
   | (with_reducible exact LeO.none _)
   | (with_reducible refine LeO.ite ?_ ?_)
   | (with_reducible refine LeO.bind ?_ (fun _=>?_))
   | exact ih0 _ _ _ _ _ _ _ _ _
   | exact impl_AreSame.mono _ _ _ _ _
   | exact laws_eqParty.mono _ _ _ _ _
   | exact laws_toParty.mono _ _ _
   | exact spec_AreSame.mono _ _ _ _ _
   | exact LeO.none _
   | refine LeO.ite ?_ ?_
   | refine LeO.bind ?_ (fun _=>?_)
theorem laws_FnExactAreSame.mono:∀ a0 a1 a2 a3 k,LeO (laws_FnExactAreSame.f k a0 a1 a2 a3) (laws_FnExactAreSame.f (k+1) a0 a1 a2 a3):=by
 intro a0 a1 a2 a3 k
 have ih0:=laws_FnExactAreSame.mono_l k
 unfold laws_FnExactAreSame.f
 repeat' first
   | (with_reducible exact ih0 _ _ _ _ _ _ _ _ _)
   | (with_reducible exact impl_AreSame.mono _ _ _ _ _)
   | (with_reducible exact laws_eqParty.mono _ _ _ _ _)
   | (with_reducible exact laws_toParty.mono _ _ _)
   | (with_reducible exact spec_AreSame.mono _ _ _ _ _)
   | (with_reducible exact LeO.refl _)
   | (with_reducible exact LeO.none _)
   | (with_reducible refine LeO.ite ?_ ?_)
   | (with_reducible refine LeO.bind ?_ (fun _=>?_))
   | exact ih0 _ _ _ _ _ _ _ _ _
   | exact impl_AreSame.mono _ _ _ _ _
   | exact laws_eqParty.mono _ _ _ _ _
   | exact laws_toParty.mono _ _ _
   | exact spec_AreSame.mono _ _ _ _ _
   | exact LeO.none _
   | refine LeO.ite ?_ ?_
   | refine LeO.bind ?_ (fun _=>?_)
def laws_FnExactAreSame.T8:Bool × List (List Nat × List Nat):=(true,[([],[]),([0],[0]),([],[]),([2,1],[2]),([1,3,3],[1,3]),([4],[4]),([5],[5]),([5],[5]),([6,4,0,1,2,3,4,5,6],[6]),([7,8,0,1,2,3,4,5,6,7,8],[7])])
def laws_FnExactAreSame.B8:List Nat:=[0,1,0,7,15,31,63,63,127,511]
theorem laws_FnExactAreSame.tab8:rtab .any (opsOf Try.f3 8)=laws_FnExactAreSame.T8:=by kernel_rfl
theorem laws_FnExactAreSame.bits8:waitsOk laws_FnExactAreSame.T8.2 laws_FnExactAreSame.B8=true:=by kernel_rfl
set_option maxHeartbeats 8000000 in
set_option maxRecDepth 100000 in
theorem laws_FnExactAreSame.calls (k:Nat) (a0_0:Int) (A0_1:Option Addr) (c0_1:Nat) (l0_1:List (S86)) (a1_0:Int) (A1_1:Option Addr) (c1_1:Nat) (l1_1:List (S86)) (r:Bool) (w:World) (hr0_1:Kd.C k86 w A0_1 l0_1.length l0_1) (hc0_1:l0_1.length≤c0_1) (hr1_1:Kd.C k86 w A1_1 l1_1.length l1_1) (hc1_1:l1_1.length≤c1_1) (h:laws_FnExactAreSame.f k a0_0 l0_1 a1_0 l1_1=some r) :
  Calls Try.prog 3 #[.agg #[.int .i64 a0_0,.slice A0_1 l0_1.length c0_1],.agg #[.int .i64 a1_0,.slice A1_1 l1_1.length c1_1]] w fun e w'=>e=.returned (.bool r)∧Below w.heap.size w w':=by
 have hu24:=Try.underlying24
 have hu30:=Try.underlying30
 have HR0_1:=zz31 hr0_1
 have HC0_1:=zz31 hc0_1
 clear hr0_1 hc0_1
 have HR1_1:=zz31 hr1_1
 have HC1_1:=zz31 hc1_1
 clear hr1_1 hc1_1
 have HB:=zz31 (Below.refl w.heap.size w)
 have H:((laws_szParty.f a0_0 l0_1 1048576).bind fun t373=>(if t373 < 0 then (some true) else ((laws_szParty.f a1_0 l1_1 t373).bind fun t374=>(if t374 < 0 then (some true) else ((laws_toParty.f k a0_0 l0_1).bind fun bt375=>((laws_toParty.f k a1_0 l1_1).bind fun bt379=>((spec_AreSame.f k bt375.1 bt375.2 bt379.1 bt379.2).bind fun bt383=>((laws_toParty.f k a0_0 l0_1).bind fun bt385=>((laws_toParty.f k a1_0 l1_1).bind fun bt390=>((impl_AreSame.f k bt385.1 bt385.2 bt390.1 bt390.2).bind fun bt395=>(if (bt395.1 != bt383.1)=true then (laws_FnExactAreSame.j0 k true a0_0 l0_1 a1_0 l1_1 bt385.1 bt385.2 bt390.1 bt390.2) else (laws_FnExactAreSame.j0 k (bt395.2 != bt383.2) a0_0 l0_1 a1_0 l1_1 bt385.1 bt385.2 bt390.1 bt390.2))))))))))))=some r:=h
 clear h
 replace H:=zz30.mp H
 obtain ⟨t373,A30,H⟩:=H
 replace H:(if t373 < 0 then (some true) else ((laws_szParty.f a1_0 l1_1 t373).bind fun t374=>(if t374 < 0 then (some true) else ((laws_toParty.f k a0_0 l0_1).bind fun bt375=>((laws_toParty.f k a1_0 l1_1).bind fun bt379=>((spec_AreSame.f k bt375.1 bt375.2 bt379.1 bt379.2).bind fun bt383=>((laws_toParty.f k a0_0 l0_1).bind fun bt385=>((laws_toParty.f k a1_0 l1_1).bind fun bt390=>((impl_AreSame.f k bt385.1 bt385.2 bt390.1 bt390.2).bind fun bt395=>(if (bt395.1 != bt383.1)=true then (laws_FnExactAreSame.j0 k true a0_0 l0_1 a1_0 l1_1 bt385.1 bt385.2 bt390.1 bt390.2) else (laws_FnExactAreSame.j0 k (bt395.2 != bt383.2) a0_0 l0_1 a1_0 l1_1 bt385.1 bt385.2 bt390.1 bt390.2)))))))))))=some r:=H
 have A3:=zz31 A30
 clear A30
 by_cases c4:t373 < 0
 ·rw [if_pos c4] at H
  have c4b0:decide (t373 < 0)=true:=decide_eq_true c4
  clear c4
  obtain rfl:=Option.some.inj H
  go_enter Try.func3,Try.ntmps3
  go_wp2_with (first | ((with_reducible refine gate_dst (N:=2) rfl ?_);refine box_event ?hg (N:=2) ?hd (cs:=#[.int .i64 a0_0,.slice A0_1 l0_1.length c0_1]) (t:=24) ?hr ?_;(case hd=>rfl);(case hg=>rfl);(case hr=>first | (go_simp;done) | (go_simp;rfl));intro gb371 hg w5 hbox hb;have n0_:=zz31 (zz4 (by repeat first | exact HB.out | apply zz2 | apply zz0 | apply zz1) hb);have n1_:=zz31 (hbox);have n2_:=zz31 ((by rw [hg];exact (zz5 (by repeat first | exact HB.out | apply zz2 | apply zz0 | apply zz1)):w.heap.size≤gb371));have n3_:=zz31 ((by rw [hg];exact (zz5 (by repeat first | exact HB.out | apply zz2 | apply zz0 | apply zz1)):w.heap.size≤gb371));clear HB;have HB:=n0_;have BK371:=n1_;have GW371:=n2_;have GE371:=n3_;clear n0_ n1_ n2_ n3_;clear hb hbox hg) | ((with_reducible refine gate_dst (N:=3) rfl ?_);refine box_event ?hg (N:=3) ?hd (cs:=#[.int .i64 a1_0,.slice A1_1 l1_1.length c1_1]) (t:=24) ?hr ?_;(case hd=>rfl);(case hg=>rfl);(case hr=>first | (go_simp;done) | (go_simp;rfl));intro gb372 hg w6 hbox hb;have n0_:=zz31 (zz11 (g:=gb371) (o:=.cells #[.int .i64 a0_0,.slice A0_1 l0_1.length c0_1] 24 (0,0)) (by (with_reducible repeat (first | refine zz6 ?_ _ | refine zz7 ?_ | refine zz8 ?_ _));exact BK371.out) hb);have n1_:=zz31 (zz4 (by repeat first | exact HB.out | apply zz2 | apply zz0 | apply zz1 | refine zz3 ?_ GE371.out) hb);have n2_:=zz31 (hbox);have n3_:=zz31 ((by rw [hg];exact (zz5 (by repeat first | exact HB.out | apply zz2 | apply zz0 | apply zz1 | refine zz3 ?_ GE371.out)):w.heap.size≤gb372));have n4_:=zz31 ((by rw [hg];exact (zz5 (by repeat first | exact HB.out | apply zz2 | apply zz0 | apply zz1 | refine zz3 ?_ GE371.out)):w.heap.size≤gb372));have n5_:=zz31 ((by rw [hg];exact Nat.ne_of_lt (blk_lt (g:=gb371) (o:=.cells #[.int .i64 a0_0,.slice A0_1 l0_1.length c0_1] 24 (0,0)) (by (with_reducible repeat (first | refine zz6 ?_ _ | refine zz7 ?_ | refine zz8 ?_ _));exact BK371.out)):gb371 ≠ gb372));have n6_:=zz31 ((by rw [hg];exact Nat.ne_of_gt (blk_lt (g:=gb371) (o:=.cells #[.int .i64 a0_0,.slice A0_1 l0_1.length c0_1] 24 (0,0)) (by (with_reducible repeat (first | refine zz6 ?_ _ | refine zz7 ?_ | refine zz8 ?_ _));exact BK371.out)):gb372 ≠ gb371));clear BK371;clear HB;have BK371:=n0_;have HB:=n1_;have BK372:=n2_;have GW372:=n3_;have GE372:=n4_;have NB371_372:=n5_;have NB372_371:=n6_;clear n0_ n1_ n2_ n3_ n4_ n5_ n6_;clear hb hbox hg;have hnb7:=NB371_372.out;have hnc7:=NB372_371.out;have hcz8_0:w6.cell? ⟨gb371,0,none⟩=some (.int .i64 a0_0):=(zz9 BK371.out 0).trans rfl;have hcz8_1:w6.cell? ⟨gb371,1,none⟩=some (.slice A0_1 l0_1.length c0_1):=(zz9 BK371.out 1).trans rfl;have hfz8_0:=zz10 BK371.out 0;have hfz8_1:=zz10 BK371.out 1) | ((with_reducible refine gate_callee (f:=8) rfl ?_);refine goesL_ (some 14) rfl rfl Try.func8 (by kernel_rfl) rfl #[.agg #[.int .i64 a0_0,.slice A0_1 l0_1.length c0_1],.int .i64 1048576] rfl (by (try simp only [zz26,zz27,zz28]);first | done | rfl | (simp only [zz24,zz25];rfl)) ?_;(with_reducible refine (laws_szParty.calls a0_0 _ _ l0_1 1048576 t373 _ ?side1 ?side2 A3.out).mono ?_);(case side1=>repeat (first | exact (Kd.C_below HR0_1.out HB.out) | (with_reducible refine zz18 ?_ _) | (with_reducible refine zz19 ?_ _) | (with_reducible refine zz20 ?_)));(case side2=>exact HC0_1.out);rintro e w9 ⟨rfl,hb⟩;refine ⟨_,rfl,?_⟩;have n0_:=zz31 (zz11 (g:=gb371) (o:=.cells #[.int .i64 a0_0,.slice A0_1 l0_1.length c0_1] 24 (0,0)) (by (with_reducible repeat (first | refine zz6 ?_ _ | refine zz7 ?_ | refine zz8 ?_ _));exact BK371.out) hb);have n1_:=zz31 (zz11 (g:=gb372) (o:=.cells #[.int .i64 a1_0,.slice A1_1 l1_1.length c1_1] 24 (0,0)) (by (with_reducible repeat (first | refine zz6 ?_ _ | refine zz7 ?_ | refine zz8 ?_ _));exact BK372.out) hb);have n2_:=zz31 (zz4 (by repeat first | exact HB.out | apply zz2 | apply zz0 | apply zz1 | refine zz3 ?_ GE371.out | refine zz3 ?_ GE372.out) hb);clear BK371;clear BK372;clear HB;have BK371:=n0_;have BK372:=n1_;have HB:=n2_;clear n0_ n1_ n2_;(try clear hb);(try clear hb2);(try clear hk);(try clear hi)))
  go_ret
  exact ⟨by first | rfl | (simp [errW_none,errW_some] <;> rfl) | (simp [*,errW_none,errW_some] <;> rfl),by repeat first | exact HB.out | apply zz2 | apply zz0 | apply zz1 | refine zz3 ?_ GE371.out | refine zz3 ?_ GE372.out⟩
 ·rw [if_neg c4] at H
  have c4b0:decide (t373 < 0)=false:=decide_eq_false c4
  clear c4
  replace H:=zz30.mp H
  obtain ⟨t374,A100,H⟩:=H
  replace H:(if t374 < 0 then (some true) else ((laws_toParty.f k a0_0 l0_1).bind fun bt375=>((laws_toParty.f k a1_0 l1_1).bind fun bt379=>((spec_AreSame.f k bt375.1 bt375.2 bt379.1 bt379.2).bind fun bt383=>((laws_toParty.f k a0_0 l0_1).bind fun bt385=>((laws_toParty.f k a1_0 l1_1).bind fun bt390=>((impl_AreSame.f k bt385.1 bt385.2 bt390.1 bt390.2).bind fun bt395=>(if (bt395.1 != bt383.1)=true then (laws_FnExactAreSame.j0 k true a0_0 l0_1 a1_0 l1_1 bt385.1 bt385.2 bt390.1 bt390.2) else (laws_FnExactAreSame.j0 k (bt395.2 != bt383.2) a0_0 l0_1 a1_0 l1_1 bt385.1 bt385.2 bt390.1 bt390.2)))))))))=some r:=H
  have A10:=zz31 A100
  clear A100
  by_cases c11:t374 < 0
  ·rw [if_pos c11] at H
   have c11b0:decide (t374 < 0)=true:=decide_eq_true c11
   clear c11
   obtain rfl:=Option.some.inj H
   go_enter Try.func3,Try.ntmps3
   go_wp2_with (first | ((with_reducible refine gate_dst (N:=2) rfl ?_);refine box_event ?hg (N:=2) ?hd (cs:=#[.int .i64 a0_0,.slice A0_1 l0_1.length c0_1]) (t:=24) ?hr ?_;(case hd=>rfl);(case hg=>rfl);(case hr=>first | (go_simp;done) | (go_simp;rfl));intro gb371 hg w12 hbox hb;have n0_:=zz31 (zz4 (by repeat first | exact HB.out | apply zz2 | apply zz0 | apply zz1) hb);have n1_:=zz31 (hbox);have n2_:=zz31 ((by rw [hg];exact (zz5 (by repeat first | exact HB.out | apply zz2 | apply zz0 | apply zz1)):w.heap.size≤gb371));have n3_:=zz31 ((by rw [hg];exact (zz5 (by repeat first | exact HB.out | apply zz2 | apply zz0 | apply zz1)):w.heap.size≤gb371));clear HB;have HB:=n0_;have BK371:=n1_;have GW371:=n2_;have GE371:=n3_;clear n0_ n1_ n2_ n3_;clear hb hbox hg) | ((with_reducible refine gate_dst (N:=3) rfl ?_);refine box_event ?hg (N:=3) ?hd (cs:=#[.int .i64 a1_0,.slice A1_1 l1_1.length c1_1]) (t:=24) ?hr ?_;(case hd=>rfl);(case hg=>rfl);(case hr=>first | (go_simp;done) | (go_simp;rfl));intro gb372 hg w13 hbox hb;have n0_:=zz31 (zz11 (g:=gb371) (o:=.cells #[.int .i64 a0_0,.slice A0_1 l0_1.length c0_1] 24 (0,0)) (by (with_reducible repeat (first | refine zz6 ?_ _ | refine zz7 ?_ | refine zz8 ?_ _));exact BK371.out) hb);have n1_:=zz31 (zz4 (by repeat first | exact HB.out | apply zz2 | apply zz0 | apply zz1 | refine zz3 ?_ GE371.out) hb);have n2_:=zz31 (hbox);have n3_:=zz31 ((by rw [hg];exact (zz5 (by repeat first | exact HB.out | apply zz2 | apply zz0 | apply zz1 | refine zz3 ?_ GE371.out)):w.heap.size≤gb372));have n4_:=zz31 ((by rw [hg];exact (zz5 (by repeat first | exact HB.out | apply zz2 | apply zz0 | apply zz1 | refine zz3 ?_ GE371.out)):w.heap.size≤gb372));have n5_:=zz31 ((by rw [hg];exact Nat.ne_of_lt (blk_lt (g:=gb371) (o:=.cells #[.int .i64 a0_0,.slice A0_1 l0_1.length c0_1] 24 (0,0)) (by (with_reducible repeat (first | refine zz6 ?_ _ | refine zz7 ?_ | refine zz8 ?_ _));exact BK371.out)):gb371 ≠ gb372));have n6_:=zz31 ((by rw [hg];exact Nat.ne_of_gt (blk_lt (g:=gb371) (o:=.cells #[.int .i64 a0_0,.slice A0_1 l0_1.length c0_1] 24 (0,0)) (by (with_reducible repeat (first | refine zz6 ?_ _ | refine zz7 ?_ | refine zz8 ?_ _));exact BK371.out)):gb372 ≠ gb371));clear BK371;clear HB;have BK371:=n0_;have HB:=n1_;have BK372:=n2_;have GW372:=n3_;have GE372:=n4_;have NB371_372:=n5_;have NB372_371:=n6_;clear n0_ n1_ n2_ n3_ n4_ n5_ n6_;clear hb hbox hg;have hnb14:=NB371_372.out;have hnc14:=NB372_371.out;have hcz15_0:w13.cell? ⟨gb371,0,none⟩=some (.int .i64 a0_0):=(zz9 BK371.out 0).trans rfl;have hcz15_1:w13.cell? ⟨gb371,1,none⟩=some (.slice A0_1 l0_1.length c0_1):=(zz9 BK371.out 1).trans rfl;have hfz15_0:=zz10 BK371.out 0;have hfz15_1:=zz10 BK371.out 1) | ((with_reducible refine gate_callee (f:=8) rfl ?_);refine goesL_ (some 14) rfl rfl Try.func8 (by kernel_rfl) rfl #[.agg #[.int .i64 a0_0,.slice A0_1 l0_1.length c0_1],.int .i64 1048576] rfl (by (try simp only [zz26,zz27,zz28]);first | done | rfl | (simp only [zz24,zz25];rfl)) ?_;(with_reducible refine (laws_szParty.calls a0_0 _ _ l0_1 1048576 t373 _ ?side1 ?side2 A3.out).mono ?_);(case side1=>repeat (first | exact (Kd.C_below HR0_1.out HB.out) | (with_reducible refine zz18 ?_ _) | (with_reducible refine zz19 ?_ _) | (with_reducible refine zz20 ?_)));(case side2=>exact HC0_1.out);rintro e w16 ⟨rfl,hb⟩;refine ⟨_,rfl,?_⟩;have n0_:=zz31 (zz11 (g:=gb371) (o:=.cells #[.int .i64 a0_0,.slice A0_1 l0_1.length c0_1] 24 (0,0)) (by (with_reducible repeat (first | refine zz6 ?_ _ | refine zz7 ?_ | refine zz8 ?_ _));exact BK371.out) hb);have n1_:=zz31 (zz11 (g:=gb372) (o:=.cells #[.int .i64 a1_0,.slice A1_1 l1_1.length c1_1] 24 (0,0)) (by (with_reducible repeat (first | refine zz6 ?_ _ | refine zz7 ?_ | refine zz8 ?_ _));exact BK372.out) hb);have n2_:=zz31 (zz4 (by repeat first | exact HB.out | apply zz2 | apply zz0 | apply zz1 | refine zz3 ?_ GE371.out | refine zz3 ?_ GE372.out) hb);clear BK371;clear BK372;clear HB;have BK371:=n0_;have BK372:=n1_;have HB:=n2_;clear n0_ n1_ n2_;(try clear hb);(try clear hb2);(try clear hk);(try clear hi);have hcz17_0:w16.cell? ⟨gb372,0,none⟩=some (.int .i64 a1_0):=(zz9 BK372.out 0).trans rfl;have hcz17_1:w16.cell? ⟨gb372,1,none⟩=some (.slice A1_1 l1_1.length c1_1):=(zz9 BK372.out 1).trans rfl;have hfz17_0:=zz10 BK372.out 0;have hfz17_1:=zz10 BK372.out 1) | ((with_reducible refine gate_callee (f:=8) rfl ?_);refine goesL_ (some 19) rfl rfl Try.func8 (by kernel_rfl) rfl #[.agg #[.int .i64 a1_0,.slice A1_1 l1_1.length c1_1],.int .i64 t373] rfl (by (try simp only [zz26,zz27,zz28]);first | done | rfl | (simp only [zz24,zz25];rfl)) ?_;(with_reducible refine (laws_szParty.calls a1_0 _ _ l1_1 t373 t374 _ ?side1 ?side2 A10.out).mono ?_);(case side1=>repeat (first | exact (Kd.C_below HR1_1.out HB.out) | (with_reducible refine zz18 ?_ _) | (with_reducible refine zz19 ?_ _) | (with_reducible refine zz20 ?_)));(case side2=>exact HC1_1.out);rintro e w18 ⟨rfl,hb⟩;refine ⟨_,rfl,?_⟩;have n0_:=zz31 (zz11 (g:=gb371) (o:=.cells #[.int .i64 a0_0,.slice A0_1 l0_1.length c0_1] 24 (0,0)) (by (with_reducible repeat (first | refine zz6 ?_ _ | refine zz7 ?_ | refine zz8 ?_ _));exact BK371.out) hb);have n1_:=zz31 (zz11 (g:=gb372) (o:=.cells #[.int .i64 a1_0,.slice A1_1 l1_1.length c1_1] 24 (0,0)) (by (with_reducible repeat (first | refine zz6 ?_ _ | refine zz7 ?_ | refine zz8 ?_ _));exact BK372.out) hb);have n2_:=zz31 (zz4 (by repeat first | exact HB.out | apply zz2 | apply zz0 | apply zz1 | refine zz3 ?_ GE371.out | refine zz3 ?_ GE372.out) hb);clear BK371;clear BK372;clear HB;have BK371:=n0_;have BK372:=n1_;have HB:=n2_;clear n0_ n1_ n2_;(try clear hb);(try clear hb2);(try clear hk);(try clear hi)))
   go_ret
   exact ⟨by first | rfl | (simp [errW_none,errW_some] <;> rfl) | (simp [*,errW_none,errW_some] <;> rfl),by repeat first | exact HB.out | apply zz2 | apply zz0 | apply zz1 | refine zz3 ?_ GE371.out | refine zz3 ?_ GE372.out⟩
  ·rw [if_neg c11] at H
   have c11b0:decide (t374 < 0)=false:=decide_eq_false c11
   clear c11
   replace H:=zz30.mp H
   obtain ⟨⟨t375,t376⟩,A190,H⟩:=H
   replace H:((laws_toParty.f k a1_0 l1_1).bind fun bt379=>((spec_AreSame.f k t375 t376 bt379.1 bt379.2).bind fun bt383=>((laws_toParty.f k a0_0 l0_1).bind fun bt385=>((laws_toParty.f k a1_0 l1_1).bind fun bt390=>((impl_AreSame.f k bt385.1 bt385.2 bt390.1 bt390.2).bind fun bt395=>(if (bt395.1 != bt383.1)=true then (laws_FnExactAreSame.j0 k true a0_0 l0_1 a1_0 l1_1 bt385.1 bt385.2 bt390.1 bt390.2) else (laws_FnExactAreSame.j0 k (bt395.2 != bt383.2) a0_0 l0_1 a1_0 l1_1 bt385.1 bt385.2 bt390.1 bt390.2)))))))=some r:=H
   have A19:=zz31 A190
   clear A190
   replace H:=zz30.mp H
   obtain ⟨⟨t379,t380⟩,A200,H⟩:=H
   replace H:((spec_AreSame.f k t375 t376 t379 t380).bind fun bt383=>((laws_toParty.f k a0_0 l0_1).bind fun bt385=>((laws_toParty.f k a1_0 l1_1).bind fun bt390=>((impl_AreSame.f k bt385.1 bt385.2 bt390.1 bt390.2).bind fun bt395=>(if (bt395.1 != bt383.1)=true then (laws_FnExactAreSame.j0 k true a0_0 l0_1 a1_0 l1_1 bt385.1 bt385.2 bt390.1 bt390.2) else (laws_FnExactAreSame.j0 k (bt395.2 != bt383.2) a0_0 l0_1 a1_0 l1_1 bt385.1 bt385.2 bt390.1 bt390.2))))))=some r:=H
   have A20:=zz31 A200
   clear A200
   replace H:=zz30.mp H
   obtain ⟨⟨t383,t384⟩,A210,H⟩:=H
   replace H:((laws_toParty.f k a0_0 l0_1).bind fun bt385=>((laws_toParty.f k a1_0 l1_1).bind fun bt390=>((impl_AreSame.f k bt385.1 bt385.2 bt390.1 bt390.2).bind fun bt395=>(if (bt395.1 != t383)=true then (laws_FnExactAreSame.j0 k true a0_0 l0_1 a1_0 l1_1 bt385.1 bt385.2 bt390.1 bt390.2) else (laws_FnExactAreSame.j0 k (bt395.2 != t384) a0_0 l0_1 a1_0 l1_1 bt385.1 bt385.2 bt390.1 bt390.2)))))=some r:=H
   have A21:=zz31 A210
   clear A210
   replace H:=zz30.mp H
   obtain ⟨⟨t385,t386⟩,A220,H⟩:=H
   replace H:((laws_toParty.f k a1_0 l1_1).bind fun bt390=>((impl_AreSame.f k t385 t386 bt390.1 bt390.2).bind fun bt395=>(if (bt395.1 != t383)=true then (laws_FnExactAreSame.j0 k true a0_0 l0_1 a1_0 l1_1 t385 t386 bt390.1 bt390.2) else (laws_FnExactAreSame.j0 k (bt395.2 != t384) a0_0 l0_1 a1_0 l1_1 t385 t386 bt390.1 bt390.2))))=some r:=H
   have A22:=zz31 A220
   clear A220
   replace H:=zz30.mp H
   obtain ⟨⟨t390,t391⟩,A230,H⟩:=H
   replace H:((impl_AreSame.f k t385 t386 t390 t391).bind fun bt395=>(if (bt395.1 != t383)=true then (laws_FnExactAreSame.j0 k true a0_0 l0_1 a1_0 l1_1 t385 t386 t390 t391) else (laws_FnExactAreSame.j0 k (bt395.2 != t384) a0_0 l0_1 a1_0 l1_1 t385 t386 t390 t391)))=some r:=H
   have A23:=zz31 A230
   clear A230
   replace H:=zz30.mp H
   obtain ⟨⟨t395,t396⟩,A240,H⟩:=H
   replace H:(if (t395 != t383)=true then (laws_FnExactAreSame.j0 k true a0_0 l0_1 a1_0 l1_1 t385 t386 t390 t391) else (laws_FnExactAreSame.j0 k (t396 != t384) a0_0 l0_1 a1_0 l1_1 t385 t386 t390 t391))=some r:=H
   have A24:=zz31 A240
   clear A240
   have HC25:=zz31 H
   clear H
   go_enter Try.func3,Try.ntmps3
   try go_wp2_with (first | ((with_reducible refine gate_dst (N:=2) rfl ?_);refine box_event ?hg (N:=2) ?hd (cs:=#[.int .i64 a0_0,.slice A0_1 l0_1.length c0_1]) (t:=24) ?hr ?_;(case hd=>rfl);(case hg=>rfl);(case hr=>first | (go_simp;done) | (go_simp;rfl));intro gb371 hg w26 hbox hb;have n0_:=zz31 (zz4 (by repeat first | exact HB.out | apply zz2 | apply zz0 | apply zz1) hb);have n1_:=zz31 (hbox);have n2_:=zz31 ((by rw [hg];exact (zz5 (by repeat first | exact HB.out | apply zz2 | apply zz0 | apply zz1)):w.heap.size≤gb371));have n3_:=zz31 ((by rw [hg];exact (zz5 (by repeat first | exact HB.out | apply zz2 | apply zz0 | apply zz1)):w.heap.size≤gb371));clear HB;have HB:=n0_;have BK371:=n1_;have GW371:=n2_;have GE371:=n3_;clear n0_ n1_ n2_ n3_;clear hb hbox hg) | ((with_reducible refine gate_dst (N:=3) rfl ?_);refine box_event ?hg (N:=3) ?hd (cs:=#[.int .i64 a1_0,.slice A1_1 l1_1.length c1_1]) (t:=24) ?hr ?_;(case hd=>rfl);(case hg=>rfl);(case hr=>first | (go_simp;done) | (go_simp;rfl));intro gb372 hg w27 hbox hb;have n0_:=zz31 (zz11 (g:=gb371) (o:=.cells #[.int .i64 a0_0,.slice A0_1 l0_1.length c0_1] 24 (0,0)) (by (with_reducible repeat (first | refine zz6 ?_ _ | refine zz7 ?_ | refine zz8 ?_ _));exact BK371.out) hb);have n1_:=zz31 (zz4 (by repeat first | exact HB.out | apply zz2 | apply zz0 | apply zz1 | refine zz3 ?_ GE371.out) hb);have n2_:=zz31 (hbox);have n3_:=zz31 ((by rw [hg];exact (zz5 (by repeat first | exact HB.out | apply zz2 | apply zz0 | apply zz1 | refine zz3 ?_ GE371.out)):w.heap.size≤gb372));have n4_:=zz31 ((by rw [hg];exact (zz5 (by repeat first | exact HB.out | apply zz2 | apply zz0 | apply zz1 | refine zz3 ?_ GE371.out)):w.heap.size≤gb372));have n5_:=zz31 ((by rw [hg];exact Nat.ne_of_lt (blk_lt (g:=gb371) (o:=.cells #[.int .i64 a0_0,.slice A0_1 l0_1.length c0_1] 24 (0,0)) (by (with_reducible repeat (first | refine zz6 ?_ _ | refine zz7 ?_ | refine zz8 ?_ _));exact BK371.out)):gb371 ≠ gb372));have n6_:=zz31 ((by rw [hg];exact Nat.ne_of_gt (blk_lt (g:=gb371) (o:=.cells #[.int .i64 a0_0,.slice A0_1 l0_1.length c0_1] 24 (0,0)) (by (with_reducible repeat (first | refine zz6 ?_ _ | refine zz7 ?_ | refine zz8 ?_ _));exact BK371.out)):gb372 ≠ gb371));clear BK371;clear HB;have BK371:=n0_;have HB:=n1_;have BK372:=n2_;have GW372:=n3_;have GE372:=n4_;have NB371_372:=n5_;have NB372_371:=n6_;clear n0_ n1_ n2_ n3_ n4_ n5_ n6_;clear hb hbox hg;have hnb28:=NB371_372.out;have hnc28:=NB372_371.out;have hcz29_0:w27.cell? ⟨gb371,0,none⟩=some (.int .i64 a0_0):=(zz9 BK371.out 0).trans rfl;have hcz29_1:w27.cell? ⟨gb371,1,none⟩=some (.slice A0_1 l0_1.length c0_1):=(zz9 BK371.out 1).trans rfl;have hfz29_0:=zz10 BK371.out 0;have hfz29_1:=zz10 BK371.out 1) | ((with_reducible refine gate_callee (f:=8) rfl ?_);refine goesL_ (some 14) rfl rfl Try.func8 (by kernel_rfl) rfl #[.agg #[.int .i64 a0_0,.slice A0_1 l0_1.length c0_1],.int .i64 1048576] rfl (by (try simp only [zz26,zz27,zz28]);first | done | rfl | (simp only [zz24,zz25];rfl)) ?_;(with_reducible refine (laws_szParty.calls a0_0 _ _ l0_1 1048576 t373 _ ?side1 ?side2 A3.out).mono ?_);(case side1=>repeat (first | exact (Kd.C_below HR0_1.out HB.out) | (with_reducible refine zz18 ?_ _) | (with_reducible refine zz19 ?_ _) | (with_reducible refine zz20 ?_)));(case side2=>exact HC0_1.out);rintro e w30 ⟨rfl,hb⟩;refine ⟨_,rfl,?_⟩;have n0_:=zz31 (zz11 (g:=gb371) (o:=.cells #[.int .i64 a0_0,.slice A0_1 l0_1.length c0_1] 24 (0,0)) (by (with_reducible repeat (first | refine zz6 ?_ _ | refine zz7 ?_ | refine zz8 ?_ _));exact BK371.out) hb);have n1_:=zz31 (zz11 (g:=gb372) (o:=.cells #[.int .i64 a1_0,.slice A1_1 l1_1.length c1_1] 24 (0,0)) (by (with_reducible repeat (first | refine zz6 ?_ _ | refine zz7 ?_ | refine zz8 ?_ _));exact BK372.out) hb);have n2_:=zz31 (zz4 (by repeat first | exact HB.out | apply zz2 | apply zz0 | apply zz1 | refine zz3 ?_ GE371.out | refine zz3 ?_ GE372.out) hb);clear BK371;clear BK372;clear HB;have BK371:=n0_;have BK372:=n1_;have HB:=n2_;clear n0_ n1_ n2_;(try clear hb);(try clear hb2);(try clear hk);(try clear hi);have hcz31_0:w30.cell? ⟨gb372,0,none⟩=some (.int .i64 a1_0):=(zz9 BK372.out 0).trans rfl;have hcz31_1:w30.cell? ⟨gb372,1,none⟩=some (.slice A1_1 l1_1.length c1_1):=(zz9 BK372.out 1).trans rfl;have hfz31_0:=zz10 BK372.out 0;have hfz31_1:=zz10 BK372.out 1) | ((with_reducible refine gate_callee (f:=8) rfl ?_);refine goesL_ (some 19) rfl rfl Try.func8 (by kernel_rfl) rfl #[.agg #[.int .i64 a1_0,.slice A1_1 l1_1.length c1_1],.int .i64 t373] rfl (by (try simp only [zz26,zz27,zz28]);first | done | rfl | (simp only [zz24,zz25];rfl)) ?_;(with_reducible refine (laws_szParty.calls a1_0 _ _ l1_1 t373 t374 _ ?side1 ?side2 A10.out).mono ?_);(case side1=>repeat (first | exact (Kd.C_below HR1_1.out HB.out) | (with_reducible refine zz18 ?_ _) | (with_reducible refine zz19 ?_ _) | (with_reducible refine zz20 ?_)));(case side2=>exact HC1_1.out);rintro e w32 ⟨rfl,hb⟩;refine ⟨_,rfl,?_⟩;have n0_:=zz31 (zz11 (g:=gb371) (o:=.cells #[.int .i64 a0_0,.slice A0_1 l0_1.length c0_1] 24 (0,0)) (by (with_reducible repeat (first | refine zz6 ?_ _ | refine zz7 ?_ | refine zz8 ?_ _));exact BK371.out) hb);have n1_:=zz31 (zz11 (g:=gb372) (o:=.cells #[.int .i64 a1_0,.slice A1_1 l1_1.length c1_1] 24 (0,0)) (by (with_reducible repeat (first | refine zz6 ?_ _ | refine zz7 ?_ | refine zz8 ?_ _));exact BK372.out) hb);have n2_:=zz31 (zz4 (by repeat first | exact HB.out | apply zz2 | apply zz0 | apply zz1 | refine zz3 ?_ GE371.out | refine zz3 ?_ GE372.out) hb);clear BK371;clear BK372;clear HB;have BK371:=n0_;have BK372:=n1_;have HB:=n2_;clear n0_ n1_ n2_;(try clear hb);(try clear hb2);(try clear hk);(try clear hi)))
   have n0_:=zz31 (zz7 BK371.out)
   have n1_:=zz31 (zz7 BK372.out)
   have n2_:=zz31 (zz1 HB.out)
   clear BK371
   clear BK372
   clear HB
   have BK371:=n0_
   have BK372:=n1_
   have HB:=n2_
   clear n0_ n1_ n2_
   refine start_ (n:=10) (S:=fun w'=>w'.cell? ⟨gb371,0,none⟩=some (.int .i64 a0_0)∧w'.cell? ⟨gb371,1,none⟩=some (.slice A0_1 l0_1.length c0_1)∧w'.cell? ⟨gb372,0,none⟩=some (.int .i64 a1_0)∧w'.cell? ⟨gb372,1,none⟩=some (.slice A1_1 l1_1.length c1_1)) (ds:=[]) #[F,F,F,F,F,F,F,F,F,F] (by kernel_rfl) rfl rfl ⟨(zz9 BK371.out 0).trans rfl,(zz9 BK371.out 1).trans rfl,(zz9 BK372.out 0).trans rfl,(zz9 BK372.out 1).trans rfl⟩ (fun hHeld=>?_);refine with_tabW laws_FnExactAreSame.tab8 laws_FnExactAreSame.bits8 (fun HT_ HW_=>?_)
   generalize w32.drew=w33 at BK371 BK372 HB hHeld ⊢
   refine take_ (i:=0) (N:=some 23) (v:=?_) (a':=?_) #[T,F,F,F,F,F,F,F,F,F] rfl rfl (take_ofW HT_.out HW_.out (by kernel_rfl)) (fun _ _ _ h=>h) (Or.inl ⟨by rfl,?_⟩) hHeld ?_ ?_
   rotate_left
   ·rintro w' ⟨s0,s1,s2,s3⟩
    go_simp
    with_reducible rfl
   rotate_left
   ·simp only [Act.put,zz21,zz22,zz23,i64_w,i32_w]
    rfl
   refine take_ (i:=2) (N:=some 25) (v:=?_) (a':=?_) #[T,F,T,F,F,F,F,F,F,F] rfl rfl (take_ofW HT_.out HW_.out (by kernel_rfl)) (fun _ _ _ h=>h) (Or.inl ⟨by rfl,?_⟩) hHeld ?_ ?_
   rotate_left
   ·rintro w' ⟨s0,s1,s2,s3⟩
    go_simp
    with_reducible rfl
   rotate_left
   ·simp only [Act.put,zz21,zz22,zz23,i64_w,i32_w]
    rfl
   refine one_ (i:=1) (N:=some 24) #[T,T,T,F,F,F,F,F,F,F] rfl rfl (one_of HT_.out (by kernel_rfl)) (by decide) (fun K hK=>?_)
   refine goes_ Try.func10 (by kernel_rfl) rfl #[.agg #[.int .i64 a0_0,.slice A0_1 l0_1.length c0_1]] (by rfl) rfl rfl (by (try simp only [zz26,zz27,zz28]);first | done | rfl | (simp only [zz24,zz25];rfl)) ?_
   with_reducible refine (laws_toParty.calls k a0_0 _ _ l0_1 t375 t376 _ ?side1 ?side2 A19.out).mono ?_
   (case side1=>repeat (first | exact (Kd.C_below HR0_1.out HB.out) | (with_reducible refine zz18 ?_ _) | (with_reducible refine zz19 ?_ _) | (with_reducible refine zz20 ?_)))
   (case side2=>exact HC0_1.out)
   rintro e w34 ⟨v377,rfl,ho0,hb⟩
   refine ⟨_,rfl,?_⟩
   have n0_:=zz31 (Kd.R_lower ho0 (zz5 (by repeat first | exact HB.out | apply zz2 | apply zz0 | apply zz1 | refine zz3 ?_ GE371.out | refine zz3 ?_ GE372.out)))
   have n1_:=zz31 (zz11 (g:=gb371) (o:=.cells #[.int .i64 a0_0,.slice A0_1 l0_1.length c0_1] 24 (0,0)) (by (with_reducible repeat (first | refine zz6 ?_ _ | refine zz7 ?_ | refine zz8 ?_ _));exact BK371.out) hb)
   have n2_:=zz31 (zz11 (g:=gb372) (o:=.cells #[.int .i64 a1_0,.slice A1_1 l1_1.length c1_1] 24 (0,0)) (by (with_reducible repeat (first | refine zz6 ?_ _ | refine zz7 ?_ | refine zz8 ?_ _));exact BK372.out) hb)
   have n3_:=zz31 (zz4 (by repeat first | exact HB.out | apply zz2 | apply zz0 | apply zz1 | refine zz3 ?_ GE371.out | refine zz3 ?_ GE372.out) hb)
   clear BK371
   clear BK372
   clear HB
   have HO378:=n0_
   have BK371:=n1_
   have BK372:=n2_
   have HB:=n3_
   clear n0_ n1_ n2_ n3_
   (try clear hb)
   (try clear hb2)
   (try clear hk)
   (try clear hi)
   (try clear ho0)
   refine hK.out _ _ ⟨(zz9 BK371.out 0).trans rfl,(zz9 BK371.out 1).trans rfl,(zz9 BK372.out 0).trans rfl,(zz9 BK372.out 1).trans rfl⟩ (fun hHeld=>?_)
   clear hK K
   refine norm_ (a':=?_) ?_ ?_
   rotate_left
   ·show Act.put _ (some 24) _=_
    simp only [Act.put,zz21,zz22,zz23,i64_w,i32_w]
    rfl
   refine one_ (i:=3) (N:=some 26) #[T,T,T,T,F,F,F,F,F,F] rfl rfl (one_of HT_.out (by kernel_rfl)) (by decide) (fun K hK=>?_)
   refine goes_ Try.func10 (by kernel_rfl) rfl #[.agg #[.int .i64 a1_0,.slice A1_1 l1_1.length c1_1]] (by rfl) rfl rfl (by (try simp only [zz26,zz27,zz28]);first | done | rfl | (simp only [zz24,zz25];rfl)) ?_
   with_reducible refine (laws_toParty.calls k a1_0 _ _ l1_1 t379 t380 _ ?side1 ?side2 A20.out).mono ?_
   (case side1=>repeat (first | exact (Kd.C_below HR1_1.out HB.out) | (with_reducible refine zz18 ?_ _) | (with_reducible refine zz19 ?_ _) | (with_reducible refine zz20 ?_)))
   (case side2=>exact HC1_1.out)
   rintro e w35 ⟨v381,rfl,ho0,hb⟩
   refine ⟨_,rfl,?_⟩
   have n0_:=zz31 (Kd.R_elder' (by (with_reducible repeat (first | apply zz12 | apply zz13 | apply zz14));exact HO378.out) (Kd.R_base ho0) hb)
   have n1_:=zz31 (Kd.R_lower (Kd.R_new' ho0 (Kd.R_lt (by (with_reducible repeat (first | apply zz12 | apply zz13 | apply zz14));exact HO378.out))) (zz5 (by repeat first | exact HB.out | apply zz2 | apply zz0 | apply zz1 | refine zz3 ?_ GE371.out | refine zz3 ?_ GE372.out)))
   have n2_:=zz31 (zz11 (g:=gb371) (o:=.cells #[.int .i64 a0_0,.slice A0_1 l0_1.length c0_1] 24 (0,0)) (by (with_reducible repeat (first | refine zz6 ?_ _ | refine zz7 ?_ | refine zz8 ?_ _));exact BK371.out) hb)
   have n3_:=zz31 (zz11 (g:=gb372) (o:=.cells #[.int .i64 a1_0,.slice A1_1 l1_1.length c1_1] 24 (0,0)) (by (with_reducible repeat (first | refine zz6 ?_ _ | refine zz7 ?_ | refine zz8 ?_ _));exact BK372.out) hb)
   have n4_:=zz31 (zz4 (by repeat first | exact HB.out | apply zz2 | apply zz0 | apply zz1 | refine zz3 ?_ GE371.out | refine zz3 ?_ GE372.out) hb)
   clear HO378
   clear BK371
   clear BK372
   clear HB
   have HO378:=n0_
   have HO382:=n1_
   have BK371:=n2_
   have BK372:=n3_
   have HB:=n4_
   clear n0_ n1_ n2_ n3_ n4_
   (try clear hb)
   (try clear hb2)
   (try clear hk)
   (try clear hi)
   (try clear ho0)
   obtain ⟨Ao36,co36,eo36⟩:=Kd.R_slice HO378.out
   (first | subst eo36 | (injection eo36 with f1_ f2_ f3_;have f4_:=f1_.symm;have f5_:=f3_.symm;clear f1_ f2_ f3_;subst f4_;subst f5_))
   obtain ⟨Ao37,co37,eo37⟩:=Kd.R_slice HO382.out
   (first | subst eo37 | (injection eo37 with f1_ f2_ f3_;have f4_:=f1_.symm;have f5_:=f3_.symm;clear f1_ f2_ f3_;subst f4_;subst f5_))
   refine hK.out _ _ ⟨(zz9 BK371.out 0).trans rfl,(zz9 BK371.out 1).trans rfl,(zz9 BK372.out 0).trans rfl,(zz9 BK372.out 1).trans rfl⟩ (fun hHeld=>?_)
   clear hK K
   refine norm_ (a':=?_) ?_ ?_
   rotate_left
   ·show Act.put _ (some 26) _=_
    simp only [Act.put,zz21,zz22,zz23,i64_w,i32_w]
    rfl
   refine one_ (i:=4) (N:=some 27) #[T,T,T,T,T,F,F,F,F,F] rfl rfl (one_of HT_.out (by kernel_rfl)) (by decide) (fun K hK=>?_)
   refine goes_ Try.func9 (by kernel_rfl) rfl #[.agg #[.int .i64 t375,.slice Ao36 t376.length co36],.agg #[.int .i64 t379,.slice Ao37 t380.length co37]] (by rfl) rfl rfl (by (try simp only [zz26,zz27,zz28]);first | done | rfl | (simp only [zz24,zz25];rfl)) ?_
   with_reducible refine (spec_AreSame.calls k t375 _ _ t376 t379 _ _ t380 t383 t384 _ ?side1 ?side2 ?side3 ?side4 A21.out).mono ?_
   (case side1=>repeat (first | exact (Kd.R_reads' HO378.out).2.2 | (with_reducible refine zz18 ?_ _) | (with_reducible refine zz19 ?_ _) | (with_reducible refine zz20 ?_)))
   (case side2=>exact (Kd.R_reads' HO378.out).2.1)
   (case side3=>repeat (first | exact (Kd.R_reads' HO382.out).2.2 | (with_reducible refine zz18 ?_ _) | (with_reducible refine zz19 ?_ _) | (with_reducible refine zz20 ?_)))
   (case side4=>exact (Kd.R_reads' HO382.out).2.1)
   rintro e w38 ⟨rfl,hb⟩
   refine ⟨_,rfl,?_⟩
   have n0_:=zz31 (Kd.R_below (by (with_reducible repeat (first | apply zz12 | apply zz13 | apply zz14));exact HO378.out) hb)
   have n1_:=zz31 (Kd.R_below (by (with_reducible repeat (first | apply zz12 | apply zz13 | apply zz14));exact HO382.out) hb)
   have n2_:=zz31 (zz11 (g:=gb371) (o:=.cells #[.int .i64 a0_0,.slice A0_1 l0_1.length c0_1] 24 (0,0)) (by (with_reducible repeat (first | refine zz6 ?_ _ | refine zz7 ?_ | refine zz8 ?_ _));exact BK371.out) hb)
   have n3_:=zz31 (zz11 (g:=gb372) (o:=.cells #[.int .i64 a1_0,.slice A1_1 l1_1.length c1_1] 24 (0,0)) (by (with_reducible repeat (first | refine zz6 ?_ _ | refine zz7 ?_ | refine zz8 ?_ _));exact BK372.out) hb)
   have n4_:=zz31 (zz4 (by repeat first | exact HB.out | apply zz2 | apply zz0 | apply zz1 | refine zz3 ?_ GE371.out | refine zz3 ?_ GE372.out) hb)
   clear HO378
   clear HO382
   clear BK371
   clear BK372
   clear HB
   have HO378:=n0_
   have HO382:=n1_
   have BK371:=n2_
   have BK372:=n3_
   have HB:=n4_
   clear n0_ n1_ n2_ n3_ n4_
   (try clear hb)
   (try clear hb2)
   (try clear hk)
   (try clear hi)
   refine hK.out _ _ ⟨(zz9 BK371.out 0).trans rfl,(zz9 BK371.out 1).trans rfl,(zz9 BK372.out 0).trans rfl,(zz9 BK372.out 1).trans rfl⟩ (fun hHeld=>?_)
   clear hK K
   refine norm_ (a':=?_) ?_ ?_
   rotate_left
   ·show Act.put _ (some 27) _=_
    simp only [Act.put,zz21,zz22,zz23,i64_w,i32_w]
    rfl
   refine pure_ (i:=5) (N:=some 22) (v:=?_) (a':=?_) #[T,T,T,T,T,T,F,F,F,F] rfl rfl (any_of HT_.out (by kernel_rfl)) (fun _ _ _ h=>h) (Or.inl ⟨by rfl,?_⟩) ?_ ?_
   rotate_left
   ·intro w'
    go_simp
    with_reducible rfl
   rotate_left
   ·simp only [Act.put,zz21,zz22,zz23,i64_w,i32_w]
    rfl
   refine pure_ (i:=6) (N:=some 28) (v:=?_) (a':=?_) #[T,T,T,T,T,T,T,F,F,F] rfl rfl (any_of HT_.out (by kernel_rfl)) (fun _ _ _ h=>h) (Or.inl ⟨by rfl,?_⟩) ?_ ?_
   rotate_left
   ·intro w'
    go_simp
    with_reducible rfl
   rotate_left
   ·simp only [Act.put,zz21,zz22,zz23,i64_w,i32_w]
    rfl
   refine pure_ (i:=7) (N:=some 29) (v:=?_) (a':=?_) #[T,T,T,T,T,T,T,T,F,F] rfl rfl (any_of HT_.out (by kernel_rfl)) (fun _ _ _ h=>h) (Or.inl ⟨by rfl,?_⟩) ?_ ?_
   rotate_left
   ·intro w'
    go_simp
    with_reducible rfl
   rotate_left
   ·simp only [Act.put,zz21,zz22,zz23,i64_w,i32_w]
    rfl
   refine pure_ (i:=8) (N:=some 6) (v:=?_) (a':=?_) #[T,T,T,T,T,T,T,T,T,F] rfl rfl (any_of HT_.out (by kernel_rfl)) (fun _ _ _ h=>h) (Or.inl ⟨by rfl,?_⟩) ?_ ?_
   rotate_left
   ·intro w'
    go_simp
    with_reducible rfl
   rotate_left
   ·simp only [Act.put,zz21,zz22,zz23,i64_w,i32_w]
    rfl
   refine pure_ (i:=9) (N:=some 7) (v:=?_) (a':=?_) #[T,T,T,T,T,T,T,T,T,T] rfl rfl (any_of HT_.out (by kernel_rfl)) (fun _ _ _ h=>h) (Or.inl ⟨by rfl,?_⟩) ?_ ?_
   rotate_left
   ·intro w'
    go_simp
    with_reducible rfl
   rotate_left
   ·simp only [Act.put,zz21,zz22,zz23,i64_w,i32_w]
    rfl
   refine done_ (done_of HT_.out (by kernel_rfl)) ?_
   have hcz39_0:w38.cell? ⟨gb371,0,none⟩=some (.int .i64 a0_0):=(zz9 BK371.out 0).trans rfl
   have hcz39_1:w38.cell? ⟨gb371,1,none⟩=some (.slice A0_1 l0_1.length c0_1):=(zz9 BK371.out 1).trans rfl
   have hfz39_0:=zz10 BK371.out 0
   have hfz39_1:=zz10 BK371.out 1
   go_upto_region 12 with (first | ((with_reducible refine gate_callee (f:=10) rfl ?_);refine goesL_ (some 31) rfl rfl Try.func10 (by kernel_rfl) rfl #[.agg #[.int .i64 a0_0,.slice A0_1 l0_1.length c0_1]] rfl (by (try simp only [zz26,zz27,zz28]);first | done | rfl | (simp only [zz24,zz25];rfl)) ?_;(with_reducible refine (laws_toParty.calls k a0_0 _ _ l0_1 t385 t386 _ ?side1 ?side2 A22.out).mono ?_);(case side1=>repeat (first | exact (Kd.C_below HR0_1.out HB.out) | (with_reducible refine zz18 ?_ _) | (with_reducible refine zz19 ?_ _) | (with_reducible refine zz20 ?_)));(case side2=>exact HC0_1.out);rintro e w40 ⟨v387,rfl,ho0,hb⟩;refine ⟨_,rfl,?_⟩;have n0_:=zz31 (Kd.R_elder' (by (with_reducible repeat (first | apply zz12 | apply zz13 | apply zz14));exact HO378.out) (Kd.R_base ho0) hb);have n1_:=zz31 (Kd.R_elder' (by (with_reducible repeat (first | apply zz12 | apply zz13 | apply zz14));exact HO382.out) (Kd.R_base ho0) hb);have n2_:=zz31 (Kd.R_lower (Kd.R_new' (Kd.R_new' ho0 (Kd.R_lt (by (with_reducible repeat (first | apply zz12 | apply zz13 | apply zz14));exact HO378.out))) (Kd.R_lt (by (with_reducible repeat (first | apply zz12 | apply zz13 | apply zz14));exact HO382.out))) (zz5 (by repeat first | exact HB.out | apply zz2 | apply zz0 | apply zz1 | refine zz3 ?_ GE371.out | refine zz3 ?_ GE372.out)));have n3_:=zz31 (zz11 (g:=gb371) (o:=.cells #[.int .i64 a0_0,.slice A0_1 l0_1.length c0_1] 24 (0,0)) (by (with_reducible repeat (first | refine zz6 ?_ _ | refine zz7 ?_ | refine zz8 ?_ _));exact BK371.out) hb);have n4_:=zz31 (zz11 (g:=gb372) (o:=.cells #[.int .i64 a1_0,.slice A1_1 l1_1.length c1_1] 24 (0,0)) (by (with_reducible repeat (first | refine zz6 ?_ _ | refine zz7 ?_ | refine zz8 ?_ _));exact BK372.out) hb);have n5_:=zz31 (zz4 (by repeat first | exact HB.out | apply zz2 | apply zz0 | apply zz1 | refine zz3 ?_ GE371.out | refine zz3 ?_ GE372.out) hb);clear HO378;clear HO382;clear BK371;clear BK372;clear HB;have HO378:=n0_;have HO382:=n1_;have HO388:=n2_;have BK371:=n3_;have BK372:=n4_;have HB:=n5_;clear n0_ n1_ n2_ n3_ n4_ n5_;(try clear hb);(try clear hb2);(try clear hk);(try clear hi);(try clear ho0)) | ((with_reducible refine gate_dst (N:=8) rfl ?_);refine box_event ?hg (N:=8) ?hd (cs:=#[.int .i64 0,.slice none 0 0]) (t:=30) ?hr ?_;(case hd=>rfl);(case hg=>rfl);(case hr=>first | (go_simp;done) | (go_simp;rfl));intro gb389 hg w41 hbox hb;have n0_:=zz31 (Kd.R_below (by (with_reducible repeat (first | apply zz12 | apply zz13 | apply zz14));exact HO378.out) hb);have n1_:=zz31 (Kd.R_below (by (with_reducible repeat (first | apply zz12 | apply zz13 | apply zz14));exact HO382.out) hb);have n2_:=zz31 (Kd.R_below (by (with_reducible repeat (first | apply zz12 | apply zz13 | apply zz14));exact HO388.out) hb);have n3_:=zz31 (zz11 (g:=gb371) (o:=.cells #[.int .i64 a0_0,.slice A0_1 l0_1.length c0_1] 24 (0,0)) (by (with_reducible repeat (first | refine zz6 ?_ _ | refine zz7 ?_ | refine zz8 ?_ _));exact BK371.out) hb);have n4_:=zz31 (zz11 (g:=gb372) (o:=.cells #[.int .i64 a1_0,.slice A1_1 l1_1.length c1_1] 24 (0,0)) (by (with_reducible repeat (first | refine zz6 ?_ _ | refine zz7 ?_ | refine zz8 ?_ _));exact BK372.out) hb);have n5_:=zz31 (zz4 (by repeat first | exact HB.out | apply zz2 | apply zz0 | apply zz1 | refine zz3 ?_ GE371.out | refine zz3 ?_ GE372.out) hb);have n6_:=zz31 (hbox);have n7_:=zz31 ((by rw [hg];exact (zz5 (by repeat first | exact HB.out | apply zz2 | apply zz0 | apply zz1 | refine zz3 ?_ GE371.out | refine zz3 ?_ GE372.out)):w.heap.size≤gb389));have n8_:=zz31 ((by rw [hg];exact (zz5 (by repeat first | exact HB.out | apply zz2 | apply zz0 | apply zz1 | refine zz3 ?_ GE371.out | refine zz3 ?_ GE372.out)):w.heap.size≤gb389));have n9_:=zz31 ((by rw [hg];exact Nat.ne_of_lt (blk_lt (g:=gb371) (o:=.cells #[.int .i64 a0_0,.slice A0_1 l0_1.length c0_1] 24 (0,0)) (by (with_reducible repeat (first | refine zz6 ?_ _ | refine zz7 ?_ | refine zz8 ?_ _));exact BK371.out)):gb371 ≠ gb389));have n10_:=zz31 ((by rw [hg];exact Nat.ne_of_gt (blk_lt (g:=gb371) (o:=.cells #[.int .i64 a0_0,.slice A0_1 l0_1.length c0_1] 24 (0,0)) (by (with_reducible repeat (first | refine zz6 ?_ _ | refine zz7 ?_ | refine zz8 ?_ _));exact BK371.out)):gb389 ≠ gb371));have n11_:=zz31 ((by rw [hg];exact Nat.ne_of_lt (blk_lt (g:=gb372) (o:=.cells #[.int .i64 a1_0,.slice A1_1 l1_1.length c1_1] 24 (0,0)) (by (with_reducible repeat (first | refine zz6 ?_ _ | refine zz7 ?_ | refine zz8 ?_ _));exact BK372.out)):gb372 ≠ gb389));have n12_:=zz31 ((by rw [hg];exact Nat.ne_of_gt (blk_lt (g:=gb372) (o:=.cells #[.int .i64 a1_0,.slice A1_1 l1_1.length c1_1] 24 (0,0)) (by (with_reducible repeat (first | refine zz6 ?_ _ | refine zz7 ?_ | refine zz8 ?_ _));exact BK372.out)):gb389 ≠ gb372));clear HO378;clear HO382;clear HO388;clear BK371;clear BK372;clear HB;have HO378:=n0_;have HO382:=n1_;have HO388:=n2_;have BK371:=n3_;have BK372:=n4_;have HB:=n5_;have BK389:=n6_;have GW389:=n7_;have GE389:=n8_;have NB371_389:=n9_;have NB389_371:=n10_;have NB372_389:=n11_;have NB389_372:=n12_;clear n0_ n1_ n2_ n3_ n4_ n5_ n6_ n7_ n8_ n9_ n10_ n11_ n12_;clear hb hbox hg;have hnb42:=NB389_371.out;have hnc42:=NB371_389.out;have hnb43:=NB389_372.out;have hnc43:=NB372_389.out;have hcz44_0:w41.cell? ⟨gb389,0,none⟩=some (.int .i64 0):=(zz9 BK389.out 0).trans rfl;have hcz44_1:w41.cell? ⟨gb389,1,none⟩=some (.slice none 0 0):=(zz9 BK389.out 1).trans rfl;have hfz44_0:=zz10 BK389.out 0;have hfz44_1:=zz10 BK389.out 1;obtain ⟨Ao45,co45,eo45⟩:=Kd.R_slice HO388.out;subst eo45;have hcz46_0:w41.cell? ⟨gb372,0,none⟩=some (.int .i64 a1_0):=(zz9 BK372.out 0).trans rfl;have hcz46_1:w41.cell? ⟨gb372,1,none⟩=some (.slice A1_1 l1_1.length c1_1):=(zz9 BK372.out 1).trans rfl;have hfz46_0:=zz10 BK372.out 0;have hfz46_1:=zz10 BK372.out 1) | ((with_reducible refine gate_callee (f:=10) rfl ?_);refine goesL_ (some 33) rfl rfl Try.func10 (by kernel_rfl) rfl #[.agg #[.int .i64 a1_0,.slice A1_1 l1_1.length c1_1]] rfl (by (try simp only [zz26,zz27,zz28]);first | done | rfl | (simp only [zz24,zz25];rfl)) ?_;(with_reducible refine (laws_toParty.calls k a1_0 _ _ l1_1 t390 t391 _ ?side1 ?side2 A23.out).mono ?_);(case side1=>exact Kd.C_below HR1_1.out (by repeat first | exact HB.out | apply zz2 | apply zz0 | apply zz1 | refine zz3 ?_ GE371.out | refine zz3 ?_ GE372.out | refine zz3 ?_ GE389.out));(case side2=>exact HC1_1.out);rintro e w47 ⟨v392,rfl,ho0,hb⟩;refine ⟨_,rfl,?_⟩;have n0_:=zz31 (Kd.R_elder' (by (with_reducible repeat (first | apply zz12 | apply zz13 | apply zz14));exact (Kd.R_mono (Kd.R_far (p:=⟨gb389,1,none⟩) (Kd.R_far (p:=⟨gb389,0,none⟩) (Kd.R_types HO378.out BK389.out (by decide)) (fun _ hk=>hk.2) (.int .i64 t385)) (fun _ hk=>hk.2) (.slice Ao45 t386.length co45)) (fun _ h_=>h_.1))) (Kd.R_base ho0) hb);have n1_:=zz31 (Kd.R_elder' (by (with_reducible repeat (first | apply zz12 | apply zz13 | apply zz14));exact (Kd.R_mono (Kd.R_far (p:=⟨gb389,1,none⟩) (Kd.R_far (p:=⟨gb389,0,none⟩) (Kd.R_types HO382.out BK389.out (by decide)) (fun _ hk=>hk.2) (.int .i64 t385)) (fun _ hk=>hk.2) (.slice Ao45 t386.length co45)) (fun _ h_=>h_.1))) (Kd.R_base ho0) hb);have n2_:=zz31 (Kd.R_elder' (by (with_reducible repeat (first | apply zz12 | apply zz13 | apply zz14));exact (Kd.R_mono (Kd.R_far (p:=⟨gb389,1,none⟩) (Kd.R_far (p:=⟨gb389,0,none⟩) (Kd.R_types HO388.out BK389.out (by decide)) (fun _ hk=>hk.2) (.int .i64 t385)) (fun _ hk=>hk.2) (.slice Ao45 t386.length co45)) (fun _ h_=>h_.1))) (Kd.R_base ho0) hb);have n3_:=zz31 (Kd.R_lower (Kd.R_new' (Kd.R_new' (Kd.R_new' ho0 (Kd.R_lt (by (with_reducible repeat (first | apply zz12 | apply zz13 | apply zz14));exact (Kd.R_mono (Kd.R_far (p:=⟨gb389,1,none⟩) (Kd.R_far (p:=⟨gb389,0,none⟩) (Kd.R_types HO378.out BK389.out (by decide)) (fun _ hk=>hk.2) (.int .i64 t385)) (fun _ hk=>hk.2) (.slice Ao45 t386.length co45)) (fun _ h_=>h_.1))))) (Kd.R_lt (by (with_reducible repeat (first | apply zz12 | apply zz13 | apply zz14));exact (Kd.R_mono (Kd.R_far (p:=⟨gb389,1,none⟩) (Kd.R_far (p:=⟨gb389,0,none⟩) (Kd.R_types HO382.out BK389.out (by decide)) (fun _ hk=>hk.2) (.int .i64 t385)) (fun _ hk=>hk.2) (.slice Ao45 t386.length co45)) (fun _ h_=>h_.1))))) (Kd.R_lt (by (with_reducible repeat (first | apply zz12 | apply zz13 | apply zz14));exact (Kd.R_mono (Kd.R_far (p:=⟨gb389,1,none⟩) (Kd.R_far (p:=⟨gb389,0,none⟩) (Kd.R_types HO388.out BK389.out (by decide)) (fun _ hk=>hk.2) (.int .i64 t385)) (fun _ hk=>hk.2) (.slice Ao45 t386.length co45)) (fun _ h_=>h_.1))))) (zz5 (by repeat first | exact HB.out | apply zz2 | apply zz0 | apply zz1 | refine zz3 ?_ GE371.out | refine zz3 ?_ GE372.out | refine zz3 ?_ GE389.out)));have n4_:=zz31 (zz11 (g:=gb371) (o:=.cells #[.int .i64 a0_0,.slice A0_1 l0_1.length c0_1] 24 (0,0)) (by (with_reducible repeat (first | refine zz6 ?_ _ | refine zz7 ?_ | refine zz8 ?_ _));refine blk_far ?_ NB371_389.out _;(with_reducible repeat (first | refine zz6 ?_ _ | refine zz7 ?_ | refine zz8 ?_ _));refine blk_far ?_ NB371_389.out _;(with_reducible repeat (first | refine zz6 ?_ _ | refine zz7 ?_ | refine zz8 ?_ _));exact BK371.out) hb);have n5_:=zz31 (zz11 (g:=gb372) (o:=.cells #[.int .i64 a1_0,.slice A1_1 l1_1.length c1_1] 24 (0,0)) (by (with_reducible repeat (first | refine zz6 ?_ _ | refine zz7 ?_ | refine zz8 ?_ _));refine blk_far ?_ NB372_389.out _;(with_reducible repeat (first | refine zz6 ?_ _ | refine zz7 ?_ | refine zz8 ?_ _));refine blk_far ?_ NB372_389.out _;(with_reducible repeat (first | refine zz6 ?_ _ | refine zz7 ?_ | refine zz8 ?_ _));exact BK372.out) hb);have n6_:=zz31 (zz11 (g:=gb389) (o:=.cells #[.int .i64 t385,.slice Ao45 t386.length co45] 30 (0,0)) (by (with_reducible repeat (first | refine zz6 ?_ _ | refine zz7 ?_ | refine zz8 ?_ _));refine blk_put (cs:=#[.int .i64 t385,.slice none 0 0]) ?_ 1 _ rfl;(with_reducible repeat (first | refine zz6 ?_ _ | refine zz7 ?_ | refine zz8 ?_ _));refine blk_put (cs:=#[.int .i64 0,.slice none 0 0]) ?_ 0 _ rfl;(with_reducible repeat (first | refine zz6 ?_ _ | refine zz7 ?_ | refine zz8 ?_ _));exact BK389.out) hb);have n7_:=zz31 (zz4 (by repeat first | exact HB.out | apply zz2 | apply zz0 | apply zz1 | refine zz3 ?_ GE371.out | refine zz3 ?_ GE372.out | refine zz3 ?_ GE389.out) hb);clear HO378;clear HO382;clear HO388;clear BK371;clear BK372;clear BK389;clear HB;have HO378:=n0_;have HO382:=n1_;have HO388:=n2_;have HO393:=n3_;have BK371:=n4_;have BK372:=n5_;have BK389:=n6_;have HB:=n7_;clear n0_ n1_ n2_ n3_ n4_ n5_ n6_ n7_;(try clear hb);(try clear hb2);(try clear hk);(try clear hi);(try clear ho0)) | ((with_reducible refine gate_dst (N:=9) rfl ?_);refine box_event ?hg (N:=9) ?hd (cs:=#[.int .i64 0,.slice none 0 0]) (t:=30) ?hr ?_;(case hd=>rfl);(case hg=>rfl);(case hr=>first | (go_simp;done) | (go_simp;rfl));intro gb394 hg w48 hbox hb;have n0_:=zz31 (Kd.R_below (by (with_reducible repeat (first | apply zz12 | apply zz13 | apply zz14));exact HO378.out) hb);have n1_:=zz31 (Kd.R_below (by (with_reducible repeat (first | apply zz12 | apply zz13 | apply zz14));exact HO382.out) hb);have n2_:=zz31 (Kd.R_below (by (with_reducible repeat (first | apply zz12 | apply zz13 | apply zz14));exact HO388.out) hb);have n3_:=zz31 (Kd.R_below (by (with_reducible repeat (first | apply zz12 | apply zz13 | apply zz14));exact HO393.out) hb);have n4_:=zz31 (zz11 (g:=gb371) (o:=.cells #[.int .i64 a0_0,.slice A0_1 l0_1.length c0_1] 24 (0,0)) (by (with_reducible repeat (first | refine zz6 ?_ _ | refine zz7 ?_ | refine zz8 ?_ _));exact BK371.out) hb);have n5_:=zz31 (zz11 (g:=gb372) (o:=.cells #[.int .i64 a1_0,.slice A1_1 l1_1.length c1_1] 24 (0,0)) (by (with_reducible repeat (first | refine zz6 ?_ _ | refine zz7 ?_ | refine zz8 ?_ _));exact BK372.out) hb);have n6_:=zz31 (zz11 (g:=gb389) (o:=.cells #[.int .i64 t385,.slice Ao45 t386.length co45] 30 (0,0)) (by (with_reducible repeat (first | refine zz6 ?_ _ | refine zz7 ?_ | refine zz8 ?_ _));exact BK389.out) hb);have n7_:=zz31 (zz4 (by repeat first | exact HB.out | apply zz2 | apply zz0 | apply zz1 | refine zz3 ?_ GE371.out | refine zz3 ?_ GE372.out | refine zz3 ?_ GE389.out) hb);have n8_:=zz31 (hbox);have n9_:=zz31 ((by rw [hg];exact (zz5 (by repeat first | exact HB.out | apply zz2 | apply zz0 | apply zz1 | refine zz3 ?_ GE371.out | refine zz3 ?_ GE372.out | refine zz3 ?_ GE389.out)):w.heap.size≤gb394));have n10_:=zz31 ((by rw [hg];exact (zz5 (by repeat first | exact HB.out | apply zz2 | apply zz0 | apply zz1 | refine zz3 ?_ GE371.out | refine zz3 ?_ GE372.out | refine zz3 ?_ GE389.out)):w.heap.size≤gb394));have n11_:=zz31 ((by rw [hg];exact Nat.ne_of_lt (blk_lt (g:=gb371) (o:=.cells #[.int .i64 a0_0,.slice A0_1 l0_1.length c0_1] 24 (0,0)) (by (with_reducible repeat (first | refine zz6 ?_ _ | refine zz7 ?_ | refine zz8 ?_ _));exact BK371.out)):gb371 ≠ gb394));have n12_:=zz31 ((by rw [hg];exact Nat.ne_of_gt (blk_lt (g:=gb371) (o:=.cells #[.int .i64 a0_0,.slice A0_1 l0_1.length c0_1] 24 (0,0)) (by (with_reducible repeat (first | refine zz6 ?_ _ | refine zz7 ?_ | refine zz8 ?_ _));exact BK371.out)):gb394 ≠ gb371));have n13_:=zz31 ((by rw [hg];exact Nat.ne_of_lt (blk_lt (g:=gb372) (o:=.cells #[.int .i64 a1_0,.slice A1_1 l1_1.length c1_1] 24 (0,0)) (by (with_reducible repeat (first | refine zz6 ?_ _ | refine zz7 ?_ | refine zz8 ?_ _));exact BK372.out)):gb372 ≠ gb394));have n14_:=zz31 ((by rw [hg];exact Nat.ne_of_gt (blk_lt (g:=gb372) (o:=.cells #[.int .i64 a1_0,.slice A1_1 l1_1.length c1_1] 24 (0,0)) (by (with_reducible repeat (first | refine zz6 ?_ _ | refine zz7 ?_ | refine zz8 ?_ _));exact BK372.out)):gb394 ≠ gb372));have n15_:=zz31 ((by rw [hg];exact Nat.ne_of_lt (blk_lt (g:=gb389) (o:=.cells #[.int .i64 t385,.slice Ao45 t386.length co45] 30 (0,0)) (by (with_reducible repeat (first | refine zz6 ?_ _ | refine zz7 ?_ | refine zz8 ?_ _));exact BK389.out)):gb389 ≠ gb394));have n16_:=zz31 ((by rw [hg];exact Nat.ne_of_gt (blk_lt (g:=gb389) (o:=.cells #[.int .i64 t385,.slice Ao45 t386.length co45] 30 (0,0)) (by (with_reducible repeat (first | refine zz6 ?_ _ | refine zz7 ?_ | refine zz8 ?_ _));exact BK389.out)):gb394 ≠ gb389));clear HO378;clear HO382;clear HO388;clear HO393;clear BK371;clear BK372;clear BK389;clear HB;have HO378:=n0_;have HO382:=n1_;have HO388:=n2_;have HO393:=n3_;have BK371:=n4_;have BK372:=n5_;have BK389:=n6_;have HB:=n7_;have BK394:=n8_;have GW394:=n9_;have GE394:=n10_;have NB371_394:=n11_;have NB394_371:=n12_;have NB372_394:=n13_;have NB394_372:=n14_;have NB389_394:=n15_;have NB394_389:=n16_;clear n0_ n1_ n2_ n3_ n4_ n5_ n6_ n7_ n8_ n9_ n10_ n11_ n12_ n13_ n14_ n15_ n16_;clear hb hbox hg;have hnb49:=NB394_371.out;have hnc49:=NB371_394.out;have hnb50:=NB394_372.out;have hnc50:=NB372_394.out;have hnb51:=NB394_389.out;have hnc51:=NB389_394.out;have hcz52_0:w48.cell? ⟨gb394,0,none⟩=some (.int .i64 0):=(zz9 BK394.out 0).trans rfl;have hcz52_1:w48.cell? ⟨gb394,1,none⟩=some (.slice none 0 0):=(zz9 BK394.out 1).trans rfl;have hfz52_0:=zz10 BK394.out 0;have hfz52_1:=zz10 BK394.out 1;obtain ⟨Ao53,co53,eo53⟩:=Kd.R_slice HO393.out;subst eo53;have hcz54_0:w48.cell? ⟨gb389,0,none⟩=some (.int .i64 t385):=(zz9 BK389.out 0).trans rfl;have hcz54_1:w48.cell? ⟨gb389,1,none⟩=some (.slice Ao45 t386.length co45):=(zz9 BK389.out 1).trans rfl;have hfz54_0:=zz10 BK389.out 0;have hfz54_1:=zz10 BK389.out 1) | ((with_reducible refine gate_callee (f:=11) rfl ?_);refine goesL_ (some 37) rfl rfl Try.func11 (by kernel_rfl) rfl #[.agg #[.int .i64 t385,.slice Ao45 t386.length co45],.agg #[.int .i64 t390,.slice Ao53 t391.length co53]] rfl (by (try simp only [zz26,zz27,zz28]);first | done | rfl | (simp only [zz24,zz25];rfl)) ?_;(with_reducible refine (impl_AreSame.calls k t385 _ _ t386 t390 _ _ t391 t395 t396 _ ?side1 ?side2 ?side3 ?side4 A24.out).mono ?_);(case side1=>refine (Kd.R_reads' (e:=70) (base:=w.heap.size) (ok:=fun k_=>(((True∧some k_ ≠ (.slice Ao36 t376.length co36:Value).ownBlock)∧some k_ ≠ (.slice Ao37 t380.length co37:Value).ownBlock)∧some k_ ≠ (.slice Ao53 t391.length co53:Value).ownBlock)) (n:=t386.length) (c:=co45) ?_).2.2;exact (by (with_reducible repeat (first | apply zz12 | apply zz13 | apply zz14));exact (Kd.R_mono (Kd.R_far (p:=⟨gb394,1,none⟩) (Kd.R_far (p:=⟨gb394,0,none⟩) (Kd.R_types HO388.out BK394.out (by decide)) (fun _ hk=>hk.2) (.int .i64 t390)) (fun _ hk=>hk.2) (.slice Ao53 t391.length co53)) (fun _ h_=>h_.1))));(case side2=>exact (Kd.R_reads' HO388.out).2.1);(case side3=>refine (Kd.R_reads' (e:=70) (base:=w.heap.size) (ok:=fun k_=>(((True∧some k_ ≠ (.slice Ao36 t376.length co36:Value).ownBlock)∧some k_ ≠ (.slice Ao37 t380.length co37:Value).ownBlock)∧some k_ ≠ (.slice Ao45 t386.length co45:Value).ownBlock)) (n:=t391.length) (c:=co53) ?_).2.2;exact (by (with_reducible repeat (first | apply zz12 | apply zz13 | apply zz14));exact (Kd.R_mono (Kd.R_far (p:=⟨gb394,1,none⟩) (Kd.R_far (p:=⟨gb394,0,none⟩) (Kd.R_types HO393.out BK394.out (by decide)) (fun _ hk=>hk.2) (.int .i64 t390)) (fun _ hk=>hk.2) (.slice Ao53 t391.length co53)) (fun _ h_=>h_.1))));(case side4=>exact (Kd.R_reads' HO393.out).2.1);rintro e w55 ⟨rfl,hb⟩;refine ⟨_,rfl,?_⟩;have n0_:=zz31 (Kd.R_below (by (with_reducible repeat (first | apply zz12 | apply zz13 | apply zz14));exact (Kd.R_mono (Kd.R_far (p:=⟨gb394,1,none⟩) (Kd.R_far (p:=⟨gb394,0,none⟩) (Kd.R_types HO378.out BK394.out (by decide)) (fun _ hk=>hk.2) (.int .i64 t390)) (fun _ hk=>hk.2) (.slice Ao53 t391.length co53)) (fun _ h_=>h_.1))) hb);have n1_:=zz31 (Kd.R_below (by (with_reducible repeat (first | apply zz12 | apply zz13 | apply zz14));exact (Kd.R_mono (Kd.R_far (p:=⟨gb394,1,none⟩) (Kd.R_far (p:=⟨gb394,0,none⟩) (Kd.R_types HO382.out BK394.out (by decide)) (fun _ hk=>hk.2) (.int .i64 t390)) (fun _ hk=>hk.2) (.slice Ao53 t391.length co53)) (fun _ h_=>h_.1))) hb);have n2_:=zz31 (Kd.R_below (by (with_reducible repeat (first | apply zz12 | apply zz13 | apply zz14));exact (Kd.R_mono (Kd.R_far (p:=⟨gb394,1,none⟩) (Kd.R_far (p:=⟨gb394,0,none⟩) (Kd.R_types HO388.out BK394.out (by decide)) (fun _ hk=>hk.2) (.int .i64 t390)) (fun _ hk=>hk.2) (.slice Ao53 t391.length co53)) (fun _ h_=>h_.1))) hb);have n3_:=zz31 (Kd.R_below (by (with_reducible repeat (first | apply zz12 | apply zz13 | apply zz14));exact (Kd.R_mono (Kd.R_far (p:=⟨gb394,1,none⟩) (Kd.R_far (p:=⟨gb394,0,none⟩) (Kd.R_types HO393.out BK394.out (by decide)) (fun _ hk=>hk.2) (.int .i64 t390)) (fun _ hk=>hk.2) (.slice Ao53 t391.length co53)) (fun _ h_=>h_.1))) hb);have n4_:=zz31 (zz11 (g:=gb371) (o:=.cells #[.int .i64 a0_0,.slice A0_1 l0_1.length c0_1] 24 (0,0)) (by (with_reducible repeat (first | refine zz6 ?_ _ | refine zz7 ?_ | refine zz8 ?_ _));refine blk_far ?_ NB371_394.out _;(with_reducible repeat (first | refine zz6 ?_ _ | refine zz7 ?_ | refine zz8 ?_ _));refine blk_far ?_ NB371_394.out _;(with_reducible repeat (first | refine zz6 ?_ _ | refine zz7 ?_ | refine zz8 ?_ _));exact BK371.out) hb);have n5_:=zz31 (zz11 (g:=gb372) (o:=.cells #[.int .i64 a1_0,.slice A1_1 l1_1.length c1_1] 24 (0,0)) (by (with_reducible repeat (first | refine zz6 ?_ _ | refine zz7 ?_ | refine zz8 ?_ _));refine blk_far ?_ NB372_394.out _;(with_reducible repeat (first | refine zz6 ?_ _ | refine zz7 ?_ | refine zz8 ?_ _));refine blk_far ?_ NB372_394.out _;(with_reducible repeat (first | refine zz6 ?_ _ | refine zz7 ?_ | refine zz8 ?_ _));exact BK372.out) hb);have n6_:=zz31 (zz11 (g:=gb389) (o:=.cells #[.int .i64 t385,.slice Ao45 t386.length co45] 30 (0,0)) (by (with_reducible repeat (first | refine zz6 ?_ _ | refine zz7 ?_ | refine zz8 ?_ _));refine blk_far ?_ NB389_394.out _;(with_reducible repeat (first | refine zz6 ?_ _ | refine zz7 ?_ | refine zz8 ?_ _));refine blk_far ?_ NB389_394.out _;(with_reducible repeat (first | refine zz6 ?_ _ | refine zz7 ?_ | refine zz8 ?_ _));exact BK389.out) hb);have n7_:=zz31 (zz11 (g:=gb394) (o:=.cells #[.int .i64 t390,.slice Ao53 t391.length co53] 30 (0,0)) (by (with_reducible repeat (first | refine zz6 ?_ _ | refine zz7 ?_ | refine zz8 ?_ _));refine blk_put (cs:=#[.int .i64 t390,.slice none 0 0]) ?_ 1 _ rfl;(with_reducible repeat (first | refine zz6 ?_ _ | refine zz7 ?_ | refine zz8 ?_ _));refine blk_put (cs:=#[.int .i64 0,.slice none 0 0]) ?_ 0 _ rfl;(with_reducible repeat (first | refine zz6 ?_ _ | refine zz7 ?_ | refine zz8 ?_ _));exact BK394.out) hb);have n8_:=zz31 (zz4 (by repeat first | exact HB.out | apply zz2 | apply zz0 | apply zz1 | refine zz3 ?_ GE371.out | refine zz3 ?_ GE372.out | refine zz3 ?_ GE389.out | refine zz3 ?_ GE394.out) hb);clear HO378;clear HO382;clear HO388;clear HO393;clear BK371;clear BK372;clear BK389;clear BK394;clear HB;have HO378:=n0_;have HO382:=n1_;have HO388:=n2_;have HO393:=n3_;have BK371:=n4_;have BK372:=n5_;have BK389:=n6_;have BK394:=n7_;have HB:=n8_;clear n0_ n1_ n2_ n3_ n4_ n5_ n6_ n7_ n8_;(try clear hb);(try clear hb2);(try clear hk);(try clear hi)))
   (try simp only [Act.put,zz21,zz22,zz23])
   go_cut [47] (fun v47 wc=>∃ (kq:Nat) (x47_24:Bool),v47=.bool x47_24∧Aside0 (laws_FnExactAreSame.j0 kq x47_24 a0_0 l0_1 a1_0 l1_1 t385 t386 t390 t391=some r)∧Aside0 (kq≤k)∧Aside0 (Kd.R k70 70 wc w.heap.size (fun k_=>some k_ ≠ ((.slice Ao53 t391.length co53):Value).ownBlock) (.slice Ao45 t386.length co45) t386)∧Aside0 (Kd.R k70 70 wc w.heap.size (fun k_=>some k_ ≠ ((.slice Ao45 t386.length co45):Value).ownBlock) (.slice Ao53 t391.length co53) t391)∧Aside0 (wc.heap[gb371]?=some (.cells #[.int .i64 a0_0,(.slice A0_1 l0_1.length c0_1)] 24 (0,0)))∧Aside0 (wc.heap[gb372]?=some (.cells #[.int .i64 a1_0,(.slice A1_1 l1_1.length c1_1)] 24 (0,0)))∧Aside0 (wc.heap[gb389]?=some (.cells #[.int .i64 t385,(.slice Ao45 t386.length co45)] 30 (0,0)))∧Aside0 (wc.heap[gb394]?=some (.cells #[.int .i64 t390,(.slice Ao53 t391.length co53)] 30 (0,0)))∧Aside0 (Below w.heap.size w wc))
   case first =>
    have H:=HC25.out
    clear HC25
    by_cases c56:(t395 != t383)=true
    ·rw [if_pos c56] at H
     have c56b0:(t395 != t383)=true:=c56
     (try (have c56b1:decide (t395=t383)=false:=by simpa using c56))
     (try (have c56b2:(t395 == t383)=false:=by simpa using c56))
     (try (have c56b3:¬ (t395=t383):=by simpa using c56))
     clear c56
     (first | rw [c56b0] | (simp only [i64_w,i32_w];rw [c56b0]) | skip)
     have H':=zz31 H
     clear H
     go_wp2
     go_meet
     case rel=>exact ⟨_,(true),(by first | rfl | (simp;done) | (simp [*];done)),H',⟨by first | omega | exact Nat.le_refl _⟩,⟨by (with_reducible repeat (first | apply zz12 | apply zz13 | apply zz14));exact Kd.R_mono HO388.out (fun _ hk=>hk.2)⟩,⟨by (with_reducible repeat (first | apply zz12 | apply zz13 | apply zz14));exact Kd.R_mono HO393.out (fun _ hk=>hk.2)⟩,⟨by (with_reducible repeat (first | refine zz6 ?_ _ | refine zz7 ?_ | refine zz8 ?_ _));exact BK371.out⟩,⟨by (with_reducible repeat (first | refine zz6 ?_ _ | refine zz7 ?_ | refine zz8 ?_ _));exact BK372.out⟩,⟨by (with_reducible repeat (first | refine zz6 ?_ _ | refine zz7 ?_ | refine zz8 ?_ _));exact BK389.out⟩,⟨by (with_reducible repeat (first | refine zz6 ?_ _ | refine zz7 ?_ | refine zz8 ?_ _));exact BK394.out⟩,⟨by repeat first | exact HB.out | apply zz2 | apply zz0 | apply zz1 | refine zz3 ?_ GE371.out | refine zz3 ?_ GE372.out | refine zz3 ?_ GE389.out | refine zz3 ?_ GE394.out⟩⟩
    ·rw [if_neg c56] at H
     have c56b0:(t395 != t383)=false:=by simpa using c56
     (try (have c56b1:decide (t395=t383)=true:=by simpa using c56))
     (try (have c56b2:(t395 == t383)=true:=by simpa using c56))
     clear c56
     (first | rw [c56b0] | (simp only [i64_w,i32_w];rw [c56b0]) | skip)
     have H':=zz31 H
     clear H
     go_wp2
     go_meet
     case rel=>exact ⟨_,((t396 != t384)),(by first | rfl | (simp;done) | (simp [*];done)),H',⟨by first | omega | exact Nat.le_refl _⟩,⟨by (with_reducible repeat (first | apply zz12 | apply zz13 | apply zz14));exact Kd.R_mono HO388.out (fun _ hk=>hk.2)⟩,⟨by (with_reducible repeat (first | apply zz12 | apply zz13 | apply zz14));exact Kd.R_mono HO393.out (fun _ hk=>hk.2)⟩,⟨by (with_reducible repeat (first | refine zz6 ?_ _ | refine zz7 ?_ | refine zz8 ?_ _));exact BK371.out⟩,⟨by (with_reducible repeat (first | refine zz6 ?_ _ | refine zz7 ?_ | refine zz8 ?_ _));exact BK372.out⟩,⟨by (with_reducible repeat (first | refine zz6 ?_ _ | refine zz7 ?_ | refine zz8 ?_ _));exact BK389.out⟩,⟨by (with_reducible repeat (first | refine zz6 ?_ _ | refine zz7 ?_ | refine zz8 ?_ _));exact BK394.out⟩,⟨by repeat first | exact HB.out | apply zz2 | apply zz0 | apply zz1 | refine zz3 ?_ GE371.out | refine zz3 ?_ GE372.out | refine zz3 ?_ GE389.out | refine zz3 ?_ GE394.out⟩⟩
   case rest =>
    clear HC25
    try clear c1
    try clear c2
    try clear p2
    try clear c3
    try clear c4
    try clear c4b0
    try clear c5
    try clear c7
    try clear c8
    try clear c9
    try clear c10
    try clear c11
    try clear c11b0
    try clear c14
    try clear c28
    try clear c42
    try clear c43
    try clear c49
    try clear c50
    try clear c51
    try clear c56
    try clear c56b0
    try clear c56b1
    try clear c56b2
    try clear hcz15_0
    try clear hcz15_1
    try clear hcz17_0
    try clear hcz17_1
    try clear hcz29_0
    try clear hcz29_1
    try clear hcz31_0
    try clear hcz31_1
    try clear hcz39_0
    try clear hcz39_1
    try clear hcz44_0
    try clear hcz44_1
    try clear hcz46_0
    try clear hcz46_1
    try clear hcz52_0
    try clear hcz52_1
    try clear hcz54_0
    try clear hcz54_1
    try clear hcz8_0
    try clear hcz8_1
    try clear hfz15_0
    try clear hfz15_1
    try clear hfz17_0
    try clear hfz17_1
    try clear hfz29_0
    try clear hfz29_1
    try clear hfz31_0
    try clear hfz31_1
    try clear hfz39_0
    try clear hfz39_1
    try clear hfz44_0
    try clear hfz44_1
    try clear hfz46_0
    try clear hfz46_1
    try clear hfz52_0
    try clear hfz52_1
    try clear hfz54_0
    try clear hfz54_1
    try clear hfz8_0
    try clear hfz8_1
    obtain ⟨kq,x47_24,rfl,HA,HJ24,HO_390001,HO_395001,BK371,BK372,BK389,BK394,HB⟩:=hcut
    cases kq with
    | zero=>exact absurd HA.out (by simp [laws_FnExactAreSame.j0])
    | succ kj24 =>
     have H:=HA.out
     clear HA
     simp only [laws_FnExactAreSame.j0] at H
     by_cases c57:x47_24=true
     ·subst c57
      have H1:(some false)=some r:=by rw [if_pos rfl] at H;exact H
      clear H
      have H:=H1
      clear H1
      obtain rfl:=Option.some.inj H
      go_wp2
      go_ret
      exact ⟨by first | rfl | (simp [errW_none,errW_some] <;> rfl) | (simp [*,errW_none,errW_some] <;> rfl),by repeat first | exact HB.out | apply zz2 | apply zz0 | apply zz1 | refine zz3 ?_ GE371.out | refine zz3 ?_ GE372.out | refine zz3 ?_ GE389.out | refine zz3 ?_ GE394.out⟩
     ·replace c57:=Bool.eq_false_iff.mpr c57
      subst c57
      have H1:((laws_toParty.f kj24 a0_0 l0_1).bind fun bt397=>((laws_eqParty.f kj24 t385 t386 bt397.1 bt397.2).bind fun t401=>(if t401=true then ((laws_toParty.f kj24 a1_0 l1_1).bind fun bt402=>((laws_eqParty.f kj24 t390 t391 bt402.1 bt402.2).bind fun t406=>(if t406=true then (some true) else (some false)))) else (some false))))=some r:=by rw [if_neg (show ¬ (false=true) by decide)] at H;exact H
      clear H
      have H:=H1
      clear H1
      replace H:=zz30.mp H
      obtain ⟨⟨t397,t398⟩,A580,H⟩:=H
      replace H:((laws_eqParty.f kj24 t385 t386 t397 t398).bind fun t401=>(if t401=true then ((laws_toParty.f kj24 a1_0 l1_1).bind fun bt402=>((laws_eqParty.f kj24 t390 t391 bt402.1 bt402.2).bind fun t406=>(if t406=true then (some true) else (some false)))) else (some false)))=some r:=H
      have A58:=zz31 A580
      clear A580
      replace H:=zz30.mp H
      obtain ⟨t401,A590,H⟩:=H
      replace H:(if t401=true then ((laws_toParty.f kj24 a1_0 l1_1).bind fun bt402=>((laws_eqParty.f kj24 t390 t391 bt402.1 bt402.2).bind fun t406=>(if t406=true then (some true) else (some false)))) else (some false))=some r:=H
      have A59:=zz31 A590
      clear A590
      by_cases c60:t401=true
      ·subst c60
       have H1:((laws_toParty.f kj24 a1_0 l1_1).bind fun bt402=>((laws_eqParty.f kj24 t390 t391 bt402.1 bt402.2).bind fun t406=>(if t406=true then (some true) else (some false))))=some r:=by rw [if_pos rfl] at H;exact H
       clear H
       have H:=H1
       clear H1
       replace H:=zz30.mp H
       obtain ⟨⟨t402,t403⟩,A610,H⟩:=H
       replace H:((laws_eqParty.f kj24 t390 t391 t402 t403).bind fun t406=>(if t406=true then (some true) else (some false)))=some r:=H
       have A61:=zz31 A610
       clear A610
       replace H:=zz30.mp H
       obtain ⟨t406,A620,H⟩:=H
       replace H:(if t406=true then (some true) else (some false))=some r:=H
       have A62:=zz31 A620
       clear A620
       by_cases c63:t406=true
       ·subst c63
        have H1:(some true)=some r:=by rw [if_pos rfl] at H;exact H
        clear H
        have H:=H1
        clear H1
        obtain rfl:=Option.some.inj H
        try go_wp2
        have n0_:=zz31 (zz14 HO_390001.out)
        have n1_:=zz31 (zz14 HO_395001.out)
        have n2_:=zz31 (zz7 BK371.out)
        have n3_:=zz31 (zz7 BK372.out)
        have n4_:=zz31 (zz7 BK389.out)
        have n5_:=zz31 (zz7 BK394.out)
        have n6_:=zz31 (zz1 HB.out)
        clear HO_390001
        clear HO_395001
        clear BK371
        clear BK372
        clear BK389
        clear BK394
        clear HB
        have HO_390001:=n0_
        have HO_395001:=n1_
        have BK371:=n2_
        have BK372:=n3_
        have BK389:=n4_
        have BK394:=n5_
        have HB:=n6_
        clear n0_ n1_ n2_ n3_ n4_ n5_ n6_
        refine start_ (n:=5) (S:=fun w'=>w'.cell? ⟨gb389,0,none⟩=some (.int .i64 t385)∧w'.cell? ⟨gb389,1,none⟩=some (.slice Ao45 t386.length co45)∧w'.cell? ⟨gb371,0,none⟩=some (.int .i64 a0_0)∧w'.cell? ⟨gb371,1,none⟩=some (.slice A0_1 l0_1.length c0_1)) (ds:=[]) #[F,F,F,F,F] (by kernel_rfl) rfl rfl ⟨(zz9 BK389.out 0).trans rfl,(zz9 BK389.out 1).trans rfl,(zz9 BK371.out 0).trans rfl,(zz9 BK371.out 1).trans rfl⟩ (fun hHeld=>?_)
        generalize wc.drew=w64 at HO_390001 HO_395001 BK371 BK372 BK389 BK394 HB hHeld ⊢
        refine take_ (i:=0) (N:=some 48) (v:=?_) (a':=?_) #[T,F,F,F,F] rfl rfl (by kernel_rfl) (fun _ _ _ h=>h) (Or.inl ⟨by rfl,?_⟩) hHeld ?_ ?_
        rotate_left
        ·rintro w' ⟨s0,s1,s2,s3⟩
         go_simp
         with_reducible rfl
        rotate_left
        ·simp only [Act.put,zz21,zz22,zz23,i64_w,i32_w]
         rfl
        refine take_ (i:=1) (N:=some 49) (v:=?_) (a':=?_) #[T,T,F,F,F] rfl rfl (by kernel_rfl) (fun _ _ _ h=>h) (Or.inl ⟨by rfl,?_⟩) hHeld ?_ ?_
        rotate_left
        ·rintro w' ⟨s0,s1,s2,s3⟩
         go_simp
         with_reducible rfl
        rotate_left
        ·simp only [Act.put,zz21,zz22,zz23,i64_w,i32_w]
         rfl
        refine one_ (i:=2) (N:=some 50) #[T,T,T,F,F] rfl rfl (by kernel_rfl) (by decide) (fun K hK=>?_)
        refine goes_ Try.func10 (by kernel_rfl) rfl #[.agg #[.int .i64 a0_0,.slice A0_1 l0_1.length c0_1]] (by rfl) rfl rfl (by (try simp only [zz26,zz27,zz28]);first | done | rfl | (simp only [zz24,zz25];rfl)) ?_
        with_reducible refine (laws_toParty.calls kj24 a0_0 _ _ l0_1 t397 t398 _ ?side1 ?side2 A58.out).mono ?_
        (case side1=>repeat (first | exact (Kd.C_below HR0_1.out HB.out) | (with_reducible refine zz18 ?_ _) | (with_reducible refine zz19 ?_ _) | (with_reducible refine zz20 ?_)))
        (case side2=>exact HC0_1.out)
        rintro e w65 ⟨v399,rfl,ho0,hb⟩
        refine ⟨_,rfl,?_⟩
        have n0_:=zz31 (Kd.R_elder' (by (with_reducible repeat (first | apply zz12 | apply zz13 | apply zz14));exact HO_390001.out) (Kd.R_base ho0) hb)
        have n1_:=zz31 (Kd.R_elder' (by (with_reducible repeat (first | apply zz12 | apply zz13 | apply zz14));exact HO_395001.out) (Kd.R_base ho0) hb)
        have n2_:=zz31 (Kd.R_lower (Kd.R_new' (Kd.R_new' ho0 (Kd.R_lt (by (with_reducible repeat (first | apply zz12 | apply zz13 | apply zz14));exact HO_390001.out))) (Kd.R_lt (by (with_reducible repeat (first | apply zz12 | apply zz13 | apply zz14));exact HO_395001.out))) (zz5 (by repeat first | exact HB.out | apply zz2 | apply zz0 | apply zz1 | refine zz3 ?_ GE371.out | refine zz3 ?_ GE372.out | refine zz3 ?_ GE389.out | refine zz3 ?_ GE394.out)))
        have n3_:=zz31 (zz11 (g:=gb371) (o:=.cells #[.int .i64 a0_0,.slice A0_1 l0_1.length c0_1] 24 (0,0)) (by (with_reducible repeat (first | refine zz6 ?_ _ | refine zz7 ?_ | refine zz8 ?_ _));exact BK371.out) hb)
        have n4_:=zz31 (zz11 (g:=gb372) (o:=.cells #[.int .i64 a1_0,.slice A1_1 l1_1.length c1_1] 24 (0,0)) (by (with_reducible repeat (first | refine zz6 ?_ _ | refine zz7 ?_ | refine zz8 ?_ _));exact BK372.out) hb)
        have n5_:=zz31 (zz11 (g:=gb389) (o:=.cells #[.int .i64 t385,.slice Ao45 t386.length co45] 30 (0,0)) (by (with_reducible repeat (first | refine zz6 ?_ _ | refine zz7 ?_ | refine zz8 ?_ _));exact BK389.out) hb)
        have n6_:=zz31 (zz11 (g:=gb394) (o:=.cells #[.int .i64 t390,.slice Ao53 t391.length co53] 30 (0,0)) (by (with_reducible repeat (first | refine zz6 ?_ _ | refine zz7 ?_ | refine zz8 ?_ _));exact BK394.out) hb)
        have n7_:=zz31 (zz4 (by repeat first | exact HB.out | apply zz2 | apply zz0 | apply zz1 | refine zz3 ?_ GE371.out | refine zz3 ?_ GE372.out | refine zz3 ?_ GE389.out | refine zz3 ?_ GE394.out) hb)
        clear HO_390001
        clear HO_395001
        clear BK371
        clear BK372
        clear BK389
        clear BK394
        clear HB
        have HO_390001:=n0_
        have HO_395001:=n1_
        have HO400:=n2_
        have BK371:=n3_
        have BK372:=n4_
        have BK389:=n5_
        have BK394:=n6_
        have HB:=n7_
        clear n0_ n1_ n2_ n3_ n4_ n5_ n6_ n7_
        (try clear hb)
        (try clear hb2)
        (try clear hk)
        (try clear hi)
        (try clear ho0)
        obtain ⟨Ao66,co66,eo66⟩:=Kd.R_slice HO400.out
        (first | subst eo66 | (injection eo66 with f1_ f2_ f3_;have f4_:=f1_.symm;have f5_:=f3_.symm;clear f1_ f2_ f3_;subst f4_;subst f5_))
        refine hK.out _ _ ⟨(zz9 BK389.out 0).trans rfl,(zz9 BK389.out 1).trans rfl,(zz9 BK371.out 0).trans rfl,(zz9 BK371.out 1).trans rfl⟩ (fun hHeld=>?_)
        clear hK K
        refine norm_ (a':=?_) ?_ ?_
        rotate_left
        ·show Act.put _ (some 50) _=_
         simp only [Act.put,zz21,zz22,zz23,i64_w,i32_w]
         rfl
        refine one_ (i:=3) (N:=some 51) #[T,T,T,T,F] rfl rfl (by kernel_rfl) (by decide) (fun K hK=>?_)
        refine goes_ Try.func12 (by kernel_rfl) rfl #[.agg #[.int .i64 t385,.slice Ao45 t386.length co45],.agg #[.int .i64 t397,.slice Ao66 t398.length co66]] (by rfl) rfl rfl (by (try simp only [zz26,zz27,zz28]);first | done | rfl | (simp only [zz24,zz25];rfl)) ?_
        with_reducible refine (laws_eqParty.calls kj24 t385 _ _ t386 t397 _ _ t398 true _ ?side1 ?side2 ?side3 ?side4 A59.out).mono ?_
        (case side1=>repeat (first | exact (Kd.R_reads' HO_390001.out).2.2 | (with_reducible refine zz18 ?_ _) | (with_reducible refine zz19 ?_ _) | (with_reducible refine zz20 ?_)))
        (case side2=>exact (Kd.R_reads' HO_390001.out).2.1)
        (case side3=>repeat (first | exact (Kd.R_reads' HO400.out).2.2 | (with_reducible refine zz18 ?_ _) | (with_reducible refine zz19 ?_ _) | (with_reducible refine zz20 ?_)))
        (case side4=>exact (Kd.R_reads' HO400.out).2.1)
        rintro e w67 ⟨rfl,hb⟩
        refine ⟨_,rfl,?_⟩
        have n0_:=zz31 (Kd.R_below (by (with_reducible repeat (first | apply zz12 | apply zz13 | apply zz14));exact HO_390001.out) hb)
        have n1_:=zz31 (Kd.R_below (by (with_reducible repeat (first | apply zz12 | apply zz13 | apply zz14));exact HO_395001.out) hb)
        have n2_:=zz31 (Kd.R_below (by (with_reducible repeat (first | apply zz12 | apply zz13 | apply zz14));exact HO400.out) hb)
        have n3_:=zz31 (zz11 (g:=gb371) (o:=.cells #[.int .i64 a0_0,.slice A0_1 l0_1.length c0_1] 24 (0,0)) (by (with_reducible repeat (first | refine zz6 ?_ _ | refine zz7 ?_ | refine zz8 ?_ _));exact BK371.out) hb)
        have n4_:=zz31 (zz11 (g:=gb372) (o:=.cells #[.int .i64 a1_0,.slice A1_1 l1_1.length c1_1] 24 (0,0)) (by (with_reducible repeat (first | refine zz6 ?_ _ | refine zz7 ?_ | refine zz8 ?_ _));exact BK372.out) hb)
        have n5_:=zz31 (zz11 (g:=gb389) (o:=.cells #[.int .i64 t385,.slice Ao45 t386.length co45] 30 (0,0)) (by (with_reducible repeat (first | refine zz6 ?_ _ | refine zz7 ?_ | refine zz8 ?_ _));exact BK389.out) hb)
        have n6_:=zz31 (zz11 (g:=gb394) (o:=.cells #[.int .i64 t390,.slice Ao53 t391.length co53] 30 (0,0)) (by (with_reducible repeat (first | refine zz6 ?_ _ | refine zz7 ?_ | refine zz8 ?_ _));exact BK394.out) hb)
        have n7_:=zz31 (zz4 (by repeat first | exact HB.out | apply zz2 | apply zz0 | apply zz1 | refine zz3 ?_ GE371.out | refine zz3 ?_ GE372.out | refine zz3 ?_ GE389.out | refine zz3 ?_ GE394.out) hb)
        clear HO_390001
        clear HO_395001
        clear HO400
        clear BK371
        clear BK372
        clear BK389
        clear BK394
        clear HB
        have HO_390001:=n0_
        have HO_395001:=n1_
        have HO400:=n2_
        have BK371:=n3_
        have BK372:=n4_
        have BK389:=n5_
        have BK394:=n6_
        have HB:=n7_
        clear n0_ n1_ n2_ n3_ n4_ n5_ n6_ n7_
        (try clear hb)
        (try clear hb2)
        (try clear hk)
        (try clear hi)
        refine hK.out _ _ ⟨(zz9 BK389.out 0).trans rfl,(zz9 BK389.out 1).trans rfl,(zz9 BK371.out 0).trans rfl,(zz9 BK371.out 1).trans rfl⟩ (fun hHeld=>?_)
        clear hK K
        refine norm_ (a':=?_) ?_ ?_
        rotate_left
        ·show Act.put _ (some 51) _=_
         simp only [Act.put,zz21,zz22,zz23,i64_w,i32_w]
         rfl
        refine pure_ (i:=4) (N:=some 52) (v:=?_) (a':=?_) #[T,T,T,T,T] rfl rfl (by kernel_rfl) (fun _ _ _ h=>h) (Or.inl ⟨by rfl,?_⟩) ?_ ?_
        rotate_left
        ·intro w'
         go_simp
         with_reducible rfl
        rotate_left
        ·simp only [Act.put,zz21,zz22,zz23,i64_w,i32_w]
         rfl
        refine done_ (by kernel_rfl) ?_
        try go_wp2
        have n0_:=zz31 (zz14 HO_390001.out)
        have n1_:=zz31 (zz14 HO_395001.out)
        have n2_:=zz31 (zz14 HO400.out)
        have n3_:=zz31 (zz7 BK371.out)
        have n4_:=zz31 (zz7 BK372.out)
        have n5_:=zz31 (zz7 BK389.out)
        have n6_:=zz31 (zz7 BK394.out)
        have n7_:=zz31 (zz1 HB.out)
        clear HO_390001
        clear HO_395001
        clear HO400
        clear BK371
        clear BK372
        clear BK389
        clear BK394
        clear HB
        have HO_390001:=n0_
        have HO_395001:=n1_
        have HO400:=n2_
        have BK371:=n3_
        have BK372:=n4_
        have BK389:=n5_
        have BK394:=n6_
        have HB:=n7_
        clear n0_ n1_ n2_ n3_ n4_ n5_ n6_ n7_
        refine start_ (n:=5) (S:=fun w'=>w'.cell? ⟨gb394,0,none⟩=some (.int .i64 t390)∧w'.cell? ⟨gb394,1,none⟩=some (.slice Ao53 t391.length co53)∧w'.cell? ⟨gb372,0,none⟩=some (.int .i64 a1_0)∧w'.cell? ⟨gb372,1,none⟩=some (.slice A1_1 l1_1.length c1_1)) (ds:=[]) #[F,F,F,F,F] (by kernel_rfl) rfl rfl ⟨(zz9 BK394.out 0).trans rfl,(zz9 BK394.out 1).trans rfl,(zz9 BK372.out 0).trans rfl,(zz9 BK372.out 1).trans rfl⟩ (fun hHeld=>?_)
        generalize w67.drew=w68 at HO_390001 HO_395001 HO400 BK371 BK372 BK389 BK394 HB hHeld ⊢
        refine take_ (i:=0) (N:=some 53) (v:=?_) (a':=?_) #[T,F,F,F,F] rfl rfl (by kernel_rfl) (fun _ _ _ h=>h) (Or.inl ⟨by rfl,?_⟩) hHeld ?_ ?_
        rotate_left
        ·rintro w' ⟨s0,s1,s2,s3⟩
         go_simp
         with_reducible rfl
        rotate_left
        ·simp only [Act.put,zz21,zz22,zz23,i64_w,i32_w]
         rfl
        refine take_ (i:=1) (N:=some 54) (v:=?_) (a':=?_) #[T,T,F,F,F] rfl rfl (by kernel_rfl) (fun _ _ _ h=>h) (Or.inl ⟨by rfl,?_⟩) hHeld ?_ ?_
        rotate_left
        ·rintro w' ⟨s0,s1,s2,s3⟩
         go_simp
         with_reducible rfl
        rotate_left
        ·simp only [Act.put,zz21,zz22,zz23,i64_w,i32_w]
         rfl
        refine one_ (i:=2) (N:=some 55) #[T,T,T,F,F] rfl rfl (by kernel_rfl) (by decide) (fun K hK=>?_)
        refine goes_ Try.func10 (by kernel_rfl) rfl #[.agg #[.int .i64 a1_0,.slice A1_1 l1_1.length c1_1]] (by rfl) rfl rfl (by (try simp only [zz26,zz27,zz28]);first | done | rfl | (simp only [zz24,zz25];rfl)) ?_
        with_reducible refine (laws_toParty.calls kj24 a1_0 _ _ l1_1 t402 t403 _ ?side1 ?side2 A61.out).mono ?_
        (case side1=>repeat (first | exact (Kd.C_below HR1_1.out HB.out) | (with_reducible refine zz18 ?_ _) | (with_reducible refine zz19 ?_ _) | (with_reducible refine zz20 ?_)))
        (case side2=>exact HC1_1.out)
        rintro e w69 ⟨v404,rfl,ho0,hb⟩
        refine ⟨_,rfl,?_⟩
        have n0_:=zz31 (Kd.R_elder' (by (with_reducible repeat (first | apply zz12 | apply zz13 | apply zz14));exact HO_390001.out) (Kd.R_base ho0) hb)
        have n1_:=zz31 (Kd.R_elder' (by (with_reducible repeat (first | apply zz12 | apply zz13 | apply zz14));exact HO_395001.out) (Kd.R_base ho0) hb)
        have n2_:=zz31 (Kd.R_elder' (by (with_reducible repeat (first | apply zz12 | apply zz13 | apply zz14));exact HO400.out) (Kd.R_base ho0) hb)
        have n3_:=zz31 (Kd.R_lower (Kd.R_new' (Kd.R_new' (Kd.R_new' ho0 (Kd.R_lt (by (with_reducible repeat (first | apply zz12 | apply zz13 | apply zz14));exact HO_390001.out))) (Kd.R_lt (by (with_reducible repeat (first | apply zz12 | apply zz13 | apply zz14));exact HO_395001.out))) (Kd.R_lt (by (with_reducible repeat (first | apply zz12 | apply zz13 | apply zz14));exact HO400.out))) (zz5 (by repeat first | exact HB.out | apply zz2 | apply zz0 | apply zz1 | refine zz3 ?_ GE371.out | refine zz3 ?_ GE372.out | refine zz3 ?_ GE389.out | refine zz3 ?_ GE394.out)))
        have n4_:=zz31 (zz11 (g:=gb371) (o:=.cells #[.int .i64 a0_0,.slice A0_1 l0_1.length c0_1] 24 (0,0)) (by (with_reducible repeat (first | refine zz6 ?_ _ | refine zz7 ?_ | refine zz8 ?_ _));exact BK371.out) hb)
        have n5_:=zz31 (zz11 (g:=gb372) (o:=.cells #[.int .i64 a1_0,.slice A1_1 l1_1.length c1_1] 24 (0,0)) (by (with_reducible repeat (first | refine zz6 ?_ _ | refine zz7 ?_ | refine zz8 ?_ _));exact BK372.out) hb)
        have n6_:=zz31 (zz11 (g:=gb389) (o:=.cells #[.int .i64 t385,.slice Ao45 t386.length co45] 30 (0,0)) (by (with_reducible repeat (first | refine zz6 ?_ _ | refine zz7 ?_ | refine zz8 ?_ _));exact BK389.out) hb)
        have n7_:=zz31 (zz11 (g:=gb394) (o:=.cells #[.int .i64 t390,.slice Ao53 t391.length co53] 30 (0,0)) (by (with_reducible repeat (first | refine zz6 ?_ _ | refine zz7 ?_ | refine zz8 ?_ _));exact BK394.out) hb)
        have n8_:=zz31 (zz4 (by repeat first | exact HB.out | apply zz2 | apply zz0 | apply zz1 | refine zz3 ?_ GE371.out | refine zz3 ?_ GE372.out | refine zz3 ?_ GE389.out | refine zz3 ?_ GE394.out) hb)
        clear HO_390001
        clear HO_395001
        clear HO400
        clear BK371
        clear BK372
        clear BK389
        clear BK394
        clear HB
        have HO_390001:=n0_
        have HO_395001:=n1_
        have HO400:=n2_
        have HO405:=n3_
        have BK371:=n4_
        have BK372:=n5_
        have BK389:=n6_
        have BK394:=n7_
        have HB:=n8_
        clear n0_ n1_ n2_ n3_ n4_ n5_ n6_ n7_ n8_
        (try clear hb)
        (try clear hb2)
        (try clear hk)
        (try clear hi)
        (try clear ho0)
        obtain ⟨Ao70,co70,eo70⟩:=Kd.R_slice HO405.out
        (first | subst eo70 | (injection eo70 with f1_ f2_ f3_;have f4_:=f1_.symm;have f5_:=f3_.symm;clear f1_ f2_ f3_;subst f4_;subst f5_))
        refine hK.out _ _ ⟨(zz9 BK394.out 0).trans rfl,(zz9 BK394.out 1).trans rfl,(zz9 BK372.out 0).trans rfl,(zz9 BK372.out 1).trans rfl⟩ (fun hHeld=>?_)
        clear hK K
        refine norm_ (a':=?_) ?_ ?_
        rotate_left
        ·show Act.put _ (some 55) _=_
         simp only [Act.put,zz21,zz22,zz23,i64_w,i32_w]
         rfl
        refine one_ (i:=3) (N:=some 56) #[T,T,T,T,F] rfl rfl (by kernel_rfl) (by decide) (fun K hK=>?_)
        refine goes_ Try.func12 (by kernel_rfl) rfl #[.agg #[.int .i64 t390,.slice Ao53 t391.length co53],.agg #[.int .i64 t402,.slice Ao70 t403.length co70]] (by rfl) rfl rfl (by (try simp only [zz26,zz27,zz28]);first | done | rfl | (simp only [zz24,zz25];rfl)) ?_
        with_reducible refine (laws_eqParty.calls kj24 t390 _ _ t391 t402 _ _ t403 true _ ?side1 ?side2 ?side3 ?side4 A62.out).mono ?_
        (case side1=>repeat (first | exact (Kd.R_reads' HO_395001.out).2.2 | (with_reducible refine zz18 ?_ _) | (with_reducible refine zz19 ?_ _) | (with_reducible refine zz20 ?_)))
        (case side2=>exact (Kd.R_reads' HO_395001.out).2.1)
        (case side3=>repeat (first | exact (Kd.R_reads' HO405.out).2.2 | (with_reducible refine zz18 ?_ _) | (with_reducible refine zz19 ?_ _) | (with_reducible refine zz20 ?_)))
        (case side4=>exact (Kd.R_reads' HO405.out).2.1)
        rintro e w71 ⟨rfl,hb⟩
        refine ⟨_,rfl,?_⟩
        have n0_:=zz31 (Kd.R_below (by (with_reducible repeat (first | apply zz12 | apply zz13 | apply zz14));exact HO_390001.out) hb)
        have n1_:=zz31 (Kd.R_below (by (with_reducible repeat (first | apply zz12 | apply zz13 | apply zz14));exact HO_395001.out) hb)
        have n2_:=zz31 (Kd.R_below (by (with_reducible repeat (first | apply zz12 | apply zz13 | apply zz14));exact HO400.out) hb)
        have n3_:=zz31 (Kd.R_below (by (with_reducible repeat (first | apply zz12 | apply zz13 | apply zz14));exact HO405.out) hb)
        have n4_:=zz31 (zz11 (g:=gb371) (o:=.cells #[.int .i64 a0_0,.slice A0_1 l0_1.length c0_1] 24 (0,0)) (by (with_reducible repeat (first | refine zz6 ?_ _ | refine zz7 ?_ | refine zz8 ?_ _));exact BK371.out) hb)
        have n5_:=zz31 (zz11 (g:=gb372) (o:=.cells #[.int .i64 a1_0,.slice A1_1 l1_1.length c1_1] 24 (0,0)) (by (with_reducible repeat (first | refine zz6 ?_ _ | refine zz7 ?_ | refine zz8 ?_ _));exact BK372.out) hb)
        have n6_:=zz31 (zz11 (g:=gb389) (o:=.cells #[.int .i64 t385,.slice Ao45 t386.length co45] 30 (0,0)) (by (with_reducible repeat (first | refine zz6 ?_ _ | refine zz7 ?_ | refine zz8 ?_ _));exact BK389.out) hb)
        have n7_:=zz31 (zz11 (g:=gb394) (o:=.cells #[.int .i64 t390,.slice Ao53 t391.length co53] 30 (0,0)) (by (with_reducible repeat (first | refine zz6 ?_ _ | refine zz7 ?_ | refine zz8 ?_ _));exact BK394.out) hb)
        have n8_:=zz31 (zz4 (by repeat first | exact HB.out | apply zz2 | apply zz0 | apply zz1 | refine zz3 ?_ GE371.out | refine zz3 ?_ GE372.out | refine zz3 ?_ GE389.out | refine zz3 ?_ GE394.out) hb)
        clear HO_390001
        clear HO_395001
        clear HO400
        clear HO405
        clear BK371
        clear BK372
        clear BK389
        clear BK394
        clear HB
        have HO_390001:=n0_
        have HO_395001:=n1_
        have HO400:=n2_
        have HO405:=n3_
        have BK371:=n4_
        have BK372:=n5_
        have BK389:=n6_
        have BK394:=n7_
        have HB:=n8_
        clear n0_ n1_ n2_ n3_ n4_ n5_ n6_ n7_ n8_
        (try clear hb)
        (try clear hb2)
        (try clear hk)
        (try clear hi)
        refine hK.out _ _ ⟨(zz9 BK394.out 0).trans rfl,(zz9 BK394.out 1).trans rfl,(zz9 BK372.out 0).trans rfl,(zz9 BK372.out 1).trans rfl⟩ (fun hHeld=>?_)
        clear hK K
        refine norm_ (a':=?_) ?_ ?_
        rotate_left
        ·show Act.put _ (some 56) _=_
         simp only [Act.put,zz21,zz22,zz23,i64_w,i32_w]
         rfl
        refine pure_ (i:=4) (N:=some 57) (v:=?_) (a':=?_) #[T,T,T,T,T] rfl rfl (by kernel_rfl) (fun _ _ _ h=>h) (Or.inl ⟨by rfl,?_⟩) ?_ ?_
        rotate_left
        ·intro w'
         go_simp
         with_reducible rfl
        rotate_left
        ·simp only [Act.put,zz21,zz22,zz23,i64_w,i32_w]
         rfl
        refine done_ (by kernel_rfl) ?_
        try go_wp2
        go_ret
        exact ⟨by first | rfl | (simp [errW_none,errW_some] <;> rfl) | (simp [*,errW_none,errW_some] <;> rfl),by repeat first | exact HB.out | apply zz2 | apply zz0 | apply zz1 | refine zz3 ?_ GE371.out | refine zz3 ?_ GE372.out | refine zz3 ?_ GE389.out | refine zz3 ?_ GE394.out⟩
       ·replace c63:=Bool.eq_false_iff.mpr c63
        subst c63
        have H1:(some false)=some r:=by rw [if_neg (show ¬ (false=true) by decide)] at H;exact H
        clear H
        have H:=H1
        clear H1
        obtain rfl:=Option.some.inj H
        try go_wp2
        have n0_:=zz31 (zz14 HO_390001.out)
        have n1_:=zz31 (zz14 HO_395001.out)
        have n2_:=zz31 (zz7 BK371.out)
        have n3_:=zz31 (zz7 BK372.out)
        have n4_:=zz31 (zz7 BK389.out)
        have n5_:=zz31 (zz7 BK394.out)
        have n6_:=zz31 (zz1 HB.out)
        clear HO_390001
        clear HO_395001
        clear BK371
        clear BK372
        clear BK389
        clear BK394
        clear HB
        have HO_390001:=n0_
        have HO_395001:=n1_
        have BK371:=n2_
        have BK372:=n3_
        have BK389:=n4_
        have BK394:=n5_
        have HB:=n6_
        clear n0_ n1_ n2_ n3_ n4_ n5_ n6_
        refine start_ (n:=5) (S:=fun w'=>w'.cell? ⟨gb389,0,none⟩=some (.int .i64 t385)∧w'.cell? ⟨gb389,1,none⟩=some (.slice Ao45 t386.length co45)∧w'.cell? ⟨gb371,0,none⟩=some (.int .i64 a0_0)∧w'.cell? ⟨gb371,1,none⟩=some (.slice A0_1 l0_1.length c0_1)) (ds:=[]) #[F,F,F,F,F] (by kernel_rfl) rfl rfl ⟨(zz9 BK389.out 0).trans rfl,(zz9 BK389.out 1).trans rfl,(zz9 BK371.out 0).trans rfl,(zz9 BK371.out 1).trans rfl⟩ (fun hHeld=>?_)
        generalize wc.drew=w72 at HO_390001 HO_395001 BK371 BK372 BK389 BK394 HB hHeld ⊢
        refine take_ (i:=0) (N:=some 48) (v:=?_) (a':=?_) #[T,F,F,F,F] rfl rfl (by kernel_rfl) (fun _ _ _ h=>h) (Or.inl ⟨by rfl,?_⟩) hHeld ?_ ?_
        rotate_left
        ·rintro w' ⟨s0,s1,s2,s3⟩
         go_simp
         with_reducible rfl
        rotate_left
        ·simp only [Act.put,zz21,zz22,zz23,i64_w,i32_w]
         rfl
        refine take_ (i:=1) (N:=some 49) (v:=?_) (a':=?_) #[T,T,F,F,F] rfl rfl (by kernel_rfl) (fun _ _ _ h=>h) (Or.inl ⟨by rfl,?_⟩) hHeld ?_ ?_
        rotate_left
        ·rintro w' ⟨s0,s1,s2,s3⟩
         go_simp
         with_reducible rfl
        rotate_left
        ·simp only [Act.put,zz21,zz22,zz23,i64_w,i32_w]
         rfl
        refine one_ (i:=2) (N:=some 50) #[T,T,T,F,F] rfl rfl (by kernel_rfl) (by decide) (fun K hK=>?_)
        refine goes_ Try.func10 (by kernel_rfl) rfl #[.agg #[.int .i64 a0_0,.slice A0_1 l0_1.length c0_1]] (by rfl) rfl rfl (by (try simp only [zz26,zz27,zz28]);first | done | rfl | (simp only [zz24,zz25];rfl)) ?_
        with_reducible refine (laws_toParty.calls kj24 a0_0 _ _ l0_1 t397 t398 _ ?side1 ?side2 A58.out).mono ?_
        (case side1=>repeat (first | exact (Kd.C_below HR0_1.out HB.out) | (with_reducible refine zz18 ?_ _) | (with_reducible refine zz19 ?_ _) | (with_reducible refine zz20 ?_)))
        (case side2=>exact HC0_1.out)
        rintro e w73 ⟨v399,rfl,ho0,hb⟩
        refine ⟨_,rfl,?_⟩
        have n0_:=zz31 (Kd.R_elder' (by (with_reducible repeat (first | apply zz12 | apply zz13 | apply zz14));exact HO_390001.out) (Kd.R_base ho0) hb)
        have n1_:=zz31 (Kd.R_elder' (by (with_reducible repeat (first | apply zz12 | apply zz13 | apply zz14));exact HO_395001.out) (Kd.R_base ho0) hb)
        have n2_:=zz31 (Kd.R_lower (Kd.R_new' (Kd.R_new' ho0 (Kd.R_lt (by (with_reducible repeat (first | apply zz12 | apply zz13 | apply zz14));exact HO_390001.out))) (Kd.R_lt (by (with_reducible repeat (first | apply zz12 | apply zz13 | apply zz14));exact HO_395001.out))) (zz5 (by repeat first | exact HB.out | apply zz2 | apply zz0 | apply zz1 | refine zz3 ?_ GE371.out | refine zz3 ?_ GE372.out | refine zz3 ?_ GE389.out | refine zz3 ?_ GE394.out)))
        have n3_:=zz31 (zz11 (g:=gb371) (o:=.cells #[.int .i64 a0_0,.slice A0_1 l0_1.length c0_1] 24 (0,0)) (by (with_reducible repeat (first | refine zz6 ?_ _ | refine zz7 ?_ | refine zz8 ?_ _));exact BK371.out) hb)
        have n4_:=zz31 (zz11 (g:=gb372) (o:=.cells #[.int .i64 a1_0,.slice A1_1 l1_1.length c1_1] 24 (0,0)) (by (with_reducible repeat (first | refine zz6 ?_ _ | refine zz7 ?_ | refine zz8 ?_ _));exact BK372.out) hb)
        have n5_:=zz31 (zz11 (g:=gb389) (o:=.cells #[.int .i64 t385,.slice Ao45 t386.length co45] 30 (0,0)) (by (with_reducible repeat (first | refine zz6 ?_ _ | refine zz7 ?_ | refine zz8 ?_ _));exact BK389.out) hb)
        have n6_:=zz31 (zz11 (g:=gb394) (o:=.cells #[.int .i64 t390,.slice Ao53 t391.length co53] 30 (0,0)) (by (with_reducible repeat (first | refine zz6 ?_ _ | refine zz7 ?_ | refine zz8 ?_ _));exact BK394.out) hb)
        have n7_:=zz31 (zz4 (by repeat first | exact HB.out | apply zz2 | apply zz0 | apply zz1 | refine zz3 ?_ GE371.out | refine zz3 ?_ GE372.out | refine zz3 ?_ GE389.out | refine zz3 ?_ GE394.out) hb)
        clear HO_390001
        clear HO_395001
        clear BK371
        clear BK372
        clear BK389
        clear BK394
        clear HB
        have HO_390001:=n0_
        have HO_395001:=n1_
        have HO400:=n2_
        have BK371:=n3_
        have BK372:=n4_
        have BK389:=n5_
        have BK394:=n6_
        have HB:=n7_
        clear n0_ n1_ n2_ n3_ n4_ n5_ n6_ n7_
        (try clear hb)
        (try clear hb2)
        (try clear hk)
        (try clear hi)
        (try clear ho0)
        obtain ⟨Ao74,co74,eo74⟩:=Kd.R_slice HO400.out
        (first | subst eo74 | (injection eo74 with f1_ f2_ f3_;have f4_:=f1_.symm;have f5_:=f3_.symm;clear f1_ f2_ f3_;subst f4_;subst f5_))
        refine hK.out _ _ ⟨(zz9 BK389.out 0).trans rfl,(zz9 BK389.out 1).trans rfl,(zz9 BK371.out 0).trans rfl,(zz9 BK371.out 1).trans rfl⟩ (fun hHeld=>?_)
        clear hK K
        refine norm_ (a':=?_) ?_ ?_
        rotate_left
        ·show Act.put _ (some 50) _=_
         simp only [Act.put,zz21,zz22,zz23,i64_w,i32_w]
         rfl
        refine one_ (i:=3) (N:=some 51) #[T,T,T,T,F] rfl rfl (by kernel_rfl) (by decide) (fun K hK=>?_)
        refine goes_ Try.func12 (by kernel_rfl) rfl #[.agg #[.int .i64 t385,.slice Ao45 t386.length co45],.agg #[.int .i64 t397,.slice Ao74 t398.length co74]] (by rfl) rfl rfl (by (try simp only [zz26,zz27,zz28]);first | done | rfl | (simp only [zz24,zz25];rfl)) ?_
        with_reducible refine (laws_eqParty.calls kj24 t385 _ _ t386 t397 _ _ t398 true _ ?side1 ?side2 ?side3 ?side4 A59.out).mono ?_
        (case side1=>repeat (first | exact (Kd.R_reads' HO_390001.out).2.2 | (with_reducible refine zz18 ?_ _) | (with_reducible refine zz19 ?_ _) | (with_reducible refine zz20 ?_)))
        (case side2=>exact (Kd.R_reads' HO_390001.out).2.1)
        (case side3=>repeat (first | exact (Kd.R_reads' HO400.out).2.2 | (with_reducible refine zz18 ?_ _) | (with_reducible refine zz19 ?_ _) | (with_reducible refine zz20 ?_)))
        (case side4=>exact (Kd.R_reads' HO400.out).2.1)
        rintro e w75 ⟨rfl,hb⟩
        refine ⟨_,rfl,?_⟩
        have n0_:=zz31 (Kd.R_below (by (with_reducible repeat (first | apply zz12 | apply zz13 | apply zz14));exact HO_390001.out) hb)
        have n1_:=zz31 (Kd.R_below (by (with_reducible repeat (first | apply zz12 | apply zz13 | apply zz14));exact HO_395001.out) hb)
        have n2_:=zz31 (Kd.R_below (by (with_reducible repeat (first | apply zz12 | apply zz13 | apply zz14));exact HO400.out) hb)
        have n3_:=zz31 (zz11 (g:=gb371) (o:=.cells #[.int .i64 a0_0,.slice A0_1 l0_1.length c0_1] 24 (0,0)) (by (with_reducible repeat (first | refine zz6 ?_ _ | refine zz7 ?_ | refine zz8 ?_ _));exact BK371.out) hb)
        have n4_:=zz31 (zz11 (g:=gb372) (o:=.cells #[.int .i64 a1_0,.slice A1_1 l1_1.length c1_1] 24 (0,0)) (by (with_reducible repeat (first | refine zz6 ?_ _ | refine zz7 ?_ | refine zz8 ?_ _));exact BK372.out) hb)
        have n5_:=zz31 (zz11 (g:=gb389) (o:=.cells #[.int .i64 t385,.slice Ao45 t386.length co45] 30 (0,0)) (by (with_reducible repeat (first | refine zz6 ?_ _ | refine zz7 ?_ | refine zz8 ?_ _));exact BK389.out) hb)
        have n6_:=zz31 (zz11 (g:=gb394) (o:=.cells #[.int .i64 t390,.slice Ao53 t391.length co53] 30 (0,0)) (by (with_reducible repeat (first | refine zz6 ?_ _ | refine zz7 ?_ | refine zz8 ?_ _));exact BK394.out) hb)
        have n7_:=zz31 (zz4 (by repeat first | exact HB.out | apply zz2 | apply zz0 | apply zz1 | refine zz3 ?_ GE371.out | refine zz3 ?_ GE372.out | refine zz3 ?_ GE389.out | refine zz3 ?_ GE394.out) hb)
        clear HO_390001
        clear HO_395001
        clear HO400
        clear BK371
        clear BK372
        clear BK389
        clear BK394
        clear HB
        have HO_390001:=n0_
        have HO_395001:=n1_
        have HO400:=n2_
        have BK371:=n3_
        have BK372:=n4_
        have BK389:=n5_
        have BK394:=n6_
        have HB:=n7_
        clear n0_ n1_ n2_ n3_ n4_ n5_ n6_ n7_
        (try clear hb)
        (try clear hb2)
        (try clear hk)
        (try clear hi)
        refine hK.out _ _ ⟨(zz9 BK389.out 0).trans rfl,(zz9 BK389.out 1).trans rfl,(zz9 BK371.out 0).trans rfl,(zz9 BK371.out 1).trans rfl⟩ (fun hHeld=>?_)
        clear hK K
        refine norm_ (a':=?_) ?_ ?_
        rotate_left
        ·show Act.put _ (some 51) _=_
         simp only [Act.put,zz21,zz22,zz23,i64_w,i32_w]
         rfl
        refine pure_ (i:=4) (N:=some 52) (v:=?_) (a':=?_) #[T,T,T,T,T] rfl rfl (by kernel_rfl) (fun _ _ _ h=>h) (Or.inl ⟨by rfl,?_⟩) ?_ ?_
        rotate_left
        ·intro w'
         go_simp
         with_reducible rfl
        rotate_left
        ·simp only [Act.put,zz21,zz22,zz23,i64_w,i32_w]
         rfl
        refine done_ (by kernel_rfl) ?_
        try go_wp2
        have n0_:=zz31 (zz14 HO_390001.out)
        have n1_:=zz31 (zz14 HO_395001.out)
        have n2_:=zz31 (zz14 HO400.out)
        have n3_:=zz31 (zz7 BK371.out)
        have n4_:=zz31 (zz7 BK372.out)
        have n5_:=zz31 (zz7 BK389.out)
        have n6_:=zz31 (zz7 BK394.out)
        have n7_:=zz31 (zz1 HB.out)
        clear HO_390001
        clear HO_395001
        clear HO400
        clear BK371
        clear BK372
        clear BK389
        clear BK394
        clear HB
        have HO_390001:=n0_
        have HO_395001:=n1_
        have HO400:=n2_
        have BK371:=n3_
        have BK372:=n4_
        have BK389:=n5_
        have BK394:=n6_
        have HB:=n7_
        clear n0_ n1_ n2_ n3_ n4_ n5_ n6_ n7_
        refine start_ (n:=5) (S:=fun w'=>w'.cell? ⟨gb394,0,none⟩=some (.int .i64 t390)∧w'.cell? ⟨gb394,1,none⟩=some (.slice Ao53 t391.length co53)∧w'.cell? ⟨gb372,0,none⟩=some (.int .i64 a1_0)∧w'.cell? ⟨gb372,1,none⟩=some (.slice A1_1 l1_1.length c1_1)) (ds:=[]) #[F,F,F,F,F] (by kernel_rfl) rfl rfl ⟨(zz9 BK394.out 0).trans rfl,(zz9 BK394.out 1).trans rfl,(zz9 BK372.out 0).trans rfl,(zz9 BK372.out 1).trans rfl⟩ (fun hHeld=>?_)
        generalize w75.drew=w76 at HO_390001 HO_395001 HO400 BK371 BK372 BK389 BK394 HB hHeld ⊢
        refine take_ (i:=0) (N:=some 53) (v:=?_) (a':=?_) #[T,F,F,F,F] rfl rfl (by kernel_rfl) (fun _ _ _ h=>h) (Or.inl ⟨by rfl,?_⟩) hHeld ?_ ?_
        rotate_left
        ·rintro w' ⟨s0,s1,s2,s3⟩
         go_simp
         with_reducible rfl
        rotate_left
        ·simp only [Act.put,zz21,zz22,zz23,i64_w,i32_w]
         rfl
        refine take_ (i:=1) (N:=some 54) (v:=?_) (a':=?_) #[T,T,F,F,F] rfl rfl (by kernel_rfl) (fun _ _ _ h=>h) (Or.inl ⟨by rfl,?_⟩) hHeld ?_ ?_
        rotate_left
        ·rintro w' ⟨s0,s1,s2,s3⟩
         go_simp
         with_reducible rfl
        rotate_left
        ·simp only [Act.put,zz21,zz22,zz23,i64_w,i32_w]
         rfl
        refine one_ (i:=2) (N:=some 55) #[T,T,T,F,F] rfl rfl (by kernel_rfl) (by decide) (fun K hK=>?_)
        refine goes_ Try.func10 (by kernel_rfl) rfl #[.agg #[.int .i64 a1_0,.slice A1_1 l1_1.length c1_1]] (by rfl) rfl rfl (by (try simp only [zz26,zz27,zz28]);first | done | rfl | (simp only [zz24,zz25];rfl)) ?_
        with_reducible refine (laws_toParty.calls kj24 a1_0 _ _ l1_1 t402 t403 _ ?side1 ?side2 A61.out).mono ?_
        (case side1=>repeat (first | exact (Kd.C_below HR1_1.out HB.out) | (with_reducible refine zz18 ?_ _) | (with_reducible refine zz19 ?_ _) | (with_reducible refine zz20 ?_)))
        (case side2=>exact HC1_1.out)
        rintro e w77 ⟨v404,rfl,ho0,hb⟩
        refine ⟨_,rfl,?_⟩
        have n0_:=zz31 (Kd.R_elder' (by (with_reducible repeat (first | apply zz12 | apply zz13 | apply zz14));exact HO_390001.out) (Kd.R_base ho0) hb)
        have n1_:=zz31 (Kd.R_elder' (by (with_reducible repeat (first | apply zz12 | apply zz13 | apply zz14));exact HO_395001.out) (Kd.R_base ho0) hb)
        have n2_:=zz31 (Kd.R_elder' (by (with_reducible repeat (first | apply zz12 | apply zz13 | apply zz14));exact HO400.out) (Kd.R_base ho0) hb)
        have n3_:=zz31 (Kd.R_lower (Kd.R_new' (Kd.R_new' (Kd.R_new' ho0 (Kd.R_lt (by (with_reducible repeat (first | apply zz12 | apply zz13 | apply zz14));exact HO_390001.out))) (Kd.R_lt (by (with_reducible repeat (first | apply zz12 | apply zz13 | apply zz14));exact HO_395001.out))) (Kd.R_lt (by (with_reducible repeat (first | apply zz12 | apply zz13 | apply zz14));exact HO400.out))) (zz5 (by repeat first | exact HB.out | apply zz2 | apply zz0 | apply zz1 | refine zz3 ?_ GE371.out | refine zz3 ?_ GE372.out | refine zz3 ?_ GE389.out | refine zz3 ?_ GE394.out)))
        have n4_:=zz31 (zz11 (g:=gb371) (o:=.cells #[.int .i64 a0_0,.slice A0_1 l0_1.length c0_1] 24 (0,0)) (by (with_reducible repeat (first | refine zz6 ?_ _ | refine zz7 ?_ | refine zz8 ?_ _));exact BK371.out) hb)
        have n5_:=zz31 (zz11 (g:=gb372) (o:=.cells #[.int .i64 a1_0,.slice A1_1 l1_1.length c1_1] 24 (0,0)) (by (with_reducible repeat (first | refine zz6 ?_ _ | refine zz7 ?_ | refine zz8 ?_ _));exact BK372.out) hb)
        have n6_:=zz31 (zz11 (g:=gb389) (o:=.cells #[.int .i64 t385,.slice Ao45 t386.length co45] 30 (0,0)) (by (with_reducible repeat (first | refine zz6 ?_ _ | refine zz7 ?_ | refine zz8 ?_ _));exact BK389.out) hb)
        have n7_:=zz31 (zz11 (g:=gb394) (o:=.cells #[.int .i64 t390,.slice Ao53 t391.length co53] 30 (0,0)) (by (with_reducible repeat (first | refine zz6 ?_ _ | refine zz7 ?_ | refine zz8 ?_ _));exact BK394.out) hb)
        have n8_:=zz31 (zz4 (by repeat first | exact HB.out | apply zz2 | apply zz0 | apply zz1 | refine zz3 ?_ GE371.out | refine zz3 ?_ GE372.out | refine zz3 ?_ GE389.out | refine zz3 ?_ GE394.out) hb)
        clear HO_390001
        clear HO_395001
        clear HO400
        clear BK371
        clear BK372
        clear BK389
        clear BK394
        clear HB
        have HO_390001:=n0_
        have HO_395001:=n1_
        have HO400:=n2_
        have HO405:=n3_
        have BK371:=n4_
        have BK372:=n5_
        have BK389:=n6_
        have BK394:=n7_
        have HB:=n8_
        clear n0_ n1_ n2_ n3_ n4_ n5_ n6_ n7_ n8_
        (try clear hb)
        (try clear hb2)
        (try clear hk)
        (try clear hi)
        (try clear ho0)
        obtain ⟨Ao78,co78,eo78⟩:=Kd.R_slice HO405.out
        (first | subst eo78 | (injection eo78 with f1_ f2_ f3_;have f4_:=f1_.symm;have f5_:=f3_.symm;clear f1_ f2_ f3_;subst f4_;subst f5_))
        refine hK.out _ _ ⟨(zz9 BK394.out 0).trans rfl,(zz9 BK394.out 1).trans rfl,(zz9 BK372.out 0).trans rfl,(zz9 BK372.out 1).trans rfl⟩ (fun hHeld=>?_)
        clear hK K
        refine norm_ (a':=?_) ?_ ?_
        rotate_left
        ·show Act.put _ (some 55) _=_
         simp only [Act.put,zz21,zz22,zz23,i64_w,i32_w]
         rfl
        refine one_ (i:=3) (N:=some 56) #[T,T,T,T,F] rfl rfl (by kernel_rfl) (by decide) (fun K hK=>?_)
        refine goes_ Try.func12 (by kernel_rfl) rfl #[.agg #[.int .i64 t390,.slice Ao53 t391.length co53],.agg #[.int .i64 t402,.slice Ao78 t403.length co78]] (by rfl) rfl rfl (by (try simp only [zz26,zz27,zz28]);first | done | rfl | (simp only [zz24,zz25];rfl)) ?_
        with_reducible refine (laws_eqParty.calls kj24 t390 _ _ t391 t402 _ _ t403 false _ ?side1 ?side2 ?side3 ?side4 A62.out).mono ?_
        (case side1=>repeat (first | exact (Kd.R_reads' HO_395001.out).2.2 | (with_reducible refine zz18 ?_ _) | (with_reducible refine zz19 ?_ _) | (with_reducible refine zz20 ?_)))
        (case side2=>exact (Kd.R_reads' HO_395001.out).2.1)
        (case side3=>repeat (first | exact (Kd.R_reads' HO405.out).2.2 | (with_reducible refine zz18 ?_ _) | (with_reducible refine zz19 ?_ _) | (with_reducible refine zz20 ?_)))
        (case side4=>exact (Kd.R_reads' HO405.out).2.1)
        rintro e w79 ⟨rfl,hb⟩
        refine ⟨_,rfl,?_⟩
        have n0_:=zz31 (Kd.R_below (by (with_reducible repeat (first | apply zz12 | apply zz13 | apply zz14));exact HO_390001.out) hb)
        have n1_:=zz31 (Kd.R_below (by (with_reducible repeat (first | apply zz12 | apply zz13 | apply zz14));exact HO_395001.out) hb)
        have n2_:=zz31 (Kd.R_below (by (with_reducible repeat (first | apply zz12 | apply zz13 | apply zz14));exact HO400.out) hb)
        have n3_:=zz31 (Kd.R_below (by (with_reducible repeat (first | apply zz12 | apply zz13 | apply zz14));exact HO405.out) hb)
        have n4_:=zz31 (zz11 (g:=gb371) (o:=.cells #[.int .i64 a0_0,.slice A0_1 l0_1.length c0_1] 24 (0,0)) (by (with_reducible repeat (first | refine zz6 ?_ _ | refine zz7 ?_ | refine zz8 ?_ _));exact BK371.out) hb)
        have n5_:=zz31 (zz11 (g:=gb372) (o:=.cells #[.int .i64 a1_0,.slice A1_1 l1_1.length c1_1] 24 (0,0)) (by (with_reducible repeat (first | refine zz6 ?_ _ | refine zz7 ?_ | refine zz8 ?_ _));exact BK372.out) hb)
        have n6_:=zz31 (zz11 (g:=gb389) (o:=.cells #[.int .i64 t385,.slice Ao45 t386.length co45] 30 (0,0)) (by (with_reducible repeat (first | refine zz6 ?_ _ | refine zz7 ?_ | refine zz8 ?_ _));exact BK389.out) hb)
        have n7_:=zz31 (zz11 (g:=gb394) (o:=.cells #[.int .i64 t390,.slice Ao53 t391.length co53] 30 (0,0)) (by (with_reducible repeat (first | refine zz6 ?_ _ | refine zz7 ?_ | refine zz8 ?_ _));exact BK394.out) hb)
        have n8_:=zz31 (zz4 (by repeat first | exact HB.out | apply zz2 | apply zz0 | apply zz1 | refine zz3 ?_ GE371.out | refine zz3 ?_ GE372.out | refine zz3 ?_ GE389.out | refine zz3 ?_ GE394.out) hb)
        clear HO_390001
        clear HO_395001
        clear HO400
        clear HO405
        clear BK371
        clear BK372
        clear BK389
        clear BK394
        clear HB
        have HO_390001:=n0_
        have HO_395001:=n1_
        have HO400:=n2_
        have HO405:=n3_
        have BK371:=n4_
        have BK372:=n5_
        have BK389:=n6_
        have BK394:=n7_
        have HB:=n8_
        clear n0_ n1_ n2_ n3_ n4_ n5_ n6_ n7_ n8_
        (try clear hb)
        (try clear hb2)
        (try clear hk)
        (try clear hi)
        refine hK.out _ _ ⟨(zz9 BK394.out 0).trans rfl,(zz9 BK394.out 1).trans rfl,(zz9 BK372.out 0).trans rfl,(zz9 BK372.out 1).trans rfl⟩ (fun hHeld=>?_)
        clear hK K
        refine norm_ (a':=?_) ?_ ?_
        rotate_left
        ·show Act.put _ (some 56) _=_
         simp only [Act.put,zz21,zz22,zz23,i64_w,i32_w]
         rfl
        refine pure_ (i:=4) (N:=some 57) (v:=?_) (a':=?_) #[T,T,T,T,T] rfl rfl (by kernel_rfl) (fun _ _ _ h=>h) (Or.inl ⟨by rfl,?_⟩) ?_ ?_
        rotate_left
        ·intro w'
         go_simp
         with_reducible rfl
        rotate_left
        ·simp only [Act.put,zz21,zz22,zz23,i64_w,i32_w]
         rfl
        refine done_ (by kernel_rfl) ?_
        try go_wp2
        go_ret
        exact ⟨by first | rfl | (simp [errW_none,errW_some] <;> rfl) | (simp [*,errW_none,errW_some] <;> rfl),by repeat first | exact HB.out | apply zz2 | apply zz0 | apply zz1 | refine zz3 ?_ GE371.out | refine zz3 ?_ GE372.out | refine zz3 ?_ GE389.out | refine zz3 ?_ GE394.out⟩
      ·replace c60:=Bool.eq_false_iff.mpr c60
       subst c60
       have H1:(some false)=some r:=by rw [if_neg (show ¬ (false=true) by decide)] at H;exact H
       clear H
       have H:=H1
       clear H1
       obtain rfl:=Option.some.inj H
       try go_wp2
       have n0_:=zz31 (zz14 HO_390001.out)
       have n1_:=zz31 (zz14 HO_395001.out)
       have n2_:=zz31 (zz7 BK371.out)
       have n3_:=zz31 (zz7 BK372.out)
       have n4_:=zz31 (zz7 BK389.out)
       have n5_:=zz31 (zz7 BK394.out)
       have n6_:=zz31 (zz1 HB.out)
       clear HO_390001
       clear HO_395001
       clear BK371
       clear BK372
       clear BK389
       clear BK394
       clear HB
       have HO_390001:=n0_
       have HO_395001:=n1_
       have BK371:=n2_
       have BK372:=n3_
       have BK389:=n4_
       have BK394:=n5_
       have HB:=n6_
       clear n0_ n1_ n2_ n3_ n4_ n5_ n6_
       refine start_ (n:=5) (S:=fun w'=>w'.cell? ⟨gb389,0,none⟩=some (.int .i64 t385)∧w'.cell? ⟨gb389,1,none⟩=some (.slice Ao45 t386.length co45)∧w'.cell? ⟨gb371,0,none⟩=some (.int .i64 a0_0)∧w'.cell? ⟨gb371,1,none⟩=some (.slice A0_1 l0_1.length c0_1)) (ds:=[]) #[F,F,F,F,F] (by kernel_rfl) rfl rfl ⟨(zz9 BK389.out 0).trans rfl,(zz9 BK389.out 1).trans rfl,(zz9 BK371.out 0).trans rfl,(zz9 BK371.out 1).trans rfl⟩ (fun hHeld=>?_)
       generalize wc.drew=w80 at HO_390001 HO_395001 BK371 BK372 BK389 BK394 HB hHeld ⊢
       refine take_ (i:=0) (N:=some 48) (v:=?_) (a':=?_) #[T,F,F,F,F] rfl rfl (by kernel_rfl) (fun _ _ _ h=>h) (Or.inl ⟨by rfl,?_⟩) hHeld ?_ ?_
       rotate_left
       ·rintro w' ⟨s0,s1,s2,s3⟩
        go_simp
        with_reducible rfl
       rotate_left
       ·simp only [Act.put,zz21,zz22,zz23,i64_w,i32_w]
        rfl
       refine take_ (i:=1) (N:=some 49) (v:=?_) (a':=?_) #[T,T,F,F,F] rfl rfl (by kernel_rfl) (fun _ _ _ h=>h) (Or.inl ⟨by rfl,?_⟩) hHeld ?_ ?_
       rotate_left
       ·rintro w' ⟨s0,s1,s2,s3⟩
        go_simp
        with_reducible rfl
       rotate_left
       ·simp only [Act.put,zz21,zz22,zz23,i64_w,i32_w]
        rfl
       refine one_ (i:=2) (N:=some 50) #[T,T,T,F,F] rfl rfl (by kernel_rfl) (by decide) (fun K hK=>?_)
       refine goes_ Try.func10 (by kernel_rfl) rfl #[.agg #[.int .i64 a0_0,.slice A0_1 l0_1.length c0_1]] (by rfl) rfl rfl (by (try simp only [zz26,zz27,zz28]);first | done | rfl | (simp only [zz24,zz25];rfl)) ?_
       with_reducible refine (laws_toParty.calls kj24 a0_0 _ _ l0_1 t397 t398 _ ?side1 ?side2 A58.out).mono ?_
       (case side1=>repeat (first | exact (Kd.C_below HR0_1.out HB.out) | (with_reducible refine zz18 ?_ _) | (with_reducible refine zz19 ?_ _) | (with_reducible refine zz20 ?_)))
       (case side2=>exact HC0_1.out)
       rintro e w81 ⟨v399,rfl,ho0,hb⟩
       refine ⟨_,rfl,?_⟩
       have n0_:=zz31 (Kd.R_elder' (by (with_reducible repeat (first | apply zz12 | apply zz13 | apply zz14));exact HO_390001.out) (Kd.R_base ho0) hb)
       have n1_:=zz31 (Kd.R_elder' (by (with_reducible repeat (first | apply zz12 | apply zz13 | apply zz14));exact HO_395001.out) (Kd.R_base ho0) hb)
       have n2_:=zz31 (Kd.R_lower (Kd.R_new' (Kd.R_new' ho0 (Kd.R_lt (by (with_reducible repeat (first | apply zz12 | apply zz13 | apply zz14));exact HO_390001.out))) (Kd.R_lt (by (with_reducible repeat (first | apply zz12 | apply zz13 | apply zz14));exact HO_395001.out))) (zz5 (by repeat first | exact HB.out | apply zz2 | apply zz0 | apply zz1 | refine zz3 ?_ GE371.out | refine zz3 ?_ GE372.out | refine zz3 ?_ GE389.out | refine zz3 ?_ GE394.out)))
       have n3_:=zz31 (zz11 (g:=gb371) (o:=.cells #[.int .i64 a0_0,.slice A0_1 l0_1.length c0_1] 24 (0,0)) (by (with_reducible repeat (first | refine zz6 ?_ _ | refine zz7 ?_ | refine zz8 ?_ _));exact BK371.out) hb)
       have n4_:=zz31 (zz11 (g:=gb372) (o:=.cells #[.int .i64 a1_0,.slice A1_1 l1_1.length c1_1] 24 (0,0)) (by (with_reducible repeat (first | refine zz6 ?_ _ | refine zz7 ?_ | refine zz8 ?_ _));exact BK372.out) hb)
       have n5_:=zz31 (zz11 (g:=gb389) (o:=.cells #[.int .i64 t385,.slice Ao45 t386.length co45] 30 (0,0)) (by (with_reducible repeat (first | refine zz6 ?_ _ | refine zz7 ?_ | refine zz8 ?_ _));exact BK389.out) hb)
       have n6_:=zz31 (zz11 (g:=gb394) (o:=.cells #[.int .i64 t390,.slice Ao53 t391.length co53] 30 (0,0)) (by (with_reducible repeat (first | refine zz6 ?_ _ | refine zz7 ?_ | refine zz8 ?_ _));exact BK394.out) hb)
       have n7_:=zz31 (zz4 (by repeat first | exact HB.out | apply zz2 | apply zz0 | apply zz1 | refine zz3 ?_ GE371.out | refine zz3 ?_ GE372.out | refine zz3 ?_ GE389.out | refine zz3 ?_ GE394.out) hb)
       clear HO_390001
       clear HO_395001
       clear BK371
       clear BK372
       clear BK389
       clear BK394
       clear HB
       have HO_390001:=n0_
       have HO_395001:=n1_
       have HO400:=n2_
       have BK371:=n3_
       have BK372:=n4_
       have BK389:=n5_
       have BK394:=n6_
       have HB:=n7_
       clear n0_ n1_ n2_ n3_ n4_ n5_ n6_ n7_
       (try clear hb)
       (try clear hb2)
       (try clear hk)
       (try clear hi)
       (try clear ho0)
       obtain ⟨Ao82,co82,eo82⟩:=Kd.R_slice HO400.out
       (first | subst eo82 | (injection eo82 with f1_ f2_ f3_;have f4_:=f1_.symm;have f5_:=f3_.symm;clear f1_ f2_ f3_;subst f4_;subst f5_))
       refine hK.out _ _ ⟨(zz9 BK389.out 0).trans rfl,(zz9 BK389.out 1).trans rfl,(zz9 BK371.out 0).trans rfl,(zz9 BK371.out 1).trans rfl⟩ (fun hHeld=>?_)
       clear hK K
       refine norm_ (a':=?_) ?_ ?_
       rotate_left
       ·show Act.put _ (some 50) _=_
        simp only [Act.put,zz21,zz22,zz23,i64_w,i32_w]
        rfl
       refine one_ (i:=3) (N:=some 51) #[T,T,T,T,F] rfl rfl (by kernel_rfl) (by decide) (fun K hK=>?_)
       refine goes_ Try.func12 (by kernel_rfl) rfl #[.agg #[.int .i64 t385,.slice Ao45 t386.length co45],.agg #[.int .i64 t397,.slice Ao82 t398.length co82]] (by rfl) rfl rfl (by (try simp only [zz26,zz27,zz28]);first | done | rfl | (simp only [zz24,zz25];rfl)) ?_
       with_reducible refine (laws_eqParty.calls kj24 t385 _ _ t386 t397 _ _ t398 false _ ?side1 ?side2 ?side3 ?side4 A59.out).mono ?_
       (case side1=>repeat (first | exact (Kd.R_reads' HO_390001.out).2.2 | (with_reducible refine zz18 ?_ _) | (with_reducible refine zz19 ?_ _) | (with_reducible refine zz20 ?_)))
       (case side2=>exact (Kd.R_reads' HO_390001.out).2.1)
       (case side3=>repeat (first | exact (Kd.R_reads' HO400.out).2.2 | (with_reducible refine zz18 ?_ _) | (with_reducible refine zz19 ?_ _) | (with_reducible refine zz20 ?_)))
       (case side4=>exact (Kd.R_reads' HO400.out).2.1)
       rintro e w83 ⟨rfl,hb⟩
       refine ⟨_,rfl,?_⟩
       have n0_:=zz31 (Kd.R_below (by (with_reducible repeat (first | apply zz12 | apply zz13 | apply zz14));exact HO_390001.out) hb)
       have n1_:=zz31 (Kd.R_below (by (with_reducible repeat (first | apply zz12 | apply zz13 | apply zz14));exact HO_395001.out) hb)
       have n2_:=zz31 (Kd.R_below (by (with_reducible repeat (first | apply zz12 | apply zz13 | apply zz14));exact HO400.out) hb)
       have n3_:=zz31 (zz11 (g:=gb371) (o:=.cells #[.int .i64 a0_0,.slice A0_1 l0_1.length c0_1] 24 (0,0)) (by (with_reducible repeat (first | refine zz6 ?_ _ | refine zz7 ?_ | refine zz8 ?_ _));exact BK371.out) hb)
       have n4_:=zz31 (zz11 (g:=gb372) (o:=.cells #[.int .i64 a1_0,.slice A1_1 l1_1.length c1_1] 24 (0,0)) (by (with_reducible repeat (first | refine zz6 ?_ _ | refine zz7 ?_ | refine zz8 ?_ _));exact BK372.out) hb)
       have n5_:=zz31 (zz11 (g:=gb389) (o:=.cells #[.int .i64 t385,.slice Ao45 t386.length co45] 30 (0,0)) (by (with_reducible repeat (first | refine zz6 ?_ _ | refine zz7 ?_ | refine zz8 ?_ _));exact BK389.out) hb)
       have n6_:=zz31 (zz11 (g:=gb394) (o:=.cells #[.int .i64 t390,.slice Ao53 t391.length co53] 30 (0,0)) (by (with_reducible repeat (first | refine zz6 ?_ _ | refine zz7 ?_ | refine zz8 ?_ _));exact BK394.out) hb)
       have n7_:=zz31 (zz4 (by repeat first | exact HB.out | apply zz2 | apply zz0 | apply zz1 | refine zz3 ?_ GE371.out | refine zz3 ?_ GE372.out | refine zz3 ?_ GE389.out | refine zz3 ?_ GE394.out) hb)
       clear HO_390001
       clear HO_395001
       clear HO400
       clear BK371
       clear BK372
       clear BK389
       clear BK394
       clear HB
       have HO_390001:=n0_
       have HO_395001:=n1_
       have HO400:=n2_
       have BK371:=n3_
       have BK372:=n4_
       have BK389:=n5_
       have BK394:=n6_
       have HB:=n7_
       clear n0_ n1_ n2_ n3_ n4_ n5_ n6_ n7_
       (try clear hb)
       (try clear hb2)
       (try clear hk)
       (try clear hi)
       refine hK.out _ _ ⟨(zz9 BK389.out 0).trans rfl,(zz9 BK389.out 1).trans rfl,(zz9 BK371.out 0).trans rfl,(zz9 BK371.out 1).trans rfl⟩ (fun hHeld=>?_)
       clear hK K
       refine norm_ (a':=?_) ?_ ?_
       rotate_left
       ·show Act.put _ (some 51) _=_
        simp only [Act.put,zz21,zz22,zz23,i64_w,i32_w]
        rfl
       refine pure_ (i:=4) (N:=some 52) (v:=?_) (a':=?_) #[T,T,T,T,T] rfl rfl (by kernel_rfl) (fun _ _ _ h=>h) (Or.inl ⟨by rfl,?_⟩) ?_ ?_
       rotate_left
       ·intro w'
        go_simp
        with_reducible rfl
       rotate_left
       ·simp only [Act.put,zz21,zz22,zz23,i64_w,i32_w]
        rfl
       refine done_ (by kernel_rfl) ?_
       try go_wp2
       go_ret
       exact ⟨by first | rfl | (simp [errW_none,errW_some] <;> rfl) | (simp [*,errW_none,errW_some] <;> rfl),by repeat first | exact HB.out | apply zz2 | apply zz0 | apply zz1 | refine zz3 ?_ GE371.out | refine zz3 ?_ GE372.out | refine zz3 ?_ GE389.out | refine zz3 ?_ GE394.out⟩

end Go.Proofs.Ytoedkkoafidalaa.P
