-- PRINTED by print.py (a twelfth state) out of the translation. Not trusted: Lean checks it.
import Derived.Test.YtoedkkoafidalaaPx0
import Derived.Test.YtoedkkoafidalaaPx2
namespace Go.Proofs.Ytoedkkoafidalaa.P
open Go.RowKit Go.Proofs.YtoedkkoafidalaaW.PrintWords Go.Proofs.YtoedkkoafidalaaW.PrintLast Go.Proofs.YtoedkkoafidalaaW.PrintMore
open Bool renaming true → T, false → F
attribute [local go_sem] max2_int min2_int max_two min_two max_three min_three max_four min_four   -- for this text's walks alone
set_option linter.unusedVariables false
set_option linter.unusedSimpArgs false

/-! ### spec_RenameParty: function 19 -/
mutual
def spec_RenameParty.j0:Nat→List Int→Bool→Int→List (S70)→Option (Int × (List (S70)) × Bool)
 | 0,_,_,_,_=>none
 | k+1,x1,x25,x175000,x175001=>if x25=true then (some (0,([]:List (S70)),false)) else (spec_RenameParty.l0 k x1 x1 (x1.length:Int) 0 x175000 x175001)
def spec_RenameParty.l0:Nat→List Int→List Int→Int→Int→Int→List (S70)→Option (Int × (List (S70)) × Bool)
 | 0,_,_,_,_,_,_=>none
 | k+1,x1,x27,x28,x29,x175000,x175001=>if x29 < x28 then (if 0≤x29 then (if x29 < (x27.length:Int) then (if x29≤(x1.length:Int) then ((spec_l1Has.f k (x1.take (x29:Int).toNat) (rd x27 x29)).bind fun t180=>(if t180=true then (some (0,([]:List (S70)),false)) else (spec_RenameParty.l0 k x1 x27 x28 (wrap64 (x29+1)) x175000 x175001))) else (none)) else (none)) else (none)) else ((spec_paRename.f k x175000 x175001 x1).bind fun bt181=>(some (bt181.1,bt181.2,true)))
end
def spec_RenameParty.f (k:Nat) (a0_0:Int) (l0_1:List (S70)) (l1:List Int):Option (Int × (List (S70)) × Bool):=(spec_paGood.f k a0_0 l0_1).bind fun t176=>(if t176=true then (if (l1.length:Int)=a0_0 then ((spec_l1All.f k l1 0 (wrap64 (a0_0 - 1))).bind fun t177=>(spec_RenameParty.j0 k l1 (!t177) a0_0 l0_1)) else (spec_RenameParty.j0 k l1 true a0_0 l0_1)) else (spec_RenameParty.j0 k l1 true a0_0 l0_1))
theorem spec_RenameParty.mono_l:∀ k,(∀ y0 y1 y2 y3,LeO (spec_RenameParty.j0 k y0 y1 y2 y3) (spec_RenameParty.j0 (k+1) y0 y1 y2 y3))∧(∀ y0 y1 y2 y3 y4 y5,LeO (spec_RenameParty.l0 k y0 y1 y2 y3 y4 y5) (spec_RenameParty.l0 (k+1) y0 y1 y2 y3 y4 y5))
 | 0=>⟨fun _ _ _ _ r h=>by simp [spec_RenameParty.j0] at h,fun _ _ _ _ _ _ r h=>by simp [spec_RenameParty.l0] at h⟩
 | k+1=>by
  obtain ⟨ih0,ih1⟩:=spec_RenameParty.mono_l k
  refine ⟨?_,?_⟩
  ·intro y0 y1 y2 y3
   unfold spec_RenameParty.j0
   repeat' first
   | (with_reducible exact ih0 _ _ _ _)
   | (with_reducible exact ih1 _ _ _ _ _ _)
   | (with_reducible exact spec_l1All.mono _ _ _ _)
   | (with_reducible exact spec_l1Has.mono _ _ _)
   | (with_reducible exact spec_paGood.mono _ _ _)
   | (with_reducible exact spec_paRename.mono _ _ _ _)
   | (with_reducible exact LeO.refl _)
   | (with_reducible exact LeO.none _)
   | (with_reducible refine LeO.ite ?_ ?_)
   | (with_reducible refine LeO.bind ?_ (fun _=>?_))
   | exact ih0 _ _ _ _
   | exact ih1 _ _ _ _ _ _
   | exact spec_l1All.mono _ _ _ _
   | exact spec_l1Has.mono _ _ _
   | exact spec_paGood.mono _ _ _
   | exact spec_paRename.mono _ _ _ _
   | exact LeO.none _
   | refine LeO.ite ?_ ?_
   | refine LeO.bind ?_ (fun _=>?_)
  ·intro y0 y1 y2 y3 y4 y5
   unfold spec_RenameParty.l0
   repeat' first
   | (with_reducible exact ih0 _ _ _ _)
   | (with_reducible exact ih1 _ _ _ _ _ _)
   | (with_reducible exact spec_l1All.mono _ _ _ _)
   | (with_reducible exact spec_l1Has.mono _ _ _)
   | (with_reducible exact spec_paGood.mono _ _ _)
   | (with_reducible exact spec_paRename.mono _ _ _ _)
   | (with_reducible exact LeO.refl _)
   | (with_reducible exact LeO.none _)
   | (with_reducible refine LeO.ite ?_ ?_)
   | (with_reducible refine LeO.bind ?_ (fun _=>?_))
   | exact ih0 _ _ _ _
   | exact ih1 _ _ _ _ _ _
   | exact spec_l1All.mono _ _ _ _
   | exact spec_l1Has.mono _ _ _
   | exact spec_paGood.mono _ _ _
   | exact spec_paRename.mono _ _ _ _
   | exact LeO.none _
   | refine LeO.ite ?_ ?_
   | refine LeO.bind ?_ (fun _=>?_)
theorem spec_RenameParty.mono:∀ a0 a1 a2 k,LeO (spec_RenameParty.f k a0 a1 a2) (spec_RenameParty.f (k+1) a0 a1 a2):=by
 intro a0 a1 a2 k
 obtain ⟨ih0,ih1⟩:=spec_RenameParty.mono_l k
 unfold spec_RenameParty.f
 repeat' first
   | (with_reducible exact ih0 _ _ _ _)
   | (with_reducible exact ih1 _ _ _ _ _ _)
   | (with_reducible exact spec_l1All.mono _ _ _ _)
   | (with_reducible exact spec_l1Has.mono _ _ _)
   | (with_reducible exact spec_paGood.mono _ _ _)
   | (with_reducible exact spec_paRename.mono _ _ _ _)
   | (with_reducible exact LeO.refl _)
   | (with_reducible exact LeO.none _)
   | (with_reducible refine LeO.ite ?_ ?_)
   | (with_reducible refine LeO.bind ?_ (fun _=>?_))
   | exact ih0 _ _ _ _
   | exact ih1 _ _ _ _ _ _
   | exact spec_l1All.mono _ _ _ _
   | exact spec_l1Has.mono _ _ _
   | exact spec_paGood.mono _ _ _
   | exact spec_paRename.mono _ _ _ _
   | exact LeO.none _
   | refine LeO.ite ?_ ?_
   | refine LeO.bind ?_ (fun _=>?_)
set_option maxHeartbeats 8000000 in
set_option maxRecDepth 100000 in
theorem spec_RenameParty.calls (k:Nat) (a0_0:Int) (A0_1:Option Addr) (c0_1:Nat) (l0_1:List (S70)) (A1:Option Addr) (c1:Nat) (l1:List Int) (r1:Int) (r2:List (S70)) (r3:Bool) (w:World) (hr0_1:Kd.C k70 w A0_1 l0_1.length l0_1) (hc0_1:l0_1.length≤c0_1) (hr1:Kd.C (Kd.int .i64) w A1 l1.length l1) (hc1:l1.length≤c1) (h:spec_RenameParty.f k a0_0 l0_1 l1=some (r1,r2,r3)) :
  Calls Try.prog 19 #[.agg #[.int .i64 a0_0,.slice A0_1 l0_1.length c0_1],.slice A1 l1.length c1] w fun e w'=>∃ v1_:Value,e=.returned (.tuple #[.agg #[.int .i64 r1,v1_],.bool r3])∧Kd.R k70 70 w' w.heap.size (fun _=>True) v1_ r2∧Below w.heap.size w w':=by
 have hu30:=Try.underlying30
 have HR0_1:=zz31 hr0_1
 have HC0_1:=zz31 hc0_1
 clear hr0_1 hc0_1
 have HR1:=zz31 hr1
 have HC1:=zz31 hc1
 clear hr1 hc1
 have HB:=zz31 (Below.refl w.heap.size w)
 have H:((spec_paGood.f k a0_0 l0_1).bind fun t176=>(if t176=true then (if (l1.length:Int)=a0_0 then ((spec_l1All.f k l1 0 (wrap64 (a0_0 - 1))).bind fun t177=>(spec_RenameParty.j0 k l1 (!t177) a0_0 l0_1)) else (spec_RenameParty.j0 k l1 true a0_0 l0_1)) else (spec_RenameParty.j0 k l1 true a0_0 l0_1)))=some (r1,r2,r3):=h
 clear h
 have HC3:=zz31 H
 clear H
 go_enter Try.func19,Try.ntmps19
 go_upto_region 1 with (first | ((with_reducible refine gate_dst (N:=2) rfl ?_);(try (refine gate_guard (by rfl) ?_;dsimp only));refine box_event ?hg (N:=2) ?hd (cs:=#[.int .i64 a0_0,.slice A0_1 l0_1.length c0_1]) (t:=30) ?hr ?_;(case hd=>rfl);(case hg=>rfl);(case hr=>first | (go_simp;done) | (go_simp;rfl));intro gb174 hg w4 hbox hb;have n0_:=zz31 (zz4 (by repeat first | exact HB.out | apply zz2 | apply zz0 | apply zz1) hb);have n1_:=zz31 (hbox);have n2_:=zz31 ((by rw [hg];exact (zz5 (by repeat first | exact HB.out | apply zz2 | apply zz0 | apply zz1)):w.heap.size≤gb174));have n3_:=zz31 ((by rw [hg];exact (zz5 (by repeat first | exact HB.out | apply zz2 | apply zz0 | apply zz1)):w.heap.size≤gb174));clear HB;have HB:=n0_;have BK174:=n1_;have GW174:=n2_;have GE174:=n3_;clear n0_ n1_ n2_ n3_;clear hb hbox hg) | ((with_reducible refine gate_dst (N:=4) rfl ?_);(try (refine gate_guard (by rfl) ?_;dsimp only));refine box_event ?hg (N:=4) ?hd (cs:=#[.int .i64 0,.slice none 0 0]) (t:=30) ?hr ?_;(case hd=>rfl);(case hg=>rfl);(case hr=>first | (go_simp;done) | (go_simp;rfl));intro gb175 hg w5 hbox hb;have n0_:=zz31 (zz11 (g:=gb174) (o:=.cells #[.int .i64 a0_0,.slice A0_1 l0_1.length c0_1] 30 (0,0)) (by (with_reducible repeat (first | refine zz6 ?_ _ | refine zz7 ?_ | refine zz8 ?_ _));exact BK174.out) hb);have n1_:=zz31 (zz4 (by repeat first | exact HB.out | apply zz2 | apply zz0 | apply zz1 | refine zz3 ?_ GE174.out) hb);have n2_:=zz31 (hbox);have n3_:=zz31 ((by rw [hg];exact (zz5 (by repeat first | exact HB.out | apply zz2 | apply zz0 | apply zz1 | refine zz3 ?_ GE174.out)):w.heap.size≤gb175));have n4_:=zz31 ((by rw [hg];exact (zz5 (by repeat first | exact HB.out | apply zz2 | apply zz0 | apply zz1 | refine zz3 ?_ GE174.out)):w.heap.size≤gb175));have n5_:=zz31 ((by rw [hg];exact Nat.ne_of_lt (blk_lt (g:=gb174) (o:=.cells #[.int .i64 a0_0,.slice A0_1 l0_1.length c0_1] 30 (0,0)) (by (with_reducible repeat (first | refine zz6 ?_ _ | refine zz7 ?_ | refine zz8 ?_ _));exact BK174.out)):gb174 ≠ gb175));have n6_:=zz31 ((by rw [hg];exact Nat.ne_of_gt (blk_lt (g:=gb174) (o:=.cells #[.int .i64 a0_0,.slice A0_1 l0_1.length c0_1] 30 (0,0)) (by (with_reducible repeat (first | refine zz6 ?_ _ | refine zz7 ?_ | refine zz8 ?_ _));exact BK174.out)):gb175 ≠ gb174));clear BK174;clear HB;have BK174:=n0_;have HB:=n1_;have BK175:=n2_;have GW175:=n3_;have GE175:=n4_;have NB174_175:=n5_;have NB175_174:=n6_;clear n0_ n1_ n2_ n3_ n4_ n5_ n6_;clear hb hbox hg))
 (try simp only [Act.put,zz21,zz22,zz23])
 go_cut [25] (fun v25 wc=>∃ (kq:Nat) (x25_2:Bool),v25=.bool x25_2∧Aside0 (spec_RenameParty.j0 kq l1 x25_2 a0_0 l0_1=some (r1,r2,r3))∧Aside0 (kq≤k)∧Aside0 (wc.heap[gb174]?=some (.cells #[.int .i64 a0_0,(.slice A0_1 l0_1.length c0_1)] 30 (0,0)))∧Aside0 (wc.heap[gb175]?=some (.cells #[.int .i64 0,(.slice none 0 0)] 30 (0,0)))∧Aside0 (Below w.heap.size w wc))
 case first =>
  have H:=HC3.out
  clear HC3
  replace H:=zz30.mp H
  obtain ⟨t176,A60,H⟩:=H
  replace H:(if t176=true then (if (l1.length:Int)=a0_0 then ((spec_l1All.f k l1 0 (wrap64 (a0_0 - 1))).bind fun t177=>(spec_RenameParty.j0 k l1 (!t177) a0_0 l0_1)) else (spec_RenameParty.j0 k l1 true a0_0 l0_1)) else (spec_RenameParty.j0 k l1 true a0_0 l0_1))=some (r1,r2,r3):=H
  have A6:=zz31 A60
  clear A60
  by_cases c7:t176=true
  ·subst c7
   have H1:(if (l1.length:Int)=a0_0 then ((spec_l1All.f k l1 0 (wrap64 (a0_0 - 1))).bind fun t177=>(spec_RenameParty.j0 k l1 (!t177) a0_0 l0_1)) else (spec_RenameParty.j0 k l1 true a0_0 l0_1))=some (r1,r2,r3):=by rw [if_pos rfl] at H;exact H
   clear H
   have H:=H1
   clear H1
   by_cases c8:(l1.length:Int)=a0_0
   ·rw [if_pos c8] at H
    have c8b0:((l1.length:Int) == a0_0)=true:=beq_iff_eq.mpr c8
    have c8b1:((l1.length:Int) != a0_0)=false:=bne_eq_false_iff_eq.mpr c8
    clear c8
    (first | rw [c8b0] | (simp only [i64_w,i32_w];rw [c8b0]) | skip)
    replace H:=zz30.mp H
    obtain ⟨t177,A90,H⟩:=H
    replace H:(spec_RenameParty.j0 k l1 (!t177) a0_0 l0_1)=some (r1,r2,r3):=H
    have A9:=zz31 A90
    clear A90
    have H':=zz31 H
    clear H
    have hnb10:=NB174_175.out
    have hnc10:=NB175_174.out
    have hcz11_0:w5.cell? ⟨gb174,0,none⟩=some (.int .i64 a0_0):=(zz9 BK174.out 0).trans rfl
    have hcz11_1:w5.cell? ⟨gb174,1,none⟩=some (.slice A0_1 l0_1.length c0_1):=(zz9 BK174.out 1).trans rfl
    have hfz11_0:=zz10 BK174.out 0
    have hfz11_1:=zz10 BK174.out 1
    go_wp2_with (first | ((with_reducible refine gate_callee (f:=46) rfl ?_);refine goesL_ (some 9) rfl rfl Try.func46 (by kernel_rfl) rfl #[.agg #[.int .i64 a0_0,.slice A0_1 l0_1.length c0_1]] rfl (by (try simp only [zz26,zz27,zz28]);first | done | rfl | (simp only [zz24,zz25];rfl)) ?_;(with_reducible refine (spec_paGood.calls k a0_0 _ _ l0_1 true _ ?side1 ?side2 A6.out).mono ?_);(case side1=>repeat (first | exact (Kd.C_below HR0_1.out HB.out) | (with_reducible refine zz18 ?_ _) | (with_reducible refine zz19 ?_ _) | (with_reducible refine zz20 ?_)));(case side2=>exact HC0_1.out);rintro e w12 ⟨rfl,hb⟩;refine ⟨_,rfl,?_⟩;have n0_:=zz31 (zz11 (g:=gb174) (o:=.cells #[.int .i64 a0_0,.slice A0_1 l0_1.length c0_1] 30 (0,0)) (by (with_reducible repeat (first | refine zz6 ?_ _ | refine zz7 ?_ | refine zz8 ?_ _));exact BK174.out) hb);have n1_:=zz31 (zz11 (g:=gb175) (o:=.cells #[.int .i64 0,.slice none 0 0] 30 (0,0)) (by (with_reducible repeat (first | refine zz6 ?_ _ | refine zz7 ?_ | refine zz8 ?_ _));exact BK175.out) hb);have n2_:=zz31 (zz4 (by repeat first | exact HB.out | apply zz2 | apply zz0 | apply zz1 | refine zz3 ?_ GE174.out | refine zz3 ?_ GE175.out) hb);clear BK174;clear BK175;clear HB;have BK174:=n0_;have BK175:=n1_;have HB:=n2_;clear n0_ n1_ n2_;(try clear hb);(try clear hb2);(try clear hk);(try clear hi);have hcz13_0:w12.cell? ⟨gb174,0,none⟩=some (.int .i64 a0_0):=(zz9 BK174.out 0).trans rfl;have hcz13_1:w12.cell? ⟨gb174,1,none⟩=some (.slice A0_1 l0_1.length c0_1):=(zz9 BK174.out 1).trans rfl;have hfz13_0:=zz10 BK174.out 0;have hfz13_1:=zz10 BK174.out 1) | (go_at_call 47;(with_reducible refine (spec_l1All.calls k _ _ l1 0 (wrap64 (a0_0 - 1)) t177 _ ?side1 ?side2 A9.out).mono ?_);(case side1=>repeat (first | exact (Kd.C_below HR1.out HB.out) | (with_reducible refine zz18 ?_ _) | (with_reducible refine zz19 ?_ _) | (with_reducible refine zz20 ?_)));(case side2=>exact HC1.out);rintro e w' ⟨rfl,⟨nd,rfl⟩⟩))
    go_meet
    case rel=>exact ⟨_,(!t177),(by first | rfl | (simp;done) | (simp [*];done)),H',⟨by first | omega | exact Nat.le_refl _⟩,⟨by (with_reducible repeat (first | refine zz6 ?_ _ | refine zz7 ?_ | refine zz8 ?_ _));exact BK174.out⟩,⟨by (with_reducible repeat (first | refine zz6 ?_ _ | refine zz7 ?_ | refine zz8 ?_ _));exact BK175.out⟩,⟨by repeat first | exact HB.out | apply zz2 | apply zz0 | apply zz1 | refine zz3 ?_ GE174.out | refine zz3 ?_ GE175.out⟩⟩
   ·rw [if_neg c8] at H
    have c8b0:((l1.length:Int) == a0_0)=false:=beq_eq_false_iff_ne.mpr c8
    have c8b1:((l1.length:Int) != a0_0)=true:=bne_iff_ne.mpr c8
    (first | rw [c8b0] | (simp only [i64_w,i32_w];rw [c8b0]) | skip)
    have H':=zz31 H
    clear H
    have hnb14:=NB174_175.out
    have hnc14:=NB175_174.out
    have hcz15_0:w5.cell? ⟨gb174,0,none⟩=some (.int .i64 a0_0):=(zz9 BK174.out 0).trans rfl
    have hcz15_1:w5.cell? ⟨gb174,1,none⟩=some (.slice A0_1 l0_1.length c0_1):=(zz9 BK174.out 1).trans rfl
    have hfz15_0:=zz10 BK174.out 0
    have hfz15_1:=zz10 BK174.out 1
    go_wp2_with (first | ((with_reducible refine gate_callee (f:=46) rfl ?_);refine goesL_ (some 9) rfl rfl Try.func46 (by kernel_rfl) rfl #[.agg #[.int .i64 a0_0,.slice A0_1 l0_1.length c0_1]] rfl (by (try simp only [zz26,zz27,zz28]);first | done | rfl | (simp only [zz24,zz25];rfl)) ?_;(with_reducible refine (spec_paGood.calls k a0_0 _ _ l0_1 true _ ?side1 ?side2 A6.out).mono ?_);(case side1=>repeat (first | exact (Kd.C_below HR0_1.out HB.out) | (with_reducible refine zz18 ?_ _) | (with_reducible refine zz19 ?_ _) | (with_reducible refine zz20 ?_)));(case side2=>exact HC0_1.out);rintro e w16 ⟨rfl,hb⟩;refine ⟨_,rfl,?_⟩;have n0_:=zz31 (zz11 (g:=gb174) (o:=.cells #[.int .i64 a0_0,.slice A0_1 l0_1.length c0_1] 30 (0,0)) (by (with_reducible repeat (first | refine zz6 ?_ _ | refine zz7 ?_ | refine zz8 ?_ _));exact BK174.out) hb);have n1_:=zz31 (zz11 (g:=gb175) (o:=.cells #[.int .i64 0,.slice none 0 0] 30 (0,0)) (by (with_reducible repeat (first | refine zz6 ?_ _ | refine zz7 ?_ | refine zz8 ?_ _));exact BK175.out) hb);have n2_:=zz31 (zz4 (by repeat first | exact HB.out | apply zz2 | apply zz0 | apply zz1 | refine zz3 ?_ GE174.out | refine zz3 ?_ GE175.out) hb);clear BK174;clear BK175;clear HB;have BK174:=n0_;have BK175:=n1_;have HB:=n2_;clear n0_ n1_ n2_;(try clear hb);(try clear hb2);(try clear hk);(try clear hi);have hcz17_0:w16.cell? ⟨gb174,0,none⟩=some (.int .i64 a0_0):=(zz9 BK174.out 0).trans rfl;have hcz17_1:w16.cell? ⟨gb174,1,none⟩=some (.slice A0_1 l0_1.length c0_1):=(zz9 BK174.out 1).trans rfl;have hfz17_0:=zz10 BK174.out 0;have hfz17_1:=zz10 BK174.out 1))
    go_meet
    case rel=>exact ⟨_,(true),(by first | rfl | (simp;done) | (simp [*];done)),H',⟨by first | omega | exact Nat.le_refl _⟩,⟨by (with_reducible repeat (first | refine zz6 ?_ _ | refine zz7 ?_ | refine zz8 ?_ _));exact BK174.out⟩,⟨by (with_reducible repeat (first | refine zz6 ?_ _ | refine zz7 ?_ | refine zz8 ?_ _));exact BK175.out⟩,⟨by repeat first | exact HB.out | apply zz2 | apply zz0 | apply zz1 | refine zz3 ?_ GE174.out | refine zz3 ?_ GE175.out⟩⟩
  ·replace c7:=Bool.eq_false_iff.mpr c7
   subst c7
   have H1:(spec_RenameParty.j0 k l1 true a0_0 l0_1)=some (r1,r2,r3):=by rw [if_neg (show ¬ (false=true) by decide)] at H;exact H
   clear H
   have H:=H1
   clear H1
   have H':=zz31 H
   clear H
   have hnb18:=NB174_175.out
   have hnc18:=NB175_174.out
   have hcz19_0:w5.cell? ⟨gb174,0,none⟩=some (.int .i64 a0_0):=(zz9 BK174.out 0).trans rfl
   have hcz19_1:w5.cell? ⟨gb174,1,none⟩=some (.slice A0_1 l0_1.length c0_1):=(zz9 BK174.out 1).trans rfl
   have hfz19_0:=zz10 BK174.out 0
   have hfz19_1:=zz10 BK174.out 1
   go_wp2_with (first | ((with_reducible refine gate_callee (f:=46) rfl ?_);refine goesL_ (some 9) rfl rfl Try.func46 (by kernel_rfl) rfl #[.agg #[.int .i64 a0_0,.slice A0_1 l0_1.length c0_1]] rfl (by (try simp only [zz26,zz27,zz28]);first | done | rfl | (simp only [zz24,zz25];rfl)) ?_;(with_reducible refine (spec_paGood.calls k a0_0 _ _ l0_1 false _ ?side1 ?side2 A6.out).mono ?_);(case side1=>repeat (first | exact (Kd.C_below HR0_1.out HB.out) | (with_reducible refine zz18 ?_ _) | (with_reducible refine zz19 ?_ _) | (with_reducible refine zz20 ?_)));(case side2=>exact HC0_1.out);rintro e w20 ⟨rfl,hb⟩;refine ⟨_,rfl,?_⟩;have n0_:=zz31 (zz11 (g:=gb174) (o:=.cells #[.int .i64 a0_0,.slice A0_1 l0_1.length c0_1] 30 (0,0)) (by (with_reducible repeat (first | refine zz6 ?_ _ | refine zz7 ?_ | refine zz8 ?_ _));exact BK174.out) hb);have n1_:=zz31 (zz11 (g:=gb175) (o:=.cells #[.int .i64 0,.slice none 0 0] 30 (0,0)) (by (with_reducible repeat (first | refine zz6 ?_ _ | refine zz7 ?_ | refine zz8 ?_ _));exact BK175.out) hb);have n2_:=zz31 (zz4 (by repeat first | exact HB.out | apply zz2 | apply zz0 | apply zz1 | refine zz3 ?_ GE174.out | refine zz3 ?_ GE175.out) hb);clear BK174;clear BK175;clear HB;have BK174:=n0_;have BK175:=n1_;have HB:=n2_;clear n0_ n1_ n2_;(try clear hb);(try clear hb2);(try clear hk);(try clear hi)))
   go_meet
   case rel=>exact ⟨_,(true),(by first | rfl | (simp;done) | (simp [*];done)),H',⟨by first | omega | exact Nat.le_refl _⟩,⟨by (with_reducible repeat (first | refine zz6 ?_ _ | refine zz7 ?_ | refine zz8 ?_ _));exact BK174.out⟩,⟨by (with_reducible repeat (first | refine zz6 ?_ _ | refine zz7 ?_ | refine zz8 ?_ _));exact BK175.out⟩,⟨by repeat first | exact HB.out | apply zz2 | apply zz0 | apply zz1 | refine zz3 ?_ GE174.out | refine zz3 ?_ GE175.out⟩⟩
 case rest =>
  clear HC3
  try clear c1
  try clear p2
  try clear c4
  try clear p6
  try clear c7
  try clear c8
  try clear c8b0
  try clear c8b1
  try clear c10
  try clear c14
  try clear c18
  try clear c19
  try clear hcz11_0
  try clear hcz11_1
  try clear hcz13_0
  try clear hcz13_1
  try clear hcz15_0
  try clear hcz15_1
  try clear hcz17_0
  try clear hcz17_1
  try clear hcz19_0
  try clear hcz19_1
  try clear hfz11_0
  try clear hfz11_1
  try clear hfz13_0
  try clear hfz13_1
  try clear hfz15_0
  try clear hfz15_1
  try clear hfz17_0
  try clear hfz17_1
  try clear hfz19_0
  try clear hfz19_1
  obtain ⟨kq,x25_2,rfl,HA,HJ2,BK174,BK175,HB⟩:=hcut
  cases kq with
  | zero=>exact absurd HA.out (by simp [spec_RenameParty.j0])
  | succ kj2 =>
   have H:=HA.out
   clear HA
   simp only [spec_RenameParty.j0] at H
   by_cases c21:x25_2=true
   ·subst c21
    have H1:(some (0,([]:List (S70)),false))=some (r1,r2,r3):=by rw [if_pos rfl] at H;exact H
    clear H
    have H:=H1
    clear H1
    simp only [Option.some.injEq,Prod.mk.injEq] at H
    obtain ⟨rfl,rfl,rfl⟩:=H
    have hnb22:=NB175_174.out
    have hnc22:=NB174_175.out
    have hcz23_0:wc.cell? ⟨gb175,0,none⟩=some (.int .i64 0):=(zz9 BK175.out 0).trans rfl
    have hcz23_1:wc.cell? ⟨gb175,1,none⟩=some (.slice none 0 0):=(zz9 BK175.out 1).trans rfl
    have hfz23_0:=zz10 BK175.out 0
    have hfz23_1:=zz10 BK175.out 1
    go_wp2
    refine bodyPost_ret (results_ct rfl _ _ gb175 30 #[.int .i64 0,.slice none 0 0] (0,0) _ rfl (by (with_reducible repeat (first | refine zz6 ?_ _ | refine zz7 ?_ | refine zz8 ?_ _));refine blk_put (cs:=#[.int .i64 0,.slice none 0 0]) ?_ 1 _ rfl;(with_reducible repeat (first | refine zz6 ?_ _ | refine zz7 ?_ | refine zz8 ?_ _));refine blk_put (cs:=#[.int .i64 0,.slice none 0 0]) ?_ 0 _ rfl;(with_reducible repeat (first | refine zz6 ?_ _ | refine zz7 ?_ | refine zz8 ?_ _));exact BK175.out) Try.underlying30 rfl (by kernel_rfl)) rfl ?_
    exact ⟨_,by first | rfl | (simp [errW_none,errW_some] <;> rfl) | (simp [*,errW_none,errW_some] <;> rfl),by first | exact Kd.R_nil _ _ _ _ _ | exact Kd.N_nil _ _ _ _ _ | exact Kd.V_nil _ _ _ _ _ | exact Kd.Q_nil _ _ _ _ _ | exact Kd.S_nil _ _ _ _ _,by repeat first | exact HB.out | apply zz2 | apply zz0 | apply zz1 | refine zz3 ?_ GE174.out | refine zz3 ?_ GE175.out⟩
   ·replace c21:=Bool.eq_false_iff.mpr c21
    subst c21
    have H1:(spec_RenameParty.l0 kj2 l1 l1 (l1.length:Int) 0 a0_0 l0_1)=some (r1,r2,r3):=by rw [if_neg (show ¬ (false=true) by decide)] at H;exact H
    clear H
    have H:=H1
    clear H1
    have H':=zz31 H
    clear H
    go_wp2
    go_loopg [29] kj2 (fun kq v29 w'=>∃ (x29_2:Int) (x176000_2:Int),v29=.int .i64 x29_2∧Aside0 (spec_RenameParty.l0 kq l1 l1 (l1.length:Int) x29_2 a0_0 l0_1=some (r1,r2,r3))∧Aside0 (kq≤kj2)∧Aside0 (w'.heap[gb174]?=some (.cells #[.int .i64 a0_0,(.slice A0_1 l0_1.length c0_1)] 30 (0,0)))∧Aside0 (w'.heap[gb175]?=some (.cells #[.int .i64 x176000_2,(.slice none 0 0)] 30 (0,0)))∧Aside0 (Below w.heap.size w w'))
    case atStart=>exact ⟨(0),(0),(by first | rfl | (simp;done) | (simp [*];done)),H',⟨Nat.le_refl _⟩,⟨by (with_reducible repeat (first | refine zz6 ?_ _ | refine zz7 ?_ | refine zz8 ?_ _));exact BK174.out⟩,⟨by (with_reducible repeat (first | refine zz6 ?_ _ | refine zz7 ?_ | refine zz8 ?_ _));exact BK175.out⟩,⟨by repeat first | exact HB.out | apply zz2 | apply zz0 | apply zz1 | refine zz3 ?_ GE174.out | refine zz3 ?_ GE175.out⟩⟩
    case round =>
     clear H'
     try clear c1
     try clear c2
     try clear p2
     try clear c4
     try clear p6
     try clear c7
     try clear c8
     try clear c8b0
     try clear c8b1
     try clear c10
     try clear c14
     try clear c18
     try clear c19
     try clear c21
     try clear c22
     try clear hcz11_0
     try clear hcz11_1
     try clear hcz13_0
     try clear hcz13_1
     try clear hcz15_0
     try clear hcz15_1
     try clear hcz17_0
     try clear hcz17_1
     try clear hcz19_0
     try clear hcz19_1
     try clear hcz23_0
     try clear hcz23_1
     try clear hfz11_0
     try clear hfz11_1
     try clear hfz13_0
     try clear hfz13_1
     try clear hfz15_0
     try clear hfz15_1
     try clear hfz17_0
     try clear hfz17_1
     try clear hfz19_0
     try clear hfz19_1
     try clear hfz23_0
     try clear hfz23_1
     try clear p2
     try clear p6
     obtain ⟨x29_2,x176000_2,rfl,HA,HK2,BK174,BK175,HB⟩:=hrel
     cases gk with
     | zero=>exact absurd HA.out (by simp [spec_RenameParty.l0])
     | succ k2 =>
      have H:=HA.out
      clear HA
      simp only [spec_RenameParty.l0] at H
      by_cases c24:x29_2 < (l1.length:Int)
      ·rw [if_pos c24] at H
       have c24b0:decide (x29_2 < (l1.length:Int))=true:=decide_eq_true c24
       clear c24
       by_cases c25:0≤x29_2
       ·rw [if_pos c25] at H
        have c25b0:decide (0≤x29_2)=true:=decide_eq_true c25
        clear c25
        by_cases c26:x29_2 < (l1.length:Int)
        ·rw [if_pos c26] at H
         have c26b0:decide (x29_2 < (l1.length:Int))=true:=decide_eq_true c26
         clear c26
         have c27b0:=eq_true (zz29 (by first | (with_reducible assumption) | assumption):0≤x29_2)
         by_cases c28:x29_2≤(l1.length:Int)
         ·rw [if_pos c28] at H
          have c28b0:=eq_true c28
          have c28b1:decide (x29_2≤(l1.length:Int))=true:=decide_eq_true c28
          clear c28
          replace H:=zz30.mp H
          obtain ⟨t180,A290,H⟩:=H
          replace H:(if t180=true then (some (0,([]:List (S70)),false)) else (spec_RenameParty.l0 k2 l1 l1 (l1.length:Int) (wrap64 (x29_2+1)) a0_0 l0_1))=some (r1,r2,r3):=H
          have A29:=zz31 A290
          clear A290
          by_cases c30:t180=true
          ·subst c30
           have H1:(some (0,([]:List (S70)),false))=some (r1,r2,r3):=by rw [if_pos rfl] at H;exact H
           clear H
           have H:=H1
           clear H1
           simp only [Option.some.injEq,Prod.mk.injEq] at H
           obtain ⟨rfl,rfl,rfl⟩:=H
           have p178:0≤(x29_2:Int):=zz29 (by first | (with_reducible assumption) | assumption)
           have q178:x29_2 < (l1.length:Int):=zz29 (by first | (with_reducible assumption) | assumption)
           obtain ⟨ad178,e178,hx178_0⟩:=Kd.at_int HR1.out x29_2 p178 q178
           cases e178
           try replace hx178_0:=(HB.out.cell (World.block_lt_of_cell? w _ hx178_0)).trans hx178_0
           replace p178:=eq_true p178
           replace q178:=eq_true q178
           obtain ⟨i031,hi031,_,hsz31,_⟩:=info_parts info3
           obtain ⟨hcut31,hA31,hC31⟩:=print_take_of (P:=Try.prog) (Value.int .i64) 0 40 3 .i64 Try.underlying40 hi031 hsz31 (some ad178) c1 l1 x29_2 (zz29 (by first | (with_reducible assumption) | assumption)) (zz29 (by first | (with_reducible assumption) | assumption)) HC1.out
           have HL31:=zz31 (show ((l1.take (x29_2:Int).toNat).length:Int)=max x29_2 0 from by (have e1:x29_2≤(l1.length:Int):=zz29 (by first | (with_reducible assumption) | assumption));rw [zz25];omega)
           have HR179:=zz31 (Kd.C_of_reads (h1:=fun _=>rfl) (hA31 _ (Kd.reads_of_C HR1.out)))
           have HC179:=zz31 hC31
           clear hA31 hC31 hi031 hsz31
           go_wp2_with (first | ((with_reducible refine gate_callee (f:=48) rfl ?_);refine goesL_ (some 38) rfl rfl Try.func48 (by kernel_rfl) rfl #[.slice (some ad178) (l1.take (x29_2:Int).toNat).length c1,.int .i64 (rd l1 x29_2)] rfl (by (try simp only [zz26,zz27,zz28]);first | done | (rw [show (l1.take (x29_2:Int).toNat).length=x29_2.toNat from (by rw [zz25];have h_:(x29_2:Int)≤(l1.length:Int):=zz29 (by first | (with_reducible assumption) | assumption);omega)] <;> rfl) | rfl | (simp only [zz24,zz25];rfl)) ?_;(with_reducible refine (spec_l1Has.calls k2 _ _ (l1.take (x29_2:Int).toNat) (rd l1 x29_2) true _ ?side1 ?side2 A29.out).mono ?_);(case side1=>repeat (first | exact (Kd.C_below HR179.out HB.out) | (with_reducible refine zz18 ?_ _) | (with_reducible refine zz19 ?_ _) | (with_reducible refine zz20 ?_)));(case side2=>exact HC179.out);rintro e w' ⟨rfl,⟨nd,rfl⟩⟩;refine ⟨_,rfl,?_⟩;(try (rw [drewN_self wr];generalize hq_:World.drewN wr _=wr;have n0_:Aside0 (wr.heap[gb174]?=some (.cells #[.int .i64 a0_0,.slice A0_1 l0_1.length c0_1] 30 (0,0))):=⟨by rw [← hq_];exact (by (with_reducible repeat (first | refine zz6 ?_ _ | refine zz7 ?_ | refine zz8 ?_ _));exact BK174.out)⟩;have n1_:Aside0 (wr.heap[gb175]?=some (.cells #[.int .i64 x176000_2,.slice none 0 0] 30 (0,0))):=⟨by rw [← hq_];exact (by (with_reducible repeat (first | refine zz6 ?_ _ | refine zz7 ?_ | refine zz8 ?_ _));exact BK175.out)⟩;have n2_:Aside0 (Below w.heap.size w wr):=⟨by rw [← hq_];exact (by repeat first | exact HB.out | apply zz2 | apply zz0 | apply zz1 | refine zz3 ?_ GE174.out | refine zz3 ?_ GE175.out)⟩;clear BK174 BK175 HB hq_;have BK174:=n0_;have BK175:=n1_;have HB:=n2_;clear n0_ n1_ n2_));have hnb32:=NB175_174.out;have hnc32:=NB174_175.out;have hcz33_0:wr.cell? ⟨gb175,0,none⟩=some (.int .i64 x176000_2):=(zz9 BK175.out 0).trans rfl;have hcz33_1:wr.cell? ⟨gb175,1,none⟩=some (.slice none 0 0):=(zz9 BK175.out 1).trans rfl;have hfz33_0:=zz10 BK175.out 0;have hfz33_1:=zz10 BK175.out 1))
           refine bodyPost_ret (results_ct rfl _ _ gb175 30 #[.int .i64 0,.slice none 0 0] (0,0) _ rfl (by (with_reducible repeat (first | refine zz6 ?_ _ | refine zz7 ?_ | refine zz8 ?_ _));refine blk_put (cs:=#[.int .i64 0,.slice none 0 0]) ?_ 1 _ rfl;(with_reducible repeat (first | refine zz6 ?_ _ | refine zz7 ?_ | refine zz8 ?_ _));refine blk_put (cs:=#[.int .i64 x176000_2,.slice none 0 0]) ?_ 0 _ rfl;(with_reducible repeat (first | refine zz6 ?_ _ | refine zz7 ?_ | refine zz8 ?_ _));exact BK175.out) Try.underlying30 rfl (by kernel_rfl)) rfl ?_
           exact ⟨_,by first | rfl | (simp [errW_none,errW_some] <;> rfl) | (simp [*,errW_none,errW_some] <;> rfl),by first | exact Kd.R_nil _ _ _ _ _ | exact Kd.N_nil _ _ _ _ _ | exact Kd.V_nil _ _ _ _ _ | exact Kd.Q_nil _ _ _ _ _ | exact Kd.S_nil _ _ _ _ _,by repeat first | exact HB.out | apply zz2 | apply zz0 | apply zz1 | refine zz3 ?_ GE174.out | refine zz3 ?_ GE175.out⟩
          ·replace c30:=Bool.eq_false_iff.mpr c30
           subst c30
           have H1:(spec_RenameParty.l0 k2 l1 l1 (l1.length:Int) (wrap64 (x29_2+1)) a0_0 l0_1)=some (r1,r2,r3):=by rw [if_neg (show ¬ (false=true) by decide)] at H;exact H
           clear H
           have H:=H1
           clear H1
           have H':=zz31 H
           clear H
           have p178:0≤(x29_2:Int):=zz29 (by first | (with_reducible assumption) | assumption)
           have q178:x29_2 < (l1.length:Int):=zz29 (by first | (with_reducible assumption) | assumption)
           obtain ⟨ad178,e178,hx178_0⟩:=Kd.at_int HR1.out x29_2 p178 q178
           cases e178
           try replace hx178_0:=(HB.out.cell (World.block_lt_of_cell? w _ hx178_0)).trans hx178_0
           replace p178:=eq_true p178
           replace q178:=eq_true q178
           obtain ⟨i034,hi034,_,hsz34,_⟩:=info_parts info3
           obtain ⟨hcut34,hA34,hC34⟩:=print_take_of (P:=Try.prog) (Value.int .i64) 0 40 3 .i64 Try.underlying40 hi034 hsz34 (some ad178) c1 l1 x29_2 (zz29 (by first | (with_reducible assumption) | assumption)) (zz29 (by first | (with_reducible assumption) | assumption)) HC1.out
           have HL34:=zz31 (show ((l1.take (x29_2:Int).toNat).length:Int)=max x29_2 0 from by (have e1:x29_2≤(l1.length:Int):=zz29 (by first | (with_reducible assumption) | assumption));rw [zz25];omega)
           have HR179:=zz31 (Kd.C_of_reads (h1:=fun _=>rfl) (hA34 _ (Kd.reads_of_C HR1.out)))
           have HC179:=zz31 hC34
           clear hA34 hC34 hi034 hsz34
           go_wp2_with (first | ((with_reducible refine gate_callee (f:=48) rfl ?_);refine goesL_ (some 38) rfl rfl Try.func48 (by kernel_rfl) rfl #[.slice (some ad178) (l1.take (x29_2:Int).toNat).length c1,.int .i64 (rd l1 x29_2)] rfl (by (try simp only [zz26,zz27,zz28]);first | done | (rw [show (l1.take (x29_2:Int).toNat).length=x29_2.toNat from (by rw [zz25];have h_:(x29_2:Int)≤(l1.length:Int):=zz29 (by first | (with_reducible assumption) | assumption);omega)] <;> rfl) | rfl | (simp only [zz24,zz25];rfl)) ?_;(with_reducible refine (spec_l1Has.calls k2 _ _ (l1.take (x29_2:Int).toNat) (rd l1 x29_2) false _ ?side1 ?side2 A29.out).mono ?_);(case side1=>repeat (first | exact (Kd.C_below HR179.out HB.out) | (with_reducible refine zz18 ?_ _) | (with_reducible refine zz19 ?_ _) | (with_reducible refine zz20 ?_)));(case side2=>exact HC179.out);rintro e w' ⟨rfl,⟨nd,rfl⟩⟩;refine ⟨_,rfl,?_⟩))
           go_roundg k2
           case measure=>have:=HJ2.out;have:=HK2.out;omega
           case rel=>exact ⟨(wrap64 (x29_2+1)),(x176000_2),(by first | rfl | (simp;done) | (simp [*];done)),H',⟨by have:=HJ2.out;have:=HK2.out;omega⟩,⟨by (with_reducible repeat (first | refine zz6 ?_ _ | refine zz7 ?_ | refine zz8 ?_ _));exact BK174.out⟩,⟨by (with_reducible repeat (first | refine zz6 ?_ _ | refine zz7 ?_ | refine zz8 ?_ _));exact BK175.out⟩,⟨by repeat first | exact HB.out | apply zz2 | apply zz0 | apply zz1 | refine zz3 ?_ GE174.out | refine zz3 ?_ GE175.out⟩⟩
         ·rw [if_neg c28] at H
          exact absurd H (by simp)
        ·rw [if_neg c26] at H
         exact absurd H (by simp)
       ·rw [if_neg c25] at H
        exact absurd H (by simp)
      ·rw [if_neg c24] at H
       have c24b0:decide (x29_2 < (l1.length:Int))=false:=decide_eq_false c24
       clear c24
       replace H:=zz30.mp H
       obtain ⟨⟨t181,t182⟩,A350,H⟩:=H
       replace H:(some (t181,t182,true))=some (r1,r2,r3):=H
       have A35:=zz31 A350
       clear A350
       simp only [Option.some.injEq,Prod.mk.injEq] at H
       obtain ⟨rfl,rfl,rfl⟩:=H
       have hnb36:=NB174_175.out
       have hnc36:=NB175_174.out
       have hcz37_0:wr.cell? ⟨gb174,0,none⟩=some (.int .i64 a0_0):=(zz9 BK174.out 0).trans rfl
       have hcz37_1:wr.cell? ⟨gb174,1,none⟩=some (.slice A0_1 l0_1.length c0_1):=(zz9 BK174.out 1).trans rfl
       have hfz37_0:=zz10 BK174.out 0
       have hfz37_1:=zz10 BK174.out 1
       go_wp2_with (first | ((with_reducible refine gate_callee (f:=49) rfl ?_);refine goesL_ (some 43) rfl rfl Try.func49 (by kernel_rfl) rfl #[.agg #[.int .i64 a0_0,.slice A0_1 l0_1.length c0_1],.slice A1 l1.length c1] rfl (by (try simp only [zz26,zz27,zz28]);first | done | rfl | (simp only [zz24,zz25];rfl)) ?_;(with_reducible refine (spec_paRename.calls k2 a0_0 _ _ l0_1 _ _ l1 t181 t182 _ ?side1 ?side2 ?side3 ?side4 A35.out).mono ?_);(case side1=>repeat (first | exact (Kd.C_below HR0_1.out HB.out) | (with_reducible refine zz18 ?_ _) | (with_reducible refine zz19 ?_ _) | (with_reducible refine zz20 ?_)));(case side2=>exact HC0_1.out);(case side3=>repeat (first | exact (Kd.C_below HR1.out HB.out) | (with_reducible refine zz18 ?_ _) | (with_reducible refine zz19 ?_ _) | (with_reducible refine zz20 ?_)));(case side4=>exact HC1.out);rintro e w38 ⟨v183,rfl,ho0,hb⟩;refine ⟨_,rfl,?_⟩;have n0_:=zz31 (Kd.R_lower ho0 (zz5 (by repeat first | exact HB.out | apply zz2 | apply zz0 | apply zz1 | refine zz3 ?_ GE174.out | refine zz3 ?_ GE175.out)));have n1_:=zz31 (zz11 (g:=gb174) (o:=.cells #[.int .i64 a0_0,.slice A0_1 l0_1.length c0_1] 30 (0,0)) (by (with_reducible repeat (first | refine zz6 ?_ _ | refine zz7 ?_ | refine zz8 ?_ _));exact BK174.out) hb);have n2_:=zz31 (zz11 (g:=gb175) (o:=.cells #[.int .i64 x176000_2,.slice none 0 0] 30 (0,0)) (by (with_reducible repeat (first | refine zz6 ?_ _ | refine zz7 ?_ | refine zz8 ?_ _));exact BK175.out) hb);have n3_:=zz31 (zz4 (by repeat first | exact HB.out | apply zz2 | apply zz0 | apply zz1 | refine zz3 ?_ GE174.out | refine zz3 ?_ GE175.out) hb);clear BK174;clear BK175;clear HB;have HO184:=n0_;have BK174:=n1_;have BK175:=n2_;have HB:=n3_;clear n0_ n1_ n2_ n3_;(try clear hb);(try clear hb2);(try clear hk);(try clear hi);(try clear ho0);have hcz39_0:w38.cell? ⟨gb175,0,none⟩=some (.int .i64 x176000_2):=(zz9 BK175.out 0).trans rfl;have hcz39_1:w38.cell? ⟨gb175,1,none⟩=some (.slice none 0 0):=(zz9 BK175.out 1).trans rfl;have hfz39_0:=zz10 BK175.out 0;have hfz39_1:=zz10 BK175.out 1;obtain ⟨Ao40,co40,eo40⟩:=Kd.R_slice HO184.out;subst eo40))
       refine bodyPost_ret (results_ct rfl _ _ gb175 30 #[.int .i64 t181,.slice Ao40 t182.length co40] (0,0) _ rfl (by (with_reducible repeat (first | refine zz6 ?_ _ | refine zz7 ?_ | refine zz8 ?_ _));refine blk_put (cs:=#[.int .i64 t181,.slice none 0 0]) ?_ 1 _ rfl;(with_reducible repeat (first | refine zz6 ?_ _ | refine zz7 ?_ | refine zz8 ?_ _));refine blk_put (cs:=#[.int .i64 x176000_2,.slice none 0 0]) ?_ 0 _ rfl;(with_reducible repeat (first | refine zz6 ?_ _ | refine zz7 ?_ | refine zz8 ?_ _));exact BK175.out) Try.underlying30 rfl (by kernel_rfl)) rfl ?_
       exact ⟨_,by first | rfl | (simp [errW_none,errW_some] <;> rfl) | (simp [*,errW_none,errW_some] <;> rfl),by (with_reducible repeat (first | apply zz12 | apply zz13 | apply zz14));exact Kd.R_mono (Kd.R_far (p:=⟨gb175,1,none⟩) (Kd.R_far (p:=⟨gb175,0,none⟩) (Kd.R_types HO184.out BK175.out (by decide)) (fun _ hk=>hk.2) (.int .i64 t181)) (fun _ hk=>hk.2) (.slice Ao40 t182.length co40)) (fun _ hk=>trivial),by repeat first | exact HB.out | apply zz2 | apply zz0 | apply zz1 | refine zz3 ?_ GE174.out | refine zz3 ?_ GE175.out⟩

/-! ### laws_toIntS: function 20 -/
def laws_toIntS.l0:Nat→List Int→List Int→Int→Option (List Int)
 | 0,_,_,_=>none
 | k+1,x0,x3,x4=>if x4 < (x0.length:Int) then (if 0≤x4 then (if x4 < (x3.length:Int) then (laws_toIntS.l0 k x0 (x3.set (x4:Int).toNat (rd x0 x4)) (wrap64 (x4+1))) else (none)) else (none)) else (some x3)
def laws_toIntS.f (k:Nat) (l0:List Int):Option (List Int):=if 0≤(l0.length:Int) then (if ((l0.length:Int):Int).toNat≤35184372088832 then (laws_toIntS.l0 k l0 (List.replicate ((l0.length:Int):Int).toNat 0) 0) else (none)) else (none)
theorem laws_toIntS.mono_l:∀ k,(∀ y0 y1 y2,LeO (laws_toIntS.l0 k y0 y1 y2) (laws_toIntS.l0 (k+1) y0 y1 y2))
 | 0=>fun _ _ _ r h=>by simp [laws_toIntS.l0] at h
 | k+1=>by
  have ih0:=laws_toIntS.mono_l k
  ·intro y0 y1 y2
   unfold laws_toIntS.l0
   repeat' first
   | (with_reducible exact ih0 _ _ _)
   | (with_reducible exact LeO.refl _)
   | (with_reducible exact LeO.none _)
   | (with_reducible refine LeO.ite ?_ ?_)
   | (with_reducible refine LeO.bind ?_ (fun _=>?_))
   | exact ih0 _ _ _
   | exact LeO.none _
   | refine LeO.ite ?_ ?_
   | refine LeO.bind ?_ (fun _=>?_)
theorem laws_toIntS.mono:∀ a0 k,LeO (laws_toIntS.f k a0) (laws_toIntS.f (k+1) a0):=by
 intro a0 k
 have ih0:=laws_toIntS.mono_l k
 unfold laws_toIntS.f
 repeat' first
   | (with_reducible exact ih0 _ _ _)
   | (with_reducible exact LeO.refl _)
   | (with_reducible exact LeO.none _)
   | (with_reducible refine LeO.ite ?_ ?_)
   | (with_reducible refine LeO.bind ?_ (fun _=>?_))
   | exact ih0 _ _ _
   | exact LeO.none _
   | refine LeO.ite ?_ ?_
   | refine LeO.bind ?_ (fun _=>?_)
set_option maxHeartbeats 8000000 in
set_option maxRecDepth 100000 in
theorem laws_toIntS.calls (k:Nat) (A0:Option Addr) (c0:Nat) (l0:List Int) (r:List Int) (w:World) (hr0:Kd.C (Kd.int .i64) w A0 l0.length l0) (hc0:l0.length≤c0) (h:laws_toIntS.f k l0=some r) :
  Calls Try.prog 20 #[.slice A0 l0.length c0] w fun e w'=>∃ v0_:Value,e=.returned (v0_)∧Kd.R (Kd.int .i64) 3 w' w.heap.size (fun _=>True) v0_ r∧Below w.heap.size w w':=by
 have HR0:=zz31 hr0
 have HC0:=zz31 hc0
 clear hr0 hc0
 have HB:=zz31 (Below.refl w.heap.size w)
 have H:(if 0≤(l0.length:Int) then (if ((l0.length:Int):Int).toNat≤35184372088832 then (laws_toIntS.l0 k l0 (List.replicate ((l0.length:Int):Int).toNat 0) 0) else (none)) else (none))=some r:=h
 clear h
 by_cases c2:0≤(l0.length:Int)
 ·rw [if_pos c2] at H
  have c2b0:=eq_true c2
  have c2b1:decide (0≤(l0.length:Int))=true:=decide_eq_true c2
  clear c2
  by_cases c3:((l0.length:Int):Int).toNat≤35184372088832
  ·rw [if_pos c3] at H
   have c3b0:=eq_true c3
   have c3b1:decide (((l0.length:Int):Int).toNat≤35184372088832)=true:=decide_eq_true c3
   clear c3
   obtain ⟨y185,hy185⟩:∃ y_:List Int,y_=(List.replicate ((l0.length:Int):Int).toNat 0):=⟨_,rfl⟩
   replace H:(laws_toIntS.l0 k l0 y185 0)=some r:=by first | (rw [hy185];with_reducible exact H) | (have H2_:=(Option.bind_some _ _).symm.trans H;rw [hy185];with_reducible exact H2_) | (have H2_:=(Option.bind_some _ _).symm.trans H;with_reducible exact H2_) | with_reducible exact H | (rw [hy185];exact H) | exact H
   have Ny185:=zz31 hy185
   clear hy185
   have H':=zz31 H
   clear H
   go_enter Try.func20,Try.ntmps20
   go_wp2_with (first | ((with_reducible refine gate_dst (N:=7) rfl ?_);refine Kd.R_make (Kd.int .i64) _ 3 rfl (N:=7) rfl 40 _ _ rfl (l0.length:Int) rfl rfl Try.underlying40 (.int .i64 0) 8 info3 rfl (by decide) (by omega) 0 (ok:=fun _=>True) (okp:=fun _=>True) rfl (fun _ hk=>hk) trivial (zz29 (by first | (with_reducible assumption) | assumption)) (Nat.le_trans (Nat.mul_le_mul_right _ (zz29 (by first | (with_reducible assumption) | assumption):(l0.length:Int).toNat≤35184372088832)) (by omega)) (Below.refl _ _) (Nat.le_refl _) ?_;intro v186 w4 ho5 hb hg_ hnew_;clear hg_ hnew_;(first | rw [← Ny185.out] at ho5 | (simp only [Int.reduceToNat] at ho5;rw [← Ny185.out] at ho5));have n0_:=zz31 (Kd.R_lower ho5 (zz5 (by repeat first | exact HB.out | apply zz2 | apply zz0 | apply zz1)));have n1_:=zz31 (zz4 (by repeat first | exact HB.out | apply zz2 | apply zz0 | apply zz1) hb);clear HB;have HO187:=n0_;have HB:=n1_;clear n0_ n1_;clear hb ho5))
   go_loopg [4] k (fun kq v4 w'=>∃ (x3_1:List Int) (x4_1:Int),v4=.int .i64 x4_1∧Aside0 (laws_toIntS.l0 kq l0 x3_1 x4_1=some r)∧Aside0 (kq≤k)∧Aside0 (Kd.R (Kd.int .i64) 3 w' w.heap.size (fun _=>True) v186 x3_1)∧Aside0 (Below w.heap.size w w'))
   case atStart=>exact ⟨(y185),(0),(by first | rfl | (simp;done) | (simp [*];done)),H',⟨Nat.le_refl _⟩,⟨by (with_reducible repeat (first | apply zz12 | apply zz13 | apply zz14));exact HO187.out⟩,⟨by repeat first | exact HB.out | apply zz2 | apply zz0 | apply zz1⟩⟩
   case round =>
    clear H'
    try clear c2
    try clear c2b0
    try clear c2b1
    try clear p2
    try clear c3
    try clear c3b0
    try clear c3b1
    obtain ⟨x3_1,x4_1,rfl,HA,HK1,HO_3,HB⟩:=hrel
    cases gk with
    | zero=>exact absurd HA.out (by simp [laws_toIntS.l0])
    | succ k1 =>
     have H:=HA.out
     clear HA
     simp only [laws_toIntS.l0] at H
     by_cases c6:x4_1 < (l0.length:Int)
     ·rw [if_pos c6] at H
      have c6b0:decide (x4_1 < (l0.length:Int))=true:=decide_eq_true c6
      clear c6
      by_cases c7:0≤x4_1
      ·rw [if_pos c7] at H
       have c7b0:decide (0≤x4_1)=true:=decide_eq_true c7
       clear c7
       by_cases c8:x4_1 < (x3_1.length:Int)
       ·rw [if_pos c8] at H
        have c8b0:decide (x4_1 < (x3_1.length:Int))=true:=decide_eq_true c8
        clear c8
        obtain ⟨y189,hy189⟩:∃ y_:List Int,y_=(x3_1.set (x4_1:Int).toNat (rd l0 x4_1)):=⟨_,rfl⟩
        replace H:(laws_toIntS.l0 k1 l0 y189 (wrap64 (x4_1+1)))=some r:=by first | (rw [hy189];with_reducible exact H) | (have H2_:=(Option.bind_some _ _).symm.trans H;rw [hy189];with_reducible exact H2_) | (have H2_:=(Option.bind_some _ _).symm.trans H;with_reducible exact H2_) | with_reducible exact H | (rw [hy189];exact H) | exact H
        have Ny189:=zz31 hy189
        clear hy189
        have H':=zz31 H
        clear H
        have p188:0≤(x4_1:Int):=zz29 (by first | (with_reducible assumption) | assumption)
        have q188:x4_1 < (l0.length:Int):=zz29 (by first | (with_reducible assumption) | assumption)
        obtain ⟨ad188,e188,hx188_0⟩:=Kd.at_int HR0.out x4_1 p188 q188
        cases e188
        try replace hx188_0:=(HB.out.cell (World.block_lt_of_cell? w _ hx188_0)).trans hx188_0
        replace p188:=eq_true p188
        replace q188:=eq_true q188
        have p9:0≤(x4_1:Int):=zz29 (by first | (with_reducible assumption) | assumption)
        have q9:(x4_1:Int) < ((x3_1.length:Int):Int):=zz29 (by first | (with_reducible assumption) | assumption)
        obtain ⟨go9,co9,eo9,gb9,gl9,cl9,HG9⟩:=Kd.R_form HO_3.out (by omega)
        (first | cases eo9 | (injection eo9 with ea_ en_ ec_;(first | subst ea_ | (injection ea_ with ea_;subst ea_));subst ec_;clear en_))
        have GB9:=zz31 gb9
        have GG9:=zz31 HG9
        clear gb9 gl9 HG9
        obtain ⟨hx9_0,hf9_0⟩:=Kd.R_celln 0 HO_3.out (x4_1:Int) p9 q9
        replace p9:=eq_true p9
        replace q9:=eq_true q9
        have HP10:=Kd.R_putg HO_3.out (x4_1:Int) (rd l0 x4_1)
        go_wp2_with (first | ((with_reducible refine gate_store (t:=3) (p:=20) rfl ?_);refine store_event (t:=3) (p:=20) (v:=?vo_w11) (w1:=(wr.setCell ⟨go9,(x4_1:Int).toNat,none⟩ (.int .i64 (rd l0 x4_1)))) ?hg ?ho ?hn ?hr ?_;(case ho=>rfl);(case hg=>rfl);(case hn=>rfl);(case hr=>first | (go_simp;done) | (go_simp;rfl));intro w11 hw;have hg:wr.grownBy w11 (some go9):=(by rw [hw];exact HP10.2);have hp_:Kd.R (Kd.int .i64) 3 w11 w.heap.size (fun _=>True) (.slice (some ⟨go9,0,none⟩) x3_1.length co9) y189:=(by rw [hw,Ny189.out];exact HP10.1);clear HP10;have n0_:=zz31 (hp_);have n1_:=zz31 ((by rw [hw];exact zz3 (HB.out) GB9.out:Below w.heap.size w w11));clear HO_3;clear HB;have HO_3:=n0_;have HB:=n1_;clear n0_ n1_;clear hg hw hp_))
        go_roundg k1
        case measure=>have:=HK1.out;omega
        case rel=>exact ⟨(y189),(wrap64 (x4_1+1)),(by first | rfl | (simp;done) | (simp [*];done)),H',⟨by have:=HK1.out;omega⟩,⟨by (with_reducible repeat (first | apply zz12 | apply zz13 | apply zz14));exact HO_3.out⟩,⟨by repeat first | exact HB.out | apply zz2 | apply zz0 | apply zz1⟩⟩
       ·rw [if_neg c8] at H
        exact absurd H (by simp)
      ·rw [if_neg c7] at H
       exact absurd H (by simp)
     ·rw [if_neg c6] at H
      have c6b0:decide (x4_1 < (l0.length:Int))=false:=decide_eq_false c6
      clear c6
      obtain rfl:=Option.some.inj H
      go_wp2
      go_ret
      exact ⟨_,by first | rfl | (simp [errW_none,errW_some] <;> rfl) | (simp [*,errW_none,errW_some] <;> rfl),by (with_reducible repeat (first | apply zz12 | apply zz13 | apply zz14));exact HO_3.out,by repeat first | exact HB.out | apply zz2 | apply zz0 | apply zz1⟩
  ·rw [if_neg c3] at H
   exact absurd H (by simp)
 ·rw [if_neg c2] at H
  exact absurd H (by simp)

/-! ### impl_table_has: function 81 -/
def impl_table_has.f (l0:List Int) (a1:Int) (a2:Int):Option (Bool):=if 0≤a1 then (if a1 < (l0.length:Int) then (if 0≤a2 then (some ((Go.bits .and .u16 (shr .u16 (rd l0 a1) a2) 1) == 1)) else (none)) else (none)) else (none)
set_option maxHeartbeats 8000000 in
set_option maxRecDepth 100000 in
theorem impl_table_has.calls (A0:Option Addr) (c0:Nat) (l0:List Int) (a1:Int) (a2:Int) (r:Bool) (w:World) (hr0:Kd.C (Kd.int .u16) w A0 l0.length l0) (hc0:l0.length≤c0) (h:impl_table_has.f l0 a1 a2=some r) :
  Calls Try.prog 81 #[.slice A0 l0.length c0,.int .i64 a1,.int .i64 a2] w fun e w'=>e=.returned (.bool r)∧Drawn0 w w':=by
 have HR0:=zz31 hr0
 have HC0:=zz31 hc0
 clear hr0 hc0
 have H:(if 0≤a1 then (if a1 < (l0.length:Int) then (if 0≤a2 then (some ((Go.bits .and .u16 (shr .u16 (rd l0 a1) a2) 1) == 1)) else (none)) else (none)) else (none))=some r:=h
 clear h
 by_cases c4:0≤a1
 ·rw [if_pos c4] at H
  have c4b0:decide (0≤a1)=true:=decide_eq_true c4
  clear c4
  by_cases c5:a1 < (l0.length:Int)
  ·rw [if_pos c5] at H
   have c5b0:decide (a1 < (l0.length:Int))=true:=decide_eq_true c5
   clear c5
   by_cases c6:0≤a2
   ·rw [if_pos c6] at H
    have c6b0:=eq_true c6
    have c6b1:decide (0≤a2)=true:=decide_eq_true c6
    clear c6
    obtain ⟨ji7,hji7⟩:∃ j_:Int,(shr .u16 (rd l0 a1) a2)=j_:=⟨_,rfl⟩
    replace H:(some ((Go.bits .and .u16 (ji7) 1) == 1))=some r:=by first | (rw [hji7] at H;exact H) | (simp only [hji7] at H ⊢;exact H)
    have hji7_:((rd l0 a1) / 2 ^ min a2.toNat 16)=ji7:=hji7
    have hji7z:a2≤16→((rd l0 a1) / 2 ^ a2.toNat)=ji7:=shr_small hji7
    obtain rfl:=Option.some.inj H
    have p190:0≤(a1:Int):=zz29 (by first | (with_reducible assumption) | assumption)
    have q190:a1 < (l0.length:Int):=zz29 (by first | (with_reducible assumption) | assumption)
    obtain ⟨ad190,e190,hx190_0⟩:=Kd.at_int HR0.out a1 p190 q190
    cases e190
    replace p190:=eq_true p190
    replace q190:=eq_true q190
    go_enter Try.func81,Try.ntmps81
    go_wp2
    go_ret
    exact ⟨by first | rfl | (simp;done) | (simp only [← hji7] <;> (first | rfl | simp)) | (simp [*];done),by repeat (first | exact Drawn0.refl _ | apply Drawn0.step)⟩
   ·rw [if_neg c6] at H
    exact absurd H (by simp)
  ·rw [if_neg c5] at H
   exact absurd H (by simp)
 ·rw [if_neg c4] at H
  exact absurd H (by simp)

/-! ### impl_table_party: function 57 -/
mutual
def impl_table_party.l0:Nat→List Int→Int→Int→Int→List (S70)→Option (Int × (List (S70)))
 | 0,_,_,_,_,_=>none
 | k+1,x0,x10,x11,x193000,x193001=>if x11 < x10 then (impl_table_party.l1 k x0 x11 (wrap64 (x11+1)) x10 x11 x193000 x193001) else (some (x193000,x193001))
def impl_table_party.l1:Nat→List Int→Int→Int→Int→Int→Int→List (S70)→Option (Int × (List (S70)))
 | 0,_,_,_,_,_,_,_=>none
 | k+1,x0,x4,x5,x10,x11,x193000,x193001=>if x5 < (x0.length:Int) then ((impl_table_has.f x0 x4 x5).bind fun t193=>(if t193=true then (if x193001.length < 8796093022208 then (impl_table_party.l1 k x0 x4 (wrap64 (x5+1)) x10 x11 x193000 (x193001 ++ [(⟨x4,x5⟩:S70)])) else (none)) else (impl_table_party.l1 k x0 x4 (wrap64 (x5+1)) x10 x11 x193000 x193001))) else (impl_table_party.l0 k x0 x10 (wrap64 (x11+1)) x193000 x193001)
end
def impl_table_party.f (k:Nat) (l0:List Int):Option (Int × (List (S70))):=impl_table_party.l0 k l0 (l0.length:Int) 0 (l0.length:Int) ([]:List (S70))
theorem impl_table_party.mono_l:∀ k,(∀ y0 y1 y2 y3 y4,LeO (impl_table_party.l0 k y0 y1 y2 y3 y4) (impl_table_party.l0 (k+1) y0 y1 y2 y3 y4))∧(∀ y0 y1 y2 y3 y4 y5 y6,LeO (impl_table_party.l1 k y0 y1 y2 y3 y4 y5 y6) (impl_table_party.l1 (k+1) y0 y1 y2 y3 y4 y5 y6))
 | 0=>⟨fun _ _ _ _ _ r h=>by simp [impl_table_party.l0] at h,fun _ _ _ _ _ _ _ r h=>by simp [impl_table_party.l1] at h⟩
 | k+1=>by
  obtain ⟨ih0,ih1⟩:=impl_table_party.mono_l k
  refine ⟨?_,?_⟩
  ·intro y0 y1 y2 y3 y4
   unfold impl_table_party.l0
   repeat' first
   | (with_reducible exact ih0 _ _ _ _ _)
   | (with_reducible exact ih1 _ _ _ _ _ _ _)
   | (with_reducible exact LeO.refl _)
   | (with_reducible exact LeO.none _)
   | (with_reducible refine LeO.ite ?_ ?_)
   | (with_reducible refine LeO.bind ?_ (fun _=>?_))
   | exact ih0 _ _ _ _ _
   | exact ih1 _ _ _ _ _ _ _
   | exact LeO.none _
   | refine LeO.ite ?_ ?_
   | refine LeO.bind ?_ (fun _=>?_)
  ·intro y0 y1 y2 y3 y4 y5 y6
   unfold impl_table_party.l1
   repeat' first
   | (with_reducible exact ih0 _ _ _ _ _)
   | (with_reducible exact ih1 _ _ _ _ _ _ _)
   | (with_reducible exact LeO.refl _)
   | (with_reducible exact LeO.none _)
   | (with_reducible refine LeO.ite ?_ ?_)
   | (with_reducible refine LeO.bind ?_ (fun _=>?_))
   | exact ih0 _ _ _ _ _
   | exact ih1 _ _ _ _ _ _ _
   | exact LeO.none _
   | refine LeO.ite ?_ ?_
   | refine LeO.bind ?_ (fun _=>?_)
theorem impl_table_party.mono:∀ a0 k,LeO (impl_table_party.f k a0) (impl_table_party.f (k+1) a0):=by
 intro a0 k
 obtain ⟨ih0,ih1⟩:=impl_table_party.mono_l k
 unfold impl_table_party.f
 repeat' first
   | (with_reducible exact ih0 _ _ _ _ _)
   | (with_reducible exact ih1 _ _ _ _ _ _ _)
   | (with_reducible exact LeO.refl _)
   | (with_reducible exact LeO.none _)
   | (with_reducible refine LeO.ite ?_ ?_)
   | (with_reducible refine LeO.bind ?_ (fun _=>?_))
   | exact ih0 _ _ _ _ _
   | exact ih1 _ _ _ _ _ _ _
   | exact LeO.none _
   | refine LeO.ite ?_ ?_
   | refine LeO.bind ?_ (fun _=>?_)
set_option maxHeartbeats 8000000 in
set_option maxRecDepth 100000 in
theorem impl_table_party.calls (k:Nat) (A0:Option Addr) (c0:Nat) (l0:List Int) (r1:Int) (r2:List (S70)) (w:World) (hr0:Kd.C (Kd.int .u16) w A0 l0.length l0) (hc0:l0.length≤c0) (h:impl_table_party.f k l0=some (r1,r2)) :
  Calls Try.prog 57 #[.slice A0 l0.length c0] w fun e w'=>∃ v1_:Value,e=.returned (.agg #[.int .i64 r1,v1_])∧Kd.R k70 70 w' w.heap.size (fun _=>True) v1_ r2∧Below w.heap.size w w':=by
 have hu30:=Try.underlying30
 have hu70:=Try.underlying70
 have HR0:=zz31 hr0
 have HC0:=zz31 hc0
 clear hr0 hc0
 have HB:=zz31 (Below.refl w.heap.size w)
 have H:(impl_table_party.l0 k l0 (l0.length:Int) 0 (l0.length:Int) ([]:List (S70)))=some (r1,r2):=h
 clear h
 have H':=zz31 H
 clear H
 go_enter Try.func57,Try.ntmps57
 go_wp2_with (first | ((with_reducible refine gate_dst (N:=2) rfl ?_);refine box_event ?hg (N:=2) ?hd (cs:=#[.int .i64 0,.slice none 0 0]) (t:=30) ?hr ?_;(case hd=>rfl);(case hg=>rfl);(case hr=>first | (go_simp;done) | (go_simp;rfl));intro gb191 hg w2 hbox hb;have n0_:=zz31 (zz4 (by repeat first | exact HB.out | apply zz2 | apply zz0 | apply zz1) hb);have n1_:=zz31 (hbox);have n2_:=zz31 ((by rw [hg];exact (zz5 (by repeat first | exact HB.out | apply zz2 | apply zz0 | apply zz1)):w.heap.size≤gb191));have n3_:=zz31 ((by rw [hg];exact (zz5 (by repeat first | exact HB.out | apply zz2 | apply zz0 | apply zz1)):w.heap.size≤gb191));clear HB;have HB:=n0_;have BK191:=n1_;have GW191:=n2_;have GE191:=n3_;clear n0_ n1_ n2_ n3_;clear hb hbox hg) | ((with_reducible refine gate_dst (N:=3) rfl ?_);refine box_event ?hg (N:=3) ?hd (cs:=#[.int .i64 0,.slice none 0 0]) (t:=30) ?hr ?_;(case hd=>rfl);(case hg=>rfl);(case hr=>first | (go_simp;done) | (go_simp;rfl));intro gb192 hg w3 hbox hb;have n0_:=zz31 (zz11 (g:=gb191) (o:=.cells #[.int .i64 0,.slice none 0 0] 30 (0,0)) (by (with_reducible repeat (first | refine zz6 ?_ _ | refine zz7 ?_ | refine zz8 ?_ _));exact BK191.out) hb);have n1_:=zz31 (zz4 (by repeat first | exact HB.out | apply zz2 | apply zz0 | apply zz1 | refine zz3 ?_ GE191.out) hb);have n2_:=zz31 (hbox);have n3_:=zz31 ((by rw [hg];exact (zz5 (by repeat first | exact HB.out | apply zz2 | apply zz0 | apply zz1 | refine zz3 ?_ GE191.out)):w.heap.size≤gb192));have n4_:=zz31 ((by rw [hg];exact (zz5 (by repeat first | exact HB.out | apply zz2 | apply zz0 | apply zz1 | refine zz3 ?_ GE191.out)):w.heap.size≤gb192));have n5_:=zz31 ((by rw [hg];exact Nat.ne_of_lt (blk_lt (g:=gb191) (o:=.cells #[.int .i64 0,.slice none 0 0] 30 (0,0)) (by (with_reducible repeat (first | refine zz6 ?_ _ | refine zz7 ?_ | refine zz8 ?_ _));exact BK191.out)):gb191 ≠ gb192));have n6_:=zz31 ((by rw [hg];exact Nat.ne_of_gt (blk_lt (g:=gb191) (o:=.cells #[.int .i64 0,.slice none 0 0] 30 (0,0)) (by (with_reducible repeat (first | refine zz6 ?_ _ | refine zz7 ?_ | refine zz8 ?_ _));exact BK191.out)):gb192 ≠ gb191));clear BK191;clear HB;have BK191:=n0_;have HB:=n1_;have BK192:=n2_;have GW192:=n3_;have GE192:=n4_;have NB191_192:=n5_;have NB192_191:=n6_;clear n0_ n1_ n2_ n3_ n4_ n5_ n6_;clear hb hbox hg;have hnb4:=NB192_191.out;have hnc4:=NB191_192.out;have hcz5_0:w3.cell? ⟨gb192,0,none⟩=some (.int .i64 0):=(zz9 BK192.out 0).trans rfl;have hcz5_1:w3.cell? ⟨gb192,1,none⟩=some (.slice none 0 0):=(zz9 BK192.out 1).trans rfl;have hfz5_0:=zz10 BK192.out 0;have hfz5_1:=zz10 BK192.out 1))
 go_loopg [11] k (fun kq v11 w'=>∃ (x11_1:Int) (x193001_1:List (S70)) (u193001:Value),v11=.int .i64 x11_1∧Aside0 (impl_table_party.l0 kq l0 (l0.length:Int) x11_1 (l0.length:Int) x193001_1=some (r1,r2))∧Aside0 (kq≤k)∧Aside0 (Kd.R k70 70 w' w.heap.size (fun _=>True) u193001 x193001_1)∧Aside0 (w'.heap[gb191]?=some (.cells #[.int .i64 0,(.slice none 0 0)] 30 (0,0)))∧Aside0 (w'.heap[gb192]?=some (.cells #[.int .i64 (l0.length:Int),u193001] 30 (0,0)))∧Aside0 (Below w.heap.size w w'))
 case atStart=>exact ⟨(0),(([]:List (S70))),(.slice none 0 0),(by first | rfl | (simp;done) | (simp [*];done)),H',⟨Nat.le_refl _⟩,⟨by first | exact Kd.R_nil _ _ _ _ _ | exact Kd.N_nil _ _ _ _ _ | exact Kd.V_nil _ _ _ _ _ | exact Kd.Q_nil _ _ _ _ _ | exact Kd.S_nil _ _ _ _ _⟩,⟨by (with_reducible repeat (first | refine zz6 ?_ _ | refine zz7 ?_ | refine zz8 ?_ _));refine blk_far ?_ NB191_192.out _;(with_reducible repeat (first | refine zz6 ?_ _ | refine zz7 ?_ | refine zz8 ?_ _));refine blk_far ?_ NB191_192.out _;(with_reducible repeat (first | refine zz6 ?_ _ | refine zz7 ?_ | refine zz8 ?_ _));exact BK191.out⟩,⟨by (with_reducible repeat (first | refine zz6 ?_ _ | refine zz7 ?_ | refine zz8 ?_ _));refine blk_put (cs:=#[.int .i64 (l0.length:Int),.slice none 0 0]) ?_ 1 _ rfl;(with_reducible repeat (first | refine zz6 ?_ _ | refine zz7 ?_ | refine zz8 ?_ _));refine blk_put (cs:=#[.int .i64 0,.slice none 0 0]) ?_ 0 _ rfl;(with_reducible repeat (first | refine zz6 ?_ _ | refine zz7 ?_ | refine zz8 ?_ _));exact BK192.out⟩,⟨by repeat first | exact HB.out | apply zz2 | apply zz0 | apply zz1 | refine zz3 ?_ GE191.out | refine zz3 ?_ GE192.out⟩⟩
 case round =>
  clear H'
  try clear p2
  try clear c4
  try clear c5
  try clear hcz5_0
  try clear hcz5_1
  try clear hfz5_0
  try clear hfz5_1
  obtain ⟨x11_1,x193001_1,u193001,rfl,HA,HK1,HO_193001,BK191,BK192,HB⟩:=hrel
  cases gk with
  | zero=>exact absurd HA.out (by simp [impl_table_party.l0])
  | succ k1 =>
   have H:=HA.out
   clear HA
   simp only [impl_table_party.l0] at H
   by_cases c6:x11_1 < (l0.length:Int)
   ·rw [if_pos c6] at H
    have c6b0:decide (x11_1 < (l0.length:Int))=true:=decide_eq_true c6
    clear c6
    have H':=zz31 H
    clear H
    go_wp2
    go_loopg [5] k1 (fun kq v5 w'=>∃ (x5_2:Int) (x193001_2:List (S70)) (u193001:Value),v5=.int .i64 x5_2∧Aside0 (impl_table_party.l1 kq l0 x11_1 x5_2 (l0.length:Int) x11_1 (l0.length:Int) x193001_2=some (r1,r2))∧Aside0 (kq≤k1)∧Aside0 (Kd.R k70 70 w' w.heap.size (fun _=>True) u193001 x193001_2)∧Aside0 (w'.heap[gb191]?=some (.cells #[.int .i64 0,(.slice none 0 0)] 30 (0,0)))∧Aside0 (w'.heap[gb192]?=some (.cells #[.int .i64 (l0.length:Int),u193001] 30 (0,0)))∧Aside0 (Below w.heap.size w w'))
    case atStart=>exact ⟨(wrap64 (x11_1+1)),(x193001_1),(u193001),(by first | rfl | (simp;done) | (simp [*];done)),H',⟨Nat.le_refl _⟩,⟨by (with_reducible repeat (first | apply zz12 | apply zz13 | apply zz14));exact HO_193001.out⟩,⟨by (with_reducible repeat (first | refine zz6 ?_ _ | refine zz7 ?_ | refine zz8 ?_ _));exact BK191.out⟩,⟨by (with_reducible repeat (first | refine zz6 ?_ _ | refine zz7 ?_ | refine zz8 ?_ _));exact BK192.out⟩,⟨by repeat first | exact HB.out | apply zz2 | apply zz0 | apply zz1 | refine zz3 ?_ GE191.out | refine zz3 ?_ GE192.out⟩⟩
    case round =>
     clear H'
     try clear p2
     try clear c4
     try clear c5
     try clear c6
     try clear c6b0
     try clear p6
     try clear hcz5_0
     try clear hcz5_1
     try clear hfz5_0
     try clear hfz5_1
     try clear p2
     obtain ⟨x5_2,x193001_2,u193001,rfl,HA,HK2,HO_193001,BK191,BK192,HB⟩:=hrel
     cases gk with
     | zero=>exact absurd HA.out (by simp [impl_table_party.l1])
     | succ k2 =>
      have H:=HA.out
      clear HA
      simp only [impl_table_party.l1] at H
      by_cases c7:x5_2 < (l0.length:Int)
      ·rw [if_pos c7] at H
       have c7b0:decide (x5_2 < (l0.length:Int))=true:=decide_eq_true c7
       clear c7
       replace H:=zz30.mp H
       obtain ⟨t193,A80,H⟩:=H
       replace H:(if t193=true then (if x193001_2.length < 8796093022208 then (impl_table_party.l1 k2 l0 x11_1 (wrap64 (x5_2+1)) (l0.length:Int) x11_1 (l0.length:Int) (x193001_2 ++ [(⟨x11_1,x5_2⟩:S70)])) else (none)) else (impl_table_party.l1 k2 l0 x11_1 (wrap64 (x5_2+1)) (l0.length:Int) x11_1 (l0.length:Int) x193001_2))=some (r1,r2):=H
       have A8:=zz31 A80
       clear A80
       by_cases c9:t193=true
       ·subst c9
        have H1:(if x193001_2.length < 8796093022208 then (impl_table_party.l1 k2 l0 x11_1 (wrap64 (x5_2+1)) (l0.length:Int) x11_1 (l0.length:Int) (x193001_2 ++ [(⟨x11_1,x5_2⟩:S70)])) else (none))=some (r1,r2):=by rw [if_pos rfl] at H;exact H
        clear H
        have H:=H1
        clear H1
        by_cases c10:x193001_2.length < 8796093022208
        ·rw [if_pos c10] at H
         have LMc10:=zz31 c10
         clear c10
         obtain ⟨y194,hy194⟩:∃ y_:List (S70),y_=(x193001_2 ++ [(⟨x11_1,x5_2⟩:S70)]):=⟨_,rfl⟩
         replace H:(impl_table_party.l1 k2 l0 x11_1 (wrap64 (x5_2+1)) (l0.length:Int) x11_1 (l0.length:Int) y194)=some (r1,r2):=by first | (rw [hy194];with_reducible exact H) | (have H2_:=(Option.bind_some _ _).symm.trans H;rw [hy194];with_reducible exact H2_) | (have H2_:=(Option.bind_some _ _).symm.trans H;with_reducible exact H2_) | with_reducible exact H | (rw [hy194];exact H) | exact H
         have Ny194:=zz31 hy194
         clear hy194
         have H':=zz31 H
         clear H
         go_wp2_with (first | ((with_reducible refine gate_callee (f:=81) rfl ?_);refine goesL_ (some 25) rfl rfl Try.func81 (by kernel_rfl) rfl #[.slice A0 l0.length c0,.int .i64 x11_1,.int .i64 x5_2] rfl (by (try simp only [zz26,zz27,zz28]);first | done | rfl | (simp only [zz24,zz25];rfl)) ?_;(with_reducible refine (impl_table_has.calls _ _ l0 x11_1 x5_2 true _ ?side1 ?side2 A8.out).mono ?_);(case side1=>repeat (first | exact (Kd.C_below HR0.out HB.out) | (with_reducible refine zz18 ?_ _) | (with_reducible refine zz19 ?_ _) | (with_reducible refine zz20 ?_)));(case side2=>exact HC0.out);rintro e w' ⟨rfl,⟨nd,rfl⟩⟩;refine ⟨_,rfl,?_⟩;(try (rw [drewN_self wr];generalize hq_:World.drewN wr _=wr;have n0_:Aside0 (Kd.R k70 70 wr w.heap.size (fun _=>True) u193001 x193001_2):=⟨by rw [← hq_];exact (by (with_reducible repeat (first | apply zz12 | apply zz13 | apply zz14));exact HO_193001.out)⟩;have n1_:Aside0 (wr.heap[gb191]?=some (.cells #[.int .i64 0,.slice none 0 0] 30 (0,0))):=⟨by rw [← hq_];exact (by (with_reducible repeat (first | refine zz6 ?_ _ | refine zz7 ?_ | refine zz8 ?_ _));exact BK191.out)⟩;have n2_:Aside0 (wr.heap[gb192]?=some (.cells #[.int .i64 (l0.length:Int),u193001] 30 (0,0))):=⟨by rw [← hq_];exact (by (with_reducible repeat (first | refine zz6 ?_ _ | refine zz7 ?_ | refine zz8 ?_ _));exact BK192.out)⟩;have n3_:Aside0 (Below w.heap.size w wr):=⟨by rw [← hq_];exact (by repeat first | exact HB.out | apply zz2 | apply zz0 | apply zz1 | refine zz3 ?_ GE191.out | refine zz3 ?_ GE192.out)⟩;clear HO_193001 BK191 BK192 HB hq_;have HO_193001:=n0_;have BK191:=n1_;have BK192:=n2_;have HB:=n3_;clear n0_ n1_ n2_ n3_));have hnb11:=NB192_191.out;have hnc11:=NB191_192.out;have hcz12_0:wr.cell? ⟨gb192,0,none⟩=some (.int .i64 (l0.length:Int)):=(zz9 BK192.out 0).trans rfl;have hcz12_1:wr.cell? ⟨gb192,1,none⟩=some (u193001):=(zz9 BK192.out 1).trans rfl;have hfz12_0:=zz10 BK192.out 0;have hfz12_1:=zz10 BK192.out 1) | ((with_reducible refine gate_builtin (b:=.append) (xs:=#[.tmp 27,.tmp 31]) rfl ?_);at_builtin;refine Kd.R_append k70 (w0:=w) w.heap.size rfl (.tmp 27) (.tmp 31) 28 70 (.agg #[(.int .i64 0),(.int .i64 0)]) 16 rfl Try.underlying28 info70 rfl (by decide) (by omega) u193001 x193001_2 (⟨x11_1,x5_2⟩:S70) [.int .i64 x11_1,.int .i64 x5_2] (fun _=>True) (fun _=>False) rfl rfl ?aP (fun _ hk=>hk.elim) ?aF ?aO ?aB ?aS ?aL ?_;(case aP=>exact k70_mkM _ _ _ (⟨x11_1,x5_2⟩:S70));(case aB=>exact (by repeat first | exact HB.out | apply zz2 | apply zz0 | apply zz1 | refine zz3 ?_ GE191.out | refine zz3 ?_ GE192.out));(case aF=>exact (fun _ _=>trivial));(case aO=>exact (by (with_reducible repeat (first | apply zz12 | apply zz13 | apply zz14));exact HO_193001.out));(case aS=>exact (zz5 (by repeat first | exact HB.out | apply zz2 | apply zz0 | apply zz1 | refine zz3 ?_ GE191.out | refine zz3 ?_ GE192.out)));(case aL=>have:=LMc10.out;omega);intro v195 w13 ho hb hg hat;rw [← Ny194.out] at ho;have n0_:=zz31 (blk_grown (g:=gb191) (o:=.cells #[.int .i64 0,.slice none 0 0] 30 (0,0)) (by (with_reducible repeat (first | refine zz6 ?_ _ | refine zz7 ?_ | refine zz8 ?_ _));exact BK191.out) hg (Kd.R_ne HO_193001.out BK191.out (by decide)));have n1_:=zz31 (blk_grown (g:=gb192) (o:=.cells #[.int .i64 (l0.length:Int),u193001] 30 (0,0)) (by (with_reducible repeat (first | refine zz6 ?_ _ | refine zz7 ?_ | refine zz8 ?_ _));exact BK192.out) hg (Kd.R_ne HO_193001.out BK192.out (by decide)));have n2_:=zz31 (hb);have n3_:=zz31 (ho);clear BK191;clear BK192;clear HB;clear HO_193001;have BK191:=n0_;have BK192:=n1_;have HB:=n2_;have HO196:=n3_;clear n0_ n1_ n2_ n3_;clear ho hb hg hat;obtain ⟨Ao14,co14,eo14⟩:=Kd.R_slice HO196.out;subst eo14;have hcz15_0:w13.cell? ⟨gb192,0,none⟩=some (.int .i64 (l0.length:Int)):=(zz9 BK192.out 0).trans rfl;have hcz15_1:w13.cell? ⟨gb192,1,none⟩=some (u193001):=(zz9 BK192.out 1).trans rfl;have hfz15_0:=zz10 BK192.out 0;have hfz15_1:=zz10 BK192.out 1))
         go_roundg k2
         case measure=>have:=HK1.out;have:=HK2.out;omega
         case rel=>exact ⟨(wrap64 (x5_2+1)),(y194),(.slice Ao14 y194.length co14),(by first | rfl | (simp;done) | (simp [*];done)),H',⟨by have:=HK1.out;have:=HK2.out;omega⟩,⟨by (with_reducible repeat (first | apply zz12 | apply zz13 | apply zz14));exact Kd.R_mono (Kd.R_far (p:=⟨gb192,1,none⟩) (Kd.R_types HO196.out BK192.out (by decide)) (fun _ hk=>hk.2) (.slice Ao14 y194.length co14)) (fun _ hk=>trivial)⟩,⟨by (with_reducible repeat (first | refine zz6 ?_ _ | refine zz7 ?_ | refine zz8 ?_ _));refine blk_far ?_ NB191_192.out _;(with_reducible repeat (first | refine zz6 ?_ _ | refine zz7 ?_ | refine zz8 ?_ _));exact BK191.out⟩,⟨by (with_reducible repeat (first | refine zz6 ?_ _ | refine zz7 ?_ | refine zz8 ?_ _));refine blk_put (cs:=#[.int .i64 (l0.length:Int),u193001]) ?_ 1 _ rfl;(with_reducible repeat (first | refine zz6 ?_ _ | refine zz7 ?_ | refine zz8 ?_ _));exact BK192.out⟩,⟨by repeat first | exact HB.out | apply zz2 | apply zz0 | apply zz1 | refine zz3 ?_ GE191.out | refine zz3 ?_ GE192.out⟩⟩
        ·rw [if_neg c10] at H
         exact absurd H (by simp)
       ·replace c9:=Bool.eq_false_iff.mpr c9
        subst c9
        have H1:(impl_table_party.l1 k2 l0 x11_1 (wrap64 (x5_2+1)) (l0.length:Int) x11_1 (l0.length:Int) x193001_2)=some (r1,r2):=by rw [if_neg (show ¬ (false=true) by decide)] at H;exact H
        clear H
        have H:=H1
        clear H1
        have H':=zz31 H
        clear H
        go_wp2_with (first | ((with_reducible refine gate_callee (f:=81) rfl ?_);refine goesL_ (some 25) rfl rfl Try.func81 (by kernel_rfl) rfl #[.slice A0 l0.length c0,.int .i64 x11_1,.int .i64 x5_2] rfl (by (try simp only [zz26,zz27,zz28]);first | done | rfl | (simp only [zz24,zz25];rfl)) ?_;(with_reducible refine (impl_table_has.calls _ _ l0 x11_1 x5_2 false _ ?side1 ?side2 A8.out).mono ?_);(case side1=>repeat (first | exact (Kd.C_below HR0.out HB.out) | (with_reducible refine zz18 ?_ _) | (with_reducible refine zz19 ?_ _) | (with_reducible refine zz20 ?_)));(case side2=>exact HC0.out);rintro e w' ⟨rfl,⟨nd,rfl⟩⟩;refine ⟨_,rfl,?_⟩))
        go_roundg k2
        case measure=>have:=HK1.out;have:=HK2.out;omega
        case rel=>exact ⟨(wrap64 (x5_2+1)),(x193001_2),(u193001),(by first | rfl | (simp;done) | (simp [*];done)),H',⟨by have:=HK1.out;have:=HK2.out;omega⟩,⟨by (with_reducible repeat (first | apply zz12 | apply zz13 | apply zz14));exact HO_193001.out⟩,⟨by (with_reducible repeat (first | refine zz6 ?_ _ | refine zz7 ?_ | refine zz8 ?_ _));exact BK191.out⟩,⟨by (with_reducible repeat (first | refine zz6 ?_ _ | refine zz7 ?_ | refine zz8 ?_ _));exact BK192.out⟩,⟨by repeat first | exact HB.out | apply zz2 | apply zz0 | apply zz1 | refine zz3 ?_ GE191.out | refine zz3 ?_ GE192.out⟩⟩
      ·rw [if_neg c7] at H
       have c7b0:decide (x5_2 < (l0.length:Int))=false:=decide_eq_false c7
       clear c7
       have H':=zz31 H
       clear H
       go_wp2
       go_roundg k2
       case measure=>have:=HK1.out;have:=HK2.out;omega
       case rel=>exact ⟨(wrap64 (x11_1+1)),(x193001_2),(u193001),(by first | rfl | (simp;done) | (simp [*];done)),H',⟨by have:=HK1.out;have:=HK2.out;omega⟩,⟨by (with_reducible repeat (first | apply zz12 | apply zz13 | apply zz14));exact HO_193001.out⟩,⟨by (with_reducible repeat (first | refine zz6 ?_ _ | refine zz7 ?_ | refine zz8 ?_ _));exact BK191.out⟩,⟨by (with_reducible repeat (first | refine zz6 ?_ _ | refine zz7 ?_ | refine zz8 ?_ _));exact BK192.out⟩,⟨by repeat first | exact HB.out | apply zz2 | apply zz0 | apply zz1 | refine zz3 ?_ GE191.out | refine zz3 ?_ GE192.out⟩⟩
   ·rw [if_neg c6] at H
    have c6b0:decide (x11_1 < (l0.length:Int))=false:=decide_eq_false c6
    clear c6
    simp only [Option.some.injEq,Prod.mk.injEq] at H
    obtain ⟨rfl,rfl⟩:=H
    have hnb16:=NB192_191.out
    have hnc16:=NB191_192.out
    have hcz17_0:wr.cell? ⟨gb192,0,none⟩=some (.int .i64 (l0.length:Int)):=(zz9 BK192.out 0).trans rfl
    have hcz17_1:wr.cell? ⟨gb192,1,none⟩=some (u193001):=(zz9 BK192.out 1).trans rfl
    have hfz17_0:=zz10 BK192.out 0
    have hfz17_1:=zz10 BK192.out 1
    have hcz18_0:wr.cell? ⟨gb191,0,none⟩=some (.int .i64 0):=(zz9 BK191.out 0).trans rfl
    have hcz18_1:wr.cell? ⟨gb191,1,none⟩=some (.slice none 0 0):=(zz9 BK191.out 1).trans rfl
    have hfz18_0:=zz10 BK191.out 0
    have hfz18_1:=zz10 BK191.out 1
    obtain ⟨Ao19,co19,eo19⟩:=Kd.R_slice HO_193001.out
    subst eo19
    go_wp2
    refine bodyPost_ret (results_cell_row rfl _ _ gb191 30 #[.int .i64 (l0.length:Int),.slice Ao19 x193001_1.length co19] (0,0) _ rfl (by (with_reducible repeat (first | refine zz6 ?_ _ | refine zz7 ?_ | refine zz8 ?_ _));refine blk_put (cs:=#[.int .i64 (l0.length:Int),.slice none 0 0]) ?_ 1 _ rfl;(with_reducible repeat (first | refine zz6 ?_ _ | refine zz7 ?_ | refine zz8 ?_ _));refine blk_put (cs:=#[.int .i64 0,.slice none 0 0]) ?_ 0 _ rfl;(with_reducible repeat (first | refine zz6 ?_ _ | refine zz7 ?_ | refine zz8 ?_ _));exact BK191.out) Try.underlying30 rfl (by kernel_rfl)) rfl ?_
    exact ⟨_,by first | rfl | (simp [errW_none,errW_some] <;> rfl) | (simp [*,errW_none,errW_some] <;> rfl),by (with_reducible repeat (first | apply zz12 | apply zz13 | apply zz14));exact Kd.R_mono (Kd.R_far (p:=⟨gb191,1,none⟩) (Kd.R_far (p:=⟨gb191,0,none⟩) (Kd.R_types HO_193001.out BK191.out (by decide)) (fun _ hk=>hk.2) (.int .i64 (l0.length:Int))) (fun _ hk=>hk.2) (.slice Ao19 x193001_1.length co19)) (fun _ hk=>trivial),by repeat first | exact HB.out | apply zz2 | apply zz0 | apply zz1 | refine zz3 ?_ GE191.out | refine zz3 ?_ GE192.out⟩

/-! ### impl_table_put: function 72 -/
def impl_table_put.f (l0:List Int) (a1:Int) (a2:Int):Option (List Int):=if 0≤a1 then (if a1 < (l0.length:Int) then (if 0≤a2 then ((some (l0.set (a1:Int).toNat (Go.bits .or .u16 (rd l0 a1) (shl .u16 1 a2)):List Int)).bind fun y198=>(if a2 < (l0.length:Int) then (some (y198.set (a2:Int).toNat (Go.bits .or .u16 (rd y198 a2) (shl .u16 1 a1)))) else (none))) else (none)) else (none)) else (none)
def impl_table_put.T0:Bool × List (List Nat × List Nat):=(true,[([],[]),([],[]),([0,1],[0,1]),([2],[2]),([],[]),([4],[4]),([3,5],[3,5]),([0,1,0,1,2,3,4,5,6],[0,1]),([7,6,0,1,2,3,4,5,6],[6,7])])
def impl_table_put.B0:List Nat:=[0,0,3,7,0,16,63,127,255]
theorem impl_table_put.tab0:rtab .any (opsOf Try.f72 0)=impl_table_put.T0:=by kernel_rfl
theorem impl_table_put.bits0:waitsOk impl_table_put.T0.2 impl_table_put.B0=true:=by kernel_rfl
def impl_table_put.T1:Bool × List (List Nat × List Nat):=(true,[([],[]),([],[]),([0,1],[0,1]),([2],[2]),([],[]),([4],[4]),([3,5],[3,5]),([0,1,0,1,2,3,4,5,6],[0,1]),([7,6,0,1,2,3,4,5,6],[6,7])])
def impl_table_put.B1:List Nat:=[0,0,3,7,0,16,63,127,255]
theorem impl_table_put.tab1:rtab .any (opsOf Try.f72 1)=impl_table_put.T1:=by kernel_rfl
theorem impl_table_put.bits1:waitsOk impl_table_put.T1.2 impl_table_put.B1=true:=by kernel_rfl
set_option maxHeartbeats 8000000 in
set_option maxRecDepth 100000 in
theorem impl_table_put.calls (P0_:Nat→Prop) (u9000_:Value) (l0:List Int) (a1:Int) (a2:Int) (r:List Int) (w0 w:World) (hB:Below w0.heap.size w0 w) (ho0:Kd.R (Kd.int .u16) 100 w w0.heap.size P0_ u9000_ l0) (h:impl_table_put.f l0 a1 a2=some r) :
  Calls Try.prog 72 #[u9000_,.int .i64 a1,.int .i64 a2] w fun e w'=>e=.returned (.tuple #[])∧Kd.R (Kd.int .u16) 100 w' w0.heap.size (fun k_=>(P0_ k_ ∨ w.heap.size≤k_)) u9000_ r∧Below w0.heap.size w0 w'∧Kept w w' (fun k_=>P0_ k_):=by
 have HO0:=zz31 (show Kd.R (Kd.int .u16) 100 w w0.heap.size (fun k_=>(P0_ k_ ∨ w.heap.size≤k_)) u9000_ l0 from Kd.R_mono ho0 (fun k_ hk=>(.inl hk)))
 have HK:=zz31 (Kept.refl w (fun k_=>P0_ k_))
 have HW0:=zz31 hB.size
 have HB:=zz31 hB
 clear hB
 have H:(if 0≤a1 then (if a1 < (l0.length:Int) then (if 0≤a2 then ((some (l0.set (a1:Int).toNat (Go.bits .or .u16 (rd l0 a1) (shl .u16 1 a2)):List Int)).bind fun y198=>(if a2 < (l0.length:Int) then (some (y198.set (a2:Int).toNat (Go.bits .or .u16 (rd y198 a2) (shl .u16 1 a1)))) else (none))) else (none)) else (none)) else (none))=some r:=h
 clear h
 by_cases c4:0≤a1
 ·rw [if_pos c4] at H
  have c4b0:decide (0≤a1)=true:=decide_eq_true c4
  clear c4
  by_cases c5:a1 < (l0.length:Int)
  ·rw [if_pos c5] at H
   have c5b0:decide (a1 < (l0.length:Int))=true:=decide_eq_true c5
   clear c5
   by_cases c6:0≤a2
   ·rw [if_pos c6] at H
    have c6b0:=eq_true c6
    have c6b1:decide (0≤a2)=true:=decide_eq_true c6
    clear c6
    obtain ⟨ji7,hji7⟩:∃ j_:Int,(shl .u16 1 a2)=j_:=⟨_,rfl⟩
    replace H:((some (l0.set (a1:Int).toNat (Go.bits .or .u16 (rd l0 a1) (ji7)):List Int)).bind fun y198=>(if a2 < (l0.length:Int) then (some (y198.set (a2:Int).toNat (Go.bits .or .u16 (rd y198 a2) (shl .u16 1 a1)))) else (none)))=some r:=by first | (rw [hji7] at H;exact H) | (simp only [hji7] at H ⊢;exact H)
    have hji7_:(IntKind.u16.wrap (1 * 2 ^ min a2.toNat 16))=ji7:=hji7
    have hji7z:a2≤16→(IntKind.u16.wrap (1 * 2 ^ a2.toNat))=ji7:=shl_small hji7
    have hji7u:(IntKind.u16.wrap (2 ^ min a2.toNat 16))=ji7:=by have h_:=hji7_;rw [Int.one_mul] at h_;exact h_
    have hji7v:a2≤16→(IntKind.u16.wrap (2 ^ a2.toNat))=ji7:=fun hle_=>by have h_:=hji7z hle_;rw [Int.one_mul] at h_;exact h_
    obtain ⟨y198,hy198⟩:∃ y_:List Int,y_=(l0.set (a1:Int).toNat (Go.bits .or .u16 (rd l0 a1) (ji7))):=⟨_,rfl⟩
    replace H:(if a2 < (l0.length:Int) then (some (y198.set (a2:Int).toNat (Go.bits .or .u16 (rd y198 a2) (shl .u16 1 a1)))) else (none))=some r:=by first | (rw [hy198];with_reducible exact H) | (have H2_:=(Option.bind_some _ _).symm.trans H;rw [hy198];with_reducible exact H2_) | (have H2_:=(Option.bind_some _ _).symm.trans H;with_reducible exact H2_) | with_reducible exact H | (rw [hy198];exact H) | exact H
    have Ny198:=zz31 hy198
    clear hy198
    by_cases c9:a2 < (l0.length:Int)
    ·rw [if_pos c9] at H
     have c9b0:decide (a2 < (l0.length:Int))=true:=decide_eq_true c9
     clear c9
     have c10b0:=eq_true (zz29 (by first | (with_reducible assumption) | assumption):0≤a1)
     obtain ⟨ji11,hji11⟩:∃ j_:Int,(shl .u16 1 a1)=j_:=⟨_,rfl⟩
     replace H:(some (y198.set (a2:Int).toNat (Go.bits .or .u16 (rd y198 a2) (ji11))))=some r:=by first | (rw [hji11] at H;exact H) | (simp only [hji11] at H ⊢;exact H)
     have hji11_:(IntKind.u16.wrap (1 * 2 ^ min a1.toNat 16))=ji11:=hji11
     have hji11z:a1≤16→(IntKind.u16.wrap (1 * 2 ^ a1.toNat))=ji11:=shl_small hji11
     have hji11u:(IntKind.u16.wrap (2 ^ min a1.toNat 16))=ji11:=by have h_:=hji11_;rw [Int.one_mul] at h_;exact h_
     have hji11v:a1≤16→(IntKind.u16.wrap (2 ^ a1.toNat))=ji11:=fun hle_=>by have h_:=hji11z hle_;rw [Int.one_mul] at h_;exact h_
     obtain ⟨y200,hy200⟩:∃ y_:List Int,y_=(y198.set (a2:Int).toNat (Go.bits .or .u16 (rd y198 a2) (ji11))):=⟨_,rfl⟩
     replace H:(some y200)=some r:=by first | (rw [hy200];with_reducible exact H) | (have H2_:=(Option.bind_some _ _).symm.trans H;rw [hy200];with_reducible exact H2_) | (have H2_:=(Option.bind_some _ _).symm.trans H;with_reducible exact H2_) | with_reducible exact H | (rw [hy200];exact H) | exact H
     have Ny200:=zz31 hy200
     clear hy200
     obtain rfl:=Option.some.inj H
     go_enter Try.func72,Try.ntmps72
     try go_wp2
     have n0_:=zz31 (zz14 HO0.out)
     have n1_:=zz31 (Kept.drew HK.out)
     have n2_:=zz31 (zz1 HB.out)
     clear HO0
     clear HK
     clear HB
     have HO0:=n0_
     have HK:=n1_
     have HB:=n2_
     clear n0_ n1_ n2_
     obtain ⟨Ao14,co14,eo14⟩:=Kd.R_slice HO0.out
     (first | subst eo14 | (injection eo14 with f1_ f2_ f3_;have f4_:=f1_.symm;have f5_:=f3_.symm;clear f1_ f2_ f3_;subst f4_;subst f5_))
     have p197:0≤(a1:Int):=zz29 (by first | (with_reducible assumption) | assumption)
     have q197:a1 < (l0.length:Int):=zz29 (by first | (with_reducible assumption) | assumption)
     obtain ⟨ad197,e197,hx197_0⟩:=Kd.at_int (Kd.R_reads' HO0.out).2.2 a1 p197 q197
     cases e197
     replace p197:=eq_true p197
     replace q197:=eq_true q197
     have p8:0≤(a1:Int):=zz29 (by first | (with_reducible assumption) | assumption)
     have q8:(a1:Int) < ((l0.length:Int):Int):=zz29 (by first | (with_reducible assumption) | assumption)
     obtain ⟨go8,co8,eo8,gb8,gl8,cl8,HG8⟩:=Kd.R_form HO0.out (by omega)
     (first | cases eo8 | (injection eo8 with ea_ en_ ec_;(first | subst ea_ | (injection ea_ with ea_;subst ea_));subst ec_;clear en_))
     have GB8:=zz31 gb8
     have GG8:=zz31 HG8
     clear gb8 gl8 HG8
     have HMgo8:=zz31 (show (P0_ go8 ∨ w.heap.size≤go8) from (HO0.out.1 _ rfl))
     (first | simp only [add_plain] at hx197_0 | skip)
     obtain ⟨hx8_0,hf8_0⟩:=Kd.R_celln 0 HO0.out (a1:Int) p8 q8
     replace p8:=eq_true p8
     replace q8:=eq_true q8
     have HP15:=Kd.R_putn HO0.out (a1:Int) (Go.bits .or .u16 (rd l0 a1) (ji7))
     rw [← Ny198.out] at HP15
     have HQ15:=zz31 HP15
     clear HP15
     refine start_ (n:=9) (S:=fun w'=>w'.cell? ⟨go8,(a1).toNat,none⟩=some (.int .u16 (rd l0 a1))) (ds:=[8]) #[F,F,F,F,F,F,F,F,F] (by kernel_rfl) rfl rfl (hx197_0) (fun hHeld=>?_);refine with_tabW impl_table_put.tab0 impl_table_put.bits0 (fun HT_ HW_=>?_)
     generalize w.drew=w13 at HO0 HK HB GG8 HQ15 hf8_0 hx197_0 hx8_0 hHeld ⊢
     refine pure_ (i:=0) (N:=some 6) (v:=?_) (a':=?_) #[T,F,F,F,F,F,F,F,F] rfl rfl (any_of HT_.out (by kernel_rfl)) (fun _ _ _ h=>h) (Or.inl ⟨by rfl,?_⟩) ?_ ?_
     rotate_left
     ·intro w'
      go_simp
      with_reducible rfl
     rotate_left
     ·simp only [Act.put,zz21,zz22,zz23,i64_w,i32_w]
      rfl
     refine pure_ (i:=1) (N:=some 7) (v:=?_) (a':=?_) #[T,T,F,F,F,F,F,F,F] rfl rfl (any_of HT_.out (by kernel_rfl)) (fun _ _ _ h=>h) (Or.inl ⟨by rfl,?_⟩) ?_ ?_
     rotate_left
     ·intro w'
      go_simp
      with_reducible rfl
     rotate_left
     ·simp only [Act.put,zz21,zz22,zz23,i64_w,i32_w]
      rfl
     refine pure_ (i:=2) (N:=some 8) (v:=?_) (a':=?_) #[T,T,T,F,F,F,F,F,F] rfl rfl (any_of HT_.out (by kernel_rfl)) (fun _ _ _ h=>h) (Or.inl ⟨by rfl,?_⟩) ?_ ?_
     rotate_left
     ·intro w'
      go_simp
      with_reducible rfl
     rotate_left
     ·simp only [Act.put,zz21,zz22,zz23,i64_w,i32_w]
      rfl
     refine pure_ (i:=4) (N:=some 10) (v:=?_) (a':=?_) #[T,T,T,F,T,F,F,F,F] rfl rfl (any_of HT_.out (by kernel_rfl)) (fun _ _ _ h=>h) (Or.inl ⟨by rfl,?_⟩) ?_ ?_
     rotate_left
     ·intro w'
      go_simp
      with_reducible rfl
     rotate_left
     ·simp only [Act.put,zz21,zz22,zz23,i64_w,i32_w]
      rfl
     refine pure_ (i:=5) (N:=some 11) (v:=?_) (a':=?_) #[T,T,T,F,T,T,F,F,F] rfl rfl (any_of HT_.out (by kernel_rfl)) (fun _ _ _ h=>h) (Or.inl ⟨by rfl,?_⟩) ?_ ?_
     rotate_left
     ·intro w'
      go_simp
      with_reducible rfl
     rotate_left
     ·simp only [Act.put,zz21,zz22,zz23,i64_w,i32_w]
      rfl
     refine take_ (i:=3) (N:=some 9) (v:=?_) (a':=?_) #[T,T,T,T,T,T,F,F,F] rfl rfl (take_ofW HT_.out HW_.out (by kernel_rfl)) (fun _ _ _ h=>h) (Or.inl ⟨by rfl,?_⟩) hHeld ?_ ?_
     rotate_left
     ·intro w' s0
      go_simp
      with_reducible rfl
     rotate_left
     ·simp only [Act.put,zz21,zz22,zz23,i64_w,i32_w]
      rfl
     refine pure_ (i:=6) (N:=some 12) (v:=?_) (a':=?_) #[T,T,T,T,T,T,T,F,F] rfl rfl (any_of HT_.out (by kernel_rfl)) (fun _ _ _ h=>h) (Or.inl ⟨by rfl,?_⟩) ?_ ?_
     rotate_left
     ·intro w'
      go_simp
      with_reducible rfl
     rotate_left
     ·simp only [Act.put,zz21,zz22,zz23,i64_w,i32_w]
      rfl
     refine pure_ (i:=7) (N:=some 13) (v:=?_) (a':=?_) #[T,T,T,T,T,T,T,T,F] rfl rfl (any_of HT_.out (by kernel_rfl)) (fun _ _ _ h=>h) (Or.inl ⟨by rfl,?_⟩) ?_ ?_
     rotate_left
     ·intro w'
      go_simp
      with_reducible rfl
     rotate_left
     ·simp only [Act.put,zz21,zz22,zz23,i64_w,i32_w]
      rfl
     refine last_ (i:=8) (N:=none) #[T,T,T,T,T,T,T,T,T] rfl rfl (one_of HT_.out (by kernel_rfl)) (by decide) (fun K hK=>?_)
     refine skip_ (w1:=?_) (by rfl) rfl ?_ ?_
     rotate_left
     ·go_simp
      rfl
     refine hK.out _ _ ?_
     clear hK K
     refine done_ (done_of HT_.out (by kernel_rfl)) ?_
     try go_wp2
     have n0_:Aside0 (Kd.R (Kd.int .u16) 100 (w13.setCell ⟨go8,(a1:Int).toNat,none⟩ (.int .u16 (Go.bits .or .u16 (rd l0 a1) (ji7)))) w0.heap.size (fun k_=>(P0_ k_ ∨ w.heap.size≤k_)) (.slice (some ⟨go8,0,none⟩) l0.length co14) y198):=⟨by (with_reducible repeat (first | apply zz12 | apply zz13 | apply zz14));exact HQ15.out⟩
     have n1_:Aside0 (Kept w (w13.setCell ⟨go8,(a1:Int).toNat,none⟩ (.int .u16 (Go.bits .or .u16 (rd l0 a1) (ji7)))) (fun k_=>P0_ k_)):=⟨by repeat (first | (with_reducible first | exact HK.out | apply Kept.alloc | apply Kept.drewN | apply Kept.drew | refine Kept.setCell ?_ HMgo8.out _) | exact HK.out)⟩
     have n2_:Aside0 (Below w0.heap.size w0 (w13.setCell ⟨go8,(a1:Int).toNat,none⟩ (.int .u16 (Go.bits .or .u16 (rd l0 a1) (ji7))))):=⟨by repeat first | exact HB.out | apply zz2 | apply zz0 | apply zz1 | refine zz3 ?_ GB8.out⟩
     (try clear HO0)
     (try clear HK)
     (try clear HB)
     generalize (w13.setCell ⟨go8,(a1:Int).toNat,none⟩ (.int .u16 (Go.bits .or .u16 (rd l0 a1) (ji7))))=w16 at n0_ n1_ n2_ ⊢
     have HO0:=n0_
     have HK:=n1_
     have HB:=n2_
     clear n0_ n1_ n2_
     have n0_:=zz31 (zz14 HO0.out)
     have n1_:=zz31 (Kept.drew HK.out)
     have n2_:=zz31 (zz1 HB.out)
     clear HO0
     clear HK
     clear HB
     have HO0:=n0_
     have HK:=n1_
     have HB:=n2_
     clear n0_ n1_ n2_
     have p199:0≤(a2:Int):=zz29 (by first | (with_reducible assumption) | assumption)
     have q199:a2 < (y198.length:Int):=(by have h_:(a2:Int) < ((l0.length:Int):Int):=zz29 (by first | (with_reducible assumption) | assumption);first | (have e_:=(Kd.R_reads' HO0.out).1;omega) | simpa only [Ny198.out,List.length_set] using h_)
     have ql199:((a2:Int) < ((l0.length:Int):Int))=True:=eq_true (zz29 (by first | (with_reducible assumption) | assumption))
     obtain ⟨ad199,e199,hx199_0⟩:=Kd.at_int (Kd.R_reads' HO0.out).2.2 a2 p199 q199
     obtain rfl:(⟨go8,0,none⟩:Addr)=ad199:=(by injection e199)
     (first | simp only [add_plain] at hx199_0 | simp only [add_at] at hx199_0 | simp only [Addr.add,Nat.zero_add] at hx199_0 | skip)
     replace p199:=eq_true p199
     replace q199:=eq_true q199
     have p12:0≤(a2:Int):=zz29 (by first | (with_reducible assumption) | assumption)
     have q12:(a2:Int) < ((l0.length:Int):Int):=zz29 (by first | (with_reducible assumption) | assumption)
     obtain ⟨hx12_0,hf12_0⟩:=Kd.R_celln 0 HO0.out (a2:Int) p12 q12
     replace p12:=eq_true p12
     replace q12:=eq_true q12
     have HP18:=Kd.R_putn HO0.out (a2:Int) (Go.bits .or .u16 (rd y198 a2) (ji11))
     rw [← Ny200.out] at HP18
     have HQ18:=zz31 HP18
     clear HP18
     refine start_ (n:=9) (S:=fun w'=>w'.cell? ⟨go8,(a2).toNat,none⟩=some (.int .u16 (rd y198 a2))) (ds:=[8]) #[F,F,F,F,F,F,F,F,F] (by kernel_rfl) rfl rfl (hx199_0) (fun hHeld=>?_);refine with_tabW impl_table_put.tab1 impl_table_put.bits1 (fun HT_ HW_=>?_)
     generalize w16.drew=w17 at HO0 HK HB HQ15 HQ18 hf12_0 hx12_0 hx199_0 hHeld ⊢
     refine pure_ (i:=0) (N:=some 14) (v:=?_) (a':=?_) #[T,F,F,F,F,F,F,F,F] rfl rfl (any_of HT_.out (by kernel_rfl)) (fun _ _ _ h=>h) (Or.inl ⟨by rfl,?_⟩) ?_ ?_
     rotate_left
     ·intro w'
      go_simp
      with_reducible rfl
     rotate_left
     ·simp only [Act.put,zz21,zz22,zz23,i64_w,i32_w]
      rfl
     refine pure_ (i:=1) (N:=some 15) (v:=?_) (a':=?_) #[T,T,F,F,F,F,F,F,F] rfl rfl (any_of HT_.out (by kernel_rfl)) (fun _ _ _ h=>h) (Or.inl ⟨by rfl,?_⟩) ?_ ?_
     rotate_left
     ·intro w'
      go_simp
      with_reducible rfl
     rotate_left
     ·simp only [Act.put,zz21,zz22,zz23,i64_w,i32_w]
      rfl
     refine pure_ (i:=2) (N:=some 16) (v:=?_) (a':=?_) #[T,T,T,F,F,F,F,F,F] rfl rfl (any_of HT_.out (by kernel_rfl)) (fun _ _ _ h=>h) (Or.inl ⟨by rfl,?_⟩) ?_ ?_
     rotate_left
     ·intro w'
      go_simp
      with_reducible rfl
     rotate_left
     ·simp only [Act.put,zz21,zz22,zz23,i64_w,i32_w]
      rfl
     refine pure_ (i:=4) (N:=some 18) (v:=?_) (a':=?_) #[T,T,T,F,T,F,F,F,F] rfl rfl (any_of HT_.out (by kernel_rfl)) (fun _ _ _ h=>h) (Or.inl ⟨by rfl,?_⟩) ?_ ?_
     rotate_left
     ·intro w'
      go_simp
      with_reducible rfl
     rotate_left
     ·simp only [Act.put,zz21,zz22,zz23,i64_w,i32_w]
      rfl
     refine pure_ (i:=5) (N:=some 19) (v:=?_) (a':=?_) #[T,T,T,F,T,T,F,F,F] rfl rfl (any_of HT_.out (by kernel_rfl)) (fun _ _ _ h=>h) (Or.inl ⟨by rfl,?_⟩) ?_ ?_
     rotate_left
     ·intro w'
      go_simp
      with_reducible rfl
     rotate_left
     ·simp only [Act.put,zz21,zz22,zz23,i64_w,i32_w]
      rfl
     refine take_ (i:=3) (N:=some 17) (v:=?_) (a':=?_) #[T,T,T,T,T,T,F,F,F] rfl rfl (take_ofW HT_.out HW_.out (by kernel_rfl)) (fun _ _ _ h=>h) (Or.inl ⟨by rfl,?_⟩) hHeld ?_ ?_
     rotate_left
     ·intro w' s0
      go_simp
      with_reducible rfl
     rotate_left
     ·simp only [Act.put,zz21,zz22,zz23,i64_w,i32_w]
      rfl
     refine pure_ (i:=6) (N:=some 20) (v:=?_) (a':=?_) #[T,T,T,T,T,T,T,F,F] rfl rfl (any_of HT_.out (by kernel_rfl)) (fun _ _ _ h=>h) (Or.inl ⟨by rfl,?_⟩) ?_ ?_
     rotate_left
     ·intro w'
      go_simp
      with_reducible rfl
     rotate_left
     ·simp only [Act.put,zz21,zz22,zz23,i64_w,i32_w]
      rfl
     refine pure_ (i:=7) (N:=some 21) (v:=?_) (a':=?_) #[T,T,T,T,T,T,T,T,F] rfl rfl (any_of HT_.out (by kernel_rfl)) (fun _ _ _ h=>h) (Or.inl ⟨by rfl,?_⟩) ?_ ?_
     rotate_left
     ·intro w'
      go_simp
      with_reducible rfl
     rotate_left
     ·simp only [Act.put,zz21,zz22,zz23,i64_w,i32_w]
      rfl
     refine last_ (i:=8) (N:=none) #[T,T,T,T,T,T,T,T,T] rfl rfl (one_of HT_.out (by kernel_rfl)) (by decide) (fun K hK=>?_)
     refine skip_ (w1:=?_) (by rfl) rfl ?_ ?_
     rotate_left
     ·go_simp
      rfl
     refine hK.out _ _ ?_
     clear hK K
     refine done_ (done_of HT_.out (by kernel_rfl)) ?_
     try go_wp2
     first | go_end0 | ((try simp only [Exit.inBlock,Exit.then]);refine bodyPost_ret (results_none rfl _ _ _) rfl ?_)
     exact ⟨by first | rfl | (simp [errW_none,errW_some] <;> rfl) | (simp only [← hji7,← hji11];first | rfl | (simp [errW_none,errW_some] <;> rfl)) | (simp [*,errW_none,errW_some] <;> rfl),by (with_reducible repeat (first | apply zz12 | apply zz13 | apply zz14));exact HQ18.out,by repeat first | exact HB.out | apply zz2 | apply zz0 | apply zz1 | refine zz3 ?_ GB8.out,by repeat (first | (with_reducible first | exact HK.out | apply Kept.alloc | apply Kept.drewN | apply Kept.drew | refine Kept.setCell ?_ HMgo8.out _) | exact HK.out)⟩
    ·rw [if_neg c9] at H
     exact absurd H (by simp)
   ·rw [if_neg c6] at H
    exact absurd H (by simp)
  ·rw [if_neg c5] at H
   exact absurd H (by simp)
 ·rw [if_neg c4] at H
  exact absurd H (by simp)

/-! ### impl_renamed: function 41 -/
def impl_renamed.l0:Nat→List Int→List Int→List (S70)→Int→Int→Option (Int × (List (S70)))
 | 0,_,_,_,_,_=>none
 | k+1,x1,x5,x12,x13,x14=>if x14 < x13 then (if 0≤x14 then (if x14 < (x12.length:Int) then (if 0≤((rd_T70 x12 x14).f0) then (if ((rd_T70 x12 x14).f0) < (x1.length:Int) then (if 0≤((rd_T70 x12 x14).f1) then (if ((rd_T70 x12 x14).f1) < (x1.length:Int) then ((impl_table_put.f x5 (rd x1 ((rd_T70 x12 x14).f0)) (rd x1 ((rd_T70 x12 x14).f1))).bind fun t210=>(impl_renamed.l0 k x1 t210 x12 x13 (wrap64 (x14+1)))) else (none)) else (none)) else (none)) else (none)) else (none)) else (none)) else ((impl_table_party.f k x5).bind fun bt211=>(some (bt211.1,bt211.2)))
def impl_renamed.f (k:Nat) (a0_0:Int) (l0_1:List (S70)) (l1:List Int):Option (Int × (List (S70))):=if 0≤a0_0 then (if (a0_0:Int).toNat≤140737488355328 then (impl_renamed.l0 k l1 (List.replicate (a0_0:Int).toNat 0) l0_1 (l0_1.length:Int) 0) else (none)) else (none)
theorem impl_renamed.mono_l:∀ k,(∀ y0 y1 y2 y3 y4,LeO (impl_renamed.l0 k y0 y1 y2 y3 y4) (impl_renamed.l0 (k+1) y0 y1 y2 y3 y4))
 | 0=>fun _ _ _ _ _ r h=>by simp [impl_renamed.l0] at h
 | k+1=>by
  have ih0:=impl_renamed.mono_l k
  ·intro y0 y1 y2 y3 y4
   unfold impl_renamed.l0
   repeat' first
   | (with_reducible exact ih0 _ _ _ _ _)
   | (with_reducible exact impl_table_party.mono _ _)
   | (with_reducible exact LeO.refl _)
   | (with_reducible exact LeO.none _)
   | (with_reducible refine LeO.ite ?_ ?_)
   | (with_reducible refine LeO.bind ?_ (fun _=>?_))
   | exact ih0 _ _ _ _ _
   | exact impl_table_party.mono _ _
   | exact LeO.none _
   | refine LeO.ite ?_ ?_
   | refine LeO.bind ?_ (fun _=>?_)
theorem impl_renamed.mono:∀ a0 a1 a2 k,LeO (impl_renamed.f k a0 a1 a2) (impl_renamed.f (k+1) a0 a1 a2):=by
 intro a0 a1 a2 k
 have ih0:=impl_renamed.mono_l k
 unfold impl_renamed.f
 repeat' first
   | (with_reducible exact ih0 _ _ _ _ _)
   | (with_reducible exact impl_table_party.mono _ _)
   | (with_reducible exact LeO.refl _)
   | (with_reducible exact LeO.none _)
   | (with_reducible refine LeO.ite ?_ ?_)
   | (with_reducible refine LeO.bind ?_ (fun _=>?_))
   | exact ih0 _ _ _ _ _
   | exact impl_table_party.mono _ _
   | exact LeO.none _
   | refine LeO.ite ?_ ?_
   | refine LeO.bind ?_ (fun _=>?_)
def impl_renamed.T5:Bool × List (List Nat × List Nat):=(true,[([],[]),([],[]),([],[]),([2],[2]),([1,3],[1,3]),([4],[4]),([],[]),([],[]),([7],[7]),([6,8],[6,8]),([9],[9]),([0,5,10],[0,5,10])])
def impl_renamed.B5:List Nat:=[0,0,0,4,14,30,0,0,128,448,960,2047]
theorem impl_renamed.tab5:rtab .any (opsOf Try.f41 5)=impl_renamed.T5:=by kernel_rfl
theorem impl_renamed.bits5:waitsOk impl_renamed.T5.2 impl_renamed.B5=true:=by kernel_rfl
set_option maxHeartbeats 8000000 in
set_option maxRecDepth 100000 in
theorem impl_renamed.calls (k:Nat) (a0_0:Int) (A0_1:Option Addr) (c0_1:Nat) (l0_1:List (S70)) (A1:Option Addr) (c1:Nat) (l1:List Int) (r1:Int) (r2:List (S70)) (w:World) (hr0_1:Kd.C k70 w A0_1 l0_1.length l0_1) (hc0_1:l0_1.length≤c0_1) (hr1:Kd.C (Kd.int .i64) w A1 l1.length l1) (hc1:l1.length≤c1) (h:impl_renamed.f k a0_0 l0_1 l1=some (r1,r2)) :
  Calls Try.prog 41 #[.agg #[.int .i64 a0_0,.slice A0_1 l0_1.length c0_1],.slice A1 l1.length c1] w fun e w'=>∃ v1_:Value,e=.returned (.agg #[.int .i64 r1,v1_])∧Kd.R k70 70 w' w.heap.size (fun _=>True) v1_ r2∧Below w.heap.size w w':=by
 have hu30:=Try.underlying30
 have hu70:=Try.underlying70
 have HR0_1:=zz31 hr0_1
 have HC0_1:=zz31 hc0_1
 clear hr0_1 hc0_1
 have HR1:=zz31 hr1
 have HC1:=zz31 hc1
 clear hr1 hc1
 have HB:=zz31 (Below.refl w.heap.size w)
 have H:(if 0≤a0_0 then (if (a0_0:Int).toNat≤140737488355328 then (impl_renamed.l0 k l1 (List.replicate (a0_0:Int).toNat 0) l0_1 (l0_1.length:Int) 0) else (none)) else (none))=some (r1,r2):=h
 clear h
 by_cases c3:0≤a0_0
 ·rw [if_pos c3] at H
  have c3b0:=eq_true c3
  have c3b1:decide (0≤a0_0)=true:=decide_eq_true c3
  clear c3
  by_cases c4:(a0_0:Int).toNat≤140737488355328
  ·rw [if_pos c4] at H
   have c4b0:=eq_true c4
   have c4b1:decide ((a0_0:Int).toNat≤140737488355328)=true:=decide_eq_true c4
   clear c4
   obtain ⟨y203,hy203⟩:∃ y_:List Int,y_=(List.replicate (a0_0:Int).toNat 0):=⟨_,rfl⟩
   replace H:(impl_renamed.l0 k l1 y203 l0_1 (l0_1.length:Int) 0)=some (r1,r2):=by first | (rw [hy203];with_reducible exact H) | (have H2_:=(Option.bind_some _ _).symm.trans H;rw [hy203];with_reducible exact H2_) | (have H2_:=(Option.bind_some _ _).symm.trans H;with_reducible exact H2_) | with_reducible exact H | (rw [hy203];exact H) | exact H
   have Ny203:=zz31 hy203
   clear hy203
   have H':=zz31 H
   clear H
   go_enter Try.func41,Try.ntmps41
   go_wp2_with (first | ((with_reducible refine gate_dst (N:=2) rfl ?_);refine box_event ?hg (N:=2) ?hd (cs:=#[.int .i64 a0_0,.slice A0_1 l0_1.length c0_1]) (t:=30) ?hr ?_;(case hd=>rfl);(case hg=>rfl);(case hr=>first | (go_simp;done) | (go_simp;rfl));intro gb201 hg w5 hbox hb;have n0_:=zz31 (zz4 (by repeat first | exact HB.out | apply zz2 | apply zz0 | apply zz1) hb);have n1_:=zz31 (hbox);have n2_:=zz31 ((by rw [hg];exact (zz5 (by repeat first | exact HB.out | apply zz2 | apply zz0 | apply zz1)):w.heap.size≤gb201));have n3_:=zz31 ((by rw [hg];exact (zz5 (by repeat first | exact HB.out | apply zz2 | apply zz0 | apply zz1)):w.heap.size≤gb201));clear HB;have HB:=n0_;have BK201:=n1_;have GW201:=n2_;have GE201:=n3_;clear n0_ n1_ n2_ n3_;clear hb hbox hg) | ((with_reducible refine gate_dst (N:=4) rfl ?_);refine box_event ?hg (N:=4) ?hd (cs:=#[.int .i64 0,.slice none 0 0]) (t:=30) ?hr ?_;(case hd=>rfl);(case hg=>rfl);(case hr=>first | (go_simp;done) | (go_simp;rfl));intro gb202 hg w6 hbox hb;have n0_:=zz31 (zz11 (g:=gb201) (o:=.cells #[.int .i64 a0_0,.slice A0_1 l0_1.length c0_1] 30 (0,0)) (by (with_reducible repeat (first | refine zz6 ?_ _ | refine zz7 ?_ | refine zz8 ?_ _));exact BK201.out) hb);have n1_:=zz31 (zz4 (by repeat first | exact HB.out | apply zz2 | apply zz0 | apply zz1 | refine zz3 ?_ GE201.out) hb);have n2_:=zz31 (hbox);have n3_:=zz31 ((by rw [hg];exact (zz5 (by repeat first | exact HB.out | apply zz2 | apply zz0 | apply zz1 | refine zz3 ?_ GE201.out)):w.heap.size≤gb202));have n4_:=zz31 ((by rw [hg];exact (zz5 (by repeat first | exact HB.out | apply zz2 | apply zz0 | apply zz1 | refine zz3 ?_ GE201.out)):w.heap.size≤gb202));have n5_:=zz31 ((by rw [hg];exact Nat.ne_of_lt (blk_lt (g:=gb201) (o:=.cells #[.int .i64 a0_0,.slice A0_1 l0_1.length c0_1] 30 (0,0)) (by (with_reducible repeat (first | refine zz6 ?_ _ | refine zz7 ?_ | refine zz8 ?_ _));exact BK201.out)):gb201 ≠ gb202));have n6_:=zz31 ((by rw [hg];exact Nat.ne_of_gt (blk_lt (g:=gb201) (o:=.cells #[.int .i64 a0_0,.slice A0_1 l0_1.length c0_1] 30 (0,0)) (by (with_reducible repeat (first | refine zz6 ?_ _ | refine zz7 ?_ | refine zz8 ?_ _));exact BK201.out)):gb202 ≠ gb201));clear BK201;clear HB;have BK201:=n0_;have HB:=n1_;have BK202:=n2_;have GW202:=n3_;have GE202:=n4_;have NB201_202:=n5_;have NB202_201:=n6_;clear n0_ n1_ n2_ n3_ n4_ n5_ n6_;clear hb hbox hg;have hnb7:=NB201_202.out;have hnc7:=NB202_201.out;have hcz8_0:w6.cell? ⟨gb201,0,none⟩=some (.int .i64 a0_0):=(zz9 BK201.out 0).trans rfl;have hcz8_1:w6.cell? ⟨gb201,1,none⟩=some (.slice A0_1 l0_1.length c0_1):=(zz9 BK201.out 1).trans rfl;have hfz8_0:=zz10 BK201.out 0;have hfz8_1:=zz10 BK201.out 1) | ((with_reducible refine gate_dst (N:=10) rfl ?_);refine Kd.R_make (Kd.int .u16) _ 100 rfl (N:=10) rfl 74 _ _ rfl a0_0 rfl rfl Try.underlying74 (.int .u16 0) 2 info100 rfl (by decide) (by omega) 0 (ok:=fun _=>True) (okp:=fun _=>True) rfl (fun _ hk=>hk) trivial (zz29 (by first | (with_reducible assumption) | assumption)) (Nat.le_trans (Nat.mul_le_mul_right _ (zz29 (by first | (with_reducible assumption) | assumption):a0_0.toNat≤140737488355328)) (by omega)) (Below.refl _ _) (Nat.le_refl _) ?_;intro v204 w9 ho10 hb hg_ hnew_;clear hg_ hnew_;(first | rw [← Ny203.out] at ho10 | (simp only [Int.reduceToNat] at ho10;rw [← Ny203.out] at ho10));have n0_:=zz31 (Kd.R_lower ho10 (zz5 (by repeat first | exact HB.out | apply zz2 | apply zz0 | apply zz1 | refine zz3 ?_ GE201.out | refine zz3 ?_ GE202.out)));have n1_:=zz31 (zz11 (g:=gb201) (o:=.cells #[.int .i64 a0_0,.slice A0_1 l0_1.length c0_1] 30 (0,0)) (by (with_reducible repeat (first | refine zz6 ?_ _ | refine zz7 ?_ | refine zz8 ?_ _));exact BK201.out) hb);have n2_:=zz31 (zz11 (g:=gb202) (o:=.cells #[.int .i64 0,.slice none 0 0] 30 (0,0)) (by (with_reducible repeat (first | refine zz6 ?_ _ | refine zz7 ?_ | refine zz8 ?_ _));exact BK202.out) hb);have n3_:=zz31 (zz4 (by repeat first | exact HB.out | apply zz2 | apply zz0 | apply zz1 | refine zz3 ?_ GE201.out | refine zz3 ?_ GE202.out) hb);clear BK201;clear BK202;clear HB;have HO205:=n0_;have BK201:=n1_;have BK202:=n2_;have HB:=n3_;clear n0_ n1_ n2_ n3_;clear hb ho10;have hcz11_0:w9.cell? ⟨gb201,0,none⟩=some (.int .i64 a0_0):=(zz9 BK201.out 0).trans rfl;have hcz11_1:w9.cell? ⟨gb201,1,none⟩=some (.slice A0_1 l0_1.length c0_1):=(zz9 BK201.out 1).trans rfl;have hfz11_0:=zz10 BK201.out 0;have hfz11_1:=zz10 BK201.out 1))
   go_loopg [14] k (fun kq v14 w'=>∃ (x5_1:List Int) (x14_1:Int),v14=.int .i64 x14_1∧Aside0 (impl_renamed.l0 kq l1 x5_1 l0_1 (l0_1.length:Int) x14_1=some (r1,r2))∧Aside0 (kq≤k)∧Aside0 (Kd.R (Kd.int .u16) 100 w' w.heap.size (fun _=>True) v204 x5_1)∧Aside0 (w'.heap[gb201]?=some (.cells #[.int .i64 a0_0,(.slice A0_1 l0_1.length c0_1)] 30 (0,0)))∧Aside0 (w'.heap[gb202]?=some (.cells #[.int .i64 0,(.slice none 0 0)] 30 (0,0)))∧Aside0 (Below w.heap.size w w'))
   case atStart=>exact ⟨(y203),(0),(by first | rfl | (simp;done) | (simp [*];done)),H',⟨Nat.le_refl _⟩,⟨by (with_reducible repeat (first | apply zz12 | apply zz13 | apply zz14));exact HO205.out⟩,⟨by (with_reducible repeat (first | refine zz6 ?_ _ | refine zz7 ?_ | refine zz8 ?_ _));exact BK201.out⟩,⟨by (with_reducible repeat (first | refine zz6 ?_ _ | refine zz7 ?_ | refine zz8 ?_ _));exact BK202.out⟩,⟨by repeat first | exact HB.out | apply zz2 | apply zz0 | apply zz1 | refine zz3 ?_ GE201.out | refine zz3 ?_ GE202.out⟩⟩
   case round =>
    clear H'
    try clear c1
    try clear p2
    try clear c3
    try clear c3b0
    try clear c3b1
    try clear c4
    try clear c4b0
    try clear c4b1
    try clear c7
    try clear hcz11_0
    try clear hcz11_1
    try clear hcz8_0
    try clear hcz8_1
    try clear hfz11_0
    try clear hfz11_1
    try clear hfz8_0
    try clear hfz8_1
    obtain ⟨x5_1,x14_1,rfl,HA,HK1,HO_5,BK201,BK202,HB⟩:=hrel
    cases gk with
    | zero=>exact absurd HA.out (by simp [impl_renamed.l0])
    | succ k1 =>
     have H:=HA.out
     clear HA
     simp only [impl_renamed.l0] at H
     by_cases c12:x14_1 < (l0_1.length:Int)
     ·rw [if_pos c12] at H
      have c12b0:decide (x14_1 < (l0_1.length:Int))=true:=decide_eq_true c12
      clear c12
      by_cases c13:0≤x14_1
      ·rw [if_pos c13] at H
       have c13b0:decide (0≤x14_1)=true:=decide_eq_true c13
       clear c13
       by_cases c14:x14_1 < (l0_1.length:Int)
       ·rw [if_pos c14] at H
        have c14b0:decide (x14_1 < (l0_1.length:Int))=true:=decide_eq_true c14
        clear c14
        by_cases c15:0≤((rd_T70 l0_1 x14_1).f0)
        ·rw [if_pos c15] at H
         have c15b0:decide (0≤((rd_T70 l0_1 x14_1).f0))=true:=decide_eq_true c15
         clear c15
         by_cases c16:((rd_T70 l0_1 x14_1).f0) < (l1.length:Int)
         ·rw [if_pos c16] at H
          have c16b0:decide (((rd_T70 l0_1 x14_1).f0) < (l1.length:Int))=true:=decide_eq_true c16
          clear c16
          by_cases c17:0≤((rd_T70 l0_1 x14_1).f1)
          ·rw [if_pos c17] at H
           have c17b0:decide (0≤((rd_T70 l0_1 x14_1).f1))=true:=decide_eq_true c17
           clear c17
           by_cases c18:((rd_T70 l0_1 x14_1).f1) < (l1.length:Int)
           ·rw [if_pos c18] at H
            have c18b0:decide (((rd_T70 l0_1 x14_1).f1) < (l1.length:Int))=true:=decide_eq_true c18
            clear c18
            replace H:=zz30.mp H
            obtain ⟨t210,A190,H⟩:=H
            replace H:(impl_renamed.l0 k1 l1 t210 l0_1 (l0_1.length:Int) (wrap64 (x14_1+1)))=some (r1,r2):=H
            have A19:=zz31 A190
            clear A190
            have H':=zz31 H
            clear H
            have p206:0≤(x14_1:Int):=zz29 (by first | (with_reducible assumption) | assumption)
            have q206:x14_1 < (l0_1.length:Int):=zz29 (by first | (with_reducible assumption) | assumption)
            obtain ⟨ad206,e206,hx206_0,hx206_1⟩:=at_T70 HR0_1.out x14_1 p206 q206
            cases e206
            try replace hx206_0:=(HB.out.cell (World.block_lt_of_cell? w _ hx206_0)).trans hx206_0
            try replace hx206_1:=(HB.out.cell (World.block_lt_of_cell? w _ hx206_1)).trans hx206_1
            replace p206:=eq_true p206
            replace q206:=eq_true q206
            try go_wp2_with (first | ((with_reducible refine gate_dst (N:=7) rfl ?_);refine box_event ?hg (N:=7) ?hd (cs:=#[.int .i64 0,.int .i64 0]) (t:=70) ?hr ?_;(case hd=>rfl);(case hg=>rfl);(case hr=>first | (go_simp;done) | (go_simp;rfl));intro gb207 hg w20 hbox hb;have n0_:=zz31 (Kd.R_below (by (with_reducible repeat (first | apply zz12 | apply zz13 | apply zz14));exact HO_5.out) hb);have n1_:=zz31 (zz11 (g:=gb201) (o:=.cells #[.int .i64 a0_0,.slice (some ad206) l0_1.length c0_1] 30 (0,0)) (by (with_reducible repeat (first | refine zz6 ?_ _ | refine zz7 ?_ | refine zz8 ?_ _));exact BK201.out) hb);have n2_:=zz31 (zz11 (g:=gb202) (o:=.cells #[.int .i64 0,.slice none 0 0] 30 (0,0)) (by (with_reducible repeat (first | refine zz6 ?_ _ | refine zz7 ?_ | refine zz8 ?_ _));exact BK202.out) hb);have n3_:=zz31 (zz4 (by repeat first | exact HB.out | apply zz2 | apply zz0 | apply zz1 | refine zz3 ?_ GE201.out | refine zz3 ?_ GE202.out) hb);have n4_:=zz31 (hbox);have n5_:=zz31 ((by rw [hg];exact (zz5 (by repeat first | exact HB.out | apply zz2 | apply zz0 | apply zz1 | refine zz3 ?_ GE201.out | refine zz3 ?_ GE202.out)):w.heap.size≤gb207));have n6_:=zz31 ((by rw [hg];exact (zz5 (by repeat first | exact HB.out | apply zz2 | apply zz0 | apply zz1 | refine zz3 ?_ GE201.out | refine zz3 ?_ GE202.out)):w.heap.size≤gb207));have n7_:=zz31 ((by rw [hg];exact Nat.ne_of_lt (blk_lt (g:=gb201) (o:=.cells #[.int .i64 a0_0,.slice (some ad206) l0_1.length c0_1] 30 (0,0)) (by (with_reducible repeat (first | refine zz6 ?_ _ | refine zz7 ?_ | refine zz8 ?_ _));exact BK201.out)):gb201 ≠ gb207));have n8_:=zz31 ((by rw [hg];exact Nat.ne_of_gt (blk_lt (g:=gb201) (o:=.cells #[.int .i64 a0_0,.slice (some ad206) l0_1.length c0_1] 30 (0,0)) (by (with_reducible repeat (first | refine zz6 ?_ _ | refine zz7 ?_ | refine zz8 ?_ _));exact BK201.out)):gb207 ≠ gb201));have n9_:=zz31 ((by rw [hg];exact Nat.ne_of_lt (blk_lt (g:=gb202) (o:=.cells #[.int .i64 0,.slice none 0 0] 30 (0,0)) (by (with_reducible repeat (first | refine zz6 ?_ _ | refine zz7 ?_ | refine zz8 ?_ _));exact BK202.out)):gb202 ≠ gb207));have n10_:=zz31 ((by rw [hg];exact Nat.ne_of_gt (blk_lt (g:=gb202) (o:=.cells #[.int .i64 0,.slice none 0 0] 30 (0,0)) (by (with_reducible repeat (first | refine zz6 ?_ _ | refine zz7 ?_ | refine zz8 ?_ _));exact BK202.out)):gb207 ≠ gb202));clear HO_5;clear BK201;clear BK202;clear HB;have HO_5:=n0_;have BK201:=n1_;have BK202:=n2_;have HB:=n3_;have BK207:=n4_;have GW207:=n5_;have GE207:=n6_;have NB201_207:=n7_;have NB207_201:=n8_;have NB202_207:=n9_;have NB207_202:=n10_;clear n0_ n1_ n2_ n3_ n4_ n5_ n6_ n7_ n8_ n9_ n10_;clear hb hbox hg;have hnb21:=NB207_201.out;have hnc21:=NB201_207.out;have hnb22:=NB207_202.out;have hnc22:=NB202_207.out;have hcz23_0:w20.cell? ⟨gb207,0,none⟩=some (.int .i64 0):=(zz9 BK207.out 0).trans rfl;have hcz23_1:w20.cell? ⟨gb207,1,none⟩=some (.int .i64 0):=(zz9 BK207.out 1).trans rfl;have hfz23_0:=zz10 BK207.out 0;have hfz23_1:=zz10 BK207.out 1))
            have n0_:Aside0 (Kd.R (Kd.int .u16) 100 ((w20.setCell ⟨gb207,0,none⟩ (.int .i64 ((rd_T70 l0_1 x14_1).f0))).setCell ⟨gb207,1,none⟩ (.int .i64 ((rd_T70 l0_1 x14_1).f1))) w.heap.size (fun _=>True) v204 x5_1):=⟨by (with_reducible repeat (first | apply zz12 | apply zz13 | apply zz14));exact Kd.R_mono (Kd.R_far (p:=⟨gb207,1,none⟩) (Kd.R_far (p:=⟨gb207,0,none⟩) (Kd.R_types HO_5.out BK207.out (by decide)) (fun _ hk=>hk.2) (.int .i64 ((rd_T70 l0_1 x14_1).f0))) (fun _ hk=>hk.2) (.int .i64 ((rd_T70 l0_1 x14_1).f1))) (fun _ hk=>trivial)⟩
            have n1_:Aside0 (((w20.setCell ⟨gb207,0,none⟩ (.int .i64 ((rd_T70 l0_1 x14_1).f0))).setCell ⟨gb207,1,none⟩ (.int .i64 ((rd_T70 l0_1 x14_1).f1))).heap[gb201]?=some (.cells #[.int .i64 a0_0,.slice (some ad206) l0_1.length c0_1] 30 (0,0))):=⟨by (with_reducible repeat (first | refine zz6 ?_ _ | refine zz7 ?_ | refine zz8 ?_ _));refine blk_far ?_ NB201_207.out _;(with_reducible repeat (first | refine zz6 ?_ _ | refine zz7 ?_ | refine zz8 ?_ _));refine blk_far ?_ NB201_207.out _;(with_reducible repeat (first | refine zz6 ?_ _ | refine zz7 ?_ | refine zz8 ?_ _));exact BK201.out⟩
            have n2_:Aside0 (((w20.setCell ⟨gb207,0,none⟩ (.int .i64 ((rd_T70 l0_1 x14_1).f0))).setCell ⟨gb207,1,none⟩ (.int .i64 ((rd_T70 l0_1 x14_1).f1))).heap[gb202]?=some (.cells #[.int .i64 0,.slice none 0 0] 30 (0,0))):=⟨by (with_reducible repeat (first | refine zz6 ?_ _ | refine zz7 ?_ | refine zz8 ?_ _));refine blk_far ?_ NB202_207.out _;(with_reducible repeat (first | refine zz6 ?_ _ | refine zz7 ?_ | refine zz8 ?_ _));refine blk_far ?_ NB202_207.out _;(with_reducible repeat (first | refine zz6 ?_ _ | refine zz7 ?_ | refine zz8 ?_ _));exact BK202.out⟩
            have n3_:Aside0 (((w20.setCell ⟨gb207,0,none⟩ (.int .i64 ((rd_T70 l0_1 x14_1).f0))).setCell ⟨gb207,1,none⟩ (.int .i64 ((rd_T70 l0_1 x14_1).f1))).heap[gb207]?=some (.cells #[.int .i64 ((rd_T70 l0_1 x14_1).f0),.int .i64 ((rd_T70 l0_1 x14_1).f1)] 70 (0,0))):=⟨by (with_reducible repeat (first | refine zz6 ?_ _ | refine zz7 ?_ | refine zz8 ?_ _));refine blk_put (cs:=#[.int .i64 ((rd_T70 l0_1 x14_1).f0),.int .i64 0]) ?_ 1 _ rfl;(with_reducible repeat (first | refine zz6 ?_ _ | refine zz7 ?_ | refine zz8 ?_ _));refine blk_put (cs:=#[.int .i64 0,.int .i64 0]) ?_ 0 _ rfl;(with_reducible repeat (first | refine zz6 ?_ _ | refine zz7 ?_ | refine zz8 ?_ _));exact BK207.out⟩
            have n4_:Aside0 (Below w.heap.size w ((w20.setCell ⟨gb207,0,none⟩ (.int .i64 ((rd_T70 l0_1 x14_1).f0))).setCell ⟨gb207,1,none⟩ (.int .i64 ((rd_T70 l0_1 x14_1).f1)))):=⟨by repeat first | exact HB.out | apply zz2 | apply zz0 | apply zz1 | refine zz3 ?_ GE201.out | refine zz3 ?_ GE202.out | refine zz3 ?_ GE207.out⟩
            (try clear HO_5)
            (try clear BK201)
            (try clear BK202)
            (try clear BK207)
            (try clear HB)
            generalize ((w20.setCell ⟨gb207,0,none⟩ (.int .i64 ((rd_T70 l0_1 x14_1).f0))).setCell ⟨gb207,1,none⟩ (.int .i64 ((rd_T70 l0_1 x14_1).f1)))=w24 at n0_ n1_ n2_ n3_ n4_ ⊢
            have HO_5:=n0_
            have BK201:=n1_
            have BK202:=n2_
            have BK207:=n3_
            have HB:=n4_
            clear n0_ n1_ n2_ n3_ n4_
            have n0_:=zz31 (zz14 HO_5.out)
            have n1_:=zz31 (zz7 BK201.out)
            have n2_:=zz31 (zz7 BK202.out)
            have n3_:=zz31 (zz7 BK207.out)
            have n4_:=zz31 (zz1 HB.out)
            clear HO_5
            clear BK201
            clear BK202
            clear BK207
            clear HB
            have HO_5:=n0_
            have BK201:=n1_
            have BK202:=n2_
            have BK207:=n3_
            have HB:=n4_
            clear n0_ n1_ n2_ n3_ n4_
            have p208:0≤(((rd_T70 l0_1 x14_1).f0):Int):=zz29 (by first | (with_reducible assumption) | assumption)
            have q208:((rd_T70 l0_1 x14_1).f0) < (l1.length:Int):=zz29 (by first | (with_reducible assumption) | assumption)
            obtain ⟨ad208,e208,hx208_0⟩:=Kd.at_int HR1.out ((rd_T70 l0_1 x14_1).f0) p208 q208
            have hw208_0:=hx208_0
            cases e208
            try replace hx208_0:=(HB.out.cell (World.block_lt_of_cell? w _ hx208_0)).trans hx208_0
            replace p208:=eq_true p208
            replace q208:=eq_true q208
            have p209:0≤(((rd_T70 l0_1 x14_1).f1):Int):=zz29 (by first | (with_reducible assumption) | assumption)
            have q209:((rd_T70 l0_1 x14_1).f1) < (l1.length:Int):=zz29 (by first | (with_reducible assumption) | assumption)
            obtain ⟨ad209,e209,hx209_0⟩:=Kd.at_int HR1.out ((rd_T70 l0_1 x14_1).f1) p209 q209
            have hw209_0:=hx209_0
            obtain rfl:ad208=ad209:=(by injection e209)
            try replace hx209_0:=(HB.out.cell (World.block_lt_of_cell? w _ hx209_0)).trans hx209_0
            replace p209:=eq_true p209
            replace q209:=eq_true q209
            obtain ⟨Ao26,co26,eo26⟩:=Kd.R_slice HO_5.out
            (first | subst eo26 | (injection eo26 with f1_ f2_ f3_;have f4_:=f1_.symm;have f5_:=f3_.symm;clear f1_ f2_ f3_;subst f4_;subst f5_))
            refine start_ (n:=12) (S:=fun w'=>w'.cell? ⟨gb207,0,none⟩=some (.int .i64 ((rd_T70 l0_1 x14_1).f0))∧w'.cell? ⟨gb207,1,none⟩=some (.int .i64 ((rd_T70 l0_1 x14_1).f1))∧w'.cell? (ad208.add (((rd_T70 l0_1 x14_1).f0)).toNat)=some (.int .i64 (rd l1 ((rd_T70 l0_1 x14_1).f0)))∧w'.cell? (ad208.add (((rd_T70 l0_1 x14_1).f1)).toNat)=some (.int .i64 (rd l1 ((rd_T70 l0_1 x14_1).f1)))) (ds:=[]) #[F,F,F,F,F,F,F,F,F,F,F,F] (by kernel_rfl) rfl rfl ⟨(zz9 BK207.out 0).trans rfl,(zz9 BK207.out 1).trans rfl,((HB.out.cell (World.block_lt_of_cell? w _ hw208_0)).trans hw208_0),((HB.out.cell (World.block_lt_of_cell? w _ hw209_0)).trans hw209_0)⟩ (fun hHeld=>?_);refine with_tabW impl_renamed.tab5 impl_renamed.bits5 (fun HT_ HW_=>?_)
            generalize w24.drew=w25 at HO_5 BK201 BK202 BK207 HB hx208_0 hx209_0 hHeld ⊢
            refine pure_ (i:=0) (N:=some 18) (v:=?_) (a':=?_) #[T,F,F,F,F,F,F,F,F,F,F,F] rfl rfl (any_of HT_.out (by kernel_rfl)) (fun _ _ _ h=>h) (Or.inl ⟨by rfl,?_⟩) ?_ ?_
            rotate_left
            ·intro w'
             go_simp
             with_reducible rfl
            rotate_left
            ·simp only [Act.put,zz21,zz22,zz23,i64_w,i32_w]
             rfl
            refine pure_ (i:=1) (N:=some 19) (v:=?_) (a':=?_) #[T,T,F,F,F,F,F,F,F,F,F,F] rfl rfl (any_of HT_.out (by kernel_rfl)) (fun _ _ _ h=>h) (Or.inl ⟨by rfl,?_⟩) ?_ ?_
            rotate_left
            ·intro w'
             go_simp
             with_reducible rfl
            rotate_left
            ·simp only [Act.put,zz21,zz22,zz23,i64_w,i32_w]
             rfl
            refine pure_ (i:=2) (N:=some 20) (v:=?_) (a':=?_) #[T,T,T,F,F,F,F,F,F,F,F,F] rfl rfl (any_of HT_.out (by kernel_rfl)) (fun _ _ _ h=>h) (Or.inl ⟨by rfl,?_⟩) ?_ ?_
            rotate_left
            ·intro w'
             go_simp
             with_reducible rfl
            rotate_left
            ·simp only [Act.put,zz21,zz22,zz23,i64_w,i32_w]
             rfl
            refine pure_ (i:=6) (N:=some 24) (v:=?_) (a':=?_) #[T,T,T,F,F,F,T,F,F,F,F,F] rfl rfl (any_of HT_.out (by kernel_rfl)) (fun _ _ _ h=>h) (Or.inl ⟨by rfl,?_⟩) ?_ ?_
            rotate_left
            ·intro w'
             go_simp
             with_reducible rfl
            rotate_left
            ·simp only [Act.put,zz21,zz22,zz23,i64_w,i32_w]
             rfl
            refine pure_ (i:=7) (N:=some 25) (v:=?_) (a':=?_) #[T,T,T,F,F,F,T,T,F,F,F,F] rfl rfl (any_of HT_.out (by kernel_rfl)) (fun _ _ _ h=>h) (Or.inl ⟨by rfl,?_⟩) ?_ ?_
            rotate_left
            ·intro w'
             go_simp
             with_reducible rfl
            rotate_left
            ·simp only [Act.put,zz21,zz22,zz23,i64_w,i32_w]
             rfl
            refine take_ (i:=3) (N:=some 21) (v:=?_) (a':=?_) #[T,T,T,T,F,F,T,T,F,F,F,F] rfl rfl (take_ofW HT_.out HW_.out (by kernel_rfl)) (fun _ _ _ h=>h) (Or.inl ⟨by rfl,?_⟩) hHeld ?_ ?_
            rotate_left
            ·rintro w' ⟨s0,s1,s2,s3⟩
             go_simp
             with_reducible rfl
            rotate_left
            ·simp only [Act.put,zz21,zz22,zz23,i64_w,i32_w]
             rfl
            refine pure_ (i:=4) (N:=some 22) (v:=?_) (a':=?_) #[T,T,T,T,T,F,T,T,F,F,F,F] rfl rfl (any_of HT_.out (by kernel_rfl)) (fun _ _ _ h=>h) (Or.inl ⟨by rfl,?_⟩) ?_ ?_
            rotate_left
            ·intro w'
             go_simp
             with_reducible rfl
            rotate_left
            ·simp only [Act.put,zz21,zz22,zz23,i64_w,i32_w]
             rfl
            refine take_ (i:=5) (N:=some 23) (v:=?_) (a':=?_) #[T,T,T,T,T,T,T,T,F,F,F,F] rfl rfl (take_ofW HT_.out HW_.out (by kernel_rfl)) (fun _ _ _ h=>h) (Or.inl ⟨by rfl,?_⟩) hHeld ?_ ?_
            rotate_left
            ·rintro w' ⟨s0,s1,s2,s3⟩
             go_simp
             with_reducible rfl
            rotate_left
            ·simp only [Act.put,zz21,zz22,zz23,i64_w,i32_w]
             rfl
            refine take_ (i:=8) (N:=some 26) (v:=?_) (a':=?_) #[T,T,T,T,T,T,T,T,T,F,F,F] rfl rfl (take_ofW HT_.out HW_.out (by kernel_rfl)) (fun _ _ _ h=>h) (Or.inl ⟨by rfl,?_⟩) hHeld ?_ ?_
            rotate_left
            ·rintro w' ⟨s0,s1,s2,s3⟩
             go_simp
             with_reducible rfl
            rotate_left
            ·simp only [Act.put,zz21,zz22,zz23,i64_w,i32_w]
             rfl
            refine pure_ (i:=9) (N:=some 27) (v:=?_) (a':=?_) #[T,T,T,T,T,T,T,T,T,T,F,F] rfl rfl (any_of HT_.out (by kernel_rfl)) (fun _ _ _ h=>h) (Or.inl ⟨by rfl,?_⟩) ?_ ?_
            rotate_left
            ·intro w'
             go_simp
             with_reducible rfl
            rotate_left
            ·simp only [Act.put,zz21,zz22,zz23,i64_w,i32_w]
             rfl
            refine take_ (i:=10) (N:=some 28) (v:=?_) (a':=?_) #[T,T,T,T,T,T,T,T,T,T,T,F] rfl rfl (take_ofW HT_.out HW_.out (by kernel_rfl)) (fun _ _ _ h=>h) (Or.inl ⟨by rfl,?_⟩) hHeld ?_ ?_
            rotate_left
            ·rintro w' ⟨s0,s1,s2,s3⟩
             go_simp
             with_reducible rfl
            rotate_left
            ·simp only [Act.put,zz21,zz22,zz23,i64_w,i32_w]
             rfl
            refine one_ (i:=11) (N:=some 29) #[T,T,T,T,T,T,T,T,T,T,T,T] rfl rfl (one_of HT_.out (by kernel_rfl)) (by decide) (fun K hK=>?_)
            refine goes_ Try.func72 (by kernel_rfl) rfl #[.slice Ao26 x5_1.length co26,.int .i64 (rd l1 ((rd_T70 l0_1 x14_1).f0)),.int .i64 (rd l1 ((rd_T70 l0_1 x14_1).f1))] (by rfl) rfl rfl (by (try simp only [zz26,zz27,zz28]);first | done | rfl | (simp only [zz24,zz25];rfl)) ?_
            with_reducible refine (impl_table_put.calls (fun k_=>some k_=(.slice Ao26 x5_1.length co26:Value).ownBlock) (.slice Ao26 x5_1.length co26) x5_1 (rd l1 ((rd_T70 l0_1 x14_1).f0)) (rd l1 ((rd_T70 l0_1 x14_1).f1)) t210 w _ ?side1 ?side2 A19.out).mono ?_
            (case side1=>repeat first | exact HB.out | apply zz2 | apply zz0 | apply zz1 | refine zz3 ?_ GE201.out | refine zz3 ?_ GE202.out | refine zz3 ?_ GE207.out)
            (case side2=>exact Kd.R_tight rfl HO_5.out)
            rintro e w27 ⟨rfl,hy0,hb,hkp⟩
            refine ⟨_,rfl,?_⟩
            have n0_:=zz31 (Kd.R_reok rfl hy0 (fun k_ e_=>HO_5.out.1 k_ e_))
            (first | have n1_:=zz31 (blk_kept BK201.out hkp (fun hs_=>(fun e_=>(Kd.R_ne HO_5.out BK201.out (by decide)) e_) hs_)) | have n1_:=zz31 (blk_kept (by (with_reducible repeat (first | refine zz6 ?_ _ | refine zz7 ?_ | refine zz8 ?_ _));exact BK201.out) hkp (fun hs_=>(fun e_=>(Kd.R_ne HO_5.out BK201.out (by decide)) e_) hs_)))
            (first | have n2_:=zz31 (blk_kept BK202.out hkp (fun hs_=>(fun e_=>(Kd.R_ne HO_5.out BK202.out (by decide)) e_) hs_)) | have n2_:=zz31 (blk_kept (by (with_reducible repeat (first | refine zz6 ?_ _ | refine zz7 ?_ | refine zz8 ?_ _));exact BK202.out) hkp (fun hs_=>(fun e_=>(Kd.R_ne HO_5.out BK202.out (by decide)) e_) hs_)))
            (first | have n3_:=zz31 (blk_kept BK207.out hkp (fun hs_=>(fun e_=>(Kd.R_ne HO_5.out BK207.out (by decide)) e_) hs_)) | have n3_:=zz31 (blk_kept (by (with_reducible repeat (first | refine zz6 ?_ _ | refine zz7 ?_ | refine zz8 ?_ _));exact BK207.out) hkp (fun hs_=>(fun e_=>(Kd.R_ne HO_5.out BK207.out (by decide)) e_) hs_)))
            have n4_:=zz31 (hb)
            clear HO_5
            clear BK201
            clear BK202
            clear BK207
            clear HB
            have HO_5:=n0_
            have BK201:=n1_
            have BK202:=n2_
            have BK207:=n3_
            have HB:=n4_
            clear n0_ n1_ n2_ n3_ n4_
            (try clear hb)
            (try clear hkp)
            (try clear hy0)
            refine hK.out _ _ ⟨(zz9 BK207.out 0).trans rfl,(zz9 BK207.out 1).trans rfl,((HB.out.cell (World.block_lt_of_cell? w _ hw208_0)).trans hw208_0),((HB.out.cell (World.block_lt_of_cell? w _ hw209_0)).trans hw209_0)⟩ (fun hHeld=>?_)
            clear hK K
            refine norm_ (a':=?_) ?_ ?_
            rotate_left
            ·show Act.put _ (some 29) _=_
             simp only [Act.put,zz21,zz22,zz23,i64_w,i32_w]
             rfl
            refine done_ (done_of HT_.out (by kernel_rfl)) ?_
            try go_wp2
            go_roundg k1
            case measure=>have:=HK1.out;omega
            case rel=>exact ⟨(t210),(wrap64 (x14_1+1)),(by first | rfl | (simp;done) | (simp [*];done)),H',⟨by have:=HK1.out;omega⟩,⟨by (with_reducible repeat (first | apply zz12 | apply zz13 | apply zz14));exact HO_5.out⟩,⟨by (with_reducible repeat (first | refine zz6 ?_ _ | refine zz7 ?_ | refine zz8 ?_ _));exact BK201.out⟩,⟨by (with_reducible repeat (first | refine zz6 ?_ _ | refine zz7 ?_ | refine zz8 ?_ _));exact BK202.out⟩,⟨by repeat first | exact HB.out | apply zz2 | apply zz0 | apply zz1 | refine zz3 ?_ GE201.out | refine zz3 ?_ GE202.out | refine zz3 ?_ GE207.out⟩⟩
           ·rw [if_neg c18] at H
            exact absurd H (by simp)
          ·rw [if_neg c17] at H
           exact absurd H (by simp)
         ·rw [if_neg c16] at H
          exact absurd H (by simp)
        ·rw [if_neg c15] at H
         exact absurd H (by simp)
       ·rw [if_neg c14] at H
        exact absurd H (by simp)
      ·rw [if_neg c13] at H
       exact absurd H (by simp)
     ·rw [if_neg c12] at H
      have c12b0:decide (x14_1 < (l0_1.length:Int))=false:=decide_eq_false c12
      clear c12
      replace H:=zz30.mp H
      obtain ⟨⟨t211,t212⟩,A280,H⟩:=H
      replace H:(some (t211,t212))=some (r1,r2):=H
      have A28:=zz31 A280
      clear A280
      simp only [Option.some.injEq,Prod.mk.injEq] at H
      obtain ⟨rfl,rfl⟩:=H
      obtain ⟨Ao29,co29,eo29⟩:=Kd.R_slice HO_5.out
      subst eo29
      go_wp2_with (first | ((with_reducible refine gate_callee (f:=57) rfl ?_);refine goesL_ (some 32) rfl rfl Try.func57 (by kernel_rfl) rfl #[.slice Ao29 x5_1.length co29] rfl (by (try simp only [zz26,zz27,zz28]);first | done | rfl | (simp only [zz24,zz25];rfl)) ?_;(with_reducible refine (impl_table_party.calls k1 _ _ x5_1 t211 t212 _ ?side1 ?side2 A28.out).mono ?_);(case side1=>repeat (first | exact (Kd.R_reads' HO_5.out).2.2 | (with_reducible refine zz18 ?_ _) | (with_reducible refine zz19 ?_ _) | (with_reducible refine zz20 ?_)));(case side2=>exact (Kd.R_reads' HO_5.out).2.1);rintro e w30 ⟨v213,rfl,ho0,hb⟩;refine ⟨_,rfl,?_⟩;have n0_:=zz31 (Kd.R_below (by (with_reducible repeat (first | apply zz12 | apply zz13 | apply zz14));exact HO_5.out) hb);have n1_:=zz31 (Kd.R_lower ho0 (zz5 (by repeat first | exact HB.out | apply zz2 | apply zz0 | apply zz1 | refine zz3 ?_ GE201.out | refine zz3 ?_ GE202.out)));have n2_:=zz31 (zz11 (g:=gb201) (o:=.cells #[.int .i64 a0_0,.slice A0_1 l0_1.length c0_1] 30 (0,0)) (by (with_reducible repeat (first | refine zz6 ?_ _ | refine zz7 ?_ | refine zz8 ?_ _));exact BK201.out) hb);have n3_:=zz31 (zz11 (g:=gb202) (o:=.cells #[.int .i64 0,.slice none 0 0] 30 (0,0)) (by (with_reducible repeat (first | refine zz6 ?_ _ | refine zz7 ?_ | refine zz8 ?_ _));exact BK202.out) hb);have n4_:=zz31 (zz4 (by repeat first | exact HB.out | apply zz2 | apply zz0 | apply zz1 | refine zz3 ?_ GE201.out | refine zz3 ?_ GE202.out) hb);clear HO_5;clear BK201;clear BK202;clear HB;have HO_5:=n0_;have HO214:=n1_;have BK201:=n2_;have BK202:=n3_;have HB:=n4_;clear n0_ n1_ n2_ n3_ n4_;(try clear hb);(try clear hb2);(try clear hk);(try clear hi);(try clear ho0);have hnb31:=NB202_201.out;have hnc31:=NB201_202.out;have hcz32_0:w30.cell? ⟨gb202,0,none⟩=some (.int .i64 0):=(zz9 BK202.out 0).trans rfl;have hcz32_1:w30.cell? ⟨gb202,1,none⟩=some (.slice none 0 0):=(zz9 BK202.out 1).trans rfl;have hfz32_0:=zz10 BK202.out 0;have hfz32_1:=zz10 BK202.out 1;obtain ⟨Ao33,co33,eo33⟩:=Kd.R_slice HO214.out;subst eo33))
      refine bodyPost_ret (results_cell_row rfl _ _ gb202 30 #[.int .i64 t211,.slice Ao33 t212.length co33] (0,0) _ rfl (by (with_reducible repeat (first | refine zz6 ?_ _ | refine zz7 ?_ | refine zz8 ?_ _));refine blk_put (cs:=#[.int .i64 t211,.slice none 0 0]) ?_ 1 _ rfl;(with_reducible repeat (first | refine zz6 ?_ _ | refine zz7 ?_ | refine zz8 ?_ _));refine blk_put (cs:=#[.int .i64 0,.slice none 0 0]) ?_ 0 _ rfl;(with_reducible repeat (first | refine zz6 ?_ _ | refine zz7 ?_ | refine zz8 ?_ _));exact BK202.out) Try.underlying30 rfl (by kernel_rfl)) rfl ?_
      exact ⟨_,by first | rfl | (simp [errW_none,errW_some] <;> rfl) | (simp [*,errW_none,errW_some] <;> rfl),by (with_reducible repeat (first | apply zz12 | apply zz13 | apply zz14));exact Kd.R_mono (Kd.R_far (p:=⟨gb202,1,none⟩) (Kd.R_far (p:=⟨gb202,0,none⟩) (Kd.R_types HO214.out BK202.out (by decide)) (fun _ hk=>hk.2) (.int .i64 t211)) (fun _ hk=>hk.2) (.slice Ao33 t212.length co33)) (fun _ hk=>trivial),by repeat first | exact HB.out | apply zz2 | apply zz0 | apply zz1 | refine zz3 ?_ GE201.out | refine zz3 ?_ GE202.out⟩
  ·rw [if_neg c4] at H
   exact absurd H (by simp)
 ·rw [if_neg c3] at H
  exact absurd H (by simp)

/-! ### cmp_Or_int: function 86 -/
def cmp_Or_int.l0:Nat→Int→List Int→Int→Int→Option (Int)
 | 0,_,_,_,_=>none
 | k+1,x3,x6,x7,x8=>if x8 < x7 then (if 0≤x8 then (if x8 < (x6.length:Int) then (if (rd x6 x8)=x3 then (cmp_Or_int.l0 k x3 x6 x7 (wrap64 (x8+1))) else (some (rd x6 x8))) else (none)) else (none)) else (some x3)
def cmp_Or_int.f (k:Nat) (l0:List Int):Option (Int):=cmp_Or_int.l0 k 0 l0 (l0.length:Int) 0
theorem cmp_Or_int.mono_l:∀ k,(∀ y0 y1 y2 y3,LeO (cmp_Or_int.l0 k y0 y1 y2 y3) (cmp_Or_int.l0 (k+1) y0 y1 y2 y3))
 | 0=>fun _ _ _ _ r h=>by simp [cmp_Or_int.l0] at h
 | k+1=>by
  have ih0:=cmp_Or_int.mono_l k
  ·intro y0 y1 y2 y3
   unfold cmp_Or_int.l0
   repeat' first
   | (with_reducible exact ih0 _ _ _ _)
   | (with_reducible exact LeO.refl _)
   | (with_reducible exact LeO.none _)
   | (with_reducible refine LeO.ite ?_ ?_)
   | (with_reducible refine LeO.bind ?_ (fun _=>?_))
   | exact ih0 _ _ _ _
   | exact LeO.none _
   | refine LeO.ite ?_ ?_
   | refine LeO.bind ?_ (fun _=>?_)
theorem cmp_Or_int.mono:∀ a0 k,LeO (cmp_Or_int.f k a0) (cmp_Or_int.f (k+1) a0):=by
 intro a0 k
 have ih0:=cmp_Or_int.mono_l k
 unfold cmp_Or_int.f
 repeat' first
   | (with_reducible exact ih0 _ _ _ _)
   | (with_reducible exact LeO.refl _)
   | (with_reducible exact LeO.none _)
   | (with_reducible refine LeO.ite ?_ ?_)
   | (with_reducible refine LeO.bind ?_ (fun _=>?_))
   | exact ih0 _ _ _ _
   | exact LeO.none _
   | refine LeO.ite ?_ ?_
   | refine LeO.bind ?_ (fun _=>?_)
set_option maxHeartbeats 8000000 in
set_option maxRecDepth 100000 in
theorem cmp_Or_int.calls (k:Nat) (A0:Option Addr) (c0:Nat) (l0:List Int) (r:Int) (w:World) (hr0:Kd.C (Kd.int .i64) w A0 l0.length l0) (hc0:l0.length≤c0) (h:cmp_Or_int.f k l0=some r) :
  Calls Try.prog 86 #[.slice A0 l0.length c0] w fun e w'=>e=.returned (.int .i64 r)∧Drawn0 w w':=by
 have HR0:=zz31 hr0
 have HC0:=zz31 hc0
 clear hr0 hc0
 have H:(cmp_Or_int.l0 k 0 l0 (l0.length:Int) 0)=some r:=h
 clear h
 have H':=zz31 H
 clear H
 go_enter Try.func86,Try.ntmps86
 go_wp2
 go_loopg [8] k (fun kq v8 w'=>∃ (x8_1:Int),v8=.int .i64 x8_1∧Aside0 (cmp_Or_int.l0 kq 0 l0 (l0.length:Int) x8_1=some r)∧Aside0 (kq≤k)∧Drawn0 w w')
 case atStart=>exact ⟨(0),(by first | rfl | (simp;done) | (simp [*];done)),H',⟨Nat.le_refl _⟩,by repeat (first | exact Drawn0.refl _ | apply Drawn0.step)⟩
 case round =>
  clear H'
  obtain ⟨x8_1,rfl,HA,HK1,⟨m1,rfl⟩⟩:=hrel
  cases gk with
  | zero=>exact absurd HA.out (by simp [cmp_Or_int.l0])
  | succ k1 =>
   have H:=HA.out
   clear HA
   simp only [cmp_Or_int.l0] at H
   by_cases c2:x8_1 < (l0.length:Int)
   ·rw [if_pos c2] at H
    have c2b0:decide (x8_1 < (l0.length:Int))=true:=decide_eq_true c2
    clear c2
    by_cases c3:0≤x8_1
    ·rw [if_pos c3] at H
     have c3b0:decide (0≤x8_1)=true:=decide_eq_true c3
     clear c3
     by_cases c4:x8_1 < (l0.length:Int)
     ·rw [if_pos c4] at H
      have c4b0:decide (x8_1 < (l0.length:Int))=true:=decide_eq_true c4
      clear c4
      by_cases c5:(rd l0 x8_1)=0
      ·rw [if_pos c5] at H
       have c5b0:((rd l0 x8_1) == 0)=true:=beq_iff_eq.mpr c5
       have c5b1:((rd l0 x8_1) != 0)=false:=bne_eq_false_iff_eq.mpr c5
       clear c5
       have H':=zz31 H
       clear H
       have p215:0≤(x8_1:Int):=zz29 (by first | (with_reducible assumption) | assumption)
       have q215:x8_1 < (l0.length:Int):=zz29 (by first | (with_reducible assumption) | assumption)
       obtain ⟨ad215,e215,hx215_0⟩:=Kd.at_int HR0.out x8_1 p215 q215
       cases e215
       replace p215:=eq_true p215
       replace q215:=eq_true q215
       go_wp2
       go_roundg k1
       case measure=>have:=HK1.out;omega
       case rel=>exact ⟨(wrap64 (x8_1+1)),(by first | rfl | (simp;done) | (simp [*];done)),H',⟨by have:=HK1.out;omega⟩,by repeat (first | exact Drawn0.refl _ | apply Drawn0.step)⟩
      ·rw [if_neg c5] at H
       have c5b0:((rd l0 x8_1) == 0)=false:=beq_eq_false_iff_ne.mpr c5
       have c5b1:((rd l0 x8_1) != 0)=true:=bne_iff_ne.mpr c5
       obtain rfl:=Option.some.inj H
       have p215:0≤(x8_1:Int):=zz29 (by first | (with_reducible assumption) | assumption)
       have q215:x8_1 < (l0.length:Int):=zz29 (by first | (with_reducible assumption) | assumption)
       obtain ⟨ad215,e215,hx215_0⟩:=Kd.at_int HR0.out x8_1 p215 q215
       cases e215
       replace p215:=eq_true p215
       replace q215:=eq_true q215
       go_wp2
       go_ret
       exact ⟨by first | rfl | (simp;done) | (simp [*];done),by repeat (first | exact Drawn0.refl _ | apply Drawn0.step)⟩
     ·rw [if_neg c4] at H
      exact absurd H (by simp)
    ·rw [if_neg c3] at H
     exact absurd H (by simp)
   ·rw [if_neg c2] at H
    have c2b0:decide (x8_1 < (l0.length:Int))=false:=decide_eq_false c2
    clear c2
    obtain rfl:=Option.some.inj H
    go_wp2
    go_ret
    exact ⟨by first | rfl | (simp;done) | (simp [*];done),by repeat (first | exact Drawn0.refl _ | apply Drawn0.step)⟩

/-! ### cmp_isNaN_int: function 103 -/
def cmp_isNaN_int.f (a0:Int):Option (Bool):=some (a0 != a0)
set_option maxHeartbeats 8000000 in
set_option maxRecDepth 100000 in
theorem cmp_isNaN_int.calls (a0:Int) (r:Bool) (w:World) (h:cmp_isNaN_int.f a0=some r) :
  Calls Try.prog 103 #[.int .i64 a0] w fun e w'=>e=.returned (.bool r)∧Drawn0 w w':=by
 have H:(some (a0 != a0))=some r:=h
 clear h
 obtain rfl:=Option.some.inj H
 go_enter Try.func103,Try.ntmps103
 go_wp2
 go_ret
 exact ⟨by first | rfl | (simp;done) | (simp [*];done),by repeat (first | exact Drawn0.refl _ | apply Drawn0.step)⟩

/-! ### cmp_Compare_int: function 87 -/
def cmp_Compare_int.f (a0:Int) (a1:Int):Option (Int):=(cmp_isNaN_int.f a0).bind fun t216=>((cmp_isNaN_int.f a1).bind fun t217=>(if t216=true then (if t217=true then (some 0) else (some (-1))) else (if t217=true then (some 1) else (if a0 < a1 then (some (-1)) else (if a0 > a1 then (some 1) else (some 0))))))
set_option maxHeartbeats 8000000 in
set_option maxRecDepth 100000 in
theorem cmp_Compare_int.calls (a0:Int) (a1:Int) (r:Int) (w:World) (h:cmp_Compare_int.f a0 a1=some r) :
  Calls Try.prog 87 #[.int .i64 a0,.int .i64 a1] w fun e w'=>e=.returned (.int .i64 r)∧Drawn0 w w':=by
 have H:((cmp_isNaN_int.f a0).bind fun t216=>((cmp_isNaN_int.f a1).bind fun t217=>(if t216=true then (if t217=true then (some 0) else (some (-1))) else (if t217=true then (some 1) else (if a0 < a1 then (some (-1)) else (if a0 > a1 then (some 1) else (some 0)))))))=some r:=h
 clear h
 replace H:=zz30.mp H
 obtain ⟨t216,A30,H⟩:=H
 replace H:((cmp_isNaN_int.f a1).bind fun t217=>(if t216=true then (if t217=true then (some 0) else (some (-1))) else (if t217=true then (some 1) else (if a0 < a1 then (some (-1)) else (if a0 > a1 then (some 1) else (some 0))))))=some r:=H
 have A3:=zz31 A30
 clear A30
 replace H:=zz30.mp H
 obtain ⟨t217,A40,H⟩:=H
 replace H:(if t216=true then (if t217=true then (some 0) else (some (-1))) else (if t217=true then (some 1) else (if a0 < a1 then (some (-1)) else (if a0 > a1 then (some 1) else (some 0)))))=some r:=H
 have A4:=zz31 A40
 clear A40
 by_cases c5:t216=true
 ·subst c5
  have H1:(if t217=true then (some 0) else (some (-1)))=some r:=by rw [if_pos rfl] at H;exact H
  clear H
  have H:=H1
  clear H1
  by_cases c6:t217=true
  ·subst c6
   have H1:(some 0)=some r:=by rw [if_pos rfl] at H;exact H
   clear H
   have H:=H1
   clear H1
   obtain rfl:=Option.some.inj H
   go_enter Try.func87,Try.ntmps87
   go_wp2_with (first | ((with_reducible refine gate_callee (f:=103) rfl ?_);refine goesL_ (some 8) rfl rfl Try.func103 (by kernel_rfl) rfl #[.int .i64 a0] rfl (by (try simp only [zz26,zz27,zz28]);first | done | rfl | (simp only [zz24,zz25];rfl)) ?_;(with_reducible refine (cmp_isNaN_int.calls a0 true _ A3.out).mono ?_);rintro e w' ⟨rfl,⟨nd,rfl⟩⟩;refine ⟨_,rfl,?_⟩) | ((with_reducible refine gate_callee (f:=103) rfl ?_);refine goesL_ (some 10) rfl rfl Try.func103 (by kernel_rfl) rfl #[.int .i64 a1] rfl (by (try simp only [zz26,zz27,zz28]);first | done | rfl | (simp only [zz24,zz25];rfl)) ?_;(with_reducible refine (cmp_isNaN_int.calls a1 true _ A4.out).mono ?_);rintro e w' ⟨rfl,⟨nd,rfl⟩⟩;refine ⟨_,rfl,?_⟩))
   go_ret
   exact ⟨by first | rfl | (simp;done) | (simp [*];done),by repeat (first | exact Drawn0.refl _ | apply Drawn0.step)⟩
  ·replace c6:=Bool.eq_false_iff.mpr c6
   subst c6
   have H1:(some (-1))=some r:=by rw [if_neg (show ¬ (false=true) by decide)] at H;exact H
   clear H
   have H:=H1
   clear H1
   obtain rfl:=Option.some.inj H
   go_enter Try.func87,Try.ntmps87
   go_wp2_with (first | ((with_reducible refine gate_callee (f:=103) rfl ?_);refine goesL_ (some 8) rfl rfl Try.func103 (by kernel_rfl) rfl #[.int .i64 a0] rfl (by (try simp only [zz26,zz27,zz28]);first | done | rfl | (simp only [zz24,zz25];rfl)) ?_;(with_reducible refine (cmp_isNaN_int.calls a0 true _ A3.out).mono ?_);rintro e w' ⟨rfl,⟨nd,rfl⟩⟩;refine ⟨_,rfl,?_⟩) | ((with_reducible refine gate_callee (f:=103) rfl ?_);refine goesL_ (some 10) rfl rfl Try.func103 (by kernel_rfl) rfl #[.int .i64 a1] rfl (by (try simp only [zz26,zz27,zz28]);first | done | rfl | (simp only [zz24,zz25];rfl)) ?_;(with_reducible refine (cmp_isNaN_int.calls a1 false _ A4.out).mono ?_);rintro e w' ⟨rfl,⟨nd,rfl⟩⟩;refine ⟨_,rfl,?_⟩))
   go_ret
   exact ⟨by first | rfl | (simp;done) | (simp [*];done),by repeat (first | exact Drawn0.refl _ | apply Drawn0.step)⟩
 ·replace c5:=Bool.eq_false_iff.mpr c5
  subst c5
  have H1:(if t217=true then (some 1) else (if a0 < a1 then (some (-1)) else (if a0 > a1 then (some 1) else (some 0))))=some r:=by rw [if_neg (show ¬ (false=true) by decide)] at H;exact H
  clear H
  have H:=H1
  clear H1
  by_cases c7:t217=true
  ·subst c7
   have H1:(some 1)=some r:=by rw [if_pos rfl] at H;exact H
   clear H
   have H:=H1
   clear H1
   obtain rfl:=Option.some.inj H
   go_enter Try.func87,Try.ntmps87
   go_wp2_with (first | ((with_reducible refine gate_callee (f:=103) rfl ?_);refine goesL_ (some 8) rfl rfl Try.func103 (by kernel_rfl) rfl #[.int .i64 a0] rfl (by (try simp only [zz26,zz27,zz28]);first | done | rfl | (simp only [zz24,zz25];rfl)) ?_;(with_reducible refine (cmp_isNaN_int.calls a0 false _ A3.out).mono ?_);rintro e w' ⟨rfl,⟨nd,rfl⟩⟩;refine ⟨_,rfl,?_⟩) | ((with_reducible refine gate_callee (f:=103) rfl ?_);refine goesL_ (some 10) rfl rfl Try.func103 (by kernel_rfl) rfl #[.int .i64 a1] rfl (by (try simp only [zz26,zz27,zz28]);first | done | rfl | (simp only [zz24,zz25];rfl)) ?_;(with_reducible refine (cmp_isNaN_int.calls a1 true _ A4.out).mono ?_);rintro e w' ⟨rfl,⟨nd,rfl⟩⟩;refine ⟨_,rfl,?_⟩))
   go_ret
   exact ⟨by first | rfl | (simp;done) | (simp [*];done),by repeat (first | exact Drawn0.refl _ | apply Drawn0.step)⟩
  ·replace c7:=Bool.eq_false_iff.mpr c7
   subst c7
   have H1:(if a0 < a1 then (some (-1)) else (if a0 > a1 then (some 1) else (some 0)))=some r:=by rw [if_neg (show ¬ (false=true) by decide)] at H;exact H
   clear H
   have H:=H1
   clear H1
   by_cases c8:a0 < a1
   ·rw [if_pos c8] at H
    have c8b0:decide (a0 < a1)=true:=decide_eq_true c8
    clear c8
    obtain rfl:=Option.some.inj H
    go_enter Try.func87,Try.ntmps87
    go_wp2_with (first | ((with_reducible refine gate_callee (f:=103) rfl ?_);refine goesL_ (some 8) rfl rfl Try.func103 (by kernel_rfl) rfl #[.int .i64 a0] rfl (by (try simp only [zz26,zz27,zz28]);first | done | rfl | (simp only [zz24,zz25];rfl)) ?_;(with_reducible refine (cmp_isNaN_int.calls a0 false _ A3.out).mono ?_);rintro e w' ⟨rfl,⟨nd,rfl⟩⟩;refine ⟨_,rfl,?_⟩) | ((with_reducible refine gate_callee (f:=103) rfl ?_);refine goesL_ (some 10) rfl rfl Try.func103 (by kernel_rfl) rfl #[.int .i64 a1] rfl (by (try simp only [zz26,zz27,zz28]);first | done | rfl | (simp only [zz24,zz25];rfl)) ?_;(with_reducible refine (cmp_isNaN_int.calls a1 false _ A4.out).mono ?_);rintro e w' ⟨rfl,⟨nd,rfl⟩⟩;refine ⟨_,rfl,?_⟩))
    go_ret
    exact ⟨by first | rfl | (simp;done) | (simp [*];done),by repeat (first | exact Drawn0.refl _ | apply Drawn0.step)⟩
   ·rw [if_neg c8] at H
    have c8b0:decide (a0 < a1)=false:=decide_eq_false c8
    clear c8
    by_cases c9:a0 > a1
    ·rw [if_pos c9] at H
     have c9b0:decide (a1 < a0)=true:=decide_eq_true c9
     clear c9
     obtain rfl:=Option.some.inj H
     go_enter Try.func87,Try.ntmps87
     go_wp2_with (first | ((with_reducible refine gate_callee (f:=103) rfl ?_);refine goesL_ (some 8) rfl rfl Try.func103 (by kernel_rfl) rfl #[.int .i64 a0] rfl (by (try simp only [zz26,zz27,zz28]);first | done | rfl | (simp only [zz24,zz25];rfl)) ?_;(with_reducible refine (cmp_isNaN_int.calls a0 false _ A3.out).mono ?_);rintro e w' ⟨rfl,⟨nd,rfl⟩⟩;refine ⟨_,rfl,?_⟩) | ((with_reducible refine gate_callee (f:=103) rfl ?_);refine goesL_ (some 10) rfl rfl Try.func103 (by kernel_rfl) rfl #[.int .i64 a1] rfl (by (try simp only [zz26,zz27,zz28]);first | done | rfl | (simp only [zz24,zz25];rfl)) ?_;(with_reducible refine (cmp_isNaN_int.calls a1 false _ A4.out).mono ?_);rintro e w' ⟨rfl,⟨nd,rfl⟩⟩;refine ⟨_,rfl,?_⟩))
     go_ret
     exact ⟨by first | rfl | (simp;done) | (simp [*];done),by repeat (first | exact Drawn0.refl _ | apply Drawn0.step)⟩
    ·rw [if_neg c9] at H
     have c9b0:decide (a1 < a0)=false:=decide_eq_false c9
     clear c9
     obtain rfl:=Option.some.inj H
     go_enter Try.func87,Try.ntmps87
     go_wp2_with (first | ((with_reducible refine gate_callee (f:=103) rfl ?_);refine goesL_ (some 8) rfl rfl Try.func103 (by kernel_rfl) rfl #[.int .i64 a0] rfl (by (try simp only [zz26,zz27,zz28]);first | done | rfl | (simp only [zz24,zz25];rfl)) ?_;(with_reducible refine (cmp_isNaN_int.calls a0 false _ A3.out).mono ?_);rintro e w' ⟨rfl,⟨nd,rfl⟩⟩;refine ⟨_,rfl,?_⟩) | ((with_reducible refine gate_callee (f:=103) rfl ?_);refine goesL_ (some 10) rfl rfl Try.func103 (by kernel_rfl) rfl #[.int .i64 a1] rfl (by (try simp only [zz26,zz27,zz28]);first | done | rfl | (simp only [zz24,zz25];rfl)) ?_;(with_reducible refine (cmp_isNaN_int.calls a1 false _ A4.out).mono ?_);rintro e w' ⟨rfl,⟨nd,rfl⟩⟩;refine ⟨_,rfl,?_⟩))
     go_ret
     exact ⟨by first | rfl | (simp;done) | (simp [*];done),by repeat (first | exact Drawn0.refl _ | apply Drawn0.step)⟩

/-! ### impl_comparePairs: function 65 -/
def impl_comparePairs.f (k:Nat) (a0_0:Int) (a0_1:Int) (a1_0:Int) (a1_1:Int):Option (Int):=(cmp_Compare_int.f a0_0 a1_0).bind fun t220=>((cmp_Compare_int.f a0_1 a1_1).bind fun t221=>((cmp_Or_int.f k (([t220,t221]:List Int))).bind fun t225=>(some t225)))
theorem impl_comparePairs.mono:∀ a0 a1 a2 a3 k,LeO (impl_comparePairs.f k a0 a1 a2 a3) (impl_comparePairs.f (k+1) a0 a1 a2 a3):=by
 intro a0 a1 a2 a3 k
 unfold impl_comparePairs.f
 repeat' first
   | (with_reducible exact cmp_Or_int.mono _ _)
   | (with_reducible exact LeO.refl _)
   | (with_reducible exact LeO.none _)
   | (with_reducible refine LeO.ite ?_ ?_)
   | (with_reducible refine LeO.bind ?_ (fun _=>?_))
   | exact cmp_Or_int.mono _ _
   | exact LeO.none _
   | refine LeO.ite ?_ ?_
   | refine LeO.bind ?_ (fun _=>?_)
def impl_comparePairs.T1:Bool × List (List Nat × List Nat):=(true,[([],[]),([0],[0]),([],[]),([2],[2]),([1,3],[1,3]),([],[]),([5],[5]),([],[]),([7],[7]),([6,8,4],[6,8]),([4,9],[4,9]),([10,9],[10]),([11,11,0,1,2,3,4,5,6,7,8,9,10,11],[11])])
def impl_comparePairs.B1:List Nat:=[0,1,0,4,15,0,32,0,128,511,1023,2047,4095]
theorem impl_comparePairs.tab1:rtab .any (opsOf Try.f65 1)=impl_comparePairs.T1:=by kernel_rfl
theorem impl_comparePairs.bits1:waitsOk impl_comparePairs.T1.2 impl_comparePairs.B1=true:=by kernel_rfl
set_option maxHeartbeats 8000000 in
set_option maxRecDepth 100000 in
theorem impl_comparePairs.calls (k:Nat) (a0_0:Int) (a0_1:Int) (a1_0:Int) (a1_1:Int) (r:Int) (w:World) (h:impl_comparePairs.f k a0_0 a0_1 a1_0 a1_1=some r) :
  Calls Try.prog 65 #[.agg #[.int .i64 a0_0,.int .i64 a0_1],.agg #[.int .i64 a1_0,.int .i64 a1_1]] w fun e w'=>e=.returned (.int .i64 r)∧Below w.heap.size w w':=by
 have hu70:=Try.underlying70
 have HB:=zz31 (Below.refl w.heap.size w)
 have H:((cmp_Compare_int.f a0_0 a1_0).bind fun t220=>((cmp_Compare_int.f a0_1 a1_1).bind fun t221=>((cmp_Or_int.f k (([t220,t221]:List Int))).bind fun t225=>(some t225))))=some r:=h
 clear h
 replace H:=zz30.mp H
 obtain ⟨t220,A30,H⟩:=H
 replace H:((cmp_Compare_int.f a0_1 a1_1).bind fun t221=>((cmp_Or_int.f k (([t220,t221]:List Int))).bind fun t225=>(some t225)))=some r:=H
 have A3:=zz31 A30
 clear A30
 replace H:=zz30.mp H
 obtain ⟨t221,A40,H⟩:=H
 replace H:((cmp_Or_int.f k (([t220,t221]:List Int))).bind fun t225=>(some t225))=some r:=H
 have A4:=zz31 A40
 clear A40
 obtain ⟨y222,hy222⟩:∃ y_:List Int,y_=(([t220,t221]:List Int)):=⟨_,rfl⟩
 replace H:((cmp_Or_int.f k y222).bind fun t225=>(some t225))=some r:=by first | (rw [hy222];with_reducible exact H) | (have H2_:=(Option.bind_some _ _).symm.trans H;rw [hy222];with_reducible exact H2_) | (have H2_:=(Option.bind_some _ _).symm.trans H;with_reducible exact H2_) | with_reducible exact H | (rw [hy222];exact H) | exact H
 have Ny222:=zz31 hy222
 clear hy222
 replace H:=zz30.mp H
 obtain ⟨t225,A50,H⟩:=H
 replace H:(some t225)=some r:=H
 have A5:=zz31 A50
 clear A50
 obtain rfl:=Option.some.inj H
 go_enter Try.func65,Try.ntmps65
 try go_wp2_with (first | ((with_reducible refine gate_dst (N:=2) rfl ?_);refine box_event ?hg (N:=2) ?hd (cs:=#[.int .i64 a0_0,.int .i64 a0_1]) (t:=70) ?hr ?_;(case hd=>rfl);(case hg=>rfl);(case hr=>first | (go_simp;done) | (go_simp;rfl));intro gb218 hg w6 hbox hb;have n0_:=zz31 (zz4 (by repeat first | exact HB.out | apply zz2 | apply zz0 | apply zz1) hb);have n1_:=zz31 (hbox);have n2_:=zz31 ((by rw [hg];exact (zz5 (by repeat first | exact HB.out | apply zz2 | apply zz0 | apply zz1)):w.heap.size≤gb218));have n3_:=zz31 ((by rw [hg];exact (zz5 (by repeat first | exact HB.out | apply zz2 | apply zz0 | apply zz1)):w.heap.size≤gb218));clear HB;have HB:=n0_;have BK218:=n1_;have GW218:=n2_;have GE218:=n3_;clear n0_ n1_ n2_ n3_;clear hb hbox hg) | ((with_reducible refine gate_dst (N:=3) rfl ?_);refine box_event ?hg (N:=3) ?hd (cs:=#[.int .i64 a1_0,.int .i64 a1_1]) (t:=70) ?hr ?_;(case hd=>rfl);(case hg=>rfl);(case hr=>first | (go_simp;done) | (go_simp;rfl));intro gb219 hg w7 hbox hb;have n0_:=zz31 (zz11 (g:=gb218) (o:=.cells #[.int .i64 a0_0,.int .i64 a0_1] 70 (0,0)) (by (with_reducible repeat (first | refine zz6 ?_ _ | refine zz7 ?_ | refine zz8 ?_ _));exact BK218.out) hb);have n1_:=zz31 (zz4 (by repeat first | exact HB.out | apply zz2 | apply zz0 | apply zz1 | refine zz3 ?_ GE218.out) hb);have n2_:=zz31 (hbox);have n3_:=zz31 ((by rw [hg];exact (zz5 (by repeat first | exact HB.out | apply zz2 | apply zz0 | apply zz1 | refine zz3 ?_ GE218.out)):w.heap.size≤gb219));have n4_:=zz31 ((by rw [hg];exact (zz5 (by repeat first | exact HB.out | apply zz2 | apply zz0 | apply zz1 | refine zz3 ?_ GE218.out)):w.heap.size≤gb219));have n5_:=zz31 ((by rw [hg];exact Nat.ne_of_lt (blk_lt (g:=gb218) (o:=.cells #[.int .i64 a0_0,.int .i64 a0_1] 70 (0,0)) (by (with_reducible repeat (first | refine zz6 ?_ _ | refine zz7 ?_ | refine zz8 ?_ _));exact BK218.out)):gb218 ≠ gb219));have n6_:=zz31 ((by rw [hg];exact Nat.ne_of_gt (blk_lt (g:=gb218) (o:=.cells #[.int .i64 a0_0,.int .i64 a0_1] 70 (0,0)) (by (with_reducible repeat (first | refine zz6 ?_ _ | refine zz7 ?_ | refine zz8 ?_ _));exact BK218.out)):gb219 ≠ gb218));clear BK218;clear HB;have BK218:=n0_;have HB:=n1_;have BK219:=n2_;have GW219:=n3_;have GE219:=n4_;have NB218_219:=n5_;have NB219_218:=n6_;clear n0_ n1_ n2_ n3_ n4_ n5_ n6_;clear hb hbox hg))
 have n0_:=zz31 (zz7 BK218.out)
 have n1_:=zz31 (zz7 BK219.out)
 have n2_:=zz31 (zz1 HB.out)
 clear BK218
 clear BK219
 clear HB
 have BK218:=n0_
 have BK219:=n1_
 have HB:=n2_
 clear n0_ n1_ n2_
 refine start_ (n:=13) (S:=fun w'=>w'.cell? ⟨gb218,0,none⟩=some (.int .i64 a0_0)∧w'.cell? ⟨gb218,1,none⟩=some (.int .i64 a0_1)∧w'.cell? ⟨gb219,0,none⟩=some (.int .i64 a1_0)∧w'.cell? ⟨gb219,1,none⟩=some (.int .i64 a1_1)) (ds:=[]) #[F,F,F,F,F,F,F,F,F,F,F,F,F] (by kernel_rfl) rfl rfl ⟨(zz9 BK218.out 0).trans rfl,(zz9 BK218.out 1).trans rfl,(zz9 BK219.out 0).trans rfl,(zz9 BK219.out 1).trans rfl⟩ (fun hHeld=>?_);refine with_tabW impl_comparePairs.tab1 impl_comparePairs.bits1 (fun HT_ HW_=>?_)
 generalize w7.drew=w8 at BK218 BK219 HB hHeld ⊢
 refine pure_ (i:=0) (N:=some 5) (v:=?_) (a':=?_) #[T,F,F,F,F,F,F,F,F,F,F,F,F] rfl rfl (any_of HT_.out (by kernel_rfl)) (fun _ _ _ h=>h) (Or.inl ⟨by rfl,?_⟩) ?_ ?_
 rotate_left
 ·intro w'
  go_simp
  with_reducible rfl
 rotate_left
 ·simp only [Act.put,zz21,zz22,zz23,i64_w,i32_w]
  rfl
 refine pure_ (i:=2) (N:=some 7) (v:=?_) (a':=?_) #[T,F,T,F,F,F,F,F,F,F,F,F,F] rfl rfl (any_of HT_.out (by kernel_rfl)) (fun _ _ _ h=>h) (Or.inl ⟨by rfl,?_⟩) ?_ ?_
 rotate_left
 ·intro w'
  go_simp
  with_reducible rfl
 rotate_left
 ·simp only [Act.put,zz21,zz22,zz23,i64_w,i32_w]
  rfl
 refine pure_ (i:=5) (N:=some 10) (v:=?_) (a':=?_) #[T,F,T,F,F,T,F,F,F,F,F,F,F] rfl rfl (any_of HT_.out (by kernel_rfl)) (fun _ _ _ h=>h) (Or.inl ⟨by rfl,?_⟩) ?_ ?_
 rotate_left
 ·intro w'
  go_simp
  with_reducible rfl
 rotate_left
 ·simp only [Act.put,zz21,zz22,zz23,i64_w,i32_w]
  rfl
 refine pure_ (i:=7) (N:=some 12) (v:=?_) (a':=?_) #[T,F,T,F,F,T,F,T,F,F,F,F,F] rfl rfl (any_of HT_.out (by kernel_rfl)) (fun _ _ _ h=>h) (Or.inl ⟨by rfl,?_⟩) ?_ ?_
 rotate_left
 ·intro w'
  go_simp
  with_reducible rfl
 rotate_left
 ·simp only [Act.put,zz21,zz22,zz23,i64_w,i32_w]
  rfl
 refine take_ (i:=1) (N:=some 6) (v:=?_) (a':=?_) #[T,T,T,F,F,T,F,T,F,F,F,F,F] rfl rfl (take_ofW HT_.out HW_.out (by kernel_rfl)) (fun _ _ _ h=>h) (Or.inl ⟨by rfl,?_⟩) hHeld ?_ ?_
 rotate_left
 ·rintro w' ⟨s0,s1,s2,s3⟩
  go_simp
  with_reducible rfl
 rotate_left
 ·simp only [Act.put,zz21,zz22,zz23,i64_w,i32_w]
  rfl
 refine take_ (i:=3) (N:=some 8) (v:=?_) (a':=?_) #[T,T,T,T,F,T,F,T,F,F,F,F,F] rfl rfl (take_ofW HT_.out HW_.out (by kernel_rfl)) (fun _ _ _ h=>h) (Or.inl ⟨by rfl,?_⟩) hHeld ?_ ?_
 rotate_left
 ·rintro w' ⟨s0,s1,s2,s3⟩
  go_simp
  with_reducible rfl
 rotate_left
 ·simp only [Act.put,zz21,zz22,zz23,i64_w,i32_w]
  rfl
 refine take_ (i:=6) (N:=some 11) (v:=?_) (a':=?_) #[T,T,T,T,F,T,T,T,F,F,F,F,F] rfl rfl (take_ofW HT_.out HW_.out (by kernel_rfl)) (fun _ _ _ h=>h) (Or.inl ⟨by rfl,?_⟩) hHeld ?_ ?_
 rotate_left
 ·rintro w' ⟨s0,s1,s2,s3⟩
  go_simp
  with_reducible rfl
 rotate_left
 ·simp only [Act.put,zz21,zz22,zz23,i64_w,i32_w]
  rfl
 refine take_ (i:=8) (N:=some 13) (v:=?_) (a':=?_) #[T,T,T,T,F,T,T,T,T,F,F,F,F] rfl rfl (take_ofW HT_.out HW_.out (by kernel_rfl)) (fun _ _ _ h=>h) (Or.inl ⟨by rfl,?_⟩) hHeld ?_ ?_
 rotate_left
 ·rintro w' ⟨s0,s1,s2,s3⟩
  go_simp
  with_reducible rfl
 rotate_left
 ·simp only [Act.put,zz21,zz22,zz23,i64_w,i32_w]
  rfl
 refine one_ (i:=4) (N:=some 9) #[T,T,T,T,T,T,T,T,T,F,F,F,F] rfl rfl (one_of HT_.out (by kernel_rfl)) (by decide) (fun K hK=>?_)
 refine goes_ Try.func87 (by kernel_rfl) rfl #[.int .i64 a0_0,.int .i64 a1_0] (by rfl) rfl rfl (by (try simp only [zz26,zz27,zz28]);first | done | rfl | (simp only [zz24,zz25];rfl)) ?_
 with_reducible refine (cmp_Compare_int.calls a0_0 a1_0 t220 _ A3.out).mono ?_
 rintro e w' ⟨rfl,⟨nd,rfl⟩⟩
 refine ⟨_,rfl,?_⟩
 refine hK.out _ _ ⟨(zz9 BK218.out 0).trans rfl,(zz9 BK218.out 1).trans rfl,(zz9 BK219.out 0).trans rfl,(zz9 BK219.out 1).trans rfl⟩ (fun hHeld=>?_)
 clear hK K
 refine norm_ (a':=?_) ?_ ?_
 rotate_left
 ·show Act.put _ (some 9) _=_
  simp only [Act.put,zz21,zz22,zz23,i64_w,i32_w]
  rfl
 refine one_ (i:=9) (N:=some 14) #[T,T,T,T,T,T,T,T,T,T,F,F,F] rfl rfl (one_of HT_.out (by kernel_rfl)) (by decide) (fun K hK=>?_)
 refine goes_ Try.func87 (by kernel_rfl) rfl #[.int .i64 a0_1,.int .i64 a1_1] (by rfl) rfl rfl (by (try simp only [zz26,zz27,zz28]);first | done | rfl | (simp only [zz24,zz25];rfl)) ?_
 with_reducible refine (cmp_Compare_int.calls a0_1 a1_1 t221 _ A4.out).mono ?_
 rintro e w' ⟨rfl,⟨nd,rfl⟩⟩
 refine ⟨_,rfl,?_⟩
 refine hK.out _ _ ⟨(zz9 BK218.out 0).trans rfl,(zz9 BK218.out 1).trans rfl,(zz9 BK219.out 0).trans rfl,(zz9 BK219.out 1).trans rfl⟩ (fun hHeld=>?_)
 clear hK K
 refine norm_ (a':=?_) ?_ ?_
 rotate_left
 ·show Act.put _ (some 14) _=_
  simp only [Act.put,zz21,zz22,zz23,i64_w,i32_w]
  rfl
 refine one_ (i:=10) (N:=some 15) #[T,T,T,T,T,T,T,T,T,T,T,F,F] rfl rfl (one_of HT_.out (by kernel_rfl)) (by decide) (fun K hK=>?_)
 refine Kd.R_lit_step (Kd.int .i64) _ 3 ?hg (N:=15) ?hd (xs:=([t220,t221]:List Int)) (inner:=[.int .i64 t220,.int .i64 t221]) (ok:=fun _=>True) (okp:=fun _=>True) ?hr ?hp (fun _ hk=>hk) trivial (Below.refl _ _) (Nat.le_refl _) (by simp) ?_;(case hd=>rfl);(case hg=>rfl);(case hr=>first | (go_simp;done) | (go_simp;rfl));(case hp=>exact (Reps.one (show Kd.M (Kd.int .i64) _ _ _ t220 [.int .i64 t220] from rfl) (Reps.one (show Kd.M (Kd.int .i64) _ _ _ t221 [.int .i64 t221] from rfl) (Reps.none _ _))))
 intro v223 w9 ho10 hb hg_ hnew_
 clear hg_ hnew_
 (first | rw [← Ny222.out] at ho10 | (simp only [Int.reduceToNat] at ho10;rw [← Ny222.out] at ho10))
 have n0_:=zz31 (Kd.R_lower ho10 (zz5 (by repeat first | exact HB.out | apply zz2 | apply zz0 | apply zz1 | refine zz3 ?_ GE218.out | refine zz3 ?_ GE219.out)))
 have n1_:=zz31 (zz11 (g:=gb218) (o:=.cells #[.int .i64 a0_0,.int .i64 a0_1] 70 (0,0)) (by (with_reducible repeat (first | refine zz6 ?_ _ | refine zz7 ?_ | refine zz8 ?_ _));exact BK218.out) hb)
 have n2_:=zz31 (zz11 (g:=gb219) (o:=.cells #[.int .i64 a1_0,.int .i64 a1_1] 70 (0,0)) (by (with_reducible repeat (first | refine zz6 ?_ _ | refine zz7 ?_ | refine zz8 ?_ _));exact BK219.out) hb)
 have n3_:=zz31 (zz4 (by repeat first | exact HB.out | apply zz2 | apply zz0 | apply zz1 | refine zz3 ?_ GE218.out | refine zz3 ?_ GE219.out) hb)
 clear BK218
 clear BK219
 clear HB
 have HO224:=n0_
 have BK218:=n1_
 have BK219:=n2_
 have HB:=n3_
 clear n0_ n1_ n2_ n3_
 clear hb ho10
 obtain ⟨Ao11,co11,eo11⟩:=Kd.R_slice HO224.out
 (first | subst eo11 | (injection eo11 with f1_ f2_ f3_;have f4_:=f1_.symm;have f5_:=f3_.symm;clear f1_ f2_ f3_;subst f4_;subst f5_))
 refine hK.out _ _ ⟨(zz9 BK218.out 0).trans rfl,(zz9 BK218.out 1).trans rfl,(zz9 BK219.out 0).trans rfl,(zz9 BK219.out 1).trans rfl⟩ (fun hHeld=>?_)
 clear hK K
 refine norm_ (a':=?_) ?_ ?_
 rotate_left
 ·show Act.put _ (some 15) _=_
  simp only [Act.put,zz21,zz22,zz23,i64_w,i32_w]
  rfl
 refine one_ (i:=11) (N:=some 16) #[T,T,T,T,T,T,T,T,T,T,T,T,F] rfl rfl (one_of HT_.out (by kernel_rfl)) (by decide) (fun K hK=>?_)
 refine goes_ Try.func86 (by kernel_rfl) rfl #[.slice Ao11 y222.length co11] (by rfl) rfl rfl (by (try simp only [zz26,zz27,zz28]);first | done | rfl | (simp only [zz24,zz25];rfl)) ?_
 with_reducible refine (cmp_Or_int.calls k _ _ y222 t225 _ ?side1 ?side2 A5.out).mono ?_
 (case side1=>repeat (first | exact (Kd.R_reads' HO224.out).2.2 | (with_reducible refine zz18 ?_ _) | (with_reducible refine zz19 ?_ _) | (with_reducible refine zz20 ?_)))
 (case side2=>exact (Kd.R_reads' HO224.out).2.1)
 rintro e w' ⟨rfl,⟨nd,rfl⟩⟩
 refine ⟨_,rfl,?_⟩
 refine hK.out _ _ ⟨(zz9 BK218.out 0).trans rfl,(zz9 BK218.out 1).trans rfl,(zz9 BK219.out 0).trans rfl,(zz9 BK219.out 1).trans rfl⟩ (fun hHeld=>?_)
 clear hK K
 refine norm_ (a':=?_) ?_ ?_
 rotate_left
 ·show Act.put _ (some 16) _=_
  simp only [Act.put,zz21,zz22,zz23,i64_w,i32_w]
  rfl
 refine pure_ (i:=12) (N:=some 4) (v:=?_) (a':=?_) #[T,T,T,T,T,T,T,T,T,T,T,T,T] rfl rfl (any_of HT_.out (by kernel_rfl)) (fun _ _ _ h=>h) (Or.inl ⟨by rfl,?_⟩) ?_ ?_
 rotate_left
 ·intro w'
  go_simp
  with_reducible rfl
 rotate_left
 ·simp only [Act.put,zz21,zz22,zz23,i64_w,i32_w]
  rfl
 refine done_ (done_of HT_.out (by kernel_rfl)) ?_
 try go_wp2
 go_ret
 exact ⟨by first | rfl | (simp [errW_none,errW_some] <;> rfl) | (simp [*,errW_none,errW_some] <;> rfl),by repeat first | exact HB.out | apply zz2 | apply zz0 | apply zz1 | refine zz3 ?_ GE218.out | refine zz3 ?_ GE219.out⟩

/-! ### impl_within: function 89 -/
def impl_within.f (a0:Int) (a1:Int) (a2:Int):Option (Bool):=if a1≤a0 then (some (decide (a0≤a2))) else (some false)
set_option maxHeartbeats 8000000 in
set_option maxRecDepth 100000 in
theorem impl_within.calls (a0:Int) (a1:Int) (a2:Int) (r:Bool) (w:World) (h:impl_within.f a0 a1 a2=some r) :
  Calls Try.prog 89 #[.int .i64 a0,.int .i64 a1,.int .i64 a2] w fun e w'=>e=.returned (.bool r)∧Drawn0 w w':=by
 have H:(if a1≤a0 then (some (decide (a0≤a2))) else (some false))=some r:=h
 clear h
 by_cases c4:a1≤a0
 ·rw [if_pos c4] at H
  have c4b0:decide (a1≤a0)=true:=decide_eq_true c4
  clear c4
  obtain rfl:=Option.some.inj H
  go_enter Try.func89,Try.ntmps89
  go_wp2
  go_ret
  exact ⟨by first | rfl | (simp;done) | (simp [*];done),by repeat (first | exact Drawn0.refl _ | apply Drawn0.step)⟩
 ·rw [if_neg c4] at H
  have c4b0:decide (a1≤a0)=false:=decide_eq_false c4
  clear c4
  obtain rfl:=Option.some.inj H
  go_enter Try.func89,Try.ntmps89
  go_wp2
  go_ret
  exact ⟨by first | rfl | (simp;done) | (simp [*];done),by repeat (first | exact Drawn0.refl _ | apply Drawn0.step)⟩

/-! ### impl_areCrowd: function 76 -/
def impl_areCrowd.f (a0:Int):Option (Bool):=(impl_within.f a0 0 12).bind fun t226=>(some t226)
set_option maxHeartbeats 8000000 in
set_option maxRecDepth 100000 in
theorem impl_areCrowd.calls (a0:Int) (r:Bool) (w:World) (h:impl_areCrowd.f a0=some r) :
  Calls Try.prog 76 #[.int .i64 a0] w fun e w'=>e=.returned (.bool r)∧Drawn0 w w':=by
 have H:((impl_within.f a0 0 12).bind fun t226=>(some t226))=some r:=h
 clear h
 replace H:=zz30.mp H
 obtain ⟨t226,A20,H⟩:=H
 replace H:(some t226)=some r:=H
 have A2:=zz31 A20
 clear A20
 obtain rfl:=Option.some.inj H
 go_enter Try.func76,Try.ntmps76
 go_wp2_with (first | ((with_reducible refine gate_callee (f:=89) rfl ?_);refine goesL_ (some 4) rfl rfl Try.func89 (by kernel_rfl) rfl #[.int .i64 a0,.int .i64 0,.int .i64 12] rfl (by (try simp only [zz26,zz27,zz28]);first | done | rfl | (simp only [zz24,zz25];rfl)) ?_;(with_reducible refine (impl_within.calls a0 0 12 t226 _ A2.out).mono ?_);rintro e w' ⟨rfl,⟨nd,rfl⟩⟩;refine ⟨_,rfl,?_⟩))
 go_ret
 exact ⟨by first | rfl | (simp;done) | (simp [*];done),by repeat (first | exact Drawn0.refl _ | apply Drawn0.step)⟩

end Go.Proofs.Ytoedkkoafidalaa.P
