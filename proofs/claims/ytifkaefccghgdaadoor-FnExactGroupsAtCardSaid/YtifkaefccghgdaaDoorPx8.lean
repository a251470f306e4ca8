-- PRINTED by print.py (a twelfth state) out of the translation. Not trusted: Lean checks it.
import Derived.Test.YtifkaefccghgdaaDoorPx0
import Derived.Test.YtifkaefccghgdaaDoorPx1
import Derived.Test.YtifkaefccghgdaaDoorPx2
import Derived.Test.YtifkaefccghgdaaDoorPx5
import Derived.Test.YtifkaefccghgdaaDoorPx6
import Derived.Test.YtifkaefccghgdaaDoorPx7
import Derived.Test.YtifkaefccghgdaaDoorPx9
import Derived.Test.YtifkaefccghgdaaDoorPx10
namespace Go.Proofs.YtifkaefccghgdaaDoor.P
open Go.RowKit Go.Proofs.YtifkaefccghgdaaDoorW.PrintWords Go.Proofs.YtifkaefccghgdaaDoorW.PrintLast Go.Proofs.YtifkaefccghgdaaDoorW.PrintMore
open Bool renaming true → T, false → F
attribute [local go_sem] max2_int min2_int max_two min_two max_three min_three max_four min_four   -- for this text's walks alone
set_option linter.unusedVariables false
set_option linter.unusedSimpArgs false

/-! ### spec_paHas: function 42 -/
def spec_paHas.f (a0_0:Int) (l0_1:List (S74)) (a1:Int):Option (Bool):=(spec_l1In.f a1 0 (wrap64 (a0_0 - 1))).bind fun t249=>(some t249)
set_option maxHeartbeats 8000000 in
set_option maxRecDepth 100000 in
theorem spec_paHas.calls (a0_0:Int) (A0_1:Option Addr) (c0_1:Nat) (l0_1:List (S74)) (a1:Int) (r:Bool) (w:World) (hr0_1:Kd.C k74 w A0_1 l0_1.length l0_1) (hc0_1:l0_1.length≤c0_1) (h:spec_paHas.f a0_0 l0_1 a1=some r) :
  Calls Tryd.prog 42 #[.agg #[.int .i64 a0_0,.slice A0_1 l0_1.length c0_1],.int .i64 a1] w fun e w'=>e=.returned (.bool r)∧Below w.heap.size w w':=by
 have hu30:=Tryd.underlying30
 have HR0_1:=zz31 hr0_1
 have HC0_1:=zz31 hc0_1
 clear hr0_1 hc0_1
 have HB:=zz31 (Below.refl w.heap.size w)
 have H:((spec_l1In.f a1 0 (wrap64 (a0_0 - 1))).bind fun t249=>(some t249))=some r:=h
 clear h
 replace H:=zz30.mp H
 obtain ⟨t249,A30,H⟩:=H
 replace H:(some t249)=some r:=H
 have A3:=zz31 A30
 clear A30
 obtain rfl:=Option.some.inj H
 go_enter Tryd.func42,Tryd.ntmps42
 go_wp2_with (first | ((with_reducible refine gate_dst (N:=2) rfl ?_);refine box_event ?hg (N:=2) ?hd (cs:=#[.int .i64 a0_0,.slice A0_1 l0_1.length c0_1]) (t:=30) ?hr ?_;(case hd=>rfl);(case hg=>rfl);(case hr=>first | (go_simp;done) | (go_simp;rfl));intro gb248 hg w4 hbox hb;have n0_:=zz31 (zz4 (by repeat first | exact HB.out | apply zz2 | apply zz0 | apply zz1) hb);have n1_:=zz31 (hbox);have n2_:=zz31 ((by rw [hg];exact (zz5 (by repeat first | exact HB.out | apply zz2 | apply zz0 | apply zz1)):w.heap.size≤gb248));have n3_:=zz31 ((by rw [hg];exact (zz5 (by repeat first | exact HB.out | apply zz2 | apply zz0 | apply zz1)):w.heap.size≤gb248));clear HB;have HB:=n0_;have BK248:=n1_;have GW248:=n2_;have GE248:=n3_;clear n0_ n1_ n2_ n3_;clear hb hbox hg;have hcz5_0:w4.cell? ⟨gb248,0,none⟩=some (.int .i64 a0_0):=(zz9 BK248.out 0).trans rfl;have hcz5_1:w4.cell? ⟨gb248,1,none⟩=some (.slice A0_1 l0_1.length c0_1):=(zz9 BK248.out 1).trans rfl;have hfz5_0:=zz10 BK248.out 0;have hfz5_1:=zz10 BK248.out 1) | ((with_reducible refine gate_callee (f:=60) rfl ?_);refine goesL_ (some 9) rfl rfl Tryd.func60 (by kernel_rfl) rfl #[.int .i64 a1,.int .i64 0,.int .i64 (wrap64 (a0_0 - 1))] rfl (by (try simp only [zz26,zz27,zz28]);first | done | rfl | (simp only [zz24,zz25];rfl)) ?_;(with_reducible refine (spec_l1In.calls a1 0 (wrap64 (a0_0 - 1)) t249 _ A3.out).mono ?_);rintro e w' ⟨rfl,⟨nd,rfl⟩⟩;refine ⟨_,rfl,?_⟩))
 go_ret
 exact ⟨by first | rfl | (simp [errW_none,errW_some] <;> rfl) | (simp [*,errW_none,errW_some] <;> rfl),by repeat first | exact HB.out | apply zz2 | apply zz0 | apply zz1 | refine zz3 ?_ GE248.out⟩

/-! ### spec_GroupsAt: function 14 -/
mutual
def spec_GroupsAt.j0:Nat→Int→Bool→Int→List (S74)→Option (Int × Bool)
 | 0,_,_,_,_=>none
 | k+1,x1,x17,x255000,x255001=>if x17=true then (some (0,false)) else ((spec_paTable.f k x255000 x255001).bind fun t257=>((spec_grGroups.f t257).bind fun t260=>(spec_GroupsAt.l0 k x1 0 t260 (t260.length:Int) 0)))
def spec_GroupsAt.l0:Nat→Int→Int→List (List Int)→Int→Int→Option (Int × Bool)
 | 0,_,_,_,_,_=>none
 | k+1,x1,x6,x20,x21,x22=>if x22 < x21 then (if 0≤x22 then (if x22 < (x20.length:Int) then ((spec_l1Has.f k (rd_L5 x20 x22) x1).bind fun t264=>(if t264=true then (spec_GroupsAt.l0 k x1 (wrap64 (x6+1)) x20 x21 (wrap64 (x22+1))) else (spec_GroupsAt.l0 k x1 x6 x20 x21 (wrap64 (x22+1))))) else (none)) else (none)) else (some (x6,true))
end
def spec_GroupsAt.f (k:Nat) (a0_0:Int) (l0_1:List (S74)) (a1:Int):Option (Int × Bool):=(spec_paGood.f k a0_0 l0_1).bind fun t255=>(if t255=true then ((spec_paHas.f a0_0 l0_1 a1).bind fun t256=>(spec_GroupsAt.j0 k a1 (!t256) a0_0 l0_1)) else (spec_GroupsAt.j0 k a1 true a0_0 l0_1))
theorem spec_GroupsAt.mono_l:∀ k,(∀ y0 y1 y2 y3,LeO (spec_GroupsAt.j0 k y0 y1 y2 y3) (spec_GroupsAt.j0 (k+1) y0 y1 y2 y3))∧(∀ y0 y1 y2 y3 y4,LeO (spec_GroupsAt.l0 k y0 y1 y2 y3 y4) (spec_GroupsAt.l0 (k+1) y0 y1 y2 y3 y4))
 | 0=>⟨fun _ _ _ _ r h=>by simp [spec_GroupsAt.j0] at h,fun _ _ _ _ _ r h=>by simp [spec_GroupsAt.l0] at h⟩
 | k+1=>by
  obtain ⟨ih0,ih1⟩:=spec_GroupsAt.mono_l k
  refine ⟨?_,?_⟩
  ·intro y0 y1 y2 y3
   unfold spec_GroupsAt.j0
   repeat' first
   | (with_reducible exact ih0 _ _ _ _)
   | (with_reducible exact ih1 _ _ _ _ _)
   | (with_reducible exact spec_l1Has.mono _ _ _)
   | (with_reducible exact spec_paGood.mono _ _ _)
   | (with_reducible exact spec_paTable.mono _ _ _)
   | (with_reducible exact LeO.refl _)
   | (with_reducible exact LeO.none _)
   | (with_reducible refine LeO.ite ?_ ?_)
   | (with_reducible refine LeO.bind ?_ (fun _=>?_))
   | exact ih0 _ _ _ _
   | exact ih1 _ _ _ _ _
   | exact spec_l1Has.mono _ _ _
   | exact spec_paGood.mono _ _ _
   | exact spec_paTable.mono _ _ _
   | exact LeO.none _
   | refine LeO.ite ?_ ?_
   | refine LeO.bind ?_ (fun _=>?_)
  ·intro y0 y1 y2 y3 y4
   unfold spec_GroupsAt.l0
   repeat' first
   | (with_reducible exact ih0 _ _ _ _)
   | (with_reducible exact ih1 _ _ _ _ _)
   | (with_reducible exact spec_l1Has.mono _ _ _)
   | (with_reducible exact spec_paGood.mono _ _ _)
   | (with_reducible exact spec_paTable.mono _ _ _)
   | (with_reducible exact LeO.refl _)
   | (with_reducible exact LeO.none _)
   | (with_reducible refine LeO.ite ?_ ?_)
   | (with_reducible refine LeO.bind ?_ (fun _=>?_))
   | exact ih0 _ _ _ _
   | exact ih1 _ _ _ _ _
   | exact spec_l1Has.mono _ _ _
   | exact spec_paGood.mono _ _ _
   | exact spec_paTable.mono _ _ _
   | exact LeO.none _
   | refine LeO.ite ?_ ?_
   | refine LeO.bind ?_ (fun _=>?_)
theorem spec_GroupsAt.mono:∀ a0 a1 a2 k,LeO (spec_GroupsAt.f k a0 a1 a2) (spec_GroupsAt.f (k+1) a0 a1 a2):=by
 intro a0 a1 a2 k
 obtain ⟨ih0,ih1⟩:=spec_GroupsAt.mono_l k
 unfold spec_GroupsAt.f
 repeat' first
   | (with_reducible exact ih0 _ _ _ _)
   | (with_reducible exact ih1 _ _ _ _ _)
   | (with_reducible exact spec_l1Has.mono _ _ _)
   | (with_reducible exact spec_paGood.mono _ _ _)
   | (with_reducible exact spec_paTable.mono _ _ _)
   | (with_reducible exact LeO.refl _)
   | (with_reducible exact LeO.none _)
   | (with_reducible refine LeO.ite ?_ ?_)
   | (with_reducible refine LeO.bind ?_ (fun _=>?_))
   | exact ih0 _ _ _ _
   | exact ih1 _ _ _ _ _
   | exact spec_l1Has.mono _ _ _
   | exact spec_paGood.mono _ _ _
   | exact spec_paTable.mono _ _ _
   | exact LeO.none _
   | refine LeO.ite ?_ ?_
   | refine LeO.bind ?_ (fun _=>?_)
set_option maxHeartbeats 8000000 in
set_option maxRecDepth 100000 in
theorem spec_GroupsAt.calls (k:Nat) (a0_0:Int) (A0_1:Option Addr) (c0_1:Nat) (l0_1:List (S74)) (a1:Int) (r1:Int) (r2:Bool) (w:World) (hr0_1:Kd.C k74 w A0_1 l0_1.length l0_1) (hc0_1:l0_1.length≤c0_1) (h:spec_GroupsAt.f k a0_0 l0_1 a1=some (r1,r2)) :
  Calls Tryd.prog 14 #[.agg #[.int .i64 a0_0,.slice A0_1 l0_1.length c0_1],.int .i64 a1] w fun e w'=>e=.returned (.tuple #[.int .i64 r1,.bool r2])∧Below w.heap.size w w':=by
 have hu30:=Tryd.underlying30
 have HR0_1:=zz31 hr0_1
 have HC0_1:=zz31 hc0_1
 clear hr0_1 hc0_1
 have HB:=zz31 (Below.refl w.heap.size w)
 have H:((spec_paGood.f k a0_0 l0_1).bind fun t255=>(if t255=true then ((spec_paHas.f a0_0 l0_1 a1).bind fun t256=>(spec_GroupsAt.j0 k a1 (!t256) a0_0 l0_1)) else (spec_GroupsAt.j0 k a1 true a0_0 l0_1)))=some (r1,r2):=h
 clear h
 have HC3:=zz31 H
 clear H
 go_enter Tryd.func14,Tryd.ntmps14
 go_upto_region 1 with (first | ((with_reducible refine gate_dst (N:=2) rfl ?_);refine box_event ?hg (N:=2) ?hd (cs:=#[.int .i64 a0_0,.slice A0_1 l0_1.length c0_1]) (t:=30) ?hr ?_;(case hd=>rfl);(case hg=>rfl);(case hr=>first | (go_simp;done) | (go_simp;rfl));intro gb254 hg w4 hbox hb;have n0_:=zz31 (zz4 (by repeat first | exact HB.out | apply zz2 | apply zz0 | apply zz1) hb);have n1_:=zz31 (hbox);have n2_:=zz31 ((by rw [hg];exact (zz5 (by repeat first | exact HB.out | apply zz2 | apply zz0 | apply zz1)):w.heap.size≤gb254));have n3_:=zz31 ((by rw [hg];exact (zz5 (by repeat first | exact HB.out | apply zz2 | apply zz0 | apply zz1)):w.heap.size≤gb254));clear HB;have HB:=n0_;have BK254:=n1_;have GW254:=n2_;have GE254:=n3_;clear n0_ n1_ n2_ n3_;clear hb hbox hg))
 (try simp only [Act.put,zz21,zz22,zz23])
 go_cut [17] (fun v17 wc=>∃ (kq:Nat) (x17_2:Bool),v17=.bool x17_2∧Aside0 (spec_GroupsAt.j0 kq a1 x17_2 a0_0 l0_1=some (r1,r2))∧Aside0 (kq≤k)∧Aside0 (wc.heap[gb254]?=some (.cells #[.int .i64 a0_0,(.slice A0_1 l0_1.length c0_1)] 30 (0,0)))∧Aside0 (Below w.heap.size w wc))
 case first =>
  have H:=HC3.out
  clear HC3
  replace H:=zz30.mp H
  obtain ⟨t255,A50,H⟩:=H
  replace H:(if t255=true then ((spec_paHas.f a0_0 l0_1 a1).bind fun t256=>(spec_GroupsAt.j0 k a1 (!t256) a0_0 l0_1)) else (spec_GroupsAt.j0 k a1 true a0_0 l0_1))=some (r1,r2):=H
  have A5:=zz31 A50
  clear A50
  by_cases c6:t255=true
  ·subst c6
   have H1:((spec_paHas.f a0_0 l0_1 a1).bind fun t256=>(spec_GroupsAt.j0 k a1 (!t256) a0_0 l0_1))=some (r1,r2):=by rw [if_pos rfl] at H;exact H
   clear H
   have H:=H1
   clear H1
   replace H:=zz30.mp H
   obtain ⟨t256,A70,H⟩:=H
   replace H:(spec_GroupsAt.j0 k a1 (!t256) a0_0 l0_1)=some (r1,r2):=H
   have A7:=zz31 A70
   clear A70
   have H':=zz31 H
   clear H
   have hcz8_0:w4.cell? ⟨gb254,0,none⟩=some (.int .i64 a0_0):=(zz9 BK254.out 0).trans rfl
   have hcz8_1:w4.cell? ⟨gb254,1,none⟩=some (.slice A0_1 l0_1.length c0_1):=(zz9 BK254.out 1).trans rfl
   have hfz8_0:=zz10 BK254.out 0
   have hfz8_1:=zz10 BK254.out 1
   go_wp2_with (first | ((with_reducible refine gate_callee (f:=30) rfl ?_);refine goesL_ (some 10) rfl rfl Tryd.func30 (by kernel_rfl) rfl #[.agg #[.int .i64 a0_0,.slice A0_1 l0_1.length c0_1]] rfl (by (try simp only [zz26,zz27,zz28]);first | done | rfl | (simp only [zz24,zz25];rfl)) ?_;(with_reducible refine (spec_paGood.calls k a0_0 _ _ l0_1 true _ ?side1 ?side2 A5.out).mono ?_);(case side1=>repeat (first | exact (Kd.C_below HR0_1.out HB.out) | (with_reducible refine zz18 ?_ _) | (with_reducible refine zz19 ?_ _) | (with_reducible refine zz20 ?_)));(case side2=>exact HC0_1.out);rintro e w9 ⟨rfl,hb⟩;refine ⟨_,rfl,?_⟩;have n0_:=zz31 (zz11 (g:=gb254) (o:=.cells #[.int .i64 a0_0,.slice A0_1 l0_1.length c0_1] 30 (0,0)) (by (with_reducible repeat (first | refine zz6 ?_ _ | refine zz7 ?_ | refine zz8 ?_ _));exact BK254.out) hb);have n1_:=zz31 (zz4 (by repeat first | exact HB.out | apply zz2 | apply zz0 | apply zz1 | refine zz3 ?_ GE254.out) hb);clear BK254;clear HB;have BK254:=n0_;have HB:=n1_;clear n0_ n1_;(try clear hb);(try clear hb2);(try clear hk);(try clear hi);have hcz10_0:w9.cell? ⟨gb254,0,none⟩=some (.int .i64 a0_0):=(zz9 BK254.out 0).trans rfl;have hcz10_1:w9.cell? ⟨gb254,1,none⟩=some (.slice A0_1 l0_1.length c0_1):=(zz9 BK254.out 1).trans rfl;have hfz10_0:=zz10 BK254.out 0;have hfz10_1:=zz10 BK254.out 1) | (go_at_call 42;(with_reducible refine (spec_paHas.calls a0_0 _ _ l0_1 a1 t256 _ ?side1 ?side2 A7.out).mono ?_);(case side1=>repeat (first | exact (Kd.C_below HR0_1.out HB.out) | (with_reducible refine zz18 ?_ _) | (with_reducible refine zz19 ?_ _) | (with_reducible refine zz20 ?_)));(case side2=>exact HC0_1.out);rintro e w11 ⟨rfl,hb⟩;have n0_:=zz31 (zz11 (g:=gb254) (o:=.cells #[.int .i64 a0_0,.slice A0_1 l0_1.length c0_1] 30 (0,0)) (by (with_reducible repeat (first | refine zz6 ?_ _ | refine zz7 ?_ | refine zz8 ?_ _));exact BK254.out) hb);have n1_:=zz31 (zz4 (by repeat first | exact HB.out | apply zz2 | apply zz0 | apply zz1 | refine zz3 ?_ GE254.out) hb);clear BK254;clear HB;have BK254:=n0_;have HB:=n1_;clear n0_ n1_;(try clear hb);(try clear hb2);(try clear hk);(try clear hi)))
   go_meet
   case rel=>exact ⟨_,(!t256),(by first | rfl | (simp;done) | (simp [*];done)),H',⟨by first | omega | exact Nat.le_refl _⟩,⟨by (with_reducible repeat (first | refine zz6 ?_ _ | refine zz7 ?_ | refine zz8 ?_ _));exact BK254.out⟩,⟨by repeat first | exact HB.out | apply zz2 | apply zz0 | apply zz1 | refine zz3 ?_ GE254.out⟩⟩
  ·replace c6:=Bool.eq_false_iff.mpr c6
   subst c6
   have H1:(spec_GroupsAt.j0 k a1 true a0_0 l0_1)=some (r1,r2):=by rw [if_neg (show ¬ (false=true) by decide)] at H;exact H
   clear H
   have H:=H1
   clear H1
   have H':=zz31 H
   clear H
   have hcz12_0:w4.cell? ⟨gb254,0,none⟩=some (.int .i64 a0_0):=(zz9 BK254.out 0).trans rfl
   have hcz12_1:w4.cell? ⟨gb254,1,none⟩=some (.slice A0_1 l0_1.length c0_1):=(zz9 BK254.out 1).trans rfl
   have hfz12_0:=zz10 BK254.out 0
   have hfz12_1:=zz10 BK254.out 1
   go_wp2_with (first | ((with_reducible refine gate_callee (f:=30) rfl ?_);refine goesL_ (some 10) rfl rfl Tryd.func30 (by kernel_rfl) rfl #[.agg #[.int .i64 a0_0,.slice A0_1 l0_1.length c0_1]] rfl (by (try simp only [zz26,zz27,zz28]);first | done | rfl | (simp only [zz24,zz25];rfl)) ?_;(with_reducible refine (spec_paGood.calls k a0_0 _ _ l0_1 false _ ?side1 ?side2 A5.out).mono ?_);(case side1=>repeat (first | exact (Kd.C_below HR0_1.out HB.out) | (with_reducible refine zz18 ?_ _) | (with_reducible refine zz19 ?_ _) | (with_reducible refine zz20 ?_)));(case side2=>exact HC0_1.out);rintro e w13 ⟨rfl,hb⟩;refine ⟨_,rfl,?_⟩;have n0_:=zz31 (zz11 (g:=gb254) (o:=.cells #[.int .i64 a0_0,.slice A0_1 l0_1.length c0_1] 30 (0,0)) (by (with_reducible repeat (first | refine zz6 ?_ _ | refine zz7 ?_ | refine zz8 ?_ _));exact BK254.out) hb);have n1_:=zz31 (zz4 (by repeat first | exact HB.out | apply zz2 | apply zz0 | apply zz1 | refine zz3 ?_ GE254.out) hb);clear BK254;clear HB;have BK254:=n0_;have HB:=n1_;clear n0_ n1_;(try clear hb);(try clear hb2);(try clear hk);(try clear hi)))
   go_meet
   case rel=>exact ⟨_,(true),(by first | rfl | (simp;done) | (simp [*];done)),H',⟨by first | omega | exact Nat.le_refl _⟩,⟨by (with_reducible repeat (first | refine zz6 ?_ _ | refine zz7 ?_ | refine zz8 ?_ _));exact BK254.out⟩,⟨by repeat first | exact HB.out | apply zz2 | apply zz0 | apply zz1 | refine zz3 ?_ GE254.out⟩⟩
 case rest =>
  clear HC3
  try clear c1
  try clear p2
  try clear c3
  try clear c6
  try clear hcz10_0
  try clear hcz10_1
  try clear hcz12_0
  try clear hcz12_1
  try clear hcz8_0
  try clear hcz8_1
  try clear hfz10_0
  try clear hfz10_1
  try clear hfz12_0
  try clear hfz12_1
  try clear hfz8_0
  try clear hfz8_1
  obtain ⟨kq,x17_2,rfl,HA,HJ2,BK254,HB⟩:=hcut
  cases kq with
  | zero=>exact absurd HA.out (by simp [spec_GroupsAt.j0])
  | succ kj2 =>
   have H:=HA.out
   clear HA
   simp only [spec_GroupsAt.j0] at H
   by_cases c14:x17_2=true
   ·subst c14
    have H1:(some (0,false))=some (r1,r2):=by rw [if_pos rfl] at H;exact H
    clear H
    have H:=H1
    clear H1
    simp only [Option.some.injEq,Prod.mk.injEq] at H
    obtain ⟨rfl,rfl⟩:=H
    go_wp2
    go_ret2
    exact ⟨by first | rfl | (simp [errW_none,errW_some] <;> rfl) | (simp [*,errW_none,errW_some] <;> rfl),by repeat first | exact HB.out | apply zz2 | apply zz0 | apply zz1 | refine zz3 ?_ GE254.out⟩
   ·replace c14:=Bool.eq_false_iff.mpr c14
    subst c14
    have H1:((spec_paTable.f kj2 a0_0 l0_1).bind fun t257=>((spec_grGroups.f t257).bind fun t260=>(spec_GroupsAt.l0 kj2 a1 0 t260 (t260.length:Int) 0)))=some (r1,r2):=by rw [if_neg (show ¬ (false=true) by decide)] at H;exact H
    clear H
    have H:=H1
    clear H1
    replace H:=zz30.mp H
    obtain ⟨t257,A150,H⟩:=H
    replace H:((spec_grGroups.f t257).bind fun t260=>(spec_GroupsAt.l0 kj2 a1 0 t260 (t260.length:Int) 0))=some (r1,r2):=H
    have A15:=zz31 A150
    clear A150
    replace H:=zz30.mp H
    obtain ⟨t260,A160,H⟩:=H
    replace H:(spec_GroupsAt.l0 kj2 a1 0 t260 (t260.length:Int) 0)=some (r1,r2):=H
    have A16:=zz31 A160
    clear A160
    have H':=zz31 H
    clear H
    have hcz17_0:wc.cell? ⟨gb254,0,none⟩=some (.int .i64 a0_0):=(zz9 BK254.out 0).trans rfl
    have hcz17_1:wc.cell? ⟨gb254,1,none⟩=some (.slice A0_1 l0_1.length c0_1):=(zz9 BK254.out 1).trans rfl
    have hfz17_0:=zz10 BK254.out 0
    have hfz17_1:=zz10 BK254.out 1
    go_wp2_with (first | ((with_reducible refine gate_callee (f:=33) rfl ?_);refine goesL_ (some 19) rfl rfl Tryd.func33 (by kernel_rfl) rfl #[.agg #[.int .i64 a0_0,.slice A0_1 l0_1.length c0_1]] rfl (by (try simp only [zz26,zz27,zz28]);first | done | rfl | (simp only [zz24,zz25];rfl)) ?_;(with_reducible refine (spec_paTable.calls kj2 a0_0 _ _ l0_1 t257 _ ?side1 ?side2 A15.out).mono ?_);(case side1=>repeat (first | exact (Kd.C_below HR0_1.out HB.out) | (with_reducible refine zz18 ?_ _) | (with_reducible refine zz19 ?_ _) | (with_reducible refine zz20 ?_)));(case side2=>exact HC0_1.out);rintro e w18 ⟨v258,rfl,ho0,hb⟩;refine ⟨_,rfl,?_⟩;have n0_:=zz31 (Kd.S_lower ho0 (zz5 (by repeat first | exact HB.out | apply zz2 | apply zz0 | apply zz1 | refine zz3 ?_ GE254.out)));have n1_:=zz31 (zz11 (g:=gb254) (o:=.cells #[.int .i64 a0_0,.slice A0_1 l0_1.length c0_1] 30 (0,0)) (by (with_reducible repeat (first | refine zz6 ?_ _ | refine zz7 ?_ | refine zz8 ?_ _));exact BK254.out) hb);have n2_:=zz31 (zz4 (by repeat first | exact HB.out | apply zz2 | apply zz0 | apply zz1 | refine zz3 ?_ GE254.out) hb);clear BK254;clear HB;have HO259:=n0_;have BK254:=n1_;have HB:=n2_;clear n0_ n1_ n2_;(try clear hb);(try clear hb2);(try clear hk);(try clear hi);(try clear ho0);obtain ⟨Ao19,co19,eo19⟩:=Kd.S_slice HO259.out;subst eo19) | ((with_reducible refine gate_callee (f:=43) rfl ?_);refine goesL_ (some 20) rfl rfl Tryd.func43 (by kernel_rfl) rfl #[.slice Ao19 t257.length co19] rfl (by (try simp only [zz26,zz27,zz28]);first | done | rfl | (simp only [zz24,zz25];rfl)) ?_;(with_reducible refine (spec_grGroups.calls _ _ t257 t260 _ ?side1 ?side2 A16.out).mono ?_);(case side1=>repeat (first | exact (Kd.S_reads' HO259.out).2.2 | (with_reducible refine zz18 ?_ _) | (with_reducible refine zz19 ?_ _) | (with_reducible refine zz20 ?_)));(case side2=>exact (Kd.S_reads' HO259.out).2.1);rintro e w20 ⟨v261,rfl,ho0,hb⟩;refine ⟨_,rfl,?_⟩;have n0_:=zz31 (Kd.S_below (by (with_reducible repeat (first | apply zz15 | apply zz16 | apply zz17));exact HO259.out) hb);have n1_:=zz31 (Kd.S_lower ho0 (zz5 (by repeat first | exact HB.out | apply zz2 | apply zz0 | apply zz1 | refine zz3 ?_ GE254.out)));have n2_:=zz31 (zz11 (g:=gb254) (o:=.cells #[.int .i64 a0_0,.slice A0_1 l0_1.length c0_1] 30 (0,0)) (by (with_reducible repeat (first | refine zz6 ?_ _ | refine zz7 ?_ | refine zz8 ?_ _));exact BK254.out) hb);have n3_:=zz31 (zz4 (by repeat first | exact HB.out | apply zz2 | apply zz0 | apply zz1 | refine zz3 ?_ GE254.out) hb);clear HO259;clear BK254;clear HB;have HO259:=n0_;have HO262:=n1_;have BK254:=n2_;have HB:=n3_;clear n0_ n1_ n2_ n3_;(try clear hb);(try clear hb2);(try clear hk);(try clear hi);(try clear ho0);obtain ⟨Ao21,co21,eo21⟩:=Kd.S_slice HO262.out;subst eo21))
    go_loopg [6,22] kj2 (fun kq v6 v22 w'=>∃ (x6_2:Int) (x22_2:Int),v6=.int .i64 x6_2∧v22=.int .i64 x22_2∧Aside0 (spec_GroupsAt.l0 kq a1 x6_2 t260 (t260.length:Int) x22_2=some (r1,r2))∧Aside0 (kq≤kj2)∧Aside0 (Kd.S (Kd.slice 3 (Kd.int .i64)) 34 w' w.heap.size (fun _=>True) (.slice Ao21 t260.length co21) t260)∧Aside0 (w'.heap[gb254]?=some (.cells #[.int .i64 a0_0,(.slice A0_1 l0_1.length c0_1)] 30 (0,0)))∧Aside0 (Below w.heap.size w w'))
    case atStart=>exact ⟨(0),(0),(by first | rfl | (simp;done) | (simp [*];done)),(by first | rfl | (simp;done) | (simp [*];done)),H',⟨Nat.le_refl _⟩,⟨by (with_reducible repeat (first | apply zz15 | apply zz16 | apply zz17));exact HO262.out⟩,⟨by (with_reducible repeat (first | refine zz6 ?_ _ | refine zz7 ?_ | refine zz8 ?_ _));exact BK254.out⟩,⟨by repeat first | exact HB.out | apply zz2 | apply zz0 | apply zz1 | refine zz3 ?_ GE254.out⟩⟩
    case round =>
     clear H'
     try clear c1
     try clear p2
     try clear c3
     try clear c4
     try clear c6
     try clear c14
     try clear hcz10_0
     try clear hcz10_1
     try clear hcz12_0
     try clear hcz12_1
     try clear hcz17_0
     try clear hcz17_1
     try clear hcz8_0
     try clear hcz8_1
     try clear hfz10_0
     try clear hfz10_1
     try clear hfz12_0
     try clear hfz12_1
     try clear hfz17_0
     try clear hfz17_1
     try clear hfz8_0
     try clear hfz8_1
     try clear p2
     obtain ⟨x6_2,x22_2,rfl,rfl,HA,HK2,HO_20,BK254,HB⟩:=hrel
     cases gk with
     | zero=>exact absurd HA.out (by simp [spec_GroupsAt.l0])
     | succ k2 =>
      have H:=HA.out
      clear HA
      simp only [spec_GroupsAt.l0] at H
      by_cases c22:x22_2 < (t260.length:Int)
      ·rw [if_pos c22] at H
       have c22b0:decide (x22_2 < (t260.length:Int))=true:=decide_eq_true c22
       clear c22
       by_cases c23:0≤x22_2
       ·rw [if_pos c23] at H
        have c23b0:decide (0≤x22_2)=true:=decide_eq_true c23
        clear c23
        by_cases c24:x22_2 < (t260.length:Int)
        ·rw [if_pos c24] at H
         have c24b0:decide (x22_2 < (t260.length:Int))=true:=decide_eq_true c24
         clear c24
         replace H:=zz30.mp H
         obtain ⟨t264,A250,H⟩:=H
         replace H:(if t264=true then (spec_GroupsAt.l0 k2 a1 (wrap64 (x6_2+1)) t260 (t260.length:Int) (wrap64 (x22_2+1))) else (spec_GroupsAt.l0 k2 a1 x6_2 t260 (t260.length:Int) (wrap64 (x22_2+1))))=some (r1,r2):=H
         have A25:=zz31 A250
         clear A250
         by_cases c26:t264=true
         ·subst c26
          have H1:(spec_GroupsAt.l0 k2 a1 (wrap64 (x6_2+1)) t260 (t260.length:Int) (wrap64 (x22_2+1)))=some (r1,r2):=by rw [if_pos rfl] at H;exact H
          clear H
          have H:=H1
          clear H1
          have H':=zz31 H
          clear H
          have p263:0≤(x22_2:Int):=zz29 (by first | (with_reducible assumption) | assumption)
          have q263:x22_2 < (t260.length:Int):=zz29 (by first | (with_reducible assumption) | assumption)
          obtain ⟨ad263,A263_0,c263_0,e263,hx263_0,hl263_0,hi263_0⟩:=at_L5 (Kd.S_reads' HO_20.out).2.2 x22_2 p263 q263
          cases e263
          obtain ⟨ce263,hce263,hMe263,hcc263⟩:=Kd.S_get HO_20.out [] x22_2 p263 (by first | exact q263 | exact zz29 (by first | (with_reducible assumption) | assumption) | (have e_:=(Kd.S_reads' HO_20.out).1;omega))
          obtain ⟨ve263_0,rfl,ge263_0⟩:=hMe263
          have hv263_0:=hcc263 0 _ rfl
          rw [Nat.add_zero,show ((Kd.slice 3 (Kd.int .i64))).sz=1 from rfl,Nat.mul_one] at hv263_0
          replace hv263_0:=Option.some.inj (hv263_0.symm.trans hx263_0)
          rw [hv263_0] at ge263_0
          have HL263_0:=zz31 (show Kd.R (Kd.int .i64) 3 _ _ _ _ (rd_L5 t260 x22_2) from ge263_0)
          clear hv263_0 ge263_0
          clear hcc263 hce263
          have HR263_0:=zz31 hi263_0
          have HC263_0:=zz31 hl263_0
          clear hi263_0 hl263_0
          replace p263:=eq_true p263
          replace q263:=eq_true q263
          go_wp2_with (first | ((with_reducible refine gate_callee (f:=44) rfl ?_);refine goesL_ (some 28) rfl rfl Tryd.func44 (by kernel_rfl) rfl #[.slice A263_0 (rd_L5 t260 x22_2).length c263_0,.int .i64 a1] rfl (by (try simp only [zz26,zz27,zz28]);first | done | rfl | (simp only [zz24,zz25];rfl)) ?_;(with_reducible refine (spec_l1Has.calls k2 _ _ (rd_L5 t260 x22_2) a1 true _ ?side1 ?side2 A25.out).mono ?_);(case side1=>repeat (first | exact (by repeat (first | (with_reducible exact HR263_0.out) | (with_reducible refine zz18 ?_ _) | (with_reducible refine zz19 ?_ _) | (with_reducible refine zz20 ?_) | exact HR263_0.out)) | (with_reducible refine zz18 ?_ _) | (with_reducible refine zz19 ?_ _) | (with_reducible refine zz20 ?_)));(case side2=>exact HC263_0.out);rintro e w' ⟨rfl,⟨nd,rfl⟩⟩;refine ⟨_,rfl,?_⟩))
          go_roundg k2
          case measure=>have:=HJ2.out;have:=HK2.out;omega
          case rel=>exact ⟨(wrap64 (x6_2+1)),(wrap64 (x22_2+1)),(by first | rfl | (simp;done) | (simp [*];done)),(by first | rfl | (simp;done) | (simp [*];done)),H',⟨by have:=HJ2.out;have:=HK2.out;omega⟩,⟨by (with_reducible repeat (first | apply zz15 | apply zz16 | apply zz17));exact HO_20.out⟩,⟨by (with_reducible repeat (first | refine zz6 ?_ _ | refine zz7 ?_ | refine zz8 ?_ _));exact BK254.out⟩,⟨by repeat first | exact HB.out | apply zz2 | apply zz0 | apply zz1 | refine zz3 ?_ GE254.out⟩⟩
         ·replace c26:=Bool.eq_false_iff.mpr c26
          subst c26
          have H1:(spec_GroupsAt.l0 k2 a1 x6_2 t260 (t260.length:Int) (wrap64 (x22_2+1)))=some (r1,r2):=by rw [if_neg (show ¬ (false=true) by decide)] at H;exact H
          clear H
          have H:=H1
          clear H1
          have H':=zz31 H
          clear H
          have p263:0≤(x22_2:Int):=zz29 (by first | (with_reducible assumption) | assumption)
          have q263:x22_2 < (t260.length:Int):=zz29 (by first | (with_reducible assumption) | assumption)
          obtain ⟨ad263,A263_0,c263_0,e263,hx263_0,hl263_0,hi263_0⟩:=at_L5 (Kd.S_reads' HO_20.out).2.2 x22_2 p263 q263
          cases e263
          obtain ⟨ce263,hce263,hMe263,hcc263⟩:=Kd.S_get HO_20.out [] x22_2 p263 (by first | exact q263 | exact zz29 (by first | (with_reducible assumption) | assumption) | (have e_:=(Kd.S_reads' HO_20.out).1;omega))
          obtain ⟨ve263_0,rfl,ge263_0⟩:=hMe263
          have hv263_0:=hcc263 0 _ rfl
          rw [Nat.add_zero,show ((Kd.slice 3 (Kd.int .i64))).sz=1 from rfl,Nat.mul_one] at hv263_0
          replace hv263_0:=Option.some.inj (hv263_0.symm.trans hx263_0)
          rw [hv263_0] at ge263_0
          have HL263_0:=zz31 (show Kd.R (Kd.int .i64) 3 _ _ _ _ (rd_L5 t260 x22_2) from ge263_0)
          clear hv263_0 ge263_0
          clear hcc263 hce263
          have HR263_0:=zz31 hi263_0
          have HC263_0:=zz31 hl263_0
          clear hi263_0 hl263_0
          replace p263:=eq_true p263
          replace q263:=eq_true q263
          go_wp2_with (first | ((with_reducible refine gate_callee (f:=44) rfl ?_);refine goesL_ (some 28) rfl rfl Tryd.func44 (by kernel_rfl) rfl #[.slice A263_0 (rd_L5 t260 x22_2).length c263_0,.int .i64 a1] rfl (by (try simp only [zz26,zz27,zz28]);first | done | rfl | (simp only [zz24,zz25];rfl)) ?_;(with_reducible refine (spec_l1Has.calls k2 _ _ (rd_L5 t260 x22_2) a1 false _ ?side1 ?side2 A25.out).mono ?_);(case side1=>repeat (first | exact (by repeat (first | (with_reducible exact HR263_0.out) | (with_reducible refine zz18 ?_ _) | (with_reducible refine zz19 ?_ _) | (with_reducible refine zz20 ?_) | exact HR263_0.out)) | (with_reducible refine zz18 ?_ _) | (with_reducible refine zz19 ?_ _) | (with_reducible refine zz20 ?_)));(case side2=>exact HC263_0.out);rintro e w' ⟨rfl,⟨nd,rfl⟩⟩;refine ⟨_,rfl,?_⟩))
          go_roundg k2
          case measure=>have:=HJ2.out;have:=HK2.out;omega
          case rel=>exact ⟨(x6_2),(wrap64 (x22_2+1)),(by first | rfl | (simp;done) | (simp [*];done)),(by first | rfl | (simp;done) | (simp [*];done)),H',⟨by have:=HJ2.out;have:=HK2.out;omega⟩,⟨by (with_reducible repeat (first | apply zz15 | apply zz16 | apply zz17));exact HO_20.out⟩,⟨by (with_reducible repeat (first | refine zz6 ?_ _ | refine zz7 ?_ | refine zz8 ?_ _));exact BK254.out⟩,⟨by repeat first | exact HB.out | apply zz2 | apply zz0 | apply zz1 | refine zz3 ?_ GE254.out⟩⟩
        ·rw [if_neg c24] at H
         exact absurd H (by simp)
       ·rw [if_neg c23] at H
        exact absurd H (by simp)
      ·rw [if_neg c22] at H
       have c22b0:decide (x22_2 < (t260.length:Int))=false:=decide_eq_false c22
       clear c22
       simp only [Option.some.injEq,Prod.mk.injEq] at H
       obtain ⟨rfl,rfl⟩:=H
       go_wp2
       go_ret2
       exact ⟨by first | rfl | (simp [errW_none,errW_some] <;> rfl) | (simp [*,errW_none,errW_some] <;> rfl),by repeat first | exact HB.out | apply zz2 | apply zz0 | apply zz1 | refine zz3 ?_ GE254.out⟩

-- NOT PRINTED: function 86 (impl_areWithin_1)

/-! ### impl_areWithin: function 71 (a contract of our own) -/
/-- A function value g (bound to lb) answers p at every whole number, in every later world; it may draw; it makes nothing. -/
def PredI (g:Nat) (lb:Array Value) (p:Int→Bool) (w:World):Prop :=
 ∀ (W:World) (x:Int),Below w.heap.size w W→Calls Tryd.prog g (#[.int .i64 x] ++ lb) W fun e w'=>e=.returned (.bool (p x))∧∃ q,w'=W.drewN q
/-- slices.IndexFunc at whole numbers, whatever the predicate: the place of the first element at which it holds, or -1. -/
def idxP (p:Int→Bool):List Int→Int
 | []=>-1
 | x :: xs=>if p x then 0 else if idxP p xs < 0 then -1 else idxP p xs+1
theorem idxP_hit (p:Int→Bool):∀ (xs:List Int) (k:Nat),k < xs.length→(∀ j,j < k→p (xs.getD j 0)=false)→p (xs.getD k 0)=true→idxP p xs=k
 | [],k,h,_,_=>by simp at h
 | x :: xs,0,_,_,hp=>by simp at hp;simp [idxP,hp]
 | x :: xs,k+1,h,hn,hp=>by
  have h0:=hn 0 (by omega)
  have ih:=idxP_hit p xs k (by simpa using h) (fun j hj=>by have:=hn (j+1) (by omega);simpa using this) (by simpa using hp)
  simp at h0
  simp [idxP,h0,ih];omega
theorem idxP_miss (p:Int→Bool):∀ (xs:List Int),(∀ j,j < xs.length→p (xs.getD j 0)=false)→idxP p xs=-1
 | [],_=>rfl
 | x :: xs,hn=>by
  have h0:=hn 0 (by simp)
  have ih:=idxP_miss p xs (fun j hj=>by have:=hn (j+1) (by simpa using hj);simpa using this)
  simp at h0
  simp [idxP,h0,ih]
theorem idxP_nonneg (p:Int→Bool) (xs:List Int):decide (0≤idxP p xs)=xs.any p:=by
 induction xs with
 | nil=>rfl
 | cons x xs ih =>
  simp only [idxP,List.any_cons,← ih]
  by_cases h:p x=true
  ·simp [h]
  ·by_cases h2:idxP p xs < 0
   ·have:¬ 0≤idxP p xs:=by omega
    simp [h,h2,this]
   ·have h3:0≤idxP p xs:=by omega
    have h4:0≤idxP p xs+1:=by omega
    simp [h,h2,h3,h4]
set_option maxHeartbeats 2000000 in
theorem idxInt_with (p:Int→Bool) (g:Nat) (lb:Array Value) (eg:∀ args w,(callFunc g args).run Tryd.prog w=.ok (.enter g args) w) (A0:Option Addr) (c0:Nat) (l0:List Int) (w:World)
  (hp:PredI g lb p w) (hr0:Kd.C (Kd.int .i64) w A0 l0.length l0) :
  Calls Tryd.prog 81 #[.slice A0 l0.length c0,.func (.func g) #[] lb] w fun e w'=>e=.returned (.int .i64 (idxP p l0))∧∃ q,w'=w.drewN q:=by
 have hpAt:∀ (x:Int) (q:Nat),Calls Tryd.prog g (#[.int .i64 x] ++ lb) (w.drewN q) fun e w'=>e=.returned (.bool (p x))∧∃ q',w'=(w.drewN q).drewN q':=fun x q=>hp _ x (zz0 (Below.refl _ w) q)
 have HR0:=zz31 hr0
 have hbig:l0.length≤9223372036854775807:=hr0.2.1
 clear hp hr0
 go_enter Tryd.func81,Tryd.ntmps81
 go_wp2
 go_loopg [5,8] l0.length (fun gg _ s8 wr=>∃ kk q:Nat,kk≤l0.length∧l0.length - kk≤gg∧s8=.int .i64 kk∧wr=w.drewN q∧Aside0 (∀ j,j < kk→p (l0.getD j 0)=false))
 case atStart=>exact ⟨0,0,Nat.zero_le _,by omega,rfl,rfl,⟨fun j hj=>absurd hj (Nat.not_lt_zero _)⟩⟩
 case round =>
  obtain ⟨kk,q,hkk,hg,rfl,rfl,A⟩:=hrel
  by_cases hlt:kk < l0.length
  ·have hltz:(kk:Int) < (l0.length:Int):=by omega
   obtain ⟨ad,e0,hcell⟩:=Kd.at_int HR0.out (kk:Int) (by omega) (by omega)
   cases e0
   have hcell':w.cell? (ad.add kk)=some (.int .i64 (rd l0 kk)):=hcell
   clear hcell
   obtain ⟨y,hy⟩:∃ y,y=rd l0 kk:=⟨_,rfl⟩
   rw [← hy] at hcell'
   have B:Aside0 (l0.getD kk 0=y):=⟨hy.symm⟩
   clear hy
   have hcall:=hpAt y
   cases hq:p y with
   | true =>
    rw [hq] at hcall
    go_wp2_with (go_at_fn g;refine (hcall _).mono ?_;rintro e w' ⟨rfl,q',rfl⟩)
    go_ret
    refine ⟨?_,_,rfl⟩
    rw [idxP_hit p l0 kk hlt A.out (by rw [B.out];exact hq)]
    rfl
   | false =>
    rw [hq] at hcall
    go_wp2_with (go_at_fn g;refine (hcall _).mono ?_;rintro e w' ⟨rfl,q',rfl⟩)
    go_roundg (l0.length - (kk+1))
    case measure=>omega
    case rel =>
     refine ⟨kk+1,_,by omega,by omega,by go_num,rfl,⟨fun j hj=>?_⟩⟩
     by_cases e:j=kk
     ·subst e
      rw [B.out];exact hq
     ·exact A.out j (by omega)
  ·have hltz:¬ (kk:Int) < (l0.length:Int):=by omega
   have hkl:kk=l0.length:=by omega
   have A2:Aside0 (idxP p l0=-1):=⟨idxP_miss p l0 (by rw [← hkl];exact A.out)⟩
   clear hkl
   go_wp2
   go_ret
   refine ⟨?_,q,rfl⟩
   rw [A2.out]
   rfl
set_option maxHeartbeats 1000000 in
theorem hasInt_with (p:Int→Bool) (g:Nat) (lb:Array Value) (eg:∀ args w,(callFunc g args).run Tryd.prog w=.ok (.enter g args) w) (A0:Option Addr) (c0:Nat) (l0:List Int) (w:World)
  (hp:PredI g lb p w) (hr0:Kd.C (Kd.int .i64) w A0 l0.length l0) :
  Calls Tryd.prog 57 #[.slice A0 l0.length c0,.func (.func g) #[] lb] w fun e w'=>e=.returned (.bool (l0.any p))∧∃ q,w'=w.drewN q:=by
 rw [← idxP_nonneg]
 go_enter Tryd.func57,Tryd.ntmps57
 go_wp2_with (go_at_call 81;refine (idxInt_with p g lb eg A0 c0 l0 _ hp hr0).mono ?_;rintro e w' ⟨rfl,q,rfl⟩)
 go_ret
 exact ⟨rfl,q,rfl⟩
theorem impl_areWithin.pred (lo hi:Int) (B1 B2:Nat) (w:World) (h1:B1 < w.heap.size) (h2:B2 < w.heap.size) (c1:w.cell? ⟨B1,0,none⟩=some (.int .i64 lo)) (c2:w.cell? ⟨B2,0,none⟩=some (.int .i64 hi)) :
  PredI 86 #[.pointer (some ⟨B1,0,none⟩),.pointer (some ⟨B2,0,none⟩)] (fun x=>!(decide (lo≤x) && decide (x≤hi))) w:=fun W x hb=>by
 have hc1:W.cell? ⟨B1,0,none⟩=some (.int .i64 lo):=(hb.cell (p:=⟨B1,0,none⟩) h1).trans c1
 have hc2:W.cell? ⟨B2,0,none⟩=some (.int .i64 hi):=(hb.cell (p:=⟨B2,0,none⟩) h2).trans c2
 clear c1 c2 h1 h2 hb
 show Calls Tryd.prog 86 #[.int .i64 x,.pointer (some ⟨B1,0,none⟩),.pointer (some ⟨B2,0,none⟩)] W _
 go_enter Tryd.func86,Tryd.ntmps86
 go_wp2
 all_goals (go_ret;exact ⟨by simp_all,0,rfl⟩)
def impl_areWithin.f (l0:List Int) (a1:Int) (a2:Int):Option (Bool):=some (l0.all fun n=>decide (a1≤n) && decide (n≤a2))
set_option maxHeartbeats 1000000 in
theorem impl_areWithin.calls (A0:Option Addr) (c0:Nat) (l0:List Int) (a1:Int) (a2:Int) (r:Bool) (w:World) (hr0:Kd.C (Kd.int .i64) w A0 l0.length l0) (hc0:l0.length≤c0) (h:impl_areWithin.f l0 a1 a2=some r) :
  Calls Tryd.prog 71 #[.slice A0 l0.length c0,.int .i64 a1,.int .i64 a2] w fun e w'=>e=.returned (.bool r)∧Below w.heap.size w w':=by
 have eg:∀ args w,(callFunc 86 args).run Tryd.prog w=.ok (.enter 86 args) w:=enters_of Tryd.func86 (by kernel_rfl) rfl
 have hcon:=hasInt_with (fun x=>!(decide (a1≤x) && decide (x≤a2))) 86 #[.pointer (some ⟨w.heap.size,0,none⟩),.pointer (some ⟨w.heap.size+1,0,none⟩)] eg A0 c0 l0 ((w.alloc (.cells #[.int .i64 a1] 3)).alloc (.cells #[.int .i64 a2] 3))
  (impl_areWithin.pred a1 a2 w.heap.size (w.heap.size+1) _ (by simp;omega) (by simp) (by simp) (by simp)) (zz18 (zz18 hr0 _) _)
 have hr:(!l0.any fun x=>!(decide (a1≤x) && decide (x≤a2)))=r:=by
  have h':=Option.some.inj h
  rw [← h',List.not_any_eq_all_not]
  simp
 clear h hr0
 generalize (l0.any fun x=>!(decide (a1≤x) && decide (x≤a2)))=b at hcon hr
 subst hr
 go_enter Tryd.func71,Tryd.ntmps71
 go_wp2_with (go_at_call 57;refine hcon.mono ?_;rintro e w' ⟨rfl,q,rfl⟩)
 go_ret
 exact ⟨rfl,zz0 (((Below.refl _ w).alloc (Nat.le_refl _) _).alloc (by simp) _) q⟩

/-! ### impl_arePeople: function 45 -/
def impl_arePeople.f (k:Nat) (a0_0:Int) (l0_1:List (S74)) (l1:List Int):Option (Bool):=(impl_IsParty.f k a0_0 l0_1).bind fun t266=>(if t266=true then ((impl_areWithin.f l1 0 (wrap64 (a0_0 - 1))).bind fun t267=>(some t267)) else (some false))
theorem impl_arePeople.mono:∀ a0 a1 a2 k,LeO (impl_arePeople.f k a0 a1 a2) (impl_arePeople.f (k+1) a0 a1 a2):=by
 intro a0 a1 a2 k
 unfold impl_arePeople.f
 repeat' first
   | (with_reducible exact impl_IsParty.mono _ _ _)
   | (with_reducible exact LeO.refl _)
   | (with_reducible exact LeO.none _)
   | (with_reducible refine LeO.ite ?_ ?_)
   | (with_reducible refine LeO.bind ?_ (fun _=>?_))
   | exact impl_IsParty.mono _ _ _
   | exact LeO.none _
   | refine LeO.ite ?_ ?_
   | refine LeO.bind ?_ (fun _=>?_)
set_option maxHeartbeats 8000000 in
set_option maxRecDepth 100000 in
theorem impl_arePeople.calls (k:Nat) (a0_0:Int) (A0_1:Option Addr) (c0_1:Nat) (l0_1:List (S74)) (A1:Option Addr) (c1:Nat) (l1:List Int) (r:Bool) (w:World) (hr0_1:Kd.C k74 w A0_1 l0_1.length l0_1) (hc0_1:l0_1.length≤c0_1) (hr1:Kd.C (Kd.int .i64) w A1 l1.length l1) (hc1:l1.length≤c1) (h:impl_arePeople.f k a0_0 l0_1 l1=some r) :
  Calls Tryd.prog 45 #[.agg #[.int .i64 a0_0,.slice A0_1 l0_1.length c0_1],.slice A1 l1.length c1] w fun e w'=>e=.returned (.bool r)∧Below w.heap.size w w':=by
 have hu30:=Tryd.underlying30
 have HR0_1:=zz31 hr0_1
 have HC0_1:=zz31 hc0_1
 clear hr0_1 hc0_1
 have HR1:=zz31 hr1
 have HC1:=zz31 hc1
 clear hr1 hc1
 have HB:=zz31 (Below.refl w.heap.size w)
 have H:((impl_IsParty.f k a0_0 l0_1).bind fun t266=>(if t266=true then ((impl_areWithin.f l1 0 (wrap64 (a0_0 - 1))).bind fun t267=>(some t267)) else (some false)))=some r:=h
 clear h
 replace H:=zz30.mp H
 obtain ⟨t266,A30,H⟩:=H
 replace H:(if t266=true then ((impl_areWithin.f l1 0 (wrap64 (a0_0 - 1))).bind fun t267=>(some t267)) else (some false))=some r:=H
 have A3:=zz31 A30
 clear A30
 by_cases c4:t266=true
 ·subst c4
  have H1:((impl_areWithin.f l1 0 (wrap64 (a0_0 - 1))).bind fun t267=>(some t267))=some r:=by rw [if_pos rfl] at H;exact H
  clear H
  have H:=H1
  clear H1
  replace H:=zz30.mp H
  obtain ⟨t267,A50,H⟩:=H
  replace H:(some t267)=some r:=H
  have A5:=zz31 A50
  clear A50
  obtain rfl:=Option.some.inj H
  go_enter Tryd.func45,Tryd.ntmps45
  go_wp2_with (first | ((with_reducible refine gate_dst (N:=2) rfl ?_);refine box_event ?hg (N:=2) ?hd (cs:=#[.int .i64 a0_0,.slice A0_1 l0_1.length c0_1]) (t:=30) ?hr ?_;(case hd=>rfl);(case hg=>rfl);(case hr=>first | (go_simp;done) | (go_simp;rfl));intro gb265 hg w6 hbox hb;have n0_:=zz31 (zz4 (by repeat first | exact HB.out | apply zz2 | apply zz0 | apply zz1) hb);have n1_:=zz31 (hbox);have n2_:=zz31 ((by rw [hg];exact (zz5 (by repeat first | exact HB.out | apply zz2 | apply zz0 | apply zz1)):w.heap.size≤gb265));have n3_:=zz31 ((by rw [hg];exact (zz5 (by repeat first | exact HB.out | apply zz2 | apply zz0 | apply zz1)):w.heap.size≤gb265));clear HB;have HB:=n0_;have BK265:=n1_;have GW265:=n2_;have GE265:=n3_;clear n0_ n1_ n2_ n3_;clear hb hbox hg;have hcz7_0:w6.cell? ⟨gb265,0,none⟩=some (.int .i64 a0_0):=(zz9 BK265.out 0).trans rfl;have hcz7_1:w6.cell? ⟨gb265,1,none⟩=some (.slice A0_1 l0_1.length c0_1):=(zz9 BK265.out 1).trans rfl;have hfz7_0:=zz10 BK265.out 0;have hfz7_1:=zz10 BK265.out 1) | ((with_reducible refine gate_callee (f:=35) rfl ?_);refine goesL_ (some 6) rfl rfl Tryd.func35 (by kernel_rfl) rfl #[.agg #[.int .i64 a0_0,.slice A0_1 l0_1.length c0_1]] rfl (by (try simp only [zz26,zz27,zz28]);first | done | rfl | (simp only [zz24,zz25];rfl)) ?_;(with_reducible refine (impl_IsParty.calls k a0_0 _ _ l0_1 true _ ?side1 ?side2 A3.out).mono ?_);(case side1=>repeat (first | exact (Kd.C_below HR0_1.out HB.out) | (with_reducible refine zz18 ?_ _) | (with_reducible refine zz19 ?_ _) | (with_reducible refine zz20 ?_)));(case side2=>exact HC0_1.out);rintro e w8 ⟨rfl,hb⟩;refine ⟨_,rfl,?_⟩;have n0_:=zz31 (zz11 (g:=gb265) (o:=.cells #[.int .i64 a0_0,.slice A0_1 l0_1.length c0_1] 30 (0,0)) (by (with_reducible repeat (first | refine zz6 ?_ _ | refine zz7 ?_ | refine zz8 ?_ _));exact BK265.out) hb);have n1_:=zz31 (zz4 (by repeat first | exact HB.out | apply zz2 | apply zz0 | apply zz1 | refine zz3 ?_ GE265.out) hb);clear BK265;clear HB;have BK265:=n0_;have HB:=n1_;clear n0_ n1_;(try clear hb);(try clear hb2);(try clear hk);(try clear hi);have hcz9_0:w8.cell? ⟨gb265,0,none⟩=some (.int .i64 a0_0):=(zz9 BK265.out 0).trans rfl;have hcz9_1:w8.cell? ⟨gb265,1,none⟩=some (.slice A0_1 l0_1.length c0_1):=(zz9 BK265.out 1).trans rfl;have hfz9_0:=zz10 BK265.out 0;have hfz9_1:=zz10 BK265.out 1) | (go_at_call 71;(with_reducible refine (impl_areWithin.calls _ _ l1 0 (wrap64 (a0_0 - 1)) t267 _ ?side1 ?side2 A5.out).mono ?_);(case side1=>repeat (first | exact (Kd.C_below HR1.out HB.out) | (with_reducible refine zz18 ?_ _) | (with_reducible refine zz19 ?_ _) | (with_reducible refine zz20 ?_)));(case side2=>exact HC1.out);rintro e w10 ⟨rfl,hb⟩;have n0_:=zz31 (zz11 (g:=gb265) (o:=.cells #[.int .i64 a0_0,.slice A0_1 l0_1.length c0_1] 30 (0,0)) (by (with_reducible repeat (first | refine zz6 ?_ _ | refine zz7 ?_ | refine zz8 ?_ _));exact BK265.out) hb);have n1_:=zz31 (zz4 (by repeat first | exact HB.out | apply zz2 | apply zz0 | apply zz1 | refine zz3 ?_ GE265.out) hb);clear BK265;clear HB;have BK265:=n0_;have HB:=n1_;clear n0_ n1_;(try clear hb);(try clear hb2);(try clear hk);(try clear hi)))
  go_ret
  exact ⟨by first | rfl | (simp [errW_none,errW_some] <;> rfl) | (simp [*,errW_none,errW_some] <;> rfl),by repeat first | exact HB.out | apply zz2 | apply zz0 | apply zz1 | refine zz3 ?_ GE265.out⟩
 ·replace c4:=Bool.eq_false_iff.mpr c4
  subst c4
  have H1:(some false)=some r:=by rw [if_neg (show ¬ (false=true) by decide)] at H;exact H
  clear H
  have H:=H1
  clear H1
  obtain rfl:=Option.some.inj H
  go_enter Tryd.func45,Tryd.ntmps45
  go_wp2_with (first | ((with_reducible refine gate_dst (N:=2) rfl ?_);refine box_event ?hg (N:=2) ?hd (cs:=#[.int .i64 a0_0,.slice A0_1 l0_1.length c0_1]) (t:=30) ?hr ?_;(case hd=>rfl);(case hg=>rfl);(case hr=>first | (go_simp;done) | (go_simp;rfl));intro gb265 hg w11 hbox hb;have n0_:=zz31 (zz4 (by repeat first | exact HB.out | apply zz2 | apply zz0 | apply zz1) hb);have n1_:=zz31 (hbox);have n2_:=zz31 ((by rw [hg];exact (zz5 (by repeat first | exact HB.out | apply zz2 | apply zz0 | apply zz1)):w.heap.size≤gb265));have n3_:=zz31 ((by rw [hg];exact (zz5 (by repeat first | exact HB.out | apply zz2 | apply zz0 | apply zz1)):w.heap.size≤gb265));clear HB;have HB:=n0_;have BK265:=n1_;have GW265:=n2_;have GE265:=n3_;clear n0_ n1_ n2_ n3_;clear hb hbox hg;have hcz12_0:w11.cell? ⟨gb265,0,none⟩=some (.int .i64 a0_0):=(zz9 BK265.out 0).trans rfl;have hcz12_1:w11.cell? ⟨gb265,1,none⟩=some (.slice A0_1 l0_1.length c0_1):=(zz9 BK265.out 1).trans rfl;have hfz12_0:=zz10 BK265.out 0;have hfz12_1:=zz10 BK265.out 1) | ((with_reducible refine gate_callee (f:=35) rfl ?_);refine goesL_ (some 6) rfl rfl Tryd.func35 (by kernel_rfl) rfl #[.agg #[.int .i64 a0_0,.slice A0_1 l0_1.length c0_1]] rfl (by (try simp only [zz26,zz27,zz28]);first | done | rfl | (simp only [zz24,zz25];rfl)) ?_;(with_reducible refine (impl_IsParty.calls k a0_0 _ _ l0_1 false _ ?side1 ?side2 A3.out).mono ?_);(case side1=>repeat (first | exact (Kd.C_below HR0_1.out HB.out) | (with_reducible refine zz18 ?_ _) | (with_reducible refine zz19 ?_ _) | (with_reducible refine zz20 ?_)));(case side2=>exact HC0_1.out);rintro e w13 ⟨rfl,hb⟩;refine ⟨_,rfl,?_⟩;have n0_:=zz31 (zz11 (g:=gb265) (o:=.cells #[.int .i64 a0_0,.slice A0_1 l0_1.length c0_1] 30 (0,0)) (by (with_reducible repeat (first | refine zz6 ?_ _ | refine zz7 ?_ | refine zz8 ?_ _));exact BK265.out) hb);have n1_:=zz31 (zz4 (by repeat first | exact HB.out | apply zz2 | apply zz0 | apply zz1 | refine zz3 ?_ GE265.out) hb);clear BK265;clear HB;have BK265:=n0_;have HB:=n1_;clear n0_ n1_;(try clear hb);(try clear hb2);(try clear hk);(try clear hi)))
  go_ret
  exact ⟨by first | rfl | (simp [errW_none,errW_some] <;> rfl) | (simp [*,errW_none,errW_some] <;> rfl),by repeat first | exact HB.out | apply zz2 | apply zz0 | apply zz1 | refine zz3 ?_ GE265.out⟩

/-! ### slices_Index_int_int: function 72 -/
def slices_Index_int_int.l0:Nat→List Int→Int→Int→Int→Option (Int)
 | 0,_,_,_,_=>none
 | k+1,x0,x1,x7,x8=>if x8 < x7 then (if 0≤x8 then (if x8 < (x0.length:Int) then (if x1=(rd x0 x8) then (some x8) else (slices_Index_int_int.l0 k x0 x1 x7 (wrap64 (x8+1)))) else (none)) else (none)) else (some (-1))
def slices_Index_int_int.f (k:Nat) (l0:List Int) (a1:Int):Option (Int):=slices_Index_int_int.l0 k l0 a1 (l0.length:Int) 0
theorem slices_Index_int_int.mono_l:∀ k,(∀ y0 y1 y2 y3,LeO (slices_Index_int_int.l0 k y0 y1 y2 y3) (slices_Index_int_int.l0 (k+1) y0 y1 y2 y3))
 | 0=>fun _ _ _ _ r h=>by simp [slices_Index_int_int.l0] at h
 | k+1=>by
  have ih0:=slices_Index_int_int.mono_l k
  ·intro y0 y1 y2 y3
   unfold slices_Index_int_int.l0
   repeat' first
   | (with_reducible exact ih0 _ _ _ _)
   | (with_reducible exact LeO.refl _)
   | (with_reducible exact LeO.none _)
   | (with_reducible refine LeO.ite ?_ ?_)
   | (with_reducible refine LeO.bind ?_ (fun _=>?_))
   | exact ih0 _ _ _ _
   | exact LeO.none _
   | refine LeO.ite ?_ ?_
   | refine LeO.bind ?_ (fun _=>?_)
theorem slices_Index_int_int.mono:∀ a0 a1 k,LeO (slices_Index_int_int.f k a0 a1) (slices_Index_int_int.f (k+1) a0 a1):=by
 intro a0 a1 k
 have ih0:=slices_Index_int_int.mono_l k
 unfold slices_Index_int_int.f
 repeat' first
   | (with_reducible exact ih0 _ _ _ _)
   | (with_reducible exact LeO.refl _)
   | (with_reducible exact LeO.none _)
   | (with_reducible refine LeO.ite ?_ ?_)
   | (with_reducible refine LeO.bind ?_ (fun _=>?_))
   | exact ih0 _ _ _ _
   | exact LeO.none _
   | refine LeO.ite ?_ ?_
   | refine LeO.bind ?_ (fun _=>?_)
set_option maxHeartbeats 8000000 in
set_option maxRecDepth 100000 in
theorem slices_Index_int_int.calls (k:Nat) (A0:Option Addr) (c0:Nat) (l0:List Int) (a1:Int) (r:Int) (w:World) (hr0:Kd.C (Kd.int .i64) w A0 l0.length l0) (hc0:l0.length≤c0) (h:slices_Index_int_int.f k l0 a1=some r) :
  Calls Tryd.prog 72 #[.slice A0 l0.length c0,.int .i64 a1] w fun e w'=>e=.returned (.int .i64 r)∧Drawn0 w w':=by
 have HR0:=zz31 hr0
 have HC0:=zz31 hc0
 clear hr0 hc0
 have H:(slices_Index_int_int.l0 k l0 a1 (l0.length:Int) 0)=some r:=h
 clear h
 have H':=zz31 H
 clear H
 go_enter Tryd.func72,Tryd.ntmps72
 go_wp2
 go_loopg [8] k (fun kq v8 w'=>∃ (x8_1:Int),v8=.int .i64 x8_1∧Aside0 (slices_Index_int_int.l0 kq l0 a1 (l0.length:Int) x8_1=some r)∧Aside0 (kq≤k)∧Drawn0 w w')
 case atStart=>exact ⟨(0),(by first | rfl | (simp;done) | (simp [*];done)),H',⟨Nat.le_refl _⟩,by repeat (first | exact Drawn0.refl _ | apply Drawn0.step)⟩
 case round =>
  clear H'
  try clear p2
  obtain ⟨x8_1,rfl,HA,HK1,⟨m1,rfl⟩⟩:=hrel
  cases gk with
  | zero=>exact absurd HA.out (by simp [slices_Index_int_int.l0])
  | succ k1 =>
   have H:=HA.out
   clear HA
   simp only [slices_Index_int_int.l0] at H
   by_cases c3:x8_1 < (l0.length:Int)
   ·rw [if_pos c3] at H
    have c3b0:decide (x8_1 < (l0.length:Int))=true:=decide_eq_true c3
    clear c3
    by_cases c4:0≤x8_1
    ·rw [if_pos c4] at H
     have c4b0:decide (0≤x8_1)=true:=decide_eq_true c4
     clear c4
     by_cases c5:x8_1 < (l0.length:Int)
     ·rw [if_pos c5] at H
      have c5b0:decide (x8_1 < (l0.length:Int))=true:=decide_eq_true c5
      clear c5
      by_cases c6:a1=(rd l0 x8_1)
      ·rw [if_pos c6] at H
       have c6b0:(a1 == (rd l0 x8_1))=true:=beq_iff_eq.mpr c6
       have c6b1:(a1 != (rd l0 x8_1))=false:=bne_eq_false_iff_eq.mpr c6
       clear c6
       obtain rfl:=Option.some.inj H
       have p268:0≤(x8_1:Int):=zz29 (by first | (with_reducible assumption) | assumption)
       have q268:x8_1 < (l0.length:Int):=zz29 (by first | (with_reducible assumption) | assumption)
       obtain ⟨ad268,e268,hx268_0⟩:=Kd.at_int HR0.out x8_1 p268 q268
       cases e268
       replace p268:=eq_true p268
       replace q268:=eq_true q268
       go_wp2
       go_ret
       exact ⟨by first | rfl | (simp;done) | (simp [*];done),by repeat (first | exact Drawn0.refl _ | apply Drawn0.step)⟩
      ·rw [if_neg c6] at H
       have c6b0:(a1 == (rd l0 x8_1))=false:=beq_eq_false_iff_ne.mpr c6
       have c6b1:(a1 != (rd l0 x8_1))=true:=bne_iff_ne.mpr c6
       have H':=zz31 H
       clear H
       have p268:0≤(x8_1:Int):=zz29 (by first | (with_reducible assumption) | assumption)
       have q268:x8_1 < (l0.length:Int):=zz29 (by first | (with_reducible assumption) | assumption)
       obtain ⟨ad268,e268,hx268_0⟩:=Kd.at_int HR0.out x8_1 p268 q268
       cases e268
       replace p268:=eq_true p268
       replace q268:=eq_true q268
       go_wp2
       go_roundg k1
       case measure=>have:=HK1.out;omega
       case rel=>exact ⟨(wrap64 (x8_1+1)),(by first | rfl | (simp;done) | (simp [*];done)),H',⟨by have:=HK1.out;omega⟩,by repeat (first | exact Drawn0.refl _ | apply Drawn0.step)⟩
     ·rw [if_neg c5] at H
      exact absurd H (by simp)
    ·rw [if_neg c4] at H
     exact absurd H (by simp)
   ·rw [if_neg c3] at H
    have c3b0:decide (x8_1 < (l0.length:Int))=false:=decide_eq_false c3
    clear c3
    obtain rfl:=Option.some.inj H
    go_wp2
    go_ret
    exact ⟨by first | rfl | (simp;done) | (simp [*];done),by repeat (first | exact Drawn0.refl _ | apply Drawn0.step)⟩

/-! ### slices_Contains_int_int: function 47 -/
def slices_Contains_int_int.f (k:Nat) (l0:List Int) (a1:Int):Option (Bool):=(slices_Index_int_int.f k l0 a1).bind fun t269=>(some (decide (t269 ≥ 0)))
theorem slices_Contains_int_int.mono:∀ a0 a1 k,LeO (slices_Contains_int_int.f k a0 a1) (slices_Contains_int_int.f (k+1) a0 a1):=by
 intro a0 a1 k
 unfold slices_Contains_int_int.f
 repeat' first
   | (with_reducible exact slices_Index_int_int.mono _ _ _)
   | (with_reducible exact LeO.refl _)
   | (with_reducible exact LeO.none _)
   | (with_reducible refine LeO.ite ?_ ?_)
   | (with_reducible refine LeO.bind ?_ (fun _=>?_))
   | exact slices_Index_int_int.mono _ _ _
   | exact LeO.none _
   | refine LeO.ite ?_ ?_
   | refine LeO.bind ?_ (fun _=>?_)
set_option maxHeartbeats 8000000 in
set_option maxRecDepth 100000 in
theorem slices_Contains_int_int.calls (k:Nat) (A0:Option Addr) (c0:Nat) (l0:List Int) (a1:Int) (r:Bool) (w:World) (hr0:Kd.C (Kd.int .i64) w A0 l0.length l0) (hc0:l0.length≤c0) (h:slices_Contains_int_int.f k l0 a1=some r) :
  Calls Tryd.prog 47 #[.slice A0 l0.length c0,.int .i64 a1] w fun e w'=>e=.returned (.bool r)∧Drawn0 w w':=by
 have HR0:=zz31 hr0
 have HC0:=zz31 hc0
 clear hr0 hc0
 have H:((slices_Index_int_int.f k l0 a1).bind fun t269=>(some (decide (t269 ≥ 0))))=some r:=h
 clear h
 replace H:=zz30.mp H
 obtain ⟨t269,A30,H⟩:=H
 replace H:(some (decide (t269 ≥ 0)))=some r:=H
 have A3:=zz31 A30
 clear A30
 obtain rfl:=Option.some.inj H
 go_enter Tryd.func47,Tryd.ntmps47
 go_wp2_with (first | ((with_reducible refine gate_callee (f:=72) rfl ?_);refine goesL_ (some 7) rfl rfl Tryd.func72 (by kernel_rfl) rfl #[.slice A0 l0.length c0,.int .i64 a1] rfl (by (try simp only [zz26,zz27,zz28]);first | done | rfl | (simp only [zz24,zz25];rfl)) ?_;(with_reducible refine (slices_Index_int_int.calls k _ _ l0 a1 t269 _ ?side1 ?side2 A3.out).mono ?_);(case side1=>repeat (first | exact HR0.out | (with_reducible refine zz18 ?_ _) | (with_reducible refine zz19 ?_ _) | (with_reducible refine zz20 ?_)));(case side2=>exact HC0.out);rintro e w' ⟨rfl,⟨nd,rfl⟩⟩;refine ⟨_,rfl,?_⟩))
 go_ret
 exact ⟨by first | rfl | (simp;done) | (simp [*];done),by repeat (first | exact Drawn0.refl _ | apply Drawn0.step)⟩

-- NOT PRINTED: function 46 (impl_GroupsAt_1)

/-! ### impl_GroupsAt: function 15 (a contract of our own) -/
theorem idx60 (L:List Int) (x:Int) (hL:L.length≤1000):∀ (rest pre:List Int) (k:Nat),L=pre ++ rest→rest.length < k→∃ n:Int,slices_Index_int_int.l0 k L x (L.length:Int) (pre.length:Int)=some n∧decide (n ≥ 0)=rest.contains x
 | [],pre,0,_,hk=>by simp at hk
 | [],pre,k+1,e,_=>by
  have el:L.length=pre.length:=by rw [e];simp
  exact ⟨-1,by rw [slices_Index_int_int.l0,if_neg (by omega)],by simp⟩
 | y :: rest,pre,0,_,hk=>by simp at hk
 | y :: rest,pre,k+1,e,hk=>by
  have el:pre.length < L.length:=by rw [e];simp
  have hy:rd L (pre.length:Int)=y:=by
   rw [e]
   show (pre ++ y :: rest).getD (pre.length:Int).toNat 0=y
   rw [Int.toNat_natCast];simp [List.getD_eq_getElem?_getD]
  have hw:wrap64 ((pre.length:Int)+1)=((pre.length+1:Nat):Int):=by unfold wrap64;omega
  rw [slices_Index_int_int.l0,if_pos (by omega),if_pos (by omega),if_pos (by omega),hy,hw,List.contains_cons]
  by_cases hxy:x=y
  ·rw [if_pos hxy]
   exact ⟨_,rfl,by rw [hxy];simp⟩
  ·rw [if_neg hxy]
   obtain ⟨n,h1,h2⟩:=idx60 L x hL rest (pre ++ [y]) k (by rw [e];simp) (by simp at hk;omega)
   rw [List.length_append,List.length_singleton] at h1
   exact ⟨n,h1,by rw [h2];simp [hxy]⟩
theorem cont60 (cs:List Int) (z:Int) (h:cs.length≤40):slices_Contains_int_int.f 60 cs z=some (cs.contains z):=by
 obtain ⟨n,h1,h2⟩:=idx60 cs z (by omega) cs [] 60 rfl (by omega)
 unfold slices_Contains_int_int.f slices_Index_int_int.f
 have h3:slices_Index_int_int.l0 60 cs z (cs.length:Int) 0=some n:=h1
 rw [h3,Option.bind_some,h2]
set_option maxHeartbeats 1000000 in
set_option maxRecDepth 100000 in
theorem groupsAt_each (B0 bm bz:Nat) (z:Int):EachGrp Int 46 #[.pointer (some ⟨bm,0,none⟩),.pointer (some ⟨bz,0,none⟩)] B0 (CntI bm bz z) (cntStep fun cs=>cs.contains z):=by
 intro s own W A c cs hI hB hc8 hR
 have hI':=hI
 obtain ⟨rfl,h0,h2,h3,h4⟩:=hI
 have f3:=zz9 h3 0
 have f4:=zz10 h3 0
 simp only [List.getElem?_toArray,List.getElem?_cons_zero] at f3
 obtain ⟨b,hbz⟩:∃ b,cs.contains z=b:=⟨_,rfl⟩
 have HCONT:=zz31 (show slices_Contains_int_int.f 60 cs z=some b from by rw [cont60 cs z hc8,hbz])
 have HCs:=zz31 (Kd.R_reads' hR).2.2
 have HCc:=zz31 (Kd.R_reads' hR).2.1
 have HI:=zz31 hI'
 obtain ⟨v,hv⟩:∃ v:Int,v=if b=true then 1 else 0:=⟨_,rfl⟩
 have HV:=zz31 hv
 have HN:=zz31 (show cntStep (fun cs=>cs.contains z) s cs=IntKind.i64.wrap (s+v) from by
  show wrap64 (s+if cs.contains z=true then 1 else 0)=_
  rw [hbz,← HV.out];simp [i64_w])
 have HBIT:=zz31 (show impl_bit.f b=some v from by rw [hv];cases b <;> rfl)
 clear hv hbz h0 h2 h3 hR hI'
 go_enter Tryd.func46,Tryd.ntmps46
 go_region_with (first | (go_at_call 47; (with_reducible refine (slices_Contains_int_int.calls 60 A c cs z b _ ?_ HCc.out HCONT.out).mono ?_); (repeat (first | (with_reducible exact HCs.out) | (with_reducible refine zz19 ?_ _) | (with_reducible refine zz20 ?_))); rintro e w' ⟨rfl, hd⟩; obtain ⟨q, hq⟩ := hd.out; subst hq) | (go_at_call 40; (with_reducible refine (impl_bit.calls b v _ HBIT.out).mono ?_); rintro e w' ⟨rfl, hd⟩; obtain ⟨q, hq⟩ := hd.out; subst hq) | (fail "no arm"))
 all_goals exact bodyPost_end (results_none rfl _ _ _) rfl ⟨rfl,_,by rw [HN.out];exact (CntI.put HI.out _ _ (by repeat first | exact Below.refl _ _ | apply zz0)).1,(CntI.put HI.out _ _ (by repeat first | exact Below.refl _ _ | apply zz0)).2⟩
def impl_GroupsAt.f (k:Nat) (a0_0:Int) (l0_1:List (S74)) (a1:Int):Option (Int × Bool) :=
 (impl_arePeople.f k a0_0 l0_1 [a1]).bind fun ok=>if ok=true then (impl_Party_table.f k a0_0 l0_1).bind fun t=>if t.length≤12∧gokB t 17 (fullOf t)=true then some ((grs t 17 [] (fullOf t)).foldl (cntStep fun cs=>cs.contains a1) 0,true) else none else some (0,false)
theorem impl_GroupsAt.mono:∀ a0 a1 a2 k,LeO (impl_GroupsAt.f k a0 a1 a2) (impl_GroupsAt.f (k+1) a0 a1 a2):=by
 intro a0 a1 a2 k
 unfold impl_GroupsAt.f
 refine LeO.bind (impl_arePeople.mono _ _ _ _) fun ok=>LeO.ite (LeO.bind (impl_Party_table.mono _ _ _) fun t=>LeO.refl _) (LeO.refl _)
theorem lit_one (k:IntKind) (e:Nat) (W:World) (z:Int) (n:Nat) (hn:n=W.heap.size):Kd.C (Kd.int k) (W.alloc (.cells #[.int k z] e)) (some ⟨n,0,none⟩) 1 [z]:=by
 subst hn
 have h2:=World.ownsRow_lit (base:=0) (e:=e) (size:=1) W (encs (Value.int k) [z]).toArray 1 (Nat.zero_le _) (by simp [maxLen]) (by simp [encs])
 have hR:(Kd.int k).R e (W.alloc (.cells (encs (Value.int k) [z]).toArray e)) 0 (fun _=>True) (.slice (some ⟨W.heap.size,0,none⟩) ([z]:List Int).length 1) [z]:=Kd.R_of_own (enc:=Value.int k) (h1:=fun _=>rfl) (by simpa using h2) (fun _ _=>trivial)
 exact (Kd.R_reads' hR).2.2
set_option maxHeartbeats 4000000 in
set_option maxRecDepth 100000 in
theorem impl_GroupsAt.calls (k:Nat) (a0_0:Int) (A0_1:Option Addr) (c0_1:Nat) (l0_1:List (S74)) (a1:Int) (r1:Int) (r2:Bool) (w:World) (hr0_1:Kd.C k74 w A0_1 l0_1.length l0_1) (hc0_1:l0_1.length≤c0_1) (h:impl_GroupsAt.f k a0_0 l0_1 a1=some (r1,r2)) (hT:Tz w) :
  Calls Tryd.prog 15 #[.agg #[.int .i64 a0_0,.slice A0_1 l0_1.length c0_1],.int .i64 a1] w fun e w'=>e=.returned (.tuple #[.int .i64 r1,.bool r2])∧Below w.heap.size w w':=by
 have hu:=Tryd.underlying30
 unfold impl_GroupsAt.f at h
 obtain ⟨ok,hok,h⟩:=zz30.1 h
 have HOK:=zz31 hok
 have HCC:=zz31 hc0_1
 have e1:(w.alloc (.cells #[.int .i64 a0_0,.slice A0_1 l0_1.length c0_1] 30)).heap.size=w.heap.size+1:=by simp
 have b1:=blk_new (w.alloc (.cells #[.int .i64 a0_0,.slice A0_1 l0_1.length c0_1] 30)) (.cells #[.int .i64 a1] 3)
 rw [e1] at b1
 have HC1:=zz31 (zz18 (zz18 (zz18 hr0_1 (.cells #[.int .i64 a0_0,.slice A0_1 l0_1.length c0_1] 30)) (.cells #[.int .i64 a1] 3)) (.cells #[.int .i64 a1] 3))
 have HB1:Aside0 (Below w.heap.size w (((w.alloc (.cells #[.int .i64 a0_0,.slice A0_1 l0_1.length c0_1] 30)).alloc (.cells #[.int .i64 a1] 3)).alloc (.cells #[.int .i64 a1] 3))):=⟨zz2 (zz2 (zz2 (Below.refl _ _) _) _) _⟩
 have HX1:=zz31 (zz8 (zz8 (blk_new w (.cells #[.int .i64 a0_0,.slice A0_1 l0_1.length c0_1] 30)) (.cells #[.int .i64 a1] 3)) (.cells #[.int .i64 a1] 3))
 have HS1:=zz31 (zz8 b1 (.cells #[.int .i64 a1] 3))
 have HL1:=zz31 (lit_one .i64 3 ((w.alloc (.cells #[.int .i64 a0_0,.slice A0_1 l0_1.length c0_1] 30)).alloc (.cells #[.int .i64 a1] 3)) a1 (w.heap.size+1+1) (by simp))
 have HTz:=zz31 hT
 clear hok hr0_1 hc0_1 b1 e1 hT
 cases ok with
 | false =>
  rw [if_neg (by simp)] at h
  simp only [Option.some.injEq,Prod.mk.injEq] at h
  obtain ⟨rfl,rfl⟩:=h
  go_enter Tryd.func15,Tryd.ntmps15
  go_wp2_with (first | (go_at_call 45; refine (impl_arePeople.calls k a0_0 A0_1 c0_1 l0_1 (some ⟨w.heap.size + 1 + 1, 0, none⟩) 1 [a1] false _ HC1.out HCC.out HL1.out (Nat.le_refl _) HOK.out).mono ?_; rintro e w3 ⟨rfl, hb⟩; have HB3 := zz31 (zz4 HB1.out hb); clear hb) | (fail "no arm"))
  refine bodyPost_ret (results_tmp2 rfl _ _ _) rfl ?_
  exact ⟨rfl,HB3.out⟩
 | true =>
  rw [if_pos rfl] at h
  obtain ⟨t,ht,h⟩:=zz30.1 h
  split at h
  case isFalse=>simp at h
  rename_i hcond
  simp only [Option.some.injEq,Prod.mk.injEq] at h
  obtain ⟨h1,rfl⟩:=h
  have HT:=zz31 ht
  have CG:Aside0 (∀ (Wx:World) (At:Option Addr) (ct bm:Nat),Below w.heap.size w Wx→w.heap.size+1 < bm→Wx.heap[bm]?=some (.cells #[.int .i64 0] 3 (0,0))→Wx.cell? ⟨w.heap.size+1,0,none⟩=some (.int .i64 a1)→Kd.C (Kd.int .u16) Wx At t.length t→t.length≤ct→(∀ ad,At=some ad→ad.block ≠ bm) →
    Calls Tryd.prog 38 #[.slice At t.length ct,.func (.func 46) #[] #[.pointer (some ⟨bm,0,none⟩),.pointer (some ⟨w.heap.size+1,0,none⟩)]] Wx fun e W'=>e=.returned (.tuple #[])∧W'.cell? ⟨bm,0,none⟩=some (.int .i64 r1)∧Below w.heap.size w W'):=⟨fun Wx At ct bm hb hbm hcell hsz hC hct hap=>by
   have hz:=HTz.out.pos
   have hs:CntI bm (w.heap.size+1) a1 0 (fun i=>i=bm) Wx:=⟨rfl,by omega,by omega,hcell,hsz⟩
   exact (groups_calls Int 46 #[.pointer (some ⟨bm,0,none⟩),.pointer (some ⟨w.heap.size+1,0,none⟩)] (fun _ _=>rfl) w.heap.size (CntI bm (w.heap.size+1) a1) (cntStep fun cs=>cs.contains a1) (groupsAt_each _ _ _ _) (fun _ _ _ _ h hb=>h.below hb) (fun _ _ _ h=>h.lt) (fun _ _ _ h=>h.tab) t hcond.1 At ct 0 _ Wx ⟨hC,fun ad e _=>hap ad e⟩ hct hcond.2 (HTz.out.below hb) hs hb.size).mono fun e W' ⟨g1,own',g2,g3⟩=>by
    rw [h1] at g2
    obtain ⟨p1,p0,p2,p3,p4⟩:=g2
    exact ⟨g1,zz9 p3 0,hb.trans (g3.below hb.size (fun i hi=>by omega))⟩⟩
  clear ht h1 hcond
  go_enter Tryd.func15,Tryd.ntmps15
  go_wp2_with (first | (go_at_call 45; refine (impl_arePeople.calls k a0_0 A0_1 c0_1 l0_1 (some ⟨w.heap.size + 1 + 1, 0, none⟩) 1 [a1] true _ HC1.out HCC.out HL1.out (Nat.le_refl _) HOK.out).mono ?_; rintro e w3 ⟨rfl, hb⟩; have HB3 := zz31 (zz4 HB1.out hb); have HS3 := zz31 (zz11 HS1.out hb); have HX3 := zz31 (zz11 HX1.out hb); have HC3 := zz31 (Kd.C_below HC1.out hb); have HLT := zz31 (show w.heap.size + 1 < w3.heap.size from blk_lt HS3.out); have hf5 : (w3.alloc (.cells #[.int .i64 0] 3)).frozen? ⟨w3.heap.size, 0, none⟩ = false := frozen_new w3 _ _ 0; have hc5 : (w3.alloc (.cells #[.int .i64 0] 3)).cell? ⟨w3.heap.size, 0, none⟩ = some (.int .i64 0) := World.cell?_alloc_new w3 _ _ 0; have hba : Below w3.heap.size w3 (w3.alloc (.cells #[.int .i64 0] 3)) := zz2 (Below.refl _ _) _; have HBA := zz31 hba; have hd0 : (w3.alloc (.cells #[.int .i64 0] 3)).cell? ⟨w.heap.size, 0, none⟩ = some (.int .i64 a0_0) := zz9 (zz11 HX3.out hba) 0; have hd1 : (w3.alloc (.cells #[.int .i64 0] 3)).cell? ⟨w.heap.size, 1, none⟩ = some (.slice A0_1 l0_1.length c0_1) := zz9 (zz11 HX3.out hba) 1; have HM4 := zz31 (show (w3.alloc (.cells #[.int .i64 0] 3)).heap[w3.heap.size]? = some (.cells #[.int .i64 0] 3 (0, 0)) from blk_new w3 _); clear hba hb) | (go_at_call 37; refine (impl_Party_table.calls k a0_0 A0_1 c0_1 l0_1 t _ (Kd.C_below HC3.out HBA.out) HCC.out HT.out).mono ?_; rintro e w5 ⟨vt, rfl, ho, hb⟩; obtain ⟨At, ct, rfl⟩ := Kd.R_slice ho; have HB5 := zz31 (zz4 (HB3.out.trans (HBA.out.mono HB3.out.size)) hb); have HM5 := zz31 (zz11 HM4.out hb); have HS5 := zz31 (zz9 (zz11 (zz11 HS3.out HBA.out) hb) 0); have HR5 := zz31 ho; clear ho hb) | (go_at_call 38; refine (CG.out _ At ct w3.heap.size HB5.out ?_ HM5.out HS5.out (Kd.R_reads' HR5.out).2.2 (Kd.R_reads' HR5.out).2.1 ?_).mono ?_; exact HLT.out; exact row_apart HR5.out (by simp); rintro e w6 ⟨rfl, hm6, hb6⟩; have HB6 := zz31 hb6; clear hb6) | (fail "no arm"))
  refine bodyPost_ret (results_tmp2 rfl _ _ _) rfl ?_
  exact ⟨rfl,by repeat first | exact HB6.out | apply zz0 | apply below_drew⟩

/-! ### laws_FnExactGroupsAt: function 4 -/
def laws_FnExactGroupsAt.j0:Nat→Bool→Int→List (S79)→Int→List (S74)→Option (Bool)
 | 0,_,_,_,_,_=>none
 | k+1,x38,x271000,x271001,x283000,x283001=>if x38=true then (some false) else ((laws_toParty.f k x271000 x271001).bind fun bt285=>((laws_eqParty.f k x283000 x283001 bt285.1 bt285.2).bind fun t289=>(if t289=true then (some true) else (some false))))
def laws_FnExactGroupsAt.f (k:Nat) (a0_0:Int) (l0_1:List (S79)) (a1:Int):Option (Bool):=(laws_szParty.f a0_0 l0_1 1048576).bind fun t271=>(if t271 < 0 then (some true) else ((laws_toParty.f k a0_0 l0_1).bind fun bt272=>((spec_GroupsAt.f k bt272.1 bt272.2 a1).bind fun bt276=>((laws_toParty.f k a0_0 l0_1).bind fun bt278=>((impl_GroupsAt.f k bt278.1 bt278.2 a1).bind fun bt283=>(if bt283.1=bt276.1 then (laws_FnExactGroupsAt.j0 k (bt283.2 != bt276.2) a0_0 l0_1 bt278.1 bt278.2) else (laws_FnExactGroupsAt.j0 k true a0_0 l0_1 bt278.1 bt278.2)))))))
theorem laws_FnExactGroupsAt.mono_l:∀ k,(∀ y0 y1 y2 y3 y4,LeO (laws_FnExactGroupsAt.j0 k y0 y1 y2 y3 y4) (laws_FnExactGroupsAt.j0 (k+1) y0 y1 y2 y3 y4))
 | 0=>fun _ _ _ _ _ r h=>by simp [laws_FnExactGroupsAt.j0] at h
 | k+1=>by
  have ih0:=laws_FnExactGroupsAt.mono_l k
  ·intro y0 y1 y2 y3 y4
   unfold laws_FnExactGroupsAt.j0
   repeat' first
   | (with_reducible exact ih0 _ _ _ _ _)
   | (with_reducible exact impl_GroupsAt.mono _ _ _ _)
   | (with_reducible exact laws_eqParty.mono _ _ _ _ _)
   | (with_reducible exact laws_toParty.mono _ _ _)
   | (with_reducible exact spec_GroupsAt.mono _ _ _ _)
   | (with_reducible exact LeO.refl _)
   | (with_reducible exact LeO.none _)
   | (with_reducible refine LeO.ite ?_ ?_)
   | (with_reducible refine LeO.bind ?_ (fun _=>?_))
   | exact ih0 _ _ _ _ _
   | exact impl_GroupsAt.mono _ _ _ _
   | exact laws_eqParty.mono _ _ _ _ _
   | exact laws_toParty.mono _ _ _
   | exact spec_GroupsAt.mono _ _ _ _
   | exact LeO.none _
   | refine LeO.ite ?_ ?_
   | refine LeO.bind ?_ (fun _=>?_)
theorem laws_FnExactGroupsAt.mono:∀ a0 a1 a2 k,LeO (laws_FnExactGroupsAt.f k a0 a1 a2) (laws_FnExactGroupsAt.f (k+1) a0 a1 a2):=by
 intro a0 a1 a2 k
 have ih0:=laws_FnExactGroupsAt.mono_l k
 unfold laws_FnExactGroupsAt.f
 repeat' first
   | (with_reducible exact ih0 _ _ _ _ _)
   | (with_reducible exact impl_GroupsAt.mono _ _ _ _)
   | (with_reducible exact laws_eqParty.mono _ _ _ _ _)
   | (with_reducible exact laws_toParty.mono _ _ _)
   | (with_reducible exact spec_GroupsAt.mono _ _ _ _)
   | (with_reducible exact LeO.refl _)
   | (with_reducible exact LeO.none _)
   | (with_reducible refine LeO.ite ?_ ?_)
   | (with_reducible refine LeO.bind ?_ (fun _=>?_))
   | exact ih0 _ _ _ _ _
   | exact impl_GroupsAt.mono _ _ _ _
   | exact laws_eqParty.mono _ _ _ _ _
   | exact laws_toParty.mono _ _ _
   | exact spec_GroupsAt.mono _ _ _ _
   | exact LeO.none _
   | refine LeO.ite ?_ ?_
   | refine LeO.bind ?_ (fun _=>?_)
set_option maxHeartbeats 8000000 in
set_option maxRecDepth 100000 in
theorem laws_FnExactGroupsAt.calls (k:Nat) (a0_0:Int) (A0_1:Option Addr) (c0_1:Nat) (l0_1:List (S79)) (a1:Int) (r:Bool) (w:World) (hr0_1:Kd.C k79 w A0_1 l0_1.length l0_1) (hc0_1:l0_1.length≤c0_1) (h:laws_FnExactGroupsAt.f k a0_0 l0_1 a1=some r) (hT:Tz w) :
  Calls Tryd.prog 4 #[.agg #[.int .i64 a0_0,.slice A0_1 l0_1.length c0_1],.int .i64 a1] w fun e w'=>e=.returned (.bool r)∧Below w.heap.size w w':=by
 have hu24:=Tryd.underlying24
 have hu30:=Tryd.underlying30
 have HR0_1:=zz31 hr0_1
 have HC0_1:=zz31 hc0_1
 clear hr0_1 hc0_1
 have HB:=zz31 (Below.refl w.heap.size w)
 have HT:=zz31 hT
 clear hT
 have H:((laws_szParty.f a0_0 l0_1 1048576).bind fun t271=>(if t271 < 0 then (some true) else ((laws_toParty.f k a0_0 l0_1).bind fun bt272=>((spec_GroupsAt.f k bt272.1 bt272.2 a1).bind fun bt276=>((laws_toParty.f k a0_0 l0_1).bind fun bt278=>((impl_GroupsAt.f k bt278.1 bt278.2 a1).bind fun bt283=>(if bt283.1=bt276.1 then (laws_FnExactGroupsAt.j0 k (bt283.2 != bt276.2) a0_0 l0_1 bt278.1 bt278.2) else (laws_FnExactGroupsAt.j0 k true a0_0 l0_1 bt278.1 bt278.2))))))))=some r:=h
 clear h
 replace H:=zz30.mp H
 obtain ⟨t271,A30,H⟩:=H
 replace H:(if t271 < 0 then (some true) else ((laws_toParty.f k a0_0 l0_1).bind fun bt272=>((spec_GroupsAt.f k bt272.1 bt272.2 a1).bind fun bt276=>((laws_toParty.f k a0_0 l0_1).bind fun bt278=>((impl_GroupsAt.f k bt278.1 bt278.2 a1).bind fun bt283=>(if bt283.1=bt276.1 then (laws_FnExactGroupsAt.j0 k (bt283.2 != bt276.2) a0_0 l0_1 bt278.1 bt278.2) else (laws_FnExactGroupsAt.j0 k true a0_0 l0_1 bt278.1 bt278.2)))))))=some r:=H
 have A3:=zz31 A30
 clear A30
 by_cases c4:t271 < 0
 ·rw [if_pos c4] at H
  have c4b0:decide (t271 < 0)=true:=decide_eq_true c4
  clear c4
  obtain rfl:=Option.some.inj H
  go_enter Tryd.func4,Tryd.ntmps4
  go_wp2_with (first | ((with_reducible refine gate_dst (N:=2) rfl ?_);refine box_event ?hg (N:=2) ?hd (cs:=#[.int .i64 a0_0,.slice A0_1 l0_1.length c0_1]) (t:=24) ?hr ?_;(case hd=>rfl);(case hg=>rfl);(case hr=>first | (go_simp;done) | (go_simp;rfl));intro gb270 hg w5 hbox hb;have n0_:=zz31 (zz4 (by repeat first | exact HB.out | apply zz2 | apply zz0 | apply zz1) hb);have n1_:=zz31 (hbox);have n2_:=zz31 ((by rw [hg];exact (zz5 (by repeat first | exact HB.out | apply zz2 | apply zz0 | apply zz1)):w.heap.size≤gb270));have n3_:=zz31 ((by rw [hg];exact (zz5 (by repeat first | exact HB.out | apply zz2 | apply zz0 | apply zz1)):w.heap.size≤gb270));clear HB;have HB:=n0_;have BK270:=n1_;have GW270:=n2_;have GE270:=n3_;clear n0_ n1_ n2_ n3_;clear hb hbox hg;have hcz6_0:w5.cell? ⟨gb270,0,none⟩=some (.int .i64 a0_0):=(zz9 BK270.out 0).trans rfl;have hcz6_1:w5.cell? ⟨gb270,1,none⟩=some (.slice A0_1 l0_1.length c0_1):=(zz9 BK270.out 1).trans rfl;have hfz6_0:=zz10 BK270.out 0;have hfz6_1:=zz10 BK270.out 1) | ((with_reducible refine gate_callee (f:=9) rfl ?_);refine goesL_ (some 13) rfl rfl Tryd.func9 (by kernel_rfl) rfl #[.agg #[.int .i64 a0_0,.slice A0_1 l0_1.length c0_1],.int .i64 1048576] rfl (by (try simp only [zz26,zz27,zz28]);first | done | rfl | (simp only [zz24,zz25];rfl)) ?_;(with_reducible refine (laws_szParty.calls a0_0 _ _ l0_1 1048576 t271 _ ?side1 ?side2 A3.out).mono ?_);(case side1=>repeat (first | exact (Kd.C_below HR0_1.out HB.out) | (with_reducible refine zz18 ?_ _) | (with_reducible refine zz19 ?_ _) | (with_reducible refine zz20 ?_)));(case side2=>exact HC0_1.out);rintro e w7 ⟨rfl,hb⟩;refine ⟨_,rfl,?_⟩;have n0_:=zz31 (zz11 (g:=gb270) (o:=.cells #[.int .i64 a0_0,.slice A0_1 l0_1.length c0_1] 24 (0,0)) (by (with_reducible repeat (first | refine zz6 ?_ _ | refine zz7 ?_ | refine zz8 ?_ _));exact BK270.out) hb);have n1_:=zz31 (zz4 (by repeat first | exact HB.out | apply zz2 | apply zz0 | apply zz1 | refine zz3 ?_ GE270.out) hb);clear BK270;clear HB;have BK270:=n0_;have HB:=n1_;clear n0_ n1_;(try clear hb);(try clear hb2);(try clear hk);(try clear hi)))
  go_ret
  exact ⟨by first | rfl | (simp [errW_none,errW_some] <;> rfl) | (simp [*,errW_none,errW_some] <;> rfl),by repeat first | exact HB.out | apply zz2 | apply zz0 | apply zz1 | refine zz3 ?_ GE270.out⟩
 ·rw [if_neg c4] at H
  have c4b0:decide (t271 < 0)=false:=decide_eq_false c4
  clear c4
  replace H:=zz30.mp H
  obtain ⟨⟨t272,t273⟩,A80,H⟩:=H
  replace H:((spec_GroupsAt.f k t272 t273 a1).bind fun bt276=>((laws_toParty.f k a0_0 l0_1).bind fun bt278=>((impl_GroupsAt.f k bt278.1 bt278.2 a1).bind fun bt283=>(if bt283.1=bt276.1 then (laws_FnExactGroupsAt.j0 k (bt283.2 != bt276.2) a0_0 l0_1 bt278.1 bt278.2) else (laws_FnExactGroupsAt.j0 k true a0_0 l0_1 bt278.1 bt278.2)))))=some r:=H
  have A8:=zz31 A80
  clear A80
  replace H:=zz30.mp H
  obtain ⟨⟨t276,t277⟩,A90,H⟩:=H
  replace H:((laws_toParty.f k a0_0 l0_1).bind fun bt278=>((impl_GroupsAt.f k bt278.1 bt278.2 a1).bind fun bt283=>(if bt283.1=t276 then (laws_FnExactGroupsAt.j0 k (bt283.2 != t277) a0_0 l0_1 bt278.1 bt278.2) else (laws_FnExactGroupsAt.j0 k true a0_0 l0_1 bt278.1 bt278.2))))=some r:=H
  have A9:=zz31 A90
  clear A90
  replace H:=zz30.mp H
  obtain ⟨⟨t278,t279⟩,A100,H⟩:=H
  replace H:((impl_GroupsAt.f k t278 t279 a1).bind fun bt283=>(if bt283.1=t276 then (laws_FnExactGroupsAt.j0 k (bt283.2 != t277) a0_0 l0_1 t278 t279) else (laws_FnExactGroupsAt.j0 k true a0_0 l0_1 t278 t279)))=some r:=H
  have A10:=zz31 A100
  clear A100
  replace H:=zz30.mp H
  obtain ⟨⟨t283,t284⟩,A110,H⟩:=H
  replace H:(if t283=t276 then (laws_FnExactGroupsAt.j0 k (t284 != t277) a0_0 l0_1 t278 t279) else (laws_FnExactGroupsAt.j0 k true a0_0 l0_1 t278 t279))=some r:=H
  have A11:=zz31 A110
  clear A110
  have HC12:=zz31 H
  clear H
  go_enter Tryd.func4,Tryd.ntmps4
  go_upto_region 8 with (first | ((with_reducible refine gate_dst (N:=2) rfl ?_);refine box_event ?hg (N:=2) ?hd (cs:=#[.int .i64 a0_0,.slice A0_1 l0_1.length c0_1]) (t:=24) ?hr ?_;(case hd=>rfl);(case hg=>rfl);(case hr=>first | (go_simp;done) | (go_simp;rfl));intro gb270 hg w13 hbox hb;have n0_:=zz31 (zz4 (by repeat first | exact HB.out | apply zz2 | apply zz0 | apply zz1) hb);have n1_:=zz31 (hbox);have n2_:=zz31 ((by rw [hg];exact (zz5 (by repeat first | exact HB.out | apply zz2 | apply zz0 | apply zz1)):w.heap.size≤gb270));have n3_:=zz31 ((by rw [hg];exact (zz5 (by repeat first | exact HB.out | apply zz2 | apply zz0 | apply zz1)):w.heap.size≤gb270));clear HB;have HB:=n0_;have BK270:=n1_;have GW270:=n2_;have GE270:=n3_;clear n0_ n1_ n2_ n3_;clear hb hbox hg;have hcz14_0:w13.cell? ⟨gb270,0,none⟩=some (.int .i64 a0_0):=(zz9 BK270.out 0).trans rfl;have hcz14_1:w13.cell? ⟨gb270,1,none⟩=some (.slice A0_1 l0_1.length c0_1):=(zz9 BK270.out 1).trans rfl;have hfz14_0:=zz10 BK270.out 0;have hfz14_1:=zz10 BK270.out 1) | ((with_reducible refine gate_callee (f:=9) rfl ?_);refine goesL_ (some 13) rfl rfl Tryd.func9 (by kernel_rfl) rfl #[.agg #[.int .i64 a0_0,.slice A0_1 l0_1.length c0_1],.int .i64 1048576] rfl (by (try simp only [zz26,zz27,zz28]);first | done | rfl | (simp only [zz24,zz25];rfl)) ?_;(with_reducible refine (laws_szParty.calls a0_0 _ _ l0_1 1048576 t271 _ ?side1 ?side2 A3.out).mono ?_);(case side1=>repeat (first | exact (Kd.C_below HR0_1.out HB.out) | (with_reducible refine zz18 ?_ _) | (with_reducible refine zz19 ?_ _) | (with_reducible refine zz20 ?_)));(case side2=>exact HC0_1.out);rintro e w15 ⟨rfl,hb⟩;refine ⟨_,rfl,?_⟩;have n0_:=zz31 (zz11 (g:=gb270) (o:=.cells #[.int .i64 a0_0,.slice A0_1 l0_1.length c0_1] 24 (0,0)) (by (with_reducible repeat (first | refine zz6 ?_ _ | refine zz7 ?_ | refine zz8 ?_ _));exact BK270.out) hb);have n1_:=zz31 (zz4 (by repeat first | exact HB.out | apply zz2 | apply zz0 | apply zz1 | refine zz3 ?_ GE270.out) hb);clear BK270;clear HB;have BK270:=n0_;have HB:=n1_;clear n0_ n1_;(try clear hb);(try clear hb2);(try clear hk);(try clear hi);have hcz16_0:w15.cell? ⟨gb270,0,none⟩=some (.int .i64 a0_0):=(zz9 BK270.out 0).trans rfl;have hcz16_1:w15.cell? ⟨gb270,1,none⟩=some (.slice A0_1 l0_1.length c0_1):=(zz9 BK270.out 1).trans rfl;have hfz16_0:=zz10 BK270.out 0;have hfz16_1:=zz10 BK270.out 1) | ((with_reducible refine gate_callee (f:=11) rfl ?_);refine goesL_ (some 18) rfl rfl Tryd.func11 (by kernel_rfl) rfl #[.agg #[.int .i64 a0_0,.slice A0_1 l0_1.length c0_1]] rfl (by (try simp only [zz26,zz27,zz28]);first | done | rfl | (simp only [zz24,zz25];rfl)) ?_;(with_reducible refine (laws_toParty.calls k a0_0 _ _ l0_1 t272 t273 _ ?side1 ?side2 A8.out).mono ?_);(case side1=>repeat (first | exact (Kd.C_below HR0_1.out HB.out) | (with_reducible refine zz18 ?_ _) | (with_reducible refine zz19 ?_ _) | (with_reducible refine zz20 ?_)));(case side2=>exact HC0_1.out);rintro e w17 ⟨v274,rfl,ho0,hb⟩;refine ⟨_,rfl,?_⟩;have n0_:=zz31 (Kd.R_lower ho0 (zz5 (by repeat first | exact HB.out | apply zz2 | apply zz0 | apply zz1 | refine zz3 ?_ GE270.out)));have n1_:=zz31 (zz11 (g:=gb270) (o:=.cells #[.int .i64 a0_0,.slice A0_1 l0_1.length c0_1] 24 (0,0)) (by (with_reducible repeat (first | refine zz6 ?_ _ | refine zz7 ?_ | refine zz8 ?_ _));exact BK270.out) hb);have n2_:=zz31 (zz4 (by repeat first | exact HB.out | apply zz2 | apply zz0 | apply zz1 | refine zz3 ?_ GE270.out) hb);clear BK270;clear HB;have HO275:=n0_;have BK270:=n1_;have HB:=n2_;clear n0_ n1_ n2_;(try clear hb);(try clear hb2);(try clear hk);(try clear hi);(try clear ho0);obtain ⟨Ao18,co18,eo18⟩:=Kd.R_slice HO275.out;subst eo18) | ((with_reducible refine gate_callee (f:=14) rfl ?_);refine goesL_ (some 20) rfl rfl Tryd.func14 (by kernel_rfl) rfl #[.agg #[.int .i64 t272,.slice Ao18 t273.length co18],.int .i64 a1] rfl (by (try simp only [zz26,zz27,zz28]);first | done | rfl | (simp only [zz24,zz25];rfl)) ?_;(with_reducible refine (spec_GroupsAt.calls k t272 _ _ t273 a1 t276 t277 _ ?side1 ?side2 A9.out).mono ?_);(case side1=>repeat (first | exact (Kd.R_reads' HO275.out).2.2 | (with_reducible refine zz18 ?_ _) | (with_reducible refine zz19 ?_ _) | (with_reducible refine zz20 ?_)));(case side2=>exact (Kd.R_reads' HO275.out).2.1);rintro e w19 ⟨rfl,hb⟩;refine ⟨_,rfl,?_⟩;have n0_:=zz31 (Kd.R_below (by (with_reducible repeat (first | apply zz12 | apply zz13 | apply zz14));exact HO275.out) hb);have n1_:=zz31 (zz11 (g:=gb270) (o:=.cells #[.int .i64 a0_0,.slice A0_1 l0_1.length c0_1] 24 (0,0)) (by (with_reducible repeat (first | refine zz6 ?_ _ | refine zz7 ?_ | refine zz8 ?_ _));exact BK270.out) hb);have n2_:=zz31 (zz4 (by repeat first | exact HB.out | apply zz2 | apply zz0 | apply zz1 | refine zz3 ?_ GE270.out) hb);clear HO275;clear BK270;clear HB;have HO275:=n0_;have BK270:=n1_;have HB:=n2_;clear n0_ n1_ n2_;(try clear hb);(try clear hb2);(try clear hk);(try clear hi);have hcz20_0:w19.cell? ⟨gb270,0,none⟩=some (.int .i64 a0_0):=(zz9 BK270.out 0).trans rfl;have hcz20_1:w19.cell? ⟨gb270,1,none⟩=some (.slice A0_1 l0_1.length c0_1):=(zz9 BK270.out 1).trans rfl;have hfz20_0:=zz10 BK270.out 0;have hfz20_1:=zz10 BK270.out 1) | ((with_reducible refine gate_callee (f:=11) rfl ?_);refine goesL_ (some 24) rfl rfl Tryd.func11 (by kernel_rfl) rfl #[.agg #[.int .i64 a0_0,.slice A0_1 l0_1.length c0_1]] rfl (by (try simp only [zz26,zz27,zz28]);first | done | rfl | (simp only [zz24,zz25];rfl)) ?_;(with_reducible refine (laws_toParty.calls k a0_0 _ _ l0_1 t278 t279 _ ?side1 ?side2 A10.out).mono ?_);(case side1=>repeat (first | exact (Kd.C_below HR0_1.out HB.out) | (with_reducible refine zz18 ?_ _) | (with_reducible refine zz19 ?_ _) | (with_reducible refine zz20 ?_)));(case side2=>exact HC0_1.out);rintro e w21 ⟨v280,rfl,ho0,hb⟩;refine ⟨_,rfl,?_⟩;have n0_:=zz31 (Kd.R_elder' (by (with_reducible repeat (first | apply zz12 | apply zz13 | apply zz14));exact HO275.out) (Kd.R_base ho0) hb);have n1_:=zz31 (Kd.R_lower (Kd.R_new' ho0 (Kd.R_lt (by (with_reducible repeat (first | apply zz12 | apply zz13 | apply zz14));exact HO275.out))) (zz5 (by repeat first | exact HB.out | apply zz2 | apply zz0 | apply zz1 | refine zz3 ?_ GE270.out)));have n2_:=zz31 (zz11 (g:=gb270) (o:=.cells #[.int .i64 a0_0,.slice A0_1 l0_1.length c0_1] 24 (0,0)) (by (with_reducible repeat (first | refine zz6 ?_ _ | refine zz7 ?_ | refine zz8 ?_ _));exact BK270.out) hb);have n3_:=zz31 (zz4 (by repeat first | exact HB.out | apply zz2 | apply zz0 | apply zz1 | refine zz3 ?_ GE270.out) hb);clear HO275;clear BK270;clear HB;have HO275:=n0_;have HO281:=n1_;have BK270:=n2_;have HB:=n3_;clear n0_ n1_ n2_ n3_;(try clear hb);(try clear hb2);(try clear hk);(try clear hi);(try clear ho0)) | ((with_reducible refine gate_dst (N:=8) rfl ?_);refine box_event ?hg (N:=8) ?hd (cs:=#[.int .i64 0,.slice none 0 0]) (t:=30) ?hr ?_;(case hd=>rfl);(case hg=>rfl);(case hr=>first | (go_simp;done) | (go_simp;rfl));intro gb282 hg w22 hbox hb;have n0_:=zz31 (Kd.R_below (by (with_reducible repeat (first | apply zz12 | apply zz13 | apply zz14));exact HO275.out) hb);have n1_:=zz31 (Kd.R_below (by (with_reducible repeat (first | apply zz12 | apply zz13 | apply zz14));exact HO281.out) hb);have n2_:=zz31 (zz11 (g:=gb270) (o:=.cells #[.int .i64 a0_0,.slice A0_1 l0_1.length c0_1] 24 (0,0)) (by (with_reducible repeat (first | refine zz6 ?_ _ | refine zz7 ?_ | refine zz8 ?_ _));exact BK270.out) hb);have n3_:=zz31 (zz4 (by repeat first | exact HB.out | apply zz2 | apply zz0 | apply zz1 | refine zz3 ?_ GE270.out) hb);have n4_:=zz31 (hbox);have n5_:=zz31 ((by rw [hg];exact (zz5 (by repeat first | exact HB.out | apply zz2 | apply zz0 | apply zz1 | refine zz3 ?_ GE270.out)):w.heap.size≤gb282));have n6_:=zz31 ((by rw [hg];exact (zz5 (by repeat first | exact HB.out | apply zz2 | apply zz0 | apply zz1 | refine zz3 ?_ GE270.out)):w.heap.size≤gb282));have n7_:=zz31 ((by rw [hg];exact Nat.ne_of_lt (blk_lt (g:=gb270) (o:=.cells #[.int .i64 a0_0,.slice A0_1 l0_1.length c0_1] 24 (0,0)) (by (with_reducible repeat (first | refine zz6 ?_ _ | refine zz7 ?_ | refine zz8 ?_ _));exact BK270.out)):gb270 ≠ gb282));have n8_:=zz31 ((by rw [hg];exact Nat.ne_of_gt (blk_lt (g:=gb270) (o:=.cells #[.int .i64 a0_0,.slice A0_1 l0_1.length c0_1] 24 (0,0)) (by (with_reducible repeat (first | refine zz6 ?_ _ | refine zz7 ?_ | refine zz8 ?_ _));exact BK270.out)):gb282 ≠ gb270));clear HO275;clear HO281;clear BK270;clear HB;have HO275:=n0_;have HO281:=n1_;have BK270:=n2_;have HB:=n3_;have BK282:=n4_;have GW282:=n5_;have GE282:=n6_;have NB270_282:=n7_;have NB282_270:=n8_;clear n0_ n1_ n2_ n3_ n4_ n5_ n6_ n7_ n8_;clear hb hbox hg;have hnb23:=NB282_270.out;have hnc23:=NB270_282.out;have hcz24_0:w22.cell? ⟨gb282,0,none⟩=some (.int .i64 0):=(zz9 BK282.out 0).trans rfl;have hcz24_1:w22.cell? ⟨gb282,1,none⟩=some (.slice none 0 0):=(zz9 BK282.out 1).trans rfl;have hfz24_0:=zz10 BK282.out 0;have hfz24_1:=zz10 BK282.out 1;obtain ⟨Ao25,co25,eo25⟩:=Kd.R_slice HO281.out;subst eo25) | ((with_reducible refine gate_callee (f:=15) rfl ?_);refine goesL_ (some 28) rfl rfl Tryd.func15 (by kernel_rfl) rfl #[.agg #[.int .i64 t278,.slice Ao25 t279.length co25],.int .i64 a1] rfl (by (try simp only [zz26,zz27,zz28]);first | done | rfl | (simp only [zz24,zz25];rfl)) ?_;(with_reducible refine (impl_GroupsAt.calls k t278 _ _ t279 a1 t283 t284 _ ?side1 ?side2 A11.out (HT.out.below (by repeat first | exact HB.out | apply zz2 | apply zz0 | apply zz1 | refine zz3 ?_ GE270.out | refine zz3 ?_ GE282.out))).mono ?_);(case side1=>refine (Kd.R_reads' (e:=74) (base:=w.heap.size) (ok:=fun k_=>(True∧some k_ ≠ (.slice Ao18 t273.length co18:Value).ownBlock)) (n:=t279.length) (c:=co25) ?_).2.2;exact (by (with_reducible repeat (first | apply zz12 | apply zz13 | apply zz14));exact (Kd.R_mono (Kd.R_far (p:=⟨gb282,1,none⟩) (Kd.R_far (p:=⟨gb282,0,none⟩) (Kd.R_types HO281.out BK282.out (by decide)) (fun _ hk=>hk.2) (.int .i64 t278)) (fun _ hk=>hk.2) (.slice Ao25 t279.length co25)) (fun _ h_=>h_.1))));(case side2=>exact (Kd.R_reads' HO281.out).2.1);rintro e w26 ⟨rfl,hb⟩;refine ⟨_,rfl,?_⟩;have n0_:=zz31 (Kd.R_below (by (with_reducible repeat (first | apply zz12 | apply zz13 | apply zz14));exact (Kd.R_mono (Kd.R_far (p:=⟨gb282,1,none⟩) (Kd.R_far (p:=⟨gb282,0,none⟩) (Kd.R_types HO275.out BK282.out (by decide)) (fun _ hk=>hk.2) (.int .i64 t278)) (fun _ hk=>hk.2) (.slice Ao25 t279.length co25)) (fun _ h_=>h_.1))) hb);have n1_:=zz31 (Kd.R_below (by (with_reducible repeat (first | apply zz12 | apply zz13 | apply zz14));exact (Kd.R_mono (Kd.R_far (p:=⟨gb282,1,none⟩) (Kd.R_far (p:=⟨gb282,0,none⟩) (Kd.R_types HO281.out BK282.out (by decide)) (fun _ hk=>hk.2) (.int .i64 t278)) (fun _ hk=>hk.2) (.slice Ao25 t279.length co25)) (fun _ h_=>h_.1))) hb);have n2_:=zz31 (zz11 (g:=gb270) (o:=.cells #[.int .i64 a0_0,.slice A0_1 l0_1.length c0_1] 24 (0,0)) (by (with_reducible repeat (first | refine zz6 ?_ _ | refine zz7 ?_ | refine zz8 ?_ _));refine blk_far ?_ NB270_282.out _;(with_reducible repeat (first | refine zz6 ?_ _ | refine zz7 ?_ | refine zz8 ?_ _));refine blk_far ?_ NB270_282.out _;(with_reducible repeat (first | refine zz6 ?_ _ | refine zz7 ?_ | refine zz8 ?_ _));exact BK270.out) hb);have n3_:=zz31 (zz11 (g:=gb282) (o:=.cells #[.int .i64 t278,.slice Ao25 t279.length co25] 30 (0,0)) (by (with_reducible repeat (first | refine zz6 ?_ _ | refine zz7 ?_ | refine zz8 ?_ _));refine blk_put (cs:=#[.int .i64 t278,.slice none 0 0]) ?_ 1 _ rfl;(with_reducible repeat (first | refine zz6 ?_ _ | refine zz7 ?_ | refine zz8 ?_ _));refine blk_put (cs:=#[.int .i64 0,.slice none 0 0]) ?_ 0 _ rfl;(with_reducible repeat (first | refine zz6 ?_ _ | refine zz7 ?_ | refine zz8 ?_ _));exact BK282.out) hb);have n4_:=zz31 (zz4 (by repeat first | exact HB.out | apply zz2 | apply zz0 | apply zz1 | refine zz3 ?_ GE270.out | refine zz3 ?_ GE282.out) hb);clear HO275;clear HO281;clear BK270;clear BK282;clear HB;have HO275:=n0_;have HO281:=n1_;have BK270:=n2_;have BK282:=n3_;have HB:=n4_;clear n0_ n1_ n2_ n3_ n4_;(try clear hb);(try clear hb2);(try clear hk);(try clear hi)))
  (try simp only [Act.put,zz21,zz22,zz23])
  go_cut [38] (fun v38 wc=>∃ (kq:Nat) (x38_11:Bool),v38=.bool x38_11∧Aside0 (laws_FnExactGroupsAt.j0 kq x38_11 a0_0 l0_1 t278 t279=some r)∧Aside0 (kq≤k)∧Aside0 (Kd.R k74 74 wc w.heap.size (fun _=>True) (.slice Ao25 t279.length co25) t279)∧Aside0 (wc.heap[gb270]?=some (.cells #[.int .i64 a0_0,(.slice A0_1 l0_1.length c0_1)] 24 (0,0)))∧Aside0 (wc.heap[gb282]?=some (.cells #[.int .i64 t278,(.slice Ao25 t279.length co25)] 30 (0,0)))∧Aside0 (Below w.heap.size w wc))
  case first =>
   have H:=HC12.out
   clear HC12
   by_cases c27:t283=t276
   ·rw [if_pos c27] at H
    have c27b0:(t283 == t276)=true:=beq_iff_eq.mpr c27
    have c27b1:(t283 != t276)=false:=bne_eq_false_iff_eq.mpr c27
    clear c27
    (first | rw [c27b0] | (simp only [i64_w,i32_w];rw [c27b0]) | skip)
    have H':=zz31 H
    clear H
    go_wp2
    go_meet
    case rel=>exact ⟨_,((t284 != t277)),(by first | rfl | (simp;done) | (simp [*];done)),H',⟨by first | omega | exact Nat.le_refl _⟩,⟨by (with_reducible repeat (first | apply zz12 | apply zz13 | apply zz14));exact Kd.R_mono HO281.out (fun _ hk=>trivial)⟩,⟨by (with_reducible repeat (first | refine zz6 ?_ _ | refine zz7 ?_ | refine zz8 ?_ _));exact BK270.out⟩,⟨by (with_reducible repeat (first | refine zz6 ?_ _ | refine zz7 ?_ | refine zz8 ?_ _));exact BK282.out⟩,⟨by repeat first | exact HB.out | apply zz2 | apply zz0 | apply zz1 | refine zz3 ?_ GE270.out | refine zz3 ?_ GE282.out⟩⟩
   ·rw [if_neg c27] at H
    have c27b0:(t283 == t276)=false:=beq_eq_false_iff_ne.mpr c27
    have c27b1:(t283 != t276)=true:=bne_iff_ne.mpr c27
    (first | rw [c27b0] | (simp only [i64_w,i32_w];rw [c27b0]) | skip)
    have H':=zz31 H
    clear H
    go_wp2
    go_meet
    case rel=>exact ⟨_,(true),(by first | rfl | (simp;done) | (simp [*];done)),H',⟨by first | omega | exact Nat.le_refl _⟩,⟨by (with_reducible repeat (first | apply zz12 | apply zz13 | apply zz14));exact Kd.R_mono HO281.out (fun _ hk=>trivial)⟩,⟨by (with_reducible repeat (first | refine zz6 ?_ _ | refine zz7 ?_ | refine zz8 ?_ _));exact BK270.out⟩,⟨by (with_reducible repeat (first | refine zz6 ?_ _ | refine zz7 ?_ | refine zz8 ?_ _));exact BK282.out⟩,⟨by repeat first | exact HB.out | apply zz2 | apply zz0 | apply zz1 | refine zz3 ?_ GE270.out | refine zz3 ?_ GE282.out⟩⟩
  case rest =>
   clear HC12
   try clear c1
   try clear c2
   try clear p2
   try clear c4
   try clear c4b0
   try clear c9
   try clear c11
   try clear c14
   try clear c15
   try clear c23
   try clear c27
   try clear c27b0
   try clear c27b1
   try clear hcz14_0
   try clear hcz14_1
   try clear hcz16_0
   try clear hcz16_1
   try clear hcz20_0
   try clear hcz20_1
   try clear hcz24_0
   try clear hcz24_1
   try clear hcz6_0
   try clear hcz6_1
   try clear hfz14_0
   try clear hfz14_1
   try clear hfz16_0
   try clear hfz16_1
   try clear hfz20_0
   try clear hfz20_1
   try clear hfz24_0
   try clear hfz24_1
   try clear hfz6_0
   try clear hfz6_1
   obtain ⟨kq,x38_11,rfl,HA,HJ11,HO_283001,BK270,BK282,HB⟩:=hcut
   cases kq with
   | zero=>exact absurd HA.out (by simp [laws_FnExactGroupsAt.j0])
   | succ kj11 =>
    have H:=HA.out
    clear HA
    simp only [laws_FnExactGroupsAt.j0] at H
    by_cases c28:x38_11=true
    ·subst c28
     have H1:(some false)=some r:=by rw [if_pos rfl] at H;exact H
     clear H
     have H:=H1
     clear H1
     obtain rfl:=Option.some.inj H
     go_wp2
     go_ret
     exact ⟨by first | rfl | (simp [errW_none,errW_some] <;> rfl) | (simp [*,errW_none,errW_some] <;> rfl),by repeat first | exact HB.out | apply zz2 | apply zz0 | apply zz1 | refine zz3 ?_ GE270.out | refine zz3 ?_ GE282.out⟩
    ·replace c28:=Bool.eq_false_iff.mpr c28
     subst c28
     have H1:((laws_toParty.f kj11 a0_0 l0_1).bind fun bt285=>((laws_eqParty.f kj11 t278 t279 bt285.1 bt285.2).bind fun t289=>(if t289=true then (some true) else (some false))))=some r:=by rw [if_neg (show ¬ (false=true) by decide)] at H;exact H
     clear H
     have H:=H1
     clear H1
     replace H:=zz30.mp H
     obtain ⟨⟨t285,t286⟩,A290,H⟩:=H
     replace H:((laws_eqParty.f kj11 t278 t279 t285 t286).bind fun t289=>(if t289=true then (some true) else (some false)))=some r:=H
     have A29:=zz31 A290
     clear A290
     replace H:=zz30.mp H
     obtain ⟨t289,A300,H⟩:=H
     replace H:(if t289=true then (some true) else (some false))=some r:=H
     have A30:=zz31 A300
     clear A300
     by_cases c31:t289=true
     ·subst c31
      have H1:(some true)=some r:=by rw [if_pos rfl] at H;exact H
      clear H
      have H:=H1
      clear H1
      obtain rfl:=Option.some.inj H
      try go_wp2
      have n0_:=zz31 (zz14 HO_283001.out)
      have n1_:=zz31 (zz7 BK270.out)
      have n2_:=zz31 (zz7 BK282.out)
      have n3_:=zz31 (zz1 HB.out)
      clear HO_283001
      clear BK270
      clear BK282
      clear HB
      have HO_283001:=n0_
      have BK270:=n1_
      have BK282:=n2_
      have HB:=n3_
      clear n0_ n1_ n2_ n3_
      refine start_ (n:=5) (S:=fun w'=>w'.cell? ⟨gb282,0,none⟩=some (.int .i64 t278)∧w'.cell? ⟨gb282,1,none⟩=some (.slice Ao25 t279.length co25)∧w'.cell? ⟨gb270,0,none⟩=some (.int .i64 a0_0)∧w'.cell? ⟨gb270,1,none⟩=some (.slice A0_1 l0_1.length c0_1)) (ds:=[]) #[F,F,F,F,F] (by kernel_rfl) rfl rfl ⟨(zz9 BK282.out 0).trans rfl,(zz9 BK282.out 1).trans rfl,(zz9 BK270.out 0).trans rfl,(zz9 BK270.out 1).trans rfl⟩ (fun hHeld=>?_)
      generalize wc.drew=w32 at HO_283001 BK270 BK282 HB hHeld ⊢
      refine take_ (i:=0) (N:=some 39) (v:=?_) (a':=?_) #[T,F,F,F,F] rfl rfl (by kernel_rfl) (fun _ _ _ h=>h) (Or.inl ⟨by rfl,?_⟩) hHeld ?_ ?_
      rotate_left
      ·rintro w' ⟨s0,s1,s2,s3⟩
       go_simp
       with_reducible rfl
      rotate_left
      ·simp only [Act.put,zz21,zz22,zz23,i64_w,i32_w]
       rfl
      refine take_ (i:=1) (N:=some 40) (v:=?_) (a':=?_) #[T,T,F,F,F] rfl rfl (by kernel_rfl) (fun _ _ _ h=>h) (Or.inl ⟨by rfl,?_⟩) hHeld ?_ ?_
      rotate_left
      ·rintro w' ⟨s0,s1,s2,s3⟩
       go_simp
       with_reducible rfl
      rotate_left
      ·simp only [Act.put,zz21,zz22,zz23,i64_w,i32_w]
       rfl
      refine one_ (i:=2) (N:=some 41) #[T,T,T,F,F] rfl rfl (by kernel_rfl) (by decide) (fun K hK=>?_)
      refine goes_ Tryd.func11 (by kernel_rfl) rfl #[.agg #[.int .i64 a0_0,.slice A0_1 l0_1.length c0_1]] (by rfl) rfl rfl (by (try simp only [zz26,zz27,zz28]);first | done | rfl | (simp only [zz24,zz25];rfl)) ?_
      with_reducible refine (laws_toParty.calls kj11 a0_0 _ _ l0_1 t285 t286 _ ?side1 ?side2 A29.out).mono ?_
      (case side1=>repeat (first | exact (Kd.C_below HR0_1.out HB.out) | (with_reducible refine zz18 ?_ _) | (with_reducible refine zz19 ?_ _) | (with_reducible refine zz20 ?_)))
      (case side2=>exact HC0_1.out)
      rintro e w33 ⟨v287,rfl,ho0,hb⟩
      refine ⟨_,rfl,?_⟩
      have n0_:=zz31 (Kd.R_elder' (by (with_reducible repeat (first | apply zz12 | apply zz13 | apply zz14));exact HO_283001.out) (Kd.R_base ho0) hb)
      have n1_:=zz31 (Kd.R_lower (Kd.R_new' ho0 (Kd.R_lt (by (with_reducible repeat (first | apply zz12 | apply zz13 | apply zz14));exact HO_283001.out))) (zz5 (by repeat first | exact HB.out | apply zz2 | apply zz0 | apply zz1 | refine zz3 ?_ GE270.out | refine zz3 ?_ GE282.out)))
      have n2_:=zz31 (zz11 (g:=gb270) (o:=.cells #[.int .i64 a0_0,.slice A0_1 l0_1.length c0_1] 24 (0,0)) (by (with_reducible repeat (first | refine zz6 ?_ _ | refine zz7 ?_ | refine zz8 ?_ _));exact BK270.out) hb)
      have n3_:=zz31 (zz11 (g:=gb282) (o:=.cells #[.int .i64 t278,.slice Ao25 t279.length co25] 30 (0,0)) (by (with_reducible repeat (first | refine zz6 ?_ _ | refine zz7 ?_ | refine zz8 ?_ _));exact BK282.out) hb)
      have n4_:=zz31 (zz4 (by repeat first | exact HB.out | apply zz2 | apply zz0 | apply zz1 | refine zz3 ?_ GE270.out | refine zz3 ?_ GE282.out) hb)
      clear HO_283001
      clear BK270
      clear BK282
      clear HB
      have HO_283001:=n0_
      have HO288:=n1_
      have BK270:=n2_
      have BK282:=n3_
      have HB:=n4_
      clear n0_ n1_ n2_ n3_ n4_
      (try clear hb)
      (try clear hb2)
      (try clear hk)
      (try clear hi)
      (try clear ho0)
      obtain ⟨Ao34,co34,eo34⟩:=Kd.R_slice HO288.out
      (first | subst eo34 | (injection eo34 with f1_ f2_ f3_;have f4_:=f1_.symm;have f5_:=f3_.symm;clear f1_ f2_ f3_;subst f4_;subst f5_))
      refine hK.out _ _ ⟨(zz9 BK282.out 0).trans rfl,(zz9 BK282.out 1).trans rfl,(zz9 BK270.out 0).trans rfl,(zz9 BK270.out 1).trans rfl⟩ (fun hHeld=>?_)
      clear hK K
      refine norm_ (a':=?_) ?_ ?_
      rotate_left
      ·show Act.put _ (some 41) _=_
       simp only [Act.put,zz21,zz22,zz23,i64_w,i32_w]
       rfl
      refine one_ (i:=3) (N:=some 42) #[T,T,T,T,F] rfl rfl (by kernel_rfl) (by decide) (fun K hK=>?_)
      refine goes_ Tryd.func13 (by kernel_rfl) rfl #[.agg #[.int .i64 t278,.slice Ao25 t279.length co25],.agg #[.int .i64 t285,.slice Ao34 t286.length co34]] (by rfl) rfl rfl (by (try simp only [zz26,zz27,zz28]);first | done | rfl | (simp only [zz24,zz25];rfl)) ?_
      with_reducible refine (laws_eqParty.calls kj11 t278 _ _ t279 t285 _ _ t286 true _ ?side1 ?side2 ?side3 ?side4 A30.out).mono ?_
      (case side1=>repeat (first | exact (Kd.R_reads' HO_283001.out).2.2 | (with_reducible refine zz18 ?_ _) | (with_reducible refine zz19 ?_ _) | (with_reducible refine zz20 ?_)))
      (case side2=>exact (Kd.R_reads' HO_283001.out).2.1)
      (case side3=>repeat (first | exact (Kd.R_reads' HO288.out).2.2 | (with_reducible refine zz18 ?_ _) | (with_reducible refine zz19 ?_ _) | (with_reducible refine zz20 ?_)))
      (case side4=>exact (Kd.R_reads' HO288.out).2.1)
      rintro e w35 ⟨rfl,hb⟩
      refine ⟨_,rfl,?_⟩
      have n0_:=zz31 (Kd.R_below (by (with_reducible repeat (first | apply zz12 | apply zz13 | apply zz14));exact HO_283001.out) hb)
      have n1_:=zz31 (Kd.R_below (by (with_reducible repeat (first | apply zz12 | apply zz13 | apply zz14));exact HO288.out) hb)
      have n2_:=zz31 (zz11 (g:=gb270) (o:=.cells #[.int .i64 a0_0,.slice A0_1 l0_1.length c0_1] 24 (0,0)) (by (with_reducible repeat (first | refine zz6 ?_ _ | refine zz7 ?_ | refine zz8 ?_ _));exact BK270.out) hb)
      have n3_:=zz31 (zz11 (g:=gb282) (o:=.cells #[.int .i64 t278,.slice Ao25 t279.length co25] 30 (0,0)) (by (with_reducible repeat (first | refine zz6 ?_ _ | refine zz7 ?_ | refine zz8 ?_ _));exact BK282.out) hb)
      have n4_:=zz31 (zz4 (by repeat first | exact HB.out | apply zz2 | apply zz0 | apply zz1 | refine zz3 ?_ GE270.out | refine zz3 ?_ GE282.out) hb)
      clear HO_283001
      clear HO288
      clear BK270
      clear BK282
      clear HB
      have HO_283001:=n0_
      have HO288:=n1_
      have BK270:=n2_
      have BK282:=n3_
      have HB:=n4_
      clear n0_ n1_ n2_ n3_ n4_
      (try clear hb)
      (try clear hb2)
      (try clear hk)
      (try clear hi)
      refine hK.out _ _ ⟨(zz9 BK282.out 0).trans rfl,(zz9 BK282.out 1).trans rfl,(zz9 BK270.out 0).trans rfl,(zz9 BK270.out 1).trans rfl⟩ (fun hHeld=>?_)
      clear hK K
      refine norm_ (a':=?_) ?_ ?_
      rotate_left
      ·show Act.put _ (some 42) _=_
       simp only [Act.put,zz21,zz22,zz23,i64_w,i32_w]
       rfl
      refine pure_ (i:=4) (N:=some 43) (v:=?_) (a':=?_) #[T,T,T,T,T] rfl rfl (by kernel_rfl) (fun _ _ _ h=>h) (Or.inl ⟨by rfl,?_⟩) ?_ ?_
      rotate_left
      ·intro w'
       go_simp
       with_reducible rfl
      rotate_left
      ·simp only [Act.put,zz21,zz22,zz23,i64_w,i32_w]
       rfl
      refine done_ (by kernel_rfl) ?_
      try go_wp2
      go_ret
      exact ⟨by first | rfl | (simp [errW_none,errW_some] <;> rfl) | (simp [*,errW_none,errW_some] <;> rfl),by repeat first | exact HB.out | apply zz2 | apply zz0 | apply zz1 | refine zz3 ?_ GE270.out | refine zz3 ?_ GE282.out⟩
     ·replace c31:=Bool.eq_false_iff.mpr c31
      subst c31
      have H1:(some false)=some r:=by rw [if_neg (show ¬ (false=true) by decide)] at H;exact H
      clear H
      have H:=H1
      clear H1
      obtain rfl:=Option.some.inj H
      try go_wp2
      have n0_:=zz31 (zz14 HO_283001.out)
      have n1_:=zz31 (zz7 BK270.out)
      have n2_:=zz31 (zz7 BK282.out)
      have n3_:=zz31 (zz1 HB.out)
      clear HO_283001
      clear BK270
      clear BK282
      clear HB
      have HO_283001:=n0_
      have BK270:=n1_
      have BK282:=n2_
      have HB:=n3_
      clear n0_ n1_ n2_ n3_
      refine start_ (n:=5) (S:=fun w'=>w'.cell? ⟨gb282,0,none⟩=some (.int .i64 t278)∧w'.cell? ⟨gb282,1,none⟩=some (.slice Ao25 t279.length co25)∧w'.cell? ⟨gb270,0,none⟩=some (.int .i64 a0_0)∧w'.cell? ⟨gb270,1,none⟩=some (.slice A0_1 l0_1.length c0_1)) (ds:=[]) #[F,F,F,F,F] (by kernel_rfl) rfl rfl ⟨(zz9 BK282.out 0).trans rfl,(zz9 BK282.out 1).trans rfl,(zz9 BK270.out 0).trans rfl,(zz9 BK270.out 1).trans rfl⟩ (fun hHeld=>?_)
      generalize wc.drew=w36 at HO_283001 BK270 BK282 HB hHeld ⊢
      refine take_ (i:=0) (N:=some 39) (v:=?_) (a':=?_) #[T,F,F,F,F] rfl rfl (by kernel_rfl) (fun _ _ _ h=>h) (Or.inl ⟨by rfl,?_⟩) hHeld ?_ ?_
      rotate_left
      ·rintro w' ⟨s0,s1,s2,s3⟩
       go_simp
       with_reducible rfl
      rotate_left
      ·simp only [Act.put,zz21,zz22,zz23,i64_w,i32_w]
       rfl
      refine take_ (i:=1) (N:=some 40) (v:=?_) (a':=?_) #[T,T,F,F,F] rfl rfl (by kernel_rfl) (fun _ _ _ h=>h) (Or.inl ⟨by rfl,?_⟩) hHeld ?_ ?_
      rotate_left
      ·rintro w' ⟨s0,s1,s2,s3⟩
       go_simp
       with_reducible rfl
      rotate_left
      ·simp only [Act.put,zz21,zz22,zz23,i64_w,i32_w]
       rfl
      refine one_ (i:=2) (N:=some 41) #[T,T,T,F,F] rfl rfl (by kernel_rfl) (by decide) (fun K hK=>?_)
      refine goes_ Tryd.func11 (by kernel_rfl) rfl #[.agg #[.int .i64 a0_0,.slice A0_1 l0_1.length c0_1]] (by rfl) rfl rfl (by (try simp only [zz26,zz27,zz28]);first | done | rfl | (simp only [zz24,zz25];rfl)) ?_
      with_reducible refine (laws_toParty.calls kj11 a0_0 _ _ l0_1 t285 t286 _ ?side1 ?side2 A29.out).mono ?_
      (case side1=>repeat (first | exact (Kd.C_below HR0_1.out HB.out) | (with_reducible refine zz18 ?_ _) | (with_reducible refine zz19 ?_ _) | (with_reducible refine zz20 ?_)))
      (case side2=>exact HC0_1.out)
      rintro e w37 ⟨v287,rfl,ho0,hb⟩
      refine ⟨_,rfl,?_⟩
      have n0_:=zz31 (Kd.R_elder' (by (with_reducible repeat (first | apply zz12 | apply zz13 | apply zz14));exact HO_283001.out) (Kd.R_base ho0) hb)
      have n1_:=zz31 (Kd.R_lower (Kd.R_new' ho0 (Kd.R_lt (by (with_reducible repeat (first | apply zz12 | apply zz13 | apply zz14));exact HO_283001.out))) (zz5 (by repeat first | exact HB.out | apply zz2 | apply zz0 | apply zz1 | refine zz3 ?_ GE270.out | refine zz3 ?_ GE282.out)))
      have n2_:=zz31 (zz11 (g:=gb270) (o:=.cells #[.int .i64 a0_0,.slice A0_1 l0_1.length c0_1] 24 (0,0)) (by (with_reducible repeat (first | refine zz6 ?_ _ | refine zz7 ?_ | refine zz8 ?_ _));exact BK270.out) hb)
      have n3_:=zz31 (zz11 (g:=gb282) (o:=.cells #[.int .i64 t278,.slice Ao25 t279.length co25] 30 (0,0)) (by (with_reducible repeat (first | refine zz6 ?_ _ | refine zz7 ?_ | refine zz8 ?_ _));exact BK282.out) hb)
      have n4_:=zz31 (zz4 (by repeat first | exact HB.out | apply zz2 | apply zz0 | apply zz1 | refine zz3 ?_ GE270.out | refine zz3 ?_ GE282.out) hb)
      clear HO_283001
      clear BK270
      clear BK282
      clear HB
      have HO_283001:=n0_
      have HO288:=n1_
      have BK270:=n2_
      have BK282:=n3_
      have HB:=n4_
      clear n0_ n1_ n2_ n3_ n4_
      (try clear hb)
      (try clear hb2)
      (try clear hk)
      (try clear hi)
      (try clear ho0)
      obtain ⟨Ao38,co38,eo38⟩:=Kd.R_slice HO288.out
      (first | subst eo38 | (injection eo38 with f1_ f2_ f3_;have f4_:=f1_.symm;have f5_:=f3_.symm;clear f1_ f2_ f3_;subst f4_;subst f5_))
      refine hK.out _ _ ⟨(zz9 BK282.out 0).trans rfl,(zz9 BK282.out 1).trans rfl,(zz9 BK270.out 0).trans rfl,(zz9 BK270.out 1).trans rfl⟩ (fun hHeld=>?_)
      clear hK K
      refine norm_ (a':=?_) ?_ ?_
      rotate_left
      ·show Act.put _ (some 41) _=_
       simp only [Act.put,zz21,zz22,zz23,i64_w,i32_w]
       rfl
      refine one_ (i:=3) (N:=some 42) #[T,T,T,T,F] rfl rfl (by kernel_rfl) (by decide) (fun K hK=>?_)
      refine goes_ Tryd.func13 (by kernel_rfl) rfl #[.agg #[.int .i64 t278,.slice Ao25 t279.length co25],.agg #[.int .i64 t285,.slice Ao38 t286.length co38]] (by rfl) rfl rfl (by (try simp only [zz26,zz27,zz28]);first | done | rfl | (simp only [zz24,zz25];rfl)) ?_
      with_reducible refine (laws_eqParty.calls kj11 t278 _ _ t279 t285 _ _ t286 false _ ?side1 ?side2 ?side3 ?side4 A30.out).mono ?_
      (case side1=>repeat (first | exact (Kd.R_reads' HO_283001.out).2.2 | (with_reducible refine zz18 ?_ _) | (with_reducible refine zz19 ?_ _) | (with_reducible refine zz20 ?_)))
      (case side2=>exact (Kd.R_reads' HO_283001.out).2.1)
      (case side3=>repeat (first | exact (Kd.R_reads' HO288.out).2.2 | (with_reducible refine zz18 ?_ _) | (with_reducible refine zz19 ?_ _) | (with_reducible refine zz20 ?_)))
      (case side4=>exact (Kd.R_reads' HO288.out).2.1)
      rintro e w39 ⟨rfl,hb⟩
      refine ⟨_,rfl,?_⟩
      have n0_:=zz31 (Kd.R_below (by (with_reducible repeat (first | apply zz12 | apply zz13 | apply zz14));exact HO_283001.out) hb)
      have n1_:=zz31 (Kd.R_below (by (with_reducible repeat (first | apply zz12 | apply zz13 | apply zz14));exact HO288.out) hb)
      have n2_:=zz31 (zz11 (g:=gb270) (o:=.cells #[.int .i64 a0_0,.slice A0_1 l0_1.length c0_1] 24 (0,0)) (by (with_reducible repeat (first | refine zz6 ?_ _ | refine zz7 ?_ | refine zz8 ?_ _));exact BK270.out) hb)
      have n3_:=zz31 (zz11 (g:=gb282) (o:=.cells #[.int .i64 t278,.slice Ao25 t279.length co25] 30 (0,0)) (by (with_reducible repeat (first | refine zz6 ?_ _ | refine zz7 ?_ | refine zz8 ?_ _));exact BK282.out) hb)
      have n4_:=zz31 (zz4 (by repeat first | exact HB.out | apply zz2 | apply zz0 | apply zz1 | refine zz3 ?_ GE270.out | refine zz3 ?_ GE282.out) hb)
      clear HO_283001
      clear HO288
      clear BK270
      clear BK282
      clear HB
      have HO_283001:=n0_
      have HO288:=n1_
      have BK270:=n2_
      have BK282:=n3_
      have HB:=n4_
      clear n0_ n1_ n2_ n3_ n4_
      (try clear hb)
      (try clear hb2)
      (try clear hk)
      (try clear hi)
      refine hK.out _ _ ⟨(zz9 BK282.out 0).trans rfl,(zz9 BK282.out 1).trans rfl,(zz9 BK270.out 0).trans rfl,(zz9 BK270.out 1).trans rfl⟩ (fun hHeld=>?_)
      clear hK K
      refine norm_ (a':=?_) ?_ ?_
      rotate_left
      ·show Act.put _ (some 42) _=_
       simp only [Act.put,zz21,zz22,zz23,i64_w,i32_w]
       rfl
      refine pure_ (i:=4) (N:=some 43) (v:=?_) (a':=?_) #[T,T,T,T,T] rfl rfl (by kernel_rfl) (fun _ _ _ h=>h) (Or.inl ⟨by rfl,?_⟩) ?_ ?_
      rotate_left
      ·intro w'
       go_simp
       with_reducible rfl
      rotate_left
      ·simp only [Act.put,zz21,zz22,zz23,i64_w,i32_w]
       rfl
      refine done_ (by kernel_rfl) ?_
      try go_wp2
      go_ret
      exact ⟨by first | rfl | (simp [errW_none,errW_some] <;> rfl) | (simp [*,errW_none,errW_some] <;> rfl),by repeat first | exact HB.out | apply zz2 | apply zz0 | apply zz1 | refine zz3 ?_ GE270.out | refine zz3 ?_ GE282.out⟩

end Go.Proofs.YtifkaefccghgdaaDoor.P
