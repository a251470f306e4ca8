-- PRINTED by print.py (a twelfth state) out of the translation. Not trusted: Lean checks it.
import Derived.Test.YtialimbdkokdcaaDoorPx0
import Derived.Test.YtialimbdkokdcaaDoorPx1
import Derived.Test.YtialimbdkokdcaaDoorPx2
import Derived.Test.YtialimbdkokdcaaDoorPx4
import Derived.Test.YtialimbdkokdcaaDoorPx5
import Derived.Test.YtialimbdkokdcaaDoorPx6
namespace Go.Proofs.YtialimbdkokdcaaDoor.P
open Go.RowKit Go.Proofs.YtialimbdkokdcaaDoorW.PrintWords Go.Proofs.YtialimbdkokdcaaDoorW.PrintLast Go.Proofs.YtialimbdkokdcaaDoorW.PrintMore
open Bool renaming true → T, false → F
attribute [local go_sem] max2_int min2_int max_two min_two max_three min_three max_four min_four   -- for this text's walks alone
set_option linter.unusedVariables false
set_option linter.unusedSimpArgs false

/-! ### spec_FriendsOf: function 11 -/
def spec_FriendsOf.j0:Nat→Int→Bool→Int→List (S68)→Option (List Int × Bool)
 | 0,_,_,_,_=>none
 | k+1,x1,x14,x278000,x278001=>if x14=true then (some (([]:List Int),false)) else ((spec_paTable.f k x278000 x278001).bind fun t280=>((spec_paFriends.f k t280 x1).bind fun t283=>(some (t283,true))))
def spec_FriendsOf.f (k:Nat) (a0_0:Int) (l0_1:List (S68)) (a1:Int):Option (List Int × Bool):=(spec_paGood.f k a0_0 l0_1).bind fun t278=>(if t278=true then ((spec_paHas.f a0_0 l0_1 a1).bind fun t279=>(spec_FriendsOf.j0 k a1 (!t279) a0_0 l0_1)) else (spec_FriendsOf.j0 k a1 true a0_0 l0_1))
theorem spec_FriendsOf.mono_l:∀ k,(∀ y0 y1 y2 y3,LeO (spec_FriendsOf.j0 k y0 y1 y2 y3) (spec_FriendsOf.j0 (k+1) y0 y1 y2 y3))
 | 0=>fun _ _ _ _ r h=>by simp [spec_FriendsOf.j0] at h
 | k+1=>by
  have ih0:=spec_FriendsOf.mono_l k
  ·intro y0 y1 y2 y3
   unfold spec_FriendsOf.j0
   repeat' first
   | (with_reducible exact ih0 _ _ _ _)
   | (with_reducible exact spec_paFriends.mono _ _ _)
   | (with_reducible exact spec_paGood.mono _ _ _)
   | (with_reducible exact spec_paTable.mono _ _ _)
   | (with_reducible exact LeO.refl _)
   | (with_reducible exact LeO.none _)
   | (with_reducible refine LeO.ite ?_ ?_)
   | (with_reducible refine LeO.bind ?_ (fun _=>?_))
   | exact ih0 _ _ _ _
   | exact spec_paFriends.mono _ _ _
   | exact spec_paGood.mono _ _ _
   | exact spec_paTable.mono _ _ _
   | exact LeO.none _
   | refine LeO.ite ?_ ?_
   | refine LeO.bind ?_ (fun _=>?_)
theorem spec_FriendsOf.mono:∀ a0 a1 a2 k,LeO (spec_FriendsOf.f k a0 a1 a2) (spec_FriendsOf.f (k+1) a0 a1 a2):=by
 intro a0 a1 a2 k
 have ih0:=spec_FriendsOf.mono_l k
 unfold spec_FriendsOf.f
 repeat' first
   | (with_reducible exact ih0 _ _ _ _)
   | (with_reducible exact spec_paFriends.mono _ _ _)
   | (with_reducible exact spec_paGood.mono _ _ _)
   | (with_reducible exact spec_paTable.mono _ _ _)
   | (with_reducible exact LeO.refl _)
   | (with_reducible exact LeO.none _)
   | (with_reducible refine LeO.ite ?_ ?_)
   | (with_reducible refine LeO.bind ?_ (fun _=>?_))
   | exact ih0 _ _ _ _
   | exact spec_paFriends.mono _ _ _
   | exact spec_paGood.mono _ _ _
   | exact spec_paTable.mono _ _ _
   | exact LeO.none _
   | refine LeO.ite ?_ ?_
   | refine LeO.bind ?_ (fun _=>?_)
set_option maxHeartbeats 8000000 in
set_option maxRecDepth 100000 in
theorem spec_FriendsOf.calls (k:Nat) (a0_0:Int) (A0_1:Option Addr) (c0_1:Nat) (l0_1:List (S68)) (a1:Int) (r1:List Int) (r2:Bool) (w:World) (hr0_1:Kd.C k68 w A0_1 l0_1.length l0_1) (hc0_1:l0_1.length≤c0_1) (h:spec_FriendsOf.f k a0_0 l0_1 a1=some (r1,r2)) :
  Calls Tryd.prog 11 #[.agg #[.int .i64 a0_0,.slice A0_1 l0_1.length c0_1],.int .i64 a1] w fun e w'=>∃ v0_:Value,e=.returned (.tuple #[v0_,.bool r2])∧Kd.R (Kd.int .i64) 3 w' w.heap.size (fun _=>True) v0_ r1∧Below w.heap.size w w':=by
 have hu30:=Tryd.underlying30
 have HR0_1:=zz31 hr0_1
 have HC0_1:=zz31 hc0_1
 clear hr0_1 hc0_1
 have HB:=zz31 (Below.refl w.heap.size w)
 have H:((spec_paGood.f k a0_0 l0_1).bind fun t278=>(if t278=true then ((spec_paHas.f a0_0 l0_1 a1).bind fun t279=>(spec_FriendsOf.j0 k a1 (!t279) a0_0 l0_1)) else (spec_FriendsOf.j0 k a1 true a0_0 l0_1)))=some (r1,r2):=h
 clear h
 have HC3:=zz31 H
 clear H
 go_enter Tryd.func11,Tryd.ntmps11
 go_upto_region 1 with (first | ((with_reducible refine gate_dst (N:=2) rfl ?_);refine box_event ?hg (N:=2) ?hd (cs:=#[.int .i64 a0_0,.slice A0_1 l0_1.length c0_1]) (t:=30) ?hr ?_;(case hd=>rfl);(case hg=>rfl);(case hr=>first | (go_simp;done) | (go_simp;rfl));intro gb277 hg w4 hbox hb;have n0_:=zz31 (zz4 (by repeat first | exact HB.out | apply zz2 | apply zz0 | apply zz1) hb);have n1_:=zz31 (hbox);have n2_:=zz31 ((by rw [hg];exact (zz5 (by repeat first | exact HB.out | apply zz2 | apply zz0 | apply zz1)):w.heap.size≤gb277));have n3_:=zz31 ((by rw [hg];exact (zz5 (by repeat first | exact HB.out | apply zz2 | apply zz0 | apply zz1)):w.heap.size≤gb277));clear HB;have HB:=n0_;have BK277:=n1_;have GW277:=n2_;have GE277:=n3_;clear n0_ n1_ n2_ n3_;clear hb hbox hg))
 (try simp only [Act.put,zz21,zz22,zz23])
 go_cut [14] (fun v14 wc=>∃ (kq:Nat) (x14_2:Bool),v14=.bool x14_2∧Aside0 (spec_FriendsOf.j0 kq a1 x14_2 a0_0 l0_1=some (r1,r2))∧Aside0 (kq≤k)∧Aside0 (wc.heap[gb277]?=some (.cells #[.int .i64 a0_0,(.slice A0_1 l0_1.length c0_1)] 30 (0,0)))∧Aside0 (Below w.heap.size w wc))
 case first =>
  have H:=HC3.out
  clear HC3
  replace H:=zz30.mp H
  obtain ⟨t278,A50,H⟩:=H
  replace H:(if t278=true then ((spec_paHas.f a0_0 l0_1 a1).bind fun t279=>(spec_FriendsOf.j0 k a1 (!t279) a0_0 l0_1)) else (spec_FriendsOf.j0 k a1 true a0_0 l0_1))=some (r1,r2):=H
  have A5:=zz31 A50
  clear A50
  by_cases c6:t278=true
  ·subst c6
   have H1:((spec_paHas.f a0_0 l0_1 a1).bind fun t279=>(spec_FriendsOf.j0 k a1 (!t279) a0_0 l0_1))=some (r1,r2):=by rw [if_pos rfl] at H;exact H
   clear H
   have H:=H1
   clear H1
   replace H:=zz30.mp H
   obtain ⟨t279,A70,H⟩:=H
   replace H:(spec_FriendsOf.j0 k a1 (!t279) a0_0 l0_1)=some (r1,r2):=H
   have A7:=zz31 A70
   clear A70
   have H':=zz31 H
   clear H
   have hcz8_0:w4.cell? ⟨gb277,0,none⟩=some (.int .i64 a0_0):=(zz9 BK277.out 0).trans rfl
   have hcz8_1:w4.cell? ⟨gb277,1,none⟩=some (.slice A0_1 l0_1.length c0_1):=(zz9 BK277.out 1).trans rfl
   have hfz8_0:=zz10 BK277.out 0
   have hfz8_1:=zz10 BK277.out 1
   go_wp2_with (first | ((with_reducible refine gate_callee (f:=23) rfl ?_);refine goesL_ (some 7) rfl rfl Tryd.func23 (by kernel_rfl) rfl #[.agg #[.int .i64 a0_0,.slice A0_1 l0_1.length c0_1]] rfl (by (try simp only [zz26,zz27,zz28]);first | done | rfl | (simp only [zz24,zz25];rfl)) ?_;(with_reducible refine (spec_paGood.calls k a0_0 _ _ l0_1 true _ ?side1 ?side2 A5.out).mono ?_);(case side1=>repeat (first | exact (Kd.C_below HR0_1.out HB.out) | (with_reducible refine zz18 ?_ _) | (with_reducible refine zz19 ?_ _) | (with_reducible refine zz20 ?_)));(case side2=>exact HC0_1.out);rintro e w9 ⟨rfl,hb⟩;refine ⟨_,rfl,?_⟩;have n0_:=zz31 (zz11 (g:=gb277) (o:=.cells #[.int .i64 a0_0,.slice A0_1 l0_1.length c0_1] 30 (0,0)) (by (with_reducible repeat (first | refine zz6 ?_ _ | refine zz7 ?_ | refine zz8 ?_ _));exact BK277.out) hb);have n1_:=zz31 (zz4 (by repeat first | exact HB.out | apply zz2 | apply zz0 | apply zz1 | refine zz3 ?_ GE277.out) hb);clear BK277;clear HB;have BK277:=n0_;have HB:=n1_;clear n0_ n1_;(try clear hb);(try clear hb2);(try clear hk);(try clear hi);have hcz10_0:w9.cell? ⟨gb277,0,none⟩=some (.int .i64 a0_0):=(zz9 BK277.out 0).trans rfl;have hcz10_1:w9.cell? ⟨gb277,1,none⟩=some (.slice A0_1 l0_1.length c0_1):=(zz9 BK277.out 1).trans rfl;have hfz10_0:=zz10 BK277.out 0;have hfz10_1:=zz10 BK277.out 1) | (go_at_call 24;(with_reducible refine (spec_paHas.calls a0_0 _ _ l0_1 a1 t279 _ ?side1 ?side2 A7.out).mono ?_);(case side1=>repeat (first | exact (Kd.C_below HR0_1.out HB.out) | (with_reducible refine zz18 ?_ _) | (with_reducible refine zz19 ?_ _) | (with_reducible refine zz20 ?_)));(case side2=>exact HC0_1.out);rintro e w11 ⟨rfl,hb⟩;have n0_:=zz31 (zz11 (g:=gb277) (o:=.cells #[.int .i64 a0_0,.slice A0_1 l0_1.length c0_1] 30 (0,0)) (by (with_reducible repeat (first | refine zz6 ?_ _ | refine zz7 ?_ | refine zz8 ?_ _));exact BK277.out) hb);have n1_:=zz31 (zz4 (by repeat first | exact HB.out | apply zz2 | apply zz0 | apply zz1 | refine zz3 ?_ GE277.out) hb);clear BK277;clear HB;have BK277:=n0_;have HB:=n1_;clear n0_ n1_;(try clear hb);(try clear hb2);(try clear hk);(try clear hi)))
   go_meet
   case rel=>exact ⟨_,(!t279),(by first | rfl | (simp;done) | (simp [*];done)),H',⟨by first | omega | exact Nat.le_refl _⟩,⟨by (with_reducible repeat (first | refine zz6 ?_ _ | refine zz7 ?_ | refine zz8 ?_ _));exact BK277.out⟩,⟨by repeat first | exact HB.out | apply zz2 | apply zz0 | apply zz1 | refine zz3 ?_ GE277.out⟩⟩
  ·replace c6:=Bool.eq_false_iff.mpr c6
   subst c6
   have H1:(spec_FriendsOf.j0 k a1 true a0_0 l0_1)=some (r1,r2):=by rw [if_neg (show ¬ (false=true) by decide)] at H;exact H
   clear H
   have H:=H1
   clear H1
   have H':=zz31 H
   clear H
   have hcz12_0:w4.cell? ⟨gb277,0,none⟩=some (.int .i64 a0_0):=(zz9 BK277.out 0).trans rfl
   have hcz12_1:w4.cell? ⟨gb277,1,none⟩=some (.slice A0_1 l0_1.length c0_1):=(zz9 BK277.out 1).trans rfl
   have hfz12_0:=zz10 BK277.out 0
   have hfz12_1:=zz10 BK277.out 1
   go_wp2_with (first | ((with_reducible refine gate_callee (f:=23) rfl ?_);refine goesL_ (some 7) rfl rfl Tryd.func23 (by kernel_rfl) rfl #[.agg #[.int .i64 a0_0,.slice A0_1 l0_1.length c0_1]] rfl (by (try simp only [zz26,zz27,zz28]);first | done | rfl | (simp only [zz24,zz25];rfl)) ?_;(with_reducible refine (spec_paGood.calls k a0_0 _ _ l0_1 false _ ?side1 ?side2 A5.out).mono ?_);(case side1=>repeat (first | exact (Kd.C_below HR0_1.out HB.out) | (with_reducible refine zz18 ?_ _) | (with_reducible refine zz19 ?_ _) | (with_reducible refine zz20 ?_)));(case side2=>exact HC0_1.out);rintro e w13 ⟨rfl,hb⟩;refine ⟨_,rfl,?_⟩;have n0_:=zz31 (zz11 (g:=gb277) (o:=.cells #[.int .i64 a0_0,.slice A0_1 l0_1.length c0_1] 30 (0,0)) (by (with_reducible repeat (first | refine zz6 ?_ _ | refine zz7 ?_ | refine zz8 ?_ _));exact BK277.out) hb);have n1_:=zz31 (zz4 (by repeat first | exact HB.out | apply zz2 | apply zz0 | apply zz1 | refine zz3 ?_ GE277.out) hb);clear BK277;clear HB;have BK277:=n0_;have HB:=n1_;clear n0_ n1_;(try clear hb);(try clear hb2);(try clear hk);(try clear hi)))
   go_meet
   case rel=>exact ⟨_,(true),(by first | rfl | (simp;done) | (simp [*];done)),H',⟨by first | omega | exact Nat.le_refl _⟩,⟨by (with_reducible repeat (first | refine zz6 ?_ _ | refine zz7 ?_ | refine zz8 ?_ _));exact BK277.out⟩,⟨by repeat first | exact HB.out | apply zz2 | apply zz0 | apply zz1 | refine zz3 ?_ GE277.out⟩⟩
 case rest =>
  clear HC3
  try clear c1
  try clear c2
  try clear p2
  try clear c6
  try clear c11
  try clear hcz10_0
  try clear hcz10_1
  try clear hcz12_0
  try clear hcz12_1
  try clear hcz8_0
  try clear hcz8_1
  try clear hfz10_0
  try clear hfz10_1
  try clear hfz12_0
  try clear hfz12_1
  try clear hfz8_0
  try clear hfz8_1
  obtain ⟨kq,x14_2,rfl,HA,HJ2,BK277,HB⟩:=hcut
  cases kq with
  | zero=>exact absurd HA.out (by simp [spec_FriendsOf.j0])
  | succ kj2 =>
   have H:=HA.out
   clear HA
   simp only [spec_FriendsOf.j0] at H
   by_cases c14:x14_2=true
   ·subst c14
    have H1:(some (([]:List Int),false))=some (r1,r2):=by rw [if_pos rfl] at H;exact H
    clear H
    have H:=H1
    clear H1
    simp only [Option.some.injEq,Prod.mk.injEq] at H
    obtain ⟨rfl,rfl⟩:=H
    go_wp2
    go_ret2
    exact ⟨_,by first | rfl | (simp [errW_none,errW_some] <;> rfl) | (simp [*,errW_none,errW_some] <;> rfl),by first | exact Kd.R_nil _ _ _ _ _ | exact Kd.N_nil _ _ _ _ _ | exact Kd.V_nil _ _ _ _ _ | exact Kd.Q_nil _ _ _ _ _ | exact Kd.S_nil _ _ _ _ _,by repeat first | exact HB.out | apply zz2 | apply zz0 | apply zz1 | refine zz3 ?_ GE277.out⟩
   ·replace c14:=Bool.eq_false_iff.mpr c14
    subst c14
    have H1:((spec_paTable.f kj2 a0_0 l0_1).bind fun t280=>((spec_paFriends.f kj2 t280 a1).bind fun t283=>(some (t283,true))))=some (r1,r2):=by rw [if_neg (show ¬ (false=true) by decide)] at H;exact H
    clear H
    have H:=H1
    clear H1
    replace H:=zz30.mp H
    obtain ⟨t280,A150,H⟩:=H
    replace H:((spec_paFriends.f kj2 t280 a1).bind fun t283=>(some (t283,true)))=some (r1,r2):=H
    have A15:=zz31 A150
    clear A150
    replace H:=zz30.mp H
    obtain ⟨t283,A160,H⟩:=H
    replace H:(some (t283,true))=some (r1,r2):=H
    have A16:=zz31 A160
    clear A160
    simp only [Option.some.injEq,Prod.mk.injEq] at H
    obtain ⟨rfl,rfl⟩:=H
    have hcz17_0:wc.cell? ⟨gb277,0,none⟩=some (.int .i64 a0_0):=(zz9 BK277.out 0).trans rfl
    have hcz17_1:wc.cell? ⟨gb277,1,none⟩=some (.slice A0_1 l0_1.length c0_1):=(zz9 BK277.out 1).trans rfl
    have hfz17_0:=zz10 BK277.out 0
    have hfz17_1:=zz10 BK277.out 1
    go_wp2_with (first | ((with_reducible refine gate_callee (f:=26) rfl ?_);refine goesL_ (some 16) rfl rfl Tryd.func26 (by kernel_rfl) rfl #[.agg #[.int .i64 a0_0,.slice A0_1 l0_1.length c0_1]] rfl (by (try simp only [zz26,zz27,zz28]);first | done | rfl | (simp only [zz24,zz25];rfl)) ?_;(with_reducible refine (spec_paTable.calls kj2 a0_0 _ _ l0_1 t280 _ ?side1 ?side2 A15.out).mono ?_);(case side1=>repeat (first | exact (Kd.C_below HR0_1.out HB.out) | (with_reducible refine zz18 ?_ _) | (with_reducible refine zz19 ?_ _) | (with_reducible refine zz20 ?_)));(case side2=>exact HC0_1.out);rintro e w18 ⟨v281,rfl,ho0,hb⟩;refine ⟨_,rfl,?_⟩;have n0_:=zz31 (Kd.S_lower ho0 (zz5 (by repeat first | exact HB.out | apply zz2 | apply zz0 | apply zz1 | refine zz3 ?_ GE277.out)));have n1_:=zz31 (zz11 (g:=gb277) (o:=.cells #[.int .i64 a0_0,.slice A0_1 l0_1.length c0_1] 30 (0,0)) (by (with_reducible repeat (first | refine zz6 ?_ _ | refine zz7 ?_ | refine zz8 ?_ _));exact BK277.out) hb);have n2_:=zz31 (zz4 (by repeat first | exact HB.out | apply zz2 | apply zz0 | apply zz1 | refine zz3 ?_ GE277.out) hb);clear BK277;clear HB;have HO282:=n0_;have BK277:=n1_;have HB:=n2_;clear n0_ n1_ n2_;(try clear hb);(try clear hb2);(try clear hk);(try clear hi);(try clear ho0);obtain ⟨Ao19,co19,eo19⟩:=Kd.S_slice HO282.out;subst eo19) | ((with_reducible refine gate_callee (f:=34) rfl ?_);refine goesL_ (some 18) rfl rfl Tryd.func34 (by kernel_rfl) rfl #[.slice Ao19 t280.length co19,.int .i64 a1] rfl (by (try simp only [zz26,zz27,zz28]);first | done | rfl | (simp only [zz24,zz25];rfl)) ?_;(with_reducible refine (spec_paFriends.calls kj2 _ _ t280 a1 t283 _ ?side1 ?side2 A16.out).mono ?_);(case side1=>repeat (first | exact (Kd.S_reads' HO282.out).2.2 | (with_reducible refine zz18 ?_ _) | (with_reducible refine zz19 ?_ _) | (with_reducible refine zz20 ?_)));(case side2=>exact (Kd.S_reads' HO282.out).2.1);rintro e w20 ⟨v284,rfl,ho0,hb⟩;refine ⟨_,rfl,?_⟩;have n0_:=zz31 (Kd.S_below (by (with_reducible repeat (first | apply zz15 | apply zz16 | apply zz17));exact HO282.out) hb);have n1_:=zz31 (Kd.R_lower ho0 (zz5 (by repeat first | exact HB.out | apply zz2 | apply zz0 | apply zz1 | refine zz3 ?_ GE277.out)));have n2_:=zz31 (zz11 (g:=gb277) (o:=.cells #[.int .i64 a0_0,.slice A0_1 l0_1.length c0_1] 30 (0,0)) (by (with_reducible repeat (first | refine zz6 ?_ _ | refine zz7 ?_ | refine zz8 ?_ _));exact BK277.out) hb);have n3_:=zz31 (zz4 (by repeat first | exact HB.out | apply zz2 | apply zz0 | apply zz1 | refine zz3 ?_ GE277.out) hb);clear HO282;clear BK277;clear HB;have HO282:=n0_;have HO285:=n1_;have BK277:=n2_;have HB:=n3_;clear n0_ n1_ n2_ n3_;(try clear hb);(try clear hb2);(try clear hk);(try clear hi);(try clear ho0)))
    go_ret2
    exact ⟨_,by first | rfl | (simp [errW_none,errW_some] <;> rfl) | (simp [*,errW_none,errW_some] <;> rfl),by (with_reducible repeat (first | apply zz12 | apply zz13 | apply zz14));exact HO285.out,by repeat first | exact HB.out | apply zz2 | apply zz0 | apply zz1 | refine zz3 ?_ GE277.out⟩

/-! ### impl_FriendsOf: function 12 -/
def impl_FriendsOf.f (k:Nat) (a0_0:Int) (l0_1:List (S68)) (a1:Int):Option (List Int × Bool):=(impl_arePeople.f k a0_0 l0_1 (([a1]:List Int))).bind fun t290=>(if t290=true then ((impl_Party_table.f k a0_0 l0_1).bind fun t291=>(if 0≤a1 then (if a1 < (t291.length:Int) then ((impl_listed.f k (rd t291 a1)).bind fun t295=>(some (t295,true))) else (none)) else (none))) else (some (([]:List Int),false)))
theorem impl_FriendsOf.mono:∀ a0 a1 a2 k,LeO (impl_FriendsOf.f k a0 a1 a2) (impl_FriendsOf.f (k+1) a0 a1 a2):=by
 intro a0 a1 a2 k
 unfold impl_FriendsOf.f
 repeat' first
   | (with_reducible exact impl_Party_table.mono _ _ _)
   | (with_reducible exact impl_arePeople.mono _ _ _ _)
   | (with_reducible exact impl_listed.mono _ _)
   | (with_reducible exact LeO.refl _)
   | (with_reducible exact LeO.none _)
   | (with_reducible refine LeO.ite ?_ ?_)
   | (with_reducible refine LeO.bind ?_ (fun _=>?_))
   | exact impl_Party_table.mono _ _ _
   | exact impl_arePeople.mono _ _ _ _
   | exact impl_listed.mono _ _
   | exact LeO.none _
   | refine LeO.ite ?_ ?_
   | refine LeO.bind ?_ (fun _=>?_)
set_option maxHeartbeats 8000000 in
set_option maxRecDepth 100000 in
theorem impl_FriendsOf.calls (k:Nat) (a0_0:Int) (A0_1:Option Addr) (c0_1:Nat) (l0_1:List (S68)) (a1:Int) (r1:List Int) (r2:Bool) (w:World) (hr0_1:Kd.C k68 w A0_1 l0_1.length l0_1) (hc0_1:l0_1.length≤c0_1) (h:impl_FriendsOf.f k a0_0 l0_1 a1=some (r1,r2)) (hT:Tz w) :
  Calls Tryd.prog 12 #[.agg #[.int .i64 a0_0,.slice A0_1 l0_1.length c0_1],.int .i64 a1] w fun e w'=>∃ v0_:Value,e=.returned (.tuple #[v0_,.bool r2])∧Kd.R (Kd.int .i64) 3 w' w.heap.size (fun _=>True) v0_ r1∧Below w.heap.size w w':=by
 have hu30:=Tryd.underlying30
 have HR0_1:=zz31 hr0_1
 have HC0_1:=zz31 hc0_1
 clear hr0_1 hc0_1
 have HB:=zz31 (Below.refl w.heap.size w)
 have HT:=zz31 hT
 clear hT
 have H:((impl_arePeople.f k a0_0 l0_1 (([a1]:List Int))).bind fun t290=>(if t290=true then ((impl_Party_table.f k a0_0 l0_1).bind fun t291=>(if 0≤a1 then (if a1 < (t291.length:Int) then ((impl_listed.f k (rd t291 a1)).bind fun t295=>(some (t295,true))) else (none)) else (none))) else (some (([]:List Int),false))))=some (r1,r2):=h
 clear h
 obtain ⟨y287,hy287⟩:∃ y_:List Int,y_=(([a1]:List Int)):=⟨_,rfl⟩
 replace H:((impl_arePeople.f k a0_0 l0_1 y287).bind fun t290=>(if t290=true then ((impl_Party_table.f k a0_0 l0_1).bind fun t291=>(if 0≤a1 then (if a1 < (t291.length:Int) then ((impl_listed.f k (rd t291 a1)).bind fun t295=>(some (t295,true))) else (none)) else (none))) else (some (([]:List Int),false))))=some (r1,r2):=by first | (rw [hy287];with_reducible exact H) | (have H2_:=(Option.bind_some _ _).symm.trans H;rw [hy287];with_reducible exact H2_) | (have H2_:=(Option.bind_some _ _).symm.trans H;with_reducible exact H2_) | with_reducible exact H | (rw [hy287];exact H) | exact H
 have Ny287:=zz31 hy287
 clear hy287
 replace H:=zz30.mp H
 obtain ⟨t290,A30,H⟩:=H
 replace H:(if t290=true then ((impl_Party_table.f k a0_0 l0_1).bind fun t291=>(if 0≤a1 then (if a1 < (t291.length:Int) then ((impl_listed.f k (rd t291 a1)).bind fun t295=>(some (t295,true))) else (none)) else (none))) else (some (([]:List Int),false)))=some (r1,r2):=H
 have A3:=zz31 A30
 clear A30
 by_cases c4:t290=true
 ·subst c4
  have H1:((impl_Party_table.f k a0_0 l0_1).bind fun t291=>(if 0≤a1 then (if a1 < (t291.length:Int) then ((impl_listed.f k (rd t291 a1)).bind fun t295=>(some (t295,true))) else (none)) else (none)))=some (r1,r2):=by rw [if_pos rfl] at H;exact H
  clear H
  have H:=H1
  clear H1
  replace H:=zz30.mp H
  obtain ⟨t291,A50,H⟩:=H
  replace H:(if 0≤a1 then (if a1 < (t291.length:Int) then ((impl_listed.f k (rd t291 a1)).bind fun t295=>(some (t295,true))) else (none)) else (none))=some (r1,r2):=H
  have A5:=zz31 A50
  clear A50
  by_cases c6:0≤a1
  ·rw [if_pos c6] at H
   have c6b0:decide (0≤a1)=true:=decide_eq_true c6
   clear c6
   by_cases c7:a1 < (t291.length:Int)
   ·rw [if_pos c7] at H
    have c7b0:decide (a1 < (t291.length:Int))=true:=decide_eq_true c7
    clear c7
    replace H:=zz30.mp H
    obtain ⟨t295,A80,H⟩:=H
    replace H:(some (t295,true))=some (r1,r2):=H
    have A8:=zz31 A80
    clear A80
    simp only [Option.some.injEq,Prod.mk.injEq] at H
    obtain ⟨rfl,rfl⟩:=H
    go_enter Tryd.func12,Tryd.ntmps12
    go_wp2_with (first | ((with_reducible refine gate_dst (N:=2) rfl ?_);refine box_event ?hg (N:=2) ?hd (cs:=#[.int .i64 a0_0,.slice A0_1 l0_1.length c0_1]) (t:=30) ?hr ?_;(case hd=>rfl);(case hg=>rfl);(case hr=>first | (go_simp;done) | (go_simp;rfl));intro gb286 hg w9 hbox hb;have n0_:=zz31 (zz4 (by repeat first | exact HB.out | apply zz2 | apply zz0 | apply zz1) hb);have n1_:=zz31 (hbox);have n2_:=zz31 ((by rw [hg];exact (zz5 (by repeat first | exact HB.out | apply zz2 | apply zz0 | apply zz1)):w.heap.size≤gb286));have n3_:=zz31 ((by rw [hg];exact (zz5 (by repeat first | exact HB.out | apply zz2 | apply zz0 | apply zz1)):w.heap.size≤gb286));clear HB;have HB:=n0_;have BK286:=n1_;have GW286:=n2_;have GE286:=n3_;clear n0_ n1_ n2_ n3_;clear hb hbox hg;have hcz10_0:w9.cell? ⟨gb286,0,none⟩=some (.int .i64 a0_0):=(zz9 BK286.out 0).trans rfl;have hcz10_1:w9.cell? ⟨gb286,1,none⟩=some (.slice A0_1 l0_1.length c0_1):=(zz9 BK286.out 1).trans rfl;have hfz10_0:=zz10 BK286.out 0;have hfz10_1:=zz10 BK286.out 1) | ((with_reducible refine gate_dst (N:=8) rfl ?_);refine Kd.R_lit (Kd.int .i64) _ 3 ?hg (N:=8) ?hd (xs:=([a1]:List Int)) (inner:=[.int .i64 a1]) (ok:=fun _=>True) (okp:=fun _=>True) ?hr ?hp (fun _ hk=>hk) trivial (Below.refl _ _) (Nat.le_refl _) (by simp) ?_;(case hd=>rfl);(case hg=>rfl);(case hr=>first | (go_simp;done) | (go_simp;rfl));(case hp=>exact (Reps.one (show Kd.M (Kd.int .i64) _ _ _ a1 [.int .i64 a1] from rfl) (Reps.none _ _)));intro v288 w11 ho12 hb hg_ hnew_;clear hg_ hnew_;(first | rw [← Ny287.out] at ho12 | (simp only [Int.reduceToNat] at ho12;rw [← Ny287.out] at ho12));have n0_:=zz31 (Kd.R_lower ho12 (zz5 (by repeat first | exact HB.out | apply zz2 | apply zz0 | apply zz1 | refine zz3 ?_ GE286.out)));have n1_:=zz31 (zz11 (g:=gb286) (o:=.cells #[.int .i64 a0_0,.slice A0_1 l0_1.length c0_1] 30 (0,0)) (by (with_reducible repeat (first | refine zz6 ?_ _ | refine zz7 ?_ | refine zz8 ?_ _));exact BK286.out) hb);have n2_:=zz31 (zz4 (by repeat first | exact HB.out | apply zz2 | apply zz0 | apply zz1 | refine zz3 ?_ GE286.out) hb);clear BK286;clear HB;have HO289:=n0_;have BK286:=n1_;have HB:=n2_;clear n0_ n1_ n2_;clear hb ho12;obtain ⟨Ao13,co13,eo13⟩:=Kd.R_slice HO289.out;subst eo13) | ((with_reducible refine gate_callee (f:=29) rfl ?_);refine goesL_ (some 9) rfl rfl Tryd.func29 (by kernel_rfl) rfl #[.agg #[.int .i64 a0_0,.slice A0_1 l0_1.length c0_1],.slice Ao13 y287.length co13] rfl (by (try simp only [zz26,zz27,zz28]);first | done | rfl | (simp only [zz24,zz25];rfl)) ?_;(with_reducible refine (impl_arePeople.calls k a0_0 _ _ l0_1 _ _ y287 true _ ?side1 ?side2 ?side3 ?side4 A3.out).mono ?_);(case side1=>repeat (first | exact (Kd.C_below HR0_1.out HB.out) | (with_reducible refine zz18 ?_ _) | (with_reducible refine zz19 ?_ _) | (with_reducible refine zz20 ?_)));(case side2=>exact HC0_1.out);(case side3=>repeat (first | exact (Kd.R_reads' HO289.out).2.2 | (with_reducible refine zz18 ?_ _) | (with_reducible refine zz19 ?_ _) | (with_reducible refine zz20 ?_)));(case side4=>exact (Kd.R_reads' HO289.out).2.1);rintro e w14 ⟨rfl,hb⟩;refine ⟨_,rfl,?_⟩;have n0_:=zz31 (Kd.R_below (by (with_reducible repeat (first | apply zz12 | apply zz13 | apply zz14));exact HO289.out) hb);have n1_:=zz31 (zz11 (g:=gb286) (o:=.cells #[.int .i64 a0_0,.slice A0_1 l0_1.length c0_1] 30 (0,0)) (by (with_reducible repeat (first | refine zz6 ?_ _ | refine zz7 ?_ | refine zz8 ?_ _));exact BK286.out) hb);have n2_:=zz31 (zz4 (by repeat first | exact HB.out | apply zz2 | apply zz0 | apply zz1 | refine zz3 ?_ GE286.out) hb);clear HO289;clear BK286;clear HB;have HO289:=n0_;have BK286:=n1_;have HB:=n2_;clear n0_ n1_ n2_;(try clear hb);(try clear hb2);(try clear hk);(try clear hi);have hcz15_0:w14.cell? ⟨gb286,0,none⟩=some (.int .i64 a0_0):=(zz9 BK286.out 0).trans rfl;have hcz15_1:w14.cell? ⟨gb286,1,none⟩=some (.slice A0_1 l0_1.length c0_1):=(zz9 BK286.out 1).trans rfl;have hfz15_0:=zz10 BK286.out 0;have hfz15_1:=zz10 BK286.out 1) | ((with_reducible refine gate_callee (f:=30) rfl ?_);refine goesL_ (some 12) rfl rfl Tryd.func30 (by kernel_rfl) rfl #[.agg #[.int .i64 a0_0,.slice A0_1 l0_1.length c0_1]] rfl (by (try simp only [zz26,zz27,zz28]);first | done | rfl | (simp only [zz24,zz25];rfl)) ?_;(with_reducible refine (impl_Party_table.calls k a0_0 _ _ l0_1 t291 _ ?side1 ?side2 A5.out).mono ?_);(case side1=>repeat (first | exact (Kd.C_below HR0_1.out HB.out) | (with_reducible refine zz18 ?_ _) | (with_reducible refine zz19 ?_ _) | (with_reducible refine zz20 ?_)));(case side2=>exact HC0_1.out);rintro e w16 ⟨v292,rfl,ho0,hb⟩;refine ⟨_,rfl,?_⟩;have n0_:=zz31 (Kd.R_below (by (with_reducible repeat (first | apply zz12 | apply zz13 | apply zz14));exact HO289.out) hb);have n1_:=zz31 (Kd.R_lower ho0 (zz5 (by repeat first | exact HB.out | apply zz2 | apply zz0 | apply zz1 | refine zz3 ?_ GE286.out)));have n2_:=zz31 (zz11 (g:=gb286) (o:=.cells #[.int .i64 a0_0,.slice A0_1 l0_1.length c0_1] 30 (0,0)) (by (with_reducible repeat (first | refine zz6 ?_ _ | refine zz7 ?_ | refine zz8 ?_ _));exact BK286.out) hb);have n3_:=zz31 (zz4 (by repeat first | exact HB.out | apply zz2 | apply zz0 | apply zz1 | refine zz3 ?_ GE286.out) hb);clear HO289;clear BK286;clear HB;have HO289:=n0_;have HO293:=n1_;have BK286:=n2_;have HB:=n3_;clear n0_ n1_ n2_ n3_;(try clear hb);(try clear hb2);(try clear hk);(try clear hi);(try clear ho0);obtain ⟨Ao17,co17,eo17⟩:=Kd.R_slice HO293.out;subst eo17;have p294:0≤(a1:Int):=zz29 (by first | (with_reducible assumption) | assumption);have q294:a1 < (t291.length:Int):=zz29 (by first | (with_reducible assumption) | assumption);obtain ⟨ad294,e294,hx294_0⟩:=Kd.at_int (Kd.R_reads' HO293.out).2.2 a1 p294 q294;cases e294;replace p294:=eq_true p294;replace q294:=eq_true q294) | ((with_reducible refine gate_callee (f:=31) rfl ?_);refine goesL_ (some 16) rfl rfl Tryd.func31 (by kernel_rfl) rfl #[.int .u16 (rd t291 a1)] rfl (by (try simp only [zz26,zz27,zz28]);first | done | rfl | (simp only [zz24,zz25];rfl)) ?_;(with_reducible refine (impl_listed.calls k (rd t291 a1) t295 _ A8.out (HT.out.below (by repeat first | exact HB.out | apply zz2 | apply zz0 | apply zz1 | refine zz3 ?_ GE286.out))).mono ?_);rintro e w18 ⟨v296,rfl,ho0,hb⟩;refine ⟨_,rfl,?_⟩;have n0_:=zz31 (Kd.R_elder' (by (with_reducible repeat (first | apply zz12 | apply zz13 | apply zz14));exact HO289.out) (Kd.R_base ho0) hb);have n1_:=zz31 (Kd.R_below (by (with_reducible repeat (first | apply zz12 | apply zz13 | apply zz14));exact HO293.out) hb);have n2_:=zz31 (Kd.R_lower (Kd.R_new' ho0 (Kd.R_lt (by (with_reducible repeat (first | apply zz12 | apply zz13 | apply zz14));exact HO289.out))) (zz5 (by repeat first | exact HB.out | apply zz2 | apply zz0 | apply zz1 | refine zz3 ?_ GE286.out)));have n3_:=zz31 (zz11 (g:=gb286) (o:=.cells #[.int .i64 a0_0,.slice A0_1 l0_1.length c0_1] 30 (0,0)) (by (with_reducible repeat (first | refine zz6 ?_ _ | refine zz7 ?_ | refine zz8 ?_ _));exact BK286.out) hb);have n4_:=zz31 (zz4 (by repeat first | exact HB.out | apply zz2 | apply zz0 | apply zz1 | refine zz3 ?_ GE286.out) hb);clear HO289;clear HO293;clear BK286;clear HB;have HO289:=n0_;have HO293:=n1_;have HO297:=n2_;have BK286:=n3_;have HB:=n4_;clear n0_ n1_ n2_ n3_ n4_;(try clear hb);(try clear hb2);(try clear hk);(try clear hi);(try clear ho0)))
    go_ret2
    exact ⟨_,by first | rfl | (simp [errW_none,errW_some] <;> rfl) | (simp [*,errW_none,errW_some] <;> rfl),by (with_reducible repeat (first | apply zz12 | apply zz13 | apply zz14));exact Kd.R_mono HO297.out (fun _ hk=>trivial),by repeat first | exact HB.out | apply zz2 | apply zz0 | apply zz1 | refine zz3 ?_ GE286.out⟩
   ·rw [if_neg c7] at H
    exact absurd H (by simp)
  ·rw [if_neg c6] at H
   exact absurd H (by simp)
 ·replace c4:=Bool.eq_false_iff.mpr c4
  subst c4
  have H1:(some (([]:List Int),false))=some (r1,r2):=by rw [if_neg (show ¬ (false=true) by decide)] at H;exact H
  clear H
  have H:=H1
  clear H1
  simp only [Option.some.injEq,Prod.mk.injEq] at H
  obtain ⟨rfl,rfl⟩:=H
  go_enter Tryd.func12,Tryd.ntmps12
  go_wp2_with (first | ((with_reducible refine gate_dst (N:=2) rfl ?_);refine box_event ?hg (N:=2) ?hd (cs:=#[.int .i64 a0_0,.slice A0_1 l0_1.length c0_1]) (t:=30) ?hr ?_;(case hd=>rfl);(case hg=>rfl);(case hr=>first | (go_simp;done) | (go_simp;rfl));intro gb286 hg w19 hbox hb;have n0_:=zz31 (zz4 (by repeat first | exact HB.out | apply zz2 | apply zz0 | apply zz1) hb);have n1_:=zz31 (hbox);have n2_:=zz31 ((by rw [hg];exact (zz5 (by repeat first | exact HB.out | apply zz2 | apply zz0 | apply zz1)):w.heap.size≤gb286));have n3_:=zz31 ((by rw [hg];exact (zz5 (by repeat first | exact HB.out | apply zz2 | apply zz0 | apply zz1)):w.heap.size≤gb286));clear HB;have HB:=n0_;have BK286:=n1_;have GW286:=n2_;have GE286:=n3_;clear n0_ n1_ n2_ n3_;clear hb hbox hg;have hcz20_0:w19.cell? ⟨gb286,0,none⟩=some (.int .i64 a0_0):=(zz9 BK286.out 0).trans rfl;have hcz20_1:w19.cell? ⟨gb286,1,none⟩=some (.slice A0_1 l0_1.length c0_1):=(zz9 BK286.out 1).trans rfl;have hfz20_0:=zz10 BK286.out 0;have hfz20_1:=zz10 BK286.out 1) | ((with_reducible refine gate_dst (N:=8) rfl ?_);refine Kd.R_lit (Kd.int .i64) _ 3 ?hg (N:=8) ?hd (xs:=([a1]:List Int)) (inner:=[.int .i64 a1]) (ok:=fun _=>True) (okp:=fun _=>True) ?hr ?hp (fun _ hk=>hk) trivial (Below.refl _ _) (Nat.le_refl _) (by simp) ?_;(case hd=>rfl);(case hg=>rfl);(case hr=>first | (go_simp;done) | (go_simp;rfl));(case hp=>exact (Reps.one (show Kd.M (Kd.int .i64) _ _ _ a1 [.int .i64 a1] from rfl) (Reps.none _ _)));intro v288 w21 ho22 hb hg_ hnew_;clear hg_ hnew_;(first | rw [← Ny287.out] at ho22 | (simp only [Int.reduceToNat] at ho22;rw [← Ny287.out] at ho22));have n0_:=zz31 (Kd.R_lower ho22 (zz5 (by repeat first | exact HB.out | apply zz2 | apply zz0 | apply zz1 | refine zz3 ?_ GE286.out)));have n1_:=zz31 (zz11 (g:=gb286) (o:=.cells #[.int .i64 a0_0,.slice A0_1 l0_1.length c0_1] 30 (0,0)) (by (with_reducible repeat (first | refine zz6 ?_ _ | refine zz7 ?_ | refine zz8 ?_ _));exact BK286.out) hb);have n2_:=zz31 (zz4 (by repeat first | exact HB.out | apply zz2 | apply zz0 | apply zz1 | refine zz3 ?_ GE286.out) hb);clear BK286;clear HB;have HO289:=n0_;have BK286:=n1_;have HB:=n2_;clear n0_ n1_ n2_;clear hb ho22;obtain ⟨Ao23,co23,eo23⟩:=Kd.R_slice HO289.out;subst eo23) | ((with_reducible refine gate_callee (f:=29) rfl ?_);refine goesL_ (some 9) rfl rfl Tryd.func29 (by kernel_rfl) rfl #[.agg #[.int .i64 a0_0,.slice A0_1 l0_1.length c0_1],.slice Ao23 y287.length co23] rfl (by (try simp only [zz26,zz27,zz28]);first | done | rfl | (simp only [zz24,zz25];rfl)) ?_;(with_reducible refine (impl_arePeople.calls k a0_0 _ _ l0_1 _ _ y287 false _ ?side1 ?side2 ?side3 ?side4 A3.out).mono ?_);(case side1=>repeat (first | exact (Kd.C_below HR0_1.out HB.out) | (with_reducible refine zz18 ?_ _) | (with_reducible refine zz19 ?_ _) | (with_reducible refine zz20 ?_)));(case side2=>exact HC0_1.out);(case side3=>repeat (first | exact (Kd.R_reads' HO289.out).2.2 | (with_reducible refine zz18 ?_ _) | (with_reducible refine zz19 ?_ _) | (with_reducible refine zz20 ?_)));(case side4=>exact (Kd.R_reads' HO289.out).2.1);rintro e w24 ⟨rfl,hb⟩;refine ⟨_,rfl,?_⟩;have n0_:=zz31 (Kd.R_below (by (with_reducible repeat (first | apply zz12 | apply zz13 | apply zz14));exact HO289.out) hb);have n1_:=zz31 (zz11 (g:=gb286) (o:=.cells #[.int .i64 a0_0,.slice A0_1 l0_1.length c0_1] 30 (0,0)) (by (with_reducible repeat (first | refine zz6 ?_ _ | refine zz7 ?_ | refine zz8 ?_ _));exact BK286.out) hb);have n2_:=zz31 (zz4 (by repeat first | exact HB.out | apply zz2 | apply zz0 | apply zz1 | refine zz3 ?_ GE286.out) hb);clear HO289;clear BK286;clear HB;have HO289:=n0_;have BK286:=n1_;have HB:=n2_;clear n0_ n1_ n2_;(try clear hb);(try clear hb2);(try clear hk);(try clear hi)))
  go_ret2
  exact ⟨_,by first | rfl | (simp [errW_none,errW_some] <;> rfl) | (simp [*,errW_none,errW_some] <;> rfl),by first | exact Kd.R_nil _ _ _ _ _ | exact Kd.N_nil _ _ _ _ _ | exact Kd.V_nil _ _ _ _ _ | exact Kd.Q_nil _ _ _ _ _ | exact Kd.S_nil _ _ _ _ _,by repeat first | exact HB.out | apply zz2 | apply zz0 | apply zz1 | refine zz3 ?_ GE286.out⟩

/-! ### laws_FnExactFriendsOf: function 4 -/
mutual
def laws_FnExactFriendsOf.j0:Nat→Int→List Int→Bool→List Int→Bool→Bool→Int→List (S75)→Int→List (S68)→Option (Bool)
 | 0,_,_,_,_,_,_,_,_,_,_=>none
 | k+1,x1,x6,x7,x9,x10,x44,x308000,x308001,x322000,x322001=>if x44=true then (some false) else ((laws_toParty.f k x308000 x308001).bind fun bt327=>((laws_eqParty.f k x322000 x322001 bt327.1 bt327.2).bind fun t331=>(if t331=true then ((laws_markParty.f k x322000 x322001 1).bind fun bt332=>(if bt332.1 < 0 then (laws_FnExactFriendsOf.j1 k x1 x6 x7 x9 true x308000 x308001) else ((laws_eqIntS.f k x9 x6).bind fun t334=>(if t334=true then (laws_FnExactFriendsOf.j1 k x1 x6 x7 x9 (x10 != x7) x308000 x308001) else (laws_FnExactFriendsOf.j1 k x1 x6 x7 x9 true x308000 x308001))))) else (some false))))
def laws_FnExactFriendsOf.j1:Nat→Int→List Int→Bool→List Int→Bool→Int→List (S75)→Option (Bool)
 | 0,_,_,_,_,_,_,_=>none
 | k+1,x1,x6,x7,x9,x65,x308000,x308001=>if x65=true then (some false) else ((laws_markIntS.f k x9 1).bind fun bt335=>((laws_heldIntS.f k bt335.2 1).bind fun t337=>(if t337 < 0 then (some false) else (if t337=bt335.1 then ((laws_toParty.f k x308000 x308001).bind fun bt338=>((impl_FriendsOf.f k bt338.1 bt338.2 x1).bind fun bt342=>((laws_eqIntS.f k bt342.1 x6).bind fun t346=>(if t346=true then (laws_FnExactFriendsOf.j2 k bt335.2 bt335.1 (bt342.2 != x7)) else (laws_FnExactFriendsOf.j2 k bt335.2 bt335.1 true))))) else (some false)))))
def laws_FnExactFriendsOf.j2:Nat→List Int→Int→Bool→Option (Bool)
 | 0,_,_,_=>none
 | k+1,x9,x12,x92=>if x92=true then (some false) else ((laws_heldIntS.f k x9 1).bind fun t347=>(if t347 < 0 then (some false) else (if t347=x12 then (some true) else (some false))))
end
def laws_FnExactFriendsOf.f (k:Nat) (a0_0:Int) (l0_1:List (S75)) (a1:Int):Option (Bool):=(laws_szParty.f a0_0 l0_1 1048576).bind fun t308=>(if t308 < 0 then (some true) else ((laws_toParty.f k a0_0 l0_1).bind fun bt309=>((spec_FriendsOf.f k bt309.1 bt309.2 a1).bind fun bt313=>((laws_toParty.f k a0_0 l0_1).bind fun bt317=>((impl_FriendsOf.f k bt317.1 bt317.2 a1).bind fun bt322=>((laws_eqIntS.f k bt322.1 bt313.1).bind fun t326=>(if t326=true then (laws_FnExactFriendsOf.j0 k a1 bt313.1 bt313.2 bt322.1 bt322.2 (bt322.2 != bt313.2) a0_0 l0_1 bt317.1 bt317.2) else (laws_FnExactFriendsOf.j0 k a1 bt313.1 bt313.2 bt322.1 bt322.2 true a0_0 l0_1 bt317.1 bt317.2))))))))
theorem laws_FnExactFriendsOf.mono_l:∀ k,(∀ y0 y1 y2 y3 y4 y5 y6 y7 y8 y9,LeO (laws_FnExactFriendsOf.j0 k y0 y1 y2 y3 y4 y5 y6 y7 y8 y9) (laws_FnExactFriendsOf.j0 (k+1) y0 y1 y2 y3 y4 y5 y6 y7 y8 y9))∧(∀ y0 y1 y2 y3 y4 y5 y6,LeO (laws_FnExactFriendsOf.j1 k y0 y1 y2 y3 y4 y5 y6) (laws_FnExactFriendsOf.j1 (k+1) y0 y1 y2 y3 y4 y5 y6))∧(∀ y0 y1 y2,LeO (laws_FnExactFriendsOf.j2 k y0 y1 y2) (laws_FnExactFriendsOf.j2 (k+1) y0 y1 y2))
 | 0=>⟨fun _ _ _ _ _ _ _ _ _ _ r h=>by simp [laws_FnExactFriendsOf.j0] at h,fun _ _ _ _ _ _ _ r h=>by simp [laws_FnExactFriendsOf.j1] at h,fun _ _ _ r h=>by simp [laws_FnExactFriendsOf.j2] at h⟩
 | k+1=>by
  obtain ⟨ih0,ih1,ih2⟩:=laws_FnExactFriendsOf.mono_l k
  refine ⟨?_,?_,?_⟩
  ·intro y0 y1 y2 y3 y4 y5 y6 y7 y8 y9
   unfold laws_FnExactFriendsOf.j0
   repeat' first
   | (with_reducible exact ih0 _ _ _ _ _ _ _ _ _ _)
   | (with_reducible exact ih1 _ _ _ _ _ _ _)
   | (with_reducible exact ih2 _ _ _)
   | (with_reducible exact impl_FriendsOf.mono _ _ _ _)
   | (with_reducible exact laws_eqIntS.mono _ _ _)
   | (with_reducible exact laws_eqParty.mono _ _ _ _ _)
   | (with_reducible exact laws_heldIntS.mono _ _ _)
   | (with_reducible exact laws_markIntS.mono _ _ _)
   | (with_reducible exact laws_markParty.mono _ _ _ _)
   | (with_reducible exact laws_toParty.mono _ _ _)
   | (with_reducible exact spec_FriendsOf.mono _ _ _ _)
   | (with_reducible exact LeO.refl _)
   | (with_reducible exact LeO.none _)
   | (with_reducible refine LeO.ite ?_ ?_)
   | (with_reducible refine LeO.bind ?_ (fun _=>?_))
   | exact ih0 _ _ _ _ _ _ _ _ _ _
   | exact ih1 _ _ _ _ _ _ _
   | exact ih2 _ _ _
   | exact impl_FriendsOf.mono _ _ _ _
   | exact laws_eqIntS.mono _ _ _
   | exact laws_eqParty.mono _ _ _ _ _
   | exact laws_heldIntS.mono _ _ _
   | exact laws_markIntS.mono _ _ _
   | exact laws_markParty.mono _ _ _ _
   | exact laws_toParty.mono _ _ _
   | exact spec_FriendsOf.mono _ _ _ _
   | exact LeO.none _
   | refine LeO.ite ?_ ?_
   | refine LeO.bind ?_ (fun _=>?_)
  ·intro y0 y1 y2 y3 y4 y5 y6
   unfold laws_FnExactFriendsOf.j1
   repeat' first
   | (with_reducible exact ih0 _ _ _ _ _ _ _ _ _ _)
   | (with_reducible exact ih1 _ _ _ _ _ _ _)
   | (with_reducible exact ih2 _ _ _)
   | (with_reducible exact impl_FriendsOf.mono _ _ _ _)
   | (with_reducible exact laws_eqIntS.mono _ _ _)
   | (with_reducible exact laws_eqParty.mono _ _ _ _ _)
   | (with_reducible exact laws_heldIntS.mono _ _ _)
   | (with_reducible exact laws_markIntS.mono _ _ _)
   | (with_reducible exact laws_markParty.mono _ _ _ _)
   | (with_reducible exact laws_toParty.mono _ _ _)
   | (with_reducible exact spec_FriendsOf.mono _ _ _ _)
   | (with_reducible exact LeO.refl _)
   | (with_reducible exact LeO.none _)
   | (with_reducible refine LeO.ite ?_ ?_)
   | (with_reducible refine LeO.bind ?_ (fun _=>?_))
   | exact ih0 _ _ _ _ _ _ _ _ _ _
   | exact ih1 _ _ _ _ _ _ _
   | exact ih2 _ _ _
   | exact impl_FriendsOf.mono _ _ _ _
   | exact laws_eqIntS.mono _ _ _
   | exact laws_eqParty.mono _ _ _ _ _
   | exact laws_heldIntS.mono _ _ _
   | exact laws_markIntS.mono _ _ _
   | exact laws_markParty.mono _ _ _ _
   | exact laws_toParty.mono _ _ _
   | exact spec_FriendsOf.mono _ _ _ _
   | exact LeO.none _
   | refine LeO.ite ?_ ?_
   | refine LeO.bind ?_ (fun _=>?_)
  ·intro y0 y1 y2
   unfold laws_FnExactFriendsOf.j2
   repeat' first
   | (with_reducible exact ih0 _ _ _ _ _ _ _ _ _ _)
   | (with_reducible exact ih1 _ _ _ _ _ _ _)
   | (with_reducible exact ih2 _ _ _)
   | (with_reducible exact impl_FriendsOf.mono _ _ _ _)
   | (with_reducible exact laws_eqIntS.mono _ _ _)
   | (with_reducible exact laws_eqParty.mono _ _ _ _ _)
   | (with_reducible exact laws_heldIntS.mono _ _ _)
   | (with_reducible exact laws_markIntS.mono _ _ _)
   | (with_reducible exact laws_markParty.mono _ _ _ _)
   | (with_reducible exact laws_toParty.mono _ _ _)
   | (with_reducible exact spec_FriendsOf.mono _ _ _ _)
   | (with_reducible exact LeO.refl _)
   | (with_reducible exact LeO.none _)
   | (with_reducible refine LeO.ite ?_ ?_)
   | (with_reducible refine LeO.bind ?_ (fun _=>?_))
   | exact ih0 _ _ _ _ _ _ _ _ _ _
   | exact ih1 _ _ _ _ _ _ _
   | exact ih2 _ _ _
   | exact impl_FriendsOf.mono _ _ _ _
   | exact laws_eqIntS.mono _ _ _
   | exact laws_eqParty.mono _ _ _ _ _
   | exact laws_heldIntS.mono _ _ _
   | exact laws_markIntS.mono _ _ _
   | exact laws_markParty.mono _ _ _ _
   | exact laws_toParty.mono _ _ _
   | exact spec_FriendsOf.mono _ _ _ _
   | exact LeO.none _
   | refine LeO.ite ?_ ?_
   | refine LeO.bind ?_ (fun _=>?_)
theorem laws_FnExactFriendsOf.mono:∀ a0 a1 a2 k,LeO (laws_FnExactFriendsOf.f k a0 a1 a2) (laws_FnExactFriendsOf.f (k+1) a0 a1 a2):=by
 intro a0 a1 a2 k
 obtain ⟨ih0,ih1,ih2⟩:=laws_FnExactFriendsOf.mono_l k
 unfold laws_FnExactFriendsOf.f
 repeat' first
   | (with_reducible exact ih0 _ _ _ _ _ _ _ _ _ _)
   | (with_reducible exact ih1 _ _ _ _ _ _ _)
   | (with_reducible exact ih2 _ _ _)
   | (with_reducible exact impl_FriendsOf.mono _ _ _ _)
   | (with_reducible exact laws_eqIntS.mono _ _ _)
   | (with_reducible exact laws_eqParty.mono _ _ _ _ _)
   | (with_reducible exact laws_heldIntS.mono _ _ _)
   | (with_reducible exact laws_markIntS.mono _ _ _)
   | (with_reducible exact laws_markParty.mono _ _ _ _)
   | (with_reducible exact laws_toParty.mono _ _ _)
   | (with_reducible exact spec_FriendsOf.mono _ _ _ _)
   | (with_reducible exact LeO.refl _)
   | (with_reducible exact LeO.none _)
   | (with_reducible refine LeO.ite ?_ ?_)
   | (with_reducible refine LeO.bind ?_ (fun _=>?_))
   | exact ih0 _ _ _ _ _ _ _ _ _ _
   | exact ih1 _ _ _ _ _ _ _
   | exact ih2 _ _ _
   | exact impl_FriendsOf.mono _ _ _ _
   | exact laws_eqIntS.mono _ _ _
   | exact laws_eqParty.mono _ _ _ _ _
   | exact laws_heldIntS.mono _ _ _
   | exact laws_markIntS.mono _ _ _
   | exact laws_markParty.mono _ _ _ _
   | exact laws_toParty.mono _ _ _
   | exact spec_FriendsOf.mono _ _ _ _
   | exact LeO.none _
   | refine LeO.ite ?_ ?_
   | refine LeO.bind ?_ (fun _=>?_)
set_option maxHeartbeats 8000000 in
set_option maxRecDepth 100000 in
theorem laws_FnExactFriendsOf.calls (k:Nat) (a0_0:Int) (A0_1:Option Addr) (c0_1:Nat) (l0_1:List (S75)) (a1:Int) (r:Bool) (w:World) (hr0_1:Kd.C k75 w A0_1 l0_1.length l0_1) (hc0_1:l0_1.length≤c0_1) (h:laws_FnExactFriendsOf.f k a0_0 l0_1 a1=some r) (hT:Tz w) :
  Calls Tryd.prog 4 #[.agg #[.int .i64 a0_0,.slice A0_1 l0_1.length c0_1],.int .i64 a1] w fun e w'=>e=.returned (.bool r)∧Below w.heap.size w w':=by
 have hu24:=Tryd.underlying24
 have hu30:=Tryd.underlying30
 have HR0_1:=zz31 hr0_1
 have HC0_1:=zz31 hc0_1
 clear hr0_1 hc0_1
 have HB:=zz31 (Below.refl w.heap.size w)
 have HT:=zz31 hT
 clear hT
 have H:((laws_szParty.f a0_0 l0_1 1048576).bind fun t308=>(if t308 < 0 then (some true) else ((laws_toParty.f k a0_0 l0_1).bind fun bt309=>((spec_FriendsOf.f k bt309.1 bt309.2 a1).bind fun bt313=>((laws_toParty.f k a0_0 l0_1).bind fun bt317=>((impl_FriendsOf.f k bt317.1 bt317.2 a1).bind fun bt322=>((laws_eqIntS.f k bt322.1 bt313.1).bind fun t326=>(if t326=true then (laws_FnExactFriendsOf.j0 k a1 bt313.1 bt313.2 bt322.1 bt322.2 (bt322.2 != bt313.2) a0_0 l0_1 bt317.1 bt317.2) else (laws_FnExactFriendsOf.j0 k a1 bt313.1 bt313.2 bt322.1 bt322.2 true a0_0 l0_1 bt317.1 bt317.2)))))))))=some r:=h
 clear h
 replace H:=zz30.mp H
 obtain ⟨t308,A30,H⟩:=H
 replace H:(if t308 < 0 then (some true) else ((laws_toParty.f k a0_0 l0_1).bind fun bt309=>((spec_FriendsOf.f k bt309.1 bt309.2 a1).bind fun bt313=>((laws_toParty.f k a0_0 l0_1).bind fun bt317=>((impl_FriendsOf.f k bt317.1 bt317.2 a1).bind fun bt322=>((laws_eqIntS.f k bt322.1 bt313.1).bind fun t326=>(if t326=true then (laws_FnExactFriendsOf.j0 k a1 bt313.1 bt313.2 bt322.1 bt322.2 (bt322.2 != bt313.2) a0_0 l0_1 bt317.1 bt317.2) else (laws_FnExactFriendsOf.j0 k a1 bt313.1 bt313.2 bt322.1 bt322.2 true a0_0 l0_1 bt317.1 bt317.2))))))))=some r:=H
 have A3:=zz31 A30
 clear A30
 by_cases c4:t308 < 0
 ·rw [if_pos c4] at H
  have c4b0:decide (t308 < 0)=true:=decide_eq_true c4
  clear c4
  obtain rfl:=Option.some.inj H
  go_enter Tryd.func4,Tryd.ntmps4
  go_wp2_with (first | ((with_reducible refine gate_dst (N:=2) rfl ?_);refine box_event ?hg (N:=2) ?hd (cs:=#[.int .i64 a0_0,.slice A0_1 l0_1.length c0_1]) (t:=24) ?hr ?_;(case hd=>rfl);(case hg=>rfl);(case hr=>first | (go_simp;done) | (go_simp;rfl));intro gb307 hg w5 hbox hb;have n0_:=zz31 (zz4 (by repeat first | exact HB.out | apply zz2 | apply zz0 | apply zz1) hb);have n1_:=zz31 (hbox);have n2_:=zz31 ((by rw [hg];exact (zz5 (by repeat first | exact HB.out | apply zz2 | apply zz0 | apply zz1)):w.heap.size≤gb307));have n3_:=zz31 ((by rw [hg];exact (zz5 (by repeat first | exact HB.out | apply zz2 | apply zz0 | apply zz1)):w.heap.size≤gb307));clear HB;have HB:=n0_;have BK307:=n1_;have GW307:=n2_;have GE307:=n3_;clear n0_ n1_ n2_ n3_;clear hb hbox hg;have hcz6_0:w5.cell? ⟨gb307,0,none⟩=some (.int .i64 a0_0):=(zz9 BK307.out 0).trans rfl;have hcz6_1:w5.cell? ⟨gb307,1,none⟩=some (.slice A0_1 l0_1.length c0_1):=(zz9 BK307.out 1).trans rfl;have hfz6_0:=zz10 BK307.out 0;have hfz6_1:=zz10 BK307.out 1) | ((with_reducible refine gate_callee (f:=6) rfl ?_);refine goesL_ (some 18) rfl rfl Tryd.func6 (by kernel_rfl) rfl #[.agg #[.int .i64 a0_0,.slice A0_1 l0_1.length c0_1],.int .i64 1048576] rfl (by (try simp only [zz26,zz27,zz28]);first | done | rfl | (simp only [zz24,zz25];rfl)) ?_;(with_reducible refine (laws_szParty.calls a0_0 _ _ l0_1 1048576 t308 _ ?side1 ?side2 A3.out).mono ?_);(case side1=>repeat (first | exact (Kd.C_below HR0_1.out HB.out) | (with_reducible refine zz18 ?_ _) | (with_reducible refine zz19 ?_ _) | (with_reducible refine zz20 ?_)));(case side2=>exact HC0_1.out);rintro e w7 ⟨rfl,hb⟩;refine ⟨_,rfl,?_⟩;have n0_:=zz31 (zz11 (g:=gb307) (o:=.cells #[.int .i64 a0_0,.slice A0_1 l0_1.length c0_1] 24 (0,0)) (by (with_reducible repeat (first | refine zz6 ?_ _ | refine zz7 ?_ | refine zz8 ?_ _));exact BK307.out) hb);have n1_:=zz31 (zz4 (by repeat first | exact HB.out | apply zz2 | apply zz0 | apply zz1 | refine zz3 ?_ GE307.out) hb);clear BK307;clear HB;have BK307:=n0_;have HB:=n1_;clear n0_ n1_;(try clear hb);(try clear hb2);(try clear hk);(try clear hi)))
  go_ret
  exact ⟨by first | rfl | (simp [errW_none,errW_some] <;> rfl) | (simp [*,errW_none,errW_some] <;> rfl),by repeat first | exact HB.out | apply zz2 | apply zz0 | apply zz1 | refine zz3 ?_ GE307.out⟩
 ·rw [if_neg c4] at H
  have c4b0:decide (t308 < 0)=false:=decide_eq_false c4
  clear c4
  replace H:=zz30.mp H
  obtain ⟨⟨t309,t310⟩,A80,H⟩:=H
  replace H:((spec_FriendsOf.f k t309 t310 a1).bind fun bt313=>((laws_toParty.f k a0_0 l0_1).bind fun bt317=>((impl_FriendsOf.f k bt317.1 bt317.2 a1).bind fun bt322=>((laws_eqIntS.f k bt322.1 bt313.1).bind fun t326=>(if t326=true then (laws_FnExactFriendsOf.j0 k a1 bt313.1 bt313.2 bt322.1 bt322.2 (bt322.2 != bt313.2) a0_0 l0_1 bt317.1 bt317.2) else (laws_FnExactFriendsOf.j0 k a1 bt313.1 bt313.2 bt322.1 bt322.2 true a0_0 l0_1 bt317.1 bt317.2))))))=some r:=H
  have A8:=zz31 A80
  clear A80
  replace H:=zz30.mp H
  obtain ⟨⟨t313,t316⟩,A90,H⟩:=H
  replace H:((laws_toParty.f k a0_0 l0_1).bind fun bt317=>((impl_FriendsOf.f k bt317.1 bt317.2 a1).bind fun bt322=>((laws_eqIntS.f k bt322.1 t313).bind fun t326=>(if t326=true then (laws_FnExactFriendsOf.j0 k a1 t313 t316 bt322.1 bt322.2 (bt322.2 != t316) a0_0 l0_1 bt317.1 bt317.2) else (laws_FnExactFriendsOf.j0 k a1 t313 t316 bt322.1 bt322.2 true a0_0 l0_1 bt317.1 bt317.2)))))=some r:=H
  have A9:=zz31 A90
  clear A90
  replace H:=zz30.mp H
  obtain ⟨⟨t317,t318⟩,A100,H⟩:=H
  replace H:((impl_FriendsOf.f k t317 t318 a1).bind fun bt322=>((laws_eqIntS.f k bt322.1 t313).bind fun t326=>(if t326=true then (laws_FnExactFriendsOf.j0 k a1 t313 t316 bt322.1 bt322.2 (bt322.2 != t316) a0_0 l0_1 t317 t318) else (laws_FnExactFriendsOf.j0 k a1 t313 t316 bt322.1 bt322.2 true a0_0 l0_1 t317 t318))))=some r:=H
  have A10:=zz31 A100
  clear A100
  replace H:=zz30.mp H
  obtain ⟨⟨t322,t325⟩,A110,H⟩:=H
  replace H:((laws_eqIntS.f k t322 t313).bind fun t326=>(if t326=true then (laws_FnExactFriendsOf.j0 k a1 t313 t316 t322 t325 (t325 != t316) a0_0 l0_1 t317 t318) else (laws_FnExactFriendsOf.j0 k a1 t313 t316 t322 t325 true a0_0 l0_1 t317 t318)))=some r:=H
  have A11:=zz31 A110
  clear A110
  have HC12:=zz31 H
  clear H
  go_enter Tryd.func4,Tryd.ntmps4
  go_upto_region 8 with (first | ((with_reducible refine gate_dst (N:=2) rfl ?_);refine box_event ?hg (N:=2) ?hd (cs:=#[.int .i64 a0_0,.slice A0_1 l0_1.length c0_1]) (t:=24) ?hr ?_;(case hd=>rfl);(case hg=>rfl);(case hr=>first | (go_simp;done) | (go_simp;rfl));intro gb307 hg w13 hbox hb;have n0_:=zz31 (zz4 (by repeat first | exact HB.out | apply zz2 | apply zz0 | apply zz1) hb);have n1_:=zz31 (hbox);have n2_:=zz31 ((by rw [hg];exact (zz5 (by repeat first | exact HB.out | apply zz2 | apply zz0 | apply zz1)):w.heap.size≤gb307));have n3_:=zz31 ((by rw [hg];exact (zz5 (by repeat first | exact HB.out | apply zz2 | apply zz0 | apply zz1)):w.heap.size≤gb307));clear HB;have HB:=n0_;have BK307:=n1_;have GW307:=n2_;have GE307:=n3_;clear n0_ n1_ n2_ n3_;clear hb hbox hg;have hcz14_0:w13.cell? ⟨gb307,0,none⟩=some (.int .i64 a0_0):=(zz9 BK307.out 0).trans rfl;have hcz14_1:w13.cell? ⟨gb307,1,none⟩=some (.slice A0_1 l0_1.length c0_1):=(zz9 BK307.out 1).trans rfl;have hfz14_0:=zz10 BK307.out 0;have hfz14_1:=zz10 BK307.out 1) | ((with_reducible refine gate_callee (f:=6) rfl ?_);refine goesL_ (some 18) rfl rfl Tryd.func6 (by kernel_rfl) rfl #[.agg #[.int .i64 a0_0,.slice A0_1 l0_1.length c0_1],.int .i64 1048576] rfl (by (try simp only [zz26,zz27,zz28]);first | done | rfl | (simp only [zz24,zz25];rfl)) ?_;(with_reducible refine (laws_szParty.calls a0_0 _ _ l0_1 1048576 t308 _ ?side1 ?side2 A3.out).mono ?_);(case side1=>repeat (first | exact (Kd.C_below HR0_1.out HB.out) | (with_reducible refine zz18 ?_ _) | (with_reducible refine zz19 ?_ _) | (with_reducible refine zz20 ?_)));(case side2=>exact HC0_1.out);rintro e w15 ⟨rfl,hb⟩;refine ⟨_,rfl,?_⟩;have n0_:=zz31 (zz11 (g:=gb307) (o:=.cells #[.int .i64 a0_0,.slice A0_1 l0_1.length c0_1] 24 (0,0)) (by (with_reducible repeat (first | refine zz6 ?_ _ | refine zz7 ?_ | refine zz8 ?_ _));exact BK307.out) hb);have n1_:=zz31 (zz4 (by repeat first | exact HB.out | apply zz2 | apply zz0 | apply zz1 | refine zz3 ?_ GE307.out) hb);clear BK307;clear HB;have BK307:=n0_;have HB:=n1_;clear n0_ n1_;(try clear hb);(try clear hb2);(try clear hk);(try clear hi);have hcz16_0:w15.cell? ⟨gb307,0,none⟩=some (.int .i64 a0_0):=(zz9 BK307.out 0).trans rfl;have hcz16_1:w15.cell? ⟨gb307,1,none⟩=some (.slice A0_1 l0_1.length c0_1):=(zz9 BK307.out 1).trans rfl;have hfz16_0:=zz10 BK307.out 0;have hfz16_1:=zz10 BK307.out 1) | ((with_reducible refine gate_callee (f:=8) rfl ?_);refine goesL_ (some 23) rfl rfl Tryd.func8 (by kernel_rfl) rfl #[.agg #[.int .i64 a0_0,.slice A0_1 l0_1.length c0_1]] rfl (by (try simp only [zz26,zz27,zz28]);first | done | rfl | (simp only [zz24,zz25];rfl)) ?_;(with_reducible refine (laws_toParty.calls k a0_0 _ _ l0_1 t309 t310 _ ?side1 ?side2 A8.out).mono ?_);(case side1=>repeat (first | exact (Kd.C_below HR0_1.out HB.out) | (with_reducible refine zz18 ?_ _) | (with_reducible refine zz19 ?_ _) | (with_reducible refine zz20 ?_)));(case side2=>exact HC0_1.out);rintro e w17 ⟨v311,rfl,ho0,hb⟩;refine ⟨_,rfl,?_⟩;have n0_:=zz31 (Kd.R_lower ho0 (zz5 (by repeat first | exact HB.out | apply zz2 | apply zz0 | apply zz1 | refine zz3 ?_ GE307.out)));have n1_:=zz31 (zz11 (g:=gb307) (o:=.cells #[.int .i64 a0_0,.slice A0_1 l0_1.length c0_1] 24 (0,0)) (by (with_reducible repeat (first | refine zz6 ?_ _ | refine zz7 ?_ | refine zz8 ?_ _));exact BK307.out) hb);have n2_:=zz31 (zz4 (by repeat first | exact HB.out | apply zz2 | apply zz0 | apply zz1 | refine zz3 ?_ GE307.out) hb);clear BK307;clear HB;have HO312:=n0_;have BK307:=n1_;have HB:=n2_;clear n0_ n1_ n2_;(try clear hb);(try clear hb2);(try clear hk);(try clear hi);(try clear ho0);obtain ⟨Ao18,co18,eo18⟩:=Kd.R_slice HO312.out;subst eo18) | ((with_reducible refine gate_callee (f:=11) rfl ?_);refine goesL_ (some 25) rfl rfl Tryd.func11 (by kernel_rfl) rfl #[.agg #[.int .i64 t309,.slice Ao18 t310.length co18],.int .i64 a1] rfl (by (try simp only [zz26,zz27,zz28]);first | done | rfl | (simp only [zz24,zz25];rfl)) ?_;(with_reducible refine (spec_FriendsOf.calls k t309 _ _ t310 a1 t313 t316 _ ?side1 ?side2 A9.out).mono ?_);(case side1=>repeat (first | exact (Kd.R_reads' HO312.out).2.2 | (with_reducible refine zz18 ?_ _) | (with_reducible refine zz19 ?_ _) | (with_reducible refine zz20 ?_)));(case side2=>exact (Kd.R_reads' HO312.out).2.1);rintro e w19 ⟨v314,rfl,ho0,hb⟩;refine ⟨_,rfl,?_⟩;have n0_:=zz31 (Kd.R_below (by (with_reducible repeat (first | apply zz12 | apply zz13 | apply zz14));exact HO312.out) hb);have n1_:=zz31 (Kd.R_lower ho0 (zz5 (by repeat first | exact HB.out | apply zz2 | apply zz0 | apply zz1 | refine zz3 ?_ GE307.out)));have n2_:=zz31 (zz11 (g:=gb307) (o:=.cells #[.int .i64 a0_0,.slice A0_1 l0_1.length c0_1] 24 (0,0)) (by (with_reducible repeat (first | refine zz6 ?_ _ | refine zz7 ?_ | refine zz8 ?_ _));exact BK307.out) hb);have n3_:=zz31 (zz4 (by repeat first | exact HB.out | apply zz2 | apply zz0 | apply zz1 | refine zz3 ?_ GE307.out) hb);clear HO312;clear BK307;clear HB;have HO312:=n0_;have HO315:=n1_;have BK307:=n2_;have HB:=n3_;clear n0_ n1_ n2_ n3_;(try clear hb);(try clear hb2);(try clear hk);(try clear hi);(try clear ho0);have hcz20_0:w19.cell? ⟨gb307,0,none⟩=some (.int .i64 a0_0):=(zz9 BK307.out 0).trans rfl;have hcz20_1:w19.cell? ⟨gb307,1,none⟩=some (.slice A0_1 l0_1.length c0_1):=(zz9 BK307.out 1).trans rfl;have hfz20_0:=zz10 BK307.out 0;have hfz20_1:=zz10 BK307.out 1) | ((with_reducible refine gate_callee (f:=8) rfl ?_);refine goesL_ (some 29) rfl rfl Tryd.func8 (by kernel_rfl) rfl #[.agg #[.int .i64 a0_0,.slice A0_1 l0_1.length c0_1]] rfl (by (try simp only [zz26,zz27,zz28]);first | done | rfl | (simp only [zz24,zz25];rfl)) ?_;(with_reducible refine (laws_toParty.calls k a0_0 _ _ l0_1 t317 t318 _ ?side1 ?side2 A10.out).mono ?_);(case side1=>repeat (first | exact (Kd.C_below HR0_1.out HB.out) | (with_reducible refine zz18 ?_ _) | (with_reducible refine zz19 ?_ _) | (with_reducible refine zz20 ?_)));(case side2=>exact HC0_1.out);rintro e w21 ⟨v319,rfl,ho0,hb⟩;refine ⟨_,rfl,?_⟩;have n0_:=zz31 (Kd.R_elder' (by (with_reducible repeat (first | apply zz12 | apply zz13 | apply zz14));exact HO312.out) (Kd.R_base ho0) hb);have n1_:=zz31 (Kd.R_below (by (with_reducible repeat (first | apply zz12 | apply zz13 | apply zz14));exact HO315.out) hb);have n2_:=zz31 (Kd.R_lower (Kd.R_new' ho0 (Kd.R_lt (by (with_reducible repeat (first | apply zz12 | apply zz13 | apply zz14));exact HO312.out))) (zz5 (by repeat first | exact HB.out | apply zz2 | apply zz0 | apply zz1 | refine zz3 ?_ GE307.out)));have n3_:=zz31 (zz11 (g:=gb307) (o:=.cells #[.int .i64 a0_0,.slice A0_1 l0_1.length c0_1] 24 (0,0)) (by (with_reducible repeat (first | refine zz6 ?_ _ | refine zz7 ?_ | refine zz8 ?_ _));exact BK307.out) hb);have n4_:=zz31 (zz4 (by repeat first | exact HB.out | apply zz2 | apply zz0 | apply zz1 | refine zz3 ?_ GE307.out) hb);clear HO312;clear HO315;clear BK307;clear HB;have HO312:=n0_;have HO315:=n1_;have HO320:=n2_;have BK307:=n3_;have HB:=n4_;clear n0_ n1_ n2_ n3_ n4_;(try clear hb);(try clear hb2);(try clear hk);(try clear hi);(try clear ho0)) | ((with_reducible refine gate_dst (N:=8) rfl ?_);refine box_event ?hg (N:=8) ?hd (cs:=#[.int .i64 0,.slice none 0 0]) (t:=30) ?hr ?_;(case hd=>rfl);(case hg=>rfl);(case hr=>first | (go_simp;done) | (go_simp;rfl));intro gb321 hg w22 hbox hb;have n0_:=zz31 (Kd.R_below (by (with_reducible repeat (first | apply zz12 | apply zz13 | apply zz14));exact HO312.out) hb);have n1_:=zz31 (Kd.R_below (by (with_reducible repeat (first | apply zz12 | apply zz13 | apply zz14));exact HO315.out) hb);have n2_:=zz31 (Kd.R_below (by (with_reducible repeat (first | apply zz12 | apply zz13 | apply zz14));exact HO320.out) hb);have n3_:=zz31 (zz11 (g:=gb307) (o:=.cells #[.int .i64 a0_0,.slice A0_1 l0_1.length c0_1] 24 (0,0)) (by (with_reducible repeat (first | refine zz6 ?_ _ | refine zz7 ?_ | refine zz8 ?_ _));exact BK307.out) hb);have n4_:=zz31 (zz4 (by repeat first | exact HB.out | apply zz2 | apply zz0 | apply zz1 | refine zz3 ?_ GE307.out) hb);have n5_:=zz31 (hbox);have n6_:=zz31 ((by rw [hg];exact (zz5 (by repeat first | exact HB.out | apply zz2 | apply zz0 | apply zz1 | refine zz3 ?_ GE307.out)):w.heap.size≤gb321));have n7_:=zz31 ((by rw [hg];exact (zz5 (by repeat first | exact HB.out | apply zz2 | apply zz0 | apply zz1 | refine zz3 ?_ GE307.out)):w.heap.size≤gb321));have n8_:=zz31 ((by rw [hg];exact Nat.ne_of_lt (blk_lt (g:=gb307) (o:=.cells #[.int .i64 a0_0,.slice A0_1 l0_1.length c0_1] 24 (0,0)) (by (with_reducible repeat (first | refine zz6 ?_ _ | refine zz7 ?_ | refine zz8 ?_ _));exact BK307.out)):gb307 ≠ gb321));have n9_:=zz31 ((by rw [hg];exact Nat.ne_of_gt (blk_lt (g:=gb307) (o:=.cells #[.int .i64 a0_0,.slice A0_1 l0_1.length c0_1] 24 (0,0)) (by (with_reducible repeat (first | refine zz6 ?_ _ | refine zz7 ?_ | refine zz8 ?_ _));exact BK307.out)):gb321 ≠ gb307));clear HO312;clear HO315;clear HO320;clear BK307;clear HB;have HO312:=n0_;have HO315:=n1_;have HO320:=n2_;have BK307:=n3_;have HB:=n4_;have BK321:=n5_;have GW321:=n6_;have GE321:=n7_;have NB307_321:=n8_;have NB321_307:=n9_;clear n0_ n1_ n2_ n3_ n4_ n5_ n6_ n7_ n8_ n9_;clear hb hbox hg;have hnb23:=NB321_307.out;have hnc23:=NB307_321.out;have hcz24_0:w22.cell? ⟨gb321,0,none⟩=some (.int .i64 0):=(zz9 BK321.out 0).trans rfl;have hcz24_1:w22.cell? ⟨gb321,1,none⟩=some (.slice none 0 0):=(zz9 BK321.out 1).trans rfl;have hfz24_0:=zz10 BK321.out 0;have hfz24_1:=zz10 BK321.out 1;obtain ⟨Ao25,co25,eo25⟩:=Kd.R_slice HO320.out;subst eo25) | ((with_reducible refine gate_callee (f:=12) rfl ?_);refine goesL_ (some 33) rfl rfl Tryd.func12 (by kernel_rfl) rfl #[.agg #[.int .i64 t317,.slice Ao25 t318.length co25],.int .i64 a1] rfl (by (try simp only [zz26,zz27,zz28]);first | done | rfl | (simp only [zz24,zz25];rfl)) ?_;(with_reducible refine (impl_FriendsOf.calls k t317 _ _ t318 a1 t322 t325 _ ?side1 ?side2 A11.out (HT.out.below (by repeat first | exact HB.out | apply zz2 | apply zz0 | apply zz1 | refine zz3 ?_ GE307.out | refine zz3 ?_ GE321.out))).mono ?_);(case side1=>refine (Kd.R_reads' (e:=68) (base:=w.heap.size) (ok:=fun k_=>(True∧some k_ ≠ (.slice Ao18 t310.length co18:Value).ownBlock)) (n:=t318.length) (c:=co25) ?_).2.2;exact (by (with_reducible repeat (first | apply zz12 | apply zz13 | apply zz14));exact (Kd.R_mono (Kd.R_far (p:=⟨gb321,1,none⟩) (Kd.R_far (p:=⟨gb321,0,none⟩) (Kd.R_types HO320.out BK321.out (by decide)) (fun _ hk=>hk.2) (.int .i64 t317)) (fun _ hk=>hk.2) (.slice Ao25 t318.length co25)) (fun _ h_=>h_.1))));(case side2=>exact (Kd.R_reads' HO320.out).2.1);rintro e w26 ⟨v323,rfl,ho0,hb⟩;refine ⟨_,rfl,?_⟩;have n0_:=zz31 (Kd.R_below (by (with_reducible repeat (first | apply zz12 | apply zz13 | apply zz14));exact (Kd.R_mono (Kd.R_far (p:=⟨gb321,1,none⟩) (Kd.R_far (p:=⟨gb321,0,none⟩) (Kd.R_types HO312.out BK321.out (by decide)) (fun _ hk=>hk.2) (.int .i64 t317)) (fun _ hk=>hk.2) (.slice Ao25 t318.length co25)) (fun _ h_=>h_.1))) hb);have n1_:=zz31 (Kd.R_elder' (by (with_reducible repeat (first | apply zz12 | apply zz13 | apply zz14));exact (Kd.R_mono (Kd.R_far (p:=⟨gb321,1,none⟩) (Kd.R_far (p:=⟨gb321,0,none⟩) (Kd.R_types HO315.out BK321.out (by decide)) (fun _ hk=>hk.2) (.int .i64 t317)) (fun _ hk=>hk.2) (.slice Ao25 t318.length co25)) (fun _ h_=>h_.1))) (Kd.R_base ho0) hb);have n2_:=zz31 (Kd.R_below (by (with_reducible repeat (first | apply zz12 | apply zz13 | apply zz14));exact (Kd.R_mono (Kd.R_far (p:=⟨gb321,1,none⟩) (Kd.R_far (p:=⟨gb321,0,none⟩) (Kd.R_types HO320.out BK321.out (by decide)) (fun _ hk=>hk.2) (.int .i64 t317)) (fun _ hk=>hk.2) (.slice Ao25 t318.length co25)) (fun _ h_=>h_.1))) hb);have n3_:=zz31 (Kd.R_lower (Kd.R_new' ho0 (Kd.R_lt (by (with_reducible repeat (first | apply zz12 | apply zz13 | apply zz14));exact (Kd.R_mono (Kd.R_far (p:=⟨gb321,1,none⟩) (Kd.R_far (p:=⟨gb321,0,none⟩) (Kd.R_types HO315.out BK321.out (by decide)) (fun _ hk=>hk.2) (.int .i64 t317)) (fun _ hk=>hk.2) (.slice Ao25 t318.length co25)) (fun _ h_=>h_.1))))) (zz5 (by repeat first | exact HB.out | apply zz2 | apply zz0 | apply zz1 | refine zz3 ?_ GE307.out | refine zz3 ?_ GE321.out)));have n4_:=zz31 (zz11 (g:=gb307) (o:=.cells #[.int .i64 a0_0,.slice A0_1 l0_1.length c0_1] 24 (0,0)) (by (with_reducible repeat (first | refine zz6 ?_ _ | refine zz7 ?_ | refine zz8 ?_ _));refine blk_far ?_ NB307_321.out _;(with_reducible repeat (first | refine zz6 ?_ _ | refine zz7 ?_ | refine zz8 ?_ _));refine blk_far ?_ NB307_321.out _;(with_reducible repeat (first | refine zz6 ?_ _ | refine zz7 ?_ | refine zz8 ?_ _));exact BK307.out) hb);have n5_:=zz31 (zz11 (g:=gb321) (o:=.cells #[.int .i64 t317,.slice Ao25 t318.length co25] 30 (0,0)) (by (with_reducible repeat (first | refine zz6 ?_ _ | refine zz7 ?_ | refine zz8 ?_ _));refine blk_put (cs:=#[.int .i64 t317,.slice none 0 0]) ?_ 1 _ rfl;(with_reducible repeat (first | refine zz6 ?_ _ | refine zz7 ?_ | refine zz8 ?_ _));refine blk_put (cs:=#[.int .i64 0,.slice none 0 0]) ?_ 0 _ rfl;(with_reducible repeat (first | refine zz6 ?_ _ | refine zz7 ?_ | refine zz8 ?_ _));exact BK321.out) hb);have n6_:=zz31 (zz4 (by repeat first | exact HB.out | apply zz2 | apply zz0 | apply zz1 | refine zz3 ?_ GE307.out | refine zz3 ?_ GE321.out) hb);clear HO312;clear HO315;clear HO320;clear BK307;clear BK321;clear HB;have HO312:=n0_;have HO315:=n1_;have HO320:=n2_;have HO324:=n3_;have BK307:=n4_;have BK321:=n5_;have HB:=n6_;clear n0_ n1_ n2_ n3_ n4_ n5_ n6_;(try clear hb);(try clear hb2);(try clear hk);(try clear hi);(try clear ho0)))
  (try simp only [Act.put,zz21,zz22,zz23])
  go_cut [44] (fun v44 wc=>∃ (kq:Nat) (x44_11:Bool),v44=.bool x44_11∧Aside0 (laws_FnExactFriendsOf.j0 kq a1 t313 t316 t322 t325 x44_11 a0_0 l0_1 t317 t318=some r)∧Aside0 (kq≤k)∧Aside0 (Kd.R (Kd.int .i64) 3 wc w.heap.size (fun k_=>some k_ ≠ (v323:Value).ownBlock) v314 t313)∧Aside0 (Kd.R (Kd.int .i64) 3 wc w.heap.size (fun k_=>some k_ ≠ (v314:Value).ownBlock) v323 t322)∧Aside0 (Kd.R k68 68 wc w.heap.size (fun _=>True) (.slice Ao25 t318.length co25) t318)∧Aside0 (wc.heap[gb307]?=some (.cells #[.int .i64 a0_0,(.slice A0_1 l0_1.length c0_1)] 24 (0,0)))∧Aside0 (wc.heap[gb321]?=some (.cells #[.int .i64 t317,(.slice Ao25 t318.length co25)] 30 (0,0)))∧Aside0 (Below w.heap.size w wc))
  case first =>
   have H:=HC12.out
   clear HC12
   replace H:=zz30.mp H
   obtain ⟨t326,A270,H⟩:=H
   replace H:(if t326=true then (laws_FnExactFriendsOf.j0 k a1 t313 t316 t322 t325 (t325 != t316) a0_0 l0_1 t317 t318) else (laws_FnExactFriendsOf.j0 k a1 t313 t316 t322 t325 true a0_0 l0_1 t317 t318))=some r:=H
   have A27:=zz31 A270
   clear A270
   by_cases c28:t326=true
   ·subst c28
    have H1:(laws_FnExactFriendsOf.j0 k a1 t313 t316 t322 t325 (t325 != t316) a0_0 l0_1 t317 t318)=some r:=by rw [if_pos rfl] at H;exact H
    clear H
    have H:=H1
    clear H1
    have H':=zz31 H
    clear H
    obtain ⟨Ao29,co29,eo29⟩:=Kd.R_slice HO324.out
    subst eo29
    obtain ⟨Ao30,co30,eo30⟩:=Kd.R_slice HO315.out
    subst eo30
    go_wp2_with (first | ((with_reducible refine gate_callee (f:=13) rfl ?_);refine goesL_ (some 38) rfl rfl Tryd.func13 (by kernel_rfl) rfl #[.slice Ao29 t322.length co29,.slice Ao30 t313.length co30] rfl (by (try simp only [zz26,zz27,zz28]);first | done | rfl | (simp only [zz24,zz25];rfl)) ?_;(with_reducible refine (laws_eqIntS.calls k _ _ t322 _ _ t313 true _ ?side1 ?side2 ?side3 ?side4 A27.out).mono ?_);(case side1=>repeat (first | exact (Kd.R_reads' HO324.out).2.2 | (with_reducible refine zz18 ?_ _) | (with_reducible refine zz19 ?_ _) | (with_reducible refine zz20 ?_)));(case side2=>exact (Kd.R_reads' HO324.out).2.1);(case side3=>repeat (first | exact (Kd.R_reads' HO315.out).2.2 | (with_reducible refine zz18 ?_ _) | (with_reducible refine zz19 ?_ _) | (with_reducible refine zz20 ?_)));(case side4=>exact (Kd.R_reads' HO315.out).2.1);rintro e w' ⟨rfl,⟨nd,rfl⟩⟩;refine ⟨_,rfl,?_⟩))
    go_meet
    case rel=>exact ⟨_,((t325 != t316)),(by first | rfl | (simp;done) | (simp [*];done)),H',⟨by first | omega | exact Nat.le_refl _⟩,⟨by (with_reducible repeat (first | apply zz12 | apply zz13 | apply zz14));exact Kd.R_mono HO315.out (fun _ hk=>hk.2)⟩,⟨by (with_reducible repeat (first | apply zz12 | apply zz13 | apply zz14));exact Kd.R_mono HO324.out (fun _ hk=>hk.2)⟩,⟨by (with_reducible repeat (first | apply zz12 | apply zz13 | apply zz14));exact Kd.R_mono HO320.out (fun _ hk=>trivial)⟩,⟨by (with_reducible repeat (first | refine zz6 ?_ _ | refine zz7 ?_ | refine zz8 ?_ _));exact BK307.out⟩,⟨by (with_reducible repeat (first | refine zz6 ?_ _ | refine zz7 ?_ | refine zz8 ?_ _));exact BK321.out⟩,⟨by repeat first | exact HB.out | apply zz2 | apply zz0 | apply zz1 | refine zz3 ?_ GE307.out | refine zz3 ?_ GE321.out⟩⟩
   ·replace c28:=Bool.eq_false_iff.mpr c28
    subst c28
    have H1:(laws_FnExactFriendsOf.j0 k a1 t313 t316 t322 t325 true a0_0 l0_1 t317 t318)=some r:=by rw [if_neg (show ¬ (false=true) by decide)] at H;exact H
    clear H
    have H:=H1
    clear H1
    have H':=zz31 H
    clear H
    obtain ⟨Ao31,co31,eo31⟩:=Kd.R_slice HO324.out
    subst eo31
    obtain ⟨Ao32,co32,eo32⟩:=Kd.R_slice HO315.out
    subst eo32
    go_wp2_with (first | ((with_reducible refine gate_callee (f:=13) rfl ?_);refine goesL_ (some 38) rfl rfl Tryd.func13 (by kernel_rfl) rfl #[.slice Ao31 t322.length co31,.slice Ao32 t313.length co32] rfl (by (try simp only [zz26,zz27,zz28]);first | done | rfl | (simp only [zz24,zz25];rfl)) ?_;(with_reducible refine (laws_eqIntS.calls k _ _ t322 _ _ t313 false _ ?side1 ?side2 ?side3 ?side4 A27.out).mono ?_);(case side1=>repeat (first | exact (Kd.R_reads' HO324.out).2.2 | (with_reducible refine zz18 ?_ _) | (with_reducible refine zz19 ?_ _) | (with_reducible refine zz20 ?_)));(case side2=>exact (Kd.R_reads' HO324.out).2.1);(case side3=>repeat (first | exact (Kd.R_reads' HO315.out).2.2 | (with_reducible refine zz18 ?_ _) | (with_reducible refine zz19 ?_ _) | (with_reducible refine zz20 ?_)));(case side4=>exact (Kd.R_reads' HO315.out).2.1);rintro e w' ⟨rfl,⟨nd,rfl⟩⟩;refine ⟨_,rfl,?_⟩))
    go_meet
    case rel=>exact ⟨_,(true),(by first | rfl | (simp;done) | (simp [*];done)),H',⟨by first | omega | exact Nat.le_refl _⟩,⟨by (with_reducible repeat (first | apply zz12 | apply zz13 | apply zz14));exact Kd.R_mono HO315.out (fun _ hk=>hk.2)⟩,⟨by (with_reducible repeat (first | apply zz12 | apply zz13 | apply zz14));exact Kd.R_mono HO324.out (fun _ hk=>hk.2)⟩,⟨by (with_reducible repeat (first | apply zz12 | apply zz13 | apply zz14));exact Kd.R_mono HO320.out (fun _ hk=>trivial)⟩,⟨by (with_reducible repeat (first | refine zz6 ?_ _ | refine zz7 ?_ | refine zz8 ?_ _));exact BK307.out⟩,⟨by (with_reducible repeat (first | refine zz6 ?_ _ | refine zz7 ?_ | refine zz8 ?_ _));exact BK321.out⟩,⟨by repeat first | exact HB.out | apply zz2 | apply zz0 | apply zz1 | refine zz3 ?_ GE307.out | refine zz3 ?_ GE321.out⟩⟩
  case rest =>
   clear HC12
   try clear c1
   try clear c2
   try clear p2
   try clear c4
   try clear c4b0
   try clear c6
   try clear c8
   try clear c11
   try clear c12
   try clear c13
   try clear c23
   try clear c28
   try clear hcz14_0
   try clear hcz14_1
   try clear hcz16_0
   try clear hcz16_1
   try clear hcz20_0
   try clear hcz20_1
   try clear hcz24_0
   try clear hcz24_1
   try clear hcz6_0
   try clear hcz6_1
   try clear hfz14_0
   try clear hfz14_1
   try clear hfz16_0
   try clear hfz16_1
   try clear hfz20_0
   try clear hfz20_1
   try clear hfz24_0
   try clear hfz24_1
   try clear hfz6_0
   try clear hfz6_1
   obtain ⟨kq,x44_11,rfl,HA,HJ11,HO_6,HO_9,HO_322001,BK307,BK321,HB⟩:=hcut
   cases kq with
   | zero=>exact absurd HA.out (by simp [laws_FnExactFriendsOf.j0])
   | succ kj11 =>
    have H:=HA.out
    clear HA
    simp only [laws_FnExactFriendsOf.j0] at H
    by_cases c33:x44_11=true
    ·subst c33
     have H1:(some false)=some r:=by rw [if_pos rfl] at H;exact H
     clear H
     have H:=H1
     clear H1
     obtain rfl:=Option.some.inj H
     go_wp2
     go_ret
     exact ⟨by first | rfl | (simp [errW_none,errW_some] <;> rfl) | (simp [*,errW_none,errW_some] <;> rfl),by repeat first | exact HB.out | apply zz2 | apply zz0 | apply zz1 | refine zz3 ?_ GE307.out | refine zz3 ?_ GE321.out⟩
    ·replace c33:=Bool.eq_false_iff.mpr c33
     subst c33
     have H1:((laws_toParty.f kj11 a0_0 l0_1).bind fun bt327=>((laws_eqParty.f kj11 t317 t318 bt327.1 bt327.2).bind fun t331=>(if t331=true then ((laws_markParty.f kj11 t317 t318 1).bind fun bt332=>(if bt332.1 < 0 then (laws_FnExactFriendsOf.j1 kj11 a1 t313 t316 t322 true a0_0 l0_1) else ((laws_eqIntS.f kj11 t322 t313).bind fun t334=>(if t334=true then (laws_FnExactFriendsOf.j1 kj11 a1 t313 t316 t322 (t325 != t316) a0_0 l0_1) else (laws_FnExactFriendsOf.j1 kj11 a1 t313 t316 t322 true a0_0 l0_1))))) else (some false))))=some r:=by rw [if_neg (show ¬ (false=true) by decide)] at H;exact H
     clear H
     have H:=H1
     clear H1
     replace H:=zz30.mp H
     obtain ⟨⟨t327,t328⟩,A340,H⟩:=H
     replace H:((laws_eqParty.f kj11 t317 t318 t327 t328).bind fun t331=>(if t331=true then ((laws_markParty.f kj11 t317 t318 1).bind fun bt332=>(if bt332.1 < 0 then (laws_FnExactFriendsOf.j1 kj11 a1 t313 t316 t322 true a0_0 l0_1) else ((laws_eqIntS.f kj11 t322 t313).bind fun t334=>(if t334=true then (laws_FnExactFriendsOf.j1 kj11 a1 t313 t316 t322 (t325 != t316) a0_0 l0_1) else (laws_FnExactFriendsOf.j1 kj11 a1 t313 t316 t322 true a0_0 l0_1))))) else (some false)))=some r:=H
     have A34:=zz31 A340
     clear A340
     replace H:=zz30.mp H
     obtain ⟨t331,A350,H⟩:=H
     replace H:(if t331=true then ((laws_markParty.f kj11 t317 t318 1).bind fun bt332=>(if bt332.1 < 0 then (laws_FnExactFriendsOf.j1 kj11 a1 t313 t316 t322 true a0_0 l0_1) else ((laws_eqIntS.f kj11 t322 t313).bind fun t334=>(if t334=true then (laws_FnExactFriendsOf.j1 kj11 a1 t313 t316 t322 (t325 != t316) a0_0 l0_1) else (laws_FnExactFriendsOf.j1 kj11 a1 t313 t316 t322 true a0_0 l0_1))))) else (some false))=some r:=H
     have A35:=zz31 A350
     clear A350
     by_cases c36:t331=true
     ·subst c36
      have H1:((laws_markParty.f kj11 t317 t318 1).bind fun bt332=>(if bt332.1 < 0 then (laws_FnExactFriendsOf.j1 kj11 a1 t313 t316 t322 true a0_0 l0_1) else ((laws_eqIntS.f kj11 t322 t313).bind fun t334=>(if t334=true then (laws_FnExactFriendsOf.j1 kj11 a1 t313 t316 t322 (t325 != t316) a0_0 l0_1) else (laws_FnExactFriendsOf.j1 kj11 a1 t313 t316 t322 true a0_0 l0_1)))))=some r:=by rw [if_pos rfl] at H;exact H
      clear H
      have H:=H1
      clear H1
      replace H:=zz30.mp H
      obtain ⟨⟨t332,t333⟩,A370,H⟩:=H
      replace H:(if t332 < 0 then (laws_FnExactFriendsOf.j1 kj11 a1 t313 t316 t322 true a0_0 l0_1) else ((laws_eqIntS.f kj11 t322 t313).bind fun t334=>(if t334=true then (laws_FnExactFriendsOf.j1 kj11 a1 t313 t316 t322 (t325 != t316) a0_0 l0_1) else (laws_FnExactFriendsOf.j1 kj11 a1 t313 t316 t322 true a0_0 l0_1))))=some r:=H
      have A37:=zz31 A370
      clear A370
      have HC38:=zz31 H
      clear H
      try go_wp2
      have n0_:=zz31 (zz14 HO_6.out)
      have n1_:=zz31 (zz14 HO_9.out)
      have n2_:=zz31 (zz14 HO_322001.out)
      have n3_:=zz31 (zz7 BK307.out)
      have n4_:=zz31 (zz7 BK321.out)
      have n5_:=zz31 (zz1 HB.out)
      clear HO_6
      clear HO_9
      clear HO_322001
      clear BK307
      clear BK321
      clear HB
      have HO_6:=n0_
      have HO_9:=n1_
      have HO_322001:=n2_
      have BK307:=n3_
      have BK321:=n4_
      have HB:=n5_
      clear n0_ n1_ n2_ n3_ n4_ n5_
      refine start_ (n:=5) (S:=fun w'=>w'.cell? ⟨gb321,0,none⟩=some (.int .i64 t317)∧w'.cell? ⟨gb321,1,none⟩=some (.slice Ao25 t318.length co25)∧w'.cell? ⟨gb307,0,none⟩=some (.int .i64 a0_0)∧w'.cell? ⟨gb307,1,none⟩=some (.slice A0_1 l0_1.length c0_1)) (ds:=[]) #[F,F,F,F,F] (by kernel_rfl) rfl rfl ⟨(zz9 BK321.out 0).trans rfl,(zz9 BK321.out 1).trans rfl,(zz9 BK307.out 0).trans rfl,(zz9 BK307.out 1).trans rfl⟩ (fun hHeld=>?_)
      generalize wc.drew=w39 at HO_6 HO_9 HO_322001 BK307 BK321 HB hHeld ⊢
      refine take_ (i:=0) (N:=some 45) (v:=?_) (a':=?_) #[T,F,F,F,F] rfl rfl (by kernel_rfl) (fun _ _ _ h=>h) (Or.inl ⟨by rfl,?_⟩) hHeld ?_ ?_
      rotate_left
      ·rintro w' ⟨s0,s1,s2,s3⟩
       go_simp
       with_reducible rfl
      rotate_left
      ·simp only [Act.put,zz21,zz22,zz23,i64_w,i32_w]
       rfl
      refine take_ (i:=1) (N:=some 46) (v:=?_) (a':=?_) #[T,T,F,F,F] rfl rfl (by kernel_rfl) (fun _ _ _ h=>h) (Or.inl ⟨by rfl,?_⟩) hHeld ?_ ?_
      rotate_left
      ·rintro w' ⟨s0,s1,s2,s3⟩
       go_simp
       with_reducible rfl
      rotate_left
      ·simp only [Act.put,zz21,zz22,zz23,i64_w,i32_w]
       rfl
      refine one_ (i:=2) (N:=some 47) #[T,T,T,F,F] rfl rfl (by kernel_rfl) (by decide) (fun K hK=>?_)
      refine goes_ Tryd.func8 (by kernel_rfl) rfl #[.agg #[.int .i64 a0_0,.slice A0_1 l0_1.length c0_1]] (by rfl) rfl rfl (by (try simp only [zz26,zz27,zz28]);first | done | rfl | (simp only [zz24,zz25];rfl)) ?_
      with_reducible refine (laws_toParty.calls kj11 a0_0 _ _ l0_1 t327 t328 _ ?side1 ?side2 A34.out).mono ?_
      (case side1=>repeat (first | exact (Kd.C_below HR0_1.out HB.out) | (with_reducible refine zz18 ?_ _) | (with_reducible refine zz19 ?_ _) | (with_reducible refine zz20 ?_)))
      (case side2=>exact HC0_1.out)
      rintro e w40 ⟨v329,rfl,ho0,hb⟩
      refine ⟨_,rfl,?_⟩
      have n0_:=zz31 (Kd.R_below (by (with_reducible repeat (first | apply zz12 | apply zz13 | apply zz14));exact HO_6.out) hb)
      have n1_:=zz31 (Kd.R_below (by (with_reducible repeat (first | apply zz12 | apply zz13 | apply zz14));exact HO_9.out) hb)
      have n2_:=zz31 (Kd.R_elder' (by (with_reducible repeat (first | apply zz12 | apply zz13 | apply zz14));exact HO_322001.out) (Kd.R_base ho0) hb)
      have n3_:=zz31 (Kd.R_lower (Kd.R_new' ho0 (Kd.R_lt (by (with_reducible repeat (first | apply zz12 | apply zz13 | apply zz14));exact HO_322001.out))) (zz5 (by repeat first | exact HB.out | apply zz2 | apply zz0 | apply zz1 | refine zz3 ?_ GE307.out | refine zz3 ?_ GE321.out)))
      have n4_:=zz31 (zz11 (g:=gb307) (o:=.cells #[.int .i64 a0_0,.slice A0_1 l0_1.length c0_1] 24 (0,0)) (by (with_reducible repeat (first | refine zz6 ?_ _ | refine zz7 ?_ | refine zz8 ?_ _));exact BK307.out) hb)
      have n5_:=zz31 (zz11 (g:=gb321) (o:=.cells #[.int .i64 t317,.slice Ao25 t318.length co25] 30 (0,0)) (by (with_reducible repeat (first | refine zz6 ?_ _ | refine zz7 ?_ | refine zz8 ?_ _));exact BK321.out) hb)
      have n6_:=zz31 (zz4 (by repeat first | exact HB.out | apply zz2 | apply zz0 | apply zz1 | refine zz3 ?_ GE307.out | refine zz3 ?_ GE321.out) hb)
      clear HO_6
      clear HO_9
      clear HO_322001
      clear BK307
      clear BK321
      clear HB
      have HO_6:=n0_
      have HO_9:=n1_
      have HO_322001:=n2_
      have HO330:=n3_
      have BK307:=n4_
      have BK321:=n5_
      have HB:=n6_
      clear n0_ n1_ n2_ n3_ n4_ n5_ n6_
      (try clear hb)
      (try clear hb2)
      (try clear hk)
      (try clear hi)
      (try clear ho0)
      obtain ⟨Ao41,co41,eo41⟩:=Kd.R_slice HO330.out
      (first | subst eo41 | (injection eo41 with f1_ f2_ f3_;have f4_:=f1_.symm;have f5_:=f3_.symm;clear f1_ f2_ f3_;subst f4_;subst f5_))
      refine hK.out _ _ ⟨(zz9 BK321.out 0).trans rfl,(zz9 BK321.out 1).trans rfl,(zz9 BK307.out 0).trans rfl,(zz9 BK307.out 1).trans rfl⟩ (fun hHeld=>?_)
      clear hK K
      refine norm_ (a':=?_) ?_ ?_
      rotate_left
      ·show Act.put _ (some 47) _=_
       simp only [Act.put,zz21,zz22,zz23,i64_w,i32_w]
       rfl
      refine one_ (i:=3) (N:=some 48) #[T,T,T,T,F] rfl rfl (by kernel_rfl) (by decide) (fun K hK=>?_)
      refine goes_ Tryd.func10 (by kernel_rfl) rfl #[.agg #[.int .i64 t317,.slice Ao25 t318.length co25],.agg #[.int .i64 t327,.slice Ao41 t328.length co41]] (by rfl) rfl rfl (by (try simp only [zz26,zz27,zz28]);first | done | rfl | (simp only [zz24,zz25];rfl)) ?_
      with_reducible refine (laws_eqParty.calls kj11 t317 _ _ t318 t327 _ _ t328 true _ ?side1 ?side2 ?side3 ?side4 A35.out).mono ?_
      (case side1=>repeat (first | exact (Kd.R_reads' HO_322001.out).2.2 | (with_reducible refine zz18 ?_ _) | (with_reducible refine zz19 ?_ _) | (with_reducible refine zz20 ?_)))
      (case side2=>exact (Kd.R_reads' HO_322001.out).2.1)
      (case side3=>repeat (first | exact (Kd.R_reads' HO330.out).2.2 | (with_reducible refine zz18 ?_ _) | (with_reducible refine zz19 ?_ _) | (with_reducible refine zz20 ?_)))
      (case side4=>exact (Kd.R_reads' HO330.out).2.1)
      rintro e w42 ⟨rfl,hb⟩
      refine ⟨_,rfl,?_⟩
      have n0_:=zz31 (Kd.R_below (by (with_reducible repeat (first | apply zz12 | apply zz13 | apply zz14));exact HO_6.out) hb)
      have n1_:=zz31 (Kd.R_below (by (with_reducible repeat (first | apply zz12 | apply zz13 | apply zz14));exact HO_9.out) hb)
      have n2_:=zz31 (Kd.R_below (by (with_reducible repeat (first | apply zz12 | apply zz13 | apply zz14));exact HO_322001.out) hb)
      have n3_:=zz31 (Kd.R_below (by (with_reducible repeat (first | apply zz12 | apply zz13 | apply zz14));exact HO330.out) hb)
      have n4_:=zz31 (zz11 (g:=gb307) (o:=.cells #[.int .i64 a0_0,.slice A0_1 l0_1.length c0_1] 24 (0,0)) (by (with_reducible repeat (first | refine zz6 ?_ _ | refine zz7 ?_ | refine zz8 ?_ _));exact BK307.out) hb)
      have n5_:=zz31 (zz11 (g:=gb321) (o:=.cells #[.int .i64 t317,.slice Ao25 t318.length co25] 30 (0,0)) (by (with_reducible repeat (first | refine zz6 ?_ _ | refine zz7 ?_ | refine zz8 ?_ _));exact BK321.out) hb)
      have n6_:=zz31 (zz4 (by repeat first | exact HB.out | apply zz2 | apply zz0 | apply zz1 | refine zz3 ?_ GE307.out | refine zz3 ?_ GE321.out) hb)
      clear HO_6
      clear HO_9
      clear HO_322001
      clear HO330
      clear BK307
      clear BK321
      clear HB
      have HO_6:=n0_
      have HO_9:=n1_
      have HO_322001:=n2_
      have HO330:=n3_
      have BK307:=n4_
      have BK321:=n5_
      have HB:=n6_
      clear n0_ n1_ n2_ n3_ n4_ n5_ n6_
      (try clear hb)
      (try clear hb2)
      (try clear hk)
      (try clear hi)
      refine hK.out _ _ ⟨(zz9 BK321.out 0).trans rfl,(zz9 BK321.out 1).trans rfl,(zz9 BK307.out 0).trans rfl,(zz9 BK307.out 1).trans rfl⟩ (fun hHeld=>?_)
      clear hK K
      refine norm_ (a':=?_) ?_ ?_
      rotate_left
      ·show Act.put _ (some 48) _=_
       simp only [Act.put,zz21,zz22,zz23,i64_w,i32_w]
       rfl
      refine pure_ (i:=4) (N:=some 49) (v:=?_) (a':=?_) #[T,T,T,T,T] rfl rfl (by kernel_rfl) (fun _ _ _ h=>h) (Or.inl ⟨by rfl,?_⟩) ?_ ?_
      rotate_left
      ·intro w'
       go_simp
       with_reducible rfl
      rotate_left
      ·simp only [Act.put,zz21,zz22,zz23,i64_w,i32_w]
       rfl
      refine done_ (by kernel_rfl) ?_
      have hnb43:=NB321_307.out
      have hnc43:=NB307_321.out
      have hcz44_0:w42.cell? ⟨gb321,0,none⟩=some (.int .i64 t317):=(zz9 BK321.out 0).trans rfl
      have hcz44_1:w42.cell? ⟨gb321,1,none⟩=some (.slice Ao25 t318.length co25):=(zz9 BK321.out 1).trans rfl
      have hfz44_0:=zz10 BK321.out 0
      have hfz44_1:=zz10 BK321.out 1
      go_upto_region 14 with (first | ((with_reducible refine gate_callee (f:=14) rfl ?_);refine goesL_ (some 52) rfl rfl Tryd.func14 (by kernel_rfl) rfl #[.agg #[.int .i64 t317,.slice Ao25 t318.length co25],.int .i64 1] rfl (by (try simp only [zz26,zz27,zz28]);first | done | rfl | (simp only [zz24,zz25];rfl)) ?_;(with_reducible refine (laws_markParty.calls kj11 t317 (fun k_=>some k_=(.slice Ao25 t318.length co25:Value).ownBlock) (.slice Ao25 t318.length co25) t318 1 t332 t333 w _ ?side1 ?side2 A37.out).mono ?_);(case side1=>repeat first | exact HB.out | apply zz2 | apply zz0 | apply zz1 | refine zz3 ?_ GE307.out | refine zz3 ?_ GE321.out);(case side2=>exact Kd.R_tight rfl HO_322001.out);rintro e w45 ⟨rfl,hy0,hb,hkp⟩;refine ⟨_,rfl,?_⟩;have n0_:=zz31 (Kd.R_mono (ok':=fun k_=>some k_ ≠ (v323:Value).ownBlock) (Kd.R_keptB ((Kd.R_apart' HO_6.out (Kd.R_typed HO_322001.out) (by decide))) hkp (fun k_ hk_ hs_=>(hk_.2) hs_)) (fun k_ hk_=>hk_.1.1));have n1_:=zz31 (Kd.R_mono (ok':=fun k_=>some k_ ≠ (v314:Value).ownBlock) (Kd.R_keptB ((Kd.R_apart' HO_9.out (Kd.R_typed HO_322001.out) (by decide))) hkp (fun k_ hk_ hs_=>(hk_.2) hs_)) (fun k_ hk_=>hk_.1.1));have n2_:=zz31 (Kd.R_reok rfl hy0 (fun k_ e_=>HO_322001.out.1 k_ e_));have n3_:=zz31 (blk_kept (by first | (with_reducible exact BK307.out) | ((with_reducible repeat (first | refine zz6 ?_ _ | refine zz7 ?_ | refine zz8 ?_ _));exact BK307.out)) hkp (fun hs_=>(fun e_=>(Kd.R_ne HO_322001.out BK307.out (by decide)) e_) hs_));have n4_:=zz31 (blk_kept (by first | (with_reducible exact BK321.out) | ((with_reducible repeat (first | refine zz6 ?_ _ | refine zz7 ?_ | refine zz8 ?_ _));exact BK321.out)) hkp (fun hs_=>(fun e_=>(Kd.R_ne HO_322001.out BK321.out (by decide)) e_) hs_));have n5_:=zz31 (Kd.R_mono (ok':=fun k_=>some k_ ≠ (.slice Ao25 t318.length co25:Value).ownBlock) (Kd.R_keptB (HO330.out) hkp (fun k_ hk_ hs_=>(hk_.2) hs_)) (fun k_ hk_=>hk_.1.2));have n6_:=zz31 (hb);clear HO_6;clear HO_9;clear HO_322001;clear BK307;clear BK321;clear HO330;clear HB;have HO_6:=n0_;have HO_9:=n1_;have HO_322001:=n2_;have BK307:=n3_;have BK321:=n4_;have HO330:=n5_;have HB:=n6_;clear n0_ n1_ n2_ n3_ n4_ n5_ n6_;(try clear hb);(try clear hkp);(try clear hy0)))
      (try simp only [Act.put,zz21,zz22,zz23])
      go_cut [65] (fun v65 wc=>∃ (kq:Nat) (x65_37:Bool),v65=.bool x65_37∧Aside0 (laws_FnExactFriendsOf.j1 kq a1 t313 t316 t322 x65_37 a0_0 l0_1=some r)∧Aside0 (kq≤kj11)∧Aside0 (Kd.R (Kd.int .i64) 3 wc w.heap.size (fun k_=>some k_ ≠ (v323:Value).ownBlock) v314 t313)∧Aside0 (Kd.R (Kd.int .i64) 3 wc w.heap.size (fun k_=>some k_ ≠ (v314:Value).ownBlock) v323 t322)∧Aside0 (Kd.R k68 68 wc w.heap.size (fun _=>True) (.slice Ao25 t318.length co25) t333)∧Aside0 (wc.heap[gb307]?=some (.cells #[.int .i64 a0_0,(.slice A0_1 l0_1.length c0_1)] 24 (0,0)))∧Aside0 (wc.heap[gb321]?=some (.cells #[.int .i64 t317,(.slice Ao25 t318.length co25)] 30 (0,0)))∧Aside0 (Below w.heap.size w wc))
      case first =>
       have H:=HC38.out
       clear HC38
       by_cases c46:t332 < 0
       ·rw [if_pos c46] at H
        have c46b0:decide (t332 < 0)=true:=decide_eq_true c46
        clear c46
        (first | rw [c46b0] | (simp only [i64_w,i32_w];rw [c46b0]) | skip)
        have H':=zz31 H
        clear H
        go_wp2
        go_meet
        case rel=>exact ⟨_,(true),(by first | rfl | (simp;done) | (simp [*];done)),H',⟨by have:=HJ11.out;first | omega | exact Nat.le_refl _⟩,⟨by (with_reducible repeat (first | apply zz12 | apply zz13 | apply zz14));exact HO_6.out⟩,⟨by (with_reducible repeat (first | apply zz12 | apply zz13 | apply zz14));exact HO_9.out⟩,⟨by (with_reducible repeat (first | apply zz12 | apply zz13 | apply zz14));exact Kd.R_mono HO_322001.out (fun _ hk=>trivial)⟩,⟨by (with_reducible repeat (first | refine zz6 ?_ _ | refine zz7 ?_ | refine zz8 ?_ _));exact BK307.out⟩,⟨by (with_reducible repeat (first | refine zz6 ?_ _ | refine zz7 ?_ | refine zz8 ?_ _));exact BK321.out⟩,⟨by repeat first | exact HB.out | apply zz2 | apply zz0 | apply zz1 | refine zz3 ?_ GE307.out | refine zz3 ?_ GE321.out⟩⟩
       ·rw [if_neg c46] at H
        have c46b0:decide (t332 < 0)=false:=decide_eq_false c46
        clear c46
        (first | rw [c46b0] | (simp only [i64_w,i32_w];rw [c46b0]) | skip)
        replace H:=zz30.mp H
        obtain ⟨t334,A470,H⟩:=H
        replace H:(if t334=true then (laws_FnExactFriendsOf.j1 kj11 a1 t313 t316 t322 (t325 != t316) a0_0 l0_1) else (laws_FnExactFriendsOf.j1 kj11 a1 t313 t316 t322 true a0_0 l0_1))=some r:=H
        have A47:=zz31 A470
        clear A470
        by_cases c48:t334=true
        ·subst c48
         have H1:(laws_FnExactFriendsOf.j1 kj11 a1 t313 t316 t322 (t325 != t316) a0_0 l0_1)=some r:=by rw [if_pos rfl] at H;exact H
         clear H
         have H:=H1
         clear H1
         have H':=zz31 H
         clear H
         obtain ⟨Ao49,co49,eo49⟩:=Kd.R_slice HO_9.out
         subst eo49
         obtain ⟨Ao50,co50,eo50⟩:=Kd.R_slice HO_6.out
         subst eo50
         go_wp2_with (first | (go_at_call 13;(with_reducible refine (laws_eqIntS.calls kj11 _ _ t322 _ _ t313 true _ ?side1 ?side2 ?side3 ?side4 A47.out).mono ?_);(case side1=>repeat (first | exact (Kd.R_reads' HO_9.out).2.2 | (with_reducible refine zz18 ?_ _) | (with_reducible refine zz19 ?_ _) | (with_reducible refine zz20 ?_)));(case side2=>exact (Kd.R_reads' HO_9.out).2.1);(case side3=>repeat (first | exact (Kd.R_reads' HO_6.out).2.2 | (with_reducible refine zz18 ?_ _) | (with_reducible refine zz19 ?_ _) | (with_reducible refine zz20 ?_)));(case side4=>exact (Kd.R_reads' HO_6.out).2.1);rintro e w' ⟨rfl,⟨nd,rfl⟩⟩))
         go_meet
         case rel=>exact ⟨_,((t325 != t316)),(by first | rfl | (simp;done) | (simp [*];done)),H',⟨by have:=HJ11.out;first | omega | exact Nat.le_refl _⟩,⟨by (with_reducible repeat (first | apply zz12 | apply zz13 | apply zz14));exact HO_6.out⟩,⟨by (with_reducible repeat (first | apply zz12 | apply zz13 | apply zz14));exact HO_9.out⟩,⟨by (with_reducible repeat (first | apply zz12 | apply zz13 | apply zz14));exact Kd.R_mono HO_322001.out (fun _ hk=>trivial)⟩,⟨by (with_reducible repeat (first | refine zz6 ?_ _ | refine zz7 ?_ | refine zz8 ?_ _));exact BK307.out⟩,⟨by (with_reducible repeat (first | refine zz6 ?_ _ | refine zz7 ?_ | refine zz8 ?_ _));exact BK321.out⟩,⟨by repeat first | exact HB.out | apply zz2 | apply zz0 | apply zz1 | refine zz3 ?_ GE307.out | refine zz3 ?_ GE321.out⟩⟩
        ·replace c48:=Bool.eq_false_iff.mpr c48
         subst c48
         have H1:(laws_FnExactFriendsOf.j1 kj11 a1 t313 t316 t322 true a0_0 l0_1)=some r:=by rw [if_neg (show ¬ (false=true) by decide)] at H;exact H
         clear H
         have H:=H1
         clear H1
         have H':=zz31 H
         clear H
         obtain ⟨Ao51,co51,eo51⟩:=Kd.R_slice HO_9.out
         subst eo51
         obtain ⟨Ao52,co52,eo52⟩:=Kd.R_slice HO_6.out
         subst eo52
         go_wp2_with (first | (go_at_call 13;(with_reducible refine (laws_eqIntS.calls kj11 _ _ t322 _ _ t313 false _ ?side1 ?side2 ?side3 ?side4 A47.out).mono ?_);(case side1=>repeat (first | exact (Kd.R_reads' HO_9.out).2.2 | (with_reducible refine zz18 ?_ _) | (with_reducible refine zz19 ?_ _) | (with_reducible refine zz20 ?_)));(case side2=>exact (Kd.R_reads' HO_9.out).2.1);(case side3=>repeat (first | exact (Kd.R_reads' HO_6.out).2.2 | (with_reducible refine zz18 ?_ _) | (with_reducible refine zz19 ?_ _) | (with_reducible refine zz20 ?_)));(case side4=>exact (Kd.R_reads' HO_6.out).2.1);rintro e w' ⟨rfl,⟨nd,rfl⟩⟩))
         go_meet
         case rel=>exact ⟨_,(true),(by first | rfl | (simp;done) | (simp [*];done)),H',⟨by have:=HJ11.out;first | omega | exact Nat.le_refl _⟩,⟨by (with_reducible repeat (first | apply zz12 | apply zz13 | apply zz14));exact HO_6.out⟩,⟨by (with_reducible repeat (first | apply zz12 | apply zz13 | apply zz14));exact HO_9.out⟩,⟨by (with_reducible repeat (first | apply zz12 | apply zz13 | apply zz14));exact Kd.R_mono HO_322001.out (fun _ hk=>trivial)⟩,⟨by (with_reducible repeat (first | refine zz6 ?_ _ | refine zz7 ?_ | refine zz8 ?_ _));exact BK307.out⟩,⟨by (with_reducible repeat (first | refine zz6 ?_ _ | refine zz7 ?_ | refine zz8 ?_ _));exact BK321.out⟩,⟨by repeat first | exact HB.out | apply zz2 | apply zz0 | apply zz1 | refine zz3 ?_ GE307.out | refine zz3 ?_ GE321.out⟩⟩
      case rest =>
       clear HC38
       try clear c1
       try clear c2
       try clear p2
       try clear c3
       try clear c4
       try clear c4b0
       try clear c6
       try clear c8
       try clear c10
       try clear c11
       try clear c12
       try clear c13
       try clear c14
       try clear c23
       try clear c28
       try clear c33
       try clear c36
       try clear c43
       try clear c46
       try clear c46b0
       try clear c48
       try clear hcz14_0
       try clear hcz14_1
       try clear hcz16_0
       try clear hcz16_1
       try clear hcz20_0
       try clear hcz20_1
       try clear hcz24_0
       try clear hcz24_1
       try clear hcz44_0
       try clear hcz44_1
       try clear hcz6_0
       try clear hcz6_1
       try clear hfz14_0
       try clear hfz14_1
       try clear hfz16_0
       try clear hfz16_1
       try clear hfz20_0
       try clear hfz20_1
       try clear hfz24_0
       try clear hfz24_1
       try clear hfz44_0
       try clear hfz44_1
       try clear hfz6_0
       try clear hfz6_1
       try clear p2
       obtain ⟨kq,x65_37,rfl,HA,HJ37,HO_6,HO_9,HO_322001,BK307,BK321,HB⟩:=hcut
       have hl322001_37:=(Kd.R_reads' HO_322001.out).1
       rw [hl322001_37] at HO_322001
       (try simp only [hl322001_37])
       (try simp only [hl322001_37] at BK307)
       (try simp only [hl322001_37] at BK321)
       (try simp only [hl322001_37] at HO_6)
       (try simp only [hl322001_37] at HO_9)
       cases kq with
       | zero=>exact absurd HA.out (by simp [laws_FnExactFriendsOf.j1])
       | succ kj37 =>
        have H:=HA.out
        clear HA
        simp only [laws_FnExactFriendsOf.j1] at H
        by_cases c53:x65_37=true
        ·subst c53
         have H1:(some false)=some r:=by rw [if_pos rfl] at H;exact H
         clear H
         have H:=H1
         clear H1
         obtain rfl:=Option.some.inj H
         go_wp2
         go_ret
         exact ⟨by first | rfl | (simp [errW_none,errW_some] <;> rfl) | (simp [*,errW_none,errW_some] <;> rfl),by repeat first | exact HB.out | apply zz2 | apply zz0 | apply zz1 | refine zz3 ?_ GE307.out | refine zz3 ?_ GE321.out⟩
        ·replace c53:=Bool.eq_false_iff.mpr c53
         subst c53
         have H1:((laws_markIntS.f kj37 t322 1).bind fun bt335=>((laws_heldIntS.f kj37 bt335.2 1).bind fun t337=>(if t337 < 0 then (some false) else (if t337=bt335.1 then ((laws_toParty.f kj37 a0_0 l0_1).bind fun bt338=>((impl_FriendsOf.f kj37 bt338.1 bt338.2 a1).bind fun bt342=>((laws_eqIntS.f kj37 bt342.1 t313).bind fun t346=>(if t346=true then (laws_FnExactFriendsOf.j2 kj37 bt335.2 bt335.1 (bt342.2 != t316)) else (laws_FnExactFriendsOf.j2 kj37 bt335.2 bt335.1 true))))) else (some false)))))=some r:=by rw [if_neg (show ¬ (false=true) by decide)] at H;exact H
         clear H
         have H:=H1
         clear H1
         replace H:=zz30.mp H
         obtain ⟨⟨t335,t336⟩,A540,H⟩:=H
         replace H:((laws_heldIntS.f kj37 t336 1).bind fun t337=>(if t337 < 0 then (some false) else (if t337=t335 then ((laws_toParty.f kj37 a0_0 l0_1).bind fun bt338=>((impl_FriendsOf.f kj37 bt338.1 bt338.2 a1).bind fun bt342=>((laws_eqIntS.f kj37 bt342.1 t313).bind fun t346=>(if t346=true then (laws_FnExactFriendsOf.j2 kj37 t336 t335 (bt342.2 != t316)) else (laws_FnExactFriendsOf.j2 kj37 t336 t335 true))))) else (some false))))=some r:=H
         have A54:=zz31 A540
         clear A540
         replace H:=zz30.mp H
         obtain ⟨t337,A550,H⟩:=H
         replace H:(if t337 < 0 then (some false) else (if t337=t335 then ((laws_toParty.f kj37 a0_0 l0_1).bind fun bt338=>((impl_FriendsOf.f kj37 bt338.1 bt338.2 a1).bind fun bt342=>((laws_eqIntS.f kj37 bt342.1 t313).bind fun t346=>(if t346=true then (laws_FnExactFriendsOf.j2 kj37 t336 t335 (bt342.2 != t316)) else (laws_FnExactFriendsOf.j2 kj37 t336 t335 true))))) else (some false)))=some r:=H
         have A55:=zz31 A550
         clear A550
         by_cases c56:t337 < 0
         ·rw [if_pos c56] at H
          have c56b0:decide (t337 < 0)=true:=decide_eq_true c56
          clear c56
          obtain rfl:=Option.some.inj H
          obtain ⟨Ao57,co57,eo57⟩:=Kd.R_slice HO_9.out
          subst eo57
          go_wp2_with (first | ((with_reducible refine gate_callee (f:=15) rfl ?_);refine goesL_ (some 68) rfl rfl Tryd.func15 (by kernel_rfl) rfl #[.slice Ao57 t322.length co57,.int .i64 1] rfl (by (try simp only [zz26,zz27,zz28]);first | done | rfl | (simp only [zz24,zz25];rfl)) ?_;(with_reducible refine (laws_markIntS.calls kj37 (fun k_=>some k_=(.slice Ao57 t322.length co57:Value).ownBlock) (.slice Ao57 t322.length co57) t322 1 t335 t336 w _ ?side1 ?side2 A54.out).mono ?_);(case side1=>repeat first | exact HB.out | apply zz2 | apply zz0 | apply zz1 | refine zz3 ?_ GE307.out | refine zz3 ?_ GE321.out);(case side2=>exact Kd.R_tight rfl HO_9.out);rintro e w58 ⟨rfl,hy0,hb,hkp⟩;refine ⟨_,rfl,?_⟩;have n0_:=zz31 (Kd.R_mono (ok':=fun k_=>some k_ ≠ (.slice Ao57 t322.length co57:Value).ownBlock) (Kd.R_keptB (HO_6.out) hkp (fun k_ hk_ hs_=>(hk_) hs_)) (fun k_ hk_=>hk_.1));have n1_:=zz31 (Kd.R_reok rfl hy0 (fun k_ e_=>HO_9.out.1 k_ e_));have n2_:=zz31 (Kd.R_mono (ok':=fun k_=>True) (Kd.R_keptB ((Kd.R_apart' HO_322001.out (Kd.R_typed HO_9.out) (by decide))) hkp (fun k_ hk_ hs_=>(hk_.2) hs_)) (fun k_ hk_=>trivial));have n3_:=zz31 (blk_kept (by first | (with_reducible exact BK307.out) | ((with_reducible repeat (first | refine zz6 ?_ _ | refine zz7 ?_ | refine zz8 ?_ _));exact BK307.out)) hkp (fun hs_=>(fun e_=>(Kd.R_ne HO_9.out BK307.out (by decide)) e_) hs_));have n4_:=zz31 (blk_kept (by first | (with_reducible exact BK321.out) | ((with_reducible repeat (first | refine zz6 ?_ _ | refine zz7 ?_ | refine zz8 ?_ _));exact BK321.out)) hkp (fun hs_=>(fun e_=>(Kd.R_ne HO_9.out BK321.out (by decide)) e_) hs_));have n5_:=zz31 (hb);clear HO_6;clear HO_9;clear HO_322001;clear BK307;clear BK321;clear HB;have HO_6:=n0_;have HO_9:=n1_;have HO_322001:=n2_;have BK307:=n3_;have BK321:=n4_;have HB:=n5_;clear n0_ n1_ n2_ n3_ n4_ n5_;(try clear hb);(try clear hkp);(try clear hy0)) | ((with_reducible refine gate_callee (f:=16) rfl ?_);refine goesL_ (some 71) rfl rfl Tryd.func16 (by kernel_rfl) rfl #[.slice Ao57 t336.length co57,.int .i64 1] rfl (by (try simp only [zz26,zz27,zz28]);first | done | (rw [show t336.length=t322.length from (Kd.R_reads' HO_9.out).1.symm] <;> rfl) | rfl | (simp only [zz24,zz25];rfl)) ?_;(with_reducible refine (laws_heldIntS.calls kj37 _ _ t336 1 t337 _ ?side1 ?side2 A55.out).mono ?_);(case side1=>repeat (first | exact (Kd.R_reads' HO_9.out).2.2 | (with_reducible refine zz18 ?_ _) | (with_reducible refine zz19 ?_ _) | (with_reducible refine zz20 ?_)));(case side2=>rw [show t336.length=t322.length from (Kd.R_reads' HO_9.out).1.symm];exact (Kd.R_reads' HO_9.out).2.1);rintro e w' ⟨rfl,⟨nd,rfl⟩⟩;refine ⟨_,rfl,?_⟩))
          go_ret
          exact ⟨by first | rfl | (simp [errW_none,errW_some] <;> rfl) | (simp [*,errW_none,errW_some] <;> rfl),by repeat first | exact HB.out | apply zz2 | apply zz0 | apply zz1 | refine zz3 ?_ GE307.out | refine zz3 ?_ GE321.out⟩
         ·rw [if_neg c56] at H
          have c56b0:decide (t337 < 0)=false:=decide_eq_false c56
          clear c56
          by_cases c59:t337=t335
          ·rw [if_pos c59] at H
           have c59b0:(t337 == t335)=true:=beq_iff_eq.mpr c59
           have c59b1:(t337 != t335)=false:=bne_eq_false_iff_eq.mpr c59
           clear c59
           replace H:=zz30.mp H
           obtain ⟨⟨t338,t339⟩,A600,H⟩:=H
           replace H:((impl_FriendsOf.f kj37 t338 t339 a1).bind fun bt342=>((laws_eqIntS.f kj37 bt342.1 t313).bind fun t346=>(if t346=true then (laws_FnExactFriendsOf.j2 kj37 t336 t335 (bt342.2 != t316)) else (laws_FnExactFriendsOf.j2 kj37 t336 t335 true))))=some r:=H
           have A60:=zz31 A600
           clear A600
           replace H:=zz30.mp H
           obtain ⟨⟨t342,t345⟩,A610,H⟩:=H
           replace H:((laws_eqIntS.f kj37 t342 t313).bind fun t346=>(if t346=true then (laws_FnExactFriendsOf.j2 kj37 t336 t335 (t345 != t316)) else (laws_FnExactFriendsOf.j2 kj37 t336 t335 true)))=some r:=H
           have A61:=zz31 A610
           clear A610
           have HC62:=zz31 H
           clear H
           obtain ⟨Ao63,co63,eo63⟩:=Kd.R_slice HO_9.out
           subst eo63
           go_upto_region 25 with (first | ((with_reducible refine gate_callee (f:=15) rfl ?_);refine goesL_ (some 68) rfl rfl Tryd.func15 (by kernel_rfl) rfl #[.slice Ao63 t322.length co63,.int .i64 1] rfl (by (try simp only [zz26,zz27,zz28]);first | done | rfl | (simp only [zz24,zz25];rfl)) ?_;(with_reducible refine (laws_markIntS.calls kj37 (fun k_=>some k_=(.slice Ao63 t322.length co63:Value).ownBlock) (.slice Ao63 t322.length co63) t322 1 t335 t336 w _ ?side1 ?side2 A54.out).mono ?_);(case side1=>repeat first | exact HB.out | apply zz2 | apply zz0 | apply zz1 | refine zz3 ?_ GE307.out | refine zz3 ?_ GE321.out);(case side2=>exact Kd.R_tight rfl HO_9.out);rintro e w64 ⟨rfl,hy0,hb,hkp⟩;refine ⟨_,rfl,?_⟩;have n0_:=zz31 (Kd.R_mono (ok':=fun k_=>some k_ ≠ (.slice Ao63 t322.length co63:Value).ownBlock) (Kd.R_keptB (HO_6.out) hkp (fun k_ hk_ hs_=>(hk_) hs_)) (fun k_ hk_=>hk_.1));have n1_:=zz31 (Kd.R_reok rfl hy0 (fun k_ e_=>HO_9.out.1 k_ e_));have n2_:=zz31 (Kd.R_mono (ok':=fun k_=>True) (Kd.R_keptB ((Kd.R_apart' HO_322001.out (Kd.R_typed HO_9.out) (by decide))) hkp (fun k_ hk_ hs_=>(hk_.2) hs_)) (fun k_ hk_=>trivial));have n3_:=zz31 (blk_kept (by first | (with_reducible exact BK307.out) | ((with_reducible repeat (first | refine zz6 ?_ _ | refine zz7 ?_ | refine zz8 ?_ _));exact BK307.out)) hkp (fun hs_=>(fun e_=>(Kd.R_ne HO_9.out BK307.out (by decide)) e_) hs_));have n4_:=zz31 (blk_kept (by first | (with_reducible exact BK321.out) | ((with_reducible repeat (first | refine zz6 ?_ _ | refine zz7 ?_ | refine zz8 ?_ _));exact BK321.out)) hkp (fun hs_=>(fun e_=>(Kd.R_ne HO_9.out BK321.out (by decide)) e_) hs_));have n5_:=zz31 (hb);clear HO_6;clear HO_9;clear HO_322001;clear BK307;clear BK321;clear HB;have HO_6:=n0_;have HO_9:=n1_;have HO_322001:=n2_;have BK307:=n3_;have BK321:=n4_;have HB:=n5_;clear n0_ n1_ n2_ n3_ n4_ n5_;(try clear hb);(try clear hkp);(try clear hy0)) | ((with_reducible refine gate_callee (f:=16) rfl ?_);refine goesL_ (some 71) rfl rfl Tryd.func16 (by kernel_rfl) rfl #[.slice Ao63 t336.length co63,.int .i64 1] rfl (by (try simp only [zz26,zz27,zz28]);first | done | (rw [show t336.length=t322.length from (Kd.R_reads' HO_9.out).1.symm] <;> rfl) | rfl | (simp only [zz24,zz25];rfl)) ?_;(with_reducible refine (laws_heldIntS.calls kj37 _ _ t336 1 t337 _ ?side1 ?side2 A55.out).mono ?_);(case side1=>repeat (first | exact (Kd.R_reads' HO_9.out).2.2 | (with_reducible refine zz18 ?_ _) | (with_reducible refine zz19 ?_ _) | (with_reducible refine zz20 ?_)));(case side2=>rw [show t336.length=t322.length from (Kd.R_reads' HO_9.out).1.symm];exact (Kd.R_reads' HO_9.out).2.1);rintro e w' ⟨rfl,⟨nd,rfl⟩⟩;refine ⟨_,rfl,?_⟩;have hnb65:=NB307_321.out;have hnc65:=NB321_307.out;have hcz66_0:w64.cell? ⟨gb307,0,none⟩=some (.int .i64 a0_0):=(zz9 BK307.out 0).trans rfl;have hcz66_1:w64.cell? ⟨gb307,1,none⟩=some (.slice A0_1 l0_1.length c0_1):=(zz9 BK307.out 1).trans rfl;have hfz66_0:=zz10 BK307.out 0;have hfz66_1:=zz10 BK307.out 1) | ((with_reducible refine gate_callee (f:=8) rfl ?_);refine goesL_ (some 79) rfl rfl Tryd.func8 (by kernel_rfl) rfl #[.agg #[.int .i64 a0_0,.slice A0_1 l0_1.length c0_1]] rfl (by (try simp only [zz26,zz27,zz28]);first | done | rfl | (simp only [zz24,zz25];rfl)) ?_;(with_reducible refine (laws_toParty.calls kj37 a0_0 _ _ l0_1 t338 t339 _ ?side1 ?side2 A60.out).mono ?_);(case side1=>repeat (first | exact (Kd.C_below HR0_1.out (by repeat first | exact HB.out | apply zz2 | apply zz0 | apply zz1 | refine zz3 ?_ GE307.out | refine zz3 ?_ GE321.out)) | (with_reducible refine zz18 ?_ _) | (with_reducible refine zz19 ?_ _) | (with_reducible refine zz20 ?_)));(case side2=>exact HC0_1.out);rintro e w67 ⟨v340,rfl,ho0,hb⟩;refine ⟨_,rfl,?_⟩;have n0_:=zz31 (Kd.R_below (by (with_reducible repeat (first | apply zz12 | apply zz13 | apply zz14));exact HO_6.out) hb);have n1_:=zz31 (Kd.R_below (by (with_reducible repeat (first | apply zz12 | apply zz13 | apply zz14));exact HO_9.out) hb);have n2_:=zz31 (Kd.R_elder' (by (with_reducible repeat (first | apply zz12 | apply zz13 | apply zz14));exact HO_322001.out) (Kd.R_base ho0) hb);have n3_:=zz31 (Kd.R_lower (Kd.R_new' ho0 (Kd.R_lt (by (with_reducible repeat (first | apply zz12 | apply zz13 | apply zz14));exact HO_322001.out))) (zz5 (by repeat first | exact HB.out | apply zz2 | apply zz0 | apply zz1 | refine zz3 ?_ GE307.out | refine zz3 ?_ GE321.out)));have n4_:=zz31 (zz11 (g:=gb307) (o:=.cells #[.int .i64 a0_0,.slice A0_1 l0_1.length c0_1] 24 (0,0)) (by (with_reducible repeat (first | refine zz6 ?_ _ | refine zz7 ?_ | refine zz8 ?_ _));exact BK307.out) hb);have n5_:=zz31 (zz11 (g:=gb321) (o:=.cells #[.int .i64 t317,.slice Ao25 t333.length co25] 30 (0,0)) (by (with_reducible repeat (first | refine zz6 ?_ _ | refine zz7 ?_ | refine zz8 ?_ _));exact BK321.out) hb);have n6_:=zz31 (zz4 (by repeat first | exact HB.out | apply zz2 | apply zz0 | apply zz1 | refine zz3 ?_ GE307.out | refine zz3 ?_ GE321.out) hb);clear HO_6;clear HO_9;clear HO_322001;clear BK307;clear BK321;clear HB;have HO_6:=n0_;have HO_9:=n1_;have HO_322001:=n2_;have HO341:=n3_;have BK307:=n4_;have BK321:=n5_;have HB:=n6_;clear n0_ n1_ n2_ n3_ n4_ n5_ n6_;(try clear hb);(try clear hb2);(try clear hk);(try clear hi);(try clear ho0);obtain ⟨Ao68,co68,eo68⟩:=Kd.R_slice HO341.out;subst eo68) | ((with_reducible refine gate_callee (f:=12) rfl ?_);refine goesL_ (some 81) rfl rfl Tryd.func12 (by kernel_rfl) rfl #[.agg #[.int .i64 t338,.slice Ao68 t339.length co68],.int .i64 a1] rfl (by (try simp only [zz26,zz27,zz28]);first | done | rfl | (simp only [zz24,zz25];rfl)) ?_;(with_reducible refine (impl_FriendsOf.calls kj37 t338 _ _ t339 a1 t342 t345 _ ?side1 ?side2 A61.out (HT.out.below (by repeat first | exact HB.out | apply zz2 | apply zz0 | apply zz1 | refine zz3 ?_ GE307.out | refine zz3 ?_ GE321.out))).mono ?_);(case side1=>repeat (first | exact (Kd.R_reads' HO341.out).2.2 | (with_reducible refine zz18 ?_ _) | (with_reducible refine zz19 ?_ _) | (with_reducible refine zz20 ?_)));(case side2=>exact (Kd.R_reads' HO341.out).2.1);rintro e w69 ⟨v343,rfl,ho0,hb⟩;refine ⟨_,rfl,?_⟩;have n0_:=zz31 (Kd.R_elder' (by (with_reducible repeat (first | apply zz12 | apply zz13 | apply zz14));exact HO_6.out) (Kd.R_base ho0) hb);have n1_:=zz31 (Kd.R_elder' (by (with_reducible repeat (first | apply zz12 | apply zz13 | apply zz14));exact HO_9.out) (Kd.R_base ho0) hb);have n2_:=zz31 (Kd.R_below (by (with_reducible repeat (first | apply zz12 | apply zz13 | apply zz14));exact HO_322001.out) hb);have n3_:=zz31 (Kd.R_below (by (with_reducible repeat (first | apply zz12 | apply zz13 | apply zz14));exact HO341.out) hb);have n4_:=zz31 (Kd.R_lower (Kd.R_new' (Kd.R_new' ho0 (Kd.R_lt (by (with_reducible repeat (first | apply zz12 | apply zz13 | apply zz14));exact HO_6.out))) (Kd.R_lt (by (with_reducible repeat (first | apply zz12 | apply zz13 | apply zz14));exact HO_9.out))) (zz5 (by repeat first | exact HB.out | apply zz2 | apply zz0 | apply zz1 | refine zz3 ?_ GE307.out | refine zz3 ?_ GE321.out)));have n5_:=zz31 (zz11 (g:=gb307) (o:=.cells #[.int .i64 a0_0,.slice A0_1 l0_1.length c0_1] 24 (0,0)) (by (with_reducible repeat (first | refine zz6 ?_ _ | refine zz7 ?_ | refine zz8 ?_ _));exact BK307.out) hb);have n6_:=zz31 (zz11 (g:=gb321) (o:=.cells #[.int .i64 t317,.slice Ao25 t333.length co25] 30 (0,0)) (by (with_reducible repeat (first | refine zz6 ?_ _ | refine zz7 ?_ | refine zz8 ?_ _));exact BK321.out) hb);have n7_:=zz31 (zz4 (by repeat first | exact HB.out | apply zz2 | apply zz0 | apply zz1 | refine zz3 ?_ GE307.out | refine zz3 ?_ GE321.out) hb);clear HO_6;clear HO_9;clear HO_322001;clear HO341;clear BK307;clear BK321;clear HB;have HO_6:=n0_;have HO_9:=n1_;have HO_322001:=n2_;have HO341:=n3_;have HO344:=n4_;have BK307:=n5_;have BK321:=n6_;have HB:=n7_;clear n0_ n1_ n2_ n3_ n4_ n5_ n6_ n7_;(try clear hb);(try clear hb2);(try clear hk);(try clear hi);(try clear ho0)))
           (try simp only [Act.put,zz21,zz22,zz23])
           go_cut [92] (fun v92 wc=>∃ (kq:Nat) (x92_61:Bool),v92=.bool x92_61∧Aside0 (laws_FnExactFriendsOf.j2 kq t336 t335 x92_61=some r)∧Aside0 (kq≤kj37)∧Aside0 (Kd.R (Kd.int .i64) 3 wc w.heap.size (fun _=>True) (.slice Ao63 t322.length co63) t336)∧Aside0 (Kd.R k68 68 wc w.heap.size (fun _=>True) (.slice Ao25 t333.length co25) t333)∧Aside0 (wc.heap[gb307]?=some (.cells #[.int .i64 a0_0,(.slice A0_1 l0_1.length c0_1)] 24 (0,0)))∧Aside0 (wc.heap[gb321]?=some (.cells #[.int .i64 t317,(.slice Ao25 t333.length co25)] 30 (0,0)))∧Aside0 (Below w.heap.size w wc))
           case first =>
            have H:=HC62.out
            clear HC62
            replace H:=zz30.mp H
            obtain ⟨t346,A700,H⟩:=H
            replace H:(if t346=true then (laws_FnExactFriendsOf.j2 kj37 t336 t335 (t345 != t316)) else (laws_FnExactFriendsOf.j2 kj37 t336 t335 true))=some r:=H
            have A70:=zz31 A700
            clear A700
            by_cases c71:t346=true
            ·subst c71
             have H1:(laws_FnExactFriendsOf.j2 kj37 t336 t335 (t345 != t316))=some r:=by rw [if_pos rfl] at H;exact H
             clear H
             have H:=H1
             clear H1
             have H':=zz31 H
             clear H
             obtain ⟨Ao72,co72,eo72⟩:=Kd.R_slice HO344.out
             subst eo72
             obtain ⟨Ao73,co73,eo73⟩:=Kd.R_slice HO_6.out
             subst eo73
             go_wp2_with (first | ((with_reducible refine gate_callee (f:=13) rfl ?_);refine goesL_ (some 86) rfl rfl Tryd.func13 (by kernel_rfl) rfl #[.slice Ao72 t342.length co72,.slice Ao73 t313.length co73] rfl (by (try simp only [zz26,zz27,zz28]);first | done | rfl | (simp only [zz24,zz25];rfl)) ?_;(with_reducible refine (laws_eqIntS.calls kj37 _ _ t342 _ _ t313 true _ ?side1 ?side2 ?side3 ?side4 A70.out).mono ?_);(case side1=>repeat (first | exact (Kd.R_reads' HO344.out).2.2 | (with_reducible refine zz18 ?_ _) | (with_reducible refine zz19 ?_ _) | (with_reducible refine zz20 ?_)));(case side2=>exact (Kd.R_reads' HO344.out).2.1);(case side3=>repeat (first | exact (Kd.R_reads' HO_6.out).2.2 | (with_reducible refine zz18 ?_ _) | (with_reducible refine zz19 ?_ _) | (with_reducible refine zz20 ?_)));(case side4=>exact (Kd.R_reads' HO_6.out).2.1);rintro e w' ⟨rfl,⟨nd,rfl⟩⟩;refine ⟨_,rfl,?_⟩))
             go_meet
             case rel=>exact ⟨_,((t345 != t316)),(by first | rfl | (simp;done) | (simp [*];done)),H',⟨by have:=HJ11.out;have:=HJ37.out;first | omega | exact Nat.le_refl _⟩,⟨by (try simp only [hl322001_37]);(with_reducible repeat (first | apply zz12 | apply zz13 | apply zz14));exact Kd.R_mono HO_9.out (fun _ hk=>trivial)⟩,⟨by (try simp only [hl322001_37]);(with_reducible repeat (first | apply zz12 | apply zz13 | apply zz14));exact Kd.R_mono HO_322001.out (fun _ hk=>trivial)⟩,⟨by (try simp only [hl322001_37]);(with_reducible repeat (first | refine zz6 ?_ _ | refine zz7 ?_ | refine zz8 ?_ _));exact BK307.out⟩,⟨by (try simp only [hl322001_37]);(with_reducible repeat (first | refine zz6 ?_ _ | refine zz7 ?_ | refine zz8 ?_ _));exact BK321.out⟩,⟨by repeat first | exact HB.out | apply zz2 | apply zz0 | apply zz1 | refine zz3 ?_ GE307.out | refine zz3 ?_ GE321.out⟩⟩
            ·replace c71:=Bool.eq_false_iff.mpr c71
             subst c71
             have H1:(laws_FnExactFriendsOf.j2 kj37 t336 t335 true)=some r:=by rw [if_neg (show ¬ (false=true) by decide)] at H;exact H
             clear H
             have H:=H1
             clear H1
             have H':=zz31 H
             clear H
             obtain ⟨Ao74,co74,eo74⟩:=Kd.R_slice HO344.out
             subst eo74
             obtain ⟨Ao75,co75,eo75⟩:=Kd.R_slice HO_6.out
             subst eo75
             go_wp2_with (first | ((with_reducible refine gate_callee (f:=13) rfl ?_);refine goesL_ (some 86) rfl rfl Tryd.func13 (by kernel_rfl) rfl #[.slice Ao74 t342.length co74,.slice Ao75 t313.length co75] rfl (by (try simp only [zz26,zz27,zz28]);first | done | rfl | (simp only [zz24,zz25];rfl)) ?_;(with_reducible refine (laws_eqIntS.calls kj37 _ _ t342 _ _ t313 false _ ?side1 ?side2 ?side3 ?side4 A70.out).mono ?_);(case side1=>repeat (first | exact (Kd.R_reads' HO344.out).2.2 | (with_reducible refine zz18 ?_ _) | (with_reducible refine zz19 ?_ _) | (with_reducible refine zz20 ?_)));(case side2=>exact (Kd.R_reads' HO344.out).2.1);(case side3=>repeat (first | exact (Kd.R_reads' HO_6.out).2.2 | (with_reducible refine zz18 ?_ _) | (with_reducible refine zz19 ?_ _) | (with_reducible refine zz20 ?_)));(case side4=>exact (Kd.R_reads' HO_6.out).2.1);rintro e w' ⟨rfl,⟨nd,rfl⟩⟩;refine ⟨_,rfl,?_⟩))
             go_meet
             case rel=>exact ⟨_,(true),(by first | rfl | (simp;done) | (simp [*];done)),H',⟨by have:=HJ11.out;have:=HJ37.out;first | omega | exact Nat.le_refl _⟩,⟨by (try simp only [hl322001_37]);(with_reducible repeat (first | apply zz12 | apply zz13 | apply zz14));exact Kd.R_mono HO_9.out (fun _ hk=>trivial)⟩,⟨by (try simp only [hl322001_37]);(with_reducible repeat (first | apply zz12 | apply zz13 | apply zz14));exact Kd.R_mono HO_322001.out (fun _ hk=>trivial)⟩,⟨by (try simp only [hl322001_37]);(with_reducible repeat (first | refine zz6 ?_ _ | refine zz7 ?_ | refine zz8 ?_ _));exact BK307.out⟩,⟨by (try simp only [hl322001_37]);(with_reducible repeat (first | refine zz6 ?_ _ | refine zz7 ?_ | refine zz8 ?_ _));exact BK321.out⟩,⟨by repeat first | exact HB.out | apply zz2 | apply zz0 | apply zz1 | refine zz3 ?_ GE307.out | refine zz3 ?_ GE321.out⟩⟩
           case rest =>
            clear HC62
            try clear c1
            try clear c2
            try clear p2
            try clear c3
            try clear c4
            try clear c4b0
            try clear c5
            try clear c6
            try clear c7
            try clear c8
            try clear c10
            try clear c11
            try clear c12
            try clear c13
            try clear c14
            try clear c15
            try clear c16
            try clear c23
            try clear c28
            try clear c33
            try clear c36
            try clear c43
            try clear c46
            try clear c46b0
            try clear c48
            try clear c53
            try clear c56
            try clear c56b0
            try clear c59
            try clear c59b0
            try clear c59b1
            try clear c65
            try clear c71
            try clear hcz14_0
            try clear hcz14_1
            try clear hcz16_0
            try clear hcz16_1
            try clear hcz20_0
            try clear hcz20_1
            try clear hcz24_0
            try clear hcz24_1
            try clear hcz44_0
            try clear hcz44_1
            try clear hcz66_0
            try clear hcz66_1
            try clear hcz6_0
            try clear hcz6_1
            try clear hfz14_0
            try clear hfz14_1
            try clear hfz16_0
            try clear hfz16_1
            try clear hfz20_0
            try clear hfz20_1
            try clear hfz24_0
            try clear hfz24_1
            try clear hfz44_0
            try clear hfz44_1
            try clear hfz66_0
            try clear hfz66_1
            try clear hfz6_0
            try clear hfz6_1
            try clear p2
            obtain ⟨kq,x92_61,rfl,HA,HJ61,HO_9,HO_322001,BK307,BK321,HB⟩:=hcut
            have hl9_61:=(Kd.R_reads' HO_9.out).1
            rw [hl9_61] at HO_9
            (try simp only [hl9_61])
            (try simp only [hl9_61] at BK307)
            (try simp only [hl9_61] at BK321)
            (try simp only [hl9_61] at HO_322001)
            cases kq with
            | zero=>exact absurd HA.out (by simp [laws_FnExactFriendsOf.j2])
            | succ kj61 =>
             have H:=HA.out
             clear HA
             simp only [laws_FnExactFriendsOf.j2] at H
             by_cases c76:x92_61=true
             ·subst c76
              have H1:(some false)=some r:=by rw [if_pos rfl] at H;exact H
              clear H
              have H:=H1
              clear H1
              obtain rfl:=Option.some.inj H
              go_wp2
              go_ret
              exact ⟨by first | rfl | (simp [errW_none,errW_some] <;> rfl) | (simp [*,errW_none,errW_some] <;> rfl),by repeat first | exact HB.out | apply zz2 | apply zz0 | apply zz1 | refine zz3 ?_ GE307.out | refine zz3 ?_ GE321.out⟩
             ·replace c76:=Bool.eq_false_iff.mpr c76
              subst c76
              have H1:((laws_heldIntS.f kj61 t336 1).bind fun t347=>(if t347 < 0 then (some false) else (if t347=t335 then (some true) else (some false))))=some r:=by rw [if_neg (show ¬ (false=true) by decide)] at H;exact H
              clear H
              have H:=H1
              clear H1
              replace H:=zz30.mp H
              obtain ⟨t347,A770,H⟩:=H
              replace H:(if t347 < 0 then (some false) else (if t347=t335 then (some true) else (some false)))=some r:=H
              have A77:=zz31 A770
              clear A770
              by_cases c78:t347 < 0
              ·rw [if_pos c78] at H
               have c78b0:decide (t347 < 0)=true:=decide_eq_true c78
               clear c78
               obtain rfl:=Option.some.inj H
               go_wp2_with (first | ((with_reducible refine gate_callee (f:=16) rfl ?_);refine goesL_ (some 95) rfl rfl Tryd.func16 (by kernel_rfl) rfl #[.slice Ao63 t336.length co63,.int .i64 1] rfl (by (try simp only [zz26,zz27,zz28]);first | done | rfl | (simp only [zz24,zz25];rfl)) ?_;(with_reducible refine (laws_heldIntS.calls kj61 _ _ t336 1 t347 _ ?side1 ?side2 A77.out).mono ?_);(case side1=>repeat (first | exact (Kd.R_reads' HO_9.out).2.2 | (with_reducible refine zz18 ?_ _) | (with_reducible refine zz19 ?_ _) | (with_reducible refine zz20 ?_)));(case side2=>exact (Kd.R_reads' HO_9.out).2.1);rintro e w' ⟨rfl,⟨nd,rfl⟩⟩;refine ⟨_,rfl,?_⟩))
               go_ret
               exact ⟨by first | rfl | (simp [errW_none,errW_some] <;> rfl) | (simp [*,errW_none,errW_some] <;> rfl),by repeat first | exact HB.out | apply zz2 | apply zz0 | apply zz1 | refine zz3 ?_ GE307.out | refine zz3 ?_ GE321.out⟩
              ·rw [if_neg c78] at H
               have c78b0:decide (t347 < 0)=false:=decide_eq_false c78
               clear c78
               by_cases c79:t347=t335
               ·rw [if_pos c79] at H
                have c79b0:(t347 == t335)=true:=beq_iff_eq.mpr c79
                have c79b1:(t347 != t335)=false:=bne_eq_false_iff_eq.mpr c79
                clear c79
                obtain rfl:=Option.some.inj H
                go_wp2_with (first | ((with_reducible refine gate_callee (f:=16) rfl ?_);refine goesL_ (some 95) rfl rfl Tryd.func16 (by kernel_rfl) rfl #[.slice Ao63 t336.length co63,.int .i64 1] rfl (by (try simp only [zz26,zz27,zz28]);first | done | rfl | (simp only [zz24,zz25];rfl)) ?_;(with_reducible refine (laws_heldIntS.calls kj61 _ _ t336 1 t347 _ ?side1 ?side2 A77.out).mono ?_);(case side1=>repeat (first | exact (Kd.R_reads' HO_9.out).2.2 | (with_reducible refine zz18 ?_ _) | (with_reducible refine zz19 ?_ _) | (with_reducible refine zz20 ?_)));(case side2=>exact (Kd.R_reads' HO_9.out).2.1);rintro e w' ⟨rfl,⟨nd,rfl⟩⟩;refine ⟨_,rfl,?_⟩))
                go_ret
                exact ⟨by first | rfl | (simp [errW_none,errW_some] <;> rfl) | (simp [*,errW_none,errW_some] <;> rfl),by repeat first | exact HB.out | apply zz2 | apply zz0 | apply zz1 | refine zz3 ?_ GE307.out | refine zz3 ?_ GE321.out⟩
               ·rw [if_neg c79] at H
                have c79b0:(t347 == t335)=false:=beq_eq_false_iff_ne.mpr c79
                have c79b1:(t347 != t335)=true:=bne_iff_ne.mpr c79
                obtain rfl:=Option.some.inj H
                go_wp2_with (first | ((with_reducible refine gate_callee (f:=16) rfl ?_);refine goesL_ (some 95) rfl rfl Tryd.func16 (by kernel_rfl) rfl #[.slice Ao63 t336.length co63,.int .i64 1] rfl (by (try simp only [zz26,zz27,zz28]);first | done | rfl | (simp only [zz24,zz25];rfl)) ?_;(with_reducible refine (laws_heldIntS.calls kj61 _ _ t336 1 t347 _ ?side1 ?side2 A77.out).mono ?_);(case side1=>repeat (first | exact (Kd.R_reads' HO_9.out).2.2 | (with_reducible refine zz18 ?_ _) | (with_reducible refine zz19 ?_ _) | (with_reducible refine zz20 ?_)));(case side2=>exact (Kd.R_reads' HO_9.out).2.1);rintro e w' ⟨rfl,⟨nd,rfl⟩⟩;refine ⟨_,rfl,?_⟩))
                go_ret
                exact ⟨by first | rfl | (simp [errW_none,errW_some] <;> rfl) | (simp [*,errW_none,errW_some] <;> rfl),by repeat first | exact HB.out | apply zz2 | apply zz0 | apply zz1 | refine zz3 ?_ GE307.out | refine zz3 ?_ GE321.out⟩
          ·rw [if_neg c59] at H
           have c59b0:(t337 == t335)=false:=beq_eq_false_iff_ne.mpr c59
           have c59b1:(t337 != t335)=true:=bne_iff_ne.mpr c59
           obtain rfl:=Option.some.inj H
           obtain ⟨Ao80,co80,eo80⟩:=Kd.R_slice HO_9.out
           subst eo80
           go_wp2_with (first | ((with_reducible refine gate_callee (f:=15) rfl ?_);refine goesL_ (some 68) rfl rfl Tryd.func15 (by kernel_rfl) rfl #[.slice Ao80 t322.length co80,.int .i64 1] rfl (by (try simp only [zz26,zz27,zz28]);first | done | rfl | (simp only [zz24,zz25];rfl)) ?_;(with_reducible refine (laws_markIntS.calls kj37 (fun k_=>some k_=(.slice Ao80 t322.length co80:Value).ownBlock) (.slice Ao80 t322.length co80) t322 1 t335 t336 w _ ?side1 ?side2 A54.out).mono ?_);(case side1=>repeat first | exact HB.out | apply zz2 | apply zz0 | apply zz1 | refine zz3 ?_ GE307.out | refine zz3 ?_ GE321.out);(case side2=>exact Kd.R_tight rfl HO_9.out);rintro e w81 ⟨rfl,hy0,hb,hkp⟩;refine ⟨_,rfl,?_⟩;have n0_:=zz31 (Kd.R_mono (ok':=fun k_=>some k_ ≠ (.slice Ao80 t322.length co80:Value).ownBlock) (Kd.R_keptB (HO_6.out) hkp (fun k_ hk_ hs_=>(hk_) hs_)) (fun k_ hk_=>hk_.1));have n1_:=zz31 (Kd.R_reok rfl hy0 (fun k_ e_=>HO_9.out.1 k_ e_));have n2_:=zz31 (Kd.R_mono (ok':=fun k_=>True) (Kd.R_keptB ((Kd.R_apart' HO_322001.out (Kd.R_typed HO_9.out) (by decide))) hkp (fun k_ hk_ hs_=>(hk_.2) hs_)) (fun k_ hk_=>trivial));have n3_:=zz31 (blk_kept (by first | (with_reducible exact BK307.out) | ((with_reducible repeat (first | refine zz6 ?_ _ | refine zz7 ?_ | refine zz8 ?_ _));exact BK307.out)) hkp (fun hs_=>(fun e_=>(Kd.R_ne HO_9.out BK307.out (by decide)) e_) hs_));have n4_:=zz31 (blk_kept (by first | (with_reducible exact BK321.out) | ((with_reducible repeat (first | refine zz6 ?_ _ | refine zz7 ?_ | refine zz8 ?_ _));exact BK321.out)) hkp (fun hs_=>(fun e_=>(Kd.R_ne HO_9.out BK321.out (by decide)) e_) hs_));have n5_:=zz31 (hb);clear HO_6;clear HO_9;clear HO_322001;clear BK307;clear BK321;clear HB;have HO_6:=n0_;have HO_9:=n1_;have HO_322001:=n2_;have BK307:=n3_;have BK321:=n4_;have HB:=n5_;clear n0_ n1_ n2_ n3_ n4_ n5_;(try clear hb);(try clear hkp);(try clear hy0)) | ((with_reducible refine gate_callee (f:=16) rfl ?_);refine goesL_ (some 71) rfl rfl Tryd.func16 (by kernel_rfl) rfl #[.slice Ao80 t336.length co80,.int .i64 1] rfl (by (try simp only [zz26,zz27,zz28]);first | done | (rw [show t336.length=t322.length from (Kd.R_reads' HO_9.out).1.symm] <;> rfl) | rfl | (simp only [zz24,zz25];rfl)) ?_;(with_reducible refine (laws_heldIntS.calls kj37 _ _ t336 1 t337 _ ?side1 ?side2 A55.out).mono ?_);(case side1=>repeat (first | exact (Kd.R_reads' HO_9.out).2.2 | (with_reducible refine zz18 ?_ _) | (with_reducible refine zz19 ?_ _) | (with_reducible refine zz20 ?_)));(case side2=>rw [show t336.length=t322.length from (Kd.R_reads' HO_9.out).1.symm];exact (Kd.R_reads' HO_9.out).2.1);rintro e w' ⟨rfl,⟨nd,rfl⟩⟩;refine ⟨_,rfl,?_⟩))
           go_ret
           exact ⟨by first | rfl | (simp [errW_none,errW_some] <;> rfl) | (simp [*,errW_none,errW_some] <;> rfl),by repeat first | exact HB.out | apply zz2 | apply zz0 | apply zz1 | refine zz3 ?_ GE307.out | refine zz3 ?_ GE321.out⟩
     ·replace c36:=Bool.eq_false_iff.mpr c36
      subst c36
      have H1:(some false)=some r:=by rw [if_neg (show ¬ (false=true) by decide)] at H;exact H
      clear H
      have H:=H1
      clear H1
      obtain rfl:=Option.some.inj H
      try go_wp2
      have n0_:=zz31 (zz14 HO_6.out)
      have n1_:=zz31 (zz14 HO_9.out)
      have n2_:=zz31 (zz14 HO_322001.out)
      have n3_:=zz31 (zz7 BK307.out)
      have n4_:=zz31 (zz7 BK321.out)
      have n5_:=zz31 (zz1 HB.out)
      clear HO_6
      clear HO_9
      clear HO_322001
      clear BK307
      clear BK321
      clear HB
      have HO_6:=n0_
      have HO_9:=n1_
      have HO_322001:=n2_
      have BK307:=n3_
      have BK321:=n4_
      have HB:=n5_
      clear n0_ n1_ n2_ n3_ n4_ n5_
      refine start_ (n:=5) (S:=fun w'=>w'.cell? ⟨gb321,0,none⟩=some (.int .i64 t317)∧w'.cell? ⟨gb321,1,none⟩=some (.slice Ao25 t318.length co25)∧w'.cell? ⟨gb307,0,none⟩=some (.int .i64 a0_0)∧w'.cell? ⟨gb307,1,none⟩=some (.slice A0_1 l0_1.length c0_1)) (ds:=[]) #[F,F,F,F,F] (by kernel_rfl) rfl rfl ⟨(zz9 BK321.out 0).trans rfl,(zz9 BK321.out 1).trans rfl,(zz9 BK307.out 0).trans rfl,(zz9 BK307.out 1).trans rfl⟩ (fun hHeld=>?_)
      generalize wc.drew=w82 at HO_6 HO_9 HO_322001 BK307 BK321 HB hHeld ⊢
      refine take_ (i:=0) (N:=some 45) (v:=?_) (a':=?_) #[T,F,F,F,F] rfl rfl (by kernel_rfl) (fun _ _ _ h=>h) (Or.inl ⟨by rfl,?_⟩) hHeld ?_ ?_
      rotate_left
      ·rintro w' ⟨s0,s1,s2,s3⟩
       go_simp
       with_reducible rfl
      rotate_left
      ·simp only [Act.put,zz21,zz22,zz23,i64_w,i32_w]
       rfl
      refine take_ (i:=1) (N:=some 46) (v:=?_) (a':=?_) #[T,T,F,F,F] rfl rfl (by kernel_rfl) (fun _ _ _ h=>h) (Or.inl ⟨by rfl,?_⟩) hHeld ?_ ?_
      rotate_left
      ·rintro w' ⟨s0,s1,s2,s3⟩
       go_simp
       with_reducible rfl
      rotate_left
      ·simp only [Act.put,zz21,zz22,zz23,i64_w,i32_w]
       rfl
      refine one_ (i:=2) (N:=some 47) #[T,T,T,F,F] rfl rfl (by kernel_rfl) (by decide) (fun K hK=>?_)
      refine goes_ Tryd.func8 (by kernel_rfl) rfl #[.agg #[.int .i64 a0_0,.slice A0_1 l0_1.length c0_1]] (by rfl) rfl rfl (by (try simp only [zz26,zz27,zz28]);first | done | rfl | (simp only [zz24,zz25];rfl)) ?_
      with_reducible refine (laws_toParty.calls kj11 a0_0 _ _ l0_1 t327 t328 _ ?side1 ?side2 A34.out).mono ?_
      (case side1=>repeat (first | exact (Kd.C_below HR0_1.out HB.out) | (with_reducible refine zz18 ?_ _) | (with_reducible refine zz19 ?_ _) | (with_reducible refine zz20 ?_)))
      (case side2=>exact HC0_1.out)
      rintro e w83 ⟨v329,rfl,ho0,hb⟩
      refine ⟨_,rfl,?_⟩
      have n0_:=zz31 (Kd.R_below (by (with_reducible repeat (first | apply zz12 | apply zz13 | apply zz14));exact HO_6.out) hb)
      have n1_:=zz31 (Kd.R_below (by (with_reducible repeat (first | apply zz12 | apply zz13 | apply zz14));exact HO_9.out) hb)
      have n2_:=zz31 (Kd.R_elder' (by (with_reducible repeat (first | apply zz12 | apply zz13 | apply zz14));exact HO_322001.out) (Kd.R_base ho0) hb)
      have n3_:=zz31 (Kd.R_lower (Kd.R_new' ho0 (Kd.R_lt (by (with_reducible repeat (first | apply zz12 | apply zz13 | apply zz14));exact HO_322001.out))) (zz5 (by repeat first | exact HB.out | apply zz2 | apply zz0 | apply zz1 | refine zz3 ?_ GE307.out | refine zz3 ?_ GE321.out)))
      have n4_:=zz31 (zz11 (g:=gb307) (o:=.cells #[.int .i64 a0_0,.slice A0_1 l0_1.length c0_1] 24 (0,0)) (by (with_reducible repeat (first | refine zz6 ?_ _ | refine zz7 ?_ | refine zz8 ?_ _));exact BK307.out) hb)
      have n5_:=zz31 (zz11 (g:=gb321) (o:=.cells #[.int .i64 t317,.slice Ao25 t318.length co25] 30 (0,0)) (by (with_reducible repeat (first | refine zz6 ?_ _ | refine zz7 ?_ | refine zz8 ?_ _));exact BK321.out) hb)
      have n6_:=zz31 (zz4 (by repeat first | exact HB.out | apply zz2 | apply zz0 | apply zz1 | refine zz3 ?_ GE307.out | refine zz3 ?_ GE321.out) hb)
      clear HO_6
      clear HO_9
      clear HO_322001
      clear BK307
      clear BK321
      clear HB
      have HO_6:=n0_
      have HO_9:=n1_
      have HO_322001:=n2_
      have HO330:=n3_
      have BK307:=n4_
      have BK321:=n5_
      have HB:=n6_
      clear n0_ n1_ n2_ n3_ n4_ n5_ n6_
      (try clear hb)
      (try clear hb2)
      (try clear hk)
      (try clear hi)
      (try clear ho0)
      obtain ⟨Ao84,co84,eo84⟩:=Kd.R_slice HO330.out
      (first | subst eo84 | (injection eo84 with f1_ f2_ f3_;have f4_:=f1_.symm;have f5_:=f3_.symm;clear f1_ f2_ f3_;subst f4_;subst f5_))
      refine hK.out _ _ ⟨(zz9 BK321.out 0).trans rfl,(zz9 BK321.out 1).trans rfl,(zz9 BK307.out 0).trans rfl,(zz9 BK307.out 1).trans rfl⟩ (fun hHeld=>?_)
      clear hK K
      refine norm_ (a':=?_) ?_ ?_
      rotate_left
      ·show Act.put _ (some 47) _=_
       simp only [Act.put,zz21,zz22,zz23,i64_w,i32_w]
       rfl
      refine one_ (i:=3) (N:=some 48) #[T,T,T,T,F] rfl rfl (by kernel_rfl) (by decide) (fun K hK=>?_)
      refine goes_ Tryd.func10 (by kernel_rfl) rfl #[.agg #[.int .i64 t317,.slice Ao25 t318.length co25],.agg #[.int .i64 t327,.slice Ao84 t328.length co84]] (by rfl) rfl rfl (by (try simp only [zz26,zz27,zz28]);first | done | rfl | (simp only [zz24,zz25];rfl)) ?_
      with_reducible refine (laws_eqParty.calls kj11 t317 _ _ t318 t327 _ _ t328 false _ ?side1 ?side2 ?side3 ?side4 A35.out).mono ?_
      (case side1=>repeat (first | exact (Kd.R_reads' HO_322001.out).2.2 | (with_reducible refine zz18 ?_ _) | (with_reducible refine zz19 ?_ _) | (with_reducible refine zz20 ?_)))
      (case side2=>exact (Kd.R_reads' HO_322001.out).2.1)
      (case side3=>repeat (first | exact (Kd.R_reads' HO330.out).2.2 | (with_reducible refine zz18 ?_ _) | (with_reducible refine zz19 ?_ _) | (with_reducible refine zz20 ?_)))
      (case side4=>exact (Kd.R_reads' HO330.out).2.1)
      rintro e w85 ⟨rfl,hb⟩
      refine ⟨_,rfl,?_⟩
      have n0_:=zz31 (Kd.R_below (by (with_reducible repeat (first | apply zz12 | apply zz13 | apply zz14));exact HO_6.out) hb)
      have n1_:=zz31 (Kd.R_below (by (with_reducible repeat (first | apply zz12 | apply zz13 | apply zz14));exact HO_9.out) hb)
      have n2_:=zz31 (Kd.R_below (by (with_reducible repeat (first | apply zz12 | apply zz13 | apply zz14));exact HO_322001.out) hb)
      have n3_:=zz31 (Kd.R_below (by (with_reducible repeat (first | apply zz12 | apply zz13 | apply zz14));exact HO330.out) hb)
      have n4_:=zz31 (zz11 (g:=gb307) (o:=.cells #[.int .i64 a0_0,.slice A0_1 l0_1.length c0_1] 24 (0,0)) (by (with_reducible repeat (first | refine zz6 ?_ _ | refine zz7 ?_ | refine zz8 ?_ _));exact BK307.out) hb)
      have n5_:=zz31 (zz11 (g:=gb321) (o:=.cells #[.int .i64 t317,.slice Ao25 t318.length co25] 30 (0,0)) (by (with_reducible repeat (first | refine zz6 ?_ _ | refine zz7 ?_ | refine zz8 ?_ _));exact BK321.out) hb)
      have n6_:=zz31 (zz4 (by repeat first | exact HB.out | apply zz2 | apply zz0 | apply zz1 | refine zz3 ?_ GE307.out | refine zz3 ?_ GE321.out) hb)
      clear HO_6
      clear HO_9
      clear HO_322001
      clear HO330
      clear BK307
      clear BK321
      clear HB
      have HO_6:=n0_
      have HO_9:=n1_
      have HO_322001:=n2_
      have HO330:=n3_
      have BK307:=n4_
      have BK321:=n5_
      have HB:=n6_
      clear n0_ n1_ n2_ n3_ n4_ n5_ n6_
      (try clear hb)
      (try clear hb2)
      (try clear hk)
      (try clear hi)
      refine hK.out _ _ ⟨(zz9 BK321.out 0).trans rfl,(zz9 BK321.out 1).trans rfl,(zz9 BK307.out 0).trans rfl,(zz9 BK307.out 1).trans rfl⟩ (fun hHeld=>?_)
      clear hK K
      refine norm_ (a':=?_) ?_ ?_
      rotate_left
      ·show Act.put _ (some 48) _=_
       simp only [Act.put,zz21,zz22,zz23,i64_w,i32_w]
       rfl
      refine pure_ (i:=4) (N:=some 49) (v:=?_) (a':=?_) #[T,T,T,T,T] rfl rfl (by kernel_rfl) (fun _ _ _ h=>h) (Or.inl ⟨by rfl,?_⟩) ?_ ?_
      rotate_left
      ·intro w'
       go_simp
       with_reducible rfl
      rotate_left
      ·simp only [Act.put,zz21,zz22,zz23,i64_w,i32_w]
       rfl
      refine done_ (by kernel_rfl) ?_
      try go_wp2
      go_ret
      exact ⟨by first | rfl | (simp [errW_none,errW_some] <;> rfl) | (simp [*,errW_none,errW_some] <;> rfl),by repeat first | exact HB.out | apply zz2 | apply zz0 | apply zz1 | refine zz3 ?_ GE307.out | refine zz3 ?_ GE321.out⟩

end Go.Proofs.YtialimbdkokdcaaDoor.P
