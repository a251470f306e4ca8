-- PRINTED by print.py (a twelfth state) out of the translation. Not trusted: Lean checks it.
import Derived.Test.YtialimbdkokdcaaPx0
import Derived.Test.YtialimbdkokdcaaPx1
import Derived.Test.YtialimbdkokdcaaPx2
import Derived.Test.YtialimbdkokdcaaPx3
import Derived.Test.YtialimbdkokdcaaPx4
import Derived.Test.YtialimbdkokdcaaPx5
import Derived.Test.YtialimbdkokdcaaPx6
import Derived.Test.YtialimbdkokdcaaPx8
import Derived.Test.YtialimbdkokdcaaPx9
import Derived.Test.YtialimbdkokdcaaPx10
namespace Go.Proofs.Ytialimbdkokdcaa.P
open Go.RowKit Go.Proofs.YtialimbdkokdcaaW.PrintWords Go.Proofs.YtialimbdkokdcaaW.PrintLast Go.Proofs.YtialimbdkokdcaaW.PrintMore
attribute [local go_sem] max2_int min2_int max_two min_two max_three min_three max_four min_four   -- for this text's walks alone
set_option linter.unusedVariables false
set_option linter.unusedSimpArgs false

/-! ### spec_l1Own: function 85 -/
def spec_l1Own.f (l0:List Int):Option (List Int):=(some (([]:List Int):List Int)).bind fun y245=>(if y245.length+l0.length < 17592186044416 then (some (y245 ++ l0)) else (none))
set_option maxHeartbeats 8000000 in
set_option maxRecDepth 100000 in
theorem spec_l1Own.calls (A0:Option Addr) (c0:Nat) (l0:List Int) (r:List Int) (w:World) (hr0:Kd.C (Kd.int .i64) w A0 l0.length l0) (hc0:l0.length≤c0) (h:spec_l1Own.f l0=some r) :
  Calls Try.prog 85 #[.slice A0 l0.length c0] w fun e w'=>∃ v0_:Value,e=.returned (v0_)∧Kd.R (Kd.int .i64) 3 w' w.heap.size (fun _=>True) v0_ r∧Below w.heap.size w w':=by
 have HR0:=zz31 hr0
 have HC0:=zz31 hc0
 clear hr0 hc0
 have HB:=zz31 (Below.refl w.heap.size w)
 have H:((some (([]:List Int):List Int)).bind fun y245=>(if y245.length+l0.length < 17592186044416 then (some (y245 ++ l0)) else (none)))=some r:=h
 clear h
 obtain ⟨y245,hy245⟩:∃ y_:List Int,y_=(([]:List Int)):=⟨_,rfl⟩
 replace H:(if y245.length+l0.length < 17592186044416 then (some (y245 ++ l0)) else (none))=some r:=by first | (rw [hy245];with_reducible exact H) | (have H2_:=(Option.bind_some _ _).symm.trans H;rw [hy245];with_reducible exact H2_) | (have H2_:=(Option.bind_some _ _).symm.trans H;with_reducible exact H2_) | with_reducible exact H | (rw [hy245];exact H) | exact H
 have Ny245:=zz31 hy245
 clear hy245
 by_cases c2:y245.length+l0.length < 17592186044416
 ·rw [if_pos c2] at H
  have LMc2:=zz31 c2
  clear c2
  obtain ⟨y248,hy248⟩:∃ y_:List Int,y_=(y245 ++ l0):=⟨_,rfl⟩
  replace H:(some y248)=some r:=by first | (rw [hy248];with_reducible exact H) | (have H2_:=(Option.bind_some _ _).symm.trans H;rw [hy248];with_reducible exact H2_) | (have H2_:=(Option.bind_some _ _).symm.trans H;with_reducible exact H2_) | with_reducible exact H | (rw [hy248];exact H) | exact H
  have Ny248:=zz31 hy248
  clear hy248
  obtain rfl:=Option.some.inj H
  go_enter Try.func85,Try.ntmps85
  go_wp2_with (first | ((with_reducible refine gate_dst (N:=3) rfl ?_);refine Kd.R_lit (Kd.int .i64) _ 3 ?hg (N:=3) ?hd (xs:=([]:List Int)) (inner:=[]) (ok:=fun _=>True) (okp:=fun _=>True) ?hr ?hp (fun _ hk=>hk) trivial (Below.refl _ _) (Nat.le_refl _) (by simp) ?_;(case hd=>rfl);(case hg=>rfl);(case hr=>first | (go_simp;done) | (go_simp;rfl));(case hp=>exact (Reps.none _ _));intro v246 w3 ho4 hb hg_ hnew_;clear hg_ hnew_;(first | rw [← Ny245.out] at ho4 | (simp only [Int.reduceToNat] at ho4;rw [← Ny245.out] at ho4));have n0_:=zz31 (Kd.R_lower ho4 (zz5 (by repeat first | exact HB.out | apply zz2 | apply zz0 | apply zz1)));have n1_:=zz31 (zz4 (by repeat first | exact HB.out | apply zz2 | apply zz0 | apply zz1) hb);clear HB;have HO247:=n0_;have HB:=n1_;clear n0_ n1_;clear hb ho4) | ((with_reducible refine gate_builtin (b:=.append) (xs:=#[.tmp 3,.tmp 4]) rfl ?_);at_builtin;refine Kd.R_append_rows (Kd.int .i64) (w0:=w) w.heap.size rfl (.tmp 3) (.tmp 4) 40 3 (.int .i64 0) 8 rfl Try.underlying40 info3 rfl (by decide) (by omega) v246 y245 l0 _ _ _ (fun _=>True) (fun _=>False) rfl rfl ?aO ?aR (fun _ _ h=>h) (fun _ h=>h.elim) ?aF ?aB ?aS ?aL ?_;(case aR=>repeat (first | exact (Kd.C_below HR0.out HB.out) | (with_reducible refine zz18 ?_ _) | (with_reducible refine zz19 ?_ _) | (with_reducible refine zz20 ?_)));(case aB=>exact (by repeat first | exact HB.out | apply zz2 | apply zz0 | apply zz1));(case aF=>exact (fun _ _=>trivial));(case aO=>exact (by (with_reducible repeat (first | apply zz12 | apply zz13 | apply zz14));exact HO247.out));(case aS=>exact (zz5 (by repeat first | exact HB.out | apply zz2 | apply zz0 | apply zz1)));(case aL=>have:=LMc2.out;omega);intro v249 w5 ho hb hg hat;rw [← Ny248.out] at ho;have n0_:=zz31 (hb);have n1_:=zz31 (ho);clear HB;clear HO247;have HB:=n0_;have HO250:=n1_;clear n0_ n1_;clear ho hb hg hat))
  go_ret
  exact ⟨_,by first | rfl | (simp [errW_none,errW_some] <;> rfl) | (simp [*,errW_none,errW_some] <;> rfl),by (with_reducible repeat (first | apply zz12 | apply zz13 | apply zz14));exact HO250.out,by repeat first | exact HB.out | apply zz2 | apply zz0 | apply zz1⟩
 ·rw [if_neg c2] at H
  exact absurd H (by simp)

/-! ### spec_trGroups: function 52 -/
mutual
def spec_trGroups.j0:Nat→List (List Bool)→List Int→Int→Int→Option ((List (List Int)))
 | 0,_,_,_,_=>none
 | k+1,x0,x1,x2,x7=>spec_trGroups.l0 k x0 x1 x2 ([]:List (List Int)) x7
def spec_trGroups.l0:Nat→List (List Bool)→List Int→Int→List (List Int)→Int→Option ((List (List Int)))
 | 0,_,_,_,_,_=>none
 | k+1,x0,x1,x2,x8,x9=>if x9 < (x0.length:Int) then ((spec_trKnows.f k x0 x1 x9).bind fun t258=>(if t258=true then ((spec_l1Own.f x1).bind fun t259=>(if t259.length < 17592186044416 then ((spec_trGroups.f k x0 (t259 ++ [x9]) x2).bind fun t265=>(if x8.length+t265.length < 5864062014805 then (spec_trGroups.l0 k x0 x1 x2 (x8 ++ t265) (wrap64 (x9+1))) else (none))) else (none))) else (spec_trGroups.l0 k x0 x1 x2 x8 (wrap64 (x9+1))))) else (some x8)
def spec_trGroups.f:Nat→List (List Bool)→List Int→Int→Option ((List (List Int)))
 | 0,_,_,_=>none
 | k+1,l0,l1,a2=>if (l1.length:Int)=a2 then ((spec_l1Own.f l1).bind fun t251=>(some (([t251]:List (List Int))))) else (if (l1.length:Int) > 0 then (if 0≤(wrap64 ((l1.length:Int) - 1)) then (if (wrap64 ((l1.length:Int) - 1)) < (l1.length:Int) then (spec_trGroups.j0 k l0 l1 a2 (wrap64 ((rd l1 (wrap64 ((l1.length:Int) - 1)))+1))) else (none)) else (none)) else (spec_trGroups.j0 k l0 l1 a2 0))
end
theorem spec_trGroups.mono_l:∀ k,(∀ y0 y1 y2,LeO (spec_trGroups.f k y0 y1 y2) (spec_trGroups.f (k+1) y0 y1 y2))∧(∀ y0 y1 y2 y3,LeO (spec_trGroups.j0 k y0 y1 y2 y3) (spec_trGroups.j0 (k+1) y0 y1 y2 y3))∧(∀ y0 y1 y2 y3 y4,LeO (spec_trGroups.l0 k y0 y1 y2 y3 y4) (spec_trGroups.l0 (k+1) y0 y1 y2 y3 y4))
 | 0=>⟨fun _ _ _ r h=>by simp [spec_trGroups.f] at h,fun _ _ _ _ r h=>by simp [spec_trGroups.j0] at h,fun _ _ _ _ _ r h=>by simp [spec_trGroups.l0] at h⟩
 | k+1=>by
  obtain ⟨ih0,ih1,ih2⟩:=spec_trGroups.mono_l k
  refine ⟨?_,?_,?_⟩
  ·intro y0 y1 y2
   unfold spec_trGroups.f
   repeat' first
   | (with_reducible exact ih0 _ _ _)
   | (with_reducible exact ih1 _ _ _ _)
   | (with_reducible exact ih2 _ _ _ _ _)
   | (with_reducible exact spec_trKnows.mono _ _ _ _)
   | (with_reducible exact LeO.refl _)
   | (with_reducible exact LeO.none _)
   | (with_reducible refine LeO.ite ?_ ?_)
   | (with_reducible refine LeO.bind ?_ (fun _=>?_))
   | exact ih0 _ _ _
   | exact ih1 _ _ _ _
   | exact ih2 _ _ _ _ _
   | exact spec_trKnows.mono _ _ _ _
   | exact LeO.none _
   | refine LeO.ite ?_ ?_
   | refine LeO.bind ?_ (fun _=>?_)
  ·intro y0 y1 y2 y3
   unfold spec_trGroups.j0
   repeat' first
   | (with_reducible exact ih0 _ _ _)
   | (with_reducible exact ih1 _ _ _ _)
   | (with_reducible exact ih2 _ _ _ _ _)
   | (with_reducible exact spec_trKnows.mono _ _ _ _)
   | (with_reducible exact LeO.refl _)
   | (with_reducible exact LeO.none _)
   | (with_reducible refine LeO.ite ?_ ?_)
   | (with_reducible refine LeO.bind ?_ (fun _=>?_))
   | exact ih0 _ _ _
   | exact ih1 _ _ _ _
   | exact ih2 _ _ _ _ _
   | exact spec_trKnows.mono _ _ _ _
   | exact LeO.none _
   | refine LeO.ite ?_ ?_
   | refine LeO.bind ?_ (fun _=>?_)
  ·intro y0 y1 y2 y3 y4
   unfold spec_trGroups.l0
   repeat' first
   | (with_reducible exact ih0 _ _ _)
   | (with_reducible exact ih1 _ _ _ _)
   | (with_reducible exact ih2 _ _ _ _ _)
   | (with_reducible exact spec_trKnows.mono _ _ _ _)
   | (with_reducible exact LeO.refl _)
   | (with_reducible exact LeO.none _)
   | (with_reducible refine LeO.ite ?_ ?_)
   | (with_reducible refine LeO.bind ?_ (fun _=>?_))
   | exact ih0 _ _ _
   | exact ih1 _ _ _ _
   | exact ih2 _ _ _ _ _
   | exact spec_trKnows.mono _ _ _ _
   | exact LeO.none _
   | refine LeO.ite ?_ ?_
   | refine LeO.bind ?_ (fun _=>?_)
theorem spec_trGroups.mono:∀ a0 a1 a2 k,LeO (spec_trGroups.f k a0 a1 a2) (spec_trGroups.f (k+1) a0 a1 a2):=by
 intro a0 a1 a2 k
 obtain ⟨ih0,ih1,ih2⟩:=spec_trGroups.mono_l k
 exact ih0 a0 a1 a2
set_option maxHeartbeats 8000000 in
set_option maxRecDepth 100000 in
theorem spec_trGroups.calls (k:Nat):∀ (A0:Option Addr) (c0:Nat) (l0:List (List Bool)) (A1:Option Addr) (c1:Nat) (l1:List Int) (a2:Int) (r:List (List Int)) (w:World) (hr0:Kd.C (Kd.slice 4 Kd.bool) w A0 l0.length l0) (hc0:l0.length≤c0) (hr1:Kd.C (Kd.int .i64) w A1 l1.length l1) (hc1:l1.length≤c1) (h:spec_trGroups.f k l0 l1 a2=some r),
  Calls Try.prog 52 #[.slice A0 l0.length c0,.slice A1 l1.length c1,.int .i64 a2] w fun e w'=>∃ v0_:Value,e=.returned (v0_)∧Kd.N (Kd.slice 3 (Kd.int .i64)) 40 w' w.heap.size (fun k_=>(w.heap.size≤k_)) v0_ r∧Below w.heap.size w w':=by
 induction k using Nat.strongRecOn with
 | _ k ih =>
 intro A0 c0 l0 A1 c1 l1 a2 r w hr0 hc0 hr1 hc1 h
 cases k with
 | zero=>exact absurd h (by simp [spec_trGroups.f])
 | succ k =>
 simp only [spec_trGroups.f] at h
 have HR0:=zz31 hr0
 have HC0:=zz31 hc0
 clear hr0 hc0
 have HR1:=zz31 hr1
 have HC1:=zz31 hc1
 clear hr1 hc1
 have HB:=zz31 (Below.refl w.heap.size w)
 have H:(if (l1.length:Int)=a2 then ((spec_l1Own.f l1).bind fun t251=>(some (([t251]:List (List Int))))) else (if (l1.length:Int) > 0 then (if 0≤(wrap64 ((l1.length:Int) - 1)) then (if (wrap64 ((l1.length:Int) - 1)) < (l1.length:Int) then (spec_trGroups.j0 k l0 l1 a2 (wrap64 ((rd l1 (wrap64 ((l1.length:Int) - 1)))+1))) else (none)) else (none)) else (spec_trGroups.j0 k l0 l1 a2 0)))=some r:=h
 clear h
 by_cases c4:(l1.length:Int)=a2
 ·rw [if_pos c4] at H
  have c4b0:((l1.length:Int) == a2)=true:=beq_iff_eq.mpr c4
  have c4b1:((l1.length:Int) != a2)=false:=bne_eq_false_iff_eq.mpr c4
  clear c4
  replace H:=zz30.mp H
  obtain ⟨t251,A50,H⟩:=H
  replace H:(some (([t251]:List (List Int))))=some r:=H
  have A5:=zz31 A50
  clear A50
  obtain ⟨y254,hy254⟩:∃ y_:List (List Int),y_=(([t251]:List (List Int))):=⟨_,rfl⟩
  replace H:(some y254)=some r:=by first | (rw [hy254];with_reducible exact H) | (have H2_:=(Option.bind_some _ _).symm.trans H;rw [hy254];with_reducible exact H2_) | (have H2_:=(Option.bind_some _ _).symm.trans H;with_reducible exact H2_) | with_reducible exact H | (rw [hy254];exact H) | exact H
  have Ny254:=zz31 hy254
  clear hy254
  obtain rfl:=Option.some.inj H
  go_enter Try.func52,Try.ntmps52
  go_wp2_with (first | ((with_reducible refine gate_callee (f:=85) rfl ?_);refine goesL_ (some 15) rfl rfl Try.func85 (by kernel_rfl) rfl #[.slice A1 l1.length c1] rfl (by (try simp only [zz26,zz27,zz28]);first | done | rfl | (simp only [zz24,zz25];rfl)) ?_;(with_reducible refine (spec_l1Own.calls _ _ l1 t251 _ ?side1 ?side2 A5.out).mono ?_);(case side1=>repeat (first | exact HR1.out | (with_reducible refine zz18 ?_ _) | (with_reducible refine zz19 ?_ _) | (with_reducible refine zz20 ?_)));(case side2=>exact HC1.out);rintro e w6 ⟨v252,rfl,ho0,hb⟩;refine ⟨_,rfl,?_⟩;have n0_:=zz31 (Kd.R_lower (Kd.R_newM (M:=fun k_=>(w.heap.size≤k_)) ho0 (zz5 (by repeat first | exact HB.out | apply zz2 | apply zz0 | apply zz1)) (fun k_ h_=>h_)) (zz5 (by repeat first | exact HB.out | apply zz2 | apply zz0 | apply zz1)));have n1_:=zz31 (zz4 (by repeat first | exact HB.out | apply zz2 | apply zz0 | apply zz1) hb);clear HB;have HO253:=n0_;have HB:=n1_;clear n0_ n1_;(try clear hb);(try clear hb2);(try clear hk);(try clear hi);(try clear ho0);obtain ⟨Ao7,co7,eo7⟩:=Kd.R_slice HO253.out;subst eo7) | ((with_reducible refine gate_dst (N:=16) rfl ?_);refine Kd.N_lit (Kd.slice 3 (Kd.int .i64)) _ 40 ?hg (N':=16) ?hd (xs:=([t251]:List (List Int))) (inner:=[.slice Ao7 t251.length co7]) (ok:=(fun k_=>(w.heap.size≤k_))) (okp:=(fun k_=>(w.heap.size≤k_))) ?hr ?hp (fun _ hk=>hk) ((show ∀ k_,w6.heap.size≤k_→(fun k_=>(w.heap.size≤k_)) k_ from fun k_ hk=>(Nat.le_trans (zz5 (by repeat first | exact HB.out | apply zz2 | apply zz0 | apply zz1)) hk)) _ (Nat.le_refl _)) (Below.refl _ _) (Nat.le_refl _) (by simp) ?_;(case hd=>rfl);(case hg=>rfl);(case hr=>first | (go_simp;done) | (go_simp;rfl));(case hp=>exact (Reps.one (show Kd.FK (Kd.slice 3 (Kd.int .i64)) _ _ t251 [.slice Ao7 t251.length co7] from (Kd.FK_slice_mk (Kd.R_reads' (Kd.R_mono (ok':=(fun k_=>(w.heap.size≤k_))) (HO253.out) (fun k_ hk=>hk.1))).2.1 (Kd.R_F (Kd.R_mono (ok':=(fun k_=>(w.heap.size≤k_))) (HO253.out) (fun k_ hk=>hk.1))))) (Reps.none _ _)));intro v255 w8 ho9 hb hg_ hnew_;clear hg_ hnew_;(first | rw [← Ny254.out] at ho9 | (simp only [Int.reduceToNat] at ho9;rw [← Ny254.out] at ho9));have n0_:=zz31 (Kd.N_lower ho9 (zz5 (by repeat first | exact HB.out | apply zz2 | apply zz0 | apply zz1)));have n1_:=zz31 (zz4 (by repeat first | exact HB.out | apply zz2 | apply zz0 | apply zz1) hb);clear HB;clear HO253;have HO256:=n0_;have HB:=n1_;clear n0_ n1_;clear hb ho9))
  go_ret
  exact ⟨_,by first | rfl | (simp [errW_none,errW_some] <;> rfl) | (simp [*,errW_none,errW_some] <;> rfl),by (with_reducible repeat (first | apply Kd.N_alloc | apply Kd.N_drewN | apply Kd.N_drew));exact HO256.out,by repeat first | exact HB.out | apply zz2 | apply zz0 | apply zz1⟩
 ·rw [if_neg c4] at H
  have c4b0:((l1.length:Int) == a2)=false:=beq_eq_false_iff_ne.mpr c4
  have c4b1:((l1.length:Int) != a2)=true:=bne_iff_ne.mpr c4
  have HC10:=zz31 H
  clear H
  go_enter Try.func52,Try.ntmps52
  go_upto_if 19 with (fail)
  go_cut [7] (fun v7 wc=>∃ (kq:Nat) (x7_9:Int),v7=.int .i64 x7_9∧Aside0 (spec_trGroups.j0 kq l0 l1 a2 x7_9=some r)∧Aside0 (kq≤k)∧Aside0 (Below w.heap.size w wc))
  case first =>
   have H:=HC10.out
   clear HC10
   by_cases c11:(l1.length:Int) > 0
   ·rw [if_pos c11] at H
    have c11b0:decide (0 < (l1.length:Int))=true:=decide_eq_true c11
    have c11n0:decide (0 < l1.length)=true:=by have:=c11b0;simpa using this
    have c11p0:0 < l1.length:=zz29 c11n0
    have c11q0:(0 < l1.length)=True:=eq_true c11p0
    have c11b1:decide (0 < l1.length)=true:=decide_eq_true (by omega)
    clear c11
    (first | rw [c11b0] | (simp only [i64_w,i32_w];rw [c11b0]) | skip)
    obtain ⟨ji12,hji12⟩:∃ j_:Int,(wrap64 ((l1.length:Int) - 1))=j_:=⟨_,rfl⟩
    replace H:(if 0≤(ji12) then (if (ji12) < (l1.length:Int) then (spec_trGroups.j0 k l0 l1 a2 (wrap64 ((rd l1 (ji12))+1))) else (none)) else (none))=some r:=by first | (rw [hji12] at H;exact H) | (simp only [hji12] at H ⊢;exact H)
    have hji12w:(IntKind.i64.wrap ((l1.length:Int) - 1))=ji12:=(i64_w _).trans hji12
    by_cases c13:0≤(ji12)
    ·rw [if_pos c13] at H
     have c13b0:decide (0≤(ji12))=true:=decide_eq_true c13
     clear c13
     by_cases c14:(ji12) < (l1.length:Int)
     ·rw [if_pos c14] at H
      have c14b0:decide ((ji12) < (l1.length:Int))=true:=decide_eq_true c14
      clear c14
      have H':=zz31 H
      clear H
      have p257:0≤((ji12):Int):=zz29 (by first | (with_reducible assumption) | assumption)
      have q257:(ji12) < (l1.length:Int):=zz29 (by first | (with_reducible assumption) | assumption)
      obtain ⟨ad257,e257,hx257_0⟩:=Kd.at_int HR1.out (ji12) p257 q257
      cases e257
      try replace hx257_0:=(HB.out.cell (World.block_lt_of_cell? w _ hx257_0)).trans hx257_0
      replace p257:=eq_true p257
      replace q257:=eq_true q257
      go_wp2
      go_meet
      case rel=>exact ⟨_,(wrap64 ((rd l1 (ji12))+1)),(by first | rfl | (simp;done) | (simp only [← hji12] <;> (first | rfl | simp)) | (simp [*];done)),H',⟨by first | omega | exact Nat.le_refl _⟩,⟨by repeat first | exact HB.out | apply zz2 | apply zz0 | apply zz1⟩⟩
     ·rw [if_neg c14] at H
      exact absurd H (by simp)
    ·rw [if_neg c13] at H
     exact absurd H (by simp)
   ·rw [if_neg c11] at H
    have c11b0:decide (0 < (l1.length:Int))=false:=decide_eq_false c11
    have c11n0:decide (0 < l1.length)=false:=by have:=c11b0;simpa using this
    have c11p0:¬ (0 < l1.length):=of_decide_eq_false c11n0
    have c11q0:(0 < l1.length)=False:=eq_false c11p0
    have c11b1:decide (0 < l1.length)=false:=decide_eq_false (by omega)
    clear c11
    (first | rw [c11b0] | (simp only [i64_w,i32_w];rw [c11b0]) | skip)
    have H':=zz31 H
    clear H
    go_wp2
    go_meet
    case rel=>exact ⟨_,(0),(by first | rfl | (simp;done) | (simp [*];done)),H',⟨by first | omega | exact Nat.le_refl _⟩,⟨by repeat first | exact HB.out | apply zz2 | apply zz0 | apply zz1⟩⟩
  case rest =>
   clear HC10
   try clear c1
   try clear p2
   try clear q2
   try clear hx2
   try clear c4
   try clear c4b0
   try clear c4b1
   try clear c5
   try clear p6
   try clear c8
   try clear c11
   try clear c11b0
   try clear c11b1
   try clear c13
   try clear c13b0
   try clear c14
   try clear c14b0
   try clear hx257_0
   try clear p257
   try clear q257
   obtain ⟨kq,x7_9,rfl,HA,HJ9,HB⟩:=hcut
   cases kq with
   | zero=>exact absurd HA.out (by simp [spec_trGroups.j0])
   | succ kj9 =>
    have H:=HA.out
    clear HA
    simp only [spec_trGroups.j0] at H
    have H':=zz31 H
    clear H
    go_wp2
    go_loopg [8,9] kj9 (fun kq v8 v9 w'=>∃ (x8_2:List (List Int)) (x9_2:Int),v9=.int .i64 x9_2∧Aside0 (spec_trGroups.l0 kq l0 l1 a2 x8_2 x9_2=some r)∧Aside0 (kq≤kj9)∧Aside0 (Kd.N (Kd.slice 3 (Kd.int .i64)) 40 w' w.heap.size (fun k_=>(w.heap.size≤k_)) v8 x8_2)∧Aside0 (Below w.heap.size w w'))
    case atStart=>exact ⟨(([]:List (List Int))),(x7_9),(by first | rfl | (simp;done) | (simp [*];done)),H',⟨Nat.le_refl _⟩,⟨by first | exact Kd.S_nil _ _ _ _ _ | exact Kd.N_nil _ _ _ _ _ | exact Kd.V_nil _ _ _ _ _ | exact Kd.Q_nil _ _ _ _ _ | exact Kd.R_nil _ _ _ _ _⟩,⟨by repeat first | exact HB.out | apply zz2 | apply zz0 | apply zz1⟩⟩
    case round =>
     clear H'
     try clear c1
     try clear p2
     try clear q2
     try clear hx2
     try clear c4
     try clear c4b0
     try clear c4b1
     try clear c5
     try clear p6
     try clear c8
     try clear c11
     try clear c11b0
     try clear c11b1
     try clear c13
     try clear c13b0
     try clear c14
     try clear c14b0
     try clear hx257_0
     try clear p2
     try clear p257
     try clear p6
     try clear q2
     try clear q257
     obtain ⟨x8_2,x9_2,rfl,HA,HK2,HO_8,HB⟩:=hrel
     cases gk with
     | zero=>exact absurd HA.out (by simp [spec_trGroups.l0])
     | succ k2 =>
      have H:=HA.out
      clear HA
      simp only [spec_trGroups.l0] at H
      by_cases c15:x9_2 < (l0.length:Int)
      ·rw [if_pos c15] at H
       have c15b0:decide (x9_2 < (l0.length:Int))=true:=decide_eq_true c15
       clear c15
       replace H:=zz30.mp H
       obtain ⟨t258,A160,H⟩:=H
       replace H:(if t258=true then ((spec_l1Own.f l1).bind fun t259=>(if t259.length < 17592186044416 then ((spec_trGroups.f k2 l0 (t259 ++ [x9_2]) a2).bind fun t265=>(if x8_2.length+t265.length < 5864062014805 then (spec_trGroups.l0 k2 l0 l1 a2 (x8_2 ++ t265) (wrap64 (x9_2+1))) else (none))) else (none))) else (spec_trGroups.l0 k2 l0 l1 a2 x8_2 (wrap64 (x9_2+1))))=some r:=H
       have A16:=zz31 A160
       clear A160
       by_cases c17:t258=true
       ·subst c17
        have H1:((spec_l1Own.f l1).bind fun t259=>(if t259.length < 17592186044416 then ((spec_trGroups.f k2 l0 (t259 ++ [x9_2]) a2).bind fun t265=>(if x8_2.length+t265.length < 5864062014805 then (spec_trGroups.l0 k2 l0 l1 a2 (x8_2 ++ t265) (wrap64 (x9_2+1))) else (none))) else (none)))=some r:=by rw [if_pos rfl] at H;exact H
        clear H
        have H:=H1
        clear H1
        replace H:=zz30.mp H
        obtain ⟨t259,A180,H⟩:=H
        replace H:(if t259.length < 17592186044416 then ((spec_trGroups.f k2 l0 (t259 ++ [x9_2]) a2).bind fun t265=>(if x8_2.length+t265.length < 5864062014805 then (spec_trGroups.l0 k2 l0 l1 a2 (x8_2 ++ t265) (wrap64 (x9_2+1))) else (none))) else (none))=some r:=H
        have A18:=zz31 A180
        clear A180
        by_cases c19:t259.length < 17592186044416
        ·rw [if_pos c19] at H
         have LMc19:=zz31 c19
         clear c19
         obtain ⟨y262,hy262⟩:∃ y_:List Int,y_=(t259 ++ [x9_2]):=⟨_,rfl⟩
         replace H:((spec_trGroups.f k2 l0 y262 a2).bind fun t265=>(if x8_2.length+t265.length < 5864062014805 then (spec_trGroups.l0 k2 l0 l1 a2 (x8_2 ++ t265) (wrap64 (x9_2+1))) else (none)))=some r:=by first | (rw [hy262];with_reducible exact H) | (have H2_:=(Option.bind_some _ _).symm.trans H;rw [hy262];with_reducible exact H2_) | (have H2_:=(Option.bind_some _ _).symm.trans H;with_reducible exact H2_) | with_reducible exact H | (rw [hy262];exact H) | exact H
         have Ny262:=zz31 hy262
         clear hy262
         replace H:=zz30.mp H
         obtain ⟨t265,A200,H⟩:=H
         replace H:(if x8_2.length+t265.length < 5864062014805 then (spec_trGroups.l0 k2 l0 l1 a2 (x8_2 ++ t265) (wrap64 (x9_2+1))) else (none))=some r:=H
         have A20:=zz31 A200
         clear A200
         by_cases c21:x8_2.length+t265.length < 5864062014805
         ·rw [if_pos c21] at H
          have LMc21:=zz31 c21
          clear c21
          obtain ⟨y268,hy268⟩:∃ y_:List (List Int),y_=(x8_2 ++ t265):=⟨_,rfl⟩
          replace H:(spec_trGroups.l0 k2 l0 l1 a2 y268 (wrap64 (x9_2+1)))=some r:=by first | (rw [hy268];with_reducible exact H) | (have H2_:=(Option.bind_some _ _).symm.trans H;rw [hy268];with_reducible exact H2_) | (have H2_:=(Option.bind_some _ _).symm.trans H;with_reducible exact H2_) | with_reducible exact H | (rw [hy268];exact H) | exact H
          have Ny268:=zz31 hy268
          clear hy268
          have H':=zz31 H
          clear H
          go_wp2_with (first | ((with_reducible refine gate_callee (f:=57) rfl ?_);refine goesL_ (some 37) rfl rfl Try.func57 (by kernel_rfl) rfl #[.slice A0 l0.length c0,.slice A1 l1.length c1,.int .i64 x9_2] rfl (by (try simp only [zz26,zz27,zz28]);first | done | rfl | (simp only [zz24,zz25];rfl)) ?_;(with_reducible refine (spec_trKnows.calls k2 _ _ l0 _ _ l1 x9_2 true _ ?side1 ?side2 ?side3 ?side4 A16.out).mono ?_);(case side1=>repeat (first | exact (Kd.C_below HR0.out HB.out) | (with_reducible refine zz18 ?_ _) | (with_reducible refine zz19 ?_ _) | (with_reducible refine zz20 ?_)));(case side2=>exact HC0.out);(case side3=>repeat (first | exact (Kd.C_below HR1.out HB.out) | (with_reducible refine zz18 ?_ _) | (with_reducible refine zz19 ?_ _) | (with_reducible refine zz20 ?_)));(case side4=>exact HC1.out);rintro e w' ⟨rfl,⟨nd,rfl⟩⟩;refine ⟨_,rfl,?_⟩) | ((with_reducible refine gate_callee (f:=85) rfl ?_);refine goesL_ (some 41) rfl rfl Try.func85 (by kernel_rfl) rfl #[.slice A1 l1.length c1] rfl (by (try simp only [zz26,zz27,zz28]);first | done | rfl | (simp only [zz24,zz25];rfl)) ?_;(with_reducible refine (spec_l1Own.calls _ _ l1 t259 _ ?side1 ?side2 A18.out).mono ?_);(case side1=>repeat (first | exact (Kd.C_below HR1.out (by repeat first | exact HB.out | apply zz2 | apply zz0 | apply zz1)) | (with_reducible refine zz18 ?_ _) | (with_reducible refine zz19 ?_ _) | (with_reducible refine zz20 ?_)));(case side2=>exact HC1.out);rintro e w22 ⟨v260,rfl,ho0,hb⟩;refine ⟨_,rfl,?_⟩;have n0_:=zz31 (Kd.N_elder' (by (with_reducible repeat (first | apply Kd.N_alloc | apply Kd.N_drewN | apply Kd.N_drew));exact HO_8.out) (Kd.R_base ho0) hb);have n1_:=zz31 (Kd.R_lower (Kd.R_newM (M:=fun k_=>(w.heap.size≤k_)) ho0 (zz5 (by repeat first | exact HB.out | apply zz2 | apply zz0 | apply zz1)) (fun k_ h_=>h_)) (zz5 (by repeat first | exact HB.out | apply zz2 | apply zz0 | apply zz1)));have n2_:=zz31 (zz4 (by repeat first | exact HB.out | apply zz2 | apply zz0 | apply zz1) hb);clear HO_8;clear HB;have HO_8:=n0_;have HO261:=n1_;have HB:=n2_;clear n0_ n1_ n2_;(try clear hb);(try clear hb2);(try clear hk);(try clear hi);(try clear ho0)) | ((with_reducible refine gate_builtin (b:=.append) (xs:=#[.tmp 41,.tmp 43]) rfl ?_);at_builtin;refine Kd.R_append (Kd.int .i64) (w0:=w) w.heap.size rfl (.tmp 41) (.tmp 43) 40 3 (.int .i64 0) 8 rfl Try.underlying40 info3 rfl (by decide) (by omega) v260 t259 x9_2 [.int .i64 x9_2] (fun k_=>(w.heap.size≤k_)) (fun _=>False) rfl rfl ?aP (fun _ hk=>hk.elim) ?aF ?aO ?aB ?aS ?aL ?_;(case aP=>exact rfl);(case aB=>exact (by repeat first | exact HB.out | apply zz2 | apply zz0 | apply zz1));(case aF=>exact (fun k_ hk=>(Nat.le_trans (zz5 (by repeat first | exact HB.out | apply zz2 | apply zz0 | apply zz1)) hk)));(case aO=>exact (by (with_reducible repeat (first | apply zz12 | apply zz13 | apply zz14));exact Kd.R_mono HO261.out (fun _ hk=>hk.1)));(case aS=>exact (zz5 (by repeat first | exact HB.out | apply zz2 | apply zz0 | apply zz1)));(case aL=>have:=LMc19.out;omega);intro v263 w23 ho hb hg hat;rw [← Ny262.out] at ho;have n0_:=zz31 (Kd.N_afterv (ok:=(fun k_=>(w.heap.size≤k_))) (by (with_reducible repeat (first | apply Kd.N_alloc | apply Kd.N_drewN | apply Kd.N_drew));exact HO_8.out) hg hat);have n1_:=zz31 (hb);have n2_:=zz31 (ho);clear HO_8;clear HB;clear HO261;have HO_8:=n0_;have HB:=n1_;have HO264:=n2_;clear n0_ n1_ n2_;clear ho hb hg hat;obtain ⟨Ao24,co24,eo24⟩:=Kd.R_slice HO264.out;subst eo24) | ((with_reducible refine gate_callee (f:=52) rfl ?_);refine goesL_ (some 46) rfl rfl Try.func52 (by kernel_rfl) rfl #[.slice A0 l0.length c0,.slice Ao24 y262.length co24,.int .i64 a2] rfl (by (try simp only [zz26,zz27,zz28]);first | done | rfl | (simp only [zz24,zz25];rfl)) ?_;(with_reducible refine (ih k2 (by have:=HJ9.out;have:=HK2.out;omega) _ _ l0 _ _ y262 a2 t265 _ ?side1 ?side2 ?side3 ?side4 A20.out).mono ?_);(case side1=>repeat (first | exact (Kd.C_below HR0.out HB.out) | (with_reducible refine zz18 ?_ _) | (with_reducible refine zz19 ?_ _) | (with_reducible refine zz20 ?_)));(case side2=>exact HC0.out);(case side3=>repeat (first | exact (Kd.R_reads' HO264.out).2.2 | (with_reducible refine zz18 ?_ _) | (with_reducible refine zz19 ?_ _) | (with_reducible refine zz20 ?_)));(case side4=>exact (Kd.R_reads' HO264.out).2.1);rintro e w25 ⟨v266,rfl,ho0,hb⟩;refine ⟨_,rfl,?_⟩;have n0_:=zz31 (Kd.N_elder' (by (with_reducible repeat (first | apply Kd.N_alloc | apply Kd.N_drewN | apply Kd.N_drew));exact HO_8.out) (Kd.N_base ho0) hb);have n1_:=zz31 (Kd.R_below (by (with_reducible repeat (first | apply zz12 | apply zz13 | apply zz14));exact HO264.out) hb);have n2_:=zz31 (Kd.N_lower (Kd.N_mono (ok':=fun k_=>(w.heap.size≤k_)∧some k_ ≠ (u8:Value).ownBlock∧some k_ ≠ (.slice Ao24 y262.length co24:Value).ownBlock) ho0 (fun k_ hk_=>⟨(Nat.le_trans (zz5 (by repeat first | exact HB.out | apply zz2 | apply zz0 | apply zz1)) hk_),(Kd.fresh' (Kd.N_lt (by (with_reducible repeat (first | apply Kd.N_alloc | apply Kd.N_drewN | apply Kd.N_drew));exact HO_8.out)) k_ hk_),(Kd.fresh' (Kd.R_lt (by (with_reducible repeat (first | apply zz12 | apply zz13 | apply zz14));exact HO264.out)) k_ hk_)⟩)) (zz5 (by repeat first | exact HB.out | apply zz2 | apply zz0 | apply zz1)));have n3_:=zz31 (zz4 (by repeat first | exact HB.out | apply zz2 | apply zz0 | apply zz1) hb);clear HO_8;clear HO264;clear HB;have HO_8:=n0_;have HO264:=n1_;have HO267:=n2_;have HB:=n3_;clear n0_ n1_ n2_ n3_;(try clear hb);(try clear hb2);(try clear hk);(try clear hi);(try clear ho0);obtain ⟨Ao27,co27,eo27⟩:=Kd.N_slice HO267.out;subst eo27) | ((with_reducible refine gate_builtin (b:=.append) (xs:=#[.tmp 38,.tmp 46]) rfl ?_);at_builtin;refine Kd.N_append_rows (Kd.slice 3 (Kd.int .i64)) (w0:=w) w.heap.size rfl (.tmp 38) (.tmp 46) 34 40 (.slice none 0 0) 24 rfl Try.underlying34 info40 rfl (by decide) (by omega) u8 x8_2 t265 _ _ _ (fun k_=>(w.heap.size≤k_)∧some k_ ≠ (.slice Ao24 y262.length co24:Value).ownBlock) (fun k_=>((fun k_=>(w.heap.size≤k_)∧some k_ ≠ (.slice Ao24 y262.length co24:Value).ownBlock)) k_∧some k_ ≠ (u8:Value).ownBlock) rfl rfl ?aO ?aR (fun _ hk=>hk) ?aF ?aB ?aS ?aL ?_;(case aR=>exact (by skip;exact Kd.N_F (Kd.N_mono (ok':=(fun k_=>((fun k_=>(w.heap.size≤k_)∧some k_ ≠ (.slice Ao24 y262.length co24:Value).ownBlock)) k_∧some k_ ≠ (u8:Value).ownBlock)) (HO267.out) (fun k_ hk=>⟨⟨hk.1,hk.2.2⟩,hk.2.1⟩))));(case aB=>exact (by repeat first | exact HB.out | apply zz2 | apply zz0 | apply zz1));(case aF=>exact (fun k_ hk=>⟨(Nat.le_trans (zz5 (by repeat first | exact HB.out | apply zz2 | apply zz0 | apply zz1)) hk),Kd.fresh' (Kd.R_lt (by (with_reducible repeat (first | apply zz12 | apply zz13 | apply zz14));exact HO264.out)) k_ hk⟩));(case aO=>exact (by (with_reducible repeat (first | apply Kd.N_alloc | apply Kd.N_drewN | apply Kd.N_drew));exact Kd.N_mono HO_8.out (fun _ hk=>⟨hk.1.1,hk.1.2⟩)));(case aS=>exact (zz5 (by repeat first | exact HB.out | apply zz2 | apply zz0 | apply zz1)));(case aL=>have:=LMc21.out;omega);intro v269 w26 ho hb hg hat;rw [← Ny268.out] at ho;have n0_:=zz31 (Kd.R_over' (by (with_reducible repeat (first | apply zz12 | apply zz13 | apply zz14));exact HO264.out) (Kd.N_typed (by (with_reducible repeat (first | apply Kd.N_alloc | apply Kd.N_drewN | apply Kd.N_drew));exact HO_8.out)) (by decide) hg);have n1_:=zz31 (Kd.N_afterv (ok:=(fun k_=>(w.heap.size≤k_)∧some k_ ≠ (.slice Ao24 y262.length co24:Value).ownBlock)) (by (with_reducible repeat (first | apply Kd.N_alloc | apply Kd.N_drewN | apply Kd.N_drew));exact Kd.N_mono HO267.out (fun _ hk=>⟨⟨hk.1,hk.2.2⟩,hk.2.1⟩)) hg hat);have n2_:=zz31 (hb);have n3_:=zz31 (ho);clear HO264;clear HO267;clear HB;clear HO_8;have HO264:=n0_;have HO267:=n1_;have HB:=n2_;have HO270:=n3_;clear n0_ n1_ n2_ n3_;clear ho hb hg hat))
          go_roundg k2
          case measure=>have:=HJ9.out;have:=HK2.out;omega
          case rel=>exact ⟨(y268),(wrap64 (x9_2+1)),(by first | rfl | (simp;done) | (simp [*];done)),H',⟨by have:=HJ9.out;have:=HK2.out;omega⟩,⟨by (with_reducible repeat (first | apply Kd.N_alloc | apply Kd.N_drewN | apply Kd.N_drew));exact Kd.N_mono HO270.out (fun _ hk=>hk.1)⟩,⟨by repeat first | exact HB.out | apply zz2 | apply zz0 | apply zz1⟩⟩
         ·rw [if_neg c21] at H
          exact absurd H (by simp)
        ·rw [if_neg c19] at H
         exact absurd H (by simp)
       ·replace c17:=Bool.eq_false_iff.mpr c17
        subst c17
        have H1:(spec_trGroups.l0 k2 l0 l1 a2 x8_2 (wrap64 (x9_2+1)))=some r:=by rw [if_neg (show ¬ (false=true) by decide)] at H;exact H
        clear H
        have H:=H1
        clear H1
        have H':=zz31 H
        clear H
        go_wp2_with (first | ((with_reducible refine gate_callee (f:=57) rfl ?_);refine goesL_ (some 37) rfl rfl Try.func57 (by kernel_rfl) rfl #[.slice A0 l0.length c0,.slice A1 l1.length c1,.int .i64 x9_2] rfl (by (try simp only [zz26,zz27,zz28]);first | done | rfl | (simp only [zz24,zz25];rfl)) ?_;(with_reducible refine (spec_trKnows.calls k2 _ _ l0 _ _ l1 x9_2 false _ ?side1 ?side2 ?side3 ?side4 A16.out).mono ?_);(case side1=>repeat (first | exact (Kd.C_below HR0.out HB.out) | (with_reducible refine zz18 ?_ _) | (with_reducible refine zz19 ?_ _) | (with_reducible refine zz20 ?_)));(case side2=>exact HC0.out);(case side3=>repeat (first | exact (Kd.C_below HR1.out HB.out) | (with_reducible refine zz18 ?_ _) | (with_reducible refine zz19 ?_ _) | (with_reducible refine zz20 ?_)));(case side4=>exact HC1.out);rintro e w' ⟨rfl,⟨nd,rfl⟩⟩;refine ⟨_,rfl,?_⟩))
        go_roundg k2
        case measure=>have:=HJ9.out;have:=HK2.out;omega
        case rel=>exact ⟨(x8_2),(wrap64 (x9_2+1)),(by first | rfl | (simp;done) | (simp [*];done)),H',⟨by have:=HJ9.out;have:=HK2.out;omega⟩,⟨by (with_reducible repeat (first | apply Kd.N_alloc | apply Kd.N_drewN | apply Kd.N_drew));exact HO_8.out⟩,⟨by repeat first | exact HB.out | apply zz2 | apply zz0 | apply zz1⟩⟩
      ·rw [if_neg c15] at H
       have c15b0:decide (x9_2 < (l0.length:Int))=false:=decide_eq_false c15
       clear c15
       obtain rfl:=Option.some.inj H
       go_wp2
       go_ret
       exact ⟨_,by first | rfl | (simp [errW_none,errW_some] <;> rfl) | (simp [*,errW_none,errW_some] <;> rfl),by (with_reducible repeat (first | apply Kd.N_alloc | apply Kd.N_drewN | apply Kd.N_drew));exact HO_8.out,by repeat first | exact HB.out | apply zz2 | apply zz0 | apply zz1⟩

/-! ### spec_FriendThrees: function 17 -/
def spec_FriendThrees.f (k:Nat) (a0_0:Int) (l0_1:List (S80)):Option ((List (List Int)) × Bool):=(spec_paGood.f k a0_0 l0_1).bind fun t272=>(if t272=true then ((spec_paTable.f k a0_0 l0_1).bind fun t273=>((spec_trGroups.f k t273 ([]:List Int) 3).bind fun t276=>(some (t276,true)))) else (some (([]:List (List Int)),false)))
theorem spec_FriendThrees.mono:∀ a0 a1 k,LeO (spec_FriendThrees.f k a0 a1) (spec_FriendThrees.f (k+1) a0 a1):=by
 intro a0 a1 k
 unfold spec_FriendThrees.f
 repeat' first
   | (with_reducible exact spec_paGood.mono _ _ _)
   | (with_reducible exact spec_paTable.mono _ _ _)
   | (with_reducible exact spec_trGroups.mono _ _ _ _)
   | (with_reducible exact LeO.refl _)
   | (with_reducible exact LeO.none _)
   | (with_reducible refine LeO.ite ?_ ?_)
   | (with_reducible refine LeO.bind ?_ (fun _=>?_))
   | exact spec_paGood.mono _ _ _
   | exact spec_paTable.mono _ _ _
   | exact spec_trGroups.mono _ _ _ _
   | exact LeO.none _
   | refine LeO.ite ?_ ?_
   | refine LeO.bind ?_ (fun _=>?_)
set_option maxHeartbeats 8000000 in
set_option maxRecDepth 100000 in
theorem spec_FriendThrees.calls (k:Nat) (a0_0:Int) (A0_1:Option Addr) (c0_1:Nat) (l0_1:List (S80)) (r1:List (List Int)) (r2:Bool) (w:World) (hr0_1:Kd.C k80 w A0_1 l0_1.length l0_1) (hc0_1:l0_1.length≤c0_1) (h:spec_FriendThrees.f k a0_0 l0_1=some (r1,r2)) :
  Calls Try.prog 17 #[.agg #[.int .i64 a0_0,.slice A0_1 l0_1.length c0_1]] w fun e w'=>∃ v0_:Value,e=.returned (.tuple #[v0_,.bool r2])∧Kd.N (Kd.slice 3 (Kd.int .i64)) 40 w' w.heap.size (fun k_=>(w.heap.size≤k_)) v0_ r1∧Below w.heap.size w w':=by
 have hu30:=Try.underlying30
 have HR0_1:=zz31 hr0_1
 have HC0_1:=zz31 hc0_1
 clear hr0_1 hc0_1
 have HB:=zz31 (Below.refl w.heap.size w)
 have H:((spec_paGood.f k a0_0 l0_1).bind fun t272=>(if t272=true then ((spec_paTable.f k a0_0 l0_1).bind fun t273=>((spec_trGroups.f k t273 ([]:List Int) 3).bind fun t276=>(some (t276,true)))) else (some (([]:List (List Int)),false))))=some (r1,r2):=h
 clear h
 replace H:=zz30.mp H
 obtain ⟨t272,A20,H⟩:=H
 replace H:(if t272=true then ((spec_paTable.f k a0_0 l0_1).bind fun t273=>((spec_trGroups.f k t273 ([]:List Int) 3).bind fun t276=>(some (t276,true)))) else (some (([]:List (List Int)),false)))=some (r1,r2):=H
 have A2:=zz31 A20
 clear A20
 by_cases c3:t272=true
 ·subst c3
  have H1:((spec_paTable.f k a0_0 l0_1).bind fun t273=>((spec_trGroups.f k t273 ([]:List Int) 3).bind fun t276=>(some (t276,true))))=some (r1,r2):=by rw [if_pos rfl] at H;exact H
  clear H
  have H:=H1
  clear H1
  replace H:=zz30.mp H
  obtain ⟨t273,A40,H⟩:=H
  replace H:((spec_trGroups.f k t273 ([]:List Int) 3).bind fun t276=>(some (t276,true)))=some (r1,r2):=H
  have A4:=zz31 A40
  clear A40
  replace H:=zz30.mp H
  obtain ⟨t276,A50,H⟩:=H
  replace H:(some (t276,true))=some (r1,r2):=H
  have A5:=zz31 A50
  clear A50
  simp only [Option.some.injEq,Prod.mk.injEq] at H
  obtain ⟨rfl,rfl⟩:=H
  go_enter Try.func17,Try.ntmps17
  go_wp2_with (first | ((with_reducible refine gate_dst (N:=1) rfl ?_);refine box_event ?hg (N:=1) ?hd (cs:=#[.int .i64 a0_0,.slice A0_1 l0_1.length c0_1]) (t:=30) ?hr ?_;(case hd=>rfl);(case hg=>rfl);(case hr=>first | (go_simp;done) | (go_simp;rfl));intro gb271 hg w6 hbox hb;have n0_:=zz31 (zz4 (by repeat first | exact HB.out | apply zz2 | apply zz0 | apply zz1) hb);have n1_:=zz31 (hbox);have n2_:=zz31 ((by rw [hg];exact (zz5 (by repeat first | exact HB.out | apply zz2 | apply zz0 | apply zz1)):w.heap.size≤gb271));have n3_:=zz31 ((by rw [hg];exact (zz5 (by repeat first | exact HB.out | apply zz2 | apply zz0 | apply zz1)):w.heap.size≤gb271));clear HB;have HB:=n0_;have BK271:=n1_;have GW271:=n2_;have GE271:=n3_;clear n0_ n1_ n2_ n3_;clear hb hbox hg;have hcz7_0:w6.cell? ⟨gb271,0,none⟩=some (.int .i64 a0_0):=(zz9 BK271.out 0).trans rfl;have hcz7_1:w6.cell? ⟨gb271,1,none⟩=some (.slice A0_1 l0_1.length c0_1):=(zz9 BK271.out 1).trans rfl;have hfz7_0:=zz10 BK271.out 0;have hfz7_1:=zz10 BK271.out 1) | ((with_reducible refine gate_callee (f:=42) rfl ?_);refine goesL_ (some 5) rfl rfl Try.func42 (by kernel_rfl) rfl #[.agg #[.int .i64 a0_0,.slice A0_1 l0_1.length c0_1]] rfl (by (try simp only [zz26,zz27,zz28]);first | done | rfl | (simp only [zz24,zz25];rfl)) ?_;(with_reducible refine (spec_paGood.calls k a0_0 _ _ l0_1 true _ ?side1 ?side2 A2.out).mono ?_);(case side1=>repeat (first | exact (Kd.C_below HR0_1.out HB.out) | (with_reducible refine zz18 ?_ _) | (with_reducible refine zz19 ?_ _) | (with_reducible refine zz20 ?_)));(case side2=>exact HC0_1.out);rintro e w8 ⟨rfl,hb⟩;refine ⟨_,rfl,?_⟩;have n0_:=zz31 (zz11 (g:=gb271) (o:=.cells #[.int .i64 a0_0,.slice A0_1 l0_1.length c0_1] 30 (0,0)) (by (with_reducible repeat (first | refine zz6 ?_ _ | refine zz7 ?_ | refine zz8 ?_ _));exact BK271.out) hb);have n1_:=zz31 (zz4 (by repeat first | exact HB.out | apply zz2 | apply zz0 | apply zz1 | refine zz3 ?_ GE271.out) hb);clear BK271;clear HB;have BK271:=n0_;have HB:=n1_;clear n0_ n1_;(try clear hb);(try clear hb2);(try clear hk);(try clear hi);have hcz9_0:w8.cell? ⟨gb271,0,none⟩=some (.int .i64 a0_0):=(zz9 BK271.out 0).trans rfl;have hcz9_1:w8.cell? ⟨gb271,1,none⟩=some (.slice A0_1 l0_1.length c0_1):=(zz9 BK271.out 1).trans rfl;have hfz9_0:=zz10 BK271.out 0;have hfz9_1:=zz10 BK271.out 1) | ((with_reducible refine gate_callee (f:=53) rfl ?_);refine goesL_ (some 8) rfl rfl Try.func53 (by kernel_rfl) rfl #[.agg #[.int .i64 a0_0,.slice A0_1 l0_1.length c0_1]] rfl (by (try simp only [zz26,zz27,zz28]);first | done | rfl | (simp only [zz24,zz25];rfl)) ?_;(with_reducible refine (spec_paTable.calls k a0_0 _ _ l0_1 t273 _ ?side1 ?side2 A4.out).mono ?_);(case side1=>repeat (first | exact (Kd.C_below HR0_1.out HB.out) | (with_reducible refine zz18 ?_ _) | (with_reducible refine zz19 ?_ _) | (with_reducible refine zz20 ?_)));(case side2=>exact HC0_1.out);rintro e w10 ⟨v274,rfl,ho0,hb⟩;refine ⟨_,rfl,?_⟩;have n0_:=zz31 (Kd.N_lower (Kd.N_mono (ok':=fun k_=>(w.heap.size≤k_)∧k_ ≠ gb271) (Kd.S_N (Kd.S_bound ho0)) (fun k_ hk_=>⟨(Nat.le_trans (zz5 (by repeat first | exact HB.out | apply zz2 | apply zz0 | apply zz1 | refine zz3 ?_ GE271.out)) hk_.2.1),(Kd.freshB (g:=gb271) (o:=.cells #[.int .i64 a0_0,.slice A0_1 l0_1.length c0_1] 30 (0,0)) (by (with_reducible repeat (first | refine zz6 ?_ _ | refine zz7 ?_ | refine zz8 ?_ _));exact BK271.out) k_ hk_.2.1)⟩)) (zz5 (by repeat first | exact HB.out | apply zz2 | apply zz0 | apply zz1 | refine zz3 ?_ GE271.out)));have n1_:=zz31 (zz11 (g:=gb271) (o:=.cells #[.int .i64 a0_0,.slice A0_1 l0_1.length c0_1] 30 (0,0)) (by (with_reducible repeat (first | refine zz6 ?_ _ | refine zz7 ?_ | refine zz8 ?_ _));exact BK271.out) hb);have n2_:=zz31 (zz4 (by repeat first | exact HB.out | apply zz2 | apply zz0 | apply zz1 | refine zz3 ?_ GE271.out) hb);clear BK271;clear HB;have HO275:=n0_;have BK271:=n1_;have HB:=n2_;clear n0_ n1_ n2_;(try clear hb);(try clear hb2);(try clear hk);(try clear hi);(try clear ho0);obtain ⟨Ao11,co11,eo11⟩:=Kd.N_slice HO275.out;subst eo11) | ((with_reducible refine gate_callee (f:=52) rfl ?_);refine goesL_ (some 9) rfl rfl Try.func52 (by kernel_rfl) rfl #[.slice Ao11 t273.length co11,.slice none 0 0,.int .i64 3] rfl (by (try simp only [zz26,zz27,zz28]);first | done | rfl | (simp only [zz24,zz25];rfl)) ?_;(refine (spec_trGroups.calls k _ _ t273 _ _ ([]:List Int) 3 t276 _ ?side1 ?side2 ?side3 ?side4 A5.out).mono ?_);(case side1=>repeat (first | exact (Kd.N_reads' HO275.out).2.2 | (with_reducible refine zz18 ?_ _) | (with_reducible refine zz19 ?_ _) | (with_reducible refine zz20 ?_)));(case side2=>exact (Kd.N_reads' HO275.out).2.1);(case side3=>exact Kd.C_nil _ _);(case side4=>exact Nat.le_refl _);rintro e w12 ⟨v277,rfl,ho0,hb⟩;refine ⟨_,rfl,?_⟩;have n0_:=zz31 (Kd.N_elder' (by (with_reducible repeat (first | apply Kd.N_alloc | apply Kd.N_drewN | apply Kd.N_drew));exact HO275.out) (Kd.N_base ho0) hb);have n1_:=zz31 (Kd.N_lower (Kd.N_mono (ok':=fun k_=>(w.heap.size≤k_)∧some k_ ≠ (.slice Ao11 t273.length co11:Value).ownBlock∧k_ ≠ gb271) ho0 (fun k_ hk_=>⟨(Nat.le_trans (zz5 (by repeat first | exact HB.out | apply zz2 | apply zz0 | apply zz1 | refine zz3 ?_ GE271.out)) hk_),(Kd.fresh' (Kd.N_lt (by (with_reducible repeat (first | apply Kd.N_alloc | apply Kd.N_drewN | apply Kd.N_drew));exact HO275.out)) k_ hk_),(Kd.freshB (g:=gb271) (o:=.cells #[.int .i64 a0_0,.slice A0_1 l0_1.length c0_1] 30 (0,0)) (by (with_reducible repeat (first | refine zz6 ?_ _ | refine zz7 ?_ | refine zz8 ?_ _));exact BK271.out) k_ hk_)⟩)) (zz5 (by repeat first | exact HB.out | apply zz2 | apply zz0 | apply zz1 | refine zz3 ?_ GE271.out)));have n2_:=zz31 (zz11 (g:=gb271) (o:=.cells #[.int .i64 a0_0,.slice A0_1 l0_1.length c0_1] 30 (0,0)) (by (with_reducible repeat (first | refine zz6 ?_ _ | refine zz7 ?_ | refine zz8 ?_ _));exact BK271.out) hb);have n3_:=zz31 (zz4 (by repeat first | exact HB.out | apply zz2 | apply zz0 | apply zz1 | refine zz3 ?_ GE271.out) hb);clear HO275;clear BK271;clear HB;have HO275:=n0_;have HO278:=n1_;have BK271:=n2_;have HB:=n3_;clear n0_ n1_ n2_ n3_;(try clear hb);(try clear hb2);(try clear hk);(try clear hi);(try clear ho0)))
  go_ret2
  exact ⟨_,by first | rfl | (simp [errW_none,errW_some] <;> rfl) | (simp [*,errW_none,errW_some] <;> rfl),by (with_reducible repeat (first | apply Kd.N_alloc | apply Kd.N_drewN | apply Kd.N_drew));exact Kd.N_mono HO278.out (fun _ hk=>hk.1),by repeat first | exact HB.out | apply zz2 | apply zz0 | apply zz1 | refine zz3 ?_ GE271.out⟩
 ·replace c3:=Bool.eq_false_iff.mpr c3
  subst c3
  have H1:(some (([]:List (List Int)),false))=some (r1,r2):=by rw [if_neg (show ¬ (false=true) by decide)] at H;exact H
  clear H
  have H:=H1
  clear H1
  simp only [Option.some.injEq,Prod.mk.injEq] at H
  obtain ⟨rfl,rfl⟩:=H
  go_enter Try.func17,Try.ntmps17
  go_wp2_with (first | ((with_reducible refine gate_dst (N:=1) rfl ?_);refine box_event ?hg (N:=1) ?hd (cs:=#[.int .i64 a0_0,.slice A0_1 l0_1.length c0_1]) (t:=30) ?hr ?_;(case hd=>rfl);(case hg=>rfl);(case hr=>first | (go_simp;done) | (go_simp;rfl));intro gb271 hg w13 hbox hb;have n0_:=zz31 (zz4 (by repeat first | exact HB.out | apply zz2 | apply zz0 | apply zz1) hb);have n1_:=zz31 (hbox);have n2_:=zz31 ((by rw [hg];exact (zz5 (by repeat first | exact HB.out | apply zz2 | apply zz0 | apply zz1)):w.heap.size≤gb271));have n3_:=zz31 ((by rw [hg];exact (zz5 (by repeat first | exact HB.out | apply zz2 | apply zz0 | apply zz1)):w.heap.size≤gb271));clear HB;have HB:=n0_;have BK271:=n1_;have GW271:=n2_;have GE271:=n3_;clear n0_ n1_ n2_ n3_;clear hb hbox hg;have hcz14_0:w13.cell? ⟨gb271,0,none⟩=some (.int .i64 a0_0):=(zz9 BK271.out 0).trans rfl;have hcz14_1:w13.cell? ⟨gb271,1,none⟩=some (.slice A0_1 l0_1.length c0_1):=(zz9 BK271.out 1).trans rfl;have hfz14_0:=zz10 BK271.out 0;have hfz14_1:=zz10 BK271.out 1) | ((with_reducible refine gate_callee (f:=42) rfl ?_);refine goesL_ (some 5) rfl rfl Try.func42 (by kernel_rfl) rfl #[.agg #[.int .i64 a0_0,.slice A0_1 l0_1.length c0_1]] rfl (by (try simp only [zz26,zz27,zz28]);first | done | rfl | (simp only [zz24,zz25];rfl)) ?_;(with_reducible refine (spec_paGood.calls k a0_0 _ _ l0_1 false _ ?side1 ?side2 A2.out).mono ?_);(case side1=>repeat (first | exact (Kd.C_below HR0_1.out HB.out) | (with_reducible refine zz18 ?_ _) | (with_reducible refine zz19 ?_ _) | (with_reducible refine zz20 ?_)));(case side2=>exact HC0_1.out);rintro e w15 ⟨rfl,hb⟩;refine ⟨_,rfl,?_⟩;have n0_:=zz31 (zz11 (g:=gb271) (o:=.cells #[.int .i64 a0_0,.slice A0_1 l0_1.length c0_1] 30 (0,0)) (by (with_reducible repeat (first | refine zz6 ?_ _ | refine zz7 ?_ | refine zz8 ?_ _));exact BK271.out) hb);have n1_:=zz31 (zz4 (by repeat first | exact HB.out | apply zz2 | apply zz0 | apply zz1 | refine zz3 ?_ GE271.out) hb);clear BK271;clear HB;have BK271:=n0_;have HB:=n1_;clear n0_ n1_;(try clear hb);(try clear hb2);(try clear hk);(try clear hi)))
  go_ret2
  exact ⟨_,by first | rfl | (simp [errW_none,errW_some] <;> rfl) | (simp [*,errW_none,errW_some] <;> rfl),by first | exact Kd.S_nil _ _ _ _ _ | exact Kd.N_nil _ _ _ _ _ | exact Kd.V_nil _ _ _ _ _ | exact Kd.Q_nil _ _ _ _ _ | exact Kd.R_nil _ _ _ _ _,by repeat first | exact HB.out | apply zz2 | apply zz0 | apply zz1 | refine zz3 ?_ GE271.out⟩

/-! ### impl_FriendThrees: function 18 (a contract of our own) -/
def impl_FriendThrees.f (k:Nat) (a0_0:Int) (l0_1:List (S80)):Option (List (List Int) × Bool) :=
 (impl_IsParty.f k a0_0 l0_1).bind fun ok=>if ok=true then (impl_Party_table.f k a0_0 l0_1).bind fun t=>if a0_0=(t.length:Int)∧t.length≤12 then some (tA (hasQ t) t.length t.length,true) else none else some ([],false)
theorem impl_FriendThrees.mono:∀ a0 a1 k,LeO (impl_FriendThrees.f k a0 a1) (impl_FriendThrees.f (k+1) a0 a1):=by
 intro a0 a1 k
 unfold impl_FriendThrees.f
 refine LeO.bind (impl_IsParty.mono _ _ _) fun ok=>LeO.ite (LeO.bind (impl_Party_table.mono _ _ _) fun t=>LeO.refl _) (LeO.refl _)
set_option maxHeartbeats 4000000 in
set_option maxRecDepth 100000 in
theorem impl_FriendThrees.calls (k:Nat) (a0_0:Int) (A0_1:Option Addr) (c0_1:Nat) (l0_1:List (S80)) (r1:List (List Int)) (r2:Bool) (w:World) (hr0_1:Kd.C k80 w A0_1 l0_1.length l0_1) (hc0_1:l0_1.length≤c0_1) (h:impl_FriendThrees.f k a0_0 l0_1=some (r1,r2)) :
  Calls Try.prog 18 #[.agg #[.int .i64 a0_0,.slice A0_1 l0_1.length c0_1]] w fun e w'=>∃ v0_:Value,e=.returned (.tuple #[v0_,.bool r2])∧Kd.S (Kd.slice 3 (Kd.int .i64)) 40 w' w.heap.size (fun _=>True) v0_ r1∧Below w.heap.size w w':=by
 have hu:=Try.underlying30
 unfold impl_FriendThrees.f at h
 obtain ⟨ok,hok,h⟩:=zz30.1 h
 have HOK:=zz31 hok
 have HC:=zz31 hr0_1
 have HCC:=zz31 hc0_1
 clear hok hr0_1 hc0_1
 have HC1:=zz31 (zz18 HC.out (.cells #[.int .i64 a0_0,.slice A0_1 l0_1.length c0_1] 30))
 have HB1:Aside0 (Below w.heap.size w (w.alloc (.cells #[.int .i64 a0_0,.slice A0_1 l0_1.length c0_1] 30))):=⟨zz2 (Below.refl _ _) _⟩
 have HX1:=zz31 (blk_new w (.cells #[.int .i64 a0_0,.slice A0_1 l0_1.length c0_1] 30))
 cases ok with
 | false =>
  rw [if_neg (by simp)] at h
  simp only [Option.some.injEq,Prod.mk.injEq] at h
  obtain ⟨rfl,rfl⟩:=h
  go_enter Try.func18,Try.ntmps18
  go_wp2_with (go_at_call 45;refine (impl_IsParty.calls k a0_0 A0_1 c0_1 l0_1 false _ HC1.out HCC.out HOK.out).mono ?_;rintro e w3 ⟨rfl,hb⟩;have HB3:=zz31 (zz4 HB1.out hb);clear hb)
  refine bodyPost_ret (results_tmp2 rfl _ _ _) rfl ?_
  exact ⟨_,rfl,Kd.S_nil _ _ _ _ _,HB3.out⟩
 | true =>
  rw [if_pos rfl] at h
  obtain ⟨t,ht,h⟩:=zz30.1 h
  split at h
  case isFalse=>simp at h
  rename_i hcond
  obtain ⟨q1,q3⟩:=hcond
  simp only [Option.some.injEq,Prod.mk.injEq] at h
  obtain ⟨e1,rfl⟩:=h
  subst q1
  have HT:=zz31 ht
  have HE1:=zz31 e1
  have HQ3:=zz31 q3
  clear ht e1 q3
  go_enter Try.func18,Try.ntmps18
  go_wp2_with (go_at_call 45;refine (impl_IsParty.calls k (t.length:Int) A0_1 c0_1 l0_1 true _ HC1.out HCC.out HOK.out).mono ?_;rintro e w3 ⟨rfl,hb⟩;have HB3:=zz31 (zz4 HB1.out hb);have HX3:=zz31 (zz11 HX1.out hb);have HC3:=zz31 (Kd.C_below HC1.out hb);have hc0:w3.cell? ⟨w.heap.size,0,none⟩=some (.int .i64 (t.length:Int)):=zz9 HX3.out 0;have hc1:w3.cell? ⟨w.heap.size,1,none⟩=some (.slice A0_1 l0_1.length c0_1):=zz9 HX3.out 1;clear hb)
  have HH1:=zz31 (fun (a b:Nat) (ha:a < t.length) (_:b < t.length)=>hasQ_f t a b ha)
  have HBK:=zz31 (blk_lt HX3.out)
  go_region_held3 (fun w' => w'.cell? ⟨w.heap.size, 0, none⟩ = some (.int .i64 (t.length : Int)) ∧ w'.cell? ⟨w.heap.size, 1, none⟩ = some (.slice A0_1 l0_1.length c0_1)) (first | go_keep | exact ⟨(HB37.out.cell (p := ⟨w.heap.size, 0, none⟩) HBK.out).trans hc0, (HB37.out.cell (p := ⟨w.heap.size, 1, none⟩) HBK.out).trans hc1⟩ | exact ⟨(HB34.out.cell (p := ⟨w.heap.size, 0, none⟩) HBK.out).trans hc0, (HB34.out.cell (p := ⟨w.heap.size, 1, none⟩) HBK.out).trans hc1⟩) (first | (go_at_call 46; (with_reducible refine (impl_Party_table.calls k (t.length : Int) A0_1 c0_1 l0_1 t _ ?_ HCC.out HT.out).mono ?_); (repeat (first | (with_reducible exact HC3.out) | (with_reducible refine zz19 ?_ _) | (with_reducible refine zz20 ?_))); rintro e w4 ⟨vt, rfl, ho, hb⟩; obtain ⟨At, ct, rfl⟩ := Kd.R_slice ho; have HB34 := zz31 (zz4 (w := w3) (by repeat (first | exact Below.refl _ _ | apply zz0 | apply below_drew)) hb); have HR4 := zz31 (Kd.R_reads' ho); clear ho hb) | (go_at_call 47; (with_reducible refine (threes_calls (hasQ t) t.length HQ3.out t rfl At ct HR4.out.2.1 _ ?_ HH1.out).mono ?_); (repeat (first | (with_reducible exact HR4.out.2.2) | (with_reducible refine zz19 ?_ _) | (with_reducible refine zz20 ?_))); rintro e w5 ⟨v5, rfl, hS5, hb5⟩; have HS5 := zz31 (Kd.S_lower hS5 (Nat.le_trans HB3.out.size HB34.out.size)); have HB37 := zz31 (zz4 (w := w3) (by repeat (first | exact HB34.out | apply zz0 | apply below_drew)) hb5); clear hS5 hb5) | (fail "no arm"))
  all_goals try go_wp2
  refine bodyPost_ret (results_tmp2 rfl _ _ _) rfl ?_
  refine ⟨_,rfl,?_,?_⟩
  ·rw [← HE1.out];(with_reducible repeat (first | apply zz16 | apply zz17));exact HS5.out
  ·repeat first | exact (HB3.out.trans (HB37.out.mono HB3.out.size)) | apply zz0 | apply below_drew

/-! ### laws_eqIntSS: function 19 -/
def laws_eqIntSS.l0:Nat→List (List Int)→List (List Int)→Int→Option (Bool)
 | 0,_,_,_=>none
 | k+1,x0,x1,x5=>if x5 < (x0.length:Int) then (if 0≤x5 then (if x5 < (x1.length:Int) then ((laws_eqIntS.f k (rd_L8 x0 x5) (rd_L8 x1 x5)).bind fun t283=>(if t283=true then (laws_eqIntSS.l0 k x0 x1 (wrap64 (x5+1))) else (some false))) else (none)) else (none)) else (some true)
def laws_eqIntSS.f (k:Nat) (l0:List (List Int)) (l1:List (List Int)):Option (Bool):=if (l0.length:Int)=(l1.length:Int) then (laws_eqIntSS.l0 k l0 l1 0) else (some false)
theorem laws_eqIntSS.mono_l:∀ k,(∀ y0 y1 y2,LeO (laws_eqIntSS.l0 k y0 y1 y2) (laws_eqIntSS.l0 (k+1) y0 y1 y2))
 | 0=>fun _ _ _ r h=>by simp [laws_eqIntSS.l0] at h
 | k+1=>by
  have ih0:=laws_eqIntSS.mono_l k
  ·intro y0 y1 y2
   unfold laws_eqIntSS.l0
   repeat' first
   | (with_reducible exact ih0 _ _ _)
   | (with_reducible exact laws_eqIntS.mono _ _ _)
   | (with_reducible exact LeO.refl _)
   | (with_reducible exact LeO.none _)
   | (with_reducible refine LeO.ite ?_ ?_)
   | (with_reducible refine LeO.bind ?_ (fun _=>?_))
   | exact ih0 _ _ _
   | exact laws_eqIntS.mono _ _ _
   | exact LeO.none _
   | refine LeO.ite ?_ ?_
   | refine LeO.bind ?_ (fun _=>?_)
theorem laws_eqIntSS.mono:∀ a0 a1 k,LeO (laws_eqIntSS.f k a0 a1) (laws_eqIntSS.f (k+1) a0 a1):=by
 intro a0 a1 k
 have ih0:=laws_eqIntSS.mono_l k
 unfold laws_eqIntSS.f
 repeat' first
   | (with_reducible exact ih0 _ _ _)
   | (with_reducible exact laws_eqIntS.mono _ _ _)
   | (with_reducible exact LeO.refl _)
   | (with_reducible exact LeO.none _)
   | (with_reducible refine LeO.ite ?_ ?_)
   | (with_reducible refine LeO.bind ?_ (fun _=>?_))
   | exact ih0 _ _ _
   | exact laws_eqIntS.mono _ _ _
   | exact LeO.none _
   | refine LeO.ite ?_ ?_
   | refine LeO.bind ?_ (fun _=>?_)
set_option maxHeartbeats 8000000 in
set_option maxRecDepth 100000 in
theorem laws_eqIntSS.calls (k:Nat) (A0:Option Addr) (c0:Nat) (l0:List (List Int)) (A1:Option Addr) (c1:Nat) (l1:List (List Int)) (r:Bool) (w:World) (hr0:Kd.C (Kd.slice 3 (Kd.int .i64)) w A0 l0.length l0) (hc0:l0.length≤c0) (hr1:Kd.C (Kd.slice 3 (Kd.int .i64)) w A1 l1.length l1) (hc1:l1.length≤c1) (h:laws_eqIntSS.f k l0 l1=some r) :
  Calls Try.prog 19 #[.slice A0 l0.length c0,.slice A1 l1.length c1] w fun e w'=>e=.returned (.bool r)∧Drawn0 w w':=by
 have HR0:=zz31 hr0
 have HC0:=zz31 hc0
 clear hr0 hc0
 have HR1:=zz31 hr1
 have HC1:=zz31 hc1
 clear hr1 hc1
 have H:(if (l0.length:Int)=(l1.length:Int) then (laws_eqIntSS.l0 k l0 l1 0) else (some false))=some r:=h
 clear h
 by_cases c3:(l0.length:Int)=(l1.length:Int)
 ·rw [if_pos c3] at H
  have c3b0:((l0.length:Int) == (l1.length:Int))=true:=beq_iff_eq.mpr c3
  have c3b1:((l0.length:Int) != (l1.length:Int))=false:=bne_eq_false_iff_eq.mpr c3
  have c3b2:(l0.length == l1.length)=true:=by first | simpa using c3 | (simp at c3 ⊢;omega)
  clear c3
  have H':=zz31 H
  clear H
  go_enter Try.func19,Try.ntmps19
  go_wp2
  repeat (go_quiet (fail);try go_wp2)
  go_loopg [5] k (fun kq v5 w'=>∃ (x5_1:Int),v5=.int .i64 x5_1∧Aside0 (laws_eqIntSS.l0 kq l0 l1 x5_1=some r)∧Aside0 (kq≤k)∧Drawn0 w w')
  case atStart=>exact ⟨(0),(by first | rfl | (simp;done) | (simp [*];done)),H',⟨Nat.le_refl _⟩,by repeat (first | exact Drawn0.refl _ | apply Drawn0.step)⟩
  case round =>
   clear H'
   try clear c1
   try clear p2
   try clear c3
   try clear c3b0
   try clear c3b1
   try clear c3b2
   obtain ⟨x5_1,rfl,HA,HK1,⟨m1,rfl⟩⟩:=hrel
   cases gk with
   | zero=>exact absurd HA.out (by simp [laws_eqIntSS.l0])
   | succ k1 =>
    have H:=HA.out
    clear HA
    simp only [laws_eqIntSS.l0] at H
    by_cases c4:x5_1 < (l0.length:Int)
    ·rw [if_pos c4] at H
     have c4b0:decide (x5_1 < (l0.length:Int))=true:=decide_eq_true c4
     clear c4
     by_cases c5:0≤x5_1
     ·rw [if_pos c5] at H
      have c5b0:decide (0≤x5_1)=true:=decide_eq_true c5
      clear c5
      by_cases c6:x5_1 < (l1.length:Int)
      ·rw [if_pos c6] at H
       have c6b0:decide (x5_1 < (l1.length:Int))=true:=decide_eq_true c6
       clear c6
       replace H:=zz30.mp H
       obtain ⟨t283,A70,H⟩:=H
       replace H:(if t283=true then (laws_eqIntSS.l0 k1 l0 l1 (wrap64 (x5_1+1))) else (some false))=some r:=H
       have A7:=zz31 A70
       clear A70
       by_cases c8:t283=true
       ·subst c8
        have H1:(laws_eqIntSS.l0 k1 l0 l1 (wrap64 (x5_1+1)))=some r:=by rw [if_pos rfl] at H;exact H
        clear H
        have H:=H1
        clear H1
        have H':=zz31 H
        clear H
        have p281:0≤(x5_1:Int):=zz29 (by first | (with_reducible assumption) | assumption)
        have q281:x5_1 < (l0.length:Int):=zz29 (by first | (with_reducible assumption) | assumption)
        obtain ⟨ad281,A281_0,c281_0,e281,hx281_0,hl281_0,hi281_0⟩:=at_L8 HR0.out x5_1 p281 q281
        cases e281
        have HR281_0:=zz31 hi281_0
        have HC281_0:=zz31 hl281_0
        clear hi281_0 hl281_0
        replace p281:=eq_true p281
        replace q281:=eq_true q281
        have p282:0≤(x5_1:Int):=zz29 (by first | (with_reducible assumption) | assumption)
        have q282:x5_1 < (l1.length:Int):=zz29 (by first | (with_reducible assumption) | assumption)
        obtain ⟨ad282,A282_0,c282_0,e282,hx282_0,hl282_0,hi282_0⟩:=at_L8 HR1.out x5_1 p282 q282
        cases e282
        have HR282_0:=zz31 hi282_0
        have HC282_0:=zz31 hl282_0
        clear hi282_0 hl282_0
        replace p282:=eq_true p282
        replace q282:=eq_true q282
        go_wp2_with (first | (go_at_call 26;(with_reducible refine (laws_eqIntS.calls k1 _ _ (rd_L8 l0 x5_1) _ _ (rd_L8 l1 x5_1) true _ ?side1 ?side2 ?side3 ?side4 A7.out).mono ?_);(case side1=>repeat (first | exact HR281_0.out | (with_reducible refine zz18 ?_ _) | (with_reducible refine zz19 ?_ _) | (with_reducible refine zz20 ?_)));(case side2=>exact HC281_0.out);(case side3=>repeat (first | exact HR282_0.out | (with_reducible refine zz18 ?_ _) | (with_reducible refine zz19 ?_ _) | (with_reducible refine zz20 ?_)));(case side4=>exact HC282_0.out);rintro e w' ⟨rfl,⟨nd,rfl⟩⟩;(try first | exact ⟨rfl,_,World.drewN_drewN _ _ _⟩ | exact ⟨rfl,_,Eq.trans (World.drewN_drewN _ _ _) (congrArg (World.drewN _) (Nat.add_assoc _ _ _))⟩)))
        repeat (go_quiet (first | (go_at_call 26;(with_reducible refine (laws_eqIntS.calls k1 _ _ (rd_L8 l0 x5_1) _ _ (rd_L8 l1 x5_1) true _ ?side1 ?side2 ?side3 ?side4 A7.out).mono ?_);(case side1=>repeat (first | exact HR281_0.out | (with_reducible refine zz18 ?_ _) | (with_reducible refine zz19 ?_ _) | (with_reducible refine zz20 ?_)));(case side2=>exact HC281_0.out);(case side3=>repeat (first | exact HR282_0.out | (with_reducible refine zz18 ?_ _) | (with_reducible refine zz19 ?_ _) | (with_reducible refine zz20 ?_)));(case side4=>exact HC282_0.out);rintro e w' ⟨rfl,⟨nd,rfl⟩⟩;(try first | exact ⟨rfl,_,World.drewN_drewN _ _ _⟩ | exact ⟨rfl,_,Eq.trans (World.drewN_drewN _ _ _) (congrArg (World.drewN _) (Nat.add_assoc _ _ _))⟩)));try go_wp2_with (first | (go_at_call 26;(with_reducible refine (laws_eqIntS.calls k1 _ _ (rd_L8 l0 x5_1) _ _ (rd_L8 l1 x5_1) true _ ?side1 ?side2 ?side3 ?side4 A7.out).mono ?_);(case side1=>repeat (first | exact HR281_0.out | (with_reducible refine zz18 ?_ _) | (with_reducible refine zz19 ?_ _) | (with_reducible refine zz20 ?_)));(case side2=>exact HC281_0.out);(case side3=>repeat (first | exact HR282_0.out | (with_reducible refine zz18 ?_ _) | (with_reducible refine zz19 ?_ _) | (with_reducible refine zz20 ?_)));(case side4=>exact HC282_0.out);rintro e w' ⟨rfl,⟨nd,rfl⟩⟩;(try first | exact ⟨rfl,_,World.drewN_drewN _ _ _⟩ | exact ⟨rfl,_,Eq.trans (World.drewN_drewN _ _ _) (congrArg (World.drewN _) (Nat.add_assoc _ _ _))⟩))))
        go_roundg k1
        case measure=>have:=HK1.out;omega
        case rel=>exact ⟨(wrap64 (x5_1+1)),(by first | rfl | (simp;done) | (simp [*];done)),H',⟨by have:=HK1.out;omega⟩,by repeat (first | exact Drawn0.refl _ | apply Drawn0.step)⟩
       ·replace c8:=Bool.eq_false_iff.mpr c8
        subst c8
        have H1:(some false)=some r:=by rw [if_neg (show ¬ (false=true) by decide)] at H;exact H
        clear H
        have H:=H1
        clear H1
        obtain rfl:=Option.some.inj H
        have p281:0≤(x5_1:Int):=zz29 (by first | (with_reducible assumption) | assumption)
        have q281:x5_1 < (l0.length:Int):=zz29 (by first | (with_reducible assumption) | assumption)
        obtain ⟨ad281,A281_0,c281_0,e281,hx281_0,hl281_0,hi281_0⟩:=at_L8 HR0.out x5_1 p281 q281
        cases e281
        have HR281_0:=zz31 hi281_0
        have HC281_0:=zz31 hl281_0
        clear hi281_0 hl281_0
        replace p281:=eq_true p281
        replace q281:=eq_true q281
        have p282:0≤(x5_1:Int):=zz29 (by first | (with_reducible assumption) | assumption)
        have q282:x5_1 < (l1.length:Int):=zz29 (by first | (with_reducible assumption) | assumption)
        obtain ⟨ad282,A282_0,c282_0,e282,hx282_0,hl282_0,hi282_0⟩:=at_L8 HR1.out x5_1 p282 q282
        cases e282
        have HR282_0:=zz31 hi282_0
        have HC282_0:=zz31 hl282_0
        clear hi282_0 hl282_0
        replace p282:=eq_true p282
        replace q282:=eq_true q282
        go_wp2_with (first | (go_at_call 26;(with_reducible refine (laws_eqIntS.calls k1 _ _ (rd_L8 l0 x5_1) _ _ (rd_L8 l1 x5_1) false _ ?side1 ?side2 ?side3 ?side4 A7.out).mono ?_);(case side1=>repeat (first | exact HR281_0.out | (with_reducible refine zz18 ?_ _) | (with_reducible refine zz19 ?_ _) | (with_reducible refine zz20 ?_)));(case side2=>exact HC281_0.out);(case side3=>repeat (first | exact HR282_0.out | (with_reducible refine zz18 ?_ _) | (with_reducible refine zz19 ?_ _) | (with_reducible refine zz20 ?_)));(case side4=>exact HC282_0.out);rintro e w' ⟨rfl,⟨nd,rfl⟩⟩;(try first | exact ⟨rfl,_,World.drewN_drewN _ _ _⟩ | exact ⟨rfl,_,Eq.trans (World.drewN_drewN _ _ _) (congrArg (World.drewN _) (Nat.add_assoc _ _ _))⟩)))
        repeat (go_quiet (first | (go_at_call 26;(with_reducible refine (laws_eqIntS.calls k1 _ _ (rd_L8 l0 x5_1) _ _ (rd_L8 l1 x5_1) false _ ?side1 ?side2 ?side3 ?side4 A7.out).mono ?_);(case side1=>repeat (first | exact HR281_0.out | (with_reducible refine zz18 ?_ _) | (with_reducible refine zz19 ?_ _) | (with_reducible refine zz20 ?_)));(case side2=>exact HC281_0.out);(case side3=>repeat (first | exact HR282_0.out | (with_reducible refine zz18 ?_ _) | (with_reducible refine zz19 ?_ _) | (with_reducible refine zz20 ?_)));(case side4=>exact HC282_0.out);rintro e w' ⟨rfl,⟨nd,rfl⟩⟩;(try first | exact ⟨rfl,_,World.drewN_drewN _ _ _⟩ | exact ⟨rfl,_,Eq.trans (World.drewN_drewN _ _ _) (congrArg (World.drewN _) (Nat.add_assoc _ _ _))⟩)));try go_wp2_with (first | (go_at_call 26;(with_reducible refine (laws_eqIntS.calls k1 _ _ (rd_L8 l0 x5_1) _ _ (rd_L8 l1 x5_1) false _ ?side1 ?side2 ?side3 ?side4 A7.out).mono ?_);(case side1=>repeat (first | exact HR281_0.out | (with_reducible refine zz18 ?_ _) | (with_reducible refine zz19 ?_ _) | (with_reducible refine zz20 ?_)));(case side2=>exact HC281_0.out);(case side3=>repeat (first | exact HR282_0.out | (with_reducible refine zz18 ?_ _) | (with_reducible refine zz19 ?_ _) | (with_reducible refine zz20 ?_)));(case side4=>exact HC282_0.out);rintro e w' ⟨rfl,⟨nd,rfl⟩⟩;(try first | exact ⟨rfl,_,World.drewN_drewN _ _ _⟩ | exact ⟨rfl,_,Eq.trans (World.drewN_drewN _ _ _) (congrArg (World.drewN _) (Nat.add_assoc _ _ _))⟩))))
        go_ret
        exact ⟨by first | rfl | (simp;done) | (simp [*];done),by repeat (first | exact Drawn0.refl _ | apply Drawn0.step)⟩
      ·rw [if_neg c6] at H
       exact absurd H (by simp)
     ·rw [if_neg c5] at H
      exact absurd H (by simp)
    ·rw [if_neg c4] at H
     have c4b0:decide (x5_1 < (l0.length:Int))=false:=decide_eq_false c4
     clear c4
     obtain rfl:=Option.some.inj H
     go_wp2
     repeat (go_quiet (fail);try go_wp2)
     go_ret
     exact ⟨by first | rfl | (simp;done) | (simp [*];done),by repeat (first | exact Drawn0.refl _ | apply Drawn0.step)⟩
 ·rw [if_neg c3] at H
  have c3b0:((l0.length:Int) == (l1.length:Int))=false:=beq_eq_false_iff_ne.mpr c3
  have c3b1:((l0.length:Int) != (l1.length:Int))=true:=bne_iff_ne.mpr c3
  have c3b2:(l0.length == l1.length)=false:=by first | simpa using c3 | (simp at c3 ⊢;omega)
  obtain rfl:=Option.some.inj H
  go_enter Try.func19,Try.ntmps19
  go_wp2
  repeat (go_quiet (fail);try go_wp2)
  go_ret
  exact ⟨by first | rfl | (simp;done) | (simp [*];done),by repeat (first | exact Drawn0.refl _ | apply Drawn0.step)⟩

/-! ### laws_markIntSS: function 21 (a contract of our own) -/
def laws_markIntSS.go (k:Nat):List (List Int)→Int→Option (Int × List (List Int))
 | [],a=>some (a,[])
 | x :: xs,a=>(laws_markIntS.f k x a).bind fun p=>(laws_markIntSS.go k xs p.1).bind fun q=>some (q.1,p.2 :: q.2)
def laws_markIntSS.f (k:Nat) (l0:List (List Int)) (a1:Int):Option (Int × List (List Int)):=if l0.length≤1000000000 then laws_markIntSS.go k l0 a1 else none
theorem laws_markIntSS.mono_go:∀ (l0:List (List Int)) (a:Int) (k:Nat),LeO (laws_markIntSS.go k l0 a) (laws_markIntSS.go (k+1) l0 a)
 | [],a,k=>LeO.refl _
 | x :: xs,a,k=>LeO.bind (laws_markIntS.mono _ _ _) fun p=>LeO.bind (laws_markIntSS.mono_go xs p.1 k) fun q=>LeO.refl _
theorem laws_markIntSS.mono:∀ a0 a1 k,LeO (laws_markIntSS.f k a0 a1) (laws_markIntSS.f (k+1) a0 a1):=by
 intro a0 a1 k
 unfold laws_markIntSS.f
 exact LeO.ite (laws_markIntSS.mono_go _ _ _) (LeO.none _)
theorem grown_of_kept {w0 w w':World} {base:Nat} {row:Option Nat} (h1:Below base w0 w) (h2:Below base w0 w') (hk:Kept w w' (fun k=>some k=row)):w.grownBy w' row :=
 ⟨h2.os.trans h1.os.symm,h2.tape.trans h1.tape.symm,h2.output.trans h1.output.symm,hk.1,fun k hk1 hk2=>hk.2 k hk1 hk2⟩
set_option maxHeartbeats 1000000 in
theorem laws_markIntSS.calls (k:Nat) (P0_:Nat→Prop) (u9000_:Value) (l0:List (List Int)) (a1:Int) (r1:Int) (r2:List (List Int)) (w0 w:World) (hB:Below w0.heap.size w0 w) (ho0:Kd.S (Kd.slice 3 (Kd.int .i64)) 40 w w0.heap.size P0_ u9000_ l0) (h:laws_markIntSS.f k l0 a1=some (r1,r2)) :
  Calls Try.prog 21 #[u9000_,.int .i64 a1] w fun e w'=>e=.returned (.int .i64 r1)∧Kd.S (Kd.slice 3 (Kd.int .i64)) 40 w' w0.heap.size (fun k_=>(P0_ k_ ∨ w.heap.size≤k_)) u9000_ r2∧Below w0.heap.size w0 w'∧Kept w w' (fun k_=>P0_ k_):=by
 unfold laws_markIntSS.f at h
 by_cases hl:l0.length≤1000000000
 case neg=>rw [if_neg hl] at h;exact absurd h (by simp)
 rw [if_pos hl] at h
 obtain ⟨A,c,rfl⟩:=Kd.S_slice ho0
 have HO:=zz31 (Kd.S_mono ho0 (fun k_ hk=>(.inl hk:P0_ k_ ∨ w.heap.size≤k_)))
 have HB:=zz31 hB
 have HH:=zz31 h
 clear ho0 hB h
 go_enter Try.func21,Try.ntmps21
 go_wp2
 go_loopg [1,5] l0.length (fun gg v1 v5 wr=>∃ (i:Nat) (L:List (List Int)) (a:Int) (rest:List (List Int)),i≤l0.length∧l0.length - i≤gg∧L.length=l0.length∧v5=.int .i64 i∧v1=.int .i64 a∧Aside0 (laws_markIntSS.go k (L.drop i) a=some (r1,rest))∧Aside0 (r2=L.take i ++ rest)∧Aside0 (Kd.S (Kd.slice 3 (Kd.int .i64)) 40 wr w0.heap.size (fun k_=>(P0_ k_ ∨ w.heap.size≤k_)) (.slice A l0.length c) L)∧Aside0 (Below w0.heap.size w0 wr)∧Aside0 (Kept w wr (fun k_=>P0_ k_)))
 case atStart=>exact ⟨0,l0,a1,r2,by omega,by omega,rfl,by rfl,by rfl,HH,⟨by simp⟩,HO,HB,⟨Kept.refl w _⟩⟩
 case round =>
  obtain ⟨i,L,a,rest,hi,hgg,hLl,rfl,rfl,HG,HR2,HS,HBr,HK⟩:=hrel
  by_cases hlt:i < l0.length
  ·have hltz:(i:Int) < (l0.length:Int):=by omega
   have hdrop:L.drop i=L[i] :: L.drop (i+1):=List.drop_eq_getElem_cons (by omega)
   have hg:=HG.out
   rw [hdrop,laws_markIntSS.go] at hg
   obtain ⟨⟨p1,p2⟩,hp,hg⟩:=zz30.1 hg
   obtain ⟨⟨q1,q2⟩,hq,hg⟩:=zz30.1 hg
   simp only [Option.some.injEq,Prod.mk.injEq] at hg
   obtain ⟨e1,e2⟩:=hg
   subst e1 e2
   have hS:=HS.out
   have hAp:∃ ad,A=some ad:=by
    obtain ⟨g,cap,he,_⟩:=Kd.S_form hS (by omega)
    injection he with he1 _ _
    exact ⟨_,he1⟩
   obtain ⟨ad,rfl⟩:=hAp
   obtain ⟨oki,cc,hcl,hM,hcc,hoki,hback⟩:=Kd.S_borrow hS [] (i:Int) (by omega) (by omega)
   obtain ⟨v,rfl,hR⟩:=hM
   have hcell:=hcc 0 v rfl
   have hget:L.getD (i:Int).toNat []=L[i]:=by rw [Int.toNat_natCast,List.getD_eq_getElem?_getD,List.getElem?_eq_getElem (by omega)];rfl
   rw [hget] at hR
   have hsz:((i:Int).toNat * (Kd.slice 3 (Kd.int .i64)).sz+0)=i:=by rw [Int.toNat_natCast];show i * 1+0=i;omega
   rw [hsz] at hcell
   have hin:∀ k,v.ownBlock=some k→P0_ k ∨ w.heap.size≤k:=fun k hk=>(hoki k (hR.1 k hk)).1
   have hkw:=HK.out
   have hP:=zz31 ((laws_markIntS.calls k (fun k=>some k=v.ownBlock) v L[i] a p1 p2 w0 wr HBr.out (Kd.R_tight rfl hR) hp).mono (R':=fun e w'=>e=.returned (.int .i64 p1)∧Aside0 (Kd.S (Kd.slice 3 (Kd.int .i64)) 40 w' w0.heap.size (fun k_=>(P0_ k_ ∨ w.heap.size≤k_)) (.slice (some ad) l0.length c) (L.set i p2))∧Aside0 (Below w0.heap.size w0 w')∧Aside0 (Kept w w' (fun k_=>P0_ k_))) fun e w' ⟨h1,h2,h3,h4⟩=>by
    have hk4:Kept wr w' (fun k=>some k=v.ownBlock):=h4
    have hb:=hback (grown_of_kept HBr.out h3 hk4) (fun k hk=>hR.1 k hk) ⟨v,rfl,Kd.R_mono (Kd.R_tight rfl h2) (fun k hk=>hR.1 k hk.symm)⟩
    rw [Int.toNat_natCast] at hb
    refine ⟨h1,⟨hb⟩,⟨h3⟩,⟨Nat.le_trans hkw.1 hk4.1,fun j hj hn=>?_⟩⟩
    rw [hk4.2 j (Nat.lt_of_lt_of_le hj hkw.1) (fun he=>(hin j he.symm).elim hn (fun h=>by omega)),hkw.2 j hj hn])
   have HQ:=zz31 hq
   have HI:=zz31 (show L.take i ++ p2 :: q2=(L.set i p2).take (i+1) ++ q2 from by
    rw [List.take_succ_eq_append_getElem (by rw [List.length_set];omega),List.getElem_set_self,List.take_set_of_le (Nat.le_refl _),List.append_assoc,List.singleton_append])
   have HD:=zz31 (show (L.set i p2).drop (i+1)=L.drop (i+1) from List.drop_set_of_lt (by omega))
   have HLs:=zz31 (show (L.set i p2).length=l0.length from by rw [List.length_set];exact hLl)
   clear hq hp hg hback hR hcc hoki hin hkw hS hget HS HBr HK HG
   go_wp2_with (go_at_call 40;refine hP.out.mono ?_;rintro e w' ⟨rfl,hS2,hB2,hK2⟩)
   go_roundg (l0.length - (i+1))
   case measure=>omega
   case rel=>exact ⟨i+1,L.set i p2,p1,q2,by omega,by omega,HLs.out,by go_num,by rfl,⟨by rw [HD.out];exact HQ.out⟩,⟨by rw [HR2.out,HI.out]⟩,hS2,hB2,hK2⟩
  ·have hltz:¬ (i:Int) < (l0.length:Int):=by omega
   obtain rfl:i=l0.length:=by omega
   go_wp2
   go_ret
   have hg:=HG.out
   rw [List.drop_of_length_le (by omega),laws_markIntSS.go] at hg
   simp only [Option.some.injEq,Prod.mk.injEq] at hg
   obtain ⟨e1,e2⟩:=hg
   subst e1 e2
   refine ⟨rfl,?_,HBr.out,HK.out⟩
   rw [HR2.out,List.append_nil,List.take_of_length_le (by omega)]
   exact HS.out

/-! ### laws_heldIntS: function 55 -/
def laws_heldIntS.l0:Nat→List Int→Int→Int→Option (Int)
 | 0,_,_,_=>none
 | k+1,x0,x1,x5=>if x5 < (x0.length:Int) then (if 0≤x5 then (if (rd x0 x5)=x1 then (laws_heldIntS.l0 k x0 (wrap64 (x1+1)) (wrap64 (x5+1))) else (some (-1))) else (none)) else (some x1)
def laws_heldIntS.f (k:Nat) (l0:List Int) (a1:Int):Option (Int):=laws_heldIntS.l0 k l0 a1 0
theorem laws_heldIntS.mono_l:∀ k,(∀ y0 y1 y2,LeO (laws_heldIntS.l0 k y0 y1 y2) (laws_heldIntS.l0 (k+1) y0 y1 y2))
 | 0=>fun _ _ _ r h=>by simp [laws_heldIntS.l0] at h
 | k+1=>by
  have ih0:=laws_heldIntS.mono_l k
  ·intro y0 y1 y2
   unfold laws_heldIntS.l0
   repeat' first
   | (with_reducible exact ih0 _ _ _)
   | (with_reducible exact LeO.refl _)
   | (with_reducible exact LeO.none _)
   | (with_reducible refine LeO.ite ?_ ?_)
   | (with_reducible refine LeO.bind ?_ (fun _=>?_))
   | exact ih0 _ _ _
   | exact LeO.none _
   | refine LeO.ite ?_ ?_
   | refine LeO.bind ?_ (fun _=>?_)
theorem laws_heldIntS.mono:∀ a0 a1 k,LeO (laws_heldIntS.f k a0 a1) (laws_heldIntS.f (k+1) a0 a1):=by
 intro a0 a1 k
 have ih0:=laws_heldIntS.mono_l k
 unfold laws_heldIntS.f
 repeat' first
   | (with_reducible exact ih0 _ _ _)
   | (with_reducible exact LeO.refl _)
   | (with_reducible exact LeO.none _)
   | (with_reducible refine LeO.ite ?_ ?_)
   | (with_reducible refine LeO.bind ?_ (fun _=>?_))
   | exact ih0 _ _ _
   | exact LeO.none _
   | refine LeO.ite ?_ ?_
   | refine LeO.bind ?_ (fun _=>?_)
set_option maxHeartbeats 8000000 in
set_option maxRecDepth 100000 in
theorem laws_heldIntS.calls (k:Nat) (A0:Option Addr) (c0:Nat) (l0:List Int) (a1:Int) (r:Int) (w:World) (hr0:Kd.C (Kd.int .i64) w A0 l0.length l0) (hc0:l0.length≤c0) (h:laws_heldIntS.f k l0 a1=some r) :
  Calls Try.prog 55 #[.slice A0 l0.length c0,.int .i64 a1] w fun e w'=>e=.returned (.int .i64 r)∧Drawn0 w w':=by
 have HR0:=zz31 hr0
 have HC0:=zz31 hc0
 clear hr0 hc0
 have H:(laws_heldIntS.l0 k l0 a1 0)=some r:=h
 clear h
 have H':=zz31 H
 clear H
 go_enter Try.func55,Try.ntmps55
 go_wp2
 go_loopg [1,5] k (fun kq v1 v5 w'=>∃ (x1_1:Int) (x5_1:Int),v1=.int .i64 x1_1∧v5=.int .i64 x5_1∧Aside0 (laws_heldIntS.l0 kq l0 x1_1 x5_1=some r)∧Aside0 (kq≤k)∧Drawn0 w w')
 case atStart=>exact ⟨(a1),(0),(by first | rfl | (simp;done) | (simp [*];done)),(by first | rfl | (simp;done) | (simp [*];done)),H',⟨Nat.le_refl _⟩,by repeat (first | exact Drawn0.refl _ | apply Drawn0.step)⟩
 case round =>
  clear H'
  try clear p2
  obtain ⟨x1_1,x5_1,rfl,rfl,HA,HK1,⟨m1,rfl⟩⟩:=hrel
  cases gk with
  | zero=>exact absurd HA.out (by simp [laws_heldIntS.l0])
  | succ k1 =>
   have H:=HA.out
   clear HA
   simp only [laws_heldIntS.l0] at H
   by_cases c3:x5_1 < (l0.length:Int)
   ·rw [if_pos c3] at H
    have c3b0:decide (x5_1 < (l0.length:Int))=true:=decide_eq_true c3
    clear c3
    by_cases c4:0≤x5_1
    ·rw [if_pos c4] at H
     have c4b0:decide (0≤x5_1)=true:=decide_eq_true c4
     clear c4
     by_cases c5:(rd l0 x5_1)=x1_1
     ·rw [if_pos c5] at H
      have c5b0:((rd l0 x5_1) == x1_1)=true:=beq_iff_eq.mpr c5
      have c5b1:((rd l0 x5_1) != x1_1)=false:=bne_eq_false_iff_eq.mpr c5
      clear c5
      have H':=zz31 H
      clear H
      have p290:0≤(x5_1:Int):=zz29 (by first | (with_reducible assumption) | assumption)
      have q290:x5_1 < (l0.length:Int):=zz29 (by first | (with_reducible assumption) | assumption)
      obtain ⟨ad290,e290,hx290_0⟩:=Kd.at_int HR0.out x5_1 p290 q290
      cases e290
      replace p290:=eq_true p290
      replace q290:=eq_true q290
      go_wp2
      go_roundg k1
      case measure=>have:=HK1.out;omega
      case rel=>exact ⟨(wrap64 (x1_1+1)),(wrap64 (x5_1+1)),(by first | rfl | (simp;done) | (simp [*];done)),(by first | rfl | (simp;done) | (simp [*];done)),H',⟨by have:=HK1.out;omega⟩,by repeat (first | exact Drawn0.refl _ | apply Drawn0.step)⟩
     ·rw [if_neg c5] at H
      have c5b0:((rd l0 x5_1) == x1_1)=false:=beq_eq_false_iff_ne.mpr c5
      have c5b1:((rd l0 x5_1) != x1_1)=true:=bne_iff_ne.mpr c5
      obtain rfl:=Option.some.inj H
      have p290:0≤(x5_1:Int):=zz29 (by first | (with_reducible assumption) | assumption)
      have q290:x5_1 < (l0.length:Int):=zz29 (by first | (with_reducible assumption) | assumption)
      obtain ⟨ad290,e290,hx290_0⟩:=Kd.at_int HR0.out x5_1 p290 q290
      cases e290
      replace p290:=eq_true p290
      replace q290:=eq_true q290
      go_wp2
      go_ret
      exact ⟨by first | rfl | (simp;done) | (simp [*];done),by repeat (first | exact Drawn0.refl _ | apply Drawn0.step)⟩
    ·rw [if_neg c4] at H
     exact absurd H (by simp)
   ·rw [if_neg c3] at H
    have c3b0:decide (x5_1 < (l0.length:Int))=false:=decide_eq_false c3
    clear c3
    obtain rfl:=Option.some.inj H
    go_wp2
    go_ret
    exact ⟨by first | rfl | (simp;done) | (simp [*];done),by repeat (first | exact Drawn0.refl _ | apply Drawn0.step)⟩

/-! ### laws_heldIntSS: function 22 -/
def laws_heldIntSS.l0:Nat→List (List Int)→Int→Int→Option (Int)
 | 0,_,_,_=>none
 | k+1,x0,x1,x5=>if x5 < (x0.length:Int) then (if 0≤x5 then ((laws_heldIntS.f k (rd_L8 x0 x5) x1).bind fun t292=>(if t292 < 0 then (some (-1)) else (laws_heldIntSS.l0 k x0 t292 (wrap64 (x5+1))))) else (none)) else (some x1)
def laws_heldIntSS.f (k:Nat) (l0:List (List Int)) (a1:Int):Option (Int):=laws_heldIntSS.l0 k l0 a1 0
theorem laws_heldIntSS.mono_l:∀ k,(∀ y0 y1 y2,LeO (laws_heldIntSS.l0 k y0 y1 y2) (laws_heldIntSS.l0 (k+1) y0 y1 y2))
 | 0=>fun _ _ _ r h=>by simp [laws_heldIntSS.l0] at h
 | k+1=>by
  have ih0:=laws_heldIntSS.mono_l k
  ·intro y0 y1 y2
   unfold laws_heldIntSS.l0
   repeat' first
   | (with_reducible exact ih0 _ _ _)
   | (with_reducible exact laws_heldIntS.mono _ _ _)
   | (with_reducible exact LeO.refl _)
   | (with_reducible exact LeO.none _)
   | (with_reducible refine LeO.ite ?_ ?_)
   | (with_reducible refine LeO.bind ?_ (fun _=>?_))
   | exact ih0 _ _ _
   | exact laws_heldIntS.mono _ _ _
   | exact LeO.none _
   | refine LeO.ite ?_ ?_
   | refine LeO.bind ?_ (fun _=>?_)
theorem laws_heldIntSS.mono:∀ a0 a1 k,LeO (laws_heldIntSS.f k a0 a1) (laws_heldIntSS.f (k+1) a0 a1):=by
 intro a0 a1 k
 have ih0:=laws_heldIntSS.mono_l k
 unfold laws_heldIntSS.f
 repeat' first
   | (with_reducible exact ih0 _ _ _)
   | (with_reducible exact laws_heldIntS.mono _ _ _)
   | (with_reducible exact LeO.refl _)
   | (with_reducible exact LeO.none _)
   | (with_reducible refine LeO.ite ?_ ?_)
   | (with_reducible refine LeO.bind ?_ (fun _=>?_))
   | exact ih0 _ _ _
   | exact laws_heldIntS.mono _ _ _
   | exact LeO.none _
   | refine LeO.ite ?_ ?_
   | refine LeO.bind ?_ (fun _=>?_)
set_option maxHeartbeats 8000000 in
set_option maxRecDepth 100000 in
theorem laws_heldIntSS.calls (k:Nat) (A0:Option Addr) (c0:Nat) (l0:List (List Int)) (a1:Int) (r:Int) (w:World) (hr0:Kd.C (Kd.slice 3 (Kd.int .i64)) w A0 l0.length l0) (hc0:l0.length≤c0) (h:laws_heldIntSS.f k l0 a1=some r) :
  Calls Try.prog 22 #[.slice A0 l0.length c0,.int .i64 a1] w fun e w'=>e=.returned (.int .i64 r)∧Drawn0 w w':=by
 have HR0:=zz31 hr0
 have HC0:=zz31 hc0
 clear hr0 hc0
 have H:(laws_heldIntSS.l0 k l0 a1 0)=some r:=h
 clear h
 have H':=zz31 H
 clear H
 go_enter Try.func22,Try.ntmps22
 go_wp2
 go_loopg [1,5] k (fun kq v1 v5 w'=>∃ (x1_1:Int) (x5_1:Int),v1=.int .i64 x1_1∧v5=.int .i64 x5_1∧Aside0 (laws_heldIntSS.l0 kq l0 x1_1 x5_1=some r)∧Aside0 (kq≤k)∧Drawn0 w w')
 case atStart=>exact ⟨(a1),(0),(by first | rfl | (simp;done) | (simp [*];done)),(by first | rfl | (simp;done) | (simp [*];done)),H',⟨Nat.le_refl _⟩,by repeat (first | exact Drawn0.refl _ | apply Drawn0.step)⟩
 case round =>
  clear H'
  try clear c2
  try clear p2
  obtain ⟨x1_1,x5_1,rfl,rfl,HA,HK1,⟨m1,rfl⟩⟩:=hrel
  cases gk with
  | zero=>exact absurd HA.out (by simp [laws_heldIntSS.l0])
  | succ k1 =>
   have H:=HA.out
   clear HA
   simp only [laws_heldIntSS.l0] at H
   by_cases c3:x5_1 < (l0.length:Int)
   ·rw [if_pos c3] at H
    have c3b0:decide (x5_1 < (l0.length:Int))=true:=decide_eq_true c3
    clear c3
    by_cases c4:0≤x5_1
    ·rw [if_pos c4] at H
     have c4b0:decide (0≤x5_1)=true:=decide_eq_true c4
     clear c4
     replace H:=zz30.mp H
     obtain ⟨t292,A50,H⟩:=H
     replace H:(if t292 < 0 then (some (-1)) else (laws_heldIntSS.l0 k1 l0 t292 (wrap64 (x5_1+1))))=some r:=H
     have A5:=zz31 A50
     clear A50
     by_cases c6:t292 < 0
     ·rw [if_pos c6] at H
      have c6b0:decide (t292 < 0)=true:=decide_eq_true c6
      clear c6
      obtain rfl:=Option.some.inj H
      have p291:0≤(x5_1:Int):=zz29 (by first | (with_reducible assumption) | assumption)
      have q291:x5_1 < (l0.length:Int):=zz29 (by first | (with_reducible assumption) | assumption)
      obtain ⟨ad291,A291_0,c291_0,e291,hx291_0,hl291_0,hi291_0⟩:=at_L8 HR0.out x5_1 p291 q291
      cases e291
      have HR291_0:=zz31 hi291_0
      have HC291_0:=zz31 hl291_0
      clear hi291_0 hl291_0
      replace p291:=eq_true p291
      replace q291:=eq_true q291
      go_wp2_with (first | ((with_reducible refine gate_callee (f:=55) rfl ?_);refine goesL_ (some 17) rfl rfl Try.func55 (by kernel_rfl) rfl #[.slice A291_0 (rd_L8 l0 x5_1).length c291_0,.int .i64 x1_1] rfl (by (try simp only [zz26,zz27,zz28]);first | done | rfl | (simp only [zz24,zz25];rfl)) ?_;(with_reducible refine (laws_heldIntS.calls k1 _ _ (rd_L8 l0 x5_1) x1_1 t292 _ ?side1 ?side2 A5.out).mono ?_);(case side1=>repeat (first | exact HR291_0.out | (with_reducible refine zz18 ?_ _) | (with_reducible refine zz19 ?_ _) | (with_reducible refine zz20 ?_)));(case side2=>exact HC291_0.out);rintro e w' ⟨rfl,⟨nd,rfl⟩⟩;refine ⟨_,rfl,?_⟩))
      go_ret
      exact ⟨by first | rfl | (simp;done) | (simp [*];done),by repeat (first | exact Drawn0.refl _ | apply Drawn0.step)⟩
     ·rw [if_neg c6] at H
      have c6b0:decide (t292 < 0)=false:=decide_eq_false c6
      clear c6
      have H':=zz31 H
      clear H
      have p291:0≤(x5_1:Int):=zz29 (by first | (with_reducible assumption) | assumption)
      have q291:x5_1 < (l0.length:Int):=zz29 (by first | (with_reducible assumption) | assumption)
      obtain ⟨ad291,A291_0,c291_0,e291,hx291_0,hl291_0,hi291_0⟩:=at_L8 HR0.out x5_1 p291 q291
      cases e291
      have HR291_0:=zz31 hi291_0
      have HC291_0:=zz31 hl291_0
      clear hi291_0 hl291_0
      replace p291:=eq_true p291
      replace q291:=eq_true q291
      go_wp2_with (first | ((with_reducible refine gate_callee (f:=55) rfl ?_);refine goesL_ (some 17) rfl rfl Try.func55 (by kernel_rfl) rfl #[.slice A291_0 (rd_L8 l0 x5_1).length c291_0,.int .i64 x1_1] rfl (by (try simp only [zz26,zz27,zz28]);first | done | rfl | (simp only [zz24,zz25];rfl)) ?_;(with_reducible refine (laws_heldIntS.calls k1 _ _ (rd_L8 l0 x5_1) x1_1 t292 _ ?side1 ?side2 A5.out).mono ?_);(case side1=>repeat (first | exact HR291_0.out | (with_reducible refine zz18 ?_ _) | (with_reducible refine zz19 ?_ _) | (with_reducible refine zz20 ?_)));(case side2=>exact HC291_0.out);rintro e w' ⟨rfl,⟨nd,rfl⟩⟩;refine ⟨_,rfl,?_⟩))
      go_roundg k1
      case measure=>have:=HK1.out;omega
      case rel=>exact ⟨(t292),(wrap64 (x5_1+1)),(by first | rfl | (simp;done) | (simp [*];done)),(by first | rfl | (simp;done) | (simp [*];done)),H',⟨by have:=HK1.out;omega⟩,by repeat (first | exact Drawn0.refl _ | apply Drawn0.step)⟩
    ·rw [if_neg c4] at H
     exact absurd H (by simp)
   ·rw [if_neg c3] at H
    have c3b0:decide (x5_1 < (l0.length:Int))=false:=decide_eq_false c3
    clear c3
    obtain rfl:=Option.some.inj H
    go_wp2
    go_ret
    exact ⟨by first | rfl | (simp;done) | (simp [*];done),by repeat (first | exact Drawn0.refl _ | apply Drawn0.step)⟩

/-! ### laws_FnExactFriendThrees: function 4 (a contract of our own) -/
def laws_FnExactFriendThrees.f (k:Nat) (a0_0:Int) (l0_1:List (S94)):Option Bool :=
 (laws_szParty.f a0_0 l0_1 1048576).bind fun s=>if s < 0 then some true else
 (laws_toParty.f k a0_0 l0_1).bind fun p=>(spec_FriendThrees.f k p.1 p.2).bind fun W=>(impl_FriendThrees.f k p.1 p.2).bind fun G=>(laws_eqIntSS.f k G.1 W.1).bind fun e1=>(laws_eqParty.f k p.1 p.2 p.1 p.2).bind fun e2=>(laws_markParty.f k p.1 p.2 1).bind fun mp=>(laws_markIntSS.f k G.1 1).bind fun m=>(laws_heldIntSS.f k m.2 1).bind fun q =>
 if (e1=true∧G.2=W.2∧e2=true)∧0≤mp.1∧0≤q∧q=m.1 then some true else none
theorem laws_FnExactFriendThrees.mono:∀ a0 a1 k,LeO (laws_FnExactFriendThrees.f k a0 a1) (laws_FnExactFriendThrees.f (k+1) a0 a1):=by
 intro a0 a1 k
 unfold laws_FnExactFriendThrees.f
 exact LeO.bind (LeO.refl _) fun s=>LeO.ite (LeO.refl _) (LeO.bind (laws_toParty.mono _ _ _) fun p=>LeO.bind (spec_FriendThrees.mono _ _ _) fun W=>LeO.bind (impl_FriendThrees.mono _ _ _) fun G=>LeO.bind (laws_eqIntSS.mono _ _ _) fun e1=>LeO.bind (laws_eqParty.mono _ _ _ _ _) fun e2=>LeO.bind (laws_markParty.mono _ _ _ _) fun mp=>LeO.bind (laws_markIntSS.mono _ _ _) fun m=>LeO.bind (laws_heldIntSS.mono _ _ _) fun q=>LeO.refl _)
set_option maxHeartbeats 2000000 in
set_option maxRecDepth 100000 in
theorem laws_FnExactFriendThrees.calls (k:Nat) (a0_0:Int) (A0_1:Option Addr) (c0_1:Nat) (l0_1:List (S94)) (r:Bool) (w:World) (hr0_1:Kd.C k94 w A0_1 l0_1.length l0_1) (hc0_1:l0_1.length≤c0_1) (h:laws_FnExactFriendThrees.f k a0_0 l0_1=some r) :
  Calls Try.prog 4 #[.agg #[.int .i64 a0_0,.slice A0_1 l0_1.length c0_1]] w fun e w'=>e=.returned (.bool r)∧Below w.heap.size w w':=by
 have hu:=Try.underlying24
 have hu2:=Try.underlying30
 unfold laws_FnExactFriendThrees.f at h
 obtain ⟨s,hs,h⟩:=zz30.1 h
 have HSZ:=zz31 hs
 have HCC:=zz31 hc0_1
 have HC:=zz31 hr0_1
 clear hs hc0_1 hr0_1
 by_cases hneg:s < 0
 ·rw [if_pos hneg] at h
  injection h with h
  subst h
  have hd:decide (s < 0)=true:=decide_eq_true hneg
  go_enter Try.func4,Try.ntmps4
  go_wp2_with (first | ((with_reducible refine gate_dst (N := 1) rfl ?_); refine box_event ?hg (N := 1) ?hd (cs := #[.int .i64 a0_0, .slice A0_1 l0_1.length c0_1]) (t := 24) ?hr ?_; (case hd => rfl); (case hg => rfl); (case hr => first | (go_simp; done) | (go_simp; rfl)); intro gb hg wa hbox hb; have HXa := zz31 hbox; have HBa := zz31 (zz4 (w := w) (by repeat (first | exact Below.refl _ _ | apply zz0 | apply below_drew | apply zz2)) hb); have HCa := zz31 (Kd.C_below HC.out HBa.out); have f1 := zz9 HXa.out 0; have f2 := zz9 HXa.out 1; simp only [List.getElem?_toArray, List.getElem?_cons_zero, List.getElem?_cons_succ] at f1 f2; clear hbox hb hg) | (go_at_call 12; (with_reducible refine (laws_szParty.calls a0_0 A0_1 c0_1 l0_1 1048576 s wa HCa.out HCC.out HSZ.out).mono ?_); rintro e wb ⟨rfl, hb⟩; have HXb := zz31 (zz11 HXa.out hb); have HBb := zz31 (zz4 HBa.out hb); have HCb := zz31 (Kd.C_below HCa.out hb); clear f1 f2; have f1 := zz9 HXb.out 0; have f2 := zz9 HXb.out 1; simp only [List.getElem?_toArray, List.getElem?_cons_zero, List.getElem?_cons_succ] at f1 f2; clear hb) | (fail "no arm"))
  refine bodyPost_ret (results_tmp rfl _ _ _) rfl ?_
  exact ⟨rfl,by repeat first | exact HBb.out | apply zz0 | apply below_drew⟩
 ·rw [if_neg hneg] at h
  obtain ⟨⟨p1,p2⟩,hp,h⟩:=zz30.1 h
  obtain ⟨⟨W1,W2⟩,hw,h⟩:=zz30.1 h
  obtain ⟨⟨G1,G2⟩,hg,h⟩:=zz30.1 h
  obtain ⟨e1,he1,h⟩:=zz30.1 h
  obtain ⟨e2,he2,h⟩:=zz30.1 h
  obtain ⟨⟨m1,m2⟩,hmp,h⟩:=zz30.1 h
  obtain ⟨⟨n1,n2⟩,hm,h⟩:=zz30.1 h
  obtain ⟨q,hq,h⟩:=zz30.1 h
  dsimp only at hw hg he1 he2 hmp hm hq h
  by_cases hc:(e1=true∧G2=W2∧e2=true)∧0≤m1∧0≤q∧q=n1
  case neg=>rw [if_neg hc] at h;exact absurd h (by simp)
  rw [if_pos hc] at h
  injection h with h
  subst h
  obtain ⟨⟨rfl,rfl,rfl⟩,hm0,hn0,rfl⟩:=hc
  have HP:=zz31 hp
  have HW:=zz31 hw
  have HG:=zz31 hg
  have HE1:=zz31 he1
  have HE2:=zz31 he2
  have HMP:=zz31 hmp
  have HM:=zz31 hm
  have HQ:=zz31 hq
  have hd:decide (s < 0)=false:=decide_eq_false hneg
  have hd1:decide (m1 < 0)=false:=decide_eq_false (by omega)
  have hd2:decide (q < 0)=false:=decide_eq_false (by omega)
  clear hp hw hg he1 he2 hmp hm hq hneg hm0 hn0
  go_enter Try.func4,Try.ntmps4
  go_upto_region 7 with (first | ((with_reducible refine gate_dst (N := 1) rfl ?_); refine box_event ?hg (N := 1) ?hd (cs := #[.int .i64 a0_0, .slice A0_1 l0_1.length c0_1]) (t := 24) ?hr ?_; (case hd => rfl); (case hg => rfl); (case hr => first | (go_simp; done) | (go_simp; rfl)); intro gb hg wa hbox hb; have HXa := zz31 hbox; have HBa := zz31 (zz4 (w := w) (by repeat (first | exact Below.refl _ _ | apply zz0 | apply below_drew | apply zz2)) hb); have HCa := zz31 (Kd.C_below HC.out HBa.out); have f1 := zz9 HXa.out 0; have f2 := zz9 HXa.out 1; simp only [List.getElem?_toArray, List.getElem?_cons_zero, List.getElem?_cons_succ] at f1 f2; clear hbox hb hg) | (go_at_call 12; (with_reducible refine (laws_szParty.calls a0_0 A0_1 c0_1 l0_1 1048576 s wa HCa.out HCC.out HSZ.out).mono ?_); rintro e wb ⟨rfl, hb⟩; have HXb := zz31 (zz11 HXa.out hb); have HBb := zz31 (zz4 HBa.out hb); have HCb := zz31 (Kd.C_below HCa.out hb); clear f1 f2; have f1 := zz9 HXb.out 0; have f2 := zz9 HXb.out 1; simp only [List.getElem?_toArray, List.getElem?_cons_zero, List.getElem?_cons_succ] at f1 f2; clear hb) | (go_at_call 14; (with_reducible refine (laws_toParty.calls k a0_0 A0_1 c0_1 l0_1 p1 p2 wb HCb.out HCC.out HP.out).mono ?_); rintro e wc ⟨vc, rfl, ho, hb⟩; obtain ⟨Ac, cc, rfl⟩ := Kd.R_slice ho; have HPc := zz31 (Kd.R_reads' ho).2; have HXc := zz31 (zz11 HXb.out hb); have HBc := zz31 (zz4 HBb.out hb); have HCx := zz31 (Kd.C_below HCb.out hb); clear f1 f2; clear ho hb) | (go_at_call 17; (with_reducible refine (spec_FriendThrees.calls k p1 Ac cc p2 W1 G2 wc HPc.out.2 HPc.out.1 HW.out).mono ?_); rintro e wd ⟨vd, rfl, ho, hb⟩; obtain ⟨Ad, cd, rfl⟩ := Kd.N_slice ho; have HWd := zz31 (Kd.N_reads' ho).2; have HXd := zz31 (zz11 HXc.out hb); have HBd := zz31 (zz4 HBc.out hb); have HCd := zz31 (Kd.C_below HCx.out hb); have f1 := zz9 HXd.out 0; have f2 := zz9 HXd.out 1; simp only [List.getElem?_toArray, List.getElem?_cons_zero, List.getElem?_cons_succ] at f1 f2; clear ho hb) | (go_at_call 14; (with_reducible refine (laws_toParty.calls k a0_0 A0_1 c0_1 l0_1 p1 p2 wd HCd.out HCC.out HP.out).mono ?_); rintro e we ⟨ve, rfl, ho, hb⟩; obtain ⟨Ae, ce, rfl⟩ := Kd.R_slice ho; have HPe := zz31 ho; have HDe := zz31 hb; clear f1 f2; clear ho hb) | ((with_reducible refine gate_dst (N := 6) rfl ?_); refine box_event ?hg (N := 6) ?hd (cs := #[.int .i64 0, .slice none 0 0]) (t := 30) ?hr ?_; (case hd => rfl); (case hg => rfl); (case hr => first | (go_simp; done) | (go_simp; rfl)); intro gx hg wf hbox hb; have HXf := zz31 hbox; have HDf := zz31 (zz4 HDe.out hb); have HPf := zz31 (Kd.R_below HPe.out hb); have HGX := zz31 (show wd.heap.size ≤ gx from by rw [hg]; exact HDe.out.size); have g1 := zz9 HXf.out 0; have g2 := zz9 HXf.out 1; simp only [List.getElem?_toArray, List.getElem?_cons_zero, List.getElem?_cons_succ] at g1 g2; have g3 := zz10 HXf.out 0; have g4 := zz10 HXf.out 1; clear hbox hb hg) | (fail "no arm"))
  have HXg:Aside0 (((wf.setCell ⟨gx,0,none⟩ (.int .i64 p1)).setCell ⟨gx,1,none⟩ (.slice Ae p2.length ce)).heap[gx]?=some (.cells #[.int .i64 p1,.slice Ae p2.length ce] 30 (0,0))):=⟨blk_put (cs:=#[.int .i64 p1,.slice none 0 0]) (blk_put (cs:=#[.int .i64 0,.slice none 0 0]) HXf.out 0 _ rfl) 1 _ rfl⟩
  have HDg:Aside0 (Below wd.heap.size wd ((wf.setCell ⟨gx,0,none⟩ (.int .i64 p1)).setCell ⟨gx,1,none⟩ (.slice Ae p2.length ce))):=⟨zz3 (zz3 HDf.out HGX.out) HGX.out⟩
  have HPg:Aside0 (Kd.R k80 80 ((wf.setCell ⟨gx,0,none⟩ (.int .i64 p1)).setCell ⟨gx,1,none⟩ (.slice Ae p2.length ce)) wd.heap.size (fun k=>True∧k ≠ gx) (.slice Ae p2.length ce) p2):=⟨Kd.R_far (p:=⟨gx,1,none⟩) (Kd.R_far (p:=⟨gx,0,none⟩) (Kd.R_types HPf.out HXf.out (by decide)) (fun _ hk=>hk.2) (.int .i64 p1)) (fun _ hk=>hk.2) (.slice Ae p2.length ce)⟩
  clear g1 g2 g3 g4
  generalize ((wf.setCell ⟨gx,0,none⟩ (.int .i64 p1)).setCell ⟨gx,1,none⟩ (.slice Ae p2.length ce))=wg at HXg HDg HPg ⊢
  have HXb2:=zz31 (zz11 HXd.out HDg.out)
  have HPX:=zz31 (fun k (hk:some k=(Value.slice Ae p2.length ce).ownBlock)=>Kd.R_lt HPg.out k hk.symm)
  have f1:=zz9 HXd.out 0
  have f2:=zz9 HXd.out 1
  simp only [List.getElem?_toArray,List.getElem?_cons_zero,List.getElem?_cons_succ] at f1 f2
  have g1:=zz9 HXg.out 0
  have g2:=zz9 HXg.out 1
  simp only [List.getElem?_toArray,List.getElem?_cons_zero,List.getElem?_cons_succ] at g1 g2
  clear f1 f2
  go_upto_region 10 with (first | (go_at_call 18; (with_reducible refine (impl_FriendThrees.calls k p1 Ae ce p2 G1 G2 wg (Kd.R_reads' HPg.out).2.2 (Kd.R_reads' HPg.out).2.1 HG.out).mono ?_); rintro e wh ⟨vh, rfl, ho, hb⟩; obtain ⟨Ah, ch, rfl⟩ := Kd.S_slice ho; have HGh := zz31 ho; have HDh := zz31 (zz4 HDg.out hb); have HPh := zz31 (Kd.R_below HPg.out hb); have HXh := zz31 (zz11 HXg.out hb); clear g1 g2; clear ho hb) | (go_at_call 19; (with_reducible refine (laws_eqIntSS.calls k Ah ch G1 Ad cd W1 true wh (Kd.S_reads' HGh.out).2.2 (Kd.S_reads' HGh.out).2.1 (Kd.C_below HWd.out.2 HDh.out) HWd.out.1 HE1.out).mono ?_); rintro e w' ⟨rfl, hd⟩; obtain ⟨q1, hq1⟩ := hd.out; subst hq1; clear hd) | (fail "no arm"))
  have HGi:=zz31 (zz16 HGh.out q1)
  have HDi:=zz31 (zz0 HDh.out q1)
  have HPi:=zz31 (zz13 HPh.out q1)
  have HXi:=zz31 (zz6 HXh.out q1)
  have HPxc:=zz31 (Kd.R_reads' HPh.out).2.1
  generalize wh.drewN q1=wi at HGi HDi HPi HXi ⊢
  have HYi:=zz31 (zz11 HXd.out HDi.out)
  have HCi:=zz31 (Kd.C_below HCd.out HDi.out)
  have HL1:=zz31 (blk_lt HYi.out)
  have HL2:=zz31 (blk_lt HXi.out)
  have f1:=zz9 HYi.out 0
  have f2:=zz9 HYi.out 1
  simp only [List.getElem?_toArray,List.getElem?_cons_zero,List.getElem?_cons_succ] at f1 f2
  have g1:=zz9 HXi.out 0
  have g2:=zz9 HXi.out 1
  simp only [List.getElem?_toArray,List.getElem?_cons_zero,List.getElem?_cons_succ] at g1 g2
  go_region_held3 (fun w' => (w'.cell? ⟨gb, 0, none⟩ = some (.int .i64 a0_0) ∧ w'.cell? ⟨gb, 1, none⟩ = some (.slice A0_1 l0_1.length c0_1)) ∧ w'.cell? ⟨gx, 0, none⟩ = some (.int .i64 p1) ∧ w'.cell? ⟨gx, 1, none⟩ = some (.slice Ae p2.length ce)) (first | go_keep | exact ⟨⟨f1, f2⟩, g1, g2⟩ | exact ⟨⟨(HDij.out.cell (p := ⟨gb, 0, none⟩) HL1.out).trans f1, (HDij.out.cell (p := ⟨gb, 1, none⟩) HL1.out).trans f2⟩, (HDij.out.cell (p := ⟨gx, 0, none⟩) HL2.out).trans g1, (HDij.out.cell (p := ⟨gx, 1, none⟩) HL2.out).trans g2⟩ | exact ⟨⟨(HDik.out.cell (p := ⟨gb, 0, none⟩) HL1.out).trans f1, (HDik.out.cell (p := ⟨gb, 1, none⟩) HL1.out).trans f2⟩, (HDik.out.cell (p := ⟨gx, 0, none⟩) HL2.out).trans g1, (HDik.out.cell (p := ⟨gx, 1, none⟩) HL2.out).trans g2⟩) (first | (go_at_call 14; (with_reducible refine (laws_toParty.calls k a0_0 A0_1 c0_1 l0_1 p1 p2 _ ?_ HCC.out HP.out).mono ?_); (repeat (first | exact HCi.out | (with_reducible refine zz19 ?_ _) | (with_reducible refine zz20 ?_))); rintro e wj ⟨vj, rfl, ho, hb⟩; obtain ⟨Aj, cj, rfl⟩ := Kd.R_slice ho; have HPj := zz31 (Kd.R_reads' ho).2; have HDij := zz31 (zz4 (w := wi) (by repeat (first | exact Below.refl _ _ | apply zz0 | apply below_drew)) hb); have HPx := zz31 (Kd.C_below (Kd.R_reads' HPi.out).2.2 HDij.out); clear ho hb) | (go_at_call 16; (with_reducible refine (laws_eqParty.calls k p1 Ae ce p2 p1 Aj cj p2 true _ ?_ HPxc.out ?_ HPj.out.1 HE2.out).mono ?_); (repeat (first | exact HPx.out | (with_reducible refine zz19 ?_ _) | (with_reducible refine zz20 ?_))); (repeat (first | exact HPj.out.2 | (with_reducible refine zz19 ?_ _) | (with_reducible refine zz20 ?_))); rintro e wk ⟨rfl, hb⟩; have HDik := zz31 (zz4 (w := wi) (by repeat (first | exact HDij.out | apply zz0 | apply below_drew)) hb); clear hb) | (fail "no arm"))
  have HDk:=zz31 (HDi.out.trans (HDik.out.mono HDi.out.size))
  have HGk:=zz31 (Kd.S_bound (Kd.S_below HGi.out HDik.out))
  have HPk:=zz31 (Kd.R_below HPi.out HDik.out)
  have HXk:=zz31 (zz11 HXi.out HDik.out)
  clear f1 f2 g1 g2
  have g1:=zz9 HXk.out 0
  have g2:=zz9 HXk.out 1
  simp only [List.getElem?_toArray,List.getElem?_cons_zero,List.getElem?_cons_succ] at g1 g2
  have f1:=g1
  have f2:=g2
  go_wp2_with (first | (go_at_call 20; (with_reducible refine (laws_markParty.calls k p1 (fun k => some k = (Value.slice Ae p2.length ce).ownBlock) (.slice Ae p2.length ce) p2 1 m1 m2 wd wk HDk.out (Kd.R_tight rfl HPk.out) HMP.out).mono ?_); rintro e wl ⟨rfl, -, hB, hK⟩; have HDl := zz31 hB; have HGl := zz31 (Kd.S_step HGk.out (fun k hk hlt => hK.2 k hlt (fun he => by have := HPX.out k he; have := hk.2.1; omega))); clear hB hK) | (go_at_call 19; (with_reducible refine (laws_eqIntSS.calls k Ah ch G1 Ad cd W1 true wl (Kd.S_reads' HGl.out).2.2 (Kd.S_reads' HGl.out).2.1 (Kd.C_below HWd.out.2 HDl.out) HWd.out.1 HE1.out).mono ?_); rintro e w' ⟨rfl, hd⟩; obtain ⟨q2, hq2⟩ := hd.out; subst hq2; have HGl2 := zz31 (Kd.S_lower (Kd.S_mono (zz16 HGl.out q2) (fun k hk => hk.2.1)) HDg.out.size); have HDl2 := zz31 (zz0 HDl.out q2); clear hd) | (go_at_call 21; (with_reducible refine (laws_markIntSS.calls k (fun k => wg.heap.size ≤ k) (.slice Ah G1.length ch) G1 1 q n2 wd (wl.drewN q2) HDl2.out HGl2.out HM.out).mono ?_); rintro e wm ⟨rfl, hS, hB, -⟩; have HDm := zz31 hB; have HGm := zz31 hS; have HNL := zz31 (Kd.S_reads' hS).1; have HNc := zz31 (Kd.S_reads' hS).2.1; rw [HNL.out] at HNc; have HXm := zz31 (zz11 HXd.out HDm.out); clear f1 f2; have f1 := zz9 HXm.out 0; have f2 := zz9 HXm.out 1; simp only [List.getElem?_toArray, List.getElem?_cons_zero, List.getElem?_cons_succ] at f1 f2; clear hS hB) | (go_at_call 22; rw [HNL.out]; (with_reducible refine (laws_heldIntSS.calls k Ah ch n2 1 q wm (Kd.S_reads' HGm.out).2.2 HNc.out HQ.out).mono ?_); rintro e w' ⟨rfl, hd⟩; obtain ⟨q3, hq3⟩ := hd.out; subst hq3; have HDm3 := zz31 (zz0 HDm.out q3); have HGm3 := zz31 (zz16 HGm.out q3); have HCm3 := zz31 (Kd.C_below HCd.out HDm3.out); clear hd) | (go_at_call 14; (with_reducible refine (laws_toParty.calls k a0_0 A0_1 c0_1 l0_1 p1 p2 (wm.drewN q3) HCm3.out HCC.out HP.out).mono ?_); rintro e wn ⟨vn, rfl, ho, hb⟩; obtain ⟨An, cn, rfl⟩ := Kd.R_slice ho; have HPn := zz31 (Kd.R_reads' ho).2; have HDn := zz31 (zz4 HDm3.out hb); have HGn := zz31 (Kd.S_below HGm3.out hb); clear f1 f2; clear ho hb) | (go_at_call 18; (with_reducible refine (impl_FriendThrees.calls k p1 An cn p2 G1 G2 wn HPn.out.2 HPn.out.1 HG.out).mono ?_); rintro e wo ⟨vo, rfl, ho, hb⟩; obtain ⟨Ao, co, rfl⟩ := Kd.S_slice ho; have HHo := zz31 (Kd.S_reads' ho).2; have HDo := zz31 (zz4 HDn.out hb); have HGo := zz31 (Kd.S_below HGn.out hb); clear ho hb) | (go_at_call 19; (with_reducible refine (laws_eqIntSS.calls k Ao co G1 Ad cd W1 true wo HHo.out.2 HHo.out.1 (Kd.C_below HWd.out.2 HDo.out) HWd.out.1 HE1.out).mono ?_); rintro e w' ⟨rfl, hd⟩; obtain ⟨q4, hq4⟩ := hd.out; subst hq4; have HGo4 := zz31 (zz16 HGo.out q4); clear hd) | (go_at_call 22; rw [HNL.out]; (with_reducible refine (laws_heldIntSS.calls k Ah ch n2 1 q (wo.drewN q4) (Kd.S_reads' HGo4.out).2.2 HNc.out HQ.out).mono ?_); rintro e w' ⟨rfl, hd⟩; obtain ⟨q5, hq5⟩ := hd.out; subst hq5; clear hd) | (fail "no arm"))
  refine bodyPost_ret (results_tmp rfl _ _ _) rfl ?_
  exact ⟨rfl,by repeat first | exact (HBd.out.trans (HDo.out.mono HBd.out.size)) | apply zz0 | apply below_drew⟩

end Go.Proofs.Ytialimbdkokdcaa.P
