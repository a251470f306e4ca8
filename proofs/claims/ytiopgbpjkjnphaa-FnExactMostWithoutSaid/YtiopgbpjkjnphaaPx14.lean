-- PRINTED by print.py (a twelfth state) out of the translation. Not trusted: Lean checks it.
import Derived.Test.YtiopgbpjkjnphaaPx0
import Derived.Test.YtiopgbpjkjnphaaPx2
import Derived.Test.YtiopgbpjkjnphaaPx13
namespace Go.Proofs.Ytiopgbpjkjnphaa.P
open Go.RowKit Go.Proofs.YtiopgbpjkjnphaaW.PrintWords Go.Proofs.YtiopgbpjkjnphaaW.PrintLast Go.Proofs.YtiopgbpjkjnphaaW.PrintMore
open Bool renaming true → T, false → F
attribute [local go_sem] max2_int min2_int max_two min_two max_three min_three max_four min_four   -- for this text's walks alone
set_option linter.unusedVariables false
set_option linter.unusedSimpArgs false

/-! ### spec_grEven: function 62 -/
def spec_grEven.l0:Nat→Int→Int→List Int→Int→Option (List Int)
 | 0,_,_,_,_=>none
 | k+1,x0,x1,x5,x6=>if x6 < x1 then (if x1=0 then (none) else (if x6 < (Int.tmod x0 x1) then (if x5.length < 17592186044416 then (spec_grEven.l0 k x0 x1 (x5 ++ [wrap64 ((wrap64 (Int.tdiv x0 x1))+1)]) (wrap64 (x6+1))) else (none)) else (if x5.length < 17592186044416 then (spec_grEven.l0 k x0 x1 (x5 ++ [wrap64 (Int.tdiv x0 x1)]) (wrap64 (x6+1))) else (none)))) else (some x5)
def spec_grEven.f (k:Nat) (a0:Int) (a1:Int):Option (List Int):=spec_grEven.l0 k a0 a1 ([]:List Int) 0
theorem spec_grEven.mono_l:∀ k,(∀ y0 y1 y2 y3,LeO (spec_grEven.l0 k y0 y1 y2 y3) (spec_grEven.l0 (k+1) y0 y1 y2 y3))
 | 0=>fun _ _ _ _ r h=>by simp [spec_grEven.l0] at h
 | k+1=>by
  have ih0:=spec_grEven.mono_l k
  ·intro y0 y1 y2 y3
   unfold spec_grEven.l0
   repeat' first
   | (with_reducible exact ih0 _ _ _ _)
   | (with_reducible exact LeO.refl _)
   | (with_reducible exact LeO.none _)
   | (with_reducible refine LeO.ite ?_ ?_)
   | (with_reducible refine LeO.bind ?_ (fun _=>?_))
   | exact ih0 _ _ _ _
   | exact LeO.none _
   | refine LeO.ite ?_ ?_
   | refine LeO.bind ?_ (fun _=>?_)
theorem spec_grEven.mono:∀ a0 a1 k,LeO (spec_grEven.f k a0 a1) (spec_grEven.f (k+1) a0 a1):=by
 intro a0 a1 k
 have ih0:=spec_grEven.mono_l k
 unfold spec_grEven.f
 repeat' first
   | (with_reducible exact ih0 _ _ _ _)
   | (with_reducible exact LeO.refl _)
   | (with_reducible exact LeO.none _)
   | (with_reducible refine LeO.ite ?_ ?_)
   | (with_reducible refine LeO.bind ?_ (fun _=>?_))
   | exact ih0 _ _ _ _
   | exact LeO.none _
   | refine LeO.ite ?_ ?_
   | refine LeO.bind ?_ (fun _=>?_)
set_option maxHeartbeats 8000000 in
set_option maxRecDepth 100000 in
theorem spec_grEven.calls (k:Nat) (a0:Int) (a1:Int) (r:List Int) (w:World) (h:spec_grEven.f k a0 a1=some r) :
  Calls Try.prog 62 #[.int .i64 a0,.int .i64 a1] w fun e w'=>∃ v0_:Value,e=.returned (v0_)∧Kd.R (Kd.int .i64) 3 w' w.heap.size (fun _=>True) v0_ r∧Below w.heap.size w w':=by
 have HB:=Aside0.mk (Below.refl w.heap.size w)
 have H:(spec_grEven.l0 k a0 a1 ([]:List Int) 0)=some r:=h
 clear h
 have H':=Aside0.mk H
 clear H
 go_enter Try.func62,Try.ntmps62
 go_wp2
 go_loopg [5,6] k (fun kq v5 v6 w'=>∃ (x5_1:List Int) (x6_1:Int),v6=.int .i64 x6_1∧Aside0 (spec_grEven.l0 kq a0 a1 x5_1 x6_1=some r)∧Aside0 (kq≤k)∧Aside0 (Kd.R (Kd.int .i64) 3 w' w.heap.size (fun _=>True) v5 x5_1)∧Aside0 (Below w.heap.size w w'))
 case atStart=>exact ⟨(([]:List Int)),(0),(by first | rfl | (simp;done) | (simp [*];done)),H',⟨Nat.le_refl _⟩,⟨by first | exact Kd.R_nil _ _ _ _ _ | exact Kd.N_nil _ _ _ _ _ | exact Kd.V_nil _ _ _ _ _ | exact Kd.Q_nil _ _ _ _ _ | exact Kd.S_nil _ _ _ _ _⟩,⟨by repeat first | exact HB.out | apply zz2 | apply zz0 | apply zz1⟩⟩
 case round =>
  clear H'
  try clear p2
  obtain ⟨x5_1,x6_1,rfl,HA,HK1,HO_5,HB⟩:=hrel
  cases gk with
  | zero=>exact absurd HA.out (by simp [spec_grEven.l0])
  | succ k1 =>
   have H:=HA.out
   clear HA
   simp only [spec_grEven.l0] at H
   by_cases c3:x6_1 < a1
   ·rw [if_pos c3] at H
    have c3b0:decide (x6_1 < a1)=true:=decide_eq_true c3
    clear c3
    by_cases c4:a1=0
    ·rw [if_pos c4] at H
     exact absurd H (by simp)
    ·rw [if_neg c4] at H
     have c4b0:(a1 == 0)=false:=beq_eq_false_iff_ne.mpr c4
     have c4b1:(a1 != 0)=true:=bne_iff_ne.mpr c4
     by_cases c5:x6_1 < (Int.tmod a0 a1)
     ·rw [if_pos c5] at H
      have c5b0:decide (x6_1 < (Int.tmod a0 a1))=true:=decide_eq_true c5
      clear c5
      by_cases c6:x5_1.length < 17592186044416
      ·rw [if_pos c6] at H
       have LMc6:=Aside0.mk c6
       clear c6
       obtain ⟨y296,hy296⟩:∃ y_:List Int,y_=(x5_1 ++ [wrap64 ((wrap64 (Int.tdiv a0 a1))+1)]):=⟨_,rfl⟩
       replace H:(spec_grEven.l0 k1 a0 a1 y296 (wrap64 (x6_1+1)))=some r:=by first | (rw [hy296];with_reducible exact H) | (have H2_:=(Option.bind_some _ _).symm.trans H;rw [hy296];with_reducible exact H2_) | (have H2_:=(Option.bind_some _ _).symm.trans H;with_reducible exact H2_) | with_reducible exact H | (rw [hy296];exact H) | exact H
       have Ny296:=Aside0.mk hy296
       clear hy296
       have H':=Aside0.mk H
       clear H
       go_wp2_with (first | ((with_reducible refine gate_builtin (b:=.append) (xs:=#[.tmp 23,.tmp 25]) rfl ?_);at_builtin;refine Kd.R_append (Kd.int .i64) (w0:=w) w.heap.size rfl (.tmp 23) (.tmp 25) 45 3 (.int .i64 0) 8 rfl Try.underlying45 info3 rfl (by decide) (by omega) u5 x5_1 (wrap64 ((wrap64 (Int.tdiv a0 a1))+1)) [.int .i64 (wrap64 ((wrap64 (Int.tdiv a0 a1))+1))] (fun _=>True) (fun _=>False) rfl rfl ?aP (fun _ hk=>hk.elim) ?aF ?aO ?aB ?aS ?aL ?_;(case aP=>exact rfl);(case aB=>exact (by repeat first | exact HB.out | apply zz2 | apply zz0 | apply zz1));(case aF=>exact (fun _ _=>trivial));(case aO=>exact (by (with_reducible repeat (first | apply zz12 | apply zz13 | apply zz14));exact HO_5.out));(case aS=>exact (zz5 (by repeat first | exact HB.out | apply zz2 | apply zz0 | apply zz1)));(case aL=>have:=LMc6.out;omega);intro v297 w7 ho hb hg hat;rw [← Ny296.out] at ho;have n0_:=Aside0.mk (hb);have n1_:=Aside0.mk (ho);clear HB;clear HO_5;have HB:=n0_;have HO298:=n1_;clear n0_ n1_;clear ho hb hg hat))
       go_roundg k1
       case measure=>have:=HK1.out;omega
       case rel=>exact ⟨(y296),(wrap64 (x6_1+1)),(by first | rfl | (simp;done) | (simp [*];done)),H',⟨by have:=HK1.out;omega⟩,⟨by (with_reducible repeat (first | apply zz12 | apply zz13 | apply zz14));exact HO298.out⟩,⟨by repeat first | exact HB.out | apply zz2 | apply zz0 | apply zz1⟩⟩
      ·rw [if_neg c6] at H
       exact absurd H (by simp)
     ·rw [if_neg c5] at H
      have c5b0:decide (x6_1 < (Int.tmod a0 a1))=false:=decide_eq_false c5
      clear c5
      by_cases c8:x5_1.length < 17592186044416
      ·rw [if_pos c8] at H
       have LMc8:=Aside0.mk c8
       clear c8
       obtain ⟨y299,hy299⟩:∃ y_:List Int,y_=(x5_1 ++ [wrap64 (Int.tdiv a0 a1)]):=⟨_,rfl⟩
       replace H:(spec_grEven.l0 k1 a0 a1 y299 (wrap64 (x6_1+1)))=some r:=by first | (rw [hy299];with_reducible exact H) | (have H2_:=(Option.bind_some _ _).symm.trans H;rw [hy299];with_reducible exact H2_) | (have H2_:=(Option.bind_some _ _).symm.trans H;with_reducible exact H2_) | with_reducible exact H | (rw [hy299];exact H) | exact H
       have Ny299:=Aside0.mk hy299
       clear hy299
       have H':=Aside0.mk H
       clear H
       go_wp2_with (first | ((with_reducible refine gate_builtin (b:=.append) (xs:=#[.tmp 23,.tmp 25]) rfl ?_);at_builtin;refine Kd.R_append (Kd.int .i64) (w0:=w) w.heap.size rfl (.tmp 23) (.tmp 25) 45 3 (.int .i64 0) 8 rfl Try.underlying45 info3 rfl (by decide) (by omega) u5 x5_1 (wrap64 (Int.tdiv a0 a1)) [.int .i64 (wrap64 (Int.tdiv a0 a1))] (fun _=>True) (fun _=>False) rfl rfl ?aP (fun _ hk=>hk.elim) ?aF ?aO ?aB ?aS ?aL ?_;(case aP=>exact rfl);(case aB=>exact (by repeat first | exact HB.out | apply zz2 | apply zz0 | apply zz1));(case aF=>exact (fun _ _=>trivial));(case aO=>exact (by (with_reducible repeat (first | apply zz12 | apply zz13 | apply zz14));exact HO_5.out));(case aS=>exact (zz5 (by repeat first | exact HB.out | apply zz2 | apply zz0 | apply zz1)));(case aL=>have:=LMc8.out;omega);intro v300 w9 ho hb hg hat;rw [← Ny299.out] at ho;have n0_:=Aside0.mk (hb);have n1_:=Aside0.mk (ho);clear HB;clear HO_5;have HB:=n0_;have HO301:=n1_;clear n0_ n1_;clear ho hb hg hat))
       go_roundg k1
       case measure=>have:=HK1.out;omega
       case rel=>exact ⟨(y299),(wrap64 (x6_1+1)),(by first | rfl | (simp;done) | (simp [*];done)),H',⟨by have:=HK1.out;omega⟩,⟨by (with_reducible repeat (first | apply zz12 | apply zz13 | apply zz14));exact HO301.out⟩,⟨by repeat first | exact HB.out | apply zz2 | apply zz0 | apply zz1⟩⟩
      ·rw [if_neg c8] at H
       exact absurd H (by simp)
   ·rw [if_neg c3] at H
    have c3b0:decide (x6_1 < a1)=false:=decide_eq_false c3
    clear c3
    obtain rfl:=Option.some.inj H
    go_wp2
    go_ret
    exact ⟨_,by first | rfl | (simp [errW_none,errW_some] <;> rfl) | (simp [*,errW_none,errW_some] <;> rfl),by (with_reducible repeat (first | apply zz12 | apply zz13 | apply zz14));exact HO_5.out,by repeat first | exact HB.out | apply zz2 | apply zz0 | apply zz1⟩

/-! ### impl_bit: function 79 -/
def impl_bit.f (a0:Bool):Option (Int):=if a0=true then (some 1) else (some 0)
set_option maxHeartbeats 8000000 in
set_option maxRecDepth 100000 in
theorem impl_bit.calls (a0:Bool) (r:Int) (w:World) (h:impl_bit.f a0=some r) :
  Calls Try.prog 79 #[.bool a0] w fun e w'=>e=.returned (.int .i64 r)∧Drawn0 w w':=by
 have H:(if a0=true then (some 1) else (some 0))=some r:=h
 clear h
 by_cases c2:a0=true
 ·subst c2
  have H1:(some 1)=some r:=by rw [if_pos rfl] at H;exact H
  clear H
  have H:=H1
  clear H1
  obtain rfl:=Option.some.inj H
  go_enter Try.func79,Try.ntmps79
  go_wp2
  go_ret
  exact ⟨by first | rfl | (simp;done) | (simp [*];done),by repeat (first | exact Drawn0.refl _ | apply Drawn0.step)⟩
 ·replace c2:=Bool.eq_false_iff.mpr c2
  subst c2
  have H1:(some 0)=some r:=by rw [if_neg (show ¬ (false=true) by decide)] at H;exact H
  clear H
  have H:=H1
  clear H1
  obtain rfl:=Option.some.inj H
  go_enter Try.func79,Try.ntmps79
  go_wp2
  go_ret
  exact ⟨by first | rfl | (simp;done) | (simp [*];done),by repeat (first | exact Drawn0.refl _ | apply Drawn0.step)⟩

/-! ### impl_TuranParty: function 43 -/
mutual
def impl_TuranParty.j0:Nat→Int→Int→Bool→Option (Int × (List (S61)) × Bool)
 | 0,_,_,_=>none
 | k+1,x0,x1,x16=>if x16=true then (some (0,([]:List (S61)),false)) else (impl_TuranParty.l0 k x0 x1 (([]:List Int)) x1 0)
def impl_TuranParty.l0:Nat→Int→Int→List Int→Int→Int→Option (Int × (List (S61)) × Bool)
 | 0,_,_,_,_,_=>none
 | k+1,x0,x1,x6,x19,x20=>if x20 < x19 then (if x1=0 then (none) else ((impl_bit.f (decide (x20 < (Int.tmod x0 x1)))).bind fun t345=>(if x6.length < 17592186044416 then (impl_TuranParty.l0 k x0 x1 (x6 ++ [wrap64 ((wrap64 (Int.tdiv x0 x1))+t345)]) x19 (wrap64 (x20+1))) else (none)))) else ((impl_partsParty.f k x6).bind fun bt349=>(some (bt349.1,bt349.2,true)))
end
def impl_TuranParty.f (k:Nat) (a0:Int) (a1:Int):Option (Int × (List (S61)) × Bool):=(impl_within.f a0 1 12).bind fun t340=>(if t340=true then ((impl_within.f a1 1 a0).bind fun t341=>(impl_TuranParty.j0 k a0 a1 (!t341))) else (impl_TuranParty.j0 k a0 a1 true))
theorem impl_TuranParty.mono_l:∀ k,(∀ y0 y1 y2,LeO (impl_TuranParty.j0 k y0 y1 y2) (impl_TuranParty.j0 (k+1) y0 y1 y2))∧(∀ y0 y1 y2 y3 y4,LeO (impl_TuranParty.l0 k y0 y1 y2 y3 y4) (impl_TuranParty.l0 (k+1) y0 y1 y2 y3 y4))
 | 0=>⟨fun _ _ _ r h=>by simp [impl_TuranParty.j0] at h,fun _ _ _ _ _ r h=>by simp [impl_TuranParty.l0] at h⟩
 | k+1=>by
  obtain ⟨ih0,ih1⟩:=impl_TuranParty.mono_l k
  refine ⟨?_,?_⟩
  ·intro y0 y1 y2
   unfold impl_TuranParty.j0
   repeat' first
   | (with_reducible exact ih0 _ _ _)
   | (with_reducible exact ih1 _ _ _ _ _)
   | (with_reducible exact impl_partsParty.mono _ _)
   | (with_reducible exact LeO.refl _)
   | (with_reducible exact LeO.none _)
   | (with_reducible refine LeO.ite ?_ ?_)
   | (with_reducible refine LeO.bind ?_ (fun _=>?_))
   | exact ih0 _ _ _
   | exact ih1 _ _ _ _ _
   | exact impl_partsParty.mono _ _
   | exact LeO.none _
   | refine LeO.ite ?_ ?_
   | refine LeO.bind ?_ (fun _=>?_)
  ·intro y0 y1 y2 y3 y4
   unfold impl_TuranParty.l0
   repeat' first
   | (with_reducible exact ih0 _ _ _)
   | (with_reducible exact ih1 _ _ _ _ _)
   | (with_reducible exact impl_partsParty.mono _ _)
   | (with_reducible exact LeO.refl _)
   | (with_reducible exact LeO.none _)
   | (with_reducible refine LeO.ite ?_ ?_)
   | (with_reducible refine LeO.bind ?_ (fun _=>?_))
   | exact ih0 _ _ _
   | exact ih1 _ _ _ _ _
   | exact impl_partsParty.mono _ _
   | exact LeO.none _
   | refine LeO.ite ?_ ?_
   | refine LeO.bind ?_ (fun _=>?_)
theorem impl_TuranParty.mono:∀ a0 a1 k,LeO (impl_TuranParty.f k a0 a1) (impl_TuranParty.f (k+1) a0 a1):=by
 intro a0 a1 k
 obtain ⟨ih0,ih1⟩:=impl_TuranParty.mono_l k
 unfold impl_TuranParty.f
 repeat' first
   | (with_reducible exact ih0 _ _ _)
   | (with_reducible exact ih1 _ _ _ _ _)
   | (with_reducible exact impl_partsParty.mono _ _)
   | (with_reducible exact LeO.refl _)
   | (with_reducible exact LeO.none _)
   | (with_reducible refine LeO.ite ?_ ?_)
   | (with_reducible refine LeO.bind ?_ (fun _=>?_))
   | exact ih0 _ _ _
   | exact ih1 _ _ _ _ _
   | exact impl_partsParty.mono _ _
   | exact LeO.none _
   | refine LeO.ite ?_ ?_
   | refine LeO.bind ?_ (fun _=>?_)
def impl_TuranParty.T7:Bool × List (List Nat × List Nat):=(true,[([],[]),([],[]),([],[]),([1,2],[1,2]),([],[]),([],[]),([],[]),([5,6],[5,6]),([4,7],[4,7]),([8],[8]),([3,9],[3,9]),([10],[10]),([0,11,9],[0,11]),([12,12,0,1,2,3,4,5,6,7,8,9,10,11,12],[0,12])])
def impl_TuranParty.B7:List Nat:=[0,0,0,6,0,0,0,96,240,496,1022,2046,4095,8191]
theorem impl_TuranParty.tab7:rtab .any (opsOf Try.f43 7)=impl_TuranParty.T7:=by kernel_rfl
theorem impl_TuranParty.bits7:waitsOk impl_TuranParty.T7.2 impl_TuranParty.B7=true:=by kernel_rfl
set_option maxHeartbeats 8000000 in
set_option maxRecDepth 100000 in
theorem impl_TuranParty.calls (k:Nat) (a0:Int) (a1:Int) (r1:Int) (r2:List (S61)) (r3:Bool) (w:World) (h:impl_TuranParty.f k a0 a1=some (r1,r2,r3)) :
  Calls Try.prog 43 #[.int .i64 a0,.int .i64 a1] w fun e w'=>∃ v1_:Value,e=.returned (.tuple #[.agg #[.int .i64 r1,v1_],.bool r3])∧Kd.R k61 61 w' w.heap.size (fun _=>True) v1_ r2∧Below w.heap.size w w':=by
 have hu29:=Try.underlying29
 have HB:=Aside0.mk (Below.refl w.heap.size w)
 have H:((impl_within.f a0 1 12).bind fun t340=>(if t340=true then ((impl_within.f a1 1 a0).bind fun t341=>(impl_TuranParty.j0 k a0 a1 (!t341))) else (impl_TuranParty.j0 k a0 a1 true)))=some (r1,r2,r3):=h
 clear h
 have HC3:=Aside0.mk H
 clear H
 go_enter Try.func43,Try.ntmps43
 go_upto_region 1 with (first | ((with_reducible refine gate_dst (N:=4) rfl ?_);refine box_event ?hg (N:=4) ?hd (cs:=#[.int .i64 0,.slice none 0 0]) (t:=29) ?hr ?_;(case hd=>rfl);(case hg=>rfl);(case hr=>first | (go_simp;done) | (go_simp;rfl));intro gb339 hg w4 hbox hb;have n0_:=Aside0.mk (zz4 (by repeat first | exact HB.out | apply zz2 | apply zz0 | apply zz1) hb);have n1_:=Aside0.mk (hbox);have n2_:=Aside0.mk ((by rw [hg];exact (zz5 (by repeat first | exact HB.out | apply zz2 | apply zz0 | apply zz1)):w.heap.size≤gb339));have n3_:=Aside0.mk ((by rw [hg];exact (zz5 (by repeat first | exact HB.out | apply zz2 | apply zz0 | apply zz1)):w.heap.size≤gb339));clear HB;have HB:=n0_;have BK339:=n1_;have GW339:=n2_;have GE339:=n3_;clear n0_ n1_ n2_ n3_;clear hb hbox hg))
 (try simp only [Act.put,zz21,zz22,zz23])
 go_cut [16] (fun v16 wc=>∃ (kq:Nat) (x16_2:Bool),v16=.bool x16_2∧Aside0 (impl_TuranParty.j0 kq a0 a1 x16_2=some (r1,r2,r3))∧Aside0 (kq≤k)∧Aside0 (wc.heap[gb339]?=some (.cells #[.int .i64 0,(.slice none 0 0)] 29 (0,0)))∧Aside0 (Below w.heap.size w wc))
 case first =>
  have H:=HC3.out
  clear HC3
  replace H:=zz30.mp H
  obtain ⟨t340,A50,H⟩:=H
  replace H:(if t340=true then ((impl_within.f a1 1 a0).bind fun t341=>(impl_TuranParty.j0 k a0 a1 (!t341))) else (impl_TuranParty.j0 k a0 a1 true))=some (r1,r2,r3):=H
  have A5:=Aside0.mk A50
  clear A50
  by_cases c6:t340=true
  ·subst c6
   have H1:((impl_within.f a1 1 a0).bind fun t341=>(impl_TuranParty.j0 k a0 a1 (!t341)))=some (r1,r2,r3):=by rw [if_pos rfl] at H;exact H
   clear H
   have H:=H1
   clear H1
   replace H:=zz30.mp H
   obtain ⟨t341,A70,H⟩:=H
   replace H:(impl_TuranParty.j0 k a0 a1 (!t341))=some (r1,r2,r3):=H
   have A7:=Aside0.mk A70
   clear A70
   have H':=Aside0.mk H
   clear H
   go_wp2_with (first | ((with_reducible refine gate_callee (f:=78) rfl ?_);refine goesL_ (some 9) rfl rfl Try.func78 (by kernel_rfl) rfl #[.int .i64 a0,.int .i64 1,.int .i64 12] rfl (by (try simp only [zz26,zz27,zz28]);first | done | rfl | (simp only [zz24,zz25];rfl) | (simp only [zz25];congr;(try simp only [decide_eq_true_eq] at *);omega)) ?_;(with_reducible refine (impl_within.calls a0 1 12 true _ A5.out).mono ?_);rintro e w' ⟨rfl,⟨nd,rfl⟩⟩;refine ⟨_,rfl,?_⟩) | (go_at_call 78;(with_reducible refine (impl_within.calls a1 1 a0 t341 _ A7.out).mono ?_);rintro e w' ⟨rfl,⟨nd,rfl⟩⟩))
   go_meet
   case rel=>exact ⟨_,(!t341),(by first | rfl | (simp;done) | (simp [*];done)),H',⟨by first | omega | exact Nat.le_refl _⟩,⟨by (with_reducible repeat (first | refine zz6 ?_ _ | refine zz7 ?_ | refine zz8 ?_ _));exact BK339.out⟩,⟨by repeat first | exact HB.out | apply zz2 | apply zz0 | apply zz1 | refine zz3 ?_ GE339.out⟩⟩
  ·replace c6:=Bool.eq_false_iff.mpr c6
   subst c6
   have H1:(impl_TuranParty.j0 k a0 a1 true)=some (r1,r2,r3):=by rw [if_neg (show ¬ (false=true) by decide)] at H;exact H
   clear H
   have H:=H1
   clear H1
   have H':=Aside0.mk H
   clear H
   go_wp2_with (first | ((with_reducible refine gate_callee (f:=78) rfl ?_);refine goesL_ (some 9) rfl rfl Try.func78 (by kernel_rfl) rfl #[.int .i64 a0,.int .i64 1,.int .i64 12] rfl (by (try simp only [zz26,zz27,zz28]);first | done | rfl | (simp only [zz24,zz25];rfl) | (simp only [zz25];congr;(try simp only [decide_eq_true_eq] at *);omega)) ?_;(with_reducible refine (impl_within.calls a0 1 12 false _ A5.out).mono ?_);rintro e w' ⟨rfl,⟨nd,rfl⟩⟩;refine ⟨_,rfl,?_⟩))
   go_meet
   case rel=>exact ⟨_,(true),(by first | rfl | (simp;done) | (simp [*];done)),H',⟨by first | omega | exact Nat.le_refl _⟩,⟨by (with_reducible repeat (first | refine zz6 ?_ _ | refine zz7 ?_ | refine zz8 ?_ _));exact BK339.out⟩,⟨by repeat first | exact HB.out | apply zz2 | apply zz0 | apply zz1 | refine zz3 ?_ GE339.out⟩⟩
 case rest =>
  clear HC3
  try clear p2
  try clear c4
  try clear c6
  try clear c7
  obtain ⟨kq,x16_2,rfl,HA,HJ2,BK339,HB⟩:=hcut
  cases kq with
  | zero=>exact absurd HA.out (by simp [impl_TuranParty.j0])
  | succ kj2 =>
   have H:=HA.out
   clear HA
   simp only [impl_TuranParty.j0] at H
   by_cases c8:x16_2=true
   ·subst c8
    have H1:(some (0,([]:List (S61)),false))=some (r1,r2,r3):=by rw [if_pos rfl] at H;exact H
    clear H
    have H:=H1
    clear H1
    simp only [Option.some.injEq,Prod.mk.injEq] at H
    obtain ⟨rfl,rfl,rfl⟩:=H
    have hcz9_0:wc.cell? ⟨gb339,0,none⟩=some (.int .i64 0):=(zz9 BK339.out 0).trans rfl
    have hcz9_1:wc.cell? ⟨gb339,1,none⟩=some (.slice none 0 0):=(zz9 BK339.out 1).trans rfl
    have hfz9_0:=zz10 BK339.out 0
    have hfz9_1:=zz10 BK339.out 1
    go_wp2
    refine bodyPost_ret (results_ct rfl _ _ gb339 29 #[.int .i64 0,.slice none 0 0] (0,0) _ rfl (by (with_reducible repeat (first | refine zz6 ?_ _ | refine zz7 ?_ | refine zz8 ?_ _));refine blk_put (cs:=#[.int .i64 0,.slice none 0 0]) ?_ 1 _ rfl;(with_reducible repeat (first | refine zz6 ?_ _ | refine zz7 ?_ | refine zz8 ?_ _));refine blk_put (cs:=#[.int .i64 0,.slice none 0 0]) ?_ 0 _ rfl;(with_reducible repeat (first | refine zz6 ?_ _ | refine zz7 ?_ | refine zz8 ?_ _));exact BK339.out) Try.underlying29 rfl (by kernel_rfl)) rfl ?_
    exact ⟨_,by first | rfl | (simp [errW_none,errW_some] <;> rfl) | (simp [*,errW_none,errW_some] <;> rfl),by first | exact Kd.R_nil _ _ _ _ _ | exact Kd.N_nil _ _ _ _ _ | exact Kd.V_nil _ _ _ _ _ | exact Kd.Q_nil _ _ _ _ _ | exact Kd.S_nil _ _ _ _ _,by repeat first | exact HB.out | apply zz2 | apply zz0 | apply zz1 | refine zz3 ?_ GE339.out⟩
   ·replace c8:=Bool.eq_false_iff.mpr c8
    subst c8
    have H1:(impl_TuranParty.l0 kj2 a0 a1 (([]:List Int)) a1 0)=some (r1,r2,r3):=by rw [if_neg (show ¬ (false=true) by decide)] at H;exact H
    clear H
    have H:=H1
    clear H1
    obtain ⟨y342,hy342⟩:∃ y_:List Int,y_=(([]:List Int)):=⟨_,rfl⟩
    replace H:(impl_TuranParty.l0 kj2 a0 a1 y342 a1 0)=some (r1,r2,r3):=by first | (rw [hy342];with_reducible exact H) | (have H2_:=(Option.bind_some _ _).symm.trans H;rw [hy342];with_reducible exact H2_) | (have H2_:=(Option.bind_some _ _).symm.trans H;with_reducible exact H2_) | with_reducible exact H | (rw [hy342];exact H) | exact H
    have Ny342:=Aside0.mk hy342
    clear hy342
    have H':=Aside0.mk H
    clear H
    go_wp2_with (first | ((with_reducible refine gate_dst (N:=18) rfl ?_);refine Kd.R_lit (Kd.int .i64) _ 3 ?hg (N:=18) ?hd (xs:=([]:List Int)) (inner:=[]) (ok:=fun _=>True) (okp:=fun _=>True) ?hr ?hp (fun _ hk=>hk) trivial (Below.refl _ _) (Nat.le_refl _) (by simp) ?_;(case hd=>rfl);(case hg=>rfl);(case hr=>first | (go_simp;done) | (go_simp;rfl));(case hp=>exact (Reps.none _ _));intro v343 w10 ho11 hb hg_ hnew_;clear hg_ hnew_;(first | rw [← Ny342.out] at ho11 | (simp only [Int.reduceToNat] at ho11;rw [← Ny342.out] at ho11));have n0_:=Aside0.mk (Kd.R_lower ho11 (zz5 (by repeat first | exact HB.out | apply zz2 | apply zz0 | apply zz1 | refine zz3 ?_ GE339.out)));have n1_:=Aside0.mk (zz11 (g:=gb339) (o:=.cells #[.int .i64 0,.slice none 0 0] 29 (0,0)) (by (with_reducible repeat (first | refine zz6 ?_ _ | refine zz7 ?_ | refine zz8 ?_ _));exact BK339.out) hb);have n2_:=Aside0.mk (zz4 (by repeat first | exact HB.out | apply zz2 | apply zz0 | apply zz1 | refine zz3 ?_ GE339.out) hb);clear BK339;clear HB;have HO344:=n0_;have BK339:=n1_;have HB:=n2_;clear n0_ n1_ n2_;clear hb ho11))
    go_loopg [6,20] kj2 (fun kq v6 v20 w'=>∃ (x6_2:List Int) (x20_2:Int),v20=.int .i64 x20_2∧Aside0 (impl_TuranParty.l0 kq a0 a1 x6_2 a1 x20_2=some (r1,r2,r3))∧Aside0 (kq≤kj2)∧Aside0 (Kd.R (Kd.int .i64) 3 w' w.heap.size (fun _=>True) v6 x6_2)∧Aside0 (w'.heap[gb339]?=some (.cells #[.int .i64 0,(.slice none 0 0)] 29 (0,0)))∧Aside0 (Below w.heap.size w w'))
    case atStart=>exact ⟨(y342),(0),(by first | rfl | (simp;done) | (simp [*];done)),H',⟨Nat.le_refl _⟩,⟨by (with_reducible repeat (first | apply zz12 | apply zz13 | apply zz14));exact HO344.out⟩,⟨by (with_reducible repeat (first | refine zz6 ?_ _ | refine zz7 ?_ | refine zz8 ?_ _));exact BK339.out⟩,⟨by repeat first | exact HB.out | apply zz2 | apply zz0 | apply zz1 | refine zz3 ?_ GE339.out⟩⟩
    case round =>
     clear H'
     try clear p2
     try clear c4
     try clear c6
     try clear c7
     try clear c8
     try clear hcz9_0
     try clear hcz9_1
     try clear hfz9_0
     try clear hfz9_1
     try clear p2
     obtain ⟨x6_2,x20_2,rfl,HA,HK2,HO_6,BK339,HB⟩:=hrel
     cases gk with
     | zero=>exact absurd HA.out (by simp [impl_TuranParty.l0])
     | succ k2 =>
      have H:=HA.out
      clear HA
      simp only [impl_TuranParty.l0] at H
      by_cases c12:x20_2 < a1
      ·rw [if_pos c12] at H
       have c12b0:decide (x20_2 < a1)=true:=decide_eq_true c12
       clear c12
       by_cases c13:a1=0
       ·rw [if_pos c13] at H
        exact absurd H (by simp)
       ·rw [if_neg c13] at H
        have c13b0:(a1 == 0)=false:=beq_eq_false_iff_ne.mpr c13
        have c13b1:(a1 != 0)=true:=bne_iff_ne.mpr c13
        replace H:=zz30.mp H
        obtain ⟨t345,A140,H⟩:=H
        replace H:(if x6_2.length < 17592186044416 then (impl_TuranParty.l0 k2 a0 a1 (x6_2 ++ [wrap64 ((wrap64 (Int.tdiv a0 a1))+t345)]) a1 (wrap64 (x20_2+1))) else (none))=some (r1,r2,r3):=H
        have A14:=Aside0.mk A140
        clear A140
        by_cases c15:x6_2.length < 17592186044416
        ·rw [if_pos c15] at H
         have LMc15:=Aside0.mk c15
         clear c15
         obtain ⟨y346,hy346⟩:∃ y_:List Int,y_=(x6_2 ++ [wrap64 ((wrap64 (Int.tdiv a0 a1))+t345)]):=⟨_,rfl⟩
         replace H:(impl_TuranParty.l0 k2 a0 a1 y346 a1 (wrap64 (x20_2+1)))=some (r1,r2,r3):=by first | (rw [hy346];with_reducible exact H) | (have H2_:=(Option.bind_some _ _).symm.trans H;rw [hy346];with_reducible exact H2_) | (have H2_:=(Option.bind_some _ _).symm.trans H;with_reducible exact H2_) | with_reducible exact H | (rw [hy346];exact H) | exact H
         have Ny346:=Aside0.mk hy346
         clear hy346
         have H':=Aside0.mk H
         clear H
         try go_wp2
         have n0_:=Aside0.mk (zz14 HO_6.out)
         have n1_:=Aside0.mk (zz7 BK339.out)
         have n2_:=Aside0.mk (zz1 HB.out)
         clear HO_6
         clear BK339
         clear HB
         have HO_6:=n0_
         have BK339:=n1_
         have HB:=n2_
         clear n0_ n1_ n2_
         refine start_ (n:=14) (S:=fun w'=>True) (ds:=[]) #[F,F,F,F,F,F,F,F,F,F,F,F,F,F] (by kernel_rfl) rfl rfl trivial (fun hHeld=>?_);refine with_tabW impl_TuranParty.tab7 impl_TuranParty.bits7 (fun HT_ HW_=>?_)
         generalize wr.drew=w16 at HO_6 BK339 HB hHeld ⊢
         refine pure_ (i:=0) (N:=some 23) (v:=?_) (a':=?_) #[T,F,F,F,F,F,F,F,F,F,F,F,F,F] rfl rfl (any_of HT_.out (by kernel_rfl)) (fun _ _ _ h=>h) (Or.inl ⟨by rfl,?_⟩) ?_ ?_
         rotate_left
         ·intro w'
          go_simp
          with_reducible rfl
         rotate_left
         ·simp only [Act.put,zz21,zz22,zz23,i64_w,i32_w]
          rfl
         refine pure_ (i:=1) (N:=some 24) (v:=?_) (a':=?_) #[T,T,F,F,F,F,F,F,F,F,F,F,F,F] rfl rfl (any_of HT_.out (by kernel_rfl)) (fun _ _ _ h=>h) (Or.inl ⟨by rfl,?_⟩) ?_ ?_
         rotate_left
         ·intro w'
          go_simp
          with_reducible rfl
         rotate_left
         ·simp only [Act.put,zz21,zz22,zz23,i64_w,i32_w]
          rfl
         refine pure_ (i:=2) (N:=some 25) (v:=?_) (a':=?_) #[T,T,T,F,F,F,F,F,F,F,F,F,F,F] rfl rfl (any_of HT_.out (by kernel_rfl)) (fun _ _ _ h=>h) (Or.inl ⟨by rfl,?_⟩) ?_ ?_
         rotate_left
         ·intro w'
          go_simp
          with_reducible rfl
         rotate_left
         ·simp only [Act.put,zz21,zz22,zz23,i64_w,i32_w]
          rfl
         refine pure_ (i:=3) (N:=some 26) (v:=?_) (a':=?_) #[T,T,T,T,F,F,F,F,F,F,F,F,F,F] rfl rfl (any_of HT_.out (by kernel_rfl)) (fun _ _ _ h=>h) (Or.inl ⟨by rfl,?_⟩) ?_ ?_
         rotate_left
         ·intro w'
          go_simp
          with_reducible rfl
         rotate_left
         ·simp only [Act.put,zz21,zz22,zz23,i64_w,i32_w]
          rfl
         refine pure_ (i:=4) (N:=some 27) (v:=?_) (a':=?_) #[T,T,T,T,T,F,F,F,F,F,F,F,F,F] rfl rfl (any_of HT_.out (by kernel_rfl)) (fun _ _ _ h=>h) (Or.inl ⟨by rfl,?_⟩) ?_ ?_
         rotate_left
         ·intro w'
          go_simp
          with_reducible rfl
         rotate_left
         ·simp only [Act.put,zz21,zz22,zz23,i64_w,i32_w]
          rfl
         refine pure_ (i:=5) (N:=some 28) (v:=?_) (a':=?_) #[T,T,T,T,T,T,F,F,F,F,F,F,F,F] rfl rfl (any_of HT_.out (by kernel_rfl)) (fun _ _ _ h=>h) (Or.inl ⟨by rfl,?_⟩) ?_ ?_
         rotate_left
         ·intro w'
          go_simp
          with_reducible rfl
         rotate_left
         ·simp only [Act.put,zz21,zz22,zz23,i64_w,i32_w]
          rfl
         refine pure_ (i:=6) (N:=some 29) (v:=?_) (a':=?_) #[T,T,T,T,T,T,T,F,F,F,F,F,F,F] rfl rfl (any_of HT_.out (by kernel_rfl)) (fun _ _ _ h=>h) (Or.inl ⟨by rfl,?_⟩) ?_ ?_
         rotate_left
         ·intro w'
          go_simp
          with_reducible rfl
         rotate_left
         ·simp only [Act.put,zz21,zz22,zz23,i64_w,i32_w]
          rfl
         refine pure_ (i:=7) (N:=some 30) (v:=?_) (a':=?_) #[T,T,T,T,T,T,T,T,F,F,F,F,F,F] rfl rfl (any_of HT_.out (by kernel_rfl)) (fun _ _ _ h=>h) (Or.inl ⟨by rfl,?_⟩) ?_ ?_
         rotate_left
         ·intro w'
          go_simp
          with_reducible rfl
         rotate_left
         ·simp only [Act.put,zz21,zz22,zz23,i64_w,i32_w]
          rfl
         refine pure_ (i:=8) (N:=some 31) (v:=?_) (a':=?_) #[T,T,T,T,T,T,T,T,T,F,F,F,F,F] rfl rfl (any_of HT_.out (by kernel_rfl)) (fun _ _ _ h=>h) (Or.inl ⟨by rfl,?_⟩) ?_ ?_
         rotate_left
         ·intro w'
          go_simp
          with_reducible rfl
         rotate_left
         ·simp only [Act.put,zz21,zz22,zz23,i64_w,i32_w]
          rfl
         refine one_ (i:=9) (N:=some 32) #[T,T,T,T,T,T,T,T,T,T,F,F,F,F] rfl rfl (one_of HT_.out (by kernel_rfl)) (by decide) (fun K hK=>?_)
         refine goes_ Try.func79 (by kernel_rfl) rfl #[.bool (decide (x20_2 < (Int.tmod a0 a1)))] (by rfl) rfl rfl (by (try simp only [zz26,zz27,zz28]);first | done | rfl | (simp only [zz24,zz25];rfl) | (simp only [zz25];congr;(try simp only [decide_eq_true_eq] at *);omega)) ?_
         with_reducible refine (impl_bit.calls (decide (x20_2 < (Int.tmod a0 a1))) t345 _ A14.out).mono ?_
         rintro e w' ⟨rfl,⟨nd,rfl⟩⟩
         refine ⟨_,rfl,?_⟩
         refine hK.out _ _ trivial (fun hHeld=>?_)
         clear hK K
         refine norm_ (a':=?_) ?_ ?_
         rotate_left
         ·show Act.put _ (some 32) _=_
          simp only [Act.put,zz21,zz22,zz23,i64_w,i32_w]
          rfl
         refine pure_ (i:=10) (N:=some 33) (v:=?_) (a':=?_) #[T,T,T,T,T,T,T,T,T,T,T,F,F,F] rfl rfl (any_of HT_.out (by kernel_rfl)) (fun _ _ _ h=>h) (Or.inl ⟨by rfl,?_⟩) ?_ ?_
         rotate_left
         ·intro w'
          go_simp
          with_reducible rfl
         rotate_left
         ·simp only [Act.put,zz21,zz22,zz23,i64_w,i32_w]
          rfl
         refine one_ (i:=11) (N:=some 34) #[T,T,T,T,T,T,T,T,T,T,T,T,F,F] rfl rfl (one_of HT_.out (by kernel_rfl)) (by decide) (fun K hK=>?_)
         refine value_ (w1:=?_) (v:=?_) (by rfl) rfl ?_ ?_
         rotate_left 2
         ·go_simp
          constructor
          ·rfl
          ·rfl
         refine hK.out _ _ trivial (fun hHeld=>?_)
         clear hK K
         refine norm_ (a':=?_) ?_ ?_
         rotate_left
         ·show Act.put _ (some 34) _=_
          simp only [Act.put,zz21,zz22,zz23,i64_w,i32_w]
          rfl
         refine one_ (i:=12) (N:=some 35) #[T,T,T,T,T,T,T,T,T,T,T,T,T,F] rfl rfl (one_of HT_.out (by kernel_rfl)) (by decide) (fun K hK=>?_)
         refine Kd.R_append_step (Kd.int .i64) (w0:=w) w.heap.size (by rfl) (.tmp 23) (.tmp 34) 45 3 (.int .i64 0) 8 rfl Try.underlying45 info3 rfl (by decide) (by omega) u6 x6_2 (wrap64 ((wrap64 (Int.tdiv a0 a1))+t345)) [.int .i64 (wrap64 ((wrap64 (Int.tdiv a0 a1))+t345))] (fun _=>True) (fun _=>False) rfl rfl ?aP (fun _ hk=>hk.elim) ?aF ?aO ?aB ?aS ?aL ?_
         (case aP=>exact rfl)
         (case aB=>exact (by repeat first | exact HB.out | apply zz2 | apply zz0 | apply zz1 | refine zz3 ?_ GE339.out))
         (case aF=>exact (fun _ _=>trivial))
         (case aO=>exact (by (with_reducible repeat (first | apply zz12 | apply zz13 | apply zz14));exact HO_6.out))
         (case aS=>exact (zz5 (by repeat first | exact HB.out | apply zz2 | apply zz0 | apply zz1 | refine zz3 ?_ GE339.out)))
         (case aL=>have:=LMc15.out;omega)
         intro v347 w17 ho hb hg hat
         rw [← Ny346.out] at ho
         have n0_:=Aside0.mk (blk_grown (g:=gb339) (o:=.cells #[.int .i64 0,.slice none 0 0] 29 (0,0)) (by (with_reducible repeat (first | refine zz6 ?_ _ | refine zz7 ?_ | refine zz8 ?_ _));exact BK339.out) hg (Kd.R_ne HO_6.out BK339.out (by decide)))
         have n1_:=Aside0.mk (hb)
         have n2_:=Aside0.mk (ho)
         clear BK339
         clear HB
         clear HO_6
         have BK339:=n0_
         have HB:=n1_
         have HO348:=n2_
         clear n0_ n1_ n2_
         clear ho hb hg hat
         refine hK.out _ _ trivial (fun hHeld=>?_)
         clear hK K
         refine norm_ (a':=?_) ?_ ?_
         rotate_left
         ·show Act.put _ (some 35) _=_
          simp only [Act.put,zz21,zz22,zz23,i64_w,i32_w]
          rfl
         refine pure_ (i:=13) (N:=some 6) (v:=?_) (a':=?_) #[T,T,T,T,T,T,T,T,T,T,T,T,T,T] rfl rfl (any_of HT_.out (by kernel_rfl)) (fun _ _ _ h=>h) (Or.inl ⟨by rfl,?_⟩) ?_ ?_
         rotate_left
         ·intro w'
          go_simp
          with_reducible rfl
         rotate_left
         ·simp only [Act.put,zz21,zz22,zz23,i64_w,i32_w]
          rfl
         refine done_ (done_of HT_.out (by kernel_rfl)) ?_
         try go_wp2
         go_roundg k2
         case measure=>have:=HJ2.out;have:=HK2.out;omega
         case rel=>exact ⟨(y346),(wrap64 (x20_2+1)),(by first | rfl | (simp;done) | (simp [*];done)),H',⟨by have:=HJ2.out;have:=HK2.out;omega⟩,⟨by (with_reducible repeat (first | apply zz12 | apply zz13 | apply zz14));exact HO348.out⟩,⟨by (with_reducible repeat (first | refine zz6 ?_ _ | refine zz7 ?_ | refine zz8 ?_ _));exact BK339.out⟩,⟨by repeat first | exact HB.out | apply zz2 | apply zz0 | apply zz1 | refine zz3 ?_ GE339.out⟩⟩
        ·rw [if_neg c15] at H
         exact absurd H (by simp)
      ·rw [if_neg c12] at H
       have c12b0:decide (x20_2 < a1)=false:=decide_eq_false c12
       clear c12
       replace H:=zz30.mp H
       obtain ⟨⟨t349,t350⟩,A180,H⟩:=H
       replace H:(some (t349,t350,true))=some (r1,r2,r3):=H
       have A18:=Aside0.mk A180
       clear A180
       simp only [Option.some.injEq,Prod.mk.injEq] at H
       obtain ⟨rfl,rfl,rfl⟩:=H
       obtain ⟨Ao19,co19,eo19⟩:=Kd.R_slice HO_6.out
       subst eo19
       go_wp2_with (first | ((with_reducible refine gate_callee (f:=80) rfl ?_);refine goesL_ (some 38) rfl rfl Try.func80 (by kernel_rfl) rfl #[.slice Ao19 x6_2.length co19] rfl (by (try simp only [zz26,zz27,zz28]);first | done | rfl | (simp only [zz24,zz25];rfl) | (simp only [zz25];congr;(try simp only [decide_eq_true_eq] at *);omega)) ?_;(with_reducible refine (impl_partsParty.calls k2 _ _ x6_2 t349 t350 _ ?side1 ?side2 A18.out).mono ?_);(case side1=>repeat (first | exact (Kd.R_reads' HO_6.out).2.2 | (with_reducible refine zz18 ?_ _) | (with_reducible refine zz19 ?_ _) | (with_reducible refine zz20 ?_)));(case side2=>exact (Kd.R_reads' HO_6.out).2.1);rintro e w20 ⟨v351,rfl,ho0,hb⟩;refine ⟨_,rfl,?_⟩;have n0_:=Aside0.mk (Kd.R_below (by (with_reducible repeat (first | apply zz12 | apply zz13 | apply zz14));exact HO_6.out) hb);have n1_:=Aside0.mk (Kd.R_lower ho0 (zz5 (by repeat first | exact HB.out | apply zz2 | apply zz0 | apply zz1 | refine zz3 ?_ GE339.out)));have n2_:=Aside0.mk (zz11 (g:=gb339) (o:=.cells #[.int .i64 0,.slice none 0 0] 29 (0,0)) (by (with_reducible repeat (first | refine zz6 ?_ _ | refine zz7 ?_ | refine zz8 ?_ _));exact BK339.out) hb);have n3_:=Aside0.mk (zz4 (by repeat first | exact HB.out | apply zz2 | apply zz0 | apply zz1 | refine zz3 ?_ GE339.out) hb);clear HO_6;clear BK339;clear HB;have HO_6:=n0_;have HO352:=n1_;have BK339:=n2_;have HB:=n3_;clear n0_ n1_ n2_ n3_;(try clear hb);(try clear hb2);(try clear hk);(try clear hi);(try clear ho0);have hcz21_0:w20.cell? ⟨gb339,0,none⟩=some (.int .i64 0):=(zz9 BK339.out 0).trans rfl;have hcz21_1:w20.cell? ⟨gb339,1,none⟩=some (.slice none 0 0):=(zz9 BK339.out 1).trans rfl;have hfz21_0:=zz10 BK339.out 0;have hfz21_1:=zz10 BK339.out 1;obtain ⟨Ao22,co22,eo22⟩:=Kd.R_slice HO352.out;subst eo22))
       refine bodyPost_ret (results_ct rfl _ _ gb339 29 #[.int .i64 t349,.slice Ao22 t350.length co22] (0,0) _ rfl (by (with_reducible repeat (first | refine zz6 ?_ _ | refine zz7 ?_ | refine zz8 ?_ _));refine blk_put (cs:=#[.int .i64 t349,.slice none 0 0]) ?_ 1 _ rfl;(with_reducible repeat (first | refine zz6 ?_ _ | refine zz7 ?_ | refine zz8 ?_ _));refine blk_put (cs:=#[.int .i64 0,.slice none 0 0]) ?_ 0 _ rfl;(with_reducible repeat (first | refine zz6 ?_ _ | refine zz7 ?_ | refine zz8 ?_ _));exact BK339.out) Try.underlying29 rfl (by kernel_rfl)) rfl ?_
       exact ⟨_,by first | rfl | (simp [errW_none,errW_some] <;> rfl) | (simp [*,errW_none,errW_some] <;> rfl),by (with_reducible repeat (first | apply zz12 | apply zz13 | apply zz14));exact Kd.R_mono (Kd.R_far (p:=⟨gb339,1,none⟩) (Kd.R_far (p:=⟨gb339,0,none⟩) (Kd.R_types HO352.out BK339.out (by decide)) (fun _ hk=>hk.2) (.int .i64 t349)) (fun _ hk=>hk.2) (.slice Ao22 t350.length co22)) (fun _ hk=>trivial),by repeat first | exact HB.out | apply zz2 | apply zz0 | apply zz1 | refine zz3 ?_ GE339.out⟩

end Go.Proofs.Ytiopgbpjkjnphaa.P
