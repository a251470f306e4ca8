-- PRINTED by print.py (a twelfth state) out of the translation. Not trusted: Lean checks it.
import Derived.Test.YtiopgbpjkjnphaaPx0
import Derived.Test.YtiopgbpjkjnphaaPx2
import Derived.Test.YtiopgbpjkjnphaaPx13
import Derived.Test.YtiopgbpjkjnphaaPx14
namespace Go.Proofs.Ytiopgbpjkjnphaa.P
open Go.RowKit Go.Proofs.YtiopgbpjkjnphaaW.PrintWords Go.Proofs.YtiopgbpjkjnphaaW.PrintLast Go.Proofs.YtiopgbpjkjnphaaW.PrintMore
attribute [local go_sem] max2_int min2_int max_two min_two max_three min_three max_four min_four   -- for this text's walks alone
set_option linter.unusedVariables false
set_option linter.unusedSimpArgs false

/-! ### spec_MostWithout: function 24 -/
def spec_MostWithout.j0:Nat→Int→Int→Bool→Option (Int × Bool)
 | 0,_,_,_=>none
 | k+1,x0,x1,x15=>if x15=true then (some (0,false)) else ((spec_grEven.f k x0 (wrap64 (x1 - 1))).bind fun t304=>((spec_grParts.f k t304).bind fun bt307=>(some ((bt307.2.length:Int),true))))
def spec_MostWithout.f (k:Nat) (a0:Int) (a1:Int):Option (Int × Bool):=(spec_l1In.f a0 1 12).bind fun t302=>(if t302=true then ((spec_l1In.f a1 2 (wrap64 (a0+1))).bind fun t303=>(spec_MostWithout.j0 k a0 a1 (!t303))) else (spec_MostWithout.j0 k a0 a1 true))
theorem spec_MostWithout.mono_l:∀ k,(∀ y0 y1 y2,LeO (spec_MostWithout.j0 k y0 y1 y2) (spec_MostWithout.j0 (k+1) y0 y1 y2))
 | 0=>fun _ _ _ r h=>by simp [spec_MostWithout.j0] at h
 | k+1=>by
  have ih0:=spec_MostWithout.mono_l k
  ·intro y0 y1 y2
   unfold spec_MostWithout.j0
   repeat' first
   | (with_reducible exact ih0 _ _ _)
   | (with_reducible exact spec_grEven.mono _ _ _)
   | (with_reducible exact spec_grParts.mono _ _)
   | (with_reducible exact LeO.refl _)
   | (with_reducible exact LeO.none _)
   | (with_reducible refine LeO.ite ?_ ?_)
   | (with_reducible refine LeO.bind ?_ (fun _=>?_))
   | exact ih0 _ _ _
   | exact spec_grEven.mono _ _ _
   | exact spec_grParts.mono _ _
   | exact LeO.none _
   | refine LeO.ite ?_ ?_
   | refine LeO.bind ?_ (fun _=>?_)
theorem spec_MostWithout.mono:∀ a0 a1 k,LeO (spec_MostWithout.f k a0 a1) (spec_MostWithout.f (k+1) a0 a1):=by
 intro a0 a1 k
 have ih0:=spec_MostWithout.mono_l k
 unfold spec_MostWithout.f
 repeat' first
   | (with_reducible exact ih0 _ _ _)
   | (with_reducible exact spec_grEven.mono _ _ _)
   | (with_reducible exact spec_grParts.mono _ _)
   | (with_reducible exact LeO.refl _)
   | (with_reducible exact LeO.none _)
   | (with_reducible refine LeO.ite ?_ ?_)
   | (with_reducible refine LeO.bind ?_ (fun _=>?_))
   | exact ih0 _ _ _
   | exact spec_grEven.mono _ _ _
   | exact spec_grParts.mono _ _
   | exact LeO.none _
   | refine LeO.ite ?_ ?_
   | refine LeO.bind ?_ (fun _=>?_)
set_option maxHeartbeats 8000000 in
set_option maxRecDepth 100000 in
theorem spec_MostWithout.calls (k:Nat) (a0:Int) (a1:Int) (r1:Int) (r2:Bool) (w:World) (h:spec_MostWithout.f k a0 a1=some (r1,r2)) :
  Calls Try.prog 24 #[.int .i64 a0,.int .i64 a1] w fun e w'=>e=.returned (.tuple #[.int .i64 r1,.bool r2])∧Below w.heap.size w w':=by
 have hu29:=Try.underlying29
 have hfl29_1:∀ (f0_ f1_:Value) (W_:World),(Instr.field 29 (.agg #[f0_,f1_]) 1).run Try.prog W_=.ok f1_ W_:=fun f0_ f1_ W_=>by kernel_rfl
 have HB:=Aside0.mk (Below.refl w.heap.size w)
 have H:((spec_l1In.f a0 1 12).bind fun t302=>(if t302=true then ((spec_l1In.f a1 2 (wrap64 (a0+1))).bind fun t303=>(spec_MostWithout.j0 k a0 a1 (!t303))) else (spec_MostWithout.j0 k a0 a1 true)))=some (r1,r2):=h
 clear h
 have HC3:=Aside0.mk H
 clear H
 go_enter Try.func24,Try.ntmps24
 go_upto_region 1 with (fail)
 go_cut [15] (fun v15 wc=>∃ (kq:Nat) (x15_2:Bool),v15=.bool x15_2∧Aside0 (spec_MostWithout.j0 kq a0 a1 x15_2=some (r1,r2))∧Aside0 (kq≤k)∧Aside0 (Below w.heap.size w wc))
 case first =>
  have H:=HC3.out
  clear HC3
  replace H:=zz30.mp H
  obtain ⟨t302,A40,H⟩:=H
  replace H:(if t302=true then ((spec_l1In.f a1 2 (wrap64 (a0+1))).bind fun t303=>(spec_MostWithout.j0 k a0 a1 (!t303))) else (spec_MostWithout.j0 k a0 a1 true))=some (r1,r2):=H
  have A4:=Aside0.mk A40
  clear A40
  by_cases c5:t302=true
  ·subst c5
   have H1:((spec_l1In.f a1 2 (wrap64 (a0+1))).bind fun t303=>(spec_MostWithout.j0 k a0 a1 (!t303)))=some (r1,r2):=by rw [if_pos rfl] at H;exact H
   clear H
   have H:=H1
   clear H1
   replace H:=zz30.mp H
   obtain ⟨t303,A60,H⟩:=H
   replace H:(spec_MostWithout.j0 k a0 a1 (!t303))=some (r1,r2):=H
   have A6:=Aside0.mk A60
   clear A60
   have H':=Aside0.mk H
   clear H
   go_wp2_with (first | ((with_reducible refine gate_callee (f:=60) rfl ?_);refine goesL_ (some 7) rfl rfl Try.func60 (by kernel_rfl) rfl #[.int .i64 a0,.int .i64 1,.int .i64 12] rfl (by (try simp only [zz26,zz27,zz28]);first | done | rfl | (simp only [zz24,zz25];rfl) | (simp only [zz25];congr;(try simp only [decide_eq_true_eq] at *);omega)) ?_;(with_reducible refine (spec_l1In.calls a0 1 12 true _ A4.out).mono ?_);rintro e w' ⟨rfl,⟨nd,rfl⟩⟩;refine ⟨_,rfl,?_⟩) | (go_at_call 60;(with_reducible refine (spec_l1In.calls a1 2 (wrap64 (a0+1)) t303 _ A6.out).mono ?_);rintro e w' ⟨rfl,⟨nd,rfl⟩⟩))
   go_meet
   case rel=>exact ⟨_,(!t303),(by first | rfl | (simp;done) | (simp [*];done)),H',⟨by first | omega | exact Nat.le_refl _⟩,⟨by repeat first | exact HB.out | apply zz2 | apply zz0 | apply zz1⟩⟩
  ·replace c5:=Bool.eq_false_iff.mpr c5
   subst c5
   have H1:(spec_MostWithout.j0 k a0 a1 true)=some (r1,r2):=by rw [if_neg (show ¬ (false=true) by decide)] at H;exact H
   clear H
   have H:=H1
   clear H1
   have H':=Aside0.mk H
   clear H
   go_wp2_with (first | ((with_reducible refine gate_callee (f:=60) rfl ?_);refine goesL_ (some 7) rfl rfl Try.func60 (by kernel_rfl) rfl #[.int .i64 a0,.int .i64 1,.int .i64 12] rfl (by (try simp only [zz26,zz27,zz28]);first | done | rfl | (simp only [zz24,zz25];rfl) | (simp only [zz25];congr;(try simp only [decide_eq_true_eq] at *);omega)) ?_;(with_reducible refine (spec_l1In.calls a0 1 12 false _ A4.out).mono ?_);rintro e w' ⟨rfl,⟨nd,rfl⟩⟩;refine ⟨_,rfl,?_⟩))
   go_meet
   case rel=>exact ⟨_,(true),(by first | rfl | (simp;done) | (simp [*];done)),H',⟨by first | omega | exact Nat.le_refl _⟩,⟨by repeat first | exact HB.out | apply zz2 | apply zz0 | apply zz1⟩⟩
 case rest =>
  clear HC3
  try clear c2
  try clear p2
  try clear c5
  try clear c6
  try clear p6
  obtain ⟨kq,x15_2,rfl,HA,HJ2,HB⟩:=hcut
  cases kq with
  | zero=>exact absurd HA.out (by simp [spec_MostWithout.j0])
  | succ kj2 =>
   have H:=HA.out
   clear HA
   simp only [spec_MostWithout.j0] at H
   by_cases c7:x15_2=true
   ·subst c7
    have H1:(some (0,false))=some (r1,r2):=by rw [if_pos rfl] at H;exact H
    clear H
    have H:=H1
    clear H1
    simp only [Option.some.injEq,Prod.mk.injEq] at H
    obtain ⟨rfl,rfl⟩:=H
    go_wp2
    go_ret2
    exact ⟨by first | rfl | (simp [errW_none,errW_some] <;> rfl) | (simp [*,errW_none,errW_some] <;> rfl),by repeat first | exact HB.out | apply zz2 | apply zz0 | apply zz1⟩
   ·replace c7:=Bool.eq_false_iff.mpr c7
    subst c7
    have H1:((spec_grEven.f kj2 a0 (wrap64 (a1 - 1))).bind fun t304=>((spec_grParts.f kj2 t304).bind fun bt307=>(some ((bt307.2.length:Int),true))))=some (r1,r2):=by rw [if_neg (show ¬ (false=true) by decide)] at H;exact H
    clear H
    have H:=H1
    clear H1
    replace H:=zz30.mp H
    obtain ⟨t304,A80,H⟩:=H
    replace H:((spec_grParts.f kj2 t304).bind fun bt307=>(some ((bt307.2.length:Int),true)))=some (r1,r2):=H
    have A8:=Aside0.mk A80
    clear A80
    replace H:=zz30.mp H
    obtain ⟨⟨t307,t308⟩,A90,H⟩:=H
    replace H:(some ((t308.length:Int),true))=some (r1,r2):=H
    have A9:=Aside0.mk A90
    clear A90
    simp only [Option.some.injEq,Prod.mk.injEq] at H
    obtain ⟨rfl,rfl⟩:=H
    go_wp2_with (first | ((with_reducible refine gate_callee (f:=62) rfl ?_);refine goesL_ (some 19) rfl rfl Try.func62 (by kernel_rfl) rfl #[.int .i64 a0,.int .i64 (wrap64 (a1 - 1))] rfl (by (try simp only [zz26,zz27,zz28]);first | done | rfl | (simp only [zz24,zz25];rfl) | (simp only [zz25];congr;(try simp only [decide_eq_true_eq] at *);omega)) ?_;(with_reducible refine (spec_grEven.calls kj2 a0 (wrap64 (a1 - 1)) t304 _ A8.out).mono ?_);rintro e w10 ⟨v305,rfl,ho0,hb⟩;refine ⟨_,rfl,?_⟩;have n0_:=Aside0.mk (Kd.R_lower ho0 (zz5 (by repeat first | exact HB.out | apply zz2 | apply zz0 | apply zz1)));have n1_:=Aside0.mk (zz4 (by repeat first | exact HB.out | apply zz2 | apply zz0 | apply zz1) hb);clear HB;have HO306:=n0_;have HB:=n1_;clear n0_ n1_;(try clear hb);(try clear hb2);(try clear hk);(try clear hi);(try clear ho0);obtain ⟨Ao11,co11,eo11⟩:=Kd.R_slice HO306.out;subst eo11) | ((with_reducible refine gate_callee (f:=61) rfl ?_);refine goesL_ (some 20) rfl rfl Try.func61 (by kernel_rfl) rfl #[.slice Ao11 t304.length co11] rfl (by (try simp only [zz26,zz27,zz28]);first | done | rfl | (simp only [zz24,zz25];rfl) | (simp only [zz25];congr;(try simp only [decide_eq_true_eq] at *);omega)) ?_;(with_reducible refine (spec_grParts.calls kj2 _ _ t304 t307 t308 _ ?side1 ?side2 A9.out).mono ?_);(case side1=>repeat (first | exact (Kd.R_reads' HO306.out).2.2 | (with_reducible refine zz18 ?_ _) | (with_reducible refine zz19 ?_ _) | (with_reducible refine zz20 ?_)));(case side2=>exact (Kd.R_reads' HO306.out).2.1);rintro e w12 ⟨v309,rfl,ho0,hb⟩;refine ⟨_,rfl,?_⟩;have n0_:=Aside0.mk (Kd.R_below (by (with_reducible repeat (first | apply zz12 | apply zz13 | apply zz14));exact HO306.out) hb);have n1_:=Aside0.mk (Kd.R_lower ho0 (zz5 (by repeat first | exact HB.out | apply zz2 | apply zz0 | apply zz1)));have n2_:=Aside0.mk (zz4 (by repeat first | exact HB.out | apply zz2 | apply zz0 | apply zz1) hb);clear HO306;clear HB;have HO306:=n0_;have HO310:=n1_;have HB:=n2_;clear n0_ n1_ n2_;(try clear hb);(try clear hb2);(try clear hk);(try clear hi);(try clear ho0);obtain ⟨Ao13,co13,eo13⟩:=Kd.R_slice HO310.out;subst eo13))
    go_ret2
    exact ⟨by first | rfl | (simp [errW_none,errW_some] <;> rfl) | (simp [*,errW_none,errW_some] <;> rfl),by repeat first | exact HB.out | apply zz2 | apply zz0 | apply zz1⟩

/-! ### impl_MostWithout: function 25 -/
def impl_MostWithout.f (k:Nat) (a0:Int) (a1:Int):Option (Int × Bool):=(impl_TuranParty.f k a0 (wrap64 (a1 - 1))).bind fun bt353=>(some ((bt353.2.1.length:Int),bt353.2.2))
theorem impl_MostWithout.mono:∀ a0 a1 k,LeO (impl_MostWithout.f k a0 a1) (impl_MostWithout.f (k+1) a0 a1):=by
 intro a0 a1 k
 unfold impl_MostWithout.f
 repeat' first
   | (with_reducible exact impl_TuranParty.mono _ _ _)
   | (with_reducible exact LeO.refl _)
   | (with_reducible exact LeO.none _)
   | (with_reducible refine LeO.ite ?_ ?_)
   | (with_reducible refine LeO.bind ?_ (fun _=>?_))
   | exact impl_TuranParty.mono _ _ _
   | exact LeO.none _
   | refine LeO.ite ?_ ?_
   | refine LeO.bind ?_ (fun _=>?_)
set_option maxHeartbeats 8000000 in
set_option maxRecDepth 100000 in
theorem impl_MostWithout.calls (k:Nat) (a0:Int) (a1:Int) (r1:Int) (r2:Bool) (w:World) (h:impl_MostWithout.f k a0 a1=some (r1,r2)) :
  Calls Try.prog 25 #[.int .i64 a0,.int .i64 a1] w fun e w'=>e=.returned (.tuple #[.int .i64 r1,.bool r2])∧Below w.heap.size w w':=by
 have hu29:=Try.underlying29
 have HB:=Aside0.mk (Below.refl w.heap.size w)
 have H:((impl_TuranParty.f k a0 (wrap64 (a1 - 1))).bind fun bt353=>(some ((bt353.2.1.length:Int),bt353.2.2)))=some (r1,r2):=h
 clear h
 replace H:=zz30.mp H
 obtain ⟨⟨t353,t354,t357⟩,A30,H⟩:=H
 replace H:(some ((t354.length:Int),t357))=some (r1,r2):=H
 have A3:=Aside0.mk A30
 clear A30
 simp only [Option.some.injEq,Prod.mk.injEq] at H
 obtain ⟨rfl,rfl⟩:=H
 go_enter Try.func25,Try.ntmps25
 go_wp2_with (first | ((with_reducible refine gate_callee (f:=43) rfl ?_);refine goesL_ (some 12) rfl rfl Try.func43 (by kernel_rfl) rfl #[.int .i64 a0,.int .i64 (wrap64 (a1 - 1))] rfl (by (try simp only [zz26,zz27,zz28]);first | done | rfl | (simp only [zz24,zz25];rfl) | (simp only [zz25];congr;(try simp only [decide_eq_true_eq] at *);omega)) ?_;(with_reducible refine (impl_TuranParty.calls k a0 (wrap64 (a1 - 1)) t353 t354 t357 _ A3.out).mono ?_);rintro e w4 ⟨v355,rfl,ho0,hb⟩;refine ⟨_,rfl,?_⟩;have n0_:=Aside0.mk (Kd.R_lower ho0 (zz5 (by repeat first | exact HB.out | apply zz2 | apply zz0 | apply zz1)));have n1_:=Aside0.mk (zz4 (by repeat first | exact HB.out | apply zz2 | apply zz0 | apply zz1) hb);clear HB;have HO356:=n0_;have HB:=n1_;clear n0_ n1_;(try clear hb);(try clear hb2);(try clear hk);(try clear hi);(try clear ho0)) | ((with_reducible refine gate_dst (N:=6) rfl ?_);refine box_event ?hg (N:=6) ?hd (cs:=#[.int .i64 0,.slice none 0 0]) (t:=29) ?hr ?_;(case hd=>rfl);(case hg=>rfl);(case hr=>first | (go_simp;done) | (go_simp;rfl));intro gb358 hg w5 hbox hb;have n0_:=Aside0.mk (Kd.R_below (by (with_reducible repeat (first | apply zz12 | apply zz13 | apply zz14));exact HO356.out) hb);have n1_:=Aside0.mk (zz4 (by repeat first | exact HB.out | apply zz2 | apply zz0 | apply zz1) hb);have n2_:=Aside0.mk (hbox);have n3_:=Aside0.mk ((by rw [hg];exact (zz5 (by repeat first | exact HB.out | apply zz2 | apply zz0 | apply zz1)):w.heap.size≤gb358));have n4_:=Aside0.mk ((by rw [hg];exact (zz5 (by repeat first | exact HB.out | apply zz2 | apply zz0 | apply zz1)):w.heap.size≤gb358));clear HO356;clear HB;have HO356:=n0_;have HB:=n1_;have BK358:=n2_;have GW358:=n3_;have GE358:=n4_;clear n0_ n1_ n2_ n3_ n4_;clear hb hbox hg;have hcz6_0:w5.cell? ⟨gb358,0,none⟩=some (.int .i64 0):=(zz9 BK358.out 0).trans rfl;have hcz6_1:w5.cell? ⟨gb358,1,none⟩=some (.slice none 0 0):=(zz9 BK358.out 1).trans rfl;have hfz6_0:=zz10 BK358.out 0;have hfz6_1:=zz10 BK358.out 1;obtain ⟨Ao7,co7,eo7⟩:=Kd.R_slice HO356.out;subst eo7))
 go_ret2
 exact ⟨by first | rfl | (simp [errW_none,errW_some] <;> rfl) | (simp [*,errW_none,errW_some] <;> rfl),by repeat first | exact HB.out | apply zz2 | apply zz0 | apply zz1 | refine zz3 ?_ GE358.out⟩

/-! ### laws_FnExactMostWithout: function 5 -/
def laws_FnExactMostWithout.f (k:Nat) (a0:Int) (a1:Int):Option (Bool):=(spec_MostWithout.f k a0 a1).bind fun bt359=>((impl_MostWithout.f k a0 a1).bind fun bt361=>(if bt361.1=bt359.1 then (if (bt361.2 != bt359.2)=true then (some false) else (some true)) else (some false)))
theorem laws_FnExactMostWithout.mono:∀ a0 a1 k,LeO (laws_FnExactMostWithout.f k a0 a1) (laws_FnExactMostWithout.f (k+1) a0 a1):=by
 intro a0 a1 k
 unfold laws_FnExactMostWithout.f
 repeat' first
   | (with_reducible exact impl_MostWithout.mono _ _ _)
   | (with_reducible exact spec_MostWithout.mono _ _ _)
   | (with_reducible exact LeO.refl _)
   | (with_reducible exact LeO.none _)
   | (with_reducible refine LeO.ite ?_ ?_)
   | (with_reducible refine LeO.bind ?_ (fun _=>?_))
   | exact impl_MostWithout.mono _ _ _
   | exact spec_MostWithout.mono _ _ _
   | exact LeO.none _
   | refine LeO.ite ?_ ?_
   | refine LeO.bind ?_ (fun _=>?_)
set_option maxHeartbeats 8000000 in
set_option maxRecDepth 100000 in
theorem laws_FnExactMostWithout.calls (k:Nat) (a0:Int) (a1:Int) (r:Bool) (w:World) (h:laws_FnExactMostWithout.f k a0 a1=some r) :
  Calls Try.prog 5 #[.int .i64 a0,.int .i64 a1] w fun e w'=>e=.returned (.bool r)∧Below w.heap.size w w':=by
 have HB:=Aside0.mk (Below.refl w.heap.size w)
 have H:((spec_MostWithout.f k a0 a1).bind fun bt359=>((impl_MostWithout.f k a0 a1).bind fun bt361=>(if bt361.1=bt359.1 then (if (bt361.2 != bt359.2)=true then (some false) else (some true)) else (some false))))=some r:=h
 clear h
 replace H:=zz30.mp H
 obtain ⟨⟨t359,t360⟩,A30,H⟩:=H
 replace H:((impl_MostWithout.f k a0 a1).bind fun bt361=>(if bt361.1=t359 then (if (bt361.2 != t360)=true then (some false) else (some true)) else (some false)))=some r:=H
 have A3:=Aside0.mk A30
 clear A30
 replace H:=zz30.mp H
 obtain ⟨⟨t361,t362⟩,A40,H⟩:=H
 replace H:(if t361=t359 then (if (t362 != t360)=true then (some false) else (some true)) else (some false))=some r:=H
 have A4:=Aside0.mk A40
 clear A40
 by_cases c5:t361=t359
 ·rw [if_pos c5] at H
  have c5b0:(t361 == t359)=true:=beq_iff_eq.mpr c5
  have c5b1:(t361 != t359)=false:=bne_eq_false_iff_eq.mpr c5
  clear c5
  by_cases c6:(t362 != t360)=true
  ·rw [if_pos c6] at H
   have c6b0:(t362 != t360)=true:=c6
   (try (have c6b1:decide (t362=t360)=false:=by simpa using c6))
   (try (have c6b2:(t362 == t360)=false:=by simpa using c6))
   (try (have c6b3:¬ (t362=t360):=by simpa using c6))
   clear c6
   obtain rfl:=Option.some.inj H
   go_enter Try.func5,Try.ntmps5
   go_wp2_with (first | ((with_reducible refine gate_callee (f:=24) rfl ?_);refine goesL_ (some 12) rfl rfl Try.func24 (by kernel_rfl) rfl #[.int .i64 a0,.int .i64 a1] rfl (by (try simp only [zz26,zz27,zz28]);first | done | rfl | (simp only [zz24,zz25];rfl) | (simp only [zz25];congr;(try simp only [decide_eq_true_eq] at *);omega)) ?_;(with_reducible refine (spec_MostWithout.calls k a0 a1 t359 t360 _ A3.out).mono ?_);rintro e w7 ⟨rfl,hb⟩;refine ⟨_,rfl,?_⟩;have n0_:=Aside0.mk (zz4 (by repeat first | exact HB.out | apply zz2 | apply zz0 | apply zz1) hb);clear HB;have HB:=n0_;clear n0_;(try clear hb);(try clear hb2);(try clear hk);(try clear hi)) | ((with_reducible refine gate_callee (f:=25) rfl ?_);refine goesL_ (some 18) rfl rfl Try.func25 (by kernel_rfl) rfl #[.int .i64 a0,.int .i64 a1] rfl (by (try simp only [zz26,zz27,zz28]);first | done | rfl | (simp only [zz24,zz25];rfl) | (simp only [zz25];congr;(try simp only [decide_eq_true_eq] at *);omega)) ?_;(with_reducible refine (impl_MostWithout.calls k a0 a1 t361 t362 _ A4.out).mono ?_);rintro e w8 ⟨rfl,hb⟩;refine ⟨_,rfl,?_⟩;have n0_:=Aside0.mk (zz4 (by repeat first | exact HB.out | apply zz2 | apply zz0 | apply zz1) hb);clear HB;have HB:=n0_;clear n0_;(try clear hb);(try clear hb2);(try clear hk);(try clear hi)))
   go_ret
   exact ⟨by first | rfl | (simp [errW_none,errW_some] <;> rfl) | (simp [*,errW_none,errW_some] <;> rfl),by repeat first | exact HB.out | apply zz2 | apply zz0 | apply zz1⟩
  ·rw [if_neg c6] at H
   have c6b0:(t362 != t360)=false:=by simpa using c6
   (try (have c6b1:decide (t362=t360)=true:=by simpa using c6))
   (try (have c6b2:(t362 == t360)=true:=by simpa using c6))
   clear c6
   obtain rfl:=Option.some.inj H
   go_enter Try.func5,Try.ntmps5
   go_wp2_with (first | ((with_reducible refine gate_callee (f:=24) rfl ?_);refine goesL_ (some 12) rfl rfl Try.func24 (by kernel_rfl) rfl #[.int .i64 a0,.int .i64 a1] rfl (by (try simp only [zz26,zz27,zz28]);first | done | rfl | (simp only [zz24,zz25];rfl) | (simp only [zz25];congr;(try simp only [decide_eq_true_eq] at *);omega)) ?_;(with_reducible refine (spec_MostWithout.calls k a0 a1 t359 t360 _ A3.out).mono ?_);rintro e w9 ⟨rfl,hb⟩;refine ⟨_,rfl,?_⟩;have n0_:=Aside0.mk (zz4 (by repeat first | exact HB.out | apply zz2 | apply zz0 | apply zz1) hb);clear HB;have HB:=n0_;clear n0_;(try clear hb);(try clear hb2);(try clear hk);(try clear hi)) | ((with_reducible refine gate_callee (f:=25) rfl ?_);refine goesL_ (some 18) rfl rfl Try.func25 (by kernel_rfl) rfl #[.int .i64 a0,.int .i64 a1] rfl (by (try simp only [zz26,zz27,zz28]);first | done | rfl | (simp only [zz24,zz25];rfl) | (simp only [zz25];congr;(try simp only [decide_eq_true_eq] at *);omega)) ?_;(with_reducible refine (impl_MostWithout.calls k a0 a1 t361 t362 _ A4.out).mono ?_);rintro e w10 ⟨rfl,hb⟩;refine ⟨_,rfl,?_⟩;have n0_:=Aside0.mk (zz4 (by repeat first | exact HB.out | apply zz2 | apply zz0 | apply zz1) hb);clear HB;have HB:=n0_;clear n0_;(try clear hb);(try clear hb2);(try clear hk);(try clear hi)))
   go_ret
   exact ⟨by first | rfl | (simp [errW_none,errW_some] <;> rfl) | (simp [*,errW_none,errW_some] <;> rfl),by repeat first | exact HB.out | apply zz2 | apply zz0 | apply zz1⟩
 ·rw [if_neg c5] at H
  have c5b0:(t361 == t359)=false:=beq_eq_false_iff_ne.mpr c5
  have c5b1:(t361 != t359)=true:=bne_iff_ne.mpr c5
  obtain rfl:=Option.some.inj H
  go_enter Try.func5,Try.ntmps5
  go_wp2_with (first | ((with_reducible refine gate_callee (f:=24) rfl ?_);refine goesL_ (some 12) rfl rfl Try.func24 (by kernel_rfl) rfl #[.int .i64 a0,.int .i64 a1] rfl (by (try simp only [zz26,zz27,zz28]);first | done | rfl | (simp only [zz24,zz25];rfl) | (simp only [zz25];congr;(try simp only [decide_eq_true_eq] at *);omega)) ?_;(with_reducible refine (spec_MostWithout.calls k a0 a1 t359 t360 _ A3.out).mono ?_);rintro e w11 ⟨rfl,hb⟩;refine ⟨_,rfl,?_⟩;have n0_:=Aside0.mk (zz4 (by repeat first | exact HB.out | apply zz2 | apply zz0 | apply zz1) hb);clear HB;have HB:=n0_;clear n0_;(try clear hb);(try clear hb2);(try clear hk);(try clear hi)) | ((with_reducible refine gate_callee (f:=25) rfl ?_);refine goesL_ (some 18) rfl rfl Try.func25 (by kernel_rfl) rfl #[.int .i64 a0,.int .i64 a1] rfl (by (try simp only [zz26,zz27,zz28]);first | done | rfl | (simp only [zz24,zz25];rfl) | (simp only [zz25];congr;(try simp only [decide_eq_true_eq] at *);omega)) ?_;(with_reducible refine (impl_MostWithout.calls k a0 a1 t361 t362 _ A4.out).mono ?_);rintro e w12 ⟨rfl,hb⟩;refine ⟨_,rfl,?_⟩;have n0_:=Aside0.mk (zz4 (by repeat first | exact HB.out | apply zz2 | apply zz0 | apply zz1) hb);clear HB;have HB:=n0_;clear n0_;(try clear hb);(try clear hb2);(try clear hk);(try clear hi)))
  go_ret
  exact ⟨by first | rfl | (simp [errW_none,errW_some] <;> rfl) | (simp [*,errW_none,errW_some] <;> rfl),by repeat first | exact HB.out | apply zz2 | apply zz0 | apply zz1⟩

/-- THE ONE PURE STATEMENT of laws_FnExactMostWithout: yours. -/
def laws_FnExactMostWithout.Pure:Prop:=∀ (a0:Int) (a1:Int),(Lit.int .i64 a0).wf=true→(Lit.int .i64 a1).wf=true→∃ k,laws_FnExactMostWithout.f k a0 a1=some true
theorem laws_FnExactMostWithout.walk (P:laws_FnExactMostWithout.Pure) (a0:Int) (a1:Int) (w:World) (w0:(Lit.int .i64 a0).wf=true) (w1:(Lit.int .i64 a1).wf=true) :
  Calls Try.prog 5 #[.int .i64 a0,.int .i64 a1] w fun e w'=>e=.returned (.bool true)∧Below w.heap.size w w':=by
 obtain ⟨k,h⟩:=P a0 a1 w0 w1
 refine (laws_FnExactMostWithout.calls k a0 a1 true w h).mono ?_
 rintro e w' ⟨rfl,hd⟩
 exact ⟨rfl,hd⟩

end Go.Proofs.Ytiopgbpjkjnphaa.P
