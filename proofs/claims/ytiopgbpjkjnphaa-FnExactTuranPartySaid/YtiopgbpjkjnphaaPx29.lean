-- PRINTED by print.py (a twelfth state) out of the translation. Not trusted: Lean checks it.
import Derived.Test.YtiopgbpjkjnphaaPx0
import Derived.Test.YtiopgbpjkjnphaaPx2
import Derived.Test.YtiopgbpjkjnphaaPx6
import Derived.Test.YtiopgbpjkjnphaaPx11
import Derived.Test.YtiopgbpjkjnphaaPx12
import Derived.Test.YtiopgbpjkjnphaaPx13
import Derived.Test.YtiopgbpjkjnphaaPx14
namespace Go.Proofs.Ytiopgbpjkjnphaa.P
open Go.RowKit Go.Proofs.YtiopgbpjkjnphaaW.PrintWords Go.Proofs.YtiopgbpjkjnphaaW.PrintLast Go.Proofs.YtiopgbpjkjnphaaW.PrintMore
attribute [local go_sem] max2_int min2_int max_two min_two max_three min_three max_four min_four   -- for this text's walks alone
set_option linter.unusedVariables false
set_option linter.unusedSimpArgs false

/-! ### spec_TuranParty: function 42 -/
def spec_TuranParty.j0:Nat→Int→Int→Bool→Option (Int × (List (S61)) × Bool)
 | 0,_,_,_=>none
 | k+1,x0,x1,x14=>if x14=true then (some (0,([]:List (S61)),false)) else ((spec_grEven.f k x0 x1).bind fun t658=>((spec_grParts.f k t658).bind fun bt661=>(some (bt661.1,bt661.2,true))))
def spec_TuranParty.f (k:Nat) (a0:Int) (a1:Int):Option (Int × (List (S61)) × Bool):=(spec_l1In.f a0 1 12).bind fun t656=>(if t656=true then ((spec_l1In.f a1 1 a0).bind fun t657=>(spec_TuranParty.j0 k a0 a1 (!t657))) else (spec_TuranParty.j0 k a0 a1 true))
theorem spec_TuranParty.mono_l:∀ k,(∀ y0 y1 y2,LeO (spec_TuranParty.j0 k y0 y1 y2) (spec_TuranParty.j0 (k+1) y0 y1 y2))
 | 0=>fun _ _ _ r h=>by simp [spec_TuranParty.j0] at h
 | k+1=>by
  have ih0:=spec_TuranParty.mono_l k
  ·intro y0 y1 y2
   unfold spec_TuranParty.j0
   repeat' first
   | (with_reducible exact ih0 _ _ _)
   | (with_reducible exact spec_grEven.mono _ _ _)
   | (with_reducible exact spec_grParts.mono _ _)
   | (with_reducible exact LeO.refl _)
   | (with_reducible exact LeO.none _)
   | (with_reducible refine LeO.ite ?_ ?_)
   | (with_reducible refine LeO.bind ?_ (fun _=>?_))
   | exact ih0 _ _ _
   | exact spec_grEven.mono _ _ _
   | exact spec_grParts.mono _ _
   | exact LeO.none _
   | refine LeO.ite ?_ ?_
   | refine LeO.bind ?_ (fun _=>?_)
theorem spec_TuranParty.mono:∀ a0 a1 k,LeO (spec_TuranParty.f k a0 a1) (spec_TuranParty.f (k+1) a0 a1):=by
 intro a0 a1 k
 have ih0:=spec_TuranParty.mono_l k
 unfold spec_TuranParty.f
 repeat' first
   | (with_reducible exact ih0 _ _ _)
   | (with_reducible exact spec_grEven.mono _ _ _)
   | (with_reducible exact spec_grParts.mono _ _)
   | (with_reducible exact LeO.refl _)
   | (with_reducible exact LeO.none _)
   | (with_reducible refine LeO.ite ?_ ?_)
   | (with_reducible refine LeO.bind ?_ (fun _=>?_))
   | exact ih0 _ _ _
   | exact spec_grEven.mono _ _ _
   | exact spec_grParts.mono _ _
   | exact LeO.none _
   | refine LeO.ite ?_ ?_
   | refine LeO.bind ?_ (fun _=>?_)
set_option maxHeartbeats 8000000 in
set_option maxRecDepth 100000 in
theorem spec_TuranParty.calls (k:Nat) (a0:Int) (a1:Int) (r1:Int) (r2:List (S61)) (r3:Bool) (w:World) (h:spec_TuranParty.f k a0 a1=some (r1,r2,r3)) :
  Calls Try.prog 42 #[.int .i64 a0,.int .i64 a1] w fun e w'=>∃ v1_:Value,e=.returned (.tuple #[.agg #[.int .i64 r1,v1_],.bool r3])∧Kd.R k61 61 w' w.heap.size (fun _=>True) v1_ r2∧Below w.heap.size w w':=by
 have hu29:=Try.underlying29
 have HB:=Aside0.mk (Below.refl w.heap.size w)
 have H:((spec_l1In.f a0 1 12).bind fun t656=>(if t656=true then ((spec_l1In.f a1 1 a0).bind fun t657=>(spec_TuranParty.j0 k a0 a1 (!t657))) else (spec_TuranParty.j0 k a0 a1 true)))=some (r1,r2,r3):=h
 clear h
 have HC3:=Aside0.mk H
 clear H
 go_enter Try.func42,Try.ntmps42
 go_upto_region 1 with (first | ((with_reducible refine gate_dst (N:=4) rfl ?_);refine box_event ?hg (N:=4) ?hd (cs:=#[.int .i64 0,.slice none 0 0]) (t:=29) ?hr ?_;(case hd=>rfl);(case hg=>rfl);(case hr=>first | (go_simp;done) | (go_simp;rfl));intro gb655 hg w4 hbox hb;have n0_:=Aside0.mk (zz4 (by repeat first | exact HB.out | apply zz2 | apply zz0 | apply zz1) hb);have n1_:=Aside0.mk (hbox);have n2_:=Aside0.mk ((by rw [hg];exact (zz5 (by repeat first | exact HB.out | apply zz2 | apply zz0 | apply zz1)):w.heap.size≤gb655));have n3_:=Aside0.mk ((by rw [hg];exact (zz5 (by repeat first | exact HB.out | apply zz2 | apply zz0 | apply zz1)):w.heap.size≤gb655));clear HB;have HB:=n0_;have BK655:=n1_;have GW655:=n2_;have GE655:=n3_;clear n0_ n1_ n2_ n3_;clear hb hbox hg))
 (try simp only [Act.put,zz21,zz22,zz23])
 go_cut [14] (fun v14 wc=>∃ (kq:Nat) (x14_2:Bool),v14=.bool x14_2∧Aside0 (spec_TuranParty.j0 kq a0 a1 x14_2=some (r1,r2,r3))∧Aside0 (kq≤k)∧Aside0 (wc.heap[gb655]?=some (.cells #[.int .i64 0,(.slice none 0 0)] 29 (0,0)))∧Aside0 (Below w.heap.size w wc))
 case first =>
  have H:=HC3.out
  clear HC3
  replace H:=zz30.mp H
  obtain ⟨t656,A50,H⟩:=H
  replace H:(if t656=true then ((spec_l1In.f a1 1 a0).bind fun t657=>(spec_TuranParty.j0 k a0 a1 (!t657))) else (spec_TuranParty.j0 k a0 a1 true))=some (r1,r2,r3):=H
  have A5:=Aside0.mk A50
  clear A50
  by_cases c6:t656=true
  ·subst c6
   have H1:((spec_l1In.f a1 1 a0).bind fun t657=>(spec_TuranParty.j0 k a0 a1 (!t657)))=some (r1,r2,r3):=by rw [if_pos rfl] at H;exact H
   clear H
   have H:=H1
   clear H1
   replace H:=zz30.mp H
   obtain ⟨t657,A70,H⟩:=H
   replace H:(spec_TuranParty.j0 k a0 a1 (!t657))=some (r1,r2,r3):=H
   have A7:=Aside0.mk A70
   clear A70
   have H':=Aside0.mk H
   clear H
   go_wp2_with (first | ((with_reducible refine gate_callee (f:=60) rfl ?_);refine goesL_ (some 7) rfl rfl Try.func60 (by kernel_rfl) rfl #[.int .i64 a0,.int .i64 1,.int .i64 12] rfl (by (try simp only [zz26,zz27,zz28]);first | done | rfl | (simp only [zz24,zz25];rfl) | (simp only [zz25];congr;(try simp only [decide_eq_true_eq] at *);omega)) ?_;(with_reducible refine (spec_l1In.calls a0 1 12 true _ A5.out).mono ?_);rintro e w' ⟨rfl,⟨nd,rfl⟩⟩;refine ⟨_,rfl,?_⟩) | (go_at_call 60;(with_reducible refine (spec_l1In.calls a1 1 a0 t657 _ A7.out).mono ?_);rintro e w' ⟨rfl,⟨nd,rfl⟩⟩))
   go_meet
   case rel=>exact ⟨_,(!t657),(by first | rfl | (simp;done) | (simp [*];done)),H',⟨by first | omega | exact Nat.le_refl _⟩,⟨by (with_reducible repeat (first | refine zz6 ?_ _ | refine zz7 ?_ | refine zz8 ?_ _));exact BK655.out⟩,⟨by repeat first | exact HB.out | apply zz2 | apply zz0 | apply zz1 | refine zz3 ?_ GE655.out⟩⟩
  ·replace c6:=Bool.eq_false_iff.mpr c6
   subst c6
   have H1:(spec_TuranParty.j0 k a0 a1 true)=some (r1,r2,r3):=by rw [if_neg (show ¬ (false=true) by decide)] at H;exact H
   clear H
   have H:=H1
   clear H1
   have H':=Aside0.mk H
   clear H
   go_wp2_with (first | ((with_reducible refine gate_callee (f:=60) rfl ?_);refine goesL_ (some 7) rfl rfl Try.func60 (by kernel_rfl) rfl #[.int .i64 a0,.int .i64 1,.int .i64 12] rfl (by (try simp only [zz26,zz27,zz28]);first | done | rfl | (simp only [zz24,zz25];rfl) | (simp only [zz25];congr;(try simp only [decide_eq_true_eq] at *);omega)) ?_;(with_reducible refine (spec_l1In.calls a0 1 12 false _ A5.out).mono ?_);rintro e w' ⟨rfl,⟨nd,rfl⟩⟩;refine ⟨_,rfl,?_⟩))
   go_meet
   case rel=>exact ⟨_,(true),(by first | rfl | (simp;done) | (simp [*];done)),H',⟨by first | omega | exact Nat.le_refl _⟩,⟨by (with_reducible repeat (first | refine zz6 ?_ _ | refine zz7 ?_ | refine zz8 ?_ _));exact BK655.out⟩,⟨by repeat first | exact HB.out | apply zz2 | apply zz0 | apply zz1 | refine zz3 ?_ GE655.out⟩⟩
 case rest =>
  clear HC3
  try clear p2
  try clear c4
  try clear c6
  obtain ⟨kq,x14_2,rfl,HA,HJ2,BK655,HB⟩:=hcut
  cases kq with
  | zero=>exact absurd HA.out (by simp [spec_TuranParty.j0])
  | succ kj2 =>
   have H:=HA.out
   clear HA
   simp only [spec_TuranParty.j0] at H
   by_cases c8:x14_2=true
   ·subst c8
    have H1:(some (0,([]:List (S61)),false))=some (r1,r2,r3):=by rw [if_pos rfl] at H;exact H
    clear H
    have H:=H1
    clear H1
    simp only [Option.some.injEq,Prod.mk.injEq] at H
    obtain ⟨rfl,rfl,rfl⟩:=H
    have hcz9_0:wc.cell? ⟨gb655,0,none⟩=some (.int .i64 0):=(zz9 BK655.out 0).trans rfl
    have hcz9_1:wc.cell? ⟨gb655,1,none⟩=some (.slice none 0 0):=(zz9 BK655.out 1).trans rfl
    have hfz9_0:=zz10 BK655.out 0
    have hfz9_1:=zz10 BK655.out 1
    go_wp2
    refine bodyPost_ret (results_ct rfl _ _ gb655 29 #[.int .i64 0,.slice none 0 0] (0,0) _ rfl (by (with_reducible repeat (first | refine zz6 ?_ _ | refine zz7 ?_ | refine zz8 ?_ _));refine blk_put (cs:=#[.int .i64 0,.slice none 0 0]) ?_ 1 _ rfl;(with_reducible repeat (first | refine zz6 ?_ _ | refine zz7 ?_ | refine zz8 ?_ _));refine blk_put (cs:=#[.int .i64 0,.slice none 0 0]) ?_ 0 _ rfl;(with_reducible repeat (first | refine zz6 ?_ _ | refine zz7 ?_ | refine zz8 ?_ _));exact BK655.out) Try.underlying29 rfl (by kernel_rfl)) rfl ?_
    exact ⟨_,by first | rfl | (simp [errW_none,errW_some] <;> rfl) | (simp [*,errW_none,errW_some] <;> rfl),by first | exact Kd.R_nil _ _ _ _ _ | exact Kd.N_nil _ _ _ _ _ | exact Kd.V_nil _ _ _ _ _ | exact Kd.Q_nil _ _ _ _ _ | exact Kd.S_nil _ _ _ _ _,by repeat first | exact HB.out | apply zz2 | apply zz0 | apply zz1 | refine zz3 ?_ GE655.out⟩
   ·replace c8:=Bool.eq_false_iff.mpr c8
    subst c8
    have H1:((spec_grEven.f kj2 a0 a1).bind fun t658=>((spec_grParts.f kj2 t658).bind fun bt661=>(some (bt661.1,bt661.2,true))))=some (r1,r2,r3):=by rw [if_neg (show ¬ (false=true) by decide)] at H;exact H
    clear H
    have H:=H1
    clear H1
    replace H:=zz30.mp H
    obtain ⟨t658,A100,H⟩:=H
    replace H:((spec_grParts.f kj2 t658).bind fun bt661=>(some (bt661.1,bt661.2,true)))=some (r1,r2,r3):=H
    have A10:=Aside0.mk A100
    clear A100
    replace H:=zz30.mp H
    obtain ⟨⟨t661,t662⟩,A110,H⟩:=H
    replace H:(some (t661,t662,true))=some (r1,r2,r3):=H
    have A11:=Aside0.mk A110
    clear A110
    simp only [Option.some.injEq,Prod.mk.injEq] at H
    obtain ⟨rfl,rfl,rfl⟩:=H
    go_wp2_with (first | ((with_reducible refine gate_callee (f:=62) rfl ?_);refine goesL_ (some 18) rfl rfl Try.func62 (by kernel_rfl) rfl #[.int .i64 a0,.int .i64 a1] rfl (by (try simp only [zz26,zz27,zz28]);first | done | rfl | (simp only [zz24,zz25];rfl) | (simp only [zz25];congr;(try simp only [decide_eq_true_eq] at *);omega)) ?_;(with_reducible refine (spec_grEven.calls kj2 a0 a1 t658 _ A10.out).mono ?_);rintro e w12 ⟨v659,rfl,ho0,hb⟩;refine ⟨_,rfl,?_⟩;have n0_:=Aside0.mk (Kd.R_lower ho0 (zz5 (by repeat first | exact HB.out | apply zz2 | apply zz0 | apply zz1 | refine zz3 ?_ GE655.out)));have n1_:=Aside0.mk (zz11 (g:=gb655) (o:=.cells #[.int .i64 0,.slice none 0 0] 29 (0,0)) (by (with_reducible repeat (first | refine zz6 ?_ _ | refine zz7 ?_ | refine zz8 ?_ _));exact BK655.out) hb);have n2_:=Aside0.mk (zz4 (by repeat first | exact HB.out | apply zz2 | apply zz0 | apply zz1 | refine zz3 ?_ GE655.out) hb);clear BK655;clear HB;have HO660:=n0_;have BK655:=n1_;have HB:=n2_;clear n0_ n1_ n2_;(try clear hb);(try clear hb2);(try clear hk);(try clear hi);(try clear ho0);obtain ⟨Ao13,co13,eo13⟩:=Kd.R_slice HO660.out;subst eo13) | ((with_reducible refine gate_callee (f:=61) rfl ?_);refine goesL_ (some 19) rfl rfl Try.func61 (by kernel_rfl) rfl #[.slice Ao13 t658.length co13] rfl (by (try simp only [zz26,zz27,zz28]);first | done | rfl | (simp only [zz24,zz25];rfl) | (simp only [zz25];congr;(try simp only [decide_eq_true_eq] at *);omega)) ?_;(with_reducible refine (spec_grParts.calls kj2 _ _ t658 t661 t662 _ ?side1 ?side2 A11.out).mono ?_);(case side1=>repeat (first | exact (Kd.R_reads' HO660.out).2.2 | (with_reducible refine zz18 ?_ _) | (with_reducible refine zz19 ?_ _) | (with_reducible refine zz20 ?_)));(case side2=>exact (Kd.R_reads' HO660.out).2.1);rintro e w14 ⟨v663,rfl,ho0,hb⟩;refine ⟨_,rfl,?_⟩;have n0_:=Aside0.mk (Kd.R_below (by (with_reducible repeat (first | apply zz12 | apply zz13 | apply zz14));exact HO660.out) hb);have n1_:=Aside0.mk (Kd.R_lower ho0 (zz5 (by repeat first | exact HB.out | apply zz2 | apply zz0 | apply zz1 | refine zz3 ?_ GE655.out)));have n2_:=Aside0.mk (zz11 (g:=gb655) (o:=.cells #[.int .i64 0,.slice none 0 0] 29 (0,0)) (by (with_reducible repeat (first | refine zz6 ?_ _ | refine zz7 ?_ | refine zz8 ?_ _));exact BK655.out) hb);have n3_:=Aside0.mk (zz4 (by repeat first | exact HB.out | apply zz2 | apply zz0 | apply zz1 | refine zz3 ?_ GE655.out) hb);clear HO660;clear BK655;clear HB;have HO660:=n0_;have HO664:=n1_;have BK655:=n2_;have HB:=n3_;clear n0_ n1_ n2_ n3_;(try clear hb);(try clear hb2);(try clear hk);(try clear hi);(try clear ho0);have hcz15_0:w14.cell? ⟨gb655,0,none⟩=some (.int .i64 0):=(zz9 BK655.out 0).trans rfl;have hcz15_1:w14.cell? ⟨gb655,1,none⟩=some (.slice none 0 0):=(zz9 BK655.out 1).trans rfl;have hfz15_0:=zz10 BK655.out 0;have hfz15_1:=zz10 BK655.out 1;obtain ⟨Ao16,co16,eo16⟩:=Kd.R_slice HO664.out;subst eo16))
    refine bodyPost_ret (results_ct rfl _ _ gb655 29 #[.int .i64 t661,.slice Ao16 t662.length co16] (0,0) _ rfl (by (with_reducible repeat (first | refine zz6 ?_ _ | refine zz7 ?_ | refine zz8 ?_ _));refine blk_put (cs:=#[.int .i64 t661,.slice none 0 0]) ?_ 1 _ rfl;(with_reducible repeat (first | refine zz6 ?_ _ | refine zz7 ?_ | refine zz8 ?_ _));refine blk_put (cs:=#[.int .i64 0,.slice none 0 0]) ?_ 0 _ rfl;(with_reducible repeat (first | refine zz6 ?_ _ | refine zz7 ?_ | refine zz8 ?_ _));exact BK655.out) Try.underlying29 rfl (by kernel_rfl)) rfl ?_
    exact ⟨_,by first | rfl | (simp [errW_none,errW_some] <;> rfl) | (simp [*,errW_none,errW_some] <;> rfl),by (with_reducible repeat (first | apply zz12 | apply zz13 | apply zz14));exact Kd.R_mono (Kd.R_far (p:=⟨gb655,1,none⟩) (Kd.R_far (p:=⟨gb655,0,none⟩) (Kd.R_types HO664.out BK655.out (by decide)) (fun _ hk=>hk.2) (.int .i64 t661)) (fun _ hk=>hk.2) (.slice Ao16 t662.length co16)) (fun _ hk=>trivial),by repeat first | exact HB.out | apply zz2 | apply zz0 | apply zz1 | refine zz3 ?_ GE655.out⟩

/-! ### laws_FnExactTuranParty: function 12 -/
mutual
def laws_FnExactTuranParty.j0:Nat→Int→Int→Bool→Bool→Int→List (S61)→Int→List (S61)→Option (Bool)
 | 0,_,_,_,_,_,_,_,_=>none
 | k+1,x0,x1,x6,x33,x671000,x671001,x677000,x677001=>if x33=true then (some false) else ((laws_markParty.f k x677000 x677001 1).bind fun bt678=>((laws_heldParty.f k x677000 bt678.2 1).bind fun t680=>(if t680 < 0 then (some false) else (if t680=bt678.1 then ((impl_TuranParty.f k x0 x1).bind fun bt681=>((laws_eqParty.f k bt681.1 bt681.2.1 x671000 x671001).bind fun t687=>(if t687=true then (laws_FnExactTuranParty.j1 k bt678.1 (bt681.2.2 != x6) x677000 bt678.2) else (laws_FnExactTuranParty.j1 k bt678.1 true x677000 bt678.2)))) else (some false)))))
def laws_FnExactTuranParty.j1:Nat→Int→Bool→Int→List (S61)→Option (Bool)
 | 0,_,_,_,_=>none
 | k+1,x9,x59,x677000,x677001=>if x59=true then (some false) else ((laws_heldParty.f k x677000 x677001 1).bind fun t688=>(if t688 < 0 then (some false) else (if t688=x9 then (some true) else (some false))))
end
def laws_FnExactTuranParty.f (k:Nat) (a0:Int) (a1:Int):Option (Bool):=(spec_TuranParty.f k a0 a1).bind fun bt665=>((impl_TuranParty.f k a0 a1).bind fun bt671=>((laws_eqParty.f k bt671.1 bt671.2.1 bt665.1 bt665.2.1).bind fun t677=>(if t677=true then (laws_FnExactTuranParty.j0 k a0 a1 bt665.2.2 (bt671.2.2 != bt665.2.2) bt665.1 bt665.2.1 bt671.1 bt671.2.1) else (laws_FnExactTuranParty.j0 k a0 a1 bt665.2.2 true bt665.1 bt665.2.1 bt671.1 bt671.2.1))))
theorem laws_FnExactTuranParty.mono_l:∀ k,(∀ y0 y1 y2 y3 y4 y5 y6 y7,LeO (laws_FnExactTuranParty.j0 k y0 y1 y2 y3 y4 y5 y6 y7) (laws_FnExactTuranParty.j0 (k+1) y0 y1 y2 y3 y4 y5 y6 y7))∧(∀ y0 y1 y2 y3,LeO (laws_FnExactTuranParty.j1 k y0 y1 y2 y3) (laws_FnExactTuranParty.j1 (k+1) y0 y1 y2 y3))
 | 0=>⟨fun _ _ _ _ _ _ _ _ r h=>by simp [laws_FnExactTuranParty.j0] at h,fun _ _ _ _ r h=>by simp [laws_FnExactTuranParty.j1] at h⟩
 | k+1=>by
  obtain ⟨ih0,ih1⟩:=laws_FnExactTuranParty.mono_l k
  refine ⟨?_,?_⟩
  ·intro y0 y1 y2 y3 y4 y5 y6 y7
   unfold laws_FnExactTuranParty.j0
   repeat' first
   | (with_reducible exact ih0 _ _ _ _ _ _ _ _)
   | (with_reducible exact ih1 _ _ _ _)
   | (with_reducible exact impl_TuranParty.mono _ _ _)
   | (with_reducible exact laws_eqParty.mono _ _ _ _ _)
   | (with_reducible exact laws_heldParty.mono _ _ _ _)
   | (with_reducible exact laws_markParty.mono _ _ _ _)
   | (with_reducible exact spec_TuranParty.mono _ _ _)
   | (with_reducible exact LeO.refl _)
   | (with_reducible exact LeO.none _)
   | (with_reducible refine LeO.ite ?_ ?_)
   | (with_reducible refine LeO.bind ?_ (fun _=>?_))
   | exact ih0 _ _ _ _ _ _ _ _
   | exact ih1 _ _ _ _
   | exact impl_TuranParty.mono _ _ _
   | exact laws_eqParty.mono _ _ _ _ _
   | exact laws_heldParty.mono _ _ _ _
   | exact laws_markParty.mono _ _ _ _
   | exact spec_TuranParty.mono _ _ _
   | exact LeO.none _
   | refine LeO.ite ?_ ?_
   | refine LeO.bind ?_ (fun _=>?_)
  ·intro y0 y1 y2 y3
   unfold laws_FnExactTuranParty.j1
   repeat' first
   | (with_reducible exact ih0 _ _ _ _ _ _ _ _)
   | (with_reducible exact ih1 _ _ _ _)
   | (with_reducible exact impl_TuranParty.mono _ _ _)
   | (with_reducible exact laws_eqParty.mono _ _ _ _ _)
   | (with_reducible exact laws_heldParty.mono _ _ _ _)
   | (with_reducible exact laws_markParty.mono _ _ _ _)
   | (with_reducible exact spec_TuranParty.mono _ _ _)
   | (with_reducible exact LeO.refl _)
   | (with_reducible exact LeO.none _)
   | (with_reducible refine LeO.ite ?_ ?_)
   | (with_reducible refine LeO.bind ?_ (fun _=>?_))
   | exact ih0 _ _ _ _ _ _ _ _
   | exact ih1 _ _ _ _
   | exact impl_TuranParty.mono _ _ _
   | exact laws_eqParty.mono _ _ _ _ _
   | exact laws_heldParty.mono _ _ _ _
   | exact laws_markParty.mono _ _ _ _
   | exact spec_TuranParty.mono _ _ _
   | exact LeO.none _
   | refine LeO.ite ?_ ?_
   | refine LeO.bind ?_ (fun _=>?_)
theorem laws_FnExactTuranParty.mono:∀ a0 a1 k,LeO (laws_FnExactTuranParty.f k a0 a1) (laws_FnExactTuranParty.f (k+1) a0 a1):=by
 intro a0 a1 k
 obtain ⟨ih0,ih1⟩:=laws_FnExactTuranParty.mono_l k
 unfold laws_FnExactTuranParty.f
 repeat' first
   | (with_reducible exact ih0 _ _ _ _ _ _ _ _)
   | (with_reducible exact ih1 _ _ _ _)
   | (with_reducible exact impl_TuranParty.mono _ _ _)
   | (with_reducible exact laws_eqParty.mono _ _ _ _ _)
   | (with_reducible exact laws_heldParty.mono _ _ _ _)
   | (with_reducible exact laws_markParty.mono _ _ _ _)
   | (with_reducible exact spec_TuranParty.mono _ _ _)
   | (with_reducible exact LeO.refl _)
   | (with_reducible exact LeO.none _)
   | (with_reducible refine LeO.ite ?_ ?_)
   | (with_reducible refine LeO.bind ?_ (fun _=>?_))
   | exact ih0 _ _ _ _ _ _ _ _
   | exact ih1 _ _ _ _
   | exact impl_TuranParty.mono _ _ _
   | exact laws_eqParty.mono _ _ _ _ _
   | exact laws_heldParty.mono _ _ _ _
   | exact laws_markParty.mono _ _ _ _
   | exact spec_TuranParty.mono _ _ _
   | exact LeO.none _
   | refine LeO.ite ?_ ?_
   | refine LeO.bind ?_ (fun _=>?_)
set_option maxHeartbeats 8000000 in
set_option maxRecDepth 100000 in
theorem laws_FnExactTuranParty.calls (k:Nat) (a0:Int) (a1:Int) (r:Bool) (w:World) (h:laws_FnExactTuranParty.f k a0 a1=some r) :
  Calls Try.prog 12 #[.int .i64 a0,.int .i64 a1] w fun e w'=>e=.returned (.bool r)∧Below w.heap.size w w':=by
 have hu29:=Try.underlying29
 have HB:=Aside0.mk (Below.refl w.heap.size w)
 have H:((spec_TuranParty.f k a0 a1).bind fun bt665=>((impl_TuranParty.f k a0 a1).bind fun bt671=>((laws_eqParty.f k bt671.1 bt671.2.1 bt665.1 bt665.2.1).bind fun t677=>(if t677=true then (laws_FnExactTuranParty.j0 k a0 a1 bt665.2.2 (bt671.2.2 != bt665.2.2) bt665.1 bt665.2.1 bt671.1 bt671.2.1) else (laws_FnExactTuranParty.j0 k a0 a1 bt665.2.2 true bt665.1 bt665.2.1 bt671.1 bt671.2.1)))))=some r:=h
 clear h
 replace H:=zz30.mp H
 obtain ⟨⟨t665,t666,t669⟩,A30,H⟩:=H
 replace H:((impl_TuranParty.f k a0 a1).bind fun bt671=>((laws_eqParty.f k bt671.1 bt671.2.1 t665 t666).bind fun t677=>(if t677=true then (laws_FnExactTuranParty.j0 k a0 a1 t669 (bt671.2.2 != t669) t665 t666 bt671.1 bt671.2.1) else (laws_FnExactTuranParty.j0 k a0 a1 t669 true t665 t666 bt671.1 bt671.2.1))))=some r:=H
 have A3:=Aside0.mk A30
 clear A30
 replace H:=zz30.mp H
 obtain ⟨⟨t671,t672,t675⟩,A40,H⟩:=H
 replace H:((laws_eqParty.f k t671 t672 t665 t666).bind fun t677=>(if t677=true then (laws_FnExactTuranParty.j0 k a0 a1 t669 (t675 != t669) t665 t666 t671 t672) else (laws_FnExactTuranParty.j0 k a0 a1 t669 true t665 t666 t671 t672)))=some r:=H
 have A4:=Aside0.mk A40
 clear A40
 have HC5:=Aside0.mk H
 clear H
 go_enter Try.func12,Try.ntmps12
 go_upto_region 3 with (first | ((with_reducible refine gate_callee (f:=42) rfl ?_);refine goesL_ (some 16) rfl rfl Try.func42 (by kernel_rfl) rfl #[.int .i64 a0,.int .i64 a1] rfl (by (try simp only [zz26,zz27,zz28]);first | done | rfl | (simp only [zz24,zz25];rfl) | (simp only [zz25];congr;(try simp only [decide_eq_true_eq] at *);omega)) ?_;(with_reducible refine (spec_TuranParty.calls k a0 a1 t665 t666 t669 _ A3.out).mono ?_);rintro e w6 ⟨v667,rfl,ho0,hb⟩;refine ⟨_,rfl,?_⟩;have n0_:=Aside0.mk (Kd.R_lower ho0 (zz5 (by repeat first | exact HB.out | apply zz2 | apply zz0 | apply zz1)));have n1_:=Aside0.mk (zz4 (by repeat first | exact HB.out | apply zz2 | apply zz0 | apply zz1) hb);clear HB;have HO668:=n0_;have HB:=n1_;clear n0_ n1_;(try clear hb);(try clear hb2);(try clear hk);(try clear hi);(try clear ho0)) | ((with_reducible refine gate_dst (N:=5) rfl ?_);refine box_event ?hg (N:=5) ?hd (cs:=#[.int .i64 0,.slice none 0 0]) (t:=29) ?hr ?_;(case hd=>rfl);(case hg=>rfl);(case hr=>first | (go_simp;done) | (go_simp;rfl));intro gb670 hg w7 hbox hb;have n0_:=Aside0.mk (Kd.R_below (by (with_reducible repeat (first | apply zz12 | apply zz13 | apply zz14));exact HO668.out) hb);have n1_:=Aside0.mk (zz4 (by repeat first | exact HB.out | apply zz2 | apply zz0 | apply zz1) hb);have n2_:=Aside0.mk (hbox);have n3_:=Aside0.mk ((by rw [hg];exact (zz5 (by repeat first | exact HB.out | apply zz2 | apply zz0 | apply zz1)):w.heap.size≤gb670));have n4_:=Aside0.mk ((by rw [hg];exact (zz5 (by repeat first | exact HB.out | apply zz2 | apply zz0 | apply zz1)):w.heap.size≤gb670));clear HO668;clear HB;have HO668:=n0_;have HB:=n1_;have BK670:=n2_;have GW670:=n3_;have GE670:=n4_;clear n0_ n1_ n2_ n3_ n4_;clear hb hbox hg;have hcz8_0:w7.cell? ⟨gb670,0,none⟩=some (.int .i64 0):=(zz9 BK670.out 0).trans rfl;have hcz8_1:w7.cell? ⟨gb670,1,none⟩=some (.slice none 0 0):=(zz9 BK670.out 1).trans rfl;have hfz8_0:=zz10 BK670.out 0;have hfz8_1:=zz10 BK670.out 1;obtain ⟨Ao9,co9,eo9⟩:=Kd.R_slice HO668.out;subst eo9) | ((with_reducible refine gate_callee (f:=43) rfl ?_);refine goesL_ (some 22) rfl rfl Try.func43 (by kernel_rfl) rfl #[.int .i64 a0,.int .i64 a1] rfl (by (try simp only [zz26,zz27,zz28]);first | done | rfl | (simp only [zz24,zz25];rfl) | (simp only [zz25];congr;(try simp only [decide_eq_true_eq] at *);omega)) ?_;(with_reducible refine (impl_TuranParty.calls k a0 a1 t671 t672 t675 _ A4.out).mono ?_);rintro e w10 ⟨v673,rfl,ho0,hb⟩;refine ⟨_,rfl,?_⟩;have n0_:=Aside0.mk (Kd.R_elder' (by (with_reducible repeat (first | apply zz12 | apply zz13 | apply zz14));exact (Kd.R_mono (Kd.R_far (p:=⟨gb670,1,none⟩) (Kd.R_far (p:=⟨gb670,0,none⟩) (Kd.R_types HO668.out BK670.out (by decide)) (fun _ hk=>hk.2) (.int .i64 t665)) (fun _ hk=>hk.2) (.slice Ao9 t666.length co9)) (fun _ h_=>h_.1))) (Kd.R_base ho0) hb);have n1_:=Aside0.mk (Kd.R_lower (Kd.R_new' ho0 (Kd.R_lt (by (with_reducible repeat (first | apply zz12 | apply zz13 | apply zz14));exact (Kd.R_mono (Kd.R_far (p:=⟨gb670,1,none⟩) (Kd.R_far (p:=⟨gb670,0,none⟩) (Kd.R_types HO668.out BK670.out (by decide)) (fun _ hk=>hk.2) (.int .i64 t665)) (fun _ hk=>hk.2) (.slice Ao9 t666.length co9)) (fun _ h_=>h_.1))))) (zz5 (by repeat first | exact HB.out | apply zz2 | apply zz0 | apply zz1 | refine zz3 ?_ GE670.out)));have n2_:=Aside0.mk (zz11 (g:=gb670) (o:=.cells #[.int .i64 t665,.slice Ao9 t666.length co9] 29 (0,0)) (by (with_reducible repeat (first | refine zz6 ?_ _ | refine zz7 ?_ | refine zz8 ?_ _));refine blk_put (cs:=#[.int .i64 t665,.slice none 0 0]) ?_ 1 _ rfl;(with_reducible repeat (first | refine zz6 ?_ _ | refine zz7 ?_ | refine zz8 ?_ _));refine blk_put (cs:=#[.int .i64 0,.slice none 0 0]) ?_ 0 _ rfl;(with_reducible repeat (first | refine zz6 ?_ _ | refine zz7 ?_ | refine zz8 ?_ _));exact BK670.out) hb);have n3_:=Aside0.mk (zz4 (by repeat first | exact HB.out | apply zz2 | apply zz0 | apply zz1 | refine zz3 ?_ GE670.out) hb);clear HO668;clear BK670;clear HB;have HO668:=n0_;have HO674:=n1_;have BK670:=n2_;have HB:=n3_;clear n0_ n1_ n2_ n3_;(try clear hb);(try clear hb2);(try clear hk);(try clear hi);(try clear ho0)) | ((with_reducible refine gate_dst (N:=7) rfl ?_);refine box_event ?hg (N:=7) ?hd (cs:=#[.int .i64 0,.slice none 0 0]) (t:=29) ?hr ?_;(case hd=>rfl);(case hg=>rfl);(case hr=>first | (go_simp;done) | (go_simp;rfl));intro gb676 hg w11 hbox hb;have n0_:=Aside0.mk (Kd.R_below (by (with_reducible repeat (first | apply zz12 | apply zz13 | apply zz14));exact HO668.out) hb);have n1_:=Aside0.mk (Kd.R_below (by (with_reducible repeat (first | apply zz12 | apply zz13 | apply zz14));exact HO674.out) hb);have n2_:=Aside0.mk (zz11 (g:=gb670) (o:=.cells #[.int .i64 t665,.slice Ao9 t666.length co9] 29 (0,0)) (by (with_reducible repeat (first | refine zz6 ?_ _ | refine zz7 ?_ | refine zz8 ?_ _));exact BK670.out) hb);have n3_:=Aside0.mk (zz4 (by repeat first | exact HB.out | apply zz2 | apply zz0 | apply zz1 | refine zz3 ?_ GE670.out) hb);have n4_:=Aside0.mk (hbox);have n5_:=Aside0.mk ((by rw [hg];exact (zz5 (by repeat first | exact HB.out | apply zz2 | apply zz0 | apply zz1 | refine zz3 ?_ GE670.out)):w.heap.size≤gb676));have n6_:=Aside0.mk ((by rw [hg];exact (zz5 (by repeat first | exact HB.out | apply zz2 | apply zz0 | apply zz1 | refine zz3 ?_ GE670.out)):w.heap.size≤gb676));have n7_:=Aside0.mk ((by rw [hg];exact Nat.ne_of_lt (blk_lt (g:=gb670) (o:=.cells #[.int .i64 t665,.slice Ao9 t666.length co9] 29 (0,0)) (by (with_reducible repeat (first | refine zz6 ?_ _ | refine zz7 ?_ | refine zz8 ?_ _));exact BK670.out)):gb670 ≠ gb676));have n8_:=Aside0.mk ((by rw [hg];exact Nat.ne_of_gt (blk_lt (g:=gb670) (o:=.cells #[.int .i64 t665,.slice Ao9 t666.length co9] 29 (0,0)) (by (with_reducible repeat (first | refine zz6 ?_ _ | refine zz7 ?_ | refine zz8 ?_ _));exact BK670.out)):gb676 ≠ gb670));clear HO668;clear HO674;clear BK670;clear HB;have HO668:=n0_;have HO674:=n1_;have BK670:=n2_;have HB:=n3_;have BK676:=n4_;have GW676:=n5_;have GE676:=n6_;have NB670_676:=n7_;have NB676_670:=n8_;clear n0_ n1_ n2_ n3_ n4_ n5_ n6_ n7_ n8_;clear hb hbox hg;have hnb12:=NB676_670.out;have hnc12:=NB670_676.out;have hcz13_0:w11.cell? ⟨gb676,0,none⟩=some (.int .i64 0):=(zz9 BK676.out 0).trans rfl;have hcz13_1:w11.cell? ⟨gb676,1,none⟩=some (.slice none 0 0):=(zz9 BK676.out 1).trans rfl;have hfz13_0:=zz10 BK676.out 0;have hfz13_1:=zz10 BK676.out 1;obtain ⟨Ao14,co14,eo14⟩:=Kd.R_slice HO674.out;subst eo14))
 (try simp only [Act.put,zz21,zz22,zz23])
 go_cut [33] (fun v33 wc=>∃ (kq:Nat) (x33_4:Bool),v33=.bool x33_4∧Aside0 (laws_FnExactTuranParty.j0 kq a0 a1 t669 x33_4 t665 t666 t671 t672=some r)∧Aside0 (kq≤k)∧Aside0 (Kd.R k61 61 wc w.heap.size (fun k_=>some k_ ≠ ((.slice Ao14 t672.length co14):Value).ownBlock) (.slice Ao9 t666.length co9) t666)∧Aside0 (Kd.R k61 61 wc w.heap.size (fun k_=>some k_ ≠ ((.slice Ao9 t666.length co9):Value).ownBlock) (.slice Ao14 t672.length co14) t672)∧Aside0 (wc.heap[gb670]?=some (.cells #[.int .i64 t665,(.slice Ao9 t666.length co9)] 29 (0,0)))∧Aside0 (wc.heap[gb676]?=some (.cells #[.int .i64 t671,(.slice Ao14 t672.length co14)] 29 (0,0)))∧Aside0 (Below w.heap.size w wc))
 case first =>
  have H:=HC5.out
  clear HC5
  replace H:=zz30.mp H
  obtain ⟨t677,A150,H⟩:=H
  replace H:(if t677=true then (laws_FnExactTuranParty.j0 k a0 a1 t669 (t675 != t669) t665 t666 t671 t672) else (laws_FnExactTuranParty.j0 k a0 a1 t669 true t665 t666 t671 t672))=some r:=H
  have A15:=Aside0.mk A150
  clear A150
  by_cases c16:t677=true
  ·subst c16
   have H1:(laws_FnExactTuranParty.j0 k a0 a1 t669 (t675 != t669) t665 t666 t671 t672)=some r:=by rw [if_pos rfl] at H;exact H
   clear H
   have H:=H1
   clear H1
   have H':=Aside0.mk H
   clear H
   have hnb17:=NB676_670.out
   have hnc17:=NB670_676.out
   have hcz18_0:w11.cell? ⟨gb676,0,none⟩=some (.int .i64 0):=(zz9 BK676.out 0).trans rfl
   have hcz18_1:w11.cell? ⟨gb676,1,none⟩=some (.slice none 0 0):=(zz9 BK676.out 1).trans rfl
   have hfz18_0:=zz10 BK676.out 0
   have hfz18_1:=zz10 BK676.out 1
   have hcz19_0:w11.cell? ⟨gb670,0,none⟩=some (.int .i64 t665):=(zz9 BK670.out 0).trans rfl
   have hcz19_1:w11.cell? ⟨gb670,1,none⟩=some (.slice Ao9 t666.length co9):=(zz9 BK670.out 1).trans rfl
   have hfz19_0:=zz10 BK670.out 0
   have hfz19_1:=zz10 BK670.out 1
   go_wp2_with (first | ((with_reducible refine gate_callee (f:=19) rfl ?_);refine goesL_ (some 27) rfl rfl Try.func19 (by kernel_rfl) rfl #[.agg #[.int .i64 t671,.slice Ao14 t672.length co14],.agg #[.int .i64 t665,.slice Ao9 t666.length co9]] rfl (by (try simp only [zz26,zz27,zz28]);first | done | rfl | (simp only [zz24,zz25];rfl) | (simp only [zz25];congr;(try simp only [decide_eq_true_eq] at *);omega)) ?_;(with_reducible refine (laws_eqParty.calls k t671 _ _ t672 t665 _ _ t666 true _ ?side1 ?side2 ?side3 ?side4 A15.out).mono ?_);(case side1=>refine (Kd.R_reads' (e:=61) (base:=w.heap.size) (ok:=fun k_=>(True∧some k_ ≠ (.slice Ao9 t666.length co9:Value).ownBlock)) (n:=t672.length) (c:=co14) ?_).2.2;exact (by (with_reducible repeat (first | apply zz12 | apply zz13 | apply zz14));exact (Kd.R_mono (Kd.R_far (p:=⟨gb676,1,none⟩) (Kd.R_far (p:=⟨gb676,0,none⟩) (Kd.R_types HO674.out BK676.out (by decide)) (fun _ hk=>hk.2) (.int .i64 t671)) (fun _ hk=>hk.2) (.slice Ao14 t672.length co14)) (fun _ h_=>h_.1))));(case side2=>exact (Kd.R_reads' HO674.out).2.1);(case side3=>refine (Kd.R_reads' (e:=61) (base:=w.heap.size) (ok:=fun k_=>(True∧some k_ ≠ (.slice Ao14 t672.length co14:Value).ownBlock)) (n:=t666.length) (c:=co9) ?_).2.2;exact (by (with_reducible repeat (first | apply zz12 | apply zz13 | apply zz14));exact (Kd.R_mono (Kd.R_far (p:=⟨gb676,1,none⟩) (Kd.R_far (p:=⟨gb676,0,none⟩) (Kd.R_types HO668.out BK676.out (by decide)) (fun _ hk=>hk.2) (.int .i64 t671)) (fun _ hk=>hk.2) (.slice Ao14 t672.length co14)) (fun _ h_=>h_.1))));(case side4=>exact (Kd.R_reads' HO668.out).2.1);rintro e w20 ⟨rfl,hb⟩;refine ⟨_,rfl,?_⟩;have n0_:=Aside0.mk (Kd.R_below (by (with_reducible repeat (first | apply zz12 | apply zz13 | apply zz14));exact (Kd.R_mono (Kd.R_far (p:=⟨gb676,1,none⟩) (Kd.R_far (p:=⟨gb676,0,none⟩) (Kd.R_types HO668.out BK676.out (by decide)) (fun _ hk=>hk.2) (.int .i64 t671)) (fun _ hk=>hk.2) (.slice Ao14 t672.length co14)) (fun _ h_=>h_.1))) hb);have n1_:=Aside0.mk (Kd.R_below (by (with_reducible repeat (first | apply zz12 | apply zz13 | apply zz14));exact (Kd.R_mono (Kd.R_far (p:=⟨gb676,1,none⟩) (Kd.R_far (p:=⟨gb676,0,none⟩) (Kd.R_types HO674.out BK676.out (by decide)) (fun _ hk=>hk.2) (.int .i64 t671)) (fun _ hk=>hk.2) (.slice Ao14 t672.length co14)) (fun _ h_=>h_.1))) hb);have n2_:=Aside0.mk (zz11 (g:=gb670) (o:=.cells #[.int .i64 t665,.slice Ao9 t666.length co9] 29 (0,0)) (by (with_reducible repeat (first | refine zz6 ?_ _ | refine zz7 ?_ | refine zz8 ?_ _));refine blk_far ?_ NB670_676.out _;(with_reducible repeat (first | refine zz6 ?_ _ | refine zz7 ?_ | refine zz8 ?_ _));refine blk_far ?_ NB670_676.out _;(with_reducible repeat (first | refine zz6 ?_ _ | refine zz7 ?_ | refine zz8 ?_ _));exact BK670.out) hb);have n3_:=Aside0.mk (zz11 (g:=gb676) (o:=.cells #[.int .i64 t671,.slice Ao14 t672.length co14] 29 (0,0)) (by (with_reducible repeat (first | refine zz6 ?_ _ | refine zz7 ?_ | refine zz8 ?_ _));refine blk_put (cs:=#[.int .i64 t671,.slice none 0 0]) ?_ 1 _ rfl;(with_reducible repeat (first | refine zz6 ?_ _ | refine zz7 ?_ | refine zz8 ?_ _));refine blk_put (cs:=#[.int .i64 0,.slice none 0 0]) ?_ 0 _ rfl;(with_reducible repeat (first | refine zz6 ?_ _ | refine zz7 ?_ | refine zz8 ?_ _));exact BK676.out) hb);have n4_:=Aside0.mk (zz4 (by repeat first | exact HB.out | apply zz2 | apply zz0 | apply zz1 | refine zz3 ?_ GE670.out | refine zz3 ?_ GE676.out) hb);clear HO668;clear HO674;clear BK670;clear BK676;clear HB;have HO668:=n0_;have HO674:=n1_;have BK670:=n2_;have BK676:=n3_;have HB:=n4_;clear n0_ n1_ n2_ n3_ n4_;(try clear hb);(try clear hb2);(try clear hk);(try clear hi)))
   go_meet
   case rel=>exact ⟨_,((t675 != t669)),(by first | rfl | (simp;done) | (simp [*];done)),H',⟨by first | omega | exact Nat.le_refl _⟩,⟨by (with_reducible repeat (first | apply zz12 | apply zz13 | apply zz14));exact Kd.R_mono HO668.out (fun _ hk=>hk.2)⟩,⟨by (with_reducible repeat (first | apply zz12 | apply zz13 | apply zz14));exact Kd.R_mono HO674.out (fun _ hk=>hk.2)⟩,⟨by (with_reducible repeat (first | refine zz6 ?_ _ | refine zz7 ?_ | refine zz8 ?_ _));exact BK670.out⟩,⟨by (with_reducible repeat (first | refine zz6 ?_ _ | refine zz7 ?_ | refine zz8 ?_ _));exact BK676.out⟩,⟨by repeat first | exact HB.out | apply zz2 | apply zz0 | apply zz1 | refine zz3 ?_ GE670.out | refine zz3 ?_ GE676.out⟩⟩
  ·replace c16:=Bool.eq_false_iff.mpr c16
   subst c16
   have H1:(laws_FnExactTuranParty.j0 k a0 a1 t669 true t665 t666 t671 t672)=some r:=by rw [if_neg (show ¬ (false=true) by decide)] at H;exact H
   clear H
   have H:=H1
   clear H1
   have H':=Aside0.mk H
   clear H
   have hnb21:=NB676_670.out
   have hnc21:=NB670_676.out
   have hcz22_0:w11.cell? ⟨gb676,0,none⟩=some (.int .i64 0):=(zz9 BK676.out 0).trans rfl
   have hcz22_1:w11.cell? ⟨gb676,1,none⟩=some (.slice none 0 0):=(zz9 BK676.out 1).trans rfl
   have hfz22_0:=zz10 BK676.out 0
   have hfz22_1:=zz10 BK676.out 1
   have hcz23_0:w11.cell? ⟨gb670,0,none⟩=some (.int .i64 t665):=(zz9 BK670.out 0).trans rfl
   have hcz23_1:w11.cell? ⟨gb670,1,none⟩=some (.slice Ao9 t666.length co9):=(zz9 BK670.out 1).trans rfl
   have hfz23_0:=zz10 BK670.out 0
   have hfz23_1:=zz10 BK670.out 1
   go_wp2_with (first | ((with_reducible refine gate_callee (f:=19) rfl ?_);refine goesL_ (some 27) rfl rfl Try.func19 (by kernel_rfl) rfl #[.agg #[.int .i64 t671,.slice Ao14 t672.length co14],.agg #[.int .i64 t665,.slice Ao9 t666.length co9]] rfl (by (try simp only [zz26,zz27,zz28]);first | done | rfl | (simp only [zz24,zz25];rfl) | (simp only [zz25];congr;(try simp only [decide_eq_true_eq] at *);omega)) ?_;(with_reducible refine (laws_eqParty.calls k t671 _ _ t672 t665 _ _ t666 false _ ?side1 ?side2 ?side3 ?side4 A15.out).mono ?_);(case side1=>refine (Kd.R_reads' (e:=61) (base:=w.heap.size) (ok:=fun k_=>(True∧some k_ ≠ (.slice Ao9 t666.length co9:Value).ownBlock)) (n:=t672.length) (c:=co14) ?_).2.2;exact (by (with_reducible repeat (first | apply zz12 | apply zz13 | apply zz14));exact (Kd.R_mono (Kd.R_far (p:=⟨gb676,1,none⟩) (Kd.R_far (p:=⟨gb676,0,none⟩) (Kd.R_types HO674.out BK676.out (by decide)) (fun _ hk=>hk.2) (.int .i64 t671)) (fun _ hk=>hk.2) (.slice Ao14 t672.length co14)) (fun _ h_=>h_.1))));(case side2=>exact (Kd.R_reads' HO674.out).2.1);(case side3=>refine (Kd.R_reads' (e:=61) (base:=w.heap.size) (ok:=fun k_=>(True∧some k_ ≠ (.slice Ao14 t672.length co14:Value).ownBlock)) (n:=t666.length) (c:=co9) ?_).2.2;exact (by (with_reducible repeat (first | apply zz12 | apply zz13 | apply zz14));exact (Kd.R_mono (Kd.R_far (p:=⟨gb676,1,none⟩) (Kd.R_far (p:=⟨gb676,0,none⟩) (Kd.R_types HO668.out BK676.out (by decide)) (fun _ hk=>hk.2) (.int .i64 t671)) (fun _ hk=>hk.2) (.slice Ao14 t672.length co14)) (fun _ h_=>h_.1))));(case side4=>exact (Kd.R_reads' HO668.out).2.1);rintro e w24 ⟨rfl,hb⟩;refine ⟨_,rfl,?_⟩;have n0_:=Aside0.mk (Kd.R_below (by (with_reducible repeat (first | apply zz12 | apply zz13 | apply zz14));exact (Kd.R_mono (Kd.R_far (p:=⟨gb676,1,none⟩) (Kd.R_far (p:=⟨gb676,0,none⟩) (Kd.R_types HO668.out BK676.out (by decide)) (fun _ hk=>hk.2) (.int .i64 t671)) (fun _ hk=>hk.2) (.slice Ao14 t672.length co14)) (fun _ h_=>h_.1))) hb);have n1_:=Aside0.mk (Kd.R_below (by (with_reducible repeat (first | apply zz12 | apply zz13 | apply zz14));exact (Kd.R_mono (Kd.R_far (p:=⟨gb676,1,none⟩) (Kd.R_far (p:=⟨gb676,0,none⟩) (Kd.R_types HO674.out BK676.out (by decide)) (fun _ hk=>hk.2) (.int .i64 t671)) (fun _ hk=>hk.2) (.slice Ao14 t672.length co14)) (fun _ h_=>h_.1))) hb);have n2_:=Aside0.mk (zz11 (g:=gb670) (o:=.cells #[.int .i64 t665,.slice Ao9 t666.length co9] 29 (0,0)) (by (with_reducible repeat (first | refine zz6 ?_ _ | refine zz7 ?_ | refine zz8 ?_ _));refine blk_far ?_ NB670_676.out _;(with_reducible repeat (first | refine zz6 ?_ _ | refine zz7 ?_ | refine zz8 ?_ _));refine blk_far ?_ NB670_676.out _;(with_reducible repeat (first | refine zz6 ?_ _ | refine zz7 ?_ | refine zz8 ?_ _));exact BK670.out) hb);have n3_:=Aside0.mk (zz11 (g:=gb676) (o:=.cells #[.int .i64 t671,.slice Ao14 t672.length co14] 29 (0,0)) (by (with_reducible repeat (first | refine zz6 ?_ _ | refine zz7 ?_ | refine zz8 ?_ _));refine blk_put (cs:=#[.int .i64 t671,.slice none 0 0]) ?_ 1 _ rfl;(with_reducible repeat (first | refine zz6 ?_ _ | refine zz7 ?_ | refine zz8 ?_ _));refine blk_put (cs:=#[.int .i64 0,.slice none 0 0]) ?_ 0 _ rfl;(with_reducible repeat (first | refine zz6 ?_ _ | refine zz7 ?_ | refine zz8 ?_ _));exact BK676.out) hb);have n4_:=Aside0.mk (zz4 (by repeat first | exact HB.out | apply zz2 | apply zz0 | apply zz1 | refine zz3 ?_ GE670.out | refine zz3 ?_ GE676.out) hb);clear HO668;clear HO674;clear BK670;clear BK676;clear HB;have HO668:=n0_;have HO674:=n1_;have BK670:=n2_;have BK676:=n3_;have HB:=n4_;clear n0_ n1_ n2_ n3_ n4_;(try clear hb);(try clear hb2);(try clear hk);(try clear hi)))
   go_meet
   case rel=>exact ⟨_,(true),(by first | rfl | (simp;done) | (simp [*];done)),H',⟨by first | omega | exact Nat.le_refl _⟩,⟨by (with_reducible repeat (first | apply zz12 | apply zz13 | apply zz14));exact Kd.R_mono HO668.out (fun _ hk=>hk.2)⟩,⟨by (with_reducible repeat (first | apply zz12 | apply zz13 | apply zz14));exact Kd.R_mono HO674.out (fun _ hk=>hk.2)⟩,⟨by (with_reducible repeat (first | refine zz6 ?_ _ | refine zz7 ?_ | refine zz8 ?_ _));exact BK670.out⟩,⟨by (with_reducible repeat (first | refine zz6 ?_ _ | refine zz7 ?_ | refine zz8 ?_ _));exact BK676.out⟩,⟨by repeat first | exact HB.out | apply zz2 | apply zz0 | apply zz1 | refine zz3 ?_ GE670.out | refine zz3 ?_ GE676.out⟩⟩
 case rest =>
  clear HC5
  try clear c1
  try clear c2
  try clear p2
  try clear c4
  try clear c12
  try clear c16
  try clear c17
  try clear c19
  try clear c21
  try clear hcz13_0
  try clear hcz13_1
  try clear hcz18_0
  try clear hcz18_1
  try clear hcz19_0
  try clear hcz19_1
  try clear hcz22_0
  try clear hcz22_1
  try clear hcz23_0
  try clear hcz23_1
  try clear hcz8_0
  try clear hcz8_1
  try clear hfz13_0
  try clear hfz13_1
  try clear hfz18_0
  try clear hfz18_1
  try clear hfz19_0
  try clear hfz19_1
  try clear hfz22_0
  try clear hfz22_1
  try clear hfz23_0
  try clear hfz23_1
  try clear hfz8_0
  try clear hfz8_1
  obtain ⟨kq,x33_4,rfl,HA,HJ4,HO_671001,HO_677001,BK670,BK676,HB⟩:=hcut
  cases kq with
  | zero=>exact absurd HA.out (by simp [laws_FnExactTuranParty.j0])
  | succ kj4 =>
   have H:=HA.out
   clear HA
   simp only [laws_FnExactTuranParty.j0] at H
   by_cases c25:x33_4=true
   ·subst c25
    have H1:(some false)=some r:=by rw [if_pos rfl] at H;exact H
    clear H
    have H:=H1
    clear H1
    obtain rfl:=Option.some.inj H
    go_wp2
    go_ret
    exact ⟨by first | rfl | (simp [errW_none,errW_some] <;> rfl) | (simp [*,errW_none,errW_some] <;> rfl),by repeat first | exact HB.out | apply zz2 | apply zz0 | apply zz1 | refine zz3 ?_ GE670.out | refine zz3 ?_ GE676.out⟩
   ·replace c25:=Bool.eq_false_iff.mpr c25
    subst c25
    have H1:((laws_markParty.f kj4 t671 t672 1).bind fun bt678=>((laws_heldParty.f kj4 t671 bt678.2 1).bind fun t680=>(if t680 < 0 then (some false) else (if t680=bt678.1 then ((impl_TuranParty.f kj4 a0 a1).bind fun bt681=>((laws_eqParty.f kj4 bt681.1 bt681.2.1 t665 t666).bind fun t687=>(if t687=true then (laws_FnExactTuranParty.j1 kj4 bt678.1 (bt681.2.2 != t669) t671 bt678.2) else (laws_FnExactTuranParty.j1 kj4 bt678.1 true t671 bt678.2)))) else (some false)))))=some r:=by rw [if_neg (show ¬ (false=true) by decide)] at H;exact H
    clear H
    have H:=H1
    clear H1
    replace H:=zz30.mp H
    obtain ⟨⟨t678,t679⟩,A260,H⟩:=H
    replace H:((laws_heldParty.f kj4 t671 t679 1).bind fun t680=>(if t680 < 0 then (some false) else (if t680=t678 then ((impl_TuranParty.f kj4 a0 a1).bind fun bt681=>((laws_eqParty.f kj4 bt681.1 bt681.2.1 t665 t666).bind fun t687=>(if t687=true then (laws_FnExactTuranParty.j1 kj4 t678 (bt681.2.2 != t669) t671 t679) else (laws_FnExactTuranParty.j1 kj4 t678 true t671 t679)))) else (some false))))=some r:=H
    have A26:=Aside0.mk A260
    clear A260
    replace H:=zz30.mp H
    obtain ⟨t680,A270,H⟩:=H
    replace H:(if t680 < 0 then (some false) else (if t680=t678 then ((impl_TuranParty.f kj4 a0 a1).bind fun bt681=>((laws_eqParty.f kj4 bt681.1 bt681.2.1 t665 t666).bind fun t687=>(if t687=true then (laws_FnExactTuranParty.j1 kj4 t678 (bt681.2.2 != t669) t671 t679) else (laws_FnExactTuranParty.j1 kj4 t678 true t671 t679)))) else (some false)))=some r:=H
    have A27:=Aside0.mk A270
    clear A270
    by_cases c28:t680 < 0
    ·rw [if_pos c28] at H
     have c28b0:decide (t680 < 0)=true:=decide_eq_true c28
     clear c28
     obtain rfl:=Option.some.inj H
     have hnb29:=NB676_670.out
     have hnc29:=NB670_676.out
     have hcz30_0:wc.cell? ⟨gb676,0,none⟩=some (.int .i64 t671):=(zz9 BK676.out 0).trans rfl
     have hcz30_1:wc.cell? ⟨gb676,1,none⟩=some (.slice Ao14 t672.length co14):=(zz9 BK676.out 1).trans rfl
     have hfz30_0:=zz10 BK676.out 0
     have hfz30_1:=zz10 BK676.out 1
     go_wp2_with (first | ((with_reducible refine gate_callee (f:=22) rfl ?_);refine goesL_ (some 36) rfl rfl Try.func22 (by kernel_rfl) rfl #[.agg #[.int .i64 t671,.slice Ao14 t672.length co14],.int .i64 1] rfl (by (try simp only [zz26,zz27,zz28]);first | done | rfl | (simp only [zz24,zz25];rfl) | (simp only [zz25];congr;(try simp only [decide_eq_true_eq] at *);omega)) ?_;(with_reducible refine (laws_markParty.calls kj4 t671 (fun k_=>some k_=(.slice Ao14 t672.length co14:Value).ownBlock) (.slice Ao14 t672.length co14) t672 1 t678 t679 w _ ?side1 ?side2 A26.out).mono ?_);(case side1=>repeat first | exact HB.out | apply zz2 | apply zz0 | apply zz1 | refine zz3 ?_ GE670.out | refine zz3 ?_ GE676.out);(case side2=>exact Kd.R_tight rfl HO_677001.out);rintro e w31 ⟨rfl,hy0,hb,hkp⟩;refine ⟨_,rfl,?_⟩;have n0_:=Aside0.mk (Kd.R_mono (ok':=fun k_=>some k_ ≠ (.slice Ao14 t672.length co14:Value).ownBlock) (Kd.R_keptB (HO_671001.out) hkp (fun k_ hk_ hs_=>(hk_) hs_)) (fun k_ hk_=>hk_.1));have n1_:=Aside0.mk (Kd.R_reok rfl hy0 (fun k_ e_=>HO_677001.out.1 k_ e_));have n2_:=Aside0.mk (blk_kept (by (with_reducible repeat (first | refine zz6 ?_ _ | refine zz7 ?_ | refine zz8 ?_ _));exact BK670.out) hkp (fun hs_=>(fun e_=>(Kd.R_ne HO_677001.out BK670.out (by decide)) e_) hs_));have n3_:=Aside0.mk (blk_kept (by (with_reducible repeat (first | refine zz6 ?_ _ | refine zz7 ?_ | refine zz8 ?_ _));exact BK676.out) hkp (fun hs_=>(fun e_=>(Kd.R_ne HO_677001.out BK676.out (by decide)) e_) hs_));have n4_:=Aside0.mk (hb);clear HO_671001;clear HO_677001;clear BK670;clear BK676;clear HB;have HO_671001:=n0_;have HO_677001:=n1_;have BK670:=n2_;have BK676:=n3_;have HB:=n4_;clear n0_ n1_ n2_ n3_ n4_;(try clear hb);(try clear hkp);(try clear hy0);have hcz32_0:w31.cell? ⟨gb676,0,none⟩=some (.int .i64 t671):=(zz9 BK676.out 0).trans rfl;have hcz32_1:w31.cell? ⟨gb676,1,none⟩=some (.slice Ao14 t672.length co14):=(zz9 BK676.out 1).trans rfl;have hfz32_0:=zz10 BK676.out 0;have hfz32_1:=zz10 BK676.out 1) | ((with_reducible refine gate_callee (f:=23) rfl ?_);refine goesL_ (some 39) rfl rfl Try.func23 (by kernel_rfl) rfl #[.agg #[.int .i64 t671,.slice Ao14 t679.length co14],.int .i64 1] rfl (by (try simp only [zz26,zz27,zz28]);first | done | (rw [show t679.length=t672.length from (Kd.R_reads' HO_677001.out).1.symm] <;> rfl) | rfl | (simp only [zz24,zz25];rfl)) ?_;(with_reducible refine (laws_heldParty.calls kj4 t671 _ _ t679 1 t680 _ ?side1 ?side2 A27.out).mono ?_);(case side1=>repeat (first | exact (Kd.R_reads' HO_677001.out).2.2 | (with_reducible refine zz18 ?_ _) | (with_reducible refine zz19 ?_ _) | (with_reducible refine zz20 ?_)));(case side2=>rw [show t679.length=t672.length from (Kd.R_reads' HO_677001.out).1.symm];exact (Kd.R_reads' HO_677001.out).2.1);rintro e w33 ⟨rfl,hb⟩;refine ⟨_,rfl,?_⟩;have n0_:=Aside0.mk (Kd.R_below (by (with_reducible repeat (first | apply zz12 | apply zz13 | apply zz14));exact HO_671001.out) hb);have n1_:=Aside0.mk (Kd.R_below (by (with_reducible repeat (first | apply zz12 | apply zz13 | apply zz14));exact HO_677001.out) hb);have n2_:=Aside0.mk (zz11 (g:=gb670) (o:=.cells #[.int .i64 t665,.slice Ao9 t666.length co9] 29 (0,0)) (by (with_reducible repeat (first | refine zz6 ?_ _ | refine zz7 ?_ | refine zz8 ?_ _));exact BK670.out) hb);have n3_:=Aside0.mk (zz11 (g:=gb676) (o:=.cells #[.int .i64 t671,.slice Ao14 t672.length co14] 29 (0,0)) (by (with_reducible repeat (first | refine zz6 ?_ _ | refine zz7 ?_ | refine zz8 ?_ _));exact BK676.out) hb);have n4_:=Aside0.mk (zz4 (by repeat first | exact HB.out | apply zz2 | apply zz0 | apply zz1 | refine zz3 ?_ GE670.out | refine zz3 ?_ GE676.out) hb);clear HO_671001;clear HO_677001;clear BK670;clear BK676;clear HB;have HO_671001:=n0_;have HO_677001:=n1_;have BK670:=n2_;have BK676:=n3_;have HB:=n4_;clear n0_ n1_ n2_ n3_ n4_;(try clear hb);(try clear hb2);(try clear hk);(try clear hi)))
     go_ret
     exact ⟨by first | rfl | (simp [errW_none,errW_some] <;> rfl) | (simp [*,errW_none,errW_some] <;> rfl),by repeat first | exact HB.out | apply zz2 | apply zz0 | apply zz1 | refine zz3 ?_ GE670.out | refine zz3 ?_ GE676.out⟩
    ·rw [if_neg c28] at H
     have c28b0:decide (t680 < 0)=false:=decide_eq_false c28
     clear c28
     by_cases c34:t680=t678
     ·rw [if_pos c34] at H
      have c34b0:(t680 == t678)=true:=beq_iff_eq.mpr c34
      have c34b1:(t680 != t678)=false:=bne_eq_false_iff_eq.mpr c34
      clear c34
      replace H:=zz30.mp H
      obtain ⟨⟨t681,t682,t685⟩,A350,H⟩:=H
      replace H:((laws_eqParty.f kj4 t681 t682 t665 t666).bind fun t687=>(if t687=true then (laws_FnExactTuranParty.j1 kj4 t678 (t685 != t669) t671 t679) else (laws_FnExactTuranParty.j1 kj4 t678 true t671 t679)))=some r:=H
      have A35:=Aside0.mk A350
      clear A350
      have HC36:=Aside0.mk H
      clear H
      have hnb37:=NB676_670.out
      have hnc37:=NB670_676.out
      have hcz38_0:wc.cell? ⟨gb676,0,none⟩=some (.int .i64 t671):=(zz9 BK676.out 0).trans rfl
      have hcz38_1:wc.cell? ⟨gb676,1,none⟩=some (.slice Ao14 t672.length co14):=(zz9 BK676.out 1).trans rfl
      have hfz38_0:=zz10 BK676.out 0
      have hfz38_1:=zz10 BK676.out 1
      go_upto_region 14 with (first | ((with_reducible refine gate_callee (f:=22) rfl ?_);refine goesL_ (some 36) rfl rfl Try.func22 (by kernel_rfl) rfl #[.agg #[.int .i64 t671,.slice Ao14 t672.length co14],.int .i64 1] rfl (by (try simp only [zz26,zz27,zz28]);first | done | rfl | (simp only [zz24,zz25];rfl) | (simp only [zz25];congr;(try simp only [decide_eq_true_eq] at *);omega)) ?_;(with_reducible refine (laws_markParty.calls kj4 t671 (fun k_=>some k_=(.slice Ao14 t672.length co14:Value).ownBlock) (.slice Ao14 t672.length co14) t672 1 t678 t679 w _ ?side1 ?side2 A26.out).mono ?_);(case side1=>repeat first | exact HB.out | apply zz2 | apply zz0 | apply zz1 | refine zz3 ?_ GE670.out | refine zz3 ?_ GE676.out);(case side2=>exact Kd.R_tight rfl HO_677001.out);rintro e w39 ⟨rfl,hy0,hb,hkp⟩;refine ⟨_,rfl,?_⟩;have n0_:=Aside0.mk (Kd.R_mono (ok':=fun k_=>some k_ ≠ (.slice Ao14 t672.length co14:Value).ownBlock) (Kd.R_keptB (HO_671001.out) hkp (fun k_ hk_ hs_=>(hk_) hs_)) (fun k_ hk_=>hk_.1));have n1_:=Aside0.mk (Kd.R_reok rfl hy0 (fun k_ e_=>HO_677001.out.1 k_ e_));have n2_:=Aside0.mk (blk_kept (by (with_reducible repeat (first | refine zz6 ?_ _ | refine zz7 ?_ | refine zz8 ?_ _));exact BK670.out) hkp (fun hs_=>(fun e_=>(Kd.R_ne HO_677001.out BK670.out (by decide)) e_) hs_));have n3_:=Aside0.mk (blk_kept (by (with_reducible repeat (first | refine zz6 ?_ _ | refine zz7 ?_ | refine zz8 ?_ _));exact BK676.out) hkp (fun hs_=>(fun e_=>(Kd.R_ne HO_677001.out BK676.out (by decide)) e_) hs_));have n4_:=Aside0.mk (hb);clear HO_671001;clear HO_677001;clear BK670;clear BK676;clear HB;have HO_671001:=n0_;have HO_677001:=n1_;have BK670:=n2_;have BK676:=n3_;have HB:=n4_;clear n0_ n1_ n2_ n3_ n4_;(try clear hb);(try clear hkp);(try clear hy0);have hcz40_0:w39.cell? ⟨gb676,0,none⟩=some (.int .i64 t671):=(zz9 BK676.out 0).trans rfl;have hcz40_1:w39.cell? ⟨gb676,1,none⟩=some (.slice Ao14 t672.length co14):=(zz9 BK676.out 1).trans rfl;have hfz40_0:=zz10 BK676.out 0;have hfz40_1:=zz10 BK676.out 1) | ((with_reducible refine gate_callee (f:=23) rfl ?_);refine goesL_ (some 39) rfl rfl Try.func23 (by kernel_rfl) rfl #[.agg #[.int .i64 t671,.slice Ao14 t679.length co14],.int .i64 1] rfl (by (try simp only [zz26,zz27,zz28]);first | done | (rw [show t679.length=t672.length from (Kd.R_reads' HO_677001.out).1.symm] <;> rfl) | rfl | (simp only [zz24,zz25];rfl)) ?_;(with_reducible refine (laws_heldParty.calls kj4 t671 _ _ t679 1 t680 _ ?side1 ?side2 A27.out).mono ?_);(case side1=>repeat (first | exact (Kd.R_reads' HO_677001.out).2.2 | (with_reducible refine zz18 ?_ _) | (with_reducible refine zz19 ?_ _) | (with_reducible refine zz20 ?_)));(case side2=>rw [show t679.length=t672.length from (Kd.R_reads' HO_677001.out).1.symm];exact (Kd.R_reads' HO_677001.out).2.1);rintro e w41 ⟨rfl,hb⟩;refine ⟨_,rfl,?_⟩;have n0_:=Aside0.mk (Kd.R_below (by (with_reducible repeat (first | apply zz12 | apply zz13 | apply zz14));exact HO_671001.out) hb);have n1_:=Aside0.mk (Kd.R_below (by (with_reducible repeat (first | apply zz12 | apply zz13 | apply zz14));exact HO_677001.out) hb);have n2_:=Aside0.mk (zz11 (g:=gb670) (o:=.cells #[.int .i64 t665,.slice Ao9 t666.length co9] 29 (0,0)) (by (with_reducible repeat (first | refine zz6 ?_ _ | refine zz7 ?_ | refine zz8 ?_ _));exact BK670.out) hb);have n3_:=Aside0.mk (zz11 (g:=gb676) (o:=.cells #[.int .i64 t671,.slice Ao14 t672.length co14] 29 (0,0)) (by (with_reducible repeat (first | refine zz6 ?_ _ | refine zz7 ?_ | refine zz8 ?_ _));exact BK676.out) hb);have n4_:=Aside0.mk (zz4 (by repeat first | exact HB.out | apply zz2 | apply zz0 | apply zz1 | refine zz3 ?_ GE670.out | refine zz3 ?_ GE676.out) hb);clear HO_671001;clear HO_677001;clear BK670;clear BK676;clear HB;have HO_671001:=n0_;have HO_677001:=n1_;have BK670:=n2_;have BK676:=n3_;have HB:=n4_;clear n0_ n1_ n2_ n3_ n4_;(try clear hb);(try clear hb2);(try clear hk);(try clear hi)) | ((with_reducible refine gate_callee (f:=43) rfl ?_);refine goesL_ (some 48) rfl rfl Try.func43 (by kernel_rfl) rfl #[.int .i64 a0,.int .i64 a1] rfl (by (try simp only [zz26,zz27,zz28]);first | done | rfl | (simp only [zz24,zz25];rfl) | (simp only [zz25];congr;(try simp only [decide_eq_true_eq] at *);omega)) ?_;(with_reducible refine (impl_TuranParty.calls kj4 a0 a1 t681 t682 t685 _ A35.out).mono ?_);rintro e w42 ⟨v683,rfl,ho0,hb⟩;refine ⟨_,rfl,?_⟩;have n0_:=Aside0.mk (Kd.R_elder' (by (with_reducible repeat (first | apply zz12 | apply zz13 | apply zz14));exact HO_671001.out) (Kd.R_base ho0) hb);have n1_:=Aside0.mk (Kd.R_elder' (by (with_reducible repeat (first | apply zz12 | apply zz13 | apply zz14));exact HO_677001.out) (Kd.R_base ho0) hb);have n2_:=Aside0.mk (Kd.R_lower (Kd.R_new' (Kd.R_new' ho0 (Kd.R_lt (by (with_reducible repeat (first | apply zz12 | apply zz13 | apply zz14));exact HO_671001.out))) (Kd.R_lt (by (with_reducible repeat (first | apply zz12 | apply zz13 | apply zz14));exact HO_677001.out))) (zz5 (by repeat first | exact HB.out | apply zz2 | apply zz0 | apply zz1 | refine zz3 ?_ GE670.out | refine zz3 ?_ GE676.out)));have n3_:=Aside0.mk (zz11 (g:=gb670) (o:=.cells #[.int .i64 t665,.slice Ao9 t666.length co9] 29 (0,0)) (by (with_reducible repeat (first | refine zz6 ?_ _ | refine zz7 ?_ | refine zz8 ?_ _));exact BK670.out) hb);have n4_:=Aside0.mk (zz11 (g:=gb676) (o:=.cells #[.int .i64 t671,.slice Ao14 t672.length co14] 29 (0,0)) (by (with_reducible repeat (first | refine zz6 ?_ _ | refine zz7 ?_ | refine zz8 ?_ _));exact BK676.out) hb);have n5_:=Aside0.mk (zz4 (by repeat first | exact HB.out | apply zz2 | apply zz0 | apply zz1 | refine zz3 ?_ GE670.out | refine zz3 ?_ GE676.out) hb);clear HO_671001;clear HO_677001;clear BK670;clear BK676;clear HB;have HO_671001:=n0_;have HO_677001:=n1_;have HO684:=n2_;have BK670:=n3_;have BK676:=n4_;have HB:=n5_;clear n0_ n1_ n2_ n3_ n4_ n5_;(try clear hb);(try clear hb2);(try clear hk);(try clear hi);(try clear ho0)) | ((with_reducible refine gate_dst (N:=11) rfl ?_);refine box_event ?hg (N:=11) ?hd (cs:=#[.int .i64 0,.slice none 0 0]) (t:=29) ?hr ?_;(case hd=>rfl);(case hg=>rfl);(case hr=>first | (go_simp;done) | (go_simp;rfl));intro gb686 hg w43 hbox hb;have n0_:=Aside0.mk (Kd.R_below (by (with_reducible repeat (first | apply zz12 | apply zz13 | apply zz14));exact HO_671001.out) hb);have n1_:=Aside0.mk (Kd.R_below (by (with_reducible repeat (first | apply zz12 | apply zz13 | apply zz14));exact HO_677001.out) hb);have n2_:=Aside0.mk (Kd.R_below (by (with_reducible repeat (first | apply zz12 | apply zz13 | apply zz14));exact HO684.out) hb);have n3_:=Aside0.mk (zz11 (g:=gb670) (o:=.cells #[.int .i64 t665,.slice Ao9 t666.length co9] 29 (0,0)) (by (with_reducible repeat (first | refine zz6 ?_ _ | refine zz7 ?_ | refine zz8 ?_ _));exact BK670.out) hb);have n4_:=Aside0.mk (zz11 (g:=gb676) (o:=.cells #[.int .i64 t671,.slice Ao14 t672.length co14] 29 (0,0)) (by (with_reducible repeat (first | refine zz6 ?_ _ | refine zz7 ?_ | refine zz8 ?_ _));exact BK676.out) hb);have n5_:=Aside0.mk (zz4 (by repeat first | exact HB.out | apply zz2 | apply zz0 | apply zz1 | refine zz3 ?_ GE670.out | refine zz3 ?_ GE676.out) hb);have n6_:=Aside0.mk (hbox);have n7_:=Aside0.mk ((by rw [hg];exact (zz5 (by repeat first | exact HB.out | apply zz2 | apply zz0 | apply zz1 | refine zz3 ?_ GE670.out | refine zz3 ?_ GE676.out)):w.heap.size≤gb686));have n8_:=Aside0.mk ((by rw [hg];exact (zz5 (by repeat first | exact HB.out | apply zz2 | apply zz0 | apply zz1 | refine zz3 ?_ GE670.out | refine zz3 ?_ GE676.out)):w.heap.size≤gb686));have n9_:=Aside0.mk ((by rw [hg];exact Nat.ne_of_lt (blk_lt (g:=gb670) (o:=.cells #[.int .i64 t665,.slice Ao9 t666.length co9] 29 (0,0)) (by (with_reducible repeat (first | refine zz6 ?_ _ | refine zz7 ?_ | refine zz8 ?_ _));exact BK670.out)):gb670 ≠ gb686));have n10_:=Aside0.mk ((by rw [hg];exact Nat.ne_of_gt (blk_lt (g:=gb670) (o:=.cells #[.int .i64 t665,.slice Ao9 t666.length co9] 29 (0,0)) (by (with_reducible repeat (first | refine zz6 ?_ _ | refine zz7 ?_ | refine zz8 ?_ _));exact BK670.out)):gb686 ≠ gb670));have n11_:=Aside0.mk ((by rw [hg];exact Nat.ne_of_lt (blk_lt (g:=gb676) (o:=.cells #[.int .i64 t671,.slice Ao14 t672.length co14] 29 (0,0)) (by (with_reducible repeat (first | refine zz6 ?_ _ | refine zz7 ?_ | refine zz8 ?_ _));exact BK676.out)):gb676 ≠ gb686));have n12_:=Aside0.mk ((by rw [hg];exact Nat.ne_of_gt (blk_lt (g:=gb676) (o:=.cells #[.int .i64 t671,.slice Ao14 t672.length co14] 29 (0,0)) (by (with_reducible repeat (first | refine zz6 ?_ _ | refine zz7 ?_ | refine zz8 ?_ _));exact BK676.out)):gb686 ≠ gb676));clear HO_671001;clear HO_677001;clear HO684;clear BK670;clear BK676;clear HB;have HO_671001:=n0_;have HO_677001:=n1_;have HO684:=n2_;have BK670:=n3_;have BK676:=n4_;have HB:=n5_;have BK686:=n6_;have GW686:=n7_;have GE686:=n8_;have NB670_686:=n9_;have NB686_670:=n10_;have NB676_686:=n11_;have NB686_676:=n12_;clear n0_ n1_ n2_ n3_ n4_ n5_ n6_ n7_ n8_ n9_ n10_ n11_ n12_;clear hb hbox hg;have hnb44:=NB686_670.out;have hnc44:=NB670_686.out;have hnb45:=NB686_676.out;have hnc45:=NB676_686.out;have hcz46_0:w43.cell? ⟨gb686,0,none⟩=some (.int .i64 0):=(zz9 BK686.out 0).trans rfl;have hcz46_1:w43.cell? ⟨gb686,1,none⟩=some (.slice none 0 0):=(zz9 BK686.out 1).trans rfl;have hfz46_0:=zz10 BK686.out 0;have hfz46_1:=zz10 BK686.out 1;obtain ⟨Ao47,co47,eo47⟩:=Kd.R_slice HO684.out;subst eo47))
      (try simp only [Act.put,zz21,zz22,zz23])
      go_cut [59] (fun v59 wc=>∃ (kq:Nat) (x59_35:Bool),v59=.bool x59_35∧Aside0 (laws_FnExactTuranParty.j1 kq t678 x59_35 t671 t679=some r)∧Aside0 (kq≤kj4)∧Aside0 (Kd.R k61 61 wc w.heap.size (fun k_=>some k_ ≠ ((.slice Ao14 t672.length co14):Value).ownBlock∧some k_ ≠ ((.slice Ao47 t682.length co47):Value).ownBlock) (.slice Ao9 t666.length co9) t666)∧Aside0 (Kd.R k61 61 wc w.heap.size (fun k_=>some k_ ≠ ((.slice Ao9 t666.length co9):Value).ownBlock∧some k_ ≠ ((.slice Ao47 t682.length co47):Value).ownBlock) (.slice Ao14 t672.length co14) t679)∧Aside0 (Kd.R k61 61 wc w.heap.size (fun k_=>some k_ ≠ ((.slice Ao9 t666.length co9):Value).ownBlock∧some k_ ≠ ((.slice Ao14 t672.length co14):Value).ownBlock) (.slice Ao47 t682.length co47) t682)∧Aside0 (wc.heap[gb670]?=some (.cells #[.int .i64 t665,(.slice Ao9 t666.length co9)] 29 (0,0)))∧Aside0 (wc.heap[gb676]?=some (.cells #[.int .i64 t671,(.slice Ao14 t672.length co14)] 29 (0,0)))∧Aside0 (wc.heap[gb686]?=some (.cells #[.int .i64 t681,(.slice Ao47 t682.length co47)] 29 (0,0)))∧Aside0 (Below w.heap.size w wc))
      case first =>
       have H:=HC36.out
       clear HC36
       replace H:=zz30.mp H
       obtain ⟨t687,A480,H⟩:=H
       replace H:(if t687=true then (laws_FnExactTuranParty.j1 kj4 t678 (t685 != t669) t671 t679) else (laws_FnExactTuranParty.j1 kj4 t678 true t671 t679))=some r:=H
       have A48:=Aside0.mk A480
       clear A480
       by_cases c49:t687=true
       ·subst c49
        have H1:(laws_FnExactTuranParty.j1 kj4 t678 (t685 != t669) t671 t679)=some r:=by rw [if_pos rfl] at H;exact H
        clear H
        have H:=H1
        clear H1
        have H':=Aside0.mk H
        clear H
        have hnb50:=NB686_670.out
        have hnc50:=NB670_686.out
        have hnb51:=NB686_676.out
        have hnc51:=NB676_686.out
        have hcz52_0:w43.cell? ⟨gb686,0,none⟩=some (.int .i64 0):=(zz9 BK686.out 0).trans rfl
        have hcz52_1:w43.cell? ⟨gb686,1,none⟩=some (.slice none 0 0):=(zz9 BK686.out 1).trans rfl
        have hfz52_0:=zz10 BK686.out 0
        have hfz52_1:=zz10 BK686.out 1
        have hnb53:=NB670_676.out
        have hnc53:=NB676_670.out
        have hcz54_0:w43.cell? ⟨gb670,0,none⟩=some (.int .i64 t665):=(zz9 BK670.out 0).trans rfl
        have hcz54_1:w43.cell? ⟨gb670,1,none⟩=some (.slice Ao9 t666.length co9):=(zz9 BK670.out 1).trans rfl
        have hfz54_0:=zz10 BK670.out 0
        have hfz54_1:=zz10 BK670.out 1
        go_wp2_with (first | ((with_reducible refine gate_callee (f:=19) rfl ?_);refine goesL_ (some 53) rfl rfl Try.func19 (by kernel_rfl) rfl #[.agg #[.int .i64 t681,.slice Ao47 t682.length co47],.agg #[.int .i64 t665,.slice Ao9 t666.length co9]] rfl (by (try simp only [zz26,zz27,zz28]);first | done | rfl | (simp only [zz24,zz25];rfl) | (simp only [zz25];congr;(try simp only [decide_eq_true_eq] at *);omega)) ?_;(with_reducible refine (laws_eqParty.calls kj4 t681 _ _ t682 t665 _ _ t666 true _ ?side1 ?side2 ?side3 ?side4 A48.out).mono ?_);(case side1=>refine (Kd.R_reads' (e:=61) (base:=w.heap.size) (ok:=fun k_=>((True∧some k_ ≠ (.slice Ao9 t666.length co9:Value).ownBlock)∧some k_ ≠ (.slice Ao14 t672.length co14:Value).ownBlock)) (n:=t682.length) (c:=co47) ?_).2.2;exact (by (with_reducible repeat (first | apply zz12 | apply zz13 | apply zz14));exact (Kd.R_mono (Kd.R_far (p:=⟨gb686,1,none⟩) (Kd.R_far (p:=⟨gb686,0,none⟩) (Kd.R_types HO684.out BK686.out (by decide)) (fun _ hk=>hk.2) (.int .i64 t681)) (fun _ hk=>hk.2) (.slice Ao47 t682.length co47)) (fun _ h_=>h_.1))));(case side2=>exact (Kd.R_reads' HO684.out).2.1);(case side3=>refine (Kd.R_reads' (e:=61) (base:=w.heap.size) (ok:=fun k_=>(some k_ ≠ (.slice Ao14 t672.length co14:Value).ownBlock∧some k_ ≠ (.slice Ao47 t682.length co47:Value).ownBlock)) (n:=t666.length) (c:=co9) ?_).2.2;exact (by (with_reducible repeat (first | apply zz12 | apply zz13 | apply zz14));exact (Kd.R_mono (Kd.R_far (p:=⟨gb686,1,none⟩) (Kd.R_far (p:=⟨gb686,0,none⟩) (Kd.R_types HO_671001.out BK686.out (by decide)) (fun _ hk=>hk.2) (.int .i64 t681)) (fun _ hk=>hk.2) (.slice Ao47 t682.length co47)) (fun _ h_=>h_.1))));(case side4=>exact (Kd.R_reads' HO_671001.out).2.1);rintro e w55 ⟨rfl,hb⟩;refine ⟨_,rfl,?_⟩;have n0_:=Aside0.mk (Kd.R_below (by (with_reducible repeat (first | apply zz12 | apply zz13 | apply zz14));exact (Kd.R_mono (Kd.R_far (p:=⟨gb686,1,none⟩) (Kd.R_far (p:=⟨gb686,0,none⟩) (Kd.R_types HO_671001.out BK686.out (by decide)) (fun _ hk=>hk.2) (.int .i64 t681)) (fun _ hk=>hk.2) (.slice Ao47 t682.length co47)) (fun _ h_=>h_.1))) hb);have n1_:=Aside0.mk (Kd.R_below (by (with_reducible repeat (first | apply zz12 | apply zz13 | apply zz14));exact (Kd.R_mono (Kd.R_far (p:=⟨gb686,1,none⟩) (Kd.R_far (p:=⟨gb686,0,none⟩) (Kd.R_types HO_677001.out BK686.out (by decide)) (fun _ hk=>hk.2) (.int .i64 t681)) (fun _ hk=>hk.2) (.slice Ao47 t682.length co47)) (fun _ h_=>h_.1))) hb);have n2_:=Aside0.mk (Kd.R_below (by (with_reducible repeat (first | apply zz12 | apply zz13 | apply zz14));exact (Kd.R_mono (Kd.R_far (p:=⟨gb686,1,none⟩) (Kd.R_far (p:=⟨gb686,0,none⟩) (Kd.R_types HO684.out BK686.out (by decide)) (fun _ hk=>hk.2) (.int .i64 t681)) (fun _ hk=>hk.2) (.slice Ao47 t682.length co47)) (fun _ h_=>h_.1))) hb);have n3_:=Aside0.mk (zz11 (g:=gb670) (o:=.cells #[.int .i64 t665,.slice Ao9 t666.length co9] 29 (0,0)) (by (with_reducible repeat (first | refine zz6 ?_ _ | refine zz7 ?_ | refine zz8 ?_ _));refine blk_far ?_ NB670_686.out _;(with_reducible repeat (first | refine zz6 ?_ _ | refine zz7 ?_ | refine zz8 ?_ _));refine blk_far ?_ NB670_686.out _;(with_reducible repeat (first | refine zz6 ?_ _ | refine zz7 ?_ | refine zz8 ?_ _));exact BK670.out) hb);have n4_:=Aside0.mk (zz11 (g:=gb676) (o:=.cells #[.int .i64 t671,.slice Ao14 t672.length co14] 29 (0,0)) (by (with_reducible repeat (first | refine zz6 ?_ _ | refine zz7 ?_ | refine zz8 ?_ _));refine blk_far ?_ NB676_686.out _;(with_reducible repeat (first | refine zz6 ?_ _ | refine zz7 ?_ | refine zz8 ?_ _));refine blk_far ?_ NB676_686.out _;(with_reducible repeat (first | refine zz6 ?_ _ | refine zz7 ?_ | refine zz8 ?_ _));exact BK676.out) hb);have n5_:=Aside0.mk (zz11 (g:=gb686) (o:=.cells #[.int .i64 t681,.slice Ao47 t682.length co47] 29 (0,0)) (by (with_reducible repeat (first | refine zz6 ?_ _ | refine zz7 ?_ | refine zz8 ?_ _));refine blk_put (cs:=#[.int .i64 t681,.slice none 0 0]) ?_ 1 _ rfl;(with_reducible repeat (first | refine zz6 ?_ _ | refine zz7 ?_ | refine zz8 ?_ _));refine blk_put (cs:=#[.int .i64 0,.slice none 0 0]) ?_ 0 _ rfl;(with_reducible repeat (first | refine zz6 ?_ _ | refine zz7 ?_ | refine zz8 ?_ _));exact BK686.out) hb);have n6_:=Aside0.mk (zz4 (by repeat first | exact HB.out | apply zz2 | apply zz0 | apply zz1 | refine zz3 ?_ GE670.out | refine zz3 ?_ GE676.out | refine zz3 ?_ GE686.out) hb);clear HO_671001;clear HO_677001;clear HO684;clear BK670;clear BK676;clear BK686;clear HB;have HO_671001:=n0_;have HO_677001:=n1_;have HO684:=n2_;have BK670:=n3_;have BK676:=n4_;have BK686:=n5_;have HB:=n6_;clear n0_ n1_ n2_ n3_ n4_ n5_ n6_;(try clear hb);(try clear hb2);(try clear hk);(try clear hi)))
        go_meet
        case rel=>exact ⟨_,((t685 != t669)),(by first | rfl | (simp;done) | (simp [*];done)),H',⟨by have:=HJ4.out;first | omega | exact Nat.le_refl _⟩,⟨by (with_reducible repeat (first | apply zz12 | apply zz13 | apply zz14));exact HO_671001.out⟩,⟨by (with_reducible repeat (first | apply zz12 | apply zz13 | apply zz14));exact HO_677001.out⟩,⟨by (with_reducible repeat (first | apply zz12 | apply zz13 | apply zz14));exact Kd.R_mono HO684.out (fun _ hk=>⟨hk.1.2,hk.2⟩)⟩,⟨by (with_reducible repeat (first | refine zz6 ?_ _ | refine zz7 ?_ | refine zz8 ?_ _));exact BK670.out⟩,⟨by (with_reducible repeat (first | refine zz6 ?_ _ | refine zz7 ?_ | refine zz8 ?_ _));exact BK676.out⟩,⟨by (with_reducible repeat (first | refine zz6 ?_ _ | refine zz7 ?_ | refine zz8 ?_ _));exact BK686.out⟩,⟨by repeat first | exact HB.out | apply zz2 | apply zz0 | apply zz1 | refine zz3 ?_ GE670.out | refine zz3 ?_ GE676.out | refine zz3 ?_ GE686.out⟩⟩
       ·replace c49:=Bool.eq_false_iff.mpr c49
        subst c49
        have H1:(laws_FnExactTuranParty.j1 kj4 t678 true t671 t679)=some r:=by rw [if_neg (show ¬ (false=true) by decide)] at H;exact H
        clear H
        have H:=H1
        clear H1
        have H':=Aside0.mk H
        clear H
        have hnb56:=NB686_670.out
        have hnc56:=NB670_686.out
        have hnb57:=NB686_676.out
        have hnc57:=NB676_686.out
        have hcz58_0:w43.cell? ⟨gb686,0,none⟩=some (.int .i64 0):=(zz9 BK686.out 0).trans rfl
        have hcz58_1:w43.cell? ⟨gb686,1,none⟩=some (.slice none 0 0):=(zz9 BK686.out 1).trans rfl
        have hfz58_0:=zz10 BK686.out 0
        have hfz58_1:=zz10 BK686.out 1
        have hnb59:=NB670_676.out
        have hnc59:=NB676_670.out
        have hcz60_0:w43.cell? ⟨gb670,0,none⟩=some (.int .i64 t665):=(zz9 BK670.out 0).trans rfl
        have hcz60_1:w43.cell? ⟨gb670,1,none⟩=some (.slice Ao9 t666.length co9):=(zz9 BK670.out 1).trans rfl
        have hfz60_0:=zz10 BK670.out 0
        have hfz60_1:=zz10 BK670.out 1
        go_wp2_with (first | ((with_reducible refine gate_callee (f:=19) rfl ?_);refine goesL_ (some 53) rfl rfl Try.func19 (by kernel_rfl) rfl #[.agg #[.int .i64 t681,.slice Ao47 t682.length co47],.agg #[.int .i64 t665,.slice Ao9 t666.length co9]] rfl (by (try simp only [zz26,zz27,zz28]);first | done | rfl | (simp only [zz24,zz25];rfl) | (simp only [zz25];congr;(try simp only [decide_eq_true_eq] at *);omega)) ?_;(with_reducible refine (laws_eqParty.calls kj4 t681 _ _ t682 t665 _ _ t666 false _ ?side1 ?side2 ?side3 ?side4 A48.out).mono ?_);(case side1=>refine (Kd.R_reads' (e:=61) (base:=w.heap.size) (ok:=fun k_=>((True∧some k_ ≠ (.slice Ao9 t666.length co9:Value).ownBlock)∧some k_ ≠ (.slice Ao14 t672.length co14:Value).ownBlock)) (n:=t682.length) (c:=co47) ?_).2.2;exact (by (with_reducible repeat (first | apply zz12 | apply zz13 | apply zz14));exact (Kd.R_mono (Kd.R_far (p:=⟨gb686,1,none⟩) (Kd.R_far (p:=⟨gb686,0,none⟩) (Kd.R_types HO684.out BK686.out (by decide)) (fun _ hk=>hk.2) (.int .i64 t681)) (fun _ hk=>hk.2) (.slice Ao47 t682.length co47)) (fun _ h_=>h_.1))));(case side2=>exact (Kd.R_reads' HO684.out).2.1);(case side3=>refine (Kd.R_reads' (e:=61) (base:=w.heap.size) (ok:=fun k_=>(some k_ ≠ (.slice Ao14 t672.length co14:Value).ownBlock∧some k_ ≠ (.slice Ao47 t682.length co47:Value).ownBlock)) (n:=t666.length) (c:=co9) ?_).2.2;exact (by (with_reducible repeat (first | apply zz12 | apply zz13 | apply zz14));exact (Kd.R_mono (Kd.R_far (p:=⟨gb686,1,none⟩) (Kd.R_far (p:=⟨gb686,0,none⟩) (Kd.R_types HO_671001.out BK686.out (by decide)) (fun _ hk=>hk.2) (.int .i64 t681)) (fun _ hk=>hk.2) (.slice Ao47 t682.length co47)) (fun _ h_=>h_.1))));(case side4=>exact (Kd.R_reads' HO_671001.out).2.1);rintro e w61 ⟨rfl,hb⟩;refine ⟨_,rfl,?_⟩;have n0_:=Aside0.mk (Kd.R_below (by (with_reducible repeat (first | apply zz12 | apply zz13 | apply zz14));exact (Kd.R_mono (Kd.R_far (p:=⟨gb686,1,none⟩) (Kd.R_far (p:=⟨gb686,0,none⟩) (Kd.R_types HO_671001.out BK686.out (by decide)) (fun _ hk=>hk.2) (.int .i64 t681)) (fun _ hk=>hk.2) (.slice Ao47 t682.length co47)) (fun _ h_=>h_.1))) hb);have n1_:=Aside0.mk (Kd.R_below (by (with_reducible repeat (first | apply zz12 | apply zz13 | apply zz14));exact (Kd.R_mono (Kd.R_far (p:=⟨gb686,1,none⟩) (Kd.R_far (p:=⟨gb686,0,none⟩) (Kd.R_types HO_677001.out BK686.out (by decide)) (fun _ hk=>hk.2) (.int .i64 t681)) (fun _ hk=>hk.2) (.slice Ao47 t682.length co47)) (fun _ h_=>h_.1))) hb);have n2_:=Aside0.mk (Kd.R_below (by (with_reducible repeat (first | apply zz12 | apply zz13 | apply zz14));exact (Kd.R_mono (Kd.R_far (p:=⟨gb686,1,none⟩) (Kd.R_far (p:=⟨gb686,0,none⟩) (Kd.R_types HO684.out BK686.out (by decide)) (fun _ hk=>hk.2) (.int .i64 t681)) (fun _ hk=>hk.2) (.slice Ao47 t682.length co47)) (fun _ h_=>h_.1))) hb);have n3_:=Aside0.mk (zz11 (g:=gb670) (o:=.cells #[.int .i64 t665,.slice Ao9 t666.length co9] 29 (0,0)) (by (with_reducible repeat (first | refine zz6 ?_ _ | refine zz7 ?_ | refine zz8 ?_ _));refine blk_far ?_ NB670_686.out _;(with_reducible repeat (first | refine zz6 ?_ _ | refine zz7 ?_ | refine zz8 ?_ _));refine blk_far ?_ NB670_686.out _;(with_reducible repeat (first | refine zz6 ?_ _ | refine zz7 ?_ | refine zz8 ?_ _));exact BK670.out) hb);have n4_:=Aside0.mk (zz11 (g:=gb676) (o:=.cells #[.int .i64 t671,.slice Ao14 t672.length co14] 29 (0,0)) (by (with_reducible repeat (first | refine zz6 ?_ _ | refine zz7 ?_ | refine zz8 ?_ _));refine blk_far ?_ NB676_686.out _;(with_reducible repeat (first | refine zz6 ?_ _ | refine zz7 ?_ | refine zz8 ?_ _));refine blk_far ?_ NB676_686.out _;(with_reducible repeat (first | refine zz6 ?_ _ | refine zz7 ?_ | refine zz8 ?_ _));exact BK676.out) hb);have n5_:=Aside0.mk (zz11 (g:=gb686) (o:=.cells #[.int .i64 t681,.slice Ao47 t682.length co47] 29 (0,0)) (by (with_reducible repeat (first | refine zz6 ?_ _ | refine zz7 ?_ | refine zz8 ?_ _));refine blk_put (cs:=#[.int .i64 t681,.slice none 0 0]) ?_ 1 _ rfl;(with_reducible repeat (first | refine zz6 ?_ _ | refine zz7 ?_ | refine zz8 ?_ _));refine blk_put (cs:=#[.int .i64 0,.slice none 0 0]) ?_ 0 _ rfl;(with_reducible repeat (first | refine zz6 ?_ _ | refine zz7 ?_ | refine zz8 ?_ _));exact BK686.out) hb);have n6_:=Aside0.mk (zz4 (by repeat first | exact HB.out | apply zz2 | apply zz0 | apply zz1 | refine zz3 ?_ GE670.out | refine zz3 ?_ GE676.out | refine zz3 ?_ GE686.out) hb);clear HO_671001;clear HO_677001;clear HO684;clear BK670;clear BK676;clear BK686;clear HB;have HO_671001:=n0_;have HO_677001:=n1_;have HO684:=n2_;have BK670:=n3_;have BK676:=n4_;have BK686:=n5_;have HB:=n6_;clear n0_ n1_ n2_ n3_ n4_ n5_ n6_;(try clear hb);(try clear hb2);(try clear hk);(try clear hi)))
        go_meet
        case rel=>exact ⟨_,(true),(by first | rfl | (simp;done) | (simp [*];done)),H',⟨by have:=HJ4.out;first | omega | exact Nat.le_refl _⟩,⟨by (with_reducible repeat (first | apply zz12 | apply zz13 | apply zz14));exact HO_671001.out⟩,⟨by (with_reducible repeat (first | apply zz12 | apply zz13 | apply zz14));exact HO_677001.out⟩,⟨by (with_reducible repeat (first | apply zz12 | apply zz13 | apply zz14));exact Kd.R_mono HO684.out (fun _ hk=>⟨hk.1.2,hk.2⟩)⟩,⟨by (with_reducible repeat (first | refine zz6 ?_ _ | refine zz7 ?_ | refine zz8 ?_ _));exact BK670.out⟩,⟨by (with_reducible repeat (first | refine zz6 ?_ _ | refine zz7 ?_ | refine zz8 ?_ _));exact BK676.out⟩,⟨by (with_reducible repeat (first | refine zz6 ?_ _ | refine zz7 ?_ | refine zz8 ?_ _));exact BK686.out⟩,⟨by repeat first | exact HB.out | apply zz2 | apply zz0 | apply zz1 | refine zz3 ?_ GE670.out | refine zz3 ?_ GE676.out | refine zz3 ?_ GE686.out⟩⟩
      case rest =>
       clear HC36
       try clear c1
       try clear c2
       try clear p2
       try clear c3
       try clear c4
       try clear c5
       try clear c12
       try clear c16
       try clear c17
       try clear c19
       try clear c21
       try clear c22
       try clear c23
       try clear c25
       try clear c28
       try clear c28b0
       try clear c29
       try clear c34
       try clear c34b0
       try clear c34b1
       try clear c37
       try clear c42
       try clear c43
       try clear c44
       try clear c45
       try clear c49
       try clear c50
       try clear c51
       try clear c53
       try clear c56
       try clear c57
       try clear c59
       try clear hcz13_0
       try clear hcz13_1
       try clear hcz18_0
       try clear hcz18_1
       try clear hcz19_0
       try clear hcz19_1
       try clear hcz22_0
       try clear hcz22_1
       try clear hcz23_0
       try clear hcz23_1
       try clear hcz30_0
       try clear hcz30_1
       try clear hcz32_0
       try clear hcz32_1
       try clear hcz38_0
       try clear hcz38_1
       try clear hcz40_0
       try clear hcz40_1
       try clear hcz46_0
       try clear hcz46_1
       try clear hcz52_0
       try clear hcz52_1
       try clear hcz54_0
       try clear hcz54_1
       try clear hcz58_0
       try clear hcz58_1
       try clear hcz60_0
       try clear hcz60_1
       try clear hcz8_0
       try clear hcz8_1
       try clear hfz13_0
       try clear hfz13_1
       try clear hfz18_0
       try clear hfz18_1
       try clear hfz19_0
       try clear hfz19_1
       try clear hfz22_0
       try clear hfz22_1
       try clear hfz23_0
       try clear hfz23_1
       try clear hfz30_0
       try clear hfz30_1
       try clear hfz32_0
       try clear hfz32_1
       try clear hfz38_0
       try clear hfz38_1
       try clear hfz40_0
       try clear hfz40_1
       try clear hfz46_0
       try clear hfz46_1
       try clear hfz52_0
       try clear hfz52_1
       try clear hfz54_0
       try clear hfz54_1
       try clear hfz58_0
       try clear hfz58_1
       try clear hfz60_0
       try clear hfz60_1
       try clear hfz8_0
       try clear hfz8_1
       try clear p2
       obtain ⟨kq,x59_35,rfl,HA,HJ35,HO_671001,HO_677001,HO_687001,BK670,BK676,BK686,HB⟩:=hcut
       have hl677001_35:=(Kd.R_reads' HO_677001.out).1
       rw [hl677001_35] at HO_677001
       (try simp only [hl677001_35])
       (try simp only [hl677001_35] at BK670)
       (try simp only [hl677001_35] at BK676)
       (try simp only [hl677001_35] at BK686)
       (try simp only [hl677001_35] at HO_671001)
       (try simp only [hl677001_35] at HO_687001)
       cases kq with
       | zero=>exact absurd HA.out (by simp [laws_FnExactTuranParty.j1])
       | succ kj35 =>
        have H:=HA.out
        clear HA
        simp only [laws_FnExactTuranParty.j1] at H
        by_cases c62:x59_35=true
        ·subst c62
         have H1:(some false)=some r:=by rw [if_pos rfl] at H;exact H
         clear H
         have H:=H1
         clear H1
         obtain rfl:=Option.some.inj H
         go_wp2
         go_ret
         exact ⟨by first | rfl | (simp [errW_none,errW_some] <;> rfl) | (simp [*,errW_none,errW_some] <;> rfl),by repeat first | exact HB.out | apply zz2 | apply zz0 | apply zz1 | refine zz3 ?_ GE670.out | refine zz3 ?_ GE676.out | refine zz3 ?_ GE686.out⟩
        ·replace c62:=Bool.eq_false_iff.mpr c62
         subst c62
         have H1:((laws_heldParty.f kj35 t671 t679 1).bind fun t688=>(if t688 < 0 then (some false) else (if t688=t678 then (some true) else (some false))))=some r:=by rw [if_neg (show ¬ (false=true) by decide)] at H;exact H
         clear H
         have H:=H1
         clear H1
         replace H:=zz30.mp H
         obtain ⟨t688,A630,H⟩:=H
         replace H:(if t688 < 0 then (some false) else (if t688=t678 then (some true) else (some false)))=some r:=H
         have A63:=Aside0.mk A630
         clear A630
         by_cases c64:t688 < 0
         ·rw [if_pos c64] at H
          have c64b0:decide (t688 < 0)=true:=decide_eq_true c64
          clear c64
          obtain rfl:=Option.some.inj H
          have hnb65:=NB676_670.out
          have hnc65:=NB670_676.out
          have hnb66:=NB676_686.out
          have hnc66:=NB686_676.out
          have hcz67_0:wc.cell? ⟨gb676,0,none⟩=some (.int .i64 t671):=(zz9 BK676.out 0).trans rfl
          have hcz67_1:wc.cell? ⟨gb676,1,none⟩=some (.slice Ao14 t679.length co14):=(zz9 BK676.out 1).trans rfl
          have hfz67_0:=zz10 BK676.out 0
          have hfz67_1:=zz10 BK676.out 1
          go_wp2_with (first | ((with_reducible refine gate_callee (f:=23) rfl ?_);refine goesL_ (some 62) rfl rfl Try.func23 (by kernel_rfl) rfl #[.agg #[.int .i64 t671,.slice Ao14 t679.length co14],.int .i64 1] rfl (by (try simp only [zz26,zz27,zz28]);first | done | rfl | (simp only [zz24,zz25];rfl) | (simp only [zz25];congr;(try simp only [decide_eq_true_eq] at *);omega)) ?_;(with_reducible refine (laws_heldParty.calls kj35 t671 _ _ t679 1 t688 _ ?side1 ?side2 A63.out).mono ?_);(case side1=>repeat (first | exact (Kd.R_reads' HO_677001.out).2.2 | (with_reducible refine zz18 ?_ _) | (with_reducible refine zz19 ?_ _) | (with_reducible refine zz20 ?_)));(case side2=>exact (Kd.R_reads' HO_677001.out).2.1);rintro e w68 ⟨rfl,hb⟩;refine ⟨_,rfl,?_⟩;have n0_:=Aside0.mk (Kd.R_below (by (with_reducible repeat (first | apply zz12 | apply zz13 | apply zz14));exact HO_671001.out) hb);have n1_:=Aside0.mk (Kd.R_below (by (with_reducible repeat (first | apply zz12 | apply zz13 | apply zz14));exact HO_677001.out) hb);have n2_:=Aside0.mk (Kd.R_below (by (with_reducible repeat (first | apply zz12 | apply zz13 | apply zz14));exact HO_687001.out) hb);have n3_:=Aside0.mk (zz11 (g:=gb670) (o:=.cells #[.int .i64 t665,.slice Ao9 t666.length co9] 29 (0,0)) (by (with_reducible repeat (first | refine zz6 ?_ _ | refine zz7 ?_ | refine zz8 ?_ _));exact BK670.out) hb);have n4_:=Aside0.mk (zz11 (g:=gb676) (o:=.cells #[.int .i64 t671,.slice Ao14 t679.length co14] 29 (0,0)) (by (with_reducible repeat (first | refine zz6 ?_ _ | refine zz7 ?_ | refine zz8 ?_ _));exact BK676.out) hb);have n5_:=Aside0.mk (zz11 (g:=gb686) (o:=.cells #[.int .i64 t681,.slice Ao47 t682.length co47] 29 (0,0)) (by (with_reducible repeat (first | refine zz6 ?_ _ | refine zz7 ?_ | refine zz8 ?_ _));exact BK686.out) hb);have n6_:=Aside0.mk (zz4 (by repeat first | exact HB.out | apply zz2 | apply zz0 | apply zz1 | refine zz3 ?_ GE670.out | refine zz3 ?_ GE676.out | refine zz3 ?_ GE686.out) hb);clear HO_671001;clear HO_677001;clear HO_687001;clear BK670;clear BK676;clear BK686;clear HB;have HO_671001:=n0_;have HO_677001:=n1_;have HO_687001:=n2_;have BK670:=n3_;have BK676:=n4_;have BK686:=n5_;have HB:=n6_;clear n0_ n1_ n2_ n3_ n4_ n5_ n6_;(try clear hb);(try clear hb2);(try clear hk);(try clear hi)))
          go_ret
          exact ⟨by first | rfl | (simp [errW_none,errW_some] <;> rfl) | (simp [*,errW_none,errW_some] <;> rfl),by repeat first | exact HB.out | apply zz2 | apply zz0 | apply zz1 | refine zz3 ?_ GE670.out | refine zz3 ?_ GE676.out | refine zz3 ?_ GE686.out⟩
         ·rw [if_neg c64] at H
          have c64b0:decide (t688 < 0)=false:=decide_eq_false c64
          clear c64
          by_cases c69:t688=t678
          ·rw [if_pos c69] at H
           have c69b0:(t688 == t678)=true:=beq_iff_eq.mpr c69
           have c69b1:(t688 != t678)=false:=bne_eq_false_iff_eq.mpr c69
           clear c69
           obtain rfl:=Option.some.inj H
           have hnb70:=NB676_670.out
           have hnc70:=NB670_676.out
           have hnb71:=NB676_686.out
           have hnc71:=NB686_676.out
           have hcz72_0:wc.cell? ⟨gb676,0,none⟩=some (.int .i64 t671):=(zz9 BK676.out 0).trans rfl
           have hcz72_1:wc.cell? ⟨gb676,1,none⟩=some (.slice Ao14 t679.length co14):=(zz9 BK676.out 1).trans rfl
           have hfz72_0:=zz10 BK676.out 0
           have hfz72_1:=zz10 BK676.out 1
           go_wp2_with (first | ((with_reducible refine gate_callee (f:=23) rfl ?_);refine goesL_ (some 62) rfl rfl Try.func23 (by kernel_rfl) rfl #[.agg #[.int .i64 t671,.slice Ao14 t679.length co14],.int .i64 1] rfl (by (try simp only [zz26,zz27,zz28]);first | done | rfl | (simp only [zz24,zz25];rfl) | (simp only [zz25];congr;(try simp only [decide_eq_true_eq] at *);omega)) ?_;(with_reducible refine (laws_heldParty.calls kj35 t671 _ _ t679 1 t688 _ ?side1 ?side2 A63.out).mono ?_);(case side1=>repeat (first | exact (Kd.R_reads' HO_677001.out).2.2 | (with_reducible refine zz18 ?_ _) | (with_reducible refine zz19 ?_ _) | (with_reducible refine zz20 ?_)));(case side2=>exact (Kd.R_reads' HO_677001.out).2.1);rintro e w73 ⟨rfl,hb⟩;refine ⟨_,rfl,?_⟩;have n0_:=Aside0.mk (Kd.R_below (by (with_reducible repeat (first | apply zz12 | apply zz13 | apply zz14));exact HO_671001.out) hb);have n1_:=Aside0.mk (Kd.R_below (by (with_reducible repeat (first | apply zz12 | apply zz13 | apply zz14));exact HO_677001.out) hb);have n2_:=Aside0.mk (Kd.R_below (by (with_reducible repeat (first | apply zz12 | apply zz13 | apply zz14));exact HO_687001.out) hb);have n3_:=Aside0.mk (zz11 (g:=gb670) (o:=.cells #[.int .i64 t665,.slice Ao9 t666.length co9] 29 (0,0)) (by (with_reducible repeat (first | refine zz6 ?_ _ | refine zz7 ?_ | refine zz8 ?_ _));exact BK670.out) hb);have n4_:=Aside0.mk (zz11 (g:=gb676) (o:=.cells #[.int .i64 t671,.slice Ao14 t679.length co14] 29 (0,0)) (by (with_reducible repeat (first | refine zz6 ?_ _ | refine zz7 ?_ | refine zz8 ?_ _));exact BK676.out) hb);have n5_:=Aside0.mk (zz11 (g:=gb686) (o:=.cells #[.int .i64 t681,.slice Ao47 t682.length co47] 29 (0,0)) (by (with_reducible repeat (first | refine zz6 ?_ _ | refine zz7 ?_ | refine zz8 ?_ _));exact BK686.out) hb);have n6_:=Aside0.mk (zz4 (by repeat first | exact HB.out | apply zz2 | apply zz0 | apply zz1 | refine zz3 ?_ GE670.out | refine zz3 ?_ GE676.out | refine zz3 ?_ GE686.out) hb);clear HO_671001;clear HO_677001;clear HO_687001;clear BK670;clear BK676;clear BK686;clear HB;have HO_671001:=n0_;have HO_677001:=n1_;have HO_687001:=n2_;have BK670:=n3_;have BK676:=n4_;have BK686:=n5_;have HB:=n6_;clear n0_ n1_ n2_ n3_ n4_ n5_ n6_;(try clear hb);(try clear hb2);(try clear hk);(try clear hi)))
           go_ret
           exact ⟨by first | rfl | (simp [errW_none,errW_some] <;> rfl) | (simp [*,errW_none,errW_some] <;> rfl),by repeat first | exact HB.out | apply zz2 | apply zz0 | apply zz1 | refine zz3 ?_ GE670.out | refine zz3 ?_ GE676.out | refine zz3 ?_ GE686.out⟩
          ·rw [if_neg c69] at H
           have c69b0:(t688 == t678)=false:=beq_eq_false_iff_ne.mpr c69
           have c69b1:(t688 != t678)=true:=bne_iff_ne.mpr c69
           obtain rfl:=Option.some.inj H
           have hnb74:=NB676_670.out
           have hnc74:=NB670_676.out
           have hnb75:=NB676_686.out
           have hnc75:=NB686_676.out
           have hcz76_0:wc.cell? ⟨gb676,0,none⟩=some (.int .i64 t671):=(zz9 BK676.out 0).trans rfl
           have hcz76_1:wc.cell? ⟨gb676,1,none⟩=some (.slice Ao14 t679.length co14):=(zz9 BK676.out 1).trans rfl
           have hfz76_0:=zz10 BK676.out 0
           have hfz76_1:=zz10 BK676.out 1
           go_wp2_with (first | ((with_reducible refine gate_callee (f:=23) rfl ?_);refine goesL_ (some 62) rfl rfl Try.func23 (by kernel_rfl) rfl #[.agg #[.int .i64 t671,.slice Ao14 t679.length co14],.int .i64 1] rfl (by (try simp only [zz26,zz27,zz28]);first | done | rfl | (simp only [zz24,zz25];rfl) | (simp only [zz25];congr;(try simp only [decide_eq_true_eq] at *);omega)) ?_;(with_reducible refine (laws_heldParty.calls kj35 t671 _ _ t679 1 t688 _ ?side1 ?side2 A63.out).mono ?_);(case side1=>repeat (first | exact (Kd.R_reads' HO_677001.out).2.2 | (with_reducible refine zz18 ?_ _) | (with_reducible refine zz19 ?_ _) | (with_reducible refine zz20 ?_)));(case side2=>exact (Kd.R_reads' HO_677001.out).2.1);rintro e w77 ⟨rfl,hb⟩;refine ⟨_,rfl,?_⟩;have n0_:=Aside0.mk (Kd.R_below (by (with_reducible repeat (first | apply zz12 | apply zz13 | apply zz14));exact HO_671001.out) hb);have n1_:=Aside0.mk (Kd.R_below (by (with_reducible repeat (first | apply zz12 | apply zz13 | apply zz14));exact HO_677001.out) hb);have n2_:=Aside0.mk (Kd.R_below (by (with_reducible repeat (first | apply zz12 | apply zz13 | apply zz14));exact HO_687001.out) hb);have n3_:=Aside0.mk (zz11 (g:=gb670) (o:=.cells #[.int .i64 t665,.slice Ao9 t666.length co9] 29 (0,0)) (by (with_reducible repeat (first | refine zz6 ?_ _ | refine zz7 ?_ | refine zz8 ?_ _));exact BK670.out) hb);have n4_:=Aside0.mk (zz11 (g:=gb676) (o:=.cells #[.int .i64 t671,.slice Ao14 t679.length co14] 29 (0,0)) (by (with_reducible repeat (first | refine zz6 ?_ _ | refine zz7 ?_ | refine zz8 ?_ _));exact BK676.out) hb);have n5_:=Aside0.mk (zz11 (g:=gb686) (o:=.cells #[.int .i64 t681,.slice Ao47 t682.length co47] 29 (0,0)) (by (with_reducible repeat (first | refine zz6 ?_ _ | refine zz7 ?_ | refine zz8 ?_ _));exact BK686.out) hb);have n6_:=Aside0.mk (zz4 (by repeat first | exact HB.out | apply zz2 | apply zz0 | apply zz1 | refine zz3 ?_ GE670.out | refine zz3 ?_ GE676.out | refine zz3 ?_ GE686.out) hb);clear HO_671001;clear HO_677001;clear HO_687001;clear BK670;clear BK676;clear BK686;clear HB;have HO_671001:=n0_;have HO_677001:=n1_;have HO_687001:=n2_;have BK670:=n3_;have BK676:=n4_;have BK686:=n5_;have HB:=n6_;clear n0_ n1_ n2_ n3_ n4_ n5_ n6_;(try clear hb);(try clear hb2);(try clear hk);(try clear hi)))
           go_ret
           exact ⟨by first | rfl | (simp [errW_none,errW_some] <;> rfl) | (simp [*,errW_none,errW_some] <;> rfl),by repeat first | exact HB.out | apply zz2 | apply zz0 | apply zz1 | refine zz3 ?_ GE670.out | refine zz3 ?_ GE676.out | refine zz3 ?_ GE686.out⟩
     ·rw [if_neg c34] at H
      have c34b0:(t680 == t678)=false:=beq_eq_false_iff_ne.mpr c34
      have c34b1:(t680 != t678)=true:=bne_iff_ne.mpr c34
      obtain rfl:=Option.some.inj H
      have hnb78:=NB676_670.out
      have hnc78:=NB670_676.out
      have hcz79_0:wc.cell? ⟨gb676,0,none⟩=some (.int .i64 t671):=(zz9 BK676.out 0).trans rfl
      have hcz79_1:wc.cell? ⟨gb676,1,none⟩=some (.slice Ao14 t672.length co14):=(zz9 BK676.out 1).trans rfl
      have hfz79_0:=zz10 BK676.out 0
      have hfz79_1:=zz10 BK676.out 1
      go_wp2_with (first | ((with_reducible refine gate_callee (f:=22) rfl ?_);refine goesL_ (some 36) rfl rfl Try.func22 (by kernel_rfl) rfl #[.agg #[.int .i64 t671,.slice Ao14 t672.length co14],.int .i64 1] rfl (by (try simp only [zz26,zz27,zz28]);first | done | rfl | (simp only [zz24,zz25];rfl) | (simp only [zz25];congr;(try simp only [decide_eq_true_eq] at *);omega)) ?_;(with_reducible refine (laws_markParty.calls kj4 t671 (fun k_=>some k_=(.slice Ao14 t672.length co14:Value).ownBlock) (.slice Ao14 t672.length co14) t672 1 t678 t679 w _ ?side1 ?side2 A26.out).mono ?_);(case side1=>repeat first | exact HB.out | apply zz2 | apply zz0 | apply zz1 | refine zz3 ?_ GE670.out | refine zz3 ?_ GE676.out);(case side2=>exact Kd.R_tight rfl HO_677001.out);rintro e w80 ⟨rfl,hy0,hb,hkp⟩;refine ⟨_,rfl,?_⟩;have n0_:=Aside0.mk (Kd.R_mono (ok':=fun k_=>some k_ ≠ (.slice Ao14 t672.length co14:Value).ownBlock) (Kd.R_keptB (HO_671001.out) hkp (fun k_ hk_ hs_=>(hk_) hs_)) (fun k_ hk_=>hk_.1));have n1_:=Aside0.mk (Kd.R_reok rfl hy0 (fun k_ e_=>HO_677001.out.1 k_ e_));have n2_:=Aside0.mk (blk_kept (by (with_reducible repeat (first | refine zz6 ?_ _ | refine zz7 ?_ | refine zz8 ?_ _));exact BK670.out) hkp (fun hs_=>(fun e_=>(Kd.R_ne HO_677001.out BK670.out (by decide)) e_) hs_));have n3_:=Aside0.mk (blk_kept (by (with_reducible repeat (first | refine zz6 ?_ _ | refine zz7 ?_ | refine zz8 ?_ _));exact BK676.out) hkp (fun hs_=>(fun e_=>(Kd.R_ne HO_677001.out BK676.out (by decide)) e_) hs_));have n4_:=Aside0.mk (hb);clear HO_671001;clear HO_677001;clear BK670;clear BK676;clear HB;have HO_671001:=n0_;have HO_677001:=n1_;have BK670:=n2_;have BK676:=n3_;have HB:=n4_;clear n0_ n1_ n2_ n3_ n4_;(try clear hb);(try clear hkp);(try clear hy0);have hcz81_0:w80.cell? ⟨gb676,0,none⟩=some (.int .i64 t671):=(zz9 BK676.out 0).trans rfl;have hcz81_1:w80.cell? ⟨gb676,1,none⟩=some (.slice Ao14 t672.length co14):=(zz9 BK676.out 1).trans rfl;have hfz81_0:=zz10 BK676.out 0;have hfz81_1:=zz10 BK676.out 1) | ((with_reducible refine gate_callee (f:=23) rfl ?_);refine goesL_ (some 39) rfl rfl Try.func23 (by kernel_rfl) rfl #[.agg #[.int .i64 t671,.slice Ao14 t679.length co14],.int .i64 1] rfl (by (try simp only [zz26,zz27,zz28]);first | done | (rw [show t679.length=t672.length from (Kd.R_reads' HO_677001.out).1.symm] <;> rfl) | rfl | (simp only [zz24,zz25];rfl)) ?_;(with_reducible refine (laws_heldParty.calls kj4 t671 _ _ t679 1 t680 _ ?side1 ?side2 A27.out).mono ?_);(case side1=>repeat (first | exact (Kd.R_reads' HO_677001.out).2.2 | (with_reducible refine zz18 ?_ _) | (with_reducible refine zz19 ?_ _) | (with_reducible refine zz20 ?_)));(case side2=>rw [show t679.length=t672.length from (Kd.R_reads' HO_677001.out).1.symm];exact (Kd.R_reads' HO_677001.out).2.1);rintro e w82 ⟨rfl,hb⟩;refine ⟨_,rfl,?_⟩;have n0_:=Aside0.mk (Kd.R_below (by (with_reducible repeat (first | apply zz12 | apply zz13 | apply zz14));exact HO_671001.out) hb);have n1_:=Aside0.mk (Kd.R_below (by (with_reducible repeat (first | apply zz12 | apply zz13 | apply zz14));exact HO_677001.out) hb);have n2_:=Aside0.mk (zz11 (g:=gb670) (o:=.cells #[.int .i64 t665,.slice Ao9 t666.length co9] 29 (0,0)) (by (with_reducible repeat (first | refine zz6 ?_ _ | refine zz7 ?_ | refine zz8 ?_ _));exact BK670.out) hb);have n3_:=Aside0.mk (zz11 (g:=gb676) (o:=.cells #[.int .i64 t671,.slice Ao14 t672.length co14] 29 (0,0)) (by (with_reducible repeat (first | refine zz6 ?_ _ | refine zz7 ?_ | refine zz8 ?_ _));exact BK676.out) hb);have n4_:=Aside0.mk (zz4 (by repeat first | exact HB.out | apply zz2 | apply zz0 | apply zz1 | refine zz3 ?_ GE670.out | refine zz3 ?_ GE676.out) hb);clear HO_671001;clear HO_677001;clear BK670;clear BK676;clear HB;have HO_671001:=n0_;have HO_677001:=n1_;have BK670:=n2_;have BK676:=n3_;have HB:=n4_;clear n0_ n1_ n2_ n3_ n4_;(try clear hb);(try clear hb2);(try clear hk);(try clear hi)))
      go_ret
      exact ⟨by first | rfl | (simp [errW_none,errW_some] <;> rfl) | (simp [*,errW_none,errW_some] <;> rfl),by repeat first | exact HB.out | apply zz2 | apply zz0 | apply zz1 | refine zz3 ?_ GE670.out | refine zz3 ?_ GE676.out⟩

/-- THE ONE PURE STATEMENT of laws_FnExactTuranParty: yours. -/
def laws_FnExactTuranParty.Pure:Prop:=∀ (a0:Int) (a1:Int),(Lit.int .i64 a0).wf=true→(Lit.int .i64 a1).wf=true→∃ k,laws_FnExactTuranParty.f k a0 a1=some true
theorem laws_FnExactTuranParty.walk (P:laws_FnExactTuranParty.Pure) (a0:Int) (a1:Int) (w:World) (w0:(Lit.int .i64 a0).wf=true) (w1:(Lit.int .i64 a1).wf=true) :
  Calls Try.prog 12 #[.int .i64 a0,.int .i64 a1] w fun e w'=>e=.returned (.bool true)∧Below w.heap.size w w':=by
 obtain ⟨k,h⟩:=P a0 a1 w0 w1
 refine (laws_FnExactTuranParty.calls k a0 a1 true w h).mono ?_
 rintro e w' ⟨rfl,hd⟩
 exact ⟨rfl,hd⟩

end Go.Proofs.Ytiopgbpjkjnphaa.P
