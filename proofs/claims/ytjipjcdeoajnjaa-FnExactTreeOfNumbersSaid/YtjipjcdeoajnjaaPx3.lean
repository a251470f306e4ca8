-- PRINTED by print.py (a twelfth state) out of the translation. Not trusted: Lean checks it.
import Derived.Test.YtjipjcdeoajnjaaPx0
import Derived.Test.YtjipjcdeoajnjaaPx1
import Derived.Test.YtjipjcdeoajnjaaPx2
namespace Go.Proofs.Ytjipjcdeoajnjaa.P
open Go.RowKit Go.Proofs.YtjipjcdeoajnjaaW.PrintWords Go.Proofs.YtjipjcdeoajnjaaW.PrintLast Go.Proofs.YtjipjcdeoajnjaaW.PrintMore
attribute [local go_sem] max2_int min2_int max_two min_two max_three min_three max_four min_four   -- for this text's walks alone
set_option linter.unusedVariables false
set_option linter.unusedSimpArgs false

/-! ### laws_FnExactTreeOfNumbers: function 6 -/
mutual
def laws_FnExactTreeOfNumbers.j0:Nat→List Int→Bool→List Int→Bool→Bool→Int→List (S80)→Int→List (S80)→Option (Bool)
 | 0,_,_,_,_,_,_,_,_,_=>none
 | k+1,x0,x4,x5,x7,x37,x217000,x217001,x226000,x226001=>if x37=true then (some false) else ((laws_toIntS.f k x0).bind fun t227=>((laws_eqIntS.f k x5 t227).bind fun t230=>(if t230=true then ((laws_markIntS.f k x5 1).bind fun bt231=>(if bt231.1 < 0 then (laws_FnExactTreeOfNumbers.j1 k x0 x4 true x217000 x217001 x226000 x226001) else ((laws_eqParty.f k x226000 x226001 x217000 x217001).bind fun t233=>(if t233=true then (laws_FnExactTreeOfNumbers.j1 k x0 x4 (x7 != x4) x217000 x217001 x226000 x226001) else (laws_FnExactTreeOfNumbers.j1 k x0 x4 true x217000 x217001 x226000 x226001))))) else (some false))))
def laws_FnExactTreeOfNumbers.j1:Nat→List Int→Bool→Bool→Int→List (S80)→Int→List (S80)→Option (Bool)
 | 0,_,_,_,_,_,_,_=>none
 | k+1,x0,x4,x58,x217000,x217001,x226000,x226001=>if x58=true then (some false) else ((laws_markParty.f k x226000 x226001 1).bind fun bt234=>((laws_heldParty.f k x226000 bt234.2 1).bind fun t236=>(if t236 < 0 then (some false) else (if t236=bt234.1 then ((laws_toIntS.f k x0).bind fun t237=>((impl_TreeOfNumbers.f k t237).bind fun bt240=>((laws_eqParty.f k bt240.1 bt240.2.1 x217000 x217001).bind fun t246=>(if t246=true then (laws_FnExactTreeOfNumbers.j2 k bt234.1 (bt240.2.2 != x4) x226000 bt234.2) else (laws_FnExactTreeOfNumbers.j2 k bt234.1 true x226000 bt234.2))))) else (some false)))))
def laws_FnExactTreeOfNumbers.j2:Nat→Int→Bool→Int→List (S80)→Option (Bool)
 | 0,_,_,_,_=>none
 | k+1,x9,x84,x226000,x226001=>if x84=true then (some false) else ((laws_heldParty.f k x226000 x226001 1).bind fun t247=>(if t247 < 0 then (some false) else (if t247=x9 then (some true) else (some false))))
end
def laws_FnExactTreeOfNumbers.f (k:Nat) (l0:List Int):Option (Bool):=if (l0.length:Int) > 1048576 then (some true) else ((laws_toIntS.f k l0).bind fun t208=>((spec_TreeOfNumbers.f k t208).bind fun bt211=>((laws_toIntS.f k l0).bind fun t217=>((impl_TreeOfNumbers.f k t217).bind fun bt220=>((laws_eqParty.f k bt220.1 bt220.2.1 bt211.1 bt211.2.1).bind fun t226=>(if t226=true then (laws_FnExactTreeOfNumbers.j0 k l0 bt211.2.2 t217 bt220.2.2 (bt220.2.2 != bt211.2.2) bt211.1 bt211.2.1 bt220.1 bt220.2.1) else (laws_FnExactTreeOfNumbers.j0 k l0 bt211.2.2 t217 bt220.2.2 true bt211.1 bt211.2.1 bt220.1 bt220.2.1)))))))
theorem laws_FnExactTreeOfNumbers.mono_l:∀ k,(∀ y0 y1 y2 y3 y4 y5 y6 y7 y8,LeO (laws_FnExactTreeOfNumbers.j0 k y0 y1 y2 y3 y4 y5 y6 y7 y8) (laws_FnExactTreeOfNumbers.j0 (k+1) y0 y1 y2 y3 y4 y5 y6 y7 y8))∧(∀ y0 y1 y2 y3 y4 y5 y6,LeO (laws_FnExactTreeOfNumbers.j1 k y0 y1 y2 y3 y4 y5 y6) (laws_FnExactTreeOfNumbers.j1 (k+1) y0 y1 y2 y3 y4 y5 y6))∧(∀ y0 y1 y2 y3,LeO (laws_FnExactTreeOfNumbers.j2 k y0 y1 y2 y3) (laws_FnExactTreeOfNumbers.j2 (k+1) y0 y1 y2 y3))
 | 0=>⟨fun _ _ _ _ _ _ _ _ _ r h=>by simp [laws_FnExactTreeOfNumbers.j0] at h,fun _ _ _ _ _ _ _ r h=>by simp [laws_FnExactTreeOfNumbers.j1] at h,fun _ _ _ _ r h=>by simp [laws_FnExactTreeOfNumbers.j2] at h⟩
 | k+1=>by
  obtain ⟨ih0,ih1,ih2⟩:=laws_FnExactTreeOfNumbers.mono_l k
  refine ⟨?_,?_,?_⟩
  ·intro y0 y1 y2 y3 y4 y5 y6 y7 y8
   unfold laws_FnExactTreeOfNumbers.j0
   repeat' first
   | (with_reducible exact ih0 _ _ _ _ _ _ _ _ _)
   | (with_reducible exact ih1 _ _ _ _ _ _ _)
   | (with_reducible exact ih2 _ _ _ _)
   | (with_reducible exact impl_TreeOfNumbers.mono _ _)
   | (with_reducible exact laws_eqIntS.mono _ _ _)
   | (with_reducible exact laws_eqParty.mono _ _ _ _ _)
   | (with_reducible exact laws_heldParty.mono _ _ _ _)
   | (with_reducible exact laws_markIntS.mono _ _ _)
   | (with_reducible exact laws_markParty.mono _ _ _ _)
   | (with_reducible exact laws_toIntS.mono _ _)
   | (with_reducible exact spec_TreeOfNumbers.mono _ _)
   | (with_reducible exact LeO.refl _)
   | (with_reducible exact LeO.none _)
   | (with_reducible refine LeO.ite ?_ ?_)
   | (with_reducible refine LeO.bind ?_ (fun _=>?_))
   | exact ih0 _ _ _ _ _ _ _ _ _
   | exact ih1 _ _ _ _ _ _ _
   | exact ih2 _ _ _ _
   | exact impl_TreeOfNumbers.mono _ _
   | exact laws_eqIntS.mono _ _ _
   | exact laws_eqParty.mono _ _ _ _ _
   | exact laws_heldParty.mono _ _ _ _
   | exact laws_markIntS.mono _ _ _
   | exact laws_markParty.mono _ _ _ _
   | exact laws_toIntS.mono _ _
   | exact spec_TreeOfNumbers.mono _ _
   | exact LeO.none _
   | refine LeO.ite ?_ ?_
   | refine LeO.bind ?_ (fun _=>?_)
  ·intro y0 y1 y2 y3 y4 y5 y6
   unfold laws_FnExactTreeOfNumbers.j1
   repeat' first
   | (with_reducible exact ih0 _ _ _ _ _ _ _ _ _)
   | (with_reducible exact ih1 _ _ _ _ _ _ _)
   | (with_reducible exact ih2 _ _ _ _)
   | (with_reducible exact impl_TreeOfNumbers.mono _ _)
   | (with_reducible exact laws_eqIntS.mono _ _ _)
   | (with_reducible exact laws_eqParty.mono _ _ _ _ _)
   | (with_reducible exact laws_heldParty.mono _ _ _ _)
   | (with_reducible exact laws_markIntS.mono _ _ _)
   | (with_reducible exact laws_markParty.mono _ _ _ _)
   | (with_reducible exact laws_toIntS.mono _ _)
   | (with_reducible exact spec_TreeOfNumbers.mono _ _)
   | (with_reducible exact LeO.refl _)
   | (with_reducible exact LeO.none _)
   | (with_reducible refine LeO.ite ?_ ?_)
   | (with_reducible refine LeO.bind ?_ (fun _=>?_))
   | exact ih0 _ _ _ _ _ _ _ _ _
   | exact ih1 _ _ _ _ _ _ _
   | exact ih2 _ _ _ _
   | exact impl_TreeOfNumbers.mono _ _
   | exact laws_eqIntS.mono _ _ _
   | exact laws_eqParty.mono _ _ _ _ _
   | exact laws_heldParty.mono _ _ _ _
   | exact laws_markIntS.mono _ _ _
   | exact laws_markParty.mono _ _ _ _
   | exact laws_toIntS.mono _ _
   | exact spec_TreeOfNumbers.mono _ _
   | exact LeO.none _
   | refine LeO.ite ?_ ?_
   | refine LeO.bind ?_ (fun _=>?_)
  ·intro y0 y1 y2 y3
   unfold laws_FnExactTreeOfNumbers.j2
   repeat' first
   | (with_reducible exact ih0 _ _ _ _ _ _ _ _ _)
   | (with_reducible exact ih1 _ _ _ _ _ _ _)
   | (with_reducible exact ih2 _ _ _ _)
   | (with_reducible exact impl_TreeOfNumbers.mono _ _)
   | (with_reducible exact laws_eqIntS.mono _ _ _)
   | (with_reducible exact laws_eqParty.mono _ _ _ _ _)
   | (with_reducible exact laws_heldParty.mono _ _ _ _)
   | (with_reducible exact laws_markIntS.mono _ _ _)
   | (with_reducible exact laws_markParty.mono _ _ _ _)
   | (with_reducible exact laws_toIntS.mono _ _)
   | (with_reducible exact spec_TreeOfNumbers.mono _ _)
   | (with_reducible exact LeO.refl _)
   | (with_reducible exact LeO.none _)
   | (with_reducible refine LeO.ite ?_ ?_)
   | (with_reducible refine LeO.bind ?_ (fun _=>?_))
   | exact ih0 _ _ _ _ _ _ _ _ _
   | exact ih1 _ _ _ _ _ _ _
   | exact ih2 _ _ _ _
   | exact impl_TreeOfNumbers.mono _ _
   | exact laws_eqIntS.mono _ _ _
   | exact laws_eqParty.mono _ _ _ _ _
   | exact laws_heldParty.mono _ _ _ _
   | exact laws_markIntS.mono _ _ _
   | exact laws_markParty.mono _ _ _ _
   | exact laws_toIntS.mono _ _
   | exact spec_TreeOfNumbers.mono _ _
   | exact LeO.none _
   | refine LeO.ite ?_ ?_
   | refine LeO.bind ?_ (fun _=>?_)
theorem laws_FnExactTreeOfNumbers.mono:∀ a0 k,LeO (laws_FnExactTreeOfNumbers.f k a0) (laws_FnExactTreeOfNumbers.f (k+1) a0):=by
 intro a0 k
 obtain ⟨ih0,ih1,ih2⟩:=laws_FnExactTreeOfNumbers.mono_l k
 unfold laws_FnExactTreeOfNumbers.f
 repeat' first
   | (with_reducible exact ih0 _ _ _ _ _ _ _ _ _)
   | (with_reducible exact ih1 _ _ _ _ _ _ _)
   | (with_reducible exact ih2 _ _ _ _)
   | (with_reducible exact impl_TreeOfNumbers.mono _ _)
   | (with_reducible exact laws_eqIntS.mono _ _ _)
   | (with_reducible exact laws_eqParty.mono _ _ _ _ _)
   | (with_reducible exact laws_heldParty.mono _ _ _ _)
   | (with_reducible exact laws_markIntS.mono _ _ _)
   | (with_reducible exact laws_markParty.mono _ _ _ _)
   | (with_reducible exact laws_toIntS.mono _ _)
   | (with_reducible exact spec_TreeOfNumbers.mono _ _)
   | (with_reducible exact LeO.refl _)
   | (with_reducible exact LeO.none _)
   | (with_reducible refine LeO.ite ?_ ?_)
   | (with_reducible refine LeO.bind ?_ (fun _=>?_))
   | exact ih0 _ _ _ _ _ _ _ _ _
   | exact ih1 _ _ _ _ _ _ _
   | exact ih2 _ _ _ _
   | exact impl_TreeOfNumbers.mono _ _
   | exact laws_eqIntS.mono _ _ _
   | exact laws_eqParty.mono _ _ _ _ _
   | exact laws_heldParty.mono _ _ _ _
   | exact laws_markIntS.mono _ _ _
   | exact laws_markParty.mono _ _ _ _
   | exact laws_toIntS.mono _ _
   | exact spec_TreeOfNumbers.mono _ _
   | exact LeO.none _
   | refine LeO.ite ?_ ?_
   | refine LeO.bind ?_ (fun _=>?_)
set_option maxHeartbeats 8000000 in
set_option maxRecDepth 100000 in
theorem laws_FnExactTreeOfNumbers.calls (k:Nat) (A0:Option Addr) (c0:Nat) (l0:List Int) (r:Bool) (w:World) (hr0:Kd.C (Kd.int .i64) w A0 l0.length l0) (hc0:l0.length≤c0) (h:laws_FnExactTreeOfNumbers.f k l0=some r) :
  Calls Try.prog 6 #[.slice A0 l0.length c0] w fun e w'=>e=.returned (.bool r)∧Below w.heap.size w w':=by
 have hu32:=Try.underlying32
 have HR0:=zz31 hr0
 have HC0:=zz31 hc0
 clear hr0 hc0
 have HB:=zz31 (Below.refl w.heap.size w)
 have H:(if (l0.length:Int) > 1048576 then (some true) else ((laws_toIntS.f k l0).bind fun t208=>((spec_TreeOfNumbers.f k t208).bind fun bt211=>((laws_toIntS.f k l0).bind fun t217=>((impl_TreeOfNumbers.f k t217).bind fun bt220=>((laws_eqParty.f k bt220.1 bt220.2.1 bt211.1 bt211.2.1).bind fun t226=>(if t226=true then (laws_FnExactTreeOfNumbers.j0 k l0 bt211.2.2 t217 bt220.2.2 (bt220.2.2 != bt211.2.2) bt211.1 bt211.2.1 bt220.1 bt220.2.1) else (laws_FnExactTreeOfNumbers.j0 k l0 bt211.2.2 t217 bt220.2.2 true bt211.1 bt211.2.1 bt220.1 bt220.2.1))))))))=some r:=h
 clear h
 by_cases c2:(l0.length:Int) > 1048576
 ·rw [if_pos c2] at H
  have c2b0:decide (1048576 < (l0.length:Int))=true:=decide_eq_true c2
  have c2b1:decide (1048576 < l0.length)=true:=decide_eq_true (by omega)
  clear c2
  obtain rfl:=Option.some.inj H
  go_enter Try.func6,Try.ntmps6
  go_wp2
  go_ret
  exact ⟨by first | rfl | (simp [errW_none,errW_some] <;> rfl) | (simp [*,errW_none,errW_some] <;> rfl),by repeat first | exact HB.out | apply zz2 | apply zz0 | apply zz1⟩
 ·rw [if_neg c2] at H
  have c2b0:decide (1048576 < (l0.length:Int))=false:=decide_eq_false c2
  have c2b1:decide (1048576 < l0.length)=false:=decide_eq_false (by omega)
  clear c2
  replace H:=zz30.mp H
  obtain ⟨t208,A30,H⟩:=H
  replace H:((spec_TreeOfNumbers.f k t208).bind fun bt211=>((laws_toIntS.f k l0).bind fun t217=>((impl_TreeOfNumbers.f k t217).bind fun bt220=>((laws_eqParty.f k bt220.1 bt220.2.1 bt211.1 bt211.2.1).bind fun t226=>(if t226=true then (laws_FnExactTreeOfNumbers.j0 k l0 bt211.2.2 t217 bt220.2.2 (bt220.2.2 != bt211.2.2) bt211.1 bt211.2.1 bt220.1 bt220.2.1) else (laws_FnExactTreeOfNumbers.j0 k l0 bt211.2.2 t217 bt220.2.2 true bt211.1 bt211.2.1 bt220.1 bt220.2.1))))))=some r:=H
  have A3:=zz31 A30
  clear A30
  replace H:=zz30.mp H
  obtain ⟨⟨t211,t212,t215⟩,A40,H⟩:=H
  replace H:((laws_toIntS.f k l0).bind fun t217=>((impl_TreeOfNumbers.f k t217).bind fun bt220=>((laws_eqParty.f k bt220.1 bt220.2.1 t211 t212).bind fun t226=>(if t226=true then (laws_FnExactTreeOfNumbers.j0 k l0 t215 t217 bt220.2.2 (bt220.2.2 != t215) t211 t212 bt220.1 bt220.2.1) else (laws_FnExactTreeOfNumbers.j0 k l0 t215 t217 bt220.2.2 true t211 t212 bt220.1 bt220.2.1)))))=some r:=H
  have A4:=zz31 A40
  clear A40
  replace H:=zz30.mp H
  obtain ⟨t217,A50,H⟩:=H
  replace H:((impl_TreeOfNumbers.f k t217).bind fun bt220=>((laws_eqParty.f k bt220.1 bt220.2.1 t211 t212).bind fun t226=>(if t226=true then (laws_FnExactTreeOfNumbers.j0 k l0 t215 t217 bt220.2.2 (bt220.2.2 != t215) t211 t212 bt220.1 bt220.2.1) else (laws_FnExactTreeOfNumbers.j0 k l0 t215 t217 bt220.2.2 true t211 t212 bt220.1 bt220.2.1))))=some r:=H
  have A5:=zz31 A50
  clear A50
  replace H:=zz30.mp H
  obtain ⟨⟨t220,t221,t224⟩,A60,H⟩:=H
  replace H:((laws_eqParty.f k t220 t221 t211 t212).bind fun t226=>(if t226=true then (laws_FnExactTreeOfNumbers.j0 k l0 t215 t217 t224 (t224 != t215) t211 t212 t220 t221) else (laws_FnExactTreeOfNumbers.j0 k l0 t215 t217 t224 true t211 t212 t220 t221)))=some r:=H
  have A6:=zz31 A60
  clear A60
  have HC7:=zz31 H
  clear H
  go_enter Try.func6,Try.ntmps6
  go_upto_region 6 with (first | ((with_reducible refine gate_callee (f:=15) rfl ?_);refine goesL_ (some 18) rfl rfl Try.func15 (by kernel_rfl) rfl #[.slice A0 l0.length c0] rfl (by (try simp only [zz26,zz27,zz28]);first | done | rfl | (simp only [zz24,zz25];rfl)) ?_;(with_reducible refine (laws_toIntS.calls k _ _ l0 t208 _ ?side1 ?side2 A3.out).mono ?_);(case side1=>repeat (first | exact HR0.out | (with_reducible refine zz18 ?_ _) | (with_reducible refine zz19 ?_ _) | (with_reducible refine zz20 ?_)));(case side2=>exact HC0.out);rintro e w8 ⟨v209,rfl,ho0,hb⟩;refine ⟨_,rfl,?_⟩;have n0_:=zz31 (Kd.R_lower ho0 (zz5 (by repeat first | exact HB.out | apply zz2 | apply zz0 | apply zz1)));have n1_:=zz31 (zz4 (by repeat first | exact HB.out | apply zz2 | apply zz0 | apply zz1) hb);clear HB;have HO210:=n0_;have HB:=n1_;clear n0_ n1_;(try clear hb);(try clear hb2);(try clear hk);(try clear hi);(try clear ho0);obtain ⟨Ao9,co9,eo9⟩:=Kd.R_slice HO210.out;subst eo9) | ((with_reducible refine gate_callee (f:=26) rfl ?_);refine goesL_ (some 19) rfl rfl Try.func26 (by kernel_rfl) rfl #[.slice Ao9 t208.length co9] rfl (by (try simp only [zz26,zz27,zz28]);first | done | rfl | (simp only [zz24,zz25];rfl)) ?_;(with_reducible refine (spec_TreeOfNumbers.calls k _ _ t208 t211 t212 t215 _ ?side1 ?side2 A4.out).mono ?_);(case side1=>repeat (first | exact (Kd.R_reads' HO210.out).2.2 | (with_reducible refine zz18 ?_ _) | (with_reducible refine zz19 ?_ _) | (with_reducible refine zz20 ?_)));(case side2=>exact (Kd.R_reads' HO210.out).2.1);rintro e w10 ⟨v213,rfl,ho0,hb⟩;refine ⟨_,rfl,?_⟩;have n0_:=zz31 (Kd.R_below (by (with_reducible repeat (first | apply zz12 | apply zz13 | apply zz14));exact HO210.out) hb);have n1_:=zz31 (Kd.R_lower ho0 (zz5 (by repeat first | exact HB.out | apply zz2 | apply zz0 | apply zz1)));have n2_:=zz31 (zz4 (by repeat first | exact HB.out | apply zz2 | apply zz0 | apply zz1) hb);clear HO210;clear HB;have HO210:=n0_;have HO214:=n1_;have HB:=n2_;clear n0_ n1_ n2_;(try clear hb);(try clear hb2);(try clear hk);(try clear hi);(try clear ho0)) | ((with_reducible refine gate_dst (N:=3) rfl ?_);refine box_event ?hg (N:=3) ?hd (cs:=#[.int .i64 0,.slice none 0 0]) (t:=32) ?hr ?_;(case hd=>rfl);(case hg=>rfl);(case hr=>first | (go_simp;done) | (go_simp;rfl));intro gb216 hg w11 hbox hb;have n0_:=zz31 (Kd.R_below (by (with_reducible repeat (first | apply zz12 | apply zz13 | apply zz14));exact HO210.out) hb);have n1_:=zz31 (Kd.R_below (by (with_reducible repeat (first | apply zz12 | apply zz13 | apply zz14));exact HO214.out) hb);have n2_:=zz31 (zz4 (by repeat first | exact HB.out | apply zz2 | apply zz0 | apply zz1) hb);have n3_:=zz31 (hbox);have n4_:=zz31 ((by rw [hg];exact (zz5 (by repeat first | exact HB.out | apply zz2 | apply zz0 | apply zz1)):w.heap.size≤gb216));have n5_:=zz31 ((by rw [hg];exact (zz5 (by repeat first | exact HB.out | apply zz2 | apply zz0 | apply zz1)):w.heap.size≤gb216));clear HO210;clear HO214;clear HB;have HO210:=n0_;have HO214:=n1_;have HB:=n2_;have BK216:=n3_;have GW216:=n4_;have GE216:=n5_;clear n0_ n1_ n2_ n3_ n4_ n5_;clear hb hbox hg;have hcz12_0:w11.cell? ⟨gb216,0,none⟩=some (.int .i64 0):=(zz9 BK216.out 0).trans rfl;have hcz12_1:w11.cell? ⟨gb216,1,none⟩=some (.slice none 0 0):=(zz9 BK216.out 1).trans rfl;have hfz12_0:=zz10 BK216.out 0;have hfz12_1:=zz10 BK216.out 1;obtain ⟨Ao13,co13,eo13⟩:=Kd.R_slice HO214.out;subst eo13) | ((with_reducible refine gate_callee (f:=15) rfl ?_);refine goesL_ (some 23) rfl rfl Try.func15 (by kernel_rfl) rfl #[.slice A0 l0.length c0] rfl (by (try simp only [zz26,zz27,zz28]);first | done | rfl | (simp only [zz24,zz25];rfl)) ?_;(with_reducible refine (laws_toIntS.calls k _ _ l0 t217 _ ?side1 ?side2 A5.out).mono ?_);(case side1=>exact Kd.C_below HR0.out (by repeat first | exact HB.out | apply zz2 | apply zz0 | apply zz1 | refine zz3 ?_ GE216.out));(case side2=>exact HC0.out);rintro e w14 ⟨v218,rfl,ho0,hb⟩;refine ⟨_,rfl,?_⟩;have n0_:=zz31 (Kd.R_elder' (by (with_reducible repeat (first | apply zz12 | apply zz13 | apply zz14));exact (Kd.R_mono (Kd.R_far (p:=⟨gb216,1,none⟩) (Kd.R_far (p:=⟨gb216,0,none⟩) (Kd.R_types HO210.out BK216.out (by decide)) (fun _ hk=>hk.2) (.int .i64 t211)) (fun _ hk=>hk.2) (.slice Ao13 t212.length co13)) (fun _ h_=>h_.1))) (Kd.R_base ho0) hb);have n1_:=zz31 (Kd.R_below (by (with_reducible repeat (first | apply zz12 | apply zz13 | apply zz14));exact (Kd.R_mono (Kd.R_far (p:=⟨gb216,1,none⟩) (Kd.R_far (p:=⟨gb216,0,none⟩) (Kd.R_types HO214.out BK216.out (by decide)) (fun _ hk=>hk.2) (.int .i64 t211)) (fun _ hk=>hk.2) (.slice Ao13 t212.length co13)) (fun _ h_=>h_.1))) hb);have n2_:=zz31 (Kd.R_lower (Kd.R_new' ho0 (Kd.R_lt (by (with_reducible repeat (first | apply zz12 | apply zz13 | apply zz14));exact (Kd.R_mono (Kd.R_far (p:=⟨gb216,1,none⟩) (Kd.R_far (p:=⟨gb216,0,none⟩) (Kd.R_types HO210.out BK216.out (by decide)) (fun _ hk=>hk.2) (.int .i64 t211)) (fun _ hk=>hk.2) (.slice Ao13 t212.length co13)) (fun _ h_=>h_.1))))) (zz5 (by repeat first | exact HB.out | apply zz2 | apply zz0 | apply zz1 | refine zz3 ?_ GE216.out)));have n3_:=zz31 (zz11 (g:=gb216) (o:=.cells #[.int .i64 t211,.slice Ao13 t212.length co13] 32 (0,0)) (by (with_reducible repeat (first | refine zz6 ?_ _ | refine zz7 ?_ | refine zz8 ?_ _));refine blk_put (cs:=#[.int .i64 t211,.slice none 0 0]) ?_ 1 _ rfl;(with_reducible repeat (first | refine zz6 ?_ _ | refine zz7 ?_ | refine zz8 ?_ _));refine blk_put (cs:=#[.int .i64 0,.slice none 0 0]) ?_ 0 _ rfl;(with_reducible repeat (first | refine zz6 ?_ _ | refine zz7 ?_ | refine zz8 ?_ _));exact BK216.out) hb);have n4_:=zz31 (zz4 (by repeat first | exact HB.out | apply zz2 | apply zz0 | apply zz1 | refine zz3 ?_ GE216.out) hb);clear HO210;clear HO214;clear BK216;clear HB;have HO210:=n0_;have HO214:=n1_;have HO219:=n2_;have BK216:=n3_;have HB:=n4_;clear n0_ n1_ n2_ n3_ n4_;(try clear hb);(try clear hb2);(try clear hk);(try clear hi);(try clear ho0);obtain ⟨Ao15,co15,eo15⟩:=Kd.R_slice HO219.out;subst eo15) | ((with_reducible refine gate_callee (f:=27) rfl ?_);refine goesL_ (some 26) rfl rfl Try.func27 (by kernel_rfl) rfl #[.slice Ao15 t217.length co15] rfl (by (try simp only [zz26,zz27,zz28]);first | done | rfl | (simp only [zz24,zz25];rfl)) ?_;(with_reducible refine (impl_TreeOfNumbers.calls k _ _ t217 t220 t221 t224 _ ?side1 ?side2 A6.out).mono ?_);(case side1=>repeat (first | exact (Kd.R_reads' HO219.out).2.2 | (with_reducible refine zz18 ?_ _) | (with_reducible refine zz19 ?_ _) | (with_reducible refine zz20 ?_)));(case side2=>exact (Kd.R_reads' HO219.out).2.1);rintro e w16 ⟨v222,rfl,ho0,hb⟩;refine ⟨_,rfl,?_⟩;have n0_:=zz31 (Kd.R_below (by (with_reducible repeat (first | apply zz12 | apply zz13 | apply zz14));exact HO210.out) hb);have n1_:=zz31 (Kd.R_elder' (by (with_reducible repeat (first | apply zz12 | apply zz13 | apply zz14));exact HO214.out) (Kd.R_base ho0) hb);have n2_:=zz31 (Kd.R_below (by (with_reducible repeat (first | apply zz12 | apply zz13 | apply zz14));exact HO219.out) hb);have n3_:=zz31 (Kd.R_lower (Kd.R_new' ho0 (Kd.R_lt (by (with_reducible repeat (first | apply zz12 | apply zz13 | apply zz14));exact HO214.out))) (zz5 (by repeat first | exact HB.out | apply zz2 | apply zz0 | apply zz1 | refine zz3 ?_ GE216.out)));have n4_:=zz31 (zz11 (g:=gb216) (o:=.cells #[.int .i64 t211,.slice Ao13 t212.length co13] 32 (0,0)) (by (with_reducible repeat (first | refine zz6 ?_ _ | refine zz7 ?_ | refine zz8 ?_ _));exact BK216.out) hb);have n5_:=zz31 (zz4 (by repeat first | exact HB.out | apply zz2 | apply zz0 | apply zz1 | refine zz3 ?_ GE216.out) hb);clear HO210;clear HO214;clear HO219;clear BK216;clear HB;have HO210:=n0_;have HO214:=n1_;have HO219:=n2_;have HO223:=n3_;have BK216:=n4_;have HB:=n5_;clear n0_ n1_ n2_ n3_ n4_ n5_;(try clear hb);(try clear hb2);(try clear hk);(try clear hi);(try clear ho0)) | ((with_reducible refine gate_dst (N:=6) rfl ?_);refine box_event ?hg (N:=6) ?hd (cs:=#[.int .i64 0,.slice none 0 0]) (t:=32) ?hr ?_;(case hd=>rfl);(case hg=>rfl);(case hr=>first | (go_simp;done) | (go_simp;rfl));intro gb225 hg w17 hbox hb;have n0_:=zz31 (Kd.R_below (by (with_reducible repeat (first | apply zz12 | apply zz13 | apply zz14));exact HO210.out) hb);have n1_:=zz31 (Kd.R_below (by (with_reducible repeat (first | apply zz12 | apply zz13 | apply zz14));exact HO214.out) hb);have n2_:=zz31 (Kd.R_below (by (with_reducible repeat (first | apply zz12 | apply zz13 | apply zz14));exact HO219.out) hb);have n3_:=zz31 (Kd.R_below (by (with_reducible repeat (first | apply zz12 | apply zz13 | apply zz14));exact HO223.out) hb);have n4_:=zz31 (zz11 (g:=gb216) (o:=.cells #[.int .i64 t211,.slice Ao13 t212.length co13] 32 (0,0)) (by (with_reducible repeat (first | refine zz6 ?_ _ | refine zz7 ?_ | refine zz8 ?_ _));exact BK216.out) hb);have n5_:=zz31 (zz4 (by repeat first | exact HB.out | apply zz2 | apply zz0 | apply zz1 | refine zz3 ?_ GE216.out) hb);have n6_:=zz31 (hbox);have n7_:=zz31 ((by rw [hg];exact (zz5 (by repeat first | exact HB.out | apply zz2 | apply zz0 | apply zz1 | refine zz3 ?_ GE216.out)):w.heap.size≤gb225));have n8_:=zz31 ((by rw [hg];exact (zz5 (by repeat first | exact HB.out | apply zz2 | apply zz0 | apply zz1 | refine zz3 ?_ GE216.out)):w.heap.size≤gb225));have n9_:=zz31 ((by rw [hg];exact Nat.ne_of_lt (blk_lt (g:=gb216) (o:=.cells #[.int .i64 t211,.slice Ao13 t212.length co13] 32 (0,0)) (by (with_reducible repeat (first | refine zz6 ?_ _ | refine zz7 ?_ | refine zz8 ?_ _));exact BK216.out)):gb216 ≠ gb225));have n10_:=zz31 ((by rw [hg];exact Nat.ne_of_gt (blk_lt (g:=gb216) (o:=.cells #[.int .i64 t211,.slice Ao13 t212.length co13] 32 (0,0)) (by (with_reducible repeat (first | refine zz6 ?_ _ | refine zz7 ?_ | refine zz8 ?_ _));exact BK216.out)):gb225 ≠ gb216));clear HO210;clear HO214;clear HO219;clear HO223;clear BK216;clear HB;have HO210:=n0_;have HO214:=n1_;have HO219:=n2_;have HO223:=n3_;have BK216:=n4_;have HB:=n5_;have BK225:=n6_;have GW225:=n7_;have GE225:=n8_;have NB216_225:=n9_;have NB225_216:=n10_;clear n0_ n1_ n2_ n3_ n4_ n5_ n6_ n7_ n8_ n9_ n10_;clear hb hbox hg;have hnb18:=NB225_216.out;have hnc18:=NB216_225.out;have hcz19_0:w17.cell? ⟨gb225,0,none⟩=some (.int .i64 0):=(zz9 BK225.out 0).trans rfl;have hcz19_1:w17.cell? ⟨gb225,1,none⟩=some (.slice none 0 0):=(zz9 BK225.out 1).trans rfl;have hfz19_0:=zz10 BK225.out 0;have hfz19_1:=zz10 BK225.out 1;obtain ⟨Ao20,co20,eo20⟩:=Kd.R_slice HO223.out;subst eo20))
  (try simp only [Act.put,zz21,zz22,zz23])
  go_cut [37] (fun v37 wc=>∃ (kq:Nat) (x37_6:Bool),v37=.bool x37_6∧Aside0 (laws_FnExactTreeOfNumbers.j0 kq l0 t215 t217 t224 x37_6 t211 t212 t220 t221=some r)∧Aside0 (kq≤k)∧Aside0 (Kd.R (Kd.int .i64) 3 wc w.heap.size (fun _=>True) (.slice Ao15 t217.length co15) t217)∧Aside0 (Kd.R k80 80 wc w.heap.size (fun k_=>some k_ ≠ ((.slice Ao20 t221.length co20):Value).ownBlock) (.slice Ao13 t212.length co13) t212)∧Aside0 (Kd.R k80 80 wc w.heap.size (fun k_=>some k_ ≠ ((.slice Ao13 t212.length co13):Value).ownBlock) (.slice Ao20 t221.length co20) t221)∧Aside0 (wc.heap[gb216]?=some (.cells #[.int .i64 t211,(.slice Ao13 t212.length co13)] 32 (0,0)))∧Aside0 (wc.heap[gb225]?=some (.cells #[.int .i64 t220,(.slice Ao20 t221.length co20)] 32 (0,0)))∧Aside0 (Below w.heap.size w wc))
  case first =>
   have H:=HC7.out
   clear HC7
   replace H:=zz30.mp H
   obtain ⟨t226,A210,H⟩:=H
   replace H:(if t226=true then (laws_FnExactTreeOfNumbers.j0 k l0 t215 t217 t224 (t224 != t215) t211 t212 t220 t221) else (laws_FnExactTreeOfNumbers.j0 k l0 t215 t217 t224 true t211 t212 t220 t221))=some r:=H
   have A21:=zz31 A210
   clear A210
   by_cases c22:t226=true
   ·subst c22
    have H1:(laws_FnExactTreeOfNumbers.j0 k l0 t215 t217 t224 (t224 != t215) t211 t212 t220 t221)=some r:=by rw [if_pos rfl] at H;exact H
    clear H
    have H:=H1
    clear H1
    have H':=zz31 H
    clear H
    have hnb23:=NB225_216.out
    have hnc23:=NB216_225.out
    have hcz24_0:w17.cell? ⟨gb225,0,none⟩=some (.int .i64 0):=(zz9 BK225.out 0).trans rfl
    have hcz24_1:w17.cell? ⟨gb225,1,none⟩=some (.slice none 0 0):=(zz9 BK225.out 1).trans rfl
    have hfz24_0:=zz10 BK225.out 0
    have hfz24_1:=zz10 BK225.out 1
    have hcz25_0:w17.cell? ⟨gb216,0,none⟩=some (.int .i64 t211):=(zz9 BK216.out 0).trans rfl
    have hcz25_1:w17.cell? ⟨gb216,1,none⟩=some (.slice Ao13 t212.length co13):=(zz9 BK216.out 1).trans rfl
    have hfz25_0:=zz10 BK216.out 0
    have hfz25_1:=zz10 BK216.out 1
    go_wp2_with (first | ((with_reducible refine gate_callee (f:=22) rfl ?_);refine goesL_ (some 31) rfl rfl Try.func22 (by kernel_rfl) rfl #[.agg #[.int .i64 t220,.slice Ao20 t221.length co20],.agg #[.int .i64 t211,.slice Ao13 t212.length co13]] rfl (by (try simp only [zz26,zz27,zz28]);first | done | rfl | (simp only [zz24,zz25];rfl)) ?_;(with_reducible refine (laws_eqParty.calls k t220 _ _ t221 t211 _ _ t212 true _ ?side1 ?side2 ?side3 ?side4 A21.out).mono ?_);(case side1=>refine (Kd.R_reads' (e:=80) (base:=w.heap.size) (ok:=fun k_=>(True∧some k_ ≠ (.slice Ao13 t212.length co13:Value).ownBlock)) (n:=t221.length) (c:=co20) ?_).2.2;exact (by (with_reducible repeat (first | apply zz12 | apply zz13 | apply zz14));exact (Kd.R_mono (Kd.R_far (p:=⟨gb225,1,none⟩) (Kd.R_far (p:=⟨gb225,0,none⟩) (Kd.R_types HO223.out BK225.out (by decide)) (fun _ hk=>hk.2) (.int .i64 t220)) (fun _ hk=>hk.2) (.slice Ao20 t221.length co20)) (fun _ h_=>h_.1))));(case side2=>exact (Kd.R_reads' HO223.out).2.1);(case side3=>refine (Kd.R_reads' (e:=80) (base:=w.heap.size) (ok:=fun k_=>(True∧some k_ ≠ (.slice Ao20 t221.length co20:Value).ownBlock)) (n:=t212.length) (c:=co13) ?_).2.2;exact (by (with_reducible repeat (first | apply zz12 | apply zz13 | apply zz14));exact (Kd.R_mono (Kd.R_far (p:=⟨gb225,1,none⟩) (Kd.R_far (p:=⟨gb225,0,none⟩) (Kd.R_types HO214.out BK225.out (by decide)) (fun _ hk=>hk.2) (.int .i64 t220)) (fun _ hk=>hk.2) (.slice Ao20 t221.length co20)) (fun _ h_=>h_.1))));(case side4=>exact (Kd.R_reads' HO214.out).2.1);rintro e w26 ⟨rfl,hb⟩;refine ⟨_,rfl,?_⟩;have n0_:=zz31 (Kd.R_below (by (with_reducible repeat (first | apply zz12 | apply zz13 | apply zz14));exact (Kd.R_mono (Kd.R_far (p:=⟨gb225,1,none⟩) (Kd.R_far (p:=⟨gb225,0,none⟩) (Kd.R_types HO210.out BK225.out (by decide)) (fun _ hk=>hk.2) (.int .i64 t220)) (fun _ hk=>hk.2) (.slice Ao20 t221.length co20)) (fun _ h_=>h_.1))) hb);have n1_:=zz31 (Kd.R_below (by (with_reducible repeat (first | apply zz12 | apply zz13 | apply zz14));exact (Kd.R_mono (Kd.R_far (p:=⟨gb225,1,none⟩) (Kd.R_far (p:=⟨gb225,0,none⟩) (Kd.R_types HO214.out BK225.out (by decide)) (fun _ hk=>hk.2) (.int .i64 t220)) (fun _ hk=>hk.2) (.slice Ao20 t221.length co20)) (fun _ h_=>h_.1))) hb);have n2_:=zz31 (Kd.R_below (by (with_reducible repeat (first | apply zz12 | apply zz13 | apply zz14));exact (Kd.R_mono (Kd.R_far (p:=⟨gb225,1,none⟩) (Kd.R_far (p:=⟨gb225,0,none⟩) (Kd.R_types HO219.out BK225.out (by decide)) (fun _ hk=>hk.2) (.int .i64 t220)) (fun _ hk=>hk.2) (.slice Ao20 t221.length co20)) (fun _ h_=>h_.1))) hb);have n3_:=zz31 (Kd.R_below (by (with_reducible repeat (first | apply zz12 | apply zz13 | apply zz14));exact (Kd.R_mono (Kd.R_far (p:=⟨gb225,1,none⟩) (Kd.R_far (p:=⟨gb225,0,none⟩) (Kd.R_types HO223.out BK225.out (by decide)) (fun _ hk=>hk.2) (.int .i64 t220)) (fun _ hk=>hk.2) (.slice Ao20 t221.length co20)) (fun _ h_=>h_.1))) hb);have n4_:=zz31 (zz11 (g:=gb216) (o:=.cells #[.int .i64 t211,.slice Ao13 t212.length co13] 32 (0,0)) (by (with_reducible repeat (first | refine zz6 ?_ _ | refine zz7 ?_ | refine zz8 ?_ _));refine blk_far ?_ NB216_225.out _;(with_reducible repeat (first | refine zz6 ?_ _ | refine zz7 ?_ | refine zz8 ?_ _));refine blk_far ?_ NB216_225.out _;(with_reducible repeat (first | refine zz6 ?_ _ | refine zz7 ?_ | refine zz8 ?_ _));exact BK216.out) hb);have n5_:=zz31 (zz11 (g:=gb225) (o:=.cells #[.int .i64 t220,.slice Ao20 t221.length co20] 32 (0,0)) (by (with_reducible repeat (first | refine zz6 ?_ _ | refine zz7 ?_ | refine zz8 ?_ _));refine blk_put (cs:=#[.int .i64 t220,.slice none 0 0]) ?_ 1 _ rfl;(with_reducible repeat (first | refine zz6 ?_ _ | refine zz7 ?_ | refine zz8 ?_ _));refine blk_put (cs:=#[.int .i64 0,.slice none 0 0]) ?_ 0 _ rfl;(with_reducible repeat (first | refine zz6 ?_ _ | refine zz7 ?_ | refine zz8 ?_ _));exact BK225.out) hb);have n6_:=zz31 (zz4 (by repeat first | exact HB.out | apply zz2 | apply zz0 | apply zz1 | refine zz3 ?_ GE216.out | refine zz3 ?_ GE225.out) hb);clear HO210;clear HO214;clear HO219;clear HO223;clear BK216;clear BK225;clear HB;have HO210:=n0_;have HO214:=n1_;have HO219:=n2_;have HO223:=n3_;have BK216:=n4_;have BK225:=n5_;have HB:=n6_;clear n0_ n1_ n2_ n3_ n4_ n5_ n6_;(try clear hb);(try clear hb2);(try clear hk);(try clear hi)))
    go_meet
    case rel=>exact ⟨_,((t224 != t215)),(by first | rfl | (simp;done) | (simp [*];done)),H',⟨by first | omega | exact Nat.le_refl _⟩,⟨by (with_reducible repeat (first | apply zz12 | apply zz13 | apply zz14));exact Kd.R_mono HO219.out (fun _ hk=>trivial)⟩,⟨by (with_reducible repeat (first | apply zz12 | apply zz13 | apply zz14));exact Kd.R_mono HO214.out (fun _ hk=>hk.2)⟩,⟨by (with_reducible repeat (first | apply zz12 | apply zz13 | apply zz14));exact Kd.R_mono HO223.out (fun _ hk=>hk.2)⟩,⟨by (with_reducible repeat (first | refine zz6 ?_ _ | refine zz7 ?_ | refine zz8 ?_ _));exact BK216.out⟩,⟨by (with_reducible repeat (first | refine zz6 ?_ _ | refine zz7 ?_ | refine zz8 ?_ _));exact BK225.out⟩,⟨by repeat first | exact HB.out | apply zz2 | apply zz0 | apply zz1 | refine zz3 ?_ GE216.out | refine zz3 ?_ GE225.out⟩⟩
   ·replace c22:=Bool.eq_false_iff.mpr c22
    subst c22
    have H1:(laws_FnExactTreeOfNumbers.j0 k l0 t215 t217 t224 true t211 t212 t220 t221)=some r:=by rw [if_neg (show ¬ (false=true) by decide)] at H;exact H
    clear H
    have H:=H1
    clear H1
    have H':=zz31 H
    clear H
    have hnb27:=NB225_216.out
    have hnc27:=NB216_225.out
    have hcz28_0:w17.cell? ⟨gb225,0,none⟩=some (.int .i64 0):=(zz9 BK225.out 0).trans rfl
    have hcz28_1:w17.cell? ⟨gb225,1,none⟩=some (.slice none 0 0):=(zz9 BK225.out 1).trans rfl
    have hfz28_0:=zz10 BK225.out 0
    have hfz28_1:=zz10 BK225.out 1
    have hcz29_0:w17.cell? ⟨gb216,0,none⟩=some (.int .i64 t211):=(zz9 BK216.out 0).trans rfl
    have hcz29_1:w17.cell? ⟨gb216,1,none⟩=some (.slice Ao13 t212.length co13):=(zz9 BK216.out 1).trans rfl
    have hfz29_0:=zz10 BK216.out 0
    have hfz29_1:=zz10 BK216.out 1
    go_wp2_with (first | ((with_reducible refine gate_callee (f:=22) rfl ?_);refine goesL_ (some 31) rfl rfl Try.func22 (by kernel_rfl) rfl #[.agg #[.int .i64 t220,.slice Ao20 t221.length co20],.agg #[.int .i64 t211,.slice Ao13 t212.length co13]] rfl (by (try simp only [zz26,zz27,zz28]);first | done | rfl | (simp only [zz24,zz25];rfl)) ?_;(with_reducible refine (laws_eqParty.calls k t220 _ _ t221 t211 _ _ t212 false _ ?side1 ?side2 ?side3 ?side4 A21.out).mono ?_);(case side1=>refine (Kd.R_reads' (e:=80) (base:=w.heap.size) (ok:=fun k_=>(True∧some k_ ≠ (.slice Ao13 t212.length co13:Value).ownBlock)) (n:=t221.length) (c:=co20) ?_).2.2;exact (by (with_reducible repeat (first | apply zz12 | apply zz13 | apply zz14));exact (Kd.R_mono (Kd.R_far (p:=⟨gb225,1,none⟩) (Kd.R_far (p:=⟨gb225,0,none⟩) (Kd.R_types HO223.out BK225.out (by decide)) (fun _ hk=>hk.2) (.int .i64 t220)) (fun _ hk=>hk.2) (.slice Ao20 t221.length co20)) (fun _ h_=>h_.1))));(case side2=>exact (Kd.R_reads' HO223.out).2.1);(case side3=>refine (Kd.R_reads' (e:=80) (base:=w.heap.size) (ok:=fun k_=>(True∧some k_ ≠ (.slice Ao20 t221.length co20:Value).ownBlock)) (n:=t212.length) (c:=co13) ?_).2.2;exact (by (with_reducible repeat (first | apply zz12 | apply zz13 | apply zz14));exact (Kd.R_mono (Kd.R_far (p:=⟨gb225,1,none⟩) (Kd.R_far (p:=⟨gb225,0,none⟩) (Kd.R_types HO214.out BK225.out (by decide)) (fun _ hk=>hk.2) (.int .i64 t220)) (fun _ hk=>hk.2) (.slice Ao20 t221.length co20)) (fun _ h_=>h_.1))));(case side4=>exact (Kd.R_reads' HO214.out).2.1);rintro e w30 ⟨rfl,hb⟩;refine ⟨_,rfl,?_⟩;have n0_:=zz31 (Kd.R_below (by (with_reducible repeat (first | apply zz12 | apply zz13 | apply zz14));exact (Kd.R_mono (Kd.R_far (p:=⟨gb225,1,none⟩) (Kd.R_far (p:=⟨gb225,0,none⟩) (Kd.R_types HO210.out BK225.out (by decide)) (fun _ hk=>hk.2) (.int .i64 t220)) (fun _ hk=>hk.2) (.slice Ao20 t221.length co20)) (fun _ h_=>h_.1))) hb);have n1_:=zz31 (Kd.R_below (by (with_reducible repeat (first | apply zz12 | apply zz13 | apply zz14));exact (Kd.R_mono (Kd.R_far (p:=⟨gb225,1,none⟩) (Kd.R_far (p:=⟨gb225,0,none⟩) (Kd.R_types HO214.out BK225.out (by decide)) (fun _ hk=>hk.2) (.int .i64 t220)) (fun _ hk=>hk.2) (.slice Ao20 t221.length co20)) (fun _ h_=>h_.1))) hb);have n2_:=zz31 (Kd.R_below (by (with_reducible repeat (first | apply zz12 | apply zz13 | apply zz14));exact (Kd.R_mono (Kd.R_far (p:=⟨gb225,1,none⟩) (Kd.R_far (p:=⟨gb225,0,none⟩) (Kd.R_types HO219.out BK225.out (by decide)) (fun _ hk=>hk.2) (.int .i64 t220)) (fun _ hk=>hk.2) (.slice Ao20 t221.length co20)) (fun _ h_=>h_.1))) hb);have n3_:=zz31 (Kd.R_below (by (with_reducible repeat (first | apply zz12 | apply zz13 | apply zz14));exact (Kd.R_mono (Kd.R_far (p:=⟨gb225,1,none⟩) (Kd.R_far (p:=⟨gb225,0,none⟩) (Kd.R_types HO223.out BK225.out (by decide)) (fun _ hk=>hk.2) (.int .i64 t220)) (fun _ hk=>hk.2) (.slice Ao20 t221.length co20)) (fun _ h_=>h_.1))) hb);have n4_:=zz31 (zz11 (g:=gb216) (o:=.cells #[.int .i64 t211,.slice Ao13 t212.length co13] 32 (0,0)) (by (with_reducible repeat (first | refine zz6 ?_ _ | refine zz7 ?_ | refine zz8 ?_ _));refine blk_far ?_ NB216_225.out _;(with_reducible repeat (first | refine zz6 ?_ _ | refine zz7 ?_ | refine zz8 ?_ _));refine blk_far ?_ NB216_225.out _;(with_reducible repeat (first | refine zz6 ?_ _ | refine zz7 ?_ | refine zz8 ?_ _));exact BK216.out) hb);have n5_:=zz31 (zz11 (g:=gb225) (o:=.cells #[.int .i64 t220,.slice Ao20 t221.length co20] 32 (0,0)) (by (with_reducible repeat (first | refine zz6 ?_ _ | refine zz7 ?_ | refine zz8 ?_ _));refine blk_put (cs:=#[.int .i64 t220,.slice none 0 0]) ?_ 1 _ rfl;(with_reducible repeat (first | refine zz6 ?_ _ | refine zz7 ?_ | refine zz8 ?_ _));refine blk_put (cs:=#[.int .i64 0,.slice none 0 0]) ?_ 0 _ rfl;(with_reducible repeat (first | refine zz6 ?_ _ | refine zz7 ?_ | refine zz8 ?_ _));exact BK225.out) hb);have n6_:=zz31 (zz4 (by repeat first | exact HB.out | apply zz2 | apply zz0 | apply zz1 | refine zz3 ?_ GE216.out | refine zz3 ?_ GE225.out) hb);clear HO210;clear HO214;clear HO219;clear HO223;clear BK216;clear BK225;clear HB;have HO210:=n0_;have HO214:=n1_;have HO219:=n2_;have HO223:=n3_;have BK216:=n4_;have BK225:=n5_;have HB:=n6_;clear n0_ n1_ n2_ n3_ n4_ n5_ n6_;(try clear hb);(try clear hb2);(try clear hk);(try clear hi)))
    go_meet
    case rel=>exact ⟨_,(true),(by first | rfl | (simp;done) | (simp [*];done)),H',⟨by first | omega | exact Nat.le_refl _⟩,⟨by (with_reducible repeat (first | apply zz12 | apply zz13 | apply zz14));exact Kd.R_mono HO219.out (fun _ hk=>trivial)⟩,⟨by (with_reducible repeat (first | apply zz12 | apply zz13 | apply zz14));exact Kd.R_mono HO214.out (fun _ hk=>hk.2)⟩,⟨by (with_reducible repeat (first | apply zz12 | apply zz13 | apply zz14));exact Kd.R_mono HO223.out (fun _ hk=>hk.2)⟩,⟨by (with_reducible repeat (first | refine zz6 ?_ _ | refine zz7 ?_ | refine zz8 ?_ _));exact BK216.out⟩,⟨by (with_reducible repeat (first | refine zz6 ?_ _ | refine zz7 ?_ | refine zz8 ?_ _));exact BK225.out⟩,⟨by repeat first | exact HB.out | apply zz2 | apply zz0 | apply zz1 | refine zz3 ?_ GE216.out | refine zz3 ?_ GE225.out⟩⟩
  case rest =>
   clear HC7
   try clear c1
   try clear c2
   try clear c2b0
   try clear c2b1
   try clear p2
   try clear c6
   try clear c15
   try clear c18
   try clear c22
   try clear c23
   try clear c26
   try clear c27
   try clear hcz12_0
   try clear hcz12_1
   try clear hcz19_0
   try clear hcz19_1
   try clear hcz24_0
   try clear hcz24_1
   try clear hcz25_0
   try clear hcz25_1
   try clear hcz28_0
   try clear hcz28_1
   try clear hcz29_0
   try clear hcz29_1
   try clear hfz12_0
   try clear hfz12_1
   try clear hfz19_0
   try clear hfz19_1
   try clear hfz24_0
   try clear hfz24_1
   try clear hfz25_0
   try clear hfz25_1
   try clear hfz28_0
   try clear hfz28_1
   try clear hfz29_0
   try clear hfz29_1
   obtain ⟨kq,x37_6,rfl,HA,HJ6,HO_5,HO_217001,HO_226001,BK216,BK225,HB⟩:=hcut
   cases kq with
   | zero=>exact absurd HA.out (by simp [laws_FnExactTreeOfNumbers.j0])
   | succ kj6 =>
    have H:=HA.out
    clear HA
    simp only [laws_FnExactTreeOfNumbers.j0] at H
    by_cases c31:x37_6=true
    ·subst c31
     have H1:(some false)=some r:=by rw [if_pos rfl] at H;exact H
     clear H
     have H:=H1
     clear H1
     obtain rfl:=Option.some.inj H
     go_wp2
     go_ret
     exact ⟨by first | rfl | (simp [errW_none,errW_some] <;> rfl) | (simp [*,errW_none,errW_some] <;> rfl),by repeat first | exact HB.out | apply zz2 | apply zz0 | apply zz1 | refine zz3 ?_ GE216.out | refine zz3 ?_ GE225.out⟩
    ·replace c31:=Bool.eq_false_iff.mpr c31
     subst c31
     have H1:((laws_toIntS.f kj6 l0).bind fun t227=>((laws_eqIntS.f kj6 t217 t227).bind fun t230=>(if t230=true then ((laws_markIntS.f kj6 t217 1).bind fun bt231=>(if bt231.1 < 0 then (laws_FnExactTreeOfNumbers.j1 kj6 l0 t215 true t211 t212 t220 t221) else ((laws_eqParty.f kj6 t220 t221 t211 t212).bind fun t233=>(if t233=true then (laws_FnExactTreeOfNumbers.j1 kj6 l0 t215 (t224 != t215) t211 t212 t220 t221) else (laws_FnExactTreeOfNumbers.j1 kj6 l0 t215 true t211 t212 t220 t221))))) else (some false))))=some r:=by rw [if_neg (show ¬ (false=true) by decide)] at H;exact H
     clear H
     have H:=H1
     clear H1
     replace H:=zz30.mp H
     obtain ⟨t227,A320,H⟩:=H
     replace H:((laws_eqIntS.f kj6 t217 t227).bind fun t230=>(if t230=true then ((laws_markIntS.f kj6 t217 1).bind fun bt231=>(if bt231.1 < 0 then (laws_FnExactTreeOfNumbers.j1 kj6 l0 t215 true t211 t212 t220 t221) else ((laws_eqParty.f kj6 t220 t221 t211 t212).bind fun t233=>(if t233=true then (laws_FnExactTreeOfNumbers.j1 kj6 l0 t215 (t224 != t215) t211 t212 t220 t221) else (laws_FnExactTreeOfNumbers.j1 kj6 l0 t215 true t211 t212 t220 t221))))) else (some false)))=some r:=H
     have A32:=zz31 A320
     clear A320
     replace H:=zz30.mp H
     obtain ⟨t230,A330,H⟩:=H
     replace H:(if t230=true then ((laws_markIntS.f kj6 t217 1).bind fun bt231=>(if bt231.1 < 0 then (laws_FnExactTreeOfNumbers.j1 kj6 l0 t215 true t211 t212 t220 t221) else ((laws_eqParty.f kj6 t220 t221 t211 t212).bind fun t233=>(if t233=true then (laws_FnExactTreeOfNumbers.j1 kj6 l0 t215 (t224 != t215) t211 t212 t220 t221) else (laws_FnExactTreeOfNumbers.j1 kj6 l0 t215 true t211 t212 t220 t221))))) else (some false))=some r:=H
     have A33:=zz31 A330
     clear A330
     by_cases c34:t230=true
     ·subst c34
      have H1:((laws_markIntS.f kj6 t217 1).bind fun bt231=>(if bt231.1 < 0 then (laws_FnExactTreeOfNumbers.j1 kj6 l0 t215 true t211 t212 t220 t221) else ((laws_eqParty.f kj6 t220 t221 t211 t212).bind fun t233=>(if t233=true then (laws_FnExactTreeOfNumbers.j1 kj6 l0 t215 (t224 != t215) t211 t212 t220 t221) else (laws_FnExactTreeOfNumbers.j1 kj6 l0 t215 true t211 t212 t220 t221)))))=some r:=by rw [if_pos rfl] at H;exact H
      clear H
      have H:=H1
      clear H1
      replace H:=zz30.mp H
      obtain ⟨⟨t231,t232⟩,A350,H⟩:=H
      replace H:(if t231 < 0 then (laws_FnExactTreeOfNumbers.j1 kj6 l0 t215 true t211 t212 t220 t221) else ((laws_eqParty.f kj6 t220 t221 t211 t212).bind fun t233=>(if t233=true then (laws_FnExactTreeOfNumbers.j1 kj6 l0 t215 (t224 != t215) t211 t212 t220 t221) else (laws_FnExactTreeOfNumbers.j1 kj6 l0 t215 true t211 t212 t220 t221))))=some r:=H
      have A35:=zz31 A350
      clear A350
      have HC36:=zz31 H
      clear H
      go_upto_region 12 with (first | ((with_reducible refine gate_callee (f:=15) rfl ?_);refine goesL_ (some 40) rfl rfl Try.func15 (by kernel_rfl) rfl #[.slice A0 l0.length c0] rfl (by (try simp only [zz26,zz27,zz28]);first | done | rfl | (simp only [zz24,zz25];rfl)) ?_;(with_reducible refine (laws_toIntS.calls kj6 _ _ l0 t227 _ ?side1 ?side2 A32.out).mono ?_);(case side1=>repeat (first | exact (Kd.C_below HR0.out HB.out) | (with_reducible refine zz18 ?_ _) | (with_reducible refine zz19 ?_ _) | (with_reducible refine zz20 ?_)));(case side2=>exact HC0.out);rintro e w37 ⟨v228,rfl,ho0,hb⟩;refine ⟨_,rfl,?_⟩;have n0_:=zz31 (Kd.R_elder' (by (with_reducible repeat (first | apply zz12 | apply zz13 | apply zz14));exact HO_5.out) (Kd.R_base ho0) hb);have n1_:=zz31 (Kd.R_below (by (with_reducible repeat (first | apply zz12 | apply zz13 | apply zz14));exact HO_217001.out) hb);have n2_:=zz31 (Kd.R_below (by (with_reducible repeat (first | apply zz12 | apply zz13 | apply zz14));exact HO_226001.out) hb);have n3_:=zz31 (Kd.R_lower (Kd.R_new' ho0 (Kd.R_lt (by (with_reducible repeat (first | apply zz12 | apply zz13 | apply zz14));exact HO_5.out))) (zz5 (by repeat first | exact HB.out | apply zz2 | apply zz0 | apply zz1 | refine zz3 ?_ GE216.out | refine zz3 ?_ GE225.out)));have n4_:=zz31 (zz11 (g:=gb216) (o:=.cells #[.int .i64 t211,.slice Ao13 t212.length co13] 32 (0,0)) (by (with_reducible repeat (first | refine zz6 ?_ _ | refine zz7 ?_ | refine zz8 ?_ _));exact BK216.out) hb);have n5_:=zz31 (zz11 (g:=gb225) (o:=.cells #[.int .i64 t220,.slice Ao20 t221.length co20] 32 (0,0)) (by (with_reducible repeat (first | refine zz6 ?_ _ | refine zz7 ?_ | refine zz8 ?_ _));exact BK225.out) hb);have n6_:=zz31 (zz4 (by repeat first | exact HB.out | apply zz2 | apply zz0 | apply zz1 | refine zz3 ?_ GE216.out | refine zz3 ?_ GE225.out) hb);clear HO_5;clear HO_217001;clear HO_226001;clear BK216;clear BK225;clear HB;have HO_5:=n0_;have HO_217001:=n1_;have HO_226001:=n2_;have HO229:=n3_;have BK216:=n4_;have BK225:=n5_;have HB:=n6_;clear n0_ n1_ n2_ n3_ n4_ n5_ n6_;(try clear hb);(try clear hb2);(try clear hk);(try clear hi);(try clear ho0);obtain ⟨Ao38,co38,eo38⟩:=Kd.R_slice HO229.out;subst eo38) | ((with_reducible refine gate_callee (f:=17) rfl ?_);refine goesL_ (some 41) rfl rfl Try.func17 (by kernel_rfl) rfl #[.slice Ao15 t217.length co15,.slice Ao38 t227.length co38] rfl (by (try simp only [zz26,zz27,zz28]);first | done | rfl | (simp only [zz24,zz25];rfl)) ?_;(with_reducible refine (laws_eqIntS.calls kj6 _ _ t217 _ _ t227 true _ ?side1 ?side2 ?side3 ?side4 A33.out).mono ?_);(case side1=>repeat (first | exact (Kd.R_reads' HO_5.out).2.2 | (with_reducible refine zz18 ?_ _) | (with_reducible refine zz19 ?_ _) | (with_reducible refine zz20 ?_)));(case side2=>exact (Kd.R_reads' HO_5.out).2.1);(case side3=>repeat (first | exact (Kd.R_reads' HO229.out).2.2 | (with_reducible refine zz18 ?_ _) | (with_reducible refine zz19 ?_ _) | (with_reducible refine zz20 ?_)));(case side4=>exact (Kd.R_reads' HO229.out).2.1);rintro e w' ⟨rfl,⟨nd,rfl⟩⟩;refine ⟨_,rfl,?_⟩) | ((with_reducible refine gate_callee (f:=23) rfl ?_);refine goesL_ (some 45) rfl rfl Try.func23 (by kernel_rfl) rfl #[.slice Ao15 t217.length co15,.int .i64 1] rfl (by (try simp only [zz26,zz27,zz28]);first | done | rfl | (simp only [zz24,zz25];rfl)) ?_;(with_reducible refine (laws_markIntS.calls kj6 (fun k_=>some k_=(.slice Ao15 t217.length co15:Value).ownBlock) (.slice Ao15 t217.length co15) t217 1 t231 t232 w _ ?side1 ?side2 A35.out).mono ?_);(case side1=>repeat first | exact HB.out | apply zz2 | apply zz0 | apply zz1 | refine zz3 ?_ GE216.out | refine zz3 ?_ GE225.out);(case side2=>exact Kd.R_tight rfl HO_5.out);rintro e w39 ⟨rfl,hy0,hb,hkp⟩;refine ⟨_,rfl,?_⟩;have n0_:=zz31 (Kd.R_reok rfl hy0 (fun k_ e_=>HO_5.out.1 k_ e_));have n1_:=zz31 (Kd.R_mono (ok':=fun k_=>some k_ ≠ (.slice Ao20 t221.length co20:Value).ownBlock) (Kd.R_keptB ((Kd.R_apart' HO_217001.out (Kd.R_typed HO_5.out) (by decide))) hkp (fun k_ hk_ hs_=>(hk_.2) hs_)) (fun k_ hk_=>hk_.1.1));have n2_:=zz31 (Kd.R_mono (ok':=fun k_=>some k_ ≠ (.slice Ao13 t212.length co13:Value).ownBlock) (Kd.R_keptB ((Kd.R_apart' HO_226001.out (Kd.R_typed HO_5.out) (by decide))) hkp (fun k_ hk_ hs_=>(hk_.2) hs_)) (fun k_ hk_=>hk_.1.1));(first | have n3_:=zz31 (blk_kept BK216.out hkp (fun hs_=>(fun e_=>(Kd.R_ne HO_5.out BK216.out (by decide)) e_) hs_)) | have n3_:=zz31 (blk_kept (by (with_reducible repeat (first | refine zz6 ?_ _ | refine zz7 ?_ | refine zz8 ?_ _));exact BK216.out) hkp (fun hs_=>(fun e_=>(Kd.R_ne HO_5.out BK216.out (by decide)) e_) hs_)));(first | have n4_:=zz31 (blk_kept BK225.out hkp (fun hs_=>(fun e_=>(Kd.R_ne HO_5.out BK225.out (by decide)) e_) hs_)) | have n4_:=zz31 (blk_kept (by (with_reducible repeat (first | refine zz6 ?_ _ | refine zz7 ?_ | refine zz8 ?_ _));exact BK225.out) hkp (fun hs_=>(fun e_=>(Kd.R_ne HO_5.out BK225.out (by decide)) e_) hs_)));have n5_:=zz31 (Kd.R_mono (ok':=fun k_=>some k_ ≠ (.slice Ao15 t217.length co15:Value).ownBlock) (Kd.R_keptB (HO229.out) hkp (fun k_ hk_ hs_=>(hk_.2) hs_)) (fun k_ hk_=>hk_.1.2));have n6_:=zz31 (hb);clear HO_5;clear HO_217001;clear HO_226001;clear BK216;clear BK225;clear HO229;clear HB;have HO_5:=n0_;have HO_217001:=n1_;have HO_226001:=n2_;have BK216:=n3_;have BK225:=n4_;have HO229:=n5_;have HB:=n6_;clear n0_ n1_ n2_ n3_ n4_ n5_ n6_;(try clear hb);(try clear hkp);(try clear hy0)))
      (try simp only [Act.put,zz21,zz22,zz23])
      go_cut [58] (fun v58 wc=>∃ (kq:Nat) (x58_35:Bool),v58=.bool x58_35∧Aside0 (laws_FnExactTreeOfNumbers.j1 kq l0 t215 x58_35 t211 t212 t220 t221=some r)∧Aside0 (kq≤kj6)∧Aside0 (Kd.R k80 80 wc w.heap.size (fun k_=>some k_ ≠ ((.slice Ao20 t221.length co20):Value).ownBlock) (.slice Ao13 t212.length co13) t212)∧Aside0 (Kd.R k80 80 wc w.heap.size (fun k_=>some k_ ≠ ((.slice Ao13 t212.length co13):Value).ownBlock) (.slice Ao20 t221.length co20) t221)∧Aside0 (wc.heap[gb216]?=some (.cells #[.int .i64 t211,(.slice Ao13 t212.length co13)] 32 (0,0)))∧Aside0 (wc.heap[gb225]?=some (.cells #[.int .i64 t220,(.slice Ao20 t221.length co20)] 32 (0,0)))∧Aside0 (Below w.heap.size w wc))
      case first =>
       have H:=HC36.out
       clear HC36
       by_cases c40:t231 < 0
       ·rw [if_pos c40] at H
        have c40b0:decide (t231 < 0)=true:=decide_eq_true c40
        clear c40
        (first | rw [c40b0] | (simp only [i64_w,i32_w];rw [c40b0]) | skip)
        have H':=zz31 H
        clear H
        go_wp2
        go_meet
        case rel=>exact ⟨_,(true),(by first | rfl | (simp;done) | (simp [*];done)),H',⟨by have:=HJ6.out;first | omega | exact Nat.le_refl _⟩,⟨by (with_reducible repeat (first | apply zz12 | apply zz13 | apply zz14));exact HO_217001.out⟩,⟨by (with_reducible repeat (first | apply zz12 | apply zz13 | apply zz14));exact HO_226001.out⟩,⟨by (with_reducible repeat (first | refine zz6 ?_ _ | refine zz7 ?_ | refine zz8 ?_ _));exact BK216.out⟩,⟨by (with_reducible repeat (first | refine zz6 ?_ _ | refine zz7 ?_ | refine zz8 ?_ _));exact BK225.out⟩,⟨by repeat first | exact HB.out | apply zz2 | apply zz0 | apply zz1 | refine zz3 ?_ GE216.out | refine zz3 ?_ GE225.out⟩⟩
       ·rw [if_neg c40] at H
        have c40b0:decide (t231 < 0)=false:=decide_eq_false c40
        clear c40
        (first | rw [c40b0] | (simp only [i64_w,i32_w];rw [c40b0]) | skip)
        replace H:=zz30.mp H
        obtain ⟨t233,A410,H⟩:=H
        replace H:(if t233=true then (laws_FnExactTreeOfNumbers.j1 kj6 l0 t215 (t224 != t215) t211 t212 t220 t221) else (laws_FnExactTreeOfNumbers.j1 kj6 l0 t215 true t211 t212 t220 t221))=some r:=H
        have A41:=zz31 A410
        clear A410
        by_cases c42:t233=true
        ·subst c42
         have H1:(laws_FnExactTreeOfNumbers.j1 kj6 l0 t215 (t224 != t215) t211 t212 t220 t221)=some r:=by rw [if_pos rfl] at H;exact H
         clear H
         have H:=H1
         clear H1
         have H':=zz31 H
         clear H
         have hnb43:=NB225_216.out
         have hnc43:=NB216_225.out
         have hcz44_0:w39.cell? ⟨gb225,0,none⟩=some (.int .i64 t220):=(zz9 BK225.out 0).trans rfl
         have hcz44_1:w39.cell? ⟨gb225,1,none⟩=some (.slice Ao20 t221.length co20):=(zz9 BK225.out 1).trans rfl
         have hfz44_0:=zz10 BK225.out 0
         have hfz44_1:=zz10 BK225.out 1
         have hcz45_0:w39.cell? ⟨gb216,0,none⟩=some (.int .i64 t211):=(zz9 BK216.out 0).trans rfl
         have hcz45_1:w39.cell? ⟨gb216,1,none⟩=some (.slice Ao13 t212.length co13):=(zz9 BK216.out 1).trans rfl
         have hfz45_0:=zz10 BK216.out 0
         have hfz45_1:=zz10 BK216.out 1
         go_wp2_with (first | (go_at_call 22;(with_reducible refine (laws_eqParty.calls kj6 t220 _ _ t221 t211 _ _ t212 true _ ?side1 ?side2 ?side3 ?side4 A41.out).mono ?_);(case side1=>repeat (first | exact (Kd.R_reads' HO_226001.out).2.2 | (with_reducible refine zz18 ?_ _) | (with_reducible refine zz19 ?_ _) | (with_reducible refine zz20 ?_)));(case side2=>exact (Kd.R_reads' HO_226001.out).2.1);(case side3=>repeat (first | exact (Kd.R_reads' HO_217001.out).2.2 | (with_reducible refine zz18 ?_ _) | (with_reducible refine zz19 ?_ _) | (with_reducible refine zz20 ?_)));(case side4=>exact (Kd.R_reads' HO_217001.out).2.1);rintro e w46 ⟨rfl,hb⟩;have n0_:=zz31 (Kd.R_below (by (with_reducible repeat (first | apply zz12 | apply zz13 | apply zz14));exact HO_5.out) hb);have n1_:=zz31 (Kd.R_below (by (with_reducible repeat (first | apply zz12 | apply zz13 | apply zz14));exact HO_217001.out) hb);have n2_:=zz31 (Kd.R_below (by (with_reducible repeat (first | apply zz12 | apply zz13 | apply zz14));exact HO_226001.out) hb);have n3_:=zz31 (Kd.R_below (by (with_reducible repeat (first | apply zz12 | apply zz13 | apply zz14));exact HO229.out) hb);have n4_:=zz31 (zz11 (g:=gb216) (o:=.cells #[.int .i64 t211,.slice Ao13 t212.length co13] 32 (0,0)) (by (with_reducible repeat (first | refine zz6 ?_ _ | refine zz7 ?_ | refine zz8 ?_ _));exact BK216.out) hb);have n5_:=zz31 (zz11 (g:=gb225) (o:=.cells #[.int .i64 t220,.slice Ao20 t221.length co20] 32 (0,0)) (by (with_reducible repeat (first | refine zz6 ?_ _ | refine zz7 ?_ | refine zz8 ?_ _));exact BK225.out) hb);have n6_:=zz31 (zz4 (by repeat first | exact HB.out | apply zz2 | apply zz0 | apply zz1 | refine zz3 ?_ GE216.out | refine zz3 ?_ GE225.out) hb);clear HO_5;clear HO_217001;clear HO_226001;clear HO229;clear BK216;clear BK225;clear HB;have HO_5:=n0_;have HO_217001:=n1_;have HO_226001:=n2_;have HO229:=n3_;have BK216:=n4_;have BK225:=n5_;have HB:=n6_;clear n0_ n1_ n2_ n3_ n4_ n5_ n6_;(try clear hb);(try clear hb2);(try clear hk);(try clear hi)))
         go_meet
         case rel=>exact ⟨_,((t224 != t215)),(by first | rfl | (simp;done) | (simp [*];done)),H',⟨by have:=HJ6.out;first | omega | exact Nat.le_refl _⟩,⟨by (with_reducible repeat (first | apply zz12 | apply zz13 | apply zz14));exact HO_217001.out⟩,⟨by (with_reducible repeat (first | apply zz12 | apply zz13 | apply zz14));exact HO_226001.out⟩,⟨by (with_reducible repeat (first | refine zz6 ?_ _ | refine zz7 ?_ | refine zz8 ?_ _));exact BK216.out⟩,⟨by (with_reducible repeat (first | refine zz6 ?_ _ | refine zz7 ?_ | refine zz8 ?_ _));exact BK225.out⟩,⟨by repeat first | exact HB.out | apply zz2 | apply zz0 | apply zz1 | refine zz3 ?_ GE216.out | refine zz3 ?_ GE225.out⟩⟩
        ·replace c42:=Bool.eq_false_iff.mpr c42
         subst c42
         have H1:(laws_FnExactTreeOfNumbers.j1 kj6 l0 t215 true t211 t212 t220 t221)=some r:=by rw [if_neg (show ¬ (false=true) by decide)] at H;exact H
         clear H
         have H:=H1
         clear H1
         have H':=zz31 H
         clear H
         have hnb47:=NB225_216.out
         have hnc47:=NB216_225.out
         have hcz48_0:w39.cell? ⟨gb225,0,none⟩=some (.int .i64 t220):=(zz9 BK225.out 0).trans rfl
         have hcz48_1:w39.cell? ⟨gb225,1,none⟩=some (.slice Ao20 t221.length co20):=(zz9 BK225.out 1).trans rfl
         have hfz48_0:=zz10 BK225.out 0
         have hfz48_1:=zz10 BK225.out 1
         have hcz49_0:w39.cell? ⟨gb216,0,none⟩=some (.int .i64 t211):=(zz9 BK216.out 0).trans rfl
         have hcz49_1:w39.cell? ⟨gb216,1,none⟩=some (.slice Ao13 t212.length co13):=(zz9 BK216.out 1).trans rfl
         have hfz49_0:=zz10 BK216.out 0
         have hfz49_1:=zz10 BK216.out 1
         go_wp2_with (first | (go_at_call 22;(with_reducible refine (laws_eqParty.calls kj6 t220 _ _ t221 t211 _ _ t212 false _ ?side1 ?side2 ?side3 ?side4 A41.out).mono ?_);(case side1=>repeat (first | exact (Kd.R_reads' HO_226001.out).2.2 | (with_reducible refine zz18 ?_ _) | (with_reducible refine zz19 ?_ _) | (with_reducible refine zz20 ?_)));(case side2=>exact (Kd.R_reads' HO_226001.out).2.1);(case side3=>repeat (first | exact (Kd.R_reads' HO_217001.out).2.2 | (with_reducible refine zz18 ?_ _) | (with_reducible refine zz19 ?_ _) | (with_reducible refine zz20 ?_)));(case side4=>exact (Kd.R_reads' HO_217001.out).2.1);rintro e w50 ⟨rfl,hb⟩;have n0_:=zz31 (Kd.R_below (by (with_reducible repeat (first | apply zz12 | apply zz13 | apply zz14));exact HO_5.out) hb);have n1_:=zz31 (Kd.R_below (by (with_reducible repeat (first | apply zz12 | apply zz13 | apply zz14));exact HO_217001.out) hb);have n2_:=zz31 (Kd.R_below (by (with_reducible repeat (first | apply zz12 | apply zz13 | apply zz14));exact HO_226001.out) hb);have n3_:=zz31 (Kd.R_below (by (with_reducible repeat (first | apply zz12 | apply zz13 | apply zz14));exact HO229.out) hb);have n4_:=zz31 (zz11 (g:=gb216) (o:=.cells #[.int .i64 t211,.slice Ao13 t212.length co13] 32 (0,0)) (by (with_reducible repeat (first | refine zz6 ?_ _ | refine zz7 ?_ | refine zz8 ?_ _));exact BK216.out) hb);have n5_:=zz31 (zz11 (g:=gb225) (o:=.cells #[.int .i64 t220,.slice Ao20 t221.length co20] 32 (0,0)) (by (with_reducible repeat (first | refine zz6 ?_ _ | refine zz7 ?_ | refine zz8 ?_ _));exact BK225.out) hb);have n6_:=zz31 (zz4 (by repeat first | exact HB.out | apply zz2 | apply zz0 | apply zz1 | refine zz3 ?_ GE216.out | refine zz3 ?_ GE225.out) hb);clear HO_5;clear HO_217001;clear HO_226001;clear HO229;clear BK216;clear BK225;clear HB;have HO_5:=n0_;have HO_217001:=n1_;have HO_226001:=n2_;have HO229:=n3_;have BK216:=n4_;have BK225:=n5_;have HB:=n6_;clear n0_ n1_ n2_ n3_ n4_ n5_ n6_;(try clear hb);(try clear hb2);(try clear hk);(try clear hi)))
         go_meet
         case rel=>exact ⟨_,(true),(by first | rfl | (simp;done) | (simp [*];done)),H',⟨by have:=HJ6.out;first | omega | exact Nat.le_refl _⟩,⟨by (with_reducible repeat (first | apply zz12 | apply zz13 | apply zz14));exact HO_217001.out⟩,⟨by (with_reducible repeat (first | apply zz12 | apply zz13 | apply zz14));exact HO_226001.out⟩,⟨by (with_reducible repeat (first | refine zz6 ?_ _ | refine zz7 ?_ | refine zz8 ?_ _));exact BK216.out⟩,⟨by (with_reducible repeat (first | refine zz6 ?_ _ | refine zz7 ?_ | refine zz8 ?_ _));exact BK225.out⟩,⟨by repeat first | exact HB.out | apply zz2 | apply zz0 | apply zz1 | refine zz3 ?_ GE216.out | refine zz3 ?_ GE225.out⟩⟩
      case rest =>
       clear HC36
       try clear c1
       try clear c2
       try clear c2b0
       try clear c2b1
       try clear p2
       try clear c3
       try clear c4
       try clear c6
       try clear c15
       try clear c17
       try clear c18
       try clear c22
       try clear c23
       try clear c26
       try clear c27
       try clear c31
       try clear c34
       try clear c40
       try clear c40b0
       try clear c42
       try clear c43
       try clear c47
       try clear hcz12_0
       try clear hcz12_1
       try clear hcz19_0
       try clear hcz19_1
       try clear hcz24_0
       try clear hcz24_1
       try clear hcz25_0
       try clear hcz25_1
       try clear hcz28_0
       try clear hcz28_1
       try clear hcz29_0
       try clear hcz29_1
       try clear hcz44_0
       try clear hcz44_1
       try clear hcz45_0
       try clear hcz45_1
       try clear hcz48_0
       try clear hcz48_1
       try clear hcz49_0
       try clear hcz49_1
       try clear hfz12_0
       try clear hfz12_1
       try clear hfz19_0
       try clear hfz19_1
       try clear hfz24_0
       try clear hfz24_1
       try clear hfz25_0
       try clear hfz25_1
       try clear hfz28_0
       try clear hfz28_1
       try clear hfz29_0
       try clear hfz29_1
       try clear hfz44_0
       try clear hfz44_1
       try clear hfz45_0
       try clear hfz45_1
       try clear hfz48_0
       try clear hfz48_1
       try clear hfz49_0
       try clear hfz49_1
       try clear p2
       obtain ⟨kq,x58_35,rfl,HA,HJ35,HO_217001,HO_226001,BK216,BK225,HB⟩:=hcut
       cases kq with
       | zero=>exact absurd HA.out (by simp [laws_FnExactTreeOfNumbers.j1])
       | succ kj35 =>
        have H:=HA.out
        clear HA
        simp only [laws_FnExactTreeOfNumbers.j1] at H
        by_cases c51:x58_35=true
        ·subst c51
         have H1:(some false)=some r:=by rw [if_pos rfl] at H;exact H
         clear H
         have H:=H1
         clear H1
         obtain rfl:=Option.some.inj H
         go_wp2
         go_ret
         exact ⟨by first | rfl | (simp [errW_none,errW_some] <;> rfl) | (simp [*,errW_none,errW_some] <;> rfl),by repeat first | exact HB.out | apply zz2 | apply zz0 | apply zz1 | refine zz3 ?_ GE216.out | refine zz3 ?_ GE225.out⟩
        ·replace c51:=Bool.eq_false_iff.mpr c51
         subst c51
         have H1:((laws_markParty.f kj35 t220 t221 1).bind fun bt234=>((laws_heldParty.f kj35 t220 bt234.2 1).bind fun t236=>(if t236 < 0 then (some false) else (if t236=bt234.1 then ((laws_toIntS.f kj35 l0).bind fun t237=>((impl_TreeOfNumbers.f kj35 t237).bind fun bt240=>((laws_eqParty.f kj35 bt240.1 bt240.2.1 t211 t212).bind fun t246=>(if t246=true then (laws_FnExactTreeOfNumbers.j2 kj35 bt234.1 (bt240.2.2 != t215) t220 bt234.2) else (laws_FnExactTreeOfNumbers.j2 kj35 bt234.1 true t220 bt234.2))))) else (some false)))))=some r:=by rw [if_neg (show ¬ (false=true) by decide)] at H;exact H
         clear H
         have H:=H1
         clear H1
         replace H:=zz30.mp H
         obtain ⟨⟨t234,t235⟩,A520,H⟩:=H
         replace H:((laws_heldParty.f kj35 t220 t235 1).bind fun t236=>(if t236 < 0 then (some false) else (if t236=t234 then ((laws_toIntS.f kj35 l0).bind fun t237=>((impl_TreeOfNumbers.f kj35 t237).bind fun bt240=>((laws_eqParty.f kj35 bt240.1 bt240.2.1 t211 t212).bind fun t246=>(if t246=true then (laws_FnExactTreeOfNumbers.j2 kj35 t234 (bt240.2.2 != t215) t220 t235) else (laws_FnExactTreeOfNumbers.j2 kj35 t234 true t220 t235))))) else (some false))))=some r:=H
         have A52:=zz31 A520
         clear A520
         replace H:=zz30.mp H
         obtain ⟨t236,A530,H⟩:=H
         replace H:(if t236 < 0 then (some false) else (if t236=t234 then ((laws_toIntS.f kj35 l0).bind fun t237=>((impl_TreeOfNumbers.f kj35 t237).bind fun bt240=>((laws_eqParty.f kj35 bt240.1 bt240.2.1 t211 t212).bind fun t246=>(if t246=true then (laws_FnExactTreeOfNumbers.j2 kj35 t234 (bt240.2.2 != t215) t220 t235) else (laws_FnExactTreeOfNumbers.j2 kj35 t234 true t220 t235))))) else (some false)))=some r:=H
         have A53:=zz31 A530
         clear A530
         by_cases c54:t236 < 0
         ·rw [if_pos c54] at H
          have c54b0:decide (t236 < 0)=true:=decide_eq_true c54
          clear c54
          obtain rfl:=Option.some.inj H
          have hnb55:=NB225_216.out
          have hnc55:=NB216_225.out
          have hcz56_0:wc.cell? ⟨gb225,0,none⟩=some (.int .i64 t220):=(zz9 BK225.out 0).trans rfl
          have hcz56_1:wc.cell? ⟨gb225,1,none⟩=some (.slice Ao20 t221.length co20):=(zz9 BK225.out 1).trans rfl
          have hfz56_0:=zz10 BK225.out 0
          have hfz56_1:=zz10 BK225.out 1
          go_wp2_with (first | ((with_reducible refine gate_callee (f:=24) rfl ?_);refine goesL_ (some 61) rfl rfl Try.func24 (by kernel_rfl) rfl #[.agg #[.int .i64 t220,.slice Ao20 t221.length co20],.int .i64 1] rfl (by (try simp only [zz26,zz27,zz28]);first | done | rfl | (simp only [zz24,zz25];rfl)) ?_;(with_reducible refine (laws_markParty.calls kj35 t220 (fun k_=>some k_=(.slice Ao20 t221.length co20:Value).ownBlock) (.slice Ao20 t221.length co20) t221 1 t234 t235 w _ ?side1 ?side2 A52.out).mono ?_);(case side1=>repeat first | exact HB.out | apply zz2 | apply zz0 | apply zz1 | refine zz3 ?_ GE216.out | refine zz3 ?_ GE225.out);(case side2=>exact Kd.R_tight rfl HO_226001.out);rintro e w57 ⟨rfl,hy0,hb,hkp⟩;refine ⟨_,rfl,?_⟩;have n0_:=zz31 (Kd.R_mono (ok':=fun k_=>some k_ ≠ (.slice Ao20 t221.length co20:Value).ownBlock) (Kd.R_keptB (HO_217001.out) hkp (fun k_ hk_ hs_=>(hk_) hs_)) (fun k_ hk_=>hk_.1));have n1_:=zz31 (Kd.R_reok rfl hy0 (fun k_ e_=>HO_226001.out.1 k_ e_));(first | have n2_:=zz31 (blk_kept BK216.out hkp (fun hs_=>(fun e_=>(Kd.R_ne HO_226001.out BK216.out (by decide)) e_) hs_)) | have n2_:=zz31 (blk_kept (by (with_reducible repeat (first | refine zz6 ?_ _ | refine zz7 ?_ | refine zz8 ?_ _));exact BK216.out) hkp (fun hs_=>(fun e_=>(Kd.R_ne HO_226001.out BK216.out (by decide)) e_) hs_)));(first | have n3_:=zz31 (blk_kept BK225.out hkp (fun hs_=>(fun e_=>(Kd.R_ne HO_226001.out BK225.out (by decide)) e_) hs_)) | have n3_:=zz31 (blk_kept (by (with_reducible repeat (first | refine zz6 ?_ _ | refine zz7 ?_ | refine zz8 ?_ _));exact BK225.out) hkp (fun hs_=>(fun e_=>(Kd.R_ne HO_226001.out BK225.out (by decide)) e_) hs_)));have n4_:=zz31 (hb);clear HO_217001;clear HO_226001;clear BK216;clear BK225;clear HB;have HO_217001:=n0_;have HO_226001:=n1_;have BK216:=n2_;have BK225:=n3_;have HB:=n4_;clear n0_ n1_ n2_ n3_ n4_;(try clear hb);(try clear hkp);(try clear hy0);have hcz58_0:w57.cell? ⟨gb225,0,none⟩=some (.int .i64 t220):=(zz9 BK225.out 0).trans rfl;have hcz58_1:w57.cell? ⟨gb225,1,none⟩=some (.slice Ao20 t221.length co20):=(zz9 BK225.out 1).trans rfl;have hfz58_0:=zz10 BK225.out 0;have hfz58_1:=zz10 BK225.out 1) | ((with_reducible refine gate_callee (f:=25) rfl ?_);refine goesL_ (some 64) rfl rfl Try.func25 (by kernel_rfl) rfl #[.agg #[.int .i64 t220,.slice Ao20 t235.length co20],.int .i64 1] rfl (by (try simp only [zz26,zz27,zz28]);first | done | (rw [show t235.length=t221.length from (Kd.R_reads' HO_226001.out).1.symm] <;> rfl) | rfl | (simp only [zz24,zz25];rfl)) ?_;(with_reducible refine (laws_heldParty.calls kj35 t220 _ _ t235 1 t236 _ ?side1 ?side2 A53.out).mono ?_);(case side1=>repeat (first | exact (Kd.R_reads' HO_226001.out).2.2 | (with_reducible refine zz18 ?_ _) | (with_reducible refine zz19 ?_ _) | (with_reducible refine zz20 ?_)));(case side2=>rw [show t235.length=t221.length from (Kd.R_reads' HO_226001.out).1.symm];exact (Kd.R_reads' HO_226001.out).2.1);rintro e w59 ⟨rfl,hb⟩;refine ⟨_,rfl,?_⟩;have n0_:=zz31 (Kd.R_below (by (with_reducible repeat (first | apply zz12 | apply zz13 | apply zz14));exact HO_217001.out) hb);have n1_:=zz31 (Kd.R_below (by (with_reducible repeat (first | apply zz12 | apply zz13 | apply zz14));exact HO_226001.out) hb);have n2_:=zz31 (zz11 (g:=gb216) (o:=.cells #[.int .i64 t211,.slice Ao13 t212.length co13] 32 (0,0)) (by (with_reducible repeat (first | refine zz6 ?_ _ | refine zz7 ?_ | refine zz8 ?_ _));exact BK216.out) hb);have n3_:=zz31 (zz11 (g:=gb225) (o:=.cells #[.int .i64 t220,.slice Ao20 t221.length co20] 32 (0,0)) (by (with_reducible repeat (first | refine zz6 ?_ _ | refine zz7 ?_ | refine zz8 ?_ _));exact BK225.out) hb);have n4_:=zz31 (zz4 (by repeat first | exact HB.out | apply zz2 | apply zz0 | apply zz1 | refine zz3 ?_ GE216.out | refine zz3 ?_ GE225.out) hb);clear HO_217001;clear HO_226001;clear BK216;clear BK225;clear HB;have HO_217001:=n0_;have HO_226001:=n1_;have BK216:=n2_;have BK225:=n3_;have HB:=n4_;clear n0_ n1_ n2_ n3_ n4_;(try clear hb);(try clear hb2);(try clear hk);(try clear hi)))
          go_ret
          exact ⟨by first | rfl | (simp [errW_none,errW_some] <;> rfl) | (simp [*,errW_none,errW_some] <;> rfl),by repeat first | exact HB.out | apply zz2 | apply zz0 | apply zz1 | refine zz3 ?_ GE216.out | refine zz3 ?_ GE225.out⟩
         ·rw [if_neg c54] at H
          have c54b0:decide (t236 < 0)=false:=decide_eq_false c54
          clear c54
          by_cases c60:t236=t234
          ·rw [if_pos c60] at H
           have c60b0:(t236 == t234)=true:=beq_iff_eq.mpr c60
           have c60b1:(t236 != t234)=false:=bne_eq_false_iff_eq.mpr c60
           clear c60
           replace H:=zz30.mp H
           obtain ⟨t237,A610,H⟩:=H
           replace H:((impl_TreeOfNumbers.f kj35 t237).bind fun bt240=>((laws_eqParty.f kj35 bt240.1 bt240.2.1 t211 t212).bind fun t246=>(if t246=true then (laws_FnExactTreeOfNumbers.j2 kj35 t234 (bt240.2.2 != t215) t220 t235) else (laws_FnExactTreeOfNumbers.j2 kj35 t234 true t220 t235))))=some r:=H
           have A61:=zz31 A610
           clear A610
           replace H:=zz30.mp H
           obtain ⟨⟨t240,t241,t244⟩,A620,H⟩:=H
           replace H:((laws_eqParty.f kj35 t240 t241 t211 t212).bind fun t246=>(if t246=true then (laws_FnExactTreeOfNumbers.j2 kj35 t234 (t244 != t215) t220 t235) else (laws_FnExactTreeOfNumbers.j2 kj35 t234 true t220 t235)))=some r:=H
           have A62:=zz31 A620
           clear A620
           have HC63:=zz31 H
           clear H
           have hnb64:=NB225_216.out
           have hnc64:=NB216_225.out
           have hcz65_0:wc.cell? ⟨gb225,0,none⟩=some (.int .i64 t220):=(zz9 BK225.out 0).trans rfl
           have hcz65_1:wc.cell? ⟨gb225,1,none⟩=some (.slice Ao20 t221.length co20):=(zz9 BK225.out 1).trans rfl
           have hfz65_0:=zz10 BK225.out 0
           have hfz65_1:=zz10 BK225.out 1
           go_upto_region 23 with (first | ((with_reducible refine gate_callee (f:=24) rfl ?_);refine goesL_ (some 61) rfl rfl Try.func24 (by kernel_rfl) rfl #[.agg #[.int .i64 t220,.slice Ao20 t221.length co20],.int .i64 1] rfl (by (try simp only [zz26,zz27,zz28]);first | done | rfl | (simp only [zz24,zz25];rfl)) ?_;(with_reducible refine (laws_markParty.calls kj35 t220 (fun k_=>some k_=(.slice Ao20 t221.length co20:Value).ownBlock) (.slice Ao20 t221.length co20) t221 1 t234 t235 w _ ?side1 ?side2 A52.out).mono ?_);(case side1=>repeat first | exact HB.out | apply zz2 | apply zz0 | apply zz1 | refine zz3 ?_ GE216.out | refine zz3 ?_ GE225.out);(case side2=>exact Kd.R_tight rfl HO_226001.out);rintro e w66 ⟨rfl,hy0,hb,hkp⟩;refine ⟨_,rfl,?_⟩;have n0_:=zz31 (Kd.R_mono (ok':=fun k_=>some k_ ≠ (.slice Ao20 t221.length co20:Value).ownBlock) (Kd.R_keptB (HO_217001.out) hkp (fun k_ hk_ hs_=>(hk_) hs_)) (fun k_ hk_=>hk_.1));have n1_:=zz31 (Kd.R_reok rfl hy0 (fun k_ e_=>HO_226001.out.1 k_ e_));(first | have n2_:=zz31 (blk_kept BK216.out hkp (fun hs_=>(fun e_=>(Kd.R_ne HO_226001.out BK216.out (by decide)) e_) hs_)) | have n2_:=zz31 (blk_kept (by (with_reducible repeat (first | refine zz6 ?_ _ | refine zz7 ?_ | refine zz8 ?_ _));exact BK216.out) hkp (fun hs_=>(fun e_=>(Kd.R_ne HO_226001.out BK216.out (by decide)) e_) hs_)));(first | have n3_:=zz31 (blk_kept BK225.out hkp (fun hs_=>(fun e_=>(Kd.R_ne HO_226001.out BK225.out (by decide)) e_) hs_)) | have n3_:=zz31 (blk_kept (by (with_reducible repeat (first | refine zz6 ?_ _ | refine zz7 ?_ | refine zz8 ?_ _));exact BK225.out) hkp (fun hs_=>(fun e_=>(Kd.R_ne HO_226001.out BK225.out (by decide)) e_) hs_)));have n4_:=zz31 (hb);clear HO_217001;clear HO_226001;clear BK216;clear BK225;clear HB;have HO_217001:=n0_;have HO_226001:=n1_;have BK216:=n2_;have BK225:=n3_;have HB:=n4_;clear n0_ n1_ n2_ n3_ n4_;(try clear hb);(try clear hkp);(try clear hy0);have hcz67_0:w66.cell? ⟨gb225,0,none⟩=some (.int .i64 t220):=(zz9 BK225.out 0).trans rfl;have hcz67_1:w66.cell? ⟨gb225,1,none⟩=some (.slice Ao20 t221.length co20):=(zz9 BK225.out 1).trans rfl;have hfz67_0:=zz10 BK225.out 0;have hfz67_1:=zz10 BK225.out 1) | ((with_reducible refine gate_callee (f:=25) rfl ?_);refine goesL_ (some 64) rfl rfl Try.func25 (by kernel_rfl) rfl #[.agg #[.int .i64 t220,.slice Ao20 t235.length co20],.int .i64 1] rfl (by (try simp only [zz26,zz27,zz28]);first | done | (rw [show t235.length=t221.length from (Kd.R_reads' HO_226001.out).1.symm] <;> rfl) | rfl | (simp only [zz24,zz25];rfl)) ?_;(with_reducible refine (laws_heldParty.calls kj35 t220 _ _ t235 1 t236 _ ?side1 ?side2 A53.out).mono ?_);(case side1=>repeat (first | exact (Kd.R_reads' HO_226001.out).2.2 | (with_reducible refine zz18 ?_ _) | (with_reducible refine zz19 ?_ _) | (with_reducible refine zz20 ?_)));(case side2=>rw [show t235.length=t221.length from (Kd.R_reads' HO_226001.out).1.symm];exact (Kd.R_reads' HO_226001.out).2.1);rintro e w68 ⟨rfl,hb⟩;refine ⟨_,rfl,?_⟩;have n0_:=zz31 (Kd.R_below (by (with_reducible repeat (first | apply zz12 | apply zz13 | apply zz14));exact HO_217001.out) hb);have n1_:=zz31 (Kd.R_below (by (with_reducible repeat (first | apply zz12 | apply zz13 | apply zz14));exact HO_226001.out) hb);have n2_:=zz31 (zz11 (g:=gb216) (o:=.cells #[.int .i64 t211,.slice Ao13 t212.length co13] 32 (0,0)) (by (with_reducible repeat (first | refine zz6 ?_ _ | refine zz7 ?_ | refine zz8 ?_ _));exact BK216.out) hb);have n3_:=zz31 (zz11 (g:=gb225) (o:=.cells #[.int .i64 t220,.slice Ao20 t221.length co20] 32 (0,0)) (by (with_reducible repeat (first | refine zz6 ?_ _ | refine zz7 ?_ | refine zz8 ?_ _));exact BK225.out) hb);have n4_:=zz31 (zz4 (by repeat first | exact HB.out | apply zz2 | apply zz0 | apply zz1 | refine zz3 ?_ GE216.out | refine zz3 ?_ GE225.out) hb);clear HO_217001;clear HO_226001;clear BK216;clear BK225;clear HB;have HO_217001:=n0_;have HO_226001:=n1_;have BK216:=n2_;have BK225:=n3_;have HB:=n4_;clear n0_ n1_ n2_ n3_ n4_;(try clear hb);(try clear hb2);(try clear hk);(try clear hi)) | ((with_reducible refine gate_callee (f:=15) rfl ?_);refine goesL_ (some 72) rfl rfl Try.func15 (by kernel_rfl) rfl #[.slice A0 l0.length c0] rfl (by (try simp only [zz26,zz27,zz28]);first | done | rfl | (simp only [zz24,zz25];rfl)) ?_;(with_reducible refine (laws_toIntS.calls kj35 _ _ l0 t237 _ ?side1 ?side2 A61.out).mono ?_);(case side1=>repeat (first | exact (Kd.C_below HR0.out HB.out) | (with_reducible refine zz18 ?_ _) | (with_reducible refine zz19 ?_ _) | (with_reducible refine zz20 ?_)));(case side2=>exact HC0.out);rintro e w69 ⟨v238,rfl,ho0,hb⟩;refine ⟨_,rfl,?_⟩;have n0_:=zz31 (Kd.R_below (by (with_reducible repeat (first | apply zz12 | apply zz13 | apply zz14));exact HO_217001.out) hb);have n1_:=zz31 (Kd.R_below (by (with_reducible repeat (first | apply zz12 | apply zz13 | apply zz14));exact HO_226001.out) hb);have n2_:=zz31 (Kd.R_lower ho0 (zz5 (by repeat first | exact HB.out | apply zz2 | apply zz0 | apply zz1 | refine zz3 ?_ GE216.out | refine zz3 ?_ GE225.out)));have n3_:=zz31 (zz11 (g:=gb216) (o:=.cells #[.int .i64 t211,.slice Ao13 t212.length co13] 32 (0,0)) (by (with_reducible repeat (first | refine zz6 ?_ _ | refine zz7 ?_ | refine zz8 ?_ _));exact BK216.out) hb);have n4_:=zz31 (zz11 (g:=gb225) (o:=.cells #[.int .i64 t220,.slice Ao20 t221.length co20] 32 (0,0)) (by (with_reducible repeat (first | refine zz6 ?_ _ | refine zz7 ?_ | refine zz8 ?_ _));exact BK225.out) hb);have n5_:=zz31 (zz4 (by repeat first | exact HB.out | apply zz2 | apply zz0 | apply zz1 | refine zz3 ?_ GE216.out | refine zz3 ?_ GE225.out) hb);clear HO_217001;clear HO_226001;clear BK216;clear BK225;clear HB;have HO_217001:=n0_;have HO_226001:=n1_;have HO239:=n2_;have BK216:=n3_;have BK225:=n4_;have HB:=n5_;clear n0_ n1_ n2_ n3_ n4_ n5_;(try clear hb);(try clear hb2);(try clear hk);(try clear hi);(try clear ho0);obtain ⟨Ao70,co70,eo70⟩:=Kd.R_slice HO239.out;subst eo70) | ((with_reducible refine gate_callee (f:=27) rfl ?_);refine goesL_ (some 73) rfl rfl Try.func27 (by kernel_rfl) rfl #[.slice Ao70 t237.length co70] rfl (by (try simp only [zz26,zz27,zz28]);first | done | rfl | (simp only [zz24,zz25];rfl)) ?_;(with_reducible refine (impl_TreeOfNumbers.calls kj35 _ _ t237 t240 t241 t244 _ ?side1 ?side2 A62.out).mono ?_);(case side1=>repeat (first | exact (Kd.R_reads' HO239.out).2.2 | (with_reducible refine zz18 ?_ _) | (with_reducible refine zz19 ?_ _) | (with_reducible refine zz20 ?_)));(case side2=>exact (Kd.R_reads' HO239.out).2.1);rintro e w71 ⟨v242,rfl,ho0,hb⟩;refine ⟨_,rfl,?_⟩;have n0_:=zz31 (Kd.R_elder' (by (with_reducible repeat (first | apply zz12 | apply zz13 | apply zz14));exact HO_217001.out) (Kd.R_base ho0) hb);have n1_:=zz31 (Kd.R_elder' (by (with_reducible repeat (first | apply zz12 | apply zz13 | apply zz14));exact HO_226001.out) (Kd.R_base ho0) hb);have n2_:=zz31 (Kd.R_below (by (with_reducible repeat (first | apply zz12 | apply zz13 | apply zz14));exact HO239.out) hb);have n3_:=zz31 (Kd.R_lower (Kd.R_new' (Kd.R_new' ho0 (Kd.R_lt (by (with_reducible repeat (first | apply zz12 | apply zz13 | apply zz14));exact HO_217001.out))) (Kd.R_lt (by (with_reducible repeat (first | apply zz12 | apply zz13 | apply zz14));exact HO_226001.out))) (zz5 (by repeat first | exact HB.out | apply zz2 | apply zz0 | apply zz1 | refine zz3 ?_ GE216.out | refine zz3 ?_ GE225.out)));have n4_:=zz31 (zz11 (g:=gb216) (o:=.cells #[.int .i64 t211,.slice Ao13 t212.length co13] 32 (0,0)) (by (with_reducible repeat (first | refine zz6 ?_ _ | refine zz7 ?_ | refine zz8 ?_ _));exact BK216.out) hb);have n5_:=zz31 (zz11 (g:=gb225) (o:=.cells #[.int .i64 t220,.slice Ao20 t221.length co20] 32 (0,0)) (by (with_reducible repeat (first | refine zz6 ?_ _ | refine zz7 ?_ | refine zz8 ?_ _));exact BK225.out) hb);have n6_:=zz31 (zz4 (by repeat first | exact HB.out | apply zz2 | apply zz0 | apply zz1 | refine zz3 ?_ GE216.out | refine zz3 ?_ GE225.out) hb);clear HO_217001;clear HO_226001;clear HO239;clear BK216;clear BK225;clear HB;have HO_217001:=n0_;have HO_226001:=n1_;have HO239:=n2_;have HO243:=n3_;have BK216:=n4_;have BK225:=n5_;have HB:=n6_;clear n0_ n1_ n2_ n3_ n4_ n5_ n6_;(try clear hb);(try clear hb2);(try clear hk);(try clear hi);(try clear ho0)) | ((with_reducible refine gate_dst (N:=11) rfl ?_);refine box_event ?hg (N:=11) ?hd (cs:=#[.int .i64 0,.slice none 0 0]) (t:=32) ?hr ?_;(case hd=>rfl);(case hg=>rfl);(case hr=>first | (go_simp;done) | (go_simp;rfl));intro gb245 hg w72 hbox hb;have n0_:=zz31 (Kd.R_below (by (with_reducible repeat (first | apply zz12 | apply zz13 | apply zz14));exact HO_217001.out) hb);have n1_:=zz31 (Kd.R_below (by (with_reducible repeat (first | apply zz12 | apply zz13 | apply zz14));exact HO_226001.out) hb);have n2_:=zz31 (Kd.R_below (by (with_reducible repeat (first | apply zz12 | apply zz13 | apply zz14));exact HO239.out) hb);have n3_:=zz31 (Kd.R_below (by (with_reducible repeat (first | apply zz12 | apply zz13 | apply zz14));exact HO243.out) hb);have n4_:=zz31 (zz11 (g:=gb216) (o:=.cells #[.int .i64 t211,.slice Ao13 t212.length co13] 32 (0,0)) (by (with_reducible repeat (first | refine zz6 ?_ _ | refine zz7 ?_ | refine zz8 ?_ _));exact BK216.out) hb);have n5_:=zz31 (zz11 (g:=gb225) (o:=.cells #[.int .i64 t220,.slice Ao20 t221.length co20] 32 (0,0)) (by (with_reducible repeat (first | refine zz6 ?_ _ | refine zz7 ?_ | refine zz8 ?_ _));exact BK225.out) hb);have n6_:=zz31 (zz4 (by repeat first | exact HB.out | apply zz2 | apply zz0 | apply zz1 | refine zz3 ?_ GE216.out | refine zz3 ?_ GE225.out) hb);have n7_:=zz31 (hbox);have n8_:=zz31 ((by rw [hg];exact (zz5 (by repeat first | exact HB.out | apply zz2 | apply zz0 | apply zz1 | refine zz3 ?_ GE216.out | refine zz3 ?_ GE225.out)):w.heap.size≤gb245));have n9_:=zz31 ((by rw [hg];exact (zz5 (by repeat first | exact HB.out | apply zz2 | apply zz0 | apply zz1 | refine zz3 ?_ GE216.out | refine zz3 ?_ GE225.out)):w.heap.size≤gb245));have n10_:=zz31 ((by rw [hg];exact Nat.ne_of_lt (blk_lt (g:=gb216) (o:=.cells #[.int .i64 t211,.slice Ao13 t212.length co13] 32 (0,0)) (by (with_reducible repeat (first | refine zz6 ?_ _ | refine zz7 ?_ | refine zz8 ?_ _));exact BK216.out)):gb216 ≠ gb245));have n11_:=zz31 ((by rw [hg];exact Nat.ne_of_gt (blk_lt (g:=gb216) (o:=.cells #[.int .i64 t211,.slice Ao13 t212.length co13] 32 (0,0)) (by (with_reducible repeat (first | refine zz6 ?_ _ | refine zz7 ?_ | refine zz8 ?_ _));exact BK216.out)):gb245 ≠ gb216));have n12_:=zz31 ((by rw [hg];exact Nat.ne_of_lt (blk_lt (g:=gb225) (o:=.cells #[.int .i64 t220,.slice Ao20 t221.length co20] 32 (0,0)) (by (with_reducible repeat (first | refine zz6 ?_ _ | refine zz7 ?_ | refine zz8 ?_ _));exact BK225.out)):gb225 ≠ gb245));have n13_:=zz31 ((by rw [hg];exact Nat.ne_of_gt (blk_lt (g:=gb225) (o:=.cells #[.int .i64 t220,.slice Ao20 t221.length co20] 32 (0,0)) (by (with_reducible repeat (first | refine zz6 ?_ _ | refine zz7 ?_ | refine zz8 ?_ _));exact BK225.out)):gb245 ≠ gb225));clear HO_217001;clear HO_226001;clear HO239;clear HO243;clear BK216;clear BK225;clear HB;have HO_217001:=n0_;have HO_226001:=n1_;have HO239:=n2_;have HO243:=n3_;have BK216:=n4_;have BK225:=n5_;have HB:=n6_;have BK245:=n7_;have GW245:=n8_;have GE245:=n9_;have NB216_245:=n10_;have NB245_216:=n11_;have NB225_245:=n12_;have NB245_225:=n13_;clear n0_ n1_ n2_ n3_ n4_ n5_ n6_ n7_ n8_ n9_ n10_ n11_ n12_ n13_;clear hb hbox hg;have hnb73:=NB245_216.out;have hnc73:=NB216_245.out;have hnb74:=NB245_225.out;have hnc74:=NB225_245.out;have hcz75_0:w72.cell? ⟨gb245,0,none⟩=some (.int .i64 0):=(zz9 BK245.out 0).trans rfl;have hcz75_1:w72.cell? ⟨gb245,1,none⟩=some (.slice none 0 0):=(zz9 BK245.out 1).trans rfl;have hfz75_0:=zz10 BK245.out 0;have hfz75_1:=zz10 BK245.out 1;obtain ⟨Ao76,co76,eo76⟩:=Kd.R_slice HO243.out;subst eo76))
           (try simp only [Act.put,zz21,zz22,zz23])
           go_cut [84] (fun v84 wc=>∃ (kq:Nat) (x84_62:Bool),v84=.bool x84_62∧Aside0 (laws_FnExactTreeOfNumbers.j2 kq t234 x84_62 t220 t235=some r)∧Aside0 (kq≤kj35)∧Aside0 (Kd.R k80 80 wc w.heap.size (fun k_=>some k_ ≠ ((.slice Ao20 t221.length co20):Value).ownBlock∧some k_ ≠ ((.slice Ao76 t241.length co76):Value).ownBlock) (.slice Ao13 t212.length co13) t212)∧Aside0 (Kd.R k80 80 wc w.heap.size (fun k_=>some k_ ≠ ((.slice Ao13 t212.length co13):Value).ownBlock∧some k_ ≠ ((.slice Ao76 t241.length co76):Value).ownBlock) (.slice Ao20 t221.length co20) t235)∧Aside0 (Kd.R k80 80 wc w.heap.size (fun k_=>some k_ ≠ ((.slice Ao13 t212.length co13):Value).ownBlock∧some k_ ≠ ((.slice Ao20 t221.length co20):Value).ownBlock) (.slice Ao76 t241.length co76) t241)∧Aside0 (wc.heap[gb216]?=some (.cells #[.int .i64 t211,(.slice Ao13 t212.length co13)] 32 (0,0)))∧Aside0 (wc.heap[gb225]?=some (.cells #[.int .i64 t220,(.slice Ao20 t221.length co20)] 32 (0,0)))∧Aside0 (wc.heap[gb245]?=some (.cells #[.int .i64 t240,(.slice Ao76 t241.length co76)] 32 (0,0)))∧Aside0 (Below w.heap.size w wc))
           case first =>
            have H:=HC63.out
            clear HC63
            replace H:=zz30.mp H
            obtain ⟨t246,A770,H⟩:=H
            replace H:(if t246=true then (laws_FnExactTreeOfNumbers.j2 kj35 t234 (t244 != t215) t220 t235) else (laws_FnExactTreeOfNumbers.j2 kj35 t234 true t220 t235))=some r:=H
            have A77:=zz31 A770
            clear A770
            by_cases c78:t246=true
            ·subst c78
             have H1:(laws_FnExactTreeOfNumbers.j2 kj35 t234 (t244 != t215) t220 t235)=some r:=by rw [if_pos rfl] at H;exact H
             clear H
             have H:=H1
             clear H1
             have H':=zz31 H
             clear H
             have hnb79:=NB245_216.out
             have hnc79:=NB216_245.out
             have hnb80:=NB245_225.out
             have hnc80:=NB225_245.out
             have hcz81_0:w72.cell? ⟨gb245,0,none⟩=some (.int .i64 0):=(zz9 BK245.out 0).trans rfl
             have hcz81_1:w72.cell? ⟨gb245,1,none⟩=some (.slice none 0 0):=(zz9 BK245.out 1).trans rfl
             have hfz81_0:=zz10 BK245.out 0
             have hfz81_1:=zz10 BK245.out 1
             have hnb82:=NB216_225.out
             have hnc82:=NB225_216.out
             have hcz83_0:w72.cell? ⟨gb216,0,none⟩=some (.int .i64 t211):=(zz9 BK216.out 0).trans rfl
             have hcz83_1:w72.cell? ⟨gb216,1,none⟩=some (.slice Ao13 t212.length co13):=(zz9 BK216.out 1).trans rfl
             have hfz83_0:=zz10 BK216.out 0
             have hfz83_1:=zz10 BK216.out 1
             go_wp2_with (first | ((with_reducible refine gate_callee (f:=22) rfl ?_);refine goesL_ (some 78) rfl rfl Try.func22 (by kernel_rfl) rfl #[.agg #[.int .i64 t240,.slice Ao76 t241.length co76],.agg #[.int .i64 t211,.slice Ao13 t212.length co13]] rfl (by (try simp only [zz26,zz27,zz28]);first | done | rfl | (simp only [zz24,zz25];rfl)) ?_;(with_reducible refine (laws_eqParty.calls kj35 t240 _ _ t241 t211 _ _ t212 true _ ?side1 ?side2 ?side3 ?side4 A77.out).mono ?_);(case side1=>refine (Kd.R_reads' (e:=80) (base:=w.heap.size) (ok:=fun k_=>((True∧some k_ ≠ (.slice Ao13 t212.length co13:Value).ownBlock)∧some k_ ≠ (.slice Ao20 t221.length co20:Value).ownBlock)) (n:=t241.length) (c:=co76) ?_).2.2;exact (by (with_reducible repeat (first | apply zz12 | apply zz13 | apply zz14));exact (Kd.R_mono (Kd.R_far (p:=⟨gb245,1,none⟩) (Kd.R_far (p:=⟨gb245,0,none⟩) (Kd.R_types HO243.out BK245.out (by decide)) (fun _ hk=>hk.2) (.int .i64 t240)) (fun _ hk=>hk.2) (.slice Ao76 t241.length co76)) (fun _ h_=>h_.1))));(case side2=>exact (Kd.R_reads' HO243.out).2.1);(case side3=>refine (Kd.R_reads' (e:=80) (base:=w.heap.size) (ok:=fun k_=>(some k_ ≠ (.slice Ao20 t221.length co20:Value).ownBlock∧some k_ ≠ (.slice Ao76 t241.length co76:Value).ownBlock)) (n:=t212.length) (c:=co13) ?_).2.2;exact (by (with_reducible repeat (first | apply zz12 | apply zz13 | apply zz14));exact (Kd.R_mono (Kd.R_far (p:=⟨gb245,1,none⟩) (Kd.R_far (p:=⟨gb245,0,none⟩) (Kd.R_types HO_217001.out BK245.out (by decide)) (fun _ hk=>hk.2) (.int .i64 t240)) (fun _ hk=>hk.2) (.slice Ao76 t241.length co76)) (fun _ h_=>h_.1))));(case side4=>exact (Kd.R_reads' HO_217001.out).2.1);rintro e w84 ⟨rfl,hb⟩;refine ⟨_,rfl,?_⟩;have n0_:=zz31 (Kd.R_below (by (with_reducible repeat (first | apply zz12 | apply zz13 | apply zz14));exact (Kd.R_mono (Kd.R_far (p:=⟨gb245,1,none⟩) (Kd.R_far (p:=⟨gb245,0,none⟩) (Kd.R_types HO_217001.out BK245.out (by decide)) (fun _ hk=>hk.2) (.int .i64 t240)) (fun _ hk=>hk.2) (.slice Ao76 t241.length co76)) (fun _ h_=>h_.1))) hb);have n1_:=zz31 (Kd.R_below (by (with_reducible repeat (first | apply zz12 | apply zz13 | apply zz14));exact (Kd.R_mono (Kd.R_far (p:=⟨gb245,1,none⟩) (Kd.R_far (p:=⟨gb245,0,none⟩) (Kd.R_types HO_226001.out BK245.out (by decide)) (fun _ hk=>hk.2) (.int .i64 t240)) (fun _ hk=>hk.2) (.slice Ao76 t241.length co76)) (fun _ h_=>h_.1))) hb);have n2_:=zz31 (Kd.R_below (by (with_reducible repeat (first | apply zz12 | apply zz13 | apply zz14));exact (Kd.R_mono (Kd.R_far (p:=⟨gb245,1,none⟩) (Kd.R_far (p:=⟨gb245,0,none⟩) (Kd.R_types HO239.out BK245.out (by decide)) (fun _ hk=>hk.2) (.int .i64 t240)) (fun _ hk=>hk.2) (.slice Ao76 t241.length co76)) (fun _ h_=>h_.1))) hb);have n3_:=zz31 (Kd.R_below (by (with_reducible repeat (first | apply zz12 | apply zz13 | apply zz14));exact (Kd.R_mono (Kd.R_far (p:=⟨gb245,1,none⟩) (Kd.R_far (p:=⟨gb245,0,none⟩) (Kd.R_types HO243.out BK245.out (by decide)) (fun _ hk=>hk.2) (.int .i64 t240)) (fun _ hk=>hk.2) (.slice Ao76 t241.length co76)) (fun _ h_=>h_.1))) hb);have n4_:=zz31 (zz11 (g:=gb216) (o:=.cells #[.int .i64 t211,.slice Ao13 t212.length co13] 32 (0,0)) (by (with_reducible repeat (first | refine zz6 ?_ _ | refine zz7 ?_ | refine zz8 ?_ _));refine blk_far ?_ NB216_245.out _;(with_reducible repeat (first | refine zz6 ?_ _ | refine zz7 ?_ | refine zz8 ?_ _));refine blk_far ?_ NB216_245.out _;(with_reducible repeat (first | refine zz6 ?_ _ | refine zz7 ?_ | refine zz8 ?_ _));exact BK216.out) hb);have n5_:=zz31 (zz11 (g:=gb225) (o:=.cells #[.int .i64 t220,.slice Ao20 t221.length co20] 32 (0,0)) (by (with_reducible repeat (first | refine zz6 ?_ _ | refine zz7 ?_ | refine zz8 ?_ _));refine blk_far ?_ NB225_245.out _;(with_reducible repeat (first | refine zz6 ?_ _ | refine zz7 ?_ | refine zz8 ?_ _));refine blk_far ?_ NB225_245.out _;(with_reducible repeat (first | refine zz6 ?_ _ | refine zz7 ?_ | refine zz8 ?_ _));exact BK225.out) hb);have n6_:=zz31 (zz11 (g:=gb245) (o:=.cells #[.int .i64 t240,.slice Ao76 t241.length co76] 32 (0,0)) (by (with_reducible repeat (first | refine zz6 ?_ _ | refine zz7 ?_ | refine zz8 ?_ _));refine blk_put (cs:=#[.int .i64 t240,.slice none 0 0]) ?_ 1 _ rfl;(with_reducible repeat (first | refine zz6 ?_ _ | refine zz7 ?_ | refine zz8 ?_ _));refine blk_put (cs:=#[.int .i64 0,.slice none 0 0]) ?_ 0 _ rfl;(with_reducible repeat (first | refine zz6 ?_ _ | refine zz7 ?_ | refine zz8 ?_ _));exact BK245.out) hb);have n7_:=zz31 (zz4 (by repeat first | exact HB.out | apply zz2 | apply zz0 | apply zz1 | refine zz3 ?_ GE216.out | refine zz3 ?_ GE225.out | refine zz3 ?_ GE245.out) hb);clear HO_217001;clear HO_226001;clear HO239;clear HO243;clear BK216;clear BK225;clear BK245;clear HB;have HO_217001:=n0_;have HO_226001:=n1_;have HO239:=n2_;have HO243:=n3_;have BK216:=n4_;have BK225:=n5_;have BK245:=n6_;have HB:=n7_;clear n0_ n1_ n2_ n3_ n4_ n5_ n6_ n7_;(try clear hb);(try clear hb2);(try clear hk);(try clear hi)))
             go_meet
             case rel=>exact ⟨_,((t244 != t215)),(by first | rfl | (simp;done) | (simp [*];done)),H',⟨by have:=HJ6.out;have:=HJ35.out;first | omega | exact Nat.le_refl _⟩,⟨by (with_reducible repeat (first | apply zz12 | apply zz13 | apply zz14));exact HO_217001.out⟩,⟨by (with_reducible repeat (first | apply zz12 | apply zz13 | apply zz14));exact HO_226001.out⟩,⟨by (with_reducible repeat (first | apply zz12 | apply zz13 | apply zz14));exact Kd.R_mono HO243.out (fun _ hk=>⟨hk.1.2,hk.2⟩)⟩,⟨by (with_reducible repeat (first | refine zz6 ?_ _ | refine zz7 ?_ | refine zz8 ?_ _));exact BK216.out⟩,⟨by (with_reducible repeat (first | refine zz6 ?_ _ | refine zz7 ?_ | refine zz8 ?_ _));exact BK225.out⟩,⟨by (with_reducible repeat (first | refine zz6 ?_ _ | refine zz7 ?_ | refine zz8 ?_ _));exact BK245.out⟩,⟨by repeat first | exact HB.out | apply zz2 | apply zz0 | apply zz1 | refine zz3 ?_ GE216.out | refine zz3 ?_ GE225.out | refine zz3 ?_ GE245.out⟩⟩
            ·replace c78:=Bool.eq_false_iff.mpr c78
             subst c78
             have H1:(laws_FnExactTreeOfNumbers.j2 kj35 t234 true t220 t235)=some r:=by rw [if_neg (show ¬ (false=true) by decide)] at H;exact H
             clear H
             have H:=H1
             clear H1
             have H':=zz31 H
             clear H
             have hnb85:=NB245_216.out
             have hnc85:=NB216_245.out
             have hnb86:=NB245_225.out
             have hnc86:=NB225_245.out
             have hcz87_0:w72.cell? ⟨gb245,0,none⟩=some (.int .i64 0):=(zz9 BK245.out 0).trans rfl
             have hcz87_1:w72.cell? ⟨gb245,1,none⟩=some (.slice none 0 0):=(zz9 BK245.out 1).trans rfl
             have hfz87_0:=zz10 BK245.out 0
             have hfz87_1:=zz10 BK245.out 1
             have hnb88:=NB216_225.out
             have hnc88:=NB225_216.out
             have hcz89_0:w72.cell? ⟨gb216,0,none⟩=some (.int .i64 t211):=(zz9 BK216.out 0).trans rfl
             have hcz89_1:w72.cell? ⟨gb216,1,none⟩=some (.slice Ao13 t212.length co13):=(zz9 BK216.out 1).trans rfl
             have hfz89_0:=zz10 BK216.out 0
             have hfz89_1:=zz10 BK216.out 1
             go_wp2_with (first | ((with_reducible refine gate_callee (f:=22) rfl ?_);refine goesL_ (some 78) rfl rfl Try.func22 (by kernel_rfl) rfl #[.agg #[.int .i64 t240,.slice Ao76 t241.length co76],.agg #[.int .i64 t211,.slice Ao13 t212.length co13]] rfl (by (try simp only [zz26,zz27,zz28]);first | done | rfl | (simp only [zz24,zz25];rfl)) ?_;(with_reducible refine (laws_eqParty.calls kj35 t240 _ _ t241 t211 _ _ t212 false _ ?side1 ?side2 ?side3 ?side4 A77.out).mono ?_);(case side1=>refine (Kd.R_reads' (e:=80) (base:=w.heap.size) (ok:=fun k_=>((True∧some k_ ≠ (.slice Ao13 t212.length co13:Value).ownBlock)∧some k_ ≠ (.slice Ao20 t221.length co20:Value).ownBlock)) (n:=t241.length) (c:=co76) ?_).2.2;exact (by (with_reducible repeat (first | apply zz12 | apply zz13 | apply zz14));exact (Kd.R_mono (Kd.R_far (p:=⟨gb245,1,none⟩) (Kd.R_far (p:=⟨gb245,0,none⟩) (Kd.R_types HO243.out BK245.out (by decide)) (fun _ hk=>hk.2) (.int .i64 t240)) (fun _ hk=>hk.2) (.slice Ao76 t241.length co76)) (fun _ h_=>h_.1))));(case side2=>exact (Kd.R_reads' HO243.out).2.1);(case side3=>refine (Kd.R_reads' (e:=80) (base:=w.heap.size) (ok:=fun k_=>(some k_ ≠ (.slice Ao20 t221.length co20:Value).ownBlock∧some k_ ≠ (.slice Ao76 t241.length co76:Value).ownBlock)) (n:=t212.length) (c:=co13) ?_).2.2;exact (by (with_reducible repeat (first | apply zz12 | apply zz13 | apply zz14));exact (Kd.R_mono (Kd.R_far (p:=⟨gb245,1,none⟩) (Kd.R_far (p:=⟨gb245,0,none⟩) (Kd.R_types HO_217001.out BK245.out (by decide)) (fun _ hk=>hk.2) (.int .i64 t240)) (fun _ hk=>hk.2) (.slice Ao76 t241.length co76)) (fun _ h_=>h_.1))));(case side4=>exact (Kd.R_reads' HO_217001.out).2.1);rintro e w90 ⟨rfl,hb⟩;refine ⟨_,rfl,?_⟩;have n0_:=zz31 (Kd.R_below (by (with_reducible repeat (first | apply zz12 | apply zz13 | apply zz14));exact (Kd.R_mono (Kd.R_far (p:=⟨gb245,1,none⟩) (Kd.R_far (p:=⟨gb245,0,none⟩) (Kd.R_types HO_217001.out BK245.out (by decide)) (fun _ hk=>hk.2) (.int .i64 t240)) (fun _ hk=>hk.2) (.slice Ao76 t241.length co76)) (fun _ h_=>h_.1))) hb);have n1_:=zz31 (Kd.R_below (by (with_reducible repeat (first | apply zz12 | apply zz13 | apply zz14));exact (Kd.R_mono (Kd.R_far (p:=⟨gb245,1,none⟩) (Kd.R_far (p:=⟨gb245,0,none⟩) (Kd.R_types HO_226001.out BK245.out (by decide)) (fun _ hk=>hk.2) (.int .i64 t240)) (fun _ hk=>hk.2) (.slice Ao76 t241.length co76)) (fun _ h_=>h_.1))) hb);have n2_:=zz31 (Kd.R_below (by (with_reducible repeat (first | apply zz12 | apply zz13 | apply zz14));exact (Kd.R_mono (Kd.R_far (p:=⟨gb245,1,none⟩) (Kd.R_far (p:=⟨gb245,0,none⟩) (Kd.R_types HO239.out BK245.out (by decide)) (fun _ hk=>hk.2) (.int .i64 t240)) (fun _ hk=>hk.2) (.slice Ao76 t241.length co76)) (fun _ h_=>h_.1))) hb);have n3_:=zz31 (Kd.R_below (by (with_reducible repeat (first | apply zz12 | apply zz13 | apply zz14));exact (Kd.R_mono (Kd.R_far (p:=⟨gb245,1,none⟩) (Kd.R_far (p:=⟨gb245,0,none⟩) (Kd.R_types HO243.out BK245.out (by decide)) (fun _ hk=>hk.2) (.int .i64 t240)) (fun _ hk=>hk.2) (.slice Ao76 t241.length co76)) (fun _ h_=>h_.1))) hb);have n4_:=zz31 (zz11 (g:=gb216) (o:=.cells #[.int .i64 t211,.slice Ao13 t212.length co13] 32 (0,0)) (by (with_reducible repeat (first | refine zz6 ?_ _ | refine zz7 ?_ | refine zz8 ?_ _));refine blk_far ?_ NB216_245.out _;(with_reducible repeat (first | refine zz6 ?_ _ | refine zz7 ?_ | refine zz8 ?_ _));refine blk_far ?_ NB216_245.out _;(with_reducible repeat (first | refine zz6 ?_ _ | refine zz7 ?_ | refine zz8 ?_ _));exact BK216.out) hb);have n5_:=zz31 (zz11 (g:=gb225) (o:=.cells #[.int .i64 t220,.slice Ao20 t221.length co20] 32 (0,0)) (by (with_reducible repeat (first | refine zz6 ?_ _ | refine zz7 ?_ | refine zz8 ?_ _));refine blk_far ?_ NB225_245.out _;(with_reducible repeat (first | refine zz6 ?_ _ | refine zz7 ?_ | refine zz8 ?_ _));refine blk_far ?_ NB225_245.out _;(with_reducible repeat (first | refine zz6 ?_ _ | refine zz7 ?_ | refine zz8 ?_ _));exact BK225.out) hb);have n6_:=zz31 (zz11 (g:=gb245) (o:=.cells #[.int .i64 t240,.slice Ao76 t241.length co76] 32 (0,0)) (by (with_reducible repeat (first | refine zz6 ?_ _ | refine zz7 ?_ | refine zz8 ?_ _));refine blk_put (cs:=#[.int .i64 t240,.slice none 0 0]) ?_ 1 _ rfl;(with_reducible repeat (first | refine zz6 ?_ _ | refine zz7 ?_ | refine zz8 ?_ _));refine blk_put (cs:=#[.int .i64 0,.slice none 0 0]) ?_ 0 _ rfl;(with_reducible repeat (first | refine zz6 ?_ _ | refine zz7 ?_ | refine zz8 ?_ _));exact BK245.out) hb);have n7_:=zz31 (zz4 (by repeat first | exact HB.out | apply zz2 | apply zz0 | apply zz1 | refine zz3 ?_ GE216.out | refine zz3 ?_ GE225.out | refine zz3 ?_ GE245.out) hb);clear HO_217001;clear HO_226001;clear HO239;clear HO243;clear BK216;clear BK225;clear BK245;clear HB;have HO_217001:=n0_;have HO_226001:=n1_;have HO239:=n2_;have HO243:=n3_;have BK216:=n4_;have BK225:=n5_;have BK245:=n6_;have HB:=n7_;clear n0_ n1_ n2_ n3_ n4_ n5_ n6_ n7_;(try clear hb);(try clear hb2);(try clear hk);(try clear hi)))
             go_meet
             case rel=>exact ⟨_,(true),(by first | rfl | (simp;done) | (simp [*];done)),H',⟨by have:=HJ6.out;have:=HJ35.out;first | omega | exact Nat.le_refl _⟩,⟨by (with_reducible repeat (first | apply zz12 | apply zz13 | apply zz14));exact HO_217001.out⟩,⟨by (with_reducible repeat (first | apply zz12 | apply zz13 | apply zz14));exact HO_226001.out⟩,⟨by (with_reducible repeat (first | apply zz12 | apply zz13 | apply zz14));exact Kd.R_mono HO243.out (fun _ hk=>⟨hk.1.2,hk.2⟩)⟩,⟨by (with_reducible repeat (first | refine zz6 ?_ _ | refine zz7 ?_ | refine zz8 ?_ _));exact BK216.out⟩,⟨by (with_reducible repeat (first | refine zz6 ?_ _ | refine zz7 ?_ | refine zz8 ?_ _));exact BK225.out⟩,⟨by (with_reducible repeat (first | refine zz6 ?_ _ | refine zz7 ?_ | refine zz8 ?_ _));exact BK245.out⟩,⟨by repeat first | exact HB.out | apply zz2 | apply zz0 | apply zz1 | refine zz3 ?_ GE216.out | refine zz3 ?_ GE225.out | refine zz3 ?_ GE245.out⟩⟩
           case rest =>
            clear HC63
            try clear c1
            try clear c2
            try clear c2b0
            try clear c2b1
            try clear p2
            try clear c3
            try clear c4
            try clear c5
            try clear c6
            try clear c7
            try clear c8
            try clear c15
            try clear c17
            try clear c18
            try clear c22
            try clear c23
            try clear c24
            try clear c25
            try clear c26
            try clear c27
            try clear c31
            try clear c34
            try clear c40
            try clear c40b0
            try clear c42
            try clear c43
            try clear c47
            try clear c51
            try clear c54
            try clear c54b0
            try clear c55
            try clear c60
            try clear c60b0
            try clear c60b1
            try clear c64
            try clear c73
            try clear c74
            try clear c78
            try clear c79
            try clear c80
            try clear c82
            try clear c85
            try clear c86
            try clear c88
            try clear hcz12_0
            try clear hcz12_1
            try clear hcz19_0
            try clear hcz19_1
            try clear hcz24_0
            try clear hcz24_1
            try clear hcz25_0
            try clear hcz25_1
            try clear hcz28_0
            try clear hcz28_1
            try clear hcz29_0
            try clear hcz29_1
            try clear hcz44_0
            try clear hcz44_1
            try clear hcz45_0
            try clear hcz45_1
            try clear hcz48_0
            try clear hcz48_1
            try clear hcz49_0
            try clear hcz49_1
            try clear hcz56_0
            try clear hcz56_1
            try clear hcz58_0
            try clear hcz58_1
            try clear hcz65_0
            try clear hcz65_1
            try clear hcz67_0
            try clear hcz67_1
            try clear hcz75_0
            try clear hcz75_1
            try clear hcz81_0
            try clear hcz81_1
            try clear hcz83_0
            try clear hcz83_1
            try clear hcz87_0
            try clear hcz87_1
            try clear hcz89_0
            try clear hcz89_1
            try clear hfz12_0
            try clear hfz12_1
            try clear hfz19_0
            try clear hfz19_1
            try clear hfz24_0
            try clear hfz24_1
            try clear hfz25_0
            try clear hfz25_1
            try clear hfz28_0
            try clear hfz28_1
            try clear hfz29_0
            try clear hfz29_1
            try clear hfz44_0
            try clear hfz44_1
            try clear hfz45_0
            try clear hfz45_1
            try clear hfz48_0
            try clear hfz48_1
            try clear hfz49_0
            try clear hfz49_1
            try clear hfz56_0
            try clear hfz56_1
            try clear hfz58_0
            try clear hfz58_1
            try clear hfz65_0
            try clear hfz65_1
            try clear hfz67_0
            try clear hfz67_1
            try clear hfz75_0
            try clear hfz75_1
            try clear hfz81_0
            try clear hfz81_1
            try clear hfz83_0
            try clear hfz83_1
            try clear hfz87_0
            try clear hfz87_1
            try clear hfz89_0
            try clear hfz89_1
            try clear p2
            obtain ⟨kq,x84_62,rfl,HA,HJ62,HO_217001,HO_226001,HO_246001,BK216,BK225,BK245,HB⟩:=hcut
            have hl226001_62:=(Kd.R_reads' HO_226001.out).1
            rw [hl226001_62] at HO_226001
            (try simp only [hl226001_62])
            (try simp only [hl226001_62] at BK216)
            (try simp only [hl226001_62] at BK225)
            (try simp only [hl226001_62] at BK245)
            (try simp only [hl226001_62] at HO_217001)
            (try simp only [hl226001_62] at HO_246001)
            cases kq with
            | zero=>exact absurd HA.out (by simp [laws_FnExactTreeOfNumbers.j2])
            | succ kj62 =>
             have H:=HA.out
             clear HA
             simp only [laws_FnExactTreeOfNumbers.j2] at H
             by_cases c91:x84_62=true
             ·subst c91
              have H1:(some false)=some r:=by rw [if_pos rfl] at H;exact H
              clear H
              have H:=H1
              clear H1
              obtain rfl:=Option.some.inj H
              go_wp2
              go_ret
              exact ⟨by first | rfl | (simp [errW_none,errW_some] <;> rfl) | (simp [*,errW_none,errW_some] <;> rfl),by repeat first | exact HB.out | apply zz2 | apply zz0 | apply zz1 | refine zz3 ?_ GE216.out | refine zz3 ?_ GE225.out | refine zz3 ?_ GE245.out⟩
             ·replace c91:=Bool.eq_false_iff.mpr c91
              subst c91
              have H1:((laws_heldParty.f kj62 t220 t235 1).bind fun t247=>(if t247 < 0 then (some false) else (if t247=t234 then (some true) else (some false))))=some r:=by rw [if_neg (show ¬ (false=true) by decide)] at H;exact H
              clear H
              have H:=H1
              clear H1
              replace H:=zz30.mp H
              obtain ⟨t247,A920,H⟩:=H
              replace H:(if t247 < 0 then (some false) else (if t247=t234 then (some true) else (some false)))=some r:=H
              have A92:=zz31 A920
              clear A920
              by_cases c93:t247 < 0
              ·rw [if_pos c93] at H
               have c93b0:decide (t247 < 0)=true:=decide_eq_true c93
               clear c93
               obtain rfl:=Option.some.inj H
               have hnb94:=NB225_216.out
               have hnc94:=NB216_225.out
               have hnb95:=NB225_245.out
               have hnc95:=NB245_225.out
               have hcz96_0:wc.cell? ⟨gb225,0,none⟩=some (.int .i64 t220):=(zz9 BK225.out 0).trans rfl
               have hcz96_1:wc.cell? ⟨gb225,1,none⟩=some (.slice Ao20 t235.length co20):=(zz9 BK225.out 1).trans rfl
               have hfz96_0:=zz10 BK225.out 0
               have hfz96_1:=zz10 BK225.out 1
               go_wp2_with (first | ((with_reducible refine gate_callee (f:=25) rfl ?_);refine goesL_ (some 87) rfl rfl Try.func25 (by kernel_rfl) rfl #[.agg #[.int .i64 t220,.slice Ao20 t235.length co20],.int .i64 1] rfl (by (try simp only [zz26,zz27,zz28]);first | done | rfl | (simp only [zz24,zz25];rfl)) ?_;(with_reducible refine (laws_heldParty.calls kj62 t220 _ _ t235 1 t247 _ ?side1 ?side2 A92.out).mono ?_);(case side1=>repeat (first | exact (Kd.R_reads' HO_226001.out).2.2 | (with_reducible refine zz18 ?_ _) | (with_reducible refine zz19 ?_ _) | (with_reducible refine zz20 ?_)));(case side2=>exact (Kd.R_reads' HO_226001.out).2.1);rintro e w97 ⟨rfl,hb⟩;refine ⟨_,rfl,?_⟩;have n0_:=zz31 (Kd.R_below (by (with_reducible repeat (first | apply zz12 | apply zz13 | apply zz14));exact HO_217001.out) hb);have n1_:=zz31 (Kd.R_below (by (with_reducible repeat (first | apply zz12 | apply zz13 | apply zz14));exact HO_226001.out) hb);have n2_:=zz31 (Kd.R_below (by (with_reducible repeat (first | apply zz12 | apply zz13 | apply zz14));exact HO_246001.out) hb);have n3_:=zz31 (zz11 (g:=gb216) (o:=.cells #[.int .i64 t211,.slice Ao13 t212.length co13] 32 (0,0)) (by (with_reducible repeat (first | refine zz6 ?_ _ | refine zz7 ?_ | refine zz8 ?_ _));exact BK216.out) hb);have n4_:=zz31 (zz11 (g:=gb225) (o:=.cells #[.int .i64 t220,.slice Ao20 t235.length co20] 32 (0,0)) (by (with_reducible repeat (first | refine zz6 ?_ _ | refine zz7 ?_ | refine zz8 ?_ _));exact BK225.out) hb);have n5_:=zz31 (zz11 (g:=gb245) (o:=.cells #[.int .i64 t240,.slice Ao76 t241.length co76] 32 (0,0)) (by (with_reducible repeat (first | refine zz6 ?_ _ | refine zz7 ?_ | refine zz8 ?_ _));exact BK245.out) hb);have n6_:=zz31 (zz4 (by repeat first | exact HB.out | apply zz2 | apply zz0 | apply zz1 | refine zz3 ?_ GE216.out | refine zz3 ?_ GE225.out | refine zz3 ?_ GE245.out) hb);clear HO_217001;clear HO_226001;clear HO_246001;clear BK216;clear BK225;clear BK245;clear HB;have HO_217001:=n0_;have HO_226001:=n1_;have HO_246001:=n2_;have BK216:=n3_;have BK225:=n4_;have BK245:=n5_;have HB:=n6_;clear n0_ n1_ n2_ n3_ n4_ n5_ n6_;(try clear hb);(try clear hb2);(try clear hk);(try clear hi)))
               go_ret
               exact ⟨by first | rfl | (simp [errW_none,errW_some] <;> rfl) | (simp [*,errW_none,errW_some] <;> rfl),by repeat first | exact HB.out | apply zz2 | apply zz0 | apply zz1 | refine zz3 ?_ GE216.out | refine zz3 ?_ GE225.out | refine zz3 ?_ GE245.out⟩
              ·rw [if_neg c93] at H
               have c93b0:decide (t247 < 0)=false:=decide_eq_false c93
               clear c93
               by_cases c98:t247=t234
               ·rw [if_pos c98] at H
                have c98b0:(t247 == t234)=true:=beq_iff_eq.mpr c98
                have c98b1:(t247 != t234)=false:=bne_eq_false_iff_eq.mpr c98
                clear c98
                obtain rfl:=Option.some.inj H
                have hnb99:=NB225_216.out
                have hnc99:=NB216_225.out
                have hnb100:=NB225_245.out
                have hnc100:=NB245_225.out
                have hcz101_0:wc.cell? ⟨gb225,0,none⟩=some (.int .i64 t220):=(zz9 BK225.out 0).trans rfl
                have hcz101_1:wc.cell? ⟨gb225,1,none⟩=some (.slice Ao20 t235.length co20):=(zz9 BK225.out 1).trans rfl
                have hfz101_0:=zz10 BK225.out 0
                have hfz101_1:=zz10 BK225.out 1
                go_wp2_with (first | ((with_reducible refine gate_callee (f:=25) rfl ?_);refine goesL_ (some 87) rfl rfl Try.func25 (by kernel_rfl) rfl #[.agg #[.int .i64 t220,.slice Ao20 t235.length co20],.int .i64 1] rfl (by (try simp only [zz26,zz27,zz28]);first | done | rfl | (simp only [zz24,zz25];rfl)) ?_;(with_reducible refine (laws_heldParty.calls kj62 t220 _ _ t235 1 t247 _ ?side1 ?side2 A92.out).mono ?_);(case side1=>repeat (first | exact (Kd.R_reads' HO_226001.out).2.2 | (with_reducible refine zz18 ?_ _) | (with_reducible refine zz19 ?_ _) | (with_reducible refine zz20 ?_)));(case side2=>exact (Kd.R_reads' HO_226001.out).2.1);rintro e w102 ⟨rfl,hb⟩;refine ⟨_,rfl,?_⟩;have n0_:=zz31 (Kd.R_below (by (with_reducible repeat (first | apply zz12 | apply zz13 | apply zz14));exact HO_217001.out) hb);have n1_:=zz31 (Kd.R_below (by (with_reducible repeat (first | apply zz12 | apply zz13 | apply zz14));exact HO_226001.out) hb);have n2_:=zz31 (Kd.R_below (by (with_reducible repeat (first | apply zz12 | apply zz13 | apply zz14));exact HO_246001.out) hb);have n3_:=zz31 (zz11 (g:=gb216) (o:=.cells #[.int .i64 t211,.slice Ao13 t212.length co13] 32 (0,0)) (by (with_reducible repeat (first | refine zz6 ?_ _ | refine zz7 ?_ | refine zz8 ?_ _));exact BK216.out) hb);have n4_:=zz31 (zz11 (g:=gb225) (o:=.cells #[.int .i64 t220,.slice Ao20 t235.length co20] 32 (0,0)) (by (with_reducible repeat (first | refine zz6 ?_ _ | refine zz7 ?_ | refine zz8 ?_ _));exact BK225.out) hb);have n5_:=zz31 (zz11 (g:=gb245) (o:=.cells #[.int .i64 t240,.slice Ao76 t241.length co76] 32 (0,0)) (by (with_reducible repeat (first | refine zz6 ?_ _ | refine zz7 ?_ | refine zz8 ?_ _));exact BK245.out) hb);have n6_:=zz31 (zz4 (by repeat first | exact HB.out | apply zz2 | apply zz0 | apply zz1 | refine zz3 ?_ GE216.out | refine zz3 ?_ GE225.out | refine zz3 ?_ GE245.out) hb);clear HO_217001;clear HO_226001;clear HO_246001;clear BK216;clear BK225;clear BK245;clear HB;have HO_217001:=n0_;have HO_226001:=n1_;have HO_246001:=n2_;have BK216:=n3_;have BK225:=n4_;have BK245:=n5_;have HB:=n6_;clear n0_ n1_ n2_ n3_ n4_ n5_ n6_;(try clear hb);(try clear hb2);(try clear hk);(try clear hi)))
                go_ret
                exact ⟨by first | rfl | (simp [errW_none,errW_some] <;> rfl) | (simp [*,errW_none,errW_some] <;> rfl),by repeat first | exact HB.out | apply zz2 | apply zz0 | apply zz1 | refine zz3 ?_ GE216.out | refine zz3 ?_ GE225.out | refine zz3 ?_ GE245.out⟩
               ·rw [if_neg c98] at H
                have c98b0:(t247 == t234)=false:=beq_eq_false_iff_ne.mpr c98
                have c98b1:(t247 != t234)=true:=bne_iff_ne.mpr c98
                obtain rfl:=Option.some.inj H
                have hnb103:=NB225_216.out
                have hnc103:=NB216_225.out
                have hnb104:=NB225_245.out
                have hnc104:=NB245_225.out
                have hcz105_0:wc.cell? ⟨gb225,0,none⟩=some (.int .i64 t220):=(zz9 BK225.out 0).trans rfl
                have hcz105_1:wc.cell? ⟨gb225,1,none⟩=some (.slice Ao20 t235.length co20):=(zz9 BK225.out 1).trans rfl
                have hfz105_0:=zz10 BK225.out 0
                have hfz105_1:=zz10 BK225.out 1
                go_wp2_with (first | ((with_reducible refine gate_callee (f:=25) rfl ?_);refine goesL_ (some 87) rfl rfl Try.func25 (by kernel_rfl) rfl #[.agg #[.int .i64 t220,.slice Ao20 t235.length co20],.int .i64 1] rfl (by (try simp only [zz26,zz27,zz28]);first | done | rfl | (simp only [zz24,zz25];rfl)) ?_;(with_reducible refine (laws_heldParty.calls kj62 t220 _ _ t235 1 t247 _ ?side1 ?side2 A92.out).mono ?_);(case side1=>repeat (first | exact (Kd.R_reads' HO_226001.out).2.2 | (with_reducible refine zz18 ?_ _) | (with_reducible refine zz19 ?_ _) | (with_reducible refine zz20 ?_)));(case side2=>exact (Kd.R_reads' HO_226001.out).2.1);rintro e w106 ⟨rfl,hb⟩;refine ⟨_,rfl,?_⟩;have n0_:=zz31 (Kd.R_below (by (with_reducible repeat (first | apply zz12 | apply zz13 | apply zz14));exact HO_217001.out) hb);have n1_:=zz31 (Kd.R_below (by (with_reducible repeat (first | apply zz12 | apply zz13 | apply zz14));exact HO_226001.out) hb);have n2_:=zz31 (Kd.R_below (by (with_reducible repeat (first | apply zz12 | apply zz13 | apply zz14));exact HO_246001.out) hb);have n3_:=zz31 (zz11 (g:=gb216) (o:=.cells #[.int .i64 t211,.slice Ao13 t212.length co13] 32 (0,0)) (by (with_reducible repeat (first | refine zz6 ?_ _ | refine zz7 ?_ | refine zz8 ?_ _));exact BK216.out) hb);have n4_:=zz31 (zz11 (g:=gb225) (o:=.cells #[.int .i64 t220,.slice Ao20 t235.length co20] 32 (0,0)) (by (with_reducible repeat (first | refine zz6 ?_ _ | refine zz7 ?_ | refine zz8 ?_ _));exact BK225.out) hb);have n5_:=zz31 (zz11 (g:=gb245) (o:=.cells #[.int .i64 t240,.slice Ao76 t241.length co76] 32 (0,0)) (by (with_reducible repeat (first | refine zz6 ?_ _ | refine zz7 ?_ | refine zz8 ?_ _));exact BK245.out) hb);have n6_:=zz31 (zz4 (by repeat first | exact HB.out | apply zz2 | apply zz0 | apply zz1 | refine zz3 ?_ GE216.out | refine zz3 ?_ GE225.out | refine zz3 ?_ GE245.out) hb);clear HO_217001;clear HO_226001;clear HO_246001;clear BK216;clear BK225;clear BK245;clear HB;have HO_217001:=n0_;have HO_226001:=n1_;have HO_246001:=n2_;have BK216:=n3_;have BK225:=n4_;have BK245:=n5_;have HB:=n6_;clear n0_ n1_ n2_ n3_ n4_ n5_ n6_;(try clear hb);(try clear hb2);(try clear hk);(try clear hi)))
                go_ret
                exact ⟨by first | rfl | (simp [errW_none,errW_some] <;> rfl) | (simp [*,errW_none,errW_some] <;> rfl),by repeat first | exact HB.out | apply zz2 | apply zz0 | apply zz1 | refine zz3 ?_ GE216.out | refine zz3 ?_ GE225.out | refine zz3 ?_ GE245.out⟩
          ·rw [if_neg c60] at H
           have c60b0:(t236 == t234)=false:=beq_eq_false_iff_ne.mpr c60
           have c60b1:(t236 != t234)=true:=bne_iff_ne.mpr c60
           obtain rfl:=Option.some.inj H
           have hnb107:=NB225_216.out
           have hnc107:=NB216_225.out
           have hcz108_0:wc.cell? ⟨gb225,0,none⟩=some (.int .i64 t220):=(zz9 BK225.out 0).trans rfl
           have hcz108_1:wc.cell? ⟨gb225,1,none⟩=some (.slice Ao20 t221.length co20):=(zz9 BK225.out 1).trans rfl
           have hfz108_0:=zz10 BK225.out 0
           have hfz108_1:=zz10 BK225.out 1
           go_wp2_with (first | ((with_reducible refine gate_callee (f:=24) rfl ?_);refine goesL_ (some 61) rfl rfl Try.func24 (by kernel_rfl) rfl #[.agg #[.int .i64 t220,.slice Ao20 t221.length co20],.int .i64 1] rfl (by (try simp only [zz26,zz27,zz28]);first | done | rfl | (simp only [zz24,zz25];rfl)) ?_;(with_reducible refine (laws_markParty.calls kj35 t220 (fun k_=>some k_=(.slice Ao20 t221.length co20:Value).ownBlock) (.slice Ao20 t221.length co20) t221 1 t234 t235 w _ ?side1 ?side2 A52.out).mono ?_);(case side1=>repeat first | exact HB.out | apply zz2 | apply zz0 | apply zz1 | refine zz3 ?_ GE216.out | refine zz3 ?_ GE225.out);(case side2=>exact Kd.R_tight rfl HO_226001.out);rintro e w109 ⟨rfl,hy0,hb,hkp⟩;refine ⟨_,rfl,?_⟩;have n0_:=zz31 (Kd.R_mono (ok':=fun k_=>some k_ ≠ (.slice Ao20 t221.length co20:Value).ownBlock) (Kd.R_keptB (HO_217001.out) hkp (fun k_ hk_ hs_=>(hk_) hs_)) (fun k_ hk_=>hk_.1));have n1_:=zz31 (Kd.R_reok rfl hy0 (fun k_ e_=>HO_226001.out.1 k_ e_));(first | have n2_:=zz31 (blk_kept BK216.out hkp (fun hs_=>(fun e_=>(Kd.R_ne HO_226001.out BK216.out (by decide)) e_) hs_)) | have n2_:=zz31 (blk_kept (by (with_reducible repeat (first | refine zz6 ?_ _ | refine zz7 ?_ | refine zz8 ?_ _));exact BK216.out) hkp (fun hs_=>(fun e_=>(Kd.R_ne HO_226001.out BK216.out (by decide)) e_) hs_)));(first | have n3_:=zz31 (blk_kept BK225.out hkp (fun hs_=>(fun e_=>(Kd.R_ne HO_226001.out BK225.out (by decide)) e_) hs_)) | have n3_:=zz31 (blk_kept (by (with_reducible repeat (first | refine zz6 ?_ _ | refine zz7 ?_ | refine zz8 ?_ _));exact BK225.out) hkp (fun hs_=>(fun e_=>(Kd.R_ne HO_226001.out BK225.out (by decide)) e_) hs_)));have n4_:=zz31 (hb);clear HO_217001;clear HO_226001;clear BK216;clear BK225;clear HB;have HO_217001:=n0_;have HO_226001:=n1_;have BK216:=n2_;have BK225:=n3_;have HB:=n4_;clear n0_ n1_ n2_ n3_ n4_;(try clear hb);(try clear hkp);(try clear hy0);have hcz110_0:w109.cell? ⟨gb225,0,none⟩=some (.int .i64 t220):=(zz9 BK225.out 0).trans rfl;have hcz110_1:w109.cell? ⟨gb225,1,none⟩=some (.slice Ao20 t221.length co20):=(zz9 BK225.out 1).trans rfl;have hfz110_0:=zz10 BK225.out 0;have hfz110_1:=zz10 BK225.out 1) | ((with_reducible refine gate_callee (f:=25) rfl ?_);refine goesL_ (some 64) rfl rfl Try.func25 (by kernel_rfl) rfl #[.agg #[.int .i64 t220,.slice Ao20 t235.length co20],.int .i64 1] rfl (by (try simp only [zz26,zz27,zz28]);first | done | (rw [show t235.length=t221.length from (Kd.R_reads' HO_226001.out).1.symm] <;> rfl) | rfl | (simp only [zz24,zz25];rfl)) ?_;(with_reducible refine (laws_heldParty.calls kj35 t220 _ _ t235 1 t236 _ ?side1 ?side2 A53.out).mono ?_);(case side1=>repeat (first | exact (Kd.R_reads' HO_226001.out).2.2 | (with_reducible refine zz18 ?_ _) | (with_reducible refine zz19 ?_ _) | (with_reducible refine zz20 ?_)));(case side2=>rw [show t235.length=t221.length from (Kd.R_reads' HO_226001.out).1.symm];exact (Kd.R_reads' HO_226001.out).2.1);rintro e w111 ⟨rfl,hb⟩;refine ⟨_,rfl,?_⟩;have n0_:=zz31 (Kd.R_below (by (with_reducible repeat (first | apply zz12 | apply zz13 | apply zz14));exact HO_217001.out) hb);have n1_:=zz31 (Kd.R_below (by (with_reducible repeat (first | apply zz12 | apply zz13 | apply zz14));exact HO_226001.out) hb);have n2_:=zz31 (zz11 (g:=gb216) (o:=.cells #[.int .i64 t211,.slice Ao13 t212.length co13] 32 (0,0)) (by (with_reducible repeat (first | refine zz6 ?_ _ | refine zz7 ?_ | refine zz8 ?_ _));exact BK216.out) hb);have n3_:=zz31 (zz11 (g:=gb225) (o:=.cells #[.int .i64 t220,.slice Ao20 t221.length co20] 32 (0,0)) (by (with_reducible repeat (first | refine zz6 ?_ _ | refine zz7 ?_ | refine zz8 ?_ _));exact BK225.out) hb);have n4_:=zz31 (zz4 (by repeat first | exact HB.out | apply zz2 | apply zz0 | apply zz1 | refine zz3 ?_ GE216.out | refine zz3 ?_ GE225.out) hb);clear HO_217001;clear HO_226001;clear BK216;clear BK225;clear HB;have HO_217001:=n0_;have HO_226001:=n1_;have BK216:=n2_;have BK225:=n3_;have HB:=n4_;clear n0_ n1_ n2_ n3_ n4_;(try clear hb);(try clear hb2);(try clear hk);(try clear hi)))
           go_ret
           exact ⟨by first | rfl | (simp [errW_none,errW_some] <;> rfl) | (simp [*,errW_none,errW_some] <;> rfl),by repeat first | exact HB.out | apply zz2 | apply zz0 | apply zz1 | refine zz3 ?_ GE216.out | refine zz3 ?_ GE225.out⟩
     ·replace c34:=Bool.eq_false_iff.mpr c34
      subst c34
      have H1:(some false)=some r:=by rw [if_neg (show ¬ (false=true) by decide)] at H;exact H
      clear H
      have H:=H1
      clear H1
      obtain rfl:=Option.some.inj H
      go_wp2_with (first | ((with_reducible refine gate_callee (f:=15) rfl ?_);refine goesL_ (some 40) rfl rfl Try.func15 (by kernel_rfl) rfl #[.slice A0 l0.length c0] rfl (by (try simp only [zz26,zz27,zz28]);first | done | rfl | (simp only [zz24,zz25];rfl)) ?_;(with_reducible refine (laws_toIntS.calls kj6 _ _ l0 t227 _ ?side1 ?side2 A32.out).mono ?_);(case side1=>repeat (first | exact (Kd.C_below HR0.out HB.out) | (with_reducible refine zz18 ?_ _) | (with_reducible refine zz19 ?_ _) | (with_reducible refine zz20 ?_)));(case side2=>exact HC0.out);rintro e w112 ⟨v228,rfl,ho0,hb⟩;refine ⟨_,rfl,?_⟩;have n0_:=zz31 (Kd.R_elder' (by (with_reducible repeat (first | apply zz12 | apply zz13 | apply zz14));exact HO_5.out) (Kd.R_base ho0) hb);have n1_:=zz31 (Kd.R_below (by (with_reducible repeat (first | apply zz12 | apply zz13 | apply zz14));exact HO_217001.out) hb);have n2_:=zz31 (Kd.R_below (by (with_reducible repeat (first | apply zz12 | apply zz13 | apply zz14));exact HO_226001.out) hb);have n3_:=zz31 (Kd.R_lower (Kd.R_new' ho0 (Kd.R_lt (by (with_reducible repeat (first | apply zz12 | apply zz13 | apply zz14));exact HO_5.out))) (zz5 (by repeat first | exact HB.out | apply zz2 | apply zz0 | apply zz1 | refine zz3 ?_ GE216.out | refine zz3 ?_ GE225.out)));have n4_:=zz31 (zz11 (g:=gb216) (o:=.cells #[.int .i64 t211,.slice Ao13 t212.length co13] 32 (0,0)) (by (with_reducible repeat (first | refine zz6 ?_ _ | refine zz7 ?_ | refine zz8 ?_ _));exact BK216.out) hb);have n5_:=zz31 (zz11 (g:=gb225) (o:=.cells #[.int .i64 t220,.slice Ao20 t221.length co20] 32 (0,0)) (by (with_reducible repeat (first | refine zz6 ?_ _ | refine zz7 ?_ | refine zz8 ?_ _));exact BK225.out) hb);have n6_:=zz31 (zz4 (by repeat first | exact HB.out | apply zz2 | apply zz0 | apply zz1 | refine zz3 ?_ GE216.out | refine zz3 ?_ GE225.out) hb);clear HO_5;clear HO_217001;clear HO_226001;clear BK216;clear BK225;clear HB;have HO_5:=n0_;have HO_217001:=n1_;have HO_226001:=n2_;have HO229:=n3_;have BK216:=n4_;have BK225:=n5_;have HB:=n6_;clear n0_ n1_ n2_ n3_ n4_ n5_ n6_;(try clear hb);(try clear hb2);(try clear hk);(try clear hi);(try clear ho0);obtain ⟨Ao113,co113,eo113⟩:=Kd.R_slice HO229.out;subst eo113) | ((with_reducible refine gate_callee (f:=17) rfl ?_);refine goesL_ (some 41) rfl rfl Try.func17 (by kernel_rfl) rfl #[.slice Ao15 t217.length co15,.slice Ao113 t227.length co113] rfl (by (try simp only [zz26,zz27,zz28]);first | done | rfl | (simp only [zz24,zz25];rfl)) ?_;(with_reducible refine (laws_eqIntS.calls kj6 _ _ t217 _ _ t227 false _ ?side1 ?side2 ?side3 ?side4 A33.out).mono ?_);(case side1=>repeat (first | exact (Kd.R_reads' HO_5.out).2.2 | (with_reducible refine zz18 ?_ _) | (with_reducible refine zz19 ?_ _) | (with_reducible refine zz20 ?_)));(case side2=>exact (Kd.R_reads' HO_5.out).2.1);(case side3=>repeat (first | exact (Kd.R_reads' HO229.out).2.2 | (with_reducible refine zz18 ?_ _) | (with_reducible refine zz19 ?_ _) | (with_reducible refine zz20 ?_)));(case side4=>exact (Kd.R_reads' HO229.out).2.1);rintro e w' ⟨rfl,⟨nd,rfl⟩⟩;refine ⟨_,rfl,?_⟩))
      go_ret
      exact ⟨by first | rfl | (simp [errW_none,errW_some] <;> rfl) | (simp [*,errW_none,errW_some] <;> rfl),by repeat first | exact HB.out | apply zz2 | apply zz0 | apply zz1 | refine zz3 ?_ GE216.out | refine zz3 ?_ GE225.out⟩

/-- THE ONE PURE STATEMENT of laws_FnExactTreeOfNumbers: yours. -/
def laws_FnExactTreeOfNumbers.Pure:Prop:=∀ (l0:List Int),l0.length≤maxLen→l0.length * 8≤140737488351232→(∀ x ∈ l0,(Lit.int .i64 x).wf=true)→∃ k,laws_FnExactTreeOfNumbers.f k l0=some true
theorem laws_FnExactTreeOfNumbers.walk (P:laws_FnExactTreeOfNumbers.Pure) (a0:Option Addr) (len0 cap0:Nat) (z0:List Int) (w:World) (w0:(a0=none∧len0=0∧cap0=0∧z0=[]) ∨ ∃ x,a0=some x∧len0≤cap0∧cap0≤maxLen∧z0.length=cap0∧(∀ i,i < z0.length→w.cell? (x.add i)=some (.int .i64 (z0.getD i 0)))∧∀ n ∈ z0,(Lit.int .i64 n).wf=true) (y0:len0 * 8≤140737488351232) :
  Calls Try.prog 6 #[.slice a0 len0 cap0] w fun e w'=>e=.returned (.bool true)∧Below w.heap.size w w':=by
 obtain ⟨l0,rfl,hr0,hm0,hw0,hc0⟩:=ReadsInt.ofRowC w0
 obtain ⟨k,h⟩:=P l0 hm0 y0 hw0
 refine (laws_FnExactTreeOfNumbers.calls k _ _ l0 true w (Kd.C_of_reads (d:=(0:Int)) (h1:=fun _=>rfl) hr0) hc0 h).mono ?_
 rintro e w' ⟨rfl,hd⟩
 exact ⟨rfl,hd⟩

end Go.Proofs.Ytjipjcdeoajnjaa.P
