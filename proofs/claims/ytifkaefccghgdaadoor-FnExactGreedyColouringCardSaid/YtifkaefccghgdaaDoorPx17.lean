-- PRINTED by print.py (a twelfth state) out of the translation. Not trusted: Lean checks it.
import Derived.Test.YtifkaefccghgdaaDoorPx0
import Derived.Test.YtifkaefccghgdaaDoorPx1
import Derived.Test.YtifkaefccghgdaaDoorPx5
import Derived.Test.YtifkaefccghgdaaDoorPx7
import Derived.Test.YtifkaefccghgdaaDoorPx12
import Derived.Test.YtifkaefccghgdaaDoorPx16
namespace Go.Proofs.YtifkaefccghgdaaDoor.P
open Go.RowKit Go.Proofs.YtifkaefccghgdaaDoorW.PrintWords Go.Proofs.YtifkaefccghgdaaDoorW.PrintLast Go.Proofs.YtifkaefccghgdaaDoorW.PrintMore
open Bool renaming true → T, false → F
attribute [local go_sem] max2_int min2_int max_two min_two max_three min_three max_four min_four   -- for this text's walks alone
set_option linter.unusedVariables false
set_option linter.unusedSimpArgs false

/-! ### laws_FnExactGreedyColouring: function 8 -/
mutual
def laws_FnExactGreedyColouring.j0:Nat→List Int→List Int→Bool→List Int→List Int→Bool→Bool→Int→List (S79)→Int→List (S74)→Option (Bool)
 | 0,_,_,_,_,_,_,_,_,_,_,_=>none
 | k+1,x1,x6,x7,x9,x10,x11,x51,x541000,x541001,x558000,x558001=>if x51=true then (some false) else ((laws_toParty.f k x541000 x541001).bind fun bt566=>((laws_eqParty.f k x558000 x558001 bt566.1 bt566.2).bind fun t570=>(if t570=true then ((laws_toIntS.f k x1).bind fun t571=>((laws_eqIntS.f k x9 t571).bind fun t574=>(if t574=true then ((laws_markParty.f k x558000 x558001 1).bind fun bt575=>((laws_markIntS.f k x9 bt575.1).bind fun bt577=>(if bt577.1 < 0 then (laws_FnExactGreedyColouring.j1 k x1 x6 x7 x10 true x541000 x541001) else ((laws_eqIntS.f k x10 x6).bind fun t579=>(if t579=true then (laws_FnExactGreedyColouring.j1 k x1 x6 x7 x10 (x11 != x7) x541000 x541001) else (laws_FnExactGreedyColouring.j1 k x1 x6 x7 x10 true x541000 x541001)))))) else (some false)))) else (some false))))
def laws_FnExactGreedyColouring.j1:Nat→List Int→List Int→Bool→List Int→Bool→Int→List (S79)→Option (Bool)
 | 0,_,_,_,_,_,_,_=>none
 | k+1,x1,x6,x7,x10,x80,x541000,x541001=>if x80=true then (some false) else ((laws_markIntS.f k x10 1).bind fun bt580=>((laws_heldIntS.f k bt580.2 1).bind fun t582=>(if t582 < 0 then (some false) else (if t582=bt580.1 then ((laws_toParty.f k x541000 x541001).bind fun bt583=>((laws_toIntS.f k x1).bind fun t587=>((impl_GreedyColouring.f k bt583.1 bt583.2 t587).bind fun bt590=>((laws_eqIntS.f k bt590.1 x6).bind fun t594=>(if t594=true then (laws_FnExactGreedyColouring.j2 k bt580.2 bt580.1 (bt590.2 != x7)) else (laws_FnExactGreedyColouring.j2 k bt580.2 bt580.1 true)))))) else (some false)))))
def laws_FnExactGreedyColouring.j2:Nat→List Int→Int→Bool→Option (Bool)
 | 0,_,_,_=>none
 | k+1,x10,x13,x108=>if x108=true then (some false) else ((laws_heldIntS.f k x10 1).bind fun t595=>(if t595 < 0 then (some false) else (if t595=x13 then (some true) else (some false))))
end
def laws_FnExactGreedyColouring.f (k:Nat) (a0_0:Int) (l0_1:List (S79)) (l1:List Int):Option (Bool):=if (l1.length:Int) > 1048576 then (some true) else ((laws_szParty.f a0_0 l0_1 1048576).bind fun t541=>(if t541 < 0 then (some true) else ((laws_toParty.f k a0_0 l0_1).bind fun bt542=>((laws_toIntS.f k l1).bind fun t546=>((spec_GreedyColouring.f k bt542.1 bt542.2 t546).bind fun bt549=>((laws_toParty.f k a0_0 l0_1).bind fun bt553=>((laws_toIntS.f k l1).bind fun t558=>((impl_GreedyColouring.f k bt553.1 bt553.2 t558).bind fun bt561=>((laws_eqIntS.f k bt561.1 bt549.1).bind fun t565=>(if t565=true then (laws_FnExactGreedyColouring.j0 k l1 bt549.1 bt549.2 t558 bt561.1 bt561.2 (bt561.2 != bt549.2) a0_0 l0_1 bt553.1 bt553.2) else (laws_FnExactGreedyColouring.j0 k l1 bt549.1 bt549.2 t558 bt561.1 bt561.2 true a0_0 l0_1 bt553.1 bt553.2)))))))))))
theorem laws_FnExactGreedyColouring.mono_l:∀ k,(∀ y0 y1 y2 y3 y4 y5 y6 y7 y8 y9 y10,LeO (laws_FnExactGreedyColouring.j0 k y0 y1 y2 y3 y4 y5 y6 y7 y8 y9 y10) (laws_FnExactGreedyColouring.j0 (k+1) y0 y1 y2 y3 y4 y5 y6 y7 y8 y9 y10))∧(∀ y0 y1 y2 y3 y4 y5 y6,LeO (laws_FnExactGreedyColouring.j1 k y0 y1 y2 y3 y4 y5 y6) (laws_FnExactGreedyColouring.j1 (k+1) y0 y1 y2 y3 y4 y5 y6))∧(∀ y0 y1 y2,LeO (laws_FnExactGreedyColouring.j2 k y0 y1 y2) (laws_FnExactGreedyColouring.j2 (k+1) y0 y1 y2))
 | 0=>⟨fun _ _ _ _ _ _ _ _ _ _ _ r h=>by simp [laws_FnExactGreedyColouring.j0] at h,fun _ _ _ _ _ _ _ r h=>by simp [laws_FnExactGreedyColouring.j1] at h,fun _ _ _ r h=>by simp [laws_FnExactGreedyColouring.j2] at h⟩
 | k+1=>by
  obtain ⟨ih0,ih1,ih2⟩:=laws_FnExactGreedyColouring.mono_l k
  refine ⟨?_,?_,?_⟩
  ·intro y0 y1 y2 y3 y4 y5 y6 y7 y8 y9 y10
   unfold laws_FnExactGreedyColouring.j0
   repeat' first
   | (with_reducible exact ih0 _ _ _ _ _ _ _ _ _ _ _)
   | (with_reducible exact ih1 _ _ _ _ _ _ _)
   | (with_reducible exact ih2 _ _ _)
   | (with_reducible exact impl_GreedyColouring.mono _ _ _ _)
   | (with_reducible exact laws_eqIntS.mono _ _ _)
   | (with_reducible exact laws_eqParty.mono _ _ _ _ _)
   | (with_reducible exact laws_heldIntS.mono _ _ _)
   | (with_reducible exact laws_markIntS.mono _ _ _)
   | (with_reducible exact laws_markParty.mono _ _ _ _)
   | (with_reducible exact laws_toIntS.mono _ _)
   | (with_reducible exact laws_toParty.mono _ _ _)
   | (with_reducible exact spec_GreedyColouring.mono _ _ _ _)
   | (with_reducible exact LeO.refl _)
   | (with_reducible exact LeO.none _)
   | (with_reducible refine LeO.ite ?_ ?_)
   | (with_reducible refine LeO.bind ?_ (fun _=>?_))
   | exact ih0 _ _ _ _ _ _ _ _ _ _ _
   | exact ih1 _ _ _ _ _ _ _
   | exact ih2 _ _ _
   | exact impl_GreedyColouring.mono _ _ _ _
   | exact laws_eqIntS.mono _ _ _
   | exact laws_eqParty.mono _ _ _ _ _
   | exact laws_heldIntS.mono _ _ _
   | exact laws_markIntS.mono _ _ _
   | exact laws_markParty.mono _ _ _ _
   | exact laws_toIntS.mono _ _
   | exact laws_toParty.mono _ _ _
   | exact spec_GreedyColouring.mono _ _ _ _
   | exact LeO.none _
   | refine LeO.ite ?_ ?_
   | refine LeO.bind ?_ (fun _=>?_)
  ·intro y0 y1 y2 y3 y4 y5 y6
   unfold laws_FnExactGreedyColouring.j1
   repeat' first
   | (with_reducible exact ih0 _ _ _ _ _ _ _ _ _ _ _)
   | (with_reducible exact ih1 _ _ _ _ _ _ _)
   | (with_reducible exact ih2 _ _ _)
   | (with_reducible exact impl_GreedyColouring.mono _ _ _ _)
   | (with_reducible exact laws_eqIntS.mono _ _ _)
   | (with_reducible exact laws_eqParty.mono _ _ _ _ _)
   | (with_reducible exact laws_heldIntS.mono _ _ _)
   | (with_reducible exact laws_markIntS.mono _ _ _)
   | (with_reducible exact laws_markParty.mono _ _ _ _)
   | (with_reducible exact laws_toIntS.mono _ _)
   | (with_reducible exact laws_toParty.mono _ _ _)
   | (with_reducible exact spec_GreedyColouring.mono _ _ _ _)
   | (with_reducible exact LeO.refl _)
   | (with_reducible exact LeO.none _)
   | (with_reducible refine LeO.ite ?_ ?_)
   | (with_reducible refine LeO.bind ?_ (fun _=>?_))
   | exact ih0 _ _ _ _ _ _ _ _ _ _ _
   | exact ih1 _ _ _ _ _ _ _
   | exact ih2 _ _ _
   | exact impl_GreedyColouring.mono _ _ _ _
   | exact laws_eqIntS.mono _ _ _
   | exact laws_eqParty.mono _ _ _ _ _
   | exact laws_heldIntS.mono _ _ _
   | exact laws_markIntS.mono _ _ _
   | exact laws_markParty.mono _ _ _ _
   | exact laws_toIntS.mono _ _
   | exact laws_toParty.mono _ _ _
   | exact spec_GreedyColouring.mono _ _ _ _
   | exact LeO.none _
   | refine LeO.ite ?_ ?_
   | refine LeO.bind ?_ (fun _=>?_)
  ·intro y0 y1 y2
   unfold laws_FnExactGreedyColouring.j2
   repeat' first
   | (with_reducible exact ih0 _ _ _ _ _ _ _ _ _ _ _)
   | (with_reducible exact ih1 _ _ _ _ _ _ _)
   | (with_reducible exact ih2 _ _ _)
   | (with_reducible exact impl_GreedyColouring.mono _ _ _ _)
   | (with_reducible exact laws_eqIntS.mono _ _ _)
   | (with_reducible exact laws_eqParty.mono _ _ _ _ _)
   | (with_reducible exact laws_heldIntS.mono _ _ _)
   | (with_reducible exact laws_markIntS.mono _ _ _)
   | (with_reducible exact laws_markParty.mono _ _ _ _)
   | (with_reducible exact laws_toIntS.mono _ _)
   | (with_reducible exact laws_toParty.mono _ _ _)
   | (with_reducible exact spec_GreedyColouring.mono _ _ _ _)
   | (with_reducible exact LeO.refl _)
   | (with_reducible exact LeO.none _)
   | (with_reducible refine LeO.ite ?_ ?_)
   | (with_reducible refine LeO.bind ?_ (fun _=>?_))
   | exact ih0 _ _ _ _ _ _ _ _ _ _ _
   | exact ih1 _ _ _ _ _ _ _
   | exact ih2 _ _ _
   | exact impl_GreedyColouring.mono _ _ _ _
   | exact laws_eqIntS.mono _ _ _
   | exact laws_eqParty.mono _ _ _ _ _
   | exact laws_heldIntS.mono _ _ _
   | exact laws_markIntS.mono _ _ _
   | exact laws_markParty.mono _ _ _ _
   | exact laws_toIntS.mono _ _
   | exact laws_toParty.mono _ _ _
   | exact spec_GreedyColouring.mono _ _ _ _
   | exact LeO.none _
   | refine LeO.ite ?_ ?_
   | refine LeO.bind ?_ (fun _=>?_)
theorem laws_FnExactGreedyColouring.mono:∀ a0 a1 a2 k,LeO (laws_FnExactGreedyColouring.f k a0 a1 a2) (laws_FnExactGreedyColouring.f (k+1) a0 a1 a2):=by
 intro a0 a1 a2 k
 obtain ⟨ih0,ih1,ih2⟩:=laws_FnExactGreedyColouring.mono_l k
 unfold laws_FnExactGreedyColouring.f
 repeat' first
   | (with_reducible exact ih0 _ _ _ _ _ _ _ _ _ _ _)
   | (with_reducible exact ih1 _ _ _ _ _ _ _)
   | (with_reducible exact ih2 _ _ _)
   | (with_reducible exact impl_GreedyColouring.mono _ _ _ _)
   | (with_reducible exact laws_eqIntS.mono _ _ _)
   | (with_reducible exact laws_eqParty.mono _ _ _ _ _)
   | (with_reducible exact laws_heldIntS.mono _ _ _)
   | (with_reducible exact laws_markIntS.mono _ _ _)
   | (with_reducible exact laws_markParty.mono _ _ _ _)
   | (with_reducible exact laws_toIntS.mono _ _)
   | (with_reducible exact laws_toParty.mono _ _ _)
   | (with_reducible exact spec_GreedyColouring.mono _ _ _ _)
   | (with_reducible exact LeO.refl _)
   | (with_reducible exact LeO.none _)
   | (with_reducible refine LeO.ite ?_ ?_)
   | (with_reducible refine LeO.bind ?_ (fun _=>?_))
   | exact ih0 _ _ _ _ _ _ _ _ _ _ _
   | exact ih1 _ _ _ _ _ _ _
   | exact ih2 _ _ _
   | exact impl_GreedyColouring.mono _ _ _ _
   | exact laws_eqIntS.mono _ _ _
   | exact laws_eqParty.mono _ _ _ _ _
   | exact laws_heldIntS.mono _ _ _
   | exact laws_markIntS.mono _ _ _
   | exact laws_markParty.mono _ _ _ _
   | exact laws_toIntS.mono _ _
   | exact laws_toParty.mono _ _ _
   | exact spec_GreedyColouring.mono _ _ _ _
   | exact LeO.none _
   | refine LeO.ite ?_ ?_
   | refine LeO.bind ?_ (fun _=>?_)
set_option maxHeartbeats 8000000 in
set_option maxRecDepth 100000 in
theorem laws_FnExactGreedyColouring.calls (k:Nat) (a0_0:Int) (A0_1:Option Addr) (c0_1:Nat) (l0_1:List (S79)) (A1:Option Addr) (c1:Nat) (l1:List Int) (r:Bool) (w:World) (hr0_1:Kd.C k79 w A0_1 l0_1.length l0_1) (hc0_1:l0_1.length≤c0_1) (hr1:Kd.C (Kd.int .i64) w A1 l1.length l1) (hc1:l1.length≤c1) (h:laws_FnExactGreedyColouring.f k a0_0 l0_1 l1=some r) (hT:Tz w) :
  Calls Tryd.prog 8 #[.agg #[.int .i64 a0_0,.slice A0_1 l0_1.length c0_1],.slice A1 l1.length c1] w fun e w'=>e=.returned (.bool r)∧Below w.heap.size w w':=by
 have hu24:=Tryd.underlying24
 have hu30:=Tryd.underlying30
 have HR0_1:=zz31 hr0_1
 have HC0_1:=zz31 hc0_1
 clear hr0_1 hc0_1
 have HR1:=zz31 hr1
 have HC1:=zz31 hc1
 clear hr1 hc1
 have HB:=zz31 (Below.refl w.heap.size w)
 have HT:=zz31 hT
 clear hT
 have H:(if (l1.length:Int) > 1048576 then (some true) else ((laws_szParty.f a0_0 l0_1 1048576).bind fun t541=>(if t541 < 0 then (some true) else ((laws_toParty.f k a0_0 l0_1).bind fun bt542=>((laws_toIntS.f k l1).bind fun t546=>((spec_GreedyColouring.f k bt542.1 bt542.2 t546).bind fun bt549=>((laws_toParty.f k a0_0 l0_1).bind fun bt553=>((laws_toIntS.f k l1).bind fun t558=>((impl_GreedyColouring.f k bt553.1 bt553.2 t558).bind fun bt561=>((laws_eqIntS.f k bt561.1 bt549.1).bind fun t565=>(if t565=true then (laws_FnExactGreedyColouring.j0 k l1 bt549.1 bt549.2 t558 bt561.1 bt561.2 (bt561.2 != bt549.2) a0_0 l0_1 bt553.1 bt553.2) else (laws_FnExactGreedyColouring.j0 k l1 bt549.1 bt549.2 t558 bt561.1 bt561.2 true a0_0 l0_1 bt553.1 bt553.2))))))))))))=some r:=h
 clear h
 by_cases c3:(l1.length:Int) > 1048576
 ·rw [if_pos c3] at H
  have c3b0:decide (1048576 < (l1.length:Int))=true:=decide_eq_true c3
  have c3b1:decide (1048576 < l1.length)=true:=decide_eq_true (by omega)
  clear c3
  obtain rfl:=Option.some.inj H
  go_enter Tryd.func8,Tryd.ntmps8
  go_wp2_with (first | ((with_reducible refine gate_dst (N:=2) rfl ?_);refine box_event ?hg (N:=2) ?hd (cs:=#[.int .i64 a0_0,.slice A0_1 l0_1.length c0_1]) (t:=24) ?hr ?_;(case hd=>rfl);(case hg=>rfl);(case hr=>first | (go_simp;done) | (go_simp;rfl));intro gb540 hg w4 hbox hb;have n0_:=zz31 (zz4 (by repeat first | exact HB.out | apply zz2 | apply zz0 | apply zz1) hb);have n1_:=zz31 (hbox);have n2_:=zz31 ((by rw [hg];exact (zz5 (by repeat first | exact HB.out | apply zz2 | apply zz0 | apply zz1)):w.heap.size≤gb540));have n3_:=zz31 ((by rw [hg];exact (zz5 (by repeat first | exact HB.out | apply zz2 | apply zz0 | apply zz1)):w.heap.size≤gb540));clear HB;have HB:=n0_;have BK540:=n1_;have GW540:=n2_;have GE540:=n3_;clear n0_ n1_ n2_ n3_;clear hb hbox hg))
  go_ret
  exact ⟨by first | rfl | (simp [errW_none,errW_some] <;> rfl) | (simp [*,errW_none,errW_some] <;> rfl),by repeat first | exact HB.out | apply zz2 | apply zz0 | apply zz1 | refine zz3 ?_ GE540.out⟩
 ·rw [if_neg c3] at H
  have c3b0:decide (1048576 < (l1.length:Int))=false:=decide_eq_false c3
  have c3b1:decide (1048576 < l1.length)=false:=decide_eq_false (by omega)
  clear c3
  replace H:=zz30.mp H
  obtain ⟨t541,A50,H⟩:=H
  replace H:(if t541 < 0 then (some true) else ((laws_toParty.f k a0_0 l0_1).bind fun bt542=>((laws_toIntS.f k l1).bind fun t546=>((spec_GreedyColouring.f k bt542.1 bt542.2 t546).bind fun bt549=>((laws_toParty.f k a0_0 l0_1).bind fun bt553=>((laws_toIntS.f k l1).bind fun t558=>((impl_GreedyColouring.f k bt553.1 bt553.2 t558).bind fun bt561=>((laws_eqIntS.f k bt561.1 bt549.1).bind fun t565=>(if t565=true then (laws_FnExactGreedyColouring.j0 k l1 bt549.1 bt549.2 t558 bt561.1 bt561.2 (bt561.2 != bt549.2) a0_0 l0_1 bt553.1 bt553.2) else (laws_FnExactGreedyColouring.j0 k l1 bt549.1 bt549.2 t558 bt561.1 bt561.2 true a0_0 l0_1 bt553.1 bt553.2))))))))))=some r:=H
  have A5:=zz31 A50
  clear A50
  by_cases c6:t541 < 0
  ·rw [if_pos c6] at H
   have c6b0:decide (t541 < 0)=true:=decide_eq_true c6
   clear c6
   obtain rfl:=Option.some.inj H
   go_enter Tryd.func8,Tryd.ntmps8
   go_wp2_with (first | ((with_reducible refine gate_dst (N:=2) rfl ?_);refine box_event ?hg (N:=2) ?hd (cs:=#[.int .i64 a0_0,.slice A0_1 l0_1.length c0_1]) (t:=24) ?hr ?_;(case hd=>rfl);(case hg=>rfl);(case hr=>first | (go_simp;done) | (go_simp;rfl));intro gb540 hg w7 hbox hb;have n0_:=zz31 (zz4 (by repeat first | exact HB.out | apply zz2 | apply zz0 | apply zz1) hb);have n1_:=zz31 (hbox);have n2_:=zz31 ((by rw [hg];exact (zz5 (by repeat first | exact HB.out | apply zz2 | apply zz0 | apply zz1)):w.heap.size≤gb540));have n3_:=zz31 ((by rw [hg];exact (zz5 (by repeat first | exact HB.out | apply zz2 | apply zz0 | apply zz1)):w.heap.size≤gb540));clear HB;have HB:=n0_;have BK540:=n1_;have GW540:=n2_;have GE540:=n3_;clear n0_ n1_ n2_ n3_;clear hb hbox hg;have hcz8_0:w7.cell? ⟨gb540,0,none⟩=some (.int .i64 a0_0):=(zz9 BK540.out 0).trans rfl;have hcz8_1:w7.cell? ⟨gb540,1,none⟩=some (.slice A0_1 l0_1.length c0_1):=(zz9 BK540.out 1).trans rfl;have hfz8_0:=zz10 BK540.out 0;have hfz8_1:=zz10 BK540.out 1) | ((with_reducible refine gate_callee (f:=9) rfl ?_);refine goesL_ (some 22) rfl rfl Tryd.func9 (by kernel_rfl) rfl #[.agg #[.int .i64 a0_0,.slice A0_1 l0_1.length c0_1],.int .i64 1048576] rfl (by (try simp only [zz26,zz27,zz28]);first | done | rfl | (simp only [zz24,zz25];rfl)) ?_;(with_reducible refine (laws_szParty.calls a0_0 _ _ l0_1 1048576 t541 _ ?side1 ?side2 A5.out).mono ?_);(case side1=>repeat (first | exact (Kd.C_below HR0_1.out HB.out) | (with_reducible refine zz18 ?_ _) | (with_reducible refine zz19 ?_ _) | (with_reducible refine zz20 ?_)));(case side2=>exact HC0_1.out);rintro e w9 ⟨rfl,hb⟩;refine ⟨_,rfl,?_⟩;have n0_:=zz31 (zz11 (g:=gb540) (o:=.cells #[.int .i64 a0_0,.slice A0_1 l0_1.length c0_1] 24 (0,0)) (by (with_reducible repeat (first | refine zz6 ?_ _ | refine zz7 ?_ | refine zz8 ?_ _));exact BK540.out) hb);have n1_:=zz31 (zz4 (by repeat first | exact HB.out | apply zz2 | apply zz0 | apply zz1 | refine zz3 ?_ GE540.out) hb);clear BK540;clear HB;have BK540:=n0_;have HB:=n1_;clear n0_ n1_;(try clear hb);(try clear hb2);(try clear hk);(try clear hi)))
   go_ret
   exact ⟨by first | rfl | (simp [errW_none,errW_some] <;> rfl) | (simp [*,errW_none,errW_some] <;> rfl),by repeat first | exact HB.out | apply zz2 | apply zz0 | apply zz1 | refine zz3 ?_ GE540.out⟩
  ·rw [if_neg c6] at H
   have c6b0:decide (t541 < 0)=false:=decide_eq_false c6
   clear c6
   replace H:=zz30.mp H
   obtain ⟨⟨t542,t543⟩,A100,H⟩:=H
   replace H:((laws_toIntS.f k l1).bind fun t546=>((spec_GreedyColouring.f k t542 t543 t546).bind fun bt549=>((laws_toParty.f k a0_0 l0_1).bind fun bt553=>((laws_toIntS.f k l1).bind fun t558=>((impl_GreedyColouring.f k bt553.1 bt553.2 t558).bind fun bt561=>((laws_eqIntS.f k bt561.1 bt549.1).bind fun t565=>(if t565=true then (laws_FnExactGreedyColouring.j0 k l1 bt549.1 bt549.2 t558 bt561.1 bt561.2 (bt561.2 != bt549.2) a0_0 l0_1 bt553.1 bt553.2) else (laws_FnExactGreedyColouring.j0 k l1 bt549.1 bt549.2 t558 bt561.1 bt561.2 true a0_0 l0_1 bt553.1 bt553.2))))))))=some r:=H
   have A10:=zz31 A100
   clear A100
   replace H:=zz30.mp H
   obtain ⟨t546,A110,H⟩:=H
   replace H:((spec_GreedyColouring.f k t542 t543 t546).bind fun bt549=>((laws_toParty.f k a0_0 l0_1).bind fun bt553=>((laws_toIntS.f k l1).bind fun t558=>((impl_GreedyColouring.f k bt553.1 bt553.2 t558).bind fun bt561=>((laws_eqIntS.f k bt561.1 bt549.1).bind fun t565=>(if t565=true then (laws_FnExactGreedyColouring.j0 k l1 bt549.1 bt549.2 t558 bt561.1 bt561.2 (bt561.2 != bt549.2) a0_0 l0_1 bt553.1 bt553.2) else (laws_FnExactGreedyColouring.j0 k l1 bt549.1 bt549.2 t558 bt561.1 bt561.2 true a0_0 l0_1 bt553.1 bt553.2)))))))=some r:=H
   have A11:=zz31 A110
   clear A110
   replace H:=zz30.mp H
   obtain ⟨⟨t549,t552⟩,A120,H⟩:=H
   replace H:((laws_toParty.f k a0_0 l0_1).bind fun bt553=>((laws_toIntS.f k l1).bind fun t558=>((impl_GreedyColouring.f k bt553.1 bt553.2 t558).bind fun bt561=>((laws_eqIntS.f k bt561.1 t549).bind fun t565=>(if t565=true then (laws_FnExactGreedyColouring.j0 k l1 t549 t552 t558 bt561.1 bt561.2 (bt561.2 != t552) a0_0 l0_1 bt553.1 bt553.2) else (laws_FnExactGreedyColouring.j0 k l1 t549 t552 t558 bt561.1 bt561.2 true a0_0 l0_1 bt553.1 bt553.2))))))=some r:=H
   have A12:=zz31 A120
   clear A120
   replace H:=zz30.mp H
   obtain ⟨⟨t553,t554⟩,A130,H⟩:=H
   replace H:((laws_toIntS.f k l1).bind fun t558=>((impl_GreedyColouring.f k t553 t554 t558).bind fun bt561=>((laws_eqIntS.f k bt561.1 t549).bind fun t565=>(if t565=true then (laws_FnExactGreedyColouring.j0 k l1 t549 t552 t558 bt561.1 bt561.2 (bt561.2 != t552) a0_0 l0_1 t553 t554) else (laws_FnExactGreedyColouring.j0 k l1 t549 t552 t558 bt561.1 bt561.2 true a0_0 l0_1 t553 t554)))))=some r:=H
   have A13:=zz31 A130
   clear A130
   replace H:=zz30.mp H
   obtain ⟨t558,A140,H⟩:=H
   replace H:((impl_GreedyColouring.f k t553 t554 t558).bind fun bt561=>((laws_eqIntS.f k bt561.1 t549).bind fun t565=>(if t565=true then (laws_FnExactGreedyColouring.j0 k l1 t549 t552 t558 bt561.1 bt561.2 (bt561.2 != t552) a0_0 l0_1 t553 t554) else (laws_FnExactGreedyColouring.j0 k l1 t549 t552 t558 bt561.1 bt561.2 true a0_0 l0_1 t553 t554))))=some r:=H
   have A14:=zz31 A140
   clear A140
   replace H:=zz30.mp H
   obtain ⟨⟨t561,t564⟩,A150,H⟩:=H
   replace H:((laws_eqIntS.f k t561 t549).bind fun t565=>(if t565=true then (laws_FnExactGreedyColouring.j0 k l1 t549 t552 t558 t561 t564 (t564 != t552) a0_0 l0_1 t553 t554) else (laws_FnExactGreedyColouring.j0 k l1 t549 t552 t558 t561 t564 true a0_0 l0_1 t553 t554)))=some r:=H
   have A15:=zz31 A150
   clear A150
   have HC16:=zz31 H
   clear H
   go_enter Tryd.func8,Tryd.ntmps8
   go_upto_region 11 with (first | ((with_reducible refine gate_dst (N:=2) rfl ?_);refine box_event ?hg (N:=2) ?hd (cs:=#[.int .i64 a0_0,.slice A0_1 l0_1.length c0_1]) (t:=24) ?hr ?_;(case hd=>rfl);(case hg=>rfl);(case hr=>first | (go_simp;done) | (go_simp;rfl));intro gb540 hg w17 hbox hb;have n0_:=zz31 (zz4 (by repeat first | exact HB.out | apply zz2 | apply zz0 | apply zz1) hb);have n1_:=zz31 (hbox);have n2_:=zz31 ((by rw [hg];exact (zz5 (by repeat first | exact HB.out | apply zz2 | apply zz0 | apply zz1)):w.heap.size≤gb540));have n3_:=zz31 ((by rw [hg];exact (zz5 (by repeat first | exact HB.out | apply zz2 | apply zz0 | apply zz1)):w.heap.size≤gb540));clear HB;have HB:=n0_;have BK540:=n1_;have GW540:=n2_;have GE540:=n3_;clear n0_ n1_ n2_ n3_;clear hb hbox hg;have hcz18_0:w17.cell? ⟨gb540,0,none⟩=some (.int .i64 a0_0):=(zz9 BK540.out 0).trans rfl;have hcz18_1:w17.cell? ⟨gb540,1,none⟩=some (.slice A0_1 l0_1.length c0_1):=(zz9 BK540.out 1).trans rfl;have hfz18_0:=zz10 BK540.out 0;have hfz18_1:=zz10 BK540.out 1) | ((with_reducible refine gate_callee (f:=9) rfl ?_);refine goesL_ (some 22) rfl rfl Tryd.func9 (by kernel_rfl) rfl #[.agg #[.int .i64 a0_0,.slice A0_1 l0_1.length c0_1],.int .i64 1048576] rfl (by (try simp only [zz26,zz27,zz28]);first | done | rfl | (simp only [zz24,zz25];rfl)) ?_;(with_reducible refine (laws_szParty.calls a0_0 _ _ l0_1 1048576 t541 _ ?side1 ?side2 A5.out).mono ?_);(case side1=>repeat (first | exact (Kd.C_below HR0_1.out HB.out) | (with_reducible refine zz18 ?_ _) | (with_reducible refine zz19 ?_ _) | (with_reducible refine zz20 ?_)));(case side2=>exact HC0_1.out);rintro e w19 ⟨rfl,hb⟩;refine ⟨_,rfl,?_⟩;have n0_:=zz31 (zz11 (g:=gb540) (o:=.cells #[.int .i64 a0_0,.slice A0_1 l0_1.length c0_1] 24 (0,0)) (by (with_reducible repeat (first | refine zz6 ?_ _ | refine zz7 ?_ | refine zz8 ?_ _));exact BK540.out) hb);have n1_:=zz31 (zz4 (by repeat first | exact HB.out | apply zz2 | apply zz0 | apply zz1 | refine zz3 ?_ GE540.out) hb);clear BK540;clear HB;have BK540:=n0_;have HB:=n1_;clear n0_ n1_;(try clear hb);(try clear hb2);(try clear hk);(try clear hi);have hcz20_0:w19.cell? ⟨gb540,0,none⟩=some (.int .i64 a0_0):=(zz9 BK540.out 0).trans rfl;have hcz20_1:w19.cell? ⟨gb540,1,none⟩=some (.slice A0_1 l0_1.length c0_1):=(zz9 BK540.out 1).trans rfl;have hfz20_0:=zz10 BK540.out 0;have hfz20_1:=zz10 BK540.out 1) | ((with_reducible refine gate_callee (f:=11) rfl ?_);refine goesL_ (some 27) rfl rfl Tryd.func11 (by kernel_rfl) rfl #[.agg #[.int .i64 a0_0,.slice A0_1 l0_1.length c0_1]] rfl (by (try simp only [zz26,zz27,zz28]);first | done | rfl | (simp only [zz24,zz25];rfl)) ?_;(with_reducible refine (laws_toParty.calls k a0_0 _ _ l0_1 t542 t543 _ ?side1 ?side2 A10.out).mono ?_);(case side1=>repeat (first | exact (Kd.C_below HR0_1.out HB.out) | (with_reducible refine zz18 ?_ _) | (with_reducible refine zz19 ?_ _) | (with_reducible refine zz20 ?_)));(case side2=>exact HC0_1.out);rintro e w21 ⟨v544,rfl,ho0,hb⟩;refine ⟨_,rfl,?_⟩;have n0_:=zz31 (Kd.R_lower ho0 (zz5 (by repeat first | exact HB.out | apply zz2 | apply zz0 | apply zz1 | refine zz3 ?_ GE540.out)));have n1_:=zz31 (zz11 (g:=gb540) (o:=.cells #[.int .i64 a0_0,.slice A0_1 l0_1.length c0_1] 24 (0,0)) (by (with_reducible repeat (first | refine zz6 ?_ _ | refine zz7 ?_ | refine zz8 ?_ _));exact BK540.out) hb);have n2_:=zz31 (zz4 (by repeat first | exact HB.out | apply zz2 | apply zz0 | apply zz1 | refine zz3 ?_ GE540.out) hb);clear BK540;clear HB;have HO545:=n0_;have BK540:=n1_;have HB:=n2_;clear n0_ n1_ n2_;(try clear hb);(try clear hb2);(try clear hk);(try clear hi);(try clear ho0)) | ((with_reducible refine gate_callee (f:=27) rfl ?_);refine goesL_ (some 29) rfl rfl Tryd.func27 (by kernel_rfl) rfl #[.slice A1 l1.length c1] rfl (by (try simp only [zz26,zz27,zz28]);first | done | rfl | (simp only [zz24,zz25];rfl)) ?_;(with_reducible refine (laws_toIntS.calls k _ _ l1 t546 _ ?side1 ?side2 A11.out).mono ?_);(case side1=>repeat (first | exact (Kd.C_below HR1.out HB.out) | (with_reducible refine zz18 ?_ _) | (with_reducible refine zz19 ?_ _) | (with_reducible refine zz20 ?_)));(case side2=>exact HC1.out);rintro e w22 ⟨v547,rfl,ho0,hb⟩;refine ⟨_,rfl,?_⟩;have n0_:=zz31 (Kd.R_below (by (with_reducible repeat (first | apply zz12 | apply zz13 | apply zz14));exact HO545.out) hb);have n1_:=zz31 (Kd.R_lower ho0 (zz5 (by repeat first | exact HB.out | apply zz2 | apply zz0 | apply zz1 | refine zz3 ?_ GE540.out)));have n2_:=zz31 (zz11 (g:=gb540) (o:=.cells #[.int .i64 a0_0,.slice A0_1 l0_1.length c0_1] 24 (0,0)) (by (with_reducible repeat (first | refine zz6 ?_ _ | refine zz7 ?_ | refine zz8 ?_ _));exact BK540.out) hb);have n3_:=zz31 (zz4 (by repeat first | exact HB.out | apply zz2 | apply zz0 | apply zz1 | refine zz3 ?_ GE540.out) hb);clear HO545;clear BK540;clear HB;have HO545:=n0_;have HO548:=n1_;have BK540:=n2_;have HB:=n3_;clear n0_ n1_ n2_ n3_;(try clear hb);(try clear hb2);(try clear hk);(try clear hi);(try clear ho0);obtain ⟨Ao23,co23,eo23⟩:=Kd.R_slice HO545.out;subst eo23;obtain ⟨Ao24,co24,eo24⟩:=Kd.R_slice HO548.out;subst eo24) | ((with_reducible refine gate_callee (f:=26) rfl ?_);refine goesL_ (some 30) rfl rfl Tryd.func26 (by kernel_rfl) rfl #[.agg #[.int .i64 t542,.slice Ao23 t543.length co23],.slice Ao24 t546.length co24] rfl (by (try simp only [zz26,zz27,zz28]);first | done | rfl | (simp only [zz24,zz25];rfl)) ?_;(with_reducible refine (spec_GreedyColouring.calls k t542 _ _ t543 _ _ t546 t549 t552 _ ?side1 ?side2 ?side3 ?side4 A12.out).mono ?_);(case side1=>repeat (first | exact (Kd.R_reads' HO545.out).2.2 | (with_reducible refine zz18 ?_ _) | (with_reducible refine zz19 ?_ _) | (with_reducible refine zz20 ?_)));(case side2=>exact (Kd.R_reads' HO545.out).2.1);(case side3=>repeat (first | exact (Kd.R_reads' HO548.out).2.2 | (with_reducible refine zz18 ?_ _) | (with_reducible refine zz19 ?_ _) | (with_reducible refine zz20 ?_)));(case side4=>exact (Kd.R_reads' HO548.out).2.1);rintro e w25 ⟨v550,rfl,ho0,hb⟩;refine ⟨_,rfl,?_⟩;have n0_:=zz31 (Kd.R_below (by (with_reducible repeat (first | apply zz12 | apply zz13 | apply zz14));exact HO545.out) hb);have n1_:=zz31 (Kd.R_elder' (by (with_reducible repeat (first | apply zz12 | apply zz13 | apply zz14));exact HO548.out) (Kd.R_base ho0) hb);have n2_:=zz31 (Kd.R_lower (Kd.R_new' ho0 (Kd.R_lt (by (with_reducible repeat (first | apply zz12 | apply zz13 | apply zz14));exact HO548.out))) (zz5 (by repeat first | exact HB.out | apply zz2 | apply zz0 | apply zz1 | refine zz3 ?_ GE540.out)));have n3_:=zz31 (zz11 (g:=gb540) (o:=.cells #[.int .i64 a0_0,.slice A0_1 l0_1.length c0_1] 24 (0,0)) (by (with_reducible repeat (first | refine zz6 ?_ _ | refine zz7 ?_ | refine zz8 ?_ _));exact BK540.out) hb);have n4_:=zz31 (zz4 (by repeat first | exact HB.out | apply zz2 | apply zz0 | apply zz1 | refine zz3 ?_ GE540.out) hb);clear HO545;clear HO548;clear BK540;clear HB;have HO545:=n0_;have HO548:=n1_;have HO551:=n2_;have BK540:=n3_;have HB:=n4_;clear n0_ n1_ n2_ n3_ n4_;(try clear hb);(try clear hb2);(try clear hk);(try clear hi);(try clear ho0);have hcz26_0:w25.cell? ⟨gb540,0,none⟩=some (.int .i64 a0_0):=(zz9 BK540.out 0).trans rfl;have hcz26_1:w25.cell? ⟨gb540,1,none⟩=some (.slice A0_1 l0_1.length c0_1):=(zz9 BK540.out 1).trans rfl;have hfz26_0:=zz10 BK540.out 0;have hfz26_1:=zz10 BK540.out 1) | ((with_reducible refine gate_callee (f:=11) rfl ?_);refine goesL_ (some 34) rfl rfl Tryd.func11 (by kernel_rfl) rfl #[.agg #[.int .i64 a0_0,.slice A0_1 l0_1.length c0_1]] rfl (by (try simp only [zz26,zz27,zz28]);first | done | rfl | (simp only [zz24,zz25];rfl)) ?_;(with_reducible refine (laws_toParty.calls k a0_0 _ _ l0_1 t553 t554 _ ?side1 ?side2 A13.out).mono ?_);(case side1=>repeat (first | exact (Kd.C_below HR0_1.out HB.out) | (with_reducible refine zz18 ?_ _) | (with_reducible refine zz19 ?_ _) | (with_reducible refine zz20 ?_)));(case side2=>exact HC0_1.out);rintro e w27 ⟨v555,rfl,ho0,hb⟩;refine ⟨_,rfl,?_⟩;have n0_:=zz31 (Kd.R_elder' (by (with_reducible repeat (first | apply zz12 | apply zz13 | apply zz14));exact HO545.out) (Kd.R_base ho0) hb);have n1_:=zz31 (Kd.R_below (by (with_reducible repeat (first | apply zz12 | apply zz13 | apply zz14));exact HO548.out) hb);have n2_:=zz31 (Kd.R_below (by (with_reducible repeat (first | apply zz12 | apply zz13 | apply zz14));exact HO551.out) hb);have n3_:=zz31 (Kd.R_lower (Kd.R_new' ho0 (Kd.R_lt (by (with_reducible repeat (first | apply zz12 | apply zz13 | apply zz14));exact HO545.out))) (zz5 (by repeat first | exact HB.out | apply zz2 | apply zz0 | apply zz1 | refine zz3 ?_ GE540.out)));have n4_:=zz31 (zz11 (g:=gb540) (o:=.cells #[.int .i64 a0_0,.slice A0_1 l0_1.length c0_1] 24 (0,0)) (by (with_reducible repeat (first | refine zz6 ?_ _ | refine zz7 ?_ | refine zz8 ?_ _));exact BK540.out) hb);have n5_:=zz31 (zz4 (by repeat first | exact HB.out | apply zz2 | apply zz0 | apply zz1 | refine zz3 ?_ GE540.out) hb);clear HO545;clear HO548;clear HO551;clear BK540;clear HB;have HO545:=n0_;have HO548:=n1_;have HO551:=n2_;have HO556:=n3_;have BK540:=n4_;have HB:=n5_;clear n0_ n1_ n2_ n3_ n4_ n5_;(try clear hb);(try clear hb2);(try clear hk);(try clear hi);(try clear ho0)) | ((with_reducible refine gate_dst (N:=8) rfl ?_);refine box_event ?hg (N:=8) ?hd (cs:=#[.int .i64 0,.slice none 0 0]) (t:=30) ?hr ?_;(case hd=>rfl);(case hg=>rfl);(case hr=>first | (go_simp;done) | (go_simp;rfl));intro gb557 hg w28 hbox hb;have n0_:=zz31 (Kd.R_below (by (with_reducible repeat (first | apply zz12 | apply zz13 | apply zz14));exact HO545.out) hb);have n1_:=zz31 (Kd.R_below (by (with_reducible repeat (first | apply zz12 | apply zz13 | apply zz14));exact HO548.out) hb);have n2_:=zz31 (Kd.R_below (by (with_reducible repeat (first | apply zz12 | apply zz13 | apply zz14));exact HO551.out) hb);have n3_:=zz31 (Kd.R_below (by (with_reducible repeat (first | apply zz12 | apply zz13 | apply zz14));exact HO556.out) hb);have n4_:=zz31 (zz11 (g:=gb540) (o:=.cells #[.int .i64 a0_0,.slice A0_1 l0_1.length c0_1] 24 (0,0)) (by (with_reducible repeat (first | refine zz6 ?_ _ | refine zz7 ?_ | refine zz8 ?_ _));exact BK540.out) hb);have n5_:=zz31 (zz4 (by repeat first | exact HB.out | apply zz2 | apply zz0 | apply zz1 | refine zz3 ?_ GE540.out) hb);have n6_:=zz31 (hbox);have n7_:=zz31 ((by rw [hg];exact (zz5 (by repeat first | exact HB.out | apply zz2 | apply zz0 | apply zz1 | refine zz3 ?_ GE540.out)):w.heap.size≤gb557));have n8_:=zz31 ((by rw [hg];exact (zz5 (by repeat first | exact HB.out | apply zz2 | apply zz0 | apply zz1 | refine zz3 ?_ GE540.out)):w.heap.size≤gb557));have n9_:=zz31 ((by rw [hg];exact Nat.ne_of_lt (blk_lt (g:=gb540) (o:=.cells #[.int .i64 a0_0,.slice A0_1 l0_1.length c0_1] 24 (0,0)) (by (with_reducible repeat (first | refine zz6 ?_ _ | refine zz7 ?_ | refine zz8 ?_ _));exact BK540.out)):gb540 ≠ gb557));have n10_:=zz31 ((by rw [hg];exact Nat.ne_of_gt (blk_lt (g:=gb540) (o:=.cells #[.int .i64 a0_0,.slice A0_1 l0_1.length c0_1] 24 (0,0)) (by (with_reducible repeat (first | refine zz6 ?_ _ | refine zz7 ?_ | refine zz8 ?_ _));exact BK540.out)):gb557 ≠ gb540));clear HO545;clear HO548;clear HO551;clear HO556;clear BK540;clear HB;have HO545:=n0_;have HO548:=n1_;have HO551:=n2_;have HO556:=n3_;have BK540:=n4_;have HB:=n5_;have BK557:=n6_;have GW557:=n7_;have GE557:=n8_;have NB540_557:=n9_;have NB557_540:=n10_;clear n0_ n1_ n2_ n3_ n4_ n5_ n6_ n7_ n8_ n9_ n10_;clear hb hbox hg;have hnb29:=NB557_540.out;have hnc29:=NB540_557.out;have hcz30_0:w28.cell? ⟨gb557,0,none⟩=some (.int .i64 0):=(zz9 BK557.out 0).trans rfl;have hcz30_1:w28.cell? ⟨gb557,1,none⟩=some (.slice none 0 0):=(zz9 BK557.out 1).trans rfl;have hfz30_0:=zz10 BK557.out 0;have hfz30_1:=zz10 BK557.out 1;obtain ⟨Ao31,co31,eo31⟩:=Kd.R_slice HO556.out;subst eo31) | ((with_reducible refine gate_callee (f:=27) rfl ?_);refine goesL_ (some 36) rfl rfl Tryd.func27 (by kernel_rfl) rfl #[.slice A1 l1.length c1] rfl (by (try simp only [zz26,zz27,zz28]);first | done | rfl | (simp only [zz24,zz25];rfl)) ?_;(with_reducible refine (laws_toIntS.calls k _ _ l1 t558 _ ?side1 ?side2 A14.out).mono ?_);(case side1=>exact Kd.C_below HR1.out (by repeat first | exact HB.out | apply zz2 | apply zz0 | apply zz1 | refine zz3 ?_ GE540.out | refine zz3 ?_ GE557.out));(case side2=>exact HC1.out);rintro e w32 ⟨v559,rfl,ho0,hb⟩;refine ⟨_,rfl,?_⟩;have n0_:=zz31 (Kd.R_below (by (with_reducible repeat (first | apply zz12 | apply zz13 | apply zz14));exact (Kd.R_mono (Kd.R_far (p:=⟨gb557,1,none⟩) (Kd.R_far (p:=⟨gb557,0,none⟩) (Kd.R_types HO545.out BK557.out (by decide)) (fun _ hk=>hk.2) (.int .i64 t553)) (fun _ hk=>hk.2) (.slice Ao31 t554.length co31)) (fun _ h_=>h_.1))) hb);have n1_:=zz31 (Kd.R_elder' (by (with_reducible repeat (first | apply zz12 | apply zz13 | apply zz14));exact (Kd.R_mono (Kd.R_far (p:=⟨gb557,1,none⟩) (Kd.R_far (p:=⟨gb557,0,none⟩) (Kd.R_types HO548.out BK557.out (by decide)) (fun _ hk=>hk.2) (.int .i64 t553)) (fun _ hk=>hk.2) (.slice Ao31 t554.length co31)) (fun _ h_=>h_.1))) (Kd.R_base ho0) hb);have n2_:=zz31 (Kd.R_elder' (by (with_reducible repeat (first | apply zz12 | apply zz13 | apply zz14));exact (Kd.R_mono (Kd.R_far (p:=⟨gb557,1,none⟩) (Kd.R_far (p:=⟨gb557,0,none⟩) (Kd.R_types HO551.out BK557.out (by decide)) (fun _ hk=>hk.2) (.int .i64 t553)) (fun _ hk=>hk.2) (.slice Ao31 t554.length co31)) (fun _ h_=>h_.1))) (Kd.R_base ho0) hb);have n3_:=zz31 (Kd.R_below (by (with_reducible repeat (first | apply zz12 | apply zz13 | apply zz14));exact (Kd.R_mono (Kd.R_far (p:=⟨gb557,1,none⟩) (Kd.R_far (p:=⟨gb557,0,none⟩) (Kd.R_types HO556.out BK557.out (by decide)) (fun _ hk=>hk.2) (.int .i64 t553)) (fun _ hk=>hk.2) (.slice Ao31 t554.length co31)) (fun _ h_=>h_.1))) hb);have n4_:=zz31 (Kd.R_lower (Kd.R_new' (Kd.R_new' ho0 (Kd.R_lt (by (with_reducible repeat (first | apply zz12 | apply zz13 | apply zz14));exact (Kd.R_mono (Kd.R_far (p:=⟨gb557,1,none⟩) (Kd.R_far (p:=⟨gb557,0,none⟩) (Kd.R_types HO548.out BK557.out (by decide)) (fun _ hk=>hk.2) (.int .i64 t553)) (fun _ hk=>hk.2) (.slice Ao31 t554.length co31)) (fun _ h_=>h_.1))))) (Kd.R_lt (by (with_reducible repeat (first | apply zz12 | apply zz13 | apply zz14));exact (Kd.R_mono (Kd.R_far (p:=⟨gb557,1,none⟩) (Kd.R_far (p:=⟨gb557,0,none⟩) (Kd.R_types HO551.out BK557.out (by decide)) (fun _ hk=>hk.2) (.int .i64 t553)) (fun _ hk=>hk.2) (.slice Ao31 t554.length co31)) (fun _ h_=>h_.1))))) (zz5 (by repeat first | exact HB.out | apply zz2 | apply zz0 | apply zz1 | refine zz3 ?_ GE540.out | refine zz3 ?_ GE557.out)));have n5_:=zz31 (zz11 (g:=gb540) (o:=.cells #[.int .i64 a0_0,.slice A0_1 l0_1.length c0_1] 24 (0,0)) (by (with_reducible repeat (first | refine zz6 ?_ _ | refine zz7 ?_ | refine zz8 ?_ _));refine blk_far ?_ NB540_557.out _;(with_reducible repeat (first | refine zz6 ?_ _ | refine zz7 ?_ | refine zz8 ?_ _));refine blk_far ?_ NB540_557.out _;(with_reducible repeat (first | refine zz6 ?_ _ | refine zz7 ?_ | refine zz8 ?_ _));exact BK540.out) hb);have n6_:=zz31 (zz11 (g:=gb557) (o:=.cells #[.int .i64 t553,.slice Ao31 t554.length co31] 30 (0,0)) (by (with_reducible repeat (first | refine zz6 ?_ _ | refine zz7 ?_ | refine zz8 ?_ _));refine blk_put (cs:=#[.int .i64 t553,.slice none 0 0]) ?_ 1 _ rfl;(with_reducible repeat (first | refine zz6 ?_ _ | refine zz7 ?_ | refine zz8 ?_ _));refine blk_put (cs:=#[.int .i64 0,.slice none 0 0]) ?_ 0 _ rfl;(with_reducible repeat (first | refine zz6 ?_ _ | refine zz7 ?_ | refine zz8 ?_ _));exact BK557.out) hb);have n7_:=zz31 (zz4 (by repeat first | exact HB.out | apply zz2 | apply zz0 | apply zz1 | refine zz3 ?_ GE540.out | refine zz3 ?_ GE557.out) hb);clear HO545;clear HO548;clear HO551;clear HO556;clear BK540;clear BK557;clear HB;have HO545:=n0_;have HO548:=n1_;have HO551:=n2_;have HO556:=n3_;have HO560:=n4_;have BK540:=n5_;have BK557:=n6_;have HB:=n7_;clear n0_ n1_ n2_ n3_ n4_ n5_ n6_ n7_;(try clear hb);(try clear hb2);(try clear hk);(try clear hi);(try clear ho0);have hcz33_0:w32.cell? ⟨gb557,0,none⟩=some (.int .i64 t553):=(zz9 BK557.out 0).trans rfl;have hcz33_1:w32.cell? ⟨gb557,1,none⟩=some (.slice Ao31 t554.length co31):=(zz9 BK557.out 1).trans rfl;have hfz33_0:=zz10 BK557.out 0;have hfz33_1:=zz10 BK557.out 1;obtain ⟨Ao34,co34,eo34⟩:=Kd.R_slice HO560.out;subst eo34) | ((with_reducible refine gate_callee (f:=28) rfl ?_);refine goesL_ (some 40) rfl rfl Tryd.func28 (by kernel_rfl) rfl #[.agg #[.int .i64 t553,.slice Ao31 t554.length co31],.slice Ao34 t558.length co34] rfl (by (try simp only [zz26,zz27,zz28]);first | done | rfl | (simp only [zz24,zz25];rfl)) ?_;(with_reducible refine (impl_GreedyColouring.calls k t553 _ _ t554 _ _ t558 t561 t564 _ ?side1 ?side2 ?side3 ?side4 A15.out (HT.out.below (by repeat first | exact HB.out | apply zz2 | apply zz0 | apply zz1 | refine zz3 ?_ GE540.out | refine zz3 ?_ GE557.out))).mono ?_);(case side1=>repeat (first | exact (Kd.R_reads' HO556.out).2.2 | (with_reducible refine zz18 ?_ _) | (with_reducible refine zz19 ?_ _) | (with_reducible refine zz20 ?_)));(case side2=>exact (Kd.R_reads' HO556.out).2.1);(case side3=>repeat (first | exact (Kd.R_reads' HO560.out).2.2 | (with_reducible refine zz18 ?_ _) | (with_reducible refine zz19 ?_ _) | (with_reducible refine zz20 ?_)));(case side4=>exact (Kd.R_reads' HO560.out).2.1);rintro e w35 ⟨v562,rfl,ho0,hb⟩;refine ⟨_,rfl,?_⟩;have n0_:=zz31 (Kd.R_below (by (with_reducible repeat (first | apply zz12 | apply zz13 | apply zz14));exact HO545.out) hb);have n1_:=zz31 (Kd.R_elder' (by (with_reducible repeat (first | apply zz12 | apply zz13 | apply zz14));exact HO548.out) (Kd.R_base ho0) hb);have n2_:=zz31 (Kd.R_elder' (by (with_reducible repeat (first | apply zz12 | apply zz13 | apply zz14));exact HO551.out) (Kd.R_base ho0) hb);have n3_:=zz31 (Kd.R_below (by (with_reducible repeat (first | apply zz12 | apply zz13 | apply zz14));exact HO556.out) hb);have n4_:=zz31 (Kd.R_elder' (by (with_reducible repeat (first | apply zz12 | apply zz13 | apply zz14));exact HO560.out) (Kd.R_base ho0) hb);have n5_:=zz31 (Kd.R_lower (Kd.R_new' (Kd.R_new' (Kd.R_new' ho0 (Kd.R_lt (by (with_reducible repeat (first | apply zz12 | apply zz13 | apply zz14));exact HO548.out))) (Kd.R_lt (by (with_reducible repeat (first | apply zz12 | apply zz13 | apply zz14));exact HO551.out))) (Kd.R_lt (by (with_reducible repeat (first | apply zz12 | apply zz13 | apply zz14));exact HO560.out))) (zz5 (by repeat first | exact HB.out | apply zz2 | apply zz0 | apply zz1 | refine zz3 ?_ GE540.out | refine zz3 ?_ GE557.out)));have n6_:=zz31 (zz11 (g:=gb540) (o:=.cells #[.int .i64 a0_0,.slice A0_1 l0_1.length c0_1] 24 (0,0)) (by (with_reducible repeat (first | refine zz6 ?_ _ | refine zz7 ?_ | refine zz8 ?_ _));exact BK540.out) hb);have n7_:=zz31 (zz11 (g:=gb557) (o:=.cells #[.int .i64 t553,.slice Ao31 t554.length co31] 30 (0,0)) (by (with_reducible repeat (first | refine zz6 ?_ _ | refine zz7 ?_ | refine zz8 ?_ _));exact BK557.out) hb);have n8_:=zz31 (zz4 (by repeat first | exact HB.out | apply zz2 | apply zz0 | apply zz1 | refine zz3 ?_ GE540.out | refine zz3 ?_ GE557.out) hb);clear HO545;clear HO548;clear HO551;clear HO556;clear HO560;clear BK540;clear BK557;clear HB;have HO545:=n0_;have HO548:=n1_;have HO551:=n2_;have HO556:=n3_;have HO560:=n4_;have HO563:=n5_;have BK540:=n6_;have BK557:=n7_;have HB:=n8_;clear n0_ n1_ n2_ n3_ n4_ n5_ n6_ n7_ n8_;(try clear hb);(try clear hb2);(try clear hk);(try clear hi);(try clear ho0)))
   (try simp only [Act.put,zz21,zz22,zz23])
   go_cut [51] (fun v51 wc=>∃ (kq:Nat) (x51_15:Bool),v51=.bool x51_15∧Aside0 (laws_FnExactGreedyColouring.j0 kq l1 t549 t552 t558 t561 t564 x51_15 a0_0 l0_1 t553 t554=some r)∧Aside0 (kq≤k)∧Aside0 (Kd.R (Kd.int .i64) 3 wc w.heap.size (fun k_=>some k_ ≠ ((.slice Ao34 t558.length co34):Value).ownBlock∧some k_ ≠ (v562:Value).ownBlock) v550 t549)∧Aside0 (Kd.R (Kd.int .i64) 3 wc w.heap.size (fun k_=>some k_ ≠ (v550:Value).ownBlock∧some k_ ≠ (v562:Value).ownBlock) (.slice Ao34 t558.length co34) t558)∧Aside0 (Kd.R (Kd.int .i64) 3 wc w.heap.size (fun k_=>some k_ ≠ (v550:Value).ownBlock∧some k_ ≠ ((.slice Ao34 t558.length co34):Value).ownBlock) v562 t561)∧Aside0 (Kd.R k74 74 wc w.heap.size (fun _=>True) (.slice Ao31 t554.length co31) t554)∧Aside0 (wc.heap[gb540]?=some (.cells #[.int .i64 a0_0,(.slice A0_1 l0_1.length c0_1)] 24 (0,0)))∧Aside0 (wc.heap[gb557]?=some (.cells #[.int .i64 t553,(.slice Ao31 t554.length co31)] 30 (0,0)))∧Aside0 (Below w.heap.size w wc))
   case first =>
    have H:=HC16.out
    clear HC16
    replace H:=zz30.mp H
    obtain ⟨t565,A360,H⟩:=H
    replace H:(if t565=true then (laws_FnExactGreedyColouring.j0 k l1 t549 t552 t558 t561 t564 (t564 != t552) a0_0 l0_1 t553 t554) else (laws_FnExactGreedyColouring.j0 k l1 t549 t552 t558 t561 t564 true a0_0 l0_1 t553 t554))=some r:=H
    have A36:=zz31 A360
    clear A360
    by_cases c37:t565=true
    ·subst c37
     have H1:(laws_FnExactGreedyColouring.j0 k l1 t549 t552 t558 t561 t564 (t564 != t552) a0_0 l0_1 t553 t554)=some r:=by rw [if_pos rfl] at H;exact H
     clear H
     have H:=H1
     clear H1
     have H':=zz31 H
     clear H
     obtain ⟨Ao38,co38,eo38⟩:=Kd.R_slice HO563.out
     subst eo38
     obtain ⟨Ao39,co39,eo39⟩:=Kd.R_slice HO551.out
     subst eo39
     go_wp2_with (first | ((with_reducible refine gate_callee (f:=18) rfl ?_);refine goesL_ (some 45) rfl rfl Tryd.func18 (by kernel_rfl) rfl #[.slice Ao38 t561.length co38,.slice Ao39 t549.length co39] rfl (by (try simp only [zz26,zz27,zz28]);first | done | rfl | (simp only [zz24,zz25];rfl)) ?_;(with_reducible refine (laws_eqIntS.calls k _ _ t561 _ _ t549 true _ ?side1 ?side2 ?side3 ?side4 A36.out).mono ?_);(case side1=>repeat (first | exact (Kd.R_reads' HO563.out).2.2 | (with_reducible refine zz18 ?_ _) | (with_reducible refine zz19 ?_ _) | (with_reducible refine zz20 ?_)));(case side2=>exact (Kd.R_reads' HO563.out).2.1);(case side3=>repeat (first | exact (Kd.R_reads' HO551.out).2.2 | (with_reducible refine zz18 ?_ _) | (with_reducible refine zz19 ?_ _) | (with_reducible refine zz20 ?_)));(case side4=>exact (Kd.R_reads' HO551.out).2.1);rintro e w' ⟨rfl,⟨nd,rfl⟩⟩;refine ⟨_,rfl,?_⟩))
     go_meet
     case rel=>exact ⟨_,((t564 != t552)),(by first | rfl | (simp;done) | (simp [*];done)),H',⟨by first | omega | exact Nat.le_refl _⟩,⟨by (with_reducible repeat (first | apply zz12 | apply zz13 | apply zz14));exact Kd.R_mono HO551.out (fun _ hk=>⟨hk.1.2,hk.2⟩)⟩,⟨by (with_reducible repeat (first | apply zz12 | apply zz13 | apply zz14));exact Kd.R_mono HO560.out (fun _ hk=>⟨hk.1.2,hk.2⟩)⟩,⟨by (with_reducible repeat (first | apply zz12 | apply zz13 | apply zz14));exact Kd.R_mono HO563.out (fun _ hk=>⟨hk.1.2,hk.2⟩)⟩,⟨by (with_reducible repeat (first | apply zz12 | apply zz13 | apply zz14));exact Kd.R_mono HO556.out (fun _ hk=>trivial)⟩,⟨by (with_reducible repeat (first | refine zz6 ?_ _ | refine zz7 ?_ | refine zz8 ?_ _));exact BK540.out⟩,⟨by (with_reducible repeat (first | refine zz6 ?_ _ | refine zz7 ?_ | refine zz8 ?_ _));exact BK557.out⟩,⟨by repeat first | exact HB.out | apply zz2 | apply zz0 | apply zz1 | refine zz3 ?_ GE540.out | refine zz3 ?_ GE557.out⟩⟩
    ·replace c37:=Bool.eq_false_iff.mpr c37
     subst c37
     have H1:(laws_FnExactGreedyColouring.j0 k l1 t549 t552 t558 t561 t564 true a0_0 l0_1 t553 t554)=some r:=by rw [if_neg (show ¬ (false=true) by decide)] at H;exact H
     clear H
     have H:=H1
     clear H1
     have H':=zz31 H
     clear H
     obtain ⟨Ao40,co40,eo40⟩:=Kd.R_slice HO563.out
     subst eo40
     obtain ⟨Ao41,co41,eo41⟩:=Kd.R_slice HO551.out
     subst eo41
     go_wp2_with (first | ((with_reducible refine gate_callee (f:=18) rfl ?_);refine goesL_ (some 45) rfl rfl Tryd.func18 (by kernel_rfl) rfl #[.slice Ao40 t561.length co40,.slice Ao41 t549.length co41] rfl (by (try simp only [zz26,zz27,zz28]);first | done | rfl | (simp only [zz24,zz25];rfl)) ?_;(with_reducible refine (laws_eqIntS.calls k _ _ t561 _ _ t549 false _ ?side1 ?side2 ?side3 ?side4 A36.out).mono ?_);(case side1=>repeat (first | exact (Kd.R_reads' HO563.out).2.2 | (with_reducible refine zz18 ?_ _) | (with_reducible refine zz19 ?_ _) | (with_reducible refine zz20 ?_)));(case side2=>exact (Kd.R_reads' HO563.out).2.1);(case side3=>repeat (first | exact (Kd.R_reads' HO551.out).2.2 | (with_reducible refine zz18 ?_ _) | (with_reducible refine zz19 ?_ _) | (with_reducible refine zz20 ?_)));(case side4=>exact (Kd.R_reads' HO551.out).2.1);rintro e w' ⟨rfl,⟨nd,rfl⟩⟩;refine ⟨_,rfl,?_⟩))
     go_meet
     case rel=>exact ⟨_,(true),(by first | rfl | (simp;done) | (simp [*];done)),H',⟨by first | omega | exact Nat.le_refl _⟩,⟨by (with_reducible repeat (first | apply zz12 | apply zz13 | apply zz14));exact Kd.R_mono HO551.out (fun _ hk=>⟨hk.1.2,hk.2⟩)⟩,⟨by (with_reducible repeat (first | apply zz12 | apply zz13 | apply zz14));exact Kd.R_mono HO560.out (fun _ hk=>⟨hk.1.2,hk.2⟩)⟩,⟨by (with_reducible repeat (first | apply zz12 | apply zz13 | apply zz14));exact Kd.R_mono HO563.out (fun _ hk=>⟨hk.1.2,hk.2⟩)⟩,⟨by (with_reducible repeat (first | apply zz12 | apply zz13 | apply zz14));exact Kd.R_mono HO556.out (fun _ hk=>trivial)⟩,⟨by (with_reducible repeat (first | refine zz6 ?_ _ | refine zz7 ?_ | refine zz8 ?_ _));exact BK540.out⟩,⟨by (with_reducible repeat (first | refine zz6 ?_ _ | refine zz7 ?_ | refine zz8 ?_ _));exact BK557.out⟩,⟨by repeat first | exact HB.out | apply zz2 | apply zz0 | apply zz1 | refine zz3 ?_ GE540.out | refine zz3 ?_ GE557.out⟩⟩
   case rest =>
    clear HC16
    try clear c1
    try clear c2
    try clear p2
    try clear c3
    try clear c3b0
    try clear c3b1
    try clear c6
    try clear c6b0
    try clear c8
    try clear c9
    try clear c11
    try clear c18
    try clear c26
    try clear c27
    try clear c28
    try clear c29
    try clear c37
    try clear hcz18_0
    try clear hcz18_1
    try clear hcz20_0
    try clear hcz20_1
    try clear hcz26_0
    try clear hcz26_1
    try clear hcz30_0
    try clear hcz30_1
    try clear hcz33_0
    try clear hcz33_1
    try clear hcz8_0
    try clear hcz8_1
    try clear hfz18_0
    try clear hfz18_1
    try clear hfz20_0
    try clear hfz20_1
    try clear hfz26_0
    try clear hfz26_1
    try clear hfz30_0
    try clear hfz30_1
    try clear hfz33_0
    try clear hfz33_1
    try clear hfz8_0
    try clear hfz8_1
    obtain ⟨kq,x51_15,rfl,HA,HJ15,HO_6,HO_9,HO_10,HO_558001,BK540,BK557,HB⟩:=hcut
    cases kq with
    | zero=>exact absurd HA.out (by simp [laws_FnExactGreedyColouring.j0])
    | succ kj15 =>
     have H:=HA.out
     clear HA
     simp only [laws_FnExactGreedyColouring.j0] at H
     by_cases c42:x51_15=true
     ·subst c42
      have H1:(some false)=some r:=by rw [if_pos rfl] at H;exact H
      clear H
      have H:=H1
      clear H1
      obtain rfl:=Option.some.inj H
      go_wp2
      go_ret
      exact ⟨by first | rfl | (simp [errW_none,errW_some] <;> rfl) | (simp [*,errW_none,errW_some] <;> rfl),by repeat first | exact HB.out | apply zz2 | apply zz0 | apply zz1 | refine zz3 ?_ GE540.out | refine zz3 ?_ GE557.out⟩
     ·replace c42:=Bool.eq_false_iff.mpr c42
      subst c42
      have H1:((laws_toParty.f kj15 a0_0 l0_1).bind fun bt566=>((laws_eqParty.f kj15 t553 t554 bt566.1 bt566.2).bind fun t570=>(if t570=true then ((laws_toIntS.f kj15 l1).bind fun t571=>((laws_eqIntS.f kj15 t558 t571).bind fun t574=>(if t574=true then ((laws_markParty.f kj15 t553 t554 1).bind fun bt575=>((laws_markIntS.f kj15 t558 bt575.1).bind fun bt577=>(if bt577.1 < 0 then (laws_FnExactGreedyColouring.j1 kj15 l1 t549 t552 t561 true a0_0 l0_1) else ((laws_eqIntS.f kj15 t561 t549).bind fun t579=>(if t579=true then (laws_FnExactGreedyColouring.j1 kj15 l1 t549 t552 t561 (t564 != t552) a0_0 l0_1) else (laws_FnExactGreedyColouring.j1 kj15 l1 t549 t552 t561 true a0_0 l0_1)))))) else (some false)))) else (some false))))=some r:=by rw [if_neg (show ¬ (false=true) by decide)] at H;exact H
      clear H
      have H:=H1
      clear H1
      replace H:=zz30.mp H
      obtain ⟨⟨t566,t567⟩,A430,H⟩:=H
      replace H:((laws_eqParty.f kj15 t553 t554 t566 t567).bind fun t570=>(if t570=true then ((laws_toIntS.f kj15 l1).bind fun t571=>((laws_eqIntS.f kj15 t558 t571).bind fun t574=>(if t574=true then ((laws_markParty.f kj15 t553 t554 1).bind fun bt575=>((laws_markIntS.f kj15 t558 bt575.1).bind fun bt577=>(if bt577.1 < 0 then (laws_FnExactGreedyColouring.j1 kj15 l1 t549 t552 t561 true a0_0 l0_1) else ((laws_eqIntS.f kj15 t561 t549).bind fun t579=>(if t579=true then (laws_FnExactGreedyColouring.j1 kj15 l1 t549 t552 t561 (t564 != t552) a0_0 l0_1) else (laws_FnExactGreedyColouring.j1 kj15 l1 t549 t552 t561 true a0_0 l0_1)))))) else (some false)))) else (some false)))=some r:=H
      have A43:=zz31 A430
      clear A430
      replace H:=zz30.mp H
      obtain ⟨t570,A440,H⟩:=H
      replace H:(if t570=true then ((laws_toIntS.f kj15 l1).bind fun t571=>((laws_eqIntS.f kj15 t558 t571).bind fun t574=>(if t574=true then ((laws_markParty.f kj15 t553 t554 1).bind fun bt575=>((laws_markIntS.f kj15 t558 bt575.1).bind fun bt577=>(if bt577.1 < 0 then (laws_FnExactGreedyColouring.j1 kj15 l1 t549 t552 t561 true a0_0 l0_1) else ((laws_eqIntS.f kj15 t561 t549).bind fun t579=>(if t579=true then (laws_FnExactGreedyColouring.j1 kj15 l1 t549 t552 t561 (t564 != t552) a0_0 l0_1) else (laws_FnExactGreedyColouring.j1 kj15 l1 t549 t552 t561 true a0_0 l0_1)))))) else (some false)))) else (some false))=some r:=H
      have A44:=zz31 A440
      clear A440
      by_cases c45:t570=true
      ·subst c45
       have H1:((laws_toIntS.f kj15 l1).bind fun t571=>((laws_eqIntS.f kj15 t558 t571).bind fun t574=>(if t574=true then ((laws_markParty.f kj15 t553 t554 1).bind fun bt575=>((laws_markIntS.f kj15 t558 bt575.1).bind fun bt577=>(if bt577.1 < 0 then (laws_FnExactGreedyColouring.j1 kj15 l1 t549 t552 t561 true a0_0 l0_1) else ((laws_eqIntS.f kj15 t561 t549).bind fun t579=>(if t579=true then (laws_FnExactGreedyColouring.j1 kj15 l1 t549 t552 t561 (t564 != t552) a0_0 l0_1) else (laws_FnExactGreedyColouring.j1 kj15 l1 t549 t552 t561 true a0_0 l0_1)))))) else (some false))))=some r:=by rw [if_pos rfl] at H;exact H
       clear H
       have H:=H1
       clear H1
       replace H:=zz30.mp H
       obtain ⟨t571,A460,H⟩:=H
       replace H:((laws_eqIntS.f kj15 t558 t571).bind fun t574=>(if t574=true then ((laws_markParty.f kj15 t553 t554 1).bind fun bt575=>((laws_markIntS.f kj15 t558 bt575.1).bind fun bt577=>(if bt577.1 < 0 then (laws_FnExactGreedyColouring.j1 kj15 l1 t549 t552 t561 true a0_0 l0_1) else ((laws_eqIntS.f kj15 t561 t549).bind fun t579=>(if t579=true then (laws_FnExactGreedyColouring.j1 kj15 l1 t549 t552 t561 (t564 != t552) a0_0 l0_1) else (laws_FnExactGreedyColouring.j1 kj15 l1 t549 t552 t561 true a0_0 l0_1)))))) else (some false)))=some r:=H
       have A46:=zz31 A460
       clear A460
       replace H:=zz30.mp H
       obtain ⟨t574,A470,H⟩:=H
       replace H:(if t574=true then ((laws_markParty.f kj15 t553 t554 1).bind fun bt575=>((laws_markIntS.f kj15 t558 bt575.1).bind fun bt577=>(if bt577.1 < 0 then (laws_FnExactGreedyColouring.j1 kj15 l1 t549 t552 t561 true a0_0 l0_1) else ((laws_eqIntS.f kj15 t561 t549).bind fun t579=>(if t579=true then (laws_FnExactGreedyColouring.j1 kj15 l1 t549 t552 t561 (t564 != t552) a0_0 l0_1) else (laws_FnExactGreedyColouring.j1 kj15 l1 t549 t552 t561 true a0_0 l0_1)))))) else (some false))=some r:=H
       have A47:=zz31 A470
       clear A470
       by_cases c48:t574=true
       ·subst c48
        have H1:((laws_markParty.f kj15 t553 t554 1).bind fun bt575=>((laws_markIntS.f kj15 t558 bt575.1).bind fun bt577=>(if bt577.1 < 0 then (laws_FnExactGreedyColouring.j1 kj15 l1 t549 t552 t561 true a0_0 l0_1) else ((laws_eqIntS.f kj15 t561 t549).bind fun t579=>(if t579=true then (laws_FnExactGreedyColouring.j1 kj15 l1 t549 t552 t561 (t564 != t552) a0_0 l0_1) else (laws_FnExactGreedyColouring.j1 kj15 l1 t549 t552 t561 true a0_0 l0_1))))))=some r:=by rw [if_pos rfl] at H;exact H
        clear H
        have H:=H1
        clear H1
        replace H:=zz30.mp H
        obtain ⟨⟨t575,t576⟩,A490,H⟩:=H
        replace H:((laws_markIntS.f kj15 t558 t575).bind fun bt577=>(if bt577.1 < 0 then (laws_FnExactGreedyColouring.j1 kj15 l1 t549 t552 t561 true a0_0 l0_1) else ((laws_eqIntS.f kj15 t561 t549).bind fun t579=>(if t579=true then (laws_FnExactGreedyColouring.j1 kj15 l1 t549 t552 t561 (t564 != t552) a0_0 l0_1) else (laws_FnExactGreedyColouring.j1 kj15 l1 t549 t552 t561 true a0_0 l0_1)))))=some r:=H
        have A49:=zz31 A490
        clear A490
        replace H:=zz30.mp H
        obtain ⟨⟨t577,t578⟩,A500,H⟩:=H
        replace H:(if t577 < 0 then (laws_FnExactGreedyColouring.j1 kj15 l1 t549 t552 t561 true a0_0 l0_1) else ((laws_eqIntS.f kj15 t561 t549).bind fun t579=>(if t579=true then (laws_FnExactGreedyColouring.j1 kj15 l1 t549 t552 t561 (t564 != t552) a0_0 l0_1) else (laws_FnExactGreedyColouring.j1 kj15 l1 t549 t552 t561 true a0_0 l0_1))))=some r:=H
        have A50:=zz31 A500
        clear A500
        have HC51:=zz31 H
        clear H
        try go_wp2
        have n0_:=zz31 (zz14 HO_6.out)
        have n1_:=zz31 (zz14 HO_9.out)
        have n2_:=zz31 (zz14 HO_10.out)
        have n3_:=zz31 (zz14 HO_558001.out)
        have n4_:=zz31 (zz7 BK540.out)
        have n5_:=zz31 (zz7 BK557.out)
        have n6_:=zz31 (zz1 HB.out)
        clear HO_6
        clear HO_9
        clear HO_10
        clear HO_558001
        clear BK540
        clear BK557
        clear HB
        have HO_6:=n0_
        have HO_9:=n1_
        have HO_10:=n2_
        have HO_558001:=n3_
        have BK540:=n4_
        have BK557:=n5_
        have HB:=n6_
        clear n0_ n1_ n2_ n3_ n4_ n5_ n6_
        refine start_ (n:=5) (S:=fun w'=>w'.cell? ⟨gb557,0,none⟩=some (.int .i64 t553)∧w'.cell? ⟨gb557,1,none⟩=some (.slice Ao31 t554.length co31)∧w'.cell? ⟨gb540,0,none⟩=some (.int .i64 a0_0)∧w'.cell? ⟨gb540,1,none⟩=some (.slice A0_1 l0_1.length c0_1)) (ds:=[]) #[F,F,F,F,F] (by kernel_rfl) rfl rfl ⟨(zz9 BK557.out 0).trans rfl,(zz9 BK557.out 1).trans rfl,(zz9 BK540.out 0).trans rfl,(zz9 BK540.out 1).trans rfl⟩ (fun hHeld=>?_)
        generalize wc.drew=w52 at HO_6 HO_9 HO_10 HO_558001 BK540 BK557 HB hHeld ⊢
        refine take_ (i:=0) (N:=some 52) (v:=?_) (a':=?_) #[T,F,F,F,F] rfl rfl (by kernel_rfl) (fun _ _ _ h=>h) (Or.inl ⟨by rfl,?_⟩) hHeld ?_ ?_
        rotate_left
        ·rintro w' ⟨s0,s1,s2,s3⟩
         go_simp
         with_reducible rfl
        rotate_left
        ·simp only [Act.put,zz21,zz22,zz23,i64_w,i32_w]
         rfl
        refine take_ (i:=1) (N:=some 53) (v:=?_) (a':=?_) #[T,T,F,F,F] rfl rfl (by kernel_rfl) (fun _ _ _ h=>h) (Or.inl ⟨by rfl,?_⟩) hHeld ?_ ?_
        rotate_left
        ·rintro w' ⟨s0,s1,s2,s3⟩
         go_simp
         with_reducible rfl
        rotate_left
        ·simp only [Act.put,zz21,zz22,zz23,i64_w,i32_w]
         rfl
        refine one_ (i:=2) (N:=some 54) #[T,T,T,F,F] rfl rfl (by kernel_rfl) (by decide) (fun K hK=>?_)
        refine goes_ Tryd.func11 (by kernel_rfl) rfl #[.agg #[.int .i64 a0_0,.slice A0_1 l0_1.length c0_1]] (by rfl) rfl rfl (by (try simp only [zz26,zz27,zz28]);first | done | rfl | (simp only [zz24,zz25];rfl)) ?_
        with_reducible refine (laws_toParty.calls kj15 a0_0 _ _ l0_1 t566 t567 _ ?side1 ?side2 A43.out).mono ?_
        (case side1=>repeat (first | exact (Kd.C_below HR0_1.out HB.out) | (with_reducible refine zz18 ?_ _) | (with_reducible refine zz19 ?_ _) | (with_reducible refine zz20 ?_)))
        (case side2=>exact HC0_1.out)
        rintro e w53 ⟨v568,rfl,ho0,hb⟩
        refine ⟨_,rfl,?_⟩
        have n0_:=zz31 (Kd.R_below (by (with_reducible repeat (first | apply zz12 | apply zz13 | apply zz14));exact HO_6.out) hb)
        have n1_:=zz31 (Kd.R_below (by (with_reducible repeat (first | apply zz12 | apply zz13 | apply zz14));exact HO_9.out) hb)
        have n2_:=zz31 (Kd.R_below (by (with_reducible repeat (first | apply zz12 | apply zz13 | apply zz14));exact HO_10.out) hb)
        have n3_:=zz31 (Kd.R_elder' (by (with_reducible repeat (first | apply zz12 | apply zz13 | apply zz14));exact HO_558001.out) (Kd.R_base ho0) hb)
        have n4_:=zz31 (Kd.R_lower (Kd.R_new' ho0 (Kd.R_lt (by (with_reducible repeat (first | apply zz12 | apply zz13 | apply zz14));exact HO_558001.out))) (zz5 (by repeat first | exact HB.out | apply zz2 | apply zz0 | apply zz1 | refine zz3 ?_ GE540.out | refine zz3 ?_ GE557.out)))
        have n5_:=zz31 (zz11 (g:=gb540) (o:=.cells #[.int .i64 a0_0,.slice A0_1 l0_1.length c0_1] 24 (0,0)) (by (with_reducible repeat (first | refine zz6 ?_ _ | refine zz7 ?_ | refine zz8 ?_ _));exact BK540.out) hb)
        have n6_:=zz31 (zz11 (g:=gb557) (o:=.cells #[.int .i64 t553,.slice Ao31 t554.length co31] 30 (0,0)) (by (with_reducible repeat (first | refine zz6 ?_ _ | refine zz7 ?_ | refine zz8 ?_ _));exact BK557.out) hb)
        have n7_:=zz31 (zz4 (by repeat first | exact HB.out | apply zz2 | apply zz0 | apply zz1 | refine zz3 ?_ GE540.out | refine zz3 ?_ GE557.out) hb)
        clear HO_6
        clear HO_9
        clear HO_10
        clear HO_558001
        clear BK540
        clear BK557
        clear HB
        have HO_6:=n0_
        have HO_9:=n1_
        have HO_10:=n2_
        have HO_558001:=n3_
        have HO569:=n4_
        have BK540:=n5_
        have BK557:=n6_
        have HB:=n7_
        clear n0_ n1_ n2_ n3_ n4_ n5_ n6_ n7_
        (try clear hb)
        (try clear hb2)
        (try clear hk)
        (try clear hi)
        (try clear ho0)
        obtain ⟨Ao54,co54,eo54⟩:=Kd.R_slice HO569.out
        (first | subst eo54 | (injection eo54 with f1_ f2_ f3_;have f4_:=f1_.symm;have f5_:=f3_.symm;clear f1_ f2_ f3_;subst f4_;subst f5_))
        refine hK.out _ _ ⟨(zz9 BK557.out 0).trans rfl,(zz9 BK557.out 1).trans rfl,(zz9 BK540.out 0).trans rfl,(zz9 BK540.out 1).trans rfl⟩ (fun hHeld=>?_)
        clear hK K
        refine norm_ (a':=?_) ?_ ?_
        rotate_left
        ·show Act.put _ (some 54) _=_
         simp only [Act.put,zz21,zz22,zz23,i64_w,i32_w]
         rfl
        refine one_ (i:=3) (N:=some 55) #[T,T,T,T,F] rfl rfl (by kernel_rfl) (by decide) (fun K hK=>?_)
        refine goes_ Tryd.func13 (by kernel_rfl) rfl #[.agg #[.int .i64 t553,.slice Ao31 t554.length co31],.agg #[.int .i64 t566,.slice Ao54 t567.length co54]] (by rfl) rfl rfl (by (try simp only [zz26,zz27,zz28]);first | done | rfl | (simp only [zz24,zz25];rfl)) ?_
        with_reducible refine (laws_eqParty.calls kj15 t553 _ _ t554 t566 _ _ t567 true _ ?side1 ?side2 ?side3 ?side4 A44.out).mono ?_
        (case side1=>repeat (first | exact (Kd.R_reads' HO_558001.out).2.2 | (with_reducible refine zz18 ?_ _) | (with_reducible refine zz19 ?_ _) | (with_reducible refine zz20 ?_)))
        (case side2=>exact (Kd.R_reads' HO_558001.out).2.1)
        (case side3=>repeat (first | exact (Kd.R_reads' HO569.out).2.2 | (with_reducible refine zz18 ?_ _) | (with_reducible refine zz19 ?_ _) | (with_reducible refine zz20 ?_)))
        (case side4=>exact (Kd.R_reads' HO569.out).2.1)
        rintro e w55 ⟨rfl,hb⟩
        refine ⟨_,rfl,?_⟩
        have n0_:=zz31 (Kd.R_below (by (with_reducible repeat (first | apply zz12 | apply zz13 | apply zz14));exact HO_6.out) hb)
        have n1_:=zz31 (Kd.R_below (by (with_reducible repeat (first | apply zz12 | apply zz13 | apply zz14));exact HO_9.out) hb)
        have n2_:=zz31 (Kd.R_below (by (with_reducible repeat (first | apply zz12 | apply zz13 | apply zz14));exact HO_10.out) hb)
        have n3_:=zz31 (Kd.R_below (by (with_reducible repeat (first | apply zz12 | apply zz13 | apply zz14));exact HO_558001.out) hb)
        have n4_:=zz31 (Kd.R_below (by (with_reducible repeat (first | apply zz12 | apply zz13 | apply zz14));exact HO569.out) hb)
        have n5_:=zz31 (zz11 (g:=gb540) (o:=.cells #[.int .i64 a0_0,.slice A0_1 l0_1.length c0_1] 24 (0,0)) (by (with_reducible repeat (first | refine zz6 ?_ _ | refine zz7 ?_ | refine zz8 ?_ _));exact BK540.out) hb)
        have n6_:=zz31 (zz11 (g:=gb557) (o:=.cells #[.int .i64 t553,.slice Ao31 t554.length co31] 30 (0,0)) (by (with_reducible repeat (first | refine zz6 ?_ _ | refine zz7 ?_ | refine zz8 ?_ _));exact BK557.out) hb)
        have n7_:=zz31 (zz4 (by repeat first | exact HB.out | apply zz2 | apply zz0 | apply zz1 | refine zz3 ?_ GE540.out | refine zz3 ?_ GE557.out) hb)
        clear HO_6
        clear HO_9
        clear HO_10
        clear HO_558001
        clear HO569
        clear BK540
        clear BK557
        clear HB
        have HO_6:=n0_
        have HO_9:=n1_
        have HO_10:=n2_
        have HO_558001:=n3_
        have HO569:=n4_
        have BK540:=n5_
        have BK557:=n6_
        have HB:=n7_
        clear n0_ n1_ n2_ n3_ n4_ n5_ n6_ n7_
        (try clear hb)
        (try clear hb2)
        (try clear hk)
        (try clear hi)
        refine hK.out _ _ ⟨(zz9 BK557.out 0).trans rfl,(zz9 BK557.out 1).trans rfl,(zz9 BK540.out 0).trans rfl,(zz9 BK540.out 1).trans rfl⟩ (fun hHeld=>?_)
        clear hK K
        refine norm_ (a':=?_) ?_ ?_
        rotate_left
        ·show Act.put _ (some 55) _=_
         simp only [Act.put,zz21,zz22,zz23,i64_w,i32_w]
         rfl
        refine pure_ (i:=4) (N:=some 56) (v:=?_) (a':=?_) #[T,T,T,T,T] rfl rfl (by kernel_rfl) (fun _ _ _ h=>h) (Or.inl ⟨by rfl,?_⟩) ?_ ?_
        rotate_left
        ·intro w'
         go_simp
         with_reducible rfl
        rotate_left
        ·simp only [Act.put,zz21,zz22,zz23,i64_w,i32_w]
         rfl
        refine done_ (by kernel_rfl) ?_
        go_upto_region 20 with (first | ((with_reducible refine gate_callee (f:=27) rfl ?_);refine goesL_ (some 59) rfl rfl Tryd.func27 (by kernel_rfl) rfl #[.slice A1 l1.length c1] rfl (by (try simp only [zz26,zz27,zz28]);first | done | rfl | (simp only [zz24,zz25];rfl)) ?_;(with_reducible refine (laws_toIntS.calls kj15 _ _ l1 t571 _ ?side1 ?side2 A46.out).mono ?_);(case side1=>repeat (first | exact (Kd.C_below HR1.out HB.out) | (with_reducible refine zz18 ?_ _) | (with_reducible refine zz19 ?_ _) | (with_reducible refine zz20 ?_)));(case side2=>exact HC1.out);rintro e w56 ⟨v572,rfl,ho0,hb⟩;refine ⟨_,rfl,?_⟩;have n0_:=zz31 (Kd.R_elder' (by (with_reducible repeat (first | apply zz12 | apply zz13 | apply zz14));exact HO_6.out) (Kd.R_base ho0) hb);have n1_:=zz31 (Kd.R_elder' (by (with_reducible repeat (first | apply zz12 | apply zz13 | apply zz14));exact HO_9.out) (Kd.R_base ho0) hb);have n2_:=zz31 (Kd.R_elder' (by (with_reducible repeat (first | apply zz12 | apply zz13 | apply zz14));exact HO_10.out) (Kd.R_base ho0) hb);have n3_:=zz31 (Kd.R_below (by (with_reducible repeat (first | apply zz12 | apply zz13 | apply zz14));exact HO_558001.out) hb);have n4_:=zz31 (Kd.R_below (by (with_reducible repeat (first | apply zz12 | apply zz13 | apply zz14));exact HO569.out) hb);have n5_:=zz31 (Kd.R_lower (Kd.R_new' (Kd.R_new' (Kd.R_new' ho0 (Kd.R_lt (by (with_reducible repeat (first | apply zz12 | apply zz13 | apply zz14));exact HO_6.out))) (Kd.R_lt (by (with_reducible repeat (first | apply zz12 | apply zz13 | apply zz14));exact HO_9.out))) (Kd.R_lt (by (with_reducible repeat (first | apply zz12 | apply zz13 | apply zz14));exact HO_10.out))) (zz5 (by repeat first | exact HB.out | apply zz2 | apply zz0 | apply zz1 | refine zz3 ?_ GE540.out | refine zz3 ?_ GE557.out)));have n6_:=zz31 (zz11 (g:=gb540) (o:=.cells #[.int .i64 a0_0,.slice A0_1 l0_1.length c0_1] 24 (0,0)) (by (with_reducible repeat (first | refine zz6 ?_ _ | refine zz7 ?_ | refine zz8 ?_ _));exact BK540.out) hb);have n7_:=zz31 (zz11 (g:=gb557) (o:=.cells #[.int .i64 t553,.slice Ao31 t554.length co31] 30 (0,0)) (by (with_reducible repeat (first | refine zz6 ?_ _ | refine zz7 ?_ | refine zz8 ?_ _));exact BK557.out) hb);have n8_:=zz31 (zz4 (by repeat first | exact HB.out | apply zz2 | apply zz0 | apply zz1 | refine zz3 ?_ GE540.out | refine zz3 ?_ GE557.out) hb);clear HO_6;clear HO_9;clear HO_10;clear HO_558001;clear HO569;clear BK540;clear BK557;clear HB;have HO_6:=n0_;have HO_9:=n1_;have HO_10:=n2_;have HO_558001:=n3_;have HO569:=n4_;have HO573:=n5_;have BK540:=n6_;have BK557:=n7_;have HB:=n8_;clear n0_ n1_ n2_ n3_ n4_ n5_ n6_ n7_ n8_;(try clear hb);(try clear hb2);(try clear hk);(try clear hi);(try clear ho0);obtain ⟨Ao57,co57,eo57⟩:=Kd.R_slice HO573.out;subst eo57) | ((with_reducible refine gate_callee (f:=18) rfl ?_);refine goesL_ (some 60) rfl rfl Tryd.func18 (by kernel_rfl) rfl #[.slice Ao34 t558.length co34,.slice Ao57 t571.length co57] rfl (by (try simp only [zz26,zz27,zz28]);first | done | rfl | (simp only [zz24,zz25];rfl)) ?_;(with_reducible refine (laws_eqIntS.calls kj15 _ _ t558 _ _ t571 true _ ?side1 ?side2 ?side3 ?side4 A47.out).mono ?_);(case side1=>repeat (first | exact (Kd.R_reads' HO_9.out).2.2 | (with_reducible refine zz18 ?_ _) | (with_reducible refine zz19 ?_ _) | (with_reducible refine zz20 ?_)));(case side2=>exact (Kd.R_reads' HO_9.out).2.1);(case side3=>repeat (first | exact (Kd.R_reads' HO573.out).2.2 | (with_reducible refine zz18 ?_ _) | (with_reducible refine zz19 ?_ _) | (with_reducible refine zz20 ?_)));(case side4=>exact (Kd.R_reads' HO573.out).2.1);rintro e w' ⟨rfl,⟨nd,rfl⟩⟩;refine ⟨_,rfl,?_⟩;have hnb58:=NB557_540.out;have hnc58:=NB540_557.out;have hcz59_0:w56.cell? ⟨gb557,0,none⟩=some (.int .i64 t553):=(zz9 BK557.out 0).trans rfl;have hcz59_1:w56.cell? ⟨gb557,1,none⟩=some (.slice Ao31 t554.length co31):=(zz9 BK557.out 1).trans rfl;have hfz59_0:=zz10 BK557.out 0;have hfz59_1:=zz10 BK557.out 1) | ((with_reducible refine gate_callee (f:=19) rfl ?_);refine goesL_ (some 64) rfl rfl Tryd.func19 (by kernel_rfl) rfl #[.agg #[.int .i64 t553,.slice Ao31 t554.length co31],.int .i64 1] rfl (by (try simp only [zz26,zz27,zz28]);first | done | rfl | (simp only [zz24,zz25];rfl)) ?_;(with_reducible refine (laws_markParty.calls kj15 t553 (fun k_=>some k_=(.slice Ao31 t554.length co31:Value).ownBlock) (.slice Ao31 t554.length co31) t554 1 t575 t576 w _ ?side1 ?side2 A49.out).mono ?_);(case side1=>repeat first | exact HB.out | apply zz2 | apply zz0 | apply zz1 | refine zz3 ?_ GE540.out | refine zz3 ?_ GE557.out);(case side2=>exact Kd.R_tight rfl HO_558001.out);rintro e w60 ⟨rfl,hy0,hb,hkp⟩;refine ⟨_,rfl,?_⟩;have n0_:=zz31 (Kd.R_mono (ok':=fun k_=>some k_ ≠ (.slice Ao34 t558.length co34:Value).ownBlock∧some k_ ≠ (v562:Value).ownBlock∧some k_ ≠ (.slice Ao57 t571.length co57:Value).ownBlock) (Kd.R_keptB ((Kd.R_apart' HO_6.out (Kd.R_typed HO_558001.out) (by decide))) hkp (fun k_ hk_ hs_=>(hk_.2) hs_)) (fun k_ hk_=>⟨hk_.1.1.1.1,hk_.1.1.1.2,hk_.1.1.2⟩));have n1_:=zz31 (Kd.R_mono (ok':=fun k_=>some k_ ≠ (v550:Value).ownBlock∧some k_ ≠ (v562:Value).ownBlock∧some k_ ≠ (.slice Ao57 t571.length co57:Value).ownBlock) (Kd.R_keptB ((Kd.R_apart' HO_9.out (Kd.R_typed HO_558001.out) (by decide))) hkp (fun k_ hk_ hs_=>(hk_.2) hs_)) (fun k_ hk_=>⟨hk_.1.1.1.1,hk_.1.1.1.2,hk_.1.1.2⟩));have n2_:=zz31 (Kd.R_mono (ok':=fun k_=>some k_ ≠ (v550:Value).ownBlock∧some k_ ≠ (.slice Ao34 t558.length co34:Value).ownBlock∧some k_ ≠ (.slice Ao57 t571.length co57:Value).ownBlock) (Kd.R_keptB ((Kd.R_apart' HO_10.out (Kd.R_typed HO_558001.out) (by decide))) hkp (fun k_ hk_ hs_=>(hk_.2) hs_)) (fun k_ hk_=>⟨hk_.1.1.1.1,hk_.1.1.1.2,hk_.1.1.2⟩));have n3_:=zz31 (Kd.R_reok rfl hy0 (fun k_ e_=>HO_558001.out.1 k_ e_));(first | have n4_:=zz31 (blk_kept BK540.out hkp (fun hs_=>(fun e_=>(Kd.R_ne HO_558001.out BK540.out (by decide)) e_) hs_)) | have n4_:=zz31 (blk_kept (by (with_reducible repeat (first | refine zz6 ?_ _ | refine zz7 ?_ | refine zz8 ?_ _));exact BK540.out) hkp (fun hs_=>(fun e_=>(Kd.R_ne HO_558001.out BK540.out (by decide)) e_) hs_)));(first | have n5_:=zz31 (blk_kept BK557.out hkp (fun hs_=>(fun e_=>(Kd.R_ne HO_558001.out BK557.out (by decide)) e_) hs_)) | have n5_:=zz31 (blk_kept (by (with_reducible repeat (first | refine zz6 ?_ _ | refine zz7 ?_ | refine zz8 ?_ _));exact BK557.out) hkp (fun hs_=>(fun e_=>(Kd.R_ne HO_558001.out BK557.out (by decide)) e_) hs_)));have n6_:=zz31 (Kd.R_mono (ok':=fun k_=>some k_ ≠ (.slice Ao31 t554.length co31:Value).ownBlock) (Kd.R_keptB (HO569.out) hkp (fun k_ hk_ hs_=>(hk_.2) hs_)) (fun k_ hk_=>hk_.1.2));have n7_:=zz31 (Kd.R_mono (ok':=fun k_=>some k_ ≠ (v550:Value).ownBlock∧some k_ ≠ (.slice Ao34 t558.length co34:Value).ownBlock∧some k_ ≠ (v562:Value).ownBlock) (Kd.R_keptB ((Kd.R_apart' HO573.out (Kd.R_typed HO_558001.out) (by decide))) hkp (fun k_ hk_ hs_=>(hk_.2) hs_)) (fun k_ hk_=>⟨hk_.1.1.1.1.2,hk_.1.1.1.2,hk_.1.1.2⟩));have n8_:=zz31 (hb);clear HO_6;clear HO_9;clear HO_10;clear HO_558001;clear BK540;clear BK557;clear HO569;clear HO573;clear HB;have HO_6:=n0_;have HO_9:=n1_;have HO_10:=n2_;have HO_558001:=n3_;have BK540:=n4_;have BK557:=n5_;have HO569:=n6_;have HO573:=n7_;have HB:=n8_;clear n0_ n1_ n2_ n3_ n4_ n5_ n6_ n7_ n8_;(try clear hb);(try clear hkp);(try clear hy0)) | ((with_reducible refine gate_callee (f:=20) rfl ?_);refine goesL_ (some 67) rfl rfl Tryd.func20 (by kernel_rfl) rfl #[.slice Ao34 t558.length co34,.int .i64 t575] rfl (by (try simp only [zz26,zz27,zz28]);first | done | rfl | (simp only [zz24,zz25];rfl)) ?_;(with_reducible refine (laws_markIntS.calls kj15 (fun k_=>some k_=(.slice Ao34 t558.length co34:Value).ownBlock) (.slice Ao34 t558.length co34) t558 t575 t577 t578 w _ ?side1 ?side2 A50.out).mono ?_);(case side1=>repeat first | exact HB.out | apply zz2 | apply zz0 | apply zz1 | refine zz3 ?_ GE540.out | refine zz3 ?_ GE557.out);(case side2=>exact Kd.R_tight rfl HO_9.out);rintro e w61 ⟨rfl,hy0,hb,hkp⟩;refine ⟨_,rfl,?_⟩;have n0_:=zz31 (Kd.R_mono (ok':=fun k_=>some k_ ≠ (.slice Ao34 t558.length co34:Value).ownBlock∧some k_ ≠ (v562:Value).ownBlock∧some k_ ≠ (.slice Ao57 t571.length co57:Value).ownBlock) (Kd.R_keptB (HO_6.out) hkp (fun k_ hk_ hs_=>(hk_.1) hs_)) (fun k_ hk_=>⟨hk_.1.1,hk_.1.2.1,hk_.1.2.2⟩));have n1_:=zz31 (Kd.R_reok rfl hy0 (fun k_ e_=>HO_9.out.1 k_ e_));have n2_:=zz31 (Kd.R_mono (ok':=fun k_=>some k_ ≠ (v550:Value).ownBlock∧some k_ ≠ (.slice Ao34 t558.length co34:Value).ownBlock∧some k_ ≠ (.slice Ao57 t571.length co57:Value).ownBlock) (Kd.R_keptB (HO_10.out) hkp (fun k_ hk_ hs_=>(hk_.2.1) hs_)) (fun k_ hk_=>⟨hk_.1.1,hk_.1.2.1,hk_.1.2.2⟩));have n3_:=zz31 (Kd.R_mono (ok':=fun k_=>some k_ ≠ (.slice Ao54 t567.length co54:Value).ownBlock) (Kd.R_keptB ((Kd.R_apart' HO_558001.out (Kd.R_typed HO_9.out) (by decide))) hkp (fun k_ hk_ hs_=>(hk_.2) hs_)) (fun k_ hk_=>hk_.1.1.2));(first | have n4_:=zz31 (blk_kept BK540.out hkp (fun hs_=>(fun e_=>(Kd.R_ne HO_9.out BK540.out (by decide)) e_) hs_)) | have n4_:=zz31 (blk_kept (by (with_reducible repeat (first | refine zz6 ?_ _ | refine zz7 ?_ | refine zz8 ?_ _));exact BK540.out) hkp (fun hs_=>(fun e_=>(Kd.R_ne HO_9.out BK540.out (by decide)) e_) hs_)));(first | have n5_:=zz31 (blk_kept BK557.out hkp (fun hs_=>(fun e_=>(Kd.R_ne HO_9.out BK557.out (by decide)) e_) hs_)) | have n5_:=zz31 (blk_kept (by (with_reducible repeat (first | refine zz6 ?_ _ | refine zz7 ?_ | refine zz8 ?_ _));exact BK557.out) hkp (fun hs_=>(fun e_=>(Kd.R_ne HO_9.out BK557.out (by decide)) e_) hs_)));have n6_:=zz31 (Kd.R_mono (ok':=fun k_=>some k_ ≠ (.slice Ao31 t554.length co31:Value).ownBlock) (Kd.R_keptB ((Kd.R_apart' HO569.out (Kd.R_typed HO_9.out) (by decide))) hkp (fun k_ hk_ hs_=>(hk_.2) hs_)) (fun k_ hk_=>hk_.1.1));have n7_:=zz31 (Kd.R_mono (ok':=fun k_=>some k_ ≠ (v550:Value).ownBlock∧some k_ ≠ (.slice Ao34 t558.length co34:Value).ownBlock∧some k_ ≠ (v562:Value).ownBlock) (Kd.R_keptB (HO573.out) hkp (fun k_ hk_ hs_=>(hk_.2.1) hs_)) (fun k_ hk_=>⟨hk_.1.1,hk_.1.2.1,hk_.1.2.2⟩));have n8_:=zz31 (hb);clear HO_6;clear HO_9;clear HO_10;clear HO_558001;clear BK540;clear BK557;clear HO569;clear HO573;clear HB;have HO_6:=n0_;have HO_9:=n1_;have HO_10:=n2_;have HO_558001:=n3_;have BK540:=n4_;have BK557:=n5_;have HO569:=n6_;have HO573:=n7_;have HB:=n8_;clear n0_ n1_ n2_ n3_ n4_ n5_ n6_ n7_ n8_;(try clear hb);(try clear hkp);(try clear hy0)))
        (try simp only [Act.put,zz21,zz22,zz23])
        go_cut [80] (fun v80 wc=>∃ (kq:Nat) (x80_50:Bool),v80=.bool x80_50∧Aside0 (laws_FnExactGreedyColouring.j1 kq l1 t549 t552 t561 x80_50 a0_0 l0_1=some r)∧Aside0 (kq≤kj15)∧Aside0 (Kd.R (Kd.int .i64) 3 wc w.heap.size (fun k_=>some k_ ≠ (v562:Value).ownBlock) v550 t549)∧Aside0 (Kd.R (Kd.int .i64) 3 wc w.heap.size (fun k_=>some k_ ≠ (v550:Value).ownBlock) v562 t561)∧Aside0 (Kd.R k74 74 wc w.heap.size (fun _=>True) (.slice Ao31 t554.length co31) t576)∧Aside0 (wc.heap[gb540]?=some (.cells #[.int .i64 a0_0,(.slice A0_1 l0_1.length c0_1)] 24 (0,0)))∧Aside0 (wc.heap[gb557]?=some (.cells #[.int .i64 t553,(.slice Ao31 t554.length co31)] 30 (0,0)))∧Aside0 (Below w.heap.size w wc))
        case first =>
         have H:=HC51.out
         clear HC51
         by_cases c62:t577 < 0
         ·rw [if_pos c62] at H
          have c62b0:decide (t577 < 0)=true:=decide_eq_true c62
          clear c62
          (first | rw [c62b0] | (simp only [i64_w,i32_w];rw [c62b0]) | skip)
          have H':=zz31 H
          clear H
          go_wp2
          go_meet
          case rel=>exact ⟨_,(true),(by first | rfl | (simp;done) | (simp [*];done)),H',⟨by have:=HJ15.out;first | omega | exact Nat.le_refl _⟩,⟨by (with_reducible repeat (first | apply zz12 | apply zz13 | apply zz14));exact Kd.R_mono HO_6.out (fun _ hk=>hk.2.1)⟩,⟨by (with_reducible repeat (first | apply zz12 | apply zz13 | apply zz14));exact Kd.R_mono HO_10.out (fun _ hk=>hk.1)⟩,⟨by (with_reducible repeat (first | apply zz12 | apply zz13 | apply zz14));exact Kd.R_mono HO_558001.out (fun _ hk=>trivial)⟩,⟨by (with_reducible repeat (first | refine zz6 ?_ _ | refine zz7 ?_ | refine zz8 ?_ _));exact BK540.out⟩,⟨by (with_reducible repeat (first | refine zz6 ?_ _ | refine zz7 ?_ | refine zz8 ?_ _));exact BK557.out⟩,⟨by repeat first | exact HB.out | apply zz2 | apply zz0 | apply zz1 | refine zz3 ?_ GE540.out | refine zz3 ?_ GE557.out⟩⟩
         ·rw [if_neg c62] at H
          have c62b0:decide (t577 < 0)=false:=decide_eq_false c62
          clear c62
          (first | rw [c62b0] | (simp only [i64_w,i32_w];rw [c62b0]) | skip)
          replace H:=zz30.mp H
          obtain ⟨t579,A630,H⟩:=H
          replace H:(if t579=true then (laws_FnExactGreedyColouring.j1 kj15 l1 t549 t552 t561 (t564 != t552) a0_0 l0_1) else (laws_FnExactGreedyColouring.j1 kj15 l1 t549 t552 t561 true a0_0 l0_1))=some r:=H
          have A63:=zz31 A630
          clear A630
          by_cases c64:t579=true
          ·subst c64
           have H1:(laws_FnExactGreedyColouring.j1 kj15 l1 t549 t552 t561 (t564 != t552) a0_0 l0_1)=some r:=by rw [if_pos rfl] at H;exact H
           clear H
           have H:=H1
           clear H1
           have H':=zz31 H
           clear H
           obtain ⟨Ao65,co65,eo65⟩:=Kd.R_slice HO_10.out
           subst eo65
           obtain ⟨Ao66,co66,eo66⟩:=Kd.R_slice HO_6.out
           subst eo66
           go_wp2_with (first | (go_at_call 18;(with_reducible refine (laws_eqIntS.calls kj15 _ _ t561 _ _ t549 true _ ?side1 ?side2 ?side3 ?side4 A63.out).mono ?_);(case side1=>repeat (first | exact (Kd.R_reads' HO_10.out).2.2 | (with_reducible refine zz18 ?_ _) | (with_reducible refine zz19 ?_ _) | (with_reducible refine zz20 ?_)));(case side2=>exact (Kd.R_reads' HO_10.out).2.1);(case side3=>repeat (first | exact (Kd.R_reads' HO_6.out).2.2 | (with_reducible refine zz18 ?_ _) | (with_reducible refine zz19 ?_ _) | (with_reducible refine zz20 ?_)));(case side4=>exact (Kd.R_reads' HO_6.out).2.1);rintro e w' ⟨rfl,⟨nd,rfl⟩⟩))
           go_meet
           case rel=>exact ⟨_,((t564 != t552)),(by first | rfl | (simp;done) | (simp [*];done)),H',⟨by have:=HJ15.out;first | omega | exact Nat.le_refl _⟩,⟨by (with_reducible repeat (first | apply zz12 | apply zz13 | apply zz14));exact Kd.R_mono HO_6.out (fun _ hk=>hk.2.1)⟩,⟨by (with_reducible repeat (first | apply zz12 | apply zz13 | apply zz14));exact Kd.R_mono HO_10.out (fun _ hk=>hk.1)⟩,⟨by (with_reducible repeat (first | apply zz12 | apply zz13 | apply zz14));exact Kd.R_mono HO_558001.out (fun _ hk=>trivial)⟩,⟨by (with_reducible repeat (first | refine zz6 ?_ _ | refine zz7 ?_ | refine zz8 ?_ _));exact BK540.out⟩,⟨by (with_reducible repeat (first | refine zz6 ?_ _ | refine zz7 ?_ | refine zz8 ?_ _));exact BK557.out⟩,⟨by repeat first | exact HB.out | apply zz2 | apply zz0 | apply zz1 | refine zz3 ?_ GE540.out | refine zz3 ?_ GE557.out⟩⟩
          ·replace c64:=Bool.eq_false_iff.mpr c64
           subst c64
           have H1:(laws_FnExactGreedyColouring.j1 kj15 l1 t549 t552 t561 true a0_0 l0_1)=some r:=by rw [if_neg (show ¬ (false=true) by decide)] at H;exact H
           clear H
           have H:=H1
           clear H1
           have H':=zz31 H
           clear H
           obtain ⟨Ao67,co67,eo67⟩:=Kd.R_slice HO_10.out
           subst eo67
           obtain ⟨Ao68,co68,eo68⟩:=Kd.R_slice HO_6.out
           subst eo68
           go_wp2_with (first | (go_at_call 18;(with_reducible refine (laws_eqIntS.calls kj15 _ _ t561 _ _ t549 false _ ?side1 ?side2 ?side3 ?side4 A63.out).mono ?_);(case side1=>repeat (first | exact (Kd.R_reads' HO_10.out).2.2 | (with_reducible refine zz18 ?_ _) | (with_reducible refine zz19 ?_ _) | (with_reducible refine zz20 ?_)));(case side2=>exact (Kd.R_reads' HO_10.out).2.1);(case side3=>repeat (first | exact (Kd.R_reads' HO_6.out).2.2 | (with_reducible refine zz18 ?_ _) | (with_reducible refine zz19 ?_ _) | (with_reducible refine zz20 ?_)));(case side4=>exact (Kd.R_reads' HO_6.out).2.1);rintro e w' ⟨rfl,⟨nd,rfl⟩⟩))
           go_meet
           case rel=>exact ⟨_,(true),(by first | rfl | (simp;done) | (simp [*];done)),H',⟨by have:=HJ15.out;first | omega | exact Nat.le_refl _⟩,⟨by (with_reducible repeat (first | apply zz12 | apply zz13 | apply zz14));exact Kd.R_mono HO_6.out (fun _ hk=>hk.2.1)⟩,⟨by (with_reducible repeat (first | apply zz12 | apply zz13 | apply zz14));exact Kd.R_mono HO_10.out (fun _ hk=>hk.1)⟩,⟨by (with_reducible repeat (first | apply zz12 | apply zz13 | apply zz14));exact Kd.R_mono HO_558001.out (fun _ hk=>trivial)⟩,⟨by (with_reducible repeat (first | refine zz6 ?_ _ | refine zz7 ?_ | refine zz8 ?_ _));exact BK540.out⟩,⟨by (with_reducible repeat (first | refine zz6 ?_ _ | refine zz7 ?_ | refine zz8 ?_ _));exact BK557.out⟩,⟨by repeat first | exact HB.out | apply zz2 | apply zz0 | apply zz1 | refine zz3 ?_ GE540.out | refine zz3 ?_ GE557.out⟩⟩
        case rest =>
         clear HC51
         try clear c1
         try clear c2
         try clear p2
         try clear c3
         try clear c3b0
         try clear c3b1
         try clear c4
         try clear c5
         try clear c6
         try clear c6b0
         try clear c8
         try clear c9
         try clear c11
         try clear c13
         try clear c18
         try clear c19
         try clear c20
         try clear c26
         try clear c27
         try clear c28
         try clear c29
         try clear c37
         try clear c42
         try clear c45
         try clear c48
         try clear c58
         try clear c62
         try clear c62b0
         try clear c64
         try clear hcz18_0
         try clear hcz18_1
         try clear hcz20_0
         try clear hcz20_1
         try clear hcz26_0
         try clear hcz26_1
         try clear hcz30_0
         try clear hcz30_1
         try clear hcz33_0
         try clear hcz33_1
         try clear hcz59_0
         try clear hcz59_1
         try clear hcz8_0
         try clear hcz8_1
         try clear hfz18_0
         try clear hfz18_1
         try clear hfz20_0
         try clear hfz20_1
         try clear hfz26_0
         try clear hfz26_1
         try clear hfz30_0
         try clear hfz30_1
         try clear hfz33_0
         try clear hfz33_1
         try clear hfz59_0
         try clear hfz59_1
         try clear hfz8_0
         try clear hfz8_1
         try clear p2
         obtain ⟨kq,x80_50,rfl,HA,HJ50,HO_6,HO_10,HO_558001,BK540,BK557,HB⟩:=hcut
         have hl558001_50:=(Kd.R_reads' HO_558001.out).1
         rw [hl558001_50] at HO_558001
         (try simp only [hl558001_50])
         (try simp only [hl558001_50] at BK540)
         (try simp only [hl558001_50] at BK557)
         (try simp only [hl558001_50] at HO_6)
         (try simp only [hl558001_50] at HO_10)
         cases kq with
         | zero=>exact absurd HA.out (by simp [laws_FnExactGreedyColouring.j1])
         | succ kj50 =>
          have H:=HA.out
          clear HA
          simp only [laws_FnExactGreedyColouring.j1] at H
          by_cases c69:x80_50=true
          ·subst c69
           have H1:(some false)=some r:=by rw [if_pos rfl] at H;exact H
           clear H
           have H:=H1
           clear H1
           obtain rfl:=Option.some.inj H
           go_wp2
           go_ret
           exact ⟨by first | rfl | (simp [errW_none,errW_some] <;> rfl) | (simp [*,errW_none,errW_some] <;> rfl),by repeat first | exact HB.out | apply zz2 | apply zz0 | apply zz1 | refine zz3 ?_ GE540.out | refine zz3 ?_ GE557.out⟩
          ·replace c69:=Bool.eq_false_iff.mpr c69
           subst c69
           have H1:((laws_markIntS.f kj50 t561 1).bind fun bt580=>((laws_heldIntS.f kj50 bt580.2 1).bind fun t582=>(if t582 < 0 then (some false) else (if t582=bt580.1 then ((laws_toParty.f kj50 a0_0 l0_1).bind fun bt583=>((laws_toIntS.f kj50 l1).bind fun t587=>((impl_GreedyColouring.f kj50 bt583.1 bt583.2 t587).bind fun bt590=>((laws_eqIntS.f kj50 bt590.1 t549).bind fun t594=>(if t594=true then (laws_FnExactGreedyColouring.j2 kj50 bt580.2 bt580.1 (bt590.2 != t552)) else (laws_FnExactGreedyColouring.j2 kj50 bt580.2 bt580.1 true)))))) else (some false)))))=some r:=by rw [if_neg (show ¬ (false=true) by decide)] at H;exact H
           clear H
           have H:=H1
           clear H1
           replace H:=zz30.mp H
           obtain ⟨⟨t580,t581⟩,A700,H⟩:=H
           replace H:((laws_heldIntS.f kj50 t581 1).bind fun t582=>(if t582 < 0 then (some false) else (if t582=t580 then ((laws_toParty.f kj50 a0_0 l0_1).bind fun bt583=>((laws_toIntS.f kj50 l1).bind fun t587=>((impl_GreedyColouring.f kj50 bt583.1 bt583.2 t587).bind fun bt590=>((laws_eqIntS.f kj50 bt590.1 t549).bind fun t594=>(if t594=true then (laws_FnExactGreedyColouring.j2 kj50 t581 t580 (bt590.2 != t552)) else (laws_FnExactGreedyColouring.j2 kj50 t581 t580 true)))))) else (some false))))=some r:=H
           have A70:=zz31 A700
           clear A700
           replace H:=zz30.mp H
           obtain ⟨t582,A710,H⟩:=H
           replace H:(if t582 < 0 then (some false) else (if t582=t580 then ((laws_toParty.f kj50 a0_0 l0_1).bind fun bt583=>((laws_toIntS.f kj50 l1).bind fun t587=>((impl_GreedyColouring.f kj50 bt583.1 bt583.2 t587).bind fun bt590=>((laws_eqIntS.f kj50 bt590.1 t549).bind fun t594=>(if t594=true then (laws_FnExactGreedyColouring.j2 kj50 t581 t580 (bt590.2 != t552)) else (laws_FnExactGreedyColouring.j2 kj50 t581 t580 true)))))) else (some false)))=some r:=H
           have A71:=zz31 A710
           clear A710
           by_cases c72:t582 < 0
           ·rw [if_pos c72] at H
            have c72b0:decide (t582 < 0)=true:=decide_eq_true c72
            clear c72
            obtain rfl:=Option.some.inj H
            obtain ⟨Ao73,co73,eo73⟩:=Kd.R_slice HO_10.out
            subst eo73
            go_wp2_with (first | ((with_reducible refine gate_callee (f:=20) rfl ?_);refine goesL_ (some 83) rfl rfl Tryd.func20 (by kernel_rfl) rfl #[.slice Ao73 t561.length co73,.int .i64 1] rfl (by (try simp only [zz26,zz27,zz28]);first | done | rfl | (simp only [zz24,zz25];rfl)) ?_;(with_reducible refine (laws_markIntS.calls kj50 (fun k_=>some k_=(.slice Ao73 t561.length co73:Value).ownBlock) (.slice Ao73 t561.length co73) t561 1 t580 t581 w _ ?side1 ?side2 A70.out).mono ?_);(case side1=>repeat first | exact HB.out | apply zz2 | apply zz0 | apply zz1 | refine zz3 ?_ GE540.out | refine zz3 ?_ GE557.out);(case side2=>exact Kd.R_tight rfl HO_10.out);rintro e w74 ⟨rfl,hy0,hb,hkp⟩;refine ⟨_,rfl,?_⟩;have n0_:=zz31 (Kd.R_mono (ok':=fun k_=>some k_ ≠ (.slice Ao73 t561.length co73:Value).ownBlock) (Kd.R_keptB (HO_6.out) hkp (fun k_ hk_ hs_=>(hk_) hs_)) (fun k_ hk_=>hk_.1));have n1_:=zz31 (Kd.R_reok rfl hy0 (fun k_ e_=>HO_10.out.1 k_ e_));have n2_:=zz31 (Kd.R_mono (ok':=fun k_=>True) (Kd.R_keptB ((Kd.R_apart' HO_558001.out (Kd.R_typed HO_10.out) (by decide))) hkp (fun k_ hk_ hs_=>(hk_.2) hs_)) (fun k_ hk_=>trivial));(first | have n3_:=zz31 (blk_kept BK540.out hkp (fun hs_=>(fun e_=>(Kd.R_ne HO_10.out BK540.out (by decide)) e_) hs_)) | have n3_:=zz31 (blk_kept (by (with_reducible repeat (first | refine zz6 ?_ _ | refine zz7 ?_ | refine zz8 ?_ _));exact BK540.out) hkp (fun hs_=>(fun e_=>(Kd.R_ne HO_10.out BK540.out (by decide)) e_) hs_)));(first | have n4_:=zz31 (blk_kept BK557.out hkp (fun hs_=>(fun e_=>(Kd.R_ne HO_10.out BK557.out (by decide)) e_) hs_)) | have n4_:=zz31 (blk_kept (by (with_reducible repeat (first | refine zz6 ?_ _ | refine zz7 ?_ | refine zz8 ?_ _));exact BK557.out) hkp (fun hs_=>(fun e_=>(Kd.R_ne HO_10.out BK557.out (by decide)) e_) hs_)));have n5_:=zz31 (hb);clear HO_6;clear HO_10;clear HO_558001;clear BK540;clear BK557;clear HB;have HO_6:=n0_;have HO_10:=n1_;have HO_558001:=n2_;have BK540:=n3_;have BK557:=n4_;have HB:=n5_;clear n0_ n1_ n2_ n3_ n4_ n5_;(try clear hb);(try clear hkp);(try clear hy0)) | ((with_reducible refine gate_callee (f:=21) rfl ?_);refine goesL_ (some 86) rfl rfl Tryd.func21 (by kernel_rfl) rfl #[.slice Ao73 t581.length co73,.int .i64 1] rfl (by (try simp only [zz26,zz27,zz28]);first | done | (rw [show t581.length=t561.length from (Kd.R_reads' HO_10.out).1.symm] <;> rfl) | rfl | (simp only [zz24,zz25];rfl)) ?_;(with_reducible refine (laws_heldIntS.calls kj50 _ _ t581 1 t582 _ ?side1 ?side2 A71.out).mono ?_);(case side1=>repeat (first | exact (Kd.R_reads' HO_10.out).2.2 | (with_reducible refine zz18 ?_ _) | (with_reducible refine zz19 ?_ _) | (with_reducible refine zz20 ?_)));(case side2=>rw [show t581.length=t561.length from (Kd.R_reads' HO_10.out).1.symm];exact (Kd.R_reads' HO_10.out).2.1);rintro e w' ⟨rfl,⟨nd,rfl⟩⟩;refine ⟨_,rfl,?_⟩))
            go_ret
            exact ⟨by first | rfl | (simp [errW_none,errW_some] <;> rfl) | (simp [*,errW_none,errW_some] <;> rfl),by repeat first | exact HB.out | apply zz2 | apply zz0 | apply zz1 | refine zz3 ?_ GE540.out | refine zz3 ?_ GE557.out⟩
           ·rw [if_neg c72] at H
            have c72b0:decide (t582 < 0)=false:=decide_eq_false c72
            clear c72
            by_cases c75:t582=t580
            ·rw [if_pos c75] at H
             have c75b0:(t582 == t580)=true:=beq_iff_eq.mpr c75
             have c75b1:(t582 != t580)=false:=bne_eq_false_iff_eq.mpr c75
             clear c75
             replace H:=zz30.mp H
             obtain ⟨⟨t583,t584⟩,A760,H⟩:=H
             replace H:((laws_toIntS.f kj50 l1).bind fun t587=>((impl_GreedyColouring.f kj50 t583 t584 t587).bind fun bt590=>((laws_eqIntS.f kj50 bt590.1 t549).bind fun t594=>(if t594=true then (laws_FnExactGreedyColouring.j2 kj50 t581 t580 (bt590.2 != t552)) else (laws_FnExactGreedyColouring.j2 kj50 t581 t580 true)))))=some r:=H
             have A76:=zz31 A760
             clear A760
             replace H:=zz30.mp H
             obtain ⟨t587,A770,H⟩:=H
             replace H:((impl_GreedyColouring.f kj50 t583 t584 t587).bind fun bt590=>((laws_eqIntS.f kj50 bt590.1 t549).bind fun t594=>(if t594=true then (laws_FnExactGreedyColouring.j2 kj50 t581 t580 (bt590.2 != t552)) else (laws_FnExactGreedyColouring.j2 kj50 t581 t580 true))))=some r:=H
             have A77:=zz31 A770
             clear A770
             replace H:=zz30.mp H
             obtain ⟨⟨t590,t593⟩,A780,H⟩:=H
             replace H:((laws_eqIntS.f kj50 t590 t549).bind fun t594=>(if t594=true then (laws_FnExactGreedyColouring.j2 kj50 t581 t580 (t593 != t552)) else (laws_FnExactGreedyColouring.j2 kj50 t581 t580 true)))=some r:=H
             have A78:=zz31 A780
             clear A780
             have HC79:=zz31 H
             clear H
             obtain ⟨Ao80,co80,eo80⟩:=Kd.R_slice HO_10.out
             subst eo80
             go_upto_region 31 with (first | ((with_reducible refine gate_callee (f:=20) rfl ?_);refine goesL_ (some 83) rfl rfl Tryd.func20 (by kernel_rfl) rfl #[.slice Ao80 t561.length co80,.int .i64 1] rfl (by (try simp only [zz26,zz27,zz28]);first | done | rfl | (simp only [zz24,zz25];rfl)) ?_;(with_reducible refine (laws_markIntS.calls kj50 (fun k_=>some k_=(.slice Ao80 t561.length co80:Value).ownBlock) (.slice Ao80 t561.length co80) t561 1 t580 t581 w _ ?side1 ?side2 A70.out).mono ?_);(case side1=>repeat first | exact HB.out | apply zz2 | apply zz0 | apply zz1 | refine zz3 ?_ GE540.out | refine zz3 ?_ GE557.out);(case side2=>exact Kd.R_tight rfl HO_10.out);rintro e w81 ⟨rfl,hy0,hb,hkp⟩;refine ⟨_,rfl,?_⟩;have n0_:=zz31 (Kd.R_mono (ok':=fun k_=>some k_ ≠ (.slice Ao80 t561.length co80:Value).ownBlock) (Kd.R_keptB (HO_6.out) hkp (fun k_ hk_ hs_=>(hk_) hs_)) (fun k_ hk_=>hk_.1));have n1_:=zz31 (Kd.R_reok rfl hy0 (fun k_ e_=>HO_10.out.1 k_ e_));have n2_:=zz31 (Kd.R_mono (ok':=fun k_=>True) (Kd.R_keptB ((Kd.R_apart' HO_558001.out (Kd.R_typed HO_10.out) (by decide))) hkp (fun k_ hk_ hs_=>(hk_.2) hs_)) (fun k_ hk_=>trivial));(first | have n3_:=zz31 (blk_kept BK540.out hkp (fun hs_=>(fun e_=>(Kd.R_ne HO_10.out BK540.out (by decide)) e_) hs_)) | have n3_:=zz31 (blk_kept (by (with_reducible repeat (first | refine zz6 ?_ _ | refine zz7 ?_ | refine zz8 ?_ _));exact BK540.out) hkp (fun hs_=>(fun e_=>(Kd.R_ne HO_10.out BK540.out (by decide)) e_) hs_)));(first | have n4_:=zz31 (blk_kept BK557.out hkp (fun hs_=>(fun e_=>(Kd.R_ne HO_10.out BK557.out (by decide)) e_) hs_)) | have n4_:=zz31 (blk_kept (by (with_reducible repeat (first | refine zz6 ?_ _ | refine zz7 ?_ | refine zz8 ?_ _));exact BK557.out) hkp (fun hs_=>(fun e_=>(Kd.R_ne HO_10.out BK557.out (by decide)) e_) hs_)));have n5_:=zz31 (hb);clear HO_6;clear HO_10;clear HO_558001;clear BK540;clear BK557;clear HB;have HO_6:=n0_;have HO_10:=n1_;have HO_558001:=n2_;have BK540:=n3_;have BK557:=n4_;have HB:=n5_;clear n0_ n1_ n2_ n3_ n4_ n5_;(try clear hb);(try clear hkp);(try clear hy0)) | ((with_reducible refine gate_callee (f:=21) rfl ?_);refine goesL_ (some 86) rfl rfl Tryd.func21 (by kernel_rfl) rfl #[.slice Ao80 t581.length co80,.int .i64 1] rfl (by (try simp only [zz26,zz27,zz28]);first | done | (rw [show t581.length=t561.length from (Kd.R_reads' HO_10.out).1.symm] <;> rfl) | rfl | (simp only [zz24,zz25];rfl)) ?_;(with_reducible refine (laws_heldIntS.calls kj50 _ _ t581 1 t582 _ ?side1 ?side2 A71.out).mono ?_);(case side1=>repeat (first | exact (Kd.R_reads' HO_10.out).2.2 | (with_reducible refine zz18 ?_ _) | (with_reducible refine zz19 ?_ _) | (with_reducible refine zz20 ?_)));(case side2=>rw [show t581.length=t561.length from (Kd.R_reads' HO_10.out).1.symm];exact (Kd.R_reads' HO_10.out).2.1);rintro e w' ⟨rfl,⟨nd,rfl⟩⟩;refine ⟨_,rfl,?_⟩;have hnb82:=NB540_557.out;have hnc82:=NB557_540.out;have hcz83_0:w81.cell? ⟨gb540,0,none⟩=some (.int .i64 a0_0):=(zz9 BK540.out 0).trans rfl;have hcz83_1:w81.cell? ⟨gb540,1,none⟩=some (.slice A0_1 l0_1.length c0_1):=(zz9 BK540.out 1).trans rfl;have hfz83_0:=zz10 BK540.out 0;have hfz83_1:=zz10 BK540.out 1) | ((with_reducible refine gate_callee (f:=11) rfl ?_);refine goesL_ (some 94) rfl rfl Tryd.func11 (by kernel_rfl) rfl #[.agg #[.int .i64 a0_0,.slice A0_1 l0_1.length c0_1]] rfl (by (try simp only [zz26,zz27,zz28]);first | done | rfl | (simp only [zz24,zz25];rfl)) ?_;(with_reducible refine (laws_toParty.calls kj50 a0_0 _ _ l0_1 t583 t584 _ ?side1 ?side2 A76.out).mono ?_);(case side1=>repeat (first | exact (Kd.C_below HR0_1.out (by repeat first | exact HB.out | apply zz2 | apply zz0 | apply zz1 | refine zz3 ?_ GE540.out | refine zz3 ?_ GE557.out)) | (with_reducible refine zz18 ?_ _) | (with_reducible refine zz19 ?_ _) | (with_reducible refine zz20 ?_)));(case side2=>exact HC0_1.out);rintro e w84 ⟨v585,rfl,ho0,hb⟩;refine ⟨_,rfl,?_⟩;have n0_:=zz31 (Kd.R_below (by (with_reducible repeat (first | apply zz12 | apply zz13 | apply zz14));exact HO_6.out) hb);have n1_:=zz31 (Kd.R_below (by (with_reducible repeat (first | apply zz12 | apply zz13 | apply zz14));exact HO_10.out) hb);have n2_:=zz31 (Kd.R_elder' (by (with_reducible repeat (first | apply zz12 | apply zz13 | apply zz14));exact HO_558001.out) (Kd.R_base ho0) hb);have n3_:=zz31 (Kd.R_lower (Kd.R_new' ho0 (Kd.R_lt (by (with_reducible repeat (first | apply zz12 | apply zz13 | apply zz14));exact HO_558001.out))) (zz5 (by repeat first | exact HB.out | apply zz2 | apply zz0 | apply zz1 | refine zz3 ?_ GE540.out | refine zz3 ?_ GE557.out)));have n4_:=zz31 (zz11 (g:=gb540) (o:=.cells #[.int .i64 a0_0,.slice A0_1 l0_1.length c0_1] 24 (0,0)) (by (with_reducible repeat (first | refine zz6 ?_ _ | refine zz7 ?_ | refine zz8 ?_ _));exact BK540.out) hb);have n5_:=zz31 (zz11 (g:=gb557) (o:=.cells #[.int .i64 t553,.slice Ao31 t576.length co31] 30 (0,0)) (by (with_reducible repeat (first | refine zz6 ?_ _ | refine zz7 ?_ | refine zz8 ?_ _));exact BK557.out) hb);have n6_:=zz31 (zz4 (by repeat first | exact HB.out | apply zz2 | apply zz0 | apply zz1 | refine zz3 ?_ GE540.out | refine zz3 ?_ GE557.out) hb);clear HO_6;clear HO_10;clear HO_558001;clear BK540;clear BK557;clear HB;have HO_6:=n0_;have HO_10:=n1_;have HO_558001:=n2_;have HO586:=n3_;have BK540:=n4_;have BK557:=n5_;have HB:=n6_;clear n0_ n1_ n2_ n3_ n4_ n5_ n6_;(try clear hb);(try clear hb2);(try clear hk);(try clear hi);(try clear ho0)) | ((with_reducible refine gate_callee (f:=27) rfl ?_);refine goesL_ (some 96) rfl rfl Tryd.func27 (by kernel_rfl) rfl #[.slice A1 l1.length c1] rfl (by (try simp only [zz26,zz27,zz28]);first | done | rfl | (simp only [zz24,zz25];rfl)) ?_;(with_reducible refine (laws_toIntS.calls kj50 _ _ l1 t587 _ ?side1 ?side2 A77.out).mono ?_);(case side1=>repeat (first | exact (Kd.C_below HR1.out HB.out) | (with_reducible refine zz18 ?_ _) | (with_reducible refine zz19 ?_ _) | (with_reducible refine zz20 ?_)));(case side2=>exact HC1.out);rintro e w85 ⟨v588,rfl,ho0,hb⟩;refine ⟨_,rfl,?_⟩;have n0_:=zz31 (Kd.R_elder' (by (with_reducible repeat (first | apply zz12 | apply zz13 | apply zz14));exact HO_6.out) (Kd.R_base ho0) hb);have n1_:=zz31 (Kd.R_elder' (by (with_reducible repeat (first | apply zz12 | apply zz13 | apply zz14));exact HO_10.out) (Kd.R_base ho0) hb);have n2_:=zz31 (Kd.R_below (by (with_reducible repeat (first | apply zz12 | apply zz13 | apply zz14));exact HO_558001.out) hb);have n3_:=zz31 (Kd.R_below (by (with_reducible repeat (first | apply zz12 | apply zz13 | apply zz14));exact HO586.out) hb);have n4_:=zz31 (Kd.R_lower (Kd.R_new' (Kd.R_new' ho0 (Kd.R_lt (by (with_reducible repeat (first | apply zz12 | apply zz13 | apply zz14));exact HO_6.out))) (Kd.R_lt (by (with_reducible repeat (first | apply zz12 | apply zz13 | apply zz14));exact HO_10.out))) (zz5 (by repeat first | exact HB.out | apply zz2 | apply zz0 | apply zz1 | refine zz3 ?_ GE540.out | refine zz3 ?_ GE557.out)));have n5_:=zz31 (zz11 (g:=gb540) (o:=.cells #[.int .i64 a0_0,.slice A0_1 l0_1.length c0_1] 24 (0,0)) (by (with_reducible repeat (first | refine zz6 ?_ _ | refine zz7 ?_ | refine zz8 ?_ _));exact BK540.out) hb);have n6_:=zz31 (zz11 (g:=gb557) (o:=.cells #[.int .i64 t553,.slice Ao31 t576.length co31] 30 (0,0)) (by (with_reducible repeat (first | refine zz6 ?_ _ | refine zz7 ?_ | refine zz8 ?_ _));exact BK557.out) hb);have n7_:=zz31 (zz4 (by repeat first | exact HB.out | apply zz2 | apply zz0 | apply zz1 | refine zz3 ?_ GE540.out | refine zz3 ?_ GE557.out) hb);clear HO_6;clear HO_10;clear HO_558001;clear HO586;clear BK540;clear BK557;clear HB;have HO_6:=n0_;have HO_10:=n1_;have HO_558001:=n2_;have HO586:=n3_;have HO589:=n4_;have BK540:=n5_;have BK557:=n6_;have HB:=n7_;clear n0_ n1_ n2_ n3_ n4_ n5_ n6_ n7_;(try clear hb);(try clear hb2);(try clear hk);(try clear hi);(try clear ho0);obtain ⟨Ao86,co86,eo86⟩:=Kd.R_slice HO586.out;subst eo86;obtain ⟨Ao87,co87,eo87⟩:=Kd.R_slice HO589.out;subst eo87) | ((with_reducible refine gate_callee (f:=28) rfl ?_);refine goesL_ (some 97) rfl rfl Tryd.func28 (by kernel_rfl) rfl #[.agg #[.int .i64 t583,.slice Ao86 t584.length co86],.slice Ao87 t587.length co87] rfl (by (try simp only [zz26,zz27,zz28]);first | done | rfl | (simp only [zz24,zz25];rfl)) ?_;(with_reducible refine (impl_GreedyColouring.calls kj50 t583 _ _ t584 _ _ t587 t590 t593 _ ?side1 ?side2 ?side3 ?side4 A78.out (HT.out.below (by repeat first | exact HB.out | apply zz2 | apply zz0 | apply zz1 | refine zz3 ?_ GE540.out | refine zz3 ?_ GE557.out))).mono ?_);(case side1=>repeat (first | exact (Kd.R_reads' HO586.out).2.2 | (with_reducible refine zz18 ?_ _) | (with_reducible refine zz19 ?_ _) | (with_reducible refine zz20 ?_)));(case side2=>exact (Kd.R_reads' HO586.out).2.1);(case side3=>repeat (first | exact (Kd.R_reads' HO589.out).2.2 | (with_reducible refine zz18 ?_ _) | (with_reducible refine zz19 ?_ _) | (with_reducible refine zz20 ?_)));(case side4=>exact (Kd.R_reads' HO589.out).2.1);rintro e w88 ⟨v591,rfl,ho0,hb⟩;refine ⟨_,rfl,?_⟩;have n0_:=zz31 (Kd.R_elder' (by (with_reducible repeat (first | apply zz12 | apply zz13 | apply zz14));exact HO_6.out) (Kd.R_base ho0) hb);have n1_:=zz31 (Kd.R_elder' (by (with_reducible repeat (first | apply zz12 | apply zz13 | apply zz14));exact HO_10.out) (Kd.R_base ho0) hb);have n2_:=zz31 (Kd.R_below (by (with_reducible repeat (first | apply zz12 | apply zz13 | apply zz14));exact HO_558001.out) hb);have n3_:=zz31 (Kd.R_below (by (with_reducible repeat (first | apply zz12 | apply zz13 | apply zz14));exact HO586.out) hb);have n4_:=zz31 (Kd.R_elder' (by (with_reducible repeat (first | apply zz12 | apply zz13 | apply zz14));exact HO589.out) (Kd.R_base ho0) hb);have n5_:=zz31 (Kd.R_lower (Kd.R_new' (Kd.R_new' (Kd.R_new' ho0 (Kd.R_lt (by (with_reducible repeat (first | apply zz12 | apply zz13 | apply zz14));exact HO_6.out))) (Kd.R_lt (by (with_reducible repeat (first | apply zz12 | apply zz13 | apply zz14));exact HO_10.out))) (Kd.R_lt (by (with_reducible repeat (first | apply zz12 | apply zz13 | apply zz14));exact HO589.out))) (zz5 (by repeat first | exact HB.out | apply zz2 | apply zz0 | apply zz1 | refine zz3 ?_ GE540.out | refine zz3 ?_ GE557.out)));have n6_:=zz31 (zz11 (g:=gb540) (o:=.cells #[.int .i64 a0_0,.slice A0_1 l0_1.length c0_1] 24 (0,0)) (by (with_reducible repeat (first | refine zz6 ?_ _ | refine zz7 ?_ | refine zz8 ?_ _));exact BK540.out) hb);have n7_:=zz31 (zz11 (g:=gb557) (o:=.cells #[.int .i64 t553,.slice Ao31 t576.length co31] 30 (0,0)) (by (with_reducible repeat (first | refine zz6 ?_ _ | refine zz7 ?_ | refine zz8 ?_ _));exact BK557.out) hb);have n8_:=zz31 (zz4 (by repeat first | exact HB.out | apply zz2 | apply zz0 | apply zz1 | refine zz3 ?_ GE540.out | refine zz3 ?_ GE557.out) hb);clear HO_6;clear HO_10;clear HO_558001;clear HO586;clear HO589;clear BK540;clear BK557;clear HB;have HO_6:=n0_;have HO_10:=n1_;have HO_558001:=n2_;have HO586:=n3_;have HO589:=n4_;have HO592:=n5_;have BK540:=n6_;have BK557:=n7_;have HB:=n8_;clear n0_ n1_ n2_ n3_ n4_ n5_ n6_ n7_ n8_;(try clear hb);(try clear hb2);(try clear hk);(try clear hi);(try clear ho0)))
             (try simp only [Act.put,zz21,zz22,zz23])
             go_cut [108] (fun v108 wc=>∃ (kq:Nat) (x108_78:Bool),v108=.bool x108_78∧Aside0 (laws_FnExactGreedyColouring.j2 kq t581 t580 x108_78=some r)∧Aside0 (kq≤kj50)∧Aside0 (Kd.R (Kd.int .i64) 3 wc w.heap.size (fun _=>True) (.slice Ao80 t561.length co80) t581)∧Aside0 (Kd.R k74 74 wc w.heap.size (fun _=>True) (.slice Ao31 t576.length co31) t576)∧Aside0 (wc.heap[gb540]?=some (.cells #[.int .i64 a0_0,(.slice A0_1 l0_1.length c0_1)] 24 (0,0)))∧Aside0 (wc.heap[gb557]?=some (.cells #[.int .i64 t553,(.slice Ao31 t576.length co31)] 30 (0,0)))∧Aside0 (Below w.heap.size w wc))
             case first =>
              have H:=HC79.out
              clear HC79
              replace H:=zz30.mp H
              obtain ⟨t594,A890,H⟩:=H
              replace H:(if t594=true then (laws_FnExactGreedyColouring.j2 kj50 t581 t580 (t593 != t552)) else (laws_FnExactGreedyColouring.j2 kj50 t581 t580 true))=some r:=H
              have A89:=zz31 A890
              clear A890
              by_cases c90:t594=true
              ·subst c90
               have H1:(laws_FnExactGreedyColouring.j2 kj50 t581 t580 (t593 != t552))=some r:=by rw [if_pos rfl] at H;exact H
               clear H
               have H:=H1
               clear H1
               have H':=zz31 H
               clear H
               obtain ⟨Ao91,co91,eo91⟩:=Kd.R_slice HO592.out
               subst eo91
               obtain ⟨Ao92,co92,eo92⟩:=Kd.R_slice HO_6.out
               subst eo92
               go_wp2_with (first | ((with_reducible refine gate_callee (f:=18) rfl ?_);refine goesL_ (some 102) rfl rfl Tryd.func18 (by kernel_rfl) rfl #[.slice Ao91 t590.length co91,.slice Ao92 t549.length co92] rfl (by (try simp only [zz26,zz27,zz28]);first | done | rfl | (simp only [zz24,zz25];rfl)) ?_;(with_reducible refine (laws_eqIntS.calls kj50 _ _ t590 _ _ t549 true _ ?side1 ?side2 ?side3 ?side4 A89.out).mono ?_);(case side1=>repeat (first | exact (Kd.R_reads' HO592.out).2.2 | (with_reducible refine zz18 ?_ _) | (with_reducible refine zz19 ?_ _) | (with_reducible refine zz20 ?_)));(case side2=>exact (Kd.R_reads' HO592.out).2.1);(case side3=>repeat (first | exact (Kd.R_reads' HO_6.out).2.2 | (with_reducible refine zz18 ?_ _) | (with_reducible refine zz19 ?_ _) | (with_reducible refine zz20 ?_)));(case side4=>exact (Kd.R_reads' HO_6.out).2.1);rintro e w' ⟨rfl,⟨nd,rfl⟩⟩;refine ⟨_,rfl,?_⟩))
               go_meet
               case rel=>exact ⟨_,((t593 != t552)),(by first | rfl | (simp;done) | (simp [*];done)),H',⟨by have:=HJ15.out;have:=HJ50.out;first | omega | exact Nat.le_refl _⟩,⟨by (try simp only [hl558001_50]);(with_reducible repeat (first | apply zz12 | apply zz13 | apply zz14));exact Kd.R_mono HO_10.out (fun _ hk=>trivial)⟩,⟨by (try simp only [hl558001_50]);(with_reducible repeat (first | apply zz12 | apply zz13 | apply zz14));exact Kd.R_mono HO_558001.out (fun _ hk=>trivial)⟩,⟨by (try simp only [hl558001_50]);(with_reducible repeat (first | refine zz6 ?_ _ | refine zz7 ?_ | refine zz8 ?_ _));exact BK540.out⟩,⟨by (try simp only [hl558001_50]);(with_reducible repeat (first | refine zz6 ?_ _ | refine zz7 ?_ | refine zz8 ?_ _));exact BK557.out⟩,⟨by repeat first | exact HB.out | apply zz2 | apply zz0 | apply zz1 | refine zz3 ?_ GE540.out | refine zz3 ?_ GE557.out⟩⟩
              ·replace c90:=Bool.eq_false_iff.mpr c90
               subst c90
               have H1:(laws_FnExactGreedyColouring.j2 kj50 t581 t580 true)=some r:=by rw [if_neg (show ¬ (false=true) by decide)] at H;exact H
               clear H
               have H:=H1
               clear H1
               have H':=zz31 H
               clear H
               obtain ⟨Ao93,co93,eo93⟩:=Kd.R_slice HO592.out
               subst eo93
               obtain ⟨Ao94,co94,eo94⟩:=Kd.R_slice HO_6.out
               subst eo94
               go_wp2_with (first | ((with_reducible refine gate_callee (f:=18) rfl ?_);refine goesL_ (some 102) rfl rfl Tryd.func18 (by kernel_rfl) rfl #[.slice Ao93 t590.length co93,.slice Ao94 t549.length co94] rfl (by (try simp only [zz26,zz27,zz28]);first | done | rfl | (simp only [zz24,zz25];rfl)) ?_;(with_reducible refine (laws_eqIntS.calls kj50 _ _ t590 _ _ t549 false _ ?side1 ?side2 ?side3 ?side4 A89.out).mono ?_);(case side1=>repeat (first | exact (Kd.R_reads' HO592.out).2.2 | (with_reducible refine zz18 ?_ _) | (with_reducible refine zz19 ?_ _) | (with_reducible refine zz20 ?_)));(case side2=>exact (Kd.R_reads' HO592.out).2.1);(case side3=>repeat (first | exact (Kd.R_reads' HO_6.out).2.2 | (with_reducible refine zz18 ?_ _) | (with_reducible refine zz19 ?_ _) | (with_reducible refine zz20 ?_)));(case side4=>exact (Kd.R_reads' HO_6.out).2.1);rintro e w' ⟨rfl,⟨nd,rfl⟩⟩;refine ⟨_,rfl,?_⟩))
               go_meet
               case rel=>exact ⟨_,(true),(by first | rfl | (simp;done) | (simp [*];done)),H',⟨by have:=HJ15.out;have:=HJ50.out;first | omega | exact Nat.le_refl _⟩,⟨by (try simp only [hl558001_50]);(with_reducible repeat (first | apply zz12 | apply zz13 | apply zz14));exact Kd.R_mono HO_10.out (fun _ hk=>trivial)⟩,⟨by (try simp only [hl558001_50]);(with_reducible repeat (first | apply zz12 | apply zz13 | apply zz14));exact Kd.R_mono HO_558001.out (fun _ hk=>trivial)⟩,⟨by (try simp only [hl558001_50]);(with_reducible repeat (first | refine zz6 ?_ _ | refine zz7 ?_ | refine zz8 ?_ _));exact BK540.out⟩,⟨by (try simp only [hl558001_50]);(with_reducible repeat (first | refine zz6 ?_ _ | refine zz7 ?_ | refine zz8 ?_ _));exact BK557.out⟩,⟨by repeat first | exact HB.out | apply zz2 | apply zz0 | apply zz1 | refine zz3 ?_ GE540.out | refine zz3 ?_ GE557.out⟩⟩
             case rest =>
              clear HC79
              try clear c1
              try clear c2
              try clear p2
              try clear c3
              try clear c3b0
              try clear c3b1
              try clear c4
              try clear c5
              try clear c6
              try clear c6b0
              try clear c7
              try clear c8
              try clear c9
              try clear c11
              try clear c13
              try clear c18
              try clear c19
              try clear c20
              try clear c21
              try clear c26
              try clear c27
              try clear c28
              try clear c29
              try clear c37
              try clear c42
              try clear c45
              try clear c48
              try clear c58
              try clear c62
              try clear c62b0
              try clear c64
              try clear c69
              try clear c72
              try clear c72b0
              try clear c75
              try clear c75b0
              try clear c75b1
              try clear c82
              try clear c90
              try clear hcz18_0
              try clear hcz18_1
              try clear hcz20_0
              try clear hcz20_1
              try clear hcz26_0
              try clear hcz26_1
              try clear hcz30_0
              try clear hcz30_1
              try clear hcz33_0
              try clear hcz33_1
              try clear hcz59_0
              try clear hcz59_1
              try clear hcz83_0
              try clear hcz83_1
              try clear hcz8_0
              try clear hcz8_1
              try clear hfz18_0
              try clear hfz18_1
              try clear hfz20_0
              try clear hfz20_1
              try clear hfz26_0
              try clear hfz26_1
              try clear hfz30_0
              try clear hfz30_1
              try clear hfz33_0
              try clear hfz33_1
              try clear hfz59_0
              try clear hfz59_1
              try clear hfz83_0
              try clear hfz83_1
              try clear hfz8_0
              try clear hfz8_1
              try clear p2
              obtain ⟨kq,x108_78,rfl,HA,HJ78,HO_10,HO_558001,BK540,BK557,HB⟩:=hcut
              have hl10_78:=(Kd.R_reads' HO_10.out).1
              rw [hl10_78] at HO_10
              (try simp only [hl10_78])
              (try simp only [hl10_78] at BK540)
              (try simp only [hl10_78] at BK557)
              (try simp only [hl10_78] at HO_558001)
              cases kq with
              | zero=>exact absurd HA.out (by simp [laws_FnExactGreedyColouring.j2])
              | succ kj78 =>
               have H:=HA.out
               clear HA
               simp only [laws_FnExactGreedyColouring.j2] at H
               by_cases c95:x108_78=true
               ·subst c95
                have H1:(some false)=some r:=by rw [if_pos rfl] at H;exact H
                clear H
                have H:=H1
                clear H1
                obtain rfl:=Option.some.inj H
                go_wp2
                go_ret
                exact ⟨by first | rfl | (simp [errW_none,errW_some] <;> rfl) | (simp [*,errW_none,errW_some] <;> rfl),by repeat first | exact HB.out | apply zz2 | apply zz0 | apply zz1 | refine zz3 ?_ GE540.out | refine zz3 ?_ GE557.out⟩
               ·replace c95:=Bool.eq_false_iff.mpr c95
                subst c95
                have H1:((laws_heldIntS.f kj78 t581 1).bind fun t595=>(if t595 < 0 then (some false) else (if t595=t580 then (some true) else (some false))))=some r:=by rw [if_neg (show ¬ (false=true) by decide)] at H;exact H
                clear H
                have H:=H1
                clear H1
                replace H:=zz30.mp H
                obtain ⟨t595,A960,H⟩:=H
                replace H:(if t595 < 0 then (some false) else (if t595=t580 then (some true) else (some false)))=some r:=H
                have A96:=zz31 A960
                clear A960
                by_cases c97:t595 < 0
                ·rw [if_pos c97] at H
                 have c97b0:decide (t595 < 0)=true:=decide_eq_true c97
                 clear c97
                 obtain rfl:=Option.some.inj H
                 go_wp2_with (first | ((with_reducible refine gate_callee (f:=21) rfl ?_);refine goesL_ (some 111) rfl rfl Tryd.func21 (by kernel_rfl) rfl #[.slice Ao80 t581.length co80,.int .i64 1] rfl (by (try simp only [zz26,zz27,zz28]);first | done | rfl | (simp only [zz24,zz25];rfl)) ?_;(with_reducible refine (laws_heldIntS.calls kj78 _ _ t581 1 t595 _ ?side1 ?side2 A96.out).mono ?_);(case side1=>repeat (first | exact (Kd.R_reads' HO_10.out).2.2 | (with_reducible refine zz18 ?_ _) | (with_reducible refine zz19 ?_ _) | (with_reducible refine zz20 ?_)));(case side2=>exact (Kd.R_reads' HO_10.out).2.1);rintro e w' ⟨rfl,⟨nd,rfl⟩⟩;refine ⟨_,rfl,?_⟩))
                 go_ret
                 exact ⟨by first | rfl | (simp [errW_none,errW_some] <;> rfl) | (simp [*,errW_none,errW_some] <;> rfl),by repeat first | exact HB.out | apply zz2 | apply zz0 | apply zz1 | refine zz3 ?_ GE540.out | refine zz3 ?_ GE557.out⟩
                ·rw [if_neg c97] at H
                 have c97b0:decide (t595 < 0)=false:=decide_eq_false c97
                 clear c97
                 by_cases c98:t595=t580
                 ·rw [if_pos c98] at H
                  have c98b0:(t595 == t580)=true:=beq_iff_eq.mpr c98
                  have c98b1:(t595 != t580)=false:=bne_eq_false_iff_eq.mpr c98
                  clear c98
                  obtain rfl:=Option.some.inj H
                  go_wp2_with (first | ((with_reducible refine gate_callee (f:=21) rfl ?_);refine goesL_ (some 111) rfl rfl Tryd.func21 (by kernel_rfl) rfl #[.slice Ao80 t581.length co80,.int .i64 1] rfl (by (try simp only [zz26,zz27,zz28]);first | done | rfl | (simp only [zz24,zz25];rfl)) ?_;(with_reducible refine (laws_heldIntS.calls kj78 _ _ t581 1 t595 _ ?side1 ?side2 A96.out).mono ?_);(case side1=>repeat (first | exact (Kd.R_reads' HO_10.out).2.2 | (with_reducible refine zz18 ?_ _) | (with_reducible refine zz19 ?_ _) | (with_reducible refine zz20 ?_)));(case side2=>exact (Kd.R_reads' HO_10.out).2.1);rintro e w' ⟨rfl,⟨nd,rfl⟩⟩;refine ⟨_,rfl,?_⟩))
                  go_ret
                  exact ⟨by first | rfl | (simp [errW_none,errW_some] <;> rfl) | (simp [*,errW_none,errW_some] <;> rfl),by repeat first | exact HB.out | apply zz2 | apply zz0 | apply zz1 | refine zz3 ?_ GE540.out | refine zz3 ?_ GE557.out⟩
                 ·rw [if_neg c98] at H
                  have c98b0:(t595 == t580)=false:=beq_eq_false_iff_ne.mpr c98
                  have c98b1:(t595 != t580)=true:=bne_iff_ne.mpr c98
                  obtain rfl:=Option.some.inj H
                  go_wp2_with (first | ((with_reducible refine gate_callee (f:=21) rfl ?_);refine goesL_ (some 111) rfl rfl Tryd.func21 (by kernel_rfl) rfl #[.slice Ao80 t581.length co80,.int .i64 1] rfl (by (try simp only [zz26,zz27,zz28]);first | done | rfl | (simp only [zz24,zz25];rfl)) ?_;(with_reducible refine (laws_heldIntS.calls kj78 _ _ t581 1 t595 _ ?side1 ?side2 A96.out).mono ?_);(case side1=>repeat (first | exact (Kd.R_reads' HO_10.out).2.2 | (with_reducible refine zz18 ?_ _) | (with_reducible refine zz19 ?_ _) | (with_reducible refine zz20 ?_)));(case side2=>exact (Kd.R_reads' HO_10.out).2.1);rintro e w' ⟨rfl,⟨nd,rfl⟩⟩;refine ⟨_,rfl,?_⟩))
                  go_ret
                  exact ⟨by first | rfl | (simp [errW_none,errW_some] <;> rfl) | (simp [*,errW_none,errW_some] <;> rfl),by repeat first | exact HB.out | apply zz2 | apply zz0 | apply zz1 | refine zz3 ?_ GE540.out | refine zz3 ?_ GE557.out⟩
            ·rw [if_neg c75] at H
             have c75b0:(t582 == t580)=false:=beq_eq_false_iff_ne.mpr c75
             have c75b1:(t582 != t580)=true:=bne_iff_ne.mpr c75
             obtain rfl:=Option.some.inj H
             obtain ⟨Ao99,co99,eo99⟩:=Kd.R_slice HO_10.out
             subst eo99
             go_wp2_with (first | ((with_reducible refine gate_callee (f:=20) rfl ?_);refine goesL_ (some 83) rfl rfl Tryd.func20 (by kernel_rfl) rfl #[.slice Ao99 t561.length co99,.int .i64 1] rfl (by (try simp only [zz26,zz27,zz28]);first | done | rfl | (simp only [zz24,zz25];rfl)) ?_;(with_reducible refine (laws_markIntS.calls kj50 (fun k_=>some k_=(.slice Ao99 t561.length co99:Value).ownBlock) (.slice Ao99 t561.length co99) t561 1 t580 t581 w _ ?side1 ?side2 A70.out).mono ?_);(case side1=>repeat first | exact HB.out | apply zz2 | apply zz0 | apply zz1 | refine zz3 ?_ GE540.out | refine zz3 ?_ GE557.out);(case side2=>exact Kd.R_tight rfl HO_10.out);rintro e w100 ⟨rfl,hy0,hb,hkp⟩;refine ⟨_,rfl,?_⟩;have n0_:=zz31 (Kd.R_mono (ok':=fun k_=>some k_ ≠ (.slice Ao99 t561.length co99:Value).ownBlock) (Kd.R_keptB (HO_6.out) hkp (fun k_ hk_ hs_=>(hk_) hs_)) (fun k_ hk_=>hk_.1));have n1_:=zz31 (Kd.R_reok rfl hy0 (fun k_ e_=>HO_10.out.1 k_ e_));have n2_:=zz31 (Kd.R_mono (ok':=fun k_=>True) (Kd.R_keptB ((Kd.R_apart' HO_558001.out (Kd.R_typed HO_10.out) (by decide))) hkp (fun k_ hk_ hs_=>(hk_.2) hs_)) (fun k_ hk_=>trivial));(first | have n3_:=zz31 (blk_kept BK540.out hkp (fun hs_=>(fun e_=>(Kd.R_ne HO_10.out BK540.out (by decide)) e_) hs_)) | have n3_:=zz31 (blk_kept (by (with_reducible repeat (first | refine zz6 ?_ _ | refine zz7 ?_ | refine zz8 ?_ _));exact BK540.out) hkp (fun hs_=>(fun e_=>(Kd.R_ne HO_10.out BK540.out (by decide)) e_) hs_)));(first | have n4_:=zz31 (blk_kept BK557.out hkp (fun hs_=>(fun e_=>(Kd.R_ne HO_10.out BK557.out (by decide)) e_) hs_)) | have n4_:=zz31 (blk_kept (by (with_reducible repeat (first | refine zz6 ?_ _ | refine zz7 ?_ | refine zz8 ?_ _));exact BK557.out) hkp (fun hs_=>(fun e_=>(Kd.R_ne HO_10.out BK557.out (by decide)) e_) hs_)));have n5_:=zz31 (hb);clear HO_6;clear HO_10;clear HO_558001;clear BK540;clear BK557;clear HB;have HO_6:=n0_;have HO_10:=n1_;have HO_558001:=n2_;have BK540:=n3_;have BK557:=n4_;have HB:=n5_;clear n0_ n1_ n2_ n3_ n4_ n5_;(try clear hb);(try clear hkp);(try clear hy0)) | ((with_reducible refine gate_callee (f:=21) rfl ?_);refine goesL_ (some 86) rfl rfl Tryd.func21 (by kernel_rfl) rfl #[.slice Ao99 t581.length co99,.int .i64 1] rfl (by (try simp only [zz26,zz27,zz28]);first | done | (rw [show t581.length=t561.length from (Kd.R_reads' HO_10.out).1.symm] <;> rfl) | rfl | (simp only [zz24,zz25];rfl)) ?_;(with_reducible refine (laws_heldIntS.calls kj50 _ _ t581 1 t582 _ ?side1 ?side2 A71.out).mono ?_);(case side1=>repeat (first | exact (Kd.R_reads' HO_10.out).2.2 | (with_reducible refine zz18 ?_ _) | (with_reducible refine zz19 ?_ _) | (with_reducible refine zz20 ?_)));(case side2=>rw [show t581.length=t561.length from (Kd.R_reads' HO_10.out).1.symm];exact (Kd.R_reads' HO_10.out).2.1);rintro e w' ⟨rfl,⟨nd,rfl⟩⟩;refine ⟨_,rfl,?_⟩))
             go_ret
             exact ⟨by first | rfl | (simp [errW_none,errW_some] <;> rfl) | (simp [*,errW_none,errW_some] <;> rfl),by repeat first | exact HB.out | apply zz2 | apply zz0 | apply zz1 | refine zz3 ?_ GE540.out | refine zz3 ?_ GE557.out⟩
       ·replace c48:=Bool.eq_false_iff.mpr c48
        subst c48
        have H1:(some false)=some r:=by rw [if_neg (show ¬ (false=true) by decide)] at H;exact H
        clear H
        have H:=H1
        clear H1
        obtain rfl:=Option.some.inj H
        try go_wp2
        have n0_:=zz31 (zz14 HO_6.out)
        have n1_:=zz31 (zz14 HO_9.out)
        have n2_:=zz31 (zz14 HO_10.out)
        have n3_:=zz31 (zz14 HO_558001.out)
        have n4_:=zz31 (zz7 BK540.out)
        have n5_:=zz31 (zz7 BK557.out)
        have n6_:=zz31 (zz1 HB.out)
        clear HO_6
        clear HO_9
        clear HO_10
        clear HO_558001
        clear BK540
        clear BK557
        clear HB
        have HO_6:=n0_
        have HO_9:=n1_
        have HO_10:=n2_
        have HO_558001:=n3_
        have BK540:=n4_
        have BK557:=n5_
        have HB:=n6_
        clear n0_ n1_ n2_ n3_ n4_ n5_ n6_
        refine start_ (n:=5) (S:=fun w'=>w'.cell? ⟨gb557,0,none⟩=some (.int .i64 t553)∧w'.cell? ⟨gb557,1,none⟩=some (.slice Ao31 t554.length co31)∧w'.cell? ⟨gb540,0,none⟩=some (.int .i64 a0_0)∧w'.cell? ⟨gb540,1,none⟩=some (.slice A0_1 l0_1.length c0_1)) (ds:=[]) #[F,F,F,F,F] (by kernel_rfl) rfl rfl ⟨(zz9 BK557.out 0).trans rfl,(zz9 BK557.out 1).trans rfl,(zz9 BK540.out 0).trans rfl,(zz9 BK540.out 1).trans rfl⟩ (fun hHeld=>?_)
        generalize wc.drew=w101 at HO_6 HO_9 HO_10 HO_558001 BK540 BK557 HB hHeld ⊢
        refine take_ (i:=0) (N:=some 52) (v:=?_) (a':=?_) #[T,F,F,F,F] rfl rfl (by kernel_rfl) (fun _ _ _ h=>h) (Or.inl ⟨by rfl,?_⟩) hHeld ?_ ?_
        rotate_left
        ·rintro w' ⟨s0,s1,s2,s3⟩
         go_simp
         with_reducible rfl
        rotate_left
        ·simp only [Act.put,zz21,zz22,zz23,i64_w,i32_w]
         rfl
        refine take_ (i:=1) (N:=some 53) (v:=?_) (a':=?_) #[T,T,F,F,F] rfl rfl (by kernel_rfl) (fun _ _ _ h=>h) (Or.inl ⟨by rfl,?_⟩) hHeld ?_ ?_
        rotate_left
        ·rintro w' ⟨s0,s1,s2,s3⟩
         go_simp
         with_reducible rfl
        rotate_left
        ·simp only [Act.put,zz21,zz22,zz23,i64_w,i32_w]
         rfl
        refine one_ (i:=2) (N:=some 54) #[T,T,T,F,F] rfl rfl (by kernel_rfl) (by decide) (fun K hK=>?_)
        refine goes_ Tryd.func11 (by kernel_rfl) rfl #[.agg #[.int .i64 a0_0,.slice A0_1 l0_1.length c0_1]] (by rfl) rfl rfl (by (try simp only [zz26,zz27,zz28]);first | done | rfl | (simp only [zz24,zz25];rfl)) ?_
        with_reducible refine (laws_toParty.calls kj15 a0_0 _ _ l0_1 t566 t567 _ ?side1 ?side2 A43.out).mono ?_
        (case side1=>repeat (first | exact (Kd.C_below HR0_1.out HB.out) | (with_reducible refine zz18 ?_ _) | (with_reducible refine zz19 ?_ _) | (with_reducible refine zz20 ?_)))
        (case side2=>exact HC0_1.out)
        rintro e w102 ⟨v568,rfl,ho0,hb⟩
        refine ⟨_,rfl,?_⟩
        have n0_:=zz31 (Kd.R_below (by (with_reducible repeat (first | apply zz12 | apply zz13 | apply zz14));exact HO_6.out) hb)
        have n1_:=zz31 (Kd.R_below (by (with_reducible repeat (first | apply zz12 | apply zz13 | apply zz14));exact HO_9.out) hb)
        have n2_:=zz31 (Kd.R_below (by (with_reducible repeat (first | apply zz12 | apply zz13 | apply zz14));exact HO_10.out) hb)
        have n3_:=zz31 (Kd.R_elder' (by (with_reducible repeat (first | apply zz12 | apply zz13 | apply zz14));exact HO_558001.out) (Kd.R_base ho0) hb)
        have n4_:=zz31 (Kd.R_lower (Kd.R_new' ho0 (Kd.R_lt (by (with_reducible repeat (first | apply zz12 | apply zz13 | apply zz14));exact HO_558001.out))) (zz5 (by repeat first | exact HB.out | apply zz2 | apply zz0 | apply zz1 | refine zz3 ?_ GE540.out | refine zz3 ?_ GE557.out)))
        have n5_:=zz31 (zz11 (g:=gb540) (o:=.cells #[.int .i64 a0_0,.slice A0_1 l0_1.length c0_1] 24 (0,0)) (by (with_reducible repeat (first | refine zz6 ?_ _ | refine zz7 ?_ | refine zz8 ?_ _));exact BK540.out) hb)
        have n6_:=zz31 (zz11 (g:=gb557) (o:=.cells #[.int .i64 t553,.slice Ao31 t554.length co31] 30 (0,0)) (by (with_reducible repeat (first | refine zz6 ?_ _ | refine zz7 ?_ | refine zz8 ?_ _));exact BK557.out) hb)
        have n7_:=zz31 (zz4 (by repeat first | exact HB.out | apply zz2 | apply zz0 | apply zz1 | refine zz3 ?_ GE540.out | refine zz3 ?_ GE557.out) hb)
        clear HO_6
        clear HO_9
        clear HO_10
        clear HO_558001
        clear BK540
        clear BK557
        clear HB
        have HO_6:=n0_
        have HO_9:=n1_
        have HO_10:=n2_
        have HO_558001:=n3_
        have HO569:=n4_
        have BK540:=n5_
        have BK557:=n6_
        have HB:=n7_
        clear n0_ n1_ n2_ n3_ n4_ n5_ n6_ n7_
        (try clear hb)
        (try clear hb2)
        (try clear hk)
        (try clear hi)
        (try clear ho0)
        obtain ⟨Ao103,co103,eo103⟩:=Kd.R_slice HO569.out
        (first | subst eo103 | (injection eo103 with f1_ f2_ f3_;have f4_:=f1_.symm;have f5_:=f3_.symm;clear f1_ f2_ f3_;subst f4_;subst f5_))
        refine hK.out _ _ ⟨(zz9 BK557.out 0).trans rfl,(zz9 BK557.out 1).trans rfl,(zz9 BK540.out 0).trans rfl,(zz9 BK540.out 1).trans rfl⟩ (fun hHeld=>?_)
        clear hK K
        refine norm_ (a':=?_) ?_ ?_
        rotate_left
        ·show Act.put _ (some 54) _=_
         simp only [Act.put,zz21,zz22,zz23,i64_w,i32_w]
         rfl
        refine one_ (i:=3) (N:=some 55) #[T,T,T,T,F] rfl rfl (by kernel_rfl) (by decide) (fun K hK=>?_)
        refine goes_ Tryd.func13 (by kernel_rfl) rfl #[.agg #[.int .i64 t553,.slice Ao31 t554.length co31],.agg #[.int .i64 t566,.slice Ao103 t567.length co103]] (by rfl) rfl rfl (by (try simp only [zz26,zz27,zz28]);first | done | rfl | (simp only [zz24,zz25];rfl)) ?_
        with_reducible refine (laws_eqParty.calls kj15 t553 _ _ t554 t566 _ _ t567 true _ ?side1 ?side2 ?side3 ?side4 A44.out).mono ?_
        (case side1=>repeat (first | exact (Kd.R_reads' HO_558001.out).2.2 | (with_reducible refine zz18 ?_ _) | (with_reducible refine zz19 ?_ _) | (with_reducible refine zz20 ?_)))
        (case side2=>exact (Kd.R_reads' HO_558001.out).2.1)
        (case side3=>repeat (first | exact (Kd.R_reads' HO569.out).2.2 | (with_reducible refine zz18 ?_ _) | (with_reducible refine zz19 ?_ _) | (with_reducible refine zz20 ?_)))
        (case side4=>exact (Kd.R_reads' HO569.out).2.1)
        rintro e w104 ⟨rfl,hb⟩
        refine ⟨_,rfl,?_⟩
        have n0_:=zz31 (Kd.R_below (by (with_reducible repeat (first | apply zz12 | apply zz13 | apply zz14));exact HO_6.out) hb)
        have n1_:=zz31 (Kd.R_below (by (with_reducible repeat (first | apply zz12 | apply zz13 | apply zz14));exact HO_9.out) hb)
        have n2_:=zz31 (Kd.R_below (by (with_reducible repeat (first | apply zz12 | apply zz13 | apply zz14));exact HO_10.out) hb)
        have n3_:=zz31 (Kd.R_below (by (with_reducible repeat (first | apply zz12 | apply zz13 | apply zz14));exact HO_558001.out) hb)
        have n4_:=zz31 (Kd.R_below (by (with_reducible repeat (first | apply zz12 | apply zz13 | apply zz14));exact HO569.out) hb)
        have n5_:=zz31 (zz11 (g:=gb540) (o:=.cells #[.int .i64 a0_0,.slice A0_1 l0_1.length c0_1] 24 (0,0)) (by (with_reducible repeat (first | refine zz6 ?_ _ | refine zz7 ?_ | refine zz8 ?_ _));exact BK540.out) hb)
        have n6_:=zz31 (zz11 (g:=gb557) (o:=.cells #[.int .i64 t553,.slice Ao31 t554.length co31] 30 (0,0)) (by (with_reducible repeat (first | refine zz6 ?_ _ | refine zz7 ?_ | refine zz8 ?_ _));exact BK557.out) hb)
        have n7_:=zz31 (zz4 (by repeat first | exact HB.out | apply zz2 | apply zz0 | apply zz1 | refine zz3 ?_ GE540.out | refine zz3 ?_ GE557.out) hb)
        clear HO_6
        clear HO_9
        clear HO_10
        clear HO_558001
        clear HO569
        clear BK540
        clear BK557
        clear HB
        have HO_6:=n0_
        have HO_9:=n1_
        have HO_10:=n2_
        have HO_558001:=n3_
        have HO569:=n4_
        have BK540:=n5_
        have BK557:=n6_
        have HB:=n7_
        clear n0_ n1_ n2_ n3_ n4_ n5_ n6_ n7_
        (try clear hb)
        (try clear hb2)
        (try clear hk)
        (try clear hi)
        refine hK.out _ _ ⟨(zz9 BK557.out 0).trans rfl,(zz9 BK557.out 1).trans rfl,(zz9 BK540.out 0).trans rfl,(zz9 BK540.out 1).trans rfl⟩ (fun hHeld=>?_)
        clear hK K
        refine norm_ (a':=?_) ?_ ?_
        rotate_left
        ·show Act.put _ (some 55) _=_
         simp only [Act.put,zz21,zz22,zz23,i64_w,i32_w]
         rfl
        refine pure_ (i:=4) (N:=some 56) (v:=?_) (a':=?_) #[T,T,T,T,T] rfl rfl (by kernel_rfl) (fun _ _ _ h=>h) (Or.inl ⟨by rfl,?_⟩) ?_ ?_
        rotate_left
        ·intro w'
         go_simp
         with_reducible rfl
        rotate_left
        ·simp only [Act.put,zz21,zz22,zz23,i64_w,i32_w]
         rfl
        refine done_ (by kernel_rfl) ?_
        try go_wp2_with (first | ((with_reducible refine gate_callee (f:=27) rfl ?_);refine goesL_ (some 59) rfl rfl Tryd.func27 (by kernel_rfl) rfl #[.slice A1 l1.length c1] rfl (by (try simp only [zz26,zz27,zz28]);first | done | rfl | (simp only [zz24,zz25];rfl)) ?_;(with_reducible refine (laws_toIntS.calls kj15 _ _ l1 t571 _ ?side1 ?side2 A46.out).mono ?_);(case side1=>repeat (first | exact (Kd.C_below HR1.out HB.out) | (with_reducible refine zz18 ?_ _) | (with_reducible refine zz19 ?_ _) | (with_reducible refine zz20 ?_)));(case side2=>exact HC1.out);rintro e w105 ⟨v572,rfl,ho0,hb⟩;refine ⟨_,rfl,?_⟩;have n0_:=zz31 (Kd.R_elder' (by (with_reducible repeat (first | apply zz12 | apply zz13 | apply zz14));exact HO_6.out) (Kd.R_base ho0) hb);have n1_:=zz31 (Kd.R_elder' (by (with_reducible repeat (first | apply zz12 | apply zz13 | apply zz14));exact HO_9.out) (Kd.R_base ho0) hb);have n2_:=zz31 (Kd.R_elder' (by (with_reducible repeat (first | apply zz12 | apply zz13 | apply zz14));exact HO_10.out) (Kd.R_base ho0) hb);have n3_:=zz31 (Kd.R_below (by (with_reducible repeat (first | apply zz12 | apply zz13 | apply zz14));exact HO_558001.out) hb);have n4_:=zz31 (Kd.R_below (by (with_reducible repeat (first | apply zz12 | apply zz13 | apply zz14));exact HO569.out) hb);have n5_:=zz31 (Kd.R_lower (Kd.R_new' (Kd.R_new' (Kd.R_new' ho0 (Kd.R_lt (by (with_reducible repeat (first | apply zz12 | apply zz13 | apply zz14));exact HO_6.out))) (Kd.R_lt (by (with_reducible repeat (first | apply zz12 | apply zz13 | apply zz14));exact HO_9.out))) (Kd.R_lt (by (with_reducible repeat (first | apply zz12 | apply zz13 | apply zz14));exact HO_10.out))) (zz5 (by repeat first | exact HB.out | apply zz2 | apply zz0 | apply zz1 | refine zz3 ?_ GE540.out | refine zz3 ?_ GE557.out)));have n6_:=zz31 (zz11 (g:=gb540) (o:=.cells #[.int .i64 a0_0,.slice A0_1 l0_1.length c0_1] 24 (0,0)) (by (with_reducible repeat (first | refine zz6 ?_ _ | refine zz7 ?_ | refine zz8 ?_ _));exact BK540.out) hb);have n7_:=zz31 (zz11 (g:=gb557) (o:=.cells #[.int .i64 t553,.slice Ao31 t554.length co31] 30 (0,0)) (by (with_reducible repeat (first | refine zz6 ?_ _ | refine zz7 ?_ | refine zz8 ?_ _));exact BK557.out) hb);have n8_:=zz31 (zz4 (by repeat first | exact HB.out | apply zz2 | apply zz0 | apply zz1 | refine zz3 ?_ GE540.out | refine zz3 ?_ GE557.out) hb);clear HO_6;clear HO_9;clear HO_10;clear HO_558001;clear HO569;clear BK540;clear BK557;clear HB;have HO_6:=n0_;have HO_9:=n1_;have HO_10:=n2_;have HO_558001:=n3_;have HO569:=n4_;have HO573:=n5_;have BK540:=n6_;have BK557:=n7_;have HB:=n8_;clear n0_ n1_ n2_ n3_ n4_ n5_ n6_ n7_ n8_;(try clear hb);(try clear hb2);(try clear hk);(try clear hi);(try clear ho0);obtain ⟨Ao106,co106,eo106⟩:=Kd.R_slice HO573.out;subst eo106) | ((with_reducible refine gate_callee (f:=18) rfl ?_);refine goesL_ (some 60) rfl rfl Tryd.func18 (by kernel_rfl) rfl #[.slice Ao34 t558.length co34,.slice Ao106 t571.length co106] rfl (by (try simp only [zz26,zz27,zz28]);first | done | rfl | (simp only [zz24,zz25];rfl)) ?_;(with_reducible refine (laws_eqIntS.calls kj15 _ _ t558 _ _ t571 false _ ?side1 ?side2 ?side3 ?side4 A47.out).mono ?_);(case side1=>repeat (first | exact (Kd.R_reads' HO_9.out).2.2 | (with_reducible refine zz18 ?_ _) | (with_reducible refine zz19 ?_ _) | (with_reducible refine zz20 ?_)));(case side2=>exact (Kd.R_reads' HO_9.out).2.1);(case side3=>repeat (first | exact (Kd.R_reads' HO573.out).2.2 | (with_reducible refine zz18 ?_ _) | (with_reducible refine zz19 ?_ _) | (with_reducible refine zz20 ?_)));(case side4=>exact (Kd.R_reads' HO573.out).2.1);rintro e w' ⟨rfl,⟨nd,rfl⟩⟩;refine ⟨_,rfl,?_⟩))
        go_ret
        exact ⟨by first | rfl | (simp [errW_none,errW_some] <;> rfl) | (simp [*,errW_none,errW_some] <;> rfl),by repeat first | exact HB.out | apply zz2 | apply zz0 | apply zz1 | refine zz3 ?_ GE540.out | refine zz3 ?_ GE557.out⟩
      ·replace c45:=Bool.eq_false_iff.mpr c45
       subst c45
       have H1:(some false)=some r:=by rw [if_neg (show ¬ (false=true) by decide)] at H;exact H
       clear H
       have H:=H1
       clear H1
       obtain rfl:=Option.some.inj H
       try go_wp2
       have n0_:=zz31 (zz14 HO_6.out)
       have n1_:=zz31 (zz14 HO_9.out)
       have n2_:=zz31 (zz14 HO_10.out)
       have n3_:=zz31 (zz14 HO_558001.out)
       have n4_:=zz31 (zz7 BK540.out)
       have n5_:=zz31 (zz7 BK557.out)
       have n6_:=zz31 (zz1 HB.out)
       clear HO_6
       clear HO_9
       clear HO_10
       clear HO_558001
       clear BK540
       clear BK557
       clear HB
       have HO_6:=n0_
       have HO_9:=n1_
       have HO_10:=n2_
       have HO_558001:=n3_
       have BK540:=n4_
       have BK557:=n5_
       have HB:=n6_
       clear n0_ n1_ n2_ n3_ n4_ n5_ n6_
       refine start_ (n:=5) (S:=fun w'=>w'.cell? ⟨gb557,0,none⟩=some (.int .i64 t553)∧w'.cell? ⟨gb557,1,none⟩=some (.slice Ao31 t554.length co31)∧w'.cell? ⟨gb540,0,none⟩=some (.int .i64 a0_0)∧w'.cell? ⟨gb540,1,none⟩=some (.slice A0_1 l0_1.length c0_1)) (ds:=[]) #[F,F,F,F,F] (by kernel_rfl) rfl rfl ⟨(zz9 BK557.out 0).trans rfl,(zz9 BK557.out 1).trans rfl,(zz9 BK540.out 0).trans rfl,(zz9 BK540.out 1).trans rfl⟩ (fun hHeld=>?_)
       generalize wc.drew=w107 at HO_6 HO_9 HO_10 HO_558001 BK540 BK557 HB hHeld ⊢
       refine take_ (i:=0) (N:=some 52) (v:=?_) (a':=?_) #[T,F,F,F,F] rfl rfl (by kernel_rfl) (fun _ _ _ h=>h) (Or.inl ⟨by rfl,?_⟩) hHeld ?_ ?_
       rotate_left
       ·rintro w' ⟨s0,s1,s2,s3⟩
        go_simp
        with_reducible rfl
       rotate_left
       ·simp only [Act.put,zz21,zz22,zz23,i64_w,i32_w]
        rfl
       refine take_ (i:=1) (N:=some 53) (v:=?_) (a':=?_) #[T,T,F,F,F] rfl rfl (by kernel_rfl) (fun _ _ _ h=>h) (Or.inl ⟨by rfl,?_⟩) hHeld ?_ ?_
       rotate_left
       ·rintro w' ⟨s0,s1,s2,s3⟩
        go_simp
        with_reducible rfl
       rotate_left
       ·simp only [Act.put,zz21,zz22,zz23,i64_w,i32_w]
        rfl
       refine one_ (i:=2) (N:=some 54) #[T,T,T,F,F] rfl rfl (by kernel_rfl) (by decide) (fun K hK=>?_)
       refine goes_ Tryd.func11 (by kernel_rfl) rfl #[.agg #[.int .i64 a0_0,.slice A0_1 l0_1.length c0_1]] (by rfl) rfl rfl (by (try simp only [zz26,zz27,zz28]);first | done | rfl | (simp only [zz24,zz25];rfl)) ?_
       with_reducible refine (laws_toParty.calls kj15 a0_0 _ _ l0_1 t566 t567 _ ?side1 ?side2 A43.out).mono ?_
       (case side1=>repeat (first | exact (Kd.C_below HR0_1.out HB.out) | (with_reducible refine zz18 ?_ _) | (with_reducible refine zz19 ?_ _) | (with_reducible refine zz20 ?_)))
       (case side2=>exact HC0_1.out)
       rintro e w108 ⟨v568,rfl,ho0,hb⟩
       refine ⟨_,rfl,?_⟩
       have n0_:=zz31 (Kd.R_below (by (with_reducible repeat (first | apply zz12 | apply zz13 | apply zz14));exact HO_6.out) hb)
       have n1_:=zz31 (Kd.R_below (by (with_reducible repeat (first | apply zz12 | apply zz13 | apply zz14));exact HO_9.out) hb)
       have n2_:=zz31 (Kd.R_below (by (with_reducible repeat (first | apply zz12 | apply zz13 | apply zz14));exact HO_10.out) hb)
       have n3_:=zz31 (Kd.R_elder' (by (with_reducible repeat (first | apply zz12 | apply zz13 | apply zz14));exact HO_558001.out) (Kd.R_base ho0) hb)
       have n4_:=zz31 (Kd.R_lower (Kd.R_new' ho0 (Kd.R_lt (by (with_reducible repeat (first | apply zz12 | apply zz13 | apply zz14));exact HO_558001.out))) (zz5 (by repeat first | exact HB.out | apply zz2 | apply zz0 | apply zz1 | refine zz3 ?_ GE540.out | refine zz3 ?_ GE557.out)))
       have n5_:=zz31 (zz11 (g:=gb540) (o:=.cells #[.int .i64 a0_0,.slice A0_1 l0_1.length c0_1] 24 (0,0)) (by (with_reducible repeat (first | refine zz6 ?_ _ | refine zz7 ?_ | refine zz8 ?_ _));exact BK540.out) hb)
       have n6_:=zz31 (zz11 (g:=gb557) (o:=.cells #[.int .i64 t553,.slice Ao31 t554.length co31] 30 (0,0)) (by (with_reducible repeat (first | refine zz6 ?_ _ | refine zz7 ?_ | refine zz8 ?_ _));exact BK557.out) hb)
       have n7_:=zz31 (zz4 (by repeat first | exact HB.out | apply zz2 | apply zz0 | apply zz1 | refine zz3 ?_ GE540.out | refine zz3 ?_ GE557.out) hb)
       clear HO_6
       clear HO_9
       clear HO_10
       clear HO_558001
       clear BK540
       clear BK557
       clear HB
       have HO_6:=n0_
       have HO_9:=n1_
       have HO_10:=n2_
       have HO_558001:=n3_
       have HO569:=n4_
       have BK540:=n5_
       have BK557:=n6_
       have HB:=n7_
       clear n0_ n1_ n2_ n3_ n4_ n5_ n6_ n7_
       (try clear hb)
       (try clear hb2)
       (try clear hk)
       (try clear hi)
       (try clear ho0)
       obtain ⟨Ao109,co109,eo109⟩:=Kd.R_slice HO569.out
       (first | subst eo109 | (injection eo109 with f1_ f2_ f3_;have f4_:=f1_.symm;have f5_:=f3_.symm;clear f1_ f2_ f3_;subst f4_;subst f5_))
       refine hK.out _ _ ⟨(zz9 BK557.out 0).trans rfl,(zz9 BK557.out 1).trans rfl,(zz9 BK540.out 0).trans rfl,(zz9 BK540.out 1).trans rfl⟩ (fun hHeld=>?_)
       clear hK K
       refine norm_ (a':=?_) ?_ ?_
       rotate_left
       ·show Act.put _ (some 54) _=_
        simp only [Act.put,zz21,zz22,zz23,i64_w,i32_w]
        rfl
       refine one_ (i:=3) (N:=some 55) #[T,T,T,T,F] rfl rfl (by kernel_rfl) (by decide) (fun K hK=>?_)
       refine goes_ Tryd.func13 (by kernel_rfl) rfl #[.agg #[.int .i64 t553,.slice Ao31 t554.length co31],.agg #[.int .i64 t566,.slice Ao109 t567.length co109]] (by rfl) rfl rfl (by (try simp only [zz26,zz27,zz28]);first | done | rfl | (simp only [zz24,zz25];rfl)) ?_
       with_reducible refine (laws_eqParty.calls kj15 t553 _ _ t554 t566 _ _ t567 false _ ?side1 ?side2 ?side3 ?side4 A44.out).mono ?_
       (case side1=>repeat (first | exact (Kd.R_reads' HO_558001.out).2.2 | (with_reducible refine zz18 ?_ _) | (with_reducible refine zz19 ?_ _) | (with_reducible refine zz20 ?_)))
       (case side2=>exact (Kd.R_reads' HO_558001.out).2.1)
       (case side3=>repeat (first | exact (Kd.R_reads' HO569.out).2.2 | (with_reducible refine zz18 ?_ _) | (with_reducible refine zz19 ?_ _) | (with_reducible refine zz20 ?_)))
       (case side4=>exact (Kd.R_reads' HO569.out).2.1)
       rintro e w110 ⟨rfl,hb⟩
       refine ⟨_,rfl,?_⟩
       have n0_:=zz31 (Kd.R_below (by (with_reducible repeat (first | apply zz12 | apply zz13 | apply zz14));exact HO_6.out) hb)
       have n1_:=zz31 (Kd.R_below (by (with_reducible repeat (first | apply zz12 | apply zz13 | apply zz14));exact HO_9.out) hb)
       have n2_:=zz31 (Kd.R_below (by (with_reducible repeat (first | apply zz12 | apply zz13 | apply zz14));exact HO_10.out) hb)
       have n3_:=zz31 (Kd.R_below (by (with_reducible repeat (first | apply zz12 | apply zz13 | apply zz14));exact HO_558001.out) hb)
       have n4_:=zz31 (Kd.R_below (by (with_reducible repeat (first | apply zz12 | apply zz13 | apply zz14));exact HO569.out) hb)
       have n5_:=zz31 (zz11 (g:=gb540) (o:=.cells #[.int .i64 a0_0,.slice A0_1 l0_1.length c0_1] 24 (0,0)) (by (with_reducible repeat (first | refine zz6 ?_ _ | refine zz7 ?_ | refine zz8 ?_ _));exact BK540.out) hb)
       have n6_:=zz31 (zz11 (g:=gb557) (o:=.cells #[.int .i64 t553,.slice Ao31 t554.length co31] 30 (0,0)) (by (with_reducible repeat (first | refine zz6 ?_ _ | refine zz7 ?_ | refine zz8 ?_ _));exact BK557.out) hb)
       have n7_:=zz31 (zz4 (by repeat first | exact HB.out | apply zz2 | apply zz0 | apply zz1 | refine zz3 ?_ GE540.out | refine zz3 ?_ GE557.out) hb)
       clear HO_6
       clear HO_9
       clear HO_10
       clear HO_558001
       clear HO569
       clear BK540
       clear BK557
       clear HB
       have HO_6:=n0_
       have HO_9:=n1_
       have HO_10:=n2_
       have HO_558001:=n3_
       have HO569:=n4_
       have BK540:=n5_
       have BK557:=n6_
       have HB:=n7_
       clear n0_ n1_ n2_ n3_ n4_ n5_ n6_ n7_
       (try clear hb)
       (try clear hb2)
       (try clear hk)
       (try clear hi)
       refine hK.out _ _ ⟨(zz9 BK557.out 0).trans rfl,(zz9 BK557.out 1).trans rfl,(zz9 BK540.out 0).trans rfl,(zz9 BK540.out 1).trans rfl⟩ (fun hHeld=>?_)
       clear hK K
       refine norm_ (a':=?_) ?_ ?_
       rotate_left
       ·show Act.put _ (some 55) _=_
        simp only [Act.put,zz21,zz22,zz23,i64_w,i32_w]
        rfl
       refine pure_ (i:=4) (N:=some 56) (v:=?_) (a':=?_) #[T,T,T,T,T] rfl rfl (by kernel_rfl) (fun _ _ _ h=>h) (Or.inl ⟨by rfl,?_⟩) ?_ ?_
       rotate_left
       ·intro w'
        go_simp
        with_reducible rfl
       rotate_left
       ·simp only [Act.put,zz21,zz22,zz23,i64_w,i32_w]
        rfl
       refine done_ (by kernel_rfl) ?_
       try go_wp2
       go_ret
       exact ⟨by first | rfl | (simp [errW_none,errW_some] <;> rfl) | (simp [*,errW_none,errW_some] <;> rfl),by repeat first | exact HB.out | apply zz2 | apply zz0 | apply zz1 | refine zz3 ?_ GE540.out | refine zz3 ?_ GE557.out⟩

end Go.Proofs.YtifkaefccghgdaaDoor.P
