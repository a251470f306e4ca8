-- PRINTED by print.py (a twelfth state) out of the translation. Not trusted: Lean checks it.
import Derived.Test.YtifkaefccghgdaaPx0
import Derived.Test.YtifkaefccghgdaaPx1
import Derived.Test.YtifkaefccghgdaaPx2
import Derived.Test.YtifkaefccghgdaaPx5
namespace Go.Proofs.Ytifkaefccghgdaa.P
open Go.RowKit Go.Proofs.YtifkaefccghgdaaW.PrintWords Go.Proofs.YtifkaefccghgdaaW.PrintLast Go.Proofs.YtifkaefccghgdaaW.PrintMore
attribute [local go_sem] max2_int min2_int max_two min_two max_three min_three max_four min_four   -- for this text's walks alone
set_option linter.unusedVariables false
set_option linter.unusedSimpArgs false

/-! ### spec_grFew: function 48 -/
def spec_grFew.f (k:Nat) (a0_0:Int) (l0_1:List (S79)):Option (Bool):=(spec_paGood.f k a0_0 l0_1).bind fun t374=>(if t374=true then (some (decide (a0_0≤8))) else (some false))
theorem spec_grFew.mono:∀ a0 a1 k,LeO (spec_grFew.f k a0 a1) (spec_grFew.f (k+1) a0 a1):=by
 intro a0 a1 k
 unfold spec_grFew.f
 repeat' first
   | (with_reducible exact spec_paGood.mono _ _ _)
   | (with_reducible exact LeO.refl _)
   | (with_reducible exact LeO.none _)
   | (with_reducible refine LeO.ite ?_ ?_)
   | (with_reducible refine LeO.bind ?_ (fun _=>?_))
   | exact spec_paGood.mono _ _ _
   | exact LeO.none _
   | refine LeO.ite ?_ ?_
   | refine LeO.bind ?_ (fun _=>?_)
set_option maxHeartbeats 8000000 in
set_option maxRecDepth 100000 in
theorem spec_grFew.calls (k:Nat) (a0_0:Int) (A0_1:Option Addr) (c0_1:Nat) (l0_1:List (S79)) (r:Bool) (w:World) (hr0_1:Kd.C k79 w A0_1 l0_1.length l0_1) (hc0_1:l0_1.length≤c0_1) (h:spec_grFew.f k a0_0 l0_1=some r) :
  Calls Try.prog 48 #[.agg #[.int .i64 a0_0,.slice A0_1 l0_1.length c0_1]] w fun e w'=>e=.returned (.bool r)∧Below w.heap.size w w':=by
 have hu31:=Try.underlying31
 have HR0_1:=zz31 hr0_1
 have HC0_1:=zz31 hc0_1
 clear hr0_1 hc0_1
 have HB:=zz31 (Below.refl w.heap.size w)
 have H:((spec_paGood.f k a0_0 l0_1).bind fun t374=>(if t374=true then (some (decide (a0_0≤8))) else (some false)))=some r:=h
 clear h
 replace H:=zz30.mp H
 obtain ⟨t374,A20,H⟩:=H
 replace H:(if t374=true then (some (decide (a0_0≤8))) else (some false))=some r:=H
 have A2:=zz31 A20
 clear A20
 by_cases c3:t374=true
 ·subst c3
  have H1:(some (decide (a0_0≤8)))=some r:=by rw [if_pos rfl] at H;exact H
  clear H
  have H:=H1
  clear H1
  obtain rfl:=Option.some.inj H
  go_enter Try.func48,Try.ntmps48
  go_wp2_with (first | ((with_reducible refine gate_dst (N:=1) rfl ?_);refine box_event ?hg (N:=1) ?hd (cs:=#[.int .i64 a0_0,.slice A0_1 l0_1.length c0_1]) (t:=31) ?hr ?_;(case hd=>rfl);(case hg=>rfl);(case hr=>first | (go_simp;done) | (go_simp;rfl));intro gb373 hg w4 hbox hb;have n0_:=zz31 (zz4 (by repeat first | exact HB.out | apply zz2 | apply zz0 | apply zz1) hb);have n1_:=zz31 (hbox);have n2_:=zz31 ((by rw [hg];exact (zz5 (by repeat first | exact HB.out | apply zz2 | apply zz0 | apply zz1)):w.heap.size≤gb373));have n3_:=zz31 ((by rw [hg];exact (zz5 (by repeat first | exact HB.out | apply zz2 | apply zz0 | apply zz1)):w.heap.size≤gb373));clear HB;have HB:=n0_;have BK373:=n1_;have GW373:=n2_;have GE373:=n3_;clear n0_ n1_ n2_ n3_;clear hb hbox hg;have hcz5_0:w4.cell? ⟨gb373,0,none⟩=some (.int .i64 a0_0):=(zz9 BK373.out 0).trans rfl;have hcz5_1:w4.cell? ⟨gb373,1,none⟩=some (.slice A0_1 l0_1.length c0_1):=(zz9 BK373.out 1).trans rfl;have hfz5_0:=zz10 BK373.out 0;have hfz5_1:=zz10 BK373.out 1) | ((with_reducible refine gate_callee (f:=59) rfl ?_);refine goesL_ (some 4) rfl rfl Try.func59 (by kernel_rfl) rfl #[.agg #[.int .i64 a0_0,.slice A0_1 l0_1.length c0_1]] rfl (by (try simp only [zz26,zz27,zz28]);first | done | rfl | (simp only [zz24,zz25];rfl)) ?_;(with_reducible refine (spec_paGood.calls k a0_0 _ _ l0_1 true _ ?side1 ?side2 A2.out).mono ?_);(case side1=>repeat (first | exact (Kd.C_below HR0_1.out HB.out) | (with_reducible refine zz18 ?_ _) | (with_reducible refine zz19 ?_ _) | (with_reducible refine zz20 ?_)));(case side2=>exact HC0_1.out);rintro e w6 ⟨rfl,hb⟩;refine ⟨_,rfl,?_⟩;have n0_:=zz31 (zz11 (g:=gb373) (o:=.cells #[.int .i64 a0_0,.slice A0_1 l0_1.length c0_1] 31 (0,0)) (by (with_reducible repeat (first | refine zz6 ?_ _ | refine zz7 ?_ | refine zz8 ?_ _));exact BK373.out) hb);have n1_:=zz31 (zz4 (by repeat first | exact HB.out | apply zz2 | apply zz0 | apply zz1 | refine zz3 ?_ GE373.out) hb);clear BK373;clear HB;have BK373:=n0_;have HB:=n1_;clear n0_ n1_;(try clear hb);(try clear hb2);(try clear hk);(try clear hi);have hcz7_0:w6.cell? ⟨gb373,0,none⟩=some (.int .i64 a0_0):=(zz9 BK373.out 0).trans rfl;have hcz7_1:w6.cell? ⟨gb373,1,none⟩=some (.slice A0_1 l0_1.length c0_1):=(zz9 BK373.out 1).trans rfl;have hfz7_0:=zz10 BK373.out 0;have hfz7_1:=zz10 BK373.out 1))
  go_ret
  exact ⟨by first | rfl | (simp [errW_none,errW_some] <;> rfl) | (simp [*,errW_none,errW_some] <;> rfl),by repeat first | exact HB.out | apply zz2 | apply zz0 | apply zz1 | refine zz3 ?_ GE373.out⟩
 ·replace c3:=Bool.eq_false_iff.mpr c3
  subst c3
  have H1:(some false)=some r:=by rw [if_neg (show ¬ (false=true) by decide)] at H;exact H
  clear H
  have H:=H1
  clear H1
  obtain rfl:=Option.some.inj H
  go_enter Try.func48,Try.ntmps48
  go_wp2_with (first | ((with_reducible refine gate_dst (N:=1) rfl ?_);refine box_event ?hg (N:=1) ?hd (cs:=#[.int .i64 a0_0,.slice A0_1 l0_1.length c0_1]) (t:=31) ?hr ?_;(case hd=>rfl);(case hg=>rfl);(case hr=>first | (go_simp;done) | (go_simp;rfl));intro gb373 hg w8 hbox hb;have n0_:=zz31 (zz4 (by repeat first | exact HB.out | apply zz2 | apply zz0 | apply zz1) hb);have n1_:=zz31 (hbox);have n2_:=zz31 ((by rw [hg];exact (zz5 (by repeat first | exact HB.out | apply zz2 | apply zz0 | apply zz1)):w.heap.size≤gb373));have n3_:=zz31 ((by rw [hg];exact (zz5 (by repeat first | exact HB.out | apply zz2 | apply zz0 | apply zz1)):w.heap.size≤gb373));clear HB;have HB:=n0_;have BK373:=n1_;have GW373:=n2_;have GE373:=n3_;clear n0_ n1_ n2_ n3_;clear hb hbox hg;have hcz9_0:w8.cell? ⟨gb373,0,none⟩=some (.int .i64 a0_0):=(zz9 BK373.out 0).trans rfl;have hcz9_1:w8.cell? ⟨gb373,1,none⟩=some (.slice A0_1 l0_1.length c0_1):=(zz9 BK373.out 1).trans rfl;have hfz9_0:=zz10 BK373.out 0;have hfz9_1:=zz10 BK373.out 1) | ((with_reducible refine gate_callee (f:=59) rfl ?_);refine goesL_ (some 4) rfl rfl Try.func59 (by kernel_rfl) rfl #[.agg #[.int .i64 a0_0,.slice A0_1 l0_1.length c0_1]] rfl (by (try simp only [zz26,zz27,zz28]);first | done | rfl | (simp only [zz24,zz25];rfl)) ?_;(with_reducible refine (spec_paGood.calls k a0_0 _ _ l0_1 false _ ?side1 ?side2 A2.out).mono ?_);(case side1=>repeat (first | exact (Kd.C_below HR0_1.out HB.out) | (with_reducible refine zz18 ?_ _) | (with_reducible refine zz19 ?_ _) | (with_reducible refine zz20 ?_)));(case side2=>exact HC0_1.out);rintro e w10 ⟨rfl,hb⟩;refine ⟨_,rfl,?_⟩;have n0_:=zz31 (zz11 (g:=gb373) (o:=.cells #[.int .i64 a0_0,.slice A0_1 l0_1.length c0_1] 31 (0,0)) (by (with_reducible repeat (first | refine zz6 ?_ _ | refine zz7 ?_ | refine zz8 ?_ _));exact BK373.out) hb);have n1_:=zz31 (zz4 (by repeat first | exact HB.out | apply zz2 | apply zz0 | apply zz1 | refine zz3 ?_ GE373.out) hb);clear BK373;clear HB;have BK373:=n0_;have HB:=n1_;clear n0_ n1_;(try clear hb);(try clear hb2);(try clear hk);(try clear hi)))
  go_ret
  exact ⟨by first | rfl | (simp [errW_none,errW_some] <;> rfl) | (simp [*,errW_none,errW_some] <;> rfl),by repeat first | exact HB.out | apply zz2 | apply zz0 | apply zz1 | refine zz3 ?_ GE373.out⟩

/-! ### impl_isFewColoured: function 51 -/
def impl_isFewColoured.f (k:Nat) (a0_0:Int) (l0_1:List (S79)):Option (Bool):=(impl_IsParty.f k a0_0 l0_1).bind fun t383=>(if t383=true then (some (decide (a0_0≤8))) else (some false))
theorem impl_isFewColoured.mono:∀ a0 a1 k,LeO (impl_isFewColoured.f k a0 a1) (impl_isFewColoured.f (k+1) a0 a1):=by
 intro a0 a1 k
 unfold impl_isFewColoured.f
 repeat' first
   | (with_reducible exact impl_IsParty.mono _ _ _)
   | (with_reducible exact LeO.refl _)
   | (with_reducible exact LeO.none _)
   | (with_reducible refine LeO.ite ?_ ?_)
   | (with_reducible refine LeO.bind ?_ (fun _=>?_))
   | exact impl_IsParty.mono _ _ _
   | exact LeO.none _
   | refine LeO.ite ?_ ?_
   | refine LeO.bind ?_ (fun _=>?_)
set_option maxHeartbeats 8000000 in
set_option maxRecDepth 100000 in
theorem impl_isFewColoured.calls (k:Nat) (a0_0:Int) (A0_1:Option Addr) (c0_1:Nat) (l0_1:List (S79)) (r:Bool) (w:World) (hr0_1:Kd.C k79 w A0_1 l0_1.length l0_1) (hc0_1:l0_1.length≤c0_1) (h:impl_isFewColoured.f k a0_0 l0_1=some r) :
  Calls Try.prog 51 #[.agg #[.int .i64 a0_0,.slice A0_1 l0_1.length c0_1]] w fun e w'=>e=.returned (.bool r)∧Below w.heap.size w w':=by
 have hu31:=Try.underlying31
 have HR0_1:=zz31 hr0_1
 have HC0_1:=zz31 hc0_1
 clear hr0_1 hc0_1
 have HB:=zz31 (Below.refl w.heap.size w)
 have H:((impl_IsParty.f k a0_0 l0_1).bind fun t383=>(if t383=true then (some (decide (a0_0≤8))) else (some false)))=some r:=h
 clear h
 replace H:=zz30.mp H
 obtain ⟨t383,A20,H⟩:=H
 replace H:(if t383=true then (some (decide (a0_0≤8))) else (some false))=some r:=H
 have A2:=zz31 A20
 clear A20
 by_cases c3:t383=true
 ·subst c3
  have H1:(some (decide (a0_0≤8)))=some r:=by rw [if_pos rfl] at H;exact H
  clear H
  have H:=H1
  clear H1
  obtain rfl:=Option.some.inj H
  go_enter Try.func51,Try.ntmps51
  go_wp2_with (first | ((with_reducible refine gate_dst (N:=1) rfl ?_);refine box_event ?hg (N:=1) ?hd (cs:=#[.int .i64 a0_0,.slice A0_1 l0_1.length c0_1]) (t:=31) ?hr ?_;(case hd=>rfl);(case hg=>rfl);(case hr=>first | (go_simp;done) | (go_simp;rfl));intro gb382 hg w4 hbox hb;have n0_:=zz31 (zz4 (by repeat first | exact HB.out | apply zz2 | apply zz0 | apply zz1) hb);have n1_:=zz31 (hbox);have n2_:=zz31 ((by rw [hg];exact (zz5 (by repeat first | exact HB.out | apply zz2 | apply zz0 | apply zz1)):w.heap.size≤gb382));have n3_:=zz31 ((by rw [hg];exact (zz5 (by repeat first | exact HB.out | apply zz2 | apply zz0 | apply zz1)):w.heap.size≤gb382));clear HB;have HB:=n0_;have BK382:=n1_;have GW382:=n2_;have GE382:=n3_;clear n0_ n1_ n2_ n3_;clear hb hbox hg;have hcz5_0:w4.cell? ⟨gb382,0,none⟩=some (.int .i64 a0_0):=(zz9 BK382.out 0).trans rfl;have hcz5_1:w4.cell? ⟨gb382,1,none⟩=some (.slice A0_1 l0_1.length c0_1):=(zz9 BK382.out 1).trans rfl;have hfz5_0:=zz10 BK382.out 0;have hfz5_1:=zz10 BK382.out 1) | ((with_reducible refine gate_callee (f:=63) rfl ?_);refine goesL_ (some 4) rfl rfl Try.func63 (by kernel_rfl) rfl #[.agg #[.int .i64 a0_0,.slice A0_1 l0_1.length c0_1]] rfl (by (try simp only [zz26,zz27,zz28]);first | done | rfl | (simp only [zz24,zz25];rfl)) ?_;(with_reducible refine (impl_IsParty.calls k a0_0 _ _ l0_1 true _ ?side1 ?side2 A2.out).mono ?_);(case side1=>repeat (first | exact (Kd.C_below HR0_1.out HB.out) | (with_reducible refine zz18 ?_ _) | (with_reducible refine zz19 ?_ _) | (with_reducible refine zz20 ?_)));(case side2=>exact HC0_1.out);rintro e w6 ⟨rfl,hb⟩;refine ⟨_,rfl,?_⟩;have n0_:=zz31 (zz11 (g:=gb382) (o:=.cells #[.int .i64 a0_0,.slice A0_1 l0_1.length c0_1] 31 (0,0)) (by (with_reducible repeat (first | refine zz6 ?_ _ | refine zz7 ?_ | refine zz8 ?_ _));exact BK382.out) hb);have n1_:=zz31 (zz4 (by repeat first | exact HB.out | apply zz2 | apply zz0 | apply zz1 | refine zz3 ?_ GE382.out) hb);clear BK382;clear HB;have BK382:=n0_;have HB:=n1_;clear n0_ n1_;(try clear hb);(try clear hb2);(try clear hk);(try clear hi);have hcz7_0:w6.cell? ⟨gb382,0,none⟩=some (.int .i64 a0_0):=(zz9 BK382.out 0).trans rfl;have hcz7_1:w6.cell? ⟨gb382,1,none⟩=some (.slice A0_1 l0_1.length c0_1):=(zz9 BK382.out 1).trans rfl;have hfz7_0:=zz10 BK382.out 0;have hfz7_1:=zz10 BK382.out 1))
  go_ret
  exact ⟨by first | rfl | (simp [errW_none,errW_some] <;> rfl) | (simp [*,errW_none,errW_some] <;> rfl),by repeat first | exact HB.out | apply zz2 | apply zz0 | apply zz1 | refine zz3 ?_ GE382.out⟩
 ·replace c3:=Bool.eq_false_iff.mpr c3
  subst c3
  have H1:(some false)=some r:=by rw [if_neg (show ¬ (false=true) by decide)] at H;exact H
  clear H
  have H:=H1
  clear H1
  obtain rfl:=Option.some.inj H
  go_enter Try.func51,Try.ntmps51
  go_wp2_with (first | ((with_reducible refine gate_dst (N:=1) rfl ?_);refine box_event ?hg (N:=1) ?hd (cs:=#[.int .i64 a0_0,.slice A0_1 l0_1.length c0_1]) (t:=31) ?hr ?_;(case hd=>rfl);(case hg=>rfl);(case hr=>first | (go_simp;done) | (go_simp;rfl));intro gb382 hg w8 hbox hb;have n0_:=zz31 (zz4 (by repeat first | exact HB.out | apply zz2 | apply zz0 | apply zz1) hb);have n1_:=zz31 (hbox);have n2_:=zz31 ((by rw [hg];exact (zz5 (by repeat first | exact HB.out | apply zz2 | apply zz0 | apply zz1)):w.heap.size≤gb382));have n3_:=zz31 ((by rw [hg];exact (zz5 (by repeat first | exact HB.out | apply zz2 | apply zz0 | apply zz1)):w.heap.size≤gb382));clear HB;have HB:=n0_;have BK382:=n1_;have GW382:=n2_;have GE382:=n3_;clear n0_ n1_ n2_ n3_;clear hb hbox hg;have hcz9_0:w8.cell? ⟨gb382,0,none⟩=some (.int .i64 a0_0):=(zz9 BK382.out 0).trans rfl;have hcz9_1:w8.cell? ⟨gb382,1,none⟩=some (.slice A0_1 l0_1.length c0_1):=(zz9 BK382.out 1).trans rfl;have hfz9_0:=zz10 BK382.out 0;have hfz9_1:=zz10 BK382.out 1) | ((with_reducible refine gate_callee (f:=63) rfl ?_);refine goesL_ (some 4) rfl rfl Try.func63 (by kernel_rfl) rfl #[.agg #[.int .i64 a0_0,.slice A0_1 l0_1.length c0_1]] rfl (by (try simp only [zz26,zz27,zz28]);first | done | rfl | (simp only [zz24,zz25];rfl)) ?_;(with_reducible refine (impl_IsParty.calls k a0_0 _ _ l0_1 false _ ?side1 ?side2 A2.out).mono ?_);(case side1=>repeat (first | exact (Kd.C_below HR0_1.out HB.out) | (with_reducible refine zz18 ?_ _) | (with_reducible refine zz19 ?_ _) | (with_reducible refine zz20 ?_)));(case side2=>exact HC0_1.out);rintro e w10 ⟨rfl,hb⟩;refine ⟨_,rfl,?_⟩;have n0_:=zz31 (zz11 (g:=gb382) (o:=.cells #[.int .i64 a0_0,.slice A0_1 l0_1.length c0_1] 31 (0,0)) (by (with_reducible repeat (first | refine zz6 ?_ _ | refine zz7 ?_ | refine zz8 ?_ _));exact BK382.out) hb);have n1_:=zz31 (zz4 (by repeat first | exact HB.out | apply zz2 | apply zz0 | apply zz1 | refine zz3 ?_ GE382.out) hb);clear BK382;clear HB;have BK382:=n0_;have HB:=n1_;clear n0_ n1_;(try clear hb);(try clear hb2);(try clear hk);(try clear hi)))
  go_ret
  exact ⟨by first | rfl | (simp [errW_none,errW_some] <;> rfl) | (simp [*,errW_none,errW_some] <;> rfl),by repeat first | exact HB.out | apply zz2 | apply zz0 | apply zz1 | refine zz3 ?_ GE382.out⟩

/-! ### impl_table_colourings: function 53 (lemmas of our own) -/
/-! What a call of a closure keeps: the blocks `own` are the state's; whatever else lay stays; what is the state's behind was its own before, or is new. -/
structure Fr (own own' : Nat → Prop) (w w' : World) : Prop where
  os:w'.os=w.os
  tape:w'.tape=w.tape
  output:w'.output=w.output
  size:w.heap.size≤w'.heap.size
  block:∀ i,i < w.heap.size→¬ own i→w'.heap[i]?=w.heap[i]?
  own:∀ i,own' i→own i ∨ w.heap.size≤i
theorem Fr.refl (own:Nat→Prop) (w:World):Fr own own w w:=⟨rfl,rfl,rfl,Nat.le_refl _,fun _ _ _=>rfl,fun _ h=>.inl h⟩
theorem Fr.trans {o1 o2 o3:Nat→Prop} {w1 w2 w3:World} (h:Fr o1 o2 w1 w2) (k:Fr o2 o3 w2 w3):Fr o1 o3 w1 w3 :=
  ⟨k.os.trans h.os,k.tape.trans h.tape,k.output.trans h.output,Nat.le_trans h.size k.size,
   fun i hi hn=>(k.block i (Nat.lt_of_lt_of_le hi h.size) (fun h2=>(h.own i h2).elim hn (fun h3=>by omega))).trans (h.block i hi hn),
   fun i hi=>(k.own i hi).elim (fun h2=>h.own i h2) (fun h3=>.inr (Nat.le_trans h.size h3))⟩
theorem Fr.of_below (own:Nat→Prop) {w w':World} (h:Below w.heap.size w w'):Fr own own w w':=⟨h.os,h.tape,h.output,h.size,fun i hi _=>h.block i hi,fun _ h=>.inl h⟩
theorem Fr.below {own own':Nat→Prop} {n:Nat} {w w':World} (h:Fr own own' w w') (hn:n≤w.heap.size) (ho:∀ i,own i→n≤i):Below n w w' :=
  ⟨h.os,h.tape,h.output,h.size,fun i hi=>h.block i (by omega) (fun h2=>by have:=ho i h2;omega)⟩
theorem Fr.cell {own own':Nat→Prop} {w w':World} (h:Fr own own' w w') {a:Addr} {v:Value} (hc:w.cell? a=some v) (hn:¬ own a.block):w'.cell? a=some v:=by
  have:=h.block a.block (World.block_lt_of_cell? w a hc) hn
  simpa [World.cell?,this] using hc
theorem Fr.blk {own own':Nat→Prop} {w w':World} (h:Fr own own' w w') {g:Nat} {o:Obj} (hb:w.heap[g]?=some o) (hn:¬ own g):w'.heap[g]?=some o:=(h.block g (blk_lt hb) hn).trans hb
theorem Fr.R {α:Type} {d:Kd α} {e base:Nat} {ok own own':Nat→Prop} {w w':World} {v:Value} {xs:List α} (h:Fr own own' w w') (hr:d.R e w base ok v xs) (hn:∀ k,ok k→¬ own k):d.R e w' base ok v xs :=
  Kd.R_step hr (fun k hk hlt=>h.block k hlt (hn k hk))
theorem Fr.mono {o1 o1' o2:Nat→Prop} {w w':World} (h:Fr o1 o2 w w') (hs:∀ i,o1 i→o1' i) (h2:∀ i,o2 i→o1' i ∨ w.heap.size≤i):Fr o1' o2 w w' :=
  ⟨h.os,h.tape,h.output,h.size,fun i hi hn=>h.block i hi (fun h1=>hn (hs i h1)),h2⟩
theorem fr_addb (ad:Addr) (j:Nat):(ad.add j).block=ad.block:=by unfold Addr.add;split <;> rfl
/-- A row of numbers that is read, in no block of the state's. -/
def ReadApart (k:IntKind) (own:Nat→Prop) (w:World) (A:Option Addr) (n:Nat) (xs:List Int):Prop:=Kd.C (Kd.int k) w A n xs∧∀ ad,A=some ad→0 < n→¬ own ad.block
theorem ReadApart.fr {k:IntKind} {own own':Nat→Prop} {w w':World} {A:Option Addr} {n:Nat} {xs:List Int} (h:ReadApart k own w A n xs) (hf:Fr own own' w w'):ReadApart k own' w' A n xs:=by
  obtain ⟨⟨h1,h2,h3⟩,h4⟩:=h
  have hlt:∀ ad,A=some ad→0 < n→ad.block < w.heap.size:=fun ad e hn=>by
    obtain ⟨ad',e',hc⟩:=h3 hn
    rw [e] at e'
    injection e' with e'
    subst e'
    obtain ⟨c,hl,hk,hcc⟩:=hc 0 _ (List.getElem?_eq_getElem (show 0 < xs.length by omega))
    have hl':0 < c.length:=by rw [hl];exact Nat.zero_lt_one
    have:=World.block_lt_of_cell? w _ (hcc 0 _ (List.getElem?_eq_getElem hl'))
    rwa [fr_addb] at this
  refine ⟨⟨h1,h2,fun hn=>?_⟩,fun ad e hn h5=>?_⟩
  · obtain ⟨ad,e,hc⟩:=h3 hn
    refine ⟨ad,e,fun j p hj=>?_⟩
    obtain ⟨c,hl,hk,hcc⟩:=hc j p hj
    exact ⟨c,hl,hk,fun i u hu=>hf.cell (hcc i u hu) (by rw [fr_addb];exact h4 ad e hn)⟩
  · rcases hf.own _ h5 with h6 | h6
    · exact h4 ad e hn h6
    · have:=hlt ad e hn;omega
theorem Fr.drewN {own own':Nat→Prop} {w w':World} (h:Fr own own' w w') (n:Nat):Fr own own' w (w'.drewN n):=h.trans (Fr.of_below _ (zz0 (Below.refl _ _) n))
section
variable {P : Program} {ops : Array Oper} {o : Oper} {a : Act} {Q : Exit → Act → World → Prop} {K : Act → World → Prop}
/-- append(v, y) of a number, as one step of a region that draws its order (the box of y may lie anywhere). -/
theorem step_append_at {W:World} (k:IntKind) (base:Nat) (hw:Region.wanted o (yielded ops a.tmps)=true) (s x:Operand) (t e:TypeId) (bytes:Nat)
    (ho:o.op=.call { callee:=.builtin .append,args:=#[s,x],argTypes:=#[t,t] })
    (ht:P.underlying t=some (.slice e)) (hinfo:(P.info? e).map (fun i=>(i.zero,i.size,i.bytes))=some (some (.int k 0),1,bytes)) (hb0:0 < bytes)
    (v:Value) (xs:List Int) (y:Int) (ok:Nat→Prop) (hs:a.eval s=v) (ad:Addr) (hx:a.eval x=.slice (some ad) 1 1) (hc:W.cell? ad=some (.int k y)) (hfresh:∀ b,W.heap.size≤b→ok b)
    (HO:(Kd.int k).R e W base ok v xs) (hbase:base≤W.heap.size) (hl:(xs.length+1) * bytes≤140737488355328)
    (h:∀ v1 w1,(Kd.int k).R e w1 base ok v1 (xs ++ [y])→W.grownBy w1 v.ownBlock→K (a.put o.dst v1) w1) :
    if Region.wanted o (yielded ops a.tmps)=true then Oper.wp P o a W K Q else K (a.put o.dst undef) W:=by
  obtain ⟨i0,hi,hzz⟩:=Option.map_eq_some_iff.1 hinfo
  simp only [Prod.mk.injEq] at hzz
  obtain ⟨hz0,hz1,hz2⟩:=hzz
  have hlen:xs.length+1≤140737488355328:=Nat.le_trans (Nat.le_mul_of_pos_right _ hb0) hl
  rw [if_pos hw]
  obtain ⟨v1,w1,hr,hown,hg,_,hat⟩:=run_append_own_at (P:=P) W base t o.type e i0 (.int k 0) 1 bytes ht hi hz0 hz1 hz2 rfl (by decide) v xs.length _ (Kd.own_of_R HO) ad 1 1 [.int k y] (by simp)
    (fun j u hu=>by
      cases j with
      | zero=>simp at hu;subst hu;simpa [Addr.add] using hc
      | succ j=>simp at hu) (fun u hu=>by rw [List.mem_singleton.1 hu];rfl) (by simp only [maxLen];omega) hl hbase
  unfold Oper.wp execOp
  simp only [ho,resolve,invoke,builtin,Sem.run_bind,Sem.run_pure,Result.andThen_ok,zz26,zz27,zz28,hs,hx,hr]
  refine h v1 w1 (Kd.R_of_own (enc:=Value.int k) (h1:=fun _=>rfl) (by rw [List.length_append,List.length_singleton];have h2:=hown;unfold encs at h2 ⊢;rw [List.map_append];exact h2) (fun b hb=>?_)) hg
  rcases hat with hat | hat
  · exact HO.1 b (by rw [← hat];exact hb)
  · rw [hat] at hb
    injection hb with hb
    exact hfresh b (by omega)
end
def clashAt (r:Nat→Nat→Bool) (cs:List Int) (k:Nat) (j:Nat):Bool:=(List.range j).any fun b=>(cs.getD b 0 == (k:Int)) && r cs.length b
/-- The colourings of n people that begin with some colours, in the program's order: each with the number of its colours. -/
def cols (r:Nat→Nat→Bool):Nat→List Int→Nat→List (List Int × Nat)
  | 0,cs,m=>[(cs,m)]
  | d+1,cs,m=>(List.range (m+1)).flatMap fun k=>if clashAt r cs k cs.length then [] else cols r d (cs ++ [(k:Int)]) (max m (k+1))
theorem clashAt_succ (r:Nat→Nat→Bool) (cs:List Int) (k j:Nat):clashAt r cs k (j+1)=(clashAt r cs k j || ((cs.getD j 0 == (k:Int)) && r cs.length j)):=by simp [clashAt,List.range_succ]
theorem wrap_small (k:Nat) (h:k≤8):IntKind.i64.wrap ((k:Int)+1)=(k:Int)+1:=by rw [IntKind.wrap_i64];omega
theorem gb_below {base:Nat} {a w w':World} {row:Option Nat} (h:Below base a w) (hg:w.grownBy w' row) (hr:∀ k,row=some k→base≤k) (hs:base≤w.heap.size):Below base a w' :=
  ⟨hg.os.trans h.os,hg.tape.trans h.tape,hg.output.trans h.output,Nat.le_trans h.size hg.size,fun i hi=>(hg.block i (Nat.lt_of_lt_of_le hi hs) (fun he=>by have:=hr i he.symm;omega)).trans (h.block i hi)⟩
theorem size_alloc_le (w:World) (o:Obj):w.heap.size≤(w.alloc o).heap.size:=(zz2 (Below.refl w.heap.size w) o).size
theorem pw_cell_below' {w w1:World} (h:Below w.heap.size w w1) {a:Addr} {v:Value} (hc:w.cell? a=some v):w1.cell? a=some v:=pw_cell_below h hc
/-- A function value that takes each colouring, and answers true. -/
def EachCols (σ:Type) (g:Nat) (lb:Array Value) (B0:Nat) (I:σ→(Nat→Prop)→World→Prop) (step:σ→List Int→Nat→σ):Prop :=
  ∀ (s:σ) (own:Nat→Prop) (W:World) (A:Option Addr) (c:Nat) (cs:List Int) (m:Nat),I s own W→B0≤W.heap.size→cs.length≤8→m≤8→Kd.R (Kd.int .i64) 3 W B0 (fun k=>¬ own k) (.slice A cs.length c) cs →
    Calls Try.prog g (#[.slice A cs.length c,.int .i64 (m:Int)] ++ lb) W fun e W'=>e=.returned (.bool true)∧∃ own',I (step s cs m) own' W'∧Fr own own' W W'
set_option maxHeartbeats 4000000 in
set_option maxRecDepth 100000 in
theorem give_calls (σ:Type) (g:Nat) (lb:Array Value) (eg:∀ args w,(callFunc g args).run Try.prog w=.ok (.enter g args) w) (B0:Nat) (I:σ→(Nat→Prop)→World→Prop) (step:σ→List Int→Nat→σ)
    (hE:EachCols σ g lb B0 I step) (hI:∀ s own W W',I s own W→Below W.heap.size W W'→I s own W') (hO:∀ s own W,I s own W→∀ i,own i→i < W.heap.size)
    (r:Nat→Nat→Bool) (t:List Int) (hn:t.length≤8) (hh:∀ a b:Nat,a < t.length→b < t.length→impl_table_has.f t (a:Int) (b:Int)=some (r a b)) (Bt Be Bg:Nat) (At:Option Addr) (ct:Nat) :
    ∀ (d:Nat) (cs:List Int) (m:Nat) (s:σ) (own:Nat→Prop) (W:World) (A:Option Addr) (c:Nat),cs.length+d=t.length→m≤cs.length →
      W.cell? ⟨Bt,0,none⟩=some (.slice At t.length ct)→W.cell? ⟨Be,0,none⟩=some (.func (.func g) #[] lb)→W.cell? ⟨Bg,0,none⟩=some (.func (.func 71) #[] #[.pointer (some ⟨Bt,0,none⟩),.pointer (some ⟨Be,0,none⟩),.pointer (some ⟨Bg,0,none⟩)]) →
      ¬ own Bt→¬ own Be→¬ own Bg→ReadApart .u16 own W At t.length t→t.length≤ct→I s own W→B0≤W.heap.size→Kd.R (Kd.int .i64) 3 W B0 (fun k=>¬ own k) (.slice A cs.length c) cs →
      Calls Try.prog 71 #[.slice A cs.length c,.int .i64 (m:Int),.pointer (some ⟨Bt,0,none⟩),.pointer (some ⟨Be,0,none⟩),.pointer (some ⟨Bg,0,none⟩)] W fun e W' =>
        e=.returned (.bool true)∧∃ own',I ((cols r d cs m).foldl (fun s p=>step s p.1 p.2) s) own' W'∧Fr own own' W W'
  | 0,cs,m,s,own,W,A,c,hd,hm,ht,he,hg,nt,ne,ng,hT,hct,hs,hB,hR=>by
    have e0:((cs.length:Int) == (t.length:Int))=true:=beq_iff_eq.2 (by omega)
    have cE:=hE s own W A c cs m hs hB (by omega) (by omega) hR
    clear hE hs hR hT hh hI hO hd
    go_enter Try.func71,Try.ntmps71
    go_wp2_with (go_at_fn g;refine cE.mono ?_;rintro e W' ⟨rfl,own',h1,h2⟩)
    go_ret
    exact ⟨rfl,own',by simpa [cols] using h1,h2⟩
  | d+1,cs,m,s,own,W,A,c,hd,hm,ht,he,hg,nt,ne,ng,hT,hct,hs,hB,hR=>by
    have IH:=zz31 (give_calls σ g lb eg B0 I step hE hI hO r t hn hh Bt Be Bg At ct d)
    have HE:=zz31 hE
    have HI:=zz31 hI
    have HO:=zz31 hO
    have HH:=zz31 hh
    have HT:=zz31 hT
    have HS:=zz31 hs
    have HR:=zz31 hR
    have e0:((cs.length:Int) == (t.length:Int))=false:=beq_eq_false_iff_ne.2 (by omega)
    have hm8:m≤8:=by omega
    clear hE hI hO hh hT hs hR
    go_enter Try.func71,Try.ntmps71
    go_wp2
    go_loopg [25] (m+1) (fun gg v25 wr=>∃ (k:Nat) (s1:σ) (own1:Nat→Prop),k≤m+1∧m+1 - k≤gg∧v25=.int .i64 k∧Aside0 (s1=(((List.range k).flatMap fun k=>if clashAt r cs k cs.length then [] else cols r d (cs ++ [(k:Int)]) (max m (k+1))).foldl (fun s p=>step s p.1 p.2) s))∧Aside0 (I s1 own1 wr)∧Aside0 (Fr own own1 W wr))
    case atStart=>exact ⟨0,s,own,by omega,by omega,by rfl,⟨rfl⟩,HS,⟨Fr.refl _ _⟩⟩
    case round =>
      obtain ⟨k,s1,own1,hk,hgg,rfl,HS1,HI1,HF⟩:=hrel
      by_cases hlt:k < m+1
      · have hltz:(k:Int) < (m:Int)+1:=by omega
        have hr1:=HF.out.R HR.out (fun _ h=>h)
        have ht1:=HF.out.cell ht nt
        have he1:=HF.out.cell he ne
        have hg1:=HF.out.cell hg ng
        have HT1:=zz31 (HT.out.fr HF.out)
        have HR1:=zz31 hr1
        have hbt:=World.block_lt_of_cell? W _ ht
        have hbe:=World.block_lt_of_cell? W _ he
        have hbg:=World.block_lt_of_cell? W _ hg
        have HN:=zz31 (show ¬ own1 Bt∧¬ own1 Be∧¬ own1 Bg from ⟨fun h=>(HF.out.own _ h).elim nt (fun h=>absurd h (Nat.not_le.2 hbt)),fun h=>(HF.out.own _ h).elim ne (fun h=>absurd h (Nat.not_le.2 hbe)),fun h=>(HF.out.own _ h).elim ng (fun h=>absurd h (Nat.not_le.2 hbg))⟩)
        clear hr1 hbt hbe hbg
        go_wp2
        go_loopg [10,30] cs.length (fun gg v10 v30 w2=>∃ (j:Nat) (b:Bool),j≤cs.length∧cs.length - j≤gg∧v30=.int .i64 j∧v10=.bool b∧Aside0 (b=clashAt r cs k j)∧Aside0 (Drawn0 wr w2))
        case atStart=>exact ⟨0,false,by omega,by omega,by rfl,by rfl,⟨by simp [clashAt]⟩,⟨Drawn0.refl _⟩⟩
        case round =>
          obtain ⟨j,b,hj,hgj,rfl,rfl,HC,HD⟩:=hrel
          by_cases hjl:j < cs.length
          · have hjz:(j:Int) < (cs.length:Int):=by omega
            obtain ⟨q,hq⟩:=HD.out.out
            subst hq
            obtain ⟨ad,e1,hcell⟩:=Kd.at_int (Kd.R_reads' HR1.out).2.2 (j:Int) (by omega) (by omega)
            cases e1
            rw [Int.toNat_natCast] at hcell
            obtain ⟨y,hy⟩:∃ y,y=rd cs (j:Int):=⟨_,rfl⟩
            rw [← hy] at hcell
            have HY:=zz31 (show cs.getD j 0=y from by rw [hy];show _=cs.getD (j:Int).toNat 0;rw [Int.toNat_natCast])
            clear hy
            cases b with
            | true =>
              go_wp2
              go_roundg (cs.length - (j+1))
              case measure=>omega
              case rel=>exact ⟨j+1,true,by omega,by omega,by go_num,by rfl,⟨by rw [clashAt_succ,← HC.out];rfl⟩,HD⟩
            | false =>
              by_cases hyk:y=(k:Int)
              · have hyb:(y == (k:Int))=true:=beq_iff_eq.2 hyk
                have cH:=zz31 (impl_table_has.calls At ct t (cs.length:Int) (j:Int) (r cs.length j) (wr.drewN q) (zz19 HT1.out.1 _) hct (HH.out cs.length j (by omega) (by omega)))
                have HYK:=zz31 hyk
                clear hyk
                go_wp2_with (go_at_call 67;refine cH.out.mono ?_;rintro e w3 ⟨rfl,hd3⟩;obtain ⟨q3,hq3⟩:=hd3.out;subst hq3)
                go_roundg (cs.length - (j+1))
                case measure=>omega
                case rel=>exact ⟨j+1,r cs.length j,by omega,by omega,by go_num,by first | rfl | simp,⟨by rw [clashAt_succ,← HC.out,HY.out,HYK.out];simp⟩,⟨⟨⟨_,rfl⟩⟩⟩⟩
              · have hyb:(y == (k:Int))=false:=beq_eq_false_iff_ne.2 hyk
                have HYK:=zz31 hyb
                clear hyk
                go_wp2
                go_roundg (cs.length - (j+1))
                case measure=>omega
                case rel=>exact ⟨j+1,false,by omega,by omega,by go_num,by first | rfl | simp,⟨by rw [clashAt_succ,← HC.out,HY.out,HYK.out];rfl⟩,HD⟩
          · have hjz:¬ (j:Int) < (cs.length:Int):=by omega
            obtain rfl:j=cs.length:=by omega
            obtain ⟨q,hq⟩:=HD.out.out
            subst hq
            cases b with
            | true =>
              have HC2:=zz31 HC.out.symm
              go_wp2
              go_quiet (fail)
              go_wp2
              go_roundg (m+1 - (k+1))
              case measure=>omega
              case rel=>exact ⟨k+1,s1,own1,by omega,by omega,by go_num,⟨by rw [HS1.out,List.range_succ,List.flatMap_append,List.foldl_append];simp [← HC.out]⟩,⟨HI.out _ _ _ _ HI1.out (by repeat first | exact Below.refl _ _ | apply zz0)⟩,⟨HF.out.trans (Fr.of_below _ (by repeat first | exact Below.refl _ _ | apply zz0))⟩⟩
            | false =>
              have HC2:=zz31 HC.out.symm
              have hm63:(m:Int)≤8:=by omega
              have hk63:(k:Int)+1≤9:=by omega
              have HCs:=zz31 (Kd.R_reads' HR1.out).2.2
              have HCc:=zz31 (Kd.R_reads' HR1.out).2.1
              have HBg:=zz31 (World.block_lt_of_cell? wr _ hg1)
              have HBr:=zz31 (show B0≤wr.heap.size from Nat.le_trans hB HF.out.size)
              have HFC:=zz31 (show slices_Clone_int_int.f cs=some cs from by unfold slices_Clone_int_int.f;rw [if_pos (by omega)])
              have HLc:=zz31 (show (cs.length+1) * 8≤140737488355328 from by omega)
              have HBr1:=zz31 (show wr.heap.size≤((wr.drewN (q+1)).alloc (Obj.cells #[.int .i64 (k:Int)] 3)).heap.size from size_alloc_le (wr.drewN (q+1)) _)
              have HL1:=zz31 (show (cs ++ [(k:Int)]).length=cs.length+1 from by rw [List.length_append,List.length_singleton])
              obtain ⟨mm,hmm,hmv⟩:∃ mm:Nat,mm=max m (k+1)∧(if (m:Int) < IntKind.i64.wrap ((k:Int)+1) then IntKind.i64.wrap ((k:Int)+1) else (m:Int))=(mm:Int):=⟨max m (k+1),rfl,by rw [wrap_small k (by omega)];split <;> omega⟩
              have HMM:=zz31 hmm
              have HQ:=zz31 (show (cs ++ [(k:Int)]).length+d=t.length∧mm≤(cs ++ [(k:Int)]).length from by rw [hmm,List.length_append,List.length_singleton];omega)
              clear hmm
              go_wp2
              go_region_held3 (fun w' => w'.cell? ⟨Bg, 0, none⟩ = some (.func (.func 71) #[] #[.pointer (some ⟨Bt, 0, none⟩), .pointer (some ⟨Be, 0, none⟩), .pointer (some ⟨Bg, 0, none⟩)])) (first | go_keep | exact HF5.out.cell (a := ⟨Bg, 0, none⟩) hg1 HN.out.2.2 | exact (HBw4.out.cell (p := ⟨Bg, 0, none⟩) HBg.out).trans hg1 | exact (HBw.out.cell (p := ⟨Bg, 0, none⟩) HBg.out).trans hg1) (first | (go_at_call 42; refine (slices_Clone_int_int.calls A c cs cs _ ?_ HCc.out HFC.out).mono ?_; (repeat (first | exact HCs.out | (with_reducible refine zz18 ?_ _) | (with_reducible refine zz19 ?_ _) | (with_reducible refine zz20 ?_))); rintro e w3 ⟨v3, rfl, ho, hb⟩; have HBw := zz31 (zz4 (w := wr) (by repeat (first | exact Below.refl _ _ | apply zz0 | apply below_drew | apply zz2)) hb); have HBc := zz31 hb; have HO3 := zz31 ho; clear hb ho) | (refine step_append_at .i64 wr.heap.size ?_ (.tmp 53) (.tmp 55) 25 3 8 ?_ Try.underlying25 info3 (Nat.succ_pos 7) v3 cs (k : Int) (fun _ => True) ?_ ⟨w3.heap.size, 0, none⟩ ?_ ?_ (fun _ _ => trivial) ?_ ?_ HLc.out ?_; rfl; rfl; rfl; rfl; exact World.cell?_alloc_new _ _ _ 0; exact zz12 HO3.out _; exact (zz2 HBw.out _).size; intro v4 w4 ho4 hg4; have HBw4 := zz31 (gb_below (zz2 HBw.out _) hg4 (Kd.R_base HO3.out) (Nat.le_trans HBw.out.size (size_alloc_le _ _))); have HO4 := zz31 (Kd.R_mono (Kd.R_lower (Kd.R_bound ho4) HBr.out) (fun k hk h => Nat.lt_irrefl _ (Nat.lt_of_lt_of_le (HO.out _ _ _ HI1.out k h) hk.2.1))); obtain ⟨A4, c4, rfl⟩ := Kd.R_slice ho4; clear ho4 hg4) | (refine step_append_at .i64 wr.heap.size ?_ (.tmp 53) (.tmp 55) 25 3 8 ?_ Try.underlying25 info3 (Nat.succ_pos 7) v3 cs (k : Int) (fun _ => True) ?_ ⟨(wr.drewN (q + 1)).heap.size, 0, none⟩ ?_ ?_ (fun _ _ => trivial) ?_ ?_ HLc.out ?_; rfl; rfl; rfl; rfl; exact pw_cell_below HBc.out (World.cell?_alloc_new _ _ _ 0); exact Kd.R_lower HO3.out HBr1.out; exact HBw.out.size; intro v4 w4 ho4 hg4; have HBw4 := zz31 (gb_below HBw.out hg4 (Kd.R_base (Kd.R_lower HO3.out HBr1.out)) HBw.out.size); have HO4 := zz31 (Kd.R_mono (Kd.R_lower (Kd.R_bound ho4) HBr.out) (fun k hk h => Nat.lt_irrefl _ (Nat.lt_of_lt_of_le (HO.out _ _ _ HI1.out k h) hk.2.1))); obtain ⟨A4, c4, rfl⟩ := Kd.R_slice ho4; clear ho4 hg4) | (go_at_call 71; rw [← HL1.out]; refine (IH.out (cs ++ [(k : Int)]) mm s1 own1 w4 A4 c4 HQ.out.1 HQ.out.2 (pw_cell_below' HBw4.out ht1) (pw_cell_below' HBw4.out he1) (pw_cell_below' HBw4.out hg1) HN.out.1 HN.out.2.1 HN.out.2.2 (HT1.out.fr (Fr.of_below _ HBw4.out)) hct (HI.out _ _ _ _ HI1.out HBw4.out) (Nat.le_trans HBr.out HBw4.out.size) HO4.out).mono ?_; rintro e w5 ⟨rfl, own5, hI5, hF5⟩; have HI5 := zz31 hI5; have HF5 := zz31 ((Fr.of_below own1 HBw4.out).trans hF5); clear hI5 hF5) | (fail "no arm"))
              all_goals
                go_wp2
                go_roundg (m+1 - (k+1))
                case measure=>omega
                case rel=>exact ⟨k+1,(cols r d (cs ++ [(k:Int)]) mm).foldl (fun s p=>step s p.1 p.2) s1,own5,by omega,by omega,by go_num,⟨by rw [HS1.out,List.range_succ,List.flatMap_append,List.foldl_append];simp [← HC.out,HMM.out]⟩,⟨HI.out _ _ _ _ HI5.out (by repeat first | exact Below.refl _ _ | apply zz0)⟩,⟨HF.out.trans (HF5.out.trans (Fr.of_below _ (by repeat first | exact Below.refl _ _ | apply zz0)))⟩⟩
      · have hltz:¬ (k:Int) < (m:Int)+1:=by omega
        obtain rfl:k=m+1:=by omega
        go_wp2
        go_ret
        refine ⟨rfl,own1,?_,HF.out⟩
        have:=HI1.out
        rw [HS1.out] at this
        exact this
theorem frozen_new (W:World) (c:Array Value) (e i:Nat):(W.alloc (.cells c e)).frozen? ⟨W.heap.size,i,none⟩=false:=zz10 (blk_new W _) i
theorem R_empty (k:IntKind) (e:Nat) (W:World) (base:Nat) (ok:Nat→Prop) (hb:base≤W.heap.size) (hok:ok W.heap.size):(Kd.int k).R e (W.alloc (.cells #[] e)) base ok (.slice (some ⟨W.heap.size,0,none⟩) 0 0) [] :=
  ⟨fun k hk=>by
    have:W.heap.size=k:=by simpa [Value.ownBlock] using hk
    subst this;exact hok,[],by simpa using World.ownsRow_lit (base:=base) (e:=e) (size:=(Kd.int k).sz) W #[] 0 hb (by simp [maxLen]) (by simp),Reps.none _ _⟩
set_option maxHeartbeats 4000000 in
set_option maxRecDepth 100000 in
theorem colourings_calls (σ:Type) (g:Nat) (lb:Array Value) (eg:∀ args w,(callFunc g args).run Try.prog w=.ok (.enter g args) w) (B0:Nat) (I:σ→(Nat→Prop)→World→Prop) (step:σ→List Int→Nat→σ)
    (hE:EachCols σ g lb B0 I step) (hI:∀ s own W W',I s own W→Below W.heap.size W W'→I s own W') (hO:∀ s own W,I s own W→∀ i,own i→i < W.heap.size)
    (r:Nat→Nat→Bool) (t:List Int) (hn:t.length≤8) (hh:∀ a b:Nat,a < t.length→b < t.length→impl_table_has.f t (a:Int) (b:Int)=some (r a b)) (At:Option Addr) (ct:Nat)
    (s:σ) (own:Nat→Prop) (W:World) (hT:ReadApart .u16 own W At t.length t) (hct:t.length≤ct) (hs:I s own W) (hB:B0≤W.heap.size) :
    Calls Try.prog 53 #[.slice At t.length ct,.func (.func g) #[] lb] W fun e W' =>
      e=.returned (.tuple #[])∧∃ own',I ((cols r t.length [] 0).foldl (fun s p=>step s p.1 p.2) s) own' W'∧Fr own own' W W':=by
  have cG:Aside0 (Calls Try.prog 71 #[.slice (some ⟨W.heap.size+1+1+1,0,none⟩) 0 0,.int .i64 0,.pointer (some ⟨W.heap.size,0,none⟩),.pointer (some ⟨W.heap.size+1,0,none⟩),.pointer (some ⟨W.heap.size+1+1,0,none⟩)]
      ((((W.alloc (.cells #[.slice At t.length ct] 61)).alloc (.cells #[.func (.func g) #[] lb] 54)).alloc (.cells #[.func (.func 71) #[] #[.pointer (some ⟨W.heap.size,0,none⟩),.pointer (some ⟨W.heap.size+1,0,none⟩),.pointer (some ⟨W.heap.size+1+1,0,none⟩)]] 54)).alloc (.cells #[] 3)) fun e W' =>
      e=.returned (.bool true)∧∃ own',I ((cols r t.length [] 0).foldl (fun s p=>step s p.1 p.2) s) own' W'∧Fr own own' W W'):=by
    generalize hV0:(Value.slice At t.length ct)=V0 at *
    have e1:(W.alloc (.cells #[V0] 61)).heap.size=W.heap.size+1:=by simp
    have e2:((W.alloc (.cells #[V0] 61)).alloc (.cells #[.func (.func g) #[] lb] 54)).heap.size=W.heap.size+1+1:=by simp
    generalize hF:(Value.func (.func 71) #[] #[.pointer (some ⟨W.heap.size,0,none⟩),.pointer (some ⟨W.heap.size+1,0,none⟩),.pointer (some ⟨W.heap.size+1+1,0,none⟩)])=F
    have e3:(((W.alloc (.cells #[V0] 61)).alloc (.cells #[.func (.func g) #[] lb] 54)).alloc (.cells #[F] 54)).heap.size=W.heap.size+1+1+1:=by simp
    have b0:=blk_new W (.cells #[V0] 61)
    have b1:=blk_new (W.alloc (.cells #[V0] 61)) (.cells #[.func (.func g) #[] lb] 54)
    have b2:=blk_new ((W.alloc (.cells #[V0] 61)).alloc (.cells #[.func (.func g) #[] lb] 54)) (.cells #[F] 54)
    rw [e1] at b1
    rw [e2] at b2
    have c0:=zz9 (zz8 (zz8 (zz8 b0 (.cells #[.func (.func g) #[] lb] 54)) (.cells #[F] 54)) (.cells #[] 3)) 0
    have c1:=zz9 (zz8 (zz8 b1 (.cells #[F] 54)) (.cells #[] 3)) 0
    have c2:=zz9 (zz8 b2 (.cells #[] 3)) 0
    have hbel:Below W.heap.size W ((((W.alloc (.cells #[V0] 61)).alloc (.cells #[.func (.func g) #[] lb] 54)).alloc (.cells #[F] 54)).alloc (.cells #[] 3)):=zz2 (zz2 (zz2 (zz2 (Below.refl _ _) _) _) _) _
    have hR:=R_empty .i64 3 (((W.alloc (.cells #[V0] 61)).alloc (.cells #[.func (.func g) #[] lb] 54)).alloc (.cells #[F] 54)) B0 (fun k=>¬ own k) (by rw [e3];omega) (by rw [e3];intro h;have:=hO s own W hs _ h;omega)
    rw [e3] at hR
    subst hV0 hF
    have hno:∀ i,W.heap.size≤i→¬ own i:=fun i hi h=>by have:=hO s own W hs _ h;omega
    exact ⟨(give_calls σ g lb eg B0 I step hE hI hO r t hn hh W.heap.size (W.heap.size+1) (W.heap.size+1+1) At ct t.length [] 0 s own _ (some ⟨W.heap.size+1+1+1,0,none⟩) 0 (by simp) (by simp) c0 c1 c2 (hno _ (by omega)) (hno _ (by omega)) (hno _ (by omega)) (hT.fr (Fr.of_below _ hbel)) hct (hI _ _ _ _ hs hbel) (Nat.le_trans hB hbel.size) hR).mono fun e W' ⟨h1,own',h2,h3⟩=>⟨h1,own',h2,(Fr.of_below _ hbel).trans h3⟩⟩
  clear hE hI hO hh hT hs hB
  have hf3:(((W.alloc (Obj.cells #[Value.slice At t.length ct] 61)).alloc (Obj.cells #[Value.func (Fn.func g) #[] lb] 54)).alloc (Obj.cells #[Value.nilFunc] 54)).frozen? ⟨W.heap.size+1+1,0,none⟩=false:=by
    have e:((W.alloc (Obj.cells #[Value.slice At t.length ct] 61)).alloc (Obj.cells #[Value.func (Fn.func g) #[] lb] 54)).heap.size=W.heap.size+1+1:=by simp
    rw [← e];exact frozen_new _ _ _ 0
  have hc3:(((W.alloc (Obj.cells #[Value.slice At t.length ct] 61)).alloc (Obj.cells #[Value.func (Fn.func g) #[] lb] 54)).alloc (Obj.cells #[Value.nilFunc] 54)).cell? ⟨W.heap.size+1+1,0,none⟩=some Value.nilFunc:=by
    have e:((W.alloc (Obj.cells #[Value.slice At t.length ct] 61)).alloc (Obj.cells #[Value.func (Fn.func g) #[] lb] 54)).heap.size=W.heap.size+1+1:=by simp
    rw [← e];exact World.cell?_alloc_new _ _ _ 0
  go_enter Try.func53,Try.ntmps53
  go_wp2_with (go_at_call 71;refine cG.out.mono ?_;rintro e w' ⟨rfl,own',h1,h2⟩;have H1:=zz31 h1;have H2:=zz31 h2;clear h1 h2)

  exact bodyPost_end (results_none rfl _ _ _) rfl ⟨rfl,own',H1.out,H2.out⟩

end Go.Proofs.Ytifkaefccghgdaa.P
