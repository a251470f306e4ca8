-- PRINTED by print.py (a twelfth state) out of the translation. Not trusted: Lean checks it.
import Derived.Test.YtialimbdkokdcaaPx0
import Derived.Test.YtialimbdkokdcaaPx3
namespace Go.Proofs.Ytialimbdkokdcaa.P
open Go.RowKit Go.Proofs.YtialimbdkokdcaaW.PrintWords Go.Proofs.YtialimbdkokdcaaW.PrintLast Go.Proofs.YtialimbdkokdcaaW.PrintMore
attribute [local go_sem] max2_int min2_int max_two min_two max_three min_three max_four min_four   -- for this text's walks alone
set_option linter.unusedVariables false
set_option linter.unusedSimpArgs false

/-! ### impl_AreFriends: function 65 -/
def impl_AreFriends.f (k:Nat) (a0_0:Int) (l0_1:List (S80)) (a1:Int) (a2:Int):Option (Bool × Bool):=(impl_areTwo.f k a0_0 l0_1 a1 a2).bind fun t244=>(if t244=true then ((impl_Party_table.f k a0_0 l0_1).bind fun t245=>((impl_table_has.f t245 a1 a2).bind fun t248=>(some (t248,true)))) else (some (false,false)))
theorem impl_AreFriends.mono:∀ a0 a1 a2 a3 k,LeO (impl_AreFriends.f k a0 a1 a2 a3) (impl_AreFriends.f (k+1) a0 a1 a2 a3):=by
 intro a0 a1 a2 a3 k
 unfold impl_AreFriends.f
 repeat' first
   | (with_reducible exact impl_Party_table.mono _ _ _)
   | (with_reducible exact impl_areTwo.mono _ _ _ _ _)
   | (with_reducible exact LeO.refl _)
   | (with_reducible exact LeO.none _)
   | (with_reducible refine LeO.ite ?_ ?_)
   | (with_reducible refine LeO.bind ?_ (fun _=>?_))
   | exact impl_Party_table.mono _ _ _
   | exact impl_areTwo.mono _ _ _ _ _
   | exact LeO.none _
   | refine LeO.ite ?_ ?_
   | refine LeO.bind ?_ (fun _=>?_)
set_option maxHeartbeats 8000000 in
set_option maxRecDepth 100000 in
theorem impl_AreFriends.calls (k:Nat) (a0_0:Int) (A0_1:Option Addr) (c0_1:Nat) (l0_1:List (S80)) (a1:Int) (a2:Int) (r1:Bool) (r2:Bool) (w:World) (hr0_1:Kd.C k80 w A0_1 l0_1.length l0_1) (hc0_1:l0_1.length≤c0_1) (h:impl_AreFriends.f k a0_0 l0_1 a1 a2=some (r1,r2)) :
  Calls Try.prog 65 #[.agg #[.int .i64 a0_0,.slice A0_1 l0_1.length c0_1],.int .i64 a1,.int .i64 a2] w fun e w'=>e=.returned (.tuple #[.bool r1,.bool r2])∧Below w.heap.size w w':=by
 have hu30:=Try.underlying30
 have HR0_1:=zz31 hr0_1
 have HC0_1:=zz31 hc0_1
 clear hr0_1 hc0_1
 have HB:=zz31 (Below.refl w.heap.size w)
 have H:((impl_areTwo.f k a0_0 l0_1 a1 a2).bind fun t244=>(if t244=true then ((impl_Party_table.f k a0_0 l0_1).bind fun t245=>((impl_table_has.f t245 a1 a2).bind fun t248=>(some (t248,true)))) else (some (false,false))))=some (r1,r2):=h
 clear h
 replace H:=zz30.mp H
 obtain ⟨t244,A40,H⟩:=H
 replace H:(if t244=true then ((impl_Party_table.f k a0_0 l0_1).bind fun t245=>((impl_table_has.f t245 a1 a2).bind fun t248=>(some (t248,true)))) else (some (false,false)))=some (r1,r2):=H
 have A4:=zz31 A40
 clear A40
 by_cases c5:t244=true
 ·subst c5
  have H1:((impl_Party_table.f k a0_0 l0_1).bind fun t245=>((impl_table_has.f t245 a1 a2).bind fun t248=>(some (t248,true))))=some (r1,r2):=by rw [if_pos rfl] at H;exact H
  clear H
  have H:=H1
  clear H1
  replace H:=zz30.mp H
  obtain ⟨t245,A60,H⟩:=H
  replace H:((impl_table_has.f t245 a1 a2).bind fun t248=>(some (t248,true)))=some (r1,r2):=H
  have A6:=zz31 A60
  clear A60
  replace H:=zz30.mp H
  obtain ⟨t248,A70,H⟩:=H
  replace H:(some (t248,true))=some (r1,r2):=H
  have A7:=zz31 A70
  clear A70
  simp only [Option.some.injEq,Prod.mk.injEq] at H
  obtain ⟨rfl,rfl⟩:=H
  go_enter Try.func65,Try.ntmps65
  go_wp2_with (first | ((with_reducible refine gate_dst (N:=3) rfl ?_);refine box_event ?hg (N:=3) ?hd (cs:=#[.int .i64 a0_0,.slice A0_1 l0_1.length c0_1]) (t:=30) ?hr ?_;(case hd=>rfl);(case hg=>rfl);(case hr=>first | (go_simp;done) | (go_simp;rfl));intro gb243 hg w8 hbox hb;have n0_:=zz31 (zz4 (by repeat first | exact HB.out | apply zz2 | apply zz0 | apply zz1) hb);have n1_:=zz31 (hbox);have n2_:=zz31 ((by rw [hg];exact (zz5 (by repeat first | exact HB.out | apply zz2 | apply zz0 | apply zz1)):w.heap.size≤gb243));have n3_:=zz31 ((by rw [hg];exact (zz5 (by repeat first | exact HB.out | apply zz2 | apply zz0 | apply zz1)):w.heap.size≤gb243));clear HB;have HB:=n0_;have BK243:=n1_;have GW243:=n2_;have GE243:=n3_;clear n0_ n1_ n2_ n3_;clear hb hbox hg;have hcz9_0:w8.cell? ⟨gb243,0,none⟩=some (.int .i64 a0_0):=(zz9 BK243.out 0).trans rfl;have hcz9_1:w8.cell? ⟨gb243,1,none⟩=some (.slice A0_1 l0_1.length c0_1):=(zz9 BK243.out 1).trans rfl;have hfz9_0:=zz10 BK243.out 0;have hfz9_1:=zz10 BK243.out 1) | ((with_reducible refine gate_callee (f:=88) rfl ?_);refine goesL_ (some 11) rfl rfl Try.func88 (by kernel_rfl) rfl #[.agg #[.int .i64 a0_0,.slice A0_1 l0_1.length c0_1],.int .i64 a1,.int .i64 a2] rfl (by (try simp only [zz26,zz27,zz28]);first | done | rfl | (simp only [zz24,zz25];rfl)) ?_;(with_reducible refine (impl_areTwo.calls k a0_0 _ _ l0_1 a1 a2 true _ ?side1 ?side2 A4.out).mono ?_);(case side1=>repeat (first | exact (Kd.C_below HR0_1.out HB.out) | (with_reducible refine zz18 ?_ _) | (with_reducible refine zz19 ?_ _) | (with_reducible refine zz20 ?_)));(case side2=>exact HC0_1.out);rintro e w10 ⟨rfl,hb⟩;refine ⟨_,rfl,?_⟩;have n0_:=zz31 (zz11 (g:=gb243) (o:=.cells #[.int .i64 a0_0,.slice A0_1 l0_1.length c0_1] 30 (0,0)) (by (with_reducible repeat (first | refine zz6 ?_ _ | refine zz7 ?_ | refine zz8 ?_ _));exact BK243.out) hb);have n1_:=zz31 (zz4 (by repeat first | exact HB.out | apply zz2 | apply zz0 | apply zz1 | refine zz3 ?_ GE243.out) hb);clear BK243;clear HB;have BK243:=n0_;have HB:=n1_;clear n0_ n1_;(try clear hb);(try clear hb2);(try clear hk);(try clear hi);have hcz11_0:w10.cell? ⟨gb243,0,none⟩=some (.int .i64 a0_0):=(zz9 BK243.out 0).trans rfl;have hcz11_1:w10.cell? ⟨gb243,1,none⟩=some (.slice A0_1 l0_1.length c0_1):=(zz9 BK243.out 1).trans rfl;have hfz11_0:=zz10 BK243.out 0;have hfz11_1:=zz10 BK243.out 1) | ((with_reducible refine gate_callee (f:=46) rfl ?_);refine goesL_ (some 14) rfl rfl Try.func46 (by kernel_rfl) rfl #[.agg #[.int .i64 a0_0,.slice A0_1 l0_1.length c0_1]] rfl (by (try simp only [zz26,zz27,zz28]);first | done | rfl | (simp only [zz24,zz25];rfl)) ?_;(with_reducible refine (impl_Party_table.calls k a0_0 _ _ l0_1 t245 _ ?side1 ?side2 A6.out).mono ?_);(case side1=>repeat (first | exact (Kd.C_below HR0_1.out HB.out) | (with_reducible refine zz18 ?_ _) | (with_reducible refine zz19 ?_ _) | (with_reducible refine zz20 ?_)));(case side2=>exact HC0_1.out);rintro e w12 ⟨v246,rfl,ho0,hb⟩;refine ⟨_,rfl,?_⟩;have n0_:=zz31 (Kd.R_lower ho0 (zz5 (by repeat first | exact HB.out | apply zz2 | apply zz0 | apply zz1 | refine zz3 ?_ GE243.out)));have n1_:=zz31 (zz11 (g:=gb243) (o:=.cells #[.int .i64 a0_0,.slice A0_1 l0_1.length c0_1] 30 (0,0)) (by (with_reducible repeat (first | refine zz6 ?_ _ | refine zz7 ?_ | refine zz8 ?_ _));exact BK243.out) hb);have n2_:=zz31 (zz4 (by repeat first | exact HB.out | apply zz2 | apply zz0 | apply zz1 | refine zz3 ?_ GE243.out) hb);clear BK243;clear HB;have HO247:=n0_;have BK243:=n1_;have HB:=n2_;clear n0_ n1_ n2_;(try clear hb);(try clear hb2);(try clear hk);(try clear hi);(try clear ho0);obtain ⟨Ao13,co13,eo13⟩:=Kd.R_slice HO247.out;subst eo13) | ((with_reducible refine gate_callee (f:=48) rfl ?_);refine goesL_ (some 17) rfl rfl Try.func48 (by kernel_rfl) rfl #[.slice Ao13 t245.length co13,.int .i64 a1,.int .i64 a2] rfl (by (try simp only [zz26,zz27,zz28]);first | done | rfl | (simp only [zz24,zz25];rfl)) ?_;(with_reducible refine (impl_table_has.calls _ _ t245 a1 a2 t248 _ ?side1 ?side2 A7.out).mono ?_);(case side1=>repeat (first | exact (Kd.R_reads' HO247.out).2.2 | (with_reducible refine zz18 ?_ _) | (with_reducible refine zz19 ?_ _) | (with_reducible refine zz20 ?_)));(case side2=>exact (Kd.R_reads' HO247.out).2.1);rintro e w' ⟨rfl,⟨nd,rfl⟩⟩;refine ⟨_,rfl,?_⟩))
  go_ret2
  exact ⟨by first | rfl | (simp [errW_none,errW_some] <;> rfl) | (simp [*,errW_none,errW_some] <;> rfl),by repeat first | exact HB.out | apply zz2 | apply zz0 | apply zz1 | refine zz3 ?_ GE243.out⟩
 ·replace c5:=Bool.eq_false_iff.mpr c5
  subst c5
  have H1:(some (false,false))=some (r1,r2):=by rw [if_neg (show ¬ (false=true) by decide)] at H;exact H
  clear H
  have H:=H1
  clear H1
  simp only [Option.some.injEq,Prod.mk.injEq] at H
  obtain ⟨rfl,rfl⟩:=H
  go_enter Try.func65,Try.ntmps65
  go_wp2_with (first | ((with_reducible refine gate_dst (N:=3) rfl ?_);refine box_event ?hg (N:=3) ?hd (cs:=#[.int .i64 a0_0,.slice A0_1 l0_1.length c0_1]) (t:=30) ?hr ?_;(case hd=>rfl);(case hg=>rfl);(case hr=>first | (go_simp;done) | (go_simp;rfl));intro gb243 hg w14 hbox hb;have n0_:=zz31 (zz4 (by repeat first | exact HB.out | apply zz2 | apply zz0 | apply zz1) hb);have n1_:=zz31 (hbox);have n2_:=zz31 ((by rw [hg];exact (zz5 (by repeat first | exact HB.out | apply zz2 | apply zz0 | apply zz1)):w.heap.size≤gb243));have n3_:=zz31 ((by rw [hg];exact (zz5 (by repeat first | exact HB.out | apply zz2 | apply zz0 | apply zz1)):w.heap.size≤gb243));clear HB;have HB:=n0_;have BK243:=n1_;have GW243:=n2_;have GE243:=n3_;clear n0_ n1_ n2_ n3_;clear hb hbox hg;have hcz15_0:w14.cell? ⟨gb243,0,none⟩=some (.int .i64 a0_0):=(zz9 BK243.out 0).trans rfl;have hcz15_1:w14.cell? ⟨gb243,1,none⟩=some (.slice A0_1 l0_1.length c0_1):=(zz9 BK243.out 1).trans rfl;have hfz15_0:=zz10 BK243.out 0;have hfz15_1:=zz10 BK243.out 1) | ((with_reducible refine gate_callee (f:=88) rfl ?_);refine goesL_ (some 11) rfl rfl Try.func88 (by kernel_rfl) rfl #[.agg #[.int .i64 a0_0,.slice A0_1 l0_1.length c0_1],.int .i64 a1,.int .i64 a2] rfl (by (try simp only [zz26,zz27,zz28]);first | done | rfl | (simp only [zz24,zz25];rfl)) ?_;(with_reducible refine (impl_areTwo.calls k a0_0 _ _ l0_1 a1 a2 false _ ?side1 ?side2 A4.out).mono ?_);(case side1=>repeat (first | exact (Kd.C_below HR0_1.out HB.out) | (with_reducible refine zz18 ?_ _) | (with_reducible refine zz19 ?_ _) | (with_reducible refine zz20 ?_)));(case side2=>exact HC0_1.out);rintro e w16 ⟨rfl,hb⟩;refine ⟨_,rfl,?_⟩;have n0_:=zz31 (zz11 (g:=gb243) (o:=.cells #[.int .i64 a0_0,.slice A0_1 l0_1.length c0_1] 30 (0,0)) (by (with_reducible repeat (first | refine zz6 ?_ _ | refine zz7 ?_ | refine zz8 ?_ _));exact BK243.out) hb);have n1_:=zz31 (zz4 (by repeat first | exact HB.out | apply zz2 | apply zz0 | apply zz1 | refine zz3 ?_ GE243.out) hb);clear BK243;clear HB;have BK243:=n0_;have HB:=n1_;clear n0_ n1_;(try clear hb);(try clear hb2);(try clear hk);(try clear hi)))
  go_ret2
  exact ⟨by first | rfl | (simp [errW_none,errW_some] <;> rfl) | (simp [*,errW_none,errW_some] <;> rfl),by repeat first | exact HB.out | apply zz2 | apply zz0 | apply zz1 | refine zz3 ?_ GE243.out⟩

-- NOT PRINTED: function 89 (impl_Pair_89)

-- NOT PRINTED: function 68 (impl_Pair_68)

/-! ### impl_Pair_69: function 69 (a contract of our own) -/
def impl_Pair_69.f (l0:List S80):Option (List S80):=if l0.length≤1000000000 then some l0 else none
set_option maxHeartbeats 1000000 in
set_option maxRecDepth 100000 in
theorem impl_Pair_69.calls (A0:Option Addr) (c0:Nat) (l0:List S80) (r:List S80) (w:World) (hr0:Kd.C k80 w A0 l0.length l0) (hc0:l0.length≤c0) (h:impl_Pair_69.f l0=some r) :
  Calls Try.prog 69 #[.slice A0 l0.length c0] w fun e w'=>∃ v0_:Value,e=.returned (v0_)∧Kd.R k80 80 w' w.heap.size (fun _=>True) v0_ r∧Below w.heap.size w w':=by
 unfold impl_Pair_69.f at h
 by_cases hb:l0.length≤1000000000
 case neg=>rw [if_neg hb] at h;exact absurd h (by simp)
 rw [if_pos hb] at h
 obtain rfl:=Option.some.inj h
 clear h
 have HR:=zz31 hr0
 have HBIG:=zz31 hb
 clear hb hc0
 cases A0 with
 | none =>
  have h0:l0=[]:=by
   rcases Nat.eq_zero_or_pos l0.length with hz | hz
   ·exact List.eq_nil_of_length_eq_zero hz
   ·obtain ⟨ad,e,_⟩:=hr0.2.2 hz
    cases e
  subst h0
  clear hr0
  have heq:∀ W:World,(binOp .eql 28 (.slice none 0 c0) (.slice none 0 0)).run Try.prog W=.ok (.bool true) W:=fun W=>Lib.run_eql_slice_nil_nil W 0 c0 Try.underlying28
  go_enter Try.func69,Try.ntmps69
  go_wp2
  go_ret
  exact ⟨_,rfl,Kd.R_nil _ _ _ _ _,Below.refl _ _⟩
 | some ad =>
  clear hr0
  have heq:∀ W:World,(binOp .eql 28 (.slice (some ad) l0.length c0) (.slice none 0 0)).run Try.prog W=.ok (.bool false) W:=fun W=>Lib.run_eql_slice_some_nil W ad l0.length c0 Try.underlying28
  go_enter Try.func69,Try.ntmps69
  go_wp2_with (first | ((with_reducible refine gate_dst (N:=5) rfl ?_);refine Kd.R_lit k80 (w0:=w) w.heap.size 80 ?hg (N:=5) ?hd (xs:=([]:List S80)) (inner:=[]) (ok:=fun _=>True) (okp:=fun _=>True) ?hr ?hp (fun _ hk=>hk) trivial (Below.refl _ _) (Nat.le_refl _) (by simp) ?_;(case hd=>rfl);(case hg=>rfl);(case hr=>first | (go_simp;done) | (go_simp;rfl));(case hp=>exact (Reps.none _ _));intro v3 w3 ho hb hg_ hnew_;clear hg_ hnew_;have HO:=zz31 ho;have HB:=zz31 hb;clear ho hb) | ((with_reducible refine gate_dst (N:=7) rfl ?_);refine Kd.R_append_rows k80 (w0:=w) w.heap.size rfl (.tmp 5) (.tmp 6) 28 80 _ 16 rfl Try.underlying28 info80 rfl (by decide) (by omega) v3 [] l0 _ _ _ (fun _=>True) (fun _=>False) rfl rfl HO.out (Kd.C_below HR.out HB.out) ?aR (fun _ h=>h.elim) (fun _ _=>trivial) HB.out HB.out.size ?aL ?_;(case aR=>intro x cs hx;exact (k80_open hx) ▸ k80_mkM _ _ _ x);(case aL=>(have:=HBIG.out;simp;omega));intro v4 w4 ho4 hb4 hg4 hn4;clear hg4 hn4;have HO4:=zz31 ho4;have HB4:=zz31 hb4;clear ho4 hb4))
  go_ret
  exact ⟨_,rfl,by simpa using HO4.out,HB4.out⟩

-- NOT PRINTED: function 70 (impl_DropPair_1)

/-! ### impl_DropPair: function 35 (a contract of our own) -/
/-- Two fields, each compared. -/
theorem fields2 {P : Program} {d : Nat} {xs ys : Array Value} {f g : Field} {a b a2 b2 : Value} {r s : Bool} {w : World} (h1 : f.name ≠ "_") (h2 : g.name ≠ "_") (ha : (part f.type xs f.offset).run P w = .ok a w) (hb : (part f.type ys f.offset).run P w = .ok b w) (he : (Op.equalIn d f.type a b).run P w = .ok r w)
  (ha2:(part g.type xs g.offset).run P w=.ok a2 w) (hb2:(part g.type ys g.offset).run P w=.ok b2 w) (he2:(Op.equalIn d g.type a2 b2).run P w=.ok s w):(Op.eqFields d xs ys [f,g]).run P w=.ok (r && s) w:=by
 rw [Op.eqFields]
 simp only [if_pos h1,Sem.run_bind,ha,hb,he,Result.andThen_ok]
 cases r
 ·simp
 ·simp only [Op.eqFields,if_pos h2,Sem.run_bind,ha2,hb2,he2,Result.andThen_ok]
  cases s <;> simp [ha2,hb2,he2]
def eqP (x z:S80):Bool:=(x.f0 == z.f0) && (x.f1 == z.f1)
theorem eqI {P:Program} (d:Nat) (t:TypeId) (ht:P.underlying t=some (.int .i64)) (a b:Int) (w:World):(Op.equalIn (d+1) t (.int .i64 a) (.int .i64 b)).run P w=.ok (a == b) w:=by simp [Op.equalIn,run_underlying ht]
set_option maxRecDepth 100000 in
theorem eqPair_in (d:Nat) (x z:S80) (W:World):(Op.equalIn (d+1+1) 80 (.agg #[.int .i64 x.f0,.int .i64 x.f1]) (.agg #[.int .i64 z.f0,.int .i64 z.f1])).run Try.prog W=.ok (eqP x z) W:=by
 have hu:=Try.underlying80
 have hf:=(show Try.prog.fieldsOf 80=_ from by unfold Program.fieldsOf;rw [hu])
 rw [run_equalIn_struct (P:=Try.prog) W (d+1) 80 _ _ (by rw [hf];exact hu) (by kernel_rfl),hf]
 exact fields2 (by decide) (by decide) rfl rfl (eqI d _ Try.underlying3 x.f0 z.f0 W) rfl rfl (eqI d _ Try.underlying3 x.f1 z.f1 W)
set_option maxRecDepth 100000 in
theorem eqPair_run (x z:S80) (W:World):(binOp .eql 80 (.agg #[.int .i64 x.f0,.int .i64 x.f1]) (.agg #[.int .i64 z.f0,.int .i64 z.f1])).run Try.prog W=.ok (.bool (eqP x z)) W:=by
 have h:=eqPair_in 9998 x z W
 simp only [binOp]
 simp [Op.equal,Op.maxDepth,h]
set_option maxHeartbeats 2000000 in
set_option maxRecDepth 100000 in
theorem drop1_calls (bg:Nat) (z x:S80) (W:World) (hb:W.heap[bg]?=some (.cells #[.int .i64 z.f0,.int .i64 z.f1] 80 (0,0))) :
  Calls Try.prog 70 #[.agg #[.int .i64 x.f0,.int .i64 x.f1],.pointer (some ⟨bg,0,none⟩)] W fun e w'=>e=.returned (.bool (eqP x z))∧Below W.heap.size W w':=by
 have hu:=Try.underlying80
 have HB:=zz31 hb
 have heq:=eqPair_run x z
 obtain ⟨r,hr⟩:∃ r,r=eqP x z:=⟨_,rfl⟩
 rw [← hr] at heq ⊢
 clear hb hr
 go_enter Try.func70,Try.ntmps70
 go_wp2_with (first | ((with_reducible refine gate_dst (N := 2) rfl ?_); refine box_event ?hg (N := 2) ?hd (cs := #[.int .i64 x.f0, .int .i64 x.f1]) (t := 80) ?hr ?_; (case hd => rfl); (case hg => rfl); (case hr => first | (go_simp; done) | (go_simp; rfl)); intro bo hbo wa hbox hb; have HBa := zz31 hb; have g1 := zz9 (zz11 HB.out hb) 0; have g2 := zz9 (zz11 HB.out hb) 1; have f1 := zz9 hbox 0; have f2 := zz9 hbox 1; simp only [List.getElem?_toArray, List.getElem?_cons_zero, List.getElem?_cons_succ] at f1 f2 g1 g2; clear hbox hb hbo) | (fail "no arm"))
 go_ret
 exact ⟨rfl,HBa.out⟩
def idxQ (p:S80→Bool):List S80→Int
 | []=>-1
 | x :: xs=>if p x then 0 else if idxQ p xs < 0 then -1 else idxQ p xs+1
theorem idxQ_hit (p:S80→Bool):∀ (xs:List S80) (k:Nat),k < xs.length→(∀ j,j < k→p (xs.getD j z80)=false)→p (xs.getD k z80)=true→idxQ p xs=k
 | [],k,h,_,_=>by simp at h
 | x :: xs,0,_,_,hp=>by simp at hp;simp [idxQ,hp]
 | x :: xs,k+1,h,hn,hp=>by
  have h0:=hn 0 (by omega)
  have ih:=idxQ_hit p xs k (by simpa using h) (fun j hj=>by have:=hn (j+1) (by omega);simpa using this) (by simpa using hp)
  simp at h0
  simp [idxQ,h0,ih];omega
theorem idxQ_miss (p:S80→Bool):∀ (xs:List S80),(∀ j,j < xs.length→p (xs.getD j z80)=false)→idxQ p xs=-1
 | [],_=>rfl
 | x :: xs,hn=>by
  have h0:=hn 0 (by simp)
  have ih:=idxQ_miss p xs (fun j hj=>by have:=hn (j+1) (by simpa using hj);simpa using this)
  simp at h0
  simp [idxQ,h0,ih]
set_option maxHeartbeats 2000000 in
set_option maxRecDepth 100000 in
theorem idxQ_calls (bg:Nat) (z:S80) (A:Option Addr) (c:Nat) (xs:List S80) (W:World) (hb:W.heap[bg]?=some (.cells #[.int .i64 z.f0,.int .i64 z.f1] 80 (0,0))) (hC:Kd.C k80 W A xs.length xs) :
  Calls Try.prog 89 #[.slice A xs.length c,.func (.func 70) #[] #[.pointer (some ⟨bg,0,none⟩)]] W fun e w' =>
   e=.returned (.int .i64 (idxQ (fun x=>eqP x z) xs))∧(∀ k:Nat,idxQ (fun x=>eqP x z) xs=(k:Int)→k < xs.length∧(∀ j,j < k→eqP (xs.getD j z80) z=false)∧eqP (xs.getD k z80) z=true)∧Below W.heap.size W w':=by
 have hu:=Try.underlying80
 have HB:=zz31 hb
 have HC:=zz31 hC
 have hbig:xs.length≤9223372036854775807:=hC.2.1
 clear hb hC
 go_enter Try.func89,Try.ntmps89
 go_wp2
 go_loopg [5,8] xs.length (fun gg _ s8 wr=>∃ kk:Nat,kk≤xs.length∧xs.length - kk≤gg∧s8=.int .i64 kk∧Aside0 (Below W.heap.size W wr)∧Aside0 (∀ j,j < kk→eqP (xs.getD j z80) z=false))
 case atStart=>exact ⟨0,Nat.zero_le _,by omega,rfl,⟨Below.refl _ _⟩,⟨fun j hj=>absurd hj (Nat.not_lt_zero _)⟩⟩
 case round =>
  obtain ⟨kk,hkk,hg,rfl,HBr,AA⟩:=hrel
  by_cases hlt:kk < xs.length
  ·have hltz:(kk:Int) < (xs.length:Int):=by omega
   obtain ⟨ad,e0,hc0,hc1⟩:=at_T80 (Kd.C_below HC.out HBr.out) (kk:Int) (by omega) (by omega)
   cases e0
   rw [Int.toNat_natCast] at hc0 hc1
   obtain ⟨y,hy⟩:∃ y,y=rd_T80 xs (kk:Int):=⟨_,rfl⟩
   rw [← hy] at hc0 hc1
   have hy2:xs.getD kk z80=y:=by rw [hy];unfold rd_T80;rw [Int.toNat_natCast]
   have BB:=zz31 hy2
   have cD:=zz31 (drop1_calls bg z y wr (zz11 HB.out HBr.out))
   clear hy hy2
   cases hq:eqP y z with
   | true =>
    rw [hq] at cD
    go_wp2_with (first | (go_at_call 70; refine cD.out.mono ?_; rintro e w' ⟨rfl, hb⟩; have HB2 := zz31 (zz4 HBr.out hb); clear hb) | (fail "no arm"))
    go_ret
    have h1:=idxQ_hit (fun x=>eqP x z) xs kk hlt AA.out (by rw [BB.out];exact hq)
    refine ⟨by rw [h1];rfl,fun k hk=>?_,HB2.out⟩
    rw [h1] at hk
    obtain rfl:kk=k:=by omega
    exact ⟨hlt,AA.out,by rw [BB.out];exact hq⟩
   | false =>
    rw [hq] at cD
    go_wp2_with (first | (go_at_call 70; refine cD.out.mono ?_; rintro e w' ⟨rfl, hb⟩; have HB2 := zz31 (zz4 HBr.out hb); clear hb) | (fail "no arm"))
    go_roundg (xs.length - (kk+1))
    case measure=>omega
    case rel =>
     refine ⟨kk+1,by omega,by omega,by go_num,HB2,⟨fun j hj=>?_⟩⟩
     by_cases e:j=kk
     ·subst e
      rw [BB.out];exact hq
     ·exact AA.out j (by omega)
  ·have hltz:¬ (kk:Int) < (xs.length:Int):=by omega
   have hkl:kk=xs.length:=by omega
   have A2:Aside0 (idxQ (fun x=>eqP x z) xs=-1):=⟨idxQ_miss _ xs (by rw [← hkl];exact AA.out)⟩
   clear hkl
   go_wp2
   go_ret
   refine ⟨by rw [A2.out];rfl,fun k hk=>?_,HBr.out⟩
   rw [A2.out] at hk
   omega
theorem setCells_append (w:World) (b:Nat):∀ (vs us:List Value) (o:Nat),w.setCells b o (vs ++ us)=(w.setCells b o vs).setCells b (o+vs.length) us:=by
 intro vs
 induction vs generalizing w with
 | nil=>intro us o;rfl
 | cons v vs ih =>
  intro us o
  rw [List.cons_append,World.setCells,World.setCells,ih,List.length_cons,show o+1+vs.length=o+(vs.length+1) by omega]
def zc2:List Value:=[.int .i64 0,.int .i64 0]
/-- clear of what is behind a place: the cells ahead stay. -/
theorem R_clear {e base g n cap:Nat} {ok:Nat→Prop}:∀ (m i:Nat) (W:World) (xs:List S80),Kd.R k80 e W base ok (.slice (some ⟨g,0,none⟩) n cap) xs→i+m=n →
  ∃ ys,Kd.R k80 e (W.setCells g (i * 2) (List.replicate (2 * m) (.int .i64 0))) base ok (.slice (some ⟨g,0,none⟩) n cap) ys∧ys.take i=xs.take i∧ys.length=xs.length∧W.grownBy (W.setCells g (i * 2) (List.replicate (2 * m) (.int .i64 0))) (some g)
 | 0,i,W,xs,h,hi=>⟨xs,h,rfl,rfl,World.grownBy.refl _ _⟩
 | m+1,i,W,xs,h,hi=>by
  obtain ⟨c,hcl,hM,hcc,hfr⟩:=Kd.R_elem h z80 (i:Int) (by omega) (by omega)
  have hcl2:c.length=2:=hcl
  obtain ⟨h1,h2⟩:=Kd.R_seg h (i:Int) (by omega) (by omega) (okp:=fun _=>False) (seg:=[.int .i64 0,.int .i64 0]) (j:=0) hcl hcc (show 0+2≤2 from by decide) (x':=z80) (by
   have:c.take 0 ++ [Value.int .i64 0,.int .i64 0] ++ c.drop (0+2)=[.int .i64 0,.int .i64 0]:=by rw [List.take_zero,List.nil_append,List.drop_of_length_le (by omega),List.append_nil]
   show Kd.M k80 _ _ (fun _=>False) _ (c.take 0 ++ [Value.int .i64 0,.int .i64 0] ++ c.drop (0+2))
   rw [this]
   exact k80_mkM _ _ _ z80) (fun _ hk=>hk.elim)
  rw [Int.toNat_natCast] at h1 h2
  obtain ⟨ys,h3,h4,h5,h6⟩:=R_clear m (i+1) _ _ h1 (by omega)
  have e1:W.setCells g (i * 2) (List.replicate (2 * (m+1)) (.int .i64 0))=(W.setCells g (i * 2+0) [.int .i64 0,.int .i64 0]).setCells g ((i+1) * 2) (List.replicate (2 * m) (.int .i64 0)):=by
   rw [show 2 * (m+1)=2+2 * m by omega,← List.replicate_append_replicate,setCells_append,show i * 2+(List.replicate 2 (Value.int .i64 0)).length=(i+1) * 2 by simp;omega]
   rfl
  rw [e1]
  refine ⟨ys,h3,?_,by rw [h5,List.length_set],?_⟩
  ·have:=congrArg (List.take i) h4
   rw [List.take_take,List.take_take,Nat.min_eq_left (by omega)] at this
   rw [this,List.take_set_of_le (by omega)]
  ·exact ⟨h6.os.trans h2.os,h6.tape.trans h2.tape,h6.output.trans h2.output,Nat.le_trans h2.size h6.size,fun q hq hn=>(h6.block q (Nat.lt_of_lt_of_le hq h2.size) hn).trans (h2.block q hq hn)⟩
theorem run_clear2 (w:World) (t e ty:TypeId) (z:Value) (ht:Try.prog.underlying t=some (.slice e)) (hv:∀ w,(zeroValue e).run Try.prog w=.ok z w) (hz:z.cells=#[.int .i64 0,.int .i64 0]) (b o n c:Nat) (hn:0 < n)
  (hc:∀ j,j < 2 * n→(w.cell? ⟨b,o+j,none⟩).isSome=true) (hf:∀ j,j < 2 * n→w.frozen? ⟨b,o+j,none⟩=false) :
  (Builtin.clear_ #[t] ty #[.slice (some ⟨b,o,none⟩) n c]).run Try.prog w=.ok (.tuple #[]) (w.setCells b o (List.replicate (2 * n) (.int .i64 0))):=by
 have hzc:(Builtin.zeroCells z.cells n).toList=List.replicate (2 * n) (.int .i64 0):=by
  rw [hz]
  simp [Builtin.zeroCells]
  apply List.ext_getElem
  ·simp;omega
  ·intro i h1 h2
   simp
   rcases Nat.mod_two_eq_zero_or_one i with h | h <;> rw [h] <;> rfl
 have hst:=run_storeCells_cells (P:=Try.prog) b o (List.replicate (2 * n) (.int .i64 0)) 0 w (by simpa using hc) (by simpa using hf) (by intro v hv';rw [List.eq_of_mem_replicate hv'];rfl)
 simp only [Nat.add_zero] at hst
 obtain ⟨m,rfl⟩:∃ m,n=m+1:=⟨n - 1,by omega⟩
 simp [Builtin.clear_,run_underlying ht,hv,hzc,hst]
theorem idxQ_cases (p:S80→Bool):∀ xs:List S80,(idxQ p xs=-1∧∀ x ∈ xs,p x=false) ∨ ∃ k:Nat,idxQ p xs=(k:Int)∧k < xs.length∧(∀ x ∈ xs.take k,p x=false)∧p (xs.getD k z80)=true
 | []=>.inl ⟨rfl,fun x hx=>by cases hx⟩
 | x :: xs=>by
  by_cases h:p x=true
  ·exact .inr ⟨0,by simp [idxQ,h],by simp,fun y hy=>by simp at hy,by simpa using h⟩
  ·have h0:p x=false:=by simpa using h
   rcases idxQ_cases p xs with ⟨h1,h2⟩ | ⟨k,h1,h2,h3,h4⟩
   ·refine .inl ⟨by simp [idxQ,h0,h1],fun y hy=>?_⟩
    rcases List.mem_cons.1 hy with rfl | hy
    ·exact h0
    ·exact h2 y hy
   ·refine .inr ⟨k+1,by simp [idxQ,h0,h1];omega,by simpa using h2,fun y hy=>?_,by simpa using h4⟩
    rw [List.take_succ_cons] at hy
    rcases List.mem_cons.1 hy with rfl | hy
    ·exact h0
    ·exact h3 y hy
def kpt (z:S80) (xs:List S80) (j:Nat):List S80:=(xs.take j).filter fun x=>!eqP x z
theorem kpt_succ (z:S80) (xs:List S80) (j:Nat) (h:j < xs.length):kpt z xs (j+1)=if eqP (xs.getD j z80) z=true then kpt z xs j else kpt z xs j ++ [xs.getD j z80]:=by
 unfold kpt
 rw [List.take_add_one,List.getElem?_eq_getElem h,List.filter_append,List.getD_eq_getElem?_getD,List.getElem?_eq_getElem h]
 simp only [Option.toList_some,Option.getD_some]
 by_cases hq:eqP xs[j] z=true
 ·rw [if_pos hq];simp [hq]
 ·rw [if_neg hq];simp [hq]
theorem kpt_start (z:S80) (xs:List S80) (k:Nat) (h:k < xs.length) (h1:∀ x ∈ xs.take k,eqP x z=false) (h2:eqP (xs.getD k z80) z=true):kpt z xs (k+1)=xs.take k:=by
 rw [kpt_succ z xs k h,if_pos h2]
 unfold kpt
 exact List.filter_eq_self.2 fun x hx=>by rw [h1 x hx];rfl
theorem kpt_all (z:S80) (xs:List S80):kpt z xs xs.length=xs.filter fun x=>!eqP x z:=by unfold kpt;rw [List.take_length]
theorem belowB_set {base g j:Nat} {w W:World} {u:Value} (h:Below base w W) (hg:base≤g):Below base w (W.setCell ⟨g,j,none⟩ u) :=
 ⟨h.os,h.tape,h.output,by have:=h.size;simpa [World.setCell] using this,fun i hi=>(Below.heap_setCell _ _ _ i (show i ≠ g by omega)).trans (h.block i hi)⟩
set_option maxHeartbeats 4000000 in
set_option maxRecDepth 100000 in
theorem delP_calls (bg:Nat) (z:S80) (A:Option Addr) (c:Nat) (xs:List S80) (W:World) (base:Nat) (ok:Nat→Prop) (hb:W.heap[bg]?=some (.cells #[.int .i64 z.f0,.int .i64 z.f1] 80 (0,0)))
  (hR:Kd.R k80 80 W base ok (.slice A xs.length c) xs) (hbg:∀ k,ok k→k ≠ bg) (hbase:base≤W.heap.size) (hlen:xs.length≤2000000) :
  Calls Try.prog 68 #[.slice A xs.length c,.func (.func 70) #[] #[.pointer (some ⟨bg,0,none⟩)]] W fun e w' =>
   ∃ v,e=.returned v∧Kd.R k80 80 w' base ok v (xs.filter fun x=>!eqP x z)∧Below base W w':=by
 have hu:=Try.underlying80
 have hs:=Try.underlying28
 have HB:=zz31 hb
 have HR:=zz31 hR
 have cI:=zz31 (idxQ_calls bg z A c xs W hb (Kd.R_reads' hR).2.2)
 have HBG:=zz31 hbg
 clear hb hR hbg
 rcases idxQ_cases (fun x=>eqP x z) xs with ⟨h1,h2⟩ | ⟨k0,h1,h2,h3,h4⟩
 ·rw [h1] at cI
  have hf:(xs.filter fun x=>!eqP x z)=xs:=List.filter_eq_self.2 fun x hx=>by rw [h2 x hx];rfl
  rw [hf]
  clear h1 h2 hf
  go_enter Try.func68,Try.ntmps68
  go_wp2_with (first | (go_at_call 89; refine cI.out.mono ?_; rintro e w1 ⟨rfl, -, hb⟩; have HB1 := zz31 hb; clear hb) | (fail "no arm"))
  go_ret
  exact ⟨_,rfl,Kd.R_below HR.out HB1.out,HB1.out.mono hbase⟩
 ·rw [h1] at cI
  have hn0:0 < xs.length:=by omega
  obtain ⟨g,c',ea,gb,gl,cells,hg⟩:=Kd.R_form HR.out hn0
  injection ea with ea1 ea2 ea3
  subst ea1 ea3
  clear ea2
  have gok:=HR.out.1 g rfl
  have HGB:=zz31 (HBG.out g gok)
  have hncap:xs.length≤c:=(Kd.R_reads' HR.out).2.1
  have HK0:=zz31 (kpt_start z xs k0 h2 h3 h4)
  have hk0:((k0:Int) == -1)=false:=beq_eq_false_iff_ne.2 (by omega)
  clear h1 h3 h4 hg gl
  go_enter Try.func68,Try.ntmps68
  go_wp2_with (first | (go_at_call 89; refine cI.out.mono ?_; rintro e w1 ⟨rfl, -, hb⟩; have HB1 := zz31 hb; clear hb) | (fail "no arm"))
  go_loopg [5,6] xs.length (fun gg v5 v6 wr=>∃ j:Nat,j≤xs.length∧xs.length - j≤gg∧v5=.int .i64 ((kpt z xs j).length:Int)∧v6=.int .i64 (j:Int)∧(kpt z xs j).length < j∧Aside0 (Kd.R k80 80 wr base ok (.slice (some ⟨g,0,none⟩) xs.length c) (kpt z xs j ++ xs.drop (kpt z xs j).length))∧Aside0 (wr.heap[bg]?=some (.cells #[.int .i64 z.f0,.int .i64 z.f1] 80 (0,0)))∧Aside0 (Below base W wr))
  case atStart =>
   have hl:(kpt z xs (k0+1)).length=k0:=by rw [HK0.out,zz25];omega
   exact ⟨k0+1,by omega,by omega,by rw [hl],by go_num,by omega,⟨by rw [hl,HK0.out,List.take_append_drop];exact Kd.R_below HR.out HB1.out⟩,⟨zz11 HB.out HB1.out⟩,⟨HB1.out.mono hbase⟩⟩
  case round =>
   obtain ⟨j,hj,hgg,rfl,rfl,hkj,HRr,HBr,HWr⟩:=hrel
   obtain ⟨i,hi⟩:∃ i,i=(kpt z xs j).length:=⟨_,rfl⟩
   rw [← hi] at hkj
   have HI:=zz31 hi
   by_cases hlt:j < xs.length
   ·have hltz:(j:Int) < (xs.length:Int):=by omega
    obtain ⟨y,hy⟩:∃ y,y=xs.getD j z80:=⟨_,rfl⟩
    have hrow:(kpt z xs j ++ xs.drop (kpt z xs j).length).getD j z80=y:=by
     rw [hy,← hi,List.getD_eq_getElem?_getD,List.getD_eq_getElem?_getD,List.getElem?_append_right (by omega),List.getElem?_drop,← hi,show i+(j - i)=j by omega]
    obtain ⟨ce,hcl,hM,hcc,hfr⟩:=Kd.R_elem HRr.out z80 (j:Int) (by omega) (by omega)
    rw [Int.toNat_natCast,hrow] at hM
    obtain rfl:=k80_openM hM
    have hc0:wr.cell? ⟨g,j * 2,none⟩=some (.int .i64 y.f0):=hcc 0 _ rfl
    have hc1:wr.cell? ⟨g,j * 2+1,none⟩=some (.int .i64 y.f1):=hcc 1 _ rfl
    have HY:=zz31 hy
    rw [← hi]
    clear hcl hM hcc hfr hrow hy hi
    go_upto_region 8 with (first | ((with_reducible refine gate_dst (N := 7) rfl ?_); refine box_event ?hg (N := 7) ?hd (cs := #[.int .i64 0, .int .i64 0]) (t := 80) ?hr ?_; (case hd => rfl); (case hg => rfl); (case hr => first | (go_simp; done) | (go_simp; rfl)); intro bo hbo wa hbox hb; have HXa := zz31 hbox; have HBa := zz31 hb; have HBO := zz31 (show wr.heap.size ≤ bo from by rw [hbo]; exact Nat.le_refl _); have f1 := zz9 hbox 0; have f2 := zz9 hbox 1; simp only [List.getElem?_toArray, List.getElem?_cons_zero, List.getElem?_cons_succ] at f1 f2; have f3 := zz10 hbox 0; have f4 := zz10 hbox 1; clear hbox hb hbo) | (fail "no arm"))
    have hbgl:=blk_lt HBr.out
    have hbse:=(Nat.le_trans hbase HWr.out.size)
    have HXb:Aside0 (((wa.setCell ⟨bo,0,none⟩ (.int .i64 y.f0)).setCell ⟨bo,1,none⟩ (.int .i64 y.f1)).heap[bo]?=some (.cells #[.int .i64 y.f0,.int .i64 y.f1] 80 (0,0))):=⟨blk_put (cs:=#[.int .i64 y.f0,.int .i64 0]) (blk_put (cs:=#[.int .i64 0,.int .i64 0]) HXa.out 0 _ rfl) 1 _ rfl⟩
    have HBb:Aside0 (((wa.setCell ⟨bo,0,none⟩ (.int .i64 y.f0)).setCell ⟨bo,1,none⟩ (.int .i64 y.f1)).heap[bg]?=some (.cells #[.int .i64 z.f0,.int .i64 z.f1] 80 (0,0))):=⟨blk_far (blk_far (zz11 HBr.out HBa.out) (p:=⟨bo,0,none⟩) (show bg ≠ bo from by have:=HBO.out;omega) _) (p:=⟨bo,1,none⟩) (show bg ≠ bo from by have:=HBO.out;omega) _⟩
    have HRb:Aside0 (Kd.R k80 80 ((wa.setCell ⟨bo,0,none⟩ (.int .i64 y.f0)).setCell ⟨bo,1,none⟩ (.int .i64 y.f1)) base ok (.slice (some ⟨g,0,none⟩) xs.length c) (kpt z xs j ++ xs.drop (kpt z xs j).length)) :=
     ⟨Kd.R_mono (Kd.R_far (p:=⟨bo,1,none⟩) (Kd.R_far (p:=⟨bo,0,none⟩) (Kd.R_mono (ok':=fun k=>ok k∧k ≠ bo) (Kd.R_below (Kd.R_bound HRr.out) HBa.out) (fun k hk=>⟨hk.1,by have h1:=hk.2.2.1;have h2:=HBO.out;omega⟩)) (fun k hk=>hk.2) (.int .i64 y.f0)) (fun k hk=>hk.2) (.int .i64 y.f1)) (fun k hk=>hk.1)⟩
    have HWb:Aside0 (Below base W ((wa.setCell ⟨bo,0,none⟩ (.int .i64 y.f0)).setCell ⟨bo,1,none⟩ (.int .i64 y.f1))):=⟨belowB_set (belowB_set (HWr.out.trans (HBa.out.mono hbse)) (Nat.le_trans hbse HBO.out)) (Nat.le_trans hbse HBO.out)⟩
    clear f1 f2 f3 f4 hc0 hc1
    generalize ((wa.setCell ⟨bo,0,none⟩ (.int .i64 y.f0)).setCell ⟨bo,1,none⟩ (.int .i64 y.f1))=wb at HXb HBb HRb HWb ⊢
    have f1:=zz9 HXb.out 0
    have f2:=zz9 HXb.out 1
    simp only [List.getElem?_toArray,List.getElem?_cons_zero,List.getElem?_cons_succ] at f1 f2
    have HWs:=zz31 HWb.out.size
    have cD:=zz31 (drop1_calls bg z y wb HBb.out)
    cases hq:eqP y z with
    | true =>
     rw [hq] at cD
     have HKS:=zz31 (show kpt z xs (j+1)=kpt z xs j from by rw [kpt_succ z xs j hlt,← HY.out,if_pos hq])
     clear hq
     go_wp2_with (first | (go_at_call 70; refine cD.out.mono ?_; rintro e wc ⟨rfl, hb⟩; have HBc := zz31 hb; have HRc := zz31 (Kd.R_below HRb.out hb); have HXc := zz31 (zz11 HXb.out hb); have HBBc := zz31 (zz11 HBb.out hb); have HWc := zz31 (HWb.out.trans (hb.mono (Nat.le_trans hbase HWs.out))); clear hb f1 f2; have f1 := zz9 HXc.out 0; have f2 := zz9 HXc.out 1; simp only [List.getElem?_toArray, List.getElem?_cons_zero, List.getElem?_cons_succ] at f1 f2) | (fail "no arm"))
     go_roundg (xs.length - (j+1))
     case measure=>omega
     case rel=>exact ⟨j+1,by omega,by omega,by rw [HKS.out,← HI.out],by go_num,by rw [HKS.out,← HI.out];omega,⟨by rw [HKS.out];exact HRc.out⟩,HBBc,HWc⟩
    | false =>
     rw [hq] at cD
     have HKS:=zz31 (show kpt z xs (j+1)=kpt z xs j ++ [y] from by rw [kpt_succ z xs j hlt,← HY.out,if_neg (by rw [hq];decide)])
     have HLK:=zz31 (show (kpt z xs (j+1)).length=i+1 from by rw [HKS.out,List.length_append,List.length_singleton,← HI.out])
     have HROW:=zz31 (show (kpt z xs j ++ xs.drop (kpt z xs j).length).set i y=kpt z xs (j+1) ++ xs.drop (kpt z xs (j+1)).length from by
      rw [HLK.out,HKS.out,← HI.out,List.set_append_right _ _ (Nat.le_of_eq HI.out.symm),← HI.out,Nat.sub_self,List.append_assoc]
      congr 1
      rw [List.drop_eq_getElem_cons (show i < xs.length by omega)]
      rfl)
     clear hq
     go_wp2_with (first | (go_at_call 70; refine cD.out.mono ?_; rintro e wc ⟨rfl, hb⟩; have HBc := zz31 hb; have HRc := zz31 (Kd.R_below HRb.out hb); have HXc := zz31 (zz11 HXb.out hb); have HBBc := zz31 (zz11 HBb.out hb); have HWc := zz31 (HWb.out.trans (hb.mono (Nat.le_trans hbase HWs.out))); clear hb f1 f2; have f1 := zz9 HXc.out 0; have f2 := zz9 HXc.out 1; simp only [List.getElem?_toArray, List.getElem?_cons_zero, List.getElem?_cons_succ] at f1 f2; obtain ⟨ce2, hcl2, hM2, hcc2, hfr2⟩ := Kd.R_elem HRc.out z80 (i : Int) (by omega) (by omega); have HCL := zz31 hcl2; have HCC := zz31 hcc2; have hce2 := k80_openM hM2; have hx0 := hcc2 0 _ (show ce2[0]? = some (.int .i64 _) from by rw [hce2]; rfl); have hx1 := hcc2 1 _ (show ce2[1]? = some (.int .i64 _) from by rw [hce2]; rfl); have hf0 := hfr2 0; have hf1 := hfr2 1; simp only [show (k80).sz = 2 from rfl, Int.toNat_natCast, Nat.add_zero] at hx0 hx1 hf0 hf1; clear hcl2 hM2 hcc2 hfr2) | (fail "no arm"))
     go_roundg (xs.length - (j+1))
     case measure=>omega
     case rel =>
      have hsg:=Kd.R_seg HRc.out (i:Int) (by omega) (by omega) (okp:=fun _=>False) (seg:=[.int .i64 y.f0,.int .i64 y.f1]) (j:=0) HCL.out HCC.out (show 0+2≤2 from by decide) (x':=y) (by
       have hcl2:ce2.length=2:=HCL.out
       have:ce2.take 0 ++ [Value.int .i64 y.f0,.int .i64 y.f1] ++ ce2.drop (0+2)=[.int .i64 y.f0,.int .i64 y.f1]:=by rw [List.take_zero,List.nil_append,List.drop_of_length_le (by omega),List.append_nil]
       show Kd.M k80 _ _ (fun _=>False) _ (ce2.take 0 ++ [Value.int .i64 y.f0,.int .i64 y.f1] ++ ce2.drop (0+2))
       rw [this]
       exact k80_mkM _ _ _ y) (fun _ hk=>hk.elim)
      rw [Int.toNat_natCast,HROW.out] at hsg
      exact ⟨j+1,by omega,by omega,by rw [HLK.out];go_num,by go_num,by rw [HLK.out];omega,⟨hsg.1⟩,⟨blk_far (blk_far HBBc.out (p:=⟨g,i * 2,none⟩) (show bg ≠ g from fun he=>HGB.out he.symm) _) (p:=⟨g,i * 2+1,none⟩) (show bg ≠ g from fun he=>HGB.out he.symm) _⟩,⟨belowB_set (belowB_set HWc.out gb) gb⟩⟩
   ·have hltz:¬ (j:Int) < (xs.length:Int):=by omega
    obtain rfl:j=xs.length:=by omega
    have hi2:=HI.out
    clear HI
    subst hi2
    have hin:(kpt z xs xs.length).length < xs.length:=hkj
    have hlr:(kpt z xs xs.length ++ xs.drop (kpt z xs xs.length).length).length=xs.length:=by rw [List.length_append,zz24];omega
    obtain ⟨ys,hy1,hy2,hy3,hy4⟩:=R_clear (xs.length - (kpt z xs xs.length).length) (kpt z xs xs.length).length wr _ HRr.out (by omega)
    have HGR:=zz31 (show Below base W (wr.setCells g ((kpt z xs xs.length).length * 2) (List.replicate (2 * (xs.length - (kpt z xs xs.length).length)) (.int .i64 0))) from ⟨hy4.os.trans HWr.out.os,hy4.tape.trans HWr.out.tape,hy4.output.trans HWr.out.output,Nat.le_trans HWr.out.size hy4.size,fun q hq=>(hy4.block q (Nat.lt_of_lt_of_le hq (Nat.le_trans hbase HWr.out.size)) (fun he=>by injection he with he;omega)).trans (HWr.out.block q hq)⟩)
    have h1:=Kd.R_take hy1 (m:=(kpt z xs xs.length).length) (by omega)
    rw [hy2,List.take_append_of_le_length (Nat.le_refl _),List.take_length] at h1
    have hka:=kpt_all z xs
    have HT:Aside0 (Kd.R k80 80 (wr.setCells g ((kpt z xs xs.length).length * 2) (List.replicate (2 * (xs.length - (kpt z xs xs.length).length)) (.int .i64 0))) base ok (.slice (some ⟨g,0,none⟩) (kpt z xs xs.length).length c) (xs.filter fun x=>!eqP x z)):=⟨by rw [← hka];exact h1⟩
    clear h1 hka
    have hcl:∀ ty,(Builtin.clear_ #[28] ty #[.slice (some ⟨g,(kpt z xs xs.length).length * 2,none⟩) (xs.length - (kpt z xs xs.length).length) (c - (kpt z xs xs.length).length)]).run Try.prog wr=.ok (.tuple #[]) (wr.setCells g ((kpt z xs xs.length).length * 2) (List.replicate (2 * (xs.length - (kpt z xs xs.length).length)) (.int .i64 0))):=fun ty =>
     run_clear2 wr 28 80 ty (.agg #[.int .i64 0,.int .i64 0]) hs (fun w=>by kernel_rfl) rfl g ((kpt z xs xs.length).length * 2) (xs.length - (kpt z xs xs.length).length) (c - (kpt z xs xs.length).length) (by omega) (fun q hq=>by
      obtain ⟨ce,hcl,hM,hcc,hfr⟩:=Kd.R_elem HRr.out z80 (((kpt z xs xs.length).length+q / 2:Nat):Int) (by omega) (by omega)
      have hcl2:ce.length=2:=hcl
      have h3:=hcc (q % 2) _ (List.getElem?_eq_getElem (show q % 2 < ce.length by omega))
      rw [Int.toNat_natCast] at h3
      have h4:((kpt z xs xs.length).length+q / 2) * 2+q % 2=(kpt z xs xs.length).length * 2+q:=by omega
      have h5:wr.cell? ⟨g,((kpt z xs xs.length).length+q / 2) * 2+q % 2,none⟩=some (ce[q % 2]'(by omega)):=h3
      rw [h4] at h5
      rw [h5]
      rfl) (fun q hq=>by
      obtain ⟨ce,hcl,hM,hcc,hfr⟩:=Kd.R_elem HRr.out z80 (((kpt z xs xs.length).length+q / 2:Nat):Int) (by omega) (by omega)
      have h3:=hfr (q % 2)
      rw [Int.toNat_natCast] at h3
      have h4:((kpt z xs xs.length).length+q / 2) * 2+q % 2=(kpt z xs xs.length).length * 2+q:=by omega
      have h5:wr.frozen? ⟨g,((kpt z xs xs.length).length+q / 2) * 2+q % 2,none⟩=false:=h3
      rw [h4] at h5
      exact h5)
    clear hy1 hy2 hy3 hy4 hlr hk0
    go_wp2
    go_ret
    exact ⟨_,rfl,HT.out,HGR.out⟩
def impl_DropPair.f (k:Nat) (a0_0:Int) (l0_1:List (S80)) (a1:Int) (a2:Int):Option (Int × List (S80) × Bool) :=
 (impl_AreFriends.f k a0_0 l0_1 a1 a2).bind fun fr=>if fr.1=true then (if l0_1.length≤2000000 then some (a0_0,l0_1.filter (fun x=>!eqP x ⟨min a1 a2,max a1 a2⟩),true) else none) else some (0,[],false)
theorem impl_DropPair.mono:∀ a0 a1 a2 a3 k,LeO (impl_DropPair.f k a0 a1 a2 a3) (impl_DropPair.f (k+1) a0 a1 a2 a3):=by
 intro a0 a1 a2 a3 k
 unfold impl_DropPair.f
 exact LeO.bind (impl_AreFriends.mono _ _ _ _ _) fun fr=>LeO.refl _
set_option maxHeartbeats 4000000 in
set_option maxRecDepth 100000 in
theorem impl_DropPair.calls (k:Nat) (a0_0:Int) (A0_1:Option Addr) (c0_1:Nat) (l0_1:List (S80)) (a1:Int) (a2:Int) (r1:Int) (r2:List (S80)) (r3:Bool) (w:World) (hr0_1:Kd.C k80 w A0_1 l0_1.length l0_1) (hc0_1:l0_1.length≤c0_1) (h:impl_DropPair.f k a0_0 l0_1 a1 a2=some (r1,r2,r3)) :
  Calls Try.prog 35 #[.agg #[.int .i64 a0_0,.slice A0_1 l0_1.length c0_1],.int .i64 a1,.int .i64 a2] w fun e w'=>∃ v1_:Value,e=.returned (.tuple #[.agg #[.int .i64 r1,v1_],.bool r3])∧Kd.R k80 80 w' w.heap.size (fun _=>True) v1_ r2∧Below w.heap.size w w':=by
 have hu:=Try.underlying30
 have hu2:=Try.underlying80
 unfold impl_DropPair.f at h
 obtain ⟨⟨fr1,fr2⟩,hfr,h⟩:=zz30.1 h
 have HFR:=zz31 hfr
 have HC:=zz31 hr0_1
 have HCC:=zz31 hc0_1
 clear hfr hr0_1 hc0_1
 cases fr1 with
 | false =>
  simp only [Bool.false_eq_true,if_false,Option.some.injEq,Prod.mk.injEq] at h
  obtain ⟨rfl,rfl,rfl⟩:=h
  go_enter Try.func35,Try.ntmps35
  go_wp2_with (first | ((with_reducible refine gate_dst (N := 3) rfl ?_); refine box_event ?hg (N := 3) ?hd (cs := #[.int .i64 a0_0, .slice A0_1 l0_1.length c0_1]) (t := 30) ?hr ?_; (case hd => rfl); (case hg => rfl); (case hr => first | (go_simp; done) | (go_simp; rfl)); intro bp hbo wa hbox hb; have HXa := zz31 hbox; have HBa := zz31 (zz4 (w := w) (by repeat (first | exact Below.refl _ _ | apply zz0 | apply below_drew | apply zz2)) hb); have HCa := zz31 (Kd.C_below HC.out HBa.out); have f1 := zz9 hbox 0; have f2 := zz9 hbox 1; simp only [List.getElem?_toArray, List.getElem?_cons_zero, List.getElem?_cons_succ] at f1 f2; clear hbox hb hbo) | ((with_reducible refine gate_dst (N := 6) rfl ?_); refine box_event ?hg (N := 6) ?hd (cs := #[.int .i64 0, .slice none 0 0]) (t := 30) ?hr ?_; (case hd => rfl); (case hg => rfl); (case hr => first | (go_simp; done) | (go_simp; rfl)); intro bt hbo wb hbox hb; have HXb := zz31 (zz11 HXa.out hb); have HTb := zz31 hbox; have HBb := zz31 (zz4 HBa.out hb); have HCb := zz31 (Kd.C_below HCa.out hb); have HNE := zz31 (show bp < bt from by rw [hbo]; exact blk_lt HXa.out); have HBT := zz31 (show w.heap.size ≤ bt from by rw [hbo]; exact HBa.out.size); clear f1 f2; have f1 := zz9 HXb.out 0; have f2 := zz9 HXb.out 1; simp only [List.getElem?_toArray, List.getElem?_cons_zero, List.getElem?_cons_succ] at f1 f2; clear hbox hb hbo) | (go_at_call 65; (with_reducible refine (impl_AreFriends.calls k a0_0 A0_1 c0_1 l0_1 a1 a2 false fr2 wb HCb.out HCC.out HFR.out).mono ?_); rintro e wc ⟨rfl, hb⟩; have HXc := zz31 (zz11 HXb.out hb); have HTc := zz31 (zz11 HTb.out hb); have HBc := zz31 (zz4 HBb.out hb); have HCc := zz31 (Kd.C_below HCb.out hb); clear hb f1 f2; have g1 := zz9 HTc.out 0; have g2 := zz9 HTc.out 1; simp only [List.getElem?_toArray, List.getElem?_cons_zero, List.getElem?_cons_succ] at g1 g2; have g3 := zz10 HTc.out 0; have g4 := zz10 HTc.out 1) | (fail "no arm"))
  refine bodyPost_ret (results_ct rfl _ _ bt 30 #[.int .i64 0,.slice none 0 0] (0,0) _ rfl (by (with_reducible repeat (first | refine zz6 ?_ _ | refine zz7 ?_));refine blk_put (cs:=#[.int .i64 0,.slice none 0 0]) ?_ 1 _ rfl;refine blk_put (cs:=#[.int .i64 0,.slice none 0 0]) ?_ 0 _ rfl;(with_reducible repeat (first | refine zz6 ?_ _ | refine zz7 ?_));exact HTc.out) Try.underlying30 rfl (by kernel_rfl)) rfl ?_
  exact ⟨_,rfl,Kd.R_nil _ _ _ _ _,by repeat first | exact HBc.out | apply zz0 | apply below_drew | refine zz3 ?_ HBT.out⟩
 | true =>
  rw [if_pos rfl] at h
  by_cases hl:l0_1.length≤2000000
  case neg=>rw [if_neg hl] at h;exact absurd h (by simp)
  rw [if_pos hl] at h
  simp only [Option.some.injEq,Prod.mk.injEq] at h
  obtain ⟨rfl,rfl,rfl⟩:=h
  go_enter Try.func35,Try.ntmps35
  go_upto_region 5 with (first | ((with_reducible refine gate_dst (N := 3) rfl ?_); refine box_event ?hg (N := 3) ?hd (cs := #[.int .i64 a0_0, .slice A0_1 l0_1.length c0_1]) (t := 30) ?hr ?_; (case hd => rfl); (case hg => rfl); (case hr => first | (go_simp; done) | (go_simp; rfl)); intro bp hbo wa hbox hb; have HXa := zz31 hbox; have HBa := zz31 (zz4 (w := w) (by repeat (first | exact Below.refl _ _ | apply zz0 | apply below_drew | apply zz2)) hb); have HCa := zz31 (Kd.C_below HC.out HBa.out); have f1 := zz9 hbox 0; have f2 := zz9 hbox 1; simp only [List.getElem?_toArray, List.getElem?_cons_zero, List.getElem?_cons_succ] at f1 f2; clear hbox hb hbo) | ((with_reducible refine gate_dst (N := 6) rfl ?_); refine box_event ?hg (N := 6) ?hd (cs := #[.int .i64 0, .slice none 0 0]) (t := 30) ?hr ?_; (case hd => rfl); (case hg => rfl); (case hr => first | (go_simp; done) | (go_simp; rfl)); intro bt hbo wb hbox hb; have HXb := zz31 (zz11 HXa.out hb); have HTb := zz31 hbox; have HBb := zz31 (zz4 HBa.out hb); have HCb := zz31 (Kd.C_below HCa.out hb); have HNE := zz31 (show bp < bt from by rw [hbo]; exact blk_lt HXa.out); have HBT := zz31 (show w.heap.size ≤ bt from by rw [hbo]; exact HBa.out.size); clear f1 f2; have f1 := zz9 HXb.out 0; have f2 := zz9 HXb.out 1; simp only [List.getElem?_toArray, List.getElem?_cons_zero, List.getElem?_cons_succ] at f1 f2; clear hbox hb hbo) | (go_at_call 65; (with_reducible refine (impl_AreFriends.calls k a0_0 A0_1 c0_1 l0_1 a1 a2 true fr2 wb HCb.out HCC.out HFR.out).mono ?_); rintro e wc ⟨rfl, hb⟩; have HXc := zz31 (zz11 HXb.out hb); have HTc := zz31 (zz11 HTb.out hb); have HBc := zz31 (zz4 HBb.out hb); have HCc := zz31 (Kd.C_below HCb.out hb); clear hb f1 f2;  skip) | ((with_reducible refine gate_dst (N := 10) rfl ?_); refine box_event ?hg (N := 10) ?hd (cs := #[.int .i64 0, .int .i64 0]) (t := 80) ?hr ?_; (case hd => rfl); (case hg => rfl); (case hr => first | (go_simp; done) | (go_simp; rfl)); intro bg hbo wd hbox hb; have HXd := zz31 (zz11 HXc.out hb); have HTd := zz31 (zz11 HTc.out hb); have HGd := zz31 hbox; have HBd := zz31 (zz4 HBc.out hb); have HCd := zz31 (Kd.C_below HCc.out hb); have HNG := zz31 (show bt < bg from by rw [hbo]; exact blk_lt HTc.out); have f1 := zz9 hbox 0; have f2 := zz9 hbox 1; simp only [List.getElem?_toArray, List.getElem?_cons_zero, List.getElem?_cons_succ] at f1 f2; have f3 := zz10 hbox 0; have f4 := zz10 hbox 1; clear hbox hb hbo) | (fail "no arm"))
  obtain ⟨mn,hmn⟩:∃ mn,mn=(if a2 < a1 then a2 else a1):=⟨_,rfl⟩
  obtain ⟨mx,hmx⟩:∃ mx,mx=(if a1 < a2 then a2 else a1):=⟨_,rfl⟩
  have HMN:=zz31 (show min a1 a2=mn from by rw [hmn];split <;> omega)
  have HMX:=zz31 (show max a1 a2=mx from by rw [hmx];split <;> omega)
  rw [← hmn,← hmx]
  clear hmn hmx f1 f2 f3 f4
  have HGh:Aside0 (((wd.setCell ⟨bg,0,none⟩ (.int .i64 mn)).setCell ⟨bg,1,none⟩ (.int .i64 mx)).heap[bg]?=some (.cells #[.int .i64 mn,.int .i64 mx] 80 (0,0))):=⟨blk_put (cs:=#[.int .i64 mn,.int .i64 0]) (blk_put (cs:=#[.int .i64 0,.int .i64 0]) HGd.out 0 _ rfl) 1 _ rfl⟩
  have HXh:Aside0 (((wd.setCell ⟨bg,0,none⟩ (.int .i64 mn)).setCell ⟨bg,1,none⟩ (.int .i64 mx)).heap[bp]?=some (.cells #[.int .i64 a0_0,.slice A0_1 l0_1.length c0_1] 30 (0,0))):=⟨blk_far (blk_far HXd.out (p:=⟨bg,0,none⟩) (show bp ≠ bg from by have:=HNE.out;have:=HNG.out;omega) _) (p:=⟨bg,1,none⟩) (show bp ≠ bg from by have:=HNE.out;have:=HNG.out;omega) _⟩
  have HTh:Aside0 (((wd.setCell ⟨bg,0,none⟩ (.int .i64 mn)).setCell ⟨bg,1,none⟩ (.int .i64 mx)).heap[bt]?=some (.cells #[.int .i64 0,.slice none 0 0] 30 (0,0))):=⟨blk_far (blk_far HTd.out (p:=⟨bg,0,none⟩) (show bt ≠ bg from by have:=HNG.out;omega) _) (p:=⟨bg,1,none⟩) (show bt ≠ bg from by have:=HNG.out;omega) _⟩
  have HBG:=zz31 (show w.heap.size≤bg from by have:=HBT.out;have:=HNG.out;omega)
  have HBh:Aside0 (Below w.heap.size w ((wd.setCell ⟨bg,0,none⟩ (.int .i64 mn)).setCell ⟨bg,1,none⟩ (.int .i64 mx))):=⟨zz3 (zz3 HBd.out HBG.out) HBG.out⟩
  generalize ((wd.setCell ⟨bg,0,none⟩ (.int .i64 mn)).setCell ⟨bg,1,none⟩ (.int .i64 mx))=wh at HGh HXh HTh HBh ⊢
  have HCh:=zz31 (Kd.C_below HC.out HBh.out)
  have HLT:=zz31 (blk_lt HTh.out)
  have HLG:=zz31 (blk_lt HGh.out)
  have HLX:=zz31 (blk_lt HXh.out)
  have f1:=zz9 HXh.out 0
  have f2:=zz9 HXh.out 1
  simp only [List.getElem?_toArray,List.getElem?_cons_zero,List.getElem?_cons_succ] at f1 f2
  have HFC:=zz31 (show impl_Pair_69.f l0_1=some l0_1 from by unfold impl_Pair_69.f;rw [if_pos (by omega)])
  have hl2:=zz31 hl
  clear hl
  go_region_held3 (fun w' => w'.cell? ⟨bp, 0, none⟩ = some (.int .i64 a0_0) ∧ w'.cell? ⟨bp, 1, none⟩ = some (.slice A0_1 l0_1.length c0_1)) (first | go_keep | exact ⟨f1, f2⟩ | exact ⟨zz9 HXj.out 0, zz9 HXj.out 1⟩ | exact ⟨zz9 HXi.out 0, zz9 HXi.out 1⟩ | exact ⟨zz9 (blk_far (blk_far HXj.out (p := ⟨bt, 0, none⟩) (Nat.ne_of_lt HNE.out) _) (p := ⟨bt, 1, none⟩) (Nat.ne_of_lt HNE.out) _) 0, zz9 (blk_far (blk_far HXj.out (p := ⟨bt, 0, none⟩) (Nat.ne_of_lt HNE.out) _) (p := ⟨bt, 1, none⟩) (Nat.ne_of_lt HNE.out) _) 1⟩) (first | (go_at_call 69; refine (impl_Pair_69.calls A0_1 c0_1 l0_1 l0_1 _ ?_ HCC.out HFC.out).mono ?_; (repeat (first | exact HCh.out | (with_reducible refine zz18 ?_ _) | (with_reducible refine zz19 ?_ _) | (with_reducible refine zz20 ?_))); rintro e wi ⟨v3, rfl, ho, hb⟩; obtain ⟨A3, c3, rfl⟩ := Kd.R_slice ho; have HOi := zz31 (Kd.R_mono (ok' := fun k => wh.heap.size ≤ k) (Kd.R_bound ho) (fun k hk => hk.2.1)); have HBi := zz31 (zz4 (w := wh) (by repeat (first | exact Below.refl _ _ | apply zz0 | apply below_drew | apply zz2)) hb); have HXi := zz31 (zz11 HXh.out HBi.out); have HGi := zz31 (zz11 HGh.out HBi.out); have HTi := zz31 (zz11 HTh.out HBi.out); clear ho hb) | (go_at_call 68; refine (delP_calls bg ⟨mn, mx⟩ A3 c3 l0_1 _ wh.heap.size (fun k => wh.heap.size ≤ k) ?q1 ?q2 (fun k hk => by have := HLG.out; omega) ?q3 hl2.out).mono ?_; (case q1 => (with_reducible repeat (first | refine zz6 ?_ _ | refine zz7 ?_)); exact HGi.out); (case q2 => (with_reducible repeat (first | apply zz13 | apply zz14)); exact HOi.out); (case q3 => exact HBi.out.size); rintro e wj ⟨v4, rfl, ho, hb⟩; obtain ⟨A4, c4, rfl⟩ := Kd.R_slice ho; have HOj := zz31 ho; have HBj := zz31 (Below.trans (by repeat (first | exact HBi.out | apply zz0 | apply below_drew)) hb); have HTj := zz31 ((HBj.out.block bt HLT.out).trans HTh.out); have HXj := zz31 ((HBj.out.block bp HLX.out).trans HXh.out); have g1 := zz9 HTj.out 0; have g2 := zz9 HTj.out 1; simp only [List.getElem?_toArray, List.getElem?_cons_zero, List.getElem?_cons_succ] at g1 g2; have g3 := zz10 HTj.out 0; have g4 := zz10 HTj.out 1; clear ho hb) | (fail "no arm"))
  all_goals go_wp2
  all_goals refine bodyPost_ret (results_ct rfl _ _ bt 30 #[.int .i64 a0_0,.slice A4 (l0_1.filter fun x=>!eqP x ⟨mn,mx⟩).length c4] (0,0) _ rfl (by (with_reducible repeat (first | refine zz6 ?_ _ | refine zz7 ?_));refine blk_put (cs:=#[.int .i64 a0_0,.slice none 0 0]) ?_ 1 _ rfl;refine blk_put (cs:=#[.int .i64 0,.slice none 0 0]) ?_ 0 _ rfl;(with_reducible repeat (first | refine zz6 ?_ _ | refine zz7 ?_));exact HTj.out) Try.underlying30 rfl (by kernel_rfl)) rfl ?_
  all_goals exact ⟨_,rfl,by rw [HMN.out,HMX.out];exact Kd.R_mono (Kd.R_lower (Kd.R_far (Kd.R_far HOj.out (fun k hk=>by have:=HLT.out;show k ≠ bt;omega) _) (fun k hk=>by have:=HLT.out;show k ≠ bt;omega) _) HBh.out.size) (fun _ _=>trivial),by repeat first | exact (HBh.out.trans (HBj.out.mono HBh.out.size)) | apply zz0 | apply below_drew | refine zz3 ?_ HBT.out⟩

end Go.Proofs.Ytialimbdkokdcaa.P
