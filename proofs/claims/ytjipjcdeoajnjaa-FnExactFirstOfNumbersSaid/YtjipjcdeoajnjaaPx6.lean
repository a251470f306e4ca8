-- PRINTED by print.py (a twelfth state) out of the translation. Not trusted: Lean checks it.
import Derived.Test.YtjipjcdeoajnjaaPx0
import Derived.Test.YtjipjcdeoajnjaaPx1
import Derived.Test.YtjipjcdeoajnjaaPx2
import Derived.Test.YtjipjcdeoajnjaaPx7
namespace Go.Proofs.Ytjipjcdeoajnjaa.P
open Go.RowKit Go.Proofs.YtjipjcdeoajnjaaW.PrintWords Go.Proofs.YtjipjcdeoajnjaaW.PrintLast Go.Proofs.YtjipjcdeoajnjaaW.PrintMore
attribute [local go_sem] max2_int min2_int max_two min_two max_three min_three max_four min_four   -- for this text's walks alone
set_option linter.unusedVariables false
set_option linter.unusedSimpArgs false

/-! ### spec_FirstOfNumbers: function 20 -/
def spec_FirstOfNumbers.f (k:Nat) (l0:List Int):Option (Int × (List (S80)) × Bool):=(spec_deFew.f k l0).bind fun t169=>(if t169=true then ((spec_deAll.f l0).bind fun bt170=>(if bt170.1=0 then (some (0,([]:List (S80)),false)) else (some ((l0.length:Int),bt170.2,true)))) else (some (0,([]:List (S80)),false)))
theorem spec_FirstOfNumbers.mono:∀ a0 k,LeO (spec_FirstOfNumbers.f k a0) (spec_FirstOfNumbers.f (k+1) a0):=by
 intro a0 k
 unfold spec_FirstOfNumbers.f
 repeat' first
   | (with_reducible exact spec_deFew.mono _ _)
   | (with_reducible exact LeO.refl _)
   | (with_reducible exact LeO.none _)
   | (with_reducible refine LeO.ite ?_ ?_)
   | (with_reducible refine LeO.bind ?_ (fun _=>?_))
   | exact spec_deFew.mono _ _
   | exact LeO.none _
   | refine LeO.ite ?_ ?_
   | refine LeO.bind ?_ (fun _=>?_)
set_option maxHeartbeats 8000000 in
set_option maxRecDepth 100000 in
theorem spec_FirstOfNumbers.calls (k:Nat) (A0:Option Addr) (c0:Nat) (l0:List Int) (r1:Int) (r2:List (S80)) (r3:Bool) (w:World) (hr0:Kd.C (Kd.int .i64) w A0 l0.length l0) (hc0:l0.length≤c0) (h:spec_FirstOfNumbers.f k l0=some (r1,r2,r3)) :
  Calls Try.prog 20 #[.slice A0 l0.length c0] w fun e w'=>∃ v1_:Value,e=.returned (.tuple #[.agg #[.int .i64 r1,v1_],.bool r3])∧Kd.R k80 80 w' w.heap.size (fun _=>True) v1_ r2∧Below w.heap.size w w':=by
 have hu32:=Try.underlying32
 have HR0:=zz31 hr0
 have HC0:=zz31 hc0
 clear hr0 hc0
 have HB:=zz31 (Below.refl w.heap.size w)
 have H:((spec_deFew.f k l0).bind fun t169=>(if t169=true then ((spec_deAll.f l0).bind fun bt170=>(if bt170.1=0 then (some (0,([]:List (S80)),false)) else (some ((l0.length:Int),bt170.2,true)))) else (some (0,([]:List (S80)),false))))=some (r1,r2,r3):=h
 clear h
 replace H:=zz30.mp H
 obtain ⟨t169,A20,H⟩:=H
 replace H:(if t169=true then ((spec_deAll.f l0).bind fun bt170=>(if bt170.1=0 then (some (0,([]:List (S80)),false)) else (some ((l0.length:Int),bt170.2,true)))) else (some (0,([]:List (S80)),false)))=some (r1,r2,r3):=H
 have A2:=zz31 A20
 clear A20
 by_cases c3:t169=true
 ·subst c3
  have H1:((spec_deAll.f l0).bind fun bt170=>(if bt170.1=0 then (some (0,([]:List (S80)),false)) else (some ((l0.length:Int),bt170.2,true))))=some (r1,r2,r3):=by rw [if_pos rfl] at H;exact H
  clear H
  have H:=H1
  clear H1
  replace H:=zz30.mp H
  obtain ⟨⟨t170,t171⟩,A40,H⟩:=H
  replace H:(if t170=0 then (some (0,([]:List (S80)),false)) else (some ((l0.length:Int),t171,true)))=some (r1,r2,r3):=H
  have A4:=zz31 A40
  clear A40
  by_cases c5:t170=0
  ·rw [if_pos c5] at H
   have c5b0:(t170 == 0)=true:=beq_iff_eq.mpr c5
   have c5b1:(t170 != 0)=false:=bne_eq_false_iff_eq.mpr c5
   clear c5
   simp only [Option.some.injEq,Prod.mk.injEq] at H
   obtain ⟨rfl,rfl,rfl⟩:=H
   go_enter Try.func20,Try.ntmps20
   go_wp2_with (first | ((with_reducible refine gate_dst (N:=2) rfl ?_);refine box_event ?hg (N:=2) ?hd (cs:=#[.int .i64 0,.slice none 0 0]) (t:=32) ?hr ?_;(case hd=>rfl);(case hg=>rfl);(case hr=>first | (go_simp;done) | (go_simp;rfl));intro gb168 hg w6 hbox hb;have n0_:=zz31 (zz4 (by repeat first | exact HB.out | apply zz2 | apply zz0 | apply zz1) hb);have n1_:=zz31 (hbox);have n2_:=zz31 ((by rw [hg];exact (zz5 (by repeat first | exact HB.out | apply zz2 | apply zz0 | apply zz1)):w.heap.size≤gb168));have n3_:=zz31 ((by rw [hg];exact (zz5 (by repeat first | exact HB.out | apply zz2 | apply zz0 | apply zz1)):w.heap.size≤gb168));clear HB;have HB:=n0_;have BK168:=n1_;have GW168:=n2_;have GE168:=n3_;clear n0_ n1_ n2_ n3_;clear hb hbox hg) | ((with_reducible refine gate_callee (f:=46) rfl ?_);refine goesL_ (some 7) rfl rfl Try.func46 (by kernel_rfl) rfl #[.slice A0 l0.length c0] rfl (by (try simp only [zz26,zz27,zz28]);first | done | rfl | (simp only [zz24,zz25];rfl)) ?_;(with_reducible refine (spec_deFew.calls k _ _ l0 true _ ?side1 ?side2 A2.out).mono ?_);(case side1=>repeat (first | exact (Kd.C_below HR0.out HB.out) | (with_reducible refine zz18 ?_ _) | (with_reducible refine zz19 ?_ _) | (with_reducible refine zz20 ?_)));(case side2=>exact HC0.out);rintro e w' ⟨rfl,⟨nd,rfl⟩⟩;refine ⟨_,rfl,?_⟩;(try (rw [drewN_self w6];generalize hq_:World.drewN w6 _=w6;have n0_:Aside0 (w6.heap[gb168]?=some (.cells #[.int .i64 0,.slice none 0 0] 32 (0,0))):=⟨by rw [← hq_];exact (by (with_reducible repeat (first | refine zz6 ?_ _ | refine zz7 ?_ | refine zz8 ?_ _));exact BK168.out)⟩;have n1_:Aside0 (Below w.heap.size w w6):=⟨by rw [← hq_];exact (by repeat first | exact HB.out | apply zz2 | apply zz0 | apply zz1 | refine zz3 ?_ GE168.out)⟩;clear BK168 HB hq_;have BK168:=n0_;have HB:=n1_;clear n0_ n1_))) | ((with_reducible refine gate_callee (f:=47) rfl ?_);refine goesL_ (some 12) rfl rfl Try.func47 (by kernel_rfl) rfl #[.slice A0 l0.length c0] rfl (by (try simp only [zz26,zz27,zz28]);first | done | rfl | (simp only [zz24,zz25];rfl)) ?_;(with_reducible refine (spec_deAll.calls _ _ l0 t170 t171 _ ?side1 ?side2 A4.out).mono ?_);(case side1=>repeat (first | exact (Kd.C_below HR0.out HB.out) | (with_reducible refine zz18 ?_ _) | (with_reducible refine zz19 ?_ _) | (with_reducible refine zz20 ?_)));(case side2=>exact HC0.out);rintro e w7 ⟨v172,rfl,ho0,hb⟩;refine ⟨_,rfl,?_⟩;have n0_:=zz31 (Kd.R_lower ho0 (zz5 (by repeat first | exact HB.out | apply zz2 | apply zz0 | apply zz1 | refine zz3 ?_ GE168.out)));have n1_:=zz31 (zz11 (g:=gb168) (o:=.cells #[.int .i64 0,.slice none 0 0] 32 (0,0)) (by (with_reducible repeat (first | refine zz6 ?_ _ | refine zz7 ?_ | refine zz8 ?_ _));exact BK168.out) hb);have n2_:=zz31 (zz4 (by repeat first | exact HB.out | apply zz2 | apply zz0 | apply zz1 | refine zz3 ?_ GE168.out) hb);clear BK168;clear HB;have HO173:=n0_;have BK168:=n1_;have HB:=n2_;clear n0_ n1_ n2_;(try clear hb);(try clear hb2);(try clear hk);(try clear hi);(try clear ho0);have hcz8_0:w7.cell? ⟨gb168,0,none⟩=some (.int .i64 0):=(zz9 BK168.out 0).trans rfl;have hcz8_1:w7.cell? ⟨gb168,1,none⟩=some (.slice none 0 0):=(zz9 BK168.out 1).trans rfl;have hfz8_0:=zz10 BK168.out 0;have hfz8_1:=zz10 BK168.out 1))
   refine bodyPost_ret (results_ct rfl _ _ gb168 32 #[.int .i64 0,.slice none 0 0] (0,0) _ rfl (by (with_reducible repeat (first | refine zz6 ?_ _ | refine zz7 ?_ | refine zz8 ?_ _));refine blk_put (cs:=#[.int .i64 0,.slice none 0 0]) ?_ 1 _ rfl;(with_reducible repeat (first | refine zz6 ?_ _ | refine zz7 ?_ | refine zz8 ?_ _));refine blk_put (cs:=#[.int .i64 0,.slice none 0 0]) ?_ 0 _ rfl;(with_reducible repeat (first | refine zz6 ?_ _ | refine zz7 ?_ | refine zz8 ?_ _));exact BK168.out) Try.underlying32 rfl (by kernel_rfl)) rfl ?_
   exact ⟨_,by first | rfl | (simp [errW_none,errW_some] <;> rfl) | (simp [*,errW_none,errW_some] <;> rfl),by first | exact Kd.R_nil _ _ _ _ _ | exact Kd.N_nil _ _ _ _ _ | exact Kd.V_nil _ _ _ _ _ | exact Kd.Q_nil _ _ _ _ _ | exact Kd.S_nil _ _ _ _ _,by repeat first | exact HB.out | apply zz2 | apply zz0 | apply zz1 | refine zz3 ?_ GE168.out⟩
  ·rw [if_neg c5] at H
   have c5b0:(t170 == 0)=false:=beq_eq_false_iff_ne.mpr c5
   have c5b1:(t170 != 0)=true:=bne_iff_ne.mpr c5
   simp only [Option.some.injEq,Prod.mk.injEq] at H
   obtain ⟨rfl,rfl,rfl⟩:=H
   go_enter Try.func20,Try.ntmps20
   go_wp2_with (first | ((with_reducible refine gate_dst (N:=2) rfl ?_);refine box_event ?hg (N:=2) ?hd (cs:=#[.int .i64 0,.slice none 0 0]) (t:=32) ?hr ?_;(case hd=>rfl);(case hg=>rfl);(case hr=>first | (go_simp;done) | (go_simp;rfl));intro gb168 hg w9 hbox hb;have n0_:=zz31 (zz4 (by repeat first | exact HB.out | apply zz2 | apply zz0 | apply zz1) hb);have n1_:=zz31 (hbox);have n2_:=zz31 ((by rw [hg];exact (zz5 (by repeat first | exact HB.out | apply zz2 | apply zz0 | apply zz1)):w.heap.size≤gb168));have n3_:=zz31 ((by rw [hg];exact (zz5 (by repeat first | exact HB.out | apply zz2 | apply zz0 | apply zz1)):w.heap.size≤gb168));clear HB;have HB:=n0_;have BK168:=n1_;have GW168:=n2_;have GE168:=n3_;clear n0_ n1_ n2_ n3_;clear hb hbox hg) | ((with_reducible refine gate_callee (f:=46) rfl ?_);refine goesL_ (some 7) rfl rfl Try.func46 (by kernel_rfl) rfl #[.slice A0 l0.length c0] rfl (by (try simp only [zz26,zz27,zz28]);first | done | rfl | (simp only [zz24,zz25];rfl)) ?_;(with_reducible refine (spec_deFew.calls k _ _ l0 true _ ?side1 ?side2 A2.out).mono ?_);(case side1=>repeat (first | exact (Kd.C_below HR0.out HB.out) | (with_reducible refine zz18 ?_ _) | (with_reducible refine zz19 ?_ _) | (with_reducible refine zz20 ?_)));(case side2=>exact HC0.out);rintro e w' ⟨rfl,⟨nd,rfl⟩⟩;refine ⟨_,rfl,?_⟩;(try (rw [drewN_self w9];generalize hq_:World.drewN w9 _=w9;have n0_:Aside0 (w9.heap[gb168]?=some (.cells #[.int .i64 0,.slice none 0 0] 32 (0,0))):=⟨by rw [← hq_];exact (by (with_reducible repeat (first | refine zz6 ?_ _ | refine zz7 ?_ | refine zz8 ?_ _));exact BK168.out)⟩;have n1_:Aside0 (Below w.heap.size w w9):=⟨by rw [← hq_];exact (by repeat first | exact HB.out | apply zz2 | apply zz0 | apply zz1 | refine zz3 ?_ GE168.out)⟩;clear BK168 HB hq_;have BK168:=n0_;have HB:=n1_;clear n0_ n1_))) | ((with_reducible refine gate_callee (f:=47) rfl ?_);refine goesL_ (some 12) rfl rfl Try.func47 (by kernel_rfl) rfl #[.slice A0 l0.length c0] rfl (by (try simp only [zz26,zz27,zz28]);first | done | rfl | (simp only [zz24,zz25];rfl)) ?_;(with_reducible refine (spec_deAll.calls _ _ l0 t170 t171 _ ?side1 ?side2 A4.out).mono ?_);(case side1=>repeat (first | exact (Kd.C_below HR0.out HB.out) | (with_reducible refine zz18 ?_ _) | (with_reducible refine zz19 ?_ _) | (with_reducible refine zz20 ?_)));(case side2=>exact HC0.out);rintro e w10 ⟨v172,rfl,ho0,hb⟩;refine ⟨_,rfl,?_⟩;have n0_:=zz31 (Kd.R_lower ho0 (zz5 (by repeat first | exact HB.out | apply zz2 | apply zz0 | apply zz1 | refine zz3 ?_ GE168.out)));have n1_:=zz31 (zz11 (g:=gb168) (o:=.cells #[.int .i64 0,.slice none 0 0] 32 (0,0)) (by (with_reducible repeat (first | refine zz6 ?_ _ | refine zz7 ?_ | refine zz8 ?_ _));exact BK168.out) hb);have n2_:=zz31 (zz4 (by repeat first | exact HB.out | apply zz2 | apply zz0 | apply zz1 | refine zz3 ?_ GE168.out) hb);clear BK168;clear HB;have HO173:=n0_;have BK168:=n1_;have HB:=n2_;clear n0_ n1_ n2_;(try clear hb);(try clear hb2);(try clear hk);(try clear hi);(try clear ho0);obtain ⟨Ao11,co11,eo11⟩:=Kd.R_slice HO173.out;subst eo11;have hcz12_0:w10.cell? ⟨gb168,0,none⟩=some (.int .i64 0):=(zz9 BK168.out 0).trans rfl;have hcz12_1:w10.cell? ⟨gb168,1,none⟩=some (.slice none 0 0):=(zz9 BK168.out 1).trans rfl;have hfz12_0:=zz10 BK168.out 0;have hfz12_1:=zz10 BK168.out 1))
   refine bodyPost_ret (results_ct rfl _ _ gb168 32 #[.int .i64 (l0.length:Int),.slice Ao11 t171.length co11] (0,0) _ rfl (by (with_reducible repeat (first | refine zz6 ?_ _ | refine zz7 ?_ | refine zz8 ?_ _));refine blk_put (cs:=#[.int .i64 (l0.length:Int),.slice none 0 0]) ?_ 1 _ rfl;(with_reducible repeat (first | refine zz6 ?_ _ | refine zz7 ?_ | refine zz8 ?_ _));refine blk_put (cs:=#[.int .i64 0,.slice none 0 0]) ?_ 0 _ rfl;(with_reducible repeat (first | refine zz6 ?_ _ | refine zz7 ?_ | refine zz8 ?_ _));exact BK168.out) Try.underlying32 rfl (by kernel_rfl)) rfl ?_
   exact ⟨_,by first | rfl | (simp [errW_none,errW_some] <;> rfl) | (simp [*,errW_none,errW_some] <;> rfl),by (with_reducible repeat (first | apply zz12 | apply zz13 | apply zz14));exact Kd.R_mono (Kd.R_far (p:=⟨gb168,1,none⟩) (Kd.R_far (p:=⟨gb168,0,none⟩) (Kd.R_types HO173.out BK168.out (by decide)) (fun _ hk=>hk.2) (.int .i64 (l0.length:Int))) (fun _ hk=>hk.2) (.slice Ao11 t171.length co11)) (fun _ hk=>trivial),by repeat first | exact HB.out | apply zz2 | apply zz0 | apply zz1 | refine zz3 ?_ GE168.out⟩
 ·replace c3:=Bool.eq_false_iff.mpr c3
  subst c3
  have H1:(some (0,([]:List (S80)),false))=some (r1,r2,r3):=by rw [if_neg (show ¬ (false=true) by decide)] at H;exact H
  clear H
  have H:=H1
  clear H1
  simp only [Option.some.injEq,Prod.mk.injEq] at H
  obtain ⟨rfl,rfl,rfl⟩:=H
  go_enter Try.func20,Try.ntmps20
  go_wp2_with (first | ((with_reducible refine gate_dst (N:=2) rfl ?_);refine box_event ?hg (N:=2) ?hd (cs:=#[.int .i64 0,.slice none 0 0]) (t:=32) ?hr ?_;(case hd=>rfl);(case hg=>rfl);(case hr=>first | (go_simp;done) | (go_simp;rfl));intro gb168 hg w13 hbox hb;have n0_:=zz31 (zz4 (by repeat first | exact HB.out | apply zz2 | apply zz0 | apply zz1) hb);have n1_:=zz31 (hbox);have n2_:=zz31 ((by rw [hg];exact (zz5 (by repeat first | exact HB.out | apply zz2 | apply zz0 | apply zz1)):w.heap.size≤gb168));have n3_:=zz31 ((by rw [hg];exact (zz5 (by repeat first | exact HB.out | apply zz2 | apply zz0 | apply zz1)):w.heap.size≤gb168));clear HB;have HB:=n0_;have BK168:=n1_;have GW168:=n2_;have GE168:=n3_;clear n0_ n1_ n2_ n3_;clear hb hbox hg) | ((with_reducible refine gate_callee (f:=46) rfl ?_);refine goesL_ (some 7) rfl rfl Try.func46 (by kernel_rfl) rfl #[.slice A0 l0.length c0] rfl (by (try simp only [zz26,zz27,zz28]);first | done | rfl | (simp only [zz24,zz25];rfl)) ?_;(with_reducible refine (spec_deFew.calls k _ _ l0 false _ ?side1 ?side2 A2.out).mono ?_);(case side1=>repeat (first | exact (Kd.C_below HR0.out HB.out) | (with_reducible refine zz18 ?_ _) | (with_reducible refine zz19 ?_ _) | (with_reducible refine zz20 ?_)));(case side2=>exact HC0.out);rintro e w' ⟨rfl,⟨nd,rfl⟩⟩;refine ⟨_,rfl,?_⟩;(try (rw [drewN_self w13];generalize hq_:World.drewN w13 _=w13;have n0_:Aside0 (w13.heap[gb168]?=some (.cells #[.int .i64 0,.slice none 0 0] 32 (0,0))):=⟨by rw [← hq_];exact (by (with_reducible repeat (first | refine zz6 ?_ _ | refine zz7 ?_ | refine zz8 ?_ _));exact BK168.out)⟩;have n1_:Aside0 (Below w.heap.size w w13):=⟨by rw [← hq_];exact (by repeat first | exact HB.out | apply zz2 | apply zz0 | apply zz1 | refine zz3 ?_ GE168.out)⟩;clear BK168 HB hq_;have BK168:=n0_;have HB:=n1_;clear n0_ n1_));have hcz14_0:w13.cell? ⟨gb168,0,none⟩=some (.int .i64 0):=(zz9 BK168.out 0).trans rfl;have hcz14_1:w13.cell? ⟨gb168,1,none⟩=some (.slice none 0 0):=(zz9 BK168.out 1).trans rfl;have hfz14_0:=zz10 BK168.out 0;have hfz14_1:=zz10 BK168.out 1))
  refine bodyPost_ret (results_ct rfl _ _ gb168 32 #[.int .i64 0,.slice none 0 0] (0,0) _ rfl (by (with_reducible repeat (first | refine zz6 ?_ _ | refine zz7 ?_ | refine zz8 ?_ _));refine blk_put (cs:=#[.int .i64 0,.slice none 0 0]) ?_ 1 _ rfl;(with_reducible repeat (first | refine zz6 ?_ _ | refine zz7 ?_ | refine zz8 ?_ _));refine blk_put (cs:=#[.int .i64 0,.slice none 0 0]) ?_ 0 _ rfl;(with_reducible repeat (first | refine zz6 ?_ _ | refine zz7 ?_ | refine zz8 ?_ _));exact BK168.out) Try.underlying32 rfl (by kernel_rfl)) rfl ?_
  exact ⟨_,by first | rfl | (simp [errW_none,errW_some] <;> rfl) | (simp [*,errW_none,errW_some] <;> rfl),by first | exact Kd.R_nil _ _ _ _ _ | exact Kd.N_nil _ _ _ _ _ | exact Kd.V_nil _ _ _ _ _ | exact Kd.Q_nil _ _ _ _ _ | exact Kd.S_nil _ _ _ _ _,by repeat first | exact HB.out | apply zz2 | apply zz0 | apply zz1 | refine zz3 ?_ GE168.out⟩

-- NOT PRINTED: function 51 (impl_FirstOfNumbers_1)

/-! ### impl_FirstOfNumbers: function 21 (a contract of our own) -/
def FstM (n bo:Nat) (s:Option (List Int)) (own:Nat→Prop) (W:World):Prop:=own=(fun i=>i=bo)∧∃ (A:Option Addr) (m c:Nat),W.heap[bo]?=some (.cells #[.slice A m c] 51 (0,0))∧∀ t,s=some t→m=n∧t.length=n∧n≤c∧ReadApart .u16 own W A n t
theorem FstM.below {n bo:Nat} {s:Option (List Int)} {own:Nat→Prop} {W W':World} (h:FstM n bo s own W) (hb:Below W.heap.size W W'):FstM n bo s own W':=by
 obtain ⟨h1,A,m,c,h2,h3⟩:=h
 exact ⟨h1,A,m,c,zz11 h2 hb,fun t ht=>⟨(h3 t ht).1,(h3 t ht).2.1,(h3 t ht).2.2.1,(h3 t ht).2.2.2.fr (Fr.of_below own hb)⟩⟩
theorem FstM.lt {n bo:Nat} {s:Option (List Int)} {own:Nat→Prop} {W:World} (h:FstM n bo s own W):∀ i,own i→i < W.heap.size:=by
 obtain ⟨h1,A,m,c,h2,h3⟩:=h
 subst h1
 rintro i rfl
 exact blk_lt h2
theorem fr_one1 {bo:Nat} {W:World} {u:Value}:Fr (fun i=>i=bo) (fun i=>i=bo) W (W.setCell ⟨bo,0,none⟩ u) :=
 ⟨rfl,rfl,rfl,by simp [World.setCell],fun i _ hn=>Below.heap_setCell _ _ _ i hn,fun i h=>.inl h⟩
set_option maxHeartbeats 1000000 in
theorem fstM_each (n bo:Nat):EachT (Option (List Int)) 51 #[.pointer (some ⟨bo,0,none⟩)] n (FstM n bo) (fun _ t=>(some t,false)):=by
 intro s own W A c t ⟨ho,A1,m1,c1,hb,_⟩ hl hc hT
 have f1:=zz9 hb 0
 have f2:=zz10 hb 0
 simp only [List.getElem?_toArray,List.getElem?_cons_zero] at f1
 have HB:=zz31 hb
 have HT:=zz31 hT
 have HL:=zz31 hl
 clear hb hT hl
 subst ho
 show Calls Try.prog 51 #[.slice A n c,.pointer (some ⟨bo,0,none⟩)] W _
 go_enter Try.func51,Try.ntmps51
 go_wp2
 go_ret
 refine ⟨rfl,_,⟨rfl,A,n,c,blk_set HB.out 0 _,fun t1 h1=>?_⟩,fr_one1⟩
 injection h1 with h1
 subst h1
 exact ⟨rfl,HL.out,hc,HT.out.fr fr_one1⟩
def firstM:List (List Int)→Option (List Int)
 | []=>none
 | t :: _=>some t
theorem giveL_first:∀ L:List (List Int),giveL (fun (_:Option (List Int)) (t:List Int)=>(some t,false)) L none=(firstM L,(firstM L).isNone)
 | []=>rfl
 | t :: L=>rfl
def impl_FirstOfNumbers.f (k:Nat) (l0:List Int):Option (Int × List (S80) × Bool) :=
 (impl_isFew.f l0).bind fun ok=>if ok=true then (if l0.length≤7 then (if (firstM (madeL l0)).isNone=true then some (0,[],false) else (impl_table_party.f k ((firstM (madeL l0)).getD [])).bind fun r=>some (r.1,r.2,true)) else none) else some (0,[],false)
theorem impl_FirstOfNumbers.mono:∀ a0 k,LeO (impl_FirstOfNumbers.f k a0) (impl_FirstOfNumbers.f (k+1) a0):=by
 intro a0 k
 unfold impl_FirstOfNumbers.f
 exact LeO.bind (LeO.refl _) fun ok=>LeO.ite (LeO.ite (LeO.ite (LeO.refl _) (LeO.bind (impl_table_party.mono _ _) fun r=>LeO.refl _)) (LeO.refl _)) (LeO.refl _)
set_option maxHeartbeats 8000000 in
set_option maxRecDepth 100000 in
theorem impl_FirstOfNumbers.calls (k:Nat) (A0:Option Addr) (c0:Nat) (l0:List Int) (r1:Int) (r2:List (S80)) (r3:Bool) (w:World) (hr0:Kd.C (Kd.int .i64) w A0 l0.length l0) (hc0:l0.length≤c0) (h:impl_FirstOfNumbers.f k l0=some (r1,r2,r3)) :
  Calls Try.prog 21 #[.slice A0 l0.length c0] w fun e w'=>∃ v1_:Value,e=.returned (.tuple #[.agg #[.int .i64 r1,v1_],.bool r3])∧Kd.R k80 80 w' w.heap.size (fun _=>True) v1_ r2∧Below w.heap.size w w':=by
 have hu:=Try.underlying32
 unfold impl_FirstOfNumbers.f at h
 obtain ⟨ok,hok,h⟩:=zz30.1 h
 have HOK:=zz31 hok
 have HC:=zz31 hr0
 have HCC:=zz31 hc0
 clear hok hr0 hc0
 cases ok with
 | false =>
  simp only [Bool.false_eq_true,if_false] at h
  simp only [Option.some.injEq,Prod.mk.injEq] at h
  obtain ⟨rfl,rfl,rfl⟩:=h
  go_enter Try.func21,Try.ntmps21
  go_wp2_with (first | ((with_reducible refine gate_dst (N := 2) rfl ?_); refine box_event ?hg (N := 2) ?hd (cs := #[.int .i64 0, .slice none 0 0]) (t := 32) ?hr ?_; (case hd => rfl); (case hg => rfl); (case hr => first | (go_simp; done) | (go_simp; rfl)); intro bo hbo wa hbox hb; have HXa := zz31 hbox; have HBa := zz31 (zz4 (w := w) (by repeat (first | exact Below.refl _ _ | apply zz0 | apply below_drew | apply zz2)) hb); have HBO := zz31 (show w.heap.size ≤ bo from by rw [hbo]; exact Nat.le_refl _); have HCa := zz31 (Kd.C_below HC.out HBa.out); have f1 := zz9 HXa.out 0; have f2 := zz9 HXa.out 1; simp only [List.getElem?_toArray, List.getElem?_cons_zero, List.getElem?_cons_succ] at f1 f2; have f3 := zz10 HXa.out 0; have f4 := zz10 HXa.out 1; clear hbox hb hbo) | (go_at_call 48; (with_reducible refine (impl_isFew.calls A0 c0 l0 false wa HCa.out HCC.out HOK.out).mono ?_); rintro e wb ⟨rfl, hb⟩; have HBb := zz31 (zz4 HBa.out hb); have HXb := zz31 (zz11 HXa.out hb); clear hb f1 f2 f3 f4; have f1 := zz9 HXb.out 0; have f2 := zz9 HXb.out 1; simp only [List.getElem?_toArray, List.getElem?_cons_zero, List.getElem?_cons_succ] at f1 f2; have f3 := zz10 HXb.out 0; have f4 := zz10 HXb.out 1) | (fail "no arm"))
  refine bodyPost_ret (results_ct rfl _ _ bo 32 #[.int .i64 0,.slice none 0 0] (0,0) _ rfl (by (with_reducible repeat (first | refine zz6 ?_ _ | refine zz7 ?_));refine blk_put (cs:=#[.int .i64 0,.slice none 0 0]) ?_ 1 _ rfl;refine blk_put (cs:=#[.int .i64 0,.slice none 0 0]) ?_ 0 _ rfl;(with_reducible repeat (first | refine zz6 ?_ _ | refine zz7 ?_));exact HXb.out) Try.underlying32 rfl (by kernel_rfl)) rfl ?_
  exact ⟨_,rfl,Kd.R_nil _ _ _ _ _,by repeat first | exact HBb.out | apply zz0 | apply below_drew | refine zz3 ?_ HBO.out⟩
 | true =>
  rw [if_pos rfl] at h
  by_cases h7:l0.length≤7
  case neg=>rw [if_neg h7] at h;exact absurd h (by simp)
  rw [if_pos h7] at h
  have CG:Aside0 (∀ (Wx:World) (bx:Nat),Below w.heap.size w Wx→w.heap.size≤bx→Wx.heap[bx]?=some (.cells #[.slice none 0 0] 51 (0,0)) →
    Calls Try.prog 50 #[.slice A0 l0.length c0,.func (.func 51) #[] #[.pointer (some ⟨bx,0,none⟩)]] Wx fun e W'=>e=.returned (.bool (firstM (madeL l0)).isNone)∧Fr (fun i=>i=bx) (fun i=>i=bx) Wx W'∧∃ (A:Option Addr) (m c:Nat),W'.heap[bx]?=some (.cells #[.slice A m c] 51 (0,0))∧∀ t,firstM (madeL l0)=some t→m=t.length∧t.length≤c∧Kd.C (Kd.int .u16) W' A t.length t):=⟨fun Wx bx hB hbx hcell=>by
   have h0:ReadApart .i64 (fun i=>False) w A0 l0.length l0:=⟨HC.out,fun _ _ _ h=>h⟩
   have h1:=(h0.fr (own':=fun i=>i=bx) (w':=w) ⟨rfl,rfl,rfl,Nat.le_refl _,fun _ _ _=>rfl,fun i hi=>.inr (by omega)⟩).fr ((Fr.of_below (fun i=>i=bx) (w:=w) hB))
   refine (made_calls (Option (List Int)) 51 #[.pointer (some ⟨bx,0,none⟩)] (fun _ _=>rfl) l0 (FstM l0.length bx) (fun _ t=>(some t,false)) (fstM_each _ _) (fun _ _ _ _ h hb=>h.below hb) (fun _ _ _ h=>h.lt) h7 A0 c0 none (fun i=>i=bx) Wx h1 HCC.out ⟨rfl,none,0,0,hcell,fun t h=>(nomatch h)⟩).mono ?_
   rintro e W' ⟨g1,own',⟨g2,A,m,c,g3,g4⟩,g5⟩
   subst g2
   rw [giveL_first] at g1 g4
   exact ⟨g1,g5,A,m,c,g3,fun t ht=>by
    obtain ⟨p1,p2,p3,p4⟩:=g4 t ht
    subst p1
    rw [p2]
    exact ⟨rfl,p3,p4.1⟩⟩⟩
  cases hfm:(firstM (madeL l0)) with
  | none =>
   rw [hfm] at h CG
   simp only [Option.isNone_none,if_true,Option.some.injEq,Prod.mk.injEq] at h
   obtain ⟨rfl,rfl,rfl⟩:=h
   go_enter Try.func21,Try.ntmps21
   go_wp2_with (first | ((with_reducible refine gate_dst (N := 2) rfl ?_); refine box_event ?hg (N := 2) ?hd (cs := #[.int .i64 0, .slice none 0 0]) (t := 32) ?hr ?_; (case hd => rfl); (case hg => rfl); (case hr => first | (go_simp; done) | (go_simp; rfl)); intro bo hbo wa hbox hb; have HXa := zz31 hbox; have HBa := zz31 (zz4 (w := w) (by repeat (first | exact Below.refl _ _ | apply zz0 | apply below_drew | apply zz2)) hb); have HBO := zz31 (show w.heap.size ≤ bo from by rw [hbo]; exact Nat.le_refl _); have HCa := zz31 (Kd.C_below HC.out HBa.out); clear hbox hb hbo) | (go_at_call 48; (with_reducible refine (impl_isFew.calls A0 c0 l0 true wa HCa.out HCC.out HOK.out).mono ?_); rintro e wb ⟨rfl, hb⟩; have HBb := zz31 (zz4 HBa.out hb); have HXb := zz31 (zz11 HXa.out hb); clear hb) | ((with_reducible refine gate_dst (N := 4) rfl ?_); refine box_event ?hg (N := 4) ?hd (cs := #[.slice none 0 0]) (t := 51) ?hr ?_; (case hd => rfl); (case hg => rfl); (case hr => first | (go_simp; done) | (go_simp; rfl)); intro bx hbx wc hbox hb; have HXX := zz31 hbox; have HBc := zz31 (zz4 HBb.out hb); have HNE := zz31 (show bo < bx from by rw [hbx]; exact blk_lt HXb.out); have HBX := zz31 (Nat.le_trans HBO.out (Nat.le_of_lt HNE.out)); have HXc := zz31 (zz11 HXb.out hb); have g1 := zz9 HXX.out 0; have g2 := zz10 HXX.out 0; simp only [List.getElem?_toArray, List.getElem?_cons_zero] at g1; clear hbox hb hbx) | (go_at_call 50; refine (CG.out _ bx (zz3 (g := bx) (j := 0) (v := .slice none 0 0) HBc.out HBX.out) HBX.out (blk_set HXX.out 0 _)).mono ?_; rintro e wd ⟨rfl, hF, A, m, c, hx, ht⟩; have HBd := zz31 ((zz3 (g := bx) (j := 0) (v := .slice none 0 0) HBc.out HBX.out).trans (hF.below (zz3 (g := bx) (j := 0) (v := .slice none 0 0) HBc.out HBX.out).size (fun i hi => by have := HBX.out; omega))); have HXd := zz31 (hF.blk (blk_far HXc.out (p := ⟨bx, 0, none⟩) (show bo ≠ bx from Nat.ne_of_lt HNE.out) (.slice none 0 0)) (Nat.ne_of_lt HNE.out)); have HXY := zz31 hx;  have f1 := zz9 HXd.out 0; have f2 := zz9 HXd.out 1; simp only [List.getElem?_toArray, List.getElem?_cons_zero, List.getElem?_cons_succ] at f1 f2; have f3 := zz10 HXd.out 0; have f4 := zz10 HXd.out 1; clear hx ht hF g1 g2) | (fail "no arm"))
   refine bodyPost_ret (results_ct rfl _ _ bo 32 #[.int .i64 0,.slice none 0 0] (0,0) _ rfl (by (with_reducible repeat (first | refine zz6 ?_ _ | refine zz7 ?_));refine blk_put (cs:=#[.int .i64 0,.slice none 0 0]) ?_ 1 _ rfl;refine blk_put (cs:=#[.int .i64 0,.slice none 0 0]) ?_ 0 _ rfl;(with_reducible repeat (first | refine zz6 ?_ _ | refine zz7 ?_));exact HXd.out) Try.underlying32 rfl (by kernel_rfl)) rfl ?_
   exact ⟨_,rfl,Kd.R_nil _ _ _ _ _,by repeat first | exact HBd.out | apply zz0 | apply below_drew | refine zz3 ?_ HBO.out⟩
  | some t =>
   rw [hfm] at h CG
   simp only [Option.isNone_some,Bool.false_eq_true,if_false,Option.getD_some] at h
   obtain ⟨⟨p1,p2⟩,hp,h⟩:=zz30.1 h
   simp only [Option.some.injEq,Prod.mk.injEq] at h
   obtain ⟨rfl,rfl,rfl⟩:=h
   have HP:=zz31 hp
   clear hp hfm
   go_enter Try.func21,Try.ntmps21
   go_wp2_with (first | ((with_reducible refine gate_dst (N := 2) rfl ?_); refine box_event ?hg (N := 2) ?hd (cs := #[.int .i64 0, .slice none 0 0]) (t := 32) ?hr ?_; (case hd => rfl); (case hg => rfl); (case hr => first | (go_simp; done) | (go_simp; rfl)); intro bo hbo wa hbox hb; have HXa := zz31 hbox; have HBa := zz31 (zz4 (w := w) (by repeat (first | exact Below.refl _ _ | apply zz0 | apply below_drew | apply zz2)) hb); have HBO := zz31 (show w.heap.size ≤ bo from by rw [hbo]; exact Nat.le_refl _); have HCa := zz31 (Kd.C_below HC.out HBa.out); clear hbox hb hbo) | (go_at_call 48; (with_reducible refine (impl_isFew.calls A0 c0 l0 true wa HCa.out HCC.out HOK.out).mono ?_); rintro e wb ⟨rfl, hb⟩; have HBb := zz31 (zz4 HBa.out hb); have HXb := zz31 (zz11 HXa.out hb); clear hb) | ((with_reducible refine gate_dst (N := 4) rfl ?_); refine box_event ?hg (N := 4) ?hd (cs := #[.slice none 0 0]) (t := 51) ?hr ?_; (case hd => rfl); (case hg => rfl); (case hr => first | (go_simp; done) | (go_simp; rfl)); intro bx hbx wc hbox hb; have HXX := zz31 hbox; have HBc := zz31 (zz4 HBb.out hb); have HNE := zz31 (show bo < bx from by rw [hbx]; exact blk_lt HXb.out); have HBX := zz31 (Nat.le_trans HBO.out (Nat.le_of_lt HNE.out)); have HXc := zz31 (zz11 HXb.out hb); have g1 := zz9 HXX.out 0; have g2 := zz10 HXX.out 0; simp only [List.getElem?_toArray, List.getElem?_cons_zero] at g1; clear hbox hb hbx) | (go_at_call 50; refine (CG.out _ bx (zz3 (g := bx) (j := 0) (v := .slice none 0 0) HBc.out HBX.out) HBX.out (blk_set HXX.out 0 _)).mono ?_; rintro e wd ⟨rfl, hF, A, m, c, hx, ht⟩; have HBd := zz31 ((zz3 (g := bx) (j := 0) (v := .slice none 0 0) HBc.out HBX.out).trans (hF.below (zz3 (g := bx) (j := 0) (v := .slice none 0 0) HBc.out HBX.out).size (fun i hi => by have := HBX.out; omega))); have HXd := zz31 (hF.blk (blk_far HXc.out (p := ⟨bx, 0, none⟩) (show bo ≠ bx from Nat.ne_of_lt HNE.out) (.slice none 0 0)) (Nat.ne_of_lt HNE.out)); have HXY := zz31 hx; obtain ⟨rfl, hcc, hCt⟩ := ht t rfl; have g3 := zz9 HXY.out 0; simp only [List.getElem?_toArray, List.getElem?_cons_zero] at g3; have HCt := zz31 hCt; have HCc := zz31 hcc; replace ht := True.intro;  have f1 := zz9 HXd.out 0; have f2 := zz9 HXd.out 1; simp only [List.getElem?_toArray, List.getElem?_cons_zero, List.getElem?_cons_succ] at f1 f2; have f3 := zz10 HXd.out 0; have f4 := zz10 HXd.out 1; clear hx ht hF g1 g2) | (go_at_call 52; refine (impl_table_party.calls k A c t p1 p2 _ HCt.out HCc.out HP.out).mono ?_; rintro e we ⟨v1, rfl, ho, hb⟩; obtain ⟨A1, c1, rfl⟩ := Kd.R_slice ho; have HBe := zz31 (zz4 HBd.out hb); have HLd := zz31 (blk_lt HXd.out); have HO := zz31 (Kd.R_mono (ok' := fun k => k ≠ bo) (Kd.R_bound ho) (fun k hk => by have h1 := hk.2.1; have h2 := HLd.out; show k ≠ bo; omega)); have HSd := zz31 HBd.out.size; have HXe := zz31 (zz11 HXd.out hb); clear ho hb f1 f2 f3 f4; have f1 := zz9 HXe.out 0; have f2 := zz9 HXe.out 1; simp only [List.getElem?_toArray, List.getElem?_cons_zero, List.getElem?_cons_succ] at f1 f2; have f3 := zz10 HXe.out 0; have f4 := zz10 HXe.out 1) | (fail "no arm"))
   refine bodyPost_ret (results_ct rfl _ _ bo 32 #[.int .i64 p1,.slice A1 p2.length c1] (0,0) _ rfl (by (with_reducible repeat (first | refine zz6 ?_ _ | refine zz7 ?_));refine blk_put (cs:=#[.int .i64 p1,.slice none 0 0]) ?_ 1 _ rfl;refine blk_put (cs:=#[.int .i64 0,.slice none 0 0]) ?_ 0 _ rfl;(with_reducible repeat (first | refine zz6 ?_ _ | refine zz7 ?_));exact HXe.out) Try.underlying32 rfl (by kernel_rfl)) rfl ?_
   exact ⟨_,rfl,Kd.R_mono (Kd.R_lower (Kd.R_far (Kd.R_far HO.out (fun k hk=>hk) _) (fun k hk=>hk) _) HSd.out) (fun _ _=>trivial),by repeat first | exact HBe.out | apply zz0 | apply below_drew | refine zz3 ?_ HBO.out⟩

/-! ### laws_FnExactFirstOfNumbers: function 5 -/
mutual
def laws_FnExactFirstOfNumbers.j0:Nat→List Int→Bool→List Int→Bool→Bool→Int→List (S80)→Int→List (S80)→Option (Bool)
 | 0,_,_,_,_,_,_,_,_,_=>none
 | k+1,x0,x4,x5,x7,x37,x208000,x208001,x217000,x217001=>if x37=true then (some false) else ((laws_toIntS.f k x0).bind fun t218=>((laws_eqIntS.f k x5 t218).bind fun t221=>(if t221=true then ((laws_markIntS.f k x5 1).bind fun bt222=>(if bt222.1 < 0 then (laws_FnExactFirstOfNumbers.j1 k x0 x4 true x208000 x208001 x217000 x217001) else ((laws_eqParty.f k x217000 x217001 x208000 x208001).bind fun t224=>(if t224=true then (laws_FnExactFirstOfNumbers.j1 k x0 x4 (x7 != x4) x208000 x208001 x217000 x217001) else (laws_FnExactFirstOfNumbers.j1 k x0 x4 true x208000 x208001 x217000 x217001))))) else (some false))))
def laws_FnExactFirstOfNumbers.j1:Nat→List Int→Bool→Bool→Int→List (S80)→Int→List (S80)→Option (Bool)
 | 0,_,_,_,_,_,_,_=>none
 | k+1,x0,x4,x58,x208000,x208001,x217000,x217001=>if x58=true then (some false) else ((laws_markParty.f k x217000 x217001 1).bind fun bt225=>((laws_heldParty.f k x217000 bt225.2 1).bind fun t227=>(if t227 < 0 then (some false) else (if t227=bt225.1 then ((laws_toIntS.f k x0).bind fun t228=>((impl_FirstOfNumbers.f k t228).bind fun bt231=>((laws_eqParty.f k bt231.1 bt231.2.1 x208000 x208001).bind fun t237=>(if t237=true then (laws_FnExactFirstOfNumbers.j2 k bt225.1 (bt231.2.2 != x4) x217000 bt225.2) else (laws_FnExactFirstOfNumbers.j2 k bt225.1 true x217000 bt225.2))))) else (some false)))))
def laws_FnExactFirstOfNumbers.j2:Nat→Int→Bool→Int→List (S80)→Option (Bool)
 | 0,_,_,_,_=>none
 | k+1,x9,x84,x217000,x217001=>if x84=true then (some false) else ((laws_heldParty.f k x217000 x217001 1).bind fun t238=>(if t238 < 0 then (some false) else (if t238=x9 then (some true) else (some false))))
end
def laws_FnExactFirstOfNumbers.f (k:Nat) (l0:List Int):Option (Bool):=if (l0.length:Int) > 1048576 then (some true) else ((laws_toIntS.f k l0).bind fun t199=>((spec_FirstOfNumbers.f k t199).bind fun bt202=>((laws_toIntS.f k l0).bind fun t208=>((impl_FirstOfNumbers.f k t208).bind fun bt211=>((laws_eqParty.f k bt211.1 bt211.2.1 bt202.1 bt202.2.1).bind fun t217=>(if t217=true then (laws_FnExactFirstOfNumbers.j0 k l0 bt202.2.2 t208 bt211.2.2 (bt211.2.2 != bt202.2.2) bt202.1 bt202.2.1 bt211.1 bt211.2.1) else (laws_FnExactFirstOfNumbers.j0 k l0 bt202.2.2 t208 bt211.2.2 true bt202.1 bt202.2.1 bt211.1 bt211.2.1)))))))
theorem laws_FnExactFirstOfNumbers.mono_l:∀ k,(∀ y0 y1 y2 y3 y4 y5 y6 y7 y8,LeO (laws_FnExactFirstOfNumbers.j0 k y0 y1 y2 y3 y4 y5 y6 y7 y8) (laws_FnExactFirstOfNumbers.j0 (k+1) y0 y1 y2 y3 y4 y5 y6 y7 y8))∧(∀ y0 y1 y2 y3 y4 y5 y6,LeO (laws_FnExactFirstOfNumbers.j1 k y0 y1 y2 y3 y4 y5 y6) (laws_FnExactFirstOfNumbers.j1 (k+1) y0 y1 y2 y3 y4 y5 y6))∧(∀ y0 y1 y2 y3,LeO (laws_FnExactFirstOfNumbers.j2 k y0 y1 y2 y3) (laws_FnExactFirstOfNumbers.j2 (k+1) y0 y1 y2 y3))
 | 0=>⟨fun _ _ _ _ _ _ _ _ _ r h=>by simp [laws_FnExactFirstOfNumbers.j0] at h,fun _ _ _ _ _ _ _ r h=>by simp [laws_FnExactFirstOfNumbers.j1] at h,fun _ _ _ _ r h=>by simp [laws_FnExactFirstOfNumbers.j2] at h⟩
 | k+1=>by
  obtain ⟨ih0,ih1,ih2⟩:=laws_FnExactFirstOfNumbers.mono_l k
  refine ⟨?_,?_,?_⟩
  ·intro y0 y1 y2 y3 y4 y5 y6 y7 y8
   unfold laws_FnExactFirstOfNumbers.j0
   repeat' first
   | (with_reducible exact ih0 _ _ _ _ _ _ _ _ _)
   | (with_reducible exact ih1 _ _ _ _ _ _ _)
   | (with_reducible exact ih2 _ _ _ _)
   | (with_reducible exact impl_FirstOfNumbers.mono _ _)
   | (with_reducible exact laws_eqIntS.mono _ _ _)
   | (with_reducible exact laws_eqParty.mono _ _ _ _ _)
   | (with_reducible exact laws_heldParty.mono _ _ _ _)
   | (with_reducible exact laws_markIntS.mono _ _ _)
   | (with_reducible exact laws_markParty.mono _ _ _ _)
   | (with_reducible exact laws_toIntS.mono _ _)
   | (with_reducible exact spec_FirstOfNumbers.mono _ _)
   | (with_reducible exact LeO.refl _)
   | (with_reducible exact LeO.none _)
   | (with_reducible refine LeO.ite ?_ ?_)
   | (with_reducible refine LeO.bind ?_ (fun _=>?_))
   | exact ih0 _ _ _ _ _ _ _ _ _
   | exact ih1 _ _ _ _ _ _ _
   | exact ih2 _ _ _ _
   | exact impl_FirstOfNumbers.mono _ _
   | exact laws_eqIntS.mono _ _ _
   | exact laws_eqParty.mono _ _ _ _ _
   | exact laws_heldParty.mono _ _ _ _
   | exact laws_markIntS.mono _ _ _
   | exact laws_markParty.mono _ _ _ _
   | exact laws_toIntS.mono _ _
   | exact spec_FirstOfNumbers.mono _ _
   | exact LeO.none _
   | refine LeO.ite ?_ ?_
   | refine LeO.bind ?_ (fun _=>?_)
  ·intro y0 y1 y2 y3 y4 y5 y6
   unfold laws_FnExactFirstOfNumbers.j1
   repeat' first
   | (with_reducible exact ih0 _ _ _ _ _ _ _ _ _)
   | (with_reducible exact ih1 _ _ _ _ _ _ _)
   | (with_reducible exact ih2 _ _ _ _)
   | (with_reducible exact impl_FirstOfNumbers.mono _ _)
   | (with_reducible exact laws_eqIntS.mono _ _ _)
   | (with_reducible exact laws_eqParty.mono _ _ _ _ _)
   | (with_reducible exact laws_heldParty.mono _ _ _ _)
   | (with_reducible exact laws_markIntS.mono _ _ _)
   | (with_reducible exact laws_markParty.mono _ _ _ _)
   | (with_reducible exact laws_toIntS.mono _ _)
   | (with_reducible exact spec_FirstOfNumbers.mono _ _)
   | (with_reducible exact LeO.refl _)
   | (with_reducible exact LeO.none _)
   | (with_reducible refine LeO.ite ?_ ?_)
   | (with_reducible refine LeO.bind ?_ (fun _=>?_))
   | exact ih0 _ _ _ _ _ _ _ _ _
   | exact ih1 _ _ _ _ _ _ _
   | exact ih2 _ _ _ _
   | exact impl_FirstOfNumbers.mono _ _
   | exact laws_eqIntS.mono _ _ _
   | exact laws_eqParty.mono _ _ _ _ _
   | exact laws_heldParty.mono _ _ _ _
   | exact laws_markIntS.mono _ _ _
   | exact laws_markParty.mono _ _ _ _
   | exact laws_toIntS.mono _ _
   | exact spec_FirstOfNumbers.mono _ _
   | exact LeO.none _
   | refine LeO.ite ?_ ?_
   | refine LeO.bind ?_ (fun _=>?_)
  ·intro y0 y1 y2 y3
   unfold laws_FnExactFirstOfNumbers.j2
   repeat' first
   | (with_reducible exact ih0 _ _ _ _ _ _ _ _ _)
   | (with_reducible exact ih1 _ _ _ _ _ _ _)
   | (with_reducible exact ih2 _ _ _ _)
   | (with_reducible exact impl_FirstOfNumbers.mono _ _)
   | (with_reducible exact laws_eqIntS.mono _ _ _)
   | (with_reducible exact laws_eqParty.mono _ _ _ _ _)
   | (with_reducible exact laws_heldParty.mono _ _ _ _)
   | (with_reducible exact laws_markIntS.mono _ _ _)
   | (with_reducible exact laws_markParty.mono _ _ _ _)
   | (with_reducible exact laws_toIntS.mono _ _)
   | (with_reducible exact spec_FirstOfNumbers.mono _ _)
   | (with_reducible exact LeO.refl _)
   | (with_reducible exact LeO.none _)
   | (with_reducible refine LeO.ite ?_ ?_)
   | (with_reducible refine LeO.bind ?_ (fun _=>?_))
   | exact ih0 _ _ _ _ _ _ _ _ _
   | exact ih1 _ _ _ _ _ _ _
   | exact ih2 _ _ _ _
   | exact impl_FirstOfNumbers.mono _ _
   | exact laws_eqIntS.mono _ _ _
   | exact laws_eqParty.mono _ _ _ _ _
   | exact laws_heldParty.mono _ _ _ _
   | exact laws_markIntS.mono _ _ _
   | exact laws_markParty.mono _ _ _ _
   | exact laws_toIntS.mono _ _
   | exact spec_FirstOfNumbers.mono _ _
   | exact LeO.none _
   | refine LeO.ite ?_ ?_
   | refine LeO.bind ?_ (fun _=>?_)
theorem laws_FnExactFirstOfNumbers.mono:∀ a0 k,LeO (laws_FnExactFirstOfNumbers.f k a0) (laws_FnExactFirstOfNumbers.f (k+1) a0):=by
 intro a0 k
 obtain ⟨ih0,ih1,ih2⟩:=laws_FnExactFirstOfNumbers.mono_l k
 unfold laws_FnExactFirstOfNumbers.f
 repeat' first
   | (with_reducible exact ih0 _ _ _ _ _ _ _ _ _)
   | (with_reducible exact ih1 _ _ _ _ _ _ _)
   | (with_reducible exact ih2 _ _ _ _)
   | (with_reducible exact impl_FirstOfNumbers.mono _ _)
   | (with_reducible exact laws_eqIntS.mono _ _ _)
   | (with_reducible exact laws_eqParty.mono _ _ _ _ _)
   | (with_reducible exact laws_heldParty.mono _ _ _ _)
   | (with_reducible exact laws_markIntS.mono _ _ _)
   | (with_reducible exact laws_markParty.mono _ _ _ _)
   | (with_reducible exact laws_toIntS.mono _ _)
   | (with_reducible exact spec_FirstOfNumbers.mono _ _)
   | (with_reducible exact LeO.refl _)
   | (with_reducible exact LeO.none _)
   | (with_reducible refine LeO.ite ?_ ?_)
   | (with_reducible refine LeO.bind ?_ (fun _=>?_))
   | exact ih0 _ _ _ _ _ _ _ _ _
   | exact ih1 _ _ _ _ _ _ _
   | exact ih2 _ _ _ _
   | exact impl_FirstOfNumbers.mono _ _
   | exact laws_eqIntS.mono _ _ _
   | exact laws_eqParty.mono _ _ _ _ _
   | exact laws_heldParty.mono _ _ _ _
   | exact laws_markIntS.mono _ _ _
   | exact laws_markParty.mono _ _ _ _
   | exact laws_toIntS.mono _ _
   | exact spec_FirstOfNumbers.mono _ _
   | exact LeO.none _
   | refine LeO.ite ?_ ?_
   | refine LeO.bind ?_ (fun _=>?_)
set_option maxHeartbeats 8000000 in
set_option maxRecDepth 100000 in
theorem laws_FnExactFirstOfNumbers.calls (k:Nat) (A0:Option Addr) (c0:Nat) (l0:List Int) (r:Bool) (w:World) (hr0:Kd.C (Kd.int .i64) w A0 l0.length l0) (hc0:l0.length≤c0) (h:laws_FnExactFirstOfNumbers.f k l0=some r) :
  Calls Try.prog 5 #[.slice A0 l0.length c0] w fun e w'=>e=.returned (.bool r)∧Below w.heap.size w w':=by
 have hu32:=Try.underlying32
 have HR0:=zz31 hr0
 have HC0:=zz31 hc0
 clear hr0 hc0
 have HB:=zz31 (Below.refl w.heap.size w)
 have H:(if (l0.length:Int) > 1048576 then (some true) else ((laws_toIntS.f k l0).bind fun t199=>((spec_FirstOfNumbers.f k t199).bind fun bt202=>((laws_toIntS.f k l0).bind fun t208=>((impl_FirstOfNumbers.f k t208).bind fun bt211=>((laws_eqParty.f k bt211.1 bt211.2.1 bt202.1 bt202.2.1).bind fun t217=>(if t217=true then (laws_FnExactFirstOfNumbers.j0 k l0 bt202.2.2 t208 bt211.2.2 (bt211.2.2 != bt202.2.2) bt202.1 bt202.2.1 bt211.1 bt211.2.1) else (laws_FnExactFirstOfNumbers.j0 k l0 bt202.2.2 t208 bt211.2.2 true bt202.1 bt202.2.1 bt211.1 bt211.2.1))))))))=some r:=h
 clear h
 by_cases c2:(l0.length:Int) > 1048576
 ·rw [if_pos c2] at H
  have c2b0:decide (1048576 < (l0.length:Int))=true:=decide_eq_true c2
  have c2b1:decide (1048576 < l0.length)=true:=decide_eq_true (by omega)
  clear c2
  obtain rfl:=Option.some.inj H
  go_enter Try.func5,Try.ntmps5
  go_wp2
  go_ret
  exact ⟨by first | rfl | (simp [errW_none,errW_some] <;> rfl) | (simp [*,errW_none,errW_some] <;> rfl),by repeat first | exact HB.out | apply zz2 | apply zz0 | apply zz1⟩
 ·rw [if_neg c2] at H
  have c2b0:decide (1048576 < (l0.length:Int))=false:=decide_eq_false c2
  have c2b1:decide (1048576 < l0.length)=false:=decide_eq_false (by omega)
  clear c2
  replace H:=zz30.mp H
  obtain ⟨t199,A30,H⟩:=H
  replace H:((spec_FirstOfNumbers.f k t199).bind fun bt202=>((laws_toIntS.f k l0).bind fun t208=>((impl_FirstOfNumbers.f k t208).bind fun bt211=>((laws_eqParty.f k bt211.1 bt211.2.1 bt202.1 bt202.2.1).bind fun t217=>(if t217=true then (laws_FnExactFirstOfNumbers.j0 k l0 bt202.2.2 t208 bt211.2.2 (bt211.2.2 != bt202.2.2) bt202.1 bt202.2.1 bt211.1 bt211.2.1) else (laws_FnExactFirstOfNumbers.j0 k l0 bt202.2.2 t208 bt211.2.2 true bt202.1 bt202.2.1 bt211.1 bt211.2.1))))))=some r:=H
  have A3:=zz31 A30
  clear A30
  replace H:=zz30.mp H
  obtain ⟨⟨t202,t203,t206⟩,A40,H⟩:=H
  replace H:((laws_toIntS.f k l0).bind fun t208=>((impl_FirstOfNumbers.f k t208).bind fun bt211=>((laws_eqParty.f k bt211.1 bt211.2.1 t202 t203).bind fun t217=>(if t217=true then (laws_FnExactFirstOfNumbers.j0 k l0 t206 t208 bt211.2.2 (bt211.2.2 != t206) t202 t203 bt211.1 bt211.2.1) else (laws_FnExactFirstOfNumbers.j0 k l0 t206 t208 bt211.2.2 true t202 t203 bt211.1 bt211.2.1)))))=some r:=H
  have A4:=zz31 A40
  clear A40
  replace H:=zz30.mp H
  obtain ⟨t208,A50,H⟩:=H
  replace H:((impl_FirstOfNumbers.f k t208).bind fun bt211=>((laws_eqParty.f k bt211.1 bt211.2.1 t202 t203).bind fun t217=>(if t217=true then (laws_FnExactFirstOfNumbers.j0 k l0 t206 t208 bt211.2.2 (bt211.2.2 != t206) t202 t203 bt211.1 bt211.2.1) else (laws_FnExactFirstOfNumbers.j0 k l0 t206 t208 bt211.2.2 true t202 t203 bt211.1 bt211.2.1))))=some r:=H
  have A5:=zz31 A50
  clear A50
  replace H:=zz30.mp H
  obtain ⟨⟨t211,t212,t215⟩,A60,H⟩:=H
  replace H:((laws_eqParty.f k t211 t212 t202 t203).bind fun t217=>(if t217=true then (laws_FnExactFirstOfNumbers.j0 k l0 t206 t208 t215 (t215 != t206) t202 t203 t211 t212) else (laws_FnExactFirstOfNumbers.j0 k l0 t206 t208 t215 true t202 t203 t211 t212)))=some r:=H
  have A6:=zz31 A60
  clear A60
  have HC7:=zz31 H
  clear H
  go_enter Try.func5,Try.ntmps5
  go_upto_region 6 with (first | ((with_reducible refine gate_callee (f:=15) rfl ?_);refine goesL_ (some 18) rfl rfl Try.func15 (by kernel_rfl) rfl #[.slice A0 l0.length c0] rfl (by (try simp only [zz26,zz27,zz28]);first | done | rfl | (simp only [zz24,zz25];rfl)) ?_;(with_reducible refine (laws_toIntS.calls k _ _ l0 t199 _ ?side1 ?side2 A3.out).mono ?_);(case side1=>repeat (first | exact HR0.out | (with_reducible refine zz18 ?_ _) | (with_reducible refine zz19 ?_ _) | (with_reducible refine zz20 ?_)));(case side2=>exact HC0.out);rintro e w8 ⟨v200,rfl,ho0,hb⟩;refine ⟨_,rfl,?_⟩;have n0_:=zz31 (Kd.R_lower ho0 (zz5 (by repeat first | exact HB.out | apply zz2 | apply zz0 | apply zz1)));have n1_:=zz31 (zz4 (by repeat first | exact HB.out | apply zz2 | apply zz0 | apply zz1) hb);clear HB;have HO201:=n0_;have HB:=n1_;clear n0_ n1_;(try clear hb);(try clear hb2);(try clear hk);(try clear hi);(try clear ho0);obtain ⟨Ao9,co9,eo9⟩:=Kd.R_slice HO201.out;subst eo9) | ((with_reducible refine gate_callee (f:=20) rfl ?_);refine goesL_ (some 19) rfl rfl Try.func20 (by kernel_rfl) rfl #[.slice Ao9 t199.length co9] rfl (by (try simp only [zz26,zz27,zz28]);first | done | rfl | (simp only [zz24,zz25];rfl)) ?_;(with_reducible refine (spec_FirstOfNumbers.calls k _ _ t199 t202 t203 t206 _ ?side1 ?side2 A4.out).mono ?_);(case side1=>repeat (first | exact (Kd.R_reads' HO201.out).2.2 | (with_reducible refine zz18 ?_ _) | (with_reducible refine zz19 ?_ _) | (with_reducible refine zz20 ?_)));(case side2=>exact (Kd.R_reads' HO201.out).2.1);rintro e w10 ⟨v204,rfl,ho0,hb⟩;refine ⟨_,rfl,?_⟩;have n0_:=zz31 (Kd.R_below (by (with_reducible repeat (first | apply zz12 | apply zz13 | apply zz14));exact HO201.out) hb);have n1_:=zz31 (Kd.R_lower ho0 (zz5 (by repeat first | exact HB.out | apply zz2 | apply zz0 | apply zz1)));have n2_:=zz31 (zz4 (by repeat first | exact HB.out | apply zz2 | apply zz0 | apply zz1) hb);clear HO201;clear HB;have HO201:=n0_;have HO205:=n1_;have HB:=n2_;clear n0_ n1_ n2_;(try clear hb);(try clear hb2);(try clear hk);(try clear hi);(try clear ho0)) | ((with_reducible refine gate_dst (N:=3) rfl ?_);refine box_event ?hg (N:=3) ?hd (cs:=#[.int .i64 0,.slice none 0 0]) (t:=32) ?hr ?_;(case hd=>rfl);(case hg=>rfl);(case hr=>first | (go_simp;done) | (go_simp;rfl));intro gb207 hg w11 hbox hb;have n0_:=zz31 (Kd.R_below (by (with_reducible repeat (first | apply zz12 | apply zz13 | apply zz14));exact HO201.out) hb);have n1_:=zz31 (Kd.R_below (by (with_reducible repeat (first | apply zz12 | apply zz13 | apply zz14));exact HO205.out) hb);have n2_:=zz31 (zz4 (by repeat first | exact HB.out | apply zz2 | apply zz0 | apply zz1) hb);have n3_:=zz31 (hbox);have n4_:=zz31 ((by rw [hg];exact (zz5 (by repeat first | exact HB.out | apply zz2 | apply zz0 | apply zz1)):w.heap.size≤gb207));have n5_:=zz31 ((by rw [hg];exact (zz5 (by repeat first | exact HB.out | apply zz2 | apply zz0 | apply zz1)):w.heap.size≤gb207));clear HO201;clear HO205;clear HB;have HO201:=n0_;have HO205:=n1_;have HB:=n2_;have BK207:=n3_;have GW207:=n4_;have GE207:=n5_;clear n0_ n1_ n2_ n3_ n4_ n5_;clear hb hbox hg;have hcz12_0:w11.cell? ⟨gb207,0,none⟩=some (.int .i64 0):=(zz9 BK207.out 0).trans rfl;have hcz12_1:w11.cell? ⟨gb207,1,none⟩=some (.slice none 0 0):=(zz9 BK207.out 1).trans rfl;have hfz12_0:=zz10 BK207.out 0;have hfz12_1:=zz10 BK207.out 1;obtain ⟨Ao13,co13,eo13⟩:=Kd.R_slice HO205.out;subst eo13) | ((with_reducible refine gate_callee (f:=15) rfl ?_);refine goesL_ (some 23) rfl rfl Try.func15 (by kernel_rfl) rfl #[.slice A0 l0.length c0] rfl (by (try simp only [zz26,zz27,zz28]);first | done | rfl | (simp only [zz24,zz25];rfl)) ?_;(with_reducible refine (laws_toIntS.calls k _ _ l0 t208 _ ?side1 ?side2 A5.out).mono ?_);(case side1=>exact Kd.C_below HR0.out (by repeat first | exact HB.out | apply zz2 | apply zz0 | apply zz1 | refine zz3 ?_ GE207.out));(case side2=>exact HC0.out);rintro e w14 ⟨v209,rfl,ho0,hb⟩;refine ⟨_,rfl,?_⟩;have n0_:=zz31 (Kd.R_elder' (by (with_reducible repeat (first | apply zz12 | apply zz13 | apply zz14));exact (Kd.R_mono (Kd.R_far (p:=⟨gb207,1,none⟩) (Kd.R_far (p:=⟨gb207,0,none⟩) (Kd.R_types HO201.out BK207.out (by decide)) (fun _ hk=>hk.2) (.int .i64 t202)) (fun _ hk=>hk.2) (.slice Ao13 t203.length co13)) (fun _ h_=>h_.1))) (Kd.R_base ho0) hb);have n1_:=zz31 (Kd.R_below (by (with_reducible repeat (first | apply zz12 | apply zz13 | apply zz14));exact (Kd.R_mono (Kd.R_far (p:=⟨gb207,1,none⟩) (Kd.R_far (p:=⟨gb207,0,none⟩) (Kd.R_types HO205.out BK207.out (by decide)) (fun _ hk=>hk.2) (.int .i64 t202)) (fun _ hk=>hk.2) (.slice Ao13 t203.length co13)) (fun _ h_=>h_.1))) hb);have n2_:=zz31 (Kd.R_lower (Kd.R_new' ho0 (Kd.R_lt (by (with_reducible repeat (first | apply zz12 | apply zz13 | apply zz14));exact (Kd.R_mono (Kd.R_far (p:=⟨gb207,1,none⟩) (Kd.R_far (p:=⟨gb207,0,none⟩) (Kd.R_types HO201.out BK207.out (by decide)) (fun _ hk=>hk.2) (.int .i64 t202)) (fun _ hk=>hk.2) (.slice Ao13 t203.length co13)) (fun _ h_=>h_.1))))) (zz5 (by repeat first | exact HB.out | apply zz2 | apply zz0 | apply zz1 | refine zz3 ?_ GE207.out)));have n3_:=zz31 (zz11 (g:=gb207) (o:=.cells #[.int .i64 t202,.slice Ao13 t203.length co13] 32 (0,0)) (by (with_reducible repeat (first | refine zz6 ?_ _ | refine zz7 ?_ | refine zz8 ?_ _));refine blk_put (cs:=#[.int .i64 t202,.slice none 0 0]) ?_ 1 _ rfl;(with_reducible repeat (first | refine zz6 ?_ _ | refine zz7 ?_ | refine zz8 ?_ _));refine blk_put (cs:=#[.int .i64 0,.slice none 0 0]) ?_ 0 _ rfl;(with_reducible repeat (first | refine zz6 ?_ _ | refine zz7 ?_ | refine zz8 ?_ _));exact BK207.out) hb);have n4_:=zz31 (zz4 (by repeat first | exact HB.out | apply zz2 | apply zz0 | apply zz1 | refine zz3 ?_ GE207.out) hb);clear HO201;clear HO205;clear BK207;clear HB;have HO201:=n0_;have HO205:=n1_;have HO210:=n2_;have BK207:=n3_;have HB:=n4_;clear n0_ n1_ n2_ n3_ n4_;(try clear hb);(try clear hb2);(try clear hk);(try clear hi);(try clear ho0);obtain ⟨Ao15,co15,eo15⟩:=Kd.R_slice HO210.out;subst eo15) | ((with_reducible refine gate_callee (f:=21) rfl ?_);refine goesL_ (some 26) rfl rfl Try.func21 (by kernel_rfl) rfl #[.slice Ao15 t208.length co15] rfl (by (try simp only [zz26,zz27,zz28]);first | done | rfl | (simp only [zz24,zz25];rfl)) ?_;(with_reducible refine (impl_FirstOfNumbers.calls k _ _ t208 t211 t212 t215 _ ?side1 ?side2 A6.out).mono ?_);(case side1=>repeat (first | exact (Kd.R_reads' HO210.out).2.2 | (with_reducible refine zz18 ?_ _) | (with_reducible refine zz19 ?_ _) | (with_reducible refine zz20 ?_)));(case side2=>exact (Kd.R_reads' HO210.out).2.1);rintro e w16 ⟨v213,rfl,ho0,hb⟩;refine ⟨_,rfl,?_⟩;have n0_:=zz31 (Kd.R_below (by (with_reducible repeat (first | apply zz12 | apply zz13 | apply zz14));exact HO201.out) hb);have n1_:=zz31 (Kd.R_elder' (by (with_reducible repeat (first | apply zz12 | apply zz13 | apply zz14));exact HO205.out) (Kd.R_base ho0) hb);have n2_:=zz31 (Kd.R_below (by (with_reducible repeat (first | apply zz12 | apply zz13 | apply zz14));exact HO210.out) hb);have n3_:=zz31 (Kd.R_lower (Kd.R_new' ho0 (Kd.R_lt (by (with_reducible repeat (first | apply zz12 | apply zz13 | apply zz14));exact HO205.out))) (zz5 (by repeat first | exact HB.out | apply zz2 | apply zz0 | apply zz1 | refine zz3 ?_ GE207.out)));have n4_:=zz31 (zz11 (g:=gb207) (o:=.cells #[.int .i64 t202,.slice Ao13 t203.length co13] 32 (0,0)) (by (with_reducible repeat (first | refine zz6 ?_ _ | refine zz7 ?_ | refine zz8 ?_ _));exact BK207.out) hb);have n5_:=zz31 (zz4 (by repeat first | exact HB.out | apply zz2 | apply zz0 | apply zz1 | refine zz3 ?_ GE207.out) hb);clear HO201;clear HO205;clear HO210;clear BK207;clear HB;have HO201:=n0_;have HO205:=n1_;have HO210:=n2_;have HO214:=n3_;have BK207:=n4_;have HB:=n5_;clear n0_ n1_ n2_ n3_ n4_ n5_;(try clear hb);(try clear hb2);(try clear hk);(try clear hi);(try clear ho0)) | ((with_reducible refine gate_dst (N:=6) rfl ?_);refine box_event ?hg (N:=6) ?hd (cs:=#[.int .i64 0,.slice none 0 0]) (t:=32) ?hr ?_;(case hd=>rfl);(case hg=>rfl);(case hr=>first | (go_simp;done) | (go_simp;rfl));intro gb216 hg w17 hbox hb;have n0_:=zz31 (Kd.R_below (by (with_reducible repeat (first | apply zz12 | apply zz13 | apply zz14));exact HO201.out) hb);have n1_:=zz31 (Kd.R_below (by (with_reducible repeat (first | apply zz12 | apply zz13 | apply zz14));exact HO205.out) hb);have n2_:=zz31 (Kd.R_below (by (with_reducible repeat (first | apply zz12 | apply zz13 | apply zz14));exact HO210.out) hb);have n3_:=zz31 (Kd.R_below (by (with_reducible repeat (first | apply zz12 | apply zz13 | apply zz14));exact HO214.out) hb);have n4_:=zz31 (zz11 (g:=gb207) (o:=.cells #[.int .i64 t202,.slice Ao13 t203.length co13] 32 (0,0)) (by (with_reducible repeat (first | refine zz6 ?_ _ | refine zz7 ?_ | refine zz8 ?_ _));exact BK207.out) hb);have n5_:=zz31 (zz4 (by repeat first | exact HB.out | apply zz2 | apply zz0 | apply zz1 | refine zz3 ?_ GE207.out) hb);have n6_:=zz31 (hbox);have n7_:=zz31 ((by rw [hg];exact (zz5 (by repeat first | exact HB.out | apply zz2 | apply zz0 | apply zz1 | refine zz3 ?_ GE207.out)):w.heap.size≤gb216));have n8_:=zz31 ((by rw [hg];exact (zz5 (by repeat first | exact HB.out | apply zz2 | apply zz0 | apply zz1 | refine zz3 ?_ GE207.out)):w.heap.size≤gb216));have n9_:=zz31 ((by rw [hg];exact Nat.ne_of_lt (blk_lt (g:=gb207) (o:=.cells #[.int .i64 t202,.slice Ao13 t203.length co13] 32 (0,0)) (by (with_reducible repeat (first | refine zz6 ?_ _ | refine zz7 ?_ | refine zz8 ?_ _));exact BK207.out)):gb207 ≠ gb216));have n10_:=zz31 ((by rw [hg];exact Nat.ne_of_gt (blk_lt (g:=gb207) (o:=.cells #[.int .i64 t202,.slice Ao13 t203.length co13] 32 (0,0)) (by (with_reducible repeat (first | refine zz6 ?_ _ | refine zz7 ?_ | refine zz8 ?_ _));exact BK207.out)):gb216 ≠ gb207));clear HO201;clear HO205;clear HO210;clear HO214;clear BK207;clear HB;have HO201:=n0_;have HO205:=n1_;have HO210:=n2_;have HO214:=n3_;have BK207:=n4_;have HB:=n5_;have BK216:=n6_;have GW216:=n7_;have GE216:=n8_;have NB207_216:=n9_;have NB216_207:=n10_;clear n0_ n1_ n2_ n3_ n4_ n5_ n6_ n7_ n8_ n9_ n10_;clear hb hbox hg;have hnb18:=NB216_207.out;have hnc18:=NB207_216.out;have hcz19_0:w17.cell? ⟨gb216,0,none⟩=some (.int .i64 0):=(zz9 BK216.out 0).trans rfl;have hcz19_1:w17.cell? ⟨gb216,1,none⟩=some (.slice none 0 0):=(zz9 BK216.out 1).trans rfl;have hfz19_0:=zz10 BK216.out 0;have hfz19_1:=zz10 BK216.out 1;obtain ⟨Ao20,co20,eo20⟩:=Kd.R_slice HO214.out;subst eo20))
  (try simp only [Act.put,zz21,zz22,zz23])
  go_cut [37] (fun v37 wc=>∃ (kq:Nat) (x37_6:Bool),v37=.bool x37_6∧Aside0 (laws_FnExactFirstOfNumbers.j0 kq l0 t206 t208 t215 x37_6 t202 t203 t211 t212=some r)∧Aside0 (kq≤k)∧Aside0 (Kd.R (Kd.int .i64) 3 wc w.heap.size (fun _=>True) (.slice Ao15 t208.length co15) t208)∧Aside0 (Kd.R k80 80 wc w.heap.size (fun k_=>some k_ ≠ ((.slice Ao20 t212.length co20):Value).ownBlock) (.slice Ao13 t203.length co13) t203)∧Aside0 (Kd.R k80 80 wc w.heap.size (fun k_=>some k_ ≠ ((.slice Ao13 t203.length co13):Value).ownBlock) (.slice Ao20 t212.length co20) t212)∧Aside0 (wc.heap[gb207]?=some (.cells #[.int .i64 t202,(.slice Ao13 t203.length co13)] 32 (0,0)))∧Aside0 (wc.heap[gb216]?=some (.cells #[.int .i64 t211,(.slice Ao20 t212.length co20)] 32 (0,0)))∧Aside0 (Below w.heap.size w wc))
  case first =>
   have H:=HC7.out
   clear HC7
   replace H:=zz30.mp H
   obtain ⟨t217,A210,H⟩:=H
   replace H:(if t217=true then (laws_FnExactFirstOfNumbers.j0 k l0 t206 t208 t215 (t215 != t206) t202 t203 t211 t212) else (laws_FnExactFirstOfNumbers.j0 k l0 t206 t208 t215 true t202 t203 t211 t212))=some r:=H
   have A21:=zz31 A210
   clear A210
   by_cases c22:t217=true
   ·subst c22
    have H1:(laws_FnExactFirstOfNumbers.j0 k l0 t206 t208 t215 (t215 != t206) t202 t203 t211 t212)=some r:=by rw [if_pos rfl] at H;exact H
    clear H
    have H:=H1
    clear H1
    have H':=zz31 H
    clear H
    have hnb23:=NB216_207.out
    have hnc23:=NB207_216.out
    have hcz24_0:w17.cell? ⟨gb216,0,none⟩=some (.int .i64 0):=(zz9 BK216.out 0).trans rfl
    have hcz24_1:w17.cell? ⟨gb216,1,none⟩=some (.slice none 0 0):=(zz9 BK216.out 1).trans rfl
    have hfz24_0:=zz10 BK216.out 0
    have hfz24_1:=zz10 BK216.out 1
    have hcz25_0:w17.cell? ⟨gb207,0,none⟩=some (.int .i64 t202):=(zz9 BK207.out 0).trans rfl
    have hcz25_1:w17.cell? ⟨gb207,1,none⟩=some (.slice Ao13 t203.length co13):=(zz9 BK207.out 1).trans rfl
    have hfz25_0:=zz10 BK207.out 0
    have hfz25_1:=zz10 BK207.out 1
    go_wp2_with (first | ((with_reducible refine gate_callee (f:=22) rfl ?_);refine goesL_ (some 31) rfl rfl Try.func22 (by kernel_rfl) rfl #[.agg #[.int .i64 t211,.slice Ao20 t212.length co20],.agg #[.int .i64 t202,.slice Ao13 t203.length co13]] rfl (by (try simp only [zz26,zz27,zz28]);first | done | rfl | (simp only [zz24,zz25];rfl)) ?_;(with_reducible refine (laws_eqParty.calls k t211 _ _ t212 t202 _ _ t203 true _ ?side1 ?side2 ?side3 ?side4 A21.out).mono ?_);(case side1=>refine (Kd.R_reads' (e:=80) (base:=w.heap.size) (ok:=fun k_=>(True∧some k_ ≠ (.slice Ao13 t203.length co13:Value).ownBlock)) (n:=t212.length) (c:=co20) ?_).2.2;exact (by (with_reducible repeat (first | apply zz12 | apply zz13 | apply zz14));exact (Kd.R_mono (Kd.R_far (p:=⟨gb216,1,none⟩) (Kd.R_far (p:=⟨gb216,0,none⟩) (Kd.R_types HO214.out BK216.out (by decide)) (fun _ hk=>hk.2) (.int .i64 t211)) (fun _ hk=>hk.2) (.slice Ao20 t212.length co20)) (fun _ h_=>h_.1))));(case side2=>exact (Kd.R_reads' HO214.out).2.1);(case side3=>refine (Kd.R_reads' (e:=80) (base:=w.heap.size) (ok:=fun k_=>(True∧some k_ ≠ (.slice Ao20 t212.length co20:Value).ownBlock)) (n:=t203.length) (c:=co13) ?_).2.2;exact (by (with_reducible repeat (first | apply zz12 | apply zz13 | apply zz14));exact (Kd.R_mono (Kd.R_far (p:=⟨gb216,1,none⟩) (Kd.R_far (p:=⟨gb216,0,none⟩) (Kd.R_types HO205.out BK216.out (by decide)) (fun _ hk=>hk.2) (.int .i64 t211)) (fun _ hk=>hk.2) (.slice Ao20 t212.length co20)) (fun _ h_=>h_.1))));(case side4=>exact (Kd.R_reads' HO205.out).2.1);rintro e w26 ⟨rfl,hb⟩;refine ⟨_,rfl,?_⟩;have n0_:=zz31 (Kd.R_below (by (with_reducible repeat (first | apply zz12 | apply zz13 | apply zz14));exact (Kd.R_mono (Kd.R_far (p:=⟨gb216,1,none⟩) (Kd.R_far (p:=⟨gb216,0,none⟩) (Kd.R_types HO201.out BK216.out (by decide)) (fun _ hk=>hk.2) (.int .i64 t211)) (fun _ hk=>hk.2) (.slice Ao20 t212.length co20)) (fun _ h_=>h_.1))) hb);have n1_:=zz31 (Kd.R_below (by (with_reducible repeat (first | apply zz12 | apply zz13 | apply zz14));exact (Kd.R_mono (Kd.R_far (p:=⟨gb216,1,none⟩) (Kd.R_far (p:=⟨gb216,0,none⟩) (Kd.R_types HO205.out BK216.out (by decide)) (fun _ hk=>hk.2) (.int .i64 t211)) (fun _ hk=>hk.2) (.slice Ao20 t212.length co20)) (fun _ h_=>h_.1))) hb);have n2_:=zz31 (Kd.R_below (by (with_reducible repeat (first | apply zz12 | apply zz13 | apply zz14));exact (Kd.R_mono (Kd.R_far (p:=⟨gb216,1,none⟩) (Kd.R_far (p:=⟨gb216,0,none⟩) (Kd.R_types HO210.out BK216.out (by decide)) (fun _ hk=>hk.2) (.int .i64 t211)) (fun _ hk=>hk.2) (.slice Ao20 t212.length co20)) (fun _ h_=>h_.1))) hb);have n3_:=zz31 (Kd.R_below (by (with_reducible repeat (first | apply zz12 | apply zz13 | apply zz14));exact (Kd.R_mono (Kd.R_far (p:=⟨gb216,1,none⟩) (Kd.R_far (p:=⟨gb216,0,none⟩) (Kd.R_types HO214.out BK216.out (by decide)) (fun _ hk=>hk.2) (.int .i64 t211)) (fun _ hk=>hk.2) (.slice Ao20 t212.length co20)) (fun _ h_=>h_.1))) hb);have n4_:=zz31 (zz11 (g:=gb207) (o:=.cells #[.int .i64 t202,.slice Ao13 t203.length co13] 32 (0,0)) (by (with_reducible repeat (first | refine zz6 ?_ _ | refine zz7 ?_ | refine zz8 ?_ _));refine blk_far ?_ NB207_216.out _;(with_reducible repeat (first | refine zz6 ?_ _ | refine zz7 ?_ | refine zz8 ?_ _));refine blk_far ?_ NB207_216.out _;(with_reducible repeat (first | refine zz6 ?_ _ | refine zz7 ?_ | refine zz8 ?_ _));exact BK207.out) hb);have n5_:=zz31 (zz11 (g:=gb216) (o:=.cells #[.int .i64 t211,.slice Ao20 t212.length co20] 32 (0,0)) (by (with_reducible repeat (first | refine zz6 ?_ _ | refine zz7 ?_ | refine zz8 ?_ _));refine blk_put (cs:=#[.int .i64 t211,.slice none 0 0]) ?_ 1 _ rfl;(with_reducible repeat (first | refine zz6 ?_ _ | refine zz7 ?_ | refine zz8 ?_ _));refine blk_put (cs:=#[.int .i64 0,.slice none 0 0]) ?_ 0 _ rfl;(with_reducible repeat (first | refine zz6 ?_ _ | refine zz7 ?_ | refine zz8 ?_ _));exact BK216.out) hb);have n6_:=zz31 (zz4 (by repeat first | exact HB.out | apply zz2 | apply zz0 | apply zz1 | refine zz3 ?_ GE207.out | refine zz3 ?_ GE216.out) hb);clear HO201;clear HO205;clear HO210;clear HO214;clear BK207;clear BK216;clear HB;have HO201:=n0_;have HO205:=n1_;have HO210:=n2_;have HO214:=n3_;have BK207:=n4_;have BK216:=n5_;have HB:=n6_;clear n0_ n1_ n2_ n3_ n4_ n5_ n6_;(try clear hb);(try clear hb2);(try clear hk);(try clear hi)))
    go_meet
    case rel=>exact ⟨_,((t215 != t206)),(by first | rfl | (simp;done) | (simp [*];done)),H',⟨by first | omega | exact Nat.le_refl _⟩,⟨by (with_reducible repeat (first | apply zz12 | apply zz13 | apply zz14));exact Kd.R_mono HO210.out (fun _ hk=>trivial)⟩,⟨by (with_reducible repeat (first | apply zz12 | apply zz13 | apply zz14));exact Kd.R_mono HO205.out (fun _ hk=>hk.2)⟩,⟨by (with_reducible repeat (first | apply zz12 | apply zz13 | apply zz14));exact Kd.R_mono HO214.out (fun _ hk=>hk.2)⟩,⟨by (with_reducible repeat (first | refine zz6 ?_ _ | refine zz7 ?_ | refine zz8 ?_ _));exact BK207.out⟩,⟨by (with_reducible repeat (first | refine zz6 ?_ _ | refine zz7 ?_ | refine zz8 ?_ _));exact BK216.out⟩,⟨by repeat first | exact HB.out | apply zz2 | apply zz0 | apply zz1 | refine zz3 ?_ GE207.out | refine zz3 ?_ GE216.out⟩⟩
   ·replace c22:=Bool.eq_false_iff.mpr c22
    subst c22
    have H1:(laws_FnExactFirstOfNumbers.j0 k l0 t206 t208 t215 true t202 t203 t211 t212)=some r:=by rw [if_neg (show ¬ (false=true) by decide)] at H;exact H
    clear H
    have H:=H1
    clear H1
    have H':=zz31 H
    clear H
    have hnb27:=NB216_207.out
    have hnc27:=NB207_216.out
    have hcz28_0:w17.cell? ⟨gb216,0,none⟩=some (.int .i64 0):=(zz9 BK216.out 0).trans rfl
    have hcz28_1:w17.cell? ⟨gb216,1,none⟩=some (.slice none 0 0):=(zz9 BK216.out 1).trans rfl
    have hfz28_0:=zz10 BK216.out 0
    have hfz28_1:=zz10 BK216.out 1
    have hcz29_0:w17.cell? ⟨gb207,0,none⟩=some (.int .i64 t202):=(zz9 BK207.out 0).trans rfl
    have hcz29_1:w17.cell? ⟨gb207,1,none⟩=some (.slice Ao13 t203.length co13):=(zz9 BK207.out 1).trans rfl
    have hfz29_0:=zz10 BK207.out 0
    have hfz29_1:=zz10 BK207.out 1
    go_wp2_with (first | ((with_reducible refine gate_callee (f:=22) rfl ?_);refine goesL_ (some 31) rfl rfl Try.func22 (by kernel_rfl) rfl #[.agg #[.int .i64 t211,.slice Ao20 t212.length co20],.agg #[.int .i64 t202,.slice Ao13 t203.length co13]] rfl (by (try simp only [zz26,zz27,zz28]);first | done | rfl | (simp only [zz24,zz25];rfl)) ?_;(with_reducible refine (laws_eqParty.calls k t211 _ _ t212 t202 _ _ t203 false _ ?side1 ?side2 ?side3 ?side4 A21.out).mono ?_);(case side1=>refine (Kd.R_reads' (e:=80) (base:=w.heap.size) (ok:=fun k_=>(True∧some k_ ≠ (.slice Ao13 t203.length co13:Value).ownBlock)) (n:=t212.length) (c:=co20) ?_).2.2;exact (by (with_reducible repeat (first | apply zz12 | apply zz13 | apply zz14));exact (Kd.R_mono (Kd.R_far (p:=⟨gb216,1,none⟩) (Kd.R_far (p:=⟨gb216,0,none⟩) (Kd.R_types HO214.out BK216.out (by decide)) (fun _ hk=>hk.2) (.int .i64 t211)) (fun _ hk=>hk.2) (.slice Ao20 t212.length co20)) (fun _ h_=>h_.1))));(case side2=>exact (Kd.R_reads' HO214.out).2.1);(case side3=>refine (Kd.R_reads' (e:=80) (base:=w.heap.size) (ok:=fun k_=>(True∧some k_ ≠ (.slice Ao20 t212.length co20:Value).ownBlock)) (n:=t203.length) (c:=co13) ?_).2.2;exact (by (with_reducible repeat (first | apply zz12 | apply zz13 | apply zz14));exact (Kd.R_mono (Kd.R_far (p:=⟨gb216,1,none⟩) (Kd.R_far (p:=⟨gb216,0,none⟩) (Kd.R_types HO205.out BK216.out (by decide)) (fun _ hk=>hk.2) (.int .i64 t211)) (fun _ hk=>hk.2) (.slice Ao20 t212.length co20)) (fun _ h_=>h_.1))));(case side4=>exact (Kd.R_reads' HO205.out).2.1);rintro e w30 ⟨rfl,hb⟩;refine ⟨_,rfl,?_⟩;have n0_:=zz31 (Kd.R_below (by (with_reducible repeat (first | apply zz12 | apply zz13 | apply zz14));exact (Kd.R_mono (Kd.R_far (p:=⟨gb216,1,none⟩) (Kd.R_far (p:=⟨gb216,0,none⟩) (Kd.R_types HO201.out BK216.out (by decide)) (fun _ hk=>hk.2) (.int .i64 t211)) (fun _ hk=>hk.2) (.slice Ao20 t212.length co20)) (fun _ h_=>h_.1))) hb);have n1_:=zz31 (Kd.R_below (by (with_reducible repeat (first | apply zz12 | apply zz13 | apply zz14));exact (Kd.R_mono (Kd.R_far (p:=⟨gb216,1,none⟩) (Kd.R_far (p:=⟨gb216,0,none⟩) (Kd.R_types HO205.out BK216.out (by decide)) (fun _ hk=>hk.2) (.int .i64 t211)) (fun _ hk=>hk.2) (.slice Ao20 t212.length co20)) (fun _ h_=>h_.1))) hb);have n2_:=zz31 (Kd.R_below (by (with_reducible repeat (first | apply zz12 | apply zz13 | apply zz14));exact (Kd.R_mono (Kd.R_far (p:=⟨gb216,1,none⟩) (Kd.R_far (p:=⟨gb216,0,none⟩) (Kd.R_types HO210.out BK216.out (by decide)) (fun _ hk=>hk.2) (.int .i64 t211)) (fun _ hk=>hk.2) (.slice Ao20 t212.length co20)) (fun _ h_=>h_.1))) hb);have n3_:=zz31 (Kd.R_below (by (with_reducible repeat (first | apply zz12 | apply zz13 | apply zz14));exact (Kd.R_mono (Kd.R_far (p:=⟨gb216,1,none⟩) (Kd.R_far (p:=⟨gb216,0,none⟩) (Kd.R_types HO214.out BK216.out (by decide)) (fun _ hk=>hk.2) (.int .i64 t211)) (fun _ hk=>hk.2) (.slice Ao20 t212.length co20)) (fun _ h_=>h_.1))) hb);have n4_:=zz31 (zz11 (g:=gb207) (o:=.cells #[.int .i64 t202,.slice Ao13 t203.length co13] 32 (0,0)) (by (with_reducible repeat (first | refine zz6 ?_ _ | refine zz7 ?_ | refine zz8 ?_ _));refine blk_far ?_ NB207_216.out _;(with_reducible repeat (first | refine zz6 ?_ _ | refine zz7 ?_ | refine zz8 ?_ _));refine blk_far ?_ NB207_216.out _;(with_reducible repeat (first | refine zz6 ?_ _ | refine zz7 ?_ | refine zz8 ?_ _));exact BK207.out) hb);have n5_:=zz31 (zz11 (g:=gb216) (o:=.cells #[.int .i64 t211,.slice Ao20 t212.length co20] 32 (0,0)) (by (with_reducible repeat (first | refine zz6 ?_ _ | refine zz7 ?_ | refine zz8 ?_ _));refine blk_put (cs:=#[.int .i64 t211,.slice none 0 0]) ?_ 1 _ rfl;(with_reducible repeat (first | refine zz6 ?_ _ | refine zz7 ?_ | refine zz8 ?_ _));refine blk_put (cs:=#[.int .i64 0,.slice none 0 0]) ?_ 0 _ rfl;(with_reducible repeat (first | refine zz6 ?_ _ | refine zz7 ?_ | refine zz8 ?_ _));exact BK216.out) hb);have n6_:=zz31 (zz4 (by repeat first | exact HB.out | apply zz2 | apply zz0 | apply zz1 | refine zz3 ?_ GE207.out | refine zz3 ?_ GE216.out) hb);clear HO201;clear HO205;clear HO210;clear HO214;clear BK207;clear BK216;clear HB;have HO201:=n0_;have HO205:=n1_;have HO210:=n2_;have HO214:=n3_;have BK207:=n4_;have BK216:=n5_;have HB:=n6_;clear n0_ n1_ n2_ n3_ n4_ n5_ n6_;(try clear hb);(try clear hb2);(try clear hk);(try clear hi)))
    go_meet
    case rel=>exact ⟨_,(true),(by first | rfl | (simp;done) | (simp [*];done)),H',⟨by first | omega | exact Nat.le_refl _⟩,⟨by (with_reducible repeat (first | apply zz12 | apply zz13 | apply zz14));exact Kd.R_mono HO210.out (fun _ hk=>trivial)⟩,⟨by (with_reducible repeat (first | apply zz12 | apply zz13 | apply zz14));exact Kd.R_mono HO205.out (fun _ hk=>hk.2)⟩,⟨by (with_reducible repeat (first | apply zz12 | apply zz13 | apply zz14));exact Kd.R_mono HO214.out (fun _ hk=>hk.2)⟩,⟨by (with_reducible repeat (first | refine zz6 ?_ _ | refine zz7 ?_ | refine zz8 ?_ _));exact BK207.out⟩,⟨by (with_reducible repeat (first | refine zz6 ?_ _ | refine zz7 ?_ | refine zz8 ?_ _));exact BK216.out⟩,⟨by repeat first | exact HB.out | apply zz2 | apply zz0 | apply zz1 | refine zz3 ?_ GE207.out | refine zz3 ?_ GE216.out⟩⟩
  case rest =>
   clear HC7
   try clear c1
   try clear c2
   try clear c2b0
   try clear c2b1
   try clear p2
   try clear c5
   try clear c15
   try clear c18
   try clear c20
   try clear c21
   try clear c22
   try clear c23
   try clear c27
   try clear hcz12_0
   try clear hcz12_1
   try clear hcz19_0
   try clear hcz19_1
   try clear hcz24_0
   try clear hcz24_1
   try clear hcz25_0
   try clear hcz25_1
   try clear hcz28_0
   try clear hcz28_1
   try clear hcz29_0
   try clear hcz29_1
   try clear hfz12_0
   try clear hfz12_1
   try clear hfz19_0
   try clear hfz19_1
   try clear hfz24_0
   try clear hfz24_1
   try clear hfz25_0
   try clear hfz25_1
   try clear hfz28_0
   try clear hfz28_1
   try clear hfz29_0
   try clear hfz29_1
   obtain ⟨kq,x37_6,rfl,HA,HJ6,HO_5,HO_208001,HO_217001,BK207,BK216,HB⟩:=hcut
   cases kq with
   | zero=>exact absurd HA.out (by simp [laws_FnExactFirstOfNumbers.j0])
   | succ kj6 =>
    have H:=HA.out
    clear HA
    simp only [laws_FnExactFirstOfNumbers.j0] at H
    by_cases c31:x37_6=true
    ·subst c31
     have H1:(some false)=some r:=by rw [if_pos rfl] at H;exact H
     clear H
     have H:=H1
     clear H1
     obtain rfl:=Option.some.inj H
     go_wp2
     go_ret
     exact ⟨by first | rfl | (simp [errW_none,errW_some] <;> rfl) | (simp [*,errW_none,errW_some] <;> rfl),by repeat first | exact HB.out | apply zz2 | apply zz0 | apply zz1 | refine zz3 ?_ GE207.out | refine zz3 ?_ GE216.out⟩
    ·replace c31:=Bool.eq_false_iff.mpr c31
     subst c31
     have H1:((laws_toIntS.f kj6 l0).bind fun t218=>((laws_eqIntS.f kj6 t208 t218).bind fun t221=>(if t221=true then ((laws_markIntS.f kj6 t208 1).bind fun bt222=>(if bt222.1 < 0 then (laws_FnExactFirstOfNumbers.j1 kj6 l0 t206 true t202 t203 t211 t212) else ((laws_eqParty.f kj6 t211 t212 t202 t203).bind fun t224=>(if t224=true then (laws_FnExactFirstOfNumbers.j1 kj6 l0 t206 (t215 != t206) t202 t203 t211 t212) else (laws_FnExactFirstOfNumbers.j1 kj6 l0 t206 true t202 t203 t211 t212))))) else (some false))))=some r:=by rw [if_neg (show ¬ (false=true) by decide)] at H;exact H
     clear H
     have H:=H1
     clear H1
     replace H:=zz30.mp H
     obtain ⟨t218,A320,H⟩:=H
     replace H:((laws_eqIntS.f kj6 t208 t218).bind fun t221=>(if t221=true then ((laws_markIntS.f kj6 t208 1).bind fun bt222=>(if bt222.1 < 0 then (laws_FnExactFirstOfNumbers.j1 kj6 l0 t206 true t202 t203 t211 t212) else ((laws_eqParty.f kj6 t211 t212 t202 t203).bind fun t224=>(if t224=true then (laws_FnExactFirstOfNumbers.j1 kj6 l0 t206 (t215 != t206) t202 t203 t211 t212) else (laws_FnExactFirstOfNumbers.j1 kj6 l0 t206 true t202 t203 t211 t212))))) else (some false)))=some r:=H
     have A32:=zz31 A320
     clear A320
     replace H:=zz30.mp H
     obtain ⟨t221,A330,H⟩:=H
     replace H:(if t221=true then ((laws_markIntS.f kj6 t208 1).bind fun bt222=>(if bt222.1 < 0 then (laws_FnExactFirstOfNumbers.j1 kj6 l0 t206 true t202 t203 t211 t212) else ((laws_eqParty.f kj6 t211 t212 t202 t203).bind fun t224=>(if t224=true then (laws_FnExactFirstOfNumbers.j1 kj6 l0 t206 (t215 != t206) t202 t203 t211 t212) else (laws_FnExactFirstOfNumbers.j1 kj6 l0 t206 true t202 t203 t211 t212))))) else (some false))=some r:=H
     have A33:=zz31 A330
     clear A330
     by_cases c34:t221=true
     ·subst c34
      have H1:((laws_markIntS.f kj6 t208 1).bind fun bt222=>(if bt222.1 < 0 then (laws_FnExactFirstOfNumbers.j1 kj6 l0 t206 true t202 t203 t211 t212) else ((laws_eqParty.f kj6 t211 t212 t202 t203).bind fun t224=>(if t224=true then (laws_FnExactFirstOfNumbers.j1 kj6 l0 t206 (t215 != t206) t202 t203 t211 t212) else (laws_FnExactFirstOfNumbers.j1 kj6 l0 t206 true t202 t203 t211 t212)))))=some r:=by rw [if_pos rfl] at H;exact H
      clear H
      have H:=H1
      clear H1
      replace H:=zz30.mp H
      obtain ⟨⟨t222,t223⟩,A350,H⟩:=H
      replace H:(if t222 < 0 then (laws_FnExactFirstOfNumbers.j1 kj6 l0 t206 true t202 t203 t211 t212) else ((laws_eqParty.f kj6 t211 t212 t202 t203).bind fun t224=>(if t224=true then (laws_FnExactFirstOfNumbers.j1 kj6 l0 t206 (t215 != t206) t202 t203 t211 t212) else (laws_FnExactFirstOfNumbers.j1 kj6 l0 t206 true t202 t203 t211 t212))))=some r:=H
      have A35:=zz31 A350
      clear A350
      have HC36:=zz31 H
      clear H
      go_upto_region 12 with (first | ((with_reducible refine gate_callee (f:=15) rfl ?_);refine goesL_ (some 40) rfl rfl Try.func15 (by kernel_rfl) rfl #[.slice A0 l0.length c0] rfl (by (try simp only [zz26,zz27,zz28]);first | done | rfl | (simp only [zz24,zz25];rfl)) ?_;(with_reducible refine (laws_toIntS.calls kj6 _ _ l0 t218 _ ?side1 ?side2 A32.out).mono ?_);(case side1=>repeat (first | exact (Kd.C_below HR0.out HB.out) | (with_reducible refine zz18 ?_ _) | (with_reducible refine zz19 ?_ _) | (with_reducible refine zz20 ?_)));(case side2=>exact HC0.out);rintro e w37 ⟨v219,rfl,ho0,hb⟩;refine ⟨_,rfl,?_⟩;have n0_:=zz31 (Kd.R_elder' (by (with_reducible repeat (first | apply zz12 | apply zz13 | apply zz14));exact HO_5.out) (Kd.R_base ho0) hb);have n1_:=zz31 (Kd.R_below (by (with_reducible repeat (first | apply zz12 | apply zz13 | apply zz14));exact HO_208001.out) hb);have n2_:=zz31 (Kd.R_below (by (with_reducible repeat (first | apply zz12 | apply zz13 | apply zz14));exact HO_217001.out) hb);have n3_:=zz31 (Kd.R_lower (Kd.R_new' ho0 (Kd.R_lt (by (with_reducible repeat (first | apply zz12 | apply zz13 | apply zz14));exact HO_5.out))) (zz5 (by repeat first | exact HB.out | apply zz2 | apply zz0 | apply zz1 | refine zz3 ?_ GE207.out | refine zz3 ?_ GE216.out)));have n4_:=zz31 (zz11 (g:=gb207) (o:=.cells #[.int .i64 t202,.slice Ao13 t203.length co13] 32 (0,0)) (by (with_reducible repeat (first | refine zz6 ?_ _ | refine zz7 ?_ | refine zz8 ?_ _));exact BK207.out) hb);have n5_:=zz31 (zz11 (g:=gb216) (o:=.cells #[.int .i64 t211,.slice Ao20 t212.length co20] 32 (0,0)) (by (with_reducible repeat (first | refine zz6 ?_ _ | refine zz7 ?_ | refine zz8 ?_ _));exact BK216.out) hb);have n6_:=zz31 (zz4 (by repeat first | exact HB.out | apply zz2 | apply zz0 | apply zz1 | refine zz3 ?_ GE207.out | refine zz3 ?_ GE216.out) hb);clear HO_5;clear HO_208001;clear HO_217001;clear BK207;clear BK216;clear HB;have HO_5:=n0_;have HO_208001:=n1_;have HO_217001:=n2_;have HO220:=n3_;have BK207:=n4_;have BK216:=n5_;have HB:=n6_;clear n0_ n1_ n2_ n3_ n4_ n5_ n6_;(try clear hb);(try clear hb2);(try clear hk);(try clear hi);(try clear ho0);obtain ⟨Ao38,co38,eo38⟩:=Kd.R_slice HO220.out;subst eo38) | ((with_reducible refine gate_callee (f:=17) rfl ?_);refine goesL_ (some 41) rfl rfl Try.func17 (by kernel_rfl) rfl #[.slice Ao15 t208.length co15,.slice Ao38 t218.length co38] rfl (by (try simp only [zz26,zz27,zz28]);first | done | rfl | (simp only [zz24,zz25];rfl)) ?_;(with_reducible refine (laws_eqIntS.calls kj6 _ _ t208 _ _ t218 true _ ?side1 ?side2 ?side3 ?side4 A33.out).mono ?_);(case side1=>repeat (first | exact (Kd.R_reads' HO_5.out).2.2 | (with_reducible refine zz18 ?_ _) | (with_reducible refine zz19 ?_ _) | (with_reducible refine zz20 ?_)));(case side2=>exact (Kd.R_reads' HO_5.out).2.1);(case side3=>repeat (first | exact (Kd.R_reads' HO220.out).2.2 | (with_reducible refine zz18 ?_ _) | (with_reducible refine zz19 ?_ _) | (with_reducible refine zz20 ?_)));(case side4=>exact (Kd.R_reads' HO220.out).2.1);rintro e w' ⟨rfl,⟨nd,rfl⟩⟩;refine ⟨_,rfl,?_⟩) | ((with_reducible refine gate_callee (f:=23) rfl ?_);refine goesL_ (some 45) rfl rfl Try.func23 (by kernel_rfl) rfl #[.slice Ao15 t208.length co15,.int .i64 1] rfl (by (try simp only [zz26,zz27,zz28]);first | done | rfl | (simp only [zz24,zz25];rfl)) ?_;(with_reducible refine (laws_markIntS.calls kj6 (fun k_=>some k_=(.slice Ao15 t208.length co15:Value).ownBlock) (.slice Ao15 t208.length co15) t208 1 t222 t223 w _ ?side1 ?side2 A35.out).mono ?_);(case side1=>repeat first | exact HB.out | apply zz2 | apply zz0 | apply zz1 | refine zz3 ?_ GE207.out | refine zz3 ?_ GE216.out);(case side2=>exact Kd.R_tight rfl HO_5.out);rintro e w39 ⟨rfl,hy0,hb,hkp⟩;refine ⟨_,rfl,?_⟩;have n0_:=zz31 (Kd.R_reok rfl hy0 (fun k_ e_=>HO_5.out.1 k_ e_));have n1_:=zz31 (Kd.R_mono (ok':=fun k_=>some k_ ≠ (.slice Ao20 t212.length co20:Value).ownBlock) (Kd.R_keptB ((Kd.R_apart' HO_208001.out (Kd.R_typed HO_5.out) (by decide))) hkp (fun k_ hk_ hs_=>(hk_.2) hs_)) (fun k_ hk_=>hk_.1.1));have n2_:=zz31 (Kd.R_mono (ok':=fun k_=>some k_ ≠ (.slice Ao13 t203.length co13:Value).ownBlock) (Kd.R_keptB ((Kd.R_apart' HO_217001.out (Kd.R_typed HO_5.out) (by decide))) hkp (fun k_ hk_ hs_=>(hk_.2) hs_)) (fun k_ hk_=>hk_.1.1));(first | have n3_:=zz31 (blk_kept BK207.out hkp (fun hs_=>(fun e_=>(Kd.R_ne HO_5.out BK207.out (by decide)) e_) hs_)) | have n3_:=zz31 (blk_kept (by (with_reducible repeat (first | refine zz6 ?_ _ | refine zz7 ?_ | refine zz8 ?_ _));exact BK207.out) hkp (fun hs_=>(fun e_=>(Kd.R_ne HO_5.out BK207.out (by decide)) e_) hs_)));(first | have n4_:=zz31 (blk_kept BK216.out hkp (fun hs_=>(fun e_=>(Kd.R_ne HO_5.out BK216.out (by decide)) e_) hs_)) | have n4_:=zz31 (blk_kept (by (with_reducible repeat (first | refine zz6 ?_ _ | refine zz7 ?_ | refine zz8 ?_ _));exact BK216.out) hkp (fun hs_=>(fun e_=>(Kd.R_ne HO_5.out BK216.out (by decide)) e_) hs_)));have n5_:=zz31 (Kd.R_mono (ok':=fun k_=>some k_ ≠ (.slice Ao15 t208.length co15:Value).ownBlock) (Kd.R_keptB (HO220.out) hkp (fun k_ hk_ hs_=>(hk_.2) hs_)) (fun k_ hk_=>hk_.1.2));have n6_:=zz31 (hb);clear HO_5;clear HO_208001;clear HO_217001;clear BK207;clear BK216;clear HO220;clear HB;have HO_5:=n0_;have HO_208001:=n1_;have HO_217001:=n2_;have BK207:=n3_;have BK216:=n4_;have HO220:=n5_;have HB:=n6_;clear n0_ n1_ n2_ n3_ n4_ n5_ n6_;(try clear hb);(try clear hkp);(try clear hy0)))
      (try simp only [Act.put,zz21,zz22,zz23])
      go_cut [58] (fun v58 wc=>∃ (kq:Nat) (x58_35:Bool),v58=.bool x58_35∧Aside0 (laws_FnExactFirstOfNumbers.j1 kq l0 t206 x58_35 t202 t203 t211 t212=some r)∧Aside0 (kq≤kj6)∧Aside0 (Kd.R k80 80 wc w.heap.size (fun k_=>some k_ ≠ ((.slice Ao20 t212.length co20):Value).ownBlock) (.slice Ao13 t203.length co13) t203)∧Aside0 (Kd.R k80 80 wc w.heap.size (fun k_=>some k_ ≠ ((.slice Ao13 t203.length co13):Value).ownBlock) (.slice Ao20 t212.length co20) t212)∧Aside0 (wc.heap[gb207]?=some (.cells #[.int .i64 t202,(.slice Ao13 t203.length co13)] 32 (0,0)))∧Aside0 (wc.heap[gb216]?=some (.cells #[.int .i64 t211,(.slice Ao20 t212.length co20)] 32 (0,0)))∧Aside0 (Below w.heap.size w wc))
      case first =>
       have H:=HC36.out
       clear HC36
       by_cases c40:t222 < 0
       ·rw [if_pos c40] at H
        have c40b0:decide (t222 < 0)=true:=decide_eq_true c40
        clear c40
        (first | rw [c40b0] | (simp only [i64_w,i32_w];rw [c40b0]) | skip)
        have H':=zz31 H
        clear H
        go_wp2
        go_meet
        case rel=>exact ⟨_,(true),(by first | rfl | (simp;done) | (simp [*];done)),H',⟨by have:=HJ6.out;first | omega | exact Nat.le_refl _⟩,⟨by (with_reducible repeat (first | apply zz12 | apply zz13 | apply zz14));exact HO_208001.out⟩,⟨by (with_reducible repeat (first | apply zz12 | apply zz13 | apply zz14));exact HO_217001.out⟩,⟨by (with_reducible repeat (first | refine zz6 ?_ _ | refine zz7 ?_ | refine zz8 ?_ _));exact BK207.out⟩,⟨by (with_reducible repeat (first | refine zz6 ?_ _ | refine zz7 ?_ | refine zz8 ?_ _));exact BK216.out⟩,⟨by repeat first | exact HB.out | apply zz2 | apply zz0 | apply zz1 | refine zz3 ?_ GE207.out | refine zz3 ?_ GE216.out⟩⟩
       ·rw [if_neg c40] at H
        have c40b0:decide (t222 < 0)=false:=decide_eq_false c40
        clear c40
        (first | rw [c40b0] | (simp only [i64_w,i32_w];rw [c40b0]) | skip)
        replace H:=zz30.mp H
        obtain ⟨t224,A410,H⟩:=H
        replace H:(if t224=true then (laws_FnExactFirstOfNumbers.j1 kj6 l0 t206 (t215 != t206) t202 t203 t211 t212) else (laws_FnExactFirstOfNumbers.j1 kj6 l0 t206 true t202 t203 t211 t212))=some r:=H
        have A41:=zz31 A410
        clear A410
        by_cases c42:t224=true
        ·subst c42
         have H1:(laws_FnExactFirstOfNumbers.j1 kj6 l0 t206 (t215 != t206) t202 t203 t211 t212)=some r:=by rw [if_pos rfl] at H;exact H
         clear H
         have H:=H1
         clear H1
         have H':=zz31 H
         clear H
         have hnb43:=NB216_207.out
         have hnc43:=NB207_216.out
         have hcz44_0:w39.cell? ⟨gb216,0,none⟩=some (.int .i64 t211):=(zz9 BK216.out 0).trans rfl
         have hcz44_1:w39.cell? ⟨gb216,1,none⟩=some (.slice Ao20 t212.length co20):=(zz9 BK216.out 1).trans rfl
         have hfz44_0:=zz10 BK216.out 0
         have hfz44_1:=zz10 BK216.out 1
         have hcz45_0:w39.cell? ⟨gb207,0,none⟩=some (.int .i64 t202):=(zz9 BK207.out 0).trans rfl
         have hcz45_1:w39.cell? ⟨gb207,1,none⟩=some (.slice Ao13 t203.length co13):=(zz9 BK207.out 1).trans rfl
         have hfz45_0:=zz10 BK207.out 0
         have hfz45_1:=zz10 BK207.out 1
         go_wp2_with (first | (go_at_call 22;(with_reducible refine (laws_eqParty.calls kj6 t211 _ _ t212 t202 _ _ t203 true _ ?side1 ?side2 ?side3 ?side4 A41.out).mono ?_);(case side1=>repeat (first | exact (Kd.R_reads' HO_217001.out).2.2 | (with_reducible refine zz18 ?_ _) | (with_reducible refine zz19 ?_ _) | (with_reducible refine zz20 ?_)));(case side2=>exact (Kd.R_reads' HO_217001.out).2.1);(case side3=>repeat (first | exact (Kd.R_reads' HO_208001.out).2.2 | (with_reducible refine zz18 ?_ _) | (with_reducible refine zz19 ?_ _) | (with_reducible refine zz20 ?_)));(case side4=>exact (Kd.R_reads' HO_208001.out).2.1);rintro e w46 ⟨rfl,hb⟩;have n0_:=zz31 (Kd.R_below (by (with_reducible repeat (first | apply zz12 | apply zz13 | apply zz14));exact HO_5.out) hb);have n1_:=zz31 (Kd.R_below (by (with_reducible repeat (first | apply zz12 | apply zz13 | apply zz14));exact HO_208001.out) hb);have n2_:=zz31 (Kd.R_below (by (with_reducible repeat (first | apply zz12 | apply zz13 | apply zz14));exact HO_217001.out) hb);have n3_:=zz31 (Kd.R_below (by (with_reducible repeat (first | apply zz12 | apply zz13 | apply zz14));exact HO220.out) hb);have n4_:=zz31 (zz11 (g:=gb207) (o:=.cells #[.int .i64 t202,.slice Ao13 t203.length co13] 32 (0,0)) (by (with_reducible repeat (first | refine zz6 ?_ _ | refine zz7 ?_ | refine zz8 ?_ _));exact BK207.out) hb);have n5_:=zz31 (zz11 (g:=gb216) (o:=.cells #[.int .i64 t211,.slice Ao20 t212.length co20] 32 (0,0)) (by (with_reducible repeat (first | refine zz6 ?_ _ | refine zz7 ?_ | refine zz8 ?_ _));exact BK216.out) hb);have n6_:=zz31 (zz4 (by repeat first | exact HB.out | apply zz2 | apply zz0 | apply zz1 | refine zz3 ?_ GE207.out | refine zz3 ?_ GE216.out) hb);clear HO_5;clear HO_208001;clear HO_217001;clear HO220;clear BK207;clear BK216;clear HB;have HO_5:=n0_;have HO_208001:=n1_;have HO_217001:=n2_;have HO220:=n3_;have BK207:=n4_;have BK216:=n5_;have HB:=n6_;clear n0_ n1_ n2_ n3_ n4_ n5_ n6_;(try clear hb);(try clear hb2);(try clear hk);(try clear hi)))
         go_meet
         case rel=>exact ⟨_,((t215 != t206)),(by first | rfl | (simp;done) | (simp [*];done)),H',⟨by have:=HJ6.out;first | omega | exact Nat.le_refl _⟩,⟨by (with_reducible repeat (first | apply zz12 | apply zz13 | apply zz14));exact HO_208001.out⟩,⟨by (with_reducible repeat (first | apply zz12 | apply zz13 | apply zz14));exact HO_217001.out⟩,⟨by (with_reducible repeat (first | refine zz6 ?_ _ | refine zz7 ?_ | refine zz8 ?_ _));exact BK207.out⟩,⟨by (with_reducible repeat (first | refine zz6 ?_ _ | refine zz7 ?_ | refine zz8 ?_ _));exact BK216.out⟩,⟨by repeat first | exact HB.out | apply zz2 | apply zz0 | apply zz1 | refine zz3 ?_ GE207.out | refine zz3 ?_ GE216.out⟩⟩
        ·replace c42:=Bool.eq_false_iff.mpr c42
         subst c42
         have H1:(laws_FnExactFirstOfNumbers.j1 kj6 l0 t206 true t202 t203 t211 t212)=some r:=by rw [if_neg (show ¬ (false=true) by decide)] at H;exact H
         clear H
         have H:=H1
         clear H1
         have H':=zz31 H
         clear H
         have hnb47:=NB216_207.out
         have hnc47:=NB207_216.out
         have hcz48_0:w39.cell? ⟨gb216,0,none⟩=some (.int .i64 t211):=(zz9 BK216.out 0).trans rfl
         have hcz48_1:w39.cell? ⟨gb216,1,none⟩=some (.slice Ao20 t212.length co20):=(zz9 BK216.out 1).trans rfl
         have hfz48_0:=zz10 BK216.out 0
         have hfz48_1:=zz10 BK216.out 1
         have hcz49_0:w39.cell? ⟨gb207,0,none⟩=some (.int .i64 t202):=(zz9 BK207.out 0).trans rfl
         have hcz49_1:w39.cell? ⟨gb207,1,none⟩=some (.slice Ao13 t203.length co13):=(zz9 BK207.out 1).trans rfl
         have hfz49_0:=zz10 BK207.out 0
         have hfz49_1:=zz10 BK207.out 1
         go_wp2_with (first | (go_at_call 22;(with_reducible refine (laws_eqParty.calls kj6 t211 _ _ t212 t202 _ _ t203 false _ ?side1 ?side2 ?side3 ?side4 A41.out).mono ?_);(case side1=>repeat (first | exact (Kd.R_reads' HO_217001.out).2.2 | (with_reducible refine zz18 ?_ _) | (with_reducible refine zz19 ?_ _) | (with_reducible refine zz20 ?_)));(case side2=>exact (Kd.R_reads' HO_217001.out).2.1);(case side3=>repeat (first | exact (Kd.R_reads' HO_208001.out).2.2 | (with_reducible refine zz18 ?_ _) | (with_reducible refine zz19 ?_ _) | (with_reducible refine zz20 ?_)));(case side4=>exact (Kd.R_reads' HO_208001.out).2.1);rintro e w50 ⟨rfl,hb⟩;have n0_:=zz31 (Kd.R_below (by (with_reducible repeat (first | apply zz12 | apply zz13 | apply zz14));exact HO_5.out) hb);have n1_:=zz31 (Kd.R_below (by (with_reducible repeat (first | apply zz12 | apply zz13 | apply zz14));exact HO_208001.out) hb);have n2_:=zz31 (Kd.R_below (by (with_reducible repeat (first | apply zz12 | apply zz13 | apply zz14));exact HO_217001.out) hb);have n3_:=zz31 (Kd.R_below (by (with_reducible repeat (first | apply zz12 | apply zz13 | apply zz14));exact HO220.out) hb);have n4_:=zz31 (zz11 (g:=gb207) (o:=.cells #[.int .i64 t202,.slice Ao13 t203.length co13] 32 (0,0)) (by (with_reducible repeat (first | refine zz6 ?_ _ | refine zz7 ?_ | refine zz8 ?_ _));exact BK207.out) hb);have n5_:=zz31 (zz11 (g:=gb216) (o:=.cells #[.int .i64 t211,.slice Ao20 t212.length co20] 32 (0,0)) (by (with_reducible repeat (first | refine zz6 ?_ _ | refine zz7 ?_ | refine zz8 ?_ _));exact BK216.out) hb);have n6_:=zz31 (zz4 (by repeat first | exact HB.out | apply zz2 | apply zz0 | apply zz1 | refine zz3 ?_ GE207.out | refine zz3 ?_ GE216.out) hb);clear HO_5;clear HO_208001;clear HO_217001;clear HO220;clear BK207;clear BK216;clear HB;have HO_5:=n0_;have HO_208001:=n1_;have HO_217001:=n2_;have HO220:=n3_;have BK207:=n4_;have BK216:=n5_;have HB:=n6_;clear n0_ n1_ n2_ n3_ n4_ n5_ n6_;(try clear hb);(try clear hb2);(try clear hk);(try clear hi)))
         go_meet
         case rel=>exact ⟨_,(true),(by first | rfl | (simp;done) | (simp [*];done)),H',⟨by have:=HJ6.out;first | omega | exact Nat.le_refl _⟩,⟨by (with_reducible repeat (first | apply zz12 | apply zz13 | apply zz14));exact HO_208001.out⟩,⟨by (with_reducible repeat (first | apply zz12 | apply zz13 | apply zz14));exact HO_217001.out⟩,⟨by (with_reducible repeat (first | refine zz6 ?_ _ | refine zz7 ?_ | refine zz8 ?_ _));exact BK207.out⟩,⟨by (with_reducible repeat (first | refine zz6 ?_ _ | refine zz7 ?_ | refine zz8 ?_ _));exact BK216.out⟩,⟨by repeat first | exact HB.out | apply zz2 | apply zz0 | apply zz1 | refine zz3 ?_ GE207.out | refine zz3 ?_ GE216.out⟩⟩
      case rest =>
       clear HC36
       try clear c1
       try clear c2
       try clear c2b0
       try clear c2b1
       try clear p2
       try clear c3
       try clear c4
       try clear c5
       try clear c15
       try clear c17
       try clear c18
       try clear c20
       try clear c21
       try clear c22
       try clear c23
       try clear c27
       try clear c31
       try clear c34
       try clear c40
       try clear c40b0
       try clear c42
       try clear c43
       try clear c47
       try clear hcz12_0
       try clear hcz12_1
       try clear hcz19_0
       try clear hcz19_1
       try clear hcz24_0
       try clear hcz24_1
       try clear hcz25_0
       try clear hcz25_1
       try clear hcz28_0
       try clear hcz28_1
       try clear hcz29_0
       try clear hcz29_1
       try clear hcz44_0
       try clear hcz44_1
       try clear hcz45_0
       try clear hcz45_1
       try clear hcz48_0
       try clear hcz48_1
       try clear hcz49_0
       try clear hcz49_1
       try clear hfz12_0
       try clear hfz12_1
       try clear hfz19_0
       try clear hfz19_1
       try clear hfz24_0
       try clear hfz24_1
       try clear hfz25_0
       try clear hfz25_1
       try clear hfz28_0
       try clear hfz28_1
       try clear hfz29_0
       try clear hfz29_1
       try clear hfz44_0
       try clear hfz44_1
       try clear hfz45_0
       try clear hfz45_1
       try clear hfz48_0
       try clear hfz48_1
       try clear hfz49_0
       try clear hfz49_1
       try clear p2
       obtain ⟨kq,x58_35,rfl,HA,HJ35,HO_208001,HO_217001,BK207,BK216,HB⟩:=hcut
       cases kq with
       | zero=>exact absurd HA.out (by simp [laws_FnExactFirstOfNumbers.j1])
       | succ kj35 =>
        have H:=HA.out
        clear HA
        simp only [laws_FnExactFirstOfNumbers.j1] at H
        by_cases c51:x58_35=true
        ·subst c51
         have H1:(some false)=some r:=by rw [if_pos rfl] at H;exact H
         clear H
         have H:=H1
         clear H1
         obtain rfl:=Option.some.inj H
         go_wp2
         go_ret
         exact ⟨by first | rfl | (simp [errW_none,errW_some] <;> rfl) | (simp [*,errW_none,errW_some] <;> rfl),by repeat first | exact HB.out | apply zz2 | apply zz0 | apply zz1 | refine zz3 ?_ GE207.out | refine zz3 ?_ GE216.out⟩
        ·replace c51:=Bool.eq_false_iff.mpr c51
         subst c51
         have H1:((laws_markParty.f kj35 t211 t212 1).bind fun bt225=>((laws_heldParty.f kj35 t211 bt225.2 1).bind fun t227=>(if t227 < 0 then (some false) else (if t227=bt225.1 then ((laws_toIntS.f kj35 l0).bind fun t228=>((impl_FirstOfNumbers.f kj35 t228).bind fun bt231=>((laws_eqParty.f kj35 bt231.1 bt231.2.1 t202 t203).bind fun t237=>(if t237=true then (laws_FnExactFirstOfNumbers.j2 kj35 bt225.1 (bt231.2.2 != t206) t211 bt225.2) else (laws_FnExactFirstOfNumbers.j2 kj35 bt225.1 true t211 bt225.2))))) else (some false)))))=some r:=by rw [if_neg (show ¬ (false=true) by decide)] at H;exact H
         clear H
         have H:=H1
         clear H1
         replace H:=zz30.mp H
         obtain ⟨⟨t225,t226⟩,A520,H⟩:=H
         replace H:((laws_heldParty.f kj35 t211 t226 1).bind fun t227=>(if t227 < 0 then (some false) else (if t227=t225 then ((laws_toIntS.f kj35 l0).bind fun t228=>((impl_FirstOfNumbers.f kj35 t228).bind fun bt231=>((laws_eqParty.f kj35 bt231.1 bt231.2.1 t202 t203).bind fun t237=>(if t237=true then (laws_FnExactFirstOfNumbers.j2 kj35 t225 (bt231.2.2 != t206) t211 t226) else (laws_FnExactFirstOfNumbers.j2 kj35 t225 true t211 t226))))) else (some false))))=some r:=H
         have A52:=zz31 A520
         clear A520
         replace H:=zz30.mp H
         obtain ⟨t227,A530,H⟩:=H
         replace H:(if t227 < 0 then (some false) else (if t227=t225 then ((laws_toIntS.f kj35 l0).bind fun t228=>((impl_FirstOfNumbers.f kj35 t228).bind fun bt231=>((laws_eqParty.f kj35 bt231.1 bt231.2.1 t202 t203).bind fun t237=>(if t237=true then (laws_FnExactFirstOfNumbers.j2 kj35 t225 (bt231.2.2 != t206) t211 t226) else (laws_FnExactFirstOfNumbers.j2 kj35 t225 true t211 t226))))) else (some false)))=some r:=H
         have A53:=zz31 A530
         clear A530
         by_cases c54:t227 < 0
         ·rw [if_pos c54] at H
          have c54b0:decide (t227 < 0)=true:=decide_eq_true c54
          clear c54
          obtain rfl:=Option.some.inj H
          have hnb55:=NB216_207.out
          have hnc55:=NB207_216.out
          have hcz56_0:wc.cell? ⟨gb216,0,none⟩=some (.int .i64 t211):=(zz9 BK216.out 0).trans rfl
          have hcz56_1:wc.cell? ⟨gb216,1,none⟩=some (.slice Ao20 t212.length co20):=(zz9 BK216.out 1).trans rfl
          have hfz56_0:=zz10 BK216.out 0
          have hfz56_1:=zz10 BK216.out 1
          go_wp2_with (first | ((with_reducible refine gate_callee (f:=24) rfl ?_);refine goesL_ (some 61) rfl rfl Try.func24 (by kernel_rfl) rfl #[.agg #[.int .i64 t211,.slice Ao20 t212.length co20],.int .i64 1] rfl (by (try simp only [zz26,zz27,zz28]);first | done | rfl | (simp only [zz24,zz25];rfl)) ?_;(with_reducible refine (laws_markParty.calls kj35 t211 (fun k_=>some k_=(.slice Ao20 t212.length co20:Value).ownBlock) (.slice Ao20 t212.length co20) t212 1 t225 t226 w _ ?side1 ?side2 A52.out).mono ?_);(case side1=>repeat first | exact HB.out | apply zz2 | apply zz0 | apply zz1 | refine zz3 ?_ GE207.out | refine zz3 ?_ GE216.out);(case side2=>exact Kd.R_tight rfl HO_217001.out);rintro e w57 ⟨rfl,hy0,hb,hkp⟩;refine ⟨_,rfl,?_⟩;have n0_:=zz31 (Kd.R_mono (ok':=fun k_=>some k_ ≠ (.slice Ao20 t212.length co20:Value).ownBlock) (Kd.R_keptB (HO_208001.out) hkp (fun k_ hk_ hs_=>(hk_) hs_)) (fun k_ hk_=>hk_.1));have n1_:=zz31 (Kd.R_reok rfl hy0 (fun k_ e_=>HO_217001.out.1 k_ e_));(first | have n2_:=zz31 (blk_kept BK207.out hkp (fun hs_=>(fun e_=>(Kd.R_ne HO_217001.out BK207.out (by decide)) e_) hs_)) | have n2_:=zz31 (blk_kept (by (with_reducible repeat (first | refine zz6 ?_ _ | refine zz7 ?_ | refine zz8 ?_ _));exact BK207.out) hkp (fun hs_=>(fun e_=>(Kd.R_ne HO_217001.out BK207.out (by decide)) e_) hs_)));(first | have n3_:=zz31 (blk_kept BK216.out hkp (fun hs_=>(fun e_=>(Kd.R_ne HO_217001.out BK216.out (by decide)) e_) hs_)) | have n3_:=zz31 (blk_kept (by (with_reducible repeat (first | refine zz6 ?_ _ | refine zz7 ?_ | refine zz8 ?_ _));exact BK216.out) hkp (fun hs_=>(fun e_=>(Kd.R_ne HO_217001.out BK216.out (by decide)) e_) hs_)));have n4_:=zz31 (hb);clear HO_208001;clear HO_217001;clear BK207;clear BK216;clear HB;have HO_208001:=n0_;have HO_217001:=n1_;have BK207:=n2_;have BK216:=n3_;have HB:=n4_;clear n0_ n1_ n2_ n3_ n4_;(try clear hb);(try clear hkp);(try clear hy0);have hcz58_0:w57.cell? ⟨gb216,0,none⟩=some (.int .i64 t211):=(zz9 BK216.out 0).trans rfl;have hcz58_1:w57.cell? ⟨gb216,1,none⟩=some (.slice Ao20 t212.length co20):=(zz9 BK216.out 1).trans rfl;have hfz58_0:=zz10 BK216.out 0;have hfz58_1:=zz10 BK216.out 1) | ((with_reducible refine gate_callee (f:=25) rfl ?_);refine goesL_ (some 64) rfl rfl Try.func25 (by kernel_rfl) rfl #[.agg #[.int .i64 t211,.slice Ao20 t226.length co20],.int .i64 1] rfl (by (try simp only [zz26,zz27,zz28]);first | done | (rw [show t226.length=t212.length from (Kd.R_reads' HO_217001.out).1.symm] <;> rfl) | rfl | (simp only [zz24,zz25];rfl)) ?_;(with_reducible refine (laws_heldParty.calls kj35 t211 _ _ t226 1 t227 _ ?side1 ?side2 A53.out).mono ?_);(case side1=>repeat (first | exact (Kd.R_reads' HO_217001.out).2.2 | (with_reducible refine zz18 ?_ _) | (with_reducible refine zz19 ?_ _) | (with_reducible refine zz20 ?_)));(case side2=>rw [show t226.length=t212.length from (Kd.R_reads' HO_217001.out).1.symm];exact (Kd.R_reads' HO_217001.out).2.1);rintro e w59 ⟨rfl,hb⟩;refine ⟨_,rfl,?_⟩;have n0_:=zz31 (Kd.R_below (by (with_reducible repeat (first | apply zz12 | apply zz13 | apply zz14));exact HO_208001.out) hb);have n1_:=zz31 (Kd.R_below (by (with_reducible repeat (first | apply zz12 | apply zz13 | apply zz14));exact HO_217001.out) hb);have n2_:=zz31 (zz11 (g:=gb207) (o:=.cells #[.int .i64 t202,.slice Ao13 t203.length co13] 32 (0,0)) (by (with_reducible repeat (first | refine zz6 ?_ _ | refine zz7 ?_ | refine zz8 ?_ _));exact BK207.out) hb);have n3_:=zz31 (zz11 (g:=gb216) (o:=.cells #[.int .i64 t211,.slice Ao20 t212.length co20] 32 (0,0)) (by (with_reducible repeat (first | refine zz6 ?_ _ | refine zz7 ?_ | refine zz8 ?_ _));exact BK216.out) hb);have n4_:=zz31 (zz4 (by repeat first | exact HB.out | apply zz2 | apply zz0 | apply zz1 | refine zz3 ?_ GE207.out | refine zz3 ?_ GE216.out) hb);clear HO_208001;clear HO_217001;clear BK207;clear BK216;clear HB;have HO_208001:=n0_;have HO_217001:=n1_;have BK207:=n2_;have BK216:=n3_;have HB:=n4_;clear n0_ n1_ n2_ n3_ n4_;(try clear hb);(try clear hb2);(try clear hk);(try clear hi)))
          go_ret
          exact ⟨by first | rfl | (simp [errW_none,errW_some] <;> rfl) | (simp [*,errW_none,errW_some] <;> rfl),by repeat first | exact HB.out | apply zz2 | apply zz0 | apply zz1 | refine zz3 ?_ GE207.out | refine zz3 ?_ GE216.out⟩
         ·rw [if_neg c54] at H
          have c54b0:decide (t227 < 0)=false:=decide_eq_false c54
          clear c54
          by_cases c60:t227=t225
          ·rw [if_pos c60] at H
           have c60b0:(t227 == t225)=true:=beq_iff_eq.mpr c60
           have c60b1:(t227 != t225)=false:=bne_eq_false_iff_eq.mpr c60
           clear c60
           replace H:=zz30.mp H
           obtain ⟨t228,A610,H⟩:=H
           replace H:((impl_FirstOfNumbers.f kj35 t228).bind fun bt231=>((laws_eqParty.f kj35 bt231.1 bt231.2.1 t202 t203).bind fun t237=>(if t237=true then (laws_FnExactFirstOfNumbers.j2 kj35 t225 (bt231.2.2 != t206) t211 t226) else (laws_FnExactFirstOfNumbers.j2 kj35 t225 true t211 t226))))=some r:=H
           have A61:=zz31 A610
           clear A610
           replace H:=zz30.mp H
           obtain ⟨⟨t231,t232,t235⟩,A620,H⟩:=H
           replace H:((laws_eqParty.f kj35 t231 t232 t202 t203).bind fun t237=>(if t237=true then (laws_FnExactFirstOfNumbers.j2 kj35 t225 (t235 != t206) t211 t226) else (laws_FnExactFirstOfNumbers.j2 kj35 t225 true t211 t226)))=some r:=H
           have A62:=zz31 A620
           clear A620
           have HC63:=zz31 H
           clear H
           have hnb64:=NB216_207.out
           have hnc64:=NB207_216.out
           have hcz65_0:wc.cell? ⟨gb216,0,none⟩=some (.int .i64 t211):=(zz9 BK216.out 0).trans rfl
           have hcz65_1:wc.cell? ⟨gb216,1,none⟩=some (.slice Ao20 t212.length co20):=(zz9 BK216.out 1).trans rfl
           have hfz65_0:=zz10 BK216.out 0
           have hfz65_1:=zz10 BK216.out 1
           go_upto_region 23 with (first | ((with_reducible refine gate_callee (f:=24) rfl ?_);refine goesL_ (some 61) rfl rfl Try.func24 (by kernel_rfl) rfl #[.agg #[.int .i64 t211,.slice Ao20 t212.length co20],.int .i64 1] rfl (by (try simp only [zz26,zz27,zz28]);first | done | rfl | (simp only [zz24,zz25];rfl)) ?_;(with_reducible refine (laws_markParty.calls kj35 t211 (fun k_=>some k_=(.slice Ao20 t212.length co20:Value).ownBlock) (.slice Ao20 t212.length co20) t212 1 t225 t226 w _ ?side1 ?side2 A52.out).mono ?_);(case side1=>repeat first | exact HB.out | apply zz2 | apply zz0 | apply zz1 | refine zz3 ?_ GE207.out | refine zz3 ?_ GE216.out);(case side2=>exact Kd.R_tight rfl HO_217001.out);rintro e w66 ⟨rfl,hy0,hb,hkp⟩;refine ⟨_,rfl,?_⟩;have n0_:=zz31 (Kd.R_mono (ok':=fun k_=>some k_ ≠ (.slice Ao20 t212.length co20:Value).ownBlock) (Kd.R_keptB (HO_208001.out) hkp (fun k_ hk_ hs_=>(hk_) hs_)) (fun k_ hk_=>hk_.1));have n1_:=zz31 (Kd.R_reok rfl hy0 (fun k_ e_=>HO_217001.out.1 k_ e_));(first | have n2_:=zz31 (blk_kept BK207.out hkp (fun hs_=>(fun e_=>(Kd.R_ne HO_217001.out BK207.out (by decide)) e_) hs_)) | have n2_:=zz31 (blk_kept (by (with_reducible repeat (first | refine zz6 ?_ _ | refine zz7 ?_ | refine zz8 ?_ _));exact BK207.out) hkp (fun hs_=>(fun e_=>(Kd.R_ne HO_217001.out BK207.out (by decide)) e_) hs_)));(first | have n3_:=zz31 (blk_kept BK216.out hkp (fun hs_=>(fun e_=>(Kd.R_ne HO_217001.out BK216.out (by decide)) e_) hs_)) | have n3_:=zz31 (blk_kept (by (with_reducible repeat (first | refine zz6 ?_ _ | refine zz7 ?_ | refine zz8 ?_ _));exact BK216.out) hkp (fun hs_=>(fun e_=>(Kd.R_ne HO_217001.out BK216.out (by decide)) e_) hs_)));have n4_:=zz31 (hb);clear HO_208001;clear HO_217001;clear BK207;clear BK216;clear HB;have HO_208001:=n0_;have HO_217001:=n1_;have BK207:=n2_;have BK216:=n3_;have HB:=n4_;clear n0_ n1_ n2_ n3_ n4_;(try clear hb);(try clear hkp);(try clear hy0);have hcz67_0:w66.cell? ⟨gb216,0,none⟩=some (.int .i64 t211):=(zz9 BK216.out 0).trans rfl;have hcz67_1:w66.cell? ⟨gb216,1,none⟩=some (.slice Ao20 t212.length co20):=(zz9 BK216.out 1).trans rfl;have hfz67_0:=zz10 BK216.out 0;have hfz67_1:=zz10 BK216.out 1) | ((with_reducible refine gate_callee (f:=25) rfl ?_);refine goesL_ (some 64) rfl rfl Try.func25 (by kernel_rfl) rfl #[.agg #[.int .i64 t211,.slice Ao20 t226.length co20],.int .i64 1] rfl (by (try simp only [zz26,zz27,zz28]);first | done | (rw [show t226.length=t212.length from (Kd.R_reads' HO_217001.out).1.symm] <;> rfl) | rfl | (simp only [zz24,zz25];rfl)) ?_;(with_reducible refine (laws_heldParty.calls kj35 t211 _ _ t226 1 t227 _ ?side1 ?side2 A53.out).mono ?_);(case side1=>repeat (first | exact (Kd.R_reads' HO_217001.out).2.2 | (with_reducible refine zz18 ?_ _) | (with_reducible refine zz19 ?_ _) | (with_reducible refine zz20 ?_)));(case side2=>rw [show t226.length=t212.length from (Kd.R_reads' HO_217001.out).1.symm];exact (Kd.R_reads' HO_217001.out).2.1);rintro e w68 ⟨rfl,hb⟩;refine ⟨_,rfl,?_⟩;have n0_:=zz31 (Kd.R_below (by (with_reducible repeat (first | apply zz12 | apply zz13 | apply zz14));exact HO_208001.out) hb);have n1_:=zz31 (Kd.R_below (by (with_reducible repeat (first | apply zz12 | apply zz13 | apply zz14));exact HO_217001.out) hb);have n2_:=zz31 (zz11 (g:=gb207) (o:=.cells #[.int .i64 t202,.slice Ao13 t203.length co13] 32 (0,0)) (by (with_reducible repeat (first | refine zz6 ?_ _ | refine zz7 ?_ | refine zz8 ?_ _));exact BK207.out) hb);have n3_:=zz31 (zz11 (g:=gb216) (o:=.cells #[.int .i64 t211,.slice Ao20 t212.length co20] 32 (0,0)) (by (with_reducible repeat (first | refine zz6 ?_ _ | refine zz7 ?_ | refine zz8 ?_ _));exact BK216.out) hb);have n4_:=zz31 (zz4 (by repeat first | exact HB.out | apply zz2 | apply zz0 | apply zz1 | refine zz3 ?_ GE207.out | refine zz3 ?_ GE216.out) hb);clear HO_208001;clear HO_217001;clear BK207;clear BK216;clear HB;have HO_208001:=n0_;have HO_217001:=n1_;have BK207:=n2_;have BK216:=n3_;have HB:=n4_;clear n0_ n1_ n2_ n3_ n4_;(try clear hb);(try clear hb2);(try clear hk);(try clear hi)) | ((with_reducible refine gate_callee (f:=15) rfl ?_);refine goesL_ (some 72) rfl rfl Try.func15 (by kernel_rfl) rfl #[.slice A0 l0.length c0] rfl (by (try simp only [zz26,zz27,zz28]);first | done | rfl | (simp only [zz24,zz25];rfl)) ?_;(with_reducible refine (laws_toIntS.calls kj35 _ _ l0 t228 _ ?side1 ?side2 A61.out).mono ?_);(case side1=>repeat (first | exact (Kd.C_below HR0.out HB.out) | (with_reducible refine zz18 ?_ _) | (with_reducible refine zz19 ?_ _) | (with_reducible refine zz20 ?_)));(case side2=>exact HC0.out);rintro e w69 ⟨v229,rfl,ho0,hb⟩;refine ⟨_,rfl,?_⟩;have n0_:=zz31 (Kd.R_below (by (with_reducible repeat (first | apply zz12 | apply zz13 | apply zz14));exact HO_208001.out) hb);have n1_:=zz31 (Kd.R_below (by (with_reducible repeat (first | apply zz12 | apply zz13 | apply zz14));exact HO_217001.out) hb);have n2_:=zz31 (Kd.R_lower ho0 (zz5 (by repeat first | exact HB.out | apply zz2 | apply zz0 | apply zz1 | refine zz3 ?_ GE207.out | refine zz3 ?_ GE216.out)));have n3_:=zz31 (zz11 (g:=gb207) (o:=.cells #[.int .i64 t202,.slice Ao13 t203.length co13] 32 (0,0)) (by (with_reducible repeat (first | refine zz6 ?_ _ | refine zz7 ?_ | refine zz8 ?_ _));exact BK207.out) hb);have n4_:=zz31 (zz11 (g:=gb216) (o:=.cells #[.int .i64 t211,.slice Ao20 t212.length co20] 32 (0,0)) (by (with_reducible repeat (first | refine zz6 ?_ _ | refine zz7 ?_ | refine zz8 ?_ _));exact BK216.out) hb);have n5_:=zz31 (zz4 (by repeat first | exact HB.out | apply zz2 | apply zz0 | apply zz1 | refine zz3 ?_ GE207.out | refine zz3 ?_ GE216.out) hb);clear HO_208001;clear HO_217001;clear BK207;clear BK216;clear HB;have HO_208001:=n0_;have HO_217001:=n1_;have HO230:=n2_;have BK207:=n3_;have BK216:=n4_;have HB:=n5_;clear n0_ n1_ n2_ n3_ n4_ n5_;(try clear hb);(try clear hb2);(try clear hk);(try clear hi);(try clear ho0);obtain ⟨Ao70,co70,eo70⟩:=Kd.R_slice HO230.out;subst eo70) | ((with_reducible refine gate_callee (f:=21) rfl ?_);refine goesL_ (some 73) rfl rfl Try.func21 (by kernel_rfl) rfl #[.slice Ao70 t228.length co70] rfl (by (try simp only [zz26,zz27,zz28]);first | done | rfl | (simp only [zz24,zz25];rfl)) ?_;(with_reducible refine (impl_FirstOfNumbers.calls kj35 _ _ t228 t231 t232 t235 _ ?side1 ?side2 A62.out).mono ?_);(case side1=>repeat (first | exact (Kd.R_reads' HO230.out).2.2 | (with_reducible refine zz18 ?_ _) | (with_reducible refine zz19 ?_ _) | (with_reducible refine zz20 ?_)));(case side2=>exact (Kd.R_reads' HO230.out).2.1);rintro e w71 ⟨v233,rfl,ho0,hb⟩;refine ⟨_,rfl,?_⟩;have n0_:=zz31 (Kd.R_elder' (by (with_reducible repeat (first | apply zz12 | apply zz13 | apply zz14));exact HO_208001.out) (Kd.R_base ho0) hb);have n1_:=zz31 (Kd.R_elder' (by (with_reducible repeat (first | apply zz12 | apply zz13 | apply zz14));exact HO_217001.out) (Kd.R_base ho0) hb);have n2_:=zz31 (Kd.R_below (by (with_reducible repeat (first | apply zz12 | apply zz13 | apply zz14));exact HO230.out) hb);have n3_:=zz31 (Kd.R_lower (Kd.R_new' (Kd.R_new' ho0 (Kd.R_lt (by (with_reducible repeat (first | apply zz12 | apply zz13 | apply zz14));exact HO_208001.out))) (Kd.R_lt (by (with_reducible repeat (first | apply zz12 | apply zz13 | apply zz14));exact HO_217001.out))) (zz5 (by repeat first | exact HB.out | apply zz2 | apply zz0 | apply zz1 | refine zz3 ?_ GE207.out | refine zz3 ?_ GE216.out)));have n4_:=zz31 (zz11 (g:=gb207) (o:=.cells #[.int .i64 t202,.slice Ao13 t203.length co13] 32 (0,0)) (by (with_reducible repeat (first | refine zz6 ?_ _ | refine zz7 ?_ | refine zz8 ?_ _));exact BK207.out) hb);have n5_:=zz31 (zz11 (g:=gb216) (o:=.cells #[.int .i64 t211,.slice Ao20 t212.length co20] 32 (0,0)) (by (with_reducible repeat (first | refine zz6 ?_ _ | refine zz7 ?_ | refine zz8 ?_ _));exact BK216.out) hb);have n6_:=zz31 (zz4 (by repeat first | exact HB.out | apply zz2 | apply zz0 | apply zz1 | refine zz3 ?_ GE207.out | refine zz3 ?_ GE216.out) hb);clear HO_208001;clear HO_217001;clear HO230;clear BK207;clear BK216;clear HB;have HO_208001:=n0_;have HO_217001:=n1_;have HO230:=n2_;have HO234:=n3_;have BK207:=n4_;have BK216:=n5_;have HB:=n6_;clear n0_ n1_ n2_ n3_ n4_ n5_ n6_;(try clear hb);(try clear hb2);(try clear hk);(try clear hi);(try clear ho0)) | ((with_reducible refine gate_dst (N:=11) rfl ?_);refine box_event ?hg (N:=11) ?hd (cs:=#[.int .i64 0,.slice none 0 0]) (t:=32) ?hr ?_;(case hd=>rfl);(case hg=>rfl);(case hr=>first | (go_simp;done) | (go_simp;rfl));intro gb236 hg w72 hbox hb;have n0_:=zz31 (Kd.R_below (by (with_reducible repeat (first | apply zz12 | apply zz13 | apply zz14));exact HO_208001.out) hb);have n1_:=zz31 (Kd.R_below (by (with_reducible repeat (first | apply zz12 | apply zz13 | apply zz14));exact HO_217001.out) hb);have n2_:=zz31 (Kd.R_below (by (with_reducible repeat (first | apply zz12 | apply zz13 | apply zz14));exact HO230.out) hb);have n3_:=zz31 (Kd.R_below (by (with_reducible repeat (first | apply zz12 | apply zz13 | apply zz14));exact HO234.out) hb);have n4_:=zz31 (zz11 (g:=gb207) (o:=.cells #[.int .i64 t202,.slice Ao13 t203.length co13] 32 (0,0)) (by (with_reducible repeat (first | refine zz6 ?_ _ | refine zz7 ?_ | refine zz8 ?_ _));exact BK207.out) hb);have n5_:=zz31 (zz11 (g:=gb216) (o:=.cells #[.int .i64 t211,.slice Ao20 t212.length co20] 32 (0,0)) (by (with_reducible repeat (first | refine zz6 ?_ _ | refine zz7 ?_ | refine zz8 ?_ _));exact BK216.out) hb);have n6_:=zz31 (zz4 (by repeat first | exact HB.out | apply zz2 | apply zz0 | apply zz1 | refine zz3 ?_ GE207.out | refine zz3 ?_ GE216.out) hb);have n7_:=zz31 (hbox);have n8_:=zz31 ((by rw [hg];exact (zz5 (by repeat first | exact HB.out | apply zz2 | apply zz0 | apply zz1 | refine zz3 ?_ GE207.out | refine zz3 ?_ GE216.out)):w.heap.size≤gb236));have n9_:=zz31 ((by rw [hg];exact (zz5 (by repeat first | exact HB.out | apply zz2 | apply zz0 | apply zz1 | refine zz3 ?_ GE207.out | refine zz3 ?_ GE216.out)):w.heap.size≤gb236));have n10_:=zz31 ((by rw [hg];exact Nat.ne_of_lt (blk_lt (g:=gb207) (o:=.cells #[.int .i64 t202,.slice Ao13 t203.length co13] 32 (0,0)) (by (with_reducible repeat (first | refine zz6 ?_ _ | refine zz7 ?_ | refine zz8 ?_ _));exact BK207.out)):gb207 ≠ gb236));have n11_:=zz31 ((by rw [hg];exact Nat.ne_of_gt (blk_lt (g:=gb207) (o:=.cells #[.int .i64 t202,.slice Ao13 t203.length co13] 32 (0,0)) (by (with_reducible repeat (first | refine zz6 ?_ _ | refine zz7 ?_ | refine zz8 ?_ _));exact BK207.out)):gb236 ≠ gb207));have n12_:=zz31 ((by rw [hg];exact Nat.ne_of_lt (blk_lt (g:=gb216) (o:=.cells #[.int .i64 t211,.slice Ao20 t212.length co20] 32 (0,0)) (by (with_reducible repeat (first | refine zz6 ?_ _ | refine zz7 ?_ | refine zz8 ?_ _));exact BK216.out)):gb216 ≠ gb236));have n13_:=zz31 ((by rw [hg];exact Nat.ne_of_gt (blk_lt (g:=gb216) (o:=.cells #[.int .i64 t211,.slice Ao20 t212.length co20] 32 (0,0)) (by (with_reducible repeat (first | refine zz6 ?_ _ | refine zz7 ?_ | refine zz8 ?_ _));exact BK216.out)):gb236 ≠ gb216));clear HO_208001;clear HO_217001;clear HO230;clear HO234;clear BK207;clear BK216;clear HB;have HO_208001:=n0_;have HO_217001:=n1_;have HO230:=n2_;have HO234:=n3_;have BK207:=n4_;have BK216:=n5_;have HB:=n6_;have BK236:=n7_;have GW236:=n8_;have GE236:=n9_;have NB207_236:=n10_;have NB236_207:=n11_;have NB216_236:=n12_;have NB236_216:=n13_;clear n0_ n1_ n2_ n3_ n4_ n5_ n6_ n7_ n8_ n9_ n10_ n11_ n12_ n13_;clear hb hbox hg;have hnb73:=NB236_207.out;have hnc73:=NB207_236.out;have hnb74:=NB236_216.out;have hnc74:=NB216_236.out;have hcz75_0:w72.cell? ⟨gb236,0,none⟩=some (.int .i64 0):=(zz9 BK236.out 0).trans rfl;have hcz75_1:w72.cell? ⟨gb236,1,none⟩=some (.slice none 0 0):=(zz9 BK236.out 1).trans rfl;have hfz75_0:=zz10 BK236.out 0;have hfz75_1:=zz10 BK236.out 1;obtain ⟨Ao76,co76,eo76⟩:=Kd.R_slice HO234.out;subst eo76))
           (try simp only [Act.put,zz21,zz22,zz23])
           go_cut [84] (fun v84 wc=>∃ (kq:Nat) (x84_62:Bool),v84=.bool x84_62∧Aside0 (laws_FnExactFirstOfNumbers.j2 kq t225 x84_62 t211 t226=some r)∧Aside0 (kq≤kj35)∧Aside0 (Kd.R k80 80 wc w.heap.size (fun k_=>some k_ ≠ ((.slice Ao20 t212.length co20):Value).ownBlock∧some k_ ≠ ((.slice Ao76 t232.length co76):Value).ownBlock) (.slice Ao13 t203.length co13) t203)∧Aside0 (Kd.R k80 80 wc w.heap.size (fun k_=>some k_ ≠ ((.slice Ao13 t203.length co13):Value).ownBlock∧some k_ ≠ ((.slice Ao76 t232.length co76):Value).ownBlock) (.slice Ao20 t212.length co20) t226)∧Aside0 (Kd.R k80 80 wc w.heap.size (fun k_=>some k_ ≠ ((.slice Ao13 t203.length co13):Value).ownBlock∧some k_ ≠ ((.slice Ao20 t212.length co20):Value).ownBlock) (.slice Ao76 t232.length co76) t232)∧Aside0 (wc.heap[gb207]?=some (.cells #[.int .i64 t202,(.slice Ao13 t203.length co13)] 32 (0,0)))∧Aside0 (wc.heap[gb216]?=some (.cells #[.int .i64 t211,(.slice Ao20 t212.length co20)] 32 (0,0)))∧Aside0 (wc.heap[gb236]?=some (.cells #[.int .i64 t231,(.slice Ao76 t232.length co76)] 32 (0,0)))∧Aside0 (Below w.heap.size w wc))
           case first =>
            have H:=HC63.out
            clear HC63
            replace H:=zz30.mp H
            obtain ⟨t237,A770,H⟩:=H
            replace H:(if t237=true then (laws_FnExactFirstOfNumbers.j2 kj35 t225 (t235 != t206) t211 t226) else (laws_FnExactFirstOfNumbers.j2 kj35 t225 true t211 t226))=some r:=H
            have A77:=zz31 A770
            clear A770
            by_cases c78:t237=true
            ·subst c78
             have H1:(laws_FnExactFirstOfNumbers.j2 kj35 t225 (t235 != t206) t211 t226)=some r:=by rw [if_pos rfl] at H;exact H
             clear H
             have H:=H1
             clear H1
             have H':=zz31 H
             clear H
             have hnb79:=NB236_207.out
             have hnc79:=NB207_236.out
             have hnb80:=NB236_216.out
             have hnc80:=NB216_236.out
             have hcz81_0:w72.cell? ⟨gb236,0,none⟩=some (.int .i64 0):=(zz9 BK236.out 0).trans rfl
             have hcz81_1:w72.cell? ⟨gb236,1,none⟩=some (.slice none 0 0):=(zz9 BK236.out 1).trans rfl
             have hfz81_0:=zz10 BK236.out 0
             have hfz81_1:=zz10 BK236.out 1
             have hnb82:=NB207_216.out
             have hnc82:=NB216_207.out
             have hcz83_0:w72.cell? ⟨gb207,0,none⟩=some (.int .i64 t202):=(zz9 BK207.out 0).trans rfl
             have hcz83_1:w72.cell? ⟨gb207,1,none⟩=some (.slice Ao13 t203.length co13):=(zz9 BK207.out 1).trans rfl
             have hfz83_0:=zz10 BK207.out 0
             have hfz83_1:=zz10 BK207.out 1
             go_wp2_with (first | ((with_reducible refine gate_callee (f:=22) rfl ?_);refine goesL_ (some 78) rfl rfl Try.func22 (by kernel_rfl) rfl #[.agg #[.int .i64 t231,.slice Ao76 t232.length co76],.agg #[.int .i64 t202,.slice Ao13 t203.length co13]] rfl (by (try simp only [zz26,zz27,zz28]);first | done | rfl | (simp only [zz24,zz25];rfl)) ?_;(with_reducible refine (laws_eqParty.calls kj35 t231 _ _ t232 t202 _ _ t203 true _ ?side1 ?side2 ?side3 ?side4 A77.out).mono ?_);(case side1=>refine (Kd.R_reads' (e:=80) (base:=w.heap.size) (ok:=fun k_=>((True∧some k_ ≠ (.slice Ao13 t203.length co13:Value).ownBlock)∧some k_ ≠ (.slice Ao20 t212.length co20:Value).ownBlock)) (n:=t232.length) (c:=co76) ?_).2.2;exact (by (with_reducible repeat (first | apply zz12 | apply zz13 | apply zz14));exact (Kd.R_mono (Kd.R_far (p:=⟨gb236,1,none⟩) (Kd.R_far (p:=⟨gb236,0,none⟩) (Kd.R_types HO234.out BK236.out (by decide)) (fun _ hk=>hk.2) (.int .i64 t231)) (fun _ hk=>hk.2) (.slice Ao76 t232.length co76)) (fun _ h_=>h_.1))));(case side2=>exact (Kd.R_reads' HO234.out).2.1);(case side3=>refine (Kd.R_reads' (e:=80) (base:=w.heap.size) (ok:=fun k_=>(some k_ ≠ (.slice Ao20 t212.length co20:Value).ownBlock∧some k_ ≠ (.slice Ao76 t232.length co76:Value).ownBlock)) (n:=t203.length) (c:=co13) ?_).2.2;exact (by (with_reducible repeat (first | apply zz12 | apply zz13 | apply zz14));exact (Kd.R_mono (Kd.R_far (p:=⟨gb236,1,none⟩) (Kd.R_far (p:=⟨gb236,0,none⟩) (Kd.R_types HO_208001.out BK236.out (by decide)) (fun _ hk=>hk.2) (.int .i64 t231)) (fun _ hk=>hk.2) (.slice Ao76 t232.length co76)) (fun _ h_=>h_.1))));(case side4=>exact (Kd.R_reads' HO_208001.out).2.1);rintro e w84 ⟨rfl,hb⟩;refine ⟨_,rfl,?_⟩;have n0_:=zz31 (Kd.R_below (by (with_reducible repeat (first | apply zz12 | apply zz13 | apply zz14));exact (Kd.R_mono (Kd.R_far (p:=⟨gb236,1,none⟩) (Kd.R_far (p:=⟨gb236,0,none⟩) (Kd.R_types HO_208001.out BK236.out (by decide)) (fun _ hk=>hk.2) (.int .i64 t231)) (fun _ hk=>hk.2) (.slice Ao76 t232.length co76)) (fun _ h_=>h_.1))) hb);have n1_:=zz31 (Kd.R_below (by (with_reducible repeat (first | apply zz12 | apply zz13 | apply zz14));exact (Kd.R_mono (Kd.R_far (p:=⟨gb236,1,none⟩) (Kd.R_far (p:=⟨gb236,0,none⟩) (Kd.R_types HO_217001.out BK236.out (by decide)) (fun _ hk=>hk.2) (.int .i64 t231)) (fun _ hk=>hk.2) (.slice Ao76 t232.length co76)) (fun _ h_=>h_.1))) hb);have n2_:=zz31 (Kd.R_below (by (with_reducible repeat (first | apply zz12 | apply zz13 | apply zz14));exact (Kd.R_mono (Kd.R_far (p:=⟨gb236,1,none⟩) (Kd.R_far (p:=⟨gb236,0,none⟩) (Kd.R_types HO230.out BK236.out (by decide)) (fun _ hk=>hk.2) (.int .i64 t231)) (fun _ hk=>hk.2) (.slice Ao76 t232.length co76)) (fun _ h_=>h_.1))) hb);have n3_:=zz31 (Kd.R_below (by (with_reducible repeat (first | apply zz12 | apply zz13 | apply zz14));exact (Kd.R_mono (Kd.R_far (p:=⟨gb236,1,none⟩) (Kd.R_far (p:=⟨gb236,0,none⟩) (Kd.R_types HO234.out BK236.out (by decide)) (fun _ hk=>hk.2) (.int .i64 t231)) (fun _ hk=>hk.2) (.slice Ao76 t232.length co76)) (fun _ h_=>h_.1))) hb);have n4_:=zz31 (zz11 (g:=gb207) (o:=.cells #[.int .i64 t202,.slice Ao13 t203.length co13] 32 (0,0)) (by (with_reducible repeat (first | refine zz6 ?_ _ | refine zz7 ?_ | refine zz8 ?_ _));refine blk_far ?_ NB207_236.out _;(with_reducible repeat (first | refine zz6 ?_ _ | refine zz7 ?_ | refine zz8 ?_ _));refine blk_far ?_ NB207_236.out _;(with_reducible repeat (first | refine zz6 ?_ _ | refine zz7 ?_ | refine zz8 ?_ _));exact BK207.out) hb);have n5_:=zz31 (zz11 (g:=gb216) (o:=.cells #[.int .i64 t211,.slice Ao20 t212.length co20] 32 (0,0)) (by (with_reducible repeat (first | refine zz6 ?_ _ | refine zz7 ?_ | refine zz8 ?_ _));refine blk_far ?_ NB216_236.out _;(with_reducible repeat (first | refine zz6 ?_ _ | refine zz7 ?_ | refine zz8 ?_ _));refine blk_far ?_ NB216_236.out _;(with_reducible repeat (first | refine zz6 ?_ _ | refine zz7 ?_ | refine zz8 ?_ _));exact BK216.out) hb);have n6_:=zz31 (zz11 (g:=gb236) (o:=.cells #[.int .i64 t231,.slice Ao76 t232.length co76] 32 (0,0)) (by (with_reducible repeat (first | refine zz6 ?_ _ | refine zz7 ?_ | refine zz8 ?_ _));refine blk_put (cs:=#[.int .i64 t231,.slice none 0 0]) ?_ 1 _ rfl;(with_reducible repeat (first | refine zz6 ?_ _ | refine zz7 ?_ | refine zz8 ?_ _));refine blk_put (cs:=#[.int .i64 0,.slice none 0 0]) ?_ 0 _ rfl;(with_reducible repeat (first | refine zz6 ?_ _ | refine zz7 ?_ | refine zz8 ?_ _));exact BK236.out) hb);have n7_:=zz31 (zz4 (by repeat first | exact HB.out | apply zz2 | apply zz0 | apply zz1 | refine zz3 ?_ GE207.out | refine zz3 ?_ GE216.out | refine zz3 ?_ GE236.out) hb);clear HO_208001;clear HO_217001;clear HO230;clear HO234;clear BK207;clear BK216;clear BK236;clear HB;have HO_208001:=n0_;have HO_217001:=n1_;have HO230:=n2_;have HO234:=n3_;have BK207:=n4_;have BK216:=n5_;have BK236:=n6_;have HB:=n7_;clear n0_ n1_ n2_ n3_ n4_ n5_ n6_ n7_;(try clear hb);(try clear hb2);(try clear hk);(try clear hi)))
             go_meet
             case rel=>exact ⟨_,((t235 != t206)),(by first | rfl | (simp;done) | (simp [*];done)),H',⟨by have:=HJ6.out;have:=HJ35.out;first | omega | exact Nat.le_refl _⟩,⟨by (with_reducible repeat (first | apply zz12 | apply zz13 | apply zz14));exact HO_208001.out⟩,⟨by (with_reducible repeat (first | apply zz12 | apply zz13 | apply zz14));exact HO_217001.out⟩,⟨by (with_reducible repeat (first | apply zz12 | apply zz13 | apply zz14));exact Kd.R_mono HO234.out (fun _ hk=>⟨hk.1.2,hk.2⟩)⟩,⟨by (with_reducible repeat (first | refine zz6 ?_ _ | refine zz7 ?_ | refine zz8 ?_ _));exact BK207.out⟩,⟨by (with_reducible repeat (first | refine zz6 ?_ _ | refine zz7 ?_ | refine zz8 ?_ _));exact BK216.out⟩,⟨by (with_reducible repeat (first | refine zz6 ?_ _ | refine zz7 ?_ | refine zz8 ?_ _));exact BK236.out⟩,⟨by repeat first | exact HB.out | apply zz2 | apply zz0 | apply zz1 | refine zz3 ?_ GE207.out | refine zz3 ?_ GE216.out | refine zz3 ?_ GE236.out⟩⟩
            ·replace c78:=Bool.eq_false_iff.mpr c78
             subst c78
             have H1:(laws_FnExactFirstOfNumbers.j2 kj35 t225 true t211 t226)=some r:=by rw [if_neg (show ¬ (false=true) by decide)] at H;exact H
             clear H
             have H:=H1
             clear H1
             have H':=zz31 H
             clear H
             have hnb85:=NB236_207.out
             have hnc85:=NB207_236.out
             have hnb86:=NB236_216.out
             have hnc86:=NB216_236.out
             have hcz87_0:w72.cell? ⟨gb236,0,none⟩=some (.int .i64 0):=(zz9 BK236.out 0).trans rfl
             have hcz87_1:w72.cell? ⟨gb236,1,none⟩=some (.slice none 0 0):=(zz9 BK236.out 1).trans rfl
             have hfz87_0:=zz10 BK236.out 0
             have hfz87_1:=zz10 BK236.out 1
             have hnb88:=NB207_216.out
             have hnc88:=NB216_207.out
             have hcz89_0:w72.cell? ⟨gb207,0,none⟩=some (.int .i64 t202):=(zz9 BK207.out 0).trans rfl
             have hcz89_1:w72.cell? ⟨gb207,1,none⟩=some (.slice Ao13 t203.length co13):=(zz9 BK207.out 1).trans rfl
             have hfz89_0:=zz10 BK207.out 0
             have hfz89_1:=zz10 BK207.out 1
             go_wp2_with (first | ((with_reducible refine gate_callee (f:=22) rfl ?_);refine goesL_ (some 78) rfl rfl Try.func22 (by kernel_rfl) rfl #[.agg #[.int .i64 t231,.slice Ao76 t232.length co76],.agg #[.int .i64 t202,.slice Ao13 t203.length co13]] rfl (by (try simp only [zz26,zz27,zz28]);first | done | rfl | (simp only [zz24,zz25];rfl)) ?_;(with_reducible refine (laws_eqParty.calls kj35 t231 _ _ t232 t202 _ _ t203 false _ ?side1 ?side2 ?side3 ?side4 A77.out).mono ?_);(case side1=>refine (Kd.R_reads' (e:=80) (base:=w.heap.size) (ok:=fun k_=>((True∧some k_ ≠ (.slice Ao13 t203.length co13:Value).ownBlock)∧some k_ ≠ (.slice Ao20 t212.length co20:Value).ownBlock)) (n:=t232.length) (c:=co76) ?_).2.2;exact (by (with_reducible repeat (first | apply zz12 | apply zz13 | apply zz14));exact (Kd.R_mono (Kd.R_far (p:=⟨gb236,1,none⟩) (Kd.R_far (p:=⟨gb236,0,none⟩) (Kd.R_types HO234.out BK236.out (by decide)) (fun _ hk=>hk.2) (.int .i64 t231)) (fun _ hk=>hk.2) (.slice Ao76 t232.length co76)) (fun _ h_=>h_.1))));(case side2=>exact (Kd.R_reads' HO234.out).2.1);(case side3=>refine (Kd.R_reads' (e:=80) (base:=w.heap.size) (ok:=fun k_=>(some k_ ≠ (.slice Ao20 t212.length co20:Value).ownBlock∧some k_ ≠ (.slice Ao76 t232.length co76:Value).ownBlock)) (n:=t203.length) (c:=co13) ?_).2.2;exact (by (with_reducible repeat (first | apply zz12 | apply zz13 | apply zz14));exact (Kd.R_mono (Kd.R_far (p:=⟨gb236,1,none⟩) (Kd.R_far (p:=⟨gb236,0,none⟩) (Kd.R_types HO_208001.out BK236.out (by decide)) (fun _ hk=>hk.2) (.int .i64 t231)) (fun _ hk=>hk.2) (.slice Ao76 t232.length co76)) (fun _ h_=>h_.1))));(case side4=>exact (Kd.R_reads' HO_208001.out).2.1);rintro e w90 ⟨rfl,hb⟩;refine ⟨_,rfl,?_⟩;have n0_:=zz31 (Kd.R_below (by (with_reducible repeat (first | apply zz12 | apply zz13 | apply zz14));exact (Kd.R_mono (Kd.R_far (p:=⟨gb236,1,none⟩) (Kd.R_far (p:=⟨gb236,0,none⟩) (Kd.R_types HO_208001.out BK236.out (by decide)) (fun _ hk=>hk.2) (.int .i64 t231)) (fun _ hk=>hk.2) (.slice Ao76 t232.length co76)) (fun _ h_=>h_.1))) hb);have n1_:=zz31 (Kd.R_below (by (with_reducible repeat (first | apply zz12 | apply zz13 | apply zz14));exact (Kd.R_mono (Kd.R_far (p:=⟨gb236,1,none⟩) (Kd.R_far (p:=⟨gb236,0,none⟩) (Kd.R_types HO_217001.out BK236.out (by decide)) (fun _ hk=>hk.2) (.int .i64 t231)) (fun _ hk=>hk.2) (.slice Ao76 t232.length co76)) (fun _ h_=>h_.1))) hb);have n2_:=zz31 (Kd.R_below (by (with_reducible repeat (first | apply zz12 | apply zz13 | apply zz14));exact (Kd.R_mono (Kd.R_far (p:=⟨gb236,1,none⟩) (Kd.R_far (p:=⟨gb236,0,none⟩) (Kd.R_types HO230.out BK236.out (by decide)) (fun _ hk=>hk.2) (.int .i64 t231)) (fun _ hk=>hk.2) (.slice Ao76 t232.length co76)) (fun _ h_=>h_.1))) hb);have n3_:=zz31 (Kd.R_below (by (with_reducible repeat (first | apply zz12 | apply zz13 | apply zz14));exact (Kd.R_mono (Kd.R_far (p:=⟨gb236,1,none⟩) (Kd.R_far (p:=⟨gb236,0,none⟩) (Kd.R_types HO234.out BK236.out (by decide)) (fun _ hk=>hk.2) (.int .i64 t231)) (fun _ hk=>hk.2) (.slice Ao76 t232.length co76)) (fun _ h_=>h_.1))) hb);have n4_:=zz31 (zz11 (g:=gb207) (o:=.cells #[.int .i64 t202,.slice Ao13 t203.length co13] 32 (0,0)) (by (with_reducible repeat (first | refine zz6 ?_ _ | refine zz7 ?_ | refine zz8 ?_ _));refine blk_far ?_ NB207_236.out _;(with_reducible repeat (first | refine zz6 ?_ _ | refine zz7 ?_ | refine zz8 ?_ _));refine blk_far ?_ NB207_236.out _;(with_reducible repeat (first | refine zz6 ?_ _ | refine zz7 ?_ | refine zz8 ?_ _));exact BK207.out) hb);have n5_:=zz31 (zz11 (g:=gb216) (o:=.cells #[.int .i64 t211,.slice Ao20 t212.length co20] 32 (0,0)) (by (with_reducible repeat (first | refine zz6 ?_ _ | refine zz7 ?_ | refine zz8 ?_ _));refine blk_far ?_ NB216_236.out _;(with_reducible repeat (first | refine zz6 ?_ _ | refine zz7 ?_ | refine zz8 ?_ _));refine blk_far ?_ NB216_236.out _;(with_reducible repeat (first | refine zz6 ?_ _ | refine zz7 ?_ | refine zz8 ?_ _));exact BK216.out) hb);have n6_:=zz31 (zz11 (g:=gb236) (o:=.cells #[.int .i64 t231,.slice Ao76 t232.length co76] 32 (0,0)) (by (with_reducible repeat (first | refine zz6 ?_ _ | refine zz7 ?_ | refine zz8 ?_ _));refine blk_put (cs:=#[.int .i64 t231,.slice none 0 0]) ?_ 1 _ rfl;(with_reducible repeat (first | refine zz6 ?_ _ | refine zz7 ?_ | refine zz8 ?_ _));refine blk_put (cs:=#[.int .i64 0,.slice none 0 0]) ?_ 0 _ rfl;(with_reducible repeat (first | refine zz6 ?_ _ | refine zz7 ?_ | refine zz8 ?_ _));exact BK236.out) hb);have n7_:=zz31 (zz4 (by repeat first | exact HB.out | apply zz2 | apply zz0 | apply zz1 | refine zz3 ?_ GE207.out | refine zz3 ?_ GE216.out | refine zz3 ?_ GE236.out) hb);clear HO_208001;clear HO_217001;clear HO230;clear HO234;clear BK207;clear BK216;clear BK236;clear HB;have HO_208001:=n0_;have HO_217001:=n1_;have HO230:=n2_;have HO234:=n3_;have BK207:=n4_;have BK216:=n5_;have BK236:=n6_;have HB:=n7_;clear n0_ n1_ n2_ n3_ n4_ n5_ n6_ n7_;(try clear hb);(try clear hb2);(try clear hk);(try clear hi)))
             go_meet
             case rel=>exact ⟨_,(true),(by first | rfl | (simp;done) | (simp [*];done)),H',⟨by have:=HJ6.out;have:=HJ35.out;first | omega | exact Nat.le_refl _⟩,⟨by (with_reducible repeat (first | apply zz12 | apply zz13 | apply zz14));exact HO_208001.out⟩,⟨by (with_reducible repeat (first | apply zz12 | apply zz13 | apply zz14));exact HO_217001.out⟩,⟨by (with_reducible repeat (first | apply zz12 | apply zz13 | apply zz14));exact Kd.R_mono HO234.out (fun _ hk=>⟨hk.1.2,hk.2⟩)⟩,⟨by (with_reducible repeat (first | refine zz6 ?_ _ | refine zz7 ?_ | refine zz8 ?_ _));exact BK207.out⟩,⟨by (with_reducible repeat (first | refine zz6 ?_ _ | refine zz7 ?_ | refine zz8 ?_ _));exact BK216.out⟩,⟨by (with_reducible repeat (first | refine zz6 ?_ _ | refine zz7 ?_ | refine zz8 ?_ _));exact BK236.out⟩,⟨by repeat first | exact HB.out | apply zz2 | apply zz0 | apply zz1 | refine zz3 ?_ GE207.out | refine zz3 ?_ GE216.out | refine zz3 ?_ GE236.out⟩⟩
           case rest =>
            clear HC63
            try clear c1
            try clear c2
            try clear c2b0
            try clear c2b1
            try clear p2
            try clear c3
            try clear c4
            try clear c5
            try clear c6
            try clear c7
            try clear c8
            try clear c15
            try clear c17
            try clear c18
            try clear c20
            try clear c21
            try clear c22
            try clear c23
            try clear c24
            try clear c25
            try clear c27
            try clear c31
            try clear c34
            try clear c40
            try clear c40b0
            try clear c42
            try clear c43
            try clear c47
            try clear c51
            try clear c54
            try clear c54b0
            try clear c55
            try clear c60
            try clear c60b0
            try clear c60b1
            try clear c64
            try clear c73
            try clear c74
            try clear c78
            try clear c79
            try clear c80
            try clear c82
            try clear c85
            try clear c86
            try clear c88
            try clear hcz12_0
            try clear hcz12_1
            try clear hcz19_0
            try clear hcz19_1
            try clear hcz24_0
            try clear hcz24_1
            try clear hcz25_0
            try clear hcz25_1
            try clear hcz28_0
            try clear hcz28_1
            try clear hcz29_0
            try clear hcz29_1
            try clear hcz44_0
            try clear hcz44_1
            try clear hcz45_0
            try clear hcz45_1
            try clear hcz48_0
            try clear hcz48_1
            try clear hcz49_0
            try clear hcz49_1
            try clear hcz56_0
            try clear hcz56_1
            try clear hcz58_0
            try clear hcz58_1
            try clear hcz65_0
            try clear hcz65_1
            try clear hcz67_0
            try clear hcz67_1
            try clear hcz75_0
            try clear hcz75_1
            try clear hcz81_0
            try clear hcz81_1
            try clear hcz83_0
            try clear hcz83_1
            try clear hcz87_0
            try clear hcz87_1
            try clear hcz89_0
            try clear hcz89_1
            try clear hfz12_0
            try clear hfz12_1
            try clear hfz19_0
            try clear hfz19_1
            try clear hfz24_0
            try clear hfz24_1
            try clear hfz25_0
            try clear hfz25_1
            try clear hfz28_0
            try clear hfz28_1
            try clear hfz29_0
            try clear hfz29_1
            try clear hfz44_0
            try clear hfz44_1
            try clear hfz45_0
            try clear hfz45_1
            try clear hfz48_0
            try clear hfz48_1
            try clear hfz49_0
            try clear hfz49_1
            try clear hfz56_0
            try clear hfz56_1
            try clear hfz58_0
            try clear hfz58_1
            try clear hfz65_0
            try clear hfz65_1
            try clear hfz67_0
            try clear hfz67_1
            try clear hfz75_0
            try clear hfz75_1
            try clear hfz81_0
            try clear hfz81_1
            try clear hfz83_0
            try clear hfz83_1
            try clear hfz87_0
            try clear hfz87_1
            try clear hfz89_0
            try clear hfz89_1
            try clear p2
            obtain ⟨kq,x84_62,rfl,HA,HJ62,HO_208001,HO_217001,HO_237001,BK207,BK216,BK236,HB⟩:=hcut
            have hl217001_62:=(Kd.R_reads' HO_217001.out).1
            rw [hl217001_62] at HO_217001
            (try simp only [hl217001_62])
            (try simp only [hl217001_62] at BK207)
            (try simp only [hl217001_62] at BK216)
            (try simp only [hl217001_62] at BK236)
            (try simp only [hl217001_62] at HO_208001)
            (try simp only [hl217001_62] at HO_237001)
            cases kq with
            | zero=>exact absurd HA.out (by simp [laws_FnExactFirstOfNumbers.j2])
            | succ kj62 =>
             have H:=HA.out
             clear HA
             simp only [laws_FnExactFirstOfNumbers.j2] at H
             by_cases c91:x84_62=true
             ·subst c91
              have H1:(some false)=some r:=by rw [if_pos rfl] at H;exact H
              clear H
              have H:=H1
              clear H1
              obtain rfl:=Option.some.inj H
              go_wp2
              go_ret
              exact ⟨by first | rfl | (simp [errW_none,errW_some] <;> rfl) | (simp [*,errW_none,errW_some] <;> rfl),by repeat first | exact HB.out | apply zz2 | apply zz0 | apply zz1 | refine zz3 ?_ GE207.out | refine zz3 ?_ GE216.out | refine zz3 ?_ GE236.out⟩
             ·replace c91:=Bool.eq_false_iff.mpr c91
              subst c91
              have H1:((laws_heldParty.f kj62 t211 t226 1).bind fun t238=>(if t238 < 0 then (some false) else (if t238=t225 then (some true) else (some false))))=some r:=by rw [if_neg (show ¬ (false=true) by decide)] at H;exact H
              clear H
              have H:=H1
              clear H1
              replace H:=zz30.mp H
              obtain ⟨t238,A920,H⟩:=H
              replace H:(if t238 < 0 then (some false) else (if t238=t225 then (some true) else (some false)))=some r:=H
              have A92:=zz31 A920
              clear A920
              by_cases c93:t238 < 0
              ·rw [if_pos c93] at H
               have c93b0:decide (t238 < 0)=true:=decide_eq_true c93
               clear c93
               obtain rfl:=Option.some.inj H
               have hnb94:=NB216_207.out
               have hnc94:=NB207_216.out
               have hnb95:=NB216_236.out
               have hnc95:=NB236_216.out
               have hcz96_0:wc.cell? ⟨gb216,0,none⟩=some (.int .i64 t211):=(zz9 BK216.out 0).trans rfl
               have hcz96_1:wc.cell? ⟨gb216,1,none⟩=some (.slice Ao20 t226.length co20):=(zz9 BK216.out 1).trans rfl
               have hfz96_0:=zz10 BK216.out 0
               have hfz96_1:=zz10 BK216.out 1
               go_wp2_with (first | ((with_reducible refine gate_callee (f:=25) rfl ?_);refine goesL_ (some 87) rfl rfl Try.func25 (by kernel_rfl) rfl #[.agg #[.int .i64 t211,.slice Ao20 t226.length co20],.int .i64 1] rfl (by (try simp only [zz26,zz27,zz28]);first | done | rfl | (simp only [zz24,zz25];rfl)) ?_;(with_reducible refine (laws_heldParty.calls kj62 t211 _ _ t226 1 t238 _ ?side1 ?side2 A92.out).mono ?_);(case side1=>repeat (first | exact (Kd.R_reads' HO_217001.out).2.2 | (with_reducible refine zz18 ?_ _) | (with_reducible refine zz19 ?_ _) | (with_reducible refine zz20 ?_)));(case side2=>exact (Kd.R_reads' HO_217001.out).2.1);rintro e w97 ⟨rfl,hb⟩;refine ⟨_,rfl,?_⟩;have n0_:=zz31 (Kd.R_below (by (with_reducible repeat (first | apply zz12 | apply zz13 | apply zz14));exact HO_208001.out) hb);have n1_:=zz31 (Kd.R_below (by (with_reducible repeat (first | apply zz12 | apply zz13 | apply zz14));exact HO_217001.out) hb);have n2_:=zz31 (Kd.R_below (by (with_reducible repeat (first | apply zz12 | apply zz13 | apply zz14));exact HO_237001.out) hb);have n3_:=zz31 (zz11 (g:=gb207) (o:=.cells #[.int .i64 t202,.slice Ao13 t203.length co13] 32 (0,0)) (by (with_reducible repeat (first | refine zz6 ?_ _ | refine zz7 ?_ | refine zz8 ?_ _));exact BK207.out) hb);have n4_:=zz31 (zz11 (g:=gb216) (o:=.cells #[.int .i64 t211,.slice Ao20 t226.length co20] 32 (0,0)) (by (with_reducible repeat (first | refine zz6 ?_ _ | refine zz7 ?_ | refine zz8 ?_ _));exact BK216.out) hb);have n5_:=zz31 (zz11 (g:=gb236) (o:=.cells #[.int .i64 t231,.slice Ao76 t232.length co76] 32 (0,0)) (by (with_reducible repeat (first | refine zz6 ?_ _ | refine zz7 ?_ | refine zz8 ?_ _));exact BK236.out) hb);have n6_:=zz31 (zz4 (by repeat first | exact HB.out | apply zz2 | apply zz0 | apply zz1 | refine zz3 ?_ GE207.out | refine zz3 ?_ GE216.out | refine zz3 ?_ GE236.out) hb);clear HO_208001;clear HO_217001;clear HO_237001;clear BK207;clear BK216;clear BK236;clear HB;have HO_208001:=n0_;have HO_217001:=n1_;have HO_237001:=n2_;have BK207:=n3_;have BK216:=n4_;have BK236:=n5_;have HB:=n6_;clear n0_ n1_ n2_ n3_ n4_ n5_ n6_;(try clear hb);(try clear hb2);(try clear hk);(try clear hi)))
               go_ret
               exact ⟨by first | rfl | (simp [errW_none,errW_some] <;> rfl) | (simp [*,errW_none,errW_some] <;> rfl),by repeat first | exact HB.out | apply zz2 | apply zz0 | apply zz1 | refine zz3 ?_ GE207.out | refine zz3 ?_ GE216.out | refine zz3 ?_ GE236.out⟩
              ·rw [if_neg c93] at H
               have c93b0:decide (t238 < 0)=false:=decide_eq_false c93
               clear c93
               by_cases c98:t238=t225
               ·rw [if_pos c98] at H
                have c98b0:(t238 == t225)=true:=beq_iff_eq.mpr c98
                have c98b1:(t238 != t225)=false:=bne_eq_false_iff_eq.mpr c98
                clear c98
                obtain rfl:=Option.some.inj H
                have hnb99:=NB216_207.out
                have hnc99:=NB207_216.out
                have hnb100:=NB216_236.out
                have hnc100:=NB236_216.out
                have hcz101_0:wc.cell? ⟨gb216,0,none⟩=some (.int .i64 t211):=(zz9 BK216.out 0).trans rfl
                have hcz101_1:wc.cell? ⟨gb216,1,none⟩=some (.slice Ao20 t226.length co20):=(zz9 BK216.out 1).trans rfl
                have hfz101_0:=zz10 BK216.out 0
                have hfz101_1:=zz10 BK216.out 1
                go_wp2_with (first | ((with_reducible refine gate_callee (f:=25) rfl ?_);refine goesL_ (some 87) rfl rfl Try.func25 (by kernel_rfl) rfl #[.agg #[.int .i64 t211,.slice Ao20 t226.length co20],.int .i64 1] rfl (by (try simp only [zz26,zz27,zz28]);first | done | rfl | (simp only [zz24,zz25];rfl)) ?_;(with_reducible refine (laws_heldParty.calls kj62 t211 _ _ t226 1 t238 _ ?side1 ?side2 A92.out).mono ?_);(case side1=>repeat (first | exact (Kd.R_reads' HO_217001.out).2.2 | (with_reducible refine zz18 ?_ _) | (with_reducible refine zz19 ?_ _) | (with_reducible refine zz20 ?_)));(case side2=>exact (Kd.R_reads' HO_217001.out).2.1);rintro e w102 ⟨rfl,hb⟩;refine ⟨_,rfl,?_⟩;have n0_:=zz31 (Kd.R_below (by (with_reducible repeat (first | apply zz12 | apply zz13 | apply zz14));exact HO_208001.out) hb);have n1_:=zz31 (Kd.R_below (by (with_reducible repeat (first | apply zz12 | apply zz13 | apply zz14));exact HO_217001.out) hb);have n2_:=zz31 (Kd.R_below (by (with_reducible repeat (first | apply zz12 | apply zz13 | apply zz14));exact HO_237001.out) hb);have n3_:=zz31 (zz11 (g:=gb207) (o:=.cells #[.int .i64 t202,.slice Ao13 t203.length co13] 32 (0,0)) (by (with_reducible repeat (first | refine zz6 ?_ _ | refine zz7 ?_ | refine zz8 ?_ _));exact BK207.out) hb);have n4_:=zz31 (zz11 (g:=gb216) (o:=.cells #[.int .i64 t211,.slice Ao20 t226.length co20] 32 (0,0)) (by (with_reducible repeat (first | refine zz6 ?_ _ | refine zz7 ?_ | refine zz8 ?_ _));exact BK216.out) hb);have n5_:=zz31 (zz11 (g:=gb236) (o:=.cells #[.int .i64 t231,.slice Ao76 t232.length co76] 32 (0,0)) (by (with_reducible repeat (first | refine zz6 ?_ _ | refine zz7 ?_ | refine zz8 ?_ _));exact BK236.out) hb);have n6_:=zz31 (zz4 (by repeat first | exact HB.out | apply zz2 | apply zz0 | apply zz1 | refine zz3 ?_ GE207.out | refine zz3 ?_ GE216.out | refine zz3 ?_ GE236.out) hb);clear HO_208001;clear HO_217001;clear HO_237001;clear BK207;clear BK216;clear BK236;clear HB;have HO_208001:=n0_;have HO_217001:=n1_;have HO_237001:=n2_;have BK207:=n3_;have BK216:=n4_;have BK236:=n5_;have HB:=n6_;clear n0_ n1_ n2_ n3_ n4_ n5_ n6_;(try clear hb);(try clear hb2);(try clear hk);(try clear hi)))
                go_ret
                exact ⟨by first | rfl | (simp [errW_none,errW_some] <;> rfl) | (simp [*,errW_none,errW_some] <;> rfl),by repeat first | exact HB.out | apply zz2 | apply zz0 | apply zz1 | refine zz3 ?_ GE207.out | refine zz3 ?_ GE216.out | refine zz3 ?_ GE236.out⟩
               ·rw [if_neg c98] at H
                have c98b0:(t238 == t225)=false:=beq_eq_false_iff_ne.mpr c98
                have c98b1:(t238 != t225)=true:=bne_iff_ne.mpr c98
                obtain rfl:=Option.some.inj H
                have hnb103:=NB216_207.out
                have hnc103:=NB207_216.out
                have hnb104:=NB216_236.out
                have hnc104:=NB236_216.out
                have hcz105_0:wc.cell? ⟨gb216,0,none⟩=some (.int .i64 t211):=(zz9 BK216.out 0).trans rfl
                have hcz105_1:wc.cell? ⟨gb216,1,none⟩=some (.slice Ao20 t226.length co20):=(zz9 BK216.out 1).trans rfl
                have hfz105_0:=zz10 BK216.out 0
                have hfz105_1:=zz10 BK216.out 1
                go_wp2_with (first | ((with_reducible refine gate_callee (f:=25) rfl ?_);refine goesL_ (some 87) rfl rfl Try.func25 (by kernel_rfl) rfl #[.agg #[.int .i64 t211,.slice Ao20 t226.length co20],.int .i64 1] rfl (by (try simp only [zz26,zz27,zz28]);first | done | rfl | (simp only [zz24,zz25];rfl)) ?_;(with_reducible refine (laws_heldParty.calls kj62 t211 _ _ t226 1 t238 _ ?side1 ?side2 A92.out).mono ?_);(case side1=>repeat (first | exact (Kd.R_reads' HO_217001.out).2.2 | (with_reducible refine zz18 ?_ _) | (with_reducible refine zz19 ?_ _) | (with_reducible refine zz20 ?_)));(case side2=>exact (Kd.R_reads' HO_217001.out).2.1);rintro e w106 ⟨rfl,hb⟩;refine ⟨_,rfl,?_⟩;have n0_:=zz31 (Kd.R_below (by (with_reducible repeat (first | apply zz12 | apply zz13 | apply zz14));exact HO_208001.out) hb);have n1_:=zz31 (Kd.R_below (by (with_reducible repeat (first | apply zz12 | apply zz13 | apply zz14));exact HO_217001.out) hb);have n2_:=zz31 (Kd.R_below (by (with_reducible repeat (first | apply zz12 | apply zz13 | apply zz14));exact HO_237001.out) hb);have n3_:=zz31 (zz11 (g:=gb207) (o:=.cells #[.int .i64 t202,.slice Ao13 t203.length co13] 32 (0,0)) (by (with_reducible repeat (first | refine zz6 ?_ _ | refine zz7 ?_ | refine zz8 ?_ _));exact BK207.out) hb);have n4_:=zz31 (zz11 (g:=gb216) (o:=.cells #[.int .i64 t211,.slice Ao20 t226.length co20] 32 (0,0)) (by (with_reducible repeat (first | refine zz6 ?_ _ | refine zz7 ?_ | refine zz8 ?_ _));exact BK216.out) hb);have n5_:=zz31 (zz11 (g:=gb236) (o:=.cells #[.int .i64 t231,.slice Ao76 t232.length co76] 32 (0,0)) (by (with_reducible repeat (first | refine zz6 ?_ _ | refine zz7 ?_ | refine zz8 ?_ _));exact BK236.out) hb);have n6_:=zz31 (zz4 (by repeat first | exact HB.out | apply zz2 | apply zz0 | apply zz1 | refine zz3 ?_ GE207.out | refine zz3 ?_ GE216.out | refine zz3 ?_ GE236.out) hb);clear HO_208001;clear HO_217001;clear HO_237001;clear BK207;clear BK216;clear BK236;clear HB;have HO_208001:=n0_;have HO_217001:=n1_;have HO_237001:=n2_;have BK207:=n3_;have BK216:=n4_;have BK236:=n5_;have HB:=n6_;clear n0_ n1_ n2_ n3_ n4_ n5_ n6_;(try clear hb);(try clear hb2);(try clear hk);(try clear hi)))
                go_ret
                exact ⟨by first | rfl | (simp [errW_none,errW_some] <;> rfl) | (simp [*,errW_none,errW_some] <;> rfl),by repeat first | exact HB.out | apply zz2 | apply zz0 | apply zz1 | refine zz3 ?_ GE207.out | refine zz3 ?_ GE216.out | refine zz3 ?_ GE236.out⟩
          ·rw [if_neg c60] at H
           have c60b0:(t227 == t225)=false:=beq_eq_false_iff_ne.mpr c60
           have c60b1:(t227 != t225)=true:=bne_iff_ne.mpr c60
           obtain rfl:=Option.some.inj H
           have hnb107:=NB216_207.out
           have hnc107:=NB207_216.out
           have hcz108_0:wc.cell? ⟨gb216,0,none⟩=some (.int .i64 t211):=(zz9 BK216.out 0).trans rfl
           have hcz108_1:wc.cell? ⟨gb216,1,none⟩=some (.slice Ao20 t212.length co20):=(zz9 BK216.out 1).trans rfl
           have hfz108_0:=zz10 BK216.out 0
           have hfz108_1:=zz10 BK216.out 1
           go_wp2_with (first | ((with_reducible refine gate_callee (f:=24) rfl ?_);refine goesL_ (some 61) rfl rfl Try.func24 (by kernel_rfl) rfl #[.agg #[.int .i64 t211,.slice Ao20 t212.length co20],.int .i64 1] rfl (by (try simp only [zz26,zz27,zz28]);first | done | rfl | (simp only [zz24,zz25];rfl)) ?_;(with_reducible refine (laws_markParty.calls kj35 t211 (fun k_=>some k_=(.slice Ao20 t212.length co20:Value).ownBlock) (.slice Ao20 t212.length co20) t212 1 t225 t226 w _ ?side1 ?side2 A52.out).mono ?_);(case side1=>repeat first | exact HB.out | apply zz2 | apply zz0 | apply zz1 | refine zz3 ?_ GE207.out | refine zz3 ?_ GE216.out);(case side2=>exact Kd.R_tight rfl HO_217001.out);rintro e w109 ⟨rfl,hy0,hb,hkp⟩;refine ⟨_,rfl,?_⟩;have n0_:=zz31 (Kd.R_mono (ok':=fun k_=>some k_ ≠ (.slice Ao20 t212.length co20:Value).ownBlock) (Kd.R_keptB (HO_208001.out) hkp (fun k_ hk_ hs_=>(hk_) hs_)) (fun k_ hk_=>hk_.1));have n1_:=zz31 (Kd.R_reok rfl hy0 (fun k_ e_=>HO_217001.out.1 k_ e_));(first | have n2_:=zz31 (blk_kept BK207.out hkp (fun hs_=>(fun e_=>(Kd.R_ne HO_217001.out BK207.out (by decide)) e_) hs_)) | have n2_:=zz31 (blk_kept (by (with_reducible repeat (first | refine zz6 ?_ _ | refine zz7 ?_ | refine zz8 ?_ _));exact BK207.out) hkp (fun hs_=>(fun e_=>(Kd.R_ne HO_217001.out BK207.out (by decide)) e_) hs_)));(first | have n3_:=zz31 (blk_kept BK216.out hkp (fun hs_=>(fun e_=>(Kd.R_ne HO_217001.out BK216.out (by decide)) e_) hs_)) | have n3_:=zz31 (blk_kept (by (with_reducible repeat (first | refine zz6 ?_ _ | refine zz7 ?_ | refine zz8 ?_ _));exact BK216.out) hkp (fun hs_=>(fun e_=>(Kd.R_ne HO_217001.out BK216.out (by decide)) e_) hs_)));have n4_:=zz31 (hb);clear HO_208001;clear HO_217001;clear BK207;clear BK216;clear HB;have HO_208001:=n0_;have HO_217001:=n1_;have BK207:=n2_;have BK216:=n3_;have HB:=n4_;clear n0_ n1_ n2_ n3_ n4_;(try clear hb);(try clear hkp);(try clear hy0);have hcz110_0:w109.cell? ⟨gb216,0,none⟩=some (.int .i64 t211):=(zz9 BK216.out 0).trans rfl;have hcz110_1:w109.cell? ⟨gb216,1,none⟩=some (.slice Ao20 t212.length co20):=(zz9 BK216.out 1).trans rfl;have hfz110_0:=zz10 BK216.out 0;have hfz110_1:=zz10 BK216.out 1) | ((with_reducible refine gate_callee (f:=25) rfl ?_);refine goesL_ (some 64) rfl rfl Try.func25 (by kernel_rfl) rfl #[.agg #[.int .i64 t211,.slice Ao20 t226.length co20],.int .i64 1] rfl (by (try simp only [zz26,zz27,zz28]);first | done | (rw [show t226.length=t212.length from (Kd.R_reads' HO_217001.out).1.symm] <;> rfl) | rfl | (simp only [zz24,zz25];rfl)) ?_;(with_reducible refine (laws_heldParty.calls kj35 t211 _ _ t226 1 t227 _ ?side1 ?side2 A53.out).mono ?_);(case side1=>repeat (first | exact (Kd.R_reads' HO_217001.out).2.2 | (with_reducible refine zz18 ?_ _) | (with_reducible refine zz19 ?_ _) | (with_reducible refine zz20 ?_)));(case side2=>rw [show t226.length=t212.length from (Kd.R_reads' HO_217001.out).1.symm];exact (Kd.R_reads' HO_217001.out).2.1);rintro e w111 ⟨rfl,hb⟩;refine ⟨_,rfl,?_⟩;have n0_:=zz31 (Kd.R_below (by (with_reducible repeat (first | apply zz12 | apply zz13 | apply zz14));exact HO_208001.out) hb);have n1_:=zz31 (Kd.R_below (by (with_reducible repeat (first | apply zz12 | apply zz13 | apply zz14));exact HO_217001.out) hb);have n2_:=zz31 (zz11 (g:=gb207) (o:=.cells #[.int .i64 t202,.slice Ao13 t203.length co13] 32 (0,0)) (by (with_reducible repeat (first | refine zz6 ?_ _ | refine zz7 ?_ | refine zz8 ?_ _));exact BK207.out) hb);have n3_:=zz31 (zz11 (g:=gb216) (o:=.cells #[.int .i64 t211,.slice Ao20 t212.length co20] 32 (0,0)) (by (with_reducible repeat (first | refine zz6 ?_ _ | refine zz7 ?_ | refine zz8 ?_ _));exact BK216.out) hb);have n4_:=zz31 (zz4 (by repeat first | exact HB.out | apply zz2 | apply zz0 | apply zz1 | refine zz3 ?_ GE207.out | refine zz3 ?_ GE216.out) hb);clear HO_208001;clear HO_217001;clear BK207;clear BK216;clear HB;have HO_208001:=n0_;have HO_217001:=n1_;have BK207:=n2_;have BK216:=n3_;have HB:=n4_;clear n0_ n1_ n2_ n3_ n4_;(try clear hb);(try clear hb2);(try clear hk);(try clear hi)))
           go_ret
           exact ⟨by first | rfl | (simp [errW_none,errW_some] <;> rfl) | (simp [*,errW_none,errW_some] <;> rfl),by repeat first | exact HB.out | apply zz2 | apply zz0 | apply zz1 | refine zz3 ?_ GE207.out | refine zz3 ?_ GE216.out⟩
     ·replace c34:=Bool.eq_false_iff.mpr c34
      subst c34
      have H1:(some false)=some r:=by rw [if_neg (show ¬ (false=true) by decide)] at H;exact H
      clear H
      have H:=H1
      clear H1
      obtain rfl:=Option.some.inj H
      go_wp2_with (first | ((with_reducible refine gate_callee (f:=15) rfl ?_);refine goesL_ (some 40) rfl rfl Try.func15 (by kernel_rfl) rfl #[.slice A0 l0.length c0] rfl (by (try simp only [zz26,zz27,zz28]);first | done | rfl | (simp only [zz24,zz25];rfl)) ?_;(with_reducible refine (laws_toIntS.calls kj6 _ _ l0 t218 _ ?side1 ?side2 A32.out).mono ?_);(case side1=>repeat (first | exact (Kd.C_below HR0.out HB.out) | (with_reducible refine zz18 ?_ _) | (with_reducible refine zz19 ?_ _) | (with_reducible refine zz20 ?_)));(case side2=>exact HC0.out);rintro e w112 ⟨v219,rfl,ho0,hb⟩;refine ⟨_,rfl,?_⟩;have n0_:=zz31 (Kd.R_elder' (by (with_reducible repeat (first | apply zz12 | apply zz13 | apply zz14));exact HO_5.out) (Kd.R_base ho0) hb);have n1_:=zz31 (Kd.R_below (by (with_reducible repeat (first | apply zz12 | apply zz13 | apply zz14));exact HO_208001.out) hb);have n2_:=zz31 (Kd.R_below (by (with_reducible repeat (first | apply zz12 | apply zz13 | apply zz14));exact HO_217001.out) hb);have n3_:=zz31 (Kd.R_lower (Kd.R_new' ho0 (Kd.R_lt (by (with_reducible repeat (first | apply zz12 | apply zz13 | apply zz14));exact HO_5.out))) (zz5 (by repeat first | exact HB.out | apply zz2 | apply zz0 | apply zz1 | refine zz3 ?_ GE207.out | refine zz3 ?_ GE216.out)));have n4_:=zz31 (zz11 (g:=gb207) (o:=.cells #[.int .i64 t202,.slice Ao13 t203.length co13] 32 (0,0)) (by (with_reducible repeat (first | refine zz6 ?_ _ | refine zz7 ?_ | refine zz8 ?_ _));exact BK207.out) hb);have n5_:=zz31 (zz11 (g:=gb216) (o:=.cells #[.int .i64 t211,.slice Ao20 t212.length co20] 32 (0,0)) (by (with_reducible repeat (first | refine zz6 ?_ _ | refine zz7 ?_ | refine zz8 ?_ _));exact BK216.out) hb);have n6_:=zz31 (zz4 (by repeat first | exact HB.out | apply zz2 | apply zz0 | apply zz1 | refine zz3 ?_ GE207.out | refine zz3 ?_ GE216.out) hb);clear HO_5;clear HO_208001;clear HO_217001;clear BK207;clear BK216;clear HB;have HO_5:=n0_;have HO_208001:=n1_;have HO_217001:=n2_;have HO220:=n3_;have BK207:=n4_;have BK216:=n5_;have HB:=n6_;clear n0_ n1_ n2_ n3_ n4_ n5_ n6_;(try clear hb);(try clear hb2);(try clear hk);(try clear hi);(try clear ho0);obtain ⟨Ao113,co113,eo113⟩:=Kd.R_slice HO220.out;subst eo113) | ((with_reducible refine gate_callee (f:=17) rfl ?_);refine goesL_ (some 41) rfl rfl Try.func17 (by kernel_rfl) rfl #[.slice Ao15 t208.length co15,.slice Ao113 t218.length co113] rfl (by (try simp only [zz26,zz27,zz28]);first | done | rfl | (simp only [zz24,zz25];rfl)) ?_;(with_reducible refine (laws_eqIntS.calls kj6 _ _ t208 _ _ t218 false _ ?side1 ?side2 ?side3 ?side4 A33.out).mono ?_);(case side1=>repeat (first | exact (Kd.R_reads' HO_5.out).2.2 | (with_reducible refine zz18 ?_ _) | (with_reducible refine zz19 ?_ _) | (with_reducible refine zz20 ?_)));(case side2=>exact (Kd.R_reads' HO_5.out).2.1);(case side3=>repeat (first | exact (Kd.R_reads' HO220.out).2.2 | (with_reducible refine zz18 ?_ _) | (with_reducible refine zz19 ?_ _) | (with_reducible refine zz20 ?_)));(case side4=>exact (Kd.R_reads' HO220.out).2.1);rintro e w' ⟨rfl,⟨nd,rfl⟩⟩;refine ⟨_,rfl,?_⟩))
      go_ret
      exact ⟨by first | rfl | (simp [errW_none,errW_some] <;> rfl) | (simp [*,errW_none,errW_some] <;> rfl),by repeat first | exact HB.out | apply zz2 | apply zz0 | apply zz1 | refine zz3 ?_ GE207.out | refine zz3 ?_ GE216.out⟩

/-- THE ONE PURE STATEMENT of laws_FnExactFirstOfNumbers: yours. -/
def laws_FnExactFirstOfNumbers.Pure:Prop:=∀ (l0:List Int),l0.length≤maxLen→l0.length * 8≤140737488351232→(∀ x ∈ l0,(Lit.int .i64 x).wf=true)→∃ k,laws_FnExactFirstOfNumbers.f k l0=some true
theorem laws_FnExactFirstOfNumbers.walk (P:laws_FnExactFirstOfNumbers.Pure) (a0:Option Addr) (len0 cap0:Nat) (z0:List Int) (w:World) (w0:(a0=none∧len0=0∧cap0=0∧z0=[]) ∨ ∃ x,a0=some x∧len0≤cap0∧cap0≤maxLen∧z0.length=cap0∧(∀ i,i < z0.length→w.cell? (x.add i)=some (.int .i64 (z0.getD i 0)))∧∀ n ∈ z0,(Lit.int .i64 n).wf=true) (y0:len0 * 8≤140737488351232) :
  Calls Try.prog 5 #[.slice a0 len0 cap0] w fun e w'=>e=.returned (.bool true)∧Below w.heap.size w w':=by
 obtain ⟨l0,rfl,hr0,hm0,hw0,hc0⟩:=ReadsInt.ofRowC w0
 obtain ⟨k,h⟩:=P l0 hm0 y0 hw0
 refine (laws_FnExactFirstOfNumbers.calls k _ _ l0 true w (Kd.C_of_reads (d:=(0:Int)) (h1:=fun _=>rfl) hr0) hc0 h).mono ?_
 rintro e w' ⟨rfl,hd⟩
 exact ⟨rfl,hd⟩

end Go.Proofs.Ytjipjcdeoajnjaa.P
