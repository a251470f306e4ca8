-- PRINTED by print.py (a twelfth state) out of the translation. Not trusted: Lean checks it.
import Derived.Test.YtialimbdkokdcaaPx0
import Derived.Test.YtialimbdkokdcaaPx1
import Derived.Test.YtialimbdkokdcaaPx3
import Derived.Test.YtialimbdkokdcaaPx4
import Derived.Test.YtialimbdkokdcaaPx6
import Derived.Test.YtialimbdkokdcaaPx8
import Derived.Test.YtialimbdkokdcaaPx11
import Derived.Test.YtialimbdkokdcaaPx13
import Derived.Test.YtialimbdkokdcaaPx14
namespace Go.Proofs.Ytialimbdkokdcaa.P
open Go.RowKit Go.Proofs.YtialimbdkokdcaaW.PrintWords Go.Proofs.YtialimbdkokdcaaW.PrintLast Go.Proofs.YtialimbdkokdcaaW.PrintMore
open Bool renaming true → T, false → F
attribute [local go_sem] max2_int min2_int max_two min_two max_three min_three max_four min_four   -- for this text's walks alone
set_option linter.unusedVariables false
set_option linter.unusedSimpArgs false

/-! ### spec_IsGroup: function 23 -/
def spec_IsGroup.l0:Nat→List Int→List (List Bool)→List Int→Int→Int→Int→List (S80)→Option (Bool × Bool)
 | 0,_,_,_,_,_,_,_=>none
 | k+1,x1,x6,x14,x15,x16,x313000,x313001=>if x16 < x15 then (if 0≤x16 then (if x16 < (x14.length:Int) then ((spec_paHas.f x313000 x313001 (rd x14 x16)).bind fun t318=>(if t318=true then (if x16 > 0 then (if 0≤(wrap64 (x16 - 1)) then (if (wrap64 (x16 - 1)) < (x1.length:Int) then (if (rd x1 (wrap64 (x16 - 1))) ≥ (rd x14 x16) then (some (false,true)) else (if x16≤(x1.length:Int) then ((spec_trKnows.f k x6 (x1.take (x16:Int).toNat) (rd x14 x16)).bind fun t321=>(if t321=true then (spec_IsGroup.l0 k x1 x6 x14 x15 (wrap64 (x16+1)) x313000 x313001) else (some (false,true)))) else (none))) else (none)) else (none)) else (if x16≤(x1.length:Int) then ((spec_trKnows.f k x6 (x1.take (x16:Int).toNat) (rd x14 x16)).bind fun t323=>(if t323=true then (spec_IsGroup.l0 k x1 x6 x14 x15 (wrap64 (x16+1)) x313000 x313001) else (some (false,true)))) else (none))) else (some (false,true)))) else (none)) else (none)) else (some (true,true))
def spec_IsGroup.f (k:Nat) (a0_0:Int) (l0_1:List (S80)) (l1:List Int):Option (Bool × Bool):=(spec_paGood.f k a0_0 l0_1).bind fun t313=>(if t313=true then ((spec_paTable.f k a0_0 l0_1).bind fun t314=>(spec_IsGroup.l0 k l1 t314 l1 (l1.length:Int) 0 a0_0 l0_1)) else (some (false,false)))
theorem spec_IsGroup.mono_l:∀ k,(∀ y0 y1 y2 y3 y4 y5 y6,LeO (spec_IsGroup.l0 k y0 y1 y2 y3 y4 y5 y6) (spec_IsGroup.l0 (k+1) y0 y1 y2 y3 y4 y5 y6))
 | 0=>fun _ _ _ _ _ _ _ r h=>by simp [spec_IsGroup.l0] at h
 | k+1=>by
  have ih0:=spec_IsGroup.mono_l k
  ·intro y0 y1 y2 y3 y4 y5 y6
   unfold spec_IsGroup.l0
   repeat' first
   | (with_reducible exact ih0 _ _ _ _ _ _ _)
   | (with_reducible exact spec_paGood.mono _ _ _)
   | (with_reducible exact spec_paTable.mono _ _ _)
   | (with_reducible exact spec_trKnows.mono _ _ _ _)
   | (with_reducible exact LeO.refl _)
   | (with_reducible exact LeO.none _)
   | (with_reducible refine LeO.ite ?_ ?_)
   | (with_reducible refine LeO.bind ?_ (fun _=>?_))
   | exact ih0 _ _ _ _ _ _ _
   | exact spec_paGood.mono _ _ _
   | exact spec_paTable.mono _ _ _
   | exact spec_trKnows.mono _ _ _ _
   | exact LeO.none _
   | refine LeO.ite ?_ ?_
   | refine LeO.bind ?_ (fun _=>?_)
theorem spec_IsGroup.mono:∀ a0 a1 a2 k,LeO (spec_IsGroup.f k a0 a1 a2) (spec_IsGroup.f (k+1) a0 a1 a2):=by
 intro a0 a1 a2 k
 have ih0:=spec_IsGroup.mono_l k
 unfold spec_IsGroup.f
 repeat' first
   | (with_reducible exact ih0 _ _ _ _ _ _ _)
   | (with_reducible exact spec_paGood.mono _ _ _)
   | (with_reducible exact spec_paTable.mono _ _ _)
   | (with_reducible exact spec_trKnows.mono _ _ _ _)
   | (with_reducible exact LeO.refl _)
   | (with_reducible exact LeO.none _)
   | (with_reducible refine LeO.ite ?_ ?_)
   | (with_reducible refine LeO.bind ?_ (fun _=>?_))
   | exact ih0 _ _ _ _ _ _ _
   | exact spec_paGood.mono _ _ _
   | exact spec_paTable.mono _ _ _
   | exact spec_trKnows.mono _ _ _ _
   | exact LeO.none _
   | refine LeO.ite ?_ ?_
   | refine LeO.bind ?_ (fun _=>?_)
set_option maxHeartbeats 8000000 in
set_option maxRecDepth 100000 in
theorem spec_IsGroup.calls (k:Nat) (a0_0:Int) (A0_1:Option Addr) (c0_1:Nat) (l0_1:List (S80)) (A1:Option Addr) (c1:Nat) (l1:List Int) (r1:Bool) (r2:Bool) (w:World) (hr0_1:Kd.C k80 w A0_1 l0_1.length l0_1) (hc0_1:l0_1.length≤c0_1) (hr1:Kd.C (Kd.int .i64) w A1 l1.length l1) (hc1:l1.length≤c1) (h:spec_IsGroup.f k a0_0 l0_1 l1=some (r1,r2)) :
  Calls Try.prog 23 #[.agg #[.int .i64 a0_0,.slice A0_1 l0_1.length c0_1],.slice A1 l1.length c1] w fun e w'=>e=.returned (.tuple #[.bool r1,.bool r2])∧Below w.heap.size w w':=by
 have hu30:=Try.underlying30
 have HR0_1:=Aside0.mk hr0_1
 have HC0_1:=Aside0.mk hc0_1
 clear hr0_1 hc0_1
 have HR1:=Aside0.mk hr1
 have HC1:=Aside0.mk hc1
 clear hr1 hc1
 have HB:=Aside0.mk (Below.refl w.heap.size w)
 have H:((spec_paGood.f k a0_0 l0_1).bind fun t313=>(if t313=true then ((spec_paTable.f k a0_0 l0_1).bind fun t314=>(spec_IsGroup.l0 k l1 t314 l1 (l1.length:Int) 0 a0_0 l0_1)) else (some (false,false))))=some (r1,r2):=h
 clear h
 replace H:=zz30.mp H
 obtain ⟨t313,A30,H⟩:=H
 replace H:(if t313=true then ((spec_paTable.f k a0_0 l0_1).bind fun t314=>(spec_IsGroup.l0 k l1 t314 l1 (l1.length:Int) 0 a0_0 l0_1)) else (some (false,false)))=some (r1,r2):=H
 have A3:=Aside0.mk A30
 clear A30
 by_cases c4:t313=true
 ·subst c4
  have H1:((spec_paTable.f k a0_0 l0_1).bind fun t314=>(spec_IsGroup.l0 k l1 t314 l1 (l1.length:Int) 0 a0_0 l0_1))=some (r1,r2):=by rw [if_pos rfl] at H;exact H
  clear H
  have H:=H1
  clear H1
  replace H:=zz30.mp H
  obtain ⟨t314,A50,H⟩:=H
  replace H:(spec_IsGroup.l0 k l1 t314 l1 (l1.length:Int) 0 a0_0 l0_1)=some (r1,r2):=H
  have A5:=Aside0.mk A50
  clear A50
  have H':=Aside0.mk H
  clear H
  go_enter Try.func23,Try.ntmps23
  go_wp2_with (first | ((with_reducible refine gate_dst (N:=2) rfl ?_);refine box_event ?hg (N:=2) ?hd (cs:=#[.int .i64 a0_0,.slice A0_1 l0_1.length c0_1]) (t:=30) ?hr ?_;(case hd=>rfl);(case hg=>rfl);(case hr=>first | (go_simp;done) | (go_simp;rfl));intro gb312 hg w6 hbox hb;have n0_:=Aside0.mk (zz4 (by repeat first | exact HB.out | apply zz2 | apply zz0 | apply zz1) hb);have n1_:=Aside0.mk (hbox);have n2_:=Aside0.mk ((by rw [hg];exact (zz5 (by repeat first | exact HB.out | apply zz2 | apply zz0 | apply zz1)):w.heap.size≤gb312));have n3_:=Aside0.mk ((by rw [hg];exact (zz5 (by repeat first | exact HB.out | apply zz2 | apply zz0 | apply zz1)):w.heap.size≤gb312));clear HB;have HB:=n0_;have BK312:=n1_;have GW312:=n2_;have GE312:=n3_;clear n0_ n1_ n2_ n3_;clear hb hbox hg;have hcz7_0:w6.cell? ⟨gb312,0,none⟩=some (.int .i64 a0_0):=(zz9 BK312.out 0).trans rfl;have hcz7_1:w6.cell? ⟨gb312,1,none⟩=some (.slice A0_1 l0_1.length c0_1):=(zz9 BK312.out 1).trans rfl;have hfz7_0:=zz10 BK312.out 0;have hfz7_1:=zz10 BK312.out 1) | ((with_reducible refine gate_callee (f:=42) rfl ?_);refine goesL_ (some 10) rfl rfl Try.func42 (by kernel_rfl) rfl #[.agg #[.int .i64 a0_0,.slice A0_1 l0_1.length c0_1]] rfl (by (try simp only [zz26,zz27,zz28]);first | done | rfl | (simp only [zz24,zz25];rfl) | (simp only [zz25];congr;(try simp only [decide_eq_true_eq] at *);omega)) ?_;(with_reducible refine (spec_paGood.calls k a0_0 _ _ l0_1 true _ ?side1 ?side2 A3.out).mono ?_);(case side1=>repeat (first | exact (Kd.C_below HR0_1.out HB.out) | (with_reducible refine zz18 ?_ _) | (with_reducible refine zz19 ?_ _) | (with_reducible refine zz20 ?_)));(case side2=>exact HC0_1.out);rintro e w8 ⟨rfl,hb⟩;refine ⟨_,rfl,?_⟩;have n0_:=Aside0.mk (zz11 (g:=gb312) (o:=.cells #[.int .i64 a0_0,.slice A0_1 l0_1.length c0_1] 30 (0,0)) (by (with_reducible repeat (first | refine zz6 ?_ _ | refine zz7 ?_ | refine zz8 ?_ _));exact BK312.out) hb);have n1_:=Aside0.mk (zz4 (by repeat first | exact HB.out | apply zz2 | apply zz0 | apply zz1 | refine zz3 ?_ GE312.out) hb);clear BK312;clear HB;have BK312:=n0_;have HB:=n1_;clear n0_ n1_;(try clear hb);(try clear hb2);(try clear hk);(try clear hi);have hcz9_0:w8.cell? ⟨gb312,0,none⟩=some (.int .i64 a0_0):=(zz9 BK312.out 0).trans rfl;have hcz9_1:w8.cell? ⟨gb312,1,none⟩=some (.slice A0_1 l0_1.length c0_1):=(zz9 BK312.out 1).trans rfl;have hfz9_0:=zz10 BK312.out 0;have hfz9_1:=zz10 BK312.out 1) | ((with_reducible refine gate_callee (f:=53) rfl ?_);refine goesL_ (some 13) rfl rfl Try.func53 (by kernel_rfl) rfl #[.agg #[.int .i64 a0_0,.slice A0_1 l0_1.length c0_1]] rfl (by (try simp only [zz26,zz27,zz28]);first | done | rfl | (simp only [zz24,zz25];rfl) | (simp only [zz25];congr;(try simp only [decide_eq_true_eq] at *);omega)) ?_;(with_reducible refine (spec_paTable.calls k a0_0 _ _ l0_1 t314 _ ?side1 ?side2 A5.out).mono ?_);(case side1=>repeat (first | exact (Kd.C_below HR0_1.out HB.out) | (with_reducible refine zz18 ?_ _) | (with_reducible refine zz19 ?_ _) | (with_reducible refine zz20 ?_)));(case side2=>exact HC0_1.out);rintro e w10 ⟨v315,rfl,ho0,hb⟩;refine ⟨_,rfl,?_⟩;have n0_:=Aside0.mk (Kd.S_lower ho0 (zz5 (by repeat first | exact HB.out | apply zz2 | apply zz0 | apply zz1 | refine zz3 ?_ GE312.out)));have n1_:=Aside0.mk (zz11 (g:=gb312) (o:=.cells #[.int .i64 a0_0,.slice A0_1 l0_1.length c0_1] 30 (0,0)) (by (with_reducible repeat (first | refine zz6 ?_ _ | refine zz7 ?_ | refine zz8 ?_ _));exact BK312.out) hb);have n2_:=Aside0.mk (zz4 (by repeat first | exact HB.out | apply zz2 | apply zz0 | apply zz1 | refine zz3 ?_ GE312.out) hb);clear BK312;clear HB;have HO316:=n0_;have BK312:=n1_;have HB:=n2_;clear n0_ n1_ n2_;(try clear hb);(try clear hb2);(try clear hk);(try clear hi);(try clear ho0)))
  go_loopg [16] k (fun kq v16 w'=>∃ (x16_1:Int),v16=.int .i64 x16_1∧Aside0 (spec_IsGroup.l0 kq l1 t314 l1 (l1.length:Int) x16_1 a0_0 l0_1=some (r1,r2))∧Aside0 (kq≤k)∧Aside0 (Kd.S (Kd.slice 4 Kd.bool) 92 w' w.heap.size (fun _=>True) v315 t314)∧Aside0 (w'.heap[gb312]?=some (.cells #[.int .i64 a0_0,(.slice A0_1 l0_1.length c0_1)] 30 (0,0)))∧Aside0 (Below w.heap.size w w'))
  case atStart=>exact ⟨(0),(by first | rfl | (simp;done) | (simp [*];done)),H',⟨Nat.le_refl _⟩,⟨by (with_reducible repeat (first | apply zz15 | apply zz16 | apply zz17));exact HO316.out⟩,⟨by (with_reducible repeat (first | refine zz6 ?_ _ | refine zz7 ?_ | refine zz8 ?_ _));exact BK312.out⟩,⟨by repeat first | exact HB.out | apply zz2 | apply zz0 | apply zz1 | refine zz3 ?_ GE312.out⟩⟩
  case round =>
   clear H'
   try clear c1
   try clear c2
   try clear p2
   try clear c4
   try clear c5
   try clear hcz7_0
   try clear hcz7_1
   try clear hcz9_0
   try clear hcz9_1
   try clear hfz7_0
   try clear hfz7_1
   try clear hfz9_0
   try clear hfz9_1
   obtain ⟨x16_1,rfl,HA,HK1,HO_6,BK312,HB⟩:=hrel
   cases gk with
   | zero=>exact absurd HA.out (by simp [spec_IsGroup.l0])
   | succ k1 =>
    have H:=HA.out
    clear HA
    simp only [spec_IsGroup.l0] at H
    by_cases c11:x16_1 < (l1.length:Int)
    ·rw [if_pos c11] at H
     have c11b0:decide (x16_1 < (l1.length:Int))=true:=decide_eq_true c11
     clear c11
     by_cases c12:0≤x16_1
     ·rw [if_pos c12] at H
      have c12b0:decide (0≤x16_1)=true:=decide_eq_true c12
      clear c12
      by_cases c13:x16_1 < (l1.length:Int)
      ·rw [if_pos c13] at H
       have c13b0:decide (x16_1 < (l1.length:Int))=true:=decide_eq_true c13
       clear c13
       replace H:=zz30.mp H
       obtain ⟨t318,A140,H⟩:=H
       replace H:(if t318=true then (if x16_1 > 0 then (if 0≤(wrap64 (x16_1 - 1)) then (if (wrap64 (x16_1 - 1)) < (l1.length:Int) then (if (rd l1 (wrap64 (x16_1 - 1))) ≥ (rd l1 x16_1) then (some (false,true)) else (if x16_1≤(l1.length:Int) then ((spec_trKnows.f k1 t314 (l1.take (x16_1:Int).toNat) (rd l1 x16_1)).bind fun t321=>(if t321=true then (spec_IsGroup.l0 k1 l1 t314 l1 (l1.length:Int) (wrap64 (x16_1+1)) a0_0 l0_1) else (some (false,true)))) else (none))) else (none)) else (none)) else (if x16_1≤(l1.length:Int) then ((spec_trKnows.f k1 t314 (l1.take (x16_1:Int).toNat) (rd l1 x16_1)).bind fun t323=>(if t323=true then (spec_IsGroup.l0 k1 l1 t314 l1 (l1.length:Int) (wrap64 (x16_1+1)) a0_0 l0_1) else (some (false,true)))) else (none))) else (some (false,true)))=some (r1,r2):=H
       have A14:=Aside0.mk A140
       clear A140
       by_cases c15:t318=true
       ·subst c15
        have H1:(if x16_1 > 0 then (if 0≤(wrap64 (x16_1 - 1)) then (if (wrap64 (x16_1 - 1)) < (l1.length:Int) then (if (rd l1 (wrap64 (x16_1 - 1))) ≥ (rd l1 x16_1) then (some (false,true)) else (if x16_1≤(l1.length:Int) then ((spec_trKnows.f k1 t314 (l1.take (x16_1:Int).toNat) (rd l1 x16_1)).bind fun t321=>(if t321=true then (spec_IsGroup.l0 k1 l1 t314 l1 (l1.length:Int) (wrap64 (x16_1+1)) a0_0 l0_1) else (some (false,true)))) else (none))) else (none)) else (none)) else (if x16_1≤(l1.length:Int) then ((spec_trKnows.f k1 t314 (l1.take (x16_1:Int).toNat) (rd l1 x16_1)).bind fun t323=>(if t323=true then (spec_IsGroup.l0 k1 l1 t314 l1 (l1.length:Int) (wrap64 (x16_1+1)) a0_0 l0_1) else (some (false,true)))) else (none)))=some (r1,r2):=by rw [if_pos rfl] at H;exact H
        clear H
        have H:=H1
        clear H1
        by_cases c16:x16_1 > 0
        ·rw [if_pos c16] at H
         have c16b0:decide (0 < x16_1)=true:=decide_eq_true c16
         clear c16
         obtain ⟨ji17,hji17⟩:∃ j_:Int,(wrap64 (x16_1 - 1))=j_:=⟨_,rfl⟩
         replace H:(if 0≤(ji17) then (if (ji17) < (l1.length:Int) then (if (rd l1 (ji17)) ≥ (rd l1 x16_1) then (some (false,true)) else (if x16_1≤(l1.length:Int) then ((spec_trKnows.f k1 t314 (l1.take (x16_1:Int).toNat) (rd l1 x16_1)).bind fun t321=>(if t321=true then (spec_IsGroup.l0 k1 l1 t314 l1 (l1.length:Int) (wrap64 (x16_1+1)) a0_0 l0_1) else (some (false,true)))) else (none))) else (none)) else (none))=some (r1,r2):=by first | (rw [hji17] at H;exact H) | (simp only [hji17] at H ⊢;exact H)
         (try rw [hji17] at A14)
         have hji17w:(IntKind.i64.wrap (x16_1 - 1))=ji17:=(i64_w _).trans hji17
         by_cases c18:0≤(ji17)
         ·rw [if_pos c18] at H
          have c18b0:decide (0≤(ji17))=true:=decide_eq_true c18
          clear c18
          by_cases c19:(ji17) < (l1.length:Int)
          ·rw [if_pos c19] at H
           have c19b0:decide ((ji17) < (l1.length:Int))=true:=decide_eq_true c19
           clear c19
           by_cases c20:(rd l1 (ji17)) ≥ (rd l1 x16_1)
           ·rw [if_pos c20] at H
            have c20b0:decide ((rd l1 x16_1)≤(rd l1 (ji17)))=true:=decide_eq_true c20
            clear c20
            simp only [Option.some.injEq,Prod.mk.injEq] at H
            obtain ⟨rfl,rfl⟩:=H
            have p317:0≤(x16_1:Int):=zz29 (by first | (with_reducible assumption) | assumption)
            have q317:x16_1 < (l1.length:Int):=zz29 (by first | (with_reducible assumption) | assumption)
            obtain ⟨ad317,e317,hx317_0⟩:=Kd.at_int HR1.out x16_1 p317 q317
            cases e317
            replace hx317_0:=(HB.out.cell (World.block_lt_of_cell? w _ hx317_0)).trans hx317_0
            replace p317:=eq_true p317
            replace q317:=eq_true q317
            have hcz21_0:wr.cell? ⟨gb312,0,none⟩=some (.int .i64 a0_0):=(zz9 BK312.out 0).trans rfl
            have hcz21_1:wr.cell? ⟨gb312,1,none⟩=some (.slice A0_1 l0_1.length c0_1):=(zz9 BK312.out 1).trans rfl
            have hfz21_0:=zz10 BK312.out 0
            have hfz21_1:=zz10 BK312.out 1
            go_wp2_with (first | ((with_reducible refine gate_callee (f:=56) rfl ?_);refine goesL_ (some 23) rfl rfl Try.func56 (by kernel_rfl) rfl #[.agg #[.int .i64 a0_0,.slice A0_1 l0_1.length c0_1],.int .i64 (rd l1 x16_1)] rfl (by (try simp only [zz26,zz27,zz28]);first | done | rfl | (simp only [zz24,zz25];rfl) | (simp only [zz25];congr;(try simp only [decide_eq_true_eq] at *);omega)) ?_;(with_reducible refine (spec_paHas.calls a0_0 _ _ l0_1 (rd l1 x16_1) true _ ?side1 ?side2 A14.out).mono ?_);(case side1=>repeat (first | exact (Kd.C_below HR0_1.out HB.out) | (with_reducible refine zz18 ?_ _) | (with_reducible refine zz19 ?_ _) | (with_reducible refine zz20 ?_)));(case side2=>exact HC0_1.out);rintro e w22 ⟨rfl,hb⟩;refine ⟨_,rfl,?_⟩;have n0_:=Aside0.mk (Kd.S_below (by (with_reducible repeat (first | apply zz15 | apply zz16 | apply zz17));exact HO_6.out) hb);have n1_:=Aside0.mk (zz11 (g:=gb312) (o:=.cells #[.int .i64 a0_0,.slice A0_1 l0_1.length c0_1] 30 (0,0)) (by (with_reducible repeat (first | refine zz6 ?_ _ | refine zz7 ?_ | refine zz8 ?_ _));exact BK312.out) hb);have n2_:=Aside0.mk (zz4 (by repeat first | exact HB.out | apply zz2 | apply zz0 | apply zz1 | refine zz3 ?_ GE312.out) hb);clear HO_6;clear BK312;clear HB;have HO_6:=n0_;have BK312:=n1_;have HB:=n2_;clear n0_ n1_ n2_;(try clear hb);(try clear hb2);(try clear hk);(try clear hi);have p319:0≤((ji17):Int):=zz29 (by first | (with_reducible assumption) | assumption);have q319:(ji17) < (l1.length:Int):=zz29 (by first | (with_reducible assumption) | assumption);obtain ⟨ad319,e319,hx319_0⟩:=Kd.at_int HR1.out (ji17) p319 q319;obtain rfl:ad317=ad319:=(by injection e319);replace hx319_0:=(HB.out.cell (World.block_lt_of_cell? w _ hx319_0)).trans hx319_0;replace p319:=eq_true p319;replace q319:=eq_true q319))
            go_ret2
            exact ⟨by first | rfl | (simp [errW_none,errW_some] <;> rfl) | (simp only [← hji17];first | rfl | (simp [errW_none,errW_some] <;> rfl)) | (simp [*,errW_none,errW_some] <;> rfl),by repeat first | exact HB.out | apply zz2 | apply zz0 | apply zz1 | refine zz3 ?_ GE312.out⟩
           ·rw [if_neg c20] at H
            have c20b0:decide ((rd l1 x16_1)≤(rd l1 (ji17)))=false:=decide_eq_false c20
            clear c20
            have c23b0:=eq_true (zz29 (by first | (with_reducible assumption) | assumption):0≤x16_1)
            by_cases c24:x16_1≤(l1.length:Int)
            ·rw [if_pos c24] at H
             have c24b0:=eq_true c24
             have c24b1:decide (x16_1≤(l1.length:Int))=true:=decide_eq_true c24
             clear c24
             replace H:=zz30.mp H
             obtain ⟨t321,A250,H⟩:=H
             replace H:(if t321=true then (spec_IsGroup.l0 k1 l1 t314 l1 (l1.length:Int) (wrap64 (x16_1+1)) a0_0 l0_1) else (some (false,true)))=some (r1,r2):=H
             have A25:=Aside0.mk A250
             clear A250
             by_cases c26:t321=true
             ·subst c26
              have H1:(spec_IsGroup.l0 k1 l1 t314 l1 (l1.length:Int) (wrap64 (x16_1+1)) a0_0 l0_1)=some (r1,r2):=by rw [if_pos rfl] at H;exact H
              clear H
              have H:=H1
              clear H1
              have H':=Aside0.mk H
              clear H
              have p317:0≤(x16_1:Int):=zz29 (by first | (with_reducible assumption) | assumption)
              have q317:x16_1 < (l1.length:Int):=zz29 (by first | (with_reducible assumption) | assumption)
              obtain ⟨ad317,e317,hx317_0⟩:=Kd.at_int HR1.out x16_1 p317 q317
              cases e317
              replace hx317_0:=(HB.out.cell (World.block_lt_of_cell? w _ hx317_0)).trans hx317_0
              replace p317:=eq_true p317
              replace q317:=eq_true q317
              have hcz27_0:wr.cell? ⟨gb312,0,none⟩=some (.int .i64 a0_0):=(zz9 BK312.out 0).trans rfl
              have hcz27_1:wr.cell? ⟨gb312,1,none⟩=some (.slice A0_1 l0_1.length c0_1):=(zz9 BK312.out 1).trans rfl
              have hfz27_0:=zz10 BK312.out 0
              have hfz27_1:=zz10 BK312.out 1
              go_wp2_with (first | ((with_reducible refine gate_callee (f:=56) rfl ?_);refine goesL_ (some 23) rfl rfl Try.func56 (by kernel_rfl) rfl #[.agg #[.int .i64 a0_0,.slice A0_1 l0_1.length c0_1],.int .i64 (rd l1 x16_1)] rfl (by (try simp only [zz26,zz27,zz28]);first | done | rfl | (simp only [zz24,zz25];rfl) | (simp only [zz25];congr;(try simp only [decide_eq_true_eq] at *);omega)) ?_;(with_reducible refine (spec_paHas.calls a0_0 _ _ l0_1 (rd l1 x16_1) true _ ?side1 ?side2 A14.out).mono ?_);(case side1=>repeat (first | exact (Kd.C_below HR0_1.out HB.out) | (with_reducible refine zz18 ?_ _) | (with_reducible refine zz19 ?_ _) | (with_reducible refine zz20 ?_)));(case side2=>exact HC0_1.out);rintro e w28 ⟨rfl,hb⟩;refine ⟨_,rfl,?_⟩;have n0_:=Aside0.mk (Kd.S_below (by (with_reducible repeat (first | apply zz15 | apply zz16 | apply zz17));exact HO_6.out) hb);have n1_:=Aside0.mk (zz11 (g:=gb312) (o:=.cells #[.int .i64 a0_0,.slice A0_1 l0_1.length c0_1] 30 (0,0)) (by (with_reducible repeat (first | refine zz6 ?_ _ | refine zz7 ?_ | refine zz8 ?_ _));exact BK312.out) hb);have n2_:=Aside0.mk (zz4 (by repeat first | exact HB.out | apply zz2 | apply zz0 | apply zz1 | refine zz3 ?_ GE312.out) hb);clear HO_6;clear BK312;clear HB;have HO_6:=n0_;have BK312:=n1_;have HB:=n2_;clear n0_ n1_ n2_;(try clear hb);(try clear hb2);(try clear hk);(try clear hi);have p319:0≤((ji17):Int):=zz29 (by first | (with_reducible assumption) | assumption);have q319:(ji17) < (l1.length:Int):=zz29 (by first | (with_reducible assumption) | assumption);obtain ⟨ad319,e319,hx319_0⟩:=Kd.at_int HR1.out (ji17) p319 q319;obtain rfl:ad317=ad319:=(by injection e319);replace hx319_0:=(HB.out.cell (World.block_lt_of_cell? w _ hx319_0)).trans hx319_0;replace p319:=eq_true p319;replace q319:=eq_true q319;obtain ⟨i029,hi029,_,hsz29,_⟩:=info_parts info3;obtain ⟨hcut29,hA29,hC29⟩:=print_take_of (P:=Try.prog) (Value.int .i64) 0 40 3 .i64 Try.underlying40 hi029 hsz29 (some ad317) c1 l1 x16_1 (zz29 (by first | (with_reducible assumption) | assumption)) (zz29 (by first | (with_reducible assumption) | assumption)) HC1.out;have HR320:=Aside0.mk (Kd.C_of_reads (h1:=fun _=>rfl) (hA29 _ (Kd.reads_of_C HR1.out)));have HC320:=Aside0.mk hC29;clear hA29 hC29 hi029 hsz29;obtain ⟨Ao30,co30,eo30⟩:=Kd.S_slice HO_6.out;subst eo30) | (go_at_call 57;rw [← (show (l1.take (x16_1:Int).toNat).length=(x16_1:Int).toNat from by rw [zz25];exact Nat.min_eq_left (by (try simp only [decide_eq_true_eq] at *);omega))];(with_reducible refine (spec_trKnows.calls k1 _ _ t314 _ _ (l1.take (x16_1:Int).toNat) (rd l1 x16_1) true _ ?side1 ?side2 ?side3 ?side4 A25.out).mono ?_);(case side1=>repeat (first | exact (Kd.S_reads' HO_6.out).2.2 | (with_reducible refine zz18 ?_ _) | (with_reducible refine zz19 ?_ _) | (with_reducible refine zz20 ?_)));(case side2=>exact (Kd.S_reads' HO_6.out).2.1);(case side3=>repeat (first | exact (Kd.C_below HR320.out HB.out) | (with_reducible refine zz18 ?_ _) | (with_reducible refine zz19 ?_ _) | (with_reducible refine zz20 ?_)));(case side4=>exact HC320.out);rintro e w' ⟨rfl,⟨nd,rfl⟩⟩))
              go_roundg k1
              case measure=>have:=HK1.out;omega
              case rel=>exact ⟨(wrap64 (x16_1+1)),(by first | rfl | (simp;done) | (simp [*];done)),H',⟨by have:=HK1.out;omega⟩,⟨by (with_reducible repeat (first | apply zz15 | apply zz16 | apply zz17));exact HO_6.out⟩,⟨by (with_reducible repeat (first | refine zz6 ?_ _ | refine zz7 ?_ | refine zz8 ?_ _));exact BK312.out⟩,⟨by repeat first | exact HB.out | apply zz2 | apply zz0 | apply zz1 | refine zz3 ?_ GE312.out⟩⟩
             ·replace c26:=Bool.eq_false_iff.mpr c26
              subst c26
              have H1:(some (false,true))=some (r1,r2):=by rw [if_neg (show ¬ (false=true) by decide)] at H;exact H
              clear H
              have H:=H1
              clear H1
              simp only [Option.some.injEq,Prod.mk.injEq] at H
              obtain ⟨rfl,rfl⟩:=H
              have p317:0≤(x16_1:Int):=zz29 (by first | (with_reducible assumption) | assumption)
              have q317:x16_1 < (l1.length:Int):=zz29 (by first | (with_reducible assumption) | assumption)
              obtain ⟨ad317,e317,hx317_0⟩:=Kd.at_int HR1.out x16_1 p317 q317
              cases e317
              replace hx317_0:=(HB.out.cell (World.block_lt_of_cell? w _ hx317_0)).trans hx317_0
              replace p317:=eq_true p317
              replace q317:=eq_true q317
              have hcz31_0:wr.cell? ⟨gb312,0,none⟩=some (.int .i64 a0_0):=(zz9 BK312.out 0).trans rfl
              have hcz31_1:wr.cell? ⟨gb312,1,none⟩=some (.slice A0_1 l0_1.length c0_1):=(zz9 BK312.out 1).trans rfl
              have hfz31_0:=zz10 BK312.out 0
              have hfz31_1:=zz10 BK312.out 1
              go_wp2_with (first | ((with_reducible refine gate_callee (f:=56) rfl ?_);refine goesL_ (some 23) rfl rfl Try.func56 (by kernel_rfl) rfl #[.agg #[.int .i64 a0_0,.slice A0_1 l0_1.length c0_1],.int .i64 (rd l1 x16_1)] rfl (by (try simp only [zz26,zz27,zz28]);first | done | rfl | (simp only [zz24,zz25];rfl) | (simp only [zz25];congr;(try simp only [decide_eq_true_eq] at *);omega)) ?_;(with_reducible refine (spec_paHas.calls a0_0 _ _ l0_1 (rd l1 x16_1) true _ ?side1 ?side2 A14.out).mono ?_);(case side1=>repeat (first | exact (Kd.C_below HR0_1.out HB.out) | (with_reducible refine zz18 ?_ _) | (with_reducible refine zz19 ?_ _) | (with_reducible refine zz20 ?_)));(case side2=>exact HC0_1.out);rintro e w32 ⟨rfl,hb⟩;refine ⟨_,rfl,?_⟩;have n0_:=Aside0.mk (Kd.S_below (by (with_reducible repeat (first | apply zz15 | apply zz16 | apply zz17));exact HO_6.out) hb);have n1_:=Aside0.mk (zz11 (g:=gb312) (o:=.cells #[.int .i64 a0_0,.slice A0_1 l0_1.length c0_1] 30 (0,0)) (by (with_reducible repeat (first | refine zz6 ?_ _ | refine zz7 ?_ | refine zz8 ?_ _));exact BK312.out) hb);have n2_:=Aside0.mk (zz4 (by repeat first | exact HB.out | apply zz2 | apply zz0 | apply zz1 | refine zz3 ?_ GE312.out) hb);clear HO_6;clear BK312;clear HB;have HO_6:=n0_;have BK312:=n1_;have HB:=n2_;clear n0_ n1_ n2_;(try clear hb);(try clear hb2);(try clear hk);(try clear hi);have p319:0≤((ji17):Int):=zz29 (by first | (with_reducible assumption) | assumption);have q319:(ji17) < (l1.length:Int):=zz29 (by first | (with_reducible assumption) | assumption);obtain ⟨ad319,e319,hx319_0⟩:=Kd.at_int HR1.out (ji17) p319 q319;obtain rfl:ad317=ad319:=(by injection e319);replace hx319_0:=(HB.out.cell (World.block_lt_of_cell? w _ hx319_0)).trans hx319_0;replace p319:=eq_true p319;replace q319:=eq_true q319;obtain ⟨i033,hi033,_,hsz33,_⟩:=info_parts info3;obtain ⟨hcut33,hA33,hC33⟩:=print_take_of (P:=Try.prog) (Value.int .i64) 0 40 3 .i64 Try.underlying40 hi033 hsz33 (some ad317) c1 l1 x16_1 (zz29 (by first | (with_reducible assumption) | assumption)) (zz29 (by first | (with_reducible assumption) | assumption)) HC1.out;have HR320:=Aside0.mk (Kd.C_of_reads (h1:=fun _=>rfl) (hA33 _ (Kd.reads_of_C HR1.out)));have HC320:=Aside0.mk hC33;clear hA33 hC33 hi033 hsz33;obtain ⟨Ao34,co34,eo34⟩:=Kd.S_slice HO_6.out;subst eo34) | (go_at_call 57;rw [← (show (l1.take (x16_1:Int).toNat).length=(x16_1:Int).toNat from by rw [zz25];exact Nat.min_eq_left (by (try simp only [decide_eq_true_eq] at *);omega))];(with_reducible refine (spec_trKnows.calls k1 _ _ t314 _ _ (l1.take (x16_1:Int).toNat) (rd l1 x16_1) false _ ?side1 ?side2 ?side3 ?side4 A25.out).mono ?_);(case side1=>repeat (first | exact (Kd.S_reads' HO_6.out).2.2 | (with_reducible refine zz18 ?_ _) | (with_reducible refine zz19 ?_ _) | (with_reducible refine zz20 ?_)));(case side2=>exact (Kd.S_reads' HO_6.out).2.1);(case side3=>repeat (first | exact (Kd.C_below HR320.out HB.out) | (with_reducible refine zz18 ?_ _) | (with_reducible refine zz19 ?_ _) | (with_reducible refine zz20 ?_)));(case side4=>exact HC320.out);rintro e w' ⟨rfl,⟨nd,rfl⟩⟩))
              go_ret2
              exact ⟨by first | rfl | (simp [errW_none,errW_some] <;> rfl) | (simp only [← hji17];first | rfl | (simp [errW_none,errW_some] <;> rfl)) | (simp [*,errW_none,errW_some] <;> rfl),by repeat first | exact HB.out | apply zz2 | apply zz0 | apply zz1 | refine zz3 ?_ GE312.out⟩
            ·rw [if_neg c24] at H
             exact absurd H (by simp)
          ·rw [if_neg c19] at H
           exact absurd H (by simp)
         ·rw [if_neg c18] at H
          exact absurd H (by simp)
        ·rw [if_neg c16] at H
         have c16b0:decide (0 < x16_1)=false:=decide_eq_false c16
         clear c16
         have c35b0:=eq_true (zz29 (by first | (with_reducible assumption) | assumption):0≤x16_1)
         by_cases c36:x16_1≤(l1.length:Int)
         ·rw [if_pos c36] at H
          have c36b0:=eq_true c36
          have c36b1:decide (x16_1≤(l1.length:Int))=true:=decide_eq_true c36
          clear c36
          replace H:=zz30.mp H
          obtain ⟨t323,A370,H⟩:=H
          replace H:(if t323=true then (spec_IsGroup.l0 k1 l1 t314 l1 (l1.length:Int) (wrap64 (x16_1+1)) a0_0 l0_1) else (some (false,true)))=some (r1,r2):=H
          have A37:=Aside0.mk A370
          clear A370
          by_cases c38:t323=true
          ·subst c38
           have H1:(spec_IsGroup.l0 k1 l1 t314 l1 (l1.length:Int) (wrap64 (x16_1+1)) a0_0 l0_1)=some (r1,r2):=by rw [if_pos rfl] at H;exact H
           clear H
           have H:=H1
           clear H1
           have H':=Aside0.mk H
           clear H
           have p317:0≤(x16_1:Int):=zz29 (by first | (with_reducible assumption) | assumption)
           have q317:x16_1 < (l1.length:Int):=zz29 (by first | (with_reducible assumption) | assumption)
           obtain ⟨ad317,e317,hx317_0⟩:=Kd.at_int HR1.out x16_1 p317 q317
           cases e317
           replace hx317_0:=(HB.out.cell (World.block_lt_of_cell? w _ hx317_0)).trans hx317_0
           replace p317:=eq_true p317
           replace q317:=eq_true q317
           have hcz39_0:wr.cell? ⟨gb312,0,none⟩=some (.int .i64 a0_0):=(zz9 BK312.out 0).trans rfl
           have hcz39_1:wr.cell? ⟨gb312,1,none⟩=some (.slice A0_1 l0_1.length c0_1):=(zz9 BK312.out 1).trans rfl
           have hfz39_0:=zz10 BK312.out 0
           have hfz39_1:=zz10 BK312.out 1
           go_wp2_with (first | ((with_reducible refine gate_callee (f:=56) rfl ?_);refine goesL_ (some 23) rfl rfl Try.func56 (by kernel_rfl) rfl #[.agg #[.int .i64 a0_0,.slice A0_1 l0_1.length c0_1],.int .i64 (rd l1 x16_1)] rfl (by (try simp only [zz26,zz27,zz28]);first | done | rfl | (simp only [zz24,zz25];rfl) | (simp only [zz25];congr;(try simp only [decide_eq_true_eq] at *);omega)) ?_;(with_reducible refine (spec_paHas.calls a0_0 _ _ l0_1 (rd l1 x16_1) true _ ?side1 ?side2 A14.out).mono ?_);(case side1=>repeat (first | exact (Kd.C_below HR0_1.out HB.out) | (with_reducible refine zz18 ?_ _) | (with_reducible refine zz19 ?_ _) | (with_reducible refine zz20 ?_)));(case side2=>exact HC0_1.out);rintro e w40 ⟨rfl,hb⟩;refine ⟨_,rfl,?_⟩;have n0_:=Aside0.mk (Kd.S_below (by (with_reducible repeat (first | apply zz15 | apply zz16 | apply zz17));exact HO_6.out) hb);have n1_:=Aside0.mk (zz11 (g:=gb312) (o:=.cells #[.int .i64 a0_0,.slice A0_1 l0_1.length c0_1] 30 (0,0)) (by (with_reducible repeat (first | refine zz6 ?_ _ | refine zz7 ?_ | refine zz8 ?_ _));exact BK312.out) hb);have n2_:=Aside0.mk (zz4 (by repeat first | exact HB.out | apply zz2 | apply zz0 | apply zz1 | refine zz3 ?_ GE312.out) hb);clear HO_6;clear BK312;clear HB;have HO_6:=n0_;have BK312:=n1_;have HB:=n2_;clear n0_ n1_ n2_;(try clear hb);(try clear hb2);(try clear hk);(try clear hi);obtain ⟨i041,hi041,_,hsz41,_⟩:=info_parts info3;obtain ⟨hcut41,hA41,hC41⟩:=print_take_of (P:=Try.prog) (Value.int .i64) 0 40 3 .i64 Try.underlying40 hi041 hsz41 (some ad317) c1 l1 x16_1 (zz29 (by first | (with_reducible assumption) | assumption)) (zz29 (by first | (with_reducible assumption) | assumption)) HC1.out;have HR322:=Aside0.mk (Kd.C_of_reads (h1:=fun _=>rfl) (hA41 _ (Kd.reads_of_C HR1.out)));have HC322:=Aside0.mk hC41;clear hA41 hC41 hi041 hsz41;obtain ⟨Ao42,co42,eo42⟩:=Kd.S_slice HO_6.out;subst eo42) | (go_at_call 57;rw [← (show (l1.take (x16_1:Int).toNat).length=(x16_1:Int).toNat from by rw [zz25];exact Nat.min_eq_left (by (try simp only [decide_eq_true_eq] at *);omega))];(with_reducible refine (spec_trKnows.calls k1 _ _ t314 _ _ (l1.take (x16_1:Int).toNat) (rd l1 x16_1) true _ ?side1 ?side2 ?side3 ?side4 A37.out).mono ?_);(case side1=>repeat (first | exact (Kd.S_reads' HO_6.out).2.2 | (with_reducible refine zz18 ?_ _) | (with_reducible refine zz19 ?_ _) | (with_reducible refine zz20 ?_)));(case side2=>exact (Kd.S_reads' HO_6.out).2.1);(case side3=>repeat (first | exact (Kd.C_below HR322.out HB.out) | (with_reducible refine zz18 ?_ _) | (with_reducible refine zz19 ?_ _) | (with_reducible refine zz20 ?_)));(case side4=>exact HC322.out);rintro e w' ⟨rfl,⟨nd,rfl⟩⟩))
           go_roundg k1
           case measure=>have:=HK1.out;omega
           case rel=>exact ⟨(wrap64 (x16_1+1)),(by first | rfl | (simp;done) | (simp [*];done)),H',⟨by have:=HK1.out;omega⟩,⟨by (with_reducible repeat (first | apply zz15 | apply zz16 | apply zz17));exact HO_6.out⟩,⟨by (with_reducible repeat (first | refine zz6 ?_ _ | refine zz7 ?_ | refine zz8 ?_ _));exact BK312.out⟩,⟨by repeat first | exact HB.out | apply zz2 | apply zz0 | apply zz1 | refine zz3 ?_ GE312.out⟩⟩
          ·replace c38:=Bool.eq_false_iff.mpr c38
           subst c38
           have H1:(some (false,true))=some (r1,r2):=by rw [if_neg (show ¬ (false=true) by decide)] at H;exact H
           clear H
           have H:=H1
           clear H1
           simp only [Option.some.injEq,Prod.mk.injEq] at H
           obtain ⟨rfl,rfl⟩:=H
           have p317:0≤(x16_1:Int):=zz29 (by first | (with_reducible assumption) | assumption)
           have q317:x16_1 < (l1.length:Int):=zz29 (by first | (with_reducible assumption) | assumption)
           obtain ⟨ad317,e317,hx317_0⟩:=Kd.at_int HR1.out x16_1 p317 q317
           cases e317
           replace hx317_0:=(HB.out.cell (World.block_lt_of_cell? w _ hx317_0)).trans hx317_0
           replace p317:=eq_true p317
           replace q317:=eq_true q317
           have hcz43_0:wr.cell? ⟨gb312,0,none⟩=some (.int .i64 a0_0):=(zz9 BK312.out 0).trans rfl
           have hcz43_1:wr.cell? ⟨gb312,1,none⟩=some (.slice A0_1 l0_1.length c0_1):=(zz9 BK312.out 1).trans rfl
           have hfz43_0:=zz10 BK312.out 0
           have hfz43_1:=zz10 BK312.out 1
           go_wp2_with (first | ((with_reducible refine gate_callee (f:=56) rfl ?_);refine goesL_ (some 23) rfl rfl Try.func56 (by kernel_rfl) rfl #[.agg #[.int .i64 a0_0,.slice A0_1 l0_1.length c0_1],.int .i64 (rd l1 x16_1)] rfl (by (try simp only [zz26,zz27,zz28]);first | done | rfl | (simp only [zz24,zz25];rfl) | (simp only [zz25];congr;(try simp only [decide_eq_true_eq] at *);omega)) ?_;(with_reducible refine (spec_paHas.calls a0_0 _ _ l0_1 (rd l1 x16_1) true _ ?side1 ?side2 A14.out).mono ?_);(case side1=>repeat (first | exact (Kd.C_below HR0_1.out HB.out) | (with_reducible refine zz18 ?_ _) | (with_reducible refine zz19 ?_ _) | (with_reducible refine zz20 ?_)));(case side2=>exact HC0_1.out);rintro e w44 ⟨rfl,hb⟩;refine ⟨_,rfl,?_⟩;have n0_:=Aside0.mk (Kd.S_below (by (with_reducible repeat (first | apply zz15 | apply zz16 | apply zz17));exact HO_6.out) hb);have n1_:=Aside0.mk (zz11 (g:=gb312) (o:=.cells #[.int .i64 a0_0,.slice A0_1 l0_1.length c0_1] 30 (0,0)) (by (with_reducible repeat (first | refine zz6 ?_ _ | refine zz7 ?_ | refine zz8 ?_ _));exact BK312.out) hb);have n2_:=Aside0.mk (zz4 (by repeat first | exact HB.out | apply zz2 | apply zz0 | apply zz1 | refine zz3 ?_ GE312.out) hb);clear HO_6;clear BK312;clear HB;have HO_6:=n0_;have BK312:=n1_;have HB:=n2_;clear n0_ n1_ n2_;(try clear hb);(try clear hb2);(try clear hk);(try clear hi);obtain ⟨i045,hi045,_,hsz45,_⟩:=info_parts info3;obtain ⟨hcut45,hA45,hC45⟩:=print_take_of (P:=Try.prog) (Value.int .i64) 0 40 3 .i64 Try.underlying40 hi045 hsz45 (some ad317) c1 l1 x16_1 (zz29 (by first | (with_reducible assumption) | assumption)) (zz29 (by first | (with_reducible assumption) | assumption)) HC1.out;have HR322:=Aside0.mk (Kd.C_of_reads (h1:=fun _=>rfl) (hA45 _ (Kd.reads_of_C HR1.out)));have HC322:=Aside0.mk hC45;clear hA45 hC45 hi045 hsz45;obtain ⟨Ao46,co46,eo46⟩:=Kd.S_slice HO_6.out;subst eo46) | (go_at_call 57;rw [← (show (l1.take (x16_1:Int).toNat).length=(x16_1:Int).toNat from by rw [zz25];exact Nat.min_eq_left (by (try simp only [decide_eq_true_eq] at *);omega))];(with_reducible refine (spec_trKnows.calls k1 _ _ t314 _ _ (l1.take (x16_1:Int).toNat) (rd l1 x16_1) false _ ?side1 ?side2 ?side3 ?side4 A37.out).mono ?_);(case side1=>repeat (first | exact (Kd.S_reads' HO_6.out).2.2 | (with_reducible refine zz18 ?_ _) | (with_reducible refine zz19 ?_ _) | (with_reducible refine zz20 ?_)));(case side2=>exact (Kd.S_reads' HO_6.out).2.1);(case side3=>repeat (first | exact (Kd.C_below HR322.out HB.out) | (with_reducible refine zz18 ?_ _) | (with_reducible refine zz19 ?_ _) | (with_reducible refine zz20 ?_)));(case side4=>exact HC322.out);rintro e w' ⟨rfl,⟨nd,rfl⟩⟩))
           go_ret2
           exact ⟨by first | rfl | (simp [errW_none,errW_some] <;> rfl) | (simp [*,errW_none,errW_some] <;> rfl),by repeat first | exact HB.out | apply zz2 | apply zz0 | apply zz1 | refine zz3 ?_ GE312.out⟩
         ·rw [if_neg c36] at H
          exact absurd H (by simp)
       ·replace c15:=Bool.eq_false_iff.mpr c15
        subst c15
        have H1:(some (false,true))=some (r1,r2):=by rw [if_neg (show ¬ (false=true) by decide)] at H;exact H
        clear H
        have H:=H1
        clear H1
        simp only [Option.some.injEq,Prod.mk.injEq] at H
        obtain ⟨rfl,rfl⟩:=H
        have p317:0≤(x16_1:Int):=zz29 (by first | (with_reducible assumption) | assumption)
        have q317:x16_1 < (l1.length:Int):=zz29 (by first | (with_reducible assumption) | assumption)
        obtain ⟨ad317,e317,hx317_0⟩:=Kd.at_int HR1.out x16_1 p317 q317
        cases e317
        replace hx317_0:=(HB.out.cell (World.block_lt_of_cell? w _ hx317_0)).trans hx317_0
        replace p317:=eq_true p317
        replace q317:=eq_true q317
        have hcz47_0:wr.cell? ⟨gb312,0,none⟩=some (.int .i64 a0_0):=(zz9 BK312.out 0).trans rfl
        have hcz47_1:wr.cell? ⟨gb312,1,none⟩=some (.slice A0_1 l0_1.length c0_1):=(zz9 BK312.out 1).trans rfl
        have hfz47_0:=zz10 BK312.out 0
        have hfz47_1:=zz10 BK312.out 1
        go_wp2_with (first | ((with_reducible refine gate_callee (f:=56) rfl ?_);refine goesL_ (some 23) rfl rfl Try.func56 (by kernel_rfl) rfl #[.agg #[.int .i64 a0_0,.slice A0_1 l0_1.length c0_1],.int .i64 (rd l1 x16_1)] rfl (by (try simp only [zz26,zz27,zz28]);first | done | rfl | (simp only [zz24,zz25];rfl) | (simp only [zz25];congr;(try simp only [decide_eq_true_eq] at *);omega)) ?_;(with_reducible refine (spec_paHas.calls a0_0 _ _ l0_1 (rd l1 x16_1) false _ ?side1 ?side2 A14.out).mono ?_);(case side1=>repeat (first | exact (Kd.C_below HR0_1.out HB.out) | (with_reducible refine zz18 ?_ _) | (with_reducible refine zz19 ?_ _) | (with_reducible refine zz20 ?_)));(case side2=>exact HC0_1.out);rintro e w48 ⟨rfl,hb⟩;refine ⟨_,rfl,?_⟩;have n0_:=Aside0.mk (Kd.S_below (by (with_reducible repeat (first | apply zz15 | apply zz16 | apply zz17));exact HO_6.out) hb);have n1_:=Aside0.mk (zz11 (g:=gb312) (o:=.cells #[.int .i64 a0_0,.slice A0_1 l0_1.length c0_1] 30 (0,0)) (by (with_reducible repeat (first | refine zz6 ?_ _ | refine zz7 ?_ | refine zz8 ?_ _));exact BK312.out) hb);have n2_:=Aside0.mk (zz4 (by repeat first | exact HB.out | apply zz2 | apply zz0 | apply zz1 | refine zz3 ?_ GE312.out) hb);clear HO_6;clear BK312;clear HB;have HO_6:=n0_;have BK312:=n1_;have HB:=n2_;clear n0_ n1_ n2_;(try clear hb);(try clear hb2);(try clear hk);(try clear hi)))
        go_ret2
        exact ⟨by first | rfl | (simp [errW_none,errW_some] <;> rfl) | (simp [*,errW_none,errW_some] <;> rfl),by repeat first | exact HB.out | apply zz2 | apply zz0 | apply zz1 | refine zz3 ?_ GE312.out⟩
      ·rw [if_neg c13] at H
       exact absurd H (by simp)
     ·rw [if_neg c12] at H
      exact absurd H (by simp)
    ·rw [if_neg c11] at H
     have c11b0:decide (x16_1 < (l1.length:Int))=false:=decide_eq_false c11
     clear c11
     simp only [Option.some.injEq,Prod.mk.injEq] at H
     obtain ⟨rfl,rfl⟩:=H
     go_wp2
     go_ret2
     exact ⟨by first | rfl | (simp [errW_none,errW_some] <;> rfl) | (simp [*,errW_none,errW_some] <;> rfl),by repeat first | exact HB.out | apply zz2 | apply zz0 | apply zz1 | refine zz3 ?_ GE312.out⟩
 ·replace c4:=Bool.eq_false_iff.mpr c4
  subst c4
  have H1:(some (false,false))=some (r1,r2):=by rw [if_neg (show ¬ (false=true) by decide)] at H;exact H
  clear H
  have H:=H1
  clear H1
  simp only [Option.some.injEq,Prod.mk.injEq] at H
  obtain ⟨rfl,rfl⟩:=H
  go_enter Try.func23,Try.ntmps23
  go_wp2_with (first | ((with_reducible refine gate_dst (N:=2) rfl ?_);refine box_event ?hg (N:=2) ?hd (cs:=#[.int .i64 a0_0,.slice A0_1 l0_1.length c0_1]) (t:=30) ?hr ?_;(case hd=>rfl);(case hg=>rfl);(case hr=>first | (go_simp;done) | (go_simp;rfl));intro gb312 hg w49 hbox hb;have n0_:=Aside0.mk (zz4 (by repeat first | exact HB.out | apply zz2 | apply zz0 | apply zz1) hb);have n1_:=Aside0.mk (hbox);have n2_:=Aside0.mk ((by rw [hg];exact (zz5 (by repeat first | exact HB.out | apply zz2 | apply zz0 | apply zz1)):w.heap.size≤gb312));have n3_:=Aside0.mk ((by rw [hg];exact (zz5 (by repeat first | exact HB.out | apply zz2 | apply zz0 | apply zz1)):w.heap.size≤gb312));clear HB;have HB:=n0_;have BK312:=n1_;have GW312:=n2_;have GE312:=n3_;clear n0_ n1_ n2_ n3_;clear hb hbox hg;have hcz50_0:w49.cell? ⟨gb312,0,none⟩=some (.int .i64 a0_0):=(zz9 BK312.out 0).trans rfl;have hcz50_1:w49.cell? ⟨gb312,1,none⟩=some (.slice A0_1 l0_1.length c0_1):=(zz9 BK312.out 1).trans rfl;have hfz50_0:=zz10 BK312.out 0;have hfz50_1:=zz10 BK312.out 1) | ((with_reducible refine gate_callee (f:=42) rfl ?_);refine goesL_ (some 10) rfl rfl Try.func42 (by kernel_rfl) rfl #[.agg #[.int .i64 a0_0,.slice A0_1 l0_1.length c0_1]] rfl (by (try simp only [zz26,zz27,zz28]);first | done | rfl | (simp only [zz24,zz25];rfl) | (simp only [zz25];congr;(try simp only [decide_eq_true_eq] at *);omega)) ?_;(with_reducible refine (spec_paGood.calls k a0_0 _ _ l0_1 false _ ?side1 ?side2 A3.out).mono ?_);(case side1=>repeat (first | exact (Kd.C_below HR0_1.out HB.out) | (with_reducible refine zz18 ?_ _) | (with_reducible refine zz19 ?_ _) | (with_reducible refine zz20 ?_)));(case side2=>exact HC0_1.out);rintro e w51 ⟨rfl,hb⟩;refine ⟨_,rfl,?_⟩;have n0_:=Aside0.mk (zz11 (g:=gb312) (o:=.cells #[.int .i64 a0_0,.slice A0_1 l0_1.length c0_1] 30 (0,0)) (by (with_reducible repeat (first | refine zz6 ?_ _ | refine zz7 ?_ | refine zz8 ?_ _));exact BK312.out) hb);have n1_:=Aside0.mk (zz4 (by repeat first | exact HB.out | apply zz2 | apply zz0 | apply zz1 | refine zz3 ?_ GE312.out) hb);clear BK312;clear HB;have BK312:=n0_;have HB:=n1_;clear n0_ n1_;(try clear hb);(try clear hb2);(try clear hk);(try clear hi)))
  go_ret2
  exact ⟨by first | rfl | (simp [errW_none,errW_some] <;> rfl) | (simp [*,errW_none,errW_some] <;> rfl),by repeat first | exact HB.out | apply zz2 | apply zz0 | apply zz1 | refine zz3 ?_ GE312.out⟩

/-! ### impl_table_isGroup: function 60 -/
mutual
def impl_table_isGroup.l0:Nat→List Int→List Int→List Int→Int→Int→Option (Bool)
 | 0,_,_,_,_,_=>none
 | k+1,x0,x1,x9,x10,x11=>if x11 < x10 then (if 0≤x11 then (if x11 < (x9.length:Int) then (if x11≤(x1.length:Int) then (impl_table_isGroup.l1 k x0 x1 (rd x9 x11) x9 x10 x11 (x1.take (x11:Int).toNat) ((x1.take (x11:Int).toNat).length:Int) 0) else (none)) else (none)) else (none)) else (some true)
def impl_table_isGroup.l1:Nat→List Int→List Int→Int→List Int→Int→Int→List Int→Int→Int→Option (Bool)
 | 0,_,_,_,_,_,_,_,_,_=>none
 | k+1,x0,x1,x6,x9,x10,x11,x18,x19,x20=>if x20 < x19 then (if 0≤x20 then (if x20 < (x18.length:Int) then ((impl_table_has.f x0 x6 (rd x18 x20)).bind fun t337=>(if t337=true then (impl_table_isGroup.l1 k x0 x1 x6 x9 x10 x11 x18 x19 (wrap64 (x20+1))) else (some false))) else (none)) else (none)) else (impl_table_isGroup.l0 k x0 x1 x9 x10 (wrap64 (x11+1)))
end
def impl_table_isGroup.f (k:Nat) (l0:List Int) (l1:List Int):Option (Bool):=impl_table_isGroup.l0 k l0 l1 l1 (l1.length:Int) 0
theorem impl_table_isGroup.mono_l:∀ k,(∀ y0 y1 y2 y3 y4,LeO (impl_table_isGroup.l0 k y0 y1 y2 y3 y4) (impl_table_isGroup.l0 (k+1) y0 y1 y2 y3 y4))∧(∀ y0 y1 y2 y3 y4 y5 y6 y7 y8,LeO (impl_table_isGroup.l1 k y0 y1 y2 y3 y4 y5 y6 y7 y8) (impl_table_isGroup.l1 (k+1) y0 y1 y2 y3 y4 y5 y6 y7 y8))
 | 0=>⟨fun _ _ _ _ _ r h=>by simp [impl_table_isGroup.l0] at h,fun _ _ _ _ _ _ _ _ _ r h=>by simp [impl_table_isGroup.l1] at h⟩
 | k+1=>by
  obtain ⟨ih0,ih1⟩:=impl_table_isGroup.mono_l k
  refine ⟨?_,?_⟩
  ·intro y0 y1 y2 y3 y4
   unfold impl_table_isGroup.l0
   repeat' first
   | (with_reducible exact ih0 _ _ _ _ _)
   | (with_reducible exact ih1 _ _ _ _ _ _ _ _ _)
   | (with_reducible exact LeO.refl _)
   | (with_reducible exact LeO.none _)
   | (with_reducible refine LeO.ite ?_ ?_)
   | (with_reducible refine LeO.bind ?_ (fun _=>?_))
   | exact ih0 _ _ _ _ _
   | exact ih1 _ _ _ _ _ _ _ _ _
   | exact LeO.none _
   | refine LeO.ite ?_ ?_
   | refine LeO.bind ?_ (fun _=>?_)
  ·intro y0 y1 y2 y3 y4 y5 y6 y7 y8
   unfold impl_table_isGroup.l1
   repeat' first
   | (with_reducible exact ih0 _ _ _ _ _)
   | (with_reducible exact ih1 _ _ _ _ _ _ _ _ _)
   | (with_reducible exact LeO.refl _)
   | (with_reducible exact LeO.none _)
   | (with_reducible refine LeO.ite ?_ ?_)
   | (with_reducible refine LeO.bind ?_ (fun _=>?_))
   | exact ih0 _ _ _ _ _
   | exact ih1 _ _ _ _ _ _ _ _ _
   | exact LeO.none _
   | refine LeO.ite ?_ ?_
   | refine LeO.bind ?_ (fun _=>?_)
theorem impl_table_isGroup.mono:∀ a0 a1 k,LeO (impl_table_isGroup.f k a0 a1) (impl_table_isGroup.f (k+1) a0 a1):=by
 intro a0 a1 k
 obtain ⟨ih0,ih1⟩:=impl_table_isGroup.mono_l k
 unfold impl_table_isGroup.f
 repeat' first
   | (with_reducible exact ih0 _ _ _ _ _)
   | (with_reducible exact ih1 _ _ _ _ _ _ _ _ _)
   | (with_reducible exact LeO.refl _)
   | (with_reducible exact LeO.none _)
   | (with_reducible refine LeO.ite ?_ ?_)
   | (with_reducible refine LeO.bind ?_ (fun _=>?_))
   | exact ih0 _ _ _ _ _
   | exact ih1 _ _ _ _ _ _ _ _ _
   | exact LeO.none _
   | refine LeO.ite ?_ ?_
   | refine LeO.bind ?_ (fun _=>?_)
set_option maxHeartbeats 8000000 in
set_option maxRecDepth 100000 in
theorem impl_table_isGroup.calls (k:Nat) (A0:Option Addr) (c0:Nat) (l0:List Int) (A1:Option Addr) (c1:Nat) (l1:List Int) (r:Bool) (w:World) (hr0:Kd.C (Kd.int .u16) w A0 l0.length l0) (hc0:l0.length≤c0) (hr1:Kd.C (Kd.int .i64) w A1 l1.length l1) (hc1:l1.length≤c1) (h:impl_table_isGroup.f k l0 l1=some r) :
  Calls Try.prog 60 #[.slice A0 l0.length c0,.slice A1 l1.length c1] w fun e w'=>e=.returned (.bool r)∧Drawn0 w w':=by
 have HR0:=Aside0.mk hr0
 have HC0:=Aside0.mk hc0
 clear hr0 hc0
 have HR1:=Aside0.mk hr1
 have HC1:=Aside0.mk hc1
 clear hr1 hc1
 have H:(impl_table_isGroup.l0 k l0 l1 l1 (l1.length:Int) 0)=some r:=h
 clear h
 have H':=Aside0.mk H
 clear H
 go_enter Try.func60,Try.ntmps60
 go_wp2
 go_loopg [11] k (fun kq v11 w'=>∃ (x11_1:Int),v11=.int .i64 x11_1∧Aside0 (impl_table_isGroup.l0 kq l0 l1 l1 (l1.length:Int) x11_1=some r)∧Aside0 (kq≤k)∧Drawn0 w w')
 case atStart=>exact ⟨(0),(by first | rfl | (simp;done) | (simp [*];done)),H',⟨Nat.le_refl _⟩,by repeat (first | exact Drawn0.refl _ | apply Drawn0.step)⟩
 case round =>
  clear H'
  try clear c1
  try clear p2
  obtain ⟨x11_1,rfl,HA,HK1,⟨m1,rfl⟩⟩:=hrel
  cases gk with
  | zero=>exact absurd HA.out (by simp [impl_table_isGroup.l0])
  | succ k1 =>
   have H:=HA.out
   clear HA
   simp only [impl_table_isGroup.l0] at H
   by_cases c3:x11_1 < (l1.length:Int)
   ·rw [if_pos c3] at H
    have c3b0:decide (x11_1 < (l1.length:Int))=true:=decide_eq_true c3
    clear c3
    by_cases c4:0≤x11_1
    ·rw [if_pos c4] at H
     have c4b0:decide (0≤x11_1)=true:=decide_eq_true c4
     clear c4
     by_cases c5:x11_1 < (l1.length:Int)
     ·rw [if_pos c5] at H
      have c5b0:decide (x11_1 < (l1.length:Int))=true:=decide_eq_true c5
      clear c5
      have c6b0:=eq_true (zz29 (by first | (with_reducible assumption) | assumption):0≤x11_1)
      by_cases c7:x11_1≤(l1.length:Int)
      ·rw [if_pos c7] at H
       have c7b0:=eq_true c7
       have c7b1:decide (x11_1≤(l1.length:Int))=true:=decide_eq_true c7
       clear c7
       have H':=Aside0.mk H
       clear H
       have p334:0≤(x11_1:Int):=zz29 (by first | (with_reducible assumption) | assumption)
       have q334:x11_1 < (l1.length:Int):=zz29 (by first | (with_reducible assumption) | assumption)
       obtain ⟨ad334,e334,hx334_0⟩:=Kd.at_int HR1.out x11_1 p334 q334
       cases e334
       replace p334:=eq_true p334
       replace q334:=eq_true q334
       obtain ⟨i08,hi08,_,hsz8,_⟩:=info_parts info3
       obtain ⟨hcut8,hA8,hC8⟩:=print_take_of (P:=Try.prog) (Value.int .i64) 0 40 3 .i64 Try.underlying40 hi08 hsz8 (some ad334) c1 l1 x11_1 (zz29 (by first | (with_reducible assumption) | assumption)) (zz29 (by first | (with_reducible assumption) | assumption)) HC1.out
       have HL8:=Aside0.mk (show ((l1.take (x11_1:Int).toNat).length:Int)=max x11_1 0 from by (have e1:x11_1≤(l1.length:Int):=zz29 (by first | (with_reducible assumption) | assumption));rw [zz25];omega)
       have HR335:=Aside0.mk (Kd.C_of_reads (h1:=fun _=>rfl) (hA8 _ (Kd.reads_of_C HR1.out)))
       have HC335:=Aside0.mk hC8
       clear hA8 hC8 hi08 hsz8
       go_wp2
       go_loopg [20] k1 (fun kq v20 w'=>∃ (x20_2:Int),v20=.int .i64 x20_2∧Aside0 (impl_table_isGroup.l1 kq l0 l1 (rd l1 x11_1) l1 (l1.length:Int) x11_1 (l1.take (x11_1:Int).toNat) ((l1.take (x11_1:Int).toNat).length:Int) x20_2=some r)∧Aside0 (kq≤k1)∧Drawn0 w w')
       case atStart=>exact ⟨(0),(by first | rfl | (simp;done) | (simp [*];done)),H',⟨Nat.le_refl _⟩,by repeat (first | exact Drawn0.refl _ | apply Drawn0.step)⟩
       case round =>
        clear H'
        try clear c1
        try clear p2
        try clear c3
        try clear c3b0
        try clear p3
        try clear q3
        try clear hx3
        try clear c4
        try clear c4b0
        try clear c5
        try clear c5b0
        try clear c6
        try clear c6b0
        try clear c7
        try clear c7b0
        try clear c7b1
        try clear hx334_0
        try clear p2
        try clear p334
        try clear q334
        obtain ⟨x20_2,rfl,HA,HK2,⟨m2,rfl⟩⟩:=hrel
        cases gk with
        | zero=>exact absurd HA.out (by simp [impl_table_isGroup.l1])
        | succ k2 =>
         have H:=HA.out
         clear HA
         simp only [impl_table_isGroup.l1] at H
         by_cases c9:x20_2 < ((l1.take (x11_1:Int).toNat).length:Int)
         ·rw [if_pos c9] at H
          have c9b0:decide (x20_2 < ((l1.take (x11_1:Int).toNat).length:Int))=true:=decide_eq_true c9
          have c9b0z:decide (x20_2 < max x11_1 0)=true:=by rw [← HL8.out];exact c9b0
          clear c9
          by_cases c10:0≤x20_2
          ·rw [if_pos c10] at H
           have c10b0:decide (0≤x20_2)=true:=decide_eq_true c10
           clear c10
           by_cases c11:x20_2 < ((l1.take (x11_1:Int).toNat).length:Int)
           ·rw [if_pos c11] at H
            have c11b0:decide (x20_2 < ((l1.take (x11_1:Int).toNat).length:Int))=true:=decide_eq_true c11
            have c11b0z:decide (x20_2 < max x11_1 0)=true:=by rw [← HL8.out];exact c11b0
            clear c11
            replace H:=zz30.mp H
            obtain ⟨t337,A120,H⟩:=H
            replace H:(if t337=true then (impl_table_isGroup.l1 k2 l0 l1 (rd l1 x11_1) l1 (l1.length:Int) x11_1 (l1.take (x11_1:Int).toNat) ((l1.take (x11_1:Int).toNat).length:Int) (wrap64 (x20_2+1))) else (some false))=some r:=H
            have A12:=Aside0.mk A120
            clear A120
            by_cases c13:t337=true
            ·subst c13
             have H1:(impl_table_isGroup.l1 k2 l0 l1 (rd l1 x11_1) l1 (l1.length:Int) x11_1 (l1.take (x11_1:Int).toNat) ((l1.take (x11_1:Int).toNat).length:Int) (wrap64 (x20_2+1)))=some r:=by rw [if_pos rfl] at H;exact H
             clear H
             have H:=H1
             clear H1
             have H':=Aside0.mk H
             clear H
             have p336:0≤(x20_2:Int):=zz29 (by first | (with_reducible assumption) | assumption)
             have q336:x20_2 < ((l1.take (x11_1:Int).toNat).length:Int):=zz29 (by first | (with_reducible assumption) | assumption)
             have q336z:=eq_true (show x20_2 < max x11_1 0 from by rw [← HL8.out];exact q336)
             obtain ⟨ad336,e336,hx336_0⟩:=Kd.at_int HR335.out x20_2 p336 q336
             obtain rfl:ad334=ad336:=(by injection e336)
             replace p336:=eq_true p336
             replace q336:=eq_true q336
             go_wp2_with (first | ((with_reducible refine gate_callee (f:=48) rfl ?_);refine goesL_ (some 27) rfl rfl Try.func48 (by kernel_rfl) rfl #[.slice A0 l0.length c0,.int .i64 (rd l1 x11_1),.int .i64 (rd (l1.take (x11_1:Int).toNat) x20_2)] rfl (by (try simp only [zz26,zz27,zz28]);first | done | rfl | (simp only [zz24,zz25];rfl) | (simp only [zz25];congr;(try simp only [decide_eq_true_eq] at *);omega)) ?_;(with_reducible refine (impl_table_has.calls _ _ l0 (rd l1 x11_1) (rd (l1.take (x11_1:Int).toNat) x20_2) true _ ?side1 ?side2 A12.out).mono ?_);(case side1=>repeat (first | exact HR0.out | (with_reducible refine zz18 ?_ _) | (with_reducible refine zz19 ?_ _) | (with_reducible refine zz20 ?_)));(case side2=>exact HC0.out);rintro e w' ⟨rfl,⟨nd,rfl⟩⟩;refine ⟨_,rfl,?_⟩))
             go_roundg k2
             case measure=>have:=HK1.out;have:=HK2.out;omega
             case rel=>exact ⟨(wrap64 (x20_2+1)),(by first | rfl | (simp;done) | (simp [*];done)),H',⟨by have:=HK1.out;have:=HK2.out;omega⟩,by repeat (first | exact Drawn0.refl _ | apply Drawn0.step)⟩
            ·replace c13:=Bool.eq_false_iff.mpr c13
             subst c13
             have H1:(some false)=some r:=by rw [if_neg (show ¬ (false=true) by decide)] at H;exact H
             clear H
             have H:=H1
             clear H1
             obtain rfl:=Option.some.inj H
             have p336:0≤(x20_2:Int):=zz29 (by first | (with_reducible assumption) | assumption)
             have q336:x20_2 < ((l1.take (x11_1:Int).toNat).length:Int):=zz29 (by first | (with_reducible assumption) | assumption)
             have q336z:=eq_true (show x20_2 < max x11_1 0 from by rw [← HL8.out];exact q336)
             obtain ⟨ad336,e336,hx336_0⟩:=Kd.at_int HR335.out x20_2 p336 q336
             obtain rfl:ad334=ad336:=(by injection e336)
             replace p336:=eq_true p336
             replace q336:=eq_true q336
             go_wp2_with (first | ((with_reducible refine gate_callee (f:=48) rfl ?_);refine goesL_ (some 27) rfl rfl Try.func48 (by kernel_rfl) rfl #[.slice A0 l0.length c0,.int .i64 (rd l1 x11_1),.int .i64 (rd (l1.take (x11_1:Int).toNat) x20_2)] rfl (by (try simp only [zz26,zz27,zz28]);first | done | rfl | (simp only [zz24,zz25];rfl) | (simp only [zz25];congr;(try simp only [decide_eq_true_eq] at *);omega)) ?_;(with_reducible refine (impl_table_has.calls _ _ l0 (rd l1 x11_1) (rd (l1.take (x11_1:Int).toNat) x20_2) false _ ?side1 ?side2 A12.out).mono ?_);(case side1=>repeat (first | exact HR0.out | (with_reducible refine zz18 ?_ _) | (with_reducible refine zz19 ?_ _) | (with_reducible refine zz20 ?_)));(case side2=>exact HC0.out);rintro e w' ⟨rfl,⟨nd,rfl⟩⟩;refine ⟨_,rfl,?_⟩))
             go_ret
             exact ⟨by first | rfl | (simp;done) | (simp [*];done),by repeat (first | exact Drawn0.refl _ | apply Drawn0.step)⟩
           ·rw [if_neg c11] at H
            exact absurd H (by simp)
          ·rw [if_neg c10] at H
           exact absurd H (by simp)
         ·rw [if_neg c9] at H
          have c9b0:decide (x20_2 < ((l1.take (x11_1:Int).toNat).length:Int))=false:=decide_eq_false c9
          have c9b0z:decide (x20_2 < max x11_1 0)=false:=by rw [← HL8.out];exact c9b0
          clear c9
          have H':=Aside0.mk H
          clear H
          go_wp2
          go_roundg k2
          case measure=>have:=HK1.out;have:=HK2.out;omega
          case rel=>exact ⟨(wrap64 (x11_1+1)),(by first | rfl | (simp;done) | (simp [*];done)),H',⟨by have:=HK1.out;have:=HK2.out;omega⟩,by repeat (first | exact Drawn0.refl _ | apply Drawn0.step)⟩
      ·rw [if_neg c7] at H
       exact absurd H (by simp)
     ·rw [if_neg c5] at H
      exact absurd H (by simp)
    ·rw [if_neg c4] at H
     exact absurd H (by simp)
   ·rw [if_neg c3] at H
    have c3b0:decide (x11_1 < (l1.length:Int))=false:=decide_eq_false c3
    clear c3
    obtain rfl:=Option.some.inj H
    go_wp2
    go_ret
    exact ⟨by first | rfl | (simp;done) | (simp [*];done),by repeat (first | exact Drawn0.refl _ | apply Drawn0.step)⟩

/-! ### impl_IsGroup: function 25 -/
def impl_IsGroup.f (k:Nat) (a0_0:Int) (l0_1:List (S80)) (l1:List Int):Option (Bool × Bool):=(impl_IsParty.f k a0_0 l0_1).bind fun t339=>(if t339=true then ((impl_arePeople.f k a0_0 l0_1 l1).bind fun t340=>(if t340=true then ((impl_isRising.f k l1).bind fun t341=>(if t341=true then ((impl_Party_table.f k a0_0 l0_1).bind fun t342=>((impl_table_isGroup.f k t342 l1).bind fun t345=>(some (t345,true)))) else (some (false,true)))) else (some (false,true)))) else (some (false,false)))
theorem impl_IsGroup.mono:∀ a0 a1 a2 k,LeO (impl_IsGroup.f k a0 a1 a2) (impl_IsGroup.f (k+1) a0 a1 a2):=by
 intro a0 a1 a2 k
 unfold impl_IsGroup.f
 repeat' first
   | (with_reducible exact impl_IsParty.mono _ _ _)
   | (with_reducible exact impl_Party_table.mono _ _ _)
   | (with_reducible exact impl_arePeople.mono _ _ _ _)
   | (with_reducible exact impl_isRising.mono _ _)
   | (with_reducible exact impl_table_isGroup.mono _ _ _)
   | (with_reducible exact LeO.refl _)
   | (with_reducible exact LeO.none _)
   | (with_reducible refine LeO.ite ?_ ?_)
   | (with_reducible refine LeO.bind ?_ (fun _=>?_))
   | exact impl_IsParty.mono _ _ _
   | exact impl_Party_table.mono _ _ _
   | exact impl_arePeople.mono _ _ _ _
   | exact impl_isRising.mono _ _
   | exact impl_table_isGroup.mono _ _ _
   | exact LeO.none _
   | refine LeO.ite ?_ ?_
   | refine LeO.bind ?_ (fun _=>?_)
set_option maxHeartbeats 8000000 in
set_option maxRecDepth 100000 in
theorem impl_IsGroup.calls (k:Nat) (a0_0:Int) (A0_1:Option Addr) (c0_1:Nat) (l0_1:List (S80)) (A1:Option Addr) (c1:Nat) (l1:List Int) (r1:Bool) (r2:Bool) (w:World) (hr0_1:Kd.C k80 w A0_1 l0_1.length l0_1) (hc0_1:l0_1.length≤c0_1) (hr1:Kd.C (Kd.int .i64) w A1 l1.length l1) (hc1:l1.length≤c1) (h:impl_IsGroup.f k a0_0 l0_1 l1=some (r1,r2)) :
  Calls Try.prog 25 #[.agg #[.int .i64 a0_0,.slice A0_1 l0_1.length c0_1],.slice A1 l1.length c1] w fun e w'=>e=.returned (.tuple #[.bool r1,.bool r2])∧Below w.heap.size w w':=by
 have hu30:=Try.underlying30
 have HR0_1:=Aside0.mk hr0_1
 have HC0_1:=Aside0.mk hc0_1
 clear hr0_1 hc0_1
 have HR1:=Aside0.mk hr1
 have HC1:=Aside0.mk hc1
 clear hr1 hc1
 have HB:=Aside0.mk (Below.refl w.heap.size w)
 have H:((impl_IsParty.f k a0_0 l0_1).bind fun t339=>(if t339=true then ((impl_arePeople.f k a0_0 l0_1 l1).bind fun t340=>(if t340=true then ((impl_isRising.f k l1).bind fun t341=>(if t341=true then ((impl_Party_table.f k a0_0 l0_1).bind fun t342=>((impl_table_isGroup.f k t342 l1).bind fun t345=>(some (t345,true)))) else (some (false,true)))) else (some (false,true)))) else (some (false,false))))=some (r1,r2):=h
 clear h
 replace H:=zz30.mp H
 obtain ⟨t339,A30,H⟩:=H
 replace H:(if t339=true then ((impl_arePeople.f k a0_0 l0_1 l1).bind fun t340=>(if t340=true then ((impl_isRising.f k l1).bind fun t341=>(if t341=true then ((impl_Party_table.f k a0_0 l0_1).bind fun t342=>((impl_table_isGroup.f k t342 l1).bind fun t345=>(some (t345,true)))) else (some (false,true)))) else (some (false,true)))) else (some (false,false)))=some (r1,r2):=H
 have A3:=Aside0.mk A30
 clear A30
 by_cases c4:t339=true
 ·subst c4
  have H1:((impl_arePeople.f k a0_0 l0_1 l1).bind fun t340=>(if t340=true then ((impl_isRising.f k l1).bind fun t341=>(if t341=true then ((impl_Party_table.f k a0_0 l0_1).bind fun t342=>((impl_table_isGroup.f k t342 l1).bind fun t345=>(some (t345,true)))) else (some (false,true)))) else (some (false,true))))=some (r1,r2):=by rw [if_pos rfl] at H;exact H
  clear H
  have H:=H1
  clear H1
  replace H:=zz30.mp H
  obtain ⟨t340,A50,H⟩:=H
  replace H:(if t340=true then ((impl_isRising.f k l1).bind fun t341=>(if t341=true then ((impl_Party_table.f k a0_0 l0_1).bind fun t342=>((impl_table_isGroup.f k t342 l1).bind fun t345=>(some (t345,true)))) else (some (false,true)))) else (some (false,true)))=some (r1,r2):=H
  have A5:=Aside0.mk A50
  clear A50
  by_cases c6:t340=true
  ·subst c6
   have H1:((impl_isRising.f k l1).bind fun t341=>(if t341=true then ((impl_Party_table.f k a0_0 l0_1).bind fun t342=>((impl_table_isGroup.f k t342 l1).bind fun t345=>(some (t345,true)))) else (some (false,true))))=some (r1,r2):=by rw [if_pos rfl] at H;exact H
   clear H
   have H:=H1
   clear H1
   replace H:=zz30.mp H
   obtain ⟨t341,A70,H⟩:=H
   replace H:(if t341=true then ((impl_Party_table.f k a0_0 l0_1).bind fun t342=>((impl_table_isGroup.f k t342 l1).bind fun t345=>(some (t345,true)))) else (some (false,true)))=some (r1,r2):=H
   have A7:=Aside0.mk A70
   clear A70
   by_cases c8:t341=true
   ·subst c8
    have H1:((impl_Party_table.f k a0_0 l0_1).bind fun t342=>((impl_table_isGroup.f k t342 l1).bind fun t345=>(some (t345,true))))=some (r1,r2):=by rw [if_pos rfl] at H;exact H
    clear H
    have H:=H1
    clear H1
    replace H:=zz30.mp H
    obtain ⟨t342,A90,H⟩:=H
    replace H:((impl_table_isGroup.f k t342 l1).bind fun t345=>(some (t345,true)))=some (r1,r2):=H
    have A9:=Aside0.mk A90
    clear A90
    replace H:=zz30.mp H
    obtain ⟨t345,A100,H⟩:=H
    replace H:(some (t345,true))=some (r1,r2):=H
    have A10:=Aside0.mk A100
    clear A100
    simp only [Option.some.injEq,Prod.mk.injEq] at H
    obtain ⟨rfl,rfl⟩:=H
    go_enter Try.func25,Try.ntmps25
    go_wp2_with (first | ((with_reducible refine gate_dst (N:=2) rfl ?_);refine box_event ?hg (N:=2) ?hd (cs:=#[.int .i64 a0_0,.slice A0_1 l0_1.length c0_1]) (t:=30) ?hr ?_;(case hd=>rfl);(case hg=>rfl);(case hr=>first | (go_simp;done) | (go_simp;rfl));intro gb338 hg w11 hbox hb;have n0_:=Aside0.mk (zz4 (by repeat first | exact HB.out | apply zz2 | apply zz0 | apply zz1) hb);have n1_:=Aside0.mk (hbox);have n2_:=Aside0.mk ((by rw [hg];exact (zz5 (by repeat first | exact HB.out | apply zz2 | apply zz0 | apply zz1)):w.heap.size≤gb338));have n3_:=Aside0.mk ((by rw [hg];exact (zz5 (by repeat first | exact HB.out | apply zz2 | apply zz0 | apply zz1)):w.heap.size≤gb338));clear HB;have HB:=n0_;have BK338:=n1_;have GW338:=n2_;have GE338:=n3_;clear n0_ n1_ n2_ n3_;clear hb hbox hg;have hcz12_0:w11.cell? ⟨gb338,0,none⟩=some (.int .i64 a0_0):=(zz9 BK338.out 0).trans rfl;have hcz12_1:w11.cell? ⟨gb338,1,none⟩=some (.slice A0_1 l0_1.length c0_1):=(zz9 BK338.out 1).trans rfl;have hfz12_0:=zz10 BK338.out 0;have hfz12_1:=zz10 BK338.out 1) | ((with_reducible refine gate_callee (f:=45) rfl ?_);refine goesL_ (some 7) rfl rfl Try.func45 (by kernel_rfl) rfl #[.agg #[.int .i64 a0_0,.slice A0_1 l0_1.length c0_1]] rfl (by (try simp only [zz26,zz27,zz28]);first | done | rfl | (simp only [zz24,zz25];rfl) | (simp only [zz25];congr;(try simp only [decide_eq_true_eq] at *);omega)) ?_;(with_reducible refine (impl_IsParty.calls k a0_0 _ _ l0_1 true _ ?side1 ?side2 A3.out).mono ?_);(case side1=>repeat (first | exact (Kd.C_below HR0_1.out HB.out) | (with_reducible refine zz18 ?_ _) | (with_reducible refine zz19 ?_ _) | (with_reducible refine zz20 ?_)));(case side2=>exact HC0_1.out);rintro e w13 ⟨rfl,hb⟩;refine ⟨_,rfl,?_⟩;have n0_:=Aside0.mk (zz11 (g:=gb338) (o:=.cells #[.int .i64 a0_0,.slice A0_1 l0_1.length c0_1] 30 (0,0)) (by (with_reducible repeat (first | refine zz6 ?_ _ | refine zz7 ?_ | refine zz8 ?_ _));exact BK338.out) hb);have n1_:=Aside0.mk (zz4 (by repeat first | exact HB.out | apply zz2 | apply zz0 | apply zz1 | refine zz3 ?_ GE338.out) hb);clear BK338;clear HB;have BK338:=n0_;have HB:=n1_;clear n0_ n1_;(try clear hb);(try clear hb2);(try clear hk);(try clear hi);have hcz14_0:w13.cell? ⟨gb338,0,none⟩=some (.int .i64 a0_0):=(zz9 BK338.out 0).trans rfl;have hcz14_1:w13.cell? ⟨gb338,1,none⟩=some (.slice A0_1 l0_1.length c0_1):=(zz9 BK338.out 1).trans rfl;have hfz14_0:=zz10 BK338.out 0;have hfz14_1:=zz10 BK338.out 1) | ((with_reducible refine gate_callee (f:=58) rfl ?_);refine goesL_ (some 11) rfl rfl Try.func58 (by kernel_rfl) rfl #[.agg #[.int .i64 a0_0,.slice A0_1 l0_1.length c0_1],.slice A1 l1.length c1] rfl (by (try simp only [zz26,zz27,zz28]);first | done | rfl | (simp only [zz24,zz25];rfl) | (simp only [zz25];congr;(try simp only [decide_eq_true_eq] at *);omega)) ?_;(with_reducible refine (impl_arePeople.calls k a0_0 _ _ l0_1 _ _ l1 true _ ?side1 ?side2 ?side3 ?side4 A5.out).mono ?_);(case side1=>repeat (first | exact (Kd.C_below HR0_1.out HB.out) | (with_reducible refine zz18 ?_ _) | (with_reducible refine zz19 ?_ _) | (with_reducible refine zz20 ?_)));(case side2=>exact HC0_1.out);(case side3=>repeat (first | exact (Kd.C_below HR1.out HB.out) | (with_reducible refine zz18 ?_ _) | (with_reducible refine zz19 ?_ _) | (with_reducible refine zz20 ?_)));(case side4=>exact HC1.out);rintro e w15 ⟨rfl,hb⟩;refine ⟨_,rfl,?_⟩;have n0_:=Aside0.mk (zz11 (g:=gb338) (o:=.cells #[.int .i64 a0_0,.slice A0_1 l0_1.length c0_1] 30 (0,0)) (by (with_reducible repeat (first | refine zz6 ?_ _ | refine zz7 ?_ | refine zz8 ?_ _));exact BK338.out) hb);have n1_:=Aside0.mk (zz4 (by repeat first | exact HB.out | apply zz2 | apply zz0 | apply zz1 | refine zz3 ?_ GE338.out) hb);clear BK338;clear HB;have BK338:=n0_;have HB:=n1_;clear n0_ n1_;(try clear hb);(try clear hb2);(try clear hk);(try clear hi)) | (go_at_call 59;(with_reducible refine (impl_isRising.calls k _ _ l1 true _ ?side1 ?side2 A7.out).mono ?_);(case side1=>repeat (first | exact (Kd.C_below HR1.out HB.out) | (with_reducible refine zz18 ?_ _) | (with_reducible refine zz19 ?_ _) | (with_reducible refine zz20 ?_)));(case side2=>exact HC1.out);rintro e w' ⟨rfl,⟨nd,rfl⟩⟩;have hcz16_0:w15.cell? ⟨gb338,0,none⟩=some (.int .i64 a0_0):=(zz9 BK338.out 0).trans rfl;have hcz16_1:w15.cell? ⟨gb338,1,none⟩=some (.slice A0_1 l0_1.length c0_1):=(zz9 BK338.out 1).trans rfl;have hfz16_0:=zz10 BK338.out 0;have hfz16_1:=zz10 BK338.out 1) | (go_at_call 46;(with_reducible refine (impl_Party_table.calls k a0_0 _ _ l0_1 t342 _ ?side1 ?side2 A9.out).mono ?_);(case side1=>repeat (first | exact (Kd.C_below HR0_1.out (by repeat first | exact HB.out | apply zz2 | apply zz0 | apply zz1 | refine zz3 ?_ GE338.out)) | (with_reducible refine zz18 ?_ _) | (with_reducible refine zz19 ?_ _) | (with_reducible refine zz20 ?_)));(case side2=>exact HC0_1.out);rintro e w17 ⟨v343,rfl,ho0,hb⟩;have n0_:=Aside0.mk (Kd.R_lower ho0 (zz5 (by repeat first | exact HB.out | apply zz2 | apply zz0 | apply zz1 | refine zz3 ?_ GE338.out)));have n1_:=Aside0.mk (zz11 (g:=gb338) (o:=.cells #[.int .i64 a0_0,.slice A0_1 l0_1.length c0_1] 30 (0,0)) (by (with_reducible repeat (first | refine zz6 ?_ _ | refine zz7 ?_ | refine zz8 ?_ _));exact BK338.out) hb);have n2_:=Aside0.mk (zz4 (by repeat first | exact HB.out | apply zz2 | apply zz0 | apply zz1 | refine zz3 ?_ GE338.out) hb);clear BK338;clear HB;have HO344:=n0_;have BK338:=n1_;have HB:=n2_;clear n0_ n1_ n2_;(try clear hb);(try clear hb2);(try clear hk);(try clear hi);(try clear ho0);obtain ⟨Ao18,co18,eo18⟩:=Kd.R_slice HO344.out;subst eo18) | (go_at_call 60;(with_reducible refine (impl_table_isGroup.calls k _ _ t342 _ _ l1 t345 _ ?side1 ?side2 ?side3 ?side4 A10.out).mono ?_);(case side1=>repeat (first | exact (Kd.R_reads' HO344.out).2.2 | (with_reducible refine zz18 ?_ _) | (with_reducible refine zz19 ?_ _) | (with_reducible refine zz20 ?_)));(case side2=>exact (Kd.R_reads' HO344.out).2.1);(case side3=>repeat (first | exact (Kd.C_below HR1.out HB.out) | (with_reducible refine zz18 ?_ _) | (with_reducible refine zz19 ?_ _) | (with_reducible refine zz20 ?_)));(case side4=>exact HC1.out);rintro e w' ⟨rfl,⟨nd,rfl⟩⟩))
    go_ret2
    exact ⟨by first | rfl | (simp [errW_none,errW_some] <;> rfl) | (simp [*,errW_none,errW_some] <;> rfl),by repeat first | exact HB.out | apply zz2 | apply zz0 | apply zz1 | refine zz3 ?_ GE338.out⟩
   ·replace c8:=Bool.eq_false_iff.mpr c8
    subst c8
    have H1:(some (false,true))=some (r1,r2):=by rw [if_neg (show ¬ (false=true) by decide)] at H;exact H
    clear H
    have H:=H1
    clear H1
    simp only [Option.some.injEq,Prod.mk.injEq] at H
    obtain ⟨rfl,rfl⟩:=H
    go_enter Try.func25,Try.ntmps25
    go_wp2_with (first | ((with_reducible refine gate_dst (N:=2) rfl ?_);refine box_event ?hg (N:=2) ?hd (cs:=#[.int .i64 a0_0,.slice A0_1 l0_1.length c0_1]) (t:=30) ?hr ?_;(case hd=>rfl);(case hg=>rfl);(case hr=>first | (go_simp;done) | (go_simp;rfl));intro gb338 hg w19 hbox hb;have n0_:=Aside0.mk (zz4 (by repeat first | exact HB.out | apply zz2 | apply zz0 | apply zz1) hb);have n1_:=Aside0.mk (hbox);have n2_:=Aside0.mk ((by rw [hg];exact (zz5 (by repeat first | exact HB.out | apply zz2 | apply zz0 | apply zz1)):w.heap.size≤gb338));have n3_:=Aside0.mk ((by rw [hg];exact (zz5 (by repeat first | exact HB.out | apply zz2 | apply zz0 | apply zz1)):w.heap.size≤gb338));clear HB;have HB:=n0_;have BK338:=n1_;have GW338:=n2_;have GE338:=n3_;clear n0_ n1_ n2_ n3_;clear hb hbox hg;have hcz20_0:w19.cell? ⟨gb338,0,none⟩=some (.int .i64 a0_0):=(zz9 BK338.out 0).trans rfl;have hcz20_1:w19.cell? ⟨gb338,1,none⟩=some (.slice A0_1 l0_1.length c0_1):=(zz9 BK338.out 1).trans rfl;have hfz20_0:=zz10 BK338.out 0;have hfz20_1:=zz10 BK338.out 1) | ((with_reducible refine gate_callee (f:=45) rfl ?_);refine goesL_ (some 7) rfl rfl Try.func45 (by kernel_rfl) rfl #[.agg #[.int .i64 a0_0,.slice A0_1 l0_1.length c0_1]] rfl (by (try simp only [zz26,zz27,zz28]);first | done | rfl | (simp only [zz24,zz25];rfl) | (simp only [zz25];congr;(try simp only [decide_eq_true_eq] at *);omega)) ?_;(with_reducible refine (impl_IsParty.calls k a0_0 _ _ l0_1 true _ ?side1 ?side2 A3.out).mono ?_);(case side1=>repeat (first | exact (Kd.C_below HR0_1.out HB.out) | (with_reducible refine zz18 ?_ _) | (with_reducible refine zz19 ?_ _) | (with_reducible refine zz20 ?_)));(case side2=>exact HC0_1.out);rintro e w21 ⟨rfl,hb⟩;refine ⟨_,rfl,?_⟩;have n0_:=Aside0.mk (zz11 (g:=gb338) (o:=.cells #[.int .i64 a0_0,.slice A0_1 l0_1.length c0_1] 30 (0,0)) (by (with_reducible repeat (first | refine zz6 ?_ _ | refine zz7 ?_ | refine zz8 ?_ _));exact BK338.out) hb);have n1_:=Aside0.mk (zz4 (by repeat first | exact HB.out | apply zz2 | apply zz0 | apply zz1 | refine zz3 ?_ GE338.out) hb);clear BK338;clear HB;have BK338:=n0_;have HB:=n1_;clear n0_ n1_;(try clear hb);(try clear hb2);(try clear hk);(try clear hi);have hcz22_0:w21.cell? ⟨gb338,0,none⟩=some (.int .i64 a0_0):=(zz9 BK338.out 0).trans rfl;have hcz22_1:w21.cell? ⟨gb338,1,none⟩=some (.slice A0_1 l0_1.length c0_1):=(zz9 BK338.out 1).trans rfl;have hfz22_0:=zz10 BK338.out 0;have hfz22_1:=zz10 BK338.out 1) | ((with_reducible refine gate_callee (f:=58) rfl ?_);refine goesL_ (some 11) rfl rfl Try.func58 (by kernel_rfl) rfl #[.agg #[.int .i64 a0_0,.slice A0_1 l0_1.length c0_1],.slice A1 l1.length c1] rfl (by (try simp only [zz26,zz27,zz28]);first | done | rfl | (simp only [zz24,zz25];rfl) | (simp only [zz25];congr;(try simp only [decide_eq_true_eq] at *);omega)) ?_;(with_reducible refine (impl_arePeople.calls k a0_0 _ _ l0_1 _ _ l1 true _ ?side1 ?side2 ?side3 ?side4 A5.out).mono ?_);(case side1=>repeat (first | exact (Kd.C_below HR0_1.out HB.out) | (with_reducible refine zz18 ?_ _) | (with_reducible refine zz19 ?_ _) | (with_reducible refine zz20 ?_)));(case side2=>exact HC0_1.out);(case side3=>repeat (first | exact (Kd.C_below HR1.out HB.out) | (with_reducible refine zz18 ?_ _) | (with_reducible refine zz19 ?_ _) | (with_reducible refine zz20 ?_)));(case side4=>exact HC1.out);rintro e w23 ⟨rfl,hb⟩;refine ⟨_,rfl,?_⟩;have n0_:=Aside0.mk (zz11 (g:=gb338) (o:=.cells #[.int .i64 a0_0,.slice A0_1 l0_1.length c0_1] 30 (0,0)) (by (with_reducible repeat (first | refine zz6 ?_ _ | refine zz7 ?_ | refine zz8 ?_ _));exact BK338.out) hb);have n1_:=Aside0.mk (zz4 (by repeat first | exact HB.out | apply zz2 | apply zz0 | apply zz1 | refine zz3 ?_ GE338.out) hb);clear BK338;clear HB;have BK338:=n0_;have HB:=n1_;clear n0_ n1_;(try clear hb);(try clear hb2);(try clear hk);(try clear hi)) | (go_at_call 59;(with_reducible refine (impl_isRising.calls k _ _ l1 false _ ?side1 ?side2 A7.out).mono ?_);(case side1=>repeat (first | exact (Kd.C_below HR1.out HB.out) | (with_reducible refine zz18 ?_ _) | (with_reducible refine zz19 ?_ _) | (with_reducible refine zz20 ?_)));(case side2=>exact HC1.out);rintro e w' ⟨rfl,⟨nd,rfl⟩⟩))
    go_ret2
    exact ⟨by first | rfl | (simp [errW_none,errW_some] <;> rfl) | (simp [*,errW_none,errW_some] <;> rfl),by repeat first | exact HB.out | apply zz2 | apply zz0 | apply zz1 | refine zz3 ?_ GE338.out⟩
  ·replace c6:=Bool.eq_false_iff.mpr c6
   subst c6
   have H1:(some (false,true))=some (r1,r2):=by rw [if_neg (show ¬ (false=true) by decide)] at H;exact H
   clear H
   have H:=H1
   clear H1
   simp only [Option.some.injEq,Prod.mk.injEq] at H
   obtain ⟨rfl,rfl⟩:=H
   go_enter Try.func25,Try.ntmps25
   go_wp2_with (first | ((with_reducible refine gate_dst (N:=2) rfl ?_);refine box_event ?hg (N:=2) ?hd (cs:=#[.int .i64 a0_0,.slice A0_1 l0_1.length c0_1]) (t:=30) ?hr ?_;(case hd=>rfl);(case hg=>rfl);(case hr=>first | (go_simp;done) | (go_simp;rfl));intro gb338 hg w24 hbox hb;have n0_:=Aside0.mk (zz4 (by repeat first | exact HB.out | apply zz2 | apply zz0 | apply zz1) hb);have n1_:=Aside0.mk (hbox);have n2_:=Aside0.mk ((by rw [hg];exact (zz5 (by repeat first | exact HB.out | apply zz2 | apply zz0 | apply zz1)):w.heap.size≤gb338));have n3_:=Aside0.mk ((by rw [hg];exact (zz5 (by repeat first | exact HB.out | apply zz2 | apply zz0 | apply zz1)):w.heap.size≤gb338));clear HB;have HB:=n0_;have BK338:=n1_;have GW338:=n2_;have GE338:=n3_;clear n0_ n1_ n2_ n3_;clear hb hbox hg;have hcz25_0:w24.cell? ⟨gb338,0,none⟩=some (.int .i64 a0_0):=(zz9 BK338.out 0).trans rfl;have hcz25_1:w24.cell? ⟨gb338,1,none⟩=some (.slice A0_1 l0_1.length c0_1):=(zz9 BK338.out 1).trans rfl;have hfz25_0:=zz10 BK338.out 0;have hfz25_1:=zz10 BK338.out 1) | ((with_reducible refine gate_callee (f:=45) rfl ?_);refine goesL_ (some 7) rfl rfl Try.func45 (by kernel_rfl) rfl #[.agg #[.int .i64 a0_0,.slice A0_1 l0_1.length c0_1]] rfl (by (try simp only [zz26,zz27,zz28]);first | done | rfl | (simp only [zz24,zz25];rfl) | (simp only [zz25];congr;(try simp only [decide_eq_true_eq] at *);omega)) ?_;(with_reducible refine (impl_IsParty.calls k a0_0 _ _ l0_1 true _ ?side1 ?side2 A3.out).mono ?_);(case side1=>repeat (first | exact (Kd.C_below HR0_1.out HB.out) | (with_reducible refine zz18 ?_ _) | (with_reducible refine zz19 ?_ _) | (with_reducible refine zz20 ?_)));(case side2=>exact HC0_1.out);rintro e w26 ⟨rfl,hb⟩;refine ⟨_,rfl,?_⟩;have n0_:=Aside0.mk (zz11 (g:=gb338) (o:=.cells #[.int .i64 a0_0,.slice A0_1 l0_1.length c0_1] 30 (0,0)) (by (with_reducible repeat (first | refine zz6 ?_ _ | refine zz7 ?_ | refine zz8 ?_ _));exact BK338.out) hb);have n1_:=Aside0.mk (zz4 (by repeat first | exact HB.out | apply zz2 | apply zz0 | apply zz1 | refine zz3 ?_ GE338.out) hb);clear BK338;clear HB;have BK338:=n0_;have HB:=n1_;clear n0_ n1_;(try clear hb);(try clear hb2);(try clear hk);(try clear hi);have hcz27_0:w26.cell? ⟨gb338,0,none⟩=some (.int .i64 a0_0):=(zz9 BK338.out 0).trans rfl;have hcz27_1:w26.cell? ⟨gb338,1,none⟩=some (.slice A0_1 l0_1.length c0_1):=(zz9 BK338.out 1).trans rfl;have hfz27_0:=zz10 BK338.out 0;have hfz27_1:=zz10 BK338.out 1) | ((with_reducible refine gate_callee (f:=58) rfl ?_);refine goesL_ (some 11) rfl rfl Try.func58 (by kernel_rfl) rfl #[.agg #[.int .i64 a0_0,.slice A0_1 l0_1.length c0_1],.slice A1 l1.length c1] rfl (by (try simp only [zz26,zz27,zz28]);first | done | rfl | (simp only [zz24,zz25];rfl) | (simp only [zz25];congr;(try simp only [decide_eq_true_eq] at *);omega)) ?_;(with_reducible refine (impl_arePeople.calls k a0_0 _ _ l0_1 _ _ l1 false _ ?side1 ?side2 ?side3 ?side4 A5.out).mono ?_);(case side1=>repeat (first | exact (Kd.C_below HR0_1.out HB.out) | (with_reducible refine zz18 ?_ _) | (with_reducible refine zz19 ?_ _) | (with_reducible refine zz20 ?_)));(case side2=>exact HC0_1.out);(case side3=>repeat (first | exact (Kd.C_below HR1.out HB.out) | (with_reducible refine zz18 ?_ _) | (with_reducible refine zz19 ?_ _) | (with_reducible refine zz20 ?_)));(case side4=>exact HC1.out);rintro e w28 ⟨rfl,hb⟩;refine ⟨_,rfl,?_⟩;have n0_:=Aside0.mk (zz11 (g:=gb338) (o:=.cells #[.int .i64 a0_0,.slice A0_1 l0_1.length c0_1] 30 (0,0)) (by (with_reducible repeat (first | refine zz6 ?_ _ | refine zz7 ?_ | refine zz8 ?_ _));exact BK338.out) hb);have n1_:=Aside0.mk (zz4 (by repeat first | exact HB.out | apply zz2 | apply zz0 | apply zz1 | refine zz3 ?_ GE338.out) hb);clear BK338;clear HB;have BK338:=n0_;have HB:=n1_;clear n0_ n1_;(try clear hb);(try clear hb2);(try clear hk);(try clear hi)))
   go_ret2
   exact ⟨by first | rfl | (simp [errW_none,errW_some] <;> rfl) | (simp [*,errW_none,errW_some] <;> rfl),by repeat first | exact HB.out | apply zz2 | apply zz0 | apply zz1 | refine zz3 ?_ GE338.out⟩
 ·replace c4:=Bool.eq_false_iff.mpr c4
  subst c4
  have H1:(some (false,false))=some (r1,r2):=by rw [if_neg (show ¬ (false=true) by decide)] at H;exact H
  clear H
  have H:=H1
  clear H1
  simp only [Option.some.injEq,Prod.mk.injEq] at H
  obtain ⟨rfl,rfl⟩:=H
  go_enter Try.func25,Try.ntmps25
  go_wp2_with (first | ((with_reducible refine gate_dst (N:=2) rfl ?_);refine box_event ?hg (N:=2) ?hd (cs:=#[.int .i64 a0_0,.slice A0_1 l0_1.length c0_1]) (t:=30) ?hr ?_;(case hd=>rfl);(case hg=>rfl);(case hr=>first | (go_simp;done) | (go_simp;rfl));intro gb338 hg w29 hbox hb;have n0_:=Aside0.mk (zz4 (by repeat first | exact HB.out | apply zz2 | apply zz0 | apply zz1) hb);have n1_:=Aside0.mk (hbox);have n2_:=Aside0.mk ((by rw [hg];exact (zz5 (by repeat first | exact HB.out | apply zz2 | apply zz0 | apply zz1)):w.heap.size≤gb338));have n3_:=Aside0.mk ((by rw [hg];exact (zz5 (by repeat first | exact HB.out | apply zz2 | apply zz0 | apply zz1)):w.heap.size≤gb338));clear HB;have HB:=n0_;have BK338:=n1_;have GW338:=n2_;have GE338:=n3_;clear n0_ n1_ n2_ n3_;clear hb hbox hg;have hcz30_0:w29.cell? ⟨gb338,0,none⟩=some (.int .i64 a0_0):=(zz9 BK338.out 0).trans rfl;have hcz30_1:w29.cell? ⟨gb338,1,none⟩=some (.slice A0_1 l0_1.length c0_1):=(zz9 BK338.out 1).trans rfl;have hfz30_0:=zz10 BK338.out 0;have hfz30_1:=zz10 BK338.out 1) | ((with_reducible refine gate_callee (f:=45) rfl ?_);refine goesL_ (some 7) rfl rfl Try.func45 (by kernel_rfl) rfl #[.agg #[.int .i64 a0_0,.slice A0_1 l0_1.length c0_1]] rfl (by (try simp only [zz26,zz27,zz28]);first | done | rfl | (simp only [zz24,zz25];rfl) | (simp only [zz25];congr;(try simp only [decide_eq_true_eq] at *);omega)) ?_;(with_reducible refine (impl_IsParty.calls k a0_0 _ _ l0_1 false _ ?side1 ?side2 A3.out).mono ?_);(case side1=>repeat (first | exact (Kd.C_below HR0_1.out HB.out) | (with_reducible refine zz18 ?_ _) | (with_reducible refine zz19 ?_ _) | (with_reducible refine zz20 ?_)));(case side2=>exact HC0_1.out);rintro e w31 ⟨rfl,hb⟩;refine ⟨_,rfl,?_⟩;have n0_:=Aside0.mk (zz11 (g:=gb338) (o:=.cells #[.int .i64 a0_0,.slice A0_1 l0_1.length c0_1] 30 (0,0)) (by (with_reducible repeat (first | refine zz6 ?_ _ | refine zz7 ?_ | refine zz8 ?_ _));exact BK338.out) hb);have n1_:=Aside0.mk (zz4 (by repeat first | exact HB.out | apply zz2 | apply zz0 | apply zz1 | refine zz3 ?_ GE338.out) hb);clear BK338;clear HB;have BK338:=n0_;have HB:=n1_;clear n0_ n1_;(try clear hb);(try clear hb2);(try clear hk);(try clear hi)))
  go_ret2
  exact ⟨by first | rfl | (simp [errW_none,errW_some] <;> rfl) | (simp [*,errW_none,errW_some] <;> rfl),by repeat first | exact HB.out | apply zz2 | apply zz0 | apply zz1 | refine zz3 ?_ GE338.out⟩

/-! ### laws_FnExactIsGroup: function 5 -/
def laws_FnExactIsGroup.j0:Nat→List Int→List Int→Bool→Int→List (S94)→Int→List (S80)→Option (Bool)
 | 0,_,_,_,_,_,_,_=>none
 | k+1,x1,x9,x45,x347000,x347001,x362000,x362001=>if x45=true then (some false) else ((laws_toParty.f k x347000 x347001).bind fun bt367=>((laws_eqParty.f k x362000 x362001 bt367.1 bt367.2).bind fun t371=>(if t371=true then ((laws_toIntS.f k x1).bind fun t372=>((laws_eqIntS.f k x9 t372).bind fun t375=>(if t375=true then (some true) else (some false)))) else (some false))))
def laws_FnExactIsGroup.f (k:Nat) (a0_0:Int) (l0_1:List (S94)) (l1:List Int):Option (Bool):=if (l1.length:Int) > 1048576 then (some true) else ((laws_szParty.f a0_0 l0_1 1048576).bind fun t347=>(if t347 < 0 then (some true) else ((laws_toParty.f k a0_0 l0_1).bind fun bt348=>((laws_toIntS.f k l1).bind fun t352=>((spec_IsGroup.f k bt348.1 bt348.2 t352).bind fun bt355=>((laws_toParty.f k a0_0 l0_1).bind fun bt357=>((laws_toIntS.f k l1).bind fun t362=>((impl_IsGroup.f k bt357.1 bt357.2 t362).bind fun bt365=>(if (bt365.1 != bt355.1)=true then (laws_FnExactIsGroup.j0 k l1 t362 true a0_0 l0_1 bt357.1 bt357.2) else (laws_FnExactIsGroup.j0 k l1 t362 (bt365.2 != bt355.2) a0_0 l0_1 bt357.1 bt357.2))))))))))
theorem laws_FnExactIsGroup.mono_l:∀ k,(∀ y0 y1 y2 y3 y4 y5 y6,LeO (laws_FnExactIsGroup.j0 k y0 y1 y2 y3 y4 y5 y6) (laws_FnExactIsGroup.j0 (k+1) y0 y1 y2 y3 y4 y5 y6))
 | 0=>fun _ _ _ _ _ _ _ r h=>by simp [laws_FnExactIsGroup.j0] at h
 | k+1=>by
  have ih0:=laws_FnExactIsGroup.mono_l k
  ·intro y0 y1 y2 y3 y4 y5 y6
   unfold laws_FnExactIsGroup.j0
   repeat' first
   | (with_reducible exact ih0 _ _ _ _ _ _ _)
   | (with_reducible exact impl_IsGroup.mono _ _ _ _)
   | (with_reducible exact laws_eqIntS.mono _ _ _)
   | (with_reducible exact laws_eqParty.mono _ _ _ _ _)
   | (with_reducible exact laws_toIntS.mono _ _)
   | (with_reducible exact laws_toParty.mono _ _ _)
   | (with_reducible exact spec_IsGroup.mono _ _ _ _)
   | (with_reducible exact LeO.refl _)
   | (with_reducible exact LeO.none _)
   | (with_reducible refine LeO.ite ?_ ?_)
   | (with_reducible refine LeO.bind ?_ (fun _=>?_))
   | exact ih0 _ _ _ _ _ _ _
   | exact impl_IsGroup.mono _ _ _ _
   | exact laws_eqIntS.mono _ _ _
   | exact laws_eqParty.mono _ _ _ _ _
   | exact laws_toIntS.mono _ _
   | exact laws_toParty.mono _ _ _
   | exact spec_IsGroup.mono _ _ _ _
   | exact LeO.none _
   | refine LeO.ite ?_ ?_
   | refine LeO.bind ?_ (fun _=>?_)
theorem laws_FnExactIsGroup.mono:∀ a0 a1 a2 k,LeO (laws_FnExactIsGroup.f k a0 a1 a2) (laws_FnExactIsGroup.f (k+1) a0 a1 a2):=by
 intro a0 a1 a2 k
 have ih0:=laws_FnExactIsGroup.mono_l k
 unfold laws_FnExactIsGroup.f
 repeat' first
   | (with_reducible exact ih0 _ _ _ _ _ _ _)
   | (with_reducible exact impl_IsGroup.mono _ _ _ _)
   | (with_reducible exact laws_eqIntS.mono _ _ _)
   | (with_reducible exact laws_eqParty.mono _ _ _ _ _)
   | (with_reducible exact laws_toIntS.mono _ _)
   | (with_reducible exact laws_toParty.mono _ _ _)
   | (with_reducible exact spec_IsGroup.mono _ _ _ _)
   | (with_reducible exact LeO.refl _)
   | (with_reducible exact LeO.none _)
   | (with_reducible refine LeO.ite ?_ ?_)
   | (with_reducible refine LeO.bind ?_ (fun _=>?_))
   | exact ih0 _ _ _ _ _ _ _
   | exact impl_IsGroup.mono _ _ _ _
   | exact laws_eqIntS.mono _ _ _
   | exact laws_eqParty.mono _ _ _ _ _
   | exact laws_toIntS.mono _ _
   | exact laws_toParty.mono _ _ _
   | exact spec_IsGroup.mono _ _ _ _
   | exact LeO.none _
   | refine LeO.ite ?_ ?_
   | refine LeO.bind ?_ (fun _=>?_)
set_option maxHeartbeats 8000000 in
set_option maxRecDepth 100000 in
theorem laws_FnExactIsGroup.calls (k:Nat) (a0_0:Int) (A0_1:Option Addr) (c0_1:Nat) (l0_1:List (S94)) (A1:Option Addr) (c1:Nat) (l1:List Int) (r:Bool) (w:World) (hr0_1:Kd.C k94 w A0_1 l0_1.length l0_1) (hc0_1:l0_1.length≤c0_1) (hr1:Kd.C (Kd.int .i64) w A1 l1.length l1) (hc1:l1.length≤c1) (h:laws_FnExactIsGroup.f k a0_0 l0_1 l1=some r) :
  Calls Try.prog 5 #[.agg #[.int .i64 a0_0,.slice A0_1 l0_1.length c0_1],.slice A1 l1.length c1] w fun e w'=>e=.returned (.bool r)∧Below w.heap.size w w':=by
 have hu24:=Try.underlying24
 have hu30:=Try.underlying30
 have HR0_1:=Aside0.mk hr0_1
 have HC0_1:=Aside0.mk hc0_1
 clear hr0_1 hc0_1
 have HR1:=Aside0.mk hr1
 have HC1:=Aside0.mk hc1
 clear hr1 hc1
 have HB:=Aside0.mk (Below.refl w.heap.size w)
 have H:(if (l1.length:Int) > 1048576 then (some true) else ((laws_szParty.f a0_0 l0_1 1048576).bind fun t347=>(if t347 < 0 then (some true) else ((laws_toParty.f k a0_0 l0_1).bind fun bt348=>((laws_toIntS.f k l1).bind fun t352=>((spec_IsGroup.f k bt348.1 bt348.2 t352).bind fun bt355=>((laws_toParty.f k a0_0 l0_1).bind fun bt357=>((laws_toIntS.f k l1).bind fun t362=>((impl_IsGroup.f k bt357.1 bt357.2 t362).bind fun bt365=>(if (bt365.1 != bt355.1)=true then (laws_FnExactIsGroup.j0 k l1 t362 true a0_0 l0_1 bt357.1 bt357.2) else (laws_FnExactIsGroup.j0 k l1 t362 (bt365.2 != bt355.2) a0_0 l0_1 bt357.1 bt357.2)))))))))))=some r:=h
 clear h
 by_cases c3:(l1.length:Int) > 1048576
 ·rw [if_pos c3] at H
  have c3b0:decide (1048576 < (l1.length:Int))=true:=decide_eq_true c3
  have c3b1:decide (1048576 < l1.length)=true:=decide_eq_true (by omega)
  clear c3
  obtain rfl:=Option.some.inj H
  go_enter Try.func5,Try.ntmps5
  go_wp2_with (first | ((with_reducible refine gate_dst (N:=2) rfl ?_);refine box_event ?hg (N:=2) ?hd (cs:=#[.int .i64 a0_0,.slice A0_1 l0_1.length c0_1]) (t:=24) ?hr ?_;(case hd=>rfl);(case hg=>rfl);(case hr=>first | (go_simp;done) | (go_simp;rfl));intro gb346 hg w4 hbox hb;have n0_:=Aside0.mk (zz4 (by repeat first | exact HB.out | apply zz2 | apply zz0 | apply zz1) hb);have n1_:=Aside0.mk (hbox);have n2_:=Aside0.mk ((by rw [hg];exact (zz5 (by repeat first | exact HB.out | apply zz2 | apply zz0 | apply zz1)):w.heap.size≤gb346));have n3_:=Aside0.mk ((by rw [hg];exact (zz5 (by repeat first | exact HB.out | apply zz2 | apply zz0 | apply zz1)):w.heap.size≤gb346));clear HB;have HB:=n0_;have BK346:=n1_;have GW346:=n2_;have GE346:=n3_;clear n0_ n1_ n2_ n3_;clear hb hbox hg))
  go_ret
  exact ⟨by first | rfl | (simp [errW_none,errW_some] <;> rfl) | (simp [*,errW_none,errW_some] <;> rfl),by repeat first | exact HB.out | apply zz2 | apply zz0 | apply zz1 | refine zz3 ?_ GE346.out⟩
 ·rw [if_neg c3] at H
  have c3b0:decide (1048576 < (l1.length:Int))=false:=decide_eq_false c3
  have c3b1:decide (1048576 < l1.length)=false:=decide_eq_false (by omega)
  clear c3
  replace H:=zz30.mp H
  obtain ⟨t347,A50,H⟩:=H
  replace H:(if t347 < 0 then (some true) else ((laws_toParty.f k a0_0 l0_1).bind fun bt348=>((laws_toIntS.f k l1).bind fun t352=>((spec_IsGroup.f k bt348.1 bt348.2 t352).bind fun bt355=>((laws_toParty.f k a0_0 l0_1).bind fun bt357=>((laws_toIntS.f k l1).bind fun t362=>((impl_IsGroup.f k bt357.1 bt357.2 t362).bind fun bt365=>(if (bt365.1 != bt355.1)=true then (laws_FnExactIsGroup.j0 k l1 t362 true a0_0 l0_1 bt357.1 bt357.2) else (laws_FnExactIsGroup.j0 k l1 t362 (bt365.2 != bt355.2) a0_0 l0_1 bt357.1 bt357.2)))))))))=some r:=H
  have A5:=Aside0.mk A50
  clear A50
  by_cases c6:t347 < 0
  ·rw [if_pos c6] at H
   have c6b0:decide (t347 < 0)=true:=decide_eq_true c6
   clear c6
   obtain rfl:=Option.some.inj H
   go_enter Try.func5,Try.ntmps5
   go_wp2_with (first | ((with_reducible refine gate_dst (N:=2) rfl ?_);refine box_event ?hg (N:=2) ?hd (cs:=#[.int .i64 a0_0,.slice A0_1 l0_1.length c0_1]) (t:=24) ?hr ?_;(case hd=>rfl);(case hg=>rfl);(case hr=>first | (go_simp;done) | (go_simp;rfl));intro gb346 hg w7 hbox hb;have n0_:=Aside0.mk (zz4 (by repeat first | exact HB.out | apply zz2 | apply zz0 | apply zz1) hb);have n1_:=Aside0.mk (hbox);have n2_:=Aside0.mk ((by rw [hg];exact (zz5 (by repeat first | exact HB.out | apply zz2 | apply zz0 | apply zz1)):w.heap.size≤gb346));have n3_:=Aside0.mk ((by rw [hg];exact (zz5 (by repeat first | exact HB.out | apply zz2 | apply zz0 | apply zz1)):w.heap.size≤gb346));clear HB;have HB:=n0_;have BK346:=n1_;have GW346:=n2_;have GE346:=n3_;clear n0_ n1_ n2_ n3_;clear hb hbox hg;have hcz8_0:w7.cell? ⟨gb346,0,none⟩=some (.int .i64 a0_0):=(zz9 BK346.out 0).trans rfl;have hcz8_1:w7.cell? ⟨gb346,1,none⟩=some (.slice A0_1 l0_1.length c0_1):=(zz9 BK346.out 1).trans rfl;have hfz8_0:=zz10 BK346.out 0;have hfz8_1:=zz10 BK346.out 1) | ((with_reducible refine gate_callee (f:=12) rfl ?_);refine goesL_ (some 17) rfl rfl Try.func12 (by kernel_rfl) rfl #[.agg #[.int .i64 a0_0,.slice A0_1 l0_1.length c0_1],.int .i64 1048576] rfl (by (try simp only [zz26,zz27,zz28]);first | done | rfl | (simp only [zz24,zz25];rfl) | (simp only [zz25];congr;(try simp only [decide_eq_true_eq] at *);omega)) ?_;(with_reducible refine (laws_szParty.calls a0_0 _ _ l0_1 1048576 t347 _ ?side1 ?side2 A5.out).mono ?_);(case side1=>repeat (first | exact (Kd.C_below HR0_1.out HB.out) | (with_reducible refine zz18 ?_ _) | (with_reducible refine zz19 ?_ _) | (with_reducible refine zz20 ?_)));(case side2=>exact HC0_1.out);rintro e w9 ⟨rfl,hb⟩;refine ⟨_,rfl,?_⟩;have n0_:=Aside0.mk (zz11 (g:=gb346) (o:=.cells #[.int .i64 a0_0,.slice A0_1 l0_1.length c0_1] 24 (0,0)) (by (with_reducible repeat (first | refine zz6 ?_ _ | refine zz7 ?_ | refine zz8 ?_ _));exact BK346.out) hb);have n1_:=Aside0.mk (zz4 (by repeat first | exact HB.out | apply zz2 | apply zz0 | apply zz1 | refine zz3 ?_ GE346.out) hb);clear BK346;clear HB;have BK346:=n0_;have HB:=n1_;clear n0_ n1_;(try clear hb);(try clear hb2);(try clear hk);(try clear hi)))
   go_ret
   exact ⟨by first | rfl | (simp [errW_none,errW_some] <;> rfl) | (simp [*,errW_none,errW_some] <;> rfl),by repeat first | exact HB.out | apply zz2 | apply zz0 | apply zz1 | refine zz3 ?_ GE346.out⟩
  ·rw [if_neg c6] at H
   have c6b0:decide (t347 < 0)=false:=decide_eq_false c6
   clear c6
   replace H:=zz30.mp H
   obtain ⟨⟨t348,t349⟩,A100,H⟩:=H
   replace H:((laws_toIntS.f k l1).bind fun t352=>((spec_IsGroup.f k t348 t349 t352).bind fun bt355=>((laws_toParty.f k a0_0 l0_1).bind fun bt357=>((laws_toIntS.f k l1).bind fun t362=>((impl_IsGroup.f k bt357.1 bt357.2 t362).bind fun bt365=>(if (bt365.1 != bt355.1)=true then (laws_FnExactIsGroup.j0 k l1 t362 true a0_0 l0_1 bt357.1 bt357.2) else (laws_FnExactIsGroup.j0 k l1 t362 (bt365.2 != bt355.2) a0_0 l0_1 bt357.1 bt357.2)))))))=some r:=H
   have A10:=Aside0.mk A100
   clear A100
   replace H:=zz30.mp H
   obtain ⟨t352,A110,H⟩:=H
   replace H:((spec_IsGroup.f k t348 t349 t352).bind fun bt355=>((laws_toParty.f k a0_0 l0_1).bind fun bt357=>((laws_toIntS.f k l1).bind fun t362=>((impl_IsGroup.f k bt357.1 bt357.2 t362).bind fun bt365=>(if (bt365.1 != bt355.1)=true then (laws_FnExactIsGroup.j0 k l1 t362 true a0_0 l0_1 bt357.1 bt357.2) else (laws_FnExactIsGroup.j0 k l1 t362 (bt365.2 != bt355.2) a0_0 l0_1 bt357.1 bt357.2))))))=some r:=H
   have A11:=Aside0.mk A110
   clear A110
   replace H:=zz30.mp H
   obtain ⟨⟨t355,t356⟩,A120,H⟩:=H
   replace H:((laws_toParty.f k a0_0 l0_1).bind fun bt357=>((laws_toIntS.f k l1).bind fun t362=>((impl_IsGroup.f k bt357.1 bt357.2 t362).bind fun bt365=>(if (bt365.1 != t355)=true then (laws_FnExactIsGroup.j0 k l1 t362 true a0_0 l0_1 bt357.1 bt357.2) else (laws_FnExactIsGroup.j0 k l1 t362 (bt365.2 != t356) a0_0 l0_1 bt357.1 bt357.2)))))=some r:=H
   have A12:=Aside0.mk A120
   clear A120
   replace H:=zz30.mp H
   obtain ⟨⟨t357,t358⟩,A130,H⟩:=H
   replace H:((laws_toIntS.f k l1).bind fun t362=>((impl_IsGroup.f k t357 t358 t362).bind fun bt365=>(if (bt365.1 != t355)=true then (laws_FnExactIsGroup.j0 k l1 t362 true a0_0 l0_1 t357 t358) else (laws_FnExactIsGroup.j0 k l1 t362 (bt365.2 != t356) a0_0 l0_1 t357 t358))))=some r:=H
   have A13:=Aside0.mk A130
   clear A130
   replace H:=zz30.mp H
   obtain ⟨t362,A140,H⟩:=H
   replace H:((impl_IsGroup.f k t357 t358 t362).bind fun bt365=>(if (bt365.1 != t355)=true then (laws_FnExactIsGroup.j0 k l1 t362 true a0_0 l0_1 t357 t358) else (laws_FnExactIsGroup.j0 k l1 t362 (bt365.2 != t356) a0_0 l0_1 t357 t358)))=some r:=H
   have A14:=Aside0.mk A140
   clear A140
   replace H:=zz30.mp H
   obtain ⟨⟨t365,t366⟩,A150,H⟩:=H
   replace H:(if (t365 != t355)=true then (laws_FnExactIsGroup.j0 k l1 t362 true a0_0 l0_1 t357 t358) else (laws_FnExactIsGroup.j0 k l1 t362 (t366 != t356) a0_0 l0_1 t357 t358))=some r:=H
   have A15:=Aside0.mk A150
   clear A150
   have HC16:=Aside0.mk H
   clear H
   go_enter Try.func5,Try.ntmps5
   go_upto_region 11 with (first | ((with_reducible refine gate_dst (N:=2) rfl ?_);refine box_event ?hg (N:=2) ?hd (cs:=#[.int .i64 a0_0,.slice A0_1 l0_1.length c0_1]) (t:=24) ?hr ?_;(case hd=>rfl);(case hg=>rfl);(case hr=>first | (go_simp;done) | (go_simp;rfl));intro gb346 hg w17 hbox hb;have n0_:=Aside0.mk (zz4 (by repeat first | exact HB.out | apply zz2 | apply zz0 | apply zz1) hb);have n1_:=Aside0.mk (hbox);have n2_:=Aside0.mk ((by rw [hg];exact (zz5 (by repeat first | exact HB.out | apply zz2 | apply zz0 | apply zz1)):w.heap.size≤gb346));have n3_:=Aside0.mk ((by rw [hg];exact (zz5 (by repeat first | exact HB.out | apply zz2 | apply zz0 | apply zz1)):w.heap.size≤gb346));clear HB;have HB:=n0_;have BK346:=n1_;have GW346:=n2_;have GE346:=n3_;clear n0_ n1_ n2_ n3_;clear hb hbox hg;have hcz18_0:w17.cell? ⟨gb346,0,none⟩=some (.int .i64 a0_0):=(zz9 BK346.out 0).trans rfl;have hcz18_1:w17.cell? ⟨gb346,1,none⟩=some (.slice A0_1 l0_1.length c0_1):=(zz9 BK346.out 1).trans rfl;have hfz18_0:=zz10 BK346.out 0;have hfz18_1:=zz10 BK346.out 1) | ((with_reducible refine gate_callee (f:=12) rfl ?_);refine goesL_ (some 17) rfl rfl Try.func12 (by kernel_rfl) rfl #[.agg #[.int .i64 a0_0,.slice A0_1 l0_1.length c0_1],.int .i64 1048576] rfl (by (try simp only [zz26,zz27,zz28]);first | done | rfl | (simp only [zz24,zz25];rfl) | (simp only [zz25];congr;(try simp only [decide_eq_true_eq] at *);omega)) ?_;(with_reducible refine (laws_szParty.calls a0_0 _ _ l0_1 1048576 t347 _ ?side1 ?side2 A5.out).mono ?_);(case side1=>repeat (first | exact (Kd.C_below HR0_1.out HB.out) | (with_reducible refine zz18 ?_ _) | (with_reducible refine zz19 ?_ _) | (with_reducible refine zz20 ?_)));(case side2=>exact HC0_1.out);rintro e w19 ⟨rfl,hb⟩;refine ⟨_,rfl,?_⟩;have n0_:=Aside0.mk (zz11 (g:=gb346) (o:=.cells #[.int .i64 a0_0,.slice A0_1 l0_1.length c0_1] 24 (0,0)) (by (with_reducible repeat (first | refine zz6 ?_ _ | refine zz7 ?_ | refine zz8 ?_ _));exact BK346.out) hb);have n1_:=Aside0.mk (zz4 (by repeat first | exact HB.out | apply zz2 | apply zz0 | apply zz1 | refine zz3 ?_ GE346.out) hb);clear BK346;clear HB;have BK346:=n0_;have HB:=n1_;clear n0_ n1_;(try clear hb);(try clear hb2);(try clear hk);(try clear hi);have hcz20_0:w19.cell? ⟨gb346,0,none⟩=some (.int .i64 a0_0):=(zz9 BK346.out 0).trans rfl;have hcz20_1:w19.cell? ⟨gb346,1,none⟩=some (.slice A0_1 l0_1.length c0_1):=(zz9 BK346.out 1).trans rfl;have hfz20_0:=zz10 BK346.out 0;have hfz20_1:=zz10 BK346.out 1) | ((with_reducible refine gate_callee (f:=14) rfl ?_);refine goesL_ (some 22) rfl rfl Try.func14 (by kernel_rfl) rfl #[.agg #[.int .i64 a0_0,.slice A0_1 l0_1.length c0_1]] rfl (by (try simp only [zz26,zz27,zz28]);first | done | rfl | (simp only [zz24,zz25];rfl) | (simp only [zz25];congr;(try simp only [decide_eq_true_eq] at *);omega)) ?_;(with_reducible refine (laws_toParty.calls k a0_0 _ _ l0_1 t348 t349 _ ?side1 ?side2 A10.out).mono ?_);(case side1=>repeat (first | exact (Kd.C_below HR0_1.out HB.out) | (with_reducible refine zz18 ?_ _) | (with_reducible refine zz19 ?_ _) | (with_reducible refine zz20 ?_)));(case side2=>exact HC0_1.out);rintro e w21 ⟨v350,rfl,ho0,hb⟩;refine ⟨_,rfl,?_⟩;have n0_:=Aside0.mk (Kd.R_lower ho0 (zz5 (by repeat first | exact HB.out | apply zz2 | apply zz0 | apply zz1 | refine zz3 ?_ GE346.out)));have n1_:=Aside0.mk (zz11 (g:=gb346) (o:=.cells #[.int .i64 a0_0,.slice A0_1 l0_1.length c0_1] 24 (0,0)) (by (with_reducible repeat (first | refine zz6 ?_ _ | refine zz7 ?_ | refine zz8 ?_ _));exact BK346.out) hb);have n2_:=Aside0.mk (zz4 (by repeat first | exact HB.out | apply zz2 | apply zz0 | apply zz1 | refine zz3 ?_ GE346.out) hb);clear BK346;clear HB;have HO351:=n0_;have BK346:=n1_;have HB:=n2_;clear n0_ n1_ n2_;(try clear hb);(try clear hb2);(try clear hk);(try clear hi);(try clear ho0)) | ((with_reducible refine gate_callee (f:=24) rfl ?_);refine goesL_ (some 24) rfl rfl Try.func24 (by kernel_rfl) rfl #[.slice A1 l1.length c1] rfl (by (try simp only [zz26,zz27,zz28]);first | done | rfl | (simp only [zz24,zz25];rfl) | (simp only [zz25];congr;(try simp only [decide_eq_true_eq] at *);omega)) ?_;(with_reducible refine (laws_toIntS.calls k _ _ l1 t352 _ ?side1 ?side2 A11.out).mono ?_);(case side1=>repeat (first | exact (Kd.C_below HR1.out HB.out) | (with_reducible refine zz18 ?_ _) | (with_reducible refine zz19 ?_ _) | (with_reducible refine zz20 ?_)));(case side2=>exact HC1.out);rintro e w22 ⟨v353,rfl,ho0,hb⟩;refine ⟨_,rfl,?_⟩;have n0_:=Aside0.mk (Kd.R_below (by (with_reducible repeat (first | apply zz12 | apply zz13 | apply zz14));exact HO351.out) hb);have n1_:=Aside0.mk (Kd.R_lower ho0 (zz5 (by repeat first | exact HB.out | apply zz2 | apply zz0 | apply zz1 | refine zz3 ?_ GE346.out)));have n2_:=Aside0.mk (zz11 (g:=gb346) (o:=.cells #[.int .i64 a0_0,.slice A0_1 l0_1.length c0_1] 24 (0,0)) (by (with_reducible repeat (first | refine zz6 ?_ _ | refine zz7 ?_ | refine zz8 ?_ _));exact BK346.out) hb);have n3_:=Aside0.mk (zz4 (by repeat first | exact HB.out | apply zz2 | apply zz0 | apply zz1 | refine zz3 ?_ GE346.out) hb);clear HO351;clear BK346;clear HB;have HO351:=n0_;have HO354:=n1_;have BK346:=n2_;have HB:=n3_;clear n0_ n1_ n2_ n3_;(try clear hb);(try clear hb2);(try clear hk);(try clear hi);(try clear ho0);obtain ⟨Ao23,co23,eo23⟩:=Kd.R_slice HO351.out;subst eo23;obtain ⟨Ao24,co24,eo24⟩:=Kd.R_slice HO354.out;subst eo24) | ((with_reducible refine gate_callee (f:=23) rfl ?_);refine goesL_ (some 25) rfl rfl Try.func23 (by kernel_rfl) rfl #[.agg #[.int .i64 t348,.slice Ao23 t349.length co23],.slice Ao24 t352.length co24] rfl (by (try simp only [zz26,zz27,zz28]);first | done | rfl | (simp only [zz24,zz25];rfl) | (simp only [zz25];congr;(try simp only [decide_eq_true_eq] at *);omega)) ?_;(with_reducible refine (spec_IsGroup.calls k t348 _ _ t349 _ _ t352 t355 t356 _ ?side1 ?side2 ?side3 ?side4 A12.out).mono ?_);(case side1=>repeat (first | exact (Kd.R_reads' HO351.out).2.2 | (with_reducible refine zz18 ?_ _) | (with_reducible refine zz19 ?_ _) | (with_reducible refine zz20 ?_)));(case side2=>exact (Kd.R_reads' HO351.out).2.1);(case side3=>repeat (first | exact (Kd.R_reads' HO354.out).2.2 | (with_reducible refine zz18 ?_ _) | (with_reducible refine zz19 ?_ _) | (with_reducible refine zz20 ?_)));(case side4=>exact (Kd.R_reads' HO354.out).2.1);rintro e w25 ⟨rfl,hb⟩;refine ⟨_,rfl,?_⟩;have n0_:=Aside0.mk (Kd.R_below (by (with_reducible repeat (first | apply zz12 | apply zz13 | apply zz14));exact HO351.out) hb);have n1_:=Aside0.mk (Kd.R_below (by (with_reducible repeat (first | apply zz12 | apply zz13 | apply zz14));exact HO354.out) hb);have n2_:=Aside0.mk (zz11 (g:=gb346) (o:=.cells #[.int .i64 a0_0,.slice A0_1 l0_1.length c0_1] 24 (0,0)) (by (with_reducible repeat (first | refine zz6 ?_ _ | refine zz7 ?_ | refine zz8 ?_ _));exact BK346.out) hb);have n3_:=Aside0.mk (zz4 (by repeat first | exact HB.out | apply zz2 | apply zz0 | apply zz1 | refine zz3 ?_ GE346.out) hb);clear HO351;clear HO354;clear BK346;clear HB;have HO351:=n0_;have HO354:=n1_;have BK346:=n2_;have HB:=n3_;clear n0_ n1_ n2_ n3_;(try clear hb);(try clear hb2);(try clear hk);(try clear hi);have hcz26_0:w25.cell? ⟨gb346,0,none⟩=some (.int .i64 a0_0):=(zz9 BK346.out 0).trans rfl;have hcz26_1:w25.cell? ⟨gb346,1,none⟩=some (.slice A0_1 l0_1.length c0_1):=(zz9 BK346.out 1).trans rfl;have hfz26_0:=zz10 BK346.out 0;have hfz26_1:=zz10 BK346.out 1) | ((with_reducible refine gate_callee (f:=14) rfl ?_);refine goesL_ (some 29) rfl rfl Try.func14 (by kernel_rfl) rfl #[.agg #[.int .i64 a0_0,.slice A0_1 l0_1.length c0_1]] rfl (by (try simp only [zz26,zz27,zz28]);first | done | rfl | (simp only [zz24,zz25];rfl) | (simp only [zz25];congr;(try simp only [decide_eq_true_eq] at *);omega)) ?_;(with_reducible refine (laws_toParty.calls k a0_0 _ _ l0_1 t357 t358 _ ?side1 ?side2 A13.out).mono ?_);(case side1=>repeat (first | exact (Kd.C_below HR0_1.out HB.out) | (with_reducible refine zz18 ?_ _) | (with_reducible refine zz19 ?_ _) | (with_reducible refine zz20 ?_)));(case side2=>exact HC0_1.out);rintro e w27 ⟨v359,rfl,ho0,hb⟩;refine ⟨_,rfl,?_⟩;have n0_:=Aside0.mk (Kd.R_elder' (by (with_reducible repeat (first | apply zz12 | apply zz13 | apply zz14));exact HO351.out) (Kd.R_base ho0) hb);have n1_:=Aside0.mk (Kd.R_below (by (with_reducible repeat (first | apply zz12 | apply zz13 | apply zz14));exact HO354.out) hb);have n2_:=Aside0.mk (Kd.R_lower (Kd.R_new' ho0 (Kd.R_lt (by (with_reducible repeat (first | apply zz12 | apply zz13 | apply zz14));exact HO351.out))) (zz5 (by repeat first | exact HB.out | apply zz2 | apply zz0 | apply zz1 | refine zz3 ?_ GE346.out)));have n3_:=Aside0.mk (zz11 (g:=gb346) (o:=.cells #[.int .i64 a0_0,.slice A0_1 l0_1.length c0_1] 24 (0,0)) (by (with_reducible repeat (first | refine zz6 ?_ _ | refine zz7 ?_ | refine zz8 ?_ _));exact BK346.out) hb);have n4_:=Aside0.mk (zz4 (by repeat first | exact HB.out | apply zz2 | apply zz0 | apply zz1 | refine zz3 ?_ GE346.out) hb);clear HO351;clear HO354;clear BK346;clear HB;have HO351:=n0_;have HO354:=n1_;have HO360:=n2_;have BK346:=n3_;have HB:=n4_;clear n0_ n1_ n2_ n3_ n4_;(try clear hb);(try clear hb2);(try clear hk);(try clear hi);(try clear ho0)) | ((with_reducible refine gate_dst (N:=8) rfl ?_);refine box_event ?hg (N:=8) ?hd (cs:=#[.int .i64 0,.slice none 0 0]) (t:=30) ?hr ?_;(case hd=>rfl);(case hg=>rfl);(case hr=>first | (go_simp;done) | (go_simp;rfl));intro gb361 hg w28 hbox hb;have n0_:=Aside0.mk (Kd.R_below (by (with_reducible repeat (first | apply zz12 | apply zz13 | apply zz14));exact HO351.out) hb);have n1_:=Aside0.mk (Kd.R_below (by (with_reducible repeat (first | apply zz12 | apply zz13 | apply zz14));exact HO354.out) hb);have n2_:=Aside0.mk (Kd.R_below (by (with_reducible repeat (first | apply zz12 | apply zz13 | apply zz14));exact HO360.out) hb);have n3_:=Aside0.mk (zz11 (g:=gb346) (o:=.cells #[.int .i64 a0_0,.slice A0_1 l0_1.length c0_1] 24 (0,0)) (by (with_reducible repeat (first | refine zz6 ?_ _ | refine zz7 ?_ | refine zz8 ?_ _));exact BK346.out) hb);have n4_:=Aside0.mk (zz4 (by repeat first | exact HB.out | apply zz2 | apply zz0 | apply zz1 | refine zz3 ?_ GE346.out) hb);have n5_:=Aside0.mk (hbox);have n6_:=Aside0.mk ((by rw [hg];exact (zz5 (by repeat first | exact HB.out | apply zz2 | apply zz0 | apply zz1 | refine zz3 ?_ GE346.out)):w.heap.size≤gb361));have n7_:=Aside0.mk ((by rw [hg];exact (zz5 (by repeat first | exact HB.out | apply zz2 | apply zz0 | apply zz1 | refine zz3 ?_ GE346.out)):w.heap.size≤gb361));have n8_:=Aside0.mk ((by rw [hg];exact Nat.ne_of_lt (blk_lt (g:=gb346) (o:=.cells #[.int .i64 a0_0,.slice A0_1 l0_1.length c0_1] 24 (0,0)) (by (with_reducible repeat (first | refine zz6 ?_ _ | refine zz7 ?_ | refine zz8 ?_ _));exact BK346.out)):gb346 ≠ gb361));have n9_:=Aside0.mk ((by rw [hg];exact Nat.ne_of_gt (blk_lt (g:=gb346) (o:=.cells #[.int .i64 a0_0,.slice A0_1 l0_1.length c0_1] 24 (0,0)) (by (with_reducible repeat (first | refine zz6 ?_ _ | refine zz7 ?_ | refine zz8 ?_ _));exact BK346.out)):gb361 ≠ gb346));clear HO351;clear HO354;clear HO360;clear BK346;clear HB;have HO351:=n0_;have HO354:=n1_;have HO360:=n2_;have BK346:=n3_;have HB:=n4_;have BK361:=n5_;have GW361:=n6_;have GE361:=n7_;have NB346_361:=n8_;have NB361_346:=n9_;clear n0_ n1_ n2_ n3_ n4_ n5_ n6_ n7_ n8_ n9_;clear hb hbox hg;have hnb29:=NB361_346.out;have hnc29:=NB346_361.out;have hcz30_0:w28.cell? ⟨gb361,0,none⟩=some (.int .i64 0):=(zz9 BK361.out 0).trans rfl;have hcz30_1:w28.cell? ⟨gb361,1,none⟩=some (.slice none 0 0):=(zz9 BK361.out 1).trans rfl;have hfz30_0:=zz10 BK361.out 0;have hfz30_1:=zz10 BK361.out 1;obtain ⟨Ao31,co31,eo31⟩:=Kd.R_slice HO360.out;subst eo31) | ((with_reducible refine gate_callee (f:=24) rfl ?_);refine goesL_ (some 31) rfl rfl Try.func24 (by kernel_rfl) rfl #[.slice A1 l1.length c1] rfl (by (try simp only [zz26,zz27,zz28]);first | done | rfl | (simp only [zz24,zz25];rfl) | (simp only [zz25];congr;(try simp only [decide_eq_true_eq] at *);omega)) ?_;(with_reducible refine (laws_toIntS.calls k _ _ l1 t362 _ ?side1 ?side2 A14.out).mono ?_);(case side1=>exact Kd.C_below HR1.out (by repeat first | exact HB.out | apply zz2 | apply zz0 | apply zz1 | refine zz3 ?_ GE346.out | refine zz3 ?_ GE361.out));(case side2=>exact HC1.out);rintro e w32 ⟨v363,rfl,ho0,hb⟩;refine ⟨_,rfl,?_⟩;have n0_:=Aside0.mk (Kd.R_below (by (with_reducible repeat (first | apply zz12 | apply zz13 | apply zz14));exact (Kd.R_mono (Kd.R_far (p:=⟨gb361,1,none⟩) (Kd.R_far (p:=⟨gb361,0,none⟩) (Kd.R_types HO351.out BK361.out (by decide)) (fun _ hk=>hk.2) (.int .i64 t357)) (fun _ hk=>hk.2) (.slice Ao31 t358.length co31)) (fun _ h_=>h_.1))) hb);have n1_:=Aside0.mk (Kd.R_elder' (by (with_reducible repeat (first | apply zz12 | apply zz13 | apply zz14));exact (Kd.R_mono (Kd.R_far (p:=⟨gb361,1,none⟩) (Kd.R_far (p:=⟨gb361,0,none⟩) (Kd.R_types HO354.out BK361.out (by decide)) (fun _ hk=>hk.2) (.int .i64 t357)) (fun _ hk=>hk.2) (.slice Ao31 t358.length co31)) (fun _ h_=>h_.1))) (Kd.R_base ho0) hb);have n2_:=Aside0.mk (Kd.R_below (by (with_reducible repeat (first | apply zz12 | apply zz13 | apply zz14));exact (Kd.R_mono (Kd.R_far (p:=⟨gb361,1,none⟩) (Kd.R_far (p:=⟨gb361,0,none⟩) (Kd.R_types HO360.out BK361.out (by decide)) (fun _ hk=>hk.2) (.int .i64 t357)) (fun _ hk=>hk.2) (.slice Ao31 t358.length co31)) (fun _ h_=>h_.1))) hb);have n3_:=Aside0.mk (Kd.R_lower (Kd.R_new' ho0 (Kd.R_lt (by (with_reducible repeat (first | apply zz12 | apply zz13 | apply zz14));exact (Kd.R_mono (Kd.R_far (p:=⟨gb361,1,none⟩) (Kd.R_far (p:=⟨gb361,0,none⟩) (Kd.R_types HO354.out BK361.out (by decide)) (fun _ hk=>hk.2) (.int .i64 t357)) (fun _ hk=>hk.2) (.slice Ao31 t358.length co31)) (fun _ h_=>h_.1))))) (zz5 (by repeat first | exact HB.out | apply zz2 | apply zz0 | apply zz1 | refine zz3 ?_ GE346.out | refine zz3 ?_ GE361.out)));have n4_:=Aside0.mk (zz11 (g:=gb346) (o:=.cells #[.int .i64 a0_0,.slice A0_1 l0_1.length c0_1] 24 (0,0)) (by (with_reducible repeat (first | refine zz6 ?_ _ | refine zz7 ?_ | refine zz8 ?_ _));refine blk_far ?_ NB346_361.out _;(with_reducible repeat (first | refine zz6 ?_ _ | refine zz7 ?_ | refine zz8 ?_ _));refine blk_far ?_ NB346_361.out _;(with_reducible repeat (first | refine zz6 ?_ _ | refine zz7 ?_ | refine zz8 ?_ _));exact BK346.out) hb);have n5_:=Aside0.mk (zz11 (g:=gb361) (o:=.cells #[.int .i64 t357,.slice Ao31 t358.length co31] 30 (0,0)) (by (with_reducible repeat (first | refine zz6 ?_ _ | refine zz7 ?_ | refine zz8 ?_ _));refine blk_put (cs:=#[.int .i64 t357,.slice none 0 0]) ?_ 1 _ rfl;(with_reducible repeat (first | refine zz6 ?_ _ | refine zz7 ?_ | refine zz8 ?_ _));refine blk_put (cs:=#[.int .i64 0,.slice none 0 0]) ?_ 0 _ rfl;(with_reducible repeat (first | refine zz6 ?_ _ | refine zz7 ?_ | refine zz8 ?_ _));exact BK361.out) hb);have n6_:=Aside0.mk (zz4 (by repeat first | exact HB.out | apply zz2 | apply zz0 | apply zz1 | refine zz3 ?_ GE346.out | refine zz3 ?_ GE361.out) hb);clear HO351;clear HO354;clear HO360;clear BK346;clear BK361;clear HB;have HO351:=n0_;have HO354:=n1_;have HO360:=n2_;have HO364:=n3_;have BK346:=n4_;have BK361:=n5_;have HB:=n6_;clear n0_ n1_ n2_ n3_ n4_ n5_ n6_;(try clear hb);(try clear hb2);(try clear hk);(try clear hi);(try clear ho0);have hcz33_0:w32.cell? ⟨gb361,0,none⟩=some (.int .i64 t357):=(zz9 BK361.out 0).trans rfl;have hcz33_1:w32.cell? ⟨gb361,1,none⟩=some (.slice Ao31 t358.length co31):=(zz9 BK361.out 1).trans rfl;have hfz33_0:=zz10 BK361.out 0;have hfz33_1:=zz10 BK361.out 1;obtain ⟨Ao34,co34,eo34⟩:=Kd.R_slice HO364.out;subst eo34) | ((with_reducible refine gate_callee (f:=25) rfl ?_);refine goesL_ (some 35) rfl rfl Try.func25 (by kernel_rfl) rfl #[.agg #[.int .i64 t357,.slice Ao31 t358.length co31],.slice Ao34 t362.length co34] rfl (by (try simp only [zz26,zz27,zz28]);first | done | rfl | (simp only [zz24,zz25];rfl) | (simp only [zz25];congr;(try simp only [decide_eq_true_eq] at *);omega)) ?_;(with_reducible refine (impl_IsGroup.calls k t357 _ _ t358 _ _ t362 t365 t366 _ ?side1 ?side2 ?side3 ?side4 A15.out).mono ?_);(case side1=>repeat (first | exact (Kd.R_reads' HO360.out).2.2 | (with_reducible refine zz18 ?_ _) | (with_reducible refine zz19 ?_ _) | (with_reducible refine zz20 ?_)));(case side2=>exact (Kd.R_reads' HO360.out).2.1);(case side3=>repeat (first | exact (Kd.R_reads' HO364.out).2.2 | (with_reducible refine zz18 ?_ _) | (with_reducible refine zz19 ?_ _) | (with_reducible refine zz20 ?_)));(case side4=>exact (Kd.R_reads' HO364.out).2.1);rintro e w35 ⟨rfl,hb⟩;refine ⟨_,rfl,?_⟩;have n0_:=Aside0.mk (Kd.R_below (by (with_reducible repeat (first | apply zz12 | apply zz13 | apply zz14));exact HO351.out) hb);have n1_:=Aside0.mk (Kd.R_below (by (with_reducible repeat (first | apply zz12 | apply zz13 | apply zz14));exact HO354.out) hb);have n2_:=Aside0.mk (Kd.R_below (by (with_reducible repeat (first | apply zz12 | apply zz13 | apply zz14));exact HO360.out) hb);have n3_:=Aside0.mk (Kd.R_below (by (with_reducible repeat (first | apply zz12 | apply zz13 | apply zz14));exact HO364.out) hb);have n4_:=Aside0.mk (zz11 (g:=gb346) (o:=.cells #[.int .i64 a0_0,.slice A0_1 l0_1.length c0_1] 24 (0,0)) (by (with_reducible repeat (first | refine zz6 ?_ _ | refine zz7 ?_ | refine zz8 ?_ _));exact BK346.out) hb);have n5_:=Aside0.mk (zz11 (g:=gb361) (o:=.cells #[.int .i64 t357,.slice Ao31 t358.length co31] 30 (0,0)) (by (with_reducible repeat (first | refine zz6 ?_ _ | refine zz7 ?_ | refine zz8 ?_ _));exact BK361.out) hb);have n6_:=Aside0.mk (zz4 (by repeat first | exact HB.out | apply zz2 | apply zz0 | apply zz1 | refine zz3 ?_ GE346.out | refine zz3 ?_ GE361.out) hb);clear HO351;clear HO354;clear HO360;clear HO364;clear BK346;clear BK361;clear HB;have HO351:=n0_;have HO354:=n1_;have HO360:=n2_;have HO364:=n3_;have BK346:=n4_;have BK361:=n5_;have HB:=n6_;clear n0_ n1_ n2_ n3_ n4_ n5_ n6_;(try clear hb);(try clear hb2);(try clear hk);(try clear hi)))
   (try simp only [Act.put,zz21,zz22,zz23])
   go_cut [45] (fun v45 wc=>∃ (kq:Nat) (x45_15:Bool),v45=.bool x45_15∧Aside0 (laws_FnExactIsGroup.j0 kq l1 t362 x45_15 a0_0 l0_1 t357 t358=some r)∧Aside0 (kq≤k)∧Aside0 (Kd.R (Kd.int .i64) 3 wc w.heap.size (fun _=>True) (.slice Ao34 t362.length co34) t362)∧Aside0 (Kd.R k80 80 wc w.heap.size (fun _=>True) (.slice Ao31 t358.length co31) t358)∧Aside0 (wc.heap[gb346]?=some (.cells #[.int .i64 a0_0,(.slice A0_1 l0_1.length c0_1)] 24 (0,0)))∧Aside0 (wc.heap[gb361]?=some (.cells #[.int .i64 t357,(.slice Ao31 t358.length co31)] 30 (0,0)))∧Aside0 (Below w.heap.size w wc))
   case first =>
    have H:=HC16.out
    clear HC16
    by_cases c36:(t365 != t355)=true
    ·rw [if_pos c36] at H
     have c36b0:(t365 != t355)=true:=c36
     (try (have c36b1:decide (t365=t355)=false:=by simpa using c36))
     (try (have c36b2:(t365 == t355)=false:=by simpa using c36))
     (try (have c36b3:¬ (t365=t355):=by simpa using c36))
     clear c36
     (first | rw [c36b0] | (simp only [i64_w,i32_w];rw [c36b0]) | skip)
     have H':=Aside0.mk H
     clear H
     go_wp2
     go_meet
     case rel=>exact ⟨_,(true),(by first | rfl | (simp;done) | (simp [*];done)),H',⟨by first | omega | exact Nat.le_refl _⟩,⟨by (with_reducible repeat (first | apply zz12 | apply zz13 | apply zz14));exact Kd.R_mono HO364.out (fun _ hk=>trivial)⟩,⟨by (with_reducible repeat (first | apply zz12 | apply zz13 | apply zz14));exact Kd.R_mono HO360.out (fun _ hk=>trivial)⟩,⟨by (with_reducible repeat (first | refine zz6 ?_ _ | refine zz7 ?_ | refine zz8 ?_ _));exact BK346.out⟩,⟨by (with_reducible repeat (first | refine zz6 ?_ _ | refine zz7 ?_ | refine zz8 ?_ _));exact BK361.out⟩,⟨by repeat first | exact HB.out | apply zz2 | apply zz0 | apply zz1 | refine zz3 ?_ GE346.out | refine zz3 ?_ GE361.out⟩⟩
    ·rw [if_neg c36] at H
     have c36b0:(t365 != t355)=false:=by simpa using c36
     (try (have c36b1:decide (t365=t355)=true:=by simpa using c36))
     (try (have c36b2:(t365 == t355)=true:=by simpa using c36))
     clear c36
     (first | rw [c36b0] | (simp only [i64_w,i32_w];rw [c36b0]) | skip)
     have H':=Aside0.mk H
     clear H
     go_wp2
     go_meet
     case rel=>exact ⟨_,((t366 != t356)),(by first | rfl | (simp;done) | (simp [*];done)),H',⟨by first | omega | exact Nat.le_refl _⟩,⟨by (with_reducible repeat (first | apply zz12 | apply zz13 | apply zz14));exact Kd.R_mono HO364.out (fun _ hk=>trivial)⟩,⟨by (with_reducible repeat (first | apply zz12 | apply zz13 | apply zz14));exact Kd.R_mono HO360.out (fun _ hk=>trivial)⟩,⟨by (with_reducible repeat (first | refine zz6 ?_ _ | refine zz7 ?_ | refine zz8 ?_ _));exact BK346.out⟩,⟨by (with_reducible repeat (first | refine zz6 ?_ _ | refine zz7 ?_ | refine zz8 ?_ _));exact BK361.out⟩,⟨by repeat first | exact HB.out | apply zz2 | apply zz0 | apply zz1 | refine zz3 ?_ GE346.out | refine zz3 ?_ GE361.out⟩⟩
   case rest =>
    clear HC16
    try clear c1
    try clear c2
    try clear p2
    try clear c3
    try clear c3b0
    try clear c3b1
    try clear c5
    try clear c6
    try clear c6b0
    try clear c12
    try clear c14
    try clear c23
    try clear c24
    try clear c25
    try clear c29
    try clear c36
    try clear c36b0
    try clear c36b1
    try clear c36b2
    try clear hcz18_0
    try clear hcz18_1
    try clear hcz20_0
    try clear hcz20_1
    try clear hcz26_0
    try clear hcz26_1
    try clear hcz30_0
    try clear hcz30_1
    try clear hcz33_0
    try clear hcz33_1
    try clear hcz8_0
    try clear hcz8_1
    try clear hfz18_0
    try clear hfz18_1
    try clear hfz20_0
    try clear hfz20_1
    try clear hfz26_0
    try clear hfz26_1
    try clear hfz30_0
    try clear hfz30_1
    try clear hfz33_0
    try clear hfz33_1
    try clear hfz8_0
    try clear hfz8_1
    obtain ⟨kq,x45_15,rfl,HA,HJ15,HO_9,HO_362001,BK346,BK361,HB⟩:=hcut
    cases kq with
    | zero=>exact absurd HA.out (by simp [laws_FnExactIsGroup.j0])
    | succ kj15 =>
     have H:=HA.out
     clear HA
     simp only [laws_FnExactIsGroup.j0] at H
     by_cases c37:x45_15=true
     ·subst c37
      have H1:(some false)=some r:=by rw [if_pos rfl] at H;exact H
      clear H
      have H:=H1
      clear H1
      obtain rfl:=Option.some.inj H
      go_wp2
      go_ret
      exact ⟨by first | rfl | (simp [errW_none,errW_some] <;> rfl) | (simp [*,errW_none,errW_some] <;> rfl),by repeat first | exact HB.out | apply zz2 | apply zz0 | apply zz1 | refine zz3 ?_ GE346.out | refine zz3 ?_ GE361.out⟩
     ·replace c37:=Bool.eq_false_iff.mpr c37
      subst c37
      have H1:((laws_toParty.f kj15 a0_0 l0_1).bind fun bt367=>((laws_eqParty.f kj15 t357 t358 bt367.1 bt367.2).bind fun t371=>(if t371=true then ((laws_toIntS.f kj15 l1).bind fun t372=>((laws_eqIntS.f kj15 t362 t372).bind fun t375=>(if t375=true then (some true) else (some false)))) else (some false))))=some r:=by rw [if_neg (show ¬ (false=true) by decide)] at H;exact H
      clear H
      have H:=H1
      clear H1
      replace H:=zz30.mp H
      obtain ⟨⟨t367,t368⟩,A380,H⟩:=H
      replace H:((laws_eqParty.f kj15 t357 t358 t367 t368).bind fun t371=>(if t371=true then ((laws_toIntS.f kj15 l1).bind fun t372=>((laws_eqIntS.f kj15 t362 t372).bind fun t375=>(if t375=true then (some true) else (some false)))) else (some false)))=some r:=H
      have A38:=Aside0.mk A380
      clear A380
      replace H:=zz30.mp H
      obtain ⟨t371,A390,H⟩:=H
      replace H:(if t371=true then ((laws_toIntS.f kj15 l1).bind fun t372=>((laws_eqIntS.f kj15 t362 t372).bind fun t375=>(if t375=true then (some true) else (some false)))) else (some false))=some r:=H
      have A39:=Aside0.mk A390
      clear A390
      by_cases c40:t371=true
      ·subst c40
       have H1:((laws_toIntS.f kj15 l1).bind fun t372=>((laws_eqIntS.f kj15 t362 t372).bind fun t375=>(if t375=true then (some true) else (some false))))=some r:=by rw [if_pos rfl] at H;exact H
       clear H
       have H:=H1
       clear H1
       replace H:=zz30.mp H
       obtain ⟨t372,A410,H⟩:=H
       replace H:((laws_eqIntS.f kj15 t362 t372).bind fun t375=>(if t375=true then (some true) else (some false)))=some r:=H
       have A41:=Aside0.mk A410
       clear A410
       replace H:=zz30.mp H
       obtain ⟨t375,A420,H⟩:=H
       replace H:(if t375=true then (some true) else (some false))=some r:=H
       have A42:=Aside0.mk A420
       clear A420
       by_cases c43:t375=true
       ·subst c43
        have H1:(some true)=some r:=by rw [if_pos rfl] at H;exact H
        clear H
        have H:=H1
        clear H1
        obtain rfl:=Option.some.inj H
        try go_wp2
        have n0_:=Aside0.mk (zz14 HO_9.out)
        have n1_:=Aside0.mk (zz14 HO_362001.out)
        have n2_:=Aside0.mk (zz7 BK346.out)
        have n3_:=Aside0.mk (zz7 BK361.out)
        have n4_:=Aside0.mk (zz1 HB.out)
        clear HO_9
        clear HO_362001
        clear BK346
        clear BK361
        clear HB
        have HO_9:=n0_
        have HO_362001:=n1_
        have BK346:=n2_
        have BK361:=n3_
        have HB:=n4_
        clear n0_ n1_ n2_ n3_ n4_
        refine start_ (n:=5) (S:=fun w'=>w'.cell? ⟨gb361,0,none⟩=some (.int .i64 t357)∧w'.cell? ⟨gb361,1,none⟩=some (.slice Ao31 t358.length co31)∧w'.cell? ⟨gb346,0,none⟩=some (.int .i64 a0_0)∧w'.cell? ⟨gb346,1,none⟩=some (.slice A0_1 l0_1.length c0_1)) (ds:=[]) #[F,F,F,F,F] (by kernel_rfl) rfl rfl ⟨(zz9 BK361.out 0).trans rfl,(zz9 BK361.out 1).trans rfl,(zz9 BK346.out 0).trans rfl,(zz9 BK346.out 1).trans rfl⟩ (fun hHeld=>?_)
        generalize wc.drew=w44 at HO_9 HO_362001 BK346 BK361 HB hHeld ⊢
        refine take_ (i:=0) (N:=some 46) (v:=?_) (a':=?_) #[T,F,F,F,F] rfl rfl (by kernel_rfl) (fun _ _ _ h=>h) (Or.inl ⟨by rfl,?_⟩) hHeld ?_ ?_
        rotate_left
        ·rintro w' ⟨s0,s1,s2,s3⟩
         go_simp
         with_reducible rfl
        rotate_left
        ·simp only [Act.put,zz21,zz22,zz23,i64_w,i32_w]
         rfl
        refine take_ (i:=1) (N:=some 47) (v:=?_) (a':=?_) #[T,T,F,F,F] rfl rfl (by kernel_rfl) (fun _ _ _ h=>h) (Or.inl ⟨by rfl,?_⟩) hHeld ?_ ?_
        rotate_left
        ·rintro w' ⟨s0,s1,s2,s3⟩
         go_simp
         with_reducible rfl
        rotate_left
        ·simp only [Act.put,zz21,zz22,zz23,i64_w,i32_w]
         rfl
        refine one_ (i:=2) (N:=some 48) #[T,T,T,F,F] rfl rfl (by kernel_rfl) (by decide) (fun K hK=>?_)
        refine goes_ Try.func14 (by kernel_rfl) rfl #[.agg #[.int .i64 a0_0,.slice A0_1 l0_1.length c0_1]] (by rfl) rfl rfl (by (try simp only [zz26,zz27,zz28]);first | done | rfl | (simp only [zz24,zz25];rfl) | (simp only [zz25];congr;(try simp only [decide_eq_true_eq] at *);omega)) ?_
        with_reducible refine (laws_toParty.calls kj15 a0_0 _ _ l0_1 t367 t368 _ ?side1 ?side2 A38.out).mono ?_
        (case side1=>repeat (first | exact (Kd.C_below HR0_1.out HB.out) | (with_reducible refine zz18 ?_ _) | (with_reducible refine zz19 ?_ _) | (with_reducible refine zz20 ?_)))
        (case side2=>exact HC0_1.out)
        rintro e w45 ⟨v369,rfl,ho0,hb⟩
        refine ⟨_,rfl,?_⟩
        have n0_:=Aside0.mk (Kd.R_below (by (with_reducible repeat (first | apply zz12 | apply zz13 | apply zz14));exact HO_9.out) hb)
        have n1_:=Aside0.mk (Kd.R_elder' (by (with_reducible repeat (first | apply zz12 | apply zz13 | apply zz14));exact HO_362001.out) (Kd.R_base ho0) hb)
        have n2_:=Aside0.mk (Kd.R_lower (Kd.R_new' ho0 (Kd.R_lt (by (with_reducible repeat (first | apply zz12 | apply zz13 | apply zz14));exact HO_362001.out))) (zz5 (by repeat first | exact HB.out | apply zz2 | apply zz0 | apply zz1 | refine zz3 ?_ GE346.out | refine zz3 ?_ GE361.out)))
        have n3_:=Aside0.mk (zz11 (g:=gb346) (o:=.cells #[.int .i64 a0_0,.slice A0_1 l0_1.length c0_1] 24 (0,0)) (by (with_reducible repeat (first | refine zz6 ?_ _ | refine zz7 ?_ | refine zz8 ?_ _));exact BK346.out) hb)
        have n4_:=Aside0.mk (zz11 (g:=gb361) (o:=.cells #[.int .i64 t357,.slice Ao31 t358.length co31] 30 (0,0)) (by (with_reducible repeat (first | refine zz6 ?_ _ | refine zz7 ?_ | refine zz8 ?_ _));exact BK361.out) hb)
        have n5_:=Aside0.mk (zz4 (by repeat first | exact HB.out | apply zz2 | apply zz0 | apply zz1 | refine zz3 ?_ GE346.out | refine zz3 ?_ GE361.out) hb)
        clear HO_9
        clear HO_362001
        clear BK346
        clear BK361
        clear HB
        have HO_9:=n0_
        have HO_362001:=n1_
        have HO370:=n2_
        have BK346:=n3_
        have BK361:=n4_
        have HB:=n5_
        clear n0_ n1_ n2_ n3_ n4_ n5_
        (try clear hb)
        (try clear hb2)
        (try clear hk)
        (try clear hi)
        (try clear ho0)
        obtain ⟨Ao46,co46,eo46⟩:=Kd.R_slice HO370.out
        (first | subst eo46 | (injection eo46 with f1_ f2_ f3_;have f4_:=f1_.symm;have f5_:=f3_.symm;clear f1_ f2_ f3_;subst f4_;subst f5_))
        refine hK.out _ _ ⟨(zz9 BK361.out 0).trans rfl,(zz9 BK361.out 1).trans rfl,(zz9 BK346.out 0).trans rfl,(zz9 BK346.out 1).trans rfl⟩ (fun hHeld=>?_)
        clear hK K
        refine norm_ (a':=?_) ?_ ?_
        rotate_left
        ·show Act.put _ (some 48) _=_
         simp only [Act.put,zz21,zz22,zz23,i64_w,i32_w]
         rfl
        refine one_ (i:=3) (N:=some 49) #[T,T,T,T,F] rfl rfl (by kernel_rfl) (by decide) (fun K hK=>?_)
        refine goes_ Try.func16 (by kernel_rfl) rfl #[.agg #[.int .i64 t357,.slice Ao31 t358.length co31],.agg #[.int .i64 t367,.slice Ao46 t368.length co46]] (by rfl) rfl rfl (by (try simp only [zz26,zz27,zz28]);first | done | rfl | (simp only [zz24,zz25];rfl) | (simp only [zz25];congr;(try simp only [decide_eq_true_eq] at *);omega)) ?_
        with_reducible refine (laws_eqParty.calls kj15 t357 _ _ t358 t367 _ _ t368 true _ ?side1 ?side2 ?side3 ?side4 A39.out).mono ?_
        (case side1=>repeat (first | exact (Kd.R_reads' HO_362001.out).2.2 | (with_reducible refine zz18 ?_ _) | (with_reducible refine zz19 ?_ _) | (with_reducible refine zz20 ?_)))
        (case side2=>exact (Kd.R_reads' HO_362001.out).2.1)
        (case side3=>repeat (first | exact (Kd.R_reads' HO370.out).2.2 | (with_reducible refine zz18 ?_ _) | (with_reducible refine zz19 ?_ _) | (with_reducible refine zz20 ?_)))
        (case side4=>exact (Kd.R_reads' HO370.out).2.1)
        rintro e w47 ⟨rfl,hb⟩
        refine ⟨_,rfl,?_⟩
        have n0_:=Aside0.mk (Kd.R_below (by (with_reducible repeat (first | apply zz12 | apply zz13 | apply zz14));exact HO_9.out) hb)
        have n1_:=Aside0.mk (Kd.R_below (by (with_reducible repeat (first | apply zz12 | apply zz13 | apply zz14));exact HO_362001.out) hb)
        have n2_:=Aside0.mk (Kd.R_below (by (with_reducible repeat (first | apply zz12 | apply zz13 | apply zz14));exact HO370.out) hb)
        have n3_:=Aside0.mk (zz11 (g:=gb346) (o:=.cells #[.int .i64 a0_0,.slice A0_1 l0_1.length c0_1] 24 (0,0)) (by (with_reducible repeat (first | refine zz6 ?_ _ | refine zz7 ?_ | refine zz8 ?_ _));exact BK346.out) hb)
        have n4_:=Aside0.mk (zz11 (g:=gb361) (o:=.cells #[.int .i64 t357,.slice Ao31 t358.length co31] 30 (0,0)) (by (with_reducible repeat (first | refine zz6 ?_ _ | refine zz7 ?_ | refine zz8 ?_ _));exact BK361.out) hb)
        have n5_:=Aside0.mk (zz4 (by repeat first | exact HB.out | apply zz2 | apply zz0 | apply zz1 | refine zz3 ?_ GE346.out | refine zz3 ?_ GE361.out) hb)
        clear HO_9
        clear HO_362001
        clear HO370
        clear BK346
        clear BK361
        clear HB
        have HO_9:=n0_
        have HO_362001:=n1_
        have HO370:=n2_
        have BK346:=n3_
        have BK361:=n4_
        have HB:=n5_
        clear n0_ n1_ n2_ n3_ n4_ n5_
        (try clear hb)
        (try clear hb2)
        (try clear hk)
        (try clear hi)
        refine hK.out _ _ ⟨(zz9 BK361.out 0).trans rfl,(zz9 BK361.out 1).trans rfl,(zz9 BK346.out 0).trans rfl,(zz9 BK346.out 1).trans rfl⟩ (fun hHeld=>?_)
        clear hK K
        refine norm_ (a':=?_) ?_ ?_
        rotate_left
        ·show Act.put _ (some 49) _=_
         simp only [Act.put,zz21,zz22,zz23,i64_w,i32_w]
         rfl
        refine pure_ (i:=4) (N:=some 50) (v:=?_) (a':=?_) #[T,T,T,T,T] rfl rfl (by kernel_rfl) (fun _ _ _ h=>h) (Or.inl ⟨by rfl,?_⟩) ?_ ?_
        rotate_left
        ·intro w'
         go_simp
         with_reducible rfl
        rotate_left
        ·simp only [Act.put,zz21,zz22,zz23,i64_w,i32_w]
         rfl
        refine done_ (by kernel_rfl) ?_
        try go_wp2_with (first | ((with_reducible refine gate_callee (f:=24) rfl ?_);refine goesL_ (some 53) rfl rfl Try.func24 (by kernel_rfl) rfl #[.slice A1 l1.length c1] rfl (by (try simp only [zz26,zz27,zz28]);first | done | rfl | (simp only [zz24,zz25];rfl) | (simp only [zz25];congr;(try simp only [decide_eq_true_eq] at *);omega)) ?_;(with_reducible refine (laws_toIntS.calls kj15 _ _ l1 t372 _ ?side1 ?side2 A41.out).mono ?_);(case side1=>repeat (first | exact (Kd.C_below HR1.out HB.out) | (with_reducible refine zz18 ?_ _) | (with_reducible refine zz19 ?_ _) | (with_reducible refine zz20 ?_)));(case side2=>exact HC1.out);rintro e w48 ⟨v373,rfl,ho0,hb⟩;refine ⟨_,rfl,?_⟩;have n0_:=Aside0.mk (Kd.R_elder' (by (with_reducible repeat (first | apply zz12 | apply zz13 | apply zz14));exact HO_9.out) (Kd.R_base ho0) hb);have n1_:=Aside0.mk (Kd.R_below (by (with_reducible repeat (first | apply zz12 | apply zz13 | apply zz14));exact HO_362001.out) hb);have n2_:=Aside0.mk (Kd.R_below (by (with_reducible repeat (first | apply zz12 | apply zz13 | apply zz14));exact HO370.out) hb);have n3_:=Aside0.mk (Kd.R_lower (Kd.R_new' ho0 (Kd.R_lt (by (with_reducible repeat (first | apply zz12 | apply zz13 | apply zz14));exact HO_9.out))) (zz5 (by repeat first | exact HB.out | apply zz2 | apply zz0 | apply zz1 | refine zz3 ?_ GE346.out | refine zz3 ?_ GE361.out)));have n4_:=Aside0.mk (zz11 (g:=gb346) (o:=.cells #[.int .i64 a0_0,.slice A0_1 l0_1.length c0_1] 24 (0,0)) (by (with_reducible repeat (first | refine zz6 ?_ _ | refine zz7 ?_ | refine zz8 ?_ _));exact BK346.out) hb);have n5_:=Aside0.mk (zz11 (g:=gb361) (o:=.cells #[.int .i64 t357,.slice Ao31 t358.length co31] 30 (0,0)) (by (with_reducible repeat (first | refine zz6 ?_ _ | refine zz7 ?_ | refine zz8 ?_ _));exact BK361.out) hb);have n6_:=Aside0.mk (zz4 (by repeat first | exact HB.out | apply zz2 | apply zz0 | apply zz1 | refine zz3 ?_ GE346.out | refine zz3 ?_ GE361.out) hb);clear HO_9;clear HO_362001;clear HO370;clear BK346;clear BK361;clear HB;have HO_9:=n0_;have HO_362001:=n1_;have HO370:=n2_;have HO374:=n3_;have BK346:=n4_;have BK361:=n5_;have HB:=n6_;clear n0_ n1_ n2_ n3_ n4_ n5_ n6_;(try clear hb);(try clear hb2);(try clear hk);(try clear hi);(try clear ho0);obtain ⟨Ao49,co49,eo49⟩:=Kd.R_slice HO374.out;subst eo49) | ((with_reducible refine gate_callee (f:=26) rfl ?_);refine goesL_ (some 54) rfl rfl Try.func26 (by kernel_rfl) rfl #[.slice Ao34 t362.length co34,.slice Ao49 t372.length co49] rfl (by (try simp only [zz26,zz27,zz28]);first | done | rfl | (simp only [zz24,zz25];rfl) | (simp only [zz25];congr;(try simp only [decide_eq_true_eq] at *);omega)) ?_;(with_reducible refine (laws_eqIntS.calls kj15 _ _ t362 _ _ t372 true _ ?side1 ?side2 ?side3 ?side4 A42.out).mono ?_);(case side1=>repeat (first | exact (Kd.R_reads' HO_9.out).2.2 | (with_reducible refine zz18 ?_ _) | (with_reducible refine zz19 ?_ _) | (with_reducible refine zz20 ?_)));(case side2=>exact (Kd.R_reads' HO_9.out).2.1);(case side3=>repeat (first | exact (Kd.R_reads' HO374.out).2.2 | (with_reducible refine zz18 ?_ _) | (with_reducible refine zz19 ?_ _) | (with_reducible refine zz20 ?_)));(case side4=>exact (Kd.R_reads' HO374.out).2.1);rintro e w' ⟨rfl,⟨nd,rfl⟩⟩;refine ⟨_,rfl,?_⟩))
        go_ret
        exact ⟨by first | rfl | (simp [errW_none,errW_some] <;> rfl) | (simp [*,errW_none,errW_some] <;> rfl),by repeat first | exact HB.out | apply zz2 | apply zz0 | apply zz1 | refine zz3 ?_ GE346.out | refine zz3 ?_ GE361.out⟩
       ·replace c43:=Bool.eq_false_iff.mpr c43
        subst c43
        have H1:(some false)=some r:=by rw [if_neg (show ¬ (false=true) by decide)] at H;exact H
        clear H
        have H:=H1
        clear H1
        obtain rfl:=Option.some.inj H
        try go_wp2
        have n0_:=Aside0.mk (zz14 HO_9.out)
        have n1_:=Aside0.mk (zz14 HO_362001.out)
        have n2_:=Aside0.mk (zz7 BK346.out)
        have n3_:=Aside0.mk (zz7 BK361.out)
        have n4_:=Aside0.mk (zz1 HB.out)
        clear HO_9
        clear HO_362001
        clear BK346
        clear BK361
        clear HB
        have HO_9:=n0_
        have HO_362001:=n1_
        have BK346:=n2_
        have BK361:=n3_
        have HB:=n4_
        clear n0_ n1_ n2_ n3_ n4_
        refine start_ (n:=5) (S:=fun w'=>w'.cell? ⟨gb361,0,none⟩=some (.int .i64 t357)∧w'.cell? ⟨gb361,1,none⟩=some (.slice Ao31 t358.length co31)∧w'.cell? ⟨gb346,0,none⟩=some (.int .i64 a0_0)∧w'.cell? ⟨gb346,1,none⟩=some (.slice A0_1 l0_1.length c0_1)) (ds:=[]) #[F,F,F,F,F] (by kernel_rfl) rfl rfl ⟨(zz9 BK361.out 0).trans rfl,(zz9 BK361.out 1).trans rfl,(zz9 BK346.out 0).trans rfl,(zz9 BK346.out 1).trans rfl⟩ (fun hHeld=>?_)
        generalize wc.drew=w50 at HO_9 HO_362001 BK346 BK361 HB hHeld ⊢
        refine take_ (i:=0) (N:=some 46) (v:=?_) (a':=?_) #[T,F,F,F,F] rfl rfl (by kernel_rfl) (fun _ _ _ h=>h) (Or.inl ⟨by rfl,?_⟩) hHeld ?_ ?_
        rotate_left
        ·rintro w' ⟨s0,s1,s2,s3⟩
         go_simp
         with_reducible rfl
        rotate_left
        ·simp only [Act.put,zz21,zz22,zz23,i64_w,i32_w]
         rfl
        refine take_ (i:=1) (N:=some 47) (v:=?_) (a':=?_) #[T,T,F,F,F] rfl rfl (by kernel_rfl) (fun _ _ _ h=>h) (Or.inl ⟨by rfl,?_⟩) hHeld ?_ ?_
        rotate_left
        ·rintro w' ⟨s0,s1,s2,s3⟩
         go_simp
         with_reducible rfl
        rotate_left
        ·simp only [Act.put,zz21,zz22,zz23,i64_w,i32_w]
         rfl
        refine one_ (i:=2) (N:=some 48) #[T,T,T,F,F] rfl rfl (by kernel_rfl) (by decide) (fun K hK=>?_)
        refine goes_ Try.func14 (by kernel_rfl) rfl #[.agg #[.int .i64 a0_0,.slice A0_1 l0_1.length c0_1]] (by rfl) rfl rfl (by (try simp only [zz26,zz27,zz28]);first | done | rfl | (simp only [zz24,zz25];rfl) | (simp only [zz25];congr;(try simp only [decide_eq_true_eq] at *);omega)) ?_
        with_reducible refine (laws_toParty.calls kj15 a0_0 _ _ l0_1 t367 t368 _ ?side1 ?side2 A38.out).mono ?_
        (case side1=>repeat (first | exact (Kd.C_below HR0_1.out HB.out) | (with_reducible refine zz18 ?_ _) | (with_reducible refine zz19 ?_ _) | (with_reducible refine zz20 ?_)))
        (case side2=>exact HC0_1.out)
        rintro e w51 ⟨v369,rfl,ho0,hb⟩
        refine ⟨_,rfl,?_⟩
        have n0_:=Aside0.mk (Kd.R_below (by (with_reducible repeat (first | apply zz12 | apply zz13 | apply zz14));exact HO_9.out) hb)
        have n1_:=Aside0.mk (Kd.R_elder' (by (with_reducible repeat (first | apply zz12 | apply zz13 | apply zz14));exact HO_362001.out) (Kd.R_base ho0) hb)
        have n2_:=Aside0.mk (Kd.R_lower (Kd.R_new' ho0 (Kd.R_lt (by (with_reducible repeat (first | apply zz12 | apply zz13 | apply zz14));exact HO_362001.out))) (zz5 (by repeat first | exact HB.out | apply zz2 | apply zz0 | apply zz1 | refine zz3 ?_ GE346.out | refine zz3 ?_ GE361.out)))
        have n3_:=Aside0.mk (zz11 (g:=gb346) (o:=.cells #[.int .i64 a0_0,.slice A0_1 l0_1.length c0_1] 24 (0,0)) (by (with_reducible repeat (first | refine zz6 ?_ _ | refine zz7 ?_ | refine zz8 ?_ _));exact BK346.out) hb)
        have n4_:=Aside0.mk (zz11 (g:=gb361) (o:=.cells #[.int .i64 t357,.slice Ao31 t358.length co31] 30 (0,0)) (by (with_reducible repeat (first | refine zz6 ?_ _ | refine zz7 ?_ | refine zz8 ?_ _));exact BK361.out) hb)
        have n5_:=Aside0.mk (zz4 (by repeat first | exact HB.out | apply zz2 | apply zz0 | apply zz1 | refine zz3 ?_ GE346.out | refine zz3 ?_ GE361.out) hb)
        clear HO_9
        clear HO_362001
        clear BK346
        clear BK361
        clear HB
        have HO_9:=n0_
        have HO_362001:=n1_
        have HO370:=n2_
        have BK346:=n3_
        have BK361:=n4_
        have HB:=n5_
        clear n0_ n1_ n2_ n3_ n4_ n5_
        (try clear hb)
        (try clear hb2)
        (try clear hk)
        (try clear hi)
        (try clear ho0)
        obtain ⟨Ao52,co52,eo52⟩:=Kd.R_slice HO370.out
        (first | subst eo52 | (injection eo52 with f1_ f2_ f3_;have f4_:=f1_.symm;have f5_:=f3_.symm;clear f1_ f2_ f3_;subst f4_;subst f5_))
        refine hK.out _ _ ⟨(zz9 BK361.out 0).trans rfl,(zz9 BK361.out 1).trans rfl,(zz9 BK346.out 0).trans rfl,(zz9 BK346.out 1).trans rfl⟩ (fun hHeld=>?_)
        clear hK K
        refine norm_ (a':=?_) ?_ ?_
        rotate_left
        ·show Act.put _ (some 48) _=_
         simp only [Act.put,zz21,zz22,zz23,i64_w,i32_w]
         rfl
        refine one_ (i:=3) (N:=some 49) #[T,T,T,T,F] rfl rfl (by kernel_rfl) (by decide) (fun K hK=>?_)
        refine goes_ Try.func16 (by kernel_rfl) rfl #[.agg #[.int .i64 t357,.slice Ao31 t358.length co31],.agg #[.int .i64 t367,.slice Ao52 t368.length co52]] (by rfl) rfl rfl (by (try simp only [zz26,zz27,zz28]);first | done | rfl | (simp only [zz24,zz25];rfl) | (simp only [zz25];congr;(try simp only [decide_eq_true_eq] at *);omega)) ?_
        with_reducible refine (laws_eqParty.calls kj15 t357 _ _ t358 t367 _ _ t368 true _ ?side1 ?side2 ?side3 ?side4 A39.out).mono ?_
        (case side1=>repeat (first | exact (Kd.R_reads' HO_362001.out).2.2 | (with_reducible refine zz18 ?_ _) | (with_reducible refine zz19 ?_ _) | (with_reducible refine zz20 ?_)))
        (case side2=>exact (Kd.R_reads' HO_362001.out).2.1)
        (case side3=>repeat (first | exact (Kd.R_reads' HO370.out).2.2 | (with_reducible refine zz18 ?_ _) | (with_reducible refine zz19 ?_ _) | (with_reducible refine zz20 ?_)))
        (case side4=>exact (Kd.R_reads' HO370.out).2.1)
        rintro e w53 ⟨rfl,hb⟩
        refine ⟨_,rfl,?_⟩
        have n0_:=Aside0.mk (Kd.R_below (by (with_reducible repeat (first | apply zz12 | apply zz13 | apply zz14));exact HO_9.out) hb)
        have n1_:=Aside0.mk (Kd.R_below (by (with_reducible repeat (first | apply zz12 | apply zz13 | apply zz14));exact HO_362001.out) hb)
        have n2_:=Aside0.mk (Kd.R_below (by (with_reducible repeat (first | apply zz12 | apply zz13 | apply zz14));exact HO370.out) hb)
        have n3_:=Aside0.mk (zz11 (g:=gb346) (o:=.cells #[.int .i64 a0_0,.slice A0_1 l0_1.length c0_1] 24 (0,0)) (by (with_reducible repeat (first | refine zz6 ?_ _ | refine zz7 ?_ | refine zz8 ?_ _));exact BK346.out) hb)
        have n4_:=Aside0.mk (zz11 (g:=gb361) (o:=.cells #[.int .i64 t357,.slice Ao31 t358.length co31] 30 (0,0)) (by (with_reducible repeat (first | refine zz6 ?_ _ | refine zz7 ?_ | refine zz8 ?_ _));exact BK361.out) hb)
        have n5_:=Aside0.mk (zz4 (by repeat first | exact HB.out | apply zz2 | apply zz0 | apply zz1 | refine zz3 ?_ GE346.out | refine zz3 ?_ GE361.out) hb)
        clear HO_9
        clear HO_362001
        clear HO370
        clear BK346
        clear BK361
        clear HB
        have HO_9:=n0_
        have HO_362001:=n1_
        have HO370:=n2_
        have BK346:=n3_
        have BK361:=n4_
        have HB:=n5_
        clear n0_ n1_ n2_ n3_ n4_ n5_
        (try clear hb)
        (try clear hb2)
        (try clear hk)
        (try clear hi)
        refine hK.out _ _ ⟨(zz9 BK361.out 0).trans rfl,(zz9 BK361.out 1).trans rfl,(zz9 BK346.out 0).trans rfl,(zz9 BK346.out 1).trans rfl⟩ (fun hHeld=>?_)
        clear hK K
        refine norm_ (a':=?_) ?_ ?_
        rotate_left
        ·show Act.put _ (some 49) _=_
         simp only [Act.put,zz21,zz22,zz23,i64_w,i32_w]
         rfl
        refine pure_ (i:=4) (N:=some 50) (v:=?_) (a':=?_) #[T,T,T,T,T] rfl rfl (by kernel_rfl) (fun _ _ _ h=>h) (Or.inl ⟨by rfl,?_⟩) ?_ ?_
        rotate_left
        ·intro w'
         go_simp
         with_reducible rfl
        rotate_left
        ·simp only [Act.put,zz21,zz22,zz23,i64_w,i32_w]
         rfl
        refine done_ (by kernel_rfl) ?_
        try go_wp2_with (first | ((with_reducible refine gate_callee (f:=24) rfl ?_);refine goesL_ (some 53) rfl rfl Try.func24 (by kernel_rfl) rfl #[.slice A1 l1.length c1] rfl (by (try simp only [zz26,zz27,zz28]);first | done | rfl | (simp only [zz24,zz25];rfl) | (simp only [zz25];congr;(try simp only [decide_eq_true_eq] at *);omega)) ?_;(with_reducible refine (laws_toIntS.calls kj15 _ _ l1 t372 _ ?side1 ?side2 A41.out).mono ?_);(case side1=>repeat (first | exact (Kd.C_below HR1.out HB.out) | (with_reducible refine zz18 ?_ _) | (with_reducible refine zz19 ?_ _) | (with_reducible refine zz20 ?_)));(case side2=>exact HC1.out);rintro e w54 ⟨v373,rfl,ho0,hb⟩;refine ⟨_,rfl,?_⟩;have n0_:=Aside0.mk (Kd.R_elder' (by (with_reducible repeat (first | apply zz12 | apply zz13 | apply zz14));exact HO_9.out) (Kd.R_base ho0) hb);have n1_:=Aside0.mk (Kd.R_below (by (with_reducible repeat (first | apply zz12 | apply zz13 | apply zz14));exact HO_362001.out) hb);have n2_:=Aside0.mk (Kd.R_below (by (with_reducible repeat (first | apply zz12 | apply zz13 | apply zz14));exact HO370.out) hb);have n3_:=Aside0.mk (Kd.R_lower (Kd.R_new' ho0 (Kd.R_lt (by (with_reducible repeat (first | apply zz12 | apply zz13 | apply zz14));exact HO_9.out))) (zz5 (by repeat first | exact HB.out | apply zz2 | apply zz0 | apply zz1 | refine zz3 ?_ GE346.out | refine zz3 ?_ GE361.out)));have n4_:=Aside0.mk (zz11 (g:=gb346) (o:=.cells #[.int .i64 a0_0,.slice A0_1 l0_1.length c0_1] 24 (0,0)) (by (with_reducible repeat (first | refine zz6 ?_ _ | refine zz7 ?_ | refine zz8 ?_ _));exact BK346.out) hb);have n5_:=Aside0.mk (zz11 (g:=gb361) (o:=.cells #[.int .i64 t357,.slice Ao31 t358.length co31] 30 (0,0)) (by (with_reducible repeat (first | refine zz6 ?_ _ | refine zz7 ?_ | refine zz8 ?_ _));exact BK361.out) hb);have n6_:=Aside0.mk (zz4 (by repeat first | exact HB.out | apply zz2 | apply zz0 | apply zz1 | refine zz3 ?_ GE346.out | refine zz3 ?_ GE361.out) hb);clear HO_9;clear HO_362001;clear HO370;clear BK346;clear BK361;clear HB;have HO_9:=n0_;have HO_362001:=n1_;have HO370:=n2_;have HO374:=n3_;have BK346:=n4_;have BK361:=n5_;have HB:=n6_;clear n0_ n1_ n2_ n3_ n4_ n5_ n6_;(try clear hb);(try clear hb2);(try clear hk);(try clear hi);(try clear ho0);obtain ⟨Ao55,co55,eo55⟩:=Kd.R_slice HO374.out;subst eo55) | ((with_reducible refine gate_callee (f:=26) rfl ?_);refine goesL_ (some 54) rfl rfl Try.func26 (by kernel_rfl) rfl #[.slice Ao34 t362.length co34,.slice Ao55 t372.length co55] rfl (by (try simp only [zz26,zz27,zz28]);first | done | rfl | (simp only [zz24,zz25];rfl) | (simp only [zz25];congr;(try simp only [decide_eq_true_eq] at *);omega)) ?_;(with_reducible refine (laws_eqIntS.calls kj15 _ _ t362 _ _ t372 false _ ?side1 ?side2 ?side3 ?side4 A42.out).mono ?_);(case side1=>repeat (first | exact (Kd.R_reads' HO_9.out).2.2 | (with_reducible refine zz18 ?_ _) | (with_reducible refine zz19 ?_ _) | (with_reducible refine zz20 ?_)));(case side2=>exact (Kd.R_reads' HO_9.out).2.1);(case side3=>repeat (first | exact (Kd.R_reads' HO374.out).2.2 | (with_reducible refine zz18 ?_ _) | (with_reducible refine zz19 ?_ _) | (with_reducible refine zz20 ?_)));(case side4=>exact (Kd.R_reads' HO374.out).2.1);rintro e w' ⟨rfl,⟨nd,rfl⟩⟩;refine ⟨_,rfl,?_⟩))
        go_ret
        exact ⟨by first | rfl | (simp [errW_none,errW_some] <;> rfl) | (simp [*,errW_none,errW_some] <;> rfl),by repeat first | exact HB.out | apply zz2 | apply zz0 | apply zz1 | refine zz3 ?_ GE346.out | refine zz3 ?_ GE361.out⟩
      ·replace c40:=Bool.eq_false_iff.mpr c40
       subst c40
       have H1:(some false)=some r:=by rw [if_neg (show ¬ (false=true) by decide)] at H;exact H
       clear H
       have H:=H1
       clear H1
       obtain rfl:=Option.some.inj H
       try go_wp2
       have n0_:=Aside0.mk (zz14 HO_9.out)
       have n1_:=Aside0.mk (zz14 HO_362001.out)
       have n2_:=Aside0.mk (zz7 BK346.out)
       have n3_:=Aside0.mk (zz7 BK361.out)
       have n4_:=Aside0.mk (zz1 HB.out)
       clear HO_9
       clear HO_362001
       clear BK346
       clear BK361
       clear HB
       have HO_9:=n0_
       have HO_362001:=n1_
       have BK346:=n2_
       have BK361:=n3_
       have HB:=n4_
       clear n0_ n1_ n2_ n3_ n4_
       refine start_ (n:=5) (S:=fun w'=>w'.cell? ⟨gb361,0,none⟩=some (.int .i64 t357)∧w'.cell? ⟨gb361,1,none⟩=some (.slice Ao31 t358.length co31)∧w'.cell? ⟨gb346,0,none⟩=some (.int .i64 a0_0)∧w'.cell? ⟨gb346,1,none⟩=some (.slice A0_1 l0_1.length c0_1)) (ds:=[]) #[F,F,F,F,F] (by kernel_rfl) rfl rfl ⟨(zz9 BK361.out 0).trans rfl,(zz9 BK361.out 1).trans rfl,(zz9 BK346.out 0).trans rfl,(zz9 BK346.out 1).trans rfl⟩ (fun hHeld=>?_)
       generalize wc.drew=w56 at HO_9 HO_362001 BK346 BK361 HB hHeld ⊢
       refine take_ (i:=0) (N:=some 46) (v:=?_) (a':=?_) #[T,F,F,F,F] rfl rfl (by kernel_rfl) (fun _ _ _ h=>h) (Or.inl ⟨by rfl,?_⟩) hHeld ?_ ?_
       rotate_left
       ·rintro w' ⟨s0,s1,s2,s3⟩
        go_simp
        with_reducible rfl
       rotate_left
       ·simp only [Act.put,zz21,zz22,zz23,i64_w,i32_w]
        rfl
       refine take_ (i:=1) (N:=some 47) (v:=?_) (a':=?_) #[T,T,F,F,F] rfl rfl (by kernel_rfl) (fun _ _ _ h=>h) (Or.inl ⟨by rfl,?_⟩) hHeld ?_ ?_
       rotate_left
       ·rintro w' ⟨s0,s1,s2,s3⟩
        go_simp
        with_reducible rfl
       rotate_left
       ·simp only [Act.put,zz21,zz22,zz23,i64_w,i32_w]
        rfl
       refine one_ (i:=2) (N:=some 48) #[T,T,T,F,F] rfl rfl (by kernel_rfl) (by decide) (fun K hK=>?_)
       refine goes_ Try.func14 (by kernel_rfl) rfl #[.agg #[.int .i64 a0_0,.slice A0_1 l0_1.length c0_1]] (by rfl) rfl rfl (by (try simp only [zz26,zz27,zz28]);first | done | rfl | (simp only [zz24,zz25];rfl) | (simp only [zz25];congr;(try simp only [decide_eq_true_eq] at *);omega)) ?_
       with_reducible refine (laws_toParty.calls kj15 a0_0 _ _ l0_1 t367 t368 _ ?side1 ?side2 A38.out).mono ?_
       (case side1=>repeat (first | exact (Kd.C_below HR0_1.out HB.out) | (with_reducible refine zz18 ?_ _) | (with_reducible refine zz19 ?_ _) | (with_reducible refine zz20 ?_)))
       (case side2=>exact HC0_1.out)
       rintro e w57 ⟨v369,rfl,ho0,hb⟩
       refine ⟨_,rfl,?_⟩
       have n0_:=Aside0.mk (Kd.R_below (by (with_reducible repeat (first | apply zz12 | apply zz13 | apply zz14));exact HO_9.out) hb)
       have n1_:=Aside0.mk (Kd.R_elder' (by (with_reducible repeat (first | apply zz12 | apply zz13 | apply zz14));exact HO_362001.out) (Kd.R_base ho0) hb)
       have n2_:=Aside0.mk (Kd.R_lower (Kd.R_new' ho0 (Kd.R_lt (by (with_reducible repeat (first | apply zz12 | apply zz13 | apply zz14));exact HO_362001.out))) (zz5 (by repeat first | exact HB.out | apply zz2 | apply zz0 | apply zz1 | refine zz3 ?_ GE346.out | refine zz3 ?_ GE361.out)))
       have n3_:=Aside0.mk (zz11 (g:=gb346) (o:=.cells #[.int .i64 a0_0,.slice A0_1 l0_1.length c0_1] 24 (0,0)) (by (with_reducible repeat (first | refine zz6 ?_ _ | refine zz7 ?_ | refine zz8 ?_ _));exact BK346.out) hb)
       have n4_:=Aside0.mk (zz11 (g:=gb361) (o:=.cells #[.int .i64 t357,.slice Ao31 t358.length co31] 30 (0,0)) (by (with_reducible repeat (first | refine zz6 ?_ _ | refine zz7 ?_ | refine zz8 ?_ _));exact BK361.out) hb)
       have n5_:=Aside0.mk (zz4 (by repeat first | exact HB.out | apply zz2 | apply zz0 | apply zz1 | refine zz3 ?_ GE346.out | refine zz3 ?_ GE361.out) hb)
       clear HO_9
       clear HO_362001
       clear BK346
       clear BK361
       clear HB
       have HO_9:=n0_
       have HO_362001:=n1_
       have HO370:=n2_
       have BK346:=n3_
       have BK361:=n4_
       have HB:=n5_
       clear n0_ n1_ n2_ n3_ n4_ n5_
       (try clear hb)
       (try clear hb2)
       (try clear hk)
       (try clear hi)
       (try clear ho0)
       obtain ⟨Ao58,co58,eo58⟩:=Kd.R_slice HO370.out
       (first | subst eo58 | (injection eo58 with f1_ f2_ f3_;have f4_:=f1_.symm;have f5_:=f3_.symm;clear f1_ f2_ f3_;subst f4_;subst f5_))
       refine hK.out _ _ ⟨(zz9 BK361.out 0).trans rfl,(zz9 BK361.out 1).trans rfl,(zz9 BK346.out 0).trans rfl,(zz9 BK346.out 1).trans rfl⟩ (fun hHeld=>?_)
       clear hK K
       refine norm_ (a':=?_) ?_ ?_
       rotate_left
       ·show Act.put _ (some 48) _=_
        simp only [Act.put,zz21,zz22,zz23,i64_w,i32_w]
        rfl
       refine one_ (i:=3) (N:=some 49) #[T,T,T,T,F] rfl rfl (by kernel_rfl) (by decide) (fun K hK=>?_)
       refine goes_ Try.func16 (by kernel_rfl) rfl #[.agg #[.int .i64 t357,.slice Ao31 t358.length co31],.agg #[.int .i64 t367,.slice Ao58 t368.length co58]] (by rfl) rfl rfl (by (try simp only [zz26,zz27,zz28]);first | done | rfl | (simp only [zz24,zz25];rfl) | (simp only [zz25];congr;(try simp only [decide_eq_true_eq] at *);omega)) ?_
       with_reducible refine (laws_eqParty.calls kj15 t357 _ _ t358 t367 _ _ t368 false _ ?side1 ?side2 ?side3 ?side4 A39.out).mono ?_
       (case side1=>repeat (first | exact (Kd.R_reads' HO_362001.out).2.2 | (with_reducible refine zz18 ?_ _) | (with_reducible refine zz19 ?_ _) | (with_reducible refine zz20 ?_)))
       (case side2=>exact (Kd.R_reads' HO_362001.out).2.1)
       (case side3=>repeat (first | exact (Kd.R_reads' HO370.out).2.2 | (with_reducible refine zz18 ?_ _) | (with_reducible refine zz19 ?_ _) | (with_reducible refine zz20 ?_)))
       (case side4=>exact (Kd.R_reads' HO370.out).2.1)
       rintro e w59 ⟨rfl,hb⟩
       refine ⟨_,rfl,?_⟩
       have n0_:=Aside0.mk (Kd.R_below (by (with_reducible repeat (first | apply zz12 | apply zz13 | apply zz14));exact HO_9.out) hb)
       have n1_:=Aside0.mk (Kd.R_below (by (with_reducible repeat (first | apply zz12 | apply zz13 | apply zz14));exact HO_362001.out) hb)
       have n2_:=Aside0.mk (Kd.R_below (by (with_reducible repeat (first | apply zz12 | apply zz13 | apply zz14));exact HO370.out) hb)
       have n3_:=Aside0.mk (zz11 (g:=gb346) (o:=.cells #[.int .i64 a0_0,.slice A0_1 l0_1.length c0_1] 24 (0,0)) (by (with_reducible repeat (first | refine zz6 ?_ _ | refine zz7 ?_ | refine zz8 ?_ _));exact BK346.out) hb)
       have n4_:=Aside0.mk (zz11 (g:=gb361) (o:=.cells #[.int .i64 t357,.slice Ao31 t358.length co31] 30 (0,0)) (by (with_reducible repeat (first | refine zz6 ?_ _ | refine zz7 ?_ | refine zz8 ?_ _));exact BK361.out) hb)
       have n5_:=Aside0.mk (zz4 (by repeat first | exact HB.out | apply zz2 | apply zz0 | apply zz1 | refine zz3 ?_ GE346.out | refine zz3 ?_ GE361.out) hb)
       clear HO_9
       clear HO_362001
       clear HO370
       clear BK346
       clear BK361
       clear HB
       have HO_9:=n0_
       have HO_362001:=n1_
       have HO370:=n2_
       have BK346:=n3_
       have BK361:=n4_
       have HB:=n5_
       clear n0_ n1_ n2_ n3_ n4_ n5_
       (try clear hb)
       (try clear hb2)
       (try clear hk)
       (try clear hi)
       refine hK.out _ _ ⟨(zz9 BK361.out 0).trans rfl,(zz9 BK361.out 1).trans rfl,(zz9 BK346.out 0).trans rfl,(zz9 BK346.out 1).trans rfl⟩ (fun hHeld=>?_)
       clear hK K
       refine norm_ (a':=?_) ?_ ?_
       rotate_left
       ·show Act.put _ (some 49) _=_
        simp only [Act.put,zz21,zz22,zz23,i64_w,i32_w]
        rfl
       refine pure_ (i:=4) (N:=some 50) (v:=?_) (a':=?_) #[T,T,T,T,T] rfl rfl (by kernel_rfl) (fun _ _ _ h=>h) (Or.inl ⟨by rfl,?_⟩) ?_ ?_
       rotate_left
       ·intro w'
        go_simp
        with_reducible rfl
       rotate_left
       ·simp only [Act.put,zz21,zz22,zz23,i64_w,i32_w]
        rfl
       refine done_ (by kernel_rfl) ?_
       try go_wp2
       go_ret
       exact ⟨by first | rfl | (simp [errW_none,errW_some] <;> rfl) | (simp [*,errW_none,errW_some] <;> rfl),by repeat first | exact HB.out | apply zz2 | apply zz0 | apply zz1 | refine zz3 ?_ GE346.out | refine zz3 ?_ GE361.out⟩

end Go.Proofs.Ytialimbdkokdcaa.P
