-- PRINTED by print.py (a twelfth state) out of the translation. Not trusted: Lean checks it.
import Derived.Test.YtifkaefccghgdaaPx0
import Derived.Test.YtifkaefccghgdaaPx1
import Derived.Test.YtifkaefccghgdaaPx4
import Derived.Test.YtifkaefccghgdaaPx6
import Derived.Test.YtifkaefccghgdaaPx7
import Derived.Test.YtifkaefccghgdaaPx9
import Derived.Test.YtifkaefccghgdaaPx11
import Derived.Test.YtifkaefccghgdaaPx13
namespace Go.Proofs.Ytifkaefccghgdaa.P
open Go.RowKit Go.Proofs.YtifkaefccghgdaaW.PrintWords Go.Proofs.YtifkaefccghgdaaW.PrintLast Go.Proofs.YtifkaefccghgdaaW.PrintMore
attribute [local go_sem] max2_int min2_int max_two min_two max_three min_three max_four min_four   -- for this text's walks alone
set_option linter.unusedVariables false
set_option linter.unusedSimpArgs false

/-! ### spec_GroupsOfParty: function 27 -/
mutual
def spec_GroupsOfParty.l0:Nat→List Int→List (List Int)→List Int→Int→Int→Option ((List (List Int)) × Bool)
 | 0,_,_,_,_,_=>none
 | k+1,x4,x6,x21,x22,x23=>if x23 < x22 then (if 0≤x23 then (if x23 < (x21.length:Int) then (if x23≤(x4.length:Int) then ((spec_l1Has.f k (x4.take (x23:Int).toNat) (rd x21 x23)).bind fun t618=>(if t618=true then (spec_GroupsOfParty.l0 k x4 x6 x21 x22 (wrap64 (x23+1))) else (spec_GroupsOfParty.l1 k x4 x6 (rd x21 x23) ([]:List Int) x21 x22 x23 x4 (x4.length:Int) 0))) else (none)) else (none)) else (none)) else (some (x6,true))
def spec_GroupsOfParty.l1:Nat→List Int→List (List Int)→Int→List Int→List Int→Int→Int→List Int→Int→Int→Option ((List (List Int)) × Bool)
 | 0,_,_,_,_,_,_,_,_,_,_=>none
 | k+1,x4,x6,x8,x9,x21,x22,x23,x33,x34,x35=>if x35 < x34 then (if 0≤x35 then (if x35 < (x33.length:Int) then (if (rd x33 x35)=x8 then (if x9.length < 17592186044416 then (spec_GroupsOfParty.l1 k x4 x6 x8 (x9 ++ [x35]) x21 x22 x23 x33 x34 (wrap64 (x35+1))) else (none)) else (spec_GroupsOfParty.l1 k x4 x6 x8 x9 x21 x22 x23 x33 x34 (wrap64 (x35+1)))) else (none)) else (none)) else (if x6.length < 5864062014805 then (spec_GroupsOfParty.l0 k x4 (x6 ++ [x9]) x21 x22 (wrap64 (x23+1))) else (none))
end
def spec_GroupsOfParty.f (k:Nat) (a0_0:Int) (l0_1:List (S79)):Option ((List (List Int)) × Bool):=(spec_grFew.f k a0_0 l0_1).bind fun t604=>(if t604=true then ((spec_paOther.f k a0_0 l0_1).bind fun bt605=>((spec_grFewest.f k bt605.1 bt605.2).bind fun bt609=>(spec_GroupsOfParty.l0 k bt609.1 ([]:List (List Int)) bt609.1 (bt609.1.length:Int) 0))) else (some (([]:List (List Int)),false)))
theorem spec_GroupsOfParty.mono_l:∀ k,(∀ y0 y1 y2 y3 y4,LeO (spec_GroupsOfParty.l0 k y0 y1 y2 y3 y4) (spec_GroupsOfParty.l0 (k+1) y0 y1 y2 y3 y4))∧(∀ y0 y1 y2 y3 y4 y5 y6 y7 y8 y9,LeO (spec_GroupsOfParty.l1 k y0 y1 y2 y3 y4 y5 y6 y7 y8 y9) (spec_GroupsOfParty.l1 (k+1) y0 y1 y2 y3 y4 y5 y6 y7 y8 y9))
 | 0=>⟨fun _ _ _ _ _ r h=>by simp [spec_GroupsOfParty.l0] at h,fun _ _ _ _ _ _ _ _ _ _ r h=>by simp [spec_GroupsOfParty.l1] at h⟩
 | k+1=>by
  obtain ⟨ih0,ih1⟩:=spec_GroupsOfParty.mono_l k
  refine ⟨?_,?_⟩
  ·intro y0 y1 y2 y3 y4
   unfold spec_GroupsOfParty.l0
   repeat' first
   | (with_reducible exact ih0 _ _ _ _ _)
   | (with_reducible exact ih1 _ _ _ _ _ _ _ _ _ _)
   | (with_reducible exact spec_grFew.mono _ _ _)
   | (with_reducible exact spec_grFewest.mono _ _ _)
   | (with_reducible exact spec_l1Has.mono _ _ _)
   | (with_reducible exact spec_paOther.mono _ _ _)
   | (with_reducible exact LeO.refl _)
   | (with_reducible exact LeO.none _)
   | (with_reducible refine LeO.ite ?_ ?_)
   | (with_reducible refine LeO.bind ?_ (fun _=>?_))
   | exact ih0 _ _ _ _ _
   | exact ih1 _ _ _ _ _ _ _ _ _ _
   | exact spec_grFew.mono _ _ _
   | exact spec_grFewest.mono _ _ _
   | exact spec_l1Has.mono _ _ _
   | exact spec_paOther.mono _ _ _
   | exact LeO.none _
   | refine LeO.ite ?_ ?_
   | refine LeO.bind ?_ (fun _=>?_)
  ·intro y0 y1 y2 y3 y4 y5 y6 y7 y8 y9
   unfold spec_GroupsOfParty.l1
   repeat' first
   | (with_reducible exact ih0 _ _ _ _ _)
   | (with_reducible exact ih1 _ _ _ _ _ _ _ _ _ _)
   | (with_reducible exact spec_grFew.mono _ _ _)
   | (with_reducible exact spec_grFewest.mono _ _ _)
   | (with_reducible exact spec_l1Has.mono _ _ _)
   | (with_reducible exact spec_paOther.mono _ _ _)
   | (with_reducible exact LeO.refl _)
   | (with_reducible exact LeO.none _)
   | (with_reducible refine LeO.ite ?_ ?_)
   | (with_reducible refine LeO.bind ?_ (fun _=>?_))
   | exact ih0 _ _ _ _ _
   | exact ih1 _ _ _ _ _ _ _ _ _ _
   | exact spec_grFew.mono _ _ _
   | exact spec_grFewest.mono _ _ _
   | exact spec_l1Has.mono _ _ _
   | exact spec_paOther.mono _ _ _
   | exact LeO.none _
   | refine LeO.ite ?_ ?_
   | refine LeO.bind ?_ (fun _=>?_)
theorem spec_GroupsOfParty.mono:∀ a0 a1 k,LeO (spec_GroupsOfParty.f k a0 a1) (spec_GroupsOfParty.f (k+1) a0 a1):=by
 intro a0 a1 k
 obtain ⟨ih0,ih1⟩:=spec_GroupsOfParty.mono_l k
 unfold spec_GroupsOfParty.f
 repeat' first
   | (with_reducible exact ih0 _ _ _ _ _)
   | (with_reducible exact ih1 _ _ _ _ _ _ _ _ _ _)
   | (with_reducible exact spec_grFew.mono _ _ _)
   | (with_reducible exact spec_grFewest.mono _ _ _)
   | (with_reducible exact spec_l1Has.mono _ _ _)
   | (with_reducible exact spec_paOther.mono _ _ _)
   | (with_reducible exact LeO.refl _)
   | (with_reducible exact LeO.none _)
   | (with_reducible refine LeO.ite ?_ ?_)
   | (with_reducible refine LeO.bind ?_ (fun _=>?_))
   | exact ih0 _ _ _ _ _
   | exact ih1 _ _ _ _ _ _ _ _ _ _
   | exact spec_grFew.mono _ _ _
   | exact spec_grFewest.mono _ _ _
   | exact spec_l1Has.mono _ _ _
   | exact spec_paOther.mono _ _ _
   | exact LeO.none _
   | refine LeO.ite ?_ ?_
   | refine LeO.bind ?_ (fun _=>?_)
set_option maxHeartbeats 8000000 in
set_option maxRecDepth 100000 in
theorem spec_GroupsOfParty.calls (k:Nat) (a0_0:Int) (A0_1:Option Addr) (c0_1:Nat) (l0_1:List (S79)) (r1:List (List Int)) (r2:Bool) (w:World) (hr0_1:Kd.C k79 w A0_1 l0_1.length l0_1) (hc0_1:l0_1.length≤c0_1) (h:spec_GroupsOfParty.f k a0_0 l0_1=some (r1,r2)) :
  Calls Try.prog 27 #[.agg #[.int .i64 a0_0,.slice A0_1 l0_1.length c0_1]] w fun e w'=>∃ v0_:Value,e=.returned (.tuple #[v0_,.bool r2])∧Kd.S (Kd.slice 3 (Kd.int .i64)) 25 w' w.heap.size (fun _=>True) v0_ r1∧Below w.heap.size w w':=by
 have hu31:=Try.underlying31
 have HR0_1:=zz31 hr0_1
 have HC0_1:=zz31 hc0_1
 clear hr0_1 hc0_1
 have HB:=zz31 (Below.refl w.heap.size w)
 have H:((spec_grFew.f k a0_0 l0_1).bind fun t604=>(if t604=true then ((spec_paOther.f k a0_0 l0_1).bind fun bt605=>((spec_grFewest.f k bt605.1 bt605.2).bind fun bt609=>(spec_GroupsOfParty.l0 k bt609.1 ([]:List (List Int)) bt609.1 (bt609.1.length:Int) 0))) else (some (([]:List (List Int)),false))))=some (r1,r2):=h
 clear h
 replace H:=zz30.mp H
 obtain ⟨t604,A20,H⟩:=H
 replace H:(if t604=true then ((spec_paOther.f k a0_0 l0_1).bind fun bt605=>((spec_grFewest.f k bt605.1 bt605.2).bind fun bt609=>(spec_GroupsOfParty.l0 k bt609.1 ([]:List (List Int)) bt609.1 (bt609.1.length:Int) 0))) else (some (([]:List (List Int)),false)))=some (r1,r2):=H
 have A2:=zz31 A20
 clear A20
 by_cases c3:t604=true
 ·subst c3
  have H1:((spec_paOther.f k a0_0 l0_1).bind fun bt605=>((spec_grFewest.f k bt605.1 bt605.2).bind fun bt609=>(spec_GroupsOfParty.l0 k bt609.1 ([]:List (List Int)) bt609.1 (bt609.1.length:Int) 0)))=some (r1,r2):=by rw [if_pos rfl] at H;exact H
  clear H
  have H:=H1
  clear H1
  replace H:=zz30.mp H
  obtain ⟨⟨t605,t606⟩,A40,H⟩:=H
  replace H:((spec_grFewest.f k t605 t606).bind fun bt609=>(spec_GroupsOfParty.l0 k bt609.1 ([]:List (List Int)) bt609.1 (bt609.1.length:Int) 0))=some (r1,r2):=H
  have A4:=zz31 A40
  clear A40
  replace H:=zz30.mp H
  obtain ⟨⟨t609,t612⟩,A50,H⟩:=H
  replace H:(spec_GroupsOfParty.l0 k t609 ([]:List (List Int)) t609 (t609.length:Int) 0)=some (r1,r2):=H
  have A5:=zz31 A50
  clear A50
  have H':=zz31 H
  clear H
  go_enter Try.func27,Try.ntmps27
  go_wp2_with (first | ((with_reducible refine gate_dst (N:=1) rfl ?_);refine box_event ?hg (N:=1) ?hd (cs:=#[.int .i64 a0_0,.slice A0_1 l0_1.length c0_1]) (t:=31) ?hr ?_;(case hd=>rfl);(case hg=>rfl);(case hr=>first | (go_simp;done) | (go_simp;rfl));intro gb603 hg w6 hbox hb;have n0_:=zz31 (zz4 (by repeat first | exact HB.out | apply zz2 | apply zz0 | apply zz1) hb);have n1_:=zz31 (hbox);have n2_:=zz31 ((by rw [hg];exact (zz5 (by repeat first | exact HB.out | apply zz2 | apply zz0 | apply zz1)):w.heap.size≤gb603));have n3_:=zz31 ((by rw [hg];exact (zz5 (by repeat first | exact HB.out | apply zz2 | apply zz0 | apply zz1)):w.heap.size≤gb603));clear HB;have HB:=n0_;have BK603:=n1_;have GW603:=n2_;have GE603:=n3_;clear n0_ n1_ n2_ n3_;clear hb hbox hg;have hcz7_0:w6.cell? ⟨gb603,0,none⟩=some (.int .i64 a0_0):=(zz9 BK603.out 0).trans rfl;have hcz7_1:w6.cell? ⟨gb603,1,none⟩=some (.slice A0_1 l0_1.length c0_1):=(zz9 BK603.out 1).trans rfl;have hfz7_0:=zz10 BK603.out 0;have hfz7_1:=zz10 BK603.out 1) | ((with_reducible refine gate_callee (f:=48) rfl ?_);refine goesL_ (some 13) rfl rfl Try.func48 (by kernel_rfl) rfl #[.agg #[.int .i64 a0_0,.slice A0_1 l0_1.length c0_1]] rfl (by (try simp only [zz26,zz27,zz28]);first | done | rfl | (simp only [zz24,zz25];rfl)) ?_;(with_reducible refine (spec_grFew.calls k a0_0 _ _ l0_1 true _ ?side1 ?side2 A2.out).mono ?_);(case side1=>repeat (first | exact (Kd.C_below HR0_1.out HB.out) | (with_reducible refine zz18 ?_ _) | (with_reducible refine zz19 ?_ _) | (with_reducible refine zz20 ?_)));(case side2=>exact HC0_1.out);rintro e w8 ⟨rfl,hb⟩;refine ⟨_,rfl,?_⟩;have n0_:=zz31 (zz11 (g:=gb603) (o:=.cells #[.int .i64 a0_0,.slice A0_1 l0_1.length c0_1] 31 (0,0)) (by (with_reducible repeat (first | refine zz6 ?_ _ | refine zz7 ?_ | refine zz8 ?_ _));exact BK603.out) hb);have n1_:=zz31 (zz4 (by repeat first | exact HB.out | apply zz2 | apply zz0 | apply zz1 | refine zz3 ?_ GE603.out) hb);clear BK603;clear HB;have BK603:=n0_;have HB:=n1_;clear n0_ n1_;(try clear hb);(try clear hb2);(try clear hk);(try clear hi);have hcz9_0:w8.cell? ⟨gb603,0,none⟩=some (.int .i64 a0_0):=(zz9 BK603.out 0).trans rfl;have hcz9_1:w8.cell? ⟨gb603,1,none⟩=some (.slice A0_1 l0_1.length c0_1):=(zz9 BK603.out 1).trans rfl;have hfz9_0:=zz10 BK603.out 0;have hfz9_1:=zz10 BK603.out 1) | ((with_reducible refine gate_callee (f:=57) rfl ?_);refine goesL_ (some 17) rfl rfl Try.func57 (by kernel_rfl) rfl #[.agg #[.int .i64 a0_0,.slice A0_1 l0_1.length c0_1]] rfl (by (try simp only [zz26,zz27,zz28]);first | done | rfl | (simp only [zz24,zz25];rfl)) ?_;(with_reducible refine (spec_paOther.calls k a0_0 _ _ l0_1 t605 t606 _ ?side1 ?side2 A4.out).mono ?_);(case side1=>repeat (first | exact (Kd.C_below HR0_1.out HB.out) | (with_reducible refine zz18 ?_ _) | (with_reducible refine zz19 ?_ _) | (with_reducible refine zz20 ?_)));(case side2=>exact HC0_1.out);rintro e w10 ⟨v607,rfl,ho0,hb⟩;refine ⟨_,rfl,?_⟩;have n0_:=zz31 (Kd.R_lower ho0 (zz5 (by repeat first | exact HB.out | apply zz2 | apply zz0 | apply zz1 | refine zz3 ?_ GE603.out)));have n1_:=zz31 (zz11 (g:=gb603) (o:=.cells #[.int .i64 a0_0,.slice A0_1 l0_1.length c0_1] 31 (0,0)) (by (with_reducible repeat (first | refine zz6 ?_ _ | refine zz7 ?_ | refine zz8 ?_ _));exact BK603.out) hb);have n2_:=zz31 (zz4 (by repeat first | exact HB.out | apply zz2 | apply zz0 | apply zz1 | refine zz3 ?_ GE603.out) hb);clear BK603;clear HB;have HO608:=n0_;have BK603:=n1_;have HB:=n2_;clear n0_ n1_ n2_;(try clear hb);(try clear hb2);(try clear hk);(try clear hi);(try clear ho0);obtain ⟨Ao11,co11,eo11⟩:=Kd.R_slice HO608.out;subst eo11) | ((with_reducible refine gate_callee (f:=55) rfl ?_);refine goesL_ (some 18) rfl rfl Try.func55 (by kernel_rfl) rfl #[.agg #[.int .i64 t605,.slice Ao11 t606.length co11]] rfl (by (try simp only [zz26,zz27,zz28]);first | done | rfl | (simp only [zz24,zz25];rfl)) ?_;(with_reducible refine (spec_grFewest.calls k t605 _ _ t606 t609 t612 _ ?side1 ?side2 A5.out).mono ?_);(case side1=>repeat (first | exact (Kd.R_reads' HO608.out).2.2 | (with_reducible refine zz18 ?_ _) | (with_reducible refine zz19 ?_ _) | (with_reducible refine zz20 ?_)));(case side2=>exact (Kd.R_reads' HO608.out).2.1);rintro e w12 ⟨v610,rfl,ho0,hb⟩;refine ⟨_,rfl,?_⟩;have n0_:=zz31 (Kd.R_below (by (with_reducible repeat (first | apply zz12 | apply zz13 | apply zz14));exact HO608.out) hb);have n1_:=zz31 (Kd.R_lower ho0 (zz5 (by repeat first | exact HB.out | apply zz2 | apply zz0 | apply zz1 | refine zz3 ?_ GE603.out)));have n2_:=zz31 (zz11 (g:=gb603) (o:=.cells #[.int .i64 a0_0,.slice A0_1 l0_1.length c0_1] 31 (0,0)) (by (with_reducible repeat (first | refine zz6 ?_ _ | refine zz7 ?_ | refine zz8 ?_ _));exact BK603.out) hb);have n3_:=zz31 (zz4 (by repeat first | exact HB.out | apply zz2 | apply zz0 | apply zz1 | refine zz3 ?_ GE603.out) hb);clear HO608;clear BK603;clear HB;have HO608:=n0_;have HO611:=n1_;have BK603:=n2_;have HB:=n3_;clear n0_ n1_ n2_ n3_;(try clear hb);(try clear hb2);(try clear hk);(try clear hi);(try clear ho0);obtain ⟨Ao13,co13,eo13⟩:=Kd.R_slice HO611.out;subst eo13))
  go_loopg [6,23] k (fun kq v6 v23 w'=>∃ (x6_1:List (List Int)) (x23_1:Int),v23=.int .i64 x23_1∧Aside0 (spec_GroupsOfParty.l0 kq t609 x6_1 t609 (t609.length:Int) x23_1=some (r1,r2))∧Aside0 (kq≤k)∧Aside0 (Kd.R (Kd.int .i64) 3 w' w.heap.size (fun _=>True) (.slice Ao13 t609.length co13) t609)∧Aside0 (Kd.S (Kd.slice 3 (Kd.int .i64)) 25 w' w.heap.size (fun k_=>some k_ ≠ ((.slice Ao13 t609.length co13):Value).ownBlock∧some k_ ≠ ((.slice Ao13 t609.length co13):Value).ownBlock) v6 x6_1)∧Aside0 (Kd.R (Kd.int .i64) 3 w' w.heap.size (fun _=>True) (.slice Ao13 t609.length co13) t609)∧Aside0 (w'.heap[gb603]?=some (.cells #[.int .i64 a0_0,(.slice A0_1 l0_1.length c0_1)] 31 (0,0)))∧Aside0 (Below w.heap.size w w'))
  case atStart=>exact ⟨(([]:List (List Int))),(0),(by first | rfl | (simp;done) | (simp [*];done)),H',⟨Nat.le_refl _⟩,⟨by (with_reducible repeat (first | apply zz12 | apply zz13 | apply zz14));exact HO611.out⟩,⟨by first | exact Kd.S_nil _ _ _ _ _ | exact Kd.N_nil _ _ _ _ _ | exact Kd.V_nil _ _ _ _ _ | exact Kd.Q_nil _ _ _ _ _ | exact Kd.R_nil _ _ _ _ _⟩,⟨by (with_reducible repeat (first | apply zz12 | apply zz13 | apply zz14));exact HO611.out⟩,⟨by (with_reducible repeat (first | refine zz6 ?_ _ | refine zz7 ?_ | refine zz8 ?_ _));exact BK603.out⟩,⟨by repeat first | exact HB.out | apply zz2 | apply zz0 | apply zz1 | refine zz3 ?_ GE603.out⟩⟩
  case round =>
   clear H'
   try clear c2
   try clear p2
   try clear c3
   try clear c4
   try clear c5
   try clear hcz7_0
   try clear hcz7_1
   try clear hcz9_0
   try clear hcz9_1
   try clear hfz7_0
   try clear hfz7_1
   try clear hfz9_0
   try clear hfz9_1
   obtain ⟨x6_1,x23_1,rfl,HA,HK1,HO_4,HO_6,HO_21,BK603,HB⟩:=hrel
   cases gk with
   | zero=>exact absurd HA.out (by simp [spec_GroupsOfParty.l0])
   | succ k1 =>
    have H:=HA.out
    clear HA
    simp only [spec_GroupsOfParty.l0] at H
    by_cases c14:x23_1 < (t609.length:Int)
    ·rw [if_pos c14] at H
     have c14b0:decide (x23_1 < (t609.length:Int))=true:=decide_eq_true c14
     clear c14
     by_cases c15:0≤x23_1
     ·rw [if_pos c15] at H
      have c15b0:decide (0≤x23_1)=true:=decide_eq_true c15
      clear c15
      by_cases c16:x23_1 < (t609.length:Int)
      ·rw [if_pos c16] at H
       have c16b0:decide (x23_1 < (t609.length:Int))=true:=decide_eq_true c16
       clear c16
       have c17b0:=eq_true (zz29 (by first | (with_reducible assumption) | assumption):0≤x23_1)
       by_cases c18:x23_1≤(t609.length:Int)
       ·rw [if_pos c18] at H
        have c18b0:=eq_true c18
        have c18b1:decide (x23_1≤(t609.length:Int))=true:=decide_eq_true c18
        clear c18
        obtain ⟨y614,hy614⟩:∃ y_:List Int,y_=(t609.take (x23_1:Int).toNat):=⟨_,rfl⟩
        replace H:((spec_l1Has.f k1 y614 (rd t609 x23_1)).bind fun t618=>(if t618=true then (spec_GroupsOfParty.l0 k1 t609 x6_1 t609 (t609.length:Int) (wrap64 (x23_1+1))) else (spec_GroupsOfParty.l1 k1 t609 x6_1 (rd t609 x23_1) ([]:List Int) t609 (t609.length:Int) x23_1 t609 (t609.length:Int) 0)))=some (r1,r2):=by first | (rw [hy614];with_reducible exact H) | (have H2_:=(Option.bind_some _ _).symm.trans H;rw [hy614];with_reducible exact H2_) | (have H2_:=(Option.bind_some _ _).symm.trans H;with_reducible exact H2_) | with_reducible exact H | (rw [hy614];exact H) | exact H
        have Ny614:=zz31 hy614
        clear hy614
        replace H:=zz30.mp H
        obtain ⟨t618,A190,H⟩:=H
        replace H:(if t618=true then (spec_GroupsOfParty.l0 k1 t609 x6_1 t609 (t609.length:Int) (wrap64 (x23_1+1))) else (spec_GroupsOfParty.l1 k1 t609 x6_1 (rd t609 x23_1) ([]:List Int) t609 (t609.length:Int) x23_1 t609 (t609.length:Int) 0))=some (r1,r2):=H
        have A19:=zz31 A190
        clear A190
        by_cases c20:t618=true
        ·subst c20
         have H1:(spec_GroupsOfParty.l0 k1 t609 x6_1 t609 (t609.length:Int) (wrap64 (x23_1+1)))=some (r1,r2):=by rw [if_pos rfl] at H;exact H
         clear H
         have H:=H1
         clear H1
         have H':=zz31 H
         clear H
         have p613:0≤(x23_1:Int):=zz29 (by first | (with_reducible assumption) | assumption)
         have q613:x23_1 < (t609.length:Int):=zz29 (by first | (with_reducible assumption) | assumption)
         obtain ⟨ad613,e613,hx613_0⟩:=Kd.at_int (Kd.R_reads' HO_21.out).2.2 x23_1 p613 q613
         cases e613
         replace p613:=eq_true p613
         replace q613:=eq_true q613
         have q21:(x23_1:Int)≤((t609.length:Int):Int):=zz29 (by first | (with_reducible assumption) | assumption)
         obtain ⟨i021,hi021,_,hsz21,_⟩:=info_parts info3
         have hroom21:t609.length≤co13:=(Kd.R_reads' HO_4.out).2.1
         have hC21:Kd.C (Kd.int .i64) _ (some ad613) t609.length t609:=(Kd.R_reads' HO_4.out).2.2
         have hcut21:=cut_to (P:=Try.prog) 25 3 .i64 Try.underlying25 hi021 (some ad613) t609.length co13 x23_1 (zz29 (by first | (with_reducible assumption) | assumption)) q21 hroom21
         have hr21:=Kd.C_take (m:=(x23_1:Int).toNat) hC21 (by omega)
         have hy21:y614.length=(x23_1:Int).toNat:=(by rw [Ny614.out,zz25];omega)
         rw [← Ny614.out] at hr21
         rw [← hy21] at hcut21
         have HR617:=zz31 hr21
         have HC617:=zz31 (show y614.length≤co13 from by omega)
         clear hr21 hC21 hroom21 hi021 hsz21
         have KY21:=zz31 hy21
         clear hy21
         have KL21:=zz31 (show (x23_1:Int).toNat≤t609.length from by omega)
         replace q21:=eq_true q21
         go_wp2_with (first | ((with_reducible refine gate_callee (f:=36) rfl ?_);refine goesL_ (some 32) rfl rfl Try.func36 (by kernel_rfl) rfl #[.slice (some ad613) y614.length co13,.int .i64 (rd t609 x23_1)] rfl (by (try simp only [zz26,zz27,zz28]);first | done | rfl | (simp only [zz24,zz25];rfl)) ?_;(with_reducible refine (spec_l1Has.calls k1 _ _ y614 (rd t609 x23_1) true _ ?side1 ?side2 A19.out).mono ?_);(case side1=>repeat (first | exact (by repeat (first | (with_reducible exact HR617.out) | (with_reducible refine zz18 ?_ _) | (with_reducible refine zz19 ?_ _) | (with_reducible refine zz20 ?_) | exact HR617.out)) | (with_reducible refine zz18 ?_ _) | (with_reducible refine zz19 ?_ _) | (with_reducible refine zz20 ?_)));(case side2=>exact HC617.out);rintro e w' ⟨rfl,⟨nd,rfl⟩⟩;refine ⟨_,rfl,?_⟩))
         go_roundg k1
         case measure=>have:=HK1.out;omega
         case rel=>exact ⟨(x6_1),(wrap64 (x23_1+1)),(by first | rfl | (simp;done) | (simp [*];done)),H',⟨by have:=HK1.out;omega⟩,⟨by (with_reducible repeat (first | apply zz12 | apply zz13 | apply zz14));exact HO_4.out⟩,⟨by (with_reducible repeat (first | apply zz15 | apply zz16 | apply zz17));exact HO_6.out⟩,⟨by (with_reducible repeat (first | apply zz12 | apply zz13 | apply zz14));exact HO_21.out⟩,⟨by (with_reducible repeat (first | refine zz6 ?_ _ | refine zz7 ?_ | refine zz8 ?_ _));exact BK603.out⟩,⟨by repeat first | exact HB.out | apply zz2 | apply zz0 | apply zz1 | refine zz3 ?_ GE603.out⟩⟩
        ·replace c20:=Bool.eq_false_iff.mpr c20
         subst c20
         have H1:(spec_GroupsOfParty.l1 k1 t609 x6_1 (rd t609 x23_1) ([]:List Int) t609 (t609.length:Int) x23_1 t609 (t609.length:Int) 0)=some (r1,r2):=by rw [if_neg (show ¬ (false=true) by decide)] at H;exact H
         clear H
         have H:=H1
         clear H1
         have H':=zz31 H
         clear H
         have p613:0≤(x23_1:Int):=zz29 (by first | (with_reducible assumption) | assumption)
         have q613:x23_1 < (t609.length:Int):=zz29 (by first | (with_reducible assumption) | assumption)
         obtain ⟨ad613,e613,hx613_0⟩:=Kd.at_int (Kd.R_reads' HO_21.out).2.2 x23_1 p613 q613
         cases e613
         replace p613:=eq_true p613
         replace q613:=eq_true q613
         have q22:(x23_1:Int)≤((t609.length:Int):Int):=zz29 (by first | (with_reducible assumption) | assumption)
         obtain ⟨i022,hi022,_,hsz22,_⟩:=info_parts info3
         have hroom22:t609.length≤co13:=(Kd.R_reads' HO_4.out).2.1
         have hC22:Kd.C (Kd.int .i64) _ (some ad613) t609.length t609:=(Kd.R_reads' HO_4.out).2.2
         have hcut22:=cut_to (P:=Try.prog) 25 3 .i64 Try.underlying25 hi022 (some ad613) t609.length co13 x23_1 (zz29 (by first | (with_reducible assumption) | assumption)) q22 hroom22
         have hr22:=Kd.C_take (m:=(x23_1:Int).toNat) hC22 (by omega)
         have hy22:y614.length=(x23_1:Int).toNat:=(by rw [Ny614.out,zz25];omega)
         rw [← Ny614.out] at hr22
         rw [← hy22] at hcut22
         have HR617:=zz31 hr22
         have HC617:=zz31 (show y614.length≤co13 from by omega)
         clear hr22 hC22 hroom22 hi022 hsz22
         have KY22:=zz31 hy22
         clear hy22
         have KL22:=zz31 (show (x23_1:Int).toNat≤t609.length from by omega)
         replace q22:=eq_true q22
         go_wp2_with (first | ((with_reducible refine gate_callee (f:=36) rfl ?_);refine goesL_ (some 32) rfl rfl Try.func36 (by kernel_rfl) rfl #[.slice (some ad613) y614.length co13,.int .i64 (rd t609 x23_1)] rfl (by (try simp only [zz26,zz27,zz28]);first | done | rfl | (simp only [zz24,zz25];rfl)) ?_;(with_reducible refine (spec_l1Has.calls k1 _ _ y614 (rd t609 x23_1) false _ ?side1 ?side2 A19.out).mono ?_);(case side1=>repeat (first | exact (by repeat (first | (with_reducible exact HR617.out) | (with_reducible refine zz18 ?_ _) | (with_reducible refine zz19 ?_ _) | (with_reducible refine zz20 ?_) | exact HR617.out)) | (with_reducible refine zz18 ?_ _) | (with_reducible refine zz19 ?_ _) | (with_reducible refine zz20 ?_)));(case side2=>exact HC617.out);rintro e w' ⟨rfl,⟨nd,rfl⟩⟩;refine ⟨_,rfl,?_⟩))
         go_loopg [9,35] k1 (fun kq v9 v35 w'=>∃ (x9_2:List Int) (x35_2:Int),v35=.int .i64 x35_2∧Aside0 (spec_GroupsOfParty.l1 kq t609 x6_1 (rd t609 x23_1) x9_2 t609 (t609.length:Int) x23_1 t609 (t609.length:Int) x35_2=some (r1,r2))∧Aside0 (kq≤k1)∧Aside0 (Kd.R (Kd.int .i64) 3 w' w.heap.size (fun k_=>some k_ ≠ (v9:Value).ownBlock) (.slice (some ad613) t609.length co13) t609)∧Aside0 (Kd.S (Kd.slice 3 (Kd.int .i64)) 25 w' w.heap.size (fun k_=>some k_ ≠ ((.slice (some ad613) t609.length co13):Value).ownBlock∧some k_ ≠ (v9:Value).ownBlock∧some k_ ≠ ((.slice (some ad613) t609.length co13):Value).ownBlock∧some k_ ≠ ((.slice (some ad613) t609.length co13):Value).ownBlock) u6 x6_1)∧Aside0 (Kd.R (Kd.int .i64) 3 w' w.heap.size (fun k_=>some k_ ≠ ((.slice (some ad613) t609.length co13):Value).ownBlock∧some k_ ≠ ((.slice (some ad613) t609.length co13):Value).ownBlock∧some k_ ≠ ((.slice (some ad613) t609.length co13):Value).ownBlock) v9 x9_2)∧Aside0 (Kd.R (Kd.int .i64) 3 w' w.heap.size (fun k_=>some k_ ≠ (v9:Value).ownBlock) (.slice (some ad613) t609.length co13) t609)∧Aside0 (Kd.R (Kd.int .i64) 3 w' w.heap.size (fun k_=>some k_ ≠ (v9:Value).ownBlock) (.slice (some ad613) t609.length co13) t609)∧Aside0 (w'.heap[gb603]?=some (.cells #[.int .i64 a0_0,(.slice A0_1 l0_1.length c0_1)] 31 (0,0)))∧Aside0 (Kd.C (Kd.int .i64) w' (some ad613) y614.length y614)∧Aside0 (Below w.heap.size w w'))
         case atStart=>exact ⟨(([]:List Int)),(0),(by first | rfl | (simp;done) | (simp [*];done)),H',⟨Nat.le_refl _⟩,⟨by (with_reducible repeat (first | apply zz12 | apply zz13 | apply zz14));exact Kd.R_mono HO_4.out (fun _ hk=>(by simp [Value.ownBlock]))⟩,⟨by (with_reducible repeat (first | apply zz15 | apply zz16 | apply zz17));exact Kd.S_mono HO_6.out (fun _ hk=>⟨hk.1,⟨(by simp [Value.ownBlock]),⟨hk.2,hk.1⟩⟩⟩)⟩,⟨by first | exact Kd.R_nil _ _ _ _ _ | exact Kd.N_nil _ _ _ _ _ | exact Kd.V_nil _ _ _ _ _ | exact Kd.Q_nil _ _ _ _ _ | exact Kd.S_nil _ _ _ _ _⟩,⟨by (with_reducible repeat (first | apply zz12 | apply zz13 | apply zz14));exact Kd.R_mono HO_21.out (fun _ hk=>(by simp [Value.ownBlock]))⟩,⟨by (with_reducible repeat (first | apply zz12 | apply zz13 | apply zz14));exact Kd.R_mono HO_4.out (fun _ hk=>(by simp [Value.ownBlock]))⟩,⟨by (with_reducible repeat (first | refine zz6 ?_ _ | refine zz7 ?_ | refine zz8 ?_ _));exact BK603.out⟩,⟨by repeat (first | (with_reducible exact HR617.out) | (with_reducible refine zz18 ?_ _) | (with_reducible refine zz19 ?_ _) | (with_reducible refine zz20 ?_) | exact HR617.out)⟩,⟨by repeat first | exact HB.out | apply zz2 | apply zz0 | apply zz1 | refine zz3 ?_ GE603.out⟩⟩
         case round =>
          clear H'
          try clear c1
          try clear c2
          try clear p2
          try clear q2
          try clear c3
          try clear c4
          try clear c5
          try clear p6
          try clear q6
          try clear hx6
          try clear c14
          try clear c14b0
          try clear c15
          try clear c15b0
          try clear c16
          try clear c16b0
          try clear c17
          try clear c17b0
          try clear c18
          try clear c18b0
          try clear c18b1
          try clear c20
          try clear q21
          try clear q22
          try clear hcz7_0
          try clear hcz7_1
          try clear hcz9_0
          try clear hcz9_1
          try clear hfz7_0
          try clear hfz7_1
          try clear hfz9_0
          try clear hfz9_1
          try clear hx613_0
          try clear p2
          try clear p613
          try clear q21
          try clear q22
          try clear q613
          obtain ⟨x9_2,x35_2,rfl,HA,HK2,HO_4,HO_6,HO_9,HO_21,HO_33,BK603,HR617,HB⟩:=hrel
          cases gk with
          | zero=>exact absurd HA.out (by simp [spec_GroupsOfParty.l1])
          | succ k2 =>
           have H:=HA.out
           clear HA
           simp only [spec_GroupsOfParty.l1] at H
           by_cases c23:x35_2 < (t609.length:Int)
           ·rw [if_pos c23] at H
            have c23b0:decide (x35_2 < (t609.length:Int))=true:=decide_eq_true c23
            clear c23
            by_cases c24:0≤x35_2
            ·rw [if_pos c24] at H
             have c24b0:decide (0≤x35_2)=true:=decide_eq_true c24
             clear c24
             by_cases c25:x35_2 < (t609.length:Int)
             ·rw [if_pos c25] at H
              have c25b0:decide (x35_2 < (t609.length:Int))=true:=decide_eq_true c25
              clear c25
              by_cases c26:(rd t609 x35_2)=(rd t609 x23_1)
              ·rw [if_pos c26] at H
               have c26b0:((rd t609 x35_2) == (rd t609 x23_1))=true:=beq_iff_eq.mpr c26
               have c26b1:((rd t609 x35_2) != (rd t609 x23_1))=false:=bne_eq_false_iff_eq.mpr c26
               clear c26
               by_cases c27:x9_2.length < 17592186044416
               ·rw [if_pos c27] at H
                have LMc27:=zz31 c27
                clear c27
                obtain ⟨y620,hy620⟩:∃ y_:List Int,y_=(x9_2 ++ [x35_2]):=⟨_,rfl⟩
                replace H:(spec_GroupsOfParty.l1 k2 t609 x6_1 (rd t609 x23_1) y620 t609 (t609.length:Int) x23_1 t609 (t609.length:Int) (wrap64 (x35_2+1)))=some (r1,r2):=by first | (rw [hy620];with_reducible exact H) | (have H2_:=(Option.bind_some _ _).symm.trans H;rw [hy620];with_reducible exact H2_) | (have H2_:=(Option.bind_some _ _).symm.trans H;with_reducible exact H2_) | with_reducible exact H | (rw [hy620];exact H) | exact H
                have Ny620:=zz31 hy620
                clear hy620
                have H':=zz31 H
                clear H
                have p619:0≤(x35_2:Int):=zz29 (by first | (with_reducible assumption) | assumption)
                have q619:x35_2 < (t609.length:Int):=zz29 (by first | (with_reducible assumption) | assumption)
                obtain ⟨ad619,e619,hx619_0⟩:=Kd.at_int (Kd.R_reads' HO_33.out).2.2 x35_2 p619 q619
                obtain rfl:ad613=ad619:=(by injection e619)
                replace p619:=eq_true p619
                replace q619:=eq_true q619
                go_wp2_with (first | ((with_reducible refine gate_builtin (b:=.append) (xs:=#[.tmp 43,.tmp 45]) rfl ?_);at_builtin;refine Kd.R_append (Kd.int .i64) (w0:=w) w.heap.size rfl (.tmp 43) (.tmp 45) 25 3 (.int .i64 0) 8 rfl Try.underlying25 info3 rfl (by decide) (by omega) u9 x9_2 x35_2 [.int .i64 x35_2] (fun k_=>some k_ ≠ (.slice (some ad613) t609.length co13:Value).ownBlock∧some k_ ≠ (.slice (some ad613) t609.length co13:Value).ownBlock∧some k_ ≠ (.slice (some ad613) t609.length co13:Value).ownBlock) (fun _=>False) rfl rfl ?aP (fun _ hk=>hk.elim) ?aF ?aO ?aB ?aS ?aL ?_;(case aP=>exact rfl);(case aB=>exact (by repeat first | exact HB.out | apply zz2 | apply zz0 | apply zz1 | refine zz3 ?_ GE603.out));(case aF=>exact (fun k_ hk=>⟨Kd.fresh' (Kd.R_lt (by (with_reducible repeat (first | apply zz12 | apply zz13 | apply zz14));exact HO_4.out)) k_ hk,Kd.fresh' (Kd.R_lt (by (with_reducible repeat (first | apply zz12 | apply zz13 | apply zz14));exact HO_21.out)) k_ hk,Kd.fresh' (Kd.R_lt (by (with_reducible repeat (first | apply zz12 | apply zz13 | apply zz14));exact HO_33.out)) k_ hk⟩));(case aO=>exact (by (with_reducible repeat (first | apply zz12 | apply zz13 | apply zz14));exact HO_9.out));(case aS=>exact (zz5 (by repeat first | exact HB.out | apply zz2 | apply zz0 | apply zz1 | refine zz3 ?_ GE603.out)));(case aL=>have:=LMc27.out;omega);intro v621 w28 ho hb hg hat;rw [← Ny620.out] at ho;have n0_:=zz31 (Kd.R_after (ok:=(fun _=>True)) (by (with_reducible repeat (first | apply zz12 | apply zz13 | apply zz14));exact Kd.R_mono HO_4.out (fun _ hk=>⟨trivial,hk⟩)) hg hat);have n1_:=zz31 (Kd.S_after (ok:=(fun k_=>some k_ ≠ (.slice (some ad613) t609.length co13:Value).ownBlock∧some k_ ≠ (.slice (some ad613) t609.length co13:Value).ownBlock∧some k_ ≠ (.slice (some ad613) t609.length co13:Value).ownBlock)) (by (with_reducible repeat (first | apply zz15 | apply zz16 | apply zz17));exact Kd.S_mono HO_6.out (fun _ hk=>⟨⟨hk.1,⟨hk.2.2.1,hk.2.2.2⟩⟩,hk.2.1⟩)) hg hat);have n2_:=zz31 (Kd.R_after (ok:=(fun _=>True)) (by (with_reducible repeat (first | apply zz12 | apply zz13 | apply zz14));exact Kd.R_mono HO_21.out (fun _ hk=>⟨trivial,hk⟩)) hg hat);have n3_:=zz31 (Kd.R_after (ok:=(fun _=>True)) (by (with_reducible repeat (first | apply zz12 | apply zz13 | apply zz14));exact Kd.R_mono HO_33.out (fun _ hk=>⟨trivial,hk⟩)) hg hat);have n4_:=zz31 (blk_grown (g:=gb603) (o:=.cells #[.int .i64 a0_0,.slice A0_1 l0_1.length c0_1] 31 (0,0)) (by (with_reducible repeat (first | refine zz6 ?_ _ | refine zz7 ?_ | refine zz8 ?_ _));exact BK603.out) hg (Kd.R_ne HO_9.out BK603.out (by decide)));have n5_:=zz31 (hb);have n6_:=zz31 ((show Kd.C (Kd.int .i64) w28 (some ad613) y614.length y614 from by rw [Ny614.out];exact Kd.C_take (m:=(x23_1:Int).toNat) ((Kd.R_reads' (Kd.R_after (ok:=(fun _=>True)) (by (with_reducible repeat (first | apply zz12 | apply zz13 | apply zz14));exact Kd.R_mono HO_4.out (fun _ hk=>⟨trivial,hk⟩)) hg hat)).2.2) KL22.out));have n7_:=zz31 (ho);clear HO_4;clear HO_6;clear HO_21;clear HO_33;clear BK603;clear HB;clear HR617;clear HO_9;have HO_4:=n0_;have HO_6:=n1_;have HO_21:=n2_;have HO_33:=n3_;have BK603:=n4_;have HB:=n5_;have HR617:=n6_;have HO622:=n7_;clear n0_ n1_ n2_ n3_ n4_ n5_ n6_ n7_;clear ho hb hg hat))
                go_roundg k2
                case measure=>have:=HK1.out;have:=HK2.out;omega
                case rel=>exact ⟨(y620),(wrap64 (x35_2+1)),(by first | rfl | (simp;done) | (simp [*];done)),H',⟨by have:=HK1.out;have:=HK2.out;omega⟩,⟨by (with_reducible repeat (first | apply zz12 | apply zz13 | apply zz14));exact Kd.R_mono HO_4.out (fun _ hk=>hk.2)⟩,⟨by (with_reducible repeat (first | apply zz15 | apply zz16 | apply zz17));exact Kd.S_mono HO_6.out (fun _ hk=>⟨hk.1.1,⟨hk.2,⟨hk.1.2.1,hk.1.2.2⟩⟩⟩)⟩,⟨by (with_reducible repeat (first | apply zz12 | apply zz13 | apply zz14));exact HO622.out⟩,⟨by (with_reducible repeat (first | apply zz12 | apply zz13 | apply zz14));exact Kd.R_mono HO_21.out (fun _ hk=>hk.2)⟩,⟨by (with_reducible repeat (first | apply zz12 | apply zz13 | apply zz14));exact Kd.R_mono HO_33.out (fun _ hk=>hk.2)⟩,⟨by (with_reducible repeat (first | refine zz6 ?_ _ | refine zz7 ?_ | refine zz8 ?_ _));exact BK603.out⟩,⟨by repeat (first | (with_reducible exact HR617.out) | (with_reducible refine zz18 ?_ _) | (with_reducible refine zz19 ?_ _) | (with_reducible refine zz20 ?_) | exact HR617.out)⟩,⟨by repeat first | exact HB.out | apply zz2 | apply zz0 | apply zz1 | refine zz3 ?_ GE603.out⟩⟩
               ·rw [if_neg c27] at H
                exact absurd H (by simp)
              ·rw [if_neg c26] at H
               have c26b0:((rd t609 x35_2) == (rd t609 x23_1))=false:=beq_eq_false_iff_ne.mpr c26
               have c26b1:((rd t609 x35_2) != (rd t609 x23_1))=true:=bne_iff_ne.mpr c26
               have H':=zz31 H
               clear H
               have p619:0≤(x35_2:Int):=zz29 (by first | (with_reducible assumption) | assumption)
               have q619:x35_2 < (t609.length:Int):=zz29 (by first | (with_reducible assumption) | assumption)
               obtain ⟨ad619,e619,hx619_0⟩:=Kd.at_int (Kd.R_reads' HO_33.out).2.2 x35_2 p619 q619
               obtain rfl:ad613=ad619:=(by injection e619)
               replace p619:=eq_true p619
               replace q619:=eq_true q619
               go_wp2
               go_roundg k2
               case measure=>have:=HK1.out;have:=HK2.out;omega
               case rel=>exact ⟨(x9_2),(wrap64 (x35_2+1)),(by first | rfl | (simp;done) | (simp [*];done)),H',⟨by have:=HK1.out;have:=HK2.out;omega⟩,⟨by (with_reducible repeat (first | apply zz12 | apply zz13 | apply zz14));exact HO_4.out⟩,⟨by (with_reducible repeat (first | apply zz15 | apply zz16 | apply zz17));exact HO_6.out⟩,⟨by (with_reducible repeat (first | apply zz12 | apply zz13 | apply zz14));exact HO_9.out⟩,⟨by (with_reducible repeat (first | apply zz12 | apply zz13 | apply zz14));exact HO_21.out⟩,⟨by (with_reducible repeat (first | apply zz12 | apply zz13 | apply zz14));exact HO_33.out⟩,⟨by (with_reducible repeat (first | refine zz6 ?_ _ | refine zz7 ?_ | refine zz8 ?_ _));exact BK603.out⟩,⟨by repeat (first | (with_reducible exact HR617.out) | (with_reducible refine zz18 ?_ _) | (with_reducible refine zz19 ?_ _) | (with_reducible refine zz20 ?_) | exact HR617.out)⟩,⟨by repeat first | exact HB.out | apply zz2 | apply zz0 | apply zz1 | refine zz3 ?_ GE603.out⟩⟩
             ·rw [if_neg c25] at H
              exact absurd H (by simp)
            ·rw [if_neg c24] at H
             exact absurd H (by simp)
           ·rw [if_neg c23] at H
            have c23b0:decide (x35_2 < (t609.length:Int))=false:=decide_eq_false c23
            clear c23
            by_cases c29:x6_1.length < 5864062014805
            ·rw [if_pos c29] at H
             have LMc29:=zz31 c29
             clear c29
             obtain ⟨y623,hy623⟩:∃ y_:List (List Int),y_=(x6_1 ++ [x9_2]):=⟨_,rfl⟩
             replace H:(spec_GroupsOfParty.l0 k2 t609 y623 t609 (t609.length:Int) (wrap64 (x23_1+1)))=some (r1,r2):=by first | (rw [hy623];with_reducible exact H) | (have H2_:=(Option.bind_some _ _).symm.trans H;rw [hy623];with_reducible exact H2_) | (have H2_:=(Option.bind_some _ _).symm.trans H;with_reducible exact H2_) | with_reducible exact H | (rw [hy623];exact H) | exact H
             have Ny623:=zz31 hy623
             clear hy623
             have H':=zz31 H
             clear H
             obtain ⟨Ao31,co31,eo31⟩:=Kd.R_slice HO_9.out
             subst eo31
             go_wp2_with (first | ((with_reducible refine gate_builtin (b:=.append) (xs:=#[.tmp 48,.tmp 50]) rfl ?_);at_builtin;refine Kd.S_append (Kd.slice 3 (Kd.int .i64)) (w0:=w) w.heap.size rfl (.tmp 48) (.tmp 50) 45 25 (.slice none 0 0) 24 rfl Try.underlying45 info25 rfl (by decide) (by omega) u6 x6_1 x9_2 [.slice Ao31 x9_2.length co31] (fun k_=>some k_ ≠ (.slice (some ad613) t609.length co13:Value).ownBlock∧some k_ ≠ (.slice (some ad613) t609.length co13:Value).ownBlock∧some k_ ≠ (.slice (some ad613) t609.length co13:Value).ownBlock) (fun k_=>some k_=(.slice Ao31 x9_2.length co31:Value).ownBlock) rfl rfl ?aP (fun k_ hk_=>((Kd.R_mono (ok':=fun k_=>((fun k_=>some k_ ≠ (.slice (some ad613) t609.length co13:Value).ownBlock∧some k_ ≠ (.slice (some ad613) t609.length co13:Value).ownBlock∧some k_ ≠ (.slice (some ad613) t609.length co13:Value).ownBlock)) k_∧some k_ ≠ (u6:Value).ownBlock) (Kd.R_apart' (HO_9.out) (Kd.S_typed HO_6.out) (by decide)) (fun k_ hk=>⟨⟨hk.1.1,⟨hk.1.2.1,hk.1.2.2⟩⟩,hk.2⟩))).1 k_ hk_.symm) ?aF ?aO ?aB ?aS ?aL ?_;(case aP=>exact Kd.M_row (Kd.R_mono (Kd.R_tight rfl (Kd.R_mono (ok':=fun k_=>((fun k_=>some k_ ≠ (.slice (some ad613) t609.length co13:Value).ownBlock∧some k_ ≠ (.slice (some ad613) t609.length co13:Value).ownBlock∧some k_ ≠ (.slice (some ad613) t609.length co13:Value).ownBlock)) k_∧some k_ ≠ (u6:Value).ownBlock) (Kd.R_apart' (HO_9.out) (Kd.S_typed HO_6.out) (by decide)) (fun k_ hk=>⟨⟨hk.1.1,⟨hk.1.2.1,hk.1.2.2⟩⟩,hk.2⟩))) (fun _ h_=>h_)));(case aB=>exact (by repeat first | exact HB.out | apply zz2 | apply zz0 | apply zz1 | refine zz3 ?_ GE603.out));(case aF=>exact (fun k_ hk=>⟨Kd.fresh' (Kd.R_lt (by (with_reducible repeat (first | apply zz12 | apply zz13 | apply zz14));exact HO_4.out)) k_ hk,Kd.fresh' (Kd.R_lt (by (with_reducible repeat (first | apply zz12 | apply zz13 | apply zz14));exact HO_21.out)) k_ hk,Kd.fresh' (Kd.R_lt (by (with_reducible repeat (first | apply zz12 | apply zz13 | apply zz14));exact HO_33.out)) k_ hk⟩));(case aO=>exact (by (with_reducible repeat (first | apply zz15 | apply zz16 | apply zz17));exact Kd.S_mono HO_6.out (fun k_ hk=>⟨⟨hk.1,⟨hk.2.2.1,hk.2.2.2⟩⟩,fun e_=>hk.2.1 e_⟩)));(case aS=>exact (zz5 (by repeat first | exact HB.out | apply zz2 | apply zz0 | apply zz1 | refine zz3 ?_ GE603.out)));(case aL=>have:=LMc29.out;omega);intro v624 w30 ho hb hg hat;rw [← Ny623.out] at ho;have n0_:=zz31 (Kd.R_over' (by (with_reducible repeat (first | apply zz12 | apply zz13 | apply zz14));exact HO_4.out) (Kd.S_typed (by (with_reducible repeat (first | apply zz15 | apply zz16 | apply zz17));exact HO_6.out)) (by decide) hg);have n1_:=zz31 (Kd.R_over' (by (with_reducible repeat (first | apply zz12 | apply zz13 | apply zz14));exact HO_21.out) (Kd.S_typed (by (with_reducible repeat (first | apply zz15 | apply zz16 | apply zz17));exact HO_6.out)) (by decide) hg);have n2_:=zz31 (Kd.R_over' (by (with_reducible repeat (first | apply zz12 | apply zz13 | apply zz14));exact HO_33.out) (Kd.S_typed (by (with_reducible repeat (first | apply zz15 | apply zz16 | apply zz17));exact HO_6.out)) (by decide) hg);have n3_:=zz31 (blk_grown (g:=gb603) (o:=.cells #[.int .i64 a0_0,.slice A0_1 l0_1.length c0_1] 31 (0,0)) (by (with_reducible repeat (first | refine zz6 ?_ _ | refine zz7 ?_ | refine zz8 ?_ _));exact BK603.out) hg (Kd.S_ne HO_6.out BK603.out (by decide)));have n4_:=zz31 (hb);have n5_:=zz31 ((show Kd.C (Kd.int .i64) w30 (some ad613) y614.length y614 from by rw [Ny614.out];exact Kd.C_take (m:=(x23_1:Int).toNat) ((Kd.R_reads' (Kd.R_over' (by (with_reducible repeat (first | apply zz12 | apply zz13 | apply zz14));exact HO_4.out) (Kd.S_typed (by (with_reducible repeat (first | apply zz15 | apply zz16 | apply zz17));exact HO_6.out)) (by decide) hg)).2.2) KL22.out));have n6_:=zz31 (ho);clear HO_4;clear HO_21;clear HO_33;clear BK603;clear HB;clear HR617;clear HO_6;clear HO_9;have HO_4:=n0_;have HO_21:=n1_;have HO_33:=n2_;have BK603:=n3_;have HB:=n4_;have HR617:=n5_;have HO625:=n6_;clear n0_ n1_ n2_ n3_ n4_ n5_ n6_;clear ho hb hg hat))
             go_roundg k2
             case measure=>have:=HK1.out;have:=HK2.out;omega
             case rel=>exact ⟨(y623),(wrap64 (x23_1+1)),(by first | rfl | (simp;done) | (simp [*];done)),H',⟨by have:=HK1.out;have:=HK2.out;omega⟩,⟨by (with_reducible repeat (first | apply zz12 | apply zz13 | apply zz14));exact Kd.R_mono HO_4.out (fun _ hk=>trivial)⟩,⟨by (with_reducible repeat (first | apply zz15 | apply zz16 | apply zz17));exact Kd.S_mono HO625.out (fun _ hk=>⟨hk.1,hk.2.1⟩)⟩,⟨by (with_reducible repeat (first | apply zz12 | apply zz13 | apply zz14));exact Kd.R_mono HO_21.out (fun _ hk=>trivial)⟩,⟨by (with_reducible repeat (first | refine zz6 ?_ _ | refine zz7 ?_ | refine zz8 ?_ _));exact BK603.out⟩,⟨by repeat first | exact HB.out | apply zz2 | apply zz0 | apply zz1 | refine zz3 ?_ GE603.out⟩⟩
            ·rw [if_neg c29] at H
             exact absurd H (by simp)
       ·rw [if_neg c18] at H
        exact absurd H (by simp)
      ·rw [if_neg c16] at H
       exact absurd H (by simp)
     ·rw [if_neg c15] at H
      exact absurd H (by simp)
    ·rw [if_neg c14] at H
     have c14b0:decide (x23_1 < (t609.length:Int))=false:=decide_eq_false c14
     clear c14
     simp only [Option.some.injEq,Prod.mk.injEq] at H
     obtain ⟨rfl,rfl⟩:=H
     go_wp2
     go_ret2
     exact ⟨_,by first | rfl | (simp [errW_none,errW_some] <;> rfl) | (simp [*,errW_none,errW_some] <;> rfl),by (with_reducible repeat (first | apply zz15 | apply zz16 | apply zz17));exact Kd.S_mono HO_6.out (fun _ hk=>trivial),by repeat first | exact HB.out | apply zz2 | apply zz0 | apply zz1 | refine zz3 ?_ GE603.out⟩
 ·replace c3:=Bool.eq_false_iff.mpr c3
  subst c3
  have H1:(some (([]:List (List Int)),false))=some (r1,r2):=by rw [if_neg (show ¬ (false=true) by decide)] at H;exact H
  clear H
  have H:=H1
  clear H1
  simp only [Option.some.injEq,Prod.mk.injEq] at H
  obtain ⟨rfl,rfl⟩:=H
  go_enter Try.func27,Try.ntmps27
  go_wp2_with (first | ((with_reducible refine gate_dst (N:=1) rfl ?_);refine box_event ?hg (N:=1) ?hd (cs:=#[.int .i64 a0_0,.slice A0_1 l0_1.length c0_1]) (t:=31) ?hr ?_;(case hd=>rfl);(case hg=>rfl);(case hr=>first | (go_simp;done) | (go_simp;rfl));intro gb603 hg w32 hbox hb;have n0_:=zz31 (zz4 (by repeat first | exact HB.out | apply zz2 | apply zz0 | apply zz1) hb);have n1_:=zz31 (hbox);have n2_:=zz31 ((by rw [hg];exact (zz5 (by repeat first | exact HB.out | apply zz2 | apply zz0 | apply zz1)):w.heap.size≤gb603));have n3_:=zz31 ((by rw [hg];exact (zz5 (by repeat first | exact HB.out | apply zz2 | apply zz0 | apply zz1)):w.heap.size≤gb603));clear HB;have HB:=n0_;have BK603:=n1_;have GW603:=n2_;have GE603:=n3_;clear n0_ n1_ n2_ n3_;clear hb hbox hg;have hcz33_0:w32.cell? ⟨gb603,0,none⟩=some (.int .i64 a0_0):=(zz9 BK603.out 0).trans rfl;have hcz33_1:w32.cell? ⟨gb603,1,none⟩=some (.slice A0_1 l0_1.length c0_1):=(zz9 BK603.out 1).trans rfl;have hfz33_0:=zz10 BK603.out 0;have hfz33_1:=zz10 BK603.out 1) | ((with_reducible refine gate_callee (f:=48) rfl ?_);refine goesL_ (some 13) rfl rfl Try.func48 (by kernel_rfl) rfl #[.agg #[.int .i64 a0_0,.slice A0_1 l0_1.length c0_1]] rfl (by (try simp only [zz26,zz27,zz28]);first | done | rfl | (simp only [zz24,zz25];rfl)) ?_;(with_reducible refine (spec_grFew.calls k a0_0 _ _ l0_1 false _ ?side1 ?side2 A2.out).mono ?_);(case side1=>repeat (first | exact (Kd.C_below HR0_1.out HB.out) | (with_reducible refine zz18 ?_ _) | (with_reducible refine zz19 ?_ _) | (with_reducible refine zz20 ?_)));(case side2=>exact HC0_1.out);rintro e w34 ⟨rfl,hb⟩;refine ⟨_,rfl,?_⟩;have n0_:=zz31 (zz11 (g:=gb603) (o:=.cells #[.int .i64 a0_0,.slice A0_1 l0_1.length c0_1] 31 (0,0)) (by (with_reducible repeat (first | refine zz6 ?_ _ | refine zz7 ?_ | refine zz8 ?_ _));exact BK603.out) hb);have n1_:=zz31 (zz4 (by repeat first | exact HB.out | apply zz2 | apply zz0 | apply zz1 | refine zz3 ?_ GE603.out) hb);clear BK603;clear HB;have BK603:=n0_;have HB:=n1_;clear n0_ n1_;(try clear hb);(try clear hb2);(try clear hk);(try clear hi)))
  go_ret2
  exact ⟨_,by first | rfl | (simp [errW_none,errW_some] <;> rfl) | (simp [*,errW_none,errW_some] <;> rfl),by first | exact Kd.S_nil _ _ _ _ _ | exact Kd.N_nil _ _ _ _ _ | exact Kd.V_nil _ _ _ _ _ | exact Kd.Q_nil _ _ _ _ _ | exact Kd.R_nil _ _ _ _ _,by repeat first | exact HB.out | apply zz2 | apply zz0 | apply zz1 | refine zz3 ?_ GE603.out⟩

/-! ### laws_eqIntSS: function 29 -/
def laws_eqIntSS.l0:Nat→List (List Int)→List (List Int)→Int→Option (Bool)
 | 0,_,_,_=>none
 | k+1,x0,x1,x5=>if x5 < (x0.length:Int) then (if 0≤x5 then (if x5 < (x1.length:Int) then ((laws_eqIntS.f k (rd_L6 x0 x5) (rd_L6 x1 x5)).bind fun t628=>(if t628=true then (laws_eqIntSS.l0 k x0 x1 (wrap64 (x5+1))) else (some false))) else (none)) else (none)) else (some true)
def laws_eqIntSS.f (k:Nat) (l0:List (List Int)) (l1:List (List Int)):Option (Bool):=if (l0.length:Int)=(l1.length:Int) then (laws_eqIntSS.l0 k l0 l1 0) else (some false)
theorem laws_eqIntSS.mono_l:∀ k,(∀ y0 y1 y2,LeO (laws_eqIntSS.l0 k y0 y1 y2) (laws_eqIntSS.l0 (k+1) y0 y1 y2))
 | 0=>fun _ _ _ r h=>by simp [laws_eqIntSS.l0] at h
 | k+1=>by
  have ih0:=laws_eqIntSS.mono_l k
  ·intro y0 y1 y2
   unfold laws_eqIntSS.l0
   repeat' first
   | (with_reducible exact ih0 _ _ _)
   | (with_reducible exact laws_eqIntS.mono _ _ _)
   | (with_reducible exact LeO.refl _)
   | (with_reducible exact LeO.none _)
   | (with_reducible refine LeO.ite ?_ ?_)
   | (with_reducible refine LeO.bind ?_ (fun _=>?_))
   | exact ih0 _ _ _
   | exact laws_eqIntS.mono _ _ _
   | exact LeO.none _
   | refine LeO.ite ?_ ?_
   | refine LeO.bind ?_ (fun _=>?_)
theorem laws_eqIntSS.mono:∀ a0 a1 k,LeO (laws_eqIntSS.f k a0 a1) (laws_eqIntSS.f (k+1) a0 a1):=by
 intro a0 a1 k
 have ih0:=laws_eqIntSS.mono_l k
 unfold laws_eqIntSS.f
 repeat' first
   | (with_reducible exact ih0 _ _ _)
   | (with_reducible exact laws_eqIntS.mono _ _ _)
   | (with_reducible exact LeO.refl _)
   | (with_reducible exact LeO.none _)
   | (with_reducible refine LeO.ite ?_ ?_)
   | (with_reducible refine LeO.bind ?_ (fun _=>?_))
   | exact ih0 _ _ _
   | exact laws_eqIntS.mono _ _ _
   | exact LeO.none _
   | refine LeO.ite ?_ ?_
   | refine LeO.bind ?_ (fun _=>?_)
set_option maxHeartbeats 8000000 in
set_option maxRecDepth 100000 in
theorem laws_eqIntSS.calls (k:Nat) (A0:Option Addr) (c0:Nat) (l0:List (List Int)) (A1:Option Addr) (c1:Nat) (l1:List (List Int)) (r:Bool) (w:World) (hr0:Kd.C (Kd.slice 3 (Kd.int .i64)) w A0 l0.length l0) (hc0:l0.length≤c0) (hr1:Kd.C (Kd.slice 3 (Kd.int .i64)) w A1 l1.length l1) (hc1:l1.length≤c1) (h:laws_eqIntSS.f k l0 l1=some r) :
  Calls Try.prog 29 #[.slice A0 l0.length c0,.slice A1 l1.length c1] w fun e w'=>e=.returned (.bool r)∧Drawn0 w w':=by
 have HR0:=zz31 hr0
 have HC0:=zz31 hc0
 clear hr0 hc0
 have HR1:=zz31 hr1
 have HC1:=zz31 hc1
 clear hr1 hc1
 have H:(if (l0.length:Int)=(l1.length:Int) then (laws_eqIntSS.l0 k l0 l1 0) else (some false))=some r:=h
 clear h
 by_cases c3:(l0.length:Int)=(l1.length:Int)
 ·rw [if_pos c3] at H
  have c3b0:((l0.length:Int) == (l1.length:Int))=true:=beq_iff_eq.mpr c3
  have c3b1:((l0.length:Int) != (l1.length:Int))=false:=bne_eq_false_iff_eq.mpr c3
  have c3b2:(l0.length == l1.length)=true:=by first | simpa using c3 | (simp at c3 ⊢;omega)
  clear c3
  have H':=zz31 H
  clear H
  go_enter Try.func29,Try.ntmps29
  go_wp2
  repeat (go_quiet (fail);try go_wp2)
  go_loopg [5] k (fun kq v5 w'=>∃ (x5_1:Int),v5=.int .i64 x5_1∧Aside0 (laws_eqIntSS.l0 kq l0 l1 x5_1=some r)∧Aside0 (kq≤k)∧Drawn0 w w')
  case atStart=>exact ⟨(0),(by first | rfl | (simp;done) | (simp [*];done)),H',⟨Nat.le_refl _⟩,by repeat (first | exact Drawn0.refl _ | apply Drawn0.step)⟩
  case round =>
   clear H'
   try clear c1
   try clear c2
   try clear p2
   try clear c3
   try clear c3b0
   try clear c3b1
   try clear c3b2
   obtain ⟨x5_1,rfl,HA,HK1,⟨m1,rfl⟩⟩:=hrel
   cases gk with
   | zero=>exact absurd HA.out (by simp [laws_eqIntSS.l0])
   | succ k1 =>
    have H:=HA.out
    clear HA
    simp only [laws_eqIntSS.l0] at H
    by_cases c4:x5_1 < (l0.length:Int)
    ·rw [if_pos c4] at H
     have c4b0:decide (x5_1 < (l0.length:Int))=true:=decide_eq_true c4
     clear c4
     by_cases c5:0≤x5_1
     ·rw [if_pos c5] at H
      have c5b0:decide (0≤x5_1)=true:=decide_eq_true c5
      clear c5
      by_cases c6:x5_1 < (l1.length:Int)
      ·rw [if_pos c6] at H
       have c6b0:decide (x5_1 < (l1.length:Int))=true:=decide_eq_true c6
       clear c6
       replace H:=zz30.mp H
       obtain ⟨t628,A70,H⟩:=H
       replace H:(if t628=true then (laws_eqIntSS.l0 k1 l0 l1 (wrap64 (x5_1+1))) else (some false))=some r:=H
       have A7:=zz31 A70
       clear A70
       by_cases c8:t628=true
       ·subst c8
        have H1:(laws_eqIntSS.l0 k1 l0 l1 (wrap64 (x5_1+1)))=some r:=by rw [if_pos rfl] at H;exact H
        clear H
        have H:=H1
        clear H1
        have H':=zz31 H
        clear H
        have p626:0≤(x5_1:Int):=zz29 (by first | (with_reducible assumption) | assumption)
        have q626:x5_1 < (l0.length:Int):=zz29 (by first | (with_reducible assumption) | assumption)
        obtain ⟨ad626,A626_0,c626_0,e626,hx626_0,hl626_0,hi626_0⟩:=at_L6 HR0.out x5_1 p626 q626
        cases e626
        have HR626_0:=zz31 hi626_0
        have HC626_0:=zz31 hl626_0
        clear hi626_0 hl626_0
        replace p626:=eq_true p626
        replace q626:=eq_true q626
        have p627:0≤(x5_1:Int):=zz29 (by first | (with_reducible assumption) | assumption)
        have q627:x5_1 < (l1.length:Int):=zz29 (by first | (with_reducible assumption) | assumption)
        obtain ⟨ad627,A627_0,c627_0,e627,hx627_0,hl627_0,hi627_0⟩:=at_L6 HR1.out x5_1 p627 q627
        cases e627
        have HR627_0:=zz31 hi627_0
        have HC627_0:=zz31 hl627_0
        clear hi627_0 hl627_0
        replace p627:=eq_true p627
        replace q627:=eq_true q627
        go_wp2_with (first | (go_at_call 14;(with_reducible refine (laws_eqIntS.calls k1 _ _ (rd_L6 l0 x5_1) _ _ (rd_L6 l1 x5_1) true _ ?side1 ?side2 ?side3 ?side4 A7.out).mono ?_);(case side1=>repeat (first | exact HR626_0.out | (with_reducible refine zz18 ?_ _) | (with_reducible refine zz19 ?_ _) | (with_reducible refine zz20 ?_)));(case side2=>exact HC626_0.out);(case side3=>repeat (first | exact HR627_0.out | (with_reducible refine zz18 ?_ _) | (with_reducible refine zz19 ?_ _) | (with_reducible refine zz20 ?_)));(case side4=>exact HC627_0.out);rintro e w' ⟨rfl,⟨nd,rfl⟩⟩;(try first | exact ⟨rfl,_,World.drewN_drewN _ _ _⟩ | exact ⟨rfl,_,Eq.trans (World.drewN_drewN _ _ _) (congrArg (World.drewN _) (Nat.add_assoc _ _ _))⟩)))
        repeat (go_quiet (first | (go_at_call 14;(with_reducible refine (laws_eqIntS.calls k1 _ _ (rd_L6 l0 x5_1) _ _ (rd_L6 l1 x5_1) true _ ?side1 ?side2 ?side3 ?side4 A7.out).mono ?_);(case side1=>repeat (first | exact HR626_0.out | (with_reducible refine zz18 ?_ _) | (with_reducible refine zz19 ?_ _) | (with_reducible refine zz20 ?_)));(case side2=>exact HC626_0.out);(case side3=>repeat (first | exact HR627_0.out | (with_reducible refine zz18 ?_ _) | (with_reducible refine zz19 ?_ _) | (with_reducible refine zz20 ?_)));(case side4=>exact HC627_0.out);rintro e w' ⟨rfl,⟨nd,rfl⟩⟩;(try first | exact ⟨rfl,_,World.drewN_drewN _ _ _⟩ | exact ⟨rfl,_,Eq.trans (World.drewN_drewN _ _ _) (congrArg (World.drewN _) (Nat.add_assoc _ _ _))⟩)));try go_wp2_with (first | (go_at_call 14;(with_reducible refine (laws_eqIntS.calls k1 _ _ (rd_L6 l0 x5_1) _ _ (rd_L6 l1 x5_1) true _ ?side1 ?side2 ?side3 ?side4 A7.out).mono ?_);(case side1=>repeat (first | exact HR626_0.out | (with_reducible refine zz18 ?_ _) | (with_reducible refine zz19 ?_ _) | (with_reducible refine zz20 ?_)));(case side2=>exact HC626_0.out);(case side3=>repeat (first | exact HR627_0.out | (with_reducible refine zz18 ?_ _) | (with_reducible refine zz19 ?_ _) | (with_reducible refine zz20 ?_)));(case side4=>exact HC627_0.out);rintro e w' ⟨rfl,⟨nd,rfl⟩⟩;(try first | exact ⟨rfl,_,World.drewN_drewN _ _ _⟩ | exact ⟨rfl,_,Eq.trans (World.drewN_drewN _ _ _) (congrArg (World.drewN _) (Nat.add_assoc _ _ _))⟩))))
        go_roundg k1
        case measure=>have:=HK1.out;omega
        case rel=>exact ⟨(wrap64 (x5_1+1)),(by first | rfl | (simp;done) | (simp [*];done)),H',⟨by have:=HK1.out;omega⟩,by repeat (first | exact Drawn0.refl _ | apply Drawn0.step)⟩
       ·replace c8:=Bool.eq_false_iff.mpr c8
        subst c8
        have H1:(some false)=some r:=by rw [if_neg (show ¬ (false=true) by decide)] at H;exact H
        clear H
        have H:=H1
        clear H1
        obtain rfl:=Option.some.inj H
        have p626:0≤(x5_1:Int):=zz29 (by first | (with_reducible assumption) | assumption)
        have q626:x5_1 < (l0.length:Int):=zz29 (by first | (with_reducible assumption) | assumption)
        obtain ⟨ad626,A626_0,c626_0,e626,hx626_0,hl626_0,hi626_0⟩:=at_L6 HR0.out x5_1 p626 q626
        cases e626
        have HR626_0:=zz31 hi626_0
        have HC626_0:=zz31 hl626_0
        clear hi626_0 hl626_0
        replace p626:=eq_true p626
        replace q626:=eq_true q626
        have p627:0≤(x5_1:Int):=zz29 (by first | (with_reducible assumption) | assumption)
        have q627:x5_1 < (l1.length:Int):=zz29 (by first | (with_reducible assumption) | assumption)
        obtain ⟨ad627,A627_0,c627_0,e627,hx627_0,hl627_0,hi627_0⟩:=at_L6 HR1.out x5_1 p627 q627
        cases e627
        have HR627_0:=zz31 hi627_0
        have HC627_0:=zz31 hl627_0
        clear hi627_0 hl627_0
        replace p627:=eq_true p627
        replace q627:=eq_true q627
        go_wp2_with (first | (go_at_call 14;(with_reducible refine (laws_eqIntS.calls k1 _ _ (rd_L6 l0 x5_1) _ _ (rd_L6 l1 x5_1) false _ ?side1 ?side2 ?side3 ?side4 A7.out).mono ?_);(case side1=>repeat (first | exact HR626_0.out | (with_reducible refine zz18 ?_ _) | (with_reducible refine zz19 ?_ _) | (with_reducible refine zz20 ?_)));(case side2=>exact HC626_0.out);(case side3=>repeat (first | exact HR627_0.out | (with_reducible refine zz18 ?_ _) | (with_reducible refine zz19 ?_ _) | (with_reducible refine zz20 ?_)));(case side4=>exact HC627_0.out);rintro e w' ⟨rfl,⟨nd,rfl⟩⟩;(try first | exact ⟨rfl,_,World.drewN_drewN _ _ _⟩ | exact ⟨rfl,_,Eq.trans (World.drewN_drewN _ _ _) (congrArg (World.drewN _) (Nat.add_assoc _ _ _))⟩)))
        repeat (go_quiet (first | (go_at_call 14;(with_reducible refine (laws_eqIntS.calls k1 _ _ (rd_L6 l0 x5_1) _ _ (rd_L6 l1 x5_1) false _ ?side1 ?side2 ?side3 ?side4 A7.out).mono ?_);(case side1=>repeat (first | exact HR626_0.out | (with_reducible refine zz18 ?_ _) | (with_reducible refine zz19 ?_ _) | (with_reducible refine zz20 ?_)));(case side2=>exact HC626_0.out);(case side3=>repeat (first | exact HR627_0.out | (with_reducible refine zz18 ?_ _) | (with_reducible refine zz19 ?_ _) | (with_reducible refine zz20 ?_)));(case side4=>exact HC627_0.out);rintro e w' ⟨rfl,⟨nd,rfl⟩⟩;(try first | exact ⟨rfl,_,World.drewN_drewN _ _ _⟩ | exact ⟨rfl,_,Eq.trans (World.drewN_drewN _ _ _) (congrArg (World.drewN _) (Nat.add_assoc _ _ _))⟩)));try go_wp2_with (first | (go_at_call 14;(with_reducible refine (laws_eqIntS.calls k1 _ _ (rd_L6 l0 x5_1) _ _ (rd_L6 l1 x5_1) false _ ?side1 ?side2 ?side3 ?side4 A7.out).mono ?_);(case side1=>repeat (first | exact HR626_0.out | (with_reducible refine zz18 ?_ _) | (with_reducible refine zz19 ?_ _) | (with_reducible refine zz20 ?_)));(case side2=>exact HC626_0.out);(case side3=>repeat (first | exact HR627_0.out | (with_reducible refine zz18 ?_ _) | (with_reducible refine zz19 ?_ _) | (with_reducible refine zz20 ?_)));(case side4=>exact HC627_0.out);rintro e w' ⟨rfl,⟨nd,rfl⟩⟩;(try first | exact ⟨rfl,_,World.drewN_drewN _ _ _⟩ | exact ⟨rfl,_,Eq.trans (World.drewN_drewN _ _ _) (congrArg (World.drewN _) (Nat.add_assoc _ _ _))⟩))))
        go_ret
        exact ⟨by first | rfl | (simp;done) | (simp [*];done),by repeat (first | exact Drawn0.refl _ | apply Drawn0.step)⟩
      ·rw [if_neg c6] at H
       exact absurd H (by simp)
     ·rw [if_neg c5] at H
      exact absurd H (by simp)
    ·rw [if_neg c4] at H
     have c4b0:decide (x5_1 < (l0.length:Int))=false:=decide_eq_false c4
     clear c4
     obtain rfl:=Option.some.inj H
     go_wp2
     repeat (go_quiet (fail);try go_wp2)
     go_ret
     exact ⟨by first | rfl | (simp;done) | (simp [*];done),by repeat (first | exact Drawn0.refl _ | apply Drawn0.step)⟩
 ·rw [if_neg c3] at H
  have c3b0:((l0.length:Int) == (l1.length:Int))=false:=beq_eq_false_iff_ne.mpr c3
  have c3b1:((l0.length:Int) != (l1.length:Int))=true:=bne_iff_ne.mpr c3
  have c3b2:(l0.length == l1.length)=false:=by first | simpa using c3 | (simp at c3 ⊢;omega)
  obtain rfl:=Option.some.inj H
  go_enter Try.func29,Try.ntmps29
  go_wp2
  repeat (go_quiet (fail);try go_wp2)
  go_ret
  exact ⟨by first | rfl | (simp;done) | (simp [*];done),by repeat (first | exact Drawn0.refl _ | apply Drawn0.step)⟩

/-! ### laws_markIntSS: function 30 (a contract of our own) -/
def laws_markIntSS.go (k:Nat):List (List Int)→Int→Option (Int × List (List Int))
 | [],a=>some (a,[])
 | x :: xs,a=>(laws_markIntS.f k x a).bind fun p=>(laws_markIntSS.go k xs p.1).bind fun q=>some (q.1,p.2 :: q.2)
def laws_markIntSS.f (k:Nat) (l0:List (List Int)) (a1:Int):Option (Int × List (List Int)):=if l0.length≤1000000000 then laws_markIntSS.go k l0 a1 else none
theorem laws_markIntSS.mono_go:∀ (l0:List (List Int)) (a:Int) (k:Nat),LeO (laws_markIntSS.go k l0 a) (laws_markIntSS.go (k+1) l0 a)
 | [],a,k=>LeO.refl _
 | x :: xs,a,k=>LeO.bind (laws_markIntS.mono _ _ _) fun p=>LeO.bind (laws_markIntSS.mono_go xs p.1 k) fun q=>LeO.refl _
theorem laws_markIntSS.mono:∀ a0 a1 k,LeO (laws_markIntSS.f k a0 a1) (laws_markIntSS.f (k+1) a0 a1):=by
 intro a0 a1 k
 unfold laws_markIntSS.f
 exact LeO.ite (laws_markIntSS.mono_go _ _ _) (LeO.none _)
theorem grown_of_kept {w0 w w':World} {base:Nat} {row:Option Nat} (h1:Below base w0 w) (h2:Below base w0 w') (hk:Kept w w' (fun k=>some k=row)):w.grownBy w' row :=
 ⟨h2.os.trans h1.os.symm,h2.tape.trans h1.tape.symm,h2.output.trans h1.output.symm,hk.1,fun k hk1 hk2=>hk.2 k hk1 hk2⟩
set_option maxHeartbeats 1000000 in
theorem laws_markIntSS.calls (k:Nat) (P0_:Nat→Prop) (u9000_:Value) (l0:List (List Int)) (a1:Int) (r1:Int) (r2:List (List Int)) (w0 w:World) (hB:Below w0.heap.size w0 w) (ho0:Kd.S (Kd.slice 3 (Kd.int .i64)) 25 w w0.heap.size P0_ u9000_ l0) (h:laws_markIntSS.f k l0 a1=some (r1,r2)) :
  Calls Try.prog 30 #[u9000_,.int .i64 a1] w fun e w'=>e=.returned (.int .i64 r1)∧Kd.S (Kd.slice 3 (Kd.int .i64)) 25 w' w0.heap.size (fun k_=>(P0_ k_ ∨ w.heap.size≤k_)) u9000_ r2∧Below w0.heap.size w0 w'∧Kept w w' (fun k_=>P0_ k_):=by
 unfold laws_markIntSS.f at h
 by_cases hl:l0.length≤1000000000
 case neg=>rw [if_neg hl] at h;exact absurd h (by simp)
 rw [if_pos hl] at h
 obtain ⟨A,c,rfl⟩:=Kd.S_slice ho0
 have HO:=zz31 (Kd.S_mono ho0 (fun k_ hk=>(.inl hk:P0_ k_ ∨ w.heap.size≤k_)))
 have HB:=zz31 hB
 have HH:=zz31 h
 clear ho0 hB h
 go_enter Try.func30,Try.ntmps30
 go_wp2
 go_loopg [1,5] l0.length (fun gg v1 v5 wr=>∃ (i:Nat) (L:List (List Int)) (a:Int) (rest:List (List Int)),i≤l0.length∧l0.length - i≤gg∧L.length=l0.length∧v5=.int .i64 i∧v1=.int .i64 a∧Aside0 (laws_markIntSS.go k (L.drop i) a=some (r1,rest))∧Aside0 (r2=L.take i ++ rest)∧Aside0 (Kd.S (Kd.slice 3 (Kd.int .i64)) 25 wr w0.heap.size (fun k_=>(P0_ k_ ∨ w.heap.size≤k_)) (.slice A l0.length c) L)∧Aside0 (Below w0.heap.size w0 wr)∧Aside0 (Kept w wr (fun k_=>P0_ k_)))
 case atStart=>exact ⟨0,l0,a1,r2,by omega,by omega,rfl,by rfl,by rfl,HH,⟨by simp⟩,HO,HB,⟨Kept.refl w _⟩⟩
 case round =>
  obtain ⟨i,L,a,rest,hi,hgg,hLl,rfl,rfl,HG,HR2,HS,HBr,HK⟩:=hrel
  by_cases hlt:i < l0.length
  ·have hltz:(i:Int) < (l0.length:Int):=by omega
   have hdrop:L.drop i=L[i] :: L.drop (i+1):=List.drop_eq_getElem_cons (by omega)
   have hg:=HG.out
   rw [hdrop,laws_markIntSS.go] at hg
   obtain ⟨⟨p1,p2⟩,hp,hg⟩:=zz30.1 hg
   obtain ⟨⟨q1,q2⟩,hq,hg⟩:=zz30.1 hg
   simp only [Option.some.injEq,Prod.mk.injEq] at hg
   obtain ⟨e1,e2⟩:=hg
   subst e1 e2
   have hS:=HS.out
   have hAp:∃ ad,A=some ad:=by
    obtain ⟨g,cap,he,_⟩:=Kd.S_form hS (by omega)
    injection he with he1 _ _
    exact ⟨_,he1⟩
   obtain ⟨ad,rfl⟩:=hAp
   obtain ⟨oki,cc,hcl,hM,hcc,hoki,hback⟩:=Kd.S_borrow hS [] (i:Int) (by omega) (by omega)
   obtain ⟨v,rfl,hR⟩:=hM
   have hcell:=hcc 0 v rfl
   have hget:L.getD (i:Int).toNat []=L[i]:=by rw [Int.toNat_natCast,List.getD_eq_getElem?_getD,List.getElem?_eq_getElem (by omega)];rfl
   rw [hget] at hR
   have hsz:((i:Int).toNat * (Kd.slice 3 (Kd.int .i64)).sz+0)=i:=by rw [Int.toNat_natCast];show i * 1+0=i;omega
   rw [hsz] at hcell
   have hin:∀ k,v.ownBlock=some k→P0_ k ∨ w.heap.size≤k:=fun k hk=>(hoki k (hR.1 k hk)).1
   have hkw:=HK.out
   have hP:=zz31 ((laws_markIntS.calls k (fun k=>some k=v.ownBlock) v L[i] a p1 p2 w0 wr HBr.out (Kd.R_tight rfl hR) hp).mono (R':=fun e w'=>e=.returned (.int .i64 p1)∧Aside0 (Kd.S (Kd.slice 3 (Kd.int .i64)) 25 w' w0.heap.size (fun k_=>(P0_ k_ ∨ w.heap.size≤k_)) (.slice (some ad) l0.length c) (L.set i p2))∧Aside0 (Below w0.heap.size w0 w')∧Aside0 (Kept w w' (fun k_=>P0_ k_))) fun e w' ⟨h1,h2,h3,h4⟩=>by
    have hk4:Kept wr w' (fun k=>some k=v.ownBlock):=h4
    have hb:=hback (grown_of_kept HBr.out h3 hk4) (fun k hk=>hR.1 k hk) ⟨v,rfl,Kd.R_mono (Kd.R_tight rfl h2) (fun k hk=>hR.1 k hk.symm)⟩
    rw [Int.toNat_natCast] at hb
    refine ⟨h1,⟨hb⟩,⟨h3⟩,⟨Nat.le_trans hkw.1 hk4.1,fun j hj hn=>?_⟩⟩
    rw [hk4.2 j (Nat.lt_of_lt_of_le hj hkw.1) (fun he=>(hin j he.symm).elim hn (fun h=>by omega)),hkw.2 j hj hn])
   have HQ:=zz31 hq
   have HI:=zz31 (show L.take i ++ p2 :: q2=(L.set i p2).take (i+1) ++ q2 from by
    rw [List.take_succ_eq_append_getElem (by rw [List.length_set];omega),List.getElem_set_self,List.take_set_of_le (Nat.le_refl _),List.append_assoc,List.singleton_append])
   have HD:=zz31 (show (L.set i p2).drop (i+1)=L.drop (i+1) from List.drop_set_of_lt (by omega))
   have HLs:=zz31 (show (L.set i p2).length=l0.length from by rw [List.length_set];exact hLl)
   clear hq hp hg hback hR hcc hoki hin hkw hS hget HS HBr HK HG
   go_wp2_with (go_at_call 17;refine hP.out.mono ?_;rintro e w' ⟨rfl,hS2,hB2,hK2⟩)
   go_roundg (l0.length - (i+1))
   case measure=>omega
   case rel=>exact ⟨i+1,L.set i p2,p1,q2,by omega,by omega,HLs.out,by go_num,by rfl,⟨by rw [HD.out];exact HQ.out⟩,⟨by rw [HR2.out,HI.out]⟩,hS2,hB2,hK2⟩
  ·have hltz:¬ (i:Int) < (l0.length:Int):=by omega
   obtain rfl:i=l0.length:=by omega
   go_wp2
   go_ret
   have hg:=HG.out
   rw [List.drop_of_length_le (by omega),laws_markIntSS.go] at hg
   simp only [Option.some.injEq,Prod.mk.injEq] at hg
   obtain ⟨e1,e2⟩:=hg
   subst e1 e2
   refine ⟨rfl,?_,HBr.out,HK.out⟩
   rw [HR2.out,List.append_nil,List.take_of_length_le (by omega)]
   exact HS.out

/-! ### laws_heldIntSS: function 31 -/
def laws_heldIntSS.l0:Nat→List (List Int)→Int→Int→Option (Int)
 | 0,_,_,_=>none
 | k+1,x0,x1,x5=>if x5 < (x0.length:Int) then (if 0≤x5 then ((laws_heldIntS.f k (rd_L6 x0 x5) x1).bind fun t630=>(if t630 < 0 then (some (-1)) else (laws_heldIntSS.l0 k x0 t630 (wrap64 (x5+1))))) else (none)) else (some x1)
def laws_heldIntSS.f (k:Nat) (l0:List (List Int)) (a1:Int):Option (Int):=laws_heldIntSS.l0 k l0 a1 0
theorem laws_heldIntSS.mono_l:∀ k,(∀ y0 y1 y2,LeO (laws_heldIntSS.l0 k y0 y1 y2) (laws_heldIntSS.l0 (k+1) y0 y1 y2))
 | 0=>fun _ _ _ r h=>by simp [laws_heldIntSS.l0] at h
 | k+1=>by
  have ih0:=laws_heldIntSS.mono_l k
  ·intro y0 y1 y2
   unfold laws_heldIntSS.l0
   repeat' first
   | (with_reducible exact ih0 _ _ _)
   | (with_reducible exact laws_heldIntS.mono _ _ _)
   | (with_reducible exact LeO.refl _)
   | (with_reducible exact LeO.none _)
   | (with_reducible refine LeO.ite ?_ ?_)
   | (with_reducible refine LeO.bind ?_ (fun _=>?_))
   | exact ih0 _ _ _
   | exact laws_heldIntS.mono _ _ _
   | exact LeO.none _
   | refine LeO.ite ?_ ?_
   | refine LeO.bind ?_ (fun _=>?_)
theorem laws_heldIntSS.mono:∀ a0 a1 k,LeO (laws_heldIntSS.f k a0 a1) (laws_heldIntSS.f (k+1) a0 a1):=by
 intro a0 a1 k
 have ih0:=laws_heldIntSS.mono_l k
 unfold laws_heldIntSS.f
 repeat' first
   | (with_reducible exact ih0 _ _ _)
   | (with_reducible exact laws_heldIntS.mono _ _ _)
   | (with_reducible exact LeO.refl _)
   | (with_reducible exact LeO.none _)
   | (with_reducible refine LeO.ite ?_ ?_)
   | (with_reducible refine LeO.bind ?_ (fun _=>?_))
   | exact ih0 _ _ _
   | exact laws_heldIntS.mono _ _ _
   | exact LeO.none _
   | refine LeO.ite ?_ ?_
   | refine LeO.bind ?_ (fun _=>?_)
set_option maxHeartbeats 8000000 in
set_option maxRecDepth 100000 in
theorem laws_heldIntSS.calls (k:Nat) (A0:Option Addr) (c0:Nat) (l0:List (List Int)) (a1:Int) (r:Int) (w:World) (hr0:Kd.C (Kd.slice 3 (Kd.int .i64)) w A0 l0.length l0) (hc0:l0.length≤c0) (h:laws_heldIntSS.f k l0 a1=some r) :
  Calls Try.prog 31 #[.slice A0 l0.length c0,.int .i64 a1] w fun e w'=>e=.returned (.int .i64 r)∧Drawn0 w w':=by
 have HR0:=zz31 hr0
 have HC0:=zz31 hc0
 clear hr0 hc0
 have H:(laws_heldIntSS.l0 k l0 a1 0)=some r:=h
 clear h
 have H':=zz31 H
 clear H
 go_enter Try.func31,Try.ntmps31
 go_wp2
 go_loopg [1,5] k (fun kq v1 v5 w'=>∃ (x1_1:Int) (x5_1:Int),v1=.int .i64 x1_1∧v5=.int .i64 x5_1∧Aside0 (laws_heldIntSS.l0 kq l0 x1_1 x5_1=some r)∧Aside0 (kq≤k)∧Drawn0 w w')
 case atStart=>exact ⟨(a1),(0),(by first | rfl | (simp;done) | (simp [*];done)),(by first | rfl | (simp;done) | (simp [*];done)),H',⟨Nat.le_refl _⟩,by repeat (first | exact Drawn0.refl _ | apply Drawn0.step)⟩
 case round =>
  clear H'
  try clear p2
  obtain ⟨x1_1,x5_1,rfl,rfl,HA,HK1,⟨m1,rfl⟩⟩:=hrel
  cases gk with
  | zero=>exact absurd HA.out (by simp [laws_heldIntSS.l0])
  | succ k1 =>
   have H:=HA.out
   clear HA
   simp only [laws_heldIntSS.l0] at H
   by_cases c3:x5_1 < (l0.length:Int)
   ·rw [if_pos c3] at H
    have c3b0:decide (x5_1 < (l0.length:Int))=true:=decide_eq_true c3
    clear c3
    by_cases c4:0≤x5_1
    ·rw [if_pos c4] at H
     have c4b0:decide (0≤x5_1)=true:=decide_eq_true c4
     clear c4
     replace H:=zz30.mp H
     obtain ⟨t630,A50,H⟩:=H
     replace H:(if t630 < 0 then (some (-1)) else (laws_heldIntSS.l0 k1 l0 t630 (wrap64 (x5_1+1))))=some r:=H
     have A5:=zz31 A50
     clear A50
     by_cases c6:t630 < 0
     ·rw [if_pos c6] at H
      have c6b0:decide (t630 < 0)=true:=decide_eq_true c6
      clear c6
      obtain rfl:=Option.some.inj H
      have p629:0≤(x5_1:Int):=zz29 (by first | (with_reducible assumption) | assumption)
      have q629:x5_1 < (l0.length:Int):=zz29 (by first | (with_reducible assumption) | assumption)
      obtain ⟨ad629,A629_0,c629_0,e629,hx629_0,hl629_0,hi629_0⟩:=at_L6 HR0.out x5_1 p629 q629
      cases e629
      have HR629_0:=zz31 hi629_0
      have HC629_0:=zz31 hl629_0
      clear hi629_0 hl629_0
      replace p629:=eq_true p629
      replace q629:=eq_true q629
      go_wp2_with (first | ((with_reducible refine gate_callee (f:=18) rfl ?_);refine goesL_ (some 17) rfl rfl Try.func18 (by kernel_rfl) rfl #[.slice A629_0 (rd_L6 l0 x5_1).length c629_0,.int .i64 x1_1] rfl (by (try simp only [zz26,zz27,zz28]);first | done | rfl | (simp only [zz24,zz25];rfl)) ?_;(with_reducible refine (laws_heldIntS.calls k1 _ _ (rd_L6 l0 x5_1) x1_1 t630 _ ?side1 ?side2 A5.out).mono ?_);(case side1=>repeat (first | exact HR629_0.out | (with_reducible refine zz18 ?_ _) | (with_reducible refine zz19 ?_ _) | (with_reducible refine zz20 ?_)));(case side2=>exact HC629_0.out);rintro e w' ⟨rfl,⟨nd,rfl⟩⟩;refine ⟨_,rfl,?_⟩))
      go_ret
      exact ⟨by first | rfl | (simp;done) | (simp [*];done),by repeat (first | exact Drawn0.refl _ | apply Drawn0.step)⟩
     ·rw [if_neg c6] at H
      have c6b0:decide (t630 < 0)=false:=decide_eq_false c6
      clear c6
      have H':=zz31 H
      clear H
      have p629:0≤(x5_1:Int):=zz29 (by first | (with_reducible assumption) | assumption)
      have q629:x5_1 < (l0.length:Int):=zz29 (by first | (with_reducible assumption) | assumption)
      obtain ⟨ad629,A629_0,c629_0,e629,hx629_0,hl629_0,hi629_0⟩:=at_L6 HR0.out x5_1 p629 q629
      cases e629
      have HR629_0:=zz31 hi629_0
      have HC629_0:=zz31 hl629_0
      clear hi629_0 hl629_0
      replace p629:=eq_true p629
      replace q629:=eq_true q629
      go_wp2_with (first | ((with_reducible refine gate_callee (f:=18) rfl ?_);refine goesL_ (some 17) rfl rfl Try.func18 (by kernel_rfl) rfl #[.slice A629_0 (rd_L6 l0 x5_1).length c629_0,.int .i64 x1_1] rfl (by (try simp only [zz26,zz27,zz28]);first | done | rfl | (simp only [zz24,zz25];rfl)) ?_;(with_reducible refine (laws_heldIntS.calls k1 _ _ (rd_L6 l0 x5_1) x1_1 t630 _ ?side1 ?side2 A5.out).mono ?_);(case side1=>repeat (first | exact HR629_0.out | (with_reducible refine zz18 ?_ _) | (with_reducible refine zz19 ?_ _) | (with_reducible refine zz20 ?_)));(case side2=>exact HC629_0.out);rintro e w' ⟨rfl,⟨nd,rfl⟩⟩;refine ⟨_,rfl,?_⟩))
      go_roundg k1
      case measure=>have:=HK1.out;omega
      case rel=>exact ⟨(t630),(wrap64 (x5_1+1)),(by first | rfl | (simp;done) | (simp [*];done)),(by first | rfl | (simp;done) | (simp [*];done)),H',⟨by have:=HK1.out;omega⟩,by repeat (first | exact Drawn0.refl _ | apply Drawn0.step)⟩
    ·rw [if_neg c4] at H
     exact absurd H (by simp)
   ·rw [if_neg c3] at H
    have c3b0:decide (x5_1 < (l0.length:Int))=false:=decide_eq_false c3
    clear c3
    obtain rfl:=Option.some.inj H
    go_wp2
    go_ret
    exact ⟨by first | rfl | (simp;done) | (simp [*];done),by repeat (first | exact Drawn0.refl _ | apply Drawn0.step)⟩

/-! ### laws_FnExactGroupsOfParty: function 8 (a contract of our own) -/
def laws_FnExactGroupsOfParty.f (k:Nat) (a0_0:Int) (l0_1:List (S81)):Option Bool :=
 (laws_szParty.f a0_0 l0_1 1048576).bind fun s=>if s < 0 then some true else
 (laws_toParty.f k a0_0 l0_1).bind fun p=>(spec_GroupsOfParty.f k p.1 p.2).bind fun W=>(impl_GroupsOfParty.f k p.1 p.2).bind fun G=>(laws_eqIntSS.f k G.1 W.1).bind fun e1=>(laws_eqParty.f k p.1 p.2 p.1 p.2).bind fun e2=>(laws_markParty.f k p.1 p.2 1).bind fun mp=>(laws_markIntSS.f k G.1 1).bind fun m=>(laws_heldIntSS.f k m.2 1).bind fun q =>
 if (e1=true∧G.2=W.2∧e2=true)∧0≤mp.1∧0≤q∧q=m.1 then some true else none
theorem laws_FnExactGroupsOfParty.mono:∀ a0 a1 k,LeO (laws_FnExactGroupsOfParty.f k a0 a1) (laws_FnExactGroupsOfParty.f (k+1) a0 a1):=by
 intro a0 a1 k
 unfold laws_FnExactGroupsOfParty.f
 exact LeO.bind (LeO.refl _) fun s=>LeO.ite (LeO.refl _) (LeO.bind (laws_toParty.mono _ _ _) fun p=>LeO.bind (spec_GroupsOfParty.mono _ _ _) fun W=>LeO.bind (impl_GroupsOfParty.mono _ _ _) fun G=>LeO.bind (laws_eqIntSS.mono _ _ _) fun e1=>LeO.bind (laws_eqParty.mono _ _ _ _ _) fun e2=>LeO.bind (laws_markParty.mono _ _ _ _) fun mp=>LeO.bind (laws_markIntSS.mono _ _ _) fun m=>LeO.bind (laws_heldIntSS.mono _ _ _) fun q=>LeO.refl _)
set_option maxHeartbeats 2000000 in
set_option maxRecDepth 100000 in
theorem laws_FnExactGroupsOfParty.calls (k:Nat) (a0_0:Int) (A0_1:Option Addr) (c0_1:Nat) (l0_1:List (S81)) (r:Bool) (w:World) (hr0_1:Kd.C k81 w A0_1 l0_1.length l0_1) (hc0_1:l0_1.length≤c0_1) (h:laws_FnExactGroupsOfParty.f k a0_0 l0_1=some r) :
  Calls Try.prog 8 #[.agg #[.int .i64 a0_0,.slice A0_1 l0_1.length c0_1]] w fun e w'=>e=.returned (.bool r)∧Below w.heap.size w w':=by
 have hu:=Try.underlying24
 have hu2:=Try.underlying31
 unfold laws_FnExactGroupsOfParty.f at h
 obtain ⟨s,hs,h⟩:=zz30.1 h
 have HSZ:=zz31 hs
 have HCC:=zz31 hc0_1
 have HC:=zz31 hr0_1
 clear hs hc0_1 hr0_1
 by_cases hneg:s < 0
 ·rw [if_pos hneg] at h
  injection h with h
  subst h
  have hd:decide (s < 0)=true:=decide_eq_true hneg
  go_enter Try.func8,Try.ntmps8
  go_wp2_with (first | ((with_reducible refine gate_dst (N := 1) rfl ?_); refine box_event ?hg (N := 1) ?hd (cs := #[.int .i64 a0_0, .slice A0_1 l0_1.length c0_1]) (t := 24) ?hr ?_; (case hd => rfl); (case hg => rfl); (case hr => first | (go_simp; done) | (go_simp; rfl)); intro gb hg wa hbox hb; have HXa := zz31 hbox; have HBa := zz31 (zz4 (w := w) (by repeat (first | exact Below.refl _ _ | apply zz0 | apply below_drew | apply zz2)) hb); have HCa := zz31 (Kd.C_below HC.out HBa.out); have f1 := zz9 HXa.out 0; have f2 := zz9 HXa.out 1; simp only [List.getElem?_toArray, List.getElem?_cons_zero, List.getElem?_cons_succ] at f1 f2; clear hbox hb hg) | (go_at_call 9; (with_reducible refine (laws_szParty.calls a0_0 A0_1 c0_1 l0_1 1048576 s wa HCa.out HCC.out HSZ.out).mono ?_); rintro e wb ⟨rfl, hb⟩; have HXb := zz31 (zz11 HXa.out hb); have HBb := zz31 (zz4 HBa.out hb); have HCb := zz31 (Kd.C_below HCa.out hb); clear f1 f2; have f1 := zz9 HXb.out 0; have f2 := zz9 HXb.out 1; simp only [List.getElem?_toArray, List.getElem?_cons_zero, List.getElem?_cons_succ] at f1 f2; clear hb) | (fail "no arm"))
  refine bodyPost_ret (results_tmp rfl _ _ _) rfl ?_
  exact ⟨rfl,by repeat first | exact HBb.out | apply zz0 | apply below_drew⟩
 ·rw [if_neg hneg] at h
  obtain ⟨⟨p1,p2⟩,hp,h⟩:=zz30.1 h
  obtain ⟨⟨W1,W2⟩,hw,h⟩:=zz30.1 h
  obtain ⟨⟨G1,G2⟩,hg,h⟩:=zz30.1 h
  obtain ⟨e1,he1,h⟩:=zz30.1 h
  obtain ⟨e2,he2,h⟩:=zz30.1 h
  obtain ⟨⟨m1,m2⟩,hmp,h⟩:=zz30.1 h
  obtain ⟨⟨n1,n2⟩,hm,h⟩:=zz30.1 h
  obtain ⟨q,hq,h⟩:=zz30.1 h
  dsimp only at hw hg he1 he2 hmp hm hq h
  by_cases hc:(e1=true∧G2=W2∧e2=true)∧0≤m1∧0≤q∧q=n1
  case neg=>rw [if_neg hc] at h;exact absurd h (by simp)
  rw [if_pos hc] at h
  injection h with h
  subst h
  obtain ⟨⟨rfl,rfl,rfl⟩,hm0,hn0,rfl⟩:=hc
  have HP:=zz31 hp
  have HW:=zz31 hw
  have HG:=zz31 hg
  have HE1:=zz31 he1
  have HE2:=zz31 he2
  have HMP:=zz31 hmp
  have HM:=zz31 hm
  have HQ:=zz31 hq
  have hd:decide (s < 0)=false:=decide_eq_false hneg
  have hd1:decide (m1 < 0)=false:=decide_eq_false (by omega)
  have hd2:decide (q < 0)=false:=decide_eq_false (by omega)
  clear hp hw hg he1 he2 hmp hm hq hneg hm0 hn0
  go_enter Try.func8,Try.ntmps8
  go_upto_region 7 with (first | ((with_reducible refine gate_dst (N := 1) rfl ?_); refine box_event ?hg (N := 1) ?hd (cs := #[.int .i64 a0_0, .slice A0_1 l0_1.length c0_1]) (t := 24) ?hr ?_; (case hd => rfl); (case hg => rfl); (case hr => first | (go_simp; done) | (go_simp; rfl)); intro gb hg wa hbox hb; have HXa := zz31 hbox; have HBa := zz31 (zz4 (w := w) (by repeat (first | exact Below.refl _ _ | apply zz0 | apply below_drew | apply zz2)) hb); have HCa := zz31 (Kd.C_below HC.out HBa.out); have f1 := zz9 HXa.out 0; have f2 := zz9 HXa.out 1; simp only [List.getElem?_toArray, List.getElem?_cons_zero, List.getElem?_cons_succ] at f1 f2; clear hbox hb hg) | (go_at_call 9; (with_reducible refine (laws_szParty.calls a0_0 A0_1 c0_1 l0_1 1048576 s wa HCa.out HCC.out HSZ.out).mono ?_); rintro e wb ⟨rfl, hb⟩; have HXb := zz31 (zz11 HXa.out hb); have HBb := zz31 (zz4 HBa.out hb); have HCb := zz31 (Kd.C_below HCa.out hb); clear f1 f2; have f1 := zz9 HXb.out 0; have f2 := zz9 HXb.out 1; simp only [List.getElem?_toArray, List.getElem?_cons_zero, List.getElem?_cons_succ] at f1 f2; clear hb) | (go_at_call 11; (with_reducible refine (laws_toParty.calls k a0_0 A0_1 c0_1 l0_1 p1 p2 wb HCb.out HCC.out HP.out).mono ?_); rintro e wc ⟨vc, rfl, ho, hb⟩; obtain ⟨Ac, cc, rfl⟩ := Kd.R_slice ho; have HPc := zz31 (Kd.R_reads' ho).2; have HXc := zz31 (zz11 HXb.out hb); have HBc := zz31 (zz4 HBb.out hb); have HCx := zz31 (Kd.C_below HCb.out hb); clear f1 f2; clear ho hb) | (go_at_call 27; (with_reducible refine (spec_GroupsOfParty.calls k p1 Ac cc p2 W1 G2 wc HPc.out.2 HPc.out.1 HW.out).mono ?_); rintro e wd ⟨vd, rfl, ho, hb⟩; obtain ⟨Ad, cd, rfl⟩ := Kd.S_slice ho; have HWd := zz31 (Kd.S_reads' ho).2; have HXd := zz31 (zz11 HXc.out hb); have HBd := zz31 (zz4 HBc.out hb); have HCd := zz31 (Kd.C_below HCx.out hb); have f1 := zz9 HXd.out 0; have f2 := zz9 HXd.out 1; simp only [List.getElem?_toArray, List.getElem?_cons_zero, List.getElem?_cons_succ] at f1 f2; clear ho hb) | (go_at_call 11; (with_reducible refine (laws_toParty.calls k a0_0 A0_1 c0_1 l0_1 p1 p2 wd HCd.out HCC.out HP.out).mono ?_); rintro e we ⟨ve, rfl, ho, hb⟩; obtain ⟨Ae, ce, rfl⟩ := Kd.R_slice ho; have HPe := zz31 ho; have HDe := zz31 hb; clear f1 f2; clear ho hb) | ((with_reducible refine gate_dst (N := 6) rfl ?_); refine box_event ?hg (N := 6) ?hd (cs := #[.int .i64 0, .slice none 0 0]) (t := 31) ?hr ?_; (case hd => rfl); (case hg => rfl); (case hr => first | (go_simp; done) | (go_simp; rfl)); intro gx hg wf hbox hb; have HXf := zz31 hbox; have HDf := zz31 (zz4 HDe.out hb); have HPf := zz31 (Kd.R_below HPe.out hb); have HGX := zz31 (show wd.heap.size ≤ gx from by rw [hg]; exact HDe.out.size); have g1 := zz9 HXf.out 0; have g2 := zz9 HXf.out 1; simp only [List.getElem?_toArray, List.getElem?_cons_zero, List.getElem?_cons_succ] at g1 g2; have g3 := zz10 HXf.out 0; have g4 := zz10 HXf.out 1; clear hbox hb hg) | (fail "no arm"))
  have HXg:Aside0 (((wf.setCell ⟨gx,0,none⟩ (.int .i64 p1)).setCell ⟨gx,1,none⟩ (.slice Ae p2.length ce)).heap[gx]?=some (.cells #[.int .i64 p1,.slice Ae p2.length ce] 31 (0,0))):=⟨blk_put (cs:=#[.int .i64 p1,.slice none 0 0]) (blk_put (cs:=#[.int .i64 0,.slice none 0 0]) HXf.out 0 _ rfl) 1 _ rfl⟩
  have HDg:Aside0 (Below wd.heap.size wd ((wf.setCell ⟨gx,0,none⟩ (.int .i64 p1)).setCell ⟨gx,1,none⟩ (.slice Ae p2.length ce))):=⟨zz3 (zz3 HDf.out HGX.out) HGX.out⟩
  have HPg:Aside0 (Kd.R k79 79 ((wf.setCell ⟨gx,0,none⟩ (.int .i64 p1)).setCell ⟨gx,1,none⟩ (.slice Ae p2.length ce)) wd.heap.size (fun k=>True∧k ≠ gx) (.slice Ae p2.length ce) p2):=⟨Kd.R_far (p:=⟨gx,1,none⟩) (Kd.R_far (p:=⟨gx,0,none⟩) (Kd.R_types HPf.out HXf.out (by decide)) (fun _ hk=>hk.2) (.int .i64 p1)) (fun _ hk=>hk.2) (.slice Ae p2.length ce)⟩
  clear g1 g2 g3 g4
  generalize ((wf.setCell ⟨gx,0,none⟩ (.int .i64 p1)).setCell ⟨gx,1,none⟩ (.slice Ae p2.length ce))=wg at HXg HDg HPg ⊢
  have HXb2:=zz31 (zz11 HXd.out HDg.out)
  have HPX:=zz31 (fun k (hk:some k=(Value.slice Ae p2.length ce).ownBlock)=>Kd.R_lt HPg.out k hk.symm)
  have f1:=zz9 HXd.out 0
  have f2:=zz9 HXd.out 1
  simp only [List.getElem?_toArray,List.getElem?_cons_zero,List.getElem?_cons_succ] at f1 f2
  have g1:=zz9 HXg.out 0
  have g2:=zz9 HXg.out 1
  simp only [List.getElem?_toArray,List.getElem?_cons_zero,List.getElem?_cons_succ] at g1 g2
  clear f1 f2
  go_upto_region 10 with (first | (go_at_call 28; (with_reducible refine (impl_GroupsOfParty.calls k p1 Ae ce p2 G1 G2 wg (Kd.R_reads' HPg.out).2.2 (Kd.R_reads' HPg.out).2.1 HG.out).mono ?_); rintro e wh ⟨vh, rfl, ho, hb⟩; obtain ⟨Ah, ch, rfl⟩ := Kd.S_slice ho; have HGh := zz31 ho; have HDh := zz31 (zz4 HDg.out hb); have HPh := zz31 (Kd.R_below HPg.out hb); have HXh := zz31 (zz11 HXg.out hb); clear g1 g2; clear ho hb) | (go_at_call 29; (with_reducible refine (laws_eqIntSS.calls k Ah ch G1 Ad cd W1 true wh (Kd.S_reads' HGh.out).2.2 (Kd.S_reads' HGh.out).2.1 (Kd.C_below HWd.out.2 HDh.out) HWd.out.1 HE1.out).mono ?_); rintro e w' ⟨rfl, hd⟩; obtain ⟨q1, hq1⟩ := hd.out; subst hq1; clear hd) | (fail "no arm"))
  have HGi:=zz31 (zz16 HGh.out q1)
  have HDi:=zz31 (zz0 HDh.out q1)
  have HPi:=zz31 (zz13 HPh.out q1)
  have HXi:=zz31 (zz6 HXh.out q1)
  have HPxc:=zz31 (Kd.R_reads' HPh.out).2.1
  generalize wh.drewN q1=wi at HGi HDi HPi HXi ⊢
  have HYi:=zz31 (zz11 HXd.out HDi.out)
  have HCi:=zz31 (Kd.C_below HCd.out HDi.out)
  have HL1:=zz31 (blk_lt HYi.out)
  have HL2:=zz31 (blk_lt HXi.out)
  have f1:=zz9 HYi.out 0
  have f2:=zz9 HYi.out 1
  simp only [List.getElem?_toArray,List.getElem?_cons_zero,List.getElem?_cons_succ] at f1 f2
  have g1:=zz9 HXi.out 0
  have g2:=zz9 HXi.out 1
  simp only [List.getElem?_toArray,List.getElem?_cons_zero,List.getElem?_cons_succ] at g1 g2
  go_region_held3 (fun w' => (w'.cell? ⟨gb, 0, none⟩ = some (.int .i64 a0_0) ∧ w'.cell? ⟨gb, 1, none⟩ = some (.slice A0_1 l0_1.length c0_1)) ∧ w'.cell? ⟨gx, 0, none⟩ = some (.int .i64 p1) ∧ w'.cell? ⟨gx, 1, none⟩ = some (.slice Ae p2.length ce)) (first | go_keep | exact ⟨⟨f1, f2⟩, g1, g2⟩ | exact ⟨⟨(HDij.out.cell (p := ⟨gb, 0, none⟩) HL1.out).trans f1, (HDij.out.cell (p := ⟨gb, 1, none⟩) HL1.out).trans f2⟩, (HDij.out.cell (p := ⟨gx, 0, none⟩) HL2.out).trans g1, (HDij.out.cell (p := ⟨gx, 1, none⟩) HL2.out).trans g2⟩ | exact ⟨⟨(HDik.out.cell (p := ⟨gb, 0, none⟩) HL1.out).trans f1, (HDik.out.cell (p := ⟨gb, 1, none⟩) HL1.out).trans f2⟩, (HDik.out.cell (p := ⟨gx, 0, none⟩) HL2.out).trans g1, (HDik.out.cell (p := ⟨gx, 1, none⟩) HL2.out).trans g2⟩) (first | (go_at_call 11; (with_reducible refine (laws_toParty.calls k a0_0 A0_1 c0_1 l0_1 p1 p2 _ ?_ HCC.out HP.out).mono ?_); (repeat (first | exact HCi.out | (with_reducible refine zz19 ?_ _) | (with_reducible refine zz20 ?_))); rintro e wj ⟨vj, rfl, ho, hb⟩; obtain ⟨Aj, cj, rfl⟩ := Kd.R_slice ho; have HPj := zz31 (Kd.R_reads' ho).2; have HDij := zz31 (zz4 (w := wi) (by repeat (first | exact Below.refl _ _ | apply zz0 | apply below_drew)) hb); have HPx := zz31 (Kd.C_below (Kd.R_reads' HPi.out).2.2 HDij.out); clear ho hb) | (go_at_call 15; (with_reducible refine (laws_eqParty.calls k p1 Ae ce p2 p1 Aj cj p2 true _ ?_ HPxc.out ?_ HPj.out.1 HE2.out).mono ?_); (repeat (first | exact HPx.out | (with_reducible refine zz19 ?_ _) | (with_reducible refine zz20 ?_))); (repeat (first | exact HPj.out.2 | (with_reducible refine zz19 ?_ _) | (with_reducible refine zz20 ?_))); rintro e wk ⟨rfl, hb⟩; have HDik := zz31 (zz4 (w := wi) (by repeat (first | exact HDij.out | apply zz0 | apply below_drew)) hb); clear hb) | (fail "no arm"))
  have HDk:=zz31 (HDi.out.trans (HDik.out.mono HDi.out.size))
  have HGk:=zz31 (Kd.S_bound (Kd.S_below HGi.out HDik.out))
  have HPk:=zz31 (Kd.R_below HPi.out HDik.out)
  have HXk:=zz31 (zz11 HXi.out HDik.out)
  clear f1 f2 g1 g2
  have g1:=zz9 HXk.out 0
  have g2:=zz9 HXk.out 1
  simp only [List.getElem?_toArray,List.getElem?_cons_zero,List.getElem?_cons_succ] at g1 g2
  have f1:=g1
  have f2:=g2
  go_wp2_with (first | (go_at_call 16; (with_reducible refine (laws_markParty.calls k p1 (fun k => some k = (Value.slice Ae p2.length ce).ownBlock) (.slice Ae p2.length ce) p2 1 m1 m2 wd wk HDk.out (Kd.R_tight rfl HPk.out) HMP.out).mono ?_); rintro e wl ⟨rfl, -, hB, hK⟩; have HDl := zz31 hB; have HGl := zz31 (Kd.S_step HGk.out (fun k hk hlt => hK.2 k hlt (fun he => by have := HPX.out k he; have := hk.2.1; omega))); clear hB hK) | (go_at_call 29; (with_reducible refine (laws_eqIntSS.calls k Ah ch G1 Ad cd W1 true wl (Kd.S_reads' HGl.out).2.2 (Kd.S_reads' HGl.out).2.1 (Kd.C_below HWd.out.2 HDl.out) HWd.out.1 HE1.out).mono ?_); rintro e w' ⟨rfl, hd⟩; obtain ⟨q2, hq2⟩ := hd.out; subst hq2; have HGl2 := zz31 (Kd.S_lower (Kd.S_mono (zz16 HGl.out q2) (fun k hk => hk.2.1)) HDg.out.size); have HDl2 := zz31 (zz0 HDl.out q2); clear hd) | (go_at_call 30; (with_reducible refine (laws_markIntSS.calls k (fun k => wg.heap.size ≤ k) (.slice Ah G1.length ch) G1 1 q n2 wd (wl.drewN q2) HDl2.out HGl2.out HM.out).mono ?_); rintro e wm ⟨rfl, hS, hB, -⟩; have HDm := zz31 hB; have HGm := zz31 hS; have HNL := zz31 (Kd.S_reads' hS).1; have HNc := zz31 (Kd.S_reads' hS).2.1; rw [HNL.out] at HNc; have HXm := zz31 (zz11 HXd.out HDm.out); clear f1 f2; have f1 := zz9 HXm.out 0; have f2 := zz9 HXm.out 1; simp only [List.getElem?_toArray, List.getElem?_cons_zero, List.getElem?_cons_succ] at f1 f2; clear hS hB) | (go_at_call 31; rw [HNL.out]; (with_reducible refine (laws_heldIntSS.calls k Ah ch n2 1 q wm (Kd.S_reads' HGm.out).2.2 HNc.out HQ.out).mono ?_); rintro e w' ⟨rfl, hd⟩; obtain ⟨q3, hq3⟩ := hd.out; subst hq3; have HDm3 := zz31 (zz0 HDm.out q3); have HGm3 := zz31 (zz16 HGm.out q3); have HCm3 := zz31 (Kd.C_below HCd.out HDm3.out); clear hd) | (go_at_call 11; (with_reducible refine (laws_toParty.calls k a0_0 A0_1 c0_1 l0_1 p1 p2 (wm.drewN q3) HCm3.out HCC.out HP.out).mono ?_); rintro e wn ⟨vn, rfl, ho, hb⟩; obtain ⟨An, cn, rfl⟩ := Kd.R_slice ho; have HPn := zz31 (Kd.R_reads' ho).2; have HDn := zz31 (zz4 HDm3.out hb); have HGn := zz31 (Kd.S_below HGm3.out hb); clear f1 f2; clear ho hb) | (go_at_call 28; (with_reducible refine (impl_GroupsOfParty.calls k p1 An cn p2 G1 G2 wn HPn.out.2 HPn.out.1 HG.out).mono ?_); rintro e wo ⟨vo, rfl, ho, hb⟩; obtain ⟨Ao, co, rfl⟩ := Kd.S_slice ho; have HHo := zz31 (Kd.S_reads' ho).2; have HDo := zz31 (zz4 HDn.out hb); have HGo := zz31 (Kd.S_below HGn.out hb); clear ho hb) | (go_at_call 29; (with_reducible refine (laws_eqIntSS.calls k Ao co G1 Ad cd W1 true wo HHo.out.2 HHo.out.1 (Kd.C_below HWd.out.2 HDo.out) HWd.out.1 HE1.out).mono ?_); rintro e w' ⟨rfl, hd⟩; obtain ⟨q4, hq4⟩ := hd.out; subst hq4; have HGo4 := zz31 (zz16 HGo.out q4); clear hd) | (go_at_call 31; rw [HNL.out]; (with_reducible refine (laws_heldIntSS.calls k Ah ch n2 1 q (wo.drewN q4) (Kd.S_reads' HGo4.out).2.2 HNc.out HQ.out).mono ?_); rintro e w' ⟨rfl, hd⟩; obtain ⟨q5, hq5⟩ := hd.out; subst hq5; clear hd) | (fail "no arm"))
  refine bodyPost_ret (results_tmp rfl _ _ _) rfl ?_
  exact ⟨rfl,by repeat first | exact (HBd.out.trans (HDo.out.mono HBd.out.size)) | apply zz0 | apply below_drew⟩

end Go.Proofs.Ytifkaefccghgdaa.P
