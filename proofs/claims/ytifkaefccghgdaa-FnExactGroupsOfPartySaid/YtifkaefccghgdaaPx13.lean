-- PRINTED by print.py (a twelfth state) out of the translation. Not trusted: Lean checks it.
import Derived.Test.YtifkaefccghgdaaPx0
import Derived.Test.YtifkaefccghgdaaPx1
import Derived.Test.YtifkaefccghgdaaPx5
import Derived.Test.YtifkaefccghgdaaPx9
import Derived.Test.YtifkaefccghgdaaPx11
namespace Go.Proofs.Ytifkaefccghgdaa.P
open Go.RowKit Go.Proofs.YtifkaefccghgdaaW.PrintWords Go.Proofs.YtifkaefccghgdaaW.PrintLast Go.Proofs.YtifkaefccghgdaaW.PrintMore
open Bool renaming true → T, false → F
attribute [local go_sem] max2_int min2_int max_two min_two max_three min_three max_four min_four   -- for this text's walks alone
set_option linter.unusedVariables false
set_option linter.unusedSimpArgs false

/-! ### spec_paOf: function 74 -/
mutual
def spec_paOf.l0:Nat→List (List Bool)→Int→Int→Int→List (S79)→Option (Int × (List (S79)))
 | 0,_,_,_,_,_=>none
 | k+1,x0,x10,x11,x466000,x466001=>if x11 < x10 then (spec_paOf.l1 k x0 x11 (wrap64 (x11+1)) x10 x11 x466000 x466001) else (some (x466000,x466001))
def spec_paOf.l1:Nat→List (List Bool)→Int→Int→Int→Int→Int→List (S79)→Option (Int × (List (S79)))
 | 0,_,_,_,_,_,_,_=>none
 | k+1,x0,x4,x5,x10,x11,x466000,x466001=>if x5 < (x0.length:Int) then (if 0≤x4 then (if x4 < (x0.length:Int) then (if 0≤x5 then (if x5 < ((rd_L4 x0 x4).length:Int) then (if rdOf false (rd_L4 x0 x4) x5=true then (if x466001.length < 8796093022208 then (spec_paOf.l1 k x0 x4 (wrap64 (x5+1)) x10 x11 x466000 (x466001 ++ [(⟨x4,x5⟩:S79)])) else (none)) else (spec_paOf.l1 k x0 x4 (wrap64 (x5+1)) x10 x11 x466000 x466001)) else (none)) else (none)) else (none)) else (none)) else (spec_paOf.l0 k x0 x10 (wrap64 (x11+1)) x466000 x466001)
end
def spec_paOf.f (k:Nat) (l0:List (List Bool)):Option (Int × (List (S79))):=spec_paOf.l0 k l0 (l0.length:Int) 0 (l0.length:Int) ([]:List (S79))
theorem spec_paOf.mono_l:∀ k,(∀ y0 y1 y2 y3 y4,LeO (spec_paOf.l0 k y0 y1 y2 y3 y4) (spec_paOf.l0 (k+1) y0 y1 y2 y3 y4))∧(∀ y0 y1 y2 y3 y4 y5 y6,LeO (spec_paOf.l1 k y0 y1 y2 y3 y4 y5 y6) (spec_paOf.l1 (k+1) y0 y1 y2 y3 y4 y5 y6))
 | 0=>⟨fun _ _ _ _ _ r h=>by simp [spec_paOf.l0] at h,fun _ _ _ _ _ _ _ r h=>by simp [spec_paOf.l1] at h⟩
 | k+1=>by
  obtain ⟨ih0,ih1⟩:=spec_paOf.mono_l k
  refine ⟨?_,?_⟩
  ·intro y0 y1 y2 y3 y4
   unfold spec_paOf.l0
   repeat' first
   | (with_reducible exact ih0 _ _ _ _ _)
   | (with_reducible exact ih1 _ _ _ _ _ _ _)
   | (with_reducible exact LeO.refl _)
   | (with_reducible exact LeO.none _)
   | (with_reducible refine LeO.ite ?_ ?_)
   | (with_reducible refine LeO.bind ?_ (fun _=>?_))
   | exact ih0 _ _ _ _ _
   | exact ih1 _ _ _ _ _ _ _
   | exact LeO.none _
   | refine LeO.ite ?_ ?_
   | refine LeO.bind ?_ (fun _=>?_)
  ·intro y0 y1 y2 y3 y4 y5 y6
   unfold spec_paOf.l1
   repeat' first
   | (with_reducible exact ih0 _ _ _ _ _)
   | (with_reducible exact ih1 _ _ _ _ _ _ _)
   | (with_reducible exact LeO.refl _)
   | (with_reducible exact LeO.none _)
   | (with_reducible refine LeO.ite ?_ ?_)
   | (with_reducible refine LeO.bind ?_ (fun _=>?_))
   | exact ih0 _ _ _ _ _
   | exact ih1 _ _ _ _ _ _ _
   | exact LeO.none _
   | refine LeO.ite ?_ ?_
   | refine LeO.bind ?_ (fun _=>?_)
theorem spec_paOf.mono:∀ a0 k,LeO (spec_paOf.f k a0) (spec_paOf.f (k+1) a0):=by
 intro a0 k
 obtain ⟨ih0,ih1⟩:=spec_paOf.mono_l k
 unfold spec_paOf.f
 repeat' first
   | (with_reducible exact ih0 _ _ _ _ _)
   | (with_reducible exact ih1 _ _ _ _ _ _ _)
   | (with_reducible exact LeO.refl _)
   | (with_reducible exact LeO.none _)
   | (with_reducible refine LeO.ite ?_ ?_)
   | (with_reducible refine LeO.bind ?_ (fun _=>?_))
   | exact ih0 _ _ _ _ _
   | exact ih1 _ _ _ _ _ _ _
   | exact LeO.none _
   | refine LeO.ite ?_ ?_
   | refine LeO.bind ?_ (fun _=>?_)
set_option maxHeartbeats 8000000 in
set_option maxRecDepth 100000 in
theorem spec_paOf.calls (k:Nat) (A0:Option Addr) (c0:Nat) (l0:List (List Bool)) (r1:Int) (r2:List (S79)) (w:World) (hr0:Kd.C (Kd.slice 4 Kd.bool) w A0 l0.length l0) (hc0:l0.length≤c0) (h:spec_paOf.f k l0=some (r1,r2)) :
  Calls Try.prog 74 #[.slice A0 l0.length c0] w fun e w'=>∃ v1_:Value,e=.returned (.agg #[.int .i64 r1,v1_])∧Kd.R k79 79 w' w.heap.size (fun _=>True) v1_ r2∧Below w.heap.size w w':=by
 have hu31:=Try.underlying31
 have hu79:=Try.underlying79
 have HR0:=zz31 hr0
 have HC0:=zz31 hc0
 clear hr0 hc0
 have HB:=zz31 (Below.refl w.heap.size w)
 have H:(spec_paOf.l0 k l0 (l0.length:Int) 0 (l0.length:Int) ([]:List (S79)))=some (r1,r2):=h
 clear h
 have H':=zz31 H
 clear H
 go_enter Try.func74,Try.ntmps74
 go_wp2_with (first | ((with_reducible refine gate_dst (N:=2) rfl ?_);refine box_event ?hg (N:=2) ?hd (cs:=#[.int .i64 0,.slice none 0 0]) (t:=31) ?hr ?_;(case hd=>rfl);(case hg=>rfl);(case hr=>first | (go_simp;done) | (go_simp;rfl));intro gb464 hg w2 hbox hb;have n0_:=zz31 (zz4 (by repeat first | exact HB.out | apply zz2 | apply zz0 | apply zz1) hb);have n1_:=zz31 (hbox);have n2_:=zz31 ((by rw [hg];exact (zz5 (by repeat first | exact HB.out | apply zz2 | apply zz0 | apply zz1)):w.heap.size≤gb464));have n3_:=zz31 ((by rw [hg];exact (zz5 (by repeat first | exact HB.out | apply zz2 | apply zz0 | apply zz1)):w.heap.size≤gb464));clear HB;have HB:=n0_;have BK464:=n1_;have GW464:=n2_;have GE464:=n3_;clear n0_ n1_ n2_ n3_;clear hb hbox hg) | ((with_reducible refine gate_dst (N:=3) rfl ?_);refine box_event ?hg (N:=3) ?hd (cs:=#[.int .i64 0,.slice none 0 0]) (t:=31) ?hr ?_;(case hd=>rfl);(case hg=>rfl);(case hr=>first | (go_simp;done) | (go_simp;rfl));intro gb465 hg w3 hbox hb;have n0_:=zz31 (zz11 (g:=gb464) (o:=.cells #[.int .i64 0,.slice none 0 0] 31 (0,0)) (by (with_reducible repeat (first | refine zz6 ?_ _ | refine zz7 ?_ | refine zz8 ?_ _));exact BK464.out) hb);have n1_:=zz31 (zz4 (by repeat first | exact HB.out | apply zz2 | apply zz0 | apply zz1 | refine zz3 ?_ GE464.out) hb);have n2_:=zz31 (hbox);have n3_:=zz31 ((by rw [hg];exact (zz5 (by repeat first | exact HB.out | apply zz2 | apply zz0 | apply zz1 | refine zz3 ?_ GE464.out)):w.heap.size≤gb465));have n4_:=zz31 ((by rw [hg];exact (zz5 (by repeat first | exact HB.out | apply zz2 | apply zz0 | apply zz1 | refine zz3 ?_ GE464.out)):w.heap.size≤gb465));have n5_:=zz31 ((by rw [hg];exact Nat.ne_of_lt (blk_lt (g:=gb464) (o:=.cells #[.int .i64 0,.slice none 0 0] 31 (0,0)) (by (with_reducible repeat (first | refine zz6 ?_ _ | refine zz7 ?_ | refine zz8 ?_ _));exact BK464.out)):gb464 ≠ gb465));have n6_:=zz31 ((by rw [hg];exact Nat.ne_of_gt (blk_lt (g:=gb464) (o:=.cells #[.int .i64 0,.slice none 0 0] 31 (0,0)) (by (with_reducible repeat (first | refine zz6 ?_ _ | refine zz7 ?_ | refine zz8 ?_ _));exact BK464.out)):gb465 ≠ gb464));clear BK464;clear HB;have BK464:=n0_;have HB:=n1_;have BK465:=n2_;have GW465:=n3_;have GE465:=n4_;have NB464_465:=n5_;have NB465_464:=n6_;clear n0_ n1_ n2_ n3_ n4_ n5_ n6_;clear hb hbox hg;have hnb4:=NB465_464.out;have hnc4:=NB464_465.out;have hcz5_0:w3.cell? ⟨gb465,0,none⟩=some (.int .i64 0):=(zz9 BK465.out 0).trans rfl;have hcz5_1:w3.cell? ⟨gb465,1,none⟩=some (.slice none 0 0):=(zz9 BK465.out 1).trans rfl;have hfz5_0:=zz10 BK465.out 0;have hfz5_1:=zz10 BK465.out 1))
 go_loopg [11] k (fun kq v11 w'=>∃ (x11_1:Int) (x466001_1:List (S79)) (u466001:Value),v11=.int .i64 x11_1∧Aside0 (spec_paOf.l0 kq l0 (l0.length:Int) x11_1 (l0.length:Int) x466001_1=some (r1,r2))∧Aside0 (kq≤k)∧Aside0 (Kd.R k79 79 w' w.heap.size (fun _=>True) u466001 x466001_1)∧Aside0 (w'.heap[gb464]?=some (.cells #[.int .i64 0,(.slice none 0 0)] 31 (0,0)))∧Aside0 (w'.heap[gb465]?=some (.cells #[.int .i64 (l0.length:Int),u466001] 31 (0,0)))∧Aside0 (Below w.heap.size w w'))
 case atStart=>exact ⟨(0),(([]:List (S79))),(.slice none 0 0),(by first | rfl | (simp;done) | (simp [*];done)),H',⟨Nat.le_refl _⟩,⟨by first | exact Kd.R_nil _ _ _ _ _ | exact Kd.N_nil _ _ _ _ _ | exact Kd.V_nil _ _ _ _ _ | exact Kd.Q_nil _ _ _ _ _ | exact Kd.S_nil _ _ _ _ _⟩,⟨by (with_reducible repeat (first | refine zz6 ?_ _ | refine zz7 ?_ | refine zz8 ?_ _));refine blk_far ?_ NB464_465.out _;(with_reducible repeat (first | refine zz6 ?_ _ | refine zz7 ?_ | refine zz8 ?_ _));refine blk_far ?_ NB464_465.out _;(with_reducible repeat (first | refine zz6 ?_ _ | refine zz7 ?_ | refine zz8 ?_ _));exact BK464.out⟩,⟨by (with_reducible repeat (first | refine zz6 ?_ _ | refine zz7 ?_ | refine zz8 ?_ _));refine blk_put (cs:=#[.int .i64 (l0.length:Int),.slice none 0 0]) ?_ 1 _ rfl;(with_reducible repeat (first | refine zz6 ?_ _ | refine zz7 ?_ | refine zz8 ?_ _));refine blk_put (cs:=#[.int .i64 0,.slice none 0 0]) ?_ 0 _ rfl;(with_reducible repeat (first | refine zz6 ?_ _ | refine zz7 ?_ | refine zz8 ?_ _));exact BK465.out⟩,⟨by repeat first | exact HB.out | apply zz2 | apply zz0 | apply zz1 | refine zz3 ?_ GE464.out | refine zz3 ?_ GE465.out⟩⟩
 case round =>
  clear H'
  try clear p2
  try clear c4
  try clear hcz5_0
  try clear hcz5_1
  try clear hfz5_0
  try clear hfz5_1
  obtain ⟨x11_1,x466001_1,u466001,rfl,HA,HK1,HO_466001,BK464,BK465,HB⟩:=hrel
  cases gk with
  | zero=>exact absurd HA.out (by simp [spec_paOf.l0])
  | succ k1 =>
   have H:=HA.out
   clear HA
   simp only [spec_paOf.l0] at H
   by_cases c6:x11_1 < (l0.length:Int)
   ·rw [if_pos c6] at H
    have c6b0:decide (x11_1 < (l0.length:Int))=true:=decide_eq_true c6
    clear c6
    have H':=zz31 H
    clear H
    go_wp2
    go_loopg [5] k1 (fun kq v5 w'=>∃ (x5_2:Int) (x466001_2:List (S79)) (u466001:Value),v5=.int .i64 x5_2∧Aside0 (spec_paOf.l1 kq l0 x11_1 x5_2 (l0.length:Int) x11_1 (l0.length:Int) x466001_2=some (r1,r2))∧Aside0 (kq≤k1)∧Aside0 (Kd.R k79 79 w' w.heap.size (fun _=>True) u466001 x466001_2)∧Aside0 (w'.heap[gb464]?=some (.cells #[.int .i64 0,(.slice none 0 0)] 31 (0,0)))∧Aside0 (w'.heap[gb465]?=some (.cells #[.int .i64 (l0.length:Int),u466001] 31 (0,0)))∧Aside0 (Below w.heap.size w w'))
    case atStart=>exact ⟨(wrap64 (x11_1+1)),(x466001_1),(u466001),(by first | rfl | (simp;done) | (simp [*];done)),H',⟨Nat.le_refl _⟩,⟨by (with_reducible repeat (first | apply zz12 | apply zz13 | apply zz14));exact HO_466001.out⟩,⟨by (with_reducible repeat (first | refine zz6 ?_ _ | refine zz7 ?_ | refine zz8 ?_ _));exact BK464.out⟩,⟨by (with_reducible repeat (first | refine zz6 ?_ _ | refine zz7 ?_ | refine zz8 ?_ _));exact BK465.out⟩,⟨by repeat first | exact HB.out | apply zz2 | apply zz0 | apply zz1 | refine zz3 ?_ GE464.out | refine zz3 ?_ GE465.out⟩⟩
    case round =>
     clear H'
     try clear p2
     try clear c4
     try clear c6
     try clear c6b0
     try clear p6
     try clear hcz5_0
     try clear hcz5_1
     try clear hfz5_0
     try clear hfz5_1
     try clear p2
     obtain ⟨x5_2,x466001_2,u466001,rfl,HA,HK2,HO_466001,BK464,BK465,HB⟩:=hrel
     cases gk with
     | zero=>exact absurd HA.out (by simp [spec_paOf.l1])
     | succ k2 =>
      have H:=HA.out
      clear HA
      simp only [spec_paOf.l1] at H
      by_cases c7:x5_2 < (l0.length:Int)
      ·rw [if_pos c7] at H
       have c7b0:decide (x5_2 < (l0.length:Int))=true:=decide_eq_true c7
       clear c7
       by_cases c8:0≤x11_1
       ·rw [if_pos c8] at H
        have c8b0:decide (0≤x11_1)=true:=decide_eq_true c8
        clear c8
        by_cases c9:x11_1 < (l0.length:Int)
        ·rw [if_pos c9] at H
         have c9b0:decide (x11_1 < (l0.length:Int))=true:=decide_eq_true c9
         clear c9
         by_cases c10:0≤x5_2
         ·rw [if_pos c10] at H
          have c10b0:decide (0≤x5_2)=true:=decide_eq_true c10
          clear c10
          by_cases c11:x5_2 < ((rd_L4 l0 x11_1).length:Int)
          ·rw [if_pos c11] at H
           have c11b0:decide (x5_2 < ((rd_L4 l0 x11_1).length:Int))=true:=decide_eq_true c11
           clear c11
           obtain ⟨bq12,hbq12⟩:∃ b_:Bool,b_=(rdOf false (rd_L4 l0 x11_1) x5_2):=⟨_,rfl⟩
           replace H:(if bq12=true then (if x466001_2.length < 8796093022208 then (spec_paOf.l1 k2 l0 x11_1 (wrap64 (x5_2+1)) (l0.length:Int) x11_1 (l0.length:Int) (x466001_2 ++ [(⟨x11_1,x5_2⟩:S79)])) else (none)) else (spec_paOf.l1 k2 l0 x11_1 (wrap64 (x5_2+1)) (l0.length:Int) x11_1 (l0.length:Int) x466001_2))=some (r1,r2):=by rw [← hbq12] at H;exact H
           have Nbq12:=zz31 hbq12
           clear hbq12
           by_cases c13:bq12=true
           ·subst c13
            have H1:(if x466001_2.length < 8796093022208 then (spec_paOf.l1 k2 l0 x11_1 (wrap64 (x5_2+1)) (l0.length:Int) x11_1 (l0.length:Int) (x466001_2 ++ [(⟨x11_1,x5_2⟩:S79)])) else (none))=some (r1,r2):=by rw [if_pos rfl] at H;exact H
            clear H
            have H:=H1
            clear H1
            by_cases c14:x466001_2.length < 8796093022208
            ·rw [if_pos c14] at H
             have LMc14:=zz31 c14
             clear c14
             obtain ⟨y468,hy468⟩:∃ y_:List (S79),y_=(x466001_2 ++ [(⟨x11_1,x5_2⟩:S79)]):=⟨_,rfl⟩
             replace H:(spec_paOf.l1 k2 l0 x11_1 (wrap64 (x5_2+1)) (l0.length:Int) x11_1 (l0.length:Int) y468)=some (r1,r2):=by first | (rw [hy468];with_reducible exact H) | (have H2_:=(Option.bind_some _ _).symm.trans H;rw [hy468];with_reducible exact H2_) | (have H2_:=(Option.bind_some _ _).symm.trans H;with_reducible exact H2_) | with_reducible exact H | (rw [hy468];exact H) | exact H
             have Ny468:=zz31 hy468
             clear hy468
             have H':=zz31 H
             clear H
             have p466:0≤(x11_1:Int):=zz29 (by first | (with_reducible assumption) | assumption)
             have q466:x11_1 < (l0.length:Int):=zz29 (by first | (with_reducible assumption) | assumption)
             obtain ⟨ad466,A466_0,c466_0,e466,hx466_0,hl466_0,hi466_0⟩:=at_L4 HR0.out x11_1 p466 q466
             cases e466
             try replace hx466_0:=(HB.out.cell (World.block_lt_of_cell? w _ hx466_0)).trans hx466_0
             have HR466_0:=zz31 hi466_0
             have HC466_0:=zz31 hl466_0
             clear hi466_0 hl466_0
             replace p466:=eq_true p466
             replace q466:=eq_true q466
             have p467:0≤(x5_2:Int):=zz29 (by first | (with_reducible assumption) | assumption)
             have q467:x5_2 < ((rd_L4 l0 x11_1).length:Int):=zz29 (by first | (with_reducible assumption) | assumption)
             obtain ⟨ad467,e467,hx467_0⟩:=Kd.at_bool HR466_0.out x5_2 p467 q467
             (try rw [← Nbq12.out] at hx467_0)
             cases e467
             try replace hx467_0:=(HB.out.cell (World.block_lt_of_cell? w _ hx467_0)).trans hx467_0
             replace p467:=eq_true p467
             replace q467:=eq_true q467
             have hnb15:=NB465_464.out
             have hnc15:=NB464_465.out
             have hcz16_0:wr.cell? ⟨gb465,0,none⟩=some (.int .i64 (l0.length:Int)):=(zz9 BK465.out 0).trans rfl
             have hcz16_1:wr.cell? ⟨gb465,1,none⟩=some (u466001):=(zz9 BK465.out 1).trans rfl
             have hfz16_0:=zz10 BK465.out 0
             have hfz16_1:=zz10 BK465.out 1
             go_wp2_with (first | ((with_reducible refine gate_builtin (b:=.append) (xs:=#[.tmp 30,.tmp 34]) rfl ?_);at_builtin;refine Kd.R_append k79 (w0:=w) w.heap.size rfl (.tmp 30) (.tmp 34) 29 79 (.agg #[(.int .i64 0),(.int .i64 0)]) 16 rfl Try.underlying29 info79 rfl (by decide) (by omega) u466001 x466001_2 (⟨x11_1,x5_2⟩:S79) [.int .i64 x11_1,.int .i64 x5_2] (fun _=>True) (fun _=>False) rfl rfl ?aP (fun _ hk=>hk.elim) ?aF ?aO ?aB ?aS ?aL ?_;(case aP=>exact k79_mkM _ _ _ (⟨x11_1,x5_2⟩:S79));(case aB=>exact (by repeat first | exact HB.out | apply zz2 | apply zz0 | apply zz1 | refine zz3 ?_ GE464.out | refine zz3 ?_ GE465.out));(case aF=>exact (fun _ _=>trivial));(case aO=>exact (by (with_reducible repeat (first | apply zz12 | apply zz13 | apply zz14));exact HO_466001.out));(case aS=>exact (zz5 (by repeat first | exact HB.out | apply zz2 | apply zz0 | apply zz1 | refine zz3 ?_ GE464.out | refine zz3 ?_ GE465.out)));(case aL=>have:=LMc14.out;omega);intro v469 w17 ho hb hg hat;rw [← Ny468.out] at ho;have n0_:=zz31 (blk_grown (g:=gb464) (o:=.cells #[.int .i64 0,.slice none 0 0] 31 (0,0)) (by (with_reducible repeat (first | refine zz6 ?_ _ | refine zz7 ?_ | refine zz8 ?_ _));exact BK464.out) hg (Kd.R_ne HO_466001.out BK464.out (by decide)));have n1_:=zz31 (blk_grown (g:=gb465) (o:=.cells #[.int .i64 (l0.length:Int),u466001] 31 (0,0)) (by (with_reducible repeat (first | refine zz6 ?_ _ | refine zz7 ?_ | refine zz8 ?_ _));exact BK465.out) hg (Kd.R_ne HO_466001.out BK465.out (by decide)));have n2_:=zz31 (hb);have n3_:=zz31 (ho);clear BK464;clear BK465;clear HB;clear HO_466001;have BK464:=n0_;have BK465:=n1_;have HB:=n2_;have HO470:=n3_;clear n0_ n1_ n2_ n3_;clear ho hb hg hat;obtain ⟨Ao18,co18,eo18⟩:=Kd.R_slice HO470.out;subst eo18;have hcz19_0:w17.cell? ⟨gb465,0,none⟩=some (.int .i64 (l0.length:Int)):=(zz9 BK465.out 0).trans rfl;have hcz19_1:w17.cell? ⟨gb465,1,none⟩=some (u466001):=(zz9 BK465.out 1).trans rfl;have hfz19_0:=zz10 BK465.out 0;have hfz19_1:=zz10 BK465.out 1))
             go_roundg k2
             case measure=>have:=HK1.out;have:=HK2.out;omega
             case rel=>exact ⟨(wrap64 (x5_2+1)),(y468),(.slice Ao18 y468.length co18),(by first | rfl | (simp;done) | (simp [*];done)),H',⟨by have:=HK1.out;have:=HK2.out;omega⟩,⟨by (with_reducible repeat (first | apply zz12 | apply zz13 | apply zz14));exact Kd.R_mono (Kd.R_far (p:=⟨gb465,1,none⟩) (Kd.R_types HO470.out BK465.out (by decide)) (fun _ hk=>hk.2) (.slice Ao18 y468.length co18)) (fun _ hk=>trivial)⟩,⟨by (with_reducible repeat (first | refine zz6 ?_ _ | refine zz7 ?_ | refine zz8 ?_ _));refine blk_far ?_ NB464_465.out _;(with_reducible repeat (first | refine zz6 ?_ _ | refine zz7 ?_ | refine zz8 ?_ _));exact BK464.out⟩,⟨by (with_reducible repeat (first | refine zz6 ?_ _ | refine zz7 ?_ | refine zz8 ?_ _));refine blk_put (cs:=#[.int .i64 (l0.length:Int),u466001]) ?_ 1 _ rfl;(with_reducible repeat (first | refine zz6 ?_ _ | refine zz7 ?_ | refine zz8 ?_ _));exact BK465.out⟩,⟨by repeat first | exact HB.out | apply zz2 | apply zz0 | apply zz1 | refine zz3 ?_ GE464.out | refine zz3 ?_ GE465.out⟩⟩
            ·rw [if_neg c14] at H
             exact absurd H (by simp)
           ·replace c13:=Bool.eq_false_iff.mpr c13
            subst c13
            have H1:(spec_paOf.l1 k2 l0 x11_1 (wrap64 (x5_2+1)) (l0.length:Int) x11_1 (l0.length:Int) x466001_2)=some (r1,r2):=by rw [if_neg (show ¬ (false=true) by decide)] at H;exact H
            clear H
            have H:=H1
            clear H1
            have H':=zz31 H
            clear H
            have p466:0≤(x11_1:Int):=zz29 (by first | (with_reducible assumption) | assumption)
            have q466:x11_1 < (l0.length:Int):=zz29 (by first | (with_reducible assumption) | assumption)
            obtain ⟨ad466,A466_0,c466_0,e466,hx466_0,hl466_0,hi466_0⟩:=at_L4 HR0.out x11_1 p466 q466
            cases e466
            try replace hx466_0:=(HB.out.cell (World.block_lt_of_cell? w _ hx466_0)).trans hx466_0
            have HR466_0:=zz31 hi466_0
            have HC466_0:=zz31 hl466_0
            clear hi466_0 hl466_0
            replace p466:=eq_true p466
            replace q466:=eq_true q466
            have p467:0≤(x5_2:Int):=zz29 (by first | (with_reducible assumption) | assumption)
            have q467:x5_2 < ((rd_L4 l0 x11_1).length:Int):=zz29 (by first | (with_reducible assumption) | assumption)
            obtain ⟨ad467,e467,hx467_0⟩:=Kd.at_bool HR466_0.out x5_2 p467 q467
            (try rw [← Nbq12.out] at hx467_0)
            cases e467
            try replace hx467_0:=(HB.out.cell (World.block_lt_of_cell? w _ hx467_0)).trans hx467_0
            replace p467:=eq_true p467
            replace q467:=eq_true q467
            go_wp2
            go_roundg k2
            case measure=>have:=HK1.out;have:=HK2.out;omega
            case rel=>exact ⟨(wrap64 (x5_2+1)),(x466001_2),(u466001),(by first | rfl | (simp;done) | (simp [*];done)),H',⟨by have:=HK1.out;have:=HK2.out;omega⟩,⟨by (with_reducible repeat (first | apply zz12 | apply zz13 | apply zz14));exact HO_466001.out⟩,⟨by (with_reducible repeat (first | refine zz6 ?_ _ | refine zz7 ?_ | refine zz8 ?_ _));exact BK464.out⟩,⟨by (with_reducible repeat (first | refine zz6 ?_ _ | refine zz7 ?_ | refine zz8 ?_ _));exact BK465.out⟩,⟨by repeat first | exact HB.out | apply zz2 | apply zz0 | apply zz1 | refine zz3 ?_ GE464.out | refine zz3 ?_ GE465.out⟩⟩
          ·rw [if_neg c11] at H
           exact absurd H (by simp)
         ·rw [if_neg c10] at H
          exact absurd H (by simp)
        ·rw [if_neg c9] at H
         exact absurd H (by simp)
       ·rw [if_neg c8] at H
        exact absurd H (by simp)
      ·rw [if_neg c7] at H
       have c7b0:decide (x5_2 < (l0.length:Int))=false:=decide_eq_false c7
       clear c7
       have H':=zz31 H
       clear H
       go_wp2
       go_roundg k2
       case measure=>have:=HK1.out;have:=HK2.out;omega
       case rel=>exact ⟨(wrap64 (x11_1+1)),(x466001_2),(u466001),(by first | rfl | (simp;done) | (simp [*];done)),H',⟨by have:=HK1.out;have:=HK2.out;omega⟩,⟨by (with_reducible repeat (first | apply zz12 | apply zz13 | apply zz14));exact HO_466001.out⟩,⟨by (with_reducible repeat (first | refine zz6 ?_ _ | refine zz7 ?_ | refine zz8 ?_ _));exact BK464.out⟩,⟨by (with_reducible repeat (first | refine zz6 ?_ _ | refine zz7 ?_ | refine zz8 ?_ _));exact BK465.out⟩,⟨by repeat first | exact HB.out | apply zz2 | apply zz0 | apply zz1 | refine zz3 ?_ GE464.out | refine zz3 ?_ GE465.out⟩⟩
   ·rw [if_neg c6] at H
    have c6b0:decide (x11_1 < (l0.length:Int))=false:=decide_eq_false c6
    clear c6
    simp only [Option.some.injEq,Prod.mk.injEq] at H
    obtain ⟨rfl,rfl⟩:=H
    have hnb20:=NB465_464.out
    have hnc20:=NB464_465.out
    have hcz21_0:wr.cell? ⟨gb465,0,none⟩=some (.int .i64 (l0.length:Int)):=(zz9 BK465.out 0).trans rfl
    have hcz21_1:wr.cell? ⟨gb465,1,none⟩=some (u466001):=(zz9 BK465.out 1).trans rfl
    have hfz21_0:=zz10 BK465.out 0
    have hfz21_1:=zz10 BK465.out 1
    have hcz22_0:wr.cell? ⟨gb464,0,none⟩=some (.int .i64 0):=(zz9 BK464.out 0).trans rfl
    have hcz22_1:wr.cell? ⟨gb464,1,none⟩=some (.slice none 0 0):=(zz9 BK464.out 1).trans rfl
    have hfz22_0:=zz10 BK464.out 0
    have hfz22_1:=zz10 BK464.out 1
    obtain ⟨Ao23,co23,eo23⟩:=Kd.R_slice HO_466001.out
    subst eo23
    go_wp2
    refine bodyPost_ret (results_cell_row rfl _ _ gb464 31 #[.int .i64 (l0.length:Int),.slice Ao23 x466001_1.length co23] (0,0) _ rfl (by (with_reducible repeat (first | refine zz6 ?_ _ | refine zz7 ?_ | refine zz8 ?_ _));refine blk_put (cs:=#[.int .i64 (l0.length:Int),.slice none 0 0]) ?_ 1 _ rfl;(with_reducible repeat (first | refine zz6 ?_ _ | refine zz7 ?_ | refine zz8 ?_ _));refine blk_put (cs:=#[.int .i64 0,.slice none 0 0]) ?_ 0 _ rfl;(with_reducible repeat (first | refine zz6 ?_ _ | refine zz7 ?_ | refine zz8 ?_ _));exact BK464.out) Try.underlying31 rfl (by kernel_rfl)) rfl ?_
    exact ⟨_,by first | rfl | (simp [errW_none,errW_some] <;> rfl) | (simp [*,errW_none,errW_some] <;> rfl),by (with_reducible repeat (first | apply zz12 | apply zz13 | apply zz14));exact Kd.R_mono (Kd.R_far (p:=⟨gb464,1,none⟩) (Kd.R_far (p:=⟨gb464,0,none⟩) (Kd.R_types HO_466001.out BK464.out (by decide)) (fun _ hk=>hk.2) (.int .i64 (l0.length:Int))) (fun _ hk=>hk.2) (.slice Ao23 x466001_1.length co23)) (fun _ hk=>trivial),by repeat first | exact HB.out | apply zz2 | apply zz0 | apply zz1 | refine zz3 ?_ GE464.out | refine zz3 ?_ GE465.out⟩

/-! ### spec_paOther: function 57 -/
mutual
def spec_paOther.l0:Nat→List (List Bool)→Int→Int→Option (Int × (List (S79)))
 | 0,_,_,_=>none
 | k+1,x3,x9,x10=>if x10 < x9 then (spec_paOther.l1 k x3 x10 x9 x10 (x3.length:Int) 0) else ((spec_paOf.f k x3).bind fun bt476=>(some (bt476.1,bt476.2)))
def spec_paOther.l1:Nat→List (List Bool)→Int→Int→Int→Int→Int→Option (Int × (List (S79)))
 | 0,_,_,_,_,_,_=>none
 | k+1,x3,x4,x9,x10,x14,x15=>if x15 < x14 then (if 0≤x4 then (if x4 < (x3.length:Int) then (if 0≤x15 then (if x15 < ((rd_L4 x3 x4).length:Int) then (spec_paOther.l1 k (x3.set (x4:Int).toNat ((rd_L4 x3 x4).set (x15:Int).toNat (!(rdOf false (rd_L4 x3 x4) x15)))) x4 x9 x10 x14 (wrap64 (x15+1))) else (none)) else (none)) else (none)) else (none)) else (spec_paOther.l0 k x3 x9 (wrap64 (x10+1)))
end
def spec_paOther.f (k:Nat) (a0_0:Int) (l0_1:List (S79)):Option (Int × (List (S79))):=(spec_paTable.f k a0_0 l0_1).bind fun t473=>(spec_paOther.l0 k t473 (t473.length:Int) 0)
theorem spec_paOther.mono_l:∀ k,(∀ y0 y1 y2,LeO (spec_paOther.l0 k y0 y1 y2) (spec_paOther.l0 (k+1) y0 y1 y2))∧(∀ y0 y1 y2 y3 y4 y5,LeO (spec_paOther.l1 k y0 y1 y2 y3 y4 y5) (spec_paOther.l1 (k+1) y0 y1 y2 y3 y4 y5))
 | 0=>⟨fun _ _ _ r h=>by simp [spec_paOther.l0] at h,fun _ _ _ _ _ _ r h=>by simp [spec_paOther.l1] at h⟩
 | k+1=>by
  obtain ⟨ih0,ih1⟩:=spec_paOther.mono_l k
  refine ⟨?_,?_⟩
  ·intro y0 y1 y2
   unfold spec_paOther.l0
   repeat' first
   | (with_reducible exact ih0 _ _ _)
   | (with_reducible exact ih1 _ _ _ _ _ _)
   | (with_reducible exact spec_paOf.mono _ _)
   | (with_reducible exact spec_paTable.mono _ _ _)
   | (with_reducible exact LeO.refl _)
   | (with_reducible exact LeO.none _)
   | (with_reducible refine LeO.ite ?_ ?_)
   | (with_reducible refine LeO.bind ?_ (fun _=>?_))
   | exact ih0 _ _ _
   | exact ih1 _ _ _ _ _ _
   | exact spec_paOf.mono _ _
   | exact spec_paTable.mono _ _ _
   | exact LeO.none _
   | refine LeO.ite ?_ ?_
   | refine LeO.bind ?_ (fun _=>?_)
  ·intro y0 y1 y2 y3 y4 y5
   unfold spec_paOther.l1
   repeat' first
   | (with_reducible exact ih0 _ _ _)
   | (with_reducible exact ih1 _ _ _ _ _ _)
   | (with_reducible exact spec_paOf.mono _ _)
   | (with_reducible exact spec_paTable.mono _ _ _)
   | (with_reducible exact LeO.refl _)
   | (with_reducible exact LeO.none _)
   | (with_reducible refine LeO.ite ?_ ?_)
   | (with_reducible refine LeO.bind ?_ (fun _=>?_))
   | exact ih0 _ _ _
   | exact ih1 _ _ _ _ _ _
   | exact spec_paOf.mono _ _
   | exact spec_paTable.mono _ _ _
   | exact LeO.none _
   | refine LeO.ite ?_ ?_
   | refine LeO.bind ?_ (fun _=>?_)
theorem spec_paOther.mono:∀ a0 a1 k,LeO (spec_paOther.f k a0 a1) (spec_paOther.f (k+1) a0 a1):=by
 intro a0 a1 k
 obtain ⟨ih0,ih1⟩:=spec_paOther.mono_l k
 unfold spec_paOther.f
 repeat' first
   | (with_reducible exact ih0 _ _ _)
   | (with_reducible exact ih1 _ _ _ _ _ _)
   | (with_reducible exact spec_paOf.mono _ _)
   | (with_reducible exact spec_paTable.mono _ _ _)
   | (with_reducible exact LeO.refl _)
   | (with_reducible exact LeO.none _)
   | (with_reducible refine LeO.ite ?_ ?_)
   | (with_reducible refine LeO.bind ?_ (fun _=>?_))
   | exact ih0 _ _ _
   | exact ih1 _ _ _ _ _ _
   | exact spec_paOf.mono _ _
   | exact spec_paTable.mono _ _ _
   | exact LeO.none _
   | refine LeO.ite ?_ ?_
   | refine LeO.bind ?_ (fun _=>?_)
def spec_paOther.T8:Bool × List (List Nat × List Nat):=(true,[([],[]),([],[]),([0,1],[0,1]),([2],[2]),([],[]),([],[]),([],[]),([5,6],[5,6]),([7],[7]),([],[]),([8,9],[8,9]),([10],[10]),([11],[11]),([3,4,0,1,2,3,4,5,6,7,8,9,10,11,12],[3,4]),([13,12,0,1,2,3,4,5,6,7,8,9,10,11,12],[12,13])])
def spec_paOther.B8:List Nat:=[0,0,3,7,0,0,0,96,224,0,992,2016,4064,8191,16383]
theorem spec_paOther.tab8:rtab .any (opsOf Try.f57 8)=spec_paOther.T8:=by kernel_rfl
theorem spec_paOther.bits8:waitsOk spec_paOther.T8.2 spec_paOther.B8=true:=by kernel_rfl
set_option maxHeartbeats 8000000 in
set_option maxRecDepth 100000 in
theorem spec_paOther.calls (k:Nat) (a0_0:Int) (A0_1:Option Addr) (c0_1:Nat) (l0_1:List (S79)) (r1:Int) (r2:List (S79)) (w:World) (hr0_1:Kd.C k79 w A0_1 l0_1.length l0_1) (hc0_1:l0_1.length≤c0_1) (h:spec_paOther.f k a0_0 l0_1=some (r1,r2)) :
  Calls Try.prog 57 #[.agg #[.int .i64 a0_0,.slice A0_1 l0_1.length c0_1]] w fun e w'=>∃ v1_:Value,e=.returned (.agg #[.int .i64 r1,v1_])∧Kd.R k79 79 w' w.heap.size (fun _=>True) v1_ r2∧Below w.heap.size w w':=by
 have hu31:=Try.underlying31
 have HR0_1:=zz31 hr0_1
 have HC0_1:=zz31 hc0_1
 clear hr0_1 hc0_1
 have HB:=zz31 (Below.refl w.heap.size w)
 have H:((spec_paTable.f k a0_0 l0_1).bind fun t473=>(spec_paOther.l0 k t473 (t473.length:Int) 0))=some (r1,r2):=h
 clear h
 replace H:=zz30.mp H
 obtain ⟨t473,A20,H⟩:=H
 replace H:(spec_paOther.l0 k t473 (t473.length:Int) 0)=some (r1,r2):=H
 have A2:=zz31 A20
 clear A20
 have H':=zz31 H
 clear H
 go_enter Try.func57,Try.ntmps57
 go_wp2_with (first | ((with_reducible refine gate_dst (N:=1) rfl ?_);refine box_event ?hg (N:=1) ?hd (cs:=#[.int .i64 a0_0,.slice A0_1 l0_1.length c0_1]) (t:=31) ?hr ?_;(case hd=>rfl);(case hg=>rfl);(case hr=>first | (go_simp;done) | (go_simp;rfl));intro gb471 hg w3 hbox hb;have n0_:=zz31 (zz4 (by repeat first | exact HB.out | apply zz2 | apply zz0 | apply zz1) hb);have n1_:=zz31 (hbox);have n2_:=zz31 ((by rw [hg];exact (zz5 (by repeat first | exact HB.out | apply zz2 | apply zz0 | apply zz1)):w.heap.size≤gb471));have n3_:=zz31 ((by rw [hg];exact (zz5 (by repeat first | exact HB.out | apply zz2 | apply zz0 | apply zz1)):w.heap.size≤gb471));clear HB;have HB:=n0_;have BK471:=n1_;have GW471:=n2_;have GE471:=n3_;clear n0_ n1_ n2_ n3_;clear hb hbox hg) | ((with_reducible refine gate_dst (N:=2) rfl ?_);refine box_event ?hg (N:=2) ?hd (cs:=#[.int .i64 0,.slice none 0 0]) (t:=31) ?hr ?_;(case hd=>rfl);(case hg=>rfl);(case hr=>first | (go_simp;done) | (go_simp;rfl));intro gb472 hg w4 hbox hb;have n0_:=zz31 (zz11 (g:=gb471) (o:=.cells #[.int .i64 a0_0,.slice A0_1 l0_1.length c0_1] 31 (0,0)) (by (with_reducible repeat (first | refine zz6 ?_ _ | refine zz7 ?_ | refine zz8 ?_ _));exact BK471.out) hb);have n1_:=zz31 (zz4 (by repeat first | exact HB.out | apply zz2 | apply zz0 | apply zz1 | refine zz3 ?_ GE471.out) hb);have n2_:=zz31 (hbox);have n3_:=zz31 ((by rw [hg];exact (zz5 (by repeat first | exact HB.out | apply zz2 | apply zz0 | apply zz1 | refine zz3 ?_ GE471.out)):w.heap.size≤gb472));have n4_:=zz31 ((by rw [hg];exact (zz5 (by repeat first | exact HB.out | apply zz2 | apply zz0 | apply zz1 | refine zz3 ?_ GE471.out)):w.heap.size≤gb472));have n5_:=zz31 ((by rw [hg];exact Nat.ne_of_lt (blk_lt (g:=gb471) (o:=.cells #[.int .i64 a0_0,.slice A0_1 l0_1.length c0_1] 31 (0,0)) (by (with_reducible repeat (first | refine zz6 ?_ _ | refine zz7 ?_ | refine zz8 ?_ _));exact BK471.out)):gb471 ≠ gb472));have n6_:=zz31 ((by rw [hg];exact Nat.ne_of_gt (blk_lt (g:=gb471) (o:=.cells #[.int .i64 a0_0,.slice A0_1 l0_1.length c0_1] 31 (0,0)) (by (with_reducible repeat (first | refine zz6 ?_ _ | refine zz7 ?_ | refine zz8 ?_ _));exact BK471.out)):gb472 ≠ gb471));clear BK471;clear HB;have BK471:=n0_;have HB:=n1_;have BK472:=n2_;have GW472:=n3_;have GE472:=n4_;have NB471_472:=n5_;have NB472_471:=n6_;clear n0_ n1_ n2_ n3_ n4_ n5_ n6_;clear hb hbox hg;have hnb5:=NB471_472.out;have hnc5:=NB472_471.out;have hcz6_0:w4.cell? ⟨gb471,0,none⟩=some (.int .i64 a0_0):=(zz9 BK471.out 0).trans rfl;have hcz6_1:w4.cell? ⟨gb471,1,none⟩=some (.slice A0_1 l0_1.length c0_1):=(zz9 BK471.out 1).trans rfl;have hfz6_0:=zz10 BK471.out 0;have hfz6_1:=zz10 BK471.out 1) | ((with_reducible refine gate_callee (f:=34) rfl ?_);refine goesL_ (some 7) rfl rfl Try.func34 (by kernel_rfl) rfl #[.agg #[.int .i64 a0_0,.slice A0_1 l0_1.length c0_1]] rfl (by (try simp only [zz26,zz27,zz28]);first | done | rfl | (simp only [zz24,zz25];rfl)) ?_;(with_reducible refine (spec_paTable.calls k a0_0 _ _ l0_1 t473 _ ?side1 ?side2 A2.out).mono ?_);(case side1=>repeat (first | exact (Kd.C_below HR0_1.out HB.out) | (with_reducible refine zz18 ?_ _) | (with_reducible refine zz19 ?_ _) | (with_reducible refine zz20 ?_)));(case side2=>exact HC0_1.out);rintro e w7 ⟨v474,rfl,ho0,hb⟩;refine ⟨_,rfl,?_⟩;have n0_:=zz31 (Kd.S_lower ho0 (zz5 (by repeat first | exact HB.out | apply zz2 | apply zz0 | apply zz1 | refine zz3 ?_ GE471.out | refine zz3 ?_ GE472.out)));have n1_:=zz31 (zz11 (g:=gb471) (o:=.cells #[.int .i64 a0_0,.slice A0_1 l0_1.length c0_1] 31 (0,0)) (by (with_reducible repeat (first | refine zz6 ?_ _ | refine zz7 ?_ | refine zz8 ?_ _));exact BK471.out) hb);have n2_:=zz31 (zz11 (g:=gb472) (o:=.cells #[.int .i64 0,.slice none 0 0] 31 (0,0)) (by (with_reducible repeat (first | refine zz6 ?_ _ | refine zz7 ?_ | refine zz8 ?_ _));exact BK472.out) hb);have n3_:=zz31 (zz4 (by repeat first | exact HB.out | apply zz2 | apply zz0 | apply zz1 | refine zz3 ?_ GE471.out | refine zz3 ?_ GE472.out) hb);clear BK471;clear BK472;clear HB;have HO475:=n0_;have BK471:=n1_;have BK472:=n2_;have HB:=n3_;clear n0_ n1_ n2_ n3_;(try clear hb);(try clear hb2);(try clear hk);(try clear hi);(try clear ho0);obtain ⟨Ao8,co8,eo8⟩:=Kd.S_slice HO475.out;subst eo8))
 go_loopg [10] k (fun kq v10 w'=>∃ (x3_1:List (List Bool)) (x10_1:Int),v10=.int .i64 x10_1∧Aside0 (spec_paOther.l0 kq x3_1 (t473.length:Int) x10_1=some (r1,r2))∧Aside0 (kq≤k)∧Aside0 (Kd.S (Kd.slice 4 Kd.bool) 77 w' w.heap.size (fun _=>True) (.slice Ao8 t473.length co8) x3_1)∧Aside0 (w'.heap[gb471]?=some (.cells #[.int .i64 a0_0,(.slice A0_1 l0_1.length c0_1)] 31 (0,0)))∧Aside0 (w'.heap[gb472]?=some (.cells #[.int .i64 0,(.slice none 0 0)] 31 (0,0)))∧Aside0 (Below w.heap.size w w'))
 case atStart=>exact ⟨(t473),(0),(by first | rfl | (simp;done) | (simp [*];done)),H',⟨Nat.le_refl _⟩,⟨by (with_reducible repeat (first | apply zz15 | apply zz16 | apply zz17));exact HO475.out⟩,⟨by (with_reducible repeat (first | refine zz6 ?_ _ | refine zz7 ?_ | refine zz8 ?_ _));exact BK471.out⟩,⟨by (with_reducible repeat (first | refine zz6 ?_ _ | refine zz7 ?_ | refine zz8 ?_ _));exact BK472.out⟩,⟨by repeat first | exact HB.out | apply zz2 | apply zz0 | apply zz1 | refine zz3 ?_ GE471.out | refine zz3 ?_ GE472.out⟩⟩
 case round =>
  clear H'
  try clear p2
  try clear c3
  try clear c5
  try clear hcz6_0
  try clear hcz6_1
  try clear hfz6_0
  try clear hfz6_1
  obtain ⟨x3_1,x10_1,rfl,HA,HK1,HO_3,BK471,BK472,HB⟩:=hrel
  have hl3_1:=(Kd.S_reads' HO_3.out).1
  rw [hl3_1] at HO_3
  (try simp only [hl3_1])
  (try simp only [hl3_1] at BK471)
  (try simp only [hl3_1] at BK472)
  cases gk with
  | zero=>exact absurd HA.out (by simp [spec_paOther.l0])
  | succ k1 =>
   have H:=HA.out
   clear HA
   simp only [spec_paOther.l0] at H
   by_cases c9:x10_1 < (t473.length:Int)
   ·rw [if_pos c9] at H
    have c9b0:decide (x10_1 < (t473.length:Int))=true:=decide_eq_true c9
    (try simp only [hl3_1] at c9b0)
    clear c9
    have H':=zz31 H
    clear H
    go_wp2
    go_loopg [15] k1 (fun kq v15 w'=>∃ (x3_2:List (List Bool)) (x15_2:Int),v15=.int .i64 x15_2∧Aside0 (spec_paOther.l1 kq x3_2 x10_1 (t473.length:Int) x10_1 (x3_1.length:Int) x15_2=some (r1,r2))∧Aside0 (kq≤k1)∧Aside0 (Kd.S (Kd.slice 4 Kd.bool) 77 w' w.heap.size (fun _=>True) (.slice Ao8 x3_1.length co8) x3_2)∧Aside0 (w'.heap[gb471]?=some (.cells #[.int .i64 a0_0,(.slice A0_1 l0_1.length c0_1)] 31 (0,0)))∧Aside0 (w'.heap[gb472]?=some (.cells #[.int .i64 0,(.slice none 0 0)] 31 (0,0)))∧Aside0 (Below w.heap.size w w'))
    case atStart=>exact ⟨(x3_1),(0),(by first | rfl | (simp;done) | (simp [*];done)),H',⟨Nat.le_refl _⟩,⟨by (try simp only [hl3_1]);(with_reducible repeat (first | apply zz15 | apply zz16 | apply zz17));exact HO_3.out⟩,⟨by (try simp only [hl3_1]);(with_reducible repeat (first | refine zz6 ?_ _ | refine zz7 ?_ | refine zz8 ?_ _));exact BK471.out⟩,⟨by (try simp only [hl3_1]);(with_reducible repeat (first | refine zz6 ?_ _ | refine zz7 ?_ | refine zz8 ?_ _));exact BK472.out⟩,⟨by repeat first | exact HB.out | apply zz2 | apply zz0 | apply zz1 | refine zz3 ?_ GE471.out | refine zz3 ?_ GE472.out⟩⟩
    case round =>
     clear H'
     try clear p2
     try clear c3
     try clear c5
     try clear c9
     try clear c9b0
     try clear hcz6_0
     try clear hcz6_1
     try clear hfz6_0
     try clear hfz6_1
     try clear p2
     obtain ⟨x3_2,x15_2,rfl,HA,HK2,HO_3,BK471,BK472,HB⟩:=hrel
     have hl3_2:=(Kd.S_reads' HO_3.out).1
     rw [hl3_2] at HO_3
     (try simp only [hl3_2])
     (try simp only [hl3_2] at BK471)
     (try simp only [hl3_2] at BK472)
     cases gk with
     | zero=>exact absurd HA.out (by simp [spec_paOther.l1])
     | succ k2 =>
      have H:=HA.out
      clear HA
      simp only [spec_paOther.l1] at H
      by_cases c10:x15_2 < (x3_1.length:Int)
      ·rw [if_pos c10] at H
       have c10b0:decide (x15_2 < (x3_1.length:Int))=true:=decide_eq_true c10
       (try simp only [hl3_1] at c10b0)
       (try simp only [hl3_2] at c10b0)
       clear c10
       by_cases c11:0≤x10_1
       ·rw [if_pos c11] at H
        have c11b0:decide (0≤x10_1)=true:=decide_eq_true c11
        clear c11
        by_cases c12:x10_1 < (x3_2.length:Int)
        ·rw [if_pos c12] at H
         have c12b0:decide (x10_1 < (x3_2.length:Int))=true:=decide_eq_true c12
         (try simp only [hl3_1] at c12b0)
         (try simp only [hl3_2] at c12b0)
         clear c12
         by_cases c13:0≤x15_2
         ·rw [if_pos c13] at H
          have c13b0:decide (0≤x15_2)=true:=decide_eq_true c13
          clear c13
          by_cases c14:x15_2 < ((rd_L4 x3_2 x10_1).length:Int)
          ·rw [if_pos c14] at H
           have c14b0:decide (x15_2 < ((rd_L4 x3_2 x10_1).length:Int))=true:=decide_eq_true c14
           (try simp only [hl3_1] at c14b0)
           (try simp only [hl3_2] at c14b0)
           clear c14
           obtain ⟨y483,hy483⟩:∃ y_:List Bool,y_=((rd_L4 x3_2 x10_1).set (x15_2:Int).toNat (!(rdOf false (rd_L4 x3_2 x10_1) x15_2))):=⟨_,rfl⟩
           replace H:(spec_paOther.l1 k2 (x3_2.set (x10_1:Int).toNat y483) x10_1 (t473.length:Int) x10_1 (x3_1.length:Int) (wrap64 (x15_2+1)))=some (r1,r2):=by first | (rw [hy483];with_reducible exact H) | (have H2_:=(Option.bind_some _ _).symm.trans H;rw [hy483];with_reducible exact H2_) | (have H2_:=(Option.bind_some _ _).symm.trans H;with_reducible exact H2_) | with_reducible exact H | (rw [hy483];exact H) | exact H
           have Ny483:=zz31 hy483
           clear hy483
           obtain ⟨y485,hy485⟩:∃ y_:List (List Bool),y_=(x3_2.set (x10_1:Int).toNat y483):=⟨_,rfl⟩
           replace H:(spec_paOther.l1 k2 y485 x10_1 (t473.length:Int) x10_1 (x3_1.length:Int) (wrap64 (x15_2+1)))=some (r1,r2):=by first | (rw [hy485];with_reducible exact H) | (have H2_:=(Option.bind_some _ _).symm.trans H;rw [hy485];with_reducible exact H2_) | (have H2_:=(Option.bind_some _ _).symm.trans H;with_reducible exact H2_) | with_reducible exact H | (rw [hy485];exact H) | exact H
           have Ny485:=zz31 hy485
           clear hy485
           have H':=zz31 H
           clear H
           try go_wp2
           have n0_:=zz31 (zz17 HO_3.out)
           have n1_:=zz31 (zz7 BK471.out)
           have n2_:=zz31 (zz7 BK472.out)
           have n3_:=zz31 (zz1 HB.out)
           clear HO_3
           clear BK471
           clear BK472
           clear HB
           have HO_3:=n0_
           have BK471:=n1_
           have BK472:=n2_
           have HB:=n3_
           clear n0_ n1_ n2_ n3_
           have p480:0≤(x10_1:Int):=zz29 (by first | (with_reducible assumption) | assumption)
           have q480:x10_1 < (x3_2.length:Int):=zz29 (by first | (with_reducible assumption) | assumption)
           obtain ⟨ad480,A480_0,c480_0,e480,hx480_0,hl480_0,hi480_0⟩:=at_L4 (Kd.S_reads' HO_3.out).2.2 x10_1 p480 q480
           cases e480
           obtain ⟨ce480,hce480,hMe480,hcc480⟩:=Kd.S_get HO_3.out [] x10_1 p480 (by first | exact q480 | exact zz29 (by first | (with_reducible assumption) | assumption) | (have e_:=(Kd.S_reads' HO_3.out).1;omega))
           obtain ⟨ve480_0,rfl,ge480_0⟩:=hMe480
           have hv480_0:=hcc480 0 _ rfl
           rw [Nat.add_zero,show ((Kd.slice 4 Kd.bool)).sz=1 from rfl,Nat.mul_one] at hv480_0
           replace hv480_0:=Option.some.inj (hv480_0.symm.trans hx480_0)
           rw [hv480_0] at ge480_0
           have HL480_0:=zz31 (show Kd.R Kd.bool 4 _ _ _ _ (rd_L4 x3_2 x10_1) from ge480_0)
           clear hv480_0 ge480_0
           have HX480_0:=zz31 hx480_0
           clear hcc480 hce480
           have HR480_0:=zz31 hi480_0
           have HC480_0:=zz31 hl480_0
           clear hi480_0 hl480_0
           replace p480:=eq_true p480
           replace q480:=eq_true q480
           have p481:0≤(x10_1:Int):=zz29 (by first | (with_reducible assumption) | assumption)
           have q481:x10_1 < (x3_2.length:Int):=zz29 (by first | (with_reducible assumption) | assumption)
           obtain ⟨ad481,A481_0,c481_0,e481,hx481_0,hl481_0,hi481_0⟩:=at_L4 (Kd.S_reads' HO_3.out).2.2 x10_1 p481 q481
           obtain rfl:ad480=ad481:=(by injection e481)
           obtain ⟨ce481,hce481,hMe481,hcc481⟩:=Kd.S_get HO_3.out [] x10_1 p481 (by first | exact q481 | exact zz29 (by first | (with_reducible assumption) | assumption) | (have e_:=(Kd.S_reads' HO_3.out).1;omega))
           obtain ⟨ve481_0,rfl,ge481_0⟩:=hMe481
           have hv481_0:=hcc481 0 _ rfl
           rw [Nat.add_zero,show ((Kd.slice 4 Kd.bool)).sz=1 from rfl,Nat.mul_one] at hv481_0
           replace hv481_0:=Option.some.inj (hv481_0.symm.trans hx481_0)
           rw [hv481_0] at ge481_0
           have HL481_0:=zz31 (show Kd.R Kd.bool 4 _ _ _ _ (rd_L4 x3_2 x10_1) from ge481_0)
           clear hv481_0 ge481_0
           have HX481_0:=zz31 hx481_0
           clear hcc481 hce481
           have HR481_0:=zz31 hi481_0
           have HC481_0:=zz31 hl481_0
           clear hi481_0 hl481_0
           replace p481:=eq_true p481
           replace q481:=eq_true q481
           have ea_:=Option.some.inj (hx480_0.symm.trans hx481_0)
           injection ea_ with ea_ en_ ec_
           subst ea_
           subst ec_
           clear en_
           have p482:0≤(x15_2:Int):=zz29 (by first | (with_reducible assumption) | assumption)
           have q482:x15_2 < ((rd_L4 x3_2 x10_1).length:Int):=zz29 (by first | (with_reducible assumption) | assumption)
           obtain ⟨ad482,e482,hx482_0⟩:=Kd.at_bool (by repeat (first | (with_reducible exact HR481_0.out) | (with_reducible refine zz18 ?_ _) | (with_reducible refine zz19 ?_ _) | (with_reducible refine zz20 ?_) | exact HR481_0.out)) x15_2 p482 q482
           cases e482
           replace p482:=eq_true p482
           replace q482:=eq_true q482
           have p15:0≤(x15_2:Int):=zz29 (by first | (with_reducible assumption) | assumption)
           have q15:(x15_2:Int) < (((rd_L4 x3_2 x10_1).length:Int):Int):=zz29 (by first | (with_reducible assumption) | assumption)
           obtain ⟨go15,co15,eo15,gb15,gl15,cl15,HG15⟩:=Kd.R_form HL480_0.out (by omega)
           (first | cases eo15 | (injection eo15 with ea_ en_ ec_;(first | subst ea_ | (injection ea_ with ea_;subst ea_));subst ec_;clear en_))
           have GB15:=zz31 gb15
           have GG15:=zz31 HG15
           clear gb15 gl15 HG15
           (first | simp only [add_plain] at hx482_0 | skip)
           obtain ⟨hx15_0,hf15_0⟩:=Kd.R_celln false HL480_0.out (x15_2:Int) p15 q15
           replace p15:=eq_true p15
           replace q15:=eq_true q15
           have hq17:(x10_1:Int) < (x3_2.length:Int):=(by have h_:(x10_1:Int) < ((x3_2.length:Int):Int):=zz29 (by first | (with_reducible assumption) | assumption);first | exact h_ | (have e_:=(Kd.S_reads' HO_3.out).1;omega) | simpa only [List.length_set,List.length_set] using h_)
           obtain ⟨oki17,ce17,hcl17,hM17,hcc17,hok17,hbk17⟩:=Kd.S_borrow HO_3.out [] (x10_1:Int) (zz29 (by first | (with_reducible assumption) | assumption)) (by first | exact hq17 | (have e_:=(Kd.S_reads' HO_3.out).1;omega))
           obtain ⟨ve17_0,rfl,ge17_0⟩:=hM17
           have hv17:=hcc17 0 _ rfl
           rw [Nat.add_zero,show ((Kd.slice 4 Kd.bool)).sz=1 from rfl,Nat.mul_one] at hv17
           replace hv17:=Option.some.inj (hv17.symm.trans HX480_0.out)
           subst hv17
           clear hcc17 hcl17
           replace ge17_0:=(show Kd.R Kd.bool 4 _ _ _ _ (rd_L4 x3_2 x10_1) from ge17_0)
           have HP17:=Kd.R_putg ge17_0 (x15_2:Int) (!(rdOf false (rd_L4 x3_2 x10_1) x15_2))
           rw [← Ny483.out] at HP17
           have HS17:=hbk17 HP17.2 (fun k_ e_=>by injection e_ with e_;subst e_;exact ge17_0.1 _ rfl) (x':=y483) (Kd.M_row HP17.1)
           rw [← Ny485.out] at HS17
           have HQ17:=zz31 HS17
           clear HP17 HS17 hbk17 hok17
           refine start_ (n:=15) (S:=fun w'=>w'.cell? (ad480.add (x10_1).toNat)=some (.slice (some (⟨go15,0,none⟩:Addr)) (rd_L4 x3_2 x10_1).length c480_0)∧w'.cell? (ad480.add (x10_1).toNat)=some (.slice (some (⟨go15,0,none⟩:Addr)) (rd_L4 x3_2 x10_1).length c480_0)∧w'.cell? ⟨go15,(x15_2).toNat,none⟩=some (.bool (rdOf false (rd_L4 x3_2 x10_1) x15_2))) (ds:=[14]) #[F,F,F,F,F,F,F,F,F,F,F,F,F,F,F] (by kernel_rfl) rfl rfl ⟨hx480_0,hx481_0,hx482_0⟩ (fun hHeld=>?_);refine with_tabW spec_paOther.tab8 spec_paOther.bits8 (fun HT_ HW_=>?_)
           generalize wr.drew=w16 at HO_3 BK471 BK472 HB GG15 HL480_0 HL481_0 HQ17 HR480_0 HR481_0 HX480_0 HX481_0 hf15_0 hx15_0 hx480_0 hx481_0 hx482_0 hHeld ⊢
           refine pure_ (i:=0) (N:=some 18) (v:=?_) (a':=?_) #[T,F,F,F,F,F,F,F,F,F,F,F,F,F,F] rfl rfl (any_of HT_.out (by kernel_rfl)) (fun _ _ _ h=>h) (Or.inl ⟨by rfl,?_⟩) ?_ ?_
           rotate_left
           ·intro w'
            go_simp
            with_reducible rfl
           rotate_left
           ·simp only [Act.put,zz21,zz22,zz23,i64_w,i32_w]
            rfl
           refine pure_ (i:=1) (N:=some 19) (v:=?_) (a':=?_) #[T,T,F,F,F,F,F,F,F,F,F,F,F,F,F] rfl rfl (any_of HT_.out (by kernel_rfl)) (fun _ _ _ h=>h) (Or.inl ⟨by rfl,?_⟩) ?_ ?_
           rotate_left
           ·intro w'
            go_simp
            with_reducible rfl
           rotate_left
           ·simp only [Act.put,zz21,zz22,zz23,i64_w,i32_w]
            rfl
           refine pure_ (i:=2) (N:=some 20) (v:=?_) (a':=?_) #[T,T,T,F,F,F,F,F,F,F,F,F,F,F,F] rfl rfl (any_of HT_.out (by kernel_rfl)) (fun _ _ _ h=>h) (Or.inl ⟨by rfl,?_⟩) ?_ ?_
           rotate_left
           ·intro w'
            go_simp
            with_reducible rfl
           rotate_left
           ·simp only [Act.put,zz21,zz22,zz23,i64_w,i32_w]
            rfl
           refine pure_ (i:=4) (N:=some 22) (v:=?_) (a':=?_) #[T,T,T,F,T,F,F,F,F,F,F,F,F,F,F] rfl rfl (any_of HT_.out (by kernel_rfl)) (fun _ _ _ h=>h) (Or.inl ⟨by rfl,?_⟩) ?_ ?_
           rotate_left
           ·intro w'
            go_simp
            with_reducible rfl
           rotate_left
           ·simp only [Act.put,zz21,zz22,zz23,i64_w,i32_w]
            rfl
           refine pure_ (i:=5) (N:=some 23) (v:=?_) (a':=?_) #[T,T,T,F,T,T,F,F,F,F,F,F,F,F,F] rfl rfl (any_of HT_.out (by kernel_rfl)) (fun _ _ _ h=>h) (Or.inl ⟨by rfl,?_⟩) ?_ ?_
           rotate_left
           ·intro w'
            go_simp
            with_reducible rfl
           rotate_left
           ·simp only [Act.put,zz21,zz22,zz23,i64_w,i32_w]
            rfl
           refine pure_ (i:=6) (N:=some 24) (v:=?_) (a':=?_) #[T,T,T,F,T,T,T,F,F,F,F,F,F,F,F] rfl rfl (any_of HT_.out (by kernel_rfl)) (fun _ _ _ h=>h) (Or.inl ⟨by rfl,?_⟩) ?_ ?_
           rotate_left
           ·intro w'
            go_simp
            with_reducible rfl
           rotate_left
           ·simp only [Act.put,zz21,zz22,zz23,i64_w,i32_w]
            rfl
           refine pure_ (i:=7) (N:=some 25) (v:=?_) (a':=?_) #[T,T,T,F,T,T,T,T,F,F,F,F,F,F,F] rfl rfl (any_of HT_.out (by kernel_rfl)) (fun _ _ _ h=>h) (Or.inl ⟨by rfl,?_⟩) ?_ ?_
           rotate_left
           ·intro w'
            go_simp
            with_reducible rfl
           rotate_left
           ·simp only [Act.put,zz21,zz22,zz23,i64_w,i32_w]
            rfl
           refine pure_ (i:=9) (N:=some 27) (v:=?_) (a':=?_) #[T,T,T,F,T,T,T,T,F,T,F,F,F,F,F] rfl rfl (any_of HT_.out (by kernel_rfl)) (fun _ _ _ h=>h) (Or.inl ⟨by rfl,?_⟩) ?_ ?_
           rotate_left
           ·intro w'
            go_simp
            with_reducible rfl
           rotate_left
           ·simp only [Act.put,zz21,zz22,zz23,i64_w,i32_w]
            rfl
           refine take_ (i:=3) (N:=some 21) (v:=?_) (a':=?_) #[T,T,T,T,T,T,T,T,F,T,F,F,F,F,F] rfl rfl (take_ofW HT_.out HW_.out (by kernel_rfl)) (fun _ _ _ h=>h) (Or.inl ⟨by rfl,?_⟩) hHeld ?_ ?_
           rotate_left
           ·rintro w' ⟨s0,s1,s2⟩
            go_simp
            with_reducible rfl
           rotate_left
           ·simp only [Act.put,zz21,zz22,zz23,i64_w,i32_w]
            rfl
           refine take_ (i:=8) (N:=some 26) (v:=?_) (a':=?_) #[T,T,T,T,T,T,T,T,T,T,F,F,F,F,F] rfl rfl (take_ofW HT_.out HW_.out (by kernel_rfl)) (fun _ _ _ h=>h) (Or.inl ⟨by rfl,?_⟩) hHeld ?_ ?_
           rotate_left
           ·rintro w' ⟨s0,s1,s2⟩
            go_simp
            with_reducible rfl
           rotate_left
           ·simp only [Act.put,zz21,zz22,zz23,i64_w,i32_w]
            rfl
           refine pure_ (i:=10) (N:=some 28) (v:=?_) (a':=?_) #[T,T,T,T,T,T,T,T,T,T,T,F,F,F,F] rfl rfl (any_of HT_.out (by kernel_rfl)) (fun _ _ _ h=>h) (Or.inl ⟨by rfl,?_⟩) ?_ ?_
           rotate_left
           ·intro w'
            go_simp
            with_reducible rfl
           rotate_left
           ·simp only [Act.put,zz21,zz22,zz23,i64_w,i32_w]
            rfl
           refine take_ (i:=11) (N:=some 29) (v:=?_) (a':=?_) #[T,T,T,T,T,T,T,T,T,T,T,T,F,F,F] rfl rfl (take_ofW HT_.out HW_.out (by kernel_rfl)) (fun _ _ _ h=>h) (Or.inl ⟨by rfl,?_⟩) hHeld ?_ ?_
           rotate_left
           ·rintro w' ⟨s0,s1,s2⟩
            go_simp
            with_reducible rfl
           rotate_left
           ·simp only [Act.put,zz21,zz22,zz23,i64_w,i32_w]
            rfl
           refine pure_ (i:=12) (N:=some 30) (v:=?_) (a':=?_) #[T,T,T,T,T,T,T,T,T,T,T,T,T,F,F] rfl rfl (any_of HT_.out (by kernel_rfl)) (fun _ _ _ h=>h) (Or.inl ⟨by rfl,?_⟩) ?_ ?_
           rotate_left
           ·intro w'
            go_simp
            with_reducible rfl
           rotate_left
           ·simp only [Act.put,zz21,zz22,zz23,i64_w,i32_w]
            rfl
           refine pure_ (i:=13) (N:=some 31) (v:=?_) (a':=?_) #[T,T,T,T,T,T,T,T,T,T,T,T,T,T,F] rfl rfl (any_of HT_.out (by kernel_rfl)) (fun _ _ _ h=>h) (Or.inl ⟨by rfl,?_⟩) ?_ ?_
           rotate_left
           ·intro w'
            go_simp
            with_reducible rfl
           rotate_left
           ·simp only [Act.put,zz21,zz22,zz23,i64_w,i32_w]
            rfl
           refine last_ (i:=14) (N:=none) #[T,T,T,T,T,T,T,T,T,T,T,T,T,T,T] rfl rfl (one_of HT_.out (by kernel_rfl)) (by decide) (fun K hK=>?_)
           refine skip_ (w1:=?_) (by rfl) rfl ?_ ?_
           rotate_left
           ·go_simp
            rfl
           refine hK.out _ _ ?_
           clear hK K
           refine done_ (done_of HT_.out (by kernel_rfl)) ?_
           try go_wp2
           (try simp only [← hl3_2])
           go_roundg k2
           case measure=>have:=HK1.out;have:=HK2.out;omega
           case rel=>exact ⟨(y485),(wrap64 (x15_2+1)),(by first | rfl | (simp;done) | (simp [*];done)),H',⟨by have:=HK1.out;have:=HK2.out;omega⟩,⟨by (try simp only [hl3_1]);(try simp only [hl3_2]);(with_reducible repeat (first | apply zz15 | apply zz16 | apply zz17));exact HQ17.out⟩,⟨by (try simp only [hl3_1]);(try simp only [hl3_2]);(with_reducible repeat (first | refine zz6 ?_ _ | refine zz7 ?_ | refine zz8 ?_ _));refine blk_far ?_ (by have h_:=Kd.R_ne HL480_0.out BK471.out (by decide);intro e_;exact h_ (by rw [e_];rfl)) _;(with_reducible repeat (first | refine zz6 ?_ _ | refine zz7 ?_ | refine zz8 ?_ _));exact BK471.out⟩,⟨by (try simp only [hl3_1]);(try simp only [hl3_2]);(with_reducible repeat (first | refine zz6 ?_ _ | refine zz7 ?_ | refine zz8 ?_ _));refine blk_far ?_ (by have h_:=Kd.R_ne HL480_0.out BK472.out (by decide);intro e_;exact h_ (by rw [e_];rfl)) _;(with_reducible repeat (first | refine zz6 ?_ _ | refine zz7 ?_ | refine zz8 ?_ _));exact BK472.out⟩,⟨by repeat first | exact HB.out | apply zz2 | apply zz0 | apply zz1 | refine zz3 ?_ GB15.out | refine zz3 ?_ GE471.out | refine zz3 ?_ GE472.out⟩⟩
          ·rw [if_neg c14] at H
           exact absurd H (by simp)
         ·rw [if_neg c13] at H
          exact absurd H (by simp)
        ·rw [if_neg c12] at H
         exact absurd H (by simp)
       ·rw [if_neg c11] at H
        exact absurd H (by simp)
      ·rw [if_neg c10] at H
       have c10b0:decide (x15_2 < (x3_1.length:Int))=false:=decide_eq_false c10
       (try simp only [hl3_1] at c10b0)
       (try simp only [hl3_2] at c10b0)
       clear c10
       have H':=zz31 H
       clear H
       go_wp2
       (try simp only [← hl3_1,← hl3_2])
       go_roundg k2
       case measure=>have:=HK1.out;have:=HK2.out;omega
       case rel=>exact ⟨(x3_2),(wrap64 (x10_1+1)),(by first | rfl | (simp;done) | (simp [*];done)),H',⟨by have:=HK1.out;have:=HK2.out;omega⟩,⟨by (try simp only [hl3_1]);(try simp only [hl3_2]);(with_reducible repeat (first | apply zz15 | apply zz16 | apply zz17));exact HO_3.out⟩,⟨by (try simp only [hl3_1]);(try simp only [hl3_2]);(with_reducible repeat (first | refine zz6 ?_ _ | refine zz7 ?_ | refine zz8 ?_ _));exact BK471.out⟩,⟨by (try simp only [hl3_1]);(try simp only [hl3_2]);(with_reducible repeat (first | refine zz6 ?_ _ | refine zz7 ?_ | refine zz8 ?_ _));exact BK472.out⟩,⟨by repeat first | exact HB.out | apply zz2 | apply zz0 | apply zz1 | refine zz3 ?_ GE471.out | refine zz3 ?_ GE472.out⟩⟩
   ·rw [if_neg c9] at H
    have c9b0:decide (x10_1 < (t473.length:Int))=false:=decide_eq_false c9
    (try simp only [hl3_1] at c9b0)
    clear c9
    replace H:=zz30.mp H
    obtain ⟨⟨t476,t477⟩,A190,H⟩:=H
    replace H:(some (t476,t477))=some (r1,r2):=H
    have A19:=zz31 A190
    clear A190
    simp only [Option.some.injEq,Prod.mk.injEq] at H
    obtain ⟨rfl,rfl⟩:=H
    go_wp2_with (first | ((with_reducible refine gate_callee (f:=74) rfl ?_);refine goesL_ (some 35) rfl rfl Try.func74 (by kernel_rfl) rfl #[.slice Ao8 x3_1.length co8] rfl (by (try simp only [zz26,zz27,zz28]);first | done | rfl | (simp only [zz24,zz25];rfl)) ?_;(with_reducible refine (spec_paOf.calls k1 _ _ x3_1 t476 t477 _ ?side1 ?side2 A19.out).mono ?_);(case side1=>repeat (first | exact (Kd.S_reads' HO_3.out).2.2 | (with_reducible refine zz18 ?_ _) | (with_reducible refine zz19 ?_ _) | (with_reducible refine zz20 ?_)));(case side2=>exact (Kd.S_reads' HO_3.out).2.1);rintro e w20 ⟨v478,rfl,ho0,hb⟩;refine ⟨_,rfl,?_⟩;have n0_:=zz31 (Kd.S_below (by (with_reducible repeat (first | apply zz15 | apply zz16 | apply zz17));exact HO_3.out) hb);have n1_:=zz31 (Kd.R_lower ho0 (zz5 (by repeat first | exact HB.out | apply zz2 | apply zz0 | apply zz1 | refine zz3 ?_ GE471.out | refine zz3 ?_ GE472.out)));have n2_:=zz31 (zz11 (g:=gb471) (o:=.cells #[.int .i64 a0_0,.slice A0_1 l0_1.length c0_1] 31 (0,0)) (by (with_reducible repeat (first | refine zz6 ?_ _ | refine zz7 ?_ | refine zz8 ?_ _));exact BK471.out) hb);have n3_:=zz31 (zz11 (g:=gb472) (o:=.cells #[.int .i64 0,.slice none 0 0] 31 (0,0)) (by (with_reducible repeat (first | refine zz6 ?_ _ | refine zz7 ?_ | refine zz8 ?_ _));exact BK472.out) hb);have n4_:=zz31 (zz4 (by repeat first | exact HB.out | apply zz2 | apply zz0 | apply zz1 | refine zz3 ?_ GE471.out | refine zz3 ?_ GE472.out) hb);clear HO_3;clear BK471;clear BK472;clear HB;have HO_3:=n0_;have HO479:=n1_;have BK471:=n2_;have BK472:=n3_;have HB:=n4_;clear n0_ n1_ n2_ n3_ n4_;(try clear hb);(try clear hb2);(try clear hk);(try clear hi);(try clear ho0);have hnb21:=NB472_471.out;have hnc21:=NB471_472.out;have hcz22_0:w20.cell? ⟨gb472,0,none⟩=some (.int .i64 0):=(zz9 BK472.out 0).trans rfl;have hcz22_1:w20.cell? ⟨gb472,1,none⟩=some (.slice none 0 0):=(zz9 BK472.out 1).trans rfl;have hfz22_0:=zz10 BK472.out 0;have hfz22_1:=zz10 BK472.out 1;obtain ⟨Ao23,co23,eo23⟩:=Kd.R_slice HO479.out;subst eo23))
    refine bodyPost_ret (results_cell_row rfl _ _ gb472 31 #[.int .i64 t476,.slice Ao23 t477.length co23] (0,0) _ rfl (by (with_reducible repeat (first | refine zz6 ?_ _ | refine zz7 ?_ | refine zz8 ?_ _));refine blk_put (cs:=#[.int .i64 t476,.slice none 0 0]) ?_ 1 _ rfl;(with_reducible repeat (first | refine zz6 ?_ _ | refine zz7 ?_ | refine zz8 ?_ _));refine blk_put (cs:=#[.int .i64 0,.slice none 0 0]) ?_ 0 _ rfl;(with_reducible repeat (first | refine zz6 ?_ _ | refine zz7 ?_ | refine zz8 ?_ _));exact BK472.out) Try.underlying31 rfl (by kernel_rfl)) rfl ?_
    exact ⟨_,by first | rfl | (simp [errW_none,errW_some] <;> rfl) | (simp [*,errW_none,errW_some] <;> rfl),by (with_reducible repeat (first | apply zz12 | apply zz13 | apply zz14));exact Kd.R_mono (Kd.R_far (p:=⟨gb472,1,none⟩) (Kd.R_far (p:=⟨gb472,0,none⟩) (Kd.R_types HO479.out BK472.out (by decide)) (fun _ hk=>hk.2) (.int .i64 t476)) (fun _ hk=>hk.2) (.slice Ao23 t477.length co23)) (fun _ hk=>trivial),by repeat first | exact HB.out | apply zz2 | apply zz0 | apply zz1 | refine zz3 ?_ GE471.out | refine zz3 ?_ GE472.out⟩

/-! ### impl_table_others: function 58 -/
def impl_table_others.l0:Nat→List Int→List Int→Int→Int→Option (List Int)
 | 0,_,_,_,_=>none
 | k+1,x0,x3,x9,x10=>if x10 < x9 then (if 0≤x10 then (if x10 < (x0.length:Int) then (if x10 < (x3.length:Int) then (impl_table_others.l0 k x0 (x3.set (x10:Int).toNat (Go.bits .andNot .u16 (Go.bits .andNot .u16 (IntKind.u16.wrap ((shl .u16 1 (x0.length:Int)) - 1)) (rd x0 x10)) (shl .u16 1 x10))) x9 (wrap64 (x10+1))) else (none)) else (none)) else (none)) else (some x3)
def impl_table_others.f (k:Nat) (l0:List Int):Option (List Int):=if 0≤(l0.length:Int) then (if ((l0.length:Int):Int).toNat≤140737488355328 then (impl_table_others.l0 k l0 (List.replicate ((l0.length:Int):Int).toNat 0) (l0.length:Int) 0) else (none)) else (none)
theorem impl_table_others.mono_l:∀ k,(∀ y0 y1 y2 y3,LeO (impl_table_others.l0 k y0 y1 y2 y3) (impl_table_others.l0 (k+1) y0 y1 y2 y3))
 | 0=>fun _ _ _ _ r h=>by simp [impl_table_others.l0] at h
 | k+1=>by
  have ih0:=impl_table_others.mono_l k
  ·intro y0 y1 y2 y3
   unfold impl_table_others.l0
   repeat' first
   | (with_reducible exact ih0 _ _ _ _)
   | (with_reducible exact LeO.refl _)
   | (with_reducible exact LeO.none _)
   | (with_reducible refine LeO.ite ?_ ?_)
   | (with_reducible refine LeO.bind ?_ (fun _=>?_))
   | exact ih0 _ _ _ _
   | exact LeO.none _
   | refine LeO.ite ?_ ?_
   | refine LeO.bind ?_ (fun _=>?_)
theorem impl_table_others.mono:∀ a0 k,LeO (impl_table_others.f k a0) (impl_table_others.f (k+1) a0):=by
 intro a0 k
 have ih0:=impl_table_others.mono_l k
 unfold impl_table_others.f
 repeat' first
   | (with_reducible exact ih0 _ _ _ _)
   | (with_reducible exact LeO.refl _)
   | (with_reducible exact LeO.none _)
   | (with_reducible refine LeO.ite ?_ ?_)
   | (with_reducible refine LeO.bind ?_ (fun _=>?_))
   | exact ih0 _ _ _ _
   | exact LeO.none _
   | refine LeO.ite ?_ ?_
   | refine LeO.bind ?_ (fun _=>?_)
def impl_table_others.T5:Bool × List (List Nat × List Nat):=(true,[([],[]),([],[]),([],[]),([2],[2]),([3],[3]),([4],[4]),([],[]),([],[]),([6,7],[6,7]),([8],[8]),([5,9],[5,9]),([],[]),([11],[11]),([10,12],[10,12]),([0,1,0,1,2,3,4,5,6,7,8,9,10,11,12,13],[0,1]),([14,13,0,1,2,3,4,5,6,7,8,9,10,11,12,13],[13,14])])
def impl_table_others.B5:List Nat:=[0,0,0,4,12,28,0,0,192,448,1020,0,2048,8188,16383,32767]
theorem impl_table_others.tab5:rtab .any (opsOf Try.f58 5)=impl_table_others.T5:=by kernel_rfl
theorem impl_table_others.bits5:waitsOk impl_table_others.T5.2 impl_table_others.B5=true:=by kernel_rfl
set_option maxHeartbeats 8000000 in
set_option maxRecDepth 100000 in
theorem impl_table_others.calls (k:Nat) (A0:Option Addr) (c0:Nat) (l0:List Int) (r:List Int) (w:World) (hr0:Kd.C (Kd.int .u16) w A0 l0.length l0) (hc0:l0.length≤c0) (h:impl_table_others.f k l0=some r) :
  Calls Try.prog 58 #[.slice A0 l0.length c0] w fun e w'=>∃ v0_:Value,e=.returned (v0_)∧Kd.R (Kd.int .u16) 83 w' w.heap.size (fun _=>True) v0_ r∧Below w.heap.size w w':=by
 have HR0:=zz31 hr0
 have HC0:=zz31 hc0
 clear hr0 hc0
 have HB:=zz31 (Below.refl w.heap.size w)
 have H:(if 0≤(l0.length:Int) then (if ((l0.length:Int):Int).toNat≤140737488355328 then (impl_table_others.l0 k l0 (List.replicate ((l0.length:Int):Int).toNat 0) (l0.length:Int) 0) else (none)) else (none))=some r:=h
 clear h
 by_cases c2:0≤(l0.length:Int)
 ·rw [if_pos c2] at H
  have c2b0:=eq_true c2
  have c2b1:decide (0≤(l0.length:Int))=true:=decide_eq_true c2
  clear c2
  by_cases c3:((l0.length:Int):Int).toNat≤140737488355328
  ·rw [if_pos c3] at H
   have c3b0:=eq_true c3
   have c3b1:decide (((l0.length:Int):Int).toNat≤140737488355328)=true:=decide_eq_true c3
   clear c3
   obtain ⟨y496,hy496⟩:∃ y_:List Int,y_=(List.replicate ((l0.length:Int):Int).toNat 0):=⟨_,rfl⟩
   replace H:(impl_table_others.l0 k l0 y496 (l0.length:Int) 0)=some r:=by first | (rw [hy496];with_reducible exact H) | (have H2_:=(Option.bind_some _ _).symm.trans H;rw [hy496];with_reducible exact H2_) | (have H2_:=(Option.bind_some _ _).symm.trans H;with_reducible exact H2_) | with_reducible exact H | (rw [hy496];exact H) | exact H
   have Ny496:=zz31 hy496
   clear hy496
   have H':=zz31 H
   clear H
   go_enter Try.func58,Try.ntmps58
   go_wp2_with (first | ((with_reducible refine gate_dst (N:=7) rfl ?_);refine Kd.R_make (Kd.int .u16) _ 83 rfl (N:=7) rfl 61 _ _ rfl (l0.length:Int) rfl rfl Try.underlying61 (.int .u16 0) 2 info83 rfl (by decide) (by omega) 0 (ok:=fun _=>True) (okp:=fun _=>True) rfl (fun _ hk=>hk) trivial (zz29 (by first | (with_reducible assumption) | assumption)) (Nat.le_trans (Nat.mul_le_mul_right _ (zz29 (by first | (with_reducible assumption) | assumption):(l0.length:Int).toNat≤140737488355328)) (by omega)) (Below.refl _ _) (Nat.le_refl _) ?_;intro v497 w4 ho5 hb hg_ hnew_;clear hg_ hnew_;(first | rw [← Ny496.out] at ho5 | (simp only [Int.reduceToNat] at ho5;rw [← Ny496.out] at ho5));have n0_:=zz31 (Kd.R_lower ho5 (zz5 (by repeat first | exact HB.out | apply zz2 | apply zz0 | apply zz1)));have n1_:=zz31 (zz4 (by repeat first | exact HB.out | apply zz2 | apply zz0 | apply zz1) hb);clear HB;have HO498:=n0_;have HB:=n1_;clear n0_ n1_;clear hb ho5))
   go_loopg [10] k (fun kq v10 w'=>∃ (x3_1:List Int) (x10_1:Int),v10=.int .i64 x10_1∧Aside0 (impl_table_others.l0 kq l0 x3_1 (l0.length:Int) x10_1=some r)∧Aside0 (kq≤k)∧Aside0 (Kd.R (Kd.int .u16) 83 w' w.heap.size (fun _=>True) v497 x3_1)∧Aside0 (Below w.heap.size w w'))
   case atStart=>exact ⟨(y496),(0),(by first | rfl | (simp;done) | (simp [*];done)),H',⟨Nat.le_refl _⟩,⟨by (with_reducible repeat (first | apply zz12 | apply zz13 | apply zz14));exact HO498.out⟩,⟨by repeat first | exact HB.out | apply zz2 | apply zz0 | apply zz1⟩⟩
   case round =>
    clear H'
    try clear c2
    try clear c2b0
    try clear c2b1
    try clear p2
    try clear c3
    try clear c3b0
    try clear c3b1
    try clear c5
    obtain ⟨x3_1,x10_1,rfl,HA,HK1,HO_3,HB⟩:=hrel
    cases gk with
    | zero=>exact absurd HA.out (by simp [impl_table_others.l0])
    | succ k1 =>
     have H:=HA.out
     clear HA
     simp only [impl_table_others.l0] at H
     by_cases c6:x10_1 < (l0.length:Int)
     ·rw [if_pos c6] at H
      have c6b0:decide (x10_1 < (l0.length:Int))=true:=decide_eq_true c6
      clear c6
      obtain ⟨ji7,hji7⟩:∃ j_:Int,(shl .u16 1 (l0.length:Int))=j_:=⟨_,rfl⟩
      replace H:(if 0≤x10_1 then (if x10_1 < (l0.length:Int) then (if x10_1 < (x3_1.length:Int) then (impl_table_others.l0 k1 l0 (x3_1.set (x10_1:Int).toNat (Go.bits .andNot .u16 (Go.bits .andNot .u16 (IntKind.u16.wrap ((ji7) - 1)) (rd l0 x10_1)) (shl .u16 1 x10_1))) (l0.length:Int) (wrap64 (x10_1+1))) else (none)) else (none)) else (none))=some r:=by first | (rw [hji7] at H;exact H) | (simp only [hji7] at H ⊢;exact H)
      have hji7_:(IntKind.u16.wrap (1 * 2 ^ min (l0.length:Int).toNat 16))=ji7:=hji7
      have hji7z:(l0.length:Int)≤16→(IntKind.u16.wrap (1 * 2 ^ (l0.length:Int).toNat))=ji7:=shl_small hji7
      have hji7p:(IntKind.u16.wrap (1 * 2 ^ min l0.length 16))=ji7:=hji7_
      have hji7q:(l0.length:Int)≤16→(IntKind.u16.wrap (1 * 2 ^ l0.length))=ji7:=hji7z
      have hji7r:(IntKind.u16.wrap (2 ^ min l0.length 16))=ji7:=by have h_:=hji7p;rw [Int.one_mul] at h_;exact h_
      have hji7s:(l0.length:Int)≤16→(IntKind.u16.wrap (2 ^ l0.length))=ji7:=fun hle_=>by have h_:=hji7q hle_;rw [Int.one_mul] at h_;exact h_
      have hji7u:(IntKind.u16.wrap (2 ^ min (l0.length:Int).toNat 16))=ji7:=by have h_:=hji7_;rw [Int.one_mul] at h_;exact h_
      have hji7v:(l0.length:Int)≤16→(IntKind.u16.wrap (2 ^ (l0.length:Int).toNat))=ji7:=fun hle_=>by have h_:=hji7z hle_;rw [Int.one_mul] at h_;exact h_
      by_cases c8:0≤x10_1
      ·rw [if_pos c8] at H
       have c8b0:decide (0≤x10_1)=true:=decide_eq_true c8
       clear c8
       by_cases c9:x10_1 < (l0.length:Int)
       ·rw [if_pos c9] at H
        have c9b0:decide (x10_1 < (l0.length:Int))=true:=decide_eq_true c9
        clear c9
        have c10b0:=eq_true (zz29 (by first | (with_reducible assumption) | assumption):0≤x10_1)
        obtain ⟨ji11,hji11⟩:∃ j_:Int,(shl .u16 1 x10_1)=j_:=⟨_,rfl⟩
        replace H:(if x10_1 < (x3_1.length:Int) then (impl_table_others.l0 k1 l0 (x3_1.set (x10_1:Int).toNat (Go.bits .andNot .u16 (Go.bits .andNot .u16 (IntKind.u16.wrap ((ji7) - 1)) (rd l0 x10_1)) (ji11))) (l0.length:Int) (wrap64 (x10_1+1))) else (none))=some r:=by first | (rw [hji11] at H;exact H) | (simp only [hji11] at H ⊢;exact H)
        have hji11_:(IntKind.u16.wrap (1 * 2 ^ min x10_1.toNat 16))=ji11:=hji11
        have hji11z:x10_1≤16→(IntKind.u16.wrap (1 * 2 ^ x10_1.toNat))=ji11:=shl_small hji11
        have hji11u:(IntKind.u16.wrap (2 ^ min x10_1.toNat 16))=ji11:=by have h_:=hji11_;rw [Int.one_mul] at h_;exact h_
        have hji11v:x10_1≤16→(IntKind.u16.wrap (2 ^ x10_1.toNat))=ji11:=fun hle_=>by have h_:=hji11z hle_;rw [Int.one_mul] at h_;exact h_
        by_cases c12:x10_1 < (x3_1.length:Int)
        ·rw [if_pos c12] at H
         have c12b0:decide (x10_1 < (x3_1.length:Int))=true:=decide_eq_true c12
         clear c12
         obtain ⟨y500,hy500⟩:∃ y_:List Int,y_=(x3_1.set (x10_1:Int).toNat (Go.bits .andNot .u16 (Go.bits .andNot .u16 (IntKind.u16.wrap ((ji7) - 1)) (rd l0 x10_1)) (ji11))):=⟨_,rfl⟩
         replace H:(impl_table_others.l0 k1 l0 y500 (l0.length:Int) (wrap64 (x10_1+1)))=some r:=by first | (rw [hy500];with_reducible exact H) | (have H2_:=(Option.bind_some _ _).symm.trans H;rw [hy500];with_reducible exact H2_) | (have H2_:=(Option.bind_some _ _).symm.trans H;with_reducible exact H2_) | with_reducible exact H | (rw [hy500];exact H) | exact H
         have Ny500:=zz31 hy500
         clear hy500
         have H':=zz31 H
         clear H
         try go_wp2
         have n0_:=zz31 (zz14 HO_3.out)
         have n1_:=zz31 (zz1 HB.out)
         clear HO_3
         clear HB
         have HO_3:=n0_
         have HB:=n1_
         clear n0_ n1_
         have p499:0≤(x10_1:Int):=zz29 (by first | (with_reducible assumption) | assumption)
         have q499:x10_1 < (l0.length:Int):=zz29 (by first | (with_reducible assumption) | assumption)
         obtain ⟨ad499,e499,hx499_0⟩:=Kd.at_int HR0.out x10_1 p499 q499
         have hw499_0:=hx499_0
         cases e499
         try replace hx499_0:=(HB.out.cell (World.block_lt_of_cell? w _ hx499_0)).trans hx499_0
         replace p499:=eq_true p499
         replace q499:=eq_true q499
         have p13:0≤(x10_1:Int):=zz29 (by first | (with_reducible assumption) | assumption)
         have q13:(x10_1:Int) < ((x3_1.length:Int):Int):=zz29 (by first | (with_reducible assumption) | assumption)
         obtain ⟨go13,co13,eo13,gb13,gl13,cl13,HG13⟩:=Kd.R_form HO_3.out (by omega)
         (first | cases eo13 | (injection eo13 with ea_ en_ ec_;(first | subst ea_ | (injection ea_ with ea_;subst ea_));subst ec_;clear en_))
         have GB13:=zz31 gb13
         have GG13:=zz31 HG13
         clear gb13 gl13 HG13
         obtain ⟨hx13_0,hf13_0⟩:=Kd.R_celln 0 HO_3.out (x10_1:Int) p13 q13
         replace p13:=eq_true p13
         replace q13:=eq_true q13
         have HP15:=Kd.R_putn HO_3.out (x10_1:Int) (Go.bits .andNot .u16 (Go.bits .andNot .u16 (IntKind.u16.wrap ((ji7) - 1)) (rd l0 x10_1)) (ji11))
         rw [← Ny500.out] at HP15
         have HQ15:=zz31 HP15
         clear HP15
         refine start_ (n:=16) (S:=fun w'=>w'.cell? (ad499.add (x10_1).toNat)=some (.int .u16 (rd l0 x10_1))) (ds:=[15]) #[F,F,F,F,F,F,F,F,F,F,F,F,F,F,F,F] (by kernel_rfl) rfl rfl (((HB.out.cell (World.block_lt_of_cell? w _ hw499_0)).trans hw499_0)) (fun hHeld=>?_);refine with_tabW impl_table_others.tab5 impl_table_others.bits5 (fun HT_ HW_=>?_)
         generalize wr.drew=w14 at HO_3 HB GG13 HQ15 hf13_0 hx13_0 hx499_0 hHeld ⊢
         refine pure_ (i:=0) (N:=some 13) (v:=?_) (a':=?_) #[T,F,F,F,F,F,F,F,F,F,F,F,F,F,F,F] rfl rfl (any_of HT_.out (by kernel_rfl)) (fun _ _ _ h=>h) (Or.inl ⟨by rfl,?_⟩) ?_ ?_
         rotate_left
         ·intro w'
          go_simp
          with_reducible rfl
         rotate_left
         ·simp only [Act.put,zz21,zz22,zz23,i64_w,i32_w]
          rfl
         refine pure_ (i:=1) (N:=some 14) (v:=?_) (a':=?_) #[T,T,F,F,F,F,F,F,F,F,F,F,F,F,F,F] rfl rfl (any_of HT_.out (by kernel_rfl)) (fun _ _ _ h=>h) (Or.inl ⟨by rfl,?_⟩) ?_ ?_
         rotate_left
         ·intro w'
          go_simp
          with_reducible rfl
         rotate_left
         ·simp only [Act.put,zz21,zz22,zz23,i64_w,i32_w]
          rfl
         refine pure_ (i:=2) (N:=some 15) (v:=?_) (a':=?_) #[T,T,T,F,F,F,F,F,F,F,F,F,F,F,F,F] rfl rfl (any_of HT_.out (by kernel_rfl)) (fun _ _ _ h=>h) (Or.inl ⟨by rfl,?_⟩) ?_ ?_
         rotate_left
         ·intro w'
          go_simp
          with_reducible rfl
         rotate_left
         ·simp only [Act.put,zz21,zz22,zz23,i64_w,i32_w]
          rfl
         refine pure_ (i:=3) (N:=some 16) (v:=?_) (a':=?_) #[T,T,T,T,F,F,F,F,F,F,F,F,F,F,F,F] rfl rfl (any_of HT_.out (by kernel_rfl)) (fun _ _ _ h=>h) (Or.inl ⟨by rfl,?_⟩) ?_ ?_
         rotate_left
         ·intro w'
          go_simp
          with_reducible rfl
         rotate_left
         ·simp only [Act.put,zz21,zz22,zz23,i64_w,i32_w]
          rfl
         refine pure_ (i:=4) (N:=some 17) (v:=?_) (a':=?_) #[T,T,T,T,T,F,F,F,F,F,F,F,F,F,F,F] rfl rfl (any_of HT_.out (by kernel_rfl)) (fun _ _ _ h=>h) (Or.inl ⟨by rfl,?_⟩) ?_ ?_
         rotate_left
         ·intro w'
          go_simp
          with_reducible rfl
         rotate_left
         ·simp only [Act.put,zz21,zz22,zz23,i64_w,i32_w]
          rfl
         refine pure_ (i:=5) (N:=some 18) (v:=?_) (a':=?_) #[T,T,T,T,T,T,F,F,F,F,F,F,F,F,F,F] rfl rfl (any_of HT_.out (by kernel_rfl)) (fun _ _ _ h=>h) (Or.inl ⟨by rfl,?_⟩) ?_ ?_
         rotate_left
         ·intro w'
          go_simp
          with_reducible rfl
         rotate_left
         ·simp only [Act.put,zz21,zz22,zz23,i64_w,i32_w]
          rfl
         refine pure_ (i:=6) (N:=some 19) (v:=?_) (a':=?_) #[T,T,T,T,T,T,T,F,F,F,F,F,F,F,F,F] rfl rfl (any_of HT_.out (by kernel_rfl)) (fun _ _ _ h=>h) (Or.inl ⟨by rfl,?_⟩) ?_ ?_
         rotate_left
         ·intro w'
          go_simp
          with_reducible rfl
         rotate_left
         ·simp only [Act.put,zz21,zz22,zz23,i64_w,i32_w]
          rfl
         refine pure_ (i:=7) (N:=some 20) (v:=?_) (a':=?_) #[T,T,T,T,T,T,T,T,F,F,F,F,F,F,F,F] rfl rfl (any_of HT_.out (by kernel_rfl)) (fun _ _ _ h=>h) (Or.inl ⟨by rfl,?_⟩) ?_ ?_
         rotate_left
         ·intro w'
          go_simp
          with_reducible rfl
         rotate_left
         ·simp only [Act.put,zz21,zz22,zz23,i64_w,i32_w]
          rfl
         refine pure_ (i:=8) (N:=some 21) (v:=?_) (a':=?_) #[T,T,T,T,T,T,T,T,T,F,F,F,F,F,F,F] rfl rfl (any_of HT_.out (by kernel_rfl)) (fun _ _ _ h=>h) (Or.inl ⟨by rfl,?_⟩) ?_ ?_
         rotate_left
         ·intro w'
          go_simp
          with_reducible rfl
         rotate_left
         ·simp only [Act.put,zz21,zz22,zz23,i64_w,i32_w]
          rfl
         refine pure_ (i:=11) (N:=some 24) (v:=?_) (a':=?_) #[T,T,T,T,T,T,T,T,T,F,F,T,F,F,F,F] rfl rfl (any_of HT_.out (by kernel_rfl)) (fun _ _ _ h=>h) (Or.inl ⟨by rfl,?_⟩) ?_ ?_
         rotate_left
         ·intro w'
          go_simp
          with_reducible rfl
         rotate_left
         ·simp only [Act.put,zz21,zz22,zz23,i64_w,i32_w]
          rfl
         refine pure_ (i:=12) (N:=some 25) (v:=?_) (a':=?_) #[T,T,T,T,T,T,T,T,T,F,F,T,T,F,F,F] rfl rfl (any_of HT_.out (by kernel_rfl)) (fun _ _ _ h=>h) (Or.inl ⟨by rfl,?_⟩) ?_ ?_
         rotate_left
         ·intro w'
          go_simp
          with_reducible rfl
         rotate_left
         ·simp only [Act.put,zz21,zz22,zz23,i64_w,i32_w]
          rfl
         refine take_ (i:=9) (N:=some 22) (v:=?_) (a':=?_) #[T,T,T,T,T,T,T,T,T,T,F,T,T,F,F,F] rfl rfl (take_ofW HT_.out HW_.out (by kernel_rfl)) (fun _ _ _ h=>h) (Or.inl ⟨by rfl,?_⟩) hHeld ?_ ?_
         rotate_left
         ·intro w' s0
          go_simp
          with_reducible rfl
         rotate_left
         ·simp only [Act.put,zz21,zz22,zz23,i64_w,i32_w]
          rfl
         refine pure_ (i:=10) (N:=some 23) (v:=?_) (a':=?_) #[T,T,T,T,T,T,T,T,T,T,T,T,T,F,F,F] rfl rfl (any_of HT_.out (by kernel_rfl)) (fun _ _ _ h=>h) (Or.inl ⟨by rfl,?_⟩) ?_ ?_
         rotate_left
         ·intro w'
          go_simp
          with_reducible rfl
         rotate_left
         ·simp only [Act.put,zz21,zz22,zz23,i64_w,i32_w]
          rfl
         refine pure_ (i:=13) (N:=some 26) (v:=?_) (a':=?_) #[T,T,T,T,T,T,T,T,T,T,T,T,T,T,F,F] rfl rfl (any_of HT_.out (by kernel_rfl)) (fun _ _ _ h=>h) (Or.inl ⟨by rfl,?_⟩) ?_ ?_
         rotate_left
         ·intro w'
          go_simp
          with_reducible rfl
         rotate_left
         ·simp only [Act.put,zz21,zz22,zz23,i64_w,i32_w]
          rfl
         refine pure_ (i:=14) (N:=some 27) (v:=?_) (a':=?_) #[T,T,T,T,T,T,T,T,T,T,T,T,T,T,T,F] rfl rfl (any_of HT_.out (by kernel_rfl)) (fun _ _ _ h=>h) (Or.inl ⟨by rfl,?_⟩) ?_ ?_
         rotate_left
         ·intro w'
          go_simp
          with_reducible rfl
         rotate_left
         ·simp only [Act.put,zz21,zz22,zz23,i64_w,i32_w]
          rfl
         refine last_ (i:=15) (N:=none) #[T,T,T,T,T,T,T,T,T,T,T,T,T,T,T,T] rfl rfl (one_of HT_.out (by kernel_rfl)) (by decide) (fun K hK=>?_)
         refine skip_ (w1:=?_) (by rfl) rfl ?_ ?_
         rotate_left
         ·go_simp
          rfl
         refine hK.out _ _ ?_
         clear hK K
         refine done_ (done_of HT_.out (by kernel_rfl)) ?_
         try go_wp2
         go_roundg k1
         case measure=>have:=HK1.out;omega
         case rel=>exact ⟨(y500),(wrap64 (x10_1+1)),(by first | rfl | (simp;done) | (simp [*];done)),H',⟨by have:=HK1.out;omega⟩,⟨by (with_reducible repeat (first | apply zz12 | apply zz13 | apply zz14));exact HQ15.out⟩,⟨by repeat first | exact HB.out | apply zz2 | apply zz0 | apply zz1 | refine zz3 ?_ GB13.out⟩⟩
        ·rw [if_neg c12] at H
         exact absurd H (by simp)
       ·rw [if_neg c9] at H
        exact absurd H (by simp)
      ·rw [if_neg c8] at H
       exact absurd H (by simp)
     ·rw [if_neg c6] at H
      have c6b0:decide (x10_1 < (l0.length:Int))=false:=decide_eq_false c6
      clear c6
      obtain rfl:=Option.some.inj H
      go_wp2
      go_ret
      exact ⟨_,by first | rfl | (simp [errW_none,errW_some] <;> rfl) | (simp [*,errW_none,errW_some] <;> rfl),by (with_reducible repeat (first | apply zz12 | apply zz13 | apply zz14));exact HO_3.out,by repeat first | exact HB.out | apply zz2 | apply zz0 | apply zz1⟩
  ·rw [if_neg c3] at H
   exact absurd H (by simp)
 ·rw [if_neg c2] at H
  exact absurd H (by simp)

/-! ### impl_GroupsOfParty: function 28 -/
def impl_GroupsOfParty.l0:Nat→List (List Int)→List Int→Int→Int→Option ((List (List Int)) × Bool)
 | 0,_,_,_,_=>none
 | k+1,x6,x21,x22,x23=>if x23 < x22 then (if 0≤x23 then (if x23 < (x21.length:Int) then (if 0≤(rd x21 x23) then (if (rd x21 x23) < (x6.length:Int) then (if (rd_L6 x6 (rd x21 x23)).length < 17592186044416 then (impl_GroupsOfParty.l0 k (x6.set ((rd x21 x23):Int).toNat ((rd_L6 x6 (rd x21 x23)) ++ [x23])) x21 x22 (wrap64 (x23+1))) else (none)) else (none)) else (none)) else (none)) else (none)) else (some (x6,true))
def impl_GroupsOfParty.f (k:Nat) (a0_0:Int) (l0_1:List (S79)):Option ((List (List Int)) × Bool):=(impl_isFewColoured.f k a0_0 l0_1).bind fun t502=>(if t502=true then ((impl_Party_table.f k a0_0 l0_1).bind fun t503=>((impl_table_others.f k t503).bind fun t506=>((impl_table_fewest.f t506).bind fun bt509=>(if 0≤bt509.2 then (if (bt509.2:Int).toNat≤11728124029610 then (impl_GroupsOfParty.l0 k (List.replicate (bt509.2:Int).toNat []) bt509.1 (bt509.1.length:Int) 0) else (none)) else (none))))) else (some (([]:List (List Int)),false)))
theorem impl_GroupsOfParty.mono_l:∀ k,(∀ y0 y1 y2 y3,LeO (impl_GroupsOfParty.l0 k y0 y1 y2 y3) (impl_GroupsOfParty.l0 (k+1) y0 y1 y2 y3))
 | 0=>fun _ _ _ _ r h=>by simp [impl_GroupsOfParty.l0] at h
 | k+1=>by
  have ih0:=impl_GroupsOfParty.mono_l k
  ·intro y0 y1 y2 y3
   unfold impl_GroupsOfParty.l0
   repeat' first
   | (with_reducible exact ih0 _ _ _ _)
   | (with_reducible exact impl_Party_table.mono _ _ _)
   | (with_reducible exact impl_isFewColoured.mono _ _ _)
   | (with_reducible exact impl_table_others.mono _ _)
   | (with_reducible exact LeO.refl _)
   | (with_reducible exact LeO.none _)
   | (with_reducible refine LeO.ite ?_ ?_)
   | (with_reducible refine LeO.bind ?_ (fun _=>?_))
   | exact ih0 _ _ _ _
   | exact impl_Party_table.mono _ _ _
   | exact impl_isFewColoured.mono _ _ _
   | exact impl_table_others.mono _ _
   | exact LeO.none _
   | refine LeO.ite ?_ ?_
   | refine LeO.bind ?_ (fun _=>?_)
theorem impl_GroupsOfParty.mono:∀ a0 a1 k,LeO (impl_GroupsOfParty.f k a0 a1) (impl_GroupsOfParty.f (k+1) a0 a1):=by
 intro a0 a1 k
 have ih0:=impl_GroupsOfParty.mono_l k
 unfold impl_GroupsOfParty.f
 repeat' first
   | (with_reducible exact ih0 _ _ _ _)
   | (with_reducible exact impl_Party_table.mono _ _ _)
   | (with_reducible exact impl_isFewColoured.mono _ _ _)
   | (with_reducible exact impl_table_others.mono _ _)
   | (with_reducible exact LeO.refl _)
   | (with_reducible exact LeO.none _)
   | (with_reducible refine LeO.ite ?_ ?_)
   | (with_reducible refine LeO.bind ?_ (fun _=>?_))
   | exact ih0 _ _ _ _
   | exact impl_Party_table.mono _ _ _
   | exact impl_isFewColoured.mono _ _ _
   | exact impl_table_others.mono _ _
   | exact LeO.none _
   | refine LeO.ite ?_ ?_
   | refine LeO.bind ?_ (fun _=>?_)
set_option maxHeartbeats 8000000 in
set_option maxRecDepth 100000 in
theorem impl_GroupsOfParty.calls (k:Nat) (a0_0:Int) (A0_1:Option Addr) (c0_1:Nat) (l0_1:List (S79)) (r1:List (List Int)) (r2:Bool) (w:World) (hr0_1:Kd.C k79 w A0_1 l0_1.length l0_1) (hc0_1:l0_1.length≤c0_1) (h:impl_GroupsOfParty.f k a0_0 l0_1=some (r1,r2)) :
  Calls Try.prog 28 #[.agg #[.int .i64 a0_0,.slice A0_1 l0_1.length c0_1]] w fun e w'=>∃ v0_:Value,e=.returned (.tuple #[v0_,.bool r2])∧Kd.S (Kd.slice 3 (Kd.int .i64)) 25 w' w.heap.size (fun _=>True) v0_ r1∧Below w.heap.size w w':=by
 have hu31:=Try.underlying31
 have HR0_1:=zz31 hr0_1
 have HC0_1:=zz31 hc0_1
 clear hr0_1 hc0_1
 have HB:=zz31 (Below.refl w.heap.size w)
 have H:((impl_isFewColoured.f k a0_0 l0_1).bind fun t502=>(if t502=true then ((impl_Party_table.f k a0_0 l0_1).bind fun t503=>((impl_table_others.f k t503).bind fun t506=>((impl_table_fewest.f t506).bind fun bt509=>(if 0≤bt509.2 then (if (bt509.2:Int).toNat≤11728124029610 then (impl_GroupsOfParty.l0 k (List.replicate (bt509.2:Int).toNat []) bt509.1 (bt509.1.length:Int) 0) else (none)) else (none))))) else (some (([]:List (List Int)),false))))=some (r1,r2):=h
 clear h
 replace H:=zz30.mp H
 obtain ⟨t502,A20,H⟩:=H
 replace H:(if t502=true then ((impl_Party_table.f k a0_0 l0_1).bind fun t503=>((impl_table_others.f k t503).bind fun t506=>((impl_table_fewest.f t506).bind fun bt509=>(if 0≤bt509.2 then (if (bt509.2:Int).toNat≤11728124029610 then (impl_GroupsOfParty.l0 k (List.replicate (bt509.2:Int).toNat []) bt509.1 (bt509.1.length:Int) 0) else (none)) else (none))))) else (some (([]:List (List Int)),false)))=some (r1,r2):=H
 have A2:=zz31 A20
 clear A20
 by_cases c3:t502=true
 ·subst c3
  have H1:((impl_Party_table.f k a0_0 l0_1).bind fun t503=>((impl_table_others.f k t503).bind fun t506=>((impl_table_fewest.f t506).bind fun bt509=>(if 0≤bt509.2 then (if (bt509.2:Int).toNat≤11728124029610 then (impl_GroupsOfParty.l0 k (List.replicate (bt509.2:Int).toNat []) bt509.1 (bt509.1.length:Int) 0) else (none)) else (none)))))=some (r1,r2):=by rw [if_pos rfl] at H;exact H
  clear H
  have H:=H1
  clear H1
  replace H:=zz30.mp H
  obtain ⟨t503,A40,H⟩:=H
  replace H:((impl_table_others.f k t503).bind fun t506=>((impl_table_fewest.f t506).bind fun bt509=>(if 0≤bt509.2 then (if (bt509.2:Int).toNat≤11728124029610 then (impl_GroupsOfParty.l0 k (List.replicate (bt509.2:Int).toNat []) bt509.1 (bt509.1.length:Int) 0) else (none)) else (none))))=some (r1,r2):=H
  have A4:=zz31 A40
  clear A40
  replace H:=zz30.mp H
  obtain ⟨t506,A50,H⟩:=H
  replace H:((impl_table_fewest.f t506).bind fun bt509=>(if 0≤bt509.2 then (if (bt509.2:Int).toNat≤11728124029610 then (impl_GroupsOfParty.l0 k (List.replicate (bt509.2:Int).toNat []) bt509.1 (bt509.1.length:Int) 0) else (none)) else (none)))=some (r1,r2):=H
  have A5:=zz31 A50
  clear A50
  replace H:=zz30.mp H
  obtain ⟨⟨t509,t510⟩,A60,H⟩:=H
  replace H:(if 0≤t510 then (if (t510:Int).toNat≤11728124029610 then (impl_GroupsOfParty.l0 k (List.replicate (t510:Int).toNat []) t509 (t509.length:Int) 0) else (none)) else (none))=some (r1,r2):=H
  have A6:=zz31 A60
  clear A60
  by_cases c7:0≤t510
  ·rw [if_pos c7] at H
   have c7b0:=eq_true c7
   have c7b1:decide (0≤t510)=true:=decide_eq_true c7
   clear c7
   by_cases c8:(t510:Int).toNat≤11728124029610
   ·rw [if_pos c8] at H
    have c8b0:=eq_true c8
    have c8b1:decide ((t510:Int).toNat≤11728124029610)=true:=decide_eq_true c8
    clear c8
    obtain ⟨y513,hy513⟩:∃ y_:List (List Int),y_=(List.replicate (t510:Int).toNat []):=⟨_,rfl⟩
    replace H:(impl_GroupsOfParty.l0 k y513 t509 (t509.length:Int) 0)=some (r1,r2):=by first | (rw [hy513];with_reducible exact H) | (have H2_:=(Option.bind_some _ _).symm.trans H;rw [hy513];with_reducible exact H2_) | (have H2_:=(Option.bind_some _ _).symm.trans H;with_reducible exact H2_) | with_reducible exact H | (rw [hy513];exact H) | exact H
    have Ny513:=zz31 hy513
    clear hy513
    have H':=zz31 H
    clear H
    go_enter Try.func28,Try.ntmps28
    go_wp2_with (first | ((with_reducible refine gate_dst (N:=1) rfl ?_);refine box_event ?hg (N:=1) ?hd (cs:=#[.int .i64 a0_0,.slice A0_1 l0_1.length c0_1]) (t:=31) ?hr ?_;(case hd=>rfl);(case hg=>rfl);(case hr=>first | (go_simp;done) | (go_simp;rfl));intro gb501 hg w9 hbox hb;have n0_:=zz31 (zz4 (by repeat first | exact HB.out | apply zz2 | apply zz0 | apply zz1) hb);have n1_:=zz31 (hbox);have n2_:=zz31 ((by rw [hg];exact (zz5 (by repeat first | exact HB.out | apply zz2 | apply zz0 | apply zz1)):w.heap.size≤gb501));have n3_:=zz31 ((by rw [hg];exact (zz5 (by repeat first | exact HB.out | apply zz2 | apply zz0 | apply zz1)):w.heap.size≤gb501));clear HB;have HB:=n0_;have BK501:=n1_;have GW501:=n2_;have GE501:=n3_;clear n0_ n1_ n2_ n3_;clear hb hbox hg;have hcz10_0:w9.cell? ⟨gb501,0,none⟩=some (.int .i64 a0_0):=(zz9 BK501.out 0).trans rfl;have hcz10_1:w9.cell? ⟨gb501,1,none⟩=some (.slice A0_1 l0_1.length c0_1):=(zz9 BK501.out 1).trans rfl;have hfz10_0:=zz10 BK501.out 0;have hfz10_1:=zz10 BK501.out 1) | ((with_reducible refine gate_callee (f:=51) rfl ?_);refine goesL_ (some 10) rfl rfl Try.func51 (by kernel_rfl) rfl #[.agg #[.int .i64 a0_0,.slice A0_1 l0_1.length c0_1]] rfl (by (try simp only [zz26,zz27,zz28]);first | done | rfl | (simp only [zz24,zz25];rfl)) ?_;(with_reducible refine (impl_isFewColoured.calls k a0_0 _ _ l0_1 true _ ?side1 ?side2 A2.out).mono ?_);(case side1=>repeat (first | exact (Kd.C_below HR0_1.out HB.out) | (with_reducible refine zz18 ?_ _) | (with_reducible refine zz19 ?_ _) | (with_reducible refine zz20 ?_)));(case side2=>exact HC0_1.out);rintro e w11 ⟨rfl,hb⟩;refine ⟨_,rfl,?_⟩;have n0_:=zz31 (zz11 (g:=gb501) (o:=.cells #[.int .i64 a0_0,.slice A0_1 l0_1.length c0_1] 31 (0,0)) (by (with_reducible repeat (first | refine zz6 ?_ _ | refine zz7 ?_ | refine zz8 ?_ _));exact BK501.out) hb);have n1_:=zz31 (zz4 (by repeat first | exact HB.out | apply zz2 | apply zz0 | apply zz1 | refine zz3 ?_ GE501.out) hb);clear BK501;clear HB;have BK501:=n0_;have HB:=n1_;clear n0_ n1_;(try clear hb);(try clear hb2);(try clear hk);(try clear hi);have hcz12_0:w11.cell? ⟨gb501,0,none⟩=some (.int .i64 a0_0):=(zz9 BK501.out 0).trans rfl;have hcz12_1:w11.cell? ⟨gb501,1,none⟩=some (.slice A0_1 l0_1.length c0_1):=(zz9 BK501.out 1).trans rfl;have hfz12_0:=zz10 BK501.out 0;have hfz12_1:=zz10 BK501.out 1) | ((with_reducible refine gate_callee (f:=41) rfl ?_);refine goesL_ (some 14) rfl rfl Try.func41 (by kernel_rfl) rfl #[.agg #[.int .i64 a0_0,.slice A0_1 l0_1.length c0_1]] rfl (by (try simp only [zz26,zz27,zz28]);first | done | rfl | (simp only [zz24,zz25];rfl)) ?_;(with_reducible refine (impl_Party_table.calls k a0_0 _ _ l0_1 t503 _ ?side1 ?side2 A4.out).mono ?_);(case side1=>repeat (first | exact (Kd.C_below HR0_1.out HB.out) | (with_reducible refine zz18 ?_ _) | (with_reducible refine zz19 ?_ _) | (with_reducible refine zz20 ?_)));(case side2=>exact HC0_1.out);rintro e w13 ⟨v504,rfl,ho0,hb⟩;refine ⟨_,rfl,?_⟩;have n0_:=zz31 (Kd.R_lower ho0 (zz5 (by repeat first | exact HB.out | apply zz2 | apply zz0 | apply zz1 | refine zz3 ?_ GE501.out)));have n1_:=zz31 (zz11 (g:=gb501) (o:=.cells #[.int .i64 a0_0,.slice A0_1 l0_1.length c0_1] 31 (0,0)) (by (with_reducible repeat (first | refine zz6 ?_ _ | refine zz7 ?_ | refine zz8 ?_ _));exact BK501.out) hb);have n2_:=zz31 (zz4 (by repeat first | exact HB.out | apply zz2 | apply zz0 | apply zz1 | refine zz3 ?_ GE501.out) hb);clear BK501;clear HB;have HO505:=n0_;have BK501:=n1_;have HB:=n2_;clear n0_ n1_ n2_;(try clear hb);(try clear hb2);(try clear hk);(try clear hi);(try clear ho0);obtain ⟨Ao14,co14,eo14⟩:=Kd.R_slice HO505.out;subst eo14) | ((with_reducible refine gate_callee (f:=58) rfl ?_);refine goesL_ (some 15) rfl rfl Try.func58 (by kernel_rfl) rfl #[.slice Ao14 t503.length co14] rfl (by (try simp only [zz26,zz27,zz28]);first | done | rfl | (simp only [zz24,zz25];rfl)) ?_;(with_reducible refine (impl_table_others.calls k _ _ t503 t506 _ ?side1 ?side2 A5.out).mono ?_);(case side1=>repeat (first | exact (Kd.R_reads' HO505.out).2.2 | (with_reducible refine zz18 ?_ _) | (with_reducible refine zz19 ?_ _) | (with_reducible refine zz20 ?_)));(case side2=>exact (Kd.R_reads' HO505.out).2.1);rintro e w15 ⟨v507,rfl,ho0,hb⟩;refine ⟨_,rfl,?_⟩;have n0_:=zz31 (Kd.R_elder' (by (with_reducible repeat (first | apply zz12 | apply zz13 | apply zz14));exact HO505.out) (Kd.R_base ho0) hb);have n1_:=zz31 (Kd.R_lower (Kd.R_new' ho0 (Kd.R_lt (by (with_reducible repeat (first | apply zz12 | apply zz13 | apply zz14));exact HO505.out))) (zz5 (by repeat first | exact HB.out | apply zz2 | apply zz0 | apply zz1 | refine zz3 ?_ GE501.out)));have n2_:=zz31 (zz11 (g:=gb501) (o:=.cells #[.int .i64 a0_0,.slice A0_1 l0_1.length c0_1] 31 (0,0)) (by (with_reducible repeat (first | refine zz6 ?_ _ | refine zz7 ?_ | refine zz8 ?_ _));exact BK501.out) hb);have n3_:=zz31 (zz4 (by repeat first | exact HB.out | apply zz2 | apply zz0 | apply zz1 | refine zz3 ?_ GE501.out) hb);clear HO505;clear BK501;clear HB;have HO505:=n0_;have HO508:=n1_;have BK501:=n2_;have HB:=n3_;clear n0_ n1_ n2_ n3_;(try clear hb);(try clear hb2);(try clear hk);(try clear hi);(try clear ho0);obtain ⟨Ao16,co16,eo16⟩:=Kd.R_slice HO508.out;subst eo16) | ((with_reducible refine gate_callee (f:=56) rfl ?_);refine goesL_ (some 16) rfl rfl Try.func56 (by kernel_rfl) rfl #[.slice Ao16 t506.length co16] rfl (by (try simp only [zz26,zz27,zz28]);first | done | rfl | (simp only [zz24,zz25];rfl)) ?_;(with_reducible refine (impl_table_fewest.calls _ _ t506 t509 t510 _ ?side1 ?side2 A6.out).mono ?_);(case side1=>repeat (first | exact (Kd.R_reads' HO508.out).2.2 | (with_reducible refine zz18 ?_ _) | (with_reducible refine zz19 ?_ _) | (with_reducible refine zz20 ?_)));(case side2=>exact (Kd.R_reads' HO508.out).2.1);rintro e w17 ⟨v511,rfl,ho0,hb⟩;refine ⟨_,rfl,?_⟩;have n0_:=zz31 (Kd.R_below (by (with_reducible repeat (first | apply zz12 | apply zz13 | apply zz14));exact HO505.out) hb);have n1_:=zz31 (Kd.R_below (by (with_reducible repeat (first | apply zz12 | apply zz13 | apply zz14));exact HO508.out) hb);have n2_:=zz31 (Kd.R_lower ho0 (zz5 (by repeat first | exact HB.out | apply zz2 | apply zz0 | apply zz1 | refine zz3 ?_ GE501.out)));have n3_:=zz31 (zz11 (g:=gb501) (o:=.cells #[.int .i64 a0_0,.slice A0_1 l0_1.length c0_1] 31 (0,0)) (by (with_reducible repeat (first | refine zz6 ?_ _ | refine zz7 ?_ | refine zz8 ?_ _));exact BK501.out) hb);have n4_:=zz31 (zz4 (by repeat first | exact HB.out | apply zz2 | apply zz0 | apply zz1 | refine zz3 ?_ GE501.out) hb);clear HO505;clear HO508;clear BK501;clear HB;have HO505:=n0_;have HO508:=n1_;have HO512:=n2_;have BK501:=n3_;have HB:=n4_;clear n0_ n1_ n2_ n3_ n4_;(try clear hb);(try clear hb2);(try clear hk);(try clear hi);(try clear ho0)) | ((with_reducible refine gate_dst (N:=20) rfl ?_);refine Kd.S_make (Kd.slice 3 (Kd.int .i64)) _ 25 rfl (N:=20) rfl 45 _ _ rfl t510 rfl rfl Try.underlying45 (.slice none 0 0) 24 info25 rfl (by decide) (by omega) [] (ok:=fun _=>True) (okp:=fun _=>True) ⟨_,rfl,Kd.R_nil _ _ _ _ _⟩ (fun _ hk=>hk) trivial (zz29 (by first | (with_reducible assumption) | assumption)) (Nat.le_trans (Nat.mul_le_mul_right _ (zz29 (by first | (with_reducible assumption) | assumption):t510.toNat≤11728124029610)) (by omega)) (Below.refl _ _) (Nat.le_refl _) ?_;intro v514 w18 ho19 hb hg_ hnew_;clear hg_ hnew_;(first | rw [← Ny513.out] at ho19 | (simp only [Int.reduceToNat] at ho19;rw [← Ny513.out] at ho19));have n0_:=zz31 (Kd.R_below (by (with_reducible repeat (first | apply zz12 | apply zz13 | apply zz14));exact HO505.out) hb);have n1_:=zz31 (Kd.R_below (by (with_reducible repeat (first | apply zz12 | apply zz13 | apply zz14));exact HO508.out) hb);have n2_:=zz31 (Kd.R_below (by (with_reducible repeat (first | apply zz12 | apply zz13 | apply zz14));exact HO512.out) hb);have n3_:=zz31 (Kd.S_lower (Kd.S_new' ho19 (Kd.R_lt (by (with_reducible repeat (first | apply zz12 | apply zz13 | apply zz14));exact HO512.out))) (zz5 (by repeat first | exact HB.out | apply zz2 | apply zz0 | apply zz1 | refine zz3 ?_ GE501.out)));have n4_:=zz31 (zz11 (g:=gb501) (o:=.cells #[.int .i64 a0_0,.slice A0_1 l0_1.length c0_1] 31 (0,0)) (by (with_reducible repeat (first | refine zz6 ?_ _ | refine zz7 ?_ | refine zz8 ?_ _));exact BK501.out) hb);have n5_:=zz31 (zz4 (by repeat first | exact HB.out | apply zz2 | apply zz0 | apply zz1 | refine zz3 ?_ GE501.out) hb);clear HO505;clear HO508;clear HO512;clear BK501;clear HB;have HO505:=n0_;have HO508:=n1_;have HO512:=n2_;have HO515:=n3_;have BK501:=n4_;have HB:=n5_;clear n0_ n1_ n2_ n3_ n4_ n5_;clear hb ho19;obtain ⟨Ao20,co20,eo20⟩:=Kd.R_slice HO512.out;subst eo20))
    go_loopg [23] k (fun kq v23 w'=>∃ (x6_1:List (List Int)) (x23_1:Int),v23=.int .i64 x23_1∧Aside0 (impl_GroupsOfParty.l0 kq x6_1 t509 (t509.length:Int) x23_1=some (r1,r2))∧Aside0 (kq≤k)∧Aside0 (Kd.S (Kd.slice 3 (Kd.int .i64)) 25 w' w.heap.size (fun k_=>some k_ ≠ ((.slice Ao20 t509.length co20):Value).ownBlock) v514 x6_1)∧Aside0 (Kd.R (Kd.int .i64) 3 w' w.heap.size (fun _=>True) (.slice Ao20 t509.length co20) t509)∧Aside0 (w'.heap[gb501]?=some (.cells #[.int .i64 a0_0,(.slice A0_1 l0_1.length c0_1)] 31 (0,0)))∧Aside0 (Below w.heap.size w w'))
    case atStart=>exact ⟨(y513),(0),(by first | rfl | (simp;done) | (simp [*];done)),H',⟨Nat.le_refl _⟩,⟨by (with_reducible repeat (first | apply zz15 | apply zz16 | apply zz17));exact Kd.S_mono HO515.out (fun _ hk=>hk.2)⟩,⟨by (with_reducible repeat (first | apply zz12 | apply zz13 | apply zz14));exact HO512.out⟩,⟨by (with_reducible repeat (first | refine zz6 ?_ _ | refine zz7 ?_ | refine zz8 ?_ _));exact BK501.out⟩,⟨by repeat first | exact HB.out | apply zz2 | apply zz0 | apply zz1 | refine zz3 ?_ GE501.out⟩⟩
    case round =>
     clear H'
     try clear c2
     try clear p2
     try clear c3
     try clear c4
     try clear c5
     try clear c7
     try clear c7b0
     try clear c7b1
     try clear c8
     try clear c8b0
     try clear c8b1
     try clear hcz10_0
     try clear hcz10_1
     try clear hcz12_0
     try clear hcz12_1
     try clear hfz10_0
     try clear hfz10_1
     try clear hfz12_0
     try clear hfz12_1
     obtain ⟨x6_1,x23_1,rfl,HA,HK1,HO_6,HO_21,BK501,HB⟩:=hrel
     cases gk with
     | zero=>exact absurd HA.out (by simp [impl_GroupsOfParty.l0])
     | succ k1 =>
      have H:=HA.out
      clear HA
      simp only [impl_GroupsOfParty.l0] at H
      by_cases c21:x23_1 < (t509.length:Int)
      ·rw [if_pos c21] at H
       have c21b0:decide (x23_1 < (t509.length:Int))=true:=decide_eq_true c21
       clear c21
       by_cases c22:0≤x23_1
       ·rw [if_pos c22] at H
        have c22b0:decide (0≤x23_1)=true:=decide_eq_true c22
        clear c22
        by_cases c23:x23_1 < (t509.length:Int)
        ·rw [if_pos c23] at H
         have c23b0:decide (x23_1 < (t509.length:Int))=true:=decide_eq_true c23
         clear c23
         by_cases c24:0≤(rd t509 x23_1)
         ·rw [if_pos c24] at H
          have c24b0:decide (0≤(rd t509 x23_1))=true:=decide_eq_true c24
          clear c24
          by_cases c25:(rd t509 x23_1) < (x6_1.length:Int)
          ·rw [if_pos c25] at H
           have c25b0:decide ((rd t509 x23_1) < (x6_1.length:Int))=true:=decide_eq_true c25
           clear c25
           by_cases c26:(rd_L6 x6_1 (rd t509 x23_1)).length < 17592186044416
           ·rw [if_pos c26] at H
            have LMc26:=zz31 c26
            clear c26
            obtain ⟨y518,hy518⟩:∃ y_:List Int,y_=((rd_L6 x6_1 (rd t509 x23_1)) ++ [x23_1]):=⟨_,rfl⟩
            replace H:(impl_GroupsOfParty.l0 k1 (x6_1.set ((rd t509 x23_1):Int).toNat y518) t509 (t509.length:Int) (wrap64 (x23_1+1)))=some (r1,r2):=by first | (rw [hy518];with_reducible exact H) | (have H2_:=(Option.bind_some _ _).symm.trans H;rw [hy518];with_reducible exact H2_) | (have H2_:=(Option.bind_some _ _).symm.trans H;with_reducible exact H2_) | with_reducible exact H | (rw [hy518];exact H) | exact H
            have Ny518:=zz31 hy518
            clear hy518
            obtain ⟨y521,hy521⟩:∃ y_:List (List Int),y_=(x6_1.set ((rd t509 x23_1):Int).toNat y518):=⟨_,rfl⟩
            replace H:(impl_GroupsOfParty.l0 k1 y521 t509 (t509.length:Int) (wrap64 (x23_1+1)))=some (r1,r2):=by first | (rw [hy521];with_reducible exact H) | (have H2_:=(Option.bind_some _ _).symm.trans H;rw [hy521];with_reducible exact H2_) | (have H2_:=(Option.bind_some _ _).symm.trans H;with_reducible exact H2_) | with_reducible exact H | (rw [hy521];exact H) | exact H
            have Ny521:=zz31 hy521
            clear hy521
            have H':=zz31 H
            clear H
            have p516:0≤(x23_1:Int):=zz29 (by first | (with_reducible assumption) | assumption)
            have q516:x23_1 < (t509.length:Int):=zz29 (by first | (with_reducible assumption) | assumption)
            obtain ⟨ad516,e516,hx516_0⟩:=Kd.at_int (Kd.R_reads' HO_21.out).2.2 x23_1 p516 q516
            cases e516
            replace p516:=eq_true p516
            replace q516:=eq_true q516
            obtain ⟨Ao28,co28,eo28⟩:=Kd.S_slice HO_6.out
            subst eo28
            have p517:0≤((rd t509 x23_1):Int):=zz29 (by first | (with_reducible assumption) | assumption)
            have q517:(rd t509 x23_1) < (x6_1.length:Int):=zz29 (by first | (with_reducible assumption) | assumption)
            obtain ⟨ad517,A517_0,c517_0,e517,hx517_0,hl517_0,hi517_0⟩:=at_L6 (Kd.S_reads' HO_6.out).2.2 (rd t509 x23_1) p517 q517
            cases e517
            obtain ⟨ce517,hce517,hMe517,hcc517⟩:=Kd.S_get HO_6.out [] (rd t509 x23_1) p517 (by first | exact q517 | exact zz29 (by first | (with_reducible assumption) | assumption) | (have e_:=(Kd.S_reads' HO_6.out).1;omega))
            obtain ⟨ve517_0,rfl,ge517_0⟩:=hMe517
            have hv517_0:=hcc517 0 _ rfl
            rw [Nat.add_zero,show ((Kd.slice 3 (Kd.int .i64))).sz=1 from rfl,Nat.mul_one] at hv517_0
            replace hv517_0:=Option.some.inj (hv517_0.symm.trans hx517_0)
            rw [hv517_0] at ge517_0
            have HL517_0:=zz31 (show Kd.R (Kd.int .i64) 3 _ _ _ _ (rd_L6 x6_1 (rd t509 x23_1)) from ge517_0)
            clear hv517_0 ge517_0
            have HX517_0:=zz31 hx517_0
            clear hcc517 hce517
            have HR517_0:=zz31 hi517_0
            have HC517_0:=zz31 hl517_0
            clear hi517_0 hl517_0
            replace p517:=eq_true p517
            replace q517:=eq_true q517
            obtain ⟨go29,co29,eo29,gb29,gl29,cl29,HG29⟩:=Kd.S_form HO_6.out (by have h_:((rd t509 x23_1):Int) < ((x6_1.length:Int):Int):=zz29 (by first | (with_reducible assumption) | assumption);have h2_:0≤((rd t509 x23_1):Int):=(zz29 (by first | (with_reducible assumption) | assumption));omega)
            (first | cases eo29 | (injection eo29 with ea_ en_ ec_;(first | subst ea_ | (injection ea_ with ea_;subst ea_));subst ec_;clear en_))
            have GB29:=zz31 gb29
            have GG29:=zz31 HG29
            clear gb29 gl29 HG29
            (first | simp only [add_plain] at hx517_0 | skip)
            obtain ⟨oki29,ce29,hcl29,hM29,hcc29,_,_,hH29⟩:=Kd.S_elem HO_6.out [] ((rd t509 x23_1):Int) (zz29 (by first | (with_reducible assumption) | assumption)) (by have h_:((rd t509 x23_1):Int) < ((x6_1.length:Int):Int):=zz29 (by first | (with_reducible assumption) | assumption);first | exact h_ | (have e_:=(Kd.S_reads' HO_6.out).1;omega) | simpa using h_)
            obtain ⟨ve29_0,rfl,ge29_0⟩:=hM29
            have hv29:=hcc29 0 _ rfl
            have hX29:=HX517_0.out
            (try simp only [add_plain] at hX29)
            (try simp only [Nat.add_zero] at hv29)
            (try rw [show ((Kd.slice 3 (Kd.int .i64))).sz=1 from rfl,Nat.mul_one] at hv29)
            replace hv29:=Option.some.inj (hv29.symm.trans hX29)
            subst hv29
            clear hX29 hcc29 hcl29
            have UU29:=zz31 (show Kd.R (Kd.int .i64) 3 _ w.heap.size oki29 (.slice A517_0 (rd_L6 x6_1 (rd t509 x23_1)).length c517_0) (rd_L6 x6_1 (rd t509 x23_1)) from ge29_0)
            have HH29:=zz31 hH29
            have HN29:=zz31 (Kd.S_reads' HO_6.out).1
            clear hH29 ge29_0
            go_wp2_with (first | ((with_reducible refine gate_builtin (b:=.append) (xs:=#[.tmp 33,.tmp 35]) rfl ?_);at_builtin;refine Kd.R_append (Kd.int .i64) (w0:=w) w.heap.size rfl (.tmp 33) (.tmp 35) 25 3 (.int .i64 0) 8 rfl Try.underlying25 info3 rfl (by decide) (by omega) (.slice A517_0 (rd_L6 x6_1 (rd t509 x23_1)).length c517_0) (rd_L6 x6_1 (rd t509 x23_1)) x23_1 [.int .i64 x23_1] (fun k_=>oki29 k_ ∨ ((fun k_=>some k_ ≠ (.slice (some ad516) t509.length co20:Value).ownBlock)) k_∧wr.heap.size≤k_) (fun _=>False) rfl rfl ?aP (fun _ hk=>hk.elim) ?aF ?aO ?aB ?aS ?aL ?_;(case aP=>exact rfl);(case aB=>exact (by repeat first | exact HB.out | apply zz2 | apply zz0 | apply zz1 | refine zz3 ?_ GE501.out));(case aF=>exact (fun k_ hk=>.inr ⟨Kd.fresh' (Kd.R_lt (by (with_reducible repeat (first | apply zz12 | apply zz13 | apply zz14));exact HO_21.out)) k_ hk,hk⟩));(case aO=>exact (by (with_reducible repeat (first | apply zz12 | apply zz13 | apply zz14));exact Kd.R_mono UU29.out (fun _ hk=>.inl hk)));(case aS=>exact (zz5 (by repeat first | exact HB.out | apply zz2 | apply zz0 | apply zz1 | refine zz3 ?_ GE501.out)));(case aL=>have:=LMc26.out;omega);intro v519 w30 ho hb hg hat;rw [← Ny518.out] at ho;have n0_:=zz31 (Kd.R_grown2 (by (with_reducible repeat (first | apply zz12 | apply zz13 | apply zz14));exact HO_21.out) rfl hg (fun k_ e_=>(HL517_0.out.1 k_ e_).1));have n1_:=zz31 (blk_grown (g:=gb501) (o:=.cells #[.int .i64 a0_0,.slice A0_1 l0_1.length c0_1] 31 (0,0)) (by (with_reducible repeat (first | refine zz6 ?_ _ | refine zz7 ?_ | refine zz8 ?_ _));exact BK501.out) hg (Kd.R_ne HL517_0.out BK501.out (by decide)));have n2_:=zz31 (hb);have n3_:=zz31 (Kd.H_grown (Kd.H_widen (by repeat (first | exact HH29.out | refine Kd.H_alloc ?_ _ | refine Kd.H_drewN ?_ _ | refine Kd.H_drew ?_))) hg (fun k_ e_=>.inl (UU29.out.1 k_ e_)));have n4_:=zz31 (ho);clear HO_21;clear BK501;clear HB;clear HH29;clear HO_6;clear UU29;clear HL517_0;have HO_21:=n0_;have BK501:=n1_;have HB:=n2_;have HH29:=n3_;have HO520:=n4_;clear n0_ n1_ n2_ n3_ n4_;clear ho hb hg hat;have p27:0≤((rd t509 x23_1):Int):=zz29 (by first | (with_reducible assumption) | assumption);have q27:((rd t509 x23_1):Int) < ((x6_1.length:Int):Int):=zz29 (by first | (with_reducible assumption) | assumption);replace p27:=eq_true p27;replace q27:=eq_true q27;obtain ⟨Ao33,co33,eo33⟩:=Kd.R_slice HO520.out;subst eo33;obtain ⟨_,_,hraw31,_,_,hcc31,_⟩:=Kd.H_raw HH29.out (zz29 (by first | (with_reducible assumption) | assumption)) (by have h_:((rd t509 x23_1):Int) < ((x6_1.length:Int):Int):=zz29 (by first | (with_reducible assumption) | assumption);first | exact h_ | (have e_:=(HN29.out);omega) | simpa using h_);obtain ⟨_,hfr31⟩:=Kd.H_at HH29.out (zz29 (by first | (with_reducible assumption) | assumption)) (by have h_:((rd t509 x23_1):Int) < ((x6_1.length:Int):Int):=zz29 (by first | (with_reducible assumption) | assumption);first | exact h_ | (have e_:=(HN29.out);omega) | simpa using h_);have hx31_0:=hcc31 0 _ rfl;have hf31_0:=hfr31 0;(try simp only [Nat.add_zero] at hx31_0 hf31_0);(try rw [show ((Kd.slice 3 (Kd.int .i64))).sz=1 from rfl,Nat.mul_one] at hx31_0);(try rw [show ((Kd.slice 3 (Kd.int .i64))).sz=1 from rfl,Nat.mul_one] at hf31_0);have HP31:=Kd.S_seg0 HH29.out (zz29 (by first | (with_reducible assumption) | assumption)) (by have h_:((rd t509 x23_1):Int) < ((x6_1.length:Int):Int):=zz29 (by first | (with_reducible assumption) | assumption);first | exact h_ | (have e_:=(HN29.out);omega) | simpa using h_) (seg:=[.slice Ao33 y518.length co33]) (j:=0) (show 1≤1 from by decide) (x':=y518) (Kd.M_row HO520.out) (fun _ hk=>hk);(try simp only [show ((Kd.slice 3 (Kd.int .i64))).sz=1 from rfl,Nat.mul_one,Nat.add_zero] at HP31);clear hcc31 hfr31) | ((with_reducible refine gate_store (t:=25) (p:=37) rfl ?_);refine store_event (t:=25) (p:=37) (v:=?vo_w32) (w1:=(w30.setCell ⟨go29,((rd t509 x23_1):Int).toNat,none⟩ (.slice Ao33 y518.length co33))) ?hg ?ho ?hn ?hr ?_;(case ho=>rfl);(case hg=>rfl);(case hn=>rfl);(case hr=>first | (go_simp;done) | (go_simp;rfl));intro w32 hw;have hg:w30.grownBy w32 (some go29):=(by rw [hw];exact HP31.2);have hp_:Kd.S (Kd.slice 3 (Kd.int .i64)) 25 w32 w.heap.size (fun k_=>some k_ ≠ (.slice (some ad516) t509.length co20:Value).ownBlock) (.slice (some ⟨go29,0,none⟩) x6_1.length co28) y521:=(by rw [hw,Ny521.out];exact HP31.1);clear HP31;have n0_:=zz31 (Kd.R_over' (v:=(.slice (some ⟨go29,0,none⟩) x6_1.length co28)) (by (with_reducible repeat (first | apply zz12 | apply zz13 | apply zz14));exact HO_21.out) (Kd.R_typed hraw31) (by decide) hg);have n1_:=zz31 (blk_grown (g:=gb501) (o:=.cells #[.int .i64 a0_0,.slice A0_1 l0_1.length c0_1] 31 (0,0)) (by (with_reducible repeat (first | refine zz6 ?_ _ | refine zz7 ?_ | refine zz8 ?_ _));exact BK501.out) hg (Kd.R_ne hraw31 BK501.out (by decide)));have n2_:=zz31 ((by rw [hw];exact zz3 HB.out GB29.out:Below w.heap.size w w32));have n3_:=zz31 (hp_);clear HO_21;clear BK501;clear HB;clear HO520;clear HH29;have HO_21:=n0_;have BK501:=n1_;have HB:=n2_;have HO_6:=n3_;clear n0_ n1_ n2_ n3_;clear hg hw hp_ hraw31))
            go_roundg k1
            case measure=>have:=HK1.out;omega
            case rel=>exact ⟨(y521),(wrap64 (x23_1+1)),(by first | rfl | (simp;done) | (simp [*];done)),H',⟨by have:=HK1.out;omega⟩,⟨by (with_reducible repeat (first | apply zz15 | apply zz16 | apply zz17));exact HO_6.out⟩,⟨by (with_reducible repeat (first | apply zz12 | apply zz13 | apply zz14));exact HO_21.out⟩,⟨by (with_reducible repeat (first | refine zz6 ?_ _ | refine zz7 ?_ | refine zz8 ?_ _));exact BK501.out⟩,⟨by repeat first | exact HB.out | apply zz2 | apply zz0 | apply zz1 | refine zz3 ?_ GE501.out⟩⟩
           ·rw [if_neg c26] at H
            exact absurd H (by simp)
          ·rw [if_neg c25] at H
           exact absurd H (by simp)
         ·rw [if_neg c24] at H
          exact absurd H (by simp)
        ·rw [if_neg c23] at H
         exact absurd H (by simp)
       ·rw [if_neg c22] at H
        exact absurd H (by simp)
      ·rw [if_neg c21] at H
       have c21b0:decide (x23_1 < (t509.length:Int))=false:=decide_eq_false c21
       clear c21
       simp only [Option.some.injEq,Prod.mk.injEq] at H
       obtain ⟨rfl,rfl⟩:=H
       go_wp2
       go_ret2
       exact ⟨_,by first | rfl | (simp [errW_none,errW_some] <;> rfl) | (simp [*,errW_none,errW_some] <;> rfl),by (with_reducible repeat (first | apply zz15 | apply zz16 | apply zz17));exact Kd.S_mono HO_6.out (fun _ hk=>trivial),by repeat first | exact HB.out | apply zz2 | apply zz0 | apply zz1 | refine zz3 ?_ GE501.out⟩
   ·rw [if_neg c8] at H
    exact absurd H (by simp)
  ·rw [if_neg c7] at H
   exact absurd H (by simp)
 ·replace c3:=Bool.eq_false_iff.mpr c3
  subst c3
  have H1:(some (([]:List (List Int)),false))=some (r1,r2):=by rw [if_neg (show ¬ (false=true) by decide)] at H;exact H
  clear H
  have H:=H1
  clear H1
  simp only [Option.some.injEq,Prod.mk.injEq] at H
  obtain ⟨rfl,rfl⟩:=H
  go_enter Try.func28,Try.ntmps28
  go_wp2_with (first | ((with_reducible refine gate_dst (N:=1) rfl ?_);refine box_event ?hg (N:=1) ?hd (cs:=#[.int .i64 a0_0,.slice A0_1 l0_1.length c0_1]) (t:=31) ?hr ?_;(case hd=>rfl);(case hg=>rfl);(case hr=>first | (go_simp;done) | (go_simp;rfl));intro gb501 hg w34 hbox hb;have n0_:=zz31 (zz4 (by repeat first | exact HB.out | apply zz2 | apply zz0 | apply zz1) hb);have n1_:=zz31 (hbox);have n2_:=zz31 ((by rw [hg];exact (zz5 (by repeat first | exact HB.out | apply zz2 | apply zz0 | apply zz1)):w.heap.size≤gb501));have n3_:=zz31 ((by rw [hg];exact (zz5 (by repeat first | exact HB.out | apply zz2 | apply zz0 | apply zz1)):w.heap.size≤gb501));clear HB;have HB:=n0_;have BK501:=n1_;have GW501:=n2_;have GE501:=n3_;clear n0_ n1_ n2_ n3_;clear hb hbox hg;have hcz35_0:w34.cell? ⟨gb501,0,none⟩=some (.int .i64 a0_0):=(zz9 BK501.out 0).trans rfl;have hcz35_1:w34.cell? ⟨gb501,1,none⟩=some (.slice A0_1 l0_1.length c0_1):=(zz9 BK501.out 1).trans rfl;have hfz35_0:=zz10 BK501.out 0;have hfz35_1:=zz10 BK501.out 1) | ((with_reducible refine gate_callee (f:=51) rfl ?_);refine goesL_ (some 10) rfl rfl Try.func51 (by kernel_rfl) rfl #[.agg #[.int .i64 a0_0,.slice A0_1 l0_1.length c0_1]] rfl (by (try simp only [zz26,zz27,zz28]);first | done | rfl | (simp only [zz24,zz25];rfl)) ?_;(with_reducible refine (impl_isFewColoured.calls k a0_0 _ _ l0_1 false _ ?side1 ?side2 A2.out).mono ?_);(case side1=>repeat (first | exact (Kd.C_below HR0_1.out HB.out) | (with_reducible refine zz18 ?_ _) | (with_reducible refine zz19 ?_ _) | (with_reducible refine zz20 ?_)));(case side2=>exact HC0_1.out);rintro e w36 ⟨rfl,hb⟩;refine ⟨_,rfl,?_⟩;have n0_:=zz31 (zz11 (g:=gb501) (o:=.cells #[.int .i64 a0_0,.slice A0_1 l0_1.length c0_1] 31 (0,0)) (by (with_reducible repeat (first | refine zz6 ?_ _ | refine zz7 ?_ | refine zz8 ?_ _));exact BK501.out) hb);have n1_:=zz31 (zz4 (by repeat first | exact HB.out | apply zz2 | apply zz0 | apply zz1 | refine zz3 ?_ GE501.out) hb);clear BK501;clear HB;have BK501:=n0_;have HB:=n1_;clear n0_ n1_;(try clear hb);(try clear hb2);(try clear hk);(try clear hi)))
  go_ret2
  exact ⟨_,by first | rfl | (simp [errW_none,errW_some] <;> rfl) | (simp [*,errW_none,errW_some] <;> rfl),by first | exact Kd.S_nil _ _ _ _ _ | exact Kd.N_nil _ _ _ _ _ | exact Kd.V_nil _ _ _ _ _ | exact Kd.Q_nil _ _ _ _ _ | exact Kd.R_nil _ _ _ _ _,by repeat first | exact HB.out | apply zz2 | apply zz0 | apply zz1 | refine zz3 ?_ GE501.out⟩

end Go.Proofs.Ytifkaefccghgdaa.P
