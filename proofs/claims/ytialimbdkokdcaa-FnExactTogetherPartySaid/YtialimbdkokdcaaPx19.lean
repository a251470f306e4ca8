-- PRINTED by print.py (a twelfth state) out of the translation. Not trusted: Lean checks it.
import Derived.Test.YtialimbdkokdcaaPx0
import Derived.Test.YtialimbdkokdcaaPx3
namespace Go.Proofs.Ytialimbdkokdcaa.P
open Go.RowKit Go.Proofs.YtialimbdkokdcaaW.PrintWords Go.Proofs.YtialimbdkokdcaaW.PrintLast Go.Proofs.YtialimbdkokdcaaW.PrintMore
attribute [local go_sem] max2_int min2_int max_two min_two max_three min_three max_four min_four   -- for this text's walks alone
set_option linter.unusedVariables false
set_option linter.unusedSimpArgs false

/-! ### impl_table_party: function 67 -/
mutual
def impl_table_party.l0:Nat→List Int→Int→Int→Int→List (S80)→Option (Int × (List (S80)))
 | 0,_,_,_,_,_=>none
 | k+1,x0,x10,x11,x380000,x380001=>if x11 < x10 then (impl_table_party.l1 k x0 x11 (wrap64 (x11+1)) x10 x11 x380000 x380001) else (some (x380000,x380001))
def impl_table_party.l1:Nat→List Int→Int→Int→Int→Int→Int→List (S80)→Option (Int × (List (S80)))
 | 0,_,_,_,_,_,_,_=>none
 | k+1,x0,x4,x5,x10,x11,x380000,x380001=>if x5 < (x0.length:Int) then ((impl_table_has.f x0 x4 x5).bind fun t380=>(if t380=true then (if x380001.length < 8796093022208 then (impl_table_party.l1 k x0 x4 (wrap64 (x5+1)) x10 x11 x380000 (x380001 ++ [(⟨x4,x5⟩:S80)])) else (none)) else (impl_table_party.l1 k x0 x4 (wrap64 (x5+1)) x10 x11 x380000 x380001))) else (impl_table_party.l0 k x0 x10 (wrap64 (x11+1)) x380000 x380001)
end
def impl_table_party.f (k:Nat) (l0:List Int):Option (Int × (List (S80))):=impl_table_party.l0 k l0 (l0.length:Int) 0 (l0.length:Int) ([]:List (S80))
theorem impl_table_party.mono_l:∀ k,(∀ y0 y1 y2 y3 y4,LeO (impl_table_party.l0 k y0 y1 y2 y3 y4) (impl_table_party.l0 (k+1) y0 y1 y2 y3 y4))∧(∀ y0 y1 y2 y3 y4 y5 y6,LeO (impl_table_party.l1 k y0 y1 y2 y3 y4 y5 y6) (impl_table_party.l1 (k+1) y0 y1 y2 y3 y4 y5 y6))
 | 0=>⟨fun _ _ _ _ _ r h=>by simp [impl_table_party.l0] at h,fun _ _ _ _ _ _ _ r h=>by simp [impl_table_party.l1] at h⟩
 | k+1=>by
  obtain ⟨ih0,ih1⟩:=impl_table_party.mono_l k
  refine ⟨?_,?_⟩
  ·intro y0 y1 y2 y3 y4
   unfold impl_table_party.l0
   repeat' first
   | (with_reducible exact ih0 _ _ _ _ _)
   | (with_reducible exact ih1 _ _ _ _ _ _ _)
   | (with_reducible exact LeO.refl _)
   | (with_reducible exact LeO.none _)
   | (with_reducible refine LeO.ite ?_ ?_)
   | (with_reducible refine LeO.bind ?_ (fun _=>?_))
   | exact ih0 _ _ _ _ _
   | exact ih1 _ _ _ _ _ _ _
   | exact LeO.none _
   | refine LeO.ite ?_ ?_
   | refine LeO.bind ?_ (fun _=>?_)
  ·intro y0 y1 y2 y3 y4 y5 y6
   unfold impl_table_party.l1
   repeat' first
   | (with_reducible exact ih0 _ _ _ _ _)
   | (with_reducible exact ih1 _ _ _ _ _ _ _)
   | (with_reducible exact LeO.refl _)
   | (with_reducible exact LeO.none _)
   | (with_reducible refine LeO.ite ?_ ?_)
   | (with_reducible refine LeO.bind ?_ (fun _=>?_))
   | exact ih0 _ _ _ _ _
   | exact ih1 _ _ _ _ _ _ _
   | exact LeO.none _
   | refine LeO.ite ?_ ?_
   | refine LeO.bind ?_ (fun _=>?_)
theorem impl_table_party.mono:∀ a0 k,LeO (impl_table_party.f k a0) (impl_table_party.f (k+1) a0):=by
 intro a0 k
 obtain ⟨ih0,ih1⟩:=impl_table_party.mono_l k
 unfold impl_table_party.f
 repeat' first
   | (with_reducible exact ih0 _ _ _ _ _)
   | (with_reducible exact ih1 _ _ _ _ _ _ _)
   | (with_reducible exact LeO.refl _)
   | (with_reducible exact LeO.none _)
   | (with_reducible refine LeO.ite ?_ ?_)
   | (with_reducible refine LeO.bind ?_ (fun _=>?_))
   | exact ih0 _ _ _ _ _
   | exact ih1 _ _ _ _ _ _ _
   | exact LeO.none _
   | refine LeO.ite ?_ ?_
   | refine LeO.bind ?_ (fun _=>?_)
set_option maxHeartbeats 8000000 in
set_option maxRecDepth 100000 in
theorem impl_table_party.calls (k:Nat) (A0:Option Addr) (c0:Nat) (l0:List Int) (r1:Int) (r2:List (S80)) (w:World) (hr0:Kd.C (Kd.int .u16) w A0 l0.length l0) (hc0:l0.length≤c0) (h:impl_table_party.f k l0=some (r1,r2)) :
  Calls Try.prog 67 #[.slice A0 l0.length c0] w fun e w'=>∃ v1_:Value,e=.returned (.agg #[.int .i64 r1,v1_])∧Kd.R k80 80 w' w.heap.size (fun _=>True) v1_ r2∧Below w.heap.size w w':=by
 have hu30:=Try.underlying30
 have hu80:=Try.underlying80
 have HR0:=zz31 hr0
 have HC0:=zz31 hc0
 clear hr0 hc0
 have HB:=zz31 (Below.refl w.heap.size w)
 have H:(impl_table_party.l0 k l0 (l0.length:Int) 0 (l0.length:Int) ([]:List (S80)))=some (r1,r2):=h
 clear h
 have H':=zz31 H
 clear H
 go_enter Try.func67,Try.ntmps67
 go_wp2_with (first | ((with_reducible refine gate_dst (N:=2) rfl ?_);refine box_event ?hg (N:=2) ?hd (cs:=#[.int .i64 0,.slice none 0 0]) (t:=30) ?hr ?_;(case hd=>rfl);(case hg=>rfl);(case hr=>first | (go_simp;done) | (go_simp;rfl));intro gb378 hg w2 hbox hb;have n0_:=zz31 (zz4 (by repeat first | exact HB.out | apply zz2 | apply zz0 | apply zz1) hb);have n1_:=zz31 (hbox);have n2_:=zz31 ((by rw [hg];exact (zz5 (by repeat first | exact HB.out | apply zz2 | apply zz0 | apply zz1)):w.heap.size≤gb378));have n3_:=zz31 ((by rw [hg];exact (zz5 (by repeat first | exact HB.out | apply zz2 | apply zz0 | apply zz1)):w.heap.size≤gb378));clear HB;have HB:=n0_;have BK378:=n1_;have GW378:=n2_;have GE378:=n3_;clear n0_ n1_ n2_ n3_;clear hb hbox hg) | ((with_reducible refine gate_dst (N:=3) rfl ?_);refine box_event ?hg (N:=3) ?hd (cs:=#[.int .i64 0,.slice none 0 0]) (t:=30) ?hr ?_;(case hd=>rfl);(case hg=>rfl);(case hr=>first | (go_simp;done) | (go_simp;rfl));intro gb379 hg w3 hbox hb;have n0_:=zz31 (zz11 (g:=gb378) (o:=.cells #[.int .i64 0,.slice none 0 0] 30 (0,0)) (by (with_reducible repeat (first | refine zz6 ?_ _ | refine zz7 ?_ | refine zz8 ?_ _));exact BK378.out) hb);have n1_:=zz31 (zz4 (by repeat first | exact HB.out | apply zz2 | apply zz0 | apply zz1 | refine zz3 ?_ GE378.out) hb);have n2_:=zz31 (hbox);have n3_:=zz31 ((by rw [hg];exact (zz5 (by repeat first | exact HB.out | apply zz2 | apply zz0 | apply zz1 | refine zz3 ?_ GE378.out)):w.heap.size≤gb379));have n4_:=zz31 ((by rw [hg];exact (zz5 (by repeat first | exact HB.out | apply zz2 | apply zz0 | apply zz1 | refine zz3 ?_ GE378.out)):w.heap.size≤gb379));have n5_:=zz31 ((by rw [hg];exact Nat.ne_of_lt (blk_lt (g:=gb378) (o:=.cells #[.int .i64 0,.slice none 0 0] 30 (0,0)) (by (with_reducible repeat (first | refine zz6 ?_ _ | refine zz7 ?_ | refine zz8 ?_ _));exact BK378.out)):gb378 ≠ gb379));have n6_:=zz31 ((by rw [hg];exact Nat.ne_of_gt (blk_lt (g:=gb378) (o:=.cells #[.int .i64 0,.slice none 0 0] 30 (0,0)) (by (with_reducible repeat (first | refine zz6 ?_ _ | refine zz7 ?_ | refine zz8 ?_ _));exact BK378.out)):gb379 ≠ gb378));clear BK378;clear HB;have BK378:=n0_;have HB:=n1_;have BK379:=n2_;have GW379:=n3_;have GE379:=n4_;have NB378_379:=n5_;have NB379_378:=n6_;clear n0_ n1_ n2_ n3_ n4_ n5_ n6_;clear hb hbox hg;have hnb4:=NB379_378.out;have hnc4:=NB378_379.out;have hcz5_0:w3.cell? ⟨gb379,0,none⟩=some (.int .i64 0):=(zz9 BK379.out 0).trans rfl;have hcz5_1:w3.cell? ⟨gb379,1,none⟩=some (.slice none 0 0):=(zz9 BK379.out 1).trans rfl;have hfz5_0:=zz10 BK379.out 0;have hfz5_1:=zz10 BK379.out 1))
 go_loopg [11] k (fun kq v11 w'=>∃ (x11_1:Int) (x380001_1:List (S80)) (u380001:Value),v11=.int .i64 x11_1∧Aside0 (impl_table_party.l0 kq l0 (l0.length:Int) x11_1 (l0.length:Int) x380001_1=some (r1,r2))∧Aside0 (kq≤k)∧Aside0 (Kd.R k80 80 w' w.heap.size (fun _=>True) u380001 x380001_1)∧Aside0 (w'.heap[gb378]?=some (.cells #[.int .i64 0,(.slice none 0 0)] 30 (0,0)))∧Aside0 (w'.heap[gb379]?=some (.cells #[.int .i64 (l0.length:Int),u380001] 30 (0,0)))∧Aside0 (Below w.heap.size w w'))
 case atStart=>exact ⟨(0),(([]:List (S80))),(.slice none 0 0),(by first | rfl | (simp;done) | (simp [*];done)),H',⟨Nat.le_refl _⟩,⟨by first | exact Kd.R_nil _ _ _ _ _ | exact Kd.N_nil _ _ _ _ _ | exact Kd.V_nil _ _ _ _ _ | exact Kd.Q_nil _ _ _ _ _ | exact Kd.S_nil _ _ _ _ _⟩,⟨by (with_reducible repeat (first | refine zz6 ?_ _ | refine zz7 ?_ | refine zz8 ?_ _));refine blk_far ?_ NB378_379.out _;(with_reducible repeat (first | refine zz6 ?_ _ | refine zz7 ?_ | refine zz8 ?_ _));refine blk_far ?_ NB378_379.out _;(with_reducible repeat (first | refine zz6 ?_ _ | refine zz7 ?_ | refine zz8 ?_ _));exact BK378.out⟩,⟨by (with_reducible repeat (first | refine zz6 ?_ _ | refine zz7 ?_ | refine zz8 ?_ _));refine blk_put (cs:=#[.int .i64 (l0.length:Int),.slice none 0 0]) ?_ 1 _ rfl;(with_reducible repeat (first | refine zz6 ?_ _ | refine zz7 ?_ | refine zz8 ?_ _));refine blk_put (cs:=#[.int .i64 0,.slice none 0 0]) ?_ 0 _ rfl;(with_reducible repeat (first | refine zz6 ?_ _ | refine zz7 ?_ | refine zz8 ?_ _));exact BK379.out⟩,⟨by repeat first | exact HB.out | apply zz2 | apply zz0 | apply zz1 | refine zz3 ?_ GE378.out | refine zz3 ?_ GE379.out⟩⟩
 case round =>
  clear H'
  try clear p2
  try clear c4
  try clear hcz5_0
  try clear hcz5_1
  try clear hfz5_0
  try clear hfz5_1
  obtain ⟨x11_1,x380001_1,u380001,rfl,HA,HK1,HO_380001,BK378,BK379,HB⟩:=hrel
  cases gk with
  | zero=>exact absurd HA.out (by simp [impl_table_party.l0])
  | succ k1 =>
   have H:=HA.out
   clear HA
   simp only [impl_table_party.l0] at H
   by_cases c6:x11_1 < (l0.length:Int)
   ·rw [if_pos c6] at H
    have c6b0:decide (x11_1 < (l0.length:Int))=true:=decide_eq_true c6
    clear c6
    have H':=zz31 H
    clear H
    go_wp2
    go_loopg [5] k1 (fun kq v5 w'=>∃ (x5_2:Int) (x380001_2:List (S80)) (u380001:Value),v5=.int .i64 x5_2∧Aside0 (impl_table_party.l1 kq l0 x11_1 x5_2 (l0.length:Int) x11_1 (l0.length:Int) x380001_2=some (r1,r2))∧Aside0 (kq≤k1)∧Aside0 (Kd.R k80 80 w' w.heap.size (fun _=>True) u380001 x380001_2)∧Aside0 (w'.heap[gb378]?=some (.cells #[.int .i64 0,(.slice none 0 0)] 30 (0,0)))∧Aside0 (w'.heap[gb379]?=some (.cells #[.int .i64 (l0.length:Int),u380001] 30 (0,0)))∧Aside0 (Below w.heap.size w w'))
    case atStart=>exact ⟨(wrap64 (x11_1+1)),(x380001_1),(u380001),(by first | rfl | (simp;done) | (simp [*];done)),H',⟨Nat.le_refl _⟩,⟨by (with_reducible repeat (first | apply zz12 | apply zz13 | apply zz14));exact HO_380001.out⟩,⟨by (with_reducible repeat (first | refine zz6 ?_ _ | refine zz7 ?_ | refine zz8 ?_ _));exact BK378.out⟩,⟨by (with_reducible repeat (first | refine zz6 ?_ _ | refine zz7 ?_ | refine zz8 ?_ _));exact BK379.out⟩,⟨by repeat first | exact HB.out | apply zz2 | apply zz0 | apply zz1 | refine zz3 ?_ GE378.out | refine zz3 ?_ GE379.out⟩⟩
    case round =>
     clear H'
     try clear p2
     try clear c4
     try clear c6
     try clear c6b0
     try clear p6
     try clear hcz5_0
     try clear hcz5_1
     try clear hfz5_0
     try clear hfz5_1
     try clear p2
     obtain ⟨x5_2,x380001_2,u380001,rfl,HA,HK2,HO_380001,BK378,BK379,HB⟩:=hrel
     cases gk with
     | zero=>exact absurd HA.out (by simp [impl_table_party.l1])
     | succ k2 =>
      have H:=HA.out
      clear HA
      simp only [impl_table_party.l1] at H
      by_cases c7:x5_2 < (l0.length:Int)
      ·rw [if_pos c7] at H
       have c7b0:decide (x5_2 < (l0.length:Int))=true:=decide_eq_true c7
       clear c7
       replace H:=zz30.mp H
       obtain ⟨t380,A80,H⟩:=H
       replace H:(if t380=true then (if x380001_2.length < 8796093022208 then (impl_table_party.l1 k2 l0 x11_1 (wrap64 (x5_2+1)) (l0.length:Int) x11_1 (l0.length:Int) (x380001_2 ++ [(⟨x11_1,x5_2⟩:S80)])) else (none)) else (impl_table_party.l1 k2 l0 x11_1 (wrap64 (x5_2+1)) (l0.length:Int) x11_1 (l0.length:Int) x380001_2))=some (r1,r2):=H
       have A8:=zz31 A80
       clear A80
       by_cases c9:t380=true
       ·subst c9
        have H1:(if x380001_2.length < 8796093022208 then (impl_table_party.l1 k2 l0 x11_1 (wrap64 (x5_2+1)) (l0.length:Int) x11_1 (l0.length:Int) (x380001_2 ++ [(⟨x11_1,x5_2⟩:S80)])) else (none))=some (r1,r2):=by rw [if_pos rfl] at H;exact H
        clear H
        have H:=H1
        clear H1
        by_cases c10:x380001_2.length < 8796093022208
        ·rw [if_pos c10] at H
         have LMc10:=zz31 c10
         clear c10
         obtain ⟨y381,hy381⟩:∃ y_:List (S80),y_=(x380001_2 ++ [(⟨x11_1,x5_2⟩:S80)]):=⟨_,rfl⟩
         replace H:(impl_table_party.l1 k2 l0 x11_1 (wrap64 (x5_2+1)) (l0.length:Int) x11_1 (l0.length:Int) y381)=some (r1,r2):=by first | (rw [hy381];with_reducible exact H) | (have H2_:=(Option.bind_some _ _).symm.trans H;rw [hy381];with_reducible exact H2_) | (have H2_:=(Option.bind_some _ _).symm.trans H;with_reducible exact H2_) | with_reducible exact H | (rw [hy381];exact H) | exact H
         have Ny381:=zz31 hy381
         clear hy381
         have H':=zz31 H
         clear H
         go_wp2_with (first | ((with_reducible refine gate_callee (f:=48) rfl ?_);refine goesL_ (some 25) rfl rfl Try.func48 (by kernel_rfl) rfl #[.slice A0 l0.length c0,.int .i64 x11_1,.int .i64 x5_2] rfl (by (try simp only [zz26,zz27,zz28]);first | done | rfl | (simp only [zz24,zz25];rfl)) ?_;(with_reducible refine (impl_table_has.calls _ _ l0 x11_1 x5_2 true _ ?side1 ?side2 A8.out).mono ?_);(case side1=>repeat (first | exact (Kd.C_below HR0.out HB.out) | (with_reducible refine zz18 ?_ _) | (with_reducible refine zz19 ?_ _) | (with_reducible refine zz20 ?_)));(case side2=>exact HC0.out);rintro e w' ⟨rfl,⟨nd,rfl⟩⟩;refine ⟨_,rfl,?_⟩;(try (rw [drewN_self wr];generalize hq_:World.drewN wr _=wr;have n0_:Aside0 (Kd.R k80 80 wr w.heap.size (fun _=>True) u380001 x380001_2):=⟨by rw [← hq_];exact (by (with_reducible repeat (first | apply zz12 | apply zz13 | apply zz14));exact HO_380001.out)⟩;have n1_:Aside0 (wr.heap[gb378]?=some (.cells #[.int .i64 0,.slice none 0 0] 30 (0,0))):=⟨by rw [← hq_];exact (by (with_reducible repeat (first | refine zz6 ?_ _ | refine zz7 ?_ | refine zz8 ?_ _));exact BK378.out)⟩;have n2_:Aside0 (wr.heap[gb379]?=some (.cells #[.int .i64 (l0.length:Int),u380001] 30 (0,0))):=⟨by rw [← hq_];exact (by (with_reducible repeat (first | refine zz6 ?_ _ | refine zz7 ?_ | refine zz8 ?_ _));exact BK379.out)⟩;have n3_:Aside0 (Below w.heap.size w wr):=⟨by rw [← hq_];exact (by repeat first | exact HB.out | apply zz2 | apply zz0 | apply zz1 | refine zz3 ?_ GE378.out | refine zz3 ?_ GE379.out)⟩;clear HO_380001 BK378 BK379 HB hq_;have HO_380001:=n0_;have BK378:=n1_;have BK379:=n2_;have HB:=n3_;clear n0_ n1_ n2_ n3_));have hnb11:=NB379_378.out;have hnc11:=NB378_379.out;have hcz12_0:wr.cell? ⟨gb379,0,none⟩=some (.int .i64 (l0.length:Int)):=(zz9 BK379.out 0).trans rfl;have hcz12_1:wr.cell? ⟨gb379,1,none⟩=some (u380001):=(zz9 BK379.out 1).trans rfl;have hfz12_0:=zz10 BK379.out 0;have hfz12_1:=zz10 BK379.out 1) | ((with_reducible refine gate_builtin (b:=.append) (xs:=#[.tmp 27,.tmp 31]) rfl ?_);at_builtin;refine Kd.R_append k80 (w0:=w) w.heap.size rfl (.tmp 27) (.tmp 31) 28 80 (.agg #[(.int .i64 0),(.int .i64 0)]) 16 rfl Try.underlying28 info80 rfl (by decide) (by omega) u380001 x380001_2 (⟨x11_1,x5_2⟩:S80) [.int .i64 x11_1,.int .i64 x5_2] (fun _=>True) (fun _=>False) rfl rfl ?aP (fun _ hk=>hk.elim) ?aF ?aO ?aB ?aS ?aL ?_;(case aP=>exact k80_mkM _ _ _ (⟨x11_1,x5_2⟩:S80));(case aB=>exact (by repeat first | exact HB.out | apply zz2 | apply zz0 | apply zz1 | refine zz3 ?_ GE378.out | refine zz3 ?_ GE379.out));(case aF=>exact (fun _ _=>trivial));(case aO=>exact (by (with_reducible repeat (first | apply zz12 | apply zz13 | apply zz14));exact HO_380001.out));(case aS=>exact (zz5 (by repeat first | exact HB.out | apply zz2 | apply zz0 | apply zz1 | refine zz3 ?_ GE378.out | refine zz3 ?_ GE379.out)));(case aL=>have:=LMc10.out;omega);intro v382 w13 ho hb hg hat;rw [← Ny381.out] at ho;have n0_:=zz31 (blk_grown (g:=gb378) (o:=.cells #[.int .i64 0,.slice none 0 0] 30 (0,0)) (by (with_reducible repeat (first | refine zz6 ?_ _ | refine zz7 ?_ | refine zz8 ?_ _));exact BK378.out) hg (Kd.R_ne HO_380001.out BK378.out (by decide)));have n1_:=zz31 (blk_grown (g:=gb379) (o:=.cells #[.int .i64 (l0.length:Int),u380001] 30 (0,0)) (by (with_reducible repeat (first | refine zz6 ?_ _ | refine zz7 ?_ | refine zz8 ?_ _));exact BK379.out) hg (Kd.R_ne HO_380001.out BK379.out (by decide)));have n2_:=zz31 (hb);have n3_:=zz31 (ho);clear BK378;clear BK379;clear HB;clear HO_380001;have BK378:=n0_;have BK379:=n1_;have HB:=n2_;have HO383:=n3_;clear n0_ n1_ n2_ n3_;clear ho hb hg hat;obtain ⟨Ao14,co14,eo14⟩:=Kd.R_slice HO383.out;subst eo14;have hcz15_0:w13.cell? ⟨gb379,0,none⟩=some (.int .i64 (l0.length:Int)):=(zz9 BK379.out 0).trans rfl;have hcz15_1:w13.cell? ⟨gb379,1,none⟩=some (u380001):=(zz9 BK379.out 1).trans rfl;have hfz15_0:=zz10 BK379.out 0;have hfz15_1:=zz10 BK379.out 1))
         go_roundg k2
         case measure=>have:=HK1.out;have:=HK2.out;omega
         case rel=>exact ⟨(wrap64 (x5_2+1)),(y381),(.slice Ao14 y381.length co14),(by first | rfl | (simp;done) | (simp [*];done)),H',⟨by have:=HK1.out;have:=HK2.out;omega⟩,⟨by (with_reducible repeat (first | apply zz12 | apply zz13 | apply zz14));exact Kd.R_mono (Kd.R_far (p:=⟨gb379,1,none⟩) (Kd.R_types HO383.out BK379.out (by decide)) (fun _ hk=>hk.2) (.slice Ao14 y381.length co14)) (fun _ hk=>trivial)⟩,⟨by (with_reducible repeat (first | refine zz6 ?_ _ | refine zz7 ?_ | refine zz8 ?_ _));refine blk_far ?_ NB378_379.out _;(with_reducible repeat (first | refine zz6 ?_ _ | refine zz7 ?_ | refine zz8 ?_ _));exact BK378.out⟩,⟨by (with_reducible repeat (first | refine zz6 ?_ _ | refine zz7 ?_ | refine zz8 ?_ _));refine blk_put (cs:=#[.int .i64 (l0.length:Int),u380001]) ?_ 1 _ rfl;(with_reducible repeat (first | refine zz6 ?_ _ | refine zz7 ?_ | refine zz8 ?_ _));exact BK379.out⟩,⟨by repeat first | exact HB.out | apply zz2 | apply zz0 | apply zz1 | refine zz3 ?_ GE378.out | refine zz3 ?_ GE379.out⟩⟩
        ·rw [if_neg c10] at H
         exact absurd H (by simp)
       ·replace c9:=Bool.eq_false_iff.mpr c9
        subst c9
        have H1:(impl_table_party.l1 k2 l0 x11_1 (wrap64 (x5_2+1)) (l0.length:Int) x11_1 (l0.length:Int) x380001_2)=some (r1,r2):=by rw [if_neg (show ¬ (false=true) by decide)] at H;exact H
        clear H
        have H:=H1
        clear H1
        have H':=zz31 H
        clear H
        go_wp2_with (first | ((with_reducible refine gate_callee (f:=48) rfl ?_);refine goesL_ (some 25) rfl rfl Try.func48 (by kernel_rfl) rfl #[.slice A0 l0.length c0,.int .i64 x11_1,.int .i64 x5_2] rfl (by (try simp only [zz26,zz27,zz28]);first | done | rfl | (simp only [zz24,zz25];rfl)) ?_;(with_reducible refine (impl_table_has.calls _ _ l0 x11_1 x5_2 false _ ?side1 ?side2 A8.out).mono ?_);(case side1=>repeat (first | exact (Kd.C_below HR0.out HB.out) | (with_reducible refine zz18 ?_ _) | (with_reducible refine zz19 ?_ _) | (with_reducible refine zz20 ?_)));(case side2=>exact HC0.out);rintro e w' ⟨rfl,⟨nd,rfl⟩⟩;refine ⟨_,rfl,?_⟩))
        go_roundg k2
        case measure=>have:=HK1.out;have:=HK2.out;omega
        case rel=>exact ⟨(wrap64 (x5_2+1)),(x380001_2),(u380001),(by first | rfl | (simp;done) | (simp [*];done)),H',⟨by have:=HK1.out;have:=HK2.out;omega⟩,⟨by (with_reducible repeat (first | apply zz12 | apply zz13 | apply zz14));exact HO_380001.out⟩,⟨by (with_reducible repeat (first | refine zz6 ?_ _ | refine zz7 ?_ | refine zz8 ?_ _));exact BK378.out⟩,⟨by (with_reducible repeat (first | refine zz6 ?_ _ | refine zz7 ?_ | refine zz8 ?_ _));exact BK379.out⟩,⟨by repeat first | exact HB.out | apply zz2 | apply zz0 | apply zz1 | refine zz3 ?_ GE378.out | refine zz3 ?_ GE379.out⟩⟩
      ·rw [if_neg c7] at H
       have c7b0:decide (x5_2 < (l0.length:Int))=false:=decide_eq_false c7
       clear c7
       have H':=zz31 H
       clear H
       go_wp2
       go_roundg k2
       case measure=>have:=HK1.out;have:=HK2.out;omega
       case rel=>exact ⟨(wrap64 (x11_1+1)),(x380001_2),(u380001),(by first | rfl | (simp;done) | (simp [*];done)),H',⟨by have:=HK1.out;have:=HK2.out;omega⟩,⟨by (with_reducible repeat (first | apply zz12 | apply zz13 | apply zz14));exact HO_380001.out⟩,⟨by (with_reducible repeat (first | refine zz6 ?_ _ | refine zz7 ?_ | refine zz8 ?_ _));exact BK378.out⟩,⟨by (with_reducible repeat (first | refine zz6 ?_ _ | refine zz7 ?_ | refine zz8 ?_ _));exact BK379.out⟩,⟨by repeat first | exact HB.out | apply zz2 | apply zz0 | apply zz1 | refine zz3 ?_ GE378.out | refine zz3 ?_ GE379.out⟩⟩
   ·rw [if_neg c6] at H
    have c6b0:decide (x11_1 < (l0.length:Int))=false:=decide_eq_false c6
    clear c6
    simp only [Option.some.injEq,Prod.mk.injEq] at H
    obtain ⟨rfl,rfl⟩:=H
    have hnb16:=NB379_378.out
    have hnc16:=NB378_379.out
    have hcz17_0:wr.cell? ⟨gb379,0,none⟩=some (.int .i64 (l0.length:Int)):=(zz9 BK379.out 0).trans rfl
    have hcz17_1:wr.cell? ⟨gb379,1,none⟩=some (u380001):=(zz9 BK379.out 1).trans rfl
    have hfz17_0:=zz10 BK379.out 0
    have hfz17_1:=zz10 BK379.out 1
    have hcz18_0:wr.cell? ⟨gb378,0,none⟩=some (.int .i64 0):=(zz9 BK378.out 0).trans rfl
    have hcz18_1:wr.cell? ⟨gb378,1,none⟩=some (.slice none 0 0):=(zz9 BK378.out 1).trans rfl
    have hfz18_0:=zz10 BK378.out 0
    have hfz18_1:=zz10 BK378.out 1
    obtain ⟨Ao19,co19,eo19⟩:=Kd.R_slice HO_380001.out
    subst eo19
    go_wp2
    refine bodyPost_ret (results_cell_row rfl _ _ gb378 30 #[.int .i64 (l0.length:Int),.slice Ao19 x380001_1.length co19] (0,0) _ rfl (by (with_reducible repeat (first | refine zz6 ?_ _ | refine zz7 ?_ | refine zz8 ?_ _));refine blk_put (cs:=#[.int .i64 (l0.length:Int),.slice none 0 0]) ?_ 1 _ rfl;(with_reducible repeat (first | refine zz6 ?_ _ | refine zz7 ?_ | refine zz8 ?_ _));refine blk_put (cs:=#[.int .i64 0,.slice none 0 0]) ?_ 0 _ rfl;(with_reducible repeat (first | refine zz6 ?_ _ | refine zz7 ?_ | refine zz8 ?_ _));exact BK378.out) Try.underlying30 rfl (by kernel_rfl)) rfl ?_
    exact ⟨_,by first | rfl | (simp [errW_none,errW_some] <;> rfl) | (simp [*,errW_none,errW_some] <;> rfl),by (with_reducible repeat (first | apply zz12 | apply zz13 | apply zz14));exact Kd.R_mono (Kd.R_far (p:=⟨gb378,1,none⟩) (Kd.R_far (p:=⟨gb378,0,none⟩) (Kd.R_types HO_380001.out BK378.out (by decide)) (fun _ hk=>hk.2) (.int .i64 (l0.length:Int))) (fun _ hk=>hk.2) (.slice Ao19 x380001_1.length co19)) (fun _ hk=>trivial),by repeat first | exact HB.out | apply zz2 | apply zz0 | apply zz1 | refine zz3 ?_ GE378.out | refine zz3 ?_ GE379.out⟩

end Go.Proofs.Ytialimbdkokdcaa.P
