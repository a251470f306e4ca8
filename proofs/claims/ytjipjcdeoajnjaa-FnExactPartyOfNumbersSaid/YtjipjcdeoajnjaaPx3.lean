-- PRINTED by print.py (a twelfth state) out of the translation. Not trusted: Lean checks it.
import Derived.Test.YtjipjcdeoajnjaaPx0
import Derived.Test.YtjipjcdeoajnjaaPx1
import Derived.Test.YtjipjcdeoajnjaaPx2
namespace Go.Proofs.Ytjipjcdeoajnjaa.P
open Go.RowKit Go.Proofs.YtjipjcdeoajnjaaW.PrintWords Go.Proofs.YtjipjcdeoajnjaaW.PrintLast Go.Proofs.YtjipjcdeoajnjaaW.PrintMore
open Bool renaming true → T, false → F
attribute [local go_sem] max2_int min2_int max_two min_two max_three min_three max_four min_four   -- for this text's walks alone
set_option linter.unusedVariables false
set_option linter.unusedSimpArgs false

/-! ### impl_table_party: function 52 -/
mutual
def impl_table_party.l0:Nat→List Int→Int→Int→Int→List (S80)→Option (Int × (List (S80)))
 | 0,_,_,_,_,_=>none
 | k+1,x0,x10,x11,x255000,x255001=>if x11 < x10 then (impl_table_party.l1 k x0 x11 (wrap64 (x11+1)) x10 x11 x255000 x255001) else (some (x255000,x255001))
def impl_table_party.l1:Nat→List Int→Int→Int→Int→Int→Int→List (S80)→Option (Int × (List (S80)))
 | 0,_,_,_,_,_,_,_=>none
 | k+1,x0,x4,x5,x10,x11,x255000,x255001=>if x5 < (x0.length:Int) then ((impl_table_has.f x0 x4 x5).bind fun t255=>(if t255=true then (if x255001.length < 8796093022208 then (impl_table_party.l1 k x0 x4 (wrap64 (x5+1)) x10 x11 x255000 (x255001 ++ [(⟨x4,x5⟩:S80)])) else (none)) else (impl_table_party.l1 k x0 x4 (wrap64 (x5+1)) x10 x11 x255000 x255001))) else (impl_table_party.l0 k x0 x10 (wrap64 (x11+1)) x255000 x255001)
end
def impl_table_party.f (k:Nat) (l0:List Int):Option (Int × (List (S80))):=impl_table_party.l0 k l0 (l0.length:Int) 0 (l0.length:Int) ([]:List (S80))
theorem impl_table_party.mono_l:∀ k,(∀ y0 y1 y2 y3 y4,LeO (impl_table_party.l0 k y0 y1 y2 y3 y4) (impl_table_party.l0 (k+1) y0 y1 y2 y3 y4))∧(∀ y0 y1 y2 y3 y4 y5 y6,LeO (impl_table_party.l1 k y0 y1 y2 y3 y4 y5 y6) (impl_table_party.l1 (k+1) y0 y1 y2 y3 y4 y5 y6))
 | 0=>⟨fun _ _ _ _ _ r h=>by simp [impl_table_party.l0] at h,fun _ _ _ _ _ _ _ r h=>by simp [impl_table_party.l1] at h⟩
 | k+1=>by
  obtain ⟨ih0,ih1⟩:=impl_table_party.mono_l k
  refine ⟨?_,?_⟩
  ·intro y0 y1 y2 y3 y4
   unfold impl_table_party.l0
   repeat' first
   | (with_reducible exact ih0 _ _ _ _ _)
   | (with_reducible exact ih1 _ _ _ _ _ _ _)
   | (with_reducible exact LeO.refl _)
   | (with_reducible exact LeO.none _)
   | (with_reducible refine LeO.ite ?_ ?_)
   | (with_reducible refine LeO.bind ?_ (fun _=>?_))
   | exact ih0 _ _ _ _ _
   | exact ih1 _ _ _ _ _ _ _
   | exact LeO.none _
   | refine LeO.ite ?_ ?_
   | refine LeO.bind ?_ (fun _=>?_)
  ·intro y0 y1 y2 y3 y4 y5 y6
   unfold impl_table_party.l1
   repeat' first
   | (with_reducible exact ih0 _ _ _ _ _)
   | (with_reducible exact ih1 _ _ _ _ _ _ _)
   | (with_reducible exact LeO.refl _)
   | (with_reducible exact LeO.none _)
   | (with_reducible refine LeO.ite ?_ ?_)
   | (with_reducible refine LeO.bind ?_ (fun _=>?_))
   | exact ih0 _ _ _ _ _
   | exact ih1 _ _ _ _ _ _ _
   | exact LeO.none _
   | refine LeO.ite ?_ ?_
   | refine LeO.bind ?_ (fun _=>?_)
theorem impl_table_party.mono:∀ a0 k,LeO (impl_table_party.f k a0) (impl_table_party.f (k+1) a0):=by
 intro a0 k
 obtain ⟨ih0,ih1⟩:=impl_table_party.mono_l k
 unfold impl_table_party.f
 repeat' first
   | (with_reducible exact ih0 _ _ _ _ _)
   | (with_reducible exact ih1 _ _ _ _ _ _ _)
   | (with_reducible exact LeO.refl _)
   | (with_reducible exact LeO.none _)
   | (with_reducible refine LeO.ite ?_ ?_)
   | (with_reducible refine LeO.bind ?_ (fun _=>?_))
   | exact ih0 _ _ _ _ _
   | exact ih1 _ _ _ _ _ _ _
   | exact LeO.none _
   | refine LeO.ite ?_ ?_
   | refine LeO.bind ?_ (fun _=>?_)
set_option maxHeartbeats 8000000 in
set_option maxRecDepth 100000 in
theorem impl_table_party.calls (k:Nat) (A0:Option Addr) (c0:Nat) (l0:List Int) (r1:Int) (r2:List (S80)) (w:World) (hr0:Kd.C (Kd.int .u16) w A0 l0.length l0) (hc0:l0.length≤c0) (h:impl_table_party.f k l0=some (r1,r2)) :
  Calls Try.prog 52 #[.slice A0 l0.length c0] w fun e w'=>∃ v1_:Value,e=.returned (.agg #[.int .i64 r1,v1_])∧Kd.R k80 80 w' w.heap.size (fun _=>True) v1_ r2∧Below w.heap.size w w':=by
 have hu32:=Try.underlying32
 have hu80:=Try.underlying80
 have HR0:=zz31 hr0
 have HC0:=zz31 hc0
 clear hr0 hc0
 have HB:=zz31 (Below.refl w.heap.size w)
 have H:(impl_table_party.l0 k l0 (l0.length:Int) 0 (l0.length:Int) ([]:List (S80)))=some (r1,r2):=h
 clear h
 have H':=zz31 H
 clear H
 go_enter Try.func52,Try.ntmps52
 go_wp2_with (first | ((with_reducible refine gate_dst (N:=2) rfl ?_);refine box_event ?hg (N:=2) ?hd (cs:=#[.int .i64 0,.slice none 0 0]) (t:=32) ?hr ?_;(case hd=>rfl);(case hg=>rfl);(case hr=>first | (go_simp;done) | (go_simp;rfl));intro gb253 hg w2 hbox hb;have n0_:=zz31 (zz4 (by repeat first | exact HB.out | apply zz2 | apply zz0 | apply zz1) hb);have n1_:=zz31 (hbox);have n2_:=zz31 ((by rw [hg];exact (zz5 (by repeat first | exact HB.out | apply zz2 | apply zz0 | apply zz1)):w.heap.size≤gb253));have n3_:=zz31 ((by rw [hg];exact (zz5 (by repeat first | exact HB.out | apply zz2 | apply zz0 | apply zz1)):w.heap.size≤gb253));clear HB;have HB:=n0_;have BK253:=n1_;have GW253:=n2_;have GE253:=n3_;clear n0_ n1_ n2_ n3_;clear hb hbox hg) | ((with_reducible refine gate_dst (N:=3) rfl ?_);refine box_event ?hg (N:=3) ?hd (cs:=#[.int .i64 0,.slice none 0 0]) (t:=32) ?hr ?_;(case hd=>rfl);(case hg=>rfl);(case hr=>first | (go_simp;done) | (go_simp;rfl));intro gb254 hg w3 hbox hb;have n0_:=zz31 (zz11 (g:=gb253) (o:=.cells #[.int .i64 0,.slice none 0 0] 32 (0,0)) (by (with_reducible repeat (first | refine zz6 ?_ _ | refine zz7 ?_ | refine zz8 ?_ _));exact BK253.out) hb);have n1_:=zz31 (zz4 (by repeat first | exact HB.out | apply zz2 | apply zz0 | apply zz1 | refine zz3 ?_ GE253.out) hb);have n2_:=zz31 (hbox);have n3_:=zz31 ((by rw [hg];exact (zz5 (by repeat first | exact HB.out | apply zz2 | apply zz0 | apply zz1 | refine zz3 ?_ GE253.out)):w.heap.size≤gb254));have n4_:=zz31 ((by rw [hg];exact (zz5 (by repeat first | exact HB.out | apply zz2 | apply zz0 | apply zz1 | refine zz3 ?_ GE253.out)):w.heap.size≤gb254));have n5_:=zz31 ((by rw [hg];exact Nat.ne_of_lt (blk_lt (g:=gb253) (o:=.cells #[.int .i64 0,.slice none 0 0] 32 (0,0)) (by (with_reducible repeat (first | refine zz6 ?_ _ | refine zz7 ?_ | refine zz8 ?_ _));exact BK253.out)):gb253 ≠ gb254));have n6_:=zz31 ((by rw [hg];exact Nat.ne_of_gt (blk_lt (g:=gb253) (o:=.cells #[.int .i64 0,.slice none 0 0] 32 (0,0)) (by (with_reducible repeat (first | refine zz6 ?_ _ | refine zz7 ?_ | refine zz8 ?_ _));exact BK253.out)):gb254 ≠ gb253));clear BK253;clear HB;have BK253:=n0_;have HB:=n1_;have BK254:=n2_;have GW254:=n3_;have GE254:=n4_;have NB253_254:=n5_;have NB254_253:=n6_;clear n0_ n1_ n2_ n3_ n4_ n5_ n6_;clear hb hbox hg;have hnb4:=NB254_253.out;have hnc4:=NB253_254.out;have hcz5_0:w3.cell? ⟨gb254,0,none⟩=some (.int .i64 0):=(zz9 BK254.out 0).trans rfl;have hcz5_1:w3.cell? ⟨gb254,1,none⟩=some (.slice none 0 0):=(zz9 BK254.out 1).trans rfl;have hfz5_0:=zz10 BK254.out 0;have hfz5_1:=zz10 BK254.out 1))
 go_loopg [11] k (fun kq v11 w'=>∃ (x11_1:Int) (x255001_1:List (S80)) (u255001:Value),v11=.int .i64 x11_1∧Aside0 (impl_table_party.l0 kq l0 (l0.length:Int) x11_1 (l0.length:Int) x255001_1=some (r1,r2))∧Aside0 (kq≤k)∧Aside0 (Kd.R k80 80 w' w.heap.size (fun _=>True) u255001 x255001_1)∧Aside0 (w'.heap[gb253]?=some (.cells #[.int .i64 0,(.slice none 0 0)] 32 (0,0)))∧Aside0 (w'.heap[gb254]?=some (.cells #[.int .i64 (l0.length:Int),u255001] 32 (0,0)))∧Aside0 (Below w.heap.size w w'))
 case atStart=>exact ⟨(0),(([]:List (S80))),(.slice none 0 0),(by first | rfl | (simp;done) | (simp [*];done)),H',⟨Nat.le_refl _⟩,⟨by first | exact Kd.R_nil _ _ _ _ _ | exact Kd.N_nil _ _ _ _ _ | exact Kd.V_nil _ _ _ _ _ | exact Kd.Q_nil _ _ _ _ _ | exact Kd.S_nil _ _ _ _ _⟩,⟨by (with_reducible repeat (first | refine zz6 ?_ _ | refine zz7 ?_ | refine zz8 ?_ _));refine blk_far ?_ NB253_254.out _;(with_reducible repeat (first | refine zz6 ?_ _ | refine zz7 ?_ | refine zz8 ?_ _));refine blk_far ?_ NB253_254.out _;(with_reducible repeat (first | refine zz6 ?_ _ | refine zz7 ?_ | refine zz8 ?_ _));exact BK253.out⟩,⟨by (with_reducible repeat (first | refine zz6 ?_ _ | refine zz7 ?_ | refine zz8 ?_ _));refine blk_put (cs:=#[.int .i64 (l0.length:Int),.slice none 0 0]) ?_ 1 _ rfl;(with_reducible repeat (first | refine zz6 ?_ _ | refine zz7 ?_ | refine zz8 ?_ _));refine blk_put (cs:=#[.int .i64 0,.slice none 0 0]) ?_ 0 _ rfl;(with_reducible repeat (first | refine zz6 ?_ _ | refine zz7 ?_ | refine zz8 ?_ _));exact BK254.out⟩,⟨by repeat first | exact HB.out | apply zz2 | apply zz0 | apply zz1 | refine zz3 ?_ GE253.out | refine zz3 ?_ GE254.out⟩⟩
 case round =>
  clear H'
  try clear p2
  try clear c4
  try clear c5
  try clear hcz5_0
  try clear hcz5_1
  try clear hfz5_0
  try clear hfz5_1
  obtain ⟨x11_1,x255001_1,u255001,rfl,HA,HK1,HO_255001,BK253,BK254,HB⟩:=hrel
  cases gk with
  | zero=>exact absurd HA.out (by simp [impl_table_party.l0])
  | succ k1 =>
   have H:=HA.out
   clear HA
   simp only [impl_table_party.l0] at H
   by_cases c6:x11_1 < (l0.length:Int)
   ·rw [if_pos c6] at H
    have c6b0:decide (x11_1 < (l0.length:Int))=true:=decide_eq_true c6
    clear c6
    have H':=zz31 H
    clear H
    go_wp2
    go_loopg [5] k1 (fun kq v5 w'=>∃ (x5_2:Int) (x255001_2:List (S80)) (u255001:Value),v5=.int .i64 x5_2∧Aside0 (impl_table_party.l1 kq l0 x11_1 x5_2 (l0.length:Int) x11_1 (l0.length:Int) x255001_2=some (r1,r2))∧Aside0 (kq≤k1)∧Aside0 (Kd.R k80 80 w' w.heap.size (fun _=>True) u255001 x255001_2)∧Aside0 (w'.heap[gb253]?=some (.cells #[.int .i64 0,(.slice none 0 0)] 32 (0,0)))∧Aside0 (w'.heap[gb254]?=some (.cells #[.int .i64 (l0.length:Int),u255001] 32 (0,0)))∧Aside0 (Below w.heap.size w w'))
    case atStart=>exact ⟨(wrap64 (x11_1+1)),(x255001_1),(u255001),(by first | rfl | (simp;done) | (simp [*];done)),H',⟨Nat.le_refl _⟩,⟨by (with_reducible repeat (first | apply zz12 | apply zz13 | apply zz14));exact HO_255001.out⟩,⟨by (with_reducible repeat (first | refine zz6 ?_ _ | refine zz7 ?_ | refine zz8 ?_ _));exact BK253.out⟩,⟨by (with_reducible repeat (first | refine zz6 ?_ _ | refine zz7 ?_ | refine zz8 ?_ _));exact BK254.out⟩,⟨by repeat first | exact HB.out | apply zz2 | apply zz0 | apply zz1 | refine zz3 ?_ GE253.out | refine zz3 ?_ GE254.out⟩⟩
    case round =>
     clear H'
     try clear p2
     try clear c4
     try clear c5
     try clear c6
     try clear c6b0
     try clear p6
     try clear hcz5_0
     try clear hcz5_1
     try clear hfz5_0
     try clear hfz5_1
     try clear p2
     obtain ⟨x5_2,x255001_2,u255001,rfl,HA,HK2,HO_255001,BK253,BK254,HB⟩:=hrel
     cases gk with
     | zero=>exact absurd HA.out (by simp [impl_table_party.l1])
     | succ k2 =>
      have H:=HA.out
      clear HA
      simp only [impl_table_party.l1] at H
      by_cases c7:x5_2 < (l0.length:Int)
      ·rw [if_pos c7] at H
       have c7b0:decide (x5_2 < (l0.length:Int))=true:=decide_eq_true c7
       clear c7
       replace H:=zz30.mp H
       obtain ⟨t255,A80,H⟩:=H
       replace H:(if t255=true then (if x255001_2.length < 8796093022208 then (impl_table_party.l1 k2 l0 x11_1 (wrap64 (x5_2+1)) (l0.length:Int) x11_1 (l0.length:Int) (x255001_2 ++ [(⟨x11_1,x5_2⟩:S80)])) else (none)) else (impl_table_party.l1 k2 l0 x11_1 (wrap64 (x5_2+1)) (l0.length:Int) x11_1 (l0.length:Int) x255001_2))=some (r1,r2):=H
       have A8:=zz31 A80
       clear A80
       by_cases c9:t255=true
       ·subst c9
        have H1:(if x255001_2.length < 8796093022208 then (impl_table_party.l1 k2 l0 x11_1 (wrap64 (x5_2+1)) (l0.length:Int) x11_1 (l0.length:Int) (x255001_2 ++ [(⟨x11_1,x5_2⟩:S80)])) else (none))=some (r1,r2):=by rw [if_pos rfl] at H;exact H
        clear H
        have H:=H1
        clear H1
        by_cases c10:x255001_2.length < 8796093022208
        ·rw [if_pos c10] at H
         have LMc10:=zz31 c10
         clear c10
         obtain ⟨y256,hy256⟩:∃ y_:List (S80),y_=(x255001_2 ++ [(⟨x11_1,x5_2⟩:S80)]):=⟨_,rfl⟩
         replace H:(impl_table_party.l1 k2 l0 x11_1 (wrap64 (x5_2+1)) (l0.length:Int) x11_1 (l0.length:Int) y256)=some (r1,r2):=by first | (rw [hy256];with_reducible exact H) | (have H2_:=(Option.bind_some _ _).symm.trans H;rw [hy256];with_reducible exact H2_) | (have H2_:=(Option.bind_some _ _).symm.trans H;with_reducible exact H2_) | with_reducible exact H | (rw [hy256];exact H) | exact H
         have Ny256:=zz31 hy256
         clear hy256
         have H':=zz31 H
         clear H
         go_wp2_with (first | ((with_reducible refine gate_callee (f:=88) rfl ?_);refine goesL_ (some 25) rfl rfl Try.func88 (by kernel_rfl) rfl #[.slice A0 l0.length c0,.int .i64 x11_1,.int .i64 x5_2] rfl (by (try simp only [zz26,zz27,zz28]);first | done | rfl | (simp only [zz24,zz25];rfl)) ?_;(with_reducible refine (impl_table_has.calls _ _ l0 x11_1 x5_2 true _ ?side1 ?side2 A8.out).mono ?_);(case side1=>repeat (first | exact (Kd.C_below HR0.out HB.out) | (with_reducible refine zz18 ?_ _) | (with_reducible refine zz19 ?_ _) | (with_reducible refine zz20 ?_)));(case side2=>exact HC0.out);rintro e w' ⟨rfl,⟨nd,rfl⟩⟩;refine ⟨_,rfl,?_⟩;(try (rw [drewN_self wr];generalize hq_:World.drewN wr _=wr;have n0_:Aside0 (Kd.R k80 80 wr w.heap.size (fun _=>True) u255001 x255001_2):=⟨by rw [← hq_];exact (by (with_reducible repeat (first | apply zz12 | apply zz13 | apply zz14));exact HO_255001.out)⟩;have n1_:Aside0 (wr.heap[gb253]?=some (.cells #[.int .i64 0,.slice none 0 0] 32 (0,0))):=⟨by rw [← hq_];exact (by (with_reducible repeat (first | refine zz6 ?_ _ | refine zz7 ?_ | refine zz8 ?_ _));exact BK253.out)⟩;have n2_:Aside0 (wr.heap[gb254]?=some (.cells #[.int .i64 (l0.length:Int),u255001] 32 (0,0))):=⟨by rw [← hq_];exact (by (with_reducible repeat (first | refine zz6 ?_ _ | refine zz7 ?_ | refine zz8 ?_ _));exact BK254.out)⟩;have n3_:Aside0 (Below w.heap.size w wr):=⟨by rw [← hq_];exact (by repeat first | exact HB.out | apply zz2 | apply zz0 | apply zz1 | refine zz3 ?_ GE253.out | refine zz3 ?_ GE254.out)⟩;clear HO_255001 BK253 BK254 HB hq_;have HO_255001:=n0_;have BK253:=n1_;have BK254:=n2_;have HB:=n3_;clear n0_ n1_ n2_ n3_));have hnb11:=NB254_253.out;have hnc11:=NB253_254.out;have hcz12_0:wr.cell? ⟨gb254,0,none⟩=some (.int .i64 (l0.length:Int)):=(zz9 BK254.out 0).trans rfl;have hcz12_1:wr.cell? ⟨gb254,1,none⟩=some (u255001):=(zz9 BK254.out 1).trans rfl;have hfz12_0:=zz10 BK254.out 0;have hfz12_1:=zz10 BK254.out 1) | ((with_reducible refine gate_builtin (b:=.append) (xs:=#[.tmp 27,.tmp 31]) rfl ?_);at_builtin;refine Kd.R_append k80 (w0:=w) w.heap.size rfl (.tmp 27) (.tmp 31) 30 80 (.agg #[(.int .i64 0),(.int .i64 0)]) 16 rfl Try.underlying30 info80 rfl (by decide) (by omega) u255001 x255001_2 (⟨x11_1,x5_2⟩:S80) [.int .i64 x11_1,.int .i64 x5_2] (fun _=>True) (fun _=>False) rfl rfl ?aP (fun _ hk=>hk.elim) ?aF ?aO ?aB ?aS ?aL ?_;(case aP=>exact k80_mkM _ _ _ (⟨x11_1,x5_2⟩:S80));(case aB=>exact (by repeat first | exact HB.out | apply zz2 | apply zz0 | apply zz1 | refine zz3 ?_ GE253.out | refine zz3 ?_ GE254.out));(case aF=>exact (fun _ _=>trivial));(case aO=>exact (by (with_reducible repeat (first | apply zz12 | apply zz13 | apply zz14));exact HO_255001.out));(case aS=>exact (zz5 (by repeat first | exact HB.out | apply zz2 | apply zz0 | apply zz1 | refine zz3 ?_ GE253.out | refine zz3 ?_ GE254.out)));(case aL=>have:=LMc10.out;omega);intro v257 w13 ho hb hg hat;rw [← Ny256.out] at ho;have n0_:=zz31 (blk_grown (g:=gb253) (o:=.cells #[.int .i64 0,.slice none 0 0] 32 (0,0)) (by (with_reducible repeat (first | refine zz6 ?_ _ | refine zz7 ?_ | refine zz8 ?_ _));exact BK253.out) hg (Kd.R_ne HO_255001.out BK253.out (by decide)));have n1_:=zz31 (blk_grown (g:=gb254) (o:=.cells #[.int .i64 (l0.length:Int),u255001] 32 (0,0)) (by (with_reducible repeat (first | refine zz6 ?_ _ | refine zz7 ?_ | refine zz8 ?_ _));exact BK254.out) hg (Kd.R_ne HO_255001.out BK254.out (by decide)));have n2_:=zz31 (hb);have n3_:=zz31 (ho);clear BK253;clear BK254;clear HB;clear HO_255001;have BK253:=n0_;have BK254:=n1_;have HB:=n2_;have HO258:=n3_;clear n0_ n1_ n2_ n3_;clear ho hb hg hat;obtain ⟨Ao14,co14,eo14⟩:=Kd.R_slice HO258.out;subst eo14;have hcz15_0:w13.cell? ⟨gb254,0,none⟩=some (.int .i64 (l0.length:Int)):=(zz9 BK254.out 0).trans rfl;have hcz15_1:w13.cell? ⟨gb254,1,none⟩=some (u255001):=(zz9 BK254.out 1).trans rfl;have hfz15_0:=zz10 BK254.out 0;have hfz15_1:=zz10 BK254.out 1))
         go_roundg k2
         case measure=>have:=HK1.out;have:=HK2.out;omega
         case rel=>exact ⟨(wrap64 (x5_2+1)),(y256),(.slice Ao14 y256.length co14),(by first | rfl | (simp;done) | (simp [*];done)),H',⟨by have:=HK1.out;have:=HK2.out;omega⟩,⟨by (with_reducible repeat (first | apply zz12 | apply zz13 | apply zz14));exact Kd.R_mono (Kd.R_far (p:=⟨gb254,1,none⟩) (Kd.R_types HO258.out BK254.out (by decide)) (fun _ hk=>hk.2) (.slice Ao14 y256.length co14)) (fun _ hk=>trivial)⟩,⟨by (with_reducible repeat (first | refine zz6 ?_ _ | refine zz7 ?_ | refine zz8 ?_ _));refine blk_far ?_ NB253_254.out _;(with_reducible repeat (first | refine zz6 ?_ _ | refine zz7 ?_ | refine zz8 ?_ _));exact BK253.out⟩,⟨by (with_reducible repeat (first | refine zz6 ?_ _ | refine zz7 ?_ | refine zz8 ?_ _));refine blk_put (cs:=#[.int .i64 (l0.length:Int),u255001]) ?_ 1 _ rfl;(with_reducible repeat (first | refine zz6 ?_ _ | refine zz7 ?_ | refine zz8 ?_ _));exact BK254.out⟩,⟨by repeat first | exact HB.out | apply zz2 | apply zz0 | apply zz1 | refine zz3 ?_ GE253.out | refine zz3 ?_ GE254.out⟩⟩
        ·rw [if_neg c10] at H
         exact absurd H (by simp)
       ·replace c9:=Bool.eq_false_iff.mpr c9
        subst c9
        have H1:(impl_table_party.l1 k2 l0 x11_1 (wrap64 (x5_2+1)) (l0.length:Int) x11_1 (l0.length:Int) x255001_2)=some (r1,r2):=by rw [if_neg (show ¬ (false=true) by decide)] at H;exact H
        clear H
        have H:=H1
        clear H1
        have H':=zz31 H
        clear H
        go_wp2_with (first | ((with_reducible refine gate_callee (f:=88) rfl ?_);refine goesL_ (some 25) rfl rfl Try.func88 (by kernel_rfl) rfl #[.slice A0 l0.length c0,.int .i64 x11_1,.int .i64 x5_2] rfl (by (try simp only [zz26,zz27,zz28]);first | done | rfl | (simp only [zz24,zz25];rfl)) ?_;(with_reducible refine (impl_table_has.calls _ _ l0 x11_1 x5_2 false _ ?side1 ?side2 A8.out).mono ?_);(case side1=>repeat (first | exact (Kd.C_below HR0.out HB.out) | (with_reducible refine zz18 ?_ _) | (with_reducible refine zz19 ?_ _) | (with_reducible refine zz20 ?_)));(case side2=>exact HC0.out);rintro e w' ⟨rfl,⟨nd,rfl⟩⟩;refine ⟨_,rfl,?_⟩))
        go_roundg k2
        case measure=>have:=HK1.out;have:=HK2.out;omega
        case rel=>exact ⟨(wrap64 (x5_2+1)),(x255001_2),(u255001),(by first | rfl | (simp;done) | (simp [*];done)),H',⟨by have:=HK1.out;have:=HK2.out;omega⟩,⟨by (with_reducible repeat (first | apply zz12 | apply zz13 | apply zz14));exact HO_255001.out⟩,⟨by (with_reducible repeat (first | refine zz6 ?_ _ | refine zz7 ?_ | refine zz8 ?_ _));exact BK253.out⟩,⟨by (with_reducible repeat (first | refine zz6 ?_ _ | refine zz7 ?_ | refine zz8 ?_ _));exact BK254.out⟩,⟨by repeat first | exact HB.out | apply zz2 | apply zz0 | apply zz1 | refine zz3 ?_ GE253.out | refine zz3 ?_ GE254.out⟩⟩
      ·rw [if_neg c7] at H
       have c7b0:decide (x5_2 < (l0.length:Int))=false:=decide_eq_false c7
       clear c7
       have H':=zz31 H
       clear H
       go_wp2
       go_roundg k2
       case measure=>have:=HK1.out;have:=HK2.out;omega
       case rel=>exact ⟨(wrap64 (x11_1+1)),(x255001_2),(u255001),(by first | rfl | (simp;done) | (simp [*];done)),H',⟨by have:=HK1.out;have:=HK2.out;omega⟩,⟨by (with_reducible repeat (first | apply zz12 | apply zz13 | apply zz14));exact HO_255001.out⟩,⟨by (with_reducible repeat (first | refine zz6 ?_ _ | refine zz7 ?_ | refine zz8 ?_ _));exact BK253.out⟩,⟨by (with_reducible repeat (first | refine zz6 ?_ _ | refine zz7 ?_ | refine zz8 ?_ _));exact BK254.out⟩,⟨by repeat first | exact HB.out | apply zz2 | apply zz0 | apply zz1 | refine zz3 ?_ GE253.out | refine zz3 ?_ GE254.out⟩⟩
   ·rw [if_neg c6] at H
    have c6b0:decide (x11_1 < (l0.length:Int))=false:=decide_eq_false c6
    clear c6
    simp only [Option.some.injEq,Prod.mk.injEq] at H
    obtain ⟨rfl,rfl⟩:=H
    have hnb16:=NB254_253.out
    have hnc16:=NB253_254.out
    have hcz17_0:wr.cell? ⟨gb254,0,none⟩=some (.int .i64 (l0.length:Int)):=(zz9 BK254.out 0).trans rfl
    have hcz17_1:wr.cell? ⟨gb254,1,none⟩=some (u255001):=(zz9 BK254.out 1).trans rfl
    have hfz17_0:=zz10 BK254.out 0
    have hfz17_1:=zz10 BK254.out 1
    have hcz18_0:wr.cell? ⟨gb253,0,none⟩=some (.int .i64 0):=(zz9 BK253.out 0).trans rfl
    have hcz18_1:wr.cell? ⟨gb253,1,none⟩=some (.slice none 0 0):=(zz9 BK253.out 1).trans rfl
    have hfz18_0:=zz10 BK253.out 0
    have hfz18_1:=zz10 BK253.out 1
    obtain ⟨Ao19,co19,eo19⟩:=Kd.R_slice HO_255001.out
    subst eo19
    go_wp2
    refine bodyPost_ret (results_cell_row rfl _ _ gb253 32 #[.int .i64 (l0.length:Int),.slice Ao19 x255001_1.length co19] (0,0) _ rfl (by (with_reducible repeat (first | refine zz6 ?_ _ | refine zz7 ?_ | refine zz8 ?_ _));refine blk_put (cs:=#[.int .i64 (l0.length:Int),.slice none 0 0]) ?_ 1 _ rfl;(with_reducible repeat (first | refine zz6 ?_ _ | refine zz7 ?_ | refine zz8 ?_ _));refine blk_put (cs:=#[.int .i64 0,.slice none 0 0]) ?_ 0 _ rfl;(with_reducible repeat (first | refine zz6 ?_ _ | refine zz7 ?_ | refine zz8 ?_ _));exact BK253.out) Try.underlying32 rfl (by kernel_rfl)) rfl ?_
    exact ⟨_,by first | rfl | (simp [errW_none,errW_some] <;> rfl) | (simp [*,errW_none,errW_some] <;> rfl),by (with_reducible repeat (first | apply zz12 | apply zz13 | apply zz14));exact Kd.R_mono (Kd.R_far (p:=⟨gb253,1,none⟩) (Kd.R_far (p:=⟨gb253,0,none⟩) (Kd.R_types HO_255001.out BK253.out (by decide)) (fun _ hk=>hk.2) (.int .i64 (l0.length:Int))) (fun _ hk=>hk.2) (.slice Ao19 x255001_1.length co19)) (fun _ hk=>trivial),by repeat first | exact HB.out | apply zz2 | apply zz0 | apply zz1 | refine zz3 ?_ GE253.out | refine zz3 ?_ GE254.out⟩

/-! ### slices_Clone_int_int: function 65 (a contract of our own) -/
def slices_Clone_int_int.f (l0:List Int):Option (List Int):=if l0.length≤1000000000 then some l0 else none
set_option maxHeartbeats 1000000 in
set_option maxRecDepth 100000 in
theorem slices_Clone_int_int.calls (A0:Option Addr) (c0:Nat) (l0:List Int) (r:List Int) (w:World) (hr0:Kd.C (Kd.int .i64) w A0 l0.length l0) (hc0:l0.length≤c0) (h:slices_Clone_int_int.f l0=some r) :
  Calls Try.prog 65 #[.slice A0 l0.length c0] w fun e w'=>∃ v0_:Value,e=.returned (v0_)∧Kd.R (Kd.int .i64) 3 w' w.heap.size (fun _=>True) v0_ r∧Below w.heap.size w w':=by
 unfold slices_Clone_int_int.f at h
 by_cases hb:l0.length≤1000000000
 case neg=>rw [if_neg hb] at h;exact absurd h (by simp)
 rw [if_pos hb] at h
 obtain rfl:=Option.some.inj h
 clear h
 have HR:=zz31 hr0
 have HBIG:=zz31 hb
 clear hb hc0
 cases A0 with
 | none =>
  have h0:l0=[]:=by
   rcases Nat.eq_zero_or_pos l0.length with hz | hz
   ·exact List.eq_nil_of_length_eq_zero hz
   ·obtain ⟨ad,e,_⟩:=hr0.2.2 hz
    cases e
  subst h0
  clear hr0
  have heq:∀ W:World,(binOp .eql 22 (.slice none 0 c0) (.slice none 0 0)).run Try.prog W=.ok (.bool true) W:=fun W=>Lib.run_eql_slice_nil_nil W 0 c0 Try.underlying22
  go_enter Try.func65,Try.ntmps65
  go_wp2
  go_ret
  exact ⟨_,rfl,Kd.R_nil _ _ _ _ _,Below.refl _ _⟩
 | some ad =>
  clear hr0
  have heq:∀ W:World,(binOp .eql 22 (.slice (some ad) l0.length c0) (.slice none 0 0)).run Try.prog W=.ok (.bool false) W:=fun W=>Lib.run_eql_slice_some_nil W ad l0.length c0 Try.underlying22
  go_enter Try.func65,Try.ntmps65
  go_wp2_with (first | ((with_reducible refine gate_dst (N:=5) rfl ?_);refine Kd.R_lit (Kd.int .i64) (w0:=w) w.heap.size 3 ?hg (N:=5) ?hd (xs:=([]:List Int)) (inner:=[]) (ok:=fun _=>True) (okp:=fun _=>True) ?hr ?hp (fun _ hk=>hk) trivial (Below.refl _ _) (Nat.le_refl _) (by simp) ?_;(case hd=>rfl);(case hg=>rfl);(case hr=>first | (go_simp;done) | (go_simp;rfl));(case hp=>exact (Reps.none _ _));intro v3 w3 ho hb hg_ hnew_;clear hg_ hnew_;have HO:=zz31 ho;have HB:=zz31 hb;clear ho hb) | ((with_reducible refine gate_dst (N:=7) rfl ?_);refine Kd.R_append_rows (Kd.int .i64) (w0:=w) w.heap.size rfl (.tmp 5) (.tmp 6) 22 3 (.int .i64 0) 8 rfl Try.underlying22 info3 rfl (by decide) (by omega) v3 [] l0 _ _ _ (fun _=>True) (fun _=>False) rfl rfl HO.out (Kd.C_below HR.out HB.out) ?aR (fun _ h=>h.elim) (fun _ _=>trivial) HB.out HB.out.size ?aL ?_;(case aR=>exact (fun _ _ h=>h));(case aL=>(have:=HBIG.out;simp;omega));intro v4 w4 ho4 hb4 hg4 hn4;clear hg4 hn4;have HO4:=zz31 ho4;have HB4:=zz31 hb4;clear ho4 hb4))
  go_ret
  exact ⟨_,rfl,by simpa using HO4.out,HB4.out⟩

/-! ### impl_table_put: function 69 -/
def impl_table_put.f (l0:List Int) (a1:Int) (a2:Int):Option (List Int):=if 0≤a1 then (if a1 < (l0.length:Int) then (if 0≤a2 then ((some (l0.set (a1:Int).toNat (Go.bits .or .u16 (rd l0 a1) (shl .u16 1 a2)):List Int)).bind fun y260=>(if a2 < (l0.length:Int) then (some (y260.set (a2:Int).toNat (Go.bits .or .u16 (rd y260 a2) (shl .u16 1 a1)))) else (none))) else (none)) else (none)) else (none)
def impl_table_put.T0:Bool × List (List Nat × List Nat):=(true,[([],[]),([],[]),([0,1],[0,1]),([2],[2]),([],[]),([4],[4]),([3,5],[3,5]),([0,1,0,1,2,3,4,5,6],[0,1]),([7,6,0,1,2,3,4,5,6],[6,7])])
def impl_table_put.B0:List Nat:=[0,0,3,7,0,16,63,127,255]
theorem impl_table_put.tab0:rtab .any (opsOf Try.f69 0)=impl_table_put.T0:=by kernel_rfl
theorem impl_table_put.bits0:waitsOk impl_table_put.T0.2 impl_table_put.B0=true:=by kernel_rfl
def impl_table_put.T1:Bool × List (List Nat × List Nat):=(true,[([],[]),([],[]),([0,1],[0,1]),([2],[2]),([],[]),([4],[4]),([3,5],[3,5]),([0,1,0,1,2,3,4,5,6],[0,1]),([7,6,0,1,2,3,4,5,6],[6,7])])
def impl_table_put.B1:List Nat:=[0,0,3,7,0,16,63,127,255]
theorem impl_table_put.tab1:rtab .any (opsOf Try.f69 1)=impl_table_put.T1:=by kernel_rfl
theorem impl_table_put.bits1:waitsOk impl_table_put.T1.2 impl_table_put.B1=true:=by kernel_rfl
set_option maxHeartbeats 8000000 in
set_option maxRecDepth 100000 in
theorem impl_table_put.calls (P0_:Nat→Prop) (u9000_:Value) (l0:List Int) (a1:Int) (a2:Int) (r:List Int) (w0 w:World) (hB:Below w0.heap.size w0 w) (ho0:Kd.R (Kd.int .u16) 77 w w0.heap.size P0_ u9000_ l0) (h:impl_table_put.f l0 a1 a2=some r) :
  Calls Try.prog 69 #[u9000_,.int .i64 a1,.int .i64 a2] w fun e w'=>e=.returned (.tuple #[])∧Kd.R (Kd.int .u16) 77 w' w0.heap.size (fun k_=>(P0_ k_ ∨ w.heap.size≤k_)) u9000_ r∧Below w0.heap.size w0 w'∧Kept w w' (fun k_=>P0_ k_):=by
 have HO0:=zz31 (show Kd.R (Kd.int .u16) 77 w w0.heap.size (fun k_=>(P0_ k_ ∨ w.heap.size≤k_)) u9000_ l0 from Kd.R_mono ho0 (fun k_ hk=>(.inl hk)))
 have HK:=zz31 (Kept.refl w (fun k_=>P0_ k_))
 have HW0:=zz31 hB.size
 have HB:=zz31 hB
 clear hB
 have H:(if 0≤a1 then (if a1 < (l0.length:Int) then (if 0≤a2 then ((some (l0.set (a1:Int).toNat (Go.bits .or .u16 (rd l0 a1) (shl .u16 1 a2)):List Int)).bind fun y260=>(if a2 < (l0.length:Int) then (some (y260.set (a2:Int).toNat (Go.bits .or .u16 (rd y260 a2) (shl .u16 1 a1)))) else (none))) else (none)) else (none)) else (none))=some r:=h
 clear h
 by_cases c4:0≤a1
 ·rw [if_pos c4] at H
  have c4b0:decide (0≤a1)=true:=decide_eq_true c4
  clear c4
  by_cases c5:a1 < (l0.length:Int)
  ·rw [if_pos c5] at H
   have c5b0:decide (a1 < (l0.length:Int))=true:=decide_eq_true c5
   clear c5
   by_cases c6:0≤a2
   ·rw [if_pos c6] at H
    have c6b0:=eq_true c6
    have c6b1:decide (0≤a2)=true:=decide_eq_true c6
    clear c6
    obtain ⟨ji7,hji7⟩:∃ j_:Int,(shl .u16 1 a2)=j_:=⟨_,rfl⟩
    replace H:((some (l0.set (a1:Int).toNat (Go.bits .or .u16 (rd l0 a1) (ji7)):List Int)).bind fun y260=>(if a2 < (l0.length:Int) then (some (y260.set (a2:Int).toNat (Go.bits .or .u16 (rd y260 a2) (shl .u16 1 a1)))) else (none)))=some r:=by first | (rw [hji7] at H;exact H) | (simp only [hji7] at H ⊢;exact H)
    have hji7_:(IntKind.u16.wrap (1 * 2 ^ min a2.toNat 16))=ji7:=hji7
    have hji7z:a2≤16→(IntKind.u16.wrap (1 * 2 ^ a2.toNat))=ji7:=shl_small hji7
    have hji7u:(IntKind.u16.wrap (2 ^ min a2.toNat 16))=ji7:=by have h_:=hji7_;rw [Int.one_mul] at h_;exact h_
    have hji7v:a2≤16→(IntKind.u16.wrap (2 ^ a2.toNat))=ji7:=fun hle_=>by have h_:=hji7z hle_;rw [Int.one_mul] at h_;exact h_
    obtain ⟨y260,hy260⟩:∃ y_:List Int,y_=(l0.set (a1:Int).toNat (Go.bits .or .u16 (rd l0 a1) (ji7))):=⟨_,rfl⟩
    replace H:(if a2 < (l0.length:Int) then (some (y260.set (a2:Int).toNat (Go.bits .or .u16 (rd y260 a2) (shl .u16 1 a1)))) else (none))=some r:=by first | (rw [hy260];with_reducible exact H) | (have H2_:=(Option.bind_some _ _).symm.trans H;rw [hy260];with_reducible exact H2_) | (have H2_:=(Option.bind_some _ _).symm.trans H;with_reducible exact H2_) | with_reducible exact H | (rw [hy260];exact H) | exact H
    have Ny260:=zz31 hy260
    clear hy260
    by_cases c9:a2 < (l0.length:Int)
    ·rw [if_pos c9] at H
     have c9b0:decide (a2 < (l0.length:Int))=true:=decide_eq_true c9
     clear c9
     have c10b0:=eq_true (zz29 (by first | (with_reducible assumption) | assumption):0≤a1)
     obtain ⟨ji11,hji11⟩:∃ j_:Int,(shl .u16 1 a1)=j_:=⟨_,rfl⟩
     replace H:(some (y260.set (a2:Int).toNat (Go.bits .or .u16 (rd y260 a2) (ji11))))=some r:=by first | (rw [hji11] at H;exact H) | (simp only [hji11] at H ⊢;exact H)
     have hji11_:(IntKind.u16.wrap (1 * 2 ^ min a1.toNat 16))=ji11:=hji11
     have hji11z:a1≤16→(IntKind.u16.wrap (1 * 2 ^ a1.toNat))=ji11:=shl_small hji11
     have hji11u:(IntKind.u16.wrap (2 ^ min a1.toNat 16))=ji11:=by have h_:=hji11_;rw [Int.one_mul] at h_;exact h_
     have hji11v:a1≤16→(IntKind.u16.wrap (2 ^ a1.toNat))=ji11:=fun hle_=>by have h_:=hji11z hle_;rw [Int.one_mul] at h_;exact h_
     obtain ⟨y262,hy262⟩:∃ y_:List Int,y_=(y260.set (a2:Int).toNat (Go.bits .or .u16 (rd y260 a2) (ji11))):=⟨_,rfl⟩
     replace H:(some y262)=some r:=by first | (rw [hy262];with_reducible exact H) | (have H2_:=(Option.bind_some _ _).symm.trans H;rw [hy262];with_reducible exact H2_) | (have H2_:=(Option.bind_some _ _).symm.trans H;with_reducible exact H2_) | with_reducible exact H | (rw [hy262];exact H) | exact H
     have Ny262:=zz31 hy262
     clear hy262
     obtain rfl:=Option.some.inj H
     go_enter Try.func69,Try.ntmps69
     try go_wp2
     have n0_:=zz31 (zz14 HO0.out)
     have n1_:=zz31 (Kept.drew HK.out)
     have n2_:=zz31 (zz1 HB.out)
     clear HO0
     clear HK
     clear HB
     have HO0:=n0_
     have HK:=n1_
     have HB:=n2_
     clear n0_ n1_ n2_
     obtain ⟨Ao14,co14,eo14⟩:=Kd.R_slice HO0.out
     (first | subst eo14 | (injection eo14 with f1_ f2_ f3_;have f4_:=f1_.symm;have f5_:=f3_.symm;clear f1_ f2_ f3_;subst f4_;subst f5_))
     have p259:0≤(a1:Int):=zz29 (by first | (with_reducible assumption) | assumption)
     have q259:a1 < (l0.length:Int):=zz29 (by first | (with_reducible assumption) | assumption)
     obtain ⟨ad259,e259,hx259_0⟩:=Kd.at_int (Kd.R_reads' HO0.out).2.2 a1 p259 q259
     cases e259
     replace p259:=eq_true p259
     replace q259:=eq_true q259
     have p8:0≤(a1:Int):=zz29 (by first | (with_reducible assumption) | assumption)
     have q8:(a1:Int) < ((l0.length:Int):Int):=zz29 (by first | (with_reducible assumption) | assumption)
     obtain ⟨go8,co8,eo8,gb8,gl8,cl8,HG8⟩:=Kd.R_form HO0.out (by omega)
     (first | cases eo8 | (injection eo8 with ea_ en_ ec_;(first | subst ea_ | (injection ea_ with ea_;subst ea_));subst ec_;clear en_))
     have GB8:=zz31 gb8
     have GG8:=zz31 HG8
     clear gb8 gl8 HG8
     have HMgo8:=zz31 (show (P0_ go8 ∨ w.heap.size≤go8) from (HO0.out.1 _ rfl))
     (first | simp only [add_plain] at hx259_0 | skip)
     obtain ⟨hx8_0,hf8_0⟩:=Kd.R_celln 0 HO0.out (a1:Int) p8 q8
     replace p8:=eq_true p8
     replace q8:=eq_true q8
     have HP15:=Kd.R_putn HO0.out (a1:Int) (Go.bits .or .u16 (rd l0 a1) (ji7))
     rw [← Ny260.out] at HP15
     have HQ15:=zz31 HP15
     clear HP15
     refine start_ (n:=9) (S:=fun w'=>w'.cell? ⟨go8,(a1).toNat,none⟩=some (.int .u16 (rd l0 a1))) (ds:=[8]) #[F,F,F,F,F,F,F,F,F] (by kernel_rfl) rfl rfl (hx259_0) (fun hHeld=>?_);refine with_tabW impl_table_put.tab0 impl_table_put.bits0 (fun HT_ HW_=>?_)
     generalize w.drew=w13 at HO0 HK HB GG8 HQ15 hf8_0 hx259_0 hx8_0 hHeld ⊢
     refine pure_ (i:=0) (N:=some 6) (v:=?_) (a':=?_) #[T,F,F,F,F,F,F,F,F] rfl rfl (any_of HT_.out (by kernel_rfl)) (fun _ _ _ h=>h) (Or.inl ⟨by rfl,?_⟩) ?_ ?_
     rotate_left
     ·intro w'
      go_simp
      with_reducible rfl
     rotate_left
     ·simp only [Act.put,zz21,zz22,zz23,i64_w,i32_w]
      rfl
     refine pure_ (i:=1) (N:=some 7) (v:=?_) (a':=?_) #[T,T,F,F,F,F,F,F,F] rfl rfl (any_of HT_.out (by kernel_rfl)) (fun _ _ _ h=>h) (Or.inl ⟨by rfl,?_⟩) ?_ ?_
     rotate_left
     ·intro w'
      go_simp
      with_reducible rfl
     rotate_left
     ·simp only [Act.put,zz21,zz22,zz23,i64_w,i32_w]
      rfl
     refine pure_ (i:=2) (N:=some 8) (v:=?_) (a':=?_) #[T,T,T,F,F,F,F,F,F] rfl rfl (any_of HT_.out (by kernel_rfl)) (fun _ _ _ h=>h) (Or.inl ⟨by rfl,?_⟩) ?_ ?_
     rotate_left
     ·intro w'
      go_simp
      with_reducible rfl
     rotate_left
     ·simp only [Act.put,zz21,zz22,zz23,i64_w,i32_w]
      rfl
     refine pure_ (i:=4) (N:=some 10) (v:=?_) (a':=?_) #[T,T,T,F,T,F,F,F,F] rfl rfl (any_of HT_.out (by kernel_rfl)) (fun _ _ _ h=>h) (Or.inl ⟨by rfl,?_⟩) ?_ ?_
     rotate_left
     ·intro w'
      go_simp
      with_reducible rfl
     rotate_left
     ·simp only [Act.put,zz21,zz22,zz23,i64_w,i32_w]
      rfl
     refine pure_ (i:=5) (N:=some 11) (v:=?_) (a':=?_) #[T,T,T,F,T,T,F,F,F] rfl rfl (any_of HT_.out (by kernel_rfl)) (fun _ _ _ h=>h) (Or.inl ⟨by rfl,?_⟩) ?_ ?_
     rotate_left
     ·intro w'
      go_simp
      with_reducible rfl
     rotate_left
     ·simp only [Act.put,zz21,zz22,zz23,i64_w,i32_w]
      rfl
     refine take_ (i:=3) (N:=some 9) (v:=?_) (a':=?_) #[T,T,T,T,T,T,F,F,F] rfl rfl (take_ofW HT_.out HW_.out (by kernel_rfl)) (fun _ _ _ h=>h) (Or.inl ⟨by rfl,?_⟩) hHeld ?_ ?_
     rotate_left
     ·intro w' s0
      go_simp
      with_reducible rfl
     rotate_left
     ·simp only [Act.put,zz21,zz22,zz23,i64_w,i32_w]
      rfl
     refine pure_ (i:=6) (N:=some 12) (v:=?_) (a':=?_) #[T,T,T,T,T,T,T,F,F] rfl rfl (any_of HT_.out (by kernel_rfl)) (fun _ _ _ h=>h) (Or.inl ⟨by rfl,?_⟩) ?_ ?_
     rotate_left
     ·intro w'
      go_simp
      with_reducible rfl
     rotate_left
     ·simp only [Act.put,zz21,zz22,zz23,i64_w,i32_w]
      rfl
     refine pure_ (i:=7) (N:=some 13) (v:=?_) (a':=?_) #[T,T,T,T,T,T,T,T,F] rfl rfl (any_of HT_.out (by kernel_rfl)) (fun _ _ _ h=>h) (Or.inl ⟨by rfl,?_⟩) ?_ ?_
     rotate_left
     ·intro w'
      go_simp
      with_reducible rfl
     rotate_left
     ·simp only [Act.put,zz21,zz22,zz23,i64_w,i32_w]
      rfl
     refine last_ (i:=8) (N:=none) #[T,T,T,T,T,T,T,T,T] rfl rfl (one_of HT_.out (by kernel_rfl)) (by decide) (fun K hK=>?_)
     refine skip_ (w1:=?_) (by rfl) rfl ?_ ?_
     rotate_left
     ·go_simp
      rfl
     refine hK.out _ _ ?_
     clear hK K
     refine done_ (done_of HT_.out (by kernel_rfl)) ?_
     try go_wp2
     have n0_:Aside0 (Kd.R (Kd.int .u16) 77 (w13.setCell ⟨go8,(a1:Int).toNat,none⟩ (.int .u16 (Go.bits .or .u16 (rd l0 a1) (ji7)))) w0.heap.size (fun k_=>(P0_ k_ ∨ w.heap.size≤k_)) (.slice (some ⟨go8,0,none⟩) l0.length co14) y260):=⟨by (with_reducible repeat (first | apply zz12 | apply zz13 | apply zz14));exact HQ15.out⟩
     have n1_:Aside0 (Kept w (w13.setCell ⟨go8,(a1:Int).toNat,none⟩ (.int .u16 (Go.bits .or .u16 (rd l0 a1) (ji7)))) (fun k_=>P0_ k_)):=⟨by repeat (first | (with_reducible first | exact HK.out | apply Kept.alloc | apply Kept.drewN | apply Kept.drew | refine Kept.setCell ?_ HMgo8.out _) | exact HK.out)⟩
     have n2_:Aside0 (Below w0.heap.size w0 (w13.setCell ⟨go8,(a1:Int).toNat,none⟩ (.int .u16 (Go.bits .or .u16 (rd l0 a1) (ji7))))):=⟨by repeat first | exact HB.out | apply zz2 | apply zz0 | apply zz1 | refine zz3 ?_ GB8.out⟩
     (try clear HO0)
     (try clear HK)
     (try clear HB)
     generalize (w13.setCell ⟨go8,(a1:Int).toNat,none⟩ (.int .u16 (Go.bits .or .u16 (rd l0 a1) (ji7))))=w16 at n0_ n1_ n2_ ⊢
     have HO0:=n0_
     have HK:=n1_
     have HB:=n2_
     clear n0_ n1_ n2_
     have n0_:=zz31 (zz14 HO0.out)
     have n1_:=zz31 (Kept.drew HK.out)
     have n2_:=zz31 (zz1 HB.out)
     clear HO0
     clear HK
     clear HB
     have HO0:=n0_
     have HK:=n1_
     have HB:=n2_
     clear n0_ n1_ n2_
     have p261:0≤(a2:Int):=zz29 (by first | (with_reducible assumption) | assumption)
     have q261:a2 < (y260.length:Int):=(by have h_:(a2:Int) < ((l0.length:Int):Int):=zz29 (by first | (with_reducible assumption) | assumption);first | (have e_:=(Kd.R_reads' HO0.out).1;omega) | simpa only [Ny260.out,List.length_set] using h_)
     have ql261:((a2:Int) < ((l0.length:Int):Int))=True:=eq_true (zz29 (by first | (with_reducible assumption) | assumption))
     obtain ⟨ad261,e261,hx261_0⟩:=Kd.at_int (Kd.R_reads' HO0.out).2.2 a2 p261 q261
     obtain rfl:(⟨go8,0,none⟩:Addr)=ad261:=(by injection e261)
     (first | simp only [add_plain] at hx261_0 | simp only [add_at] at hx261_0 | simp only [Addr.add,Nat.zero_add] at hx261_0 | skip)
     replace p261:=eq_true p261
     replace q261:=eq_true q261
     have p12:0≤(a2:Int):=zz29 (by first | (with_reducible assumption) | assumption)
     have q12:(a2:Int) < ((l0.length:Int):Int):=zz29 (by first | (with_reducible assumption) | assumption)
     obtain ⟨hx12_0,hf12_0⟩:=Kd.R_celln 0 HO0.out (a2:Int) p12 q12
     replace p12:=eq_true p12
     replace q12:=eq_true q12
     have HP18:=Kd.R_putn HO0.out (a2:Int) (Go.bits .or .u16 (rd y260 a2) (ji11))
     rw [← Ny262.out] at HP18
     have HQ18:=zz31 HP18
     clear HP18
     refine start_ (n:=9) (S:=fun w'=>w'.cell? ⟨go8,(a2).toNat,none⟩=some (.int .u16 (rd y260 a2))) (ds:=[8]) #[F,F,F,F,F,F,F,F,F] (by kernel_rfl) rfl rfl (hx261_0) (fun hHeld=>?_);refine with_tabW impl_table_put.tab1 impl_table_put.bits1 (fun HT_ HW_=>?_)
     generalize w16.drew=w17 at HO0 HK HB HQ15 HQ18 hf12_0 hx12_0 hx261_0 hHeld ⊢
     refine pure_ (i:=0) (N:=some 14) (v:=?_) (a':=?_) #[T,F,F,F,F,F,F,F,F] rfl rfl (any_of HT_.out (by kernel_rfl)) (fun _ _ _ h=>h) (Or.inl ⟨by rfl,?_⟩) ?_ ?_
     rotate_left
     ·intro w'
      go_simp
      with_reducible rfl
     rotate_left
     ·simp only [Act.put,zz21,zz22,zz23,i64_w,i32_w]
      rfl
     refine pure_ (i:=1) (N:=some 15) (v:=?_) (a':=?_) #[T,T,F,F,F,F,F,F,F] rfl rfl (any_of HT_.out (by kernel_rfl)) (fun _ _ _ h=>h) (Or.inl ⟨by rfl,?_⟩) ?_ ?_
     rotate_left
     ·intro w'
      go_simp
      with_reducible rfl
     rotate_left
     ·simp only [Act.put,zz21,zz22,zz23,i64_w,i32_w]
      rfl
     refine pure_ (i:=2) (N:=some 16) (v:=?_) (a':=?_) #[T,T,T,F,F,F,F,F,F] rfl rfl (any_of HT_.out (by kernel_rfl)) (fun _ _ _ h=>h) (Or.inl ⟨by rfl,?_⟩) ?_ ?_
     rotate_left
     ·intro w'
      go_simp
      with_reducible rfl
     rotate_left
     ·simp only [Act.put,zz21,zz22,zz23,i64_w,i32_w]
      rfl
     refine pure_ (i:=4) (N:=some 18) (v:=?_) (a':=?_) #[T,T,T,F,T,F,F,F,F] rfl rfl (any_of HT_.out (by kernel_rfl)) (fun _ _ _ h=>h) (Or.inl ⟨by rfl,?_⟩) ?_ ?_
     rotate_left
     ·intro w'
      go_simp
      with_reducible rfl
     rotate_left
     ·simp only [Act.put,zz21,zz22,zz23,i64_w,i32_w]
      rfl
     refine pure_ (i:=5) (N:=some 19) (v:=?_) (a':=?_) #[T,T,T,F,T,T,F,F,F] rfl rfl (any_of HT_.out (by kernel_rfl)) (fun _ _ _ h=>h) (Or.inl ⟨by rfl,?_⟩) ?_ ?_
     rotate_left
     ·intro w'
      go_simp
      with_reducible rfl
     rotate_left
     ·simp only [Act.put,zz21,zz22,zz23,i64_w,i32_w]
      rfl
     refine take_ (i:=3) (N:=some 17) (v:=?_) (a':=?_) #[T,T,T,T,T,T,F,F,F] rfl rfl (take_ofW HT_.out HW_.out (by kernel_rfl)) (fun _ _ _ h=>h) (Or.inl ⟨by rfl,?_⟩) hHeld ?_ ?_
     rotate_left
     ·intro w' s0
      go_simp
      with_reducible rfl
     rotate_left
     ·simp only [Act.put,zz21,zz22,zz23,i64_w,i32_w]
      rfl
     refine pure_ (i:=6) (N:=some 20) (v:=?_) (a':=?_) #[T,T,T,T,T,T,T,F,F] rfl rfl (any_of HT_.out (by kernel_rfl)) (fun _ _ _ h=>h) (Or.inl ⟨by rfl,?_⟩) ?_ ?_
     rotate_left
     ·intro w'
      go_simp
      with_reducible rfl
     rotate_left
     ·simp only [Act.put,zz21,zz22,zz23,i64_w,i32_w]
      rfl
     refine pure_ (i:=7) (N:=some 21) (v:=?_) (a':=?_) #[T,T,T,T,T,T,T,T,F] rfl rfl (any_of HT_.out (by kernel_rfl)) (fun _ _ _ h=>h) (Or.inl ⟨by rfl,?_⟩) ?_ ?_
     rotate_left
     ·intro w'
      go_simp
      with_reducible rfl
     rotate_left
     ·simp only [Act.put,zz21,zz22,zz23,i64_w,i32_w]
      rfl
     refine last_ (i:=8) (N:=none) #[T,T,T,T,T,T,T,T,T] rfl rfl (one_of HT_.out (by kernel_rfl)) (by decide) (fun K hK=>?_)
     refine skip_ (w1:=?_) (by rfl) rfl ?_ ?_
     rotate_left
     ·go_simp
      rfl
     refine hK.out _ _ ?_
     clear hK K
     refine done_ (done_of HT_.out (by kernel_rfl)) ?_
     try go_wp2
     first | go_end0 | ((try simp only [Exit.inBlock,Exit.then]);refine bodyPost_ret (results_none rfl _ _ _) rfl ?_)
     exact ⟨by first | rfl | (simp [errW_none,errW_some] <;> rfl) | (simp only [← hji7,← hji11];first | rfl | (simp [errW_none,errW_some] <;> rfl)) | (simp [*,errW_none,errW_some] <;> rfl),by (with_reducible repeat (first | apply zz12 | apply zz13 | apply zz14));exact HQ18.out,by repeat first | exact HB.out | apply zz2 | apply zz0 | apply zz1 | refine zz3 ?_ GB8.out,by repeat (first | (with_reducible first | exact HK.out | apply Kept.alloc | apply Kept.drewN | apply Kept.drew | refine Kept.setCell ?_ HMgo8.out _) | exact HK.out)⟩
    ·rw [if_neg c9] at H
     exact absurd H (by simp)
   ·rw [if_neg c6] at H
    exact absurd H (by simp)
  ·rw [if_neg c5] at H
   exact absurd H (by simp)
 ·rw [if_neg c4] at H
  exact absurd H (by simp)

/-! ### impl_upTo: function 81 -/
def impl_upTo.l0:Nat→List Int→Int→Int→Option (List Int)
 | 0,_,_,_=>none
 | k+1,x3,x6,x7=>if x7 < x6 then (if x3.length < 17592186044416 then (impl_upTo.l0 k (x3 ++ [x7]) x6 (wrap64 (x7+1))) else (none)) else (some x3)
def impl_upTo.f (k:Nat) (a0:Int):Option (List Int):=impl_upTo.l0 k (([]:List Int)) a0 0
theorem impl_upTo.mono_l:∀ k,(∀ y0 y1 y2,LeO (impl_upTo.l0 k y0 y1 y2) (impl_upTo.l0 (k+1) y0 y1 y2))
 | 0=>fun _ _ _ r h=>by simp [impl_upTo.l0] at h
 | k+1=>by
  have ih0:=impl_upTo.mono_l k
  ·intro y0 y1 y2
   unfold impl_upTo.l0
   repeat' first
   | (with_reducible exact ih0 _ _ _)
   | (with_reducible exact LeO.refl _)
   | (with_reducible exact LeO.none _)
   | (with_reducible refine LeO.ite ?_ ?_)
   | (with_reducible refine LeO.bind ?_ (fun _=>?_))
   | exact ih0 _ _ _
   | exact LeO.none _
   | refine LeO.ite ?_ ?_
   | refine LeO.bind ?_ (fun _=>?_)
theorem impl_upTo.mono:∀ a0 k,LeO (impl_upTo.f k a0) (impl_upTo.f (k+1) a0):=by
 intro a0 k
 have ih0:=impl_upTo.mono_l k
 unfold impl_upTo.f
 repeat' first
   | (with_reducible exact ih0 _ _ _)
   | (with_reducible exact LeO.refl _)
   | (with_reducible exact LeO.none _)
   | (with_reducible refine LeO.ite ?_ ?_)
   | (with_reducible refine LeO.bind ?_ (fun _=>?_))
   | exact ih0 _ _ _
   | exact LeO.none _
   | refine LeO.ite ?_ ?_
   | refine LeO.bind ?_ (fun _=>?_)
set_option maxHeartbeats 8000000 in
set_option maxRecDepth 100000 in
theorem impl_upTo.calls (k:Nat) (a0:Int) (r:List Int) (w:World) (h:impl_upTo.f k a0=some r) :
  Calls Try.prog 81 #[.int .i64 a0] w fun e w'=>∃ v0_:Value,e=.returned (v0_)∧Kd.R (Kd.int .i64) 3 w' w.heap.size (fun _=>True) v0_ r∧Below w.heap.size w w':=by
 have HB:=zz31 (Below.refl w.heap.size w)
 have H:(impl_upTo.l0 k (([]:List Int)) a0 0)=some r:=h
 clear h
 obtain ⟨y263,hy263⟩:∃ y_:List Int,y_=(([]:List Int)):=⟨_,rfl⟩
 replace H:(impl_upTo.l0 k y263 a0 0)=some r:=by first | (rw [hy263];with_reducible exact H) | (have H2_:=(Option.bind_some _ _).symm.trans H;rw [hy263];with_reducible exact H2_) | (have H2_:=(Option.bind_some _ _).symm.trans H;with_reducible exact H2_) | with_reducible exact H | (rw [hy263];exact H) | exact H
 have Ny263:=zz31 hy263
 clear hy263
 have H':=zz31 H
 clear H
 go_enter Try.func81,Try.ntmps81
 go_wp2_with (first | ((with_reducible refine gate_dst (N:=5) rfl ?_);refine Kd.R_lit (Kd.int .i64) _ 3 ?hg (N:=5) ?hd (xs:=([]:List Int)) (inner:=[]) (ok:=fun _=>True) (okp:=fun _=>True) ?hr ?hp (fun _ hk=>hk) trivial (Below.refl _ _) (Nat.le_refl _) (by simp) ?_;(case hd=>rfl);(case hg=>rfl);(case hr=>first | (go_simp;done) | (go_simp;rfl));(case hp=>exact (Reps.none _ _));intro v264 w2 ho3 hb hg_ hnew_;clear hg_ hnew_;(first | rw [← Ny263.out] at ho3 | (simp only [Int.reduceToNat] at ho3;rw [← Ny263.out] at ho3));have n0_:=zz31 (Kd.R_lower ho3 (zz5 (by repeat first | exact HB.out | apply zz2 | apply zz0 | apply zz1)));have n1_:=zz31 (zz4 (by repeat first | exact HB.out | apply zz2 | apply zz0 | apply zz1) hb);clear HB;have HO265:=n0_;have HB:=n1_;clear n0_ n1_;clear hb ho3))
 go_loopg [3,7] k (fun kq v3 v7 w'=>∃ (x3_1:List Int) (x7_1:Int),v7=.int .i64 x7_1∧Aside0 (impl_upTo.l0 kq x3_1 a0 x7_1=some r)∧Aside0 (kq≤k)∧Aside0 (Kd.R (Kd.int .i64) 3 w' w.heap.size (fun _=>True) v3 x3_1)∧Aside0 (Below w.heap.size w w'))
 case atStart=>exact ⟨(y263),(0),(by first | rfl | (simp;done) | (simp [*];done)),H',⟨Nat.le_refl _⟩,⟨by (with_reducible repeat (first | apply zz12 | apply zz13 | apply zz14));exact HO265.out⟩,⟨by repeat first | exact HB.out | apply zz2 | apply zz0 | apply zz1⟩⟩
 case round =>
  clear H'
  try clear p2
  obtain ⟨x3_1,x7_1,rfl,HA,HK1,HO_3,HB⟩:=hrel
  cases gk with
  | zero=>exact absurd HA.out (by simp [impl_upTo.l0])
  | succ k1 =>
   have H:=HA.out
   clear HA
   simp only [impl_upTo.l0] at H
   by_cases c4:x7_1 < a0
   ·rw [if_pos c4] at H
    have c4b0:decide (x7_1 < a0)=true:=decide_eq_true c4
    clear c4
    by_cases c5:x3_1.length < 17592186044416
    ·rw [if_pos c5] at H
     have LMc5:=zz31 c5
     clear c5
     obtain ⟨y266,hy266⟩:∃ y_:List Int,y_=(x3_1 ++ [x7_1]):=⟨_,rfl⟩
     replace H:(impl_upTo.l0 k1 y266 a0 (wrap64 (x7_1+1)))=some r:=by first | (rw [hy266];with_reducible exact H) | (have H2_:=(Option.bind_some _ _).symm.trans H;rw [hy266];with_reducible exact H2_) | (have H2_:=(Option.bind_some _ _).symm.trans H;with_reducible exact H2_) | with_reducible exact H | (rw [hy266];exact H) | exact H
     have Ny266:=zz31 hy266
     clear hy266
     have H':=zz31 H
     clear H
     go_wp2_with (first | ((with_reducible refine gate_builtin (b:=.append) (xs:=#[.tmp 10,.tmp 12]) rfl ?_);at_builtin;refine Kd.R_append (Kd.int .i64) (w0:=w) w.heap.size rfl (.tmp 10) (.tmp 12) 22 3 (.int .i64 0) 8 rfl Try.underlying22 info3 rfl (by decide) (by omega) u3 x3_1 x7_1 [.int .i64 x7_1] (fun _=>True) (fun _=>False) rfl rfl ?aP (fun _ hk=>hk.elim) ?aF ?aO ?aB ?aS ?aL ?_;(case aP=>exact rfl);(case aB=>exact (by repeat first | exact HB.out | apply zz2 | apply zz0 | apply zz1));(case aF=>exact (fun _ _=>trivial));(case aO=>exact (by (with_reducible repeat (first | apply zz12 | apply zz13 | apply zz14));exact HO_3.out));(case aS=>exact (zz5 (by repeat first | exact HB.out | apply zz2 | apply zz0 | apply zz1)));(case aL=>have:=LMc5.out;omega);intro v267 w6 ho hb hg hat;rw [← Ny266.out] at ho;have n0_:=zz31 (hb);have n1_:=zz31 (ho);clear HB;clear HO_3;have HB:=n0_;have HO268:=n1_;clear n0_ n1_;clear ho hb hg hat))
     go_roundg k1
     case measure=>have:=HK1.out;omega
     case rel=>exact ⟨(y266),(wrap64 (x7_1+1)),(by first | rfl | (simp;done) | (simp [*];done)),H',⟨by have:=HK1.out;omega⟩,⟨by (with_reducible repeat (first | apply zz12 | apply zz13 | apply zz14));exact HO268.out⟩,⟨by repeat first | exact HB.out | apply zz2 | apply zz0 | apply zz1⟩⟩
    ·rw [if_neg c5] at H
     exact absurd H (by simp)
   ·rw [if_neg c4] at H
    have c4b0:decide (x7_1 < a0)=false:=decide_eq_false c4
    clear c4
    obtain rfl:=Option.some.inj H
    go_wp2
    go_ret
    exact ⟨_,by first | rfl | (simp [errW_none,errW_some] <;> rfl) | (simp [*,errW_none,errW_some] <;> rfl),by (with_reducible repeat (first | apply zz12 | apply zz13 | apply zz14));exact HO_3.out,by repeat first | exact HB.out | apply zz2 | apply zz0 | apply zz1⟩

-- NOT PRINTED: function 103 (slices_insertionSortCmpFunc_int)

-- NOT PRINTED: function 120 (slices_swapRangeCmpFunc_int)

-- NOT PRINTED: function 108 (slices_rotateCmpFunc_int)

-- NOT PRINTED: function 104 (slices_symMergeCmpFunc_int)

-- NOT PRINTED: function 97 (slices_stableCmpFunc_int)

-- NOT PRINTED: function 82 (slices_SortStableFunc_int_int)

-- NOT PRINTED: function 83 (impl_PartyOfNumbers_1)

/-! ### impl_PartyOfNumbers: function 45 (a contract of our own) -/
def insLaysRen:Go.Shelf.Ren:=⟨fun | 20=>103 | n=>n,fun | 24=>3 | 22=>22 | 3=>3 | 25=>71 | 4=>4 | 0=>0 | n=>n,fun | n=>n⟩
theorem insLays:Go.Proofs.SlLaysF.n20 Try.prog insLaysRen:={
 mixed:=by kernel_rfl
 f20:=⟨Try.f103.name,by decide,Try.func103.trans (congrArg some (by kernel_rfl))⟩
 t0:=Try.underlying0
 a0:=Try.isAgg0
 z0:=Try.sizeOf0
 v0:=Try.zeroValue0
 t3:=Try.underlying3
 a3:=Try.isAgg3
 z3:=Try.sizeOf3
 v3:=Try.zeroValue3
 t4:=Try.underlying4
 a4:=Try.isAgg4
 z4:=Try.sizeOf4
 v4:=Try.zeroValue4
 t22:=Try.underlying22
 a22:=Try.isAgg22
 z22:=Try.sizeOf22
 v22:=Try.zeroValue22
 a24:=Try.isAgg3
 z24:=Try.sizeOf3
 t25:=Try.underlying71
 a25:=Try.isAgg71
 z25:=Try.sizeOf71
 v25:=Try.zeroValue71 }
def cfP (L:List Int) (x y:Int):Int:=if rd L x=rd L y then x - y else rd L y - rd L x
def leP (L:List Int) (x y:Int):Bool:=!decide (cfP L y x < 0)
def sortP (L rest:List Int):List Int:=rest.mergeSort (leP L)
theorem drewN2 (W:World) (a b:Nat):∃ q,(W.drewN a).drewN b=W.drewN q:=⟨a+b,by rw [World.drewN_drewN]⟩
set_option maxHeartbeats 2000000 in
theorem pon_cmp (W:World) (gx gl cl:Nat) (L:List Int) (x y:Nat) (hx:x < L.length) (hy:y < L.length) (hn:L.length≤12) (hL:∀ i:Nat,i < L.length→0≤rd L (i:Int)∧rd L (i:Int)≤100)
  (h1:W.cell? ⟨gx,0,none⟩=some (.slice (some ⟨gl,0,none⟩) L.length cl)) (h2:∀ i:Nat,i < L.length→W.cell? ⟨gl,i,none⟩=some (.int .i64 (rd L (i:Int)))) :
  Calls Try.prog 83 (#[.int .i64 (x:Int),.int .i64 (y:Int)] ++ #[.pointer (some ⟨gx,0,none⟩)]) W fun e w'=>e=.returned (.int .i64 (cfP L x y))∧∃ q,w'=W.drewN q:=by
 show Calls Try.prog 83 #[.int .i64 (x:Int),.int .i64 (y:Int),.pointer (some ⟨gx,0,none⟩)] W _
 have hx1:=h2 x hx
 have hy1:=h2 y hy
 have bx:=hL x hx
 have by_:=hL y hy
 obtain ⟨a,ha⟩:∃ a,a=rd L (x:Int):=⟨_,rfl⟩
 obtain ⟨b,hb⟩:∃ b,b=rd L (y:Int):=⟨_,rfl⟩
 have hcf:cfP L x y=if a=b then (x:Int) - (y:Int) else b - a:=by rw [ha,hb];rfl
 rw [hcf]
 rw [← ha] at hx1 bx
 rw [← hb] at hy1 by_
 have hxz:(x:Int) < (L.length:Int):=by omega
 have hyz:(y:Int) < (L.length:Int):=by omega
 have w1:IntKind.i64.wrap (b - a)=b - a:=by rw [IntKind.wrap_i64];omega
 have w2:IntKind.i64.wrap ((x:Int) - (y:Int))=(x:Int) - (y:Int):=by rw [IntKind.wrap_i64];omega
 clear h2 hL ha hb hcf
 by_cases e:a=b
 ·subst e
  rw [if_pos rfl]
  have hne:(a != a)=false:=by simp
  go_enter Try.func83,Try.ntmps83
  go_wp2
  go_quiet (fail)
  go_wp2
  go_ret
  exact ⟨rfl,_,rfl⟩
 ·rw [if_neg e]
  have hne:(a != b)=true:=bne_iff_ne.2 e
  go_enter Try.func83,Try.ntmps83
  go_wp2
  go_quiet (fail)
  go_wp2
  go_quiet (fail)
  go_wp2
  go_ret
  exact ⟨rfl,drewN2 _ _ _⟩
def encF {n:Nat} (i:Fin n):Value:=.int .i64 (i.val:Int)
def cfF (n:Nat) (L:List Int) (x y:Fin n):Int:=cfP L (x.val:Int) (y.val:Int)
theorem cfP_lt (L:List Int) (x y:Int):cfP L x y < 0 ↔ (rd L x=rd L y∧x < y) ∨ rd L y < rd L x:=by
 unfold cfP
 split <;> omega
theorem swoF (n:Nat) (L:List Int):Go.Sort.SWO (ltOf (cfF n L)):=by
 have key:∀ x y:Fin n,ltOf (cfF n L) x y=true ↔ (rd L (x.val:Int)=rd L (y.val:Int)∧x.val < y.val) ∨ rd L (y.val:Int) < rd L (x.val:Int):=fun x y=>by
  unfold ltOf cfF
  rw [decide_eq_true_eq,cfP_lt]
  omega
 have key2:∀ x y:Fin n,ltOf (cfF n L) x y=false ↔ ¬ ((rd L (x.val:Int)=rd L (y.val:Int)∧x.val < y.val) ∨ rd L (y.val:Int) < rd L (x.val:Int)):=fun x y=>by
  rw [← key,Bool.not_eq_true]
 refine ⟨fun x=>?_,fun x y z h1 h2=>?_,fun x y z h1 h2=>?_⟩
 ·rw [key2];omega
 ·rw [key] at *;omega
 ·rw [key2] at *;omega
theorem totF (n:Nat) (L:List Int) (x y:Fin n) (h1:ltOf (cfF n L) x y=false) (h2:ltOf (cfF n L) y x=false):x=y:=by
 unfold ltOf cfF at *
 rw [decide_eq_false_iff_not,cfP_lt] at *
 exact Fin.ext (by omega)
theorem grownBy_row {α:Type} [Inhabited α] (enc:α→Value) {w:World} {g o n:Nat} {os:Array Obj} (d:Array α):w.grownBy (Go.Sort.grow (Go.Sort.putRow enc (Go.Sort.ahead w n) g o d) os) (some g):=by
 refine ⟨rfl,rfl,rfl,by simp,fun k hk hne=>?_⟩
 rw [Go.Sort.heap_grow_old _ _ (by simpa using hk)]
 have:g ≠ k:=fun e=>hne (by rw [e])
 simp [Go.Sort.putRow,Go.Sort.mapBlock,Go.Sort.ahead,Array.getElem?_modify,this]
theorem heap_row {α:Type} [Inhabited α] (enc:α→Value) {w:World} {g o n:Nat} {os:Array Obj} {cur:Array Value} {e:TypeId} {fr:Nat × Nat} (d:Array α) (hb:w.heap[g]?=some (.cells cur e fr)) :
  ∃ cells,(Go.Sort.grow (Go.Sort.putRow enc (Go.Sort.ahead w n) g o d) os).heap[g]?=some (.cells cells e fr):=by
 have hg:g < w.heap.size:=(Array.getElem?_eq_some_iff.1 hb).1
 refine ⟨Go.Sort.putCells enc o d cur,?_⟩
 rw [Go.Sort.heap_grow_old _ _ (by simpa using hg)]
 simp [Go.Sort.putRow,Go.Sort.mapBlock,Go.Sort.ahead,Array.getElem?_modify,hb,Go.Sort.onCells]
theorem holdsF {n:Nat} [Inhabited (Fin n)] {w:World} {g o:Nat} (ds:List (Fin n)) (zs:List Int) (hz:ds.map (fun i=>(i.val:Int))=zs):Go.Sort.Holds encF w g o ds.toArray ↔ Go.Sort.Holds (Value.int .i64) w g o zs.toArray:=by
 have hl:zs.length=ds.length:=by rw [← hz,List.length_map]
 have key:∀ j,j < ds.length→encF (ds.toArray[j]!)=Value.int .i64 (zs.toArray[j]!):=fun j hj=>by
  rw [getElem!_pos ds.toArray j (by simpa using hj),getElem!_pos zs.toArray j (by simp;omega)]
  simp only [List.getElem_toArray]
  subst hz
  simp [encF]
 unfold Go.Sort.Holds
 simp only [List.size_toArray,hl]
 constructor
 ·intro h j hj
  rw [← key j hj];exact h j hj
 ·intro h j hj
  rw [key j hj];exact h j hj
set_option maxHeartbeats 4000000 in
set_option maxRecDepth 100000 in
theorem stable_ints (w:World) (gx gl cl gr o cap:Nat) (L rest:List Int) (hr:∀ x ∈ rest,0≤x∧x < (L.length:Int)) (hn:L.length≤12) (hn0:0 < L.length) (hlen:rest.length≤12) (hL:∀ i:Nat,i < L.length→0≤rd L (i:Int)∧rd L (i:Int)≤100)
  (hH:Go.Sort.Holds (Value.int .i64) w gr o rest.toArray) (hgr:∃ cells,w.heap[gr]?=some (.cells cells 3 (0,0))) (h1:w.cell? ⟨gx,0,none⟩=some (.slice (some ⟨gl,0,none⟩) L.length cl)) (h2:∀ i:Nat,i < L.length→w.cell? ⟨gl,i,none⟩=some (.int .i64 (rd L (i:Int)))) (hne1:gx ≠ gr) (hne2:gl ≠ gr) :
  Calls Try.prog 82 #[.slice (some ⟨gr,o,none⟩) rest.length cap,.func (.func 83) #[] #[.pointer (some ⟨gx,0,none⟩)]] w fun e w'=>e=.returned (.tuple #[])∧w.grownBy w' (some gr)∧Go.Sort.Holds (Value.int .i64) w' gr o (sortP L rest).toArray∧∃ cells,w'.heap[gr]?=some (.cells cells 3 (0,0)):=by
 haveI:Inhabited (Fin L.length):=⟨⟨0,hn0⟩⟩
 obtain ⟨cells,hcells⟩:=hgr
 have hblk:gr < w.heap.size:=(Array.getElem?_eq_some_iff.1 hcells).1
 have hxb:gx < w.heap.size:=World.block_lt_of_cell? w _ h1
 obtain ⟨ds,hds⟩:∃ ds:List (Fin L.length),ds.map (fun i=>(i.val:Int))=rest:=by
  refine ⟨rest.map fun x=>if h:x.toNat < L.length then ⟨x.toNat,h⟩ else ⟨0,hn0⟩,?_⟩
  rw [List.map_map]
  refine (List.map_congr_left fun x hx=>?_).trans (List.map_id rest)
  have:=hr x hx
  simp only [Function.comp,dif_pos (show x.toNat < L.length by omega)]
  show ((x.toNat:Nat):Int)=x
  omega
 have hdl:ds.length=rest.length:=by rw [← hds,List.length_map]
 have eg:∀ args w,(callFunc 83 args).run Try.prog w=.ok (.enter 83 args) w:=enters_of Try.func83 (by kernel_rfl) rfl
 have hHF:Go.Sort.Holds encF w gr o ds.toArray:=(holdsF ds rest hds).2 hH
 have hcmp:CmpReads Try.prog 83 #[.pointer (some ⟨gx,0,none⟩)] encF (cfF L.length L) gr o ds.toArray.size w:=fun m os dk hs x y=>by
  refine pon_cmp _ gx gl cl L x.val y.val x.isLt y.isLt hn hL ?_ (fun i hi=>?_)
  ·rw [show sortWorld encF w gr o m dk os=Go.Sort.grow (Go.Sort.putRow encF (Go.Sort.ahead w m) gr o dk) os from rfl,Go.Sort.cell?_grow _ _ _ (by simpa using hxb),Go.Sort.cell?_putRow_other _ _ _ _ _ _ (.inl hne1)]
   exact h1
  ·have hc:=h2 i hi
   have hb:gl < w.heap.size:=World.block_lt_of_cell? w _ hc
   rw [show sortWorld encF w gr o m dk os=Go.Sort.grow (Go.Sort.putRow encF (Go.Sort.ahead w m) gr o dk) os from rfl,Go.Sort.cell?_grow _ _ _ (by simpa using hb),Go.Sort.cell?_putRow_other _ _ _ _ _ _ (.inl hne2)]
   exact hc
 have hins:Calls Try.prog 103 #[.slice (some ⟨gr,o,none⟩) rest.length cap,.int .i64 0,.int .i64 (rest.length:Int),.func (.func 83) #[] #[.pointer (some ⟨gx,0,none⟩)]] w fun e w'=>e=.returned (.tuple #[])∧w.grownBy w' (some gr)∧Go.Sort.Holds (Value.int .i64) w' gr o (sortP L rest).toArray∧∃ cells,w'.heap[gr]?=some (.cells cells 3 (0,0)):=by
  have h:=Any.insertionSortCmpFunc_s insLays encF (cfF L.length L) 83 #[.pointer (some ⟨gx,0,none⟩)] gr o cap 0 ds.toArray.size ds.toArray ds.toArray w w eg hcmp.lays ⟨fun _=>rfl,hHF,hblk⟩ rfl (SW.start hHF) (Nat.zero_le _) (Nat.le_refl _) (by simp;omega)
  have e1:(ds.toArray.size:Nat)=rest.length:=by simp [hdl]
  rw [e1] at h
  refine h.mono fun e w' ⟨he,hsw⟩=>⟨he,?_⟩
  obtain ⟨hp,hs⟩:=Go.Sort.insertionSort_holds (lt:=ltOf (cfF L.length L)) (swoF L.length L) ds.toArray 0 rest.length (Nat.zero_le _) (by simp [hdl])
  obtain ⟨m,os,rfl⟩:=hsw
  have hu:=Go.Sort.sorted_unique_holds (lt:=ltOf (cfF L.length L)) (swoF L.length L) (totF L.length L) ds.toArray _ (by rw [e1];exact hp) (by rw [e1];exact hs)
  have hu2:Go.Sort.insertionSort (ltOf (cfF L.length L)) ds.toArray 0 rest.length=(ds.mergeSort fun x y=>!(ltOf (cfF L.length L)) y x).toArray:=by
   rw [← Array.toArray_toList (xs:=Go.Sort.insertionSort (ltOf (cfF L.length L)) ds.toArray 0 rest.length),hu]
  rw [hu2]
  unfold sortWorld
  refine ⟨grownBy_row _ _,?_,heap_row _ _ hcells⟩
  have hm:(ds.mergeSort fun x y=>!(ltOf (cfF L.length L)) y x).map (fun i=>(i.val:Int))=sortP L rest:=by
   unfold sortP
   rw [← hds]
   exact List.map_mergeSort fun a _ b _=>rfl
  refine (holdsF _ _ hm).1 ?_
  refine Go.Sort.holds_grow _ _ _ _ _ _ (by simpa using hblk) ?_
  exact Go.Sort.holds_putRow _ _ _ _ ds.toArray _ hHF (by simp)
 have hn20:¬ (20:Int)≤(rest.length:Int):=by omega
 have hn21:¬ (20:Int) < (rest.length:Int):=by omega
 have HI:=zz31 hins
 clear hins hcmp hHF eg h1 h2 hL hr hds hH hcells
 have hst:Calls Try.prog 97 #[.slice (some ⟨gr,o,none⟩) rest.length cap,.int .i64 (rest.length:Int),.func (.func 83) #[] #[.pointer (some ⟨gx,0,none⟩)]] w fun e w'=>e=.returned (.tuple #[])∧w.grownBy w' (some gr)∧Go.Sort.Holds (Value.int .i64) w' gr o (sortP L rest).toArray∧∃ cells,w'.heap[gr]?=some (.cells cells 3 (0,0)):=by
  go_enter Try.func97,Try.ntmps97
  go_wp2
  refine wp_loop_rounds 1 ?_
  rw [rounds_succ]
  go_wp2_with (first | (go_at_call 103; refine HI.out.mono ?_; rintro e w1 ⟨rfl, hq⟩; have HQ := zz31 hq; clear hq) | (fail "no arm"))
  refine wp_loop_rounds 1 ?_
  rw [rounds_succ]
  go_wp2
  go_end0
  exact ⟨rfl,HQ.out⟩
 have HS:=zz31 hst
 clear hst HI
 go_enter Try.func82,Try.ntmps82
 go_wp2_with (first | (go_at_call 97; refine HS.out.mono ?_; rintro e w1 ⟨rfl, hq⟩; have HQ := zz31 hq; clear hq) | (fail "no arm"))
 go_end0
 exact ⟨rfl,HQ.out⟩
def decP (L:List Int) (a:Int):List Int:=L.set a.toNat (wrap64 (rd L a - 1))
def inP (a:Int):List Int→List Int→List Int→Option (List Int × List Int)
 | [],t,L=>some (t,L)
 | b :: bs,t,L=>(impl_table_put.f t a b).bind fun t'=>inP a bs t' (decP L b)
def okL (L:List Int):Bool:=L.all fun x=>decide (0≤x) && decide (x≤100)
def okR (n:Nat) (rest:List Int):Bool:=rest.all fun x=>decide (0≤x) && decide (x < (n:Int))
def outP:Nat→List Int→List Int→List Int→Option (List Int)
 | 0,_,t,_=>some t
 | d+1,rest,t,L=>if (okL L && okR L.length rest)=true then match sortP L rest with
   | []=>none
   | a :: rs=>if rd L a≤(rs.length:Int) then (inP a (rs.take (rd L a).toNat) t L).bind fun s=>outP d rs s.1 s.2 else none
  else none
def impl_PartyOfNumbers.f (k:Nat) (l0:List Int):Option (Int × List (S80) × Bool) :=
 (impl_CanBe.f k l0).bind fun r=>if r.1=true then (if l0.length≤12 then (impl_upTo.f k (l0.length:Int)).bind fun rest=>if rest.length=l0.length then (outP l0.length rest (List.replicate l0.length 0) l0).bind fun t=>(impl_table_party.f k t).bind fun p=>some (p.1,p.2,true) else none else none) else some (0,[],false)
theorem impl_PartyOfNumbers.mono:∀ a0 k,LeO (impl_PartyOfNumbers.f k a0) (impl_PartyOfNumbers.f (k+1) a0):=by
 intro a0 k
 unfold impl_PartyOfNumbers.f
 exact LeO.bind (impl_CanBe.mono _ _) fun r=>LeO.ite (LeO.ite (LeO.bind (impl_upTo.mono _ _) fun rest=>LeO.ite (LeO.bind (LeO.refl _) fun t=>LeO.bind (impl_table_party.mono _ _) fun p=>LeO.refl _) (LeO.refl _)) (LeO.refl _)) (LeO.refl _)
/-- What the loops keep: the result's box, the box of the numbers left, the table, the numbers left. -/
structure StP (w wr : World) (bo gx : Nat) (At : Option Addr) (ct : Nat) (Al : Option Addr) (cl : Nat) (t L : List Int) : Prop where
 box:wr.heap[bo]?=some (.cells #[.int .i64 0,.slice none 0 0] 32 (0,0))
 bx:wr.heap[gx]?=some (.cells #[.slice Al L.length cl] 22 (0,0))
 tab:Kd.R (Kd.int .u16) 77 wr w.heap.size (fun _=>True) (.slice At t.length ct) t
 left:Kd.R (Kd.int .i64) 3 wr w.heap.size (fun _=>True) (.slice Al L.length cl) L
 bel:Below w.heap.size w wr
 hbo:w.heap.size≤bo
 hgx:w.heap.size≤gx
/-- The people left, in their own row, which is not that of the numbers left. -/
def RsP (w wr:World) (Al Ar:Option Addr) (rest:List Int):Prop:=rest=[] ∨ ∃ gr o,Ar=some ⟨gr,o,none⟩∧Go.Sort.Holds (Value.int .i64) wr gr o rest.toArray∧(∃ cells,wr.heap[gr]?=some (.cells cells 3 (0,0)))∧w.heap.size≤gr∧(∀ p,Al=some p→p.block ≠ gr)
theorem holds_same {w w':World} {g o:Nat} {d:Array Int} (h:Go.Sort.Holds (Value.int .i64) w g o d) (e:w'.heap[g]?=w.heap[g]?):Go.Sort.Holds (Value.int .i64) w' g o d:=fun j hj=>by
 have:=h j hj
 unfold World.cell? World.frozen? at *
 simp only [e]
 exact this
theorem RsP.same {w wr wr':World} {Al Ar:Option Addr} {rest:List Int} (h:RsP w wr Al Ar rest) (e:∀ g cells,wr.heap[g]?=some (.cells cells 3 (0,0))→w.heap.size≤g→(∀ p,Al=some p→p.block ≠ g)→wr'.heap[g]?=wr.heap[g]?):RsP w wr' Al Ar rest:=by
 rcases h with h | ⟨gr,o,h1,h2,⟨cells,h3⟩,h4,h5⟩
 ·exact .inl h
 ·have:=e gr cells h3 h4 h5
  exact .inr ⟨gr,o,h1,holds_same h2 this,⟨cells,this.trans h3⟩,h4,h5⟩
theorem RsP.below {w wr wr':World} {Al Ar:Option Addr} {rest:List Int} (h:RsP w wr Al Ar rest) (hb:Below wr.heap.size wr wr'):RsP w wr' Al Ar rest:=h.same fun g cells hg _ _=>hb.block g (blk_lt hg)
theorem StP.below {w wr wr':World} {bo gx ct cl:Nat} {At Al:Option Addr} {t L:List Int} (h:StP w wr bo gx At ct Al cl t L) (hb:Below wr.heap.size wr wr'):StP w wr' bo gx At ct Al cl t L :=
 ⟨zz11 h.box hb,zz11 h.bx hb,Kd.R_below h.tab hb,Kd.R_below h.left hb,zz4 h.bel hb,h.hbo,h.hgx⟩
theorem typed_of {e:Nat} {w:World} {base:Nat} {ok:Nat→Prop} {v:Value} {xs:List Int} {k:IntKind} (h:Kd.R (Kd.int k) e w base ok v xs):Kd.R (Kd.int k) e w base (fun k=>∃ cells,w.heap[k]?=some (.cells cells e (0,0))) v xs :=
 Kd.R_mono (Kd.R_bound h) (fun k hk=>by
  obtain ⟨_,_,_,q,hq,hc⟩:=hk
  have:q=e:=by rcases List.mem_cons.1 hq with h | h;exact h;exact absurd h (by simp [Kd.int,Kd.scalar])
  rw [← this];exact hc)
/-- Behind the sort: only the row of the people left has changed. -/
theorem StP.sorted {w wr w':World} {bo gx ct cl gr:Nat} {At Al:Option Addr} {t L:List Int} (h:StP w wr bo gx At ct Al cl t L) (hg:wr.grownBy w' (some gr)) (hgr:∃ cells,wr.heap[gr]?=some (.cells cells 3 (0,0))) (hb:w.heap.size≤gr) (hne:∀ p,Al=some p→p.block ≠ gr):StP w w' bo gx At ct Al cl t L:=by
 obtain ⟨cells,hc⟩:=hgr
 refine ⟨blk_grown h.box hg (by intro e;injection e with e;exact blk_ne h.box hc (by decide) e),blk_grown h.bx hg (by intro e;injection e with e;exact blk_ne h.bx hc (by decide) e),Kd.R_mono (Kd.R_grown (typed_of h.tab) hg (fun k hk e=>?_)) (fun _ _=>trivial),Kd.R_mono (Kd.R_grown (Kd.R_tight rfl h.left) hg (fun k hk e=>?_)) (fun _ _=>trivial),h.bel.grown hg h.bel.size (fun j hj=>by injection hj with hj;rw [← hj];exact hb),h.hbo,h.hgx⟩
 ·injection e with e
  obtain ⟨c2,hk⟩:=hk
  exact blk_ne hk hc (by decide) e
 ·injection e with e
  cases Al with
  | none=>simp [Value.ownBlock] at hk
  | some p =>
   have h2:=hne p rfl
   have h3:k=p.block:=by
    rw [e] at hk
    obtain ⟨b,o,s⟩:=p
    cases s <;> cases o <;> simp_all [Value.ownBlock]
   exact h2 (h3.symm.trans e)
theorem StP.put {w wr:World} {bo gx ct cl:Nat} {At Al:Option Addr} {t L:List Int} (h:StP w wr bo gx At ct Al cl t L) (a b:Int) (t':List Int) (hp:impl_table_put.f t a b=some t') (htl:t'.length=t.length) :
  Calls Try.prog 69 #[.slice At t.length ct,.int .i64 a,.int .i64 b] wr fun e w'=>e=.returned (.tuple #[])∧StP w w' bo gx At ct Al cl t' L∧∀ Ar rest,RsP w wr Al Ar rest→RsP w w' Al Ar rest:=by
 refine (impl_table_put.calls (fun k=>∃ cells,wr.heap[k]?=some (.cells cells 77 (0,0))) (.slice At t.length ct) t a b t' w wr h.bel (typed_of h.tab) hp).mono ?_
 rintro e w' ⟨g1,g2,g3,g4⟩
 refine ⟨g1,⟨blk_kept h.box g4 (fun ⟨c,hk⟩=>blk_ne h.box hk (by decide) rfl),blk_kept h.bx g4 (fun ⟨c,hk⟩=>blk_ne h.bx hk (by decide) rfl),Kd.R_mono (by rw [htl];exact g2) (fun _ _=>trivial),Kd.R_mono (Kd.R_kept (typed_of h.left) g4 (fun k ⟨c,hk⟩ ⟨c2,hk2⟩=>blk_ne hk hk2 (by decide) rfl)) (fun _ _=>trivial),g3,h.hbo,h.hgx⟩,fun Ar rest hr=>hr.same fun g cells hg _ _=>g4.2 g (blk_lt hg) (fun ⟨c,hk⟩=>blk_ne hg hk (by decide) rfl)⟩
theorem StP.typed {w wr:World} {bo gx ct cl gl:Nat} {At:Option Addr} {t L:List Int} (h:StP w wr bo gx At ct (some ⟨gl,0,none⟩) cl t L) (h0:0 < L.length):w.heap.size≤gl∧∃ cells,wr.heap[gl]?=some (.cells cells 3 (0,0)):=by
 obtain ⟨g,cap,e,h1,h2,h3⟩:=Kd.R_form h.left h0
 injection e with e1 _ _
 injection e1 with e1
 injection e1 with e1
 rw [e1]
 exact ⟨h1,h3⟩
theorem StP.dec {w wr:World} {bo gx ct cl gl:Nat} {At:Option Addr} {t L:List Int} (h:StP w wr bo gx At ct (some ⟨gl,0,none⟩) cl t L) (h0:0 < L.length) (b x:Int):StP w (wr.setCell ⟨gl,b.toNat,none⟩ (.int .i64 x)) bo gx At ct (some ⟨gl,0,none⟩) cl t (L.set b.toNat x):=by
 obtain ⟨hb,cells,hc⟩:=h.typed h0
 refine ⟨blk_far h.box (p:=⟨gl,b.toNat,none⟩) (blk_ne h.box hc (by decide)) _,?_,Kd.R_mono (Kd.R_far (typed_of h.tab) (fun k ⟨c,hk⟩=>blk_ne hk hc (by decide)) _) (fun _ _=>trivial),?_,zz3 h.bel hb,h.hbo,h.hgx⟩
 ·rw [List.length_set];exact blk_far h.bx (p:=⟨gl,b.toNat,none⟩) (blk_ne h.bx hc (by decide)) _
 ·rw [List.length_set];exact Kd.R_putn h.left b x
theorem RsP.dec {w wr:World} {gl:Nat} {Ar:Option Addr} {rest:List Int} (h:RsP w wr (some ⟨gl,0,none⟩) Ar rest) (i:Nat) (u:Value):RsP w (wr.setCell ⟨gl,i,none⟩ u) (some ⟨gl,0,none⟩) Ar rest:=h.same fun g cells hg _ hne=>Below.heap_setCell wr ⟨gl,i,none⟩ u g (fun e=>hne _ rfl e.symm)
theorem repl_at (W:World) (n g:Nat) (hn:n≤100) (hg:g=W.heap.size):Kd.R (Kd.int .u16) 77 (W.alloc (.cells (madeCells #[.int .u16 0] n) 77)) W.heap.size (fun _=>True) (.slice (some ⟨g,0,none⟩) n n) (List.replicate n (0:Int)):=by
 subst hg
 exact Kd.R_of_own (enc:=Value.int .u16) (h1:=fun _=>rfl) (own_made_of' (enc:=Value.int .u16) (d:=(0:Int)) W W.heap.size 77 n (Nat.le_refl _) (by omega)) (fun b hb=>trivial)
theorem blk_newg (W:World) (o:Obj) (g:Nat) (hg:g=W.heap.size):(W.alloc o).heap[g]?=some o:=by subst hg;exact blk_new W o
theorem size_alP (W:World) (o:Obj):(W.alloc o).heap.size=W.heap.size+1:=by simp
theorem blk_nw2 (W:World) (p o:Obj):((W.alloc p).alloc o).heap[W.heap.size+1]?=some o:=by
 have h:=blk_new (W.alloc p) o
 rw [show (W.alloc p).heap.size=W.heap.size+1 from by simp] at h
 exact h
theorem blk_setg {W:World} {g:Nat} {t:TypeId} (h:W.heap[g]?=some (.cells #[.slice none 0 0] t (0,0))) (u:Value):(W.setCell ⟨g,0,none⟩ u).heap[g]?=some (.cells #[u] t (0,0)):=blk_set h 0 u
theorem blk_farT {W:World} {g b:Nat} {t t':TypeId} {cs cs':Array Value} {i:Nat} (h:W.heap[g]?=some (.cells cs t (0,0))) (h2:W.heap[b]?=some (.cells cs' t' (0,0))) (hne:t ≠ t') (u:Value):(W.setCell ⟨b,i,none⟩ u).heap[g]?=some (.cells cs t (0,0)):=blk_far h (p:=⟨b,i,none⟩) (blk_ne h h2 hne) u
theorem R_farT {k:IntKind} {e base b i:Nat} {W:World} {v:Value} {xs:List Int} {t':TypeId} {cs':Array Value} (h:Kd.R (Kd.int k) e W base (fun _=>True) v xs) (h2:W.heap[b]?=some (.cells cs' t' (0,0))) (hne:e ≠ t') (u:Value):Kd.R (Kd.int k) e (W.setCell ⟨b,i,none⟩ u) base (fun _=>True) v xs :=
 Kd.R_mono (Kd.R_far (typed_of h) (fun k ⟨c,hk⟩=>blk_ne hk h2 hne) u) (fun _ _=>trivial)
theorem al_lt {w base:World} {b e cl n:Nat} {ok:Nat→Prop} {Al:Option Addr} {l0:List Int} (ho:Kd.R (Kd.int .i64) e w b ok (.slice Al n cl) l0):∀ p,Al=some p→p.block < w.heap.size:=by
 rintro p rfl
 rcases (Kd.own_of_R ho).2 with ⟨h,_⟩ | ⟨gb,cp,cur,h,hbase,hgb,r1,r2,r3,r4⟩
 ·cases h
 ·cases h
  exact blk_lt hgb
theorem StP.start {w wq:World} {bo gx gt cl n:Nat} {Al:Option Addr} {l0:List Int} (hx:wq.heap[bo]?=some (.cells #[.int .i64 0,.slice none 0 0] 32 (0,0))) (hbx:wq.heap[gx]?=some (.cells #[.slice Al l0.length cl] 22 (0,0)))
  (ht:Kd.R (Kd.int .u16) 77 wq w.heap.size (fun _=>True) (.slice (some ⟨gt,0,none⟩) n n) (List.replicate n (0:Int))) (hl:Kd.R (Kd.int .i64) 3 wq w.heap.size (fun _=>True) (.slice Al l0.length cl) l0) (hB:Below w.heap.size w wq) (h1:w.heap.size≤bo) (h2:w.heap.size≤gx):StP w wq bo gx (some ⟨gt,0,none⟩) n Al cl (List.replicate n 0) l0 :=
 ⟨hx,hbx,by rw [List.length_replicate];exact ht,hl,hB,h1,h2⟩
theorem RsP.start {w wq:World} {lim cr:Nat} {Al Ar:Option Addr} {rest:List Int} (hr:Kd.R (Kd.int .i64) 3 wq lim (fun _=>True) (.slice Ar rest.length cr) rest) (hl:∀ p,Al=some p→p.block < lim) (hw:w.heap.size≤lim):RsP w wq Al Ar rest:=by
 rcases Nat.eq_zero_or_pos rest.length with hz | hz
 ·exact .inl (List.eq_nil_of_length_eq_zero hz)
 ·obtain ⟨g,cap,e,h1,h2,h3⟩:=Kd.R_form hr hz
  injection e with e1 e2 e3
  subst e1 e3
  refine .inr ⟨g,0,rfl,fun j hj=>?_,h3,by omega,fun p hp=>by have:=hl p hp;omega⟩
  have hj2:j < rest.length:=by simpa using hj
  obtain ⟨c1,c2⟩:=Kd.R_celln 0 hr (j:Int) (by omega) (by omega)
  rw [Int.toNat_natCast] at c1 c2
  rw [Nat.zero_add]
  refine ⟨?_,c2⟩
  rw [c1,getElem!_pos rest.toArray j (by simpa using hj2)]
  simp [rdOf,List.getD_eq_getElem?_getD,hj2]
theorem holds_at {w:World} {ad:Addr} {gr o:Nat} {xs:List Int} (had:ad=⟨gr,o,none⟩) (h:Go.Sort.Holds (Value.int .i64) w gr o xs.toArray) (j:Nat) (hj:j < xs.length):w.cell? (ad.add j)=some (.int .i64 (rd xs (j:Int))):=by
 have h1:=(h j (by simpa using hj)).1
 rw [had,show (⟨gr,o,none⟩:Addr).add j=⟨gr,o+j,none⟩ from by unfold Addr.add;split <;> simp_all,h1,getElem!_pos xs.toArray j (by simpa using hj)]
 simp [rd,List.getD_eq_getElem?_getD,hj]
theorem tailP {w:World} {ad:Addr} {gr o cr i:Nat} {rest rs:List Int} (had:ad=⟨gr,o,none⟩) (hcr:rest.length≤cr) (hl:rs.length+1=rest.length) (hH:Go.Sort.Holds (Value.int .i64) w gr o ((i:Int) :: rs).toArray) :
  ∃ ad1:Addr,(if cr=1 then some ad else some ({ block:=ad.block,off:=ad.off+1 }:Addr))=some ad1∧(rs=[] ∨ (ad1=⟨gr,o+1,none⟩∧Go.Sort.Holds (Value.int .i64) w gr (o+1) rs.toArray)):=by
 by_cases h:cr=1
 ·exact ⟨ad,by rw [if_pos h],.inl (List.eq_nil_of_length_eq_zero (by omega))⟩
 ·refine ⟨_,by rw [if_neg h],.inr ⟨by rw [had],fun j hj=>?_⟩⟩
  have hj2:j < rs.length:=by simpa using hj
  have h1:=hH (j+1) (by simpa using hj2)
  rw [show o+(j+1)=o+1+j by omega] at h1
  refine ⟨?_,h1.2⟩
  rw [h1.1,getElem!_pos ((i:Int) :: rs).toArray (j+1) (by simpa using hj2),getElem!_pos rs.toArray j hj]
  simp
theorem put_range {t1 t':List Int} {a b:Int} {n:Nat} (h:impl_table_put.f t1 a b=some t') (hn:t1.length=n):0≤b∧b < (n:Int):=by
 unfold impl_table_put.f at h
 by_cases h1:0≤a
 ·rw [if_pos h1] at h
  by_cases h2:a < (t1.length:Int)
  ·rw [if_pos h2] at h
   by_cases h3:0≤b
   ·rw [if_pos h3,Option.bind_some] at h
    by_cases h4:b < (t1.length:Int)
    ·exact ⟨h3,by omega⟩
    ·rw [if_neg h4] at h;simp at h
   ·rw [if_neg h3] at h;simp at h
  ·rw [if_neg h2] at h;simp at h
 ·rw [if_neg h1] at h;simp at h
theorem okL_at {L:List Int} (h:okL L=true):∀ i:Nat,i < L.length→0≤rd L (i:Int)∧rd L (i:Int)≤100:=by
 intro i hi
 have h2:=List.all_eq_true.1 h L[i] (List.getElem_mem _)
 have e:rd L (i:Int)=L[i]:=by simp [rd,List.getD_eq_getElem?_getD,hi]
 rw [Bool.and_eq_true,decide_eq_true_eq,decide_eq_true_eq] at h2
 rw [e];exact h2
theorem okR_at {n:Nat} {rest:List Int} (h:okR n rest=true):∀ x ∈ rest,0≤x∧x < (n:Int):=by
 intro x hx
 have h2:=List.all_eq_true.1 h x hx
 rw [Bool.and_eq_true,decide_eq_true_eq,decide_eq_true_eq] at h2
 exact h2
set_option maxHeartbeats 8000000 in
set_option maxRecDepth 100000 in
theorem impl_PartyOfNumbers.calls (k:Nat) (A0:Option Addr) (c0:Nat) (l0:List Int) (r1:Int) (r2:List (S80)) (r3:Bool) (w:World) (hr0:Kd.C (Kd.int .i64) w A0 l0.length l0) (hc0:l0.length≤c0) (h:impl_PartyOfNumbers.f k l0=some (r1,r2,r3)) :
  Calls Try.prog 45 #[.slice A0 l0.length c0] w fun e w'=>∃ v1_:Value,e=.returned (.tuple #[.agg #[.int .i64 r1,v1_],.bool r3])∧Kd.R k80 80 w' w.heap.size (fun _=>True) v1_ r2∧Below w.heap.size w w':=by
 have hu:=Try.underlying32
 unfold impl_PartyOfNumbers.f at h
 obtain ⟨⟨can,cok⟩,hok,h⟩:=zz30.1 h
 dsimp only at h
 have HOK:=zz31 hok
 have HC:=zz31 hr0
 have HCC:=zz31 hc0
 clear hok hr0 hc0
 cases can with
 | false =>
  simp only [Bool.false_eq_true,if_false,Option.some.injEq,Prod.mk.injEq] at h
  obtain ⟨rfl,rfl,rfl⟩:=h
  go_enter Try.func45,Try.ntmps45
  go_wp2_with (first | ((with_reducible refine gate_dst (N := 2) rfl ?_); refine box_event ?hg (N := 2) ?hd (cs := #[.int .i64 0, .slice none 0 0]) (t := 32) ?hr ?_; (case hd => rfl); (case hg => rfl); (case hr => first | (go_simp; done) | (go_simp; rfl)); intro bo hbo wa hbox hb; have HXa := zz31 hbox; have HBa := zz31 (zz4 (w := w) (by repeat (first | exact Below.refl _ _ | apply zz0 | apply below_drew | apply zz2)) hb); have HBO := zz31 (show w.heap.size ≤ bo from by rw [hbo]; exact Nat.le_refl _); have HCa := zz31 (Kd.C_below HC.out HBa.out); have f1 := zz9 HXa.out 0; have f2 := zz9 HXa.out 1; simp only [List.getElem?_toArray, List.getElem?_cons_zero, List.getElem?_cons_succ] at f1 f2; have f3 := zz10 HXa.out 0; have f4 := zz10 HXa.out 1; clear hbox hb hbo) | (go_at_call 34; (with_reducible refine (impl_CanBe.calls k A0 c0 l0 false cok wa HCa.out HCC.out HOK.out).mono ?_); rintro e wb ⟨rfl, hb⟩; have HBb := zz31 (zz4 HBa.out hb); have HXb := zz31 (zz11 HXa.out hb); have HCb := zz31 (Kd.C_below HCa.out hb); clear hb f1 f2 f3 f4; have f1 := zz9 HXb.out 0; have f2 := zz9 HXb.out 1; simp only [List.getElem?_toArray, List.getElem?_cons_zero, List.getElem?_cons_succ] at f1 f2; have f3 := zz10 HXb.out 0; have f4 := zz10 HXb.out 1) | (fail "no arm"))
  refine bodyPost_ret (results_ct rfl _ _ bo 32 #[.int .i64 0,.slice none 0 0] (0,0) _ rfl (by (with_reducible repeat (first | refine zz6 ?_ _ | refine zz7 ?_));refine blk_put (cs:=#[.int .i64 0,.slice none 0 0]) ?_ 1 _ rfl;refine blk_put (cs:=#[.int .i64 0,.slice none 0 0]) ?_ 0 _ rfl;(with_reducible repeat (first | refine zz6 ?_ _ | refine zz7 ?_));exact HXb.out) Try.underlying32 rfl (by kernel_rfl)) rfl ?_
  exact ⟨_,rfl,Kd.R_nil _ _ _ _ _,by repeat first | exact HBb.out | apply zz0 | apply below_drew | refine zz3 ?_ HBO.out⟩
 | true =>
  rw [if_pos rfl] at h
  by_cases h12:l0.length≤12
  case neg=>rw [if_neg h12] at h;exact absurd h (by simp)
  rw [if_pos h12] at h
  obtain ⟨rest0,hup,h⟩:=zz30.1 h
  by_cases hrl:rest0.length=l0.length
  case neg=>rw [if_neg hrl] at h;exact absurd h (by simp)
  rw [if_pos hrl] at h
  obtain ⟨tF,htF,h⟩:=zz30.1 h
  obtain ⟨⟨p1,p2⟩,hp,h⟩:=zz30.1 h
  simp only [Option.some.injEq,Prod.mk.injEq] at h
  obtain ⟨rfl,rfl,rfl⟩:=h
  have HTF:=zz31 htF
  have HP:=zz31 hp
  have HUP:=zz31 hup
  have HRL:=zz31 hrl
  clear htF hp hup hrl
  have hmk:=print_make (P:=Try.prog) 51 77 .u16 2 Try.underlying51 (by kernel_rfl) (by decide) l0.length (by omega)
  have cC:Aside0 (∀ W1,Below w.heap.size w W1→Calls Try.prog 65 #[.slice A0 l0.length c0] W1 fun e w'=>∃ v,e=.returned v∧Kd.R (Kd.int .i64) 3 w' W1.heap.size (fun _=>True) v l0∧Below W1.heap.size W1 w'):=⟨fun W1 hb=>slices_Clone_int_int.calls A0 c0 l0 l0 W1 (Kd.C_below HC.out hb) HCC.out (by unfold slices_Clone_int_int.f;rw [if_pos (by omega)])⟩
  have cU:Aside0 (∀ W1,Calls Try.prog 81 #[.int .i64 (l0.length:Int)] W1 fun e w'=>∃ v,e=.returned v∧Kd.R (Kd.int .i64) 3 w' W1.heap.size (fun _=>True) v rest0∧Below W1.heap.size W1 w'):=⟨fun W1=>impl_upTo.calls k (l0.length:Int) rest0 W1 HUP.out⟩
  go_enter Try.func45,Try.ntmps45
  go_upto_region 4 with (first | ((with_reducible refine gate_dst (N := 2) rfl ?_); refine box_event ?hg (N := 2) ?hd (cs := #[.int .i64 0, .slice none 0 0]) (t := 32) ?hr ?_; (case hd => rfl); (case hg => rfl); (case hr => first | (go_simp; done) | (go_simp; rfl)); intro bo hbo wa hbox hb; have HXa := zz31 hbox; have HBa := zz31 (zz4 (w := w) (by repeat (first | exact Below.refl _ _ | apply zz0 | apply below_drew | apply zz2)) hb); have HBO := zz31 (show w.heap.size ≤ bo from by rw [hbo]; exact Nat.le_refl _); have HCa := zz31 (Kd.C_below HC.out HBa.out); have f1 := zz9 HXa.out 0; have f2 := zz9 HXa.out 1; simp only [List.getElem?_toArray, List.getElem?_cons_zero, List.getElem?_cons_succ] at f1 f2; have f3 := zz10 HXa.out 0; have f4 := zz10 HXa.out 1; clear hbox hb hbo) | (go_at_call 34; (with_reducible refine (impl_CanBe.calls k A0 c0 l0 true cok wa HCa.out HCC.out HOK.out).mono ?_); rintro e wb ⟨rfl, hb⟩; have HBb := zz31 (zz4 HBa.out hb); have HXb := zz31 (zz11 HXa.out hb); have HCb := zz31 (Kd.C_below HCa.out hb); clear hb f1 f2 f3 f4; have f1 := zz9 HXb.out 0; have f2 := zz9 HXb.out 1; simp only [List.getElem?_toArray, List.getElem?_cons_zero, List.getElem?_cons_succ] at f1 f2; have f3 := zz10 HXb.out 0; have f4 := zz10 HXb.out 1) | (fail "no arm"))
  have HBX:=zz31 HBb.out
  clear f1 f2 f3 f4
  go_cut [6,7,8] from 20 (fun v6 v7 v8 wq=>∃ (At Al Ar:Option Addr) (ct cl cr gx:Nat),v6=.slice At l0.length ct∧v7=.pointer (some ⟨gx,0,none⟩)∧v8=.slice Ar rest0.length cr∧Aside0 (StP w wq bo gx At ct Al cl (List.replicate l0.length 0) l0)∧Aside0 (rest0.length≤cr∧RsP w wq Al Ar rest0))
  case first =>
   go_region_held3 (fun w' => True) (first | go_keep | exact True.intro) (first | (go_at_call 65; refine (cC.out _ (by repeat (first | exact HBX.out | apply zz0 | apply below_drew | apply zz2))).mono ?_; rintro e w3 ⟨v3, rfl, ho, hb⟩; obtain ⟨Al, cl, rfl⟩ := Kd.R_slice ho; have HS3 := zz31 (show wb.heap.size ≤ w3.heap.size from by have h9 := hb.size; first | exact h9 | (simp [World.setCell] at h9; omega)); have HL3 := zz31 (Kd.R_lower ho (show w.heap.size ≤ _ from by (have h8 := HBX.out.size; first | exact h8 | (simp [World.setCell]; omega)))); have HLl := zz31 (al_lt (base := w) ho); have HB3 := zz31 hb; clear ho hb; have k1c := zz9 (blk_nw2 w3 (.cells (madeCells #[.int .u16 0] l0.length) 77) (.cells #[.slice none 0 0] 22)) 0; have k2c := zz10 (blk_nw2 w3 (.cells (madeCells #[.int .u16 0] l0.length) 77) (.cells #[.slice none 0 0] 22)) 0; have k3c := zz9 (zz8 (blk_new w3 (.cells #[.slice none 0 0] 22)) (.cells (madeCells #[.int .u16 0] l0.length) 77)) 0; have k4c := zz10 (zz8 (blk_new w3 (.cells #[.slice none 0 0] 22)) (.cells (madeCells #[.int .u16 0] l0.length) 77)) 0; simp only [List.getElem?_toArray, List.getElem?_cons_zero] at k1c k3c; (first | (have HN := zz31 (zz11 (g := wb.heap.size) (o := (.cells #[.slice none 0 0] 22 (0, 0))) (by (with_reducible repeat (first | refine zz6 ?_ _ | refine zz7 ?_)); first | exact blk_new _ _ | exact blk_nw2 _ _ _ | (refine zz8 ?_ _; (with_reducible repeat (first | refine zz6 ?_ _ | refine zz7 ?_)); first | exact blk_new _ _ | exact blk_nw2 _ _ _)) HB3.out); have g6 := zz9 HN.out 0; have g7 := zz10 HN.out 0; simp only [List.getElem?_toArray, List.getElem?_cons_zero] at g6; have k5n := zz9 (zz8 HN.out (.cells (madeCells #[.int .u16 0] l0.length) 77)) 0; have k6n := zz10 (zz8 HN.out (.cells (madeCells #[.int .u16 0] l0.length) 77)) 0; simp only [List.getElem?_toArray, List.getElem?_cons_zero] at k5n) | (have HN := zz31 (zz11 (g := wb.heap.size + 1) (o := (.cells #[.slice none 0 0] 22 (0, 0))) (by (with_reducible repeat (first | refine zz6 ?_ _ | refine zz7 ?_)); first | exact blk_new _ _ | exact blk_nw2 _ _ _ | (refine zz8 ?_ _; (with_reducible repeat (first | refine zz6 ?_ _ | refine zz7 ?_)); first | exact blk_new _ _ | exact blk_nw2 _ _ _)) HB3.out); have g6 := zz9 HN.out 0; have g7 := zz10 HN.out 0; simp only [List.getElem?_toArray, List.getElem?_cons_zero] at g6; have k5n := zz9 (zz8 HN.out (.cells (madeCells #[.int .u16 0] l0.length) 77)) 0; have k6n := zz10 (zz8 HN.out (.cells (madeCells #[.int .u16 0] l0.length) 77)) 0; simp only [List.getElem?_toArray, List.getElem?_cons_zero] at k5n) | skip)) | (go_at_call 81; refine (cU.out _).mono ?_; rintro e w4 ⟨v4, rfl, ho, hb⟩; obtain ⟨Ar, cr, rfl⟩ := Kd.R_slice ho; have HS4 := zz31 (show w3.heap.size ≤ w4.heap.size from by have h9 := hb.size; first | exact h9 | (simp [World.setCell] at h9; omega)); have HR4 := zz31 (Kd.R_lower ho (show w3.heap.size ≤ _ from by (first | exact Nat.le_refl _ | (simp [World.setCell]; done) | (simp [World.setCell]; omega)))); have HB4 := zz31 hb; clear ho hb; have k1u := zz9 (blk_nw2 w4 (.cells (madeCells #[.int .u16 0] l0.length) 77) (.cells #[.slice none 0 0] 22)) 0; have k2u := zz10 (blk_nw2 w4 (.cells (madeCells #[.int .u16 0] l0.length) 77) (.cells #[.slice none 0 0] 22)) 0; have k3u := zz9 (zz8 (blk_new w4 (.cells #[.slice none 0 0] 22)) (.cells (madeCells #[.int .u16 0] l0.length) 77)) 0; have k4u := zz10 (zz8 (blk_new w4 (.cells #[.slice none 0 0] 22)) (.cells (madeCells #[.int .u16 0] l0.length) 77)) 0; simp only [List.getElem?_toArray, List.getElem?_cons_zero] at k1u k3u; (first | (have HM := zz31 (zz11 (g := wb.heap.size) (o := (.cells #[.slice none 0 0] 22 (0, 0))) (by (with_reducible repeat (first | refine zz6 ?_ _ | refine zz7 ?_ | refine zz8 ?_ _)); exact HN.out) HB4.out); (try clear g6 g7); have g6 := zz9 HM.out 0; have g7 := zz10 HM.out 0; simp only [List.getElem?_toArray, List.getElem?_cons_zero] at g6; have k5m := zz9 (zz8 HM.out (.cells (madeCells #[.int .u16 0] l0.length) 77)) 0; have k6m := zz10 (zz8 HM.out (.cells (madeCells #[.int .u16 0] l0.length) 77)) 0; simp only [List.getElem?_toArray, List.getElem?_cons_zero] at k5m) | (have HM := zz31 (zz11 (g := wb.heap.size + 1) (o := (.cells #[.slice none 0 0] 22 (0, 0))) (by (with_reducible repeat (first | refine zz6 ?_ _ | refine zz7 ?_ | refine zz8 ?_ _)); exact HN.out) HB4.out); (try clear g6 g7); have g6 := zz9 HM.out 0; have g7 := zz10 HM.out 0; simp only [List.getElem?_toArray, List.getElem?_cons_zero] at g6; have k5m := zz9 (zz8 HM.out (.cells (madeCells #[.int .u16 0] l0.length) 77)) 0; have k6m := zz10 (zz8 HM.out (.cells (madeCells #[.int .u16 0] l0.length) 77)) 0; simp only [List.getElem?_toArray, List.getElem?_cons_zero] at k5m) | (have HM := zz31 (zz11 (g := w3.heap.size) (o := (.cells #[.slice none 0 0] 22 (0, 0))) (by (with_reducible repeat (first | refine zz6 ?_ _ | refine zz7 ?_)); first | exact blk_new _ _ | exact blk_nw2 _ _ _ | (refine zz8 ?_ _; (with_reducible repeat (first | refine zz6 ?_ _ | refine zz7 ?_)); first | exact blk_new _ _ | exact blk_nw2 _ _ _)) HB4.out); (try clear g6 g7); have g6 := zz9 HM.out 0; have g7 := zz10 HM.out 0; simp only [List.getElem?_toArray, List.getElem?_cons_zero] at g6; have k5m := zz9 (zz8 HM.out (.cells (madeCells #[.int .u16 0] l0.length) 77)) 0; have k6m := zz10 (zz8 HM.out (.cells (madeCells #[.int .u16 0] l0.length) 77)) 0; simp only [List.getElem?_toArray, List.getElem?_cons_zero] at k5m) | (have HM := zz31 (zz11 (g := w3.heap.size + 1) (o := (.cells #[.slice none 0 0] 22 (0, 0))) (by (with_reducible repeat (first | refine zz6 ?_ _ | refine zz7 ?_)); first | exact blk_new _ _ | exact blk_nw2 _ _ _ | (refine zz8 ?_ _; (with_reducible repeat (first | refine zz6 ?_ _ | refine zz7 ?_)); first | exact blk_new _ _ | exact blk_nw2 _ _ _)) HB4.out); (try clear g6 g7); have g6 := zz9 HM.out 0; have g7 := zz10 HM.out 0; simp only [List.getElem?_toArray, List.getElem?_cons_zero] at g6; have k5m := zz9 (zz8 HM.out (.cells (madeCells #[.int .u16 0] l0.length) 77)) 0; have k6m := zz10 (zz8 HM.out (.cells (madeCells #[.int .u16 0] l0.length) 77)) 0; simp only [List.getElem?_toArray, List.getElem?_cons_zero] at k5m) | skip)) | (fail "no arm"))
   all_goals go_wp2_with fail
   all_goals go_meet
   all_goals
    refine ⟨_,Al,Ar,_,cl,cr,_,rfl,rfl,rfl,⟨StP.start ?_ ?_ ?_ ?_ ?_ HBO.out ?_⟩,⟨(Kd.R_reads' HR4.out).2.1,RsP.start (cr:=cr) ?_ HLl.out ?_⟩⟩
    ·repeat' (first | exact HXb.out | (with_reducible refine zz8 ?_ _) | (with_reducible refine zz6 ?_ _) | (with_reducible refine zz7 ?_) | (with_reducible refine zz11 ?_ HB4.out) | (with_reducible refine zz11 ?_ HB3.out) | (with_reducible refine blk_farT ?_ HM.out (by decide) _) | (with_reducible refine blk_farT ?_ (zz8 HM.out _) (by decide) _))
    ·first | exact blk_new _ _ | exact blk_nw2 _ _ _ | exact zz8 (blk_new _ _) _ | exact blk_setg HM.out _ | exact blk_setg (zz8 HM.out _) _
    ·repeat' (first | (with_reducible refine Kd.R_lower (repl_at _ _ _ (by omega) ?_) ?_) | (with_reducible refine zz12 ?_ _) | (with_reducible refine zz13 ?_ _) | (with_reducible refine zz14 ?_) | (with_reducible refine Kd.R_below ?_ HB4.out) | (with_reducible refine Kd.R_below ?_ HB3.out) | (with_reducible refine R_farT ?_ HM.out (by decide) _) | (with_reducible refine R_farT ?_ (zz8 HM.out _) (by decide) _))
     all_goals (first | rfl | (have z1:=HBX.out.size;have z2:=HS3.out;have z3:=HS4.out;first | omega | (simp only [World.drew,size_alP];done) | (simp only [World.drew,size_alP];omega)))
    ·repeat' (first | exact HL3.out | (with_reducible refine zz12 ?_ _) | (with_reducible refine zz13 ?_ _) | (with_reducible refine zz14 ?_) | (with_reducible refine Kd.R_below ?_ HB4.out) | (with_reducible refine Kd.R_below ?_ HB3.out) | (with_reducible refine R_farT ?_ HM.out (by decide) _) | (with_reducible refine R_farT ?_ (zz8 HM.out _) (by decide) _))
    ·repeat' (first | exact HBX.out | (with_reducible refine zz2 ?_ _) | (with_reducible refine zz0 ?_ _) | (with_reducible refine below_drew ?_) | (with_reducible refine zz4 ?_ HB4.out) | (with_reducible refine zz4 ?_ HB3.out) | (with_reducible refine zz3 ?_ ?_))
     all_goals (first | rfl | (have z1:=HBX.out.size;have z2:=HS3.out;have z3:=HS4.out;first | omega | (simp only [World.drew,size_alP];done) | (simp only [World.drew,size_alP];omega)))
    ·(first | rfl | (have z1:=HBX.out.size;have z2:=HS3.out;have z3:=HS4.out;first | omega | (simp only [World.drew,size_alP];done) | (simp only [World.drew,size_alP];omega)))
    ·repeat' (first | exact HR4.out | (with_reducible refine zz12 ?_ _) | (with_reducible refine zz13 ?_ _) | (with_reducible refine zz14 ?_) | (with_reducible refine Kd.R_below ?_ HB4.out) | (with_reducible refine Kd.R_below ?_ HB3.out) | (with_reducible refine R_farT ?_ HM.out (by decide) _) | (with_reducible refine R_farT ?_ (zz8 HM.out _) (by decide) _))
    ·(first | rfl | (have z1:=HBX.out.size;have z2:=HS3.out;have z3:=HS4.out;first | omega | (simp only [World.drew,size_alP];done) | (simp only [World.drew,size_alP];omega)))
  case rest =>
   obtain ⟨At,Al,Ar0,ct,cl,cr0,gx,rfl,rfl,rfl,HS0,HR0⟩:=hcut
   clear hmk cC cU HBX HXb HCb HBb HXa HBa HCa HUP
   go_wp2
   go_loopg [8,9,11] rest0.length (fun gg v8 _ _ wr=>∃ (Ar:Option Addr) (cr:Nat) (rest t L:List Int),v8=.slice Ar rest.length cr∧rest.length≤gg∧rest.length≤l0.length∧t.length=l0.length∧L.length=l0.length∧Aside0 (outP rest.length rest t L=some tF)∧Aside0 (StP w wr bo gx At ct Al cl t L)∧Aside0 (rest.length≤cr∧RsP w wr Al Ar rest))
   case atStart=>exact ⟨Ar0,cr0,rest0,List.replicate l0.length 0,l0,rfl,Nat.le_refl _,by rw [HRL.out];exact Nat.le_refl _,by simp,rfl,⟨by rw [HRL.out];exact HTF.out⟩,HS0,HR0⟩
   case round =>
    clear HS0 HR0
    obtain ⟨Ar,cr,rest,t,L,rfl,hgg,hrn,htt,hLl,HOU,HSt,HRs⟩:=hrel
    by_cases hz:rest.length=0
    ·have hzz:decide ((rest.length:Int) > 0)=false:=decide_eq_false (by omega)
     have hzp:¬ (0:Int) < (rest.length:Int):=by omega
     have htr:=HOU.out
     rw [hz,outP] at htr
     injection htr with htr
     subst htr
     have cE:Aside0 (∀ W1,Below wr.heap.size wr W1→Calls Try.prog 52 #[.slice At l0.length ct] W1 fun e w'=>∃ v1_:Value,e=.returned (.agg #[.int .i64 p1,v1_])∧Kd.R k80 80 w' W1.heap.size (fun _=>True) v1_ p2∧Below W1.heap.size W1 w'):=⟨fun W1 hb=>by
      have hR:=Kd.R_reads' (Kd.R_below HSt.out.tab hb)
      have h:=impl_table_party.calls k At ct t p1 p2 W1 hR.2.2 hR.2.1 HP.out
      rw [htt] at h
      exact h⟩
     have HLd:=zz31 (blk_lt HSt.out.box)
     have HSd:=zz31 HSt.out.bel.size
     clear HOU HRs
     go_wp2_with (first | (go_at_call 52; refine (cE.out _ (by repeat (first | exact Below.refl _ _ | apply zz0 | apply below_drew))).mono ?_; rintro e we ⟨v1, rfl, ho, hb⟩; obtain ⟨A1, c1, rfl⟩ := Kd.R_slice ho; have HBe := zz31 (zz4 (w := wr) (by repeat (first | exact Below.refl _ _ | apply zz0 | apply below_drew)) hb); have HO := zz31 (Kd.R_mono (ok' := fun k => k ≠ bo) (Kd.R_bound ho) (fun k hk => by have h1 := hk.2.1; have h2 := HLd.out; show k ≠ bo; intro he; subst he; exact absurd h1 (Nat.not_le.2 h2))); have HXe := zz31 (zz11 HSt.out.box HBe.out); clear ho hb; have f1 := zz9 HXe.out 0; have f2 := zz9 HXe.out 1; simp only [List.getElem?_toArray, List.getElem?_cons_zero, List.getElem?_cons_succ] at f1 f2; have f3 := zz10 HXe.out 0; have f4 := zz10 HXe.out 1) | (fail "no arm"))
     refine bodyPost_ret (results_ct rfl _ _ bo 32 #[.int .i64 p1,.slice A1 p2.length c1] (0,0) _ rfl (by (with_reducible repeat (first | refine zz6 ?_ _ | refine zz7 ?_));refine blk_put (cs:=#[.int .i64 p1,.slice none 0 0]) ?_ 1 _ rfl;refine blk_put (cs:=#[.int .i64 0,.slice none 0 0]) ?_ 0 _ rfl;(with_reducible repeat (first | refine zz6 ?_ _ | refine zz7 ?_));exact HXe.out) Try.underlying32 rfl (by kernel_rfl)) rfl ?_
     exact ⟨_,rfl,Kd.R_mono (Kd.R_lower (Kd.R_far (Kd.R_far HO.out (fun k hk=>hk) _) (fun k hk=>hk) _) HSd.out) (fun _ _=>trivial),by repeat first | exact (zz4 HSt.out.bel HBe.out) | apply zz0 | apply below_drew | refine zz3 ?_ HSt.out.hbo⟩
    ·obtain ⟨d,hd⟩:∃ d,rest.length=d+1:=⟨rest.length - 1,by omega⟩
     have hou:=HOU.out
     rw [hd,outP] at hou
     by_cases hok:(okL L && okR L.length rest)=true
     case neg=>rw [if_neg hok] at hou;exact absurd hou (by simp)
     rw [if_pos hok] at hou
     rw [Bool.and_eq_true] at hok
     have hokL:=okL_at hok.1
     have hokR:=okR_at hok.2
     cases hsp:sortP L rest with
     | nil=>rw [hsp] at hou;exact absurd hou (by simp)
     | cons a rs =>
      rw [hsp] at hou
      dsimp only at hou
      by_cases hml:rd L a≤(rs.length:Int)
      case neg=>rw [if_neg hml] at hou;exact absurd hou (by simp)
      rw [if_pos hml] at hou
      obtain ⟨⟨t2,L2⟩,hin,hou2⟩:=zz30.1 hou
      replace hou2:outP d rs t2 L2=some tF:=hou2
      have hsl:(sortP L rest).length=rest.length:=by unfold sortP;exact List.length_mergeSort _
      have hrsl:rs.length=d:=by rw [hsp,hd] at hsl;simpa using hsl
      have ham:a ∈ rest:=(List.mergeSort_perm rest (leP L)).mem_iff.1 (by have h9:a ∈ sortP L rest:=(by rw [hsp];exact List.mem_cons_self ..);exact h9)
      have ha:=hokR a ham
      have hn0:0 < L.length:=by omega
      obtain ⟨i,hi⟩:=Int.eq_ofNat_of_zero_le ha.1
      subst hi
      have hil:i < L.length:=by omega
      have hmb:=hokL i hil
      obtain ⟨gl,cl',hAl,hgl1,hgl2,hgl3⟩:=Kd.R_form HSt.out.left hn0
      injection hAl with hAl _ hcl
      subst hAl
      subst hcl
      obtain ⟨hcr,hrs⟩:=HRs.out
      rcases hrs with hrs | ⟨gr,o,hAr,hH,hgr,hgb,hne⟩
      ·rw [hrs] at hd;simp at hd
      obtain ⟨ad,had⟩:∃ ad:Addr,ad=⟨gr,o,none⟩:=⟨_,rfl⟩
      rw [← had] at hAr
      subst hAr
      have cS:Aside0 (Calls Try.prog 82 #[.slice (some ad) rest.length cr,.func (.func 83) #[] #[.pointer (some ⟨gx,0,none⟩)]] wr fun e w'=>e=.returned (.tuple #[])∧StP w w' bo gx At ct (some ⟨gl,0,none⟩) cl t L∧Go.Sort.Holds (Value.int .i64) w' gr o ((i:Int) :: rs).toArray∧∃ cells,w'.heap[gr]?=some (.cells cells 3 (0,0))):=⟨by
       rw [had]
       obtain ⟨cells,hgc⟩:=hgr
       have hS:=HSt.out
       obtain ⟨hlb,cl3,hlc⟩:=hS.typed hn0
       refine (stable_ints wr gx gl cl gr o cr L rest hokR (by omega) hn0 (by omega) hokL hH ⟨cells,hgc⟩ ?_ ?_ (blk_ne hS.bx hgc (by decide)) (hne _ rfl)).mono ?_
       ·have:=zz9 hS.bx 0
        simpa using this
       ·intro i hi
        have:=(Kd.R_celln 0 hS.left (i:Int) (by omega) (by omega)).1
        rwa [Int.toNat_natCast] at this
       ·rintro e w' ⟨g1,g2,g3,g4⟩
        rw [hsp] at g3
        exact ⟨g1,hS.sorted g2 ⟨cells,hgc⟩ hgb hne,g3,g4⟩⟩
      have HIN:=zz31 hin
      have HOU2:=zz31 hou2
      have hi64:((i:Nat):Int) < (l0.length:Int):=by omega
      rw [hLl] at hil
      obtain ⟨m,hm⟩:=Int.eq_ofNat_of_zero_le hmb.1
      have HM:=zz31 hm
      rw [hm] at hml
      have hml2:m≤rs.length:=by omega
      have HAD:=zz31 had
      have HD:=zz31 hd
      have HSP:=zz31 hsp
      have HRSL:=zz31 hrsl
      have HGB:=zz31 (And.intro hgb hne)
      have hzp:(0:Int) < (rest.length:Int):=by omega
      have hzz:decide ((rest.length:Int) > 0)=true:=decide_eq_true hzp
      have hrl2:rs.length+1=rest.length:=by omega
      have HRL2:=zz31 hrl2
      have HML2:=zz31 hml2
      have HCR:=zz31 hcr
      clear hou hou2 hin hok HOU hgl3 hgl2 hgl1 hsl hokR ham ha hH hgr hmb hokL hm hml had hd hsp hrsl hgb hne hrl2 hml2 hcr hz
      go_upto_region 7 with (first | (go_at_call 82; refine cS.out.mono ?_; rintro e w1 ⟨rfl, hs1, hH1, hg1⟩; have HS1 := zz31 hs1; have HH1 := zz31 hH1; have HG1 := zz31 hg1; clear hs1 hH1 hg1) | (fail "no arm"))
      have hc0:=holds_at HAD.out HH1.out 0 (by simp)
      rw [show rd ((i:Int) :: rs) ((0:Nat):Int)=(i:Int) from rfl] at hc0
      have hc1:w1.cell? ad=some (.int .i64 (i:Int)):=hc0
      go_upto_region 9 with (fail)
      obtain ⟨ad1,hA1,hT1⟩:=tailP HAD.out HCR.out HRL2.out HH1.out
      rw [hA1,show rest.length - 1=rs.length by have:=HRL2.out;omega]
      obtain ⟨c1,hc1e⟩:∃ c1,c1=cr - 1:=⟨_,rfl⟩
      rw [← hc1e]
      have hrc:rs.length≤c1:=by have:=HRL2.out;have:=HCR.out;omega
      have hmc:m≤c1:=by have:=HML2.out;omega
      have hmcz:(m:Int)≤(c1:Int):=by omega
      have HRS1:Aside0 (RsP w w1 (some ⟨gl,0,none⟩) (some ad1) rs):=⟨by
       rcases hT1 with h | ⟨h1,h2⟩
       ·exact .inl h
       ·exact .inr ⟨gr,o+1,by rw [h1],h2,HG1.out,HGB.out.1,HGB.out.2⟩⟩
      have HRC:=zz31 hrc
      clear hT1 hA1 hc1e hrc hc0 hc1
      have f1:=zz9 HS1.out.bx 0
      simp only [List.getElem?_toArray,List.getElem?_cons_zero] at f1
      rw [hLl] at f1
      have f2:w1.cell? ⟨gl,i,none⟩=some (.int .i64 (m:Int)):=by
       have:=(Kd.R_celln 0 HS1.out.left (i:Int) (by omega) (by omega)).1
       rw [Int.toNat_natCast] at this
       rw [this,← HM.out];rfl
      go_wp2
      clear f1 f2
      go_loopg [11,46] m (fun g2 _ v46 wr2=>∃ (j:Nat) (t1 L1:List Int),v46=.int .i64 (j:Int)∧j≤m∧m - j≤g2∧t1.length=l0.length∧L1.length=l0.length∧Aside0 (inP (i:Int) ((rs.take m).drop j) t1 L1=some (t2,L2))∧Aside0 (StP w wr2 bo gx At ct (some ⟨gl,0,none⟩) cl t1 L1)∧Aside0 (RsP w wr2 (some ⟨gl,0,none⟩) (some ad1) rs))
      case atStart=>exact ⟨0,t,L,rfl,Nat.zero_le _,by omega,htt,hLl,⟨by rw [List.drop_zero];have h1:=HIN.out;rw [HM.out,Int.toNat_natCast] at h1;exact h1⟩,HS1,HRS1⟩
      case round =>
       clear HS1 HRS1 HH1 HG1
       obtain ⟨j,t1,L1,rfl,hj,hg2,htt1,hLl1,HI1,HS2,HR2⟩:=hrel
       by_cases hjm:j < m
       ·have hjz:(j:Int) < (m:Int):=by omega
        have hjr:j < rs.length:=by have:=HML2.out;omega
        have hi1:=HI1.out
        have hjt:j < (rs.take m).length:=by rw [zz25];omega
        rw [List.drop_eq_getElem_cons hjt,List.getElem_take,inP] at hi1
        obtain ⟨t',hpt,hi1⟩:=zz30.1 hi1
        obtain ⟨b,hb⟩:∃ b,b=rs[j]:=⟨_,rfl⟩
        rw [← hb] at hpt hi1
        have htl:t'.length=t1.length:=by
         unfold impl_table_put.f at hpt
         repeat' split at hpt
         all_goals first | (simp at hpt;done) | (simp only [Option.bind_some] at hpt;split at hpt <;> first | (simp at hpt;done) | (simp only [Option.some.injEq] at hpt;rw [← hpt];simp)) | (simp only [Option.bind_some,Option.some.injEq] at hpt;rw [← hpt];simp)
        have hbb:0≤b∧b < (l0.length:Int):=put_range hpt htt1
        obtain ⟨bn,rfl⟩:=Int.eq_ofNat_of_zero_le hbb.1
        have hbz:(bn:Int) < (l0.length:Int):=hbb.2
        have f1:wr.cell? (ad1.add j)=some (.int .i64 (bn:Int)):=by
         rcases HR2.out with h | ⟨gr2,o2,h1,h2,_,_,_⟩
         ·rw [h] at hjr;simp at hjr
         ·injection h1 with h1
          rw [holds_at h1 h2 j hjr,hb]
          simp [rd,List.getD_eq_getElem?_getD,hjr]
        have cP:Aside0 (Calls Try.prog 69 #[.slice At l0.length ct,.int .i64 (i:Int),.int .i64 (bn:Int)] wr fun e w'=>e=.returned (.tuple #[])∧StP w w' bo gx At ct (some ⟨gl,0,none⟩) cl t' L1∧RsP w w' (some ⟨gl,0,none⟩) (some ad1) rs):=⟨by
         have h:=HS2.out.put (i:Int) (bn:Int) t' hpt htl
         rw [htt1] at h
         exact h.mono fun e w' ⟨g1,g2,g3⟩=>⟨g1,g2,g3 _ _ HR2.out⟩⟩
        have HI3:=zz31 hi1
        have HTL:=zz31 (htl.trans htt1)
        have hjn:j < m:=hjm
        clear hi1 hpt hbb hb htl HI1 HS2 HR2
        go_upto_region 13 with (first | (go_at_call 69; refine cP.out.mono ?_; rintro e w5 ⟨rfl, hst, hrs⟩; have HS5 := zz31 hst; have HR5 := zz31 hrs; clear hst hrs) | (fail "no arm"))
        clear f1
        have f1:=zz9 HS5.out.bx 0
        simp only [List.getElem?_toArray,List.getElem?_cons_zero] at f1
        rw [hLl1] at f1
        obtain ⟨f2,f3⟩:=Kd.R_celln 0 HS5.out.left (bn:Int) (by omega) (by rw [hLl1];omega)
        rw [Int.toNat_natCast] at f2 f3
        rw [show rdOf 0 L1 (bn:Int)=rd L1 (bn:Int) from rfl] at f2
        have HS6:=zz31 (HS5.out.dec (by omega) (bn:Int) (wrap64 (rd L1 (bn:Int) - 1)))
        have HR6:=zz31 (HR5.out.dec bn (.int .i64 (wrap64 (rd L1 (bn:Int) - 1))))
        go_wp2
        go_roundg (m - (j+1))
        case measure=>omega
        case rel =>
         have h7:=HRL2.out
         have h8:=HML2.out
         have hw:wrap64 ((j:Int)+1)=((j+1:Nat):Int):=(by unfold wrap64;omega)
         exact ⟨j+1,t',decP L1 (bn:Int),(by first | rw [hw] | go_num | (rw [IntKind.wrap_i64];congr 1;omega)),hjn,Nat.le_refl _,HTL.out,by unfold decP;rw [List.length_set];exact hLl1,HI3,HS6,HR6⟩
       ·obtain rfl:j=m:=by omega
        have hjz:¬ (j:Int) < (j:Int):=by omega
        have hi1:=HI1.out
        rw [List.drop_of_length_le (by rw [zz25];omega),inP] at hi1
        simp only [Option.some.injEq,Prod.mk.injEq] at hi1
        obtain ⟨rfl,rfl⟩:=hi1
        clear HI1
        go_wp2
        go_roundg rs.length
        case measure=>have:=HRL2.out;omega
        case rel=>exact ⟨some ad1,c1,rs,t1,L1,rfl,Nat.le_refl _,by have:=HRL2.out;omega,htt1,hLl1,⟨by have h:=HOU2.out;rw [HRSL.out];exact h⟩,HS2,⟨HRC.out,HR2.out⟩⟩

/-! ### laws_FnExactPartyOfNumbers: function 13 -/
mutual
def laws_FnExactPartyOfNumbers.j0:Nat→List Int→Bool→List Int→Bool→Bool→Int→List (S80)→Int→List (S80)→Option (Bool)
 | 0,_,_,_,_,_,_,_,_,_=>none
 | k+1,x0,x4,x5,x7,x37,x278000,x278001,x287000,x287001=>if x37=true then (some false) else ((laws_toIntS.f k x0).bind fun t288=>((laws_eqIntS.f k x5 t288).bind fun t291=>(if t291=true then ((laws_markIntS.f k x5 1).bind fun bt292=>(if bt292.1 < 0 then (laws_FnExactPartyOfNumbers.j1 k x0 x4 true x278000 x278001 x287000 x287001) else ((laws_eqParty.f k x287000 x287001 x278000 x278001).bind fun t294=>(if t294=true then (laws_FnExactPartyOfNumbers.j1 k x0 x4 (x7 != x4) x278000 x278001 x287000 x287001) else (laws_FnExactPartyOfNumbers.j1 k x0 x4 true x278000 x278001 x287000 x287001))))) else (some false))))
def laws_FnExactPartyOfNumbers.j1:Nat→List Int→Bool→Bool→Int→List (S80)→Int→List (S80)→Option (Bool)
 | 0,_,_,_,_,_,_,_=>none
 | k+1,x0,x4,x58,x278000,x278001,x287000,x287001=>if x58=true then (some false) else ((laws_markParty.f k x287000 x287001 1).bind fun bt295=>((laws_heldParty.f k x287000 bt295.2 1).bind fun t297=>(if t297 < 0 then (some false) else (if t297=bt295.1 then ((laws_toIntS.f k x0).bind fun t298=>((impl_PartyOfNumbers.f k t298).bind fun bt301=>((laws_eqParty.f k bt301.1 bt301.2.1 x278000 x278001).bind fun t307=>(if t307=true then (laws_FnExactPartyOfNumbers.j2 k bt295.1 (bt301.2.2 != x4) x287000 bt295.2) else (laws_FnExactPartyOfNumbers.j2 k bt295.1 true x287000 bt295.2))))) else (some false)))))
def laws_FnExactPartyOfNumbers.j2:Nat→Int→Bool→Int→List (S80)→Option (Bool)
 | 0,_,_,_,_=>none
 | k+1,x9,x84,x287000,x287001=>if x84=true then (some false) else ((laws_heldParty.f k x287000 x287001 1).bind fun t308=>(if t308 < 0 then (some false) else (if t308=x9 then (some true) else (some false))))
end
def laws_FnExactPartyOfNumbers.f (k:Nat) (l0:List Int):Option (Bool):=if (l0.length:Int) > 1048576 then (some true) else ((laws_toIntS.f k l0).bind fun t269=>((spec_PartyOfNumbers.f k t269).bind fun bt272=>((laws_toIntS.f k l0).bind fun t278=>((impl_PartyOfNumbers.f k t278).bind fun bt281=>((laws_eqParty.f k bt281.1 bt281.2.1 bt272.1 bt272.2.1).bind fun t287=>(if t287=true then (laws_FnExactPartyOfNumbers.j0 k l0 bt272.2.2 t278 bt281.2.2 (bt281.2.2 != bt272.2.2) bt272.1 bt272.2.1 bt281.1 bt281.2.1) else (laws_FnExactPartyOfNumbers.j0 k l0 bt272.2.2 t278 bt281.2.2 true bt272.1 bt272.2.1 bt281.1 bt281.2.1)))))))
theorem laws_FnExactPartyOfNumbers.mono_l:∀ k,(∀ y0 y1 y2 y3 y4 y5 y6 y7 y8,LeO (laws_FnExactPartyOfNumbers.j0 k y0 y1 y2 y3 y4 y5 y6 y7 y8) (laws_FnExactPartyOfNumbers.j0 (k+1) y0 y1 y2 y3 y4 y5 y6 y7 y8))∧(∀ y0 y1 y2 y3 y4 y5 y6,LeO (laws_FnExactPartyOfNumbers.j1 k y0 y1 y2 y3 y4 y5 y6) (laws_FnExactPartyOfNumbers.j1 (k+1) y0 y1 y2 y3 y4 y5 y6))∧(∀ y0 y1 y2 y3,LeO (laws_FnExactPartyOfNumbers.j2 k y0 y1 y2 y3) (laws_FnExactPartyOfNumbers.j2 (k+1) y0 y1 y2 y3))
 | 0=>⟨fun _ _ _ _ _ _ _ _ _ r h=>by simp [laws_FnExactPartyOfNumbers.j0] at h,fun _ _ _ _ _ _ _ r h=>by simp [laws_FnExactPartyOfNumbers.j1] at h,fun _ _ _ _ r h=>by simp [laws_FnExactPartyOfNumbers.j2] at h⟩
 | k+1=>by
  obtain ⟨ih0,ih1,ih2⟩:=laws_FnExactPartyOfNumbers.mono_l k
  refine ⟨?_,?_,?_⟩
  ·intro y0 y1 y2 y3 y4 y5 y6 y7 y8
   unfold laws_FnExactPartyOfNumbers.j0
   repeat' first
   | (with_reducible exact ih0 _ _ _ _ _ _ _ _ _)
   | (with_reducible exact ih1 _ _ _ _ _ _ _)
   | (with_reducible exact ih2 _ _ _ _)
   | (with_reducible exact impl_PartyOfNumbers.mono _ _)
   | (with_reducible exact laws_eqIntS.mono _ _ _)
   | (with_reducible exact laws_eqParty.mono _ _ _ _ _)
   | (with_reducible exact laws_heldParty.mono _ _ _ _)
   | (with_reducible exact laws_markIntS.mono _ _ _)
   | (with_reducible exact laws_markParty.mono _ _ _ _)
   | (with_reducible exact laws_toIntS.mono _ _)
   | (with_reducible exact spec_PartyOfNumbers.mono _ _)
   | (with_reducible exact LeO.refl _)
   | (with_reducible exact LeO.none _)
   | (with_reducible refine LeO.ite ?_ ?_)
   | (with_reducible refine LeO.bind ?_ (fun _=>?_))
   | exact ih0 _ _ _ _ _ _ _ _ _
   | exact ih1 _ _ _ _ _ _ _
   | exact ih2 _ _ _ _
   | exact impl_PartyOfNumbers.mono _ _
   | exact laws_eqIntS.mono _ _ _
   | exact laws_eqParty.mono _ _ _ _ _
   | exact laws_heldParty.mono _ _ _ _
   | exact laws_markIntS.mono _ _ _
   | exact laws_markParty.mono _ _ _ _
   | exact laws_toIntS.mono _ _
   | exact spec_PartyOfNumbers.mono _ _
   | exact LeO.none _
   | refine LeO.ite ?_ ?_
   | refine LeO.bind ?_ (fun _=>?_)
  ·intro y0 y1 y2 y3 y4 y5 y6
   unfold laws_FnExactPartyOfNumbers.j1
   repeat' first
   | (with_reducible exact ih0 _ _ _ _ _ _ _ _ _)
   | (with_reducible exact ih1 _ _ _ _ _ _ _)
   | (with_reducible exact ih2 _ _ _ _)
   | (with_reducible exact impl_PartyOfNumbers.mono _ _)
   | (with_reducible exact laws_eqIntS.mono _ _ _)
   | (with_reducible exact laws_eqParty.mono _ _ _ _ _)
   | (with_reducible exact laws_heldParty.mono _ _ _ _)
   | (with_reducible exact laws_markIntS.mono _ _ _)
   | (with_reducible exact laws_markParty.mono _ _ _ _)
   | (with_reducible exact laws_toIntS.mono _ _)
   | (with_reducible exact spec_PartyOfNumbers.mono _ _)
   | (with_reducible exact LeO.refl _)
   | (with_reducible exact LeO.none _)
   | (with_reducible refine LeO.ite ?_ ?_)
   | (with_reducible refine LeO.bind ?_ (fun _=>?_))
   | exact ih0 _ _ _ _ _ _ _ _ _
   | exact ih1 _ _ _ _ _ _ _
   | exact ih2 _ _ _ _
   | exact impl_PartyOfNumbers.mono _ _
   | exact laws_eqIntS.mono _ _ _
   | exact laws_eqParty.mono _ _ _ _ _
   | exact laws_heldParty.mono _ _ _ _
   | exact laws_markIntS.mono _ _ _
   | exact laws_markParty.mono _ _ _ _
   | exact laws_toIntS.mono _ _
   | exact spec_PartyOfNumbers.mono _ _
   | exact LeO.none _
   | refine LeO.ite ?_ ?_
   | refine LeO.bind ?_ (fun _=>?_)
  ·intro y0 y1 y2 y3
   unfold laws_FnExactPartyOfNumbers.j2
   repeat' first
   | (with_reducible exact ih0 _ _ _ _ _ _ _ _ _)
   | (with_reducible exact ih1 _ _ _ _ _ _ _)
   | (with_reducible exact ih2 _ _ _ _)
   | (with_reducible exact impl_PartyOfNumbers.mono _ _)
   | (with_reducible exact laws_eqIntS.mono _ _ _)
   | (with_reducible exact laws_eqParty.mono _ _ _ _ _)
   | (with_reducible exact laws_heldParty.mono _ _ _ _)
   | (with_reducible exact laws_markIntS.mono _ _ _)
   | (with_reducible exact laws_markParty.mono _ _ _ _)
   | (with_reducible exact laws_toIntS.mono _ _)
   | (with_reducible exact spec_PartyOfNumbers.mono _ _)
   | (with_reducible exact LeO.refl _)
   | (with_reducible exact LeO.none _)
   | (with_reducible refine LeO.ite ?_ ?_)
   | (with_reducible refine LeO.bind ?_ (fun _=>?_))
   | exact ih0 _ _ _ _ _ _ _ _ _
   | exact ih1 _ _ _ _ _ _ _
   | exact ih2 _ _ _ _
   | exact impl_PartyOfNumbers.mono _ _
   | exact laws_eqIntS.mono _ _ _
   | exact laws_eqParty.mono _ _ _ _ _
   | exact laws_heldParty.mono _ _ _ _
   | exact laws_markIntS.mono _ _ _
   | exact laws_markParty.mono _ _ _ _
   | exact laws_toIntS.mono _ _
   | exact spec_PartyOfNumbers.mono _ _
   | exact LeO.none _
   | refine LeO.ite ?_ ?_
   | refine LeO.bind ?_ (fun _=>?_)
theorem laws_FnExactPartyOfNumbers.mono:∀ a0 k,LeO (laws_FnExactPartyOfNumbers.f k a0) (laws_FnExactPartyOfNumbers.f (k+1) a0):=by
 intro a0 k
 obtain ⟨ih0,ih1,ih2⟩:=laws_FnExactPartyOfNumbers.mono_l k
 unfold laws_FnExactPartyOfNumbers.f
 repeat' first
   | (with_reducible exact ih0 _ _ _ _ _ _ _ _ _)
   | (with_reducible exact ih1 _ _ _ _ _ _ _)
   | (with_reducible exact ih2 _ _ _ _)
   | (with_reducible exact impl_PartyOfNumbers.mono _ _)
   | (with_reducible exact laws_eqIntS.mono _ _ _)
   | (with_reducible exact laws_eqParty.mono _ _ _ _ _)
   | (with_reducible exact laws_heldParty.mono _ _ _ _)
   | (with_reducible exact laws_markIntS.mono _ _ _)
   | (with_reducible exact laws_markParty.mono _ _ _ _)
   | (with_reducible exact laws_toIntS.mono _ _)
   | (with_reducible exact spec_PartyOfNumbers.mono _ _)
   | (with_reducible exact LeO.refl _)
   | (with_reducible exact LeO.none _)
   | (with_reducible refine LeO.ite ?_ ?_)
   | (with_reducible refine LeO.bind ?_ (fun _=>?_))
   | exact ih0 _ _ _ _ _ _ _ _ _
   | exact ih1 _ _ _ _ _ _ _
   | exact ih2 _ _ _ _
   | exact impl_PartyOfNumbers.mono _ _
   | exact laws_eqIntS.mono _ _ _
   | exact laws_eqParty.mono _ _ _ _ _
   | exact laws_heldParty.mono _ _ _ _
   | exact laws_markIntS.mono _ _ _
   | exact laws_markParty.mono _ _ _ _
   | exact laws_toIntS.mono _ _
   | exact spec_PartyOfNumbers.mono _ _
   | exact LeO.none _
   | refine LeO.ite ?_ ?_
   | refine LeO.bind ?_ (fun _=>?_)
set_option maxHeartbeats 8000000 in
set_option maxRecDepth 100000 in
theorem laws_FnExactPartyOfNumbers.calls (k:Nat) (A0:Option Addr) (c0:Nat) (l0:List Int) (r:Bool) (w:World) (hr0:Kd.C (Kd.int .i64) w A0 l0.length l0) (hc0:l0.length≤c0) (h:laws_FnExactPartyOfNumbers.f k l0=some r) :
  Calls Try.prog 13 #[.slice A0 l0.length c0] w fun e w'=>e=.returned (.bool r)∧Below w.heap.size w w':=by
 have hu32:=Try.underlying32
 have HR0:=zz31 hr0
 have HC0:=zz31 hc0
 clear hr0 hc0
 have HB:=zz31 (Below.refl w.heap.size w)
 have H:(if (l0.length:Int) > 1048576 then (some true) else ((laws_toIntS.f k l0).bind fun t269=>((spec_PartyOfNumbers.f k t269).bind fun bt272=>((laws_toIntS.f k l0).bind fun t278=>((impl_PartyOfNumbers.f k t278).bind fun bt281=>((laws_eqParty.f k bt281.1 bt281.2.1 bt272.1 bt272.2.1).bind fun t287=>(if t287=true then (laws_FnExactPartyOfNumbers.j0 k l0 bt272.2.2 t278 bt281.2.2 (bt281.2.2 != bt272.2.2) bt272.1 bt272.2.1 bt281.1 bt281.2.1) else (laws_FnExactPartyOfNumbers.j0 k l0 bt272.2.2 t278 bt281.2.2 true bt272.1 bt272.2.1 bt281.1 bt281.2.1))))))))=some r:=h
 clear h
 by_cases c2:(l0.length:Int) > 1048576
 ·rw [if_pos c2] at H
  have c2b0:decide (1048576 < (l0.length:Int))=true:=decide_eq_true c2
  have c2b1:decide (1048576 < l0.length)=true:=decide_eq_true (by omega)
  clear c2
  obtain rfl:=Option.some.inj H
  go_enter Try.func13,Try.ntmps13
  go_wp2
  go_ret
  exact ⟨by first | rfl | (simp [errW_none,errW_some] <;> rfl) | (simp [*,errW_none,errW_some] <;> rfl),by repeat first | exact HB.out | apply zz2 | apply zz0 | apply zz1⟩
 ·rw [if_neg c2] at H
  have c2b0:decide (1048576 < (l0.length:Int))=false:=decide_eq_false c2
  have c2b1:decide (1048576 < l0.length)=false:=decide_eq_false (by omega)
  clear c2
  replace H:=zz30.mp H
  obtain ⟨t269,A30,H⟩:=H
  replace H:((spec_PartyOfNumbers.f k t269).bind fun bt272=>((laws_toIntS.f k l0).bind fun t278=>((impl_PartyOfNumbers.f k t278).bind fun bt281=>((laws_eqParty.f k bt281.1 bt281.2.1 bt272.1 bt272.2.1).bind fun t287=>(if t287=true then (laws_FnExactPartyOfNumbers.j0 k l0 bt272.2.2 t278 bt281.2.2 (bt281.2.2 != bt272.2.2) bt272.1 bt272.2.1 bt281.1 bt281.2.1) else (laws_FnExactPartyOfNumbers.j0 k l0 bt272.2.2 t278 bt281.2.2 true bt272.1 bt272.2.1 bt281.1 bt281.2.1))))))=some r:=H
  have A3:=zz31 A30
  clear A30
  replace H:=zz30.mp H
  obtain ⟨⟨t272,t273,t276⟩,A40,H⟩:=H
  replace H:((laws_toIntS.f k l0).bind fun t278=>((impl_PartyOfNumbers.f k t278).bind fun bt281=>((laws_eqParty.f k bt281.1 bt281.2.1 t272 t273).bind fun t287=>(if t287=true then (laws_FnExactPartyOfNumbers.j0 k l0 t276 t278 bt281.2.2 (bt281.2.2 != t276) t272 t273 bt281.1 bt281.2.1) else (laws_FnExactPartyOfNumbers.j0 k l0 t276 t278 bt281.2.2 true t272 t273 bt281.1 bt281.2.1)))))=some r:=H
  have A4:=zz31 A40
  clear A40
  replace H:=zz30.mp H
  obtain ⟨t278,A50,H⟩:=H
  replace H:((impl_PartyOfNumbers.f k t278).bind fun bt281=>((laws_eqParty.f k bt281.1 bt281.2.1 t272 t273).bind fun t287=>(if t287=true then (laws_FnExactPartyOfNumbers.j0 k l0 t276 t278 bt281.2.2 (bt281.2.2 != t276) t272 t273 bt281.1 bt281.2.1) else (laws_FnExactPartyOfNumbers.j0 k l0 t276 t278 bt281.2.2 true t272 t273 bt281.1 bt281.2.1))))=some r:=H
  have A5:=zz31 A50
  clear A50
  replace H:=zz30.mp H
  obtain ⟨⟨t281,t282,t285⟩,A60,H⟩:=H
  replace H:((laws_eqParty.f k t281 t282 t272 t273).bind fun t287=>(if t287=true then (laws_FnExactPartyOfNumbers.j0 k l0 t276 t278 t285 (t285 != t276) t272 t273 t281 t282) else (laws_FnExactPartyOfNumbers.j0 k l0 t276 t278 t285 true t272 t273 t281 t282)))=some r:=H
  have A6:=zz31 A60
  clear A60
  have HC7:=zz31 H
  clear H
  go_enter Try.func13,Try.ntmps13
  go_upto_region 6 with (first | ((with_reducible refine gate_callee (f:=15) rfl ?_);refine goesL_ (some 18) rfl rfl Try.func15 (by kernel_rfl) rfl #[.slice A0 l0.length c0] rfl (by (try simp only [zz26,zz27,zz28]);first | done | rfl | (simp only [zz24,zz25];rfl)) ?_;(with_reducible refine (laws_toIntS.calls k _ _ l0 t269 _ ?side1 ?side2 A3.out).mono ?_);(case side1=>repeat (first | exact HR0.out | (with_reducible refine zz18 ?_ _) | (with_reducible refine zz19 ?_ _) | (with_reducible refine zz20 ?_)));(case side2=>exact HC0.out);rintro e w8 ⟨v270,rfl,ho0,hb⟩;refine ⟨_,rfl,?_⟩;have n0_:=zz31 (Kd.R_lower ho0 (zz5 (by repeat first | exact HB.out | apply zz2 | apply zz0 | apply zz1)));have n1_:=zz31 (zz4 (by repeat first | exact HB.out | apply zz2 | apply zz0 | apply zz1) hb);clear HB;have HO271:=n0_;have HB:=n1_;clear n0_ n1_;(try clear hb);(try clear hb2);(try clear hk);(try clear hi);(try clear ho0);obtain ⟨Ao9,co9,eo9⟩:=Kd.R_slice HO271.out;subst eo9) | ((with_reducible refine gate_callee (f:=44) rfl ?_);refine goesL_ (some 19) rfl rfl Try.func44 (by kernel_rfl) rfl #[.slice Ao9 t269.length co9] rfl (by (try simp only [zz26,zz27,zz28]);first | done | rfl | (simp only [zz24,zz25];rfl)) ?_;(with_reducible refine (spec_PartyOfNumbers.calls k _ _ t269 t272 t273 t276 _ ?side1 ?side2 A4.out).mono ?_);(case side1=>repeat (first | exact (Kd.R_reads' HO271.out).2.2 | (with_reducible refine zz18 ?_ _) | (with_reducible refine zz19 ?_ _) | (with_reducible refine zz20 ?_)));(case side2=>exact (Kd.R_reads' HO271.out).2.1);rintro e w10 ⟨v274,rfl,ho0,hb⟩;refine ⟨_,rfl,?_⟩;have n0_:=zz31 (Kd.R_below (by (with_reducible repeat (first | apply zz12 | apply zz13 | apply zz14));exact HO271.out) hb);have n1_:=zz31 (Kd.R_lower ho0 (zz5 (by repeat first | exact HB.out | apply zz2 | apply zz0 | apply zz1)));have n2_:=zz31 (zz4 (by repeat first | exact HB.out | apply zz2 | apply zz0 | apply zz1) hb);clear HO271;clear HB;have HO271:=n0_;have HO275:=n1_;have HB:=n2_;clear n0_ n1_ n2_;(try clear hb);(try clear hb2);(try clear hk);(try clear hi);(try clear ho0)) | ((with_reducible refine gate_dst (N:=3) rfl ?_);refine box_event ?hg (N:=3) ?hd (cs:=#[.int .i64 0,.slice none 0 0]) (t:=32) ?hr ?_;(case hd=>rfl);(case hg=>rfl);(case hr=>first | (go_simp;done) | (go_simp;rfl));intro gb277 hg w11 hbox hb;have n0_:=zz31 (Kd.R_below (by (with_reducible repeat (first | apply zz12 | apply zz13 | apply zz14));exact HO271.out) hb);have n1_:=zz31 (Kd.R_below (by (with_reducible repeat (first | apply zz12 | apply zz13 | apply zz14));exact HO275.out) hb);have n2_:=zz31 (zz4 (by repeat first | exact HB.out | apply zz2 | apply zz0 | apply zz1) hb);have n3_:=zz31 (hbox);have n4_:=zz31 ((by rw [hg];exact (zz5 (by repeat first | exact HB.out | apply zz2 | apply zz0 | apply zz1)):w.heap.size≤gb277));have n5_:=zz31 ((by rw [hg];exact (zz5 (by repeat first | exact HB.out | apply zz2 | apply zz0 | apply zz1)):w.heap.size≤gb277));clear HO271;clear HO275;clear HB;have HO271:=n0_;have HO275:=n1_;have HB:=n2_;have BK277:=n3_;have GW277:=n4_;have GE277:=n5_;clear n0_ n1_ n2_ n3_ n4_ n5_;clear hb hbox hg;have hcz12_0:w11.cell? ⟨gb277,0,none⟩=some (.int .i64 0):=(zz9 BK277.out 0).trans rfl;have hcz12_1:w11.cell? ⟨gb277,1,none⟩=some (.slice none 0 0):=(zz9 BK277.out 1).trans rfl;have hfz12_0:=zz10 BK277.out 0;have hfz12_1:=zz10 BK277.out 1;obtain ⟨Ao13,co13,eo13⟩:=Kd.R_slice HO275.out;subst eo13) | ((with_reducible refine gate_callee (f:=15) rfl ?_);refine goesL_ (some 23) rfl rfl Try.func15 (by kernel_rfl) rfl #[.slice A0 l0.length c0] rfl (by (try simp only [zz26,zz27,zz28]);first | done | rfl | (simp only [zz24,zz25];rfl)) ?_;(with_reducible refine (laws_toIntS.calls k _ _ l0 t278 _ ?side1 ?side2 A5.out).mono ?_);(case side1=>exact Kd.C_below HR0.out (by repeat first | exact HB.out | apply zz2 | apply zz0 | apply zz1 | refine zz3 ?_ GE277.out));(case side2=>exact HC0.out);rintro e w14 ⟨v279,rfl,ho0,hb⟩;refine ⟨_,rfl,?_⟩;have n0_:=zz31 (Kd.R_elder' (by (with_reducible repeat (first | apply zz12 | apply zz13 | apply zz14));exact (Kd.R_mono (Kd.R_far (p:=⟨gb277,1,none⟩) (Kd.R_far (p:=⟨gb277,0,none⟩) (Kd.R_types HO271.out BK277.out (by decide)) (fun _ hk=>hk.2) (.int .i64 t272)) (fun _ hk=>hk.2) (.slice Ao13 t273.length co13)) (fun _ h_=>h_.1))) (Kd.R_base ho0) hb);have n1_:=zz31 (Kd.R_below (by (with_reducible repeat (first | apply zz12 | apply zz13 | apply zz14));exact (Kd.R_mono (Kd.R_far (p:=⟨gb277,1,none⟩) (Kd.R_far (p:=⟨gb277,0,none⟩) (Kd.R_types HO275.out BK277.out (by decide)) (fun _ hk=>hk.2) (.int .i64 t272)) (fun _ hk=>hk.2) (.slice Ao13 t273.length co13)) (fun _ h_=>h_.1))) hb);have n2_:=zz31 (Kd.R_lower (Kd.R_new' ho0 (Kd.R_lt (by (with_reducible repeat (first | apply zz12 | apply zz13 | apply zz14));exact (Kd.R_mono (Kd.R_far (p:=⟨gb277,1,none⟩) (Kd.R_far (p:=⟨gb277,0,none⟩) (Kd.R_types HO271.out BK277.out (by decide)) (fun _ hk=>hk.2) (.int .i64 t272)) (fun _ hk=>hk.2) (.slice Ao13 t273.length co13)) (fun _ h_=>h_.1))))) (zz5 (by repeat first | exact HB.out | apply zz2 | apply zz0 | apply zz1 | refine zz3 ?_ GE277.out)));have n3_:=zz31 (zz11 (g:=gb277) (o:=.cells #[.int .i64 t272,.slice Ao13 t273.length co13] 32 (0,0)) (by (with_reducible repeat (first | refine zz6 ?_ _ | refine zz7 ?_ | refine zz8 ?_ _));refine blk_put (cs:=#[.int .i64 t272,.slice none 0 0]) ?_ 1 _ rfl;(with_reducible repeat (first | refine zz6 ?_ _ | refine zz7 ?_ | refine zz8 ?_ _));refine blk_put (cs:=#[.int .i64 0,.slice none 0 0]) ?_ 0 _ rfl;(with_reducible repeat (first | refine zz6 ?_ _ | refine zz7 ?_ | refine zz8 ?_ _));exact BK277.out) hb);have n4_:=zz31 (zz4 (by repeat first | exact HB.out | apply zz2 | apply zz0 | apply zz1 | refine zz3 ?_ GE277.out) hb);clear HO271;clear HO275;clear BK277;clear HB;have HO271:=n0_;have HO275:=n1_;have HO280:=n2_;have BK277:=n3_;have HB:=n4_;clear n0_ n1_ n2_ n3_ n4_;(try clear hb);(try clear hb2);(try clear hk);(try clear hi);(try clear ho0);obtain ⟨Ao15,co15,eo15⟩:=Kd.R_slice HO280.out;subst eo15) | ((with_reducible refine gate_callee (f:=45) rfl ?_);refine goesL_ (some 26) rfl rfl Try.func45 (by kernel_rfl) rfl #[.slice Ao15 t278.length co15] rfl (by (try simp only [zz26,zz27,zz28]);first | done | rfl | (simp only [zz24,zz25];rfl)) ?_;(with_reducible refine (impl_PartyOfNumbers.calls k _ _ t278 t281 t282 t285 _ ?side1 ?side2 A6.out).mono ?_);(case side1=>repeat (first | exact (Kd.R_reads' HO280.out).2.2 | (with_reducible refine zz18 ?_ _) | (with_reducible refine zz19 ?_ _) | (with_reducible refine zz20 ?_)));(case side2=>exact (Kd.R_reads' HO280.out).2.1);rintro e w16 ⟨v283,rfl,ho0,hb⟩;refine ⟨_,rfl,?_⟩;have n0_:=zz31 (Kd.R_below (by (with_reducible repeat (first | apply zz12 | apply zz13 | apply zz14));exact HO271.out) hb);have n1_:=zz31 (Kd.R_elder' (by (with_reducible repeat (first | apply zz12 | apply zz13 | apply zz14));exact HO275.out) (Kd.R_base ho0) hb);have n2_:=zz31 (Kd.R_below (by (with_reducible repeat (first | apply zz12 | apply zz13 | apply zz14));exact HO280.out) hb);have n3_:=zz31 (Kd.R_lower (Kd.R_new' ho0 (Kd.R_lt (by (with_reducible repeat (first | apply zz12 | apply zz13 | apply zz14));exact HO275.out))) (zz5 (by repeat first | exact HB.out | apply zz2 | apply zz0 | apply zz1 | refine zz3 ?_ GE277.out)));have n4_:=zz31 (zz11 (g:=gb277) (o:=.cells #[.int .i64 t272,.slice Ao13 t273.length co13] 32 (0,0)) (by (with_reducible repeat (first | refine zz6 ?_ _ | refine zz7 ?_ | refine zz8 ?_ _));exact BK277.out) hb);have n5_:=zz31 (zz4 (by repeat first | exact HB.out | apply zz2 | apply zz0 | apply zz1 | refine zz3 ?_ GE277.out) hb);clear HO271;clear HO275;clear HO280;clear BK277;clear HB;have HO271:=n0_;have HO275:=n1_;have HO280:=n2_;have HO284:=n3_;have BK277:=n4_;have HB:=n5_;clear n0_ n1_ n2_ n3_ n4_ n5_;(try clear hb);(try clear hb2);(try clear hk);(try clear hi);(try clear ho0)) | ((with_reducible refine gate_dst (N:=6) rfl ?_);refine box_event ?hg (N:=6) ?hd (cs:=#[.int .i64 0,.slice none 0 0]) (t:=32) ?hr ?_;(case hd=>rfl);(case hg=>rfl);(case hr=>first | (go_simp;done) | (go_simp;rfl));intro gb286 hg w17 hbox hb;have n0_:=zz31 (Kd.R_below (by (with_reducible repeat (first | apply zz12 | apply zz13 | apply zz14));exact HO271.out) hb);have n1_:=zz31 (Kd.R_below (by (with_reducible repeat (first | apply zz12 | apply zz13 | apply zz14));exact HO275.out) hb);have n2_:=zz31 (Kd.R_below (by (with_reducible repeat (first | apply zz12 | apply zz13 | apply zz14));exact HO280.out) hb);have n3_:=zz31 (Kd.R_below (by (with_reducible repeat (first | apply zz12 | apply zz13 | apply zz14));exact HO284.out) hb);have n4_:=zz31 (zz11 (g:=gb277) (o:=.cells #[.int .i64 t272,.slice Ao13 t273.length co13] 32 (0,0)) (by (with_reducible repeat (first | refine zz6 ?_ _ | refine zz7 ?_ | refine zz8 ?_ _));exact BK277.out) hb);have n5_:=zz31 (zz4 (by repeat first | exact HB.out | apply zz2 | apply zz0 | apply zz1 | refine zz3 ?_ GE277.out) hb);have n6_:=zz31 (hbox);have n7_:=zz31 ((by rw [hg];exact (zz5 (by repeat first | exact HB.out | apply zz2 | apply zz0 | apply zz1 | refine zz3 ?_ GE277.out)):w.heap.size≤gb286));have n8_:=zz31 ((by rw [hg];exact (zz5 (by repeat first | exact HB.out | apply zz2 | apply zz0 | apply zz1 | refine zz3 ?_ GE277.out)):w.heap.size≤gb286));have n9_:=zz31 ((by rw [hg];exact Nat.ne_of_lt (blk_lt (g:=gb277) (o:=.cells #[.int .i64 t272,.slice Ao13 t273.length co13] 32 (0,0)) (by (with_reducible repeat (first | refine zz6 ?_ _ | refine zz7 ?_ | refine zz8 ?_ _));exact BK277.out)):gb277 ≠ gb286));have n10_:=zz31 ((by rw [hg];exact Nat.ne_of_gt (blk_lt (g:=gb277) (o:=.cells #[.int .i64 t272,.slice Ao13 t273.length co13] 32 (0,0)) (by (with_reducible repeat (first | refine zz6 ?_ _ | refine zz7 ?_ | refine zz8 ?_ _));exact BK277.out)):gb286 ≠ gb277));clear HO271;clear HO275;clear HO280;clear HO284;clear BK277;clear HB;have HO271:=n0_;have HO275:=n1_;have HO280:=n2_;have HO284:=n3_;have BK277:=n4_;have HB:=n5_;have BK286:=n6_;have GW286:=n7_;have GE286:=n8_;have NB277_286:=n9_;have NB286_277:=n10_;clear n0_ n1_ n2_ n3_ n4_ n5_ n6_ n7_ n8_ n9_ n10_;clear hb hbox hg;have hnb18:=NB286_277.out;have hnc18:=NB277_286.out;have hcz19_0:w17.cell? ⟨gb286,0,none⟩=some (.int .i64 0):=(zz9 BK286.out 0).trans rfl;have hcz19_1:w17.cell? ⟨gb286,1,none⟩=some (.slice none 0 0):=(zz9 BK286.out 1).trans rfl;have hfz19_0:=zz10 BK286.out 0;have hfz19_1:=zz10 BK286.out 1;obtain ⟨Ao20,co20,eo20⟩:=Kd.R_slice HO284.out;subst eo20))
  (try simp only [Act.put,zz21,zz22,zz23])
  go_cut [37] (fun v37 wc=>∃ (kq:Nat) (x37_6:Bool),v37=.bool x37_6∧Aside0 (laws_FnExactPartyOfNumbers.j0 kq l0 t276 t278 t285 x37_6 t272 t273 t281 t282=some r)∧Aside0 (kq≤k)∧Aside0 (Kd.R (Kd.int .i64) 3 wc w.heap.size (fun _=>True) (.slice Ao15 t278.length co15) t278)∧Aside0 (Kd.R k80 80 wc w.heap.size (fun k_=>some k_ ≠ ((.slice Ao20 t282.length co20):Value).ownBlock) (.slice Ao13 t273.length co13) t273)∧Aside0 (Kd.R k80 80 wc w.heap.size (fun k_=>some k_ ≠ ((.slice Ao13 t273.length co13):Value).ownBlock) (.slice Ao20 t282.length co20) t282)∧Aside0 (wc.heap[gb277]?=some (.cells #[.int .i64 t272,(.slice Ao13 t273.length co13)] 32 (0,0)))∧Aside0 (wc.heap[gb286]?=some (.cells #[.int .i64 t281,(.slice Ao20 t282.length co20)] 32 (0,0)))∧Aside0 (Below w.heap.size w wc))
  case first =>
   have H:=HC7.out
   clear HC7
   replace H:=zz30.mp H
   obtain ⟨t287,A210,H⟩:=H
   replace H:(if t287=true then (laws_FnExactPartyOfNumbers.j0 k l0 t276 t278 t285 (t285 != t276) t272 t273 t281 t282) else (laws_FnExactPartyOfNumbers.j0 k l0 t276 t278 t285 true t272 t273 t281 t282))=some r:=H
   have A21:=zz31 A210
   clear A210
   by_cases c22:t287=true
   ·subst c22
    have H1:(laws_FnExactPartyOfNumbers.j0 k l0 t276 t278 t285 (t285 != t276) t272 t273 t281 t282)=some r:=by rw [if_pos rfl] at H;exact H
    clear H
    have H:=H1
    clear H1
    have H':=zz31 H
    clear H
    have hnb23:=NB286_277.out
    have hnc23:=NB277_286.out
    have hcz24_0:w17.cell? ⟨gb286,0,none⟩=some (.int .i64 0):=(zz9 BK286.out 0).trans rfl
    have hcz24_1:w17.cell? ⟨gb286,1,none⟩=some (.slice none 0 0):=(zz9 BK286.out 1).trans rfl
    have hfz24_0:=zz10 BK286.out 0
    have hfz24_1:=zz10 BK286.out 1
    have hcz25_0:w17.cell? ⟨gb277,0,none⟩=some (.int .i64 t272):=(zz9 BK277.out 0).trans rfl
    have hcz25_1:w17.cell? ⟨gb277,1,none⟩=some (.slice Ao13 t273.length co13):=(zz9 BK277.out 1).trans rfl
    have hfz25_0:=zz10 BK277.out 0
    have hfz25_1:=zz10 BK277.out 1
    go_wp2_with (first | ((with_reducible refine gate_callee (f:=22) rfl ?_);refine goesL_ (some 31) rfl rfl Try.func22 (by kernel_rfl) rfl #[.agg #[.int .i64 t281,.slice Ao20 t282.length co20],.agg #[.int .i64 t272,.slice Ao13 t273.length co13]] rfl (by (try simp only [zz26,zz27,zz28]);first | done | rfl | (simp only [zz24,zz25];rfl)) ?_;(with_reducible refine (laws_eqParty.calls k t281 _ _ t282 t272 _ _ t273 true _ ?side1 ?side2 ?side3 ?side4 A21.out).mono ?_);(case side1=>refine (Kd.R_reads' (e:=80) (base:=w.heap.size) (ok:=fun k_=>(True∧some k_ ≠ (.slice Ao13 t273.length co13:Value).ownBlock)) (n:=t282.length) (c:=co20) ?_).2.2;exact (by (with_reducible repeat (first | apply zz12 | apply zz13 | apply zz14));exact (Kd.R_mono (Kd.R_far (p:=⟨gb286,1,none⟩) (Kd.R_far (p:=⟨gb286,0,none⟩) (Kd.R_types HO284.out BK286.out (by decide)) (fun _ hk=>hk.2) (.int .i64 t281)) (fun _ hk=>hk.2) (.slice Ao20 t282.length co20)) (fun _ h_=>h_.1))));(case side2=>exact (Kd.R_reads' HO284.out).2.1);(case side3=>refine (Kd.R_reads' (e:=80) (base:=w.heap.size) (ok:=fun k_=>(True∧some k_ ≠ (.slice Ao20 t282.length co20:Value).ownBlock)) (n:=t273.length) (c:=co13) ?_).2.2;exact (by (with_reducible repeat (first | apply zz12 | apply zz13 | apply zz14));exact (Kd.R_mono (Kd.R_far (p:=⟨gb286,1,none⟩) (Kd.R_far (p:=⟨gb286,0,none⟩) (Kd.R_types HO275.out BK286.out (by decide)) (fun _ hk=>hk.2) (.int .i64 t281)) (fun _ hk=>hk.2) (.slice Ao20 t282.length co20)) (fun _ h_=>h_.1))));(case side4=>exact (Kd.R_reads' HO275.out).2.1);rintro e w26 ⟨rfl,hb⟩;refine ⟨_,rfl,?_⟩;have n0_:=zz31 (Kd.R_below (by (with_reducible repeat (first | apply zz12 | apply zz13 | apply zz14));exact (Kd.R_mono (Kd.R_far (p:=⟨gb286,1,none⟩) (Kd.R_far (p:=⟨gb286,0,none⟩) (Kd.R_types HO271.out BK286.out (by decide)) (fun _ hk=>hk.2) (.int .i64 t281)) (fun _ hk=>hk.2) (.slice Ao20 t282.length co20)) (fun _ h_=>h_.1))) hb);have n1_:=zz31 (Kd.R_below (by (with_reducible repeat (first | apply zz12 | apply zz13 | apply zz14));exact (Kd.R_mono (Kd.R_far (p:=⟨gb286,1,none⟩) (Kd.R_far (p:=⟨gb286,0,none⟩) (Kd.R_types HO275.out BK286.out (by decide)) (fun _ hk=>hk.2) (.int .i64 t281)) (fun _ hk=>hk.2) (.slice Ao20 t282.length co20)) (fun _ h_=>h_.1))) hb);have n2_:=zz31 (Kd.R_below (by (with_reducible repeat (first | apply zz12 | apply zz13 | apply zz14));exact (Kd.R_mono (Kd.R_far (p:=⟨gb286,1,none⟩) (Kd.R_far (p:=⟨gb286,0,none⟩) (Kd.R_types HO280.out BK286.out (by decide)) (fun _ hk=>hk.2) (.int .i64 t281)) (fun _ hk=>hk.2) (.slice Ao20 t282.length co20)) (fun _ h_=>h_.1))) hb);have n3_:=zz31 (Kd.R_below (by (with_reducible repeat (first | apply zz12 | apply zz13 | apply zz14));exact (Kd.R_mono (Kd.R_far (p:=⟨gb286,1,none⟩) (Kd.R_far (p:=⟨gb286,0,none⟩) (Kd.R_types HO284.out BK286.out (by decide)) (fun _ hk=>hk.2) (.int .i64 t281)) (fun _ hk=>hk.2) (.slice Ao20 t282.length co20)) (fun _ h_=>h_.1))) hb);have n4_:=zz31 (zz11 (g:=gb277) (o:=.cells #[.int .i64 t272,.slice Ao13 t273.length co13] 32 (0,0)) (by (with_reducible repeat (first | refine zz6 ?_ _ | refine zz7 ?_ | refine zz8 ?_ _));refine blk_far ?_ NB277_286.out _;(with_reducible repeat (first | refine zz6 ?_ _ | refine zz7 ?_ | refine zz8 ?_ _));refine blk_far ?_ NB277_286.out _;(with_reducible repeat (first | refine zz6 ?_ _ | refine zz7 ?_ | refine zz8 ?_ _));exact BK277.out) hb);have n5_:=zz31 (zz11 (g:=gb286) (o:=.cells #[.int .i64 t281,.slice Ao20 t282.length co20] 32 (0,0)) (by (with_reducible repeat (first | refine zz6 ?_ _ | refine zz7 ?_ | refine zz8 ?_ _));refine blk_put (cs:=#[.int .i64 t281,.slice none 0 0]) ?_ 1 _ rfl;(with_reducible repeat (first | refine zz6 ?_ _ | refine zz7 ?_ | refine zz8 ?_ _));refine blk_put (cs:=#[.int .i64 0,.slice none 0 0]) ?_ 0 _ rfl;(with_reducible repeat (first | refine zz6 ?_ _ | refine zz7 ?_ | refine zz8 ?_ _));exact BK286.out) hb);have n6_:=zz31 (zz4 (by repeat first | exact HB.out | apply zz2 | apply zz0 | apply zz1 | refine zz3 ?_ GE277.out | refine zz3 ?_ GE286.out) hb);clear HO271;clear HO275;clear HO280;clear HO284;clear BK277;clear BK286;clear HB;have HO271:=n0_;have HO275:=n1_;have HO280:=n2_;have HO284:=n3_;have BK277:=n4_;have BK286:=n5_;have HB:=n6_;clear n0_ n1_ n2_ n3_ n4_ n5_ n6_;(try clear hb);(try clear hb2);(try clear hk);(try clear hi)))
    go_meet
    case rel=>exact ⟨_,((t285 != t276)),(by first | rfl | (simp;done) | (simp [*];done)),H',⟨by first | omega | exact Nat.le_refl _⟩,⟨by (with_reducible repeat (first | apply zz12 | apply zz13 | apply zz14));exact Kd.R_mono HO280.out (fun _ hk=>trivial)⟩,⟨by (with_reducible repeat (first | apply zz12 | apply zz13 | apply zz14));exact Kd.R_mono HO275.out (fun _ hk=>hk.2)⟩,⟨by (with_reducible repeat (first | apply zz12 | apply zz13 | apply zz14));exact Kd.R_mono HO284.out (fun _ hk=>hk.2)⟩,⟨by (with_reducible repeat (first | refine zz6 ?_ _ | refine zz7 ?_ | refine zz8 ?_ _));exact BK277.out⟩,⟨by (with_reducible repeat (first | refine zz6 ?_ _ | refine zz7 ?_ | refine zz8 ?_ _));exact BK286.out⟩,⟨by repeat first | exact HB.out | apply zz2 | apply zz0 | apply zz1 | refine zz3 ?_ GE277.out | refine zz3 ?_ GE286.out⟩⟩
   ·replace c22:=Bool.eq_false_iff.mpr c22
    subst c22
    have H1:(laws_FnExactPartyOfNumbers.j0 k l0 t276 t278 t285 true t272 t273 t281 t282)=some r:=by rw [if_neg (show ¬ (false=true) by decide)] at H;exact H
    clear H
    have H:=H1
    clear H1
    have H':=zz31 H
    clear H
    have hnb27:=NB286_277.out
    have hnc27:=NB277_286.out
    have hcz28_0:w17.cell? ⟨gb286,0,none⟩=some (.int .i64 0):=(zz9 BK286.out 0).trans rfl
    have hcz28_1:w17.cell? ⟨gb286,1,none⟩=some (.slice none 0 0):=(zz9 BK286.out 1).trans rfl
    have hfz28_0:=zz10 BK286.out 0
    have hfz28_1:=zz10 BK286.out 1
    have hcz29_0:w17.cell? ⟨gb277,0,none⟩=some (.int .i64 t272):=(zz9 BK277.out 0).trans rfl
    have hcz29_1:w17.cell? ⟨gb277,1,none⟩=some (.slice Ao13 t273.length co13):=(zz9 BK277.out 1).trans rfl
    have hfz29_0:=zz10 BK277.out 0
    have hfz29_1:=zz10 BK277.out 1
    go_wp2_with (first | ((with_reducible refine gate_callee (f:=22) rfl ?_);refine goesL_ (some 31) rfl rfl Try.func22 (by kernel_rfl) rfl #[.agg #[.int .i64 t281,.slice Ao20 t282.length co20],.agg #[.int .i64 t272,.slice Ao13 t273.length co13]] rfl (by (try simp only [zz26,zz27,zz28]);first | done | rfl | (simp only [zz24,zz25];rfl)) ?_;(with_reducible refine (laws_eqParty.calls k t281 _ _ t282 t272 _ _ t273 false _ ?side1 ?side2 ?side3 ?side4 A21.out).mono ?_);(case side1=>refine (Kd.R_reads' (e:=80) (base:=w.heap.size) (ok:=fun k_=>(True∧some k_ ≠ (.slice Ao13 t273.length co13:Value).ownBlock)) (n:=t282.length) (c:=co20) ?_).2.2;exact (by (with_reducible repeat (first | apply zz12 | apply zz13 | apply zz14));exact (Kd.R_mono (Kd.R_far (p:=⟨gb286,1,none⟩) (Kd.R_far (p:=⟨gb286,0,none⟩) (Kd.R_types HO284.out BK286.out (by decide)) (fun _ hk=>hk.2) (.int .i64 t281)) (fun _ hk=>hk.2) (.slice Ao20 t282.length co20)) (fun _ h_=>h_.1))));(case side2=>exact (Kd.R_reads' HO284.out).2.1);(case side3=>refine (Kd.R_reads' (e:=80) (base:=w.heap.size) (ok:=fun k_=>(True∧some k_ ≠ (.slice Ao20 t282.length co20:Value).ownBlock)) (n:=t273.length) (c:=co13) ?_).2.2;exact (by (with_reducible repeat (first | apply zz12 | apply zz13 | apply zz14));exact (Kd.R_mono (Kd.R_far (p:=⟨gb286,1,none⟩) (Kd.R_far (p:=⟨gb286,0,none⟩) (Kd.R_types HO275.out BK286.out (by decide)) (fun _ hk=>hk.2) (.int .i64 t281)) (fun _ hk=>hk.2) (.slice Ao20 t282.length co20)) (fun _ h_=>h_.1))));(case side4=>exact (Kd.R_reads' HO275.out).2.1);rintro e w30 ⟨rfl,hb⟩;refine ⟨_,rfl,?_⟩;have n0_:=zz31 (Kd.R_below (by (with_reducible repeat (first | apply zz12 | apply zz13 | apply zz14));exact (Kd.R_mono (Kd.R_far (p:=⟨gb286,1,none⟩) (Kd.R_far (p:=⟨gb286,0,none⟩) (Kd.R_types HO271.out BK286.out (by decide)) (fun _ hk=>hk.2) (.int .i64 t281)) (fun _ hk=>hk.2) (.slice Ao20 t282.length co20)) (fun _ h_=>h_.1))) hb);have n1_:=zz31 (Kd.R_below (by (with_reducible repeat (first | apply zz12 | apply zz13 | apply zz14));exact (Kd.R_mono (Kd.R_far (p:=⟨gb286,1,none⟩) (Kd.R_far (p:=⟨gb286,0,none⟩) (Kd.R_types HO275.out BK286.out (by decide)) (fun _ hk=>hk.2) (.int .i64 t281)) (fun _ hk=>hk.2) (.slice Ao20 t282.length co20)) (fun _ h_=>h_.1))) hb);have n2_:=zz31 (Kd.R_below (by (with_reducible repeat (first | apply zz12 | apply zz13 | apply zz14));exact (Kd.R_mono (Kd.R_far (p:=⟨gb286,1,none⟩) (Kd.R_far (p:=⟨gb286,0,none⟩) (Kd.R_types HO280.out BK286.out (by decide)) (fun _ hk=>hk.2) (.int .i64 t281)) (fun _ hk=>hk.2) (.slice Ao20 t282.length co20)) (fun _ h_=>h_.1))) hb);have n3_:=zz31 (Kd.R_below (by (with_reducible repeat (first | apply zz12 | apply zz13 | apply zz14));exact (Kd.R_mono (Kd.R_far (p:=⟨gb286,1,none⟩) (Kd.R_far (p:=⟨gb286,0,none⟩) (Kd.R_types HO284.out BK286.out (by decide)) (fun _ hk=>hk.2) (.int .i64 t281)) (fun _ hk=>hk.2) (.slice Ao20 t282.length co20)) (fun _ h_=>h_.1))) hb);have n4_:=zz31 (zz11 (g:=gb277) (o:=.cells #[.int .i64 t272,.slice Ao13 t273.length co13] 32 (0,0)) (by (with_reducible repeat (first | refine zz6 ?_ _ | refine zz7 ?_ | refine zz8 ?_ _));refine blk_far ?_ NB277_286.out _;(with_reducible repeat (first | refine zz6 ?_ _ | refine zz7 ?_ | refine zz8 ?_ _));refine blk_far ?_ NB277_286.out _;(with_reducible repeat (first | refine zz6 ?_ _ | refine zz7 ?_ | refine zz8 ?_ _));exact BK277.out) hb);have n5_:=zz31 (zz11 (g:=gb286) (o:=.cells #[.int .i64 t281,.slice Ao20 t282.length co20] 32 (0,0)) (by (with_reducible repeat (first | refine zz6 ?_ _ | refine zz7 ?_ | refine zz8 ?_ _));refine blk_put (cs:=#[.int .i64 t281,.slice none 0 0]) ?_ 1 _ rfl;(with_reducible repeat (first | refine zz6 ?_ _ | refine zz7 ?_ | refine zz8 ?_ _));refine blk_put (cs:=#[.int .i64 0,.slice none 0 0]) ?_ 0 _ rfl;(with_reducible repeat (first | refine zz6 ?_ _ | refine zz7 ?_ | refine zz8 ?_ _));exact BK286.out) hb);have n6_:=zz31 (zz4 (by repeat first | exact HB.out | apply zz2 | apply zz0 | apply zz1 | refine zz3 ?_ GE277.out | refine zz3 ?_ GE286.out) hb);clear HO271;clear HO275;clear HO280;clear HO284;clear BK277;clear BK286;clear HB;have HO271:=n0_;have HO275:=n1_;have HO280:=n2_;have HO284:=n3_;have BK277:=n4_;have BK286:=n5_;have HB:=n6_;clear n0_ n1_ n2_ n3_ n4_ n5_ n6_;(try clear hb);(try clear hb2);(try clear hk);(try clear hi)))
    go_meet
    case rel=>exact ⟨_,(true),(by first | rfl | (simp;done) | (simp [*];done)),H',⟨by first | omega | exact Nat.le_refl _⟩,⟨by (with_reducible repeat (first | apply zz12 | apply zz13 | apply zz14));exact Kd.R_mono HO280.out (fun _ hk=>trivial)⟩,⟨by (with_reducible repeat (first | apply zz12 | apply zz13 | apply zz14));exact Kd.R_mono HO275.out (fun _ hk=>hk.2)⟩,⟨by (with_reducible repeat (first | apply zz12 | apply zz13 | apply zz14));exact Kd.R_mono HO284.out (fun _ hk=>hk.2)⟩,⟨by (with_reducible repeat (first | refine zz6 ?_ _ | refine zz7 ?_ | refine zz8 ?_ _));exact BK277.out⟩,⟨by (with_reducible repeat (first | refine zz6 ?_ _ | refine zz7 ?_ | refine zz8 ?_ _));exact BK286.out⟩,⟨by repeat first | exact HB.out | apply zz2 | apply zz0 | apply zz1 | refine zz3 ?_ GE277.out | refine zz3 ?_ GE286.out⟩⟩
  case rest =>
   clear HC7
   try clear c1
   try clear c2
   try clear c2b0
   try clear c2b1
   try clear p2
   try clear c4
   try clear c13
   try clear c15
   try clear c18
   try clear c22
   try clear c23
   try clear c27
   try clear hcz12_0
   try clear hcz12_1
   try clear hcz19_0
   try clear hcz19_1
   try clear hcz24_0
   try clear hcz24_1
   try clear hcz25_0
   try clear hcz25_1
   try clear hcz28_0
   try clear hcz28_1
   try clear hcz29_0
   try clear hcz29_1
   try clear hfz12_0
   try clear hfz12_1
   try clear hfz19_0
   try clear hfz19_1
   try clear hfz24_0
   try clear hfz24_1
   try clear hfz25_0
   try clear hfz25_1
   try clear hfz28_0
   try clear hfz28_1
   try clear hfz29_0
   try clear hfz29_1
   obtain ⟨kq,x37_6,rfl,HA,HJ6,HO_5,HO_278001,HO_287001,BK277,BK286,HB⟩:=hcut
   cases kq with
   | zero=>exact absurd HA.out (by simp [laws_FnExactPartyOfNumbers.j0])
   | succ kj6 =>
    have H:=HA.out
    clear HA
    simp only [laws_FnExactPartyOfNumbers.j0] at H
    by_cases c31:x37_6=true
    ·subst c31
     have H1:(some false)=some r:=by rw [if_pos rfl] at H;exact H
     clear H
     have H:=H1
     clear H1
     obtain rfl:=Option.some.inj H
     go_wp2
     go_ret
     exact ⟨by first | rfl | (simp [errW_none,errW_some] <;> rfl) | (simp [*,errW_none,errW_some] <;> rfl),by repeat first | exact HB.out | apply zz2 | apply zz0 | apply zz1 | refine zz3 ?_ GE277.out | refine zz3 ?_ GE286.out⟩
    ·replace c31:=Bool.eq_false_iff.mpr c31
     subst c31
     have H1:((laws_toIntS.f kj6 l0).bind fun t288=>((laws_eqIntS.f kj6 t278 t288).bind fun t291=>(if t291=true then ((laws_markIntS.f kj6 t278 1).bind fun bt292=>(if bt292.1 < 0 then (laws_FnExactPartyOfNumbers.j1 kj6 l0 t276 true t272 t273 t281 t282) else ((laws_eqParty.f kj6 t281 t282 t272 t273).bind fun t294=>(if t294=true then (laws_FnExactPartyOfNumbers.j1 kj6 l0 t276 (t285 != t276) t272 t273 t281 t282) else (laws_FnExactPartyOfNumbers.j1 kj6 l0 t276 true t272 t273 t281 t282))))) else (some false))))=some r:=by rw [if_neg (show ¬ (false=true) by decide)] at H;exact H
     clear H
     have H:=H1
     clear H1
     replace H:=zz30.mp H
     obtain ⟨t288,A320,H⟩:=H
     replace H:((laws_eqIntS.f kj6 t278 t288).bind fun t291=>(if t291=true then ((laws_markIntS.f kj6 t278 1).bind fun bt292=>(if bt292.1 < 0 then (laws_FnExactPartyOfNumbers.j1 kj6 l0 t276 true t272 t273 t281 t282) else ((laws_eqParty.f kj6 t281 t282 t272 t273).bind fun t294=>(if t294=true then (laws_FnExactPartyOfNumbers.j1 kj6 l0 t276 (t285 != t276) t272 t273 t281 t282) else (laws_FnExactPartyOfNumbers.j1 kj6 l0 t276 true t272 t273 t281 t282))))) else (some false)))=some r:=H
     have A32:=zz31 A320
     clear A320
     replace H:=zz30.mp H
     obtain ⟨t291,A330,H⟩:=H
     replace H:(if t291=true then ((laws_markIntS.f kj6 t278 1).bind fun bt292=>(if bt292.1 < 0 then (laws_FnExactPartyOfNumbers.j1 kj6 l0 t276 true t272 t273 t281 t282) else ((laws_eqParty.f kj6 t281 t282 t272 t273).bind fun t294=>(if t294=true then (laws_FnExactPartyOfNumbers.j1 kj6 l0 t276 (t285 != t276) t272 t273 t281 t282) else (laws_FnExactPartyOfNumbers.j1 kj6 l0 t276 true t272 t273 t281 t282))))) else (some false))=some r:=H
     have A33:=zz31 A330
     clear A330
     by_cases c34:t291=true
     ·subst c34
      have H1:((laws_markIntS.f kj6 t278 1).bind fun bt292=>(if bt292.1 < 0 then (laws_FnExactPartyOfNumbers.j1 kj6 l0 t276 true t272 t273 t281 t282) else ((laws_eqParty.f kj6 t281 t282 t272 t273).bind fun t294=>(if t294=true then (laws_FnExactPartyOfNumbers.j1 kj6 l0 t276 (t285 != t276) t272 t273 t281 t282) else (laws_FnExactPartyOfNumbers.j1 kj6 l0 t276 true t272 t273 t281 t282)))))=some r:=by rw [if_pos rfl] at H;exact H
      clear H
      have H:=H1
      clear H1
      replace H:=zz30.mp H
      obtain ⟨⟨t292,t293⟩,A350,H⟩:=H
      replace H:(if t292 < 0 then (laws_FnExactPartyOfNumbers.j1 kj6 l0 t276 true t272 t273 t281 t282) else ((laws_eqParty.f kj6 t281 t282 t272 t273).bind fun t294=>(if t294=true then (laws_FnExactPartyOfNumbers.j1 kj6 l0 t276 (t285 != t276) t272 t273 t281 t282) else (laws_FnExactPartyOfNumbers.j1 kj6 l0 t276 true t272 t273 t281 t282))))=some r:=H
      have A35:=zz31 A350
      clear A350
      have HC36:=zz31 H
      clear H
      go_upto_region 12 with (first | ((with_reducible refine gate_callee (f:=15) rfl ?_);refine goesL_ (some 40) rfl rfl Try.func15 (by kernel_rfl) rfl #[.slice A0 l0.length c0] rfl (by (try simp only [zz26,zz27,zz28]);first | done | rfl | (simp only [zz24,zz25];rfl)) ?_;(with_reducible refine (laws_toIntS.calls kj6 _ _ l0 t288 _ ?side1 ?side2 A32.out).mono ?_);(case side1=>repeat (first | exact (Kd.C_below HR0.out HB.out) | (with_reducible refine zz18 ?_ _) | (with_reducible refine zz19 ?_ _) | (with_reducible refine zz20 ?_)));(case side2=>exact HC0.out);rintro e w37 ⟨v289,rfl,ho0,hb⟩;refine ⟨_,rfl,?_⟩;have n0_:=zz31 (Kd.R_elder' (by (with_reducible repeat (first | apply zz12 | apply zz13 | apply zz14));exact HO_5.out) (Kd.R_base ho0) hb);have n1_:=zz31 (Kd.R_below (by (with_reducible repeat (first | apply zz12 | apply zz13 | apply zz14));exact HO_278001.out) hb);have n2_:=zz31 (Kd.R_below (by (with_reducible repeat (first | apply zz12 | apply zz13 | apply zz14));exact HO_287001.out) hb);have n3_:=zz31 (Kd.R_lower (Kd.R_new' ho0 (Kd.R_lt (by (with_reducible repeat (first | apply zz12 | apply zz13 | apply zz14));exact HO_5.out))) (zz5 (by repeat first | exact HB.out | apply zz2 | apply zz0 | apply zz1 | refine zz3 ?_ GE277.out | refine zz3 ?_ GE286.out)));have n4_:=zz31 (zz11 (g:=gb277) (o:=.cells #[.int .i64 t272,.slice Ao13 t273.length co13] 32 (0,0)) (by (with_reducible repeat (first | refine zz6 ?_ _ | refine zz7 ?_ | refine zz8 ?_ _));exact BK277.out) hb);have n5_:=zz31 (zz11 (g:=gb286) (o:=.cells #[.int .i64 t281,.slice Ao20 t282.length co20] 32 (0,0)) (by (with_reducible repeat (first | refine zz6 ?_ _ | refine zz7 ?_ | refine zz8 ?_ _));exact BK286.out) hb);have n6_:=zz31 (zz4 (by repeat first | exact HB.out | apply zz2 | apply zz0 | apply zz1 | refine zz3 ?_ GE277.out | refine zz3 ?_ GE286.out) hb);clear HO_5;clear HO_278001;clear HO_287001;clear BK277;clear BK286;clear HB;have HO_5:=n0_;have HO_278001:=n1_;have HO_287001:=n2_;have HO290:=n3_;have BK277:=n4_;have BK286:=n5_;have HB:=n6_;clear n0_ n1_ n2_ n3_ n4_ n5_ n6_;(try clear hb);(try clear hb2);(try clear hk);(try clear hi);(try clear ho0);obtain ⟨Ao38,co38,eo38⟩:=Kd.R_slice HO290.out;subst eo38) | ((with_reducible refine gate_callee (f:=17) rfl ?_);refine goesL_ (some 41) rfl rfl Try.func17 (by kernel_rfl) rfl #[.slice Ao15 t278.length co15,.slice Ao38 t288.length co38] rfl (by (try simp only [zz26,zz27,zz28]);first | done | rfl | (simp only [zz24,zz25];rfl)) ?_;(with_reducible refine (laws_eqIntS.calls kj6 _ _ t278 _ _ t288 true _ ?side1 ?side2 ?side3 ?side4 A33.out).mono ?_);(case side1=>repeat (first | exact (Kd.R_reads' HO_5.out).2.2 | (with_reducible refine zz18 ?_ _) | (with_reducible refine zz19 ?_ _) | (with_reducible refine zz20 ?_)));(case side2=>exact (Kd.R_reads' HO_5.out).2.1);(case side3=>repeat (first | exact (Kd.R_reads' HO290.out).2.2 | (with_reducible refine zz18 ?_ _) | (with_reducible refine zz19 ?_ _) | (with_reducible refine zz20 ?_)));(case side4=>exact (Kd.R_reads' HO290.out).2.1);rintro e w' ⟨rfl,⟨nd,rfl⟩⟩;refine ⟨_,rfl,?_⟩) | ((with_reducible refine gate_callee (f:=23) rfl ?_);refine goesL_ (some 45) rfl rfl Try.func23 (by kernel_rfl) rfl #[.slice Ao15 t278.length co15,.int .i64 1] rfl (by (try simp only [zz26,zz27,zz28]);first | done | rfl | (simp only [zz24,zz25];rfl)) ?_;(with_reducible refine (laws_markIntS.calls kj6 (fun k_=>some k_=(.slice Ao15 t278.length co15:Value).ownBlock) (.slice Ao15 t278.length co15) t278 1 t292 t293 w _ ?side1 ?side2 A35.out).mono ?_);(case side1=>repeat first | exact HB.out | apply zz2 | apply zz0 | apply zz1 | refine zz3 ?_ GE277.out | refine zz3 ?_ GE286.out);(case side2=>exact Kd.R_tight rfl HO_5.out);rintro e w39 ⟨rfl,hy0,hb,hkp⟩;refine ⟨_,rfl,?_⟩;have n0_:=zz31 (Kd.R_reok rfl hy0 (fun k_ e_=>HO_5.out.1 k_ e_));have n1_:=zz31 (Kd.R_mono (ok':=fun k_=>some k_ ≠ (.slice Ao20 t282.length co20:Value).ownBlock) (Kd.R_keptB ((Kd.R_apart' HO_278001.out (Kd.R_typed HO_5.out) (by decide))) hkp (fun k_ hk_ hs_=>(hk_.2) hs_)) (fun k_ hk_=>hk_.1.1));have n2_:=zz31 (Kd.R_mono (ok':=fun k_=>some k_ ≠ (.slice Ao13 t273.length co13:Value).ownBlock) (Kd.R_keptB ((Kd.R_apart' HO_287001.out (Kd.R_typed HO_5.out) (by decide))) hkp (fun k_ hk_ hs_=>(hk_.2) hs_)) (fun k_ hk_=>hk_.1.1));(first | have n3_:=zz31 (blk_kept BK277.out hkp (fun hs_=>(fun e_=>(Kd.R_ne HO_5.out BK277.out (by decide)) e_) hs_)) | have n3_:=zz31 (blk_kept (by (with_reducible repeat (first | refine zz6 ?_ _ | refine zz7 ?_ | refine zz8 ?_ _));exact BK277.out) hkp (fun hs_=>(fun e_=>(Kd.R_ne HO_5.out BK277.out (by decide)) e_) hs_)));(first | have n4_:=zz31 (blk_kept BK286.out hkp (fun hs_=>(fun e_=>(Kd.R_ne HO_5.out BK286.out (by decide)) e_) hs_)) | have n4_:=zz31 (blk_kept (by (with_reducible repeat (first | refine zz6 ?_ _ | refine zz7 ?_ | refine zz8 ?_ _));exact BK286.out) hkp (fun hs_=>(fun e_=>(Kd.R_ne HO_5.out BK286.out (by decide)) e_) hs_)));have n5_:=zz31 (Kd.R_mono (ok':=fun k_=>some k_ ≠ (.slice Ao15 t278.length co15:Value).ownBlock) (Kd.R_keptB (HO290.out) hkp (fun k_ hk_ hs_=>(hk_.2) hs_)) (fun k_ hk_=>hk_.1.2));have n6_:=zz31 (hb);clear HO_5;clear HO_278001;clear HO_287001;clear BK277;clear BK286;clear HO290;clear HB;have HO_5:=n0_;have HO_278001:=n1_;have HO_287001:=n2_;have BK277:=n3_;have BK286:=n4_;have HO290:=n5_;have HB:=n6_;clear n0_ n1_ n2_ n3_ n4_ n5_ n6_;(try clear hb);(try clear hkp);(try clear hy0)))
      (try simp only [Act.put,zz21,zz22,zz23])
      go_cut [58] (fun v58 wc=>∃ (kq:Nat) (x58_35:Bool),v58=.bool x58_35∧Aside0 (laws_FnExactPartyOfNumbers.j1 kq l0 t276 x58_35 t272 t273 t281 t282=some r)∧Aside0 (kq≤kj6)∧Aside0 (Kd.R k80 80 wc w.heap.size (fun k_=>some k_ ≠ ((.slice Ao20 t282.length co20):Value).ownBlock) (.slice Ao13 t273.length co13) t273)∧Aside0 (Kd.R k80 80 wc w.heap.size (fun k_=>some k_ ≠ ((.slice Ao13 t273.length co13):Value).ownBlock) (.slice Ao20 t282.length co20) t282)∧Aside0 (wc.heap[gb277]?=some (.cells #[.int .i64 t272,(.slice Ao13 t273.length co13)] 32 (0,0)))∧Aside0 (wc.heap[gb286]?=some (.cells #[.int .i64 t281,(.slice Ao20 t282.length co20)] 32 (0,0)))∧Aside0 (Below w.heap.size w wc))
      case first =>
       have H:=HC36.out
       clear HC36
       by_cases c40:t292 < 0
       ·rw [if_pos c40] at H
        have c40b0:decide (t292 < 0)=true:=decide_eq_true c40
        clear c40
        (first | rw [c40b0] | (simp only [i64_w,i32_w];rw [c40b0]) | skip)
        have H':=zz31 H
        clear H
        go_wp2
        go_meet
        case rel=>exact ⟨_,(true),(by first | rfl | (simp;done) | (simp [*];done)),H',⟨by have:=HJ6.out;first | omega | exact Nat.le_refl _⟩,⟨by (with_reducible repeat (first | apply zz12 | apply zz13 | apply zz14));exact HO_278001.out⟩,⟨by (with_reducible repeat (first | apply zz12 | apply zz13 | apply zz14));exact HO_287001.out⟩,⟨by (with_reducible repeat (first | refine zz6 ?_ _ | refine zz7 ?_ | refine zz8 ?_ _));exact BK277.out⟩,⟨by (with_reducible repeat (first | refine zz6 ?_ _ | refine zz7 ?_ | refine zz8 ?_ _));exact BK286.out⟩,⟨by repeat first | exact HB.out | apply zz2 | apply zz0 | apply zz1 | refine zz3 ?_ GE277.out | refine zz3 ?_ GE286.out⟩⟩
       ·rw [if_neg c40] at H
        have c40b0:decide (t292 < 0)=false:=decide_eq_false c40
        clear c40
        (first | rw [c40b0] | (simp only [i64_w,i32_w];rw [c40b0]) | skip)
        replace H:=zz30.mp H
        obtain ⟨t294,A410,H⟩:=H
        replace H:(if t294=true then (laws_FnExactPartyOfNumbers.j1 kj6 l0 t276 (t285 != t276) t272 t273 t281 t282) else (laws_FnExactPartyOfNumbers.j1 kj6 l0 t276 true t272 t273 t281 t282))=some r:=H
        have A41:=zz31 A410
        clear A410
        by_cases c42:t294=true
        ·subst c42
         have H1:(laws_FnExactPartyOfNumbers.j1 kj6 l0 t276 (t285 != t276) t272 t273 t281 t282)=some r:=by rw [if_pos rfl] at H;exact H
         clear H
         have H:=H1
         clear H1
         have H':=zz31 H
         clear H
         have hnb43:=NB286_277.out
         have hnc43:=NB277_286.out
         have hcz44_0:w39.cell? ⟨gb286,0,none⟩=some (.int .i64 t281):=(zz9 BK286.out 0).trans rfl
         have hcz44_1:w39.cell? ⟨gb286,1,none⟩=some (.slice Ao20 t282.length co20):=(zz9 BK286.out 1).trans rfl
         have hfz44_0:=zz10 BK286.out 0
         have hfz44_1:=zz10 BK286.out 1
         have hcz45_0:w39.cell? ⟨gb277,0,none⟩=some (.int .i64 t272):=(zz9 BK277.out 0).trans rfl
         have hcz45_1:w39.cell? ⟨gb277,1,none⟩=some (.slice Ao13 t273.length co13):=(zz9 BK277.out 1).trans rfl
         have hfz45_0:=zz10 BK277.out 0
         have hfz45_1:=zz10 BK277.out 1
         go_wp2_with (first | (go_at_call 22;(with_reducible refine (laws_eqParty.calls kj6 t281 _ _ t282 t272 _ _ t273 true _ ?side1 ?side2 ?side3 ?side4 A41.out).mono ?_);(case side1=>repeat (first | exact (Kd.R_reads' HO_287001.out).2.2 | (with_reducible refine zz18 ?_ _) | (with_reducible refine zz19 ?_ _) | (with_reducible refine zz20 ?_)));(case side2=>exact (Kd.R_reads' HO_287001.out).2.1);(case side3=>repeat (first | exact (Kd.R_reads' HO_278001.out).2.2 | (with_reducible refine zz18 ?_ _) | (with_reducible refine zz19 ?_ _) | (with_reducible refine zz20 ?_)));(case side4=>exact (Kd.R_reads' HO_278001.out).2.1);rintro e w46 ⟨rfl,hb⟩;have n0_:=zz31 (Kd.R_below (by (with_reducible repeat (first | apply zz12 | apply zz13 | apply zz14));exact HO_5.out) hb);have n1_:=zz31 (Kd.R_below (by (with_reducible repeat (first | apply zz12 | apply zz13 | apply zz14));exact HO_278001.out) hb);have n2_:=zz31 (Kd.R_below (by (with_reducible repeat (first | apply zz12 | apply zz13 | apply zz14));exact HO_287001.out) hb);have n3_:=zz31 (Kd.R_below (by (with_reducible repeat (first | apply zz12 | apply zz13 | apply zz14));exact HO290.out) hb);have n4_:=zz31 (zz11 (g:=gb277) (o:=.cells #[.int .i64 t272,.slice Ao13 t273.length co13] 32 (0,0)) (by (with_reducible repeat (first | refine zz6 ?_ _ | refine zz7 ?_ | refine zz8 ?_ _));exact BK277.out) hb);have n5_:=zz31 (zz11 (g:=gb286) (o:=.cells #[.int .i64 t281,.slice Ao20 t282.length co20] 32 (0,0)) (by (with_reducible repeat (first | refine zz6 ?_ _ | refine zz7 ?_ | refine zz8 ?_ _));exact BK286.out) hb);have n6_:=zz31 (zz4 (by repeat first | exact HB.out | apply zz2 | apply zz0 | apply zz1 | refine zz3 ?_ GE277.out | refine zz3 ?_ GE286.out) hb);clear HO_5;clear HO_278001;clear HO_287001;clear HO290;clear BK277;clear BK286;clear HB;have HO_5:=n0_;have HO_278001:=n1_;have HO_287001:=n2_;have HO290:=n3_;have BK277:=n4_;have BK286:=n5_;have HB:=n6_;clear n0_ n1_ n2_ n3_ n4_ n5_ n6_;(try clear hb);(try clear hb2);(try clear hk);(try clear hi)))
         go_meet
         case rel=>exact ⟨_,((t285 != t276)),(by first | rfl | (simp;done) | (simp [*];done)),H',⟨by have:=HJ6.out;first | omega | exact Nat.le_refl _⟩,⟨by (with_reducible repeat (first | apply zz12 | apply zz13 | apply zz14));exact HO_278001.out⟩,⟨by (with_reducible repeat (first | apply zz12 | apply zz13 | apply zz14));exact HO_287001.out⟩,⟨by (with_reducible repeat (first | refine zz6 ?_ _ | refine zz7 ?_ | refine zz8 ?_ _));exact BK277.out⟩,⟨by (with_reducible repeat (first | refine zz6 ?_ _ | refine zz7 ?_ | refine zz8 ?_ _));exact BK286.out⟩,⟨by repeat first | exact HB.out | apply zz2 | apply zz0 | apply zz1 | refine zz3 ?_ GE277.out | refine zz3 ?_ GE286.out⟩⟩
        ·replace c42:=Bool.eq_false_iff.mpr c42
         subst c42
         have H1:(laws_FnExactPartyOfNumbers.j1 kj6 l0 t276 true t272 t273 t281 t282)=some r:=by rw [if_neg (show ¬ (false=true) by decide)] at H;exact H
         clear H
         have H:=H1
         clear H1
         have H':=zz31 H
         clear H
         have hnb47:=NB286_277.out
         have hnc47:=NB277_286.out
         have hcz48_0:w39.cell? ⟨gb286,0,none⟩=some (.int .i64 t281):=(zz9 BK286.out 0).trans rfl
         have hcz48_1:w39.cell? ⟨gb286,1,none⟩=some (.slice Ao20 t282.length co20):=(zz9 BK286.out 1).trans rfl
         have hfz48_0:=zz10 BK286.out 0
         have hfz48_1:=zz10 BK286.out 1
         have hcz49_0:w39.cell? ⟨gb277,0,none⟩=some (.int .i64 t272):=(zz9 BK277.out 0).trans rfl
         have hcz49_1:w39.cell? ⟨gb277,1,none⟩=some (.slice Ao13 t273.length co13):=(zz9 BK277.out 1).trans rfl
         have hfz49_0:=zz10 BK277.out 0
         have hfz49_1:=zz10 BK277.out 1
         go_wp2_with (first | (go_at_call 22;(with_reducible refine (laws_eqParty.calls kj6 t281 _ _ t282 t272 _ _ t273 false _ ?side1 ?side2 ?side3 ?side4 A41.out).mono ?_);(case side1=>repeat (first | exact (Kd.R_reads' HO_287001.out).2.2 | (with_reducible refine zz18 ?_ _) | (with_reducible refine zz19 ?_ _) | (with_reducible refine zz20 ?_)));(case side2=>exact (Kd.R_reads' HO_287001.out).2.1);(case side3=>repeat (first | exact (Kd.R_reads' HO_278001.out).2.2 | (with_reducible refine zz18 ?_ _) | (with_reducible refine zz19 ?_ _) | (with_reducible refine zz20 ?_)));(case side4=>exact (Kd.R_reads' HO_278001.out).2.1);rintro e w50 ⟨rfl,hb⟩;have n0_:=zz31 (Kd.R_below (by (with_reducible repeat (first | apply zz12 | apply zz13 | apply zz14));exact HO_5.out) hb);have n1_:=zz31 (Kd.R_below (by (with_reducible repeat (first | apply zz12 | apply zz13 | apply zz14));exact HO_278001.out) hb);have n2_:=zz31 (Kd.R_below (by (with_reducible repeat (first | apply zz12 | apply zz13 | apply zz14));exact HO_287001.out) hb);have n3_:=zz31 (Kd.R_below (by (with_reducible repeat (first | apply zz12 | apply zz13 | apply zz14));exact HO290.out) hb);have n4_:=zz31 (zz11 (g:=gb277) (o:=.cells #[.int .i64 t272,.slice Ao13 t273.length co13] 32 (0,0)) (by (with_reducible repeat (first | refine zz6 ?_ _ | refine zz7 ?_ | refine zz8 ?_ _));exact BK277.out) hb);have n5_:=zz31 (zz11 (g:=gb286) (o:=.cells #[.int .i64 t281,.slice Ao20 t282.length co20] 32 (0,0)) (by (with_reducible repeat (first | refine zz6 ?_ _ | refine zz7 ?_ | refine zz8 ?_ _));exact BK286.out) hb);have n6_:=zz31 (zz4 (by repeat first | exact HB.out | apply zz2 | apply zz0 | apply zz1 | refine zz3 ?_ GE277.out | refine zz3 ?_ GE286.out) hb);clear HO_5;clear HO_278001;clear HO_287001;clear HO290;clear BK277;clear BK286;clear HB;have HO_5:=n0_;have HO_278001:=n1_;have HO_287001:=n2_;have HO290:=n3_;have BK277:=n4_;have BK286:=n5_;have HB:=n6_;clear n0_ n1_ n2_ n3_ n4_ n5_ n6_;(try clear hb);(try clear hb2);(try clear hk);(try clear hi)))
         go_meet
         case rel=>exact ⟨_,(true),(by first | rfl | (simp;done) | (simp [*];done)),H',⟨by have:=HJ6.out;first | omega | exact Nat.le_refl _⟩,⟨by (with_reducible repeat (first | apply zz12 | apply zz13 | apply zz14));exact HO_278001.out⟩,⟨by (with_reducible repeat (first | apply zz12 | apply zz13 | apply zz14));exact HO_287001.out⟩,⟨by (with_reducible repeat (first | refine zz6 ?_ _ | refine zz7 ?_ | refine zz8 ?_ _));exact BK277.out⟩,⟨by (with_reducible repeat (first | refine zz6 ?_ _ | refine zz7 ?_ | refine zz8 ?_ _));exact BK286.out⟩,⟨by repeat first | exact HB.out | apply zz2 | apply zz0 | apply zz1 | refine zz3 ?_ GE277.out | refine zz3 ?_ GE286.out⟩⟩
      case rest =>
       clear HC36
       try clear c1
       try clear c2
       try clear c2b0
       try clear c2b1
       try clear p2
       try clear c3
       try clear c4
       try clear c13
       try clear c15
       try clear c17
       try clear c18
       try clear c22
       try clear c23
       try clear c27
       try clear c31
       try clear c34
       try clear c40
       try clear c40b0
       try clear c42
       try clear c43
       try clear c44
       try clear c45
       try clear c47
       try clear hcz12_0
       try clear hcz12_1
       try clear hcz19_0
       try clear hcz19_1
       try clear hcz24_0
       try clear hcz24_1
       try clear hcz25_0
       try clear hcz25_1
       try clear hcz28_0
       try clear hcz28_1
       try clear hcz29_0
       try clear hcz29_1
       try clear hcz44_0
       try clear hcz44_1
       try clear hcz45_0
       try clear hcz45_1
       try clear hcz48_0
       try clear hcz48_1
       try clear hcz49_0
       try clear hcz49_1
       try clear hfz12_0
       try clear hfz12_1
       try clear hfz19_0
       try clear hfz19_1
       try clear hfz24_0
       try clear hfz24_1
       try clear hfz25_0
       try clear hfz25_1
       try clear hfz28_0
       try clear hfz28_1
       try clear hfz29_0
       try clear hfz29_1
       try clear hfz44_0
       try clear hfz44_1
       try clear hfz45_0
       try clear hfz45_1
       try clear hfz48_0
       try clear hfz48_1
       try clear hfz49_0
       try clear hfz49_1
       try clear p2
       obtain ⟨kq,x58_35,rfl,HA,HJ35,HO_278001,HO_287001,BK277,BK286,HB⟩:=hcut
       cases kq with
       | zero=>exact absurd HA.out (by simp [laws_FnExactPartyOfNumbers.j1])
       | succ kj35 =>
        have H:=HA.out
        clear HA
        simp only [laws_FnExactPartyOfNumbers.j1] at H
        by_cases c51:x58_35=true
        ·subst c51
         have H1:(some false)=some r:=by rw [if_pos rfl] at H;exact H
         clear H
         have H:=H1
         clear H1
         obtain rfl:=Option.some.inj H
         go_wp2
         go_ret
         exact ⟨by first | rfl | (simp [errW_none,errW_some] <;> rfl) | (simp [*,errW_none,errW_some] <;> rfl),by repeat first | exact HB.out | apply zz2 | apply zz0 | apply zz1 | refine zz3 ?_ GE277.out | refine zz3 ?_ GE286.out⟩
        ·replace c51:=Bool.eq_false_iff.mpr c51
         subst c51
         have H1:((laws_markParty.f kj35 t281 t282 1).bind fun bt295=>((laws_heldParty.f kj35 t281 bt295.2 1).bind fun t297=>(if t297 < 0 then (some false) else (if t297=bt295.1 then ((laws_toIntS.f kj35 l0).bind fun t298=>((impl_PartyOfNumbers.f kj35 t298).bind fun bt301=>((laws_eqParty.f kj35 bt301.1 bt301.2.1 t272 t273).bind fun t307=>(if t307=true then (laws_FnExactPartyOfNumbers.j2 kj35 bt295.1 (bt301.2.2 != t276) t281 bt295.2) else (laws_FnExactPartyOfNumbers.j2 kj35 bt295.1 true t281 bt295.2))))) else (some false)))))=some r:=by rw [if_neg (show ¬ (false=true) by decide)] at H;exact H
         clear H
         have H:=H1
         clear H1
         replace H:=zz30.mp H
         obtain ⟨⟨t295,t296⟩,A520,H⟩:=H
         replace H:((laws_heldParty.f kj35 t281 t296 1).bind fun t297=>(if t297 < 0 then (some false) else (if t297=t295 then ((laws_toIntS.f kj35 l0).bind fun t298=>((impl_PartyOfNumbers.f kj35 t298).bind fun bt301=>((laws_eqParty.f kj35 bt301.1 bt301.2.1 t272 t273).bind fun t307=>(if t307=true then (laws_FnExactPartyOfNumbers.j2 kj35 t295 (bt301.2.2 != t276) t281 t296) else (laws_FnExactPartyOfNumbers.j2 kj35 t295 true t281 t296))))) else (some false))))=some r:=H
         have A52:=zz31 A520
         clear A520
         replace H:=zz30.mp H
         obtain ⟨t297,A530,H⟩:=H
         replace H:(if t297 < 0 then (some false) else (if t297=t295 then ((laws_toIntS.f kj35 l0).bind fun t298=>((impl_PartyOfNumbers.f kj35 t298).bind fun bt301=>((laws_eqParty.f kj35 bt301.1 bt301.2.1 t272 t273).bind fun t307=>(if t307=true then (laws_FnExactPartyOfNumbers.j2 kj35 t295 (bt301.2.2 != t276) t281 t296) else (laws_FnExactPartyOfNumbers.j2 kj35 t295 true t281 t296))))) else (some false)))=some r:=H
         have A53:=zz31 A530
         clear A530
         by_cases c54:t297 < 0
         ·rw [if_pos c54] at H
          have c54b0:decide (t297 < 0)=true:=decide_eq_true c54
          clear c54
          obtain rfl:=Option.some.inj H
          have hnb55:=NB286_277.out
          have hnc55:=NB277_286.out
          have hcz56_0:wc.cell? ⟨gb286,0,none⟩=some (.int .i64 t281):=(zz9 BK286.out 0).trans rfl
          have hcz56_1:wc.cell? ⟨gb286,1,none⟩=some (.slice Ao20 t282.length co20):=(zz9 BK286.out 1).trans rfl
          have hfz56_0:=zz10 BK286.out 0
          have hfz56_1:=zz10 BK286.out 1
          go_wp2_with (first | ((with_reducible refine gate_callee (f:=24) rfl ?_);refine goesL_ (some 61) rfl rfl Try.func24 (by kernel_rfl) rfl #[.agg #[.int .i64 t281,.slice Ao20 t282.length co20],.int .i64 1] rfl (by (try simp only [zz26,zz27,zz28]);first | done | rfl | (simp only [zz24,zz25];rfl)) ?_;(with_reducible refine (laws_markParty.calls kj35 t281 (fun k_=>some k_=(.slice Ao20 t282.length co20:Value).ownBlock) (.slice Ao20 t282.length co20) t282 1 t295 t296 w _ ?side1 ?side2 A52.out).mono ?_);(case side1=>repeat first | exact HB.out | apply zz2 | apply zz0 | apply zz1 | refine zz3 ?_ GE277.out | refine zz3 ?_ GE286.out);(case side2=>exact Kd.R_tight rfl HO_287001.out);rintro e w57 ⟨rfl,hy0,hb,hkp⟩;refine ⟨_,rfl,?_⟩;have n0_:=zz31 (Kd.R_mono (ok':=fun k_=>some k_ ≠ (.slice Ao20 t282.length co20:Value).ownBlock) (Kd.R_keptB (HO_278001.out) hkp (fun k_ hk_ hs_=>(hk_) hs_)) (fun k_ hk_=>hk_.1));have n1_:=zz31 (Kd.R_reok rfl hy0 (fun k_ e_=>HO_287001.out.1 k_ e_));(first | have n2_:=zz31 (blk_kept BK277.out hkp (fun hs_=>(fun e_=>(Kd.R_ne HO_287001.out BK277.out (by decide)) e_) hs_)) | have n2_:=zz31 (blk_kept (by (with_reducible repeat (first | refine zz6 ?_ _ | refine zz7 ?_ | refine zz8 ?_ _));exact BK277.out) hkp (fun hs_=>(fun e_=>(Kd.R_ne HO_287001.out BK277.out (by decide)) e_) hs_)));(first | have n3_:=zz31 (blk_kept BK286.out hkp (fun hs_=>(fun e_=>(Kd.R_ne HO_287001.out BK286.out (by decide)) e_) hs_)) | have n3_:=zz31 (blk_kept (by (with_reducible repeat (first | refine zz6 ?_ _ | refine zz7 ?_ | refine zz8 ?_ _));exact BK286.out) hkp (fun hs_=>(fun e_=>(Kd.R_ne HO_287001.out BK286.out (by decide)) e_) hs_)));have n4_:=zz31 (hb);clear HO_278001;clear HO_287001;clear BK277;clear BK286;clear HB;have HO_278001:=n0_;have HO_287001:=n1_;have BK277:=n2_;have BK286:=n3_;have HB:=n4_;clear n0_ n1_ n2_ n3_ n4_;(try clear hb);(try clear hkp);(try clear hy0);have hcz58_0:w57.cell? ⟨gb286,0,none⟩=some (.int .i64 t281):=(zz9 BK286.out 0).trans rfl;have hcz58_1:w57.cell? ⟨gb286,1,none⟩=some (.slice Ao20 t282.length co20):=(zz9 BK286.out 1).trans rfl;have hfz58_0:=zz10 BK286.out 0;have hfz58_1:=zz10 BK286.out 1) | ((with_reducible refine gate_callee (f:=25) rfl ?_);refine goesL_ (some 64) rfl rfl Try.func25 (by kernel_rfl) rfl #[.agg #[.int .i64 t281,.slice Ao20 t296.length co20],.int .i64 1] rfl (by (try simp only [zz26,zz27,zz28]);first | done | (rw [show t296.length=t282.length from (Kd.R_reads' HO_287001.out).1.symm] <;> rfl) | rfl | (simp only [zz24,zz25];rfl)) ?_;(with_reducible refine (laws_heldParty.calls kj35 t281 _ _ t296 1 t297 _ ?side1 ?side2 A53.out).mono ?_);(case side1=>repeat (first | exact (Kd.R_reads' HO_287001.out).2.2 | (with_reducible refine zz18 ?_ _) | (with_reducible refine zz19 ?_ _) | (with_reducible refine zz20 ?_)));(case side2=>rw [show t296.length=t282.length from (Kd.R_reads' HO_287001.out).1.symm];exact (Kd.R_reads' HO_287001.out).2.1);rintro e w59 ⟨rfl,hb⟩;refine ⟨_,rfl,?_⟩;have n0_:=zz31 (Kd.R_below (by (with_reducible repeat (first | apply zz12 | apply zz13 | apply zz14));exact HO_278001.out) hb);have n1_:=zz31 (Kd.R_below (by (with_reducible repeat (first | apply zz12 | apply zz13 | apply zz14));exact HO_287001.out) hb);have n2_:=zz31 (zz11 (g:=gb277) (o:=.cells #[.int .i64 t272,.slice Ao13 t273.length co13] 32 (0,0)) (by (with_reducible repeat (first | refine zz6 ?_ _ | refine zz7 ?_ | refine zz8 ?_ _));exact BK277.out) hb);have n3_:=zz31 (zz11 (g:=gb286) (o:=.cells #[.int .i64 t281,.slice Ao20 t282.length co20] 32 (0,0)) (by (with_reducible repeat (first | refine zz6 ?_ _ | refine zz7 ?_ | refine zz8 ?_ _));exact BK286.out) hb);have n4_:=zz31 (zz4 (by repeat first | exact HB.out | apply zz2 | apply zz0 | apply zz1 | refine zz3 ?_ GE277.out | refine zz3 ?_ GE286.out) hb);clear HO_278001;clear HO_287001;clear BK277;clear BK286;clear HB;have HO_278001:=n0_;have HO_287001:=n1_;have BK277:=n2_;have BK286:=n3_;have HB:=n4_;clear n0_ n1_ n2_ n3_ n4_;(try clear hb);(try clear hb2);(try clear hk);(try clear hi)))
          go_ret
          exact ⟨by first | rfl | (simp [errW_none,errW_some] <;> rfl) | (simp [*,errW_none,errW_some] <;> rfl),by repeat first | exact HB.out | apply zz2 | apply zz0 | apply zz1 | refine zz3 ?_ GE277.out | refine zz3 ?_ GE286.out⟩
         ·rw [if_neg c54] at H
          have c54b0:decide (t297 < 0)=false:=decide_eq_false c54
          clear c54
          by_cases c60:t297=t295
          ·rw [if_pos c60] at H
           have c60b0:(t297 == t295)=true:=beq_iff_eq.mpr c60
           have c60b1:(t297 != t295)=false:=bne_eq_false_iff_eq.mpr c60
           clear c60
           replace H:=zz30.mp H
           obtain ⟨t298,A610,H⟩:=H
           replace H:((impl_PartyOfNumbers.f kj35 t298).bind fun bt301=>((laws_eqParty.f kj35 bt301.1 bt301.2.1 t272 t273).bind fun t307=>(if t307=true then (laws_FnExactPartyOfNumbers.j2 kj35 t295 (bt301.2.2 != t276) t281 t296) else (laws_FnExactPartyOfNumbers.j2 kj35 t295 true t281 t296))))=some r:=H
           have A61:=zz31 A610
           clear A610
           replace H:=zz30.mp H
           obtain ⟨⟨t301,t302,t305⟩,A620,H⟩:=H
           replace H:((laws_eqParty.f kj35 t301 t302 t272 t273).bind fun t307=>(if t307=true then (laws_FnExactPartyOfNumbers.j2 kj35 t295 (t305 != t276) t281 t296) else (laws_FnExactPartyOfNumbers.j2 kj35 t295 true t281 t296)))=some r:=H
           have A62:=zz31 A620
           clear A620
           have HC63:=zz31 H
           clear H
           have hnb64:=NB286_277.out
           have hnc64:=NB277_286.out
           have hcz65_0:wc.cell? ⟨gb286,0,none⟩=some (.int .i64 t281):=(zz9 BK286.out 0).trans rfl
           have hcz65_1:wc.cell? ⟨gb286,1,none⟩=some (.slice Ao20 t282.length co20):=(zz9 BK286.out 1).trans rfl
           have hfz65_0:=zz10 BK286.out 0
           have hfz65_1:=zz10 BK286.out 1
           go_upto_region 23 with (first | ((with_reducible refine gate_callee (f:=24) rfl ?_);refine goesL_ (some 61) rfl rfl Try.func24 (by kernel_rfl) rfl #[.agg #[.int .i64 t281,.slice Ao20 t282.length co20],.int .i64 1] rfl (by (try simp only [zz26,zz27,zz28]);first | done | rfl | (simp only [zz24,zz25];rfl)) ?_;(with_reducible refine (laws_markParty.calls kj35 t281 (fun k_=>some k_=(.slice Ao20 t282.length co20:Value).ownBlock) (.slice Ao20 t282.length co20) t282 1 t295 t296 w _ ?side1 ?side2 A52.out).mono ?_);(case side1=>repeat first | exact HB.out | apply zz2 | apply zz0 | apply zz1 | refine zz3 ?_ GE277.out | refine zz3 ?_ GE286.out);(case side2=>exact Kd.R_tight rfl HO_287001.out);rintro e w66 ⟨rfl,hy0,hb,hkp⟩;refine ⟨_,rfl,?_⟩;have n0_:=zz31 (Kd.R_mono (ok':=fun k_=>some k_ ≠ (.slice Ao20 t282.length co20:Value).ownBlock) (Kd.R_keptB (HO_278001.out) hkp (fun k_ hk_ hs_=>(hk_) hs_)) (fun k_ hk_=>hk_.1));have n1_:=zz31 (Kd.R_reok rfl hy0 (fun k_ e_=>HO_287001.out.1 k_ e_));(first | have n2_:=zz31 (blk_kept BK277.out hkp (fun hs_=>(fun e_=>(Kd.R_ne HO_287001.out BK277.out (by decide)) e_) hs_)) | have n2_:=zz31 (blk_kept (by (with_reducible repeat (first | refine zz6 ?_ _ | refine zz7 ?_ | refine zz8 ?_ _));exact BK277.out) hkp (fun hs_=>(fun e_=>(Kd.R_ne HO_287001.out BK277.out (by decide)) e_) hs_)));(first | have n3_:=zz31 (blk_kept BK286.out hkp (fun hs_=>(fun e_=>(Kd.R_ne HO_287001.out BK286.out (by decide)) e_) hs_)) | have n3_:=zz31 (blk_kept (by (with_reducible repeat (first | refine zz6 ?_ _ | refine zz7 ?_ | refine zz8 ?_ _));exact BK286.out) hkp (fun hs_=>(fun e_=>(Kd.R_ne HO_287001.out BK286.out (by decide)) e_) hs_)));have n4_:=zz31 (hb);clear HO_278001;clear HO_287001;clear BK277;clear BK286;clear HB;have HO_278001:=n0_;have HO_287001:=n1_;have BK277:=n2_;have BK286:=n3_;have HB:=n4_;clear n0_ n1_ n2_ n3_ n4_;(try clear hb);(try clear hkp);(try clear hy0);have hcz67_0:w66.cell? ⟨gb286,0,none⟩=some (.int .i64 t281):=(zz9 BK286.out 0).trans rfl;have hcz67_1:w66.cell? ⟨gb286,1,none⟩=some (.slice Ao20 t282.length co20):=(zz9 BK286.out 1).trans rfl;have hfz67_0:=zz10 BK286.out 0;have hfz67_1:=zz10 BK286.out 1) | ((with_reducible refine gate_callee (f:=25) rfl ?_);refine goesL_ (some 64) rfl rfl Try.func25 (by kernel_rfl) rfl #[.agg #[.int .i64 t281,.slice Ao20 t296.length co20],.int .i64 1] rfl (by (try simp only [zz26,zz27,zz28]);first | done | (rw [show t296.length=t282.length from (Kd.R_reads' HO_287001.out).1.symm] <;> rfl) | rfl | (simp only [zz24,zz25];rfl)) ?_;(with_reducible refine (laws_heldParty.calls kj35 t281 _ _ t296 1 t297 _ ?side1 ?side2 A53.out).mono ?_);(case side1=>repeat (first | exact (Kd.R_reads' HO_287001.out).2.2 | (with_reducible refine zz18 ?_ _) | (with_reducible refine zz19 ?_ _) | (with_reducible refine zz20 ?_)));(case side2=>rw [show t296.length=t282.length from (Kd.R_reads' HO_287001.out).1.symm];exact (Kd.R_reads' HO_287001.out).2.1);rintro e w68 ⟨rfl,hb⟩;refine ⟨_,rfl,?_⟩;have n0_:=zz31 (Kd.R_below (by (with_reducible repeat (first | apply zz12 | apply zz13 | apply zz14));exact HO_278001.out) hb);have n1_:=zz31 (Kd.R_below (by (with_reducible repeat (first | apply zz12 | apply zz13 | apply zz14));exact HO_287001.out) hb);have n2_:=zz31 (zz11 (g:=gb277) (o:=.cells #[.int .i64 t272,.slice Ao13 t273.length co13] 32 (0,0)) (by (with_reducible repeat (first | refine zz6 ?_ _ | refine zz7 ?_ | refine zz8 ?_ _));exact BK277.out) hb);have n3_:=zz31 (zz11 (g:=gb286) (o:=.cells #[.int .i64 t281,.slice Ao20 t282.length co20] 32 (0,0)) (by (with_reducible repeat (first | refine zz6 ?_ _ | refine zz7 ?_ | refine zz8 ?_ _));exact BK286.out) hb);have n4_:=zz31 (zz4 (by repeat first | exact HB.out | apply zz2 | apply zz0 | apply zz1 | refine zz3 ?_ GE277.out | refine zz3 ?_ GE286.out) hb);clear HO_278001;clear HO_287001;clear BK277;clear BK286;clear HB;have HO_278001:=n0_;have HO_287001:=n1_;have BK277:=n2_;have BK286:=n3_;have HB:=n4_;clear n0_ n1_ n2_ n3_ n4_;(try clear hb);(try clear hb2);(try clear hk);(try clear hi)) | ((with_reducible refine gate_callee (f:=15) rfl ?_);refine goesL_ (some 72) rfl rfl Try.func15 (by kernel_rfl) rfl #[.slice A0 l0.length c0] rfl (by (try simp only [zz26,zz27,zz28]);first | done | rfl | (simp only [zz24,zz25];rfl)) ?_;(with_reducible refine (laws_toIntS.calls kj35 _ _ l0 t298 _ ?side1 ?side2 A61.out).mono ?_);(case side1=>repeat (first | exact (Kd.C_below HR0.out HB.out) | (with_reducible refine zz18 ?_ _) | (with_reducible refine zz19 ?_ _) | (with_reducible refine zz20 ?_)));(case side2=>exact HC0.out);rintro e w69 ⟨v299,rfl,ho0,hb⟩;refine ⟨_,rfl,?_⟩;have n0_:=zz31 (Kd.R_below (by (with_reducible repeat (first | apply zz12 | apply zz13 | apply zz14));exact HO_278001.out) hb);have n1_:=zz31 (Kd.R_below (by (with_reducible repeat (first | apply zz12 | apply zz13 | apply zz14));exact HO_287001.out) hb);have n2_:=zz31 (Kd.R_lower ho0 (zz5 (by repeat first | exact HB.out | apply zz2 | apply zz0 | apply zz1 | refine zz3 ?_ GE277.out | refine zz3 ?_ GE286.out)));have n3_:=zz31 (zz11 (g:=gb277) (o:=.cells #[.int .i64 t272,.slice Ao13 t273.length co13] 32 (0,0)) (by (with_reducible repeat (first | refine zz6 ?_ _ | refine zz7 ?_ | refine zz8 ?_ _));exact BK277.out) hb);have n4_:=zz31 (zz11 (g:=gb286) (o:=.cells #[.int .i64 t281,.slice Ao20 t282.length co20] 32 (0,0)) (by (with_reducible repeat (first | refine zz6 ?_ _ | refine zz7 ?_ | refine zz8 ?_ _));exact BK286.out) hb);have n5_:=zz31 (zz4 (by repeat first | exact HB.out | apply zz2 | apply zz0 | apply zz1 | refine zz3 ?_ GE277.out | refine zz3 ?_ GE286.out) hb);clear HO_278001;clear HO_287001;clear BK277;clear BK286;clear HB;have HO_278001:=n0_;have HO_287001:=n1_;have HO300:=n2_;have BK277:=n3_;have BK286:=n4_;have HB:=n5_;clear n0_ n1_ n2_ n3_ n4_ n5_;(try clear hb);(try clear hb2);(try clear hk);(try clear hi);(try clear ho0);obtain ⟨Ao70,co70,eo70⟩:=Kd.R_slice HO300.out;subst eo70) | ((with_reducible refine gate_callee (f:=45) rfl ?_);refine goesL_ (some 73) rfl rfl Try.func45 (by kernel_rfl) rfl #[.slice Ao70 t298.length co70] rfl (by (try simp only [zz26,zz27,zz28]);first | done | rfl | (simp only [zz24,zz25];rfl)) ?_;(with_reducible refine (impl_PartyOfNumbers.calls kj35 _ _ t298 t301 t302 t305 _ ?side1 ?side2 A62.out).mono ?_);(case side1=>repeat (first | exact (Kd.R_reads' HO300.out).2.2 | (with_reducible refine zz18 ?_ _) | (with_reducible refine zz19 ?_ _) | (with_reducible refine zz20 ?_)));(case side2=>exact (Kd.R_reads' HO300.out).2.1);rintro e w71 ⟨v303,rfl,ho0,hb⟩;refine ⟨_,rfl,?_⟩;have n0_:=zz31 (Kd.R_elder' (by (with_reducible repeat (first | apply zz12 | apply zz13 | apply zz14));exact HO_278001.out) (Kd.R_base ho0) hb);have n1_:=zz31 (Kd.R_elder' (by (with_reducible repeat (first | apply zz12 | apply zz13 | apply zz14));exact HO_287001.out) (Kd.R_base ho0) hb);have n2_:=zz31 (Kd.R_below (by (with_reducible repeat (first | apply zz12 | apply zz13 | apply zz14));exact HO300.out) hb);have n3_:=zz31 (Kd.R_lower (Kd.R_new' (Kd.R_new' ho0 (Kd.R_lt (by (with_reducible repeat (first | apply zz12 | apply zz13 | apply zz14));exact HO_278001.out))) (Kd.R_lt (by (with_reducible repeat (first | apply zz12 | apply zz13 | apply zz14));exact HO_287001.out))) (zz5 (by repeat first | exact HB.out | apply zz2 | apply zz0 | apply zz1 | refine zz3 ?_ GE277.out | refine zz3 ?_ GE286.out)));have n4_:=zz31 (zz11 (g:=gb277) (o:=.cells #[.int .i64 t272,.slice Ao13 t273.length co13] 32 (0,0)) (by (with_reducible repeat (first | refine zz6 ?_ _ | refine zz7 ?_ | refine zz8 ?_ _));exact BK277.out) hb);have n5_:=zz31 (zz11 (g:=gb286) (o:=.cells #[.int .i64 t281,.slice Ao20 t282.length co20] 32 (0,0)) (by (with_reducible repeat (first | refine zz6 ?_ _ | refine zz7 ?_ | refine zz8 ?_ _));exact BK286.out) hb);have n6_:=zz31 (zz4 (by repeat first | exact HB.out | apply zz2 | apply zz0 | apply zz1 | refine zz3 ?_ GE277.out | refine zz3 ?_ GE286.out) hb);clear HO_278001;clear HO_287001;clear HO300;clear BK277;clear BK286;clear HB;have HO_278001:=n0_;have HO_287001:=n1_;have HO300:=n2_;have HO304:=n3_;have BK277:=n4_;have BK286:=n5_;have HB:=n6_;clear n0_ n1_ n2_ n3_ n4_ n5_ n6_;(try clear hb);(try clear hb2);(try clear hk);(try clear hi);(try clear ho0)) | ((with_reducible refine gate_dst (N:=11) rfl ?_);refine box_event ?hg (N:=11) ?hd (cs:=#[.int .i64 0,.slice none 0 0]) (t:=32) ?hr ?_;(case hd=>rfl);(case hg=>rfl);(case hr=>first | (go_simp;done) | (go_simp;rfl));intro gb306 hg w72 hbox hb;have n0_:=zz31 (Kd.R_below (by (with_reducible repeat (first | apply zz12 | apply zz13 | apply zz14));exact HO_278001.out) hb);have n1_:=zz31 (Kd.R_below (by (with_reducible repeat (first | apply zz12 | apply zz13 | apply zz14));exact HO_287001.out) hb);have n2_:=zz31 (Kd.R_below (by (with_reducible repeat (first | apply zz12 | apply zz13 | apply zz14));exact HO300.out) hb);have n3_:=zz31 (Kd.R_below (by (with_reducible repeat (first | apply zz12 | apply zz13 | apply zz14));exact HO304.out) hb);have n4_:=zz31 (zz11 (g:=gb277) (o:=.cells #[.int .i64 t272,.slice Ao13 t273.length co13] 32 (0,0)) (by (with_reducible repeat (first | refine zz6 ?_ _ | refine zz7 ?_ | refine zz8 ?_ _));exact BK277.out) hb);have n5_:=zz31 (zz11 (g:=gb286) (o:=.cells #[.int .i64 t281,.slice Ao20 t282.length co20] 32 (0,0)) (by (with_reducible repeat (first | refine zz6 ?_ _ | refine zz7 ?_ | refine zz8 ?_ _));exact BK286.out) hb);have n6_:=zz31 (zz4 (by repeat first | exact HB.out | apply zz2 | apply zz0 | apply zz1 | refine zz3 ?_ GE277.out | refine zz3 ?_ GE286.out) hb);have n7_:=zz31 (hbox);have n8_:=zz31 ((by rw [hg];exact (zz5 (by repeat first | exact HB.out | apply zz2 | apply zz0 | apply zz1 | refine zz3 ?_ GE277.out | refine zz3 ?_ GE286.out)):w.heap.size≤gb306));have n9_:=zz31 ((by rw [hg];exact (zz5 (by repeat first | exact HB.out | apply zz2 | apply zz0 | apply zz1 | refine zz3 ?_ GE277.out | refine zz3 ?_ GE286.out)):w.heap.size≤gb306));have n10_:=zz31 ((by rw [hg];exact Nat.ne_of_lt (blk_lt (g:=gb277) (o:=.cells #[.int .i64 t272,.slice Ao13 t273.length co13] 32 (0,0)) (by (with_reducible repeat (first | refine zz6 ?_ _ | refine zz7 ?_ | refine zz8 ?_ _));exact BK277.out)):gb277 ≠ gb306));have n11_:=zz31 ((by rw [hg];exact Nat.ne_of_gt (blk_lt (g:=gb277) (o:=.cells #[.int .i64 t272,.slice Ao13 t273.length co13] 32 (0,0)) (by (with_reducible repeat (first | refine zz6 ?_ _ | refine zz7 ?_ | refine zz8 ?_ _));exact BK277.out)):gb306 ≠ gb277));have n12_:=zz31 ((by rw [hg];exact Nat.ne_of_lt (blk_lt (g:=gb286) (o:=.cells #[.int .i64 t281,.slice Ao20 t282.length co20] 32 (0,0)) (by (with_reducible repeat (first | refine zz6 ?_ _ | refine zz7 ?_ | refine zz8 ?_ _));exact BK286.out)):gb286 ≠ gb306));have n13_:=zz31 ((by rw [hg];exact Nat.ne_of_gt (blk_lt (g:=gb286) (o:=.cells #[.int .i64 t281,.slice Ao20 t282.length co20] 32 (0,0)) (by (with_reducible repeat (first | refine zz6 ?_ _ | refine zz7 ?_ | refine zz8 ?_ _));exact BK286.out)):gb306 ≠ gb286));clear HO_278001;clear HO_287001;clear HO300;clear HO304;clear BK277;clear BK286;clear HB;have HO_278001:=n0_;have HO_287001:=n1_;have HO300:=n2_;have HO304:=n3_;have BK277:=n4_;have BK286:=n5_;have HB:=n6_;have BK306:=n7_;have GW306:=n8_;have GE306:=n9_;have NB277_306:=n10_;have NB306_277:=n11_;have NB286_306:=n12_;have NB306_286:=n13_;clear n0_ n1_ n2_ n3_ n4_ n5_ n6_ n7_ n8_ n9_ n10_ n11_ n12_ n13_;clear hb hbox hg;have hnb73:=NB306_277.out;have hnc73:=NB277_306.out;have hnb74:=NB306_286.out;have hnc74:=NB286_306.out;have hcz75_0:w72.cell? ⟨gb306,0,none⟩=some (.int .i64 0):=(zz9 BK306.out 0).trans rfl;have hcz75_1:w72.cell? ⟨gb306,1,none⟩=some (.slice none 0 0):=(zz9 BK306.out 1).trans rfl;have hfz75_0:=zz10 BK306.out 0;have hfz75_1:=zz10 BK306.out 1;obtain ⟨Ao76,co76,eo76⟩:=Kd.R_slice HO304.out;subst eo76))
           (try simp only [Act.put,zz21,zz22,zz23])
           go_cut [84] (fun v84 wc=>∃ (kq:Nat) (x84_62:Bool),v84=.bool x84_62∧Aside0 (laws_FnExactPartyOfNumbers.j2 kq t295 x84_62 t281 t296=some r)∧Aside0 (kq≤kj35)∧Aside0 (Kd.R k80 80 wc w.heap.size (fun k_=>some k_ ≠ ((.slice Ao20 t282.length co20):Value).ownBlock∧some k_ ≠ ((.slice Ao76 t302.length co76):Value).ownBlock) (.slice Ao13 t273.length co13) t273)∧Aside0 (Kd.R k80 80 wc w.heap.size (fun k_=>some k_ ≠ ((.slice Ao13 t273.length co13):Value).ownBlock∧some k_ ≠ ((.slice Ao76 t302.length co76):Value).ownBlock) (.slice Ao20 t282.length co20) t296)∧Aside0 (Kd.R k80 80 wc w.heap.size (fun k_=>some k_ ≠ ((.slice Ao13 t273.length co13):Value).ownBlock∧some k_ ≠ ((.slice Ao20 t282.length co20):Value).ownBlock) (.slice Ao76 t302.length co76) t302)∧Aside0 (wc.heap[gb277]?=some (.cells #[.int .i64 t272,(.slice Ao13 t273.length co13)] 32 (0,0)))∧Aside0 (wc.heap[gb286]?=some (.cells #[.int .i64 t281,(.slice Ao20 t282.length co20)] 32 (0,0)))∧Aside0 (wc.heap[gb306]?=some (.cells #[.int .i64 t301,(.slice Ao76 t302.length co76)] 32 (0,0)))∧Aside0 (Below w.heap.size w wc))
           case first =>
            have H:=HC63.out
            clear HC63
            replace H:=zz30.mp H
            obtain ⟨t307,A770,H⟩:=H
            replace H:(if t307=true then (laws_FnExactPartyOfNumbers.j2 kj35 t295 (t305 != t276) t281 t296) else (laws_FnExactPartyOfNumbers.j2 kj35 t295 true t281 t296))=some r:=H
            have A77:=zz31 A770
            clear A770
            by_cases c78:t307=true
            ·subst c78
             have H1:(laws_FnExactPartyOfNumbers.j2 kj35 t295 (t305 != t276) t281 t296)=some r:=by rw [if_pos rfl] at H;exact H
             clear H
             have H:=H1
             clear H1
             have H':=zz31 H
             clear H
             have hnb79:=NB306_277.out
             have hnc79:=NB277_306.out
             have hnb80:=NB306_286.out
             have hnc80:=NB286_306.out
             have hcz81_0:w72.cell? ⟨gb306,0,none⟩=some (.int .i64 0):=(zz9 BK306.out 0).trans rfl
             have hcz81_1:w72.cell? ⟨gb306,1,none⟩=some (.slice none 0 0):=(zz9 BK306.out 1).trans rfl
             have hfz81_0:=zz10 BK306.out 0
             have hfz81_1:=zz10 BK306.out 1
             have hnb82:=NB277_286.out
             have hnc82:=NB286_277.out
             have hcz83_0:w72.cell? ⟨gb277,0,none⟩=some (.int .i64 t272):=(zz9 BK277.out 0).trans rfl
             have hcz83_1:w72.cell? ⟨gb277,1,none⟩=some (.slice Ao13 t273.length co13):=(zz9 BK277.out 1).trans rfl
             have hfz83_0:=zz10 BK277.out 0
             have hfz83_1:=zz10 BK277.out 1
             go_wp2_with (first | ((with_reducible refine gate_callee (f:=22) rfl ?_);refine goesL_ (some 78) rfl rfl Try.func22 (by kernel_rfl) rfl #[.agg #[.int .i64 t301,.slice Ao76 t302.length co76],.agg #[.int .i64 t272,.slice Ao13 t273.length co13]] rfl (by (try simp only [zz26,zz27,zz28]);first | done | rfl | (simp only [zz24,zz25];rfl)) ?_;(with_reducible refine (laws_eqParty.calls kj35 t301 _ _ t302 t272 _ _ t273 true _ ?side1 ?side2 ?side3 ?side4 A77.out).mono ?_);(case side1=>refine (Kd.R_reads' (e:=80) (base:=w.heap.size) (ok:=fun k_=>((True∧some k_ ≠ (.slice Ao13 t273.length co13:Value).ownBlock)∧some k_ ≠ (.slice Ao20 t282.length co20:Value).ownBlock)) (n:=t302.length) (c:=co76) ?_).2.2;exact (by (with_reducible repeat (first | apply zz12 | apply zz13 | apply zz14));exact (Kd.R_mono (Kd.R_far (p:=⟨gb306,1,none⟩) (Kd.R_far (p:=⟨gb306,0,none⟩) (Kd.R_types HO304.out BK306.out (by decide)) (fun _ hk=>hk.2) (.int .i64 t301)) (fun _ hk=>hk.2) (.slice Ao76 t302.length co76)) (fun _ h_=>h_.1))));(case side2=>exact (Kd.R_reads' HO304.out).2.1);(case side3=>refine (Kd.R_reads' (e:=80) (base:=w.heap.size) (ok:=fun k_=>(some k_ ≠ (.slice Ao20 t282.length co20:Value).ownBlock∧some k_ ≠ (.slice Ao76 t302.length co76:Value).ownBlock)) (n:=t273.length) (c:=co13) ?_).2.2;exact (by (with_reducible repeat (first | apply zz12 | apply zz13 | apply zz14));exact (Kd.R_mono (Kd.R_far (p:=⟨gb306,1,none⟩) (Kd.R_far (p:=⟨gb306,0,none⟩) (Kd.R_types HO_278001.out BK306.out (by decide)) (fun _ hk=>hk.2) (.int .i64 t301)) (fun _ hk=>hk.2) (.slice Ao76 t302.length co76)) (fun _ h_=>h_.1))));(case side4=>exact (Kd.R_reads' HO_278001.out).2.1);rintro e w84 ⟨rfl,hb⟩;refine ⟨_,rfl,?_⟩;have n0_:=zz31 (Kd.R_below (by (with_reducible repeat (first | apply zz12 | apply zz13 | apply zz14));exact (Kd.R_mono (Kd.R_far (p:=⟨gb306,1,none⟩) (Kd.R_far (p:=⟨gb306,0,none⟩) (Kd.R_types HO_278001.out BK306.out (by decide)) (fun _ hk=>hk.2) (.int .i64 t301)) (fun _ hk=>hk.2) (.slice Ao76 t302.length co76)) (fun _ h_=>h_.1))) hb);have n1_:=zz31 (Kd.R_below (by (with_reducible repeat (first | apply zz12 | apply zz13 | apply zz14));exact (Kd.R_mono (Kd.R_far (p:=⟨gb306,1,none⟩) (Kd.R_far (p:=⟨gb306,0,none⟩) (Kd.R_types HO_287001.out BK306.out (by decide)) (fun _ hk=>hk.2) (.int .i64 t301)) (fun _ hk=>hk.2) (.slice Ao76 t302.length co76)) (fun _ h_=>h_.1))) hb);have n2_:=zz31 (Kd.R_below (by (with_reducible repeat (first | apply zz12 | apply zz13 | apply zz14));exact (Kd.R_mono (Kd.R_far (p:=⟨gb306,1,none⟩) (Kd.R_far (p:=⟨gb306,0,none⟩) (Kd.R_types HO300.out BK306.out (by decide)) (fun _ hk=>hk.2) (.int .i64 t301)) (fun _ hk=>hk.2) (.slice Ao76 t302.length co76)) (fun _ h_=>h_.1))) hb);have n3_:=zz31 (Kd.R_below (by (with_reducible repeat (first | apply zz12 | apply zz13 | apply zz14));exact (Kd.R_mono (Kd.R_far (p:=⟨gb306,1,none⟩) (Kd.R_far (p:=⟨gb306,0,none⟩) (Kd.R_types HO304.out BK306.out (by decide)) (fun _ hk=>hk.2) (.int .i64 t301)) (fun _ hk=>hk.2) (.slice Ao76 t302.length co76)) (fun _ h_=>h_.1))) hb);have n4_:=zz31 (zz11 (g:=gb277) (o:=.cells #[.int .i64 t272,.slice Ao13 t273.length co13] 32 (0,0)) (by (with_reducible repeat (first | refine zz6 ?_ _ | refine zz7 ?_ | refine zz8 ?_ _));refine blk_far ?_ NB277_306.out _;(with_reducible repeat (first | refine zz6 ?_ _ | refine zz7 ?_ | refine zz8 ?_ _));refine blk_far ?_ NB277_306.out _;(with_reducible repeat (first | refine zz6 ?_ _ | refine zz7 ?_ | refine zz8 ?_ _));exact BK277.out) hb);have n5_:=zz31 (zz11 (g:=gb286) (o:=.cells #[.int .i64 t281,.slice Ao20 t282.length co20] 32 (0,0)) (by (with_reducible repeat (first | refine zz6 ?_ _ | refine zz7 ?_ | refine zz8 ?_ _));refine blk_far ?_ NB286_306.out _;(with_reducible repeat (first | refine zz6 ?_ _ | refine zz7 ?_ | refine zz8 ?_ _));refine blk_far ?_ NB286_306.out _;(with_reducible repeat (first | refine zz6 ?_ _ | refine zz7 ?_ | refine zz8 ?_ _));exact BK286.out) hb);have n6_:=zz31 (zz11 (g:=gb306) (o:=.cells #[.int .i64 t301,.slice Ao76 t302.length co76] 32 (0,0)) (by (with_reducible repeat (first | refine zz6 ?_ _ | refine zz7 ?_ | refine zz8 ?_ _));refine blk_put (cs:=#[.int .i64 t301,.slice none 0 0]) ?_ 1 _ rfl;(with_reducible repeat (first | refine zz6 ?_ _ | refine zz7 ?_ | refine zz8 ?_ _));refine blk_put (cs:=#[.int .i64 0,.slice none 0 0]) ?_ 0 _ rfl;(with_reducible repeat (first | refine zz6 ?_ _ | refine zz7 ?_ | refine zz8 ?_ _));exact BK306.out) hb);have n7_:=zz31 (zz4 (by repeat first | exact HB.out | apply zz2 | apply zz0 | apply zz1 | refine zz3 ?_ GE277.out | refine zz3 ?_ GE286.out | refine zz3 ?_ GE306.out) hb);clear HO_278001;clear HO_287001;clear HO300;clear HO304;clear BK277;clear BK286;clear BK306;clear HB;have HO_278001:=n0_;have HO_287001:=n1_;have HO300:=n2_;have HO304:=n3_;have BK277:=n4_;have BK286:=n5_;have BK306:=n6_;have HB:=n7_;clear n0_ n1_ n2_ n3_ n4_ n5_ n6_ n7_;(try clear hb);(try clear hb2);(try clear hk);(try clear hi)))
             go_meet
             case rel=>exact ⟨_,((t305 != t276)),(by first | rfl | (simp;done) | (simp [*];done)),H',⟨by have:=HJ6.out;have:=HJ35.out;first | omega | exact Nat.le_refl _⟩,⟨by (with_reducible repeat (first | apply zz12 | apply zz13 | apply zz14));exact HO_278001.out⟩,⟨by (with_reducible repeat (first | apply zz12 | apply zz13 | apply zz14));exact HO_287001.out⟩,⟨by (with_reducible repeat (first | apply zz12 | apply zz13 | apply zz14));exact Kd.R_mono HO304.out (fun _ hk=>⟨hk.1.2,hk.2⟩)⟩,⟨by (with_reducible repeat (first | refine zz6 ?_ _ | refine zz7 ?_ | refine zz8 ?_ _));exact BK277.out⟩,⟨by (with_reducible repeat (first | refine zz6 ?_ _ | refine zz7 ?_ | refine zz8 ?_ _));exact BK286.out⟩,⟨by (with_reducible repeat (first | refine zz6 ?_ _ | refine zz7 ?_ | refine zz8 ?_ _));exact BK306.out⟩,⟨by repeat first | exact HB.out | apply zz2 | apply zz0 | apply zz1 | refine zz3 ?_ GE277.out | refine zz3 ?_ GE286.out | refine zz3 ?_ GE306.out⟩⟩
            ·replace c78:=Bool.eq_false_iff.mpr c78
             subst c78
             have H1:(laws_FnExactPartyOfNumbers.j2 kj35 t295 true t281 t296)=some r:=by rw [if_neg (show ¬ (false=true) by decide)] at H;exact H
             clear H
             have H:=H1
             clear H1
             have H':=zz31 H
             clear H
             have hnb85:=NB306_277.out
             have hnc85:=NB277_306.out
             have hnb86:=NB306_286.out
             have hnc86:=NB286_306.out
             have hcz87_0:w72.cell? ⟨gb306,0,none⟩=some (.int .i64 0):=(zz9 BK306.out 0).trans rfl
             have hcz87_1:w72.cell? ⟨gb306,1,none⟩=some (.slice none 0 0):=(zz9 BK306.out 1).trans rfl
             have hfz87_0:=zz10 BK306.out 0
             have hfz87_1:=zz10 BK306.out 1
             have hnb88:=NB277_286.out
             have hnc88:=NB286_277.out
             have hcz89_0:w72.cell? ⟨gb277,0,none⟩=some (.int .i64 t272):=(zz9 BK277.out 0).trans rfl
             have hcz89_1:w72.cell? ⟨gb277,1,none⟩=some (.slice Ao13 t273.length co13):=(zz9 BK277.out 1).trans rfl
             have hfz89_0:=zz10 BK277.out 0
             have hfz89_1:=zz10 BK277.out 1
             go_wp2_with (first | ((with_reducible refine gate_callee (f:=22) rfl ?_);refine goesL_ (some 78) rfl rfl Try.func22 (by kernel_rfl) rfl #[.agg #[.int .i64 t301,.slice Ao76 t302.length co76],.agg #[.int .i64 t272,.slice Ao13 t273.length co13]] rfl (by (try simp only [zz26,zz27,zz28]);first | done | rfl | (simp only [zz24,zz25];rfl)) ?_;(with_reducible refine (laws_eqParty.calls kj35 t301 _ _ t302 t272 _ _ t273 false _ ?side1 ?side2 ?side3 ?side4 A77.out).mono ?_);(case side1=>refine (Kd.R_reads' (e:=80) (base:=w.heap.size) (ok:=fun k_=>((True∧some k_ ≠ (.slice Ao13 t273.length co13:Value).ownBlock)∧some k_ ≠ (.slice Ao20 t282.length co20:Value).ownBlock)) (n:=t302.length) (c:=co76) ?_).2.2;exact (by (with_reducible repeat (first | apply zz12 | apply zz13 | apply zz14));exact (Kd.R_mono (Kd.R_far (p:=⟨gb306,1,none⟩) (Kd.R_far (p:=⟨gb306,0,none⟩) (Kd.R_types HO304.out BK306.out (by decide)) (fun _ hk=>hk.2) (.int .i64 t301)) (fun _ hk=>hk.2) (.slice Ao76 t302.length co76)) (fun _ h_=>h_.1))));(case side2=>exact (Kd.R_reads' HO304.out).2.1);(case side3=>refine (Kd.R_reads' (e:=80) (base:=w.heap.size) (ok:=fun k_=>(some k_ ≠ (.slice Ao20 t282.length co20:Value).ownBlock∧some k_ ≠ (.slice Ao76 t302.length co76:Value).ownBlock)) (n:=t273.length) (c:=co13) ?_).2.2;exact (by (with_reducible repeat (first | apply zz12 | apply zz13 | apply zz14));exact (Kd.R_mono (Kd.R_far (p:=⟨gb306,1,none⟩) (Kd.R_far (p:=⟨gb306,0,none⟩) (Kd.R_types HO_278001.out BK306.out (by decide)) (fun _ hk=>hk.2) (.int .i64 t301)) (fun _ hk=>hk.2) (.slice Ao76 t302.length co76)) (fun _ h_=>h_.1))));(case side4=>exact (Kd.R_reads' HO_278001.out).2.1);rintro e w90 ⟨rfl,hb⟩;refine ⟨_,rfl,?_⟩;have n0_:=zz31 (Kd.R_below (by (with_reducible repeat (first | apply zz12 | apply zz13 | apply zz14));exact (Kd.R_mono (Kd.R_far (p:=⟨gb306,1,none⟩) (Kd.R_far (p:=⟨gb306,0,none⟩) (Kd.R_types HO_278001.out BK306.out (by decide)) (fun _ hk=>hk.2) (.int .i64 t301)) (fun _ hk=>hk.2) (.slice Ao76 t302.length co76)) (fun _ h_=>h_.1))) hb);have n1_:=zz31 (Kd.R_below (by (with_reducible repeat (first | apply zz12 | apply zz13 | apply zz14));exact (Kd.R_mono (Kd.R_far (p:=⟨gb306,1,none⟩) (Kd.R_far (p:=⟨gb306,0,none⟩) (Kd.R_types HO_287001.out BK306.out (by decide)) (fun _ hk=>hk.2) (.int .i64 t301)) (fun _ hk=>hk.2) (.slice Ao76 t302.length co76)) (fun _ h_=>h_.1))) hb);have n2_:=zz31 (Kd.R_below (by (with_reducible repeat (first | apply zz12 | apply zz13 | apply zz14));exact (Kd.R_mono (Kd.R_far (p:=⟨gb306,1,none⟩) (Kd.R_far (p:=⟨gb306,0,none⟩) (Kd.R_types HO300.out BK306.out (by decide)) (fun _ hk=>hk.2) (.int .i64 t301)) (fun _ hk=>hk.2) (.slice Ao76 t302.length co76)) (fun _ h_=>h_.1))) hb);have n3_:=zz31 (Kd.R_below (by (with_reducible repeat (first | apply zz12 | apply zz13 | apply zz14));exact (Kd.R_mono (Kd.R_far (p:=⟨gb306,1,none⟩) (Kd.R_far (p:=⟨gb306,0,none⟩) (Kd.R_types HO304.out BK306.out (by decide)) (fun _ hk=>hk.2) (.int .i64 t301)) (fun _ hk=>hk.2) (.slice Ao76 t302.length co76)) (fun _ h_=>h_.1))) hb);have n4_:=zz31 (zz11 (g:=gb277) (o:=.cells #[.int .i64 t272,.slice Ao13 t273.length co13] 32 (0,0)) (by (with_reducible repeat (first | refine zz6 ?_ _ | refine zz7 ?_ | refine zz8 ?_ _));refine blk_far ?_ NB277_306.out _;(with_reducible repeat (first | refine zz6 ?_ _ | refine zz7 ?_ | refine zz8 ?_ _));refine blk_far ?_ NB277_306.out _;(with_reducible repeat (first | refine zz6 ?_ _ | refine zz7 ?_ | refine zz8 ?_ _));exact BK277.out) hb);have n5_:=zz31 (zz11 (g:=gb286) (o:=.cells #[.int .i64 t281,.slice Ao20 t282.length co20] 32 (0,0)) (by (with_reducible repeat (first | refine zz6 ?_ _ | refine zz7 ?_ | refine zz8 ?_ _));refine blk_far ?_ NB286_306.out _;(with_reducible repeat (first | refine zz6 ?_ _ | refine zz7 ?_ | refine zz8 ?_ _));refine blk_far ?_ NB286_306.out _;(with_reducible repeat (first | refine zz6 ?_ _ | refine zz7 ?_ | refine zz8 ?_ _));exact BK286.out) hb);have n6_:=zz31 (zz11 (g:=gb306) (o:=.cells #[.int .i64 t301,.slice Ao76 t302.length co76] 32 (0,0)) (by (with_reducible repeat (first | refine zz6 ?_ _ | refine zz7 ?_ | refine zz8 ?_ _));refine blk_put (cs:=#[.int .i64 t301,.slice none 0 0]) ?_ 1 _ rfl;(with_reducible repeat (first | refine zz6 ?_ _ | refine zz7 ?_ | refine zz8 ?_ _));refine blk_put (cs:=#[.int .i64 0,.slice none 0 0]) ?_ 0 _ rfl;(with_reducible repeat (first | refine zz6 ?_ _ | refine zz7 ?_ | refine zz8 ?_ _));exact BK306.out) hb);have n7_:=zz31 (zz4 (by repeat first | exact HB.out | apply zz2 | apply zz0 | apply zz1 | refine zz3 ?_ GE277.out | refine zz3 ?_ GE286.out | refine zz3 ?_ GE306.out) hb);clear HO_278001;clear HO_287001;clear HO300;clear HO304;clear BK277;clear BK286;clear BK306;clear HB;have HO_278001:=n0_;have HO_287001:=n1_;have HO300:=n2_;have HO304:=n3_;have BK277:=n4_;have BK286:=n5_;have BK306:=n6_;have HB:=n7_;clear n0_ n1_ n2_ n3_ n4_ n5_ n6_ n7_;(try clear hb);(try clear hb2);(try clear hk);(try clear hi)))
             go_meet
             case rel=>exact ⟨_,(true),(by first | rfl | (simp;done) | (simp [*];done)),H',⟨by have:=HJ6.out;have:=HJ35.out;first | omega | exact Nat.le_refl _⟩,⟨by (with_reducible repeat (first | apply zz12 | apply zz13 | apply zz14));exact HO_278001.out⟩,⟨by (with_reducible repeat (first | apply zz12 | apply zz13 | apply zz14));exact HO_287001.out⟩,⟨by (with_reducible repeat (first | apply zz12 | apply zz13 | apply zz14));exact Kd.R_mono HO304.out (fun _ hk=>⟨hk.1.2,hk.2⟩)⟩,⟨by (with_reducible repeat (first | refine zz6 ?_ _ | refine zz7 ?_ | refine zz8 ?_ _));exact BK277.out⟩,⟨by (with_reducible repeat (first | refine zz6 ?_ _ | refine zz7 ?_ | refine zz8 ?_ _));exact BK286.out⟩,⟨by (with_reducible repeat (first | refine zz6 ?_ _ | refine zz7 ?_ | refine zz8 ?_ _));exact BK306.out⟩,⟨by repeat first | exact HB.out | apply zz2 | apply zz0 | apply zz1 | refine zz3 ?_ GE277.out | refine zz3 ?_ GE286.out | refine zz3 ?_ GE306.out⟩⟩
           case rest =>
            clear HC63
            try clear c1
            try clear c2
            try clear c2b0
            try clear c2b1
            try clear p2
            try clear c3
            try clear c4
            try clear c5
            try clear c6
            try clear c7
            try clear c8
            try clear c13
            try clear c15
            try clear c17
            try clear c18
            try clear c22
            try clear c23
            try clear c24
            try clear c25
            try clear c27
            try clear c31
            try clear c34
            try clear c40
            try clear c40b0
            try clear c42
            try clear c43
            try clear c44
            try clear c45
            try clear c47
            try clear c51
            try clear c54
            try clear c54b0
            try clear c55
            try clear c60
            try clear c60b0
            try clear c60b1
            try clear c64
            try clear c73
            try clear c74
            try clear c78
            try clear c79
            try clear c80
            try clear c82
            try clear c85
            try clear c86
            try clear c88
            try clear hcz12_0
            try clear hcz12_1
            try clear hcz19_0
            try clear hcz19_1
            try clear hcz24_0
            try clear hcz24_1
            try clear hcz25_0
            try clear hcz25_1
            try clear hcz28_0
            try clear hcz28_1
            try clear hcz29_0
            try clear hcz29_1
            try clear hcz44_0
            try clear hcz44_1
            try clear hcz45_0
            try clear hcz45_1
            try clear hcz48_0
            try clear hcz48_1
            try clear hcz49_0
            try clear hcz49_1
            try clear hcz56_0
            try clear hcz56_1
            try clear hcz58_0
            try clear hcz58_1
            try clear hcz65_0
            try clear hcz65_1
            try clear hcz67_0
            try clear hcz67_1
            try clear hcz75_0
            try clear hcz75_1
            try clear hcz81_0
            try clear hcz81_1
            try clear hcz83_0
            try clear hcz83_1
            try clear hcz87_0
            try clear hcz87_1
            try clear hcz89_0
            try clear hcz89_1
            try clear hfz12_0
            try clear hfz12_1
            try clear hfz19_0
            try clear hfz19_1
            try clear hfz24_0
            try clear hfz24_1
            try clear hfz25_0
            try clear hfz25_1
            try clear hfz28_0
            try clear hfz28_1
            try clear hfz29_0
            try clear hfz29_1
            try clear hfz44_0
            try clear hfz44_1
            try clear hfz45_0
            try clear hfz45_1
            try clear hfz48_0
            try clear hfz48_1
            try clear hfz49_0
            try clear hfz49_1
            try clear hfz56_0
            try clear hfz56_1
            try clear hfz58_0
            try clear hfz58_1
            try clear hfz65_0
            try clear hfz65_1
            try clear hfz67_0
            try clear hfz67_1
            try clear hfz75_0
            try clear hfz75_1
            try clear hfz81_0
            try clear hfz81_1
            try clear hfz83_0
            try clear hfz83_1
            try clear hfz87_0
            try clear hfz87_1
            try clear hfz89_0
            try clear hfz89_1
            try clear p2
            obtain ⟨kq,x84_62,rfl,HA,HJ62,HO_278001,HO_287001,HO_307001,BK277,BK286,BK306,HB⟩:=hcut
            have hl287001_62:=(Kd.R_reads' HO_287001.out).1
            rw [hl287001_62] at HO_287001
            (try simp only [hl287001_62])
            (try simp only [hl287001_62] at BK277)
            (try simp only [hl287001_62] at BK286)
            (try simp only [hl287001_62] at BK306)
            (try simp only [hl287001_62] at HO_278001)
            (try simp only [hl287001_62] at HO_307001)
            cases kq with
            | zero=>exact absurd HA.out (by simp [laws_FnExactPartyOfNumbers.j2])
            | succ kj62 =>
             have H:=HA.out
             clear HA
             simp only [laws_FnExactPartyOfNumbers.j2] at H
             by_cases c91:x84_62=true
             ·subst c91
              have H1:(some false)=some r:=by rw [if_pos rfl] at H;exact H
              clear H
              have H:=H1
              clear H1
              obtain rfl:=Option.some.inj H
              go_wp2
              go_ret
              exact ⟨by first | rfl | (simp [errW_none,errW_some] <;> rfl) | (simp [*,errW_none,errW_some] <;> rfl),by repeat first | exact HB.out | apply zz2 | apply zz0 | apply zz1 | refine zz3 ?_ GE277.out | refine zz3 ?_ GE286.out | refine zz3 ?_ GE306.out⟩
             ·replace c91:=Bool.eq_false_iff.mpr c91
              subst c91
              have H1:((laws_heldParty.f kj62 t281 t296 1).bind fun t308=>(if t308 < 0 then (some false) else (if t308=t295 then (some true) else (some false))))=some r:=by rw [if_neg (show ¬ (false=true) by decide)] at H;exact H
              clear H
              have H:=H1
              clear H1
              replace H:=zz30.mp H
              obtain ⟨t308,A920,H⟩:=H
              replace H:(if t308 < 0 then (some false) else (if t308=t295 then (some true) else (some false)))=some r:=H
              have A92:=zz31 A920
              clear A920
              by_cases c93:t308 < 0
              ·rw [if_pos c93] at H
               have c93b0:decide (t308 < 0)=true:=decide_eq_true c93
               clear c93
               obtain rfl:=Option.some.inj H
               have hnb94:=NB286_277.out
               have hnc94:=NB277_286.out
               have hnb95:=NB286_306.out
               have hnc95:=NB306_286.out
               have hcz96_0:wc.cell? ⟨gb286,0,none⟩=some (.int .i64 t281):=(zz9 BK286.out 0).trans rfl
               have hcz96_1:wc.cell? ⟨gb286,1,none⟩=some (.slice Ao20 t296.length co20):=(zz9 BK286.out 1).trans rfl
               have hfz96_0:=zz10 BK286.out 0
               have hfz96_1:=zz10 BK286.out 1
               go_wp2_with (first | ((with_reducible refine gate_callee (f:=25) rfl ?_);refine goesL_ (some 87) rfl rfl Try.func25 (by kernel_rfl) rfl #[.agg #[.int .i64 t281,.slice Ao20 t296.length co20],.int .i64 1] rfl (by (try simp only [zz26,zz27,zz28]);first | done | rfl | (simp only [zz24,zz25];rfl)) ?_;(with_reducible refine (laws_heldParty.calls kj62 t281 _ _ t296 1 t308 _ ?side1 ?side2 A92.out).mono ?_);(case side1=>repeat (first | exact (Kd.R_reads' HO_287001.out).2.2 | (with_reducible refine zz18 ?_ _) | (with_reducible refine zz19 ?_ _) | (with_reducible refine zz20 ?_)));(case side2=>exact (Kd.R_reads' HO_287001.out).2.1);rintro e w97 ⟨rfl,hb⟩;refine ⟨_,rfl,?_⟩;have n0_:=zz31 (Kd.R_below (by (with_reducible repeat (first | apply zz12 | apply zz13 | apply zz14));exact HO_278001.out) hb);have n1_:=zz31 (Kd.R_below (by (with_reducible repeat (first | apply zz12 | apply zz13 | apply zz14));exact HO_287001.out) hb);have n2_:=zz31 (Kd.R_below (by (with_reducible repeat (first | apply zz12 | apply zz13 | apply zz14));exact HO_307001.out) hb);have n3_:=zz31 (zz11 (g:=gb277) (o:=.cells #[.int .i64 t272,.slice Ao13 t273.length co13] 32 (0,0)) (by (with_reducible repeat (first | refine zz6 ?_ _ | refine zz7 ?_ | refine zz8 ?_ _));exact BK277.out) hb);have n4_:=zz31 (zz11 (g:=gb286) (o:=.cells #[.int .i64 t281,.slice Ao20 t296.length co20] 32 (0,0)) (by (with_reducible repeat (first | refine zz6 ?_ _ | refine zz7 ?_ | refine zz8 ?_ _));exact BK286.out) hb);have n5_:=zz31 (zz11 (g:=gb306) (o:=.cells #[.int .i64 t301,.slice Ao76 t302.length co76] 32 (0,0)) (by (with_reducible repeat (first | refine zz6 ?_ _ | refine zz7 ?_ | refine zz8 ?_ _));exact BK306.out) hb);have n6_:=zz31 (zz4 (by repeat first | exact HB.out | apply zz2 | apply zz0 | apply zz1 | refine zz3 ?_ GE277.out | refine zz3 ?_ GE286.out | refine zz3 ?_ GE306.out) hb);clear HO_278001;clear HO_287001;clear HO_307001;clear BK277;clear BK286;clear BK306;clear HB;have HO_278001:=n0_;have HO_287001:=n1_;have HO_307001:=n2_;have BK277:=n3_;have BK286:=n4_;have BK306:=n5_;have HB:=n6_;clear n0_ n1_ n2_ n3_ n4_ n5_ n6_;(try clear hb);(try clear hb2);(try clear hk);(try clear hi)))
               go_ret
               exact ⟨by first | rfl | (simp [errW_none,errW_some] <;> rfl) | (simp [*,errW_none,errW_some] <;> rfl),by repeat first | exact HB.out | apply zz2 | apply zz0 | apply zz1 | refine zz3 ?_ GE277.out | refine zz3 ?_ GE286.out | refine zz3 ?_ GE306.out⟩
              ·rw [if_neg c93] at H
               have c93b0:decide (t308 < 0)=false:=decide_eq_false c93
               clear c93
               by_cases c98:t308=t295
               ·rw [if_pos c98] at H
                have c98b0:(t308 == t295)=true:=beq_iff_eq.mpr c98
                have c98b1:(t308 != t295)=false:=bne_eq_false_iff_eq.mpr c98
                clear c98
                obtain rfl:=Option.some.inj H
                have hnb99:=NB286_277.out
                have hnc99:=NB277_286.out
                have hnb100:=NB286_306.out
                have hnc100:=NB306_286.out
                have hcz101_0:wc.cell? ⟨gb286,0,none⟩=some (.int .i64 t281):=(zz9 BK286.out 0).trans rfl
                have hcz101_1:wc.cell? ⟨gb286,1,none⟩=some (.slice Ao20 t296.length co20):=(zz9 BK286.out 1).trans rfl
                have hfz101_0:=zz10 BK286.out 0
                have hfz101_1:=zz10 BK286.out 1
                go_wp2_with (first | ((with_reducible refine gate_callee (f:=25) rfl ?_);refine goesL_ (some 87) rfl rfl Try.func25 (by kernel_rfl) rfl #[.agg #[.int .i64 t281,.slice Ao20 t296.length co20],.int .i64 1] rfl (by (try simp only [zz26,zz27,zz28]);first | done | rfl | (simp only [zz24,zz25];rfl)) ?_;(with_reducible refine (laws_heldParty.calls kj62 t281 _ _ t296 1 t308 _ ?side1 ?side2 A92.out).mono ?_);(case side1=>repeat (first | exact (Kd.R_reads' HO_287001.out).2.2 | (with_reducible refine zz18 ?_ _) | (with_reducible refine zz19 ?_ _) | (with_reducible refine zz20 ?_)));(case side2=>exact (Kd.R_reads' HO_287001.out).2.1);rintro e w102 ⟨rfl,hb⟩;refine ⟨_,rfl,?_⟩;have n0_:=zz31 (Kd.R_below (by (with_reducible repeat (first | apply zz12 | apply zz13 | apply zz14));exact HO_278001.out) hb);have n1_:=zz31 (Kd.R_below (by (with_reducible repeat (first | apply zz12 | apply zz13 | apply zz14));exact HO_287001.out) hb);have n2_:=zz31 (Kd.R_below (by (with_reducible repeat (first | apply zz12 | apply zz13 | apply zz14));exact HO_307001.out) hb);have n3_:=zz31 (zz11 (g:=gb277) (o:=.cells #[.int .i64 t272,.slice Ao13 t273.length co13] 32 (0,0)) (by (with_reducible repeat (first | refine zz6 ?_ _ | refine zz7 ?_ | refine zz8 ?_ _));exact BK277.out) hb);have n4_:=zz31 (zz11 (g:=gb286) (o:=.cells #[.int .i64 t281,.slice Ao20 t296.length co20] 32 (0,0)) (by (with_reducible repeat (first | refine zz6 ?_ _ | refine zz7 ?_ | refine zz8 ?_ _));exact BK286.out) hb);have n5_:=zz31 (zz11 (g:=gb306) (o:=.cells #[.int .i64 t301,.slice Ao76 t302.length co76] 32 (0,0)) (by (with_reducible repeat (first | refine zz6 ?_ _ | refine zz7 ?_ | refine zz8 ?_ _));exact BK306.out) hb);have n6_:=zz31 (zz4 (by repeat first | exact HB.out | apply zz2 | apply zz0 | apply zz1 | refine zz3 ?_ GE277.out | refine zz3 ?_ GE286.out | refine zz3 ?_ GE306.out) hb);clear HO_278001;clear HO_287001;clear HO_307001;clear BK277;clear BK286;clear BK306;clear HB;have HO_278001:=n0_;have HO_287001:=n1_;have HO_307001:=n2_;have BK277:=n3_;have BK286:=n4_;have BK306:=n5_;have HB:=n6_;clear n0_ n1_ n2_ n3_ n4_ n5_ n6_;(try clear hb);(try clear hb2);(try clear hk);(try clear hi)))
                go_ret
                exact ⟨by first | rfl | (simp [errW_none,errW_some] <;> rfl) | (simp [*,errW_none,errW_some] <;> rfl),by repeat first | exact HB.out | apply zz2 | apply zz0 | apply zz1 | refine zz3 ?_ GE277.out | refine zz3 ?_ GE286.out | refine zz3 ?_ GE306.out⟩
               ·rw [if_neg c98] at H
                have c98b0:(t308 == t295)=false:=beq_eq_false_iff_ne.mpr c98
                have c98b1:(t308 != t295)=true:=bne_iff_ne.mpr c98
                obtain rfl:=Option.some.inj H
                have hnb103:=NB286_277.out
                have hnc103:=NB277_286.out
                have hnb104:=NB286_306.out
                have hnc104:=NB306_286.out
                have hcz105_0:wc.cell? ⟨gb286,0,none⟩=some (.int .i64 t281):=(zz9 BK286.out 0).trans rfl
                have hcz105_1:wc.cell? ⟨gb286,1,none⟩=some (.slice Ao20 t296.length co20):=(zz9 BK286.out 1).trans rfl
                have hfz105_0:=zz10 BK286.out 0
                have hfz105_1:=zz10 BK286.out 1
                go_wp2_with (first | ((with_reducible refine gate_callee (f:=25) rfl ?_);refine goesL_ (some 87) rfl rfl Try.func25 (by kernel_rfl) rfl #[.agg #[.int .i64 t281,.slice Ao20 t296.length co20],.int .i64 1] rfl (by (try simp only [zz26,zz27,zz28]);first | done | rfl | (simp only [zz24,zz25];rfl)) ?_;(with_reducible refine (laws_heldParty.calls kj62 t281 _ _ t296 1 t308 _ ?side1 ?side2 A92.out).mono ?_);(case side1=>repeat (first | exact (Kd.R_reads' HO_287001.out).2.2 | (with_reducible refine zz18 ?_ _) | (with_reducible refine zz19 ?_ _) | (with_reducible refine zz20 ?_)));(case side2=>exact (Kd.R_reads' HO_287001.out).2.1);rintro e w106 ⟨rfl,hb⟩;refine ⟨_,rfl,?_⟩;have n0_:=zz31 (Kd.R_below (by (with_reducible repeat (first | apply zz12 | apply zz13 | apply zz14));exact HO_278001.out) hb);have n1_:=zz31 (Kd.R_below (by (with_reducible repeat (first | apply zz12 | apply zz13 | apply zz14));exact HO_287001.out) hb);have n2_:=zz31 (Kd.R_below (by (with_reducible repeat (first | apply zz12 | apply zz13 | apply zz14));exact HO_307001.out) hb);have n3_:=zz31 (zz11 (g:=gb277) (o:=.cells #[.int .i64 t272,.slice Ao13 t273.length co13] 32 (0,0)) (by (with_reducible repeat (first | refine zz6 ?_ _ | refine zz7 ?_ | refine zz8 ?_ _));exact BK277.out) hb);have n4_:=zz31 (zz11 (g:=gb286) (o:=.cells #[.int .i64 t281,.slice Ao20 t296.length co20] 32 (0,0)) (by (with_reducible repeat (first | refine zz6 ?_ _ | refine zz7 ?_ | refine zz8 ?_ _));exact BK286.out) hb);have n5_:=zz31 (zz11 (g:=gb306) (o:=.cells #[.int .i64 t301,.slice Ao76 t302.length co76] 32 (0,0)) (by (with_reducible repeat (first | refine zz6 ?_ _ | refine zz7 ?_ | refine zz8 ?_ _));exact BK306.out) hb);have n6_:=zz31 (zz4 (by repeat first | exact HB.out | apply zz2 | apply zz0 | apply zz1 | refine zz3 ?_ GE277.out | refine zz3 ?_ GE286.out | refine zz3 ?_ GE306.out) hb);clear HO_278001;clear HO_287001;clear HO_307001;clear BK277;clear BK286;clear BK306;clear HB;have HO_278001:=n0_;have HO_287001:=n1_;have HO_307001:=n2_;have BK277:=n3_;have BK286:=n4_;have BK306:=n5_;have HB:=n6_;clear n0_ n1_ n2_ n3_ n4_ n5_ n6_;(try clear hb);(try clear hb2);(try clear hk);(try clear hi)))
                go_ret
                exact ⟨by first | rfl | (simp [errW_none,errW_some] <;> rfl) | (simp [*,errW_none,errW_some] <;> rfl),by repeat first | exact HB.out | apply zz2 | apply zz0 | apply zz1 | refine zz3 ?_ GE277.out | refine zz3 ?_ GE286.out | refine zz3 ?_ GE306.out⟩
          ·rw [if_neg c60] at H
           have c60b0:(t297 == t295)=false:=beq_eq_false_iff_ne.mpr c60
           have c60b1:(t297 != t295)=true:=bne_iff_ne.mpr c60
           obtain rfl:=Option.some.inj H
           have hnb107:=NB286_277.out
           have hnc107:=NB277_286.out
           have hcz108_0:wc.cell? ⟨gb286,0,none⟩=some (.int .i64 t281):=(zz9 BK286.out 0).trans rfl
           have hcz108_1:wc.cell? ⟨gb286,1,none⟩=some (.slice Ao20 t282.length co20):=(zz9 BK286.out 1).trans rfl
           have hfz108_0:=zz10 BK286.out 0
           have hfz108_1:=zz10 BK286.out 1
           go_wp2_with (first | ((with_reducible refine gate_callee (f:=24) rfl ?_);refine goesL_ (some 61) rfl rfl Try.func24 (by kernel_rfl) rfl #[.agg #[.int .i64 t281,.slice Ao20 t282.length co20],.int .i64 1] rfl (by (try simp only [zz26,zz27,zz28]);first | done | rfl | (simp only [zz24,zz25];rfl)) ?_;(with_reducible refine (laws_markParty.calls kj35 t281 (fun k_=>some k_=(.slice Ao20 t282.length co20:Value).ownBlock) (.slice Ao20 t282.length co20) t282 1 t295 t296 w _ ?side1 ?side2 A52.out).mono ?_);(case side1=>repeat first | exact HB.out | apply zz2 | apply zz0 | apply zz1 | refine zz3 ?_ GE277.out | refine zz3 ?_ GE286.out);(case side2=>exact Kd.R_tight rfl HO_287001.out);rintro e w109 ⟨rfl,hy0,hb,hkp⟩;refine ⟨_,rfl,?_⟩;have n0_:=zz31 (Kd.R_mono (ok':=fun k_=>some k_ ≠ (.slice Ao20 t282.length co20:Value).ownBlock) (Kd.R_keptB (HO_278001.out) hkp (fun k_ hk_ hs_=>(hk_) hs_)) (fun k_ hk_=>hk_.1));have n1_:=zz31 (Kd.R_reok rfl hy0 (fun k_ e_=>HO_287001.out.1 k_ e_));(first | have n2_:=zz31 (blk_kept BK277.out hkp (fun hs_=>(fun e_=>(Kd.R_ne HO_287001.out BK277.out (by decide)) e_) hs_)) | have n2_:=zz31 (blk_kept (by (with_reducible repeat (first | refine zz6 ?_ _ | refine zz7 ?_ | refine zz8 ?_ _));exact BK277.out) hkp (fun hs_=>(fun e_=>(Kd.R_ne HO_287001.out BK277.out (by decide)) e_) hs_)));(first | have n3_:=zz31 (blk_kept BK286.out hkp (fun hs_=>(fun e_=>(Kd.R_ne HO_287001.out BK286.out (by decide)) e_) hs_)) | have n3_:=zz31 (blk_kept (by (with_reducible repeat (first | refine zz6 ?_ _ | refine zz7 ?_ | refine zz8 ?_ _));exact BK286.out) hkp (fun hs_=>(fun e_=>(Kd.R_ne HO_287001.out BK286.out (by decide)) e_) hs_)));have n4_:=zz31 (hb);clear HO_278001;clear HO_287001;clear BK277;clear BK286;clear HB;have HO_278001:=n0_;have HO_287001:=n1_;have BK277:=n2_;have BK286:=n3_;have HB:=n4_;clear n0_ n1_ n2_ n3_ n4_;(try clear hb);(try clear hkp);(try clear hy0);have hcz110_0:w109.cell? ⟨gb286,0,none⟩=some (.int .i64 t281):=(zz9 BK286.out 0).trans rfl;have hcz110_1:w109.cell? ⟨gb286,1,none⟩=some (.slice Ao20 t282.length co20):=(zz9 BK286.out 1).trans rfl;have hfz110_0:=zz10 BK286.out 0;have hfz110_1:=zz10 BK286.out 1) | ((with_reducible refine gate_callee (f:=25) rfl ?_);refine goesL_ (some 64) rfl rfl Try.func25 (by kernel_rfl) rfl #[.agg #[.int .i64 t281,.slice Ao20 t296.length co20],.int .i64 1] rfl (by (try simp only [zz26,zz27,zz28]);first | done | (rw [show t296.length=t282.length from (Kd.R_reads' HO_287001.out).1.symm] <;> rfl) | rfl | (simp only [zz24,zz25];rfl)) ?_;(with_reducible refine (laws_heldParty.calls kj35 t281 _ _ t296 1 t297 _ ?side1 ?side2 A53.out).mono ?_);(case side1=>repeat (first | exact (Kd.R_reads' HO_287001.out).2.2 | (with_reducible refine zz18 ?_ _) | (with_reducible refine zz19 ?_ _) | (with_reducible refine zz20 ?_)));(case side2=>rw [show t296.length=t282.length from (Kd.R_reads' HO_287001.out).1.symm];exact (Kd.R_reads' HO_287001.out).2.1);rintro e w111 ⟨rfl,hb⟩;refine ⟨_,rfl,?_⟩;have n0_:=zz31 (Kd.R_below (by (with_reducible repeat (first | apply zz12 | apply zz13 | apply zz14));exact HO_278001.out) hb);have n1_:=zz31 (Kd.R_below (by (with_reducible repeat (first | apply zz12 | apply zz13 | apply zz14));exact HO_287001.out) hb);have n2_:=zz31 (zz11 (g:=gb277) (o:=.cells #[.int .i64 t272,.slice Ao13 t273.length co13] 32 (0,0)) (by (with_reducible repeat (first | refine zz6 ?_ _ | refine zz7 ?_ | refine zz8 ?_ _));exact BK277.out) hb);have n3_:=zz31 (zz11 (g:=gb286) (o:=.cells #[.int .i64 t281,.slice Ao20 t282.length co20] 32 (0,0)) (by (with_reducible repeat (first | refine zz6 ?_ _ | refine zz7 ?_ | refine zz8 ?_ _));exact BK286.out) hb);have n4_:=zz31 (zz4 (by repeat first | exact HB.out | apply zz2 | apply zz0 | apply zz1 | refine zz3 ?_ GE277.out | refine zz3 ?_ GE286.out) hb);clear HO_278001;clear HO_287001;clear BK277;clear BK286;clear HB;have HO_278001:=n0_;have HO_287001:=n1_;have BK277:=n2_;have BK286:=n3_;have HB:=n4_;clear n0_ n1_ n2_ n3_ n4_;(try clear hb);(try clear hb2);(try clear hk);(try clear hi)))
           go_ret
           exact ⟨by first | rfl | (simp [errW_none,errW_some] <;> rfl) | (simp [*,errW_none,errW_some] <;> rfl),by repeat first | exact HB.out | apply zz2 | apply zz0 | apply zz1 | refine zz3 ?_ GE277.out | refine zz3 ?_ GE286.out⟩
     ·replace c34:=Bool.eq_false_iff.mpr c34
      subst c34
      have H1:(some false)=some r:=by rw [if_neg (show ¬ (false=true) by decide)] at H;exact H
      clear H
      have H:=H1
      clear H1
      obtain rfl:=Option.some.inj H
      go_wp2_with (first | ((with_reducible refine gate_callee (f:=15) rfl ?_);refine goesL_ (some 40) rfl rfl Try.func15 (by kernel_rfl) rfl #[.slice A0 l0.length c0] rfl (by (try simp only [zz26,zz27,zz28]);first | done | rfl | (simp only [zz24,zz25];rfl)) ?_;(with_reducible refine (laws_toIntS.calls kj6 _ _ l0 t288 _ ?side1 ?side2 A32.out).mono ?_);(case side1=>repeat (first | exact (Kd.C_below HR0.out HB.out) | (with_reducible refine zz18 ?_ _) | (with_reducible refine zz19 ?_ _) | (with_reducible refine zz20 ?_)));(case side2=>exact HC0.out);rintro e w112 ⟨v289,rfl,ho0,hb⟩;refine ⟨_,rfl,?_⟩;have n0_:=zz31 (Kd.R_elder' (by (with_reducible repeat (first | apply zz12 | apply zz13 | apply zz14));exact HO_5.out) (Kd.R_base ho0) hb);have n1_:=zz31 (Kd.R_below (by (with_reducible repeat (first | apply zz12 | apply zz13 | apply zz14));exact HO_278001.out) hb);have n2_:=zz31 (Kd.R_below (by (with_reducible repeat (first | apply zz12 | apply zz13 | apply zz14));exact HO_287001.out) hb);have n3_:=zz31 (Kd.R_lower (Kd.R_new' ho0 (Kd.R_lt (by (with_reducible repeat (first | apply zz12 | apply zz13 | apply zz14));exact HO_5.out))) (zz5 (by repeat first | exact HB.out | apply zz2 | apply zz0 | apply zz1 | refine zz3 ?_ GE277.out | refine zz3 ?_ GE286.out)));have n4_:=zz31 (zz11 (g:=gb277) (o:=.cells #[.int .i64 t272,.slice Ao13 t273.length co13] 32 (0,0)) (by (with_reducible repeat (first | refine zz6 ?_ _ | refine zz7 ?_ | refine zz8 ?_ _));exact BK277.out) hb);have n5_:=zz31 (zz11 (g:=gb286) (o:=.cells #[.int .i64 t281,.slice Ao20 t282.length co20] 32 (0,0)) (by (with_reducible repeat (first | refine zz6 ?_ _ | refine zz7 ?_ | refine zz8 ?_ _));exact BK286.out) hb);have n6_:=zz31 (zz4 (by repeat first | exact HB.out | apply zz2 | apply zz0 | apply zz1 | refine zz3 ?_ GE277.out | refine zz3 ?_ GE286.out) hb);clear HO_5;clear HO_278001;clear HO_287001;clear BK277;clear BK286;clear HB;have HO_5:=n0_;have HO_278001:=n1_;have HO_287001:=n2_;have HO290:=n3_;have BK277:=n4_;have BK286:=n5_;have HB:=n6_;clear n0_ n1_ n2_ n3_ n4_ n5_ n6_;(try clear hb);(try clear hb2);(try clear hk);(try clear hi);(try clear ho0);obtain ⟨Ao113,co113,eo113⟩:=Kd.R_slice HO290.out;subst eo113) | ((with_reducible refine gate_callee (f:=17) rfl ?_);refine goesL_ (some 41) rfl rfl Try.func17 (by kernel_rfl) rfl #[.slice Ao15 t278.length co15,.slice Ao113 t288.length co113] rfl (by (try simp only [zz26,zz27,zz28]);first | done | rfl | (simp only [zz24,zz25];rfl)) ?_;(with_reducible refine (laws_eqIntS.calls kj6 _ _ t278 _ _ t288 false _ ?side1 ?side2 ?side3 ?side4 A33.out).mono ?_);(case side1=>repeat (first | exact (Kd.R_reads' HO_5.out).2.2 | (with_reducible refine zz18 ?_ _) | (with_reducible refine zz19 ?_ _) | (with_reducible refine zz20 ?_)));(case side2=>exact (Kd.R_reads' HO_5.out).2.1);(case side3=>repeat (first | exact (Kd.R_reads' HO290.out).2.2 | (with_reducible refine zz18 ?_ _) | (with_reducible refine zz19 ?_ _) | (with_reducible refine zz20 ?_)));(case side4=>exact (Kd.R_reads' HO290.out).2.1);rintro e w' ⟨rfl,⟨nd,rfl⟩⟩;refine ⟨_,rfl,?_⟩))
      go_ret
      exact ⟨by first | rfl | (simp [errW_none,errW_some] <;> rfl) | (simp [*,errW_none,errW_some] <;> rfl),by repeat first | exact HB.out | apply zz2 | apply zz0 | apply zz1 | refine zz3 ?_ GE277.out | refine zz3 ?_ GE286.out⟩

/-- THE ONE PURE STATEMENT of laws_FnExactPartyOfNumbers: yours. -/
def laws_FnExactPartyOfNumbers.Pure:Prop:=∀ (l0:List Int),l0.length≤maxLen→l0.length * 8≤140737488351232→(∀ x ∈ l0,(Lit.int .i64 x).wf=true)→∃ k,laws_FnExactPartyOfNumbers.f k l0=some true
theorem laws_FnExactPartyOfNumbers.walk (P:laws_FnExactPartyOfNumbers.Pure) (a0:Option Addr) (len0 cap0:Nat) (z0:List Int) (w:World) (w0:(a0=none∧len0=0∧cap0=0∧z0=[]) ∨ ∃ x,a0=some x∧len0≤cap0∧cap0≤maxLen∧z0.length=cap0∧(∀ i,i < z0.length→w.cell? (x.add i)=some (.int .i64 (z0.getD i 0)))∧∀ n ∈ z0,(Lit.int .i64 n).wf=true) (y0:len0 * 8≤140737488351232) :
  Calls Try.prog 13 #[.slice a0 len0 cap0] w fun e w'=>e=.returned (.bool true)∧Below w.heap.size w w':=by
 obtain ⟨l0,rfl,hr0,hm0,hw0,hc0⟩:=ReadsInt.ofRowC w0
 obtain ⟨k,h⟩:=P l0 hm0 y0 hw0
 refine (laws_FnExactPartyOfNumbers.calls k _ _ l0 true w (Kd.C_of_reads (d:=(0:Int)) (h1:=fun _=>rfl) hr0) hc0 h).mono ?_
 rintro e w' ⟨rfl,hd⟩
 exact ⟨rfl,hd⟩

end Go.Proofs.Ytjipjcdeoajnjaa.P
