-- PRINTED by print.py (a twelfth state) out of the translation. Not trusted: Lean checks it.
import Derived.Test.YtiopgbpjkjnphaaPx0
import Derived.Test.YtiopgbpjkjnphaaPx7
import Derived.Test.YtiopgbpjkjnphaaPx8
namespace Go.Proofs.Ytiopgbpjkjnphaa.P
open Go.RowKit Go.Proofs.YtiopgbpjkjnphaaW.PrintWords Go.Proofs.YtiopgbpjkjnphaaW.PrintLast Go.Proofs.YtiopgbpjkjnphaaW.PrintMore
open Bool renaming true → T, false → F
attribute [local go_sem] max2_int min2_int max_two min_two max_three min_three max_four min_four   -- for this text's walks alone
set_option linter.unusedVariables false
set_option linter.unusedSimpArgs false

/-! ### spec_grParts: function 61 -/
mutual
def spec_grParts.l0:Nat→List Int→List Int→Int→Int→Option (Int × (List (S61)))
 | 0,_,_,_,_=>none
 | k+1,x3,x9,x10,x11=>if x11 < x10 then (if 0≤x11 then (if x11 < (x9.length:Int) then (spec_grParts.l1 k x3 x11 (rd x9 x11) x9 x10 x11) else (none)) else (none)) else ((spec_paTable.f k (x3.length:Int) ([]:List (S61))).bind fun t283=>(spec_grParts.l2 k x3 t283 (x3.length:Int) 0))
def spec_grParts.l1:Nat→List Int→Int→Int→List Int→Int→Int→Option (Int × (List (S61)))
 | 0,_,_,_,_,_,_=>none
 | k+1,x3,x4,x5,x9,x10,x11=>if x5 > 0 then (if x3.length < 17592186044416 then (spec_grParts.l1 k (x3 ++ [x4]) x4 (wrap64 (x5 - 1)) x9 x10 x11) else (none)) else (spec_grParts.l0 k x3 x9 x10 (wrap64 (x11+1)))
def spec_grParts.l2:Nat→List Int→List (List Bool)→Int→Int→Option (Int × (List (S61)))
 | 0,_,_,_,_=>none
 | k+1,x3,x6,x30,x31=>if x31 < x30 then (spec_grParts.l3 k x3 x6 x31 x30 x31 (x3.length:Int) 0) else ((spec_paOf.f k x6).bind fun bt286=>(some (bt286.1,bt286.2)))
def spec_grParts.l3:Nat→List Int→List (List Bool)→Int→Int→Int→Int→Int→Option (Int × (List (S61)))
 | 0,_,_,_,_,_,_,_=>none
 | k+1,x3,x6,x7,x30,x31,x35,x36=>if x36 < x35 then (if 0≤x7 then (if x7 < (x6.length:Int) then (if x7 < (x3.length:Int) then (if 0≤x36 then (if x36 < (x3.length:Int) then (if x36 < ((rd_L4 x6 x7).length:Int) then (spec_grParts.l3 k x3 (x6.set (x7:Int).toNat ((rd_L4 x6 x7).set (x36:Int).toNat ((rd x3 x7) != (rd x3 x36)))) x7 x30 x31 x35 (wrap64 (x36+1))) else (none)) else (none)) else (none)) else (none)) else (none)) else (none)) else (spec_grParts.l2 k x3 x6 x30 (wrap64 (x31+1)))
end
def spec_grParts.f (k:Nat) (l0:List Int):Option (Int × (List (S61))):=spec_grParts.l0 k ([]:List Int) l0 (l0.length:Int) 0
theorem spec_grParts.mono_l:∀ k,(∀ y0 y1 y2 y3,LeO (spec_grParts.l0 k y0 y1 y2 y3) (spec_grParts.l0 (k+1) y0 y1 y2 y3))∧(∀ y0 y1 y2 y3 y4 y5,LeO (spec_grParts.l1 k y0 y1 y2 y3 y4 y5) (spec_grParts.l1 (k+1) y0 y1 y2 y3 y4 y5))∧(∀ y0 y1 y2 y3,LeO (spec_grParts.l2 k y0 y1 y2 y3) (spec_grParts.l2 (k+1) y0 y1 y2 y3))∧(∀ y0 y1 y2 y3 y4 y5 y6,LeO (spec_grParts.l3 k y0 y1 y2 y3 y4 y5 y6) (spec_grParts.l3 (k+1) y0 y1 y2 y3 y4 y5 y6))
 | 0=>⟨fun _ _ _ _ r h=>by simp [spec_grParts.l0] at h,fun _ _ _ _ _ _ r h=>by simp [spec_grParts.l1] at h,fun _ _ _ _ r h=>by simp [spec_grParts.l2] at h,fun _ _ _ _ _ _ _ r h=>by simp [spec_grParts.l3] at h⟩
 | k+1=>by
  obtain ⟨ih0,ih1,ih2,ih3⟩:=spec_grParts.mono_l k
  refine ⟨?_,?_,?_,?_⟩
  ·intro y0 y1 y2 y3
   unfold spec_grParts.l0
   repeat' first
   | (with_reducible exact ih0 _ _ _ _)
   | (with_reducible exact ih1 _ _ _ _ _ _)
   | (with_reducible exact ih2 _ _ _ _)
   | (with_reducible exact ih3 _ _ _ _ _ _ _)
   | (with_reducible exact spec_paOf.mono _ _)
   | (with_reducible exact spec_paTable.mono _ _ _)
   | (with_reducible exact LeO.refl _)
   | (with_reducible exact LeO.none _)
   | (with_reducible refine LeO.ite ?_ ?_)
   | (with_reducible refine LeO.bind ?_ (fun _=>?_))
   | exact ih0 _ _ _ _
   | exact ih1 _ _ _ _ _ _
   | exact ih2 _ _ _ _
   | exact ih3 _ _ _ _ _ _ _
   | exact spec_paOf.mono _ _
   | exact spec_paTable.mono _ _ _
   | exact LeO.none _
   | refine LeO.ite ?_ ?_
   | refine LeO.bind ?_ (fun _=>?_)
  ·intro y0 y1 y2 y3 y4 y5
   unfold spec_grParts.l1
   repeat' first
   | (with_reducible exact ih0 _ _ _ _)
   | (with_reducible exact ih1 _ _ _ _ _ _)
   | (with_reducible exact ih2 _ _ _ _)
   | (with_reducible exact ih3 _ _ _ _ _ _ _)
   | (with_reducible exact spec_paOf.mono _ _)
   | (with_reducible exact spec_paTable.mono _ _ _)
   | (with_reducible exact LeO.refl _)
   | (with_reducible exact LeO.none _)
   | (with_reducible refine LeO.ite ?_ ?_)
   | (with_reducible refine LeO.bind ?_ (fun _=>?_))
   | exact ih0 _ _ _ _
   | exact ih1 _ _ _ _ _ _
   | exact ih2 _ _ _ _
   | exact ih3 _ _ _ _ _ _ _
   | exact spec_paOf.mono _ _
   | exact spec_paTable.mono _ _ _
   | exact LeO.none _
   | refine LeO.ite ?_ ?_
   | refine LeO.bind ?_ (fun _=>?_)
  ·intro y0 y1 y2 y3
   unfold spec_grParts.l2
   repeat' first
   | (with_reducible exact ih0 _ _ _ _)
   | (with_reducible exact ih1 _ _ _ _ _ _)
   | (with_reducible exact ih2 _ _ _ _)
   | (with_reducible exact ih3 _ _ _ _ _ _ _)
   | (with_reducible exact spec_paOf.mono _ _)
   | (with_reducible exact spec_paTable.mono _ _ _)
   | (with_reducible exact LeO.refl _)
   | (with_reducible exact LeO.none _)
   | (with_reducible refine LeO.ite ?_ ?_)
   | (with_reducible refine LeO.bind ?_ (fun _=>?_))
   | exact ih0 _ _ _ _
   | exact ih1 _ _ _ _ _ _
   | exact ih2 _ _ _ _
   | exact ih3 _ _ _ _ _ _ _
   | exact spec_paOf.mono _ _
   | exact spec_paTable.mono _ _ _
   | exact LeO.none _
   | refine LeO.ite ?_ ?_
   | refine LeO.bind ?_ (fun _=>?_)
  ·intro y0 y1 y2 y3 y4 y5 y6
   unfold spec_grParts.l3
   repeat' first
   | (with_reducible exact ih0 _ _ _ _)
   | (with_reducible exact ih1 _ _ _ _ _ _)
   | (with_reducible exact ih2 _ _ _ _)
   | (with_reducible exact ih3 _ _ _ _ _ _ _)
   | (with_reducible exact spec_paOf.mono _ _)
   | (with_reducible exact spec_paTable.mono _ _ _)
   | (with_reducible exact LeO.refl _)
   | (with_reducible exact LeO.none _)
   | (with_reducible refine LeO.ite ?_ ?_)
   | (with_reducible refine LeO.bind ?_ (fun _=>?_))
   | exact ih0 _ _ _ _
   | exact ih1 _ _ _ _ _ _
   | exact ih2 _ _ _ _
   | exact ih3 _ _ _ _ _ _ _
   | exact spec_paOf.mono _ _
   | exact spec_paTable.mono _ _ _
   | exact LeO.none _
   | refine LeO.ite ?_ ?_
   | refine LeO.bind ?_ (fun _=>?_)
theorem spec_grParts.mono:∀ a0 k,LeO (spec_grParts.f k a0) (spec_grParts.f (k+1) a0):=by
 intro a0 k
 obtain ⟨ih0,ih1,ih2,ih3⟩:=spec_grParts.mono_l k
 unfold spec_grParts.f
 repeat' first
   | (with_reducible exact ih0 _ _ _ _)
   | (with_reducible exact ih1 _ _ _ _ _ _)
   | (with_reducible exact ih2 _ _ _ _)
   | (with_reducible exact ih3 _ _ _ _ _ _ _)
   | (with_reducible exact spec_paOf.mono _ _)
   | (with_reducible exact spec_paTable.mono _ _ _)
   | (with_reducible exact LeO.refl _)
   | (with_reducible exact LeO.none _)
   | (with_reducible refine LeO.ite ?_ ?_)
   | (with_reducible refine LeO.bind ?_ (fun _=>?_))
   | exact ih0 _ _ _ _
   | exact ih1 _ _ _ _ _ _
   | exact ih2 _ _ _ _
   | exact ih3 _ _ _ _ _ _ _
   | exact spec_paOf.mono _ _
   | exact spec_paTable.mono _ _ _
   | exact LeO.none _
   | refine LeO.ite ?_ ?_
   | refine LeO.bind ?_ (fun _=>?_)
def spec_grParts.T16:Bool × List (List Nat × List Nat):=(true,[([],[]),([],[]),([0,1],[0,1]),([2],[2]),([],[]),([],[]),([],[]),([5,6],[5,6]),([7],[7]),([],[]),([],[]),([9,10],[9,10]),([11],[11]),([8,12],[8,12]),([3,4,0,1,2,3,4,5,6,7,8,9,10,11,12,13],[3,4]),([14,13,0,1,2,3,4,5,6,7,8,9,10,11,12,13],[13,14])])
def spec_grParts.B16:List Nat:=[0,0,3,7,0,0,0,96,224,0,0,1536,3584,8160,16383,32767]
theorem spec_grParts.tab16:rtab .any (opsOf Try.f61 16)=spec_grParts.T16:=by kernel_rfl
theorem spec_grParts.bits16:waitsOk spec_grParts.T16.2 spec_grParts.B16=true:=by kernel_rfl
set_option maxHeartbeats 8000000 in
set_option maxRecDepth 100000 in
theorem spec_grParts.calls (k:Nat) (A0:Option Addr) (c0:Nat) (l0:List Int) (r1:Int) (r2:List (S61)) (w:World) (hr0:Kd.C (Kd.int .i64) w A0 l0.length l0) (hc0:l0.length≤c0) (h:spec_grParts.f k l0=some (r1,r2)) :
  Calls Try.prog 61 #[.slice A0 l0.length c0] w fun e w'=>∃ v1_:Value,e=.returned (.agg #[.int .i64 r1,v1_])∧Kd.R k61 61 w' w.heap.size (fun _=>True) v1_ r2∧Below w.heap.size w w':=by
 have hu29:=Try.underlying29
 have HR0:=Aside0.mk hr0
 have HC0:=Aside0.mk hc0
 clear hr0 hc0
 have HB:=Aside0.mk (Below.refl w.heap.size w)
 have H:(spec_grParts.l0 k ([]:List Int) l0 (l0.length:Int) 0)=some (r1,r2):=h
 clear h
 have H':=Aside0.mk H
 clear H
 go_enter Try.func61,Try.ntmps61
 go_wp2_with (first | ((with_reducible refine gate_dst (N:=2) rfl ?_);refine box_event ?hg (N:=2) ?hd (cs:=#[.int .i64 0,.slice none 0 0]) (t:=29) ?hr ?_;(case hd=>rfl);(case hg=>rfl);(case hr=>first | (go_simp;done) | (go_simp;rfl));intro gb278 hg w2 hbox hb;have n0_:=Aside0.mk (zz4 (by repeat first | exact HB.out | apply zz2 | apply zz0 | apply zz1) hb);have n1_:=Aside0.mk (hbox);have n2_:=Aside0.mk ((by rw [hg];exact (zz5 (by repeat first | exact HB.out | apply zz2 | apply zz0 | apply zz1)):w.heap.size≤gb278));have n3_:=Aside0.mk ((by rw [hg];exact (zz5 (by repeat first | exact HB.out | apply zz2 | apply zz0 | apply zz1)):w.heap.size≤gb278));clear HB;have HB:=n0_;have BK278:=n1_;have GW278:=n2_;have GE278:=n3_;clear n0_ n1_ n2_ n3_;clear hb hbox hg))
 go_loopg [3,11] k (fun kq v3 v11 w'=>∃ (x3_1:List Int) (x11_1:Int),v11=.int .i64 x11_1∧Aside0 (spec_grParts.l0 kq x3_1 l0 (l0.length:Int) x11_1=some (r1,r2))∧Aside0 (kq≤k)∧Aside0 (Kd.R (Kd.int .i64) 3 w' w.heap.size (fun _=>True) v3 x3_1)∧Aside0 (w'.heap[gb278]?=some (.cells #[.int .i64 0,(.slice none 0 0)] 29 (0,0)))∧Aside0 (Below w.heap.size w w'))
 case atStart=>exact ⟨(([]:List Int)),(0),(by first | rfl | (simp;done) | (simp [*];done)),H',⟨Nat.le_refl _⟩,⟨by first | exact Kd.R_nil _ _ _ _ _ | exact Kd.N_nil _ _ _ _ _ | exact Kd.V_nil _ _ _ _ _ | exact Kd.Q_nil _ _ _ _ _ | exact Kd.S_nil _ _ _ _ _⟩,⟨by (with_reducible repeat (first | refine zz6 ?_ _ | refine zz7 ?_ | refine zz8 ?_ _));exact BK278.out⟩,⟨by repeat first | exact HB.out | apply zz2 | apply zz0 | apply zz1 | refine zz3 ?_ GE278.out⟩⟩
 case round =>
  clear H'
  try clear p2
  obtain ⟨x3_1,x11_1,rfl,HA,HK1,HO_3,BK278,HB⟩:=hrel
  cases gk with
  | zero=>exact absurd HA.out (by simp [spec_grParts.l0])
  | succ k1 =>
   have H:=HA.out
   clear HA
   simp only [spec_grParts.l0] at H
   by_cases c3:x11_1 < (l0.length:Int)
   ·rw [if_pos c3] at H
    have c3b0:decide (x11_1 < (l0.length:Int))=true:=decide_eq_true c3
    clear c3
    by_cases c4:0≤x11_1
    ·rw [if_pos c4] at H
     have c4b0:decide (0≤x11_1)=true:=decide_eq_true c4
     clear c4
     by_cases c5:x11_1 < (l0.length:Int)
     ·rw [if_pos c5] at H
      have c5b0:decide (x11_1 < (l0.length:Int))=true:=decide_eq_true c5
      clear c5
      have H':=Aside0.mk H
      clear H
      have p279:0≤(x11_1:Int):=zz29 (by first | (with_reducible assumption) | assumption)
      have q279:x11_1 < (l0.length:Int):=zz29 (by first | (with_reducible assumption) | assumption)
      obtain ⟨ad279,e279,hx279_0⟩:=Kd.at_int HR0.out x11_1 p279 q279
      cases e279
      replace hx279_0:=(HB.out.cell (World.block_lt_of_cell? w _ hx279_0)).trans hx279_0
      replace p279:=eq_true p279
      replace q279:=eq_true q279
      go_wp2
      go_loopg [3,5] k1 (fun kq v3 v5 w'=>∃ (x3_2:List Int) (x5_2:Int),v5=.int .i64 x5_2∧Aside0 (spec_grParts.l1 kq x3_2 x11_1 x5_2 l0 (l0.length:Int) x11_1=some (r1,r2))∧Aside0 (kq≤k1)∧Aside0 (Kd.R (Kd.int .i64) 3 w' w.heap.size (fun _=>True) v3 x3_2)∧Aside0 (w'.heap[gb278]?=some (.cells #[.int .i64 0,(.slice none 0 0)] 29 (0,0)))∧Aside0 (Below w.heap.size w w'))
      case atStart=>exact ⟨(x3_1),(rd l0 x11_1),(by first | rfl | (simp;done) | (simp [*];done)),H',⟨Nat.le_refl _⟩,⟨by (with_reducible repeat (first | apply zz12 | apply zz13 | apply zz14));exact HO_3.out⟩,⟨by (with_reducible repeat (first | refine zz6 ?_ _ | refine zz7 ?_ | refine zz8 ?_ _));exact BK278.out⟩,⟨by repeat first | exact HB.out | apply zz2 | apply zz0 | apply zz1 | refine zz3 ?_ GE278.out⟩⟩
      case round =>
       clear H'
       try clear p2
       try clear q2
       try clear hx2
       try clear c3
       try clear c3b0
       try clear c4
       try clear c4b0
       try clear c5
       try clear c5b0
       try clear hx279_0
       try clear p2
       try clear p279
       try clear q279
       obtain ⟨x3_2,x5_2,rfl,HA,HK2,HO_3,BK278,HB⟩:=hrel
       cases gk with
       | zero=>exact absurd HA.out (by simp [spec_grParts.l1])
       | succ k2 =>
        have H:=HA.out
        clear HA
        simp only [spec_grParts.l1] at H
        by_cases c6:x5_2 > 0
        ·rw [if_pos c6] at H
         have c6b0:decide (0 < x5_2)=true:=decide_eq_true c6
         clear c6
         by_cases c7:x3_2.length < 17592186044416
         ·rw [if_pos c7] at H
          have LMc7:=Aside0.mk c7
          clear c7
          obtain ⟨y280,hy280⟩:∃ y_:List Int,y_=(x3_2 ++ [x11_1]):=⟨_,rfl⟩
          replace H:(spec_grParts.l1 k2 y280 x11_1 (wrap64 (x5_2 - 1)) l0 (l0.length:Int) x11_1)=some (r1,r2):=by first | (rw [hy280];with_reducible exact H) | (have H2_:=(Option.bind_some _ _).symm.trans H;rw [hy280];with_reducible exact H2_) | (have H2_:=(Option.bind_some _ _).symm.trans H;with_reducible exact H2_) | with_reducible exact H | (rw [hy280];exact H) | exact H
          have Ny280:=Aside0.mk hy280
          clear hy280
          have H':=Aside0.mk H
          clear H
          go_wp2_with (first | ((with_reducible refine gate_builtin (b:=.append) (xs:=#[.tmp 20,.tmp 22]) rfl ?_);at_builtin;refine Kd.R_append (Kd.int .i64) (w0:=w) w.heap.size rfl (.tmp 20) (.tmp 22) 45 3 (.int .i64 0) 8 rfl Try.underlying45 info3 rfl (by decide) (by omega) u3 x3_2 x11_1 [.int .i64 x11_1] (fun _=>True) (fun _=>False) rfl rfl ?aP (fun _ hk=>hk.elim) ?aF ?aO ?aB ?aS ?aL ?_;(case aP=>exact rfl);(case aB=>exact (by repeat first | exact HB.out | apply zz2 | apply zz0 | apply zz1 | refine zz3 ?_ GE278.out));(case aF=>exact (fun _ _=>trivial));(case aO=>exact (by (with_reducible repeat (first | apply zz12 | apply zz13 | apply zz14));exact HO_3.out));(case aS=>exact (zz5 (by repeat first | exact HB.out | apply zz2 | apply zz0 | apply zz1 | refine zz3 ?_ GE278.out)));(case aL=>have:=LMc7.out;omega);intro v281 w8 ho hb hg hat;rw [← Ny280.out] at ho;have n0_:=Aside0.mk (blk_grown (g:=gb278) (o:=.cells #[.int .i64 0,.slice none 0 0] 29 (0,0)) (by (with_reducible repeat (first | refine zz6 ?_ _ | refine zz7 ?_ | refine zz8 ?_ _));exact BK278.out) hg (Kd.R_ne HO_3.out BK278.out (by decide)));have n1_:=Aside0.mk (hb);have n2_:=Aside0.mk (ho);clear BK278;clear HB;clear HO_3;have BK278:=n0_;have HB:=n1_;have HO282:=n2_;clear n0_ n1_ n2_;clear ho hb hg hat))
          go_roundg k2
          case measure=>have:=HK1.out;have:=HK2.out;omega
          case rel=>exact ⟨(y280),(wrap64 (x5_2 - 1)),(by first | rfl | (simp;done) | (simp [*];done)),H',⟨by have:=HK1.out;have:=HK2.out;omega⟩,⟨by (with_reducible repeat (first | apply zz12 | apply zz13 | apply zz14));exact HO282.out⟩,⟨by (with_reducible repeat (first | refine zz6 ?_ _ | refine zz7 ?_ | refine zz8 ?_ _));exact BK278.out⟩,⟨by repeat first | exact HB.out | apply zz2 | apply zz0 | apply zz1 | refine zz3 ?_ GE278.out⟩⟩
         ·rw [if_neg c7] at H
          exact absurd H (by simp)
        ·rw [if_neg c6] at H
         have c6b0:decide (0 < x5_2)=false:=decide_eq_false c6
         clear c6
         have H':=Aside0.mk H
         clear H
         go_wp2
         go_roundg k2
         case measure=>have:=HK1.out;have:=HK2.out;omega
         case rel=>exact ⟨(x3_2),(wrap64 (x11_1+1)),(by first | rfl | (simp;done) | (simp [*];done)),H',⟨by have:=HK1.out;have:=HK2.out;omega⟩,⟨by (with_reducible repeat (first | apply zz12 | apply zz13 | apply zz14));exact HO_3.out⟩,⟨by (with_reducible repeat (first | refine zz6 ?_ _ | refine zz7 ?_ | refine zz8 ?_ _));exact BK278.out⟩,⟨by repeat first | exact HB.out | apply zz2 | apply zz0 | apply zz1 | refine zz3 ?_ GE278.out⟩⟩
     ·rw [if_neg c5] at H
      exact absurd H (by simp)
    ·rw [if_neg c4] at H
     exact absurd H (by simp)
   ·rw [if_neg c3] at H
    have c3b0:decide (x11_1 < (l0.length:Int))=false:=decide_eq_false c3
    clear c3
    replace H:=zz30.mp H
    obtain ⟨t283,A90,H⟩:=H
    replace H:(spec_grParts.l2 k1 x3_1 t283 (x3_1.length:Int) 0)=some (r1,r2):=H
    have A9:=Aside0.mk A90
    clear A90
    have H':=Aside0.mk H
    clear H
    obtain ⟨Ao10,co10,eo10⟩:=Kd.R_slice HO_3.out
    subst eo10
    go_wp2_with (first | ((with_reducible refine gate_callee (f:=64) rfl ?_);refine goesL_ (some 28) rfl rfl Try.func64 (by kernel_rfl) rfl #[.agg #[.int .i64 (x3_1.length:Int),.slice none 0 0]] rfl (by (try simp only [zz26,zz27,zz28]);first | done | rfl | (simp only [zz24,zz25];rfl) | (simp only [zz25];congr;(try simp only [decide_eq_true_eq] at *);omega)) ?_;(refine (spec_paTable.calls k1 (x3_1.length:Int) _ _ ([]:List (S61)) t283 _ ?side1 ?side2 A9.out).mono ?_);(case side1=>exact Kd.C_nil _ _);(case side2=>exact Nat.le_refl _);rintro e w11 ⟨v284,rfl,ho0,hb⟩;refine ⟨_,rfl,?_⟩;have n0_:=Aside0.mk (Kd.R_below (by (with_reducible repeat (first | apply zz12 | apply zz13 | apply zz14));exact HO_3.out) hb);have n1_:=Aside0.mk (Kd.S_lower ho0 (zz5 (by repeat first | exact HB.out | apply zz2 | apply zz0 | apply zz1 | refine zz3 ?_ GE278.out)));have n2_:=Aside0.mk (zz11 (g:=gb278) (o:=.cells #[.int .i64 0,.slice none 0 0] 29 (0,0)) (by (with_reducible repeat (first | refine zz6 ?_ _ | refine zz7 ?_ | refine zz8 ?_ _));exact BK278.out) hb);have n3_:=Aside0.mk (zz4 (by repeat first | exact HB.out | apply zz2 | apply zz0 | apply zz1 | refine zz3 ?_ GE278.out) hb);clear HO_3;clear BK278;clear HB;have HO_3:=n0_;have HO285:=n1_;have BK278:=n2_;have HB:=n3_;clear n0_ n1_ n2_ n3_;(try clear hb);(try clear hb2);(try clear hk);(try clear hi);(try clear ho0)))
    go_loopg [31] k1 (fun kq v31 w'=>∃ (x6_2:List (List Bool)) (x31_2:Int),v31=.int .i64 x31_2∧Aside0 (spec_grParts.l2 kq x3_1 x6_2 (x3_1.length:Int) x31_2=some (r1,r2))∧Aside0 (kq≤k1)∧Aside0 (Kd.R (Kd.int .i64) 3 w' w.heap.size (fun _=>True) (.slice Ao10 x3_1.length co10) x3_1)∧Aside0 (Kd.S (Kd.slice 4 Kd.bool) 74 w' w.heap.size (fun _=>True) v284 x6_2)∧Aside0 (w'.heap[gb278]?=some (.cells #[.int .i64 0,(.slice none 0 0)] 29 (0,0)))∧Aside0 (Below w.heap.size w w'))
    case atStart=>exact ⟨(t283),(0),(by first | rfl | (simp;done) | (simp [*];done)),H',⟨Nat.le_refl _⟩,⟨by (with_reducible repeat (first | apply zz12 | apply zz13 | apply zz14));exact HO_3.out⟩,⟨by (with_reducible repeat (first | apply zz15 | apply zz16 | apply zz17));exact HO285.out⟩,⟨by (with_reducible repeat (first | refine zz6 ?_ _ | refine zz7 ?_ | refine zz8 ?_ _));exact BK278.out⟩,⟨by repeat first | exact HB.out | apply zz2 | apply zz0 | apply zz1 | refine zz3 ?_ GE278.out⟩⟩
    case round =>
     clear H'
     try clear p2
     try clear q2
     try clear hx2
     try clear c3
     try clear c3b0
     try clear c4
     try clear c4b0
     try clear c5
     try clear c5b0
     try clear c6
     try clear c6b0
     try clear p6
     try clear c7
     try clear hx279_0
     try clear p2
     try clear p279
     try clear q2
     try clear q279
     obtain ⟨x6_2,x31_2,rfl,HA,HK2,HO_3,HO_6,BK278,HB⟩:=hrel
     cases gk with
     | zero=>exact absurd HA.out (by simp [spec_grParts.l2])
     | succ k2 =>
      have H:=HA.out
      clear HA
      simp only [spec_grParts.l2] at H
      by_cases c12:x31_2 < (x3_1.length:Int)
      ·rw [if_pos c12] at H
       have c12b0:decide (x31_2 < (x3_1.length:Int))=true:=decide_eq_true c12
       clear c12
       have H':=Aside0.mk H
       clear H
       go_wp2
       go_loopg [36] k2 (fun kq v36 w'=>∃ (x6_3:List (List Bool)) (x36_3:Int),v36=.int .i64 x36_3∧Aside0 (spec_grParts.l3 kq x3_1 x6_3 x31_2 (x3_1.length:Int) x31_2 (x3_1.length:Int) x36_3=some (r1,r2))∧Aside0 (kq≤k2)∧Aside0 (Kd.R (Kd.int .i64) 3 w' w.heap.size (fun _=>True) (.slice Ao10 x3_1.length co10) x3_1)∧Aside0 (Kd.S (Kd.slice 4 Kd.bool) 74 w' w.heap.size (fun _=>True) v284 x6_3)∧Aside0 (w'.heap[gb278]?=some (.cells #[.int .i64 0,(.slice none 0 0)] 29 (0,0)))∧Aside0 (Below w.heap.size w w'))
       case atStart=>exact ⟨(x6_2),(0),(by first | rfl | (simp;done) | (simp [*];done)),H',⟨Nat.le_refl _⟩,⟨by (with_reducible repeat (first | apply zz12 | apply zz13 | apply zz14));exact HO_3.out⟩,⟨by (with_reducible repeat (first | apply zz15 | apply zz16 | apply zz17));exact HO_6.out⟩,⟨by (with_reducible repeat (first | refine zz6 ?_ _ | refine zz7 ?_ | refine zz8 ?_ _));exact BK278.out⟩,⟨by repeat first | exact HB.out | apply zz2 | apply zz0 | apply zz1 | refine zz3 ?_ GE278.out⟩⟩
       case round =>
        clear H'
        try clear c1
        try clear p2
        try clear q2
        try clear hx2
        try clear c3
        try clear c3b0
        try clear c4
        try clear c4b0
        try clear c5
        try clear c5b0
        try clear c6
        try clear c6b0
        try clear p6
        try clear c7
        try clear c12
        try clear c12b0
        try clear hx279_0
        try clear p2
        try clear p279
        try clear p6
        try clear q2
        try clear q279
        obtain ⟨x6_3,x36_3,rfl,HA,HK3,HO_3,HO_6,BK278,HB⟩:=hrel
        cases gk with
        | zero=>exact absurd HA.out (by simp [spec_grParts.l3])
        | succ k3 =>
         have H:=HA.out
         clear HA
         simp only [spec_grParts.l3] at H
         by_cases c13:x36_3 < (x3_1.length:Int)
         ·rw [if_pos c13] at H
          have c13b0:decide (x36_3 < (x3_1.length:Int))=true:=decide_eq_true c13
          clear c13
          by_cases c14:0≤x31_2
          ·rw [if_pos c14] at H
           have c14b0:decide (0≤x31_2)=true:=decide_eq_true c14
           clear c14
           by_cases c15:x31_2 < (x6_3.length:Int)
           ·rw [if_pos c15] at H
            have c15b0:decide (x31_2 < (x6_3.length:Int))=true:=decide_eq_true c15
            clear c15
            by_cases c16:x31_2 < (x3_1.length:Int)
            ·rw [if_pos c16] at H
             have c16b0:decide (x31_2 < (x3_1.length:Int))=true:=decide_eq_true c16
             clear c16
             by_cases c17:0≤x36_3
             ·rw [if_pos c17] at H
              have c17b0:decide (0≤x36_3)=true:=decide_eq_true c17
              clear c17
              by_cases c18:x36_3 < (x3_1.length:Int)
              ·rw [if_pos c18] at H
               have c18b0:decide (x36_3 < (x3_1.length:Int))=true:=decide_eq_true c18
               clear c18
               by_cases c19:x36_3 < ((rd_L4 x6_3 x31_2).length:Int)
               ·rw [if_pos c19] at H
                have c19b0:decide (x36_3 < ((rd_L4 x6_3 x31_2).length:Int))=true:=decide_eq_true c19
                clear c19
                obtain ⟨y293,hy293⟩:∃ y_:List Bool,y_=((rd_L4 x6_3 x31_2).set (x36_3:Int).toNat ((rd x3_1 x31_2) != (rd x3_1 x36_3))):=⟨_,rfl⟩
                replace H:(spec_grParts.l3 k3 x3_1 (x6_3.set (x31_2:Int).toNat y293) x31_2 (x3_1.length:Int) x31_2 (x3_1.length:Int) (wrap64 (x36_3+1)))=some (r1,r2):=by first | (rw [hy293];with_reducible exact H) | (have H2_:=(Option.bind_some _ _).symm.trans H;rw [hy293];with_reducible exact H2_) | (have H2_:=(Option.bind_some _ _).symm.trans H;with_reducible exact H2_) | with_reducible exact H | (rw [hy293];exact H) | exact H
                have Ny293:=Aside0.mk hy293
                clear hy293
                obtain ⟨y295,hy295⟩:∃ y_:List (List Bool),y_=(x6_3.set (x31_2:Int).toNat y293):=⟨_,rfl⟩
                replace H:(spec_grParts.l3 k3 x3_1 y295 x31_2 (x3_1.length:Int) x31_2 (x3_1.length:Int) (wrap64 (x36_3+1)))=some (r1,r2):=by first | (rw [hy295];with_reducible exact H) | (have H2_:=(Option.bind_some _ _).symm.trans H;rw [hy295];with_reducible exact H2_) | (have H2_:=(Option.bind_some _ _).symm.trans H;with_reducible exact H2_) | with_reducible exact H | (rw [hy295];exact H) | exact H
                have Ny295:=Aside0.mk hy295
                clear hy295
                have H':=Aside0.mk H
                clear H
                try go_wp2
                have n0_:=Aside0.mk (zz14 HO_3.out)
                have n1_:=Aside0.mk (zz17 HO_6.out)
                have n2_:=Aside0.mk (zz7 BK278.out)
                have n3_:=Aside0.mk (zz1 HB.out)
                clear HO_3
                clear HO_6
                clear BK278
                clear HB
                have HO_3:=n0_
                have HO_6:=n1_
                have BK278:=n2_
                have HB:=n3_
                clear n0_ n1_ n2_ n3_
                obtain ⟨Ao22,co22,eo22⟩:=Kd.S_slice HO_6.out
                (first | subst eo22 | (injection eo22 with f1_ f2_ f3_;have f4_:=f1_.symm;have f5_:=f3_.symm;clear f1_ f2_ f3_;subst f4_;subst f5_))
                have p290:0≤(x31_2:Int):=zz29 (by first | (with_reducible assumption) | assumption)
                have q290:x31_2 < (x6_3.length:Int):=zz29 (by first | (with_reducible assumption) | assumption)
                obtain ⟨ad290,A290_0,c290_0,e290,hx290_0,hl290_0,hi290_0⟩:=at_L4 (Kd.S_reads' HO_6.out).2.2 x31_2 p290 q290
                cases e290
                obtain ⟨ce290,hce290,hMe290,hcc290⟩:=Kd.S_get HO_6.out [] x31_2 p290 (by first | exact q290 | exact zz29 (by first | (with_reducible assumption) | assumption) | (have e_:=(Kd.S_reads' HO_6.out).1;omega))
                obtain ⟨ve290_0,rfl,ge290_0⟩:=hMe290
                have hv290_0:=hcc290 0 _ rfl
                rw [Nat.add_zero,show ((Kd.slice 4 Kd.bool)).sz=1 from rfl,Nat.mul_one] at hv290_0
                replace hv290_0:=Option.some.inj (hv290_0.symm.trans hx290_0)
                rw [hv290_0] at ge290_0
                have HL290_0:=Aside0.mk (show Kd.R Kd.bool 4 _ _ _ _ (rd_L4 x6_3 x31_2) from ge290_0)
                clear hv290_0 ge290_0
                have HX290_0:=Aside0.mk hx290_0
                clear hcc290 hce290
                have HR290_0:=Aside0.mk hi290_0
                have HC290_0:=Aside0.mk hl290_0
                clear hi290_0 hl290_0
                replace p290:=eq_true p290
                replace q290:=eq_true q290
                have p291:0≤(x31_2:Int):=zz29 (by first | (with_reducible assumption) | assumption)
                have q291:x31_2 < (x3_1.length:Int):=zz29 (by first | (with_reducible assumption) | assumption)
                obtain ⟨ad291,e291,hx291_0⟩:=Kd.at_int (Kd.R_reads' HO_3.out).2.2 x31_2 p291 q291
                cases e291
                replace p291:=eq_true p291
                replace q291:=eq_true q291
                have p292:0≤(x36_3:Int):=zz29 (by first | (with_reducible assumption) | assumption)
                have q292:x36_3 < (x3_1.length:Int):=zz29 (by first | (with_reducible assumption) | assumption)
                obtain ⟨ad292,e292,hx292_0⟩:=Kd.at_int (Kd.R_reads' HO_3.out).2.2 x36_3 p292 q292
                obtain rfl:ad291=ad292:=(by injection e292)
                replace p292:=eq_true p292
                replace q292:=eq_true q292
                have p20:0≤(x36_3:Int):=zz29 (by first | (with_reducible assumption) | assumption)
                have q20:(x36_3:Int) < (((rd_L4 x6_3 x31_2).length:Int):Int):=zz29 (by first | (with_reducible assumption) | assumption)
                obtain ⟨go20,co20,eo20,gb20,gl20,cl20,HG20⟩:=Kd.R_form HL290_0.out (by omega)
                (first | cases eo20 | (injection eo20 with ea_ en_ ec_;(first | subst ea_ | (injection ea_ with ea_;subst ea_));subst ec_;clear en_))
                have GB20:=Aside0.mk gb20
                have GG20:=Aside0.mk HG20
                clear gb20 gl20 HG20
                obtain ⟨hx20_0,hf20_0⟩:=Kd.R_celln false HL290_0.out (x36_3:Int) p20 q20
                replace p20:=eq_true p20
                replace q20:=eq_true q20
                have hq23:(x31_2:Int) < (x6_3.length:Int):=(by have h_:(x31_2:Int) < ((x6_3.length:Int):Int):=zz29 (by first | (with_reducible assumption) | assumption);first | exact h_ | (have e_:=(Kd.S_reads' HO_6.out).1;omega) | simpa only [List.length_set,List.length_set] using h_)
                obtain ⟨oki23,ce23,hcl23,hM23,hcc23,hok23,hbk23⟩:=Kd.S_borrow HO_6.out [] (x31_2:Int) (zz29 (by first | (with_reducible assumption) | assumption)) (by first | exact hq23 | (have e_:=(Kd.S_reads' HO_6.out).1;omega))
                obtain ⟨ve23_0,rfl,ge23_0⟩:=hM23
                have hv23:=hcc23 0 _ rfl
                rw [Nat.add_zero,show ((Kd.slice 4 Kd.bool)).sz=1 from rfl,Nat.mul_one] at hv23
                replace hv23:=Option.some.inj (hv23.symm.trans HX290_0.out)
                subst hv23
                clear hcc23 hcl23
                replace ge23_0:=(show Kd.R Kd.bool 4 _ _ _ _ (rd_L4 x6_3 x31_2) from ge23_0)
                have HP23:=Kd.R_putg ge23_0 (x36_3:Int) ((rd x3_1 x31_2) != (rd x3_1 x36_3))
                rw [← Ny293.out] at HP23
                have HS23:=hbk23 HP23.2 (fun k_ e_=>by injection e_ with e_;subst e_;exact ge23_0.1 _ rfl) (x':=y293) (Kd.M_row HP23.1)
                rw [← Ny295.out] at HS23
                have HQ23:=Aside0.mk HS23
                clear HP23 HS23 hbk23 hok23
                refine start_ (n:=16) (S:=fun w'=>w'.cell? (ad290.add (x31_2).toNat)=some (.slice (some ⟨go20,0,none⟩) (rd_L4 x6_3 x31_2).length c290_0)∧w'.cell? (ad291.add (x31_2).toNat)=some (.int .i64 (rd x3_1 x31_2))∧w'.cell? (ad291.add (x36_3).toNat)=some (.int .i64 (rd x3_1 x36_3))) (ds:=[15]) #[F,F,F,F,F,F,F,F,F,F,F,F,F,F,F,F] (by kernel_rfl) rfl rfl ⟨hx290_0,hx291_0,hx292_0⟩ (fun hHeld=>?_);refine with_tabW spec_grParts.tab16 spec_grParts.bits16 (fun HT_ HW_=>?_)
                generalize wr.drew=w21 at HO_3 HO_6 BK278 HB GG20 HL290_0 HQ23 HR290_0 HX290_0 hf20_0 hx20_0 hx290_0 hx291_0 hx292_0 hHeld ⊢
                refine pure_ (i:=0) (N:=some 39) (v:=?_) (a':=?_) #[T,F,F,F,F,F,F,F,F,F,F,F,F,F,F,F] rfl rfl (any_of HT_.out (by kernel_rfl)) (fun _ _ _ h=>h) (Or.inl ⟨by rfl,?_⟩) ?_ ?_
                rotate_left
                ·intro w'
                 go_simp
                 with_reducible rfl
                rotate_left
                ·simp only [Act.put,zz21,zz22,zz23,i64_w,i32_w]
                 rfl
                refine pure_ (i:=1) (N:=some 40) (v:=?_) (a':=?_) #[T,T,F,F,F,F,F,F,F,F,F,F,F,F,F,F] rfl rfl (any_of HT_.out (by kernel_rfl)) (fun _ _ _ h=>h) (Or.inl ⟨by rfl,?_⟩) ?_ ?_
                rotate_left
                ·intro w'
                 go_simp
                 with_reducible rfl
                rotate_left
                ·simp only [Act.put,zz21,zz22,zz23,i64_w,i32_w]
                 rfl
                refine pure_ (i:=2) (N:=some 41) (v:=?_) (a':=?_) #[T,T,T,F,F,F,F,F,F,F,F,F,F,F,F,F] rfl rfl (any_of HT_.out (by kernel_rfl)) (fun _ _ _ h=>h) (Or.inl ⟨by rfl,?_⟩) ?_ ?_
                rotate_left
                ·intro w'
                 go_simp
                 with_reducible rfl
                rotate_left
                ·simp only [Act.put,zz21,zz22,zz23,i64_w,i32_w]
                 rfl
                refine pure_ (i:=4) (N:=some 43) (v:=?_) (a':=?_) #[T,T,T,F,T,F,F,F,F,F,F,F,F,F,F,F] rfl rfl (any_of HT_.out (by kernel_rfl)) (fun _ _ _ h=>h) (Or.inl ⟨by rfl,?_⟩) ?_ ?_
                rotate_left
                ·intro w'
                 go_simp
                 with_reducible rfl
                rotate_left
                ·simp only [Act.put,zz21,zz22,zz23,i64_w,i32_w]
                 rfl
                refine pure_ (i:=5) (N:=some 44) (v:=?_) (a':=?_) #[T,T,T,F,T,T,F,F,F,F,F,F,F,F,F,F] rfl rfl (any_of HT_.out (by kernel_rfl)) (fun _ _ _ h=>h) (Or.inl ⟨by rfl,?_⟩) ?_ ?_
                rotate_left
                ·intro w'
                 go_simp
                 with_reducible rfl
                rotate_left
                ·simp only [Act.put,zz21,zz22,zz23,i64_w,i32_w]
                 rfl
                refine pure_ (i:=6) (N:=some 45) (v:=?_) (a':=?_) #[T,T,T,F,T,T,T,F,F,F,F,F,F,F,F,F] rfl rfl (any_of HT_.out (by kernel_rfl)) (fun _ _ _ h=>h) (Or.inl ⟨by rfl,?_⟩) ?_ ?_
                rotate_left
                ·intro w'
                 go_simp
                 with_reducible rfl
                rotate_left
                ·simp only [Act.put,zz21,zz22,zz23,i64_w,i32_w]
                 rfl
                refine pure_ (i:=7) (N:=some 46) (v:=?_) (a':=?_) #[T,T,T,F,T,T,T,T,F,F,F,F,F,F,F,F] rfl rfl (any_of HT_.out (by kernel_rfl)) (fun _ _ _ h=>h) (Or.inl ⟨by rfl,?_⟩) ?_ ?_
                rotate_left
                ·intro w'
                 go_simp
                 with_reducible rfl
                rotate_left
                ·simp only [Act.put,zz21,zz22,zz23,i64_w,i32_w]
                 rfl
                refine pure_ (i:=9) (N:=some 48) (v:=?_) (a':=?_) #[T,T,T,F,T,T,T,T,F,T,F,F,F,F,F,F] rfl rfl (any_of HT_.out (by kernel_rfl)) (fun _ _ _ h=>h) (Or.inl ⟨by rfl,?_⟩) ?_ ?_
                rotate_left
                ·intro w'
                 go_simp
                 with_reducible rfl
                rotate_left
                ·simp only [Act.put,zz21,zz22,zz23,i64_w,i32_w]
                 rfl
                refine pure_ (i:=10) (N:=some 49) (v:=?_) (a':=?_) #[T,T,T,F,T,T,T,T,F,T,T,F,F,F,F,F] rfl rfl (any_of HT_.out (by kernel_rfl)) (fun _ _ _ h=>h) (Or.inl ⟨by rfl,?_⟩) ?_ ?_
                rotate_left
                ·intro w'
                 go_simp
                 with_reducible rfl
                rotate_left
                ·simp only [Act.put,zz21,zz22,zz23,i64_w,i32_w]
                 rfl
                refine pure_ (i:=11) (N:=some 50) (v:=?_) (a':=?_) #[T,T,T,F,T,T,T,T,F,T,T,T,F,F,F,F] rfl rfl (any_of HT_.out (by kernel_rfl)) (fun _ _ _ h=>h) (Or.inl ⟨by rfl,?_⟩) ?_ ?_
                rotate_left
                ·intro w'
                 go_simp
                 with_reducible rfl
                rotate_left
                ·simp only [Act.put,zz21,zz22,zz23,i64_w,i32_w]
                 rfl
                refine take_ (i:=3) (N:=some 42) (v:=?_) (a':=?_) #[T,T,T,T,T,T,T,T,F,T,T,T,F,F,F,F] rfl rfl (take_ofW HT_.out HW_.out (by kernel_rfl)) (fun _ _ _ h=>h) (Or.inl ⟨by rfl,?_⟩) hHeld ?_ ?_
                rotate_left
                ·rintro w' ⟨s0,s1,s2⟩
                 go_simp
                 with_reducible rfl
                rotate_left
                ·simp only [Act.put,zz21,zz22,zz23,i64_w,i32_w]
                 rfl
                refine take_ (i:=8) (N:=some 47) (v:=?_) (a':=?_) #[T,T,T,T,T,T,T,T,T,T,T,T,F,F,F,F] rfl rfl (take_ofW HT_.out HW_.out (by kernel_rfl)) (fun _ _ _ h=>h) (Or.inl ⟨by rfl,?_⟩) hHeld ?_ ?_
                rotate_left
                ·rintro w' ⟨s0,s1,s2⟩
                 go_simp
                 with_reducible rfl
                rotate_left
                ·simp only [Act.put,zz21,zz22,zz23,i64_w,i32_w]
                 rfl
                refine take_ (i:=12) (N:=some 51) (v:=?_) (a':=?_) #[T,T,T,T,T,T,T,T,T,T,T,T,T,F,F,F] rfl rfl (take_ofW HT_.out HW_.out (by kernel_rfl)) (fun _ _ _ h=>h) (Or.inl ⟨by rfl,?_⟩) hHeld ?_ ?_
                rotate_left
                ·rintro w' ⟨s0,s1,s2⟩
                 go_simp
                 with_reducible rfl
                rotate_left
                ·simp only [Act.put,zz21,zz22,zz23,i64_w,i32_w]
                 rfl
                refine pure_ (i:=13) (N:=some 52) (v:=?_) (a':=?_) #[T,T,T,T,T,T,T,T,T,T,T,T,T,T,F,F] rfl rfl (any_of HT_.out (by kernel_rfl)) (fun _ _ _ h=>h) (Or.inl ⟨by rfl,?_⟩) ?_ ?_
                rotate_left
                ·intro w'
                 go_simp
                 with_reducible rfl
                rotate_left
                ·simp only [Act.put,zz21,zz22,zz23,i64_w,i32_w]
                 rfl
                refine pure_ (i:=14) (N:=some 53) (v:=?_) (a':=?_) #[T,T,T,T,T,T,T,T,T,T,T,T,T,T,T,F] rfl rfl (any_of HT_.out (by kernel_rfl)) (fun _ _ _ h=>h) (Or.inl ⟨by rfl,?_⟩) ?_ ?_
                rotate_left
                ·intro w'
                 go_simp
                 with_reducible rfl
                rotate_left
                ·simp only [Act.put,zz21,zz22,zz23,i64_w,i32_w]
                 rfl
                refine last_ (i:=15) (N:=none) #[T,T,T,T,T,T,T,T,T,T,T,T,T,T,T,T] rfl rfl (one_of HT_.out (by kernel_rfl)) (by decide) (fun K hK=>?_)
                refine skip_ (w1:=?_) (by rfl) rfl ?_ ?_
                rotate_left
                ·go_simp
                 rfl
                refine hK.out _ _ ?_
                clear hK K
                refine done_ (done_of HT_.out (by kernel_rfl)) ?_
                try go_wp2
                go_roundg k3
                case measure=>have:=HK1.out;have:=HK2.out;have:=HK3.out;omega
                case rel=>exact ⟨(y295),(wrap64 (x36_3+1)),(by first | rfl | (simp;done) | (simp [*];done)),H',⟨by have:=HK1.out;have:=HK2.out;have:=HK3.out;omega⟩,⟨by (with_reducible repeat (first | apply zz12 | apply zz13 | apply zz14));exact Kd.R_mono (Kd.R_far (p:=⟨go20,(x36_3:Int).toNat,none⟩) (Kd.R_types HO_3.out GG20.out (by decide)) (fun _ hk=>hk.2) (.bool ((rd x3_1 x31_2) != (rd x3_1 x36_3)))) (fun _ hk=>trivial)⟩,⟨by (with_reducible repeat (first | apply zz15 | apply zz16 | apply zz17));exact HQ23.out⟩,⟨by (with_reducible repeat (first | refine zz6 ?_ _ | refine zz7 ?_ | refine zz8 ?_ _));refine blk_far ?_ (by have h_:=Kd.R_ne HL290_0.out BK278.out (by decide);intro e_;exact h_ (by rw [e_];rfl)) _;(with_reducible repeat (first | refine zz6 ?_ _ | refine zz7 ?_ | refine zz8 ?_ _));exact BK278.out⟩,⟨by repeat first | exact HB.out | apply zz2 | apply zz0 | apply zz1 | refine zz3 ?_ GB20.out | refine zz3 ?_ GE278.out⟩⟩
               ·rw [if_neg c19] at H
                exact absurd H (by simp)
              ·rw [if_neg c18] at H
               exact absurd H (by simp)
             ·rw [if_neg c17] at H
              exact absurd H (by simp)
            ·rw [if_neg c16] at H
             exact absurd H (by simp)
           ·rw [if_neg c15] at H
            exact absurd H (by simp)
          ·rw [if_neg c14] at H
           exact absurd H (by simp)
         ·rw [if_neg c13] at H
          have c13b0:decide (x36_3 < (x3_1.length:Int))=false:=decide_eq_false c13
          clear c13
          have H':=Aside0.mk H
          clear H
          go_wp2
          go_roundg k3
          case measure=>have:=HK1.out;have:=HK2.out;have:=HK3.out;omega
          case rel=>exact ⟨(x6_3),(wrap64 (x31_2+1)),(by first | rfl | (simp;done) | (simp [*];done)),H',⟨by have:=HK1.out;have:=HK2.out;have:=HK3.out;omega⟩,⟨by (with_reducible repeat (first | apply zz12 | apply zz13 | apply zz14));exact HO_3.out⟩,⟨by (with_reducible repeat (first | apply zz15 | apply zz16 | apply zz17));exact HO_6.out⟩,⟨by (with_reducible repeat (first | refine zz6 ?_ _ | refine zz7 ?_ | refine zz8 ?_ _));exact BK278.out⟩,⟨by repeat first | exact HB.out | apply zz2 | apply zz0 | apply zz1 | refine zz3 ?_ GE278.out⟩⟩
      ·rw [if_neg c12] at H
       have c12b0:decide (x31_2 < (x3_1.length:Int))=false:=decide_eq_false c12
       clear c12
       replace H:=zz30.mp H
       obtain ⟨⟨t286,t287⟩,A250,H⟩:=H
       replace H:(some (t286,t287))=some (r1,r2):=H
       have A25:=Aside0.mk A250
       clear A250
       simp only [Option.some.injEq,Prod.mk.injEq] at H
       obtain ⟨rfl,rfl⟩:=H
       obtain ⟨Ao26,co26,eo26⟩:=Kd.S_slice HO_6.out
       subst eo26
       go_wp2_with (first | ((with_reducible refine gate_callee (f:=88) rfl ?_);refine goesL_ (some 57) rfl rfl Try.func88 (by kernel_rfl) rfl #[.slice Ao26 x6_2.length co26] rfl (by (try simp only [zz26,zz27,zz28]);first | done | rfl | (simp only [zz24,zz25];rfl) | (simp only [zz25];congr;(try simp only [decide_eq_true_eq] at *);omega)) ?_;(with_reducible refine (spec_paOf.calls k2 _ _ x6_2 t286 t287 _ ?side1 ?side2 A25.out).mono ?_);(case side1=>repeat (first | exact (Kd.S_reads' HO_6.out).2.2 | (with_reducible refine zz18 ?_ _) | (with_reducible refine zz19 ?_ _) | (with_reducible refine zz20 ?_)));(case side2=>exact (Kd.S_reads' HO_6.out).2.1);rintro e w27 ⟨v288,rfl,ho0,hb⟩;refine ⟨_,rfl,?_⟩;have n0_:=Aside0.mk (Kd.R_below (by (with_reducible repeat (first | apply zz12 | apply zz13 | apply zz14));exact HO_3.out) hb);have n1_:=Aside0.mk (Kd.S_below (by (with_reducible repeat (first | apply zz15 | apply zz16 | apply zz17));exact HO_6.out) hb);have n2_:=Aside0.mk (Kd.R_lower ho0 (zz5 (by repeat first | exact HB.out | apply zz2 | apply zz0 | apply zz1 | refine zz3 ?_ GE278.out)));have n3_:=Aside0.mk (zz11 (g:=gb278) (o:=.cells #[.int .i64 0,.slice none 0 0] 29 (0,0)) (by (with_reducible repeat (first | refine zz6 ?_ _ | refine zz7 ?_ | refine zz8 ?_ _));exact BK278.out) hb);have n4_:=Aside0.mk (zz4 (by repeat first | exact HB.out | apply zz2 | apply zz0 | apply zz1 | refine zz3 ?_ GE278.out) hb);clear HO_3;clear HO_6;clear BK278;clear HB;have HO_3:=n0_;have HO_6:=n1_;have HO289:=n2_;have BK278:=n3_;have HB:=n4_;clear n0_ n1_ n2_ n3_ n4_;(try clear hb);(try clear hb2);(try clear hk);(try clear hi);(try clear ho0);have hcz28_0:w27.cell? ⟨gb278,0,none⟩=some (.int .i64 0):=(zz9 BK278.out 0).trans rfl;have hcz28_1:w27.cell? ⟨gb278,1,none⟩=some (.slice none 0 0):=(zz9 BK278.out 1).trans rfl;have hfz28_0:=zz10 BK278.out 0;have hfz28_1:=zz10 BK278.out 1;obtain ⟨Ao29,co29,eo29⟩:=Kd.R_slice HO289.out;subst eo29))
       refine bodyPost_ret (results_cell_row rfl _ _ gb278 29 #[.int .i64 t286,.slice Ao29 t287.length co29] (0,0) _ rfl (by (with_reducible repeat (first | refine zz6 ?_ _ | refine zz7 ?_ | refine zz8 ?_ _));refine blk_put (cs:=#[.int .i64 t286,.slice none 0 0]) ?_ 1 _ rfl;(with_reducible repeat (first | refine zz6 ?_ _ | refine zz7 ?_ | refine zz8 ?_ _));refine blk_put (cs:=#[.int .i64 0,.slice none 0 0]) ?_ 0 _ rfl;(with_reducible repeat (first | refine zz6 ?_ _ | refine zz7 ?_ | refine zz8 ?_ _));exact BK278.out) Try.underlying29 rfl (by kernel_rfl)) rfl ?_
       exact ⟨_,by first | rfl | (simp [errW_none,errW_some] <;> rfl) | (simp [*,errW_none,errW_some] <;> rfl),by (with_reducible repeat (first | apply zz12 | apply zz13 | apply zz14));exact Kd.R_mono (Kd.R_far (p:=⟨gb278,1,none⟩) (Kd.R_far (p:=⟨gb278,0,none⟩) (Kd.R_types HO289.out BK278.out (by decide)) (fun _ hk=>hk.2) (.int .i64 t286)) (fun _ hk=>hk.2) (.slice Ao29 t287.length co29)) (fun _ hk=>trivial),by repeat first | exact HB.out | apply zz2 | apply zz0 | apply zz1 | refine zz3 ?_ GE278.out⟩

-- NOT PRINTED: function 101 (bits_Mul32)

-- NOT PRINTED: function 102 (bits_Mul64)

-- NOT PRINTED: function 100 (bits_Mul)

/-! ### slices_Repeat_int_int: function 95 (a contract of our own) -/
theorem small13 (c:Nat) (h:c≤12):c=0 ∨ c=1 ∨ c=2 ∨ c=3 ∨ c=4 ∨ c=5 ∨ c=6 ∨ c=7 ∨ c=8 ∨ c=9 ∨ c=10 ∨ c=11 ∨ c=12:=by omega
set_option maxHeartbeats 4000000 in
set_option maxRecDepth 100000 in
theorem mul64_small (c:Nat) (hc:c≤12) (w:World):Calls Try.prog 102 #[.int .u64 1,.int .u64 (c:Int)] w fun e w'=>e=.returned (.tuple #[.int .u64 0,.int .u64 (c:Int)])∧w'=w:=by
 rcases small13 c hc with rfl | rfl | rfl | rfl | rfl | rfl | rfl | rfl | rfl | rfl | rfl | rfl | rfl
 all_goals
  go_enter Try.func102,Try.ntmps102
  go_wp2
  repeat (go_quiet (fail);try go_wp2)
  go_ret2
  exact ⟨rfl,rfl⟩
set_option maxHeartbeats 4000000 in
set_option maxRecDepth 100000 in
theorem mul_small (c:Nat) (hc:c≤12) (w:World):Calls Try.prog 100 #[.int .u64 1,.int .u64 (c:Int)] w fun e w'=>e=.returned (.tuple #[.int .u64 0,.int .u64 (c:Int)])∧w'=w:=by
 have HM:=Aside0.mk (mul64_small c hc)
 have w64:IntKind.u64.wrap (c:Int)=(c:Int):=by rcases small13 c hc with rfl | rfl | rfl | rfl | rfl | rfl | rfl | rfl | rfl | rfl | rfl | rfl | rfl <;> rfl
 go_enter Try.func100,Try.ntmps100
 go_wp2_with (go_at_call 102;refine (HM.out _).mono ?_;rintro e w' ⟨rfl,rfl⟩)
 repeat (go_quiet (fail);try go_wp2)
 go_ret2
 exact ⟨rfl,rfl⟩
theorem take_splice_rep {α:Type} (cur:List α) (V Z:α) (n c m:Nat) (hm:n+m≤c) (hc:c≤cur.length) (h:cur.take c=List.replicate n V ++ List.replicate (c - n) Z) :
  (splice cur n (List.replicate m V)).take c=List.replicate (n+m) V ++ List.replicate (c - (n+m)) Z:=by
 have h1:cur.take n=List.replicate n V:=by
  have:(cur.take c).take n=cur.take n:=by rw [List.take_take];congr 1;omega
  rw [← this,h,List.take_append_of_le_length (by simp),List.take_of_length_le (by simp)]
 have h2:(cur.drop (n+m)).take (c - (n+m))=List.replicate (c - (n+m)) Z:=by
  have:(cur.take c).drop (n+m)=(cur.drop (n+m)).take (c - (n+m)):=by rw [List.drop_take]
  rw [← this,h,List.drop_append,List.drop_of_length_le (by simp),List.nil_append,List.drop_replicate]
  congr 1
  simp
  omega
 unfold splice
 rw [h1,List.length_replicate,← List.append_assoc,List.replicate_append_replicate,List.take_append,List.take_of_length_le (by simp;omega),List.length_replicate,h2]
theorem rep_some_ {α:Type} {m j:Nat} {x u:α} (h:(List.replicate m x)[j]?=some u):j < m∧x=u:=by
 rw [List.getElem?_replicate] at h
 split at h
 ·exact ⟨by assumption,Option.some.inj h⟩
 ·cases h
theorem R_shape_ {W:World} {base:Nat} {ok:Nat→Prop} {v:Value} {xs:List Int} {c:Nat} (h:(Kd.int .i64).R 3 W base ok v xs) (hc:xs.length=c):∃ A k,v=.slice A c k:=by
 obtain ⟨A,k,e⟩:=own_slice (Kd.own_of_R h)
 exact ⟨A,k,hc ▸ e⟩
theorem R_raw_ {W:World} {base:Nat} {ok:Nat→Prop} {A:Option Addr} {c k:Nat} {xs:List Int} (h:(Kd.int .i64).R 3 W base ok (.slice A c k) xs) (hp:0 < c) (hx:xs.length=c) :
  ∃ (g:Nat) (cur:List Value),A=some ⟨g,0,none⟩∧base≤g∧W.heap[g]?=some (.cells cur.toArray 3 (0,0))∧c≤k∧k≤maxLen∧cur.length=k∧cur.take c=xs.map (Value.int .i64):=by
 have ho:=Kd.own_of_R h
 rcases ho.2 with ⟨_,h0⟩ | ⟨g,cap,cur,hv,hb,hh,hn,hm,hs,ht⟩
 ·omega
 ·injection hv with e1 e2 e3
  subst e1 e3
  refine ⟨g,cur.toList,rfl,hb,by simpa using hh,by omega,hm,by simp;omega,?_⟩
  rw [← hx,← Nat.mul_one xs.length,ht]
  rfl
theorem R_back_ {W:World} {base:Nat} {c k g:Nat} {xs:List Int} {cur:List Value} (hb:base≤g) (hh:W.heap[g]?=some (.cells cur.toArray 3 (0,0))) (hn:c≤k) (hm:k≤maxLen) (hs:cur.length=k) (ht:cur.take c=xs.map (Value.int .i64)) (hx:xs.length=c) :
  (Kd.int .i64).R 3 W base (fun _=>True) (.slice (some ⟨g,0,none⟩) c k) xs:=by
 refine Kd.R_of_own (enc:=Value.int .i64) (h1:=fun _=>rfl) ?_ (fun _ _=>trivial)
 rw [hx]
 exact ⟨by simp [encs,hx],.inr ⟨g,k,cur.toArray,rfl,hb,hh,hn,hm,by simp [hs],by simp;rw [ht];rfl⟩⟩
def slices_Repeat_int_int.f (l0:List Int) (a1:Int):Option (List Int):=if l0.length=1∧0≤a1∧a1≤12 then some (List.replicate a1.toNat (rd l0 0)) else none
set_option maxHeartbeats 1500000 in
set_option maxRecDepth 100000 in
theorem slices_Repeat_int_int.calls (A0:Option Addr) (c0:Nat) (l0:List Int) (a1:Int) (r:List Int) (w:World) (hr0:Kd.C (Kd.int .i64) w A0 l0.length l0) (hc0:l0.length≤c0) (h:slices_Repeat_int_int.f l0 a1=some r) :
  Calls Try.prog 95 #[.slice A0 l0.length c0,.int .i64 a1] w fun e w'=>∃ v0_:Value,e=.returned (v0_)∧Kd.R (Kd.int .i64) 3 w' w.heap.size (fun _=>True) v0_ r∧Below w.heap.size w w':=by
 unfold slices_Repeat_int_int.f at h
 by_cases hh:l0.length=1∧0≤a1∧a1≤12
 case neg=>rw [if_neg hh] at h;exact absurd h (by simp)
 rw [if_pos hh] at h
 obtain rfl:=Option.some.inj h
 obtain ⟨h1,h2,h3⟩:=hh
 obtain ⟨c,rfl⟩:=Int.eq_ofNat_of_zero_le h2
 have hc:c≤12:=by omega
 clear h h2 h3
 obtain ⟨ad,e0,hx⟩:=Kd.at_int hr0 0 (by decide) (by omega)
 cases e0
 obtain ⟨v,hv⟩:∃ v,v=rd l0 0:=⟨_,rfl⟩
 rw [← hv] at hx ⊢
 have HV:=Aside0.mk hv
 have HR:=Aside0.mk hr0
 have HL:=Aside0.mk h1
 have HR1:Aside0 (Kd.C (Kd.int .i64) w (some ad) 1 l0):=⟨by have h_:=hr0;rw [h1] at h_;exact h_⟩
 have HX:=Aside0.mk hx
 have HC:=Aside0.mk hc
 have HM:=Aside0.mk (mul_small c hc)
 have w1_:IntKind.u64.wrap (c:Int)=(c:Int):=by rcases small13 c hc with rfl | rfl | rfl | rfl | rfl | rfl | rfl | rfl | rfl | rfl | rfl | rfl | rfl <;> rfl
 have w2_:IntKind.i64.wrap (c:Int)=(c:Int):=by rcases small13 c hc with rfl | rfl | rfl | rfl | rfl | rfl | rfl | rfl | rfl | rfl | rfl | rfl | rfl <;> rfl
 have w3_:IntKind.u64.wrap (1:Int)=1:=rfl
 have n1_:decide ((c:Int) < 0)=false:=decide_eq_false (by omega)
 have n2_:decide ((9223372036854775807:Int) < (c:Int))=false:=decide_eq_false (by omega)
 rw [h1]
 clear hr0 hc0 hv hx h1 hc
 go_enter Try.func95,Try.ntmps95
 go_wp2_with (first | (go_at_call 100;refine (HM.out _).mono ?_;rintro e w' ⟨rfl,hw_⟩;obtain rfl:=hw_.symm) | ((with_reducible refine gate_dst (N:=30) rfl ?_);refine Kd.R_make (Kd.int .i64) (w0:=w) w.heap.size 3 rfl (N:=30) rfl 45 _ _ rfl (c:Int) rfl rfl Try.underlying45 (.int .i64 0) 8 info3 rfl (by decide) (by omega) 0 (ok:=fun _=>True) (okp:=fun _=>True) rfl (fun _ hk=>hk) trivial (by omega) (by have:=HC.out;simp only [Int.toNat_natCast];omega) (Below.refl _ _) (Nat.le_refl _) ?_;intro vn wn hr hb hg_ hnew_;clear hg_ hnew_;simp only [Int.toNat_natCast] at hr;obtain ⟨An,kn,rfl⟩:=R_shape_ (c:=c) hr (by simp);have HO:=Aside0.mk hr;have HB:=Aside0.mk hb;clear hr hb) | ((with_reducible refine gate_dst (N:=33) rfl ?_);refine Kd.R_copy (enc:=Value.int .i64) (h1:=fun _=>rfl) (0:Int) (w0:=w) w.heap.size rfl (.tmp 31) (.tmp 32) 45 45 3 rfl Try.underlying45 (by kernel_rfl) (.slice An c kn) (List.replicate c (0:Int)) l0 (some ad) 1 c0 (fun _=>True) rfl rfl HO.out (Kd.C_below HR1.out (by repeat first | exact HB.out | apply zz0)) HB.out HB.out.size ?_;intro w3 hr3 hb3 hg3;clear hg3 HO HB;have HO:=Aside0.mk hr3;have HB:=Aside0.mk hb3;clear hr3 hb3))
 have hl0:l0=[v]:=by
  have e1:=HV.out
  have e2:=HL.out
  match l0,e2 with
  | [y],_=>rw [e1];rfl
 subst hl0
 have HS:Aside0 ((Kd.int .i64).R 3 w3 w.heap.size (fun _=>True) (.slice An c kn) (List.replicate (min 1 c) v ++ List.replicate (c - min 1 c) 0)):=⟨by
  have h_:=HO.out
  simp only [List.length_replicate,List.drop_replicate] at h_
  have e_:[v].take (min 1 c)=List.replicate (min 1 c) v:=by rcases Nat.lt_or_ge c 1 with hz | hz <;> simp [Nat.min_def] <;> split <;> simp_all
  rw [e_] at h_
  exact h_⟩
 clear HO
 go_loopg [8] c (fun gg s8 wr=>∃ n:Nat,n≤c∧c - n≤gg∧(0 < c→1≤n)∧s8=.int .i64 n∧Aside0 ((Kd.int .i64).R 3 wr w.heap.size (fun _=>True) (.slice An c kn) (List.replicate n v ++ List.replicate (c - n) 0))∧Aside0 (Below w.heap.size w wr))
 case atStart=>exact ⟨min 1 c,by omega,by omega,by omega,by simp,HS,⟨by repeat first | exact HB.out | apply zz0⟩⟩
 case round =>
  clear HS HB
  obtain ⟨n,hn,hg,hpos,rfl,HO,HB⟩:=hrel
  by_cases hlt:n < c
  ·have hltz:decide ((n:Int) < (c:Int))=true:=decide_eq_true (by omega)
   obtain ⟨g,cur,rfl,hbg,hh,hck,hkm,hcl,htk⟩:=R_raw_ HO.out (by omega) (by simp;omega)
   have d1:(0:Int)≤(n:Int):=by omega
   have d2:(n:Int)≤(c:Int):=by omega
   have d3:(c:Int)≤(kn:Int):=by omega
   have d4:(n:Int)≤(kn:Int):=by omega
   have hs:∀ j u,(List.replicate (min n (c - n)) (Value.int .i64 v))[j]?=some u→wr.cell? ⟨g,j,none⟩=some u:=by
    intro j u hu
    obtain ⟨hj,rfl⟩:=rep_some_ hu
    rw [cell_of_row wr g j cur.toArray 3 (0,0) hh]
    have hz:(cur.take c)[j]?=some (Value.int .i64 v):=by
     rw [htk,List.map_append,List.map_replicate,List.getElem?_append_left (by simp;omega)]
     simp [List.getElem?_replicate];omega
    rw [List.getElem?_take] at hz
    split at hz
    ·simpa using hz
    ·cases hz
   have HH:=Aside0.mk hh
   have HCK:=Aside0.mk hck
   go_wp2
   have hinf:(Try.prog.info? 3).map (·.size)=some 1:=by kernel_rfl
   have hkn:(kn=n)=False:=eq_false (by omega)
   have HINF:=Aside0.mk hinf
   have HS2:=Aside0.mk hs
   have HN:=Aside0.mk hcl
   have z1:Aside0 ((List.replicate (min n (c - n)) (Value.int .i64 v)).length=Nat.min n (c - n)):=⟨by simp⟩
   have z2:Aside0 (n+(List.replicate (min n (c - n)) (Value.int .i64 v)).length≤cur.length):=⟨by simp;omega⟩
   have z3:Aside0 (∀ u ∈ List.replicate (min n (c - n)) (Value.int .i64 v),u.oneCell'=true):=⟨fun u hu=>by obtain ⟨_,rfl⟩:=List.mem_replicate.mp hu;rfl⟩
   have z4:Aside0 (∀ j u,(List.replicate (min n (c - n)) (Value.int .i64 v))[j]?=some u→wr.cell? ((⟨g,0,none⟩:Addr).add j)=some u):=⟨fun j u hu=>by
    have h_:=hs j u hu
    rcases Nat.eq_zero_or_pos j with rfl | hj
    ·simpa [Addr.add] using h_
    ·have hj0:j ≠ 0:=by omega
     simpa [Addr.add,hj0] using h_⟩
   have z5:Aside0 (Below w.heap.size w wr.drew):=⟨below_drew HB.out⟩
   clear hinf hs hcl
   go_region_law (refine step_copy_splice rfl (.tmp 41) (.tmp 44) 45 45 rfl 3 Try.underlying45 HINF.out (some ⟨g,n,none⟩) (some ⟨g,0,none⟩) (c - n) (kn - n) n kn (by simp [Act.eval,Act.put,hkn]) (by simp [Act.eval,Act.put]) g n cur 3 HH.out (List.replicate (min n (c - n)) (Value.int .i64 v)) z1.out (fun _=>⟨rfl,_,rfl,z4.out⟩) z2.out z3.out w.heap.size w z5.out hbg ?_;intro w4 hg4 hb4)
   have hg5:w4.heap[g]?=some (.cells (splice cur n (List.replicate (min n (c - n)) (Value.int .i64 v))).toArray 3 (0,0)):=hg4
   have htk2:cur.take c=List.replicate n (Value.int .i64 v) ++ List.replicate (c - n) (Value.int .i64 0):=by rw [htk,List.map_append,List.map_replicate,List.map_replicate]
   have HO2:=Aside0.mk (R_back_ (xs:=List.replicate (n+min n (c - n)) v ++ List.replicate (c - (n+min n (c - n))) 0) hbg hg5 hck hkm (by rw [length_splice _ _ _ z2.out];exact HN.out) (by rw [take_splice_rep cur _ (Value.int .i64 0) n c (min n (c - n)) (by omega) (by rw [HN.out];exact hck) htk2,List.map_append,List.map_replicate,List.map_replicate]) (by simp;omega))
   have HB4:=Aside0.mk hb4
   have hw:IntKind.i64.wrap ((n:Int)+((min n (c - n):Nat):Int))=((n+min n (c - n):Nat):Int):=by
    have h12:=HC.out
    rw [IntKind.wrap_i64]
    omega
   clear hg4 hg5 htk htk2 hb4 hh
   go_wp2
   go_roundg (c - (n+min n (c - n)))
   case measure=>omega
   case rel=>exact ⟨n+min n (c - n),by omega,by omega,by omega,by first | rfl | (simp [hw];done) | (simp;omega),HO2,⟨by repeat first | exact HB4.out | apply zz0⟩⟩
  ·have hltz:decide ((n:Int) < (c:Int))=false:=decide_eq_false (by omega)
   obtain rfl:n=c:=by omega
   go_wp2
   go_ret
   exact ⟨_,rfl,by simpa using HO.out,by repeat first | exact HB.out | apply zz0⟩

/-! ### impl_table_put: function 96 -/
def impl_table_put.f (l0:List Int) (a1:Int) (a2:Int):Option (List Int):=if 0≤a1 then (if a1 < (l0.length:Int) then (if 0≤a2 then ((some (l0.set (a1:Int).toNat (Go.bits .or .u16 (rd l0 a1) (shl .u16 1 a2)):List Int)).bind fun y312=>(if a2 < (l0.length:Int) then (some (y312.set (a2:Int).toNat (Go.bits .or .u16 (rd y312 a2) (shl .u16 1 a1)))) else (none))) else (none)) else (none)) else (none)
def impl_table_put.T0:Bool × List (List Nat × List Nat):=(true,[([],[]),([],[]),([0,1],[0,1]),([2],[2]),([],[]),([4],[4]),([3,5],[3,5]),([0,1,0,1,2,3,4,5,6],[0,1]),([7,6,0,1,2,3,4,5,6],[6,7])])
def impl_table_put.B0:List Nat:=[0,0,3,7,0,16,63,127,255]
theorem impl_table_put.tab0:rtab .any (opsOf Try.f96 0)=impl_table_put.T0:=by kernel_rfl
theorem impl_table_put.bits0:waitsOk impl_table_put.T0.2 impl_table_put.B0=true:=by kernel_rfl
def impl_table_put.T1:Bool × List (List Nat × List Nat):=(true,[([],[]),([],[]),([0,1],[0,1]),([2],[2]),([],[]),([4],[4]),([3,5],[3,5]),([0,1,0,1,2,3,4,5,6],[0,1]),([7,6,0,1,2,3,4,5,6],[6,7])])
def impl_table_put.B1:List Nat:=[0,0,3,7,0,16,63,127,255]
theorem impl_table_put.tab1:rtab .any (opsOf Try.f96 1)=impl_table_put.T1:=by kernel_rfl
theorem impl_table_put.bits1:waitsOk impl_table_put.T1.2 impl_table_put.B1=true:=by kernel_rfl
set_option maxHeartbeats 8000000 in
set_option maxRecDepth 100000 in
theorem impl_table_put.calls (P0_:Nat→Prop) (u9000_:Value) (l0:List Int) (a1:Int) (a2:Int) (r:List Int) (w0 w:World) (hB:Below w0.heap.size w0 w) (ho0:Kd.R (Kd.int .u16) 91 w w0.heap.size P0_ u9000_ l0) (h:impl_table_put.f l0 a1 a2=some r) :
  Calls Try.prog 96 #[u9000_,.int .i64 a1,.int .i64 a2] w fun e w'=>e=.returned (.tuple #[])∧Kd.R (Kd.int .u16) 91 w' w0.heap.size (fun k_=>(P0_ k_ ∨ w.heap.size≤k_)) u9000_ r∧Below w0.heap.size w0 w'∧Kept w w' (fun k_=>P0_ k_):=by
 have HO0:=Aside0.mk (show Kd.R (Kd.int .u16) 91 w w0.heap.size (fun k_=>(P0_ k_ ∨ w.heap.size≤k_)) u9000_ l0 from Kd.R_mono ho0 (fun k_ hk=>(.inl hk)))
 have HK:=Aside0.mk (Kept.refl w (fun k_=>P0_ k_))
 have HW0:=Aside0.mk hB.size
 have HB:=Aside0.mk hB
 clear hB
 have H:(if 0≤a1 then (if a1 < (l0.length:Int) then (if 0≤a2 then ((some (l0.set (a1:Int).toNat (Go.bits .or .u16 (rd l0 a1) (shl .u16 1 a2)):List Int)).bind fun y312=>(if a2 < (l0.length:Int) then (some (y312.set (a2:Int).toNat (Go.bits .or .u16 (rd y312 a2) (shl .u16 1 a1)))) else (none))) else (none)) else (none)) else (none))=some r:=h
 clear h
 by_cases c4:0≤a1
 ·rw [if_pos c4] at H
  have c4b0:decide (0≤a1)=true:=decide_eq_true c4
  clear c4
  by_cases c5:a1 < (l0.length:Int)
  ·rw [if_pos c5] at H
   have c5b0:decide (a1 < (l0.length:Int))=true:=decide_eq_true c5
   clear c5
   by_cases c6:0≤a2
   ·rw [if_pos c6] at H
    have c6b0:=eq_true c6
    have c6b1:decide (0≤a2)=true:=decide_eq_true c6
    clear c6
    obtain ⟨ji7,hji7⟩:∃ j_:Int,(shl .u16 1 a2)=j_:=⟨_,rfl⟩
    replace H:((some (l0.set (a1:Int).toNat (Go.bits .or .u16 (rd l0 a1) (ji7)):List Int)).bind fun y312=>(if a2 < (l0.length:Int) then (some (y312.set (a2:Int).toNat (Go.bits .or .u16 (rd y312 a2) (shl .u16 1 a1)))) else (none)))=some r:=by first | (rw [hji7] at H;exact H) | (simp only [hji7] at H ⊢;exact H)
    have hji7_:(IntKind.u16.wrap (1 * 2 ^ min a2.toNat 16))=ji7:=hji7
    have hji7z:a2≤16→(IntKind.u16.wrap (1 * 2 ^ a2.toNat))=ji7:=shl_small hji7
    have hji7u:(IntKind.u16.wrap (2 ^ min a2.toNat 16))=ji7:=by have h_:=hji7_;rw [Int.one_mul] at h_;exact h_
    have hji7v:a2≤16→(IntKind.u16.wrap (2 ^ a2.toNat))=ji7:=fun hle_=>by have h_:=hji7z hle_;rw [Int.one_mul] at h_;exact h_
    obtain ⟨y312,hy312⟩:∃ y_:List Int,y_=(l0.set (a1:Int).toNat (Go.bits .or .u16 (rd l0 a1) (ji7))):=⟨_,rfl⟩
    replace H:(if a2 < (l0.length:Int) then (some (y312.set (a2:Int).toNat (Go.bits .or .u16 (rd y312 a2) (shl .u16 1 a1)))) else (none))=some r:=by first | (rw [hy312];with_reducible exact H) | (have H2_:=(Option.bind_some _ _).symm.trans H;rw [hy312];with_reducible exact H2_) | (have H2_:=(Option.bind_some _ _).symm.trans H;with_reducible exact H2_) | with_reducible exact H | (rw [hy312];exact H) | exact H
    have Ny312:=Aside0.mk hy312
    clear hy312
    by_cases c9:a2 < (l0.length:Int)
    ·rw [if_pos c9] at H
     have c9b0:decide (a2 < (l0.length:Int))=true:=decide_eq_true c9
     clear c9
     have c10b0:=eq_true (zz29 (by first | (with_reducible assumption) | assumption):0≤a1)
     obtain ⟨ji11,hji11⟩:∃ j_:Int,(shl .u16 1 a1)=j_:=⟨_,rfl⟩
     replace H:(some (y312.set (a2:Int).toNat (Go.bits .or .u16 (rd y312 a2) (ji11))))=some r:=by first | (rw [hji11] at H;exact H) | (simp only [hji11] at H ⊢;exact H)
     have hji11_:(IntKind.u16.wrap (1 * 2 ^ min a1.toNat 16))=ji11:=hji11
     have hji11z:a1≤16→(IntKind.u16.wrap (1 * 2 ^ a1.toNat))=ji11:=shl_small hji11
     have hji11u:(IntKind.u16.wrap (2 ^ min a1.toNat 16))=ji11:=by have h_:=hji11_;rw [Int.one_mul] at h_;exact h_
     have hji11v:a1≤16→(IntKind.u16.wrap (2 ^ a1.toNat))=ji11:=fun hle_=>by have h_:=hji11z hle_;rw [Int.one_mul] at h_;exact h_
     obtain ⟨y314,hy314⟩:∃ y_:List Int,y_=(y312.set (a2:Int).toNat (Go.bits .or .u16 (rd y312 a2) (ji11))):=⟨_,rfl⟩
     replace H:(some y314)=some r:=by first | (rw [hy314];with_reducible exact H) | (have H2_:=(Option.bind_some _ _).symm.trans H;rw [hy314];with_reducible exact H2_) | (have H2_:=(Option.bind_some _ _).symm.trans H;with_reducible exact H2_) | with_reducible exact H | (rw [hy314];exact H) | exact H
     have Ny314:=Aside0.mk hy314
     clear hy314
     obtain rfl:=Option.some.inj H
     go_enter Try.func96,Try.ntmps96
     try go_wp2
     have n0_:=Aside0.mk (zz14 HO0.out)
     have n1_:=Aside0.mk (Kept.drew HK.out)
     have n2_:=Aside0.mk (zz1 HB.out)
     clear HO0
     clear HK
     clear HB
     have HO0:=n0_
     have HK:=n1_
     have HB:=n2_
     clear n0_ n1_ n2_
     obtain ⟨Ao14,co14,eo14⟩:=Kd.R_slice HO0.out
     (first | subst eo14 | (injection eo14 with f1_ f2_ f3_;have f4_:=f1_.symm;have f5_:=f3_.symm;clear f1_ f2_ f3_;subst f4_;subst f5_))
     have p311:0≤(a1:Int):=zz29 (by first | (with_reducible assumption) | assumption)
     have q311:a1 < (l0.length:Int):=zz29 (by first | (with_reducible assumption) | assumption)
     obtain ⟨ad311,e311,hx311_0⟩:=Kd.at_int (Kd.R_reads' HO0.out).2.2 a1 p311 q311
     cases e311
     replace p311:=eq_true p311
     replace q311:=eq_true q311
     have p8:0≤(a1:Int):=zz29 (by first | (with_reducible assumption) | assumption)
     have q8:(a1:Int) < ((l0.length:Int):Int):=zz29 (by first | (with_reducible assumption) | assumption)
     obtain ⟨go8,co8,eo8,gb8,gl8,cl8,HG8⟩:=Kd.R_form HO0.out (by omega)
     (first | cases eo8 | (injection eo8 with ea_ en_ ec_;(first | subst ea_ | (injection ea_ with ea_;subst ea_));subst ec_;clear en_))
     have GB8:=Aside0.mk gb8
     have GG8:=Aside0.mk HG8
     clear gb8 gl8 HG8
     have HMgo8:=Aside0.mk (show (P0_ go8 ∨ w.heap.size≤go8) from (HO0.out.1 _ rfl))
     (first | simp only [add_plain] at hx311_0 | skip)
     obtain ⟨hx8_0,hf8_0⟩:=Kd.R_celln 0 HO0.out (a1:Int) p8 q8
     replace p8:=eq_true p8
     replace q8:=eq_true q8
     have HP15:=Kd.R_putn HO0.out (a1:Int) (Go.bits .or .u16 (rd l0 a1) (ji7))
     rw [← Ny312.out] at HP15
     have HQ15:=Aside0.mk HP15
     clear HP15
     refine start_ (n:=9) (S:=fun w'=>w'.cell? ⟨go8,(a1).toNat,none⟩=some (.int .u16 (rd l0 a1))) (ds:=[8]) #[F,F,F,F,F,F,F,F,F] (by kernel_rfl) rfl rfl (hx311_0) (fun hHeld=>?_);refine with_tabW impl_table_put.tab0 impl_table_put.bits0 (fun HT_ HW_=>?_)
     generalize w.drew=w13 at HO0 HK HB GG8 HQ15 hf8_0 hx311_0 hx8_0 hHeld ⊢
     refine pure_ (i:=0) (N:=some 6) (v:=?_) (a':=?_) #[T,F,F,F,F,F,F,F,F] rfl rfl (any_of HT_.out (by kernel_rfl)) (fun _ _ _ h=>h) (Or.inl ⟨by rfl,?_⟩) ?_ ?_
     rotate_left
     ·intro w'
      go_simp
      with_reducible rfl
     rotate_left
     ·simp only [Act.put,zz21,zz22,zz23,i64_w,i32_w]
      rfl
     refine pure_ (i:=1) (N:=some 7) (v:=?_) (a':=?_) #[T,T,F,F,F,F,F,F,F] rfl rfl (any_of HT_.out (by kernel_rfl)) (fun _ _ _ h=>h) (Or.inl ⟨by rfl,?_⟩) ?_ ?_
     rotate_left
     ·intro w'
      go_simp
      with_reducible rfl
     rotate_left
     ·simp only [Act.put,zz21,zz22,zz23,i64_w,i32_w]
      rfl
     refine pure_ (i:=2) (N:=some 8) (v:=?_) (a':=?_) #[T,T,T,F,F,F,F,F,F] rfl rfl (any_of HT_.out (by kernel_rfl)) (fun _ _ _ h=>h) (Or.inl ⟨by rfl,?_⟩) ?_ ?_
     rotate_left
     ·intro w'
      go_simp
      with_reducible rfl
     rotate_left
     ·simp only [Act.put,zz21,zz22,zz23,i64_w,i32_w]
      rfl
     refine pure_ (i:=4) (N:=some 10) (v:=?_) (a':=?_) #[T,T,T,F,T,F,F,F,F] rfl rfl (any_of HT_.out (by kernel_rfl)) (fun _ _ _ h=>h) (Or.inl ⟨by rfl,?_⟩) ?_ ?_
     rotate_left
     ·intro w'
      go_simp
      with_reducible rfl
     rotate_left
     ·simp only [Act.put,zz21,zz22,zz23,i64_w,i32_w]
      rfl
     refine pure_ (i:=5) (N:=some 11) (v:=?_) (a':=?_) #[T,T,T,F,T,T,F,F,F] rfl rfl (any_of HT_.out (by kernel_rfl)) (fun _ _ _ h=>h) (Or.inl ⟨by rfl,?_⟩) ?_ ?_
     rotate_left
     ·intro w'
      go_simp
      with_reducible rfl
     rotate_left
     ·simp only [Act.put,zz21,zz22,zz23,i64_w,i32_w]
      rfl
     refine take_ (i:=3) (N:=some 9) (v:=?_) (a':=?_) #[T,T,T,T,T,T,F,F,F] rfl rfl (take_ofW HT_.out HW_.out (by kernel_rfl)) (fun _ _ _ h=>h) (Or.inl ⟨by rfl,?_⟩) hHeld ?_ ?_
     rotate_left
     ·intro w' s0
      go_simp
      with_reducible rfl
     rotate_left
     ·simp only [Act.put,zz21,zz22,zz23,i64_w,i32_w]
      rfl
     refine pure_ (i:=6) (N:=some 12) (v:=?_) (a':=?_) #[T,T,T,T,T,T,T,F,F] rfl rfl (any_of HT_.out (by kernel_rfl)) (fun _ _ _ h=>h) (Or.inl ⟨by rfl,?_⟩) ?_ ?_
     rotate_left
     ·intro w'
      go_simp
      with_reducible rfl
     rotate_left
     ·simp only [Act.put,zz21,zz22,zz23,i64_w,i32_w]
      rfl
     refine pure_ (i:=7) (N:=some 13) (v:=?_) (a':=?_) #[T,T,T,T,T,T,T,T,F] rfl rfl (any_of HT_.out (by kernel_rfl)) (fun _ _ _ h=>h) (Or.inl ⟨by rfl,?_⟩) ?_ ?_
     rotate_left
     ·intro w'
      go_simp
      with_reducible rfl
     rotate_left
     ·simp only [Act.put,zz21,zz22,zz23,i64_w,i32_w]
      rfl
     refine last_ (i:=8) (N:=none) #[T,T,T,T,T,T,T,T,T] rfl rfl (one_of HT_.out (by kernel_rfl)) (by decide) (fun K hK=>?_)
     refine skip_ (w1:=?_) (by rfl) rfl ?_ ?_
     rotate_left
     ·go_simp
      rfl
     refine hK.out _ _ ?_
     clear hK K
     refine done_ (done_of HT_.out (by kernel_rfl)) ?_
     try go_wp2
     have n0_:Aside0 (Kd.R (Kd.int .u16) 91 (w13.setCell ⟨go8,(a1:Int).toNat,none⟩ (.int .u16 (Go.bits .or .u16 (rd l0 a1) (ji7)))) w0.heap.size (fun k_=>(P0_ k_ ∨ w.heap.size≤k_)) (.slice (some ⟨go8,0,none⟩) l0.length co14) y312):=⟨by (with_reducible repeat (first | apply zz12 | apply zz13 | apply zz14));exact HQ15.out⟩
     have n1_:Aside0 (Kept w (w13.setCell ⟨go8,(a1:Int).toNat,none⟩ (.int .u16 (Go.bits .or .u16 (rd l0 a1) (ji7)))) (fun k_=>P0_ k_)):=⟨by repeat (first | (with_reducible first | exact HK.out | apply Kept.alloc | apply Kept.drewN | apply Kept.drew | refine Kept.setCell ?_ HMgo8.out _) | exact HK.out)⟩
     have n2_:Aside0 (Below w0.heap.size w0 (w13.setCell ⟨go8,(a1:Int).toNat,none⟩ (.int .u16 (Go.bits .or .u16 (rd l0 a1) (ji7))))):=⟨by repeat first | exact HB.out | apply zz2 | apply zz0 | apply zz1 | refine zz3 ?_ GB8.out⟩
     (try clear HO0)
     (try clear HK)
     (try clear HB)
     generalize (w13.setCell ⟨go8,(a1:Int).toNat,none⟩ (.int .u16 (Go.bits .or .u16 (rd l0 a1) (ji7))))=w16 at n0_ n1_ n2_ ⊢
     have HO0:=n0_
     have HK:=n1_
     have HB:=n2_
     clear n0_ n1_ n2_
     have n0_:=Aside0.mk (zz14 HO0.out)
     have n1_:=Aside0.mk (Kept.drew HK.out)
     have n2_:=Aside0.mk (zz1 HB.out)
     clear HO0
     clear HK
     clear HB
     have HO0:=n0_
     have HK:=n1_
     have HB:=n2_
     clear n0_ n1_ n2_
     have p313:0≤(a2:Int):=zz29 (by first | (with_reducible assumption) | assumption)
     have q313:a2 < (y312.length:Int):=(by have h_:(a2:Int) < ((l0.length:Int):Int):=zz29 (by first | (with_reducible assumption) | assumption);first | (have e_:=(Kd.R_reads' HO0.out).1;omega) | simpa only [Ny312.out,List.length_set] using h_)
     have ql313:((a2:Int) < ((l0.length:Int):Int))=True:=eq_true (zz29 (by first | (with_reducible assumption) | assumption))
     obtain ⟨ad313,e313,hx313_0⟩:=Kd.at_int (Kd.R_reads' HO0.out).2.2 a2 p313 q313
     obtain rfl:(⟨go8,0,none⟩:Addr)=ad313:=(by injection e313)
     (first | simp only [add_plain] at hx313_0 | simp only [add_at] at hx313_0 | simp only [Addr.add,Nat.zero_add] at hx313_0 | skip)
     replace p313:=eq_true p313
     replace q313:=eq_true q313
     have p12:0≤(a2:Int):=zz29 (by first | (with_reducible assumption) | assumption)
     have q12:(a2:Int) < ((l0.length:Int):Int):=zz29 (by first | (with_reducible assumption) | assumption)
     obtain ⟨hx12_0,hf12_0⟩:=Kd.R_celln 0 HO0.out (a2:Int) p12 q12
     replace p12:=eq_true p12
     replace q12:=eq_true q12
     have HP18:=Kd.R_putn HO0.out (a2:Int) (Go.bits .or .u16 (rd y312 a2) (ji11))
     rw [← Ny314.out] at HP18
     have HQ18:=Aside0.mk HP18
     clear HP18
     refine start_ (n:=9) (S:=fun w'=>w'.cell? ⟨go8,(a2).toNat,none⟩=some (.int .u16 (rd y312 a2))) (ds:=[8]) #[F,F,F,F,F,F,F,F,F] (by kernel_rfl) rfl rfl (hx313_0) (fun hHeld=>?_);refine with_tabW impl_table_put.tab1 impl_table_put.bits1 (fun HT_ HW_=>?_)
     generalize w16.drew=w17 at HO0 HK HB HQ15 HQ18 hf12_0 hx12_0 hx313_0 hHeld ⊢
     refine pure_ (i:=0) (N:=some 14) (v:=?_) (a':=?_) #[T,F,F,F,F,F,F,F,F] rfl rfl (any_of HT_.out (by kernel_rfl)) (fun _ _ _ h=>h) (Or.inl ⟨by rfl,?_⟩) ?_ ?_
     rotate_left
     ·intro w'
      go_simp
      with_reducible rfl
     rotate_left
     ·simp only [Act.put,zz21,zz22,zz23,i64_w,i32_w]
      rfl
     refine pure_ (i:=1) (N:=some 15) (v:=?_) (a':=?_) #[T,T,F,F,F,F,F,F,F] rfl rfl (any_of HT_.out (by kernel_rfl)) (fun _ _ _ h=>h) (Or.inl ⟨by rfl,?_⟩) ?_ ?_
     rotate_left
     ·intro w'
      go_simp
      with_reducible rfl
     rotate_left
     ·simp only [Act.put,zz21,zz22,zz23,i64_w,i32_w]
      rfl
     refine pure_ (i:=2) (N:=some 16) (v:=?_) (a':=?_) #[T,T,T,F,F,F,F,F,F] rfl rfl (any_of HT_.out (by kernel_rfl)) (fun _ _ _ h=>h) (Or.inl ⟨by rfl,?_⟩) ?_ ?_
     rotate_left
     ·intro w'
      go_simp
      with_reducible rfl
     rotate_left
     ·simp only [Act.put,zz21,zz22,zz23,i64_w,i32_w]
      rfl
     refine pure_ (i:=4) (N:=some 18) (v:=?_) (a':=?_) #[T,T,T,F,T,F,F,F,F] rfl rfl (any_of HT_.out (by kernel_rfl)) (fun _ _ _ h=>h) (Or.inl ⟨by rfl,?_⟩) ?_ ?_
     rotate_left
     ·intro w'
      go_simp
      with_reducible rfl
     rotate_left
     ·simp only [Act.put,zz21,zz22,zz23,i64_w,i32_w]
      rfl
     refine pure_ (i:=5) (N:=some 19) (v:=?_) (a':=?_) #[T,T,T,F,T,T,F,F,F] rfl rfl (any_of HT_.out (by kernel_rfl)) (fun _ _ _ h=>h) (Or.inl ⟨by rfl,?_⟩) ?_ ?_
     rotate_left
     ·intro w'
      go_simp
      with_reducible rfl
     rotate_left
     ·simp only [Act.put,zz21,zz22,zz23,i64_w,i32_w]
      rfl
     refine take_ (i:=3) (N:=some 17) (v:=?_) (a':=?_) #[T,T,T,T,T,T,F,F,F] rfl rfl (take_ofW HT_.out HW_.out (by kernel_rfl)) (fun _ _ _ h=>h) (Or.inl ⟨by rfl,?_⟩) hHeld ?_ ?_
     rotate_left
     ·intro w' s0
      go_simp
      with_reducible rfl
     rotate_left
     ·simp only [Act.put,zz21,zz22,zz23,i64_w,i32_w]
      rfl
     refine pure_ (i:=6) (N:=some 20) (v:=?_) (a':=?_) #[T,T,T,T,T,T,T,F,F] rfl rfl (any_of HT_.out (by kernel_rfl)) (fun _ _ _ h=>h) (Or.inl ⟨by rfl,?_⟩) ?_ ?_
     rotate_left
     ·intro w'
      go_simp
      with_reducible rfl
     rotate_left
     ·simp only [Act.put,zz21,zz22,zz23,i64_w,i32_w]
      rfl
     refine pure_ (i:=7) (N:=some 21) (v:=?_) (a':=?_) #[T,T,T,T,T,T,T,T,F] rfl rfl (any_of HT_.out (by kernel_rfl)) (fun _ _ _ h=>h) (Or.inl ⟨by rfl,?_⟩) ?_ ?_
     rotate_left
     ·intro w'
      go_simp
      with_reducible rfl
     rotate_left
     ·simp only [Act.put,zz21,zz22,zz23,i64_w,i32_w]
      rfl
     refine last_ (i:=8) (N:=none) #[T,T,T,T,T,T,T,T,T] rfl rfl (one_of HT_.out (by kernel_rfl)) (by decide) (fun K hK=>?_)
     refine skip_ (w1:=?_) (by rfl) rfl ?_ ?_
     rotate_left
     ·go_simp
      rfl
     refine hK.out _ _ ?_
     clear hK K
     refine done_ (done_of HT_.out (by kernel_rfl)) ?_
     try go_wp2
     first | go_end0 | ((try simp only [Exit.inBlock,Exit.then]);refine bodyPost_ret (results_none rfl _ _ _) rfl ?_)
     exact ⟨by first | rfl | (simp [errW_none,errW_some] <;> rfl) | (simp only [← hji7,← hji11];first | rfl | (simp [errW_none,errW_some] <;> rfl)) | (simp [*,errW_none,errW_some] <;> rfl),by (with_reducible repeat (first | apply zz12 | apply zz13 | apply zz14));exact HQ18.out,by repeat first | exact HB.out | apply zz2 | apply zz0 | apply zz1 | refine zz3 ?_ GB8.out,by repeat (first | (with_reducible first | exact HK.out | apply Kept.alloc | apply Kept.drewN | apply Kept.drew | refine Kept.setCell ?_ HMgo8.out _) | exact HK.out)⟩
    ·rw [if_neg c9] at H
     exact absurd H (by simp)
   ·rw [if_neg c6] at H
    exact absurd H (by simp)
  ·rw [if_neg c5] at H
   exact absurd H (by simp)
 ·rw [if_neg c4] at H
  exact absurd H (by simp)

/-! ### impl_partsParty: function 80 -/
mutual
def impl_partsParty.l0:Nat→List Int→List Int→Int→Int→Option (Int × (List (S61)))
 | 0,_,_,_,_=>none
 | k+1,x3,x10,x11,x12=>if x12 < x11 then (if 0≤x12 then (if x12 < (x10.length:Int) then ((slices_Repeat_int_int.f (([x12]:List Int)) (rd x10 x12)).bind fun t323=>(if x3.length+t323.length < 17592186044416 then (impl_partsParty.l0 k (x3 ++ t323) x10 x11 (wrap64 (x12+1))) else (none))) else (none)) else (none)) else (if 0≤(x3.length:Int) then (if ((x3.length:Int):Int).toNat≤140737488355328 then (impl_partsParty.l1 k x3 (List.replicate ((x3.length:Int):Int).toNat 0) (x3.length:Int) 0) else (none)) else (none))
def impl_partsParty.l1:Nat→List Int→List Int→Int→Int→Option (Int × (List (S61)))
 | 0,_,_,_,_=>none
 | k+1,x3,x6,x28,x29=>if x29 < x28 then (impl_partsParty.l2 k x3 x6 x29 x28 x29 x29 0) else ((impl_table_party.f k x6).bind fun bt332=>(some (bt332.1,bt332.2)))
def impl_partsParty.l2:Nat→List Int→List Int→Int→Int→Int→Int→Int→Option (Int × (List (S61)))
 | 0,_,_,_,_,_,_,_=>none
 | k+1,x3,x6,x7,x28,x29,x32,x33=>if x33 < x32 then (if 0≤x7 then (if x7 < (x3.length:Int) then (if 0≤x33 then (if x33 < (x3.length:Int) then (if (rd x3 x7)=(rd x3 x33) then (impl_partsParty.l2 k x3 x6 x7 x28 x29 x32 (wrap64 (x33+1))) else ((impl_table_put.f x6 x7 x33).bind fun t338=>(impl_partsParty.l2 k x3 t338 x7 x28 x29 x32 (wrap64 (x33+1))))) else (none)) else (none)) else (none)) else (none)) else (impl_partsParty.l1 k x3 x6 x28 (wrap64 (x29+1)))
end
def impl_partsParty.f (k:Nat) (l0:List Int):Option (Int × (List (S61))):=impl_partsParty.l0 k (([]:List Int)) l0 (l0.length:Int) 0
theorem impl_partsParty.mono_l:∀ k,(∀ y0 y1 y2 y3,LeO (impl_partsParty.l0 k y0 y1 y2 y3) (impl_partsParty.l0 (k+1) y0 y1 y2 y3))∧(∀ y0 y1 y2 y3,LeO (impl_partsParty.l1 k y0 y1 y2 y3) (impl_partsParty.l1 (k+1) y0 y1 y2 y3))∧(∀ y0 y1 y2 y3 y4 y5 y6,LeO (impl_partsParty.l2 k y0 y1 y2 y3 y4 y5 y6) (impl_partsParty.l2 (k+1) y0 y1 y2 y3 y4 y5 y6))
 | 0=>⟨fun _ _ _ _ r h=>by simp [impl_partsParty.l0] at h,fun _ _ _ _ r h=>by simp [impl_partsParty.l1] at h,fun _ _ _ _ _ _ _ r h=>by simp [impl_partsParty.l2] at h⟩
 | k+1=>by
  obtain ⟨ih0,ih1,ih2⟩:=impl_partsParty.mono_l k
  refine ⟨?_,?_,?_⟩
  ·intro y0 y1 y2 y3
   unfold impl_partsParty.l0
   repeat' first
   | (with_reducible exact ih0 _ _ _ _)
   | (with_reducible exact ih1 _ _ _ _)
   | (with_reducible exact ih2 _ _ _ _ _ _ _)
   | (with_reducible exact impl_table_party.mono _ _)
   | (with_reducible exact LeO.refl _)
   | (with_reducible exact LeO.none _)
   | (with_reducible refine LeO.ite ?_ ?_)
   | (with_reducible refine LeO.bind ?_ (fun _=>?_))
   | exact ih0 _ _ _ _
   | exact ih1 _ _ _ _
   | exact ih2 _ _ _ _ _ _ _
   | exact impl_table_party.mono _ _
   | exact LeO.none _
   | refine LeO.ite ?_ ?_
   | refine LeO.bind ?_ (fun _=>?_)
  ·intro y0 y1 y2 y3
   unfold impl_partsParty.l1
   repeat' first
   | (with_reducible exact ih0 _ _ _ _)
   | (with_reducible exact ih1 _ _ _ _)
   | (with_reducible exact ih2 _ _ _ _ _ _ _)
   | (with_reducible exact impl_table_party.mono _ _)
   | (with_reducible exact LeO.refl _)
   | (with_reducible exact LeO.none _)
   | (with_reducible refine LeO.ite ?_ ?_)
   | (with_reducible refine LeO.bind ?_ (fun _=>?_))
   | exact ih0 _ _ _ _
   | exact ih1 _ _ _ _
   | exact ih2 _ _ _ _ _ _ _
   | exact impl_table_party.mono _ _
   | exact LeO.none _
   | refine LeO.ite ?_ ?_
   | refine LeO.bind ?_ (fun _=>?_)
  ·intro y0 y1 y2 y3 y4 y5 y6
   unfold impl_partsParty.l2
   repeat' first
   | (with_reducible exact ih0 _ _ _ _)
   | (with_reducible exact ih1 _ _ _ _)
   | (with_reducible exact ih2 _ _ _ _ _ _ _)
   | (with_reducible exact impl_table_party.mono _ _)
   | (with_reducible exact LeO.refl _)
   | (with_reducible exact LeO.none _)
   | (with_reducible refine LeO.ite ?_ ?_)
   | (with_reducible refine LeO.bind ?_ (fun _=>?_))
   | exact ih0 _ _ _ _
   | exact ih1 _ _ _ _
   | exact ih2 _ _ _ _ _ _ _
   | exact impl_table_party.mono _ _
   | exact LeO.none _
   | refine LeO.ite ?_ ?_
   | refine LeO.bind ?_ (fun _=>?_)
theorem impl_partsParty.mono:∀ a0 k,LeO (impl_partsParty.f k a0) (impl_partsParty.f (k+1) a0):=by
 intro a0 k
 obtain ⟨ih0,ih1,ih2⟩:=impl_partsParty.mono_l k
 unfold impl_partsParty.f
 repeat' first
   | (with_reducible exact ih0 _ _ _ _)
   | (with_reducible exact ih1 _ _ _ _)
   | (with_reducible exact ih2 _ _ _ _ _ _ _)
   | (with_reducible exact impl_table_party.mono _ _)
   | (with_reducible exact LeO.refl _)
   | (with_reducible exact LeO.none _)
   | (with_reducible refine LeO.ite ?_ ?_)
   | (with_reducible refine LeO.bind ?_ (fun _=>?_))
   | exact ih0 _ _ _ _
   | exact ih1 _ _ _ _
   | exact ih2 _ _ _ _ _ _ _
   | exact impl_table_party.mono _ _
   | exact LeO.none _
   | refine LeO.ite ?_ ?_
   | refine LeO.bind ?_ (fun _=>?_)
set_option maxHeartbeats 8000000 in
set_option maxRecDepth 100000 in
theorem impl_partsParty.calls (k:Nat) (A0:Option Addr) (c0:Nat) (l0:List Int) (r1:Int) (r2:List (S61)) (w:World) (hr0:Kd.C (Kd.int .i64) w A0 l0.length l0) (hc0:l0.length≤c0) (h:impl_partsParty.f k l0=some (r1,r2)) :
  Calls Try.prog 80 #[.slice A0 l0.length c0] w fun e w'=>∃ v1_:Value,e=.returned (.agg #[.int .i64 r1,v1_])∧Kd.R k61 61 w' w.heap.size (fun _=>True) v1_ r2∧Below w.heap.size w w':=by
 have hu29:=Try.underlying29
 have HR0:=Aside0.mk hr0
 have HC0:=Aside0.mk hc0
 clear hr0 hc0
 have HB:=Aside0.mk (Below.refl w.heap.size w)
 have H:(impl_partsParty.l0 k (([]:List Int)) l0 (l0.length:Int) 0)=some (r1,r2):=h
 clear h
 obtain ⟨y316,hy316⟩:∃ y_:List Int,y_=(([]:List Int)):=⟨_,rfl⟩
 replace H:(impl_partsParty.l0 k y316 l0 (l0.length:Int) 0)=some (r1,r2):=by first | (rw [hy316];with_reducible exact H) | (have H2_:=(Option.bind_some _ _).symm.trans H;rw [hy316];with_reducible exact H2_) | (have H2_:=(Option.bind_some _ _).symm.trans H;with_reducible exact H2_) | with_reducible exact H | (rw [hy316];exact H) | exact H
 have Ny316:=Aside0.mk hy316
 clear hy316
 have H':=Aside0.mk H
 clear H
 go_enter Try.func80,Try.ntmps80
 go_wp2_with (first | ((with_reducible refine gate_dst (N:=2) rfl ?_);refine box_event ?hg (N:=2) ?hd (cs:=#[.int .i64 0,.slice none 0 0]) (t:=29) ?hr ?_;(case hd=>rfl);(case hg=>rfl);(case hr=>first | (go_simp;done) | (go_simp;rfl));intro gb315 hg w2 hbox hb;have n0_:=Aside0.mk (zz4 (by repeat first | exact HB.out | apply zz2 | apply zz0 | apply zz1) hb);have n1_:=Aside0.mk (hbox);have n2_:=Aside0.mk ((by rw [hg];exact (zz5 (by repeat first | exact HB.out | apply zz2 | apply zz0 | apply zz1)):w.heap.size≤gb315));have n3_:=Aside0.mk ((by rw [hg];exact (zz5 (by repeat first | exact HB.out | apply zz2 | apply zz0 | apply zz1)):w.heap.size≤gb315));clear HB;have HB:=n0_;have BK315:=n1_;have GW315:=n2_;have GE315:=n3_;clear n0_ n1_ n2_ n3_;clear hb hbox hg) | ((with_reducible refine gate_dst (N:=9) rfl ?_);refine Kd.R_lit (Kd.int .i64) _ 3 ?hg (N:=9) ?hd (xs:=([]:List Int)) (inner:=[]) (ok:=fun _=>True) (okp:=fun _=>True) ?hr ?hp (fun _ hk=>hk) trivial (Below.refl _ _) (Nat.le_refl _) (by simp) ?_;(case hd=>rfl);(case hg=>rfl);(case hr=>first | (go_simp;done) | (go_simp;rfl));(case hp=>exact (Reps.none _ _));intro v317 w3 ho4 hb hg_ hnew_;clear hg_ hnew_;(first | rw [← Ny316.out] at ho4 | (simp only [Int.reduceToNat] at ho4;rw [← Ny316.out] at ho4));have n0_:=Aside0.mk (Kd.R_lower ho4 (zz5 (by repeat first | exact HB.out | apply zz2 | apply zz0 | apply zz1 | refine zz3 ?_ GE315.out)));have n1_:=Aside0.mk (zz11 (g:=gb315) (o:=.cells #[.int .i64 0,.slice none 0 0] 29 (0,0)) (by (with_reducible repeat (first | refine zz6 ?_ _ | refine zz7 ?_ | refine zz8 ?_ _));exact BK315.out) hb);have n2_:=Aside0.mk (zz4 (by repeat first | exact HB.out | apply zz2 | apply zz0 | apply zz1 | refine zz3 ?_ GE315.out) hb);clear BK315;clear HB;have HO318:=n0_;have BK315:=n1_;have HB:=n2_;clear n0_ n1_ n2_;clear hb ho4))
 repeat (go_quiet (first | ((with_reducible refine gate_dst (N:=2) rfl ?_);refine box_event ?hg (N:=2) ?hd (cs:=#[.int .i64 0,.slice none 0 0]) (t:=29) ?hr ?_;(case hd=>rfl);(case hg=>rfl);(case hr=>first | (go_simp;done) | (go_simp;rfl));intro gb315 hg w2 hbox hb;have n0_:=Aside0.mk (zz4 (by repeat first | exact HB.out | apply zz2 | apply zz0 | apply zz1) hb);have n1_:=Aside0.mk (hbox);have n2_:=Aside0.mk ((by rw [hg];exact (zz5 (by repeat first | exact HB.out | apply zz2 | apply zz0 | apply zz1)):w.heap.size≤gb315));have n3_:=Aside0.mk ((by rw [hg];exact (zz5 (by repeat first | exact HB.out | apply zz2 | apply zz0 | apply zz1)):w.heap.size≤gb315));clear HB;have HB:=n0_;have BK315:=n1_;have GW315:=n2_;have GE315:=n3_;clear n0_ n1_ n2_ n3_;clear hb hbox hg) | ((with_reducible refine gate_dst (N:=9) rfl ?_);refine Kd.R_lit (Kd.int .i64) _ 3 ?hg (N:=9) ?hd (xs:=([]:List Int)) (inner:=[]) (ok:=fun _=>True) (okp:=fun _=>True) ?hr ?hp (fun _ hk=>hk) trivial (Below.refl _ _) (Nat.le_refl _) (by simp) ?_;(case hd=>rfl);(case hg=>rfl);(case hr=>first | (go_simp;done) | (go_simp;rfl));(case hp=>exact (Reps.none _ _));intro v317 w3 ho4 hb hg_ hnew_;clear hg_ hnew_;(first | rw [← Ny316.out] at ho4 | (simp only [Int.reduceToNat] at ho4;rw [← Ny316.out] at ho4));have n0_:=Aside0.mk (Kd.R_lower ho4 (zz5 (by repeat first | exact HB.out | apply zz2 | apply zz0 | apply zz1 | refine zz3 ?_ GE315.out)));have n1_:=Aside0.mk (zz11 (g:=gb315) (o:=.cells #[.int .i64 0,.slice none 0 0] 29 (0,0)) (by (with_reducible repeat (first | refine zz6 ?_ _ | refine zz7 ?_ | refine zz8 ?_ _));exact BK315.out) hb);have n2_:=Aside0.mk (zz4 (by repeat first | exact HB.out | apply zz2 | apply zz0 | apply zz1 | refine zz3 ?_ GE315.out) hb);clear BK315;clear HB;have HO318:=n0_;have BK315:=n1_;have HB:=n2_;clear n0_ n1_ n2_;clear hb ho4));try go_wp2_with (first | ((with_reducible refine gate_dst (N:=2) rfl ?_);refine box_event ?hg (N:=2) ?hd (cs:=#[.int .i64 0,.slice none 0 0]) (t:=29) ?hr ?_;(case hd=>rfl);(case hg=>rfl);(case hr=>first | (go_simp;done) | (go_simp;rfl));intro gb315 hg w2 hbox hb;have n0_:=Aside0.mk (zz4 (by repeat first | exact HB.out | apply zz2 | apply zz0 | apply zz1) hb);have n1_:=Aside0.mk (hbox);have n2_:=Aside0.mk ((by rw [hg];exact (zz5 (by repeat first | exact HB.out | apply zz2 | apply zz0 | apply zz1)):w.heap.size≤gb315));have n3_:=Aside0.mk ((by rw [hg];exact (zz5 (by repeat first | exact HB.out | apply zz2 | apply zz0 | apply zz1)):w.heap.size≤gb315));clear HB;have HB:=n0_;have BK315:=n1_;have GW315:=n2_;have GE315:=n3_;clear n0_ n1_ n2_ n3_;clear hb hbox hg) | ((with_reducible refine gate_dst (N:=9) rfl ?_);refine Kd.R_lit (Kd.int .i64) _ 3 ?hg (N:=9) ?hd (xs:=([]:List Int)) (inner:=[]) (ok:=fun _=>True) (okp:=fun _=>True) ?hr ?hp (fun _ hk=>hk) trivial (Below.refl _ _) (Nat.le_refl _) (by simp) ?_;(case hd=>rfl);(case hg=>rfl);(case hr=>first | (go_simp;done) | (go_simp;rfl));(case hp=>exact (Reps.none _ _));intro v317 w3 ho4 hb hg_ hnew_;clear hg_ hnew_;(first | rw [← Ny316.out] at ho4 | (simp only [Int.reduceToNat] at ho4;rw [← Ny316.out] at ho4));have n0_:=Aside0.mk (Kd.R_lower ho4 (zz5 (by repeat first | exact HB.out | apply zz2 | apply zz0 | apply zz1 | refine zz3 ?_ GE315.out)));have n1_:=Aside0.mk (zz11 (g:=gb315) (o:=.cells #[.int .i64 0,.slice none 0 0] 29 (0,0)) (by (with_reducible repeat (first | refine zz6 ?_ _ | refine zz7 ?_ | refine zz8 ?_ _));exact BK315.out) hb);have n2_:=Aside0.mk (zz4 (by repeat first | exact HB.out | apply zz2 | apply zz0 | apply zz1 | refine zz3 ?_ GE315.out) hb);clear BK315;clear HB;have HO318:=n0_;have BK315:=n1_;have HB:=n2_;clear n0_ n1_ n2_;clear hb ho4)))
 go_loopg [3,12] k (fun kq v3 v12 w'=>∃ (x3_1:List Int) (x12_1:Int),v12=.int .i64 x12_1∧Aside0 (impl_partsParty.l0 kq x3_1 l0 (l0.length:Int) x12_1=some (r1,r2))∧Aside0 (kq≤k)∧Aside0 (Kd.R (Kd.int .i64) 3 w' w.heap.size (fun _=>True) v3 x3_1)∧Aside0 (w'.heap[gb315]?=some (.cells #[.int .i64 0,(.slice none 0 0)] 29 (0,0)))∧Aside0 (Below w.heap.size w w'))
 case atStart=>exact ⟨(y316),(0),(by first | rfl | (simp;done) | (simp [*];done)),H',⟨Nat.le_refl _⟩,⟨by (with_reducible repeat (first | apply zz12 | apply zz13 | apply zz14));exact HO318.out⟩,⟨by (with_reducible repeat (first | refine zz6 ?_ _ | refine zz7 ?_ | refine zz8 ?_ _));exact BK315.out⟩,⟨by repeat first | exact HB.out | apply zz2 | apply zz0 | apply zz1 | refine zz3 ?_ GE315.out⟩⟩
 case round =>
  clear H'
  try clear p2
  obtain ⟨x3_1,x12_1,rfl,HA,HK1,HO_3,BK315,HB⟩:=hrel
  cases gk with
  | zero=>exact absurd HA.out (by simp [impl_partsParty.l0])
  | succ k1 =>
   have H:=HA.out
   clear HA
   simp only [impl_partsParty.l0] at H
   by_cases c5:x12_1 < (l0.length:Int)
   ·rw [if_pos c5] at H
    have c5b0:decide (x12_1 < (l0.length:Int))=true:=decide_eq_true c5
    clear c5
    by_cases c6:0≤x12_1
    ·rw [if_pos c6] at H
     have c6b0:decide (0≤x12_1)=true:=decide_eq_true c6
     clear c6
     by_cases c7:x12_1 < (l0.length:Int)
     ·rw [if_pos c7] at H
      have c7b0:decide (x12_1 < (l0.length:Int))=true:=decide_eq_true c7
      clear c7
      obtain ⟨y320,hy320⟩:∃ y_:List Int,y_=(([x12_1]:List Int)):=⟨_,rfl⟩
      replace H:((slices_Repeat_int_int.f y320 (rd l0 x12_1)).bind fun t323=>(if x3_1.length+t323.length < 17592186044416 then (impl_partsParty.l0 k1 (x3_1 ++ t323) l0 (l0.length:Int) (wrap64 (x12_1+1))) else (none)))=some (r1,r2):=by first | (rw [hy320];with_reducible exact H) | (have H2_:=(Option.bind_some _ _).symm.trans H;rw [hy320];with_reducible exact H2_) | (have H2_:=(Option.bind_some _ _).symm.trans H;with_reducible exact H2_) | with_reducible exact H | (rw [hy320];exact H) | exact H
      have Ny320:=Aside0.mk hy320
      clear hy320
      replace H:=zz30.mp H
      obtain ⟨t323,A80,H⟩:=H
      replace H:(if x3_1.length+t323.length < 17592186044416 then (impl_partsParty.l0 k1 (x3_1 ++ t323) l0 (l0.length:Int) (wrap64 (x12_1+1))) else (none))=some (r1,r2):=H
      have A8:=Aside0.mk A80
      clear A80
      by_cases c9:x3_1.length+t323.length < 17592186044416
      ·rw [if_pos c9] at H
       have LMc9:=Aside0.mk c9
       clear c9
       obtain ⟨y326,hy326⟩:∃ y_:List Int,y_=(x3_1 ++ t323):=⟨_,rfl⟩
       replace H:(impl_partsParty.l0 k1 y326 l0 (l0.length:Int) (wrap64 (x12_1+1)))=some (r1,r2):=by first | (rw [hy326];with_reducible exact H) | (have H2_:=(Option.bind_some _ _).symm.trans H;rw [hy326];with_reducible exact H2_) | (have H2_:=(Option.bind_some _ _).symm.trans H;with_reducible exact H2_) | with_reducible exact H | (rw [hy326];exact H) | exact H
       have Ny326:=Aside0.mk hy326
       clear hy326
       have H':=Aside0.mk H
       clear H
       have p319:0≤(x12_1:Int):=zz29 (by first | (with_reducible assumption) | assumption)
       have q319:x12_1 < (l0.length:Int):=zz29 (by first | (with_reducible assumption) | assumption)
       obtain ⟨ad319,e319,hx319_0⟩:=Kd.at_int HR0.out x12_1 p319 q319
       cases e319
       replace hx319_0:=(HB.out.cell (World.block_lt_of_cell? w _ hx319_0)).trans hx319_0
       replace p319:=eq_true p319
       replace q319:=eq_true q319
       go_wp2_with (first | ((with_reducible refine gate_dst (N:=19) rfl ?_);refine Kd.R_lit (Kd.int .i64) _ 3 ?hg (N:=19) ?hd (xs:=([x12_1]:List Int)) (inner:=[.int .i64 x12_1]) (ok:=fun _=>True) (okp:=fun _=>True) ?hr ?hp (fun _ hk=>hk) trivial (Below.refl _ _) (Nat.le_refl _) (by simp) ?_;(case hd=>rfl);(case hg=>rfl);(case hr=>first | (go_simp;done) | (go_simp;rfl));(case hp=>exact (Reps.one (show Kd.M (Kd.int .i64) _ _ _ x12_1 [.int .i64 x12_1] from rfl) (Reps.none _ _)));intro v321 w10 ho11 hb hg_ hnew_;clear hg_ hnew_;(first | rw [← Ny320.out] at ho11 | (simp only [Int.reduceToNat] at ho11;rw [← Ny320.out] at ho11));have n0_:=Aside0.mk (Kd.R_elder' (by (with_reducible repeat (first | apply zz12 | apply zz13 | apply zz14));exact HO_3.out) (Kd.R_base ho11) hb);have n1_:=Aside0.mk (Kd.R_lower (Kd.R_new' ho11 (Kd.R_lt (by (with_reducible repeat (first | apply zz12 | apply zz13 | apply zz14));exact HO_3.out))) (zz5 (by repeat first | exact HB.out | apply zz2 | apply zz0 | apply zz1 | refine zz3 ?_ GE315.out)));have n2_:=Aside0.mk (zz11 (g:=gb315) (o:=.cells #[.int .i64 0,.slice none 0 0] 29 (0,0)) (by (with_reducible repeat (first | refine zz6 ?_ _ | refine zz7 ?_ | refine zz8 ?_ _));exact BK315.out) hb);have n3_:=Aside0.mk (zz4 (by repeat first | exact HB.out | apply zz2 | apply zz0 | apply zz1 | refine zz3 ?_ GE315.out) hb);clear HO_3;clear BK315;clear HB;have HO_3:=n0_;have HO322:=n1_;have BK315:=n2_;have HB:=n3_;clear n0_ n1_ n2_ n3_;clear hb ho11;obtain ⟨Ao12,co12,eo12⟩:=Kd.R_slice HO322.out;subst eo12) | (go_at_call 95;(with_reducible refine (slices_Repeat_int_int.calls _ _ y320 (rd l0 x12_1) t323 _ ?side1 ?side2 A8.out).mono ?_);(case side1=>repeat (first | exact (Kd.R_reads' HO322.out).2.2 | (with_reducible refine zz18 ?_ _) | (with_reducible refine zz19 ?_ _) | (with_reducible refine zz20 ?_)));(case side2=>exact (Kd.R_reads' HO322.out).2.1);rintro e w13 ⟨v324,rfl,ho0,hb⟩;have n0_:=Aside0.mk (Kd.R_elder' (by (with_reducible repeat (first | apply zz12 | apply zz13 | apply zz14));exact HO_3.out) (Kd.R_base ho0) hb);have n1_:=Aside0.mk (Kd.R_elder' (by (with_reducible repeat (first | apply zz12 | apply zz13 | apply zz14));exact HO322.out) (Kd.R_base ho0) hb);have n2_:=Aside0.mk (Kd.R_lower (Kd.R_new' (Kd.R_new' ho0 (Kd.R_lt (by (with_reducible repeat (first | apply zz12 | apply zz13 | apply zz14));exact HO_3.out))) (Kd.R_lt (by (with_reducible repeat (first | apply zz12 | apply zz13 | apply zz14));exact HO322.out))) (zz5 (by repeat first | exact HB.out | apply zz2 | apply zz0 | apply zz1 | refine zz3 ?_ GE315.out)));have n3_:=Aside0.mk (zz11 (g:=gb315) (o:=.cells #[.int .i64 0,.slice none 0 0] 29 (0,0)) (by (with_reducible repeat (first | refine zz6 ?_ _ | refine zz7 ?_ | refine zz8 ?_ _));exact BK315.out) hb);have n4_:=Aside0.mk (zz4 (by repeat first | exact HB.out | apply zz2 | apply zz0 | apply zz1 | refine zz3 ?_ GE315.out) hb);clear HO_3;clear HO322;clear BK315;clear HB;have HO_3:=n0_;have HO322:=n1_;have HO325:=n2_;have BK315:=n3_;have HB:=n4_;clear n0_ n1_ n2_ n3_ n4_;(try clear hb);(try clear hb2);(try clear hk);(try clear hi);(try clear ho0);obtain ⟨Ao15,co15,eo15⟩:=Kd.R_slice HO325.out;subst eo15) | ((with_reducible refine gate_builtin (b:=.append) (xs:=#[.tmp 17,.tmp 21]) rfl ?_);at_builtin;refine Kd.R_append_rows (Kd.int .i64) (w0:=w) w.heap.size rfl (.tmp 17) (.tmp 21) 45 3 (.int .i64 0) 8 rfl Try.underlying45 info3 rfl (by decide) (by omega) u3 x3_1 t323 _ _ _ (fun k_=>some k_ ≠ (.slice Ao12 y320.length co12:Value).ownBlock∧some k_ ≠ (.slice Ao15 t323.length co15:Value).ownBlock) (fun _=>False) rfl rfl ?aO ?aR (fun _ _ h=>h) (fun _ h=>h.elim) ?aF ?aB ?aS ?aL ?_;(case aR=>repeat (first | exact (Kd.R_reads' HO325.out).2.2 | (with_reducible refine zz18 ?_ _) | (with_reducible refine zz19 ?_ _) | (with_reducible refine zz20 ?_)));(case aB=>exact (by repeat first | exact HB.out | apply zz2 | apply zz0 | apply zz1 | refine zz3 ?_ GE315.out));(case aF=>exact (fun k_ hk=>⟨Kd.fresh' (Kd.R_lt (by (with_reducible repeat (first | apply zz12 | apply zz13 | apply zz14));exact HO322.out)) k_ hk,Kd.fresh' (Kd.R_lt (by (with_reducible repeat (first | apply zz12 | apply zz13 | apply zz14));exact HO325.out)) k_ hk⟩));(case aO=>exact (by (with_reducible repeat (first | apply zz12 | apply zz13 | apply zz14));exact Kd.R_mono HO_3.out (fun _ hk=>⟨hk.1.2,hk.2⟩)));(case aS=>exact (zz5 (by repeat first | exact HB.out | apply zz2 | apply zz0 | apply zz1 | refine zz3 ?_ GE315.out)));(case aL=>have:=LMc9.out;omega);intro v327 w14 ho hb hg hat;rw [← Ny326.out] at ho;have n0_:=Aside0.mk (blk_grown (g:=gb315) (o:=.cells #[.int .i64 0,.slice none 0 0] 29 (0,0)) (by (with_reducible repeat (first | refine zz6 ?_ _ | refine zz7 ?_ | refine zz8 ?_ _));exact BK315.out) hg (Kd.R_ne HO_3.out BK315.out (by decide)));have n1_:=Aside0.mk (Kd.R_after (ok:=(fun k_=>some k_ ≠ (.slice Ao15 t323.length co15:Value).ownBlock)) (by (with_reducible repeat (first | apply zz12 | apply zz13 | apply zz14));exact Kd.R_mono HO322.out (fun _ hk=>⟨hk.2,hk.1.2⟩)) hg hat);have n2_:=Aside0.mk (Kd.R_after (ok:=(fun k_=>some k_ ≠ (.slice Ao12 y320.length co12:Value).ownBlock)) (by (with_reducible repeat (first | apply zz12 | apply zz13 | apply zz14));exact Kd.R_mono HO325.out (fun _ hk=>⟨hk.2,hk.1.2⟩)) hg hat);have n3_:=Aside0.mk (hb);have n4_:=Aside0.mk (ho);clear BK315;clear HO322;clear HO325;clear HB;clear HO_3;have BK315:=n0_;have HO322:=n1_;have HO325:=n2_;have HB:=n3_;have HO328:=n4_;clear n0_ n1_ n2_ n3_ n4_;clear ho hb hg hat))
       repeat (go_quiet (first | ((with_reducible refine gate_dst (N:=19) rfl ?_);refine Kd.R_lit (Kd.int .i64) _ 3 ?hg (N:=19) ?hd (xs:=([x12_1]:List Int)) (inner:=[.int .i64 x12_1]) (ok:=fun _=>True) (okp:=fun _=>True) ?hr ?hp (fun _ hk=>hk) trivial (Below.refl _ _) (Nat.le_refl _) (by simp) ?_;(case hd=>rfl);(case hg=>rfl);(case hr=>first | (go_simp;done) | (go_simp;rfl));(case hp=>exact (Reps.one (show Kd.M (Kd.int .i64) _ _ _ x12_1 [.int .i64 x12_1] from rfl) (Reps.none _ _)));intro v321 w10 ho11 hb hg_ hnew_;clear hg_ hnew_;(first | rw [← Ny320.out] at ho11 | (simp only [Int.reduceToNat] at ho11;rw [← Ny320.out] at ho11));have n0_:=Aside0.mk (Kd.R_elder' (by (with_reducible repeat (first | apply zz12 | apply zz13 | apply zz14));exact HO_3.out) (Kd.R_base ho11) hb);have n1_:=Aside0.mk (Kd.R_lower (Kd.R_new' ho11 (Kd.R_lt (by (with_reducible repeat (first | apply zz12 | apply zz13 | apply zz14));exact HO_3.out))) (zz5 (by repeat first | exact HB.out | apply zz2 | apply zz0 | apply zz1 | refine zz3 ?_ GE315.out)));have n2_:=Aside0.mk (zz11 (g:=gb315) (o:=.cells #[.int .i64 0,.slice none 0 0] 29 (0,0)) (by (with_reducible repeat (first | refine zz6 ?_ _ | refine zz7 ?_ | refine zz8 ?_ _));exact BK315.out) hb);have n3_:=Aside0.mk (zz4 (by repeat first | exact HB.out | apply zz2 | apply zz0 | apply zz1 | refine zz3 ?_ GE315.out) hb);clear HO_3;clear BK315;clear HB;have HO_3:=n0_;have HO322:=n1_;have BK315:=n2_;have HB:=n3_;clear n0_ n1_ n2_ n3_;clear hb ho11;obtain ⟨Ao12,co12,eo12⟩:=Kd.R_slice HO322.out;subst eo12) | (go_at_call 95;(with_reducible refine (slices_Repeat_int_int.calls _ _ y320 (rd l0 x12_1) t323 _ ?side1 ?side2 A8.out).mono ?_);(case side1=>repeat (first | exact (Kd.R_reads' HO322.out).2.2 | (with_reducible refine zz18 ?_ _) | (with_reducible refine zz19 ?_ _) | (with_reducible refine zz20 ?_)));(case side2=>exact (Kd.R_reads' HO322.out).2.1);rintro e w13 ⟨v324,rfl,ho0,hb⟩;have n0_:=Aside0.mk (Kd.R_elder' (by (with_reducible repeat (first | apply zz12 | apply zz13 | apply zz14));exact HO_3.out) (Kd.R_base ho0) hb);have n1_:=Aside0.mk (Kd.R_elder' (by (with_reducible repeat (first | apply zz12 | apply zz13 | apply zz14));exact HO322.out) (Kd.R_base ho0) hb);have n2_:=Aside0.mk (Kd.R_lower (Kd.R_new' (Kd.R_new' ho0 (Kd.R_lt (by (with_reducible repeat (first | apply zz12 | apply zz13 | apply zz14));exact HO_3.out))) (Kd.R_lt (by (with_reducible repeat (first | apply zz12 | apply zz13 | apply zz14));exact HO322.out))) (zz5 (by repeat first | exact HB.out | apply zz2 | apply zz0 | apply zz1 | refine zz3 ?_ GE315.out)));have n3_:=Aside0.mk (zz11 (g:=gb315) (o:=.cells #[.int .i64 0,.slice none 0 0] 29 (0,0)) (by (with_reducible repeat (first | refine zz6 ?_ _ | refine zz7 ?_ | refine zz8 ?_ _));exact BK315.out) hb);have n4_:=Aside0.mk (zz4 (by repeat first | exact HB.out | apply zz2 | apply zz0 | apply zz1 | refine zz3 ?_ GE315.out) hb);clear HO_3;clear HO322;clear BK315;clear HB;have HO_3:=n0_;have HO322:=n1_;have HO325:=n2_;have BK315:=n3_;have HB:=n4_;clear n0_ n1_ n2_ n3_ n4_;(try clear hb);(try clear hb2);(try clear hk);(try clear hi);(try clear ho0);obtain ⟨Ao15,co15,eo15⟩:=Kd.R_slice HO325.out;subst eo15) | ((with_reducible refine gate_builtin (b:=.append) (xs:=#[.tmp 17,.tmp 21]) rfl ?_);at_builtin;refine Kd.R_append_rows (Kd.int .i64) (w0:=w) w.heap.size rfl (.tmp 17) (.tmp 21) 45 3 (.int .i64 0) 8 rfl Try.underlying45 info3 rfl (by decide) (by omega) u3 x3_1 t323 _ _ _ (fun k_=>some k_ ≠ (.slice Ao12 y320.length co12:Value).ownBlock∧some k_ ≠ (.slice Ao15 t323.length co15:Value).ownBlock) (fun _=>False) rfl rfl ?aO ?aR (fun _ _ h=>h) (fun _ h=>h.elim) ?aF ?aB ?aS ?aL ?_;(case aR=>repeat (first | exact (Kd.R_reads' HO325.out).2.2 | (with_reducible refine zz18 ?_ _) | (with_reducible refine zz19 ?_ _) | (with_reducible refine zz20 ?_)));(case aB=>exact (by repeat first | exact HB.out | apply zz2 | apply zz0 | apply zz1 | refine zz3 ?_ GE315.out));(case aF=>exact (fun k_ hk=>⟨Kd.fresh' (Kd.R_lt (by (with_reducible repeat (first | apply zz12 | apply zz13 | apply zz14));exact HO322.out)) k_ hk,Kd.fresh' (Kd.R_lt (by (with_reducible repeat (first | apply zz12 | apply zz13 | apply zz14));exact HO325.out)) k_ hk⟩));(case aO=>exact (by (with_reducible repeat (first | apply zz12 | apply zz13 | apply zz14));exact Kd.R_mono HO_3.out (fun _ hk=>⟨hk.1.2,hk.2⟩)));(case aS=>exact (zz5 (by repeat first | exact HB.out | apply zz2 | apply zz0 | apply zz1 | refine zz3 ?_ GE315.out)));(case aL=>have:=LMc9.out;omega);intro v327 w14 ho hb hg hat;rw [← Ny326.out] at ho;have n0_:=Aside0.mk (blk_grown (g:=gb315) (o:=.cells #[.int .i64 0,.slice none 0 0] 29 (0,0)) (by (with_reducible repeat (first | refine zz6 ?_ _ | refine zz7 ?_ | refine zz8 ?_ _));exact BK315.out) hg (Kd.R_ne HO_3.out BK315.out (by decide)));have n1_:=Aside0.mk (Kd.R_after (ok:=(fun k_=>some k_ ≠ (.slice Ao15 t323.length co15:Value).ownBlock)) (by (with_reducible repeat (first | apply zz12 | apply zz13 | apply zz14));exact Kd.R_mono HO322.out (fun _ hk=>⟨hk.2,hk.1.2⟩)) hg hat);have n2_:=Aside0.mk (Kd.R_after (ok:=(fun k_=>some k_ ≠ (.slice Ao12 y320.length co12:Value).ownBlock)) (by (with_reducible repeat (first | apply zz12 | apply zz13 | apply zz14));exact Kd.R_mono HO325.out (fun _ hk=>⟨hk.2,hk.1.2⟩)) hg hat);have n3_:=Aside0.mk (hb);have n4_:=Aside0.mk (ho);clear BK315;clear HO322;clear HO325;clear HB;clear HO_3;have BK315:=n0_;have HO322:=n1_;have HO325:=n2_;have HB:=n3_;have HO328:=n4_;clear n0_ n1_ n2_ n3_ n4_;clear ho hb hg hat));try go_wp2_with (first | ((with_reducible refine gate_dst (N:=19) rfl ?_);refine Kd.R_lit (Kd.int .i64) _ 3 ?hg (N:=19) ?hd (xs:=([x12_1]:List Int)) (inner:=[.int .i64 x12_1]) (ok:=fun _=>True) (okp:=fun _=>True) ?hr ?hp (fun _ hk=>hk) trivial (Below.refl _ _) (Nat.le_refl _) (by simp) ?_;(case hd=>rfl);(case hg=>rfl);(case hr=>first | (go_simp;done) | (go_simp;rfl));(case hp=>exact (Reps.one (show Kd.M (Kd.int .i64) _ _ _ x12_1 [.int .i64 x12_1] from rfl) (Reps.none _ _)));intro v321 w10 ho11 hb hg_ hnew_;clear hg_ hnew_;(first | rw [← Ny320.out] at ho11 | (simp only [Int.reduceToNat] at ho11;rw [← Ny320.out] at ho11));have n0_:=Aside0.mk (Kd.R_elder' (by (with_reducible repeat (first | apply zz12 | apply zz13 | apply zz14));exact HO_3.out) (Kd.R_base ho11) hb);have n1_:=Aside0.mk (Kd.R_lower (Kd.R_new' ho11 (Kd.R_lt (by (with_reducible repeat (first | apply zz12 | apply zz13 | apply zz14));exact HO_3.out))) (zz5 (by repeat first | exact HB.out | apply zz2 | apply zz0 | apply zz1 | refine zz3 ?_ GE315.out)));have n2_:=Aside0.mk (zz11 (g:=gb315) (o:=.cells #[.int .i64 0,.slice none 0 0] 29 (0,0)) (by (with_reducible repeat (first | refine zz6 ?_ _ | refine zz7 ?_ | refine zz8 ?_ _));exact BK315.out) hb);have n3_:=Aside0.mk (zz4 (by repeat first | exact HB.out | apply zz2 | apply zz0 | apply zz1 | refine zz3 ?_ GE315.out) hb);clear HO_3;clear BK315;clear HB;have HO_3:=n0_;have HO322:=n1_;have BK315:=n2_;have HB:=n3_;clear n0_ n1_ n2_ n3_;clear hb ho11;obtain ⟨Ao12,co12,eo12⟩:=Kd.R_slice HO322.out;subst eo12) | (go_at_call 95;(with_reducible refine (slices_Repeat_int_int.calls _ _ y320 (rd l0 x12_1) t323 _ ?side1 ?side2 A8.out).mono ?_);(case side1=>repeat (first | exact (Kd.R_reads' HO322.out).2.2 | (with_reducible refine zz18 ?_ _) | (with_reducible refine zz19 ?_ _) | (with_reducible refine zz20 ?_)));(case side2=>exact (Kd.R_reads' HO322.out).2.1);rintro e w13 ⟨v324,rfl,ho0,hb⟩;have n0_:=Aside0.mk (Kd.R_elder' (by (with_reducible repeat (first | apply zz12 | apply zz13 | apply zz14));exact HO_3.out) (Kd.R_base ho0) hb);have n1_:=Aside0.mk (Kd.R_elder' (by (with_reducible repeat (first | apply zz12 | apply zz13 | apply zz14));exact HO322.out) (Kd.R_base ho0) hb);have n2_:=Aside0.mk (Kd.R_lower (Kd.R_new' (Kd.R_new' ho0 (Kd.R_lt (by (with_reducible repeat (first | apply zz12 | apply zz13 | apply zz14));exact HO_3.out))) (Kd.R_lt (by (with_reducible repeat (first | apply zz12 | apply zz13 | apply zz14));exact HO322.out))) (zz5 (by repeat first | exact HB.out | apply zz2 | apply zz0 | apply zz1 | refine zz3 ?_ GE315.out)));have n3_:=Aside0.mk (zz11 (g:=gb315) (o:=.cells #[.int .i64 0,.slice none 0 0] 29 (0,0)) (by (with_reducible repeat (first | refine zz6 ?_ _ | refine zz7 ?_ | refine zz8 ?_ _));exact BK315.out) hb);have n4_:=Aside0.mk (zz4 (by repeat first | exact HB.out | apply zz2 | apply zz0 | apply zz1 | refine zz3 ?_ GE315.out) hb);clear HO_3;clear HO322;clear BK315;clear HB;have HO_3:=n0_;have HO322:=n1_;have HO325:=n2_;have BK315:=n3_;have HB:=n4_;clear n0_ n1_ n2_ n3_ n4_;(try clear hb);(try clear hb2);(try clear hk);(try clear hi);(try clear ho0);obtain ⟨Ao15,co15,eo15⟩:=Kd.R_slice HO325.out;subst eo15) | ((with_reducible refine gate_builtin (b:=.append) (xs:=#[.tmp 17,.tmp 21]) rfl ?_);at_builtin;refine Kd.R_append_rows (Kd.int .i64) (w0:=w) w.heap.size rfl (.tmp 17) (.tmp 21) 45 3 (.int .i64 0) 8 rfl Try.underlying45 info3 rfl (by decide) (by omega) u3 x3_1 t323 _ _ _ (fun k_=>some k_ ≠ (.slice Ao12 y320.length co12:Value).ownBlock∧some k_ ≠ (.slice Ao15 t323.length co15:Value).ownBlock) (fun _=>False) rfl rfl ?aO ?aR (fun _ _ h=>h) (fun _ h=>h.elim) ?aF ?aB ?aS ?aL ?_;(case aR=>repeat (first | exact (Kd.R_reads' HO325.out).2.2 | (with_reducible refine zz18 ?_ _) | (with_reducible refine zz19 ?_ _) | (with_reducible refine zz20 ?_)));(case aB=>exact (by repeat first | exact HB.out | apply zz2 | apply zz0 | apply zz1 | refine zz3 ?_ GE315.out));(case aF=>exact (fun k_ hk=>⟨Kd.fresh' (Kd.R_lt (by (with_reducible repeat (first | apply zz12 | apply zz13 | apply zz14));exact HO322.out)) k_ hk,Kd.fresh' (Kd.R_lt (by (with_reducible repeat (first | apply zz12 | apply zz13 | apply zz14));exact HO325.out)) k_ hk⟩));(case aO=>exact (by (with_reducible repeat (first | apply zz12 | apply zz13 | apply zz14));exact Kd.R_mono HO_3.out (fun _ hk=>⟨hk.1.2,hk.2⟩)));(case aS=>exact (zz5 (by repeat first | exact HB.out | apply zz2 | apply zz0 | apply zz1 | refine zz3 ?_ GE315.out)));(case aL=>have:=LMc9.out;omega);intro v327 w14 ho hb hg hat;rw [← Ny326.out] at ho;have n0_:=Aside0.mk (blk_grown (g:=gb315) (o:=.cells #[.int .i64 0,.slice none 0 0] 29 (0,0)) (by (with_reducible repeat (first | refine zz6 ?_ _ | refine zz7 ?_ | refine zz8 ?_ _));exact BK315.out) hg (Kd.R_ne HO_3.out BK315.out (by decide)));have n1_:=Aside0.mk (Kd.R_after (ok:=(fun k_=>some k_ ≠ (.slice Ao15 t323.length co15:Value).ownBlock)) (by (with_reducible repeat (first | apply zz12 | apply zz13 | apply zz14));exact Kd.R_mono HO322.out (fun _ hk=>⟨hk.2,hk.1.2⟩)) hg hat);have n2_:=Aside0.mk (Kd.R_after (ok:=(fun k_=>some k_ ≠ (.slice Ao12 y320.length co12:Value).ownBlock)) (by (with_reducible repeat (first | apply zz12 | apply zz13 | apply zz14));exact Kd.R_mono HO325.out (fun _ hk=>⟨hk.2,hk.1.2⟩)) hg hat);have n3_:=Aside0.mk (hb);have n4_:=Aside0.mk (ho);clear BK315;clear HO322;clear HO325;clear HB;clear HO_3;have BK315:=n0_;have HO322:=n1_;have HO325:=n2_;have HB:=n3_;have HO328:=n4_;clear n0_ n1_ n2_ n3_ n4_;clear ho hb hg hat)))
       go_roundg k1
       case measure=>have:=HK1.out;omega
       case rel=>exact ⟨(y326),(wrap64 (x12_1+1)),(by first | rfl | (simp;done) | (simp [*];done)),H',⟨by have:=HK1.out;omega⟩,⟨by (with_reducible repeat (first | apply zz12 | apply zz13 | apply zz14));exact Kd.R_mono HO328.out (fun _ hk=>trivial)⟩,⟨by (with_reducible repeat (first | refine zz6 ?_ _ | refine zz7 ?_ | refine zz8 ?_ _));exact BK315.out⟩,⟨by repeat first | exact HB.out | apply zz2 | apply zz0 | apply zz1 | refine zz3 ?_ GE315.out⟩⟩
      ·rw [if_neg c9] at H
       exact absurd H (by simp)
     ·rw [if_neg c7] at H
      exact absurd H (by simp)
    ·rw [if_neg c6] at H
     exact absurd H (by simp)
   ·rw [if_neg c5] at H
    have c5b0:decide (x12_1 < (l0.length:Int))=false:=decide_eq_false c5
    clear c5
    by_cases c16:0≤(x3_1.length:Int)
    ·rw [if_pos c16] at H
     have c16b0:=eq_true c16
     have c16b1:decide (0≤(x3_1.length:Int))=true:=decide_eq_true c16
     clear c16
     by_cases c17:((x3_1.length:Int):Int).toNat≤140737488355328
     ·rw [if_pos c17] at H
      have c17b0:=eq_true c17
      have c17b1:decide (((x3_1.length:Int):Int).toNat≤140737488355328)=true:=decide_eq_true c17
      clear c17
      obtain ⟨y329,hy329⟩:∃ y_:List Int,y_=(List.replicate ((x3_1.length:Int):Int).toNat 0):=⟨_,rfl⟩
      replace H:(impl_partsParty.l1 k1 x3_1 y329 (x3_1.length:Int) 0)=some (r1,r2):=by first | (rw [hy329];with_reducible exact H) | (have H2_:=(Option.bind_some _ _).symm.trans H;rw [hy329];with_reducible exact H2_) | (have H2_:=(Option.bind_some _ _).symm.trans H;with_reducible exact H2_) | with_reducible exact H | (rw [hy329];exact H) | exact H
      have Ny329:=Aside0.mk hy329
      clear hy329
      have H':=Aside0.mk H
      clear H
      obtain ⟨Ao18,co18,eo18⟩:=Kd.R_slice HO_3.out
      subst eo18
      go_wp2_with (first | ((with_reducible refine gate_dst (N:=26) rfl ?_);refine Kd.R_make (Kd.int .u16) _ 91 rfl (N:=26) rfl 66 _ _ rfl (x3_1.length:Int) rfl rfl Try.underlying66 (.int .u16 0) 2 info91 rfl (by decide) (by omega) 0 (ok:=fun _=>True) (okp:=fun _=>True) rfl (fun _ hk=>hk) trivial (zz29 (by first | (with_reducible assumption) | assumption)) (Nat.le_trans (Nat.mul_le_mul_right _ (zz29 (by first | (with_reducible assumption) | assumption):(x3_1.length:Int).toNat≤140737488355328)) (by omega)) (Below.refl _ _) (Nat.le_refl _) ?_;intro v330 w19 ho20 hb hg_ hnew_;clear hg_ hnew_;(first | rw [← Ny329.out] at ho20 | (simp only [Int.reduceToNat] at ho20;rw [← Ny329.out] at ho20));have n0_:=Aside0.mk (Kd.R_below (by (with_reducible repeat (first | apply zz12 | apply zz13 | apply zz14));exact HO_3.out) hb);have n1_:=Aside0.mk (Kd.R_lower ho20 (zz5 (by repeat first | exact HB.out | apply zz2 | apply zz0 | apply zz1 | refine zz3 ?_ GE315.out)));have n2_:=Aside0.mk (zz11 (g:=gb315) (o:=.cells #[.int .i64 0,.slice none 0 0] 29 (0,0)) (by (with_reducible repeat (first | refine zz6 ?_ _ | refine zz7 ?_ | refine zz8 ?_ _));exact BK315.out) hb);have n3_:=Aside0.mk (zz4 (by repeat first | exact HB.out | apply zz2 | apply zz0 | apply zz1 | refine zz3 ?_ GE315.out) hb);clear HO_3;clear BK315;clear HB;have HO_3:=n0_;have HO331:=n1_;have BK315:=n2_;have HB:=n3_;clear n0_ n1_ n2_ n3_;clear hb ho20))
      repeat (go_quiet (first | ((with_reducible refine gate_dst (N:=26) rfl ?_);refine Kd.R_make (Kd.int .u16) _ 91 rfl (N:=26) rfl 66 _ _ rfl (x3_1.length:Int) rfl rfl Try.underlying66 (.int .u16 0) 2 info91 rfl (by decide) (by omega) 0 (ok:=fun _=>True) (okp:=fun _=>True) rfl (fun _ hk=>hk) trivial (zz29 (by first | (with_reducible assumption) | assumption)) (Nat.le_trans (Nat.mul_le_mul_right _ (zz29 (by first | (with_reducible assumption) | assumption):(x3_1.length:Int).toNat≤140737488355328)) (by omega)) (Below.refl _ _) (Nat.le_refl _) ?_;intro v330 w19 ho20 hb hg_ hnew_;clear hg_ hnew_;(first | rw [← Ny329.out] at ho20 | (simp only [Int.reduceToNat] at ho20;rw [← Ny329.out] at ho20));have n0_:=Aside0.mk (Kd.R_below (by (with_reducible repeat (first | apply zz12 | apply zz13 | apply zz14));exact HO_3.out) hb);have n1_:=Aside0.mk (Kd.R_lower ho20 (zz5 (by repeat first | exact HB.out | apply zz2 | apply zz0 | apply zz1 | refine zz3 ?_ GE315.out)));have n2_:=Aside0.mk (zz11 (g:=gb315) (o:=.cells #[.int .i64 0,.slice none 0 0] 29 (0,0)) (by (with_reducible repeat (first | refine zz6 ?_ _ | refine zz7 ?_ | refine zz8 ?_ _));exact BK315.out) hb);have n3_:=Aside0.mk (zz4 (by repeat first | exact HB.out | apply zz2 | apply zz0 | apply zz1 | refine zz3 ?_ GE315.out) hb);clear HO_3;clear BK315;clear HB;have HO_3:=n0_;have HO331:=n1_;have BK315:=n2_;have HB:=n3_;clear n0_ n1_ n2_ n3_;clear hb ho20));try go_wp2_with (first | ((with_reducible refine gate_dst (N:=26) rfl ?_);refine Kd.R_make (Kd.int .u16) _ 91 rfl (N:=26) rfl 66 _ _ rfl (x3_1.length:Int) rfl rfl Try.underlying66 (.int .u16 0) 2 info91 rfl (by decide) (by omega) 0 (ok:=fun _=>True) (okp:=fun _=>True) rfl (fun _ hk=>hk) trivial (zz29 (by first | (with_reducible assumption) | assumption)) (Nat.le_trans (Nat.mul_le_mul_right _ (zz29 (by first | (with_reducible assumption) | assumption):(x3_1.length:Int).toNat≤140737488355328)) (by omega)) (Below.refl _ _) (Nat.le_refl _) ?_;intro v330 w19 ho20 hb hg_ hnew_;clear hg_ hnew_;(first | rw [← Ny329.out] at ho20 | (simp only [Int.reduceToNat] at ho20;rw [← Ny329.out] at ho20));have n0_:=Aside0.mk (Kd.R_below (by (with_reducible repeat (first | apply zz12 | apply zz13 | apply zz14));exact HO_3.out) hb);have n1_:=Aside0.mk (Kd.R_lower ho20 (zz5 (by repeat first | exact HB.out | apply zz2 | apply zz0 | apply zz1 | refine zz3 ?_ GE315.out)));have n2_:=Aside0.mk (zz11 (g:=gb315) (o:=.cells #[.int .i64 0,.slice none 0 0] 29 (0,0)) (by (with_reducible repeat (first | refine zz6 ?_ _ | refine zz7 ?_ | refine zz8 ?_ _));exact BK315.out) hb);have n3_:=Aside0.mk (zz4 (by repeat first | exact HB.out | apply zz2 | apply zz0 | apply zz1 | refine zz3 ?_ GE315.out) hb);clear HO_3;clear BK315;clear HB;have HO_3:=n0_;have HO331:=n1_;have BK315:=n2_;have HB:=n3_;clear n0_ n1_ n2_ n3_;clear hb ho20)))
      go_loopg [29] k1 (fun kq v29 w'=>∃ (x6_2:List Int) (x29_2:Int),v29=.int .i64 x29_2∧Aside0 (impl_partsParty.l1 kq x3_1 x6_2 (x3_1.length:Int) x29_2=some (r1,r2))∧Aside0 (kq≤k1)∧Aside0 (Kd.R (Kd.int .i64) 3 w' w.heap.size (fun _=>True) (.slice Ao18 x3_1.length co18) x3_1)∧Aside0 (Kd.R (Kd.int .u16) 91 w' w.heap.size (fun _=>True) v330 x6_2)∧Aside0 (w'.heap[gb315]?=some (.cells #[.int .i64 0,(.slice none 0 0)] 29 (0,0)))∧Aside0 (Below w.heap.size w w'))
      case atStart=>exact ⟨(y329),(0),(by first | rfl | (simp;done) | (simp [*];done)),H',⟨Nat.le_refl _⟩,⟨by (with_reducible repeat (first | apply zz12 | apply zz13 | apply zz14));exact HO_3.out⟩,⟨by (with_reducible repeat (first | apply zz12 | apply zz13 | apply zz14));exact HO331.out⟩,⟨by (with_reducible repeat (first | refine zz6 ?_ _ | refine zz7 ?_ | refine zz8 ?_ _));exact BK315.out⟩,⟨by repeat first | exact HB.out | apply zz2 | apply zz0 | apply zz1 | refine zz3 ?_ GE315.out⟩⟩
      case round =>
       clear H'
       try clear c1
       try clear p2
       try clear p3
       try clear q3
       try clear hx3
       try clear c5
       try clear c5b0
       try clear c6
       try clear c6b0
       try clear p6
       try clear c7
       try clear c7b0
       try clear c8
       try clear c9
       try clear c16
       try clear c16b0
       try clear c16b1
       try clear c17
       try clear c17b0
       try clear c17b1
       try clear hx319_0
       try clear p2
       try clear p319
       try clear q319
       obtain ⟨x6_2,x29_2,rfl,HA,HK2,HO_3,HO_6,BK315,HB⟩:=hrel
       cases gk with
       | zero=>exact absurd HA.out (by simp [impl_partsParty.l1])
       | succ k2 =>
        have H:=HA.out
        clear HA
        simp only [impl_partsParty.l1] at H
        by_cases c21:x29_2 < (x3_1.length:Int)
        ·rw [if_pos c21] at H
         have c21b0:decide (x29_2 < (x3_1.length:Int))=true:=decide_eq_true c21
         clear c21
         have H':=Aside0.mk H
         clear H
         go_wp2
         repeat (go_quiet (fail);try go_wp2)
         go_loopg [33] k2 (fun kq v33 w'=>∃ (x6_3:List Int) (x33_3:Int),v33=.int .i64 x33_3∧Aside0 (impl_partsParty.l2 kq x3_1 x6_3 x29_2 (x3_1.length:Int) x29_2 x29_2 x33_3=some (r1,r2))∧Aside0 (kq≤k2)∧Aside0 (Kd.R (Kd.int .i64) 3 w' w.heap.size (fun _=>True) (.slice Ao18 x3_1.length co18) x3_1)∧Aside0 (Kd.R (Kd.int .u16) 91 w' w.heap.size (fun _=>True) v330 x6_3)∧Aside0 (w'.heap[gb315]?=some (.cells #[.int .i64 0,(.slice none 0 0)] 29 (0,0)))∧Aside0 (Below w.heap.size w w'))
         case atStart=>exact ⟨(x6_2),(0),(by first | rfl | (simp;done) | (simp [*];done)),H',⟨Nat.le_refl _⟩,⟨by (with_reducible repeat (first | apply zz12 | apply zz13 | apply zz14));exact HO_3.out⟩,⟨by (with_reducible repeat (first | apply zz12 | apply zz13 | apply zz14));exact HO_6.out⟩,⟨by (with_reducible repeat (first | refine zz6 ?_ _ | refine zz7 ?_ | refine zz8 ?_ _));exact BK315.out⟩,⟨by repeat first | exact HB.out | apply zz2 | apply zz0 | apply zz1 | refine zz3 ?_ GE315.out⟩⟩
         case round =>
          clear H'
          try clear c1
          try clear c2
          try clear p2
          try clear p3
          try clear q3
          try clear hx3
          try clear c5
          try clear c5b0
          try clear c6
          try clear c6b0
          try clear p6
          try clear c7
          try clear c7b0
          try clear c8
          try clear c9
          try clear c16
          try clear c16b0
          try clear c16b1
          try clear c17
          try clear c17b0
          try clear c17b1
          try clear c21
          try clear c21b0
          try clear hx319_0
          try clear p2
          try clear p3
          try clear p319
          try clear p6
          try clear q3
          try clear q319
          obtain ⟨x6_3,x33_3,rfl,HA,HK3,HO_3,HO_6,BK315,HB⟩:=hrel
          cases gk with
          | zero=>exact absurd HA.out (by simp [impl_partsParty.l2])
          | succ k3 =>
           have H:=HA.out
           clear HA
           simp only [impl_partsParty.l2] at H
           by_cases c22:x33_3 < x29_2
           ·rw [if_pos c22] at H
            have c22b0:decide (x33_3 < x29_2)=true:=decide_eq_true c22
            clear c22
            by_cases c23:0≤x29_2
            ·rw [if_pos c23] at H
             have c23b0:decide (0≤x29_2)=true:=decide_eq_true c23
             clear c23
             by_cases c24:x29_2 < (x3_1.length:Int)
             ·rw [if_pos c24] at H
              have c24b0:decide (x29_2 < (x3_1.length:Int))=true:=decide_eq_true c24
              clear c24
              by_cases c25:0≤x33_3
              ·rw [if_pos c25] at H
               have c25b0:decide (0≤x33_3)=true:=decide_eq_true c25
               clear c25
               by_cases c26:x33_3 < (x3_1.length:Int)
               ·rw [if_pos c26] at H
                have c26b0:decide (x33_3 < (x3_1.length:Int))=true:=decide_eq_true c26
                clear c26
                by_cases c27:(rd x3_1 x29_2)=(rd x3_1 x33_3)
                ·rw [if_pos c27] at H
                 have c27b0:((rd x3_1 x29_2) == (rd x3_1 x33_3))=true:=beq_iff_eq.mpr c27
                 have c27b1:((rd x3_1 x29_2) != (rd x3_1 x33_3))=false:=bne_eq_false_iff_eq.mpr c27
                 clear c27
                 have H':=Aside0.mk H
                 clear H
                 have p336:0≤(x29_2:Int):=zz29 (by first | (with_reducible assumption) | assumption)
                 have q336:x29_2 < (x3_1.length:Int):=zz29 (by first | (with_reducible assumption) | assumption)
                 obtain ⟨ad336,e336,hx336_0⟩:=Kd.at_int (Kd.R_reads' HO_3.out).2.2 x29_2 p336 q336
                 cases e336
                 replace p336:=eq_true p336
                 replace q336:=eq_true q336
                 have p337:0≤(x33_3:Int):=zz29 (by first | (with_reducible assumption) | assumption)
                 have q337:x33_3 < (x3_1.length:Int):=zz29 (by first | (with_reducible assumption) | assumption)
                 obtain ⟨ad337,e337,hx337_0⟩:=Kd.at_int (Kd.R_reads' HO_3.out).2.2 x33_3 p337 q337
                 obtain rfl:ad336=ad337:=(by injection e337)
                 replace p337:=eq_true p337
                 replace q337:=eq_true q337
                 go_wp2
                 repeat (go_quiet (fail);try go_wp2)
                 go_roundg k3
                 case measure=>have:=HK1.out;have:=HK2.out;have:=HK3.out;omega
                 case rel=>exact ⟨(x6_3),(wrap64 (x33_3+1)),(by first | rfl | (simp;done) | (simp [*];done)),H',⟨by have:=HK1.out;have:=HK2.out;have:=HK3.out;omega⟩,⟨by (with_reducible repeat (first | apply zz12 | apply zz13 | apply zz14));exact HO_3.out⟩,⟨by (with_reducible repeat (first | apply zz12 | apply zz13 | apply zz14));exact HO_6.out⟩,⟨by (with_reducible repeat (first | refine zz6 ?_ _ | refine zz7 ?_ | refine zz8 ?_ _));exact BK315.out⟩,⟨by repeat first | exact HB.out | apply zz2 | apply zz0 | apply zz1 | refine zz3 ?_ GE315.out⟩⟩
                ·rw [if_neg c27] at H
                 have c27b0:((rd x3_1 x29_2) == (rd x3_1 x33_3))=false:=beq_eq_false_iff_ne.mpr c27
                 have c27b1:((rd x3_1 x29_2) != (rd x3_1 x33_3))=true:=bne_iff_ne.mpr c27
                 replace H:=zz30.mp H
                 obtain ⟨t338,A280,H⟩:=H
                 replace H:(impl_partsParty.l2 k3 x3_1 t338 x29_2 (x3_1.length:Int) x29_2 x29_2 (wrap64 (x33_3+1)))=some (r1,r2):=H
                 have A28:=Aside0.mk A280
                 clear A280
                 have H':=Aside0.mk H
                 clear H
                 have p336:0≤(x29_2:Int):=zz29 (by first | (with_reducible assumption) | assumption)
                 have q336:x29_2 < (x3_1.length:Int):=zz29 (by first | (with_reducible assumption) | assumption)
                 obtain ⟨ad336,e336,hx336_0⟩:=Kd.at_int (Kd.R_reads' HO_3.out).2.2 x29_2 p336 q336
                 cases e336
                 replace p336:=eq_true p336
                 replace q336:=eq_true q336
                 have p337:0≤(x33_3:Int):=zz29 (by first | (with_reducible assumption) | assumption)
                 have q337:x33_3 < (x3_1.length:Int):=zz29 (by first | (with_reducible assumption) | assumption)
                 obtain ⟨ad337,e337,hx337_0⟩:=Kd.at_int (Kd.R_reads' HO_3.out).2.2 x33_3 p337 q337
                 obtain rfl:ad336=ad337:=(by injection e337)
                 replace p337:=eq_true p337
                 replace q337:=eq_true q337
                 obtain ⟨Ao29,co29,eo29⟩:=Kd.R_slice HO_6.out
                 subst eo29
                 go_wp2_with (first | (go_at_call 96;(with_reducible refine (impl_table_put.calls (fun k_=>some k_=(.slice Ao29 x6_3.length co29:Value).ownBlock) (.slice Ao29 x6_3.length co29) x6_3 x29_2 x33_3 t338 w _ ?side1 ?side2 A28.out).mono ?_);(case side1=>repeat first | exact HB.out | apply zz2 | apply zz0 | apply zz1 | refine zz3 ?_ GE315.out);(case side2=>exact Kd.R_tight rfl HO_6.out);rintro e w30 ⟨rfl,hy0,hb,hkp⟩;have n0_:=Aside0.mk (Kd.R_mono (ok':=fun k_=>True) (Kd.R_keptB ((Kd.R_apart' HO_3.out (Kd.R_typed HO_6.out) (by decide))) hkp (fun k_ hk_ hs_=>(hk_.2) hs_)) (fun k_ hk_=>trivial));have n1_:=Aside0.mk (Kd.R_reok rfl hy0 (fun k_ e_=>HO_6.out.1 k_ e_));have n2_:=Aside0.mk (blk_kept (by (with_reducible repeat (first | refine zz6 ?_ _ | refine zz7 ?_ | refine zz8 ?_ _));exact BK315.out) hkp (fun hs_=>(fun e_=>(Kd.R_ne HO_6.out BK315.out (by decide)) e_) hs_));have n3_:=Aside0.mk (hb);clear HO_3;clear HO_6;clear BK315;clear HB;have HO_3:=n0_;have HO_6:=n1_;have BK315:=n2_;have HB:=n3_;clear n0_ n1_ n2_ n3_;(try clear hb);(try clear hkp);(try clear hy0)))
                 repeat (go_quiet (first | (go_at_call 96;(with_reducible refine (impl_table_put.calls (fun k_=>some k_=(.slice Ao29 x6_3.length co29:Value).ownBlock) (.slice Ao29 x6_3.length co29) x6_3 x29_2 x33_3 t338 w _ ?side1 ?side2 A28.out).mono ?_);(case side1=>repeat first | exact HB.out | apply zz2 | apply zz0 | apply zz1 | refine zz3 ?_ GE315.out);(case side2=>exact Kd.R_tight rfl HO_6.out);rintro e w30 ⟨rfl,hy0,hb,hkp⟩;have n0_:=Aside0.mk (Kd.R_mono (ok':=fun k_=>True) (Kd.R_keptB ((Kd.R_apart' HO_3.out (Kd.R_typed HO_6.out) (by decide))) hkp (fun k_ hk_ hs_=>(hk_.2) hs_)) (fun k_ hk_=>trivial));have n1_:=Aside0.mk (Kd.R_reok rfl hy0 (fun k_ e_=>HO_6.out.1 k_ e_));have n2_:=Aside0.mk (blk_kept (by (with_reducible repeat (first | refine zz6 ?_ _ | refine zz7 ?_ | refine zz8 ?_ _));exact BK315.out) hkp (fun hs_=>(fun e_=>(Kd.R_ne HO_6.out BK315.out (by decide)) e_) hs_));have n3_:=Aside0.mk (hb);clear HO_3;clear HO_6;clear BK315;clear HB;have HO_3:=n0_;have HO_6:=n1_;have BK315:=n2_;have HB:=n3_;clear n0_ n1_ n2_ n3_;(try clear hb);(try clear hkp);(try clear hy0)));try go_wp2_with (first | (go_at_call 96;(with_reducible refine (impl_table_put.calls (fun k_=>some k_=(.slice Ao29 x6_3.length co29:Value).ownBlock) (.slice Ao29 x6_3.length co29) x6_3 x29_2 x33_3 t338 w _ ?side1 ?side2 A28.out).mono ?_);(case side1=>repeat first | exact HB.out | apply zz2 | apply zz0 | apply zz1 | refine zz3 ?_ GE315.out);(case side2=>exact Kd.R_tight rfl HO_6.out);rintro e w30 ⟨rfl,hy0,hb,hkp⟩;have n0_:=Aside0.mk (Kd.R_mono (ok':=fun k_=>True) (Kd.R_keptB ((Kd.R_apart' HO_3.out (Kd.R_typed HO_6.out) (by decide))) hkp (fun k_ hk_ hs_=>(hk_.2) hs_)) (fun k_ hk_=>trivial));have n1_:=Aside0.mk (Kd.R_reok rfl hy0 (fun k_ e_=>HO_6.out.1 k_ e_));have n2_:=Aside0.mk (blk_kept (by (with_reducible repeat (first | refine zz6 ?_ _ | refine zz7 ?_ | refine zz8 ?_ _));exact BK315.out) hkp (fun hs_=>(fun e_=>(Kd.R_ne HO_6.out BK315.out (by decide)) e_) hs_));have n3_:=Aside0.mk (hb);clear HO_3;clear HO_6;clear BK315;clear HB;have HO_3:=n0_;have HO_6:=n1_;have BK315:=n2_;have HB:=n3_;clear n0_ n1_ n2_ n3_;(try clear hb);(try clear hkp);(try clear hy0))))
                 go_roundg k3
                 case measure=>have:=HK1.out;have:=HK2.out;have:=HK3.out;omega
                 case rel=>exact ⟨(t338),(wrap64 (x33_3+1)),(by first | rfl | (simp;done) | (simp [*];done)),H',⟨by have:=HK1.out;have:=HK2.out;have:=HK3.out;omega⟩,⟨by (with_reducible repeat (first | apply zz12 | apply zz13 | apply zz14));exact HO_3.out⟩,⟨by (with_reducible repeat (first | apply zz12 | apply zz13 | apply zz14));exact HO_6.out⟩,⟨by (with_reducible repeat (first | refine zz6 ?_ _ | refine zz7 ?_ | refine zz8 ?_ _));exact BK315.out⟩,⟨by repeat first | exact HB.out | apply zz2 | apply zz0 | apply zz1 | refine zz3 ?_ GE315.out⟩⟩
               ·rw [if_neg c26] at H
                exact absurd H (by simp)
              ·rw [if_neg c25] at H
               exact absurd H (by simp)
             ·rw [if_neg c24] at H
              exact absurd H (by simp)
            ·rw [if_neg c23] at H
             exact absurd H (by simp)
           ·rw [if_neg c22] at H
            have c22b0:decide (x33_3 < x29_2)=false:=decide_eq_false c22
            clear c22
            have H':=Aside0.mk H
            clear H
            go_wp2
            repeat (go_quiet (fail);try go_wp2)
            go_roundg k3
            case measure=>have:=HK1.out;have:=HK2.out;have:=HK3.out;omega
            case rel=>exact ⟨(x6_3),(wrap64 (x29_2+1)),(by first | rfl | (simp;done) | (simp [*];done)),H',⟨by have:=HK1.out;have:=HK2.out;have:=HK3.out;omega⟩,⟨by (with_reducible repeat (first | apply zz12 | apply zz13 | apply zz14));exact HO_3.out⟩,⟨by (with_reducible repeat (first | apply zz12 | apply zz13 | apply zz14));exact HO_6.out⟩,⟨by (with_reducible repeat (first | refine zz6 ?_ _ | refine zz7 ?_ | refine zz8 ?_ _));exact BK315.out⟩,⟨by repeat first | exact HB.out | apply zz2 | apply zz0 | apply zz1 | refine zz3 ?_ GE315.out⟩⟩
        ·rw [if_neg c21] at H
         have c21b0:decide (x29_2 < (x3_1.length:Int))=false:=decide_eq_false c21
         clear c21
         replace H:=zz30.mp H
         obtain ⟨⟨t332,t333⟩,A310,H⟩:=H
         replace H:(some (t332,t333))=some (r1,r2):=H
         have A31:=Aside0.mk A310
         clear A310
         simp only [Option.some.injEq,Prod.mk.injEq] at H
         obtain ⟨rfl,rfl⟩:=H
         obtain ⟨Ao32,co32,eo32⟩:=Kd.R_slice HO_6.out
         subst eo32
         go_wp2_with (first | (go_at_call 57;(with_reducible refine (impl_table_party.calls k2 _ _ x6_2 t332 t333 _ ?side1 ?side2 A31.out).mono ?_);(case side1=>repeat (first | exact (Kd.R_reads' HO_6.out).2.2 | (with_reducible refine zz18 ?_ _) | (with_reducible refine zz19 ?_ _) | (with_reducible refine zz20 ?_)));(case side2=>exact (Kd.R_reads' HO_6.out).2.1);rintro e w33 ⟨v334,rfl,ho0,hb⟩;have n0_:=Aside0.mk (Kd.R_below (by (with_reducible repeat (first | apply zz12 | apply zz13 | apply zz14));exact HO_3.out) hb);have n1_:=Aside0.mk (Kd.R_below (by (with_reducible repeat (first | apply zz12 | apply zz13 | apply zz14));exact HO_6.out) hb);have n2_:=Aside0.mk (Kd.R_lower ho0 (zz5 (by repeat first | exact HB.out | apply zz2 | apply zz0 | apply zz1 | refine zz3 ?_ GE315.out)));have n3_:=Aside0.mk (zz11 (g:=gb315) (o:=.cells #[.int .i64 0,.slice none 0 0] 29 (0,0)) (by (with_reducible repeat (first | refine zz6 ?_ _ | refine zz7 ?_ | refine zz8 ?_ _));exact BK315.out) hb);have n4_:=Aside0.mk (zz4 (by repeat first | exact HB.out | apply zz2 | apply zz0 | apply zz1 | refine zz3 ?_ GE315.out) hb);clear HO_3;clear HO_6;clear BK315;clear HB;have HO_3:=n0_;have HO_6:=n1_;have HO335:=n2_;have BK315:=n3_;have HB:=n4_;clear n0_ n1_ n2_ n3_ n4_;(try clear hb);(try clear hb2);(try clear hk);(try clear hi);(try clear ho0);have hcz34_0:w33.cell? ⟨gb315,0,none⟩=some (.int .i64 0):=(zz9 BK315.out 0).trans rfl;have hcz34_1:w33.cell? ⟨gb315,1,none⟩=some (.slice none 0 0):=(zz9 BK315.out 1).trans rfl;have hfz34_0:=zz10 BK315.out 0;have hfz34_1:=zz10 BK315.out 1;obtain ⟨Ao35,co35,eo35⟩:=Kd.R_slice HO335.out;subst eo35))
         repeat (go_quiet (first | (go_at_call 57;(with_reducible refine (impl_table_party.calls k2 _ _ x6_2 t332 t333 _ ?side1 ?side2 A31.out).mono ?_);(case side1=>repeat (first | exact (Kd.R_reads' HO_6.out).2.2 | (with_reducible refine zz18 ?_ _) | (with_reducible refine zz19 ?_ _) | (with_reducible refine zz20 ?_)));(case side2=>exact (Kd.R_reads' HO_6.out).2.1);rintro e w33 ⟨v334,rfl,ho0,hb⟩;have n0_:=Aside0.mk (Kd.R_below (by (with_reducible repeat (first | apply zz12 | apply zz13 | apply zz14));exact HO_3.out) hb);have n1_:=Aside0.mk (Kd.R_below (by (with_reducible repeat (first | apply zz12 | apply zz13 | apply zz14));exact HO_6.out) hb);have n2_:=Aside0.mk (Kd.R_lower ho0 (zz5 (by repeat first | exact HB.out | apply zz2 | apply zz0 | apply zz1 | refine zz3 ?_ GE315.out)));have n3_:=Aside0.mk (zz11 (g:=gb315) (o:=.cells #[.int .i64 0,.slice none 0 0] 29 (0,0)) (by (with_reducible repeat (first | refine zz6 ?_ _ | refine zz7 ?_ | refine zz8 ?_ _));exact BK315.out) hb);have n4_:=Aside0.mk (zz4 (by repeat first | exact HB.out | apply zz2 | apply zz0 | apply zz1 | refine zz3 ?_ GE315.out) hb);clear HO_3;clear HO_6;clear BK315;clear HB;have HO_3:=n0_;have HO_6:=n1_;have HO335:=n2_;have BK315:=n3_;have HB:=n4_;clear n0_ n1_ n2_ n3_ n4_;(try clear hb);(try clear hb2);(try clear hk);(try clear hi);(try clear ho0);have hcz34_0:w33.cell? ⟨gb315,0,none⟩=some (.int .i64 0):=(zz9 BK315.out 0).trans rfl;have hcz34_1:w33.cell? ⟨gb315,1,none⟩=some (.slice none 0 0):=(zz9 BK315.out 1).trans rfl;have hfz34_0:=zz10 BK315.out 0;have hfz34_1:=zz10 BK315.out 1;obtain ⟨Ao35,co35,eo35⟩:=Kd.R_slice HO335.out;subst eo35));try go_wp2_with (first | (go_at_call 57;(with_reducible refine (impl_table_party.calls k2 _ _ x6_2 t332 t333 _ ?side1 ?side2 A31.out).mono ?_);(case side1=>repeat (first | exact (Kd.R_reads' HO_6.out).2.2 | (with_reducible refine zz18 ?_ _) | (with_reducible refine zz19 ?_ _) | (with_reducible refine zz20 ?_)));(case side2=>exact (Kd.R_reads' HO_6.out).2.1);rintro e w33 ⟨v334,rfl,ho0,hb⟩;have n0_:=Aside0.mk (Kd.R_below (by (with_reducible repeat (first | apply zz12 | apply zz13 | apply zz14));exact HO_3.out) hb);have n1_:=Aside0.mk (Kd.R_below (by (with_reducible repeat (first | apply zz12 | apply zz13 | apply zz14));exact HO_6.out) hb);have n2_:=Aside0.mk (Kd.R_lower ho0 (zz5 (by repeat first | exact HB.out | apply zz2 | apply zz0 | apply zz1 | refine zz3 ?_ GE315.out)));have n3_:=Aside0.mk (zz11 (g:=gb315) (o:=.cells #[.int .i64 0,.slice none 0 0] 29 (0,0)) (by (with_reducible repeat (first | refine zz6 ?_ _ | refine zz7 ?_ | refine zz8 ?_ _));exact BK315.out) hb);have n4_:=Aside0.mk (zz4 (by repeat first | exact HB.out | apply zz2 | apply zz0 | apply zz1 | refine zz3 ?_ GE315.out) hb);clear HO_3;clear HO_6;clear BK315;clear HB;have HO_3:=n0_;have HO_6:=n1_;have HO335:=n2_;have BK315:=n3_;have HB:=n4_;clear n0_ n1_ n2_ n3_ n4_;(try clear hb);(try clear hb2);(try clear hk);(try clear hi);(try clear ho0);have hcz34_0:w33.cell? ⟨gb315,0,none⟩=some (.int .i64 0):=(zz9 BK315.out 0).trans rfl;have hcz34_1:w33.cell? ⟨gb315,1,none⟩=some (.slice none 0 0):=(zz9 BK315.out 1).trans rfl;have hfz34_0:=zz10 BK315.out 0;have hfz34_1:=zz10 BK315.out 1;obtain ⟨Ao35,co35,eo35⟩:=Kd.R_slice HO335.out;subst eo35)))
         refine bodyPost_ret (results_cell_row rfl _ _ gb315 29 #[.int .i64 t332,.slice Ao35 t333.length co35] (0,0) _ rfl (by (with_reducible repeat (first | refine zz6 ?_ _ | refine zz7 ?_ | refine zz8 ?_ _));refine blk_put (cs:=#[.int .i64 t332,.slice none 0 0]) ?_ 1 _ rfl;(with_reducible repeat (first | refine zz6 ?_ _ | refine zz7 ?_ | refine zz8 ?_ _));refine blk_put (cs:=#[.int .i64 0,.slice none 0 0]) ?_ 0 _ rfl;(with_reducible repeat (first | refine zz6 ?_ _ | refine zz7 ?_ | refine zz8 ?_ _));exact BK315.out) Try.underlying29 rfl (by kernel_rfl)) rfl ?_
         exact ⟨_,by first | rfl | (simp [errW_none,errW_some] <;> rfl) | (simp [*,errW_none,errW_some] <;> rfl),by (with_reducible repeat (first | apply zz12 | apply zz13 | apply zz14));exact Kd.R_mono (Kd.R_far (p:=⟨gb315,1,none⟩) (Kd.R_far (p:=⟨gb315,0,none⟩) (Kd.R_types HO335.out BK315.out (by decide)) (fun _ hk=>hk.2) (.int .i64 t332)) (fun _ hk=>hk.2) (.slice Ao35 t333.length co35)) (fun _ hk=>trivial),by repeat first | exact HB.out | apply zz2 | apply zz0 | apply zz1 | refine zz3 ?_ GE315.out⟩
     ·rw [if_neg c17] at H
      exact absurd H (by simp)
    ·rw [if_neg c16] at H
     exact absurd H (by simp)

end Go.Proofs.Ytiopgbpjkjnphaa.P
