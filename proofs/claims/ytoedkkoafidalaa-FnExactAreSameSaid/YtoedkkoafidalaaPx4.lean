-- PRINTED by print.py (a twelfth state) out of the translation. Not trusted: Lean checks it.
import Derived.Test.YtoedkkoafidalaaPx0
import Derived.Test.YtoedkkoafidalaaPx3
namespace Go.Proofs.Ytoedkkoafidalaa.P
open Go.RowKit Go.Proofs.YtoedkkoafidalaaW.PrintWords Go.Proofs.YtoedkkoafidalaaW.PrintLast Go.Proofs.YtoedkkoafidalaaW.PrintMore
open Bool renaming true → T, false → F
attribute [local go_sem] max2_int min2_int max_two min_two max_three min_three max_four min_four   -- for this text's walks alone
set_option linter.unusedVariables false
set_option linter.unusedSimpArgs false

/-! ### spec_paTable: function 43 -/
mutual
def spec_paTable.l0:Nat→List (List Bool)→Int→Int→List (S70)→Option ((List (List Bool)))
 | 0,_,_,_,_=>none
 | k+1,x3,x4,x159000,x159001=>if x4 < x159000 then (if 0≤x159000 then (if (x159000:Int).toNat≤281474976710656 then (if x3.length < 5864062014805 then (spec_paTable.l0 k (x3 ++ [(List.replicate (x159000:Int).toNat false)]) (wrap64 (x4+1)) x159000 x159001) else (none)) else (none)) else (none)) else (spec_paTable.l1 k x3 x159001 (x159001.length:Int) 0)
def spec_paTable.l1:Nat→List (List Bool)→List (S70)→Int→Int→Option ((List (List Bool)))
 | 0,_,_,_,_=>none
 | k+1,x3,x20,x21,x22=>if x22 < x21 then (if 0≤x22 then (if x22 < (x20.length:Int) then (if 0≤((rd_T70 x20 x22).f0) then (if ((rd_T70 x20 x22).f0) < (x3.length:Int) then (if 0≤((rd_T70 x20 x22).f1) then (if ((rd_T70 x20 x22).f1) < ((rd_L4 x3 ((rd_T70 x20 x22).f0)).length:Int) then ((some (x3.set (((rd_T70 x20 x22).f0):Int).toNat ((rd_L4 x3 ((rd_T70 x20 x22).f0)).set (((rd_T70 x20 x22).f1):Int).toNat true):List (List Bool))).bind fun y170=>(if ((rd_T70 x20 x22).f1) < (x3.length:Int) then (if ((rd_T70 x20 x22).f0) < ((rd_L4 y170 ((rd_T70 x20 x22).f1)).length:Int) then (spec_paTable.l1 k (y170.set (((rd_T70 x20 x22).f1):Int).toNat ((rd_L4 y170 ((rd_T70 x20 x22).f1)).set (((rd_T70 x20 x22).f0):Int).toNat true)) x20 x21 (wrap64 (x22+1))) else (none)) else (none))) else (none)) else (none)) else (none)) else (none)) else (none)) else (none)) else (some x3)
end
def spec_paTable.f (k:Nat) (a0_0:Int) (l0_1:List (S70)):Option ((List (List Bool))):=spec_paTable.l0 k ([]:List (List Bool)) 0 a0_0 l0_1
theorem spec_paTable.mono_l:∀ k,(∀ y0 y1 y2 y3,LeO (spec_paTable.l0 k y0 y1 y2 y3) (spec_paTable.l0 (k+1) y0 y1 y2 y3))∧(∀ y0 y1 y2 y3,LeO (spec_paTable.l1 k y0 y1 y2 y3) (spec_paTable.l1 (k+1) y0 y1 y2 y3))
 | 0=>⟨fun _ _ _ _ r h=>by simp [spec_paTable.l0] at h,fun _ _ _ _ r h=>by simp [spec_paTable.l1] at h⟩
 | k+1=>by
  obtain ⟨ih0,ih1⟩:=spec_paTable.mono_l k
  refine ⟨?_,?_⟩
  ·intro y0 y1 y2 y3
   unfold spec_paTable.l0
   repeat' first
   | (with_reducible exact ih0 _ _ _ _)
   | (with_reducible exact ih1 _ _ _ _)
   | (with_reducible exact LeO.refl _)
   | (with_reducible exact LeO.none _)
   | (with_reducible refine LeO.ite ?_ ?_)
   | (with_reducible refine LeO.bind ?_ (fun _=>?_))
   | exact ih0 _ _ _ _
   | exact ih1 _ _ _ _
   | exact LeO.none _
   | refine LeO.ite ?_ ?_
   | refine LeO.bind ?_ (fun _=>?_)
  ·intro y0 y1 y2 y3
   unfold spec_paTable.l1
   repeat' first
   | (with_reducible exact ih0 _ _ _ _)
   | (with_reducible exact ih1 _ _ _ _)
   | (with_reducible exact LeO.refl _)
   | (with_reducible exact LeO.none _)
   | (with_reducible refine LeO.ite ?_ ?_)
   | (with_reducible refine LeO.bind ?_ (fun _=>?_))
   | exact ih0 _ _ _ _
   | exact ih1 _ _ _ _
   | exact LeO.none _
   | refine LeO.ite ?_ ?_
   | refine LeO.bind ?_ (fun _=>?_)
theorem spec_paTable.mono:∀ a0 a1 k,LeO (spec_paTable.f k a0 a1) (spec_paTable.f (k+1) a0 a1):=by
 intro a0 a1 k
 obtain ⟨ih0,ih1⟩:=spec_paTable.mono_l k
 unfold spec_paTable.f
 repeat' first
   | (with_reducible exact ih0 _ _ _ _)
   | (with_reducible exact ih1 _ _ _ _)
   | (with_reducible exact LeO.refl _)
   | (with_reducible exact LeO.none _)
   | (with_reducible refine LeO.ite ?_ ?_)
   | (with_reducible refine LeO.bind ?_ (fun _=>?_))
   | exact ih0 _ _ _ _
   | exact ih1 _ _ _ _
   | exact LeO.none _
   | refine LeO.ite ?_ ?_
   | refine LeO.bind ?_ (fun _=>?_)
def spec_paTable.T9:Bool × List (List Nat × List Nat):=(true,[([],[]),([],[]),([1],[1]),([0,2],[0,2]),([3],[3]),([],[]),([5],[5]),([4,6,0,1,2,3,4,5,6],[4,6]),([7,0,1,2,3,4,5,6],[7])])
def spec_paTable.B9:List Nat:=[0,0,2,7,15,0,32,127,255]
theorem spec_paTable.tab9:rtab .any (opsOf Try.f43 9)=spec_paTable.T9:=by kernel_rfl
theorem spec_paTable.bits9:waitsOk spec_paTable.T9.2 spec_paTable.B9=true:=by kernel_rfl
def spec_paTable.T10:Bool × List (List Nat × List Nat):=(true,[([],[]),([],[]),([1],[1]),([0,2],[0,2]),([3],[3]),([],[]),([5],[5]),([4,6,0,1,2,3,4,5,6],[4,6]),([7,0,1,2,3,4,5,6],[7])])
def spec_paTable.B10:List Nat:=[0,0,2,7,15,0,32,127,255]
theorem spec_paTable.tab10:rtab .any (opsOf Try.f43 10)=spec_paTable.T10:=by kernel_rfl
theorem spec_paTable.bits10:waitsOk spec_paTable.T10.2 spec_paTable.B10=true:=by kernel_rfl
set_option maxHeartbeats 8000000 in
set_option maxRecDepth 100000 in
theorem spec_paTable.calls (k:Nat) (a0_0:Int) (A0_1:Option Addr) (c0_1:Nat) (l0_1:List (S70)) (r:List (List Bool)) (w:World) (hr0_1:Kd.C k70 w A0_1 l0_1.length l0_1) (hc0_1:l0_1.length≤c0_1) (h:spec_paTable.f k a0_0 l0_1=some r) :
  Calls Try.prog 43 #[.agg #[.int .i64 a0_0,.slice A0_1 l0_1.length c0_1]] w fun e w'=>∃ v0_:Value,e=.returned (v0_)∧Kd.S (Kd.slice 4 Kd.bool) 92 w' w.heap.size (fun _=>True) v0_ r∧Below w.heap.size w w':=by
 have hu30:=Try.underlying30
 have hu70:=Try.underlying70
 have HR0_1:=zz31 hr0_1
 have HC0_1:=zz31 hc0_1
 clear hr0_1 hc0_1
 have HB:=zz31 (Below.refl w.heap.size w)
 have H:(spec_paTable.l0 k ([]:List (List Bool)) 0 a0_0 l0_1)=some r:=h
 clear h
 have H':=zz31 H
 clear H
 go_enter Try.func43,Try.ntmps43
 go_wp2_with (first | ((with_reducible refine gate_dst (N:=1) rfl ?_);refine box_event ?hg (N:=1) ?hd (cs:=#[.int .i64 a0_0,.slice A0_1 l0_1.length c0_1]) (t:=30) ?hr ?_;(case hd=>rfl);(case hg=>rfl);(case hr=>first | (go_simp;done) | (go_simp;rfl));intro gb158 hg w2 hbox hb;have n0_:=zz31 (zz4 (by repeat first | exact HB.out | apply zz2 | apply zz0 | apply zz1) hb);have n1_:=zz31 (hbox);have n2_:=zz31 ((by rw [hg];exact (zz5 (by repeat first | exact HB.out | apply zz2 | apply zz0 | apply zz1)):w.heap.size≤gb158));have n3_:=zz31 ((by rw [hg];exact (zz5 (by repeat first | exact HB.out | apply zz2 | apply zz0 | apply zz1)):w.heap.size≤gb158));clear HB;have HB:=n0_;have BK158:=n1_;have GW158:=n2_;have GE158:=n3_;clear n0_ n1_ n2_ n3_;clear hb hbox hg))
 go_loopg [3,4] k (fun kq v3 v4 w'=>∃ (x3_1:List (List Bool)) (x4_1:Int),v4=.int .i64 x4_1∧Aside0 (spec_paTable.l0 kq x3_1 x4_1 a0_0 l0_1=some r)∧Aside0 (kq≤k)∧Aside0 (Kd.S (Kd.slice 4 Kd.bool) 92 w' w.heap.size (fun _=>True) v3 x3_1)∧Aside0 (w'.heap[gb158]?=some (.cells #[.int .i64 a0_0,(.slice A0_1 l0_1.length c0_1)] 30 (0,0)))∧Aside0 (Below w.heap.size w w'))
 case atStart=>exact ⟨(([]:List (List Bool))),(0),(by first | rfl | (simp;done) | (simp [*];done)),H',⟨Nat.le_refl _⟩,⟨by first | exact Kd.S_nil _ _ _ _ _ | exact Kd.N_nil _ _ _ _ _ | exact Kd.V_nil _ _ _ _ _ | exact Kd.Q_nil _ _ _ _ _ | exact Kd.R_nil _ _ _ _ _⟩,⟨by (with_reducible repeat (first | refine zz6 ?_ _ | refine zz7 ?_ | refine zz8 ?_ _));exact BK158.out⟩,⟨by repeat first | exact HB.out | apply zz2 | apply zz0 | apply zz1 | refine zz3 ?_ GE158.out⟩⟩
 case round =>
  clear H'
  try clear p2
  obtain ⟨x3_1,x4_1,rfl,HA,HK1,HO_3,BK158,HB⟩:=hrel
  cases gk with
  | zero=>exact absurd HA.out (by simp [spec_paTable.l0])
  | succ k1 =>
   have H:=HA.out
   clear HA
   simp only [spec_paTable.l0] at H
   by_cases c3:x4_1 < a0_0
   ·rw [if_pos c3] at H
    have c3b0:decide (x4_1 < a0_0)=true:=decide_eq_true c3
    clear c3
    by_cases c4:0≤a0_0
    ·rw [if_pos c4] at H
     have c4b0:=eq_true c4
     have c4b1:decide (0≤a0_0)=true:=decide_eq_true c4
     clear c4
     by_cases c5:(a0_0:Int).toNat≤281474976710656
     ·rw [if_pos c5] at H
      have c5b0:=eq_true c5
      have c5b1:decide ((a0_0:Int).toNat≤281474976710656)=true:=decide_eq_true c5
      clear c5
      obtain ⟨y159,hy159⟩:∃ y_:List Bool,y_=(List.replicate (a0_0:Int).toNat false):=⟨_,rfl⟩
      replace H:(if x3_1.length < 5864062014805 then (spec_paTable.l0 k1 (x3_1 ++ [y159]) (wrap64 (x4_1+1)) a0_0 l0_1) else (none))=some r:=by first | (rw [hy159];with_reducible exact H) | (have H2_:=(Option.bind_some _ _).symm.trans H;rw [hy159];with_reducible exact H2_) | (have H2_:=(Option.bind_some _ _).symm.trans H;with_reducible exact H2_) | with_reducible exact H | (rw [hy159];exact H) | exact H
      have Ny159:=zz31 hy159
      clear hy159
      by_cases c6:x3_1.length < 5864062014805
      ·rw [if_pos c6] at H
       have LMc6:=zz31 c6
       clear c6
       obtain ⟨y162,hy162⟩:∃ y_:List (List Bool),y_=(x3_1 ++ [y159]):=⟨_,rfl⟩
       replace H:(spec_paTable.l0 k1 y162 (wrap64 (x4_1+1)) a0_0 l0_1)=some r:=by first | (rw [hy162];with_reducible exact H) | (have H2_:=(Option.bind_some _ _).symm.trans H;rw [hy162];with_reducible exact H2_) | (have H2_:=(Option.bind_some _ _).symm.trans H;with_reducible exact H2_) | with_reducible exact H | (rw [hy162];exact H) | exact H
       have Ny162:=zz31 hy162
       clear hy162
       have H':=zz31 H
       clear H
       have hcz7_0:wr.cell? ⟨gb158,0,none⟩=some (.int .i64 a0_0):=(zz9 BK158.out 0).trans rfl
       have hcz7_1:wr.cell? ⟨gb158,1,none⟩=some (.slice A0_1 l0_1.length c0_1):=(zz9 BK158.out 1).trans rfl
       have hfz7_0:=zz10 BK158.out 0
       have hfz7_1:=zz10 BK158.out 1
       go_wp2_with (first | ((with_reducible refine gate_dst (N:=16) rfl ?_);refine Kd.R_make Kd.bool _ 4 rfl (N:=16) rfl 92 _ _ rfl a0_0 rfl rfl Try.underlying92 (.bool false) 1 info4 rfl (by decide) (by omega) false (ok:=fun _=>True) (okp:=fun _=>True) rfl (fun _ hk=>hk) trivial (zz29 (by first | (with_reducible assumption) | assumption)) (Nat.le_trans (Nat.mul_le_mul_right _ (zz29 (by first | (with_reducible assumption) | assumption):a0_0.toNat≤281474976710656)) (by omega)) (Below.refl _ _) (Nat.le_refl _) ?_;intro v160 w8 ho9 hb hg_ hnew_;clear hg_ hnew_;(first | rw [← Ny159.out] at ho9 | (simp only [Int.reduceToNat] at ho9;rw [← Ny159.out] at ho9));have n0_:=zz31 (Kd.S_elder' (by (with_reducible repeat (first | apply zz15 | apply zz16 | apply zz17));exact HO_3.out) (Kd.R_base ho9) hb);have n1_:=zz31 (Kd.R_lower ho9 (zz5 (by repeat first | exact HB.out | apply zz2 | apply zz0 | apply zz1 | refine zz3 ?_ GE158.out)));have n2_:=zz31 (zz11 (g:=gb158) (o:=.cells #[.int .i64 a0_0,.slice A0_1 l0_1.length c0_1] 30 (0,0)) (by (with_reducible repeat (first | refine zz6 ?_ _ | refine zz7 ?_ | refine zz8 ?_ _));exact BK158.out) hb);have n3_:=zz31 (zz4 (by repeat first | exact HB.out | apply zz2 | apply zz0 | apply zz1 | refine zz3 ?_ GE158.out) hb);clear HO_3;clear BK158;clear HB;have HO_3:=n0_;have HO161:=n1_;have BK158:=n2_;have HB:=n3_;clear n0_ n1_ n2_ n3_;clear hb ho9;obtain ⟨Ao11,co11,eo11⟩:=Kd.R_slice HO161.out;subst eo11) | ((with_reducible refine gate_builtin (b:=.append) (xs:=#[.tmp 13,.tmp 17]) rfl ?_);at_builtin;refine Kd.S_append (Kd.slice 4 Kd.bool) (w0:=w) w.heap.size rfl (.tmp 13) (.tmp 17) 64 92 (.slice none 0 0) 24 rfl Try.underlying64 info92 rfl (by decide) (by omega) u3 x3_1 y159 [.slice Ao11 y159.length co11] (fun _=>True) (fun k_=>some k_=(.slice Ao11 y159.length co11:Value).ownBlock) rfl rfl ?aP (fun k_ hk_=>((Kd.R_mono (ok':=fun k_=>((fun _=>True)) k_∧some k_ ≠ (u3:Value).ownBlock) (Kd.R_apart' (HO161.out) (Kd.S_typed HO_3.out) (by decide)) (fun k_ hk=>⟨trivial,hk.2⟩))).1 k_ hk_.symm) ?aF ?aO ?aB ?aS ?aL ?_;(case aP=>exact Kd.M_row (Kd.R_mono (Kd.R_tight rfl (Kd.R_mono (ok':=fun k_=>((fun _=>True)) k_∧some k_ ≠ (u3:Value).ownBlock) (Kd.R_apart' (HO161.out) (Kd.S_typed HO_3.out) (by decide)) (fun k_ hk=>⟨trivial,hk.2⟩))) (fun _ h_=>h_)));(case aB=>exact (by repeat first | exact HB.out | apply zz2 | apply zz0 | apply zz1 | refine zz3 ?_ GE158.out));(case aF=>exact (fun _ _=>trivial));(case aO=>exact (by (with_reducible repeat (first | apply zz15 | apply zz16 | apply zz17));exact Kd.S_mono HO_3.out (fun k_ hk=>⟨trivial,fun e_=>hk.2 e_⟩)));(case aS=>exact (zz5 (by repeat first | exact HB.out | apply zz2 | apply zz0 | apply zz1 | refine zz3 ?_ GE158.out)));(case aL=>have:=LMc6.out;omega);intro v163 w10 ho hb hg hat;rw [← Ny162.out] at ho;have n0_:=zz31 (blk_grown (g:=gb158) (o:=.cells #[.int .i64 a0_0,.slice A0_1 l0_1.length c0_1] 30 (0,0)) (by (with_reducible repeat (first | refine zz6 ?_ _ | refine zz7 ?_ | refine zz8 ?_ _));exact BK158.out) hg (Kd.S_ne HO_3.out BK158.out (by decide)));have n1_:=zz31 (hb);have n2_:=zz31 (ho);clear BK158;clear HB;clear HO_3;clear HO161;have BK158:=n0_;have HB:=n1_;have HO164:=n2_;clear n0_ n1_ n2_;clear ho hb hg hat))
       go_roundg k1
       case measure=>have:=HK1.out;omega
       case rel=>exact ⟨(y162),(wrap64 (x4_1+1)),(by first | rfl | (simp;done) | (simp [*];done)),H',⟨by have:=HK1.out;omega⟩,⟨by (with_reducible repeat (first | apply zz15 | apply zz16 | apply zz17));exact HO164.out⟩,⟨by (with_reducible repeat (first | refine zz6 ?_ _ | refine zz7 ?_ | refine zz8 ?_ _));exact BK158.out⟩,⟨by repeat first | exact HB.out | apply zz2 | apply zz0 | apply zz1 | refine zz3 ?_ GE158.out⟩⟩
      ·rw [if_neg c6] at H
       exact absurd H (by simp)
     ·rw [if_neg c5] at H
      exact absurd H (by simp)
    ·rw [if_neg c4] at H
     exact absurd H (by simp)
   ·rw [if_neg c3] at H
    have c3b0:decide (x4_1 < a0_0)=false:=decide_eq_false c3
    clear c3
    have H':=zz31 H
    clear H
    have hcz12_0:wr.cell? ⟨gb158,0,none⟩=some (.int .i64 a0_0):=(zz9 BK158.out 0).trans rfl
    have hcz12_1:wr.cell? ⟨gb158,1,none⟩=some (.slice A0_1 l0_1.length c0_1):=(zz9 BK158.out 1).trans rfl
    have hfz12_0:=zz10 BK158.out 0
    have hfz12_1:=zz10 BK158.out 1
    go_wp2
    go_loopg [22] k1 (fun kq v22 w'=>∃ (x3_2:List (List Bool)) (x22_2:Int),v22=.int .i64 x22_2∧Aside0 (spec_paTable.l1 kq x3_2 l0_1 (l0_1.length:Int) x22_2=some r)∧Aside0 (kq≤k1)∧Aside0 (Kd.S (Kd.slice 4 Kd.bool) 92 w' w.heap.size (fun _=>True) u3 x3_2)∧Aside0 (w'.heap[gb158]?=some (.cells #[.int .i64 a0_0,(.slice A0_1 l0_1.length c0_1)] 30 (0,0)))∧Aside0 (Below w.heap.size w w'))
    case atStart=>exact ⟨(x3_1),(0),(by first | rfl | (simp;done) | (simp [*];done)),H',⟨Nat.le_refl _⟩,⟨by (with_reducible repeat (first | apply zz15 | apply zz16 | apply zz17));exact HO_3.out⟩,⟨by (with_reducible repeat (first | refine zz6 ?_ _ | refine zz7 ?_ | refine zz8 ?_ _));exact BK158.out⟩,⟨by repeat first | exact HB.out | apply zz2 | apply zz0 | apply zz1 | refine zz3 ?_ GE158.out⟩⟩
    case round =>
     clear H'
     try clear p2
     try clear c3
     try clear c3b0
     try clear c4
     try clear c4b0
     try clear c4b1
     try clear c5
     try clear c5b0
     try clear c5b1
     try clear c6
     try clear p6
     try clear hcz12_0
     try clear hcz12_1
     try clear hcz7_0
     try clear hcz7_1
     try clear hfz12_0
     try clear hfz12_1
     try clear hfz7_0
     try clear hfz7_1
     try clear p2
     obtain ⟨x3_2,x22_2,rfl,HA,HK2,HO_3,BK158,HB⟩:=hrel
     cases gk with
     | zero=>exact absurd HA.out (by simp [spec_paTable.l1])
     | succ k2 =>
      have H:=HA.out
      clear HA
      simp only [spec_paTable.l1] at H
      by_cases c13:x22_2 < (l0_1.length:Int)
      ·rw [if_pos c13] at H
       have c13b0:decide (x22_2 < (l0_1.length:Int))=true:=decide_eq_true c13
       clear c13
       by_cases c14:0≤x22_2
       ·rw [if_pos c14] at H
        have c14b0:decide (0≤x22_2)=true:=decide_eq_true c14
        clear c14
        by_cases c15:x22_2 < (l0_1.length:Int)
        ·rw [if_pos c15] at H
         have c15b0:decide (x22_2 < (l0_1.length:Int))=true:=decide_eq_true c15
         clear c15
         by_cases c16:0≤((rd_T70 l0_1 x22_2).f0)
         ·rw [if_pos c16] at H
          have c16b0:decide (0≤((rd_T70 l0_1 x22_2).f0))=true:=decide_eq_true c16
          clear c16
          by_cases c17:((rd_T70 l0_1 x22_2).f0) < (x3_2.length:Int)
          ·rw [if_pos c17] at H
           have c17b0:decide (((rd_T70 l0_1 x22_2).f0) < (x3_2.length:Int))=true:=decide_eq_true c17
           clear c17
           by_cases c18:0≤((rd_T70 l0_1 x22_2).f1)
           ·rw [if_pos c18] at H
            have c18b0:decide (0≤((rd_T70 l0_1 x22_2).f1))=true:=decide_eq_true c18
            clear c18
            by_cases c19:((rd_T70 l0_1 x22_2).f1) < ((rd_L4 x3_2 ((rd_T70 l0_1 x22_2).f0)).length:Int)
            ·rw [if_pos c19] at H
             have c19b0:decide (((rd_T70 l0_1 x22_2).f1) < ((rd_L4 x3_2 ((rd_T70 l0_1 x22_2).f0)).length:Int))=true:=decide_eq_true c19
             clear c19
             obtain ⟨y168,hy168⟩:∃ y_:List Bool,y_=((rd_L4 x3_2 ((rd_T70 l0_1 x22_2).f0)).set (((rd_T70 l0_1 x22_2).f1):Int).toNat true):=⟨_,rfl⟩
             replace H:((some (x3_2.set (((rd_T70 l0_1 x22_2).f0):Int).toNat y168:List (List Bool))).bind fun y170=>(if ((rd_T70 l0_1 x22_2).f1) < (x3_2.length:Int) then (if ((rd_T70 l0_1 x22_2).f0) < ((rd_L4 y170 ((rd_T70 l0_1 x22_2).f1)).length:Int) then (spec_paTable.l1 k2 (y170.set (((rd_T70 l0_1 x22_2).f1):Int).toNat ((rd_L4 y170 ((rd_T70 l0_1 x22_2).f1)).set (((rd_T70 l0_1 x22_2).f0):Int).toNat true)) l0_1 (l0_1.length:Int) (wrap64 (x22_2+1))) else (none)) else (none)))=some r:=by first | (rw [hy168];with_reducible exact H) | (have H2_:=(Option.bind_some _ _).symm.trans H;rw [hy168];with_reducible exact H2_) | (have H2_:=(Option.bind_some _ _).symm.trans H;with_reducible exact H2_) | with_reducible exact H | (rw [hy168];exact H) | exact H
             have Ny168:=zz31 hy168
             clear hy168
             obtain ⟨y170,hy170⟩:∃ y_:List (List Bool),y_=(x3_2.set (((rd_T70 l0_1 x22_2).f0):Int).toNat y168):=⟨_,rfl⟩
             replace H:(if ((rd_T70 l0_1 x22_2).f1) < (x3_2.length:Int) then (if ((rd_T70 l0_1 x22_2).f0) < ((rd_L4 y170 ((rd_T70 l0_1 x22_2).f1)).length:Int) then (spec_paTable.l1 k2 (y170.set (((rd_T70 l0_1 x22_2).f1):Int).toNat ((rd_L4 y170 ((rd_T70 l0_1 x22_2).f1)).set (((rd_T70 l0_1 x22_2).f0):Int).toNat true)) l0_1 (l0_1.length:Int) (wrap64 (x22_2+1))) else (none)) else (none))=some r:=by first | (rw [hy170];with_reducible exact H) | (have H2_:=(Option.bind_some _ _).symm.trans H;rw [hy170];with_reducible exact H2_) | (have H2_:=(Option.bind_some _ _).symm.trans H;with_reducible exact H2_) | with_reducible exact H | (rw [hy170];exact H) | exact H
             have Ny170:=zz31 hy170
             clear hy170
             by_cases c21:((rd_T70 l0_1 x22_2).f1) < (x3_2.length:Int)
             ·rw [if_pos c21] at H
              have c21b0:decide (((rd_T70 l0_1 x22_2).f1) < (x3_2.length:Int))=true:=decide_eq_true c21
              clear c21
              by_cases c22:((rd_T70 l0_1 x22_2).f0) < ((rd_L4 y170 ((rd_T70 l0_1 x22_2).f1)).length:Int)
              ·rw [if_pos c22] at H
               have c22b0:decide (((rd_T70 l0_1 x22_2).f0) < ((rd_L4 y170 ((rd_T70 l0_1 x22_2).f1)).length:Int))=true:=decide_eq_true c22
               clear c22
               obtain ⟨y172,hy172⟩:∃ y_:List Bool,y_=((rd_L4 y170 ((rd_T70 l0_1 x22_2).f1)).set (((rd_T70 l0_1 x22_2).f0):Int).toNat true):=⟨_,rfl⟩
               replace H:(spec_paTable.l1 k2 (y170.set (((rd_T70 l0_1 x22_2).f1):Int).toNat y172) l0_1 (l0_1.length:Int) (wrap64 (x22_2+1)))=some r:=by first | (rw [hy172];with_reducible exact H) | (have H2_:=(Option.bind_some _ _).symm.trans H;rw [hy172];with_reducible exact H2_) | (have H2_:=(Option.bind_some _ _).symm.trans H;with_reducible exact H2_) | with_reducible exact H | (rw [hy172];exact H) | exact H
               have Ny172:=zz31 hy172
               clear hy172
               obtain ⟨y174,hy174⟩:∃ y_:List (List Bool),y_=(y170.set (((rd_T70 l0_1 x22_2).f1):Int).toNat y172):=⟨_,rfl⟩
               replace H:(spec_paTable.l1 k2 y174 l0_1 (l0_1.length:Int) (wrap64 (x22_2+1)))=some r:=by first | (rw [hy174];with_reducible exact H) | (have H2_:=(Option.bind_some _ _).symm.trans H;rw [hy174];with_reducible exact H2_) | (have H2_:=(Option.bind_some _ _).symm.trans H;with_reducible exact H2_) | with_reducible exact H | (rw [hy174];exact H) | exact H
               have Ny174:=zz31 hy174
               clear hy174
               have H':=zz31 H
               clear H
               have p165:0≤(x22_2:Int):=zz29 (by first | (with_reducible assumption) | assumption)
               have q165:x22_2 < (l0_1.length:Int):=zz29 (by first | (with_reducible assumption) | assumption)
               obtain ⟨ad165,e165,hx165_0,hx165_1⟩:=at_T70 HR0_1.out x22_2 p165 q165
               cases e165
               try replace hx165_0:=(HB.out.cell (World.block_lt_of_cell? w _ hx165_0)).trans hx165_0
               try replace hx165_1:=(HB.out.cell (World.block_lt_of_cell? w _ hx165_1)).trans hx165_1
               replace p165:=eq_true p165
               replace q165:=eq_true q165
               try go_wp2_with (first | ((with_reducible refine gate_dst (N:=6) rfl ?_);refine box_event ?hg (N:=6) ?hd (cs:=#[.int .i64 0,.int .i64 0]) (t:=70) ?hr ?_;(case hd=>rfl);(case hg=>rfl);(case hr=>first | (go_simp;done) | (go_simp;rfl));intro gb166 hg w24 hbox hb;have n0_:=zz31 (Kd.S_below (by (with_reducible repeat (first | apply zz15 | apply zz16 | apply zz17));exact HO_3.out) hb);have n1_:=zz31 (zz11 (g:=gb158) (o:=.cells #[.int .i64 a0_0,.slice (some ad165) l0_1.length c0_1] 30 (0,0)) (by (with_reducible repeat (first | refine zz6 ?_ _ | refine zz7 ?_ | refine zz8 ?_ _));exact BK158.out) hb);have n2_:=zz31 (zz4 (by repeat first | exact HB.out | apply zz2 | apply zz0 | apply zz1 | refine zz3 ?_ GE158.out) hb);have n3_:=zz31 (hbox);have n4_:=zz31 ((by rw [hg];exact (zz5 (by repeat first | exact HB.out | apply zz2 | apply zz0 | apply zz1 | refine zz3 ?_ GE158.out)):w.heap.size≤gb166));have n5_:=zz31 ((by rw [hg];exact (zz5 (by repeat first | exact HB.out | apply zz2 | apply zz0 | apply zz1 | refine zz3 ?_ GE158.out)):w.heap.size≤gb166));have n6_:=zz31 ((by rw [hg];exact Nat.ne_of_lt (blk_lt (g:=gb158) (o:=.cells #[.int .i64 a0_0,.slice (some ad165) l0_1.length c0_1] 30 (0,0)) (by (with_reducible repeat (first | refine zz6 ?_ _ | refine zz7 ?_ | refine zz8 ?_ _));exact BK158.out)):gb158 ≠ gb166));have n7_:=zz31 ((by rw [hg];exact Nat.ne_of_gt (blk_lt (g:=gb158) (o:=.cells #[.int .i64 a0_0,.slice (some ad165) l0_1.length c0_1] 30 (0,0)) (by (with_reducible repeat (first | refine zz6 ?_ _ | refine zz7 ?_ | refine zz8 ?_ _));exact BK158.out)):gb166 ≠ gb158));clear HO_3;clear BK158;clear HB;have HO_3:=n0_;have BK158:=n1_;have HB:=n2_;have BK166:=n3_;have GW166:=n4_;have GE166:=n5_;have NB158_166:=n6_;have NB166_158:=n7_;clear n0_ n1_ n2_ n3_ n4_ n5_ n6_ n7_;clear hb hbox hg;have hnb25:=NB166_158.out;have hnc25:=NB158_166.out;have hcz26_0:w24.cell? ⟨gb166,0,none⟩=some (.int .i64 0):=(zz9 BK166.out 0).trans rfl;have hcz26_1:w24.cell? ⟨gb166,1,none⟩=some (.int .i64 0):=(zz9 BK166.out 1).trans rfl;have hfz26_0:=zz10 BK166.out 0;have hfz26_1:=zz10 BK166.out 1))
               have n0_:Aside0 (Kd.S (Kd.slice 4 Kd.bool) 92 ((w24.setCell ⟨gb166,0,none⟩ (.int .i64 ((rd_T70 l0_1 x22_2).f0))).setCell ⟨gb166,1,none⟩ (.int .i64 ((rd_T70 l0_1 x22_2).f1))) w.heap.size (fun _=>True) u3 x3_2):=⟨by (with_reducible repeat (first | apply zz15 | apply zz16 | apply zz17));exact Kd.S_mono (Kd.S_far (p:=⟨gb166,1,none⟩) (Kd.S_far (p:=⟨gb166,0,none⟩) (Kd.S_types HO_3.out BK166.out (by decide)) (fun _ hk=>hk.2) (.int .i64 ((rd_T70 l0_1 x22_2).f0))) (fun _ hk=>hk.2) (.int .i64 ((rd_T70 l0_1 x22_2).f1))) (fun _ hk=>trivial)⟩
               have n1_:Aside0 (((w24.setCell ⟨gb166,0,none⟩ (.int .i64 ((rd_T70 l0_1 x22_2).f0))).setCell ⟨gb166,1,none⟩ (.int .i64 ((rd_T70 l0_1 x22_2).f1))).heap[gb158]?=some (.cells #[.int .i64 a0_0,.slice (some ad165) l0_1.length c0_1] 30 (0,0))):=⟨by (with_reducible repeat (first | refine zz6 ?_ _ | refine zz7 ?_ | refine zz8 ?_ _));refine blk_far ?_ NB158_166.out _;(with_reducible repeat (first | refine zz6 ?_ _ | refine zz7 ?_ | refine zz8 ?_ _));refine blk_far ?_ NB158_166.out _;(with_reducible repeat (first | refine zz6 ?_ _ | refine zz7 ?_ | refine zz8 ?_ _));exact BK158.out⟩
               have n2_:Aside0 (((w24.setCell ⟨gb166,0,none⟩ (.int .i64 ((rd_T70 l0_1 x22_2).f0))).setCell ⟨gb166,1,none⟩ (.int .i64 ((rd_T70 l0_1 x22_2).f1))).heap[gb166]?=some (.cells #[.int .i64 ((rd_T70 l0_1 x22_2).f0),.int .i64 ((rd_T70 l0_1 x22_2).f1)] 70 (0,0))):=⟨by (with_reducible repeat (first | refine zz6 ?_ _ | refine zz7 ?_ | refine zz8 ?_ _));refine blk_put (cs:=#[.int .i64 ((rd_T70 l0_1 x22_2).f0),.int .i64 0]) ?_ 1 _ rfl;(with_reducible repeat (first | refine zz6 ?_ _ | refine zz7 ?_ | refine zz8 ?_ _));refine blk_put (cs:=#[.int .i64 0,.int .i64 0]) ?_ 0 _ rfl;(with_reducible repeat (first | refine zz6 ?_ _ | refine zz7 ?_ | refine zz8 ?_ _));exact BK166.out⟩
               have n3_:Aside0 (Below w.heap.size w ((w24.setCell ⟨gb166,0,none⟩ (.int .i64 ((rd_T70 l0_1 x22_2).f0))).setCell ⟨gb166,1,none⟩ (.int .i64 ((rd_T70 l0_1 x22_2).f1)))):=⟨by repeat first | exact HB.out | apply zz2 | apply zz0 | apply zz1 | refine zz3 ?_ GE158.out | refine zz3 ?_ GE166.out⟩
               (try clear HO_3)
               (try clear BK158)
               (try clear BK166)
               (try clear HB)
               generalize ((w24.setCell ⟨gb166,0,none⟩ (.int .i64 ((rd_T70 l0_1 x22_2).f0))).setCell ⟨gb166,1,none⟩ (.int .i64 ((rd_T70 l0_1 x22_2).f1)))=w27 at n0_ n1_ n2_ n3_ ⊢
               have HO_3:=n0_
               have BK158:=n1_
               have BK166:=n2_
               have HB:=n3_
               clear n0_ n1_ n2_ n3_
               have n0_:=zz31 (zz17 HO_3.out)
               have n1_:=zz31 (zz7 BK158.out)
               have n2_:=zz31 (zz7 BK166.out)
               have n3_:=zz31 (zz1 HB.out)
               clear HO_3
               clear BK158
               clear BK166
               clear HB
               have HO_3:=n0_
               have BK158:=n1_
               have BK166:=n2_
               have HB:=n3_
               clear n0_ n1_ n2_ n3_
               obtain ⟨Ao29,co29,eo29⟩:=Kd.S_slice HO_3.out
               (first | subst eo29 | (injection eo29 with f1_ f2_ f3_;have f4_:=f1_.symm;have f5_:=f3_.symm;clear f1_ f2_ f3_;subst f4_;subst f5_))
               have p167:0≤(((rd_T70 l0_1 x22_2).f0):Int):=zz29 (by first | (with_reducible assumption) | assumption)
               have q167:((rd_T70 l0_1 x22_2).f0) < (x3_2.length:Int):=zz29 (by first | (with_reducible assumption) | assumption)
               obtain ⟨ad167,A167_0,c167_0,e167,hx167_0,hl167_0,hi167_0⟩:=at_L4 (Kd.S_reads' HO_3.out).2.2 ((rd_T70 l0_1 x22_2).f0) p167 q167
               cases e167
               obtain ⟨ce167,hce167,hMe167,hcc167⟩:=Kd.S_get HO_3.out [] ((rd_T70 l0_1 x22_2).f0) p167 (by first | exact q167 | exact zz29 (by first | (with_reducible assumption) | assumption) | (have e_:=(Kd.S_reads' HO_3.out).1;omega))
               obtain ⟨ve167_0,rfl,ge167_0⟩:=hMe167
               have hv167_0:=hcc167 0 _ rfl
               rw [Nat.add_zero,show ((Kd.slice 4 Kd.bool)).sz=1 from rfl,Nat.mul_one] at hv167_0
               replace hv167_0:=Option.some.inj (hv167_0.symm.trans hx167_0)
               rw [hv167_0] at ge167_0
               have HL167_0:=zz31 (show Kd.R Kd.bool 4 _ _ _ _ (rd_L4 x3_2 ((rd_T70 l0_1 x22_2).f0)) from ge167_0)
               clear hv167_0 ge167_0
               have HX167_0:=zz31 hx167_0
               clear hcc167 hce167
               have HR167_0:=zz31 hi167_0
               have HC167_0:=zz31 hl167_0
               clear hi167_0 hl167_0
               replace p167:=eq_true p167
               replace q167:=eq_true q167
               have p20:0≤(((rd_T70 l0_1 x22_2).f1):Int):=zz29 (by first | (with_reducible assumption) | assumption)
               have q20:(((rd_T70 l0_1 x22_2).f1):Int) < (((rd_L4 x3_2 ((rd_T70 l0_1 x22_2).f0)).length:Int):Int):=zz29 (by first | (with_reducible assumption) | assumption)
               obtain ⟨go20,co20,eo20,gb20,gl20,cl20,HG20⟩:=Kd.R_form HL167_0.out (by omega)
               (first | cases eo20 | (injection eo20 with ea_ en_ ec_;(first | subst ea_ | (injection ea_ with ea_;subst ea_));subst ec_;clear en_))
               have GB20:=zz31 gb20
               have GG20:=zz31 HG20
               clear gb20 gl20 HG20
               obtain ⟨hx20_0,hf20_0⟩:=Kd.R_celln false HL167_0.out (((rd_T70 l0_1 x22_2).f1):Int) p20 q20
               replace p20:=eq_true p20
               replace q20:=eq_true q20
               have hq30:(((rd_T70 l0_1 x22_2).f0):Int) < (x3_2.length:Int):=(by have h_:(((rd_T70 l0_1 x22_2).f0):Int) < ((x3_2.length:Int):Int):=zz29 (by first | (with_reducible assumption) | assumption);first | exact h_ | (have e_:=(Kd.S_reads' HO_3.out).1;omega) | simpa only [List.length_set,List.length_set] using h_)
               obtain ⟨oki30,ce30,hcl30,hM30,hcc30,hok30,hbk30⟩:=Kd.S_borrow HO_3.out [] (((rd_T70 l0_1 x22_2).f0):Int) (zz29 (by first | (with_reducible assumption) | assumption)) (by first | exact hq30 | (have e_:=(Kd.S_reads' HO_3.out).1;omega))
               obtain ⟨ve30_0,rfl,ge30_0⟩:=hM30
               have hv30:=hcc30 0 _ rfl
               rw [Nat.add_zero,show ((Kd.slice 4 Kd.bool)).sz=1 from rfl,Nat.mul_one] at hv30
               replace hv30:=Option.some.inj (hv30.symm.trans HX167_0.out)
               subst hv30
               clear hcc30 hcl30
               replace ge30_0:=(show Kd.R Kd.bool 4 _ _ _ _ (rd_L4 x3_2 ((rd_T70 l0_1 x22_2).f0)) from ge30_0)
               have HP30:=Kd.R_putg ge30_0 (((rd_T70 l0_1 x22_2).f1):Int) true
               rw [← Ny168.out] at HP30
               have HS30:=hbk30 HP30.2 (fun k_ e_=>by injection e_ with e_;subst e_;exact ge30_0.1 _ rfl) (x':=y168) (Kd.M_row HP30.1)
               rw [← Ny170.out] at HS30
               have HQ30:=zz31 HS30
               clear HP30 HS30 hbk30 hok30
               refine start_ (n:=9) (S:=fun w'=>w'.cell? ⟨gb166,0,none⟩=some (.int .i64 ((rd_T70 l0_1 x22_2).f0))∧w'.cell? ⟨gb166,1,none⟩=some (.int .i64 ((rd_T70 l0_1 x22_2).f1))∧w'.cell? (ad167.add (((rd_T70 l0_1 x22_2).f0)).toNat)=some (.slice (some ⟨go20,0,none⟩) (rd_L4 x3_2 ((rd_T70 l0_1 x22_2).f0)).length c167_0)) (ds:=[8]) #[F,F,F,F,F,F,F,F,F] (by kernel_rfl) rfl rfl ⟨(zz9 BK166.out 0).trans rfl,(zz9 BK166.out 1).trans rfl,hx167_0⟩ (fun hHeld=>?_);refine with_tabW spec_paTable.tab9 spec_paTable.bits9 (fun HT_ HW_=>?_)
               generalize w27.drew=w28 at HO_3 BK158 BK166 HB GG20 HL167_0 HQ30 HR167_0 HX167_0 hf20_0 hx167_0 hx20_0 hHeld ⊢
               refine pure_ (i:=0) (N:=some 26) (v:=?_) (a':=?_) #[T,F,F,F,F,F,F,F,F] rfl rfl (any_of HT_.out (by kernel_rfl)) (fun _ _ _ h=>h) (Or.inl ⟨by rfl,?_⟩) ?_ ?_
               rotate_left
               ·intro w'
                go_simp
                with_reducible rfl
               rotate_left
               ·simp only [Act.put,zz21,zz22,zz23,i64_w,i32_w]
                rfl
               refine pure_ (i:=1) (N:=some 27) (v:=?_) (a':=?_) #[T,T,F,F,F,F,F,F,F] rfl rfl (any_of HT_.out (by kernel_rfl)) (fun _ _ _ h=>h) (Or.inl ⟨by rfl,?_⟩) ?_ ?_
               rotate_left
               ·intro w'
                go_simp
                with_reducible rfl
               rotate_left
               ·simp only [Act.put,zz21,zz22,zz23,i64_w,i32_w]
                rfl
               refine pure_ (i:=5) (N:=some 31) (v:=?_) (a':=?_) #[T,T,F,F,F,T,F,F,F] rfl rfl (any_of HT_.out (by kernel_rfl)) (fun _ _ _ h=>h) (Or.inl ⟨by rfl,?_⟩) ?_ ?_
               rotate_left
               ·intro w'
                go_simp
                with_reducible rfl
               rotate_left
               ·simp only [Act.put,zz21,zz22,zz23,i64_w,i32_w]
                rfl
               refine take_ (i:=2) (N:=some 28) (v:=?_) (a':=?_) #[T,T,T,F,F,T,F,F,F] rfl rfl (take_ofW HT_.out HW_.out (by kernel_rfl)) (fun _ _ _ h=>h) (Or.inl ⟨by rfl,?_⟩) hHeld ?_ ?_
               rotate_left
               ·rintro w' ⟨s0,s1,s2⟩
                go_simp
                with_reducible rfl
               rotate_left
               ·simp only [Act.put,zz21,zz22,zz23,i64_w,i32_w]
                rfl
               refine pure_ (i:=3) (N:=some 29) (v:=?_) (a':=?_) #[T,T,T,T,F,T,F,F,F] rfl rfl (any_of HT_.out (by kernel_rfl)) (fun _ _ _ h=>h) (Or.inl ⟨by rfl,?_⟩) ?_ ?_
               rotate_left
               ·intro w'
                go_simp
                with_reducible rfl
               rotate_left
               ·simp only [Act.put,zz21,zz22,zz23,i64_w,i32_w]
                rfl
               refine take_ (i:=4) (N:=some 30) (v:=?_) (a':=?_) #[T,T,T,T,T,T,F,F,F] rfl rfl (take_ofW HT_.out HW_.out (by kernel_rfl)) (fun _ _ _ h=>h) (Or.inl ⟨by rfl,?_⟩) hHeld ?_ ?_
               rotate_left
               ·rintro w' ⟨s0,s1,s2⟩
                go_simp
                with_reducible rfl
               rotate_left
               ·simp only [Act.put,zz21,zz22,zz23,i64_w,i32_w]
                rfl
               refine take_ (i:=6) (N:=some 32) (v:=?_) (a':=?_) #[T,T,T,T,T,T,T,F,F] rfl rfl (take_ofW HT_.out HW_.out (by kernel_rfl)) (fun _ _ _ h=>h) (Or.inl ⟨by rfl,?_⟩) hHeld ?_ ?_
               rotate_left
               ·rintro w' ⟨s0,s1,s2⟩
                go_simp
                with_reducible rfl
               rotate_left
               ·simp only [Act.put,zz21,zz22,zz23,i64_w,i32_w]
                rfl
               refine pure_ (i:=7) (N:=some 33) (v:=?_) (a':=?_) #[T,T,T,T,T,T,T,T,F] rfl rfl (any_of HT_.out (by kernel_rfl)) (fun _ _ _ h=>h) (Or.inl ⟨by rfl,?_⟩) ?_ ?_
               rotate_left
               ·intro w'
                go_simp
                with_reducible rfl
               rotate_left
               ·simp only [Act.put,zz21,zz22,zz23,i64_w,i32_w]
                rfl
               refine last_ (i:=8) (N:=none) #[T,T,T,T,T,T,T,T,T] rfl rfl (one_of HT_.out (by kernel_rfl)) (by decide) (fun K hK=>?_)
               refine skip_ (w1:=?_) (by rfl) rfl ?_ ?_
               rotate_left
               ·go_simp
                rfl
               refine hK.out _ _ ?_
               clear hK K
               refine done_ (done_of HT_.out (by kernel_rfl)) ?_
               try go_wp2
               have n0_:Aside0 (Kd.S (Kd.slice 4 Kd.bool) 92 (w28.setCell ⟨go20,(((rd_T70 l0_1 x22_2).f1):Int).toNat,none⟩ (.bool true)) w.heap.size (fun _=>True) (.slice (some ad167) x3_2.length co29) y170):=⟨by (with_reducible repeat (first | apply zz15 | apply zz16 | apply zz17));exact HQ30.out⟩
               have n1_:Aside0 ((w28.setCell ⟨go20,(((rd_T70 l0_1 x22_2).f1):Int).toNat,none⟩ (.bool true)).heap[gb158]?=some (.cells #[.int .i64 a0_0,.slice (some ad165) l0_1.length c0_1] 30 (0,0))):=⟨by (with_reducible repeat (first | refine zz6 ?_ _ | refine zz7 ?_ | refine zz8 ?_ _));refine blk_far ?_ (by have h_:=Kd.R_ne HL167_0.out BK158.out (by decide);intro e_;exact h_ (by rw [e_];rfl)) _;(with_reducible repeat (first | refine zz6 ?_ _ | refine zz7 ?_ | refine zz8 ?_ _));exact BK158.out⟩
               have n2_:Aside0 ((w28.setCell ⟨go20,(((rd_T70 l0_1 x22_2).f1):Int).toNat,none⟩ (.bool true)).heap[gb166]?=some (.cells #[.int .i64 ((rd_T70 l0_1 x22_2).f0),.int .i64 ((rd_T70 l0_1 x22_2).f1)] 70 (0,0))):=⟨by (with_reducible repeat (first | refine zz6 ?_ _ | refine zz7 ?_ | refine zz8 ?_ _));refine blk_far ?_ (by have h_:=Kd.R_ne HL167_0.out BK166.out (by decide);intro e_;exact h_ (by rw [e_];rfl)) _;(with_reducible repeat (first | refine zz6 ?_ _ | refine zz7 ?_ | refine zz8 ?_ _));exact BK166.out⟩
               have n3_:Aside0 (Below w.heap.size w (w28.setCell ⟨go20,(((rd_T70 l0_1 x22_2).f1):Int).toNat,none⟩ (.bool true))):=⟨by repeat first | exact HB.out | apply zz2 | apply zz0 | apply zz1 | refine zz3 ?_ GB20.out | refine zz3 ?_ GE158.out | refine zz3 ?_ GE166.out⟩
               (try clear HO_3)
               (try clear BK158)
               (try clear BK166)
               (try clear HB)
               generalize (w28.setCell ⟨go20,(((rd_T70 l0_1 x22_2).f1):Int).toNat,none⟩ (.bool true))=w32 at n0_ n1_ n2_ n3_ ⊢
               have HO_3:=n0_
               have BK158:=n1_
               have BK166:=n2_
               have HB:=n3_
               clear n0_ n1_ n2_ n3_
               have n0_:=zz31 (zz17 HO_3.out)
               have n1_:=zz31 (zz7 BK158.out)
               have n2_:=zz31 (zz7 BK166.out)
               have n3_:=zz31 (zz1 HB.out)
               clear HO_3
               clear BK158
               clear BK166
               clear HB
               have HO_3:=n0_
               have BK158:=n1_
               have BK166:=n2_
               have HB:=n3_
               clear n0_ n1_ n2_ n3_
               have p171:0≤(((rd_T70 l0_1 x22_2).f1):Int):=zz29 (by first | (with_reducible assumption) | assumption)
               have q171:((rd_T70 l0_1 x22_2).f1) < (y170.length:Int):=(by have h_:(((rd_T70 l0_1 x22_2).f1):Int) < ((x3_2.length:Int):Int):=zz29 (by first | (with_reducible assumption) | assumption);first | (have e_:=(Kd.S_reads' HO_3.out).1;omega) | simpa only [Ny170.out,List.length_set] using h_)
               have ql171:((((rd_T70 l0_1 x22_2).f1):Int) < ((x3_2.length:Int):Int))=True:=eq_true (zz29 (by first | (with_reducible assumption) | assumption))
               obtain ⟨ad171,A171_0,c171_0,e171,hx171_0,hl171_0,hi171_0⟩:=at_L4 (Kd.S_reads' HO_3.out).2.2 ((rd_T70 l0_1 x22_2).f1) p171 q171
               obtain rfl:ad167=ad171:=(by injection e171)
               obtain ⟨ce171,hce171,hMe171,hcc171⟩:=Kd.S_get HO_3.out [] ((rd_T70 l0_1 x22_2).f1) p171 (by first | exact q171 | exact zz29 (by first | (with_reducible assumption) | assumption) | (have e_:=(Kd.S_reads' HO_3.out).1;omega))
               obtain ⟨ve171_0,rfl,ge171_0⟩:=hMe171
               have hv171_0:=hcc171 0 _ rfl
               rw [Nat.add_zero,show ((Kd.slice 4 Kd.bool)).sz=1 from rfl,Nat.mul_one] at hv171_0
               replace hv171_0:=Option.some.inj (hv171_0.symm.trans hx171_0)
               rw [hv171_0] at ge171_0
               have HL171_0:=zz31 (show Kd.R Kd.bool 4 _ _ _ _ (rd_L4 y170 ((rd_T70 l0_1 x22_2).f1)) from ge171_0)
               clear hv171_0 ge171_0
               have HX171_0:=zz31 hx171_0
               clear hcc171 hce171
               have HR171_0:=zz31 hi171_0
               have HC171_0:=zz31 hl171_0
               clear hi171_0 hl171_0
               replace p171:=eq_true p171
               replace q171:=eq_true q171
               have p23:0≤(((rd_T70 l0_1 x22_2).f0):Int):=zz29 (by first | (with_reducible assumption) | assumption)
               have q23:(((rd_T70 l0_1 x22_2).f0):Int) < (((rd_L4 y170 ((rd_T70 l0_1 x22_2).f1)).length:Int):Int):=zz29 (by first | (with_reducible assumption) | assumption)
               obtain ⟨go23,co23,eo23,gb23,gl23,cl23,HG23⟩:=Kd.R_form HL171_0.out (by omega)
               (first | cases eo23 | (injection eo23 with ea_ en_ ec_;(first | subst ea_ | (injection ea_ with ea_;subst ea_));subst ec_;clear en_))
               have GB23:=zz31 gb23
               have GG23:=zz31 HG23
               clear gb23 gl23 HG23
               obtain ⟨hx23_0,hf23_0⟩:=Kd.R_celln false HL171_0.out (((rd_T70 l0_1 x22_2).f0):Int) p23 q23
               replace p23:=eq_true p23
               replace q23:=eq_true q23
               have hq34:(((rd_T70 l0_1 x22_2).f1):Int) < (y170.length:Int):=(by have h_:(((rd_T70 l0_1 x22_2).f1):Int) < ((x3_2.length:Int):Int):=zz29 (by first | (with_reducible assumption) | assumption);first | exact h_ | (have e_:=(Kd.S_reads' HO_3.out).1;omega) | simpa only [Ny170.out,List.length_set] using h_)
               obtain ⟨oki34,ce34,hcl34,hM34,hcc34,hok34,hbk34⟩:=Kd.S_borrow HO_3.out [] (((rd_T70 l0_1 x22_2).f1):Int) (zz29 (by first | (with_reducible assumption) | assumption)) (by first | exact hq34 | (have e_:=(Kd.S_reads' HO_3.out).1;omega))
               obtain ⟨ve34_0,rfl,ge34_0⟩:=hM34
               have hv34:=hcc34 0 _ rfl
               rw [Nat.add_zero,show ((Kd.slice 4 Kd.bool)).sz=1 from rfl,Nat.mul_one] at hv34
               replace hv34:=Option.some.inj (hv34.symm.trans HX171_0.out)
               subst hv34
               clear hcc34 hcl34
               replace ge34_0:=(show Kd.R Kd.bool 4 _ _ _ _ (rd_L4 y170 ((rd_T70 l0_1 x22_2).f1)) from ge34_0)
               have HP34:=Kd.R_putg ge34_0 (((rd_T70 l0_1 x22_2).f0):Int) true
               rw [← Ny172.out] at HP34
               have HS34:=hbk34 HP34.2 (fun k_ e_=>by injection e_ with e_;subst e_;exact ge34_0.1 _ rfl) (x':=y172) (Kd.M_row HP34.1)
               rw [← Ny174.out] at HS34
               have HQ34:=zz31 HS34
               clear HP34 HS34 hbk34 hok34
               refine start_ (n:=9) (S:=fun w'=>w'.cell? ⟨gb166,0,none⟩=some (.int .i64 ((rd_T70 l0_1 x22_2).f0))∧w'.cell? ⟨gb166,1,none⟩=some (.int .i64 ((rd_T70 l0_1 x22_2).f1))∧w'.cell? (ad167.add (((rd_T70 l0_1 x22_2).f1)).toNat)=some (.slice (some ⟨go23,0,none⟩) (rd_L4 y170 ((rd_T70 l0_1 x22_2).f1)).length c171_0)) (ds:=[8]) #[F,F,F,F,F,F,F,F,F] (by kernel_rfl) rfl rfl ⟨(zz9 BK166.out 0).trans rfl,(zz9 BK166.out 1).trans rfl,hx171_0⟩ (fun hHeld=>?_);refine with_tabW spec_paTable.tab10 spec_paTable.bits10 (fun HT_ HW_=>?_)
               generalize w32.drew=w33 at HO_3 BK158 BK166 HB GG23 HL171_0 HQ30 HQ34 HR171_0 HX171_0 hf23_0 hx171_0 hx23_0 hHeld ⊢
               refine pure_ (i:=0) (N:=some 34) (v:=?_) (a':=?_) #[T,F,F,F,F,F,F,F,F] rfl rfl (any_of HT_.out (by kernel_rfl)) (fun _ _ _ h=>h) (Or.inl ⟨by rfl,?_⟩) ?_ ?_
               rotate_left
               ·intro w'
                go_simp
                with_reducible rfl
               rotate_left
               ·simp only [Act.put,zz21,zz22,zz23,i64_w,i32_w]
                rfl
               refine pure_ (i:=1) (N:=some 35) (v:=?_) (a':=?_) #[T,T,F,F,F,F,F,F,F] rfl rfl (any_of HT_.out (by kernel_rfl)) (fun _ _ _ h=>h) (Or.inl ⟨by rfl,?_⟩) ?_ ?_
               rotate_left
               ·intro w'
                go_simp
                with_reducible rfl
               rotate_left
               ·simp only [Act.put,zz21,zz22,zz23,i64_w,i32_w]
                rfl
               refine pure_ (i:=5) (N:=some 39) (v:=?_) (a':=?_) #[T,T,F,F,F,T,F,F,F] rfl rfl (any_of HT_.out (by kernel_rfl)) (fun _ _ _ h=>h) (Or.inl ⟨by rfl,?_⟩) ?_ ?_
               rotate_left
               ·intro w'
                go_simp
                with_reducible rfl
               rotate_left
               ·simp only [Act.put,zz21,zz22,zz23,i64_w,i32_w]
                rfl
               refine take_ (i:=2) (N:=some 36) (v:=?_) (a':=?_) #[T,T,T,F,F,T,F,F,F] rfl rfl (take_ofW HT_.out HW_.out (by kernel_rfl)) (fun _ _ _ h=>h) (Or.inl ⟨by rfl,?_⟩) hHeld ?_ ?_
               rotate_left
               ·rintro w' ⟨s0,s1,s2⟩
                go_simp
                with_reducible rfl
               rotate_left
               ·simp only [Act.put,zz21,zz22,zz23,i64_w,i32_w]
                rfl
               refine pure_ (i:=3) (N:=some 37) (v:=?_) (a':=?_) #[T,T,T,T,F,T,F,F,F] rfl rfl (any_of HT_.out (by kernel_rfl)) (fun _ _ _ h=>h) (Or.inl ⟨by rfl,?_⟩) ?_ ?_
               rotate_left
               ·intro w'
                go_simp
                with_reducible rfl
               rotate_left
               ·simp only [Act.put,zz21,zz22,zz23,i64_w,i32_w]
                rfl
               refine take_ (i:=4) (N:=some 38) (v:=?_) (a':=?_) #[T,T,T,T,T,T,F,F,F] rfl rfl (take_ofW HT_.out HW_.out (by kernel_rfl)) (fun _ _ _ h=>h) (Or.inl ⟨by rfl,?_⟩) hHeld ?_ ?_
               rotate_left
               ·rintro w' ⟨s0,s1,s2⟩
                go_simp
                with_reducible rfl
               rotate_left
               ·simp only [Act.put,zz21,zz22,zz23,i64_w,i32_w]
                rfl
               refine take_ (i:=6) (N:=some 40) (v:=?_) (a':=?_) #[T,T,T,T,T,T,T,F,F] rfl rfl (take_ofW HT_.out HW_.out (by kernel_rfl)) (fun _ _ _ h=>h) (Or.inl ⟨by rfl,?_⟩) hHeld ?_ ?_
               rotate_left
               ·rintro w' ⟨s0,s1,s2⟩
                go_simp
                with_reducible rfl
               rotate_left
               ·simp only [Act.put,zz21,zz22,zz23,i64_w,i32_w]
                rfl
               refine pure_ (i:=7) (N:=some 41) (v:=?_) (a':=?_) #[T,T,T,T,T,T,T,T,F] rfl rfl (any_of HT_.out (by kernel_rfl)) (fun _ _ _ h=>h) (Or.inl ⟨by rfl,?_⟩) ?_ ?_
               rotate_left
               ·intro w'
                go_simp
                with_reducible rfl
               rotate_left
               ·simp only [Act.put,zz21,zz22,zz23,i64_w,i32_w]
                rfl
               refine last_ (i:=8) (N:=none) #[T,T,T,T,T,T,T,T,T] rfl rfl (one_of HT_.out (by kernel_rfl)) (by decide) (fun K hK=>?_)
               refine skip_ (w1:=?_) (by rfl) rfl ?_ ?_
               rotate_left
               ·go_simp
                rfl
               refine hK.out _ _ ?_
               clear hK K
               refine done_ (done_of HT_.out (by kernel_rfl)) ?_
               try go_wp2
               go_roundg k2
               case measure=>have:=HK1.out;have:=HK2.out;omega
               case rel=>exact ⟨(y174),(wrap64 (x22_2+1)),(by first | rfl | (simp;done) | (simp [*];done)),H',⟨by have:=HK1.out;have:=HK2.out;omega⟩,⟨by (with_reducible repeat (first | apply zz15 | apply zz16 | apply zz17));exact HQ34.out⟩,⟨by (with_reducible repeat (first | refine zz6 ?_ _ | refine zz7 ?_ | refine zz8 ?_ _));refine blk_far ?_ (by have h_:=Kd.R_ne HL171_0.out BK158.out (by decide);intro e_;exact h_ (by rw [e_];rfl)) _;(with_reducible repeat (first | refine zz6 ?_ _ | refine zz7 ?_ | refine zz8 ?_ _));exact BK158.out⟩,⟨by repeat first | exact HB.out | apply zz2 | apply zz0 | apply zz1 | refine zz3 ?_ GB23.out | refine zz3 ?_ GE158.out | refine zz3 ?_ GE166.out⟩⟩
              ·rw [if_neg c22] at H
               exact absurd H (by simp)
             ·rw [if_neg c21] at H
              exact absurd H (by simp)
            ·rw [if_neg c19] at H
             exact absurd H (by simp)
           ·rw [if_neg c18] at H
            exact absurd H (by simp)
          ·rw [if_neg c17] at H
           exact absurd H (by simp)
         ·rw [if_neg c16] at H
          exact absurd H (by simp)
        ·rw [if_neg c15] at H
         exact absurd H (by simp)
       ·rw [if_neg c14] at H
        exact absurd H (by simp)
      ·rw [if_neg c13] at H
       have c13b0:decide (x22_2 < (l0_1.length:Int))=false:=decide_eq_false c13
       clear c13
       obtain rfl:=Option.some.inj H
       go_wp2
       go_ret
       exact ⟨_,by first | rfl | (simp [errW_none,errW_some] <;> rfl) | (simp [*,errW_none,errW_some] <;> rfl),by (with_reducible repeat (first | apply zz15 | apply zz16 | apply zz17));exact HO_3.out,by repeat first | exact HB.out | apply zz2 | apply zz0 | apply zz1 | refine zz3 ?_ GE158.out⟩

/-! ### spec_paRename: function 49 (a contract of our own) -/
def rn1 (q:List Int) (T:List (List Bool)) (a:Nat):Nat→Nat→List (List Bool)→Option (List (List Bool))
 | 0,_,O=>some O
 | d+1,b,O=>if ((0≤rd q (a:Int)∧rd q (a:Int) < (O.length:Int))∧(0≤rd q (b:Int)∧rd q (b:Int) < ((rd_L4 O (rd q (a:Int))).length:Int)))∧a < q.length∧b < q.length∧b < (rd_L4 T (a:Int)).length then
   rn1 q T a d (b+1) (O.set (rd q (a:Int)).toNat ((rd_L4 O (rd q (a:Int))).set (rd q (b:Int)).toNat (rdOf false (rd_L4 T (a:Int)) (b:Int)))) else none
def rn0 (q:List Int) (T:List (List Bool)):Nat→Nat→List (List Bool)→Option (List (List Bool))
 | 0,_,O=>some O
 | d+1,a,O=>(rn1 q T a T.length 0 O).bind fun O'=>rn0 q T d (a+1) O'
def spec_paRename.f (k:Nat) (a0_0:Int) (l0_1:List (S70)) (l1:List Int):Option (Int × List (S70)) :=
 (spec_paTable.f k a0_0 l0_1).bind fun T=>if T.length≤1000 then (spec_paTable.f k a0_0 []).bind fun O=>(rn0 l1 T T.length 0 O).bind fun O'=>spec_paOf.f k O' else none
theorem spec_paRename.mono:∀ a0 a1 a2 k,LeO (spec_paRename.f k a0 a1 a2) (spec_paRename.f (k+1) a0 a1 a2):=by
 intro a0 a1 a2 k
 unfold spec_paRename.f
 exact LeO.bind (spec_paTable.mono _ _ _) fun T=>LeO.ite (LeO.bind (spec_paTable.mono _ _ _) fun O=>LeO.bind (LeO.refl _) fun O'=>spec_paOf.mono _ _) (LeO.none _)
set_option maxHeartbeats 400000 in
set_option maxRecDepth 100000 in
theorem spec_paRename.calls (k:Nat) (a0_0:Int) (A0_1:Option Addr) (c0_1:Nat) (l0_1:List (S70)) (A1:Option Addr) (c1:Nat) (l1:List Int) (r1:Int) (r2:List (S70)) (w:World) (hr0_1:Kd.C k70 w A0_1 l0_1.length l0_1) (hc0_1:l0_1.length≤c0_1) (hr1:Kd.C (Kd.int .i64) w A1 l1.length l1) (hc1:l1.length≤c1) (h:spec_paRename.f k a0_0 l0_1 l1=some (r1,r2)) :
  Calls Try.prog 49 #[.agg #[.int .i64 a0_0,.slice A0_1 l0_1.length c0_1],.slice A1 l1.length c1] w fun e w'=>∃ v1_:Value,e=.returned (.agg #[.int .i64 r1,v1_])∧Kd.R k70 70 w' w.heap.size (fun _=>True) v1_ r2∧Below w.heap.size w w':=by
 have hu:=Try.underlying30
 unfold spec_paRename.f at h
 obtain ⟨T,hT,h⟩:=zz30.1 h
 by_cases hTl:T.length≤1000
 case neg=>rw [if_neg hTl] at h;exact absurd h (by simp)
 rw [if_pos hTl] at h
 obtain ⟨O,hO,h⟩:=zz30.1 h
 obtain ⟨O',hrn,h⟩:=zz30.1 h
 have HT:=zz31 hT
 have HTL:=zz31 hTl
 have HO:=zz31 hO
 have HRN:=zz31 hrn
 have HOF:=zz31 h
 have HCC:=zz31 hc0_1
 have HC:=zz31 hr0_1
 have HN:=zz31 hr1
 clear hT hTl hO hrn h hc0_1 hr0_1 hr1
 go_enter Try.func49,Try.ntmps49
 go_wp2_with (first | ((with_reducible refine gate_dst (N:=2) rfl ?_);refine box_event ?hg (N:=2) ?hd (cs:=#[.int .i64 a0_0,.slice A0_1 l0_1.length c0_1]) (t:=30) ?hr ?_;(case hd=>rfl);(case hg=>rfl);(case hr=>first | (go_simp;done) | (go_simp;rfl));intro gb hg w2 hbox hb;have HX:=zz31 hbox;have HB:=zz31 (zz4 (w:=w) (by repeat (first | exact Below.refl _ _ | apply zz0 | apply below_drew | apply zz2)) hb);have HGB:=zz31 (show w.heap.size≤gb from by rw [hg];exact Nat.le_refl _);clear hbox hb hg) | ((with_reducible refine gate_dst (N:=4) rfl ?_);refine box_event ?hg (N:=4) ?hd (cs:=#[.int .i64 0,.slice none 0 0]) (t:=30) ?hr ?_;(case hd=>rfl);(case hg=>rfl);(case hr=>first | (go_simp;done) | (go_simp;rfl));intro gr hg w3 hbox hb;have HY:=zz31 hbox;have HX3:=zz31 (zz11 HX.out hb);have HGR:=zz31 (show w.heap.size≤gr from by rw [hg];exact HB.out.size);have HB3:=zz31 (zz4 HB.out hb);have HC3:=zz31 (Kd.C_below HC.out HB3.out);have f1:=zz9 HX3.out 0;have f2:=zz9 HX3.out 1;simp only [List.getElem?_toArray,List.getElem?_cons_zero,List.getElem?_cons_succ] at f1 f2;clear hbox hb hg) | (go_at_call 43;(with_reducible refine (spec_paTable.calls k a0_0 A0_1 c0_1 l0_1 T w3 HC3.out HCC.out HT.out).mono ?_);rintro e w4 ⟨v4,rfl,ho,hb⟩;obtain ⟨A4,c4,rfl⟩:=Kd.S_slice ho;have HT4:=zz31 (Kd.S_reads' ho).2.2;have HX4:=zz31 (zz11 HX3.out hb);have HY4:=zz31 (zz11 HY.out hb);have HB4:=zz31 (zz4 HB3.out hb);have HN4:=zz31 (Kd.C_below HN.out HB4.out);clear f1 f2;have f1:=zz9 HX4.out 0;have f2:=zz9 HX4.out 1;simp only [List.getElem?_toArray,List.getElem?_cons_zero,List.getElem?_cons_succ] at f1 f2;clear ho hb) | (go_at_call 43;refine (spec_paTable.calls k a0_0 none 0 [] O w4 (Kd.C_nil _ _) (Nat.le_refl _) HO.out).mono ?_;rintro e w5 ⟨v5,rfl,ho,hb⟩;obtain ⟨A5,c5,rfl⟩:=Kd.S_slice ho;have HO5:=zz31 ho;have HB5:=zz31 hb;clear f1 f2 ho hb))
 go_loopg [17] T.length (fun gg v17 wr=>∃ (a:Nat) (O1:List (List Bool)),a≤T.length∧T.length - a≤gg∧v17=.int .i64 a∧Aside0 (rn0 l1 T (T.length - a) a O1=some O')∧Aside0 (O1.length=O.length)∧Aside0 (Kd.S (Kd.slice 4 Kd.bool) 92 wr w4.heap.size (fun _=>True) (.slice A5 O.length c5) O1)∧Aside0 (Below w4.heap.size w4 wr))
 case atStart=>exact ⟨0,O,Nat.zero_le _,Nat.le_refl _,rfl,HRN,⟨rfl⟩,⟨(by (with_reducible repeat (first | apply zz16 | apply zz17));exact HO5.out)⟩,⟨(by repeat (first | exact HB5.out | apply zz0 | apply below_drew))⟩⟩
 case round =>
  obtain ⟨a,O1,hal,hag,rfl,HR,HL,HS,HBr⟩:=hrel
  have hT1:=HTL.out
  by_cases hlt:a < T.length
  ·have hltz:(a:Int) < (T.length:Int):=by omega
   obtain ⟨d,hd⟩:∃ d,T.length - a=d+1:=⟨T.length - a - 1,by omega⟩
   have hd2:T.length - (a+1)=d:=by omega
   have hr:=HR.out
   rw [hd,rn0] at hr
   obtain ⟨O3,hr1,hr0⟩:=zz30.1 hr
   have HR1:=zz31 hr1
   have HR0:=zz31 hr0
   clear hr hr1 hr0
   go_wp2
   go_loopg [22] T.length (fun gg v22 wr=>∃ (b:Nat) (O2:List (List Bool)),b≤T.length∧T.length - b≤gg∧v22=.int .i64 b∧Aside0 (rn1 l1 T a (T.length - b) b O2=some O3)∧Aside0 (O2.length=O.length)∧Aside0 (Kd.S (Kd.slice 4 Kd.bool) 92 wr w4.heap.size (fun _=>True) (.slice A5 O.length c5) O2)∧Aside0 (Below w4.heap.size w4 wr))
   case atStart=>exact ⟨0,O1,Nat.zero_le _,Nat.le_refl _,rfl,HR1,HL,⟨(by (with_reducible repeat (first | apply zz16 | apply zz17));exact HS.out)⟩,⟨(by repeat (first | exact HBr.out | apply zz0 | apply below_drew))⟩⟩
   case round =>
    obtain ⟨b,O2,hbl,hbg,rfl,HR,HL,HS,HBr⟩:=hrel
    by_cases hltb:b < T.length
    ·have hltbz:(b:Int) < (T.length:Int):=by omega
     obtain ⟨d2,hd3⟩:∃ d2,T.length - b=d2+1:=⟨T.length - b - 1,by omega⟩
     have hd4:T.length - (b+1)=d2:=by omega
     have hr:=HR.out
     rw [hd3,rn1] at hr
     by_cases hc:((0≤rd l1 (a:Int)∧rd l1 (a:Int) < (O2.length:Int))∧(0≤rd l1 (b:Int)∧rd l1 (b:Int) < ((rd_L4 O2 (rd l1 (a:Int))).length:Int)))∧a < l1.length∧b < l1.length∧b < (rd_L4 T (a:Int)).length
     case neg=>rw [if_neg hc] at hr;exact absurd hr (by simp)
     rw [if_pos hc] at hr
     have HR2:=zz31 hr
     clear hr
     obtain ⟨⟨⟨hxa0,hxa1⟩,hxb0,hxb1⟩,haq,hbq,hbT⟩:=hc
     have hxa2:rd l1 (a:Int) < (O.length:Int):=by rw [← HL.out];exact hxa1
     have HNr:=zz31 (Kd.C_below HN4.out HBr.out)
     have HTr:=zz31 (Kd.C_below HT4.out HBr.out)
     obtain ⟨adA,eA,hxA⟩:=Kd.at_int HNr.out (a:Int) (by omega) (by omega)
     obtain ⟨adB,eB,hxB⟩:=Kd.at_int HNr.out (b:Int) (by omega) (by omega)
     subst eA
     injection eB with eB
     subst eB
     obtain ⟨adT,AT,cT,eT,hxT,hlT,hiT⟩:=at_L4 HTr.out (a:Int) (by omega) (by omega)
     subst eT
     obtain ⟨adR,eR,hxR⟩:=Kd.at_bool hiT (b:Int) (by omega) (by omega)
     subst eR
     obtain ⟨adO,AO,cO,eO,hxO,hlO,hiO⟩:=at_L4 (Kd.S_reads' HS.out).2.2 (rd l1 (a:Int)) hxa0 hxa1
     subst eO
     obtain ⟨oki,ce,hcl,hM,hcc,hok,hbk⟩:=Kd.S_borrow HS.out [] (rd l1 (a:Int)) hxa0 hxa2
     obtain ⟨ve,rfl,ge⟩:=hM
     have hv:=hcc 0 _ rfl
     rw [Nat.add_zero,show ((Kd.slice 4 Kd.bool)).sz=1 from rfl,Nat.mul_one] at hv
     replace hv:=Option.some.inj (hv.symm.trans hxO)
     subst hv
     clear hcc hcl
     replace ge:=(show Kd.R Kd.bool 4 _ _ _ _ (rd_L4 O2 (rd l1 (a:Int))) from ge)
     obtain ⟨go,co,eo,gb1,gl1,cl1,HG1⟩:=Kd.R_form ge (by omega)
     (first | cases eo | (injection eo with ea_ en_ ec_;(first | subst ea_ | (injection ea_ with ea_;subst ea_));subst ec_;clear en_))
     have hln:(rd_L4 O2 (rd l1 (a:Int))).length=(rd_L4 O2 (rd l1 (a:Int))).length:=rfl
     obtain ⟨hxS,hfS⟩:=Kd.R_celln false ge (rd l1 (b:Int)) hxb0 hxb1
     obtain ⟨bv,hbv⟩:∃ bv,bv=rdOf false (rd_L4 T (a:Int)) (b:Int):=⟨_,rfl⟩
     obtain ⟨xa,hxa⟩:∃ xa,xa=rd l1 (a:Int):=⟨_,rfl⟩
     obtain ⟨xb,hxb⟩:∃ xb,xb=rd l1 (b:Int):=⟨_,rfl⟩
     obtain ⟨nR,hnR⟩:∃ nR,nR=(rd_L4 O2 xa).length:=⟨_,rfl⟩
     obtain ⟨nT,hnT⟩:∃ nT,nT=(rd_L4 T (a:Int)).length:=⟨_,rfl⟩
     have HP:=Kd.R_putg ge (rd l1 (b:Int)) bv
     have HQ:=zz31 (hbk HP.2 (fun k_ e_=>by injection e_ with e_;subst e_;exact ge.1 _ rfl) (Kd.M_row HP.1))
     have HR2':=HR2
     simp only [← hbv,← hxa,← hxb] at HR2' HQ hxS hfS hxA hxO hxa0 hxa1 hxa2 hxb1 hxB hxb0 hxR
     simp only [← hnR,← hnT] at hxb1 hxO hxT hbT
     have HGB1:=zz31 gb1
     clear HP hbk hok ge HG1 HR2 hiT hiO hlO hlT hxa hxb hnR hnT hbv gb1 gl1
     have q1:=eq_true hxa0
     have q2:=eq_true hxa2
     have q3:=eq_true hxb0
     have q4:=eq_true hxb1
     have q5:(a:Int) < (l1.length:Int):=by omega
     have q6:(b:Int) < (l1.length:Int):=by omega
     have q7:(b:Int) < (nT:Int):=by omega
     go_upto_region 9 with (fail)
     simp only [Int.toNat_natCast] at hxA hxB hxR hxT
     go_still_tail 19,(by kernel_rfl)
     change wpList _ _ _ _ _ wr.drew
     have HQ2:Aside0 (Kd.S (Kd.slice 4 Kd.bool) 92 (wr.drew.setCell ⟨go,xb.toNat,none⟩ (.bool bv)) w4.heap.size (fun _=>True) (.slice (some adO) O.length c5) (O2.set xa.toNat ((rd_L4 O2 xa).set xb.toNat bv))):=⟨zz17 HQ.out⟩
     have HB2:Aside0 (Below w4.heap.size w4 (wr.drew.setCell ⟨go,xb.toNat,none⟩ (.bool bv))):=⟨zz3 (by repeat (first | exact HBr.out | apply zz0 | apply below_drew)) HGB1.out⟩
     have hfS2:wr.drew.frozen? ⟨go,xb.toNat,none⟩=false:=hfS
     have hxS2:wr.drew.cell? ⟨go,xb.toNat,none⟩=some (.bool (rdOf false (rd_L4 O2 xa) xb)):=hxS
     clear HQ hxS hfS hxA hxB hxR hxO hxT
     generalize wr.drew=wd at HQ2 HB2 hfS2 hxS2 ⊢
     go_wp2
     go_roundg (T.length - (b+1))
     case measure=>omega
     case rel=>exact ⟨b+1,O2.set xa.toNat ((rd_L4 O2 xa).set xb.toNat bv),by omega,by omega,by go_num,⟨by rw [hd4];exact HR2'.out⟩,⟨by rw [List.length_set];exact HL.out⟩,⟨(by (with_reducible repeat (first | apply zz16 | apply zz17));exact HQ2.out)⟩,⟨(by repeat (first | exact HB2.out | apply zz0 | apply below_drew))⟩⟩
    ·have hltbz:¬ (b:Int) < (T.length:Int):=by omega
     have hr:=HR.out
     rw [show T.length - b=0 by omega,rn1] at hr
     injection hr with hr
     subst hr
     go_wp2
     go_roundg (T.length - (a+1))
     case measure=>omega
     case rel=>exact ⟨a+1,O2,by omega,by omega,by go_num,⟨by rw [hd2];exact HR0.out⟩,HL,⟨(by (with_reducible repeat (first | apply zz16 | apply zz17));exact HS.out)⟩,⟨(by repeat (first | exact HBr.out | apply zz0 | apply below_drew))⟩⟩
  ·have hltz:¬ (a:Int) < (T.length:Int):=by omega
   have hr:=HR.out
   rw [show T.length - a=0 by omega,rn0] at hr
   injection hr with hr
   subst hr
   have HYr:=zz31 (zz11 HY4.out HBr.out)
   have HBw:Aside0 (Below w.heap.size w wr):=⟨HB4.out.trans (HBr.out.mono HB4.out.size)⟩
   have HCO:=zz31 (Kd.S_reads' HS.out).2.2
   have HCc:=zz31 (Kd.S_reads' HS.out).2.1
   rw [← HL.out] at HCc
   go_wp2_with (first | (go_at_call 42;rw [← HL.out];refine (spec_paOf.calls k A5 c5 O1 r1 r2 _ ?_ HCc.out HOF.out).mono ?_;(repeat (first | exact HCO.out | (with_reducible refine zz19 ?_ _) | (with_reducible refine zz20 ?_)));rintro e' w6 ⟨v6,rfl,ho,hb⟩;obtain ⟨A6,c6,rfl⟩:=Kd.R_slice ho;have HR6:=zz31 (Kd.R_lower ho HBw.out.size);have HB6:=zz31 (zz4 HBw.out hb);have HY6:=zz31 (zz11 HYr.out hb);have g1:=zz9 HY6.out 0;have g2:=zz9 HY6.out 1;have g3:=zz10 HY6.out 0;have g4:=zz10 HY6.out 1;simp only [List.getElem?_toArray,List.getElem?_cons_zero,List.getElem?_cons_succ] at g1 g2;clear ho hb))
   refine bodyPost_ret (results_cell_row rfl _ _ gr 30 #[.int .i64 r1,.slice A6 r2.length c6] (0,0) _ rfl (by (with_reducible repeat (first | refine zz6 ?_ _ | refine zz7 ?_));refine blk_put (cs:=#[.int .i64 r1,.slice none 0 0]) ?_ 1 _ rfl;refine blk_put (cs:=#[.int .i64 0,.slice none 0 0]) ?_ 0 _ rfl;(with_reducible repeat (first | refine zz6 ?_ _ | refine zz7 ?_));exact HY6.out) Try.underlying30 rfl (by kernel_rfl)) rfl ?_
   exact ⟨_,rfl,by (with_reducible repeat (first | apply zz13 | apply zz14));exact Kd.R_mono (Kd.R_far (p:=⟨gr,1,none⟩) (Kd.R_far (p:=⟨gr,0,none⟩) (Kd.R_types HR6.out HY6.out (by decide)) (fun _ hk=>hk.2) (.int .i64 r1)) (fun _ hk=>hk.2) (.slice A6 r2.length c6)) (fun _ hk=>trivial),by repeat first | exact HB6.out | apply zz0 | apply below_drew | refine zz3 ?_ HGR.out⟩

/-! ### spec_l1Has: function 48 -/
def spec_l1Has.l0:Nat→Int→List Int→Int→Int→Option (Bool)
 | 0,_,_,_,_=>none
 | k+1,x1,x7,x8,x9=>if x9 < x8 then (if 0≤x9 then (if x9 < (x7.length:Int) then (if (rd x7 x9)=x1 then (some true) else (spec_l1Has.l0 k x1 x7 x8 (wrap64 (x9+1)))) else (none)) else (none)) else (some false)
def spec_l1Has.f (k:Nat) (l0:List Int) (a1:Int):Option (Bool):=spec_l1Has.l0 k a1 l0 (l0.length:Int) 0
theorem spec_l1Has.mono_l:∀ k,(∀ y0 y1 y2 y3,LeO (spec_l1Has.l0 k y0 y1 y2 y3) (spec_l1Has.l0 (k+1) y0 y1 y2 y3))
 | 0=>fun _ _ _ _ r h=>by simp [spec_l1Has.l0] at h
 | k+1=>by
  have ih0:=spec_l1Has.mono_l k
  ·intro y0 y1 y2 y3
   unfold spec_l1Has.l0
   repeat' first
   | (with_reducible exact ih0 _ _ _ _)
   | (with_reducible exact LeO.refl _)
   | (with_reducible exact LeO.none _)
   | (with_reducible refine LeO.ite ?_ ?_)
   | (with_reducible refine LeO.bind ?_ (fun _=>?_))
   | exact ih0 _ _ _ _
   | exact LeO.none _
   | refine LeO.ite ?_ ?_
   | refine LeO.bind ?_ (fun _=>?_)
theorem spec_l1Has.mono:∀ a0 a1 k,LeO (spec_l1Has.f k a0 a1) (spec_l1Has.f (k+1) a0 a1):=by
 intro a0 a1 k
 have ih0:=spec_l1Has.mono_l k
 unfold spec_l1Has.f
 repeat' first
   | (with_reducible exact ih0 _ _ _ _)
   | (with_reducible exact LeO.refl _)
   | (with_reducible exact LeO.none _)
   | (with_reducible refine LeO.ite ?_ ?_)
   | (with_reducible refine LeO.bind ?_ (fun _=>?_))
   | exact ih0 _ _ _ _
   | exact LeO.none _
   | refine LeO.ite ?_ ?_
   | refine LeO.bind ?_ (fun _=>?_)
set_option maxHeartbeats 8000000 in
set_option maxRecDepth 100000 in
theorem spec_l1Has.calls (k:Nat) (A0:Option Addr) (c0:Nat) (l0:List Int) (a1:Int) (r:Bool) (w:World) (hr0:Kd.C (Kd.int .i64) w A0 l0.length l0) (hc0:l0.length≤c0) (h:spec_l1Has.f k l0 a1=some r) :
  Calls Try.prog 48 #[.slice A0 l0.length c0,.int .i64 a1] w fun e w'=>e=.returned (.bool r)∧Drawn0 w w':=by
 have HR0:=zz31 hr0
 have HC0:=zz31 hc0
 clear hr0 hc0
 have H:(spec_l1Has.l0 k a1 l0 (l0.length:Int) 0)=some r:=h
 clear h
 have H':=zz31 H
 clear H
 go_enter Try.func48,Try.ntmps48
 go_wp2
 go_loopg [9] k (fun kq v9 w'=>∃ (x9_1:Int),v9=.int .i64 x9_1∧Aside0 (spec_l1Has.l0 kq a1 l0 (l0.length:Int) x9_1=some r)∧Aside0 (kq≤k)∧Drawn0 w w')
 case atStart=>exact ⟨(0),(by first | rfl | (simp;done) | (simp [*];done)),H',⟨Nat.le_refl _⟩,by repeat (first | exact Drawn0.refl _ | apply Drawn0.step)⟩
 case round =>
  clear H'
  try clear p2
  obtain ⟨x9_1,rfl,HA,HK1,⟨m1,rfl⟩⟩:=hrel
  cases gk with
  | zero=>exact absurd HA.out (by simp [spec_l1Has.l0])
  | succ k1 =>
   have H:=HA.out
   clear HA
   simp only [spec_l1Has.l0] at H
   by_cases c3:x9_1 < (l0.length:Int)
   ·rw [if_pos c3] at H
    have c3b0:decide (x9_1 < (l0.length:Int))=true:=decide_eq_true c3
    clear c3
    by_cases c4:0≤x9_1
    ·rw [if_pos c4] at H
     have c4b0:decide (0≤x9_1)=true:=decide_eq_true c4
     clear c4
     by_cases c5:x9_1 < (l0.length:Int)
     ·rw [if_pos c5] at H
      have c5b0:decide (x9_1 < (l0.length:Int))=true:=decide_eq_true c5
      clear c5
      by_cases c6:(rd l0 x9_1)=a1
      ·rw [if_pos c6] at H
       have c6b0:((rd l0 x9_1) == a1)=true:=beq_iff_eq.mpr c6
       have c6b1:((rd l0 x9_1) != a1)=false:=bne_eq_false_iff_eq.mpr c6
       clear c6
       obtain rfl:=Option.some.inj H
       have p175:0≤(x9_1:Int):=zz29 (by first | (with_reducible assumption) | assumption)
       have q175:x9_1 < (l0.length:Int):=zz29 (by first | (with_reducible assumption) | assumption)
       obtain ⟨ad175,e175,hx175_0⟩:=Kd.at_int HR0.out x9_1 p175 q175
       cases e175
       replace p175:=eq_true p175
       replace q175:=eq_true q175
       go_wp2
       go_ret
       exact ⟨by first | rfl | (simp;done) | (simp [*];done),by repeat (first | exact Drawn0.refl _ | apply Drawn0.step)⟩
      ·rw [if_neg c6] at H
       have c6b0:((rd l0 x9_1) == a1)=false:=beq_eq_false_iff_ne.mpr c6
       have c6b1:((rd l0 x9_1) != a1)=true:=bne_iff_ne.mpr c6
       have H':=zz31 H
       clear H
       have p175:0≤(x9_1:Int):=zz29 (by first | (with_reducible assumption) | assumption)
       have q175:x9_1 < (l0.length:Int):=zz29 (by first | (with_reducible assumption) | assumption)
       obtain ⟨ad175,e175,hx175_0⟩:=Kd.at_int HR0.out x9_1 p175 q175
       cases e175
       replace p175:=eq_true p175
       replace q175:=eq_true q175
       go_wp2
       go_roundg k1
       case measure=>have:=HK1.out;omega
       case rel=>exact ⟨(wrap64 (x9_1+1)),(by first | rfl | (simp;done) | (simp [*];done)),H',⟨by have:=HK1.out;omega⟩,by repeat (first | exact Drawn0.refl _ | apply Drawn0.step)⟩
     ·rw [if_neg c5] at H
      exact absurd H (by simp)
    ·rw [if_neg c4] at H
     exact absurd H (by simp)
   ·rw [if_neg c3] at H
    have c3b0:decide (x9_1 < (l0.length:Int))=false:=decide_eq_false c3
    clear c3
    obtain rfl:=Option.some.inj H
    go_wp2
    go_ret
    exact ⟨by first | rfl | (simp;done) | (simp [*];done),by repeat (first | exact Drawn0.refl _ | apply Drawn0.step)⟩

/-! ### spec_l1Own: function 85 -/
def spec_l1Own.f (l0:List Int):Option (List Int):=(some (([]:List Int):List Int)).bind fun y176=>(if y176.length+l0.length < 17592186044416 then (some (y176 ++ l0)) else (none))
set_option maxHeartbeats 8000000 in
set_option maxRecDepth 100000 in
theorem spec_l1Own.calls (A0:Option Addr) (c0:Nat) (l0:List Int) (r:List Int) (w:World) (hr0:Kd.C (Kd.int .i64) w A0 l0.length l0) (hc0:l0.length≤c0) (h:spec_l1Own.f l0=some r) :
  Calls Try.prog 85 #[.slice A0 l0.length c0] w fun e w'=>∃ v0_:Value,e=.returned (v0_)∧Kd.R (Kd.int .i64) 3 w' w.heap.size (fun _=>True) v0_ r∧Below w.heap.size w w':=by
 have HR0:=zz31 hr0
 have HC0:=zz31 hc0
 clear hr0 hc0
 have HB:=zz31 (Below.refl w.heap.size w)
 have H:((some (([]:List Int):List Int)).bind fun y176=>(if y176.length+l0.length < 17592186044416 then (some (y176 ++ l0)) else (none)))=some r:=h
 clear h
 obtain ⟨y176,hy176⟩:∃ y_:List Int,y_=(([]:List Int)):=⟨_,rfl⟩
 replace H:(if y176.length+l0.length < 17592186044416 then (some (y176 ++ l0)) else (none))=some r:=by first | (rw [hy176];with_reducible exact H) | (have H2_:=(Option.bind_some _ _).symm.trans H;rw [hy176];with_reducible exact H2_) | (have H2_:=(Option.bind_some _ _).symm.trans H;with_reducible exact H2_) | with_reducible exact H | (rw [hy176];exact H) | exact H
 have Ny176:=zz31 hy176
 clear hy176
 by_cases c2:y176.length+l0.length < 17592186044416
 ·rw [if_pos c2] at H
  have LMc2:=zz31 c2
  clear c2
  obtain ⟨y179,hy179⟩:∃ y_:List Int,y_=(y176 ++ l0):=⟨_,rfl⟩
  replace H:(some y179)=some r:=by first | (rw [hy179];with_reducible exact H) | (have H2_:=(Option.bind_some _ _).symm.trans H;rw [hy179];with_reducible exact H2_) | (have H2_:=(Option.bind_some _ _).symm.trans H;with_reducible exact H2_) | with_reducible exact H | (rw [hy179];exact H) | exact H
  have Ny179:=zz31 hy179
  clear hy179
  obtain rfl:=Option.some.inj H
  go_enter Try.func85,Try.ntmps85
  go_wp2_with (first | ((with_reducible refine gate_dst (N:=3) rfl ?_);refine Kd.R_lit (Kd.int .i64) _ 3 ?hg (N:=3) ?hd (xs:=([]:List Int)) (inner:=[]) (ok:=fun _=>True) (okp:=fun _=>True) ?hr ?hp (fun _ hk=>hk) trivial (Below.refl _ _) (Nat.le_refl _) (by simp) ?_;(case hd=>rfl);(case hg=>rfl);(case hr=>first | (go_simp;done) | (go_simp;rfl));(case hp=>exact (Reps.none _ _));intro v177 w3 ho4 hb hg_ hnew_;clear hg_ hnew_;(first | rw [← Ny176.out] at ho4 | (simp only [Int.reduceToNat] at ho4;rw [← Ny176.out] at ho4));have n0_:=zz31 (Kd.R_lower ho4 (zz5 (by repeat first | exact HB.out | apply zz2 | apply zz0 | apply zz1)));have n1_:=zz31 (zz4 (by repeat first | exact HB.out | apply zz2 | apply zz0 | apply zz1) hb);clear HB;have HO178:=n0_;have HB:=n1_;clear n0_ n1_;clear hb ho4) | ((with_reducible refine gate_builtin (b:=.append) (xs:=#[.tmp 3,.tmp 4]) rfl ?_);at_builtin;refine Kd.R_append_rows (Kd.int .i64) (w0:=w) w.heap.size rfl (.tmp 3) (.tmp 4) 40 3 (.int .i64 0) 8 rfl Try.underlying40 info3 rfl (by decide) (by omega) v177 y176 l0 _ _ _ (fun _=>True) (fun _=>False) rfl rfl ?aO ?aR (fun _ _ h=>h) (fun _ h=>h.elim) ?aF ?aB ?aS ?aL ?_;(case aR=>repeat (first | exact (Kd.C_below HR0.out HB.out) | (with_reducible refine zz18 ?_ _) | (with_reducible refine zz19 ?_ _) | (with_reducible refine zz20 ?_)));(case aB=>exact (by repeat first | exact HB.out | apply zz2 | apply zz0 | apply zz1));(case aF=>exact (fun _ _=>trivial));(case aO=>exact (by (with_reducible repeat (first | apply zz12 | apply zz13 | apply zz14));exact HO178.out));(case aS=>exact (zz5 (by repeat first | exact HB.out | apply zz2 | apply zz0 | apply zz1)));(case aL=>have:=LMc2.out;omega);intro v180 w5 ho hb hg hat;rw [← Ny179.out] at ho;have n0_:=zz31 (hb);have n1_:=zz31 (ho);clear HB;clear HO178;have HB:=n0_;have HO181:=n1_;clear n0_ n1_;clear ho hb hg hat))
  go_ret
  exact ⟨_,by first | rfl | (simp [errW_none,errW_some] <;> rfl) | (simp [*,errW_none,errW_some] <;> rfl),by (with_reducible repeat (first | apply zz12 | apply zz13 | apply zz14));exact HO181.out,by repeat first | exact HB.out | apply zz2 | apply zz0 | apply zz1⟩
 ·rw [if_neg c2] at H
  exact absurd H (by simp)

/-! ### spec_paNames: function 61 -/
mutual
def spec_paNames.l0:Nat→Int→List Int→List (List Int)→Int→Option ((List (List Int)))
 | 0,_,_,_,_=>none
 | k+1,x0,x1,x5,x6=>if x6 < x0 then ((spec_l1Has.f k x1 x6).bind fun t188=>(if t188=true then (spec_paNames.l0 k x0 x1 x5 (wrap64 (x6+1))) else ((spec_l1Own.f x1).bind fun t189=>(if t189.length < 17592186044416 then ((spec_paNames.f k x0 (t189 ++ [x6])).bind fun t195=>(if x5.length+t195.length < 5864062014805 then (spec_paNames.l0 k x0 x1 (x5 ++ t195) (wrap64 (x6+1))) else (none))) else (none))))) else (some x5)
def spec_paNames.f:Nat→Int→List Int→Option ((List (List Int)))
 | 0,_,_=>none
 | k+1,a0,l1=>if (l1.length:Int)=a0 then ((spec_l1Own.f l1).bind fun t182=>(some (([t182]:List (List Int))))) else (spec_paNames.l0 k a0 l1 ([]:List (List Int)) 0)
end
theorem spec_paNames.mono_l:∀ k,(∀ y0 y1,LeO (spec_paNames.f k y0 y1) (spec_paNames.f (k+1) y0 y1))∧(∀ y0 y1 y2 y3,LeO (spec_paNames.l0 k y0 y1 y2 y3) (spec_paNames.l0 (k+1) y0 y1 y2 y3))
 | 0=>⟨fun _ _ r h=>by simp [spec_paNames.f] at h,fun _ _ _ _ r h=>by simp [spec_paNames.l0] at h⟩
 | k+1=>by
  obtain ⟨ih0,ih1⟩:=spec_paNames.mono_l k
  refine ⟨?_,?_⟩
  ·intro y0 y1
   unfold spec_paNames.f
   repeat' first
   | (with_reducible exact ih0 _ _)
   | (with_reducible exact ih1 _ _ _ _)
   | (with_reducible exact spec_l1Has.mono _ _ _)
   | (with_reducible exact LeO.refl _)
   | (with_reducible exact LeO.none _)
   | (with_reducible refine LeO.ite ?_ ?_)
   | (with_reducible refine LeO.bind ?_ (fun _=>?_))
   | exact ih0 _ _
   | exact ih1 _ _ _ _
   | exact spec_l1Has.mono _ _ _
   | exact LeO.none _
   | refine LeO.ite ?_ ?_
   | refine LeO.bind ?_ (fun _=>?_)
  ·intro y0 y1 y2 y3
   unfold spec_paNames.l0
   repeat' first
   | (with_reducible exact ih0 _ _)
   | (with_reducible exact ih1 _ _ _ _)
   | (with_reducible exact spec_l1Has.mono _ _ _)
   | (with_reducible exact LeO.refl _)
   | (with_reducible exact LeO.none _)
   | (with_reducible refine LeO.ite ?_ ?_)
   | (with_reducible refine LeO.bind ?_ (fun _=>?_))
   | exact ih0 _ _
   | exact ih1 _ _ _ _
   | exact spec_l1Has.mono _ _ _
   | exact LeO.none _
   | refine LeO.ite ?_ ?_
   | refine LeO.bind ?_ (fun _=>?_)
theorem spec_paNames.mono:∀ a0 a1 k,LeO (spec_paNames.f k a0 a1) (spec_paNames.f (k+1) a0 a1):=by
 intro a0 a1 k
 obtain ⟨ih0,ih1⟩:=spec_paNames.mono_l k
 exact ih0 a0 a1
set_option maxHeartbeats 8000000 in
set_option maxRecDepth 100000 in
theorem spec_paNames.calls (k:Nat):∀ (a0:Int) (A1:Option Addr) (c1:Nat) (l1:List Int) (r:List (List Int)) (w:World) (hr1:Kd.C (Kd.int .i64) w A1 l1.length l1) (hc1:l1.length≤c1) (h:spec_paNames.f k a0 l1=some r),
  Calls Try.prog 61 #[.int .i64 a0,.slice A1 l1.length c1] w fun e w'=>∃ v0_:Value,e=.returned (v0_)∧Kd.N (Kd.slice 3 (Kd.int .i64)) 40 w' w.heap.size (fun k_=>(w.heap.size≤k_)) v0_ r∧Below w.heap.size w w':=by
 induction k using Nat.strongRecOn with
 | _ k ih =>
 intro a0 A1 c1 l1 r w hr1 hc1 h
 cases k with
 | zero=>exact absurd h (by simp [spec_paNames.f])
 | succ k =>
 simp only [spec_paNames.f] at h
 have HR1:=zz31 hr1
 have HC1:=zz31 hc1
 clear hr1 hc1
 have HB:=zz31 (Below.refl w.heap.size w)
 have H:(if (l1.length:Int)=a0 then ((spec_l1Own.f l1).bind fun t182=>(some (([t182]:List (List Int))))) else (spec_paNames.l0 k a0 l1 ([]:List (List Int)) 0))=some r:=h
 clear h
 by_cases c3:(l1.length:Int)=a0
 ·rw [if_pos c3] at H
  have c3b0:((l1.length:Int) == a0)=true:=beq_iff_eq.mpr c3
  have c3b1:((l1.length:Int) != a0)=false:=bne_eq_false_iff_eq.mpr c3
  clear c3
  replace H:=zz30.mp H
  obtain ⟨t182,A40,H⟩:=H
  replace H:(some (([t182]:List (List Int))))=some r:=H
  have A4:=zz31 A40
  clear A40
  obtain ⟨y185,hy185⟩:∃ y_:List (List Int),y_=(([t182]:List (List Int))):=⟨_,rfl⟩
  replace H:(some y185)=some r:=by first | (rw [hy185];with_reducible exact H) | (have H2_:=(Option.bind_some _ _).symm.trans H;rw [hy185];with_reducible exact H2_) | (have H2_:=(Option.bind_some _ _).symm.trans H;with_reducible exact H2_) | with_reducible exact H | (rw [hy185];exact H) | exact H
  have Ny185:=zz31 hy185
  clear hy185
  obtain rfl:=Option.some.inj H
  go_enter Try.func61,Try.ntmps61
  go_wp2_with (first | ((with_reducible refine gate_callee (f:=85) rfl ?_);refine goesL_ (some 12) rfl rfl Try.func85 (by kernel_rfl) rfl #[.slice A1 l1.length c1] rfl (by (try simp only [zz26,zz27,zz28]);first | done | rfl | (simp only [zz24,zz25];rfl)) ?_;(with_reducible refine (spec_l1Own.calls _ _ l1 t182 _ ?side1 ?side2 A4.out).mono ?_);(case side1=>repeat (first | exact HR1.out | (with_reducible refine zz18 ?_ _) | (with_reducible refine zz19 ?_ _) | (with_reducible refine zz20 ?_)));(case side2=>exact HC1.out);rintro e w5 ⟨v183,rfl,ho0,hb⟩;refine ⟨_,rfl,?_⟩;have n0_:=zz31 (Kd.R_lower (Kd.R_newM (M:=fun k_=>(w.heap.size≤k_)) ho0 (zz5 (by repeat first | exact HB.out | apply zz2 | apply zz0 | apply zz1)) (fun k_ h_=>h_)) (zz5 (by repeat first | exact HB.out | apply zz2 | apply zz0 | apply zz1)));have n1_:=zz31 (zz4 (by repeat first | exact HB.out | apply zz2 | apply zz0 | apply zz1) hb);clear HB;have HO184:=n0_;have HB:=n1_;clear n0_ n1_;(try clear hb);(try clear hb2);(try clear hk);(try clear hi);(try clear ho0);obtain ⟨Ao6,co6,eo6⟩:=Kd.R_slice HO184.out;subst eo6) | ((with_reducible refine gate_dst (N:=13) rfl ?_);refine Kd.N_lit (Kd.slice 3 (Kd.int .i64)) _ 40 ?hg (N':=13) ?hd (xs:=([t182]:List (List Int))) (inner:=[.slice Ao6 t182.length co6]) (ok:=(fun k_=>(w.heap.size≤k_))) (okp:=(fun k_=>(w.heap.size≤k_))) ?hr ?hp (fun _ hk=>hk) ((show ∀ k_,w5.heap.size≤k_→(fun k_=>(w.heap.size≤k_)) k_ from fun k_ hk=>(Nat.le_trans (zz5 (by repeat first | exact HB.out | apply zz2 | apply zz0 | apply zz1)) hk)) _ (Nat.le_refl _)) (Below.refl _ _) (Nat.le_refl _) (by simp) ?_;(case hd=>rfl);(case hg=>rfl);(case hr=>first | (go_simp;done) | (go_simp;rfl));(case hp=>exact (Reps.one (show Kd.FK (Kd.slice 3 (Kd.int .i64)) _ _ t182 [.slice Ao6 t182.length co6] from (Kd.FK_slice_mk (Kd.R_reads' (Kd.R_mono (ok':=(fun k_=>(w.heap.size≤k_))) (HO184.out) (fun k_ hk=>hk.1))).2.1 (Kd.R_F (Kd.R_mono (ok':=(fun k_=>(w.heap.size≤k_))) (HO184.out) (fun k_ hk=>hk.1))))) (Reps.none _ _)));intro v186 w7 ho8 hb hg_ hnew_;clear hg_ hnew_;(first | rw [← Ny185.out] at ho8 | (simp only [Int.reduceToNat] at ho8;rw [← Ny185.out] at ho8));have n0_:=zz31 (Kd.N_lower ho8 (zz5 (by repeat first | exact HB.out | apply zz2 | apply zz0 | apply zz1)));have n1_:=zz31 (zz4 (by repeat first | exact HB.out | apply zz2 | apply zz0 | apply zz1) hb);clear HB;clear HO184;have HO187:=n0_;have HB:=n1_;clear n0_ n1_;clear hb ho8))
  go_ret
  exact ⟨_,by first | rfl | (simp [errW_none,errW_some] <;> rfl) | (simp [*,errW_none,errW_some] <;> rfl),by (with_reducible repeat (first | apply Kd.N_alloc | apply Kd.N_drewN | apply Kd.N_drew));exact HO187.out,by repeat first | exact HB.out | apply zz2 | apply zz0 | apply zz1⟩
 ·rw [if_neg c3] at H
  have c3b0:((l1.length:Int) == a0)=false:=beq_eq_false_iff_ne.mpr c3
  have c3b1:((l1.length:Int) != a0)=true:=bne_iff_ne.mpr c3
  have H':=zz31 H
  clear H
  go_enter Try.func61,Try.ntmps61
  go_wp2
  go_loopg [5,6] k (fun kq v5 v6 w'=>∃ (x5_1:List (List Int)) (x6_1:Int),v6=.int .i64 x6_1∧Aside0 (spec_paNames.l0 kq a0 l1 x5_1 x6_1=some r)∧Aside0 (kq≤k)∧Aside0 (Kd.N (Kd.slice 3 (Kd.int .i64)) 40 w' w.heap.size (fun k_=>(w.heap.size≤k_)) v5 x5_1)∧Aside0 (Below w.heap.size w w'))
  case atStart=>exact ⟨(([]:List (List Int))),(0),(by first | rfl | (simp;done) | (simp [*];done)),H',⟨Nat.le_refl _⟩,⟨by first | exact Kd.S_nil _ _ _ _ _ | exact Kd.N_nil _ _ _ _ _ | exact Kd.V_nil _ _ _ _ _ | exact Kd.Q_nil _ _ _ _ _ | exact Kd.R_nil _ _ _ _ _⟩,⟨by repeat first | exact HB.out | apply zz2 | apply zz0 | apply zz1⟩⟩
  case round =>
   clear H'
   try clear c1
   try clear p2
   try clear c3
   try clear c3b0
   try clear c3b1
   try clear c6
   try clear c8
   obtain ⟨x5_1,x6_1,rfl,HA,HK1,HO_5,HB⟩:=hrel
   cases gk with
   | zero=>exact absurd HA.out (by simp [spec_paNames.l0])
   | succ k1 =>
    have H:=HA.out
    clear HA
    simp only [spec_paNames.l0] at H
    by_cases c9:x6_1 < a0
    ·rw [if_pos c9] at H
     have c9b0:decide (x6_1 < a0)=true:=decide_eq_true c9
     clear c9
     replace H:=zz30.mp H
     obtain ⟨t188,A100,H⟩:=H
     replace H:(if t188=true then (spec_paNames.l0 k1 a0 l1 x5_1 (wrap64 (x6_1+1))) else ((spec_l1Own.f l1).bind fun t189=>(if t189.length < 17592186044416 then ((spec_paNames.f k1 a0 (t189 ++ [x6_1])).bind fun t195=>(if x5_1.length+t195.length < 5864062014805 then (spec_paNames.l0 k1 a0 l1 (x5_1 ++ t195) (wrap64 (x6_1+1))) else (none))) else (none))))=some r:=H
     have A10:=zz31 A100
     clear A100
     by_cases c11:t188=true
     ·subst c11
      have H1:(spec_paNames.l0 k1 a0 l1 x5_1 (wrap64 (x6_1+1)))=some r:=by rw [if_pos rfl] at H;exact H
      clear H
      have H:=H1
      clear H1
      have H':=zz31 H
      clear H
      go_wp2_with (first | ((with_reducible refine gate_callee (f:=48) rfl ?_);refine goesL_ (some 21) rfl rfl Try.func48 (by kernel_rfl) rfl #[.slice A1 l1.length c1,.int .i64 x6_1] rfl (by (try simp only [zz26,zz27,zz28]);first | done | rfl | (simp only [zz24,zz25];rfl)) ?_;(with_reducible refine (spec_l1Has.calls k1 _ _ l1 x6_1 true _ ?side1 ?side2 A10.out).mono ?_);(case side1=>repeat (first | exact (Kd.C_below HR1.out HB.out) | (with_reducible refine zz18 ?_ _) | (with_reducible refine zz19 ?_ _) | (with_reducible refine zz20 ?_)));(case side2=>exact HC1.out);rintro e w' ⟨rfl,⟨nd,rfl⟩⟩;refine ⟨_,rfl,?_⟩))
      go_roundg k1
      case measure=>have:=HK1.out;omega
      case rel=>exact ⟨(x5_1),(wrap64 (x6_1+1)),(by first | rfl | (simp;done) | (simp [*];done)),H',⟨by have:=HK1.out;omega⟩,⟨by (with_reducible repeat (first | apply Kd.N_alloc | apply Kd.N_drewN | apply Kd.N_drew));exact HO_5.out⟩,⟨by repeat first | exact HB.out | apply zz2 | apply zz0 | apply zz1⟩⟩
     ·replace c11:=Bool.eq_false_iff.mpr c11
      subst c11
      have H1:((spec_l1Own.f l1).bind fun t189=>(if t189.length < 17592186044416 then ((spec_paNames.f k1 a0 (t189 ++ [x6_1])).bind fun t195=>(if x5_1.length+t195.length < 5864062014805 then (spec_paNames.l0 k1 a0 l1 (x5_1 ++ t195) (wrap64 (x6_1+1))) else (none))) else (none)))=some r:=by rw [if_neg (show ¬ (false=true) by decide)] at H;exact H
      clear H
      have H:=H1
      clear H1
      replace H:=zz30.mp H
      obtain ⟨t189,A120,H⟩:=H
      replace H:(if t189.length < 17592186044416 then ((spec_paNames.f k1 a0 (t189 ++ [x6_1])).bind fun t195=>(if x5_1.length+t195.length < 5864062014805 then (spec_paNames.l0 k1 a0 l1 (x5_1 ++ t195) (wrap64 (x6_1+1))) else (none))) else (none))=some r:=H
      have A12:=zz31 A120
      clear A120
      by_cases c13:t189.length < 17592186044416
      ·rw [if_pos c13] at H
       have LMc13:=zz31 c13
       clear c13
       obtain ⟨y192,hy192⟩:∃ y_:List Int,y_=(t189 ++ [x6_1]):=⟨_,rfl⟩
       replace H:((spec_paNames.f k1 a0 y192).bind fun t195=>(if x5_1.length+t195.length < 5864062014805 then (spec_paNames.l0 k1 a0 l1 (x5_1 ++ t195) (wrap64 (x6_1+1))) else (none)))=some r:=by first | (rw [hy192];with_reducible exact H) | (have H2_:=(Option.bind_some _ _).symm.trans H;rw [hy192];with_reducible exact H2_) | (have H2_:=(Option.bind_some _ _).symm.trans H;with_reducible exact H2_) | with_reducible exact H | (rw [hy192];exact H) | exact H
       have Ny192:=zz31 hy192
       clear hy192
       replace H:=zz30.mp H
       obtain ⟨t195,A140,H⟩:=H
       replace H:(if x5_1.length+t195.length < 5864062014805 then (spec_paNames.l0 k1 a0 l1 (x5_1 ++ t195) (wrap64 (x6_1+1))) else (none))=some r:=H
       have A14:=zz31 A140
       clear A140
       by_cases c15:x5_1.length+t195.length < 5864062014805
       ·rw [if_pos c15] at H
        have LMc15:=zz31 c15
        clear c15
        obtain ⟨y198,hy198⟩:∃ y_:List (List Int),y_=(x5_1 ++ t195):=⟨_,rfl⟩
        replace H:(spec_paNames.l0 k1 a0 l1 y198 (wrap64 (x6_1+1)))=some r:=by first | (rw [hy198];with_reducible exact H) | (have H2_:=(Option.bind_some _ _).symm.trans H;rw [hy198];with_reducible exact H2_) | (have H2_:=(Option.bind_some _ _).symm.trans H;with_reducible exact H2_) | with_reducible exact H | (rw [hy198];exact H) | exact H
        have Ny198:=zz31 hy198
        clear hy198
        have H':=zz31 H
        clear H
        go_wp2_with (first | ((with_reducible refine gate_callee (f:=48) rfl ?_);refine goesL_ (some 21) rfl rfl Try.func48 (by kernel_rfl) rfl #[.slice A1 l1.length c1,.int .i64 x6_1] rfl (by (try simp only [zz26,zz27,zz28]);first | done | rfl | (simp only [zz24,zz25];rfl)) ?_;(with_reducible refine (spec_l1Has.calls k1 _ _ l1 x6_1 false _ ?side1 ?side2 A10.out).mono ?_);(case side1=>repeat (first | exact (Kd.C_below HR1.out HB.out) | (with_reducible refine zz18 ?_ _) | (with_reducible refine zz19 ?_ _) | (with_reducible refine zz20 ?_)));(case side2=>exact HC1.out);rintro e w' ⟨rfl,⟨nd,rfl⟩⟩;refine ⟨_,rfl,?_⟩) | ((with_reducible refine gate_callee (f:=85) rfl ?_);refine goesL_ (some 26) rfl rfl Try.func85 (by kernel_rfl) rfl #[.slice A1 l1.length c1] rfl (by (try simp only [zz26,zz27,zz28]);first | done | rfl | (simp only [zz24,zz25];rfl)) ?_;(with_reducible refine (spec_l1Own.calls _ _ l1 t189 _ ?side1 ?side2 A12.out).mono ?_);(case side1=>repeat (first | exact (Kd.C_below HR1.out (by repeat first | exact HB.out | apply zz2 | apply zz0 | apply zz1)) | (with_reducible refine zz18 ?_ _) | (with_reducible refine zz19 ?_ _) | (with_reducible refine zz20 ?_)));(case side2=>exact HC1.out);rintro e w16 ⟨v190,rfl,ho0,hb⟩;refine ⟨_,rfl,?_⟩;have n0_:=zz31 (Kd.N_elder' (by (with_reducible repeat (first | apply Kd.N_alloc | apply Kd.N_drewN | apply Kd.N_drew));exact HO_5.out) (Kd.R_base ho0) hb);have n1_:=zz31 (Kd.R_lower (Kd.R_newM (M:=fun k_=>(w.heap.size≤k_)) ho0 (zz5 (by repeat first | exact HB.out | apply zz2 | apply zz0 | apply zz1)) (fun k_ h_=>h_)) (zz5 (by repeat first | exact HB.out | apply zz2 | apply zz0 | apply zz1)));have n2_:=zz31 (zz4 (by repeat first | exact HB.out | apply zz2 | apply zz0 | apply zz1) hb);clear HO_5;clear HB;have HO_5:=n0_;have HO191:=n1_;have HB:=n2_;clear n0_ n1_ n2_;(try clear hb);(try clear hb2);(try clear hk);(try clear hi);(try clear ho0)) | ((with_reducible refine gate_builtin (b:=.append) (xs:=#[.tmp 26,.tmp 28]) rfl ?_);at_builtin;refine Kd.R_append (Kd.int .i64) (w0:=w) w.heap.size rfl (.tmp 26) (.tmp 28) 40 3 (.int .i64 0) 8 rfl Try.underlying40 info3 rfl (by decide) (by omega) v190 t189 x6_1 [.int .i64 x6_1] (fun k_=>(w.heap.size≤k_)) (fun _=>False) rfl rfl ?aP (fun _ hk=>hk.elim) ?aF ?aO ?aB ?aS ?aL ?_;(case aP=>exact rfl);(case aB=>exact (by repeat first | exact HB.out | apply zz2 | apply zz0 | apply zz1));(case aF=>exact (fun k_ hk=>(Nat.le_trans (zz5 (by repeat first | exact HB.out | apply zz2 | apply zz0 | apply zz1)) hk)));(case aO=>exact (by (with_reducible repeat (first | apply zz12 | apply zz13 | apply zz14));exact Kd.R_mono HO191.out (fun _ hk=>hk.1)));(case aS=>exact (zz5 (by repeat first | exact HB.out | apply zz2 | apply zz0 | apply zz1)));(case aL=>have:=LMc13.out;omega);intro v193 w17 ho hb hg hat;rw [← Ny192.out] at ho;have n0_:=zz31 (Kd.N_afterv (ok:=(fun k_=>(w.heap.size≤k_))) (by (with_reducible repeat (first | apply Kd.N_alloc | apply Kd.N_drewN | apply Kd.N_drew));exact HO_5.out) hg hat);have n1_:=zz31 (hb);have n2_:=zz31 (ho);clear HO_5;clear HB;clear HO191;have HO_5:=n0_;have HB:=n1_;have HO194:=n2_;clear n0_ n1_ n2_;clear ho hb hg hat;obtain ⟨Ao18,co18,eo18⟩:=Kd.R_slice HO194.out;subst eo18) | ((with_reducible refine gate_callee (f:=61) rfl ?_);refine goesL_ (some 30) rfl rfl Try.func61 (by kernel_rfl) rfl #[.int .i64 a0,.slice Ao18 y192.length co18] rfl (by (try simp only [zz26,zz27,zz28]);first | done | rfl | (simp only [zz24,zz25];rfl)) ?_;(with_reducible refine (ih k1 (by have:=HK1.out;omega) a0 _ _ y192 t195 _ ?side1 ?side2 A14.out).mono ?_);(case side1=>repeat (first | exact (Kd.R_reads' HO194.out).2.2 | (with_reducible refine zz18 ?_ _) | (with_reducible refine zz19 ?_ _) | (with_reducible refine zz20 ?_)));(case side2=>exact (Kd.R_reads' HO194.out).2.1);rintro e w19 ⟨v196,rfl,ho0,hb⟩;refine ⟨_,rfl,?_⟩;have n0_:=zz31 (Kd.N_elder' (by (with_reducible repeat (first | apply Kd.N_alloc | apply Kd.N_drewN | apply Kd.N_drew));exact HO_5.out) (Kd.N_base ho0) hb);have n1_:=zz31 (Kd.R_below (by (with_reducible repeat (first | apply zz12 | apply zz13 | apply zz14));exact HO194.out) hb);have n2_:=zz31 (Kd.N_lower (Kd.N_mono (ok':=fun k_=>(w.heap.size≤k_)∧some k_ ≠ (u5:Value).ownBlock∧some k_ ≠ (.slice Ao18 y192.length co18:Value).ownBlock) ho0 (fun k_ hk_=>⟨(Nat.le_trans (zz5 (by repeat first | exact HB.out | apply zz2 | apply zz0 | apply zz1)) hk_),(Kd.fresh' (Kd.N_lt (by (with_reducible repeat (first | apply Kd.N_alloc | apply Kd.N_drewN | apply Kd.N_drew));exact HO_5.out)) k_ hk_),(Kd.fresh' (Kd.R_lt (by (with_reducible repeat (first | apply zz12 | apply zz13 | apply zz14));exact HO194.out)) k_ hk_)⟩)) (zz5 (by repeat first | exact HB.out | apply zz2 | apply zz0 | apply zz1)));have n3_:=zz31 (zz4 (by repeat first | exact HB.out | apply zz2 | apply zz0 | apply zz1) hb);clear HO_5;clear HO194;clear HB;have HO_5:=n0_;have HO194:=n1_;have HO197:=n2_;have HB:=n3_;clear n0_ n1_ n2_ n3_;(try clear hb);(try clear hb2);(try clear hk);(try clear hi);(try clear ho0);obtain ⟨Ao21,co21,eo21⟩:=Kd.N_slice HO197.out;subst eo21) | ((with_reducible refine gate_builtin (b:=.append) (xs:=#[.tmp 23,.tmp 30]) rfl ?_);at_builtin;refine Kd.N_append_rows (Kd.slice 3 (Kd.int .i64)) (w0:=w) w.heap.size rfl (.tmp 23) (.tmp 30) 83 40 (.slice none 0 0) 24 rfl Try.underlying83 info40 rfl (by decide) (by omega) u5 x5_1 t195 _ _ _ (fun k_=>(w.heap.size≤k_)∧some k_ ≠ (.slice Ao18 y192.length co18:Value).ownBlock) (fun k_=>((fun k_=>(w.heap.size≤k_)∧some k_ ≠ (.slice Ao18 y192.length co18:Value).ownBlock)) k_∧some k_ ≠ (u5:Value).ownBlock) rfl rfl ?aO ?aR (fun _ hk=>hk) ?aF ?aB ?aS ?aL ?_;(case aR=>exact (by skip;exact Kd.N_F (Kd.N_mono (ok':=(fun k_=>((fun k_=>(w.heap.size≤k_)∧some k_ ≠ (.slice Ao18 y192.length co18:Value).ownBlock)) k_∧some k_ ≠ (u5:Value).ownBlock)) (HO197.out) (fun k_ hk=>⟨⟨hk.1,hk.2.2⟩,hk.2.1⟩))));(case aB=>exact (by repeat first | exact HB.out | apply zz2 | apply zz0 | apply zz1));(case aF=>exact (fun k_ hk=>⟨(Nat.le_trans (zz5 (by repeat first | exact HB.out | apply zz2 | apply zz0 | apply zz1)) hk),Kd.fresh' (Kd.R_lt (by (with_reducible repeat (first | apply zz12 | apply zz13 | apply zz14));exact HO194.out)) k_ hk⟩));(case aO=>exact (by (with_reducible repeat (first | apply Kd.N_alloc | apply Kd.N_drewN | apply Kd.N_drew));exact Kd.N_mono HO_5.out (fun _ hk=>⟨hk.1.1,hk.1.2⟩)));(case aS=>exact (zz5 (by repeat first | exact HB.out | apply zz2 | apply zz0 | apply zz1)));(case aL=>have:=LMc15.out;omega);intro v199 w20 ho hb hg hat;rw [← Ny198.out] at ho;have n0_:=zz31 (Kd.R_over' (by (with_reducible repeat (first | apply zz12 | apply zz13 | apply zz14));exact HO194.out) (Kd.N_typed (by (with_reducible repeat (first | apply Kd.N_alloc | apply Kd.N_drewN | apply Kd.N_drew));exact HO_5.out)) (by decide) hg);have n1_:=zz31 (Kd.N_afterv (ok:=(fun k_=>(w.heap.size≤k_)∧some k_ ≠ (.slice Ao18 y192.length co18:Value).ownBlock)) (by (with_reducible repeat (first | apply Kd.N_alloc | apply Kd.N_drewN | apply Kd.N_drew));exact Kd.N_mono HO197.out (fun _ hk=>⟨⟨hk.1,hk.2.2⟩,hk.2.1⟩)) hg hat);have n2_:=zz31 (hb);have n3_:=zz31 (ho);clear HO194;clear HO197;clear HB;clear HO_5;have HO194:=n0_;have HO197:=n1_;have HB:=n2_;have HO200:=n3_;clear n0_ n1_ n2_ n3_;clear ho hb hg hat))
        go_roundg k1
        case measure=>have:=HK1.out;omega
        case rel=>exact ⟨(y198),(wrap64 (x6_1+1)),(by first | rfl | (simp;done) | (simp [*];done)),H',⟨by have:=HK1.out;omega⟩,⟨by (with_reducible repeat (first | apply Kd.N_alloc | apply Kd.N_drewN | apply Kd.N_drew));exact Kd.N_mono HO200.out (fun _ hk=>hk.1)⟩,⟨by repeat first | exact HB.out | apply zz2 | apply zz0 | apply zz1⟩⟩
       ·rw [if_neg c15] at H
        exact absurd H (by simp)
      ·rw [if_neg c13] at H
       exact absurd H (by simp)
    ·rw [if_neg c9] at H
     have c9b0:decide (x6_1 < a0)=false:=decide_eq_false c9
     clear c9
     obtain rfl:=Option.some.inj H
     go_wp2
     go_ret
     exact ⟨_,by first | rfl | (simp [errW_none,errW_some] <;> rfl) | (simp [*,errW_none,errW_some] <;> rfl),by (with_reducible repeat (first | apply Kd.N_alloc | apply Kd.N_drewN | apply Kd.N_drew));exact HO_5.out,by repeat first | exact HB.out | apply zz2 | apply zz0 | apply zz1⟩

/-! ### spec_paLeast: function 31 -/
def spec_paLeast.l0:Nat→Int→List (List Int)→Int→Int→Int→List (S70)→Int→List (S70)→Option (Int × (List (S70)) × Int)
 | 0,_,_,_,_,_,_,_,_=>none
 | k+1,x5,x12,x13,x14,x202000,x202001,x204000,x204001=>if x14 < x13 then (if 0≤x14 then (if x14 < (x12.length:Int) then ((spec_paRename.f k x202000 x202001 (rd_L7 x12 x14)).bind fun bt208=>((spec_paBefore.f k bt208.1 bt208.2 x204000 x204001).bind fun t213=>(if t213=true then (spec_paLeast.l0 k 1 x12 x13 (wrap64 (x14+1)) x202000 x202001 bt208.1 bt208.2) else ((spec_paSame.f k bt208.1 bt208.2 x204000 x204001).bind fun t214=>(if t214=true then (spec_paLeast.l0 k (wrap64 (x5+1)) x12 x13 (wrap64 (x14+1)) x202000 x202001 x204000 x204001) else (spec_paLeast.l0 k x5 x12 x13 (wrap64 (x14+1)) x202000 x202001 x204000 x204001)))))) else (none)) else (none)) else (some (x204000,x204001,x5))
def spec_paLeast.f (k:Nat) (a0_0:Int) (l0_1:List (S70)):Option (Int × (List (S70)) × Int):=(spec_paNames.f k a0_0 ([]:List Int)).bind fun t204=>(spec_paLeast.l0 k 0 t204 (t204.length:Int) 0 a0_0 l0_1 a0_0 l0_1)
theorem spec_paLeast.mono_l:∀ k,(∀ y0 y1 y2 y3 y4 y5 y6 y7,LeO (spec_paLeast.l0 k y0 y1 y2 y3 y4 y5 y6 y7) (spec_paLeast.l0 (k+1) y0 y1 y2 y3 y4 y5 y6 y7))
 | 0=>fun _ _ _ _ _ _ _ _ r h=>by simp [spec_paLeast.l0] at h
 | k+1=>by
  have ih0:=spec_paLeast.mono_l k
  ·intro y0 y1 y2 y3 y4 y5 y6 y7
   unfold spec_paLeast.l0
   repeat' first
   | (with_reducible exact ih0 _ _ _ _ _ _ _ _)
   | (with_reducible exact spec_paBefore.mono _ _ _ _ _)
   | (with_reducible exact spec_paNames.mono _ _ _)
   | (with_reducible exact spec_paRename.mono _ _ _ _)
   | (with_reducible exact spec_paSame.mono _ _ _ _ _)
   | (with_reducible exact LeO.refl _)
   | (with_reducible exact LeO.none _)
   | (with_reducible refine LeO.ite ?_ ?_)
   | (with_reducible refine LeO.bind ?_ (fun _=>?_))
   | exact ih0 _ _ _ _ _ _ _ _
   | exact spec_paBefore.mono _ _ _ _ _
   | exact spec_paNames.mono _ _ _
   | exact spec_paRename.mono _ _ _ _
   | exact spec_paSame.mono _ _ _ _ _
   | exact LeO.none _
   | refine LeO.ite ?_ ?_
   | refine LeO.bind ?_ (fun _=>?_)
theorem spec_paLeast.mono:∀ a0 a1 k,LeO (spec_paLeast.f k a0 a1) (spec_paLeast.f (k+1) a0 a1):=by
 intro a0 a1 k
 have ih0:=spec_paLeast.mono_l k
 unfold spec_paLeast.f
 repeat' first
   | (with_reducible exact ih0 _ _ _ _ _ _ _ _)
   | (with_reducible exact spec_paBefore.mono _ _ _ _ _)
   | (with_reducible exact spec_paNames.mono _ _ _)
   | (with_reducible exact spec_paRename.mono _ _ _ _)
   | (with_reducible exact spec_paSame.mono _ _ _ _ _)
   | (with_reducible exact LeO.refl _)
   | (with_reducible exact LeO.none _)
   | (with_reducible refine LeO.ite ?_ ?_)
   | (with_reducible refine LeO.bind ?_ (fun _=>?_))
   | exact ih0 _ _ _ _ _ _ _ _
   | exact spec_paBefore.mono _ _ _ _ _
   | exact spec_paNames.mono _ _ _
   | exact spec_paRename.mono _ _ _ _
   | exact spec_paSame.mono _ _ _ _ _
   | exact LeO.none _
   | refine LeO.ite ?_ ?_
   | refine LeO.bind ?_ (fun _=>?_)
set_option maxHeartbeats 8000000 in
set_option maxRecDepth 100000 in
theorem spec_paLeast.calls (k:Nat) (a0_0:Int) (P0_1_:Nat→Prop) (A0_1:Option Addr) (c0_1:Nat) (l0_1:List (S70)) (r1:Int) (r2:List (S70)) (r3:Int) (w:World) (hs0_1:Kd.V k70 70 w w.heap.size (fun k_=>P0_1_ k_) (.slice A0_1 l0_1.length c0_1) l0_1) (h:spec_paLeast.f k a0_0 l0_1=some (r1,r2,r3)) :
  Calls Try.prog 31 #[.agg #[.int .i64 a0_0,.slice A0_1 l0_1.length c0_1]] w fun e w'=>∃ v1_:Value,e=.returned (.tuple #[.agg #[.int .i64 r1,v1_],.int .i64 r3])∧Kd.V k70 70 w' w.heap.size (fun k_=>(P0_1_ k_ ∨ w.heap.size≤k_)) v1_ r2∧Below w.heap.size w w':=by
 have hu30:=Try.underlying30
 have HO0_1:=zz31 (show Kd.V k70 70 w w.heap.size (fun k_=>(P0_1_ k_ ∨ w.heap.size≤k_)) (.slice A0_1 l0_1.length c0_1) l0_1 from Kd.V_mono hs0_1 (fun k_ hk=>.inl hk))
 have HB:=zz31 (Below.refl w.heap.size w)
 have H:((spec_paNames.f k a0_0 ([]:List Int)).bind fun t204=>(spec_paLeast.l0 k 0 t204 (t204.length:Int) 0 a0_0 l0_1 a0_0 l0_1))=some (r1,r2,r3):=h
 clear h
 replace H:=zz30.mp H
 obtain ⟨t204,A20,H⟩:=H
 replace H:(spec_paLeast.l0 k 0 t204 (t204.length:Int) 0 a0_0 l0_1 a0_0 l0_1)=some (r1,r2,r3):=H
 have A2:=zz31 A20
 clear A20
 have H':=zz31 H
 clear H
 go_enter Try.func31,Try.ntmps31
 go_wp2_with (first | ((with_reducible refine gate_dst (N:=1) rfl ?_);refine box_event ?hg (N:=1) ?hd (cs:=#[.int .i64 a0_0,.slice A0_1 l0_1.length c0_1]) (t:=30) ?hr ?_;(case hd=>rfl);(case hg=>rfl);(case hr=>first | (go_simp;done) | (go_simp;rfl));intro gb201 hg w3 hbox hb;have n0_:=zz31 (Kd.V_below (Kd.V_elderB (by (with_reducible repeat (first | apply Kd.V_alloc | apply Kd.V_drewN | apply Kd.V_drew));exact HO0_1.out) gb201 (Nat.le_of_eq hg.symm)) hb);have n1_:=zz31 (zz4 (by repeat first | exact HB.out | apply zz2 | apply zz0 | apply zz1) hb);have n2_:=zz31 (hbox);have n3_:=zz31 ((by rw [hg];exact (zz5 (by repeat first | exact HB.out | apply zz2 | apply zz0 | apply zz1)):w.heap.size≤gb201));have n4_:=zz31 ((by rw [hg];exact (zz5 (by repeat first | exact HB.out | apply zz2 | apply zz0 | apply zz1)):w.heap.size≤gb201));clear HO0_1;clear HB;have HO0_1:=n0_;have HB:=n1_;have BK201:=n2_;have GW201:=n3_;have GE201:=n4_;clear n0_ n1_ n2_ n3_ n4_;clear hb hbox hg) | ((with_reducible refine gate_dst (N:=2) rfl ?_);refine box_event ?hg (N:=2) ?hd (cs:=#[.int .i64 0,.slice none 0 0]) (t:=30) ?hr ?_;(case hd=>rfl);(case hg=>rfl);(case hr=>first | (go_simp;done) | (go_simp;rfl));intro gb202 hg w4 hbox hb;have n0_:=zz31 (Kd.V_below (Kd.V_elderB (by (with_reducible repeat (first | apply Kd.V_alloc | apply Kd.V_drewN | apply Kd.V_drew));exact HO0_1.out) gb202 (Nat.le_of_eq hg.symm)) hb);have n1_:=zz31 (zz11 (g:=gb201) (o:=.cells #[.int .i64 a0_0,.slice A0_1 l0_1.length c0_1] 30 (0,0)) (by (with_reducible repeat (first | refine zz6 ?_ _ | refine zz7 ?_ | refine zz8 ?_ _));exact BK201.out) hb);have n2_:=zz31 (zz4 (by repeat first | exact HB.out | apply zz2 | apply zz0 | apply zz1 | refine zz3 ?_ GE201.out) hb);have n3_:=zz31 (hbox);have n4_:=zz31 ((by rw [hg];exact (zz5 (by repeat first | exact HB.out | apply zz2 | apply zz0 | apply zz1 | refine zz3 ?_ GE201.out)):w.heap.size≤gb202));have n5_:=zz31 ((by rw [hg];exact (zz5 (by repeat first | exact HB.out | apply zz2 | apply zz0 | apply zz1 | refine zz3 ?_ GE201.out)):w.heap.size≤gb202));have n6_:=zz31 ((by rw [hg];exact Nat.ne_of_lt (blk_lt (g:=gb201) (o:=.cells #[.int .i64 a0_0,.slice A0_1 l0_1.length c0_1] 30 (0,0)) (by (with_reducible repeat (first | refine zz6 ?_ _ | refine zz7 ?_ | refine zz8 ?_ _));exact BK201.out)):gb201 ≠ gb202));have n7_:=zz31 ((by rw [hg];exact Nat.ne_of_gt (blk_lt (g:=gb201) (o:=.cells #[.int .i64 a0_0,.slice A0_1 l0_1.length c0_1] 30 (0,0)) (by (with_reducible repeat (first | refine zz6 ?_ _ | refine zz7 ?_ | refine zz8 ?_ _));exact BK201.out)):gb202 ≠ gb201));clear HO0_1;clear BK201;clear HB;have HO0_1:=n0_;have BK201:=n1_;have HB:=n2_;have BK202:=n3_;have GW202:=n4_;have GE202:=n5_;have NB201_202:=n6_;have NB202_201:=n7_;clear n0_ n1_ n2_ n3_ n4_ n5_ n6_ n7_;clear hb hbox hg;have hnb5:=NB201_202.out;have hnc5:=NB202_201.out;have hcz6_0:w4.cell? ⟨gb201,0,none⟩=some (.int .i64 a0_0):=(zz9 BK201.out 0).trans rfl;have hcz6_1:w4.cell? ⟨gb201,1,none⟩=some (.slice A0_1 l0_1.length c0_1):=(zz9 BK201.out 1).trans rfl;have hfz6_0:=zz10 BK201.out 0;have hfz6_1:=zz10 BK201.out 1) | ((with_reducible refine gate_dst (N:=4) rfl ?_);refine box_event ?hg (N:=4) ?hd (cs:=#[.int .i64 0,.slice none 0 0]) (t:=30) ?hr ?_;(case hd=>rfl);(case hg=>rfl);(case hr=>first | (go_simp;done) | (go_simp;rfl));intro gb203 hg w7 hbox hb;have n0_:=zz31 (Kd.V_below (Kd.V_elderB (by (with_reducible repeat (first | apply Kd.V_alloc | apply Kd.V_drewN | apply Kd.V_drew));exact HO0_1.out) gb203 (Nat.le_of_eq hg.symm)) hb);have n1_:=zz31 (zz11 (g:=gb201) (o:=.cells #[.int .i64 a0_0,.slice A0_1 l0_1.length c0_1] 30 (0,0)) (by (with_reducible repeat (first | refine zz6 ?_ _ | refine zz7 ?_ | refine zz8 ?_ _));exact BK201.out) hb);have n2_:=zz31 (zz11 (g:=gb202) (o:=.cells #[.int .i64 0,.slice none 0 0] 30 (0,0)) (by (with_reducible repeat (first | refine zz6 ?_ _ | refine zz7 ?_ | refine zz8 ?_ _));exact BK202.out) hb);have n3_:=zz31 (zz4 (by repeat first | exact HB.out | apply zz2 | apply zz0 | apply zz1 | refine zz3 ?_ GE201.out | refine zz3 ?_ GE202.out) hb);have n4_:=zz31 (hbox);have n5_:=zz31 ((by rw [hg];exact (zz5 (by repeat first | exact HB.out | apply zz2 | apply zz0 | apply zz1 | refine zz3 ?_ GE201.out | refine zz3 ?_ GE202.out)):w.heap.size≤gb203));have n6_:=zz31 ((by rw [hg];exact (zz5 (by repeat first | exact HB.out | apply zz2 | apply zz0 | apply zz1 | refine zz3 ?_ GE201.out | refine zz3 ?_ GE202.out)):w.heap.size≤gb203));have n7_:=zz31 ((by rw [hg];exact Nat.ne_of_lt (blk_lt (g:=gb201) (o:=.cells #[.int .i64 a0_0,.slice A0_1 l0_1.length c0_1] 30 (0,0)) (by (with_reducible repeat (first | refine zz6 ?_ _ | refine zz7 ?_ | refine zz8 ?_ _));exact BK201.out)):gb201 ≠ gb203));have n8_:=zz31 ((by rw [hg];exact Nat.ne_of_gt (blk_lt (g:=gb201) (o:=.cells #[.int .i64 a0_0,.slice A0_1 l0_1.length c0_1] 30 (0,0)) (by (with_reducible repeat (first | refine zz6 ?_ _ | refine zz7 ?_ | refine zz8 ?_ _));exact BK201.out)):gb203 ≠ gb201));have n9_:=zz31 ((by rw [hg];exact Nat.ne_of_lt (blk_lt (g:=gb202) (o:=.cells #[.int .i64 0,.slice none 0 0] 30 (0,0)) (by (with_reducible repeat (first | refine zz6 ?_ _ | refine zz7 ?_ | refine zz8 ?_ _));exact BK202.out)):gb202 ≠ gb203));have n10_:=zz31 ((by rw [hg];exact Nat.ne_of_gt (blk_lt (g:=gb202) (o:=.cells #[.int .i64 0,.slice none 0 0] 30 (0,0)) (by (with_reducible repeat (first | refine zz6 ?_ _ | refine zz7 ?_ | refine zz8 ?_ _));exact BK202.out)):gb203 ≠ gb202));clear HO0_1;clear BK201;clear BK202;clear HB;have HO0_1:=n0_;have BK201:=n1_;have BK202:=n2_;have HB:=n3_;have BK203:=n4_;have GW203:=n5_;have GE203:=n6_;have NB201_203:=n7_;have NB203_201:=n8_;have NB202_203:=n9_;have NB203_202:=n10_;clear n0_ n1_ n2_ n3_ n4_ n5_ n6_ n7_ n8_ n9_ n10_;clear hb hbox hg;have hnb8:=NB203_201.out;have hnc8:=NB201_203.out;have hnb9:=NB203_202.out;have hnc9:=NB202_203.out;have hcz10_0:w7.cell? ⟨gb203,0,none⟩=some (.int .i64 0):=(zz9 BK203.out 0).trans rfl;have hcz10_1:w7.cell? ⟨gb203,1,none⟩=some (.slice none 0 0):=(zz9 BK203.out 1).trans rfl;have hfz10_0:=zz10 BK203.out 0;have hfz10_1:=zz10 BK203.out 1;have hcz11_0:w7.cell? ⟨gb201,0,none⟩=some (.int .i64 a0_0):=(zz9 BK201.out 0).trans rfl;have hcz11_1:w7.cell? ⟨gb201,1,none⟩=some (.slice A0_1 l0_1.length c0_1):=(zz9 BK201.out 1).trans rfl;have hfz11_0:=zz10 BK201.out 0;have hfz11_1:=zz10 BK201.out 1) | ((with_reducible refine gate_callee (f:=61) rfl ?_);refine goesL_ (some 12) rfl rfl Try.func61 (by kernel_rfl) rfl #[.int .i64 a0_0,.slice none 0 0] rfl (by (try simp only [zz26,zz27,zz28]);first | done | rfl | (simp only [zz24,zz25];rfl)) ?_;(refine (spec_paNames.calls k a0_0 _ _ ([]:List Int) t204 _ ?side1 ?side2 A2.out).mono ?_);(case side1=>exact Kd.C_nil _ _);(case side2=>exact Nat.le_refl _);rintro e w12 ⟨v205,rfl,ho0,hb⟩;refine ⟨_,rfl,?_⟩;have n0_:=zz31 (Kd.V_elder' (by (with_reducible repeat (first | apply Kd.V_alloc | apply Kd.V_drewN | apply Kd.V_drew));exact (Kd.V_mono (Kd.V_far (p:=⟨gb203,1,none⟩) (Kd.V_far (p:=⟨gb203,0,none⟩) (Kd.V_mono HO0_1.out (fun k_ hk=>(⟨hk,hk.2⟩:_∧k_ ≠ gb203))) (fun _ hk=>hk.2) (.int .i64 a0_0)) (fun _ hk=>hk.2) (.slice A0_1 l0_1.length c0_1)) (fun _ h_=>h_.1))) (Kd.N_base ho0) hb);have n1_:=zz31 (Kd.N_lower (Kd.N_mono (ok':=fun k_=>(P0_1_ k_ ∨ w.heap.size≤k_)∧k_ ≠ gb201∧k_ ≠ gb202∧k_ ≠ gb203) ho0 (fun k_ hk_=>⟨(.inr (Nat.le_trans (zz5 (by repeat first | exact HB.out | apply zz2 | apply zz0 | apply zz1 | refine zz3 ?_ GE201.out | refine zz3 ?_ GE202.out | refine zz3 ?_ GE203.out)) hk_)),(Kd.freshB (g:=gb201) (o:=.cells #[.int .i64 a0_0,.slice A0_1 l0_1.length c0_1] 30 (0,0)) (by (with_reducible repeat (first | refine zz6 ?_ _ | refine zz7 ?_ | refine zz8 ?_ _));refine blk_far ?_ NB201_203.out _;(with_reducible repeat (first | refine zz6 ?_ _ | refine zz7 ?_ | refine zz8 ?_ _));refine blk_far ?_ NB201_203.out _;(with_reducible repeat (first | refine zz6 ?_ _ | refine zz7 ?_ | refine zz8 ?_ _));exact BK201.out) k_ hk_),(Kd.freshB (g:=gb202) (o:=.cells #[.int .i64 0,.slice none 0 0] 30 (0,0)) (by (with_reducible repeat (first | refine zz6 ?_ _ | refine zz7 ?_ | refine zz8 ?_ _));refine blk_far ?_ NB202_203.out _;(with_reducible repeat (first | refine zz6 ?_ _ | refine zz7 ?_ | refine zz8 ?_ _));refine blk_far ?_ NB202_203.out _;(with_reducible repeat (first | refine zz6 ?_ _ | refine zz7 ?_ | refine zz8 ?_ _));exact BK202.out) k_ hk_),(Kd.freshB (g:=gb203) (o:=.cells #[.int .i64 a0_0,.slice A0_1 l0_1.length c0_1] 30 (0,0)) (by (with_reducible repeat (first | refine zz6 ?_ _ | refine zz7 ?_ | refine zz8 ?_ _));refine blk_put (cs:=#[.int .i64 a0_0,.slice none 0 0]) ?_ 1 _ rfl;(with_reducible repeat (first | refine zz6 ?_ _ | refine zz7 ?_ | refine zz8 ?_ _));refine blk_put (cs:=#[.int .i64 0,.slice none 0 0]) ?_ 0 _ rfl;(with_reducible repeat (first | refine zz6 ?_ _ | refine zz7 ?_ | refine zz8 ?_ _));exact BK203.out) k_ hk_)⟩)) (zz5 (by repeat first | exact HB.out | apply zz2 | apply zz0 | apply zz1 | refine zz3 ?_ GE201.out | refine zz3 ?_ GE202.out | refine zz3 ?_ GE203.out)));have n2_:=zz31 (zz11 (g:=gb201) (o:=.cells #[.int .i64 a0_0,.slice A0_1 l0_1.length c0_1] 30 (0,0)) (by (with_reducible repeat (first | refine zz6 ?_ _ | refine zz7 ?_ | refine zz8 ?_ _));refine blk_far ?_ NB201_203.out _;(with_reducible repeat (first | refine zz6 ?_ _ | refine zz7 ?_ | refine zz8 ?_ _));refine blk_far ?_ NB201_203.out _;(with_reducible repeat (first | refine zz6 ?_ _ | refine zz7 ?_ | refine zz8 ?_ _));exact BK201.out) hb);have n3_:=zz31 (zz11 (g:=gb202) (o:=.cells #[.int .i64 0,.slice none 0 0] 30 (0,0)) (by (with_reducible repeat (first | refine zz6 ?_ _ | refine zz7 ?_ | refine zz8 ?_ _));refine blk_far ?_ NB202_203.out _;(with_reducible repeat (first | refine zz6 ?_ _ | refine zz7 ?_ | refine zz8 ?_ _));refine blk_far ?_ NB202_203.out _;(with_reducible repeat (first | refine zz6 ?_ _ | refine zz7 ?_ | refine zz8 ?_ _));exact BK202.out) hb);have n4_:=zz31 (zz11 (g:=gb203) (o:=.cells #[.int .i64 a0_0,.slice A0_1 l0_1.length c0_1] 30 (0,0)) (by (with_reducible repeat (first | refine zz6 ?_ _ | refine zz7 ?_ | refine zz8 ?_ _));refine blk_put (cs:=#[.int .i64 a0_0,.slice none 0 0]) ?_ 1 _ rfl;(with_reducible repeat (first | refine zz6 ?_ _ | refine zz7 ?_ | refine zz8 ?_ _));refine blk_put (cs:=#[.int .i64 0,.slice none 0 0]) ?_ 0 _ rfl;(with_reducible repeat (first | refine zz6 ?_ _ | refine zz7 ?_ | refine zz8 ?_ _));exact BK203.out) hb);have n5_:=zz31 (zz4 (by repeat first | exact HB.out | apply zz2 | apply zz0 | apply zz1 | refine zz3 ?_ GE201.out | refine zz3 ?_ GE202.out | refine zz3 ?_ GE203.out) hb);clear HO0_1;clear BK201;clear BK202;clear BK203;clear HB;have HO0_1:=n0_;have HO206:=n1_;have BK201:=n2_;have BK202:=n3_;have BK203:=n4_;have HB:=n5_;clear n0_ n1_ n2_ n3_ n4_ n5_;(try clear hb);(try clear hb2);(try clear hk);(try clear hi);(try clear ho0);obtain ⟨Ao13,co13,eo13⟩:=Kd.N_slice HO206.out;subst eo13))
 go_loopg [5,14] k (fun kq v5 v14 w'=>∃ (x5_1:Int) (x14_1:Int) (x204000_1:Int) (x204001_1:List (S70)) (u204001:Value),v5=.int .i64 x5_1∧v14=.int .i64 x14_1∧Aside0 (spec_paLeast.l0 kq x5_1 t204 (t204.length:Int) x14_1 a0_0 l0_1 x204000_1 x204001_1=some (r1,r2,r3))∧Aside0 (kq≤k)∧Aside0 (Kd.N (Kd.slice 3 (Kd.int .i64)) 40 w' w.heap.size (fun k_=>(P0_1_ k_ ∨ w.heap.size≤k_)∧k_ ≠ gb201∧k_ ≠ gb202∧k_ ≠ gb203) (.slice Ao13 t204.length co13) t204)∧Aside0 (Kd.V k70 70 w' w.heap.size (fun k_=>(P0_1_ k_ ∨ w.heap.size≤k_)∧some k_ ≠ ((.slice Ao13 t204.length co13):Value).ownBlock∧k_ ≠ gb201∧k_ ≠ gb202∧k_ ≠ gb203) (.slice A0_1 l0_1.length c0_1) l0_1)∧Aside0 (Kd.V k70 70 w' w.heap.size (fun k_=>(P0_1_ k_ ∨ w.heap.size≤k_)∧some k_ ≠ ((.slice Ao13 t204.length co13):Value).ownBlock∧k_ ≠ gb201∧k_ ≠ gb202∧k_ ≠ gb203) u204001 x204001_1)∧Aside0 (w'.heap[gb201]?=some (.cells #[.int .i64 a0_0,(.slice A0_1 l0_1.length c0_1)] 30 (0,0)))∧Aside0 (w'.heap[gb202]?=some (.cells #[.int .i64 0,(.slice none 0 0)] 30 (0,0)))∧Aside0 (w'.heap[gb203]?=some (.cells #[.int .i64 x204000_1,u204001] 30 (0,0)))∧Aside0 (Below w.heap.size w w'))
 case atStart=>exact ⟨(0),(0),(a0_0),(l0_1),(.slice A0_1 l0_1.length c0_1),(by first | rfl | (simp;done) | (simp [*];done)),(by first | rfl | (simp;done) | (simp [*];done)),H',⟨Nat.le_refl _⟩,⟨by (with_reducible repeat (first | apply Kd.N_alloc | apply Kd.N_drewN | apply Kd.N_drew));exact HO206.out⟩,⟨by (with_reducible repeat (first | apply Kd.V_alloc | apply Kd.V_drewN | apply Kd.V_drew));exact Kd.V_mono HO0_1.out (fun _ hk=>⟨hk.1.1.1.1,⟨hk.2,⟨hk.1.1.1.2,⟨hk.1.1.2,hk.1.2⟩⟩⟩⟩)⟩,⟨by (with_reducible repeat (first | apply Kd.V_alloc | apply Kd.V_drewN | apply Kd.V_drew));exact Kd.V_mono HO0_1.out (fun _ hk=>⟨hk.1.1.1.1,⟨hk.2,⟨hk.1.1.1.2,⟨hk.1.1.2,hk.1.2⟩⟩⟩⟩)⟩,⟨by (with_reducible repeat (first | refine zz6 ?_ _ | refine zz7 ?_ | refine zz8 ?_ _));exact BK201.out⟩,⟨by (with_reducible repeat (first | refine zz6 ?_ _ | refine zz7 ?_ | refine zz8 ?_ _));exact BK202.out⟩,⟨by (with_reducible repeat (first | refine zz6 ?_ _ | refine zz7 ?_ | refine zz8 ?_ _));exact BK203.out⟩,⟨by repeat first | exact HB.out | apply zz2 | apply zz0 | apply zz1 | refine zz3 ?_ GE201.out | refine zz3 ?_ GE202.out | refine zz3 ?_ GE203.out⟩⟩
 case round =>
  clear H'
  try clear p2
  try clear c3
  try clear c5
  try clear c6
  try clear c8
  try clear c9
  try clear hcz10_0
  try clear hcz10_1
  try clear hcz11_0
  try clear hcz11_1
  try clear hcz6_0
  try clear hcz6_1
  try clear hfz10_0
  try clear hfz10_1
  try clear hfz11_0
  try clear hfz11_1
  try clear hfz6_0
  try clear hfz6_1
  obtain ⟨x5_1,x14_1,x204000_1,x204001_1,u204001,rfl,rfl,HA,HK1,HO_12,HO_202001,HO_204001,BK201,BK202,BK203,HB⟩:=hrel
  cases gk with
  | zero=>exact absurd HA.out (by simp [spec_paLeast.l0])
  | succ k1 =>
   have H:=HA.out
   clear HA
   simp only [spec_paLeast.l0] at H
   by_cases c14:x14_1 < (t204.length:Int)
   ·rw [if_pos c14] at H
    have c14b0:decide (x14_1 < (t204.length:Int))=true:=decide_eq_true c14
    clear c14
    by_cases c15:0≤x14_1
    ·rw [if_pos c15] at H
     have c15b0:decide (0≤x14_1)=true:=decide_eq_true c15
     clear c15
     by_cases c16:x14_1 < (t204.length:Int)
     ·rw [if_pos c16] at H
      have c16b0:decide (x14_1 < (t204.length:Int))=true:=decide_eq_true c16
      clear c16
      replace H:=zz30.mp H
      obtain ⟨⟨t208,t209⟩,A170,H⟩:=H
      replace H:((spec_paBefore.f k1 t208 t209 x204000_1 x204001_1).bind fun t213=>(if t213=true then (spec_paLeast.l0 k1 1 t204 (t204.length:Int) (wrap64 (x14_1+1)) a0_0 l0_1 t208 t209) else ((spec_paSame.f k1 t208 t209 x204000_1 x204001_1).bind fun t214=>(if t214=true then (spec_paLeast.l0 k1 (wrap64 (x5_1+1)) t204 (t204.length:Int) (wrap64 (x14_1+1)) a0_0 l0_1 x204000_1 x204001_1) else (spec_paLeast.l0 k1 x5_1 t204 (t204.length:Int) (wrap64 (x14_1+1)) a0_0 l0_1 x204000_1 x204001_1)))))=some (r1,r2,r3):=H
      have A17:=zz31 A170
      clear A170
      replace H:=zz30.mp H
      obtain ⟨t213,A180,H⟩:=H
      replace H:(if t213=true then (spec_paLeast.l0 k1 1 t204 (t204.length:Int) (wrap64 (x14_1+1)) a0_0 l0_1 t208 t209) else ((spec_paSame.f k1 t208 t209 x204000_1 x204001_1).bind fun t214=>(if t214=true then (spec_paLeast.l0 k1 (wrap64 (x5_1+1)) t204 (t204.length:Int) (wrap64 (x14_1+1)) a0_0 l0_1 x204000_1 x204001_1) else (spec_paLeast.l0 k1 x5_1 t204 (t204.length:Int) (wrap64 (x14_1+1)) a0_0 l0_1 x204000_1 x204001_1))))=some (r1,r2,r3):=H
      have A18:=zz31 A180
      clear A180
      by_cases c19:t213=true
      ·subst c19
       have H1:(spec_paLeast.l0 k1 1 t204 (t204.length:Int) (wrap64 (x14_1+1)) a0_0 l0_1 t208 t209)=some (r1,r2,r3):=by rw [if_pos rfl] at H;exact H
       clear H
       have H:=H1
       clear H1
       have H':=zz31 H
       clear H
       have p207:0≤(x14_1:Int):=zz29 (by first | (with_reducible assumption) | assumption)
       have q207:x14_1 < (t204.length:Int):=zz29 (by first | (with_reducible assumption) | assumption)
       obtain ⟨ad207,A207_0,c207_0,e207,hx207_0,hl207_0,hi207_0⟩:=at_L7 (Kd.N_reads' HO_12.out).2.2 x14_1 p207 q207
       cases e207
       obtain ⟨ce207,hce207,hMe207,hcc207⟩:=Kd.N_get HO_12.out [] x14_1 p207 (by first | exact q207 | exact zz29 (by first | (with_reducible assumption) | assumption) | (have e_:=(Kd.N_reads' HO_12.out).1;omega))
       obtain ⟨ua207_0,uc207_0,rfl,ul207_0,ge207_0⟩:=Kd.FK_slice_open hMe207
       have hv207_0:=hcc207 0 _ rfl
       rw [Nat.add_zero,show ((Kd.slice 3 (Kd.int .i64))).sz=1 from rfl,Nat.mul_one] at hv207_0
       replace hv207_0:=Option.some.inj (hv207_0.symm.trans hx207_0)
       injection hv207_0 with hva_ hvn_ hvc_
       rw [hva_] at ge207_0
       rw [hvc_] at ul207_0
       have HL207_0:=zz31 (show Kd.V (Kd.int .i64) 3 _ w.heap.size _ _ (rd_L7 t204 x14_1) from Kd.V_mk ul207_0 ge207_0)
       clear hva_ hvn_ hvc_ ge207_0 ul207_0
       clear hcc207 hce207
       have HR207_0:=zz31 hi207_0
       have HC207_0:=zz31 hl207_0
       clear hi207_0 hl207_0
       replace p207:=eq_true p207
       replace q207:=eq_true q207
       have hnb20:=NB201_202.out
       have hnc20:=NB202_201.out
       have hnb21:=NB201_203.out
       have hnc21:=NB203_201.out
       have hcz22_0:wr.cell? ⟨gb201,0,none⟩=some (.int .i64 a0_0):=(zz9 BK201.out 0).trans rfl
       have hcz22_1:wr.cell? ⟨gb201,1,none⟩=some (.slice A0_1 l0_1.length c0_1):=(zz9 BK201.out 1).trans rfl
       have hfz22_0:=zz10 BK201.out 0
       have hfz22_1:=zz10 BK201.out 1
       go_wp2_with (first | ((with_reducible refine gate_callee (f:=49) rfl ?_);refine goesL_ (some 20) rfl rfl Try.func49 (by kernel_rfl) rfl #[.agg #[.int .i64 a0_0,.slice A0_1 l0_1.length c0_1],.slice A207_0 (rd_L7 t204 x14_1).length c207_0] rfl (by (try simp only [zz26,zz27,zz28]);first | done | rfl | (simp only [zz24,zz25];rfl)) ?_;(with_reducible refine (spec_paRename.calls k1 a0_0 _ _ l0_1 _ _ (rd_L7 t204 x14_1) t208 t209 _ ?side1 ?side2 ?side3 ?side4 A17.out).mono ?_);(case side1=>repeat (first | exact (Kd.V_reads' HO_202001.out).2.2 | (with_reducible refine zz18 ?_ _) | (with_reducible refine zz19 ?_ _) | (with_reducible refine zz20 ?_)));(case side2=>exact (Kd.V_reads' HO_202001.out).2.1);(case side3=>repeat (first | exact (by repeat (first | (with_reducible exact HR207_0.out) | (with_reducible refine zz18 ?_ _) | (with_reducible refine zz19 ?_ _) | (with_reducible refine zz20 ?_) | exact HR207_0.out)) | (with_reducible refine zz18 ?_ _) | (with_reducible refine zz19 ?_ _) | (with_reducible refine zz20 ?_)));(case side4=>exact HC207_0.out);rintro e w23 ⟨v210,rfl,ho0,hb⟩;refine ⟨_,rfl,?_⟩;have n0_:=zz31 (Kd.N_elder' (by (with_reducible repeat (first | apply Kd.N_alloc | apply Kd.N_drewN | apply Kd.N_drew));exact HO_12.out) (Kd.R_base ho0) hb);have n1_:=zz31 (Kd.V_elder' (by (with_reducible repeat (first | apply Kd.V_alloc | apply Kd.V_drewN | apply Kd.V_drew));exact HO_202001.out) (Kd.R_base ho0) hb);have n2_:=zz31 (Kd.V_elder' (by (with_reducible repeat (first | apply Kd.V_alloc | apply Kd.V_drewN | apply Kd.V_drew));exact HO_204001.out) (Kd.R_base ho0) hb);have n3_:=zz31 (Kd.V_elder' (by (with_reducible repeat (first | apply Kd.V_alloc | apply Kd.V_drewN | apply Kd.V_drew));exact HL207_0.out) (Kd.R_base ho0) hb);have n4_:=zz31 (Kd.R_lower (Kd.R_newM (M:=fun k_=>(w.heap.size≤k_)) ho0 (zz5 (by repeat first | exact HB.out | apply zz2 | apply zz0 | apply zz1 | refine zz3 ?_ GE201.out | refine zz3 ?_ GE202.out | refine zz3 ?_ GE203.out)) (fun k_ h_=>h_)) (zz5 (by repeat first | exact HB.out | apply zz2 | apply zz0 | apply zz1 | refine zz3 ?_ GE201.out | refine zz3 ?_ GE202.out | refine zz3 ?_ GE203.out)));have n5_:=zz31 (zz11 (g:=gb201) (o:=.cells #[.int .i64 a0_0,.slice A0_1 l0_1.length c0_1] 30 (0,0)) (by (with_reducible repeat (first | refine zz6 ?_ _ | refine zz7 ?_ | refine zz8 ?_ _));exact BK201.out) hb);have n6_:=zz31 (zz11 (g:=gb202) (o:=.cells #[.int .i64 0,.slice none 0 0] 30 (0,0)) (by (with_reducible repeat (first | refine zz6 ?_ _ | refine zz7 ?_ | refine zz8 ?_ _));exact BK202.out) hb);have n7_:=zz31 (zz11 (g:=gb203) (o:=.cells #[.int .i64 x204000_1,u204001] 30 (0,0)) (by (with_reducible repeat (first | refine zz6 ?_ _ | refine zz7 ?_ | refine zz8 ?_ _));exact BK203.out) hb);have n8_:=zz31 (Kd.C_below (by repeat (first | (with_reducible exact HR207_0.out) | (with_reducible refine zz18 ?_ _) | (with_reducible refine zz19 ?_ _) | (with_reducible refine zz20 ?_) | exact HR207_0.out)) hb);have n9_:=zz31 (zz4 (by repeat first | exact HB.out | apply zz2 | apply zz0 | apply zz1 | refine zz3 ?_ GE201.out | refine zz3 ?_ GE202.out | refine zz3 ?_ GE203.out) hb);clear HO_12;clear HO_202001;clear HO_204001;clear HL207_0;clear BK201;clear BK202;clear BK203;clear HR207_0;clear HB;have HO_12:=n0_;have HO_202001:=n1_;have HO_204001:=n2_;have HL207_0:=n3_;have HO211:=n4_;have BK201:=n5_;have BK202:=n6_;have BK203:=n7_;have HR207_0:=n8_;have HB:=n9_;clear n0_ n1_ n2_ n3_ n4_ n5_ n6_ n7_ n8_ n9_;(try clear hb);(try clear hb2);(try clear hk);(try clear hi);(try clear ho0)) | ((with_reducible refine gate_dst (N:=8) rfl ?_);refine box_event ?hg (N:=8) ?hd (cs:=#[.int .i64 0,.slice none 0 0]) (t:=30) ?hr ?_;(case hd=>rfl);(case hg=>rfl);(case hr=>first | (go_simp;done) | (go_simp;rfl));intro gb212 hg w24 hbox hb;have n0_:=zz31 (Kd.N_below (Kd.N_elderB (by (with_reducible repeat (first | apply Kd.N_alloc | apply Kd.N_drewN | apply Kd.N_drew));exact HO_12.out) gb212 (Nat.le_of_eq hg.symm)) hb);have n1_:=zz31 (Kd.V_below (Kd.V_elderB (by (with_reducible repeat (first | apply Kd.V_alloc | apply Kd.V_drewN | apply Kd.V_drew));exact HO_202001.out) gb212 (Nat.le_of_eq hg.symm)) hb);have n2_:=zz31 (Kd.V_below (Kd.V_elderB (by (with_reducible repeat (first | apply Kd.V_alloc | apply Kd.V_drewN | apply Kd.V_drew));exact HO_204001.out) gb212 (Nat.le_of_eq hg.symm)) hb);have n3_:=zz31 (Kd.V_below (Kd.V_elderB (by (with_reducible repeat (first | apply Kd.V_alloc | apply Kd.V_drewN | apply Kd.V_drew));exact HL207_0.out) gb212 (Nat.le_of_eq hg.symm)) hb);have n4_:=zz31 (Kd.R_below (by (with_reducible repeat (first | apply zz12 | apply zz13 | apply zz14));exact HO211.out) hb);have n5_:=zz31 (zz11 (g:=gb201) (o:=.cells #[.int .i64 a0_0,.slice A0_1 l0_1.length c0_1] 30 (0,0)) (by (with_reducible repeat (first | refine zz6 ?_ _ | refine zz7 ?_ | refine zz8 ?_ _));exact BK201.out) hb);have n6_:=zz31 (zz11 (g:=gb202) (o:=.cells #[.int .i64 0,.slice none 0 0] 30 (0,0)) (by (with_reducible repeat (first | refine zz6 ?_ _ | refine zz7 ?_ | refine zz8 ?_ _));exact BK202.out) hb);have n7_:=zz31 (zz11 (g:=gb203) (o:=.cells #[.int .i64 x204000_1,u204001] 30 (0,0)) (by (with_reducible repeat (first | refine zz6 ?_ _ | refine zz7 ?_ | refine zz8 ?_ _));exact BK203.out) hb);have n8_:=zz31 (Kd.C_below (by repeat (first | (with_reducible exact HR207_0.out) | (with_reducible refine zz18 ?_ _) | (with_reducible refine zz19 ?_ _) | (with_reducible refine zz20 ?_) | exact HR207_0.out)) hb);have n9_:=zz31 (zz4 (by repeat first | exact HB.out | apply zz2 | apply zz0 | apply zz1 | refine zz3 ?_ GE201.out | refine zz3 ?_ GE202.out | refine zz3 ?_ GE203.out) hb);have n10_:=zz31 (hbox);have n11_:=zz31 ((by rw [hg];exact (zz5 (by repeat first | exact HB.out | apply zz2 | apply zz0 | apply zz1 | refine zz3 ?_ GE201.out | refine zz3 ?_ GE202.out | refine zz3 ?_ GE203.out)):w.heap.size≤gb212));have n12_:=zz31 ((by rw [hg];exact (zz5 (by repeat first | exact HB.out | apply zz2 | apply zz0 | apply zz1 | refine zz3 ?_ GE201.out | refine zz3 ?_ GE202.out | refine zz3 ?_ GE203.out)):w.heap.size≤gb212));have n13_:=zz31 ((by rw [hg];exact Nat.ne_of_lt (blk_lt (g:=gb201) (o:=.cells #[.int .i64 a0_0,.slice A0_1 l0_1.length c0_1] 30 (0,0)) (by (with_reducible repeat (first | refine zz6 ?_ _ | refine zz7 ?_ | refine zz8 ?_ _));exact BK201.out)):gb201 ≠ gb212));have n14_:=zz31 ((by rw [hg];exact Nat.ne_of_gt (blk_lt (g:=gb201) (o:=.cells #[.int .i64 a0_0,.slice A0_1 l0_1.length c0_1] 30 (0,0)) (by (with_reducible repeat (first | refine zz6 ?_ _ | refine zz7 ?_ | refine zz8 ?_ _));exact BK201.out)):gb212 ≠ gb201));have n15_:=zz31 ((by rw [hg];exact Nat.ne_of_lt (blk_lt (g:=gb202) (o:=.cells #[.int .i64 0,.slice none 0 0] 30 (0,0)) (by (with_reducible repeat (first | refine zz6 ?_ _ | refine zz7 ?_ | refine zz8 ?_ _));exact BK202.out)):gb202 ≠ gb212));have n16_:=zz31 ((by rw [hg];exact Nat.ne_of_gt (blk_lt (g:=gb202) (o:=.cells #[.int .i64 0,.slice none 0 0] 30 (0,0)) (by (with_reducible repeat (first | refine zz6 ?_ _ | refine zz7 ?_ | refine zz8 ?_ _));exact BK202.out)):gb212 ≠ gb202));have n17_:=zz31 ((by rw [hg];exact Nat.ne_of_lt (blk_lt (g:=gb203) (o:=.cells #[.int .i64 x204000_1,u204001] 30 (0,0)) (by (with_reducible repeat (first | refine zz6 ?_ _ | refine zz7 ?_ | refine zz8 ?_ _));exact BK203.out)):gb203 ≠ gb212));have n18_:=zz31 ((by rw [hg];exact Nat.ne_of_gt (blk_lt (g:=gb203) (o:=.cells #[.int .i64 x204000_1,u204001] 30 (0,0)) (by (with_reducible repeat (first | refine zz6 ?_ _ | refine zz7 ?_ | refine zz8 ?_ _));exact BK203.out)):gb212 ≠ gb203));clear HO_12;clear HO_202001;clear HO_204001;clear HL207_0;clear HO211;clear BK201;clear BK202;clear BK203;clear HR207_0;clear HB;have HO_12:=n0_;have HO_202001:=n1_;have HO_204001:=n2_;have HL207_0:=n3_;have HO211:=n4_;have BK201:=n5_;have BK202:=n6_;have BK203:=n7_;have HR207_0:=n8_;have HB:=n9_;have BK212:=n10_;have GW212:=n11_;have GE212:=n12_;have NB201_212:=n13_;have NB212_201:=n14_;have NB202_212:=n15_;have NB212_202:=n16_;have NB203_212:=n17_;have NB212_203:=n18_;clear n0_ n1_ n2_ n3_ n4_ n5_ n6_ n7_ n8_ n9_ n10_ n11_ n12_ n13_ n14_ n15_ n16_ n17_ n18_;clear hb hbox hg;have hnb25:=NB212_201.out;have hnc25:=NB201_212.out;have hnb26:=NB212_202.out;have hnc26:=NB202_212.out;have hnb27:=NB212_203.out;have hnc27:=NB203_212.out;have hcz28_0:w24.cell? ⟨gb212,0,none⟩=some (.int .i64 0):=(zz9 BK212.out 0).trans rfl;have hcz28_1:w24.cell? ⟨gb212,1,none⟩=some (.slice none 0 0):=(zz9 BK212.out 1).trans rfl;have hfz28_0:=zz10 BK212.out 0;have hfz28_1:=zz10 BK212.out 1;obtain ⟨Ao29,co29,eo29⟩:=Kd.R_slice HO211.out;subst eo29;have hnb30:=NB203_202.out;have hnc30:=NB202_203.out;have hcz31_0:w24.cell? ⟨gb203,0,none⟩=some (.int .i64 x204000_1):=(zz9 BK203.out 0).trans rfl;have hcz31_1:w24.cell? ⟨gb203,1,none⟩=some (u204001):=(zz9 BK203.out 1).trans rfl;have hfz31_0:=zz10 BK203.out 0;have hfz31_1:=zz10 BK203.out 1;obtain ⟨Ao32,co32,eo32⟩:=Kd.V_slice HO_204001.out;subst eo32) | ((with_reducible refine gate_callee (f:=62) rfl ?_);refine goesL_ (some 24) rfl rfl Try.func62 (by kernel_rfl) rfl #[.agg #[.int .i64 t208,.slice Ao29 t209.length co29],.agg #[.int .i64 x204000_1,.slice Ao32 x204001_1.length co32]] rfl (by (try simp only [zz26,zz27,zz28]);first | done | rfl | (simp only [zz24,zz25];rfl)) ?_;(with_reducible refine (spec_paBefore.calls k1 t208 _ _ t209 x204000_1 _ _ x204001_1 true _ ?side1 ?side2 ?side3 ?side4 A18.out).mono ?_);(case side1=>refine (Kd.R_reads' (e:=70) (base:=w.heap.size) (ok:=fun k_=>((w.heap.size≤k_)∧True)) (n:=t209.length) (c:=co29) ?_).2.2;exact (by (with_reducible repeat (first | apply zz12 | apply zz13 | apply zz14));exact (Kd.R_mono (Kd.R_far (p:=⟨gb212,1,none⟩) (Kd.R_far (p:=⟨gb212,0,none⟩) (Kd.R_types HO211.out BK212.out (by decide)) (fun _ hk=>hk.2) (.int .i64 t208)) (fun _ hk=>hk.2) (.slice Ao29 t209.length co29)) (fun _ h_=>h_.1))));(case side2=>exact (Kd.R_reads' HO211.out).2.1);(case side3=>refine (Kd.V_reads' (e:=70) (base:=w.heap.size) (ok:=fun k_=>((((P0_1_ k_ ∨ w.heap.size≤k_)∧(some k_ ≠ (.slice (some ad207) t204.length co13:Value).ownBlock∧(k_ ≠ gb201∧(k_ ≠ gb202∧k_ ≠ gb203))))∧some k_ ≠ (.slice Ao29 t209.length co29:Value).ownBlock)∧k_ ≠ gb212)) (n:=x204001_1.length) (c:=co32) ?_).2.2;exact (by (with_reducible repeat (first | apply Kd.V_alloc | apply Kd.V_drewN | apply Kd.V_drew));exact (Kd.V_mono (Kd.V_far (p:=⟨gb212,1,none⟩) (Kd.V_far (p:=⟨gb212,0,none⟩) (Kd.V_mono HO_204001.out (fun k_ hk=>(⟨hk,hk.2⟩:_∧k_ ≠ gb212))) (fun _ hk=>hk.2) (.int .i64 t208)) (fun _ hk=>hk.2) (.slice Ao29 t209.length co29)) (fun _ h_=>h_.1))));(case side4=>exact (Kd.V_reads' HO_204001.out).2.1);rintro e w33 ⟨rfl,hb⟩;refine ⟨_,rfl,?_⟩;have n0_:=zz31 (Kd.N_below (by (with_reducible repeat (first | apply Kd.N_alloc | apply Kd.N_drewN | apply Kd.N_drew));exact (Kd.N_mono (Kd.N_far (p:=⟨gb212,1,none⟩) (Kd.N_far (p:=⟨gb212,0,none⟩) (Kd.N_mono HO_12.out (fun k_ hk=>(⟨hk,hk.2⟩:_∧k_ ≠ gb212))) (fun _ hk=>hk.2) (.int .i64 t208)) (fun _ hk=>hk.2) (.slice Ao29 t209.length co29)) (fun _ h_=>h_.1))) hb);have n1_:=zz31 (Kd.V_below (by (with_reducible repeat (first | apply Kd.V_alloc | apply Kd.V_drewN | apply Kd.V_drew));exact (Kd.V_mono (Kd.V_far (p:=⟨gb212,1,none⟩) (Kd.V_far (p:=⟨gb212,0,none⟩) (Kd.V_mono HO_202001.out (fun k_ hk=>(⟨hk,hk.2⟩:_∧k_ ≠ gb212))) (fun _ hk=>hk.2) (.int .i64 t208)) (fun _ hk=>hk.2) (.slice Ao29 t209.length co29)) (fun _ h_=>h_.1))) hb);have n2_:=zz31 (Kd.V_below (by (with_reducible repeat (first | apply Kd.V_alloc | apply Kd.V_drewN | apply Kd.V_drew));exact (Kd.V_mono (Kd.V_far (p:=⟨gb212,1,none⟩) (Kd.V_far (p:=⟨gb212,0,none⟩) (Kd.V_mono HO_204001.out (fun k_ hk=>(⟨hk,hk.2⟩:_∧k_ ≠ gb212))) (fun _ hk=>hk.2) (.int .i64 t208)) (fun _ hk=>hk.2) (.slice Ao29 t209.length co29)) (fun _ h_=>h_.1))) hb);have n3_:=zz31 (Kd.V_below (by (with_reducible repeat (first | apply Kd.V_alloc | apply Kd.V_drewN | apply Kd.V_drew));exact (Kd.V_mono (Kd.V_far (p:=⟨gb212,1,none⟩) (Kd.V_far (p:=⟨gb212,0,none⟩) (Kd.V_mono HL207_0.out (fun k_ hk=>(⟨hk,hk.2⟩:_∧k_ ≠ gb212))) (fun _ hk=>hk.2) (.int .i64 t208)) (fun _ hk=>hk.2) (.slice Ao29 t209.length co29)) (fun _ h_=>h_.1))) hb);have n4_:=zz31 (Kd.R_below (by (with_reducible repeat (first | apply zz12 | apply zz13 | apply zz14));exact (Kd.R_mono (Kd.R_far (p:=⟨gb212,1,none⟩) (Kd.R_far (p:=⟨gb212,0,none⟩) (Kd.R_types HO211.out BK212.out (by decide)) (fun _ hk=>hk.2) (.int .i64 t208)) (fun _ hk=>hk.2) (.slice Ao29 t209.length co29)) (fun _ h_=>h_.1))) hb);have n5_:=zz31 (zz11 (g:=gb201) (o:=.cells #[.int .i64 a0_0,.slice A0_1 l0_1.length c0_1] 30 (0,0)) (by (with_reducible repeat (first | refine zz6 ?_ _ | refine zz7 ?_ | refine zz8 ?_ _));refine blk_far ?_ NB201_212.out _;(with_reducible repeat (first | refine zz6 ?_ _ | refine zz7 ?_ | refine zz8 ?_ _));refine blk_far ?_ NB201_212.out _;(with_reducible repeat (first | refine zz6 ?_ _ | refine zz7 ?_ | refine zz8 ?_ _));exact BK201.out) hb);have n6_:=zz31 (zz11 (g:=gb202) (o:=.cells #[.int .i64 0,.slice none 0 0] 30 (0,0)) (by (with_reducible repeat (first | refine zz6 ?_ _ | refine zz7 ?_ | refine zz8 ?_ _));refine blk_far ?_ NB202_212.out _;(with_reducible repeat (first | refine zz6 ?_ _ | refine zz7 ?_ | refine zz8 ?_ _));refine blk_far ?_ NB202_212.out _;(with_reducible repeat (first | refine zz6 ?_ _ | refine zz7 ?_ | refine zz8 ?_ _));exact BK202.out) hb);have n7_:=zz31 (zz11 (g:=gb203) (o:=.cells #[.int .i64 x204000_1,.slice Ao32 x204001_1.length co32] 30 (0,0)) (by (with_reducible repeat (first | refine zz6 ?_ _ | refine zz7 ?_ | refine zz8 ?_ _));refine blk_far ?_ NB203_212.out _;(with_reducible repeat (first | refine zz6 ?_ _ | refine zz7 ?_ | refine zz8 ?_ _));refine blk_far ?_ NB203_212.out _;(with_reducible repeat (first | refine zz6 ?_ _ | refine zz7 ?_ | refine zz8 ?_ _));exact BK203.out) hb);have n8_:=zz31 (Kd.C_below ((Kd.V_reads' (by (with_reducible repeat (first | apply Kd.V_alloc | apply Kd.V_drewN | apply Kd.V_drew));exact (Kd.V_mono (Kd.V_far (p:=⟨gb212,1,none⟩) (Kd.V_far (p:=⟨gb212,0,none⟩) (Kd.V_mono HL207_0.out (fun k_ hk=>(⟨hk,hk.2⟩:_∧k_ ≠ gb212))) (fun _ hk=>hk.2) (.int .i64 t208)) (fun _ hk=>hk.2) (.slice Ao29 t209.length co29)) (fun _ h_=>h_.1)))).2.2) hb);have n9_:=zz31 (zz11 (g:=gb212) (o:=.cells #[.int .i64 t208,.slice Ao29 t209.length co29] 30 (0,0)) (by (with_reducible repeat (first | refine zz6 ?_ _ | refine zz7 ?_ | refine zz8 ?_ _));refine blk_put (cs:=#[.int .i64 t208,.slice none 0 0]) ?_ 1 _ rfl;(with_reducible repeat (first | refine zz6 ?_ _ | refine zz7 ?_ | refine zz8 ?_ _));refine blk_put (cs:=#[.int .i64 0,.slice none 0 0]) ?_ 0 _ rfl;(with_reducible repeat (first | refine zz6 ?_ _ | refine zz7 ?_ | refine zz8 ?_ _));exact BK212.out) hb);have n10_:=zz31 (zz4 (by repeat first | exact HB.out | apply zz2 | apply zz0 | apply zz1 | refine zz3 ?_ GE201.out | refine zz3 ?_ GE202.out | refine zz3 ?_ GE203.out | refine zz3 ?_ GE212.out) hb);clear HO_12;clear HO_202001;clear HO_204001;clear HL207_0;clear HO211;clear BK201;clear BK202;clear BK203;clear HR207_0;clear BK212;clear HB;have HO_12:=n0_;have HO_202001:=n1_;have HO_204001:=n2_;have HL207_0:=n3_;have HO211:=n4_;have BK201:=n5_;have BK202:=n6_;have BK203:=n7_;have HR207_0:=n8_;have BK212:=n9_;have HB:=n10_;clear n0_ n1_ n2_ n3_ n4_ n5_ n6_ n7_ n8_ n9_ n10_;(try clear hb);(try clear hb2);(try clear hk);(try clear hi);have hcz34_0:w33.cell? ⟨gb212,0,none⟩=some (.int .i64 t208):=(zz9 BK212.out 0).trans rfl;have hcz34_1:w33.cell? ⟨gb212,1,none⟩=some (.slice Ao29 t209.length co29):=(zz9 BK212.out 1).trans rfl;have hfz34_0:=zz10 BK212.out 0;have hfz34_1:=zz10 BK212.out 1;have hcz35_0:w33.cell? ⟨gb203,0,none⟩=some (.int .i64 x204000_1):=(zz9 BK203.out 0).trans rfl;have hcz35_1:w33.cell? ⟨gb203,1,none⟩=some (.slice Ao32 x204001_1.length co32):=(zz9 BK203.out 1).trans rfl;have hfz35_0:=zz10 BK203.out 0;have hfz35_1:=zz10 BK203.out 1))
       go_roundg k1
       case measure=>have:=HK1.out;omega
       case rel=>exact ⟨(1),(wrap64 (x14_1+1)),(t208),(t209),(.slice Ao29 t209.length co29),(by first | rfl | (simp;done) | (simp [*];done)),(by first | rfl | (simp;done) | (simp [*];done)),H',⟨by have:=HK1.out;omega⟩,⟨by (with_reducible repeat (first | apply Kd.N_alloc | apply Kd.N_drewN | apply Kd.N_drew));exact Kd.N_mono (Kd.N_far (p:=⟨gb203,1,none⟩) (Kd.N_far (p:=⟨gb203,0,none⟩) (Kd.N_mono HO_12.out (fun k_ hk=>(⟨hk,hk.1.1.2.2.2⟩:_∧k_ ≠ gb203))) (fun _ hk=>hk.2) (.int .i64 t208)) (fun _ hk=>hk.2) (.slice Ao29 t209.length co29)) (fun _ hk=>⟨hk.1.1.1.1,⟨hk.1.1.1.2.1,⟨hk.1.1.1.2.2.1,hk.1.1.1.2.2.2⟩⟩⟩)⟩,⟨by (with_reducible repeat (first | apply Kd.V_alloc | apply Kd.V_drewN | apply Kd.V_drew));exact Kd.V_mono (Kd.V_far (p:=⟨gb203,1,none⟩) (Kd.V_far (p:=⟨gb203,0,none⟩) (Kd.V_mono HO_202001.out (fun k_ hk=>(⟨hk,hk.1.1.2.2.2.2⟩:_∧k_ ≠ gb203))) (fun _ hk=>hk.2) (.int .i64 t208)) (fun _ hk=>hk.2) (.slice Ao29 t209.length co29)) (fun _ hk=>⟨hk.1.1.1.1,⟨hk.1.1.1.2.1,⟨hk.1.1.1.2.2.1,⟨hk.1.1.1.2.2.2.1,hk.1.1.1.2.2.2.2⟩⟩⟩⟩)⟩,⟨Kd.V_mono (Kd.R_V (by (with_reducible repeat (first | apply zz12 | apply zz13 | apply zz14));exact Kd.R_mono (ok':=fun k_=>w.heap.size≤k_∧some k_ ≠ ((.slice (some ad207) t204.length co13):Value).ownBlock∧k_ ≠ gb201∧k_ ≠ gb202∧k_ ≠ gb203) (Kd.R_far (p:=⟨gb203,1,none⟩) (Kd.R_far (p:=⟨gb203,0,none⟩) (Kd.R_types (Kd.R_types (Kd.R_types (Kd.R_types (Kd.R_apart' HO211.out (Kd.N_typed HO_12.out) (by decide)) BK201.out (by decide)) BK202.out (by decide)) BK203.out (by decide)) BK203.out (by decide)) (fun _ hk=>hk.2) (.int .i64 t208)) (fun _ hk=>hk.2) (.slice Ao29 t209.length co29)) (fun _ hk=>⟨hk.1.1.1.1.1.1,⟨hk.1.1.1.1.2,⟨hk.1.1.1.2,⟨hk.1.1.2,hk.1.2⟩⟩⟩⟩))) (fun k_ hk=>by first | exact ⟨(.inr (hk.1)),hk.2⟩ | exact (.inr (hk)))⟩,⟨by (with_reducible repeat (first | refine zz6 ?_ _ | refine zz7 ?_ | refine zz8 ?_ _));refine blk_far ?_ NB201_203.out _;(with_reducible repeat (first | refine zz6 ?_ _ | refine zz7 ?_ | refine zz8 ?_ _));refine blk_far ?_ NB201_203.out _;(with_reducible repeat (first | refine zz6 ?_ _ | refine zz7 ?_ | refine zz8 ?_ _));exact BK201.out⟩,⟨by (with_reducible repeat (first | refine zz6 ?_ _ | refine zz7 ?_ | refine zz8 ?_ _));refine blk_far ?_ NB202_203.out _;(with_reducible repeat (first | refine zz6 ?_ _ | refine zz7 ?_ | refine zz8 ?_ _));refine blk_far ?_ NB202_203.out _;(with_reducible repeat (first | refine zz6 ?_ _ | refine zz7 ?_ | refine zz8 ?_ _));exact BK202.out⟩,⟨by (with_reducible repeat (first | refine zz6 ?_ _ | refine zz7 ?_ | refine zz8 ?_ _));refine blk_put (cs:=#[.int .i64 t208,.slice Ao32 x204001_1.length co32]) ?_ 1 _ rfl;(with_reducible repeat (first | refine zz6 ?_ _ | refine zz7 ?_ | refine zz8 ?_ _));refine blk_put (cs:=#[.int .i64 x204000_1,.slice Ao32 x204001_1.length co32]) ?_ 0 _ rfl;(with_reducible repeat (first | refine zz6 ?_ _ | refine zz7 ?_ | refine zz8 ?_ _));exact BK203.out⟩,⟨by repeat first | exact HB.out | apply zz2 | apply zz0 | apply zz1 | refine zz3 ?_ GE201.out | refine zz3 ?_ GE202.out | refine zz3 ?_ GE203.out | refine zz3 ?_ GE212.out⟩⟩
      ·replace c19:=Bool.eq_false_iff.mpr c19
       subst c19
       have H1:((spec_paSame.f k1 t208 t209 x204000_1 x204001_1).bind fun t214=>(if t214=true then (spec_paLeast.l0 k1 (wrap64 (x5_1+1)) t204 (t204.length:Int) (wrap64 (x14_1+1)) a0_0 l0_1 x204000_1 x204001_1) else (spec_paLeast.l0 k1 x5_1 t204 (t204.length:Int) (wrap64 (x14_1+1)) a0_0 l0_1 x204000_1 x204001_1)))=some (r1,r2,r3):=by rw [if_neg (show ¬ (false=true) by decide)] at H;exact H
       clear H
       have H:=H1
       clear H1
       replace H:=zz30.mp H
       obtain ⟨t214,A360,H⟩:=H
       replace H:(if t214=true then (spec_paLeast.l0 k1 (wrap64 (x5_1+1)) t204 (t204.length:Int) (wrap64 (x14_1+1)) a0_0 l0_1 x204000_1 x204001_1) else (spec_paLeast.l0 k1 x5_1 t204 (t204.length:Int) (wrap64 (x14_1+1)) a0_0 l0_1 x204000_1 x204001_1))=some (r1,r2,r3):=H
       have A36:=zz31 A360
       clear A360
       by_cases c37:t214=true
       ·subst c37
        have H1:(spec_paLeast.l0 k1 (wrap64 (x5_1+1)) t204 (t204.length:Int) (wrap64 (x14_1+1)) a0_0 l0_1 x204000_1 x204001_1)=some (r1,r2,r3):=by rw [if_pos rfl] at H;exact H
        clear H
        have H:=H1
        clear H1
        have H':=zz31 H
        clear H
        have p207:0≤(x14_1:Int):=zz29 (by first | (with_reducible assumption) | assumption)
        have q207:x14_1 < (t204.length:Int):=zz29 (by first | (with_reducible assumption) | assumption)
        obtain ⟨ad207,A207_0,c207_0,e207,hx207_0,hl207_0,hi207_0⟩:=at_L7 (Kd.N_reads' HO_12.out).2.2 x14_1 p207 q207
        cases e207
        obtain ⟨ce207,hce207,hMe207,hcc207⟩:=Kd.N_get HO_12.out [] x14_1 p207 (by first | exact q207 | exact zz29 (by first | (with_reducible assumption) | assumption) | (have e_:=(Kd.N_reads' HO_12.out).1;omega))
        obtain ⟨ua207_0,uc207_0,rfl,ul207_0,ge207_0⟩:=Kd.FK_slice_open hMe207
        have hv207_0:=hcc207 0 _ rfl
        rw [Nat.add_zero,show ((Kd.slice 3 (Kd.int .i64))).sz=1 from rfl,Nat.mul_one] at hv207_0
        replace hv207_0:=Option.some.inj (hv207_0.symm.trans hx207_0)
        injection hv207_0 with hva_ hvn_ hvc_
        rw [hva_] at ge207_0
        rw [hvc_] at ul207_0
        have HL207_0:=zz31 (show Kd.V (Kd.int .i64) 3 _ w.heap.size _ _ (rd_L7 t204 x14_1) from Kd.V_mk ul207_0 ge207_0)
        clear hva_ hvn_ hvc_ ge207_0 ul207_0
        clear hcc207 hce207
        have HR207_0:=zz31 hi207_0
        have HC207_0:=zz31 hl207_0
        clear hi207_0 hl207_0
        replace p207:=eq_true p207
        replace q207:=eq_true q207
        have hnb38:=NB201_202.out
        have hnc38:=NB202_201.out
        have hnb39:=NB201_203.out
        have hnc39:=NB203_201.out
        have hcz40_0:wr.cell? ⟨gb201,0,none⟩=some (.int .i64 a0_0):=(zz9 BK201.out 0).trans rfl
        have hcz40_1:wr.cell? ⟨gb201,1,none⟩=some (.slice A0_1 l0_1.length c0_1):=(zz9 BK201.out 1).trans rfl
        have hfz40_0:=zz10 BK201.out 0
        have hfz40_1:=zz10 BK201.out 1
        go_wp2_with (first | ((with_reducible refine gate_callee (f:=49) rfl ?_);refine goesL_ (some 20) rfl rfl Try.func49 (by kernel_rfl) rfl #[.agg #[.int .i64 a0_0,.slice A0_1 l0_1.length c0_1],.slice A207_0 (rd_L7 t204 x14_1).length c207_0] rfl (by (try simp only [zz26,zz27,zz28]);first | done | rfl | (simp only [zz24,zz25];rfl)) ?_;(with_reducible refine (spec_paRename.calls k1 a0_0 _ _ l0_1 _ _ (rd_L7 t204 x14_1) t208 t209 _ ?side1 ?side2 ?side3 ?side4 A17.out).mono ?_);(case side1=>repeat (first | exact (Kd.V_reads' HO_202001.out).2.2 | (with_reducible refine zz18 ?_ _) | (with_reducible refine zz19 ?_ _) | (with_reducible refine zz20 ?_)));(case side2=>exact (Kd.V_reads' HO_202001.out).2.1);(case side3=>repeat (first | exact (by repeat (first | (with_reducible exact HR207_0.out) | (with_reducible refine zz18 ?_ _) | (with_reducible refine zz19 ?_ _) | (with_reducible refine zz20 ?_) | exact HR207_0.out)) | (with_reducible refine zz18 ?_ _) | (with_reducible refine zz19 ?_ _) | (with_reducible refine zz20 ?_)));(case side4=>exact HC207_0.out);rintro e w41 ⟨v210,rfl,ho0,hb⟩;refine ⟨_,rfl,?_⟩;have n0_:=zz31 (Kd.N_elder' (by (with_reducible repeat (first | apply Kd.N_alloc | apply Kd.N_drewN | apply Kd.N_drew));exact HO_12.out) (Kd.R_base ho0) hb);have n1_:=zz31 (Kd.V_elder' (by (with_reducible repeat (first | apply Kd.V_alloc | apply Kd.V_drewN | apply Kd.V_drew));exact HO_202001.out) (Kd.R_base ho0) hb);have n2_:=zz31 (Kd.V_elder' (by (with_reducible repeat (first | apply Kd.V_alloc | apply Kd.V_drewN | apply Kd.V_drew));exact HO_204001.out) (Kd.R_base ho0) hb);have n3_:=zz31 (Kd.V_elder' (by (with_reducible repeat (first | apply Kd.V_alloc | apply Kd.V_drewN | apply Kd.V_drew));exact HL207_0.out) (Kd.R_base ho0) hb);have n4_:=zz31 (Kd.R_lower (Kd.R_newM (M:=fun k_=>(w.heap.size≤k_)) ho0 (zz5 (by repeat first | exact HB.out | apply zz2 | apply zz0 | apply zz1 | refine zz3 ?_ GE201.out | refine zz3 ?_ GE202.out | refine zz3 ?_ GE203.out)) (fun k_ h_=>h_)) (zz5 (by repeat first | exact HB.out | apply zz2 | apply zz0 | apply zz1 | refine zz3 ?_ GE201.out | refine zz3 ?_ GE202.out | refine zz3 ?_ GE203.out)));have n5_:=zz31 (zz11 (g:=gb201) (o:=.cells #[.int .i64 a0_0,.slice A0_1 l0_1.length c0_1] 30 (0,0)) (by (with_reducible repeat (first | refine zz6 ?_ _ | refine zz7 ?_ | refine zz8 ?_ _));exact BK201.out) hb);have n6_:=zz31 (zz11 (g:=gb202) (o:=.cells #[.int .i64 0,.slice none 0 0] 30 (0,0)) (by (with_reducible repeat (first | refine zz6 ?_ _ | refine zz7 ?_ | refine zz8 ?_ _));exact BK202.out) hb);have n7_:=zz31 (zz11 (g:=gb203) (o:=.cells #[.int .i64 x204000_1,u204001] 30 (0,0)) (by (with_reducible repeat (first | refine zz6 ?_ _ | refine zz7 ?_ | refine zz8 ?_ _));exact BK203.out) hb);have n8_:=zz31 (Kd.C_below (by repeat (first | (with_reducible exact HR207_0.out) | (with_reducible refine zz18 ?_ _) | (with_reducible refine zz19 ?_ _) | (with_reducible refine zz20 ?_) | exact HR207_0.out)) hb);have n9_:=zz31 (zz4 (by repeat first | exact HB.out | apply zz2 | apply zz0 | apply zz1 | refine zz3 ?_ GE201.out | refine zz3 ?_ GE202.out | refine zz3 ?_ GE203.out) hb);clear HO_12;clear HO_202001;clear HO_204001;clear HL207_0;clear BK201;clear BK202;clear BK203;clear HR207_0;clear HB;have HO_12:=n0_;have HO_202001:=n1_;have HO_204001:=n2_;have HL207_0:=n3_;have HO211:=n4_;have BK201:=n5_;have BK202:=n6_;have BK203:=n7_;have HR207_0:=n8_;have HB:=n9_;clear n0_ n1_ n2_ n3_ n4_ n5_ n6_ n7_ n8_ n9_;(try clear hb);(try clear hb2);(try clear hk);(try clear hi);(try clear ho0)) | ((with_reducible refine gate_dst (N:=8) rfl ?_);refine box_event ?hg (N:=8) ?hd (cs:=#[.int .i64 0,.slice none 0 0]) (t:=30) ?hr ?_;(case hd=>rfl);(case hg=>rfl);(case hr=>first | (go_simp;done) | (go_simp;rfl));intro gb212 hg w42 hbox hb;have n0_:=zz31 (Kd.N_below (Kd.N_elderB (by (with_reducible repeat (first | apply Kd.N_alloc | apply Kd.N_drewN | apply Kd.N_drew));exact HO_12.out) gb212 (Nat.le_of_eq hg.symm)) hb);have n1_:=zz31 (Kd.V_below (Kd.V_elderB (by (with_reducible repeat (first | apply Kd.V_alloc | apply Kd.V_drewN | apply Kd.V_drew));exact HO_202001.out) gb212 (Nat.le_of_eq hg.symm)) hb);have n2_:=zz31 (Kd.V_below (Kd.V_elderB (by (with_reducible repeat (first | apply Kd.V_alloc | apply Kd.V_drewN | apply Kd.V_drew));exact HO_204001.out) gb212 (Nat.le_of_eq hg.symm)) hb);have n3_:=zz31 (Kd.V_below (Kd.V_elderB (by (with_reducible repeat (first | apply Kd.V_alloc | apply Kd.V_drewN | apply Kd.V_drew));exact HL207_0.out) gb212 (Nat.le_of_eq hg.symm)) hb);have n4_:=zz31 (Kd.R_below (by (with_reducible repeat (first | apply zz12 | apply zz13 | apply zz14));exact HO211.out) hb);have n5_:=zz31 (zz11 (g:=gb201) (o:=.cells #[.int .i64 a0_0,.slice A0_1 l0_1.length c0_1] 30 (0,0)) (by (with_reducible repeat (first | refine zz6 ?_ _ | refine zz7 ?_ | refine zz8 ?_ _));exact BK201.out) hb);have n6_:=zz31 (zz11 (g:=gb202) (o:=.cells #[.int .i64 0,.slice none 0 0] 30 (0,0)) (by (with_reducible repeat (first | refine zz6 ?_ _ | refine zz7 ?_ | refine zz8 ?_ _));exact BK202.out) hb);have n7_:=zz31 (zz11 (g:=gb203) (o:=.cells #[.int .i64 x204000_1,u204001] 30 (0,0)) (by (with_reducible repeat (first | refine zz6 ?_ _ | refine zz7 ?_ | refine zz8 ?_ _));exact BK203.out) hb);have n8_:=zz31 (Kd.C_below (by repeat (first | (with_reducible exact HR207_0.out) | (with_reducible refine zz18 ?_ _) | (with_reducible refine zz19 ?_ _) | (with_reducible refine zz20 ?_) | exact HR207_0.out)) hb);have n9_:=zz31 (zz4 (by repeat first | exact HB.out | apply zz2 | apply zz0 | apply zz1 | refine zz3 ?_ GE201.out | refine zz3 ?_ GE202.out | refine zz3 ?_ GE203.out) hb);have n10_:=zz31 (hbox);have n11_:=zz31 ((by rw [hg];exact (zz5 (by repeat first | exact HB.out | apply zz2 | apply zz0 | apply zz1 | refine zz3 ?_ GE201.out | refine zz3 ?_ GE202.out | refine zz3 ?_ GE203.out)):w.heap.size≤gb212));have n12_:=zz31 ((by rw [hg];exact (zz5 (by repeat first | exact HB.out | apply zz2 | apply zz0 | apply zz1 | refine zz3 ?_ GE201.out | refine zz3 ?_ GE202.out | refine zz3 ?_ GE203.out)):w.heap.size≤gb212));have n13_:=zz31 ((by rw [hg];exact Nat.ne_of_lt (blk_lt (g:=gb201) (o:=.cells #[.int .i64 a0_0,.slice A0_1 l0_1.length c0_1] 30 (0,0)) (by (with_reducible repeat (first | refine zz6 ?_ _ | refine zz7 ?_ | refine zz8 ?_ _));exact BK201.out)):gb201 ≠ gb212));have n14_:=zz31 ((by rw [hg];exact Nat.ne_of_gt (blk_lt (g:=gb201) (o:=.cells #[.int .i64 a0_0,.slice A0_1 l0_1.length c0_1] 30 (0,0)) (by (with_reducible repeat (first | refine zz6 ?_ _ | refine zz7 ?_ | refine zz8 ?_ _));exact BK201.out)):gb212 ≠ gb201));have n15_:=zz31 ((by rw [hg];exact Nat.ne_of_lt (blk_lt (g:=gb202) (o:=.cells #[.int .i64 0,.slice none 0 0] 30 (0,0)) (by (with_reducible repeat (first | refine zz6 ?_ _ | refine zz7 ?_ | refine zz8 ?_ _));exact BK202.out)):gb202 ≠ gb212));have n16_:=zz31 ((by rw [hg];exact Nat.ne_of_gt (blk_lt (g:=gb202) (o:=.cells #[.int .i64 0,.slice none 0 0] 30 (0,0)) (by (with_reducible repeat (first | refine zz6 ?_ _ | refine zz7 ?_ | refine zz8 ?_ _));exact BK202.out)):gb212 ≠ gb202));have n17_:=zz31 ((by rw [hg];exact Nat.ne_of_lt (blk_lt (g:=gb203) (o:=.cells #[.int .i64 x204000_1,u204001] 30 (0,0)) (by (with_reducible repeat (first | refine zz6 ?_ _ | refine zz7 ?_ | refine zz8 ?_ _));exact BK203.out)):gb203 ≠ gb212));have n18_:=zz31 ((by rw [hg];exact Nat.ne_of_gt (blk_lt (g:=gb203) (o:=.cells #[.int .i64 x204000_1,u204001] 30 (0,0)) (by (with_reducible repeat (first | refine zz6 ?_ _ | refine zz7 ?_ | refine zz8 ?_ _));exact BK203.out)):gb212 ≠ gb203));clear HO_12;clear HO_202001;clear HO_204001;clear HL207_0;clear HO211;clear BK201;clear BK202;clear BK203;clear HR207_0;clear HB;have HO_12:=n0_;have HO_202001:=n1_;have HO_204001:=n2_;have HL207_0:=n3_;have HO211:=n4_;have BK201:=n5_;have BK202:=n6_;have BK203:=n7_;have HR207_0:=n8_;have HB:=n9_;have BK212:=n10_;have GW212:=n11_;have GE212:=n12_;have NB201_212:=n13_;have NB212_201:=n14_;have NB202_212:=n15_;have NB212_202:=n16_;have NB203_212:=n17_;have NB212_203:=n18_;clear n0_ n1_ n2_ n3_ n4_ n5_ n6_ n7_ n8_ n9_ n10_ n11_ n12_ n13_ n14_ n15_ n16_ n17_ n18_;clear hb hbox hg;have hnb43:=NB212_201.out;have hnc43:=NB201_212.out;have hnb44:=NB212_202.out;have hnc44:=NB202_212.out;have hnb45:=NB212_203.out;have hnc45:=NB203_212.out;have hcz46_0:w42.cell? ⟨gb212,0,none⟩=some (.int .i64 0):=(zz9 BK212.out 0).trans rfl;have hcz46_1:w42.cell? ⟨gb212,1,none⟩=some (.slice none 0 0):=(zz9 BK212.out 1).trans rfl;have hfz46_0:=zz10 BK212.out 0;have hfz46_1:=zz10 BK212.out 1;obtain ⟨Ao47,co47,eo47⟩:=Kd.R_slice HO211.out;subst eo47;have hnb48:=NB203_202.out;have hnc48:=NB202_203.out;have hcz49_0:w42.cell? ⟨gb203,0,none⟩=some (.int .i64 x204000_1):=(zz9 BK203.out 0).trans rfl;have hcz49_1:w42.cell? ⟨gb203,1,none⟩=some (u204001):=(zz9 BK203.out 1).trans rfl;have hfz49_0:=zz10 BK203.out 0;have hfz49_1:=zz10 BK203.out 1;obtain ⟨Ao50,co50,eo50⟩:=Kd.V_slice HO_204001.out;subst eo50) | ((with_reducible refine gate_callee (f:=62) rfl ?_);refine goesL_ (some 24) rfl rfl Try.func62 (by kernel_rfl) rfl #[.agg #[.int .i64 t208,.slice Ao47 t209.length co47],.agg #[.int .i64 x204000_1,.slice Ao50 x204001_1.length co50]] rfl (by (try simp only [zz26,zz27,zz28]);first | done | rfl | (simp only [zz24,zz25];rfl)) ?_;(with_reducible refine (spec_paBefore.calls k1 t208 _ _ t209 x204000_1 _ _ x204001_1 false _ ?side1 ?side2 ?side3 ?side4 A18.out).mono ?_);(case side1=>refine (Kd.R_reads' (e:=70) (base:=w.heap.size) (ok:=fun k_=>((w.heap.size≤k_)∧True)) (n:=t209.length) (c:=co47) ?_).2.2;exact (by (with_reducible repeat (first | apply zz12 | apply zz13 | apply zz14));exact (Kd.R_mono (Kd.R_far (p:=⟨gb212,1,none⟩) (Kd.R_far (p:=⟨gb212,0,none⟩) (Kd.R_types HO211.out BK212.out (by decide)) (fun _ hk=>hk.2) (.int .i64 t208)) (fun _ hk=>hk.2) (.slice Ao47 t209.length co47)) (fun _ h_=>h_.1))));(case side2=>exact (Kd.R_reads' HO211.out).2.1);(case side3=>refine (Kd.V_reads' (e:=70) (base:=w.heap.size) (ok:=fun k_=>((((P0_1_ k_ ∨ w.heap.size≤k_)∧(some k_ ≠ (.slice (some ad207) t204.length co13:Value).ownBlock∧(k_ ≠ gb201∧(k_ ≠ gb202∧k_ ≠ gb203))))∧some k_ ≠ (.slice Ao47 t209.length co47:Value).ownBlock)∧k_ ≠ gb212)) (n:=x204001_1.length) (c:=co50) ?_).2.2;exact (by (with_reducible repeat (first | apply Kd.V_alloc | apply Kd.V_drewN | apply Kd.V_drew));exact (Kd.V_mono (Kd.V_far (p:=⟨gb212,1,none⟩) (Kd.V_far (p:=⟨gb212,0,none⟩) (Kd.V_mono HO_204001.out (fun k_ hk=>(⟨hk,hk.2⟩:_∧k_ ≠ gb212))) (fun _ hk=>hk.2) (.int .i64 t208)) (fun _ hk=>hk.2) (.slice Ao47 t209.length co47)) (fun _ h_=>h_.1))));(case side4=>exact (Kd.V_reads' HO_204001.out).2.1);rintro e w51 ⟨rfl,hb⟩;refine ⟨_,rfl,?_⟩;have n0_:=zz31 (Kd.N_below (by (with_reducible repeat (first | apply Kd.N_alloc | apply Kd.N_drewN | apply Kd.N_drew));exact (Kd.N_mono (Kd.N_far (p:=⟨gb212,1,none⟩) (Kd.N_far (p:=⟨gb212,0,none⟩) (Kd.N_mono HO_12.out (fun k_ hk=>(⟨hk,hk.2⟩:_∧k_ ≠ gb212))) (fun _ hk=>hk.2) (.int .i64 t208)) (fun _ hk=>hk.2) (.slice Ao47 t209.length co47)) (fun _ h_=>h_.1))) hb);have n1_:=zz31 (Kd.V_below (by (with_reducible repeat (first | apply Kd.V_alloc | apply Kd.V_drewN | apply Kd.V_drew));exact (Kd.V_mono (Kd.V_far (p:=⟨gb212,1,none⟩) (Kd.V_far (p:=⟨gb212,0,none⟩) (Kd.V_mono HO_202001.out (fun k_ hk=>(⟨hk,hk.2⟩:_∧k_ ≠ gb212))) (fun _ hk=>hk.2) (.int .i64 t208)) (fun _ hk=>hk.2) (.slice Ao47 t209.length co47)) (fun _ h_=>h_.1))) hb);have n2_:=zz31 (Kd.V_below (by (with_reducible repeat (first | apply Kd.V_alloc | apply Kd.V_drewN | apply Kd.V_drew));exact (Kd.V_mono (Kd.V_far (p:=⟨gb212,1,none⟩) (Kd.V_far (p:=⟨gb212,0,none⟩) (Kd.V_mono HO_204001.out (fun k_ hk=>(⟨hk,hk.2⟩:_∧k_ ≠ gb212))) (fun _ hk=>hk.2) (.int .i64 t208)) (fun _ hk=>hk.2) (.slice Ao47 t209.length co47)) (fun _ h_=>h_.1))) hb);have n3_:=zz31 (Kd.V_below (by (with_reducible repeat (first | apply Kd.V_alloc | apply Kd.V_drewN | apply Kd.V_drew));exact (Kd.V_mono (Kd.V_far (p:=⟨gb212,1,none⟩) (Kd.V_far (p:=⟨gb212,0,none⟩) (Kd.V_mono HL207_0.out (fun k_ hk=>(⟨hk,hk.2⟩:_∧k_ ≠ gb212))) (fun _ hk=>hk.2) (.int .i64 t208)) (fun _ hk=>hk.2) (.slice Ao47 t209.length co47)) (fun _ h_=>h_.1))) hb);have n4_:=zz31 (Kd.R_below (by (with_reducible repeat (first | apply zz12 | apply zz13 | apply zz14));exact (Kd.R_mono (Kd.R_far (p:=⟨gb212,1,none⟩) (Kd.R_far (p:=⟨gb212,0,none⟩) (Kd.R_types HO211.out BK212.out (by decide)) (fun _ hk=>hk.2) (.int .i64 t208)) (fun _ hk=>hk.2) (.slice Ao47 t209.length co47)) (fun _ h_=>h_.1))) hb);have n5_:=zz31 (zz11 (g:=gb201) (o:=.cells #[.int .i64 a0_0,.slice A0_1 l0_1.length c0_1] 30 (0,0)) (by (with_reducible repeat (first | refine zz6 ?_ _ | refine zz7 ?_ | refine zz8 ?_ _));refine blk_far ?_ NB201_212.out _;(with_reducible repeat (first | refine zz6 ?_ _ | refine zz7 ?_ | refine zz8 ?_ _));refine blk_far ?_ NB201_212.out _;(with_reducible repeat (first | refine zz6 ?_ _ | refine zz7 ?_ | refine zz8 ?_ _));exact BK201.out) hb);have n6_:=zz31 (zz11 (g:=gb202) (o:=.cells #[.int .i64 0,.slice none 0 0] 30 (0,0)) (by (with_reducible repeat (first | refine zz6 ?_ _ | refine zz7 ?_ | refine zz8 ?_ _));refine blk_far ?_ NB202_212.out _;(with_reducible repeat (first | refine zz6 ?_ _ | refine zz7 ?_ | refine zz8 ?_ _));refine blk_far ?_ NB202_212.out _;(with_reducible repeat (first | refine zz6 ?_ _ | refine zz7 ?_ | refine zz8 ?_ _));exact BK202.out) hb);have n7_:=zz31 (zz11 (g:=gb203) (o:=.cells #[.int .i64 x204000_1,.slice Ao50 x204001_1.length co50] 30 (0,0)) (by (with_reducible repeat (first | refine zz6 ?_ _ | refine zz7 ?_ | refine zz8 ?_ _));refine blk_far ?_ NB203_212.out _;(with_reducible repeat (first | refine zz6 ?_ _ | refine zz7 ?_ | refine zz8 ?_ _));refine blk_far ?_ NB203_212.out _;(with_reducible repeat (first | refine zz6 ?_ _ | refine zz7 ?_ | refine zz8 ?_ _));exact BK203.out) hb);have n8_:=zz31 (Kd.C_below ((Kd.V_reads' (by (with_reducible repeat (first | apply Kd.V_alloc | apply Kd.V_drewN | apply Kd.V_drew));exact (Kd.V_mono (Kd.V_far (p:=⟨gb212,1,none⟩) (Kd.V_far (p:=⟨gb212,0,none⟩) (Kd.V_mono HL207_0.out (fun k_ hk=>(⟨hk,hk.2⟩:_∧k_ ≠ gb212))) (fun _ hk=>hk.2) (.int .i64 t208)) (fun _ hk=>hk.2) (.slice Ao47 t209.length co47)) (fun _ h_=>h_.1)))).2.2) hb);have n9_:=zz31 (zz11 (g:=gb212) (o:=.cells #[.int .i64 t208,.slice Ao47 t209.length co47] 30 (0,0)) (by (with_reducible repeat (first | refine zz6 ?_ _ | refine zz7 ?_ | refine zz8 ?_ _));refine blk_put (cs:=#[.int .i64 t208,.slice none 0 0]) ?_ 1 _ rfl;(with_reducible repeat (first | refine zz6 ?_ _ | refine zz7 ?_ | refine zz8 ?_ _));refine blk_put (cs:=#[.int .i64 0,.slice none 0 0]) ?_ 0 _ rfl;(with_reducible repeat (first | refine zz6 ?_ _ | refine zz7 ?_ | refine zz8 ?_ _));exact BK212.out) hb);have n10_:=zz31 (zz4 (by repeat first | exact HB.out | apply zz2 | apply zz0 | apply zz1 | refine zz3 ?_ GE201.out | refine zz3 ?_ GE202.out | refine zz3 ?_ GE203.out | refine zz3 ?_ GE212.out) hb);clear HO_12;clear HO_202001;clear HO_204001;clear HL207_0;clear HO211;clear BK201;clear BK202;clear BK203;clear HR207_0;clear BK212;clear HB;have HO_12:=n0_;have HO_202001:=n1_;have HO_204001:=n2_;have HL207_0:=n3_;have HO211:=n4_;have BK201:=n5_;have BK202:=n6_;have BK203:=n7_;have HR207_0:=n8_;have BK212:=n9_;have HB:=n10_;clear n0_ n1_ n2_ n3_ n4_ n5_ n6_ n7_ n8_ n9_ n10_;(try clear hb);(try clear hb2);(try clear hk);(try clear hi);have hcz52_0:w51.cell? ⟨gb212,0,none⟩=some (.int .i64 t208):=(zz9 BK212.out 0).trans rfl;have hcz52_1:w51.cell? ⟨gb212,1,none⟩=some (.slice Ao47 t209.length co47):=(zz9 BK212.out 1).trans rfl;have hfz52_0:=zz10 BK212.out 0;have hfz52_1:=zz10 BK212.out 1;have hcz53_0:w51.cell? ⟨gb203,0,none⟩=some (.int .i64 x204000_1):=(zz9 BK203.out 0).trans rfl;have hcz53_1:w51.cell? ⟨gb203,1,none⟩=some (.slice Ao50 x204001_1.length co50):=(zz9 BK203.out 1).trans rfl;have hfz53_0:=zz10 BK203.out 0;have hfz53_1:=zz10 BK203.out 1) | ((with_reducible refine gate_callee (f:=32) rfl ?_);refine goesL_ (some 29) rfl rfl Try.func32 (by kernel_rfl) rfl #[.agg #[.int .i64 t208,.slice Ao47 t209.length co47],.agg #[.int .i64 x204000_1,.slice Ao50 x204001_1.length co50]] rfl (by (try simp only [zz26,zz27,zz28]);first | done | rfl | (simp only [zz24,zz25];rfl)) ?_;(with_reducible refine (spec_paSame.calls k1 t208 _ _ t209 x204000_1 _ _ x204001_1 true _ ?side1 ?side2 ?side3 ?side4 A36.out).mono ?_);(case side1=>repeat (first | exact (Kd.R_reads' HO211.out).2.2 | (with_reducible refine zz18 ?_ _) | (with_reducible refine zz19 ?_ _) | (with_reducible refine zz20 ?_)));(case side2=>exact (Kd.R_reads' HO211.out).2.1);(case side3=>repeat (first | exact (Kd.V_reads' HO_204001.out).2.2 | (with_reducible refine zz18 ?_ _) | (with_reducible refine zz19 ?_ _) | (with_reducible refine zz20 ?_)));(case side4=>exact (Kd.V_reads' HO_204001.out).2.1);rintro e w54 ⟨rfl,hb⟩;refine ⟨_,rfl,?_⟩;have n0_:=zz31 (Kd.N_below (by (with_reducible repeat (first | apply Kd.N_alloc | apply Kd.N_drewN | apply Kd.N_drew));exact HO_12.out) hb);have n1_:=zz31 (Kd.V_below (by (with_reducible repeat (first | apply Kd.V_alloc | apply Kd.V_drewN | apply Kd.V_drew));exact HO_202001.out) hb);have n2_:=zz31 (Kd.V_below (by (with_reducible repeat (first | apply Kd.V_alloc | apply Kd.V_drewN | apply Kd.V_drew));exact HO_204001.out) hb);have n3_:=zz31 (Kd.V_below (by (with_reducible repeat (first | apply Kd.V_alloc | apply Kd.V_drewN | apply Kd.V_drew));exact HL207_0.out) hb);have n4_:=zz31 (Kd.R_below (by (with_reducible repeat (first | apply zz12 | apply zz13 | apply zz14));exact HO211.out) hb);have n5_:=zz31 (zz11 (g:=gb201) (o:=.cells #[.int .i64 a0_0,.slice A0_1 l0_1.length c0_1] 30 (0,0)) (by (with_reducible repeat (first | refine zz6 ?_ _ | refine zz7 ?_ | refine zz8 ?_ _));exact BK201.out) hb);have n6_:=zz31 (zz11 (g:=gb202) (o:=.cells #[.int .i64 0,.slice none 0 0] 30 (0,0)) (by (with_reducible repeat (first | refine zz6 ?_ _ | refine zz7 ?_ | refine zz8 ?_ _));exact BK202.out) hb);have n7_:=zz31 (zz11 (g:=gb203) (o:=.cells #[.int .i64 x204000_1,.slice Ao50 x204001_1.length co50] 30 (0,0)) (by (with_reducible repeat (first | refine zz6 ?_ _ | refine zz7 ?_ | refine zz8 ?_ _));exact BK203.out) hb);have n8_:=zz31 (Kd.C_below (by repeat (first | (with_reducible exact HR207_0.out) | (with_reducible refine zz18 ?_ _) | (with_reducible refine zz19 ?_ _) | (with_reducible refine zz20 ?_) | exact HR207_0.out)) hb);have n9_:=zz31 (zz11 (g:=gb212) (o:=.cells #[.int .i64 t208,.slice Ao47 t209.length co47] 30 (0,0)) (by (with_reducible repeat (first | refine zz6 ?_ _ | refine zz7 ?_ | refine zz8 ?_ _));exact BK212.out) hb);have n10_:=zz31 (zz4 (by repeat first | exact HB.out | apply zz2 | apply zz0 | apply zz1 | refine zz3 ?_ GE201.out | refine zz3 ?_ GE202.out | refine zz3 ?_ GE203.out | refine zz3 ?_ GE212.out) hb);clear HO_12;clear HO_202001;clear HO_204001;clear HL207_0;clear HO211;clear BK201;clear BK202;clear BK203;clear HR207_0;clear BK212;clear HB;have HO_12:=n0_;have HO_202001:=n1_;have HO_204001:=n2_;have HL207_0:=n3_;have HO211:=n4_;have BK201:=n5_;have BK202:=n6_;have BK203:=n7_;have HR207_0:=n8_;have BK212:=n9_;have HB:=n10_;clear n0_ n1_ n2_ n3_ n4_ n5_ n6_ n7_ n8_ n9_ n10_;(try clear hb);(try clear hb2);(try clear hk);(try clear hi)))
        go_roundg k1
        case measure=>have:=HK1.out;omega
        case rel=>exact ⟨(wrap64 (x5_1+1)),(wrap64 (x14_1+1)),(x204000_1),(x204001_1),(.slice Ao50 x204001_1.length co50),(by first | rfl | (simp;done) | (simp [*];done)),(by first | rfl | (simp;done) | (simp [*];done)),H',⟨by have:=HK1.out;omega⟩,⟨by (with_reducible repeat (first | apply Kd.N_alloc | apply Kd.N_drewN | apply Kd.N_drew));exact Kd.N_mono HO_12.out (fun _ hk=>⟨hk.1.1.1,⟨hk.1.1.2.1,⟨hk.1.1.2.2.1,hk.1.1.2.2.2⟩⟩⟩)⟩,⟨by (with_reducible repeat (first | apply Kd.V_alloc | apply Kd.V_drewN | apply Kd.V_drew));exact Kd.V_mono HO_202001.out (fun _ hk=>⟨hk.1.1.1,⟨hk.1.1.2.1,⟨hk.1.1.2.2.1,⟨hk.1.1.2.2.2.1,hk.1.1.2.2.2.2⟩⟩⟩⟩)⟩,⟨by (with_reducible repeat (first | apply Kd.V_alloc | apply Kd.V_drewN | apply Kd.V_drew));exact Kd.V_mono HO_204001.out (fun _ hk=>⟨hk.1.1.1,⟨hk.1.1.2.1,⟨hk.1.1.2.2.1,⟨hk.1.1.2.2.2.1,hk.1.1.2.2.2.2⟩⟩⟩⟩)⟩,⟨by (with_reducible repeat (first | refine zz6 ?_ _ | refine zz7 ?_ | refine zz8 ?_ _));exact BK201.out⟩,⟨by (with_reducible repeat (first | refine zz6 ?_ _ | refine zz7 ?_ | refine zz8 ?_ _));exact BK202.out⟩,⟨by (with_reducible repeat (first | refine zz6 ?_ _ | refine zz7 ?_ | refine zz8 ?_ _));exact BK203.out⟩,⟨by repeat first | exact HB.out | apply zz2 | apply zz0 | apply zz1 | refine zz3 ?_ GE201.out | refine zz3 ?_ GE202.out | refine zz3 ?_ GE203.out | refine zz3 ?_ GE212.out⟩⟩
       ·replace c37:=Bool.eq_false_iff.mpr c37
        subst c37
        have H1:(spec_paLeast.l0 k1 x5_1 t204 (t204.length:Int) (wrap64 (x14_1+1)) a0_0 l0_1 x204000_1 x204001_1)=some (r1,r2,r3):=by rw [if_neg (show ¬ (false=true) by decide)] at H;exact H
        clear H
        have H:=H1
        clear H1
        have H':=zz31 H
        clear H
        have p207:0≤(x14_1:Int):=zz29 (by first | (with_reducible assumption) | assumption)
        have q207:x14_1 < (t204.length:Int):=zz29 (by first | (with_reducible assumption) | assumption)
        obtain ⟨ad207,A207_0,c207_0,e207,hx207_0,hl207_0,hi207_0⟩:=at_L7 (Kd.N_reads' HO_12.out).2.2 x14_1 p207 q207
        cases e207
        obtain ⟨ce207,hce207,hMe207,hcc207⟩:=Kd.N_get HO_12.out [] x14_1 p207 (by first | exact q207 | exact zz29 (by first | (with_reducible assumption) | assumption) | (have e_:=(Kd.N_reads' HO_12.out).1;omega))
        obtain ⟨ua207_0,uc207_0,rfl,ul207_0,ge207_0⟩:=Kd.FK_slice_open hMe207
        have hv207_0:=hcc207 0 _ rfl
        rw [Nat.add_zero,show ((Kd.slice 3 (Kd.int .i64))).sz=1 from rfl,Nat.mul_one] at hv207_0
        replace hv207_0:=Option.some.inj (hv207_0.symm.trans hx207_0)
        injection hv207_0 with hva_ hvn_ hvc_
        rw [hva_] at ge207_0
        rw [hvc_] at ul207_0
        have HL207_0:=zz31 (show Kd.V (Kd.int .i64) 3 _ w.heap.size _ _ (rd_L7 t204 x14_1) from Kd.V_mk ul207_0 ge207_0)
        clear hva_ hvn_ hvc_ ge207_0 ul207_0
        clear hcc207 hce207
        have HR207_0:=zz31 hi207_0
        have HC207_0:=zz31 hl207_0
        clear hi207_0 hl207_0
        replace p207:=eq_true p207
        replace q207:=eq_true q207
        have hnb55:=NB201_202.out
        have hnc55:=NB202_201.out
        have hnb56:=NB201_203.out
        have hnc56:=NB203_201.out
        have hcz57_0:wr.cell? ⟨gb201,0,none⟩=some (.int .i64 a0_0):=(zz9 BK201.out 0).trans rfl
        have hcz57_1:wr.cell? ⟨gb201,1,none⟩=some (.slice A0_1 l0_1.length c0_1):=(zz9 BK201.out 1).trans rfl
        have hfz57_0:=zz10 BK201.out 0
        have hfz57_1:=zz10 BK201.out 1
        go_wp2_with (first | ((with_reducible refine gate_callee (f:=49) rfl ?_);refine goesL_ (some 20) rfl rfl Try.func49 (by kernel_rfl) rfl #[.agg #[.int .i64 a0_0,.slice A0_1 l0_1.length c0_1],.slice A207_0 (rd_L7 t204 x14_1).length c207_0] rfl (by (try simp only [zz26,zz27,zz28]);first | done | rfl | (simp only [zz24,zz25];rfl)) ?_;(with_reducible refine (spec_paRename.calls k1 a0_0 _ _ l0_1 _ _ (rd_L7 t204 x14_1) t208 t209 _ ?side1 ?side2 ?side3 ?side4 A17.out).mono ?_);(case side1=>repeat (first | exact (Kd.V_reads' HO_202001.out).2.2 | (with_reducible refine zz18 ?_ _) | (with_reducible refine zz19 ?_ _) | (with_reducible refine zz20 ?_)));(case side2=>exact (Kd.V_reads' HO_202001.out).2.1);(case side3=>repeat (first | exact (by repeat (first | (with_reducible exact HR207_0.out) | (with_reducible refine zz18 ?_ _) | (with_reducible refine zz19 ?_ _) | (with_reducible refine zz20 ?_) | exact HR207_0.out)) | (with_reducible refine zz18 ?_ _) | (with_reducible refine zz19 ?_ _) | (with_reducible refine zz20 ?_)));(case side4=>exact HC207_0.out);rintro e w58 ⟨v210,rfl,ho0,hb⟩;refine ⟨_,rfl,?_⟩;have n0_:=zz31 (Kd.N_elder' (by (with_reducible repeat (first | apply Kd.N_alloc | apply Kd.N_drewN | apply Kd.N_drew));exact HO_12.out) (Kd.R_base ho0) hb);have n1_:=zz31 (Kd.V_elder' (by (with_reducible repeat (first | apply Kd.V_alloc | apply Kd.V_drewN | apply Kd.V_drew));exact HO_202001.out) (Kd.R_base ho0) hb);have n2_:=zz31 (Kd.V_elder' (by (with_reducible repeat (first | apply Kd.V_alloc | apply Kd.V_drewN | apply Kd.V_drew));exact HO_204001.out) (Kd.R_base ho0) hb);have n3_:=zz31 (Kd.V_elder' (by (with_reducible repeat (first | apply Kd.V_alloc | apply Kd.V_drewN | apply Kd.V_drew));exact HL207_0.out) (Kd.R_base ho0) hb);have n4_:=zz31 (Kd.R_lower (Kd.R_newM (M:=fun k_=>(w.heap.size≤k_)) ho0 (zz5 (by repeat first | exact HB.out | apply zz2 | apply zz0 | apply zz1 | refine zz3 ?_ GE201.out | refine zz3 ?_ GE202.out | refine zz3 ?_ GE203.out)) (fun k_ h_=>h_)) (zz5 (by repeat first | exact HB.out | apply zz2 | apply zz0 | apply zz1 | refine zz3 ?_ GE201.out | refine zz3 ?_ GE202.out | refine zz3 ?_ GE203.out)));have n5_:=zz31 (zz11 (g:=gb201) (o:=.cells #[.int .i64 a0_0,.slice A0_1 l0_1.length c0_1] 30 (0,0)) (by (with_reducible repeat (first | refine zz6 ?_ _ | refine zz7 ?_ | refine zz8 ?_ _));exact BK201.out) hb);have n6_:=zz31 (zz11 (g:=gb202) (o:=.cells #[.int .i64 0,.slice none 0 0] 30 (0,0)) (by (with_reducible repeat (first | refine zz6 ?_ _ | refine zz7 ?_ | refine zz8 ?_ _));exact BK202.out) hb);have n7_:=zz31 (zz11 (g:=gb203) (o:=.cells #[.int .i64 x204000_1,u204001] 30 (0,0)) (by (with_reducible repeat (first | refine zz6 ?_ _ | refine zz7 ?_ | refine zz8 ?_ _));exact BK203.out) hb);have n8_:=zz31 (Kd.C_below (by repeat (first | (with_reducible exact HR207_0.out) | (with_reducible refine zz18 ?_ _) | (with_reducible refine zz19 ?_ _) | (with_reducible refine zz20 ?_) | exact HR207_0.out)) hb);have n9_:=zz31 (zz4 (by repeat first | exact HB.out | apply zz2 | apply zz0 | apply zz1 | refine zz3 ?_ GE201.out | refine zz3 ?_ GE202.out | refine zz3 ?_ GE203.out) hb);clear HO_12;clear HO_202001;clear HO_204001;clear HL207_0;clear BK201;clear BK202;clear BK203;clear HR207_0;clear HB;have HO_12:=n0_;have HO_202001:=n1_;have HO_204001:=n2_;have HL207_0:=n3_;have HO211:=n4_;have BK201:=n5_;have BK202:=n6_;have BK203:=n7_;have HR207_0:=n8_;have HB:=n9_;clear n0_ n1_ n2_ n3_ n4_ n5_ n6_ n7_ n8_ n9_;(try clear hb);(try clear hb2);(try clear hk);(try clear hi);(try clear ho0)) | ((with_reducible refine gate_dst (N:=8) rfl ?_);refine box_event ?hg (N:=8) ?hd (cs:=#[.int .i64 0,.slice none 0 0]) (t:=30) ?hr ?_;(case hd=>rfl);(case hg=>rfl);(case hr=>first | (go_simp;done) | (go_simp;rfl));intro gb212 hg w59 hbox hb;have n0_:=zz31 (Kd.N_below (Kd.N_elderB (by (with_reducible repeat (first | apply Kd.N_alloc | apply Kd.N_drewN | apply Kd.N_drew));exact HO_12.out) gb212 (Nat.le_of_eq hg.symm)) hb);have n1_:=zz31 (Kd.V_below (Kd.V_elderB (by (with_reducible repeat (first | apply Kd.V_alloc | apply Kd.V_drewN | apply Kd.V_drew));exact HO_202001.out) gb212 (Nat.le_of_eq hg.symm)) hb);have n2_:=zz31 (Kd.V_below (Kd.V_elderB (by (with_reducible repeat (first | apply Kd.V_alloc | apply Kd.V_drewN | apply Kd.V_drew));exact HO_204001.out) gb212 (Nat.le_of_eq hg.symm)) hb);have n3_:=zz31 (Kd.V_below (Kd.V_elderB (by (with_reducible repeat (first | apply Kd.V_alloc | apply Kd.V_drewN | apply Kd.V_drew));exact HL207_0.out) gb212 (Nat.le_of_eq hg.symm)) hb);have n4_:=zz31 (Kd.R_below (by (with_reducible repeat (first | apply zz12 | apply zz13 | apply zz14));exact HO211.out) hb);have n5_:=zz31 (zz11 (g:=gb201) (o:=.cells #[.int .i64 a0_0,.slice A0_1 l0_1.length c0_1] 30 (0,0)) (by (with_reducible repeat (first | refine zz6 ?_ _ | refine zz7 ?_ | refine zz8 ?_ _));exact BK201.out) hb);have n6_:=zz31 (zz11 (g:=gb202) (o:=.cells #[.int .i64 0,.slice none 0 0] 30 (0,0)) (by (with_reducible repeat (first | refine zz6 ?_ _ | refine zz7 ?_ | refine zz8 ?_ _));exact BK202.out) hb);have n7_:=zz31 (zz11 (g:=gb203) (o:=.cells #[.int .i64 x204000_1,u204001] 30 (0,0)) (by (with_reducible repeat (first | refine zz6 ?_ _ | refine zz7 ?_ | refine zz8 ?_ _));exact BK203.out) hb);have n8_:=zz31 (Kd.C_below (by repeat (first | (with_reducible exact HR207_0.out) | (with_reducible refine zz18 ?_ _) | (with_reducible refine zz19 ?_ _) | (with_reducible refine zz20 ?_) | exact HR207_0.out)) hb);have n9_:=zz31 (zz4 (by repeat first | exact HB.out | apply zz2 | apply zz0 | apply zz1 | refine zz3 ?_ GE201.out | refine zz3 ?_ GE202.out | refine zz3 ?_ GE203.out) hb);have n10_:=zz31 (hbox);have n11_:=zz31 ((by rw [hg];exact (zz5 (by repeat first | exact HB.out | apply zz2 | apply zz0 | apply zz1 | refine zz3 ?_ GE201.out | refine zz3 ?_ GE202.out | refine zz3 ?_ GE203.out)):w.heap.size≤gb212));have n12_:=zz31 ((by rw [hg];exact (zz5 (by repeat first | exact HB.out | apply zz2 | apply zz0 | apply zz1 | refine zz3 ?_ GE201.out | refine zz3 ?_ GE202.out | refine zz3 ?_ GE203.out)):w.heap.size≤gb212));have n13_:=zz31 ((by rw [hg];exact Nat.ne_of_lt (blk_lt (g:=gb201) (o:=.cells #[.int .i64 a0_0,.slice A0_1 l0_1.length c0_1] 30 (0,0)) (by (with_reducible repeat (first | refine zz6 ?_ _ | refine zz7 ?_ | refine zz8 ?_ _));exact BK201.out)):gb201 ≠ gb212));have n14_:=zz31 ((by rw [hg];exact Nat.ne_of_gt (blk_lt (g:=gb201) (o:=.cells #[.int .i64 a0_0,.slice A0_1 l0_1.length c0_1] 30 (0,0)) (by (with_reducible repeat (first | refine zz6 ?_ _ | refine zz7 ?_ | refine zz8 ?_ _));exact BK201.out)):gb212 ≠ gb201));have n15_:=zz31 ((by rw [hg];exact Nat.ne_of_lt (blk_lt (g:=gb202) (o:=.cells #[.int .i64 0,.slice none 0 0] 30 (0,0)) (by (with_reducible repeat (first | refine zz6 ?_ _ | refine zz7 ?_ | refine zz8 ?_ _));exact BK202.out)):gb202 ≠ gb212));have n16_:=zz31 ((by rw [hg];exact Nat.ne_of_gt (blk_lt (g:=gb202) (o:=.cells #[.int .i64 0,.slice none 0 0] 30 (0,0)) (by (with_reducible repeat (first | refine zz6 ?_ _ | refine zz7 ?_ | refine zz8 ?_ _));exact BK202.out)):gb212 ≠ gb202));have n17_:=zz31 ((by rw [hg];exact Nat.ne_of_lt (blk_lt (g:=gb203) (o:=.cells #[.int .i64 x204000_1,u204001] 30 (0,0)) (by (with_reducible repeat (first | refine zz6 ?_ _ | refine zz7 ?_ | refine zz8 ?_ _));exact BK203.out)):gb203 ≠ gb212));have n18_:=zz31 ((by rw [hg];exact Nat.ne_of_gt (blk_lt (g:=gb203) (o:=.cells #[.int .i64 x204000_1,u204001] 30 (0,0)) (by (with_reducible repeat (first | refine zz6 ?_ _ | refine zz7 ?_ | refine zz8 ?_ _));exact BK203.out)):gb212 ≠ gb203));clear HO_12;clear HO_202001;clear HO_204001;clear HL207_0;clear HO211;clear BK201;clear BK202;clear BK203;clear HR207_0;clear HB;have HO_12:=n0_;have HO_202001:=n1_;have HO_204001:=n2_;have HL207_0:=n3_;have HO211:=n4_;have BK201:=n5_;have BK202:=n6_;have BK203:=n7_;have HR207_0:=n8_;have HB:=n9_;have BK212:=n10_;have GW212:=n11_;have GE212:=n12_;have NB201_212:=n13_;have NB212_201:=n14_;have NB202_212:=n15_;have NB212_202:=n16_;have NB203_212:=n17_;have NB212_203:=n18_;clear n0_ n1_ n2_ n3_ n4_ n5_ n6_ n7_ n8_ n9_ n10_ n11_ n12_ n13_ n14_ n15_ n16_ n17_ n18_;clear hb hbox hg;have hnb60:=NB212_201.out;have hnc60:=NB201_212.out;have hnb61:=NB212_202.out;have hnc61:=NB202_212.out;have hnb62:=NB212_203.out;have hnc62:=NB203_212.out;have hcz63_0:w59.cell? ⟨gb212,0,none⟩=some (.int .i64 0):=(zz9 BK212.out 0).trans rfl;have hcz63_1:w59.cell? ⟨gb212,1,none⟩=some (.slice none 0 0):=(zz9 BK212.out 1).trans rfl;have hfz63_0:=zz10 BK212.out 0;have hfz63_1:=zz10 BK212.out 1;obtain ⟨Ao64,co64,eo64⟩:=Kd.R_slice HO211.out;subst eo64;have hnb65:=NB203_202.out;have hnc65:=NB202_203.out;have hcz66_0:w59.cell? ⟨gb203,0,none⟩=some (.int .i64 x204000_1):=(zz9 BK203.out 0).trans rfl;have hcz66_1:w59.cell? ⟨gb203,1,none⟩=some (u204001):=(zz9 BK203.out 1).trans rfl;have hfz66_0:=zz10 BK203.out 0;have hfz66_1:=zz10 BK203.out 1;obtain ⟨Ao67,co67,eo67⟩:=Kd.V_slice HO_204001.out;subst eo67) | ((with_reducible refine gate_callee (f:=62) rfl ?_);refine goesL_ (some 24) rfl rfl Try.func62 (by kernel_rfl) rfl #[.agg #[.int .i64 t208,.slice Ao64 t209.length co64],.agg #[.int .i64 x204000_1,.slice Ao67 x204001_1.length co67]] rfl (by (try simp only [zz26,zz27,zz28]);first | done | rfl | (simp only [zz24,zz25];rfl)) ?_;(with_reducible refine (spec_paBefore.calls k1 t208 _ _ t209 x204000_1 _ _ x204001_1 false _ ?side1 ?side2 ?side3 ?side4 A18.out).mono ?_);(case side1=>refine (Kd.R_reads' (e:=70) (base:=w.heap.size) (ok:=fun k_=>((w.heap.size≤k_)∧True)) (n:=t209.length) (c:=co64) ?_).2.2;exact (by (with_reducible repeat (first | apply zz12 | apply zz13 | apply zz14));exact (Kd.R_mono (Kd.R_far (p:=⟨gb212,1,none⟩) (Kd.R_far (p:=⟨gb212,0,none⟩) (Kd.R_types HO211.out BK212.out (by decide)) (fun _ hk=>hk.2) (.int .i64 t208)) (fun _ hk=>hk.2) (.slice Ao64 t209.length co64)) (fun _ h_=>h_.1))));(case side2=>exact (Kd.R_reads' HO211.out).2.1);(case side3=>refine (Kd.V_reads' (e:=70) (base:=w.heap.size) (ok:=fun k_=>((((P0_1_ k_ ∨ w.heap.size≤k_)∧(some k_ ≠ (.slice (some ad207) t204.length co13:Value).ownBlock∧(k_ ≠ gb201∧(k_ ≠ gb202∧k_ ≠ gb203))))∧some k_ ≠ (.slice Ao64 t209.length co64:Value).ownBlock)∧k_ ≠ gb212)) (n:=x204001_1.length) (c:=co67) ?_).2.2;exact (by (with_reducible repeat (first | apply Kd.V_alloc | apply Kd.V_drewN | apply Kd.V_drew));exact (Kd.V_mono (Kd.V_far (p:=⟨gb212,1,none⟩) (Kd.V_far (p:=⟨gb212,0,none⟩) (Kd.V_mono HO_204001.out (fun k_ hk=>(⟨hk,hk.2⟩:_∧k_ ≠ gb212))) (fun _ hk=>hk.2) (.int .i64 t208)) (fun _ hk=>hk.2) (.slice Ao64 t209.length co64)) (fun _ h_=>h_.1))));(case side4=>exact (Kd.V_reads' HO_204001.out).2.1);rintro e w68 ⟨rfl,hb⟩;refine ⟨_,rfl,?_⟩;have n0_:=zz31 (Kd.N_below (by (with_reducible repeat (first | apply Kd.N_alloc | apply Kd.N_drewN | apply Kd.N_drew));exact (Kd.N_mono (Kd.N_far (p:=⟨gb212,1,none⟩) (Kd.N_far (p:=⟨gb212,0,none⟩) (Kd.N_mono HO_12.out (fun k_ hk=>(⟨hk,hk.2⟩:_∧k_ ≠ gb212))) (fun _ hk=>hk.2) (.int .i64 t208)) (fun _ hk=>hk.2) (.slice Ao64 t209.length co64)) (fun _ h_=>h_.1))) hb);have n1_:=zz31 (Kd.V_below (by (with_reducible repeat (first | apply Kd.V_alloc | apply Kd.V_drewN | apply Kd.V_drew));exact (Kd.V_mono (Kd.V_far (p:=⟨gb212,1,none⟩) (Kd.V_far (p:=⟨gb212,0,none⟩) (Kd.V_mono HO_202001.out (fun k_ hk=>(⟨hk,hk.2⟩:_∧k_ ≠ gb212))) (fun _ hk=>hk.2) (.int .i64 t208)) (fun _ hk=>hk.2) (.slice Ao64 t209.length co64)) (fun _ h_=>h_.1))) hb);have n2_:=zz31 (Kd.V_below (by (with_reducible repeat (first | apply Kd.V_alloc | apply Kd.V_drewN | apply Kd.V_drew));exact (Kd.V_mono (Kd.V_far (p:=⟨gb212,1,none⟩) (Kd.V_far (p:=⟨gb212,0,none⟩) (Kd.V_mono HO_204001.out (fun k_ hk=>(⟨hk,hk.2⟩:_∧k_ ≠ gb212))) (fun _ hk=>hk.2) (.int .i64 t208)) (fun _ hk=>hk.2) (.slice Ao64 t209.length co64)) (fun _ h_=>h_.1))) hb);have n3_:=zz31 (Kd.V_below (by (with_reducible repeat (first | apply Kd.V_alloc | apply Kd.V_drewN | apply Kd.V_drew));exact (Kd.V_mono (Kd.V_far (p:=⟨gb212,1,none⟩) (Kd.V_far (p:=⟨gb212,0,none⟩) (Kd.V_mono HL207_0.out (fun k_ hk=>(⟨hk,hk.2⟩:_∧k_ ≠ gb212))) (fun _ hk=>hk.2) (.int .i64 t208)) (fun _ hk=>hk.2) (.slice Ao64 t209.length co64)) (fun _ h_=>h_.1))) hb);have n4_:=zz31 (Kd.R_below (by (with_reducible repeat (first | apply zz12 | apply zz13 | apply zz14));exact (Kd.R_mono (Kd.R_far (p:=⟨gb212,1,none⟩) (Kd.R_far (p:=⟨gb212,0,none⟩) (Kd.R_types HO211.out BK212.out (by decide)) (fun _ hk=>hk.2) (.int .i64 t208)) (fun _ hk=>hk.2) (.slice Ao64 t209.length co64)) (fun _ h_=>h_.1))) hb);have n5_:=zz31 (zz11 (g:=gb201) (o:=.cells #[.int .i64 a0_0,.slice A0_1 l0_1.length c0_1] 30 (0,0)) (by (with_reducible repeat (first | refine zz6 ?_ _ | refine zz7 ?_ | refine zz8 ?_ _));refine blk_far ?_ NB201_212.out _;(with_reducible repeat (first | refine zz6 ?_ _ | refine zz7 ?_ | refine zz8 ?_ _));refine blk_far ?_ NB201_212.out _;(with_reducible repeat (first | refine zz6 ?_ _ | refine zz7 ?_ | refine zz8 ?_ _));exact BK201.out) hb);have n6_:=zz31 (zz11 (g:=gb202) (o:=.cells #[.int .i64 0,.slice none 0 0] 30 (0,0)) (by (with_reducible repeat (first | refine zz6 ?_ _ | refine zz7 ?_ | refine zz8 ?_ _));refine blk_far ?_ NB202_212.out _;(with_reducible repeat (first | refine zz6 ?_ _ | refine zz7 ?_ | refine zz8 ?_ _));refine blk_far ?_ NB202_212.out _;(with_reducible repeat (first | refine zz6 ?_ _ | refine zz7 ?_ | refine zz8 ?_ _));exact BK202.out) hb);have n7_:=zz31 (zz11 (g:=gb203) (o:=.cells #[.int .i64 x204000_1,.slice Ao67 x204001_1.length co67] 30 (0,0)) (by (with_reducible repeat (first | refine zz6 ?_ _ | refine zz7 ?_ | refine zz8 ?_ _));refine blk_far ?_ NB203_212.out _;(with_reducible repeat (first | refine zz6 ?_ _ | refine zz7 ?_ | refine zz8 ?_ _));refine blk_far ?_ NB203_212.out _;(with_reducible repeat (first | refine zz6 ?_ _ | refine zz7 ?_ | refine zz8 ?_ _));exact BK203.out) hb);have n8_:=zz31 (Kd.C_below ((Kd.V_reads' (by (with_reducible repeat (first | apply Kd.V_alloc | apply Kd.V_drewN | apply Kd.V_drew));exact (Kd.V_mono (Kd.V_far (p:=⟨gb212,1,none⟩) (Kd.V_far (p:=⟨gb212,0,none⟩) (Kd.V_mono HL207_0.out (fun k_ hk=>(⟨hk,hk.2⟩:_∧k_ ≠ gb212))) (fun _ hk=>hk.2) (.int .i64 t208)) (fun _ hk=>hk.2) (.slice Ao64 t209.length co64)) (fun _ h_=>h_.1)))).2.2) hb);have n9_:=zz31 (zz11 (g:=gb212) (o:=.cells #[.int .i64 t208,.slice Ao64 t209.length co64] 30 (0,0)) (by (with_reducible repeat (first | refine zz6 ?_ _ | refine zz7 ?_ | refine zz8 ?_ _));refine blk_put (cs:=#[.int .i64 t208,.slice none 0 0]) ?_ 1 _ rfl;(with_reducible repeat (first | refine zz6 ?_ _ | refine zz7 ?_ | refine zz8 ?_ _));refine blk_put (cs:=#[.int .i64 0,.slice none 0 0]) ?_ 0 _ rfl;(with_reducible repeat (first | refine zz6 ?_ _ | refine zz7 ?_ | refine zz8 ?_ _));exact BK212.out) hb);have n10_:=zz31 (zz4 (by repeat first | exact HB.out | apply zz2 | apply zz0 | apply zz1 | refine zz3 ?_ GE201.out | refine zz3 ?_ GE202.out | refine zz3 ?_ GE203.out | refine zz3 ?_ GE212.out) hb);clear HO_12;clear HO_202001;clear HO_204001;clear HL207_0;clear HO211;clear BK201;clear BK202;clear BK203;clear HR207_0;clear BK212;clear HB;have HO_12:=n0_;have HO_202001:=n1_;have HO_204001:=n2_;have HL207_0:=n3_;have HO211:=n4_;have BK201:=n5_;have BK202:=n6_;have BK203:=n7_;have HR207_0:=n8_;have BK212:=n9_;have HB:=n10_;clear n0_ n1_ n2_ n3_ n4_ n5_ n6_ n7_ n8_ n9_ n10_;(try clear hb);(try clear hb2);(try clear hk);(try clear hi);have hcz69_0:w68.cell? ⟨gb212,0,none⟩=some (.int .i64 t208):=(zz9 BK212.out 0).trans rfl;have hcz69_1:w68.cell? ⟨gb212,1,none⟩=some (.slice Ao64 t209.length co64):=(zz9 BK212.out 1).trans rfl;have hfz69_0:=zz10 BK212.out 0;have hfz69_1:=zz10 BK212.out 1;have hcz70_0:w68.cell? ⟨gb203,0,none⟩=some (.int .i64 x204000_1):=(zz9 BK203.out 0).trans rfl;have hcz70_1:w68.cell? ⟨gb203,1,none⟩=some (.slice Ao67 x204001_1.length co67):=(zz9 BK203.out 1).trans rfl;have hfz70_0:=zz10 BK203.out 0;have hfz70_1:=zz10 BK203.out 1) | ((with_reducible refine gate_callee (f:=32) rfl ?_);refine goesL_ (some 29) rfl rfl Try.func32 (by kernel_rfl) rfl #[.agg #[.int .i64 t208,.slice Ao64 t209.length co64],.agg #[.int .i64 x204000_1,.slice Ao67 x204001_1.length co67]] rfl (by (try simp only [zz26,zz27,zz28]);first | done | rfl | (simp only [zz24,zz25];rfl)) ?_;(with_reducible refine (spec_paSame.calls k1 t208 _ _ t209 x204000_1 _ _ x204001_1 false _ ?side1 ?side2 ?side3 ?side4 A36.out).mono ?_);(case side1=>repeat (first | exact (Kd.R_reads' HO211.out).2.2 | (with_reducible refine zz18 ?_ _) | (with_reducible refine zz19 ?_ _) | (with_reducible refine zz20 ?_)));(case side2=>exact (Kd.R_reads' HO211.out).2.1);(case side3=>repeat (first | exact (Kd.V_reads' HO_204001.out).2.2 | (with_reducible refine zz18 ?_ _) | (with_reducible refine zz19 ?_ _) | (with_reducible refine zz20 ?_)));(case side4=>exact (Kd.V_reads' HO_204001.out).2.1);rintro e w71 ⟨rfl,hb⟩;refine ⟨_,rfl,?_⟩;have n0_:=zz31 (Kd.N_below (by (with_reducible repeat (first | apply Kd.N_alloc | apply Kd.N_drewN | apply Kd.N_drew));exact HO_12.out) hb);have n1_:=zz31 (Kd.V_below (by (with_reducible repeat (first | apply Kd.V_alloc | apply Kd.V_drewN | apply Kd.V_drew));exact HO_202001.out) hb);have n2_:=zz31 (Kd.V_below (by (with_reducible repeat (first | apply Kd.V_alloc | apply Kd.V_drewN | apply Kd.V_drew));exact HO_204001.out) hb);have n3_:=zz31 (Kd.V_below (by (with_reducible repeat (first | apply Kd.V_alloc | apply Kd.V_drewN | apply Kd.V_drew));exact HL207_0.out) hb);have n4_:=zz31 (Kd.R_below (by (with_reducible repeat (first | apply zz12 | apply zz13 | apply zz14));exact HO211.out) hb);have n5_:=zz31 (zz11 (g:=gb201) (o:=.cells #[.int .i64 a0_0,.slice A0_1 l0_1.length c0_1] 30 (0,0)) (by (with_reducible repeat (first | refine zz6 ?_ _ | refine zz7 ?_ | refine zz8 ?_ _));exact BK201.out) hb);have n6_:=zz31 (zz11 (g:=gb202) (o:=.cells #[.int .i64 0,.slice none 0 0] 30 (0,0)) (by (with_reducible repeat (first | refine zz6 ?_ _ | refine zz7 ?_ | refine zz8 ?_ _));exact BK202.out) hb);have n7_:=zz31 (zz11 (g:=gb203) (o:=.cells #[.int .i64 x204000_1,.slice Ao67 x204001_1.length co67] 30 (0,0)) (by (with_reducible repeat (first | refine zz6 ?_ _ | refine zz7 ?_ | refine zz8 ?_ _));exact BK203.out) hb);have n8_:=zz31 (Kd.C_below (by repeat (first | (with_reducible exact HR207_0.out) | (with_reducible refine zz18 ?_ _) | (with_reducible refine zz19 ?_ _) | (with_reducible refine zz20 ?_) | exact HR207_0.out)) hb);have n9_:=zz31 (zz11 (g:=gb212) (o:=.cells #[.int .i64 t208,.slice Ao64 t209.length co64] 30 (0,0)) (by (with_reducible repeat (first | refine zz6 ?_ _ | refine zz7 ?_ | refine zz8 ?_ _));exact BK212.out) hb);have n10_:=zz31 (zz4 (by repeat first | exact HB.out | apply zz2 | apply zz0 | apply zz1 | refine zz3 ?_ GE201.out | refine zz3 ?_ GE202.out | refine zz3 ?_ GE203.out | refine zz3 ?_ GE212.out) hb);clear HO_12;clear HO_202001;clear HO_204001;clear HL207_0;clear HO211;clear BK201;clear BK202;clear BK203;clear HR207_0;clear BK212;clear HB;have HO_12:=n0_;have HO_202001:=n1_;have HO_204001:=n2_;have HL207_0:=n3_;have HO211:=n4_;have BK201:=n5_;have BK202:=n6_;have BK203:=n7_;have HR207_0:=n8_;have BK212:=n9_;have HB:=n10_;clear n0_ n1_ n2_ n3_ n4_ n5_ n6_ n7_ n8_ n9_ n10_;(try clear hb);(try clear hb2);(try clear hk);(try clear hi)))
        go_roundg k1
        case measure=>have:=HK1.out;omega
        case rel=>exact ⟨(x5_1),(wrap64 (x14_1+1)),(x204000_1),(x204001_1),(.slice Ao67 x204001_1.length co67),(by first | rfl | (simp;done) | (simp [*];done)),(by first | rfl | (simp;done) | (simp [*];done)),H',⟨by have:=HK1.out;omega⟩,⟨by (with_reducible repeat (first | apply Kd.N_alloc | apply Kd.N_drewN | apply Kd.N_drew));exact Kd.N_mono HO_12.out (fun _ hk=>⟨hk.1.1.1,⟨hk.1.1.2.1,⟨hk.1.1.2.2.1,hk.1.1.2.2.2⟩⟩⟩)⟩,⟨by (with_reducible repeat (first | apply Kd.V_alloc | apply Kd.V_drewN | apply Kd.V_drew));exact Kd.V_mono HO_202001.out (fun _ hk=>⟨hk.1.1.1,⟨hk.1.1.2.1,⟨hk.1.1.2.2.1,⟨hk.1.1.2.2.2.1,hk.1.1.2.2.2.2⟩⟩⟩⟩)⟩,⟨by (with_reducible repeat (first | apply Kd.V_alloc | apply Kd.V_drewN | apply Kd.V_drew));exact Kd.V_mono HO_204001.out (fun _ hk=>⟨hk.1.1.1,⟨hk.1.1.2.1,⟨hk.1.1.2.2.1,⟨hk.1.1.2.2.2.1,hk.1.1.2.2.2.2⟩⟩⟩⟩)⟩,⟨by (with_reducible repeat (first | refine zz6 ?_ _ | refine zz7 ?_ | refine zz8 ?_ _));exact BK201.out⟩,⟨by (with_reducible repeat (first | refine zz6 ?_ _ | refine zz7 ?_ | refine zz8 ?_ _));exact BK202.out⟩,⟨by (with_reducible repeat (first | refine zz6 ?_ _ | refine zz7 ?_ | refine zz8 ?_ _));exact BK203.out⟩,⟨by repeat first | exact HB.out | apply zz2 | apply zz0 | apply zz1 | refine zz3 ?_ GE201.out | refine zz3 ?_ GE202.out | refine zz3 ?_ GE203.out | refine zz3 ?_ GE212.out⟩⟩
     ·rw [if_neg c16] at H
      exact absurd H (by simp)
    ·rw [if_neg c15] at H
     exact absurd H (by simp)
   ·rw [if_neg c14] at H
    have c14b0:decide (x14_1 < (t204.length:Int))=false:=decide_eq_false c14
    clear c14
    simp only [Option.some.injEq,Prod.mk.injEq] at H
    obtain ⟨rfl,rfl,rfl⟩:=H
    have hnb72:=NB203_201.out
    have hnc72:=NB201_203.out
    have hnb73:=NB203_202.out
    have hnc73:=NB202_203.out
    have hcz74_0:wr.cell? ⟨gb203,0,none⟩=some (.int .i64 x204000_1):=(zz9 BK203.out 0).trans rfl
    have hcz74_1:wr.cell? ⟨gb203,1,none⟩=some (u204001):=(zz9 BK203.out 1).trans rfl
    have hfz74_0:=zz10 BK203.out 0
    have hfz74_1:=zz10 BK203.out 1
    have hnb75:=NB202_201.out
    have hnc75:=NB201_202.out
    have hcz76_0:wr.cell? ⟨gb202,0,none⟩=some (.int .i64 0):=(zz9 BK202.out 0).trans rfl
    have hcz76_1:wr.cell? ⟨gb202,1,none⟩=some (.slice none 0 0):=(zz9 BK202.out 1).trans rfl
    have hfz76_0:=zz10 BK202.out 0
    have hfz76_1:=zz10 BK202.out 1
    obtain ⟨Ao77,co77,eo77⟩:=Kd.V_slice HO_204001.out
    subst eo77
    go_wp2
    refine bodyPost_ret (results_ct rfl _ _ gb202 30 #[.int .i64 x204000_1,.slice Ao77 x204001_1.length co77] (0,0) _ rfl (by (with_reducible repeat (first | refine zz6 ?_ _ | refine zz7 ?_ | refine zz8 ?_ _));refine blk_put (cs:=#[.int .i64 x204000_1,.slice none 0 0]) ?_ 1 _ rfl;(with_reducible repeat (first | refine zz6 ?_ _ | refine zz7 ?_ | refine zz8 ?_ _));refine blk_put (cs:=#[.int .i64 0,.slice none 0 0]) ?_ 0 _ rfl;(with_reducible repeat (first | refine zz6 ?_ _ | refine zz7 ?_ | refine zz8 ?_ _));exact BK202.out) Try.underlying30 rfl (by kernel_rfl)) rfl ?_
    exact ⟨_,by first | rfl | (simp [errW_none,errW_some] <;> rfl) | (simp [*,errW_none,errW_some] <;> rfl),by (with_reducible repeat (first | apply Kd.V_alloc | apply Kd.V_drewN | apply Kd.V_drew));exact Kd.V_mono (Kd.V_far (p:=⟨gb202,1,none⟩) (Kd.V_far (p:=⟨gb202,0,none⟩) (Kd.V_mono HO_204001.out (fun k_ hk=>(⟨hk,hk.2.2.2.1⟩:_∧k_ ≠ gb202))) (fun _ hk=>hk.2) (.int .i64 x204000_1)) (fun _ hk=>hk.2) (.slice Ao77 x204001_1.length co77)) (fun _ hk=>hk.1.1),by repeat first | exact HB.out | apply zz2 | apply zz0 | apply zz1 | refine zz3 ?_ GE201.out | refine zz3 ?_ GE202.out | refine zz3 ?_ GE203.out⟩

/-! ### cmp_Or_int: function 86 -/
def cmp_Or_int.l0:Nat→Int→List Int→Int→Int→Option (Int)
 | 0,_,_,_,_=>none
 | k+1,x3,x6,x7,x8=>if x8 < x7 then (if 0≤x8 then (if x8 < (x6.length:Int) then (if (rd x6 x8)=x3 then (cmp_Or_int.l0 k x3 x6 x7 (wrap64 (x8+1))) else (some (rd x6 x8))) else (none)) else (none)) else (some x3)
def cmp_Or_int.f (k:Nat) (l0:List Int):Option (Int):=cmp_Or_int.l0 k 0 l0 (l0.length:Int) 0
theorem cmp_Or_int.mono_l:∀ k,(∀ y0 y1 y2 y3,LeO (cmp_Or_int.l0 k y0 y1 y2 y3) (cmp_Or_int.l0 (k+1) y0 y1 y2 y3))
 | 0=>fun _ _ _ _ r h=>by simp [cmp_Or_int.l0] at h
 | k+1=>by
  have ih0:=cmp_Or_int.mono_l k
  ·intro y0 y1 y2 y3
   unfold cmp_Or_int.l0
   repeat' first
   | (with_reducible exact ih0 _ _ _ _)
   | (with_reducible exact LeO.refl _)
   | (with_reducible exact LeO.none _)
   | (with_reducible refine LeO.ite ?_ ?_)
   | (with_reducible refine LeO.bind ?_ (fun _=>?_))
   | exact ih0 _ _ _ _
   | exact LeO.none _
   | refine LeO.ite ?_ ?_
   | refine LeO.bind ?_ (fun _=>?_)
theorem cmp_Or_int.mono:∀ a0 k,LeO (cmp_Or_int.f k a0) (cmp_Or_int.f (k+1) a0):=by
 intro a0 k
 have ih0:=cmp_Or_int.mono_l k
 unfold cmp_Or_int.f
 repeat' first
   | (with_reducible exact ih0 _ _ _ _)
   | (with_reducible exact LeO.refl _)
   | (with_reducible exact LeO.none _)
   | (with_reducible refine LeO.ite ?_ ?_)
   | (with_reducible refine LeO.bind ?_ (fun _=>?_))
   | exact ih0 _ _ _ _
   | exact LeO.none _
   | refine LeO.ite ?_ ?_
   | refine LeO.bind ?_ (fun _=>?_)
set_option maxHeartbeats 8000000 in
set_option maxRecDepth 100000 in
theorem cmp_Or_int.calls (k:Nat) (A0:Option Addr) (c0:Nat) (l0:List Int) (r:Int) (w:World) (hr0:Kd.C (Kd.int .i64) w A0 l0.length l0) (hc0:l0.length≤c0) (h:cmp_Or_int.f k l0=some r) :
  Calls Try.prog 86 #[.slice A0 l0.length c0] w fun e w'=>e=.returned (.int .i64 r)∧Drawn0 w w':=by
 have HR0:=zz31 hr0
 have HC0:=zz31 hc0
 clear hr0 hc0
 have H:(cmp_Or_int.l0 k 0 l0 (l0.length:Int) 0)=some r:=h
 clear h
 have H':=zz31 H
 clear H
 go_enter Try.func86,Try.ntmps86
 go_wp2
 go_loopg [8] k (fun kq v8 w'=>∃ (x8_1:Int),v8=.int .i64 x8_1∧Aside0 (cmp_Or_int.l0 kq 0 l0 (l0.length:Int) x8_1=some r)∧Aside0 (kq≤k)∧Drawn0 w w')
 case atStart=>exact ⟨(0),(by first | rfl | (simp;done) | (simp [*];done)),H',⟨Nat.le_refl _⟩,by repeat (first | exact Drawn0.refl _ | apply Drawn0.step)⟩
 case round =>
  clear H'
  obtain ⟨x8_1,rfl,HA,HK1,⟨m1,rfl⟩⟩:=hrel
  cases gk with
  | zero=>exact absurd HA.out (by simp [cmp_Or_int.l0])
  | succ k1 =>
   have H:=HA.out
   clear HA
   simp only [cmp_Or_int.l0] at H
   by_cases c2:x8_1 < (l0.length:Int)
   ·rw [if_pos c2] at H
    have c2b0:decide (x8_1 < (l0.length:Int))=true:=decide_eq_true c2
    clear c2
    by_cases c3:0≤x8_1
    ·rw [if_pos c3] at H
     have c3b0:decide (0≤x8_1)=true:=decide_eq_true c3
     clear c3
     by_cases c4:x8_1 < (l0.length:Int)
     ·rw [if_pos c4] at H
      have c4b0:decide (x8_1 < (l0.length:Int))=true:=decide_eq_true c4
      clear c4
      by_cases c5:(rd l0 x8_1)=0
      ·rw [if_pos c5] at H
       have c5b0:((rd l0 x8_1) == 0)=true:=beq_iff_eq.mpr c5
       have c5b1:((rd l0 x8_1) != 0)=false:=bne_eq_false_iff_eq.mpr c5
       clear c5
       have H':=zz31 H
       clear H
       have p231:0≤(x8_1:Int):=zz29 (by first | (with_reducible assumption) | assumption)
       have q231:x8_1 < (l0.length:Int):=zz29 (by first | (with_reducible assumption) | assumption)
       obtain ⟨ad231,e231,hx231_0⟩:=Kd.at_int HR0.out x8_1 p231 q231
       cases e231
       replace p231:=eq_true p231
       replace q231:=eq_true q231
       go_wp2
       go_roundg k1
       case measure=>have:=HK1.out;omega
       case rel=>exact ⟨(wrap64 (x8_1+1)),(by first | rfl | (simp;done) | (simp [*];done)),H',⟨by have:=HK1.out;omega⟩,by repeat (first | exact Drawn0.refl _ | apply Drawn0.step)⟩
      ·rw [if_neg c5] at H
       have c5b0:((rd l0 x8_1) == 0)=false:=beq_eq_false_iff_ne.mpr c5
       have c5b1:((rd l0 x8_1) != 0)=true:=bne_iff_ne.mpr c5
       obtain rfl:=Option.some.inj H
       have p231:0≤(x8_1:Int):=zz29 (by first | (with_reducible assumption) | assumption)
       have q231:x8_1 < (l0.length:Int):=zz29 (by first | (with_reducible assumption) | assumption)
       obtain ⟨ad231,e231,hx231_0⟩:=Kd.at_int HR0.out x8_1 p231 q231
       cases e231
       replace p231:=eq_true p231
       replace q231:=eq_true q231
       go_wp2
       go_ret
       exact ⟨by first | rfl | (simp;done) | (simp [*];done),by repeat (first | exact Drawn0.refl _ | apply Drawn0.step)⟩
     ·rw [if_neg c4] at H
      exact absurd H (by simp)
    ·rw [if_neg c3] at H
     exact absurd H (by simp)
   ·rw [if_neg c2] at H
    have c2b0:decide (x8_1 < (l0.length:Int))=false:=decide_eq_false c2
    clear c2
    obtain rfl:=Option.some.inj H
    go_wp2
    go_ret
    exact ⟨by first | rfl | (simp;done) | (simp [*];done),by repeat (first | exact Drawn0.refl _ | apply Drawn0.step)⟩

/-! ### cmp_isNaN_int: function 103 -/
def cmp_isNaN_int.f (a0:Int):Option (Bool):=some (a0 != a0)
set_option maxHeartbeats 8000000 in
set_option maxRecDepth 100000 in
theorem cmp_isNaN_int.calls (a0:Int) (r:Bool) (w:World) (h:cmp_isNaN_int.f a0=some r) :
  Calls Try.prog 103 #[.int .i64 a0] w fun e w'=>e=.returned (.bool r)∧Drawn0 w w':=by
 have H:(some (a0 != a0))=some r:=h
 clear h
 obtain rfl:=Option.some.inj H
 go_enter Try.func103,Try.ntmps103
 go_wp2
 go_ret
 exact ⟨by first | rfl | (simp;done) | (simp [*];done),by repeat (first | exact Drawn0.refl _ | apply Drawn0.step)⟩

/-! ### cmp_Compare_int: function 87 -/
def cmp_Compare_int.f (a0:Int) (a1:Int):Option (Int):=(cmp_isNaN_int.f a0).bind fun t232=>((cmp_isNaN_int.f a1).bind fun t233=>(if t232=true then (if t233=true then (some 0) else (some (-1))) else (if t233=true then (some 1) else (if a0 < a1 then (some (-1)) else (if a0 > a1 then (some 1) else (some 0))))))
set_option maxHeartbeats 8000000 in
set_option maxRecDepth 100000 in
theorem cmp_Compare_int.calls (a0:Int) (a1:Int) (r:Int) (w:World) (h:cmp_Compare_int.f a0 a1=some r) :
  Calls Try.prog 87 #[.int .i64 a0,.int .i64 a1] w fun e w'=>e=.returned (.int .i64 r)∧Drawn0 w w':=by
 have H:((cmp_isNaN_int.f a0).bind fun t232=>((cmp_isNaN_int.f a1).bind fun t233=>(if t232=true then (if t233=true then (some 0) else (some (-1))) else (if t233=true then (some 1) else (if a0 < a1 then (some (-1)) else (if a0 > a1 then (some 1) else (some 0)))))))=some r:=h
 clear h
 replace H:=zz30.mp H
 obtain ⟨t232,A30,H⟩:=H
 replace H:((cmp_isNaN_int.f a1).bind fun t233=>(if t232=true then (if t233=true then (some 0) else (some (-1))) else (if t233=true then (some 1) else (if a0 < a1 then (some (-1)) else (if a0 > a1 then (some 1) else (some 0))))))=some r:=H
 have A3:=zz31 A30
 clear A30
 replace H:=zz30.mp H
 obtain ⟨t233,A40,H⟩:=H
 replace H:(if t232=true then (if t233=true then (some 0) else (some (-1))) else (if t233=true then (some 1) else (if a0 < a1 then (some (-1)) else (if a0 > a1 then (some 1) else (some 0)))))=some r:=H
 have A4:=zz31 A40
 clear A40
 by_cases c5:t232=true
 ·subst c5
  have H1:(if t233=true then (some 0) else (some (-1)))=some r:=by rw [if_pos rfl] at H;exact H
  clear H
  have H:=H1
  clear H1
  by_cases c6:t233=true
  ·subst c6
   have H1:(some 0)=some r:=by rw [if_pos rfl] at H;exact H
   clear H
   have H:=H1
   clear H1
   obtain rfl:=Option.some.inj H
   go_enter Try.func87,Try.ntmps87
   go_wp2_with (first | ((with_reducible refine gate_callee (f:=103) rfl ?_);refine goesL_ (some 8) rfl rfl Try.func103 (by kernel_rfl) rfl #[.int .i64 a0] rfl (by (try simp only [zz26,zz27,zz28]);first | done | rfl | (simp only [zz24,zz25];rfl)) ?_;(with_reducible refine (cmp_isNaN_int.calls a0 true _ A3.out).mono ?_);rintro e w' ⟨rfl,⟨nd,rfl⟩⟩;refine ⟨_,rfl,?_⟩) | ((with_reducible refine gate_callee (f:=103) rfl ?_);refine goesL_ (some 10) rfl rfl Try.func103 (by kernel_rfl) rfl #[.int .i64 a1] rfl (by (try simp only [zz26,zz27,zz28]);first | done | rfl | (simp only [zz24,zz25];rfl)) ?_;(with_reducible refine (cmp_isNaN_int.calls a1 true _ A4.out).mono ?_);rintro e w' ⟨rfl,⟨nd,rfl⟩⟩;refine ⟨_,rfl,?_⟩))
   go_ret
   exact ⟨by first | rfl | (simp;done) | (simp [*];done),by repeat (first | exact Drawn0.refl _ | apply Drawn0.step)⟩
  ·replace c6:=Bool.eq_false_iff.mpr c6
   subst c6
   have H1:(some (-1))=some r:=by rw [if_neg (show ¬ (false=true) by decide)] at H;exact H
   clear H
   have H:=H1
   clear H1
   obtain rfl:=Option.some.inj H
   go_enter Try.func87,Try.ntmps87
   go_wp2_with (first | ((with_reducible refine gate_callee (f:=103) rfl ?_);refine goesL_ (some 8) rfl rfl Try.func103 (by kernel_rfl) rfl #[.int .i64 a0] rfl (by (try simp only [zz26,zz27,zz28]);first | done | rfl | (simp only [zz24,zz25];rfl)) ?_;(with_reducible refine (cmp_isNaN_int.calls a0 true _ A3.out).mono ?_);rintro e w' ⟨rfl,⟨nd,rfl⟩⟩;refine ⟨_,rfl,?_⟩) | ((with_reducible refine gate_callee (f:=103) rfl ?_);refine goesL_ (some 10) rfl rfl Try.func103 (by kernel_rfl) rfl #[.int .i64 a1] rfl (by (try simp only [zz26,zz27,zz28]);first | done | rfl | (simp only [zz24,zz25];rfl)) ?_;(with_reducible refine (cmp_isNaN_int.calls a1 false _ A4.out).mono ?_);rintro e w' ⟨rfl,⟨nd,rfl⟩⟩;refine ⟨_,rfl,?_⟩))
   go_ret
   exact ⟨by first | rfl | (simp;done) | (simp [*];done),by repeat (first | exact Drawn0.refl _ | apply Drawn0.step)⟩
 ·replace c5:=Bool.eq_false_iff.mpr c5
  subst c5
  have H1:(if t233=true then (some 1) else (if a0 < a1 then (some (-1)) else (if a0 > a1 then (some 1) else (some 0))))=some r:=by rw [if_neg (show ¬ (false=true) by decide)] at H;exact H
  clear H
  have H:=H1
  clear H1
  by_cases c7:t233=true
  ·subst c7
   have H1:(some 1)=some r:=by rw [if_pos rfl] at H;exact H
   clear H
   have H:=H1
   clear H1
   obtain rfl:=Option.some.inj H
   go_enter Try.func87,Try.ntmps87
   go_wp2_with (first | ((with_reducible refine gate_callee (f:=103) rfl ?_);refine goesL_ (some 8) rfl rfl Try.func103 (by kernel_rfl) rfl #[.int .i64 a0] rfl (by (try simp only [zz26,zz27,zz28]);first | done | rfl | (simp only [zz24,zz25];rfl)) ?_;(with_reducible refine (cmp_isNaN_int.calls a0 false _ A3.out).mono ?_);rintro e w' ⟨rfl,⟨nd,rfl⟩⟩;refine ⟨_,rfl,?_⟩) | ((with_reducible refine gate_callee (f:=103) rfl ?_);refine goesL_ (some 10) rfl rfl Try.func103 (by kernel_rfl) rfl #[.int .i64 a1] rfl (by (try simp only [zz26,zz27,zz28]);first | done | rfl | (simp only [zz24,zz25];rfl)) ?_;(with_reducible refine (cmp_isNaN_int.calls a1 true _ A4.out).mono ?_);rintro e w' ⟨rfl,⟨nd,rfl⟩⟩;refine ⟨_,rfl,?_⟩))
   go_ret
   exact ⟨by first | rfl | (simp;done) | (simp [*];done),by repeat (first | exact Drawn0.refl _ | apply Drawn0.step)⟩
  ·replace c7:=Bool.eq_false_iff.mpr c7
   subst c7
   have H1:(if a0 < a1 then (some (-1)) else (if a0 > a1 then (some 1) else (some 0)))=some r:=by rw [if_neg (show ¬ (false=true) by decide)] at H;exact H
   clear H
   have H:=H1
   clear H1
   by_cases c8:a0 < a1
   ·rw [if_pos c8] at H
    have c8b0:decide (a0 < a1)=true:=decide_eq_true c8
    clear c8
    obtain rfl:=Option.some.inj H
    go_enter Try.func87,Try.ntmps87
    go_wp2_with (first | ((with_reducible refine gate_callee (f:=103) rfl ?_);refine goesL_ (some 8) rfl rfl Try.func103 (by kernel_rfl) rfl #[.int .i64 a0] rfl (by (try simp only [zz26,zz27,zz28]);first | done | rfl | (simp only [zz24,zz25];rfl)) ?_;(with_reducible refine (cmp_isNaN_int.calls a0 false _ A3.out).mono ?_);rintro e w' ⟨rfl,⟨nd,rfl⟩⟩;refine ⟨_,rfl,?_⟩) | ((with_reducible refine gate_callee (f:=103) rfl ?_);refine goesL_ (some 10) rfl rfl Try.func103 (by kernel_rfl) rfl #[.int .i64 a1] rfl (by (try simp only [zz26,zz27,zz28]);first | done | rfl | (simp only [zz24,zz25];rfl)) ?_;(with_reducible refine (cmp_isNaN_int.calls a1 false _ A4.out).mono ?_);rintro e w' ⟨rfl,⟨nd,rfl⟩⟩;refine ⟨_,rfl,?_⟩))
    go_ret
    exact ⟨by first | rfl | (simp;done) | (simp [*];done),by repeat (first | exact Drawn0.refl _ | apply Drawn0.step)⟩
   ·rw [if_neg c8] at H
    have c8b0:decide (a0 < a1)=false:=decide_eq_false c8
    clear c8
    by_cases c9:a0 > a1
    ·rw [if_pos c9] at H
     have c9b0:decide (a1 < a0)=true:=decide_eq_true c9
     clear c9
     obtain rfl:=Option.some.inj H
     go_enter Try.func87,Try.ntmps87
     go_wp2_with (first | ((with_reducible refine gate_callee (f:=103) rfl ?_);refine goesL_ (some 8) rfl rfl Try.func103 (by kernel_rfl) rfl #[.int .i64 a0] rfl (by (try simp only [zz26,zz27,zz28]);first | done | rfl | (simp only [zz24,zz25];rfl)) ?_;(with_reducible refine (cmp_isNaN_int.calls a0 false _ A3.out).mono ?_);rintro e w' ⟨rfl,⟨nd,rfl⟩⟩;refine ⟨_,rfl,?_⟩) | ((with_reducible refine gate_callee (f:=103) rfl ?_);refine goesL_ (some 10) rfl rfl Try.func103 (by kernel_rfl) rfl #[.int .i64 a1] rfl (by (try simp only [zz26,zz27,zz28]);first | done | rfl | (simp only [zz24,zz25];rfl)) ?_;(with_reducible refine (cmp_isNaN_int.calls a1 false _ A4.out).mono ?_);rintro e w' ⟨rfl,⟨nd,rfl⟩⟩;refine ⟨_,rfl,?_⟩))
     go_ret
     exact ⟨by first | rfl | (simp;done) | (simp [*];done),by repeat (first | exact Drawn0.refl _ | apply Drawn0.step)⟩
    ·rw [if_neg c9] at H
     have c9b0:decide (a1 < a0)=false:=decide_eq_false c9
     clear c9
     obtain rfl:=Option.some.inj H
     go_enter Try.func87,Try.ntmps87
     go_wp2_with (first | ((with_reducible refine gate_callee (f:=103) rfl ?_);refine goesL_ (some 8) rfl rfl Try.func103 (by kernel_rfl) rfl #[.int .i64 a0] rfl (by (try simp only [zz26,zz27,zz28]);first | done | rfl | (simp only [zz24,zz25];rfl)) ?_;(with_reducible refine (cmp_isNaN_int.calls a0 false _ A3.out).mono ?_);rintro e w' ⟨rfl,⟨nd,rfl⟩⟩;refine ⟨_,rfl,?_⟩) | ((with_reducible refine gate_callee (f:=103) rfl ?_);refine goesL_ (some 10) rfl rfl Try.func103 (by kernel_rfl) rfl #[.int .i64 a1] rfl (by (try simp only [zz26,zz27,zz28]);first | done | rfl | (simp only [zz24,zz25];rfl)) ?_;(with_reducible refine (cmp_isNaN_int.calls a1 false _ A4.out).mono ?_);rintro e w' ⟨rfl,⟨nd,rfl⟩⟩;refine ⟨_,rfl,?_⟩))
     go_ret
     exact ⟨by first | rfl | (simp;done) | (simp [*];done),by repeat (first | exact Drawn0.refl _ | apply Drawn0.step)⟩

/-! ### impl_comparePairs: function 65 -/
def impl_comparePairs.f (k:Nat) (a0_0:Int) (a0_1:Int) (a1_0:Int) (a1_1:Int):Option (Int):=(cmp_Compare_int.f a0_0 a1_0).bind fun t236=>((cmp_Compare_int.f a0_1 a1_1).bind fun t237=>((cmp_Or_int.f k (([t236,t237]:List Int))).bind fun t241=>(some t241)))
theorem impl_comparePairs.mono:∀ a0 a1 a2 a3 k,LeO (impl_comparePairs.f k a0 a1 a2 a3) (impl_comparePairs.f (k+1) a0 a1 a2 a3):=by
 intro a0 a1 a2 a3 k
 unfold impl_comparePairs.f
 repeat' first
   | (with_reducible exact cmp_Or_int.mono _ _)
   | (with_reducible exact LeO.refl _)
   | (with_reducible exact LeO.none _)
   | (with_reducible refine LeO.ite ?_ ?_)
   | (with_reducible refine LeO.bind ?_ (fun _=>?_))
   | exact cmp_Or_int.mono _ _
   | exact LeO.none _
   | refine LeO.ite ?_ ?_
   | refine LeO.bind ?_ (fun _=>?_)
def impl_comparePairs.T1:Bool × List (List Nat × List Nat):=(true,[([],[]),([0],[0]),([],[]),([2],[2]),([1,3],[1,3]),([],[]),([5],[5]),([],[]),([7],[7]),([6,8,4],[6,8]),([4,9],[4,9]),([10,9],[10]),([11,11,0,1,2,3,4,5,6,7,8,9,10,11],[11])])
def impl_comparePairs.B1:List Nat:=[0,1,0,4,15,0,32,0,128,511,1023,2047,4095]
theorem impl_comparePairs.tab1:rtab .any (opsOf Try.f65 1)=impl_comparePairs.T1:=by kernel_rfl
theorem impl_comparePairs.bits1:waitsOk impl_comparePairs.T1.2 impl_comparePairs.B1=true:=by kernel_rfl
set_option maxHeartbeats 8000000 in
set_option maxRecDepth 100000 in
theorem impl_comparePairs.calls (k:Nat) (a0_0:Int) (a0_1:Int) (a1_0:Int) (a1_1:Int) (r:Int) (w:World) (h:impl_comparePairs.f k a0_0 a0_1 a1_0 a1_1=some r) :
  Calls Try.prog 65 #[.agg #[.int .i64 a0_0,.int .i64 a0_1],.agg #[.int .i64 a1_0,.int .i64 a1_1]] w fun e w'=>e=.returned (.int .i64 r)∧Below w.heap.size w w':=by
 have hu70:=Try.underlying70
 have HB:=zz31 (Below.refl w.heap.size w)
 have H:((cmp_Compare_int.f a0_0 a1_0).bind fun t236=>((cmp_Compare_int.f a0_1 a1_1).bind fun t237=>((cmp_Or_int.f k (([t236,t237]:List Int))).bind fun t241=>(some t241))))=some r:=h
 clear h
 replace H:=zz30.mp H
 obtain ⟨t236,A30,H⟩:=H
 replace H:((cmp_Compare_int.f a0_1 a1_1).bind fun t237=>((cmp_Or_int.f k (([t236,t237]:List Int))).bind fun t241=>(some t241)))=some r:=H
 have A3:=zz31 A30
 clear A30
 replace H:=zz30.mp H
 obtain ⟨t237,A40,H⟩:=H
 replace H:((cmp_Or_int.f k (([t236,t237]:List Int))).bind fun t241=>(some t241))=some r:=H
 have A4:=zz31 A40
 clear A40
 obtain ⟨y238,hy238⟩:∃ y_:List Int,y_=(([t236,t237]:List Int)):=⟨_,rfl⟩
 replace H:((cmp_Or_int.f k y238).bind fun t241=>(some t241))=some r:=by first | (rw [hy238];with_reducible exact H) | (have H2_:=(Option.bind_some _ _).symm.trans H;rw [hy238];with_reducible exact H2_) | (have H2_:=(Option.bind_some _ _).symm.trans H;with_reducible exact H2_) | with_reducible exact H | (rw [hy238];exact H) | exact H
 have Ny238:=zz31 hy238
 clear hy238
 replace H:=zz30.mp H
 obtain ⟨t241,A50,H⟩:=H
 replace H:(some t241)=some r:=H
 have A5:=zz31 A50
 clear A50
 obtain rfl:=Option.some.inj H
 go_enter Try.func65,Try.ntmps65
 try go_wp2_with (first | ((with_reducible refine gate_dst (N:=2) rfl ?_);refine box_event ?hg (N:=2) ?hd (cs:=#[.int .i64 a0_0,.int .i64 a0_1]) (t:=70) ?hr ?_;(case hd=>rfl);(case hg=>rfl);(case hr=>first | (go_simp;done) | (go_simp;rfl));intro gb234 hg w6 hbox hb;have n0_:=zz31 (zz4 (by repeat first | exact HB.out | apply zz2 | apply zz0 | apply zz1) hb);have n1_:=zz31 (hbox);have n2_:=zz31 ((by rw [hg];exact (zz5 (by repeat first | exact HB.out | apply zz2 | apply zz0 | apply zz1)):w.heap.size≤gb234));have n3_:=zz31 ((by rw [hg];exact (zz5 (by repeat first | exact HB.out | apply zz2 | apply zz0 | apply zz1)):w.heap.size≤gb234));clear HB;have HB:=n0_;have BK234:=n1_;have GW234:=n2_;have GE234:=n3_;clear n0_ n1_ n2_ n3_;clear hb hbox hg) | ((with_reducible refine gate_dst (N:=3) rfl ?_);refine box_event ?hg (N:=3) ?hd (cs:=#[.int .i64 a1_0,.int .i64 a1_1]) (t:=70) ?hr ?_;(case hd=>rfl);(case hg=>rfl);(case hr=>first | (go_simp;done) | (go_simp;rfl));intro gb235 hg w7 hbox hb;have n0_:=zz31 (zz11 (g:=gb234) (o:=.cells #[.int .i64 a0_0,.int .i64 a0_1] 70 (0,0)) (by (with_reducible repeat (first | refine zz6 ?_ _ | refine zz7 ?_ | refine zz8 ?_ _));exact BK234.out) hb);have n1_:=zz31 (zz4 (by repeat first | exact HB.out | apply zz2 | apply zz0 | apply zz1 | refine zz3 ?_ GE234.out) hb);have n2_:=zz31 (hbox);have n3_:=zz31 ((by rw [hg];exact (zz5 (by repeat first | exact HB.out | apply zz2 | apply zz0 | apply zz1 | refine zz3 ?_ GE234.out)):w.heap.size≤gb235));have n4_:=zz31 ((by rw [hg];exact (zz5 (by repeat first | exact HB.out | apply zz2 | apply zz0 | apply zz1 | refine zz3 ?_ GE234.out)):w.heap.size≤gb235));have n5_:=zz31 ((by rw [hg];exact Nat.ne_of_lt (blk_lt (g:=gb234) (o:=.cells #[.int .i64 a0_0,.int .i64 a0_1] 70 (0,0)) (by (with_reducible repeat (first | refine zz6 ?_ _ | refine zz7 ?_ | refine zz8 ?_ _));exact BK234.out)):gb234 ≠ gb235));have n6_:=zz31 ((by rw [hg];exact Nat.ne_of_gt (blk_lt (g:=gb234) (o:=.cells #[.int .i64 a0_0,.int .i64 a0_1] 70 (0,0)) (by (with_reducible repeat (first | refine zz6 ?_ _ | refine zz7 ?_ | refine zz8 ?_ _));exact BK234.out)):gb235 ≠ gb234));clear BK234;clear HB;have BK234:=n0_;have HB:=n1_;have BK235:=n2_;have GW235:=n3_;have GE235:=n4_;have NB234_235:=n5_;have NB235_234:=n6_;clear n0_ n1_ n2_ n3_ n4_ n5_ n6_;clear hb hbox hg))
 have n0_:=zz31 (zz7 BK234.out)
 have n1_:=zz31 (zz7 BK235.out)
 have n2_:=zz31 (zz1 HB.out)
 clear BK234
 clear BK235
 clear HB
 have BK234:=n0_
 have BK235:=n1_
 have HB:=n2_
 clear n0_ n1_ n2_
 refine start_ (n:=13) (S:=fun w'=>w'.cell? ⟨gb234,0,none⟩=some (.int .i64 a0_0)∧w'.cell? ⟨gb234,1,none⟩=some (.int .i64 a0_1)∧w'.cell? ⟨gb235,0,none⟩=some (.int .i64 a1_0)∧w'.cell? ⟨gb235,1,none⟩=some (.int .i64 a1_1)) (ds:=[]) #[F,F,F,F,F,F,F,F,F,F,F,F,F] (by kernel_rfl) rfl rfl ⟨(zz9 BK234.out 0).trans rfl,(zz9 BK234.out 1).trans rfl,(zz9 BK235.out 0).trans rfl,(zz9 BK235.out 1).trans rfl⟩ (fun hHeld=>?_);refine with_tabW impl_comparePairs.tab1 impl_comparePairs.bits1 (fun HT_ HW_=>?_)
 generalize w7.drew=w8 at BK234 BK235 HB hHeld ⊢
 refine pure_ (i:=0) (N:=some 5) (v:=?_) (a':=?_) #[T,F,F,F,F,F,F,F,F,F,F,F,F] rfl rfl (any_of HT_.out (by kernel_rfl)) (fun _ _ _ h=>h) (Or.inl ⟨by rfl,?_⟩) ?_ ?_
 rotate_left
 ·intro w'
  go_simp
  with_reducible rfl
 rotate_left
 ·simp only [Act.put,zz21,zz22,zz23,i64_w,i32_w]
  rfl
 refine pure_ (i:=2) (N:=some 7) (v:=?_) (a':=?_) #[T,F,T,F,F,F,F,F,F,F,F,F,F] rfl rfl (any_of HT_.out (by kernel_rfl)) (fun _ _ _ h=>h) (Or.inl ⟨by rfl,?_⟩) ?_ ?_
 rotate_left
 ·intro w'
  go_simp
  with_reducible rfl
 rotate_left
 ·simp only [Act.put,zz21,zz22,zz23,i64_w,i32_w]
  rfl
 refine pure_ (i:=5) (N:=some 10) (v:=?_) (a':=?_) #[T,F,T,F,F,T,F,F,F,F,F,F,F] rfl rfl (any_of HT_.out (by kernel_rfl)) (fun _ _ _ h=>h) (Or.inl ⟨by rfl,?_⟩) ?_ ?_
 rotate_left
 ·intro w'
  go_simp
  with_reducible rfl
 rotate_left
 ·simp only [Act.put,zz21,zz22,zz23,i64_w,i32_w]
  rfl
 refine pure_ (i:=7) (N:=some 12) (v:=?_) (a':=?_) #[T,F,T,F,F,T,F,T,F,F,F,F,F] rfl rfl (any_of HT_.out (by kernel_rfl)) (fun _ _ _ h=>h) (Or.inl ⟨by rfl,?_⟩) ?_ ?_
 rotate_left
 ·intro w'
  go_simp
  with_reducible rfl
 rotate_left
 ·simp only [Act.put,zz21,zz22,zz23,i64_w,i32_w]
  rfl
 refine take_ (i:=1) (N:=some 6) (v:=?_) (a':=?_) #[T,T,T,F,F,T,F,T,F,F,F,F,F] rfl rfl (take_ofW HT_.out HW_.out (by kernel_rfl)) (fun _ _ _ h=>h) (Or.inl ⟨by rfl,?_⟩) hHeld ?_ ?_
 rotate_left
 ·rintro w' ⟨s0,s1,s2,s3⟩
  go_simp
  with_reducible rfl
 rotate_left
 ·simp only [Act.put,zz21,zz22,zz23,i64_w,i32_w]
  rfl
 refine take_ (i:=3) (N:=some 8) (v:=?_) (a':=?_) #[T,T,T,T,F,T,F,T,F,F,F,F,F] rfl rfl (take_ofW HT_.out HW_.out (by kernel_rfl)) (fun _ _ _ h=>h) (Or.inl ⟨by rfl,?_⟩) hHeld ?_ ?_
 rotate_left
 ·rintro w' ⟨s0,s1,s2,s3⟩
  go_simp
  with_reducible rfl
 rotate_left
 ·simp only [Act.put,zz21,zz22,zz23,i64_w,i32_w]
  rfl
 refine take_ (i:=6) (N:=some 11) (v:=?_) (a':=?_) #[T,T,T,T,F,T,T,T,F,F,F,F,F] rfl rfl (take_ofW HT_.out HW_.out (by kernel_rfl)) (fun _ _ _ h=>h) (Or.inl ⟨by rfl,?_⟩) hHeld ?_ ?_
 rotate_left
 ·rintro w' ⟨s0,s1,s2,s3⟩
  go_simp
  with_reducible rfl
 rotate_left
 ·simp only [Act.put,zz21,zz22,zz23,i64_w,i32_w]
  rfl
 refine take_ (i:=8) (N:=some 13) (v:=?_) (a':=?_) #[T,T,T,T,F,T,T,T,T,F,F,F,F] rfl rfl (take_ofW HT_.out HW_.out (by kernel_rfl)) (fun _ _ _ h=>h) (Or.inl ⟨by rfl,?_⟩) hHeld ?_ ?_
 rotate_left
 ·rintro w' ⟨s0,s1,s2,s3⟩
  go_simp
  with_reducible rfl
 rotate_left
 ·simp only [Act.put,zz21,zz22,zz23,i64_w,i32_w]
  rfl
 refine one_ (i:=4) (N:=some 9) #[T,T,T,T,T,T,T,T,T,F,F,F,F] rfl rfl (one_of HT_.out (by kernel_rfl)) (by decide) (fun K hK=>?_)
 refine goes_ Try.func87 (by kernel_rfl) rfl #[.int .i64 a0_0,.int .i64 a1_0] (by rfl) rfl rfl (by (try simp only [zz26,zz27,zz28]);first | done | rfl | (simp only [zz24,zz25];rfl)) ?_
 with_reducible refine (cmp_Compare_int.calls a0_0 a1_0 t236 _ A3.out).mono ?_
 rintro e w' ⟨rfl,⟨nd,rfl⟩⟩
 refine ⟨_,rfl,?_⟩
 refine hK.out _ _ ⟨(zz9 BK234.out 0).trans rfl,(zz9 BK234.out 1).trans rfl,(zz9 BK235.out 0).trans rfl,(zz9 BK235.out 1).trans rfl⟩ (fun hHeld=>?_)
 clear hK K
 refine norm_ (a':=?_) ?_ ?_
 rotate_left
 ·show Act.put _ (some 9) _=_
  simp only [Act.put,zz21,zz22,zz23,i64_w,i32_w]
  rfl
 refine one_ (i:=9) (N:=some 14) #[T,T,T,T,T,T,T,T,T,T,F,F,F] rfl rfl (one_of HT_.out (by kernel_rfl)) (by decide) (fun K hK=>?_)
 refine goes_ Try.func87 (by kernel_rfl) rfl #[.int .i64 a0_1,.int .i64 a1_1] (by rfl) rfl rfl (by (try simp only [zz26,zz27,zz28]);first | done | rfl | (simp only [zz24,zz25];rfl)) ?_
 with_reducible refine (cmp_Compare_int.calls a0_1 a1_1 t237 _ A4.out).mono ?_
 rintro e w' ⟨rfl,⟨nd,rfl⟩⟩
 refine ⟨_,rfl,?_⟩
 refine hK.out _ _ ⟨(zz9 BK234.out 0).trans rfl,(zz9 BK234.out 1).trans rfl,(zz9 BK235.out 0).trans rfl,(zz9 BK235.out 1).trans rfl⟩ (fun hHeld=>?_)
 clear hK K
 refine norm_ (a':=?_) ?_ ?_
 rotate_left
 ·show Act.put _ (some 14) _=_
  simp only [Act.put,zz21,zz22,zz23,i64_w,i32_w]
  rfl
 refine one_ (i:=10) (N:=some 15) #[T,T,T,T,T,T,T,T,T,T,T,F,F] rfl rfl (one_of HT_.out (by kernel_rfl)) (by decide) (fun K hK=>?_)
 refine Kd.R_lit_step (Kd.int .i64) _ 3 ?hg (N:=15) ?hd (xs:=([t236,t237]:List Int)) (inner:=[.int .i64 t236,.int .i64 t237]) (ok:=fun _=>True) (okp:=fun _=>True) ?hr ?hp (fun _ hk=>hk) trivial (Below.refl _ _) (Nat.le_refl _) (by simp) ?_;(case hd=>rfl);(case hg=>rfl);(case hr=>first | (go_simp;done) | (go_simp;rfl));(case hp=>exact (Reps.one (show Kd.M (Kd.int .i64) _ _ _ t236 [.int .i64 t236] from rfl) (Reps.one (show Kd.M (Kd.int .i64) _ _ _ t237 [.int .i64 t237] from rfl) (Reps.none _ _))))
 intro v239 w9 ho10 hb hg_ hnew_
 clear hg_ hnew_
 (first | rw [← Ny238.out] at ho10 | (simp only [Int.reduceToNat] at ho10;rw [← Ny238.out] at ho10))
 have n0_:=zz31 (Kd.R_lower ho10 (zz5 (by repeat first | exact HB.out | apply zz2 | apply zz0 | apply zz1 | refine zz3 ?_ GE234.out | refine zz3 ?_ GE235.out)))
 have n1_:=zz31 (zz11 (g:=gb234) (o:=.cells #[.int .i64 a0_0,.int .i64 a0_1] 70 (0,0)) (by (with_reducible repeat (first | refine zz6 ?_ _ | refine zz7 ?_ | refine zz8 ?_ _));exact BK234.out) hb)
 have n2_:=zz31 (zz11 (g:=gb235) (o:=.cells #[.int .i64 a1_0,.int .i64 a1_1] 70 (0,0)) (by (with_reducible repeat (first | refine zz6 ?_ _ | refine zz7 ?_ | refine zz8 ?_ _));exact BK235.out) hb)
 have n3_:=zz31 (zz4 (by repeat first | exact HB.out | apply zz2 | apply zz0 | apply zz1 | refine zz3 ?_ GE234.out | refine zz3 ?_ GE235.out) hb)
 clear BK234
 clear BK235
 clear HB
 have HO240:=n0_
 have BK234:=n1_
 have BK235:=n2_
 have HB:=n3_
 clear n0_ n1_ n2_ n3_
 clear hb ho10
 obtain ⟨Ao11,co11,eo11⟩:=Kd.R_slice HO240.out
 (first | subst eo11 | (injection eo11 with f1_ f2_ f3_;have f4_:=f1_.symm;have f5_:=f3_.symm;clear f1_ f2_ f3_;subst f4_;subst f5_))
 refine hK.out _ _ ⟨(zz9 BK234.out 0).trans rfl,(zz9 BK234.out 1).trans rfl,(zz9 BK235.out 0).trans rfl,(zz9 BK235.out 1).trans rfl⟩ (fun hHeld=>?_)
 clear hK K
 refine norm_ (a':=?_) ?_ ?_
 rotate_left
 ·show Act.put _ (some 15) _=_
  simp only [Act.put,zz21,zz22,zz23,i64_w,i32_w]
  rfl
 refine one_ (i:=11) (N:=some 16) #[T,T,T,T,T,T,T,T,T,T,T,T,F] rfl rfl (one_of HT_.out (by kernel_rfl)) (by decide) (fun K hK=>?_)
 refine goes_ Try.func86 (by kernel_rfl) rfl #[.slice Ao11 y238.length co11] (by rfl) rfl rfl (by (try simp only [zz26,zz27,zz28]);first | done | rfl | (simp only [zz24,zz25];rfl)) ?_
 with_reducible refine (cmp_Or_int.calls k _ _ y238 t241 _ ?side1 ?side2 A5.out).mono ?_
 (case side1=>repeat (first | exact (Kd.R_reads' HO240.out).2.2 | (with_reducible refine zz18 ?_ _) | (with_reducible refine zz19 ?_ _) | (with_reducible refine zz20 ?_)))
 (case side2=>exact (Kd.R_reads' HO240.out).2.1)
 rintro e w' ⟨rfl,⟨nd,rfl⟩⟩
 refine ⟨_,rfl,?_⟩
 refine hK.out _ _ ⟨(zz9 BK234.out 0).trans rfl,(zz9 BK234.out 1).trans rfl,(zz9 BK235.out 0).trans rfl,(zz9 BK235.out 1).trans rfl⟩ (fun hHeld=>?_)
 clear hK K
 refine norm_ (a':=?_) ?_ ?_
 rotate_left
 ·show Act.put _ (some 16) _=_
  simp only [Act.put,zz21,zz22,zz23,i64_w,i32_w]
  rfl
 refine pure_ (i:=12) (N:=some 4) (v:=?_) (a':=?_) #[T,T,T,T,T,T,T,T,T,T,T,T,T] rfl rfl (any_of HT_.out (by kernel_rfl)) (fun _ _ _ h=>h) (Or.inl ⟨by rfl,?_⟩) ?_ ?_
 rotate_left
 ·intro w'
  go_simp
  with_reducible rfl
 rotate_left
 ·simp only [Act.put,zz21,zz22,zz23,i64_w,i32_w]
  rfl
 refine done_ (done_of HT_.out (by kernel_rfl)) ?_
 try go_wp2
 go_ret
 exact ⟨by first | rfl | (simp [errW_none,errW_some] <;> rfl) | (simp [*,errW_none,errW_some] <;> rfl),by repeat first | exact HB.out | apply zz2 | apply zz0 | apply zz1 | refine zz3 ?_ GE234.out | refine zz3 ?_ GE235.out⟩

/-! ### impl_within: function 89 -/
def impl_within.f (a0:Int) (a1:Int) (a2:Int):Option (Bool):=if a1≤a0 then (some (decide (a0≤a2))) else (some false)
set_option maxHeartbeats 8000000 in
set_option maxRecDepth 100000 in
theorem impl_within.calls (a0:Int) (a1:Int) (a2:Int) (r:Bool) (w:World) (h:impl_within.f a0 a1 a2=some r) :
  Calls Try.prog 89 #[.int .i64 a0,.int .i64 a1,.int .i64 a2] w fun e w'=>e=.returned (.bool r)∧Drawn0 w w':=by
 have H:(if a1≤a0 then (some (decide (a0≤a2))) else (some false))=some r:=h
 clear h
 by_cases c4:a1≤a0
 ·rw [if_pos c4] at H
  have c4b0:decide (a1≤a0)=true:=decide_eq_true c4
  clear c4
  obtain rfl:=Option.some.inj H
  go_enter Try.func89,Try.ntmps89
  go_wp2
  go_ret
  exact ⟨by first | rfl | (simp;done) | (simp [*];done),by repeat (first | exact Drawn0.refl _ | apply Drawn0.step)⟩
 ·rw [if_neg c4] at H
  have c4b0:decide (a1≤a0)=false:=decide_eq_false c4
  clear c4
  obtain rfl:=Option.some.inj H
  go_enter Try.func89,Try.ntmps89
  go_wp2
  go_ret
  exact ⟨by first | rfl | (simp;done) | (simp [*];done),by repeat (first | exact Drawn0.refl _ | apply Drawn0.step)⟩

/-! ### impl_areCrowd: function 76 -/
def impl_areCrowd.f (a0:Int):Option (Bool):=(impl_within.f a0 0 12).bind fun t242=>(some t242)
set_option maxHeartbeats 8000000 in
set_option maxRecDepth 100000 in
theorem impl_areCrowd.calls (a0:Int) (r:Bool) (w:World) (h:impl_areCrowd.f a0=some r) :
  Calls Try.prog 76 #[.int .i64 a0] w fun e w'=>e=.returned (.bool r)∧Drawn0 w w':=by
 have H:((impl_within.f a0 0 12).bind fun t242=>(some t242))=some r:=h
 clear h
 replace H:=zz30.mp H
 obtain ⟨t242,A20,H⟩:=H
 replace H:(some t242)=some r:=H
 have A2:=zz31 A20
 clear A20
 obtain rfl:=Option.some.inj H
 go_enter Try.func76,Try.ntmps76
 go_wp2_with (first | ((with_reducible refine gate_callee (f:=89) rfl ?_);refine goesL_ (some 4) rfl rfl Try.func89 (by kernel_rfl) rfl #[.int .i64 a0,.int .i64 0,.int .i64 12] rfl (by (try simp only [zz26,zz27,zz28]);first | done | rfl | (simp only [zz24,zz25];rfl)) ?_;(with_reducible refine (impl_within.calls a0 0 12 t242 _ A2.out).mono ?_);rintro e w' ⟨rfl,⟨nd,rfl⟩⟩;refine ⟨_,rfl,?_⟩))
 go_ret
 exact ⟨by first | rfl | (simp;done) | (simp [*];done),by repeat (first | exact Drawn0.refl _ | apply Drawn0.step)⟩

end Go.Proofs.Ytoedkkoafidalaa.P
