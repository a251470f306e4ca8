-- PRINTED by print.py (a twelfth state) out of the translation. Not trusted: Lean checks it.
import Derived.Test.YtoedkkoafidalaaDoorPx0
import Derived.Test.YtoedkkoafidalaaDoorPx1
namespace Go.Proofs.YtoedkkoafidalaaDoor.P
open Go.RowKit Go.Proofs.YtoedkkoafidalaaDoorW.PrintWords Go.Proofs.YtoedkkoafidalaaDoorW.PrintLast Go.Proofs.YtoedkkoafidalaaDoorW.PrintMore
open Bool renaming true → T, false → F
attribute [local go_sem] max2_int min2_int max_two min_two max_three min_three max_four min_four   -- for this text's walks alone
set_option linter.unusedVariables false
set_option linter.unusedSimpArgs false

/-! ### spec_paParse: function 21 -/
mutual
def spec_paParse.j0:Nat→List ByteArray→Bool→Option (Int × (List (S50)) × Bool)
 | 0,_,_=>none
 | k+1,x4,x18=>if x18=true then (some (0,([]:List (S50)),false)) else (if 0 < (x4.length:Int) then ((spec_l1Read.f k (rdOf ByteArray.empty x4 0)).bind fun t132=>(if 1 < (x4.length:Int) then (if (rdOf ByteArray.empty x4 1).toList=([]:List UInt8) then ((spec_paGood.f k t132 ([]:List (S50))).bind fun t135=>(if t135=true then (some (t132,([]:List (S50)),true)) else (some (0,([]:List (S50)),false)))) else ((spec_l1Split.f k (rdOf ByteArray.empty x4 1) 44).bind fun t137=>(spec_paParse.l0 k t137 (t137.length:Int) 0 t132 ([]:List (S50))))) else (none))) else (none))
def spec_paParse.l0:Nat→List ByteArray→Int→Int→Int→List (S50)→Option (Int × (List (S50)) × Bool)
 | 0,_,_,_,_,_=>none
 | k+1,x32,x33,x34,x134000,x134001=>if x34 < x33 then (if 0≤x34 then (if x34 < (x32.length:Int) then ((spec_l1Split.f k (rdOf ByteArray.empty x32 x34) 45).bind fun t142=>(if (t142.length:Int)=2 then (if 0 < (t142.length:Int) then ((spec_l1Read.f k (rdOf ByteArray.empty t142 0)).bind fun t146=>(if 1 < (t142.length:Int) then ((spec_l1Read.f k (rdOf ByteArray.empty t142 1)).bind fun t148=>(if x134001.length < 8796093022208 then (spec_paParse.l0 k x32 x33 (wrap64 (x34+1)) x134000 (x134001 ++ [(⟨t146,t148⟩:S50)])) else (none))) else (none))) else (none)) else (some (0,([]:List (S50)),false)))) else (none)) else (none)) else ((spec_paGood.f k x134000 x134001).bind fun t140=>(if t140=true then (some (x134000,x134001,true)) else (some (0,([]:List (S50)),false))))
end
def spec_paParse.f (k:Nat) (a0:ByteArray):Option (Int × (List (S50)) × Bool):=(spec_l1Split.f k a0 58).bind fun t128=>(if (a0.size:Int) > 500 then (spec_paParse.j0 k t128 true) else (spec_paParse.j0 k t128 ((t128.length:Int) != 2)))
theorem spec_paParse.mono_l:∀ k,(∀ y0 y1,LeO (spec_paParse.j0 k y0 y1) (spec_paParse.j0 (k+1) y0 y1))∧(∀ y0 y1 y2 y3 y4,LeO (spec_paParse.l0 k y0 y1 y2 y3 y4) (spec_paParse.l0 (k+1) y0 y1 y2 y3 y4))
 | 0=>⟨fun _ _ r h=>by simp [spec_paParse.j0] at h,fun _ _ _ _ _ r h=>by simp [spec_paParse.l0] at h⟩
 | k+1=>by
  obtain ⟨ih0,ih1⟩:=spec_paParse.mono_l k
  refine ⟨?_,?_⟩
  ·intro y0 y1
   unfold spec_paParse.j0
   repeat' first
   | (with_reducible exact ih0 _ _)
   | (with_reducible exact ih1 _ _ _ _ _)
   | (with_reducible exact spec_l1Read.mono _ _)
   | (with_reducible exact spec_l1Split.mono _ _ _)
   | (with_reducible exact spec_paGood.mono _ _ _)
   | (with_reducible exact LeO.refl _)
   | (with_reducible exact LeO.none _)
   | (with_reducible refine LeO.ite ?_ ?_)
   | (with_reducible refine LeO.bind ?_ (fun _=>?_))
   | exact ih0 _ _
   | exact ih1 _ _ _ _ _
   | exact spec_l1Read.mono _ _
   | exact spec_l1Split.mono _ _ _
   | exact spec_paGood.mono _ _ _
   | exact LeO.none _
   | refine LeO.ite ?_ ?_
   | refine LeO.bind ?_ (fun _=>?_)
  ·intro y0 y1 y2 y3 y4
   unfold spec_paParse.l0
   repeat' first
   | (with_reducible exact ih0 _ _)
   | (with_reducible exact ih1 _ _ _ _ _)
   | (with_reducible exact spec_l1Read.mono _ _)
   | (with_reducible exact spec_l1Split.mono _ _ _)
   | (with_reducible exact spec_paGood.mono _ _ _)
   | (with_reducible exact LeO.refl _)
   | (with_reducible exact LeO.none _)
   | (with_reducible refine LeO.ite ?_ ?_)
   | (with_reducible refine LeO.bind ?_ (fun _=>?_))
   | exact ih0 _ _
   | exact ih1 _ _ _ _ _
   | exact spec_l1Read.mono _ _
   | exact spec_l1Split.mono _ _ _
   | exact spec_paGood.mono _ _ _
   | exact LeO.none _
   | refine LeO.ite ?_ ?_
   | refine LeO.bind ?_ (fun _=>?_)
theorem spec_paParse.mono:∀ a0 k,LeO (spec_paParse.f k a0) (spec_paParse.f (k+1) a0):=by
 intro a0 k
 obtain ⟨ih0,ih1⟩:=spec_paParse.mono_l k
 unfold spec_paParse.f
 repeat' first
   | (with_reducible exact ih0 _ _)
   | (with_reducible exact ih1 _ _ _ _ _)
   | (with_reducible exact spec_l1Read.mono _ _)
   | (with_reducible exact spec_l1Split.mono _ _ _)
   | (with_reducible exact spec_paGood.mono _ _ _)
   | (with_reducible exact LeO.refl _)
   | (with_reducible exact LeO.none _)
   | (with_reducible refine LeO.ite ?_ ?_)
   | (with_reducible refine LeO.bind ?_ (fun _=>?_))
   | exact ih0 _ _
   | exact ih1 _ _ _ _ _
   | exact spec_l1Read.mono _ _
   | exact spec_l1Split.mono _ _ _
   | exact spec_paGood.mono _ _ _
   | exact LeO.none _
   | refine LeO.ite ?_ ?_
   | refine LeO.bind ?_ (fun _=>?_)
def spec_paParse.T12:Bool × List (List Nat × List Nat):=(true,[([],[]),([0],[0]),([],[]),([2],[2]),([3],[3]),([4],[4]),([],[]),([6],[6]),([7],[7]),([8,5],[8]),([5,9],[5,9]),([10],[10]),([1,11,9],[1,11]),([0,1,2,3,4,5,6,7,8,9,10,11,12],[]),([13,12,12,0,1,2,3,4,5,6,7,8,9,10,11,12],[12,13])])
def spec_paParse.B12:List Nat:=[0,1,0,4,12,28,0,64,192,508,1020,2044,4095,8191,16383]
theorem spec_paParse.tab12:rtab .any (opsOf Tryd.f21 12)=spec_paParse.T12:=by kernel_rfl
theorem spec_paParse.bits12:waitsOk spec_paParse.T12.2 spec_paParse.B12=true:=by kernel_rfl
set_option maxHeartbeats 8000000 in
set_option maxRecDepth 100000 in
theorem spec_paParse.calls (k:Nat) (a0:ByteArray) (r1:Int) (r2:List (S50)) (r3:Bool) (w:World) (h:spec_paParse.f k a0=some (r1,r2,r3)) :
  Calls Tryd.prog 21 #[.string a0] w fun e w'=>∃ v1_:Value,e=.returned (.tuple #[.agg #[.int .i64 r1,v1_],.bool r3])∧Kd.R k50 50 w' w.heap.size (fun _=>True) v1_ r2∧Below w.heap.size w w':=by
 have hu30:=Tryd.underlying30
 have hu50:=Tryd.underlying50
 have HB:=zz31 (Below.refl w.heap.size w)
 have H:((spec_l1Split.f k a0 58).bind fun t128=>(if (a0.size:Int) > 500 then (spec_paParse.j0 k t128 true) else (spec_paParse.j0 k t128 ((t128.length:Int) != 2))))=some (r1,r2,r3):=h
 clear h
 replace H:=zz30.mp H
 obtain ⟨t128,A20,H⟩:=H
 replace H:(if (a0.size:Int) > 500 then (spec_paParse.j0 k t128 true) else (spec_paParse.j0 k t128 ((t128.length:Int) != 2)))=some (r1,r2,r3):=H
 have A2:=zz31 A20
 clear A20
 have HC3:=zz31 H
 clear H
 go_enter Tryd.func21,Tryd.ntmps21
 go_upto_region 2 with (first | ((with_reducible refine gate_dst (N:=2) rfl ?_);(try (refine gate_guard (by rfl) ?_;dsimp only));refine box_event ?hg (N:=2) ?hd (cs:=#[.int .i64 0,.slice none 0 0]) (t:=30) ?hr ?_;(case hd=>rfl);(case hg=>rfl);(case hr=>first | (go_simp;done) | (go_simp;rfl));intro gb127 hg w4 hbox hb;have n0_:=zz31 (zz4 (by repeat first | exact HB.out | apply zz2 | apply zz0 | apply zz1) hb);have n1_:=zz31 (hbox);have n2_:=zz31 ((by rw [hg];exact (zz5 (by repeat first | exact HB.out | apply zz2 | apply zz0 | apply zz1)):w.heap.size≤gb127));have n3_:=zz31 ((by rw [hg];exact (zz5 (by repeat first | exact HB.out | apply zz2 | apply zz0 | apply zz1)):w.heap.size≤gb127));clear HB;have HB:=n0_;have BK127:=n1_;have GW127:=n2_;have GE127:=n3_;clear n0_ n1_ n2_ n3_;clear hb hbox hg) | ((with_reducible refine gate_callee (f:=36) rfl ?_);refine goesL_ (some 10) rfl rfl Tryd.func36 (by kernel_rfl) rfl #[.string a0,.int .u8 58] rfl (by (try simp only [zz26,zz27,zz28]);first | done | rfl | (simp only [zz24,zz25];rfl)) ?_;(with_reducible refine (spec_l1Split.calls k a0 58 t128 _ A2.out).mono ?_);rintro e w5 ⟨v129,rfl,ho0,hb⟩;refine ⟨_,rfl,?_⟩;have n0_:=zz31 (Kd.R_lower ho0 (zz5 (by repeat first | exact HB.out | apply zz2 | apply zz0 | apply zz1 | refine zz3 ?_ GE127.out)));have n1_:=zz31 (zz11 (g:=gb127) (o:=.cells #[.int .i64 0,.slice none 0 0] 30 (0,0)) (by (with_reducible repeat (first | refine zz6 ?_ _ | refine zz7 ?_ | refine zz8 ?_ _));exact BK127.out) hb);have n2_:=zz31 (zz4 (by repeat first | exact HB.out | apply zz2 | apply zz0 | apply zz1 | refine zz3 ?_ GE127.out) hb);clear BK127;clear HB;have HO130:=n0_;have BK127:=n1_;have HB:=n2_;clear n0_ n1_ n2_;(try clear hb);(try clear hb2);(try clear hk);(try clear hi);(try clear ho0)))
 (try simp only [Act.put,zz21,zz22,zz23])
 go_cut [18] (fun v18 wc=>∃ (kq:Nat) (x18_2:Bool),v18=.bool x18_2∧Aside0 (spec_paParse.j0 kq t128 x18_2=some (r1,r2,r3))∧Aside0 (kq≤k)∧Aside0 (Kd.R Kd.string 9 wc w.heap.size (fun _=>True) v129 t128)∧Aside0 (wc.heap[gb127]?=some (.cells #[.int .i64 0,(.slice none 0 0)] 30 (0,0)))∧Aside0 (Below w.heap.size w wc))
 case first =>
  have H:=HC3.out
  clear HC3
  by_cases c6:(a0.size:Int) > 500
  ·rw [if_pos c6] at H
   have c6b0:decide (500 < (a0.size:Int))=true:=decide_eq_true c6
   have c6b1:decide (500 < a0.size)=true:=decide_eq_true (by omega)
   clear c6
   (first | rw [c6b0] | (simp only [i64_w,i32_w];rw [c6b0]) | skip)
   have H':=zz31 H
   clear H
   go_wp2
   go_meet
   case rel=>exact ⟨_,(true),(by first | rfl | (simp;done) | (simp [*];done)),H',⟨by first | omega | exact Nat.le_refl _⟩,⟨by (with_reducible repeat (first | apply zz12 | apply zz13 | apply zz14));exact HO130.out⟩,⟨by (with_reducible repeat (first | refine zz6 ?_ _ | refine zz7 ?_ | refine zz8 ?_ _));exact BK127.out⟩,⟨by repeat first | exact HB.out | apply zz2 | apply zz0 | apply zz1 | refine zz3 ?_ GE127.out⟩⟩
  ·rw [if_neg c6] at H
   have c6b0:decide (500 < (a0.size:Int))=false:=decide_eq_false c6
   have c6b1:decide (500 < a0.size)=false:=decide_eq_false (by omega)
   clear c6
   (first | rw [c6b0] | (simp only [i64_w,i32_w];rw [c6b0]) | skip)
   have H':=zz31 H
   clear H
   obtain ⟨Ao7,co7,eo7⟩:=Kd.R_slice HO130.out
   subst eo7
   go_wp2
   go_meet
   case rel=>exact ⟨_,(((t128.length:Int) != 2)),(by first | rfl | (simp;done) | (simp [*];done)),H',⟨by first | omega | exact Nat.le_refl _⟩,⟨by (with_reducible repeat (first | apply zz12 | apply zz13 | apply zz14));exact HO130.out⟩,⟨by (with_reducible repeat (first | refine zz6 ?_ _ | refine zz7 ?_ | refine zz8 ?_ _));exact BK127.out⟩,⟨by repeat first | exact HB.out | apply zz2 | apply zz0 | apply zz1 | refine zz3 ?_ GE127.out⟩⟩
 case rest =>
  clear HC3
  try clear c2
  try clear p2
  try clear c3
  try clear c6
  try clear c6b0
  try clear c6b1
  obtain ⟨kq,x18_2,rfl,HA,HJ2,HO_4,BK127,HB⟩:=hcut
  cases kq with
  | zero=>exact absurd HA.out (by simp [spec_paParse.j0])
  | succ kj2 =>
   have H:=HA.out
   clear HA
   simp only [spec_paParse.j0] at H
   by_cases c8:x18_2=true
   ·subst c8
    have H1:(some (0,([]:List (S50)),false))=some (r1,r2,r3):=by rw [if_pos rfl] at H;exact H
    clear H
    have H:=H1
    clear H1
    simp only [Option.some.injEq,Prod.mk.injEq] at H
    obtain ⟨rfl,rfl,rfl⟩:=H
    have hcz9_0:wc.cell? ⟨gb127,0,none⟩=some (.int .i64 0):=(zz9 BK127.out 0).trans rfl
    have hcz9_1:wc.cell? ⟨gb127,1,none⟩=some (.slice none 0 0):=(zz9 BK127.out 1).trans rfl
    have hfz9_0:=zz10 BK127.out 0
    have hfz9_1:=zz10 BK127.out 1
    go_wp2
    refine bodyPost_ret (results_ct rfl _ _ gb127 30 #[.int .i64 0,.slice none 0 0] (0,0) _ rfl (by (with_reducible repeat (first | refine zz6 ?_ _ | refine zz7 ?_ | refine zz8 ?_ _));refine blk_put (cs:=#[.int .i64 0,.slice none 0 0]) ?_ 1 _ rfl;(with_reducible repeat (first | refine zz6 ?_ _ | refine zz7 ?_ | refine zz8 ?_ _));refine blk_put (cs:=#[.int .i64 0,.slice none 0 0]) ?_ 0 _ rfl;(with_reducible repeat (first | refine zz6 ?_ _ | refine zz7 ?_ | refine zz8 ?_ _));exact BK127.out) Tryd.underlying30 rfl (by kernel_rfl)) rfl ?_
    exact ⟨_,by first | rfl | (simp [errW_none,errW_some] <;> rfl) | (simp [*,errW_none,errW_some] <;> rfl),by first | exact Kd.R_nil _ _ _ _ _ | exact Kd.N_nil _ _ _ _ _ | exact Kd.V_nil _ _ _ _ _ | exact Kd.Q_nil _ _ _ _ _ | exact Kd.S_nil _ _ _ _ _,by repeat first | exact HB.out | apply zz2 | apply zz0 | apply zz1 | refine zz3 ?_ GE127.out⟩
   ·replace c8:=Bool.eq_false_iff.mpr c8
    subst c8
    have H1:(if 0 < (t128.length:Int) then ((spec_l1Read.f kj2 (rdOf ByteArray.empty t128 0)).bind fun t132=>(if 1 < (t128.length:Int) then (if (rdOf ByteArray.empty t128 1).toList=([]:List UInt8) then ((spec_paGood.f kj2 t132 ([]:List (S50))).bind fun t135=>(if t135=true then (some (t132,([]:List (S50)),true)) else (some (0,([]:List (S50)),false)))) else ((spec_l1Split.f kj2 (rdOf ByteArray.empty t128 1) 44).bind fun t137=>(spec_paParse.l0 kj2 t137 (t137.length:Int) 0 t132 ([]:List (S50))))) else (none))) else (none))=some (r1,r2,r3):=by rw [if_neg (show ¬ (false=true) by decide)] at H;exact H
    clear H
    have H:=H1
    clear H1
    by_cases c10:0 < (t128.length:Int)
    ·rw [if_pos c10] at H
     have c10b0:decide (0 < (t128.length:Int))=true:=decide_eq_true c10
     have c10n0:decide (0 < t128.length)=true:=by have:=c10b0;simpa using this
     have c10p0:0 < t128.length:=zz29 c10n0
     have c10q0:(0 < t128.length)=True:=eq_true c10p0
     have c10b1:decide (0 < t128.length)=true:=decide_eq_true (by omega)
     clear c10
     replace H:=zz30.mp H
     obtain ⟨t132,A110,H⟩:=H
     replace H:(if 1 < (t128.length:Int) then (if (rdOf ByteArray.empty t128 1).toList=([]:List UInt8) then ((spec_paGood.f kj2 t132 ([]:List (S50))).bind fun t135=>(if t135=true then (some (t132,([]:List (S50)),true)) else (some (0,([]:List (S50)),false)))) else ((spec_l1Split.f kj2 (rdOf ByteArray.empty t128 1) 44).bind fun t137=>(spec_paParse.l0 kj2 t137 (t137.length:Int) 0 t132 ([]:List (S50))))) else (none))=some (r1,r2,r3):=H
     have A11:=zz31 A110
     clear A110
     by_cases c12:1 < (t128.length:Int)
     ·rw [if_pos c12] at H
      have c12b0:decide (1 < (t128.length:Int))=true:=decide_eq_true c12
      have c12b1:decide (1 < t128.length)=true:=decide_eq_true (by omega)
      clear c12
      by_cases c13:(rdOf ByteArray.empty t128 1).toList=([]:List UInt8)
      ·rw [if_pos c13] at H
       have c13b0:((rdOf ByteArray.empty t128 1).toList == ([]:List UInt8))=true:=beq_iff_eq.mpr c13
       have c13b1:((rdOf ByteArray.empty t128 1).toList != ([]:List UInt8))=false:=bne_eq_false_iff_eq.mpr c13
       clear c13
       replace H:=zz30.mp H
       obtain ⟨t135,A140,H⟩:=H
       replace H:(if t135=true then (some (t132,([]:List (S50)),true)) else (some (0,([]:List (S50)),false)))=some (r1,r2,r3):=H
       have A14:=zz31 A140
       clear A140
       by_cases c15:t135=true
       ·subst c15
        have H1:(some (t132,([]:List (S50)),true))=some (r1,r2,r3):=by rw [if_pos rfl] at H;exact H
        clear H
        have H:=H1
        clear H1
        simp only [Option.some.injEq,Prod.mk.injEq] at H
        obtain ⟨rfl,rfl,rfl⟩:=H
        obtain ⟨Ao16,co16,eo16⟩:=Kd.R_slice HO_4.out
        subst eo16
        have p131:0≤(0:Int):=(by omega)
        have q131:0 < (t128.length:Int):=zz29 (by first | (with_reducible assumption) | assumption)
        obtain ⟨ad131,e131,hx131_0⟩:=Kd.at_string (Kd.R_reads' HO_4.out).2.2 0 p131 q131
        cases e131
        have qi131:(0 < t128.length)=True:=eq_true (by omega)
        (try rw [show ((0:Int)).toNat=0 from rfl] at hx131_0)
        (try rw [Addr.add_zero'] at hx131_0)
        replace p131:=eq_true p131
        replace q131:=eq_true q131
        go_wp2_with (first | ((with_reducible refine gate_callee (f:=37) rfl ?_);refine goesL_ (some 23) rfl rfl Tryd.func37 (by kernel_rfl) rfl #[.string (rdOf ByteArray.empty t128 0)] rfl (by (try simp only [zz26,zz27,zz28]);first | done | rfl | (simp only [zz24,zz25];rfl)) ?_;(with_reducible refine (spec_l1Read.calls kj2 (rdOf ByteArray.empty t128 0) t132 _ A11.out).mono ?_);rintro e w' ⟨rfl,⟨nd,rfl⟩⟩;refine ⟨_,rfl,?_⟩;(try (rw [drewN_self wc];generalize hq_:World.drewN wc _=wc;have n0_:Aside0 (Kd.R Kd.string 9 wc w.heap.size (fun _=>True) (.slice (some ad131) t128.length co16) t128):=⟨by rw [← hq_];exact (by (with_reducible repeat (first | apply zz12 | apply zz13 | apply zz14));exact HO_4.out)⟩;have n1_:Aside0 (wc.heap[gb127]?=some (.cells #[.int .i64 0,.slice none 0 0] 30 (0,0))):=⟨by rw [← hq_];exact (by (with_reducible repeat (first | refine zz6 ?_ _ | refine zz7 ?_ | refine zz8 ?_ _));exact BK127.out)⟩;have n2_:Aside0 (Below w.heap.size w wc):=⟨by rw [← hq_];exact (by repeat first | exact HB.out | apply zz2 | apply zz0 | apply zz1 | refine zz3 ?_ GE127.out)⟩;clear HO_4 BK127 HB hq_;have HO_4:=n0_;have BK127:=n1_;have HB:=n2_;clear n0_ n1_ n2_))) | ((with_reducible refine gate_dst (N:=5) rfl ?_);(try (refine gate_guard (by rfl) ?_;dsimp only));refine box_event ?hg (N:=5) ?hd (cs:=#[.int .i64 0,.slice none 0 0]) (t:=30) ?hr ?_;(case hd=>rfl);(case hg=>rfl);(case hr=>first | (go_simp;done) | (go_simp;rfl));intro gb133 hg w17 hbox hb;have n0_:=zz31 (Kd.R_below (by (with_reducible repeat (first | apply zz12 | apply zz13 | apply zz14));exact HO_4.out) hb);have n1_:=zz31 (zz11 (g:=gb127) (o:=.cells #[.int .i64 0,.slice none 0 0] 30 (0,0)) (by (with_reducible repeat (first | refine zz6 ?_ _ | refine zz7 ?_ | refine zz8 ?_ _));exact BK127.out) hb);have n2_:=zz31 (zz4 (by repeat first | exact HB.out | apply zz2 | apply zz0 | apply zz1 | refine zz3 ?_ GE127.out) hb);have n3_:=zz31 (hbox);have n4_:=zz31 ((by rw [hg];exact (zz5 (by repeat first | exact HB.out | apply zz2 | apply zz0 | apply zz1 | refine zz3 ?_ GE127.out)):w.heap.size≤gb133));have n5_:=zz31 ((by rw [hg];exact (zz5 (by repeat first | exact HB.out | apply zz2 | apply zz0 | apply zz1 | refine zz3 ?_ GE127.out)):w.heap.size≤gb133));have n6_:=zz31 ((by rw [hg];exact Nat.ne_of_lt (blk_lt (g:=gb127) (o:=.cells #[.int .i64 0,.slice none 0 0] 30 (0,0)) (by (with_reducible repeat (first | refine zz6 ?_ _ | refine zz7 ?_ | refine zz8 ?_ _));exact BK127.out)):gb127 ≠ gb133));have n7_:=zz31 ((by rw [hg];exact Nat.ne_of_gt (blk_lt (g:=gb127) (o:=.cells #[.int .i64 0,.slice none 0 0] 30 (0,0)) (by (with_reducible repeat (first | refine zz6 ?_ _ | refine zz7 ?_ | refine zz8 ?_ _));exact BK127.out)):gb133 ≠ gb127));clear HO_4;clear BK127;clear HB;have HO_4:=n0_;have BK127:=n1_;have HB:=n2_;have BK133:=n3_;have GW133:=n4_;have GE133:=n5_;have NB127_133:=n6_;have NB133_127:=n7_;clear n0_ n1_ n2_ n3_ n4_ n5_ n6_ n7_;clear hb hbox hg;have hnb18:=NB133_127.out;have hnc18:=NB127_133.out;have hcz19_0:w17.cell? ⟨gb133,0,none⟩=some (.int .i64 0):=(zz9 BK133.out 0).trans rfl;have hcz19_1:w17.cell? ⟨gb133,1,none⟩=some (.slice none 0 0):=(zz9 BK133.out 1).trans rfl;have hfz19_0:=zz10 BK133.out 0;have hfz19_1:=zz10 BK133.out 1;have p134:0≤(1:Int):=(by omega);have q134:1 < (t128.length:Int):=zz29 (by first | (with_reducible assumption) | assumption);obtain ⟨ad134,e134,hx134_0⟩:=Kd.at_string (Kd.R_reads' HO_4.out).2.2 1 p134 q134;obtain rfl:ad131=ad134:=(by injection e134);(try simp only [show (1:Int).toNat=1 from rfl,Nat.reduceMul,Nat.reduceEqDiff,Go.Addr.add,↓reduceIte] at hx134_0);have qi134:(1 < t128.length)=True:=eq_true (by omega);(try rw [show ((1:Int)).toNat=1 from rfl] at hx134_0);have hn134_0:ad131.block ≠ gb133:=Kd.own_blk (Kd.R_ne HO_4.out BK133.out (by decide));have hn134_1:ad131.block ≠ gb133:=Kd.own_blk (Kd.R_ne HO_4.out BK133.out (by decide));replace hx134_0:=(cell_far (p:=⟨gb133,0,none⟩) (by first | (rw [add_block];exact hn134_0) | (show (Addr.add _ _).block ≠ _;rw [add_block];exact hn134_0) | exact hn134_0) (.int .i64 t132)).trans hx134_0;replace hx134_0:=(cell_far (p:=⟨gb133,1,none⟩) (by first | (rw [add_block];exact hn134_1) | (show (Addr.add _ _).block ≠ _;rw [add_block];exact hn134_1) | exact hn134_1) (.slice none 0 0)).trans hx134_0;clear hn134_0;clear hn134_1;replace p134:=eq_true p134;replace q134:=eq_true q134) | ((with_reducible refine gate_callee (f:=15) rfl ?_);refine goesL_ (some 60) rfl rfl Tryd.func15 (by kernel_rfl) rfl #[.agg #[.int .i64 t132,.slice none 0 0]] rfl (by (try simp only [zz26,zz27,zz28]);first | done | rfl | (simp only [zz24,zz25];rfl)) ?_;(refine (spec_paGood.calls kj2 t132 _ _ ([]:List (S50)) true _ ?side1 ?side2 A14.out).mono ?_);(case side1=>exact Kd.C_nil _ _);(case side2=>exact Nat.le_refl _);rintro e w20 ⟨rfl,hb⟩;refine ⟨_,rfl,?_⟩;have n0_:=zz31 (Kd.R_below (by (with_reducible repeat (first | apply zz12 | apply zz13 | apply zz14));exact (Kd.R_mono (Kd.R_far (p:=⟨gb133,1,none⟩) (Kd.R_far (p:=⟨gb133,0,none⟩) (Kd.R_types HO_4.out BK133.out (by decide)) (fun _ hk=>hk.2) (.int .i64 t132)) (fun _ hk=>hk.2) (.slice none 0 0)) (fun _ h_=>h_.1))) hb);have n1_:=zz31 (zz11 (g:=gb127) (o:=.cells #[.int .i64 0,.slice none 0 0] 30 (0,0)) (by (with_reducible repeat (first | refine zz6 ?_ _ | refine zz7 ?_ | refine zz8 ?_ _));refine blk_far ?_ NB127_133.out _;(with_reducible repeat (first | refine zz6 ?_ _ | refine zz7 ?_ | refine zz8 ?_ _));refine blk_far ?_ NB127_133.out _;(with_reducible repeat (first | refine zz6 ?_ _ | refine zz7 ?_ | refine zz8 ?_ _));exact BK127.out) hb);have n2_:=zz31 (zz11 (g:=gb133) (o:=.cells #[.int .i64 t132,.slice none 0 0] 30 (0,0)) (by (with_reducible repeat (first | refine zz6 ?_ _ | refine zz7 ?_ | refine zz8 ?_ _));refine blk_put (cs:=#[.int .i64 t132,.slice none 0 0]) ?_ 1 _ rfl;(with_reducible repeat (first | refine zz6 ?_ _ | refine zz7 ?_ | refine zz8 ?_ _));refine blk_put (cs:=#[.int .i64 0,.slice none 0 0]) ?_ 0 _ rfl;(with_reducible repeat (first | refine zz6 ?_ _ | refine zz7 ?_ | refine zz8 ?_ _));exact BK133.out) hb);have n3_:=zz31 (zz4 (by repeat first | exact HB.out | apply zz2 | apply zz0 | apply zz1 | refine zz3 ?_ GE127.out | refine zz3 ?_ GE133.out) hb);clear HO_4;clear BK127;clear BK133;clear HB;have HO_4:=n0_;have BK127:=n1_;have BK133:=n2_;have HB:=n3_;clear n0_ n1_ n2_ n3_;(try clear hb);(try clear hb2);(try clear hk);(try clear hi);have hcz21_0:w20.cell? ⟨gb133,0,none⟩=some (.int .i64 t132):=(zz9 BK133.out 0).trans rfl;have hcz21_1:w20.cell? ⟨gb133,1,none⟩=some (.slice none 0 0):=(zz9 BK133.out 1).trans rfl;have hfz21_0:=zz10 BK133.out 0;have hfz21_1:=zz10 BK133.out 1;have hcz22_0:w20.cell? ⟨gb127,0,none⟩=some (.int .i64 0):=(zz9 BK127.out 0).trans rfl;have hcz22_1:w20.cell? ⟨gb127,1,none⟩=some (.slice none 0 0):=(zz9 BK127.out 1).trans rfl;have hfz22_0:=zz10 BK127.out 0;have hfz22_1:=zz10 BK127.out 1))
        refine bodyPost_ret (results_ct rfl _ _ gb127 30 #[.int .i64 t132,.slice none 0 0] (0,0) _ rfl (by (with_reducible repeat (first | refine zz6 ?_ _ | refine zz7 ?_ | refine zz8 ?_ _));refine blk_put (cs:=#[.int .i64 t132,.slice none 0 0]) ?_ 1 _ rfl;(with_reducible repeat (first | refine zz6 ?_ _ | refine zz7 ?_ | refine zz8 ?_ _));refine blk_put (cs:=#[.int .i64 0,.slice none 0 0]) ?_ 0 _ rfl;(with_reducible repeat (first | refine zz6 ?_ _ | refine zz7 ?_ | refine zz8 ?_ _));exact BK127.out) Tryd.underlying30 rfl (by kernel_rfl)) rfl ?_
        exact ⟨_,by first | rfl | (simp [errW_none,errW_some] <;> rfl) | (simp [*,errW_none,errW_some] <;> rfl),by first | exact Kd.R_nil _ _ _ _ _ | exact Kd.N_nil _ _ _ _ _ | exact Kd.V_nil _ _ _ _ _ | exact Kd.Q_nil _ _ _ _ _ | exact Kd.S_nil _ _ _ _ _,by repeat first | exact HB.out | apply zz2 | apply zz0 | apply zz1 | refine zz3 ?_ GE127.out | refine zz3 ?_ GE133.out⟩
       ·replace c15:=Bool.eq_false_iff.mpr c15
        subst c15
        have H1:(some (0,([]:List (S50)),false))=some (r1,r2,r3):=by rw [if_neg (show ¬ (false=true) by decide)] at H;exact H
        clear H
        have H:=H1
        clear H1
        simp only [Option.some.injEq,Prod.mk.injEq] at H
        obtain ⟨rfl,rfl,rfl⟩:=H
        obtain ⟨Ao23,co23,eo23⟩:=Kd.R_slice HO_4.out
        subst eo23
        have p131:0≤(0:Int):=(by omega)
        have q131:0 < (t128.length:Int):=zz29 (by first | (with_reducible assumption) | assumption)
        obtain ⟨ad131,e131,hx131_0⟩:=Kd.at_string (Kd.R_reads' HO_4.out).2.2 0 p131 q131
        cases e131
        have qi131:(0 < t128.length)=True:=eq_true (by omega)
        (try rw [show ((0:Int)).toNat=0 from rfl] at hx131_0)
        (try rw [Addr.add_zero'] at hx131_0)
        replace p131:=eq_true p131
        replace q131:=eq_true q131
        go_wp2_with (first | ((with_reducible refine gate_callee (f:=37) rfl ?_);refine goesL_ (some 23) rfl rfl Tryd.func37 (by kernel_rfl) rfl #[.string (rdOf ByteArray.empty t128 0)] rfl (by (try simp only [zz26,zz27,zz28]);first | done | rfl | (simp only [zz24,zz25];rfl)) ?_;(with_reducible refine (spec_l1Read.calls kj2 (rdOf ByteArray.empty t128 0) t132 _ A11.out).mono ?_);rintro e w' ⟨rfl,⟨nd,rfl⟩⟩;refine ⟨_,rfl,?_⟩;(try (rw [drewN_self wc];generalize hq_:World.drewN wc _=wc;have n0_:Aside0 (Kd.R Kd.string 9 wc w.heap.size (fun _=>True) (.slice (some ad131) t128.length co23) t128):=⟨by rw [← hq_];exact (by (with_reducible repeat (first | apply zz12 | apply zz13 | apply zz14));exact HO_4.out)⟩;have n1_:Aside0 (wc.heap[gb127]?=some (.cells #[.int .i64 0,.slice none 0 0] 30 (0,0))):=⟨by rw [← hq_];exact (by (with_reducible repeat (first | refine zz6 ?_ _ | refine zz7 ?_ | refine zz8 ?_ _));exact BK127.out)⟩;have n2_:Aside0 (Below w.heap.size w wc):=⟨by rw [← hq_];exact (by repeat first | exact HB.out | apply zz2 | apply zz0 | apply zz1 | refine zz3 ?_ GE127.out)⟩;clear HO_4 BK127 HB hq_;have HO_4:=n0_;have BK127:=n1_;have HB:=n2_;clear n0_ n1_ n2_))) | ((with_reducible refine gate_dst (N:=5) rfl ?_);(try (refine gate_guard (by rfl) ?_;dsimp only));refine box_event ?hg (N:=5) ?hd (cs:=#[.int .i64 0,.slice none 0 0]) (t:=30) ?hr ?_;(case hd=>rfl);(case hg=>rfl);(case hr=>first | (go_simp;done) | (go_simp;rfl));intro gb133 hg w24 hbox hb;have n0_:=zz31 (Kd.R_below (by (with_reducible repeat (first | apply zz12 | apply zz13 | apply zz14));exact HO_4.out) hb);have n1_:=zz31 (zz11 (g:=gb127) (o:=.cells #[.int .i64 0,.slice none 0 0] 30 (0,0)) (by (with_reducible repeat (first | refine zz6 ?_ _ | refine zz7 ?_ | refine zz8 ?_ _));exact BK127.out) hb);have n2_:=zz31 (zz4 (by repeat first | exact HB.out | apply zz2 | apply zz0 | apply zz1 | refine zz3 ?_ GE127.out) hb);have n3_:=zz31 (hbox);have n4_:=zz31 ((by rw [hg];exact (zz5 (by repeat first | exact HB.out | apply zz2 | apply zz0 | apply zz1 | refine zz3 ?_ GE127.out)):w.heap.size≤gb133));have n5_:=zz31 ((by rw [hg];exact (zz5 (by repeat first | exact HB.out | apply zz2 | apply zz0 | apply zz1 | refine zz3 ?_ GE127.out)):w.heap.size≤gb133));have n6_:=zz31 ((by rw [hg];exact Nat.ne_of_lt (blk_lt (g:=gb127) (o:=.cells #[.int .i64 0,.slice none 0 0] 30 (0,0)) (by (with_reducible repeat (first | refine zz6 ?_ _ | refine zz7 ?_ | refine zz8 ?_ _));exact BK127.out)):gb127 ≠ gb133));have n7_:=zz31 ((by rw [hg];exact Nat.ne_of_gt (blk_lt (g:=gb127) (o:=.cells #[.int .i64 0,.slice none 0 0] 30 (0,0)) (by (with_reducible repeat (first | refine zz6 ?_ _ | refine zz7 ?_ | refine zz8 ?_ _));exact BK127.out)):gb133 ≠ gb127));clear HO_4;clear BK127;clear HB;have HO_4:=n0_;have BK127:=n1_;have HB:=n2_;have BK133:=n3_;have GW133:=n4_;have GE133:=n5_;have NB127_133:=n6_;have NB133_127:=n7_;clear n0_ n1_ n2_ n3_ n4_ n5_ n6_ n7_;clear hb hbox hg;have hnb25:=NB133_127.out;have hnc25:=NB127_133.out;have hcz26_0:w24.cell? ⟨gb133,0,none⟩=some (.int .i64 0):=(zz9 BK133.out 0).trans rfl;have hcz26_1:w24.cell? ⟨gb133,1,none⟩=some (.slice none 0 0):=(zz9 BK133.out 1).trans rfl;have hfz26_0:=zz10 BK133.out 0;have hfz26_1:=zz10 BK133.out 1;have p134:0≤(1:Int):=(by omega);have q134:1 < (t128.length:Int):=zz29 (by first | (with_reducible assumption) | assumption);obtain ⟨ad134,e134,hx134_0⟩:=Kd.at_string (Kd.R_reads' HO_4.out).2.2 1 p134 q134;obtain rfl:ad131=ad134:=(by injection e134);(try simp only [show (1:Int).toNat=1 from rfl,Nat.reduceMul,Nat.reduceEqDiff,Go.Addr.add,↓reduceIte] at hx134_0);have qi134:(1 < t128.length)=True:=eq_true (by omega);(try rw [show ((1:Int)).toNat=1 from rfl] at hx134_0);have hn134_0:ad131.block ≠ gb133:=Kd.own_blk (Kd.R_ne HO_4.out BK133.out (by decide));have hn134_1:ad131.block ≠ gb133:=Kd.own_blk (Kd.R_ne HO_4.out BK133.out (by decide));replace hx134_0:=(cell_far (p:=⟨gb133,0,none⟩) (by first | (rw [add_block];exact hn134_0) | (show (Addr.add _ _).block ≠ _;rw [add_block];exact hn134_0) | exact hn134_0) (.int .i64 t132)).trans hx134_0;replace hx134_0:=(cell_far (p:=⟨gb133,1,none⟩) (by first | (rw [add_block];exact hn134_1) | (show (Addr.add _ _).block ≠ _;rw [add_block];exact hn134_1) | exact hn134_1) (.slice none 0 0)).trans hx134_0;clear hn134_0;clear hn134_1;replace p134:=eq_true p134;replace q134:=eq_true q134) | ((with_reducible refine gate_callee (f:=15) rfl ?_);refine goesL_ (some 60) rfl rfl Tryd.func15 (by kernel_rfl) rfl #[.agg #[.int .i64 t132,.slice none 0 0]] rfl (by (try simp only [zz26,zz27,zz28]);first | done | rfl | (simp only [zz24,zz25];rfl)) ?_;(refine (spec_paGood.calls kj2 t132 _ _ ([]:List (S50)) false _ ?side1 ?side2 A14.out).mono ?_);(case side1=>exact Kd.C_nil _ _);(case side2=>exact Nat.le_refl _);rintro e w27 ⟨rfl,hb⟩;refine ⟨_,rfl,?_⟩;have n0_:=zz31 (Kd.R_below (by (with_reducible repeat (first | apply zz12 | apply zz13 | apply zz14));exact (Kd.R_mono (Kd.R_far (p:=⟨gb133,1,none⟩) (Kd.R_far (p:=⟨gb133,0,none⟩) (Kd.R_types HO_4.out BK133.out (by decide)) (fun _ hk=>hk.2) (.int .i64 t132)) (fun _ hk=>hk.2) (.slice none 0 0)) (fun _ h_=>h_.1))) hb);have n1_:=zz31 (zz11 (g:=gb127) (o:=.cells #[.int .i64 0,.slice none 0 0] 30 (0,0)) (by (with_reducible repeat (first | refine zz6 ?_ _ | refine zz7 ?_ | refine zz8 ?_ _));refine blk_far ?_ NB127_133.out _;(with_reducible repeat (first | refine zz6 ?_ _ | refine zz7 ?_ | refine zz8 ?_ _));refine blk_far ?_ NB127_133.out _;(with_reducible repeat (first | refine zz6 ?_ _ | refine zz7 ?_ | refine zz8 ?_ _));exact BK127.out) hb);have n2_:=zz31 (zz11 (g:=gb133) (o:=.cells #[.int .i64 t132,.slice none 0 0] 30 (0,0)) (by (with_reducible repeat (first | refine zz6 ?_ _ | refine zz7 ?_ | refine zz8 ?_ _));refine blk_put (cs:=#[.int .i64 t132,.slice none 0 0]) ?_ 1 _ rfl;(with_reducible repeat (first | refine zz6 ?_ _ | refine zz7 ?_ | refine zz8 ?_ _));refine blk_put (cs:=#[.int .i64 0,.slice none 0 0]) ?_ 0 _ rfl;(with_reducible repeat (first | refine zz6 ?_ _ | refine zz7 ?_ | refine zz8 ?_ _));exact BK133.out) hb);have n3_:=zz31 (zz4 (by repeat first | exact HB.out | apply zz2 | apply zz0 | apply zz1 | refine zz3 ?_ GE127.out | refine zz3 ?_ GE133.out) hb);clear HO_4;clear BK127;clear BK133;clear HB;have HO_4:=n0_;have BK127:=n1_;have BK133:=n2_;have HB:=n3_;clear n0_ n1_ n2_ n3_;(try clear hb);(try clear hb2);(try clear hk);(try clear hi);have hcz28_0:w27.cell? ⟨gb127,0,none⟩=some (.int .i64 0):=(zz9 BK127.out 0).trans rfl;have hcz28_1:w27.cell? ⟨gb127,1,none⟩=some (.slice none 0 0):=(zz9 BK127.out 1).trans rfl;have hfz28_0:=zz10 BK127.out 0;have hfz28_1:=zz10 BK127.out 1))
        refine bodyPost_ret (results_ct rfl _ _ gb127 30 #[.int .i64 0,.slice none 0 0] (0,0) _ rfl (by (with_reducible repeat (first | refine zz6 ?_ _ | refine zz7 ?_ | refine zz8 ?_ _));refine blk_put (cs:=#[.int .i64 0,.slice none 0 0]) ?_ 1 _ rfl;(with_reducible repeat (first | refine zz6 ?_ _ | refine zz7 ?_ | refine zz8 ?_ _));refine blk_put (cs:=#[.int .i64 0,.slice none 0 0]) ?_ 0 _ rfl;(with_reducible repeat (first | refine zz6 ?_ _ | refine zz7 ?_ | refine zz8 ?_ _));exact BK127.out) Tryd.underlying30 rfl (by kernel_rfl)) rfl ?_
        exact ⟨_,by first | rfl | (simp [errW_none,errW_some] <;> rfl) | (simp [*,errW_none,errW_some] <;> rfl),by first | exact Kd.R_nil _ _ _ _ _ | exact Kd.N_nil _ _ _ _ _ | exact Kd.V_nil _ _ _ _ _ | exact Kd.Q_nil _ _ _ _ _ | exact Kd.S_nil _ _ _ _ _,by repeat first | exact HB.out | apply zz2 | apply zz0 | apply zz1 | refine zz3 ?_ GE127.out | refine zz3 ?_ GE133.out⟩
      ·rw [if_neg c13] at H
       have c13b0:((rdOf ByteArray.empty t128 1).toList == ([]:List UInt8))=false:=beq_eq_false_iff_ne.mpr c13
       have c13b1:((rdOf ByteArray.empty t128 1).toList != ([]:List UInt8))=true:=bne_iff_ne.mpr c13
       replace H:=zz30.mp H
       obtain ⟨t137,A290,H⟩:=H
       replace H:(spec_paParse.l0 kj2 t137 (t137.length:Int) 0 t132 ([]:List (S50)))=some (r1,r2,r3):=H
       have A29:=zz31 A290
       clear A290
       have H':=zz31 H
       clear H
       obtain ⟨Ao30,co30,eo30⟩:=Kd.R_slice HO_4.out
       subst eo30
       have p131:0≤(0:Int):=(by omega)
       have q131:0 < (t128.length:Int):=zz29 (by first | (with_reducible assumption) | assumption)
       obtain ⟨ad131,e131,hx131_0⟩:=Kd.at_string (Kd.R_reads' HO_4.out).2.2 0 p131 q131
       cases e131
       have qi131:(0 < t128.length)=True:=eq_true (by omega)
       (try rw [show ((0:Int)).toNat=0 from rfl] at hx131_0)
       (try rw [Addr.add_zero'] at hx131_0)
       replace p131:=eq_true p131
       replace q131:=eq_true q131
       go_wp2_with (first | ((with_reducible refine gate_callee (f:=37) rfl ?_);refine goesL_ (some 23) rfl rfl Tryd.func37 (by kernel_rfl) rfl #[.string (rdOf ByteArray.empty t128 0)] rfl (by (try simp only [zz26,zz27,zz28]);first | done | rfl | (simp only [zz24,zz25];rfl)) ?_;(with_reducible refine (spec_l1Read.calls kj2 (rdOf ByteArray.empty t128 0) t132 _ A11.out).mono ?_);rintro e w' ⟨rfl,⟨nd,rfl⟩⟩;refine ⟨_,rfl,?_⟩;(try (rw [drewN_self wc];generalize hq_:World.drewN wc _=wc;have n0_:Aside0 (Kd.R Kd.string 9 wc w.heap.size (fun _=>True) (.slice (some ad131) t128.length co30) t128):=⟨by rw [← hq_];exact (by (with_reducible repeat (first | apply zz12 | apply zz13 | apply zz14));exact HO_4.out)⟩;have n1_:Aside0 (wc.heap[gb127]?=some (.cells #[.int .i64 0,.slice none 0 0] 30 (0,0))):=⟨by rw [← hq_];exact (by (with_reducible repeat (first | refine zz6 ?_ _ | refine zz7 ?_ | refine zz8 ?_ _));exact BK127.out)⟩;have n2_:Aside0 (Below w.heap.size w wc):=⟨by rw [← hq_];exact (by repeat first | exact HB.out | apply zz2 | apply zz0 | apply zz1 | refine zz3 ?_ GE127.out)⟩;clear HO_4 BK127 HB hq_;have HO_4:=n0_;have BK127:=n1_;have HB:=n2_;clear n0_ n1_ n2_))) | ((with_reducible refine gate_dst (N:=5) rfl ?_);(try (refine gate_guard (by rfl) ?_;dsimp only));refine box_event ?hg (N:=5) ?hd (cs:=#[.int .i64 0,.slice none 0 0]) (t:=30) ?hr ?_;(case hd=>rfl);(case hg=>rfl);(case hr=>first | (go_simp;done) | (go_simp;rfl));intro gb133 hg w31 hbox hb;have n0_:=zz31 (Kd.R_below (by (with_reducible repeat (first | apply zz12 | apply zz13 | apply zz14));exact HO_4.out) hb);have n1_:=zz31 (zz11 (g:=gb127) (o:=.cells #[.int .i64 0,.slice none 0 0] 30 (0,0)) (by (with_reducible repeat (first | refine zz6 ?_ _ | refine zz7 ?_ | refine zz8 ?_ _));exact BK127.out) hb);have n2_:=zz31 (zz4 (by repeat first | exact HB.out | apply zz2 | apply zz0 | apply zz1 | refine zz3 ?_ GE127.out) hb);have n3_:=zz31 (hbox);have n4_:=zz31 ((by rw [hg];exact (zz5 (by repeat first | exact HB.out | apply zz2 | apply zz0 | apply zz1 | refine zz3 ?_ GE127.out)):w.heap.size≤gb133));have n5_:=zz31 ((by rw [hg];exact (zz5 (by repeat first | exact HB.out | apply zz2 | apply zz0 | apply zz1 | refine zz3 ?_ GE127.out)):w.heap.size≤gb133));have n6_:=zz31 ((by rw [hg];exact Nat.ne_of_lt (blk_lt (g:=gb127) (o:=.cells #[.int .i64 0,.slice none 0 0] 30 (0,0)) (by (with_reducible repeat (first | refine zz6 ?_ _ | refine zz7 ?_ | refine zz8 ?_ _));exact BK127.out)):gb127 ≠ gb133));have n7_:=zz31 ((by rw [hg];exact Nat.ne_of_gt (blk_lt (g:=gb127) (o:=.cells #[.int .i64 0,.slice none 0 0] 30 (0,0)) (by (with_reducible repeat (first | refine zz6 ?_ _ | refine zz7 ?_ | refine zz8 ?_ _));exact BK127.out)):gb133 ≠ gb127));clear HO_4;clear BK127;clear HB;have HO_4:=n0_;have BK127:=n1_;have HB:=n2_;have BK133:=n3_;have GW133:=n4_;have GE133:=n5_;have NB127_133:=n6_;have NB133_127:=n7_;clear n0_ n1_ n2_ n3_ n4_ n5_ n6_ n7_;clear hb hbox hg;have hnb32:=NB133_127.out;have hnc32:=NB127_133.out;have hcz33_0:w31.cell? ⟨gb133,0,none⟩=some (.int .i64 0):=(zz9 BK133.out 0).trans rfl;have hcz33_1:w31.cell? ⟨gb133,1,none⟩=some (.slice none 0 0):=(zz9 BK133.out 1).trans rfl;have hfz33_0:=zz10 BK133.out 0;have hfz33_1:=zz10 BK133.out 1;have p134:0≤(1:Int):=(by omega);have q134:1 < (t128.length:Int):=zz29 (by first | (with_reducible assumption) | assumption);obtain ⟨ad134,e134,hx134_0⟩:=Kd.at_string (Kd.R_reads' HO_4.out).2.2 1 p134 q134;obtain rfl:ad131=ad134:=(by injection e134);(try simp only [show (1:Int).toNat=1 from rfl,Nat.reduceMul,Nat.reduceEqDiff,Go.Addr.add,↓reduceIte] at hx134_0);have qi134:(1 < t128.length)=True:=eq_true (by omega);(try rw [show ((1:Int)).toNat=1 from rfl] at hx134_0);have hn134_0:ad131.block ≠ gb133:=Kd.own_blk (Kd.R_ne HO_4.out BK133.out (by decide));have hn134_1:ad131.block ≠ gb133:=Kd.own_blk (Kd.R_ne HO_4.out BK133.out (by decide));replace hx134_0:=(cell_far (p:=⟨gb133,0,none⟩) (by first | (rw [add_block];exact hn134_0) | (show (Addr.add _ _).block ≠ _;rw [add_block];exact hn134_0) | exact hn134_0) (.int .i64 t132)).trans hx134_0;replace hx134_0:=(cell_far (p:=⟨gb133,1,none⟩) (by first | (rw [add_block];exact hn134_1) | (show (Addr.add _ _).block ≠ _;rw [add_block];exact hn134_1) | exact hn134_1) (.slice none 0 0)).trans hx134_0;clear hn134_0;clear hn134_1;replace p134:=eq_true p134;replace q134:=eq_true q134;have p136:0≤(1:Int):=(by omega);have q136:1 < (t128.length:Int):=zz29 (by first | (with_reducible assumption) | assumption);obtain ⟨ad136,e136,hx136_0⟩:=Kd.at_string (Kd.R_reads' HO_4.out).2.2 1 p136 q136;obtain rfl:ad131=ad136:=(by injection e136);(try simp only [show (1:Int).toNat=1 from rfl,Nat.reduceMul,Nat.reduceEqDiff,Go.Addr.add,↓reduceIte] at hx136_0);have qi136:(1 < t128.length)=True:=eq_true (by omega);(try rw [show ((1:Int)).toNat=1 from rfl] at hx136_0);have hn136_0:ad131.block ≠ gb133:=Kd.own_blk (Kd.R_ne HO_4.out BK133.out (by decide));have hn136_1:ad131.block ≠ gb133:=Kd.own_blk (Kd.R_ne HO_4.out BK133.out (by decide));replace hx136_0:=(cell_far (p:=⟨gb133,0,none⟩) (by first | (rw [add_block];exact hn136_0) | (show (Addr.add _ _).block ≠ _;rw [add_block];exact hn136_0) | exact hn136_0) (.int .i64 t132)).trans hx136_0;replace hx136_0:=(cell_far (p:=⟨gb133,1,none⟩) (by first | (rw [add_block];exact hn136_1) | (show (Addr.add _ _).block ≠ _;rw [add_block];exact hn136_1) | exact hn136_1) (.slice none 0 0)).trans hx136_0;clear hn136_0;clear hn136_1;replace p136:=eq_true p136;replace q136:=eq_true q136) | ((with_reducible refine gate_callee (f:=36) rfl ?_);refine goesL_ (some 32) rfl rfl Tryd.func36 (by kernel_rfl) rfl #[.string (rdOf ByteArray.empty t128 1),.int .u8 44] rfl (by (try simp only [zz26,zz27,zz28]);first | done | rfl | (simp only [zz24,zz25];rfl)) ?_;(with_reducible refine (spec_l1Split.calls kj2 (rdOf ByteArray.empty t128 1) 44 t137 _ A29.out).mono ?_);rintro e w34 ⟨v138,rfl,ho0,hb⟩;refine ⟨_,rfl,?_⟩;have n0_:=zz31 (Kd.R_elder' (by (with_reducible repeat (first | apply zz12 | apply zz13 | apply zz14));exact (Kd.R_mono (Kd.R_far (p:=⟨gb133,1,none⟩) (Kd.R_far (p:=⟨gb133,0,none⟩) (Kd.R_types HO_4.out BK133.out (by decide)) (fun _ hk=>hk.2) (.int .i64 t132)) (fun _ hk=>hk.2) (.slice none 0 0)) (fun _ h_=>h_.1))) (Kd.R_base ho0) hb);have n1_:=zz31 (Kd.R_lower (Kd.R_new' ho0 (Kd.R_lt (by (with_reducible repeat (first | apply zz12 | apply zz13 | apply zz14));exact (Kd.R_mono (Kd.R_far (p:=⟨gb133,1,none⟩) (Kd.R_far (p:=⟨gb133,0,none⟩) (Kd.R_types HO_4.out BK133.out (by decide)) (fun _ hk=>hk.2) (.int .i64 t132)) (fun _ hk=>hk.2) (.slice none 0 0)) (fun _ h_=>h_.1))))) (zz5 (by repeat first | exact HB.out | apply zz2 | apply zz0 | apply zz1 | refine zz3 ?_ GE127.out | refine zz3 ?_ GE133.out)));have n2_:=zz31 (zz11 (g:=gb127) (o:=.cells #[.int .i64 0,.slice none 0 0] 30 (0,0)) (by (with_reducible repeat (first | refine zz6 ?_ _ | refine zz7 ?_ | refine zz8 ?_ _));refine blk_far ?_ NB127_133.out _;(with_reducible repeat (first | refine zz6 ?_ _ | refine zz7 ?_ | refine zz8 ?_ _));refine blk_far ?_ NB127_133.out _;(with_reducible repeat (first | refine zz6 ?_ _ | refine zz7 ?_ | refine zz8 ?_ _));exact BK127.out) hb);have n3_:=zz31 (zz11 (g:=gb133) (o:=.cells #[.int .i64 t132,.slice none 0 0] 30 (0,0)) (by (with_reducible repeat (first | refine zz6 ?_ _ | refine zz7 ?_ | refine zz8 ?_ _));refine blk_put (cs:=#[.int .i64 t132,.slice none 0 0]) ?_ 1 _ rfl;(with_reducible repeat (first | refine zz6 ?_ _ | refine zz7 ?_ | refine zz8 ?_ _));refine blk_put (cs:=#[.int .i64 0,.slice none 0 0]) ?_ 0 _ rfl;(with_reducible repeat (first | refine zz6 ?_ _ | refine zz7 ?_ | refine zz8 ?_ _));exact BK133.out) hb);have n4_:=zz31 (zz4 (by repeat first | exact HB.out | apply zz2 | apply zz0 | apply zz1 | refine zz3 ?_ GE127.out | refine zz3 ?_ GE133.out) hb);clear HO_4;clear BK127;clear BK133;clear HB;have HO_4:=n0_;have HO139:=n1_;have BK127:=n2_;have BK133:=n3_;have HB:=n4_;clear n0_ n1_ n2_ n3_ n4_;(try clear hb);(try clear hb2);(try clear hk);(try clear hi);(try clear ho0);obtain ⟨Ao35,co35,eo35⟩:=Kd.R_slice HO139.out;subst eo35))
       go_loopg [34] kj2 (fun kq v34 w'=>∃ (x34_2:Int) (x128000_2:Int) (x134001_2:List (S50)) (u134001:Value),v34=.int .i64 x34_2∧Aside0 (spec_paParse.l0 kq t137 (t137.length:Int) x34_2 t132 x134001_2=some (r1,r2,r3))∧Aside0 (kq≤kj2)∧Aside0 (Kd.R Kd.string 9 w' w.heap.size (fun _=>True) (.slice Ao35 t137.length co35) t137)∧Aside0 (Kd.R k50 50 w' w.heap.size (fun _=>True) u134001 x134001_2)∧Aside0 (w'.heap[gb127]?=some (.cells #[.int .i64 x128000_2,(.slice none 0 0)] 30 (0,0)))∧Aside0 (w'.heap[gb133]?=some (.cells #[.int .i64 t132,u134001] 30 (0,0)))∧Aside0 (Below w.heap.size w w'))
       case atStart=>exact ⟨(0),(0),(([]:List (S50))),(.slice none 0 0),(by first | rfl | (simp;done) | (simp [*];done)),H',⟨Nat.le_refl _⟩,⟨by (with_reducible repeat (first | apply zz12 | apply zz13 | apply zz14));exact Kd.R_mono HO139.out (fun _ hk=>trivial)⟩,⟨by first | exact Kd.R_nil _ _ _ _ _ | exact Kd.N_nil _ _ _ _ _ | exact Kd.V_nil _ _ _ _ _ | exact Kd.Q_nil _ _ _ _ _ | exact Kd.S_nil _ _ _ _ _⟩,⟨by (with_reducible repeat (first | refine zz6 ?_ _ | refine zz7 ?_ | refine zz8 ?_ _));exact BK127.out⟩,⟨by (with_reducible repeat (first | refine zz6 ?_ _ | refine zz7 ?_ | refine zz8 ?_ _));exact BK133.out⟩,⟨by repeat first | exact HB.out | apply zz2 | apply zz0 | apply zz1 | refine zz3 ?_ GE127.out | refine zz3 ?_ GE133.out⟩⟩
       case round =>
        clear H'
        try clear c1
        try clear p1
        try clear q1
        try clear hx1
        try clear qi1
        try clear c2
        try clear p2
        try clear c3
        try clear c6
        try clear c6b0
        try clear c6b1
        try clear c8
        try clear c10
        try clear c10b0
        try clear c10b1
        try clear c12
        try clear c12b0
        try clear c12b1
        try clear c13
        try clear c13b0
        try clear c13b1
        try clear p13
        try clear q13
        try clear hx13
        try clear qi13
        try clear c15
        try clear c18
        try clear c21
        try clear c25
        try clear c32
        try clear hcz19_0
        try clear hcz19_1
        try clear hcz21_0
        try clear hcz21_1
        try clear hcz22_0
        try clear hcz22_1
        try clear hcz26_0
        try clear hcz26_1
        try clear hcz28_0
        try clear hcz28_1
        try clear hcz33_0
        try clear hcz33_1
        try clear hcz9_0
        try clear hcz9_1
        try clear hfz19_0
        try clear hfz19_1
        try clear hfz21_0
        try clear hfz21_1
        try clear hfz22_0
        try clear hfz22_1
        try clear hfz26_0
        try clear hfz26_1
        try clear hfz28_0
        try clear hfz28_1
        try clear hfz33_0
        try clear hfz33_1
        try clear hfz9_0
        try clear hfz9_1
        try clear hx131_0
        try clear hx134_0
        try clear hx136_0
        try clear p131
        try clear p134
        try clear p136
        try clear p2
        try clear q131
        try clear q134
        try clear q136
        obtain ⟨x34_2,x128000_2,x134001_2,u134001,rfl,HA,HK2,HO_32,HO_134001,BK127,BK133,HB⟩:=hrel
        cases gk with
        | zero=>exact absurd HA.out (by simp [spec_paParse.l0])
        | succ k2 =>
         have H:=HA.out
         clear HA
         simp only [spec_paParse.l0] at H
         by_cases c36:x34_2 < (t137.length:Int)
         ·rw [if_pos c36] at H
          have c36b0:decide (x34_2 < (t137.length:Int))=true:=decide_eq_true c36
          clear c36
          by_cases c37:0≤x34_2
          ·rw [if_pos c37] at H
           have c37b0:decide (0≤x34_2)=true:=decide_eq_true c37
           clear c37
           by_cases c38:x34_2 < (t137.length:Int)
           ·rw [if_pos c38] at H
            have c38b0:decide (x34_2 < (t137.length:Int))=true:=decide_eq_true c38
            clear c38
            replace H:=zz30.mp H
            obtain ⟨t142,A390,H⟩:=H
            replace H:(if (t142.length:Int)=2 then (if 0 < (t142.length:Int) then ((spec_l1Read.f k2 (rdOf ByteArray.empty t142 0)).bind fun t146=>(if 1 < (t142.length:Int) then ((spec_l1Read.f k2 (rdOf ByteArray.empty t142 1)).bind fun t148=>(if x134001_2.length < 8796093022208 then (spec_paParse.l0 k2 t137 (t137.length:Int) (wrap64 (x34_2+1)) t132 (x134001_2 ++ [(⟨t146,t148⟩:S50)])) else (none))) else (none))) else (none)) else (some (0,([]:List (S50)),false)))=some (r1,r2,r3):=H
            have A39:=zz31 A390
            clear A390
            by_cases c40:(t142.length:Int)=2
            ·rw [if_pos c40] at H
             have c40b0:((t142.length:Int) == 2)=true:=beq_iff_eq.mpr c40
             have c40b1:((t142.length:Int) != 2)=false:=bne_eq_false_iff_eq.mpr c40
             clear c40
             by_cases c41:0 < (t142.length:Int)
             ·rw [if_pos c41] at H
              have c41b0:decide (0 < (t142.length:Int))=true:=decide_eq_true c41
              have c41n0:decide (0 < t142.length)=true:=by have:=c41b0;simpa using this
              have c41p0:0 < t142.length:=zz29 c41n0
              have c41q0:(0 < t142.length)=True:=eq_true c41p0
              have c41b1:decide (0 < t142.length)=true:=decide_eq_true (by omega)
              clear c41
              replace H:=zz30.mp H
              obtain ⟨t146,A420,H⟩:=H
              replace H:(if 1 < (t142.length:Int) then ((spec_l1Read.f k2 (rdOf ByteArray.empty t142 1)).bind fun t148=>(if x134001_2.length < 8796093022208 then (spec_paParse.l0 k2 t137 (t137.length:Int) (wrap64 (x34_2+1)) t132 (x134001_2 ++ [(⟨t146,t148⟩:S50)])) else (none))) else (none))=some (r1,r2,r3):=H
              have A42:=zz31 A420
              clear A420
              by_cases c43:1 < (t142.length:Int)
              ·rw [if_pos c43] at H
               have c43b0:decide (1 < (t142.length:Int))=true:=decide_eq_true c43
               have c43b1:decide (1 < t142.length)=true:=decide_eq_true (by omega)
               clear c43
               replace H:=zz30.mp H
               obtain ⟨t148,A440,H⟩:=H
               replace H:(if x134001_2.length < 8796093022208 then (spec_paParse.l0 k2 t137 (t137.length:Int) (wrap64 (x34_2+1)) t132 (x134001_2 ++ [(⟨t146,t148⟩:S50)])) else (none))=some (r1,r2,r3):=H
               have A44:=zz31 A440
               clear A440
               by_cases c45:x134001_2.length < 8796093022208
               ·rw [if_pos c45] at H
                have LMc45:=zz31 c45
                clear c45
                obtain ⟨y149,hy149⟩:∃ y_:List (S50),y_=(x134001_2 ++ [(⟨t146,t148⟩:S50)]):=⟨_,rfl⟩
                replace H:(spec_paParse.l0 k2 t137 (t137.length:Int) (wrap64 (x34_2+1)) t132 y149)=some (r1,r2,r3):=by first | (rw [hy149];with_reducible exact H) | (have H2_:=(Option.bind_some _ _).symm.trans H;rw [hy149];with_reducible exact H2_) | (have H2_:=(Option.bind_some _ _).symm.trans H;with_reducible exact H2_) | with_reducible exact H | (rw [hy149];exact H) | exact H
                have Ny149:=zz31 hy149
                clear hy149
                have H':=zz31 H
                clear H
                have p141:0≤(x34_2:Int):=zz29 (by first | (with_reducible assumption) | assumption)
                have q141:x34_2 < (t137.length:Int):=zz29 (by first | (with_reducible assumption) | assumption)
                obtain ⟨ad141,e141,hx141_0⟩:=Kd.at_string (Kd.R_reads' HO_32.out).2.2 x34_2 p141 q141
                cases e141
                replace p141:=eq_true p141
                replace q141:=eq_true q141
                try go_wp2_with (first | ((with_reducible refine gate_callee (f:=36) rfl ?_);refine goesL_ (some 39) rfl rfl Tryd.func36 (by kernel_rfl) rfl #[.string (rdOf ByteArray.empty t137 x34_2),.int .u8 45] rfl (by (try simp only [zz26,zz27,zz28]);first | done | rfl | (simp only [zz24,zz25];rfl)) ?_;(with_reducible refine (spec_l1Split.calls k2 (rdOf ByteArray.empty t137 x34_2) 45 t142 _ A39.out).mono ?_);rintro e w46 ⟨v143,rfl,ho0,hb⟩;refine ⟨_,rfl,?_⟩;have n0_:=zz31 (Kd.R_elder' (by (with_reducible repeat (first | apply zz12 | apply zz13 | apply zz14));exact HO_32.out) (Kd.R_base ho0) hb);have n1_:=zz31 (Kd.R_below (by (with_reducible repeat (first | apply zz12 | apply zz13 | apply zz14));exact HO_134001.out) hb);have n2_:=zz31 (Kd.R_lower (Kd.R_new' ho0 (Kd.R_lt (by (with_reducible repeat (first | apply zz12 | apply zz13 | apply zz14));exact HO_32.out))) (zz5 (by repeat first | exact HB.out | apply zz2 | apply zz0 | apply zz1 | refine zz3 ?_ GE127.out | refine zz3 ?_ GE133.out)));have n3_:=zz31 (zz11 (g:=gb127) (o:=.cells #[.int .i64 x128000_2,.slice none 0 0] 30 (0,0)) (by (with_reducible repeat (first | refine zz6 ?_ _ | refine zz7 ?_ | refine zz8 ?_ _));exact BK127.out) hb);have n4_:=zz31 (zz11 (g:=gb133) (o:=.cells #[.int .i64 t132,u134001] 30 (0,0)) (by (with_reducible repeat (first | refine zz6 ?_ _ | refine zz7 ?_ | refine zz8 ?_ _));exact BK133.out) hb);have n5_:=zz31 (zz4 (by repeat first | exact HB.out | apply zz2 | apply zz0 | apply zz1 | refine zz3 ?_ GE127.out | refine zz3 ?_ GE133.out) hb);clear HO_32;clear HO_134001;clear BK127;clear BK133;clear HB;have HO_32:=n0_;have HO_134001:=n1_;have HO144:=n2_;have BK127:=n3_;have BK133:=n4_;have HB:=n5_;clear n0_ n1_ n2_ n3_ n4_ n5_;(try clear hb);(try clear hb2);(try clear hk);(try clear hi);(try clear ho0);obtain ⟨Ao47,co47,eo47⟩:=Kd.R_slice HO144.out;subst eo47))
                have n0_:=zz31 (zz14 HO_32.out)
                have n1_:=zz31 (zz14 HO_134001.out)
                have n2_:=zz31 (zz14 HO144.out)
                have n3_:=zz31 (zz7 BK127.out)
                have n4_:=zz31 (zz7 BK133.out)
                have n5_:=zz31 (zz1 HB.out)
                clear HO_32
                clear HO_134001
                clear HO144
                clear BK127
                clear BK133
                clear HB
                have HO_32:=n0_
                have HO_134001:=n1_
                have HO144:=n2_
                have BK127:=n3_
                have BK133:=n4_
                have HB:=n5_
                clear n0_ n1_ n2_ n3_ n4_ n5_
                have p145:0≤(0:Int):=(by omega)
                have q145:0 < (t142.length:Int):=zz29 (by first | (with_reducible assumption) | assumption)
                obtain ⟨ad145,e145,hx145_0⟩:=Kd.at_string (Kd.R_reads' HO144.out).2.2 0 p145 q145
                cases e145
                have qi145:(0 < t142.length)=True:=eq_true (by omega)
                (try rw [show ((0:Int)).toNat=0 from rfl] at hx145_0)
                (try rw [Addr.add_zero'] at hx145_0)
                replace p145:=eq_true p145
                replace q145:=eq_true q145
                have p147:0≤(1:Int):=(by omega)
                have q147:1 < (t142.length:Int):=zz29 (by first | (with_reducible assumption) | assumption)
                obtain ⟨ad147,e147,hx147_0⟩:=Kd.at_string (Kd.R_reads' HO144.out).2.2 1 p147 q147
                obtain rfl:ad145=ad147:=(by injection e147)
                (try simp only [show (1:Int).toNat=1 from rfl,Nat.reduceMul,Nat.reduceEqDiff,Go.Addr.add,↓reduceIte] at hx147_0)
                have qi147:(1 < t142.length)=True:=eq_true (by omega)
                (try rw [show ((1:Int)).toNat=1 from rfl] at hx147_0)
                replace p147:=eq_true p147
                replace q147:=eq_true q147
                refine start_ (n:=15) (S:=fun w'=>w'.cell? ⟨gb133,0,none⟩=some (.int .i64 t132)∧w'.cell? ⟨gb133,1,none⟩=some (u134001)∧w'.cell? ad145=some (.string (rdOf ByteArray.empty t142 0))∧w'.cell? ⟨ad145.block,ad145.off+1,none⟩=some (.string (rdOf ByteArray.empty t142 1))) (ds:=[12,14]) #[F,F,F,F,F,F,F,F,F,F,F,F,F,F,F] (by kernel_rfl) rfl rfl ⟨(zz9 BK133.out 0).trans rfl,(zz9 BK133.out 1).trans rfl,hx145_0,hx147_0⟩ (fun hHeld=>?_);refine with_tabW spec_paParse.tab12 spec_paParse.bits12 (fun HT_ HW_=>?_)
                generalize w46.drew=w48 at HO_32 HO_134001 HO144 BK127 BK133 HB hx145_0 hx147_0 hHeld ⊢
                refine pure_ (i:=0) (N:=some 44) (v:=?_) (a':=?_) #[T,F,F,F,F,F,F,F,F,F,F,F,F,F,F] rfl rfl (any_of HT_.out (by kernel_rfl)) (fun _ _ _ h=>h) (Or.inl ⟨by rfl,?_⟩) ?_ ?_
                rotate_left
                ·intro w'
                 go_simp
                 with_reducible rfl
                rotate_left
                ·simp only [Act.put,zz21,zz22,zz23,i64_w,i32_w]
                 rfl
                refine pure_ (i:=2) (N:=some 46) (v:=?_) (a':=?_) #[T,F,T,F,F,F,F,F,F,F,F,F,F,F,F] rfl rfl (any_of HT_.out (by kernel_rfl)) (fun _ _ _ h=>h) (Or.inl ⟨by rfl,?_⟩) ?_ ?_
                rotate_left
                ·intro w'
                 go_simp
                 with_reducible rfl
                rotate_left
                ·simp only [Act.put,zz21,zz22,zz23,i64_w,i32_w]
                 rfl
                refine pure_ (i:=3) (N:=some 47) (v:=?_) (a':=?_) #[T,F,T,T,F,F,F,F,F,F,F,F,F,F,F] rfl rfl (any_of HT_.out (by kernel_rfl)) (fun _ _ _ h=>h) (Or.inl ⟨by rfl,?_⟩) ?_ ?_
                rotate_left
                ·intro w'
                 go_simp
                 with_reducible rfl
                rotate_left
                ·simp only [Act.put,zz21,zz22,zz23,i64_w,i32_w]
                 rfl
                refine pure_ (i:=6) (N:=some 50) (v:=?_) (a':=?_) #[T,F,T,T,F,F,T,F,F,F,F,F,F,F,F] rfl rfl (any_of HT_.out (by kernel_rfl)) (fun _ _ _ h=>h) (Or.inl ⟨by rfl,?_⟩) ?_ ?_
                rotate_left
                ·intro w'
                 go_simp
                 with_reducible rfl
                rotate_left
                ·simp only [Act.put,zz21,zz22,zz23,i64_w,i32_w]
                 rfl
                refine pure_ (i:=7) (N:=some 51) (v:=?_) (a':=?_) #[T,F,T,T,F,F,T,T,F,F,F,F,F,F,F] rfl rfl (any_of HT_.out (by kernel_rfl)) (fun _ _ _ h=>h) (Or.inl ⟨by rfl,?_⟩) ?_ ?_
                rotate_left
                ·intro w'
                 go_simp
                 with_reducible rfl
                rotate_left
                ·simp only [Act.put,zz21,zz22,zz23,i64_w,i32_w]
                 rfl
                refine take_ (i:=1) (N:=some 45) (v:=?_) (a':=?_) #[T,T,T,T,F,F,T,T,F,F,F,F,F,F,F] rfl rfl (take_ofW HT_.out HW_.out (by kernel_rfl)) (fun _ _ _ h=>h) (Or.inl ⟨by rfl,?_⟩) hHeld ?_ ?_
                rotate_left
                ·rintro w' ⟨s0,s1,s2,s3⟩
                 go_simp
                 with_reducible rfl
                rotate_left
                ·simp only [Act.put,zz21,zz22,zz23,i64_w,i32_w]
                 rfl
                refine take_ (i:=4) (N:=some 48) (v:=?_) (a':=?_) #[T,T,T,T,T,F,T,T,F,F,F,F,F,F,F] rfl rfl (take_ofW HT_.out HW_.out (by kernel_rfl)) (fun _ _ _ h=>h) (Or.inl ⟨by rfl,?_⟩) hHeld ?_ ?_
                rotate_left
                ·rintro w' ⟨s0,s1,s2,s3⟩
                 go_simp
                 with_reducible rfl
                rotate_left
                ·simp only [Act.put,zz21,zz22,zz23,i64_w,i32_w]
                 rfl
                refine take_ (i:=8) (N:=some 52) (v:=?_) (a':=?_) #[T,T,T,T,T,F,T,T,T,F,F,F,F,F,F] rfl rfl (take_ofW HT_.out HW_.out (by kernel_rfl)) (fun _ _ _ h=>h) (Or.inl ⟨by rfl,?_⟩) hHeld ?_ ?_
                rotate_left
                ·rintro w' ⟨s0,s1,s2,s3⟩
                 go_simp
                 with_reducible rfl
                rotate_left
                ·simp only [Act.put,zz21,zz22,zz23,i64_w,i32_w]
                 rfl
                refine one_ (i:=5) (N:=some 49) #[T,T,T,T,T,T,T,T,T,F,F,F,F,F,F] rfl rfl (one_of HT_.out (by kernel_rfl)) (by decide) (fun K hK=>?_)
                refine goes_ Tryd.func37 (by kernel_rfl) rfl #[.string (rdOf ByteArray.empty t142 0)] (by rfl) rfl rfl (by (try simp only [zz26,zz27,zz28]);first | done | rfl | (simp only [zz24,zz25];rfl)) ?_
                with_reducible refine (spec_l1Read.calls k2 (rdOf ByteArray.empty t142 0) t146 _ A42.out).mono ?_
                rintro e w' ⟨rfl,⟨nd,rfl⟩⟩
                refine ⟨_,rfl,?_⟩
                refine hK.out _ _ ⟨(zz9 BK133.out 0).trans rfl,(zz9 BK133.out 1).trans rfl,hHeld.2.2.1,hHeld.2.2.2⟩ (fun hHeld=>?_)
                clear hK K
                refine norm_ (a':=?_) ?_ ?_
                rotate_left
                ·show Act.put _ (some 49) _=_
                 simp only [Act.put,zz21,zz22,zz23,i64_w,i32_w]
                 rfl
                refine one_ (i:=9) (N:=some 53) #[T,T,T,T,T,T,T,T,T,T,F,F,F,F,F] rfl rfl (one_of HT_.out (by kernel_rfl)) (by decide) (fun K hK=>?_)
                refine goes_ Tryd.func37 (by kernel_rfl) rfl #[.string (rdOf ByteArray.empty t142 1)] (by rfl) rfl rfl (by (try simp only [zz26,zz27,zz28]);first | done | rfl | (simp only [zz24,zz25];rfl)) ?_
                with_reducible refine (spec_l1Read.calls k2 (rdOf ByteArray.empty t142 1) t148 _ A44.out).mono ?_
                rintro e w' ⟨rfl,⟨nd,rfl⟩⟩
                refine ⟨_,rfl,?_⟩
                refine hK.out _ _ ⟨(zz9 BK133.out 0).trans rfl,(zz9 BK133.out 1).trans rfl,hHeld.2.2.1,hHeld.2.2.2⟩ (fun hHeld=>?_)
                clear hK K
                refine norm_ (a':=?_) ?_ ?_
                rotate_left
                ·show Act.put _ (some 53) _=_
                 simp only [Act.put,zz21,zz22,zz23,i64_w,i32_w]
                 rfl
                refine pure_ (i:=10) (N:=some 54) (v:=?_) (a':=?_) #[T,T,T,T,T,T,T,T,T,T,T,F,F,F,F] rfl rfl (any_of HT_.out (by kernel_rfl)) (fun _ _ _ h=>h) (Or.inl ⟨by rfl,?_⟩) ?_ ?_
                rotate_left
                ·intro w'
                 go_simp
                 with_reducible rfl
                rotate_left
                ·simp only [Act.put,zz21,zz22,zz23,i64_w,i32_w]
                 rfl
                refine one_ (i:=11) (N:=some 55) #[T,T,T,T,T,T,T,T,T,T,T,T,F,F,F] rfl rfl (one_of HT_.out (by kernel_rfl)) (by decide) (fun K hK=>?_)
                refine value_ (w1:=?_) (v:=?_) (by rfl) rfl ?_ ?_
                rotate_left 2
                ·go_simp
                 constructor
                 ·rfl
                 ·rfl
                refine hK.out _ _ ⟨(zz9 (zz8 BK133.out _) 0).trans rfl,(zz9 (zz8 BK133.out _) 1).trans rfl,(World.cell?_alloc_lt _ _ _ (World.block_lt_of_cell? _ _ (hHeld.2.2.1))).trans (hHeld.2.2.1),(World.cell?_alloc_lt _ _ _ (World.block_lt_of_cell? _ _ (hHeld.2.2.2))).trans (hHeld.2.2.2)⟩ (fun hHeld=>?_)
                clear hK K
                refine norm_ (a':=?_) ?_ ?_
                rotate_left
                ·show Act.put _ (some 55) _=_
                 simp only [Act.put,zz21,zz22,zz23,i64_w,i32_w]
                 rfl
                refine last_ (i:=12) (N:=some 56) #[T,T,T,T,T,T,T,T,T,T,T,T,T,F,F] rfl rfl (one_of HT_.out (by kernel_rfl)) (by decide) (fun K hK=>?_)
                refine Kd.R_append_step k50 (w0:=w) w.heap.size (by rfl) (.tmp 45) (.tmp 55) 28 50 (.agg #[(.int .i64 0),(.int .i64 0)]) 16 rfl Tryd.underlying28 info50 rfl (by decide) (by omega) u134001 x134001_2 (⟨t146,t148⟩:S50) [.int .i64 t146,.int .i64 t148] (fun _=>True) (fun _=>False) rfl rfl ?aP (fun _ hk=>hk.elim) ?aF ?aO ?aB ?aS ?aL ?_
                (case aP=>exact k50_mkM _ _ _ (⟨t146,t148⟩:S50))
                (case aB=>exact (by repeat first | exact HB.out | apply zz2 | apply zz0 | apply zz1 | refine zz3 ?_ GE127.out | refine zz3 ?_ GE133.out))
                (case aF=>exact (fun _ _=>trivial))
                (case aO=>exact (by (with_reducible repeat (first | apply zz12 | apply zz13 | apply zz14));exact HO_134001.out))
                (case aS=>exact (zz5 (by repeat first | exact HB.out | apply zz2 | apply zz0 | apply zz1 | refine zz3 ?_ GE127.out | refine zz3 ?_ GE133.out)))
                (case aL=>have:=LMc45.out;omega)
                intro v150 w49 ho hb hg hat
                rw [← Ny149.out] at ho
                have n0_:=zz31 (Kd.R_over' (by (with_reducible repeat (first | apply zz12 | apply zz13 | apply zz14));exact HO_32.out) (Kd.R_typed (by (with_reducible repeat (first | apply zz12 | apply zz13 | apply zz14));exact HO_134001.out)) (by decide) hg)
                have n1_:=zz31 (blk_grown (g:=gb127) (o:=.cells #[.int .i64 x128000_2,.slice none 0 0] 30 (0,0)) (by (with_reducible repeat (first | refine zz6 ?_ _ | refine zz7 ?_ | refine zz8 ?_ _));exact BK127.out) hg (Kd.R_ne HO_134001.out BK127.out (by decide)))
                have n2_:=zz31 (blk_grown (g:=gb133) (o:=.cells #[.int .i64 t132,u134001] 30 (0,0)) (by (with_reducible repeat (first | refine zz6 ?_ _ | refine zz7 ?_ | refine zz8 ?_ _));exact BK133.out) hg (Kd.R_ne HO_134001.out BK133.out (by decide)))
                have n3_:=zz31 (Kd.R_over' (by (with_reducible repeat (first | apply zz12 | apply zz13 | apply zz14));exact HO144.out) (Kd.R_typed (by (with_reducible repeat (first | apply zz12 | apply zz13 | apply zz14));exact HO_134001.out)) (by decide) hg)
                have n4_:=zz31 (hb)
                have n5_:=zz31 (ho)
                clear HO_32
                clear BK127
                clear BK133
                clear HO144
                clear HB
                clear HO_134001
                have HO_32:=n0_
                have BK127:=n1_
                have BK133:=n2_
                have HO144:=n3_
                have HB:=n4_
                have HO151:=n5_
                clear n0_ n1_ n2_ n3_ n4_ n5_
                clear ho hb hg hat
                obtain ⟨Ao50,co50,eo50⟩:=Kd.R_slice HO151.out
                (first | subst eo50 | (injection eo50 with f1_ f2_ f3_;have f4_:=f1_.symm;have f5_:=f3_.symm;clear f1_ f2_ f3_;subst f4_;subst f5_))
                refine hK.out _ _ ?_
                clear hK K
                refine norm_ (a':=?_) ?_ ?_
                rotate_left
                ·show Act.put _ (some 56) _=_
                 simp only [Act.put,zz21,zz22,zz23,i64_w,i32_w]
                 rfl
                refine pure_ (i:=13) (N:=some 57) (v:=?_) (a':=?_) #[T,T,T,T,T,T,T,T,T,T,T,T,T,T,F] rfl rfl (any_of HT_.out (by kernel_rfl)) (fun _ _ _ h=>h) (Or.inl ⟨by rfl,?_⟩) ?_ ?_
                rotate_left
                ·intro w'
                 go_simp
                 with_reducible rfl
                rotate_left
                ·simp only [Act.put,zz21,zz22,zz23,i64_w,i32_w]
                 rfl
                refine last_ (i:=14) (N:=none) #[T,T,T,T,T,T,T,T,T,T,T,T,T,T,T] rfl rfl (one_of HT_.out (by kernel_rfl)) (by decide) (fun K hK=>?_)
                have hs51:w49.cell? ⟨gb133,1,none⟩=some (u134001):=(zz9 BK133.out 1).trans rfl
                have hfs51:=zz10 BK133.out 1
                have hns51_0:=NB127_133.out
                have hms51_0:=NB133_127.out
                refine skip_ (w1:=?_) (by rfl) rfl ?_ ?_
                rotate_left
                ·go_simp
                 rfl
                refine hK.out _ _ ?_
                clear hK K
                refine done_ (done_of HT_.out (by kernel_rfl)) ?_
                try go_wp2
                go_roundg k2
                case measure=>have:=HJ2.out;have:=HK2.out;omega
                case rel=>exact ⟨(wrap64 (x34_2+1)),(x128000_2),(y149),(.slice Ao50 y149.length co50),(by first | rfl | (simp;done) | (simp [*];done)),H',⟨by have:=HJ2.out;have:=HK2.out;omega⟩,⟨by (with_reducible repeat (first | apply zz12 | apply zz13 | apply zz14));exact Kd.R_mono (Kd.R_far (p:=⟨gb133,1,none⟩) (Kd.R_types HO_32.out BK133.out (by decide)) (fun _ hk=>hk.2) (.slice Ao50 y149.length co50)) (fun _ hk=>trivial)⟩,⟨by (with_reducible repeat (first | apply zz12 | apply zz13 | apply zz14));exact Kd.R_mono (Kd.R_far (p:=⟨gb133,1,none⟩) (Kd.R_types HO151.out BK133.out (by decide)) (fun _ hk=>hk.2) (.slice Ao50 y149.length co50)) (fun _ hk=>trivial)⟩,⟨by (with_reducible repeat (first | refine zz6 ?_ _ | refine zz7 ?_ | refine zz8 ?_ _));refine blk_far ?_ NB127_133.out _;(with_reducible repeat (first | refine zz6 ?_ _ | refine zz7 ?_ | refine zz8 ?_ _));exact BK127.out⟩,⟨by (with_reducible repeat (first | refine zz6 ?_ _ | refine zz7 ?_ | refine zz8 ?_ _));refine blk_put (cs:=#[.int .i64 t132,u134001]) ?_ 1 _ rfl;(with_reducible repeat (first | refine zz6 ?_ _ | refine zz7 ?_ | refine zz8 ?_ _));exact BK133.out⟩,⟨by repeat first | exact HB.out | apply zz2 | apply zz0 | apply zz1 | refine zz3 ?_ GE127.out | refine zz3 ?_ GE133.out⟩⟩
               ·rw [if_neg c45] at H
                exact absurd H (by simp)
              ·rw [if_neg c43] at H
               exact absurd H (by simp)
             ·rw [if_neg c41] at H
              exact absurd H (by simp)
            ·rw [if_neg c40] at H
             have c40b0:((t142.length:Int) == 2)=false:=beq_eq_false_iff_ne.mpr c40
             have c40b1:((t142.length:Int) != 2)=true:=bne_iff_ne.mpr c40
             simp only [Option.some.injEq,Prod.mk.injEq] at H
             obtain ⟨rfl,rfl,rfl⟩:=H
             have p141:0≤(x34_2:Int):=zz29 (by first | (with_reducible assumption) | assumption)
             have q141:x34_2 < (t137.length:Int):=zz29 (by first | (with_reducible assumption) | assumption)
             obtain ⟨ad141,e141,hx141_0⟩:=Kd.at_string (Kd.R_reads' HO_32.out).2.2 x34_2 p141 q141
             cases e141
             replace p141:=eq_true p141
             replace q141:=eq_true q141
             go_wp2_with (first | ((with_reducible refine gate_callee (f:=36) rfl ?_);refine goesL_ (some 39) rfl rfl Tryd.func36 (by kernel_rfl) rfl #[.string (rdOf ByteArray.empty t137 x34_2),.int .u8 45] rfl (by (try simp only [zz26,zz27,zz28]);first | done | rfl | (simp only [zz24,zz25];rfl)) ?_;(with_reducible refine (spec_l1Split.calls k2 (rdOf ByteArray.empty t137 x34_2) 45 t142 _ A39.out).mono ?_);rintro e w52 ⟨v143,rfl,ho0,hb⟩;refine ⟨_,rfl,?_⟩;have n0_:=zz31 (Kd.R_elder' (by (with_reducible repeat (first | apply zz12 | apply zz13 | apply zz14));exact HO_32.out) (Kd.R_base ho0) hb);have n1_:=zz31 (Kd.R_below (by (with_reducible repeat (first | apply zz12 | apply zz13 | apply zz14));exact HO_134001.out) hb);have n2_:=zz31 (Kd.R_lower (Kd.R_new' ho0 (Kd.R_lt (by (with_reducible repeat (first | apply zz12 | apply zz13 | apply zz14));exact HO_32.out))) (zz5 (by repeat first | exact HB.out | apply zz2 | apply zz0 | apply zz1 | refine zz3 ?_ GE127.out | refine zz3 ?_ GE133.out)));have n3_:=zz31 (zz11 (g:=gb127) (o:=.cells #[.int .i64 x128000_2,.slice none 0 0] 30 (0,0)) (by (with_reducible repeat (first | refine zz6 ?_ _ | refine zz7 ?_ | refine zz8 ?_ _));exact BK127.out) hb);have n4_:=zz31 (zz11 (g:=gb133) (o:=.cells #[.int .i64 t132,u134001] 30 (0,0)) (by (with_reducible repeat (first | refine zz6 ?_ _ | refine zz7 ?_ | refine zz8 ?_ _));exact BK133.out) hb);have n5_:=zz31 (zz4 (by repeat first | exact HB.out | apply zz2 | apply zz0 | apply zz1 | refine zz3 ?_ GE127.out | refine zz3 ?_ GE133.out) hb);clear HO_32;clear HO_134001;clear BK127;clear BK133;clear HB;have HO_32:=n0_;have HO_134001:=n1_;have HO144:=n2_;have BK127:=n3_;have BK133:=n4_;have HB:=n5_;clear n0_ n1_ n2_ n3_ n4_ n5_;(try clear hb);(try clear hb2);(try clear hk);(try clear hi);(try clear ho0);obtain ⟨Ao53,co53,eo53⟩:=Kd.R_slice HO144.out;subst eo53;have hnb54:=NB127_133.out;have hnc54:=NB133_127.out;have hcz55_0:w52.cell? ⟨gb127,0,none⟩=some (.int .i64 x128000_2):=(zz9 BK127.out 0).trans rfl;have hcz55_1:w52.cell? ⟨gb127,1,none⟩=some (.slice none 0 0):=(zz9 BK127.out 1).trans rfl;have hfz55_0:=zz10 BK127.out 0;have hfz55_1:=zz10 BK127.out 1))
             refine bodyPost_ret (results_ct rfl _ _ gb127 30 #[.int .i64 0,.slice none 0 0] (0,0) _ rfl (by (with_reducible repeat (first | refine zz6 ?_ _ | refine zz7 ?_ | refine zz8 ?_ _));refine blk_put (cs:=#[.int .i64 0,.slice none 0 0]) ?_ 1 _ rfl;(with_reducible repeat (first | refine zz6 ?_ _ | refine zz7 ?_ | refine zz8 ?_ _));refine blk_put (cs:=#[.int .i64 x128000_2,.slice none 0 0]) ?_ 0 _ rfl;(with_reducible repeat (first | refine zz6 ?_ _ | refine zz7 ?_ | refine zz8 ?_ _));exact BK127.out) Tryd.underlying30 rfl (by kernel_rfl)) rfl ?_
             exact ⟨_,by first | rfl | (simp [errW_none,errW_some] <;> rfl) | (simp [*,errW_none,errW_some] <;> rfl),by first | exact Kd.R_nil _ _ _ _ _ | exact Kd.N_nil _ _ _ _ _ | exact Kd.V_nil _ _ _ _ _ | exact Kd.Q_nil _ _ _ _ _ | exact Kd.S_nil _ _ _ _ _,by repeat first | exact HB.out | apply zz2 | apply zz0 | apply zz1 | refine zz3 ?_ GE127.out | refine zz3 ?_ GE133.out⟩
           ·rw [if_neg c38] at H
            exact absurd H (by simp)
          ·rw [if_neg c37] at H
           exact absurd H (by simp)
         ·rw [if_neg c36] at H
          have c36b0:decide (x34_2 < (t137.length:Int))=false:=decide_eq_false c36
          clear c36
          replace H:=zz30.mp H
          obtain ⟨t140,A560,H⟩:=H
          replace H:(if t140=true then (some (t132,x134001_2,true)) else (some (0,([]:List (S50)),false)))=some (r1,r2,r3):=H
          have A56:=zz31 A560
          clear A560
          by_cases c57:t140=true
          ·subst c57
           have H1:(some (t132,x134001_2,true))=some (r1,r2,r3):=by rw [if_pos rfl] at H;exact H
           clear H
           have H:=H1
           clear H1
           simp only [Option.some.injEq,Prod.mk.injEq] at H
           obtain ⟨rfl,rfl,rfl⟩:=H
           have hnb58:=NB133_127.out
           have hnc58:=NB127_133.out
           have hcz59_0:wr.cell? ⟨gb133,0,none⟩=some (.int .i64 t132):=(zz9 BK133.out 0).trans rfl
           have hcz59_1:wr.cell? ⟨gb133,1,none⟩=some (u134001):=(zz9 BK133.out 1).trans rfl
           have hfz59_0:=zz10 BK133.out 0
           have hfz59_1:=zz10 BK133.out 1
           obtain ⟨Ao60,co60,eo60⟩:=Kd.R_slice HO_134001.out
           subst eo60
           go_wp2_with (first | ((with_reducible refine gate_callee (f:=15) rfl ?_);refine goesL_ (some 60) rfl rfl Tryd.func15 (by kernel_rfl) rfl #[.agg #[.int .i64 t132,.slice Ao60 x134001_2.length co60]] rfl (by (try simp only [zz26,zz27,zz28]);first | done | rfl | (simp only [zz24,zz25];rfl)) ?_;(with_reducible refine (spec_paGood.calls k2 t132 _ _ x134001_2 true _ ?side1 ?side2 A56.out).mono ?_);(case side1=>repeat (first | exact (Kd.R_reads' HO_134001.out).2.2 | (with_reducible refine zz18 ?_ _) | (with_reducible refine zz19 ?_ _) | (with_reducible refine zz20 ?_)));(case side2=>exact (Kd.R_reads' HO_134001.out).2.1);rintro e w61 ⟨rfl,hb⟩;refine ⟨_,rfl,?_⟩;have n0_:=zz31 (Kd.R_below (by (with_reducible repeat (first | apply zz12 | apply zz13 | apply zz14));exact HO_32.out) hb);have n1_:=zz31 (Kd.R_below (by (with_reducible repeat (first | apply zz12 | apply zz13 | apply zz14));exact HO_134001.out) hb);have n2_:=zz31 (zz11 (g:=gb127) (o:=.cells #[.int .i64 x128000_2,.slice none 0 0] 30 (0,0)) (by (with_reducible repeat (first | refine zz6 ?_ _ | refine zz7 ?_ | refine zz8 ?_ _));exact BK127.out) hb);have n3_:=zz31 (zz11 (g:=gb133) (o:=.cells #[.int .i64 t132,.slice Ao60 x134001_2.length co60] 30 (0,0)) (by (with_reducible repeat (first | refine zz6 ?_ _ | refine zz7 ?_ | refine zz8 ?_ _));exact BK133.out) hb);have n4_:=zz31 (zz4 (by repeat first | exact HB.out | apply zz2 | apply zz0 | apply zz1 | refine zz3 ?_ GE127.out | refine zz3 ?_ GE133.out) hb);clear HO_32;clear HO_134001;clear BK127;clear BK133;clear HB;have HO_32:=n0_;have HO_134001:=n1_;have BK127:=n2_;have BK133:=n3_;have HB:=n4_;clear n0_ n1_ n2_ n3_ n4_;(try clear hb);(try clear hb2);(try clear hk);(try clear hi);have hcz62_0:w61.cell? ⟨gb133,0,none⟩=some (.int .i64 t132):=(zz9 BK133.out 0).trans rfl;have hcz62_1:w61.cell? ⟨gb133,1,none⟩=some (.slice Ao60 x134001_2.length co60):=(zz9 BK133.out 1).trans rfl;have hfz62_0:=zz10 BK133.out 0;have hfz62_1:=zz10 BK133.out 1;have hcz63_0:w61.cell? ⟨gb127,0,none⟩=some (.int .i64 x128000_2):=(zz9 BK127.out 0).trans rfl;have hcz63_1:w61.cell? ⟨gb127,1,none⟩=some (.slice none 0 0):=(zz9 BK127.out 1).trans rfl;have hfz63_0:=zz10 BK127.out 0;have hfz63_1:=zz10 BK127.out 1))
           refine bodyPost_ret (results_ct rfl _ _ gb127 30 #[.int .i64 t132,.slice Ao60 x134001_2.length co60] (0,0) _ rfl (by (with_reducible repeat (first | refine zz6 ?_ _ | refine zz7 ?_ | refine zz8 ?_ _));refine blk_put (cs:=#[.int .i64 t132,.slice none 0 0]) ?_ 1 _ rfl;(with_reducible repeat (first | refine zz6 ?_ _ | refine zz7 ?_ | refine zz8 ?_ _));refine blk_put (cs:=#[.int .i64 x128000_2,.slice none 0 0]) ?_ 0 _ rfl;(with_reducible repeat (first | refine zz6 ?_ _ | refine zz7 ?_ | refine zz8 ?_ _));exact BK127.out) Tryd.underlying30 rfl (by kernel_rfl)) rfl ?_
           exact ⟨_,by first | rfl | (simp [errW_none,errW_some] <;> rfl) | (simp [*,errW_none,errW_some] <;> rfl),by (with_reducible repeat (first | apply zz12 | apply zz13 | apply zz14));exact Kd.R_mono (Kd.R_far (p:=⟨gb127,1,none⟩) (Kd.R_far (p:=⟨gb127,0,none⟩) (Kd.R_types HO_134001.out BK127.out (by decide)) (fun _ hk=>hk.2) (.int .i64 t132)) (fun _ hk=>hk.2) (.slice Ao60 x134001_2.length co60)) (fun _ hk=>trivial),by repeat first | exact HB.out | apply zz2 | apply zz0 | apply zz1 | refine zz3 ?_ GE127.out | refine zz3 ?_ GE133.out⟩
          ·replace c57:=Bool.eq_false_iff.mpr c57
           subst c57
           have H1:(some (0,([]:List (S50)),false))=some (r1,r2,r3):=by rw [if_neg (show ¬ (false=true) by decide)] at H;exact H
           clear H
           have H:=H1
           clear H1
           simp only [Option.some.injEq,Prod.mk.injEq] at H
           obtain ⟨rfl,rfl,rfl⟩:=H
           have hnb64:=NB133_127.out
           have hnc64:=NB127_133.out
           have hcz65_0:wr.cell? ⟨gb133,0,none⟩=some (.int .i64 t132):=(zz9 BK133.out 0).trans rfl
           have hcz65_1:wr.cell? ⟨gb133,1,none⟩=some (u134001):=(zz9 BK133.out 1).trans rfl
           have hfz65_0:=zz10 BK133.out 0
           have hfz65_1:=zz10 BK133.out 1
           obtain ⟨Ao66,co66,eo66⟩:=Kd.R_slice HO_134001.out
           subst eo66
           go_wp2_with (first | ((with_reducible refine gate_callee (f:=15) rfl ?_);refine goesL_ (some 60) rfl rfl Tryd.func15 (by kernel_rfl) rfl #[.agg #[.int .i64 t132,.slice Ao66 x134001_2.length co66]] rfl (by (try simp only [zz26,zz27,zz28]);first | done | rfl | (simp only [zz24,zz25];rfl)) ?_;(with_reducible refine (spec_paGood.calls k2 t132 _ _ x134001_2 false _ ?side1 ?side2 A56.out).mono ?_);(case side1=>repeat (first | exact (Kd.R_reads' HO_134001.out).2.2 | (with_reducible refine zz18 ?_ _) | (with_reducible refine zz19 ?_ _) | (with_reducible refine zz20 ?_)));(case side2=>exact (Kd.R_reads' HO_134001.out).2.1);rintro e w67 ⟨rfl,hb⟩;refine ⟨_,rfl,?_⟩;have n0_:=zz31 (Kd.R_below (by (with_reducible repeat (first | apply zz12 | apply zz13 | apply zz14));exact HO_32.out) hb);have n1_:=zz31 (Kd.R_below (by (with_reducible repeat (first | apply zz12 | apply zz13 | apply zz14));exact HO_134001.out) hb);have n2_:=zz31 (zz11 (g:=gb127) (o:=.cells #[.int .i64 x128000_2,.slice none 0 0] 30 (0,0)) (by (with_reducible repeat (first | refine zz6 ?_ _ | refine zz7 ?_ | refine zz8 ?_ _));exact BK127.out) hb);have n3_:=zz31 (zz11 (g:=gb133) (o:=.cells #[.int .i64 t132,.slice Ao66 x134001_2.length co66] 30 (0,0)) (by (with_reducible repeat (first | refine zz6 ?_ _ | refine zz7 ?_ | refine zz8 ?_ _));exact BK133.out) hb);have n4_:=zz31 (zz4 (by repeat first | exact HB.out | apply zz2 | apply zz0 | apply zz1 | refine zz3 ?_ GE127.out | refine zz3 ?_ GE133.out) hb);clear HO_32;clear HO_134001;clear BK127;clear BK133;clear HB;have HO_32:=n0_;have HO_134001:=n1_;have BK127:=n2_;have BK133:=n3_;have HB:=n4_;clear n0_ n1_ n2_ n3_ n4_;(try clear hb);(try clear hb2);(try clear hk);(try clear hi);have hcz68_0:w67.cell? ⟨gb127,0,none⟩=some (.int .i64 x128000_2):=(zz9 BK127.out 0).trans rfl;have hcz68_1:w67.cell? ⟨gb127,1,none⟩=some (.slice none 0 0):=(zz9 BK127.out 1).trans rfl;have hfz68_0:=zz10 BK127.out 0;have hfz68_1:=zz10 BK127.out 1))
           refine bodyPost_ret (results_ct rfl _ _ gb127 30 #[.int .i64 0,.slice none 0 0] (0,0) _ rfl (by (with_reducible repeat (first | refine zz6 ?_ _ | refine zz7 ?_ | refine zz8 ?_ _));refine blk_put (cs:=#[.int .i64 0,.slice none 0 0]) ?_ 1 _ rfl;(with_reducible repeat (first | refine zz6 ?_ _ | refine zz7 ?_ | refine zz8 ?_ _));refine blk_put (cs:=#[.int .i64 x128000_2,.slice none 0 0]) ?_ 0 _ rfl;(with_reducible repeat (first | refine zz6 ?_ _ | refine zz7 ?_ | refine zz8 ?_ _));exact BK127.out) Tryd.underlying30 rfl (by kernel_rfl)) rfl ?_
           exact ⟨_,by first | rfl | (simp [errW_none,errW_some] <;> rfl) | (simp [*,errW_none,errW_some] <;> rfl),by first | exact Kd.R_nil _ _ _ _ _ | exact Kd.N_nil _ _ _ _ _ | exact Kd.V_nil _ _ _ _ _ | exact Kd.Q_nil _ _ _ _ _ | exact Kd.S_nil _ _ _ _ _,by repeat first | exact HB.out | apply zz2 | apply zz0 | apply zz1 | refine zz3 ?_ GE127.out | refine zz3 ?_ GE133.out⟩
     ·rw [if_neg c12] at H
      exact absurd H (by simp)
    ·rw [if_neg c10] at H
     exact absurd H (by simp)

/-! ### spec_ParseParty: function 10 -/
def spec_ParseParty.f (k:Nat) (a0:ByteArray):Option (Int × (List (S50)) × Bool):=(spec_paParse.f k a0).bind fun bt153=>(some (bt153.1,bt153.2.1,bt153.2.2))
theorem spec_ParseParty.mono:∀ a0 k,LeO (spec_ParseParty.f k a0) (spec_ParseParty.f (k+1) a0):=by
 intro a0 k
 unfold spec_ParseParty.f
 repeat' first
   | (with_reducible exact spec_paParse.mono _ _)
   | (with_reducible exact LeO.refl _)
   | (with_reducible exact LeO.none _)
   | (with_reducible refine LeO.ite ?_ ?_)
   | (with_reducible refine LeO.bind ?_ (fun _=>?_))
   | exact spec_paParse.mono _ _
   | exact LeO.none _
   | refine LeO.ite ?_ ?_
   | refine LeO.bind ?_ (fun _=>?_)
set_option maxHeartbeats 8000000 in
set_option maxRecDepth 100000 in
theorem spec_ParseParty.calls (k:Nat) (a0:ByteArray) (r1:Int) (r2:List (S50)) (r3:Bool) (w:World) (h:spec_ParseParty.f k a0=some (r1,r2,r3)) :
  Calls Tryd.prog 10 #[.string a0] w fun e w'=>∃ v1_:Value,e=.returned (.tuple #[.agg #[.int .i64 r1,v1_],.bool r3])∧Kd.R k50 50 w' w.heap.size (fun _=>True) v1_ r2∧Below w.heap.size w w':=by
 have hu30:=Tryd.underlying30
 have HB:=zz31 (Below.refl w.heap.size w)
 have H:((spec_paParse.f k a0).bind fun bt153=>(some (bt153.1,bt153.2.1,bt153.2.2)))=some (r1,r2,r3):=h
 clear h
 replace H:=zz30.mp H
 obtain ⟨⟨t153,t154,t157⟩,A20,H⟩:=H
 replace H:(some (t153,t154,t157))=some (r1,r2,r3):=H
 have A2:=zz31 A20
 clear A20
 simp only [Option.some.injEq,Prod.mk.injEq] at H
 obtain ⟨rfl,rfl,rfl⟩:=H
 go_enter Tryd.func10,Tryd.ntmps10
 go_wp2_with (first | ((with_reducible refine gate_dst (N:=2) rfl ?_);refine box_event ?hg (N:=2) ?hd (cs:=#[.int .i64 0,.slice none 0 0]) (t:=30) ?hr ?_;(case hd=>rfl);(case hg=>rfl);(case hr=>first | (go_simp;done) | (go_simp;rfl));intro gb152 hg w3 hbox hb;have n0_:=zz31 (zz4 (by repeat first | exact HB.out | apply zz2 | apply zz0 | apply zz1) hb);have n1_:=zz31 (hbox);have n2_:=zz31 ((by rw [hg];exact (zz5 (by repeat first | exact HB.out | apply zz2 | apply zz0 | apply zz1)):w.heap.size≤gb152));have n3_:=zz31 ((by rw [hg];exact (zz5 (by repeat first | exact HB.out | apply zz2 | apply zz0 | apply zz1)):w.heap.size≤gb152));clear HB;have HB:=n0_;have BK152:=n1_;have GW152:=n2_;have GE152:=n3_;clear n0_ n1_ n2_ n3_;clear hb hbox hg) | ((with_reducible refine gate_callee (f:=21) rfl ?_);refine goesL_ (some 5) rfl rfl Tryd.func21 (by kernel_rfl) rfl #[.string a0] rfl (by (try simp only [zz26,zz27,zz28]);first | done | rfl | (simp only [zz24,zz25];rfl)) ?_;(with_reducible refine (spec_paParse.calls k a0 t153 t154 t157 _ A2.out).mono ?_);rintro e w4 ⟨v155,rfl,ho0,hb⟩;refine ⟨_,rfl,?_⟩;have n0_:=zz31 (Kd.R_lower ho0 (zz5 (by repeat first | exact HB.out | apply zz2 | apply zz0 | apply zz1 | refine zz3 ?_ GE152.out)));have n1_:=zz31 (zz11 (g:=gb152) (o:=.cells #[.int .i64 0,.slice none 0 0] 30 (0,0)) (by (with_reducible repeat (first | refine zz6 ?_ _ | refine zz7 ?_ | refine zz8 ?_ _));exact BK152.out) hb);have n2_:=zz31 (zz4 (by repeat first | exact HB.out | apply zz2 | apply zz0 | apply zz1 | refine zz3 ?_ GE152.out) hb);clear BK152;clear HB;have HO156:=n0_;have BK152:=n1_;have HB:=n2_;clear n0_ n1_ n2_;(try clear hb);(try clear hb2);(try clear hk);(try clear hi);(try clear ho0);have hcz5_0:w4.cell? ⟨gb152,0,none⟩=some (.int .i64 0):=(zz9 BK152.out 0).trans rfl;have hcz5_1:w4.cell? ⟨gb152,1,none⟩=some (.slice none 0 0):=(zz9 BK152.out 1).trans rfl;have hfz5_0:=zz10 BK152.out 0;have hfz5_1:=zz10 BK152.out 1;obtain ⟨Ao6,co6,eo6⟩:=Kd.R_slice HO156.out;subst eo6))
 refine bodyPost_ret (results_ct rfl _ _ gb152 30 #[.int .i64 t153,.slice Ao6 t154.length co6] (0,0) _ rfl (by (with_reducible repeat (first | refine zz6 ?_ _ | refine zz7 ?_ | refine zz8 ?_ _));refine blk_put (cs:=#[.int .i64 t153,.slice none 0 0]) ?_ 1 _ rfl;(with_reducible repeat (first | refine zz6 ?_ _ | refine zz7 ?_ | refine zz8 ?_ _));refine blk_put (cs:=#[.int .i64 0,.slice none 0 0]) ?_ 0 _ rfl;(with_reducible repeat (first | refine zz6 ?_ _ | refine zz7 ?_ | refine zz8 ?_ _));exact BK152.out) Tryd.underlying30 rfl (by kernel_rfl)) rfl ?_
 exact ⟨_,by first | rfl | (simp [errW_none,errW_some] <;> rfl) | (simp [*,errW_none,errW_some] <;> rfl),by (with_reducible repeat (first | apply zz12 | apply zz13 | apply zz14));exact Kd.R_mono (Kd.R_far (p:=⟨gb152,1,none⟩) (Kd.R_far (p:=⟨gb152,0,none⟩) (Kd.R_types HO156.out BK152.out (by decide)) (fun _ hk=>hk.2) (.int .i64 t153)) (fun _ hk=>hk.2) (.slice Ao6 t154.length co6)) (fun _ hk=>trivial),by repeat first | exact HB.out | apply zz2 | apply zz0 | apply zz1 | refine zz3 ?_ GE152.out⟩

/-! ### cmp_Or_int: function 43 -/
def cmp_Or_int.l0:Nat→Int→List Int→Int→Int→Option (Int)
 | 0,_,_,_,_=>none
 | k+1,x3,x6,x7,x8=>if x8 < x7 then (if 0≤x8 then (if x8 < (x6.length:Int) then (if (rd x6 x8)=x3 then (cmp_Or_int.l0 k x3 x6 x7 (wrap64 (x8+1))) else (some (rd x6 x8))) else (none)) else (none)) else (some x3)
def cmp_Or_int.f (k:Nat) (l0:List Int):Option (Int):=cmp_Or_int.l0 k 0 l0 (l0.length:Int) 0
theorem cmp_Or_int.mono_l:∀ k,(∀ y0 y1 y2 y3,LeO (cmp_Or_int.l0 k y0 y1 y2 y3) (cmp_Or_int.l0 (k+1) y0 y1 y2 y3))
 | 0=>fun _ _ _ _ r h=>by simp [cmp_Or_int.l0] at h
 | k+1=>by
  have ih0:=cmp_Or_int.mono_l k
  ·intro y0 y1 y2 y3
   unfold cmp_Or_int.l0
   repeat' first
   | (with_reducible exact ih0 _ _ _ _)
   | (with_reducible exact LeO.refl _)
   | (with_reducible exact LeO.none _)
   | (with_reducible refine LeO.ite ?_ ?_)
   | (with_reducible refine LeO.bind ?_ (fun _=>?_))
   | exact ih0 _ _ _ _
   | exact LeO.none _
   | refine LeO.ite ?_ ?_
   | refine LeO.bind ?_ (fun _=>?_)
theorem cmp_Or_int.mono:∀ a0 k,LeO (cmp_Or_int.f k a0) (cmp_Or_int.f (k+1) a0):=by
 intro a0 k
 have ih0:=cmp_Or_int.mono_l k
 unfold cmp_Or_int.f
 repeat' first
   | (with_reducible exact ih0 _ _ _ _)
   | (with_reducible exact LeO.refl _)
   | (with_reducible exact LeO.none _)
   | (with_reducible refine LeO.ite ?_ ?_)
   | (with_reducible refine LeO.bind ?_ (fun _=>?_))
   | exact ih0 _ _ _ _
   | exact LeO.none _
   | refine LeO.ite ?_ ?_
   | refine LeO.bind ?_ (fun _=>?_)
set_option maxHeartbeats 8000000 in
set_option maxRecDepth 100000 in
theorem cmp_Or_int.calls (k:Nat) (A0:Option Addr) (c0:Nat) (l0:List Int) (r:Int) (w:World) (hr0:Kd.C (Kd.int .i64) w A0 l0.length l0) (hc0:l0.length≤c0) (h:cmp_Or_int.f k l0=some r) :
  Calls Tryd.prog 43 #[.slice A0 l0.length c0] w fun e w'=>e=.returned (.int .i64 r)∧Drawn0 w w':=by
 have HR0:=zz31 hr0
 have HC0:=zz31 hc0
 clear hr0 hc0
 have H:(cmp_Or_int.l0 k 0 l0 (l0.length:Int) 0)=some r:=h
 clear h
 have H':=zz31 H
 clear H
 go_enter Tryd.func43,Tryd.ntmps43
 go_wp2
 go_loopg [8] k (fun kq v8 w'=>∃ (x8_1:Int),v8=.int .i64 x8_1∧Aside0 (cmp_Or_int.l0 kq 0 l0 (l0.length:Int) x8_1=some r)∧Aside0 (kq≤k)∧Drawn0 w w')
 case atStart=>exact ⟨(0),(by first | rfl | (simp;done) | (simp [*];done)),H',⟨Nat.le_refl _⟩,by repeat (first | exact Drawn0.refl _ | apply Drawn0.step)⟩
 case round =>
  clear H'
  obtain ⟨x8_1,rfl,HA,HK1,⟨m1,rfl⟩⟩:=hrel
  cases gk with
  | zero=>exact absurd HA.out (by simp [cmp_Or_int.l0])
  | succ k1 =>
   have H:=HA.out
   clear HA
   simp only [cmp_Or_int.l0] at H
   by_cases c2:x8_1 < (l0.length:Int)
   ·rw [if_pos c2] at H
    have c2b0:decide (x8_1 < (l0.length:Int))=true:=decide_eq_true c2
    clear c2
    by_cases c3:0≤x8_1
    ·rw [if_pos c3] at H
     have c3b0:decide (0≤x8_1)=true:=decide_eq_true c3
     clear c3
     by_cases c4:x8_1 < (l0.length:Int)
     ·rw [if_pos c4] at H
      have c4b0:decide (x8_1 < (l0.length:Int))=true:=decide_eq_true c4
      clear c4
      by_cases c5:(rd l0 x8_1)=0
      ·rw [if_pos c5] at H
       have c5b0:((rd l0 x8_1) == 0)=true:=beq_iff_eq.mpr c5
       have c5b1:((rd l0 x8_1) != 0)=false:=bne_eq_false_iff_eq.mpr c5
       clear c5
       have H':=zz31 H
       clear H
       have p158:0≤(x8_1:Int):=zz29 (by first | (with_reducible assumption) | assumption)
       have q158:x8_1 < (l0.length:Int):=zz29 (by first | (with_reducible assumption) | assumption)
       obtain ⟨ad158,e158,hx158_0⟩:=Kd.at_int HR0.out x8_1 p158 q158
       cases e158
       replace p158:=eq_true p158
       replace q158:=eq_true q158
       go_wp2
       go_roundg k1
       case measure=>have:=HK1.out;omega
       case rel=>exact ⟨(wrap64 (x8_1+1)),(by first | rfl | (simp;done) | (simp [*];done)),H',⟨by have:=HK1.out;omega⟩,by repeat (first | exact Drawn0.refl _ | apply Drawn0.step)⟩
      ·rw [if_neg c5] at H
       have c5b0:((rd l0 x8_1) == 0)=false:=beq_eq_false_iff_ne.mpr c5
       have c5b1:((rd l0 x8_1) != 0)=true:=bne_iff_ne.mpr c5
       obtain rfl:=Option.some.inj H
       have p158:0≤(x8_1:Int):=zz29 (by first | (with_reducible assumption) | assumption)
       have q158:x8_1 < (l0.length:Int):=zz29 (by first | (with_reducible assumption) | assumption)
       obtain ⟨ad158,e158,hx158_0⟩:=Kd.at_int HR0.out x8_1 p158 q158
       cases e158
       replace p158:=eq_true p158
       replace q158:=eq_true q158
       go_wp2
       go_ret
       exact ⟨by first | rfl | (simp;done) | (simp [*];done),by repeat (first | exact Drawn0.refl _ | apply Drawn0.step)⟩
     ·rw [if_neg c4] at H
      exact absurd H (by simp)
    ·rw [if_neg c3] at H
     exact absurd H (by simp)
   ·rw [if_neg c2] at H
    have c2b0:decide (x8_1 < (l0.length:Int))=false:=decide_eq_false c2
    clear c2
    obtain rfl:=Option.some.inj H
    go_wp2
    go_ret
    exact ⟨by first | rfl | (simp;done) | (simp [*];done),by repeat (first | exact Drawn0.refl _ | apply Drawn0.step)⟩

/-! ### cmp_isNaN_int: function 52 -/
def cmp_isNaN_int.f (a0:Int):Option (Bool):=some (a0 != a0)
set_option maxHeartbeats 8000000 in
set_option maxRecDepth 100000 in
theorem cmp_isNaN_int.calls (a0:Int) (r:Bool) (w:World) (h:cmp_isNaN_int.f a0=some r) :
  Calls Tryd.prog 52 #[.int .i64 a0] w fun e w'=>e=.returned (.bool r)∧Drawn0 w w':=by
 have H:(some (a0 != a0))=some r:=h
 clear h
 obtain rfl:=Option.some.inj H
 go_enter Tryd.func52,Tryd.ntmps52
 go_wp2
 go_ret
 exact ⟨by first | rfl | (simp;done) | (simp [*];done),by repeat (first | exact Drawn0.refl _ | apply Drawn0.step)⟩

/-! ### cmp_Compare_int: function 44 -/
def cmp_Compare_int.f (a0:Int) (a1:Int):Option (Int):=(cmp_isNaN_int.f a0).bind fun t159=>((cmp_isNaN_int.f a1).bind fun t160=>(if t159=true then (if t160=true then (some 0) else (some (-1))) else (if t160=true then (some 1) else (if a0 < a1 then (some (-1)) else (if a0 > a1 then (some 1) else (some 0))))))
set_option maxHeartbeats 8000000 in
set_option maxRecDepth 100000 in
theorem cmp_Compare_int.calls (a0:Int) (a1:Int) (r:Int) (w:World) (h:cmp_Compare_int.f a0 a1=some r) :
  Calls Tryd.prog 44 #[.int .i64 a0,.int .i64 a1] w fun e w'=>e=.returned (.int .i64 r)∧Drawn0 w w':=by
 have H:((cmp_isNaN_int.f a0).bind fun t159=>((cmp_isNaN_int.f a1).bind fun t160=>(if t159=true then (if t160=true then (some 0) else (some (-1))) else (if t160=true then (some 1) else (if a0 < a1 then (some (-1)) else (if a0 > a1 then (some 1) else (some 0)))))))=some r:=h
 clear h
 replace H:=zz30.mp H
 obtain ⟨t159,A30,H⟩:=H
 replace H:((cmp_isNaN_int.f a1).bind fun t160=>(if t159=true then (if t160=true then (some 0) else (some (-1))) else (if t160=true then (some 1) else (if a0 < a1 then (some (-1)) else (if a0 > a1 then (some 1) else (some 0))))))=some r:=H
 have A3:=zz31 A30
 clear A30
 replace H:=zz30.mp H
 obtain ⟨t160,A40,H⟩:=H
 replace H:(if t159=true then (if t160=true then (some 0) else (some (-1))) else (if t160=true then (some 1) else (if a0 < a1 then (some (-1)) else (if a0 > a1 then (some 1) else (some 0)))))=some r:=H
 have A4:=zz31 A40
 clear A40
 by_cases c5:t159=true
 ·subst c5
  have H1:(if t160=true then (some 0) else (some (-1)))=some r:=by rw [if_pos rfl] at H;exact H
  clear H
  have H:=H1
  clear H1
  by_cases c6:t160=true
  ·subst c6
   have H1:(some 0)=some r:=by rw [if_pos rfl] at H;exact H
   clear H
   have H:=H1
   clear H1
   obtain rfl:=Option.some.inj H
   go_enter Tryd.func44,Tryd.ntmps44
   go_wp2_with (first | ((with_reducible refine gate_callee (f:=52) rfl ?_);refine goesL_ (some 8) rfl rfl Tryd.func52 (by kernel_rfl) rfl #[.int .i64 a0] rfl (by (try simp only [zz26,zz27,zz28]);first | done | rfl | (simp only [zz24,zz25];rfl)) ?_;(with_reducible refine (cmp_isNaN_int.calls a0 true _ A3.out).mono ?_);rintro e w' ⟨rfl,⟨nd,rfl⟩⟩;refine ⟨_,rfl,?_⟩) | ((with_reducible refine gate_callee (f:=52) rfl ?_);refine goesL_ (some 10) rfl rfl Tryd.func52 (by kernel_rfl) rfl #[.int .i64 a1] rfl (by (try simp only [zz26,zz27,zz28]);first | done | rfl | (simp only [zz24,zz25];rfl)) ?_;(with_reducible refine (cmp_isNaN_int.calls a1 true _ A4.out).mono ?_);rintro e w' ⟨rfl,⟨nd,rfl⟩⟩;refine ⟨_,rfl,?_⟩))
   go_ret
   exact ⟨by first | rfl | (simp;done) | (simp [*];done),by repeat (first | exact Drawn0.refl _ | apply Drawn0.step)⟩
  ·replace c6:=Bool.eq_false_iff.mpr c6
   subst c6
   have H1:(some (-1))=some r:=by rw [if_neg (show ¬ (false=true) by decide)] at H;exact H
   clear H
   have H:=H1
   clear H1
   obtain rfl:=Option.some.inj H
   go_enter Tryd.func44,Tryd.ntmps44
   go_wp2_with (first | ((with_reducible refine gate_callee (f:=52) rfl ?_);refine goesL_ (some 8) rfl rfl Tryd.func52 (by kernel_rfl) rfl #[.int .i64 a0] rfl (by (try simp only [zz26,zz27,zz28]);first | done | rfl | (simp only [zz24,zz25];rfl)) ?_;(with_reducible refine (cmp_isNaN_int.calls a0 true _ A3.out).mono ?_);rintro e w' ⟨rfl,⟨nd,rfl⟩⟩;refine ⟨_,rfl,?_⟩) | ((with_reducible refine gate_callee (f:=52) rfl ?_);refine goesL_ (some 10) rfl rfl Tryd.func52 (by kernel_rfl) rfl #[.int .i64 a1] rfl (by (try simp only [zz26,zz27,zz28]);first | done | rfl | (simp only [zz24,zz25];rfl)) ?_;(with_reducible refine (cmp_isNaN_int.calls a1 false _ A4.out).mono ?_);rintro e w' ⟨rfl,⟨nd,rfl⟩⟩;refine ⟨_,rfl,?_⟩))
   go_ret
   exact ⟨by first | rfl | (simp;done) | (simp [*];done),by repeat (first | exact Drawn0.refl _ | apply Drawn0.step)⟩
 ·replace c5:=Bool.eq_false_iff.mpr c5
  subst c5
  have H1:(if t160=true then (some 1) else (if a0 < a1 then (some (-1)) else (if a0 > a1 then (some 1) else (some 0))))=some r:=by rw [if_neg (show ¬ (false=true) by decide)] at H;exact H
  clear H
  have H:=H1
  clear H1
  by_cases c7:t160=true
  ·subst c7
   have H1:(some 1)=some r:=by rw [if_pos rfl] at H;exact H
   clear H
   have H:=H1
   clear H1
   obtain rfl:=Option.some.inj H
   go_enter Tryd.func44,Tryd.ntmps44
   go_wp2_with (first | ((with_reducible refine gate_callee (f:=52) rfl ?_);refine goesL_ (some 8) rfl rfl Tryd.func52 (by kernel_rfl) rfl #[.int .i64 a0] rfl (by (try simp only [zz26,zz27,zz28]);first | done | rfl | (simp only [zz24,zz25];rfl)) ?_;(with_reducible refine (cmp_isNaN_int.calls a0 false _ A3.out).mono ?_);rintro e w' ⟨rfl,⟨nd,rfl⟩⟩;refine ⟨_,rfl,?_⟩) | ((with_reducible refine gate_callee (f:=52) rfl ?_);refine goesL_ (some 10) rfl rfl Tryd.func52 (by kernel_rfl) rfl #[.int .i64 a1] rfl (by (try simp only [zz26,zz27,zz28]);first | done | rfl | (simp only [zz24,zz25];rfl)) ?_;(with_reducible refine (cmp_isNaN_int.calls a1 true _ A4.out).mono ?_);rintro e w' ⟨rfl,⟨nd,rfl⟩⟩;refine ⟨_,rfl,?_⟩))
   go_ret
   exact ⟨by first | rfl | (simp;done) | (simp [*];done),by repeat (first | exact Drawn0.refl _ | apply Drawn0.step)⟩
  ·replace c7:=Bool.eq_false_iff.mpr c7
   subst c7
   have H1:(if a0 < a1 then (some (-1)) else (if a0 > a1 then (some 1) else (some 0)))=some r:=by rw [if_neg (show ¬ (false=true) by decide)] at H;exact H
   clear H
   have H:=H1
   clear H1
   by_cases c8:a0 < a1
   ·rw [if_pos c8] at H
    have c8b0:decide (a0 < a1)=true:=decide_eq_true c8
    clear c8
    obtain rfl:=Option.some.inj H
    go_enter Tryd.func44,Tryd.ntmps44
    go_wp2_with (first | ((with_reducible refine gate_callee (f:=52) rfl ?_);refine goesL_ (some 8) rfl rfl Tryd.func52 (by kernel_rfl) rfl #[.int .i64 a0] rfl (by (try simp only [zz26,zz27,zz28]);first | done | rfl | (simp only [zz24,zz25];rfl)) ?_;(with_reducible refine (cmp_isNaN_int.calls a0 false _ A3.out).mono ?_);rintro e w' ⟨rfl,⟨nd,rfl⟩⟩;refine ⟨_,rfl,?_⟩) | ((with_reducible refine gate_callee (f:=52) rfl ?_);refine goesL_ (some 10) rfl rfl Tryd.func52 (by kernel_rfl) rfl #[.int .i64 a1] rfl (by (try simp only [zz26,zz27,zz28]);first | done | rfl | (simp only [zz24,zz25];rfl)) ?_;(with_reducible refine (cmp_isNaN_int.calls a1 false _ A4.out).mono ?_);rintro e w' ⟨rfl,⟨nd,rfl⟩⟩;refine ⟨_,rfl,?_⟩))
    go_ret
    exact ⟨by first | rfl | (simp;done) | (simp [*];done),by repeat (first | exact Drawn0.refl _ | apply Drawn0.step)⟩
   ·rw [if_neg c8] at H
    have c8b0:decide (a0 < a1)=false:=decide_eq_false c8
    clear c8
    by_cases c9:a0 > a1
    ·rw [if_pos c9] at H
     have c9b0:decide (a1 < a0)=true:=decide_eq_true c9
     clear c9
     obtain rfl:=Option.some.inj H
     go_enter Tryd.func44,Tryd.ntmps44
     go_wp2_with (first | ((with_reducible refine gate_callee (f:=52) rfl ?_);refine goesL_ (some 8) rfl rfl Tryd.func52 (by kernel_rfl) rfl #[.int .i64 a0] rfl (by (try simp only [zz26,zz27,zz28]);first | done | rfl | (simp only [zz24,zz25];rfl)) ?_;(with_reducible refine (cmp_isNaN_int.calls a0 false _ A3.out).mono ?_);rintro e w' ⟨rfl,⟨nd,rfl⟩⟩;refine ⟨_,rfl,?_⟩) | ((with_reducible refine gate_callee (f:=52) rfl ?_);refine goesL_ (some 10) rfl rfl Tryd.func52 (by kernel_rfl) rfl #[.int .i64 a1] rfl (by (try simp only [zz26,zz27,zz28]);first | done | rfl | (simp only [zz24,zz25];rfl)) ?_;(with_reducible refine (cmp_isNaN_int.calls a1 false _ A4.out).mono ?_);rintro e w' ⟨rfl,⟨nd,rfl⟩⟩;refine ⟨_,rfl,?_⟩))
     go_ret
     exact ⟨by first | rfl | (simp;done) | (simp [*];done),by repeat (first | exact Drawn0.refl _ | apply Drawn0.step)⟩
    ·rw [if_neg c9] at H
     have c9b0:decide (a1 < a0)=false:=decide_eq_false c9
     clear c9
     obtain rfl:=Option.some.inj H
     go_enter Tryd.func44,Tryd.ntmps44
     go_wp2_with (first | ((with_reducible refine gate_callee (f:=52) rfl ?_);refine goesL_ (some 8) rfl rfl Tryd.func52 (by kernel_rfl) rfl #[.int .i64 a0] rfl (by (try simp only [zz26,zz27,zz28]);first | done | rfl | (simp only [zz24,zz25];rfl)) ?_;(with_reducible refine (cmp_isNaN_int.calls a0 false _ A3.out).mono ?_);rintro e w' ⟨rfl,⟨nd,rfl⟩⟩;refine ⟨_,rfl,?_⟩) | ((with_reducible refine gate_callee (f:=52) rfl ?_);refine goesL_ (some 10) rfl rfl Tryd.func52 (by kernel_rfl) rfl #[.int .i64 a1] rfl (by (try simp only [zz26,zz27,zz28]);first | done | rfl | (simp only [zz24,zz25];rfl)) ?_;(with_reducible refine (cmp_isNaN_int.calls a1 false _ A4.out).mono ?_);rintro e w' ⟨rfl,⟨nd,rfl⟩⟩;refine ⟨_,rfl,?_⟩))
     go_ret
     exact ⟨by first | rfl | (simp;done) | (simp [*];done),by repeat (first | exact Drawn0.refl _ | apply Drawn0.step)⟩

/-! ### impl_comparePairs: function 31 -/
def impl_comparePairs.f (k:Nat) (a0_0:Int) (a0_1:Int) (a1_0:Int) (a1_1:Int):Option (Int):=(cmp_Compare_int.f a0_0 a1_0).bind fun t163=>((cmp_Compare_int.f a0_1 a1_1).bind fun t164=>((cmp_Or_int.f k (([t163,t164]:List Int))).bind fun t168=>(some t168)))
theorem impl_comparePairs.mono:∀ a0 a1 a2 a3 k,LeO (impl_comparePairs.f k a0 a1 a2 a3) (impl_comparePairs.f (k+1) a0 a1 a2 a3):=by
 intro a0 a1 a2 a3 k
 unfold impl_comparePairs.f
 repeat' first
   | (with_reducible exact cmp_Or_int.mono _ _)
   | (with_reducible exact LeO.refl _)
   | (with_reducible exact LeO.none _)
   | (with_reducible refine LeO.ite ?_ ?_)
   | (with_reducible refine LeO.bind ?_ (fun _=>?_))
   | exact cmp_Or_int.mono _ _
   | exact LeO.none _
   | refine LeO.ite ?_ ?_
   | refine LeO.bind ?_ (fun _=>?_)
def impl_comparePairs.T1:Bool × List (List Nat × List Nat):=(true,[([],[]),([0],[0]),([],[]),([2],[2]),([1,3],[1,3]),([],[]),([5],[5]),([],[]),([7],[7]),([6,8,4],[6,8]),([4,9],[4,9]),([10,9],[10]),([11,11,0,1,2,3,4,5,6,7,8,9,10,11],[11])])
def impl_comparePairs.B1:List Nat:=[0,1,0,4,15,0,32,0,128,511,1023,2047,4095]
theorem impl_comparePairs.tab1:rtab .any (opsOf Tryd.f31 1)=impl_comparePairs.T1:=by kernel_rfl
theorem impl_comparePairs.bits1:waitsOk impl_comparePairs.T1.2 impl_comparePairs.B1=true:=by kernel_rfl
set_option maxHeartbeats 8000000 in
set_option maxRecDepth 100000 in
theorem impl_comparePairs.calls (k:Nat) (a0_0:Int) (a0_1:Int) (a1_0:Int) (a1_1:Int) (r:Int) (w:World) (h:impl_comparePairs.f k a0_0 a0_1 a1_0 a1_1=some r) :
  Calls Tryd.prog 31 #[.agg #[.int .i64 a0_0,.int .i64 a0_1],.agg #[.int .i64 a1_0,.int .i64 a1_1]] w fun e w'=>e=.returned (.int .i64 r)∧Below w.heap.size w w':=by
 have hu50:=Tryd.underlying50
 have HB:=zz31 (Below.refl w.heap.size w)
 have H:((cmp_Compare_int.f a0_0 a1_0).bind fun t163=>((cmp_Compare_int.f a0_1 a1_1).bind fun t164=>((cmp_Or_int.f k (([t163,t164]:List Int))).bind fun t168=>(some t168))))=some r:=h
 clear h
 replace H:=zz30.mp H
 obtain ⟨t163,A30,H⟩:=H
 replace H:((cmp_Compare_int.f a0_1 a1_1).bind fun t164=>((cmp_Or_int.f k (([t163,t164]:List Int))).bind fun t168=>(some t168)))=some r:=H
 have A3:=zz31 A30
 clear A30
 replace H:=zz30.mp H
 obtain ⟨t164,A40,H⟩:=H
 replace H:((cmp_Or_int.f k (([t163,t164]:List Int))).bind fun t168=>(some t168))=some r:=H
 have A4:=zz31 A40
 clear A40
 obtain ⟨y165,hy165⟩:∃ y_:List Int,y_=(([t163,t164]:List Int)):=⟨_,rfl⟩
 replace H:((cmp_Or_int.f k y165).bind fun t168=>(some t168))=some r:=by first | (rw [hy165];with_reducible exact H) | (have H2_:=(Option.bind_some _ _).symm.trans H;rw [hy165];with_reducible exact H2_) | (have H2_:=(Option.bind_some _ _).symm.trans H;with_reducible exact H2_) | with_reducible exact H | (rw [hy165];exact H) | exact H
 have Ny165:=zz31 hy165
 clear hy165
 replace H:=zz30.mp H
 obtain ⟨t168,A50,H⟩:=H
 replace H:(some t168)=some r:=H
 have A5:=zz31 A50
 clear A50
 obtain rfl:=Option.some.inj H
 go_enter Tryd.func31,Tryd.ntmps31
 try go_wp2_with (first | ((with_reducible refine gate_dst (N:=2) rfl ?_);refine box_event ?hg (N:=2) ?hd (cs:=#[.int .i64 a0_0,.int .i64 a0_1]) (t:=50) ?hr ?_;(case hd=>rfl);(case hg=>rfl);(case hr=>first | (go_simp;done) | (go_simp;rfl));intro gb161 hg w6 hbox hb;have n0_:=zz31 (zz4 (by repeat first | exact HB.out | apply zz2 | apply zz0 | apply zz1) hb);have n1_:=zz31 (hbox);have n2_:=zz31 ((by rw [hg];exact (zz5 (by repeat first | exact HB.out | apply zz2 | apply zz0 | apply zz1)):w.heap.size≤gb161));have n3_:=zz31 ((by rw [hg];exact (zz5 (by repeat first | exact HB.out | apply zz2 | apply zz0 | apply zz1)):w.heap.size≤gb161));clear HB;have HB:=n0_;have BK161:=n1_;have GW161:=n2_;have GE161:=n3_;clear n0_ n1_ n2_ n3_;clear hb hbox hg) | ((with_reducible refine gate_dst (N:=3) rfl ?_);refine box_event ?hg (N:=3) ?hd (cs:=#[.int .i64 a1_0,.int .i64 a1_1]) (t:=50) ?hr ?_;(case hd=>rfl);(case hg=>rfl);(case hr=>first | (go_simp;done) | (go_simp;rfl));intro gb162 hg w7 hbox hb;have n0_:=zz31 (zz11 (g:=gb161) (o:=.cells #[.int .i64 a0_0,.int .i64 a0_1] 50 (0,0)) (by (with_reducible repeat (first | refine zz6 ?_ _ | refine zz7 ?_ | refine zz8 ?_ _));exact BK161.out) hb);have n1_:=zz31 (zz4 (by repeat first | exact HB.out | apply zz2 | apply zz0 | apply zz1 | refine zz3 ?_ GE161.out) hb);have n2_:=zz31 (hbox);have n3_:=zz31 ((by rw [hg];exact (zz5 (by repeat first | exact HB.out | apply zz2 | apply zz0 | apply zz1 | refine zz3 ?_ GE161.out)):w.heap.size≤gb162));have n4_:=zz31 ((by rw [hg];exact (zz5 (by repeat first | exact HB.out | apply zz2 | apply zz0 | apply zz1 | refine zz3 ?_ GE161.out)):w.heap.size≤gb162));have n5_:=zz31 ((by rw [hg];exact Nat.ne_of_lt (blk_lt (g:=gb161) (o:=.cells #[.int .i64 a0_0,.int .i64 a0_1] 50 (0,0)) (by (with_reducible repeat (first | refine zz6 ?_ _ | refine zz7 ?_ | refine zz8 ?_ _));exact BK161.out)):gb161 ≠ gb162));have n6_:=zz31 ((by rw [hg];exact Nat.ne_of_gt (blk_lt (g:=gb161) (o:=.cells #[.int .i64 a0_0,.int .i64 a0_1] 50 (0,0)) (by (with_reducible repeat (first | refine zz6 ?_ _ | refine zz7 ?_ | refine zz8 ?_ _));exact BK161.out)):gb162 ≠ gb161));clear BK161;clear HB;have BK161:=n0_;have HB:=n1_;have BK162:=n2_;have GW162:=n3_;have GE162:=n4_;have NB161_162:=n5_;have NB162_161:=n6_;clear n0_ n1_ n2_ n3_ n4_ n5_ n6_;clear hb hbox hg))
 have n0_:=zz31 (zz7 BK161.out)
 have n1_:=zz31 (zz7 BK162.out)
 have n2_:=zz31 (zz1 HB.out)
 clear BK161
 clear BK162
 clear HB
 have BK161:=n0_
 have BK162:=n1_
 have HB:=n2_
 clear n0_ n1_ n2_
 refine start_ (n:=13) (S:=fun w'=>w'.cell? ⟨gb161,0,none⟩=some (.int .i64 a0_0)∧w'.cell? ⟨gb161,1,none⟩=some (.int .i64 a0_1)∧w'.cell? ⟨gb162,0,none⟩=some (.int .i64 a1_0)∧w'.cell? ⟨gb162,1,none⟩=some (.int .i64 a1_1)) (ds:=[]) #[F,F,F,F,F,F,F,F,F,F,F,F,F] (by kernel_rfl) rfl rfl ⟨(zz9 BK161.out 0).trans rfl,(zz9 BK161.out 1).trans rfl,(zz9 BK162.out 0).trans rfl,(zz9 BK162.out 1).trans rfl⟩ (fun hHeld=>?_);refine with_tabW impl_comparePairs.tab1 impl_comparePairs.bits1 (fun HT_ HW_=>?_)
 generalize w7.drew=w8 at BK161 BK162 HB hHeld ⊢
 refine pure_ (i:=0) (N:=some 5) (v:=?_) (a':=?_) #[T,F,F,F,F,F,F,F,F,F,F,F,F] rfl rfl (any_of HT_.out (by kernel_rfl)) (fun _ _ _ h=>h) (Or.inl ⟨by rfl,?_⟩) ?_ ?_
 rotate_left
 ·intro w'
  go_simp
  with_reducible rfl
 rotate_left
 ·simp only [Act.put,zz21,zz22,zz23,i64_w,i32_w]
  rfl
 refine pure_ (i:=2) (N:=some 7) (v:=?_) (a':=?_) #[T,F,T,F,F,F,F,F,F,F,F,F,F] rfl rfl (any_of HT_.out (by kernel_rfl)) (fun _ _ _ h=>h) (Or.inl ⟨by rfl,?_⟩) ?_ ?_
 rotate_left
 ·intro w'
  go_simp
  with_reducible rfl
 rotate_left
 ·simp only [Act.put,zz21,zz22,zz23,i64_w,i32_w]
  rfl
 refine pure_ (i:=5) (N:=some 10) (v:=?_) (a':=?_) #[T,F,T,F,F,T,F,F,F,F,F,F,F] rfl rfl (any_of HT_.out (by kernel_rfl)) (fun _ _ _ h=>h) (Or.inl ⟨by rfl,?_⟩) ?_ ?_
 rotate_left
 ·intro w'
  go_simp
  with_reducible rfl
 rotate_left
 ·simp only [Act.put,zz21,zz22,zz23,i64_w,i32_w]
  rfl
 refine pure_ (i:=7) (N:=some 12) (v:=?_) (a':=?_) #[T,F,T,F,F,T,F,T,F,F,F,F,F] rfl rfl (any_of HT_.out (by kernel_rfl)) (fun _ _ _ h=>h) (Or.inl ⟨by rfl,?_⟩) ?_ ?_
 rotate_left
 ·intro w'
  go_simp
  with_reducible rfl
 rotate_left
 ·simp only [Act.put,zz21,zz22,zz23,i64_w,i32_w]
  rfl
 refine take_ (i:=1) (N:=some 6) (v:=?_) (a':=?_) #[T,T,T,F,F,T,F,T,F,F,F,F,F] rfl rfl (take_ofW HT_.out HW_.out (by kernel_rfl)) (fun _ _ _ h=>h) (Or.inl ⟨by rfl,?_⟩) hHeld ?_ ?_
 rotate_left
 ·rintro w' ⟨s0,s1,s2,s3⟩
  go_simp
  with_reducible rfl
 rotate_left
 ·simp only [Act.put,zz21,zz22,zz23,i64_w,i32_w]
  rfl
 refine take_ (i:=3) (N:=some 8) (v:=?_) (a':=?_) #[T,T,T,T,F,T,F,T,F,F,F,F,F] rfl rfl (take_ofW HT_.out HW_.out (by kernel_rfl)) (fun _ _ _ h=>h) (Or.inl ⟨by rfl,?_⟩) hHeld ?_ ?_
 rotate_left
 ·rintro w' ⟨s0,s1,s2,s3⟩
  go_simp
  with_reducible rfl
 rotate_left
 ·simp only [Act.put,zz21,zz22,zz23,i64_w,i32_w]
  rfl
 refine take_ (i:=6) (N:=some 11) (v:=?_) (a':=?_) #[T,T,T,T,F,T,T,T,F,F,F,F,F] rfl rfl (take_ofW HT_.out HW_.out (by kernel_rfl)) (fun _ _ _ h=>h) (Or.inl ⟨by rfl,?_⟩) hHeld ?_ ?_
 rotate_left
 ·rintro w' ⟨s0,s1,s2,s3⟩
  go_simp
  with_reducible rfl
 rotate_left
 ·simp only [Act.put,zz21,zz22,zz23,i64_w,i32_w]
  rfl
 refine take_ (i:=8) (N:=some 13) (v:=?_) (a':=?_) #[T,T,T,T,F,T,T,T,T,F,F,F,F] rfl rfl (take_ofW HT_.out HW_.out (by kernel_rfl)) (fun _ _ _ h=>h) (Or.inl ⟨by rfl,?_⟩) hHeld ?_ ?_
 rotate_left
 ·rintro w' ⟨s0,s1,s2,s3⟩
  go_simp
  with_reducible rfl
 rotate_left
 ·simp only [Act.put,zz21,zz22,zz23,i64_w,i32_w]
  rfl
 refine one_ (i:=4) (N:=some 9) #[T,T,T,T,T,T,T,T,T,F,F,F,F] rfl rfl (one_of HT_.out (by kernel_rfl)) (by decide) (fun K hK=>?_)
 refine goes_ Tryd.func44 (by kernel_rfl) rfl #[.int .i64 a0_0,.int .i64 a1_0] (by rfl) rfl rfl (by (try simp only [zz26,zz27,zz28]);first | done | rfl | (simp only [zz24,zz25];rfl)) ?_
 with_reducible refine (cmp_Compare_int.calls a0_0 a1_0 t163 _ A3.out).mono ?_
 rintro e w' ⟨rfl,⟨nd,rfl⟩⟩
 refine ⟨_,rfl,?_⟩
 refine hK.out _ _ ⟨(zz9 BK161.out 0).trans rfl,(zz9 BK161.out 1).trans rfl,(zz9 BK162.out 0).trans rfl,(zz9 BK162.out 1).trans rfl⟩ (fun hHeld=>?_)
 clear hK K
 refine norm_ (a':=?_) ?_ ?_
 rotate_left
 ·show Act.put _ (some 9) _=_
  simp only [Act.put,zz21,zz22,zz23,i64_w,i32_w]
  rfl
 refine one_ (i:=9) (N:=some 14) #[T,T,T,T,T,T,T,T,T,T,F,F,F] rfl rfl (one_of HT_.out (by kernel_rfl)) (by decide) (fun K hK=>?_)
 refine goes_ Tryd.func44 (by kernel_rfl) rfl #[.int .i64 a0_1,.int .i64 a1_1] (by rfl) rfl rfl (by (try simp only [zz26,zz27,zz28]);first | done | rfl | (simp only [zz24,zz25];rfl)) ?_
 with_reducible refine (cmp_Compare_int.calls a0_1 a1_1 t164 _ A4.out).mono ?_
 rintro e w' ⟨rfl,⟨nd,rfl⟩⟩
 refine ⟨_,rfl,?_⟩
 refine hK.out _ _ ⟨(zz9 BK161.out 0).trans rfl,(zz9 BK161.out 1).trans rfl,(zz9 BK162.out 0).trans rfl,(zz9 BK162.out 1).trans rfl⟩ (fun hHeld=>?_)
 clear hK K
 refine norm_ (a':=?_) ?_ ?_
 rotate_left
 ·show Act.put _ (some 14) _=_
  simp only [Act.put,zz21,zz22,zz23,i64_w,i32_w]
  rfl
 refine one_ (i:=10) (N:=some 15) #[T,T,T,T,T,T,T,T,T,T,T,F,F] rfl rfl (one_of HT_.out (by kernel_rfl)) (by decide) (fun K hK=>?_)
 refine Kd.R_lit_step (Kd.int .i64) _ 3 ?hg (N:=15) ?hd (xs:=([t163,t164]:List Int)) (inner:=[.int .i64 t163,.int .i64 t164]) (ok:=fun _=>True) (okp:=fun _=>True) ?hr ?hp (fun _ hk=>hk) trivial (Below.refl _ _) (Nat.le_refl _) (by simp) ?_;(case hd=>rfl);(case hg=>rfl);(case hr=>first | (go_simp;done) | (go_simp;rfl));(case hp=>exact (Reps.one (show Kd.M (Kd.int .i64) _ _ _ t163 [.int .i64 t163] from rfl) (Reps.one (show Kd.M (Kd.int .i64) _ _ _ t164 [.int .i64 t164] from rfl) (Reps.none _ _))))
 intro v166 w9 ho10 hb hg_ hnew_
 clear hg_ hnew_
 (first | rw [← Ny165.out] at ho10 | (simp only [Int.reduceToNat] at ho10;rw [← Ny165.out] at ho10))
 have n0_:=zz31 (Kd.R_lower ho10 (zz5 (by repeat first | exact HB.out | apply zz2 | apply zz0 | apply zz1 | refine zz3 ?_ GE161.out | refine zz3 ?_ GE162.out)))
 have n1_:=zz31 (zz11 (g:=gb161) (o:=.cells #[.int .i64 a0_0,.int .i64 a0_1] 50 (0,0)) (by (with_reducible repeat (first | refine zz6 ?_ _ | refine zz7 ?_ | refine zz8 ?_ _));exact BK161.out) hb)
 have n2_:=zz31 (zz11 (g:=gb162) (o:=.cells #[.int .i64 a1_0,.int .i64 a1_1] 50 (0,0)) (by (with_reducible repeat (first | refine zz6 ?_ _ | refine zz7 ?_ | refine zz8 ?_ _));exact BK162.out) hb)
 have n3_:=zz31 (zz4 (by repeat first | exact HB.out | apply zz2 | apply zz0 | apply zz1 | refine zz3 ?_ GE161.out | refine zz3 ?_ GE162.out) hb)
 clear BK161
 clear BK162
 clear HB
 have HO167:=n0_
 have BK161:=n1_
 have BK162:=n2_
 have HB:=n3_
 clear n0_ n1_ n2_ n3_
 clear hb ho10
 obtain ⟨Ao11,co11,eo11⟩:=Kd.R_slice HO167.out
 (first | subst eo11 | (injection eo11 with f1_ f2_ f3_;have f4_:=f1_.symm;have f5_:=f3_.symm;clear f1_ f2_ f3_;subst f4_;subst f5_))
 refine hK.out _ _ ⟨(zz9 BK161.out 0).trans rfl,(zz9 BK161.out 1).trans rfl,(zz9 BK162.out 0).trans rfl,(zz9 BK162.out 1).trans rfl⟩ (fun hHeld=>?_)
 clear hK K
 refine norm_ (a':=?_) ?_ ?_
 rotate_left
 ·show Act.put _ (some 15) _=_
  simp only [Act.put,zz21,zz22,zz23,i64_w,i32_w]
  rfl
 refine one_ (i:=11) (N:=some 16) #[T,T,T,T,T,T,T,T,T,T,T,T,F] rfl rfl (one_of HT_.out (by kernel_rfl)) (by decide) (fun K hK=>?_)
 refine goes_ Tryd.func43 (by kernel_rfl) rfl #[.slice Ao11 y165.length co11] (by rfl) rfl rfl (by (try simp only [zz26,zz27,zz28]);first | done | rfl | (simp only [zz24,zz25];rfl)) ?_
 with_reducible refine (cmp_Or_int.calls k _ _ y165 t168 _ ?side1 ?side2 A5.out).mono ?_
 (case side1=>repeat (first | exact (Kd.R_reads' HO167.out).2.2 | (with_reducible refine zz18 ?_ _) | (with_reducible refine zz19 ?_ _) | (with_reducible refine zz20 ?_)))
 (case side2=>exact (Kd.R_reads' HO167.out).2.1)
 rintro e w' ⟨rfl,⟨nd,rfl⟩⟩
 refine ⟨_,rfl,?_⟩
 refine hK.out _ _ ⟨(zz9 BK161.out 0).trans rfl,(zz9 BK161.out 1).trans rfl,(zz9 BK162.out 0).trans rfl,(zz9 BK162.out 1).trans rfl⟩ (fun hHeld=>?_)
 clear hK K
 refine norm_ (a':=?_) ?_ ?_
 rotate_left
 ·show Act.put _ (some 16) _=_
  simp only [Act.put,zz21,zz22,zz23,i64_w,i32_w]
  rfl
 refine pure_ (i:=12) (N:=some 4) (v:=?_) (a':=?_) #[T,T,T,T,T,T,T,T,T,T,T,T,T] rfl rfl (any_of HT_.out (by kernel_rfl)) (fun _ _ _ h=>h) (Or.inl ⟨by rfl,?_⟩) ?_ ?_
 rotate_left
 ·intro w'
  go_simp
  with_reducible rfl
 rotate_left
 ·simp only [Act.put,zz21,zz22,zz23,i64_w,i32_w]
  rfl
 refine done_ (done_of HT_.out (by kernel_rfl)) ?_
 try go_wp2
 go_ret
 exact ⟨by first | rfl | (simp [errW_none,errW_some] <;> rfl) | (simp [*,errW_none,errW_some] <;> rfl),by repeat first | exact HB.out | apply zz2 | apply zz0 | apply zz1 | refine zz3 ?_ GE161.out | refine zz3 ?_ GE162.out⟩

/-! ### impl_within: function 45 -/
def impl_within.f (a0:Int) (a1:Int) (a2:Int):Option (Bool):=if a1≤a0 then (some (decide (a0≤a2))) else (some false)
set_option maxHeartbeats 8000000 in
set_option maxRecDepth 100000 in
theorem impl_within.calls (a0:Int) (a1:Int) (a2:Int) (r:Bool) (w:World) (h:impl_within.f a0 a1 a2=some r) :
  Calls Tryd.prog 45 #[.int .i64 a0,.int .i64 a1,.int .i64 a2] w fun e w'=>e=.returned (.bool r)∧Drawn0 w w':=by
 have H:(if a1≤a0 then (some (decide (a0≤a2))) else (some false))=some r:=h
 clear h
 by_cases c4:a1≤a0
 ·rw [if_pos c4] at H
  have c4b0:decide (a1≤a0)=true:=decide_eq_true c4
  clear c4
  obtain rfl:=Option.some.inj H
  go_enter Tryd.func45,Tryd.ntmps45
  go_wp2
  go_ret
  exact ⟨by first | rfl | (simp;done) | (simp [*];done),by repeat (first | exact Drawn0.refl _ | apply Drawn0.step)⟩
 ·rw [if_neg c4] at H
  have c4b0:decide (a1≤a0)=false:=decide_eq_false c4
  clear c4
  obtain rfl:=Option.some.inj H
  go_enter Tryd.func45,Tryd.ntmps45
  go_wp2
  go_ret
  exact ⟨by first | rfl | (simp;done) | (simp [*];done),by repeat (first | exact Drawn0.refl _ | apply Drawn0.step)⟩

/-! ### impl_areCrowd: function 32 -/
def impl_areCrowd.f (a0:Int):Option (Bool):=(impl_within.f a0 0 12).bind fun t169=>(some t169)
set_option maxHeartbeats 8000000 in
set_option maxRecDepth 100000 in
theorem impl_areCrowd.calls (a0:Int) (r:Bool) (w:World) (h:impl_areCrowd.f a0=some r) :
  Calls Tryd.prog 32 #[.int .i64 a0] w fun e w'=>e=.returned (.bool r)∧Drawn0 w w':=by
 have H:((impl_within.f a0 0 12).bind fun t169=>(some t169))=some r:=h
 clear h
 replace H:=zz30.mp H
 obtain ⟨t169,A20,H⟩:=H
 replace H:(some t169)=some r:=H
 have A2:=zz31 A20
 clear A20
 obtain rfl:=Option.some.inj H
 go_enter Tryd.func32,Tryd.ntmps32
 go_wp2_with (first | ((with_reducible refine gate_callee (f:=45) rfl ?_);refine goesL_ (some 4) rfl rfl Tryd.func45 (by kernel_rfl) rfl #[.int .i64 a0,.int .i64 0,.int .i64 12] rfl (by (try simp only [zz26,zz27,zz28]);first | done | rfl | (simp only [zz24,zz25];rfl)) ?_;(with_reducible refine (impl_within.calls a0 0 12 t169 _ A2.out).mono ?_);rintro e w' ⟨rfl,⟨nd,rfl⟩⟩;refine ⟨_,rfl,?_⟩))
 go_ret
 exact ⟨by first | rfl | (simp;done) | (simp [*];done),by repeat (first | exact Drawn0.refl _ | apply Drawn0.step)⟩

end Go.Proofs.YtoedkkoafidalaaDoor.P
