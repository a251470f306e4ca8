-- PRINTED by print.py (a twelfth state) out of the translation. Not trusted: Lean checks it.
import Derived.Test.YtjipjcdeoajnjaaPx0
import Derived.Test.YtjipjcdeoajnjaaPx1
namespace Go.Proofs.Ytjipjcdeoajnjaa.P
open Go.RowKit Go.Proofs.YtjipjcdeoajnjaaW.PrintWords Go.Proofs.YtjipjcdeoajnjaaW.PrintLast Go.Proofs.YtjipjcdeoajnjaaW.PrintMore
open Bool renaming true → T, false → F
attribute [local go_sem] max2_int min2_int max_two min_two max_three min_three max_four min_four   -- for this text's walks alone
set_option linter.unusedVariables false
set_option linter.unusedSimpArgs false

/-! ### spec_TreeOfNumbers: function 26 -/
mutual
def spec_TreeOfNumbers.j0:Nat→List Int→Int→Bool→Option (Int × (List (S80)) × Bool)
 | 0,_,_,_=>none
 | k+1,x0,x4,x34=>if x34=true then (some (0,([]:List (S80)),false)) else ((spec_l1Own.f x0).bind fun t165=>((spec_paTable.f k x4 ([]:List (S80))).bind fun t168=>(spec_TreeOfNumbers.l0 k x4 t165 t168 0)))
def spec_TreeOfNumbers.l0:Nat→Int→List Int→List (List Bool)→Int→Option (Int × (List (S80)) × Bool)
 | 0,_,_,_,_=>none
 | k+1,x4,x5,x6,x7=>if x7 < (wrap64 (x4 - 1)) then (spec_TreeOfNumbers.l1 k x4 x5 x6 x7 (-1) (-1) x5 (x5.length:Int) 0) else ((spec_paOf.f k x6).bind fun bt171=>(some (bt171.1,bt171.2,true)))
def spec_TreeOfNumbers.l1:Nat→Int→List Int→List (List Bool)→Int→Int→Int→List Int→Int→Int→Option (Int × (List (S80)) × Bool)
 | 0,_,_,_,_,_,_,_,_,_=>none
 | k+1,x4,x5,x6,x7,x8,x9,x47,x48,x49=>if x49 < x48 then (if 0≤x49 then (if x49 < (x47.length:Int) then (if (rd x47 x49)=1 then (spec_TreeOfNumbers.j3 k x4 x5 x6 x7 x8 x9 x49 (rd x47 x49) x47 x48 x49 (decide (x8 < 0))) else (spec_TreeOfNumbers.j3 k x4 x5 x6 x7 x8 x9 x49 (rd x47 x49) x47 x48 x49 false)) else (none)) else (none)) else (spec_TreeOfNumbers.l2 k x4 x5 x6 x7 x8 x9 x5 (x5.length:Int) 0)
def spec_TreeOfNumbers.j3:Nat→Int→List Int→List (List Bool)→Int→Int→Int→Int→Int→List Int→Int→Int→Bool→Option (Int × (List (S80)) × Bool)
 | 0,_,_,_,_,_,_,_,_,_,_,_,_=>none
 | k+1,x4,x5,x6,x7,x8,x9,x10,x11,x47,x48,x49,x59=>if x59=true then (if x11 > 1 then (if x9 < 0 then (spec_TreeOfNumbers.l1 k x4 x5 x6 x7 x10 x10 x47 x48 (wrap64 (x49+1))) else (spec_TreeOfNumbers.l1 k x4 x5 x6 x7 x10 x9 x47 x48 (wrap64 (x49+1)))) else (spec_TreeOfNumbers.l1 k x4 x5 x6 x7 x10 x9 x47 x48 (wrap64 (x49+1)))) else (if x11 > 1 then (if x9 < 0 then (spec_TreeOfNumbers.l1 k x4 x5 x6 x7 x8 x10 x47 x48 (wrap64 (x49+1))) else (spec_TreeOfNumbers.l1 k x4 x5 x6 x7 x8 x9 x47 x48 (wrap64 (x49+1)))) else (spec_TreeOfNumbers.l1 k x4 x5 x6 x7 x8 x9 x47 x48 (wrap64 (x49+1))))
def spec_TreeOfNumbers.l2:Nat→Int→List Int→List (List Bool)→Int→Int→Int→List Int→Int→Int→Option (Int × (List (S80)) × Bool)
 | 0,_,_,_,_,_,_,_,_,_=>none
 | k+1,x4,x5,x6,x7,x8,x9,x69,x70,x71=>if x71 < x70 then (if 0≤x71 then (if x71 < (x69.length:Int) then (if x9 < 0 then (if (rd x69 x71)=1 then (if x71=x8 then (spec_TreeOfNumbers.l2 k x4 x5 x6 x7 x8 x9 x69 x70 (wrap64 (x71+1))) else (spec_TreeOfNumbers.l2 k x4 x5 x6 x7 x8 x71 x69 x70 (wrap64 (x71+1)))) else (spec_TreeOfNumbers.l2 k x4 x5 x6 x7 x8 x9 x69 x70 (wrap64 (x71+1)))) else (spec_TreeOfNumbers.l2 k x4 x5 x6 x7 x8 x9 x69 x70 (wrap64 (x71+1)))) else (none)) else (none)) else (if 0≤x8 then (if x8 < (x5.length:Int) then ((some (x5.set (x8:Int).toNat (wrap64 ((rd x5 x8) - 1)):List Int)).bind fun y178=>(if 0≤x9 then (if x9 < (x5.length:Int) then (if x8 < (x6.length:Int) then (if x9 < ((rd_L3 x6 x8).length:Int) then ((some (x6.set (x8:Int).toNat ((rd_L3 x6 x8).set (x9:Int).toNat true):List (List Bool))).bind fun y184=>(if x9 < (x6.length:Int) then (if x8 < ((rd_L3 y184 x9).length:Int) then (spec_TreeOfNumbers.l0 k x4 (y178.set (x9:Int).toNat (wrap64 ((rd y178 x9) - 1))) (y184.set (x9:Int).toNat ((rd_L3 y184 x9).set (x8:Int).toNat true)) (wrap64 (x7+1))) else (none)) else (none))) else (none)) else (none)) else (none)) else (none))) else (none)) else (none))
end
def spec_TreeOfNumbers.f (k:Nat) (l0:List Int):Option (Int × (List (S80)) × Bool):=(spec_deGood.f k l0).bind fun t162=>(if t162=true then (if (l0.length:Int) < 2 then (spec_TreeOfNumbers.j0 k l0 (l0.length:Int) true) else ((spec_l1Has.f k l0 0).bind fun t163=>(if t163=true then (spec_TreeOfNumbers.j0 k l0 (l0.length:Int) true) else ((spec_deSum.f k l0).bind fun t164=>(spec_TreeOfNumbers.j0 k l0 (l0.length:Int) (t164 != (wrap64 (2 * (wrap64 ((l0.length:Int) - 1)))))))))) else (spec_TreeOfNumbers.j0 k l0 (l0.length:Int) true))
theorem spec_TreeOfNumbers.mono_l:∀ k,(∀ y0 y1 y2,LeO (spec_TreeOfNumbers.j0 k y0 y1 y2) (spec_TreeOfNumbers.j0 (k+1) y0 y1 y2))∧(∀ y0 y1 y2 y3,LeO (spec_TreeOfNumbers.l0 k y0 y1 y2 y3) (spec_TreeOfNumbers.l0 (k+1) y0 y1 y2 y3))∧(∀ y0 y1 y2 y3 y4 y5 y6 y7 y8,LeO (spec_TreeOfNumbers.l1 k y0 y1 y2 y3 y4 y5 y6 y7 y8) (spec_TreeOfNumbers.l1 (k+1) y0 y1 y2 y3 y4 y5 y6 y7 y8))∧(∀ y0 y1 y2 y3 y4 y5 y6 y7 y8 y9 y10 y11,LeO (spec_TreeOfNumbers.j3 k y0 y1 y2 y3 y4 y5 y6 y7 y8 y9 y10 y11) (spec_TreeOfNumbers.j3 (k+1) y0 y1 y2 y3 y4 y5 y6 y7 y8 y9 y10 y11))∧(∀ y0 y1 y2 y3 y4 y5 y6 y7 y8,LeO (spec_TreeOfNumbers.l2 k y0 y1 y2 y3 y4 y5 y6 y7 y8) (spec_TreeOfNumbers.l2 (k+1) y0 y1 y2 y3 y4 y5 y6 y7 y8))
 | 0=>⟨fun _ _ _ r h=>by simp [spec_TreeOfNumbers.j0] at h,fun _ _ _ _ r h=>by simp [spec_TreeOfNumbers.l0] at h,fun _ _ _ _ _ _ _ _ _ r h=>by simp [spec_TreeOfNumbers.l1] at h,fun _ _ _ _ _ _ _ _ _ _ _ _ r h=>by simp [spec_TreeOfNumbers.j3] at h,fun _ _ _ _ _ _ _ _ _ r h=>by simp [spec_TreeOfNumbers.l2] at h⟩
 | k+1=>by
  obtain ⟨ih0,ih1,ih2,ih3,ih4⟩:=spec_TreeOfNumbers.mono_l k
  refine ⟨?_,?_,?_,?_,?_⟩
  ·intro y0 y1 y2
   unfold spec_TreeOfNumbers.j0
   repeat' first
   | (with_reducible exact ih0 _ _ _)
   | (with_reducible exact ih1 _ _ _ _)
   | (with_reducible exact ih2 _ _ _ _ _ _ _ _ _)
   | (with_reducible exact ih3 _ _ _ _ _ _ _ _ _ _ _ _)
   | (with_reducible exact ih4 _ _ _ _ _ _ _ _ _)
   | (with_reducible exact spec_deGood.mono _ _)
   | (with_reducible exact spec_deSum.mono _ _)
   | (with_reducible exact spec_l1Has.mono _ _ _)
   | (with_reducible exact spec_paOf.mono _ _)
   | (with_reducible exact spec_paTable.mono _ _ _)
   | (with_reducible exact LeO.refl _)
   | (with_reducible exact LeO.none _)
   | (with_reducible refine LeO.ite ?_ ?_)
   | (with_reducible refine LeO.bind ?_ (fun _=>?_))
   | exact ih0 _ _ _
   | exact ih1 _ _ _ _
   | exact ih2 _ _ _ _ _ _ _ _ _
   | exact ih3 _ _ _ _ _ _ _ _ _ _ _ _
   | exact ih4 _ _ _ _ _ _ _ _ _
   | exact spec_deGood.mono _ _
   | exact spec_deSum.mono _ _
   | exact spec_l1Has.mono _ _ _
   | exact spec_paOf.mono _ _
   | exact spec_paTable.mono _ _ _
   | exact LeO.none _
   | refine LeO.ite ?_ ?_
   | refine LeO.bind ?_ (fun _=>?_)
  ·intro y0 y1 y2 y3
   unfold spec_TreeOfNumbers.l0
   repeat' first
   | (with_reducible exact ih0 _ _ _)
   | (with_reducible exact ih1 _ _ _ _)
   | (with_reducible exact ih2 _ _ _ _ _ _ _ _ _)
   | (with_reducible exact ih3 _ _ _ _ _ _ _ _ _ _ _ _)
   | (with_reducible exact ih4 _ _ _ _ _ _ _ _ _)
   | (with_reducible exact spec_deGood.mono _ _)
   | (with_reducible exact spec_deSum.mono _ _)
   | (with_reducible exact spec_l1Has.mono _ _ _)
   | (with_reducible exact spec_paOf.mono _ _)
   | (with_reducible exact spec_paTable.mono _ _ _)
   | (with_reducible exact LeO.refl _)
   | (with_reducible exact LeO.none _)
   | (with_reducible refine LeO.ite ?_ ?_)
   | (with_reducible refine LeO.bind ?_ (fun _=>?_))
   | exact ih0 _ _ _
   | exact ih1 _ _ _ _
   | exact ih2 _ _ _ _ _ _ _ _ _
   | exact ih3 _ _ _ _ _ _ _ _ _ _ _ _
   | exact ih4 _ _ _ _ _ _ _ _ _
   | exact spec_deGood.mono _ _
   | exact spec_deSum.mono _ _
   | exact spec_l1Has.mono _ _ _
   | exact spec_paOf.mono _ _
   | exact spec_paTable.mono _ _ _
   | exact LeO.none _
   | refine LeO.ite ?_ ?_
   | refine LeO.bind ?_ (fun _=>?_)
  ·intro y0 y1 y2 y3 y4 y5 y6 y7 y8
   unfold spec_TreeOfNumbers.l1
   repeat' first
   | (with_reducible exact ih0 _ _ _)
   | (with_reducible exact ih1 _ _ _ _)
   | (with_reducible exact ih2 _ _ _ _ _ _ _ _ _)
   | (with_reducible exact ih3 _ _ _ _ _ _ _ _ _ _ _ _)
   | (with_reducible exact ih4 _ _ _ _ _ _ _ _ _)
   | (with_reducible exact spec_deGood.mono _ _)
   | (with_reducible exact spec_deSum.mono _ _)
   | (with_reducible exact spec_l1Has.mono _ _ _)
   | (with_reducible exact spec_paOf.mono _ _)
   | (with_reducible exact spec_paTable.mono _ _ _)
   | (with_reducible exact LeO.refl _)
   | (with_reducible exact LeO.none _)
   | (with_reducible refine LeO.ite ?_ ?_)
   | (with_reducible refine LeO.bind ?_ (fun _=>?_))
   | exact ih0 _ _ _
   | exact ih1 _ _ _ _
   | exact ih2 _ _ _ _ _ _ _ _ _
   | exact ih3 _ _ _ _ _ _ _ _ _ _ _ _
   | exact ih4 _ _ _ _ _ _ _ _ _
   | exact spec_deGood.mono _ _
   | exact spec_deSum.mono _ _
   | exact spec_l1Has.mono _ _ _
   | exact spec_paOf.mono _ _
   | exact spec_paTable.mono _ _ _
   | exact LeO.none _
   | refine LeO.ite ?_ ?_
   | refine LeO.bind ?_ (fun _=>?_)
  ·intro y0 y1 y2 y3 y4 y5 y6 y7 y8 y9 y10 y11
   unfold spec_TreeOfNumbers.j3
   repeat' first
   | (with_reducible exact ih0 _ _ _)
   | (with_reducible exact ih1 _ _ _ _)
   | (with_reducible exact ih2 _ _ _ _ _ _ _ _ _)
   | (with_reducible exact ih3 _ _ _ _ _ _ _ _ _ _ _ _)
   | (with_reducible exact ih4 _ _ _ _ _ _ _ _ _)
   | (with_reducible exact spec_deGood.mono _ _)
   | (with_reducible exact spec_deSum.mono _ _)
   | (with_reducible exact spec_l1Has.mono _ _ _)
   | (with_reducible exact spec_paOf.mono _ _)
   | (with_reducible exact spec_paTable.mono _ _ _)
   | (with_reducible exact LeO.refl _)
   | (with_reducible exact LeO.none _)
   | (with_reducible refine LeO.ite ?_ ?_)
   | (with_reducible refine LeO.bind ?_ (fun _=>?_))
   | exact ih0 _ _ _
   | exact ih1 _ _ _ _
   | exact ih2 _ _ _ _ _ _ _ _ _
   | exact ih3 _ _ _ _ _ _ _ _ _ _ _ _
   | exact ih4 _ _ _ _ _ _ _ _ _
   | exact spec_deGood.mono _ _
   | exact spec_deSum.mono _ _
   | exact spec_l1Has.mono _ _ _
   | exact spec_paOf.mono _ _
   | exact spec_paTable.mono _ _ _
   | exact LeO.none _
   | refine LeO.ite ?_ ?_
   | refine LeO.bind ?_ (fun _=>?_)
  ·intro y0 y1 y2 y3 y4 y5 y6 y7 y8
   unfold spec_TreeOfNumbers.l2
   repeat' first
   | (with_reducible exact ih0 _ _ _)
   | (with_reducible exact ih1 _ _ _ _)
   | (with_reducible exact ih2 _ _ _ _ _ _ _ _ _)
   | (with_reducible exact ih3 _ _ _ _ _ _ _ _ _ _ _ _)
   | (with_reducible exact ih4 _ _ _ _ _ _ _ _ _)
   | (with_reducible exact spec_deGood.mono _ _)
   | (with_reducible exact spec_deSum.mono _ _)
   | (with_reducible exact spec_l1Has.mono _ _ _)
   | (with_reducible exact spec_paOf.mono _ _)
   | (with_reducible exact spec_paTable.mono _ _ _)
   | (with_reducible exact LeO.refl _)
   | (with_reducible exact LeO.none _)
   | (with_reducible refine LeO.ite ?_ ?_)
   | (with_reducible refine LeO.bind ?_ (fun _=>?_))
   | exact ih0 _ _ _
   | exact ih1 _ _ _ _
   | exact ih2 _ _ _ _ _ _ _ _ _
   | exact ih3 _ _ _ _ _ _ _ _ _ _ _ _
   | exact ih4 _ _ _ _ _ _ _ _ _
   | exact spec_deGood.mono _ _
   | exact spec_deSum.mono _ _
   | exact spec_l1Has.mono _ _ _
   | exact spec_paOf.mono _ _
   | exact spec_paTable.mono _ _ _
   | exact LeO.none _
   | refine LeO.ite ?_ ?_
   | refine LeO.bind ?_ (fun _=>?_)
theorem spec_TreeOfNumbers.mono:∀ a0 k,LeO (spec_TreeOfNumbers.f k a0) (spec_TreeOfNumbers.f (k+1) a0):=by
 intro a0 k
 obtain ⟨ih0,ih1,ih2,ih3,ih4⟩:=spec_TreeOfNumbers.mono_l k
 unfold spec_TreeOfNumbers.f
 repeat' first
   | (with_reducible exact ih0 _ _ _)
   | (with_reducible exact ih1 _ _ _ _)
   | (with_reducible exact ih2 _ _ _ _ _ _ _ _ _)
   | (with_reducible exact ih3 _ _ _ _ _ _ _ _ _ _ _ _)
   | (with_reducible exact ih4 _ _ _ _ _ _ _ _ _)
   | (with_reducible exact spec_deGood.mono _ _)
   | (with_reducible exact spec_deSum.mono _ _)
   | (with_reducible exact spec_l1Has.mono _ _ _)
   | (with_reducible exact spec_paOf.mono _ _)
   | (with_reducible exact spec_paTable.mono _ _ _)
   | (with_reducible exact LeO.refl _)
   | (with_reducible exact LeO.none _)
   | (with_reducible refine LeO.ite ?_ ?_)
   | (with_reducible refine LeO.bind ?_ (fun _=>?_))
   | exact ih0 _ _ _
   | exact ih1 _ _ _ _
   | exact ih2 _ _ _ _ _ _ _ _ _
   | exact ih3 _ _ _ _ _ _ _ _ _ _ _ _
   | exact ih4 _ _ _ _ _ _ _ _ _
   | exact spec_deGood.mono _ _
   | exact spec_deSum.mono _ _
   | exact spec_l1Has.mono _ _ _
   | exact spec_paOf.mono _ _
   | exact spec_paTable.mono _ _ _
   | exact LeO.none _
   | refine LeO.ite ?_ ?_
   | refine LeO.bind ?_ (fun _=>?_)
set_option maxHeartbeats 8000000 in
set_option maxRecDepth 100000 in
theorem spec_TreeOfNumbers.calls (k:Nat) (A0:Option Addr) (c0:Nat) (l0:List Int) (r1:Int) (r2:List (S80)) (r3:Bool) (w:World) (hr0:Kd.C (Kd.int .i64) w A0 l0.length l0) (hc0:l0.length≤c0) (h:spec_TreeOfNumbers.f k l0=some (r1,r2,r3)) :
  Calls Try.prog 26 #[.slice A0 l0.length c0] w fun e w'=>∃ v1_:Value,e=.returned (.tuple #[.agg #[.int .i64 r1,v1_],.bool r3])∧Kd.R k80 80 w' w.heap.size (fun _=>True) v1_ r2∧Below w.heap.size w w':=by
 have hu32:=Try.underlying32
 have HR0:=zz31 hr0
 have HC0:=zz31 hc0
 clear hr0 hc0
 have HB:=zz31 (Below.refl w.heap.size w)
 have H:((spec_deGood.f k l0).bind fun t162=>(if t162=true then (if (l0.length:Int) < 2 then (spec_TreeOfNumbers.j0 k l0 (l0.length:Int) true) else ((spec_l1Has.f k l0 0).bind fun t163=>(if t163=true then (spec_TreeOfNumbers.j0 k l0 (l0.length:Int) true) else ((spec_deSum.f k l0).bind fun t164=>(spec_TreeOfNumbers.j0 k l0 (l0.length:Int) (t164 != (wrap64 (2 * (wrap64 ((l0.length:Int) - 1)))))))))) else (spec_TreeOfNumbers.j0 k l0 (l0.length:Int) true)))=some (r1,r2,r3):=h
 clear h
 have HC2:=zz31 H
 clear H
 go_enter Try.func26,Try.ntmps26
 go_upto_region 2 with (first | ((with_reducible refine gate_dst (N:=2) rfl ?_);refine box_event ?hg (N:=2) ?hd (cs:=#[.int .i64 0,.slice none 0 0]) (t:=32) ?hr ?_;(case hd=>rfl);(case hg=>rfl);(case hr=>first | (go_simp;done) | (go_simp;rfl));intro gb161 hg w3 hbox hb;have n0_:=zz31 (zz4 (by repeat first | exact HB.out | apply zz2 | apply zz0 | apply zz1) hb);have n1_:=zz31 (hbox);have n2_:=zz31 ((by rw [hg];exact (zz5 (by repeat first | exact HB.out | apply zz2 | apply zz0 | apply zz1)):w.heap.size≤gb161));have n3_:=zz31 ((by rw [hg];exact (zz5 (by repeat first | exact HB.out | apply zz2 | apply zz0 | apply zz1)):w.heap.size≤gb161));clear HB;have HB:=n0_;have BK161:=n1_;have GW161:=n2_;have GE161:=n3_;clear n0_ n1_ n2_ n3_;clear hb hbox hg))
 (try simp only [Act.put,zz21,zz22,zz23])
 go_cut [34] (fun v34 wc=>∃ (kq:Nat) (x34_1:Bool),v34=.bool x34_1∧Aside0 (spec_TreeOfNumbers.j0 kq l0 (l0.length:Int) x34_1=some (r1,r2,r3))∧Aside0 (kq≤k)∧Aside0 (wc.heap[gb161]?=some (.cells #[.int .i64 0,(.slice none 0 0)] 32 (0,0)))∧Aside0 (Below w.heap.size w wc))
 case first =>
  have H:=HC2.out
  clear HC2
  replace H:=zz30.mp H
  obtain ⟨t162,A40,H⟩:=H
  replace H:(if t162=true then (if (l0.length:Int) < 2 then (spec_TreeOfNumbers.j0 k l0 (l0.length:Int) true) else ((spec_l1Has.f k l0 0).bind fun t163=>(if t163=true then (spec_TreeOfNumbers.j0 k l0 (l0.length:Int) true) else ((spec_deSum.f k l0).bind fun t164=>(spec_TreeOfNumbers.j0 k l0 (l0.length:Int) (t164 != (wrap64 (2 * (wrap64 ((l0.length:Int) - 1)))))))))) else (spec_TreeOfNumbers.j0 k l0 (l0.length:Int) true))=some (r1,r2,r3):=H
  have A4:=zz31 A40
  clear A40
  by_cases c5:t162=true
  ·subst c5
   have H1:(if (l0.length:Int) < 2 then (spec_TreeOfNumbers.j0 k l0 (l0.length:Int) true) else ((spec_l1Has.f k l0 0).bind fun t163=>(if t163=true then (spec_TreeOfNumbers.j0 k l0 (l0.length:Int) true) else ((spec_deSum.f k l0).bind fun t164=>(spec_TreeOfNumbers.j0 k l0 (l0.length:Int) (t164 != (wrap64 (2 * (wrap64 ((l0.length:Int) - 1))))))))))=some (r1,r2,r3):=by rw [if_pos rfl] at H;exact H
   clear H
   have H:=H1
   clear H1
   by_cases c6:(l0.length:Int) < 2
   ·rw [if_pos c6] at H
    have c6b0:decide ((l0.length:Int) < 2)=true:=decide_eq_true c6
    have c6b1:decide (l0.length < 2)=true:=decide_eq_true (by omega)
    clear c6
    (first | rw [c6b0] | (simp only [i64_w,i32_w];rw [c6b0]) | skip)
    have H':=zz31 H
    clear H
    go_wp2_with (first | ((with_reducible refine gate_callee (f:=56) rfl ?_);refine goesL_ (some 17) rfl rfl Try.func56 (by kernel_rfl) rfl #[.slice A0 l0.length c0] rfl (by (try simp only [zz26,zz27,zz28]);first | done | rfl | (simp only [zz24,zz25];rfl)) ?_;(with_reducible refine (spec_deGood.calls k _ _ l0 true _ ?side1 ?side2 A4.out).mono ?_);(case side1=>repeat (first | exact (Kd.C_below HR0.out HB.out) | (with_reducible refine zz18 ?_ _) | (with_reducible refine zz19 ?_ _) | (with_reducible refine zz20 ?_)));(case side2=>exact HC0.out);rintro e w' ⟨rfl,⟨nd,rfl⟩⟩;refine ⟨_,rfl,?_⟩))
    go_meet
    case rel=>exact ⟨_,(true),(by first | rfl | (simp;done) | (simp [*];done)),H',⟨by first | omega | exact Nat.le_refl _⟩,⟨by (with_reducible repeat (first | refine zz6 ?_ _ | refine zz7 ?_ | refine zz8 ?_ _));exact BK161.out⟩,⟨by repeat first | exact HB.out | apply zz2 | apply zz0 | apply zz1 | refine zz3 ?_ GE161.out⟩⟩
   ·rw [if_neg c6] at H
    have c6b0:decide ((l0.length:Int) < 2)=false:=decide_eq_false c6
    have c6b1:decide (l0.length < 2)=false:=decide_eq_false (by omega)
    clear c6
    (first | rw [c6b0] | (simp only [i64_w,i32_w];rw [c6b0]) | skip)
    replace H:=zz30.mp H
    obtain ⟨t163,A70,H⟩:=H
    replace H:(if t163=true then (spec_TreeOfNumbers.j0 k l0 (l0.length:Int) true) else ((spec_deSum.f k l0).bind fun t164=>(spec_TreeOfNumbers.j0 k l0 (l0.length:Int) (t164 != (wrap64 (2 * (wrap64 ((l0.length:Int) - 1))))))))=some (r1,r2,r3):=H
    have A7:=zz31 A70
    clear A70
    by_cases c8:t163=true
    ·subst c8
     have H1:(spec_TreeOfNumbers.j0 k l0 (l0.length:Int) true)=some (r1,r2,r3):=by rw [if_pos rfl] at H;exact H
     clear H
     have H:=H1
     clear H1
     have H':=zz31 H
     clear H
     go_wp2_with (first | ((with_reducible refine gate_callee (f:=56) rfl ?_);refine goesL_ (some 17) rfl rfl Try.func56 (by kernel_rfl) rfl #[.slice A0 l0.length c0] rfl (by (try simp only [zz26,zz27,zz28]);first | done | rfl | (simp only [zz24,zz25];rfl)) ?_;(with_reducible refine (spec_deGood.calls k _ _ l0 true _ ?side1 ?side2 A4.out).mono ?_);(case side1=>repeat (first | exact (Kd.C_below HR0.out HB.out) | (with_reducible refine zz18 ?_ _) | (with_reducible refine zz19 ?_ _) | (with_reducible refine zz20 ?_)));(case side2=>exact HC0.out);rintro e w' ⟨rfl,⟨nd,rfl⟩⟩;refine ⟨_,rfl,?_⟩) | (go_at_call 57;(with_reducible refine (spec_l1Has.calls k _ _ l0 0 true _ ?side1 ?side2 A7.out).mono ?_);(case side1=>repeat (first | exact (Kd.C_below HR0.out (by repeat first | exact HB.out | apply zz2 | apply zz0 | apply zz1 | refine zz3 ?_ GE161.out)) | (with_reducible refine zz18 ?_ _) | (with_reducible refine zz19 ?_ _) | (with_reducible refine zz20 ?_)));(case side2=>exact HC0.out);rintro e w' ⟨rfl,⟨nd,rfl⟩⟩))
     go_meet
     case rel=>exact ⟨_,(true),(by first | rfl | (simp;done) | (simp [*];done)),H',⟨by first | omega | exact Nat.le_refl _⟩,⟨by (with_reducible repeat (first | refine zz6 ?_ _ | refine zz7 ?_ | refine zz8 ?_ _));exact BK161.out⟩,⟨by repeat first | exact HB.out | apply zz2 | apply zz0 | apply zz1 | refine zz3 ?_ GE161.out⟩⟩
    ·replace c8:=Bool.eq_false_iff.mpr c8
     subst c8
     have H1:((spec_deSum.f k l0).bind fun t164=>(spec_TreeOfNumbers.j0 k l0 (l0.length:Int) (t164 != (wrap64 (2 * (wrap64 ((l0.length:Int) - 1)))))))=some (r1,r2,r3):=by rw [if_neg (show ¬ (false=true) by decide)] at H;exact H
     clear H
     have H:=H1
     clear H1
     replace H:=zz30.mp H
     obtain ⟨t164,A90,H⟩:=H
     replace H:(spec_TreeOfNumbers.j0 k l0 (l0.length:Int) (t164 != (wrap64 (2 * (wrap64 ((l0.length:Int) - 1))))))=some (r1,r2,r3):=H
     have A9:=zz31 A90
     clear A90
     have H':=zz31 H
     clear H
     go_wp2_with (first | ((with_reducible refine gate_callee (f:=56) rfl ?_);refine goesL_ (some 17) rfl rfl Try.func56 (by kernel_rfl) rfl #[.slice A0 l0.length c0] rfl (by (try simp only [zz26,zz27,zz28]);first | done | rfl | (simp only [zz24,zz25];rfl)) ?_;(with_reducible refine (spec_deGood.calls k _ _ l0 true _ ?side1 ?side2 A4.out).mono ?_);(case side1=>repeat (first | exact (Kd.C_below HR0.out HB.out) | (with_reducible refine zz18 ?_ _) | (with_reducible refine zz19 ?_ _) | (with_reducible refine zz20 ?_)));(case side2=>exact HC0.out);rintro e w' ⟨rfl,⟨nd,rfl⟩⟩;refine ⟨_,rfl,?_⟩) | (go_at_call 57;(with_reducible refine (spec_l1Has.calls k _ _ l0 0 false _ ?side1 ?side2 A7.out).mono ?_);(case side1=>repeat (first | exact (Kd.C_below HR0.out (by repeat first | exact HB.out | apply zz2 | apply zz0 | apply zz1 | refine zz3 ?_ GE161.out)) | (with_reducible refine zz18 ?_ _) | (with_reducible refine zz19 ?_ _) | (with_reducible refine zz20 ?_)));(case side2=>exact HC0.out);rintro e w' ⟨rfl,⟨nd,rfl⟩⟩) | (go_at_call 58;(with_reducible refine (spec_deSum.calls k _ _ l0 t164 _ ?side1 ?side2 A9.out).mono ?_);(case side1=>repeat (first | exact (Kd.C_below HR0.out (by repeat first | exact HB.out | apply zz2 | apply zz0 | apply zz1 | refine zz3 ?_ GE161.out)) | (with_reducible refine zz18 ?_ _) | (with_reducible refine zz19 ?_ _) | (with_reducible refine zz20 ?_)));(case side2=>exact HC0.out);rintro e w' ⟨rfl,⟨nd,rfl⟩⟩))
     go_meet
     case rel=>exact ⟨_,((t164 != (wrap64 (2 * (wrap64 ((l0.length:Int) - 1)))))),(by first | rfl | (simp;done) | (simp [*];done)),H',⟨by first | omega | exact Nat.le_refl _⟩,⟨by (with_reducible repeat (first | refine zz6 ?_ _ | refine zz7 ?_ | refine zz8 ?_ _));exact BK161.out⟩,⟨by repeat first | exact HB.out | apply zz2 | apply zz0 | apply zz1 | refine zz3 ?_ GE161.out⟩⟩
  ·replace c5:=Bool.eq_false_iff.mpr c5
   subst c5
   have H1:(spec_TreeOfNumbers.j0 k l0 (l0.length:Int) true)=some (r1,r2,r3):=by rw [if_neg (show ¬ (false=true) by decide)] at H;exact H
   clear H
   have H:=H1
   clear H1
   have H':=zz31 H
   clear H
   go_wp2_with (first | ((with_reducible refine gate_callee (f:=56) rfl ?_);refine goesL_ (some 17) rfl rfl Try.func56 (by kernel_rfl) rfl #[.slice A0 l0.length c0] rfl (by (try simp only [zz26,zz27,zz28]);first | done | rfl | (simp only [zz24,zz25];rfl)) ?_;(with_reducible refine (spec_deGood.calls k _ _ l0 false _ ?side1 ?side2 A4.out).mono ?_);(case side1=>repeat (first | exact (Kd.C_below HR0.out HB.out) | (with_reducible refine zz18 ?_ _) | (with_reducible refine zz19 ?_ _) | (with_reducible refine zz20 ?_)));(case side2=>exact HC0.out);rintro e w' ⟨rfl,⟨nd,rfl⟩⟩;refine ⟨_,rfl,?_⟩))
   go_meet
   case rel=>exact ⟨_,(true),(by first | rfl | (simp;done) | (simp [*];done)),H',⟨by first | omega | exact Nat.le_refl _⟩,⟨by (with_reducible repeat (first | refine zz6 ?_ _ | refine zz7 ?_ | refine zz8 ?_ _));exact BK161.out⟩,⟨by repeat first | exact HB.out | apply zz2 | apply zz0 | apply zz1 | refine zz3 ?_ GE161.out⟩⟩
 case rest =>
  clear HC2
  try clear c2
  try clear p2
  try clear c5
  try clear c6
  try clear c6b0
  try clear c6b1
  try clear p6
  try clear c8
  obtain ⟨kq,x34_1,rfl,HA,HJ1,BK161,HB⟩:=hcut
  cases kq with
  | zero=>exact absurd HA.out (by simp [spec_TreeOfNumbers.j0])
  | succ kj1 =>
   have H:=HA.out
   clear HA
   simp only [spec_TreeOfNumbers.j0] at H
   by_cases c10:x34_1=true
   ·subst c10
    have H1:(some (0,([]:List (S80)),false))=some (r1,r2,r3):=by rw [if_pos rfl] at H;exact H
    clear H
    have H:=H1
    clear H1
    simp only [Option.some.injEq,Prod.mk.injEq] at H
    obtain ⟨rfl,rfl,rfl⟩:=H
    have hcz11_0:wc.cell? ⟨gb161,0,none⟩=some (.int .i64 0):=(zz9 BK161.out 0).trans rfl
    have hcz11_1:wc.cell? ⟨gb161,1,none⟩=some (.slice none 0 0):=(zz9 BK161.out 1).trans rfl
    have hfz11_0:=zz10 BK161.out 0
    have hfz11_1:=zz10 BK161.out 1
    go_wp2
    refine bodyPost_ret (results_ct rfl _ _ gb161 32 #[.int .i64 0,.slice none 0 0] (0,0) _ rfl (by (with_reducible repeat (first | refine zz6 ?_ _ | refine zz7 ?_ | refine zz8 ?_ _));refine blk_put (cs:=#[.int .i64 0,.slice none 0 0]) ?_ 1 _ rfl;(with_reducible repeat (first | refine zz6 ?_ _ | refine zz7 ?_ | refine zz8 ?_ _));refine blk_put (cs:=#[.int .i64 0,.slice none 0 0]) ?_ 0 _ rfl;(with_reducible repeat (first | refine zz6 ?_ _ | refine zz7 ?_ | refine zz8 ?_ _));exact BK161.out) Try.underlying32 rfl (by kernel_rfl)) rfl ?_
    exact ⟨_,by first | rfl | (simp [errW_none,errW_some] <;> rfl) | (simp [*,errW_none,errW_some] <;> rfl),by first | exact Kd.R_nil _ _ _ _ _ | exact Kd.N_nil _ _ _ _ _ | exact Kd.V_nil _ _ _ _ _ | exact Kd.Q_nil _ _ _ _ _ | exact Kd.S_nil _ _ _ _ _,by repeat first | exact HB.out | apply zz2 | apply zz0 | apply zz1 | refine zz3 ?_ GE161.out⟩
   ·replace c10:=Bool.eq_false_iff.mpr c10
    subst c10
    have H1:((spec_l1Own.f l0).bind fun t165=>((spec_paTable.f kj1 (l0.length:Int) ([]:List (S80))).bind fun t168=>(spec_TreeOfNumbers.l0 kj1 (l0.length:Int) t165 t168 0)))=some (r1,r2,r3):=by rw [if_neg (show ¬ (false=true) by decide)] at H;exact H
    clear H
    have H:=H1
    clear H1
    replace H:=zz30.mp H
    obtain ⟨t165,A120,H⟩:=H
    replace H:((spec_paTable.f kj1 (l0.length:Int) ([]:List (S80))).bind fun t168=>(spec_TreeOfNumbers.l0 kj1 (l0.length:Int) t165 t168 0))=some (r1,r2,r3):=H
    have A12:=zz31 A120
    clear A120
    replace H:=zz30.mp H
    obtain ⟨t168,A130,H⟩:=H
    replace H:(spec_TreeOfNumbers.l0 kj1 (l0.length:Int) t165 t168 0)=some (r1,r2,r3):=H
    have A13:=zz31 A130
    clear A130
    have H':=zz31 H
    clear H
    go_wp2_with (first | ((with_reducible refine gate_callee (f:=59) rfl ?_);refine goesL_ (some 37) rfl rfl Try.func59 (by kernel_rfl) rfl #[.slice A0 l0.length c0] rfl (by (try simp only [zz26,zz27,zz28]);first | done | rfl | (simp only [zz24,zz25];rfl)) ?_;(with_reducible refine (spec_l1Own.calls _ _ l0 t165 _ ?side1 ?side2 A12.out).mono ?_);(case side1=>repeat (first | exact (Kd.C_below HR0.out HB.out) | (with_reducible refine zz18 ?_ _) | (with_reducible refine zz19 ?_ _) | (with_reducible refine zz20 ?_)));(case side2=>exact HC0.out);rintro e w14 ⟨v166,rfl,ho0,hb⟩;refine ⟨_,rfl,?_⟩;have n0_:=zz31 (Kd.R_lower ho0 (zz5 (by repeat first | exact HB.out | apply zz2 | apply zz0 | apply zz1 | refine zz3 ?_ GE161.out)));have n1_:=zz31 (zz11 (g:=gb161) (o:=.cells #[.int .i64 0,.slice none 0 0] 32 (0,0)) (by (with_reducible repeat (first | refine zz6 ?_ _ | refine zz7 ?_ | refine zz8 ?_ _));exact BK161.out) hb);have n2_:=zz31 (zz4 (by repeat first | exact HB.out | apply zz2 | apply zz0 | apply zz1 | refine zz3 ?_ GE161.out) hb);clear BK161;clear HB;have HO167:=n0_;have BK161:=n1_;have HB:=n2_;clear n0_ n1_ n2_;(try clear hb);(try clear hb2);(try clear hk);(try clear hi);(try clear ho0)) | ((with_reducible refine gate_callee (f:=60) rfl ?_);refine goesL_ (some 40) rfl rfl Try.func60 (by kernel_rfl) rfl #[.agg #[.int .i64 (l0.length:Int),.slice none 0 0]] rfl (by (try simp only [zz26,zz27,zz28]);first | done | rfl | (simp only [zz24,zz25];rfl)) ?_;(refine (spec_paTable.calls kj1 (l0.length:Int) _ _ ([]:List (S80)) t168 _ ?side1 ?side2 A13.out).mono ?_);(case side1=>exact Kd.C_nil _ _);(case side2=>exact Nat.le_refl _);rintro e w15 ⟨v169,rfl,ho0,hb⟩;refine ⟨_,rfl,?_⟩;have n0_:=zz31 (Kd.R_below (by (with_reducible repeat (first | apply zz12 | apply zz13 | apply zz14));exact HO167.out) hb);have n1_:=zz31 (Kd.S_lower ho0 (zz5 (by repeat first | exact HB.out | apply zz2 | apply zz0 | apply zz1 | refine zz3 ?_ GE161.out)));have n2_:=zz31 (zz11 (g:=gb161) (o:=.cells #[.int .i64 0,.slice none 0 0] 32 (0,0)) (by (with_reducible repeat (first | refine zz6 ?_ _ | refine zz7 ?_ | refine zz8 ?_ _));exact BK161.out) hb);have n3_:=zz31 (zz4 (by repeat first | exact HB.out | apply zz2 | apply zz0 | apply zz1 | refine zz3 ?_ GE161.out) hb);clear HO167;clear BK161;clear HB;have HO167:=n0_;have HO170:=n1_;have BK161:=n2_;have HB:=n3_;clear n0_ n1_ n2_ n3_;(try clear hb);(try clear hb2);(try clear hk);(try clear hi);(try clear ho0)))
    go_loopg [7] kj1 (fun kq v7 w'=>∃ (x5_2:List Int) (x6_2:List (List Bool)) (x7_2:Int),v7=.int .i64 x7_2∧Aside0 (spec_TreeOfNumbers.l0 kq (l0.length:Int) x5_2 x6_2 x7_2=some (r1,r2,r3))∧Aside0 (kq≤kj1)∧Aside0 (Kd.R (Kd.int .i64) 3 w' w.heap.size (fun _=>True) v166 x5_2)∧Aside0 (Kd.S (Kd.slice 4 Kd.bool) 60 w' w.heap.size (fun _=>True) v169 x6_2)∧Aside0 (w'.heap[gb161]?=some (.cells #[.int .i64 0,(.slice none 0 0)] 32 (0,0)))∧Aside0 (Below w.heap.size w w'))
    case atStart=>exact ⟨(t165),(t168),(0),(by first | rfl | (simp;done) | (simp [*];done)),H',⟨Nat.le_refl _⟩,⟨by (with_reducible repeat (first | apply zz12 | apply zz13 | apply zz14));exact HO167.out⟩,⟨by (with_reducible repeat (first | apply zz15 | apply zz16 | apply zz17));exact HO170.out⟩,⟨by (with_reducible repeat (first | refine zz6 ?_ _ | refine zz7 ?_ | refine zz8 ?_ _));exact BK161.out⟩,⟨by repeat first | exact HB.out | apply zz2 | apply zz0 | apply zz1 | refine zz3 ?_ GE161.out⟩⟩
    case round =>
     clear H'
     try clear c1
     try clear c2
     try clear p2
     try clear c5
     try clear c6
     try clear c6b0
     try clear c6b1
     try clear p6
     try clear c8
     try clear c10
     try clear hcz11_0
     try clear hcz11_1
     try clear hfz11_0
     try clear hfz11_1
     try clear p2
     try clear p6
     obtain ⟨x5_2,x6_2,x7_2,rfl,HA,HK2,HO_5,HO_6,BK161,HB⟩:=hrel
     cases gk with
     | zero=>exact absurd HA.out (by simp [spec_TreeOfNumbers.l0])
     | succ k2 =>
      have H:=HA.out
      clear HA
      simp only [spec_TreeOfNumbers.l0] at H
      by_cases c16:x7_2 < (wrap64 ((l0.length:Int) - 1))
      ·rw [if_pos c16] at H
       have c16b0:decide (x7_2 < (wrap64 ((l0.length:Int) - 1)))=true:=decide_eq_true c16
       clear c16
       have H':=zz31 H
       clear H
       obtain ⟨Ao17,co17,eo17⟩:=Kd.R_slice HO_5.out
       subst eo17
       go_wp2
       go_loopg [8,9,49] k2 (fun kq v8 v9 v49 w'=>∃ (x8_3:Int) (x9_3:Int) (x49_3:Int),v8=.int .i64 x8_3∧v9=.int .i64 x9_3∧v49=.int .i64 x49_3∧Aside0 (spec_TreeOfNumbers.l1 kq (l0.length:Int) x5_2 x6_2 x7_2 x8_3 x9_3 x5_2 (x5_2.length:Int) x49_3=some (r1,r2,r3))∧Aside0 (kq≤k2)∧Aside0 (Kd.R (Kd.int .i64) 3 w' w.heap.size (fun _=>True) (.slice Ao17 x5_2.length co17) x5_2)∧Aside0 (Kd.S (Kd.slice 4 Kd.bool) 60 w' w.heap.size (fun _=>True) v169 x6_2)∧Aside0 (Kd.R (Kd.int .i64) 3 w' w.heap.size (fun _=>True) (.slice Ao17 x5_2.length co17) x5_2)∧Aside0 (w'.heap[gb161]?=some (.cells #[.int .i64 0,(.slice none 0 0)] 32 (0,0)))∧Aside0 (Below w.heap.size w w'))
       case atStart=>exact ⟨((-1)),((-1)),(0),(by first | rfl | (simp;done) | (simp [*];done)),(by first | rfl | (simp;done) | (simp [*];done)),(by first | rfl | (simp;done) | (simp [*];done)),H',⟨Nat.le_refl _⟩,⟨by (with_reducible repeat (first | apply zz12 | apply zz13 | apply zz14));exact HO_5.out⟩,⟨by (with_reducible repeat (first | apply zz15 | apply zz16 | apply zz17));exact HO_6.out⟩,⟨by (with_reducible repeat (first | apply zz12 | apply zz13 | apply zz14));exact HO_5.out⟩,⟨by (with_reducible repeat (first | refine zz6 ?_ _ | refine zz7 ?_ | refine zz8 ?_ _));exact BK161.out⟩,⟨by repeat first | exact HB.out | apply zz2 | apply zz0 | apply zz1 | refine zz3 ?_ GE161.out⟩⟩
       case round =>
        clear H'
        try clear c1
        try clear c2
        try clear p2
        try clear c5
        try clear c6
        try clear c6b0
        try clear c6b1
        try clear p6
        try clear c8
        try clear c10
        try clear c16
        try clear c16b0
        try clear hcz11_0
        try clear hcz11_1
        try clear hfz11_0
        try clear hfz11_1
        try clear p2
        try clear p6
        obtain ⟨x8_3,x9_3,x49_3,rfl,rfl,rfl,HA,HK3,HO_5,HO_6,HO_47,BK161,HB⟩:=hrel
        cases gk with
        | zero=>exact absurd HA.out (by simp [spec_TreeOfNumbers.l1])
        | succ k3 =>
         have H:=HA.out
         clear HA
         simp only [spec_TreeOfNumbers.l1] at H
         by_cases c18:x49_3 < (x5_2.length:Int)
         ·rw [if_pos c18] at H
          have c18b0:decide (x49_3 < (x5_2.length:Int))=true:=decide_eq_true c18
          clear c18
          by_cases c19:0≤x49_3
          ·rw [if_pos c19] at H
           have c19b0:decide (0≤x49_3)=true:=decide_eq_true c19
           clear c19
           by_cases c20:x49_3 < (x5_2.length:Int)
           ·rw [if_pos c20] at H
            have c20b0:decide (x49_3 < (x5_2.length:Int))=true:=decide_eq_true c20
            clear c20
            have HC21:=zz31 H
            clear H
            have p175:0≤(x49_3:Int):=zz29 (by first | (with_reducible assumption) | assumption)
            have q175:x49_3 < (x5_2.length:Int):=zz29 (by first | (with_reducible assumption) | assumption)
            obtain ⟨ad175,e175,hx175_0⟩:=Kd.at_int (Kd.R_reads' HO_47.out).2.2 x49_3 p175 q175
            cases e175
            replace p175:=eq_true p175
            replace q175:=eq_true q175
            go_upto_region 13 with (fail)
            go_cut [59] (fun v59 wc=>∃ (kq:Nat) (x59_20:Bool),v59=.bool x59_20∧Aside0 (spec_TreeOfNumbers.j3 kq (l0.length:Int) x5_2 x6_2 x7_2 x8_3 x9_3 x49_3 (rd x5_2 x49_3) x5_2 (x5_2.length:Int) x49_3 x59_20=some (r1,r2,r3))∧Aside0 (kq≤k3)∧Aside0 (Kd.R (Kd.int .i64) 3 wc w.heap.size (fun _=>True) (.slice (some ad175) x5_2.length co17) x5_2)∧Aside0 (Kd.S (Kd.slice 4 Kd.bool) 60 wc w.heap.size (fun _=>True) v169 x6_2)∧Aside0 (Kd.R (Kd.int .i64) 3 wc w.heap.size (fun _=>True) (.slice (some ad175) x5_2.length co17) x5_2)∧Aside0 (wc.heap[gb161]?=some (.cells #[.int .i64 0,(.slice none 0 0)] 32 (0,0)))∧Aside0 (Below w.heap.size w wc))
            case first =>
             have H:=HC21.out
             clear HC21
             by_cases c22:(rd x5_2 x49_3)=1
             ·rw [if_pos c22] at H
              have c22b0:((rd x5_2 x49_3) == 1)=true:=beq_iff_eq.mpr c22
              have c22b1:((rd x5_2 x49_3) != 1)=false:=bne_eq_false_iff_eq.mpr c22
              clear c22
              (first | rw [c22b0] | (simp only [i64_w,i32_w];rw [c22b0]) | skip)
              have H':=zz31 H
              clear H
              go_wp2
              go_meet
              case rel=>exact ⟨_,(decide (x8_3 < 0)),(by first | rfl | (simp;done) | (simp [*];done)),H',⟨by have:=HJ1.out;have:=HK2.out;have:=HK3.out;first | omega | exact Nat.le_refl _⟩,⟨by (with_reducible repeat (first | apply zz12 | apply zz13 | apply zz14));exact HO_5.out⟩,⟨by (with_reducible repeat (first | apply zz15 | apply zz16 | apply zz17));exact HO_6.out⟩,⟨by (with_reducible repeat (first | apply zz12 | apply zz13 | apply zz14));exact HO_47.out⟩,⟨by (with_reducible repeat (first | refine zz6 ?_ _ | refine zz7 ?_ | refine zz8 ?_ _));exact BK161.out⟩,⟨by repeat first | exact HB.out | apply zz2 | apply zz0 | apply zz1 | refine zz3 ?_ GE161.out⟩⟩
             ·rw [if_neg c22] at H
              have c22b0:((rd x5_2 x49_3) == 1)=false:=beq_eq_false_iff_ne.mpr c22
              have c22b1:((rd x5_2 x49_3) != 1)=true:=bne_iff_ne.mpr c22
              (first | rw [c22b0] | (simp only [i64_w,i32_w];rw [c22b0]) | skip)
              have H':=zz31 H
              clear H
              go_wp2
              go_meet
              case rel=>exact ⟨_,(false),(by first | rfl | (simp;done) | (simp [*];done)),H',⟨by have:=HJ1.out;have:=HK2.out;have:=HK3.out;first | omega | exact Nat.le_refl _⟩,⟨by (with_reducible repeat (first | apply zz12 | apply zz13 | apply zz14));exact HO_5.out⟩,⟨by (with_reducible repeat (first | apply zz15 | apply zz16 | apply zz17));exact HO_6.out⟩,⟨by (with_reducible repeat (first | apply zz12 | apply zz13 | apply zz14));exact HO_47.out⟩,⟨by (with_reducible repeat (first | refine zz6 ?_ _ | refine zz7 ?_ | refine zz8 ?_ _));exact BK161.out⟩,⟨by repeat first | exact HB.out | apply zz2 | apply zz0 | apply zz1 | refine zz3 ?_ GE161.out⟩⟩
            case rest =>
             clear HC21
             try clear c1
             try clear p1
             try clear q1
             try clear hx1
             try clear c2
             try clear p2
             try clear c5
             try clear c6
             try clear c6b0
             try clear c6b1
             try clear p6
             try clear c8
             try clear c10
             try clear c16
             try clear c16b0
             try clear p17
             try clear q17
             try clear hx17
             try clear c18
             try clear c18b0
             try clear c19
             try clear c19b0
             try clear c20
             try clear c20b0
             try clear c22
             try clear c22b0
             try clear c22b1
             try clear hcz11_0
             try clear hcz11_1
             try clear hfz11_0
             try clear hfz11_1
             try clear hx175_0
             try clear p175
             try clear p2
             try clear p6
             try clear q175
             obtain ⟨kq,x59_20,rfl,HA,HJ20,HO_5,HO_6,HO_47,BK161,HB⟩:=hcut
             cases kq with
             | zero=>exact absurd HA.out (by simp [spec_TreeOfNumbers.j3])
             | succ kj20 =>
              have H:=HA.out
              clear HA
              simp only [spec_TreeOfNumbers.j3] at H
              by_cases c23:x59_20=true
              ·subst c23
               have H1:(if (rd x5_2 x49_3) > 1 then (if x9_3 < 0 then (spec_TreeOfNumbers.l1 kj20 (l0.length:Int) x5_2 x6_2 x7_2 x49_3 x49_3 x5_2 (x5_2.length:Int) (wrap64 (x49_3+1))) else (spec_TreeOfNumbers.l1 kj20 (l0.length:Int) x5_2 x6_2 x7_2 x49_3 x9_3 x5_2 (x5_2.length:Int) (wrap64 (x49_3+1)))) else (spec_TreeOfNumbers.l1 kj20 (l0.length:Int) x5_2 x6_2 x7_2 x49_3 x9_3 x5_2 (x5_2.length:Int) (wrap64 (x49_3+1))))=some (r1,r2,r3):=by rw [if_pos rfl] at H;exact H
               clear H
               have H:=H1
               clear H1
               by_cases c24:(rd x5_2 x49_3) > 1
               ·rw [if_pos c24] at H
                have c24b0:decide (1 < (rd x5_2 x49_3))=true:=decide_eq_true c24
                clear c24
                by_cases c25:x9_3 < 0
                ·rw [if_pos c25] at H
                 have c25b0:decide (x9_3 < 0)=true:=decide_eq_true c25
                 clear c25
                 have H':=zz31 H
                 clear H
                 go_wp2
                 go_roundg kj20
                 case measure=>have:=HJ1.out;have:=HK2.out;have:=HK3.out;have:=HJ20.out;omega
                 case rel=>exact ⟨(x49_3),(x49_3),(wrap64 (x49_3+1)),(by first | rfl | (simp;done) | (simp [*];done)),(by first | rfl | (simp;done) | (simp [*];done)),(by first | rfl | (simp;done) | (simp [*];done)),H',⟨by have:=HJ1.out;have:=HK2.out;have:=HK3.out;have:=HJ20.out;omega⟩,⟨by (with_reducible repeat (first | apply zz12 | apply zz13 | apply zz14));exact HO_5.out⟩,⟨by (with_reducible repeat (first | apply zz15 | apply zz16 | apply zz17));exact HO_6.out⟩,⟨by (with_reducible repeat (first | apply zz12 | apply zz13 | apply zz14));exact HO_47.out⟩,⟨by (with_reducible repeat (first | refine zz6 ?_ _ | refine zz7 ?_ | refine zz8 ?_ _));exact BK161.out⟩,⟨by repeat first | exact HB.out | apply zz2 | apply zz0 | apply zz1 | refine zz3 ?_ GE161.out⟩⟩
                ·rw [if_neg c25] at H
                 have c25b0:decide (x9_3 < 0)=false:=decide_eq_false c25
                 clear c25
                 have H':=zz31 H
                 clear H
                 go_wp2
                 go_roundg kj20
                 case measure=>have:=HJ1.out;have:=HK2.out;have:=HK3.out;have:=HJ20.out;omega
                 case rel=>exact ⟨(x49_3),(x9_3),(wrap64 (x49_3+1)),(by first | rfl | (simp;done) | (simp [*];done)),(by first | rfl | (simp;done) | (simp [*];done)),(by first | rfl | (simp;done) | (simp [*];done)),H',⟨by have:=HJ1.out;have:=HK2.out;have:=HK3.out;have:=HJ20.out;omega⟩,⟨by (with_reducible repeat (first | apply zz12 | apply zz13 | apply zz14));exact HO_5.out⟩,⟨by (with_reducible repeat (first | apply zz15 | apply zz16 | apply zz17));exact HO_6.out⟩,⟨by (with_reducible repeat (first | apply zz12 | apply zz13 | apply zz14));exact HO_47.out⟩,⟨by (with_reducible repeat (first | refine zz6 ?_ _ | refine zz7 ?_ | refine zz8 ?_ _));exact BK161.out⟩,⟨by repeat first | exact HB.out | apply zz2 | apply zz0 | apply zz1 | refine zz3 ?_ GE161.out⟩⟩
               ·rw [if_neg c24] at H
                have c24b0:decide (1 < (rd x5_2 x49_3))=false:=decide_eq_false c24
                clear c24
                have H':=zz31 H
                clear H
                go_wp2
                go_roundg kj20
                case measure=>have:=HJ1.out;have:=HK2.out;have:=HK3.out;have:=HJ20.out;omega
                case rel=>exact ⟨(x49_3),(x9_3),(wrap64 (x49_3+1)),(by first | rfl | (simp;done) | (simp [*];done)),(by first | rfl | (simp;done) | (simp [*];done)),(by first | rfl | (simp;done) | (simp [*];done)),H',⟨by have:=HJ1.out;have:=HK2.out;have:=HK3.out;have:=HJ20.out;omega⟩,⟨by (with_reducible repeat (first | apply zz12 | apply zz13 | apply zz14));exact HO_5.out⟩,⟨by (with_reducible repeat (first | apply zz15 | apply zz16 | apply zz17));exact HO_6.out⟩,⟨by (with_reducible repeat (first | apply zz12 | apply zz13 | apply zz14));exact HO_47.out⟩,⟨by (with_reducible repeat (first | refine zz6 ?_ _ | refine zz7 ?_ | refine zz8 ?_ _));exact BK161.out⟩,⟨by repeat first | exact HB.out | apply zz2 | apply zz0 | apply zz1 | refine zz3 ?_ GE161.out⟩⟩
              ·replace c23:=Bool.eq_false_iff.mpr c23
               subst c23
               have H1:(if (rd x5_2 x49_3) > 1 then (if x9_3 < 0 then (spec_TreeOfNumbers.l1 kj20 (l0.length:Int) x5_2 x6_2 x7_2 x8_3 x49_3 x5_2 (x5_2.length:Int) (wrap64 (x49_3+1))) else (spec_TreeOfNumbers.l1 kj20 (l0.length:Int) x5_2 x6_2 x7_2 x8_3 x9_3 x5_2 (x5_2.length:Int) (wrap64 (x49_3+1)))) else (spec_TreeOfNumbers.l1 kj20 (l0.length:Int) x5_2 x6_2 x7_2 x8_3 x9_3 x5_2 (x5_2.length:Int) (wrap64 (x49_3+1))))=some (r1,r2,r3):=by rw [if_neg (show ¬ (false=true) by decide)] at H;exact H
               clear H
               have H:=H1
               clear H1
               by_cases c26:(rd x5_2 x49_3) > 1
               ·rw [if_pos c26] at H
                have c26b0:decide (1 < (rd x5_2 x49_3))=true:=decide_eq_true c26
                clear c26
                by_cases c27:x9_3 < 0
                ·rw [if_pos c27] at H
                 have c27b0:decide (x9_3 < 0)=true:=decide_eq_true c27
                 clear c27
                 have H':=zz31 H
                 clear H
                 go_wp2
                 go_roundg kj20
                 case measure=>have:=HJ1.out;have:=HK2.out;have:=HK3.out;have:=HJ20.out;omega
                 case rel=>exact ⟨(x8_3),(x49_3),(wrap64 (x49_3+1)),(by first | rfl | (simp;done) | (simp [*];done)),(by first | rfl | (simp;done) | (simp [*];done)),(by first | rfl | (simp;done) | (simp [*];done)),H',⟨by have:=HJ1.out;have:=HK2.out;have:=HK3.out;have:=HJ20.out;omega⟩,⟨by (with_reducible repeat (first | apply zz12 | apply zz13 | apply zz14));exact HO_5.out⟩,⟨by (with_reducible repeat (first | apply zz15 | apply zz16 | apply zz17));exact HO_6.out⟩,⟨by (with_reducible repeat (first | apply zz12 | apply zz13 | apply zz14));exact HO_47.out⟩,⟨by (with_reducible repeat (first | refine zz6 ?_ _ | refine zz7 ?_ | refine zz8 ?_ _));exact BK161.out⟩,⟨by repeat first | exact HB.out | apply zz2 | apply zz0 | apply zz1 | refine zz3 ?_ GE161.out⟩⟩
                ·rw [if_neg c27] at H
                 have c27b0:decide (x9_3 < 0)=false:=decide_eq_false c27
                 clear c27
                 have H':=zz31 H
                 clear H
                 go_wp2
                 go_roundg kj20
                 case measure=>have:=HJ1.out;have:=HK2.out;have:=HK3.out;have:=HJ20.out;omega
                 case rel=>exact ⟨(x8_3),(x9_3),(wrap64 (x49_3+1)),(by first | rfl | (simp;done) | (simp [*];done)),(by first | rfl | (simp;done) | (simp [*];done)),(by first | rfl | (simp;done) | (simp [*];done)),H',⟨by have:=HJ1.out;have:=HK2.out;have:=HK3.out;have:=HJ20.out;omega⟩,⟨by (with_reducible repeat (first | apply zz12 | apply zz13 | apply zz14));exact HO_5.out⟩,⟨by (with_reducible repeat (first | apply zz15 | apply zz16 | apply zz17));exact HO_6.out⟩,⟨by (with_reducible repeat (first | apply zz12 | apply zz13 | apply zz14));exact HO_47.out⟩,⟨by (with_reducible repeat (first | refine zz6 ?_ _ | refine zz7 ?_ | refine zz8 ?_ _));exact BK161.out⟩,⟨by repeat first | exact HB.out | apply zz2 | apply zz0 | apply zz1 | refine zz3 ?_ GE161.out⟩⟩
               ·rw [if_neg c26] at H
                have c26b0:decide (1 < (rd x5_2 x49_3))=false:=decide_eq_false c26
                clear c26
                have H':=zz31 H
                clear H
                go_wp2
                go_roundg kj20
                case measure=>have:=HJ1.out;have:=HK2.out;have:=HK3.out;have:=HJ20.out;omega
                case rel=>exact ⟨(x8_3),(x9_3),(wrap64 (x49_3+1)),(by first | rfl | (simp;done) | (simp [*];done)),(by first | rfl | (simp;done) | (simp [*];done)),(by first | rfl | (simp;done) | (simp [*];done)),H',⟨by have:=HJ1.out;have:=HK2.out;have:=HK3.out;have:=HJ20.out;omega⟩,⟨by (with_reducible repeat (first | apply zz12 | apply zz13 | apply zz14));exact HO_5.out⟩,⟨by (with_reducible repeat (first | apply zz15 | apply zz16 | apply zz17));exact HO_6.out⟩,⟨by (with_reducible repeat (first | apply zz12 | apply zz13 | apply zz14));exact HO_47.out⟩,⟨by (with_reducible repeat (first | refine zz6 ?_ _ | refine zz7 ?_ | refine zz8 ?_ _));exact BK161.out⟩,⟨by repeat first | exact HB.out | apply zz2 | apply zz0 | apply zz1 | refine zz3 ?_ GE161.out⟩⟩
           ·rw [if_neg c20] at H
            exact absurd H (by simp)
          ·rw [if_neg c19] at H
           exact absurd H (by simp)
         ·rw [if_neg c18] at H
          have c18b0:decide (x49_3 < (x5_2.length:Int))=false:=decide_eq_false c18
          clear c18
          have H':=zz31 H
          clear H
          go_wp2
          go_loopg [9,71] k3 (fun kq v9 v71 w'=>∃ (x9_4:Int) (x71_4:Int),v9=.int .i64 x9_4∧v71=.int .i64 x71_4∧Aside0 (spec_TreeOfNumbers.l2 kq (l0.length:Int) x5_2 x6_2 x7_2 x8_3 x9_4 x5_2 (x5_2.length:Int) x71_4=some (r1,r2,r3))∧Aside0 (kq≤k3)∧Aside0 (Kd.R (Kd.int .i64) 3 w' w.heap.size (fun _=>True) (.slice Ao17 x5_2.length co17) x5_2)∧Aside0 (Kd.S (Kd.slice 4 Kd.bool) 60 w' w.heap.size (fun _=>True) v169 x6_2)∧Aside0 (Kd.R (Kd.int .i64) 3 w' w.heap.size (fun _=>True) (.slice Ao17 x5_2.length co17) x5_2)∧Aside0 (w'.heap[gb161]?=some (.cells #[.int .i64 0,(.slice none 0 0)] 32 (0,0)))∧Aside0 (Below w.heap.size w w'))
          case atStart=>exact ⟨(x9_3),(0),(by first | rfl | (simp;done) | (simp [*];done)),(by first | rfl | (simp;done) | (simp [*];done)),H',⟨Nat.le_refl _⟩,⟨by (with_reducible repeat (first | apply zz12 | apply zz13 | apply zz14));exact HO_5.out⟩,⟨by (with_reducible repeat (first | apply zz15 | apply zz16 | apply zz17));exact HO_6.out⟩,⟨by (with_reducible repeat (first | apply zz12 | apply zz13 | apply zz14));exact HO_5.out⟩,⟨by (with_reducible repeat (first | refine zz6 ?_ _ | refine zz7 ?_ | refine zz8 ?_ _));exact BK161.out⟩,⟨by repeat first | exact HB.out | apply zz2 | apply zz0 | apply zz1 | refine zz3 ?_ GE161.out⟩⟩
          case round =>
           clear H'
           try clear c1
           try clear p1
           try clear q1
           try clear hx1
           try clear c2
           try clear p2
           try clear c5
           try clear c6
           try clear c6b0
           try clear c6b1
           try clear p6
           try clear c8
           try clear c10
           try clear c16
           try clear c16b0
           try clear p17
           try clear q17
           try clear hx17
           try clear c18
           try clear c18b0
           try clear c19
           try clear c19b0
           try clear c20
           try clear c20b0
           try clear c22
           try clear c22b0
           try clear c22b1
           try clear c23
           try clear c24
           try clear c24b0
           try clear c25
           try clear c25b0
           try clear c26
           try clear c26b0
           try clear c27
           try clear c27b0
           try clear hcz11_0
           try clear hcz11_1
           try clear hfz11_0
           try clear hfz11_1
           try clear hx175_0
           try clear p1
           try clear p17
           try clear p175
           try clear p2
           try clear p6
           try clear q1
           try clear q17
           try clear q175
           obtain ⟨x9_4,x71_4,rfl,rfl,HA,HK4,HO_5,HO_6,HO_69,BK161,HB⟩:=hrel
           cases gk with
           | zero=>exact absurd HA.out (by simp [spec_TreeOfNumbers.l2])
           | succ k4 =>
            have H:=HA.out
            clear HA
            simp only [spec_TreeOfNumbers.l2] at H
            by_cases c28:x71_4 < (x5_2.length:Int)
            ·rw [if_pos c28] at H
             have c28b0:decide (x71_4 < (x5_2.length:Int))=true:=decide_eq_true c28
             clear c28
             by_cases c29:0≤x71_4
             ·rw [if_pos c29] at H
              have c29b0:decide (0≤x71_4)=true:=decide_eq_true c29
              clear c29
              by_cases c30:x71_4 < (x5_2.length:Int)
              ·rw [if_pos c30] at H
               have c30b0:decide (x71_4 < (x5_2.length:Int))=true:=decide_eq_true c30
               clear c30
               by_cases c31:x9_4 < 0
               ·rw [if_pos c31] at H
                have c31b0:decide (x9_4 < 0)=true:=decide_eq_true c31
                clear c31
                by_cases c32:(rd x5_2 x71_4)=1
                ·rw [if_pos c32] at H
                 have c32b0:((rd x5_2 x71_4) == 1)=true:=beq_iff_eq.mpr c32
                 have c32b1:((rd x5_2 x71_4) != 1)=false:=bne_eq_false_iff_eq.mpr c32
                 clear c32
                 by_cases c33:x71_4=x8_3
                 ·rw [if_pos c33] at H
                  have c33b0:(x71_4 == x8_3)=true:=beq_iff_eq.mpr c33
                  have c33b1:(x71_4 != x8_3)=false:=bne_eq_false_iff_eq.mpr c33
                  clear c33
                  have H':=zz31 H
                  clear H
                  have p176:0≤(x71_4:Int):=zz29 (by first | (with_reducible assumption) | assumption)
                  have q176:x71_4 < (x5_2.length:Int):=zz29 (by first | (with_reducible assumption) | assumption)
                  obtain ⟨ad176,e176,hx176_0⟩:=Kd.at_int (Kd.R_reads' HO_69.out).2.2 x71_4 p176 q176
                  cases e176
                  replace p176:=eq_true p176
                  replace q176:=eq_true q176
                  go_wp2
                  go_roundg k4
                  case measure=>have:=HJ1.out;have:=HK2.out;have:=HK3.out;have:=HK4.out;omega
                  case rel=>exact ⟨(x9_4),(wrap64 (x71_4+1)),(by first | rfl | (simp;done) | (simp [*];done)),(by first | rfl | (simp;done) | (simp [*];done)),H',⟨by have:=HJ1.out;have:=HK2.out;have:=HK3.out;have:=HK4.out;omega⟩,⟨by (with_reducible repeat (first | apply zz12 | apply zz13 | apply zz14));exact HO_5.out⟩,⟨by (with_reducible repeat (first | apply zz15 | apply zz16 | apply zz17));exact HO_6.out⟩,⟨by (with_reducible repeat (first | apply zz12 | apply zz13 | apply zz14));exact HO_69.out⟩,⟨by (with_reducible repeat (first | refine zz6 ?_ _ | refine zz7 ?_ | refine zz8 ?_ _));exact BK161.out⟩,⟨by repeat first | exact HB.out | apply zz2 | apply zz0 | apply zz1 | refine zz3 ?_ GE161.out⟩⟩
                 ·rw [if_neg c33] at H
                  have c33b0:(x71_4 == x8_3)=false:=beq_eq_false_iff_ne.mpr c33
                  have c33b1:(x71_4 != x8_3)=true:=bne_iff_ne.mpr c33
                  have H':=zz31 H
                  clear H
                  have p176:0≤(x71_4:Int):=zz29 (by first | (with_reducible assumption) | assumption)
                  have q176:x71_4 < (x5_2.length:Int):=zz29 (by first | (with_reducible assumption) | assumption)
                  obtain ⟨ad176,e176,hx176_0⟩:=Kd.at_int (Kd.R_reads' HO_69.out).2.2 x71_4 p176 q176
                  cases e176
                  replace p176:=eq_true p176
                  replace q176:=eq_true q176
                  go_wp2
                  go_roundg k4
                  case measure=>have:=HJ1.out;have:=HK2.out;have:=HK3.out;have:=HK4.out;omega
                  case rel=>exact ⟨(x71_4),(wrap64 (x71_4+1)),(by first | rfl | (simp;done) | (simp [*];done)),(by first | rfl | (simp;done) | (simp [*];done)),H',⟨by have:=HJ1.out;have:=HK2.out;have:=HK3.out;have:=HK4.out;omega⟩,⟨by (with_reducible repeat (first | apply zz12 | apply zz13 | apply zz14));exact HO_5.out⟩,⟨by (with_reducible repeat (first | apply zz15 | apply zz16 | apply zz17));exact HO_6.out⟩,⟨by (with_reducible repeat (first | apply zz12 | apply zz13 | apply zz14));exact HO_69.out⟩,⟨by (with_reducible repeat (first | refine zz6 ?_ _ | refine zz7 ?_ | refine zz8 ?_ _));exact BK161.out⟩,⟨by repeat first | exact HB.out | apply zz2 | apply zz0 | apply zz1 | refine zz3 ?_ GE161.out⟩⟩
                ·rw [if_neg c32] at H
                 have c32b0:((rd x5_2 x71_4) == 1)=false:=beq_eq_false_iff_ne.mpr c32
                 have c32b1:((rd x5_2 x71_4) != 1)=true:=bne_iff_ne.mpr c32
                 have H':=zz31 H
                 clear H
                 have p176:0≤(x71_4:Int):=zz29 (by first | (with_reducible assumption) | assumption)
                 have q176:x71_4 < (x5_2.length:Int):=zz29 (by first | (with_reducible assumption) | assumption)
                 obtain ⟨ad176,e176,hx176_0⟩:=Kd.at_int (Kd.R_reads' HO_69.out).2.2 x71_4 p176 q176
                 cases e176
                 replace p176:=eq_true p176
                 replace q176:=eq_true q176
                 go_wp2
                 go_roundg k4
                 case measure=>have:=HJ1.out;have:=HK2.out;have:=HK3.out;have:=HK4.out;omega
                 case rel=>exact ⟨(x9_4),(wrap64 (x71_4+1)),(by first | rfl | (simp;done) | (simp [*];done)),(by first | rfl | (simp;done) | (simp [*];done)),H',⟨by have:=HJ1.out;have:=HK2.out;have:=HK3.out;have:=HK4.out;omega⟩,⟨by (with_reducible repeat (first | apply zz12 | apply zz13 | apply zz14));exact HO_5.out⟩,⟨by (with_reducible repeat (first | apply zz15 | apply zz16 | apply zz17));exact HO_6.out⟩,⟨by (with_reducible repeat (first | apply zz12 | apply zz13 | apply zz14));exact HO_69.out⟩,⟨by (with_reducible repeat (first | refine zz6 ?_ _ | refine zz7 ?_ | refine zz8 ?_ _));exact BK161.out⟩,⟨by repeat first | exact HB.out | apply zz2 | apply zz0 | apply zz1 | refine zz3 ?_ GE161.out⟩⟩
               ·rw [if_neg c31] at H
                have c31b0:decide (x9_4 < 0)=false:=decide_eq_false c31
                clear c31
                have H':=zz31 H
                clear H
                have p176:0≤(x71_4:Int):=zz29 (by first | (with_reducible assumption) | assumption)
                have q176:x71_4 < (x5_2.length:Int):=zz29 (by first | (with_reducible assumption) | assumption)
                obtain ⟨ad176,e176,hx176_0⟩:=Kd.at_int (Kd.R_reads' HO_69.out).2.2 x71_4 p176 q176
                cases e176
                replace p176:=eq_true p176
                replace q176:=eq_true q176
                go_wp2
                go_roundg k4
                case measure=>have:=HJ1.out;have:=HK2.out;have:=HK3.out;have:=HK4.out;omega
                case rel=>exact ⟨(x9_4),(wrap64 (x71_4+1)),(by first | rfl | (simp;done) | (simp [*];done)),(by first | rfl | (simp;done) | (simp [*];done)),H',⟨by have:=HJ1.out;have:=HK2.out;have:=HK3.out;have:=HK4.out;omega⟩,⟨by (with_reducible repeat (first | apply zz12 | apply zz13 | apply zz14));exact HO_5.out⟩,⟨by (with_reducible repeat (first | apply zz15 | apply zz16 | apply zz17));exact HO_6.out⟩,⟨by (with_reducible repeat (first | apply zz12 | apply zz13 | apply zz14));exact HO_69.out⟩,⟨by (with_reducible repeat (first | refine zz6 ?_ _ | refine zz7 ?_ | refine zz8 ?_ _));exact BK161.out⟩,⟨by repeat first | exact HB.out | apply zz2 | apply zz0 | apply zz1 | refine zz3 ?_ GE161.out⟩⟩
              ·rw [if_neg c30] at H
               exact absurd H (by simp)
             ·rw [if_neg c29] at H
              exact absurd H (by simp)
            ·rw [if_neg c28] at H
             have c28b0:decide (x71_4 < (x5_2.length:Int))=false:=decide_eq_false c28
             clear c28
             by_cases c34:0≤x8_3
             ·rw [if_pos c34] at H
              have c34b0:decide (0≤x8_3)=true:=decide_eq_true c34
              clear c34
              by_cases c35:x8_3 < (x5_2.length:Int)
              ·rw [if_pos c35] at H
               have c35b0:decide (x8_3 < (x5_2.length:Int))=true:=decide_eq_true c35
               clear c35
               obtain ⟨y178,hy178⟩:∃ y_:List Int,y_=(x5_2.set (x8_3:Int).toNat (wrap64 ((rd x5_2 x8_3) - 1))):=⟨_,rfl⟩
               replace H:(if 0≤x9_4 then (if x9_4 < (x5_2.length:Int) then (if x8_3 < (x6_2.length:Int) then (if x9_4 < ((rd_L3 x6_2 x8_3).length:Int) then ((some (x6_2.set (x8_3:Int).toNat ((rd_L3 x6_2 x8_3).set (x9_4:Int).toNat true):List (List Bool))).bind fun y184=>(if x9_4 < (x6_2.length:Int) then (if x8_3 < ((rd_L3 y184 x9_4).length:Int) then (spec_TreeOfNumbers.l0 k4 (l0.length:Int) (y178.set (x9_4:Int).toNat (wrap64 ((rd y178 x9_4) - 1))) (y184.set (x9_4:Int).toNat ((rd_L3 y184 x9_4).set (x8_3:Int).toNat true)) (wrap64 (x7_2+1))) else (none)) else (none))) else (none)) else (none)) else (none)) else (none))=some (r1,r2,r3):=by first | (rw [hy178];with_reducible exact H) | (have H2_:=(Option.bind_some _ _).symm.trans H;rw [hy178];with_reducible exact H2_) | (have H2_:=(Option.bind_some _ _).symm.trans H;with_reducible exact H2_) | with_reducible exact H | (rw [hy178];exact H) | exact H
               have Ny178:=zz31 hy178
               clear hy178
               by_cases c37:0≤x9_4
               ·rw [if_pos c37] at H
                have c37b0:decide (0≤x9_4)=true:=decide_eq_true c37
                clear c37
                by_cases c38:x9_4 < (x5_2.length:Int)
                ·rw [if_pos c38] at H
                 have c38b0:decide (x9_4 < (x5_2.length:Int))=true:=decide_eq_true c38
                 clear c38
                 obtain ⟨y180,hy180⟩:∃ y_:List Int,y_=(y178.set (x9_4:Int).toNat (wrap64 ((rd y178 x9_4) - 1))):=⟨_,rfl⟩
                 replace H:(if x8_3 < (x6_2.length:Int) then (if x9_4 < ((rd_L3 x6_2 x8_3).length:Int) then ((some (x6_2.set (x8_3:Int).toNat ((rd_L3 x6_2 x8_3).set (x9_4:Int).toNat true):List (List Bool))).bind fun y184=>(if x9_4 < (x6_2.length:Int) then (if x8_3 < ((rd_L3 y184 x9_4).length:Int) then (spec_TreeOfNumbers.l0 k4 (l0.length:Int) y180 (y184.set (x9_4:Int).toNat ((rd_L3 y184 x9_4).set (x8_3:Int).toNat true)) (wrap64 (x7_2+1))) else (none)) else (none))) else (none)) else (none))=some (r1,r2,r3):=by first | (rw [hy180];with_reducible exact H) | (have H2_:=(Option.bind_some _ _).symm.trans H;rw [hy180];with_reducible exact H2_) | (have H2_:=(Option.bind_some _ _).symm.trans H;with_reducible exact H2_) | with_reducible exact H | (rw [hy180];exact H) | exact H
                 have Ny180:=zz31 hy180
                 clear hy180
                 by_cases c40:x8_3 < (x6_2.length:Int)
                 ·rw [if_pos c40] at H
                  have c40b0:decide (x8_3 < (x6_2.length:Int))=true:=decide_eq_true c40
                  clear c40
                  by_cases c41:x9_4 < ((rd_L3 x6_2 x8_3).length:Int)
                  ·rw [if_pos c41] at H
                   have c41b0:decide (x9_4 < ((rd_L3 x6_2 x8_3).length:Int))=true:=decide_eq_true c41
                   clear c41
                   obtain ⟨y182,hy182⟩:∃ y_:List Bool,y_=((rd_L3 x6_2 x8_3).set (x9_4:Int).toNat true):=⟨_,rfl⟩
                   replace H:((some (x6_2.set (x8_3:Int).toNat y182:List (List Bool))).bind fun y184=>(if x9_4 < (x6_2.length:Int) then (if x8_3 < ((rd_L3 y184 x9_4).length:Int) then (spec_TreeOfNumbers.l0 k4 (l0.length:Int) y180 (y184.set (x9_4:Int).toNat ((rd_L3 y184 x9_4).set (x8_3:Int).toNat true)) (wrap64 (x7_2+1))) else (none)) else (none)))=some (r1,r2,r3):=by first | (rw [hy182];with_reducible exact H) | (have H2_:=(Option.bind_some _ _).symm.trans H;rw [hy182];with_reducible exact H2_) | (have H2_:=(Option.bind_some _ _).symm.trans H;with_reducible exact H2_) | with_reducible exact H | (rw [hy182];exact H) | exact H
                   have Ny182:=zz31 hy182
                   clear hy182
                   obtain ⟨y184,hy184⟩:∃ y_:List (List Bool),y_=(x6_2.set (x8_3:Int).toNat y182):=⟨_,rfl⟩
                   replace H:(if x9_4 < (x6_2.length:Int) then (if x8_3 < ((rd_L3 y184 x9_4).length:Int) then (spec_TreeOfNumbers.l0 k4 (l0.length:Int) y180 (y184.set (x9_4:Int).toNat ((rd_L3 y184 x9_4).set (x8_3:Int).toNat true)) (wrap64 (x7_2+1))) else (none)) else (none))=some (r1,r2,r3):=by first | (rw [hy184];with_reducible exact H) | (have H2_:=(Option.bind_some _ _).symm.trans H;rw [hy184];with_reducible exact H2_) | (have H2_:=(Option.bind_some _ _).symm.trans H;with_reducible exact H2_) | with_reducible exact H | (rw [hy184];exact H) | exact H
                   have Ny184:=zz31 hy184
                   clear hy184
                   by_cases c43:x9_4 < (x6_2.length:Int)
                   ·rw [if_pos c43] at H
                    have c43b0:decide (x9_4 < (x6_2.length:Int))=true:=decide_eq_true c43
                    clear c43
                    by_cases c44:x8_3 < ((rd_L3 y184 x9_4).length:Int)
                    ·rw [if_pos c44] at H
                     have c44b0:decide (x8_3 < ((rd_L3 y184 x9_4).length:Int))=true:=decide_eq_true c44
                     clear c44
                     obtain ⟨y186,hy186⟩:∃ y_:List Bool,y_=((rd_L3 y184 x9_4).set (x8_3:Int).toNat true):=⟨_,rfl⟩
                     replace H:(spec_TreeOfNumbers.l0 k4 (l0.length:Int) y180 (y184.set (x9_4:Int).toNat y186) (wrap64 (x7_2+1)))=some (r1,r2,r3):=by first | (rw [hy186];with_reducible exact H) | (have H2_:=(Option.bind_some _ _).symm.trans H;rw [hy186];with_reducible exact H2_) | (have H2_:=(Option.bind_some _ _).symm.trans H;with_reducible exact H2_) | with_reducible exact H | (rw [hy186];exact H) | exact H
                     have Ny186:=zz31 hy186
                     clear hy186
                     obtain ⟨y188,hy188⟩:∃ y_:List (List Bool),y_=(y184.set (x9_4:Int).toNat y186):=⟨_,rfl⟩
                     replace H:(spec_TreeOfNumbers.l0 k4 (l0.length:Int) y180 y188 (wrap64 (x7_2+1)))=some (r1,r2,r3):=by first | (rw [hy188];with_reducible exact H) | (have H2_:=(Option.bind_some _ _).symm.trans H;rw [hy188];with_reducible exact H2_) | (have H2_:=(Option.bind_some _ _).symm.trans H;with_reducible exact H2_) | with_reducible exact H | (rw [hy188];exact H) | exact H
                     have Ny188:=zz31 hy188
                     clear hy188
                     have H':=zz31 H
                     clear H
                     have p177:0≤(x8_3:Int):=zz29 (by first | (with_reducible assumption) | assumption)
                     have q177:x8_3 < (x5_2.length:Int):=zz29 (by first | (with_reducible assumption) | assumption)
                     obtain ⟨ad177,e177,hx177_0⟩:=Kd.at_int (Kd.R_reads' HO_5.out).2.2 x8_3 p177 q177
                     cases e177
                     replace p177:=eq_true p177
                     replace q177:=eq_true q177
                     have p36:0≤(x8_3:Int):=zz29 (by first | (with_reducible assumption) | assumption)
                     have q36:(x8_3:Int) < ((x5_2.length:Int):Int):=zz29 (by first | (with_reducible assumption) | assumption)
                     obtain ⟨go36,co36,eo36,gb36,gl36,cl36,HG36⟩:=Kd.R_form HO_5.out (by omega)
                     (first | cases eo36 | (injection eo36 with ea_ en_ ec_;(first | subst ea_ | (injection ea_ with ea_;subst ea_));subst ec_;clear en_))
                     have GB36:=zz31 gb36
                     have GG36:=zz31 HG36
                     clear gb36 gl36 HG36
                     (first | simp only [add_plain] at hx177_0 | skip)
                     obtain ⟨hx36_0,hf36_0⟩:=Kd.R_celln 0 HO_5.out (x8_3:Int) p36 q36
                     replace p36:=eq_true p36
                     replace q36:=eq_true q36
                     have HP46:=Kd.R_putg HO_5.out (x8_3:Int) (wrap64 ((rd x5_2 x8_3) - 1))
                     go_wp2_with (first | ((with_reducible refine gate_store (t:=3) (p:=94) rfl ?_);refine store_event (t:=3) (p:=94) (v:=?vo_w47) (w1:=(wr.setCell ⟨go36,(x8_3:Int).toNat,none⟩ (.int .i64 (wrap64 ((rd x5_2 x8_3) - 1))))) ?hg ?ho ?hn ?hr ?_;(case ho=>rfl);(case hg=>rfl);(case hn=>rfl);(case hr=>first | (go_simp;done) | (go_simp;rfl));intro w47 hw;have hg:wr.grownBy w47 (some go36):=(by rw [hw];exact HP46.2);have hp_:Kd.R (Kd.int .i64) 3 w47 w.heap.size (fun _=>True) (.slice (some ⟨go36,0,none⟩) x5_2.length co17) y178:=(by rw [hw,Ny178.out];exact HP46.1);clear HP46;have n0_:=zz31 (hp_);have n1_:=zz31 (Kd.S_over' (v:=(.slice (some ⟨go36,0,none⟩) x5_2.length co17)) (by (with_reducible repeat (first | apply zz15 | apply zz16 | apply zz17));exact HO_6.out) (Kd.R_typed HO_5.out) (by decide) hg);have n2_:=zz31 True.intro;have n3_:=zz31 (blk_grown (g:=gb161) (o:=.cells #[.int .i64 0,.slice none 0 0] 32 (0,0)) (by (with_reducible repeat (first | refine zz6 ?_ _ | refine zz7 ?_ | refine zz8 ?_ _));exact BK161.out) hg (Kd.R_ne HO_5.out BK161.out (by decide)));have n4_:=zz31 ((by rw [hw];exact zz3 (HB.out) GB36.out:Below w.heap.size w w47));clear HO_5;clear HO_6;clear HO_69;clear BK161;clear HB;have HO_5:=n0_;have HO_6:=n1_;have HO_69:=n2_;have BK161:=n3_;have HB:=n4_;clear n0_ n1_ n2_ n3_ n4_;clear hg hw hp_;have p179:0≤(x9_4:Int):=zz29 (by first | (with_reducible assumption) | assumption);have q179:x9_4 < (y178.length:Int):=(by have h_:(x9_4:Int) < ((x5_2.length:Int):Int):=zz29 (by first | (with_reducible assumption) | assumption);first | (have e_:=(Kd.R_reads' HO_5.out).1;omega) | simpa only [Ny178.out,List.length_set] using h_);have ql179:((x9_4:Int) < ((x5_2.length:Int):Int))=True:=eq_true (zz29 (by first | (with_reducible assumption) | assumption));obtain ⟨ad179,e179,hx179_0⟩:=Kd.at_int (Kd.R_reads' HO_5.out).2.2 x9_4 p179 q179;obtain rfl:(⟨go36,0,none⟩:Addr)=ad179:=(by injection e179);(first | simp only [add_plain] at hx179_0 | simp only [add_at] at hx179_0 | simp only [Addr.add,Nat.zero_add] at hx179_0 | skip);replace p179:=eq_true p179;replace q179:=eq_true q179;have p39:0≤(x9_4:Int):=zz29 (by first | (with_reducible assumption) | assumption);have q39:(x9_4:Int) < ((x5_2.length:Int):Int):=zz29 (by first | (with_reducible assumption) | assumption);obtain ⟨hx39_0,hf39_0⟩:=Kd.R_celln 0 HO_5.out (x9_4:Int) p39 q39;replace p39:=eq_true p39;replace q39:=eq_true q39;obtain ⟨hy48_,hz48_⟩:=Kd.R_celln 0 HO_5.out (x9_4:Int) (zz29 (by first | (with_reducible assumption) | assumption)) (zz29 (by first | (with_reducible assumption) | assumption));have HP48:=Kd.R_putg HO_5.out (x9_4:Int) (wrap64 ((rd y178 x9_4) - 1))) | ((with_reducible refine gate_store (t:=3) (p:=100) rfl ?_);refine store_event (t:=3) (p:=100) (v:=?vo_w49) (w1:=(w47.setCell ⟨go36,(x9_4:Int).toNat,none⟩ (.int .i64 (wrap64 ((rd y178 x9_4) - 1))))) ?hg ?ho ?hn ?hr ?_;(case ho=>rfl);(case hg=>rfl);(case hn=>rfl);(case hr=>first | (go_simp;done) | (go_simp;rfl));intro w49 hw;have hg:w47.grownBy w49 (some go36):=(by rw [hw];exact HP48.2);have hp_:Kd.R (Kd.int .i64) 3 w49 w.heap.size (fun _=>True) (.slice (some ⟨go36,0,none⟩) x5_2.length co17) y180:=(by rw [hw,Ny180.out];exact HP48.1);clear HP48;have n0_:=zz31 (hp_);have n1_:=zz31 (Kd.S_over' (v:=(.slice (some ⟨go36,0,none⟩) x5_2.length co17)) (by (with_reducible repeat (first | apply zz15 | apply zz16 | apply zz17));exact HO_6.out) (Kd.R_typed HO_5.out) (by decide) hg);have n2_:=zz31 True.intro;have n3_:=zz31 (blk_grown (g:=gb161) (o:=.cells #[.int .i64 0,.slice none 0 0] 32 (0,0)) (by (with_reducible repeat (first | refine zz6 ?_ _ | refine zz7 ?_ | refine zz8 ?_ _));exact BK161.out) hg (Kd.R_ne HO_5.out BK161.out (by decide)));have n4_:=zz31 ((by rw [hw];exact zz3 (HB.out) GB36.out:Below w.heap.size w w49));clear HO_5;clear HO_6;clear HO_69;clear BK161;clear HB;have HO_5:=n0_;have HO_6:=n1_;have HO_69:=n2_;have BK161:=n3_;have HB:=n4_;clear n0_ n1_ n2_ n3_ n4_;clear hg hw hp_;obtain ⟨Ao50,co50,eo50⟩:=Kd.S_slice HO_6.out;subst eo50;have p181:0≤(x8_3:Int):=zz29 (by first | (with_reducible assumption) | assumption);have q181:x8_3 < (x6_2.length:Int):=zz29 (by first | (with_reducible assumption) | assumption);obtain ⟨ad181,A181_0,c181_0,e181,hx181_0,hl181_0,hi181_0⟩:=at_L3 (Kd.S_reads' HO_6.out).2.2 x8_3 p181 q181;cases e181;obtain ⟨ce181,hce181,hMe181,hcc181⟩:=Kd.S_get HO_6.out [] x8_3 p181 (by first | exact q181 | exact zz29 (by first | (with_reducible assumption) | assumption) | (have e_:=(Kd.S_reads' HO_6.out).1;omega));obtain ⟨ve181_0,rfl,ge181_0⟩:=hMe181;have hv181_0:=hcc181 0 _ rfl;rw [Nat.add_zero,show ((Kd.slice 4 Kd.bool)).sz=1 from rfl,Nat.mul_one] at hv181_0;replace hv181_0:=Option.some.inj (hv181_0.symm.trans hx181_0);rw [hv181_0] at ge181_0;have HL181_0:=zz31 (show Kd.R Kd.bool 4 _ _ _ _ (rd_L3 x6_2 x8_3) from ge181_0);clear hv181_0 ge181_0;have HX181_0:=zz31 hx181_0;clear hcc181 hce181;have HR181_0:=zz31 hi181_0;have HC181_0:=zz31 hl181_0;clear hi181_0 hl181_0;replace p181:=eq_true p181;replace q181:=eq_true q181;have p42:0≤(x9_4:Int):=zz29 (by first | (with_reducible assumption) | assumption);have q42:(x9_4:Int) < (((rd_L3 x6_2 x8_3).length:Int):Int):=zz29 (by first | (with_reducible assumption) | assumption);obtain ⟨go42,co42,eo42,gb42,gl42,cl42,HG42⟩:=Kd.R_form HL181_0.out (by omega);(first | cases eo42 | (injection eo42 with ea_ en_ ec_;(first | subst ea_ | (injection ea_ with ea_;subst ea_));subst ec_;clear en_));have GB42:=zz31 gb42;have GG42:=zz31 HG42;clear gb42 gl42 HG42;obtain ⟨hx42_0,hf42_0⟩:=Kd.R_celln false HL181_0.out (x9_4:Int) p42 q42;replace p42:=eq_true p42;replace q42:=eq_true q42;have hq51:(x8_3:Int) < (x6_2.length:Int):=(by have h_:(x8_3:Int) < ((x6_2.length:Int):Int):=zz29 (by first | (with_reducible assumption) | assumption);first | exact h_ | (have e_:=(Kd.S_reads' HO_6.out).1;omega) | simpa only [List.length_set,List.length_set] using h_);obtain ⟨oki51,ce51,hcl51,hM51,hcc51,hok51,hbk51⟩:=Kd.S_borrow HO_6.out [] (x8_3:Int) (zz29 (by first | (with_reducible assumption) | assumption)) (by first | exact hq51 | (have e_:=(Kd.S_reads' HO_6.out).1;omega));obtain ⟨ve51_0,rfl,ge51_0⟩:=hM51;have hv51:=hcc51 0 _ rfl;rw [Nat.add_zero,show ((Kd.slice 4 Kd.bool)).sz=1 from rfl,Nat.mul_one] at hv51;replace hv51:=Option.some.inj (hv51.symm.trans HX181_0.out);subst hv51;clear hcc51 hcl51;replace ge51_0:=(show Kd.R Kd.bool 4 _ _ _ _ (rd_L3 x6_2 x8_3) from ge51_0);have HP51:=Kd.R_putg ge51_0 (x9_4:Int) true) | ((with_reducible refine gate_store (t:=4) (p:=106) rfl ?_);refine store_event (t:=4) (p:=106) (v:=?vo_w52) (w1:=(w49.setCell ⟨go42,(x9_4:Int).toNat,none⟩ (.bool true))) ?hg ?ho ?hn ?hr ?_;(case ho=>rfl);(case hg=>rfl);(case hn=>rfl);(case hr=>first | (go_simp;done) | (go_simp;rfl));intro w52 hw;have hg:w49.grownBy w52 (some go42):=(by rw [hw];exact HP51.2);have hz_:Kd.R Kd.bool 4 w52 w.heap.size oki51 (.slice (some ⟨go42,0,none⟩) (rd_L3 x6_2 x8_3).length c181_0) y182:=(by rw [hw,Ny182.out];exact HP51.1);have hp_:Kd.S (Kd.slice 4 Kd.bool) 60 w52 w.heap.size (fun _=>True) (.slice (some ad181) x6_2.length co50) y184:=(by rw [Ny184.out];exact hbk51 hg (fun k_ e_=>by injection e_ with e_;subst e_;exact ge51_0.1 _ rfl) (Kd.M_row hz_));have hm_:=Kd.R_mono hz_ hok51;clear HP51 hbk51;have n0_:=zz31 (Kd.R_over' (v:=(.slice (some ⟨go42,0,none⟩) (rd_L3 x6_2 x8_3).length c181_0)) (by (with_reducible repeat (first | apply zz12 | apply zz13 | apply zz14));exact HO_5.out) (Kd.R_typed HL181_0.out) (by decide) hg);have n1_:=zz31 (hp_);have n2_:=zz31 True.intro;have n3_:=zz31 (blk_grown (g:=gb161) (o:=.cells #[.int .i64 0,.slice none 0 0] 32 (0,0)) (by (with_reducible repeat (first | refine zz6 ?_ _ | refine zz7 ?_ | refine zz8 ?_ _));exact BK161.out) hg (Kd.R_ne HL181_0.out BK161.out (by decide)));have n4_:=zz31 ((by rw [hw];exact zz3 (HB.out) GB42.out:Below w.heap.size w w52));have n5_:=zz31 (hm_);have n6_:=zz31 ((Kd.R_reads' hm_).2.1);clear HO_5;clear HO_6;clear HO_69;clear BK161;clear HB;clear HL181_0;have HO_5:=n0_;have HO_6:=n1_;have HO_69:=n2_;have BK161:=n3_;have HB:=n4_;have HL189:=n5_;have HC183:=n6_;clear n0_ n1_ n2_ n3_ n4_ n5_ n6_;clear hg hw hp_ hz_ hm_ hok51;have p185:0≤(x9_4:Int):=zz29 (by first | (with_reducible assumption) | assumption);have q185:x9_4 < (y184.length:Int):=(by have h_:(x9_4:Int) < ((x6_2.length:Int):Int):=zz29 (by first | (with_reducible assumption) | assumption);first | (have e_:=(Kd.S_reads' HO_6.out).1;omega) | simpa only [Ny184.out,List.length_set] using h_);have ql185:((x9_4:Int) < ((x6_2.length:Int):Int))=True:=eq_true (zz29 (by first | (with_reducible assumption) | assumption));obtain ⟨ad185,A185_0,c185_0,e185,hx185_0,hl185_0,hi185_0⟩:=at_L3 (Kd.S_reads' HO_6.out).2.2 x9_4 p185 q185;obtain rfl:ad181=ad185:=(by injection e185);obtain ⟨ce185,hce185,hMe185,hcc185⟩:=Kd.S_get HO_6.out [] x9_4 p185 (by first | exact q185 | exact zz29 (by first | (with_reducible assumption) | assumption) | (have e_:=(Kd.S_reads' HO_6.out).1;omega));obtain ⟨ve185_0,rfl,ge185_0⟩:=hMe185;have hv185_0:=hcc185 0 _ rfl;rw [Nat.add_zero,show ((Kd.slice 4 Kd.bool)).sz=1 from rfl,Nat.mul_one] at hv185_0;replace hv185_0:=Option.some.inj (hv185_0.symm.trans hx185_0);rw [hv185_0] at ge185_0;have HL185_0:=zz31 (show Kd.R Kd.bool 4 _ _ _ _ (rd_L3 y184 x9_4) from ge185_0);clear hv185_0 ge185_0;have HX185_0:=zz31 hx185_0;clear hcc185 hce185;have HR185_0:=zz31 hi185_0;have HC185_0:=zz31 hl185_0;clear hi185_0 hl185_0;replace p185:=eq_true p185;replace q185:=eq_true q185;have p45:0≤(x8_3:Int):=zz29 (by first | (with_reducible assumption) | assumption);have q45:(x8_3:Int) < (((rd_L3 y184 x9_4).length:Int):Int):=zz29 (by first | (with_reducible assumption) | assumption);obtain ⟨go45,co45,eo45,gb45,gl45,cl45,HG45⟩:=Kd.R_form HL185_0.out (by omega);(first | cases eo45 | (injection eo45 with ea_ en_ ec_;(first | subst ea_ | (injection ea_ with ea_;subst ea_));subst ec_;clear en_));have GB45:=zz31 gb45;have GG45:=zz31 HG45;clear gb45 gl45 HG45;obtain ⟨hx45_0,hf45_0⟩:=Kd.R_celln false HL185_0.out (x8_3:Int) p45 q45;replace p45:=eq_true p45;replace q45:=eq_true q45;have hq53:(x9_4:Int) < (y184.length:Int):=(by have h_:(x9_4:Int) < ((x6_2.length:Int):Int):=zz29 (by first | (with_reducible assumption) | assumption);first | exact h_ | (have e_:=(Kd.S_reads' HO_6.out).1;omega) | simpa only [Ny184.out,List.length_set] using h_);obtain ⟨oki53,ce53,hcl53,hM53,hcc53,hok53,hbk53⟩:=Kd.S_borrow HO_6.out [] (x9_4:Int) (zz29 (by first | (with_reducible assumption) | assumption)) (by first | exact hq53 | (have e_:=(Kd.S_reads' HO_6.out).1;omega));obtain ⟨ve53_0,rfl,ge53_0⟩:=hM53;have hv53:=hcc53 0 _ rfl;rw [Nat.add_zero,show ((Kd.slice 4 Kd.bool)).sz=1 from rfl,Nat.mul_one] at hv53;replace hv53:=Option.some.inj (hv53.symm.trans HX185_0.out);subst hv53;clear hcc53 hcl53;replace ge53_0:=(show Kd.R Kd.bool 4 _ _ _ _ (rd_L3 y184 x9_4) from ge53_0);have HP53:=Kd.R_putg ge53_0 (x8_3:Int) true) | ((with_reducible refine gate_store (t:=4) (p:=112) rfl ?_);refine store_event (t:=4) (p:=112) (v:=?vo_w54) (w1:=(w52.setCell ⟨go45,(x8_3:Int).toNat,none⟩ (.bool true))) ?hg ?ho ?hn ?hr ?_;(case ho=>rfl);(case hg=>rfl);(case hn=>rfl);(case hr=>first | (go_simp;done) | (go_simp;rfl));intro w54 hw;have hg:w52.grownBy w54 (some go45):=(by rw [hw];exact HP53.2);have hz_:Kd.R Kd.bool 4 w54 w.heap.size oki53 (.slice (some ⟨go45,0,none⟩) (rd_L3 y184 x9_4).length c185_0) y186:=(by rw [hw,Ny186.out];exact HP53.1);have hp_:Kd.S (Kd.slice 4 Kd.bool) 60 w54 w.heap.size (fun _=>True) (.slice (some ad181) x6_2.length co50) y188:=(by rw [Ny188.out];exact hbk53 hg (fun k_ e_=>by injection e_ with e_;subst e_;exact ge53_0.1 _ rfl) (Kd.M_row hz_));have hm_:=Kd.R_mono hz_ hok53;clear HP53 hbk53;have n0_:=zz31 (Kd.R_over' (v:=(.slice (some ⟨go45,0,none⟩) (rd_L3 y184 x9_4).length c185_0)) (by (with_reducible repeat (first | apply zz12 | apply zz13 | apply zz14));exact HO_5.out) (Kd.R_typed HL185_0.out) (by decide) hg);have n1_:=zz31 (hp_);have n2_:=zz31 True.intro;have n3_:=zz31 (blk_grown (g:=gb161) (o:=.cells #[.int .i64 0,.slice none 0 0] 32 (0,0)) (by (with_reducible repeat (first | refine zz6 ?_ _ | refine zz7 ?_ | refine zz8 ?_ _));exact BK161.out) hg (Kd.R_ne HL185_0.out BK161.out (by decide)));have n4_:=zz31 ((by rw [hw];exact zz3 (HB.out) GB45.out:Below w.heap.size w w54));have n5_:=zz31 (hm_);have n6_:=zz31 ((Kd.R_reads' hm_).2.1);clear HO_5;clear HO_6;clear HO_69;clear BK161;clear HB;clear HL189;clear HL185_0;have HO_5:=n0_;have HO_6:=n1_;have HO_69:=n2_;have BK161:=n3_;have HB:=n4_;have HL190:=n5_;have HC187:=n6_;clear n0_ n1_ n2_ n3_ n4_ n5_ n6_;clear hg hw hp_ hz_ hm_ hok53))
                     go_roundg k4
                     case measure=>have:=HJ1.out;have:=HK2.out;have:=HK3.out;have:=HK4.out;omega
                     case rel=>exact ⟨(y180),(y188),(wrap64 (x7_2+1)),(by first | rfl | (simp;done) | (simp [*];done)),H',⟨by have:=HJ1.out;have:=HK2.out;have:=HK3.out;have:=HK4.out;omega⟩,⟨by (with_reducible repeat (first | apply zz12 | apply zz13 | apply zz14));exact HO_5.out⟩,⟨by (with_reducible repeat (first | apply zz15 | apply zz16 | apply zz17));exact HO_6.out⟩,⟨by (with_reducible repeat (first | refine zz6 ?_ _ | refine zz7 ?_ | refine zz8 ?_ _));exact BK161.out⟩,⟨by repeat first | exact HB.out | apply zz2 | apply zz0 | apply zz1 | refine zz3 ?_ GE161.out⟩⟩
                    ·rw [if_neg c44] at H
                     exact absurd H (by simp)
                   ·rw [if_neg c43] at H
                    exact absurd H (by simp)
                  ·rw [if_neg c41] at H
                   exact absurd H (by simp)
                 ·rw [if_neg c40] at H
                  exact absurd H (by simp)
                ·rw [if_neg c38] at H
                 exact absurd H (by simp)
               ·rw [if_neg c37] at H
                exact absurd H (by simp)
              ·rw [if_neg c35] at H
               exact absurd H (by simp)
             ·rw [if_neg c34] at H
              exact absurd H (by simp)
      ·rw [if_neg c16] at H
       have c16b0:decide (x7_2 < (wrap64 ((l0.length:Int) - 1)))=false:=decide_eq_false c16
       clear c16
       replace H:=zz30.mp H
       obtain ⟨⟨t171,t172⟩,A550,H⟩:=H
       replace H:(some (t171,t172,true))=some (r1,r2,r3):=H
       have A55:=zz31 A550
       clear A550
       simp only [Option.some.injEq,Prod.mk.injEq] at H
       obtain ⟨rfl,rfl,rfl⟩:=H
       obtain ⟨Ao56,co56,eo56⟩:=Kd.S_slice HO_6.out
       subst eo56
       go_wp2_with (first | ((with_reducible refine gate_callee (f:=61) rfl ?_);refine goesL_ (some 114) rfl rfl Try.func61 (by kernel_rfl) rfl #[.slice Ao56 x6_2.length co56] rfl (by (try simp only [zz26,zz27,zz28]);first | done | rfl | (simp only [zz24,zz25];rfl)) ?_;(with_reducible refine (spec_paOf.calls k2 _ _ x6_2 t171 t172 _ ?side1 ?side2 A55.out).mono ?_);(case side1=>repeat (first | exact (Kd.S_reads' HO_6.out).2.2 | (with_reducible refine zz18 ?_ _) | (with_reducible refine zz19 ?_ _) | (with_reducible refine zz20 ?_)));(case side2=>exact (Kd.S_reads' HO_6.out).2.1);rintro e w57 ⟨v173,rfl,ho0,hb⟩;refine ⟨_,rfl,?_⟩;have n0_:=zz31 (Kd.R_below (by (with_reducible repeat (first | apply zz12 | apply zz13 | apply zz14));exact HO_5.out) hb);have n1_:=zz31 (Kd.S_below (by (with_reducible repeat (first | apply zz15 | apply zz16 | apply zz17));exact HO_6.out) hb);have n2_:=zz31 (Kd.R_lower ho0 (zz5 (by repeat first | exact HB.out | apply zz2 | apply zz0 | apply zz1 | refine zz3 ?_ GE161.out)));have n3_:=zz31 (zz11 (g:=gb161) (o:=.cells #[.int .i64 0,.slice none 0 0] 32 (0,0)) (by (with_reducible repeat (first | refine zz6 ?_ _ | refine zz7 ?_ | refine zz8 ?_ _));exact BK161.out) hb);have n4_:=zz31 (zz4 (by repeat first | exact HB.out | apply zz2 | apply zz0 | apply zz1 | refine zz3 ?_ GE161.out) hb);clear HO_5;clear HO_6;clear BK161;clear HB;have HO_5:=n0_;have HO_6:=n1_;have HO174:=n2_;have BK161:=n3_;have HB:=n4_;clear n0_ n1_ n2_ n3_ n4_;(try clear hb);(try clear hb2);(try clear hk);(try clear hi);(try clear ho0);have hcz58_0:w57.cell? ⟨gb161,0,none⟩=some (.int .i64 0):=(zz9 BK161.out 0).trans rfl;have hcz58_1:w57.cell? ⟨gb161,1,none⟩=some (.slice none 0 0):=(zz9 BK161.out 1).trans rfl;have hfz58_0:=zz10 BK161.out 0;have hfz58_1:=zz10 BK161.out 1;obtain ⟨Ao59,co59,eo59⟩:=Kd.R_slice HO174.out;subst eo59))
       refine bodyPost_ret (results_ct rfl _ _ gb161 32 #[.int .i64 t171,.slice Ao59 t172.length co59] (0,0) _ rfl (by (with_reducible repeat (first | refine zz6 ?_ _ | refine zz7 ?_ | refine zz8 ?_ _));refine blk_put (cs:=#[.int .i64 t171,.slice none 0 0]) ?_ 1 _ rfl;(with_reducible repeat (first | refine zz6 ?_ _ | refine zz7 ?_ | refine zz8 ?_ _));refine blk_put (cs:=#[.int .i64 0,.slice none 0 0]) ?_ 0 _ rfl;(with_reducible repeat (first | refine zz6 ?_ _ | refine zz7 ?_ | refine zz8 ?_ _));exact BK161.out) Try.underlying32 rfl (by kernel_rfl)) rfl ?_
       exact ⟨_,by first | rfl | (simp [errW_none,errW_some] <;> rfl) | (simp [*,errW_none,errW_some] <;> rfl),by (with_reducible repeat (first | apply zz12 | apply zz13 | apply zz14));exact Kd.R_mono (Kd.R_far (p:=⟨gb161,1,none⟩) (Kd.R_far (p:=⟨gb161,0,none⟩) (Kd.R_types HO174.out BK161.out (by decide)) (fun _ hk=>hk.2) (.int .i64 t171)) (fun _ hk=>hk.2) (.slice Ao59 t172.length co59)) (fun _ hk=>trivial),by repeat first | exact HB.out | apply zz2 | apply zz0 | apply zz1 | refine zz3 ?_ GE161.out⟩

/-! ### impl_table_has: function 88 -/
def impl_table_has.f (l0:List Int) (a1:Int) (a2:Int):Option (Bool):=if 0≤a1 then (if a1 < (l0.length:Int) then (if 0≤a2 then (some ((Go.bits .and .u16 (shr .u16 (rd l0 a1) a2) 1) == 1)) else (none)) else (none)) else (none)
set_option maxHeartbeats 8000000 in
set_option maxRecDepth 100000 in
theorem impl_table_has.calls (A0:Option Addr) (c0:Nat) (l0:List Int) (a1:Int) (a2:Int) (r:Bool) (w:World) (hr0:Kd.C (Kd.int .u16) w A0 l0.length l0) (hc0:l0.length≤c0) (h:impl_table_has.f l0 a1 a2=some r) :
  Calls Try.prog 88 #[.slice A0 l0.length c0,.int .i64 a1,.int .i64 a2] w fun e w'=>e=.returned (.bool r)∧Drawn0 w w':=by
 have HR0:=zz31 hr0
 have HC0:=zz31 hc0
 clear hr0 hc0
 have H:(if 0≤a1 then (if a1 < (l0.length:Int) then (if 0≤a2 then (some ((Go.bits .and .u16 (shr .u16 (rd l0 a1) a2) 1) == 1)) else (none)) else (none)) else (none))=some r:=h
 clear h
 by_cases c4:0≤a1
 ·rw [if_pos c4] at H
  have c4b0:decide (0≤a1)=true:=decide_eq_true c4
  clear c4
  by_cases c5:a1 < (l0.length:Int)
  ·rw [if_pos c5] at H
   have c5b0:decide (a1 < (l0.length:Int))=true:=decide_eq_true c5
   clear c5
   by_cases c6:0≤a2
   ·rw [if_pos c6] at H
    have c6b0:=eq_true c6
    have c6b1:decide (0≤a2)=true:=decide_eq_true c6
    clear c6
    obtain ⟨ji7,hji7⟩:∃ j_:Int,(shr .u16 (rd l0 a1) a2)=j_:=⟨_,rfl⟩
    replace H:(some ((Go.bits .and .u16 (ji7) 1) == 1))=some r:=by first | (rw [hji7] at H;exact H) | (simp only [hji7] at H ⊢;exact H)
    have hji7_:((rd l0 a1) / 2 ^ min a2.toNat 16)=ji7:=hji7
    have hji7z:a2≤16→((rd l0 a1) / 2 ^ a2.toNat)=ji7:=shr_small hji7
    obtain rfl:=Option.some.inj H
    have p191:0≤(a1:Int):=zz29 (by first | (with_reducible assumption) | assumption)
    have q191:a1 < (l0.length:Int):=zz29 (by first | (with_reducible assumption) | assumption)
    obtain ⟨ad191,e191,hx191_0⟩:=Kd.at_int HR0.out a1 p191 q191
    cases e191
    replace p191:=eq_true p191
    replace q191:=eq_true q191
    go_enter Try.func88,Try.ntmps88
    go_wp2
    go_ret
    exact ⟨by first | rfl | (simp;done) | (simp only [← hji7] <;> (first | rfl | simp)) | (simp [*];done),by repeat (first | exact Drawn0.refl _ | apply Drawn0.step)⟩
   ·rw [if_neg c6] at H
    exact absurd H (by simp)
  ·rw [if_neg c5] at H
   exact absurd H (by simp)
 ·rw [if_neg c4] at H
  exact absurd H (by simp)

/-! ### impl_table_party: function 52 -/
mutual
def impl_table_party.l0:Nat→List Int→Int→Int→Int→List (S80)→Option (Int × (List (S80)))
 | 0,_,_,_,_,_=>none
 | k+1,x0,x10,x11,x194000,x194001=>if x11 < x10 then (impl_table_party.l1 k x0 x11 (wrap64 (x11+1)) x10 x11 x194000 x194001) else (some (x194000,x194001))
def impl_table_party.l1:Nat→List Int→Int→Int→Int→Int→Int→List (S80)→Option (Int × (List (S80)))
 | 0,_,_,_,_,_,_,_=>none
 | k+1,x0,x4,x5,x10,x11,x194000,x194001=>if x5 < (x0.length:Int) then ((impl_table_has.f x0 x4 x5).bind fun t194=>(if t194=true then (if x194001.length < 8796093022208 then (impl_table_party.l1 k x0 x4 (wrap64 (x5+1)) x10 x11 x194000 (x194001 ++ [(⟨x4,x5⟩:S80)])) else (none)) else (impl_table_party.l1 k x0 x4 (wrap64 (x5+1)) x10 x11 x194000 x194001))) else (impl_table_party.l0 k x0 x10 (wrap64 (x11+1)) x194000 x194001)
end
def impl_table_party.f (k:Nat) (l0:List Int):Option (Int × (List (S80))):=impl_table_party.l0 k l0 (l0.length:Int) 0 (l0.length:Int) ([]:List (S80))
theorem impl_table_party.mono_l:∀ k,(∀ y0 y1 y2 y3 y4,LeO (impl_table_party.l0 k y0 y1 y2 y3 y4) (impl_table_party.l0 (k+1) y0 y1 y2 y3 y4))∧(∀ y0 y1 y2 y3 y4 y5 y6,LeO (impl_table_party.l1 k y0 y1 y2 y3 y4 y5 y6) (impl_table_party.l1 (k+1) y0 y1 y2 y3 y4 y5 y6))
 | 0=>⟨fun _ _ _ _ _ r h=>by simp [impl_table_party.l0] at h,fun _ _ _ _ _ _ _ r h=>by simp [impl_table_party.l1] at h⟩
 | k+1=>by
  obtain ⟨ih0,ih1⟩:=impl_table_party.mono_l k
  refine ⟨?_,?_⟩
  ·intro y0 y1 y2 y3 y4
   unfold impl_table_party.l0
   repeat' first
   | (with_reducible exact ih0 _ _ _ _ _)
   | (with_reducible exact ih1 _ _ _ _ _ _ _)
   | (with_reducible exact LeO.refl _)
   | (with_reducible exact LeO.none _)
   | (with_reducible refine LeO.ite ?_ ?_)
   | (with_reducible refine LeO.bind ?_ (fun _=>?_))
   | exact ih0 _ _ _ _ _
   | exact ih1 _ _ _ _ _ _ _
   | exact LeO.none _
   | refine LeO.ite ?_ ?_
   | refine LeO.bind ?_ (fun _=>?_)
  ·intro y0 y1 y2 y3 y4 y5 y6
   unfold impl_table_party.l1
   repeat' first
   | (with_reducible exact ih0 _ _ _ _ _)
   | (with_reducible exact ih1 _ _ _ _ _ _ _)
   | (with_reducible exact LeO.refl _)
   | (with_reducible exact LeO.none _)
   | (with_reducible refine LeO.ite ?_ ?_)
   | (with_reducible refine LeO.bind ?_ (fun _=>?_))
   | exact ih0 _ _ _ _ _
   | exact ih1 _ _ _ _ _ _ _
   | exact LeO.none _
   | refine LeO.ite ?_ ?_
   | refine LeO.bind ?_ (fun _=>?_)
theorem impl_table_party.mono:∀ a0 k,LeO (impl_table_party.f k a0) (impl_table_party.f (k+1) a0):=by
 intro a0 k
 obtain ⟨ih0,ih1⟩:=impl_table_party.mono_l k
 unfold impl_table_party.f
 repeat' first
   | (with_reducible exact ih0 _ _ _ _ _)
   | (with_reducible exact ih1 _ _ _ _ _ _ _)
   | (with_reducible exact LeO.refl _)
   | (with_reducible exact LeO.none _)
   | (with_reducible refine LeO.ite ?_ ?_)
   | (with_reducible refine LeO.bind ?_ (fun _=>?_))
   | exact ih0 _ _ _ _ _
   | exact ih1 _ _ _ _ _ _ _
   | exact LeO.none _
   | refine LeO.ite ?_ ?_
   | refine LeO.bind ?_ (fun _=>?_)
set_option maxHeartbeats 8000000 in
set_option maxRecDepth 100000 in
theorem impl_table_party.calls (k:Nat) (A0:Option Addr) (c0:Nat) (l0:List Int) (r1:Int) (r2:List (S80)) (w:World) (hr0:Kd.C (Kd.int .u16) w A0 l0.length l0) (hc0:l0.length≤c0) (h:impl_table_party.f k l0=some (r1,r2)) :
  Calls Try.prog 52 #[.slice A0 l0.length c0] w fun e w'=>∃ v1_:Value,e=.returned (.agg #[.int .i64 r1,v1_])∧Kd.R k80 80 w' w.heap.size (fun _=>True) v1_ r2∧Below w.heap.size w w':=by
 have hu32:=Try.underlying32
 have hu80:=Try.underlying80
 have HR0:=zz31 hr0
 have HC0:=zz31 hc0
 clear hr0 hc0
 have HB:=zz31 (Below.refl w.heap.size w)
 have H:(impl_table_party.l0 k l0 (l0.length:Int) 0 (l0.length:Int) ([]:List (S80)))=some (r1,r2):=h
 clear h
 have H':=zz31 H
 clear H
 go_enter Try.func52,Try.ntmps52
 go_wp2_with (first | ((with_reducible refine gate_dst (N:=2) rfl ?_);refine box_event ?hg (N:=2) ?hd (cs:=#[.int .i64 0,.slice none 0 0]) (t:=32) ?hr ?_;(case hd=>rfl);(case hg=>rfl);(case hr=>first | (go_simp;done) | (go_simp;rfl));intro gb192 hg w2 hbox hb;have n0_:=zz31 (zz4 (by repeat first | exact HB.out | apply zz2 | apply zz0 | apply zz1) hb);have n1_:=zz31 (hbox);have n2_:=zz31 ((by rw [hg];exact (zz5 (by repeat first | exact HB.out | apply zz2 | apply zz0 | apply zz1)):w.heap.size≤gb192));have n3_:=zz31 ((by rw [hg];exact (zz5 (by repeat first | exact HB.out | apply zz2 | apply zz0 | apply zz1)):w.heap.size≤gb192));clear HB;have HB:=n0_;have BK192:=n1_;have GW192:=n2_;have GE192:=n3_;clear n0_ n1_ n2_ n3_;clear hb hbox hg) | ((with_reducible refine gate_dst (N:=3) rfl ?_);refine box_event ?hg (N:=3) ?hd (cs:=#[.int .i64 0,.slice none 0 0]) (t:=32) ?hr ?_;(case hd=>rfl);(case hg=>rfl);(case hr=>first | (go_simp;done) | (go_simp;rfl));intro gb193 hg w3 hbox hb;have n0_:=zz31 (zz11 (g:=gb192) (o:=.cells #[.int .i64 0,.slice none 0 0] 32 (0,0)) (by (with_reducible repeat (first | refine zz6 ?_ _ | refine zz7 ?_ | refine zz8 ?_ _));exact BK192.out) hb);have n1_:=zz31 (zz4 (by repeat first | exact HB.out | apply zz2 | apply zz0 | apply zz1 | refine zz3 ?_ GE192.out) hb);have n2_:=zz31 (hbox);have n3_:=zz31 ((by rw [hg];exact (zz5 (by repeat first | exact HB.out | apply zz2 | apply zz0 | apply zz1 | refine zz3 ?_ GE192.out)):w.heap.size≤gb193));have n4_:=zz31 ((by rw [hg];exact (zz5 (by repeat first | exact HB.out | apply zz2 | apply zz0 | apply zz1 | refine zz3 ?_ GE192.out)):w.heap.size≤gb193));have n5_:=zz31 ((by rw [hg];exact Nat.ne_of_lt (blk_lt (g:=gb192) (o:=.cells #[.int .i64 0,.slice none 0 0] 32 (0,0)) (by (with_reducible repeat (first | refine zz6 ?_ _ | refine zz7 ?_ | refine zz8 ?_ _));exact BK192.out)):gb192 ≠ gb193));have n6_:=zz31 ((by rw [hg];exact Nat.ne_of_gt (blk_lt (g:=gb192) (o:=.cells #[.int .i64 0,.slice none 0 0] 32 (0,0)) (by (with_reducible repeat (first | refine zz6 ?_ _ | refine zz7 ?_ | refine zz8 ?_ _));exact BK192.out)):gb193 ≠ gb192));clear BK192;clear HB;have BK192:=n0_;have HB:=n1_;have BK193:=n2_;have GW193:=n3_;have GE193:=n4_;have NB192_193:=n5_;have NB193_192:=n6_;clear n0_ n1_ n2_ n3_ n4_ n5_ n6_;clear hb hbox hg;have hnb4:=NB193_192.out;have hnc4:=NB192_193.out;have hcz5_0:w3.cell? ⟨gb193,0,none⟩=some (.int .i64 0):=(zz9 BK193.out 0).trans rfl;have hcz5_1:w3.cell? ⟨gb193,1,none⟩=some (.slice none 0 0):=(zz9 BK193.out 1).trans rfl;have hfz5_0:=zz10 BK193.out 0;have hfz5_1:=zz10 BK193.out 1))
 go_loopg [11] k (fun kq v11 w'=>∃ (x11_1:Int) (x194001_1:List (S80)) (u194001:Value),v11=.int .i64 x11_1∧Aside0 (impl_table_party.l0 kq l0 (l0.length:Int) x11_1 (l0.length:Int) x194001_1=some (r1,r2))∧Aside0 (kq≤k)∧Aside0 (Kd.R k80 80 w' w.heap.size (fun _=>True) u194001 x194001_1)∧Aside0 (w'.heap[gb192]?=some (.cells #[.int .i64 0,(.slice none 0 0)] 32 (0,0)))∧Aside0 (w'.heap[gb193]?=some (.cells #[.int .i64 (l0.length:Int),u194001] 32 (0,0)))∧Aside0 (Below w.heap.size w w'))
 case atStart=>exact ⟨(0),(([]:List (S80))),(.slice none 0 0),(by first | rfl | (simp;done) | (simp [*];done)),H',⟨Nat.le_refl _⟩,⟨by first | exact Kd.R_nil _ _ _ _ _ | exact Kd.N_nil _ _ _ _ _ | exact Kd.V_nil _ _ _ _ _ | exact Kd.Q_nil _ _ _ _ _ | exact Kd.S_nil _ _ _ _ _⟩,⟨by (with_reducible repeat (first | refine zz6 ?_ _ | refine zz7 ?_ | refine zz8 ?_ _));refine blk_far ?_ NB192_193.out _;(with_reducible repeat (first | refine zz6 ?_ _ | refine zz7 ?_ | refine zz8 ?_ _));refine blk_far ?_ NB192_193.out _;(with_reducible repeat (first | refine zz6 ?_ _ | refine zz7 ?_ | refine zz8 ?_ _));exact BK192.out⟩,⟨by (with_reducible repeat (first | refine zz6 ?_ _ | refine zz7 ?_ | refine zz8 ?_ _));refine blk_put (cs:=#[.int .i64 (l0.length:Int),.slice none 0 0]) ?_ 1 _ rfl;(with_reducible repeat (first | refine zz6 ?_ _ | refine zz7 ?_ | refine zz8 ?_ _));refine blk_put (cs:=#[.int .i64 0,.slice none 0 0]) ?_ 0 _ rfl;(with_reducible repeat (first | refine zz6 ?_ _ | refine zz7 ?_ | refine zz8 ?_ _));exact BK193.out⟩,⟨by repeat first | exact HB.out | apply zz2 | apply zz0 | apply zz1 | refine zz3 ?_ GE192.out | refine zz3 ?_ GE193.out⟩⟩
 case round =>
  clear H'
  try clear p2
  try clear c4
  try clear c5
  try clear hcz5_0
  try clear hcz5_1
  try clear hfz5_0
  try clear hfz5_1
  obtain ⟨x11_1,x194001_1,u194001,rfl,HA,HK1,HO_194001,BK192,BK193,HB⟩:=hrel
  cases gk with
  | zero=>exact absurd HA.out (by simp [impl_table_party.l0])
  | succ k1 =>
   have H:=HA.out
   clear HA
   simp only [impl_table_party.l0] at H
   by_cases c6:x11_1 < (l0.length:Int)
   ·rw [if_pos c6] at H
    have c6b0:decide (x11_1 < (l0.length:Int))=true:=decide_eq_true c6
    clear c6
    have H':=zz31 H
    clear H
    go_wp2
    go_loopg [5] k1 (fun kq v5 w'=>∃ (x5_2:Int) (x194001_2:List (S80)) (u194001:Value),v5=.int .i64 x5_2∧Aside0 (impl_table_party.l1 kq l0 x11_1 x5_2 (l0.length:Int) x11_1 (l0.length:Int) x194001_2=some (r1,r2))∧Aside0 (kq≤k1)∧Aside0 (Kd.R k80 80 w' w.heap.size (fun _=>True) u194001 x194001_2)∧Aside0 (w'.heap[gb192]?=some (.cells #[.int .i64 0,(.slice none 0 0)] 32 (0,0)))∧Aside0 (w'.heap[gb193]?=some (.cells #[.int .i64 (l0.length:Int),u194001] 32 (0,0)))∧Aside0 (Below w.heap.size w w'))
    case atStart=>exact ⟨(wrap64 (x11_1+1)),(x194001_1),(u194001),(by first | rfl | (simp;done) | (simp [*];done)),H',⟨Nat.le_refl _⟩,⟨by (with_reducible repeat (first | apply zz12 | apply zz13 | apply zz14));exact HO_194001.out⟩,⟨by (with_reducible repeat (first | refine zz6 ?_ _ | refine zz7 ?_ | refine zz8 ?_ _));exact BK192.out⟩,⟨by (with_reducible repeat (first | refine zz6 ?_ _ | refine zz7 ?_ | refine zz8 ?_ _));exact BK193.out⟩,⟨by repeat first | exact HB.out | apply zz2 | apply zz0 | apply zz1 | refine zz3 ?_ GE192.out | refine zz3 ?_ GE193.out⟩⟩
    case round =>
     clear H'
     try clear p2
     try clear c4
     try clear c5
     try clear c6
     try clear c6b0
     try clear p6
     try clear hcz5_0
     try clear hcz5_1
     try clear hfz5_0
     try clear hfz5_1
     try clear p2
     obtain ⟨x5_2,x194001_2,u194001,rfl,HA,HK2,HO_194001,BK192,BK193,HB⟩:=hrel
     cases gk with
     | zero=>exact absurd HA.out (by simp [impl_table_party.l1])
     | succ k2 =>
      have H:=HA.out
      clear HA
      simp only [impl_table_party.l1] at H
      by_cases c7:x5_2 < (l0.length:Int)
      ·rw [if_pos c7] at H
       have c7b0:decide (x5_2 < (l0.length:Int))=true:=decide_eq_true c7
       clear c7
       replace H:=zz30.mp H
       obtain ⟨t194,A80,H⟩:=H
       replace H:(if t194=true then (if x194001_2.length < 8796093022208 then (impl_table_party.l1 k2 l0 x11_1 (wrap64 (x5_2+1)) (l0.length:Int) x11_1 (l0.length:Int) (x194001_2 ++ [(⟨x11_1,x5_2⟩:S80)])) else (none)) else (impl_table_party.l1 k2 l0 x11_1 (wrap64 (x5_2+1)) (l0.length:Int) x11_1 (l0.length:Int) x194001_2))=some (r1,r2):=H
       have A8:=zz31 A80
       clear A80
       by_cases c9:t194=true
       ·subst c9
        have H1:(if x194001_2.length < 8796093022208 then (impl_table_party.l1 k2 l0 x11_1 (wrap64 (x5_2+1)) (l0.length:Int) x11_1 (l0.length:Int) (x194001_2 ++ [(⟨x11_1,x5_2⟩:S80)])) else (none))=some (r1,r2):=by rw [if_pos rfl] at H;exact H
        clear H
        have H:=H1
        clear H1
        by_cases c10:x194001_2.length < 8796093022208
        ·rw [if_pos c10] at H
         have LMc10:=zz31 c10
         clear c10
         obtain ⟨y195,hy195⟩:∃ y_:List (S80),y_=(x194001_2 ++ [(⟨x11_1,x5_2⟩:S80)]):=⟨_,rfl⟩
         replace H:(impl_table_party.l1 k2 l0 x11_1 (wrap64 (x5_2+1)) (l0.length:Int) x11_1 (l0.length:Int) y195)=some (r1,r2):=by first | (rw [hy195];with_reducible exact H) | (have H2_:=(Option.bind_some _ _).symm.trans H;rw [hy195];with_reducible exact H2_) | (have H2_:=(Option.bind_some _ _).symm.trans H;with_reducible exact H2_) | with_reducible exact H | (rw [hy195];exact H) | exact H
         have Ny195:=zz31 hy195
         clear hy195
         have H':=zz31 H
         clear H
         go_wp2_with (first | ((with_reducible refine gate_callee (f:=88) rfl ?_);refine goesL_ (some 25) rfl rfl Try.func88 (by kernel_rfl) rfl #[.slice A0 l0.length c0,.int .i64 x11_1,.int .i64 x5_2] rfl (by (try simp only [zz26,zz27,zz28]);first | done | rfl | (simp only [zz24,zz25];rfl)) ?_;(with_reducible refine (impl_table_has.calls _ _ l0 x11_1 x5_2 true _ ?side1 ?side2 A8.out).mono ?_);(case side1=>repeat (first | exact (Kd.C_below HR0.out HB.out) | (with_reducible refine zz18 ?_ _) | (with_reducible refine zz19 ?_ _) | (with_reducible refine zz20 ?_)));(case side2=>exact HC0.out);rintro e w' ⟨rfl,⟨nd,rfl⟩⟩;refine ⟨_,rfl,?_⟩;(try (rw [drewN_self wr];generalize hq_:World.drewN wr _=wr;have n0_:Aside0 (Kd.R k80 80 wr w.heap.size (fun _=>True) u194001 x194001_2):=⟨by rw [← hq_];exact (by (with_reducible repeat (first | apply zz12 | apply zz13 | apply zz14));exact HO_194001.out)⟩;have n1_:Aside0 (wr.heap[gb192]?=some (.cells #[.int .i64 0,.slice none 0 0] 32 (0,0))):=⟨by rw [← hq_];exact (by (with_reducible repeat (first | refine zz6 ?_ _ | refine zz7 ?_ | refine zz8 ?_ _));exact BK192.out)⟩;have n2_:Aside0 (wr.heap[gb193]?=some (.cells #[.int .i64 (l0.length:Int),u194001] 32 (0,0))):=⟨by rw [← hq_];exact (by (with_reducible repeat (first | refine zz6 ?_ _ | refine zz7 ?_ | refine zz8 ?_ _));exact BK193.out)⟩;have n3_:Aside0 (Below w.heap.size w wr):=⟨by rw [← hq_];exact (by repeat first | exact HB.out | apply zz2 | apply zz0 | apply zz1 | refine zz3 ?_ GE192.out | refine zz3 ?_ GE193.out)⟩;clear HO_194001 BK192 BK193 HB hq_;have HO_194001:=n0_;have BK192:=n1_;have BK193:=n2_;have HB:=n3_;clear n0_ n1_ n2_ n3_));have hnb11:=NB193_192.out;have hnc11:=NB192_193.out;have hcz12_0:wr.cell? ⟨gb193,0,none⟩=some (.int .i64 (l0.length:Int)):=(zz9 BK193.out 0).trans rfl;have hcz12_1:wr.cell? ⟨gb193,1,none⟩=some (u194001):=(zz9 BK193.out 1).trans rfl;have hfz12_0:=zz10 BK193.out 0;have hfz12_1:=zz10 BK193.out 1) | ((with_reducible refine gate_builtin (b:=.append) (xs:=#[.tmp 27,.tmp 31]) rfl ?_);at_builtin;refine Kd.R_append k80 (w0:=w) w.heap.size rfl (.tmp 27) (.tmp 31) 30 80 (.agg #[(.int .i64 0),(.int .i64 0)]) 16 rfl Try.underlying30 info80 rfl (by decide) (by omega) u194001 x194001_2 (⟨x11_1,x5_2⟩:S80) [.int .i64 x11_1,.int .i64 x5_2] (fun _=>True) (fun _=>False) rfl rfl ?aP (fun _ hk=>hk.elim) ?aF ?aO ?aB ?aS ?aL ?_;(case aP=>exact k80_mkM _ _ _ (⟨x11_1,x5_2⟩:S80));(case aB=>exact (by repeat first | exact HB.out | apply zz2 | apply zz0 | apply zz1 | refine zz3 ?_ GE192.out | refine zz3 ?_ GE193.out));(case aF=>exact (fun _ _=>trivial));(case aO=>exact (by (with_reducible repeat (first | apply zz12 | apply zz13 | apply zz14));exact HO_194001.out));(case aS=>exact (zz5 (by repeat first | exact HB.out | apply zz2 | apply zz0 | apply zz1 | refine zz3 ?_ GE192.out | refine zz3 ?_ GE193.out)));(case aL=>have:=LMc10.out;omega);intro v196 w13 ho hb hg hat;rw [← Ny195.out] at ho;have n0_:=zz31 (blk_grown (g:=gb192) (o:=.cells #[.int .i64 0,.slice none 0 0] 32 (0,0)) (by (with_reducible repeat (first | refine zz6 ?_ _ | refine zz7 ?_ | refine zz8 ?_ _));exact BK192.out) hg (Kd.R_ne HO_194001.out BK192.out (by decide)));have n1_:=zz31 (blk_grown (g:=gb193) (o:=.cells #[.int .i64 (l0.length:Int),u194001] 32 (0,0)) (by (with_reducible repeat (first | refine zz6 ?_ _ | refine zz7 ?_ | refine zz8 ?_ _));exact BK193.out) hg (Kd.R_ne HO_194001.out BK193.out (by decide)));have n2_:=zz31 (hb);have n3_:=zz31 (ho);clear BK192;clear BK193;clear HB;clear HO_194001;have BK192:=n0_;have BK193:=n1_;have HB:=n2_;have HO197:=n3_;clear n0_ n1_ n2_ n3_;clear ho hb hg hat;obtain ⟨Ao14,co14,eo14⟩:=Kd.R_slice HO197.out;subst eo14;have hcz15_0:w13.cell? ⟨gb193,0,none⟩=some (.int .i64 (l0.length:Int)):=(zz9 BK193.out 0).trans rfl;have hcz15_1:w13.cell? ⟨gb193,1,none⟩=some (u194001):=(zz9 BK193.out 1).trans rfl;have hfz15_0:=zz10 BK193.out 0;have hfz15_1:=zz10 BK193.out 1))
         go_roundg k2
         case measure=>have:=HK1.out;have:=HK2.out;omega
         case rel=>exact ⟨(wrap64 (x5_2+1)),(y195),(.slice Ao14 y195.length co14),(by first | rfl | (simp;done) | (simp [*];done)),H',⟨by have:=HK1.out;have:=HK2.out;omega⟩,⟨by (with_reducible repeat (first | apply zz12 | apply zz13 | apply zz14));exact Kd.R_mono (Kd.R_far (p:=⟨gb193,1,none⟩) (Kd.R_types HO197.out BK193.out (by decide)) (fun _ hk=>hk.2) (.slice Ao14 y195.length co14)) (fun _ hk=>trivial)⟩,⟨by (with_reducible repeat (first | refine zz6 ?_ _ | refine zz7 ?_ | refine zz8 ?_ _));refine blk_far ?_ NB192_193.out _;(with_reducible repeat (first | refine zz6 ?_ _ | refine zz7 ?_ | refine zz8 ?_ _));exact BK192.out⟩,⟨by (with_reducible repeat (first | refine zz6 ?_ _ | refine zz7 ?_ | refine zz8 ?_ _));refine blk_put (cs:=#[.int .i64 (l0.length:Int),u194001]) ?_ 1 _ rfl;(with_reducible repeat (first | refine zz6 ?_ _ | refine zz7 ?_ | refine zz8 ?_ _));exact BK193.out⟩,⟨by repeat first | exact HB.out | apply zz2 | apply zz0 | apply zz1 | refine zz3 ?_ GE192.out | refine zz3 ?_ GE193.out⟩⟩
        ·rw [if_neg c10] at H
         exact absurd H (by simp)
       ·replace c9:=Bool.eq_false_iff.mpr c9
        subst c9
        have H1:(impl_table_party.l1 k2 l0 x11_1 (wrap64 (x5_2+1)) (l0.length:Int) x11_1 (l0.length:Int) x194001_2)=some (r1,r2):=by rw [if_neg (show ¬ (false=true) by decide)] at H;exact H
        clear H
        have H:=H1
        clear H1
        have H':=zz31 H
        clear H
        go_wp2_with (first | ((with_reducible refine gate_callee (f:=88) rfl ?_);refine goesL_ (some 25) rfl rfl Try.func88 (by kernel_rfl) rfl #[.slice A0 l0.length c0,.int .i64 x11_1,.int .i64 x5_2] rfl (by (try simp only [zz26,zz27,zz28]);first | done | rfl | (simp only [zz24,zz25];rfl)) ?_;(with_reducible refine (impl_table_has.calls _ _ l0 x11_1 x5_2 false _ ?side1 ?side2 A8.out).mono ?_);(case side1=>repeat (first | exact (Kd.C_below HR0.out HB.out) | (with_reducible refine zz18 ?_ _) | (with_reducible refine zz19 ?_ _) | (with_reducible refine zz20 ?_)));(case side2=>exact HC0.out);rintro e w' ⟨rfl,⟨nd,rfl⟩⟩;refine ⟨_,rfl,?_⟩))
        go_roundg k2
        case measure=>have:=HK1.out;have:=HK2.out;omega
        case rel=>exact ⟨(wrap64 (x5_2+1)),(x194001_2),(u194001),(by first | rfl | (simp;done) | (simp [*];done)),H',⟨by have:=HK1.out;have:=HK2.out;omega⟩,⟨by (with_reducible repeat (first | apply zz12 | apply zz13 | apply zz14));exact HO_194001.out⟩,⟨by (with_reducible repeat (first | refine zz6 ?_ _ | refine zz7 ?_ | refine zz8 ?_ _));exact BK192.out⟩,⟨by (with_reducible repeat (first | refine zz6 ?_ _ | refine zz7 ?_ | refine zz8 ?_ _));exact BK193.out⟩,⟨by repeat first | exact HB.out | apply zz2 | apply zz0 | apply zz1 | refine zz3 ?_ GE192.out | refine zz3 ?_ GE193.out⟩⟩
      ·rw [if_neg c7] at H
       have c7b0:decide (x5_2 < (l0.length:Int))=false:=decide_eq_false c7
       clear c7
       have H':=zz31 H
       clear H
       go_wp2
       go_roundg k2
       case measure=>have:=HK1.out;have:=HK2.out;omega
       case rel=>exact ⟨(wrap64 (x11_1+1)),(x194001_2),(u194001),(by first | rfl | (simp;done) | (simp [*];done)),H',⟨by have:=HK1.out;have:=HK2.out;omega⟩,⟨by (with_reducible repeat (first | apply zz12 | apply zz13 | apply zz14));exact HO_194001.out⟩,⟨by (with_reducible repeat (first | refine zz6 ?_ _ | refine zz7 ?_ | refine zz8 ?_ _));exact BK192.out⟩,⟨by (with_reducible repeat (first | refine zz6 ?_ _ | refine zz7 ?_ | refine zz8 ?_ _));exact BK193.out⟩,⟨by repeat first | exact HB.out | apply zz2 | apply zz0 | apply zz1 | refine zz3 ?_ GE192.out | refine zz3 ?_ GE193.out⟩⟩
   ·rw [if_neg c6] at H
    have c6b0:decide (x11_1 < (l0.length:Int))=false:=decide_eq_false c6
    clear c6
    simp only [Option.some.injEq,Prod.mk.injEq] at H
    obtain ⟨rfl,rfl⟩:=H
    have hnb16:=NB193_192.out
    have hnc16:=NB192_193.out
    have hcz17_0:wr.cell? ⟨gb193,0,none⟩=some (.int .i64 (l0.length:Int)):=(zz9 BK193.out 0).trans rfl
    have hcz17_1:wr.cell? ⟨gb193,1,none⟩=some (u194001):=(zz9 BK193.out 1).trans rfl
    have hfz17_0:=zz10 BK193.out 0
    have hfz17_1:=zz10 BK193.out 1
    have hcz18_0:wr.cell? ⟨gb192,0,none⟩=some (.int .i64 0):=(zz9 BK192.out 0).trans rfl
    have hcz18_1:wr.cell? ⟨gb192,1,none⟩=some (.slice none 0 0):=(zz9 BK192.out 1).trans rfl
    have hfz18_0:=zz10 BK192.out 0
    have hfz18_1:=zz10 BK192.out 1
    obtain ⟨Ao19,co19,eo19⟩:=Kd.R_slice HO_194001.out
    subst eo19
    go_wp2
    refine bodyPost_ret (results_cell_row rfl _ _ gb192 32 #[.int .i64 (l0.length:Int),.slice Ao19 x194001_1.length co19] (0,0) _ rfl (by (with_reducible repeat (first | refine zz6 ?_ _ | refine zz7 ?_ | refine zz8 ?_ _));refine blk_put (cs:=#[.int .i64 (l0.length:Int),.slice none 0 0]) ?_ 1 _ rfl;(with_reducible repeat (first | refine zz6 ?_ _ | refine zz7 ?_ | refine zz8 ?_ _));refine blk_put (cs:=#[.int .i64 0,.slice none 0 0]) ?_ 0 _ rfl;(with_reducible repeat (first | refine zz6 ?_ _ | refine zz7 ?_ | refine zz8 ?_ _));exact BK192.out) Try.underlying32 rfl (by kernel_rfl)) rfl ?_
    exact ⟨_,by first | rfl | (simp [errW_none,errW_some] <;> rfl) | (simp [*,errW_none,errW_some] <;> rfl),by (with_reducible repeat (first | apply zz12 | apply zz13 | apply zz14));exact Kd.R_mono (Kd.R_far (p:=⟨gb192,1,none⟩) (Kd.R_far (p:=⟨gb192,0,none⟩) (Kd.R_types HO_194001.out BK192.out (by decide)) (fun _ hk=>hk.2) (.int .i64 (l0.length:Int))) (fun _ hk=>hk.2) (.slice Ao19 x194001_1.length co19)) (fun _ hk=>trivial),by repeat first | exact HB.out | apply zz2 | apply zz0 | apply zz1 | refine zz3 ?_ GE192.out | refine zz3 ?_ GE193.out⟩

/-! ### impl_within: function 78 -/
def impl_within.f (a0:Int) (a1:Int) (a2:Int):Option (Bool):=if a1≤a0 then (some (decide (a0≤a2))) else (some false)
set_option maxHeartbeats 8000000 in
set_option maxRecDepth 100000 in
theorem impl_within.calls (a0:Int) (a1:Int) (a2:Int) (r:Bool) (w:World) (h:impl_within.f a0 a1 a2=some r) :
  Calls Try.prog 78 #[.int .i64 a0,.int .i64 a1,.int .i64 a2] w fun e w'=>e=.returned (.bool r)∧Drawn0 w w':=by
 have H:(if a1≤a0 then (some (decide (a0≤a2))) else (some false))=some r:=h
 clear h
 by_cases c4:a1≤a0
 ·rw [if_pos c4] at H
  have c4b0:decide (a1≤a0)=true:=decide_eq_true c4
  clear c4
  obtain rfl:=Option.some.inj H
  go_enter Try.func78,Try.ntmps78
  go_wp2
  go_ret
  exact ⟨by first | rfl | (simp;done) | (simp [*];done),by repeat (first | exact Drawn0.refl _ | apply Drawn0.step)⟩
 ·rw [if_neg c4] at H
  have c4b0:decide (a1≤a0)=false:=decide_eq_false c4
  clear c4
  obtain rfl:=Option.some.inj H
  go_enter Try.func78,Try.ntmps78
  go_wp2
  go_ret
  exact ⟨by first | rfl | (simp;done) | (simp [*];done),by repeat (first | exact Drawn0.refl _ | apply Drawn0.step)⟩

/-! ### impl_areCrowd: function 91 -/
def impl_areCrowd.f (a0:Int):Option (Bool):=(impl_within.f a0 0 12).bind fun t198=>(some t198)
set_option maxHeartbeats 8000000 in
set_option maxRecDepth 100000 in
theorem impl_areCrowd.calls (a0:Int) (r:Bool) (w:World) (h:impl_areCrowd.f a0=some r) :
  Calls Try.prog 91 #[.int .i64 a0] w fun e w'=>e=.returned (.bool r)∧Drawn0 w w':=by
 have H:((impl_within.f a0 0 12).bind fun t198=>(some t198))=some r:=h
 clear h
 replace H:=zz30.mp H
 obtain ⟨t198,A20,H⟩:=H
 replace H:(some t198)=some r:=H
 have A2:=zz31 A20
 clear A20
 obtain rfl:=Option.some.inj H
 go_enter Try.func91,Try.ntmps91
 go_wp2_with (first | ((with_reducible refine gate_callee (f:=78) rfl ?_);refine goesL_ (some 4) rfl rfl Try.func78 (by kernel_rfl) rfl #[.int .i64 a0,.int .i64 0,.int .i64 12] rfl (by (try simp only [zz26,zz27,zz28]);first | done | rfl | (simp only [zz24,zz25];rfl)) ?_;(with_reducible refine (impl_within.calls a0 0 12 t198 _ A2.out).mono ?_);rintro e w' ⟨rfl,⟨nd,rfl⟩⟩;refine ⟨_,rfl,?_⟩))
 go_ret
 exact ⟨by first | rfl | (simp;done) | (simp [*];done),by repeat (first | exact Drawn0.refl _ | apply Drawn0.step)⟩

-- NOT PRINTED: function 67 (slices_IndexFunc_int_int)

-- NOT PRINTED: function 98 (slices_ContainsFunc_int_int)

-- NOT PRINTED: function 99 (impl_areWithin_1)

/-! ### impl_areWithin: function 92 (a contract of our own) -/
/-- A function value g (bound to lb) answers p at every whole number, in every later world; it may draw; it makes nothing. -/
def PredI (g:Nat) (lb:Array Value) (p:Int→Bool) (w:World):Prop :=
 ∀ (W:World) (x:Int),Below w.heap.size w W→Calls Try.prog g (#[.int .i64 x] ++ lb) W fun e w'=>e=.returned (.bool (p x))∧∃ q,w'=W.drewN q
/-- slices.IndexFunc at whole numbers, whatever the predicate: the place of the first element at which it holds, or -1. -/
def idxP (p:Int→Bool):List Int→Int
 | []=>-1
 | x :: xs=>if p x then 0 else if idxP p xs < 0 then -1 else idxP p xs+1
theorem idxP_hit (p:Int→Bool):∀ (xs:List Int) (k:Nat),k < xs.length→(∀ j,j < k→p (xs.getD j 0)=false)→p (xs.getD k 0)=true→idxP p xs=k
 | [],k,h,_,_=>by simp at h
 | x :: xs,0,_,_,hp=>by simp at hp;simp [idxP,hp]
 | x :: xs,k+1,h,hn,hp=>by
  have h0:=hn 0 (by omega)
  have ih:=idxP_hit p xs k (by simpa using h) (fun j hj=>by have:=hn (j+1) (by omega);simpa using this) (by simpa using hp)
  simp at h0
  simp [idxP,h0,ih];omega
theorem idxP_miss (p:Int→Bool):∀ (xs:List Int),(∀ j,j < xs.length→p (xs.getD j 0)=false)→idxP p xs=-1
 | [],_=>rfl
 | x :: xs,hn=>by
  have h0:=hn 0 (by simp)
  have ih:=idxP_miss p xs (fun j hj=>by have:=hn (j+1) (by simpa using hj);simpa using this)
  simp at h0
  simp [idxP,h0,ih]
theorem idxP_nonneg (p:Int→Bool) (xs:List Int):decide (0≤idxP p xs)=xs.any p:=by
 induction xs with
 | nil=>rfl
 | cons x xs ih =>
  simp only [idxP,List.any_cons,← ih]
  by_cases h:p x=true
  ·simp [h]
  ·by_cases h2:idxP p xs < 0
   ·have:¬ 0≤idxP p xs:=by omega
    simp [h,h2,this]
   ·have h3:0≤idxP p xs:=by omega
    have h4:0≤idxP p xs+1:=by omega
    simp [h,h2,h3,h4]
set_option maxHeartbeats 2000000 in
theorem idxInt_with (p:Int→Bool) (g:Nat) (lb:Array Value) (eg:∀ args w,(callFunc g args).run Try.prog w=.ok (.enter g args) w) (A0:Option Addr) (c0:Nat) (l0:List Int) (w:World)
  (hp:PredI g lb p w) (hr0:Kd.C (Kd.int .i64) w A0 l0.length l0) :
  Calls Try.prog 67 #[.slice A0 l0.length c0,.func (.func g) #[] lb] w fun e w'=>e=.returned (.int .i64 (idxP p l0))∧∃ q,w'=w.drewN q:=by
 have hpAt:∀ (x:Int) (q:Nat),Calls Try.prog g (#[.int .i64 x] ++ lb) (w.drewN q) fun e w'=>e=.returned (.bool (p x))∧∃ q',w'=(w.drewN q).drewN q':=fun x q=>hp _ x (zz0 (Below.refl _ w) q)
 have HR0:=zz31 hr0
 have hbig:l0.length≤9223372036854775807:=hr0.2.1
 clear hp hr0
 go_enter Try.func67,Try.ntmps67
 go_wp2
 go_loopg [5,8] l0.length (fun gg _ s8 wr=>∃ kk q:Nat,kk≤l0.length∧l0.length - kk≤gg∧s8=.int .i64 kk∧wr=w.drewN q∧Aside0 (∀ j,j < kk→p (l0.getD j 0)=false))
 case atStart=>exact ⟨0,0,Nat.zero_le _,by omega,rfl,rfl,⟨fun j hj=>absurd hj (Nat.not_lt_zero _)⟩⟩
 case round =>
  obtain ⟨kk,q,hkk,hg,rfl,rfl,A⟩:=hrel
  by_cases hlt:kk < l0.length
  ·have hltz:(kk:Int) < (l0.length:Int):=by omega
   obtain ⟨ad,e0,hcell⟩:=Kd.at_int HR0.out (kk:Int) (by omega) (by omega)
   cases e0
   have hcell':w.cell? (ad.add kk)=some (.int .i64 (rd l0 kk)):=hcell
   clear hcell
   obtain ⟨y,hy⟩:∃ y,y=rd l0 kk:=⟨_,rfl⟩
   rw [← hy] at hcell'
   have B:Aside0 (l0.getD kk 0=y):=⟨hy.symm⟩
   clear hy
   have hcall:=hpAt y
   cases hq:p y with
   | true =>
    rw [hq] at hcall
    go_wp2_with (go_at_fn g;refine (hcall _).mono ?_;rintro e w' ⟨rfl,q',rfl⟩)
    go_ret
    refine ⟨?_,_,rfl⟩
    rw [idxP_hit p l0 kk hlt A.out (by rw [B.out];exact hq)]
    rfl
   | false =>
    rw [hq] at hcall
    go_wp2_with (go_at_fn g;refine (hcall _).mono ?_;rintro e w' ⟨rfl,q',rfl⟩)
    go_roundg (l0.length - (kk+1))
    case measure=>omega
    case rel =>
     refine ⟨kk+1,_,by omega,by omega,by go_num,rfl,⟨fun j hj=>?_⟩⟩
     by_cases e:j=kk
     ·subst e
      rw [B.out];exact hq
     ·exact A.out j (by omega)
  ·have hltz:¬ (kk:Int) < (l0.length:Int):=by omega
   have hkl:kk=l0.length:=by omega
   have A2:Aside0 (idxP p l0=-1):=⟨idxP_miss p l0 (by rw [← hkl];exact A.out)⟩
   clear hkl
   go_wp2
   go_ret
   refine ⟨?_,q,rfl⟩
   rw [A2.out]
   rfl
set_option maxHeartbeats 1000000 in
theorem hasInt_with (p:Int→Bool) (g:Nat) (lb:Array Value) (eg:∀ args w,(callFunc g args).run Try.prog w=.ok (.enter g args) w) (A0:Option Addr) (c0:Nat) (l0:List Int) (w:World)
  (hp:PredI g lb p w) (hr0:Kd.C (Kd.int .i64) w A0 l0.length l0) :
  Calls Try.prog 98 #[.slice A0 l0.length c0,.func (.func g) #[] lb] w fun e w'=>e=.returned (.bool (l0.any p))∧∃ q,w'=w.drewN q:=by
 rw [← idxP_nonneg]
 go_enter Try.func98,Try.ntmps98
 go_wp2_with (go_at_call 67;refine (idxInt_with p g lb eg A0 c0 l0 _ hp hr0).mono ?_;rintro e w' ⟨rfl,q,rfl⟩)
 go_ret
 exact ⟨rfl,q,rfl⟩
theorem impl_areWithin.pred (lo hi:Int) (B1 B2:Nat) (w:World) (h1:B1 < w.heap.size) (h2:B2 < w.heap.size) (c1:w.cell? ⟨B1,0,none⟩=some (.int .i64 lo)) (c2:w.cell? ⟨B2,0,none⟩=some (.int .i64 hi)) :
  PredI 99 #[.pointer (some ⟨B1,0,none⟩),.pointer (some ⟨B2,0,none⟩)] (fun x=>!(decide (lo≤x) && decide (x≤hi))) w:=fun W x hb=>by
 have hc1:W.cell? ⟨B1,0,none⟩=some (.int .i64 lo):=(hb.cell (p:=⟨B1,0,none⟩) h1).trans c1
 have hc2:W.cell? ⟨B2,0,none⟩=some (.int .i64 hi):=(hb.cell (p:=⟨B2,0,none⟩) h2).trans c2
 clear c1 c2 h1 h2 hb
 show Calls Try.prog 99 #[.int .i64 x,.pointer (some ⟨B1,0,none⟩),.pointer (some ⟨B2,0,none⟩)] W _
 go_enter Try.func99,Try.ntmps99
 go_wp2
 all_goals (go_ret;exact ⟨by simp_all,0,rfl⟩)
def impl_areWithin.f (l0:List Int) (a1:Int) (a2:Int):Option (Bool):=some (l0.all fun n=>decide (a1≤n) && decide (n≤a2))
set_option maxHeartbeats 1000000 in
theorem impl_areWithin.calls (A0:Option Addr) (c0:Nat) (l0:List Int) (a1:Int) (a2:Int) (r:Bool) (w:World) (hr0:Kd.C (Kd.int .i64) w A0 l0.length l0) (hc0:l0.length≤c0) (h:impl_areWithin.f l0 a1 a2=some r) :
  Calls Try.prog 92 #[.slice A0 l0.length c0,.int .i64 a1,.int .i64 a2] w fun e w'=>e=.returned (.bool r)∧Below w.heap.size w w':=by
 have eg:∀ args w,(callFunc 99 args).run Try.prog w=.ok (.enter 99 args) w:=enters_of Try.func99 (by kernel_rfl) rfl
 have hcon:=hasInt_with (fun x=>!(decide (a1≤x) && decide (x≤a2))) 99 #[.pointer (some ⟨w.heap.size,0,none⟩),.pointer (some ⟨w.heap.size+1,0,none⟩)] eg A0 c0 l0 ((w.alloc (.cells #[.int .i64 a1] 3)).alloc (.cells #[.int .i64 a2] 3))
  (impl_areWithin.pred a1 a2 w.heap.size (w.heap.size+1) _ (by simp;omega) (by simp) (by simp) (by simp)) (zz18 (zz18 hr0 _) _)
 have hr:(!l0.any fun x=>!(decide (a1≤x) && decide (x≤a2)))=r:=by
  have h':=Option.some.inj h
  rw [← h',List.not_any_eq_all_not]
  simp
 clear h hr0
 generalize (l0.any fun x=>!(decide (a1≤x) && decide (x≤a2)))=b at hcon hr
 subst hr
 go_enter Try.func92,Try.ntmps92
 go_wp2_with (go_at_call 98;refine hcon.mono ?_;rintro e w' ⟨rfl,q,rfl⟩)
 go_ret
 exact ⟨rfl,zz0 (((Below.refl _ w).alloc (Nat.le_refl _) _).alloc (by simp) _) q⟩

/-! ### impl_IsNumbers: function 62 -/
def impl_IsNumbers.f (l0:List Int):Option (Bool):=(impl_areCrowd.f (l0.length:Int)).bind fun t199=>(if t199=true then ((impl_areWithin.f l0 0 (wrap64 ((l0.length:Int) - 1))).bind fun t200=>(some t200)) else (some false))
set_option maxHeartbeats 8000000 in
set_option maxRecDepth 100000 in
theorem impl_IsNumbers.calls (A0:Option Addr) (c0:Nat) (l0:List Int) (r:Bool) (w:World) (hr0:Kd.C (Kd.int .i64) w A0 l0.length l0) (hc0:l0.length≤c0) (h:impl_IsNumbers.f l0=some r) :
  Calls Try.prog 62 #[.slice A0 l0.length c0] w fun e w'=>e=.returned (.bool r)∧Below w.heap.size w w':=by
 have HR0:=zz31 hr0
 have HC0:=zz31 hc0
 clear hr0 hc0
 have HB:=zz31 (Below.refl w.heap.size w)
 have H:((impl_areCrowd.f (l0.length:Int)).bind fun t199=>(if t199=true then ((impl_areWithin.f l0 0 (wrap64 ((l0.length:Int) - 1))).bind fun t200=>(some t200)) else (some false)))=some r:=h
 clear h
 replace H:=zz30.mp H
 obtain ⟨t199,A20,H⟩:=H
 replace H:(if t199=true then ((impl_areWithin.f l0 0 (wrap64 ((l0.length:Int) - 1))).bind fun t200=>(some t200)) else (some false))=some r:=H
 have A2:=zz31 A20
 clear A20
 by_cases c3:t199=true
 ·subst c3
  have H1:((impl_areWithin.f l0 0 (wrap64 ((l0.length:Int) - 1))).bind fun t200=>(some t200))=some r:=by rw [if_pos rfl] at H;exact H
  clear H
  have H:=H1
  clear H1
  replace H:=zz30.mp H
  obtain ⟨t200,A40,H⟩:=H
  replace H:(some t200)=some r:=H
  have A4:=zz31 A40
  clear A40
  obtain rfl:=Option.some.inj H
  go_enter Try.func62,Try.ntmps62
  go_wp2_with (first | ((with_reducible refine gate_callee (f:=91) rfl ?_);refine goesL_ (some 5) rfl rfl Try.func91 (by kernel_rfl) rfl #[.int .i64 (l0.length:Int)] rfl (by (try simp only [zz26,zz27,zz28]);first | done | rfl | (simp only [zz24,zz25];rfl)) ?_;(with_reducible refine (impl_areCrowd.calls (l0.length:Int) true _ A2.out).mono ?_);rintro e w' ⟨rfl,⟨nd,rfl⟩⟩;refine ⟨_,rfl,?_⟩) | (go_at_call 92;(with_reducible refine (impl_areWithin.calls _ _ l0 0 (wrap64 ((l0.length:Int) - 1)) t200 _ ?side1 ?side2 A4.out).mono ?_);(case side1=>repeat (first | exact HR0.out | (with_reducible refine zz18 ?_ _) | (with_reducible refine zz19 ?_ _) | (with_reducible refine zz20 ?_)));(case side2=>exact HC0.out);rintro e w5 ⟨rfl,hb⟩;have n0_:=zz31 (zz4 (by repeat first | exact HB.out | apply zz2 | apply zz0 | apply zz1) hb);clear HB;have HB:=n0_;clear n0_;(try clear hb);(try clear hb2);(try clear hk);(try clear hi)))
  go_ret
  exact ⟨by first | rfl | (simp [errW_none,errW_some] <;> rfl) | (simp [*,errW_none,errW_some] <;> rfl),by repeat first | exact HB.out | apply zz2 | apply zz0 | apply zz1⟩
 ·replace c3:=Bool.eq_false_iff.mpr c3
  subst c3
  have H1:(some false)=some r:=by rw [if_neg (show ¬ (false=true) by decide)] at H;exact H
  clear H
  have H:=H1
  clear H1
  obtain rfl:=Option.some.inj H
  go_enter Try.func62,Try.ntmps62
  go_wp2_with (first | ((with_reducible refine gate_callee (f:=91) rfl ?_);refine goesL_ (some 5) rfl rfl Try.func91 (by kernel_rfl) rfl #[.int .i64 (l0.length:Int)] rfl (by (try simp only [zz26,zz27,zz28]);first | done | rfl | (simp only [zz24,zz25];rfl)) ?_;(with_reducible refine (impl_areCrowd.calls (l0.length:Int) false _ A2.out).mono ?_);rintro e w' ⟨rfl,⟨nd,rfl⟩⟩;refine ⟨_,rfl,?_⟩))
  go_ret
  exact ⟨by first | rfl | (simp [errW_none,errW_some] <;> rfl) | (simp [*,errW_none,errW_some] <;> rfl),by repeat first | exact HB.out | apply zz2 | apply zz0 | apply zz1⟩

/-! ### slices_Index_int_int: function 66 -/
def slices_Index_int_int.l0:Nat→List Int→Int→Int→Int→Option (Int)
 | 0,_,_,_,_=>none
 | k+1,x0,x1,x7,x8=>if x8 < x7 then (if 0≤x8 then (if x8 < (x0.length:Int) then (if x1=(rd x0 x8) then (some x8) else (slices_Index_int_int.l0 k x0 x1 x7 (wrap64 (x8+1)))) else (none)) else (none)) else (some (-1))
def slices_Index_int_int.f (k:Nat) (l0:List Int) (a1:Int):Option (Int):=slices_Index_int_int.l0 k l0 a1 (l0.length:Int) 0
theorem slices_Index_int_int.mono_l:∀ k,(∀ y0 y1 y2 y3,LeO (slices_Index_int_int.l0 k y0 y1 y2 y3) (slices_Index_int_int.l0 (k+1) y0 y1 y2 y3))
 | 0=>fun _ _ _ _ r h=>by simp [slices_Index_int_int.l0] at h
 | k+1=>by
  have ih0:=slices_Index_int_int.mono_l k
  ·intro y0 y1 y2 y3
   unfold slices_Index_int_int.l0
   repeat' first
   | (with_reducible exact ih0 _ _ _ _)
   | (with_reducible exact LeO.refl _)
   | (with_reducible exact LeO.none _)
   | (with_reducible refine LeO.ite ?_ ?_)
   | (with_reducible refine LeO.bind ?_ (fun _=>?_))
   | exact ih0 _ _ _ _
   | exact LeO.none _
   | refine LeO.ite ?_ ?_
   | refine LeO.bind ?_ (fun _=>?_)
theorem slices_Index_int_int.mono:∀ a0 a1 k,LeO (slices_Index_int_int.f k a0 a1) (slices_Index_int_int.f (k+1) a0 a1):=by
 intro a0 a1 k
 have ih0:=slices_Index_int_int.mono_l k
 unfold slices_Index_int_int.f
 repeat' first
   | (with_reducible exact ih0 _ _ _ _)
   | (with_reducible exact LeO.refl _)
   | (with_reducible exact LeO.none _)
   | (with_reducible refine LeO.ite ?_ ?_)
   | (with_reducible refine LeO.bind ?_ (fun _=>?_))
   | exact ih0 _ _ _ _
   | exact LeO.none _
   | refine LeO.ite ?_ ?_
   | refine LeO.bind ?_ (fun _=>?_)
set_option maxHeartbeats 8000000 in
set_option maxRecDepth 100000 in
theorem slices_Index_int_int.calls (k:Nat) (A0:Option Addr) (c0:Nat) (l0:List Int) (a1:Int) (r:Int) (w:World) (hr0:Kd.C (Kd.int .i64) w A0 l0.length l0) (hc0:l0.length≤c0) (h:slices_Index_int_int.f k l0 a1=some r) :
  Calls Try.prog 66 #[.slice A0 l0.length c0,.int .i64 a1] w fun e w'=>e=.returned (.int .i64 r)∧Drawn0 w w':=by
 have HR0:=zz31 hr0
 have HC0:=zz31 hc0
 clear hr0 hc0
 have H:(slices_Index_int_int.l0 k l0 a1 (l0.length:Int) 0)=some r:=h
 clear h
 have H':=zz31 H
 clear H
 go_enter Try.func66,Try.ntmps66
 go_wp2
 go_loopg [8] k (fun kq v8 w'=>∃ (x8_1:Int),v8=.int .i64 x8_1∧Aside0 (slices_Index_int_int.l0 kq l0 a1 (l0.length:Int) x8_1=some r)∧Aside0 (kq≤k)∧Drawn0 w w')
 case atStart=>exact ⟨(0),(by first | rfl | (simp;done) | (simp [*];done)),H',⟨Nat.le_refl _⟩,by repeat (first | exact Drawn0.refl _ | apply Drawn0.step)⟩
 case round =>
  clear H'
  try clear p2
  obtain ⟨x8_1,rfl,HA,HK1,⟨m1,rfl⟩⟩:=hrel
  cases gk with
  | zero=>exact absurd HA.out (by simp [slices_Index_int_int.l0])
  | succ k1 =>
   have H:=HA.out
   clear HA
   simp only [slices_Index_int_int.l0] at H
   by_cases c3:x8_1 < (l0.length:Int)
   ·rw [if_pos c3] at H
    have c3b0:decide (x8_1 < (l0.length:Int))=true:=decide_eq_true c3
    clear c3
    by_cases c4:0≤x8_1
    ·rw [if_pos c4] at H
     have c4b0:decide (0≤x8_1)=true:=decide_eq_true c4
     clear c4
     by_cases c5:x8_1 < (l0.length:Int)
     ·rw [if_pos c5] at H
      have c5b0:decide (x8_1 < (l0.length:Int))=true:=decide_eq_true c5
      clear c5
      by_cases c6:a1=(rd l0 x8_1)
      ·rw [if_pos c6] at H
       have c6b0:(a1 == (rd l0 x8_1))=true:=beq_iff_eq.mpr c6
       have c6b1:(a1 != (rd l0 x8_1))=false:=bne_eq_false_iff_eq.mpr c6
       clear c6
       obtain rfl:=Option.some.inj H
       have p201:0≤(x8_1:Int):=zz29 (by first | (with_reducible assumption) | assumption)
       have q201:x8_1 < (l0.length:Int):=zz29 (by first | (with_reducible assumption) | assumption)
       obtain ⟨ad201,e201,hx201_0⟩:=Kd.at_int HR0.out x8_1 p201 q201
       cases e201
       replace p201:=eq_true p201
       replace q201:=eq_true q201
       go_wp2
       go_ret
       exact ⟨by first | rfl | (simp;done) | (simp [*];done),by repeat (first | exact Drawn0.refl _ | apply Drawn0.step)⟩
      ·rw [if_neg c6] at H
       have c6b0:(a1 == (rd l0 x8_1))=false:=beq_eq_false_iff_ne.mpr c6
       have c6b1:(a1 != (rd l0 x8_1))=true:=bne_iff_ne.mpr c6
       have H':=zz31 H
       clear H
       have p201:0≤(x8_1:Int):=zz29 (by first | (with_reducible assumption) | assumption)
       have q201:x8_1 < (l0.length:Int):=zz29 (by first | (with_reducible assumption) | assumption)
       obtain ⟨ad201,e201,hx201_0⟩:=Kd.at_int HR0.out x8_1 p201 q201
       cases e201
       replace p201:=eq_true p201
       replace q201:=eq_true q201
       go_wp2
       go_roundg k1
       case measure=>have:=HK1.out;omega
       case rel=>exact ⟨(wrap64 (x8_1+1)),(by first | rfl | (simp;done) | (simp [*];done)),H',⟨by have:=HK1.out;omega⟩,by repeat (first | exact Drawn0.refl _ | apply Drawn0.step)⟩
     ·rw [if_neg c5] at H
      exact absurd H (by simp)
    ·rw [if_neg c4] at H
     exact absurd H (by simp)
   ·rw [if_neg c3] at H
    have c3b0:decide (x8_1 < (l0.length:Int))=false:=decide_eq_false c3
    clear c3
    obtain rfl:=Option.some.inj H
    go_wp2
    go_ret
    exact ⟨by first | rfl | (simp;done) | (simp [*];done),by repeat (first | exact Drawn0.refl _ | apply Drawn0.step)⟩

/-! ### slices_Contains_int_int: function 63 -/
def slices_Contains_int_int.f (k:Nat) (l0:List Int) (a1:Int):Option (Bool):=(slices_Index_int_int.f k l0 a1).bind fun t202=>(some (decide (t202 ≥ 0)))
theorem slices_Contains_int_int.mono:∀ a0 a1 k,LeO (slices_Contains_int_int.f k a0 a1) (slices_Contains_int_int.f (k+1) a0 a1):=by
 intro a0 a1 k
 unfold slices_Contains_int_int.f
 repeat' first
   | (with_reducible exact slices_Index_int_int.mono _ _ _)
   | (with_reducible exact LeO.refl _)
   | (with_reducible exact LeO.none _)
   | (with_reducible refine LeO.ite ?_ ?_)
   | (with_reducible refine LeO.bind ?_ (fun _=>?_))
   | exact slices_Index_int_int.mono _ _ _
   | exact LeO.none _
   | refine LeO.ite ?_ ?_
   | refine LeO.bind ?_ (fun _=>?_)
set_option maxHeartbeats 8000000 in
set_option maxRecDepth 100000 in
theorem slices_Contains_int_int.calls (k:Nat) (A0:Option Addr) (c0:Nat) (l0:List Int) (a1:Int) (r:Bool) (w:World) (hr0:Kd.C (Kd.int .i64) w A0 l0.length l0) (hc0:l0.length≤c0) (h:slices_Contains_int_int.f k l0 a1=some r) :
  Calls Try.prog 63 #[.slice A0 l0.length c0,.int .i64 a1] w fun e w'=>e=.returned (.bool r)∧Drawn0 w w':=by
 have HR0:=zz31 hr0
 have HC0:=zz31 hc0
 clear hr0 hc0
 have H:((slices_Index_int_int.f k l0 a1).bind fun t202=>(some (decide (t202 ≥ 0))))=some r:=h
 clear h
 replace H:=zz30.mp H
 obtain ⟨t202,A30,H⟩:=H
 replace H:(some (decide (t202 ≥ 0)))=some r:=H
 have A3:=zz31 A30
 clear A30
 obtain rfl:=Option.some.inj H
 go_enter Try.func63,Try.ntmps63
 go_wp2_with (first | ((with_reducible refine gate_callee (f:=66) rfl ?_);refine goesL_ (some 7) rfl rfl Try.func66 (by kernel_rfl) rfl #[.slice A0 l0.length c0,.int .i64 a1] rfl (by (try simp only [zz26,zz27,zz28]);first | done | rfl | (simp only [zz24,zz25];rfl)) ?_;(with_reducible refine (slices_Index_int_int.calls k _ _ l0 a1 t202 _ ?side1 ?side2 A3.out).mono ?_);(case side1=>repeat (first | exact HR0.out | (with_reducible refine zz18 ?_ _) | (with_reducible refine zz19 ?_ _) | (with_reducible refine zz20 ?_)));(case side2=>exact HC0.out);rintro e w' ⟨rfl,⟨nd,rfl⟩⟩;refine ⟨_,rfl,?_⟩))
 go_ret
 exact ⟨by first | rfl | (simp;done) | (simp [*];done),by repeat (first | exact Drawn0.refl _ | apply Drawn0.step)⟩

/-! ### impl_sum: function 64 -/
def impl_sum.l0:Nat→Int→List Int→Int→Int→Option (Int)
 | 0,_,_,_,_=>none
 | k+1,x3,x6,x7,x8=>if x8 < x7 then (if 0≤x8 then (if x8 < (x6.length:Int) then (impl_sum.l0 k (wrap64 (x3+(rd x6 x8))) x6 x7 (wrap64 (x8+1))) else (none)) else (none)) else (some x3)
def impl_sum.f (k:Nat) (l0:List Int):Option (Int):=impl_sum.l0 k 0 l0 (l0.length:Int) 0
theorem impl_sum.mono_l:∀ k,(∀ y0 y1 y2 y3,LeO (impl_sum.l0 k y0 y1 y2 y3) (impl_sum.l0 (k+1) y0 y1 y2 y3))
 | 0=>fun _ _ _ _ r h=>by simp [impl_sum.l0] at h
 | k+1=>by
  have ih0:=impl_sum.mono_l k
  ·intro y0 y1 y2 y3
   unfold impl_sum.l0
   repeat' first
   | (with_reducible exact ih0 _ _ _ _)
   | (with_reducible exact LeO.refl _)
   | (with_reducible exact LeO.none _)
   | (with_reducible refine LeO.ite ?_ ?_)
   | (with_reducible refine LeO.bind ?_ (fun _=>?_))
   | exact ih0 _ _ _ _
   | exact LeO.none _
   | refine LeO.ite ?_ ?_
   | refine LeO.bind ?_ (fun _=>?_)
theorem impl_sum.mono:∀ a0 k,LeO (impl_sum.f k a0) (impl_sum.f (k+1) a0):=by
 intro a0 k
 have ih0:=impl_sum.mono_l k
 unfold impl_sum.f
 repeat' first
   | (with_reducible exact ih0 _ _ _ _)
   | (with_reducible exact LeO.refl _)
   | (with_reducible exact LeO.none _)
   | (with_reducible refine LeO.ite ?_ ?_)
   | (with_reducible refine LeO.bind ?_ (fun _=>?_))
   | exact ih0 _ _ _ _
   | exact LeO.none _
   | refine LeO.ite ?_ ?_
   | refine LeO.bind ?_ (fun _=>?_)
set_option maxHeartbeats 8000000 in
set_option maxRecDepth 100000 in
theorem impl_sum.calls (k:Nat) (A0:Option Addr) (c0:Nat) (l0:List Int) (r:Int) (w:World) (hr0:Kd.C (Kd.int .i64) w A0 l0.length l0) (hc0:l0.length≤c0) (h:impl_sum.f k l0=some r) :
  Calls Try.prog 64 #[.slice A0 l0.length c0] w fun e w'=>e=.returned (.int .i64 r)∧Drawn0 w w':=by
 have HR0:=zz31 hr0
 have HC0:=zz31 hc0
 clear hr0 hc0
 have H:(impl_sum.l0 k 0 l0 (l0.length:Int) 0)=some r:=h
 clear h
 have H':=zz31 H
 clear H
 go_enter Try.func64,Try.ntmps64
 go_wp2
 go_loopg [3,8] k (fun kq v3 v8 w'=>∃ (x3_1:Int) (x8_1:Int),v3=.int .i64 x3_1∧v8=.int .i64 x8_1∧Aside0 (impl_sum.l0 kq x3_1 l0 (l0.length:Int) x8_1=some r)∧Aside0 (kq≤k)∧Drawn0 w w')
 case atStart=>exact ⟨(0),(0),(by first | rfl | (simp;done) | (simp [*];done)),(by first | rfl | (simp;done) | (simp [*];done)),H',⟨Nat.le_refl _⟩,by repeat (first | exact Drawn0.refl _ | apply Drawn0.step)⟩
 case round =>
  clear H'
  obtain ⟨x3_1,x8_1,rfl,rfl,HA,HK1,⟨m1,rfl⟩⟩:=hrel
  cases gk with
  | zero=>exact absurd HA.out (by simp [impl_sum.l0])
  | succ k1 =>
   have H:=HA.out
   clear HA
   simp only [impl_sum.l0] at H
   by_cases c2:x8_1 < (l0.length:Int)
   ·rw [if_pos c2] at H
    have c2b0:decide (x8_1 < (l0.length:Int))=true:=decide_eq_true c2
    clear c2
    by_cases c3:0≤x8_1
    ·rw [if_pos c3] at H
     have c3b0:decide (0≤x8_1)=true:=decide_eq_true c3
     clear c3
     by_cases c4:x8_1 < (l0.length:Int)
     ·rw [if_pos c4] at H
      have c4b0:decide (x8_1 < (l0.length:Int))=true:=decide_eq_true c4
      clear c4
      have H':=zz31 H
      clear H
      have p203:0≤(x8_1:Int):=zz29 (by first | (with_reducible assumption) | assumption)
      have q203:x8_1 < (l0.length:Int):=zz29 (by first | (with_reducible assumption) | assumption)
      obtain ⟨ad203,e203,hx203_0⟩:=Kd.at_int HR0.out x8_1 p203 q203
      cases e203
      replace p203:=eq_true p203
      replace q203:=eq_true q203
      go_wp2
      go_roundg k1
      case measure=>have:=HK1.out;omega
      case rel=>exact ⟨(wrap64 (x3_1+(rd l0 x8_1))),(wrap64 (x8_1+1)),(by first | rfl | (simp;done) | (simp [*];done)),(by first | rfl | (simp;done) | (simp [*];done)),H',⟨by have:=HK1.out;omega⟩,by repeat (first | exact Drawn0.refl _ | apply Drawn0.step)⟩
     ·rw [if_neg c4] at H
      exact absurd H (by simp)
    ·rw [if_neg c3] at H
     exact absurd H (by simp)
   ·rw [if_neg c2] at H
    have c2b0:decide (x8_1 < (l0.length:Int))=false:=decide_eq_false c2
    clear c2
    obtain rfl:=Option.some.inj H
    go_wp2
    go_ret
    exact ⟨by first | rfl | (simp;done) | (simp [*];done),by repeat (first | exact Drawn0.refl _ | apply Drawn0.step)⟩

/-! ### slices_Clone_int_int: function 65 (a contract of our own) -/
def slices_Clone_int_int.f (l0:List Int):Option (List Int):=if l0.length≤1000000000 then some l0 else none
set_option maxHeartbeats 1000000 in
set_option maxRecDepth 100000 in
theorem slices_Clone_int_int.calls (A0:Option Addr) (c0:Nat) (l0:List Int) (r:List Int) (w:World) (hr0:Kd.C (Kd.int .i64) w A0 l0.length l0) (hc0:l0.length≤c0) (h:slices_Clone_int_int.f l0=some r) :
  Calls Try.prog 65 #[.slice A0 l0.length c0] w fun e w'=>∃ v0_:Value,e=.returned (v0_)∧Kd.R (Kd.int .i64) 3 w' w.heap.size (fun _=>True) v0_ r∧Below w.heap.size w w':=by
 unfold slices_Clone_int_int.f at h
 by_cases hb:l0.length≤1000000000
 case neg=>rw [if_neg hb] at h;exact absurd h (by simp)
 rw [if_pos hb] at h
 obtain rfl:=Option.some.inj h
 clear h
 have HR:=zz31 hr0
 have HBIG:=zz31 hb
 clear hb hc0
 cases A0 with
 | none =>
  have h0:l0=[]:=by
   rcases Nat.eq_zero_or_pos l0.length with hz | hz
   ·exact List.eq_nil_of_length_eq_zero hz
   ·obtain ⟨ad,e,_⟩:=hr0.2.2 hz
    cases e
  subst h0
  clear hr0
  have heq:∀ W:World,(binOp .eql 22 (.slice none 0 c0) (.slice none 0 0)).run Try.prog W=.ok (.bool true) W:=fun W=>Lib.run_eql_slice_nil_nil W 0 c0 Try.underlying22
  go_enter Try.func65,Try.ntmps65
  go_wp2
  go_ret
  exact ⟨_,rfl,Kd.R_nil _ _ _ _ _,Below.refl _ _⟩
 | some ad =>
  clear hr0
  have heq:∀ W:World,(binOp .eql 22 (.slice (some ad) l0.length c0) (.slice none 0 0)).run Try.prog W=.ok (.bool false) W:=fun W=>Lib.run_eql_slice_some_nil W ad l0.length c0 Try.underlying22
  go_enter Try.func65,Try.ntmps65
  go_wp2_with (first | ((with_reducible refine gate_dst (N:=5) rfl ?_);refine Kd.R_lit (Kd.int .i64) (w0:=w) w.heap.size 3 ?hg (N:=5) ?hd (xs:=([]:List Int)) (inner:=[]) (ok:=fun _=>True) (okp:=fun _=>True) ?hr ?hp (fun _ hk=>hk) trivial (Below.refl _ _) (Nat.le_refl _) (by simp) ?_;(case hd=>rfl);(case hg=>rfl);(case hr=>first | (go_simp;done) | (go_simp;rfl));(case hp=>exact (Reps.none _ _));intro v3 w3 ho hb hg_ hnew_;clear hg_ hnew_;have HO:=zz31 ho;have HB:=zz31 hb;clear ho hb) | ((with_reducible refine gate_dst (N:=7) rfl ?_);refine Kd.R_append_rows (Kd.int .i64) (w0:=w) w.heap.size rfl (.tmp 5) (.tmp 6) 22 3 (.int .i64 0) 8 rfl Try.underlying22 info3 rfl (by decide) (by omega) v3 [] l0 _ _ _ (fun _=>True) (fun _=>False) rfl rfl HO.out (Kd.C_below HR.out HB.out) ?aR (fun _ h=>h.elim) (fun _ _=>trivial) HB.out HB.out.size ?aL ?_;(case aR=>exact (fun _ _ h=>h));(case aL=>(have:=HBIG.out;simp;omega));intro v4 w4 ho4 hb4 hg4 hn4;clear hg4 hn4;have HO4:=zz31 ho4;have HB4:=zz31 hb4;clear ho4 hb4))
  go_ret
  exact ⟨_,rfl,by simpa using HO4.out,HB4.out⟩

-- NOT PRINTED: function 68 (impl_TreeOfNumbers_1)

/-! ### impl_table_put: function 69 -/
def impl_table_put.f (l0:List Int) (a1:Int) (a2:Int):Option (List Int):=if 0≤a1 then (if a1 < (l0.length:Int) then (if 0≤a2 then ((some (l0.set (a1:Int).toNat (Go.bits .or .u16 (rd l0 a1) (shl .u16 1 a2)):List Int)).bind fun y205=>(if a2 < (l0.length:Int) then (some (y205.set (a2:Int).toNat (Go.bits .or .u16 (rd y205 a2) (shl .u16 1 a1)))) else (none))) else (none)) else (none)) else (none)
def impl_table_put.T0:Bool × List (List Nat × List Nat):=(true,[([],[]),([],[]),([0,1],[0,1]),([2],[2]),([],[]),([4],[4]),([3,5],[3,5]),([0,1,0,1,2,3,4,5,6],[0,1]),([7,6,0,1,2,3,4,5,6],[6,7])])
def impl_table_put.B0:List Nat:=[0,0,3,7,0,16,63,127,255]
theorem impl_table_put.tab0:rtab .any (opsOf Try.f69 0)=impl_table_put.T0:=by kernel_rfl
theorem impl_table_put.bits0:waitsOk impl_table_put.T0.2 impl_table_put.B0=true:=by kernel_rfl
def impl_table_put.T1:Bool × List (List Nat × List Nat):=(true,[([],[]),([],[]),([0,1],[0,1]),([2],[2]),([],[]),([4],[4]),([3,5],[3,5]),([0,1,0,1,2,3,4,5,6],[0,1]),([7,6,0,1,2,3,4,5,6],[6,7])])
def impl_table_put.B1:List Nat:=[0,0,3,7,0,16,63,127,255]
theorem impl_table_put.tab1:rtab .any (opsOf Try.f69 1)=impl_table_put.T1:=by kernel_rfl
theorem impl_table_put.bits1:waitsOk impl_table_put.T1.2 impl_table_put.B1=true:=by kernel_rfl
set_option maxHeartbeats 8000000 in
set_option maxRecDepth 100000 in
theorem impl_table_put.calls (P0_:Nat→Prop) (u9000_:Value) (l0:List Int) (a1:Int) (a2:Int) (r:List Int) (w0 w:World) (hB:Below w0.heap.size w0 w) (ho0:Kd.R (Kd.int .u16) 77 w w0.heap.size P0_ u9000_ l0) (h:impl_table_put.f l0 a1 a2=some r) :
  Calls Try.prog 69 #[u9000_,.int .i64 a1,.int .i64 a2] w fun e w'=>e=.returned (.tuple #[])∧Kd.R (Kd.int .u16) 77 w' w0.heap.size (fun k_=>(P0_ k_ ∨ w.heap.size≤k_)) u9000_ r∧Below w0.heap.size w0 w'∧Kept w w' (fun k_=>P0_ k_):=by
 have HO0:=zz31 (show Kd.R (Kd.int .u16) 77 w w0.heap.size (fun k_=>(P0_ k_ ∨ w.heap.size≤k_)) u9000_ l0 from Kd.R_mono ho0 (fun k_ hk=>(.inl hk)))
 have HK:=zz31 (Kept.refl w (fun k_=>P0_ k_))
 have HW0:=zz31 hB.size
 have HB:=zz31 hB
 clear hB
 have H:(if 0≤a1 then (if a1 < (l0.length:Int) then (if 0≤a2 then ((some (l0.set (a1:Int).toNat (Go.bits .or .u16 (rd l0 a1) (shl .u16 1 a2)):List Int)).bind fun y205=>(if a2 < (l0.length:Int) then (some (y205.set (a2:Int).toNat (Go.bits .or .u16 (rd y205 a2) (shl .u16 1 a1)))) else (none))) else (none)) else (none)) else (none))=some r:=h
 clear h
 by_cases c4:0≤a1
 ·rw [if_pos c4] at H
  have c4b0:decide (0≤a1)=true:=decide_eq_true c4
  clear c4
  by_cases c5:a1 < (l0.length:Int)
  ·rw [if_pos c5] at H
   have c5b0:decide (a1 < (l0.length:Int))=true:=decide_eq_true c5
   clear c5
   by_cases c6:0≤a2
   ·rw [if_pos c6] at H
    have c6b0:=eq_true c6
    have c6b1:decide (0≤a2)=true:=decide_eq_true c6
    clear c6
    obtain ⟨ji7,hji7⟩:∃ j_:Int,(shl .u16 1 a2)=j_:=⟨_,rfl⟩
    replace H:((some (l0.set (a1:Int).toNat (Go.bits .or .u16 (rd l0 a1) (ji7)):List Int)).bind fun y205=>(if a2 < (l0.length:Int) then (some (y205.set (a2:Int).toNat (Go.bits .or .u16 (rd y205 a2) (shl .u16 1 a1)))) else (none)))=some r:=by first | (rw [hji7] at H;exact H) | (simp only [hji7] at H ⊢;exact H)
    have hji7_:(IntKind.u16.wrap (1 * 2 ^ min a2.toNat 16))=ji7:=hji7
    have hji7z:a2≤16→(IntKind.u16.wrap (1 * 2 ^ a2.toNat))=ji7:=shl_small hji7
    have hji7u:(IntKind.u16.wrap (2 ^ min a2.toNat 16))=ji7:=by have h_:=hji7_;rw [Int.one_mul] at h_;exact h_
    have hji7v:a2≤16→(IntKind.u16.wrap (2 ^ a2.toNat))=ji7:=fun hle_=>by have h_:=hji7z hle_;rw [Int.one_mul] at h_;exact h_
    obtain ⟨y205,hy205⟩:∃ y_:List Int,y_=(l0.set (a1:Int).toNat (Go.bits .or .u16 (rd l0 a1) (ji7))):=⟨_,rfl⟩
    replace H:(if a2 < (l0.length:Int) then (some (y205.set (a2:Int).toNat (Go.bits .or .u16 (rd y205 a2) (shl .u16 1 a1)))) else (none))=some r:=by first | (rw [hy205];with_reducible exact H) | (have H2_:=(Option.bind_some _ _).symm.trans H;rw [hy205];with_reducible exact H2_) | (have H2_:=(Option.bind_some _ _).symm.trans H;with_reducible exact H2_) | with_reducible exact H | (rw [hy205];exact H) | exact H
    have Ny205:=zz31 hy205
    clear hy205
    by_cases c9:a2 < (l0.length:Int)
    ·rw [if_pos c9] at H
     have c9b0:decide (a2 < (l0.length:Int))=true:=decide_eq_true c9
     clear c9
     have c10b0:=eq_true (zz29 (by first | (with_reducible assumption) | assumption):0≤a1)
     obtain ⟨ji11,hji11⟩:∃ j_:Int,(shl .u16 1 a1)=j_:=⟨_,rfl⟩
     replace H:(some (y205.set (a2:Int).toNat (Go.bits .or .u16 (rd y205 a2) (ji11))))=some r:=by first | (rw [hji11] at H;exact H) | (simp only [hji11] at H ⊢;exact H)
     have hji11_:(IntKind.u16.wrap (1 * 2 ^ min a1.toNat 16))=ji11:=hji11
     have hji11z:a1≤16→(IntKind.u16.wrap (1 * 2 ^ a1.toNat))=ji11:=shl_small hji11
     have hji11u:(IntKind.u16.wrap (2 ^ min a1.toNat 16))=ji11:=by have h_:=hji11_;rw [Int.one_mul] at h_;exact h_
     have hji11v:a1≤16→(IntKind.u16.wrap (2 ^ a1.toNat))=ji11:=fun hle_=>by have h_:=hji11z hle_;rw [Int.one_mul] at h_;exact h_
     obtain ⟨y207,hy207⟩:∃ y_:List Int,y_=(y205.set (a2:Int).toNat (Go.bits .or .u16 (rd y205 a2) (ji11))):=⟨_,rfl⟩
     replace H:(some y207)=some r:=by first | (rw [hy207];with_reducible exact H) | (have H2_:=(Option.bind_some _ _).symm.trans H;rw [hy207];with_reducible exact H2_) | (have H2_:=(Option.bind_some _ _).symm.trans H;with_reducible exact H2_) | with_reducible exact H | (rw [hy207];exact H) | exact H
     have Ny207:=zz31 hy207
     clear hy207
     obtain rfl:=Option.some.inj H
     go_enter Try.func69,Try.ntmps69
     try go_wp2
     have n0_:=zz31 (zz14 HO0.out)
     have n1_:=zz31 (Kept.drew HK.out)
     have n2_:=zz31 (zz1 HB.out)
     clear HO0
     clear HK
     clear HB
     have HO0:=n0_
     have HK:=n1_
     have HB:=n2_
     clear n0_ n1_ n2_
     obtain ⟨Ao14,co14,eo14⟩:=Kd.R_slice HO0.out
     (first | subst eo14 | (injection eo14 with f1_ f2_ f3_;have f4_:=f1_.symm;have f5_:=f3_.symm;clear f1_ f2_ f3_;subst f4_;subst f5_))
     have p204:0≤(a1:Int):=zz29 (by first | (with_reducible assumption) | assumption)
     have q204:a1 < (l0.length:Int):=zz29 (by first | (with_reducible assumption) | assumption)
     obtain ⟨ad204,e204,hx204_0⟩:=Kd.at_int (Kd.R_reads' HO0.out).2.2 a1 p204 q204
     cases e204
     replace p204:=eq_true p204
     replace q204:=eq_true q204
     have p8:0≤(a1:Int):=zz29 (by first | (with_reducible assumption) | assumption)
     have q8:(a1:Int) < ((l0.length:Int):Int):=zz29 (by first | (with_reducible assumption) | assumption)
     obtain ⟨go8,co8,eo8,gb8,gl8,cl8,HG8⟩:=Kd.R_form HO0.out (by omega)
     (first | cases eo8 | (injection eo8 with ea_ en_ ec_;(first | subst ea_ | (injection ea_ with ea_;subst ea_));subst ec_;clear en_))
     have GB8:=zz31 gb8
     have GG8:=zz31 HG8
     clear gb8 gl8 HG8
     have HMgo8:=zz31 (show (P0_ go8 ∨ w.heap.size≤go8) from (HO0.out.1 _ rfl))
     (first | simp only [add_plain] at hx204_0 | skip)
     obtain ⟨hx8_0,hf8_0⟩:=Kd.R_celln 0 HO0.out (a1:Int) p8 q8
     replace p8:=eq_true p8
     replace q8:=eq_true q8
     have HP15:=Kd.R_putn HO0.out (a1:Int) (Go.bits .or .u16 (rd l0 a1) (ji7))
     rw [← Ny205.out] at HP15
     have HQ15:=zz31 HP15
     clear HP15
     refine start_ (n:=9) (S:=fun w'=>w'.cell? ⟨go8,(a1).toNat,none⟩=some (.int .u16 (rd l0 a1))) (ds:=[8]) #[F,F,F,F,F,F,F,F,F] (by kernel_rfl) rfl rfl (hx204_0) (fun hHeld=>?_);refine with_tabW impl_table_put.tab0 impl_table_put.bits0 (fun HT_ HW_=>?_)
     generalize w.drew=w13 at HO0 HK HB GG8 HQ15 hf8_0 hx204_0 hx8_0 hHeld ⊢
     refine pure_ (i:=0) (N:=some 6) (v:=?_) (a':=?_) #[T,F,F,F,F,F,F,F,F] rfl rfl (any_of HT_.out (by kernel_rfl)) (fun _ _ _ h=>h) (Or.inl ⟨by rfl,?_⟩) ?_ ?_
     rotate_left
     ·intro w'
      go_simp
      with_reducible rfl
     rotate_left
     ·simp only [Act.put,zz21,zz22,zz23,i64_w,i32_w]
      rfl
     refine pure_ (i:=1) (N:=some 7) (v:=?_) (a':=?_) #[T,T,F,F,F,F,F,F,F] rfl rfl (any_of HT_.out (by kernel_rfl)) (fun _ _ _ h=>h) (Or.inl ⟨by rfl,?_⟩) ?_ ?_
     rotate_left
     ·intro w'
      go_simp
      with_reducible rfl
     rotate_left
     ·simp only [Act.put,zz21,zz22,zz23,i64_w,i32_w]
      rfl
     refine pure_ (i:=2) (N:=some 8) (v:=?_) (a':=?_) #[T,T,T,F,F,F,F,F,F] rfl rfl (any_of HT_.out (by kernel_rfl)) (fun _ _ _ h=>h) (Or.inl ⟨by rfl,?_⟩) ?_ ?_
     rotate_left
     ·intro w'
      go_simp
      with_reducible rfl
     rotate_left
     ·simp only [Act.put,zz21,zz22,zz23,i64_w,i32_w]
      rfl
     refine pure_ (i:=4) (N:=some 10) (v:=?_) (a':=?_) #[T,T,T,F,T,F,F,F,F] rfl rfl (any_of HT_.out (by kernel_rfl)) (fun _ _ _ h=>h) (Or.inl ⟨by rfl,?_⟩) ?_ ?_
     rotate_left
     ·intro w'
      go_simp
      with_reducible rfl
     rotate_left
     ·simp only [Act.put,zz21,zz22,zz23,i64_w,i32_w]
      rfl
     refine pure_ (i:=5) (N:=some 11) (v:=?_) (a':=?_) #[T,T,T,F,T,T,F,F,F] rfl rfl (any_of HT_.out (by kernel_rfl)) (fun _ _ _ h=>h) (Or.inl ⟨by rfl,?_⟩) ?_ ?_
     rotate_left
     ·intro w'
      go_simp
      with_reducible rfl
     rotate_left
     ·simp only [Act.put,zz21,zz22,zz23,i64_w,i32_w]
      rfl
     refine take_ (i:=3) (N:=some 9) (v:=?_) (a':=?_) #[T,T,T,T,T,T,F,F,F] rfl rfl (take_ofW HT_.out HW_.out (by kernel_rfl)) (fun _ _ _ h=>h) (Or.inl ⟨by rfl,?_⟩) hHeld ?_ ?_
     rotate_left
     ·intro w' s0
      go_simp
      with_reducible rfl
     rotate_left
     ·simp only [Act.put,zz21,zz22,zz23,i64_w,i32_w]
      rfl
     refine pure_ (i:=6) (N:=some 12) (v:=?_) (a':=?_) #[T,T,T,T,T,T,T,F,F] rfl rfl (any_of HT_.out (by kernel_rfl)) (fun _ _ _ h=>h) (Or.inl ⟨by rfl,?_⟩) ?_ ?_
     rotate_left
     ·intro w'
      go_simp
      with_reducible rfl
     rotate_left
     ·simp only [Act.put,zz21,zz22,zz23,i64_w,i32_w]
      rfl
     refine pure_ (i:=7) (N:=some 13) (v:=?_) (a':=?_) #[T,T,T,T,T,T,T,T,F] rfl rfl (any_of HT_.out (by kernel_rfl)) (fun _ _ _ h=>h) (Or.inl ⟨by rfl,?_⟩) ?_ ?_
     rotate_left
     ·intro w'
      go_simp
      with_reducible rfl
     rotate_left
     ·simp only [Act.put,zz21,zz22,zz23,i64_w,i32_w]
      rfl
     refine last_ (i:=8) (N:=none) #[T,T,T,T,T,T,T,T,T] rfl rfl (one_of HT_.out (by kernel_rfl)) (by decide) (fun K hK=>?_)
     refine skip_ (w1:=?_) (by rfl) rfl ?_ ?_
     rotate_left
     ·go_simp
      rfl
     refine hK.out _ _ ?_
     clear hK K
     refine done_ (done_of HT_.out (by kernel_rfl)) ?_
     try go_wp2
     have n0_:Aside0 (Kd.R (Kd.int .u16) 77 (w13.setCell ⟨go8,(a1:Int).toNat,none⟩ (.int .u16 (Go.bits .or .u16 (rd l0 a1) (ji7)))) w0.heap.size (fun k_=>(P0_ k_ ∨ w.heap.size≤k_)) (.slice (some ⟨go8,0,none⟩) l0.length co14) y205):=⟨by (with_reducible repeat (first | apply zz12 | apply zz13 | apply zz14));exact HQ15.out⟩
     have n1_:Aside0 (Kept w (w13.setCell ⟨go8,(a1:Int).toNat,none⟩ (.int .u16 (Go.bits .or .u16 (rd l0 a1) (ji7)))) (fun k_=>P0_ k_)):=⟨by repeat (first | (with_reducible first | exact HK.out | apply Kept.alloc | apply Kept.drewN | apply Kept.drew | refine Kept.setCell ?_ HMgo8.out _) | exact HK.out)⟩
     have n2_:Aside0 (Below w0.heap.size w0 (w13.setCell ⟨go8,(a1:Int).toNat,none⟩ (.int .u16 (Go.bits .or .u16 (rd l0 a1) (ji7))))):=⟨by repeat first | exact HB.out | apply zz2 | apply zz0 | apply zz1 | refine zz3 ?_ GB8.out⟩
     (try clear HO0)
     (try clear HK)
     (try clear HB)
     generalize (w13.setCell ⟨go8,(a1:Int).toNat,none⟩ (.int .u16 (Go.bits .or .u16 (rd l0 a1) (ji7))))=w16 at n0_ n1_ n2_ ⊢
     have HO0:=n0_
     have HK:=n1_
     have HB:=n2_
     clear n0_ n1_ n2_
     have n0_:=zz31 (zz14 HO0.out)
     have n1_:=zz31 (Kept.drew HK.out)
     have n2_:=zz31 (zz1 HB.out)
     clear HO0
     clear HK
     clear HB
     have HO0:=n0_
     have HK:=n1_
     have HB:=n2_
     clear n0_ n1_ n2_
     have p206:0≤(a2:Int):=zz29 (by first | (with_reducible assumption) | assumption)
     have q206:a2 < (y205.length:Int):=(by have h_:(a2:Int) < ((l0.length:Int):Int):=zz29 (by first | (with_reducible assumption) | assumption);first | (have e_:=(Kd.R_reads' HO0.out).1;omega) | simpa only [Ny205.out,List.length_set] using h_)
     have ql206:((a2:Int) < ((l0.length:Int):Int))=True:=eq_true (zz29 (by first | (with_reducible assumption) | assumption))
     obtain ⟨ad206,e206,hx206_0⟩:=Kd.at_int (Kd.R_reads' HO0.out).2.2 a2 p206 q206
     obtain rfl:(⟨go8,0,none⟩:Addr)=ad206:=(by injection e206)
     (first | simp only [add_plain] at hx206_0 | simp only [add_at] at hx206_0 | simp only [Addr.add,Nat.zero_add] at hx206_0 | skip)
     replace p206:=eq_true p206
     replace q206:=eq_true q206
     have p12:0≤(a2:Int):=zz29 (by first | (with_reducible assumption) | assumption)
     have q12:(a2:Int) < ((l0.length:Int):Int):=zz29 (by first | (with_reducible assumption) | assumption)
     obtain ⟨hx12_0,hf12_0⟩:=Kd.R_celln 0 HO0.out (a2:Int) p12 q12
     replace p12:=eq_true p12
     replace q12:=eq_true q12
     have HP18:=Kd.R_putn HO0.out (a2:Int) (Go.bits .or .u16 (rd y205 a2) (ji11))
     rw [← Ny207.out] at HP18
     have HQ18:=zz31 HP18
     clear HP18
     refine start_ (n:=9) (S:=fun w'=>w'.cell? ⟨go8,(a2).toNat,none⟩=some (.int .u16 (rd y205 a2))) (ds:=[8]) #[F,F,F,F,F,F,F,F,F] (by kernel_rfl) rfl rfl (hx206_0) (fun hHeld=>?_);refine with_tabW impl_table_put.tab1 impl_table_put.bits1 (fun HT_ HW_=>?_)
     generalize w16.drew=w17 at HO0 HK HB HQ15 HQ18 hf12_0 hx12_0 hx206_0 hHeld ⊢
     refine pure_ (i:=0) (N:=some 14) (v:=?_) (a':=?_) #[T,F,F,F,F,F,F,F,F] rfl rfl (any_of HT_.out (by kernel_rfl)) (fun _ _ _ h=>h) (Or.inl ⟨by rfl,?_⟩) ?_ ?_
     rotate_left
     ·intro w'
      go_simp
      with_reducible rfl
     rotate_left
     ·simp only [Act.put,zz21,zz22,zz23,i64_w,i32_w]
      rfl
     refine pure_ (i:=1) (N:=some 15) (v:=?_) (a':=?_) #[T,T,F,F,F,F,F,F,F] rfl rfl (any_of HT_.out (by kernel_rfl)) (fun _ _ _ h=>h) (Or.inl ⟨by rfl,?_⟩) ?_ ?_
     rotate_left
     ·intro w'
      go_simp
      with_reducible rfl
     rotate_left
     ·simp only [Act.put,zz21,zz22,zz23,i64_w,i32_w]
      rfl
     refine pure_ (i:=2) (N:=some 16) (v:=?_) (a':=?_) #[T,T,T,F,F,F,F,F,F] rfl rfl (any_of HT_.out (by kernel_rfl)) (fun _ _ _ h=>h) (Or.inl ⟨by rfl,?_⟩) ?_ ?_
     rotate_left
     ·intro w'
      go_simp
      with_reducible rfl
     rotate_left
     ·simp only [Act.put,zz21,zz22,zz23,i64_w,i32_w]
      rfl
     refine pure_ (i:=4) (N:=some 18) (v:=?_) (a':=?_) #[T,T,T,F,T,F,F,F,F] rfl rfl (any_of HT_.out (by kernel_rfl)) (fun _ _ _ h=>h) (Or.inl ⟨by rfl,?_⟩) ?_ ?_
     rotate_left
     ·intro w'
      go_simp
      with_reducible rfl
     rotate_left
     ·simp only [Act.put,zz21,zz22,zz23,i64_w,i32_w]
      rfl
     refine pure_ (i:=5) (N:=some 19) (v:=?_) (a':=?_) #[T,T,T,F,T,T,F,F,F] rfl rfl (any_of HT_.out (by kernel_rfl)) (fun _ _ _ h=>h) (Or.inl ⟨by rfl,?_⟩) ?_ ?_
     rotate_left
     ·intro w'
      go_simp
      with_reducible rfl
     rotate_left
     ·simp only [Act.put,zz21,zz22,zz23,i64_w,i32_w]
      rfl
     refine take_ (i:=3) (N:=some 17) (v:=?_) (a':=?_) #[T,T,T,T,T,T,F,F,F] rfl rfl (take_ofW HT_.out HW_.out (by kernel_rfl)) (fun _ _ _ h=>h) (Or.inl ⟨by rfl,?_⟩) hHeld ?_ ?_
     rotate_left
     ·intro w' s0
      go_simp
      with_reducible rfl
     rotate_left
     ·simp only [Act.put,zz21,zz22,zz23,i64_w,i32_w]
      rfl
     refine pure_ (i:=6) (N:=some 20) (v:=?_) (a':=?_) #[T,T,T,T,T,T,T,F,F] rfl rfl (any_of HT_.out (by kernel_rfl)) (fun _ _ _ h=>h) (Or.inl ⟨by rfl,?_⟩) ?_ ?_
     rotate_left
     ·intro w'
      go_simp
      with_reducible rfl
     rotate_left
     ·simp only [Act.put,zz21,zz22,zz23,i64_w,i32_w]
      rfl
     refine pure_ (i:=7) (N:=some 21) (v:=?_) (a':=?_) #[T,T,T,T,T,T,T,T,F] rfl rfl (any_of HT_.out (by kernel_rfl)) (fun _ _ _ h=>h) (Or.inl ⟨by rfl,?_⟩) ?_ ?_
     rotate_left
     ·intro w'
      go_simp
      with_reducible rfl
     rotate_left
     ·simp only [Act.put,zz21,zz22,zz23,i64_w,i32_w]
      rfl
     refine last_ (i:=8) (N:=none) #[T,T,T,T,T,T,T,T,T] rfl rfl (one_of HT_.out (by kernel_rfl)) (by decide) (fun K hK=>?_)
     refine skip_ (w1:=?_) (by rfl) rfl ?_ ?_
     rotate_left
     ·go_simp
      rfl
     refine hK.out _ _ ?_
     clear hK K
     refine done_ (done_of HT_.out (by kernel_rfl)) ?_
     try go_wp2
     first | go_end0 | ((try simp only [Exit.inBlock,Exit.then]);refine bodyPost_ret (results_none rfl _ _ _) rfl ?_)
     exact ⟨by first | rfl | (simp [errW_none,errW_some] <;> rfl) | (simp only [← hji7,← hji11];first | rfl | (simp [errW_none,errW_some] <;> rfl)) | (simp [*,errW_none,errW_some] <;> rfl),by (with_reducible repeat (first | apply zz12 | apply zz13 | apply zz14));exact HQ18.out,by repeat first | exact HB.out | apply zz2 | apply zz0 | apply zz1 | refine zz3 ?_ GB8.out,by repeat (first | (with_reducible first | exact HK.out | apply Kept.alloc | apply Kept.drewN | apply Kept.drew | refine Kept.setCell ?_ HMgo8.out _) | exact HK.out)⟩
    ·rw [if_neg c9] at H
     exact absurd H (by simp)
   ·rw [if_neg c6] at H
    exact absurd H (by simp)
  ·rw [if_neg c5] at H
   exact absurd H (by simp)
 ·rw [if_neg c4] at H
  exact absurd H (by simp)

/-! ### impl_TreeOfNumbers: function 27 (a contract of our own) -/
/-- A function value answers p at the elements of a list, in every later world; it may draw. -/
def PredT (g:Nat) (lb:Array Value) (p:Int→Bool) (l:List Int) (w:World):Prop :=
 ∀ (W:World) (x:Int),x ∈ l→Below w.heap.size w W→Calls Try.prog g (#[.int .i64 x] ++ lb) W fun e w'=>e=.returned (.bool (p x))∧∃ q,w'=W.drewN q
def idxT (p:Int→Bool):List Int→Int
 | []=>-1
 | x :: xs=>if p x then 0 else if idxT p xs < 0 then -1 else idxT p xs+1
theorem idxT_hit (p:Int→Bool):∀ (xs:List Int) (k:Nat),k < xs.length→(∀ j,j < k→p (xs.getD j 0)=false)→p (xs.getD k 0)=true→idxT p xs=k
 | [],k,h,_,_=>by simp at h
 | x :: xs,0,_,_,hp=>by simp at hp;simp [idxT,hp]
 | x :: xs,k+1,h,hn,hp=>by
  have h0:=hn 0 (by omega)
  have ih:=idxT_hit p xs k (by simpa using h) (fun j hj=>by have:=hn (j+1) (by omega);simpa using this) (by simpa using hp)
  simp at h0
  simp [idxT,h0,ih];omega
theorem idxT_miss (p:Int→Bool):∀ (xs:List Int),(∀ j,j < xs.length→p (xs.getD j 0)=false)→idxT p xs=-1
 | [],_=>rfl
 | x :: xs,hn=>by
  have h0:=hn 0 (by simp)
  have ih:=idxT_miss p xs (fun j hj=>by have:=hn (j+1) (by simpa using hj);simpa using this)
  simp at h0
  simp [idxT,h0,ih]
theorem idxT_nonneg (p:Int→Bool) (xs:List Int):decide (0≤idxT p xs)=xs.any p:=by
 induction xs with
 | nil=>rfl
 | cons x xs ih =>
  simp only [idxT,List.any_cons,← ih]
  by_cases h:p x=true
  ·simp [h]
  ·by_cases h2:idxT p xs < 0
   ·have:¬ 0≤idxT p xs:=by omega
    simp [h,h2,this]
   ·have h3:0≤idxT p xs:=by omega
    have h4:0≤idxT p xs+1:=by omega
    simp [h,h2,h3,h4]
set_option maxHeartbeats 2000000 in
theorem idxT_with (p:Int→Bool) (g:Nat) (lb:Array Value) (eg:∀ args w,(callFunc g args).run Try.prog w=.ok (.enter g args) w) (A0:Option Addr) (c0:Nat) (l0:List Int) (w:World)
  (hp:PredT g lb p l0 w) (hr0:Kd.C (Kd.int .i64) w A0 l0.length l0) :
  Calls Try.prog 67 #[.slice A0 l0.length c0,.func (.func g) #[] lb] w fun e w'=>e=.returned (.int .i64 (idxT p l0))∧∃ q,w'=w.drewN q:=by
 have hpAt:∀ (x:Int) (q:Nat),x ∈ l0→Calls Try.prog g (#[.int .i64 x] ++ lb) (w.drewN q) fun e w'=>e=.returned (.bool (p x))∧∃ q',w'=(w.drewN q).drewN q':=fun x q hx=>hp _ x hx (zz0 (Below.refl _ w) q)
 have HR0:=zz31 hr0
 have hbig:l0.length≤9223372036854775807:=hr0.2.1
 clear hp hr0
 go_enter Try.func67,Try.ntmps67
 go_wp2
 go_loopg [5,8] l0.length (fun gg _ s8 wr=>∃ kk q:Nat,kk≤l0.length∧l0.length - kk≤gg∧s8=.int .i64 kk∧wr=w.drewN q∧Aside0 (∀ j,j < kk→p (l0.getD j 0)=false))
 case atStart=>exact ⟨0,0,Nat.zero_le _,by omega,rfl,rfl,⟨fun j hj=>absurd hj (Nat.not_lt_zero _)⟩⟩
 case round =>
  obtain ⟨kk,q,hkk,hg,rfl,rfl,A⟩:=hrel
  by_cases hlt:kk < l0.length
  ·have hltz:(kk:Int) < (l0.length:Int):=by omega
   obtain ⟨ad,e0,hcell⟩:=Kd.at_int HR0.out (kk:Int) (by omega) (by omega)
   cases e0
   have hcell':w.cell? (ad.add kk)=some (.int .i64 (rd l0 kk)):=hcell
   clear hcell
   obtain ⟨y,hy⟩:∃ y,y=rd l0 kk:=⟨_,rfl⟩
   have hym:y ∈ l0:=by
    rw [hy]
    unfold rd
    rw [Int.toNat_natCast,List.getD_eq_getElem?_getD,List.getElem?_eq_getElem hlt]
    exact List.getElem_mem hlt
   rw [← hy] at hcell'
   have B:Aside0 (l0.getD kk 0=y):=⟨hy.symm⟩
   clear hy
   have hcall:=fun q=>hpAt y q hym
   clear hym
   cases hq:p y with
   | true =>
    rw [hq] at hcall
    go_wp2_with (go_at_fn g;refine (hcall _).mono ?_;rintro e w' ⟨rfl,q',rfl⟩)
    go_ret
    refine ⟨?_,_,rfl⟩
    rw [idxT_hit p l0 kk hlt A.out (by rw [B.out];exact hq)]
    rfl
   | false =>
    rw [hq] at hcall
    go_wp2_with (go_at_fn g;refine (hcall _).mono ?_;rintro e w' ⟨rfl,q',rfl⟩)
    go_roundg (l0.length - (kk+1))
    case measure=>omega
    case rel =>
     refine ⟨kk+1,_,by omega,by omega,by go_num,rfl,⟨fun j hj=>?_⟩⟩
     by_cases e:j=kk
     ·subst e
      rw [B.out];exact hq
     ·exact A.out j (by omega)
  ·have hltz:¬ (kk:Int) < (l0.length:Int):=by omega
   have hkl:kk=l0.length:=by omega
   have A2:Aside0 (idxT p l0=-1):=⟨idxT_miss p l0 (by rw [← hkl];exact A.out)⟩
   clear hkl
   go_wp2
   go_ret
   refine ⟨?_,q,rfl⟩
   rw [A2.out]
   rfl
theorem tree_pred (L:List Int) (w:World):PredT 68 #[] (fun x=>decide (x > 1)) L w:=fun W x _ _=>by
 show Calls Try.prog 68 #[.int .i64 x] W _
 go_enter Try.func68,Try.ntmps68
 go_wp2
 go_ret
 exact ⟨rfl,0,rfl⟩
def decT (L:List Int) (a:Int):List Int:=L.set a.toNat (wrap64 (rd L a - 1))
def tbT (k:Nat) (L:List Int) (a:Int):Option Int :=
 if idxT (fun x=>decide (x > 1)) L < 0 then (if a+1 < (L.length:Int) then (slices_Index_int_int.f k (L.drop (a+1).toNat) 1).bind fun i=>some (wrap64 (a+1+i)) else none) else some (idxT (fun x=>decide (x > 1)) L)
def trT (k:Nat):Nat→List Int→List Int→Option (List Int)
 | 0,_,t=>some t
 | d+1,L,t=>(slices_Index_int_int.f k L 1).bind fun a=>if 0≤a∧a < (L.length:Int) then (tbT k L a).bind fun b=>if 0≤b∧b < (L.length:Int) then (impl_table_put.f t a b).bind fun t'=>trT k d (decT (decT L a) b) t' else none else none
theorem tbT_mono (k:Nat) (L:List Int) (a:Int):LeO (tbT k L a) (tbT (k+1) L a):=by
 unfold tbT
 exact LeO.ite (LeO.ite (LeO.bind (slices_Index_int_int.mono _ _ _) fun i=>LeO.refl _) (LeO.refl _)) (LeO.refl _)
theorem trT_mono (k:Nat):∀ (d:Nat) (L t:List Int),LeO (trT k d L t) (trT (k+1) d L t)
 | 0,_,_=>LeO.refl _
 | d+1,L,t=>by
  rw [trT,trT]
  exact LeO.bind (slices_Index_int_int.mono _ _ _) fun a=>LeO.ite (LeO.bind (tbT_mono k L a) fun b=>LeO.ite (LeO.bind (LeO.refl _) fun t'=>trT_mono k d _ t') (LeO.refl _)) (LeO.refl _)
def impl_TreeOfNumbers.f (k:Nat) (l0:List Int):Option (Int × List (S80) × Bool) :=
 (impl_IsNumbers.f l0).bind fun ok=>if ok=true then (if (l0.length:Int) < 2 then some (0,[],false) else (slices_Contains_int_int.f k l0 0).bind fun z=>if z=true then some (0,[],false) else (impl_sum.f k l0).bind fun s=>if s=2 * ((l0.length:Int) - 1) then
  (if l0.length≤12 then (trT k (l0.length - 1) l0 (List.replicate l0.length 0)).bind fun t=>(impl_table_party.f k t).bind fun r=>some (r.1,r.2,true) else none)
  else if l0.length≤12 then some (0,[],false) else none) else some (0,[],false)
theorem impl_TreeOfNumbers.mono:∀ a0 k,LeO (impl_TreeOfNumbers.f k a0) (impl_TreeOfNumbers.f (k+1) a0):=by
 intro a0 k
 unfold impl_TreeOfNumbers.f
 exact LeO.bind (LeO.refl _) fun ok=>LeO.ite (LeO.ite (LeO.refl _) (LeO.bind (slices_Contains_int_int.mono _ _ _) fun z=>LeO.ite (LeO.refl _) (LeO.bind (impl_sum.mono _ _) fun s=>LeO.ite (LeO.ite (LeO.bind (trT_mono _ _ _ _) fun t=>LeO.bind (impl_table_party.mono _ _) fun r=>LeO.refl _) (LeO.refl _)) (LeO.refl _)))) (LeO.refl _)
/-- What the loop keeps: the result's box, the table, the numbers left, each in its own block. -/
structure StT (w wr : World) (bo gt gl ct cl : Nat) (t L : List Int) : Prop where
 box:wr.heap[bo]?=some (.cells #[.int .i64 0,.slice none 0 0] 32 (0,0))
 tab:Kd.R (Kd.int .u16) 77 wr w.heap.size (fun k=>k=gt) (.slice (some ⟨gt,0,none⟩) t.length ct) t
 left:Kd.R (Kd.int .i64) 3 wr w.heap.size (fun k=>k=gl) (.slice (some ⟨gl,0,none⟩) L.length cl) L
 bel:Below w.heap.size w wr
 hbo:w.heap.size≤bo
 ne1:bo ≠ gt
 ne2:bo ≠ gl
 ne3:gt ≠ gl
theorem StT.below {w wr wr':World} {bo gt gl ct cl:Nat} {t L:List Int} (h:StT w wr bo gt gl ct cl t L) (hb:Below wr.heap.size wr wr'):StT w wr' bo gt gl ct cl t L :=
 ⟨zz11 h.box hb,Kd.R_below h.tab hb,Kd.R_below h.left hb,zz4 h.bel hb,h.hbo,h.ne1,h.ne2,h.ne3⟩
theorem StT.dec {w wr:World} {bo gt gl ct cl:Nat} {t L:List Int} (h:StT w wr bo gt gl ct cl t L) (a x:Int):StT w (wr.setCell ⟨gl,a.toNat,none⟩ (.int .i64 x)) bo gt gl ct cl t (L.set a.toNat x):=by
 have hg:=Kd.R_base h.left gl rfl
 refine ⟨blk_far h.box (p:=⟨gl,a.toNat,none⟩) h.ne2 _,Kd.R_far h.tab (fun k hk=>by rw [hk];exact h.ne3) _,?_,zz3 h.bel hg,h.hbo,h.ne1,h.ne2,h.ne3⟩
 rw [List.length_set]
 exact Kd.R_putn h.left a x
theorem StT.kept {w wr w5:World} {bo gt gl ct cl:Nat} {t t' L:List Int} (h:StT w wr bo gt gl ct cl t L) (ht:t'.length=t.length) (hR:Kd.R (Kd.int .u16) 77 w5 w.heap.size (fun k=>k=gt ∨ wr.heap.size≤k) (.slice (some ⟨gt,0,none⟩) t.length ct) t') (hB:Below w.heap.size w w5) (hK:Kept wr w5 (fun k=>k=gt)):StT w w5 bo gt gl ct cl t' L:=by
 refine ⟨(hK.2 bo (blk_lt h.box) h.ne1).trans h.box,?_,Kd.R_kept h.left hK (fun k hk=>by rw [hk];exact fun e=>h.ne3 e.symm),hB,h.hbo,h.ne1,h.ne2,h.ne3⟩
 rw [ht]
 exact Kd.R_mono (Kd.R_tight rfl hR) (fun k hk=>by simpa [Value.ownBlock] using hk)
theorem repl_own (W:World) (n:Nat) (hn:n≤100):Kd.R (Kd.int .u16) 77 (W.alloc (.cells (madeCells #[.int .u16 0] n) 77)) W.heap.size (fun k=>k=W.heap.size) (.slice (some ⟨W.heap.size,0,none⟩) n n) (List.replicate n (0:Int)) :=
 Kd.R_of_own (enc:=Value.int .u16) (h1:=fun _=>rfl) (own_made_of' (enc:=Value.int .u16) (d:=(0:Int)) W W.heap.size 77 n (Nat.le_refl _) (by omega)) (fun b hb=>by simpa [Value.ownBlock] using hb.symm)
theorem size_al (W:World) (o:Obj):(W.alloc o).heap.size=W.heap.size+1:=by simp
theorem StT.startA {w wd w3:World} {bo n cl:Nat} {A:Option Addr} {L:List Int} (hx:wd.heap[bo]?=some (.cells #[.int .i64 0,.slice none 0 0] 32 (0,0))) (hB:Below w.heap.size w wd) (hbo:w.heap.size≤bo)
  (hb2:Below (wd.alloc (.cells (madeCells #[.int .u16 0] n) 77)).heap.size (wd.alloc (.cells (madeCells #[.int .u16 0] n) 77)) w3) (ho:Kd.R (Kd.int .i64) 3 w3 (wd.heap.size+1) (fun _=>True) (.slice A L.length cl) L) (hL:L.length=n) (hn:0 < n) (hn2:n≤100) :
  ∃ gl,A=some ⟨gl,0,none⟩∧StT w w3 bo wd.heap.size gl n cl (List.replicate n 0) L:=by
 obtain ⟨gl,c,e,gb,gl2,_⟩:=Kd.R_form ho (by omega)
 injection e with e1 e2 e3
 subst e1
 have hlt:=blk_lt hx
 refine ⟨gl,rfl,zz11 (zz8 hx _) hb2,?_,Kd.R_mono (Kd.R_tight rfl (Kd.R_lower ho (by have:=hB.size;omega))) (fun k hk=>by simpa [Value.ownBlock] using hk),zz4 (zz2 hB _) hb2,hbo,by omega,by omega,by omega⟩
 rw [List.length_replicate]
 exact Kd.R_below (Kd.R_lower (repl_own wd n hn2) hB.size) hb2
theorem StT.startB {w wd w3:World} {bo n cl:Nat} {A:Option Addr} {L:List Int} (hx:wd.heap[bo]?=some (.cells #[.int .i64 0,.slice none 0 0] 32 (0,0))) (hB:Below w.heap.size w wd) (hbo:w.heap.size≤bo)
  (hb:Below wd.heap.size wd w3) (ho:Kd.R (Kd.int .i64) 3 w3 wd.heap.size (fun _=>True) (.slice A L.length cl) L) (hL:L.length=n) (hn:0 < n) (hn2:n≤100) :
  ∃ gl,A=some ⟨gl,0,none⟩∧StT w (w3.alloc (.cells (madeCells #[.int .u16 0] n) 77)) bo w3.heap.size gl n cl (List.replicate n 0) L:=by
 obtain ⟨gl,c,e,gb,gl2,_⟩:=Kd.R_form ho (by omega)
 injection e with e1 e2 e3
 subst e1
 have hlt:=blk_lt hx
 have hs:=hb.size
 refine ⟨gl,rfl,zz8 (zz11 hx hb) _,?_,Kd.R_mono (Kd.R_tight rfl (zz12 (Kd.R_lower ho hB.size) _)) (fun k hk=>by simpa [Value.ownBlock] using hk),zz2 (zz4 hB hb) _,hbo,by omega,by omega,by omega⟩
 rw [List.length_replicate]
 exact Kd.R_lower (repl_own w3 n hn2) (zz4 hB hb).size
set_option maxHeartbeats 8000000 in
set_option maxRecDepth 100000 in
theorem impl_TreeOfNumbers.calls (k:Nat) (A0:Option Addr) (c0:Nat) (l0:List Int) (r1:Int) (r2:List (S80)) (r3:Bool) (w:World) (hr0:Kd.C (Kd.int .i64) w A0 l0.length l0) (hc0:l0.length≤c0) (h:impl_TreeOfNumbers.f k l0=some (r1,r2,r3)) :
  Calls Try.prog 27 #[.slice A0 l0.length c0] w fun e w'=>∃ v1_:Value,e=.returned (.tuple #[.agg #[.int .i64 r1,v1_],.bool r3])∧Kd.R k80 80 w' w.heap.size (fun _=>True) v1_ r2∧Below w.heap.size w w':=by
 have hu:=Try.underlying32
 unfold impl_TreeOfNumbers.f at h
 obtain ⟨ok,hok,h⟩:=zz30.1 h
 have HOK:=zz31 hok
 have HC:=zz31 hr0
 have HCC:=zz31 hc0
 have hmax:l0.length≤9223372036854775807:=hr0.2.1
 clear hok hr0 hc0
 cases ok with
 | false =>
  simp only [Bool.false_eq_true,if_false] at h
  simp only [Option.some.injEq,Prod.mk.injEq] at h
  obtain ⟨rfl,rfl,rfl⟩:=h
  go_enter Try.func27,Try.ntmps27
  go_wp2_with (first | ((with_reducible refine gate_dst (N := 2) rfl ?_); refine box_event ?hg (N := 2) ?hd (cs := #[.int .i64 0, .slice none 0 0]) (t := 32) ?hr ?_; (case hd => rfl); (case hg => rfl); (case hr => first | (go_simp; done) | (go_simp; rfl)); intro bo hbo wa hbox hb; have HXa := zz31 hbox; have HBa := zz31 (zz4 (w := w) (by repeat (first | exact Below.refl _ _ | apply zz0 | apply below_drew | apply zz2)) hb); have HBO := zz31 (show w.heap.size ≤ bo from by rw [hbo]; exact Nat.le_refl _); have HCa := zz31 (Kd.C_below HC.out HBa.out); have f1 := zz9 HXa.out 0; have f2 := zz9 HXa.out 1; simp only [List.getElem?_toArray, List.getElem?_cons_zero, List.getElem?_cons_succ] at f1 f2; have f3 := zz10 HXa.out 0; have f4 := zz10 HXa.out 1; clear hbox hb hbo) | (go_at_call 62; (with_reducible refine (impl_IsNumbers.calls A0 c0 l0 false wa HCa.out HCC.out HOK.out).mono ?_); rintro e wb ⟨rfl, hb⟩; have HBb := zz31 (zz4 HBa.out hb); have HXb := zz31 (zz11 HXa.out hb); have HCb := zz31 (Kd.C_below HCa.out hb); clear hb f1 f2 f3 f4; have f1 := zz9 HXb.out 0; have f2 := zz9 HXb.out 1; simp only [List.getElem?_toArray, List.getElem?_cons_zero, List.getElem?_cons_succ] at f1 f2; have f3 := zz10 HXb.out 0; have f4 := zz10 HXb.out 1) | (fail "no arm"))
  refine bodyPost_ret (results_ct rfl _ _ bo 32 #[.int .i64 0,.slice none 0 0] (0,0) _ rfl (by (with_reducible repeat (first | refine zz6 ?_ _ | refine zz7 ?_));refine blk_put (cs:=#[.int .i64 0,.slice none 0 0]) ?_ 1 _ rfl;refine blk_put (cs:=#[.int .i64 0,.slice none 0 0]) ?_ 0 _ rfl;(with_reducible repeat (first | refine zz6 ?_ _ | refine zz7 ?_));exact HXb.out) Try.underlying32 rfl (by kernel_rfl)) rfl ?_
  exact ⟨_,rfl,Kd.R_nil _ _ _ _ _,by repeat first | exact HBb.out | apply zz0 | apply below_drew | refine zz3 ?_ HBO.out⟩
 | true =>
  rw [if_pos rfl] at h
  by_cases h2:(l0.length:Int) < 2
  ·rw [if_pos h2] at h
   simp only [Option.some.injEq,Prod.mk.injEq] at h
   obtain ⟨rfl,rfl,rfl⟩:=h
   go_enter Try.func27,Try.ntmps27
   go_wp2_with (first | ((with_reducible refine gate_dst (N := 2) rfl ?_); refine box_event ?hg (N := 2) ?hd (cs := #[.int .i64 0, .slice none 0 0]) (t := 32) ?hr ?_; (case hd => rfl); (case hg => rfl); (case hr => first | (go_simp; done) | (go_simp; rfl)); intro bo hbo wa hbox hb; have HXa := zz31 hbox; have HBa := zz31 (zz4 (w := w) (by repeat (first | exact Below.refl _ _ | apply zz0 | apply below_drew | apply zz2)) hb); have HBO := zz31 (show w.heap.size ≤ bo from by rw [hbo]; exact Nat.le_refl _); have HCa := zz31 (Kd.C_below HC.out HBa.out); have f1 := zz9 HXa.out 0; have f2 := zz9 HXa.out 1; simp only [List.getElem?_toArray, List.getElem?_cons_zero, List.getElem?_cons_succ] at f1 f2; have f3 := zz10 HXa.out 0; have f4 := zz10 HXa.out 1; clear hbox hb hbo) | (go_at_call 62; (with_reducible refine (impl_IsNumbers.calls A0 c0 l0 true wa HCa.out HCC.out HOK.out).mono ?_); rintro e wb ⟨rfl, hb⟩; have HBb := zz31 (zz4 HBa.out hb); have HXb := zz31 (zz11 HXa.out hb); have HCb := zz31 (Kd.C_below HCa.out hb); clear hb f1 f2 f3 f4; have f1 := zz9 HXb.out 0; have f2 := zz9 HXb.out 1; simp only [List.getElem?_toArray, List.getElem?_cons_zero, List.getElem?_cons_succ] at f1 f2; have f3 := zz10 HXb.out 0; have f4 := zz10 HXb.out 1) | (fail "no arm"))
   refine bodyPost_ret (results_ct rfl _ _ bo 32 #[.int .i64 0,.slice none 0 0] (0,0) _ rfl (by (with_reducible repeat (first | refine zz6 ?_ _ | refine zz7 ?_));refine blk_put (cs:=#[.int .i64 0,.slice none 0 0]) ?_ 1 _ rfl;refine blk_put (cs:=#[.int .i64 0,.slice none 0 0]) ?_ 0 _ rfl;(with_reducible repeat (first | refine zz6 ?_ _ | refine zz7 ?_));exact HXb.out) Try.underlying32 rfl (by kernel_rfl)) rfl ?_
   exact ⟨_,rfl,Kd.R_nil _ _ _ _ _,by repeat first | exact HBb.out | apply zz0 | apply below_drew | refine zz3 ?_ HBO.out⟩
  rw [if_neg h2] at h
  replace h:=zz30.1 h
  obtain ⟨z,hz,h⟩:=h
  have HZ:=zz31 hz
  clear hz
  cases z with
  | true =>
   simp only [if_true] at h
   simp only [Option.some.injEq,Prod.mk.injEq] at h
   obtain ⟨rfl,rfl,rfl⟩:=h
   go_enter Try.func27,Try.ntmps27
   go_wp2_with (first | ((with_reducible refine gate_dst (N := 2) rfl ?_); refine box_event ?hg (N := 2) ?hd (cs := #[.int .i64 0, .slice none 0 0]) (t := 32) ?hr ?_; (case hd => rfl); (case hg => rfl); (case hr => first | (go_simp; done) | (go_simp; rfl)); intro bo hbo wa hbox hb; have HXa := zz31 hbox; have HBa := zz31 (zz4 (w := w) (by repeat (first | exact Below.refl _ _ | apply zz0 | apply below_drew | apply zz2)) hb); have HBO := zz31 (show w.heap.size ≤ bo from by rw [hbo]; exact Nat.le_refl _); have HCa := zz31 (Kd.C_below HC.out HBa.out); have f1 := zz9 HXa.out 0; have f2 := zz9 HXa.out 1; simp only [List.getElem?_toArray, List.getElem?_cons_zero, List.getElem?_cons_succ] at f1 f2; have f3 := zz10 HXa.out 0; have f4 := zz10 HXa.out 1; clear hbox hb hbo) | (go_at_call 62; (with_reducible refine (impl_IsNumbers.calls A0 c0 l0 true wa HCa.out HCC.out HOK.out).mono ?_); rintro e wb ⟨rfl, hb⟩; have HBb := zz31 (zz4 HBa.out hb); have HXb := zz31 (zz11 HXa.out hb); have HCb := zz31 (Kd.C_below HCa.out hb); clear hb f1 f2 f3 f4; have f1 := zz9 HXb.out 0; have f2 := zz9 HXb.out 1; simp only [List.getElem?_toArray, List.getElem?_cons_zero, List.getElem?_cons_succ] at f1 f2; have f3 := zz10 HXb.out 0; have f4 := zz10 HXb.out 1) | (go_at_call 63; (with_reducible refine (slices_Contains_int_int.calls k A0 c0 l0 0 true _ ?_ HCC.out HZ.out).mono ?_); (repeat (first | exact HCb.out | (with_reducible refine zz19 ?_ _) | (with_reducible refine zz20 ?_))); rintro e w' ⟨rfl, hd⟩; obtain ⟨qc, hqc⟩ := hd.out; subst hqc; have HXc := zz31 (zz6 HXb.out qc); clear hd f1 f2 f3 f4; have f1 := zz9 HXc.out 0; have f2 := zz9 HXc.out 1; simp only [List.getElem?_toArray, List.getElem?_cons_zero, List.getElem?_cons_succ] at f1 f2; have f3 := zz10 HXc.out 0; have f4 := zz10 HXc.out 1) | (fail "no arm"))
   refine bodyPost_ret (results_ct rfl _ _ bo 32 #[.int .i64 0,.slice none 0 0] (0,0) _ rfl (by (with_reducible repeat (first | refine zz6 ?_ _ | refine zz7 ?_));refine blk_put (cs:=#[.int .i64 0,.slice none 0 0]) ?_ 1 _ rfl;refine blk_put (cs:=#[.int .i64 0,.slice none 0 0]) ?_ 0 _ rfl;(with_reducible repeat (first | refine zz6 ?_ _ | refine zz7 ?_));exact HXc.out) Try.underlying32 rfl (by kernel_rfl)) rfl ?_
   exact ⟨_,rfl,Kd.R_nil _ _ _ _ _,by repeat first | exact HBb.out | apply zz0 | apply below_drew | refine zz3 ?_ HBO.out⟩
  | false =>
   simp only [Bool.false_eq_true,if_false] at h
   replace h:=zz30.1 h
   obtain ⟨s,hs,h⟩:=h
   have HS:=zz31 hs
   clear hs
   by_cases h12:l0.length≤12
   case neg =>
    rw [if_neg h12,if_neg h12] at h
    exact absurd h (by split <;> simp)
   rw [if_pos h12,if_pos h12] at h
   by_cases hsm:s=2 * ((l0.length:Int) - 1)
   case neg =>
    rw [if_neg hsm] at h
    simp only [Option.some.injEq,Prod.mk.injEq] at h
    obtain ⟨rfl,rfl,rfl⟩:=h
    have hsb:(s != 2 * ((l0.length:Int) - 1))=true:=bne_iff_ne.2 hsm
    have hd2:decide ((l0.length:Int) < 2)=false:=decide_eq_false h2
    go_enter Try.func27,Try.ntmps27
    go_wp2_with (first | ((with_reducible refine gate_dst (N := 2) rfl ?_); refine box_event ?hg (N := 2) ?hd (cs := #[.int .i64 0, .slice none 0 0]) (t := 32) ?hr ?_; (case hd => rfl); (case hg => rfl); (case hr => first | (go_simp; done) | (go_simp; rfl)); intro bo hbo wa hbox hb; have HXa := zz31 hbox; have HBa := zz31 (zz4 (w := w) (by repeat (first | exact Below.refl _ _ | apply zz0 | apply below_drew | apply zz2)) hb); have HBO := zz31 (show w.heap.size ≤ bo from by rw [hbo]; exact Nat.le_refl _); have HCa := zz31 (Kd.C_below HC.out HBa.out); have f1 := zz9 HXa.out 0; have f2 := zz9 HXa.out 1; simp only [List.getElem?_toArray, List.getElem?_cons_zero, List.getElem?_cons_succ] at f1 f2; have f3 := zz10 HXa.out 0; have f4 := zz10 HXa.out 1; clear hbox hb hbo) | (go_at_call 62; (with_reducible refine (impl_IsNumbers.calls A0 c0 l0 true wa HCa.out HCC.out HOK.out).mono ?_); rintro e wb ⟨rfl, hb⟩; have HBb := zz31 (zz4 HBa.out hb); have HXb := zz31 (zz11 HXa.out hb); have HCb := zz31 (Kd.C_below HCa.out hb); clear hb f1 f2 f3 f4; have f1 := zz9 HXb.out 0; have f2 := zz9 HXb.out 1; simp only [List.getElem?_toArray, List.getElem?_cons_zero, List.getElem?_cons_succ] at f1 f2; have f3 := zz10 HXb.out 0; have f4 := zz10 HXb.out 1) | (go_at_call 63; (with_reducible refine (slices_Contains_int_int.calls k A0 c0 l0 0 false _ ?_ HCC.out HZ.out).mono ?_); (repeat (first | exact HCb.out | (with_reducible refine zz19 ?_ _) | (with_reducible refine zz20 ?_))); rintro e w' ⟨rfl, hd⟩; obtain ⟨qc, hqc⟩ := hd.out; subst hqc; have HXc := zz31 (zz6 HXb.out qc); clear hd f1 f2 f3 f4; have f1 := zz9 HXc.out 0; have f2 := zz9 HXc.out 1; simp only [List.getElem?_toArray, List.getElem?_cons_zero, List.getElem?_cons_succ] at f1 f2; have f3 := zz10 HXc.out 0; have f4 := zz10 HXc.out 1) | (go_at_call 64; (with_reducible refine (impl_sum.calls k A0 c0 l0 s _ ?_ HCC.out HS.out).mono ?_); (repeat (first | exact HCb.out | (with_reducible refine zz19 ?_ _) | (with_reducible refine zz20 ?_))); rintro e w' ⟨rfl, hd⟩; obtain ⟨qs, hqs⟩ := hd.out; subst hqs; have HXs := zz31 (zz6 HXb.out (qc + qs)); clear hd f1 f2 f3 f4; have f1 := zz9 HXs.out 0; have f2 := zz9 HXs.out 1; simp only [List.getElem?_toArray, List.getElem?_cons_zero, List.getElem?_cons_succ] at f1 f2; have f3 := zz10 HXs.out 0; have f4 := zz10 HXs.out 1) | (fail "no arm"))
    refine bodyPost_ret (results_ct rfl _ _ bo 32 #[.int .i64 0,.slice none 0 0] (0,0) _ rfl (by (with_reducible repeat (first | refine zz6 ?_ _ | refine zz7 ?_));refine blk_put (cs:=#[.int .i64 0,.slice none 0 0]) ?_ 1 _ rfl;refine blk_put (cs:=#[.int .i64 0,.slice none 0 0]) ?_ 0 _ rfl;(with_reducible repeat (first | refine zz6 ?_ _ | refine zz7 ?_));exact HXs.out) Try.underlying32 rfl (by kernel_rfl)) rfl ?_
    exact ⟨_,rfl,Kd.R_nil _ _ _ _ _,by repeat first | exact HBb.out | apply zz0 | apply below_drew | refine zz3 ?_ HBO.out⟩
   rw [if_pos hsm] at h
   obtain ⟨tF,htF,h⟩:=zz30.1 h
   obtain ⟨⟨p1,p2⟩,hp,h⟩:=zz30.1 h
   simp only [Option.some.injEq,Prod.mk.injEq] at h
   obtain ⟨rfl,rfl,rfl⟩:=h
   have HTF:=zz31 htF
   have HP:=zz31 hp
   clear htF hp
   have hn2:2≤l0.length:=by omega
   have hmk:=print_make (P:=Try.prog) 51 77 .u16 2 Try.underlying51 (by kernel_rfl) (by decide) l0.length (by omega)
   have cL:Aside0 (∀ W1,Below w.heap.size w W1→Calls Try.prog 65 #[.slice A0 l0.length c0] W1 fun e w'=>∃ v,e=.returned v∧Kd.R (Kd.int .i64) 3 w' W1.heap.size (fun _=>True) v l0∧Below W1.heap.size W1 w'):=⟨fun W1 hb=>slices_Clone_int_int.calls A0 c0 l0 l0 W1 (Kd.C_below HC.out hb) HCC.out (by unfold slices_Clone_int_int.f;rw [if_pos (by omega)])⟩
   go_enter Try.func27,Try.ntmps27
   go_upto_region 4 with (first | ((with_reducible refine gate_dst (N := 2) rfl ?_); refine box_event ?hg (N := 2) ?hd (cs := #[.int .i64 0, .slice none 0 0]) (t := 32) ?hr ?_; (case hd => rfl); (case hg => rfl); (case hr => first | (go_simp; done) | (go_simp; rfl)); intro bo hbo wa hbox hb; have HXa := zz31 hbox; have HBa := zz31 (zz4 (w := w) (by repeat (first | exact Below.refl _ _ | apply zz0 | apply below_drew | apply zz2)) hb); have HBO := zz31 (show w.heap.size ≤ bo from by rw [hbo]; exact Nat.le_refl _); have HCa := zz31 (Kd.C_below HC.out HBa.out); have f1 := zz9 HXa.out 0; have f2 := zz9 HXa.out 1; simp only [List.getElem?_toArray, List.getElem?_cons_zero, List.getElem?_cons_succ] at f1 f2; have f3 := zz10 HXa.out 0; have f4 := zz10 HXa.out 1; clear hbox hb hbo) | (go_at_call 62; (with_reducible refine (impl_IsNumbers.calls A0 c0 l0 true wa HCa.out HCC.out HOK.out).mono ?_); rintro e wb ⟨rfl, hb⟩; have HBb := zz31 (zz4 HBa.out hb); have HXb := zz31 (zz11 HXa.out hb); have HCb := zz31 (Kd.C_below HCa.out hb); clear hb f1 f2 f3 f4; have f1 := zz9 HXb.out 0; have f2 := zz9 HXb.out 1; simp only [List.getElem?_toArray, List.getElem?_cons_zero, List.getElem?_cons_succ] at f1 f2; have f3 := zz10 HXb.out 0; have f4 := zz10 HXb.out 1) | (go_at_call 63; (with_reducible refine (slices_Contains_int_int.calls k A0 c0 l0 0 false _ ?_ HCC.out HZ.out).mono ?_); (repeat (first | exact HCb.out | (with_reducible refine zz19 ?_ _) | (with_reducible refine zz20 ?_))); rintro e w' ⟨rfl, hd⟩; obtain ⟨qc, hqc⟩ := hd.out; subst hqc; have HXc := zz31 (zz6 HXb.out qc); clear hd f1 f2 f3 f4; have f1 := zz9 HXc.out 0; have f2 := zz9 HXc.out 1; simp only [List.getElem?_toArray, List.getElem?_cons_zero, List.getElem?_cons_succ] at f1 f2; have f3 := zz10 HXc.out 0; have f4 := zz10 HXc.out 1) | (go_at_call 64; (with_reducible refine (impl_sum.calls k A0 c0 l0 s _ ?_ HCC.out HS.out).mono ?_); (repeat (first | exact HCb.out | (with_reducible refine zz19 ?_ _) | (with_reducible refine zz20 ?_))); rintro e w' ⟨rfl, hd⟩; obtain ⟨qs, hqs⟩ := hd.out; subst hqs; have HXs := zz31 (zz6 HXb.out (qc + qs)); clear hd f1 f2 f3 f4; have f1 := zz9 HXs.out 0; have f2 := zz9 HXs.out 1; simp only [List.getElem?_toArray, List.getElem?_cons_zero, List.getElem?_cons_succ] at f1 f2; have f3 := zz10 HXs.out 0; have f4 := zz10 HXs.out 1) | (fail "no arm"))
   have HBX:=zz31 (show Below w.heap.size w (wb.drewN (qc+qs)) from zz0 HBb.out _)
   clear f1 f2 f3 f4
   generalize wb.drewN (qc+qs)=wd at HBX HXs ⊢
   go_cut [5,6] from 31 (fun v5 v6 wq=>∃ (gt gl ct cl:Nat),v5=.slice (some ⟨gt,0,none⟩) l0.length ct∧v6=.slice (some ⟨gl,0,none⟩) l0.length cl∧Aside0 (StT w wq bo gt gl ct cl (List.replicate l0.length 0) l0))
   case first =>
    go_region_held3 (fun w' => True) (first | go_keep | exact True.intro) (first | (go_at_call 65; refine (cL.out _ (by repeat (first | exact HBX.out | apply zz0 | apply below_drew | apply zz2))).mono ?_; rintro e w3 ⟨v3, rfl, ho, hb⟩; obtain ⟨A3, c3, rfl⟩ := Kd.R_slice ho; (first | (have HST := zz31 (StT.startA (n := l0.length) HXs.out HBX.out HBO.out (zz4 (w := wd.alloc (.cells (madeCells #[.int .u16 0] l0.length) 77)) (by repeat (first | exact Below.refl _ _ | apply zz0 | apply below_drew)) hb) (Kd.R_lower ho (Nat.le_of_eq (size_al wd _).symm)) rfl (by omega) (by omega))) | (have HST := zz31 (StT.startB (n := l0.length) HXs.out HBX.out HBO.out (zz4 (w := wd) (by repeat (first | exact Below.refl _ _ | apply zz0 | apply below_drew)) hb) (Kd.R_lower ho (Nat.le_refl _)) rfl (by omega) (by omega)))); obtain ⟨gl, rfl, hst⟩ := HST.out; replace HST := zz31 hst; clear ho hb hst) | (fail "no arm"))
    all_goals go_wp2_with fail
    all_goals go_meet
    all_goals exact ⟨_,_,_,_,rfl,rfl,HST⟩
   case rest =>
    obtain ⟨gt,gl,ct,cl,rfl,rfl,HS0⟩:=hcut
    clear HXs HBX HXb HCb HBb HXa HBa HCa cL hmk HXc
    go_wp2
    go_loopg [7,8,37] (l0.length - 1) (fun gg _ _ v37 wr=>∃ (j:Nat) (L t:List Int),j≤l0.length - 1∧l0.length - 1 - j≤gg∧v37=.int .i64 (j:Int)∧t.length=l0.length∧L.length=l0.length∧Aside0 (trT k (l0.length - 1 - j) L t=some tF)∧Aside0 (StT w wr bo gt gl ct cl t L))
    case atStart=>exact ⟨0,l0,List.replicate l0.length 0,by omega,by omega,by rfl,by simp,rfl,⟨by rw [Nat.sub_zero];exact HTF.out⟩,HS0⟩
    case round =>
     clear HS0
     obtain ⟨j,L,t,hj,hgg,rfl,htt,hLl,HTR,HSt⟩:=hrel
     by_cases hlt:j < l0.length - 1
     ·have hltz:(j:Int) < (l0.length:Int) - 1:=by omega
      obtain ⟨e2,he2⟩:∃ e2,l0.length - 1 - j=e2+1:=⟨l0.length - 1 - j - 1,by omega⟩
      have hr:=HTR.out
      rw [he2,trT] at hr
      obtain ⟨a,haI,hr⟩:=zz30.1 hr
      by_cases hab:0≤a∧a < (L.length:Int)
      case neg=>rw [if_neg hab] at hr;exact absurd hr (by simp)
      rw [if_pos hab] at hr
      obtain ⟨b,hbI,hr⟩:=zz30.1 hr
      by_cases hbb:0≤b∧b < (L.length:Int)
      case neg=>rw [if_neg hbb] at hr;exact absurd hr (by simp)
      rw [if_pos hbb] at hr
      obtain ⟨t',hpt,hr⟩:=zz30.1 hr
      have HRST:=zz31 hr
      obtain ⟨ha0,ha1⟩:=hab
      obtain ⟨hb0,hb1⟩:=hbb
      rw [hLl] at ha1 hb1
      have htl:t'.length=t.length:=by
       unfold impl_table_put.f at hpt
       repeat' split at hpt
       all_goals first | (simp at hpt;done) | (simp only [Option.bind_some,Option.some.injEq] at hpt;rw [← hpt];simp)
      have cI:Aside0 (∀ W1,Below wr.heap.size wr W1→Calls Try.prog 66 #[.slice (some ⟨gl,0,none⟩) l0.length cl,.int .i64 1] W1 fun e w'=>e=.returned (.int .i64 a)∧∃ q,w'=W1.drewN q):=⟨fun W1 hb=>by
       have hR:=Kd.R_reads' (Kd.R_below HSt.out.left hb)
       have h:=(slices_Index_int_int.calls k (some ⟨gl,0,none⟩) cl L 1 a W1 hR.2.2 hR.2.1 haI)
       rw [hLl] at h
       exact h.mono fun e w' ⟨h1,h2⟩=>⟨h1,h2.out⟩⟩
      have cF:Aside0 (∀ W1,Below wr.heap.size wr W1→Calls Try.prog 67 #[.slice (some ⟨gl,0,none⟩) l0.length cl,.func (.func 68) #[] #[]] W1 fun e w'=>e=.returned (.int .i64 (idxT (fun x=>decide (x > 1)) L))∧∃ q,w'=W1.drewN q):=⟨fun W1 hb=>by
       have hR:=Kd.R_reads' (Kd.R_below HSt.out.left hb)
       have h:=idxT_with (fun x=>decide (x > 1)) 68 #[] (fun _ _=>rfl) (some ⟨gl,0,none⟩) cl L W1 (tree_pred L W1) hR.2.2
       rw [hLl] at h
       exact h⟩
      have cP:Aside0 (∀ W1,Below wr.heap.size wr W1→Calls Try.prog 69 #[.slice (some ⟨gt,0,none⟩) l0.length ct,.int .i64 a,.int .i64 b] W1 fun e w'=>e=.returned (.tuple #[])∧StT w w' bo gt gl ct cl t' L):=⟨fun W1 hb=>by
       have h1:=HSt.out.below hb
       have h:=impl_table_put.calls (fun k=>k=gt) (.slice (some ⟨gt,0,none⟩) t.length ct) t a b t' w W1 h1.bel h1.tab hpt
       rw [htt] at h
       exact h.mono fun e w' ⟨g1,g2,g3,g4⟩=>⟨g1,h1.kept htl (by rw [htt];exact g2) g3 g4⟩⟩
      obtain ⟨bi,hbi⟩:∃ bi,bi=idxT (fun x=>decide (x > 1)) L:=⟨_,rfl⟩
      unfold tbT at hbI
      rw [← hbi] at hbI cF
      clear hbi hr haI hpt HTR
      by_cases hneg:bi < 0
      ·rw [if_pos hneg] at hbI
       by_cases han:a+1 < (L.length:Int)
       case neg=>rw [if_neg han] at hbI;exact absurd hbI (by simp)
       rw [if_pos han] at hbI
       obtain ⟨b0,hb0I,hbI⟩:=zz30.1 hbI
       injection hbI with hbI
       rw [hLl] at han
       have hcl:=(Kd.R_reads' HSt.out.left).2.1
       rw [hLl] at hcl
       have cJ:Aside0 (∀ W1,Below wr.heap.size wr W1→Calls Try.prog 66 #[.slice (some ⟨gl,(a+1).toNat,none⟩) (l0.length - (a+1).toNat) (cl - (a+1).toNat),.int .i64 1] W1 fun e w'=>e=.returned (.int .i64 b0)∧∃ q,w'=W1.drewN q):=⟨fun W1 hb=>by
        have hR:=Kd.R_reads' (Kd.R_below HSt.out.left hb)
        have hC:=Kd.C_drop (m:=(a+1).toNat) hR.2.2 (by omega) (c:=cl) (by omega)
        rw [if_neg (by omega)] at hC
        have h:=(slices_Index_int_int.calls k (some ⟨gl,(a+1).toNat,none⟩) (cl - (a+1).toNat) (L.drop (a+1).toNat) 1 b0 W1 ?_ (by rw [zz24];omega) hb0I)
        ·rw [zz24,hLl] at h
         exact h.mono fun e w' ⟨h1,h2⟩=>⟨h1,h2.out⟩
        ·have hsz:(Kd.int .i64).sz=1:=rfl
         simpa [hsz,Addr.add,show ¬ a+1≤0 by omega] using hC⟩
       have HBI:=zz31 hbI
       clear hb0I
       go_upto_region 10 with (first | (go_at_call 66; refine (cI.out _ (by repeat (first | exact Below.refl _ _ | apply zz0 | apply below_drew))).mono ?_; rintro e w1 ⟨rfl, q1, rfl⟩) | (go_at_call 67; refine (cF.out _ (by repeat (first | exact Below.refl _ _ | apply zz0 | apply below_drew))).mono ?_; rintro e w2 ⟨rfl, q2, rfl⟩) | (fail "no arm"))
       go_upto_region 11 with (first | (go_at_call 66; refine (cJ.out _ (by repeat (first | exact Below.refl _ _ | apply zz0 | apply below_drew))).mono ?_; rintro e w3 ⟨rfl, q3, rfl⟩) | (fail "no arm"))
       rw [HBI.out]
       go_upto_region 12 with (first | (go_at_call 69; refine (cP.out _ (by repeat (first | exact Below.refl _ _ | apply zz0 | apply below_drew))).mono ?_; rintro e w5 ⟨rfl, hst⟩; have HS5 := zz31 hst; clear hst) | (fail "no arm"))
       obtain ⟨hx5,hf5⟩:=Kd.R_celln 0 HS5.out.left a ha0 (by omega)
       rw [show rdOf 0 L a=rd L a from rfl] at hx5
       have HS6:=HS5.out.dec a (wrap64 (rd L a - 1))
       obtain ⟨hx6,hf6⟩:=Kd.R_celln 0 HS6.left b hb0 (by rw [List.length_set];omega)
       rw [show rdOf 0 (L.set a.toNat (wrap64 (rd L a - 1))) b=rd (decT L a) b from rfl] at hx6
       have HS7:=zz31 (HS6.dec b (wrap64 (rd (decT L a) b - 1)))
       clear HS6
       go_upto_region 13 with (fail)
       generalize hw6:w5.setCell { block:=gl,off:=a.toNat } (Value.int IntKind.i64 (wrap64 (rd L a - 1)))=w6 at *
       clear hx5 hf5 hw6
       go_wp2
       go_roundg (l0.length - 1 - (j+1))
       case measure=>omega
       case rel=>exact ⟨j+1,decT (decT L a) b,t',by omega,by omega,by go_num,by rw [htl];exact htt,by unfold decT;rw [List.length_set,List.length_set];exact hLl,⟨by rw [show l0.length - 1 - (j+1)=e2 by omega];exact HRST.out⟩,HS7⟩
      ·rw [if_neg hneg] at hbI
       injection hbI with hbI
       have hbI2:=hbI.symm
       subst hbI2
       go_upto_region 12 with (first | (go_at_call 66; refine (cI.out _ (by repeat (first | exact Below.refl _ _ | apply zz0 | apply below_drew))).mono ?_; rintro e w1 ⟨rfl, q1, rfl⟩) | (go_at_call 67; refine (cF.out _ (by repeat (first | exact Below.refl _ _ | apply zz0 | apply below_drew))).mono ?_; rintro e w2 ⟨rfl, q2, rfl⟩) | (go_at_call 69; refine (cP.out _ (by repeat (first | exact Below.refl _ _ | apply zz0 | apply below_drew))).mono ?_; rintro e w5 ⟨rfl, hst⟩; have HS5 := zz31 hst; clear hst) | (fail "no arm"))
       obtain ⟨hx5,hf5⟩:=Kd.R_celln 0 HS5.out.left a ha0 (by omega)
       rw [show rdOf 0 L a=rd L a from rfl] at hx5
       have HS6:=HS5.out.dec a (wrap64 (rd L a - 1))
       obtain ⟨hx6,hf6⟩:=Kd.R_celln 0 HS6.left b hb0 (by rw [List.length_set];omega)
       rw [show rdOf 0 (L.set a.toNat (wrap64 (rd L a - 1))) b=rd (decT L a) b from rfl] at hx6
       have HS7:=zz31 (HS6.dec b (wrap64 (rd (decT L a) b - 1)))
       clear HS6
       go_upto_region 13 with (fail)
       generalize hw6:w5.setCell { block:=gl,off:=a.toNat } (Value.int IntKind.i64 (wrap64 (rd L a - 1)))=w6 at *
       clear hx5 hf5 hw6
       go_wp2
       go_roundg (l0.length - 1 - (j+1))
       case measure=>omega
       case rel=>exact ⟨j+1,decT (decT L a) b,t',by omega,by omega,by go_num,by rw [htl];exact htt,by unfold decT;rw [List.length_set,List.length_set];exact hLl,⟨by rw [show l0.length - 1 - (j+1)=e2 by omega];exact HRST.out⟩,HS7⟩
     ·have hltz:¬ (j:Int) < (l0.length:Int) - 1:=by omega
      obtain rfl:j=l0.length - 1:=by omega
      have htr:=HTR.out
      rw [Nat.sub_self,trT] at htr
      injection htr with htr
      subst htr
      have HPP:=zz31 HP.out
      have cE:Aside0 (∀ W1,Below wr.heap.size wr W1→Calls Try.prog 52 #[.slice (some ⟨gt,0,none⟩) l0.length ct] W1 fun e w'=>∃ v1_:Value,e=.returned (.agg #[.int .i64 p1,v1_])∧Kd.R k80 80 w' W1.heap.size (fun _=>True) v1_ p2∧Below W1.heap.size W1 w'):=⟨fun W1 hb=>by
       have hR:=Kd.R_reads' (Kd.R_below HSt.out.tab hb)
       have h:=impl_table_party.calls k (some ⟨gt,0,none⟩) ct t p1 p2 W1 hR.2.2 hR.2.1 HP.out
       rw [htt] at h
       exact h⟩
      have HLd:=zz31 (blk_lt HSt.out.box)
      have HSd:=zz31 HSt.out.bel.size
      clear HTR
      go_wp2_with (first | (go_at_call 52; refine (cE.out _ (by repeat (first | exact Below.refl _ _ | apply zz0 | apply below_drew))).mono ?_; rintro e we ⟨v1, rfl, ho, hb⟩; obtain ⟨A1, c1, rfl⟩ := Kd.R_slice ho; have HBe := zz31 (zz4 (w := wr) (by repeat (first | exact Below.refl _ _ | apply zz0 | apply below_drew)) hb); have HO := zz31 (Kd.R_mono (ok' := fun k => k ≠ bo) (Kd.R_bound ho) (fun k hk => by have h1 := hk.2.1; have h2 := HLd.out; show k ≠ bo; intro he; subst he; exact absurd h1 (Nat.not_le.2 h2))); have HXe := zz31 (zz11 HSt.out.box HBe.out); clear ho hb; have f1 := zz9 HXe.out 0; have f2 := zz9 HXe.out 1; simp only [List.getElem?_toArray, List.getElem?_cons_zero, List.getElem?_cons_succ] at f1 f2; have f3 := zz10 HXe.out 0; have f4 := zz10 HXe.out 1) | (fail "no arm"))
      refine bodyPost_ret (results_ct rfl _ _ bo 32 #[.int .i64 p1,.slice A1 p2.length c1] (0,0) _ rfl (by (with_reducible repeat (first | refine zz6 ?_ _ | refine zz7 ?_));refine blk_put (cs:=#[.int .i64 p1,.slice none 0 0]) ?_ 1 _ rfl;refine blk_put (cs:=#[.int .i64 0,.slice none 0 0]) ?_ 0 _ rfl;(with_reducible repeat (first | refine zz6 ?_ _ | refine zz7 ?_));exact HXe.out) Try.underlying32 rfl (by kernel_rfl)) rfl ?_
      exact ⟨_,rfl,Kd.R_mono (Kd.R_lower (Kd.R_far (Kd.R_far HO.out (fun k hk=>hk) _) (fun k hk=>hk) _) HSd.out) (fun _ _=>trivial),by repeat first | exact (zz4 HSt.out.bel HBe.out) | apply zz0 | apply below_drew | refine zz3 ?_ HSt.out.hbo⟩

end Go.Proofs.Ytjipjcdeoajnjaa.P
