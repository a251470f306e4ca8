-- PRINTED by print.py (a twelfth state) out of the translation. Not trusted: Lean checks it.
import Derived.Test.YtjipjcdeoajnjaaPx0
import Derived.Test.YtjipjcdeoajnjaaPx1
namespace Go.Proofs.Ytjipjcdeoajnjaa.P
open Go.RowKit Go.Proofs.YtjipjcdeoajnjaaW.PrintWords Go.Proofs.YtjipjcdeoajnjaaW.PrintLast Go.Proofs.YtjipjcdeoajnjaaW.PrintMore
open Bool renaming true → T, false → F
attribute [local go_sem] max2_int min2_int max_two min_two max_three min_three max_four min_four   -- for this text's walks alone
set_option linter.unusedVariables false
set_option linter.unusedSimpArgs false

/-! ### spec_deMake: function 80 -/
mutual
def spec_deMake.l0:Nat→List Int→List Int→List (List Bool)→List Bool→Int→Int→Option (Int × (List (S80)))
 | 0,_,_,_,_,_,_=>none
 | k+1,x0,x3,x4,x5,x25,x26=>if x26 < x25 then (spec_deMake.l1 k x0 x3 x4 x5 (-1) x25 x26 x3 (x3.length:Int) 0) else ((spec_paOf.f k x4).bind fun bt186=>(some (bt186.1,bt186.2)))
def spec_deMake.l1:Nat→List Int→List Int→List (List Bool)→List Bool→Int→Int→Int→List Int→Int→Int→Option (Int × (List (S80)))
 | 0,_,_,_,_,_,_,_,_,_,_=>none
 | k+1,x0,x3,x4,x5,x6,x25,x26,x28,x29,x30=>if x30 < x29 then (if 0≤x30 then (if x30 < (x28.length:Int) then (if x30 < (x5.length:Int) then (if rdOf false x5 x30=true then (spec_deMake.l1 k x0 x3 x4 x5 x6 x25 x26 x28 x29 (wrap64 (x30+1))) else (if x6 < 0 then (spec_deMake.l1 k x0 x3 x4 x5 x30 x25 x26 x28 x29 (wrap64 (x30+1))) else (if 0≤x6 then (if x6 < (x3.length:Int) then (if (rd x28 x30) > (rd x3 x6) then (spec_deMake.l1 k x0 x3 x4 x5 x30 x25 x26 x28 x29 (wrap64 (x30+1))) else (spec_deMake.l1 k x0 x3 x4 x5 x6 x25 x26 x28 x29 (wrap64 (x30+1)))) else (none)) else (none)))) else (none)) else (none)) else (none)) else (if 0≤x6 then (if x6 < (x5.length:Int) then (if 0≤(x0.length:Int) then (if ((x0.length:Int):Int).toNat≤281474976710656 then (spec_deMake.l2 k x0 x3 x4 (x5.set (x6:Int).toNat true) x6 (List.replicate ((x0.length:Int):Int).toNat false) x25 x26) else (none)) else (none)) else (none)) else (none))
def spec_deMake.l2:Nat→List Int→List Int→List (List Bool)→List Bool→Int→List Bool→Int→Int→Option (Int × (List (S80)))
 | 0,_,_,_,_,_,_,_,_=>none
 | k+1,x0,x3,x4,x5,x6,x9,x25,x26=>if 0≤x6 then (if x6 < (x3.length:Int) then (if (rd x3 x6) > 0 then (spec_deMake.l3 k x0 x3 x4 x5 x6 x9 (-1) x25 x26 x3 (x3.length:Int) 0) else (spec_deMake.l4 k x0 x3 x4 x5 x25 x26 x9 (x9.length:Int) 0)) else (none)) else (none)
def spec_deMake.l3:Nat→List Int→List Int→List (List Bool)→List Bool→Int→List Bool→Int→Int→Int→List Int→Int→Int→Option (Int × (List (S80)))
 | 0,_,_,_,_,_,_,_,_,_,_,_,_=>none
 | k+1,x0,x3,x4,x5,x6,x9,x10,x25,x26,x71,x72,x73=>if x73 < x72 then (if 0≤x73 then (if x73 < (x71.length:Int) then (if x73 < (x5.length:Int) then (if rdOf false x5 x73=true then (spec_deMake.l3 k x0 x3 x4 x5 x6 x9 x10 x25 x26 x71 x72 (wrap64 (x73+1))) else (if x73 < (x9.length:Int) then (if rdOf false x9 x73=true then (spec_deMake.l3 k x0 x3 x4 x5 x6 x9 x10 x25 x26 x71 x72 (wrap64 (x73+1))) else (if x10 < 0 then (spec_deMake.l3 k x0 x3 x4 x5 x6 x9 x73 x25 x26 x71 x72 (wrap64 (x73+1))) else (if 0≤x10 then (if x10 < (x3.length:Int) then (if (rd x71 x73) > (rd x3 x10) then (spec_deMake.l3 k x0 x3 x4 x5 x6 x9 x73 x25 x26 x71 x72 (wrap64 (x73+1))) else (spec_deMake.l3 k x0 x3 x4 x5 x6 x9 x10 x25 x26 x71 x72 (wrap64 (x73+1)))) else (none)) else (none)))) else (none))) else (none)) else (none)) else (none)) else (if 0≤x10 then (if x10 < (x9.length:Int) then (if 0≤x6 then (if x6 < (x4.length:Int) then (if x10 < ((rd_L3 x4 x6).length:Int) then ((some (x4.set (x6:Int).toNat ((rd_L3 x4 x6).set (x10:Int).toNat true):List (List Bool))).bind fun y206=>(if x10 < (x4.length:Int) then (if x6 < ((rd_L3 y206 x10).length:Int) then (if x6 < (x3.length:Int) then (spec_deMake.l2 k x0 (x3.set (x6:Int).toNat (wrap64 ((rd x3 x6) - 1))) (y206.set (x10:Int).toNat ((rd_L3 y206 x10).set (x6:Int).toNat true)) x5 x6 (x9.set (x10:Int).toNat true) x25 x26) else (none)) else (none)) else (none))) else (none)) else (none)) else (none)) else (none)) else (none))
def spec_deMake.l4:Nat→List Int→List Int→List (List Bool)→List Bool→Int→Int→List Bool→Int→Int→Option (Int × (List (S80)))
 | 0,_,_,_,_,_,_,_,_,_=>none
 | k+1,x0,x3,x4,x5,x25,x26,x119,x120,x121=>if x121 < x120 then (if 0≤x121 then (if x121 < (x119.length:Int) then (if rdOf false x119 x121=true then (if x121 < (x3.length:Int) then (spec_deMake.l4 k x0 (x3.set (x121:Int).toNat (wrap64 ((rd x3 x121) - 1))) x4 x5 x25 x26 x119 x120 (wrap64 (x121+1))) else (none)) else (spec_deMake.l4 k x0 x3 x4 x5 x25 x26 x119 x120 (wrap64 (x121+1)))) else (none)) else (none)) else (spec_deMake.l0 k x0 x3 x4 x5 x25 (wrap64 (x26+1)))
end
def spec_deMake.f (k:Nat) (l0:List Int):Option (Int × (List (S80))):=(spec_l1Own.f l0).bind fun t177=>((spec_paTable.f k (l0.length:Int) ([]:List (S80))).bind fun t180=>(if 0≤(l0.length:Int) then (if ((l0.length:Int):Int).toNat≤281474976710656 then (spec_deMake.l0 k l0 t177 t180 (List.replicate ((l0.length:Int):Int).toNat false) (l0.length:Int) 0) else (none)) else (none)))
theorem spec_deMake.mono_l:∀ k,(∀ y0 y1 y2 y3 y4 y5,LeO (spec_deMake.l0 k y0 y1 y2 y3 y4 y5) (spec_deMake.l0 (k+1) y0 y1 y2 y3 y4 y5))∧(∀ y0 y1 y2 y3 y4 y5 y6 y7 y8 y9,LeO (spec_deMake.l1 k y0 y1 y2 y3 y4 y5 y6 y7 y8 y9) (spec_deMake.l1 (k+1) y0 y1 y2 y3 y4 y5 y6 y7 y8 y9))∧(∀ y0 y1 y2 y3 y4 y5 y6 y7,LeO (spec_deMake.l2 k y0 y1 y2 y3 y4 y5 y6 y7) (spec_deMake.l2 (k+1) y0 y1 y2 y3 y4 y5 y6 y7))∧(∀ y0 y1 y2 y3 y4 y5 y6 y7 y8 y9 y10 y11,LeO (spec_deMake.l3 k y0 y1 y2 y3 y4 y5 y6 y7 y8 y9 y10 y11) (spec_deMake.l3 (k+1) y0 y1 y2 y3 y4 y5 y6 y7 y8 y9 y10 y11))∧(∀ y0 y1 y2 y3 y4 y5 y6 y7 y8,LeO (spec_deMake.l4 k y0 y1 y2 y3 y4 y5 y6 y7 y8) (spec_deMake.l4 (k+1) y0 y1 y2 y3 y4 y5 y6 y7 y8))
 | 0=>⟨fun _ _ _ _ _ _ r h=>by simp [spec_deMake.l0] at h,fun _ _ _ _ _ _ _ _ _ _ r h=>by simp [spec_deMake.l1] at h,fun _ _ _ _ _ _ _ _ r h=>by simp [spec_deMake.l2] at h,fun _ _ _ _ _ _ _ _ _ _ _ _ r h=>by simp [spec_deMake.l3] at h,fun _ _ _ _ _ _ _ _ _ r h=>by simp [spec_deMake.l4] at h⟩
 | k+1=>by
  obtain ⟨ih0,ih1,ih2,ih3,ih4⟩:=spec_deMake.mono_l k
  refine ⟨?_,?_,?_,?_,?_⟩
  ·intro y0 y1 y2 y3 y4 y5
   unfold spec_deMake.l0
   repeat' first
   | (with_reducible exact ih0 _ _ _ _ _ _)
   | (with_reducible exact ih1 _ _ _ _ _ _ _ _ _ _)
   | (with_reducible exact ih2 _ _ _ _ _ _ _ _)
   | (with_reducible exact ih3 _ _ _ _ _ _ _ _ _ _ _ _)
   | (with_reducible exact ih4 _ _ _ _ _ _ _ _ _)
   | (with_reducible exact spec_paOf.mono _ _)
   | (with_reducible exact spec_paTable.mono _ _ _)
   | (with_reducible exact LeO.refl _)
   | (with_reducible exact LeO.none _)
   | (with_reducible refine LeO.ite ?_ ?_)
   | (with_reducible refine LeO.bind ?_ (fun _=>?_))
   | exact ih0 _ _ _ _ _ _
   | exact ih1 _ _ _ _ _ _ _ _ _ _
   | exact ih2 _ _ _ _ _ _ _ _
   | exact ih3 _ _ _ _ _ _ _ _ _ _ _ _
   | exact ih4 _ _ _ _ _ _ _ _ _
   | exact spec_paOf.mono _ _
   | exact spec_paTable.mono _ _ _
   | exact LeO.none _
   | refine LeO.ite ?_ ?_
   | refine LeO.bind ?_ (fun _=>?_)
  ·intro y0 y1 y2 y3 y4 y5 y6 y7 y8 y9
   unfold spec_deMake.l1
   repeat' first
   | (with_reducible exact ih0 _ _ _ _ _ _)
   | (with_reducible exact ih1 _ _ _ _ _ _ _ _ _ _)
   | (with_reducible exact ih2 _ _ _ _ _ _ _ _)
   | (with_reducible exact ih3 _ _ _ _ _ _ _ _ _ _ _ _)
   | (with_reducible exact ih4 _ _ _ _ _ _ _ _ _)
   | (with_reducible exact spec_paOf.mono _ _)
   | (with_reducible exact spec_paTable.mono _ _ _)
   | (with_reducible exact LeO.refl _)
   | (with_reducible exact LeO.none _)
   | (with_reducible refine LeO.ite ?_ ?_)
   | (with_reducible refine LeO.bind ?_ (fun _=>?_))
   | exact ih0 _ _ _ _ _ _
   | exact ih1 _ _ _ _ _ _ _ _ _ _
   | exact ih2 _ _ _ _ _ _ _ _
   | exact ih3 _ _ _ _ _ _ _ _ _ _ _ _
   | exact ih4 _ _ _ _ _ _ _ _ _
   | exact spec_paOf.mono _ _
   | exact spec_paTable.mono _ _ _
   | exact LeO.none _
   | refine LeO.ite ?_ ?_
   | refine LeO.bind ?_ (fun _=>?_)
  ·intro y0 y1 y2 y3 y4 y5 y6 y7
   unfold spec_deMake.l2
   repeat' first
   | (with_reducible exact ih0 _ _ _ _ _ _)
   | (with_reducible exact ih1 _ _ _ _ _ _ _ _ _ _)
   | (with_reducible exact ih2 _ _ _ _ _ _ _ _)
   | (with_reducible exact ih3 _ _ _ _ _ _ _ _ _ _ _ _)
   | (with_reducible exact ih4 _ _ _ _ _ _ _ _ _)
   | (with_reducible exact spec_paOf.mono _ _)
   | (with_reducible exact spec_paTable.mono _ _ _)
   | (with_reducible exact LeO.refl _)
   | (with_reducible exact LeO.none _)
   | (with_reducible refine LeO.ite ?_ ?_)
   | (with_reducible refine LeO.bind ?_ (fun _=>?_))
   | exact ih0 _ _ _ _ _ _
   | exact ih1 _ _ _ _ _ _ _ _ _ _
   | exact ih2 _ _ _ _ _ _ _ _
   | exact ih3 _ _ _ _ _ _ _ _ _ _ _ _
   | exact ih4 _ _ _ _ _ _ _ _ _
   | exact spec_paOf.mono _ _
   | exact spec_paTable.mono _ _ _
   | exact LeO.none _
   | refine LeO.ite ?_ ?_
   | refine LeO.bind ?_ (fun _=>?_)
  ·intro y0 y1 y2 y3 y4 y5 y6 y7 y8 y9 y10 y11
   unfold spec_deMake.l3
   repeat' first
   | (with_reducible exact ih0 _ _ _ _ _ _)
   | (with_reducible exact ih1 _ _ _ _ _ _ _ _ _ _)
   | (with_reducible exact ih2 _ _ _ _ _ _ _ _)
   | (with_reducible exact ih3 _ _ _ _ _ _ _ _ _ _ _ _)
   | (with_reducible exact ih4 _ _ _ _ _ _ _ _ _)
   | (with_reducible exact spec_paOf.mono _ _)
   | (with_reducible exact spec_paTable.mono _ _ _)
   | (with_reducible exact LeO.refl _)
   | (with_reducible exact LeO.none _)
   | (with_reducible refine LeO.ite ?_ ?_)
   | (with_reducible refine LeO.bind ?_ (fun _=>?_))
   | exact ih0 _ _ _ _ _ _
   | exact ih1 _ _ _ _ _ _ _ _ _ _
   | exact ih2 _ _ _ _ _ _ _ _
   | exact ih3 _ _ _ _ _ _ _ _ _ _ _ _
   | exact ih4 _ _ _ _ _ _ _ _ _
   | exact spec_paOf.mono _ _
   | exact spec_paTable.mono _ _ _
   | exact LeO.none _
   | refine LeO.ite ?_ ?_
   | refine LeO.bind ?_ (fun _=>?_)
  ·intro y0 y1 y2 y3 y4 y5 y6 y7 y8
   unfold spec_deMake.l4
   repeat' first
   | (with_reducible exact ih0 _ _ _ _ _ _)
   | (with_reducible exact ih1 _ _ _ _ _ _ _ _ _ _)
   | (with_reducible exact ih2 _ _ _ _ _ _ _ _)
   | (with_reducible exact ih3 _ _ _ _ _ _ _ _ _ _ _ _)
   | (with_reducible exact ih4 _ _ _ _ _ _ _ _ _)
   | (with_reducible exact spec_paOf.mono _ _)
   | (with_reducible exact spec_paTable.mono _ _ _)
   | (with_reducible exact LeO.refl _)
   | (with_reducible exact LeO.none _)
   | (with_reducible refine LeO.ite ?_ ?_)
   | (with_reducible refine LeO.bind ?_ (fun _=>?_))
   | exact ih0 _ _ _ _ _ _
   | exact ih1 _ _ _ _ _ _ _ _ _ _
   | exact ih2 _ _ _ _ _ _ _ _
   | exact ih3 _ _ _ _ _ _ _ _ _ _ _ _
   | exact ih4 _ _ _ _ _ _ _ _ _
   | exact spec_paOf.mono _ _
   | exact spec_paTable.mono _ _ _
   | exact LeO.none _
   | refine LeO.ite ?_ ?_
   | refine LeO.bind ?_ (fun _=>?_)
theorem spec_deMake.mono:∀ a0 k,LeO (spec_deMake.f k a0) (spec_deMake.f (k+1) a0):=by
 intro a0 k
 obtain ⟨ih0,ih1,ih2,ih3,ih4⟩:=spec_deMake.mono_l k
 unfold spec_deMake.f
 repeat' first
   | (with_reducible exact ih0 _ _ _ _ _ _)
   | (with_reducible exact ih1 _ _ _ _ _ _ _ _ _ _)
   | (with_reducible exact ih2 _ _ _ _ _ _ _ _)
   | (with_reducible exact ih3 _ _ _ _ _ _ _ _ _ _ _ _)
   | (with_reducible exact ih4 _ _ _ _ _ _ _ _ _)
   | (with_reducible exact spec_paOf.mono _ _)
   | (with_reducible exact spec_paTable.mono _ _ _)
   | (with_reducible exact LeO.refl _)
   | (with_reducible exact LeO.none _)
   | (with_reducible refine LeO.ite ?_ ?_)
   | (with_reducible refine LeO.bind ?_ (fun _=>?_))
   | exact ih0 _ _ _ _ _ _
   | exact ih1 _ _ _ _ _ _ _ _ _ _
   | exact ih2 _ _ _ _ _ _ _ _
   | exact ih3 _ _ _ _ _ _ _ _ _ _ _ _
   | exact ih4 _ _ _ _ _ _ _ _ _
   | exact spec_paOf.mono _ _
   | exact spec_paTable.mono _ _ _
   | exact LeO.none _
   | refine LeO.ite ?_ ?_
   | refine LeO.bind ?_ (fun _=>?_)
set_option maxHeartbeats 8000000 in
set_option maxRecDepth 100000 in
theorem spec_deMake.calls (k:Nat) (A0:Option Addr) (c0:Nat) (l0:List Int) (r1:Int) (r2:List (S80)) (w:World) (hr0:Kd.C (Kd.int .i64) w A0 l0.length l0) (hc0:l0.length≤c0) (h:spec_deMake.f k l0=some (r1,r2)) :
  Calls Try.prog 80 #[.slice A0 l0.length c0] w fun e w'=>∃ v1_:Value,e=.returned (.agg #[.int .i64 r1,v1_])∧Kd.R k80 80 w' w.heap.size (fun _=>True) v1_ r2∧Below w.heap.size w w':=by
 have hu32:=Try.underlying32
 have HR0:=zz31 hr0
 have HC0:=zz31 hc0
 clear hr0 hc0
 have HB:=zz31 (Below.refl w.heap.size w)
 have H:((spec_l1Own.f l0).bind fun t177=>((spec_paTable.f k (l0.length:Int) ([]:List (S80))).bind fun t180=>(if 0≤(l0.length:Int) then (if ((l0.length:Int):Int).toNat≤281474976710656 then (spec_deMake.l0 k l0 t177 t180 (List.replicate ((l0.length:Int):Int).toNat false) (l0.length:Int) 0) else (none)) else (none))))=some (r1,r2):=h
 clear h
 replace H:=zz30.mp H
 obtain ⟨t177,A20,H⟩:=H
 replace H:((spec_paTable.f k (l0.length:Int) ([]:List (S80))).bind fun t180=>(if 0≤(l0.length:Int) then (if ((l0.length:Int):Int).toNat≤281474976710656 then (spec_deMake.l0 k l0 t177 t180 (List.replicate ((l0.length:Int):Int).toNat false) (l0.length:Int) 0) else (none)) else (none)))=some (r1,r2):=H
 have A2:=zz31 A20
 clear A20
 replace H:=zz30.mp H
 obtain ⟨t180,A30,H⟩:=H
 replace H:(if 0≤(l0.length:Int) then (if ((l0.length:Int):Int).toNat≤281474976710656 then (spec_deMake.l0 k l0 t177 t180 (List.replicate ((l0.length:Int):Int).toNat false) (l0.length:Int) 0) else (none)) else (none))=some (r1,r2):=H
 have A3:=zz31 A30
 clear A30
 by_cases c4:0≤(l0.length:Int)
 ·rw [if_pos c4] at H
  have c4b0:=eq_true c4
  have c4b1:decide (0≤(l0.length:Int))=true:=decide_eq_true c4
  clear c4
  by_cases c5:((l0.length:Int):Int).toNat≤281474976710656
  ·rw [if_pos c5] at H
   have c5b0:=eq_true c5
   have c5b1:decide (((l0.length:Int):Int).toNat≤281474976710656)=true:=decide_eq_true c5
   clear c5
   obtain ⟨y183,hy183⟩:∃ y_:List Bool,y_=(List.replicate ((l0.length:Int):Int).toNat false):=⟨_,rfl⟩
   replace H:(spec_deMake.l0 k l0 t177 t180 y183 (l0.length:Int) 0)=some (r1,r2):=by first | (rw [hy183];with_reducible exact H) | (have H2_:=(Option.bind_some _ _).symm.trans H;rw [hy183];with_reducible exact H2_) | (have H2_:=(Option.bind_some _ _).symm.trans H;with_reducible exact H2_) | with_reducible exact H | (rw [hy183];exact H) | exact H
   have Ny183:=zz31 hy183
   clear hy183
   have H':=zz31 H
   clear H
   go_enter Try.func80,Try.ntmps80
   go_wp2_with (first | ((with_reducible refine gate_dst (N:=2) rfl ?_);refine box_event ?hg (N:=2) ?hd (cs:=#[.int .i64 0,.slice none 0 0]) (t:=32) ?hr ?_;(case hd=>rfl);(case hg=>rfl);(case hr=>first | (go_simp;done) | (go_simp;rfl));intro gb176 hg w6 hbox hb;have n0_:=zz31 (zz4 (by repeat first | exact HB.out | apply zz2 | apply zz0 | apply zz1) hb);have n1_:=zz31 (hbox);have n2_:=zz31 ((by rw [hg];exact (zz5 (by repeat first | exact HB.out | apply zz2 | apply zz0 | apply zz1)):w.heap.size≤gb176));have n3_:=zz31 ((by rw [hg];exact (zz5 (by repeat first | exact HB.out | apply zz2 | apply zz0 | apply zz1)):w.heap.size≤gb176));clear HB;have HB:=n0_;have BK176:=n1_;have GW176:=n2_;have GE176:=n3_;clear n0_ n1_ n2_ n3_;clear hb hbox hg) | ((with_reducible refine gate_callee (f:=59) rfl ?_);refine goesL_ (some 16) rfl rfl Try.func59 (by kernel_rfl) rfl #[.slice A0 l0.length c0] rfl (by (try simp only [zz26,zz27,zz28]);first | done | rfl | (simp only [zz24,zz25];rfl)) ?_;(with_reducible refine (spec_l1Own.calls _ _ l0 t177 _ ?side1 ?side2 A2.out).mono ?_);(case side1=>repeat (first | exact (Kd.C_below HR0.out HB.out) | (with_reducible refine zz18 ?_ _) | (with_reducible refine zz19 ?_ _) | (with_reducible refine zz20 ?_)));(case side2=>exact HC0.out);rintro e w7 ⟨v178,rfl,ho0,hb⟩;refine ⟨_,rfl,?_⟩;have n0_:=zz31 (Kd.R_lower ho0 (zz5 (by repeat first | exact HB.out | apply zz2 | apply zz0 | apply zz1 | refine zz3 ?_ GE176.out)));have n1_:=zz31 (zz11 (g:=gb176) (o:=.cells #[.int .i64 0,.slice none 0 0] 32 (0,0)) (by (with_reducible repeat (first | refine zz6 ?_ _ | refine zz7 ?_ | refine zz8 ?_ _));exact BK176.out) hb);have n2_:=zz31 (zz4 (by repeat first | exact HB.out | apply zz2 | apply zz0 | apply zz1 | refine zz3 ?_ GE176.out) hb);clear BK176;clear HB;have HO179:=n0_;have BK176:=n1_;have HB:=n2_;clear n0_ n1_ n2_;(try clear hb);(try clear hb2);(try clear hk);(try clear hi);(try clear ho0)) | ((with_reducible refine gate_callee (f:=60) rfl ?_);refine goesL_ (some 20) rfl rfl Try.func60 (by kernel_rfl) rfl #[.agg #[.int .i64 (l0.length:Int),.slice none 0 0]] rfl (by (try simp only [zz26,zz27,zz28]);first | done | rfl | (simp only [zz24,zz25];rfl)) ?_;(refine (spec_paTable.calls k (l0.length:Int) _ _ ([]:List (S80)) t180 _ ?side1 ?side2 A3.out).mono ?_);(case side1=>exact Kd.C_nil _ _);(case side2=>exact Nat.le_refl _);rintro e w8 ⟨v181,rfl,ho0,hb⟩;refine ⟨_,rfl,?_⟩;have n0_:=zz31 (Kd.R_below (by (with_reducible repeat (first | apply zz12 | apply zz13 | apply zz14));exact HO179.out) hb);have n1_:=zz31 (Kd.S_lower ho0 (zz5 (by repeat first | exact HB.out | apply zz2 | apply zz0 | apply zz1 | refine zz3 ?_ GE176.out)));have n2_:=zz31 (zz11 (g:=gb176) (o:=.cells #[.int .i64 0,.slice none 0 0] 32 (0,0)) (by (with_reducible repeat (first | refine zz6 ?_ _ | refine zz7 ?_ | refine zz8 ?_ _));exact BK176.out) hb);have n3_:=zz31 (zz4 (by repeat first | exact HB.out | apply zz2 | apply zz0 | apply zz1 | refine zz3 ?_ GE176.out) hb);clear HO179;clear BK176;clear HB;have HO179:=n0_;have HO182:=n1_;have BK176:=n2_;have HB:=n3_;clear n0_ n1_ n2_ n3_;(try clear hb);(try clear hb2);(try clear hk);(try clear hi);(try clear ho0)) | ((with_reducible refine gate_dst (N:=23) rfl ?_);refine Kd.R_make Kd.bool _ 4 rfl (N:=23) rfl 60 _ _ rfl (l0.length:Int) rfl rfl Try.underlying60 (.bool false) 1 info4 rfl (by decide) (by omega) false (ok:=fun _=>True) (okp:=fun _=>True) rfl (fun _ hk=>hk) trivial (zz29 (by first | (with_reducible assumption) | assumption)) (Nat.le_trans (Nat.mul_le_mul_right _ (zz29 (by first | (with_reducible assumption) | assumption):(l0.length:Int).toNat≤281474976710656)) (by omega)) (Below.refl _ _) (Nat.le_refl _) ?_;intro v184 w9 ho10 hb hg_ hnew_;clear hg_ hnew_;(first | rw [← Ny183.out] at ho10 | (simp only [Int.reduceToNat] at ho10;rw [← Ny183.out] at ho10));have n0_:=zz31 (Kd.R_below (by (with_reducible repeat (first | apply zz12 | apply zz13 | apply zz14));exact HO179.out) hb);have n1_:=zz31 (Kd.S_elder' (by (with_reducible repeat (first | apply zz15 | apply zz16 | apply zz17));exact HO182.out) (Kd.R_base ho10) hb);have n2_:=zz31 (Kd.R_lower ho10 (zz5 (by repeat first | exact HB.out | apply zz2 | apply zz0 | apply zz1 | refine zz3 ?_ GE176.out)));have n3_:=zz31 (zz11 (g:=gb176) (o:=.cells #[.int .i64 0,.slice none 0 0] 32 (0,0)) (by (with_reducible repeat (first | refine zz6 ?_ _ | refine zz7 ?_ | refine zz8 ?_ _));exact BK176.out) hb);have n4_:=zz31 (zz4 (by repeat first | exact HB.out | apply zz2 | apply zz0 | apply zz1 | refine zz3 ?_ GE176.out) hb);clear HO179;clear HO182;clear BK176;clear HB;have HO179:=n0_;have HO182:=n1_;have HO185:=n2_;have BK176:=n3_;have HB:=n4_;clear n0_ n1_ n2_ n3_ n4_;clear hb ho10))
   go_loopg [26] k (fun kq v26 w'=>∃ (x3_1:List Int) (x4_1:List (List Bool)) (x5_1:List Bool) (x26_1:Int),v26=.int .i64 x26_1∧Aside0 (spec_deMake.l0 kq l0 x3_1 x4_1 x5_1 (l0.length:Int) x26_1=some (r1,r2))∧Aside0 (kq≤k)∧Aside0 (Kd.R (Kd.int .i64) 3 w' w.heap.size (fun _=>True) v178 x3_1)∧Aside0 (Kd.S (Kd.slice 4 Kd.bool) 60 w' w.heap.size (fun k_=>some k_ ≠ (v184:Value).ownBlock) v181 x4_1)∧Aside0 (Kd.R Kd.bool 4 w' w.heap.size (fun _=>True) v184 x5_1)∧Aside0 (w'.heap[gb176]?=some (.cells #[.int .i64 0,(.slice none 0 0)] 32 (0,0)))∧Aside0 (Below w.heap.size w w'))
   case atStart=>exact ⟨(t177),(t180),(y183),(0),(by first | rfl | (simp;done) | (simp [*];done)),H',⟨Nat.le_refl _⟩,⟨by (with_reducible repeat (first | apply zz12 | apply zz13 | apply zz14));exact HO179.out⟩,⟨by (with_reducible repeat (first | apply zz15 | apply zz16 | apply zz17));exact Kd.S_mono HO182.out (fun _ hk=>hk.2)⟩,⟨by (with_reducible repeat (first | apply zz12 | apply zz13 | apply zz14));exact HO185.out⟩,⟨by (with_reducible repeat (first | refine zz6 ?_ _ | refine zz7 ?_ | refine zz8 ?_ _));exact BK176.out⟩,⟨by repeat first | exact HB.out | apply zz2 | apply zz0 | apply zz1 | refine zz3 ?_ GE176.out⟩⟩
   case round =>
    clear H'
    try clear p2
    try clear c4
    try clear c4b0
    try clear c4b1
    try clear c5
    try clear c5b0
    try clear c5b1
    try clear c6
    try clear c8
    obtain ⟨x3_1,x4_1,x5_1,x26_1,rfl,HA,HK1,HO_3,HO_4,HO_5,BK176,HB⟩:=hrel
    cases gk with
    | zero=>exact absurd HA.out (by simp [spec_deMake.l0])
    | succ k1 =>
     have H:=HA.out
     clear HA
     simp only [spec_deMake.l0] at H
     by_cases c11:x26_1 < (l0.length:Int)
     ·rw [if_pos c11] at H
      have c11b0:decide (x26_1 < (l0.length:Int))=true:=decide_eq_true c11
      clear c11
      have H':=zz31 H
      clear H
      obtain ⟨Ao12,co12,eo12⟩:=Kd.R_slice HO_3.out
      subst eo12
      go_wp2
      go_loopg [6,30] k1 (fun kq v6 v30 w'=>∃ (x6_2:Int) (x30_2:Int),v6=.int .i64 x6_2∧v30=.int .i64 x30_2∧Aside0 (spec_deMake.l1 kq l0 x3_1 x4_1 x5_1 x6_2 (l0.length:Int) x26_1 x3_1 (x3_1.length:Int) x30_2=some (r1,r2))∧Aside0 (kq≤k1)∧Aside0 (Kd.R (Kd.int .i64) 3 w' w.heap.size (fun _=>True) (.slice Ao12 x3_1.length co12) x3_1)∧Aside0 (Kd.S (Kd.slice 4 Kd.bool) 60 w' w.heap.size (fun k_=>some k_ ≠ (v184:Value).ownBlock) v181 x4_1)∧Aside0 (Kd.R Kd.bool 4 w' w.heap.size (fun _=>True) v184 x5_1)∧Aside0 (Kd.R (Kd.int .i64) 3 w' w.heap.size (fun _=>True) (.slice Ao12 x3_1.length co12) x3_1)∧Aside0 (w'.heap[gb176]?=some (.cells #[.int .i64 0,(.slice none 0 0)] 32 (0,0)))∧Aside0 (Below w.heap.size w w'))
      case atStart=>exact ⟨((-1)),(0),(by first | rfl | (simp;done) | (simp [*];done)),(by first | rfl | (simp;done) | (simp [*];done)),H',⟨Nat.le_refl _⟩,⟨by (with_reducible repeat (first | apply zz12 | apply zz13 | apply zz14));exact HO_3.out⟩,⟨by (with_reducible repeat (first | apply zz15 | apply zz16 | apply zz17));exact HO_4.out⟩,⟨by (with_reducible repeat (first | apply zz12 | apply zz13 | apply zz14));exact HO_5.out⟩,⟨by (with_reducible repeat (first | apply zz12 | apply zz13 | apply zz14));exact HO_3.out⟩,⟨by (with_reducible repeat (first | refine zz6 ?_ _ | refine zz7 ?_ | refine zz8 ?_ _));exact BK176.out⟩,⟨by repeat first | exact HB.out | apply zz2 | apply zz0 | apply zz1 | refine zz3 ?_ GE176.out⟩⟩
      case round =>
       clear H'
       try clear c1
       try clear p2
       try clear c4
       try clear c4b0
       try clear c4b1
       try clear c5
       try clear c5b0
       try clear c5b1
       try clear c6
       try clear c8
       try clear c11
       try clear c11b0
       try clear p2
       obtain ⟨x6_2,x30_2,rfl,rfl,HA,HK2,HO_3,HO_4,HO_5,HO_28,BK176,HB⟩:=hrel
       cases gk with
       | zero=>exact absurd HA.out (by simp [spec_deMake.l1])
       | succ k2 =>
        have H:=HA.out
        clear HA
        simp only [spec_deMake.l1] at H
        by_cases c13:x30_2 < (x3_1.length:Int)
        ·rw [if_pos c13] at H
         have c13b0:decide (x30_2 < (x3_1.length:Int))=true:=decide_eq_true c13
         clear c13
         by_cases c14:0≤x30_2
         ·rw [if_pos c14] at H
          have c14b0:decide (0≤x30_2)=true:=decide_eq_true c14
          clear c14
          by_cases c15:x30_2 < (x3_1.length:Int)
          ·rw [if_pos c15] at H
           have c15b0:decide (x30_2 < (x3_1.length:Int))=true:=decide_eq_true c15
           clear c15
           by_cases c16:x30_2 < (x5_1.length:Int)
           ·rw [if_pos c16] at H
            have c16b0:decide (x30_2 < (x5_1.length:Int))=true:=decide_eq_true c16
            clear c16
            obtain ⟨bq17,hbq17⟩:∃ b_:Bool,b_=(rdOf false x5_1 x30_2):=⟨_,rfl⟩
            replace H:(if bq17=true then (spec_deMake.l1 k2 l0 x3_1 x4_1 x5_1 x6_2 (l0.length:Int) x26_1 x3_1 (x3_1.length:Int) (wrap64 (x30_2+1))) else (if x6_2 < 0 then (spec_deMake.l1 k2 l0 x3_1 x4_1 x5_1 x30_2 (l0.length:Int) x26_1 x3_1 (x3_1.length:Int) (wrap64 (x30_2+1))) else (if 0≤x6_2 then (if x6_2 < (x3_1.length:Int) then (if (rd x3_1 x30_2) > (rd x3_1 x6_2) then (spec_deMake.l1 k2 l0 x3_1 x4_1 x5_1 x30_2 (l0.length:Int) x26_1 x3_1 (x3_1.length:Int) (wrap64 (x30_2+1))) else (spec_deMake.l1 k2 l0 x3_1 x4_1 x5_1 x6_2 (l0.length:Int) x26_1 x3_1 (x3_1.length:Int) (wrap64 (x30_2+1)))) else (none)) else (none))))=some (r1,r2):=by rw [← hbq17] at H;exact H
            have Nbq17:=zz31 hbq17
            clear hbq17
            by_cases c18:bq17=true
            ·subst c18
             have H1:(spec_deMake.l1 k2 l0 x3_1 x4_1 x5_1 x6_2 (l0.length:Int) x26_1 x3_1 (x3_1.length:Int) (wrap64 (x30_2+1)))=some (r1,r2):=by rw [if_pos rfl] at H;exact H
             clear H
             have H:=H1
             clear H1
             have H':=zz31 H
             clear H
             have p190:0≤(x30_2:Int):=zz29 (by first | (with_reducible assumption) | assumption)
             have q190:x30_2 < (x3_1.length:Int):=zz29 (by first | (with_reducible assumption) | assumption)
             obtain ⟨ad190,e190,hx190_0⟩:=Kd.at_int (Kd.R_reads' HO_28.out).2.2 x30_2 p190 q190
             cases e190
             replace p190:=eq_true p190
             replace q190:=eq_true q190
             obtain ⟨Ao19,co19,eo19⟩:=Kd.R_slice HO_5.out
             subst eo19
             have p191:0≤(x30_2:Int):=zz29 (by first | (with_reducible assumption) | assumption)
             have q191:x30_2 < (x5_1.length:Int):=zz29 (by first | (with_reducible assumption) | assumption)
             obtain ⟨ad191,e191,hx191_0⟩:=Kd.at_bool (Kd.R_reads' HO_5.out).2.2 x30_2 p191 q191
             (try rw [← Nbq17.out] at hx191_0)
             cases e191
             replace p191:=eq_true p191
             replace q191:=eq_true q191
             go_wp2
             go_roundg k2
             case measure=>have:=HK1.out;have:=HK2.out;omega
             case rel=>exact ⟨(x6_2),(wrap64 (x30_2+1)),(by first | rfl | (simp;done) | (simp [*];done)),(by first | rfl | (simp;done) | (simp [*];done)),H',⟨by have:=HK1.out;have:=HK2.out;omega⟩,⟨by (with_reducible repeat (first | apply zz12 | apply zz13 | apply zz14));exact HO_3.out⟩,⟨by (with_reducible repeat (first | apply zz15 | apply zz16 | apply zz17));exact HO_4.out⟩,⟨by (with_reducible repeat (first | apply zz12 | apply zz13 | apply zz14));exact HO_5.out⟩,⟨by (with_reducible repeat (first | apply zz12 | apply zz13 | apply zz14));exact HO_28.out⟩,⟨by (with_reducible repeat (first | refine zz6 ?_ _ | refine zz7 ?_ | refine zz8 ?_ _));exact BK176.out⟩,⟨by repeat first | exact HB.out | apply zz2 | apply zz0 | apply zz1 | refine zz3 ?_ GE176.out⟩⟩
            ·replace c18:=Bool.eq_false_iff.mpr c18
             subst c18
             have H1:(if x6_2 < 0 then (spec_deMake.l1 k2 l0 x3_1 x4_1 x5_1 x30_2 (l0.length:Int) x26_1 x3_1 (x3_1.length:Int) (wrap64 (x30_2+1))) else (if 0≤x6_2 then (if x6_2 < (x3_1.length:Int) then (if (rd x3_1 x30_2) > (rd x3_1 x6_2) then (spec_deMake.l1 k2 l0 x3_1 x4_1 x5_1 x30_2 (l0.length:Int) x26_1 x3_1 (x3_1.length:Int) (wrap64 (x30_2+1))) else (spec_deMake.l1 k2 l0 x3_1 x4_1 x5_1 x6_2 (l0.length:Int) x26_1 x3_1 (x3_1.length:Int) (wrap64 (x30_2+1)))) else (none)) else (none)))=some (r1,r2):=by rw [if_neg (show ¬ (false=true) by decide)] at H;exact H
             clear H
             have H:=H1
             clear H1
             by_cases c20:x6_2 < 0
             ·rw [if_pos c20] at H
              have c20b0:decide (x6_2 < 0)=true:=decide_eq_true c20
              clear c20
              have H':=zz31 H
              clear H
              have p190:0≤(x30_2:Int):=zz29 (by first | (with_reducible assumption) | assumption)
              have q190:x30_2 < (x3_1.length:Int):=zz29 (by first | (with_reducible assumption) | assumption)
              obtain ⟨ad190,e190,hx190_0⟩:=Kd.at_int (Kd.R_reads' HO_28.out).2.2 x30_2 p190 q190
              cases e190
              replace p190:=eq_true p190
              replace q190:=eq_true q190
              obtain ⟨Ao21,co21,eo21⟩:=Kd.R_slice HO_5.out
              subst eo21
              have p191:0≤(x30_2:Int):=zz29 (by first | (with_reducible assumption) | assumption)
              have q191:x30_2 < (x5_1.length:Int):=zz29 (by first | (with_reducible assumption) | assumption)
              obtain ⟨ad191,e191,hx191_0⟩:=Kd.at_bool (Kd.R_reads' HO_5.out).2.2 x30_2 p191 q191
              (try rw [← Nbq17.out] at hx191_0)
              cases e191
              replace p191:=eq_true p191
              replace q191:=eq_true q191
              go_wp2
              go_roundg k2
              case measure=>have:=HK1.out;have:=HK2.out;omega
              case rel=>exact ⟨(x30_2),(wrap64 (x30_2+1)),(by first | rfl | (simp;done) | (simp [*];done)),(by first | rfl | (simp;done) | (simp [*];done)),H',⟨by have:=HK1.out;have:=HK2.out;omega⟩,⟨by (with_reducible repeat (first | apply zz12 | apply zz13 | apply zz14));exact HO_3.out⟩,⟨by (with_reducible repeat (first | apply zz15 | apply zz16 | apply zz17));exact HO_4.out⟩,⟨by (with_reducible repeat (first | apply zz12 | apply zz13 | apply zz14));exact HO_5.out⟩,⟨by (with_reducible repeat (first | apply zz12 | apply zz13 | apply zz14));exact HO_28.out⟩,⟨by (with_reducible repeat (first | refine zz6 ?_ _ | refine zz7 ?_ | refine zz8 ?_ _));exact BK176.out⟩,⟨by repeat first | exact HB.out | apply zz2 | apply zz0 | apply zz1 | refine zz3 ?_ GE176.out⟩⟩
             ·rw [if_neg c20] at H
              have c20b0:decide (x6_2 < 0)=false:=decide_eq_false c20
              clear c20
              by_cases c22:0≤x6_2
              ·rw [if_pos c22] at H
               have c22b0:decide (0≤x6_2)=true:=decide_eq_true c22
               clear c22
               by_cases c23:x6_2 < (x3_1.length:Int)
               ·rw [if_pos c23] at H
                have c23b0:decide (x6_2 < (x3_1.length:Int))=true:=decide_eq_true c23
                clear c23
                by_cases c24:(rd x3_1 x30_2) > (rd x3_1 x6_2)
                ·rw [if_pos c24] at H
                 have c24b0:decide ((rd x3_1 x6_2) < (rd x3_1 x30_2))=true:=decide_eq_true c24
                 clear c24
                 have H':=zz31 H
                 clear H
                 have p190:0≤(x30_2:Int):=zz29 (by first | (with_reducible assumption) | assumption)
                 have q190:x30_2 < (x3_1.length:Int):=zz29 (by first | (with_reducible assumption) | assumption)
                 obtain ⟨ad190,e190,hx190_0⟩:=Kd.at_int (Kd.R_reads' HO_28.out).2.2 x30_2 p190 q190
                 cases e190
                 replace p190:=eq_true p190
                 replace q190:=eq_true q190
                 obtain ⟨Ao25,co25,eo25⟩:=Kd.R_slice HO_5.out
                 subst eo25
                 have p191:0≤(x30_2:Int):=zz29 (by first | (with_reducible assumption) | assumption)
                 have q191:x30_2 < (x5_1.length:Int):=zz29 (by first | (with_reducible assumption) | assumption)
                 obtain ⟨ad191,e191,hx191_0⟩:=Kd.at_bool (Kd.R_reads' HO_5.out).2.2 x30_2 p191 q191
                 (try rw [← Nbq17.out] at hx191_0)
                 cases e191
                 replace p191:=eq_true p191
                 replace q191:=eq_true q191
                 have p192:0≤(x6_2:Int):=zz29 (by first | (with_reducible assumption) | assumption)
                 have q192:x6_2 < (x3_1.length:Int):=zz29 (by first | (with_reducible assumption) | assumption)
                 obtain ⟨ad192,e192,hx192_0⟩:=Kd.at_int (Kd.R_reads' HO_3.out).2.2 x6_2 p192 q192
                 obtain rfl:ad190=ad192:=(by injection e192)
                 replace p192:=eq_true p192
                 replace q192:=eq_true q192
                 go_wp2
                 go_roundg k2
                 case measure=>have:=HK1.out;have:=HK2.out;omega
                 case rel=>exact ⟨(x30_2),(wrap64 (x30_2+1)),(by first | rfl | (simp;done) | (simp [*];done)),(by first | rfl | (simp;done) | (simp [*];done)),H',⟨by have:=HK1.out;have:=HK2.out;omega⟩,⟨by (with_reducible repeat (first | apply zz12 | apply zz13 | apply zz14));exact HO_3.out⟩,⟨by (with_reducible repeat (first | apply zz15 | apply zz16 | apply zz17));exact HO_4.out⟩,⟨by (with_reducible repeat (first | apply zz12 | apply zz13 | apply zz14));exact HO_5.out⟩,⟨by (with_reducible repeat (first | apply zz12 | apply zz13 | apply zz14));exact HO_28.out⟩,⟨by (with_reducible repeat (first | refine zz6 ?_ _ | refine zz7 ?_ | refine zz8 ?_ _));exact BK176.out⟩,⟨by repeat first | exact HB.out | apply zz2 | apply zz0 | apply zz1 | refine zz3 ?_ GE176.out⟩⟩
                ·rw [if_neg c24] at H
                 have c24b0:decide ((rd x3_1 x6_2) < (rd x3_1 x30_2))=false:=decide_eq_false c24
                 clear c24
                 have H':=zz31 H
                 clear H
                 have p190:0≤(x30_2:Int):=zz29 (by first | (with_reducible assumption) | assumption)
                 have q190:x30_2 < (x3_1.length:Int):=zz29 (by first | (with_reducible assumption) | assumption)
                 obtain ⟨ad190,e190,hx190_0⟩:=Kd.at_int (Kd.R_reads' HO_28.out).2.2 x30_2 p190 q190
                 cases e190
                 replace p190:=eq_true p190
                 replace q190:=eq_true q190
                 obtain ⟨Ao26,co26,eo26⟩:=Kd.R_slice HO_5.out
                 subst eo26
                 have p191:0≤(x30_2:Int):=zz29 (by first | (with_reducible assumption) | assumption)
                 have q191:x30_2 < (x5_1.length:Int):=zz29 (by first | (with_reducible assumption) | assumption)
                 obtain ⟨ad191,e191,hx191_0⟩:=Kd.at_bool (Kd.R_reads' HO_5.out).2.2 x30_2 p191 q191
                 (try rw [← Nbq17.out] at hx191_0)
                 cases e191
                 replace p191:=eq_true p191
                 replace q191:=eq_true q191
                 have p192:0≤(x6_2:Int):=zz29 (by first | (with_reducible assumption) | assumption)
                 have q192:x6_2 < (x3_1.length:Int):=zz29 (by first | (with_reducible assumption) | assumption)
                 obtain ⟨ad192,e192,hx192_0⟩:=Kd.at_int (Kd.R_reads' HO_3.out).2.2 x6_2 p192 q192
                 obtain rfl:ad190=ad192:=(by injection e192)
                 replace p192:=eq_true p192
                 replace q192:=eq_true q192
                 go_wp2
                 go_roundg k2
                 case measure=>have:=HK1.out;have:=HK2.out;omega
                 case rel=>exact ⟨(x6_2),(wrap64 (x30_2+1)),(by first | rfl | (simp;done) | (simp [*];done)),(by first | rfl | (simp;done) | (simp [*];done)),H',⟨by have:=HK1.out;have:=HK2.out;omega⟩,⟨by (with_reducible repeat (first | apply zz12 | apply zz13 | apply zz14));exact HO_3.out⟩,⟨by (with_reducible repeat (first | apply zz15 | apply zz16 | apply zz17));exact HO_4.out⟩,⟨by (with_reducible repeat (first | apply zz12 | apply zz13 | apply zz14));exact HO_5.out⟩,⟨by (with_reducible repeat (first | apply zz12 | apply zz13 | apply zz14));exact HO_28.out⟩,⟨by (with_reducible repeat (first | refine zz6 ?_ _ | refine zz7 ?_ | refine zz8 ?_ _));exact BK176.out⟩,⟨by repeat first | exact HB.out | apply zz2 | apply zz0 | apply zz1 | refine zz3 ?_ GE176.out⟩⟩
               ·rw [if_neg c23] at H
                exact absurd H (by simp)
              ·rw [if_neg c22] at H
               exact absurd H (by simp)
           ·rw [if_neg c16] at H
            exact absurd H (by simp)
          ·rw [if_neg c15] at H
           exact absurd H (by simp)
         ·rw [if_neg c14] at H
          exact absurd H (by simp)
        ·rw [if_neg c13] at H
         have c13b0:decide (x30_2 < (x3_1.length:Int))=false:=decide_eq_false c13
         clear c13
         by_cases c27:0≤x6_2
         ·rw [if_pos c27] at H
          have c27b0:decide (0≤x6_2)=true:=decide_eq_true c27
          clear c27
          by_cases c28:x6_2 < (x5_1.length:Int)
          ·rw [if_pos c28] at H
           have c28b0:decide (x6_2 < (x5_1.length:Int))=true:=decide_eq_true c28
           clear c28
           obtain ⟨y193,hy193⟩:∃ y_:List Bool,y_=(x5_1.set (x6_2:Int).toNat true):=⟨_,rfl⟩
           replace H:(if 0≤(l0.length:Int) then (if ((l0.length:Int):Int).toNat≤281474976710656 then (spec_deMake.l2 k2 l0 x3_1 x4_1 y193 x6_2 (List.replicate ((l0.length:Int):Int).toNat false) (l0.length:Int) x26_1) else (none)) else (none))=some (r1,r2):=by first | (rw [hy193];with_reducible exact H) | (have H2_:=(Option.bind_some _ _).symm.trans H;rw [hy193];with_reducible exact H2_) | (have H2_:=(Option.bind_some _ _).symm.trans H;with_reducible exact H2_) | with_reducible exact H | (rw [hy193];exact H) | exact H
           have Ny193:=zz31 hy193
           clear hy193
           by_cases c30:0≤(l0.length:Int)
           ·rw [if_pos c30] at H
            have c30b0:=eq_true c30
            have c30b1:decide (0≤(l0.length:Int))=true:=decide_eq_true c30
            clear c30
            by_cases c31:((l0.length:Int):Int).toNat≤281474976710656
            ·rw [if_pos c31] at H
             have c31b0:=eq_true c31
             have c31b1:decide (((l0.length:Int):Int).toNat≤281474976710656)=true:=decide_eq_true c31
             clear c31
             obtain ⟨y194,hy194⟩:∃ y_:List Bool,y_=(List.replicate ((l0.length:Int):Int).toNat false):=⟨_,rfl⟩
             replace H:(spec_deMake.l2 k2 l0 x3_1 x4_1 y193 x6_2 y194 (l0.length:Int) x26_1)=some (r1,r2):=by first | (rw [hy194];with_reducible exact H) | (have H2_:=(Option.bind_some _ _).symm.trans H;rw [hy194];with_reducible exact H2_) | (have H2_:=(Option.bind_some _ _).symm.trans H;with_reducible exact H2_) | with_reducible exact H | (rw [hy194];exact H) | exact H
             have Ny194:=zz31 hy194
             clear hy194
             have H':=zz31 H
             clear H
             have p29:0≤(x6_2:Int):=zz29 (by first | (with_reducible assumption) | assumption)
             have q29:(x6_2:Int) < ((x5_1.length:Int):Int):=zz29 (by first | (with_reducible assumption) | assumption)
             obtain ⟨go29,co29,eo29,gb29,gl29,cl29,HG29⟩:=Kd.R_form HO_5.out (by omega)
             (first | cases eo29 | (injection eo29 with ea_ en_ ec_;(first | subst ea_ | (injection ea_ with ea_;subst ea_));subst ec_;clear en_))
             have GB29:=zz31 gb29
             have GG29:=zz31 HG29
             clear gb29 gl29 HG29
             obtain ⟨hx29_0,hf29_0⟩:=Kd.R_celln false HO_5.out (x6_2:Int) p29 q29
             replace p29:=eq_true p29
             replace q29:=eq_true q29
             have HP32:=Kd.R_putg HO_5.out (x6_2:Int) true
             go_wp2_with (first | ((with_reducible refine gate_store (t:=4) (p:=56) rfl ?_);refine store_event (t:=4) (p:=56) (v:=?vo_w33) (w1:=(wr.setCell ⟨go29,(x6_2:Int).toNat,none⟩ (.bool true))) ?hg ?ho ?hn ?hr ?_;(case ho=>rfl);(case hg=>rfl);(case hn=>rfl);(case hr=>first | (go_simp;done) | (go_simp;rfl));intro w33 hw;have hg:wr.grownBy w33 (some go29):=(by rw [hw];exact HP32.2);have hp_:Kd.R Kd.bool 4 w33 w.heap.size (fun _=>True) (.slice (some ⟨go29,0,none⟩) x5_1.length co29) y193:=(by rw [hw,Ny193.out];exact HP32.1);clear HP32;have n0_:=zz31 (Kd.R_over' (v:=(.slice (some ⟨go29,0,none⟩) x5_1.length co29)) (by (with_reducible repeat (first | apply zz12 | apply zz13 | apply zz14));exact HO_3.out) (Kd.R_typed HO_5.out) (by decide) hg);have n1_:=zz31 (Kd.S_after (v:=(.slice (some ⟨go29,0,none⟩) x5_1.length co29)) (v1:=(.slice (some ⟨go29,0,none⟩) x5_1.length co29)) (ok:=(fun _=>True)) (by (with_reducible repeat (first | apply zz15 | apply zz16 | apply zz17));exact Kd.S_mono HO_4.out (fun _ hk=>⟨trivial,hk⟩)) hg (.inl rfl));have n2_:=zz31 (hp_);have n3_:=zz31 (Kd.R_over' (v:=(.slice (some ⟨go29,0,none⟩) x5_1.length co29)) (by (with_reducible repeat (first | apply zz12 | apply zz13 | apply zz14));exact HO_28.out) (Kd.R_typed HO_5.out) (by decide) hg);have n4_:=zz31 (blk_grown (g:=gb176) (o:=.cells #[.int .i64 0,.slice none 0 0] 32 (0,0)) (by (with_reducible repeat (first | refine zz6 ?_ _ | refine zz7 ?_ | refine zz8 ?_ _));exact BK176.out) hg (Kd.R_ne HO_5.out BK176.out (by decide)));have n5_:=zz31 ((by rw [hw];exact zz3 (HB.out) GB29.out:Below w.heap.size w w33));clear HO_3;clear HO_4;clear HO_5;clear HO_28;clear BK176;clear HB;have HO_3:=n0_;have HO_4:=n1_;have HO_5:=n2_;have HO_28:=n3_;have BK176:=n4_;have HB:=n5_;clear n0_ n1_ n2_ n3_ n4_ n5_;clear hg hw hp_) | ((with_reducible refine gate_dst (N:=59) rfl ?_);refine Kd.R_make Kd.bool _ 4 rfl (N:=59) rfl 60 _ _ rfl (l0.length:Int) rfl rfl Try.underlying60 (.bool false) 1 info4 rfl (by decide) (by omega) false (ok:=fun _=>True) (okp:=fun _=>True) rfl (fun _ hk=>hk) trivial (zz29 (by first | (with_reducible assumption) | assumption)) (Nat.le_trans (Nat.mul_le_mul_right _ (zz29 (by first | (with_reducible assumption) | assumption):(l0.length:Int).toNat≤281474976710656)) (by omega)) (Below.refl _ _) (Nat.le_refl _) ?_;intro v195 w34 ho35 hb hg_ hnew_;clear hg_ hnew_;(first | rw [← Ny194.out] at ho35 | (simp only [Int.reduceToNat] at ho35;rw [← Ny194.out] at ho35));have n0_:=zz31 (Kd.R_below (by (with_reducible repeat (first | apply zz12 | apply zz13 | apply zz14));exact HO_3.out) hb);have n1_:=zz31 (Kd.S_elder' (by (with_reducible repeat (first | apply zz15 | apply zz16 | apply zz17));exact HO_4.out) (Kd.R_base ho35) hb);have n2_:=zz31 (Kd.R_elder' (by (with_reducible repeat (first | apply zz12 | apply zz13 | apply zz14));exact HO_5.out) (Kd.R_base ho35) hb);have n3_:=zz31 (Kd.R_below (by (with_reducible repeat (first | apply zz12 | apply zz13 | apply zz14));exact HO_28.out) hb);have n4_:=zz31 (Kd.R_lower (Kd.R_new' ho35 (Kd.R_lt (by (with_reducible repeat (first | apply zz12 | apply zz13 | apply zz14));exact HO_5.out))) (zz5 (by repeat first | exact HB.out | apply zz2 | apply zz0 | apply zz1 | refine zz3 ?_ GE176.out)));have n5_:=zz31 (zz11 (g:=gb176) (o:=.cells #[.int .i64 0,.slice none 0 0] 32 (0,0)) (by (with_reducible repeat (first | refine zz6 ?_ _ | refine zz7 ?_ | refine zz8 ?_ _));exact BK176.out) hb);have n6_:=zz31 (zz4 (by repeat first | exact HB.out | apply zz2 | apply zz0 | apply zz1 | refine zz3 ?_ GE176.out) hb);clear HO_3;clear HO_4;clear HO_5;clear HO_28;clear BK176;clear HB;have HO_3:=n0_;have HO_4:=n1_;have HO_5:=n2_;have HO_28:=n3_;have HO196:=n4_;have BK176:=n5_;have HB:=n6_;clear n0_ n1_ n2_ n3_ n4_ n5_ n6_;clear hb ho35))
             go_loopg [] k2 (fun kq w'=>∃ (x3_3:List Int) (x4_3:List (List Bool)) (x5_3:List Bool) (x9_3:List Bool),Aside0 (spec_deMake.l2 kq l0 x3_3 x4_3 x5_3 x6_2 x9_3 (l0.length:Int) x26_1=some (r1,r2))∧Aside0 (kq≤k2)∧Aside0 (Kd.R (Kd.int .i64) 3 w' w.heap.size (fun _=>True) (.slice Ao12 x3_1.length co12) x3_3)∧Aside0 (Kd.S (Kd.slice 4 Kd.bool) 60 w' w.heap.size (fun k_=>some k_ ≠ ((.slice (some ⟨go29,0,none⟩) x5_1.length co29):Value).ownBlock∧some k_ ≠ (v195:Value).ownBlock) v181 x4_3)∧Aside0 (Kd.R Kd.bool 4 w' w.heap.size (fun k_=>some k_ ≠ (v195:Value).ownBlock) (.slice (some ⟨go29,0,none⟩) x5_1.length co29) x5_3)∧Aside0 (Kd.R Kd.bool 4 w' w.heap.size (fun k_=>some k_ ≠ ((.slice (some ⟨go29,0,none⟩) x5_1.length co29):Value).ownBlock) v195 x9_3)∧Aside0 (w'.heap[gb176]?=some (.cells #[.int .i64 0,(.slice none 0 0)] 32 (0,0)))∧Aside0 (Below w.heap.size w w'))
             case atStart=>exact ⟨(x3_1),(x4_1),(y193),(y194),H',⟨Nat.le_refl _⟩,⟨by (with_reducible repeat (first | apply zz12 | apply zz13 | apply zz14));exact HO_3.out⟩,⟨by (with_reducible repeat (first | apply zz15 | apply zz16 | apply zz17));exact Kd.S_mono HO_4.out (fun _ hk=>⟨hk.1.2,hk.2⟩)⟩,⟨by (with_reducible repeat (first | apply zz12 | apply zz13 | apply zz14));exact Kd.R_mono HO_5.out (fun _ hk=>hk.2)⟩,⟨by (with_reducible repeat (first | apply zz12 | apply zz13 | apply zz14));exact Kd.R_mono HO196.out (fun _ hk=>hk.2)⟩,⟨by (with_reducible repeat (first | refine zz6 ?_ _ | refine zz7 ?_ | refine zz8 ?_ _));exact BK176.out⟩,⟨by repeat first | exact HB.out | apply zz2 | apply zz0 | apply zz1 | refine zz3 ?_ GE176.out⟩⟩
             case round =>
              clear H'
              try clear c1
              try clear p1
              try clear q1
              try clear hx1
              try clear c2
              try clear p2
              try clear q2
              try clear hx2
              try clear hf2
              try clear c3
              try clear c4
              try clear c4b0
              try clear c4b1
              try clear c5
              try clear c5b0
              try clear c5b1
              try clear c6
              try clear p6
              try clear c8
              try clear c11
              try clear c11b0
              try clear c13
              try clear c13b0
              try clear c14
              try clear c14b0
              try clear c15
              try clear c15b0
              try clear c16
              try clear c16b0
              try clear q17
              try clear c18
              try clear p19
              try clear q19
              try clear hx19
              try clear c20
              try clear c20b0
              try clear c22
              try clear c22b0
              try clear c23
              try clear c23b0
              try clear c24
              try clear c24b0
              try clear c27
              try clear c27b0
              try clear c28
              try clear c28b0
              try clear p29
              try clear q29
              try clear hx29
              try clear hf29
              try clear c30
              try clear c30b0
              try clear c30b1
              try clear c31
              try clear c31b0
              try clear c31b1
              try clear hx190_0
              try clear hx191_0
              try clear hx192_0
              try clear hx29_0
              try clear p190
              try clear p191
              try clear p192
              try clear p2
              try clear p29
              try clear q190
              try clear q191
              try clear q192
              try clear q29
              obtain ⟨x3_3,x4_3,x5_3,x9_3,HA,HK3,HO_3,HO_4,HO_5,HO_9,BK176,HB⟩:=hrel
              have hl3_3:=(Kd.R_reads' HO_3.out).1
              rw [hl3_3] at HO_3
              (try simp only [hl3_3])
              (try simp only [hl3_3] at BK176)
              (try simp only [hl3_3] at HO_4)
              (try simp only [hl3_3] at HO_5)
              (try simp only [hl3_3] at HO_9)
              have hl5_3:=(Kd.R_reads' HO_5.out).1
              rw [hl5_3] at HO_5
              (try simp only [hl5_3])
              (try simp only [hl5_3] at BK176)
              (try simp only [hl5_3] at HO_3)
              (try simp only [hl5_3] at HO_4)
              (try simp only [hl5_3] at HO_9)
              cases gk with
              | zero=>exact absurd HA.out (by simp [spec_deMake.l2])
              | succ k3 =>
               have H:=HA.out
               clear HA
               simp only [spec_deMake.l2] at H
               by_cases c36:0≤x6_2
               ·rw [if_pos c36] at H
                have c36b0:decide (0≤x6_2)=true:=decide_eq_true c36
                clear c36
                by_cases c37:x6_2 < (x3_3.length:Int)
                ·rw [if_pos c37] at H
                 have c37b0:decide (x6_2 < (x3_3.length:Int))=true:=decide_eq_true c37
                 (try simp only [hl3_3] at c37b0)
                 (try simp only [hl5_3] at c37b0)
                 clear c37
                 by_cases c38:(rd x3_3 x6_2) > 0
                 ·rw [if_pos c38] at H
                  have c38b0:decide (0 < (rd x3_3 x6_2))=true:=decide_eq_true c38
                  clear c38
                  have H':=zz31 H
                  clear H
                  have p197:0≤(x6_2:Int):=zz29 (by first | (with_reducible assumption) | assumption)
                  have q197:x6_2 < (x3_3.length:Int):=zz29 (by first | (with_reducible assumption) | assumption)
                  obtain ⟨ad197,e197,hx197_0⟩:=Kd.at_int (Kd.R_reads' HO_3.out).2.2 x6_2 p197 q197
                  cases e197
                  replace p197:=eq_true p197
                  replace q197:=eq_true q197
                  go_wp2
                  go_loopg [10,73] k3 (fun kq v10 v73 w'=>∃ (x10_4:Int) (x73_4:Int),v10=.int .i64 x10_4∧v73=.int .i64 x73_4∧Aside0 (spec_deMake.l3 kq l0 x3_3 x4_3 x5_3 x6_2 x9_3 x10_4 (l0.length:Int) x26_1 x3_3 (x3_3.length:Int) x73_4=some (r1,r2))∧Aside0 (kq≤k3)∧Aside0 (Kd.R (Kd.int .i64) 3 w' w.heap.size (fun _=>True) (.slice (some ad197) x3_3.length co12) x3_3)∧Aside0 (Kd.S (Kd.slice 4 Kd.bool) 60 w' w.heap.size (fun k_=>some k_ ≠ ((.slice (some ⟨go29,0,none⟩) x5_3.length co29):Value).ownBlock∧some k_ ≠ (v195:Value).ownBlock) v181 x4_3)∧Aside0 (Kd.R Kd.bool 4 w' w.heap.size (fun k_=>some k_ ≠ (v195:Value).ownBlock) (.slice (some ⟨go29,0,none⟩) x5_3.length co29) x5_3)∧Aside0 (Kd.R Kd.bool 4 w' w.heap.size (fun k_=>some k_ ≠ ((.slice (some ⟨go29,0,none⟩) x5_3.length co29):Value).ownBlock) v195 x9_3)∧Aside0 (Kd.R (Kd.int .i64) 3 w' w.heap.size (fun _=>True) (.slice (some ad197) x3_3.length co12) x3_3)∧Aside0 (w'.heap[gb176]?=some (.cells #[.int .i64 0,(.slice none 0 0)] 32 (0,0)))∧Aside0 (Below w.heap.size w w'))
                  case atStart=>exact ⟨((-1)),(0),(by first | rfl | (simp;done) | (simp [*];done)),(by first | rfl | (simp;done) | (simp [*];done)),H',⟨Nat.le_refl _⟩,⟨by (try simp only [hl3_3]);(try simp only [hl5_3]);(with_reducible repeat (first | apply zz12 | apply zz13 | apply zz14));exact HO_3.out⟩,⟨by (try simp only [hl3_3]);(try simp only [hl5_3]);(with_reducible repeat (first | apply zz15 | apply zz16 | apply zz17));exact HO_4.out⟩,⟨by (try simp only [hl3_3]);(try simp only [hl5_3]);(with_reducible repeat (first | apply zz12 | apply zz13 | apply zz14));exact HO_5.out⟩,⟨by (try simp only [hl3_3]);(try simp only [hl5_3]);(with_reducible repeat (first | apply zz12 | apply zz13 | apply zz14));exact HO_9.out⟩,⟨by (try simp only [hl3_3]);(try simp only [hl5_3]);(with_reducible repeat (first | apply zz12 | apply zz13 | apply zz14));exact HO_3.out⟩,⟨by (try simp only [hl3_3]);(try simp only [hl5_3]);(with_reducible repeat (first | refine zz6 ?_ _ | refine zz7 ?_ | refine zz8 ?_ _));exact BK176.out⟩,⟨by repeat first | exact HB.out | apply zz2 | apply zz0 | apply zz1 | refine zz3 ?_ GE176.out⟩⟩
                  case round =>
                   clear H'
                   try clear c1
                   try clear p1
                   try clear q1
                   try clear hx1
                   try clear c2
                   try clear p2
                   try clear q2
                   try clear hx2
                   try clear hf2
                   try clear c3
                   try clear c4
                   try clear c4b0
                   try clear c4b1
                   try clear c5
                   try clear c5b0
                   try clear c5b1
                   try clear c6
                   try clear p6
                   try clear c8
                   try clear c11
                   try clear c11b0
                   try clear c13
                   try clear c13b0
                   try clear c14
                   try clear c14b0
                   try clear c15
                   try clear c15b0
                   try clear c16
                   try clear c16b0
                   try clear q17
                   try clear c18
                   try clear p19
                   try clear q19
                   try clear hx19
                   try clear c20
                   try clear c20b0
                   try clear c22
                   try clear c22b0
                   try clear c23
                   try clear c23b0
                   try clear c24
                   try clear c24b0
                   try clear c27
                   try clear c27b0
                   try clear c28
                   try clear c28b0
                   try clear p29
                   try clear q29
                   try clear hx29
                   try clear hf29
                   try clear c30
                   try clear c30b0
                   try clear c30b1
                   try clear c31
                   try clear c31b0
                   try clear c31b1
                   try clear c36
                   try clear c36b0
                   try clear c37
                   try clear c37b0
                   try clear c38
                   try clear c38b0
                   try clear hx190_0
                   try clear hx191_0
                   try clear hx192_0
                   try clear hx197_0
                   try clear hx29_0
                   try clear p1
                   try clear p19
                   try clear p190
                   try clear p191
                   try clear p192
                   try clear p197
                   try clear p2
                   try clear p29
                   try clear p6
                   try clear q1
                   try clear q17
                   try clear q19
                   try clear q190
                   try clear q191
                   try clear q192
                   try clear q197
                   try clear q2
                   try clear q29
                   obtain ⟨x10_4,x73_4,rfl,rfl,HA,HK4,HO_3,HO_4,HO_5,HO_9,HO_71,BK176,HB⟩:=hrel
                   cases gk with
                   | zero=>exact absurd HA.out (by simp [spec_deMake.l3])
                   | succ k4 =>
                    have H:=HA.out
                    clear HA
                    simp only [spec_deMake.l3] at H
                    by_cases c39:x73_4 < (x3_3.length:Int)
                    ·rw [if_pos c39] at H
                     have c39b0:decide (x73_4 < (x3_3.length:Int))=true:=decide_eq_true c39
                     (try simp only [hl3_3] at c39b0)
                     (try simp only [hl5_3] at c39b0)
                     clear c39
                     by_cases c40:0≤x73_4
                     ·rw [if_pos c40] at H
                      have c40b0:decide (0≤x73_4)=true:=decide_eq_true c40
                      clear c40
                      by_cases c41:x73_4 < (x3_3.length:Int)
                      ·rw [if_pos c41] at H
                       have c41b0:decide (x73_4 < (x3_3.length:Int))=true:=decide_eq_true c41
                       (try simp only [hl3_3] at c41b0)
                       (try simp only [hl5_3] at c41b0)
                       clear c41
                       by_cases c42:x73_4 < (x5_3.length:Int)
                       ·rw [if_pos c42] at H
                        have c42b0:decide (x73_4 < (x5_3.length:Int))=true:=decide_eq_true c42
                        (try simp only [hl3_3] at c42b0)
                        (try simp only [hl5_3] at c42b0)
                        clear c42
                        obtain ⟨bq43,hbq43⟩:∃ b_:Bool,b_=(rdOf false x5_3 x73_4):=⟨_,rfl⟩
                        replace H:(if bq43=true then (spec_deMake.l3 k4 l0 x3_3 x4_3 x5_3 x6_2 x9_3 x10_4 (l0.length:Int) x26_1 x3_3 (x3_3.length:Int) (wrap64 (x73_4+1))) else (if x73_4 < (x9_3.length:Int) then (if rdOf false x9_3 x73_4=true then (spec_deMake.l3 k4 l0 x3_3 x4_3 x5_3 x6_2 x9_3 x10_4 (l0.length:Int) x26_1 x3_3 (x3_3.length:Int) (wrap64 (x73_4+1))) else (if x10_4 < 0 then (spec_deMake.l3 k4 l0 x3_3 x4_3 x5_3 x6_2 x9_3 x73_4 (l0.length:Int) x26_1 x3_3 (x3_3.length:Int) (wrap64 (x73_4+1))) else (if 0≤x10_4 then (if x10_4 < (x3_3.length:Int) then (if (rd x3_3 x73_4) > (rd x3_3 x10_4) then (spec_deMake.l3 k4 l0 x3_3 x4_3 x5_3 x6_2 x9_3 x73_4 (l0.length:Int) x26_1 x3_3 (x3_3.length:Int) (wrap64 (x73_4+1))) else (spec_deMake.l3 k4 l0 x3_3 x4_3 x5_3 x6_2 x9_3 x10_4 (l0.length:Int) x26_1 x3_3 (x3_3.length:Int) (wrap64 (x73_4+1)))) else (none)) else (none)))) else (none)))=some (r1,r2):=by rw [← hbq43] at H;exact H
                        have Nbq43:=zz31 hbq43
                        clear hbq43
                        by_cases c44:bq43=true
                        ·subst c44
                         have H1:(spec_deMake.l3 k4 l0 x3_3 x4_3 x5_3 x6_2 x9_3 x10_4 (l0.length:Int) x26_1 x3_3 (x3_3.length:Int) (wrap64 (x73_4+1)))=some (r1,r2):=by rw [if_pos rfl] at H;exact H
                         clear H
                         have H:=H1
                         clear H1
                         have H':=zz31 H
                         clear H
                         have p198:0≤(x73_4:Int):=zz29 (by first | (with_reducible assumption) | assumption)
                         have q198:x73_4 < (x3_3.length:Int):=zz29 (by first | (with_reducible assumption) | assumption)
                         obtain ⟨ad198,e198,hx198_0⟩:=Kd.at_int (Kd.R_reads' HO_71.out).2.2 x73_4 p198 q198
                         obtain rfl:ad197=ad198:=(by injection e198)
                         replace p198:=eq_true p198
                         replace q198:=eq_true q198
                         have p199:0≤(x73_4:Int):=zz29 (by first | (with_reducible assumption) | assumption)
                         have q199:x73_4 < (x5_3.length:Int):=zz29 (by first | (with_reducible assumption) | assumption)
                         obtain ⟨ad199,e199,hx199_0⟩:=Kd.at_bool (Kd.R_reads' HO_5.out).2.2 x73_4 p199 q199
                         (try rw [← Nbq43.out] at hx199_0)
                         obtain rfl:(⟨go29,0,none⟩:Addr)=ad199:=(by injection e199)
                         (first | simp only [add_plain] at hx199_0 | simp only [add_at] at hx199_0 | simp only [Addr.add,Nat.zero_add] at hx199_0 | skip)
                         replace p199:=eq_true p199
                         replace q199:=eq_true q199
                         go_wp2
                         go_roundg k4
                         case measure=>have:=HK1.out;have:=HK2.out;have:=HK3.out;have:=HK4.out;omega
                         case rel=>exact ⟨(x10_4),(wrap64 (x73_4+1)),(by first | rfl | (simp;done) | (simp [*];done)),(by first | rfl | (simp;done) | (simp [*];done)),H',⟨by have:=HK1.out;have:=HK2.out;have:=HK3.out;have:=HK4.out;omega⟩,⟨by (try simp only [hl3_3]);(try simp only [hl5_3]);(with_reducible repeat (first | apply zz12 | apply zz13 | apply zz14));exact HO_3.out⟩,⟨by (try simp only [hl3_3]);(try simp only [hl5_3]);(with_reducible repeat (first | apply zz15 | apply zz16 | apply zz17));exact HO_4.out⟩,⟨by (try simp only [hl3_3]);(try simp only [hl5_3]);(with_reducible repeat (first | apply zz12 | apply zz13 | apply zz14));exact HO_5.out⟩,⟨by (try simp only [hl3_3]);(try simp only [hl5_3]);(with_reducible repeat (first | apply zz12 | apply zz13 | apply zz14));exact HO_9.out⟩,⟨by (try simp only [hl3_3]);(try simp only [hl5_3]);(with_reducible repeat (first | apply zz12 | apply zz13 | apply zz14));exact HO_71.out⟩,⟨by (try simp only [hl3_3]);(try simp only [hl5_3]);(with_reducible repeat (first | refine zz6 ?_ _ | refine zz7 ?_ | refine zz8 ?_ _));exact BK176.out⟩,⟨by repeat first | exact HB.out | apply zz2 | apply zz0 | apply zz1 | refine zz3 ?_ GE176.out⟩⟩
                        ·replace c44:=Bool.eq_false_iff.mpr c44
                         subst c44
                         have H1:(if x73_4 < (x9_3.length:Int) then (if rdOf false x9_3 x73_4=true then (spec_deMake.l3 k4 l0 x3_3 x4_3 x5_3 x6_2 x9_3 x10_4 (l0.length:Int) x26_1 x3_3 (x3_3.length:Int) (wrap64 (x73_4+1))) else (if x10_4 < 0 then (spec_deMake.l3 k4 l0 x3_3 x4_3 x5_3 x6_2 x9_3 x73_4 (l0.length:Int) x26_1 x3_3 (x3_3.length:Int) (wrap64 (x73_4+1))) else (if 0≤x10_4 then (if x10_4 < (x3_3.length:Int) then (if (rd x3_3 x73_4) > (rd x3_3 x10_4) then (spec_deMake.l3 k4 l0 x3_3 x4_3 x5_3 x6_2 x9_3 x73_4 (l0.length:Int) x26_1 x3_3 (x3_3.length:Int) (wrap64 (x73_4+1))) else (spec_deMake.l3 k4 l0 x3_3 x4_3 x5_3 x6_2 x9_3 x10_4 (l0.length:Int) x26_1 x3_3 (x3_3.length:Int) (wrap64 (x73_4+1)))) else (none)) else (none)))) else (none))=some (r1,r2):=by rw [if_neg (show ¬ (false=true) by decide)] at H;exact H
                         clear H
                         have H:=H1
                         clear H1
                         by_cases c45:x73_4 < (x9_3.length:Int)
                         ·rw [if_pos c45] at H
                          have c45b0:decide (x73_4 < (x9_3.length:Int))=true:=decide_eq_true c45
                          (try simp only [hl3_3] at c45b0)
                          (try simp only [hl5_3] at c45b0)
                          clear c45
                          obtain ⟨bq46,hbq46⟩:∃ b_:Bool,b_=(rdOf false x9_3 x73_4):=⟨_,rfl⟩
                          replace H:(if bq46=true then (spec_deMake.l3 k4 l0 x3_3 x4_3 x5_3 x6_2 x9_3 x10_4 (l0.length:Int) x26_1 x3_3 (x3_3.length:Int) (wrap64 (x73_4+1))) else (if x10_4 < 0 then (spec_deMake.l3 k4 l0 x3_3 x4_3 x5_3 x6_2 x9_3 x73_4 (l0.length:Int) x26_1 x3_3 (x3_3.length:Int) (wrap64 (x73_4+1))) else (if 0≤x10_4 then (if x10_4 < (x3_3.length:Int) then (if (rd x3_3 x73_4) > (rd x3_3 x10_4) then (spec_deMake.l3 k4 l0 x3_3 x4_3 x5_3 x6_2 x9_3 x73_4 (l0.length:Int) x26_1 x3_3 (x3_3.length:Int) (wrap64 (x73_4+1))) else (spec_deMake.l3 k4 l0 x3_3 x4_3 x5_3 x6_2 x9_3 x10_4 (l0.length:Int) x26_1 x3_3 (x3_3.length:Int) (wrap64 (x73_4+1)))) else (none)) else (none))))=some (r1,r2):=by rw [← hbq46] at H;exact H
                          have Nbq46:=zz31 hbq46
                          clear hbq46
                          by_cases c47:bq46=true
                          ·subst c47
                           have H1:(spec_deMake.l3 k4 l0 x3_3 x4_3 x5_3 x6_2 x9_3 x10_4 (l0.length:Int) x26_1 x3_3 (x3_3.length:Int) (wrap64 (x73_4+1)))=some (r1,r2):=by rw [if_pos rfl] at H;exact H
                           clear H
                           have H:=H1
                           clear H1
                           have H':=zz31 H
                           clear H
                           have p198:0≤(x73_4:Int):=zz29 (by first | (with_reducible assumption) | assumption)
                           have q198:x73_4 < (x3_3.length:Int):=zz29 (by first | (with_reducible assumption) | assumption)
                           obtain ⟨ad198,e198,hx198_0⟩:=Kd.at_int (Kd.R_reads' HO_71.out).2.2 x73_4 p198 q198
                           obtain rfl:ad197=ad198:=(by injection e198)
                           replace p198:=eq_true p198
                           replace q198:=eq_true q198
                           have p199:0≤(x73_4:Int):=zz29 (by first | (with_reducible assumption) | assumption)
                           have q199:x73_4 < (x5_3.length:Int):=zz29 (by first | (with_reducible assumption) | assumption)
                           obtain ⟨ad199,e199,hx199_0⟩:=Kd.at_bool (Kd.R_reads' HO_5.out).2.2 x73_4 p199 q199
                           (try rw [← Nbq43.out] at hx199_0)
                           (try rw [← Nbq46.out] at hx199_0)
                           obtain rfl:(⟨go29,0,none⟩:Addr)=ad199:=(by injection e199)
                           (first | simp only [add_plain] at hx199_0 | simp only [add_at] at hx199_0 | simp only [Addr.add,Nat.zero_add] at hx199_0 | skip)
                           replace p199:=eq_true p199
                           replace q199:=eq_true q199
                           obtain ⟨Ao48,co48,eo48⟩:=Kd.R_slice HO_9.out
                           subst eo48
                           have p200:0≤(x73_4:Int):=zz29 (by first | (with_reducible assumption) | assumption)
                           have q200:x73_4 < (x9_3.length:Int):=zz29 (by first | (with_reducible assumption) | assumption)
                           obtain ⟨ad200,e200,hx200_0⟩:=Kd.at_bool (Kd.R_reads' HO_9.out).2.2 x73_4 p200 q200
                           (try rw [← Nbq43.out] at hx200_0)
                           (try rw [← Nbq46.out] at hx200_0)
                           cases e200
                           replace p200:=eq_true p200
                           replace q200:=eq_true q200
                           go_wp2
                           go_roundg k4
                           case measure=>have:=HK1.out;have:=HK2.out;have:=HK3.out;have:=HK4.out;omega
                           case rel=>exact ⟨(x10_4),(wrap64 (x73_4+1)),(by first | rfl | (simp;done) | (simp [*];done)),(by first | rfl | (simp;done) | (simp [*];done)),H',⟨by have:=HK1.out;have:=HK2.out;have:=HK3.out;have:=HK4.out;omega⟩,⟨by (try simp only [hl3_3]);(try simp only [hl5_3]);(with_reducible repeat (first | apply zz12 | apply zz13 | apply zz14));exact HO_3.out⟩,⟨by (try simp only [hl3_3]);(try simp only [hl5_3]);(with_reducible repeat (first | apply zz15 | apply zz16 | apply zz17));exact HO_4.out⟩,⟨by (try simp only [hl3_3]);(try simp only [hl5_3]);(with_reducible repeat (first | apply zz12 | apply zz13 | apply zz14));exact HO_5.out⟩,⟨by (try simp only [hl3_3]);(try simp only [hl5_3]);(with_reducible repeat (first | apply zz12 | apply zz13 | apply zz14));exact HO_9.out⟩,⟨by (try simp only [hl3_3]);(try simp only [hl5_3]);(with_reducible repeat (first | apply zz12 | apply zz13 | apply zz14));exact HO_71.out⟩,⟨by (try simp only [hl3_3]);(try simp only [hl5_3]);(with_reducible repeat (first | refine zz6 ?_ _ | refine zz7 ?_ | refine zz8 ?_ _));exact BK176.out⟩,⟨by repeat first | exact HB.out | apply zz2 | apply zz0 | apply zz1 | refine zz3 ?_ GE176.out⟩⟩
                          ·replace c47:=Bool.eq_false_iff.mpr c47
                           subst c47
                           have H1:(if x10_4 < 0 then (spec_deMake.l3 k4 l0 x3_3 x4_3 x5_3 x6_2 x9_3 x73_4 (l0.length:Int) x26_1 x3_3 (x3_3.length:Int) (wrap64 (x73_4+1))) else (if 0≤x10_4 then (if x10_4 < (x3_3.length:Int) then (if (rd x3_3 x73_4) > (rd x3_3 x10_4) then (spec_deMake.l3 k4 l0 x3_3 x4_3 x5_3 x6_2 x9_3 x73_4 (l0.length:Int) x26_1 x3_3 (x3_3.length:Int) (wrap64 (x73_4+1))) else (spec_deMake.l3 k4 l0 x3_3 x4_3 x5_3 x6_2 x9_3 x10_4 (l0.length:Int) x26_1 x3_3 (x3_3.length:Int) (wrap64 (x73_4+1)))) else (none)) else (none)))=some (r1,r2):=by rw [if_neg (show ¬ (false=true) by decide)] at H;exact H
                           clear H
                           have H:=H1
                           clear H1
                           by_cases c49:x10_4 < 0
                           ·rw [if_pos c49] at H
                            have c49b0:decide (x10_4 < 0)=true:=decide_eq_true c49
                            clear c49
                            have H':=zz31 H
                            clear H
                            have p198:0≤(x73_4:Int):=zz29 (by first | (with_reducible assumption) | assumption)
                            have q198:x73_4 < (x3_3.length:Int):=zz29 (by first | (with_reducible assumption) | assumption)
                            obtain ⟨ad198,e198,hx198_0⟩:=Kd.at_int (Kd.R_reads' HO_71.out).2.2 x73_4 p198 q198
                            obtain rfl:ad197=ad198:=(by injection e198)
                            replace p198:=eq_true p198
                            replace q198:=eq_true q198
                            have p199:0≤(x73_4:Int):=zz29 (by first | (with_reducible assumption) | assumption)
                            have q199:x73_4 < (x5_3.length:Int):=zz29 (by first | (with_reducible assumption) | assumption)
                            obtain ⟨ad199,e199,hx199_0⟩:=Kd.at_bool (Kd.R_reads' HO_5.out).2.2 x73_4 p199 q199
                            (try rw [← Nbq43.out] at hx199_0)
                            (try rw [← Nbq46.out] at hx199_0)
                            obtain rfl:(⟨go29,0,none⟩:Addr)=ad199:=(by injection e199)
                            (first | simp only [add_plain] at hx199_0 | simp only [add_at] at hx199_0 | simp only [Addr.add,Nat.zero_add] at hx199_0 | skip)
                            replace p199:=eq_true p199
                            replace q199:=eq_true q199
                            obtain ⟨Ao50,co50,eo50⟩:=Kd.R_slice HO_9.out
                            subst eo50
                            have p200:0≤(x73_4:Int):=zz29 (by first | (with_reducible assumption) | assumption)
                            have q200:x73_4 < (x9_3.length:Int):=zz29 (by first | (with_reducible assumption) | assumption)
                            obtain ⟨ad200,e200,hx200_0⟩:=Kd.at_bool (Kd.R_reads' HO_9.out).2.2 x73_4 p200 q200
                            (try rw [← Nbq43.out] at hx200_0)
                            (try rw [← Nbq46.out] at hx200_0)
                            cases e200
                            replace p200:=eq_true p200
                            replace q200:=eq_true q200
                            go_wp2
                            go_roundg k4
                            case measure=>have:=HK1.out;have:=HK2.out;have:=HK3.out;have:=HK4.out;omega
                            case rel=>exact ⟨(x73_4),(wrap64 (x73_4+1)),(by first | rfl | (simp;done) | (simp [*];done)),(by first | rfl | (simp;done) | (simp [*];done)),H',⟨by have:=HK1.out;have:=HK2.out;have:=HK3.out;have:=HK4.out;omega⟩,⟨by (try simp only [hl3_3]);(try simp only [hl5_3]);(with_reducible repeat (first | apply zz12 | apply zz13 | apply zz14));exact HO_3.out⟩,⟨by (try simp only [hl3_3]);(try simp only [hl5_3]);(with_reducible repeat (first | apply zz15 | apply zz16 | apply zz17));exact HO_4.out⟩,⟨by (try simp only [hl3_3]);(try simp only [hl5_3]);(with_reducible repeat (first | apply zz12 | apply zz13 | apply zz14));exact HO_5.out⟩,⟨by (try simp only [hl3_3]);(try simp only [hl5_3]);(with_reducible repeat (first | apply zz12 | apply zz13 | apply zz14));exact HO_9.out⟩,⟨by (try simp only [hl3_3]);(try simp only [hl5_3]);(with_reducible repeat (first | apply zz12 | apply zz13 | apply zz14));exact HO_71.out⟩,⟨by (try simp only [hl3_3]);(try simp only [hl5_3]);(with_reducible repeat (first | refine zz6 ?_ _ | refine zz7 ?_ | refine zz8 ?_ _));exact BK176.out⟩,⟨by repeat first | exact HB.out | apply zz2 | apply zz0 | apply zz1 | refine zz3 ?_ GE176.out⟩⟩
                           ·rw [if_neg c49] at H
                            have c49b0:decide (x10_4 < 0)=false:=decide_eq_false c49
                            clear c49
                            by_cases c51:0≤x10_4
                            ·rw [if_pos c51] at H
                             have c51b0:decide (0≤x10_4)=true:=decide_eq_true c51
                             clear c51
                             by_cases c52:x10_4 < (x3_3.length:Int)
                             ·rw [if_pos c52] at H
                              have c52b0:decide (x10_4 < (x3_3.length:Int))=true:=decide_eq_true c52
                              (try simp only [hl3_3] at c52b0)
                              (try simp only [hl5_3] at c52b0)
                              clear c52
                              by_cases c53:(rd x3_3 x73_4) > (rd x3_3 x10_4)
                              ·rw [if_pos c53] at H
                               have c53b0:decide ((rd x3_3 x10_4) < (rd x3_3 x73_4))=true:=decide_eq_true c53
                               clear c53
                               have H':=zz31 H
                               clear H
                               have p198:0≤(x73_4:Int):=zz29 (by first | (with_reducible assumption) | assumption)
                               have q198:x73_4 < (x3_3.length:Int):=zz29 (by first | (with_reducible assumption) | assumption)
                               obtain ⟨ad198,e198,hx198_0⟩:=Kd.at_int (Kd.R_reads' HO_71.out).2.2 x73_4 p198 q198
                               obtain rfl:ad197=ad198:=(by injection e198)
                               replace p198:=eq_true p198
                               replace q198:=eq_true q198
                               have p199:0≤(x73_4:Int):=zz29 (by first | (with_reducible assumption) | assumption)
                               have q199:x73_4 < (x5_3.length:Int):=zz29 (by first | (with_reducible assumption) | assumption)
                               obtain ⟨ad199,e199,hx199_0⟩:=Kd.at_bool (Kd.R_reads' HO_5.out).2.2 x73_4 p199 q199
                               (try rw [← Nbq43.out] at hx199_0)
                               (try rw [← Nbq46.out] at hx199_0)
                               obtain rfl:(⟨go29,0,none⟩:Addr)=ad199:=(by injection e199)
                               (first | simp only [add_plain] at hx199_0 | simp only [add_at] at hx199_0 | simp only [Addr.add,Nat.zero_add] at hx199_0 | skip)
                               replace p199:=eq_true p199
                               replace q199:=eq_true q199
                               obtain ⟨Ao54,co54,eo54⟩:=Kd.R_slice HO_9.out
                               subst eo54
                               have p200:0≤(x73_4:Int):=zz29 (by first | (with_reducible assumption) | assumption)
                               have q200:x73_4 < (x9_3.length:Int):=zz29 (by first | (with_reducible assumption) | assumption)
                               obtain ⟨ad200,e200,hx200_0⟩:=Kd.at_bool (Kd.R_reads' HO_9.out).2.2 x73_4 p200 q200
                               (try rw [← Nbq43.out] at hx200_0)
                               (try rw [← Nbq46.out] at hx200_0)
                               cases e200
                               replace p200:=eq_true p200
                               replace q200:=eq_true q200
                               have p201:0≤(x10_4:Int):=zz29 (by first | (with_reducible assumption) | assumption)
                               have q201:x10_4 < (x3_3.length:Int):=zz29 (by first | (with_reducible assumption) | assumption)
                               obtain ⟨ad201,e201,hx201_0⟩:=Kd.at_int (Kd.R_reads' HO_3.out).2.2 x10_4 p201 q201
                               obtain rfl:ad197=ad201:=(by injection e201)
                               replace p201:=eq_true p201
                               replace q201:=eq_true q201
                               go_wp2
                               go_roundg k4
                               case measure=>have:=HK1.out;have:=HK2.out;have:=HK3.out;have:=HK4.out;omega
                               case rel=>exact ⟨(x73_4),(wrap64 (x73_4+1)),(by first | rfl | (simp;done) | (simp [*];done)),(by first | rfl | (simp;done) | (simp [*];done)),H',⟨by have:=HK1.out;have:=HK2.out;have:=HK3.out;have:=HK4.out;omega⟩,⟨by (try simp only [hl3_3]);(try simp only [hl5_3]);(with_reducible repeat (first | apply zz12 | apply zz13 | apply zz14));exact HO_3.out⟩,⟨by (try simp only [hl3_3]);(try simp only [hl5_3]);(with_reducible repeat (first | apply zz15 | apply zz16 | apply zz17));exact HO_4.out⟩,⟨by (try simp only [hl3_3]);(try simp only [hl5_3]);(with_reducible repeat (first | apply zz12 | apply zz13 | apply zz14));exact HO_5.out⟩,⟨by (try simp only [hl3_3]);(try simp only [hl5_3]);(with_reducible repeat (first | apply zz12 | apply zz13 | apply zz14));exact HO_9.out⟩,⟨by (try simp only [hl3_3]);(try simp only [hl5_3]);(with_reducible repeat (first | apply zz12 | apply zz13 | apply zz14));exact HO_71.out⟩,⟨by (try simp only [hl3_3]);(try simp only [hl5_3]);(with_reducible repeat (first | refine zz6 ?_ _ | refine zz7 ?_ | refine zz8 ?_ _));exact BK176.out⟩,⟨by repeat first | exact HB.out | apply zz2 | apply zz0 | apply zz1 | refine zz3 ?_ GE176.out⟩⟩
                              ·rw [if_neg c53] at H
                               have c53b0:decide ((rd x3_3 x10_4) < (rd x3_3 x73_4))=false:=decide_eq_false c53
                               clear c53
                               have H':=zz31 H
                               clear H
                               have p198:0≤(x73_4:Int):=zz29 (by first | (with_reducible assumption) | assumption)
                               have q198:x73_4 < (x3_3.length:Int):=zz29 (by first | (with_reducible assumption) | assumption)
                               obtain ⟨ad198,e198,hx198_0⟩:=Kd.at_int (Kd.R_reads' HO_71.out).2.2 x73_4 p198 q198
                               obtain rfl:ad197=ad198:=(by injection e198)
                               replace p198:=eq_true p198
                               replace q198:=eq_true q198
                               have p199:0≤(x73_4:Int):=zz29 (by first | (with_reducible assumption) | assumption)
                               have q199:x73_4 < (x5_3.length:Int):=zz29 (by first | (with_reducible assumption) | assumption)
                               obtain ⟨ad199,e199,hx199_0⟩:=Kd.at_bool (Kd.R_reads' HO_5.out).2.2 x73_4 p199 q199
                               (try rw [← Nbq43.out] at hx199_0)
                               (try rw [← Nbq46.out] at hx199_0)
                               obtain rfl:(⟨go29,0,none⟩:Addr)=ad199:=(by injection e199)
                               (first | simp only [add_plain] at hx199_0 | simp only [add_at] at hx199_0 | simp only [Addr.add,Nat.zero_add] at hx199_0 | skip)
                               replace p199:=eq_true p199
                               replace q199:=eq_true q199
                               obtain ⟨Ao55,co55,eo55⟩:=Kd.R_slice HO_9.out
                               subst eo55
                               have p200:0≤(x73_4:Int):=zz29 (by first | (with_reducible assumption) | assumption)
                               have q200:x73_4 < (x9_3.length:Int):=zz29 (by first | (with_reducible assumption) | assumption)
                               obtain ⟨ad200,e200,hx200_0⟩:=Kd.at_bool (Kd.R_reads' HO_9.out).2.2 x73_4 p200 q200
                               (try rw [← Nbq43.out] at hx200_0)
                               (try rw [← Nbq46.out] at hx200_0)
                               cases e200
                               replace p200:=eq_true p200
                               replace q200:=eq_true q200
                               have p201:0≤(x10_4:Int):=zz29 (by first | (with_reducible assumption) | assumption)
                               have q201:x10_4 < (x3_3.length:Int):=zz29 (by first | (with_reducible assumption) | assumption)
                               obtain ⟨ad201,e201,hx201_0⟩:=Kd.at_int (Kd.R_reads' HO_3.out).2.2 x10_4 p201 q201
                               obtain rfl:ad197=ad201:=(by injection e201)
                               replace p201:=eq_true p201
                               replace q201:=eq_true q201
                               go_wp2
                               go_roundg k4
                               case measure=>have:=HK1.out;have:=HK2.out;have:=HK3.out;have:=HK4.out;omega
                               case rel=>exact ⟨(x10_4),(wrap64 (x73_4+1)),(by first | rfl | (simp;done) | (simp [*];done)),(by first | rfl | (simp;done) | (simp [*];done)),H',⟨by have:=HK1.out;have:=HK2.out;have:=HK3.out;have:=HK4.out;omega⟩,⟨by (try simp only [hl3_3]);(try simp only [hl5_3]);(with_reducible repeat (first | apply zz12 | apply zz13 | apply zz14));exact HO_3.out⟩,⟨by (try simp only [hl3_3]);(try simp only [hl5_3]);(with_reducible repeat (first | apply zz15 | apply zz16 | apply zz17));exact HO_4.out⟩,⟨by (try simp only [hl3_3]);(try simp only [hl5_3]);(with_reducible repeat (first | apply zz12 | apply zz13 | apply zz14));exact HO_5.out⟩,⟨by (try simp only [hl3_3]);(try simp only [hl5_3]);(with_reducible repeat (first | apply zz12 | apply zz13 | apply zz14));exact HO_9.out⟩,⟨by (try simp only [hl3_3]);(try simp only [hl5_3]);(with_reducible repeat (first | apply zz12 | apply zz13 | apply zz14));exact HO_71.out⟩,⟨by (try simp only [hl3_3]);(try simp only [hl5_3]);(with_reducible repeat (first | refine zz6 ?_ _ | refine zz7 ?_ | refine zz8 ?_ _));exact BK176.out⟩,⟨by repeat first | exact HB.out | apply zz2 | apply zz0 | apply zz1 | refine zz3 ?_ GE176.out⟩⟩
                             ·rw [if_neg c52] at H
                              exact absurd H (by simp)
                            ·rw [if_neg c51] at H
                             exact absurd H (by simp)
                         ·rw [if_neg c45] at H
                          exact absurd H (by simp)
                       ·rw [if_neg c42] at H
                        exact absurd H (by simp)
                      ·rw [if_neg c41] at H
                       exact absurd H (by simp)
                     ·rw [if_neg c40] at H
                      exact absurd H (by simp)
                    ·rw [if_neg c39] at H
                     have c39b0:decide (x73_4 < (x3_3.length:Int))=false:=decide_eq_false c39
                     (try simp only [hl3_3] at c39b0)
                     (try simp only [hl5_3] at c39b0)
                     clear c39
                     by_cases c56:0≤x10_4
                     ·rw [if_pos c56] at H
                      have c56b0:decide (0≤x10_4)=true:=decide_eq_true c56
                      clear c56
                      by_cases c57:x10_4 < (x9_3.length:Int)
                      ·rw [if_pos c57] at H
                       have c57b0:decide (x10_4 < (x9_3.length:Int))=true:=decide_eq_true c57
                       (try simp only [hl3_3] at c57b0)
                       (try simp only [hl5_3] at c57b0)
                       clear c57
                       obtain ⟨y202,hy202⟩:∃ y_:List Bool,y_=(x9_3.set (x10_4:Int).toNat true):=⟨_,rfl⟩
                       replace H:(if 0≤x6_2 then (if x6_2 < (x4_3.length:Int) then (if x10_4 < ((rd_L3 x4_3 x6_2).length:Int) then ((some (x4_3.set (x6_2:Int).toNat ((rd_L3 x4_3 x6_2).set (x10_4:Int).toNat true):List (List Bool))).bind fun y206=>(if x10_4 < (x4_3.length:Int) then (if x6_2 < ((rd_L3 y206 x10_4).length:Int) then (if x6_2 < (x3_3.length:Int) then (spec_deMake.l2 k4 l0 (x3_3.set (x6_2:Int).toNat (wrap64 ((rd x3_3 x6_2) - 1))) (y206.set (x10_4:Int).toNat ((rd_L3 y206 x10_4).set (x6_2:Int).toNat true)) x5_3 x6_2 y202 (l0.length:Int) x26_1) else (none)) else (none)) else (none))) else (none)) else (none)) else (none))=some (r1,r2):=by first | (rw [hy202];with_reducible exact H) | (have H2_:=(Option.bind_some _ _).symm.trans H;rw [hy202];with_reducible exact H2_) | (have H2_:=(Option.bind_some _ _).symm.trans H;with_reducible exact H2_) | with_reducible exact H | (rw [hy202];exact H) | exact H
                       have Ny202:=zz31 hy202
                       clear hy202
                       by_cases c59:0≤x6_2
                       ·rw [if_pos c59] at H
                        have c59b0:decide (0≤x6_2)=true:=decide_eq_true c59
                        clear c59
                        by_cases c60:x6_2 < (x4_3.length:Int)
                        ·rw [if_pos c60] at H
                         have c60b0:decide (x6_2 < (x4_3.length:Int))=true:=decide_eq_true c60
                         (try simp only [hl3_3] at c60b0)
                         (try simp only [hl5_3] at c60b0)
                         clear c60
                         by_cases c61:x10_4 < ((rd_L3 x4_3 x6_2).length:Int)
                         ·rw [if_pos c61] at H
                          have c61b0:decide (x10_4 < ((rd_L3 x4_3 x6_2).length:Int))=true:=decide_eq_true c61
                          (try simp only [hl3_3] at c61b0)
                          (try simp only [hl5_3] at c61b0)
                          clear c61
                          obtain ⟨y204,hy204⟩:∃ y_:List Bool,y_=((rd_L3 x4_3 x6_2).set (x10_4:Int).toNat true):=⟨_,rfl⟩
                          replace H:((some (x4_3.set (x6_2:Int).toNat y204:List (List Bool))).bind fun y206=>(if x10_4 < (x4_3.length:Int) then (if x6_2 < ((rd_L3 y206 x10_4).length:Int) then (if x6_2 < (x3_3.length:Int) then (spec_deMake.l2 k4 l0 (x3_3.set (x6_2:Int).toNat (wrap64 ((rd x3_3 x6_2) - 1))) (y206.set (x10_4:Int).toNat ((rd_L3 y206 x10_4).set (x6_2:Int).toNat true)) x5_3 x6_2 y202 (l0.length:Int) x26_1) else (none)) else (none)) else (none)))=some (r1,r2):=by first | (rw [hy204];with_reducible exact H) | (have H2_:=(Option.bind_some _ _).symm.trans H;rw [hy204];with_reducible exact H2_) | (have H2_:=(Option.bind_some _ _).symm.trans H;with_reducible exact H2_) | with_reducible exact H | (rw [hy204];exact H) | exact H
                          have Ny204:=zz31 hy204
                          clear hy204
                          obtain ⟨y206,hy206⟩:∃ y_:List (List Bool),y_=(x4_3.set (x6_2:Int).toNat y204):=⟨_,rfl⟩
                          replace H:(if x10_4 < (x4_3.length:Int) then (if x6_2 < ((rd_L3 y206 x10_4).length:Int) then (if x6_2 < (x3_3.length:Int) then (spec_deMake.l2 k4 l0 (x3_3.set (x6_2:Int).toNat (wrap64 ((rd x3_3 x6_2) - 1))) (y206.set (x10_4:Int).toNat ((rd_L3 y206 x10_4).set (x6_2:Int).toNat true)) x5_3 x6_2 y202 (l0.length:Int) x26_1) else (none)) else (none)) else (none))=some (r1,r2):=by first | (rw [hy206];with_reducible exact H) | (have H2_:=(Option.bind_some _ _).symm.trans H;rw [hy206];with_reducible exact H2_) | (have H2_:=(Option.bind_some _ _).symm.trans H;with_reducible exact H2_) | with_reducible exact H | (rw [hy206];exact H) | exact H
                          have Ny206:=zz31 hy206
                          clear hy206
                          by_cases c63:x10_4 < (x4_3.length:Int)
                          ·rw [if_pos c63] at H
                           have c63b0:decide (x10_4 < (x4_3.length:Int))=true:=decide_eq_true c63
                           (try simp only [hl3_3] at c63b0)
                           (try simp only [hl5_3] at c63b0)
                           clear c63
                           by_cases c64:x6_2 < ((rd_L3 y206 x10_4).length:Int)
                           ·rw [if_pos c64] at H
                            have c64b0:decide (x6_2 < ((rd_L3 y206 x10_4).length:Int))=true:=decide_eq_true c64
                            (try simp only [hl3_3] at c64b0)
                            (try simp only [hl5_3] at c64b0)
                            clear c64
                            obtain ⟨y208,hy208⟩:∃ y_:List Bool,y_=((rd_L3 y206 x10_4).set (x6_2:Int).toNat true):=⟨_,rfl⟩
                            replace H:(if x6_2 < (x3_3.length:Int) then (spec_deMake.l2 k4 l0 (x3_3.set (x6_2:Int).toNat (wrap64 ((rd x3_3 x6_2) - 1))) (y206.set (x10_4:Int).toNat y208) x5_3 x6_2 y202 (l0.length:Int) x26_1) else (none))=some (r1,r2):=by first | (rw [hy208];with_reducible exact H) | (have H2_:=(Option.bind_some _ _).symm.trans H;rw [hy208];with_reducible exact H2_) | (have H2_:=(Option.bind_some _ _).symm.trans H;with_reducible exact H2_) | with_reducible exact H | (rw [hy208];exact H) | exact H
                            have Ny208:=zz31 hy208
                            clear hy208
                            obtain ⟨y210,hy210⟩:∃ y_:List (List Bool),y_=(y206.set (x10_4:Int).toNat y208):=⟨_,rfl⟩
                            replace H:(if x6_2 < (x3_3.length:Int) then (spec_deMake.l2 k4 l0 (x3_3.set (x6_2:Int).toNat (wrap64 ((rd x3_3 x6_2) - 1))) y210 x5_3 x6_2 y202 (l0.length:Int) x26_1) else (none))=some (r1,r2):=by first | (rw [hy210];with_reducible exact H) | (have H2_:=(Option.bind_some _ _).symm.trans H;rw [hy210];with_reducible exact H2_) | (have H2_:=(Option.bind_some _ _).symm.trans H;with_reducible exact H2_) | with_reducible exact H | (rw [hy210];exact H) | exact H
                            have Ny210:=zz31 hy210
                            clear hy210
                            by_cases c66:x6_2 < (x3_3.length:Int)
                            ·rw [if_pos c66] at H
                             have c66b0:decide (x6_2 < (x3_3.length:Int))=true:=decide_eq_true c66
                             (try simp only [hl3_3] at c66b0)
                             (try simp only [hl5_3] at c66b0)
                             clear c66
                             obtain ⟨y212,hy212⟩:∃ y_:List Int,y_=(x3_3.set (x6_2:Int).toNat (wrap64 ((rd x3_3 x6_2) - 1))):=⟨_,rfl⟩
                             replace H:(spec_deMake.l2 k4 l0 y212 y210 x5_3 x6_2 y202 (l0.length:Int) x26_1)=some (r1,r2):=by first | (rw [hy212];with_reducible exact H) | (have H2_:=(Option.bind_some _ _).symm.trans H;rw [hy212];with_reducible exact H2_) | (have H2_:=(Option.bind_some _ _).symm.trans H;with_reducible exact H2_) | with_reducible exact H | (rw [hy212];exact H) | exact H
                             have Ny212:=zz31 hy212
                             clear hy212
                             have H':=zz31 H
                             clear H
                             have p58:0≤(x10_4:Int):=zz29 (by first | (with_reducible assumption) | assumption)
                             have q58:(x10_4:Int) < ((x9_3.length:Int):Int):=zz29 (by first | (with_reducible assumption) | assumption)
                             obtain ⟨go58,co58,eo58,gb58,gl58,cl58,HG58⟩:=Kd.R_form HO_9.out (by omega)
                             (first | cases eo58 | (injection eo58 with ea_ en_ ec_;(first | subst ea_ | (injection ea_ with ea_;subst ea_));subst ec_;clear en_))
                             have GB58:=zz31 gb58
                             have GG58:=zz31 HG58
                             clear gb58 gl58 HG58
                             obtain ⟨hx58_0,hf58_0⟩:=Kd.R_celln false HO_9.out (x10_4:Int) p58 q58
                             replace p58:=eq_true p58
                             replace q58:=eq_true q58
                             have HP68:=Kd.R_putg HO_9.out (x10_4:Int) true
                             go_wp2_with (first | ((with_reducible refine gate_store (t:=4) (p:=106) rfl ?_);refine store_event (t:=4) (p:=106) (v:=?vo_w69) (w1:=(wr.setCell ⟨go58,(x10_4:Int).toNat,none⟩ (.bool true))) ?hg ?ho ?hn ?hr ?_;(case ho=>rfl);(case hg=>rfl);(case hn=>rfl);(case hr=>first | (go_simp;done) | (go_simp;rfl));intro w69 hw;have hg:wr.grownBy w69 (some go58):=(by rw [hw];exact HP68.2);have hp_:Kd.R Kd.bool 4 w69 w.heap.size (fun k_=>some k_ ≠ (.slice (some ⟨go29,0,none⟩) x5_3.length co29:Value).ownBlock) (.slice (some ⟨go58,0,none⟩) x9_3.length co58) y202:=(by rw [hw,Ny202.out];exact HP68.1);clear HP68;have n0_:=zz31 (Kd.R_over' (v:=(.slice (some ⟨go58,0,none⟩) x9_3.length co58)) (by (with_reducible repeat (first | apply zz12 | apply zz13 | apply zz14));exact HO_3.out) (Kd.R_typed HO_9.out) (by decide) hg);have n1_:=zz31 (Kd.S_after (v:=(.slice (some ⟨go58,0,none⟩) x9_3.length co58)) (v1:=(.slice (some ⟨go58,0,none⟩) x9_3.length co58)) (ok:=(fun k_=>some k_ ≠ (.slice (some ⟨go29,0,none⟩) x5_3.length co29:Value).ownBlock)) (by (with_reducible repeat (first | apply zz15 | apply zz16 | apply zz17));exact HO_4.out) hg (.inl rfl));have n2_:=zz31 (Kd.R_after (v:=(.slice (some ⟨go58,0,none⟩) x9_3.length co58)) (v1:=(.slice (some ⟨go58,0,none⟩) x9_3.length co58)) (ok:=(fun _=>True)) (by (with_reducible repeat (first | apply zz12 | apply zz13 | apply zz14));exact Kd.R_mono HO_5.out (fun _ hk=>⟨trivial,hk⟩)) hg (.inl rfl));have n3_:=zz31 (hp_);have n4_:=zz31 (Kd.R_over' (v:=(.slice (some ⟨go58,0,none⟩) x9_3.length co58)) (by (with_reducible repeat (first | apply zz12 | apply zz13 | apply zz14));exact HO_71.out) (Kd.R_typed HO_9.out) (by decide) hg);have n5_:=zz31 (blk_grown (g:=gb176) (o:=.cells #[.int .i64 0,.slice none 0 0] 32 (0,0)) (by (with_reducible repeat (first | refine zz6 ?_ _ | refine zz7 ?_ | refine zz8 ?_ _));exact BK176.out) hg (Kd.R_ne HO_9.out BK176.out (by decide)));have n6_:=zz31 ((by rw [hw];exact zz3 (HB.out) GB58.out:Below w.heap.size w w69));clear HO_3;clear HO_4;clear HO_5;clear HO_9;clear HO_71;clear BK176;clear HB;have HO_3:=n0_;have HO_4:=n1_;have HO_5:=n2_;have HO_9:=n3_;have HO_71:=n4_;have BK176:=n5_;have HB:=n6_;clear n0_ n1_ n2_ n3_ n4_ n5_ n6_;clear hg hw hp_;obtain ⟨Ao70,co70,eo70⟩:=Kd.S_slice HO_4.out;subst eo70;have p203:0≤(x6_2:Int):=zz29 (by first | (with_reducible assumption) | assumption);have q203:x6_2 < (x4_3.length:Int):=zz29 (by first | (with_reducible assumption) | assumption);obtain ⟨ad203,A203_0,c203_0,e203,hx203_0,hl203_0,hi203_0⟩:=at_L3 (Kd.S_reads' HO_4.out).2.2 x6_2 p203 q203;cases e203;obtain ⟨ce203,hce203,hMe203,hcc203⟩:=Kd.S_get HO_4.out [] x6_2 p203 (by first | exact q203 | exact zz29 (by first | (with_reducible assumption) | assumption) | (have e_:=(Kd.S_reads' HO_4.out).1;omega));obtain ⟨ve203_0,rfl,ge203_0⟩:=hMe203;have hv203_0:=hcc203 0 _ rfl;rw [Nat.add_zero,show ((Kd.slice 4 Kd.bool)).sz=1 from rfl,Nat.mul_one] at hv203_0;replace hv203_0:=Option.some.inj (hv203_0.symm.trans hx203_0);rw [hv203_0] at ge203_0;have HL203_0:=zz31 (show Kd.R Kd.bool 4 _ _ _ _ (rd_L3 x4_3 x6_2) from ge203_0);clear hv203_0 ge203_0;have HX203_0:=zz31 hx203_0;clear hcc203 hce203;have HR203_0:=zz31 hi203_0;have HC203_0:=zz31 hl203_0;clear hi203_0 hl203_0;replace p203:=eq_true p203;replace q203:=eq_true q203;have p62:0≤(x10_4:Int):=zz29 (by first | (with_reducible assumption) | assumption);have q62:(x10_4:Int) < (((rd_L3 x4_3 x6_2).length:Int):Int):=zz29 (by first | (with_reducible assumption) | assumption);obtain ⟨go62,co62,eo62,gb62,gl62,cl62,HG62⟩:=Kd.R_form HL203_0.out (by omega);(first | cases eo62 | (injection eo62 with ea_ en_ ec_;(first | subst ea_ | (injection ea_ with ea_;subst ea_));subst ec_;clear en_));have GB62:=zz31 gb62;have GG62:=zz31 HG62;clear gb62 gl62 HG62;obtain ⟨hx62_0,hf62_0⟩:=Kd.R_celln false HL203_0.out (x10_4:Int) p62 q62;replace p62:=eq_true p62;replace q62:=eq_true q62;have hq71:(x6_2:Int) < (x4_3.length:Int):=(by have h_:(x6_2:Int) < ((x4_3.length:Int):Int):=zz29 (by first | (with_reducible assumption) | assumption);first | exact h_ | (have e_:=(Kd.S_reads' HO_4.out).1;omega) | simpa only [List.length_set,List.length_set] using h_);obtain ⟨oki71,ce71,hcl71,hM71,hcc71,hok71,hbk71⟩:=Kd.S_borrow HO_4.out [] (x6_2:Int) (zz29 (by first | (with_reducible assumption) | assumption)) (by first | exact hq71 | (have e_:=(Kd.S_reads' HO_4.out).1;omega));obtain ⟨ve71_0,rfl,ge71_0⟩:=hM71;have hv71:=hcc71 0 _ rfl;rw [Nat.add_zero,show ((Kd.slice 4 Kd.bool)).sz=1 from rfl,Nat.mul_one] at hv71;replace hv71:=Option.some.inj (hv71.symm.trans HX203_0.out);subst hv71;clear hcc71 hcl71;replace ge71_0:=(show Kd.R Kd.bool 4 _ _ _ _ (rd_L3 x4_3 x6_2) from ge71_0);have HP71:=Kd.R_putg ge71_0 (x10_4:Int) true) | ((with_reducible refine gate_store (t:=4) (p:=112) rfl ?_);refine store_event (t:=4) (p:=112) (v:=?vo_w72) (w1:=(w69.setCell ⟨go62,(x10_4:Int).toNat,none⟩ (.bool true))) ?hg ?ho ?hn ?hr ?_;(case ho=>rfl);(case hg=>rfl);(case hn=>rfl);(case hr=>first | (go_simp;done) | (go_simp;rfl));intro w72 hw;have hg:w69.grownBy w72 (some go62):=(by rw [hw];exact HP71.2);have hz_:Kd.R Kd.bool 4 w72 w.heap.size oki71 (.slice (some ⟨go62,0,none⟩) (rd_L3 x4_3 x6_2).length c203_0) y204:=(by rw [hw,Ny204.out];exact HP71.1);have hp_:Kd.S (Kd.slice 4 Kd.bool) 60 w72 w.heap.size (fun k_=>some k_ ≠ (.slice (some ⟨go29,0,none⟩) x5_3.length co29:Value).ownBlock∧some k_ ≠ (.slice (some ⟨go58,0,none⟩) x9_3.length co58:Value).ownBlock) (.slice (some ad203) x4_3.length co70) y206:=(by rw [Ny206.out];exact hbk71 hg (fun k_ e_=>by injection e_ with e_;subst e_;exact ge71_0.1 _ rfl) (Kd.M_row hz_));have hm_:=Kd.R_mono hz_ hok71;clear HP71 hbk71;have n0_:=zz31 (Kd.R_over' (v:=(.slice (some ⟨go62,0,none⟩) (rd_L3 x4_3 x6_2).length c203_0)) (by (with_reducible repeat (first | apply zz12 | apply zz13 | apply zz14));exact HO_3.out) (Kd.R_typed HL203_0.out) (by decide) hg);have n1_:=zz31 (hp_);have n2_:=zz31 (Kd.R_grown1 (by (with_reducible repeat (first | apply zz12 | apply zz13 | apply zz14));exact HO_5.out) rfl hg ((HL203_0.out.1 _ rfl).1.1));have n3_:=zz31 (Kd.R_grown1 (by (with_reducible repeat (first | apply zz12 | apply zz13 | apply zz14));exact HO_9.out) rfl hg ((HL203_0.out.1 _ rfl).1.2));have n4_:=zz31 (Kd.R_over' (v:=(.slice (some ⟨go62,0,none⟩) (rd_L3 x4_3 x6_2).length c203_0)) (by (with_reducible repeat (first | apply zz12 | apply zz13 | apply zz14));exact HO_71.out) (Kd.R_typed HL203_0.out) (by decide) hg);have n5_:=zz31 (blk_grown (g:=gb176) (o:=.cells #[.int .i64 0,.slice none 0 0] 32 (0,0)) (by (with_reducible repeat (first | refine zz6 ?_ _ | refine zz7 ?_ | refine zz8 ?_ _));exact BK176.out) hg (Kd.R_ne HL203_0.out BK176.out (by decide)));have n6_:=zz31 ((by rw [hw];exact zz3 (HB.out) GB62.out:Below w.heap.size w w72));have n7_:=zz31 (hm_);have n8_:=zz31 ((Kd.R_reads' hm_).2.1);clear HO_3;clear HO_4;clear HO_5;clear HO_9;clear HO_71;clear BK176;clear HB;clear HL203_0;have HO_3:=n0_;have HO_4:=n1_;have HO_5:=n2_;have HO_9:=n3_;have HO_71:=n4_;have BK176:=n5_;have HB:=n6_;have HL216:=n7_;have HC205:=n8_;clear n0_ n1_ n2_ n3_ n4_ n5_ n6_ n7_ n8_;clear hg hw hp_ hz_ hm_ hok71;have p207:0≤(x10_4:Int):=zz29 (by first | (with_reducible assumption) | assumption);have q207:x10_4 < (y206.length:Int):=(by have h_:(x10_4:Int) < ((x4_3.length:Int):Int):=zz29 (by first | (with_reducible assumption) | assumption);first | (have e_:=(Kd.S_reads' HO_4.out).1;omega) | simpa only [Ny206.out,List.length_set] using h_);have ql207:((x10_4:Int) < ((x4_3.length:Int):Int))=True:=eq_true (zz29 (by first | (with_reducible assumption) | assumption));obtain ⟨ad207,A207_0,c207_0,e207,hx207_0,hl207_0,hi207_0⟩:=at_L3 (Kd.S_reads' HO_4.out).2.2 x10_4 p207 q207;obtain rfl:ad203=ad207:=(by injection e207);obtain ⟨ce207,hce207,hMe207,hcc207⟩:=Kd.S_get HO_4.out [] x10_4 p207 (by first | exact q207 | exact zz29 (by first | (with_reducible assumption) | assumption) | (have e_:=(Kd.S_reads' HO_4.out).1;omega));obtain ⟨ve207_0,rfl,ge207_0⟩:=hMe207;have hv207_0:=hcc207 0 _ rfl;rw [Nat.add_zero,show ((Kd.slice 4 Kd.bool)).sz=1 from rfl,Nat.mul_one] at hv207_0;replace hv207_0:=Option.some.inj (hv207_0.symm.trans hx207_0);rw [hv207_0] at ge207_0;have HL207_0:=zz31 (show Kd.R Kd.bool 4 _ _ _ _ (rd_L3 y206 x10_4) from ge207_0);clear hv207_0 ge207_0;have HX207_0:=zz31 hx207_0;clear hcc207 hce207;have HR207_0:=zz31 hi207_0;have HC207_0:=zz31 hl207_0;clear hi207_0 hl207_0;replace p207:=eq_true p207;replace q207:=eq_true q207;have p65:0≤(x6_2:Int):=zz29 (by first | (with_reducible assumption) | assumption);have q65:(x6_2:Int) < (((rd_L3 y206 x10_4).length:Int):Int):=zz29 (by first | (with_reducible assumption) | assumption);obtain ⟨go65,co65,eo65,gb65,gl65,cl65,HG65⟩:=Kd.R_form HL207_0.out (by omega);(first | cases eo65 | (injection eo65 with ea_ en_ ec_;(first | subst ea_ | (injection ea_ with ea_;subst ea_));subst ec_;clear en_));have GB65:=zz31 gb65;have GG65:=zz31 HG65;clear gb65 gl65 HG65;obtain ⟨hx65_0,hf65_0⟩:=Kd.R_celln false HL207_0.out (x6_2:Int) p65 q65;replace p65:=eq_true p65;replace q65:=eq_true q65;have hq73:(x10_4:Int) < (y206.length:Int):=(by have h_:(x10_4:Int) < ((x4_3.length:Int):Int):=zz29 (by first | (with_reducible assumption) | assumption);first | exact h_ | (have e_:=(Kd.S_reads' HO_4.out).1;omega) | simpa only [Ny206.out,List.length_set] using h_);obtain ⟨oki73,ce73,hcl73,hM73,hcc73,hok73,hbk73⟩:=Kd.S_borrow HO_4.out [] (x10_4:Int) (zz29 (by first | (with_reducible assumption) | assumption)) (by first | exact hq73 | (have e_:=(Kd.S_reads' HO_4.out).1;omega));obtain ⟨ve73_0,rfl,ge73_0⟩:=hM73;have hv73:=hcc73 0 _ rfl;rw [Nat.add_zero,show ((Kd.slice 4 Kd.bool)).sz=1 from rfl,Nat.mul_one] at hv73;replace hv73:=Option.some.inj (hv73.symm.trans HX207_0.out);subst hv73;clear hcc73 hcl73;replace ge73_0:=(show Kd.R Kd.bool 4 _ _ _ _ (rd_L3 y206 x10_4) from ge73_0);have HP73:=Kd.R_putg ge73_0 (x6_2:Int) true) | ((with_reducible refine gate_store (t:=4) (p:=118) rfl ?_);refine store_event (t:=4) (p:=118) (v:=?vo_w74) (w1:=(w72.setCell ⟨go65,(x6_2:Int).toNat,none⟩ (.bool true))) ?hg ?ho ?hn ?hr ?_;(case ho=>rfl);(case hg=>rfl);(case hn=>rfl);(case hr=>first | (go_simp;done) | (go_simp;rfl));intro w74 hw;have hg:w72.grownBy w74 (some go65):=(by rw [hw];exact HP73.2);have hz_:Kd.R Kd.bool 4 w74 w.heap.size oki73 (.slice (some ⟨go65,0,none⟩) (rd_L3 y206 x10_4).length c207_0) y208:=(by rw [hw,Ny208.out];exact HP73.1);have hp_:Kd.S (Kd.slice 4 Kd.bool) 60 w74 w.heap.size (fun k_=>some k_ ≠ (.slice (some ⟨go29,0,none⟩) x5_3.length co29:Value).ownBlock∧some k_ ≠ (.slice (some ⟨go58,0,none⟩) x9_3.length co58:Value).ownBlock) (.slice (some ad203) x4_3.length co70) y210:=(by rw [Ny210.out];exact hbk73 hg (fun k_ e_=>by injection e_ with e_;subst e_;exact ge73_0.1 _ rfl) (Kd.M_row hz_));have hm_:=Kd.R_mono hz_ hok73;clear HP73 hbk73;have n0_:=zz31 (Kd.R_over' (v:=(.slice (some ⟨go65,0,none⟩) (rd_L3 y206 x10_4).length c207_0)) (by (with_reducible repeat (first | apply zz12 | apply zz13 | apply zz14));exact HO_3.out) (Kd.R_typed HL207_0.out) (by decide) hg);have n1_:=zz31 (hp_);have n2_:=zz31 (Kd.R_grown1 (by (with_reducible repeat (first | apply zz12 | apply zz13 | apply zz14));exact HO_5.out) rfl hg ((HL207_0.out.1 _ rfl).1.1));have n3_:=zz31 (Kd.R_grown1 (by (with_reducible repeat (first | apply zz12 | apply zz13 | apply zz14));exact HO_9.out) rfl hg ((HL207_0.out.1 _ rfl).1.2));have n4_:=zz31 (Kd.R_over' (v:=(.slice (some ⟨go65,0,none⟩) (rd_L3 y206 x10_4).length c207_0)) (by (with_reducible repeat (first | apply zz12 | apply zz13 | apply zz14));exact HO_71.out) (Kd.R_typed HL207_0.out) (by decide) hg);have n5_:=zz31 (blk_grown (g:=gb176) (o:=.cells #[.int .i64 0,.slice none 0 0] 32 (0,0)) (by (with_reducible repeat (first | refine zz6 ?_ _ | refine zz7 ?_ | refine zz8 ?_ _));exact BK176.out) hg (Kd.R_ne HL207_0.out BK176.out (by decide)));have n6_:=zz31 ((by rw [hw];exact zz3 (HB.out) GB65.out:Below w.heap.size w w74));have n7_:=zz31 (hm_);have n8_:=zz31 ((Kd.R_reads' hm_).2.1);clear HO_3;clear HO_4;clear HO_5;clear HO_9;clear HO_71;clear BK176;clear HB;clear HL216;clear HL207_0;have HO_3:=n0_;have HO_4:=n1_;have HO_5:=n2_;have HO_9:=n3_;have HO_71:=n4_;have BK176:=n5_;have HB:=n6_;have HL217:=n7_;have HC209:=n8_;clear n0_ n1_ n2_ n3_ n4_ n5_ n6_ n7_ n8_;clear hg hw hp_ hz_ hm_ hok73;have p211:0≤(x6_2:Int):=zz29 (by first | (with_reducible assumption) | assumption);have q211:x6_2 < (x3_3.length:Int):=zz29 (by first | (with_reducible assumption) | assumption);obtain ⟨ad211,e211,hx211_0⟩:=Kd.at_int (Kd.R_reads' HO_3.out).2.2 x6_2 p211 q211;obtain rfl:ad197=ad211:=(by injection e211);replace p211:=eq_true p211;replace q211:=eq_true q211;have p67:0≤(x6_2:Int):=zz29 (by first | (with_reducible assumption) | assumption);have q67:(x6_2:Int) < ((x3_3.length:Int):Int):=zz29 (by first | (with_reducible assumption) | assumption);obtain ⟨go67,co67,eo67,gb67,gl67,cl67,HG67⟩:=Kd.R_form HO_3.out (by omega);(first | cases eo67 | (injection eo67 with ea_ en_ ec_;(first | subst ea_ | (injection ea_ with ea_;subst ea_));subst ec_;clear en_));have GB67:=zz31 gb67;have GG67:=zz31 HG67;clear gb67 gl67 HG67;(first | simp only [add_plain] at hx197_0 | skip);(first | simp only [add_plain] at hx198_0 | skip);(first | simp only [add_plain] at hx201_0 | skip);(first | simp only [add_plain] at hx211_0 | skip);obtain ⟨hx67_0,hf67_0⟩:=Kd.R_celln 0 HO_3.out (x6_2:Int) p67 q67;replace p67:=eq_true p67;replace q67:=eq_true q67;obtain ⟨hy75_,hz75_⟩:=Kd.R_celln 0 HO_3.out (x6_2:Int) (zz29 (by first | (with_reducible assumption) | assumption)) (zz29 (by first | (with_reducible assumption) | assumption));have HP75:=Kd.R_putg HO_3.out (x6_2:Int) (wrap64 ((rd x3_3 x6_2) - 1))) | ((with_reducible refine gate_store (t:=3) (p:=70) rfl ?_);refine store_event (t:=3) (p:=70) (v:=?vo_w76) (w1:=(w74.setCell ⟨go67,(x6_2:Int).toNat,none⟩ (.int .i64 (wrap64 ((rd x3_3 x6_2) - 1))))) ?hg ?ho ?hn ?hr ?_;(case ho=>rfl);(case hg=>rfl);(case hn=>rfl);(case hr=>first | (go_simp;done) | (go_simp;rfl));intro w76 hw;have hg:w74.grownBy w76 (some go67):=(by rw [hw];exact HP75.2);have hp_:Kd.R (Kd.int .i64) 3 w76 w.heap.size (fun _=>True) (.slice (some ⟨go67,0,none⟩) x3_3.length co12) y212:=(by rw [hw,Ny212.out];exact HP75.1);clear HP75;have n0_:=zz31 (hp_);have n1_:=zz31 (Kd.S_over' (v:=(.slice (some ⟨go67,0,none⟩) x3_3.length co12)) (by (with_reducible repeat (first | apply zz15 | apply zz16 | apply zz17));exact HO_4.out) (Kd.R_typed HO_3.out) (by decide) hg);have n2_:=zz31 (Kd.R_over' (v:=(.slice (some ⟨go67,0,none⟩) x3_3.length co12)) (by (with_reducible repeat (first | apply zz12 | apply zz13 | apply zz14));exact HO_5.out) (Kd.R_typed HO_3.out) (by decide) hg);have n3_:=zz31 (Kd.R_over' (v:=(.slice (some ⟨go67,0,none⟩) x3_3.length co12)) (by (with_reducible repeat (first | apply zz12 | apply zz13 | apply zz14));exact HO_9.out) (Kd.R_typed HO_3.out) (by decide) hg);have n4_:=zz31 True.intro;have n5_:=zz31 (blk_grown (g:=gb176) (o:=.cells #[.int .i64 0,.slice none 0 0] 32 (0,0)) (by (with_reducible repeat (first | refine zz6 ?_ _ | refine zz7 ?_ | refine zz8 ?_ _));exact BK176.out) hg (Kd.R_ne HO_3.out BK176.out (by decide)));have n6_:=zz31 (Kd.R_over' (v:=(.slice (some ⟨go67,0,none⟩) x3_3.length co12)) (by (with_reducible repeat (first | apply zz12 | apply zz13 | apply zz14));exact HL217.out) (Kd.R_typed HO_3.out) (by decide) hg);have n7_:=zz31 ((by rw [hw];exact zz3 (HB.out) GB67.out:Below w.heap.size w w76));clear HO_3;clear HO_4;clear HO_5;clear HO_9;clear HO_71;clear BK176;clear HL217;clear HB;have HO_3:=n0_;have HO_4:=n1_;have HO_5:=n2_;have HO_9:=n3_;have HO_71:=n4_;have BK176:=n5_;have HL217:=n6_;have HB:=n7_;clear n0_ n1_ n2_ n3_ n4_ n5_ n6_ n7_;clear hg hw hp_))
                             (try simp only [← hl3_3,← hl5_3])
                             go_roundg k4
                             case measure=>have:=HK1.out;have:=HK2.out;have:=HK3.out;have:=HK4.out;omega
                             case rel=>exact ⟨(y212),(y210),(x5_3),(y202),H',⟨by have:=HK1.out;have:=HK2.out;have:=HK3.out;have:=HK4.out;omega⟩,⟨by (try simp only [hl3_3]);(try simp only [hl5_3]);(with_reducible repeat (first | apply zz12 | apply zz13 | apply zz14));exact HO_3.out⟩,⟨by (try simp only [hl3_3]);(try simp only [hl5_3]);(with_reducible repeat (first | apply zz15 | apply zz16 | apply zz17));exact HO_4.out⟩,⟨by (try simp only [hl3_3]);(try simp only [hl5_3]);(with_reducible repeat (first | apply zz12 | apply zz13 | apply zz14));exact Kd.R_mono HO_5.out (fun _ hk=>hk.2)⟩,⟨by (try simp only [hl3_3]);(try simp only [hl5_3]);(with_reducible repeat (first | apply zz12 | apply zz13 | apply zz14));exact HO_9.out⟩,⟨by (try simp only [hl3_3]);(try simp only [hl5_3]);(with_reducible repeat (first | refine zz6 ?_ _ | refine zz7 ?_ | refine zz8 ?_ _));exact BK176.out⟩,⟨by repeat first | exact HB.out | apply zz2 | apply zz0 | apply zz1 | refine zz3 ?_ GE176.out⟩⟩
                            ·rw [if_neg c66] at H
                             exact absurd H (by simp)
                           ·rw [if_neg c64] at H
                            exact absurd H (by simp)
                          ·rw [if_neg c63] at H
                           exact absurd H (by simp)
                         ·rw [if_neg c61] at H
                          exact absurd H (by simp)
                        ·rw [if_neg c60] at H
                         exact absurd H (by simp)
                       ·rw [if_neg c59] at H
                        exact absurd H (by simp)
                      ·rw [if_neg c57] at H
                       exact absurd H (by simp)
                     ·rw [if_neg c56] at H
                      exact absurd H (by simp)
                 ·rw [if_neg c38] at H
                  have c38b0:decide (0 < (rd x3_3 x6_2))=false:=decide_eq_false c38
                  clear c38
                  have H':=zz31 H
                  clear H
                  have p197:0≤(x6_2:Int):=zz29 (by first | (with_reducible assumption) | assumption)
                  have q197:x6_2 < (x3_3.length:Int):=zz29 (by first | (with_reducible assumption) | assumption)
                  obtain ⟨ad197,e197,hx197_0⟩:=Kd.at_int (Kd.R_reads' HO_3.out).2.2 x6_2 p197 q197
                  cases e197
                  replace p197:=eq_true p197
                  replace q197:=eq_true q197
                  obtain ⟨Ao77,co77,eo77⟩:=Kd.R_slice HO_9.out
                  subst eo77
                  go_wp2
                  go_loopg [121] k3 (fun kq v121 w'=>∃ (x3_4:List Int) (x121_4:Int),v121=.int .i64 x121_4∧Aside0 (spec_deMake.l4 kq l0 x3_4 x4_3 x5_3 (l0.length:Int) x26_1 x9_3 (x9_3.length:Int) x121_4=some (r1,r2))∧Aside0 (kq≤k3)∧Aside0 (Kd.R (Kd.int .i64) 3 w' w.heap.size (fun _=>True) (.slice (some ad197) x3_3.length co12) x3_4)∧Aside0 (Kd.S (Kd.slice 4 Kd.bool) 60 w' w.heap.size (fun k_=>some k_ ≠ ((.slice (some ⟨go29,0,none⟩) x5_3.length co29):Value).ownBlock∧some k_ ≠ ((.slice Ao77 x9_3.length co77):Value).ownBlock) v181 x4_3)∧Aside0 (Kd.R Kd.bool 4 w' w.heap.size (fun k_=>some k_ ≠ ((.slice Ao77 x9_3.length co77):Value).ownBlock) (.slice (some ⟨go29,0,none⟩) x5_3.length co29) x5_3)∧Aside0 (Kd.R Kd.bool 4 w' w.heap.size (fun k_=>some k_ ≠ ((.slice (some ⟨go29,0,none⟩) x5_3.length co29):Value).ownBlock) (.slice Ao77 x9_3.length co77) x9_3)∧Aside0 (w'.heap[gb176]?=some (.cells #[.int .i64 0,(.slice none 0 0)] 32 (0,0)))∧Aside0 (Below w.heap.size w w'))
                  case atStart=>exact ⟨(x3_3),(0),(by first | rfl | (simp;done) | (simp [*];done)),H',⟨Nat.le_refl _⟩,⟨by (try simp only [hl3_3]);(try simp only [hl5_3]);(with_reducible repeat (first | apply zz12 | apply zz13 | apply zz14));exact HO_3.out⟩,⟨by (try simp only [hl3_3]);(try simp only [hl5_3]);(with_reducible repeat (first | apply zz15 | apply zz16 | apply zz17));exact HO_4.out⟩,⟨by (try simp only [hl3_3]);(try simp only [hl5_3]);(with_reducible repeat (first | apply zz12 | apply zz13 | apply zz14));exact HO_5.out⟩,⟨by (try simp only [hl3_3]);(try simp only [hl5_3]);(with_reducible repeat (first | apply zz12 | apply zz13 | apply zz14));exact HO_9.out⟩,⟨by (try simp only [hl3_3]);(try simp only [hl5_3]);(with_reducible repeat (first | refine zz6 ?_ _ | refine zz7 ?_ | refine zz8 ?_ _));exact BK176.out⟩,⟨by repeat first | exact HB.out | apply zz2 | apply zz0 | apply zz1 | refine zz3 ?_ GE176.out⟩⟩
                  case round =>
                   clear H'
                   try clear c1
                   try clear p1
                   try clear q1
                   try clear hx1
                   try clear c2
                   try clear p2
                   try clear q2
                   try clear hx2
                   try clear hf2
                   try clear c3
                   try clear c4
                   try clear c4b0
                   try clear c4b1
                   try clear q4
                   try clear c5
                   try clear c5b0
                   try clear c5b1
                   try clear p5
                   try clear q5
                   try clear hx5
                   try clear hf5
                   try clear c6
                   try clear p6
                   try clear q6
                   try clear hx6
                   try clear hf6
                   try clear c7
                   try clear q7
                   try clear c8
                   try clear c11
                   try clear c11b0
                   try clear c13
                   try clear c13b0
                   try clear c14
                   try clear c14b0
                   try clear c15
                   try clear c15b0
                   try clear c16
                   try clear c16b0
                   try clear q17
                   try clear c18
                   try clear p19
                   try clear q19
                   try clear hx19
                   try clear c20
                   try clear c20b0
                   try clear p20
                   try clear q20
                   try clear hx20
                   try clear p21
                   try clear q21
                   try clear hx21
                   try clear c22
                   try clear c22b0
                   try clear c23
                   try clear c23b0
                   try clear c24
                   try clear c24b0
                   try clear c27
                   try clear c27b0
                   try clear c28
                   try clear c28b0
                   try clear p29
                   try clear q29
                   try clear hx29
                   try clear hf29
                   try clear c30
                   try clear c30b0
                   try clear c30b1
                   try clear c31
                   try clear c31b0
                   try clear c31b1
                   try clear c36
                   try clear c36b0
                   try clear c37
                   try clear c37b0
                   try clear c38
                   try clear c38b0
                   try clear c39
                   try clear c39b0
                   try clear c40
                   try clear c40b0
                   try clear c41
                   try clear c41b0
                   try clear c42
                   try clear c42b0
                   try clear q43
                   try clear c44
                   try clear c45
                   try clear c45b0
                   try clear q46
                   try clear c47
                   try clear c49
                   try clear c49b0
                   try clear c51
                   try clear c51b0
                   try clear c52
                   try clear c52b0
                   try clear c53
                   try clear c53b0
                   try clear c56
                   try clear c56b0
                   try clear c57
                   try clear c57b0
                   try clear p58
                   try clear q58
                   try clear hx58
                   try clear hf58
                   try clear c59
                   try clear c59b0
                   try clear c60
                   try clear c60b0
                   try clear c61
                   try clear c61b0
                   try clear p62
                   try clear q62
                   try clear hx62
                   try clear hf62
                   try clear c63
                   try clear c63b0
                   try clear c64
                   try clear c64b0
                   try clear p64
                   try clear p65
                   try clear q65
                   try clear hx65
                   try clear hf65
                   try clear c66
                   try clear c66b0
                   try clear p67
                   try clear q67
                   try clear hx67
                   try clear hf67
                   try clear c71
                   try clear q71
                   try clear c73
                   try clear q73
                   try clear hx190_0
                   try clear hx191_0
                   try clear hx192_0
                   try clear hx197_0
                   try clear hx198_0
                   try clear hx199_0
                   try clear hx200_0
                   try clear hx201_0
                   try clear hx203_0
                   try clear hx207_0
                   try clear hx211_0
                   try clear hx29_0
                   try clear hx58_0
                   try clear hx62_0
                   try clear hx65_0
                   try clear hx67_0
                   try clear p1
                   try clear p19
                   try clear p190
                   try clear p191
                   try clear p192
                   try clear p197
                   try clear p198
                   try clear p199
                   try clear p2
                   try clear p200
                   try clear p201
                   try clear p203
                   try clear p207
                   try clear p211
                   try clear p29
                   try clear p58
                   try clear p6
                   try clear p62
                   try clear p65
                   try clear p67
                   try clear q1
                   try clear q17
                   try clear q19
                   try clear q190
                   try clear q191
                   try clear q192
                   try clear q197
                   try clear q198
                   try clear q199
                   try clear q2
                   try clear q200
                   try clear q201
                   try clear q203
                   try clear q207
                   try clear q211
                   try clear q29
                   try clear q58
                   try clear q62
                   try clear q65
                   try clear q67
                   obtain ⟨x3_4,x121_4,rfl,HA,HK4,HO_3,HO_4,HO_5,HO_119,BK176,HB⟩:=hrel
                   have hl3_4:=(Kd.R_reads' HO_3.out).1
                   rw [hl3_4] at HO_3
                   (try simp only [hl3_4])
                   (try simp only [hl3_4] at BK176)
                   (try simp only [hl3_4] at HO_4)
                   (try simp only [hl3_4] at HO_5)
                   (try simp only [hl3_4] at HO_119)
                   cases gk with
                   | zero=>exact absurd HA.out (by simp [spec_deMake.l4])
                   | succ k4 =>
                    have H:=HA.out
                    clear HA
                    simp only [spec_deMake.l4] at H
                    by_cases c78:x121_4 < (x9_3.length:Int)
                    ·rw [if_pos c78] at H
                     have c78b0:decide (x121_4 < (x9_3.length:Int))=true:=decide_eq_true c78
                     (try simp only [hl3_3] at c78b0)
                     (try simp only [hl5_3] at c78b0)
                     (try simp only [hl3_4] at c78b0)
                     clear c78
                     by_cases c79:0≤x121_4
                     ·rw [if_pos c79] at H
                      have c79b0:decide (0≤x121_4)=true:=decide_eq_true c79
                      clear c79
                      by_cases c80:x121_4 < (x9_3.length:Int)
                      ·rw [if_pos c80] at H
                       have c80b0:decide (x121_4 < (x9_3.length:Int))=true:=decide_eq_true c80
                       (try simp only [hl3_3] at c80b0)
                       (try simp only [hl5_3] at c80b0)
                       (try simp only [hl3_4] at c80b0)
                       clear c80
                       obtain ⟨bq81,hbq81⟩:∃ b_:Bool,b_=(rdOf false x9_3 x121_4):=⟨_,rfl⟩
                       replace H:(if bq81=true then (if x121_4 < (x3_4.length:Int) then (spec_deMake.l4 k4 l0 (x3_4.set (x121_4:Int).toNat (wrap64 ((rd x3_4 x121_4) - 1))) x4_3 x5_3 (l0.length:Int) x26_1 x9_3 (x9_3.length:Int) (wrap64 (x121_4+1))) else (none)) else (spec_deMake.l4 k4 l0 x3_4 x4_3 x5_3 (l0.length:Int) x26_1 x9_3 (x9_3.length:Int) (wrap64 (x121_4+1))))=some (r1,r2):=by rw [← hbq81] at H;exact H
                       have Nbq81:=zz31 hbq81
                       clear hbq81
                       by_cases c82:bq81=true
                       ·subst c82
                        have H1:(if x121_4 < (x3_4.length:Int) then (spec_deMake.l4 k4 l0 (x3_4.set (x121_4:Int).toNat (wrap64 ((rd x3_4 x121_4) - 1))) x4_3 x5_3 (l0.length:Int) x26_1 x9_3 (x9_3.length:Int) (wrap64 (x121_4+1))) else (none))=some (r1,r2):=by rw [if_pos rfl] at H;exact H
                        clear H
                        have H:=H1
                        clear H1
                        by_cases c83:x121_4 < (x3_4.length:Int)
                        ·rw [if_pos c83] at H
                         have c83b0:decide (x121_4 < (x3_4.length:Int))=true:=decide_eq_true c83
                         (try simp only [hl3_3] at c83b0)
                         (try simp only [hl5_3] at c83b0)
                         (try simp only [hl3_4] at c83b0)
                         clear c83
                         obtain ⟨y215,hy215⟩:∃ y_:List Int,y_=(x3_4.set (x121_4:Int).toNat (wrap64 ((rd x3_4 x121_4) - 1))):=⟨_,rfl⟩
                         replace H:(spec_deMake.l4 k4 l0 y215 x4_3 x5_3 (l0.length:Int) x26_1 x9_3 (x9_3.length:Int) (wrap64 (x121_4+1)))=some (r1,r2):=by first | (rw [hy215];with_reducible exact H) | (have H2_:=(Option.bind_some _ _).symm.trans H;rw [hy215];with_reducible exact H2_) | (have H2_:=(Option.bind_some _ _).symm.trans H;with_reducible exact H2_) | with_reducible exact H | (rw [hy215];exact H) | exact H
                         have Ny215:=zz31 hy215
                         clear hy215
                         have H':=zz31 H
                         clear H
                         have p213:0≤(x121_4:Int):=zz29 (by first | (with_reducible assumption) | assumption)
                         have q213:x121_4 < (x9_3.length:Int):=zz29 (by first | (with_reducible assumption) | assumption)
                         obtain ⟨ad213,e213,hx213_0⟩:=Kd.at_bool (Kd.R_reads' HO_119.out).2.2 x121_4 p213 q213
                         (try rw [← Nbq81.out] at hx213_0)
                         cases e213
                         replace p213:=eq_true p213
                         replace q213:=eq_true q213
                         have p214:0≤(x121_4:Int):=zz29 (by first | (with_reducible assumption) | assumption)
                         have q214:x121_4 < (x3_4.length:Int):=zz29 (by first | (with_reducible assumption) | assumption)
                         obtain ⟨ad214,e214,hx214_0⟩:=Kd.at_int (Kd.R_reads' HO_3.out).2.2 x121_4 p214 q214
                         obtain rfl:ad197=ad214:=(by injection e214)
                         replace p214:=eq_true p214
                         replace q214:=eq_true q214
                         have p84:0≤(x121_4:Int):=zz29 (by first | (with_reducible assumption) | assumption)
                         have q84:(x121_4:Int) < ((x3_4.length:Int):Int):=zz29 (by first | (with_reducible assumption) | assumption)
                         obtain ⟨go84,co84,eo84,gb84,gl84,cl84,HG84⟩:=Kd.R_form HO_3.out (by omega)
                         (first | cases eo84 | (injection eo84 with ea_ en_ ec_;(first | subst ea_ | (injection ea_ with ea_;subst ea_));subst ec_;clear en_))
                         have GB84:=zz31 gb84
                         have GG84:=zz31 HG84
                         clear gb84 gl84 HG84
                         (first | simp only [add_plain] at hx197_0 | skip)
                         (first | simp only [add_plain] at hx214_0 | skip)
                         obtain ⟨hx84_0,hf84_0⟩:=Kd.R_celln 0 HO_3.out (x121_4:Int) p84 q84
                         replace p84:=eq_true p84
                         replace q84:=eq_true q84
                         have HP85:=Kd.R_putg HO_3.out (x121_4:Int) (wrap64 ((rd x3_4 x121_4) - 1))
                         go_wp2_with (first | ((with_reducible refine gate_store (t:=3) (p:=132) rfl ?_);refine store_event (t:=3) (p:=132) (v:=?vo_w86) (w1:=(wr.setCell ⟨go84,(x121_4:Int).toNat,none⟩ (.int .i64 (wrap64 ((rd x3_4 x121_4) - 1))))) ?hg ?ho ?hn ?hr ?_;(case ho=>rfl);(case hg=>rfl);(case hn=>rfl);(case hr=>first | (go_simp;done) | (go_simp;rfl));intro w86 hw;have hg:wr.grownBy w86 (some go84):=(by rw [hw];exact HP85.2);have hp_:Kd.R (Kd.int .i64) 3 w86 w.heap.size (fun _=>True) (.slice (some ⟨go84,0,none⟩) x3_4.length co12) y215:=(by rw [hw,Ny215.out];exact HP85.1);clear HP85;have n0_:=zz31 (hp_);have n1_:=zz31 (Kd.S_over' (v:=(.slice (some ⟨go84,0,none⟩) x3_4.length co12)) (by (with_reducible repeat (first | apply zz15 | apply zz16 | apply zz17));exact HO_4.out) (Kd.R_typed HO_3.out) (by decide) hg);have n2_:=zz31 (Kd.R_over' (v:=(.slice (some ⟨go84,0,none⟩) x3_4.length co12)) (by (with_reducible repeat (first | apply zz12 | apply zz13 | apply zz14));exact HO_5.out) (Kd.R_typed HO_3.out) (by decide) hg);have n3_:=zz31 (Kd.R_over' (v:=(.slice (some ⟨go84,0,none⟩) x3_4.length co12)) (by (with_reducible repeat (first | apply zz12 | apply zz13 | apply zz14));exact HO_119.out) (Kd.R_typed HO_3.out) (by decide) hg);have n4_:=zz31 (blk_grown (g:=gb176) (o:=.cells #[.int .i64 0,.slice none 0 0] 32 (0,0)) (by (with_reducible repeat (first | refine zz6 ?_ _ | refine zz7 ?_ | refine zz8 ?_ _));exact BK176.out) hg (Kd.R_ne HO_3.out BK176.out (by decide)));have n5_:=zz31 ((by rw [hw];exact zz3 (HB.out) GB84.out:Below w.heap.size w w86));clear HO_3;clear HO_4;clear HO_5;clear HO_119;clear BK176;clear HB;have HO_3:=n0_;have HO_4:=n1_;have HO_5:=n2_;have HO_119:=n3_;have BK176:=n4_;have HB:=n5_;clear n0_ n1_ n2_ n3_ n4_ n5_;clear hg hw hp_))
                         (try simp only [← hl3_4])
                         (try simp only [add_plain] at *)
                         go_roundg k4
                         case measure=>have:=HK1.out;have:=HK2.out;have:=HK3.out;have:=HK4.out;omega
                         case rel=>exact ⟨(y215),(wrap64 (x121_4+1)),(by first | rfl | (simp;done) | (simp [*];done)),H',⟨by have:=HK1.out;have:=HK2.out;have:=HK3.out;have:=HK4.out;omega⟩,⟨by (try simp only [hl3_3]);(try simp only [hl5_3]);(try simp only [hl3_4]);(with_reducible repeat (first | apply zz12 | apply zz13 | apply zz14));exact HO_3.out⟩,⟨by (try simp only [hl3_3]);(try simp only [hl5_3]);(try simp only [hl3_4]);(with_reducible repeat (first | apply zz15 | apply zz16 | apply zz17));exact HO_4.out⟩,⟨by (try simp only [hl3_3]);(try simp only [hl5_3]);(try simp only [hl3_4]);(with_reducible repeat (first | apply zz12 | apply zz13 | apply zz14));exact HO_5.out⟩,⟨by (try simp only [hl3_3]);(try simp only [hl5_3]);(try simp only [hl3_4]);(with_reducible repeat (first | apply zz12 | apply zz13 | apply zz14));exact HO_119.out⟩,⟨by (try simp only [hl3_3]);(try simp only [hl5_3]);(try simp only [hl3_4]);(with_reducible repeat (first | refine zz6 ?_ _ | refine zz7 ?_ | refine zz8 ?_ _));exact BK176.out⟩,⟨by repeat first | exact HB.out | apply zz2 | apply zz0 | apply zz1 | refine zz3 ?_ GE176.out⟩⟩
                        ·rw [if_neg c83] at H
                         exact absurd H (by simp)
                       ·replace c82:=Bool.eq_false_iff.mpr c82
                        subst c82
                        have H1:(spec_deMake.l4 k4 l0 x3_4 x4_3 x5_3 (l0.length:Int) x26_1 x9_3 (x9_3.length:Int) (wrap64 (x121_4+1)))=some (r1,r2):=by rw [if_neg (show ¬ (false=true) by decide)] at H;exact H
                        clear H
                        have H:=H1
                        clear H1
                        have H':=zz31 H
                        clear H
                        have p213:0≤(x121_4:Int):=zz29 (by first | (with_reducible assumption) | assumption)
                        have q213:x121_4 < (x9_3.length:Int):=zz29 (by first | (with_reducible assumption) | assumption)
                        obtain ⟨ad213,e213,hx213_0⟩:=Kd.at_bool (Kd.R_reads' HO_119.out).2.2 x121_4 p213 q213
                        (try rw [← Nbq81.out] at hx213_0)
                        cases e213
                        replace p213:=eq_true p213
                        replace q213:=eq_true q213
                        go_wp2
                        (try simp only [← hl3_4])
                        go_roundg k4
                        case measure=>have:=HK1.out;have:=HK2.out;have:=HK3.out;have:=HK4.out;omega
                        case rel=>exact ⟨(x3_4),(wrap64 (x121_4+1)),(by first | rfl | (simp;done) | (simp [*];done)),H',⟨by have:=HK1.out;have:=HK2.out;have:=HK3.out;have:=HK4.out;omega⟩,⟨by (try simp only [hl3_3]);(try simp only [hl5_3]);(try simp only [hl3_4]);(with_reducible repeat (first | apply zz12 | apply zz13 | apply zz14));exact HO_3.out⟩,⟨by (try simp only [hl3_3]);(try simp only [hl5_3]);(try simp only [hl3_4]);(with_reducible repeat (first | apply zz15 | apply zz16 | apply zz17));exact HO_4.out⟩,⟨by (try simp only [hl3_3]);(try simp only [hl5_3]);(try simp only [hl3_4]);(with_reducible repeat (first | apply zz12 | apply zz13 | apply zz14));exact HO_5.out⟩,⟨by (try simp only [hl3_3]);(try simp only [hl5_3]);(try simp only [hl3_4]);(with_reducible repeat (first | apply zz12 | apply zz13 | apply zz14));exact HO_119.out⟩,⟨by (try simp only [hl3_3]);(try simp only [hl5_3]);(try simp only [hl3_4]);(with_reducible repeat (first | refine zz6 ?_ _ | refine zz7 ?_ | refine zz8 ?_ _));exact BK176.out⟩,⟨by repeat first | exact HB.out | apply zz2 | apply zz0 | apply zz1 | refine zz3 ?_ GE176.out⟩⟩
                      ·rw [if_neg c80] at H
                       exact absurd H (by simp)
                     ·rw [if_neg c79] at H
                      exact absurd H (by simp)
                    ·rw [if_neg c78] at H
                     have c78b0:decide (x121_4 < (x9_3.length:Int))=false:=decide_eq_false c78
                     (try simp only [hl3_3] at c78b0)
                     (try simp only [hl5_3] at c78b0)
                     (try simp only [hl3_4] at c78b0)
                     clear c78
                     have H':=zz31 H
                     clear H
                     go_wp2
                     (try simp only [← hl3_3,← hl5_3,← hl3_4])
                     go_roundg k4
                     case measure=>have:=HK1.out;have:=HK2.out;have:=HK3.out;have:=HK4.out;omega
                     case rel=>exact ⟨(x3_4),(x4_3),(x5_3),(wrap64 (x26_1+1)),(by first | rfl | (simp;done) | (simp [*];done)),H',⟨by have:=HK1.out;have:=HK2.out;have:=HK3.out;have:=HK4.out;omega⟩,⟨by (try simp only [hl3_3]);(try simp only [hl5_3]);(try simp only [hl3_4]);(with_reducible repeat (first | apply zz12 | apply zz13 | apply zz14));exact HO_3.out⟩,⟨by (try simp only [hl3_3]);(try simp only [hl5_3]);(try simp only [hl3_4]);(with_reducible repeat (first | apply zz15 | apply zz16 | apply zz17));exact Kd.S_mono HO_4.out (fun _ hk=>hk.1)⟩,⟨by (try simp only [hl3_3]);(try simp only [hl5_3]);(try simp only [hl3_4]);(with_reducible repeat (first | apply zz12 | apply zz13 | apply zz14));exact Kd.R_mono HO_5.out (fun _ hk=>trivial)⟩,⟨by (try simp only [hl3_3]);(try simp only [hl5_3]);(try simp only [hl3_4]);(with_reducible repeat (first | refine zz6 ?_ _ | refine zz7 ?_ | refine zz8 ?_ _));exact BK176.out⟩,⟨by repeat first | exact HB.out | apply zz2 | apply zz0 | apply zz1 | refine zz3 ?_ GE176.out⟩⟩
                ·rw [if_neg c37] at H
                 exact absurd H (by simp)
               ·rw [if_neg c36] at H
                exact absurd H (by simp)
            ·rw [if_neg c31] at H
             exact absurd H (by simp)
           ·rw [if_neg c30] at H
            exact absurd H (by simp)
          ·rw [if_neg c28] at H
           exact absurd H (by simp)
         ·rw [if_neg c27] at H
          exact absurd H (by simp)
     ·rw [if_neg c11] at H
      have c11b0:decide (x26_1 < (l0.length:Int))=false:=decide_eq_false c11
      clear c11
      replace H:=zz30.mp H
      obtain ⟨⟨t186,t187⟩,A870,H⟩:=H
      replace H:(some (t186,t187))=some (r1,r2):=H
      have A87:=zz31 A870
      clear A870
      simp only [Option.some.injEq,Prod.mk.injEq] at H
      obtain ⟨rfl,rfl⟩:=H
      obtain ⟨Ao88,co88,eo88⟩:=Kd.S_slice HO_4.out
      subst eo88
      go_wp2_with (first | ((with_reducible refine gate_callee (f:=61) rfl ?_);refine goesL_ (some 136) rfl rfl Try.func61 (by kernel_rfl) rfl #[.slice Ao88 x4_1.length co88] rfl (by (try simp only [zz26,zz27,zz28]);first | done | rfl | (simp only [zz24,zz25];rfl)) ?_;(with_reducible refine (spec_paOf.calls k1 _ _ x4_1 t186 t187 _ ?side1 ?side2 A87.out).mono ?_);(case side1=>repeat (first | exact (Kd.S_reads' HO_4.out).2.2 | (with_reducible refine zz18 ?_ _) | (with_reducible refine zz19 ?_ _) | (with_reducible refine zz20 ?_)));(case side2=>exact (Kd.S_reads' HO_4.out).2.1);rintro e w89 ⟨v188,rfl,ho0,hb⟩;refine ⟨_,rfl,?_⟩;have n0_:=zz31 (Kd.R_below (by (with_reducible repeat (first | apply zz12 | apply zz13 | apply zz14));exact HO_3.out) hb);have n1_:=zz31 (Kd.S_below (by (with_reducible repeat (first | apply zz15 | apply zz16 | apply zz17));exact HO_4.out) hb);have n2_:=zz31 (Kd.R_below (by (with_reducible repeat (first | apply zz12 | apply zz13 | apply zz14));exact HO_5.out) hb);have n3_:=zz31 (Kd.R_lower ho0 (zz5 (by repeat first | exact HB.out | apply zz2 | apply zz0 | apply zz1 | refine zz3 ?_ GE176.out)));have n4_:=zz31 (zz11 (g:=gb176) (o:=.cells #[.int .i64 0,.slice none 0 0] 32 (0,0)) (by (with_reducible repeat (first | refine zz6 ?_ _ | refine zz7 ?_ | refine zz8 ?_ _));exact BK176.out) hb);have n5_:=zz31 (zz4 (by repeat first | exact HB.out | apply zz2 | apply zz0 | apply zz1 | refine zz3 ?_ GE176.out) hb);clear HO_3;clear HO_4;clear HO_5;clear BK176;clear HB;have HO_3:=n0_;have HO_4:=n1_;have HO_5:=n2_;have HO189:=n3_;have BK176:=n4_;have HB:=n5_;clear n0_ n1_ n2_ n3_ n4_ n5_;(try clear hb);(try clear hb2);(try clear hk);(try clear hi);(try clear ho0);have hcz90_0:w89.cell? ⟨gb176,0,none⟩=some (.int .i64 0):=(zz9 BK176.out 0).trans rfl;have hcz90_1:w89.cell? ⟨gb176,1,none⟩=some (.slice none 0 0):=(zz9 BK176.out 1).trans rfl;have hfz90_0:=zz10 BK176.out 0;have hfz90_1:=zz10 BK176.out 1;obtain ⟨Ao91,co91,eo91⟩:=Kd.R_slice HO189.out;subst eo91))
      refine bodyPost_ret (results_cell_row rfl _ _ gb176 32 #[.int .i64 t186,.slice Ao91 t187.length co91] (0,0) _ rfl (by (with_reducible repeat (first | refine zz6 ?_ _ | refine zz7 ?_ | refine zz8 ?_ _));refine blk_put (cs:=#[.int .i64 t186,.slice none 0 0]) ?_ 1 _ rfl;(with_reducible repeat (first | refine zz6 ?_ _ | refine zz7 ?_ | refine zz8 ?_ _));refine blk_put (cs:=#[.int .i64 0,.slice none 0 0]) ?_ 0 _ rfl;(with_reducible repeat (first | refine zz6 ?_ _ | refine zz7 ?_ | refine zz8 ?_ _));exact BK176.out) Try.underlying32 rfl (by kernel_rfl)) rfl ?_
      exact ⟨_,by first | rfl | (simp [errW_none,errW_some] <;> rfl) | (simp [*,errW_none,errW_some] <;> rfl),by (with_reducible repeat (first | apply zz12 | apply zz13 | apply zz14));exact Kd.R_mono (Kd.R_far (p:=⟨gb176,1,none⟩) (Kd.R_far (p:=⟨gb176,0,none⟩) (Kd.R_types HO189.out BK176.out (by decide)) (fun _ hk=>hk.2) (.int .i64 t186)) (fun _ hk=>hk.2) (.slice Ao91 t187.length co91)) (fun _ hk=>trivial),by repeat first | exact HB.out | apply zz2 | apply zz0 | apply zz1 | refine zz3 ?_ GE176.out⟩
  ·rw [if_neg c5] at H
   exact absurd H (by simp)
 ·rw [if_neg c4] at H
  exact absurd H (by simp)

/-! ### spec_PartyOfNumbers: function 44 -/
def spec_PartyOfNumbers.f (k:Nat) (l0:List Int):Option (Int × (List (S80)) × Bool):=(spec_deGood.f k l0).bind fun t219=>(if t219=true then ((spec_deCan.f k l0).bind fun t220=>(if t220=true then ((spec_deMake.f k l0).bind fun bt221=>(some (bt221.1,bt221.2,true))) else (some (0,([]:List (S80)),false)))) else (some (0,([]:List (S80)),false)))
theorem spec_PartyOfNumbers.mono:∀ a0 k,LeO (spec_PartyOfNumbers.f k a0) (spec_PartyOfNumbers.f (k+1) a0):=by
 intro a0 k
 unfold spec_PartyOfNumbers.f
 repeat' first
   | (with_reducible exact spec_deCan.mono _ _)
   | (with_reducible exact spec_deGood.mono _ _)
   | (with_reducible exact spec_deMake.mono _ _)
   | (with_reducible exact LeO.refl _)
   | (with_reducible exact LeO.none _)
   | (with_reducible refine LeO.ite ?_ ?_)
   | (with_reducible refine LeO.bind ?_ (fun _=>?_))
   | exact spec_deCan.mono _ _
   | exact spec_deGood.mono _ _
   | exact spec_deMake.mono _ _
   | exact LeO.none _
   | refine LeO.ite ?_ ?_
   | refine LeO.bind ?_ (fun _=>?_)
set_option maxHeartbeats 8000000 in
set_option maxRecDepth 100000 in
theorem spec_PartyOfNumbers.calls (k:Nat) (A0:Option Addr) (c0:Nat) (l0:List Int) (r1:Int) (r2:List (S80)) (r3:Bool) (w:World) (hr0:Kd.C (Kd.int .i64) w A0 l0.length l0) (hc0:l0.length≤c0) (h:spec_PartyOfNumbers.f k l0=some (r1,r2,r3)) :
  Calls Try.prog 44 #[.slice A0 l0.length c0] w fun e w'=>∃ v1_:Value,e=.returned (.tuple #[.agg #[.int .i64 r1,v1_],.bool r3])∧Kd.R k80 80 w' w.heap.size (fun _=>True) v1_ r2∧Below w.heap.size w w':=by
 have hu32:=Try.underlying32
 have HR0:=zz31 hr0
 have HC0:=zz31 hc0
 clear hr0 hc0
 have HB:=zz31 (Below.refl w.heap.size w)
 have H:((spec_deGood.f k l0).bind fun t219=>(if t219=true then ((spec_deCan.f k l0).bind fun t220=>(if t220=true then ((spec_deMake.f k l0).bind fun bt221=>(some (bt221.1,bt221.2,true))) else (some (0,([]:List (S80)),false)))) else (some (0,([]:List (S80)),false))))=some (r1,r2,r3):=h
 clear h
 replace H:=zz30.mp H
 obtain ⟨t219,A20,H⟩:=H
 replace H:(if t219=true then ((spec_deCan.f k l0).bind fun t220=>(if t220=true then ((spec_deMake.f k l0).bind fun bt221=>(some (bt221.1,bt221.2,true))) else (some (0,([]:List (S80)),false)))) else (some (0,([]:List (S80)),false)))=some (r1,r2,r3):=H
 have A2:=zz31 A20
 clear A20
 by_cases c3:t219=true
 ·subst c3
  have H1:((spec_deCan.f k l0).bind fun t220=>(if t220=true then ((spec_deMake.f k l0).bind fun bt221=>(some (bt221.1,bt221.2,true))) else (some (0,([]:List (S80)),false))))=some (r1,r2,r3):=by rw [if_pos rfl] at H;exact H
  clear H
  have H:=H1
  clear H1
  replace H:=zz30.mp H
  obtain ⟨t220,A40,H⟩:=H
  replace H:(if t220=true then ((spec_deMake.f k l0).bind fun bt221=>(some (bt221.1,bt221.2,true))) else (some (0,([]:List (S80)),false)))=some (r1,r2,r3):=H
  have A4:=zz31 A40
  clear A40
  by_cases c5:t220=true
  ·subst c5
   have H1:((spec_deMake.f k l0).bind fun bt221=>(some (bt221.1,bt221.2,true)))=some (r1,r2,r3):=by rw [if_pos rfl] at H;exact H
   clear H
   have H:=H1
   clear H1
   replace H:=zz30.mp H
   obtain ⟨⟨t221,t222⟩,A60,H⟩:=H
   replace H:(some (t221,t222,true))=some (r1,r2,r3):=H
   have A6:=zz31 A60
   clear A60
   simp only [Option.some.injEq,Prod.mk.injEq] at H
   obtain ⟨rfl,rfl,rfl⟩:=H
   go_enter Try.func44,Try.ntmps44
   go_wp2_with (first | ((with_reducible refine gate_dst (N:=2) rfl ?_);refine box_event ?hg (N:=2) ?hd (cs:=#[.int .i64 0,.slice none 0 0]) (t:=32) ?hr ?_;(case hd=>rfl);(case hg=>rfl);(case hr=>first | (go_simp;done) | (go_simp;rfl));intro gb218 hg w7 hbox hb;have n0_:=zz31 (zz4 (by repeat first | exact HB.out | apply zz2 | apply zz0 | apply zz1) hb);have n1_:=zz31 (hbox);have n2_:=zz31 ((by rw [hg];exact (zz5 (by repeat first | exact HB.out | apply zz2 | apply zz0 | apply zz1)):w.heap.size≤gb218));have n3_:=zz31 ((by rw [hg];exact (zz5 (by repeat first | exact HB.out | apply zz2 | apply zz0 | apply zz1)):w.heap.size≤gb218));clear HB;have HB:=n0_;have BK218:=n1_;have GW218:=n2_;have GE218:=n3_;clear n0_ n1_ n2_ n3_;clear hb hbox hg) | ((with_reducible refine gate_callee (f:=56) rfl ?_);refine goesL_ (some 5) rfl rfl Try.func56 (by kernel_rfl) rfl #[.slice A0 l0.length c0] rfl (by (try simp only [zz26,zz27,zz28]);first | done | rfl | (simp only [zz24,zz25];rfl)) ?_;(with_reducible refine (spec_deGood.calls k _ _ l0 true _ ?side1 ?side2 A2.out).mono ?_);(case side1=>repeat (first | exact (Kd.C_below HR0.out HB.out) | (with_reducible refine zz18 ?_ _) | (with_reducible refine zz19 ?_ _) | (with_reducible refine zz20 ?_)));(case side2=>exact HC0.out);rintro e w' ⟨rfl,⟨nd,rfl⟩⟩;refine ⟨_,rfl,?_⟩;(try (rw [drewN_self w7];generalize hq_:World.drewN w7 _=w7;have n0_:Aside0 (w7.heap[gb218]?=some (.cells #[.int .i64 0,.slice none 0 0] 32 (0,0))):=⟨by rw [← hq_];exact (by (with_reducible repeat (first | refine zz6 ?_ _ | refine zz7 ?_ | refine zz8 ?_ _));exact BK218.out)⟩;have n1_:Aside0 (Below w.heap.size w w7):=⟨by rw [← hq_];exact (by repeat first | exact HB.out | apply zz2 | apply zz0 | apply zz1 | refine zz3 ?_ GE218.out)⟩;clear BK218 HB hq_;have BK218:=n0_;have HB:=n1_;clear n0_ n1_))) | (go_at_call 74;(with_reducible refine (spec_deCan.calls k _ _ l0 true _ ?side1 ?side2 A4.out).mono ?_);(case side1=>repeat (first | exact (Kd.C_below HR0.out HB.out) | (with_reducible refine zz18 ?_ _) | (with_reducible refine zz19 ?_ _) | (with_reducible refine zz20 ?_)));(case side2=>exact HC0.out);rintro e w8 ⟨rfl,hb⟩;have n0_:=zz31 (zz11 (g:=gb218) (o:=.cells #[.int .i64 0,.slice none 0 0] 32 (0,0)) (by (with_reducible repeat (first | refine zz6 ?_ _ | refine zz7 ?_ | refine zz8 ?_ _));exact BK218.out) hb);have n1_:=zz31 (zz4 (by repeat first | exact HB.out | apply zz2 | apply zz0 | apply zz1 | refine zz3 ?_ GE218.out) hb);clear BK218;clear HB;have BK218:=n0_;have HB:=n1_;clear n0_ n1_;(try clear hb);(try clear hb2);(try clear hk);(try clear hi)) | ((with_reducible refine gate_callee (f:=80) rfl ?_);refine goesL_ (some 14) rfl rfl Try.func80 (by kernel_rfl) rfl #[.slice A0 l0.length c0] rfl (by (try simp only [zz26,zz27,zz28]);first | done | rfl | (simp only [zz24,zz25];rfl)) ?_;(with_reducible refine (spec_deMake.calls k _ _ l0 t221 t222 _ ?side1 ?side2 A6.out).mono ?_);(case side1=>repeat (first | exact (Kd.C_below HR0.out HB.out) | (with_reducible refine zz18 ?_ _) | (with_reducible refine zz19 ?_ _) | (with_reducible refine zz20 ?_)));(case side2=>exact HC0.out);rintro e w9 ⟨v223,rfl,ho0,hb⟩;refine ⟨_,rfl,?_⟩;have n0_:=zz31 (Kd.R_lower ho0 (zz5 (by repeat first | exact HB.out | apply zz2 | apply zz0 | apply zz1 | refine zz3 ?_ GE218.out)));have n1_:=zz31 (zz11 (g:=gb218) (o:=.cells #[.int .i64 0,.slice none 0 0] 32 (0,0)) (by (with_reducible repeat (first | refine zz6 ?_ _ | refine zz7 ?_ | refine zz8 ?_ _));exact BK218.out) hb);have n2_:=zz31 (zz4 (by repeat first | exact HB.out | apply zz2 | apply zz0 | apply zz1 | refine zz3 ?_ GE218.out) hb);clear BK218;clear HB;have HO224:=n0_;have BK218:=n1_;have HB:=n2_;clear n0_ n1_ n2_;(try clear hb);(try clear hb2);(try clear hk);(try clear hi);(try clear ho0);have hcz10_0:w9.cell? ⟨gb218,0,none⟩=some (.int .i64 0):=(zz9 BK218.out 0).trans rfl;have hcz10_1:w9.cell? ⟨gb218,1,none⟩=some (.slice none 0 0):=(zz9 BK218.out 1).trans rfl;have hfz10_0:=zz10 BK218.out 0;have hfz10_1:=zz10 BK218.out 1;obtain ⟨Ao11,co11,eo11⟩:=Kd.R_slice HO224.out;subst eo11))
   refine bodyPost_ret (results_ct rfl _ _ gb218 32 #[.int .i64 t221,.slice Ao11 t222.length co11] (0,0) _ rfl (by (with_reducible repeat (first | refine zz6 ?_ _ | refine zz7 ?_ | refine zz8 ?_ _));refine blk_put (cs:=#[.int .i64 t221,.slice none 0 0]) ?_ 1 _ rfl;(with_reducible repeat (first | refine zz6 ?_ _ | refine zz7 ?_ | refine zz8 ?_ _));refine blk_put (cs:=#[.int .i64 0,.slice none 0 0]) ?_ 0 _ rfl;(with_reducible repeat (first | refine zz6 ?_ _ | refine zz7 ?_ | refine zz8 ?_ _));exact BK218.out) Try.underlying32 rfl (by kernel_rfl)) rfl ?_
   exact ⟨_,by first | rfl | (simp [errW_none,errW_some] <;> rfl) | (simp [*,errW_none,errW_some] <;> rfl),by (with_reducible repeat (first | apply zz12 | apply zz13 | apply zz14));exact Kd.R_mono (Kd.R_far (p:=⟨gb218,1,none⟩) (Kd.R_far (p:=⟨gb218,0,none⟩) (Kd.R_types HO224.out BK218.out (by decide)) (fun _ hk=>hk.2) (.int .i64 t221)) (fun _ hk=>hk.2) (.slice Ao11 t222.length co11)) (fun _ hk=>trivial),by repeat first | exact HB.out | apply zz2 | apply zz0 | apply zz1 | refine zz3 ?_ GE218.out⟩
  ·replace c5:=Bool.eq_false_iff.mpr c5
   subst c5
   have H1:(some (0,([]:List (S80)),false))=some (r1,r2,r3):=by rw [if_neg (show ¬ (false=true) by decide)] at H;exact H
   clear H
   have H:=H1
   clear H1
   simp only [Option.some.injEq,Prod.mk.injEq] at H
   obtain ⟨rfl,rfl,rfl⟩:=H
   go_enter Try.func44,Try.ntmps44
   go_wp2_with (first | ((with_reducible refine gate_dst (N:=2) rfl ?_);refine box_event ?hg (N:=2) ?hd (cs:=#[.int .i64 0,.slice none 0 0]) (t:=32) ?hr ?_;(case hd=>rfl);(case hg=>rfl);(case hr=>first | (go_simp;done) | (go_simp;rfl));intro gb218 hg w12 hbox hb;have n0_:=zz31 (zz4 (by repeat first | exact HB.out | apply zz2 | apply zz0 | apply zz1) hb);have n1_:=zz31 (hbox);have n2_:=zz31 ((by rw [hg];exact (zz5 (by repeat first | exact HB.out | apply zz2 | apply zz0 | apply zz1)):w.heap.size≤gb218));have n3_:=zz31 ((by rw [hg];exact (zz5 (by repeat first | exact HB.out | apply zz2 | apply zz0 | apply zz1)):w.heap.size≤gb218));clear HB;have HB:=n0_;have BK218:=n1_;have GW218:=n2_;have GE218:=n3_;clear n0_ n1_ n2_ n3_;clear hb hbox hg) | ((with_reducible refine gate_callee (f:=56) rfl ?_);refine goesL_ (some 5) rfl rfl Try.func56 (by kernel_rfl) rfl #[.slice A0 l0.length c0] rfl (by (try simp only [zz26,zz27,zz28]);first | done | rfl | (simp only [zz24,zz25];rfl)) ?_;(with_reducible refine (spec_deGood.calls k _ _ l0 true _ ?side1 ?side2 A2.out).mono ?_);(case side1=>repeat (first | exact (Kd.C_below HR0.out HB.out) | (with_reducible refine zz18 ?_ _) | (with_reducible refine zz19 ?_ _) | (with_reducible refine zz20 ?_)));(case side2=>exact HC0.out);rintro e w' ⟨rfl,⟨nd,rfl⟩⟩;refine ⟨_,rfl,?_⟩;(try (rw [drewN_self w12];generalize hq_:World.drewN w12 _=w12;have n0_:Aside0 (w12.heap[gb218]?=some (.cells #[.int .i64 0,.slice none 0 0] 32 (0,0))):=⟨by rw [← hq_];exact (by (with_reducible repeat (first | refine zz6 ?_ _ | refine zz7 ?_ | refine zz8 ?_ _));exact BK218.out)⟩;have n1_:Aside0 (Below w.heap.size w w12):=⟨by rw [← hq_];exact (by repeat first | exact HB.out | apply zz2 | apply zz0 | apply zz1 | refine zz3 ?_ GE218.out)⟩;clear BK218 HB hq_;have BK218:=n0_;have HB:=n1_;clear n0_ n1_))) | (go_at_call 74;(with_reducible refine (spec_deCan.calls k _ _ l0 false _ ?side1 ?side2 A4.out).mono ?_);(case side1=>repeat (first | exact (Kd.C_below HR0.out HB.out) | (with_reducible refine zz18 ?_ _) | (with_reducible refine zz19 ?_ _) | (with_reducible refine zz20 ?_)));(case side2=>exact HC0.out);rintro e w13 ⟨rfl,hb⟩;have n0_:=zz31 (zz11 (g:=gb218) (o:=.cells #[.int .i64 0,.slice none 0 0] 32 (0,0)) (by (with_reducible repeat (first | refine zz6 ?_ _ | refine zz7 ?_ | refine zz8 ?_ _));exact BK218.out) hb);have n1_:=zz31 (zz4 (by repeat first | exact HB.out | apply zz2 | apply zz0 | apply zz1 | refine zz3 ?_ GE218.out) hb);clear BK218;clear HB;have BK218:=n0_;have HB:=n1_;clear n0_ n1_;(try clear hb);(try clear hb2);(try clear hk);(try clear hi);have hcz14_0:w13.cell? ⟨gb218,0,none⟩=some (.int .i64 0):=(zz9 BK218.out 0).trans rfl;have hcz14_1:w13.cell? ⟨gb218,1,none⟩=some (.slice none 0 0):=(zz9 BK218.out 1).trans rfl;have hfz14_0:=zz10 BK218.out 0;have hfz14_1:=zz10 BK218.out 1))
   refine bodyPost_ret (results_ct rfl _ _ gb218 32 #[.int .i64 0,.slice none 0 0] (0,0) _ rfl (by (with_reducible repeat (first | refine zz6 ?_ _ | refine zz7 ?_ | refine zz8 ?_ _));refine blk_put (cs:=#[.int .i64 0,.slice none 0 0]) ?_ 1 _ rfl;(with_reducible repeat (first | refine zz6 ?_ _ | refine zz7 ?_ | refine zz8 ?_ _));refine blk_put (cs:=#[.int .i64 0,.slice none 0 0]) ?_ 0 _ rfl;(with_reducible repeat (first | refine zz6 ?_ _ | refine zz7 ?_ | refine zz8 ?_ _));exact BK218.out) Try.underlying32 rfl (by kernel_rfl)) rfl ?_
   exact ⟨_,by first | rfl | (simp [errW_none,errW_some] <;> rfl) | (simp [*,errW_none,errW_some] <;> rfl),by first | exact Kd.R_nil _ _ _ _ _ | exact Kd.N_nil _ _ _ _ _ | exact Kd.V_nil _ _ _ _ _ | exact Kd.Q_nil _ _ _ _ _ | exact Kd.S_nil _ _ _ _ _,by repeat first | exact HB.out | apply zz2 | apply zz0 | apply zz1 | refine zz3 ?_ GE218.out⟩
 ·replace c3:=Bool.eq_false_iff.mpr c3
  subst c3
  have H1:(some (0,([]:List (S80)),false))=some (r1,r2,r3):=by rw [if_neg (show ¬ (false=true) by decide)] at H;exact H
  clear H
  have H:=H1
  clear H1
  simp only [Option.some.injEq,Prod.mk.injEq] at H
  obtain ⟨rfl,rfl,rfl⟩:=H
  go_enter Try.func44,Try.ntmps44
  go_wp2_with (first | ((with_reducible refine gate_dst (N:=2) rfl ?_);refine box_event ?hg (N:=2) ?hd (cs:=#[.int .i64 0,.slice none 0 0]) (t:=32) ?hr ?_;(case hd=>rfl);(case hg=>rfl);(case hr=>first | (go_simp;done) | (go_simp;rfl));intro gb218 hg w15 hbox hb;have n0_:=zz31 (zz4 (by repeat first | exact HB.out | apply zz2 | apply zz0 | apply zz1) hb);have n1_:=zz31 (hbox);have n2_:=zz31 ((by rw [hg];exact (zz5 (by repeat first | exact HB.out | apply zz2 | apply zz0 | apply zz1)):w.heap.size≤gb218));have n3_:=zz31 ((by rw [hg];exact (zz5 (by repeat first | exact HB.out | apply zz2 | apply zz0 | apply zz1)):w.heap.size≤gb218));clear HB;have HB:=n0_;have BK218:=n1_;have GW218:=n2_;have GE218:=n3_;clear n0_ n1_ n2_ n3_;clear hb hbox hg) | ((with_reducible refine gate_callee (f:=56) rfl ?_);refine goesL_ (some 5) rfl rfl Try.func56 (by kernel_rfl) rfl #[.slice A0 l0.length c0] rfl (by (try simp only [zz26,zz27,zz28]);first | done | rfl | (simp only [zz24,zz25];rfl)) ?_;(with_reducible refine (spec_deGood.calls k _ _ l0 false _ ?side1 ?side2 A2.out).mono ?_);(case side1=>repeat (first | exact (Kd.C_below HR0.out HB.out) | (with_reducible refine zz18 ?_ _) | (with_reducible refine zz19 ?_ _) | (with_reducible refine zz20 ?_)));(case side2=>exact HC0.out);rintro e w' ⟨rfl,⟨nd,rfl⟩⟩;refine ⟨_,rfl,?_⟩;(try (rw [drewN_self w15];generalize hq_:World.drewN w15 _=w15;have n0_:Aside0 (w15.heap[gb218]?=some (.cells #[.int .i64 0,.slice none 0 0] 32 (0,0))):=⟨by rw [← hq_];exact (by (with_reducible repeat (first | refine zz6 ?_ _ | refine zz7 ?_ | refine zz8 ?_ _));exact BK218.out)⟩;have n1_:Aside0 (Below w.heap.size w w15):=⟨by rw [← hq_];exact (by repeat first | exact HB.out | apply zz2 | apply zz0 | apply zz1 | refine zz3 ?_ GE218.out)⟩;clear BK218 HB hq_;have BK218:=n0_;have HB:=n1_;clear n0_ n1_));have hcz16_0:w15.cell? ⟨gb218,0,none⟩=some (.int .i64 0):=(zz9 BK218.out 0).trans rfl;have hcz16_1:w15.cell? ⟨gb218,1,none⟩=some (.slice none 0 0):=(zz9 BK218.out 1).trans rfl;have hfz16_0:=zz10 BK218.out 0;have hfz16_1:=zz10 BK218.out 1))
  refine bodyPost_ret (results_ct rfl _ _ gb218 32 #[.int .i64 0,.slice none 0 0] (0,0) _ rfl (by (with_reducible repeat (first | refine zz6 ?_ _ | refine zz7 ?_ | refine zz8 ?_ _));refine blk_put (cs:=#[.int .i64 0,.slice none 0 0]) ?_ 1 _ rfl;(with_reducible repeat (first | refine zz6 ?_ _ | refine zz7 ?_ | refine zz8 ?_ _));refine blk_put (cs:=#[.int .i64 0,.slice none 0 0]) ?_ 0 _ rfl;(with_reducible repeat (first | refine zz6 ?_ _ | refine zz7 ?_ | refine zz8 ?_ _));exact BK218.out) Try.underlying32 rfl (by kernel_rfl)) rfl ?_
  exact ⟨_,by first | rfl | (simp [errW_none,errW_some] <;> rfl) | (simp [*,errW_none,errW_some] <;> rfl),by first | exact Kd.R_nil _ _ _ _ _ | exact Kd.N_nil _ _ _ _ _ | exact Kd.V_nil _ _ _ _ _ | exact Kd.Q_nil _ _ _ _ _ | exact Kd.S_nil _ _ _ _ _,by repeat first | exact HB.out | apply zz2 | apply zz0 | apply zz1 | refine zz3 ?_ GE218.out⟩

/-! ### impl_within: function 78 -/
def impl_within.f (a0:Int) (a1:Int) (a2:Int):Option (Bool):=if a1≤a0 then (some (decide (a0≤a2))) else (some false)
set_option maxHeartbeats 8000000 in
set_option maxRecDepth 100000 in
theorem impl_within.calls (a0:Int) (a1:Int) (a2:Int) (r:Bool) (w:World) (h:impl_within.f a0 a1 a2=some r) :
  Calls Try.prog 78 #[.int .i64 a0,.int .i64 a1,.int .i64 a2] w fun e w'=>e=.returned (.bool r)∧Drawn0 w w':=by
 have H:(if a1≤a0 then (some (decide (a0≤a2))) else (some false))=some r:=h
 clear h
 by_cases c4:a1≤a0
 ·rw [if_pos c4] at H
  have c4b0:decide (a1≤a0)=true:=decide_eq_true c4
  clear c4
  obtain rfl:=Option.some.inj H
  go_enter Try.func78,Try.ntmps78
  go_wp2
  go_ret
  exact ⟨by first | rfl | (simp;done) | (simp [*];done),by repeat (first | exact Drawn0.refl _ | apply Drawn0.step)⟩
 ·rw [if_neg c4] at H
  have c4b0:decide (a1≤a0)=false:=decide_eq_false c4
  clear c4
  obtain rfl:=Option.some.inj H
  go_enter Try.func78,Try.ntmps78
  go_wp2
  go_ret
  exact ⟨by first | rfl | (simp;done) | (simp [*];done),by repeat (first | exact Drawn0.refl _ | apply Drawn0.step)⟩

/-! ### impl_areCrowd: function 91 -/
def impl_areCrowd.f (a0:Int):Option (Bool):=(impl_within.f a0 0 12).bind fun t225=>(some t225)
set_option maxHeartbeats 8000000 in
set_option maxRecDepth 100000 in
theorem impl_areCrowd.calls (a0:Int) (r:Bool) (w:World) (h:impl_areCrowd.f a0=some r) :
  Calls Try.prog 91 #[.int .i64 a0] w fun e w'=>e=.returned (.bool r)∧Drawn0 w w':=by
 have H:((impl_within.f a0 0 12).bind fun t225=>(some t225))=some r:=h
 clear h
 replace H:=zz30.mp H
 obtain ⟨t225,A20,H⟩:=H
 replace H:(some t225)=some r:=H
 have A2:=zz31 A20
 clear A20
 obtain rfl:=Option.some.inj H
 go_enter Try.func91,Try.ntmps91
 go_wp2_with (first | ((with_reducible refine gate_callee (f:=78) rfl ?_);refine goesL_ (some 4) rfl rfl Try.func78 (by kernel_rfl) rfl #[.int .i64 a0,.int .i64 0,.int .i64 12] rfl (by (try simp only [zz26,zz27,zz28]);first | done | rfl | (simp only [zz24,zz25];rfl)) ?_;(with_reducible refine (impl_within.calls a0 0 12 t225 _ A2.out).mono ?_);rintro e w' ⟨rfl,⟨nd,rfl⟩⟩;refine ⟨_,rfl,?_⟩))
 go_ret
 exact ⟨by first | rfl | (simp;done) | (simp [*];done),by repeat (first | exact Drawn0.refl _ | apply Drawn0.step)⟩

-- NOT PRINTED: function 67 (slices_IndexFunc_int_int)

-- NOT PRINTED: function 98 (slices_ContainsFunc_int_int)

-- NOT PRINTED: function 99 (impl_areWithin_1)

/-! ### impl_areWithin: function 92 (a contract of our own) -/
/-- A function value g (bound to lb) answers p at every whole number, in every later world; it may draw; it makes nothing. -/
def PredI (g:Nat) (lb:Array Value) (p:Int→Bool) (w:World):Prop :=
 ∀ (W:World) (x:Int),Below w.heap.size w W→Calls Try.prog g (#[.int .i64 x] ++ lb) W fun e w'=>e=.returned (.bool (p x))∧∃ q,w'=W.drewN q
/-- slices.IndexFunc at whole numbers, whatever the predicate: the place of the first element at which it holds, or -1. -/
def idxP (p:Int→Bool):List Int→Int
 | []=>-1
 | x :: xs=>if p x then 0 else if idxP p xs < 0 then -1 else idxP p xs+1
theorem idxP_hit (p:Int→Bool):∀ (xs:List Int) (k:Nat),k < xs.length→(∀ j,j < k→p (xs.getD j 0)=false)→p (xs.getD k 0)=true→idxP p xs=k
 | [],k,h,_,_=>by simp at h
 | x :: xs,0,_,_,hp=>by simp at hp;simp [idxP,hp]
 | x :: xs,k+1,h,hn,hp=>by
  have h0:=hn 0 (by omega)
  have ih:=idxP_hit p xs k (by simpa using h) (fun j hj=>by have:=hn (j+1) (by omega);simpa using this) (by simpa using hp)
  simp at h0
  simp [idxP,h0,ih];omega
theorem idxP_miss (p:Int→Bool):∀ (xs:List Int),(∀ j,j < xs.length→p (xs.getD j 0)=false)→idxP p xs=-1
 | [],_=>rfl
 | x :: xs,hn=>by
  have h0:=hn 0 (by simp)
  have ih:=idxP_miss p xs (fun j hj=>by have:=hn (j+1) (by simpa using hj);simpa using this)
  simp at h0
  simp [idxP,h0,ih]
theorem idxP_nonneg (p:Int→Bool) (xs:List Int):decide (0≤idxP p xs)=xs.any p:=by
 induction xs with
 | nil=>rfl
 | cons x xs ih =>
  simp only [idxP,List.any_cons,← ih]
  by_cases h:p x=true
  ·simp [h]
  ·by_cases h2:idxP p xs < 0
   ·have:¬ 0≤idxP p xs:=by omega
    simp [h,h2,this]
   ·have h3:0≤idxP p xs:=by omega
    have h4:0≤idxP p xs+1:=by omega
    simp [h,h2,h3,h4]
set_option maxHeartbeats 2000000 in
theorem idxInt_with (p:Int→Bool) (g:Nat) (lb:Array Value) (eg:∀ args w,(callFunc g args).run Try.prog w=.ok (.enter g args) w) (A0:Option Addr) (c0:Nat) (l0:List Int) (w:World)
  (hp:PredI g lb p w) (hr0:Kd.C (Kd.int .i64) w A0 l0.length l0) :
  Calls Try.prog 67 #[.slice A0 l0.length c0,.func (.func g) #[] lb] w fun e w'=>e=.returned (.int .i64 (idxP p l0))∧∃ q,w'=w.drewN q:=by
 have hpAt:∀ (x:Int) (q:Nat),Calls Try.prog g (#[.int .i64 x] ++ lb) (w.drewN q) fun e w'=>e=.returned (.bool (p x))∧∃ q',w'=(w.drewN q).drewN q':=fun x q=>hp _ x (zz0 (Below.refl _ w) q)
 have HR0:=zz31 hr0
 have hbig:l0.length≤9223372036854775807:=hr0.2.1
 clear hp hr0
 go_enter Try.func67,Try.ntmps67
 go_wp2
 go_loopg [5,8] l0.length (fun gg _ s8 wr=>∃ kk q:Nat,kk≤l0.length∧l0.length - kk≤gg∧s8=.int .i64 kk∧wr=w.drewN q∧Aside0 (∀ j,j < kk→p (l0.getD j 0)=false))
 case atStart=>exact ⟨0,0,Nat.zero_le _,by omega,rfl,rfl,⟨fun j hj=>absurd hj (Nat.not_lt_zero _)⟩⟩
 case round =>
  obtain ⟨kk,q,hkk,hg,rfl,rfl,A⟩:=hrel
  by_cases hlt:kk < l0.length
  ·have hltz:(kk:Int) < (l0.length:Int):=by omega
   obtain ⟨ad,e0,hcell⟩:=Kd.at_int HR0.out (kk:Int) (by omega) (by omega)
   cases e0
   have hcell':w.cell? (ad.add kk)=some (.int .i64 (rd l0 kk)):=hcell
   clear hcell
   obtain ⟨y,hy⟩:∃ y,y=rd l0 kk:=⟨_,rfl⟩
   rw [← hy] at hcell'
   have B:Aside0 (l0.getD kk 0=y):=⟨hy.symm⟩
   clear hy
   have hcall:=hpAt y
   cases hq:p y with
   | true =>
    rw [hq] at hcall
    go_wp2_with (go_at_fn g;refine (hcall _).mono ?_;rintro e w' ⟨rfl,q',rfl⟩)
    go_ret
    refine ⟨?_,_,rfl⟩
    rw [idxP_hit p l0 kk hlt A.out (by rw [B.out];exact hq)]
    rfl
   | false =>
    rw [hq] at hcall
    go_wp2_with (go_at_fn g;refine (hcall _).mono ?_;rintro e w' ⟨rfl,q',rfl⟩)
    go_roundg (l0.length - (kk+1))
    case measure=>omega
    case rel =>
     refine ⟨kk+1,_,by omega,by omega,by go_num,rfl,⟨fun j hj=>?_⟩⟩
     by_cases e:j=kk
     ·subst e
      rw [B.out];exact hq
     ·exact A.out j (by omega)
  ·have hltz:¬ (kk:Int) < (l0.length:Int):=by omega
   have hkl:kk=l0.length:=by omega
   have A2:Aside0 (idxP p l0=-1):=⟨idxP_miss p l0 (by rw [← hkl];exact A.out)⟩
   clear hkl
   go_wp2
   go_ret
   refine ⟨?_,q,rfl⟩
   rw [A2.out]
   rfl
set_option maxHeartbeats 1000000 in
theorem hasInt_with (p:Int→Bool) (g:Nat) (lb:Array Value) (eg:∀ args w,(callFunc g args).run Try.prog w=.ok (.enter g args) w) (A0:Option Addr) (c0:Nat) (l0:List Int) (w:World)
  (hp:PredI g lb p w) (hr0:Kd.C (Kd.int .i64) w A0 l0.length l0) :
  Calls Try.prog 98 #[.slice A0 l0.length c0,.func (.func g) #[] lb] w fun e w'=>e=.returned (.bool (l0.any p))∧∃ q,w'=w.drewN q:=by
 rw [← idxP_nonneg]
 go_enter Try.func98,Try.ntmps98
 go_wp2_with (go_at_call 67;refine (idxInt_with p g lb eg A0 c0 l0 _ hp hr0).mono ?_;rintro e w' ⟨rfl,q,rfl⟩)
 go_ret
 exact ⟨rfl,q,rfl⟩
theorem impl_areWithin.pred (lo hi:Int) (B1 B2:Nat) (w:World) (h1:B1 < w.heap.size) (h2:B2 < w.heap.size) (c1:w.cell? ⟨B1,0,none⟩=some (.int .i64 lo)) (c2:w.cell? ⟨B2,0,none⟩=some (.int .i64 hi)) :
  PredI 99 #[.pointer (some ⟨B1,0,none⟩),.pointer (some ⟨B2,0,none⟩)] (fun x=>!(decide (lo≤x) && decide (x≤hi))) w:=fun W x hb=>by
 have hc1:W.cell? ⟨B1,0,none⟩=some (.int .i64 lo):=(hb.cell (p:=⟨B1,0,none⟩) h1).trans c1
 have hc2:W.cell? ⟨B2,0,none⟩=some (.int .i64 hi):=(hb.cell (p:=⟨B2,0,none⟩) h2).trans c2
 clear c1 c2 h1 h2 hb
 show Calls Try.prog 99 #[.int .i64 x,.pointer (some ⟨B1,0,none⟩),.pointer (some ⟨B2,0,none⟩)] W _
 go_enter Try.func99,Try.ntmps99
 go_wp2
 all_goals (go_ret;exact ⟨by simp_all,0,rfl⟩)
def impl_areWithin.f (l0:List Int) (a1:Int) (a2:Int):Option (Bool):=some (l0.all fun n=>decide (a1≤n) && decide (n≤a2))
set_option maxHeartbeats 1000000 in
theorem impl_areWithin.calls (A0:Option Addr) (c0:Nat) (l0:List Int) (a1:Int) (a2:Int) (r:Bool) (w:World) (hr0:Kd.C (Kd.int .i64) w A0 l0.length l0) (hc0:l0.length≤c0) (h:impl_areWithin.f l0 a1 a2=some r) :
  Calls Try.prog 92 #[.slice A0 l0.length c0,.int .i64 a1,.int .i64 a2] w fun e w'=>e=.returned (.bool r)∧Below w.heap.size w w':=by
 have eg:∀ args w,(callFunc 99 args).run Try.prog w=.ok (.enter 99 args) w:=enters_of Try.func99 (by kernel_rfl) rfl
 have hcon:=hasInt_with (fun x=>!(decide (a1≤x) && decide (x≤a2))) 99 #[.pointer (some ⟨w.heap.size,0,none⟩),.pointer (some ⟨w.heap.size+1,0,none⟩)] eg A0 c0 l0 ((w.alloc (.cells #[.int .i64 a1] 3)).alloc (.cells #[.int .i64 a2] 3))
  (impl_areWithin.pred a1 a2 w.heap.size (w.heap.size+1) _ (by simp;omega) (by simp) (by simp) (by simp)) (zz18 (zz18 hr0 _) _)
 have hr:(!l0.any fun x=>!(decide (a1≤x) && decide (x≤a2)))=r:=by
  have h':=Option.some.inj h
  rw [← h',List.not_any_eq_all_not]
  simp
 clear h hr0
 generalize (l0.any fun x=>!(decide (a1≤x) && decide (x≤a2)))=b at hcon hr
 subst hr
 go_enter Try.func92,Try.ntmps92
 go_wp2_with (go_at_call 98;refine hcon.mono ?_;rintro e w' ⟨rfl,q,rfl⟩)
 go_ret
 exact ⟨rfl,zz0 (((Below.refl _ w).alloc (Nat.le_refl _) _).alloc (by simp) _) q⟩

/-! ### impl_IsNumbers: function 62 -/
def impl_IsNumbers.f (l0:List Int):Option (Bool):=(impl_areCrowd.f (l0.length:Int)).bind fun t226=>(if t226=true then ((impl_areWithin.f l0 0 (wrap64 ((l0.length:Int) - 1))).bind fun t227=>(some t227)) else (some false))
set_option maxHeartbeats 8000000 in
set_option maxRecDepth 100000 in
theorem impl_IsNumbers.calls (A0:Option Addr) (c0:Nat) (l0:List Int) (r:Bool) (w:World) (hr0:Kd.C (Kd.int .i64) w A0 l0.length l0) (hc0:l0.length≤c0) (h:impl_IsNumbers.f l0=some r) :
  Calls Try.prog 62 #[.slice A0 l0.length c0] w fun e w'=>e=.returned (.bool r)∧Below w.heap.size w w':=by
 have HR0:=zz31 hr0
 have HC0:=zz31 hc0
 clear hr0 hc0
 have HB:=zz31 (Below.refl w.heap.size w)
 have H:((impl_areCrowd.f (l0.length:Int)).bind fun t226=>(if t226=true then ((impl_areWithin.f l0 0 (wrap64 ((l0.length:Int) - 1))).bind fun t227=>(some t227)) else (some false)))=some r:=h
 clear h
 replace H:=zz30.mp H
 obtain ⟨t226,A20,H⟩:=H
 replace H:(if t226=true then ((impl_areWithin.f l0 0 (wrap64 ((l0.length:Int) - 1))).bind fun t227=>(some t227)) else (some false))=some r:=H
 have A2:=zz31 A20
 clear A20
 by_cases c3:t226=true
 ·subst c3
  have H1:((impl_areWithin.f l0 0 (wrap64 ((l0.length:Int) - 1))).bind fun t227=>(some t227))=some r:=by rw [if_pos rfl] at H;exact H
  clear H
  have H:=H1
  clear H1
  replace H:=zz30.mp H
  obtain ⟨t227,A40,H⟩:=H
  replace H:(some t227)=some r:=H
  have A4:=zz31 A40
  clear A40
  obtain rfl:=Option.some.inj H
  go_enter Try.func62,Try.ntmps62
  go_wp2_with (first | ((with_reducible refine gate_callee (f:=91) rfl ?_);refine goesL_ (some 5) rfl rfl Try.func91 (by kernel_rfl) rfl #[.int .i64 (l0.length:Int)] rfl (by (try simp only [zz26,zz27,zz28]);first | done | rfl | (simp only [zz24,zz25];rfl)) ?_;(with_reducible refine (impl_areCrowd.calls (l0.length:Int) true _ A2.out).mono ?_);rintro e w' ⟨rfl,⟨nd,rfl⟩⟩;refine ⟨_,rfl,?_⟩) | (go_at_call 92;(with_reducible refine (impl_areWithin.calls _ _ l0 0 (wrap64 ((l0.length:Int) - 1)) t227 _ ?side1 ?side2 A4.out).mono ?_);(case side1=>repeat (first | exact HR0.out | (with_reducible refine zz18 ?_ _) | (with_reducible refine zz19 ?_ _) | (with_reducible refine zz20 ?_)));(case side2=>exact HC0.out);rintro e w5 ⟨rfl,hb⟩;have n0_:=zz31 (zz4 (by repeat first | exact HB.out | apply zz2 | apply zz0 | apply zz1) hb);clear HB;have HB:=n0_;clear n0_;(try clear hb);(try clear hb2);(try clear hk);(try clear hi)))
  go_ret
  exact ⟨by first | rfl | (simp [errW_none,errW_some] <;> rfl) | (simp [*,errW_none,errW_some] <;> rfl),by repeat first | exact HB.out | apply zz2 | apply zz0 | apply zz1⟩
 ·replace c3:=Bool.eq_false_iff.mpr c3
  subst c3
  have H1:(some false)=some r:=by rw [if_neg (show ¬ (false=true) by decide)] at H;exact H
  clear H
  have H:=H1
  clear H1
  obtain rfl:=Option.some.inj H
  go_enter Try.func62,Try.ntmps62
  go_wp2_with (first | ((with_reducible refine gate_callee (f:=91) rfl ?_);refine goesL_ (some 5) rfl rfl Try.func91 (by kernel_rfl) rfl #[.int .i64 (l0.length:Int)] rfl (by (try simp only [zz26,zz27,zz28]);first | done | rfl | (simp only [zz24,zz25];rfl)) ?_;(with_reducible refine (impl_areCrowd.calls (l0.length:Int) false _ A2.out).mono ?_);rintro e w' ⟨rfl,⟨nd,rfl⟩⟩;refine ⟨_,rfl,?_⟩))
  go_ret
  exact ⟨by first | rfl | (simp [errW_none,errW_some] <;> rfl) | (simp [*,errW_none,errW_some] <;> rfl),by repeat first | exact HB.out | apply zz2 | apply zz0 | apply zz1⟩

/-! ### impl_sum: function 64 -/
def impl_sum.l0:Nat→Int→List Int→Int→Int→Option (Int)
 | 0,_,_,_,_=>none
 | k+1,x3,x6,x7,x8=>if x8 < x7 then (if 0≤x8 then (if x8 < (x6.length:Int) then (impl_sum.l0 k (wrap64 (x3+(rd x6 x8))) x6 x7 (wrap64 (x8+1))) else (none)) else (none)) else (some x3)
def impl_sum.f (k:Nat) (l0:List Int):Option (Int):=impl_sum.l0 k 0 l0 (l0.length:Int) 0
theorem impl_sum.mono_l:∀ k,(∀ y0 y1 y2 y3,LeO (impl_sum.l0 k y0 y1 y2 y3) (impl_sum.l0 (k+1) y0 y1 y2 y3))
 | 0=>fun _ _ _ _ r h=>by simp [impl_sum.l0] at h
 | k+1=>by
  have ih0:=impl_sum.mono_l k
  ·intro y0 y1 y2 y3
   unfold impl_sum.l0
   repeat' first
   | (with_reducible exact ih0 _ _ _ _)
   | (with_reducible exact LeO.refl _)
   | (with_reducible exact LeO.none _)
   | (with_reducible refine LeO.ite ?_ ?_)
   | (with_reducible refine LeO.bind ?_ (fun _=>?_))
   | exact ih0 _ _ _ _
   | exact LeO.none _
   | refine LeO.ite ?_ ?_
   | refine LeO.bind ?_ (fun _=>?_)
theorem impl_sum.mono:∀ a0 k,LeO (impl_sum.f k a0) (impl_sum.f (k+1) a0):=by
 intro a0 k
 have ih0:=impl_sum.mono_l k
 unfold impl_sum.f
 repeat' first
   | (with_reducible exact ih0 _ _ _ _)
   | (with_reducible exact LeO.refl _)
   | (with_reducible exact LeO.none _)
   | (with_reducible refine LeO.ite ?_ ?_)
   | (with_reducible refine LeO.bind ?_ (fun _=>?_))
   | exact ih0 _ _ _ _
   | exact LeO.none _
   | refine LeO.ite ?_ ?_
   | refine LeO.bind ?_ (fun _=>?_)
set_option maxHeartbeats 8000000 in
set_option maxRecDepth 100000 in
theorem impl_sum.calls (k:Nat) (A0:Option Addr) (c0:Nat) (l0:List Int) (r:Int) (w:World) (hr0:Kd.C (Kd.int .i64) w A0 l0.length l0) (hc0:l0.length≤c0) (h:impl_sum.f k l0=some r) :
  Calls Try.prog 64 #[.slice A0 l0.length c0] w fun e w'=>e=.returned (.int .i64 r)∧Drawn0 w w':=by
 have HR0:=zz31 hr0
 have HC0:=zz31 hc0
 clear hr0 hc0
 have H:(impl_sum.l0 k 0 l0 (l0.length:Int) 0)=some r:=h
 clear h
 have H':=zz31 H
 clear H
 go_enter Try.func64,Try.ntmps64
 go_wp2
 go_loopg [3,8] k (fun kq v3 v8 w'=>∃ (x3_1:Int) (x8_1:Int),v3=.int .i64 x3_1∧v8=.int .i64 x8_1∧Aside0 (impl_sum.l0 kq x3_1 l0 (l0.length:Int) x8_1=some r)∧Aside0 (kq≤k)∧Drawn0 w w')
 case atStart=>exact ⟨(0),(0),(by first | rfl | (simp;done) | (simp [*];done)),(by first | rfl | (simp;done) | (simp [*];done)),H',⟨Nat.le_refl _⟩,by repeat (first | exact Drawn0.refl _ | apply Drawn0.step)⟩
 case round =>
  clear H'
  obtain ⟨x3_1,x8_1,rfl,rfl,HA,HK1,⟨m1,rfl⟩⟩:=hrel
  cases gk with
  | zero=>exact absurd HA.out (by simp [impl_sum.l0])
  | succ k1 =>
   have H:=HA.out
   clear HA
   simp only [impl_sum.l0] at H
   by_cases c2:x8_1 < (l0.length:Int)
   ·rw [if_pos c2] at H
    have c2b0:decide (x8_1 < (l0.length:Int))=true:=decide_eq_true c2
    clear c2
    by_cases c3:0≤x8_1
    ·rw [if_pos c3] at H
     have c3b0:decide (0≤x8_1)=true:=decide_eq_true c3
     clear c3
     by_cases c4:x8_1 < (l0.length:Int)
     ·rw [if_pos c4] at H
      have c4b0:decide (x8_1 < (l0.length:Int))=true:=decide_eq_true c4
      clear c4
      have H':=zz31 H
      clear H
      have p228:0≤(x8_1:Int):=zz29 (by first | (with_reducible assumption) | assumption)
      have q228:x8_1 < (l0.length:Int):=zz29 (by first | (with_reducible assumption) | assumption)
      obtain ⟨ad228,e228,hx228_0⟩:=Kd.at_int HR0.out x8_1 p228 q228
      cases e228
      replace p228:=eq_true p228
      replace q228:=eq_true q228
      go_wp2
      go_roundg k1
      case measure=>have:=HK1.out;omega
      case rel=>exact ⟨(wrap64 (x3_1+(rd l0 x8_1))),(wrap64 (x8_1+1)),(by first | rfl | (simp;done) | (simp [*];done)),(by first | rfl | (simp;done) | (simp [*];done)),H',⟨by have:=HK1.out;omega⟩,by repeat (first | exact Drawn0.refl _ | apply Drawn0.step)⟩
     ·rw [if_neg c4] at H
      exact absurd H (by simp)
    ·rw [if_neg c3] at H
     exact absurd H (by simp)
   ·rw [if_neg c2] at H
    have c2b0:decide (x8_1 < (l0.length:Int))=false:=decide_eq_false c2
    clear c2
    obtain rfl:=Option.some.inj H
    go_wp2
    go_ret
    exact ⟨by first | rfl | (simp;done) | (simp [*];done),by repeat (first | exact Drawn0.refl _ | apply Drawn0.step)⟩

-- NOT PRINTED: function 105 (slices_AppendSeq_int_int)

-- NOT PRINTED: function 100 (slices_Collect_int)

/-! ### cmp_isNaN_int: function 126 -/
def cmp_isNaN_int.f (a0:Int):Option (Bool):=some (a0 != a0)
set_option maxHeartbeats 8000000 in
set_option maxRecDepth 100000 in
theorem cmp_isNaN_int.calls (a0:Int) (r:Bool) (w:World) (h:cmp_isNaN_int.f a0=some r) :
  Calls Try.prog 126 #[.int .i64 a0] w fun e w'=>e=.returned (.bool r)∧Drawn0 w w':=by
 have H:(some (a0 != a0))=some r:=h
 clear h
 obtain rfl:=Option.some.inj H
 go_enter Try.func126,Try.ntmps126
 go_wp2
 go_ret
 exact ⟨by first | rfl | (simp;done) | (simp [*];done),by repeat (first | exact Drawn0.refl _ | apply Drawn0.step)⟩

/-! ### cmp_Less_int: function 115 -/
def cmp_Less_int.f (a0:Int) (a1:Int):Option (Bool):=(cmp_isNaN_int.f a0).bind fun t229=>(if t229=true then ((cmp_isNaN_int.f a1).bind fun t230=>(if t230=true then (some (decide (a0 < a1))) else (some true))) else (some (decide (a0 < a1))))
set_option maxHeartbeats 8000000 in
set_option maxRecDepth 100000 in
theorem cmp_Less_int.calls (a0:Int) (a1:Int) (r:Bool) (w:World) (h:cmp_Less_int.f a0 a1=some r) :
  Calls Try.prog 115 #[.int .i64 a0,.int .i64 a1] w fun e w'=>e=.returned (.bool r)∧Drawn0 w w':=by
 have H:((cmp_isNaN_int.f a0).bind fun t229=>(if t229=true then ((cmp_isNaN_int.f a1).bind fun t230=>(if t230=true then (some (decide (a0 < a1))) else (some true))) else (some (decide (a0 < a1)))))=some r:=h
 clear h
 replace H:=zz30.mp H
 obtain ⟨t229,A30,H⟩:=H
 replace H:(if t229=true then ((cmp_isNaN_int.f a1).bind fun t230=>(if t230=true then (some (decide (a0 < a1))) else (some true))) else (some (decide (a0 < a1))))=some r:=H
 have A3:=zz31 A30
 clear A30
 by_cases c4:t229=true
 ·subst c4
  have H1:((cmp_isNaN_int.f a1).bind fun t230=>(if t230=true then (some (decide (a0 < a1))) else (some true)))=some r:=by rw [if_pos rfl] at H;exact H
  clear H
  have H:=H1
  clear H1
  replace H:=zz30.mp H
  obtain ⟨t230,A50,H⟩:=H
  replace H:(if t230=true then (some (decide (a0 < a1))) else (some true))=some r:=H
  have A5:=zz31 A50
  clear A50
  by_cases c6:t230=true
  ·subst c6
   have H1:(some (decide (a0 < a1)))=some r:=by rw [if_pos rfl] at H;exact H
   clear H
   have H:=H1
   clear H1
   obtain rfl:=Option.some.inj H
   go_enter Try.func115,Try.ntmps115
   go_wp2_with (first | ((with_reducible refine gate_callee (f:=126) rfl ?_);refine goesL_ (some 6) rfl rfl Try.func126 (by kernel_rfl) rfl #[.int .i64 a0] rfl (by (try simp only [zz26,zz27,zz28]);first | done | rfl | (simp only [zz24,zz25];rfl)) ?_;(with_reducible refine (cmp_isNaN_int.calls a0 true _ A3.out).mono ?_);rintro e w' ⟨rfl,⟨nd,rfl⟩⟩;refine ⟨_,rfl,?_⟩) | (go_at_call 126;(with_reducible refine (cmp_isNaN_int.calls a1 true _ A5.out).mono ?_);rintro e w' ⟨rfl,⟨nd,rfl⟩⟩))
   go_ret
   exact ⟨by first | rfl | (simp;done) | (simp [*];done),by repeat (first | exact Drawn0.refl _ | apply Drawn0.step)⟩
  ·replace c6:=Bool.eq_false_iff.mpr c6
   subst c6
   have H1:(some true)=some r:=by rw [if_neg (show ¬ (false=true) by decide)] at H;exact H
   clear H
   have H:=H1
   clear H1
   obtain rfl:=Option.some.inj H
   go_enter Try.func115,Try.ntmps115
   go_wp2_with (first | ((with_reducible refine gate_callee (f:=126) rfl ?_);refine goesL_ (some 6) rfl rfl Try.func126 (by kernel_rfl) rfl #[.int .i64 a0] rfl (by (try simp only [zz26,zz27,zz28]);first | done | rfl | (simp only [zz24,zz25];rfl)) ?_;(with_reducible refine (cmp_isNaN_int.calls a0 true _ A3.out).mono ?_);rintro e w' ⟨rfl,⟨nd,rfl⟩⟩;refine ⟨_,rfl,?_⟩) | (go_at_call 126;(with_reducible refine (cmp_isNaN_int.calls a1 false _ A5.out).mono ?_);rintro e w' ⟨rfl,⟨nd,rfl⟩⟩))
   go_ret
   exact ⟨by first | rfl | (simp;done) | (simp [*];done),by repeat (first | exact Drawn0.refl _ | apply Drawn0.step)⟩
 ·replace c4:=Bool.eq_false_iff.mpr c4
  subst c4
  have H1:(some (decide (a0 < a1)))=some r:=by rw [if_neg (show ¬ (false=true) by decide)] at H;exact H
  clear H
  have H:=H1
  clear H1
  obtain rfl:=Option.some.inj H
  go_enter Try.func115,Try.ntmps115
  go_wp2_with (first | ((with_reducible refine gate_callee (f:=126) rfl ?_);refine goesL_ (some 6) rfl rfl Try.func126 (by kernel_rfl) rfl #[.int .i64 a0] rfl (by (try simp only [zz26,zz27,zz28]);first | done | rfl | (simp only [zz24,zz25];rfl)) ?_;(with_reducible refine (cmp_isNaN_int.calls a0 false _ A3.out).mono ?_);rintro e w' ⟨rfl,⟨nd,rfl⟩⟩;refine ⟨_,rfl,?_⟩))
  go_ret
  exact ⟨by first | rfl | (simp;done) | (simp [*];done),by repeat (first | exact Drawn0.refl _ | apply Drawn0.step)⟩

-- NOT PRINTED: function 109 (slices_insertionSortOrdered_int)

-- NOT PRINTED: function 121 (slices_siftDownOrdered_int)

-- NOT PRINTED: function 110 (slices_heapSortOrdered_int)

-- NOT PRINTED: function 118 (bits_Len32)

-- NOT PRINTED: function 119 (bits_Len64)

-- NOT PRINTED: function 107 (bits_Len)

-- NOT PRINTED: function 122 (slices_nextPowerOfTwo)

-- NOT PRINTED: function 123 (slices_xorshift_Next)

-- NOT PRINTED: function 111 (slices_breakPatternsOrdered_int)

-- NOT PRINTED: function 127 (slices_order2Ordered_int)

-- NOT PRINTED: function 125 (slices_medianOrdered_int)

-- NOT PRINTED: function 124 (slices_medianAdjacentOrdered_int)

-- NOT PRINTED: function 112 (slices_choosePivotOrdered_int)

-- NOT PRINTED: function 113 (slices_reverseRangeOrdered_int)

-- NOT PRINTED: function 114 (slices_partialInsertionSortOrdered_int)

-- NOT PRINTED: function 116 (slices_partitionEqualOrdered_int)

-- NOT PRINTED: function 117 (slices_partitionOrdered_int)

-- NOT PRINTED: function 106 (slices_pdqsortOrdered_int)

/-! ### slices_Sort_int_int: function 101 (a contract of our own) -/
def sortRen:Go.Shelf.Ren:=⟨fun | 125=>107 | 128=>118 | 129=>119 | 189=>101 | 215=>126 | 216=>115 | 257=>106 | 294=>109 | 295=>110 | 296=>111 | 297=>112 | 298=>113 | 299=>114 | 300=>116 | 301=>117 | 328=>121 | 329=>122 | 330=>123 | 331=>124 | 332=>125 | 343=>127 | n=>n,fun | 0=>0 | 3=>3 | 4=>4 | 5=>5 | 9=>9 | 28=>22 | 46=>95 | 51=>103 | 53=>105 | 131=>23 | 182=>97 | 183=>98 | 218=>106 | 222=>73 | 228=>111 | 229=>112 | n=>n,fun | n=>n⟩
theorem sortLays:Go.Proofs.Lays.n189 Try.prog sortRen:={
 mixed:=by kernel_rfl
 f125:=Try.func107.trans (congrArg some (by kernel_rfl))
 f128:=Try.func118.trans (congrArg some (by kernel_rfl))
 f129:=Try.func119.trans (congrArg some (by kernel_rfl))
 f189:=Try.func101.trans (congrArg some (by kernel_rfl))
 f215:=Try.func126.trans (congrArg some (by kernel_rfl))
 f216:=Try.func115.trans (congrArg some (by kernel_rfl))
 f257:=Try.func106.trans (congrArg some (by kernel_rfl))
 f294:=Try.func109.trans (congrArg some (by kernel_rfl))
 f295:=Try.func110.trans (congrArg some (by kernel_rfl))
 f296:=Try.func111.trans (congrArg some (by kernel_rfl))
 f297:=Try.func112.trans (congrArg some (by kernel_rfl))
 f298:=Try.func113.trans (congrArg some (by kernel_rfl))
 f299:=Try.func114.trans (congrArg some (by kernel_rfl))
 f300:=Try.func116.trans (congrArg some (by kernel_rfl))
 f301:=Try.func117.trans (congrArg some (by kernel_rfl))
 f328:=Try.func121.trans (congrArg some (by kernel_rfl))
 f329:=Try.func122.trans (congrArg some (by kernel_rfl))
 f330:=Try.func123.trans (congrArg some (by kernel_rfl))
 f331:=Try.func124.trans (congrArg some (by kernel_rfl))
 f332:=Try.func125.trans (congrArg some (by kernel_rfl))
 f343:=Try.func127.trans (congrArg some (by kernel_rfl))
 t0:=Try.underlying0
 a0:=Try.isAgg0
 z0:=Try.sizeOf0
 v0:=Try.zeroValue0
 t3:=Try.underlying3
 a3:=Try.isAgg3
 z3:=Try.sizeOf3
 v3:=Try.zeroValue3
 t4:=Try.underlying4
 a4:=Try.isAgg4
 z4:=Try.sizeOf4
 v4:=Try.zeroValue4
 t5:=Try.underlying5
 a5:=Try.isAgg5
 z5:=Try.sizeOf5
 v5:=Try.zeroValue5
 t9:=Try.underlying9
 a9:=Try.isAgg9
 z9:=Try.sizeOf9
 v9:=Try.zeroValue9
 t28:=Try.underlying22
 a28:=Try.isAgg22
 z28:=Try.sizeOf22
 v28:=Try.zeroValue22
 t46:=Try.underlying95
 a46:=Try.isAgg95
 z46:=Try.sizeOf95
 v46:=Try.zeroValue95
 t51:=Try.underlying103
 a51:=Try.isAgg103
 z51:=Try.sizeOf103
 v51:=Try.zeroValue103
 t53:=Try.underlying105
 a53:=Try.isAgg105
 z53:=Try.sizeOf105
 v53:=Try.zeroValue105
 t131:=Try.underlying23
 a131:=Try.isAgg23
 z131:=Try.sizeOf23
 v131:=Try.zeroValue23
 t182:=Try.underlying97
 a182:=Try.isAgg97
 z182:=Try.sizeOf97
 v182:=Try.zeroValue97
 t183:=Try.underlying98
 a183:=Try.isAgg98
 z183:=Try.sizeOf98
 v183:=Try.zeroValue98
 t218:=Try.underlying106
 a218:=Try.isAgg106
 z218:=Try.sizeOf106
 v218:=Try.zeroValue106
 t222:=Try.underlying73
 a222:=Try.isAgg73
 z222:=Try.sizeOf73
 v222:=Try.zeroValue73
 t228:=Try.underlying111
 a228:=Try.isAgg111
 z228:=Try.sizeOf111
 v228:=Try.zeroValue111
 t229:=Try.underlying112
 a229:=Try.isAgg112
 z229:=Try.sizeOf112
 v229:=Try.zeroValue112 }
/-- What slices.Sort does at whole numbers, as the library tells it. -/
theorem sortInts (blk off cap:Nat) (zs:List Int) (w:World) (hH:Go.Sort.Holds (Value.int .i64) w blk off zs.toArray) (hb:blk < w.heap.size) (hz:zs.length < 4611686018427387904) :
    Calls Try.prog 101 #[.slice (some ⟨blk,off,none⟩) zs.length cap] w fun e w' =>
      e=.returned (.tuple #[])∧∃ n os,w'=Go.Sort.grow (Go.Sort.putRow (Value.int .i64) (Go.Sort.ahead w n) blk off (zs.mergeSort fun x y=>decide (x≤y)).toArray) os:=Any.slices_Sort_int sortLays blk off cap zs w hH hb hz
theorem sortNone (p:Option Addr) (cap:Nat) (W:World):Calls Try.prog 101 #[.slice p 0 cap] W fun e w'=>e=.returned (.tuple #[])∧w'=W:=Any.slices_Sort_int_none sortLays p cap W
def slices_Sort_int_int.f (l0:List Int):Option (List Int):=if l0.length < 4611686018427387904 then some (l0.mergeSort fun x y=>decide (x≤y)) else none
theorem slices_Sort_int_int.calls (P0_:Nat→Prop) (u9000_:Value) (l0:List Int) (r:List Int) (w0 w:World) (hB:Below w0.heap.size w0 w) (ho0:Kd.R (Kd.int .i64) 3 w w0.heap.size P0_ u9000_ l0) (h:slices_Sort_int_int.f l0=some r) :
    Calls Try.prog 101 #[u9000_] w fun e w'=>e=.returned (.tuple #[])∧Kd.R (Kd.int .i64) 3 w' w0.heap.size (fun k_=>(P0_ k_ ∨ w.heap.size≤k_)) u9000_ r∧Below w0.heap.size w0 w'∧Kept w w' (fun k_=>P0_ k_):=by
  unfold slices_Sort_int_int.f at h
  by_cases hl:l0.length < 4611686018427387904
  case neg=>rw [if_neg hl] at h;exact absurd h (by simp)
  rw [if_pos hl] at h
  obtain rfl:=Option.some.inj h
  have hml:(l0.mergeSort fun x y=>decide (x≤y)).length=l0.length:=List.length_mergeSort _
  have ho:=Kd.own_of_R ho0
  rcases ho.2 with ⟨rfl,hz⟩ | ⟨gb,cp,cur,rfl,hbase,hgb,r1,r2,r3,r4⟩
  · obtain rfl:l0=[]:=List.eq_nil_of_length_eq_zero hz
    refine (sortNone none 0 w).mono ?_
    rintro e w' ⟨rfl,rfl⟩
    exact ⟨rfl,by simpa using Kd.R_nil _ _ _ _ _,hB,Kept.refl _ _⟩
  · have hH:Go.Sort.Holds (Value.int .i64) w gb 0 l0.toArray:=holds_of_blockI hgb (by rw [Nat.mul_one] at r4;exact r4)
    refine (sortInts gb 0 cp l0 w hH (Array.getElem?_eq_some_iff.1 hgb).1 hl).mono ?_
    rintro e w' ⟨rfl,nn,os,rfl⟩
    have hp:P0_ gb:=ho0.1 gb (by simp [Value.ownBlock])
    refine ⟨rfl,Kd.R_of_own (enc:=Value.int .i64) (h1:=fun _=>rfl) (by rw [hml];exact ownsRow_sortedI hml hbase hgb r1 r2 r3) (fun k hk=>.inl ?_),hB.grown (grownBy_sortedI _) hB.size (fun j hj=>by cases hj;exact hbase),Kept.of_grown (grownBy_sortedI _) (Kept.refl _ _) (fun k hk=>.inl ?_)⟩
    · have:gb=k:=by simpa [Value.ownBlock] using hk
      rw [← this];exact hp
    · cases hk;exact hp

/-! ### slices_Sorted_int: function 93 (lemmas of our own) -/
section
open Go.Shelf
attribute [local go_sem] Oper.semAt_some
set_option maxRecDepth 100000 in
set_option maxHeartbeats 2000000 in
/-- The iterator of slices.Values over whole numbers, for every loop body that keeps what lay below n₀. -/
theorem vals1_in (F:Fence) (n:Nat) (h7:F.fn 102) (hro:F.round=none) (hn:1≤n) (l Bs n₀ cap:Nat) (ad:Addr) (xs:List Int) (hreach:xs.length≤9223372036854775807) (hb:ad.block < n₀) (J Jx:List Int→World→Prop)
  (hY:∀ pre x W,J pre W→pre.length < xs.length→YieldAt F (n - 1) Try.prog l #[.int .i64 x] W fun e W' =>
   (e=.returned (.bool true)∧J (pre ++ [x]) W'∧Below n₀ W W') ∨ (e=.returned (.bool false)∧Jx (pre ++ [x]) W'))
  (W:World) (hBs:W.cell? ⟨Bs,0,none⟩=some (.slice (some ad) xs.length cap)) (hc:∀ j,j < xs.length→W.cell? (ad.add j)=some (.int .i64 (rd xs j))) (h0:J [] W) :
  CallsIn F n Try.prog 102 #[.func (.yield l) #[] #[],.pointer (some ⟨Bs,0,none⟩)] W fun e W'=>(∃ v,e=.returned v) ∧
   ((∃ ys,ys=xs∧J ys W') ∨ (∃ pre,pre <+: xs∧Jx pre W')):=by
 refine callsIn_of_wp Try.func102 rfl h7 ?_ hro
 simp only [Try.ntmps102,List.size_toArray,List.length_cons,List.length_nil,Nat.reduceAdd,Nat.reduceSub,Array.replicate_succ,Array.replicate_zero,List.push_toArray,List.append_toArray,List.nil_append,List.cons_append]
 gi_wp2
 gi_loopw [7] (fun i wr=>∃ k:Nat,k≤xs.length∧i=.int .i64 k∧J (xs.take k) wr∧Below n₀ W wr)
  (fun i _=>xs.length - (intOf i).toNat)
 case atStart=>exact ⟨0,Nat.zero_le _,rfl,by simpa using h0,Below.refl _ _⟩
 case round =>
  obtain ⟨k,hk,rfl,hJs,hnx⟩:=hrel
  by_cases hlt:k < xs.length
  ·obtain ⟨y,hy⟩:∃ y,y=rd xs k:=⟨_,rfl⟩
   have hcx:wr.cell? (ad.add k)=some (.int .i64 y):=by
    have hbk:(ad.add k).block=ad.block:=by unfold Addr.add;split <;> rfl
    rw [hy]
    exact (hnx.cell (p:=ad.add k) (by rw [hbk];exact hb)).trans (hc k hlt)
   have hsn:Aside0 (xs.take (k+1)=xs.take k ++ [y]):=⟨by rw [List.take_succ_eq_append_getElem hlt,hy];simp [rd,List.getD_eq_getElem?_getD,hlt]⟩
   have hkz:(k:Int) < (xs.length:Int):=by omega
   obtain ⟨fn,tmps,assign,body,hyy,hR⟩:=hY _ y wr hJs (by rw [zz25];omega)
   clear hy
   gi_wp2
   refine hR.mono ?_
   rintro e W3 (⟨rfl,hJ3,hk3⟩ | ⟨rfl,hJx3⟩)
   ·gi_wp2
    go_roundw
    case rel=>exact ⟨k+1,by omega,by go_num,by rw [hsn.out];exact hJ3,hnx.trans hk3⟩
    case measure=>simp [intOf];omega
   ·gi_wp2
    refine bodyPost_ret (results_none rfl _ _ _) rfl ?_
    exact ⟨⟨_,rfl⟩,.inr ⟨_,by rw [← hsn.out];exact List.take_prefix _ _,hJx3⟩⟩
  ·have hkl:xs.length≤k:=by omega
   have hkz:¬ (k:Int) < (xs.length:Int):=by omega
   have hJx:J xs wr:=by rw [List.take_of_length_le hkl] at hJs;exact hJs
   gi_wp2
   go_end0
   exact ⟨⟨_,rfl⟩,.inl (by first | exact hJx | exact ⟨_,rfl,hJx⟩)⟩
set_option maxRecDepth 100000 in
set_option maxHeartbeats 1000000 in
theorem vals1_nil_in (F:Fence) (n:Nat) (h7:F.fn 102) (hro:F.round=none) (l Bs:Nat) (A:Option Addr) (cap:Nat) (J:List Int→World→Prop) (W:World) (hBs:W.cell? ⟨Bs,0,none⟩=some (.slice A 0 cap)) (h0:J [] W) :
  CallsIn F n Try.prog 102 #[.func (.yield l) #[] #[],.pointer (some ⟨Bs,0,none⟩)] W fun e W'=>(∃ v,e=.returned v)∧J [] W':=by
 refine callsIn_of_wp Try.func102 rfl h7 ?_ hro
 simp only [Try.ntmps102,List.size_toArray,List.length_cons,List.length_nil,Nat.reduceAdd,Nat.reduceSub,Array.replicate_succ,Array.replicate_zero,List.push_toArray,List.append_toArray,List.nil_append,List.cons_append]
 gi_wp2
 gi_loopw [7] (fun i wr=>i=.int .i64 0∧J [] wr) (fun _ _=>0)
 case atStart=>exact ⟨rfl,h0⟩
 case round =>
  obtain ⟨rfl,hJs⟩:=hrel
  gi_wp2
  go_end0
  exact ⟨⟨_,rfl⟩,hJs⟩
/-- slices.Values(xs) hands back an iterator that gives xs, in order. -/
theorem vals_stops (F:Fence) (n:Nat) (h7:F.fn 102) (hro:F.round=none) (hn:1≤n) (Bs:Nat) (A:Option Addr) (cap:Nat) (xs:List Int) (w w0:World) (hBs:Bs < w.heap.size) (hn₀:w0.heap.size≤w.heap.size)
  (hc:w.cell? ⟨Bs,0,none⟩=some (.slice A xs.length cap)) (hr:Kd.C (Kd.int .i64) w0 A xs.length xs) (hb0:Below w0.heap.size w0 w) :
  SeqStopsK F n Try.prog 102 #[.pointer (some ⟨Bs,0,none⟩)] (fun x:Int=>#[Value.int .i64 x]) (Below w0.heap.size) (fun ys=>ys=xs) (fun pre=>pre <+: xs) xs.length w:=fun l J Jx W hW _ _ hY h0=>by
 have hc':=(hW.cell (p:=⟨Bs,0,none⟩) hBs).trans hc
 have hb1:Below w0.heap.size w0 W:=hb0.trans (hW.mono hn₀)
 rcases Nat.eq_zero_or_pos xs.length with hz | hz
 ·obtain rfl:xs=[]:=List.eq_nil_of_length_eq_zero hz
  exact (vals1_nil_in F n h7 hro l Bs A cap J W hc' h0).mono fun e W' ⟨he,hj⟩=>⟨he,.inl ⟨_,rfl,hj⟩⟩
 ·obtain ⟨ad,rfl,h1⟩:=Kd.at_int hr 0 (by decide) (by omega)
  have hcell:∀ j,j < xs.length→w0.cell? (ad.add j)=some (.int .i64 (rd xs j)):=fun j hj=>by
   obtain ⟨ad',e,h2⟩:=Kd.at_int hr (j:Int) (by omega) (by omega)
   cases e
   simpa using h2
  have hblk:ad.block < w0.heap.size:=by
   have:=World.block_lt_of_cell? w0 _ h1
   unfold Addr.add at this
   split at this <;> exact this
  refine (vals1_in F n h7 hro hn l Bs w0.heap.size cap ad xs hr.2.1 hblk J Jx hY W hc' (fun j hj=>?_) h0).mono ?_
  ·refine (hb1.cell (p:=ad.add j) ?_).trans (hcell j hj)
   have hbk:(ad.add j).block=ad.block:=by unfold Addr.add;split <;> rfl
   rw [hbk];exact hblk
  ·rintro e W' ⟨he,⟨ys,rfl,hj⟩ | ⟨pre,hp,hj⟩⟩
   ·exact ⟨he,.inl ⟨_,rfl,hj⟩⟩
   ·exact ⟨he,.inr ⟨_,hp,hj⟩⟩
set_option maxRecDepth 100000 in
set_option maxHeartbeats 2000000 in
/-- slices.AppendSeq(nil, slices.Values(xs)): a row of the call's own that holds xs. -/
theorem appendVals_in (F:Fence) (n:Nat) (h3:F.fn 105) (h7:F.fn 102) (hro:F.round=none) (hn:3≤n) (Bs:Nat) (A:Option Addr) (cap:Nat) (xs:List Int) (w:World) (hBs:Bs < w.heap.size)
  (hc:w.cell? ⟨Bs,0,none⟩=some (.slice A xs.length cap)) (hr:Kd.C (Kd.int .i64) w A xs.length xs) (hlen:xs.length≤17592186044416) :
  CallsIn F n Try.prog 105 #[.slice none 0 0,.func (.func 102) #[] #[.pointer (some ⟨Bs,0,none⟩)]] w fun e W'=>∃ v,e=.returned v∧W'.ownsRow w.heap.size 3 1 v xs.length (xs.map (Value.int .i64))∧Below w.heap.size w W':=by
 have h1:1≤n:=by omega
 have hinfo:(Try.prog.info? 3).map (fun i=>(i.zero,i.size,i.bytes))=some (some (.int .i64 0),1,8):=by kernel_rfl
 obtain ⟨i0,hi,hz0,hz1,hz2⟩:=info_parts hinfo
 refine callsIn_of_wp_marks Try.func105 rfl h3 ?_ hro
 simp only [Try.ntmps105,List.size_toArray,List.length_cons,List.length_nil,Nat.reduceAdd,Nat.reduceSub,Array.replicate_succ,Array.replicate_zero,List.push_toArray,List.append_toArray,List.nil_append,List.cons_append]
 gi_wp2
 have bO:=Boxed.new w 22 (.slice none 0 0)
 have hB0:Below w.heap.size w (w.alloc (.cells #[.slice none 0 0] 22)):=(Below.refl _ w).alloc (Nat.le_refl _) _
 have hc0:(w.alloc (.cells #[.slice none 0 0] 22)).cell? ⟨Bs,0,none⟩=some (.slice A xs.length cap):=(hB0.cell (p:=⟨Bs,0,none⟩) hBs).trans hc
 refine wpIn_rangeFunc_ownG hro h1 (gf:=102) (lb:=#[.pointer (some ⟨Bs,0,none⟩)]) rfl h7 (enters_of Try.func102 (by kernel_rfl) rfl)
  (vals_stops F (n - 1) h7 hro (by omega) Bs A cap xs _ w (by simp;omega) (by simp) hc0 hr hB0) belowK_t (belowK_b (by simp)) (Below.refl _ _) (fun _=>rfl)
  (fun pre W=>(∃ v,Boxed W w.heap.size 22 v∧W.ownsRow w.heap.size 3 1 v pre.length (pre.map (Value.int .i64))∧True)∧Below w.heap.size w W)
  (fun _ _ _=>False)
  (OwnFrom.and (Own.from (holdsRow_own w.heap.size w.heap.size 22 3 1 (fun pre:List Int=>pre.length) (fun pre=>pre.map (Value.int .i64)) (fun _ _=>True)) _) (ownFrom_below (Nat.le_refl _) (by simp)))
  (fun _ _ _ _ _ hs _ _=>hs)
  ⟨⟨_,bO,World.ownsRow_nil _ _ _ _,trivial⟩,hB0⟩
  (fun x=>{ tmps:=#[.slice none 0 0,.func (.func 102) #[] #[.pointer (some ⟨Bs,0,none⟩)],.pointer (some ⟨w.heap.size,0,none⟩),undef,.slice none 0 0,.int .i64 x,.func (.func 102) #[] #[.pointer (some ⟨Bs,0,none⟩)],.int .i64 x,undef,undef,undef,undef,undef],defers:=[] }) ?assign ?body ?done ?stop
 case assign =>
  intro l x W K hK
  gi_wp2
  exact hK
 case body =>
  rintro l pre x W ⟨⟨v,hv,hrow,_⟩,hB⟩ hlt
  have hc:=hv.cell
  gi_wp2_with (gi_at_builtin;refine wpListIn_append_own _ rfl _ _ 22 rfl w.heap.size 3 i0 (.int .i64 0) 1 8 Try.underlying22 hi hz0 hz1 hz2 rfl (by decide) _ _ _ rfl (hrow.alloc _) ⟨W.heap.size,0,none⟩ 1 1 [.int .i64 x] rfl rfl (cell_one_new _ _ _) (by simp [Value.oneCell']) (by simp only [maxLen];omega) (by omega) (by have:=hB.size;simp;omega) ?_;intro v' w1 hown' hgrow _;obtain ⟨g',cap',rfl⟩:=ownsRow_succ hown';obtain ⟨hv1,hv2,hr2,hk2,hb2⟩:=hv.appended (by decide) hrow hB.size (Nat.le_refl _) hown' hgrow;have hc1:=hv1.cell;have hf1:=hv1.frozen)
  exact ⟨hk2.from _,hb2,⟨_,hv2,by simpa using hr2,trivial⟩,hB.trans hb2⟩
 case done =>
  rintro D ys W hD rfl ⟨⟨v,hv,hrow,_⟩,hB⟩ hK
  have hc:=hv.cell
  gi_wp2
  refine ⟨by simp,.inl ⟨_,_,rfl,run_takeDeferred hK,?_⟩⟩
  exact ⟨_,results_tmp rfl _ _ _,v,rfl,ownsRow_putObj hrow _ hK rfl,hB.trans (belowK_b (w:=w) (Nat.le_refl _) W D _ _ (by simp at hD;omega) hK rfl rfl)⟩
 case stop =>
  rintro D c pre W _ _ h _
  exact h.elim
end
set_option maxHeartbeats 1000000 in
theorem values_any (A:Option Addr) (n c:Nat) (w:World):Calls Try.prog 94 #[.slice A n c] w fun e w'=>e=.returned (.func (.func 102) #[] #[.pointer (some ⟨w.heap.size,0,none⟩)])∧w'=w.alloc (.cells #[.slice A n c] 22):=by
 go_enter Try.func94,Try.ntmps94
 go_wp2
 go_ret
 exact ⟨rfl,rfl⟩
set_option maxHeartbeats 1000000 in
/-- slices.Sorted(slices.Values(xs)): a row of the call's own: xs, sorted. -/
theorem sortedVals (Bs:Nat) (A:Option Addr) (cap:Nat) (xs:List Int) (w:World) (hBs:Bs < w.heap.size) (hc:w.cell? ⟨Bs,0,none⟩=some (.slice A xs.length cap)) (hr:Kd.C (Kd.int .i64) w A xs.length xs) (hlen:xs.length≤17592186044416) :
  Calls Try.prog 93 #[.func (.func 102) #[] #[.pointer (some ⟨Bs,0,none⟩)]] w fun e w'=>∃ v,e=.returned v∧Kd.R (Kd.int .i64) 3 w' w.heap.size (fun _=>True) v (xs.mergeSort fun x y=>decide (x≤y))∧Below w.heap.size w w':=by
 have cA:=(callsIn_wide (n:=3)).1 (appendVals_in Fence.wide 3 trivial trivial rfl (by omega) Bs A cap xs w hBs hc hr hlen)
 clear hr hc
 have cC:Calls Try.prog 100 #[.func (.func 102) #[] #[.pointer (some ⟨Bs,0,none⟩)]] w fun e W'=>∃ v,e=.returned v∧W'.ownsRow w.heap.size 3 1 v xs.length (xs.map (Value.int .i64))∧Below w.heap.size w W':=by
  go_enter Try.func100,Try.ntmps100
  go_wp2_with (go_at_call 105;refine cA.mono ?_;rintro e w' ⟨v,rfl,hrow,hb⟩)
  go_ret
  exact ⟨v,rfl,hrow,hb⟩
 clear cA
 have R_of:∀ (W:World) (v:Value) (ys:List Int),W.ownsRow w.heap.size 3 1 v ys.length (ys.map (Value.int .i64))→Kd.R (Kd.int .i64) 3 W w.heap.size (fun _=>True) v ys:=fun W v ys h=>Kd.R_of_own (enc:=Value.int .i64) (h1:=fun _=>rfl) h (fun _ _=>trivial)
 have HR:=zz31 R_of
 clear R_of
 go_enter Try.func93,Try.ntmps93
 go_wp2_with (go_at_call 100;refine cC.mono ?_;rintro e W ⟨v,rfl,hrow,hb⟩)
 rcases hrow.2 with ⟨rfl,hz⟩ | ⟨gb,cp,cur,rfl,hbase,hgb,r1,r2,r3,r4⟩
 ·have hx:xs=[]:=List.eq_nil_of_length_eq_zero hz
  subst hx
  have HB:=zz31 hb
  clear hb hrow hz
  go_wp2_with (go_at_call 101;refine (sortNone none 0 _).mono ?_;rintro e w' ⟨rfl,rfl⟩)
  go_ret
  exact ⟨_,rfl,by simpa using Kd.R_nil _ _ _ _ _,HB.out⟩
 ·have hH:Go.Sort.Holds (Value.int .i64) W gb 0 xs.toArray:=holds_of_blockI hgb (by simpa using r4)
  have hgl:gb < W.heap.size:=(Array.getElem?_eq_some_iff.1 hgb).1
  have cS:=sortInts gb 0 cp xs W hH hgl (by omega)
  have HB:=zz31 hb
  have HG:=zz31 hgb
  have R1:=zz31 r1
  have R2:=zz31 r2
  have R3:=zz31 r3
  clear hrow hb hgb r1 r2 r3 r4 hH hgl
  go_wp2_with (go_at_call 101;refine cS.mono ?_;rintro e w' ⟨rfl,nn,os,rfl⟩)
  go_ret
  have hml:(xs.mergeSort fun x y=>decide (x≤y)).length=xs.length:=List.length_mergeSort _
  exact ⟨_,rfl,HR.out _ _ _ (by rw [hml];exact ownsRow_sortedI hml hbase HG.out R1.out R2.out R3.out),HB.out.grown (grownBy_sortedI _) HB.out.size (fun j hj=>by cases hj;exact hbase)⟩

-- NOT PRINTED: function 102 (slices_Values_int_int_1)

-- NOT PRINTED: function 94 (slices_Values_int_int)

/-! ### slices_Reverse_int_int: function 95 -/
def slices_Reverse_int_int.l0:Nat→List Int→Int→Int→Option (List Int)
 | 0,_,_,_=>none
 | k+1,x0,x2,x3=>if x2 < x3 then (if 0≤x3 then (if x3 < (x0.length:Int) then (if 0≤x2 then (if x2 < (x0.length:Int) then (slices_Reverse_int_int.l0 k ((x0.set (x2:Int).toNat (rd x0 x3)).set (x3:Int).toNat (rd x0 x2)) (wrap64 (x2+1)) (wrap64 (x3 - 1))) else (none)) else (none)) else (none)) else (none)) else (some x0)
def slices_Reverse_int_int.f (k:Nat) (l0:List Int):Option (List Int):=slices_Reverse_int_int.l0 k l0 0 (wrap64 ((l0.length:Int) - 1))
theorem slices_Reverse_int_int.mono_l:∀ k,(∀ y0 y1 y2,LeO (slices_Reverse_int_int.l0 k y0 y1 y2) (slices_Reverse_int_int.l0 (k+1) y0 y1 y2))
 | 0=>fun _ _ _ r h=>by simp [slices_Reverse_int_int.l0] at h
 | k+1=>by
  have ih0:=slices_Reverse_int_int.mono_l k
  ·intro y0 y1 y2
   unfold slices_Reverse_int_int.l0
   repeat' first
   | (with_reducible exact ih0 _ _ _)
   | (with_reducible exact LeO.refl _)
   | (with_reducible exact LeO.none _)
   | (with_reducible refine LeO.ite ?_ ?_)
   | (with_reducible refine LeO.bind ?_ (fun _=>?_))
   | exact ih0 _ _ _
   | exact LeO.none _
   | refine LeO.ite ?_ ?_
   | refine LeO.bind ?_ (fun _=>?_)
theorem slices_Reverse_int_int.mono:∀ a0 k,LeO (slices_Reverse_int_int.f k a0) (slices_Reverse_int_int.f (k+1) a0):=by
 intro a0 k
 have ih0:=slices_Reverse_int_int.mono_l k
 unfold slices_Reverse_int_int.f
 repeat' first
   | (with_reducible exact ih0 _ _ _)
   | (with_reducible exact LeO.refl _)
   | (with_reducible exact LeO.none _)
   | (with_reducible refine LeO.ite ?_ ?_)
   | (with_reducible refine LeO.bind ?_ (fun _=>?_))
   | exact ih0 _ _ _
   | exact LeO.none _
   | refine LeO.ite ?_ ?_
   | refine LeO.bind ?_ (fun _=>?_)
def slices_Reverse_int_int.T3:Bool × List (List Nat × List Nat):=(true,[([],[]),([],[]),([],[]),([],[]),([],[]),([],[]),([4,5],[4,5]),([6],[6]),([],[]),([],[]),([8,9],[8,9]),([10],[10]),([0,1,0,1,4,5,6,7,11],[0,1]),([12,7,0,1,4,5,6,7,11],[7,12]),([2,3,0,1,2,3,4,5,6,7,8,9,10,11,12,13],[2,3]),([14,11,13,0,1,2,3,4,5,6,7,8,9,10,11,12,13],[11,14])])
def slices_Reverse_int_int.B3:List Nat:=[0,0,0,0,0,0,48,112,0,0,768,1792,4083,8179,16383,32767]
theorem slices_Reverse_int_int.tab3:rtab .any (opsOf Try.f95 3)=slices_Reverse_int_int.T3:=by kernel_rfl
theorem slices_Reverse_int_int.bits3:waitsOk slices_Reverse_int_int.T3.2 slices_Reverse_int_int.B3=true:=by kernel_rfl
set_option maxHeartbeats 8000000 in
set_option maxRecDepth 100000 in
theorem slices_Reverse_int_int.calls (k:Nat) (P0_:Nat→Prop) (u9000_:Value) (l0:List Int) (r:List Int) (w0 w:World) (hB:Below w0.heap.size w0 w) (ho0:Kd.R (Kd.int .i64) 3 w w0.heap.size P0_ u9000_ l0) (h:slices_Reverse_int_int.f k l0=some r) :
  Calls Try.prog 95 #[u9000_] w fun e w'=>e=.returned (.tuple #[])∧Kd.R (Kd.int .i64) 3 w' w0.heap.size (fun k_=>(P0_ k_ ∨ w.heap.size≤k_)) u9000_ r∧Below w0.heap.size w0 w'∧Kept w w' (fun k_=>P0_ k_):=by
 have HO0:=zz31 (show Kd.R (Kd.int .i64) 3 w w0.heap.size (fun k_=>(P0_ k_ ∨ w.heap.size≤k_)) u9000_ l0 from Kd.R_mono ho0 (fun k_ hk=>(.inl hk)))
 have HK:=zz31 (Kept.refl w (fun k_=>P0_ k_))
 have HW0:=zz31 hB.size
 have HB:=zz31 hB
 clear hB
 have H:(slices_Reverse_int_int.l0 k l0 0 (wrap64 ((l0.length:Int) - 1)))=some r:=h
 clear h
 have H':=zz31 H
 clear H
 obtain ⟨Ao2,co2,eo2⟩:=Kd.R_slice HO0.out
 subst eo2
 go_enter Try.func95,Try.ntmps95
 go_wp2
 go_loopg [2,3] k (fun kq v2 v3 w'=>∃ (x0_1:List Int) (x2_1:Int) (x3_1:Int),v2=.int .i64 x2_1∧v3=.int .i64 x3_1∧Aside0 (slices_Reverse_int_int.l0 kq x0_1 x2_1 x3_1=some r)∧Aside0 (kq≤k)∧Aside0 (Kd.R (Kd.int .i64) 3 w' w0.heap.size (fun k_=>(P0_ k_ ∨ w.heap.size≤k_)) (.slice Ao2 l0.length co2) x0_1)∧Aside0 (Kept w w' (fun k_=>P0_ k_))∧Aside0 (Below w0.heap.size w0 w'))
 case atStart=>exact ⟨(l0),(0),(wrap64 ((l0.length:Int) - 1)),(by first | rfl | (simp;done) | (simp [*];done)),(by first | rfl | (simp;done) | (simp [*];done)),H',⟨Nat.le_refl _⟩,⟨by (with_reducible repeat (first | apply zz12 | apply zz13 | apply zz14));exact HO0.out⟩,⟨by repeat (first | (with_reducible first | exact HK.out | apply Kept.alloc | apply Kept.drewN | apply Kept.drew) | exact HK.out)⟩,⟨by repeat first | exact HB.out | apply zz2 | apply zz0 | apply zz1⟩⟩
 case round =>
  clear H'
  try clear p2
  obtain ⟨x0_1,x2_1,x3_1,rfl,rfl,HA,HK1,HO_0,HK,HB⟩:=hrel
  have hl0_1:=(Kd.R_reads' HO_0.out).1
  rw [hl0_1] at HO_0
  (try simp only [hl0_1])
  cases gk with
  | zero=>exact absurd HA.out (by simp [slices_Reverse_int_int.l0])
  | succ k1 =>
   have H:=HA.out
   clear HA
   simp only [slices_Reverse_int_int.l0] at H
   by_cases c3:x2_1 < x3_1
   ·rw [if_pos c3] at H
    have c3b0:decide (x2_1 < x3_1)=true:=decide_eq_true c3
    clear c3
    by_cases c4:0≤x3_1
    ·rw [if_pos c4] at H
     have c4b0:decide (0≤x3_1)=true:=decide_eq_true c4
     clear c4
     by_cases c5:x3_1 < (x0_1.length:Int)
     ·rw [if_pos c5] at H
      have c5b0:decide (x3_1 < (x0_1.length:Int))=true:=decide_eq_true c5
      (try simp only [hl0_1] at c5b0)
      clear c5
      by_cases c6:0≤x2_1
      ·rw [if_pos c6] at H
       have c6b0:decide (0≤x2_1)=true:=decide_eq_true c6
       clear c6
       by_cases c7:x2_1 < (x0_1.length:Int)
       ·rw [if_pos c7] at H
        have c7b0:decide (x2_1 < (x0_1.length:Int))=true:=decide_eq_true c7
        (try simp only [hl0_1] at c7b0)
        clear c7
        obtain ⟨y233,hy233⟩:∃ y_:List Int,y_=(x0_1.set (x2_1:Int).toNat (rd x0_1 x3_1)):=⟨_,rfl⟩
        replace H:(slices_Reverse_int_int.l0 k1 (y233.set (x3_1:Int).toNat (rd x0_1 x2_1)) (wrap64 (x2_1+1)) (wrap64 (x3_1 - 1)))=some r:=by first | (rw [hy233];with_reducible exact H) | (have H2_:=(Option.bind_some _ _).symm.trans H;rw [hy233];with_reducible exact H2_) | (have H2_:=(Option.bind_some _ _).symm.trans H;with_reducible exact H2_) | with_reducible exact H | (rw [hy233];exact H) | exact H
        have Ny233:=zz31 hy233
        clear hy233
        obtain ⟨y234,hy234⟩:∃ y_:List Int,y_=(y233.set (x3_1:Int).toNat (rd x0_1 x2_1)):=⟨_,rfl⟩
        replace H:(slices_Reverse_int_int.l0 k1 y234 (wrap64 (x2_1+1)) (wrap64 (x3_1 - 1)))=some r:=by first | (rw [hy234];with_reducible exact H) | (have H2_:=(Option.bind_some _ _).symm.trans H;rw [hy234];with_reducible exact H2_) | (have H2_:=(Option.bind_some _ _).symm.trans H;with_reducible exact H2_) | with_reducible exact H | (rw [hy234];exact H) | exact H
        have Ny234:=zz31 hy234
        clear hy234
        have H':=zz31 H
        clear H
        try go_wp2
        have n0_:=zz31 (zz14 HO_0.out)
        have n1_:=zz31 (Kept.drew HK.out)
        have n2_:=zz31 (zz1 HB.out)
        clear HO_0
        clear HK
        clear HB
        have HO_0:=n0_
        have HK:=n1_
        have HB:=n2_
        clear n0_ n1_ n2_
        have p231:0≤(x3_1:Int):=zz29 (by first | (with_reducible assumption) | assumption)
        have q231:x3_1 < (x0_1.length:Int):=zz29 (by first | (with_reducible assumption) | assumption)
        obtain ⟨ad231,e231,hx231_0⟩:=Kd.at_int (Kd.R_reads' HO_0.out).2.2 x3_1 p231 q231
        cases e231
        replace p231:=eq_true p231
        replace q231:=eq_true q231
        have p232:0≤(x2_1:Int):=zz29 (by first | (with_reducible assumption) | assumption)
        have q232:x2_1 < (x0_1.length:Int):=zz29 (by first | (with_reducible assumption) | assumption)
        obtain ⟨ad232,e232,hx232_0⟩:=Kd.at_int (Kd.R_reads' HO_0.out).2.2 x2_1 p232 q232
        obtain rfl:ad231=ad232:=(by injection e232)
        replace p232:=eq_true p232
        replace q232:=eq_true q232
        have p8:0≤(x2_1:Int):=zz29 (by first | (with_reducible assumption) | assumption)
        have q8:(x2_1:Int) < ((x0_1.length:Int):Int):=zz29 (by first | (with_reducible assumption) | assumption)
        obtain ⟨go8,co8,eo8,gb8,gl8,cl8,HG8⟩:=Kd.R_form HO_0.out (by omega)
        (first | cases eo8 | (injection eo8 with ea_ en_ ec_;(first | subst ea_ | (injection ea_ with ea_;subst ea_));subst ec_;clear en_))
        have GB8:=zz31 gb8
        have GG8:=zz31 HG8
        clear gb8 gl8 HG8
        have HMgo8:=zz31 (show (P0_ go8 ∨ w.heap.size≤go8) from (HO_0.out.1 _ rfl))
        (first | simp only [add_plain] at hx231_0 | skip)
        (first | simp only [add_plain] at hx232_0 | skip)
        obtain ⟨hx8_0,hf8_0⟩:=Kd.R_celln 0 HO_0.out (x2_1:Int) p8 q8
        replace p8:=eq_true p8
        replace q8:=eq_true q8
        have HP11:=Kd.R_putn HO_0.out (x2_1:Int) (rd x0_1 x3_1)
        rw [← Ny233.out] at HP11
        have HQ11:=zz31 HP11
        clear HP11
        have p9:0≤(x3_1:Int):=zz29 (by first | (with_reducible assumption) | assumption)
        have q9:(x3_1:Int) < ((x0_1.length:Int):Int):=zz29 (by first | (with_reducible assumption) | assumption)
        obtain ⟨hx9_0,hf9_0⟩:=Kd.R_celln 0 HQ11.out (x3_1:Int) p9 q9
        replace p9:=eq_true p9
        replace q9:=eq_true q9
        have HP12:=Kd.R_putn HQ11.out (x3_1:Int) (rd x0_1 x2_1)
        rw [← Ny234.out] at HP12
        have HQ12:=zz31 HP12
        clear HP12
        refine start_ (n:=16) (S:=fun w'=>w'.cell? ⟨go8,(x3_1).toNat,none⟩=some (.int .i64 (rd x0_1 x3_1))∧w'.cell? ⟨go8,(x2_1).toNat,none⟩=some (.int .i64 (rd x0_1 x2_1))) (ds:=[13,15]) #[F,F,F,F,F,F,F,F,F,F,F,F,F,F,F,F] (by kernel_rfl) rfl rfl ⟨hx231_0,hx232_0⟩ (fun hHeld=>?_);refine with_tabW slices_Reverse_int_int.tab3 slices_Reverse_int_int.bits3 (fun HT_ HW_=>?_)
        generalize wr.drew=w10 at HO_0 HK HB GG8 HQ11 HQ12 hf8_0 hf9_0 hx231_0 hx232_0 hx8_0 hx9_0 hHeld ⊢
        refine pure_ (i:=0) (N:=some 14) (v:=?_) (a':=?_) #[T,F,F,F,F,F,F,F,F,F,F,F,F,F,F,F] rfl rfl (any_of HT_.out (by kernel_rfl)) (fun _ _ _ h=>h) (Or.inl ⟨by rfl,?_⟩) ?_ ?_
        rotate_left
        ·intro w'
         go_simp
         with_reducible rfl
        rotate_left
        ·simp only [Act.put,zz21,zz22,zz23,i64_w,i32_w]
         rfl
        refine pure_ (i:=1) (N:=some 15) (v:=?_) (a':=?_) #[T,T,F,F,F,F,F,F,F,F,F,F,F,F,F,F] rfl rfl (any_of HT_.out (by kernel_rfl)) (fun _ _ _ h=>h) (Or.inl ⟨by rfl,?_⟩) ?_ ?_
        rotate_left
        ·intro w'
         go_simp
         with_reducible rfl
        rotate_left
        ·simp only [Act.put,zz21,zz22,zz23,i64_w,i32_w]
         rfl
        refine pure_ (i:=2) (N:=some 16) (v:=?_) (a':=?_) #[T,T,T,F,F,F,F,F,F,F,F,F,F,F,F,F] rfl rfl (any_of HT_.out (by kernel_rfl)) (fun _ _ _ h=>h) (Or.inl ⟨by rfl,?_⟩) ?_ ?_
        rotate_left
        ·intro w'
         go_simp
         with_reducible rfl
        rotate_left
        ·simp only [Act.put,zz21,zz22,zz23,i64_w,i32_w]
         rfl
        refine pure_ (i:=3) (N:=some 17) (v:=?_) (a':=?_) #[T,T,T,T,F,F,F,F,F,F,F,F,F,F,F,F] rfl rfl (any_of HT_.out (by kernel_rfl)) (fun _ _ _ h=>h) (Or.inl ⟨by rfl,?_⟩) ?_ ?_
        rotate_left
        ·intro w'
         go_simp
         with_reducible rfl
        rotate_left
        ·simp only [Act.put,zz21,zz22,zz23,i64_w,i32_w]
         rfl
        refine pure_ (i:=4) (N:=some 18) (v:=?_) (a':=?_) #[T,T,T,T,T,F,F,F,F,F,F,F,F,F,F,F] rfl rfl (any_of HT_.out (by kernel_rfl)) (fun _ _ _ h=>h) (Or.inl ⟨by rfl,?_⟩) ?_ ?_
        rotate_left
        ·intro w'
         go_simp
         with_reducible rfl
        rotate_left
        ·simp only [Act.put,zz21,zz22,zz23,i64_w,i32_w]
         rfl
        refine pure_ (i:=5) (N:=some 19) (v:=?_) (a':=?_) #[T,T,T,T,T,T,F,F,F,F,F,F,F,F,F,F] rfl rfl (any_of HT_.out (by kernel_rfl)) (fun _ _ _ h=>h) (Or.inl ⟨by rfl,?_⟩) ?_ ?_
        rotate_left
        ·intro w'
         go_simp
         with_reducible rfl
        rotate_left
        ·simp only [Act.put,zz21,zz22,zz23,i64_w,i32_w]
         rfl
        refine pure_ (i:=6) (N:=some 20) (v:=?_) (a':=?_) #[T,T,T,T,T,T,T,F,F,F,F,F,F,F,F,F] rfl rfl (any_of HT_.out (by kernel_rfl)) (fun _ _ _ h=>h) (Or.inl ⟨by rfl,?_⟩) ?_ ?_
        rotate_left
        ·intro w'
         go_simp
         with_reducible rfl
        rotate_left
        ·simp only [Act.put,zz21,zz22,zz23,i64_w,i32_w]
         rfl
        refine pure_ (i:=8) (N:=some 22) (v:=?_) (a':=?_) #[T,T,T,T,T,T,T,F,T,F,F,F,F,F,F,F] rfl rfl (any_of HT_.out (by kernel_rfl)) (fun _ _ _ h=>h) (Or.inl ⟨by rfl,?_⟩) ?_ ?_
        rotate_left
        ·intro w'
         go_simp
         with_reducible rfl
        rotate_left
        ·simp only [Act.put,zz21,zz22,zz23,i64_w,i32_w]
         rfl
        refine pure_ (i:=9) (N:=some 23) (v:=?_) (a':=?_) #[T,T,T,T,T,T,T,F,T,T,F,F,F,F,F,F] rfl rfl (any_of HT_.out (by kernel_rfl)) (fun _ _ _ h=>h) (Or.inl ⟨by rfl,?_⟩) ?_ ?_
        rotate_left
        ·intro w'
         go_simp
         with_reducible rfl
        rotate_left
        ·simp only [Act.put,zz21,zz22,zz23,i64_w,i32_w]
         rfl
        refine pure_ (i:=10) (N:=some 24) (v:=?_) (a':=?_) #[T,T,T,T,T,T,T,F,T,T,T,F,F,F,F,F] rfl rfl (any_of HT_.out (by kernel_rfl)) (fun _ _ _ h=>h) (Or.inl ⟨by rfl,?_⟩) ?_ ?_
        rotate_left
        ·intro w'
         go_simp
         with_reducible rfl
        rotate_left
        ·simp only [Act.put,zz21,zz22,zz23,i64_w,i32_w]
         rfl
        refine take_ (i:=7) (N:=some 21) (v:=?_) (a':=?_) #[T,T,T,T,T,T,T,T,T,T,T,F,F,F,F,F] rfl rfl (take_ofW HT_.out HW_.out (by kernel_rfl)) (fun _ _ _ h=>h) (Or.inl ⟨by rfl,?_⟩) hHeld ?_ ?_
        rotate_left
        ·rintro w' ⟨s0,s1⟩
         go_simp
         with_reducible rfl
        rotate_left
        ·simp only [Act.put,zz21,zz22,zz23,i64_w,i32_w]
         rfl
        refine take_ (i:=11) (N:=some 25) (v:=?_) (a':=?_) #[T,T,T,T,T,T,T,T,T,T,T,T,F,F,F,F] rfl rfl (take_ofW HT_.out HW_.out (by kernel_rfl)) (fun _ _ _ h=>h) (Or.inl ⟨by rfl,?_⟩) hHeld ?_ ?_
        rotate_left
        ·rintro w' ⟨s0,s1⟩
         go_simp
         with_reducible rfl
        rotate_left
        ·simp only [Act.put,zz21,zz22,zz23,i64_w,i32_w]
         rfl
        refine pure_ (i:=12) (N:=some 26) (v:=?_) (a':=?_) #[T,T,T,T,T,T,T,T,T,T,T,T,T,F,F,F] rfl rfl (any_of HT_.out (by kernel_rfl)) (fun _ _ _ h=>h) (Or.inl ⟨by rfl,?_⟩) ?_ ?_
        rotate_left
        ·intro w'
         go_simp
         with_reducible rfl
        rotate_left
        ·simp only [Act.put,zz21,zz22,zz23,i64_w,i32_w]
         rfl
        refine last_ (i:=13) (N:=none) #[T,T,T,T,T,T,T,T,T,T,T,T,T,T,F,F] rfl rfl (one_of HT_.out (by kernel_rfl)) (by decide) (fun K hK=>?_)
        refine skip_ (w1:=?_) (by rfl) rfl ?_ ?_
        rotate_left
        ·go_simp
         rfl
        refine hK.out _ _ ?_
        clear hK K
        refine pure_ (i:=14) (N:=some 27) (v:=?_) (a':=?_) #[T,T,T,T,T,T,T,T,T,T,T,T,T,T,T,F] rfl rfl (any_of HT_.out (by kernel_rfl)) (fun _ _ _ h=>h) (Or.inl ⟨by rfl,?_⟩) ?_ ?_
        rotate_left
        ·intro w'
         go_simp
         with_reducible rfl
        rotate_left
        ·simp only [Act.put,zz21,zz22,zz23,i64_w,i32_w]
         rfl
        refine last_ (i:=15) (N:=none) #[T,T,T,T,T,T,T,T,T,T,T,T,T,T,T,T] rfl rfl (one_of HT_.out (by kernel_rfl)) (by decide) (fun K hK=>?_)
        refine skip_ (w1:=?_) (by rfl) rfl ?_ ?_
        rotate_left
        ·go_simp
         rfl
        refine hK.out _ _ ?_
        clear hK K
        refine done_ (done_of HT_.out (by kernel_rfl)) ?_
        try go_wp2
        (try simp only [← hl0_1])
        go_roundg k1
        case measure=>have:=HK1.out;omega
        case rel=>exact ⟨(y234),(wrap64 (x2_1+1)),(wrap64 (x3_1 - 1)),(by first | rfl | (simp;done) | (simp [*];done)),(by first | rfl | (simp;done) | (simp [*];done)),H',⟨by have:=HK1.out;omega⟩,⟨by (try simp only [hl0_1]);(with_reducible repeat (first | apply zz12 | apply zz13 | apply zz14));exact HQ12.out⟩,⟨by repeat (first | (with_reducible first | exact HK.out | apply Kept.alloc | apply Kept.drewN | apply Kept.drew | refine Kept.setCell ?_ HMgo8.out _ | refine Kept.setCell ?_ HMgo8.out _) | exact HK.out)⟩,⟨by repeat first | exact HB.out | apply zz2 | apply zz0 | apply zz1 | refine zz3 ?_ GB8.out | refine zz3 ?_ GB8.out⟩⟩
       ·rw [if_neg c7] at H
        exact absurd H (by simp)
      ·rw [if_neg c6] at H
       exact absurd H (by simp)
     ·rw [if_neg c5] at H
      exact absurd H (by simp)
    ·rw [if_neg c4] at H
     exact absurd H (by simp)
   ·rw [if_neg c3] at H
    have c3b0:decide (x2_1 < x3_1)=false:=decide_eq_false c3
    clear c3
    obtain rfl:=Option.some.inj H
    go_wp2
    first | go_end0 | ((try simp only [Exit.inBlock,Exit.then]);refine bodyPost_ret (results_none rfl _ _ _) rfl ?_)
    exact ⟨by first | rfl | (simp [errW_none,errW_some] <;> rfl) | (simp [*,errW_none,errW_some] <;> rfl),(by first | exact (by (with_reducible repeat (first | apply zz12 | apply zz13 | apply zz14));exact HO_0.out) | (simp only [hl0_1];exact (by (with_reducible repeat (first | apply zz12 | apply zz13 | apply zz14));exact HO_0.out))),by repeat first | exact HB.out | apply zz2 | apply zz0 | apply zz1,by repeat (first | (with_reducible first | exact HK.out | apply Kept.alloc | apply Kept.drewN | apply Kept.drew) | exact HK.out)⟩

/-! ### impl_falling: function 71 (a contract of our own) -/
def impl_falling.f (k:Nat) (l0:List Int):Option (List Int):=if l0.length≤17592186044416 then slices_Reverse_int_int.f k (l0.mergeSort fun x y=>decide (x≤y)) else none
theorem impl_falling.mono:∀ a0 k,LeO (impl_falling.f k a0) (impl_falling.f (k+1) a0):=by
 intro a0 k
 unfold impl_falling.f
 exact LeO.ite (slices_Reverse_int_int.mono _ _) (LeO.none _)
set_option maxHeartbeats 1000000 in
theorem impl_falling.calls (k:Nat) (A0:Option Addr) (c0:Nat) (l0:List Int) (r:List Int) (w:World) (hr0:Kd.C (Kd.int .i64) w A0 l0.length l0) (hc0:l0.length≤c0) (h:impl_falling.f k l0=some r) :
  Calls Try.prog 71 #[.slice A0 l0.length c0] w fun e w'=>∃ v0_:Value,e=.returned (v0_)∧Kd.R (Kd.int .i64) 3 w' w.heap.size (fun _=>True) v0_ r∧Below w.heap.size w w':=by
 unfold impl_falling.f at h
 by_cases hl:l0.length≤17592186044416
 case neg=>rw [if_neg hl] at h;exact absurd h (by simp)
 rw [if_pos hl] at h
 have H:=zz31 h
 have cS:Calls Try.prog 93 #[.func (.func 102) #[] #[.pointer (some ⟨w.heap.size,0,none⟩)]] (w.alloc (.cells #[.slice A0 l0.length c0] 22)) fun e w'=>∃ v,e=.returned v∧Aside0 (Kd.R (Kd.int .i64) 3 w' w.heap.size (fun _=>True) v (l0.mergeSort fun x y=>decide (x≤y)))∧Aside0 (Below w.heap.size w w') :=
  (sortedVals w.heap.size A0 c0 l0 (w.alloc (.cells #[.slice A0 l0.length c0] 22)) (by simp) (by simp) (zz18 hr0 _) hl).mono fun e w' ⟨v,he,hR,hb⟩=>⟨v,he,⟨Kd.R_lower hR (by simp)⟩,⟨((Below.refl w.heap.size w).alloc (Nat.le_refl _) _).trans (hb.mono (by simp))⟩⟩
 clear h hr0 hl hc0
 go_enter Try.func71,Try.ntmps71
 go_wp2_with (first | (go_at_call 94;refine (values_any _ _ _ _).mono ?_;rintro e w' ⟨rfl,hw⟩;obtain rfl:=hw.symm;clear hw) | (go_at_call 93;refine cS.mono ?_;rintro e w2 ⟨v,rfl,HR,HB⟩) | (go_at_call 95;refine (slices_Reverse_int_int.calls k (fun _=>True) v _ r w w2 HB.out HR.out H.out).mono ?_;rintro e w3 ⟨rfl,hR,hb,hk⟩;clear hk;have HB2:=zz31 hb;have HR2:=zz31 hR;clear hb hR;clear HB HR))
 go_ret
 exact ⟨_,rfl,Kd.R_mono HR2.out (fun _ _=>trivial),HB2.out⟩

/-! ### impl_failsAt: function 73 -/
mutual
def impl_failsAt.l0:Nat→List Int→Int→Option (Int)
 | 0,_,_=>none
 | k+1,x3,x4=>if x4≤(x3.length:Int) then (if 0≤x4 then ((some (x3.drop (x4:Int).toNat:List Int)).bind fun y238=>(impl_failsAt.l1 k x3 x4 (wrap64 (x4 * (wrap64 (x4 - 1)))) y238 (y238.length:Int) 0)) else (none)) else (some 0)
def impl_failsAt.l1:Nat→List Int→Int→Int→List Int→Int→Int→Option (Int)
 | 0,_,_,_,_,_,_=>none
 | k+1,x3,x4,x5,x22,x23,x24=>if x24 < x23 then (if 0≤x24 then (if x24 < (x22.length:Int) then (impl_failsAt.l1 k x3 x4 (wrap64 (x5+(mn x4 (rd x22 x24)))) x22 x23 (wrap64 (x24+1))) else (none)) else (none)) else (if 0≤x4 then (if x4≤(x3.length:Int) then ((impl_sum.f k (x3.take (x4:Int).toNat)).bind fun t247=>(if t247 > x5 then (some x4) else (impl_failsAt.l0 k x3 (wrap64 (x4+1))))) else (none)) else (none))
end
def impl_failsAt.f (k:Nat) (l0:List Int):Option (Int):=(impl_falling.f k l0).bind fun t235=>(impl_failsAt.l0 k t235 1)
theorem impl_failsAt.mono_l:∀ k,(∀ y0 y1,LeO (impl_failsAt.l0 k y0 y1) (impl_failsAt.l0 (k+1) y0 y1))∧(∀ y0 y1 y2 y3 y4 y5,LeO (impl_failsAt.l1 k y0 y1 y2 y3 y4 y5) (impl_failsAt.l1 (k+1) y0 y1 y2 y3 y4 y5))
 | 0=>⟨fun _ _ r h=>by simp [impl_failsAt.l0] at h,fun _ _ _ _ _ _ r h=>by simp [impl_failsAt.l1] at h⟩
 | k+1=>by
  obtain ⟨ih0,ih1⟩:=impl_failsAt.mono_l k
  refine ⟨?_,?_⟩
  ·intro y0 y1
   unfold impl_failsAt.l0
   repeat' first
   | (with_reducible exact ih0 _ _)
   | (with_reducible exact ih1 _ _ _ _ _ _)
   | (with_reducible exact impl_falling.mono _ _)
   | (with_reducible exact impl_sum.mono _ _)
   | (with_reducible exact LeO.refl _)
   | (with_reducible exact LeO.none _)
   | (with_reducible refine LeO.ite ?_ ?_)
   | (with_reducible refine LeO.bind ?_ (fun _=>?_))
   | exact ih0 _ _
   | exact ih1 _ _ _ _ _ _
   | exact impl_falling.mono _ _
   | exact impl_sum.mono _ _
   | exact LeO.none _
   | refine LeO.ite ?_ ?_
   | refine LeO.bind ?_ (fun _=>?_)
  ·intro y0 y1 y2 y3 y4 y5
   unfold impl_failsAt.l1
   repeat' first
   | (with_reducible exact ih0 _ _)
   | (with_reducible exact ih1 _ _ _ _ _ _)
   | (with_reducible exact impl_falling.mono _ _)
   | (with_reducible exact impl_sum.mono _ _)
   | (with_reducible exact LeO.refl _)
   | (with_reducible exact LeO.none _)
   | (with_reducible refine LeO.ite ?_ ?_)
   | (with_reducible refine LeO.bind ?_ (fun _=>?_))
   | exact ih0 _ _
   | exact ih1 _ _ _ _ _ _
   | exact impl_falling.mono _ _
   | exact impl_sum.mono _ _
   | exact LeO.none _
   | refine LeO.ite ?_ ?_
   | refine LeO.bind ?_ (fun _=>?_)
theorem impl_failsAt.mono:∀ a0 k,LeO (impl_failsAt.f k a0) (impl_failsAt.f (k+1) a0):=by
 intro a0 k
 obtain ⟨ih0,ih1⟩:=impl_failsAt.mono_l k
 unfold impl_failsAt.f
 repeat' first
   | (with_reducible exact ih0 _ _)
   | (with_reducible exact ih1 _ _ _ _ _ _)
   | (with_reducible exact impl_falling.mono _ _)
   | (with_reducible exact impl_sum.mono _ _)
   | (with_reducible exact LeO.refl _)
   | (with_reducible exact LeO.none _)
   | (with_reducible refine LeO.ite ?_ ?_)
   | (with_reducible refine LeO.bind ?_ (fun _=>?_))
   | exact ih0 _ _
   | exact ih1 _ _ _ _ _ _
   | exact impl_falling.mono _ _
   | exact impl_sum.mono _ _
   | exact LeO.none _
   | refine LeO.ite ?_ ?_
   | refine LeO.bind ?_ (fun _=>?_)
set_option maxHeartbeats 8000000 in
set_option maxRecDepth 100000 in
theorem impl_failsAt.calls (k:Nat) (A0:Option Addr) (c0:Nat) (l0:List Int) (r:Int) (w:World) (hr0:Kd.C (Kd.int .i64) w A0 l0.length l0) (hc0:l0.length≤c0) (h:impl_failsAt.f k l0=some r) :
  Calls Try.prog 73 #[.slice A0 l0.length c0] w fun e w'=>e=.returned (.int .i64 r)∧Below w.heap.size w w':=by
 have HR0:=zz31 hr0
 have HC0:=zz31 hc0
 clear hr0 hc0
 have HB:=zz31 (Below.refl w.heap.size w)
 have H:((impl_falling.f k l0).bind fun t235=>(impl_failsAt.l0 k t235 1))=some r:=h
 clear h
 replace H:=zz30.mp H
 obtain ⟨t235,A20,H⟩:=H
 replace H:(impl_failsAt.l0 k t235 1)=some r:=H
 have A2:=zz31 A20
 clear A20
 have H':=zz31 H
 clear H
 go_enter Try.func73,Try.ntmps73
 go_wp2_with (first | ((with_reducible refine gate_callee (f:=71) rfl ?_);refine goesL_ (some 9) rfl rfl Try.func71 (by kernel_rfl) rfl #[.slice A0 l0.length c0] rfl (by (try simp only [zz26,zz27,zz28]);first | done | rfl | (simp only [zz24,zz25];rfl)) ?_;(with_reducible refine (impl_falling.calls k _ _ l0 t235 _ ?side1 ?side2 A2.out).mono ?_);(case side1=>repeat (first | exact HR0.out | (with_reducible refine zz18 ?_ _) | (with_reducible refine zz19 ?_ _) | (with_reducible refine zz20 ?_)));(case side2=>exact HC0.out);rintro e w3 ⟨v236,rfl,ho0,hb⟩;refine ⟨_,rfl,?_⟩;have n0_:=zz31 (Kd.R_lower ho0 (zz5 (by repeat first | exact HB.out | apply zz2 | apply zz0 | apply zz1)));have n1_:=zz31 (zz4 (by repeat first | exact HB.out | apply zz2 | apply zz0 | apply zz1) hb);clear HB;have HO237:=n0_;have HB:=n1_;clear n0_ n1_;(try clear hb);(try clear hb2);(try clear hk);(try clear hi);(try clear ho0)))
 go_loopg [4] k (fun kq v4 w'=>∃ (x4_1:Int),v4=.int .i64 x4_1∧Aside0 (impl_failsAt.l0 kq t235 x4_1=some r)∧Aside0 (kq≤k)∧Aside0 (Kd.R (Kd.int .i64) 3 w' w.heap.size (fun _=>True) v236 t235)∧Aside0 (Below w.heap.size w w'))
 case atStart=>exact ⟨(1),(by first | rfl | (simp;done) | (simp [*];done)),H',⟨Nat.le_refl _⟩,⟨by (with_reducible repeat (first | apply zz12 | apply zz13 | apply zz14));exact HO237.out⟩,⟨by repeat first | exact HB.out | apply zz2 | apply zz0 | apply zz1⟩⟩
 case round =>
  clear H'
  try clear p2
  obtain ⟨x4_1,rfl,HA,HK1,HO_3,HB⟩:=hrel
  cases gk with
  | zero=>exact absurd HA.out (by simp [impl_failsAt.l0])
  | succ k1 =>
   have H:=HA.out
   clear HA
   simp only [impl_failsAt.l0] at H
   by_cases c4:x4_1≤(t235.length:Int)
   ·rw [if_pos c4] at H
    have c4b0:decide (x4_1≤(t235.length:Int))=true:=decide_eq_true c4
    clear c4
    by_cases c5:0≤x4_1
    ·rw [if_pos c5] at H
     have c5b0:=eq_true c5
     have c5b1:decide (0≤x4_1)=true:=decide_eq_true c5
     clear c5
     have c6b0:=eq_true (zz29 (by first | (with_reducible assumption) | assumption):x4_1≤(t235.length:Int))
     obtain ⟨y238,hy238⟩:∃ y_:List Int,y_=(t235.drop (x4_1:Int).toNat):=⟨_,rfl⟩
     replace H:(impl_failsAt.l1 k1 t235 x4_1 (wrap64 (x4_1 * (wrap64 (x4_1 - 1)))) y238 (y238.length:Int) 0)=some r:=by first | (rw [hy238];with_reducible exact H) | (have H2_:=(Option.bind_some _ _).symm.trans H;rw [hy238];with_reducible exact H2_) | (have H2_:=(Option.bind_some _ _).symm.trans H;with_reducible exact H2_) | with_reducible exact H | (rw [hy238];exact H) | exact H
     have Ny238:=zz31 hy238
     clear hy238
     have H':=zz31 H
     clear H
     obtain ⟨Ao7,co7,eo7⟩:=Kd.R_slice HO_3.out
     subst eo7
     have q8:(x4_1:Int)≤((t235.length:Int):Int):=zz29 (by first | (with_reducible assumption) | assumption)
     obtain ⟨i08,hi08,_,hsz8,_⟩:=info_parts info3
     have hroom8:t235.length≤co7:=(Kd.R_reads' HO_3.out).2.1
     have hC8:Kd.C (Kd.int .i64) _ Ao7 t235.length t235:=(Kd.R_reads' HO_3.out).2.2
     have q08:(0:Int)≤(x4_1:Int):=zz29 (by first | (with_reducible assumption) | assumption)
     have hcut8:=cut_from (P:=Try.prog) 22 3 .i64 Try.underlying22 hi08 1 hsz8 Ao7 t235.length co7 x4_1 q08 q8
     have hr8:=Kd.C_drop (m:=(x4_1:Int).toNat) (c:=co7) hC8 (by omega) hroom8
     obtain ⟨A8,hA8⟩:∃ A1,A1=(if co7=(x4_1:Int).toNat then Ao7 else (Ao7:Option Addr).map (·.add ((x4_1:Int).toNat * 1))):=⟨_,rfl⟩
     obtain ⟨c8,hc8⟩:∃ c1,c1=co7 - (x4_1:Int).toNat:=⟨_,rfl⟩
     have hy8:y238.length=t235.length - (x4_1:Int).toNat:=(by rw [Ny238.out,zz24] <;> omega)
     rw [show (t235).drop (x4_1:Int).toNat=y238 from Ny238.out.symm] at hr8
     replace hr8:Kd.C (Kd.int .i64) _ A8 y238.length y238:=(by rw [hA8];exact hr8)
     rw [← hy8,← hA8,← hc8] at hcut8
     have HR241:=zz31 hr8
     have HC241:=zz31 (show y238.length≤c8 from by rw [hy8,hc8];exact Nat.sub_le_sub_right hroom8 _)
     clear hr8 hC8 hroom8 hi08 hsz8 hc8
     have KY8:=zz31 hy8
     have KA8:=zz31 hA8
     clear hy8 hA8
     have KL8:=zz31 (show (x4_1:Int).toNat≤t235.length from by omega)
     replace q8:=eq_true q8
     go_wp2
     go_loopg [5,24] k1 (fun kq v5 v24 w'=>∃ (x5_2:Int) (x24_2:Int),v5=.int .i64 x5_2∧v24=.int .i64 x24_2∧Aside0 (impl_failsAt.l1 kq t235 x4_1 x5_2 y238 (y238.length:Int) x24_2=some r)∧Aside0 (kq≤k1)∧Aside0 (Kd.R (Kd.int .i64) 3 w' w.heap.size (fun _=>True) (.slice Ao7 t235.length co7) t235)∧Aside0 (Kd.C (Kd.int .i64) w' A8 y238.length y238)∧Aside0 (Below w.heap.size w w'))
     case atStart=>exact ⟨(wrap64 (x4_1 * (wrap64 (x4_1 - 1)))),(0),(by first | rfl | (simp;done) | (simp [*];done)),(by first | rfl | (simp;done) | (simp [*];done)),H',⟨Nat.le_refl _⟩,⟨by (with_reducible repeat (first | apply zz12 | apply zz13 | apply zz14));exact HO_3.out⟩,⟨by repeat (first | (with_reducible exact HR241.out) | (with_reducible refine zz18 ?_ _) | (with_reducible refine zz19 ?_ _) | (with_reducible refine zz20 ?_) | exact HR241.out)⟩,⟨by repeat first | exact HB.out | apply zz2 | apply zz0 | apply zz1⟩⟩
     case round =>
      clear H'
      try clear c1
      try clear p2
      try clear c4
      try clear c4b0
      try clear c5
      try clear c5b0
      try clear c5b1
      try clear c6
      try clear c6b0
      try clear p6
      try clear c7
      try clear c8
      try clear q8
      try clear p2
      try clear q08
      try clear q8
      obtain ⟨x5_2,x24_2,rfl,rfl,HA,HK2,HO_3,HR241,HB⟩:=hrel
      cases gk with
      | zero=>exact absurd HA.out (by simp [impl_failsAt.l1])
      | succ k2 =>
       have H:=HA.out
       clear HA
       simp only [impl_failsAt.l1] at H
       by_cases c9:x24_2 < (y238.length:Int)
       ·rw [if_pos c9] at H
        have c9b0:decide (x24_2 < (y238.length:Int))=true:=decide_eq_true c9
        clear c9
        by_cases c10:0≤x24_2
        ·rw [if_pos c10] at H
         have c10b0:decide (0≤x24_2)=true:=decide_eq_true c10
         clear c10
         by_cases c11:x24_2 < (y238.length:Int)
         ·rw [if_pos c11] at H
          have c11b0:decide (x24_2 < (y238.length:Int))=true:=decide_eq_true c11
          clear c11
          obtain ⟨ji12,hji12⟩:∃ j_:Int,(mn x4_1 (rd y238 x24_2))=j_:=⟨_,rfl⟩
          replace H:(impl_failsAt.l1 k2 t235 x4_1 (wrap64 (x5_2+(ji12))) y238 (y238.length:Int) (wrap64 (x24_2+1)))=some r:=by first | (rw [hji12] at H;exact H) | (simp only [hji12] at H ⊢;exact H)
          have hji12_:(if (rd y238 x24_2) < x4_1 then (rd y238 x24_2) else x4_1)=ji12:=hji12
          have H':=zz31 H
          clear H
          have p242:0≤(x24_2:Int):=zz29 (by first | (with_reducible assumption) | assumption)
          have q242:x24_2 < (y238.length:Int):=zz29 (by first | (with_reducible assumption) | assumption)
          obtain ⟨ad242,e242,hx242_0⟩:=Kd.at_int HR241.out x24_2 p242 q242
          cases e242
          try replace hx242_0:=(HB.out.cell (World.block_lt_of_cell? w _ hx242_0)).trans hx242_0
          replace p242:=eq_true p242
          replace q242:=eq_true q242
          go_wp2
          go_roundg k2
          case measure=>have:=HK1.out;have:=HK2.out;omega
          case rel=>exact ⟨(wrap64 (x5_2+(ji12))),(wrap64 (x24_2+1)),(by first | rfl | (simp;done) | (simp only [← hji12] <;> (first | rfl | simp)) | (simp [*];done)),(by first | rfl | (simp;done) | (simp [*];done)),H',⟨by have:=HK1.out;have:=HK2.out;omega⟩,⟨by (with_reducible repeat (first | apply zz12 | apply zz13 | apply zz14));exact HO_3.out⟩,⟨by repeat (first | (with_reducible exact HR241.out) | (with_reducible refine zz18 ?_ _) | (with_reducible refine zz19 ?_ _) | (with_reducible refine zz20 ?_) | exact HR241.out)⟩,⟨by repeat first | exact HB.out | apply zz2 | apply zz0 | apply zz1⟩⟩
         ·rw [if_neg c11] at H
          exact absurd H (by simp)
        ·rw [if_neg c10] at H
         exact absurd H (by simp)
       ·rw [if_neg c9] at H
        have c9b0:decide (x24_2 < (y238.length:Int))=false:=decide_eq_false c9
        clear c9
        by_cases c13:0≤x4_1
        ·rw [if_pos c13] at H
         have c13b0:=eq_true c13
         have c13b1:decide (0≤x4_1)=true:=decide_eq_true c13
         clear c13
         by_cases c14:x4_1≤(t235.length:Int)
         ·rw [if_pos c14] at H
          have c14b0:=eq_true c14
          have c14b1:decide (x4_1≤(t235.length:Int))=true:=decide_eq_true c14
          clear c14
          obtain ⟨y243,hy243⟩:∃ y_:List Int,y_=(t235.take (x4_1:Int).toNat):=⟨_,rfl⟩
          replace H:((impl_sum.f k2 y243).bind fun t247=>(if t247 > x5_2 then (some x4_1) else (impl_failsAt.l0 k2 t235 (wrap64 (x4_1+1)))))=some r:=by first | (rw [hy243];with_reducible exact H) | (have H2_:=(Option.bind_some _ _).symm.trans H;rw [hy243];with_reducible exact H2_) | (have H2_:=(Option.bind_some _ _).symm.trans H;with_reducible exact H2_) | with_reducible exact H | (rw [hy243];exact H) | exact H
          have Ny243:=zz31 hy243
          clear hy243
          replace H:=zz30.mp H
          obtain ⟨t247,A150,H⟩:=H
          replace H:(if t247 > x5_2 then (some x4_1) else (impl_failsAt.l0 k2 t235 (wrap64 (x4_1+1))))=some r:=H
          have A15:=zz31 A150
          clear A150
          by_cases c16:t247 > x5_2
          ·rw [if_pos c16] at H
           have c16b0:decide (x5_2 < t247)=true:=decide_eq_true c16
           clear c16
           obtain rfl:=Option.some.inj H
           have q17:(x4_1:Int)≤((t235.length:Int):Int):=zz29 (by first | (with_reducible assumption) | assumption)
           obtain ⟨i017,hi017,_,hsz17,_⟩:=info_parts info3
           have hroom17:t235.length≤co7:=(Kd.R_reads' HO_3.out).2.1
           have hC17:Kd.C (Kd.int .i64) _ Ao7 t235.length t235:=(Kd.R_reads' HO_3.out).2.2
           have hcut17:=cut_to (P:=Try.prog) 22 3 .i64 Try.underlying22 hi017 Ao7 t235.length co7 x4_1 (zz29 (by first | (with_reducible assumption) | assumption)) q17 hroom17
           have hr17:=Kd.C_take (m:=(x4_1:Int).toNat) hC17 (by omega)
           have hy17:y243.length=(x4_1:Int).toNat:=(by rw [Ny243.out,zz25];omega)
           rw [← Ny243.out] at hr17
           rw [← hy17] at hcut17
           have HR246:=zz31 hr17
           have HC246:=zz31 (show y243.length≤co7 from by omega)
           clear hr17 hC17 hroom17 hi017 hsz17
           have KY17:=zz31 hy17
           clear hy17
           have KL17:=zz31 (show (x4_1:Int).toNat≤t235.length from by omega)
           replace q17:=eq_true q17
           go_wp2_with (first | ((with_reducible refine gate_callee (f:=64) rfl ?_);refine goesL_ (some 37) rfl rfl Try.func64 (by kernel_rfl) rfl #[.slice Ao7 y243.length co7] rfl (by (try simp only [zz26,zz27,zz28]);first | done | rfl | (simp only [zz24,zz25];rfl)) ?_;(with_reducible refine (impl_sum.calls k2 _ _ y243 t247 _ ?side1 ?side2 A15.out).mono ?_);(case side1=>repeat (first | exact (by repeat (first | (with_reducible exact HR246.out) | (with_reducible refine zz18 ?_ _) | (with_reducible refine zz19 ?_ _) | (with_reducible refine zz20 ?_) | exact HR246.out)) | (with_reducible refine zz18 ?_ _) | (with_reducible refine zz19 ?_ _) | (with_reducible refine zz20 ?_)));(case side2=>exact HC246.out);rintro e w' ⟨rfl,⟨nd,rfl⟩⟩;refine ⟨_,rfl,?_⟩))
           go_ret
           exact ⟨by first | rfl | (simp [errW_none,errW_some] <;> rfl) | (simp [*,errW_none,errW_some] <;> rfl),by repeat first | exact HB.out | apply zz2 | apply zz0 | apply zz1⟩
          ·rw [if_neg c16] at H
           have c16b0:decide (x5_2 < t247)=false:=decide_eq_false c16
           clear c16
           have H':=zz31 H
           clear H
           have q18:(x4_1:Int)≤((t235.length:Int):Int):=zz29 (by first | (with_reducible assumption) | assumption)
           obtain ⟨i018,hi018,_,hsz18,_⟩:=info_parts info3
           have hroom18:t235.length≤co7:=(Kd.R_reads' HO_3.out).2.1
           have hC18:Kd.C (Kd.int .i64) _ Ao7 t235.length t235:=(Kd.R_reads' HO_3.out).2.2
           have hcut18:=cut_to (P:=Try.prog) 22 3 .i64 Try.underlying22 hi018 Ao7 t235.length co7 x4_1 (zz29 (by first | (with_reducible assumption) | assumption)) q18 hroom18
           have hr18:=Kd.C_take (m:=(x4_1:Int).toNat) hC18 (by omega)
           have hy18:y243.length=(x4_1:Int).toNat:=(by rw [Ny243.out,zz25];omega)
           rw [← Ny243.out] at hr18
           rw [← hy18] at hcut18
           have HR246:=zz31 hr18
           have HC246:=zz31 (show y243.length≤co7 from by omega)
           clear hr18 hC18 hroom18 hi018 hsz18
           have KY18:=zz31 hy18
           clear hy18
           have KL18:=zz31 (show (x4_1:Int).toNat≤t235.length from by omega)
           replace q18:=eq_true q18
           go_wp2_with (first | ((with_reducible refine gate_callee (f:=64) rfl ?_);refine goesL_ (some 37) rfl rfl Try.func64 (by kernel_rfl) rfl #[.slice Ao7 y243.length co7] rfl (by (try simp only [zz26,zz27,zz28]);first | done | rfl | (simp only [zz24,zz25];rfl)) ?_;(with_reducible refine (impl_sum.calls k2 _ _ y243 t247 _ ?side1 ?side2 A15.out).mono ?_);(case side1=>repeat (first | exact (by repeat (first | (with_reducible exact HR246.out) | (with_reducible refine zz18 ?_ _) | (with_reducible refine zz19 ?_ _) | (with_reducible refine zz20 ?_) | exact HR246.out)) | (with_reducible refine zz18 ?_ _) | (with_reducible refine zz19 ?_ _) | (with_reducible refine zz20 ?_)));(case side2=>exact HC246.out);rintro e w' ⟨rfl,⟨nd,rfl⟩⟩;refine ⟨_,rfl,?_⟩))
           go_roundg k2
           case measure=>have:=HK1.out;have:=HK2.out;omega
           case rel=>exact ⟨(wrap64 (x4_1+1)),(by first | rfl | (simp;done) | (simp [*];done)),H',⟨by have:=HK1.out;have:=HK2.out;omega⟩,⟨by (with_reducible repeat (first | apply zz12 | apply zz13 | apply zz14));exact HO_3.out⟩,⟨by repeat first | exact HB.out | apply zz2 | apply zz0 | apply zz1⟩⟩
         ·rw [if_neg c14] at H
          exact absurd H (by simp)
        ·rw [if_neg c13] at H
         exact absurd H (by simp)
    ·rw [if_neg c5] at H
     exact absurd H (by simp)
   ·rw [if_neg c4] at H
    have c4b0:decide (x4_1≤(t235.length:Int))=false:=decide_eq_false c4
    clear c4
    obtain rfl:=Option.some.inj H
    obtain ⟨Ao19,co19,eo19⟩:=Kd.R_slice HO_3.out
    subst eo19
    go_wp2
    go_ret
    exact ⟨by first | rfl | (simp [errW_none,errW_some] <;> rfl) | (simp [*,errW_none,errW_some] <;> rfl),by repeat first | exact HB.out | apply zz2 | apply zz0 | apply zz1⟩

/-! ### impl_canBe: function 75 -/
def impl_canBe.f (k:Nat) (l0:List Int):Option (Bool):=(impl_sum.f k l0).bind fun t248=>(if (Int.tmod t248 2)=0 then ((impl_failsAt.f k l0).bind fun t249=>(some (t249 == 0))) else (some false))
theorem impl_canBe.mono:∀ a0 k,LeO (impl_canBe.f k a0) (impl_canBe.f (k+1) a0):=by
 intro a0 k
 unfold impl_canBe.f
 repeat' first
   | (with_reducible exact impl_failsAt.mono _ _)
   | (with_reducible exact impl_sum.mono _ _)
   | (with_reducible exact LeO.refl _)
   | (with_reducible exact LeO.none _)
   | (with_reducible refine LeO.ite ?_ ?_)
   | (with_reducible refine LeO.bind ?_ (fun _=>?_))
   | exact impl_failsAt.mono _ _
   | exact impl_sum.mono _ _
   | exact LeO.none _
   | refine LeO.ite ?_ ?_
   | refine LeO.bind ?_ (fun _=>?_)
set_option maxHeartbeats 8000000 in
set_option maxRecDepth 100000 in
theorem impl_canBe.calls (k:Nat) (A0:Option Addr) (c0:Nat) (l0:List Int) (r:Bool) (w:World) (hr0:Kd.C (Kd.int .i64) w A0 l0.length l0) (hc0:l0.length≤c0) (h:impl_canBe.f k l0=some r) :
  Calls Try.prog 75 #[.slice A0 l0.length c0] w fun e w'=>e=.returned (.bool r)∧Below w.heap.size w w':=by
 have HR0:=zz31 hr0
 have HC0:=zz31 hc0
 clear hr0 hc0
 have HB:=zz31 (Below.refl w.heap.size w)
 have H:((impl_sum.f k l0).bind fun t248=>(if (Int.tmod t248 2)=0 then ((impl_failsAt.f k l0).bind fun t249=>(some (t249 == 0))) else (some false)))=some r:=h
 clear h
 replace H:=zz30.mp H
 obtain ⟨t248,A20,H⟩:=H
 replace H:(if (Int.tmod t248 2)=0 then ((impl_failsAt.f k l0).bind fun t249=>(some (t249 == 0))) else (some false))=some r:=H
 have A2:=zz31 A20
 clear A20
 by_cases c3:(Int.tmod t248 2)=0
 ·rw [if_pos c3] at H
  have c3b0:((Int.tmod t248 2) == 0)=true:=beq_iff_eq.mpr c3
  have c3b1:((Int.tmod t248 2) != 0)=false:=bne_eq_false_iff_eq.mpr c3
  clear c3
  replace H:=zz30.mp H
  obtain ⟨t249,A40,H⟩:=H
  replace H:(some (t249 == 0))=some r:=H
  have A4:=zz31 A40
  clear A40
  obtain rfl:=Option.some.inj H
  go_enter Try.func75,Try.ntmps75
  go_wp2_with (first | ((with_reducible refine gate_callee (f:=64) rfl ?_);refine goesL_ (some 4) rfl rfl Try.func64 (by kernel_rfl) rfl #[.slice A0 l0.length c0] rfl (by (try simp only [zz26,zz27,zz28]);first | done | rfl | (simp only [zz24,zz25];rfl)) ?_;(with_reducible refine (impl_sum.calls k _ _ l0 t248 _ ?side1 ?side2 A2.out).mono ?_);(case side1=>repeat (first | exact HR0.out | (with_reducible refine zz18 ?_ _) | (with_reducible refine zz19 ?_ _) | (with_reducible refine zz20 ?_)));(case side2=>exact HC0.out);rintro e w' ⟨rfl,⟨nd,rfl⟩⟩;refine ⟨_,rfl,?_⟩) | (go_at_call 73;(with_reducible refine (impl_failsAt.calls k _ _ l0 t249 _ ?side1 ?side2 A4.out).mono ?_);(case side1=>repeat (first | exact HR0.out | (with_reducible refine zz18 ?_ _) | (with_reducible refine zz19 ?_ _) | (with_reducible refine zz20 ?_)));(case side2=>exact HC0.out);rintro e w5 ⟨rfl,hb⟩;have n0_:=zz31 (zz4 (by repeat first | exact HB.out | apply zz2 | apply zz0 | apply zz1) hb);clear HB;have HB:=n0_;clear n0_;(try clear hb);(try clear hb2);(try clear hk);(try clear hi)))
  go_ret
  exact ⟨by first | rfl | (simp [errW_none,errW_some] <;> rfl) | (simp [*,errW_none,errW_some] <;> rfl),by repeat first | exact HB.out | apply zz2 | apply zz0 | apply zz1⟩
 ·rw [if_neg c3] at H
  have c3b0:((Int.tmod t248 2) == 0)=false:=beq_eq_false_iff_ne.mpr c3
  have c3b1:((Int.tmod t248 2) != 0)=true:=bne_iff_ne.mpr c3
  obtain rfl:=Option.some.inj H
  go_enter Try.func75,Try.ntmps75
  go_wp2_with (first | ((with_reducible refine gate_callee (f:=64) rfl ?_);refine goesL_ (some 4) rfl rfl Try.func64 (by kernel_rfl) rfl #[.slice A0 l0.length c0] rfl (by (try simp only [zz26,zz27,zz28]);first | done | rfl | (simp only [zz24,zz25];rfl)) ?_;(with_reducible refine (impl_sum.calls k _ _ l0 t248 _ ?side1 ?side2 A2.out).mono ?_);(case side1=>repeat (first | exact HR0.out | (with_reducible refine zz18 ?_ _) | (with_reducible refine zz19 ?_ _) | (with_reducible refine zz20 ?_)));(case side2=>exact HC0.out);rintro e w' ⟨rfl,⟨nd,rfl⟩⟩;refine ⟨_,rfl,?_⟩))
  go_ret
  exact ⟨by first | rfl | (simp [errW_none,errW_some] <;> rfl) | (simp [*,errW_none,errW_some] <;> rfl),by repeat first | exact HB.out | apply zz2 | apply zz0 | apply zz1⟩

/-! ### impl_CanBe: function 34 -/
def impl_CanBe.f (k:Nat) (l0:List Int):Option (Bool × Bool):=(impl_IsNumbers.f l0).bind fun t250=>(if t250=true then ((impl_canBe.f k l0).bind fun t251=>(some (t251,true))) else (some (false,false)))
theorem impl_CanBe.mono:∀ a0 k,LeO (impl_CanBe.f k a0) (impl_CanBe.f (k+1) a0):=by
 intro a0 k
 unfold impl_CanBe.f
 repeat' first
   | (with_reducible exact impl_canBe.mono _ _)
   | (with_reducible exact LeO.refl _)
   | (with_reducible exact LeO.none _)
   | (with_reducible refine LeO.ite ?_ ?_)
   | (with_reducible refine LeO.bind ?_ (fun _=>?_))
   | exact impl_canBe.mono _ _
   | exact LeO.none _
   | refine LeO.ite ?_ ?_
   | refine LeO.bind ?_ (fun _=>?_)
set_option maxHeartbeats 8000000 in
set_option maxRecDepth 100000 in
theorem impl_CanBe.calls (k:Nat) (A0:Option Addr) (c0:Nat) (l0:List Int) (r1:Bool) (r2:Bool) (w:World) (hr0:Kd.C (Kd.int .i64) w A0 l0.length l0) (hc0:l0.length≤c0) (h:impl_CanBe.f k l0=some (r1,r2)) :
  Calls Try.prog 34 #[.slice A0 l0.length c0] w fun e w'=>e=.returned (.tuple #[.bool r1,.bool r2])∧Below w.heap.size w w':=by
 have HR0:=zz31 hr0
 have HC0:=zz31 hc0
 clear hr0 hc0
 have HB:=zz31 (Below.refl w.heap.size w)
 have H:((impl_IsNumbers.f l0).bind fun t250=>(if t250=true then ((impl_canBe.f k l0).bind fun t251=>(some (t251,true))) else (some (false,false))))=some (r1,r2):=h
 clear h
 replace H:=zz30.mp H
 obtain ⟨t250,A20,H⟩:=H
 replace H:(if t250=true then ((impl_canBe.f k l0).bind fun t251=>(some (t251,true))) else (some (false,false)))=some (r1,r2):=H
 have A2:=zz31 A20
 clear A20
 by_cases c3:t250=true
 ·subst c3
  have H1:((impl_canBe.f k l0).bind fun t251=>(some (t251,true)))=some (r1,r2):=by rw [if_pos rfl] at H;exact H
  clear H
  have H:=H1
  clear H1
  replace H:=zz30.mp H
  obtain ⟨t251,A40,H⟩:=H
  replace H:(some (t251,true))=some (r1,r2):=H
  have A4:=zz31 A40
  clear A40
  simp only [Option.some.injEq,Prod.mk.injEq] at H
  obtain ⟨rfl,rfl⟩:=H
  go_enter Try.func34,Try.ntmps34
  go_wp2_with (first | ((with_reducible refine gate_callee (f:=62) rfl ?_);refine goesL_ (some 5) rfl rfl Try.func62 (by kernel_rfl) rfl #[.slice A0 l0.length c0] rfl (by (try simp only [zz26,zz27,zz28]);first | done | rfl | (simp only [zz24,zz25];rfl)) ?_;(with_reducible refine (impl_IsNumbers.calls _ _ l0 true _ ?side1 ?side2 A2.out).mono ?_);(case side1=>repeat (first | exact HR0.out | (with_reducible refine zz18 ?_ _) | (with_reducible refine zz19 ?_ _) | (with_reducible refine zz20 ?_)));(case side2=>exact HC0.out);rintro e w5 ⟨rfl,hb⟩;refine ⟨_,rfl,?_⟩;have n0_:=zz31 (zz4 (by repeat first | exact HB.out | apply zz2 | apply zz0 | apply zz1) hb);clear HB;have HB:=n0_;clear n0_;(try clear hb);(try clear hb2);(try clear hk);(try clear hi)) | ((with_reducible refine gate_callee (f:=75) rfl ?_);refine goesL_ (some 8) rfl rfl Try.func75 (by kernel_rfl) rfl #[.slice A0 l0.length c0] rfl (by (try simp only [zz26,zz27,zz28]);first | done | rfl | (simp only [zz24,zz25];rfl)) ?_;(with_reducible refine (impl_canBe.calls k _ _ l0 t251 _ ?side1 ?side2 A4.out).mono ?_);(case side1=>repeat (first | exact (Kd.C_below HR0.out HB.out) | (with_reducible refine zz18 ?_ _) | (with_reducible refine zz19 ?_ _) | (with_reducible refine zz20 ?_)));(case side2=>exact HC0.out);rintro e w6 ⟨rfl,hb⟩;refine ⟨_,rfl,?_⟩;have n0_:=zz31 (zz4 (by repeat first | exact HB.out | apply zz2 | apply zz0 | apply zz1) hb);clear HB;have HB:=n0_;clear n0_;(try clear hb);(try clear hb2);(try clear hk);(try clear hi)))
  go_ret2
  exact ⟨by first | rfl | (simp [errW_none,errW_some] <;> rfl) | (simp [*,errW_none,errW_some] <;> rfl),by repeat first | exact HB.out | apply zz2 | apply zz0 | apply zz1⟩
 ·replace c3:=Bool.eq_false_iff.mpr c3
  subst c3
  have H1:(some (false,false))=some (r1,r2):=by rw [if_neg (show ¬ (false=true) by decide)] at H;exact H
  clear H
  have H:=H1
  clear H1
  simp only [Option.some.injEq,Prod.mk.injEq] at H
  obtain ⟨rfl,rfl⟩:=H
  go_enter Try.func34,Try.ntmps34
  go_wp2_with (first | ((with_reducible refine gate_callee (f:=62) rfl ?_);refine goesL_ (some 5) rfl rfl Try.func62 (by kernel_rfl) rfl #[.slice A0 l0.length c0] rfl (by (try simp only [zz26,zz27,zz28]);first | done | rfl | (simp only [zz24,zz25];rfl)) ?_;(with_reducible refine (impl_IsNumbers.calls _ _ l0 false _ ?side1 ?side2 A2.out).mono ?_);(case side1=>repeat (first | exact HR0.out | (with_reducible refine zz18 ?_ _) | (with_reducible refine zz19 ?_ _) | (with_reducible refine zz20 ?_)));(case side2=>exact HC0.out);rintro e w7 ⟨rfl,hb⟩;refine ⟨_,rfl,?_⟩;have n0_:=zz31 (zz4 (by repeat first | exact HB.out | apply zz2 | apply zz0 | apply zz1) hb);clear HB;have HB:=n0_;clear n0_;(try clear hb);(try clear hb2);(try clear hk);(try clear hi)))
  go_ret2
  exact ⟨by first | rfl | (simp [errW_none,errW_some] <;> rfl) | (simp [*,errW_none,errW_some] <;> rfl),by repeat first | exact HB.out | apply zz2 | apply zz0 | apply zz1⟩

/-! ### impl_table_has: function 88 -/
def impl_table_has.f (l0:List Int) (a1:Int) (a2:Int):Option (Bool):=if 0≤a1 then (if a1 < (l0.length:Int) then (if 0≤a2 then (some ((Go.bits .and .u16 (shr .u16 (rd l0 a1) a2) 1) == 1)) else (none)) else (none)) else (none)
set_option maxHeartbeats 8000000 in
set_option maxRecDepth 100000 in
theorem impl_table_has.calls (A0:Option Addr) (c0:Nat) (l0:List Int) (a1:Int) (a2:Int) (r:Bool) (w:World) (hr0:Kd.C (Kd.int .u16) w A0 l0.length l0) (hc0:l0.length≤c0) (h:impl_table_has.f l0 a1 a2=some r) :
  Calls Try.prog 88 #[.slice A0 l0.length c0,.int .i64 a1,.int .i64 a2] w fun e w'=>e=.returned (.bool r)∧Drawn0 w w':=by
 have HR0:=zz31 hr0
 have HC0:=zz31 hc0
 clear hr0 hc0
 have H:(if 0≤a1 then (if a1 < (l0.length:Int) then (if 0≤a2 then (some ((Go.bits .and .u16 (shr .u16 (rd l0 a1) a2) 1) == 1)) else (none)) else (none)) else (none))=some r:=h
 clear h
 by_cases c4:0≤a1
 ·rw [if_pos c4] at H
  have c4b0:decide (0≤a1)=true:=decide_eq_true c4
  clear c4
  by_cases c5:a1 < (l0.length:Int)
  ·rw [if_pos c5] at H
   have c5b0:decide (a1 < (l0.length:Int))=true:=decide_eq_true c5
   clear c5
   by_cases c6:0≤a2
   ·rw [if_pos c6] at H
    have c6b0:=eq_true c6
    have c6b1:decide (0≤a2)=true:=decide_eq_true c6
    clear c6
    obtain ⟨ji7,hji7⟩:∃ j_:Int,(shr .u16 (rd l0 a1) a2)=j_:=⟨_,rfl⟩
    replace H:(some ((Go.bits .and .u16 (ji7) 1) == 1))=some r:=by first | (rw [hji7] at H;exact H) | (simp only [hji7] at H ⊢;exact H)
    have hji7_:((rd l0 a1) / 2 ^ min a2.toNat 16)=ji7:=hji7
    have hji7z:a2≤16→((rd l0 a1) / 2 ^ a2.toNat)=ji7:=shr_small hji7
    obtain rfl:=Option.some.inj H
    have p252:0≤(a1:Int):=zz29 (by first | (with_reducible assumption) | assumption)
    have q252:a1 < (l0.length:Int):=zz29 (by first | (with_reducible assumption) | assumption)
    obtain ⟨ad252,e252,hx252_0⟩:=Kd.at_int HR0.out a1 p252 q252
    cases e252
    replace p252:=eq_true p252
    replace q252:=eq_true q252
    go_enter Try.func88,Try.ntmps88
    go_wp2
    go_ret
    exact ⟨by first | rfl | (simp;done) | (simp only [← hji7] <;> (first | rfl | simp)) | (simp [*];done),by repeat (first | exact Drawn0.refl _ | apply Drawn0.step)⟩
   ·rw [if_neg c6] at H
    exact absurd H (by simp)
  ·rw [if_neg c5] at H
   exact absurd H (by simp)
 ·rw [if_neg c4] at H
  exact absurd H (by simp)

end Go.Proofs.Ytjipjcdeoajnjaa.P
