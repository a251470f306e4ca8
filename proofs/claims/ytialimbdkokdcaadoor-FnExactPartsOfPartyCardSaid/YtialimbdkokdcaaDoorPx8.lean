-- PRINTED by print.py (a twelfth state) out of the translation. Not trusted: Lean checks it.
import Derived.Test.YtialimbdkokdcaaDoorPx0
import Derived.Test.YtialimbdkokdcaaDoorPx1
import Derived.Test.YtialimbdkokdcaaDoorPx4
import Derived.Test.YtialimbdkokdcaaDoorPx5
import Derived.Test.YtialimbdkokdcaaDoorPx6
namespace Go.Proofs.YtialimbdkokdcaaDoor.P
open Go.RowKit Go.Proofs.YtialimbdkokdcaaDoorW.PrintWords Go.Proofs.YtialimbdkokdcaaDoorW.PrintLast Go.Proofs.YtialimbdkokdcaaDoorW.PrintMore
attribute [local go_sem] max2_int min2_int max_two min_two max_three min_three max_four min_four   -- for this text's walks alone
set_option linter.unusedVariables false
set_option linter.unusedSimpArgs false

/-! ### spec_l1Put: function 48 -/
def spec_l1Put.l0:Nat→List Int→Int→Int→Option (List Int)
 | 0,_,_,_=>none
 | k+1,x0,x1,x5=>if x5 < (x0.length:Int) then (if 0≤x5 then (if (rd x0 x5) < x1 then (spec_l1Put.l0 k x0 x1 (wrap64 (x5+1))) else (if (rd x0 x5)=x1 then (some x0) else ((some (([]:List Int):List Int)).bind fun y350=>(if x5≤(x0.length:Int) then ((some (x0.take (x5:Int).toNat:List Int)).bind fun y353=>(if y350.length+y353.length < 17592186044416 then ((some (y350 ++ y353:List Int)).bind fun y357=>(if y357.length < 17592186044416 then ((some (y357 ++ [x1]:List Int)).bind fun y360=>((some (x0.drop (x5:Int).toNat:List Int)).bind fun y363=>(if y360.length+y363.length < 17592186044416 then (some (y360 ++ y363)) else (none)))) else (none))) else (none))) else (none))))) else (none)) else ((some (([]:List Int):List Int)).bind fun y370=>(if 0≤x5 then (if x5≤(x0.length:Int) then ((some (x0.take (x5:Int).toNat:List Int)).bind fun y373=>(if y370.length+y373.length < 17592186044416 then ((some (y370 ++ y373:List Int)).bind fun y377=>(if y377.length < 17592186044416 then ((some (y377 ++ [x1]:List Int)).bind fun y380=>((some (x0.drop (x5:Int).toNat:List Int)).bind fun y383=>(if y380.length+y383.length < 17592186044416 then (some (y380 ++ y383)) else (none)))) else (none))) else (none))) else (none)) else (none)))
def spec_l1Put.f (k:Nat) (l0:List Int) (a1:Int):Option (List Int):=spec_l1Put.l0 k l0 a1 0
theorem spec_l1Put.mono_l:∀ k,(∀ y0 y1 y2,LeO (spec_l1Put.l0 k y0 y1 y2) (spec_l1Put.l0 (k+1) y0 y1 y2))
 | 0=>fun _ _ _ r h=>by simp [spec_l1Put.l0] at h
 | k+1=>by
  have ih0:=spec_l1Put.mono_l k
  ·intro y0 y1 y2
   unfold spec_l1Put.l0
   repeat' first
   | (with_reducible exact ih0 _ _ _)
   | (with_reducible exact LeO.refl _)
   | (with_reducible exact LeO.none _)
   | (with_reducible refine LeO.ite ?_ ?_)
   | (with_reducible refine LeO.bind ?_ (fun _=>?_))
   | exact ih0 _ _ _
   | exact LeO.none _
   | refine LeO.ite ?_ ?_
   | refine LeO.bind ?_ (fun _=>?_)
theorem spec_l1Put.mono:∀ a0 a1 k,LeO (spec_l1Put.f k a0 a1) (spec_l1Put.f (k+1) a0 a1):=by
 intro a0 a1 k
 have ih0:=spec_l1Put.mono_l k
 unfold spec_l1Put.f
 repeat' first
   | (with_reducible exact ih0 _ _ _)
   | (with_reducible exact LeO.refl _)
   | (with_reducible exact LeO.none _)
   | (with_reducible refine LeO.ite ?_ ?_)
   | (with_reducible refine LeO.bind ?_ (fun _=>?_))
   | exact ih0 _ _ _
   | exact LeO.none _
   | refine LeO.ite ?_ ?_
   | refine LeO.bind ?_ (fun _=>?_)
set_option maxHeartbeats 8000000 in
set_option maxRecDepth 100000 in
theorem spec_l1Put.calls (k:Nat) (P0_:Nat→Prop) (u9000_:Value) (l0:List Int) (a1:Int) (r:List Int) (w0 w:World) (hB:Below w0.heap.size w0 w) (ho0:Kd.R (Kd.int .i64) 3 w w0.heap.size P0_ u9000_ l0) (h:spec_l1Put.f k l0 a1=some r) :
  Calls Tryd.prog 48 #[u9000_,.int .i64 a1] w fun e w'=>∃ v0_:Value,e=.returned (v0_)∧Kd.R (Kd.int .i64) 3 w' w0.heap.size (fun k_=>(P0_ k_ ∨ w.heap.size≤k_)) v0_ r∧Below w0.heap.size w0 w'∧Kept w w' (fun k_=>P0_ k_):=by
 have HO0:=zz31 (show Kd.R (Kd.int .i64) 3 w w0.heap.size (fun k_=>(P0_ k_ ∨ w.heap.size≤k_)) u9000_ l0 from Kd.R_mono ho0 (fun k_ hk=>(.inl hk)))
 have HK:=zz31 (Kept.refl w (fun k_=>P0_ k_))
 have HW0:=zz31 hB.size
 have HB:=zz31 hB
 clear hB
 have H:(spec_l1Put.l0 k l0 a1 0)=some r:=h
 clear h
 have H':=zz31 H
 clear H
 go_enter Tryd.func48,Tryd.ntmps48
 go_wp2
 go_loopg [5] k (fun kq v5 w'=>∃ (x5_1:Int),v5=.int .i64 x5_1∧Aside0 (spec_l1Put.l0 kq l0 a1 x5_1=some r)∧Aside0 (kq≤k)∧Aside0 (Kd.R (Kd.int .i64) 3 w' w0.heap.size (fun k_=>(P0_ k_ ∨ w.heap.size≤k_)) u9000_ l0)∧Aside0 (Kept w w' (fun k_=>P0_ k_))∧Aside0 (Below w0.heap.size w0 w'))
 case atStart=>exact ⟨(0),(by first | rfl | (simp;done) | (simp [*];done)),H',⟨Nat.le_refl _⟩,⟨by (with_reducible repeat (first | apply zz12 | apply zz13 | apply zz14));exact HO0.out⟩,⟨by repeat (first | (with_reducible first | exact HK.out | apply Kept.alloc | apply Kept.drewN | apply Kept.drew) | exact HK.out)⟩,⟨by repeat first | exact HB.out | apply zz2 | apply zz0 | apply zz1⟩⟩
 case round =>
  clear H'
  try clear p2
  obtain ⟨x5_1,rfl,HA,HK1,HO_0,HK,HB⟩:=hrel
  cases gk with
  | zero=>exact absurd HA.out (by simp [spec_l1Put.l0])
  | succ k1 =>
   have H:=HA.out
   clear HA
   simp only [spec_l1Put.l0] at H
   by_cases c3:x5_1 < (l0.length:Int)
   ·rw [if_pos c3] at H
    have c3b0:decide (x5_1 < (l0.length:Int))=true:=decide_eq_true c3
    clear c3
    by_cases c4:0≤x5_1
    ·rw [if_pos c4] at H
     have c4b0:decide (0≤x5_1)=true:=decide_eq_true c4
     clear c4
     by_cases c5:(rd l0 x5_1) < a1
     ·rw [if_pos c5] at H
      have c5b0:decide ((rd l0 x5_1) < a1)=true:=decide_eq_true c5
      clear c5
      have H':=zz31 H
      clear H
      obtain ⟨Ao6,co6,eo6⟩:=Kd.R_slice HO_0.out
      subst eo6
      have p348:0≤(x5_1:Int):=zz29 (by first | (with_reducible assumption) | assumption)
      have q348:x5_1 < (l0.length:Int):=zz29 (by first | (with_reducible assumption) | assumption)
      obtain ⟨ad348,e348,hx348_0⟩:=Kd.at_int (Kd.R_reads' HO_0.out).2.2 x5_1 p348 q348
      cases e348
      replace p348:=eq_true p348
      replace q348:=eq_true q348
      go_wp2
      go_roundg k1
      case measure=>have:=HK1.out;omega
      case rel=>exact ⟨(wrap64 (x5_1+1)),(by first | rfl | (simp;done) | (simp [*];done)),H',⟨by have:=HK1.out;omega⟩,⟨by (with_reducible repeat (first | apply zz12 | apply zz13 | apply zz14));exact HO_0.out⟩,⟨by repeat (first | (with_reducible first | exact HK.out | apply Kept.alloc | apply Kept.drewN | apply Kept.drew) | exact HK.out)⟩,⟨by repeat first | exact HB.out | apply zz2 | apply zz0 | apply zz1⟩⟩
     ·rw [if_neg c5] at H
      have c5b0:decide ((rd l0 x5_1) < a1)=false:=decide_eq_false c5
      clear c5
      by_cases c7:(rd l0 x5_1)=a1
      ·rw [if_pos c7] at H
       have c7b0:((rd l0 x5_1) == a1)=true:=beq_iff_eq.mpr c7
       have c7b1:((rd l0 x5_1) != a1)=false:=bne_eq_false_iff_eq.mpr c7
       clear c7
       obtain rfl:=Option.some.inj H
       obtain ⟨Ao8,co8,eo8⟩:=Kd.R_slice HO_0.out
       subst eo8
       have p348:0≤(x5_1:Int):=zz29 (by first | (with_reducible assumption) | assumption)
       have q348:x5_1 < (l0.length:Int):=zz29 (by first | (with_reducible assumption) | assumption)
       obtain ⟨ad348,e348,hx348_0⟩:=Kd.at_int (Kd.R_reads' HO_0.out).2.2 x5_1 p348 q348
       cases e348
       replace p348:=eq_true p348
       replace q348:=eq_true q348
       have p349:0≤(x5_1:Int):=zz29 (by first | (with_reducible assumption) | assumption)
       have q349:x5_1 < (l0.length:Int):=zz29 (by first | (with_reducible assumption) | assumption)
       obtain ⟨ad349,e349,hx349_0⟩:=Kd.at_int (Kd.R_reads' HO_0.out).2.2 x5_1 p349 q349
       obtain rfl:ad348=ad349:=(by injection e349)
       replace p349:=eq_true p349
       replace q349:=eq_true q349
       go_wp2
       go_ret
       exact ⟨_,by first | rfl | (simp [errW_none,errW_some] <;> rfl) | (simp [*,errW_none,errW_some] <;> rfl),by (with_reducible repeat (first | apply zz12 | apply zz13 | apply zz14));exact HO_0.out,by repeat first | exact HB.out | apply zz2 | apply zz0 | apply zz1,by repeat (first | (with_reducible first | exact HK.out | apply Kept.alloc | apply Kept.drewN | apply Kept.drew) | exact HK.out)⟩
      ·rw [if_neg c7] at H
       have c7b0:((rd l0 x5_1) == a1)=false:=beq_eq_false_iff_ne.mpr c7
       have c7b1:((rd l0 x5_1) != a1)=true:=bne_iff_ne.mpr c7
       obtain ⟨y350,hy350⟩:∃ y_:List Int,y_=(([]:List Int)):=⟨_,rfl⟩
       replace H:(if x5_1≤(l0.length:Int) then ((some (l0.take (x5_1:Int).toNat:List Int)).bind fun y353=>(if y350.length+y353.length < 17592186044416 then ((some (y350 ++ y353:List Int)).bind fun y357=>(if y357.length < 17592186044416 then ((some (y357 ++ [a1]:List Int)).bind fun y360=>((some (l0.drop (x5_1:Int).toNat:List Int)).bind fun y363=>(if y360.length+y363.length < 17592186044416 then (some (y360 ++ y363)) else (none)))) else (none))) else (none))) else (none))=some r:=by first | (rw [hy350];with_reducible exact H) | (have H2_:=(Option.bind_some _ _).symm.trans H;rw [hy350];with_reducible exact H2_) | (have H2_:=(Option.bind_some _ _).symm.trans H;with_reducible exact H2_) | with_reducible exact H | (rw [hy350];exact H) | exact H
       have Ny350:=zz31 hy350
       clear hy350
       have c9b0:=eq_true (zz29 (by first | (with_reducible assumption) | assumption):0≤x5_1)
       by_cases c10:x5_1≤(l0.length:Int)
       ·rw [if_pos c10] at H
        have c10b0:=eq_true c10
        have c10b1:decide (x5_1≤(l0.length:Int))=true:=decide_eq_true c10
        clear c10
        obtain ⟨y353,hy353⟩:∃ y_:List Int,y_=(l0.take (x5_1:Int).toNat):=⟨_,rfl⟩
        replace H:(if y350.length+y353.length < 17592186044416 then ((some (y350 ++ y353:List Int)).bind fun y357=>(if y357.length < 17592186044416 then ((some (y357 ++ [a1]:List Int)).bind fun y360=>((some (l0.drop (x5_1:Int).toNat:List Int)).bind fun y363=>(if y360.length+y363.length < 17592186044416 then (some (y360 ++ y363)) else (none)))) else (none))) else (none))=some r:=by first | (rw [hy353];with_reducible exact H) | (have H2_:=(Option.bind_some _ _).symm.trans H;rw [hy353];with_reducible exact H2_) | (have H2_:=(Option.bind_some _ _).symm.trans H;with_reducible exact H2_) | with_reducible exact H | (rw [hy353];exact H) | exact H
        have Ny353:=zz31 hy353
        clear hy353
        by_cases c11:y350.length+y353.length < 17592186044416
        ·rw [if_pos c11] at H
         have LMc11:=zz31 c11
         clear c11
         obtain ⟨y357,hy357⟩:∃ y_:List Int,y_=(y350 ++ y353):=⟨_,rfl⟩
         replace H:(if y357.length < 17592186044416 then ((some (y357 ++ [a1]:List Int)).bind fun y360=>((some (l0.drop (x5_1:Int).toNat:List Int)).bind fun y363=>(if y360.length+y363.length < 17592186044416 then (some (y360 ++ y363)) else (none)))) else (none))=some r:=by first | (rw [hy357];with_reducible exact H) | (have H2_:=(Option.bind_some _ _).symm.trans H;rw [hy357];with_reducible exact H2_) | (have H2_:=(Option.bind_some _ _).symm.trans H;with_reducible exact H2_) | with_reducible exact H | (rw [hy357];exact H) | exact H
         have Ny357:=zz31 hy357
         clear hy357
         by_cases c12:y357.length < 17592186044416
         ·rw [if_pos c12] at H
          have LMc12:=zz31 c12
          clear c12
          obtain ⟨y360,hy360⟩:∃ y_:List Int,y_=(y357 ++ [a1]):=⟨_,rfl⟩
          replace H:((some (l0.drop (x5_1:Int).toNat:List Int)).bind fun y363=>(if y360.length+y363.length < 17592186044416 then (some (y360 ++ y363)) else (none)))=some r:=by first | (rw [hy360];with_reducible exact H) | (have H2_:=(Option.bind_some _ _).symm.trans H;rw [hy360];with_reducible exact H2_) | (have H2_:=(Option.bind_some _ _).symm.trans H;with_reducible exact H2_) | with_reducible exact H | (rw [hy360];exact H) | exact H
          have Ny360:=zz31 hy360
          clear hy360
          have c13b0:=eq_true (zz29 (by first | (with_reducible assumption) | assumption):0≤x5_1)
          have c14b0:=eq_true (zz29 (by first | (with_reducible assumption) | assumption):x5_1≤(l0.length:Int))
          obtain ⟨y363,hy363⟩:∃ y_:List Int,y_=(l0.drop (x5_1:Int).toNat):=⟨_,rfl⟩
          replace H:(if y360.length+y363.length < 17592186044416 then (some (y360 ++ y363)) else (none))=some r:=by first | (rw [hy363];with_reducible exact H) | (have H2_:=(Option.bind_some _ _).symm.trans H;rw [hy363];with_reducible exact H2_) | (have H2_:=(Option.bind_some _ _).symm.trans H;with_reducible exact H2_) | with_reducible exact H | (rw [hy363];exact H) | exact H
          have Ny363:=zz31 hy363
          clear hy363
          by_cases c15:y360.length+y363.length < 17592186044416
          ·rw [if_pos c15] at H
           have LMc15:=zz31 c15
           clear c15
           obtain ⟨y367,hy367⟩:∃ y_:List Int,y_=(y360 ++ y363):=⟨_,rfl⟩
           replace H:(some y367)=some r:=by first | (rw [hy367];with_reducible exact H) | (have H2_:=(Option.bind_some _ _).symm.trans H;rw [hy367];with_reducible exact H2_) | (have H2_:=(Option.bind_some _ _).symm.trans H;with_reducible exact H2_) | with_reducible exact H | (rw [hy367];exact H) | exact H
           have Ny367:=zz31 hy367
           clear hy367
           obtain rfl:=Option.some.inj H
           obtain ⟨Ao16,co16,eo16⟩:=Kd.R_slice HO_0.out
           subst eo16
           have p348:0≤(x5_1:Int):=zz29 (by first | (with_reducible assumption) | assumption)
           have q348:x5_1 < (l0.length:Int):=zz29 (by first | (with_reducible assumption) | assumption)
           obtain ⟨ad348,e348,hx348_0⟩:=Kd.at_int (Kd.R_reads' HO_0.out).2.2 x5_1 p348 q348
           cases e348
           replace p348:=eq_true p348
           replace q348:=eq_true q348
           have p349:0≤(x5_1:Int):=zz29 (by first | (with_reducible assumption) | assumption)
           have q349:x5_1 < (l0.length:Int):=zz29 (by first | (with_reducible assumption) | assumption)
           obtain ⟨ad349,e349,hx349_0⟩:=Kd.at_int (Kd.R_reads' HO_0.out).2.2 x5_1 p349 q349
           obtain rfl:ad348=ad349:=(by injection e349)
           replace p349:=eq_true p349
           replace q349:=eq_true q349
           go_wp2_with (first | ((with_reducible refine gate_dst (N:=34) rfl ?_);refine Kd.R_lit (Kd.int .i64) _ 3 ?hg (N:=34) ?hd (xs:=([]:List Int)) (inner:=[]) (ok:=fun _=>True) (okp:=fun _=>True) ?hr ?hp (fun _ hk=>hk) trivial (Below.refl _ _) (Nat.le_refl _) (by simp) ?_;(case hd=>rfl);(case hg=>rfl);(case hr=>first | (go_simp;done) | (go_simp;rfl));(case hp=>exact (Reps.none _ _));intro v351 w17 ho18 hb hg_ hnew_;clear hg_ hnew_;(first | rw [← Ny350.out] at ho18 | (simp only [Int.reduceToNat] at ho18;rw [← Ny350.out] at ho18));have n0_:=zz31 (Kd.R_elder' (by (with_reducible repeat (first | apply zz12 | apply zz13 | apply zz14));exact HO_0.out) (Kd.R_base ho18) hb);have n1_:=zz31 (Kd.R_lower (Kd.R_new' (Kd.R_newM (M:=fun k_=>(P0_ k_ ∨ w.heap.size≤k_)) ho18 (by first | exact HK.out.1 | exact (show Kept w _ (fun k_=>P0_ k_) from by repeat (first | (with_reducible first | exact HK.out | apply Kept.alloc | apply Kept.drewN | apply Kept.drew) | exact HK.out)).1) (fun k_ h_=>.inr h_)) (Kd.R_lt (by (with_reducible repeat (first | apply zz12 | apply zz13 | apply zz14));exact HO_0.out))) (zz5 (by repeat first | exact HB.out | apply zz2 | apply zz0 | apply zz1)));have n2_:=zz31 (Kept.below (S:=(fun k_=>P0_ k_)) (by repeat (first | (with_reducible first | exact HK.out | apply Kept.alloc | apply Kept.drewN | apply Kept.drew) | exact HK.out)) hb);have n3_:=zz31 (zz4 (by repeat first | exact HB.out | apply zz2 | apply zz0 | apply zz1) hb);clear HO_0;clear HK;clear HB;have HO_0:=n0_;have HO352:=n1_;have HK:=n2_;have HB:=n3_;clear n0_ n1_ n2_ n3_;clear hb ho18;have q19:(x5_1:Int)≤((l0.length:Int):Int):=zz29 (by first | (with_reducible assumption) | assumption);obtain ⟨i019,hi019,_,hsz19,_⟩:=info_parts info3;have hroom19:l0.length≤co16:=(Kd.R_reads' HO_0.out).2.1;have hC19:Kd.C (Kd.int .i64) _ (some ad348) l0.length l0:=(Kd.R_reads' HO_0.out).2.2;have hcut19:=cut_to (P:=Tryd.prog) 34 3 .i64 Tryd.underlying34 hi019 (some ad348) l0.length co16 x5_1 (zz29 (by first | (with_reducible assumption) | assumption)) q19 hroom19;have hr19:=Kd.C_take (m:=(x5_1:Int).toNat) hC19 (by omega);have hy19:y353.length=(x5_1:Int).toNat:=(by rw [Ny353.out,zz25];omega);rw [← Ny353.out] at hr19;rw [← hy19] at hcut19;have HR356:=zz31 hr19;have HC356:=zz31 (show y353.length≤co16 from by omega);clear hr19 hC19 hroom19 hi019 hsz19;have KY19:=zz31 hy19;clear hy19;have KL19:=zz31 (show (x5_1:Int).toNat≤l0.length from by omega);replace q19:=eq_true q19) | ((with_reducible refine gate_builtin (b:=.append) (xs:=#[.tmp 34,.tmp 37]) rfl ?_);at_builtin;refine Kd.R_append_rows (Kd.int .i64) (w0:=w0) w0.heap.size rfl (.tmp 34) (.tmp 37) 34 3 (.int .i64 0) 8 rfl Tryd.underlying34 info3 rfl (by decide) (by omega) v351 y350 y353 _ _ _ (fun k_=>(P0_ k_ ∨ w.heap.size≤k_)∧some k_ ≠ (.slice (some ad348) l0.length co16:Value).ownBlock) (fun _=>False) rfl rfl ?aO ?aR (fun _ _ h=>h) (fun _ h=>h.elim) ?aF ?aB ?aS ?aL ?_;(case aR=>repeat (first | exact (by repeat (first | (with_reducible exact HR356.out) | (with_reducible refine zz18 ?_ _) | (with_reducible refine zz19 ?_ _) | (with_reducible refine zz20 ?_) | exact HR356.out)) | (with_reducible refine zz18 ?_ _) | (with_reducible refine zz19 ?_ _) | (with_reducible refine zz20 ?_)));(case aB=>exact (by repeat first | exact HB.out | apply zz2 | apply zz0 | apply zz1));(case aF=>exact (fun k_ hk=>⟨(.inr (Nat.le_trans (by first | exact HK.out.1 | exact (show Kept w _ (fun k_=>P0_ k_) from by repeat (first | (with_reducible first | exact HK.out | apply Kept.alloc | apply Kept.drewN | apply Kept.drew) | exact HK.out)).1) hk)),Kd.fresh' (Kd.R_lt (by (with_reducible repeat (first | apply zz12 | apply zz13 | apply zz14));exact HO_0.out)) k_ hk⟩));(case aO=>exact (by (with_reducible repeat (first | apply zz12 | apply zz13 | apply zz14));exact Kd.R_mono HO352.out (fun _ hk=>⟨hk.1.1,hk.2⟩)));(case aS=>exact (zz5 (by repeat first | exact HB.out | apply zz2 | apply zz0 | apply zz1)));(case aL=>have:=LMc11.out;omega);intro v358 w20 ho hb hg hat;rw [← Ny357.out] at ho;have n0_:=zz31 (Kd.R_after (ok:=(fun k_=>(P0_ k_ ∨ w.heap.size≤k_))) (by (with_reducible repeat (first | apply zz12 | apply zz13 | apply zz14));exact HO_0.out) hg hat);have n1_:=zz31 (hb);have n2_:=zz31 (Kept.of_grown (S:=(fun k_=>P0_ k_)) hg (by repeat (first | (with_reducible first | exact HK.out | apply Kept.alloc | apply Kept.drewN | apply Kept.drew) | exact HK.out)) (fun k_ e_=>(HO352.out.1 k_ e_).1.1));have n3_:=zz31 ((show Kd.C (Kd.int .i64) w20 (some ad348) y353.length y353 from by rw [Ny353.out];exact Kd.C_take (m:=(x5_1:Int).toNat) ((Kd.R_reads' (Kd.R_after (ok:=(fun k_=>(P0_ k_ ∨ w.heap.size≤k_))) (by (with_reducible repeat (first | apply zz12 | apply zz13 | apply zz14));exact HO_0.out) hg hat)).2.2) KL19.out));have n4_:=zz31 (ho);clear HO_0;clear HB;clear HK;clear HR356;clear HO352;have HO_0:=n0_;have HB:=n1_;have HK:=n2_;have HR356:=n3_;have HO359:=n4_;clear n0_ n1_ n2_ n3_ n4_;clear ho hb hg hat) | ((with_reducible refine gate_builtin (b:=.append) (xs:=#[.tmp 39,.tmp 41]) rfl ?_);at_builtin;refine Kd.R_append (Kd.int .i64) (w0:=w0) w0.heap.size rfl (.tmp 39) (.tmp 41) 34 3 (.int .i64 0) 8 rfl Tryd.underlying34 info3 rfl (by decide) (by omega) v358 y357 a1 [.int .i64 a1] (fun k_=>(P0_ k_ ∨ w.heap.size≤k_)∧some k_ ≠ (.slice (some ad348) l0.length co16:Value).ownBlock) (fun _=>False) rfl rfl ?aP (fun _ hk=>hk.elim) ?aF ?aO ?aB ?aS ?aL ?_;(case aP=>exact rfl);(case aB=>exact (by repeat first | exact HB.out | apply zz2 | apply zz0 | apply zz1));(case aF=>exact (fun k_ hk=>⟨(.inr (Nat.le_trans (by first | exact HK.out.1 | exact (show Kept w _ (fun k_=>P0_ k_) from by repeat (first | (with_reducible first | exact HK.out | apply Kept.alloc | apply Kept.drewN | apply Kept.drew) | exact HK.out)).1) hk)),Kd.fresh' (Kd.R_lt (by (with_reducible repeat (first | apply zz12 | apply zz13 | apply zz14));exact HO_0.out)) k_ hk⟩));(case aO=>exact (by (with_reducible repeat (first | apply zz12 | apply zz13 | apply zz14));exact HO359.out));(case aS=>exact (zz5 (by repeat first | exact HB.out | apply zz2 | apply zz0 | apply zz1)));(case aL=>have:=LMc12.out;omega);intro v361 w21 ho hb hg hat;rw [← Ny360.out] at ho;have n0_:=zz31 (Kd.R_after (ok:=(fun k_=>(P0_ k_ ∨ w.heap.size≤k_))) (by (with_reducible repeat (first | apply zz12 | apply zz13 | apply zz14));exact HO_0.out) hg hat);have n1_:=zz31 (hb);have n2_:=zz31 (Kept.of_grown (S:=(fun k_=>P0_ k_)) hg (by repeat (first | (with_reducible first | exact HK.out | apply Kept.alloc | apply Kept.drewN | apply Kept.drew) | exact HK.out)) (fun k_ e_=>(HO359.out.1 k_ e_).1));have n3_:=zz31 ((show Kd.C (Kd.int .i64) w21 (some ad348) y353.length y353 from by rw [Ny353.out];exact Kd.C_take (m:=(x5_1:Int).toNat) ((Kd.R_reads' (Kd.R_after (ok:=(fun k_=>(P0_ k_ ∨ w.heap.size≤k_))) (by (with_reducible repeat (first | apply zz12 | apply zz13 | apply zz14));exact HO_0.out) hg hat)).2.2) KL19.out));have n4_:=zz31 (ho);clear HO_0;clear HB;clear HK;clear HR356;clear HO359;have HO_0:=n0_;have HB:=n1_;have HK:=n2_;have HR356:=n3_;have HO362:=n4_;clear n0_ n1_ n2_ n3_ n4_;clear ho hb hg hat;have q22:(x5_1:Int)≤((l0.length:Int):Int):=zz29 (by first | (with_reducible assumption) | assumption);obtain ⟨i022,hi022,_,hsz22,_⟩:=info_parts info3;have hroom22:l0.length≤co16:=(Kd.R_reads' HO_0.out).2.1;have hC22:Kd.C (Kd.int .i64) _ (some ad348) l0.length l0:=(Kd.R_reads' HO_0.out).2.2;have q022:(0:Int)≤(x5_1:Int):=zz29 (by first | (with_reducible assumption) | assumption);have hcut22:=cut_from (P:=Tryd.prog) 34 3 .i64 Tryd.underlying34 hi022 1 hsz22 (some ad348) l0.length co16 x5_1 q022 q22;have hr22:=Kd.C_drop (m:=(x5_1:Int).toNat) (c:=co16) hC22 (by omega) hroom22;obtain ⟨A22,hA22⟩:∃ A1,A1=(if co16=(x5_1:Int).toNat then (some ad348) else ((some ad348):Option Addr).map (·.add ((x5_1:Int).toNat * 1))):=⟨_,rfl⟩;obtain ⟨c22,hc22⟩:∃ c1,c1=co16 - (x5_1:Int).toNat:=⟨_,rfl⟩;have hy22:y363.length=l0.length - (x5_1:Int).toNat:=(by rw [Ny363.out,zz24] <;> omega);rw [show (l0).drop (x5_1:Int).toNat=y363 from Ny363.out.symm] at hr22;replace hr22:Kd.C (Kd.int .i64) _ A22 y363.length y363:=(by rw [hA22];exact hr22);rw [← hy22,← hA22,← hc22] at hcut22;have HR366:=zz31 hr22;have HC366:=zz31 (show y363.length≤c22 from by rw [hy22,hc22];exact Nat.sub_le_sub_right hroom22 _);clear hr22 hC22 hroom22 hi022 hsz22 hc22;have KY22:=zz31 hy22;have KA22:=zz31 hA22;clear hy22 hA22;have KL22:=zz31 (show (x5_1:Int).toNat≤l0.length from by omega);replace q22:=eq_true q22) | ((with_reducible refine gate_builtin (b:=.append) (xs:=#[.tmp 43,.tmp 46]) rfl ?_);at_builtin;refine Kd.R_append_rows (Kd.int .i64) (w0:=w0) w0.heap.size rfl (.tmp 43) (.tmp 46) 34 3 (.int .i64 0) 8 rfl Tryd.underlying34 info3 rfl (by decide) (by omega) v361 y360 y363 _ _ _ (fun k_=>(P0_ k_ ∨ w.heap.size≤k_)∧some k_ ≠ (.slice (some ad348) l0.length co16:Value).ownBlock) (fun _=>False) rfl rfl ?aO ?aR (fun _ _ h=>h) (fun _ h=>h.elim) ?aF ?aB ?aS ?aL ?_;(case aR=>repeat (first | exact (by repeat (first | (with_reducible exact HR366.out) | (with_reducible refine zz18 ?_ _) | (with_reducible refine zz19 ?_ _) | (with_reducible refine zz20 ?_) | exact HR366.out)) | (with_reducible refine zz18 ?_ _) | (with_reducible refine zz19 ?_ _) | (with_reducible refine zz20 ?_)));(case aB=>exact (by repeat first | exact HB.out | apply zz2 | apply zz0 | apply zz1));(case aF=>exact (fun k_ hk=>⟨(.inr (Nat.le_trans (by first | exact HK.out.1 | exact (show Kept w _ (fun k_=>P0_ k_) from by repeat (first | (with_reducible first | exact HK.out | apply Kept.alloc | apply Kept.drewN | apply Kept.drew) | exact HK.out)).1) hk)),Kd.fresh' (Kd.R_lt (by (with_reducible repeat (first | apply zz12 | apply zz13 | apply zz14));exact HO_0.out)) k_ hk⟩));(case aO=>exact (by (with_reducible repeat (first | apply zz12 | apply zz13 | apply zz14));exact HO362.out));(case aS=>exact (zz5 (by repeat first | exact HB.out | apply zz2 | apply zz0 | apply zz1)));(case aL=>have:=LMc15.out;omega);intro v368 w23 ho hb hg hat;rw [← Ny367.out] at ho;have n0_:=zz31 (Kd.R_after (ok:=(fun k_=>(P0_ k_ ∨ w.heap.size≤k_))) (by (with_reducible repeat (first | apply zz12 | apply zz13 | apply zz14));exact HO_0.out) hg hat);have n1_:=zz31 (hb);have n2_:=zz31 (Kept.of_grown (S:=(fun k_=>P0_ k_)) hg (by repeat (first | (with_reducible first | exact HK.out | apply Kept.alloc | apply Kept.drewN | apply Kept.drew) | exact HK.out)) (fun k_ e_=>(HO362.out.1 k_ e_).1));have n3_:=zz31 ((show Kd.C (Kd.int .i64) w23 (some ad348) y353.length y353 from by rw [Ny353.out];exact Kd.C_take (m:=(x5_1:Int).toNat) ((Kd.R_reads' (Kd.R_after (ok:=(fun k_=>(P0_ k_ ∨ w.heap.size≤k_))) (by (with_reducible repeat (first | apply zz12 | apply zz13 | apply zz14));exact HO_0.out) hg hat)).2.2) KL19.out));have n4_:=zz31 ((show Kd.C (Kd.int .i64) w23 A22 y363.length y363 from by rw [Ny363.out,KA22.out];exact Kd.C_drop (m:=(x5_1:Int).toNat) (c:=co16) ((Kd.R_reads' (Kd.R_after (ok:=(fun k_=>(P0_ k_ ∨ w.heap.size≤k_))) (by (with_reducible repeat (first | apply zz12 | apply zz13 | apply zz14));exact HO_0.out) hg hat)).2.2) KL22.out ((Kd.R_reads' (Kd.R_after (ok:=(fun k_=>(P0_ k_ ∨ w.heap.size≤k_))) (by (with_reducible repeat (first | apply zz12 | apply zz13 | apply zz14));exact HO_0.out) hg hat)).2.1)));have n5_:=zz31 (ho);clear HO_0;clear HB;clear HK;clear HR356;clear HR366;clear HO362;have HO_0:=n0_;have HB:=n1_;have HK:=n2_;have HR356:=n3_;have HR366:=n4_;have HO369:=n5_;clear n0_ n1_ n2_ n3_ n4_ n5_;clear ho hb hg hat))
           go_ret
           exact ⟨_,by first | rfl | (simp [errW_none,errW_some] <;> rfl) | (simp [*,errW_none,errW_some] <;> rfl),by (with_reducible repeat (first | apply zz12 | apply zz13 | apply zz14));exact Kd.R_mono HO369.out (fun _ hk=>hk.1),by repeat first | exact HB.out | apply zz2 | apply zz0 | apply zz1,by repeat (first | (with_reducible first | exact HK.out | apply Kept.alloc | apply Kept.drewN | apply Kept.drew) | exact HK.out)⟩
          ·rw [if_neg c15] at H
           exact absurd H (by simp)
         ·rw [if_neg c12] at H
          exact absurd H (by simp)
        ·rw [if_neg c11] at H
         exact absurd H (by simp)
       ·rw [if_neg c10] at H
        exact absurd H (by simp)
    ·rw [if_neg c4] at H
     exact absurd H (by simp)
   ·rw [if_neg c3] at H
    have c3b0:decide (x5_1 < (l0.length:Int))=false:=decide_eq_false c3
    clear c3
    obtain ⟨y370,hy370⟩:∃ y_:List Int,y_=(([]:List Int)):=⟨_,rfl⟩
    replace H:(if 0≤x5_1 then (if x5_1≤(l0.length:Int) then ((some (l0.take (x5_1:Int).toNat:List Int)).bind fun y373=>(if y370.length+y373.length < 17592186044416 then ((some (y370 ++ y373:List Int)).bind fun y377=>(if y377.length < 17592186044416 then ((some (y377 ++ [a1]:List Int)).bind fun y380=>((some (l0.drop (x5_1:Int).toNat:List Int)).bind fun y383=>(if y380.length+y383.length < 17592186044416 then (some (y380 ++ y383)) else (none)))) else (none))) else (none))) else (none)) else (none))=some r:=by first | (rw [hy370];with_reducible exact H) | (have H2_:=(Option.bind_some _ _).symm.trans H;rw [hy370];with_reducible exact H2_) | (have H2_:=(Option.bind_some _ _).symm.trans H;with_reducible exact H2_) | with_reducible exact H | (rw [hy370];exact H) | exact H
    have Ny370:=zz31 hy370
    clear hy370
    by_cases c24:0≤x5_1
    ·rw [if_pos c24] at H
     have c24b0:=eq_true c24
     have c24b1:decide (0≤x5_1)=true:=decide_eq_true c24
     clear c24
     by_cases c25:x5_1≤(l0.length:Int)
     ·rw [if_pos c25] at H
      have c25b0:=eq_true c25
      have c25b1:decide (x5_1≤(l0.length:Int))=true:=decide_eq_true c25
      clear c25
      obtain ⟨y373,hy373⟩:∃ y_:List Int,y_=(l0.take (x5_1:Int).toNat):=⟨_,rfl⟩
      replace H:(if y370.length+y373.length < 17592186044416 then ((some (y370 ++ y373:List Int)).bind fun y377=>(if y377.length < 17592186044416 then ((some (y377 ++ [a1]:List Int)).bind fun y380=>((some (l0.drop (x5_1:Int).toNat:List Int)).bind fun y383=>(if y380.length+y383.length < 17592186044416 then (some (y380 ++ y383)) else (none)))) else (none))) else (none))=some r:=by first | (rw [hy373];with_reducible exact H) | (have H2_:=(Option.bind_some _ _).symm.trans H;rw [hy373];with_reducible exact H2_) | (have H2_:=(Option.bind_some _ _).symm.trans H;with_reducible exact H2_) | with_reducible exact H | (rw [hy373];exact H) | exact H
      have Ny373:=zz31 hy373
      clear hy373
      by_cases c26:y370.length+y373.length < 17592186044416
      ·rw [if_pos c26] at H
       have LMc26:=zz31 c26
       clear c26
       obtain ⟨y377,hy377⟩:∃ y_:List Int,y_=(y370 ++ y373):=⟨_,rfl⟩
       replace H:(if y377.length < 17592186044416 then ((some (y377 ++ [a1]:List Int)).bind fun y380=>((some (l0.drop (x5_1:Int).toNat:List Int)).bind fun y383=>(if y380.length+y383.length < 17592186044416 then (some (y380 ++ y383)) else (none)))) else (none))=some r:=by first | (rw [hy377];with_reducible exact H) | (have H2_:=(Option.bind_some _ _).symm.trans H;rw [hy377];with_reducible exact H2_) | (have H2_:=(Option.bind_some _ _).symm.trans H;with_reducible exact H2_) | with_reducible exact H | (rw [hy377];exact H) | exact H
       have Ny377:=zz31 hy377
       clear hy377
       by_cases c27:y377.length < 17592186044416
       ·rw [if_pos c27] at H
        have LMc27:=zz31 c27
        clear c27
        obtain ⟨y380,hy380⟩:∃ y_:List Int,y_=(y377 ++ [a1]):=⟨_,rfl⟩
        replace H:((some (l0.drop (x5_1:Int).toNat:List Int)).bind fun y383=>(if y380.length+y383.length < 17592186044416 then (some (y380 ++ y383)) else (none)))=some r:=by first | (rw [hy380];with_reducible exact H) | (have H2_:=(Option.bind_some _ _).symm.trans H;rw [hy380];with_reducible exact H2_) | (have H2_:=(Option.bind_some _ _).symm.trans H;with_reducible exact H2_) | with_reducible exact H | (rw [hy380];exact H) | exact H
        have Ny380:=zz31 hy380
        clear hy380
        have c28b0:=eq_true (zz29 (by first | (with_reducible assumption) | assumption):0≤x5_1)
        have c29b0:=eq_true (zz29 (by first | (with_reducible assumption) | assumption):x5_1≤(l0.length:Int))
        obtain ⟨y383,hy383⟩:∃ y_:List Int,y_=(l0.drop (x5_1:Int).toNat):=⟨_,rfl⟩
        replace H:(if y380.length+y383.length < 17592186044416 then (some (y380 ++ y383)) else (none))=some r:=by first | (rw [hy383];with_reducible exact H) | (have H2_:=(Option.bind_some _ _).symm.trans H;rw [hy383];with_reducible exact H2_) | (have H2_:=(Option.bind_some _ _).symm.trans H;with_reducible exact H2_) | with_reducible exact H | (rw [hy383];exact H) | exact H
        have Ny383:=zz31 hy383
        clear hy383
        by_cases c30:y380.length+y383.length < 17592186044416
        ·rw [if_pos c30] at H
         have LMc30:=zz31 c30
         clear c30
         obtain ⟨y387,hy387⟩:∃ y_:List Int,y_=(y380 ++ y383):=⟨_,rfl⟩
         replace H:(some y387)=some r:=by first | (rw [hy387];with_reducible exact H) | (have H2_:=(Option.bind_some _ _).symm.trans H;rw [hy387];with_reducible exact H2_) | (have H2_:=(Option.bind_some _ _).symm.trans H;with_reducible exact H2_) | with_reducible exact H | (rw [hy387];exact H) | exact H
         have Ny387:=zz31 hy387
         clear hy387
         obtain rfl:=Option.some.inj H
         obtain ⟨Ao31,co31,eo31⟩:=Kd.R_slice HO_0.out
         subst eo31
         go_wp2_with (first | ((with_reducible refine gate_dst (N:=34) rfl ?_);refine Kd.R_lit (Kd.int .i64) _ 3 ?hg (N:=34) ?hd (xs:=([]:List Int)) (inner:=[]) (ok:=fun _=>True) (okp:=fun _=>True) ?hr ?hp (fun _ hk=>hk) trivial (Below.refl _ _) (Nat.le_refl _) (by simp) ?_;(case hd=>rfl);(case hg=>rfl);(case hr=>first | (go_simp;done) | (go_simp;rfl));(case hp=>exact (Reps.none _ _));intro v371 w32 ho33 hb hg_ hnew_;clear hg_ hnew_;(first | rw [← Ny370.out] at ho33 | (simp only [Int.reduceToNat] at ho33;rw [← Ny370.out] at ho33));have n0_:=zz31 (Kd.R_elder' (by (with_reducible repeat (first | apply zz12 | apply zz13 | apply zz14));exact HO_0.out) (Kd.R_base ho33) hb);have n1_:=zz31 (Kd.R_lower (Kd.R_new' (Kd.R_newM (M:=fun k_=>(P0_ k_ ∨ w.heap.size≤k_)) ho33 (by first | exact HK.out.1 | exact (show Kept w _ (fun k_=>P0_ k_) from by repeat (first | (with_reducible first | exact HK.out | apply Kept.alloc | apply Kept.drewN | apply Kept.drew) | exact HK.out)).1) (fun k_ h_=>.inr h_)) (Kd.R_lt (by (with_reducible repeat (first | apply zz12 | apply zz13 | apply zz14));exact HO_0.out))) (zz5 (by repeat first | exact HB.out | apply zz2 | apply zz0 | apply zz1)));have n2_:=zz31 (Kept.below (S:=(fun k_=>P0_ k_)) (by repeat (first | (with_reducible first | exact HK.out | apply Kept.alloc | apply Kept.drewN | apply Kept.drew) | exact HK.out)) hb);have n3_:=zz31 (zz4 (by repeat first | exact HB.out | apply zz2 | apply zz0 | apply zz1) hb);clear HO_0;clear HK;clear HB;have HO_0:=n0_;have HO372:=n1_;have HK:=n2_;have HB:=n3_;clear n0_ n1_ n2_ n3_;clear hb ho33;have q34:(x5_1:Int)≤((l0.length:Int):Int):=zz29 (by first | (with_reducible assumption) | assumption);obtain ⟨i034,hi034,_,hsz34,_⟩:=info_parts info3;have hroom34:l0.length≤co31:=(Kd.R_reads' HO_0.out).2.1;have hC34:Kd.C (Kd.int .i64) _ Ao31 l0.length l0:=(Kd.R_reads' HO_0.out).2.2;have hcut34:=cut_to (P:=Tryd.prog) 34 3 .i64 Tryd.underlying34 hi034 Ao31 l0.length co31 x5_1 (zz29 (by first | (with_reducible assumption) | assumption)) q34 hroom34;have hr34:=Kd.C_take (m:=(x5_1:Int).toNat) hC34 (by omega);have hy34:y373.length=(x5_1:Int).toNat:=(by rw [Ny373.out,zz25];omega);rw [← Ny373.out] at hr34;rw [← hy34] at hcut34;have HR376:=zz31 hr34;have HC376:=zz31 (show y373.length≤co31 from by omega);clear hr34 hC34 hroom34 hi034 hsz34;have KY34:=zz31 hy34;clear hy34;have KL34:=zz31 (show (x5_1:Int).toNat≤l0.length from by omega);replace q34:=eq_true q34) | ((with_reducible refine gate_builtin (b:=.append) (xs:=#[.tmp 34,.tmp 37]) rfl ?_);at_builtin;refine Kd.R_append_rows (Kd.int .i64) (w0:=w0) w0.heap.size rfl (.tmp 34) (.tmp 37) 34 3 (.int .i64 0) 8 rfl Tryd.underlying34 info3 rfl (by decide) (by omega) v371 y370 y373 _ _ _ (fun k_=>(P0_ k_ ∨ w.heap.size≤k_)∧some k_ ≠ (.slice Ao31 l0.length co31:Value).ownBlock) (fun _=>False) rfl rfl ?aO ?aR (fun _ _ h=>h) (fun _ h=>h.elim) ?aF ?aB ?aS ?aL ?_;(case aR=>repeat (first | exact (by repeat (first | (with_reducible exact HR376.out) | (with_reducible refine zz18 ?_ _) | (with_reducible refine zz19 ?_ _) | (with_reducible refine zz20 ?_) | exact HR376.out)) | (with_reducible refine zz18 ?_ _) | (with_reducible refine zz19 ?_ _) | (with_reducible refine zz20 ?_)));(case aB=>exact (by repeat first | exact HB.out | apply zz2 | apply zz0 | apply zz1));(case aF=>exact (fun k_ hk=>⟨(.inr (Nat.le_trans (by first | exact HK.out.1 | exact (show Kept w _ (fun k_=>P0_ k_) from by repeat (first | (with_reducible first | exact HK.out | apply Kept.alloc | apply Kept.drewN | apply Kept.drew) | exact HK.out)).1) hk)),Kd.fresh' (Kd.R_lt (by (with_reducible repeat (first | apply zz12 | apply zz13 | apply zz14));exact HO_0.out)) k_ hk⟩));(case aO=>exact (by (with_reducible repeat (first | apply zz12 | apply zz13 | apply zz14));exact Kd.R_mono HO372.out (fun _ hk=>⟨hk.1.1,hk.2⟩)));(case aS=>exact (zz5 (by repeat first | exact HB.out | apply zz2 | apply zz0 | apply zz1)));(case aL=>have:=LMc26.out;omega);intro v378 w35 ho hb hg hat;rw [← Ny377.out] at ho;have n0_:=zz31 (Kd.R_after (ok:=(fun k_=>(P0_ k_ ∨ w.heap.size≤k_))) (by (with_reducible repeat (first | apply zz12 | apply zz13 | apply zz14));exact HO_0.out) hg hat);have n1_:=zz31 (hb);have n2_:=zz31 (Kept.of_grown (S:=(fun k_=>P0_ k_)) hg (by repeat (first | (with_reducible first | exact HK.out | apply Kept.alloc | apply Kept.drewN | apply Kept.drew) | exact HK.out)) (fun k_ e_=>(HO372.out.1 k_ e_).1.1));have n3_:=zz31 ((show Kd.C (Kd.int .i64) w35 Ao31 y373.length y373 from by rw [Ny373.out];exact Kd.C_take (m:=(x5_1:Int).toNat) ((Kd.R_reads' (Kd.R_after (ok:=(fun k_=>(P0_ k_ ∨ w.heap.size≤k_))) (by (with_reducible repeat (first | apply zz12 | apply zz13 | apply zz14));exact HO_0.out) hg hat)).2.2) KL34.out));have n4_:=zz31 (ho);clear HO_0;clear HB;clear HK;clear HR376;clear HO372;have HO_0:=n0_;have HB:=n1_;have HK:=n2_;have HR376:=n3_;have HO379:=n4_;clear n0_ n1_ n2_ n3_ n4_;clear ho hb hg hat) | ((with_reducible refine gate_builtin (b:=.append) (xs:=#[.tmp 39,.tmp 41]) rfl ?_);at_builtin;refine Kd.R_append (Kd.int .i64) (w0:=w0) w0.heap.size rfl (.tmp 39) (.tmp 41) 34 3 (.int .i64 0) 8 rfl Tryd.underlying34 info3 rfl (by decide) (by omega) v378 y377 a1 [.int .i64 a1] (fun k_=>(P0_ k_ ∨ w.heap.size≤k_)∧some k_ ≠ (.slice Ao31 l0.length co31:Value).ownBlock) (fun _=>False) rfl rfl ?aP (fun _ hk=>hk.elim) ?aF ?aO ?aB ?aS ?aL ?_;(case aP=>exact rfl);(case aB=>exact (by repeat first | exact HB.out | apply zz2 | apply zz0 | apply zz1));(case aF=>exact (fun k_ hk=>⟨(.inr (Nat.le_trans (by first | exact HK.out.1 | exact (show Kept w _ (fun k_=>P0_ k_) from by repeat (first | (with_reducible first | exact HK.out | apply Kept.alloc | apply Kept.drewN | apply Kept.drew) | exact HK.out)).1) hk)),Kd.fresh' (Kd.R_lt (by (with_reducible repeat (first | apply zz12 | apply zz13 | apply zz14));exact HO_0.out)) k_ hk⟩));(case aO=>exact (by (with_reducible repeat (first | apply zz12 | apply zz13 | apply zz14));exact HO379.out));(case aS=>exact (zz5 (by repeat first | exact HB.out | apply zz2 | apply zz0 | apply zz1)));(case aL=>have:=LMc27.out;omega);intro v381 w36 ho hb hg hat;rw [← Ny380.out] at ho;have n0_:=zz31 (Kd.R_after (ok:=(fun k_=>(P0_ k_ ∨ w.heap.size≤k_))) (by (with_reducible repeat (first | apply zz12 | apply zz13 | apply zz14));exact HO_0.out) hg hat);have n1_:=zz31 (hb);have n2_:=zz31 (Kept.of_grown (S:=(fun k_=>P0_ k_)) hg (by repeat (first | (with_reducible first | exact HK.out | apply Kept.alloc | apply Kept.drewN | apply Kept.drew) | exact HK.out)) (fun k_ e_=>(HO379.out.1 k_ e_).1));have n3_:=zz31 ((show Kd.C (Kd.int .i64) w36 Ao31 y373.length y373 from by rw [Ny373.out];exact Kd.C_take (m:=(x5_1:Int).toNat) ((Kd.R_reads' (Kd.R_after (ok:=(fun k_=>(P0_ k_ ∨ w.heap.size≤k_))) (by (with_reducible repeat (first | apply zz12 | apply zz13 | apply zz14));exact HO_0.out) hg hat)).2.2) KL34.out));have n4_:=zz31 (ho);clear HO_0;clear HB;clear HK;clear HR376;clear HO379;have HO_0:=n0_;have HB:=n1_;have HK:=n2_;have HR376:=n3_;have HO382:=n4_;clear n0_ n1_ n2_ n3_ n4_;clear ho hb hg hat;have q37:(x5_1:Int)≤((l0.length:Int):Int):=zz29 (by first | (with_reducible assumption) | assumption);obtain ⟨i037,hi037,_,hsz37,_⟩:=info_parts info3;have hroom37:l0.length≤co31:=(Kd.R_reads' HO_0.out).2.1;have hC37:Kd.C (Kd.int .i64) _ Ao31 l0.length l0:=(Kd.R_reads' HO_0.out).2.2;have q037:(0:Int)≤(x5_1:Int):=zz29 (by first | (with_reducible assumption) | assumption);have hcut37:=cut_from (P:=Tryd.prog) 34 3 .i64 Tryd.underlying34 hi037 1 hsz37 Ao31 l0.length co31 x5_1 q037 q37;have hr37:=Kd.C_drop (m:=(x5_1:Int).toNat) (c:=co31) hC37 (by omega) hroom37;obtain ⟨A37,hA37⟩:∃ A1,A1=(if co31=(x5_1:Int).toNat then Ao31 else (Ao31:Option Addr).map (·.add ((x5_1:Int).toNat * 1))):=⟨_,rfl⟩;obtain ⟨c37,hc37⟩:∃ c1,c1=co31 - (x5_1:Int).toNat:=⟨_,rfl⟩;have hy37:y383.length=l0.length - (x5_1:Int).toNat:=(by rw [Ny383.out,zz24] <;> omega);rw [show (l0).drop (x5_1:Int).toNat=y383 from Ny383.out.symm] at hr37;replace hr37:Kd.C (Kd.int .i64) _ A37 y383.length y383:=(by rw [hA37];exact hr37);rw [← hy37,← hA37,← hc37] at hcut37;have HR386:=zz31 hr37;have HC386:=zz31 (show y383.length≤c37 from by rw [hy37,hc37];exact Nat.sub_le_sub_right hroom37 _);clear hr37 hC37 hroom37 hi037 hsz37 hc37;have KY37:=zz31 hy37;have KA37:=zz31 hA37;clear hy37 hA37;have KL37:=zz31 (show (x5_1:Int).toNat≤l0.length from by omega);replace q37:=eq_true q37) | ((with_reducible refine gate_builtin (b:=.append) (xs:=#[.tmp 43,.tmp 46]) rfl ?_);at_builtin;refine Kd.R_append_rows (Kd.int .i64) (w0:=w0) w0.heap.size rfl (.tmp 43) (.tmp 46) 34 3 (.int .i64 0) 8 rfl Tryd.underlying34 info3 rfl (by decide) (by omega) v381 y380 y383 _ _ _ (fun k_=>(P0_ k_ ∨ w.heap.size≤k_)∧some k_ ≠ (.slice Ao31 l0.length co31:Value).ownBlock) (fun _=>False) rfl rfl ?aO ?aR (fun _ _ h=>h) (fun _ h=>h.elim) ?aF ?aB ?aS ?aL ?_;(case aR=>repeat (first | exact (by repeat (first | (with_reducible exact HR386.out) | (with_reducible refine zz18 ?_ _) | (with_reducible refine zz19 ?_ _) | (with_reducible refine zz20 ?_) | exact HR386.out)) | (with_reducible refine zz18 ?_ _) | (with_reducible refine zz19 ?_ _) | (with_reducible refine zz20 ?_)));(case aB=>exact (by repeat first | exact HB.out | apply zz2 | apply zz0 | apply zz1));(case aF=>exact (fun k_ hk=>⟨(.inr (Nat.le_trans (by first | exact HK.out.1 | exact (show Kept w _ (fun k_=>P0_ k_) from by repeat (first | (with_reducible first | exact HK.out | apply Kept.alloc | apply Kept.drewN | apply Kept.drew) | exact HK.out)).1) hk)),Kd.fresh' (Kd.R_lt (by (with_reducible repeat (first | apply zz12 | apply zz13 | apply zz14));exact HO_0.out)) k_ hk⟩));(case aO=>exact (by (with_reducible repeat (first | apply zz12 | apply zz13 | apply zz14));exact HO382.out));(case aS=>exact (zz5 (by repeat first | exact HB.out | apply zz2 | apply zz0 | apply zz1)));(case aL=>have:=LMc30.out;omega);intro v388 w38 ho hb hg hat;rw [← Ny387.out] at ho;have n0_:=zz31 (Kd.R_after (ok:=(fun k_=>(P0_ k_ ∨ w.heap.size≤k_))) (by (with_reducible repeat (first | apply zz12 | apply zz13 | apply zz14));exact HO_0.out) hg hat);have n1_:=zz31 (hb);have n2_:=zz31 (Kept.of_grown (S:=(fun k_=>P0_ k_)) hg (by repeat (first | (with_reducible first | exact HK.out | apply Kept.alloc | apply Kept.drewN | apply Kept.drew) | exact HK.out)) (fun k_ e_=>(HO382.out.1 k_ e_).1));have n3_:=zz31 ((show Kd.C (Kd.int .i64) w38 Ao31 y373.length y373 from by rw [Ny373.out];exact Kd.C_take (m:=(x5_1:Int).toNat) ((Kd.R_reads' (Kd.R_after (ok:=(fun k_=>(P0_ k_ ∨ w.heap.size≤k_))) (by (with_reducible repeat (first | apply zz12 | apply zz13 | apply zz14));exact HO_0.out) hg hat)).2.2) KL34.out));have n4_:=zz31 ((show Kd.C (Kd.int .i64) w38 A37 y383.length y383 from by rw [Ny383.out,KA37.out];exact Kd.C_drop (m:=(x5_1:Int).toNat) (c:=co31) ((Kd.R_reads' (Kd.R_after (ok:=(fun k_=>(P0_ k_ ∨ w.heap.size≤k_))) (by (with_reducible repeat (first | apply zz12 | apply zz13 | apply zz14));exact HO_0.out) hg hat)).2.2) KL37.out ((Kd.R_reads' (Kd.R_after (ok:=(fun k_=>(P0_ k_ ∨ w.heap.size≤k_))) (by (with_reducible repeat (first | apply zz12 | apply zz13 | apply zz14));exact HO_0.out) hg hat)).2.1)));have n5_:=zz31 (ho);clear HO_0;clear HB;clear HK;clear HR376;clear HR386;clear HO382;have HO_0:=n0_;have HB:=n1_;have HK:=n2_;have HR376:=n3_;have HR386:=n4_;have HO389:=n5_;clear n0_ n1_ n2_ n3_ n4_ n5_;clear ho hb hg hat))
         go_ret
         exact ⟨_,by first | rfl | (simp [errW_none,errW_some] <;> rfl) | (simp [*,errW_none,errW_some] <;> rfl),by (with_reducible repeat (first | apply zz12 | apply zz13 | apply zz14));exact Kd.R_mono HO389.out (fun _ hk=>hk.1),by repeat first | exact HB.out | apply zz2 | apply zz0 | apply zz1,by repeat (first | (with_reducible first | exact HK.out | apply Kept.alloc | apply Kept.drewN | apply Kept.drew) | exact HK.out)⟩
        ·rw [if_neg c30] at H
         exact absurd H (by simp)
       ·rw [if_neg c27] at H
        exact absurd H (by simp)
      ·rw [if_neg c26] at H
       exact absurd H (by simp)
     ·rw [if_neg c25] at H
      exact absurd H (by simp)
    ·rw [if_neg c24] at H
     exact absurd H (by simp)

/-! ### spec_paParts: function 36 -/
mutual
def spec_paParts.l0:Nat→List (List Bool)→List Bool→List (List Int)→Int→Int→Option ((List (List Int)))
 | 0,_,_,_,_,_=>none
 | k+1,x3,x4,x5,x18,x19=>if x19 < x18 then (if 0≤x19 then (if x19 < (x4.length:Int) then (if rdOf false x4 x19=true then (spec_paParts.l0 k x3 x4 x5 x18 (wrap64 (x19+1))) else (spec_paParts.l1 k x3 (x4.set (x19:Int).toNat true) x5 (([x19]:List Int)) ([]:List Int) 0 x18 x19)) else (none)) else (none)) else (some x5)
def spec_paParts.l1:Nat→List (List Bool)→List Bool→List (List Int)→List Int→List Int→Int→Int→Int→Option ((List (List Int)))
 | 0,_,_,_,_,_,_,_,_=>none
 | k+1,x3,x4,x5,x7,x8,x9,x18,x19=>if x9 < (x7.length:Int) then (if 0≤x9 then ((spec_l1Put.f k x8 (rd x7 x9)).bind fun t406=>((spec_paFriends.f k x3 (rd x7 x9)).bind fun t410=>(spec_paParts.l2 k x3 x4 x5 x7 t406 x9 x18 x19 t410 (t410.length:Int) 0))) else (none)) else (if x5.length < 5864062014805 then (spec_paParts.l0 k x3 x4 (x5 ++ [x8]) x18 (wrap64 (x19+1))) else (none))
def spec_paParts.l2:Nat→List (List Bool)→List Bool→List (List Int)→List Int→List Int→Int→Int→Int→List Int→Int→Int→Option ((List (List Int)))
 | 0,_,_,_,_,_,_,_,_,_,_,_=>none
 | k+1,x3,x4,x5,x7,x8,x9,x18,x19,x48,x49,x50=>if x50 < x49 then (if 0≤x50 then (if x50 < (x48.length:Int) then (if 0≤(rd x48 x50) then (if (rd x48 x50) < (x4.length:Int) then (if (rdOf false x4 (rd x48 x50)=true) then (spec_paParts.l2 k x3 x4 x5 x7 x8 x9 x18 x19 x48 x49 (wrap64 (x50+1))) else (if x7.length < 17592186044416 then (spec_paParts.l2 k x3 (x4.set ((rd x48 x50):Int).toNat true) x5 (x7 ++ [rd x48 x50]) x8 x9 x18 x19 x48 x49 (wrap64 (x50+1))) else (none))) else (none)) else (none)) else (none)) else (none)) else (spec_paParts.l1 k x3 x4 x5 x7 x8 (wrap64 (x9+1)) x18 x19)
end
def spec_paParts.f (k:Nat) (a0_0:Int) (l0_1:List (S68)):Option ((List (List Int))):=(spec_paTable.f k a0_0 l0_1).bind fun t391=>(if 0≤a0_0 then (if (a0_0:Int).toNat≤281474976710656 then (spec_paParts.l0 k t391 (List.replicate (a0_0:Int).toNat false) ([]:List (List Int)) (t391.length:Int) 0) else (none)) else (none))
theorem spec_paParts.mono_l:∀ k,(∀ y0 y1 y2 y3 y4,LeO (spec_paParts.l0 k y0 y1 y2 y3 y4) (spec_paParts.l0 (k+1) y0 y1 y2 y3 y4))∧(∀ y0 y1 y2 y3 y4 y5 y6 y7,LeO (spec_paParts.l1 k y0 y1 y2 y3 y4 y5 y6 y7) (spec_paParts.l1 (k+1) y0 y1 y2 y3 y4 y5 y6 y7))∧(∀ y0 y1 y2 y3 y4 y5 y6 y7 y8 y9 y10,LeO (spec_paParts.l2 k y0 y1 y2 y3 y4 y5 y6 y7 y8 y9 y10) (spec_paParts.l2 (k+1) y0 y1 y2 y3 y4 y5 y6 y7 y8 y9 y10))
 | 0=>⟨fun _ _ _ _ _ r h=>by simp [spec_paParts.l0] at h,fun _ _ _ _ _ _ _ _ r h=>by simp [spec_paParts.l1] at h,fun _ _ _ _ _ _ _ _ _ _ _ r h=>by simp [spec_paParts.l2] at h⟩
 | k+1=>by
  obtain ⟨ih0,ih1,ih2⟩:=spec_paParts.mono_l k
  refine ⟨?_,?_,?_⟩
  ·intro y0 y1 y2 y3 y4
   unfold spec_paParts.l0
   repeat' first
   | (with_reducible exact ih0 _ _ _ _ _)
   | (with_reducible exact ih1 _ _ _ _ _ _ _ _)
   | (with_reducible exact ih2 _ _ _ _ _ _ _ _ _ _ _)
   | (with_reducible exact spec_l1Put.mono _ _ _)
   | (with_reducible exact spec_paFriends.mono _ _ _)
   | (with_reducible exact spec_paTable.mono _ _ _)
   | (with_reducible exact LeO.refl _)
   | (with_reducible exact LeO.none _)
   | (with_reducible refine LeO.ite ?_ ?_)
   | (with_reducible refine LeO.bind ?_ (fun _=>?_))
   | exact ih0 _ _ _ _ _
   | exact ih1 _ _ _ _ _ _ _ _
   | exact ih2 _ _ _ _ _ _ _ _ _ _ _
   | exact spec_l1Put.mono _ _ _
   | exact spec_paFriends.mono _ _ _
   | exact spec_paTable.mono _ _ _
   | exact LeO.none _
   | refine LeO.ite ?_ ?_
   | refine LeO.bind ?_ (fun _=>?_)
  ·intro y0 y1 y2 y3 y4 y5 y6 y7
   unfold spec_paParts.l1
   repeat' first
   | (with_reducible exact ih0 _ _ _ _ _)
   | (with_reducible exact ih1 _ _ _ _ _ _ _ _)
   | (with_reducible exact ih2 _ _ _ _ _ _ _ _ _ _ _)
   | (with_reducible exact spec_l1Put.mono _ _ _)
   | (with_reducible exact spec_paFriends.mono _ _ _)
   | (with_reducible exact spec_paTable.mono _ _ _)
   | (with_reducible exact LeO.refl _)
   | (with_reducible exact LeO.none _)
   | (with_reducible refine LeO.ite ?_ ?_)
   | (with_reducible refine LeO.bind ?_ (fun _=>?_))
   | exact ih0 _ _ _ _ _
   | exact ih1 _ _ _ _ _ _ _ _
   | exact ih2 _ _ _ _ _ _ _ _ _ _ _
   | exact spec_l1Put.mono _ _ _
   | exact spec_paFriends.mono _ _ _
   | exact spec_paTable.mono _ _ _
   | exact LeO.none _
   | refine LeO.ite ?_ ?_
   | refine LeO.bind ?_ (fun _=>?_)
  ·intro y0 y1 y2 y3 y4 y5 y6 y7 y8 y9 y10
   unfold spec_paParts.l2
   repeat' first
   | (with_reducible exact ih0 _ _ _ _ _)
   | (with_reducible exact ih1 _ _ _ _ _ _ _ _)
   | (with_reducible exact ih2 _ _ _ _ _ _ _ _ _ _ _)
   | (with_reducible exact spec_l1Put.mono _ _ _)
   | (with_reducible exact spec_paFriends.mono _ _ _)
   | (with_reducible exact spec_paTable.mono _ _ _)
   | (with_reducible exact LeO.refl _)
   | (with_reducible exact LeO.none _)
   | (with_reducible refine LeO.ite ?_ ?_)
   | (with_reducible refine LeO.bind ?_ (fun _=>?_))
   | exact ih0 _ _ _ _ _
   | exact ih1 _ _ _ _ _ _ _ _
   | exact ih2 _ _ _ _ _ _ _ _ _ _ _
   | exact spec_l1Put.mono _ _ _
   | exact spec_paFriends.mono _ _ _
   | exact spec_paTable.mono _ _ _
   | exact LeO.none _
   | refine LeO.ite ?_ ?_
   | refine LeO.bind ?_ (fun _=>?_)
theorem spec_paParts.mono:∀ a0 a1 k,LeO (spec_paParts.f k a0 a1) (spec_paParts.f (k+1) a0 a1):=by
 intro a0 a1 k
 obtain ⟨ih0,ih1,ih2⟩:=spec_paParts.mono_l k
 unfold spec_paParts.f
 repeat' first
   | (with_reducible exact ih0 _ _ _ _ _)
   | (with_reducible exact ih1 _ _ _ _ _ _ _ _)
   | (with_reducible exact ih2 _ _ _ _ _ _ _ _ _ _ _)
   | (with_reducible exact spec_l1Put.mono _ _ _)
   | (with_reducible exact spec_paFriends.mono _ _ _)
   | (with_reducible exact spec_paTable.mono _ _ _)
   | (with_reducible exact LeO.refl _)
   | (with_reducible exact LeO.none _)
   | (with_reducible refine LeO.ite ?_ ?_)
   | (with_reducible refine LeO.bind ?_ (fun _=>?_))
   | exact ih0 _ _ _ _ _
   | exact ih1 _ _ _ _ _ _ _ _
   | exact ih2 _ _ _ _ _ _ _ _ _ _ _
   | exact spec_l1Put.mono _ _ _
   | exact spec_paFriends.mono _ _ _
   | exact spec_paTable.mono _ _ _
   | exact LeO.none _
   | refine LeO.ite ?_ ?_
   | refine LeO.bind ?_ (fun _=>?_)
set_option maxHeartbeats 8000000 in
set_option maxRecDepth 100000 in
theorem spec_paParts.calls (k:Nat) (a0_0:Int) (A0_1:Option Addr) (c0_1:Nat) (l0_1:List (S68)) (r:List (List Int)) (w:World) (hr0_1:Kd.C k68 w A0_1 l0_1.length l0_1) (hc0_1:l0_1.length≤c0_1) (h:spec_paParts.f k a0_0 l0_1=some r) :
  Calls Tryd.prog 36 #[.agg #[.int .i64 a0_0,.slice A0_1 l0_1.length c0_1]] w fun e w'=>∃ v0_:Value,e=.returned (v0_)∧Kd.S (Kd.slice 3 (Kd.int .i64)) 34 w' w.heap.size (fun _=>True) v0_ r∧Below w.heap.size w w':=by
 have hu30:=Tryd.underlying30
 have HR0_1:=zz31 hr0_1
 have HC0_1:=zz31 hc0_1
 clear hr0_1 hc0_1
 have HB:=zz31 (Below.refl w.heap.size w)
 have H:((spec_paTable.f k a0_0 l0_1).bind fun t391=>(if 0≤a0_0 then (if (a0_0:Int).toNat≤281474976710656 then (spec_paParts.l0 k t391 (List.replicate (a0_0:Int).toNat false) ([]:List (List Int)) (t391.length:Int) 0) else (none)) else (none)))=some r:=h
 clear h
 replace H:=zz30.mp H
 obtain ⟨t391,A20,H⟩:=H
 replace H:(if 0≤a0_0 then (if (a0_0:Int).toNat≤281474976710656 then (spec_paParts.l0 k t391 (List.replicate (a0_0:Int).toNat false) ([]:List (List Int)) (t391.length:Int) 0) else (none)) else (none))=some r:=H
 have A2:=zz31 A20
 clear A20
 by_cases c3:0≤a0_0
 ·rw [if_pos c3] at H
  have c3b0:=eq_true c3
  have c3b1:decide (0≤a0_0)=true:=decide_eq_true c3
  clear c3
  by_cases c4:(a0_0:Int).toNat≤281474976710656
  ·rw [if_pos c4] at H
   have c4b0:=eq_true c4
   have c4b1:decide ((a0_0:Int).toNat≤281474976710656)=true:=decide_eq_true c4
   clear c4
   obtain ⟨y394,hy394⟩:∃ y_:List Bool,y_=(List.replicate (a0_0:Int).toNat false):=⟨_,rfl⟩
   replace H:(spec_paParts.l0 k t391 y394 ([]:List (List Int)) (t391.length:Int) 0)=some r:=by first | (rw [hy394];with_reducible exact H) | (have H2_:=(Option.bind_some _ _).symm.trans H;rw [hy394];with_reducible exact H2_) | (have H2_:=(Option.bind_some _ _).symm.trans H;with_reducible exact H2_) | with_reducible exact H | (rw [hy394];exact H) | exact H
   have Ny394:=zz31 hy394
   clear hy394
   have H':=zz31 H
   clear H
   go_enter Tryd.func36,Tryd.ntmps36
   go_wp2_with (first | ((with_reducible refine gate_dst (N:=1) rfl ?_);refine box_event ?hg (N:=1) ?hd (cs:=#[.int .i64 a0_0,.slice A0_1 l0_1.length c0_1]) (t:=30) ?hr ?_;(case hd=>rfl);(case hg=>rfl);(case hr=>first | (go_simp;done) | (go_simp;rfl));intro gb390 hg w5 hbox hb;have n0_:=zz31 (zz4 (by repeat first | exact HB.out | apply zz2 | apply zz0 | apply zz1) hb);have n1_:=zz31 (hbox);have n2_:=zz31 ((by rw [hg];exact (zz5 (by repeat first | exact HB.out | apply zz2 | apply zz0 | apply zz1)):w.heap.size≤gb390));have n3_:=zz31 ((by rw [hg];exact (zz5 (by repeat first | exact HB.out | apply zz2 | apply zz0 | apply zz1)):w.heap.size≤gb390));clear HB;have HB:=n0_;have BK390:=n1_;have GW390:=n2_;have GE390:=n3_;clear n0_ n1_ n2_ n3_;clear hb hbox hg;have hcz6_0:w5.cell? ⟨gb390,0,none⟩=some (.int .i64 a0_0):=(zz9 BK390.out 0).trans rfl;have hcz6_1:w5.cell? ⟨gb390,1,none⟩=some (.slice A0_1 l0_1.length c0_1):=(zz9 BK390.out 1).trans rfl;have hfz6_0:=zz10 BK390.out 0;have hfz6_1:=zz10 BK390.out 1) | ((with_reducible refine gate_callee (f:=26) rfl ?_);refine goesL_ (some 13) rfl rfl Tryd.func26 (by kernel_rfl) rfl #[.agg #[.int .i64 a0_0,.slice A0_1 l0_1.length c0_1]] rfl (by (try simp only [zz26,zz27,zz28]);first | done | rfl | (simp only [zz24,zz25];rfl)) ?_;(with_reducible refine (spec_paTable.calls k a0_0 _ _ l0_1 t391 _ ?side1 ?side2 A2.out).mono ?_);(case side1=>repeat (first | exact (Kd.C_below HR0_1.out HB.out) | (with_reducible refine zz18 ?_ _) | (with_reducible refine zz19 ?_ _) | (with_reducible refine zz20 ?_)));(case side2=>exact HC0_1.out);rintro e w7 ⟨v392,rfl,ho0,hb⟩;refine ⟨_,rfl,?_⟩;have n0_:=zz31 (Kd.S_lower ho0 (zz5 (by repeat first | exact HB.out | apply zz2 | apply zz0 | apply zz1 | refine zz3 ?_ GE390.out)));have n1_:=zz31 (zz11 (g:=gb390) (o:=.cells #[.int .i64 a0_0,.slice A0_1 l0_1.length c0_1] 30 (0,0)) (by (with_reducible repeat (first | refine zz6 ?_ _ | refine zz7 ?_ | refine zz8 ?_ _));exact BK390.out) hb);have n2_:=zz31 (zz4 (by repeat first | exact HB.out | apply zz2 | apply zz0 | apply zz1 | refine zz3 ?_ GE390.out) hb);clear BK390;clear HB;have HO393:=n0_;have BK390:=n1_;have HB:=n2_;clear n0_ n1_ n2_;(try clear hb);(try clear hb2);(try clear hk);(try clear hi);(try clear ho0);have hcz8_0:w7.cell? ⟨gb390,0,none⟩=some (.int .i64 a0_0):=(zz9 BK390.out 0).trans rfl;have hcz8_1:w7.cell? ⟨gb390,1,none⟩=some (.slice A0_1 l0_1.length c0_1):=(zz9 BK390.out 1).trans rfl;have hfz8_0:=zz10 BK390.out 0;have hfz8_1:=zz10 BK390.out 1) | ((with_reducible refine gate_dst (N:=16) rfl ?_);refine Kd.R_make Kd.bool _ 4 rfl (N:=16) rfl 73 _ _ rfl a0_0 rfl rfl Tryd.underlying73 (.bool false) 1 info4 rfl (by decide) (by omega) false (ok:=fun _=>True) (okp:=fun _=>True) rfl (fun _ hk=>hk) trivial (zz29 (by first | (with_reducible assumption) | assumption)) (Nat.le_trans (Nat.mul_le_mul_right _ (zz29 (by first | (with_reducible assumption) | assumption):a0_0.toNat≤281474976710656)) (by omega)) (Below.refl _ _) (Nat.le_refl _) ?_;intro v395 w9 ho10 hb hg_ hnew_;clear hg_ hnew_;(first | rw [← Ny394.out] at ho10 | (simp only [Int.reduceToNat] at ho10;rw [← Ny394.out] at ho10));have n0_:=zz31 (Kd.S_elder' (by (with_reducible repeat (first | apply zz15 | apply zz16 | apply zz17));exact HO393.out) (Kd.R_base ho10) hb);have n1_:=zz31 (Kd.R_lower ho10 (zz5 (by repeat first | exact HB.out | apply zz2 | apply zz0 | apply zz1 | refine zz3 ?_ GE390.out)));have n2_:=zz31 (zz11 (g:=gb390) (o:=.cells #[.int .i64 a0_0,.slice A0_1 l0_1.length c0_1] 30 (0,0)) (by (with_reducible repeat (first | refine zz6 ?_ _ | refine zz7 ?_ | refine zz8 ?_ _));exact BK390.out) hb);have n3_:=zz31 (zz4 (by repeat first | exact HB.out | apply zz2 | apply zz0 | apply zz1 | refine zz3 ?_ GE390.out) hb);clear HO393;clear BK390;clear HB;have HO393:=n0_;have HO396:=n1_;have BK390:=n2_;have HB:=n3_;clear n0_ n1_ n2_ n3_;clear hb ho10;obtain ⟨Ao11,co11,eo11⟩:=Kd.S_slice HO393.out;subst eo11))
   go_loopg [5,19] k (fun kq v5 v19 w'=>∃ (x4_1:List Bool) (x5_1:List (List Int)) (x19_1:Int),v19=.int .i64 x19_1∧Aside0 (spec_paParts.l0 kq t391 x4_1 x5_1 (t391.length:Int) x19_1=some r)∧Aside0 (kq≤k)∧Aside0 (Kd.S (Kd.slice 4 Kd.bool) 73 w' w.heap.size (fun k_=>some k_ ≠ (v395:Value).ownBlock) (.slice Ao11 t391.length co11) t391)∧Aside0 (Kd.R Kd.bool 4 w' w.heap.size (fun _=>True) v395 x4_1)∧Aside0 (Kd.S (Kd.slice 3 (Kd.int .i64)) 34 w' w.heap.size (fun _=>True) v5 x5_1)∧Aside0 (w'.heap[gb390]?=some (.cells #[.int .i64 a0_0,(.slice A0_1 l0_1.length c0_1)] 30 (0,0)))∧Aside0 (Below w.heap.size w w'))
   case atStart=>exact ⟨(y394),(([]:List (List Int))),(0),(by first | rfl | (simp;done) | (simp [*];done)),H',⟨Nat.le_refl _⟩,⟨by (with_reducible repeat (first | apply zz15 | apply zz16 | apply zz17));exact Kd.S_mono HO393.out (fun _ hk=>hk.2)⟩,⟨by (with_reducible repeat (first | apply zz12 | apply zz13 | apply zz14));exact HO396.out⟩,⟨by first | exact Kd.S_nil _ _ _ _ _ | exact Kd.N_nil _ _ _ _ _ | exact Kd.V_nil _ _ _ _ _ | exact Kd.Q_nil _ _ _ _ _ | exact Kd.R_nil _ _ _ _ _⟩,⟨by (with_reducible repeat (first | refine zz6 ?_ _ | refine zz7 ?_ | refine zz8 ?_ _));exact BK390.out⟩,⟨by repeat first | exact HB.out | apply zz2 | apply zz0 | apply zz1 | refine zz3 ?_ GE390.out⟩⟩
   case round =>
    clear H'
    try clear c2
    try clear p2
    try clear c3
    try clear c3b0
    try clear c3b1
    try clear c4
    try clear c4b0
    try clear c4b1
    try clear hcz6_0
    try clear hcz6_1
    try clear hcz8_0
    try clear hcz8_1
    try clear hfz6_0
    try clear hfz6_1
    try clear hfz8_0
    try clear hfz8_1
    obtain ⟨x4_1,x5_1,x19_1,rfl,HA,HK1,HO_3,HO_4,HO_5,BK390,HB⟩:=hrel
    cases gk with
    | zero=>exact absurd HA.out (by simp [spec_paParts.l0])
    | succ k1 =>
     have H:=HA.out
     clear HA
     simp only [spec_paParts.l0] at H
     by_cases c12:x19_1 < (t391.length:Int)
     ·rw [if_pos c12] at H
      have c12b0:decide (x19_1 < (t391.length:Int))=true:=decide_eq_true c12
      clear c12
      by_cases c13:0≤x19_1
      ·rw [if_pos c13] at H
       have c13b0:decide (0≤x19_1)=true:=decide_eq_true c13
       clear c13
       by_cases c14:x19_1 < (x4_1.length:Int)
       ·rw [if_pos c14] at H
        have c14b0:decide (x19_1 < (x4_1.length:Int))=true:=decide_eq_true c14
        clear c14
        obtain ⟨bq15,hbq15⟩:∃ b_:Bool,b_=(rdOf false x4_1 x19_1):=⟨_,rfl⟩
        replace H:(if bq15=true then (spec_paParts.l0 k1 t391 x4_1 x5_1 (t391.length:Int) (wrap64 (x19_1+1))) else (spec_paParts.l1 k1 t391 (x4_1.set (x19_1:Int).toNat true) x5_1 (([x19_1]:List Int)) ([]:List Int) 0 (t391.length:Int) x19_1))=some r:=by rw [← hbq15] at H;exact H
        have Nbq15:=zz31 hbq15
        clear hbq15
        by_cases c16:bq15=true
        ·subst c16
         have H1:(spec_paParts.l0 k1 t391 x4_1 x5_1 (t391.length:Int) (wrap64 (x19_1+1)))=some r:=by rw [if_pos rfl] at H;exact H
         clear H
         have H:=H1
         clear H1
         have H':=zz31 H
         clear H
         obtain ⟨Ao17,co17,eo17⟩:=Kd.R_slice HO_4.out
         subst eo17
         have p397:0≤(x19_1:Int):=zz29 (by first | (with_reducible assumption) | assumption)
         have q397:x19_1 < (x4_1.length:Int):=zz29 (by first | (with_reducible assumption) | assumption)
         obtain ⟨ad397,e397,hx397_0⟩:=Kd.at_bool (Kd.R_reads' HO_4.out).2.2 x19_1 p397 q397
         (try rw [← Nbq15.out] at hx397_0)
         cases e397
         replace p397:=eq_true p397
         replace q397:=eq_true q397
         go_wp2
         go_roundg k1
         case measure=>have:=HK1.out;omega
         case rel=>exact ⟨(x4_1),(x5_1),(wrap64 (x19_1+1)),(by first | rfl | (simp;done) | (simp [*];done)),H',⟨by have:=HK1.out;omega⟩,⟨by (with_reducible repeat (first | apply zz15 | apply zz16 | apply zz17));exact HO_3.out⟩,⟨by (with_reducible repeat (first | apply zz12 | apply zz13 | apply zz14));exact HO_4.out⟩,⟨by (with_reducible repeat (first | apply zz15 | apply zz16 | apply zz17));exact HO_5.out⟩,⟨by (with_reducible repeat (first | refine zz6 ?_ _ | refine zz7 ?_ | refine zz8 ?_ _));exact BK390.out⟩,⟨by repeat first | exact HB.out | apply zz2 | apply zz0 | apply zz1 | refine zz3 ?_ GE390.out⟩⟩
        ·replace c16:=Bool.eq_false_iff.mpr c16
         subst c16
         have H1:(spec_paParts.l1 k1 t391 (x4_1.set (x19_1:Int).toNat true) x5_1 (([x19_1]:List Int)) ([]:List Int) 0 (t391.length:Int) x19_1)=some r:=by rw [if_neg (show ¬ (false=true) by decide)] at H;exact H
         clear H
         have H:=H1
         clear H1
         obtain ⟨y398,hy398⟩:∃ y_:List Bool,y_=(x4_1.set (x19_1:Int).toNat true):=⟨_,rfl⟩
         replace H:(spec_paParts.l1 k1 t391 y398 x5_1 (([x19_1]:List Int)) ([]:List Int) 0 (t391.length:Int) x19_1)=some r:=by first | (rw [hy398];with_reducible exact H) | (have H2_:=(Option.bind_some _ _).symm.trans H;rw [hy398];with_reducible exact H2_) | (have H2_:=(Option.bind_some _ _).symm.trans H;with_reducible exact H2_) | with_reducible exact H | (rw [hy398];exact H) | exact H
         have Ny398:=zz31 hy398
         clear hy398
         obtain ⟨y399,hy399⟩:∃ y_:List Int,y_=(([x19_1]:List Int)):=⟨_,rfl⟩
         replace H:(spec_paParts.l1 k1 t391 y398 x5_1 y399 ([]:List Int) 0 (t391.length:Int) x19_1)=some r:=by first | (rw [hy399];with_reducible exact H) | (have H2_:=(Option.bind_some _ _).symm.trans H;rw [hy399];with_reducible exact H2_) | (have H2_:=(Option.bind_some _ _).symm.trans H;with_reducible exact H2_) | with_reducible exact H | (rw [hy399];exact H) | exact H
         have Ny399:=zz31 hy399
         clear hy399
         have H':=zz31 H
         clear H
         obtain ⟨Ao19,co19,eo19⟩:=Kd.R_slice HO_4.out
         subst eo19
         have p397:0≤(x19_1:Int):=zz29 (by first | (with_reducible assumption) | assumption)
         have q397:x19_1 < (x4_1.length:Int):=zz29 (by first | (with_reducible assumption) | assumption)
         obtain ⟨ad397,e397,hx397_0⟩:=Kd.at_bool (Kd.R_reads' HO_4.out).2.2 x19_1 p397 q397
         (try rw [← Nbq15.out] at hx397_0)
         cases e397
         replace p397:=eq_true p397
         replace q397:=eq_true q397
         have p18:0≤(x19_1:Int):=zz29 (by first | (with_reducible assumption) | assumption)
         have q18:(x19_1:Int) < ((x4_1.length:Int):Int):=zz29 (by first | (with_reducible assumption) | assumption)
         obtain ⟨go18,co18,eo18,gb18,gl18,cl18,HG18⟩:=Kd.R_form HO_4.out (by omega)
         (first | cases eo18 | (injection eo18 with ea_ en_ ec_;(first | subst ea_ | (injection ea_ with ea_;subst ea_));subst ec_;clear en_))
         have GB18:=zz31 gb18
         have GG18:=zz31 HG18
         clear gb18 gl18 HG18
         (first | simp only [add_plain] at hx397_0 | skip)
         obtain ⟨hx18_0,hf18_0⟩:=Kd.R_celln false HO_4.out (x19_1:Int) p18 q18
         replace p18:=eq_true p18
         replace q18:=eq_true q18
         have HP20:=Kd.R_putg HO_4.out (x19_1:Int) true
         go_wp2_with (first | ((with_reducible refine gate_store (t:=4) (p:=28) rfl ?_);refine store_event (t:=4) (p:=28) (v:=?vo_w21) (w1:=(wr.setCell ⟨go18,(x19_1:Int).toNat,none⟩ (.bool true))) ?hg ?ho ?hn ?hr ?_;(case ho=>rfl);(case hg=>rfl);(case hn=>rfl);(case hr=>first | (go_simp;done) | (go_simp;rfl));intro w21 hw;have hg:wr.grownBy w21 (some go18):=(by rw [hw];exact HP20.2);have hp_:Kd.R Kd.bool 4 w21 w.heap.size (fun _=>True) (.slice (some ⟨go18,0,none⟩) x4_1.length co19) y398:=(by rw [hw,Ny398.out];exact HP20.1);clear HP20;have n0_:=zz31 (Kd.S_after (v:=(.slice (some ⟨go18,0,none⟩) x4_1.length co19)) (v1:=(.slice (some ⟨go18,0,none⟩) x4_1.length co19)) (ok:=(fun _=>True)) (by (with_reducible repeat (first | apply zz15 | apply zz16 | apply zz17));exact Kd.S_mono HO_3.out (fun _ hk=>⟨trivial,hk⟩)) hg (.inl rfl));have n1_:=zz31 (hp_);have n2_:=zz31 (Kd.S_over' (v:=(.slice (some ⟨go18,0,none⟩) x4_1.length co19)) (by (with_reducible repeat (first | apply zz15 | apply zz16 | apply zz17));exact HO_5.out) (Kd.R_typed HO_4.out) (by decide) hg);have n3_:=zz31 (blk_grown (g:=gb390) (o:=.cells #[.int .i64 a0_0,.slice A0_1 l0_1.length c0_1] 30 (0,0)) (by (with_reducible repeat (first | refine zz6 ?_ _ | refine zz7 ?_ | refine zz8 ?_ _));exact BK390.out) hg (Kd.R_ne HO_4.out BK390.out (by decide)));have n4_:=zz31 ((by rw [hw];exact zz3 (HB.out) GB18.out:Below w.heap.size w w21));clear HO_3;clear HO_4;clear HO_5;clear BK390;clear HB;have HO_3:=n0_;have HO_4:=n1_;have HO_5:=n2_;have BK390:=n3_;have HB:=n4_;clear n0_ n1_ n2_ n3_ n4_;clear hg hw hp_) | ((with_reducible refine gate_dst (N:=30) rfl ?_);refine Kd.R_lit (Kd.int .i64) _ 3 ?hg (N:=30) ?hd (xs:=([x19_1]:List Int)) (inner:=[.int .i64 x19_1]) (ok:=fun _=>True) (okp:=fun _=>True) ?hr ?hp (fun _ hk=>hk) trivial (Below.refl _ _) (Nat.le_refl _) (by simp) ?_;(case hd=>rfl);(case hg=>rfl);(case hr=>first | (go_simp;done) | (go_simp;rfl));(case hp=>exact (Reps.one (show Kd.M (Kd.int .i64) _ _ _ x19_1 [.int .i64 x19_1] from rfl) (Reps.none _ _)));intro v400 w22 ho23 hb hg_ hnew_;clear hg_ hnew_;(first | rw [← Ny399.out] at ho23 | (simp only [Int.reduceToNat] at ho23;rw [← Ny399.out] at ho23));have n0_:=zz31 (Kd.S_below (by (with_reducible repeat (first | apply zz15 | apply zz16 | apply zz17));exact HO_3.out) hb);have n1_:=zz31 (Kd.R_below (by (with_reducible repeat (first | apply zz12 | apply zz13 | apply zz14));exact HO_4.out) hb);have n2_:=zz31 (Kd.S_elder' (by (with_reducible repeat (first | apply zz15 | apply zz16 | apply zz17));exact HO_5.out) (Kd.R_base ho23) hb);have n3_:=zz31 (Kd.R_lower ho23 (zz5 (by repeat first | exact HB.out | apply zz2 | apply zz0 | apply zz1 | refine zz3 ?_ GE390.out)));have n4_:=zz31 (zz11 (g:=gb390) (o:=.cells #[.int .i64 a0_0,.slice A0_1 l0_1.length c0_1] 30 (0,0)) (by (with_reducible repeat (first | refine zz6 ?_ _ | refine zz7 ?_ | refine zz8 ?_ _));exact BK390.out) hb);have n5_:=zz31 (zz4 (by repeat first | exact HB.out | apply zz2 | apply zz0 | apply zz1 | refine zz3 ?_ GE390.out) hb);clear HO_3;clear HO_4;clear HO_5;clear BK390;clear HB;have HO_3:=n0_;have HO_4:=n1_;have HO_5:=n2_;have HO401:=n3_;have BK390:=n4_;have HB:=n5_;clear n0_ n1_ n2_ n3_ n4_ n5_;clear hb ho23))
         go_loopg [7,8,9] k1 (fun kq v7 v8 v9 w'=>∃ (x4_2:List Bool) (x7_2:List Int) (x8_2:List Int) (x9_2:Int),v9=.int .i64 x9_2∧Aside0 (spec_paParts.l1 kq t391 x4_2 x5_1 x7_2 x8_2 x9_2 (t391.length:Int) x19_1=some r)∧Aside0 (kq≤k1)∧Aside0 (Kd.S (Kd.slice 4 Kd.bool) 73 w' w.heap.size (fun k_=>some k_ ≠ ((.slice (some ⟨go18,0,none⟩) x4_1.length co19):Value).ownBlock) (.slice Ao11 t391.length co11) t391)∧Aside0 (Kd.R Kd.bool 4 w' w.heap.size (fun _=>True) (.slice (some ⟨go18,0,none⟩) x4_1.length co19) x4_2)∧Aside0 (Kd.S (Kd.slice 3 (Kd.int .i64)) 34 w' w.heap.size (fun k_=>some k_ ≠ (v7:Value).ownBlock∧some k_ ≠ (v8:Value).ownBlock) u5 x5_1)∧Aside0 (Kd.R (Kd.int .i64) 3 w' w.heap.size (fun k_=>some k_ ≠ (v8:Value).ownBlock) v7 x7_2)∧Aside0 (Kd.R (Kd.int .i64) 3 w' w.heap.size (fun k_=>some k_ ≠ (v7:Value).ownBlock) v8 x8_2)∧Aside0 (w'.heap[gb390]?=some (.cells #[.int .i64 a0_0,(.slice A0_1 l0_1.length c0_1)] 30 (0,0)))∧Aside0 (Below w.heap.size w w'))
         case atStart=>exact ⟨(y398),(y399),(([]:List Int)),(0),(by first | rfl | (simp;done) | (simp [*];done)),H',⟨Nat.le_refl _⟩,⟨by (with_reducible repeat (first | apply zz15 | apply zz16 | apply zz17));exact Kd.S_mono HO_3.out (fun _ hk=>hk.2)⟩,⟨by (with_reducible repeat (first | apply zz12 | apply zz13 | apply zz14));exact HO_4.out⟩,⟨by (with_reducible repeat (first | apply zz15 | apply zz16 | apply zz17));exact Kd.S_mono HO_5.out (fun _ hk=>⟨hk.2,(by simp [Value.ownBlock])⟩)⟩,⟨by (with_reducible repeat (first | apply zz12 | apply zz13 | apply zz14));exact Kd.R_mono HO401.out (fun _ hk=>(by simp [Value.ownBlock]))⟩,⟨by first | exact Kd.R_nil _ _ _ _ _ | exact Kd.N_nil _ _ _ _ _ | exact Kd.V_nil _ _ _ _ _ | exact Kd.Q_nil _ _ _ _ _ | exact Kd.S_nil _ _ _ _ _⟩,⟨by (with_reducible repeat (first | refine zz6 ?_ _ | refine zz7 ?_ | refine zz8 ?_ _));exact BK390.out⟩,⟨by repeat first | exact HB.out | apply zz2 | apply zz0 | apply zz1 | refine zz3 ?_ GE390.out⟩⟩
         case round =>
          clear H'
          try clear c1
          try clear p1
          try clear q1
          try clear hx1
          try clear hf1
          try clear c2
          try clear p2
          try clear c3
          try clear c3b0
          try clear c3b1
          try clear p3
          try clear q3
          try clear hx3
          try clear c4
          try clear c4b0
          try clear c4b1
          try clear p6
          try clear c12
          try clear c12b0
          try clear c13
          try clear c13b0
          try clear c14
          try clear c14b0
          try clear q15
          try clear c16
          try clear p18
          try clear q18
          try clear hx18
          try clear hf18
          try clear hcz6_0
          try clear hcz6_1
          try clear hcz8_0
          try clear hcz8_1
          try clear hfz6_0
          try clear hfz6_1
          try clear hfz8_0
          try clear hfz8_1
          try clear hx18_0
          try clear hx397_0
          try clear p18
          try clear p2
          try clear p397
          try clear q18
          try clear q397
          obtain ⟨x4_2,x7_2,x8_2,x9_2,rfl,HA,HK2,HO_3,HO_4,HO_5,HO_7,HO_8,BK390,HB⟩:=hrel
          have hl4_2:=(Kd.R_reads' HO_4.out).1
          rw [hl4_2] at HO_4
          (try simp only [hl4_2])
          (try simp only [hl4_2] at BK390)
          (try simp only [hl4_2] at HO_3)
          (try simp only [hl4_2] at HO_5)
          (try simp only [hl4_2] at HO_7)
          (try simp only [hl4_2] at HO_8)
          cases gk with
          | zero=>exact absurd HA.out (by simp [spec_paParts.l1])
          | succ k2 =>
           have H:=HA.out
           clear HA
           simp only [spec_paParts.l1] at H
           by_cases c24:x9_2 < (x7_2.length:Int)
           ·rw [if_pos c24] at H
            have c24b0:decide (x9_2 < (x7_2.length:Int))=true:=decide_eq_true c24
            (try simp only [hl4_2] at c24b0)
            clear c24
            by_cases c25:0≤x9_2
            ·rw [if_pos c25] at H
             have c25b0:decide (0≤x9_2)=true:=decide_eq_true c25
             clear c25
             replace H:=zz30.mp H
             obtain ⟨t406,A260,H⟩:=H
             replace H:((spec_paFriends.f k2 t391 (rd x7_2 x9_2)).bind fun t410=>(spec_paParts.l2 k2 t391 x4_2 x5_1 x7_2 t406 x9_2 (t391.length:Int) x19_1 t410 (t410.length:Int) 0))=some r:=H
             have A26:=zz31 A260
             clear A260
             replace H:=zz30.mp H
             obtain ⟨t410,A270,H⟩:=H
             replace H:(spec_paParts.l2 k2 t391 x4_2 x5_1 x7_2 t406 x9_2 (t391.length:Int) x19_1 t410 (t410.length:Int) 0)=some r:=H
             have A27:=zz31 A270
             clear A270
             have H':=zz31 H
             clear H
             obtain ⟨Ao28,co28,eo28⟩:=Kd.R_slice HO_7.out
             subst eo28
             have p405:0≤(x9_2:Int):=zz29 (by first | (with_reducible assumption) | assumption)
             have q405:x9_2 < (x7_2.length:Int):=zz29 (by first | (with_reducible assumption) | assumption)
             obtain ⟨ad405,e405,hx405_0⟩:=Kd.at_int (Kd.R_reads' HO_7.out).2.2 x9_2 p405 q405
             cases e405
             replace p405:=eq_true p405
             replace q405:=eq_true q405
             obtain ⟨Ao29,co29,eo29⟩:=Kd.R_slice HO_8.out
             subst eo29
             go_wp2_with (first | ((with_reducible refine gate_callee (f:=48) rfl ?_);refine goesL_ (some 42) rfl rfl Tryd.func48 (by kernel_rfl) rfl #[.slice Ao29 x8_2.length co29,.int .i64 (rd x7_2 x9_2)] rfl (by (try simp only [zz26,zz27,zz28]);first | done | rfl | (simp only [zz24,zz25];rfl)) ?_;(with_reducible refine (spec_l1Put.calls k2 (fun k_=>some k_=(.slice Ao29 x8_2.length co29:Value).ownBlock) (.slice Ao29 x8_2.length co29) x8_2 (rd x7_2 x9_2) t406 w _ ?side1 ?side2 A26.out).mono ?_);(case side1=>repeat first | exact HB.out | apply zz2 | apply zz0 | apply zz1 | refine zz3 ?_ GE390.out);(case side2=>exact Kd.R_tight rfl HO_8.out);rintro e w30 ⟨v407,rfl,ho0,hb,hkp⟩;refine ⟨_,rfl,?_⟩;have n0_:=zz31 (Kd.S_mono (ok':=fun k_=>some k_ ≠ (.slice (some ⟨go18,0,none⟩) x4_2.length co19:Value).ownBlock) (Kd.S_keptB ((Kd.S_apart' HO_3.out (Kd.R_typed HO_8.out) (by decide))) hkp (fun k_ hk_ hs_=>(hk_.2) hs_)) (fun k_ hk_=>hk_.1.1));have n1_:=zz31 (Kd.R_mono (ok':=fun k_=>True) (Kd.R_keptB ((Kd.R_apart' HO_4.out (Kd.R_typed HO_8.out) (by decide))) hkp (fun k_ hk_ hs_=>(hk_.2) hs_)) (fun k_ hk_=>trivial));have n2_:=zz31 (Kd.S_mono (ok':=fun k_=>some k_ ≠ (.slice (some ad405) x7_2.length co28:Value).ownBlock∧some k_ ≠ (v407:Value).ownBlock) (Kd.S_keptB (HO_5.out) hkp (fun k_ hk_ hs_=>(hk_.2) hs_)) (fun k_ hk_=>⟨hk_.1.1,fun e_=>Or.elim (ho0.1 k_ e_.symm) (fun hs_=>hk_.2.1 hs_) (fun hn_=>Nat.not_le.2 hk_.2.2 hn_)⟩));have n3_:=zz31 (Kd.R_mono (ok':=fun k_=>some k_ ≠ (v407:Value).ownBlock) (Kd.R_keptB (HO_7.out) hkp (fun k_ hk_ hs_=>(hk_) hs_)) (fun k_ hk_=>fun e_=>Or.elim (ho0.1 k_ e_.symm) (fun hs_=>hk_.2.1 hs_) (fun hn_=>Nat.not_le.2 hk_.2.2 hn_)));(first | have n4_:=zz31 (blk_kept BK390.out hkp (fun hs_=>(fun e_=>(Kd.R_ne HO_8.out BK390.out (by decide)) e_) hs_)) | have n4_:=zz31 (blk_kept (by (with_reducible repeat (first | refine zz6 ?_ _ | refine zz7 ?_ | refine zz8 ?_ _));exact BK390.out) hkp (fun hs_=>(fun e_=>(Kd.R_ne HO_8.out BK390.out (by decide)) e_) hs_)));have n5_:=zz31 (Kd.R_mono (ok':=fun k_=>some k_ ≠ (.slice (some ad405) x7_2.length co28:Value).ownBlock) ho0 (fun k_ hk_=>Or.elim hk_ (fun hs_=>fun e_=>(((HO_7.out).1 k_ e_.symm)) hs_) (fun hn_=>(Kd.fresh' (Kd.R_lt (by (with_reducible repeat (first | apply zz12 | apply zz13 | apply zz14));exact HO_7.out)) k_ hn_))));have n6_:=zz31 (hb);clear HO_3;clear HO_4;clear HO_5;clear HO_7;clear BK390;clear HB;clear HO_8;have HO_3:=n0_;have HO_4:=n1_;have HO_5:=n2_;have HO_7:=n3_;have BK390:=n4_;have HO408:=n5_;have HB:=n6_;clear n0_ n1_ n2_ n3_ n4_ n5_ n6_;(try clear hb);(try clear hkp);(try clear ho0);have p409:0≤(x9_2:Int):=zz29 (by first | (with_reducible assumption) | assumption);have q409:x9_2 < (x7_2.length:Int):=zz29 (by first | (with_reducible assumption) | assumption);obtain ⟨ad409,e409,hx409_0⟩:=Kd.at_int (Kd.R_reads' HO_7.out).2.2 x9_2 p409 q409;obtain rfl:ad405=ad409:=(by injection e409);replace p409:=eq_true p409;replace q409:=eq_true q409) | ((with_reducible refine gate_callee (f:=34) rfl ?_);refine goesL_ (some 48) rfl rfl Tryd.func34 (by kernel_rfl) rfl #[.slice Ao11 t391.length co11,.int .i64 (rd x7_2 x9_2)] rfl (by (try simp only [zz26,zz27,zz28]);first | done | rfl | (simp only [zz24,zz25];rfl)) ?_;(with_reducible refine (spec_paFriends.calls k2 _ _ t391 (rd x7_2 x9_2) t410 _ ?side1 ?side2 A27.out).mono ?_);(case side1=>repeat (first | exact (Kd.S_reads' HO_3.out).2.2 | (with_reducible refine zz18 ?_ _) | (with_reducible refine zz19 ?_ _) | (with_reducible refine zz20 ?_)));(case side2=>exact (Kd.S_reads' HO_3.out).2.1);rintro e w31 ⟨v411,rfl,ho0,hb⟩;refine ⟨_,rfl,?_⟩;have n0_:=zz31 (Kd.S_below (by (with_reducible repeat (first | apply zz15 | apply zz16 | apply zz17));exact HO_3.out) hb);have n1_:=zz31 (Kd.R_below (by (with_reducible repeat (first | apply zz12 | apply zz13 | apply zz14));exact HO_4.out) hb);have n2_:=zz31 (Kd.S_elder' (by (with_reducible repeat (first | apply zz15 | apply zz16 | apply zz17));exact HO_5.out) (Kd.R_base ho0) hb);have n3_:=zz31 (Kd.R_elder' (by (with_reducible repeat (first | apply zz12 | apply zz13 | apply zz14));exact HO_7.out) (Kd.R_base ho0) hb);have n4_:=zz31 (Kd.R_elder' (by (with_reducible repeat (first | apply zz12 | apply zz13 | apply zz14));exact HO408.out) (Kd.R_base ho0) hb);have n5_:=zz31 (Kd.R_lower (Kd.R_new' (Kd.R_new' ho0 (Kd.R_lt (by (with_reducible repeat (first | apply zz12 | apply zz13 | apply zz14));exact HO_7.out))) (Kd.R_lt (by (with_reducible repeat (first | apply zz12 | apply zz13 | apply zz14));exact HO408.out))) (zz5 (by repeat first | exact HB.out | apply zz2 | apply zz0 | apply zz1 | refine zz3 ?_ GE390.out)));have n6_:=zz31 (zz11 (g:=gb390) (o:=.cells #[.int .i64 a0_0,.slice A0_1 l0_1.length c0_1] 30 (0,0)) (by (with_reducible repeat (first | refine zz6 ?_ _ | refine zz7 ?_ | refine zz8 ?_ _));exact BK390.out) hb);have n7_:=zz31 (zz4 (by repeat first | exact HB.out | apply zz2 | apply zz0 | apply zz1 | refine zz3 ?_ GE390.out) hb);clear HO_3;clear HO_4;clear HO_5;clear HO_7;clear HO408;clear BK390;clear HB;have HO_3:=n0_;have HO_4:=n1_;have HO_5:=n2_;have HO_7:=n3_;have HO408:=n4_;have HO412:=n5_;have BK390:=n6_;have HB:=n7_;clear n0_ n1_ n2_ n3_ n4_ n5_ n6_ n7_;(try clear hb);(try clear hb2);(try clear hk);(try clear hi);(try clear ho0);obtain ⟨Ao32,co32,eo32⟩:=Kd.R_slice HO412.out;subst eo32))
             go_loopg [7,50] k2 (fun kq v7 v50 w'=>∃ (x4_3:List Bool) (x7_3:List Int) (x50_3:Int),v50=.int .i64 x50_3∧Aside0 (spec_paParts.l2 kq t391 x4_3 x5_1 x7_3 t406 x9_2 (t391.length:Int) x19_1 t410 (t410.length:Int) x50_3=some r)∧Aside0 (kq≤k2)∧Aside0 (Kd.S (Kd.slice 4 Kd.bool) 73 w' w.heap.size (fun k_=>some k_ ≠ ((.slice (some ⟨go18,0,none⟩) x4_2.length co19):Value).ownBlock) (.slice Ao11 t391.length co11) t391)∧Aside0 (Kd.R Kd.bool 4 w' w.heap.size (fun _=>True) (.slice (some ⟨go18,0,none⟩) x4_2.length co19) x4_3)∧Aside0 (Kd.S (Kd.slice 3 (Kd.int .i64)) 34 w' w.heap.size (fun k_=>some k_ ≠ (v7:Value).ownBlock∧some k_ ≠ (v407:Value).ownBlock∧some k_ ≠ ((.slice Ao32 t410.length co32):Value).ownBlock) u5 x5_1)∧Aside0 (Kd.R (Kd.int .i64) 3 w' w.heap.size (fun k_=>some k_ ≠ (v407:Value).ownBlock∧some k_ ≠ ((.slice Ao32 t410.length co32):Value).ownBlock) v7 x7_3)∧Aside0 (Kd.R (Kd.int .i64) 3 w' w.heap.size (fun k_=>some k_ ≠ (v7:Value).ownBlock∧some k_ ≠ ((.slice Ao32 t410.length co32):Value).ownBlock) v407 t406)∧Aside0 (Kd.R (Kd.int .i64) 3 w' w.heap.size (fun k_=>some k_ ≠ (v7:Value).ownBlock∧some k_ ≠ (v407:Value).ownBlock) (.slice Ao32 t410.length co32) t410)∧Aside0 (w'.heap[gb390]?=some (.cells #[.int .i64 a0_0,(.slice A0_1 l0_1.length c0_1)] 30 (0,0)))∧Aside0 (Below w.heap.size w w'))
             case atStart=>exact ⟨(x4_2),(x7_2),(0),(by first | rfl | (simp;done) | (simp [*];done)),H',⟨Nat.le_refl _⟩,⟨by (try simp only [hl4_2]);(with_reducible repeat (first | apply zz15 | apply zz16 | apply zz17));exact HO_3.out⟩,⟨by (try simp only [hl4_2]);(with_reducible repeat (first | apply zz12 | apply zz13 | apply zz14));exact HO_4.out⟩,⟨by (try simp only [hl4_2]);(with_reducible repeat (first | apply zz15 | apply zz16 | apply zz17));exact Kd.S_mono HO_5.out (fun _ hk=>⟨hk.1.1,⟨hk.1.2,hk.2⟩⟩)⟩,⟨by (try simp only [hl4_2]);(with_reducible repeat (first | apply zz12 | apply zz13 | apply zz14));exact HO_7.out⟩,⟨by (try simp only [hl4_2]);(with_reducible repeat (first | apply zz12 | apply zz13 | apply zz14));exact HO408.out⟩,⟨by (try simp only [hl4_2]);(with_reducible repeat (first | apply zz12 | apply zz13 | apply zz14));exact Kd.R_mono HO412.out (fun _ hk=>⟨hk.1.2,hk.2⟩)⟩,⟨by (try simp only [hl4_2]);(with_reducible repeat (first | refine zz6 ?_ _ | refine zz7 ?_ | refine zz8 ?_ _));exact BK390.out⟩,⟨by repeat first | exact HB.out | apply zz2 | apply zz0 | apply zz1 | refine zz3 ?_ GE390.out⟩⟩
             case round =>
              clear H'
              try clear c1
              try clear p1
              try clear q1
              try clear hx1
              try clear hf1
              try clear c2
              try clear p2
              try clear c3
              try clear c3b0
              try clear c3b1
              try clear p3
              try clear q3
              try clear hx3
              try clear c4
              try clear c4b0
              try clear c4b1
              try clear p4
              try clear q4
              try clear hx4
              try clear p6
              try clear c12
              try clear c12b0
              try clear c13
              try clear c13b0
              try clear c14
              try clear c14b0
              try clear q15
              try clear c16
              try clear p18
              try clear q18
              try clear hx18
              try clear hf18
              try clear c24
              try clear c24b0
              try clear c25
              try clear c25b0
              try clear c26
              try clear hcz6_0
              try clear hcz6_1
              try clear hcz8_0
              try clear hcz8_1
              try clear hfz6_0
              try clear hfz6_1
              try clear hfz8_0
              try clear hfz8_1
              try clear hx18_0
              try clear hx397_0
              try clear hx405_0
              try clear hx409_0
              try clear p1
              try clear p18
              try clear p2
              try clear p3
              try clear p397
              try clear p405
              try clear p409
              try clear p6
              try clear q1
              try clear q15
              try clear q18
              try clear q3
              try clear q397
              try clear q405
              try clear q409
              obtain ⟨x4_3,x7_3,x50_3,rfl,HA,HK3,HO_3,HO_4,HO_5,HO_7,HO_8,HO_48,BK390,HB⟩:=hrel
              have hl4_3:=(Kd.R_reads' HO_4.out).1
              rw [hl4_3] at HO_4
              (try simp only [hl4_3])
              (try simp only [hl4_3] at BK390)
              (try simp only [hl4_3] at HO_3)
              (try simp only [hl4_3] at HO_5)
              (try simp only [hl4_3] at HO_7)
              (try simp only [hl4_3] at HO_8)
              (try simp only [hl4_3] at HO_48)
              cases gk with
              | zero=>exact absurd HA.out (by simp [spec_paParts.l2])
              | succ k3 =>
               have H:=HA.out
               clear HA
               simp only [spec_paParts.l2] at H
               by_cases c33:x50_3 < (t410.length:Int)
               ·rw [if_pos c33] at H
                have c33b0:decide (x50_3 < (t410.length:Int))=true:=decide_eq_true c33
                (try simp only [hl4_2] at c33b0)
                (try simp only [hl4_3] at c33b0)
                clear c33
                by_cases c34:0≤x50_3
                ·rw [if_pos c34] at H
                 have c34b0:decide (0≤x50_3)=true:=decide_eq_true c34
                 clear c34
                 by_cases c35:x50_3 < (t410.length:Int)
                 ·rw [if_pos c35] at H
                  have c35b0:decide (x50_3 < (t410.length:Int))=true:=decide_eq_true c35
                  (try simp only [hl4_2] at c35b0)
                  (try simp only [hl4_3] at c35b0)
                  clear c35
                  by_cases c36:0≤(rd t410 x50_3)
                  ·rw [if_pos c36] at H
                   have c36b0:decide (0≤(rd t410 x50_3))=true:=decide_eq_true c36
                   clear c36
                   by_cases c37:(rd t410 x50_3) < (x4_3.length:Int)
                   ·rw [if_pos c37] at H
                    have c37b0:decide ((rd t410 x50_3) < (x4_3.length:Int))=true:=decide_eq_true c37
                    (try simp only [hl4_2] at c37b0)
                    (try simp only [hl4_3] at c37b0)
                    clear c37
                    obtain ⟨bq38,hbq38⟩:∃ b_:Bool,b_=(rdOf false x4_3 (rd t410 x50_3)):=⟨_,rfl⟩
                    replace H:(if (bq38=true) then (spec_paParts.l2 k3 t391 x4_3 x5_1 x7_3 t406 x9_2 (t391.length:Int) x19_1 t410 (t410.length:Int) (wrap64 (x50_3+1))) else (if x7_3.length < 17592186044416 then (spec_paParts.l2 k3 t391 (x4_3.set ((rd t410 x50_3):Int).toNat true) x5_1 (x7_3 ++ [rd t410 x50_3]) t406 x9_2 (t391.length:Int) x19_1 t410 (t410.length:Int) (wrap64 (x50_3+1))) else (none)))=some r:=by rw [← hbq38] at H;exact H
                    have Nbq38:=zz31 hbq38
                    clear hbq38
                    by_cases c39:(bq38=true)
                    ·subst c39
                     have H1:(spec_paParts.l2 k3 t391 x4_3 x5_1 x7_3 t406 x9_2 (t391.length:Int) x19_1 t410 (t410.length:Int) (wrap64 (x50_3+1)))=some r:=by rw [if_pos rfl] at H;exact H
                     clear H
                     have H:=H1
                     clear H1
                     have H':=zz31 H
                     clear H
                     have p413:0≤(x50_3:Int):=zz29 (by first | (with_reducible assumption) | assumption)
                     have q413:x50_3 < (t410.length:Int):=zz29 (by first | (with_reducible assumption) | assumption)
                     obtain ⟨ad413,e413,hx413_0⟩:=Kd.at_int (Kd.R_reads' HO_48.out).2.2 x50_3 p413 q413
                     cases e413
                     replace p413:=eq_true p413
                     replace q413:=eq_true q413
                     have p414:0≤((rd t410 x50_3):Int):=zz29 (by first | (with_reducible assumption) | assumption)
                     have q414:(rd t410 x50_3) < (x4_3.length:Int):=zz29 (by first | (with_reducible assumption) | assumption)
                     obtain ⟨ad414,e414,hx414_0⟩:=Kd.at_bool (Kd.R_reads' HO_4.out).2.2 (rd t410 x50_3) p414 q414
                     (try rw [← Nbq15.out] at hx414_0)
                     (try rw [← Nbq38.out] at hx414_0)
                     obtain rfl:(⟨go18,0,none⟩:Addr)=ad414:=(by injection e414)
                     (first | simp only [add_plain] at hx414_0 | simp only [add_at] at hx414_0 | simp only [Addr.add,Nat.zero_add] at hx414_0 | skip)
                     replace p414:=eq_true p414
                     replace q414:=eq_true q414
                     go_wp2
                     (try simp only [← hl4_3])
                     go_roundg k3
                     case measure=>have:=HK1.out;have:=HK2.out;have:=HK3.out;omega
                     case rel=>exact ⟨(x4_3),(x7_3),(wrap64 (x50_3+1)),(by first | rfl | (simp;done) | (simp [*];done)),H',⟨by have:=HK1.out;have:=HK2.out;have:=HK3.out;omega⟩,⟨by (try simp only [hl4_2]);(try simp only [hl4_3]);(with_reducible repeat (first | apply zz15 | apply zz16 | apply zz17));exact HO_3.out⟩,⟨by (try simp only [hl4_2]);(try simp only [hl4_3]);(with_reducible repeat (first | apply zz12 | apply zz13 | apply zz14));exact HO_4.out⟩,⟨by (try simp only [hl4_2]);(try simp only [hl4_3]);(with_reducible repeat (first | apply zz15 | apply zz16 | apply zz17));exact HO_5.out⟩,⟨by (try simp only [hl4_2]);(try simp only [hl4_3]);(with_reducible repeat (first | apply zz12 | apply zz13 | apply zz14));exact HO_7.out⟩,⟨by (try simp only [hl4_2]);(try simp only [hl4_3]);(with_reducible repeat (first | apply zz12 | apply zz13 | apply zz14));exact HO_8.out⟩,⟨by (try simp only [hl4_2]);(try simp only [hl4_3]);(with_reducible repeat (first | apply zz12 | apply zz13 | apply zz14));exact HO_48.out⟩,⟨by (try simp only [hl4_2]);(try simp only [hl4_3]);(with_reducible repeat (first | refine zz6 ?_ _ | refine zz7 ?_ | refine zz8 ?_ _));exact BK390.out⟩,⟨by repeat first | exact HB.out | apply zz2 | apply zz0 | apply zz1 | refine zz3 ?_ GE390.out⟩⟩
                    ·replace c39:=Bool.eq_false_iff.mpr c39
                     subst c39
                     have H1:(if x7_3.length < 17592186044416 then (spec_paParts.l2 k3 t391 (x4_3.set ((rd t410 x50_3):Int).toNat true) x5_1 (x7_3 ++ [rd t410 x50_3]) t406 x9_2 (t391.length:Int) x19_1 t410 (t410.length:Int) (wrap64 (x50_3+1))) else (none))=some r:=by rw [if_neg (show ¬ (false=true) by decide)] at H;exact H
                     clear H
                     have H:=H1
                     clear H1
                     obtain ⟨y415,hy415⟩:∃ y_:List Bool,y_=(x4_3.set ((rd t410 x50_3):Int).toNat true):=⟨_,rfl⟩
                     replace H:(if x7_3.length < 17592186044416 then (spec_paParts.l2 k3 t391 y415 x5_1 (x7_3 ++ [rd t410 x50_3]) t406 x9_2 (t391.length:Int) x19_1 t410 (t410.length:Int) (wrap64 (x50_3+1))) else (none))=some r:=by first | (rw [hy415];with_reducible exact H) | (have H2_:=(Option.bind_some _ _).symm.trans H;rw [hy415];with_reducible exact H2_) | (have H2_:=(Option.bind_some _ _).symm.trans H;with_reducible exact H2_) | with_reducible exact H | (rw [hy415];exact H) | exact H
                     have Ny415:=zz31 hy415
                     clear hy415
                     by_cases c41:x7_3.length < 17592186044416
                     ·rw [if_pos c41] at H
                      have LMc41:=zz31 c41
                      clear c41
                      obtain ⟨y416,hy416⟩:∃ y_:List Int,y_=(x7_3 ++ [rd t410 x50_3]):=⟨_,rfl⟩
                      replace H:(spec_paParts.l2 k3 t391 y415 x5_1 y416 t406 x9_2 (t391.length:Int) x19_1 t410 (t410.length:Int) (wrap64 (x50_3+1)))=some r:=by first | (rw [hy416];with_reducible exact H) | (have H2_:=(Option.bind_some _ _).symm.trans H;rw [hy416];with_reducible exact H2_) | (have H2_:=(Option.bind_some _ _).symm.trans H;with_reducible exact H2_) | with_reducible exact H | (rw [hy416];exact H) | exact H
                      have Ny416:=zz31 hy416
                      clear hy416
                      have H':=zz31 H
                      clear H
                      have p413:0≤(x50_3:Int):=zz29 (by first | (with_reducible assumption) | assumption)
                      have q413:x50_3 < (t410.length:Int):=zz29 (by first | (with_reducible assumption) | assumption)
                      obtain ⟨ad413,e413,hx413_0⟩:=Kd.at_int (Kd.R_reads' HO_48.out).2.2 x50_3 p413 q413
                      cases e413
                      replace p413:=eq_true p413
                      replace q413:=eq_true q413
                      have p414:0≤((rd t410 x50_3):Int):=zz29 (by first | (with_reducible assumption) | assumption)
                      have q414:(rd t410 x50_3) < (x4_3.length:Int):=zz29 (by first | (with_reducible assumption) | assumption)
                      obtain ⟨ad414,e414,hx414_0⟩:=Kd.at_bool (Kd.R_reads' HO_4.out).2.2 (rd t410 x50_3) p414 q414
                      (try rw [← Nbq15.out] at hx414_0)
                      (try rw [← Nbq38.out] at hx414_0)
                      obtain rfl:(⟨go18,0,none⟩:Addr)=ad414:=(by injection e414)
                      (first | simp only [add_plain] at hx414_0 | simp only [add_at] at hx414_0 | simp only [Addr.add,Nat.zero_add] at hx414_0 | skip)
                      replace p414:=eq_true p414
                      replace q414:=eq_true q414
                      have p40:0≤((rd t410 x50_3):Int):=zz29 (by first | (with_reducible assumption) | assumption)
                      have q40:((rd t410 x50_3):Int) < ((x4_3.length:Int):Int):=zz29 (by first | (with_reducible assumption) | assumption)
                      obtain ⟨hx40_0,hf40_0⟩:=Kd.R_celln false HO_4.out ((rd t410 x50_3):Int) p40 q40
                      replace p40:=eq_true p40
                      replace q40:=eq_true q40
                      have HP42:=Kd.R_putg HO_4.out ((rd t410 x50_3):Int) true
                      go_wp2_with (first | ((with_reducible refine gate_store (t:=4) (p:=61) rfl ?_);refine store_event (t:=4) (p:=61) (v:=?vo_w43) (w1:=(wr.setCell ⟨go18,((rd t410 x50_3):Int).toNat,none⟩ (.bool true))) ?hg ?ho ?hn ?hr ?_;(case ho=>rfl);(case hg=>rfl);(case hn=>rfl);(case hr=>first | (go_simp;done) | (go_simp;rfl));intro w43 hw;have hg:wr.grownBy w43 (some go18):=(by rw [hw];exact HP42.2);have hp_:Kd.R Kd.bool 4 w43 w.heap.size (fun _=>True) (.slice (some ⟨go18,0,none⟩) x4_3.length co19) y415:=(by rw [hw,Ny415.out];exact HP42.1);clear HP42;have n0_:=zz31 (Kd.S_after (v:=(.slice (some ⟨go18,0,none⟩) x4_3.length co19)) (v1:=(.slice (some ⟨go18,0,none⟩) x4_3.length co19)) (ok:=(fun _=>True)) (by (with_reducible repeat (first | apply zz15 | apply zz16 | apply zz17));exact Kd.S_mono HO_3.out (fun _ hk=>⟨trivial,hk⟩)) hg (.inl rfl));have n1_:=zz31 (hp_);have n2_:=zz31 (Kd.S_over' (v:=(.slice (some ⟨go18,0,none⟩) x4_3.length co19)) (by (with_reducible repeat (first | apply zz15 | apply zz16 | apply zz17));exact HO_5.out) (Kd.R_typed HO_4.out) (by decide) hg);have n3_:=zz31 (Kd.R_over' (v:=(.slice (some ⟨go18,0,none⟩) x4_3.length co19)) (by (with_reducible repeat (first | apply zz12 | apply zz13 | apply zz14));exact HO_7.out) (Kd.R_typed HO_4.out) (by decide) hg);have n4_:=zz31 (Kd.R_over' (v:=(.slice (some ⟨go18,0,none⟩) x4_3.length co19)) (by (with_reducible repeat (first | apply zz12 | apply zz13 | apply zz14));exact HO_8.out) (Kd.R_typed HO_4.out) (by decide) hg);have n5_:=zz31 (Kd.R_over' (v:=(.slice (some ⟨go18,0,none⟩) x4_3.length co19)) (by (with_reducible repeat (first | apply zz12 | apply zz13 | apply zz14));exact HO_48.out) (Kd.R_typed HO_4.out) (by decide) hg);have n6_:=zz31 (blk_grown (g:=gb390) (o:=.cells #[.int .i64 a0_0,.slice A0_1 l0_1.length c0_1] 30 (0,0)) (by (with_reducible repeat (first | refine zz6 ?_ _ | refine zz7 ?_ | refine zz8 ?_ _));exact BK390.out) hg (Kd.R_ne HO_4.out BK390.out (by decide)));have n7_:=zz31 ((by rw [hw];exact zz3 (HB.out) GB18.out:Below w.heap.size w w43));clear HO_3;clear HO_4;clear HO_5;clear HO_7;clear HO_8;clear HO_48;clear BK390;clear HB;have HO_3:=n0_;have HO_4:=n1_;have HO_5:=n2_;have HO_7:=n3_;have HO_8:=n4_;have HO_48:=n5_;have BK390:=n6_;have HB:=n7_;clear n0_ n1_ n2_ n3_ n4_ n5_ n6_ n7_;clear hg hw hp_) | ((with_reducible refine gate_builtin (b:=.append) (xs:=#[.tmp 62,.tmp 64]) rfl ?_);at_builtin;refine Kd.R_append (Kd.int .i64) (w0:=w) w.heap.size rfl (.tmp 62) (.tmp 64) 34 3 (.int .i64 0) 8 rfl Tryd.underlying34 info3 rfl (by decide) (by omega) u7 x7_3 (rd t410 x50_3) [.int .i64 (rd t410 x50_3)] (fun k_=>some k_ ≠ (v407:Value).ownBlock∧some k_ ≠ (.slice (some ad413) t410.length co32:Value).ownBlock) (fun _=>False) rfl rfl ?aP (fun _ hk=>hk.elim) ?aF ?aO ?aB ?aS ?aL ?_;(case aP=>exact rfl);(case aB=>exact (by repeat first | exact HB.out | apply zz2 | apply zz0 | apply zz1 | refine zz3 ?_ GE390.out));(case aF=>exact (fun k_ hk=>⟨Kd.fresh' (Kd.R_lt (by (with_reducible repeat (first | apply zz12 | apply zz13 | apply zz14));exact HO_8.out)) k_ hk,Kd.fresh' (Kd.R_lt (by (with_reducible repeat (first | apply zz12 | apply zz13 | apply zz14));exact HO_48.out)) k_ hk⟩));(case aO=>exact (by (with_reducible repeat (first | apply zz12 | apply zz13 | apply zz14));exact HO_7.out));(case aS=>exact (zz5 (by repeat first | exact HB.out | apply zz2 | apply zz0 | apply zz1 | refine zz3 ?_ GE390.out)));(case aL=>have:=LMc41.out;omega);intro v417 w44 ho hb hg hat;rw [← Ny416.out] at ho;have n0_:=zz31 (Kd.S_over' (by (with_reducible repeat (first | apply zz15 | apply zz16 | apply zz17));exact HO_3.out) (Kd.R_typed (by (with_reducible repeat (first | apply zz12 | apply zz13 | apply zz14));exact HO_7.out)) (by decide) hg);have n1_:=zz31 (Kd.R_over' (by (with_reducible repeat (first | apply zz12 | apply zz13 | apply zz14));exact HO_4.out) (Kd.R_typed (by (with_reducible repeat (first | apply zz12 | apply zz13 | apply zz14));exact HO_7.out)) (by decide) hg);have n2_:=zz31 (Kd.S_after (ok:=(fun k_=>some k_ ≠ (v407:Value).ownBlock∧some k_ ≠ (.slice (some ad413) t410.length co32:Value).ownBlock)) (by (with_reducible repeat (first | apply zz15 | apply zz16 | apply zz17));exact Kd.S_mono HO_5.out (fun _ hk=>⟨⟨hk.2.1,hk.2.2⟩,hk.1⟩)) hg hat);have n3_:=zz31 (Kd.R_after (ok:=(fun k_=>some k_ ≠ (.slice (some ad413) t410.length co32:Value).ownBlock)) (by (with_reducible repeat (first | apply zz12 | apply zz13 | apply zz14));exact Kd.R_mono HO_8.out (fun _ hk=>⟨hk.2,hk.1⟩)) hg hat);have n4_:=zz31 (Kd.R_after (ok:=(fun k_=>some k_ ≠ (v407:Value).ownBlock)) (by (with_reducible repeat (first | apply zz12 | apply zz13 | apply zz14));exact Kd.R_mono HO_48.out (fun _ hk=>⟨hk.2,hk.1⟩)) hg hat);have n5_:=zz31 (blk_grown (g:=gb390) (o:=.cells #[.int .i64 a0_0,.slice A0_1 l0_1.length c0_1] 30 (0,0)) (by (with_reducible repeat (first | refine zz6 ?_ _ | refine zz7 ?_ | refine zz8 ?_ _));exact BK390.out) hg (Kd.R_ne HO_7.out BK390.out (by decide)));have n6_:=zz31 (hb);have n7_:=zz31 (ho);clear HO_3;clear HO_4;clear HO_5;clear HO_8;clear HO_48;clear BK390;clear HB;clear HO_7;have HO_3:=n0_;have HO_4:=n1_;have HO_5:=n2_;have HO_8:=n3_;have HO_48:=n4_;have BK390:=n5_;have HB:=n6_;have HO418:=n7_;clear n0_ n1_ n2_ n3_ n4_ n5_ n6_ n7_;clear ho hb hg hat))
                      (try simp only [← hl4_3])
                      go_roundg k3
                      case measure=>have:=HK1.out;have:=HK2.out;have:=HK3.out;omega
                      case rel=>exact ⟨(y415),(y416),(wrap64 (x50_3+1)),(by first | rfl | (simp;done) | (simp [*];done)),H',⟨by have:=HK1.out;have:=HK2.out;have:=HK3.out;omega⟩,⟨by (try simp only [hl4_2]);(try simp only [hl4_3]);(with_reducible repeat (first | apply zz15 | apply zz16 | apply zz17));exact Kd.S_mono HO_3.out (fun _ hk=>hk.2)⟩,⟨by (try simp only [hl4_2]);(try simp only [hl4_3]);(with_reducible repeat (first | apply zz12 | apply zz13 | apply zz14));exact HO_4.out⟩,⟨by (try simp only [hl4_2]);(try simp only [hl4_3]);(with_reducible repeat (first | apply zz15 | apply zz16 | apply zz17));exact Kd.S_mono HO_5.out (fun _ hk=>⟨hk.2,⟨hk.1.1,hk.1.2⟩⟩)⟩,⟨by (try simp only [hl4_2]);(try simp only [hl4_3]);(with_reducible repeat (first | apply zz12 | apply zz13 | apply zz14));exact HO418.out⟩,⟨by (try simp only [hl4_2]);(try simp only [hl4_3]);(with_reducible repeat (first | apply zz12 | apply zz13 | apply zz14));exact Kd.R_mono HO_8.out (fun _ hk=>⟨hk.2,hk.1⟩)⟩,⟨by (try simp only [hl4_2]);(try simp only [hl4_3]);(with_reducible repeat (first | apply zz12 | apply zz13 | apply zz14));exact Kd.R_mono HO_48.out (fun _ hk=>⟨hk.2,hk.1⟩)⟩,⟨by (try simp only [hl4_2]);(try simp only [hl4_3]);(with_reducible repeat (first | refine zz6 ?_ _ | refine zz7 ?_ | refine zz8 ?_ _));exact BK390.out⟩,⟨by repeat first | exact HB.out | apply zz2 | apply zz0 | apply zz1 | refine zz3 ?_ GE390.out⟩⟩
                     ·rw [if_neg c41] at H
                      exact absurd H (by simp)
                   ·rw [if_neg c37] at H
                    exact absurd H (by simp)
                  ·rw [if_neg c36] at H
                   exact absurd H (by simp)
                 ·rw [if_neg c35] at H
                  exact absurd H (by simp)
                ·rw [if_neg c34] at H
                 exact absurd H (by simp)
               ·rw [if_neg c33] at H
                have c33b0:decide (x50_3 < (t410.length:Int))=false:=decide_eq_false c33
                (try simp only [hl4_2] at c33b0)
                (try simp only [hl4_3] at c33b0)
                clear c33
                have H':=zz31 H
                clear H
                go_wp2
                (try simp only [← hl4_2,← hl4_3])
                go_roundg k3
                case measure=>have:=HK1.out;have:=HK2.out;have:=HK3.out;omega
                case rel=>exact ⟨(x4_3),(x7_3),(t406),(wrap64 (x9_2+1)),(by first | rfl | (simp;done) | (simp [*];done)),H',⟨by have:=HK1.out;have:=HK2.out;have:=HK3.out;omega⟩,⟨by (try simp only [hl4_2]);(try simp only [hl4_3]);(with_reducible repeat (first | apply zz15 | apply zz16 | apply zz17));exact HO_3.out⟩,⟨by (try simp only [hl4_2]);(try simp only [hl4_3]);(with_reducible repeat (first | apply zz12 | apply zz13 | apply zz14));exact HO_4.out⟩,⟨by (try simp only [hl4_2]);(try simp only [hl4_3]);(with_reducible repeat (first | apply zz15 | apply zz16 | apply zz17));exact Kd.S_mono HO_5.out (fun _ hk=>⟨hk.1,hk.2.1⟩)⟩,⟨by (try simp only [hl4_2]);(try simp only [hl4_3]);(with_reducible repeat (first | apply zz12 | apply zz13 | apply zz14));exact Kd.R_mono HO_7.out (fun _ hk=>hk.1)⟩,⟨by (try simp only [hl4_2]);(try simp only [hl4_3]);(with_reducible repeat (first | apply zz12 | apply zz13 | apply zz14));exact Kd.R_mono HO_8.out (fun _ hk=>hk.1)⟩,⟨by (try simp only [hl4_2]);(try simp only [hl4_3]);(with_reducible repeat (first | refine zz6 ?_ _ | refine zz7 ?_ | refine zz8 ?_ _));exact BK390.out⟩,⟨by repeat first | exact HB.out | apply zz2 | apply zz0 | apply zz1 | refine zz3 ?_ GE390.out⟩⟩
            ·rw [if_neg c25] at H
             exact absurd H (by simp)
           ·rw [if_neg c24] at H
            have c24b0:decide (x9_2 < (x7_2.length:Int))=false:=decide_eq_false c24
            (try simp only [hl4_2] at c24b0)
            clear c24
            by_cases c45:x5_1.length < 5864062014805
            ·rw [if_pos c45] at H
             have LMc45:=zz31 c45
             clear c45
             obtain ⟨y402,hy402⟩:∃ y_:List (List Int),y_=(x5_1 ++ [x8_2]):=⟨_,rfl⟩
             replace H:(spec_paParts.l0 k2 t391 x4_2 y402 (t391.length:Int) (wrap64 (x19_1+1)))=some r:=by first | (rw [hy402];with_reducible exact H) | (have H2_:=(Option.bind_some _ _).symm.trans H;rw [hy402];with_reducible exact H2_) | (have H2_:=(Option.bind_some _ _).symm.trans H;with_reducible exact H2_) | with_reducible exact H | (rw [hy402];exact H) | exact H
             have Ny402:=zz31 hy402
             clear hy402
             have H':=zz31 H
             clear H
             obtain ⟨Ao46,co46,eo46⟩:=Kd.R_slice HO_7.out
             subst eo46
             obtain ⟨Ao48,co48,eo48⟩:=Kd.R_slice HO_8.out
             subst eo48
             go_wp2_with (first | ((with_reducible refine gate_builtin (b:=.append) (xs:=#[.tmp 67,.tmp 69]) rfl ?_);at_builtin;refine Kd.S_append (Kd.slice 3 (Kd.int .i64)) (w0:=w) w.heap.size rfl (.tmp 67) (.tmp 69) 40 34 (.slice none 0 0) 24 rfl Tryd.underlying40 info34 rfl (by decide) (by omega) u5 x5_1 x8_2 [.slice Ao48 x8_2.length co48] (fun k_=>some k_ ≠ (.slice Ao46 x7_2.length co46:Value).ownBlock) (fun k_=>some k_=(.slice Ao48 x8_2.length co48:Value).ownBlock) rfl rfl ?aP (fun k_ hk_=>((Kd.R_mono (ok':=fun k_=>((fun k_=>some k_ ≠ (.slice Ao46 x7_2.length co46:Value).ownBlock)) k_∧some k_ ≠ (u5:Value).ownBlock) (Kd.R_apart' (HO_8.out) (Kd.S_typed HO_5.out) (by decide)) (fun k_ hk=>⟨hk.1,hk.2⟩))).1 k_ hk_.symm) ?aF ?aO ?aB ?aS ?aL ?_;(case aP=>exact Kd.M_row (Kd.R_mono (Kd.R_tight rfl (Kd.R_mono (ok':=fun k_=>((fun k_=>some k_ ≠ (.slice Ao46 x7_2.length co46:Value).ownBlock)) k_∧some k_ ≠ (u5:Value).ownBlock) (Kd.R_apart' (HO_8.out) (Kd.S_typed HO_5.out) (by decide)) (fun k_ hk=>⟨hk.1,hk.2⟩))) (fun _ h_=>h_)));(case aB=>exact (by repeat first | exact HB.out | apply zz2 | apply zz0 | apply zz1 | refine zz3 ?_ GE390.out));(case aF=>exact (fun k_ hk=>Kd.fresh' (Kd.R_lt (by (with_reducible repeat (first | apply zz12 | apply zz13 | apply zz14));exact HO_7.out)) k_ hk));(case aO=>exact (by (with_reducible repeat (first | apply zz15 | apply zz16 | apply zz17));exact Kd.S_mono HO_5.out (fun k_ hk=>⟨hk.1,fun e_=>hk.2 e_⟩)));(case aS=>exact (zz5 (by repeat first | exact HB.out | apply zz2 | apply zz0 | apply zz1 | refine zz3 ?_ GE390.out)));(case aL=>have:=LMc45.out;omega);intro v403 w47 ho hb hg hat;rw [← Ny402.out] at ho;have n0_:=zz31 (Kd.S_over' (by (with_reducible repeat (first | apply zz15 | apply zz16 | apply zz17));exact HO_3.out) (Kd.S_typed (by (with_reducible repeat (first | apply zz15 | apply zz16 | apply zz17));exact HO_5.out)) (by decide) hg);have n1_:=zz31 (Kd.R_over' (by (with_reducible repeat (first | apply zz12 | apply zz13 | apply zz14));exact HO_4.out) (Kd.S_typed (by (with_reducible repeat (first | apply zz15 | apply zz16 | apply zz17));exact HO_5.out)) (by decide) hg);have n2_:=zz31 (Kd.R_over' (by (with_reducible repeat (first | apply zz12 | apply zz13 | apply zz14));exact HO_7.out) (Kd.S_typed (by (with_reducible repeat (first | apply zz15 | apply zz16 | apply zz17));exact HO_5.out)) (by decide) hg);have n3_:=zz31 (blk_grown (g:=gb390) (o:=.cells #[.int .i64 a0_0,.slice A0_1 l0_1.length c0_1] 30 (0,0)) (by (with_reducible repeat (first | refine zz6 ?_ _ | refine zz7 ?_ | refine zz8 ?_ _));exact BK390.out) hg (Kd.S_ne HO_5.out BK390.out (by decide)));have n4_:=zz31 (hb);have n5_:=zz31 (ho);clear HO_3;clear HO_4;clear HO_7;clear BK390;clear HB;clear HO_5;clear HO_8;have HO_3:=n0_;have HO_4:=n1_;have HO_7:=n2_;have BK390:=n3_;have HB:=n4_;have HO404:=n5_;clear n0_ n1_ n2_ n3_ n4_ n5_;clear ho hb hg hat))
             (try simp only [← hl4_2])
             go_roundg k2
             case measure=>have:=HK1.out;have:=HK2.out;omega
             case rel=>exact ⟨(x4_2),(y402),(wrap64 (x19_1+1)),(by first | rfl | (simp;done) | (simp [*];done)),H',⟨by have:=HK1.out;have:=HK2.out;omega⟩,⟨by (try simp only [hl4_2]);(with_reducible repeat (first | apply zz15 | apply zz16 | apply zz17));exact HO_3.out⟩,⟨by (try simp only [hl4_2]);(with_reducible repeat (first | apply zz12 | apply zz13 | apply zz14));exact HO_4.out⟩,⟨by (try simp only [hl4_2]);(with_reducible repeat (first | apply zz15 | apply zz16 | apply zz17));exact Kd.S_mono HO404.out (fun _ hk=>trivial)⟩,⟨by (try simp only [hl4_2]);(with_reducible repeat (first | refine zz6 ?_ _ | refine zz7 ?_ | refine zz8 ?_ _));exact BK390.out⟩,⟨by repeat first | exact HB.out | apply zz2 | apply zz0 | apply zz1 | refine zz3 ?_ GE390.out⟩⟩
            ·rw [if_neg c45] at H
             exact absurd H (by simp)
       ·rw [if_neg c14] at H
        exact absurd H (by simp)
      ·rw [if_neg c13] at H
       exact absurd H (by simp)
     ·rw [if_neg c12] at H
      have c12b0:decide (x19_1 < (t391.length:Int))=false:=decide_eq_false c12
      clear c12
      obtain rfl:=Option.some.inj H
      go_wp2
      go_ret
      exact ⟨_,by first | rfl | (simp [errW_none,errW_some] <;> rfl) | (simp [*,errW_none,errW_some] <;> rfl),by (with_reducible repeat (first | apply zz15 | apply zz16 | apply zz17));exact HO_5.out,by repeat first | exact HB.out | apply zz2 | apply zz0 | apply zz1 | refine zz3 ?_ GE390.out⟩
  ·rw [if_neg c4] at H
   exact absurd H (by simp)
 ·rw [if_neg c3] at H
  exact absurd H (by simp)

/-! ### spec_PartsOfParty: function 17 -/
def spec_PartsOfParty.f (k:Nat) (a0_0:Int) (l0_1:List (S68)):Option ((List (List Int)) × Bool):=(spec_paGood.f k a0_0 l0_1).bind fun t420=>(if t420=true then ((spec_paParts.f k a0_0 l0_1).bind fun t421=>(some (t421,true))) else (some (([]:List (List Int)),false)))
theorem spec_PartsOfParty.mono:∀ a0 a1 k,LeO (spec_PartsOfParty.f k a0 a1) (spec_PartsOfParty.f (k+1) a0 a1):=by
 intro a0 a1 k
 unfold spec_PartsOfParty.f
 repeat' first
   | (with_reducible exact spec_paGood.mono _ _ _)
   | (with_reducible exact spec_paParts.mono _ _ _)
   | (with_reducible exact LeO.refl _)
   | (with_reducible exact LeO.none _)
   | (with_reducible refine LeO.ite ?_ ?_)
   | (with_reducible refine LeO.bind ?_ (fun _=>?_))
   | exact spec_paGood.mono _ _ _
   | exact spec_paParts.mono _ _ _
   | exact LeO.none _
   | refine LeO.ite ?_ ?_
   | refine LeO.bind ?_ (fun _=>?_)
set_option maxHeartbeats 8000000 in
set_option maxRecDepth 100000 in
theorem spec_PartsOfParty.calls (k:Nat) (a0_0:Int) (A0_1:Option Addr) (c0_1:Nat) (l0_1:List (S68)) (r1:List (List Int)) (r2:Bool) (w:World) (hr0_1:Kd.C k68 w A0_1 l0_1.length l0_1) (hc0_1:l0_1.length≤c0_1) (h:spec_PartsOfParty.f k a0_0 l0_1=some (r1,r2)) :
  Calls Tryd.prog 17 #[.agg #[.int .i64 a0_0,.slice A0_1 l0_1.length c0_1]] w fun e w'=>∃ v0_:Value,e=.returned (.tuple #[v0_,.bool r2])∧Kd.S (Kd.slice 3 (Kd.int .i64)) 34 w' w.heap.size (fun _=>True) v0_ r1∧Below w.heap.size w w':=by
 have hu30:=Tryd.underlying30
 have HR0_1:=zz31 hr0_1
 have HC0_1:=zz31 hc0_1
 clear hr0_1 hc0_1
 have HB:=zz31 (Below.refl w.heap.size w)
 have H:((spec_paGood.f k a0_0 l0_1).bind fun t420=>(if t420=true then ((spec_paParts.f k a0_0 l0_1).bind fun t421=>(some (t421,true))) else (some (([]:List (List Int)),false))))=some (r1,r2):=h
 clear h
 replace H:=zz30.mp H
 obtain ⟨t420,A20,H⟩:=H
 replace H:(if t420=true then ((spec_paParts.f k a0_0 l0_1).bind fun t421=>(some (t421,true))) else (some (([]:List (List Int)),false)))=some (r1,r2):=H
 have A2:=zz31 A20
 clear A20
 by_cases c3:t420=true
 ·subst c3
  have H1:((spec_paParts.f k a0_0 l0_1).bind fun t421=>(some (t421,true)))=some (r1,r2):=by rw [if_pos rfl] at H;exact H
  clear H
  have H:=H1
  clear H1
  replace H:=zz30.mp H
  obtain ⟨t421,A40,H⟩:=H
  replace H:(some (t421,true))=some (r1,r2):=H
  have A4:=zz31 A40
  clear A40
  simp only [Option.some.injEq,Prod.mk.injEq] at H
  obtain ⟨rfl,rfl⟩:=H
  go_enter Tryd.func17,Tryd.ntmps17
  go_wp2_with (first | ((with_reducible refine gate_dst (N:=1) rfl ?_);refine box_event ?hg (N:=1) ?hd (cs:=#[.int .i64 a0_0,.slice A0_1 l0_1.length c0_1]) (t:=30) ?hr ?_;(case hd=>rfl);(case hg=>rfl);(case hr=>first | (go_simp;done) | (go_simp;rfl));intro gb419 hg w5 hbox hb;have n0_:=zz31 (zz4 (by repeat first | exact HB.out | apply zz2 | apply zz0 | apply zz1) hb);have n1_:=zz31 (hbox);have n2_:=zz31 ((by rw [hg];exact (zz5 (by repeat first | exact HB.out | apply zz2 | apply zz0 | apply zz1)):w.heap.size≤gb419));have n3_:=zz31 ((by rw [hg];exact (zz5 (by repeat first | exact HB.out | apply zz2 | apply zz0 | apply zz1)):w.heap.size≤gb419));clear HB;have HB:=n0_;have BK419:=n1_;have GW419:=n2_;have GE419:=n3_;clear n0_ n1_ n2_ n3_;clear hb hbox hg;have hcz6_0:w5.cell? ⟨gb419,0,none⟩=some (.int .i64 a0_0):=(zz9 BK419.out 0).trans rfl;have hcz6_1:w5.cell? ⟨gb419,1,none⟩=some (.slice A0_1 l0_1.length c0_1):=(zz9 BK419.out 1).trans rfl;have hfz6_0:=zz10 BK419.out 0;have hfz6_1:=zz10 BK419.out 1) | ((with_reducible refine gate_callee (f:=23) rfl ?_);refine goesL_ (some 5) rfl rfl Tryd.func23 (by kernel_rfl) rfl #[.agg #[.int .i64 a0_0,.slice A0_1 l0_1.length c0_1]] rfl (by (try simp only [zz26,zz27,zz28]);first | done | rfl | (simp only [zz24,zz25];rfl)) ?_;(with_reducible refine (spec_paGood.calls k a0_0 _ _ l0_1 true _ ?side1 ?side2 A2.out).mono ?_);(case side1=>repeat (first | exact (Kd.C_below HR0_1.out HB.out) | (with_reducible refine zz18 ?_ _) | (with_reducible refine zz19 ?_ _) | (with_reducible refine zz20 ?_)));(case side2=>exact HC0_1.out);rintro e w7 ⟨rfl,hb⟩;refine ⟨_,rfl,?_⟩;have n0_:=zz31 (zz11 (g:=gb419) (o:=.cells #[.int .i64 a0_0,.slice A0_1 l0_1.length c0_1] 30 (0,0)) (by (with_reducible repeat (first | refine zz6 ?_ _ | refine zz7 ?_ | refine zz8 ?_ _));exact BK419.out) hb);have n1_:=zz31 (zz4 (by repeat first | exact HB.out | apply zz2 | apply zz0 | apply zz1 | refine zz3 ?_ GE419.out) hb);clear BK419;clear HB;have BK419:=n0_;have HB:=n1_;clear n0_ n1_;(try clear hb);(try clear hb2);(try clear hk);(try clear hi);have hcz8_0:w7.cell? ⟨gb419,0,none⟩=some (.int .i64 a0_0):=(zz9 BK419.out 0).trans rfl;have hcz8_1:w7.cell? ⟨gb419,1,none⟩=some (.slice A0_1 l0_1.length c0_1):=(zz9 BK419.out 1).trans rfl;have hfz8_0:=zz10 BK419.out 0;have hfz8_1:=zz10 BK419.out 1) | ((with_reducible refine gate_callee (f:=36) rfl ?_);refine goesL_ (some 8) rfl rfl Tryd.func36 (by kernel_rfl) rfl #[.agg #[.int .i64 a0_0,.slice A0_1 l0_1.length c0_1]] rfl (by (try simp only [zz26,zz27,zz28]);first | done | rfl | (simp only [zz24,zz25];rfl)) ?_;(with_reducible refine (spec_paParts.calls k a0_0 _ _ l0_1 t421 _ ?side1 ?side2 A4.out).mono ?_);(case side1=>repeat (first | exact (Kd.C_below HR0_1.out HB.out) | (with_reducible refine zz18 ?_ _) | (with_reducible refine zz19 ?_ _) | (with_reducible refine zz20 ?_)));(case side2=>exact HC0_1.out);rintro e w9 ⟨v422,rfl,ho0,hb⟩;refine ⟨_,rfl,?_⟩;have n0_:=zz31 (Kd.S_lower ho0 (zz5 (by repeat first | exact HB.out | apply zz2 | apply zz0 | apply zz1 | refine zz3 ?_ GE419.out)));have n1_:=zz31 (zz11 (g:=gb419) (o:=.cells #[.int .i64 a0_0,.slice A0_1 l0_1.length c0_1] 30 (0,0)) (by (with_reducible repeat (first | refine zz6 ?_ _ | refine zz7 ?_ | refine zz8 ?_ _));exact BK419.out) hb);have n2_:=zz31 (zz4 (by repeat first | exact HB.out | apply zz2 | apply zz0 | apply zz1 | refine zz3 ?_ GE419.out) hb);clear BK419;clear HB;have HO423:=n0_;have BK419:=n1_;have HB:=n2_;clear n0_ n1_ n2_;(try clear hb);(try clear hb2);(try clear hk);(try clear hi);(try clear ho0)))
  go_ret2
  exact ⟨_,by first | rfl | (simp [errW_none,errW_some] <;> rfl) | (simp [*,errW_none,errW_some] <;> rfl),by (with_reducible repeat (first | apply zz15 | apply zz16 | apply zz17));exact HO423.out,by repeat first | exact HB.out | apply zz2 | apply zz0 | apply zz1 | refine zz3 ?_ GE419.out⟩
 ·replace c3:=Bool.eq_false_iff.mpr c3
  subst c3
  have H1:(some (([]:List (List Int)),false))=some (r1,r2):=by rw [if_neg (show ¬ (false=true) by decide)] at H;exact H
  clear H
  have H:=H1
  clear H1
  simp only [Option.some.injEq,Prod.mk.injEq] at H
  obtain ⟨rfl,rfl⟩:=H
  go_enter Tryd.func17,Tryd.ntmps17
  go_wp2_with (first | ((with_reducible refine gate_dst (N:=1) rfl ?_);refine box_event ?hg (N:=1) ?hd (cs:=#[.int .i64 a0_0,.slice A0_1 l0_1.length c0_1]) (t:=30) ?hr ?_;(case hd=>rfl);(case hg=>rfl);(case hr=>first | (go_simp;done) | (go_simp;rfl));intro gb419 hg w10 hbox hb;have n0_:=zz31 (zz4 (by repeat first | exact HB.out | apply zz2 | apply zz0 | apply zz1) hb);have n1_:=zz31 (hbox);have n2_:=zz31 ((by rw [hg];exact (zz5 (by repeat first | exact HB.out | apply zz2 | apply zz0 | apply zz1)):w.heap.size≤gb419));have n3_:=zz31 ((by rw [hg];exact (zz5 (by repeat first | exact HB.out | apply zz2 | apply zz0 | apply zz1)):w.heap.size≤gb419));clear HB;have HB:=n0_;have BK419:=n1_;have GW419:=n2_;have GE419:=n3_;clear n0_ n1_ n2_ n3_;clear hb hbox hg;have hcz11_0:w10.cell? ⟨gb419,0,none⟩=some (.int .i64 a0_0):=(zz9 BK419.out 0).trans rfl;have hcz11_1:w10.cell? ⟨gb419,1,none⟩=some (.slice A0_1 l0_1.length c0_1):=(zz9 BK419.out 1).trans rfl;have hfz11_0:=zz10 BK419.out 0;have hfz11_1:=zz10 BK419.out 1) | ((with_reducible refine gate_callee (f:=23) rfl ?_);refine goesL_ (some 5) rfl rfl Tryd.func23 (by kernel_rfl) rfl #[.agg #[.int .i64 a0_0,.slice A0_1 l0_1.length c0_1]] rfl (by (try simp only [zz26,zz27,zz28]);first | done | rfl | (simp only [zz24,zz25];rfl)) ?_;(with_reducible refine (spec_paGood.calls k a0_0 _ _ l0_1 false _ ?side1 ?side2 A2.out).mono ?_);(case side1=>repeat (first | exact (Kd.C_below HR0_1.out HB.out) | (with_reducible refine zz18 ?_ _) | (with_reducible refine zz19 ?_ _) | (with_reducible refine zz20 ?_)));(case side2=>exact HC0_1.out);rintro e w12 ⟨rfl,hb⟩;refine ⟨_,rfl,?_⟩;have n0_:=zz31 (zz11 (g:=gb419) (o:=.cells #[.int .i64 a0_0,.slice A0_1 l0_1.length c0_1] 30 (0,0)) (by (with_reducible repeat (first | refine zz6 ?_ _ | refine zz7 ?_ | refine zz8 ?_ _));exact BK419.out) hb);have n1_:=zz31 (zz4 (by repeat first | exact HB.out | apply zz2 | apply zz0 | apply zz1 | refine zz3 ?_ GE419.out) hb);clear BK419;clear HB;have BK419:=n0_;have HB:=n1_;clear n0_ n1_;(try clear hb);(try clear hb2);(try clear hk);(try clear hi)))
  go_ret2
  exact ⟨_,by first | rfl | (simp [errW_none,errW_some] <;> rfl) | (simp [*,errW_none,errW_some] <;> rfl),by first | exact Kd.S_nil _ _ _ _ _ | exact Kd.N_nil _ _ _ _ _ | exact Kd.V_nil _ _ _ _ _ | exact Kd.Q_nil _ _ _ _ _ | exact Kd.R_nil _ _ _ _ _,by repeat first | exact HB.out | apply zz2 | apply zz0 | apply zz1 | refine zz3 ?_ GE419.out⟩

/-! ### impl_table_parts: function 38 -/
mutual
def impl_table_parts.l0:Nat→List Int→List (List Int)→Int→Int→Int→Option ((List (List Int)))
 | 0,_,_,_,_,_=>none
 | k+1,x0,x3,x4,x11,x12=>if x12 < x11 then (if 0≤x12 then (if (Go.bits .and .u16 (shr .u16 x4 x12) 1)=1 then (impl_table_parts.l0 k x0 x3 x4 x11 (wrap64 (x12+1))) else (impl_table_parts.l1 k x0 x3 x4 (shl .u16 1 x12) x11 x12 (x0.length:Int) 0)) else (none)) else (some x3)
def impl_table_parts.l1:Nat→List Int→List (List Int)→Int→Int→Int→Int→Int→Int→Option ((List (List Int)))
 | 0,_,_,_,_,_,_,_,_=>none
 | k+1,x0,x3,x4,x6,x11,x12,x23,x24=>if x24 < x23 then ((impl_listed.f k x6).bind fun t433=>(impl_table_parts.l2 k x0 x3 x4 x6 x11 x12 x23 x24 t433 (t433.length:Int) 0)) else ((impl_listed.f k x6).bind fun t427=>(if x3.length < 5864062014805 then (impl_table_parts.l0 k x0 (x3 ++ [t427]) (Go.bits .or .u16 x4 x6) x11 (wrap64 (x12+1))) else (none)))
def impl_table_parts.l2:Nat→List Int→List (List Int)→Int→Int→Int→Int→Int→Int→List Int→Int→Int→Option ((List (List Int)))
 | 0,_,_,_,_,_,_,_,_,_,_,_=>none
 | k+1,x0,x3,x4,x6,x11,x12,x23,x24,x27,x28,x29=>if x29 < x28 then (if 0≤x29 then (if x29 < (x27.length:Int) then (if 0≤(rd x27 x29) then (if (rd x27 x29) < (x0.length:Int) then (impl_table_parts.l2 k x0 x3 x4 (Go.bits .or .u16 x6 (rd x0 (rd x27 x29))) x11 x12 x23 x24 x27 x28 (wrap64 (x29+1))) else (none)) else (none)) else (none)) else (none)) else (impl_table_parts.l1 k x0 x3 x4 x6 x11 x12 x23 (wrap64 (x24+1)))
end
def impl_table_parts.f (k:Nat) (l0:List Int):Option ((List (List Int))):=impl_table_parts.l0 k l0 (([]:List (List Int))) 0 (l0.length:Int) 0
theorem impl_table_parts.mono_l:∀ k,(∀ y0 y1 y2 y3 y4,LeO (impl_table_parts.l0 k y0 y1 y2 y3 y4) (impl_table_parts.l0 (k+1) y0 y1 y2 y3 y4))∧(∀ y0 y1 y2 y3 y4 y5 y6 y7,LeO (impl_table_parts.l1 k y0 y1 y2 y3 y4 y5 y6 y7) (impl_table_parts.l1 (k+1) y0 y1 y2 y3 y4 y5 y6 y7))∧(∀ y0 y1 y2 y3 y4 y5 y6 y7 y8 y9 y10,LeO (impl_table_parts.l2 k y0 y1 y2 y3 y4 y5 y6 y7 y8 y9 y10) (impl_table_parts.l2 (k+1) y0 y1 y2 y3 y4 y5 y6 y7 y8 y9 y10))
 | 0=>⟨fun _ _ _ _ _ r h=>by simp [impl_table_parts.l0] at h,fun _ _ _ _ _ _ _ _ r h=>by simp [impl_table_parts.l1] at h,fun _ _ _ _ _ _ _ _ _ _ _ r h=>by simp [impl_table_parts.l2] at h⟩
 | k+1=>by
  obtain ⟨ih0,ih1,ih2⟩:=impl_table_parts.mono_l k
  refine ⟨?_,?_,?_⟩
  ·intro y0 y1 y2 y3 y4
   unfold impl_table_parts.l0
   repeat' first
   | (with_reducible exact ih0 _ _ _ _ _)
   | (with_reducible exact ih1 _ _ _ _ _ _ _ _)
   | (with_reducible exact ih2 _ _ _ _ _ _ _ _ _ _ _)
   | (with_reducible exact impl_listed.mono _ _)
   | (with_reducible exact LeO.refl _)
   | (with_reducible exact LeO.none _)
   | (with_reducible refine LeO.ite ?_ ?_)
   | (with_reducible refine LeO.bind ?_ (fun _=>?_))
   | exact ih0 _ _ _ _ _
   | exact ih1 _ _ _ _ _ _ _ _
   | exact ih2 _ _ _ _ _ _ _ _ _ _ _
   | exact impl_listed.mono _ _
   | exact LeO.none _
   | refine LeO.ite ?_ ?_
   | refine LeO.bind ?_ (fun _=>?_)
  ·intro y0 y1 y2 y3 y4 y5 y6 y7
   unfold impl_table_parts.l1
   repeat' first
   | (with_reducible exact ih0 _ _ _ _ _)
   | (with_reducible exact ih1 _ _ _ _ _ _ _ _)
   | (with_reducible exact ih2 _ _ _ _ _ _ _ _ _ _ _)
   | (with_reducible exact impl_listed.mono _ _)
   | (with_reducible exact LeO.refl _)
   | (with_reducible exact LeO.none _)
   | (with_reducible refine LeO.ite ?_ ?_)
   | (with_reducible refine LeO.bind ?_ (fun _=>?_))
   | exact ih0 _ _ _ _ _
   | exact ih1 _ _ _ _ _ _ _ _
   | exact ih2 _ _ _ _ _ _ _ _ _ _ _
   | exact impl_listed.mono _ _
   | exact LeO.none _
   | refine LeO.ite ?_ ?_
   | refine LeO.bind ?_ (fun _=>?_)
  ·intro y0 y1 y2 y3 y4 y5 y6 y7 y8 y9 y10
   unfold impl_table_parts.l2
   repeat' first
   | (with_reducible exact ih0 _ _ _ _ _)
   | (with_reducible exact ih1 _ _ _ _ _ _ _ _)
   | (with_reducible exact ih2 _ _ _ _ _ _ _ _ _ _ _)
   | (with_reducible exact impl_listed.mono _ _)
   | (with_reducible exact LeO.refl _)
   | (with_reducible exact LeO.none _)
   | (with_reducible refine LeO.ite ?_ ?_)
   | (with_reducible refine LeO.bind ?_ (fun _=>?_))
   | exact ih0 _ _ _ _ _
   | exact ih1 _ _ _ _ _ _ _ _
   | exact ih2 _ _ _ _ _ _ _ _ _ _ _
   | exact impl_listed.mono _ _
   | exact LeO.none _
   | refine LeO.ite ?_ ?_
   | refine LeO.bind ?_ (fun _=>?_)
theorem impl_table_parts.mono:∀ a0 k,LeO (impl_table_parts.f k a0) (impl_table_parts.f (k+1) a0):=by
 intro a0 k
 obtain ⟨ih0,ih1,ih2⟩:=impl_table_parts.mono_l k
 unfold impl_table_parts.f
 repeat' first
   | (with_reducible exact ih0 _ _ _ _ _)
   | (with_reducible exact ih1 _ _ _ _ _ _ _ _)
   | (with_reducible exact ih2 _ _ _ _ _ _ _ _ _ _ _)
   | (with_reducible exact impl_listed.mono _ _)
   | (with_reducible exact LeO.refl _)
   | (with_reducible exact LeO.none _)
   | (with_reducible refine LeO.ite ?_ ?_)
   | (with_reducible refine LeO.bind ?_ (fun _=>?_))
   | exact ih0 _ _ _ _ _
   | exact ih1 _ _ _ _ _ _ _ _
   | exact ih2 _ _ _ _ _ _ _ _ _ _ _
   | exact impl_listed.mono _ _
   | exact LeO.none _
   | refine LeO.ite ?_ ?_
   | refine LeO.bind ?_ (fun _=>?_)
set_option maxHeartbeats 8000000 in
set_option maxRecDepth 100000 in
theorem impl_table_parts.calls (k:Nat) (A0:Option Addr) (c0:Nat) (l0:List Int) (r:List (List Int)) (w:World) (hr0:Kd.C (Kd.int .u16) w A0 l0.length l0) (hc0:l0.length≤c0) (h:impl_table_parts.f k l0=some r) (hT:Tz w) :
  Calls Tryd.prog 38 #[.slice A0 l0.length c0] w fun e w'=>∃ v0_:Value,e=.returned (v0_)∧Kd.S (Kd.slice 3 (Kd.int .i64)) 34 w' w.heap.size (fun _=>True) v0_ r∧Below w.heap.size w w':=by
 have HR0:=zz31 hr0
 have HC0:=zz31 hc0
 clear hr0 hc0
 have HB:=zz31 (Below.refl w.heap.size w)
 have HT:=zz31 hT
 clear hT
 have H:(impl_table_parts.l0 k l0 (([]:List (List Int))) 0 (l0.length:Int) 0)=some r:=h
 clear h
 obtain ⟨y424,hy424⟩:∃ y_:List (List Int),y_=(([]:List (List Int))):=⟨_,rfl⟩
 replace H:(impl_table_parts.l0 k l0 y424 0 (l0.length:Int) 0)=some r:=by first | (rw [hy424];with_reducible exact H) | (have H2_:=(Option.bind_some _ _).symm.trans H;rw [hy424];with_reducible exact H2_) | (have H2_:=(Option.bind_some _ _).symm.trans H;with_reducible exact H2_) | with_reducible exact H | (rw [hy424];exact H) | exact H
 have Ny424:=zz31 hy424
 clear hy424
 have H':=zz31 H
 clear H
 go_enter Tryd.func38,Tryd.ntmps38
 go_wp2_with (first | ((with_reducible refine gate_dst (N:=9) rfl ?_);refine Kd.S_lit (Kd.slice 3 (Kd.int .i64)) _ 34 ?hg (N:=9) ?hd (xs:=([]:List (List Int))) (inner:=[]) (ok:=fun _=>True) (okp:=fun _=>True) ?hr ?hp (fun _ hk=>hk) trivial (Below.refl _ _) (Nat.le_refl _) (by simp) ?_;(case hd=>rfl);(case hg=>rfl);(case hr=>first | (go_simp;done) | (go_simp;rfl));(case hp=>exact (Reps.none _ _));intro v425 w2 ho3 hb hg_ hnew_;clear hg_ hnew_;(first | rw [← Ny424.out] at ho3 | (simp only [Int.reduceToNat] at ho3;rw [← Ny424.out] at ho3));have n0_:=zz31 (Kd.S_lower ho3 (zz5 (by repeat first | exact HB.out | apply zz2 | apply zz0 | apply zz1)));have n1_:=zz31 (zz4 (by repeat first | exact HB.out | apply zz2 | apply zz0 | apply zz1) hb);clear HB;have HO426:=n0_;have HB:=n1_;clear n0_ n1_;clear hb ho3))
 go_loopg [3,4,12] k (fun kq v3 v4 v12 w'=>∃ (x3_1:List (List Int)) (x4_1:Int) (x12_1:Int),v4=.int .u16 x4_1∧v12=.int .i64 x12_1∧Aside0 (impl_table_parts.l0 kq l0 x3_1 x4_1 (l0.length:Int) x12_1=some r)∧Aside0 (kq≤k)∧Aside0 (Kd.S (Kd.slice 3 (Kd.int .i64)) 34 w' w.heap.size (fun _=>True) v3 x3_1)∧Aside0 (Below w.heap.size w w'))
 case atStart=>exact ⟨(y424),(0),(0),(by first | rfl | (simp;done) | (simp [*];done)),(by first | rfl | (simp;done) | (simp [*];done)),H',⟨Nat.le_refl _⟩,⟨by (with_reducible repeat (first | apply zz15 | apply zz16 | apply zz17));exact HO426.out⟩,⟨by repeat first | exact HB.out | apply zz2 | apply zz0 | apply zz1⟩⟩
 case round =>
  clear H'
  try clear p2
  try clear c3
  obtain ⟨x3_1,x4_1,x12_1,rfl,rfl,HA,HK1,HO_3,HB⟩:=hrel
  cases gk with
  | zero=>exact absurd HA.out (by simp [impl_table_parts.l0])
  | succ k1 =>
   have H:=HA.out
   clear HA
   simp only [impl_table_parts.l0] at H
   by_cases c4:x12_1 < (l0.length:Int)
   ·rw [if_pos c4] at H
    have c4b0:decide (x12_1 < (l0.length:Int))=true:=decide_eq_true c4
    clear c4
    by_cases c5:0≤x12_1
    ·rw [if_pos c5] at H
     have c5b0:=eq_true c5
     have c5b1:decide (0≤x12_1)=true:=decide_eq_true c5
     clear c5
     obtain ⟨ji6,hji6⟩:∃ j_:Int,(shr .u16 x4_1 x12_1)=j_:=⟨_,rfl⟩
     replace H:(if (Go.bits .and .u16 (ji6) 1)=1 then (impl_table_parts.l0 k1 l0 x3_1 x4_1 (l0.length:Int) (wrap64 (x12_1+1))) else (impl_table_parts.l1 k1 l0 x3_1 x4_1 (shl .u16 1 x12_1) (l0.length:Int) x12_1 (l0.length:Int) 0))=some r:=by first | (rw [hji6] at H;exact H) | (simp only [hji6] at H ⊢;exact H)
     have hji6_:(x4_1 / 2 ^ min x12_1.toNat 16)=ji6:=hji6
     have hji6z:x12_1≤16→(x4_1 / 2 ^ x12_1.toNat)=ji6:=shr_small hji6
     by_cases c7:(Go.bits .and .u16 (ji6) 1)=1
     ·rw [if_pos c7] at H
      have c7b0:((Go.bits .and .u16 (ji6) 1) == 1)=true:=beq_iff_eq.mpr c7
      have c7b1:((Go.bits .and .u16 (ji6) 1) != 1)=false:=bne_eq_false_iff_eq.mpr c7
      clear c7
      have H':=zz31 H
      clear H
      go_wp2
      go_roundg k1
      case measure=>have:=HK1.out;omega
      case rel=>exact ⟨(x3_1),(x4_1),(wrap64 (x12_1+1)),(by first | rfl | (simp;done) | (simp [*];done)),(by first | rfl | (simp;done) | (simp [*];done)),H',⟨by have:=HK1.out;omega⟩,⟨by (with_reducible repeat (first | apply zz15 | apply zz16 | apply zz17));exact HO_3.out⟩,⟨by repeat first | exact HB.out | apply zz2 | apply zz0 | apply zz1⟩⟩
     ·rw [if_neg c7] at H
      have c7b0:((Go.bits .and .u16 (ji6) 1) == 1)=false:=beq_eq_false_iff_ne.mpr c7
      have c7b1:((Go.bits .and .u16 (ji6) 1) != 1)=true:=bne_iff_ne.mpr c7
      have c8b0:=eq_true (zz29 (by first | (with_reducible assumption) | assumption):0≤x12_1)
      obtain ⟨ji9,hji9⟩:∃ j_:Int,(shl .u16 1 x12_1)=j_:=⟨_,rfl⟩
      replace H:(impl_table_parts.l1 k1 l0 x3_1 x4_1 ji9 (l0.length:Int) x12_1 (l0.length:Int) 0)=some r:=by first | (rw [hji9] at H;exact H) | (simp only [hji9] at H ⊢;exact H)
      have hji9_:(IntKind.u16.wrap (1 * 2 ^ min x12_1.toNat 16))=ji9:=hji9
      have hji9z:x12_1≤16→(IntKind.u16.wrap (1 * 2 ^ x12_1.toNat))=ji9:=shl_small hji9
      have hji9u:(IntKind.u16.wrap (2 ^ min x12_1.toNat 16))=ji9:=by have h_:=hji9_;rw [Int.one_mul] at h_;exact h_
      have hji9v:x12_1≤16→(IntKind.u16.wrap (2 ^ x12_1.toNat))=ji9:=fun hle_=>by have h_:=hji9z hle_;rw [Int.one_mul] at h_;exact h_
      have H':=zz31 H
      clear H
      go_wp2
      go_loopg [6,24] k1 (fun kq v6 v24 w'=>∃ (x6_2:Int) (x24_2:Int),v6=.int .u16 x6_2∧v24=.int .i64 x24_2∧Aside0 (impl_table_parts.l1 kq l0 x3_1 x4_1 x6_2 (l0.length:Int) x12_1 (l0.length:Int) x24_2=some r)∧Aside0 (kq≤k1)∧Aside0 (Kd.S (Kd.slice 3 (Kd.int .i64)) 34 w' w.heap.size (fun _=>True) u3 x3_1)∧Aside0 (Below w.heap.size w w'))
      case atStart=>exact ⟨(ji9),(0),(by first | rfl | (simp;done) | (simp only [← hji9] <;> (first | rfl | simp)) | (simp [*];done)),(by first | rfl | (simp;done) | (simp [*];done)),H',⟨Nat.le_refl _⟩,⟨by (with_reducible repeat (first | apply zz15 | apply zz16 | apply zz17));exact HO_3.out⟩,⟨by repeat first | exact HB.out | apply zz2 | apply zz0 | apply zz1⟩⟩
      case round =>
       clear H'
       try clear p2
       try clear c3
       try clear c4
       try clear c4b0
       try clear c5
       try clear c5b0
       try clear c5b1
       try clear p6
       try clear c7
       try clear c7b0
       try clear c7b1
       try clear c8
       try clear c8b0
       try clear p2
       obtain ⟨x6_2,x24_2,rfl,rfl,HA,HK2,HO_3,HB⟩:=hrel
       cases gk with
       | zero=>exact absurd HA.out (by simp [impl_table_parts.l1])
       | succ k2 =>
        have H:=HA.out
        clear HA
        simp only [impl_table_parts.l1] at H
        by_cases c10:x24_2 < (l0.length:Int)
        ·rw [if_pos c10] at H
         have c10b0:decide (x24_2 < (l0.length:Int))=true:=decide_eq_true c10
         clear c10
         replace H:=zz30.mp H
         obtain ⟨t433,A110,H⟩:=H
         replace H:(impl_table_parts.l2 k2 l0 x3_1 x4_1 x6_2 (l0.length:Int) x12_1 (l0.length:Int) x24_2 t433 (t433.length:Int) 0)=some r:=H
         have A11:=zz31 A110
         clear A110
         have H':=zz31 H
         clear H
         go_wp2_with (first | ((with_reducible refine gate_callee (f:=31) rfl ?_);refine goesL_ (some 27) rfl rfl Tryd.func31 (by kernel_rfl) rfl #[.int .u16 x6_2] rfl (by (try simp only [zz26,zz27,zz28]);first | done | rfl | (simp only [zz24,zz25];rfl)) ?_;(with_reducible refine (impl_listed.calls k2 x6_2 t433 _ A11.out (HT.out.below (by repeat first | exact HB.out | apply zz2 | apply zz0 | apply zz1))).mono ?_);rintro e w12 ⟨v434,rfl,ho0,hb⟩;refine ⟨_,rfl,?_⟩;have n0_:=zz31 (Kd.S_elder' (by (with_reducible repeat (first | apply zz15 | apply zz16 | apply zz17));exact HO_3.out) (Kd.R_base ho0) hb);have n1_:=zz31 (Kd.R_lower ho0 (zz5 (by repeat first | exact HB.out | apply zz2 | apply zz0 | apply zz1)));have n2_:=zz31 (zz4 (by repeat first | exact HB.out | apply zz2 | apply zz0 | apply zz1) hb);clear HO_3;clear HB;have HO_3:=n0_;have HO435:=n1_;have HB:=n2_;clear n0_ n1_ n2_;(try clear hb);(try clear hb2);(try clear hk);(try clear hi);(try clear ho0);obtain ⟨Ao13,co13,eo13⟩:=Kd.R_slice HO435.out;subst eo13))
         go_loopg [6,29] k2 (fun kq v6 v29 w'=>∃ (x6_3:Int) (x29_3:Int),v6=.int .u16 x6_3∧v29=.int .i64 x29_3∧Aside0 (impl_table_parts.l2 kq l0 x3_1 x4_1 x6_3 (l0.length:Int) x12_1 (l0.length:Int) x24_2 t433 (t433.length:Int) x29_3=some r)∧Aside0 (kq≤k2)∧Aside0 (Kd.S (Kd.slice 3 (Kd.int .i64)) 34 w' w.heap.size (fun k_=>some k_ ≠ ((.slice Ao13 t433.length co13):Value).ownBlock) u3 x3_1)∧Aside0 (Kd.R (Kd.int .i64) 3 w' w.heap.size (fun _=>True) (.slice Ao13 t433.length co13) t433)∧Aside0 (Below w.heap.size w w'))
         case atStart=>exact ⟨(x6_2),(0),(by first | rfl | (simp;done) | (simp [*];done)),(by first | rfl | (simp;done) | (simp [*];done)),H',⟨Nat.le_refl _⟩,⟨by (with_reducible repeat (first | apply zz15 | apply zz16 | apply zz17));exact Kd.S_mono HO_3.out (fun _ hk=>hk.2)⟩,⟨by (with_reducible repeat (first | apply zz12 | apply zz13 | apply zz14));exact HO435.out⟩,⟨by repeat first | exact HB.out | apply zz2 | apply zz0 | apply zz1⟩⟩
         case round =>
          clear H'
          try clear c1
          try clear p2
          try clear c3
          try clear c4
          try clear c4b0
          try clear c5
          try clear c5b0
          try clear c5b1
          try clear p6
          try clear c7
          try clear c7b0
          try clear c7b1
          try clear c8
          try clear c8b0
          try clear c10
          try clear c10b0
          try clear p2
          try clear p6
          obtain ⟨x6_3,x29_3,rfl,rfl,HA,HK3,HO_3,HO_27,HB⟩:=hrel
          cases gk with
          | zero=>exact absurd HA.out (by simp [impl_table_parts.l2])
          | succ k3 =>
           have H:=HA.out
           clear HA
           simp only [impl_table_parts.l2] at H
           by_cases c14:x29_3 < (t433.length:Int)
           ·rw [if_pos c14] at H
            have c14b0:decide (x29_3 < (t433.length:Int))=true:=decide_eq_true c14
            clear c14
            by_cases c15:0≤x29_3
            ·rw [if_pos c15] at H
             have c15b0:decide (0≤x29_3)=true:=decide_eq_true c15
             clear c15
             by_cases c16:x29_3 < (t433.length:Int)
             ·rw [if_pos c16] at H
              have c16b0:decide (x29_3 < (t433.length:Int))=true:=decide_eq_true c16
              clear c16
              by_cases c17:0≤(rd t433 x29_3)
              ·rw [if_pos c17] at H
               have c17b0:decide (0≤(rd t433 x29_3))=true:=decide_eq_true c17
               clear c17
               by_cases c18:(rd t433 x29_3) < (l0.length:Int)
               ·rw [if_pos c18] at H
                have c18b0:decide ((rd t433 x29_3) < (l0.length:Int))=true:=decide_eq_true c18
                clear c18
                have H':=zz31 H
                clear H
                have p436:0≤(x29_3:Int):=zz29 (by first | (with_reducible assumption) | assumption)
                have q436:x29_3 < (t433.length:Int):=zz29 (by first | (with_reducible assumption) | assumption)
                obtain ⟨ad436,e436,hx436_0⟩:=Kd.at_int (Kd.R_reads' HO_27.out).2.2 x29_3 p436 q436
                cases e436
                replace p436:=eq_true p436
                replace q436:=eq_true q436
                have p437:0≤((rd t433 x29_3):Int):=zz29 (by first | (with_reducible assumption) | assumption)
                have q437:(rd t433 x29_3) < (l0.length:Int):=zz29 (by first | (with_reducible assumption) | assumption)
                obtain ⟨ad437,e437,hx437_0⟩:=Kd.at_int HR0.out (rd t433 x29_3) p437 q437
                cases e437
                try replace hx437_0:=(HB.out.cell (World.block_lt_of_cell? w _ hx437_0)).trans hx437_0
                replace p437:=eq_true p437
                replace q437:=eq_true q437
                go_wp2
                go_roundg k3
                case measure=>have:=HK1.out;have:=HK2.out;have:=HK3.out;omega
                case rel=>exact ⟨(Go.bits .or .u16 x6_3 (rd l0 (rd t433 x29_3))),(wrap64 (x29_3+1)),(by first | rfl | (simp;done) | (simp [*];done)),(by first | rfl | (simp;done) | (simp [*];done)),H',⟨by have:=HK1.out;have:=HK2.out;have:=HK3.out;omega⟩,⟨by (with_reducible repeat (first | apply zz15 | apply zz16 | apply zz17));exact HO_3.out⟩,⟨by (with_reducible repeat (first | apply zz12 | apply zz13 | apply zz14));exact HO_27.out⟩,⟨by repeat first | exact HB.out | apply zz2 | apply zz0 | apply zz1⟩⟩
               ·rw [if_neg c18] at H
                exact absurd H (by simp)
              ·rw [if_neg c17] at H
               exact absurd H (by simp)
             ·rw [if_neg c16] at H
              exact absurd H (by simp)
            ·rw [if_neg c15] at H
             exact absurd H (by simp)
           ·rw [if_neg c14] at H
            have c14b0:decide (x29_3 < (t433.length:Int))=false:=decide_eq_false c14
            clear c14
            have H':=zz31 H
            clear H
            go_wp2
            go_roundg k3
            case measure=>have:=HK1.out;have:=HK2.out;have:=HK3.out;omega
            case rel=>exact ⟨(x6_3),(wrap64 (x24_2+1)),(by first | rfl | (simp;done) | (simp [*];done)),(by first | rfl | (simp;done) | (simp [*];done)),H',⟨by have:=HK1.out;have:=HK2.out;have:=HK3.out;omega⟩,⟨by (with_reducible repeat (first | apply zz15 | apply zz16 | apply zz17));exact Kd.S_mono HO_3.out (fun _ hk=>trivial)⟩,⟨by repeat first | exact HB.out | apply zz2 | apply zz0 | apply zz1⟩⟩
        ·rw [if_neg c10] at H
         have c10b0:decide (x24_2 < (l0.length:Int))=false:=decide_eq_false c10
         clear c10
         replace H:=zz30.mp H
         obtain ⟨t427,A190,H⟩:=H
         replace H:(if x3_1.length < 5864062014805 then (impl_table_parts.l0 k2 l0 (x3_1 ++ [t427]) (Go.bits .or .u16 x4_1 x6_2) (l0.length:Int) (wrap64 (x12_1+1))) else (none))=some r:=H
         have A19:=zz31 A190
         clear A190
         by_cases c20:x3_1.length < 5864062014805
         ·rw [if_pos c20] at H
          have LMc20:=zz31 c20
          clear c20
          obtain ⟨y430,hy430⟩:∃ y_:List (List Int),y_=(x3_1 ++ [t427]):=⟨_,rfl⟩
          replace H:(impl_table_parts.l0 k2 l0 y430 (Go.bits .or .u16 x4_1 x6_2) (l0.length:Int) (wrap64 (x12_1+1)))=some r:=by first | (rw [hy430];with_reducible exact H) | (have H2_:=(Option.bind_some _ _).symm.trans H;rw [hy430];with_reducible exact H2_) | (have H2_:=(Option.bind_some _ _).symm.trans H;with_reducible exact H2_) | with_reducible exact H | (rw [hy430];exact H) | exact H
          have Ny430:=zz31 hy430
          clear hy430
          have H':=zz31 H
          clear H
          go_wp2_with (first | ((with_reducible refine gate_callee (f:=31) rfl ?_);refine goesL_ (some 46) rfl rfl Tryd.func31 (by kernel_rfl) rfl #[.int .u16 x6_2] rfl (by (try simp only [zz26,zz27,zz28]);first | done | rfl | (simp only [zz24,zz25];rfl)) ?_;(with_reducible refine (impl_listed.calls k2 x6_2 t427 _ A19.out (HT.out.below (by repeat first | exact HB.out | apply zz2 | apply zz0 | apply zz1))).mono ?_);rintro e w21 ⟨v428,rfl,ho0,hb⟩;refine ⟨_,rfl,?_⟩;have n0_:=zz31 (Kd.S_elder' (by (with_reducible repeat (first | apply zz15 | apply zz16 | apply zz17));exact HO_3.out) (Kd.R_base ho0) hb);have n1_:=zz31 (Kd.R_lower ho0 (zz5 (by repeat first | exact HB.out | apply zz2 | apply zz0 | apply zz1)));have n2_:=zz31 (zz4 (by repeat first | exact HB.out | apply zz2 | apply zz0 | apply zz1) hb);clear HO_3;clear HB;have HO_3:=n0_;have HO429:=n1_;have HB:=n2_;clear n0_ n1_ n2_;(try clear hb);(try clear hb2);(try clear hk);(try clear hi);(try clear ho0);obtain ⟨Ao23,co23,eo23⟩:=Kd.R_slice HO429.out;subst eo23) | ((with_reducible refine gate_builtin (b:=.append) (xs:=#[.tmp 44,.tmp 47]) rfl ?_);at_builtin;refine Kd.S_append (Kd.slice 3 (Kd.int .i64)) (w0:=w) w.heap.size rfl (.tmp 44) (.tmp 47) 40 34 (.slice none 0 0) 24 rfl Tryd.underlying40 info34 rfl (by decide) (by omega) u3 x3_1 t427 [.slice Ao23 t427.length co23] (fun _=>True) (fun k_=>some k_=(.slice Ao23 t427.length co23:Value).ownBlock) rfl rfl ?aP (fun k_ hk_=>((Kd.R_mono (ok':=fun k_=>((fun _=>True)) k_∧some k_ ≠ (u3:Value).ownBlock) (Kd.R_apart' (HO429.out) (Kd.S_typed HO_3.out) (by decide)) (fun k_ hk=>⟨trivial,hk.2⟩))).1 k_ hk_.symm) ?aF ?aO ?aB ?aS ?aL ?_;(case aP=>exact Kd.M_row (Kd.R_mono (Kd.R_tight rfl (Kd.R_mono (ok':=fun k_=>((fun _=>True)) k_∧some k_ ≠ (u3:Value).ownBlock) (Kd.R_apart' (HO429.out) (Kd.S_typed HO_3.out) (by decide)) (fun k_ hk=>⟨trivial,hk.2⟩))) (fun _ h_=>h_)));(case aB=>exact (by repeat first | exact HB.out | apply zz2 | apply zz0 | apply zz1));(case aF=>exact (fun _ _=>trivial));(case aO=>exact (by (with_reducible repeat (first | apply zz15 | apply zz16 | apply zz17));exact Kd.S_mono HO_3.out (fun k_ hk=>⟨trivial,fun e_=>hk.2 e_⟩)));(case aS=>exact (zz5 (by repeat first | exact HB.out | apply zz2 | apply zz0 | apply zz1)));(case aL=>have:=LMc20.out;omega);intro v431 w22 ho hb hg hat;rw [← Ny430.out] at ho;have n0_:=zz31 (hb);have n1_:=zz31 (ho);clear HB;clear HO_3;clear HO429;have HB:=n0_;have HO432:=n1_;clear n0_ n1_;clear ho hb hg hat))
          go_roundg k2
          case measure=>have:=HK1.out;have:=HK2.out;omega
          case rel=>exact ⟨(y430),(Go.bits .or .u16 x4_1 x6_2),(wrap64 (x12_1+1)),(by first | rfl | (simp;done) | (simp [*];done)),(by first | rfl | (simp;done) | (simp [*];done)),H',⟨by have:=HK1.out;have:=HK2.out;omega⟩,⟨by (with_reducible repeat (first | apply zz15 | apply zz16 | apply zz17));exact HO432.out⟩,⟨by repeat first | exact HB.out | apply zz2 | apply zz0 | apply zz1⟩⟩
         ·rw [if_neg c20] at H
          exact absurd H (by simp)
    ·rw [if_neg c5] at H
     exact absurd H (by simp)
   ·rw [if_neg c4] at H
    have c4b0:decide (x12_1 < (l0.length:Int))=false:=decide_eq_false c4
    clear c4
    obtain rfl:=Option.some.inj H
    go_wp2
    go_ret
    exact ⟨_,by first | rfl | (simp [errW_none,errW_some] <;> rfl) | (simp [*,errW_none,errW_some] <;> rfl),by (with_reducible repeat (first | apply zz15 | apply zz16 | apply zz17));exact HO_3.out,by repeat first | exact HB.out | apply zz2 | apply zz0 | apply zz1⟩

/-! ### impl_PartsOfParty: function 18 -/
def impl_PartsOfParty.f (k:Nat) (a0_0:Int) (l0_1:List (S68)):Option ((List (List Int)) × Bool):=(impl_IsParty.f k a0_0 l0_1).bind fun t439=>(if t439=true then ((impl_Party_table.f k a0_0 l0_1).bind fun t440=>((impl_table_parts.f k t440).bind fun t443=>(some (t443,true)))) else (some (([]:List (List Int)),false)))
theorem impl_PartsOfParty.mono:∀ a0 a1 k,LeO (impl_PartsOfParty.f k a0 a1) (impl_PartsOfParty.f (k+1) a0 a1):=by
 intro a0 a1 k
 unfold impl_PartsOfParty.f
 repeat' first
   | (with_reducible exact impl_IsParty.mono _ _ _)
   | (with_reducible exact impl_Party_table.mono _ _ _)
   | (with_reducible exact impl_table_parts.mono _ _)
   | (with_reducible exact LeO.refl _)
   | (with_reducible exact LeO.none _)
   | (with_reducible refine LeO.ite ?_ ?_)
   | (with_reducible refine LeO.bind ?_ (fun _=>?_))
   | exact impl_IsParty.mono _ _ _
   | exact impl_Party_table.mono _ _ _
   | exact impl_table_parts.mono _ _
   | exact LeO.none _
   | refine LeO.ite ?_ ?_
   | refine LeO.bind ?_ (fun _=>?_)
set_option maxHeartbeats 8000000 in
set_option maxRecDepth 100000 in
theorem impl_PartsOfParty.calls (k:Nat) (a0_0:Int) (A0_1:Option Addr) (c0_1:Nat) (l0_1:List (S68)) (r1:List (List Int)) (r2:Bool) (w:World) (hr0_1:Kd.C k68 w A0_1 l0_1.length l0_1) (hc0_1:l0_1.length≤c0_1) (h:impl_PartsOfParty.f k a0_0 l0_1=some (r1,r2)) (hT:Tz w) :
  Calls Tryd.prog 18 #[.agg #[.int .i64 a0_0,.slice A0_1 l0_1.length c0_1]] w fun e w'=>∃ v0_:Value,e=.returned (.tuple #[v0_,.bool r2])∧Kd.S (Kd.slice 3 (Kd.int .i64)) 34 w' w.heap.size (fun _=>True) v0_ r1∧Below w.heap.size w w':=by
 have hu30:=Tryd.underlying30
 have HR0_1:=zz31 hr0_1
 have HC0_1:=zz31 hc0_1
 clear hr0_1 hc0_1
 have HB:=zz31 (Below.refl w.heap.size w)
 have HT:=zz31 hT
 clear hT
 have H:((impl_IsParty.f k a0_0 l0_1).bind fun t439=>(if t439=true then ((impl_Party_table.f k a0_0 l0_1).bind fun t440=>((impl_table_parts.f k t440).bind fun t443=>(some (t443,true)))) else (some (([]:List (List Int)),false))))=some (r1,r2):=h
 clear h
 replace H:=zz30.mp H
 obtain ⟨t439,A20,H⟩:=H
 replace H:(if t439=true then ((impl_Party_table.f k a0_0 l0_1).bind fun t440=>((impl_table_parts.f k t440).bind fun t443=>(some (t443,true)))) else (some (([]:List (List Int)),false)))=some (r1,r2):=H
 have A2:=zz31 A20
 clear A20
 by_cases c3:t439=true
 ·subst c3
  have H1:((impl_Party_table.f k a0_0 l0_1).bind fun t440=>((impl_table_parts.f k t440).bind fun t443=>(some (t443,true))))=some (r1,r2):=by rw [if_pos rfl] at H;exact H
  clear H
  have H:=H1
  clear H1
  replace H:=zz30.mp H
  obtain ⟨t440,A40,H⟩:=H
  replace H:((impl_table_parts.f k t440).bind fun t443=>(some (t443,true)))=some (r1,r2):=H
  have A4:=zz31 A40
  clear A40
  replace H:=zz30.mp H
  obtain ⟨t443,A50,H⟩:=H
  replace H:(some (t443,true))=some (r1,r2):=H
  have A5:=zz31 A50
  clear A50
  simp only [Option.some.injEq,Prod.mk.injEq] at H
  obtain ⟨rfl,rfl⟩:=H
  go_enter Tryd.func18,Tryd.ntmps18
  go_wp2_with (first | ((with_reducible refine gate_dst (N:=1) rfl ?_);refine box_event ?hg (N:=1) ?hd (cs:=#[.int .i64 a0_0,.slice A0_1 l0_1.length c0_1]) (t:=30) ?hr ?_;(case hd=>rfl);(case hg=>rfl);(case hr=>first | (go_simp;done) | (go_simp;rfl));intro gb438 hg w6 hbox hb;have n0_:=zz31 (zz4 (by repeat first | exact HB.out | apply zz2 | apply zz0 | apply zz1) hb);have n1_:=zz31 (hbox);have n2_:=zz31 ((by rw [hg];exact (zz5 (by repeat first | exact HB.out | apply zz2 | apply zz0 | apply zz1)):w.heap.size≤gb438));have n3_:=zz31 ((by rw [hg];exact (zz5 (by repeat first | exact HB.out | apply zz2 | apply zz0 | apply zz1)):w.heap.size≤gb438));clear HB;have HB:=n0_;have BK438:=n1_;have GW438:=n2_;have GE438:=n3_;clear n0_ n1_ n2_ n3_;clear hb hbox hg;have hcz7_0:w6.cell? ⟨gb438,0,none⟩=some (.int .i64 a0_0):=(zz9 BK438.out 0).trans rfl;have hcz7_1:w6.cell? ⟨gb438,1,none⟩=some (.slice A0_1 l0_1.length c0_1):=(zz9 BK438.out 1).trans rfl;have hfz7_0:=zz10 BK438.out 0;have hfz7_1:=zz10 BK438.out 1) | ((with_reducible refine gate_callee (f:=37) rfl ?_);refine goesL_ (some 5) rfl rfl Tryd.func37 (by kernel_rfl) rfl #[.agg #[.int .i64 a0_0,.slice A0_1 l0_1.length c0_1]] rfl (by (try simp only [zz26,zz27,zz28]);first | done | rfl | (simp only [zz24,zz25];rfl)) ?_;(with_reducible refine (impl_IsParty.calls k a0_0 _ _ l0_1 true _ ?side1 ?side2 A2.out).mono ?_);(case side1=>repeat (first | exact (Kd.C_below HR0_1.out HB.out) | (with_reducible refine zz18 ?_ _) | (with_reducible refine zz19 ?_ _) | (with_reducible refine zz20 ?_)));(case side2=>exact HC0_1.out);rintro e w8 ⟨rfl,hb⟩;refine ⟨_,rfl,?_⟩;have n0_:=zz31 (zz11 (g:=gb438) (o:=.cells #[.int .i64 a0_0,.slice A0_1 l0_1.length c0_1] 30 (0,0)) (by (with_reducible repeat (first | refine zz6 ?_ _ | refine zz7 ?_ | refine zz8 ?_ _));exact BK438.out) hb);have n1_:=zz31 (zz4 (by repeat first | exact HB.out | apply zz2 | apply zz0 | apply zz1 | refine zz3 ?_ GE438.out) hb);clear BK438;clear HB;have BK438:=n0_;have HB:=n1_;clear n0_ n1_;(try clear hb);(try clear hb2);(try clear hk);(try clear hi);have hcz9_0:w8.cell? ⟨gb438,0,none⟩=some (.int .i64 a0_0):=(zz9 BK438.out 0).trans rfl;have hcz9_1:w8.cell? ⟨gb438,1,none⟩=some (.slice A0_1 l0_1.length c0_1):=(zz9 BK438.out 1).trans rfl;have hfz9_0:=zz10 BK438.out 0;have hfz9_1:=zz10 BK438.out 1) | ((with_reducible refine gate_callee (f:=30) rfl ?_);refine goesL_ (some 8) rfl rfl Tryd.func30 (by kernel_rfl) rfl #[.agg #[.int .i64 a0_0,.slice A0_1 l0_1.length c0_1]] rfl (by (try simp only [zz26,zz27,zz28]);first | done | rfl | (simp only [zz24,zz25];rfl)) ?_;(with_reducible refine (impl_Party_table.calls k a0_0 _ _ l0_1 t440 _ ?side1 ?side2 A4.out).mono ?_);(case side1=>repeat (first | exact (Kd.C_below HR0_1.out HB.out) | (with_reducible refine zz18 ?_ _) | (with_reducible refine zz19 ?_ _) | (with_reducible refine zz20 ?_)));(case side2=>exact HC0_1.out);rintro e w10 ⟨v441,rfl,ho0,hb⟩;refine ⟨_,rfl,?_⟩;have n0_:=zz31 (Kd.R_lower ho0 (zz5 (by repeat first | exact HB.out | apply zz2 | apply zz0 | apply zz1 | refine zz3 ?_ GE438.out)));have n1_:=zz31 (zz11 (g:=gb438) (o:=.cells #[.int .i64 a0_0,.slice A0_1 l0_1.length c0_1] 30 (0,0)) (by (with_reducible repeat (first | refine zz6 ?_ _ | refine zz7 ?_ | refine zz8 ?_ _));exact BK438.out) hb);have n2_:=zz31 (zz4 (by repeat first | exact HB.out | apply zz2 | apply zz0 | apply zz1 | refine zz3 ?_ GE438.out) hb);clear BK438;clear HB;have HO442:=n0_;have BK438:=n1_;have HB:=n2_;clear n0_ n1_ n2_;(try clear hb);(try clear hb2);(try clear hk);(try clear hi);(try clear ho0);obtain ⟨Ao11,co11,eo11⟩:=Kd.R_slice HO442.out;subst eo11) | ((with_reducible refine gate_callee (f:=38) rfl ?_);refine goesL_ (some 9) rfl rfl Tryd.func38 (by kernel_rfl) rfl #[.slice Ao11 t440.length co11] rfl (by (try simp only [zz26,zz27,zz28]);first | done | rfl | (simp only [zz24,zz25];rfl)) ?_;(with_reducible refine (impl_table_parts.calls k _ _ t440 t443 _ ?side1 ?side2 A5.out (HT.out.below (by repeat first | exact HB.out | apply zz2 | apply zz0 | apply zz1 | refine zz3 ?_ GE438.out))).mono ?_);(case side1=>repeat (first | exact (Kd.R_reads' HO442.out).2.2 | (with_reducible refine zz18 ?_ _) | (with_reducible refine zz19 ?_ _) | (with_reducible refine zz20 ?_)));(case side2=>exact (Kd.R_reads' HO442.out).2.1);rintro e w12 ⟨v444,rfl,ho0,hb⟩;refine ⟨_,rfl,?_⟩;have n0_:=zz31 (Kd.R_below (by (with_reducible repeat (first | apply zz12 | apply zz13 | apply zz14));exact HO442.out) hb);have n1_:=zz31 (Kd.S_lower ho0 (zz5 (by repeat first | exact HB.out | apply zz2 | apply zz0 | apply zz1 | refine zz3 ?_ GE438.out)));have n2_:=zz31 (zz11 (g:=gb438) (o:=.cells #[.int .i64 a0_0,.slice A0_1 l0_1.length c0_1] 30 (0,0)) (by (with_reducible repeat (first | refine zz6 ?_ _ | refine zz7 ?_ | refine zz8 ?_ _));exact BK438.out) hb);have n3_:=zz31 (zz4 (by repeat first | exact HB.out | apply zz2 | apply zz0 | apply zz1 | refine zz3 ?_ GE438.out) hb);clear HO442;clear BK438;clear HB;have HO442:=n0_;have HO445:=n1_;have BK438:=n2_;have HB:=n3_;clear n0_ n1_ n2_ n3_;(try clear hb);(try clear hb2);(try clear hk);(try clear hi);(try clear ho0)))
  go_ret2
  exact ⟨_,by first | rfl | (simp [errW_none,errW_some] <;> rfl) | (simp [*,errW_none,errW_some] <;> rfl),by (with_reducible repeat (first | apply zz15 | apply zz16 | apply zz17));exact HO445.out,by repeat first | exact HB.out | apply zz2 | apply zz0 | apply zz1 | refine zz3 ?_ GE438.out⟩
 ·replace c3:=Bool.eq_false_iff.mpr c3
  subst c3
  have H1:(some (([]:List (List Int)),false))=some (r1,r2):=by rw [if_neg (show ¬ (false=true) by decide)] at H;exact H
  clear H
  have H:=H1
  clear H1
  simp only [Option.some.injEq,Prod.mk.injEq] at H
  obtain ⟨rfl,rfl⟩:=H
  go_enter Tryd.func18,Tryd.ntmps18
  go_wp2_with (first | ((with_reducible refine gate_dst (N:=1) rfl ?_);refine box_event ?hg (N:=1) ?hd (cs:=#[.int .i64 a0_0,.slice A0_1 l0_1.length c0_1]) (t:=30) ?hr ?_;(case hd=>rfl);(case hg=>rfl);(case hr=>first | (go_simp;done) | (go_simp;rfl));intro gb438 hg w13 hbox hb;have n0_:=zz31 (zz4 (by repeat first | exact HB.out | apply zz2 | apply zz0 | apply zz1) hb);have n1_:=zz31 (hbox);have n2_:=zz31 ((by rw [hg];exact (zz5 (by repeat first | exact HB.out | apply zz2 | apply zz0 | apply zz1)):w.heap.size≤gb438));have n3_:=zz31 ((by rw [hg];exact (zz5 (by repeat first | exact HB.out | apply zz2 | apply zz0 | apply zz1)):w.heap.size≤gb438));clear HB;have HB:=n0_;have BK438:=n1_;have GW438:=n2_;have GE438:=n3_;clear n0_ n1_ n2_ n3_;clear hb hbox hg;have hcz14_0:w13.cell? ⟨gb438,0,none⟩=some (.int .i64 a0_0):=(zz9 BK438.out 0).trans rfl;have hcz14_1:w13.cell? ⟨gb438,1,none⟩=some (.slice A0_1 l0_1.length c0_1):=(zz9 BK438.out 1).trans rfl;have hfz14_0:=zz10 BK438.out 0;have hfz14_1:=zz10 BK438.out 1) | ((with_reducible refine gate_callee (f:=37) rfl ?_);refine goesL_ (some 5) rfl rfl Tryd.func37 (by kernel_rfl) rfl #[.agg #[.int .i64 a0_0,.slice A0_1 l0_1.length c0_1]] rfl (by (try simp only [zz26,zz27,zz28]);first | done | rfl | (simp only [zz24,zz25];rfl)) ?_;(with_reducible refine (impl_IsParty.calls k a0_0 _ _ l0_1 false _ ?side1 ?side2 A2.out).mono ?_);(case side1=>repeat (first | exact (Kd.C_below HR0_1.out HB.out) | (with_reducible refine zz18 ?_ _) | (with_reducible refine zz19 ?_ _) | (with_reducible refine zz20 ?_)));(case side2=>exact HC0_1.out);rintro e w15 ⟨rfl,hb⟩;refine ⟨_,rfl,?_⟩;have n0_:=zz31 (zz11 (g:=gb438) (o:=.cells #[.int .i64 a0_0,.slice A0_1 l0_1.length c0_1] 30 (0,0)) (by (with_reducible repeat (first | refine zz6 ?_ _ | refine zz7 ?_ | refine zz8 ?_ _));exact BK438.out) hb);have n1_:=zz31 (zz4 (by repeat first | exact HB.out | apply zz2 | apply zz0 | apply zz1 | refine zz3 ?_ GE438.out) hb);clear BK438;clear HB;have BK438:=n0_;have HB:=n1_;clear n0_ n1_;(try clear hb);(try clear hb2);(try clear hk);(try clear hi)))
  go_ret2
  exact ⟨_,by first | rfl | (simp [errW_none,errW_some] <;> rfl) | (simp [*,errW_none,errW_some] <;> rfl),by first | exact Kd.S_nil _ _ _ _ _ | exact Kd.N_nil _ _ _ _ _ | exact Kd.V_nil _ _ _ _ _ | exact Kd.Q_nil _ _ _ _ _ | exact Kd.R_nil _ _ _ _ _,by repeat first | exact HB.out | apply zz2 | apply zz0 | apply zz1 | refine zz3 ?_ GE438.out⟩

/-! ### laws_eqIntSS: function 19 -/
def laws_eqIntSS.l0:Nat→List (List Int)→List (List Int)→Int→Option (Bool)
 | 0,_,_,_=>none
 | k+1,x0,x1,x5=>if x5 < (x0.length:Int) then (if 0≤x5 then (if x5 < (x1.length:Int) then ((laws_eqIntS.f k (rd_L5 x0 x5) (rd_L5 x1 x5)).bind fun t448=>(if t448=true then (laws_eqIntSS.l0 k x0 x1 (wrap64 (x5+1))) else (some false))) else (none)) else (none)) else (some true)
def laws_eqIntSS.f (k:Nat) (l0:List (List Int)) (l1:List (List Int)):Option (Bool):=if (l0.length:Int)=(l1.length:Int) then (laws_eqIntSS.l0 k l0 l1 0) else (some false)
theorem laws_eqIntSS.mono_l:∀ k,(∀ y0 y1 y2,LeO (laws_eqIntSS.l0 k y0 y1 y2) (laws_eqIntSS.l0 (k+1) y0 y1 y2))
 | 0=>fun _ _ _ r h=>by simp [laws_eqIntSS.l0] at h
 | k+1=>by
  have ih0:=laws_eqIntSS.mono_l k
  ·intro y0 y1 y2
   unfold laws_eqIntSS.l0
   repeat' first
   | (with_reducible exact ih0 _ _ _)
   | (with_reducible exact laws_eqIntS.mono _ _ _)
   | (with_reducible exact LeO.refl _)
   | (with_reducible exact LeO.none _)
   | (with_reducible refine LeO.ite ?_ ?_)
   | (with_reducible refine LeO.bind ?_ (fun _=>?_))
   | exact ih0 _ _ _
   | exact laws_eqIntS.mono _ _ _
   | exact LeO.none _
   | refine LeO.ite ?_ ?_
   | refine LeO.bind ?_ (fun _=>?_)
theorem laws_eqIntSS.mono:∀ a0 a1 k,LeO (laws_eqIntSS.f k a0 a1) (laws_eqIntSS.f (k+1) a0 a1):=by
 intro a0 a1 k
 have ih0:=laws_eqIntSS.mono_l k
 unfold laws_eqIntSS.f
 repeat' first
   | (with_reducible exact ih0 _ _ _)
   | (with_reducible exact laws_eqIntS.mono _ _ _)
   | (with_reducible exact LeO.refl _)
   | (with_reducible exact LeO.none _)
   | (with_reducible refine LeO.ite ?_ ?_)
   | (with_reducible refine LeO.bind ?_ (fun _=>?_))
   | exact ih0 _ _ _
   | exact laws_eqIntS.mono _ _ _
   | exact LeO.none _
   | refine LeO.ite ?_ ?_
   | refine LeO.bind ?_ (fun _=>?_)
set_option maxHeartbeats 8000000 in
set_option maxRecDepth 100000 in
theorem laws_eqIntSS.calls (k:Nat) (A0:Option Addr) (c0:Nat) (l0:List (List Int)) (A1:Option Addr) (c1:Nat) (l1:List (List Int)) (r:Bool) (w:World) (hr0:Kd.C (Kd.slice 3 (Kd.int .i64)) w A0 l0.length l0) (hc0:l0.length≤c0) (hr1:Kd.C (Kd.slice 3 (Kd.int .i64)) w A1 l1.length l1) (hc1:l1.length≤c1) (h:laws_eqIntSS.f k l0 l1=some r) :
  Calls Tryd.prog 19 #[.slice A0 l0.length c0,.slice A1 l1.length c1] w fun e w'=>e=.returned (.bool r)∧Drawn0 w w':=by
 have HR0:=zz31 hr0
 have HC0:=zz31 hc0
 clear hr0 hc0
 have HR1:=zz31 hr1
 have HC1:=zz31 hc1
 clear hr1 hc1
 have H:(if (l0.length:Int)=(l1.length:Int) then (laws_eqIntSS.l0 k l0 l1 0) else (some false))=some r:=h
 clear h
 by_cases c3:(l0.length:Int)=(l1.length:Int)
 ·rw [if_pos c3] at H
  have c3b0:((l0.length:Int) == (l1.length:Int))=true:=beq_iff_eq.mpr c3
  have c3b1:((l0.length:Int) != (l1.length:Int))=false:=bne_eq_false_iff_eq.mpr c3
  have c3b2:(l0.length == l1.length)=true:=by first | simpa using c3 | (simp at c3 ⊢;omega)
  clear c3
  have H':=zz31 H
  clear H
  go_enter Tryd.func19,Tryd.ntmps19
  go_wp2
  repeat (go_quiet (fail);try go_wp2)
  go_loopg [5] k (fun kq v5 w'=>∃ (x5_1:Int),v5=.int .i64 x5_1∧Aside0 (laws_eqIntSS.l0 kq l0 l1 x5_1=some r)∧Aside0 (kq≤k)∧Drawn0 w w')
  case atStart=>exact ⟨(0),(by first | rfl | (simp;done) | (simp [*];done)),H',⟨Nat.le_refl _⟩,by repeat (first | exact Drawn0.refl _ | apply Drawn0.step)⟩
  case round =>
   clear H'
   try clear c1
   try clear p2
   try clear c3
   try clear c3b0
   try clear c3b1
   try clear c3b2
   obtain ⟨x5_1,rfl,HA,HK1,⟨m1,rfl⟩⟩:=hrel
   cases gk with
   | zero=>exact absurd HA.out (by simp [laws_eqIntSS.l0])
   | succ k1 =>
    have H:=HA.out
    clear HA
    simp only [laws_eqIntSS.l0] at H
    by_cases c4:x5_1 < (l0.length:Int)
    ·rw [if_pos c4] at H
     have c4b0:decide (x5_1 < (l0.length:Int))=true:=decide_eq_true c4
     clear c4
     by_cases c5:0≤x5_1
     ·rw [if_pos c5] at H
      have c5b0:decide (0≤x5_1)=true:=decide_eq_true c5
      clear c5
      by_cases c6:x5_1 < (l1.length:Int)
      ·rw [if_pos c6] at H
       have c6b0:decide (x5_1 < (l1.length:Int))=true:=decide_eq_true c6
       clear c6
       replace H:=zz30.mp H
       obtain ⟨t448,A70,H⟩:=H
       replace H:(if t448=true then (laws_eqIntSS.l0 k1 l0 l1 (wrap64 (x5_1+1))) else (some false))=some r:=H
       have A7:=zz31 A70
       clear A70
       by_cases c8:t448=true
       ·subst c8
        have H1:(laws_eqIntSS.l0 k1 l0 l1 (wrap64 (x5_1+1)))=some r:=by rw [if_pos rfl] at H;exact H
        clear H
        have H:=H1
        clear H1
        have H':=zz31 H
        clear H
        have p446:0≤(x5_1:Int):=zz29 (by first | (with_reducible assumption) | assumption)
        have q446:x5_1 < (l0.length:Int):=zz29 (by first | (with_reducible assumption) | assumption)
        obtain ⟨ad446,A446_0,c446_0,e446,hx446_0,hl446_0,hi446_0⟩:=at_L5 HR0.out x5_1 p446 q446
        cases e446
        have HR446_0:=zz31 hi446_0
        have HC446_0:=zz31 hl446_0
        clear hi446_0 hl446_0
        replace p446:=eq_true p446
        replace q446:=eq_true q446
        have p447:0≤(x5_1:Int):=zz29 (by first | (with_reducible assumption) | assumption)
        have q447:x5_1 < (l1.length:Int):=zz29 (by first | (with_reducible assumption) | assumption)
        obtain ⟨ad447,A447_0,c447_0,e447,hx447_0,hl447_0,hi447_0⟩:=at_L5 HR1.out x5_1 p447 q447
        cases e447
        have HR447_0:=zz31 hi447_0
        have HC447_0:=zz31 hl447_0
        clear hi447_0 hl447_0
        replace p447:=eq_true p447
        replace q447:=eq_true q447
        go_wp2_with (first | (go_at_call 13;(with_reducible refine (laws_eqIntS.calls k1 _ _ (rd_L5 l0 x5_1) _ _ (rd_L5 l1 x5_1) true _ ?side1 ?side2 ?side3 ?side4 A7.out).mono ?_);(case side1=>repeat (first | exact HR446_0.out | (with_reducible refine zz18 ?_ _) | (with_reducible refine zz19 ?_ _) | (with_reducible refine zz20 ?_)));(case side2=>exact HC446_0.out);(case side3=>repeat (first | exact HR447_0.out | (with_reducible refine zz18 ?_ _) | (with_reducible refine zz19 ?_ _) | (with_reducible refine zz20 ?_)));(case side4=>exact HC447_0.out);rintro e w' ⟨rfl,⟨nd,rfl⟩⟩;(try first | exact ⟨rfl,_,World.drewN_drewN _ _ _⟩ | exact ⟨rfl,_,Eq.trans (World.drewN_drewN _ _ _) (congrArg (World.drewN _) (Nat.add_assoc _ _ _))⟩)))
        repeat (go_quiet (first | (go_at_call 13;(with_reducible refine (laws_eqIntS.calls k1 _ _ (rd_L5 l0 x5_1) _ _ (rd_L5 l1 x5_1) true _ ?side1 ?side2 ?side3 ?side4 A7.out).mono ?_);(case side1=>repeat (first | exact HR446_0.out | (with_reducible refine zz18 ?_ _) | (with_reducible refine zz19 ?_ _) | (with_reducible refine zz20 ?_)));(case side2=>exact HC446_0.out);(case side3=>repeat (first | exact HR447_0.out | (with_reducible refine zz18 ?_ _) | (with_reducible refine zz19 ?_ _) | (with_reducible refine zz20 ?_)));(case side4=>exact HC447_0.out);rintro e w' ⟨rfl,⟨nd,rfl⟩⟩;(try first | exact ⟨rfl,_,World.drewN_drewN _ _ _⟩ | exact ⟨rfl,_,Eq.trans (World.drewN_drewN _ _ _) (congrArg (World.drewN _) (Nat.add_assoc _ _ _))⟩)));try go_wp2_with (first | (go_at_call 13;(with_reducible refine (laws_eqIntS.calls k1 _ _ (rd_L5 l0 x5_1) _ _ (rd_L5 l1 x5_1) true _ ?side1 ?side2 ?side3 ?side4 A7.out).mono ?_);(case side1=>repeat (first | exact HR446_0.out | (with_reducible refine zz18 ?_ _) | (with_reducible refine zz19 ?_ _) | (with_reducible refine zz20 ?_)));(case side2=>exact HC446_0.out);(case side3=>repeat (first | exact HR447_0.out | (with_reducible refine zz18 ?_ _) | (with_reducible refine zz19 ?_ _) | (with_reducible refine zz20 ?_)));(case side4=>exact HC447_0.out);rintro e w' ⟨rfl,⟨nd,rfl⟩⟩;(try first | exact ⟨rfl,_,World.drewN_drewN _ _ _⟩ | exact ⟨rfl,_,Eq.trans (World.drewN_drewN _ _ _) (congrArg (World.drewN _) (Nat.add_assoc _ _ _))⟩))))
        go_roundg k1
        case measure=>have:=HK1.out;omega
        case rel=>exact ⟨(wrap64 (x5_1+1)),(by first | rfl | (simp;done) | (simp [*];done)),H',⟨by have:=HK1.out;omega⟩,by repeat (first | exact Drawn0.refl _ | apply Drawn0.step)⟩
       ·replace c8:=Bool.eq_false_iff.mpr c8
        subst c8
        have H1:(some false)=some r:=by rw [if_neg (show ¬ (false=true) by decide)] at H;exact H
        clear H
        have H:=H1
        clear H1
        obtain rfl:=Option.some.inj H
        have p446:0≤(x5_1:Int):=zz29 (by first | (with_reducible assumption) | assumption)
        have q446:x5_1 < (l0.length:Int):=zz29 (by first | (with_reducible assumption) | assumption)
        obtain ⟨ad446,A446_0,c446_0,e446,hx446_0,hl446_0,hi446_0⟩:=at_L5 HR0.out x5_1 p446 q446
        cases e446
        have HR446_0:=zz31 hi446_0
        have HC446_0:=zz31 hl446_0
        clear hi446_0 hl446_0
        replace p446:=eq_true p446
        replace q446:=eq_true q446
        have p447:0≤(x5_1:Int):=zz29 (by first | (with_reducible assumption) | assumption)
        have q447:x5_1 < (l1.length:Int):=zz29 (by first | (with_reducible assumption) | assumption)
        obtain ⟨ad447,A447_0,c447_0,e447,hx447_0,hl447_0,hi447_0⟩:=at_L5 HR1.out x5_1 p447 q447
        cases e447
        have HR447_0:=zz31 hi447_0
        have HC447_0:=zz31 hl447_0
        clear hi447_0 hl447_0
        replace p447:=eq_true p447
        replace q447:=eq_true q447
        go_wp2_with (first | (go_at_call 13;(with_reducible refine (laws_eqIntS.calls k1 _ _ (rd_L5 l0 x5_1) _ _ (rd_L5 l1 x5_1) false _ ?side1 ?side2 ?side3 ?side4 A7.out).mono ?_);(case side1=>repeat (first | exact HR446_0.out | (with_reducible refine zz18 ?_ _) | (with_reducible refine zz19 ?_ _) | (with_reducible refine zz20 ?_)));(case side2=>exact HC446_0.out);(case side3=>repeat (first | exact HR447_0.out | (with_reducible refine zz18 ?_ _) | (with_reducible refine zz19 ?_ _) | (with_reducible refine zz20 ?_)));(case side4=>exact HC447_0.out);rintro e w' ⟨rfl,⟨nd,rfl⟩⟩;(try first | exact ⟨rfl,_,World.drewN_drewN _ _ _⟩ | exact ⟨rfl,_,Eq.trans (World.drewN_drewN _ _ _) (congrArg (World.drewN _) (Nat.add_assoc _ _ _))⟩)))
        repeat (go_quiet (first | (go_at_call 13;(with_reducible refine (laws_eqIntS.calls k1 _ _ (rd_L5 l0 x5_1) _ _ (rd_L5 l1 x5_1) false _ ?side1 ?side2 ?side3 ?side4 A7.out).mono ?_);(case side1=>repeat (first | exact HR446_0.out | (with_reducible refine zz18 ?_ _) | (with_reducible refine zz19 ?_ _) | (with_reducible refine zz20 ?_)));(case side2=>exact HC446_0.out);(case side3=>repeat (first | exact HR447_0.out | (with_reducible refine zz18 ?_ _) | (with_reducible refine zz19 ?_ _) | (with_reducible refine zz20 ?_)));(case side4=>exact HC447_0.out);rintro e w' ⟨rfl,⟨nd,rfl⟩⟩;(try first | exact ⟨rfl,_,World.drewN_drewN _ _ _⟩ | exact ⟨rfl,_,Eq.trans (World.drewN_drewN _ _ _) (congrArg (World.drewN _) (Nat.add_assoc _ _ _))⟩)));try go_wp2_with (first | (go_at_call 13;(with_reducible refine (laws_eqIntS.calls k1 _ _ (rd_L5 l0 x5_1) _ _ (rd_L5 l1 x5_1) false _ ?side1 ?side2 ?side3 ?side4 A7.out).mono ?_);(case side1=>repeat (first | exact HR446_0.out | (with_reducible refine zz18 ?_ _) | (with_reducible refine zz19 ?_ _) | (with_reducible refine zz20 ?_)));(case side2=>exact HC446_0.out);(case side3=>repeat (first | exact HR447_0.out | (with_reducible refine zz18 ?_ _) | (with_reducible refine zz19 ?_ _) | (with_reducible refine zz20 ?_)));(case side4=>exact HC447_0.out);rintro e w' ⟨rfl,⟨nd,rfl⟩⟩;(try first | exact ⟨rfl,_,World.drewN_drewN _ _ _⟩ | exact ⟨rfl,_,Eq.trans (World.drewN_drewN _ _ _) (congrArg (World.drewN _) (Nat.add_assoc _ _ _))⟩))))
        go_ret
        exact ⟨by first | rfl | (simp;done) | (simp [*];done),by repeat (first | exact Drawn0.refl _ | apply Drawn0.step)⟩
      ·rw [if_neg c6] at H
       exact absurd H (by simp)
     ·rw [if_neg c5] at H
      exact absurd H (by simp)
    ·rw [if_neg c4] at H
     have c4b0:decide (x5_1 < (l0.length:Int))=false:=decide_eq_false c4
     clear c4
     obtain rfl:=Option.some.inj H
     go_wp2
     repeat (go_quiet (fail);try go_wp2)
     go_ret
     exact ⟨by first | rfl | (simp;done) | (simp [*];done),by repeat (first | exact Drawn0.refl _ | apply Drawn0.step)⟩
 ·rw [if_neg c3] at H
  have c3b0:((l0.length:Int) == (l1.length:Int))=false:=beq_eq_false_iff_ne.mpr c3
  have c3b1:((l0.length:Int) != (l1.length:Int))=true:=bne_iff_ne.mpr c3
  have c3b2:(l0.length == l1.length)=false:=by first | simpa using c3 | (simp at c3 ⊢;omega)
  obtain rfl:=Option.some.inj H
  go_enter Tryd.func19,Tryd.ntmps19
  go_wp2
  repeat (go_quiet (fail);try go_wp2)
  go_ret
  exact ⟨by first | rfl | (simp;done) | (simp [*];done),by repeat (first | exact Drawn0.refl _ | apply Drawn0.step)⟩

/-! ### laws_markIntSS: function 20 (a contract of our own) -/
def laws_markIntSS.go (k:Nat):List (List Int)→Int→Option (Int × List (List Int))
 | [],a=>some (a,[])
 | x :: xs,a=>(laws_markIntS.f k x a).bind fun p=>(laws_markIntSS.go k xs p.1).bind fun q=>some (q.1,p.2 :: q.2)
def laws_markIntSS.f (k:Nat) (l0:List (List Int)) (a1:Int):Option (Int × List (List Int)):=if l0.length≤1000000000 then laws_markIntSS.go k l0 a1 else none
theorem laws_markIntSS.mono_go:∀ (l0:List (List Int)) (a:Int) (k:Nat),LeO (laws_markIntSS.go k l0 a) (laws_markIntSS.go (k+1) l0 a)
 | [],a,k=>LeO.refl _
 | x :: xs,a,k=>LeO.bind (laws_markIntS.mono _ _ _) fun p=>LeO.bind (laws_markIntSS.mono_go xs p.1 k) fun q=>LeO.refl _
theorem laws_markIntSS.mono:∀ a0 a1 k,LeO (laws_markIntSS.f k a0 a1) (laws_markIntSS.f (k+1) a0 a1):=by
 intro a0 a1 k
 unfold laws_markIntSS.f
 exact LeO.ite (laws_markIntSS.mono_go _ _ _) (LeO.none _)
theorem grown_of_kept {w0 w w':World} {base:Nat} {row:Option Nat} (h1:Below base w0 w) (h2:Below base w0 w') (hk:Kept w w' (fun k=>some k=row)):w.grownBy w' row :=
 ⟨h2.os.trans h1.os.symm,h2.tape.trans h1.tape.symm,h2.output.trans h1.output.symm,hk.1,fun k hk1 hk2=>hk.2 k hk1 hk2⟩
set_option maxHeartbeats 1000000 in
theorem laws_markIntSS.calls (k:Nat) (P0_:Nat→Prop) (u9000_:Value) (l0:List (List Int)) (a1:Int) (r1:Int) (r2:List (List Int)) (w0 w:World) (hB:Below w0.heap.size w0 w) (ho0:Kd.S (Kd.slice 3 (Kd.int .i64)) 34 w w0.heap.size P0_ u9000_ l0) (h:laws_markIntSS.f k l0 a1=some (r1,r2)) :
  Calls Tryd.prog 20 #[u9000_,.int .i64 a1] w fun e w'=>e=.returned (.int .i64 r1)∧Kd.S (Kd.slice 3 (Kd.int .i64)) 34 w' w0.heap.size (fun k_=>(P0_ k_ ∨ w.heap.size≤k_)) u9000_ r2∧Below w0.heap.size w0 w'∧Kept w w' (fun k_=>P0_ k_):=by
 unfold laws_markIntSS.f at h
 by_cases hl:l0.length≤1000000000
 case neg=>rw [if_neg hl] at h;exact absurd h (by simp)
 rw [if_pos hl] at h
 obtain ⟨A,c,rfl⟩:=Kd.S_slice ho0
 have HO:=zz31 (Kd.S_mono ho0 (fun k_ hk=>(.inl hk:P0_ k_ ∨ w.heap.size≤k_)))
 have HB:=zz31 hB
 have HH:=zz31 h
 clear ho0 hB h
 go_enter Tryd.func20,Tryd.ntmps20
 go_wp2
 go_loopg [1,5] l0.length (fun gg v1 v5 wr=>∃ (i:Nat) (L:List (List Int)) (a:Int) (rest:List (List Int)),i≤l0.length∧l0.length - i≤gg∧L.length=l0.length∧v5=.int .i64 i∧v1=.int .i64 a∧Aside0 (laws_markIntSS.go k (L.drop i) a=some (r1,rest))∧Aside0 (r2=L.take i ++ rest)∧Aside0 (Kd.S (Kd.slice 3 (Kd.int .i64)) 34 wr w0.heap.size (fun k_=>(P0_ k_ ∨ w.heap.size≤k_)) (.slice A l0.length c) L)∧Aside0 (Below w0.heap.size w0 wr)∧Aside0 (Kept w wr (fun k_=>P0_ k_)))
 case atStart=>exact ⟨0,l0,a1,r2,by omega,by omega,rfl,by rfl,by rfl,HH,⟨by simp⟩,HO,HB,⟨Kept.refl w _⟩⟩
 case round =>
  obtain ⟨i,L,a,rest,hi,hgg,hLl,rfl,rfl,HG,HR2,HS,HBr,HK⟩:=hrel
  by_cases hlt:i < l0.length
  ·have hltz:(i:Int) < (l0.length:Int):=by omega
   have hdrop:L.drop i=L[i] :: L.drop (i+1):=List.drop_eq_getElem_cons (by omega)
   have hg:=HG.out
   rw [hdrop,laws_markIntSS.go] at hg
   obtain ⟨⟨p1,p2⟩,hp,hg⟩:=zz30.1 hg
   obtain ⟨⟨q1,q2⟩,hq,hg⟩:=zz30.1 hg
   simp only [Option.some.injEq,Prod.mk.injEq] at hg
   obtain ⟨e1,e2⟩:=hg
   subst e1 e2
   have hS:=HS.out
   have hAp:∃ ad,A=some ad:=by
    obtain ⟨g,cap,he,_⟩:=Kd.S_form hS (by omega)
    injection he with he1 _ _
    exact ⟨_,he1⟩
   obtain ⟨ad,rfl⟩:=hAp
   obtain ⟨oki,cc,hcl,hM,hcc,hoki,hback⟩:=Kd.S_borrow hS [] (i:Int) (by omega) (by omega)
   obtain ⟨v,rfl,hR⟩:=hM
   have hcell:=hcc 0 v rfl
   have hget:L.getD (i:Int).toNat []=L[i]:=by rw [Int.toNat_natCast,List.getD_eq_getElem?_getD,List.getElem?_eq_getElem (by omega)];rfl
   rw [hget] at hR
   have hsz:((i:Int).toNat * (Kd.slice 3 (Kd.int .i64)).sz+0)=i:=by rw [Int.toNat_natCast];show i * 1+0=i;omega
   rw [hsz] at hcell
   have hin:∀ k,v.ownBlock=some k→P0_ k ∨ w.heap.size≤k:=fun k hk=>(hoki k (hR.1 k hk)).1
   have hkw:=HK.out
   have hP:=zz31 ((laws_markIntS.calls k (fun k=>some k=v.ownBlock) v L[i] a p1 p2 w0 wr HBr.out (Kd.R_tight rfl hR) hp).mono (R':=fun e w'=>e=.returned (.int .i64 p1)∧Aside0 (Kd.S (Kd.slice 3 (Kd.int .i64)) 34 w' w0.heap.size (fun k_=>(P0_ k_ ∨ w.heap.size≤k_)) (.slice (some ad) l0.length c) (L.set i p2))∧Aside0 (Below w0.heap.size w0 w')∧Aside0 (Kept w w' (fun k_=>P0_ k_))) fun e w' ⟨h1,h2,h3,h4⟩=>by
    have hk4:Kept wr w' (fun k=>some k=v.ownBlock):=h4
    have hb:=hback (grown_of_kept HBr.out h3 hk4) (fun k hk=>hR.1 k hk) ⟨v,rfl,Kd.R_mono (Kd.R_tight rfl h2) (fun k hk=>hR.1 k hk.symm)⟩
    rw [Int.toNat_natCast] at hb
    refine ⟨h1,⟨hb⟩,⟨h3⟩,⟨Nat.le_trans hkw.1 hk4.1,fun j hj hn=>?_⟩⟩
    rw [hk4.2 j (Nat.lt_of_lt_of_le hj hkw.1) (fun he=>(hin j he.symm).elim hn (fun h=>by omega)),hkw.2 j hj hn])
   have HQ:=zz31 hq
   have HI:=zz31 (show L.take i ++ p2 :: q2=(L.set i p2).take (i+1) ++ q2 from by
    rw [List.take_succ_eq_append_getElem (by rw [List.length_set];omega),List.getElem_set_self,List.take_set_of_le (Nat.le_refl _),List.append_assoc,List.singleton_append])
   have HD:=zz31 (show (L.set i p2).drop (i+1)=L.drop (i+1) from List.drop_set_of_lt (by omega))
   have HLs:=zz31 (show (L.set i p2).length=l0.length from by rw [List.length_set];exact hLl)
   clear hq hp hg hback hR hcc hoki hin hkw hS hget HS HBr HK HG
   go_wp2_with (go_at_call 15;refine hP.out.mono ?_;rintro e w' ⟨rfl,hS2,hB2,hK2⟩)
   go_roundg (l0.length - (i+1))
   case measure=>omega
   case rel=>exact ⟨i+1,L.set i p2,p1,q2,by omega,by omega,HLs.out,by go_num,by rfl,⟨by rw [HD.out];exact HQ.out⟩,⟨by rw [HR2.out,HI.out]⟩,hS2,hB2,hK2⟩
  ·have hltz:¬ (i:Int) < (l0.length:Int):=by omega
   obtain rfl:i=l0.length:=by omega
   go_wp2
   go_ret
   have hg:=HG.out
   rw [List.drop_of_length_le (by omega),laws_markIntSS.go] at hg
   simp only [Option.some.injEq,Prod.mk.injEq] at hg
   obtain ⟨e1,e2⟩:=hg
   subst e1 e2
   refine ⟨rfl,?_,HBr.out,HK.out⟩
   rw [HR2.out,List.append_nil,List.take_of_length_le (by omega)]
   exact HS.out

/-! ### laws_heldIntSS: function 21 -/
def laws_heldIntSS.l0:Nat→List (List Int)→Int→Int→Option (Int)
 | 0,_,_,_=>none
 | k+1,x0,x1,x5=>if x5 < (x0.length:Int) then (if 0≤x5 then ((laws_heldIntS.f k (rd_L5 x0 x5) x1).bind fun t450=>(if t450 < 0 then (some (-1)) else (laws_heldIntSS.l0 k x0 t450 (wrap64 (x5+1))))) else (none)) else (some x1)
def laws_heldIntSS.f (k:Nat) (l0:List (List Int)) (a1:Int):Option (Int):=laws_heldIntSS.l0 k l0 a1 0
theorem laws_heldIntSS.mono_l:∀ k,(∀ y0 y1 y2,LeO (laws_heldIntSS.l0 k y0 y1 y2) (laws_heldIntSS.l0 (k+1) y0 y1 y2))
 | 0=>fun _ _ _ r h=>by simp [laws_heldIntSS.l0] at h
 | k+1=>by
  have ih0:=laws_heldIntSS.mono_l k
  ·intro y0 y1 y2
   unfold laws_heldIntSS.l0
   repeat' first
   | (with_reducible exact ih0 _ _ _)
   | (with_reducible exact laws_heldIntS.mono _ _ _)
   | (with_reducible exact LeO.refl _)
   | (with_reducible exact LeO.none _)
   | (with_reducible refine LeO.ite ?_ ?_)
   | (with_reducible refine LeO.bind ?_ (fun _=>?_))
   | exact ih0 _ _ _
   | exact laws_heldIntS.mono _ _ _
   | exact LeO.none _
   | refine LeO.ite ?_ ?_
   | refine LeO.bind ?_ (fun _=>?_)
theorem laws_heldIntSS.mono:∀ a0 a1 k,LeO (laws_heldIntSS.f k a0 a1) (laws_heldIntSS.f (k+1) a0 a1):=by
 intro a0 a1 k
 have ih0:=laws_heldIntSS.mono_l k
 unfold laws_heldIntSS.f
 repeat' first
   | (with_reducible exact ih0 _ _ _)
   | (with_reducible exact laws_heldIntS.mono _ _ _)
   | (with_reducible exact LeO.refl _)
   | (with_reducible exact LeO.none _)
   | (with_reducible refine LeO.ite ?_ ?_)
   | (with_reducible refine LeO.bind ?_ (fun _=>?_))
   | exact ih0 _ _ _
   | exact laws_heldIntS.mono _ _ _
   | exact LeO.none _
   | refine LeO.ite ?_ ?_
   | refine LeO.bind ?_ (fun _=>?_)
set_option maxHeartbeats 8000000 in
set_option maxRecDepth 100000 in
theorem laws_heldIntSS.calls (k:Nat) (A0:Option Addr) (c0:Nat) (l0:List (List Int)) (a1:Int) (r:Int) (w:World) (hr0:Kd.C (Kd.slice 3 (Kd.int .i64)) w A0 l0.length l0) (hc0:l0.length≤c0) (h:laws_heldIntSS.f k l0 a1=some r) :
  Calls Tryd.prog 21 #[.slice A0 l0.length c0,.int .i64 a1] w fun e w'=>e=.returned (.int .i64 r)∧Drawn0 w w':=by
 have HR0:=zz31 hr0
 have HC0:=zz31 hc0
 clear hr0 hc0
 have H:(laws_heldIntSS.l0 k l0 a1 0)=some r:=h
 clear h
 have H':=zz31 H
 clear H
 go_enter Tryd.func21,Tryd.ntmps21
 go_wp2
 go_loopg [1,5] k (fun kq v1 v5 w'=>∃ (x1_1:Int) (x5_1:Int),v1=.int .i64 x1_1∧v5=.int .i64 x5_1∧Aside0 (laws_heldIntSS.l0 kq l0 x1_1 x5_1=some r)∧Aside0 (kq≤k)∧Drawn0 w w')
 case atStart=>exact ⟨(a1),(0),(by first | rfl | (simp;done) | (simp [*];done)),(by first | rfl | (simp;done) | (simp [*];done)),H',⟨Nat.le_refl _⟩,by repeat (first | exact Drawn0.refl _ | apply Drawn0.step)⟩
 case round =>
  clear H'
  try clear c2
  try clear p2
  obtain ⟨x1_1,x5_1,rfl,rfl,HA,HK1,⟨m1,rfl⟩⟩:=hrel
  cases gk with
  | zero=>exact absurd HA.out (by simp [laws_heldIntSS.l0])
  | succ k1 =>
   have H:=HA.out
   clear HA
   simp only [laws_heldIntSS.l0] at H
   by_cases c3:x5_1 < (l0.length:Int)
   ·rw [if_pos c3] at H
    have c3b0:decide (x5_1 < (l0.length:Int))=true:=decide_eq_true c3
    clear c3
    by_cases c4:0≤x5_1
    ·rw [if_pos c4] at H
     have c4b0:decide (0≤x5_1)=true:=decide_eq_true c4
     clear c4
     replace H:=zz30.mp H
     obtain ⟨t450,A50,H⟩:=H
     replace H:(if t450 < 0 then (some (-1)) else (laws_heldIntSS.l0 k1 l0 t450 (wrap64 (x5_1+1))))=some r:=H
     have A5:=zz31 A50
     clear A50
     by_cases c6:t450 < 0
     ·rw [if_pos c6] at H
      have c6b0:decide (t450 < 0)=true:=decide_eq_true c6
      clear c6
      obtain rfl:=Option.some.inj H
      have p449:0≤(x5_1:Int):=zz29 (by first | (with_reducible assumption) | assumption)
      have q449:x5_1 < (l0.length:Int):=zz29 (by first | (with_reducible assumption) | assumption)
      obtain ⟨ad449,A449_0,c449_0,e449,hx449_0,hl449_0,hi449_0⟩:=at_L5 HR0.out x5_1 p449 q449
      cases e449
      have HR449_0:=zz31 hi449_0
      have HC449_0:=zz31 hl449_0
      clear hi449_0 hl449_0
      replace p449:=eq_true p449
      replace q449:=eq_true q449
      go_wp2_with (first | ((with_reducible refine gate_callee (f:=16) rfl ?_);refine goesL_ (some 17) rfl rfl Tryd.func16 (by kernel_rfl) rfl #[.slice A449_0 (rd_L5 l0 x5_1).length c449_0,.int .i64 x1_1] rfl (by (try simp only [zz26,zz27,zz28]);first | done | rfl | (simp only [zz24,zz25];rfl)) ?_;(with_reducible refine (laws_heldIntS.calls k1 _ _ (rd_L5 l0 x5_1) x1_1 t450 _ ?side1 ?side2 A5.out).mono ?_);(case side1=>repeat (first | exact HR449_0.out | (with_reducible refine zz18 ?_ _) | (with_reducible refine zz19 ?_ _) | (with_reducible refine zz20 ?_)));(case side2=>exact HC449_0.out);rintro e w' ⟨rfl,⟨nd,rfl⟩⟩;refine ⟨_,rfl,?_⟩))
      go_ret
      exact ⟨by first | rfl | (simp;done) | (simp [*];done),by repeat (first | exact Drawn0.refl _ | apply Drawn0.step)⟩
     ·rw [if_neg c6] at H
      have c6b0:decide (t450 < 0)=false:=decide_eq_false c6
      clear c6
      have H':=zz31 H
      clear H
      have p449:0≤(x5_1:Int):=zz29 (by first | (with_reducible assumption) | assumption)
      have q449:x5_1 < (l0.length:Int):=zz29 (by first | (with_reducible assumption) | assumption)
      obtain ⟨ad449,A449_0,c449_0,e449,hx449_0,hl449_0,hi449_0⟩:=at_L5 HR0.out x5_1 p449 q449
      cases e449
      have HR449_0:=zz31 hi449_0
      have HC449_0:=zz31 hl449_0
      clear hi449_0 hl449_0
      replace p449:=eq_true p449
      replace q449:=eq_true q449
      go_wp2_with (first | ((with_reducible refine gate_callee (f:=16) rfl ?_);refine goesL_ (some 17) rfl rfl Tryd.func16 (by kernel_rfl) rfl #[.slice A449_0 (rd_L5 l0 x5_1).length c449_0,.int .i64 x1_1] rfl (by (try simp only [zz26,zz27,zz28]);first | done | rfl | (simp only [zz24,zz25];rfl)) ?_;(with_reducible refine (laws_heldIntS.calls k1 _ _ (rd_L5 l0 x5_1) x1_1 t450 _ ?side1 ?side2 A5.out).mono ?_);(case side1=>repeat (first | exact HR449_0.out | (with_reducible refine zz18 ?_ _) | (with_reducible refine zz19 ?_ _) | (with_reducible refine zz20 ?_)));(case side2=>exact HC449_0.out);rintro e w' ⟨rfl,⟨nd,rfl⟩⟩;refine ⟨_,rfl,?_⟩))
      go_roundg k1
      case measure=>have:=HK1.out;omega
      case rel=>exact ⟨(t450),(wrap64 (x5_1+1)),(by first | rfl | (simp;done) | (simp [*];done)),(by first | rfl | (simp;done) | (simp [*];done)),H',⟨by have:=HK1.out;omega⟩,by repeat (first | exact Drawn0.refl _ | apply Drawn0.step)⟩
    ·rw [if_neg c4] at H
     exact absurd H (by simp)
   ·rw [if_neg c3] at H
    have c3b0:decide (x5_1 < (l0.length:Int))=false:=decide_eq_false c3
    clear c3
    obtain rfl:=Option.some.inj H
    go_wp2
    go_ret
    exact ⟨by first | rfl | (simp;done) | (simp [*];done),by repeat (first | exact Drawn0.refl _ | apply Drawn0.step)⟩

/-! ### laws_FnExactPartsOfParty: function 5 (a contract of our own) -/
def laws_FnExactPartsOfParty.f (k:Nat) (a0_0:Int) (l0_1:List (S75)):Option Bool :=
 (laws_szParty.f a0_0 l0_1 1048576).bind fun s=>if s < 0 then some true else
 (laws_toParty.f k a0_0 l0_1).bind fun p=>(spec_PartsOfParty.f k p.1 p.2).bind fun W=>(impl_PartsOfParty.f k p.1 p.2).bind fun G=>(laws_eqIntSS.f k G.1 W.1).bind fun e1=>(laws_eqParty.f k p.1 p.2 p.1 p.2).bind fun e2=>(laws_markParty.f k p.1 p.2 1).bind fun mp=>(laws_markIntSS.f k G.1 1).bind fun m=>(laws_heldIntSS.f k m.2 1).bind fun q =>
 if (e1=true∧G.2=W.2∧e2=true)∧0≤mp.1∧0≤q∧q=m.1 then some true else none
theorem laws_FnExactPartsOfParty.mono:∀ a0 a1 k,LeO (laws_FnExactPartsOfParty.f k a0 a1) (laws_FnExactPartsOfParty.f (k+1) a0 a1):=by
 intro a0 a1 k
 unfold laws_FnExactPartsOfParty.f
 exact LeO.bind (LeO.refl _) fun s=>LeO.ite (LeO.refl _) (LeO.bind (laws_toParty.mono _ _ _) fun p=>LeO.bind (spec_PartsOfParty.mono _ _ _) fun W=>LeO.bind (impl_PartsOfParty.mono _ _ _) fun G=>LeO.bind (laws_eqIntSS.mono _ _ _) fun e1=>LeO.bind (laws_eqParty.mono _ _ _ _ _) fun e2=>LeO.bind (laws_markParty.mono _ _ _ _) fun mp=>LeO.bind (laws_markIntSS.mono _ _ _) fun m=>LeO.bind (laws_heldIntSS.mono _ _ _) fun q=>LeO.refl _)
set_option maxHeartbeats 2000000 in
set_option maxRecDepth 100000 in
theorem laws_FnExactPartsOfParty.calls (k:Nat) (a0_0:Int) (A0_1:Option Addr) (c0_1:Nat) (l0_1:List (S75)) (r:Bool) (w:World) (hr0_1:Kd.C k75 w A0_1 l0_1.length l0_1) (hc0_1:l0_1.length≤c0_1) (h:laws_FnExactPartsOfParty.f k a0_0 l0_1=some r) (hT:Tz w) :
  Calls Tryd.prog 5 #[.agg #[.int .i64 a0_0,.slice A0_1 l0_1.length c0_1]] w fun e w'=>e=.returned (.bool r)∧Below w.heap.size w w':=by
 have hu:=Tryd.underlying24
 have hu2:=Tryd.underlying30
 unfold laws_FnExactPartsOfParty.f at h
 obtain ⟨s,hs,h⟩:=zz30.1 h
 have HSZ:=zz31 hs
 have HCC:=zz31 hc0_1
 have HC:=zz31 hr0_1
 have HTZ:=zz31 hT
 clear hT
 clear hs hc0_1 hr0_1
 by_cases hneg:s < 0
 ·rw [if_pos hneg] at h
  injection h with h
  subst h
  have hd:decide (s < 0)=true:=decide_eq_true hneg
  go_enter Tryd.func5,Tryd.ntmps5
  go_wp2_with (first | ((with_reducible refine gate_dst (N := 1) rfl ?_); refine box_event ?hg (N := 1) ?hd (cs := #[.int .i64 a0_0, .slice A0_1 l0_1.length c0_1]) (t := 24) ?hr ?_; (case hd => rfl); (case hg => rfl); (case hr => first | (go_simp; done) | (go_simp; rfl)); intro gb hg wa hbox hb; have HXa := zz31 hbox; have HBa := zz31 (zz4 (w := w) (by repeat (first | exact Below.refl _ _ | apply zz0 | apply below_drew | apply zz2)) hb); have HCa := zz31 (Kd.C_below HC.out HBa.out); have f1 := zz9 HXa.out 0; have f2 := zz9 HXa.out 1; simp only [List.getElem?_toArray, List.getElem?_cons_zero, List.getElem?_cons_succ] at f1 f2; clear hbox hb hg) | (go_at_call 6; (with_reducible refine (laws_szParty.calls a0_0 A0_1 c0_1 l0_1 1048576 s wa HCa.out HCC.out HSZ.out).mono ?_); rintro e wb ⟨rfl, hb⟩; have HXb := zz31 (zz11 HXa.out hb); have HBb := zz31 (zz4 HBa.out hb); have HCb := zz31 (Kd.C_below HCa.out hb); clear f1 f2; have f1 := zz9 HXb.out 0; have f2 := zz9 HXb.out 1; simp only [List.getElem?_toArray, List.getElem?_cons_zero, List.getElem?_cons_succ] at f1 f2; clear hb) | (fail "no arm"))
  refine bodyPost_ret (results_tmp rfl _ _ _) rfl ?_
  exact ⟨rfl,by repeat first | exact HBb.out | apply zz0 | apply below_drew⟩
 ·rw [if_neg hneg] at h
  obtain ⟨⟨p1,p2⟩,hp,h⟩:=zz30.1 h
  obtain ⟨⟨W1,W2⟩,hw,h⟩:=zz30.1 h
  obtain ⟨⟨G1,G2⟩,hg,h⟩:=zz30.1 h
  obtain ⟨e1,he1,h⟩:=zz30.1 h
  obtain ⟨e2,he2,h⟩:=zz30.1 h
  obtain ⟨⟨m1,m2⟩,hmp,h⟩:=zz30.1 h
  obtain ⟨⟨n1,n2⟩,hm,h⟩:=zz30.1 h
  obtain ⟨q,hq,h⟩:=zz30.1 h
  dsimp only at hw hg he1 he2 hmp hm hq h
  by_cases hc:(e1=true∧G2=W2∧e2=true)∧0≤m1∧0≤q∧q=n1
  case neg=>rw [if_neg hc] at h;exact absurd h (by simp)
  rw [if_pos hc] at h
  injection h with h
  subst h
  obtain ⟨⟨rfl,rfl,rfl⟩,hm0,hn0,rfl⟩:=hc
  have HP:=zz31 hp
  have HW:=zz31 hw
  have HG:=zz31 hg
  have HE1:=zz31 he1
  have HE2:=zz31 he2
  have HMP:=zz31 hmp
  have HM:=zz31 hm
  have HQ:=zz31 hq
  have hd:decide (s < 0)=false:=decide_eq_false hneg
  have hd1:decide (m1 < 0)=false:=decide_eq_false (by omega)
  have hd2:decide (q < 0)=false:=decide_eq_false (by omega)
  clear hp hw hg he1 he2 hmp hm hq hneg hm0 hn0
  go_enter Tryd.func5,Tryd.ntmps5
  go_upto_region 7 with (first | ((with_reducible refine gate_dst (N := 1) rfl ?_); refine box_event ?hg (N := 1) ?hd (cs := #[.int .i64 a0_0, .slice A0_1 l0_1.length c0_1]) (t := 24) ?hr ?_; (case hd => rfl); (case hg => rfl); (case hr => first | (go_simp; done) | (go_simp; rfl)); intro gb hg wa hbox hb; have HXa := zz31 hbox; have HBa := zz31 (zz4 (w := w) (by repeat (first | exact Below.refl _ _ | apply zz0 | apply below_drew | apply zz2)) hb); have HCa := zz31 (Kd.C_below HC.out HBa.out); have f1 := zz9 HXa.out 0; have f2 := zz9 HXa.out 1; simp only [List.getElem?_toArray, List.getElem?_cons_zero, List.getElem?_cons_succ] at f1 f2; clear hbox hb hg) | (go_at_call 6; (with_reducible refine (laws_szParty.calls a0_0 A0_1 c0_1 l0_1 1048576 s wa HCa.out HCC.out HSZ.out).mono ?_); rintro e wb ⟨rfl, hb⟩; have HXb := zz31 (zz11 HXa.out hb); have HBb := zz31 (zz4 HBa.out hb); have HCb := zz31 (Kd.C_below HCa.out hb); clear f1 f2; have f1 := zz9 HXb.out 0; have f2 := zz9 HXb.out 1; simp only [List.getElem?_toArray, List.getElem?_cons_zero, List.getElem?_cons_succ] at f1 f2; clear hb) | (go_at_call 8; (with_reducible refine (laws_toParty.calls k a0_0 A0_1 c0_1 l0_1 p1 p2 wb HCb.out HCC.out HP.out).mono ?_); rintro e wc ⟨vc, rfl, ho, hb⟩; obtain ⟨Ac, cc, rfl⟩ := Kd.R_slice ho; have HPc := zz31 (Kd.R_reads' ho).2; have HXc := zz31 (zz11 HXb.out hb); have HBc := zz31 (zz4 HBb.out hb); have HCx := zz31 (Kd.C_below HCb.out hb); clear f1 f2; clear ho hb) | (go_at_call 17; (with_reducible refine (spec_PartsOfParty.calls k p1 Ac cc p2 W1 G2 wc HPc.out.2 HPc.out.1 HW.out).mono ?_); rintro e wd ⟨vd, rfl, ho, hb⟩; obtain ⟨Ad, cd, rfl⟩ := Kd.S_slice ho; have HWd := zz31 (Kd.S_reads' ho).2; have HXd := zz31 (zz11 HXc.out hb); have HBd := zz31 (zz4 HBc.out hb); have HCd := zz31 (Kd.C_below HCx.out hb); have f1 := zz9 HXd.out 0; have f2 := zz9 HXd.out 1; simp only [List.getElem?_toArray, List.getElem?_cons_zero, List.getElem?_cons_succ] at f1 f2; clear ho hb) | (go_at_call 8; (with_reducible refine (laws_toParty.calls k a0_0 A0_1 c0_1 l0_1 p1 p2 wd HCd.out HCC.out HP.out).mono ?_); rintro e we ⟨ve, rfl, ho, hb⟩; obtain ⟨Ae, ce, rfl⟩ := Kd.R_slice ho; have HPe := zz31 ho; have HDe := zz31 hb; clear f1 f2; clear ho hb) | ((with_reducible refine gate_dst (N := 6) rfl ?_); refine box_event ?hg (N := 6) ?hd (cs := #[.int .i64 0, .slice none 0 0]) (t := 30) ?hr ?_; (case hd => rfl); (case hg => rfl); (case hr => first | (go_simp; done) | (go_simp; rfl)); intro gx hg wf hbox hb; have HXf := zz31 hbox; have HDf := zz31 (zz4 HDe.out hb); have HPf := zz31 (Kd.R_below HPe.out hb); have HGX := zz31 (show wd.heap.size ≤ gx from by rw [hg]; exact HDe.out.size); have g1 := zz9 HXf.out 0; have g2 := zz9 HXf.out 1; simp only [List.getElem?_toArray, List.getElem?_cons_zero, List.getElem?_cons_succ] at g1 g2; have g3 := zz10 HXf.out 0; have g4 := zz10 HXf.out 1; clear hbox hb hg) | (fail "no arm"))
  have HXg:Aside0 (((wf.setCell ⟨gx,0,none⟩ (.int .i64 p1)).setCell ⟨gx,1,none⟩ (.slice Ae p2.length ce)).heap[gx]?=some (.cells #[.int .i64 p1,.slice Ae p2.length ce] 30 (0,0))):=⟨blk_put (cs:=#[.int .i64 p1,.slice none 0 0]) (blk_put (cs:=#[.int .i64 0,.slice none 0 0]) HXf.out 0 _ rfl) 1 _ rfl⟩
  have HDg:Aside0 (Below wd.heap.size wd ((wf.setCell ⟨gx,0,none⟩ (.int .i64 p1)).setCell ⟨gx,1,none⟩ (.slice Ae p2.length ce))):=⟨zz3 (zz3 HDf.out HGX.out) HGX.out⟩
  have HPg:Aside0 (Kd.R k68 68 ((wf.setCell ⟨gx,0,none⟩ (.int .i64 p1)).setCell ⟨gx,1,none⟩ (.slice Ae p2.length ce)) wd.heap.size (fun k=>True∧k ≠ gx) (.slice Ae p2.length ce) p2):=⟨Kd.R_far (p:=⟨gx,1,none⟩) (Kd.R_far (p:=⟨gx,0,none⟩) (Kd.R_types HPf.out HXf.out (by decide)) (fun _ hk=>hk.2) (.int .i64 p1)) (fun _ hk=>hk.2) (.slice Ae p2.length ce)⟩
  clear g1 g2 g3 g4
  generalize ((wf.setCell ⟨gx,0,none⟩ (.int .i64 p1)).setCell ⟨gx,1,none⟩ (.slice Ae p2.length ce))=wg at HXg HDg HPg ⊢
  have HXb2:=zz31 (zz11 HXd.out HDg.out)
  have HPX:=zz31 (fun k (hk:some k=(Value.slice Ae p2.length ce).ownBlock)=>Kd.R_lt HPg.out k hk.symm)
  have f1:=zz9 HXd.out 0
  have f2:=zz9 HXd.out 1
  simp only [List.getElem?_toArray,List.getElem?_cons_zero,List.getElem?_cons_succ] at f1 f2
  have g1:=zz9 HXg.out 0
  have g2:=zz9 HXg.out 1
  simp only [List.getElem?_toArray,List.getElem?_cons_zero,List.getElem?_cons_succ] at g1 g2
  clear f1 f2
  go_upto_region 10 with (first | (go_at_call 18; (with_reducible refine (impl_PartsOfParty.calls k p1 Ae ce p2 G1 G2 wg (Kd.R_reads' HPg.out).2.2 (Kd.R_reads' HPg.out).2.1 HG.out (HTZ.out.below (HBd.out.trans (HDg.out.mono HBd.out.size)))).mono ?_); rintro e wh ⟨vh, rfl, ho, hb⟩; obtain ⟨Ah, ch, rfl⟩ := Kd.S_slice ho; have HGh := zz31 ho; have HDh := zz31 (zz4 HDg.out hb); have HPh := zz31 (Kd.R_below HPg.out hb); have HXh := zz31 (zz11 HXg.out hb); clear g1 g2; clear ho hb) | (go_at_call 19; (with_reducible refine (laws_eqIntSS.calls k Ah ch G1 Ad cd W1 true wh (Kd.S_reads' HGh.out).2.2 (Kd.S_reads' HGh.out).2.1 (Kd.C_below HWd.out.2 HDh.out) HWd.out.1 HE1.out).mono ?_); rintro e w' ⟨rfl, hd⟩; obtain ⟨q1, hq1⟩ := hd.out; subst hq1; clear hd) | (fail "no arm"))
  have HGi:=zz31 (zz16 HGh.out q1)
  have HDi:=zz31 (zz0 HDh.out q1)
  have HPi:=zz31 (zz13 HPh.out q1)
  have HXi:=zz31 (zz6 HXh.out q1)
  have HPxc:=zz31 (Kd.R_reads' HPh.out).2.1
  generalize wh.drewN q1=wi at HGi HDi HPi HXi ⊢
  have HYi:=zz31 (zz11 HXd.out HDi.out)
  have HCi:=zz31 (Kd.C_below HCd.out HDi.out)
  have HL1:=zz31 (blk_lt HYi.out)
  have HL2:=zz31 (blk_lt HXi.out)
  have f1:=zz9 HYi.out 0
  have f2:=zz9 HYi.out 1
  simp only [List.getElem?_toArray,List.getElem?_cons_zero,List.getElem?_cons_succ] at f1 f2
  have g1:=zz9 HXi.out 0
  have g2:=zz9 HXi.out 1
  simp only [List.getElem?_toArray,List.getElem?_cons_zero,List.getElem?_cons_succ] at g1 g2
  go_region_held3 (fun w' => (w'.cell? ⟨gb, 0, none⟩ = some (.int .i64 a0_0) ∧ w'.cell? ⟨gb, 1, none⟩ = some (.slice A0_1 l0_1.length c0_1)) ∧ w'.cell? ⟨gx, 0, none⟩ = some (.int .i64 p1) ∧ w'.cell? ⟨gx, 1, none⟩ = some (.slice Ae p2.length ce)) (first | go_keep | exact ⟨⟨f1, f2⟩, g1, g2⟩ | exact ⟨⟨(HDij.out.cell (p := ⟨gb, 0, none⟩) HL1.out).trans f1, (HDij.out.cell (p := ⟨gb, 1, none⟩) HL1.out).trans f2⟩, (HDij.out.cell (p := ⟨gx, 0, none⟩) HL2.out).trans g1, (HDij.out.cell (p := ⟨gx, 1, none⟩) HL2.out).trans g2⟩ | exact ⟨⟨(HDik.out.cell (p := ⟨gb, 0, none⟩) HL1.out).trans f1, (HDik.out.cell (p := ⟨gb, 1, none⟩) HL1.out).trans f2⟩, (HDik.out.cell (p := ⟨gx, 0, none⟩) HL2.out).trans g1, (HDik.out.cell (p := ⟨gx, 1, none⟩) HL2.out).trans g2⟩) (first | (go_at_call 8; (with_reducible refine (laws_toParty.calls k a0_0 A0_1 c0_1 l0_1 p1 p2 _ ?_ HCC.out HP.out).mono ?_); (repeat (first | exact HCi.out | (with_reducible refine zz19 ?_ _) | (with_reducible refine zz20 ?_))); rintro e wj ⟨vj, rfl, ho, hb⟩; obtain ⟨Aj, cj, rfl⟩ := Kd.R_slice ho; have HPj := zz31 (Kd.R_reads' ho).2; have HDij := zz31 (zz4 (w := wi) (by repeat (first | exact Below.refl _ _ | apply zz0 | apply below_drew)) hb); have HPx := zz31 (Kd.C_below (Kd.R_reads' HPi.out).2.2 HDij.out); clear ho hb) | (go_at_call 10; (with_reducible refine (laws_eqParty.calls k p1 Ae ce p2 p1 Aj cj p2 true _ ?_ HPxc.out ?_ HPj.out.1 HE2.out).mono ?_); (repeat (first | exact HPx.out | (with_reducible refine zz19 ?_ _) | (with_reducible refine zz20 ?_))); (repeat (first | exact HPj.out.2 | (with_reducible refine zz19 ?_ _) | (with_reducible refine zz20 ?_))); rintro e wk ⟨rfl, hb⟩; have HDik := zz31 (zz4 (w := wi) (by repeat (first | exact HDij.out | apply zz0 | apply below_drew)) hb); clear hb) | (fail "no arm"))
  have HDk:=zz31 (HDi.out.trans (HDik.out.mono HDi.out.size))
  have HGk:=zz31 (Kd.S_bound (Kd.S_below HGi.out HDik.out))
  have HPk:=zz31 (Kd.R_below HPi.out HDik.out)
  have HXk:=zz31 (zz11 HXi.out HDik.out)
  clear f1 f2 g1 g2
  have g1:=zz9 HXk.out 0
  have g2:=zz9 HXk.out 1
  simp only [List.getElem?_toArray,List.getElem?_cons_zero,List.getElem?_cons_succ] at g1 g2
  have f1:=g1
  have f2:=g2
  go_wp2_with (first | (go_at_call 14; (with_reducible refine (laws_markParty.calls k p1 (fun k => some k = (Value.slice Ae p2.length ce).ownBlock) (.slice Ae p2.length ce) p2 1 m1 m2 wd wk HDk.out (Kd.R_tight rfl HPk.out) HMP.out).mono ?_); rintro e wl ⟨rfl, -, hB, hK⟩; have HDl := zz31 hB; have HGl := zz31 (Kd.S_step HGk.out (fun k hk hlt => hK.2 k hlt (fun he => by have := HPX.out k he; have := hk.2.1; omega))); clear hB hK) | (go_at_call 19; (with_reducible refine (laws_eqIntSS.calls k Ah ch G1 Ad cd W1 true wl (Kd.S_reads' HGl.out).2.2 (Kd.S_reads' HGl.out).2.1 (Kd.C_below HWd.out.2 HDl.out) HWd.out.1 HE1.out).mono ?_); rintro e w' ⟨rfl, hd⟩; obtain ⟨q2, hq2⟩ := hd.out; subst hq2; have HGl2 := zz31 (Kd.S_lower (Kd.S_mono (zz16 HGl.out q2) (fun k hk => hk.2.1)) HDg.out.size); have HDl2 := zz31 (zz0 HDl.out q2); clear hd) | (go_at_call 20; (with_reducible refine (laws_markIntSS.calls k (fun k => wg.heap.size ≤ k) (.slice Ah G1.length ch) G1 1 q n2 wd (wl.drewN q2) HDl2.out HGl2.out HM.out).mono ?_); rintro e wm ⟨rfl, hS, hB, -⟩; have HDm := zz31 hB; have HGm := zz31 hS; have HNL := zz31 (Kd.S_reads' hS).1; have HNc := zz31 (Kd.S_reads' hS).2.1; rw [HNL.out] at HNc; have HXm := zz31 (zz11 HXd.out HDm.out); clear f1 f2; have f1 := zz9 HXm.out 0; have f2 := zz9 HXm.out 1; simp only [List.getElem?_toArray, List.getElem?_cons_zero, List.getElem?_cons_succ] at f1 f2; clear hS hB) | (go_at_call 21; rw [HNL.out]; (with_reducible refine (laws_heldIntSS.calls k Ah ch n2 1 q wm (Kd.S_reads' HGm.out).2.2 HNc.out HQ.out).mono ?_); rintro e w' ⟨rfl, hd⟩; obtain ⟨q3, hq3⟩ := hd.out; subst hq3; have HDm3 := zz31 (zz0 HDm.out q3); have HGm3 := zz31 (zz16 HGm.out q3); have HCm3 := zz31 (Kd.C_below HCd.out HDm3.out); clear hd) | (go_at_call 8; (with_reducible refine (laws_toParty.calls k a0_0 A0_1 c0_1 l0_1 p1 p2 (wm.drewN q3) HCm3.out HCC.out HP.out).mono ?_); rintro e wn ⟨vn, rfl, ho, hb⟩; obtain ⟨An, cn, rfl⟩ := Kd.R_slice ho; have HPn := zz31 (Kd.R_reads' ho).2; have HDn := zz31 (zz4 HDm3.out hb); have HGn := zz31 (Kd.S_below HGm3.out hb); clear f1 f2; clear ho hb) | (go_at_call 18; (with_reducible refine (impl_PartsOfParty.calls k p1 An cn p2 G1 G2 wn HPn.out.2 HPn.out.1 HG.out (HTZ.out.below (HBd.out.trans (HDn.out.mono HBd.out.size)))).mono ?_); rintro e wo ⟨vo, rfl, ho, hb⟩; obtain ⟨Ao, co, rfl⟩ := Kd.S_slice ho; have HHo := zz31 (Kd.S_reads' ho).2; have HDo := zz31 (zz4 HDn.out hb); have HGo := zz31 (Kd.S_below HGn.out hb); clear ho hb) | (go_at_call 19; (with_reducible refine (laws_eqIntSS.calls k Ao co G1 Ad cd W1 true wo HHo.out.2 HHo.out.1 (Kd.C_below HWd.out.2 HDo.out) HWd.out.1 HE1.out).mono ?_); rintro e w' ⟨rfl, hd⟩; obtain ⟨q4, hq4⟩ := hd.out; subst hq4; have HGo4 := zz31 (zz16 HGo.out q4); clear hd) | (go_at_call 21; rw [HNL.out]; (with_reducible refine (laws_heldIntSS.calls k Ah ch n2 1 q (wo.drewN q4) (Kd.S_reads' HGo4.out).2.2 HNc.out HQ.out).mono ?_); rintro e w' ⟨rfl, hd⟩; obtain ⟨q5, hq5⟩ := hd.out; subst hq5; clear hd) | (fail "no arm"))
  refine bodyPost_ret (results_tmp rfl _ _ _) rfl ?_
  exact ⟨rfl,by repeat first | exact (HBd.out.trans (HDo.out.mono HBd.out.size)) | apply zz0 | apply below_drew⟩

end Go.Proofs.YtialimbdkokdcaaDoor.P
