-- PRINTED by print.py (a twelfth state) out of the translation. Not trusted: Lean checks it.
import Derived.Test.YtifkaefccghgdaaPx0
import Derived.Test.YtifkaefccghgdaaPx1
import Derived.Test.YtifkaefccghgdaaPx2
import Derived.Test.YtifkaefccghgdaaPx9
namespace Go.Proofs.Ytifkaefccghgdaa.P
open Go.RowKit Go.Proofs.YtifkaefccghgdaaW.PrintWords Go.Proofs.YtifkaefccghgdaaW.PrintLast Go.Proofs.YtifkaefccghgdaaW.PrintMore
attribute [local go_sem] max2_int min2_int max_two min_two max_three min_three max_four min_four   -- for this text's walks alone
set_option linter.unusedVariables false
set_option linter.unusedSimpArgs false

/-! ### spec_grColour: function 72 -/
mutual
def spec_grColour.l0:Nat→List (List Bool)→List Int→Int→Int→Int→Option (Bool × List Int)
 | 0,_,_,_,_,_=>none
 | k+1,x0,x1,x2,x3,x9=>if x9 < x3 then (spec_grColour.l1 k x0 x1 x2 x3 x9 true 0) else (some (false,x1))
def spec_grColour.l1:Nat→List (List Bool)→List Int→Int→Int→Int→Bool→Int→Option (Bool × List Int)
 | 0,_,_,_,_,_,_,_=>none
 | k+1,x0,x1,x2,x3,x9,x10,x11=>if x11 < x2 then (if x10=true then (if 0≤x2 then (if x2 < (x0.length:Int) then (if 0≤x11 then (if x11 < ((rd_L4 x0 x2).length:Int) then (if (rdOf false (rd_L4 x0 x2) x11=true) then (if x11 < (x1.length:Int) then (spec_grColour.l1 k x0 x1 x2 x3 x9 ((rd x1 x11) != x9) (wrap64 (x11+1))) else (none)) else (spec_grColour.l1 k x0 x1 x2 x3 x9 true (wrap64 (x11+1)))) else (none)) else (none)) else (none)) else (none)) else (spec_grColour.l1 k x0 x1 x2 x3 x9 false (wrap64 (x11+1)))) else (if 0≤x2 then (if x2 < (x1.length:Int) then ((some (x1.set (x2:Int).toNat x9:List Int)).bind fun y407=>(if x10=true then ((spec_grColour.f k x0 y407 (wrap64 (x2+1)) x3).bind fun bt408=>(if bt408.1=true then (some (true,bt408.2)) else (spec_grColour.l0 k x0 bt408.2 x2 x3 (wrap64 (x9+1))))) else (spec_grColour.l0 k x0 y407 x2 x3 (wrap64 (x9+1))))) else (none)) else (none))
def spec_grColour.f:Nat→List (List Bool)→List Int→Int→Int→Option (Bool × List Int)
 | 0,_,_,_,_=>none
 | k+1,l0,l1,a2,a3=>if a2=(l0.length:Int) then (some (true,l1)) else (spec_grColour.l0 k l0 l1 a2 a3 0)
end
theorem spec_grColour.mono_l:∀ k,(∀ y0 y1 y2 y3,LeO (spec_grColour.f k y0 y1 y2 y3) (spec_grColour.f (k+1) y0 y1 y2 y3))∧(∀ y0 y1 y2 y3 y4,LeO (spec_grColour.l0 k y0 y1 y2 y3 y4) (spec_grColour.l0 (k+1) y0 y1 y2 y3 y4))∧(∀ y0 y1 y2 y3 y4 y5 y6,LeO (spec_grColour.l1 k y0 y1 y2 y3 y4 y5 y6) (spec_grColour.l1 (k+1) y0 y1 y2 y3 y4 y5 y6))
 | 0=>⟨fun _ _ _ _ r h=>by simp [spec_grColour.f] at h,fun _ _ _ _ _ r h=>by simp [spec_grColour.l0] at h,fun _ _ _ _ _ _ _ r h=>by simp [spec_grColour.l1] at h⟩
 | k+1=>by
  obtain ⟨ih0,ih1,ih2⟩:=spec_grColour.mono_l k
  refine ⟨?_,?_,?_⟩
  ·intro y0 y1 y2 y3
   unfold spec_grColour.f
   repeat' first
   | (with_reducible exact ih0 _ _ _ _)
   | (with_reducible exact ih1 _ _ _ _ _)
   | (with_reducible exact ih2 _ _ _ _ _ _ _)
   | (with_reducible exact LeO.refl _)
   | (with_reducible exact LeO.none _)
   | (with_reducible refine LeO.ite ?_ ?_)
   | (with_reducible refine LeO.bind ?_ (fun _=>?_))
   | exact ih0 _ _ _ _
   | exact ih1 _ _ _ _ _
   | exact ih2 _ _ _ _ _ _ _
   | exact LeO.none _
   | refine LeO.ite ?_ ?_
   | refine LeO.bind ?_ (fun _=>?_)
  ·intro y0 y1 y2 y3 y4
   unfold spec_grColour.l0
   repeat' first
   | (with_reducible exact ih0 _ _ _ _)
   | (with_reducible exact ih1 _ _ _ _ _)
   | (with_reducible exact ih2 _ _ _ _ _ _ _)
   | (with_reducible exact LeO.refl _)
   | (with_reducible exact LeO.none _)
   | (with_reducible refine LeO.ite ?_ ?_)
   | (with_reducible refine LeO.bind ?_ (fun _=>?_))
   | exact ih0 _ _ _ _
   | exact ih1 _ _ _ _ _
   | exact ih2 _ _ _ _ _ _ _
   | exact LeO.none _
   | refine LeO.ite ?_ ?_
   | refine LeO.bind ?_ (fun _=>?_)
  ·intro y0 y1 y2 y3 y4 y5 y6
   unfold spec_grColour.l1
   repeat' first
   | (with_reducible exact ih0 _ _ _ _)
   | (with_reducible exact ih1 _ _ _ _ _)
   | (with_reducible exact ih2 _ _ _ _ _ _ _)
   | (with_reducible exact LeO.refl _)
   | (with_reducible exact LeO.none _)
   | (with_reducible refine LeO.ite ?_ ?_)
   | (with_reducible refine LeO.bind ?_ (fun _=>?_))
   | exact ih0 _ _ _ _
   | exact ih1 _ _ _ _ _
   | exact ih2 _ _ _ _ _ _ _
   | exact LeO.none _
   | refine LeO.ite ?_ ?_
   | refine LeO.bind ?_ (fun _=>?_)
theorem spec_grColour.mono:∀ a0 a1 a2 a3 k,LeO (spec_grColour.f k a0 a1 a2 a3) (spec_grColour.f (k+1) a0 a1 a2 a3):=by
 intro a0 a1 a2 a3 k
 obtain ⟨ih0,ih1,ih2⟩:=spec_grColour.mono_l k
 exact ih0 a0 a1 a2 a3
set_option maxHeartbeats 8000000 in
set_option maxRecDepth 100000 in
theorem spec_grColour.calls (k:Nat):∀ (A0:Option Addr) (c0:Nat) (l0:List (List Bool)) (P1_:Nat→Prop) (u9000_:Value) (l1:List Int) (a2:Int) (a3:Int) (r1:Bool) (r2:List Int) (w0 w:World) (hB:Below w0.heap.size w0 w) (hr0:∀ W_,Kept w W_ (fun k_=>P1_ k_)→Kd.C (Kd.slice 4 Kd.bool) W_ A0 l0.length l0) (hc0:l0.length≤c0) (ho1:Kd.R (Kd.int .i64) 3 w w0.heap.size P1_ u9000_ l1) (h:spec_grColour.f k l0 l1 a2 a3=some (r1,r2)),
  Calls Try.prog 72 #[.slice A0 l0.length c0,u9000_,.int .i64 a2,.int .i64 a3] w fun e w'=>e=.returned (.bool r1)∧Kd.R (Kd.int .i64) 3 w' w0.heap.size (fun k_=>(P1_ k_ ∨ w.heap.size≤k_)) u9000_ r2∧Below w0.heap.size w0 w'∧Kept w w' (fun k_=>P1_ k_):=by
 induction k using Nat.strongRecOn with
 | _ k ih =>
 intro A0 c0 l0 P1_ u9000_ l1 a2 a3 r1 r2 w0 w hB hr0 hc0 ho1 h
 cases k with
 | zero=>exact absurd h (by simp [spec_grColour.f])
 | succ k =>
 simp only [spec_grColour.f] at h
 have HR0:=zz31 hr0
 have HC0:=zz31 hc0
 clear hr0 hc0
 have HO1:=zz31 (show Kd.R (Kd.int .i64) 3 w w0.heap.size (fun k_=>(P1_ k_ ∨ w.heap.size≤k_)) u9000_ l1 from Kd.R_mono ho1 (fun k_ hk=>(.inl hk)))
 have HK:=zz31 (Kept.refl w (fun k_=>P1_ k_))
 have HW0:=zz31 hB.size
 have HB:=zz31 hB
 clear hB
 have H:(if a2=(l0.length:Int) then (some (true,l1)) else (spec_grColour.l0 k l0 l1 a2 a3 0))=some (r1,r2):=h
 clear h
 by_cases c5:a2=(l0.length:Int)
 ·rw [if_pos c5] at H
  have c5b0:(a2 == (l0.length:Int))=true:=beq_iff_eq.mpr c5
  have c5b1:(a2 != (l0.length:Int))=false:=bne_eq_false_iff_eq.mpr c5
  clear c5
  simp only [Option.some.injEq,Prod.mk.injEq] at H
  obtain ⟨rfl,rfl⟩:=H
  go_enter Try.func72,Try.ntmps72
  go_wp2
  go_ret
  exact ⟨by first | rfl | (simp [errW_none,errW_some] <;> rfl) | (simp [*,errW_none,errW_some] <;> rfl),by (with_reducible repeat (first | apply zz12 | apply zz13 | apply zz14));exact HO1.out,by repeat first | exact HB.out | apply zz2 | apply zz0 | apply zz1,by repeat (first | (with_reducible first | exact HK.out | apply Kept.alloc | apply Kept.drewN | apply Kept.drew) | exact HK.out)⟩
 ·rw [if_neg c5] at H
  have c5b0:(a2 == (l0.length:Int))=false:=beq_eq_false_iff_ne.mpr c5
  have c5b1:(a2 != (l0.length:Int))=true:=bne_iff_ne.mpr c5
  have H':=zz31 H
  clear H
  go_enter Try.func72,Try.ntmps72
  go_wp2
  go_loopg [9] k (fun kq v9 w'=>∃ (x1_1:List Int) (x9_1:Int),v9=.int .i64 x9_1∧Aside0 (spec_grColour.l0 kq l0 x1_1 a2 a3 x9_1=some (r1,r2))∧Aside0 (kq≤k)∧Aside0 (Kd.R (Kd.int .i64) 3 w' w0.heap.size (fun k_=>(P1_ k_ ∨ w.heap.size≤k_)) u9000_ x1_1)∧Aside0 (Kept w w' (fun k_=>P1_ k_))∧Aside0 (Below w0.heap.size w0 w'))
  case atStart=>exact ⟨(l1),(0),(by first | rfl | (simp;done) | (simp [*];done)),H',⟨Nat.le_refl _⟩,⟨by (with_reducible repeat (first | apply zz12 | apply zz13 | apply zz14));exact HO1.out⟩,⟨by repeat (first | (with_reducible first | exact HK.out | apply Kept.alloc | apply Kept.drewN | apply Kept.drew) | exact HK.out)⟩,⟨by repeat first | exact HB.out | apply zz2 | apply zz0 | apply zz1⟩⟩
  case round =>
   clear H'
   try clear p2
   try clear c5
   try clear c5b0
   try clear c5b1
   obtain ⟨x1_1,x9_1,rfl,HA,HK1,HO_1,HK,HB⟩:=hrel
   cases gk with
   | zero=>exact absurd HA.out (by simp [spec_grColour.l0])
   | succ k1 =>
    have H:=HA.out
    clear HA
    simp only [spec_grColour.l0] at H
    by_cases c6:x9_1 < a3
    ·rw [if_pos c6] at H
     have c6b0:decide (x9_1 < a3)=true:=decide_eq_true c6
     clear c6
     have H':=zz31 H
     clear H
     go_wp2
     go_loopg [10,11] k1 (fun kq v10 v11 w'=>∃ (x10_2:Bool) (x11_2:Int),v10=.bool x10_2∧v11=.int .i64 x11_2∧Aside0 (spec_grColour.l1 kq l0 x1_1 a2 a3 x9_1 x10_2 x11_2=some (r1,r2))∧Aside0 (kq≤k1)∧Aside0 (Kd.R (Kd.int .i64) 3 w' w0.heap.size (fun k_=>(P1_ k_ ∨ w.heap.size≤k_)) u9000_ x1_1)∧Aside0 (Kept w w' (fun k_=>P1_ k_))∧Aside0 (Below w0.heap.size w0 w'))
     case atStart=>exact ⟨(true),(0),(by first | rfl | (simp;done) | (simp [*];done)),(by first | rfl | (simp;done) | (simp [*];done)),H',⟨Nat.le_refl _⟩,⟨by (with_reducible repeat (first | apply zz12 | apply zz13 | apply zz14));exact HO_1.out⟩,⟨by repeat (first | (with_reducible first | exact HK.out | apply Kept.alloc | apply Kept.drewN | apply Kept.drew) | exact HK.out)⟩,⟨by repeat first | exact HB.out | apply zz2 | apply zz0 | apply zz1⟩⟩
     case round =>
      clear H'
      try clear p2
      try clear c5
      try clear c5b0
      try clear c5b1
      try clear c6
      try clear c6b0
      try clear p2
      obtain ⟨x10_2,x11_2,rfl,rfl,HA,HK2,HO_1,HK,HB⟩:=hrel
      cases gk with
      | zero=>exact absurd HA.out (by simp [spec_grColour.l1])
      | succ k2 =>
       have H:=HA.out
       clear HA
       simp only [spec_grColour.l1] at H
       by_cases c7:x11_2 < a2
       ·rw [if_pos c7] at H
        have c7b0:decide (x11_2 < a2)=true:=decide_eq_true c7
        clear c7
        by_cases c8:x10_2=true
        ·subst c8
         have H1:(if 0≤a2 then (if a2 < (l0.length:Int) then (if 0≤x11_2 then (if x11_2 < ((rd_L4 l0 a2).length:Int) then (if (rdOf false (rd_L4 l0 a2) x11_2=true) then (if x11_2 < (x1_1.length:Int) then (spec_grColour.l1 k2 l0 x1_1 a2 a3 x9_1 ((rd x1_1 x11_2) != x9_1) (wrap64 (x11_2+1))) else (none)) else (spec_grColour.l1 k2 l0 x1_1 a2 a3 x9_1 true (wrap64 (x11_2+1)))) else (none)) else (none)) else (none)) else (none))=some (r1,r2):=by rw [if_pos rfl] at H;exact H
         clear H
         have H:=H1
         clear H1
         by_cases c9:0≤a2
         ·rw [if_pos c9] at H
          have c9b0:decide (0≤a2)=true:=decide_eq_true c9
          clear c9
          by_cases c10:a2 < (l0.length:Int)
          ·rw [if_pos c10] at H
           have c10b0:decide (a2 < (l0.length:Int))=true:=decide_eq_true c10
           clear c10
           by_cases c11:0≤x11_2
           ·rw [if_pos c11] at H
            have c11b0:decide (0≤x11_2)=true:=decide_eq_true c11
            clear c11
            by_cases c12:x11_2 < ((rd_L4 l0 a2).length:Int)
            ·rw [if_pos c12] at H
             have c12b0:decide (x11_2 < ((rd_L4 l0 a2).length:Int))=true:=decide_eq_true c12
             clear c12
             obtain ⟨bq13,hbq13⟩:∃ b_:Bool,b_=(rdOf false (rd_L4 l0 a2) x11_2):=⟨_,rfl⟩
             replace H:(if (bq13=true) then (if x11_2 < (x1_1.length:Int) then (spec_grColour.l1 k2 l0 x1_1 a2 a3 x9_1 ((rd x1_1 x11_2) != x9_1) (wrap64 (x11_2+1))) else (none)) else (spec_grColour.l1 k2 l0 x1_1 a2 a3 x9_1 true (wrap64 (x11_2+1))))=some (r1,r2):=by rw [← hbq13] at H;exact H
             have Nbq13:=zz31 hbq13
             clear hbq13
             by_cases c14:(bq13=true)
             ·subst c14
              have H1:(if x11_2 < (x1_1.length:Int) then (spec_grColour.l1 k2 l0 x1_1 a2 a3 x9_1 ((rd x1_1 x11_2) != x9_1) (wrap64 (x11_2+1))) else (none))=some (r1,r2):=by rw [if_pos rfl] at H;exact H
              clear H
              have H:=H1
              clear H1
              by_cases c15:x11_2 < (x1_1.length:Int)
              ·rw [if_pos c15] at H
               have c15b0:decide (x11_2 < (x1_1.length:Int))=true:=decide_eq_true c15
               clear c15
               have H':=zz31 H
               clear H
               have p404:0≤(a2:Int):=zz29 (by first | (with_reducible assumption) | assumption)
               have q404:a2 < (l0.length:Int):=zz29 (by first | (with_reducible assumption) | assumption)
               obtain ⟨ad404,A404_0,c404_0,e404,hx404_0,hl404_0,hi404_0⟩:=at_L4 (Kd.C_kept_now HR0.out HK.out) a2 p404 q404
               cases e404
               have HR404_0:=zz31 hi404_0
               have HC404_0:=zz31 hl404_0
               clear hi404_0 hl404_0
               replace p404:=eq_true p404
               replace q404:=eq_true q404
               have p405:0≤(x11_2:Int):=zz29 (by first | (with_reducible assumption) | assumption)
               have q405:x11_2 < ((rd_L4 l0 a2).length:Int):=zz29 (by first | (with_reducible assumption) | assumption)
               obtain ⟨ad405,e405,hx405_0⟩:=Kd.at_bool (by repeat (first | (with_reducible exact HR404_0.out) | (with_reducible refine zz18 ?_ _) | (with_reducible refine zz19 ?_ _) | (with_reducible refine zz20 ?_) | exact HR404_0.out)) x11_2 p405 q405
               (try rw [← Nbq13.out] at hx405_0)
               cases e405
               replace p405:=eq_true p405
               replace q405:=eq_true q405
               obtain ⟨Ao16,co16,eo16⟩:=Kd.R_slice HO_1.out
               subst eo16
               have p406:0≤(x11_2:Int):=zz29 (by first | (with_reducible assumption) | assumption)
               have q406:x11_2 < (x1_1.length:Int):=zz29 (by first | (with_reducible assumption) | assumption)
               obtain ⟨ad406,e406,hx406_0⟩:=Kd.at_int (Kd.R_reads' HO_1.out).2.2 x11_2 p406 q406
               cases e406
               replace p406:=eq_true p406
               replace q406:=eq_true q406
               go_wp2
               go_roundg k2
               case measure=>have:=HK1.out;have:=HK2.out;omega
               case rel=>exact ⟨(((rd x1_1 x11_2) != x9_1)),(wrap64 (x11_2+1)),(by first | rfl | (simp;done) | (simp [*];done)),(by first | rfl | (simp;done) | (simp [*];done)),H',⟨by have:=HK1.out;have:=HK2.out;omega⟩,⟨by (with_reducible repeat (first | apply zz12 | apply zz13 | apply zz14));exact HO_1.out⟩,⟨by repeat (first | (with_reducible first | exact HK.out | apply Kept.alloc | apply Kept.drewN | apply Kept.drew) | exact HK.out)⟩,⟨by repeat first | exact HB.out | apply zz2 | apply zz0 | apply zz1⟩⟩
              ·rw [if_neg c15] at H
               exact absurd H (by simp)
             ·replace c14:=Bool.eq_false_iff.mpr c14
              subst c14
              have H1:(spec_grColour.l1 k2 l0 x1_1 a2 a3 x9_1 true (wrap64 (x11_2+1)))=some (r1,r2):=by rw [if_neg (show ¬ (false=true) by decide)] at H;exact H
              clear H
              have H:=H1
              clear H1
              have H':=zz31 H
              clear H
              have p404:0≤(a2:Int):=zz29 (by first | (with_reducible assumption) | assumption)
              have q404:a2 < (l0.length:Int):=zz29 (by first | (with_reducible assumption) | assumption)
              obtain ⟨ad404,A404_0,c404_0,e404,hx404_0,hl404_0,hi404_0⟩:=at_L4 (Kd.C_kept_now HR0.out HK.out) a2 p404 q404
              cases e404
              have HR404_0:=zz31 hi404_0
              have HC404_0:=zz31 hl404_0
              clear hi404_0 hl404_0
              replace p404:=eq_true p404
              replace q404:=eq_true q404
              have p405:0≤(x11_2:Int):=zz29 (by first | (with_reducible assumption) | assumption)
              have q405:x11_2 < ((rd_L4 l0 a2).length:Int):=zz29 (by first | (with_reducible assumption) | assumption)
              obtain ⟨ad405,e405,hx405_0⟩:=Kd.at_bool (by repeat (first | (with_reducible exact HR404_0.out) | (with_reducible refine zz18 ?_ _) | (with_reducible refine zz19 ?_ _) | (with_reducible refine zz20 ?_) | exact HR404_0.out)) x11_2 p405 q405
              (try rw [← Nbq13.out] at hx405_0)
              cases e405
              replace p405:=eq_true p405
              replace q405:=eq_true q405
              go_wp2
              go_roundg k2
              case measure=>have:=HK1.out;have:=HK2.out;omega
              case rel=>exact ⟨(true),(wrap64 (x11_2+1)),(by first | rfl | (simp;done) | (simp [*];done)),(by first | rfl | (simp;done) | (simp [*];done)),H',⟨by have:=HK1.out;have:=HK2.out;omega⟩,⟨by (with_reducible repeat (first | apply zz12 | apply zz13 | apply zz14));exact HO_1.out⟩,⟨by repeat (first | (with_reducible first | exact HK.out | apply Kept.alloc | apply Kept.drewN | apply Kept.drew) | exact HK.out)⟩,⟨by repeat first | exact HB.out | apply zz2 | apply zz0 | apply zz1⟩⟩
            ·rw [if_neg c12] at H
             exact absurd H (by simp)
           ·rw [if_neg c11] at H
            exact absurd H (by simp)
          ·rw [if_neg c10] at H
           exact absurd H (by simp)
         ·rw [if_neg c9] at H
          exact absurd H (by simp)
        ·replace c8:=Bool.eq_false_iff.mpr c8
         subst c8
         have H1:(spec_grColour.l1 k2 l0 x1_1 a2 a3 x9_1 false (wrap64 (x11_2+1)))=some (r1,r2):=by rw [if_neg (show ¬ (false=true) by decide)] at H;exact H
         clear H
         have H:=H1
         clear H1
         have H':=zz31 H
         clear H
         go_wp2
         go_roundg k2
         case measure=>have:=HK1.out;have:=HK2.out;omega
         case rel=>exact ⟨(false),(wrap64 (x11_2+1)),(by first | rfl | (simp;done) | (simp [*];done)),(by first | rfl | (simp;done) | (simp [*];done)),H',⟨by have:=HK1.out;have:=HK2.out;omega⟩,⟨by (with_reducible repeat (first | apply zz12 | apply zz13 | apply zz14));exact HO_1.out⟩,⟨by repeat (first | (with_reducible first | exact HK.out | apply Kept.alloc | apply Kept.drewN | apply Kept.drew) | exact HK.out)⟩,⟨by repeat first | exact HB.out | apply zz2 | apply zz0 | apply zz1⟩⟩
       ·rw [if_neg c7] at H
        have c7b0:decide (x11_2 < a2)=false:=decide_eq_false c7
        clear c7
        by_cases c17:0≤a2
        ·rw [if_pos c17] at H
         have c17b0:decide (0≤a2)=true:=decide_eq_true c17
         clear c17
         by_cases c18:a2 < (x1_1.length:Int)
         ·rw [if_pos c18] at H
          have c18b0:decide (a2 < (x1_1.length:Int))=true:=decide_eq_true c18
          clear c18
          obtain ⟨y407,hy407⟩:∃ y_:List Int,y_=(x1_1.set (a2:Int).toNat x9_1):=⟨_,rfl⟩
          replace H:(if x10_2=true then ((spec_grColour.f k2 l0 y407 (wrap64 (a2+1)) a3).bind fun bt408=>(if bt408.1=true then (some (true,bt408.2)) else (spec_grColour.l0 k2 l0 bt408.2 a2 a3 (wrap64 (x9_1+1))))) else (spec_grColour.l0 k2 l0 y407 a2 a3 (wrap64 (x9_1+1))))=some (r1,r2):=by first | (rw [hy407];with_reducible exact H) | (have H2_:=(Option.bind_some _ _).symm.trans H;rw [hy407];with_reducible exact H2_) | (have H2_:=(Option.bind_some _ _).symm.trans H;with_reducible exact H2_) | with_reducible exact H | (rw [hy407];exact H) | exact H
          have Ny407:=zz31 hy407
          clear hy407
          by_cases c20:x10_2=true
          ·subst c20
           have H1:((spec_grColour.f k2 l0 y407 (wrap64 (a2+1)) a3).bind fun bt408=>(if bt408.1=true then (some (true,bt408.2)) else (spec_grColour.l0 k2 l0 bt408.2 a2 a3 (wrap64 (x9_1+1)))))=some (r1,r2):=by rw [if_pos rfl] at H;exact H
           clear H
           have H:=H1
           clear H1
           replace H:=zz30.mp H
           obtain ⟨⟨t408,t409⟩,A210,H⟩:=H
           replace H:(if t408=true then (some (true,t409)) else (spec_grColour.l0 k2 l0 t409 a2 a3 (wrap64 (x9_1+1))))=some (r1,r2):=H
           have A21:=zz31 A210
           clear A210
           by_cases c22:t408=true
           ·subst c22
            have H1:(some (true,t409))=some (r1,r2):=by rw [if_pos rfl] at H;exact H
            clear H
            have H:=H1
            clear H1
            simp only [Option.some.injEq,Prod.mk.injEq] at H
            obtain ⟨rfl,rfl⟩:=H
            have p19:0≤(a2:Int):=zz29 (by first | (with_reducible assumption) | assumption)
            have q19:(a2:Int) < ((x1_1.length:Int):Int):=zz29 (by first | (with_reducible assumption) | assumption)
            obtain ⟨go19,co19,eo19,gb19,gl19,cl19,HG19⟩:=Kd.R_form HO_1.out (by omega)
            (first | cases eo19 | (injection eo19 with ea_ en_ ec_;(first | subst ea_ | (injection ea_ with ea_;subst ea_));subst ec_;clear en_))
            have GB19:=zz31 gb19
            have GG19:=zz31 HG19
            clear gb19 gl19 HG19
            have HMgo19:=zz31 (show (P1_ go19 ∨ w.heap.size≤go19) from (HO_1.out.1 _ rfl))
            obtain ⟨hx19_0,hf19_0⟩:=Kd.R_celln 0 HO_1.out (a2:Int) p19 q19
            replace p19:=eq_true p19
            replace q19:=eq_true q19
            have HP23:=Kd.R_putg HO_1.out (a2:Int) x9_1
            go_wp2_with (first | ((with_reducible refine gate_store (t:=3) (p:=48) rfl ?_);refine store_event (t:=3) (p:=48) (v:=?vo_w24) (w1:=(wr.setCell ⟨go19,(a2:Int).toNat,none⟩ (.int .i64 x9_1))) ?hg ?ho ?hn ?hr ?_;(case ho=>rfl);(case hg=>rfl);(case hn=>rfl);(case hr=>first | (go_simp;done) | (go_simp;rfl));intro w24 hw;have hg:wr.grownBy w24 (some go19):=(by rw [hw];exact HP23.2);have hp_:Kd.R (Kd.int .i64) 3 w24 w0.heap.size (fun k_=>(P1_ k_ ∨ w.heap.size≤k_)) (.slice (some ⟨go19,0,none⟩) x1_1.length co19) y407:=(by rw [hw,Ny407.out];exact HP23.1);clear HP23;have n0_:=zz31 (hp_);have n1_:=zz31 ((by rw [hw];exact zz3 (HB.out) GB19.out:Below w0.heap.size w0 w24));have n2_:=zz31 (Kept.of_grown (S:=(fun k_=>P1_ k_)) hg (by repeat (first | (with_reducible first | exact HK.out | apply Kept.alloc | apply Kept.drewN | apply Kept.drew) | exact HK.out)) (fun k_ e_=>(HO_1.out.1 k_ e_)));clear HO_1;clear HB;clear HK;have HO_1:=n0_;have HB:=n1_;have HK:=n2_;clear n0_ n1_ n2_;clear hg hw hp_) | (go_at_call 72;(with_reducible refine (ih k2 (by have:=HK1.out;have:=HK2.out;omega) _ _ l0 (fun k_=>some k_=(.slice (some ⟨go19,0,none⟩) x1_1.length co19:Value).ownBlock) (.slice (some ⟨go19,0,none⟩) x1_1.length co19) y407 (wrap64 (a2+1)) a3 true t409 w0 _ ?side1 ?side2 ?side3 ?side4 A21.out).mono ?_);(case side1=>repeat first | exact HB.out | apply zz2 | apply zz0 | apply zz1);(case side2=>exact Kd.C_kept_call HR0.out (by repeat (first | (with_reducible first | exact HK.out | apply Kept.alloc | apply Kept.drewN | apply Kept.drew) | exact HK.out)) (fun k_ hs_=>(fun e_=>(HO_1.out.1 k_ e_.symm)) hs_));(case side3=>exact HC0.out);(case side4=>exact Kd.R_tight rfl HO_1.out);rintro e w25 ⟨rfl,hy0,hb,hkp⟩;have n0_:=zz31 (Kd.R_reok rfl hy0 (fun k_ e_=>HO_1.out.1 k_ e_));have n1_:=zz31 (Kept.then_ (S:=(fun k_=>P1_ k_)) (by repeat (first | (with_reducible first | exact HK.out | apply Kept.alloc | apply Kept.drewN | apply Kept.drew) | exact HK.out)) hkp (fun k_ hs_=>(fun e_=>(HO_1.out.1 k_ e_.symm)) hs_));have n2_:=zz31 (hb);clear HO_1;clear HK;clear HB;have HO_1:=n0_;have HK:=n1_;have HB:=n2_;clear n0_ n1_ n2_;(try clear hb);(try clear hkp);(try clear hy0)))
            go_ret
            exact ⟨by first | rfl | (simp [errW_none,errW_some] <;> rfl) | (simp [*,errW_none,errW_some] <;> rfl),by (with_reducible repeat (first | apply zz12 | apply zz13 | apply zz14));exact HO_1.out,by repeat first | exact HB.out | apply zz2 | apply zz0 | apply zz1,by repeat (first | (with_reducible first | exact HK.out | apply Kept.alloc | apply Kept.drewN | apply Kept.drew) | exact HK.out)⟩
           ·replace c22:=Bool.eq_false_iff.mpr c22
            subst c22
            have H1:(spec_grColour.l0 k2 l0 t409 a2 a3 (wrap64 (x9_1+1)))=some (r1,r2):=by rw [if_neg (show ¬ (false=true) by decide)] at H;exact H
            clear H
            have H:=H1
            clear H1
            have H':=zz31 H
            clear H
            have p19:0≤(a2:Int):=zz29 (by first | (with_reducible assumption) | assumption)
            have q19:(a2:Int) < ((x1_1.length:Int):Int):=zz29 (by first | (with_reducible assumption) | assumption)
            obtain ⟨go19,co19,eo19,gb19,gl19,cl19,HG19⟩:=Kd.R_form HO_1.out (by omega)
            (first | cases eo19 | (injection eo19 with ea_ en_ ec_;(first | subst ea_ | (injection ea_ with ea_;subst ea_));subst ec_;clear en_))
            have GB19:=zz31 gb19
            have GG19:=zz31 HG19
            clear gb19 gl19 HG19
            have HMgo19:=zz31 (show (P1_ go19 ∨ w.heap.size≤go19) from (HO_1.out.1 _ rfl))
            obtain ⟨hx19_0,hf19_0⟩:=Kd.R_celln 0 HO_1.out (a2:Int) p19 q19
            replace p19:=eq_true p19
            replace q19:=eq_true q19
            have HP26:=Kd.R_putg HO_1.out (a2:Int) x9_1
            go_wp2_with (first | ((with_reducible refine gate_store (t:=3) (p:=48) rfl ?_);refine store_event (t:=3) (p:=48) (v:=?vo_w27) (w1:=(wr.setCell ⟨go19,(a2:Int).toNat,none⟩ (.int .i64 x9_1))) ?hg ?ho ?hn ?hr ?_;(case ho=>rfl);(case hg=>rfl);(case hn=>rfl);(case hr=>first | (go_simp;done) | (go_simp;rfl));intro w27 hw;have hg:wr.grownBy w27 (some go19):=(by rw [hw];exact HP26.2);have hp_:Kd.R (Kd.int .i64) 3 w27 w0.heap.size (fun k_=>(P1_ k_ ∨ w.heap.size≤k_)) (.slice (some ⟨go19,0,none⟩) x1_1.length co19) y407:=(by rw [hw,Ny407.out];exact HP26.1);clear HP26;have n0_:=zz31 (hp_);have n1_:=zz31 ((by rw [hw];exact zz3 (HB.out) GB19.out:Below w0.heap.size w0 w27));have n2_:=zz31 (Kept.of_grown (S:=(fun k_=>P1_ k_)) hg (by repeat (first | (with_reducible first | exact HK.out | apply Kept.alloc | apply Kept.drewN | apply Kept.drew) | exact HK.out)) (fun k_ e_=>(HO_1.out.1 k_ e_)));clear HO_1;clear HB;clear HK;have HO_1:=n0_;have HB:=n1_;have HK:=n2_;clear n0_ n1_ n2_;clear hg hw hp_) | (go_at_call 72;(with_reducible refine (ih k2 (by have:=HK1.out;have:=HK2.out;omega) _ _ l0 (fun k_=>some k_=(.slice (some ⟨go19,0,none⟩) x1_1.length co19:Value).ownBlock) (.slice (some ⟨go19,0,none⟩) x1_1.length co19) y407 (wrap64 (a2+1)) a3 false t409 w0 _ ?side1 ?side2 ?side3 ?side4 A21.out).mono ?_);(case side1=>repeat first | exact HB.out | apply zz2 | apply zz0 | apply zz1);(case side2=>exact Kd.C_kept_call HR0.out (by repeat (first | (with_reducible first | exact HK.out | apply Kept.alloc | apply Kept.drewN | apply Kept.drew) | exact HK.out)) (fun k_ hs_=>(fun e_=>(HO_1.out.1 k_ e_.symm)) hs_));(case side3=>exact HC0.out);(case side4=>exact Kd.R_tight rfl HO_1.out);rintro e w28 ⟨rfl,hy0,hb,hkp⟩;have n0_:=zz31 (Kd.R_reok rfl hy0 (fun k_ e_=>HO_1.out.1 k_ e_));have n1_:=zz31 (Kept.then_ (S:=(fun k_=>P1_ k_)) (by repeat (first | (with_reducible first | exact HK.out | apply Kept.alloc | apply Kept.drewN | apply Kept.drew) | exact HK.out)) hkp (fun k_ hs_=>(fun e_=>(HO_1.out.1 k_ e_.symm)) hs_));have n2_:=zz31 (hb);clear HO_1;clear HK;clear HB;have HO_1:=n0_;have HK:=n1_;have HB:=n2_;clear n0_ n1_ n2_;(try clear hb);(try clear hkp);(try clear hy0)))
            go_roundg k2
            case measure=>have:=HK1.out;have:=HK2.out;omega
            case rel=>exact ⟨(t409),(wrap64 (x9_1+1)),(by first | rfl | (simp;done) | (simp [*];done)),H',⟨by have:=HK1.out;have:=HK2.out;omega⟩,⟨by (with_reducible repeat (first | apply zz12 | apply zz13 | apply zz14));exact HO_1.out⟩,⟨by repeat (first | (with_reducible first | exact HK.out | apply Kept.alloc | apply Kept.drewN | apply Kept.drew) | exact HK.out)⟩,⟨by repeat first | exact HB.out | apply zz2 | apply zz0 | apply zz1⟩⟩
          ·replace c20:=Bool.eq_false_iff.mpr c20
           subst c20
           have H1:(spec_grColour.l0 k2 l0 y407 a2 a3 (wrap64 (x9_1+1)))=some (r1,r2):=by rw [if_neg (show ¬ (false=true) by decide)] at H;exact H
           clear H
           have H:=H1
           clear H1
           have H':=zz31 H
           clear H
           have p19:0≤(a2:Int):=zz29 (by first | (with_reducible assumption) | assumption)
           have q19:(a2:Int) < ((x1_1.length:Int):Int):=zz29 (by first | (with_reducible assumption) | assumption)
           obtain ⟨go19,co19,eo19,gb19,gl19,cl19,HG19⟩:=Kd.R_form HO_1.out (by omega)
           (first | cases eo19 | (injection eo19 with ea_ en_ ec_;(first | subst ea_ | (injection ea_ with ea_;subst ea_));subst ec_;clear en_))
           have GB19:=zz31 gb19
           have GG19:=zz31 HG19
           clear gb19 gl19 HG19
           have HMgo19:=zz31 (show (P1_ go19 ∨ w.heap.size≤go19) from (HO_1.out.1 _ rfl))
           obtain ⟨hx19_0,hf19_0⟩:=Kd.R_celln 0 HO_1.out (a2:Int) p19 q19
           replace p19:=eq_true p19
           replace q19:=eq_true q19
           have HP29:=Kd.R_putg HO_1.out (a2:Int) x9_1
           go_wp2_with (first | ((with_reducible refine gate_store (t:=3) (p:=48) rfl ?_);refine store_event (t:=3) (p:=48) (v:=?vo_w30) (w1:=(wr.setCell ⟨go19,(a2:Int).toNat,none⟩ (.int .i64 x9_1))) ?hg ?ho ?hn ?hr ?_;(case ho=>rfl);(case hg=>rfl);(case hn=>rfl);(case hr=>first | (go_simp;done) | (go_simp;rfl));intro w30 hw;have hg:wr.grownBy w30 (some go19):=(by rw [hw];exact HP29.2);have hp_:Kd.R (Kd.int .i64) 3 w30 w0.heap.size (fun k_=>(P1_ k_ ∨ w.heap.size≤k_)) (.slice (some ⟨go19,0,none⟩) x1_1.length co19) y407:=(by rw [hw,Ny407.out];exact HP29.1);clear HP29;have n0_:=zz31 (hp_);have n1_:=zz31 ((by rw [hw];exact zz3 (HB.out) GB19.out:Below w0.heap.size w0 w30));have n2_:=zz31 (Kept.of_grown (S:=(fun k_=>P1_ k_)) hg (by repeat (first | (with_reducible first | exact HK.out | apply Kept.alloc | apply Kept.drewN | apply Kept.drew) | exact HK.out)) (fun k_ e_=>(HO_1.out.1 k_ e_)));clear HO_1;clear HB;clear HK;have HO_1:=n0_;have HB:=n1_;have HK:=n2_;clear n0_ n1_ n2_;clear hg hw hp_))
           go_roundg k2
           case measure=>have:=HK1.out;have:=HK2.out;omega
           case rel=>exact ⟨(y407),(wrap64 (x9_1+1)),(by first | rfl | (simp;done) | (simp [*];done)),H',⟨by have:=HK1.out;have:=HK2.out;omega⟩,⟨by (with_reducible repeat (first | apply zz12 | apply zz13 | apply zz14));exact HO_1.out⟩,⟨by repeat (first | (with_reducible first | exact HK.out | apply Kept.alloc | apply Kept.drewN | apply Kept.drew) | exact HK.out)⟩,⟨by repeat first | exact HB.out | apply zz2 | apply zz0 | apply zz1⟩⟩
         ·rw [if_neg c18] at H
          exact absurd H (by simp)
        ·rw [if_neg c17] at H
         exact absurd H (by simp)
    ·rw [if_neg c6] at H
     have c6b0:decide (x9_1 < a3)=false:=decide_eq_false c6
     clear c6
     simp only [Option.some.injEq,Prod.mk.injEq] at H
     obtain ⟨rfl,rfl⟩:=H
     go_wp2
     go_ret
     exact ⟨by first | rfl | (simp [errW_none,errW_some] <;> rfl) | (simp [*,errW_none,errW_some] <;> rfl),by (with_reducible repeat (first | apply zz12 | apply zz13 | apply zz14));exact HO_1.out,by repeat first | exact HB.out | apply zz2 | apply zz0 | apply zz1,by repeat (first | (with_reducible first | exact HK.out | apply Kept.alloc | apply Kept.drewN | apply Kept.drew) | exact HK.out)⟩

/-! ### spec_grFewest: function 55 -/
mutual
def spec_grFewest.l0:Nat→List Int→Int→Int→List (S79)→Option (List Int × Int)
 | 0,_,_,_,_=>none
 | k+1,x4,x5,x411000,x411001=>if x5 < x411000 then ((spec_paTable.f k x411000 x411001).bind fun t414=>((spec_grColour.f k t414 x4 0 x5).bind fun bt417=>(if bt417.1=true then (some (bt417.2,x5)) else (spec_grFewest.l0 k bt417.2 (wrap64 (x5+1)) x411000 x411001)))) else (spec_grFewest.l1 k x4 (x4.length:Int) 0 x411000 x411001)
def spec_grFewest.l1:Nat→List Int→Int→Int→Int→List (S79)→Option (List Int × Int)
 | 0,_,_,_,_,_=>none
 | k+1,x4,x24,x25,x411000,x411001=>if x25 < x24 then (if 0≤x25 then (if x25 < (x4.length:Int) then (spec_grFewest.l1 k (x4.set (x25:Int).toNat x25) x24 (wrap64 (x25+1)) x411000 x411001) else (none)) else (none)) else (some (x4,x411000))
end
def spec_grFewest.f (k:Nat) (a0_0:Int) (l0_1:List (S79)):Option (List Int × Int):=if 0≤a0_0 then (if (a0_0:Int).toNat≤35184372088832 then (spec_grFewest.l0 k (List.replicate (a0_0:Int).toNat 0) 0 a0_0 l0_1) else (none)) else (none)
theorem spec_grFewest.mono_l:∀ k,(∀ y0 y1 y2 y3,LeO (spec_grFewest.l0 k y0 y1 y2 y3) (spec_grFewest.l0 (k+1) y0 y1 y2 y3))∧(∀ y0 y1 y2 y3 y4,LeO (spec_grFewest.l1 k y0 y1 y2 y3 y4) (spec_grFewest.l1 (k+1) y0 y1 y2 y3 y4))
 | 0=>⟨fun _ _ _ _ r h=>by simp [spec_grFewest.l0] at h,fun _ _ _ _ _ r h=>by simp [spec_grFewest.l1] at h⟩
 | k+1=>by
  obtain ⟨ih0,ih1⟩:=spec_grFewest.mono_l k
  refine ⟨?_,?_⟩
  ·intro y0 y1 y2 y3
   unfold spec_grFewest.l0
   repeat' first
   | (with_reducible exact ih0 _ _ _ _)
   | (with_reducible exact ih1 _ _ _ _ _)
   | (with_reducible exact spec_grColour.mono _ _ _ _ _)
   | (with_reducible exact spec_paTable.mono _ _ _)
   | (with_reducible exact LeO.refl _)
   | (with_reducible exact LeO.none _)
   | (with_reducible refine LeO.ite ?_ ?_)
   | (with_reducible refine LeO.bind ?_ (fun _=>?_))
   | exact ih0 _ _ _ _
   | exact ih1 _ _ _ _ _
   | exact spec_grColour.mono _ _ _ _ _
   | exact spec_paTable.mono _ _ _
   | exact LeO.none _
   | refine LeO.ite ?_ ?_
   | refine LeO.bind ?_ (fun _=>?_)
  ·intro y0 y1 y2 y3 y4
   unfold spec_grFewest.l1
   repeat' first
   | (with_reducible exact ih0 _ _ _ _)
   | (with_reducible exact ih1 _ _ _ _ _)
   | (with_reducible exact spec_grColour.mono _ _ _ _ _)
   | (with_reducible exact spec_paTable.mono _ _ _)
   | (with_reducible exact LeO.refl _)
   | (with_reducible exact LeO.none _)
   | (with_reducible refine LeO.ite ?_ ?_)
   | (with_reducible refine LeO.bind ?_ (fun _=>?_))
   | exact ih0 _ _ _ _
   | exact ih1 _ _ _ _ _
   | exact spec_grColour.mono _ _ _ _ _
   | exact spec_paTable.mono _ _ _
   | exact LeO.none _
   | refine LeO.ite ?_ ?_
   | refine LeO.bind ?_ (fun _=>?_)
theorem spec_grFewest.mono:∀ a0 a1 k,LeO (spec_grFewest.f k a0 a1) (spec_grFewest.f (k+1) a0 a1):=by
 intro a0 a1 k
 obtain ⟨ih0,ih1⟩:=spec_grFewest.mono_l k
 unfold spec_grFewest.f
 repeat' first
   | (with_reducible exact ih0 _ _ _ _)
   | (with_reducible exact ih1 _ _ _ _ _)
   | (with_reducible exact spec_grColour.mono _ _ _ _ _)
   | (with_reducible exact spec_paTable.mono _ _ _)
   | (with_reducible exact LeO.refl _)
   | (with_reducible exact LeO.none _)
   | (with_reducible refine LeO.ite ?_ ?_)
   | (with_reducible refine LeO.bind ?_ (fun _=>?_))
   | exact ih0 _ _ _ _
   | exact ih1 _ _ _ _ _
   | exact spec_grColour.mono _ _ _ _ _
   | exact spec_paTable.mono _ _ _
   | exact LeO.none _
   | refine LeO.ite ?_ ?_
   | refine LeO.bind ?_ (fun _=>?_)
set_option maxHeartbeats 8000000 in
set_option maxRecDepth 100000 in
theorem spec_grFewest.calls (k:Nat) (a0_0:Int) (A0_1:Option Addr) (c0_1:Nat) (l0_1:List (S79)) (r1:List Int) (r2:Int) (w:World) (hr0_1:Kd.C k79 w A0_1 l0_1.length l0_1) (hc0_1:l0_1.length≤c0_1) (h:spec_grFewest.f k a0_0 l0_1=some (r1,r2)) :
  Calls Try.prog 55 #[.agg #[.int .i64 a0_0,.slice A0_1 l0_1.length c0_1]] w fun e w'=>∃ v0_:Value,e=.returned (.tuple #[v0_,.int .i64 r2])∧Kd.R (Kd.int .i64) 3 w' w.heap.size (fun _=>True) v0_ r1∧Below w.heap.size w w':=by
 have hu31:=Try.underlying31
 have HR0_1:=zz31 hr0_1
 have HC0_1:=zz31 hc0_1
 clear hr0_1 hc0_1
 have HB:=zz31 (Below.refl w.heap.size w)
 have H:(if 0≤a0_0 then (if (a0_0:Int).toNat≤35184372088832 then (spec_grFewest.l0 k (List.replicate (a0_0:Int).toNat 0) 0 a0_0 l0_1) else (none)) else (none))=some (r1,r2):=h
 clear h
 by_cases c2:0≤a0_0
 ·rw [if_pos c2] at H
  have c2b0:=eq_true c2
  have c2b1:decide (0≤a0_0)=true:=decide_eq_true c2
  clear c2
  by_cases c3:(a0_0:Int).toNat≤35184372088832
  ·rw [if_pos c3] at H
   have c3b0:=eq_true c3
   have c3b1:decide ((a0_0:Int).toNat≤35184372088832)=true:=decide_eq_true c3
   clear c3
   obtain ⟨y411,hy411⟩:∃ y_:List Int,y_=(List.replicate (a0_0:Int).toNat 0):=⟨_,rfl⟩
   replace H:(spec_grFewest.l0 k y411 0 a0_0 l0_1)=some (r1,r2):=by first | (rw [hy411];with_reducible exact H) | (have H2_:=(Option.bind_some _ _).symm.trans H;rw [hy411];with_reducible exact H2_) | (have H2_:=(Option.bind_some _ _).symm.trans H;with_reducible exact H2_) | with_reducible exact H | (rw [hy411];exact H) | exact H
   have Ny411:=zz31 hy411
   clear hy411
   have H':=zz31 H
   clear H
   go_enter Try.func55,Try.ntmps55
   go_wp2_with (first | ((with_reducible refine gate_dst (N:=1) rfl ?_);refine box_event ?hg (N:=1) ?hd (cs:=#[.int .i64 a0_0,.slice A0_1 l0_1.length c0_1]) (t:=31) ?hr ?_;(case hd=>rfl);(case hg=>rfl);(case hr=>first | (go_simp;done) | (go_simp;rfl));intro gb410 hg w4 hbox hb;have n0_:=zz31 (zz4 (by repeat first | exact HB.out | apply zz2 | apply zz0 | apply zz1) hb);have n1_:=zz31 (hbox);have n2_:=zz31 ((by rw [hg];exact (zz5 (by repeat first | exact HB.out | apply zz2 | apply zz0 | apply zz1)):w.heap.size≤gb410));have n3_:=zz31 ((by rw [hg];exact (zz5 (by repeat first | exact HB.out | apply zz2 | apply zz0 | apply zz1)):w.heap.size≤gb410));clear HB;have HB:=n0_;have BK410:=n1_;have GW410:=n2_;have GE410:=n3_;clear n0_ n1_ n2_ n3_;clear hb hbox hg;have hcz5_0:w4.cell? ⟨gb410,0,none⟩=some (.int .i64 a0_0):=(zz9 BK410.out 0).trans rfl;have hcz5_1:w4.cell? ⟨gb410,1,none⟩=some (.slice A0_1 l0_1.length c0_1):=(zz9 BK410.out 1).trans rfl;have hfz5_0:=zz10 BK410.out 0;have hfz5_1:=zz10 BK410.out 1) | ((with_reducible refine gate_dst (N:=9) rfl ?_);refine Kd.R_make (Kd.int .i64) _ 3 rfl (N:=9) rfl 25 _ _ rfl a0_0 rfl rfl Try.underlying25 (.int .i64 0) 8 info3 rfl (by decide) (by omega) 0 (ok:=fun _=>True) (okp:=fun _=>True) rfl (fun _ hk=>hk) trivial (zz29 (by first | (with_reducible assumption) | assumption)) (Nat.le_trans (Nat.mul_le_mul_right _ (zz29 (by first | (with_reducible assumption) | assumption):a0_0.toNat≤35184372088832)) (by omega)) (Below.refl _ _) (Nat.le_refl _) ?_;intro v412 w6 ho7 hb hg_ hnew_;clear hg_ hnew_;(first | rw [← Ny411.out] at ho7 | (simp only [Int.reduceToNat] at ho7;rw [← Ny411.out] at ho7));have n0_:=zz31 (Kd.R_lower ho7 (zz5 (by repeat first | exact HB.out | apply zz2 | apply zz0 | apply zz1 | refine zz3 ?_ GE410.out)));have n1_:=zz31 (zz11 (g:=gb410) (o:=.cells #[.int .i64 a0_0,.slice A0_1 l0_1.length c0_1] 31 (0,0)) (by (with_reducible repeat (first | refine zz6 ?_ _ | refine zz7 ?_ | refine zz8 ?_ _));exact BK410.out) hb);have n2_:=zz31 (zz4 (by repeat first | exact HB.out | apply zz2 | apply zz0 | apply zz1 | refine zz3 ?_ GE410.out) hb);clear BK410;clear HB;have HO413:=n0_;have BK410:=n1_;have HB:=n2_;clear n0_ n1_ n2_;clear hb ho7))
   repeat (go_quiet (first | ((with_reducible refine gate_dst (N:=1) rfl ?_);refine box_event ?hg (N:=1) ?hd (cs:=#[.int .i64 a0_0,.slice A0_1 l0_1.length c0_1]) (t:=31) ?hr ?_;(case hd=>rfl);(case hg=>rfl);(case hr=>first | (go_simp;done) | (go_simp;rfl));intro gb410 hg w4 hbox hb;have n0_:=zz31 (zz4 (by repeat first | exact HB.out | apply zz2 | apply zz0 | apply zz1) hb);have n1_:=zz31 (hbox);have n2_:=zz31 ((by rw [hg];exact (zz5 (by repeat first | exact HB.out | apply zz2 | apply zz0 | apply zz1)):w.heap.size≤gb410));have n3_:=zz31 ((by rw [hg];exact (zz5 (by repeat first | exact HB.out | apply zz2 | apply zz0 | apply zz1)):w.heap.size≤gb410));clear HB;have HB:=n0_;have BK410:=n1_;have GW410:=n2_;have GE410:=n3_;clear n0_ n1_ n2_ n3_;clear hb hbox hg;have hcz5_0:w4.cell? ⟨gb410,0,none⟩=some (.int .i64 a0_0):=(zz9 BK410.out 0).trans rfl;have hcz5_1:w4.cell? ⟨gb410,1,none⟩=some (.slice A0_1 l0_1.length c0_1):=(zz9 BK410.out 1).trans rfl;have hfz5_0:=zz10 BK410.out 0;have hfz5_1:=zz10 BK410.out 1) | ((with_reducible refine gate_dst (N:=9) rfl ?_);refine Kd.R_make (Kd.int .i64) _ 3 rfl (N:=9) rfl 25 _ _ rfl a0_0 rfl rfl Try.underlying25 (.int .i64 0) 8 info3 rfl (by decide) (by omega) 0 (ok:=fun _=>True) (okp:=fun _=>True) rfl (fun _ hk=>hk) trivial (zz29 (by first | (with_reducible assumption) | assumption)) (Nat.le_trans (Nat.mul_le_mul_right _ (zz29 (by first | (with_reducible assumption) | assumption):a0_0.toNat≤35184372088832)) (by omega)) (Below.refl _ _) (Nat.le_refl _) ?_;intro v412 w6 ho7 hb hg_ hnew_;clear hg_ hnew_;(first | rw [← Ny411.out] at ho7 | (simp only [Int.reduceToNat] at ho7;rw [← Ny411.out] at ho7));have n0_:=zz31 (Kd.R_lower ho7 (zz5 (by repeat first | exact HB.out | apply zz2 | apply zz0 | apply zz1 | refine zz3 ?_ GE410.out)));have n1_:=zz31 (zz11 (g:=gb410) (o:=.cells #[.int .i64 a0_0,.slice A0_1 l0_1.length c0_1] 31 (0,0)) (by (with_reducible repeat (first | refine zz6 ?_ _ | refine zz7 ?_ | refine zz8 ?_ _));exact BK410.out) hb);have n2_:=zz31 (zz4 (by repeat first | exact HB.out | apply zz2 | apply zz0 | apply zz1 | refine zz3 ?_ GE410.out) hb);clear BK410;clear HB;have HO413:=n0_;have BK410:=n1_;have HB:=n2_;clear n0_ n1_ n2_;clear hb ho7));try go_wp2_with (first | ((with_reducible refine gate_dst (N:=1) rfl ?_);refine box_event ?hg (N:=1) ?hd (cs:=#[.int .i64 a0_0,.slice A0_1 l0_1.length c0_1]) (t:=31) ?hr ?_;(case hd=>rfl);(case hg=>rfl);(case hr=>first | (go_simp;done) | (go_simp;rfl));intro gb410 hg w4 hbox hb;have n0_:=zz31 (zz4 (by repeat first | exact HB.out | apply zz2 | apply zz0 | apply zz1) hb);have n1_:=zz31 (hbox);have n2_:=zz31 ((by rw [hg];exact (zz5 (by repeat first | exact HB.out | apply zz2 | apply zz0 | apply zz1)):w.heap.size≤gb410));have n3_:=zz31 ((by rw [hg];exact (zz5 (by repeat first | exact HB.out | apply zz2 | apply zz0 | apply zz1)):w.heap.size≤gb410));clear HB;have HB:=n0_;have BK410:=n1_;have GW410:=n2_;have GE410:=n3_;clear n0_ n1_ n2_ n3_;clear hb hbox hg;have hcz5_0:w4.cell? ⟨gb410,0,none⟩=some (.int .i64 a0_0):=(zz9 BK410.out 0).trans rfl;have hcz5_1:w4.cell? ⟨gb410,1,none⟩=some (.slice A0_1 l0_1.length c0_1):=(zz9 BK410.out 1).trans rfl;have hfz5_0:=zz10 BK410.out 0;have hfz5_1:=zz10 BK410.out 1) | ((with_reducible refine gate_dst (N:=9) rfl ?_);refine Kd.R_make (Kd.int .i64) _ 3 rfl (N:=9) rfl 25 _ _ rfl a0_0 rfl rfl Try.underlying25 (.int .i64 0) 8 info3 rfl (by decide) (by omega) 0 (ok:=fun _=>True) (okp:=fun _=>True) rfl (fun _ hk=>hk) trivial (zz29 (by first | (with_reducible assumption) | assumption)) (Nat.le_trans (Nat.mul_le_mul_right _ (zz29 (by first | (with_reducible assumption) | assumption):a0_0.toNat≤35184372088832)) (by omega)) (Below.refl _ _) (Nat.le_refl _) ?_;intro v412 w6 ho7 hb hg_ hnew_;clear hg_ hnew_;(first | rw [← Ny411.out] at ho7 | (simp only [Int.reduceToNat] at ho7;rw [← Ny411.out] at ho7));have n0_:=zz31 (Kd.R_lower ho7 (zz5 (by repeat first | exact HB.out | apply zz2 | apply zz0 | apply zz1 | refine zz3 ?_ GE410.out)));have n1_:=zz31 (zz11 (g:=gb410) (o:=.cells #[.int .i64 a0_0,.slice A0_1 l0_1.length c0_1] 31 (0,0)) (by (with_reducible repeat (first | refine zz6 ?_ _ | refine zz7 ?_ | refine zz8 ?_ _));exact BK410.out) hb);have n2_:=zz31 (zz4 (by repeat first | exact HB.out | apply zz2 | apply zz0 | apply zz1 | refine zz3 ?_ GE410.out) hb);clear BK410;clear HB;have HO413:=n0_;have BK410:=n1_;have HB:=n2_;clear n0_ n1_ n2_;clear hb ho7)))
   go_loopg [5] k (fun kq v5 w'=>∃ (x4_1:List Int) (x5_1:Int),v5=.int .i64 x5_1∧Aside0 (spec_grFewest.l0 kq x4_1 x5_1 a0_0 l0_1=some (r1,r2))∧Aside0 (kq≤k)∧Aside0 (Kd.R (Kd.int .i64) 3 w' w.heap.size (fun _=>True) v412 x4_1)∧Aside0 (w'.heap[gb410]?=some (.cells #[.int .i64 a0_0,(.slice A0_1 l0_1.length c0_1)] 31 (0,0)))∧Aside0 (Below w.heap.size w w'))
   case atStart=>exact ⟨(y411),(0),(by first | rfl | (simp;done) | (simp [*];done)),H',⟨Nat.le_refl _⟩,⟨by (with_reducible repeat (first | apply zz12 | apply zz13 | apply zz14));exact HO413.out⟩,⟨by (with_reducible repeat (first | refine zz6 ?_ _ | refine zz7 ?_ | refine zz8 ?_ _));exact BK410.out⟩,⟨by repeat first | exact HB.out | apply zz2 | apply zz0 | apply zz1 | refine zz3 ?_ GE410.out⟩⟩
   case round =>
    clear H'
    try clear c2
    try clear c2b0
    try clear c2b1
    try clear p2
    try clear c3
    try clear c3b0
    try clear c3b1
    try clear c5
    try clear hcz5_0
    try clear hcz5_1
    try clear hfz5_0
    try clear hfz5_1
    obtain ⟨x4_1,x5_1,rfl,HA,HK1,HO_4,BK410,HB⟩:=hrel
    cases gk with
    | zero=>exact absurd HA.out (by simp [spec_grFewest.l0])
    | succ k1 =>
     have H:=HA.out
     clear HA
     simp only [spec_grFewest.l0] at H
     by_cases c8:x5_1 < a0_0
     ·rw [if_pos c8] at H
      have c8b0:decide (x5_1 < a0_0)=true:=decide_eq_true c8
      clear c8
      replace H:=zz30.mp H
      obtain ⟨t414,A90,H⟩:=H
      replace H:((spec_grColour.f k1 t414 x4_1 0 x5_1).bind fun bt417=>(if bt417.1=true then (some (bt417.2,x5_1)) else (spec_grFewest.l0 k1 bt417.2 (wrap64 (x5_1+1)) a0_0 l0_1)))=some (r1,r2):=H
      have A9:=zz31 A90
      clear A90
      replace H:=zz30.mp H
      obtain ⟨⟨t417,t418⟩,A100,H⟩:=H
      replace H:(if t417=true then (some (t418,x5_1)) else (spec_grFewest.l0 k1 t418 (wrap64 (x5_1+1)) a0_0 l0_1))=some (r1,r2):=H
      have A10:=zz31 A100
      clear A100
      by_cases c11:t417=true
      ·subst c11
       have H1:(some (t418,x5_1))=some (r1,r2):=by rw [if_pos rfl] at H;exact H
       clear H
       have H:=H1
       clear H1
       simp only [Option.some.injEq,Prod.mk.injEq] at H
       obtain ⟨rfl,rfl⟩:=H
       have hcz12_0:wr.cell? ⟨gb410,0,none⟩=some (.int .i64 a0_0):=(zz9 BK410.out 0).trans rfl
       have hcz12_1:wr.cell? ⟨gb410,1,none⟩=some (.slice A0_1 l0_1.length c0_1):=(zz9 BK410.out 1).trans rfl
       have hfz12_0:=zz10 BK410.out 0
       have hfz12_1:=zz10 BK410.out 1
       go_wp2_with (first | (go_at_call 34;(with_reducible refine (spec_paTable.calls k1 a0_0 _ _ l0_1 t414 _ ?side1 ?side2 A9.out).mono ?_);(case side1=>repeat (first | exact (Kd.C_below HR0_1.out HB.out) | (with_reducible refine zz18 ?_ _) | (with_reducible refine zz19 ?_ _) | (with_reducible refine zz20 ?_)));(case side2=>exact HC0_1.out);rintro e w13 ⟨v415,rfl,ho0,hb⟩;have n0_:=zz31 (Kd.R_below (by (with_reducible repeat (first | apply zz12 | apply zz13 | apply zz14));exact HO_4.out) hb);have n1_:=zz31 (Kd.S_lower ho0 (zz5 (by repeat first | exact HB.out | apply zz2 | apply zz0 | apply zz1 | refine zz3 ?_ GE410.out)));have n2_:=zz31 (zz11 (g:=gb410) (o:=.cells #[.int .i64 a0_0,.slice A0_1 l0_1.length c0_1] 31 (0,0)) (by (with_reducible repeat (first | refine zz6 ?_ _ | refine zz7 ?_ | refine zz8 ?_ _));exact BK410.out) hb);have n3_:=zz31 (zz4 (by repeat first | exact HB.out | apply zz2 | apply zz0 | apply zz1 | refine zz3 ?_ GE410.out) hb);clear HO_4;clear BK410;clear HB;have HO_4:=n0_;have HO416:=n1_;have BK410:=n2_;have HB:=n3_;clear n0_ n1_ n2_ n3_;(try clear hb);(try clear hb2);(try clear hk);(try clear hi);(try clear ho0);obtain ⟨Ao14,co14,eo14⟩:=Kd.S_slice HO416.out;subst eo14;obtain ⟨Ao15,co15,eo15⟩:=Kd.R_slice HO_4.out;subst eo15) | (go_at_call 72;(with_reducible refine (spec_grColour.calls k1 _ _ t414 (fun k_=>some k_=(.slice Ao15 x4_1.length co15:Value).ownBlock) (.slice Ao15 x4_1.length co15) x4_1 0 x5_1 true t418 w _ ?side1 ?side2 ?side3 ?side4 A10.out).mono ?_);(case side1=>repeat first | exact HB.out | apply zz2 | apply zz0 | apply zz1 | refine zz3 ?_ GE410.out);(case side2=>exact Kd.C_kept_own ((Kd.S_R (Kd.S_apart' HO416.out (Kd.R_typed HO_4.out) (by decide)))) (fun k_ hk_ hs_=>(hk_.2) hs_));(case side3=>exact (Kd.S_reads' HO416.out).2.1);(case side4=>exact Kd.R_tight rfl HO_4.out);rintro e w16 ⟨rfl,hy0,hb,hkp⟩;have n0_:=zz31 (Kd.R_reok rfl hy0 (fun k_ e_=>HO_4.out.1 k_ e_));(first | have n1_:=zz31 (blk_kept BK410.out hkp (fun hs_=>(fun e_=>(Kd.R_ne HO_4.out BK410.out (by decide)) e_) hs_)) | have n1_:=zz31 (blk_kept (by (with_reducible repeat (first | refine zz6 ?_ _ | refine zz7 ?_ | refine zz8 ?_ _));exact BK410.out) hkp (fun hs_=>(fun e_=>(Kd.R_ne HO_4.out BK410.out (by decide)) e_) hs_)));have n2_:=zz31 (Kd.S_mono (ok':=fun k_=>True) (Kd.S_keptB ((Kd.S_apart' HO416.out (Kd.R_typed HO_4.out) (by decide))) hkp (fun k_ hk_ hs_=>(hk_.2) hs_)) (fun k_ hk_=>trivial));have n3_:=zz31 (hb);clear HO_4;clear BK410;clear HO416;clear HB;have HO_4:=n0_;have BK410:=n1_;have HO416:=n2_;have HB:=n3_;clear n0_ n1_ n2_ n3_;(try clear hb);(try clear hkp);(try clear hy0)))
       repeat (go_quiet (first | (go_at_call 34;(with_reducible refine (spec_paTable.calls k1 a0_0 _ _ l0_1 t414 _ ?side1 ?side2 A9.out).mono ?_);(case side1=>repeat (first | exact (Kd.C_below HR0_1.out HB.out) | (with_reducible refine zz18 ?_ _) | (with_reducible refine zz19 ?_ _) | (with_reducible refine zz20 ?_)));(case side2=>exact HC0_1.out);rintro e w13 ⟨v415,rfl,ho0,hb⟩;have n0_:=zz31 (Kd.R_below (by (with_reducible repeat (first | apply zz12 | apply zz13 | apply zz14));exact HO_4.out) hb);have n1_:=zz31 (Kd.S_lower ho0 (zz5 (by repeat first | exact HB.out | apply zz2 | apply zz0 | apply zz1 | refine zz3 ?_ GE410.out)));have n2_:=zz31 (zz11 (g:=gb410) (o:=.cells #[.int .i64 a0_0,.slice A0_1 l0_1.length c0_1] 31 (0,0)) (by (with_reducible repeat (first | refine zz6 ?_ _ | refine zz7 ?_ | refine zz8 ?_ _));exact BK410.out) hb);have n3_:=zz31 (zz4 (by repeat first | exact HB.out | apply zz2 | apply zz0 | apply zz1 | refine zz3 ?_ GE410.out) hb);clear HO_4;clear BK410;clear HB;have HO_4:=n0_;have HO416:=n1_;have BK410:=n2_;have HB:=n3_;clear n0_ n1_ n2_ n3_;(try clear hb);(try clear hb2);(try clear hk);(try clear hi);(try clear ho0);obtain ⟨Ao14,co14,eo14⟩:=Kd.S_slice HO416.out;subst eo14;obtain ⟨Ao15,co15,eo15⟩:=Kd.R_slice HO_4.out;subst eo15) | (go_at_call 72;(with_reducible refine (spec_grColour.calls k1 _ _ t414 (fun k_=>some k_=(.slice Ao15 x4_1.length co15:Value).ownBlock) (.slice Ao15 x4_1.length co15) x4_1 0 x5_1 true t418 w _ ?side1 ?side2 ?side3 ?side4 A10.out).mono ?_);(case side1=>repeat first | exact HB.out | apply zz2 | apply zz0 | apply zz1 | refine zz3 ?_ GE410.out);(case side2=>exact Kd.C_kept_own ((Kd.S_R (Kd.S_apart' HO416.out (Kd.R_typed HO_4.out) (by decide)))) (fun k_ hk_ hs_=>(hk_.2) hs_));(case side3=>exact (Kd.S_reads' HO416.out).2.1);(case side4=>exact Kd.R_tight rfl HO_4.out);rintro e w16 ⟨rfl,hy0,hb,hkp⟩;have n0_:=zz31 (Kd.R_reok rfl hy0 (fun k_ e_=>HO_4.out.1 k_ e_));(first | have n1_:=zz31 (blk_kept BK410.out hkp (fun hs_=>(fun e_=>(Kd.R_ne HO_4.out BK410.out (by decide)) e_) hs_)) | have n1_:=zz31 (blk_kept (by (with_reducible repeat (first | refine zz6 ?_ _ | refine zz7 ?_ | refine zz8 ?_ _));exact BK410.out) hkp (fun hs_=>(fun e_=>(Kd.R_ne HO_4.out BK410.out (by decide)) e_) hs_)));have n2_:=zz31 (Kd.S_mono (ok':=fun k_=>True) (Kd.S_keptB ((Kd.S_apart' HO416.out (Kd.R_typed HO_4.out) (by decide))) hkp (fun k_ hk_ hs_=>(hk_.2) hs_)) (fun k_ hk_=>trivial));have n3_:=zz31 (hb);clear HO_4;clear BK410;clear HO416;clear HB;have HO_4:=n0_;have BK410:=n1_;have HO416:=n2_;have HB:=n3_;clear n0_ n1_ n2_ n3_;(try clear hb);(try clear hkp);(try clear hy0)));try go_wp2_with (first | (go_at_call 34;(with_reducible refine (spec_paTable.calls k1 a0_0 _ _ l0_1 t414 _ ?side1 ?side2 A9.out).mono ?_);(case side1=>repeat (first | exact (Kd.C_below HR0_1.out HB.out) | (with_reducible refine zz18 ?_ _) | (with_reducible refine zz19 ?_ _) | (with_reducible refine zz20 ?_)));(case side2=>exact HC0_1.out);rintro e w13 ⟨v415,rfl,ho0,hb⟩;have n0_:=zz31 (Kd.R_below (by (with_reducible repeat (first | apply zz12 | apply zz13 | apply zz14));exact HO_4.out) hb);have n1_:=zz31 (Kd.S_lower ho0 (zz5 (by repeat first | exact HB.out | apply zz2 | apply zz0 | apply zz1 | refine zz3 ?_ GE410.out)));have n2_:=zz31 (zz11 (g:=gb410) (o:=.cells #[.int .i64 a0_0,.slice A0_1 l0_1.length c0_1] 31 (0,0)) (by (with_reducible repeat (first | refine zz6 ?_ _ | refine zz7 ?_ | refine zz8 ?_ _));exact BK410.out) hb);have n3_:=zz31 (zz4 (by repeat first | exact HB.out | apply zz2 | apply zz0 | apply zz1 | refine zz3 ?_ GE410.out) hb);clear HO_4;clear BK410;clear HB;have HO_4:=n0_;have HO416:=n1_;have BK410:=n2_;have HB:=n3_;clear n0_ n1_ n2_ n3_;(try clear hb);(try clear hb2);(try clear hk);(try clear hi);(try clear ho0);obtain ⟨Ao14,co14,eo14⟩:=Kd.S_slice HO416.out;subst eo14;obtain ⟨Ao15,co15,eo15⟩:=Kd.R_slice HO_4.out;subst eo15) | (go_at_call 72;(with_reducible refine (spec_grColour.calls k1 _ _ t414 (fun k_=>some k_=(.slice Ao15 x4_1.length co15:Value).ownBlock) (.slice Ao15 x4_1.length co15) x4_1 0 x5_1 true t418 w _ ?side1 ?side2 ?side3 ?side4 A10.out).mono ?_);(case side1=>repeat first | exact HB.out | apply zz2 | apply zz0 | apply zz1 | refine zz3 ?_ GE410.out);(case side2=>exact Kd.C_kept_own ((Kd.S_R (Kd.S_apart' HO416.out (Kd.R_typed HO_4.out) (by decide)))) (fun k_ hk_ hs_=>(hk_.2) hs_));(case side3=>exact (Kd.S_reads' HO416.out).2.1);(case side4=>exact Kd.R_tight rfl HO_4.out);rintro e w16 ⟨rfl,hy0,hb,hkp⟩;have n0_:=zz31 (Kd.R_reok rfl hy0 (fun k_ e_=>HO_4.out.1 k_ e_));(first | have n1_:=zz31 (blk_kept BK410.out hkp (fun hs_=>(fun e_=>(Kd.R_ne HO_4.out BK410.out (by decide)) e_) hs_)) | have n1_:=zz31 (blk_kept (by (with_reducible repeat (first | refine zz6 ?_ _ | refine zz7 ?_ | refine zz8 ?_ _));exact BK410.out) hkp (fun hs_=>(fun e_=>(Kd.R_ne HO_4.out BK410.out (by decide)) e_) hs_)));have n2_:=zz31 (Kd.S_mono (ok':=fun k_=>True) (Kd.S_keptB ((Kd.S_apart' HO416.out (Kd.R_typed HO_4.out) (by decide))) hkp (fun k_ hk_ hs_=>(hk_.2) hs_)) (fun k_ hk_=>trivial));have n3_:=zz31 (hb);clear HO_4;clear BK410;clear HO416;clear HB;have HO_4:=n0_;have BK410:=n1_;have HO416:=n2_;have HB:=n3_;clear n0_ n1_ n2_ n3_;(try clear hb);(try clear hkp);(try clear hy0))))
       go_ret2
       exact ⟨_,by first | rfl | (simp [errW_none,errW_some] <;> rfl) | (simp [*,errW_none,errW_some] <;> rfl),by (with_reducible repeat (first | apply zz12 | apply zz13 | apply zz14));exact HO_4.out,by repeat first | exact HB.out | apply zz2 | apply zz0 | apply zz1 | refine zz3 ?_ GE410.out⟩
      ·replace c11:=Bool.eq_false_iff.mpr c11
       subst c11
       have H1:(spec_grFewest.l0 k1 t418 (wrap64 (x5_1+1)) a0_0 l0_1)=some (r1,r2):=by rw [if_neg (show ¬ (false=true) by decide)] at H;exact H
       clear H
       have H:=H1
       clear H1
       have H':=zz31 H
       clear H
       have hcz17_0:wr.cell? ⟨gb410,0,none⟩=some (.int .i64 a0_0):=(zz9 BK410.out 0).trans rfl
       have hcz17_1:wr.cell? ⟨gb410,1,none⟩=some (.slice A0_1 l0_1.length c0_1):=(zz9 BK410.out 1).trans rfl
       have hfz17_0:=zz10 BK410.out 0
       have hfz17_1:=zz10 BK410.out 1
       go_wp2_with (first | (go_at_call 34;(with_reducible refine (spec_paTable.calls k1 a0_0 _ _ l0_1 t414 _ ?side1 ?side2 A9.out).mono ?_);(case side1=>repeat (first | exact (Kd.C_below HR0_1.out HB.out) | (with_reducible refine zz18 ?_ _) | (with_reducible refine zz19 ?_ _) | (with_reducible refine zz20 ?_)));(case side2=>exact HC0_1.out);rintro e w18 ⟨v415,rfl,ho0,hb⟩;have n0_:=zz31 (Kd.R_below (by (with_reducible repeat (first | apply zz12 | apply zz13 | apply zz14));exact HO_4.out) hb);have n1_:=zz31 (Kd.S_lower ho0 (zz5 (by repeat first | exact HB.out | apply zz2 | apply zz0 | apply zz1 | refine zz3 ?_ GE410.out)));have n2_:=zz31 (zz11 (g:=gb410) (o:=.cells #[.int .i64 a0_0,.slice A0_1 l0_1.length c0_1] 31 (0,0)) (by (with_reducible repeat (first | refine zz6 ?_ _ | refine zz7 ?_ | refine zz8 ?_ _));exact BK410.out) hb);have n3_:=zz31 (zz4 (by repeat first | exact HB.out | apply zz2 | apply zz0 | apply zz1 | refine zz3 ?_ GE410.out) hb);clear HO_4;clear BK410;clear HB;have HO_4:=n0_;have HO416:=n1_;have BK410:=n2_;have HB:=n3_;clear n0_ n1_ n2_ n3_;(try clear hb);(try clear hb2);(try clear hk);(try clear hi);(try clear ho0);obtain ⟨Ao19,co19,eo19⟩:=Kd.S_slice HO416.out;subst eo19;obtain ⟨Ao20,co20,eo20⟩:=Kd.R_slice HO_4.out;subst eo20) | (go_at_call 72;(with_reducible refine (spec_grColour.calls k1 _ _ t414 (fun k_=>some k_=(.slice Ao20 x4_1.length co20:Value).ownBlock) (.slice Ao20 x4_1.length co20) x4_1 0 x5_1 false t418 w _ ?side1 ?side2 ?side3 ?side4 A10.out).mono ?_);(case side1=>repeat first | exact HB.out | apply zz2 | apply zz0 | apply zz1 | refine zz3 ?_ GE410.out);(case side2=>exact Kd.C_kept_own ((Kd.S_R (Kd.S_apart' HO416.out (Kd.R_typed HO_4.out) (by decide)))) (fun k_ hk_ hs_=>(hk_.2) hs_));(case side3=>exact (Kd.S_reads' HO416.out).2.1);(case side4=>exact Kd.R_tight rfl HO_4.out);rintro e w21 ⟨rfl,hy0,hb,hkp⟩;have n0_:=zz31 (Kd.R_reok rfl hy0 (fun k_ e_=>HO_4.out.1 k_ e_));(first | have n1_:=zz31 (blk_kept BK410.out hkp (fun hs_=>(fun e_=>(Kd.R_ne HO_4.out BK410.out (by decide)) e_) hs_)) | have n1_:=zz31 (blk_kept (by (with_reducible repeat (first | refine zz6 ?_ _ | refine zz7 ?_ | refine zz8 ?_ _));exact BK410.out) hkp (fun hs_=>(fun e_=>(Kd.R_ne HO_4.out BK410.out (by decide)) e_) hs_)));have n2_:=zz31 (Kd.S_mono (ok':=fun k_=>True) (Kd.S_keptB ((Kd.S_apart' HO416.out (Kd.R_typed HO_4.out) (by decide))) hkp (fun k_ hk_ hs_=>(hk_.2) hs_)) (fun k_ hk_=>trivial));have n3_:=zz31 (hb);clear HO_4;clear BK410;clear HO416;clear HB;have HO_4:=n0_;have BK410:=n1_;have HO416:=n2_;have HB:=n3_;clear n0_ n1_ n2_ n3_;(try clear hb);(try clear hkp);(try clear hy0)))
       repeat (go_quiet (first | (go_at_call 34;(with_reducible refine (spec_paTable.calls k1 a0_0 _ _ l0_1 t414 _ ?side1 ?side2 A9.out).mono ?_);(case side1=>repeat (first | exact (Kd.C_below HR0_1.out HB.out) | (with_reducible refine zz18 ?_ _) | (with_reducible refine zz19 ?_ _) | (with_reducible refine zz20 ?_)));(case side2=>exact HC0_1.out);rintro e w18 ⟨v415,rfl,ho0,hb⟩;have n0_:=zz31 (Kd.R_below (by (with_reducible repeat (first | apply zz12 | apply zz13 | apply zz14));exact HO_4.out) hb);have n1_:=zz31 (Kd.S_lower ho0 (zz5 (by repeat first | exact HB.out | apply zz2 | apply zz0 | apply zz1 | refine zz3 ?_ GE410.out)));have n2_:=zz31 (zz11 (g:=gb410) (o:=.cells #[.int .i64 a0_0,.slice A0_1 l0_1.length c0_1] 31 (0,0)) (by (with_reducible repeat (first | refine zz6 ?_ _ | refine zz7 ?_ | refine zz8 ?_ _));exact BK410.out) hb);have n3_:=zz31 (zz4 (by repeat first | exact HB.out | apply zz2 | apply zz0 | apply zz1 | refine zz3 ?_ GE410.out) hb);clear HO_4;clear BK410;clear HB;have HO_4:=n0_;have HO416:=n1_;have BK410:=n2_;have HB:=n3_;clear n0_ n1_ n2_ n3_;(try clear hb);(try clear hb2);(try clear hk);(try clear hi);(try clear ho0);obtain ⟨Ao19,co19,eo19⟩:=Kd.S_slice HO416.out;subst eo19;obtain ⟨Ao20,co20,eo20⟩:=Kd.R_slice HO_4.out;subst eo20) | (go_at_call 72;(with_reducible refine (spec_grColour.calls k1 _ _ t414 (fun k_=>some k_=(.slice Ao20 x4_1.length co20:Value).ownBlock) (.slice Ao20 x4_1.length co20) x4_1 0 x5_1 false t418 w _ ?side1 ?side2 ?side3 ?side4 A10.out).mono ?_);(case side1=>repeat first | exact HB.out | apply zz2 | apply zz0 | apply zz1 | refine zz3 ?_ GE410.out);(case side2=>exact Kd.C_kept_own ((Kd.S_R (Kd.S_apart' HO416.out (Kd.R_typed HO_4.out) (by decide)))) (fun k_ hk_ hs_=>(hk_.2) hs_));(case side3=>exact (Kd.S_reads' HO416.out).2.1);(case side4=>exact Kd.R_tight rfl HO_4.out);rintro e w21 ⟨rfl,hy0,hb,hkp⟩;have n0_:=zz31 (Kd.R_reok rfl hy0 (fun k_ e_=>HO_4.out.1 k_ e_));(first | have n1_:=zz31 (blk_kept BK410.out hkp (fun hs_=>(fun e_=>(Kd.R_ne HO_4.out BK410.out (by decide)) e_) hs_)) | have n1_:=zz31 (blk_kept (by (with_reducible repeat (first | refine zz6 ?_ _ | refine zz7 ?_ | refine zz8 ?_ _));exact BK410.out) hkp (fun hs_=>(fun e_=>(Kd.R_ne HO_4.out BK410.out (by decide)) e_) hs_)));have n2_:=zz31 (Kd.S_mono (ok':=fun k_=>True) (Kd.S_keptB ((Kd.S_apart' HO416.out (Kd.R_typed HO_4.out) (by decide))) hkp (fun k_ hk_ hs_=>(hk_.2) hs_)) (fun k_ hk_=>trivial));have n3_:=zz31 (hb);clear HO_4;clear BK410;clear HO416;clear HB;have HO_4:=n0_;have BK410:=n1_;have HO416:=n2_;have HB:=n3_;clear n0_ n1_ n2_ n3_;(try clear hb);(try clear hkp);(try clear hy0)));try go_wp2_with (first | (go_at_call 34;(with_reducible refine (spec_paTable.calls k1 a0_0 _ _ l0_1 t414 _ ?side1 ?side2 A9.out).mono ?_);(case side1=>repeat (first | exact (Kd.C_below HR0_1.out HB.out) | (with_reducible refine zz18 ?_ _) | (with_reducible refine zz19 ?_ _) | (with_reducible refine zz20 ?_)));(case side2=>exact HC0_1.out);rintro e w18 ⟨v415,rfl,ho0,hb⟩;have n0_:=zz31 (Kd.R_below (by (with_reducible repeat (first | apply zz12 | apply zz13 | apply zz14));exact HO_4.out) hb);have n1_:=zz31 (Kd.S_lower ho0 (zz5 (by repeat first | exact HB.out | apply zz2 | apply zz0 | apply zz1 | refine zz3 ?_ GE410.out)));have n2_:=zz31 (zz11 (g:=gb410) (o:=.cells #[.int .i64 a0_0,.slice A0_1 l0_1.length c0_1] 31 (0,0)) (by (with_reducible repeat (first | refine zz6 ?_ _ | refine zz7 ?_ | refine zz8 ?_ _));exact BK410.out) hb);have n3_:=zz31 (zz4 (by repeat first | exact HB.out | apply zz2 | apply zz0 | apply zz1 | refine zz3 ?_ GE410.out) hb);clear HO_4;clear BK410;clear HB;have HO_4:=n0_;have HO416:=n1_;have BK410:=n2_;have HB:=n3_;clear n0_ n1_ n2_ n3_;(try clear hb);(try clear hb2);(try clear hk);(try clear hi);(try clear ho0);obtain ⟨Ao19,co19,eo19⟩:=Kd.S_slice HO416.out;subst eo19;obtain ⟨Ao20,co20,eo20⟩:=Kd.R_slice HO_4.out;subst eo20) | (go_at_call 72;(with_reducible refine (spec_grColour.calls k1 _ _ t414 (fun k_=>some k_=(.slice Ao20 x4_1.length co20:Value).ownBlock) (.slice Ao20 x4_1.length co20) x4_1 0 x5_1 false t418 w _ ?side1 ?side2 ?side3 ?side4 A10.out).mono ?_);(case side1=>repeat first | exact HB.out | apply zz2 | apply zz0 | apply zz1 | refine zz3 ?_ GE410.out);(case side2=>exact Kd.C_kept_own ((Kd.S_R (Kd.S_apart' HO416.out (Kd.R_typed HO_4.out) (by decide)))) (fun k_ hk_ hs_=>(hk_.2) hs_));(case side3=>exact (Kd.S_reads' HO416.out).2.1);(case side4=>exact Kd.R_tight rfl HO_4.out);rintro e w21 ⟨rfl,hy0,hb,hkp⟩;have n0_:=zz31 (Kd.R_reok rfl hy0 (fun k_ e_=>HO_4.out.1 k_ e_));(first | have n1_:=zz31 (blk_kept BK410.out hkp (fun hs_=>(fun e_=>(Kd.R_ne HO_4.out BK410.out (by decide)) e_) hs_)) | have n1_:=zz31 (blk_kept (by (with_reducible repeat (first | refine zz6 ?_ _ | refine zz7 ?_ | refine zz8 ?_ _));exact BK410.out) hkp (fun hs_=>(fun e_=>(Kd.R_ne HO_4.out BK410.out (by decide)) e_) hs_)));have n2_:=zz31 (Kd.S_mono (ok':=fun k_=>True) (Kd.S_keptB ((Kd.S_apart' HO416.out (Kd.R_typed HO_4.out) (by decide))) hkp (fun k_ hk_ hs_=>(hk_.2) hs_)) (fun k_ hk_=>trivial));have n3_:=zz31 (hb);clear HO_4;clear BK410;clear HO416;clear HB;have HO_4:=n0_;have BK410:=n1_;have HO416:=n2_;have HB:=n3_;clear n0_ n1_ n2_ n3_;(try clear hb);(try clear hkp);(try clear hy0))))
       go_roundg k1
       case measure=>have:=HK1.out;omega
       case rel=>exact ⟨(t418),(wrap64 (x5_1+1)),(by first | rfl | (simp;done) | (simp [*];done)),H',⟨by have:=HK1.out;omega⟩,⟨by (with_reducible repeat (first | apply zz12 | apply zz13 | apply zz14));exact HO_4.out⟩,⟨by (with_reducible repeat (first | refine zz6 ?_ _ | refine zz7 ?_ | refine zz8 ?_ _));exact BK410.out⟩,⟨by repeat first | exact HB.out | apply zz2 | apply zz0 | apply zz1 | refine zz3 ?_ GE410.out⟩⟩
     ·rw [if_neg c8] at H
      have c8b0:decide (x5_1 < a0_0)=false:=decide_eq_false c8
      clear c8
      have H':=zz31 H
      clear H
      have hcz22_0:wr.cell? ⟨gb410,0,none⟩=some (.int .i64 a0_0):=(zz9 BK410.out 0).trans rfl
      have hcz22_1:wr.cell? ⟨gb410,1,none⟩=some (.slice A0_1 l0_1.length c0_1):=(zz9 BK410.out 1).trans rfl
      have hfz22_0:=zz10 BK410.out 0
      have hfz22_1:=zz10 BK410.out 1
      obtain ⟨Ao23,co23,eo23⟩:=Kd.R_slice HO_4.out
      subst eo23
      go_wp2
      repeat (go_quiet (fail);try go_wp2)
      go_loopg [25] k1 (fun kq v25 w'=>∃ (x4_2:List Int) (x25_2:Int),v25=.int .i64 x25_2∧Aside0 (spec_grFewest.l1 kq x4_2 (x4_1.length:Int) x25_2 a0_0 l0_1=some (r1,r2))∧Aside0 (kq≤k1)∧Aside0 (Kd.R (Kd.int .i64) 3 w' w.heap.size (fun _=>True) (.slice Ao23 x4_1.length co23) x4_2)∧Aside0 (w'.heap[gb410]?=some (.cells #[.int .i64 a0_0,(.slice A0_1 l0_1.length c0_1)] 31 (0,0)))∧Aside0 (Below w.heap.size w w'))
      case atStart=>exact ⟨(x4_1),(0),(by first | rfl | (simp;done) | (simp [*];done)),H',⟨Nat.le_refl _⟩,⟨by (with_reducible repeat (first | apply zz12 | apply zz13 | apply zz14));exact HO_4.out⟩,⟨by (with_reducible repeat (first | refine zz6 ?_ _ | refine zz7 ?_ | refine zz8 ?_ _));exact BK410.out⟩,⟨by repeat first | exact HB.out | apply zz2 | apply zz0 | apply zz1 | refine zz3 ?_ GE410.out⟩⟩
      case round =>
       clear H'
       try clear c1
       try clear c2
       try clear c2b0
       try clear c2b1
       try clear p2
       try clear c3
       try clear c3b0
       try clear c3b1
       try clear c5
       try clear p6
       try clear c8
       try clear c8b0
       try clear c11
       try clear hcz12_0
       try clear hcz12_1
       try clear hcz17_0
       try clear hcz17_1
       try clear hcz22_0
       try clear hcz22_1
       try clear hcz5_0
       try clear hcz5_1
       try clear hfz12_0
       try clear hfz12_1
       try clear hfz17_0
       try clear hfz17_1
       try clear hfz22_0
       try clear hfz22_1
       try clear hfz5_0
       try clear hfz5_1
       try clear p2
       obtain ⟨x4_2,x25_2,rfl,HA,HK2,HO_4,BK410,HB⟩:=hrel
       have hl4_2:=(Kd.R_reads' HO_4.out).1
       rw [hl4_2] at HO_4
       (try simp only [hl4_2])
       (try simp only [hl4_2] at BK410)
       cases gk with
       | zero=>exact absurd HA.out (by simp [spec_grFewest.l1])
       | succ k2 =>
        have H:=HA.out
        clear HA
        simp only [spec_grFewest.l1] at H
        by_cases c24:x25_2 < (x4_1.length:Int)
        ·rw [if_pos c24] at H
         have c24b0:decide (x25_2 < (x4_1.length:Int))=true:=decide_eq_true c24
         (try simp only [hl4_2] at c24b0)
         clear c24
         by_cases c25:0≤x25_2
         ·rw [if_pos c25] at H
          have c25b0:decide (0≤x25_2)=true:=decide_eq_true c25
          clear c25
          by_cases c26:x25_2 < (x4_2.length:Int)
          ·rw [if_pos c26] at H
           have c26b0:decide (x25_2 < (x4_2.length:Int))=true:=decide_eq_true c26
           (try simp only [hl4_2] at c26b0)
           clear c26
           obtain ⟨y419,hy419⟩:∃ y_:List Int,y_=(x4_2.set (x25_2:Int).toNat x25_2):=⟨_,rfl⟩
           replace H:(spec_grFewest.l1 k2 y419 (x4_1.length:Int) (wrap64 (x25_2+1)) a0_0 l0_1)=some (r1,r2):=by first | (rw [hy419];with_reducible exact H) | (have H2_:=(Option.bind_some _ _).symm.trans H;rw [hy419];with_reducible exact H2_) | (have H2_:=(Option.bind_some _ _).symm.trans H;with_reducible exact H2_) | with_reducible exact H | (rw [hy419];exact H) | exact H
           have Ny419:=zz31 hy419
           clear hy419
           have H':=zz31 H
           clear H
           have p27:0≤(x25_2:Int):=zz29 (by first | (with_reducible assumption) | assumption)
           have q27:(x25_2:Int) < ((x4_2.length:Int):Int):=zz29 (by first | (with_reducible assumption) | assumption)
           obtain ⟨go27,co27,eo27,gb27,gl27,cl27,HG27⟩:=Kd.R_form HO_4.out (by omega)
           (first | cases eo27 | (injection eo27 with ea_ en_ ec_;(first | subst ea_ | (injection ea_ with ea_;subst ea_));subst ec_;clear en_))
           have GB27:=zz31 gb27
           have GG27:=zz31 HG27
           clear gb27 gl27 HG27
           obtain ⟨hx27_0,hf27_0⟩:=Kd.R_celln 0 HO_4.out (x25_2:Int) p27 q27
           replace p27:=eq_true p27
           replace q27:=eq_true q27
           have HP28:=Kd.R_putg HO_4.out (x25_2:Int) x25_2
           go_wp2_with (first | ((with_reducible refine gate_store (t:=3) (p:=31) rfl ?_);(try (rw [drewN_self wr];generalize hq_:World.drewN wr _=wr;have n0_:=zz31 (Kd.R_at hq_ HO_4.out);have n1_:=zz31 (blk_at hq_ BK410.out);have n2_:=zz31 (below_at hq_ HB.out);clear hq_ HO_4 BK410 HB;have HO_4:=n0_;have BK410:=n1_;have HB:=n2_;clear n0_ n1_ n2_;(try (have HP28:=Kd.R_putg HO_4.out (x25_2:Int) x25_2))));refine store_event (t:=3) (p:=31) (v:=?vo_w29) (w1:=(wr.setCell ⟨go27,(x25_2:Int).toNat,none⟩ (.int .i64 x25_2))) ?hg ?ho ?hn ?hr ?_;(case ho=>rfl);(case hg=>rfl);(case hn=>rfl);(case hr=>first | (go_simp;done) | (go_simp;rfl));intro w29 hw;have hg:wr.grownBy w29 (some go27):=(by rw [hw];exact HP28.2);have hp_:Kd.R (Kd.int .i64) 3 w29 w.heap.size (fun _=>True) (.slice (some ⟨go27,0,none⟩) x4_2.length co23) y419:=(by rw [hw,Ny419.out];exact HP28.1);clear HP28;have n0_:=zz31 (hp_);have n1_:=zz31 (blk_grown (g:=gb410) (o:=.cells #[.int .i64 a0_0,.slice A0_1 l0_1.length c0_1] 31 (0,0)) (by (with_reducible repeat (first | refine zz6 ?_ _ | refine zz7 ?_ | refine zz8 ?_ _));exact BK410.out) hg (Kd.R_ne HO_4.out BK410.out (by decide)));have n2_:=zz31 ((by rw [hw];exact zz3 (HB.out) GB27.out:Below w.heap.size w w29));clear HO_4;clear BK410;clear HB;have HO_4:=n0_;have BK410:=n1_;have HB:=n2_;clear n0_ n1_ n2_;clear hg hw hp_))
           repeat (go_quiet (first | ((with_reducible refine gate_store (t:=3) (p:=31) rfl ?_);(try (rw [drewN_self wr];generalize hq_:World.drewN wr _=wr;have n0_:=zz31 (Kd.R_at hq_ HO_4.out);have n1_:=zz31 (blk_at hq_ BK410.out);have n2_:=zz31 (below_at hq_ HB.out);clear hq_ HO_4 BK410 HB;have HO_4:=n0_;have BK410:=n1_;have HB:=n2_;clear n0_ n1_ n2_;(try (have HP28:=Kd.R_putg HO_4.out (x25_2:Int) x25_2))));refine store_event (t:=3) (p:=31) (v:=?vo_w29) (w1:=(wr.setCell ⟨go27,(x25_2:Int).toNat,none⟩ (.int .i64 x25_2))) ?hg ?ho ?hn ?hr ?_;(case ho=>rfl);(case hg=>rfl);(case hn=>rfl);(case hr=>first | (go_simp;done) | (go_simp;rfl));intro w29 hw;have hg:wr.grownBy w29 (some go27):=(by rw [hw];exact HP28.2);have hp_:Kd.R (Kd.int .i64) 3 w29 w.heap.size (fun _=>True) (.slice (some ⟨go27,0,none⟩) x4_2.length co23) y419:=(by rw [hw,Ny419.out];exact HP28.1);clear HP28;have n0_:=zz31 (hp_);have n1_:=zz31 (blk_grown (g:=gb410) (o:=.cells #[.int .i64 a0_0,.slice A0_1 l0_1.length c0_1] 31 (0,0)) (by (with_reducible repeat (first | refine zz6 ?_ _ | refine zz7 ?_ | refine zz8 ?_ _));exact BK410.out) hg (Kd.R_ne HO_4.out BK410.out (by decide)));have n2_:=zz31 ((by rw [hw];exact zz3 (HB.out) GB27.out:Below w.heap.size w w29));clear HO_4;clear BK410;clear HB;have HO_4:=n0_;have BK410:=n1_;have HB:=n2_;clear n0_ n1_ n2_;clear hg hw hp_));try go_wp2_with (first | ((with_reducible refine gate_store (t:=3) (p:=31) rfl ?_);(try (rw [drewN_self wr];generalize hq_:World.drewN wr _=wr;have n0_:=zz31 (Kd.R_at hq_ HO_4.out);have n1_:=zz31 (blk_at hq_ BK410.out);have n2_:=zz31 (below_at hq_ HB.out);clear hq_ HO_4 BK410 HB;have HO_4:=n0_;have BK410:=n1_;have HB:=n2_;clear n0_ n1_ n2_;(try (have HP28:=Kd.R_putg HO_4.out (x25_2:Int) x25_2))));refine store_event (t:=3) (p:=31) (v:=?vo_w29) (w1:=(wr.setCell ⟨go27,(x25_2:Int).toNat,none⟩ (.int .i64 x25_2))) ?hg ?ho ?hn ?hr ?_;(case ho=>rfl);(case hg=>rfl);(case hn=>rfl);(case hr=>first | (go_simp;done) | (go_simp;rfl));intro w29 hw;have hg:wr.grownBy w29 (some go27):=(by rw [hw];exact HP28.2);have hp_:Kd.R (Kd.int .i64) 3 w29 w.heap.size (fun _=>True) (.slice (some ⟨go27,0,none⟩) x4_2.length co23) y419:=(by rw [hw,Ny419.out];exact HP28.1);clear HP28;have n0_:=zz31 (hp_);have n1_:=zz31 (blk_grown (g:=gb410) (o:=.cells #[.int .i64 a0_0,.slice A0_1 l0_1.length c0_1] 31 (0,0)) (by (with_reducible repeat (first | refine zz6 ?_ _ | refine zz7 ?_ | refine zz8 ?_ _));exact BK410.out) hg (Kd.R_ne HO_4.out BK410.out (by decide)));have n2_:=zz31 ((by rw [hw];exact zz3 (HB.out) GB27.out:Below w.heap.size w w29));clear HO_4;clear BK410;clear HB;have HO_4:=n0_;have BK410:=n1_;have HB:=n2_;clear n0_ n1_ n2_;clear hg hw hp_)))
           (try simp only [← hl4_2])
           go_roundg k2
           case measure=>have:=HK1.out;have:=HK2.out;omega
           case rel=>exact ⟨(y419),(wrap64 (x25_2+1)),(by first | rfl | (simp;done) | (simp [*];done)),H',⟨by have:=HK1.out;have:=HK2.out;omega⟩,⟨by (try simp only [hl4_2]);(with_reducible repeat (first | apply zz12 | apply zz13 | apply zz14));exact HO_4.out⟩,⟨by (try simp only [hl4_2]);(with_reducible repeat (first | refine zz6 ?_ _ | refine zz7 ?_ | refine zz8 ?_ _));exact BK410.out⟩,⟨by repeat first | exact HB.out | apply zz2 | apply zz0 | apply zz1 | refine zz3 ?_ GE410.out⟩⟩
          ·rw [if_neg c26] at H
           exact absurd H (by simp)
         ·rw [if_neg c25] at H
          exact absurd H (by simp)
        ·rw [if_neg c24] at H
         have c24b0:decide (x25_2 < (x4_1.length:Int))=false:=decide_eq_false c24
         (try simp only [hl4_2] at c24b0)
         clear c24
         simp only [Option.some.injEq,Prod.mk.injEq] at H
         obtain ⟨rfl,rfl⟩:=H
         have hcz30_0:wr.cell? ⟨gb410,0,none⟩=some (.int .i64 a0_0):=(zz9 BK410.out 0).trans rfl
         have hcz30_1:wr.cell? ⟨gb410,1,none⟩=some (.slice A0_1 l0_1.length c0_1):=(zz9 BK410.out 1).trans rfl
         have hfz30_0:=zz10 BK410.out 0
         have hfz30_1:=zz10 BK410.out 1
         go_wp2
         repeat (go_quiet (fail);try go_wp2)
         go_ret2
         exact ⟨_,by first | rfl | (simp [errW_none,errW_some] <;> rfl) | (simp [*,errW_none,errW_some] <;> rfl),by (with_reducible repeat (first | apply zz12 | apply zz13 | apply zz14));exact HO_4.out,by repeat first | exact HB.out | apply zz2 | apply zz0 | apply zz1 | refine zz3 ?_ GE410.out⟩
  ·rw [if_neg c3] at H
   exact absurd H (by simp)
 ·rw [if_neg c2] at H
  exact absurd H (by simp)

/-! ### impl_table_fewest: function 56 (a contract of our own) -/
def fewStep (s:List Int × Int) (cs:List Int) (m:Nat):List Int × Int:=if s.2 < 0 ∨ (m:Int) < s.2 then (cs,(m:Int)) else s
def FewI (B0 bf bb:Nat) (s:List Int × Int) (own:Nat→Prop) (W:World):Prop :=
 own=(fun i=>i=bf ∨ i=bb)∧W.heap[bf]?=some (.cells #[.int .i64 s.2] 3 (0,0))∧∃ v,W.heap[bb]?=some (.cells #[v] 25 (0,0))∧(Kd.int .i64).R 3 W B0 (fun k=>¬ (k=bf ∨ k=bb)) v s.1
theorem FewI.below {B0 bf bb:Nat} {s:List Int × Int} {own:Nat→Prop} {W W':World} (h:FewI B0 bf bb s own W) (hb:Below W.heap.size W W'):FewI B0 bf bb s own W':=by
 obtain ⟨h1,h2,v,h3,h4⟩:=h
 exact ⟨h1,zz11 h2 hb,v,zz11 h3 hb,Kd.R_below h4 hb⟩
theorem FewI.lt {B0 bf bb:Nat} {s:List Int × Int} {own:Nat→Prop} {W:World} (h:FewI B0 bf bb s own W):∀ i,own i→i < W.heap.size:=by
 obtain ⟨h1,h2,v,h3,h4⟩:=h
 subst h1
 rintro i (rfl | rfl)
 ·exact blk_lt h2
 ·exact blk_lt h3
theorem FewI.put {B0 bf bb:Nat} {s:List Int × Int} {W:World} (hne:bf ≠ bb) (h:FewI B0 bf bb s (fun i=>i=bf ∨ i=bb) W) (u:Value) (cs:List Int) (n:Int) (hR:(Kd.int .i64).R 3 W B0 (fun k=>¬ (k=bf ∨ k=bb)) u cs) :
  FewI B0 bf bb (cs,n) (fun i=>i=bf ∨ i=bb) ((W.setCell ⟨bb,0,none⟩ u).setCell ⟨bf,0,none⟩ (.int .i64 n))∧Fr (fun i=>i=bf ∨ i=bb) (fun i=>i=bf ∨ i=bb) W ((W.setCell ⟨bb,0,none⟩ u).setCell ⟨bf,0,none⟩ (.int .i64 n)):=by
 obtain ⟨h1,h2,v,h3,h4⟩:=h
 have b2:=blk_set (blk_far h2 (p:=⟨bb,0,none⟩) hne u) 0 (.int .i64 n)
 have b3:=blk_far (blk_set h3 0 u) (p:=⟨bf,0,none⟩) (fun h=>hne h.symm) (.int .i64 n)
 refine ⟨⟨rfl,b2,u,b3,Kd.R_far (Kd.R_far hR (fun k hk he=>hk (.inr he)) u) (fun k hk he=>hk (.inl he)) _⟩,rfl,rfl,rfl,by simp [World.setCell],fun i hi hn=>?_,fun i hi=>.inl hi⟩
 rw [Below.heap_setCell _ _ _ i (fun he=>hn (.inl he)),Below.heap_setCell _ _ _ i (fun he=>hn (.inr he))]
set_option maxHeartbeats 1000000 in
set_option maxRecDepth 100000 in
theorem few_each (B0 bf bb:Nat) (hne:bf ≠ bb):EachCols (List Int × Int) 73 #[.pointer (some ⟨bf,0,none⟩),.pointer (some ⟨bb,0,none⟩)] B0 (FewI B0 bf bb) fewStep:=by
 intro s own W A c cs m hI hB hc8 hm8 hR
 obtain ⟨rfl,h2,v,h3,h4⟩:=hI
 obtain ⟨best,few⟩:=s
 have f1:=zz9 h2 0
 have f2:=zz10 h2 0
 have f3:=zz9 h3 0
 have f4:=zz10 h3 0
 simp only [List.getElem?_toArray,List.getElem?_cons_zero] at f1 f3
 have HP:=zz31 (FewI.put hne ⟨rfl,h2,v,h3,h4⟩ (.slice A cs.length c) cs (m:Int) hR)
 have H0:=zz31 (show FewI B0 bf bb (best,few) (fun i=>i=bf ∨ i=bb) W from ⟨rfl,h2,v,h3,h4⟩)
 clear h2 h3 h4 hR
 by_cases q1:few < 0
 ·go_enter Try.func73,Try.ntmps73
  go_wp2
  go_ret
  exact ⟨rfl,_,by rw [fewStep,if_pos (.inl q1)];exact HP.out.1,HP.out.2⟩
 ·by_cases q2:(m:Int) < few
  ·go_enter Try.func73,Try.ntmps73
   go_wp2
   go_ret
   exact ⟨rfl,_,by rw [fewStep,if_pos (.inr q2)];exact HP.out.1,HP.out.2⟩
  ·go_enter Try.func73,Try.ntmps73
   go_wp2
   go_ret
   exact ⟨rfl,_,by rw [fewStep,if_neg (show ¬ ((best,few).2 < 0 ∨ (m:Int) < (best,few).2) from by simp only;omega)];exact H0.out,Fr.refl _ _⟩
def hasB (t:List Int) (a b:Nat):Bool:=(Go.bits .and .u16 (shr .u16 (rd t (a:Int)) (b:Int)) 1) == 1
theorem hasB_f (t:List Int) (a b:Nat) (ha:a < t.length):impl_table_has.f t (a:Int) (b:Int)=some (hasB t a b):=by
 unfold impl_table_has.f
 rw [if_pos (by omega),if_pos (by omega),if_pos (by omega)]
 rfl
def impl_table_fewest.f (l0:List Int):Option (List Int × Int):=if l0.length≤8 then some ((cols (hasB l0) l0.length [] 0).foldl (fun s p=>fewStep s p.1 p.2) ([],-1)) else none
set_option maxHeartbeats 1000000 in
set_option maxRecDepth 100000 in
theorem impl_table_fewest.calls (A0:Option Addr) (c0:Nat) (l0:List Int) (r1:List Int) (r2:Int) (w:World) (hr0:Kd.C (Kd.int .u16) w A0 l0.length l0) (hc0:l0.length≤c0) (h:impl_table_fewest.f l0=some (r1,r2)) :
  Calls Try.prog 56 #[.slice A0 l0.length c0] w fun e w'=>∃ v0_:Value,e=.returned (.tuple #[v0_,.int .i64 r2])∧Kd.R (Kd.int .i64) 3 w' w.heap.size (fun _=>True) v0_ r1∧Below w.heap.size w w':=by
 unfold impl_table_fewest.f at h
 by_cases hl:l0.length≤8
 case neg=>rw [if_neg hl] at h;exact absurd h (by simp)
 rw [if_pos hl] at h
 injection h with h
 have b0:=blk_new w (.cells #[.slice none 0 0] 25)
 have b1:=blk_new (w.alloc (.cells #[.slice none 0 0] 25)) (.cells #[.int .i64 (-1)] 3)
 have e1:(w.alloc (.cells #[.slice none 0 0] 25)).heap.size=w.heap.size+1:=by simp
 rw [e1] at b1
 have hbel:Below w.heap.size w ((w.alloc (.cells #[.slice none 0 0] 25)).alloc (.cells #[.int .i64 (-1)] 3)):=zz2 (zz2 (Below.refl _ _) _) _
 have hs:FewI w.heap.size (w.heap.size+1) w.heap.size ([],-1) (fun i=>i=w.heap.size+1 ∨ i=w.heap.size) ((w.alloc (.cells #[.slice none 0 0] 25)).alloc (.cells #[.int .i64 (-1)] 3)) :=
  ⟨rfl,b1,_,zz8 b0 _,Kd.R_nil _ _ _ _ _⟩
 have hT:ReadApart .u16 (fun i=>i=w.heap.size+1 ∨ i=w.heap.size) ((w.alloc (.cells #[.slice none 0 0] 25)).alloc (.cells #[.int .i64 (-1)] 3)) A0 l0.length l0:=by
  have h0:ReadApart .u16 (fun i=>False) w A0 l0.length l0:=⟨hr0,fun _ _ _ h=>h⟩
  have h1:=h0.fr (own':=fun i=>i=w.heap.size+1 ∨ i=w.heap.size) (w':=w) ⟨rfl,rfl,rfl,Nat.le_refl _,fun _ _ _=>rfl,fun i hi=>.inr (by omega)⟩
  exact h1.fr (Fr.of_below _ hbel)
 have HC:=zz31 ((colourings_calls (List Int × Int) 73 #[.pointer (some ⟨w.heap.size+1,0,none⟩),.pointer (some ⟨w.heap.size,0,none⟩)] (fun _ _=>rfl) w.heap.size (FewI w.heap.size (w.heap.size+1) w.heap.size) fewStep (few_each _ _ _ (by omega)) (fun _ _ _ _ h hb=>h.below hb) (fun _ _ _ h=>h.lt) (hasB l0) l0 hl (fun a b ha _=>hasB_f l0 a b ha) A0 c0 _ _ _ hT hc0 hs hbel.size).mono
  (R':=fun e W'=>e=.returned (.tuple #[])∧W'.cell? ⟨w.heap.size+1,0,none⟩=some (.int .i64 r2)∧∃ v,W'.cell? ⟨w.heap.size,0,none⟩=some v∧Kd.R (Kd.int .i64) 3 W' w.heap.size (fun _=>True) v r1∧Below w.heap.size w W') fun e W' ⟨h1,own',h2,h3⟩=>by
   rw [h] at h2
   obtain ⟨g1,g2,v,g3,g4⟩:=h2
   exact ⟨h1,zz9 g2 0,v,zz9 g3 0,Kd.R_mono g4 (fun _ _=>trivial),hbel.trans (h3.below hbel.size (fun i hi=>by rcases hi with rfl | rfl <;> omega))⟩)
 have hf1:((w.alloc (.cells #[.slice none 0 0] 25)).alloc (.cells #[.int .i64 0] 3)).frozen? ⟨w.heap.size,0,none⟩=false:=zz10 (zz8 b0 _) 0
 have hf2:((w.alloc (.cells #[.slice none 0 0] 25)).alloc (.cells #[.int .i64 0] 3)).frozen? ⟨w.heap.size+1,0,none⟩=false:=by rw [← e1];exact frozen_new _ _ _ 0
 clear h hr0 hc0 hs hT b0 b1 hbel
 go_enter Try.func56,Try.ntmps56
 go_wp2_with (go_at_call 53;refine HC.out.mono ?_;rintro e w' ⟨rfl,hc1,v,hc2,hR,hb⟩;have HR:=zz31 hR;have HB:=zz31 hb;clear hR hb)
 repeat (go_quiet (fail);try go_wp2)
 refine bodyPost_ret (results_tmp2 rfl _ _ _) rfl ?_
 exact ⟨v,rfl,Kd.R_below HR.out (by repeat first | exact Below.refl _ _ | apply zz0 | apply below_drew),HB.out.trans (by repeat first | exact (Below.refl _ _).mono HB.out.size | apply zz0 | apply below_drew)⟩

end Go.Proofs.Ytifkaefccghgdaa.P
