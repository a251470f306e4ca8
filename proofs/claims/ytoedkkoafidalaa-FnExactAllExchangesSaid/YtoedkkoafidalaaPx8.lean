-- PRINTED by print.py (a twelfth state) out of the translation. Not trusted: Lean checks it.
import Derived.Test.YtoedkkoafidalaaPx0
import Derived.Test.YtoedkkoafidalaaPx2
import Derived.Test.YtoedkkoafidalaaPx6
import Derived.Test.YtoedkkoafidalaaPx7
import Derived.Deep.RegionLaw
import Derived.Laws.IdiomCopy
import Derived.Shelf.SlSortCmp.WholeK
import Derived.Shelf.SlSortCmp.NoneTotal
namespace Go.Proofs.Ytoedkkoafidalaa.P
open Go.RowKit Go.Proofs.YtoedkkoafidalaaW.PrintWords Go.Proofs.YtoedkkoafidalaaW.PrintLast Go.Proofs.YtoedkkoafidalaaW.PrintMore
open Bool renaming true → T, false → F
attribute [local go_sem] max2_int min2_int max_two min_two max_three min_three max_four min_four   -- for this text's walks alone
set_option linter.unusedVariables false
set_option linter.unusedSimpArgs false

/-! ### impl_table_exchanged: function 56 -/
def impl_table_exchanged.f (l0:List Int) (a1:Int) (a2:Int) (a3:Int) (a4:Int):Option (List Int):=(impl_table_uint16.f l0).bind fun t286=>(if 0≤a1 then (if a1 < (t286.length:Int) then (if 0≤a2 then (if 0≤a3 then ((some (t286.set (a1:Int).toNat (Go.bits .or .u16 (Go.bits .andNot .u16 (rd t286 a1) (shl .u16 1 a2)) (shl .u16 1 a3)):List Int)).bind fun y290=>(if a2 < (t286.length:Int) then (if 0≤a4 then ((some (y290.set (a2:Int).toNat (Go.bits .or .u16 (Go.bits .andNot .u16 (rd y290 a2) (shl .u16 1 a1)) (shl .u16 1 a4)):List Int)).bind fun y292=>(if a3 < (t286.length:Int) then ((some (y292.set (a3:Int).toNat (Go.bits .or .u16 (Go.bits .andNot .u16 (rd y292 a3) (shl .u16 1 a4)) (shl .u16 1 a1)):List Int)).bind fun y294=>(if a4 < (t286.length:Int) then (some (y294.set (a4:Int).toNat (Go.bits .or .u16 (Go.bits .andNot .u16 (rd y294 a4) (shl .u16 1 a3)) (shl .u16 1 a2)))) else (none))) else (none))) else (none)) else (none))) else (none)) else (none)) else (none)) else (none))
def impl_table_exchanged.T2:Bool × List (List Nat × List Nat):=(true,[([],[]),([],[]),([],[]),([],[]),([2,3],[2,3]),([4],[4]),([],[]),([6],[6]),([5,7],[5,7]),([],[]),([9],[9]),([8,10],[8,10]),([0,1,0,1,2,3,4,5,6,7,8,9,10,11],[0,1]),([12,11,0,1,2,3,4,5,6,7,8,9,10,11],[11,12])])
def impl_table_exchanged.B2:List Nat:=[0,0,0,0,12,28,0,64,252,0,512,2044,4095,8191]
theorem impl_table_exchanged.tab2:rtab .any (opsOf Try.f56 2)=impl_table_exchanged.T2:=by kernel_rfl
theorem impl_table_exchanged.bits2:waitsOk impl_table_exchanged.T2.2 impl_table_exchanged.B2=true:=by kernel_rfl
def impl_table_exchanged.T3:Bool × List (List Nat × List Nat):=(true,[([],[]),([],[]),([],[]),([],[]),([2,3],[2,3]),([4],[4]),([],[]),([6],[6]),([5,7],[5,7]),([],[]),([9],[9]),([8,10],[8,10]),([0,1,0,1,2,3,4,5,6,7,8,9,10,11],[0,1]),([12,11,0,1,2,3,4,5,6,7,8,9,10,11],[11,12])])
def impl_table_exchanged.B3:List Nat:=[0,0,0,0,12,28,0,64,252,0,512,2044,4095,8191]
theorem impl_table_exchanged.tab3:rtab .any (opsOf Try.f56 3)=impl_table_exchanged.T3:=by kernel_rfl
theorem impl_table_exchanged.bits3:waitsOk impl_table_exchanged.T3.2 impl_table_exchanged.B3=true:=by kernel_rfl
def impl_table_exchanged.T4:Bool × List (List Nat × List Nat):=(true,[([],[]),([],[]),([],[]),([],[]),([2,3],[2,3]),([4],[4]),([],[]),([6],[6]),([5,7],[5,7]),([],[]),([9],[9]),([8,10],[8,10]),([0,1,0,1,2,3,4,5,6,7,8,9,10,11],[0,1]),([12,11,0,1,2,3,4,5,6,7,8,9,10,11],[11,12])])
def impl_table_exchanged.B4:List Nat:=[0,0,0,0,12,28,0,64,252,0,512,2044,4095,8191]
theorem impl_table_exchanged.tab4:rtab .any (opsOf Try.f56 4)=impl_table_exchanged.T4:=by kernel_rfl
theorem impl_table_exchanged.bits4:waitsOk impl_table_exchanged.T4.2 impl_table_exchanged.B4=true:=by kernel_rfl
def impl_table_exchanged.T5:Bool × List (List Nat × List Nat):=(true,[([],[]),([],[]),([],[]),([],[]),([2,3],[2,3]),([4],[4]),([],[]),([6],[6]),([5,7],[5,7]),([],[]),([9],[9]),([8,10],[8,10]),([0,1,0,1,2,3,4,5,6,7,8,9,10,11],[0,1]),([12,11,0,1,2,3,4,5,6,7,8,9,10,11],[11,12])])
def impl_table_exchanged.B5:List Nat:=[0,0,0,0,12,28,0,64,252,0,512,2044,4095,8191]
theorem impl_table_exchanged.tab5:rtab .any (opsOf Try.f56 5)=impl_table_exchanged.T5:=by kernel_rfl
theorem impl_table_exchanged.bits5:waitsOk impl_table_exchanged.T5.2 impl_table_exchanged.B5=true:=by kernel_rfl
set_option maxHeartbeats 8000000 in
set_option maxRecDepth 100000 in
theorem impl_table_exchanged.calls (A0:Option Addr) (c0:Nat) (l0:List Int) (a1:Int) (a2:Int) (a3:Int) (a4:Int) (r:List Int) (w:World) (hr0:Kd.C (Kd.int .u16) w A0 l0.length l0) (hc0:l0.length≤c0) (h:impl_table_exchanged.f l0 a1 a2 a3 a4=some r) :
  Calls Try.prog 56 #[.slice A0 l0.length c0,.int .i64 a1,.int .i64 a2,.int .i64 a3,.int .i64 a4] w fun e w'=>∃ v0_:Value,e=.returned (v0_)∧Kd.R (Kd.int .u16) 100 w' w.heap.size (fun _=>True) v0_ r∧Below w.heap.size w w':=by
 have HR0:=zz31 hr0
 have HC0:=zz31 hc0
 clear hr0 hc0
 have HB:=zz31 (Below.refl w.heap.size w)
 have H:((impl_table_uint16.f l0).bind fun t286=>(if 0≤a1 then (if a1 < (t286.length:Int) then (if 0≤a2 then (if 0≤a3 then ((some (t286.set (a1:Int).toNat (Go.bits .or .u16 (Go.bits .andNot .u16 (rd t286 a1) (shl .u16 1 a2)) (shl .u16 1 a3)):List Int)).bind fun y290=>(if a2 < (t286.length:Int) then (if 0≤a4 then ((some (y290.set (a2:Int).toNat (Go.bits .or .u16 (Go.bits .andNot .u16 (rd y290 a2) (shl .u16 1 a1)) (shl .u16 1 a4)):List Int)).bind fun y292=>(if a3 < (t286.length:Int) then ((some (y292.set (a3:Int).toNat (Go.bits .or .u16 (Go.bits .andNot .u16 (rd y292 a3) (shl .u16 1 a4)) (shl .u16 1 a1)):List Int)).bind fun y294=>(if a4 < (t286.length:Int) then (some (y294.set (a4:Int).toNat (Go.bits .or .u16 (Go.bits .andNot .u16 (rd y294 a4) (shl .u16 1 a3)) (shl .u16 1 a2)))) else (none))) else (none))) else (none)) else (none))) else (none)) else (none)) else (none)) else (none)))=some r:=h
 clear h
 replace H:=zz30.mp H
 obtain ⟨t286,A60,H⟩:=H
 replace H:(if 0≤a1 then (if a1 < (t286.length:Int) then (if 0≤a2 then (if 0≤a3 then ((some (t286.set (a1:Int).toNat (Go.bits .or .u16 (Go.bits .andNot .u16 (rd t286 a1) (shl .u16 1 a2)) (shl .u16 1 a3)):List Int)).bind fun y290=>(if a2 < (t286.length:Int) then (if 0≤a4 then ((some (y290.set (a2:Int).toNat (Go.bits .or .u16 (Go.bits .andNot .u16 (rd y290 a2) (shl .u16 1 a1)) (shl .u16 1 a4)):List Int)).bind fun y292=>(if a3 < (t286.length:Int) then ((some (y292.set (a3:Int).toNat (Go.bits .or .u16 (Go.bits .andNot .u16 (rd y292 a3) (shl .u16 1 a4)) (shl .u16 1 a1)):List Int)).bind fun y294=>(if a4 < (t286.length:Int) then (some (y294.set (a4:Int).toNat (Go.bits .or .u16 (Go.bits .andNot .u16 (rd y294 a4) (shl .u16 1 a3)) (shl .u16 1 a2)))) else (none))) else (none))) else (none)) else (none))) else (none)) else (none)) else (none)) else (none))=some r:=H
 have A6:=zz31 A60
 clear A60
 by_cases c7:0≤a1
 ·rw [if_pos c7] at H
  have c7b0:decide (0≤a1)=true:=decide_eq_true c7
  clear c7
  by_cases c8:a1 < (t286.length:Int)
  ·rw [if_pos c8] at H
   have c8b0:decide (a1 < (t286.length:Int))=true:=decide_eq_true c8
   clear c8
   by_cases c9:0≤a2
   ·rw [if_pos c9] at H
    have c9b0:=eq_true c9
    have c9b1:decide (0≤a2)=true:=decide_eq_true c9
    clear c9
    obtain ⟨ji10,hji10⟩:∃ j_:Int,(shl .u16 1 a2)=j_:=⟨_,rfl⟩
    replace H:(if 0≤a3 then ((some (t286.set (a1:Int).toNat (Go.bits .or .u16 (Go.bits .andNot .u16 (rd t286 a1) (ji10)) (shl .u16 1 a3)):List Int)).bind fun y290=>(if a2 < (t286.length:Int) then (if 0≤a4 then ((some (y290.set (a2:Int).toNat (Go.bits .or .u16 (Go.bits .andNot .u16 (rd y290 a2) (shl .u16 1 a1)) (shl .u16 1 a4)):List Int)).bind fun y292=>(if a3 < (t286.length:Int) then ((some (y292.set (a3:Int).toNat (Go.bits .or .u16 (Go.bits .andNot .u16 (rd y292 a3) (shl .u16 1 a4)) (shl .u16 1 a1)):List Int)).bind fun y294=>(if a4 < (t286.length:Int) then (some (y294.set (a4:Int).toNat (Go.bits .or .u16 (Go.bits .andNot .u16 (rd y294 a4) (shl .u16 1 a3)) (ji10)))) else (none))) else (none))) else (none)) else (none))) else (none))=some r:=by first | (rw [hji10] at H;exact H) | (simp only [hji10] at H ⊢;exact H)
    (try rw [hji10] at A6)
    have hji10_:(IntKind.u16.wrap (1 * 2 ^ min a2.toNat 16))=ji10:=hji10
    have hji10z:a2≤16→(IntKind.u16.wrap (1 * 2 ^ a2.toNat))=ji10:=shl_small hji10
    have hji10u:(IntKind.u16.wrap (2 ^ min a2.toNat 16))=ji10:=by have h_:=hji10_;rw [Int.one_mul] at h_;exact h_
    have hji10v:a2≤16→(IntKind.u16.wrap (2 ^ a2.toNat))=ji10:=fun hle_=>by have h_:=hji10z hle_;rw [Int.one_mul] at h_;exact h_
    by_cases c11:0≤a3
    ·rw [if_pos c11] at H
     have c11b0:=eq_true c11
     have c11b1:decide (0≤a3)=true:=decide_eq_true c11
     clear c11
     obtain ⟨ji12,hji12⟩:∃ j_:Int,(shl .u16 1 a3)=j_:=⟨_,rfl⟩
     replace H:((some (t286.set (a1:Int).toNat (Go.bits .or .u16 (Go.bits .andNot .u16 (rd t286 a1) (ji10)) (ji12)):List Int)).bind fun y290=>(if a2 < (t286.length:Int) then (if 0≤a4 then ((some (y290.set (a2:Int).toNat (Go.bits .or .u16 (Go.bits .andNot .u16 (rd y290 a2) (shl .u16 1 a1)) (shl .u16 1 a4)):List Int)).bind fun y292=>(if a3 < (t286.length:Int) then ((some (y292.set (a3:Int).toNat (Go.bits .or .u16 (Go.bits .andNot .u16 (rd y292 a3) (shl .u16 1 a4)) (shl .u16 1 a1)):List Int)).bind fun y294=>(if a4 < (t286.length:Int) then (some (y294.set (a4:Int).toNat (Go.bits .or .u16 (Go.bits .andNot .u16 (rd y294 a4) (ji12)) (ji10)))) else (none))) else (none))) else (none)) else (none)))=some r:=by first | (rw [hji12] at H;exact H) | (simp only [hji12] at H ⊢;exact H)
     (try rw [hji12] at A6)
     have hji12_:(IntKind.u16.wrap (1 * 2 ^ min a3.toNat 16))=ji12:=hji12
     have hji12z:a3≤16→(IntKind.u16.wrap (1 * 2 ^ a3.toNat))=ji12:=shl_small hji12
     have hji12u:(IntKind.u16.wrap (2 ^ min a3.toNat 16))=ji12:=by have h_:=hji12_;rw [Int.one_mul] at h_;exact h_
     have hji12v:a3≤16→(IntKind.u16.wrap (2 ^ a3.toNat))=ji12:=fun hle_=>by have h_:=hji12z hle_;rw [Int.one_mul] at h_;exact h_
     obtain ⟨y290,hy290⟩:∃ y_:List Int,y_=(t286.set (a1:Int).toNat (Go.bits .or .u16 (Go.bits .andNot .u16 (rd t286 a1) (ji10)) (ji12))):=⟨_,rfl⟩
     replace H:(if a2 < (t286.length:Int) then (if 0≤a4 then ((some (y290.set (a2:Int).toNat (Go.bits .or .u16 (Go.bits .andNot .u16 (rd y290 a2) (shl .u16 1 a1)) (shl .u16 1 a4)):List Int)).bind fun y292=>(if a3 < (t286.length:Int) then ((some (y292.set (a3:Int).toNat (Go.bits .or .u16 (Go.bits .andNot .u16 (rd y292 a3) (shl .u16 1 a4)) (shl .u16 1 a1)):List Int)).bind fun y294=>(if a4 < (t286.length:Int) then (some (y294.set (a4:Int).toNat (Go.bits .or .u16 (Go.bits .andNot .u16 (rd y294 a4) (ji12)) (ji10)))) else (none))) else (none))) else (none)) else (none))=some r:=by first | (rw [hy290];with_reducible exact H) | (have H2_:=(Option.bind_some _ _).symm.trans H;rw [hy290];with_reducible exact H2_) | (have H2_:=(Option.bind_some _ _).symm.trans H;with_reducible exact H2_) | with_reducible exact H | (rw [hy290];exact H) | exact H
     have Ny290:=zz31 hy290
     clear hy290
     by_cases c14:a2 < (t286.length:Int)
     ·rw [if_pos c14] at H
      have c14b0:decide (a2 < (t286.length:Int))=true:=decide_eq_true c14
      clear c14
      have c15b0:=eq_true (zz29 (by first | (with_reducible assumption) | assumption):0≤a1)
      obtain ⟨ji16,hji16⟩:∃ j_:Int,(shl .u16 1 a1)=j_:=⟨_,rfl⟩
      replace H:(if 0≤a4 then ((some (y290.set (a2:Int).toNat (Go.bits .or .u16 (Go.bits .andNot .u16 (rd y290 a2) (ji16)) (shl .u16 1 a4)):List Int)).bind fun y292=>(if a3 < (t286.length:Int) then ((some (y292.set (a3:Int).toNat (Go.bits .or .u16 (Go.bits .andNot .u16 (rd y292 a3) (shl .u16 1 a4)) (ji16)):List Int)).bind fun y294=>(if a4 < (t286.length:Int) then (some (y294.set (a4:Int).toNat (Go.bits .or .u16 (Go.bits .andNot .u16 (rd y294 a4) (ji12)) (ji10)))) else (none))) else (none))) else (none))=some r:=by first | (rw [hji16] at H;exact H) | (simp only [hji16] at H ⊢;exact H)
      (try rw [hji16] at A6)
      have hji16_:(IntKind.u16.wrap (1 * 2 ^ min a1.toNat 16))=ji16:=hji16
      have hji16z:a1≤16→(IntKind.u16.wrap (1 * 2 ^ a1.toNat))=ji16:=shl_small hji16
      have hji16u:(IntKind.u16.wrap (2 ^ min a1.toNat 16))=ji16:=by have h_:=hji16_;rw [Int.one_mul] at h_;exact h_
      have hji16v:a1≤16→(IntKind.u16.wrap (2 ^ a1.toNat))=ji16:=fun hle_=>by have h_:=hji16z hle_;rw [Int.one_mul] at h_;exact h_
      by_cases c17:0≤a4
      ·rw [if_pos c17] at H
       have c17b0:=eq_true c17
       have c17b1:decide (0≤a4)=true:=decide_eq_true c17
       clear c17
       obtain ⟨ji18,hji18⟩:∃ j_:Int,(shl .u16 1 a4)=j_:=⟨_,rfl⟩
       replace H:((some (y290.set (a2:Int).toNat (Go.bits .or .u16 (Go.bits .andNot .u16 (rd y290 a2) (ji16)) (ji18)):List Int)).bind fun y292=>(if a3 < (t286.length:Int) then ((some (y292.set (a3:Int).toNat (Go.bits .or .u16 (Go.bits .andNot .u16 (rd y292 a3) (ji18)) (ji16)):List Int)).bind fun y294=>(if a4 < (t286.length:Int) then (some (y294.set (a4:Int).toNat (Go.bits .or .u16 (Go.bits .andNot .u16 (rd y294 a4) (ji12)) (ji10)))) else (none))) else (none)))=some r:=by first | (rw [hji18] at H;exact H) | (simp only [hji18] at H ⊢;exact H)
       (try rw [hji18] at A6)
       have hji18_:(IntKind.u16.wrap (1 * 2 ^ min a4.toNat 16))=ji18:=hji18
       have hji18z:a4≤16→(IntKind.u16.wrap (1 * 2 ^ a4.toNat))=ji18:=shl_small hji18
       have hji18u:(IntKind.u16.wrap (2 ^ min a4.toNat 16))=ji18:=by have h_:=hji18_;rw [Int.one_mul] at h_;exact h_
       have hji18v:a4≤16→(IntKind.u16.wrap (2 ^ a4.toNat))=ji18:=fun hle_=>by have h_:=hji18z hle_;rw [Int.one_mul] at h_;exact h_
       obtain ⟨y292,hy292⟩:∃ y_:List Int,y_=(y290.set (a2:Int).toNat (Go.bits .or .u16 (Go.bits .andNot .u16 (rd y290 a2) (ji16)) (ji18))):=⟨_,rfl⟩
       replace H:(if a3 < (t286.length:Int) then ((some (y292.set (a3:Int).toNat (Go.bits .or .u16 (Go.bits .andNot .u16 (rd y292 a3) (ji18)) (ji16)):List Int)).bind fun y294=>(if a4 < (t286.length:Int) then (some (y294.set (a4:Int).toNat (Go.bits .or .u16 (Go.bits .andNot .u16 (rd y294 a4) (ji12)) (ji10)))) else (none))) else (none))=some r:=by first | (rw [hy292];with_reducible exact H) | (have H2_:=(Option.bind_some _ _).symm.trans H;rw [hy292];with_reducible exact H2_) | (have H2_:=(Option.bind_some _ _).symm.trans H;with_reducible exact H2_) | with_reducible exact H | (rw [hy292];exact H) | exact H
       have Ny292:=zz31 hy292
       clear hy292
       by_cases c20:a3 < (t286.length:Int)
       ·rw [if_pos c20] at H
        have c20b0:decide (a3 < (t286.length:Int))=true:=decide_eq_true c20
        clear c20
        have c21b0:=eq_true (zz29 (by first | (with_reducible assumption) | assumption):0≤a4)
        have c23b0:=eq_true (zz29 (by first | (with_reducible assumption) | assumption):0≤a1)
        obtain ⟨y294,hy294⟩:∃ y_:List Int,y_=(y292.set (a3:Int).toNat (Go.bits .or .u16 (Go.bits .andNot .u16 (rd y292 a3) (ji18)) (ji16))):=⟨_,rfl⟩
        replace H:(if a4 < (t286.length:Int) then (some (y294.set (a4:Int).toNat (Go.bits .or .u16 (Go.bits .andNot .u16 (rd y294 a4) (ji12)) (ji10)))) else (none))=some r:=by first | (rw [hy294];with_reducible exact H) | (have H2_:=(Option.bind_some _ _).symm.trans H;rw [hy294];with_reducible exact H2_) | (have H2_:=(Option.bind_some _ _).symm.trans H;with_reducible exact H2_) | with_reducible exact H | (rw [hy294];exact H) | exact H
        have Ny294:=zz31 hy294
        clear hy294
        by_cases c26:a4 < (t286.length:Int)
        ·rw [if_pos c26] at H
         have c26b0:decide (a4 < (t286.length:Int))=true:=decide_eq_true c26
         clear c26
         have c27b0:=eq_true (zz29 (by first | (with_reducible assumption) | assumption):0≤a3)
         have c29b0:=eq_true (zz29 (by first | (with_reducible assumption) | assumption):0≤a2)
         obtain ⟨y296,hy296⟩:∃ y_:List Int,y_=(y294.set (a4:Int).toNat (Go.bits .or .u16 (Go.bits .andNot .u16 (rd y294 a4) (ji12)) (ji10))):=⟨_,rfl⟩
         replace H:(some y296)=some r:=by first | (rw [hy296];with_reducible exact H) | (have H2_:=(Option.bind_some _ _).symm.trans H;rw [hy296];with_reducible exact H2_) | (have H2_:=(Option.bind_some _ _).symm.trans H;with_reducible exact H2_) | with_reducible exact H | (rw [hy296];exact H) | exact H
         have Ny296:=zz31 hy296
         clear hy296
         obtain rfl:=Option.some.inj H
         go_enter Try.func56,Try.ntmps56
         try go_wp2_with (first | ((with_reducible refine gate_callee (f:=82) rfl ?_);refine goesL_ (some 13) rfl rfl Try.func82 (by kernel_rfl) rfl #[.slice A0 l0.length c0] rfl (by (try simp only [zz26,zz27,zz28]);first | done | rfl | (simp only [zz24,zz25];rfl)) ?_;(with_reducible refine (impl_table_uint16.calls _ _ l0 t286 _ ?side1 ?side2 A6.out).mono ?_);(case side1=>repeat (first | exact HR0.out | (with_reducible refine zz18 ?_ _) | (with_reducible refine zz19 ?_ _) | (with_reducible refine zz20 ?_)));(case side2=>exact HC0.out);rintro e w32 ⟨v287,rfl,ho0,hb⟩;refine ⟨_,rfl,?_⟩;have HO288:=zz31 (Kd.R_lower ho0 (zz5 (by repeat first | exact HB.out | apply zz2 | apply zz0 | apply zz1)));replace HB:=zz31 (zz4 (by repeat first | exact HB.out | apply zz2 | apply zz0 | apply zz1) hb);(try clear hb);(try clear hb2);(try clear hk);(try clear hi);(try clear ho0)))
         replace HO288:=zz31 (zz14 HO288.out)
         replace HB:=zz31 (zz1 HB.out)
         obtain ⟨Ao34,co34,eo34⟩:=Kd.R_slice HO288.out
         (first | subst eo34 | (injection eo34 with f1_ f2_ f3_;have f4_:=f1_.symm;have f5_:=f3_.symm;clear f1_ f2_ f3_;subst f4_;subst f5_))
         have p289:0≤(a1:Int):=zz29 (by first | (with_reducible assumption) | assumption)
         have q289:a1 < (t286.length:Int):=zz29 (by first | (with_reducible assumption) | assumption)
         obtain ⟨ad289,e289,hx289_0⟩:=Kd.at_int (Kd.R_reads' HO288.out).2.2 a1 p289 q289
         cases e289
         replace p289:=eq_true p289
         replace q289:=eq_true q289
         have p13:0≤(a1:Int):=zz29 (by first | (with_reducible assumption) | assumption)
         have q13:(a1:Int) < ((t286.length:Int):Int):=zz29 (by first | (with_reducible assumption) | assumption)
         obtain ⟨go13,co13,eo13,gb13,gl13,cl13,HG13⟩:=Kd.R_form HO288.out (by omega)
         (first | cases eo13 | (injection eo13 with ea_ en_ ec_;(first | subst ea_ | (injection ea_ with ea_;subst ea_));subst ec_;clear en_))
         have GB13:=zz31 gb13
         have GG13:=zz31 HG13
         clear gb13 gl13 HG13
         (first | simp only [add_plain] at hx289_0 | skip)
         obtain ⟨hx13_0,hf13_0⟩:=Kd.R_celln 0 HO288.out (a1:Int) p13 q13
         replace p13:=eq_true p13
         replace q13:=eq_true q13
         have HP35:=Kd.R_putn HO288.out (a1:Int) (Go.bits .or .u16 (Go.bits .andNot .u16 (rd t286 a1) (ji10)) (ji12))
         rw [← Ny290.out] at HP35
         have HQ35:=zz31 HP35
         clear HP35
         refine start_ (n:=14) (S:=fun w'=>w'.cell? ⟨go13,(a1).toNat,none⟩=some (.int .u16 (rd t286 a1))) (ds:=[13]) #[F,F,F,F,F,F,F,F,F,F,F,F,F,F] (by kernel_rfl) rfl rfl (hx289_0) (fun hHeld=>?_);refine with_tabW impl_table_exchanged.tab2 impl_table_exchanged.bits2 (fun HT_ HW_=>?_)
         generalize w32.drew=w33 at HO288 HB GG13 HQ35 hf13_0 hx13_0 hx289_0 hHeld ⊢
         refine zz32 (v:=?_) (a':=?_) 0 (some 14) #[T,F,F,F,F,F,F,F,F,F,F,F,F,F] rfl rfl HT_.out (by kernel_rfl) (fun _ _ _ h=>h) (by rfl) (fun w'=>?_) ?_ ?_;rotate_left;(go_simp;with_reducible rfl);rotate_left;(simp only [Act.put,zz21,zz22,zz23,i64_w,i32_w];rfl)
         refine zz32 (v:=?_) (a':=?_) 1 (some 15) #[T,T,F,F,F,F,F,F,F,F,F,F,F,F] rfl rfl HT_.out (by kernel_rfl) (fun _ _ _ h=>h) (by rfl) (fun w'=>?_) ?_ ?_;rotate_left;(go_simp;with_reducible rfl);rotate_left;(simp only [Act.put,zz21,zz22,zz23,i64_w,i32_w];rfl)
         refine zz32 (v:=?_) (a':=?_) 2 (some 16) #[T,T,T,F,F,F,F,F,F,F,F,F,F,F] rfl rfl HT_.out (by kernel_rfl) (fun _ _ _ h=>h) (by rfl) (fun w'=>?_) ?_ ?_;rotate_left;(go_simp;with_reducible rfl);rotate_left;(simp only [Act.put,zz21,zz22,zz23,i64_w,i32_w];rfl)
         refine zz32 (v:=?_) (a':=?_) 3 (some 17) #[T,T,T,T,F,F,F,F,F,F,F,F,F,F] rfl rfl HT_.out (by kernel_rfl) (fun _ _ _ h=>h) (by rfl) (fun w'=>?_) ?_ ?_;rotate_left;(go_simp;with_reducible rfl);rotate_left;(simp only [Act.put,zz21,zz22,zz23,i64_w,i32_w];rfl)
         refine zz32 (v:=?_) (a':=?_) 4 (some 18) #[T,T,T,T,T,F,F,F,F,F,F,F,F,F] rfl rfl HT_.out (by kernel_rfl) (fun _ _ _ h=>h) (by rfl) (fun w'=>?_) ?_ ?_;rotate_left;(go_simp;with_reducible rfl);rotate_left;(simp only [Act.put,zz21,zz22,zz23,i64_w,i32_w];rfl)
         refine zz32 (v:=?_) (a':=?_) 6 (some 20) #[T,T,T,T,T,F,T,F,F,F,F,F,F,F] rfl rfl HT_.out (by kernel_rfl) (fun _ _ _ h=>h) (by rfl) (fun w'=>?_) ?_ ?_;rotate_left;(go_simp;with_reducible rfl);rotate_left;(simp only [Act.put,zz21,zz22,zz23,i64_w,i32_w];rfl)
         refine zz32 (v:=?_) (a':=?_) 7 (some 21) #[T,T,T,T,T,F,T,T,F,F,F,F,F,F] rfl rfl HT_.out (by kernel_rfl) (fun _ _ _ h=>h) (by rfl) (fun w'=>?_) ?_ ?_;rotate_left;(go_simp;with_reducible rfl);rotate_left;(simp only [Act.put,zz21,zz22,zz23,i64_w,i32_w];rfl)
         refine zz32 (v:=?_) (a':=?_) 9 (some 23) #[T,T,T,T,T,F,T,T,F,T,F,F,F,F] rfl rfl HT_.out (by kernel_rfl) (fun _ _ _ h=>h) (by rfl) (fun w'=>?_) ?_ ?_;rotate_left;(go_simp;with_reducible rfl);rotate_left;(simp only [Act.put,zz21,zz22,zz23,i64_w,i32_w];rfl)
         refine zz32 (v:=?_) (a':=?_) 10 (some 24) #[T,T,T,T,T,F,T,T,F,T,T,F,F,F] rfl rfl HT_.out (by kernel_rfl) (fun _ _ _ h=>h) (by rfl) (fun w'=>?_) ?_ ?_;rotate_left;(go_simp;with_reducible rfl);rotate_left;(simp only [Act.put,zz21,zz22,zz23,i64_w,i32_w];rfl)
         refine take_ (i:=5) (N:=some 19) (v:=?_) (a':=?_) #[T,T,T,T,T,T,T,T,F,T,T,F,F,F] rfl rfl (take_ofW HT_.out HW_.out (by kernel_rfl)) (fun _ _ _ h=>h) (Or.inl ⟨by rfl,?_⟩) hHeld ?_ ?_
         rotate_left
         ·intro w' s0
          go_simp
          with_reducible rfl
         rotate_left
         ·simp only [Act.put,zz21,zz22,zz23,i64_w,i32_w]
          rfl
         refine zz32 (v:=?_) (a':=?_) 8 (some 22) #[T,T,T,T,T,T,T,T,T,T,T,F,F,F] rfl rfl HT_.out (by kernel_rfl) (fun _ _ _ h=>h) (by rfl) (fun w'=>?_) ?_ ?_;rotate_left;(go_simp;with_reducible rfl);rotate_left;(simp only [Act.put,zz21,zz22,zz23,i64_w,i32_w];rfl)
         refine zz32 (v:=?_) (a':=?_) 11 (some 25) #[T,T,T,T,T,T,T,T,T,T,T,T,F,F] rfl rfl HT_.out (by kernel_rfl) (fun _ _ _ h=>h) (by rfl) (fun w'=>?_) ?_ ?_;rotate_left;(go_simp;with_reducible rfl);rotate_left;(simp only [Act.put,zz21,zz22,zz23,i64_w,i32_w];rfl)
         refine zz32 (v:=?_) (a':=?_) 12 (some 26) #[T,T,T,T,T,T,T,T,T,T,T,T,T,F] rfl rfl HT_.out (by kernel_rfl) (fun _ _ _ h=>h) (by rfl) (fun w'=>?_) ?_ ?_;rotate_left;(go_simp;with_reducible rfl);rotate_left;(simp only [Act.put,zz21,zz22,zz23,i64_w,i32_w];rfl)
         refine last_ (i:=13) (N:=none) #[T,T,T,T,T,T,T,T,T,T,T,T,T,T] rfl rfl (one_of HT_.out (by kernel_rfl)) (by decide) (fun K hK=>?_)
         refine skip_ (w1:=?_) (by rfl) rfl ?_ ?_
         rotate_left
         ·go_simp
          rfl
         refine hK.out _ _ ?_
         clear hK K
         refine done_ (done_of HT_.out (by kernel_rfl)) ?_
         try go_wp2
         have n0_:Aside0 (Kd.R (Kd.int .u16) 100 (w33.setCell ⟨go13,(a1:Int).toNat,none⟩ (.int .u16 (Go.bits .or .u16 (Go.bits .andNot .u16 (rd t286 a1) (ji10)) (ji12)))) w.heap.size (fun _=>True) (.slice (some ⟨go13,0,none⟩) t286.length co34) y290):=⟨by (with_reducible repeat (first | apply zz12 | apply zz13 | apply zz14));exact HQ35.out⟩
         have n1_:Aside0 (Below w.heap.size w (w33.setCell ⟨go13,(a1:Int).toNat,none⟩ (.int .u16 (Go.bits .or .u16 (Go.bits .andNot .u16 (rd t286 a1) (ji10)) (ji12))))):=⟨by repeat first | exact HB.out | apply zz2 | apply zz0 | apply zz1 | refine zz3 ?_ GB13.out⟩
         (try clear HO288)
         (try clear HB)
         generalize (w33.setCell ⟨go13,(a1:Int).toNat,none⟩ (.int .u16 (Go.bits .or .u16 (Go.bits .andNot .u16 (rd t286 a1) (ji10)) (ji12))))=w36 at n0_ n1_ ⊢
         have HO288:=n0_
         have HB:=n1_
         clear n0_ n1_
         replace HO288:=zz31 (zz14 HO288.out)
         replace HB:=zz31 (zz1 HB.out)
         have p291:0≤(a2:Int):=zz29 (by first | (with_reducible assumption) | assumption)
         have q291:a2 < (y290.length:Int):=(by have h_:(a2:Int) < ((t286.length:Int):Int):=zz29 (by first | (with_reducible assumption) | assumption);first | (have e_:=(Kd.R_reads' HO288.out).1;omega) | simpa only [Ny290.out,List.length_set] using h_)
         have ql291:((a2:Int) < ((t286.length:Int):Int))=True:=eq_true (zz29 (by first | (with_reducible assumption) | assumption))
         obtain ⟨ad291,e291,hx291_0⟩:=Kd.at_int (Kd.R_reads' HO288.out).2.2 a2 p291 q291
         obtain rfl:(⟨go13,0,none⟩:Addr)=ad291:=(by injection e291)
         (first | simp only [add_plain] at hx291_0 | simp only [add_at] at hx291_0 | simp only [Addr.add,Nat.zero_add] at hx291_0 | skip)
         replace p291:=eq_true p291
         replace q291:=eq_true q291
         have p19:0≤(a2:Int):=zz29 (by first | (with_reducible assumption) | assumption)
         have q19:(a2:Int) < ((t286.length:Int):Int):=zz29 (by first | (with_reducible assumption) | assumption)
         obtain ⟨hx19_0,hf19_0⟩:=Kd.R_celln 0 HO288.out (a2:Int) p19 q19
         replace p19:=eq_true p19
         replace q19:=eq_true q19
         have HP38:=Kd.R_putn HO288.out (a2:Int) (Go.bits .or .u16 (Go.bits .andNot .u16 (rd y290 a2) (ji16)) (ji18))
         rw [← Ny292.out] at HP38
         have HQ38:=zz31 HP38
         clear HP38
         refine start_ (n:=14) (S:=fun w'=>w'.cell? ⟨go13,(a2).toNat,none⟩=some (.int .u16 (rd y290 a2))) (ds:=[13]) #[F,F,F,F,F,F,F,F,F,F,F,F,F,F] (by kernel_rfl) rfl rfl (hx291_0) (fun hHeld=>?_);refine with_tabW impl_table_exchanged.tab3 impl_table_exchanged.bits3 (fun HT_ HW_=>?_)
         generalize w36.drew=w37 at HO288 HB HQ35 HQ38 hf19_0 hx19_0 hx291_0 hHeld ⊢
         refine zz32 (v:=?_) (a':=?_) 0 (some 27) #[T,F,F,F,F,F,F,F,F,F,F,F,F,F] rfl rfl HT_.out (by kernel_rfl) (fun _ _ _ h=>h) (by rfl) (fun w'=>?_) ?_ ?_;rotate_left;(go_simp;with_reducible rfl);rotate_left;(simp only [Act.put,zz21,zz22,zz23,i64_w,i32_w];rfl)
         refine zz32 (v:=?_) (a':=?_) 1 (some 28) #[T,T,F,F,F,F,F,F,F,F,F,F,F,F] rfl rfl HT_.out (by kernel_rfl) (fun _ _ _ h=>h) (by rfl) (fun w'=>?_) ?_ ?_;rotate_left;(go_simp;with_reducible rfl);rotate_left;(simp only [Act.put,zz21,zz22,zz23,i64_w,i32_w];rfl)
         refine zz32 (v:=?_) (a':=?_) 2 (some 29) #[T,T,T,F,F,F,F,F,F,F,F,F,F,F] rfl rfl HT_.out (by kernel_rfl) (fun _ _ _ h=>h) (by rfl) (fun w'=>?_) ?_ ?_;rotate_left;(go_simp;with_reducible rfl);rotate_left;(simp only [Act.put,zz21,zz22,zz23,i64_w,i32_w];rfl)
         refine zz32 (v:=?_) (a':=?_) 3 (some 30) #[T,T,T,T,F,F,F,F,F,F,F,F,F,F] rfl rfl HT_.out (by kernel_rfl) (fun _ _ _ h=>h) (by rfl) (fun w'=>?_) ?_ ?_;rotate_left;(go_simp;with_reducible rfl);rotate_left;(simp only [Act.put,zz21,zz22,zz23,i64_w,i32_w];rfl)
         refine zz32 (v:=?_) (a':=?_) 4 (some 31) #[T,T,T,T,T,F,F,F,F,F,F,F,F,F] rfl rfl HT_.out (by kernel_rfl) (fun _ _ _ h=>h) (by rfl) (fun w'=>?_) ?_ ?_;rotate_left;(go_simp;with_reducible rfl);rotate_left;(simp only [Act.put,zz21,zz22,zz23,i64_w,i32_w];rfl)
         refine zz32 (v:=?_) (a':=?_) 6 (some 33) #[T,T,T,T,T,F,T,F,F,F,F,F,F,F] rfl rfl HT_.out (by kernel_rfl) (fun _ _ _ h=>h) (by rfl) (fun w'=>?_) ?_ ?_;rotate_left;(go_simp;with_reducible rfl);rotate_left;(simp only [Act.put,zz21,zz22,zz23,i64_w,i32_w];rfl)
         refine zz32 (v:=?_) (a':=?_) 7 (some 34) #[T,T,T,T,T,F,T,T,F,F,F,F,F,F] rfl rfl HT_.out (by kernel_rfl) (fun _ _ _ h=>h) (by rfl) (fun w'=>?_) ?_ ?_;rotate_left;(go_simp;with_reducible rfl);rotate_left;(simp only [Act.put,zz21,zz22,zz23,i64_w,i32_w];rfl)
         refine zz32 (v:=?_) (a':=?_) 9 (some 36) #[T,T,T,T,T,F,T,T,F,T,F,F,F,F] rfl rfl HT_.out (by kernel_rfl) (fun _ _ _ h=>h) (by rfl) (fun w'=>?_) ?_ ?_;rotate_left;(go_simp;with_reducible rfl);rotate_left;(simp only [Act.put,zz21,zz22,zz23,i64_w,i32_w];rfl)
         refine zz32 (v:=?_) (a':=?_) 10 (some 37) #[T,T,T,T,T,F,T,T,F,T,T,F,F,F] rfl rfl HT_.out (by kernel_rfl) (fun _ _ _ h=>h) (by rfl) (fun w'=>?_) ?_ ?_;rotate_left;(go_simp;with_reducible rfl);rotate_left;(simp only [Act.put,zz21,zz22,zz23,i64_w,i32_w];rfl)
         refine take_ (i:=5) (N:=some 32) (v:=?_) (a':=?_) #[T,T,T,T,T,T,T,T,F,T,T,F,F,F] rfl rfl (take_ofW HT_.out HW_.out (by kernel_rfl)) (fun _ _ _ h=>h) (Or.inl ⟨by rfl,?_⟩) hHeld ?_ ?_
         rotate_left
         ·intro w' s0
          go_simp
          with_reducible rfl
         rotate_left
         ·simp only [Act.put,zz21,zz22,zz23,i64_w,i32_w]
          rfl
         refine zz32 (v:=?_) (a':=?_) 8 (some 35) #[T,T,T,T,T,T,T,T,T,T,T,F,F,F] rfl rfl HT_.out (by kernel_rfl) (fun _ _ _ h=>h) (by rfl) (fun w'=>?_) ?_ ?_;rotate_left;(go_simp;with_reducible rfl);rotate_left;(simp only [Act.put,zz21,zz22,zz23,i64_w,i32_w];rfl)
         refine zz32 (v:=?_) (a':=?_) 11 (some 38) #[T,T,T,T,T,T,T,T,T,T,T,T,F,F] rfl rfl HT_.out (by kernel_rfl) (fun _ _ _ h=>h) (by rfl) (fun w'=>?_) ?_ ?_;rotate_left;(go_simp;with_reducible rfl);rotate_left;(simp only [Act.put,zz21,zz22,zz23,i64_w,i32_w];rfl)
         refine zz32 (v:=?_) (a':=?_) 12 (some 39) #[T,T,T,T,T,T,T,T,T,T,T,T,T,F] rfl rfl HT_.out (by kernel_rfl) (fun _ _ _ h=>h) (by rfl) (fun w'=>?_) ?_ ?_;rotate_left;(go_simp;with_reducible rfl);rotate_left;(simp only [Act.put,zz21,zz22,zz23,i64_w,i32_w];rfl)
         refine last_ (i:=13) (N:=none) #[T,T,T,T,T,T,T,T,T,T,T,T,T,T] rfl rfl (one_of HT_.out (by kernel_rfl)) (by decide) (fun K hK=>?_)
         refine skip_ (w1:=?_) (by rfl) rfl ?_ ?_
         rotate_left
         ·go_simp
          rfl
         refine hK.out _ _ ?_
         clear hK K
         refine done_ (done_of HT_.out (by kernel_rfl)) ?_
         try go_wp2
         have n0_:Aside0 (Kd.R (Kd.int .u16) 100 (w37.setCell ⟨go13,(a2:Int).toNat,none⟩ (.int .u16 (Go.bits .or .u16 (Go.bits .andNot .u16 (rd y290 a2) (ji16)) (ji18)))) w.heap.size (fun _=>True) (.slice (some ⟨go13,0,none⟩) t286.length co34) y292):=⟨by (with_reducible repeat (first | apply zz12 | apply zz13 | apply zz14));exact HQ38.out⟩
         have n1_:Aside0 (Below w.heap.size w (w37.setCell ⟨go13,(a2:Int).toNat,none⟩ (.int .u16 (Go.bits .or .u16 (Go.bits .andNot .u16 (rd y290 a2) (ji16)) (ji18))))):=⟨by repeat first | exact HB.out | apply zz2 | apply zz0 | apply zz1 | refine zz3 ?_ GB13.out⟩
         (try clear HO288)
         (try clear HB)
         generalize (w37.setCell ⟨go13,(a2:Int).toNat,none⟩ (.int .u16 (Go.bits .or .u16 (Go.bits .andNot .u16 (rd y290 a2) (ji16)) (ji18))))=w39 at n0_ n1_ ⊢
         have HO288:=n0_
         have HB:=n1_
         clear n0_ n1_
         replace HO288:=zz31 (zz14 HO288.out)
         replace HB:=zz31 (zz1 HB.out)
         have p293:0≤(a3:Int):=zz29 (by first | (with_reducible assumption) | assumption)
         have q293:a3 < (y292.length:Int):=(by have h_:(a3:Int) < ((t286.length:Int):Int):=zz29 (by first | (with_reducible assumption) | assumption);first | (have e_:=(Kd.R_reads' HO288.out).1;omega) | simpa only [Ny290.out,Ny292.out,List.length_set] using h_)
         have ql293:((a3:Int) < ((t286.length:Int):Int))=True:=eq_true (zz29 (by first | (with_reducible assumption) | assumption))
         obtain ⟨ad293,e293,hx293_0⟩:=Kd.at_int (Kd.R_reads' HO288.out).2.2 a3 p293 q293
         obtain rfl:(⟨go13,0,none⟩:Addr)=ad293:=(by injection e293)
         (first | simp only [add_plain] at hx293_0 | simp only [add_at] at hx293_0 | simp only [Addr.add,Nat.zero_add] at hx293_0 | skip)
         replace p293:=eq_true p293
         replace q293:=eq_true q293
         have p25:0≤(a3:Int):=zz29 (by first | (with_reducible assumption) | assumption)
         have q25:(a3:Int) < ((t286.length:Int):Int):=zz29 (by first | (with_reducible assumption) | assumption)
         obtain ⟨hx25_0,hf25_0⟩:=Kd.R_celln 0 HO288.out (a3:Int) p25 q25
         replace p25:=eq_true p25
         replace q25:=eq_true q25
         have HP41:=Kd.R_putn HO288.out (a3:Int) (Go.bits .or .u16 (Go.bits .andNot .u16 (rd y292 a3) (ji18)) (ji16))
         rw [← Ny294.out] at HP41
         have HQ41:=zz31 HP41
         clear HP41
         refine start_ (n:=14) (S:=fun w'=>w'.cell? ⟨go13,(a3).toNat,none⟩=some (.int .u16 (rd y292 a3))) (ds:=[13]) #[F,F,F,F,F,F,F,F,F,F,F,F,F,F] (by kernel_rfl) rfl rfl (hx293_0) (fun hHeld=>?_);refine with_tabW impl_table_exchanged.tab4 impl_table_exchanged.bits4 (fun HT_ HW_=>?_)
         generalize w39.drew=w40 at HO288 HB HQ38 HQ41 hf25_0 hx25_0 hx293_0 hHeld ⊢
         refine zz32 (v:=?_) (a':=?_) 0 (some 40) #[T,F,F,F,F,F,F,F,F,F,F,F,F,F] rfl rfl HT_.out (by kernel_rfl) (fun _ _ _ h=>h) (by rfl) (fun w'=>?_) ?_ ?_;rotate_left;(go_simp;with_reducible rfl);rotate_left;(simp only [Act.put,zz21,zz22,zz23,i64_w,i32_w];rfl)
         refine zz32 (v:=?_) (a':=?_) 1 (some 41) #[T,T,F,F,F,F,F,F,F,F,F,F,F,F] rfl rfl HT_.out (by kernel_rfl) (fun _ _ _ h=>h) (by rfl) (fun w'=>?_) ?_ ?_;rotate_left;(go_simp;with_reducible rfl);rotate_left;(simp only [Act.put,zz21,zz22,zz23,i64_w,i32_w];rfl)
         refine zz32 (v:=?_) (a':=?_) 2 (some 42) #[T,T,T,F,F,F,F,F,F,F,F,F,F,F] rfl rfl HT_.out (by kernel_rfl) (fun _ _ _ h=>h) (by rfl) (fun w'=>?_) ?_ ?_;rotate_left;(go_simp;with_reducible rfl);rotate_left;(simp only [Act.put,zz21,zz22,zz23,i64_w,i32_w];rfl)
         refine zz32 (v:=?_) (a':=?_) 3 (some 43) #[T,T,T,T,F,F,F,F,F,F,F,F,F,F] rfl rfl HT_.out (by kernel_rfl) (fun _ _ _ h=>h) (by rfl) (fun w'=>?_) ?_ ?_;rotate_left;(go_simp;with_reducible rfl);rotate_left;(simp only [Act.put,zz21,zz22,zz23,i64_w,i32_w];rfl)
         refine zz32 (v:=?_) (a':=?_) 4 (some 44) #[T,T,T,T,T,F,F,F,F,F,F,F,F,F] rfl rfl HT_.out (by kernel_rfl) (fun _ _ _ h=>h) (by rfl) (fun w'=>?_) ?_ ?_;rotate_left;(go_simp;with_reducible rfl);rotate_left;(simp only [Act.put,zz21,zz22,zz23,i64_w,i32_w];rfl)
         refine zz32 (v:=?_) (a':=?_) 6 (some 46) #[T,T,T,T,T,F,T,F,F,F,F,F,F,F] rfl rfl HT_.out (by kernel_rfl) (fun _ _ _ h=>h) (by rfl) (fun w'=>?_) ?_ ?_;rotate_left;(go_simp;with_reducible rfl);rotate_left;(simp only [Act.put,zz21,zz22,zz23,i64_w,i32_w];rfl)
         refine zz32 (v:=?_) (a':=?_) 7 (some 47) #[T,T,T,T,T,F,T,T,F,F,F,F,F,F] rfl rfl HT_.out (by kernel_rfl) (fun _ _ _ h=>h) (by rfl) (fun w'=>?_) ?_ ?_;rotate_left;(go_simp;with_reducible rfl);rotate_left;(simp only [Act.put,zz21,zz22,zz23,i64_w,i32_w];rfl)
         refine zz32 (v:=?_) (a':=?_) 9 (some 49) #[T,T,T,T,T,F,T,T,F,T,F,F,F,F] rfl rfl HT_.out (by kernel_rfl) (fun _ _ _ h=>h) (by rfl) (fun w'=>?_) ?_ ?_;rotate_left;(go_simp;with_reducible rfl);rotate_left;(simp only [Act.put,zz21,zz22,zz23,i64_w,i32_w];rfl)
         refine zz32 (v:=?_) (a':=?_) 10 (some 50) #[T,T,T,T,T,F,T,T,F,T,T,F,F,F] rfl rfl HT_.out (by kernel_rfl) (fun _ _ _ h=>h) (by rfl) (fun w'=>?_) ?_ ?_;rotate_left;(go_simp;with_reducible rfl);rotate_left;(simp only [Act.put,zz21,zz22,zz23,i64_w,i32_w];rfl)
         refine take_ (i:=5) (N:=some 45) (v:=?_) (a':=?_) #[T,T,T,T,T,T,T,T,F,T,T,F,F,F] rfl rfl (take_ofW HT_.out HW_.out (by kernel_rfl)) (fun _ _ _ h=>h) (Or.inl ⟨by rfl,?_⟩) hHeld ?_ ?_
         rotate_left
         ·intro w' s0
          go_simp
          with_reducible rfl
         rotate_left
         ·simp only [Act.put,zz21,zz22,zz23,i64_w,i32_w]
          rfl
         refine zz32 (v:=?_) (a':=?_) 8 (some 48) #[T,T,T,T,T,T,T,T,T,T,T,F,F,F] rfl rfl HT_.out (by kernel_rfl) (fun _ _ _ h=>h) (by rfl) (fun w'=>?_) ?_ ?_;rotate_left;(go_simp;with_reducible rfl);rotate_left;(simp only [Act.put,zz21,zz22,zz23,i64_w,i32_w];rfl)
         refine zz32 (v:=?_) (a':=?_) 11 (some 51) #[T,T,T,T,T,T,T,T,T,T,T,T,F,F] rfl rfl HT_.out (by kernel_rfl) (fun _ _ _ h=>h) (by rfl) (fun w'=>?_) ?_ ?_;rotate_left;(go_simp;with_reducible rfl);rotate_left;(simp only [Act.put,zz21,zz22,zz23,i64_w,i32_w];rfl)
         refine zz32 (v:=?_) (a':=?_) 12 (some 52) #[T,T,T,T,T,T,T,T,T,T,T,T,T,F] rfl rfl HT_.out (by kernel_rfl) (fun _ _ _ h=>h) (by rfl) (fun w'=>?_) ?_ ?_;rotate_left;(go_simp;with_reducible rfl);rotate_left;(simp only [Act.put,zz21,zz22,zz23,i64_w,i32_w];rfl)
         refine last_ (i:=13) (N:=none) #[T,T,T,T,T,T,T,T,T,T,T,T,T,T] rfl rfl (one_of HT_.out (by kernel_rfl)) (by decide) (fun K hK=>?_)
         refine skip_ (w1:=?_) (by rfl) rfl ?_ ?_
         rotate_left
         ·go_simp
          rfl
         refine hK.out _ _ ?_
         clear hK K
         refine done_ (done_of HT_.out (by kernel_rfl)) ?_
         try go_wp2
         have n0_:Aside0 (Kd.R (Kd.int .u16) 100 (w40.setCell ⟨go13,(a3:Int).toNat,none⟩ (.int .u16 (Go.bits .or .u16 (Go.bits .andNot .u16 (rd y292 a3) (ji18)) (ji16)))) w.heap.size (fun _=>True) (.slice (some ⟨go13,0,none⟩) t286.length co34) y294):=⟨by (with_reducible repeat (first | apply zz12 | apply zz13 | apply zz14));exact HQ41.out⟩
         have n1_:Aside0 (Below w.heap.size w (w40.setCell ⟨go13,(a3:Int).toNat,none⟩ (.int .u16 (Go.bits .or .u16 (Go.bits .andNot .u16 (rd y292 a3) (ji18)) (ji16))))):=⟨by repeat first | exact HB.out | apply zz2 | apply zz0 | apply zz1 | refine zz3 ?_ GB13.out⟩
         (try clear HO288)
         (try clear HB)
         generalize (w40.setCell ⟨go13,(a3:Int).toNat,none⟩ (.int .u16 (Go.bits .or .u16 (Go.bits .andNot .u16 (rd y292 a3) (ji18)) (ji16))))=w42 at n0_ n1_ ⊢
         have HO288:=n0_
         have HB:=n1_
         clear n0_ n1_
         replace HO288:=zz31 (zz14 HO288.out)
         replace HB:=zz31 (zz1 HB.out)
         have p295:0≤(a4:Int):=zz29 (by first | (with_reducible assumption) | assumption)
         have q295:a4 < (y294.length:Int):=(by have h_:(a4:Int) < ((t286.length:Int):Int):=zz29 (by first | (with_reducible assumption) | assumption);first | (have e_:=(Kd.R_reads' HO288.out).1;omega) | simpa only [Ny290.out,Ny292.out,Ny294.out,List.length_set] using h_)
         have ql295:((a4:Int) < ((t286.length:Int):Int))=True:=eq_true (zz29 (by first | (with_reducible assumption) | assumption))
         obtain ⟨ad295,e295,hx295_0⟩:=Kd.at_int (Kd.R_reads' HO288.out).2.2 a4 p295 q295
         obtain rfl:(⟨go13,0,none⟩:Addr)=ad295:=(by injection e295)
         (first | simp only [add_plain] at hx295_0 | simp only [add_at] at hx295_0 | simp only [Addr.add,Nat.zero_add] at hx295_0 | skip)
         replace p295:=eq_true p295
         replace q295:=eq_true q295
         have p31:0≤(a4:Int):=zz29 (by first | (with_reducible assumption) | assumption)
         have q31:(a4:Int) < ((t286.length:Int):Int):=zz29 (by first | (with_reducible assumption) | assumption)
         obtain ⟨hx31_0,hf31_0⟩:=Kd.R_celln 0 HO288.out (a4:Int) p31 q31
         replace p31:=eq_true p31
         replace q31:=eq_true q31
         have HP44:=Kd.R_putn HO288.out (a4:Int) (Go.bits .or .u16 (Go.bits .andNot .u16 (rd y294 a4) (ji12)) (ji10))
         rw [← Ny296.out] at HP44
         have HQ44:=zz31 HP44
         clear HP44
         refine start_ (n:=14) (S:=fun w'=>w'.cell? ⟨go13,(a4).toNat,none⟩=some (.int .u16 (rd y294 a4))) (ds:=[13]) #[F,F,F,F,F,F,F,F,F,F,F,F,F,F] (by kernel_rfl) rfl rfl (hx295_0) (fun hHeld=>?_);refine with_tabW impl_table_exchanged.tab5 impl_table_exchanged.bits5 (fun HT_ HW_=>?_)
         generalize w42.drew=w43 at HO288 HB HQ41 HQ44 hf31_0 hx295_0 hx31_0 hHeld ⊢
         refine zz32 (v:=?_) (a':=?_) 0 (some 53) #[T,F,F,F,F,F,F,F,F,F,F,F,F,F] rfl rfl HT_.out (by kernel_rfl) (fun _ _ _ h=>h) (by rfl) (fun w'=>?_) ?_ ?_;rotate_left;(go_simp;with_reducible rfl);rotate_left;(simp only [Act.put,zz21,zz22,zz23,i64_w,i32_w];rfl)
         refine zz32 (v:=?_) (a':=?_) 1 (some 54) #[T,T,F,F,F,F,F,F,F,F,F,F,F,F] rfl rfl HT_.out (by kernel_rfl) (fun _ _ _ h=>h) (by rfl) (fun w'=>?_) ?_ ?_;rotate_left;(go_simp;with_reducible rfl);rotate_left;(simp only [Act.put,zz21,zz22,zz23,i64_w,i32_w];rfl)
         refine zz32 (v:=?_) (a':=?_) 2 (some 55) #[T,T,T,F,F,F,F,F,F,F,F,F,F,F] rfl rfl HT_.out (by kernel_rfl) (fun _ _ _ h=>h) (by rfl) (fun w'=>?_) ?_ ?_;rotate_left;(go_simp;with_reducible rfl);rotate_left;(simp only [Act.put,zz21,zz22,zz23,i64_w,i32_w];rfl)
         refine zz32 (v:=?_) (a':=?_) 3 (some 56) #[T,T,T,T,F,F,F,F,F,F,F,F,F,F] rfl rfl HT_.out (by kernel_rfl) (fun _ _ _ h=>h) (by rfl) (fun w'=>?_) ?_ ?_;rotate_left;(go_simp;with_reducible rfl);rotate_left;(simp only [Act.put,zz21,zz22,zz23,i64_w,i32_w];rfl)
         refine zz32 (v:=?_) (a':=?_) 4 (some 57) #[T,T,T,T,T,F,F,F,F,F,F,F,F,F] rfl rfl HT_.out (by kernel_rfl) (fun _ _ _ h=>h) (by rfl) (fun w'=>?_) ?_ ?_;rotate_left;(go_simp;with_reducible rfl);rotate_left;(simp only [Act.put,zz21,zz22,zz23,i64_w,i32_w];rfl)
         refine zz32 (v:=?_) (a':=?_) 6 (some 59) #[T,T,T,T,T,F,T,F,F,F,F,F,F,F] rfl rfl HT_.out (by kernel_rfl) (fun _ _ _ h=>h) (by rfl) (fun w'=>?_) ?_ ?_;rotate_left;(go_simp;with_reducible rfl);rotate_left;(simp only [Act.put,zz21,zz22,zz23,i64_w,i32_w];rfl)
         refine zz32 (v:=?_) (a':=?_) 7 (some 60) #[T,T,T,T,T,F,T,T,F,F,F,F,F,F] rfl rfl HT_.out (by kernel_rfl) (fun _ _ _ h=>h) (by rfl) (fun w'=>?_) ?_ ?_;rotate_left;(go_simp;with_reducible rfl);rotate_left;(simp only [Act.put,zz21,zz22,zz23,i64_w,i32_w];rfl)
         refine zz32 (v:=?_) (a':=?_) 9 (some 62) #[T,T,T,T,T,F,T,T,F,T,F,F,F,F] rfl rfl HT_.out (by kernel_rfl) (fun _ _ _ h=>h) (by rfl) (fun w'=>?_) ?_ ?_;rotate_left;(go_simp;with_reducible rfl);rotate_left;(simp only [Act.put,zz21,zz22,zz23,i64_w,i32_w];rfl)
         refine zz32 (v:=?_) (a':=?_) 10 (some 63) #[T,T,T,T,T,F,T,T,F,T,T,F,F,F] rfl rfl HT_.out (by kernel_rfl) (fun _ _ _ h=>h) (by rfl) (fun w'=>?_) ?_ ?_;rotate_left;(go_simp;with_reducible rfl);rotate_left;(simp only [Act.put,zz21,zz22,zz23,i64_w,i32_w];rfl)
         refine take_ (i:=5) (N:=some 58) (v:=?_) (a':=?_) #[T,T,T,T,T,T,T,T,F,T,T,F,F,F] rfl rfl (take_ofW HT_.out HW_.out (by kernel_rfl)) (fun _ _ _ h=>h) (Or.inl ⟨by rfl,?_⟩) hHeld ?_ ?_
         rotate_left
         ·intro w' s0
          go_simp
          with_reducible rfl
         rotate_left
         ·simp only [Act.put,zz21,zz22,zz23,i64_w,i32_w]
          rfl
         refine zz32 (v:=?_) (a':=?_) 8 (some 61) #[T,T,T,T,T,T,T,T,T,T,T,F,F,F] rfl rfl HT_.out (by kernel_rfl) (fun _ _ _ h=>h) (by rfl) (fun w'=>?_) ?_ ?_;rotate_left;(go_simp;with_reducible rfl);rotate_left;(simp only [Act.put,zz21,zz22,zz23,i64_w,i32_w];rfl)
         refine zz32 (v:=?_) (a':=?_) 11 (some 64) #[T,T,T,T,T,T,T,T,T,T,T,T,F,F] rfl rfl HT_.out (by kernel_rfl) (fun _ _ _ h=>h) (by rfl) (fun w'=>?_) ?_ ?_;rotate_left;(go_simp;with_reducible rfl);rotate_left;(simp only [Act.put,zz21,zz22,zz23,i64_w,i32_w];rfl)
         refine zz32 (v:=?_) (a':=?_) 12 (some 65) #[T,T,T,T,T,T,T,T,T,T,T,T,T,F] rfl rfl HT_.out (by kernel_rfl) (fun _ _ _ h=>h) (by rfl) (fun w'=>?_) ?_ ?_;rotate_left;(go_simp;with_reducible rfl);rotate_left;(simp only [Act.put,zz21,zz22,zz23,i64_w,i32_w];rfl)
         refine last_ (i:=13) (N:=none) #[T,T,T,T,T,T,T,T,T,T,T,T,T,T] rfl rfl (one_of HT_.out (by kernel_rfl)) (by decide) (fun K hK=>?_)
         refine skip_ (w1:=?_) (by rfl) rfl ?_ ?_
         rotate_left
         ·go_simp
          rfl
         refine hK.out _ _ ?_
         clear hK K
         refine done_ (done_of HT_.out (by kernel_rfl)) ?_
         try go_wp2
         go_ret
         exact ⟨_,by first | rfl | (simp [errW_none,errW_some] <;> rfl) | (simp only [← hji10,← hji12,← hji16,← hji18];first | rfl | (simp [errW_none,errW_some] <;> rfl)) | (simp [*,errW_none,errW_some] <;> rfl),by (with_reducible repeat (first | apply zz12 | apply zz13 | apply zz14));exact HQ44.out,by repeat first | exact HB.out | apply zz2 | apply zz0 | apply zz1 | refine zz3 ?_ GB13.out⟩
        ·rw [if_neg c26] at H
         exact absurd H (by simp)
       ·rw [if_neg c20] at H
        exact absurd H (by simp)
      ·rw [if_neg c17] at H
       exact absurd H (by simp)
     ·rw [if_neg c14] at H
      exact absurd H (by simp)
    ·rw [if_neg c11] at H
     exact absurd H (by simp)
   ·rw [if_neg c9] at H
    exact absurd H (by simp)
  ·rw [if_neg c8] at H
   exact absurd H (by simp)
 ·rw [if_neg c7] at H
  exact absurd H (by simp)

/-! ### impl_table_party: function 57 -/
mutual
def impl_table_party.l0:Nat→List Int→Int→Int→Int→List (S70)→Option (Int × (List (S70)))
 | 0,_,_,_,_,_=>none
 | k+1,x0,x10,x11,x299000,x299001=>if x11 < x10 then (impl_table_party.l1 k x0 x11 (wrap64 (x11+1)) x10 x11 x299000 x299001) else (some (x299000,x299001))
def impl_table_party.l1:Nat→List Int→Int→Int→Int→Int→Int→List (S70)→Option (Int × (List (S70)))
 | 0,_,_,_,_,_,_,_=>none
 | k+1,x0,x4,x5,x10,x11,x299000,x299001=>if x5 < (x0.length:Int) then ((impl_table_has.f x0 x4 x5).bind fun t299=>(if t299=true then (if x299001.length < 8796093022208 then (impl_table_party.l1 k x0 x4 (wrap64 (x5+1)) x10 x11 x299000 (x299001 ++ [(⟨x4,x5⟩:S70)])) else (none)) else (impl_table_party.l1 k x0 x4 (wrap64 (x5+1)) x10 x11 x299000 x299001))) else (impl_table_party.l0 k x0 x10 (wrap64 (x11+1)) x299000 x299001)
end
def impl_table_party.f (k:Nat) (l0:List Int):Option (Int × (List (S70))):=impl_table_party.l0 k l0 (l0.length:Int) 0 (l0.length:Int) ([]:List (S70))
theorem impl_table_party.mono_l:∀ k,(∀ y0 y1 y2 y3 y4,LeO (impl_table_party.l0 k y0 y1 y2 y3 y4) (impl_table_party.l0 (k+1) y0 y1 y2 y3 y4))∧(∀ y0 y1 y2 y3 y4 y5 y6,LeO (impl_table_party.l1 k y0 y1 y2 y3 y4 y5 y6) (impl_table_party.l1 (k+1) y0 y1 y2 y3 y4 y5 y6))
 | 0=>⟨fun _ _ _ _ _ r h=>by simp [impl_table_party.l0] at h,fun _ _ _ _ _ _ _ r h=>by simp [impl_table_party.l1] at h⟩
 | k+1=>by
  obtain ⟨ih0,ih1⟩:=impl_table_party.mono_l k
  refine ⟨?_,?_⟩
  ·intro y0 y1 y2 y3 y4
   unfold impl_table_party.l0
   repeat' first
   | (with_reducible exact ih0 _ _ _ _ _)
   | (with_reducible exact ih1 _ _ _ _ _ _ _)
   | (with_reducible exact LeO.refl _)
   | (with_reducible exact LeO.none _)
   | (with_reducible refine LeO.ite ?_ ?_)
   | (with_reducible refine LeO.bind ?_ (fun _=>?_))
   | exact ih0 _ _ _ _ _
   | exact ih1 _ _ _ _ _ _ _
   | exact LeO.none _
   | refine LeO.ite ?_ ?_
   | refine LeO.bind ?_ (fun _=>?_)
  ·intro y0 y1 y2 y3 y4 y5 y6
   unfold impl_table_party.l1
   repeat' first
   | (with_reducible exact ih0 _ _ _ _ _)
   | (with_reducible exact ih1 _ _ _ _ _ _ _)
   | (with_reducible exact LeO.refl _)
   | (with_reducible exact LeO.none _)
   | (with_reducible refine LeO.ite ?_ ?_)
   | (with_reducible refine LeO.bind ?_ (fun _=>?_))
   | exact ih0 _ _ _ _ _
   | exact ih1 _ _ _ _ _ _ _
   | exact LeO.none _
   | refine LeO.ite ?_ ?_
   | refine LeO.bind ?_ (fun _=>?_)
theorem impl_table_party.mono:∀ a0 k,LeO (impl_table_party.f k a0) (impl_table_party.f (k+1) a0):=by
 intro a0 k
 obtain ⟨ih0,ih1⟩:=impl_table_party.mono_l k
 unfold impl_table_party.f
 repeat' first
   | (with_reducible exact ih0 _ _ _ _ _)
   | (with_reducible exact ih1 _ _ _ _ _ _ _)
   | (with_reducible exact LeO.refl _)
   | (with_reducible exact LeO.none _)
   | (with_reducible refine LeO.ite ?_ ?_)
   | (with_reducible refine LeO.bind ?_ (fun _=>?_))
   | exact ih0 _ _ _ _ _
   | exact ih1 _ _ _ _ _ _ _
   | exact LeO.none _
   | refine LeO.ite ?_ ?_
   | refine LeO.bind ?_ (fun _=>?_)
set_option maxHeartbeats 8000000 in
set_option maxRecDepth 100000 in
theorem impl_table_party.calls (k:Nat) (A0:Option Addr) (c0:Nat) (l0:List Int) (r1:Int) (r2:List (S70)) (w:World) (hr0:Kd.C (Kd.int .u16) w A0 l0.length l0) (hc0:l0.length≤c0) (h:impl_table_party.f k l0=some (r1,r2)) :
  Calls Try.prog 57 #[.slice A0 l0.length c0] w fun e w'=>∃ v1_:Value,e=.returned (.agg #[.int .i64 r1,v1_])∧Kd.R k70 70 w' w.heap.size (fun _=>True) v1_ r2∧Below w.heap.size w w':=by
 have hu30:=Try.underlying30
 have hu70:=Try.underlying70
 have HR0:=zz31 hr0
 have HC0:=zz31 hc0
 clear hr0 hc0
 have HB:=zz31 (Below.refl w.heap.size w)
 have H:(impl_table_party.l0 k l0 (l0.length:Int) 0 (l0.length:Int) ([]:List (S70)))=some (r1,r2):=h
 clear h
 have H':=zz31 H
 clear H
 go_enter Try.func57,Try.ntmps57
 go_wp2_with (first | ((with_reducible refine gate_dst (N:=2) rfl ?_);refine box_event ?hg (N:=2) ?hd (cs:=#[.int .i64 0,.slice none 0 0]) (t:=30) ?hr ?_;(case hd=>rfl);(case hg=>rfl);(case hr=>first | (go_simp;done) | (go_simp;rfl));intro gb297 hg w2 hbox hb;have BK297:=zz31 (hbox);have GW297:=zz31 ((by rw [hg];exact (zz5 (by repeat first | exact HB.out | apply zz2 | apply zz0 | apply zz1)):w.heap.size≤gb297));replace HB:=zz31 (zz4 (by repeat first | exact HB.out | apply zz2 | apply zz0 | apply zz1) hb);have GE297:=GW297;clear hb hbox hg) | ((with_reducible refine gate_dst (N:=3) rfl ?_);refine box_event ?hg (N:=3) ?hd (cs:=#[.int .i64 0,.slice none 0 0]) (t:=30) ?hr ?_;(case hd=>rfl);(case hg=>rfl);(case hr=>first | (go_simp;done) | (go_simp;rfl));intro gb298 hg w3 hbox hb;have BK298:=zz31 (hbox);have GW298:=zz31 ((by rw [hg];exact (zz5 (by repeat first | exact HB.out | apply zz2 | apply zz0 | apply zz1 | refine zz3 ?_ GE297.out)):w.heap.size≤gb298));replace HB:=zz31 (zz4 (by repeat first | exact HB.out | apply zz2 | apply zz0 | apply zz1 | refine zz3 ?_ GE297.out) hb);have GE298:=GW298;have NB297_298:=zz31 ((by rw [hg];exact Nat.ne_of_lt (blk_lt (g:=gb297) (o:=.cells #[.int .i64 0,.slice none 0 0] 30 (0,0)) (by (with_reducible repeat (first | refine zz6 ?_ _ | refine zz7 ?_ | refine zz8 ?_ _));exact BK297.out)):gb297 ≠ gb298));have NB298_297:=zz31 ((by rw [hg];exact Nat.ne_of_gt (blk_lt (g:=gb297) (o:=.cells #[.int .i64 0,.slice none 0 0] 30 (0,0)) (by (with_reducible repeat (first | refine zz6 ?_ _ | refine zz7 ?_ | refine zz8 ?_ _));exact BK297.out)):gb298 ≠ gb297));replace BK297:=zz31 (zz11 (g:=gb297) (o:=.cells #[.int .i64 0,.slice none 0 0] 30 (0,0)) (by (with_reducible repeat (first | refine zz6 ?_ _ | refine zz7 ?_ | refine zz8 ?_ _));exact BK297.out) hb);clear hb hbox hg;have hnb4:=NB298_297.out;have hnc4:=NB297_298.out;have hcz5_0:w3.cell? ⟨gb298,0,none⟩=some (.int .i64 0):=(zz9 BK298.out 0).trans rfl;have hcz5_1:w3.cell? ⟨gb298,1,none⟩=some (.slice none 0 0):=(zz9 BK298.out 1).trans rfl;have hfz5_0:=zz10 BK298.out 0;have hfz5_1:=zz10 BK298.out 1))
 go_loopg [11] k (fun kq v11 w'=>∃ (x11_1:Int) (x299001_1:List (S70)) (u299001:Value),v11=.int .i64 x11_1∧Aside0 (impl_table_party.l0 kq l0 (l0.length:Int) x11_1 (l0.length:Int) x299001_1=some (r1,r2))∧Aside0 (kq≤k)∧Aside0 (Kd.R k70 70 w' w.heap.size (fun _=>True) u299001 x299001_1)∧Aside0 (w'.heap[gb297]?=some (.cells #[.int .i64 0,(.slice none 0 0)] 30 (0,0)))∧Aside0 (w'.heap[gb298]?=some (.cells #[.int .i64 (l0.length:Int),u299001] 30 (0,0)))∧Aside0 (Below w.heap.size w w'))
 case atStart=>exact ⟨(0),(([]:List (S70))),(.slice none 0 0),(by first | rfl | (simp;done) | (simp [*];done)),H',⟨Nat.le_refl _⟩,⟨by first | exact Kd.R_nil _ _ _ _ _ | exact Kd.N_nil _ _ _ _ _ | exact Kd.V_nil _ _ _ _ _ | exact Kd.Q_nil _ _ _ _ _ | exact Kd.S_nil _ _ _ _ _⟩,⟨by (with_reducible repeat (first | refine zz6 ?_ _ | refine zz7 ?_ | refine zz8 ?_ _));refine blk_far ?_ NB297_298.out _;(with_reducible repeat (first | refine zz6 ?_ _ | refine zz7 ?_ | refine zz8 ?_ _));refine blk_far ?_ NB297_298.out _;(with_reducible repeat (first | refine zz6 ?_ _ | refine zz7 ?_ | refine zz8 ?_ _));exact BK297.out⟩,⟨by (with_reducible repeat (first | refine zz6 ?_ _ | refine zz7 ?_ | refine zz8 ?_ _));refine blk_put (cs:=#[.int .i64 (l0.length:Int),.slice none 0 0]) ?_ 1 _ rfl;(with_reducible repeat (first | refine zz6 ?_ _ | refine zz7 ?_ | refine zz8 ?_ _));refine blk_put (cs:=#[.int .i64 0,.slice none 0 0]) ?_ 0 _ rfl;(with_reducible repeat (first | refine zz6 ?_ _ | refine zz7 ?_ | refine zz8 ?_ _));exact BK298.out⟩,⟨by repeat first | exact HB.out | apply zz2 | apply zz0 | apply zz1 | refine zz3 ?_ GE297.out | refine zz3 ?_ GE298.out⟩⟩
 case round =>
  clear H'
  try clear p2
  try clear c4
  try clear c5
  try clear hcz5_0
  try clear hcz5_1
  try clear hfz5_0
  try clear hfz5_1
  obtain ⟨x11_1,x299001_1,u299001,rfl,HA,HK1,HO_299001,BK297,BK298,HB⟩:=hrel
  cases gk with
  | zero=>exact absurd HA.out (by simp [impl_table_party.l0])
  | succ k1 =>
   have H:=HA.out
   clear HA
   simp only [impl_table_party.l0] at H
   by_cases c6:x11_1 < (l0.length:Int)
   ·rw [if_pos c6] at H
    have c6b0:decide (x11_1 < (l0.length:Int))=true:=decide_eq_true c6
    clear c6
    have H':=zz31 H
    clear H
    go_wp2
    go_loopg [5] k1 (fun kq v5 w'=>∃ (x5_2:Int) (x299001_2:List (S70)) (u299001:Value),v5=.int .i64 x5_2∧Aside0 (impl_table_party.l1 kq l0 x11_1 x5_2 (l0.length:Int) x11_1 (l0.length:Int) x299001_2=some (r1,r2))∧Aside0 (kq≤k1)∧Aside0 (Kd.R k70 70 w' w.heap.size (fun _=>True) u299001 x299001_2)∧Aside0 (w'.heap[gb297]?=some (.cells #[.int .i64 0,(.slice none 0 0)] 30 (0,0)))∧Aside0 (w'.heap[gb298]?=some (.cells #[.int .i64 (l0.length:Int),u299001] 30 (0,0)))∧Aside0 (Below w.heap.size w w'))
    case atStart=>exact ⟨(wrap64 (x11_1+1)),(x299001_1),(u299001),(by first | rfl | (simp;done) | (simp [*];done)),H',⟨Nat.le_refl _⟩,⟨by (with_reducible repeat (first | apply zz12 | apply zz13 | apply zz14));exact HO_299001.out⟩,⟨by (with_reducible repeat (first | refine zz6 ?_ _ | refine zz7 ?_ | refine zz8 ?_ _));exact BK297.out⟩,⟨by (with_reducible repeat (first | refine zz6 ?_ _ | refine zz7 ?_ | refine zz8 ?_ _));exact BK298.out⟩,⟨by repeat first | exact HB.out | apply zz2 | apply zz0 | apply zz1 | refine zz3 ?_ GE297.out | refine zz3 ?_ GE298.out⟩⟩
    case round =>
     clear H'
     try clear p2
     try clear c4
     try clear c5
     try clear c6
     try clear c6b0
     try clear p6
     try clear hcz5_0
     try clear hcz5_1
     try clear hfz5_0
     try clear hfz5_1
     try clear p2
     obtain ⟨x5_2,x299001_2,u299001,rfl,HA,HK2,HO_299001,BK297,BK298,HB⟩:=hrel
     cases gk with
     | zero=>exact absurd HA.out (by simp [impl_table_party.l1])
     | succ k2 =>
      have H:=HA.out
      clear HA
      simp only [impl_table_party.l1] at H
      by_cases c7:x5_2 < (l0.length:Int)
      ·rw [if_pos c7] at H
       have c7b0:decide (x5_2 < (l0.length:Int))=true:=decide_eq_true c7
       clear c7
       replace H:=zz30.mp H
       obtain ⟨t299,A80,H⟩:=H
       replace H:(if t299=true then (if x299001_2.length < 8796093022208 then (impl_table_party.l1 k2 l0 x11_1 (wrap64 (x5_2+1)) (l0.length:Int) x11_1 (l0.length:Int) (x299001_2 ++ [(⟨x11_1,x5_2⟩:S70)])) else (none)) else (impl_table_party.l1 k2 l0 x11_1 (wrap64 (x5_2+1)) (l0.length:Int) x11_1 (l0.length:Int) x299001_2))=some (r1,r2):=H
       have A8:=zz31 A80
       clear A80
       by_cases c9:t299=true
       ·subst c9
        have H1:(if x299001_2.length < 8796093022208 then (impl_table_party.l1 k2 l0 x11_1 (wrap64 (x5_2+1)) (l0.length:Int) x11_1 (l0.length:Int) (x299001_2 ++ [(⟨x11_1,x5_2⟩:S70)])) else (none))=some (r1,r2):=by rw [if_pos rfl] at H;exact H
        clear H
        have H:=H1
        clear H1
        by_cases c10:x299001_2.length < 8796093022208
        ·rw [if_pos c10] at H
         have LMc10:=zz31 c10
         clear c10
         obtain ⟨y300,hy300⟩:∃ y_:List (S70),y_=(x299001_2 ++ [(⟨x11_1,x5_2⟩:S70)]):=⟨_,rfl⟩
         replace H:(impl_table_party.l1 k2 l0 x11_1 (wrap64 (x5_2+1)) (l0.length:Int) x11_1 (l0.length:Int) y300)=some (r1,r2):=by first | (rw [hy300];with_reducible exact H) | (have H2_:=(Option.bind_some _ _).symm.trans H;rw [hy300];with_reducible exact H2_) | (have H2_:=(Option.bind_some _ _).symm.trans H;with_reducible exact H2_) | with_reducible exact H | (rw [hy300];exact H) | exact H
         have Ny300:=zz31 hy300
         clear hy300
         have H':=zz31 H
         clear H
         go_wp2_with (first | ((with_reducible refine gate_callee (f:=81) rfl ?_);refine goesL_ (some 25) rfl rfl Try.func81 (by kernel_rfl) rfl #[.slice A0 l0.length c0,.int .i64 x11_1,.int .i64 x5_2] rfl (by (try simp only [zz26,zz27,zz28]);first | done | rfl | (simp only [zz24,zz25];rfl)) ?_;(with_reducible refine (impl_table_has.calls _ _ l0 x11_1 x5_2 true _ ?side1 ?side2 A8.out).mono ?_);(case side1=>repeat (first | exact (Kd.C_below HR0.out HB.out) | (with_reducible refine zz18 ?_ _) | (with_reducible refine zz19 ?_ _) | (with_reducible refine zz20 ?_)));(case side2=>exact HC0.out);rintro e w' ⟨rfl,⟨nd,rfl⟩⟩;refine ⟨_,rfl,?_⟩;(try (rw [drewN_self wr];generalize hq_:World.drewN wr _=wr;have n0_:Aside0 (Kd.R k70 70 wr w.heap.size (fun _=>True) u299001 x299001_2):=⟨by rw [← hq_];exact (by (with_reducible repeat (first | apply zz12 | apply zz13 | apply zz14));exact HO_299001.out)⟩;have n1_:Aside0 (wr.heap[gb297]?=some (.cells #[.int .i64 0,.slice none 0 0] 30 (0,0))):=⟨by rw [← hq_];exact (by (with_reducible repeat (first | refine zz6 ?_ _ | refine zz7 ?_ | refine zz8 ?_ _));exact BK297.out)⟩;have n2_:Aside0 (wr.heap[gb298]?=some (.cells #[.int .i64 (l0.length:Int),u299001] 30 (0,0))):=⟨by rw [← hq_];exact (by (with_reducible repeat (first | refine zz6 ?_ _ | refine zz7 ?_ | refine zz8 ?_ _));exact BK298.out)⟩;have n3_:Aside0 (Below w.heap.size w wr):=⟨by rw [← hq_];exact (by repeat first | exact HB.out | apply zz2 | apply zz0 | apply zz1 | refine zz3 ?_ GE297.out | refine zz3 ?_ GE298.out)⟩;clear HO_299001 BK297 BK298 HB hq_;have HO_299001:=n0_;have BK297:=n1_;have BK298:=n2_;have HB:=n3_;clear n0_ n1_ n2_ n3_));have hnb11:=NB298_297.out;have hnc11:=NB297_298.out;have hcz12_0:wr.cell? ⟨gb298,0,none⟩=some (.int .i64 (l0.length:Int)):=(zz9 BK298.out 0).trans rfl;have hcz12_1:wr.cell? ⟨gb298,1,none⟩=some (u299001):=(zz9 BK298.out 1).trans rfl;have hfz12_0:=zz10 BK298.out 0;have hfz12_1:=zz10 BK298.out 1) | ((with_reducible refine gate_builtin (b:=.append) (xs:=#[.tmp 27,.tmp 31]) rfl ?_);at_builtin;refine Kd.R_append k70 (w0:=w) w.heap.size rfl (.tmp 27) (.tmp 31) 28 70 (.agg #[(.int .i64 0),(.int .i64 0)]) 16 rfl Try.underlying28 info70 rfl (by decide) (by omega) u299001 x299001_2 (⟨x11_1,x5_2⟩:S70) [.int .i64 x11_1,.int .i64 x5_2] (fun _=>True) (fun _=>False) rfl rfl ?aP (fun _ hk=>hk.elim) ?aF ?aO ?aB ?aS ?aL ?_;(case aP=>exact k70_mkM _ _ _ (⟨x11_1,x5_2⟩:S70));(case aB=>exact (by repeat first | exact HB.out | apply zz2 | apply zz0 | apply zz1 | refine zz3 ?_ GE297.out | refine zz3 ?_ GE298.out));(case aF=>exact (fun _ _=>trivial));(case aO=>exact (by (with_reducible repeat (first | apply zz12 | apply zz13 | apply zz14));exact HO_299001.out));(case aS=>exact (zz5 (by repeat first | exact HB.out | apply zz2 | apply zz0 | apply zz1 | refine zz3 ?_ GE297.out | refine zz3 ?_ GE298.out)));(case aL=>have:=LMc10.out;omega);intro v301 w13 ho hb hg hat;rw [← Ny300.out] at ho;replace BK297:=zz31 (blk_grown (g:=gb297) (o:=.cells #[.int .i64 0,.slice none 0 0] 30 (0,0)) (by (with_reducible repeat (first | refine zz6 ?_ _ | refine zz7 ?_ | refine zz8 ?_ _));exact BK297.out) hg (Kd.R_ne HO_299001.out BK297.out (by decide)));replace BK298:=zz31 (blk_grown (g:=gb298) (o:=.cells #[.int .i64 (l0.length:Int),u299001] 30 (0,0)) (by (with_reducible repeat (first | refine zz6 ?_ _ | refine zz7 ?_ | refine zz8 ?_ _));exact BK298.out) hg (Kd.R_ne HO_299001.out BK298.out (by decide)));replace HB:=zz31 (hb);have HO302:=zz31 (ho);clear HO_299001;clear ho hb hg hat;obtain ⟨Ao14,co14,eo14⟩:=Kd.R_slice HO302.out;subst eo14;have hcz15_0:w13.cell? ⟨gb298,0,none⟩=some (.int .i64 (l0.length:Int)):=(zz9 BK298.out 0).trans rfl;have hcz15_1:w13.cell? ⟨gb298,1,none⟩=some (u299001):=(zz9 BK298.out 1).trans rfl;have hfz15_0:=zz10 BK298.out 0;have hfz15_1:=zz10 BK298.out 1))
         go_roundg k2
         case measure=>have:=HK1.out;have:=HK2.out;omega
         case rel=>exact ⟨(wrap64 (x5_2+1)),(y300),(.slice Ao14 y300.length co14),(by first | rfl | (simp;done) | (simp [*];done)),H',⟨by have:=HK1.out;have:=HK2.out;omega⟩,⟨by (with_reducible repeat (first | apply zz12 | apply zz13 | apply zz14));exact Kd.R_mono (Kd.R_far (p:=⟨gb298,1,none⟩) (Kd.R_types HO302.out BK298.out (by decide)) (fun _ hk=>hk.2) (.slice Ao14 y300.length co14)) (fun _ hk=>trivial)⟩,⟨by (with_reducible repeat (first | refine zz6 ?_ _ | refine zz7 ?_ | refine zz8 ?_ _));refine blk_far ?_ NB297_298.out _;(with_reducible repeat (first | refine zz6 ?_ _ | refine zz7 ?_ | refine zz8 ?_ _));exact BK297.out⟩,⟨by (with_reducible repeat (first | refine zz6 ?_ _ | refine zz7 ?_ | refine zz8 ?_ _));refine blk_put (cs:=#[.int .i64 (l0.length:Int),u299001]) ?_ 1 _ rfl;(with_reducible repeat (first | refine zz6 ?_ _ | refine zz7 ?_ | refine zz8 ?_ _));exact BK298.out⟩,⟨by repeat first | exact HB.out | apply zz2 | apply zz0 | apply zz1 | refine zz3 ?_ GE297.out | refine zz3 ?_ GE298.out⟩⟩
        ·rw [if_neg c10] at H
         exact absurd H (by simp)
       ·replace c9:=Bool.eq_false_iff.mpr c9
        subst c9
        have H1:(impl_table_party.l1 k2 l0 x11_1 (wrap64 (x5_2+1)) (l0.length:Int) x11_1 (l0.length:Int) x299001_2)=some (r1,r2):=by rw [if_neg (show ¬ (false=true) by decide)] at H;exact H
        clear H
        have H:=H1
        clear H1
        have H':=zz31 H
        clear H
        go_wp2_with (first | ((with_reducible refine gate_callee (f:=81) rfl ?_);refine goesL_ (some 25) rfl rfl Try.func81 (by kernel_rfl) rfl #[.slice A0 l0.length c0,.int .i64 x11_1,.int .i64 x5_2] rfl (by (try simp only [zz26,zz27,zz28]);first | done | rfl | (simp only [zz24,zz25];rfl)) ?_;(with_reducible refine (impl_table_has.calls _ _ l0 x11_1 x5_2 false _ ?side1 ?side2 A8.out).mono ?_);(case side1=>repeat (first | exact (Kd.C_below HR0.out HB.out) | (with_reducible refine zz18 ?_ _) | (with_reducible refine zz19 ?_ _) | (with_reducible refine zz20 ?_)));(case side2=>exact HC0.out);rintro e w' ⟨rfl,⟨nd,rfl⟩⟩;refine ⟨_,rfl,?_⟩))
        go_roundg k2
        case measure=>have:=HK1.out;have:=HK2.out;omega
        case rel=>exact ⟨(wrap64 (x5_2+1)),(x299001_2),(u299001),(by first | rfl | (simp;done) | (simp [*];done)),H',⟨by have:=HK1.out;have:=HK2.out;omega⟩,⟨by (with_reducible repeat (first | apply zz12 | apply zz13 | apply zz14));exact HO_299001.out⟩,⟨by (with_reducible repeat (first | refine zz6 ?_ _ | refine zz7 ?_ | refine zz8 ?_ _));exact BK297.out⟩,⟨by (with_reducible repeat (first | refine zz6 ?_ _ | refine zz7 ?_ | refine zz8 ?_ _));exact BK298.out⟩,⟨by repeat first | exact HB.out | apply zz2 | apply zz0 | apply zz1 | refine zz3 ?_ GE297.out | refine zz3 ?_ GE298.out⟩⟩
      ·rw [if_neg c7] at H
       have c7b0:decide (x5_2 < (l0.length:Int))=false:=decide_eq_false c7
       clear c7
       have H':=zz31 H
       clear H
       go_wp2
       go_roundg k2
       case measure=>have:=HK1.out;have:=HK2.out;omega
       case rel=>exact ⟨(wrap64 (x11_1+1)),(x299001_2),(u299001),(by first | rfl | (simp;done) | (simp [*];done)),H',⟨by have:=HK1.out;have:=HK2.out;omega⟩,⟨by (with_reducible repeat (first | apply zz12 | apply zz13 | apply zz14));exact HO_299001.out⟩,⟨by (with_reducible repeat (first | refine zz6 ?_ _ | refine zz7 ?_ | refine zz8 ?_ _));exact BK297.out⟩,⟨by (with_reducible repeat (first | refine zz6 ?_ _ | refine zz7 ?_ | refine zz8 ?_ _));exact BK298.out⟩,⟨by repeat first | exact HB.out | apply zz2 | apply zz0 | apply zz1 | refine zz3 ?_ GE297.out | refine zz3 ?_ GE298.out⟩⟩
   ·rw [if_neg c6] at H
    have c6b0:decide (x11_1 < (l0.length:Int))=false:=decide_eq_false c6
    clear c6
    simp only [Option.some.injEq,Prod.mk.injEq] at H
    obtain ⟨rfl,rfl⟩:=H
    have hnb16:=NB298_297.out
    have hnc16:=NB297_298.out
    have hcz17_0:wr.cell? ⟨gb298,0,none⟩=some (.int .i64 (l0.length:Int)):=(zz9 BK298.out 0).trans rfl
    have hcz17_1:wr.cell? ⟨gb298,1,none⟩=some (u299001):=(zz9 BK298.out 1).trans rfl
    have hfz17_0:=zz10 BK298.out 0
    have hfz17_1:=zz10 BK298.out 1
    have hcz18_0:wr.cell? ⟨gb297,0,none⟩=some (.int .i64 0):=(zz9 BK297.out 0).trans rfl
    have hcz18_1:wr.cell? ⟨gb297,1,none⟩=some (.slice none 0 0):=(zz9 BK297.out 1).trans rfl
    have hfz18_0:=zz10 BK297.out 0
    have hfz18_1:=zz10 BK297.out 1
    obtain ⟨Ao19,co19,eo19⟩:=Kd.R_slice HO_299001.out
    subst eo19
    go_wp2
    refine bodyPost_ret (results_cell_row rfl _ _ gb297 30 #[.int .i64 (l0.length:Int),.slice Ao19 x299001_1.length co19] (0,0) _ rfl (by (with_reducible repeat (first | refine zz6 ?_ _ | refine zz7 ?_ | refine zz8 ?_ _));refine blk_put (cs:=#[.int .i64 (l0.length:Int),.slice none 0 0]) ?_ 1 _ rfl;(with_reducible repeat (first | refine zz6 ?_ _ | refine zz7 ?_ | refine zz8 ?_ _));refine blk_put (cs:=#[.int .i64 0,.slice none 0 0]) ?_ 0 _ rfl;(with_reducible repeat (first | refine zz6 ?_ _ | refine zz7 ?_ | refine zz8 ?_ _));exact BK297.out) Try.underlying30 rfl (by kernel_rfl)) rfl ?_
    exact ⟨_,by first | rfl | (simp [errW_none,errW_some] <;> rfl) | (simp [*,errW_none,errW_some] <;> rfl),by (with_reducible repeat (first | apply zz12 | apply zz13 | apply zz14));exact Kd.R_mono (Kd.R_far (p:=⟨gb297,1,none⟩) (Kd.R_far (p:=⟨gb297,0,none⟩) (Kd.R_types HO_299001.out BK297.out (by decide)) (fun _ hk=>hk.2) (.int .i64 (l0.length:Int))) (fun _ hk=>hk.2) (.slice Ao19 x299001_1.length co19)) (fun _ hk=>trivial),by repeat first | exact HB.out | apply zz2 | apply zz0 | apply zz1 | refine zz3 ?_ GE297.out | refine zz3 ?_ GE298.out⟩

-- NOT PRINTED: function 93 (impl_Party_93)

-- NOT PRINTED: function 106 (impl_Party_106)

-- NOT PRINTED: function 94 (impl_Party_94)

-- NOT PRINTED: function 101 (bits_Len32)

-- NOT PRINTED: function 102 (bits_Len64)

-- NOT PRINTED: function 84 (bits_Len)

-- NOT PRINTED: function 107 (slices_nextPowerOfTwo)

-- NOT PRINTED: function 108 (slices_xorshift_Next)

-- NOT PRINTED: function 95 (impl_Party_95)

-- NOT PRINTED: function 120 (impl_Party_120)

-- NOT PRINTED: function 110 (impl_Party_110)

-- NOT PRINTED: function 109 (impl_Party_109)

-- NOT PRINTED: function 96 (impl_Party_96)

-- NOT PRINTED: function 97 (impl_Party_97)

-- NOT PRINTED: function 98 (impl_Party_98)

-- NOT PRINTED: function 99 (impl_Party_99)

-- NOT PRINTED: function 100 (impl_Party_100)

-- NOT PRINTED: function 83 (impl_Party_83)

-- NOT PRINTED: function 58 (impl_Party_58)

-- NOT PRINTED: function 59 (impl_Party_59)

-- NOT PRINTED: function 60 (impl_AllExchanges_1)

namespace Up
theorem compare_eq (a0_0:Int) (l0_1:List S70) (a1_0:Int) (l1_1:List S70) (hb:l0_1.length≤9223372036854775807):impl_compareParties.f 4 a0_0 l0_1 a1_0 l1_1=some (cmpT l0_1 l1_1):=by
 unfold impl_compareParties.f
 rw [if_pos hb]
 exact cmpL_eq 0 _ _
set_option maxHeartbeats 4000000 in
set_option maxRecDepth 100000 in
theorem eqX_calls (a0_0:Int) (A0_1:Option Addr) (c0_1:Nat) (l0_1:List (S70)) (a1_0:Int) (A1_1:Option Addr) (c1_1:Nat) (l1_1:List (S70)) (w:World) (hr0_1:Kd.C k70 w A0_1 l0_1.length l0_1) (hc0_1:l0_1.length≤c0_1) (hr1_1:Kd.C k70 w A1_1 l1_1.length l1_1) (hc1_1:l1_1.length≤c1_1) :
  Calls Try.prog 60 #[.agg #[.int .i64 a0_0,.slice A0_1 l0_1.length c0_1],.agg #[.int .i64 a1_0,.slice A1_1 l1_1.length c1_1]] w fun e w'=>e=.returned (.bool (cmpT l0_1 l1_1==0))∧Below w.heap.size w w':=by
 have hu:=Try.underlying30
 have HH:=zz31 (compare_eq a0_0 l0_1 a1_0 l1_1 hr0_1.2.1)
 have HR0:=zz31 hr0_1
 have HR1:=zz31 hr1_1
 have HC0:=zz31 hc0_1
 have HC1:=zz31 hc1_1
 obtain ⟨c,hc⟩:∃ c,c=cmpT l0_1 l1_1:=⟨_,rfl⟩
 rw [← hc] at HH ⊢
 clear hr0_1 hr1_1 hc0_1 hc1_1 hc
 go_enter Try.func60,Try.ntmps60
 go_wp2_with (first | (go_at_call 35; refine (impl_compareParties.calls 4 a0_0 A0_1 c0_1 l0_1 a1_0 A1_1 c1_1 l1_1 c _ ?_ HC0.out ?_ HC1.out HH.out).mono ?_; (repeat (first | exact HR0.out | (with_reducible refine zz18 ?_ _) | (with_reducible refine zz19 ?_ _) | (with_reducible refine zz20 ?_))); (repeat (first | exact HR1.out | (with_reducible refine zz18 ?_ _) | (with_reducible refine zz19 ?_ _) | (with_reducible refine zz20 ?_))); rintro e w2 ⟨rfl, hb⟩; have HB2 := zz31 (zz4 (w := w) (by repeat first | exact Below.refl _ _ | apply zz0 | apply zz3 | apply zz2) hb); clear hb) | (fail "no arm"))
 go_ret
 exact ⟨rfl,by repeat first | exact HB2.out | apply zz0⟩
end Up
/-- What slices.CompactFunc keeps of a row, up to place m. -/
def kp {α:Type} (z:α) (eqv:α→α→Bool) (ds:List α):Nat→List α
 | 0=>ds.take 1
 | m+1=>if eqv (ds.getD (m+1) z) (ds.getD m z)=true then kp z eqv ds m else kp z eqv ds m ++ [ds.getD (m+1) z]
def cpN {α:Type} (z:α) (eqv:α→α→Bool) (ds:List α):List α:=kp z eqv ds (ds.length - 1)
section
variable {α β:Type} (z:α) (eqv:α→α→Bool) (ds:List α)
theorem kp_le:∀ m,(kp z eqv ds m).length≤m+1
 | 0=>by rw [kp,List.length_take];omega
 | m+1=>by
  have:=kp_le m
  rw [kp]
  split
  ·omega
  ·rw [List.length_append,List.length_singleton];omega
theorem kp_pos (h:0 < ds.length):∀ m,0 < (kp z eqv ds m).length
 | 0=>by rw [kp,List.length_take];omega
 | m+1=>by
  have:=kp_pos h m
  rw [kp]
  split
  ·omega
  ·rw [List.length_append,List.length_singleton];omega
theorem kp_none:∀ m,m < ds.length→(∀ j,j < m→eqv (ds.getD (j+1) z) (ds.getD j z)=false)→kp z eqv ds m=ds.take (m+1)
 | 0,_,_=>rfl
 | m+1,h,hn=>by
  rw [kp,hn m (by omega),if_neg (by decide),kp_none m (by omega) (fun j hj=>hn j (by omega)),List.take_add_one (l:=ds) (i:=m+1),List.getElem?_eq_getElem h,List.getD_eq_getElem?_getD,List.getElem?_eq_getElem h]
  rfl
theorem kp_mem:∀ m,m < ds.length→∀ x,x ∈ kp z eqv ds m→x ∈ ds
 | 0,_,x,hx=>List.mem_of_mem_take hx
 | m+1,h,x,hx=>by
  rw [kp] at hx
  split at hx
  ·exact kp_mem m (by omega) x hx
  ·rcases List.mem_append.1 hx with hx | hx
   ·exact kp_mem m (by omega) x hx
   ·rw [List.mem_singleton.1 hx,List.getD_eq_getElem?_getD,List.getElem?_eq_getElem h]
    exact List.getElem_mem _
theorem kp_map (f:α→β) (zb:β) (eqb:β→β→Bool) (he:∀ x y,eqv x y=eqb (f x) (f y)):∀ m,m < ds.length→(kp z eqv ds m).map f=kp zb eqb (ds.map f) m
 | 0,_=>by rw [kp,kp,List.map_take]
 | m+1,h=>by
  have h1:ds.getD (m+1) z=ds[m+1]:=by rw [List.getD_eq_getElem?_getD,List.getElem?_eq_getElem h];rfl
  have h2:ds.getD m z=ds[m]:=by rw [List.getD_eq_getElem?_getD,List.getElem?_eq_getElem (show m < ds.length by omega)];rfl
  have h3:(ds.map f).getD (m+1) zb=f ds[m+1]:=by rw [List.getD_eq_getElem?_getD,List.getElem?_eq_getElem (by rw [List.length_map];exact h),List.getElem_map];rfl
  have h4:(ds.map f).getD m zb=f ds[m]:=by rw [List.getD_eq_getElem?_getD,List.getElem?_eq_getElem (by rw [List.length_map];omega),List.getElem_map];rfl
  have ih:=kp_map f zb eqb he m (by omega)
  rw [kp,kp,h1,h2,h3,h4,← he,← ih]
  split
  ·rfl
  ·rw [List.map_append,List.map_singleton]
theorem kp_nodup (hd:ds.Nodup):∀ m,m < ds.length→(kp z eqv ds m).Nodup∧∀ x,x ∈ kp z eqv ds m→x ∈ ds.take (m+1)
 | 0,_=>⟨hd.sublist (List.take_sublist _ _),fun x hx=>hx⟩
 | m+1,h=>by
  obtain ⟨i1,i2⟩:=kp_nodup hd m (by omega)
  have h1:ds.getD (m+1) z=ds[m+1]:=by rw [List.getD_eq_getElem?_getD,List.getElem?_eq_getElem h];rfl
  have ht:ds.take (m+1+1)=ds.take (m+1) ++ [ds[m+1]]:=by rw [List.take_add_one (l:=ds) (i:=m+1),List.getElem?_eq_getElem h];rfl
  rw [kp,h1]
  split
  ·exact ⟨i1,fun x hx=>by rw [ht];exact List.mem_append_left _ (i2 x hx)⟩
  ·refine ⟨?_,fun x hx=>?_⟩
   ·rw [List.nodup_append]
    refine ⟨i1,by simp,fun a ha b hb=>?_⟩
    rw [List.mem_singleton.1 hb]
    intro e
    have hm:=i2 a ha
    obtain ⟨j,hj,hja⟩:=List.mem_iff_getElem.1 hm
    rw [List.length_take] at hj
    rw [List.getElem_take] at hja
    have:=(List.getElem_inj (h₀:=by omega) (h₁:=h) hd).1 (hja.trans e)
    omega
   ·rw [ht]
    rcases List.mem_append.1 hx with hx | hx
    ·exact List.mem_append_left _ (i2 x hx)
    ·exact List.mem_append_right _ hx
end
theorem upp_grow {w w':World} (h:Up.Below w.heap.size w w'):∃ q os',w'=Go.Sort.grow (w.drewN q) os':=by
 refine ⟨w'.drawn - w.drawn,w'.heap.extract w.heap.size w'.heap.size,?_⟩
 have h1:w'.heap=w.heap ++ w'.heap.extract w.heap.size w'.heap.size:=by
  apply Array.ext_getElem?
  intro i
  have hs:=h.1.size
  by_cases hi:i < w.heap.size
  ·rw [h.1.block i hi,Array.getElem?_append_left hi]
  ·rw [Array.getElem?_append_right (by omega),Array.getElem?_extract]
   by_cases hj:i < w'.heap.size
   ·rw [if_pos (by omega),show w.heap.size+(i - w.heap.size)=i by omega]
   ·rw [if_neg (by omega),Array.getElem?_eq_none (by omega)]
 cases w
 cases w'
 obtain ⟨⟨a1,a2,a3,_,_⟩,a4⟩:=h
 simp only at a1 a2 a3 a4 h1
 subst a1 a2 a3
 simp only [Go.Sort.grow,World.drewN]
 congr 1
 omega
theorem grown_refl (w:World) (g:Option Nat):w.grownBy w g:=⟨rfl,rfl,rfl,Nat.le_refl _,fun _ _ _=>rfl⟩
theorem grown_below {w w1 w2:World} {g:Option Nat} (h:w.grownBy w1 g) (k:Below w1.heap.size w1 w2):w.grownBy w2 g:=
 ⟨k.os.trans h.os,k.tape.trans h.tape,k.output.trans h.output,Nat.le_trans h.size k.size,fun q hq hn=>(k.block q (Nat.lt_of_lt_of_le hq h.size)).trans (h.block q hq hn)⟩
theorem grown_trans {w w1 w2:World} {g:Option Nat} (h:w.grownBy w1 g) (k:w1.grownBy w2 g):w.grownBy w2 g:=
 ⟨k.os.trans h.os,k.tape.trans h.tape,k.output.trans h.output,Nat.le_trans h.size k.size,fun q hq hn=>(k.block q (Nat.lt_of_lt_of_le hq h.size) hn).trans (h.block q hq hn)⟩
theorem grown_set (w:World) (g o:Nat) (u:Value):w.grownBy (w.setCell ⟨g,o,none⟩ u) (some g):=
 ⟨rfl,rfl,rfl,by simp [World.setCell],fun q hq hn=>Below.heap_setCell _ _ _ q (fun e=>hn (by rw [e]))⟩
theorem grown_drewN {w w1:World} {g:Option Nat} (h:w.grownBy w1 g) (n:Nat):w.grownBy (w1.drewN n) g:=⟨h.os,h.tape,h.output,h.size,h.block⟩
theorem grown_grow {w w1:World} {g:Option Nat} (h:w.grownBy w1 g) (n:Nat) (os:Array Obj):w.grownBy (Go.Sort.grow (w1.drewN n) os) g:=
 ⟨h.os,h.tape,h.output,Nat.le_trans h.size (by simp [Go.Sort.grow,World.drewN]),fun q hq hn=>by
  have:=Nat.lt_of_lt_of_le hq h.size
  rw [← h.block q hq hn]
  simp [Go.Sort.grow,World.drewN,Array.getElem?_append_left this]⟩
theorem below_grow (w:World) (n:Nat) (os:Array Obj):Below w.heap.size w (Go.Sort.grow (w.drewN n) os):=
 ⟨rfl,rfl,rfl,by simp [Go.Sort.grow,World.drewN],fun q hq=>by simp [Go.Sort.grow,World.drewN,Array.getElem?_append_left hq]⟩
theorem raw_cell {W:World} {base g n c:Nat} {ok:Nat→Prop} {rows:List (List Value)} (h:Kd.R (Kd.raw 2) 30 W base ok (.slice (some ⟨g,0,none⟩) n c) rows) (i:Nat) (hi:i < n) {a b:Value} (hr:rows.getD i []=[a,b]):
  (W.cell? ⟨g,i * 2,none⟩=some a∧W.cell? ⟨g,i * 2+1,none⟩=some b)∧W.frozen? ⟨g,i * 2,none⟩=false∧W.frozen? ⟨g,i * 2+1,none⟩=false:=by
 obtain ⟨ce,hcl,hM,hcc,hfr⟩:=Kd.R_elem h [] (i:Int) (by omega) (by omega)
 rw [Int.toNat_natCast,hr] at hM
 have hce:ce=[a,b]:=hM.1
 subst hce
 have h0:=hcc 0 _ rfl
 have h1:=hcc 1 _ rfl
 have h2:=hfr 0
 have h3:=hfr 1
 simp only [show (Kd.raw 2).sz=2 from rfl,Int.toNat_natCast,Nat.add_zero] at h0 h1 h2 h3
 exact ⟨⟨h0,h1⟩,h2,h3⟩
def rw2 (ei:Nat→Int) (ea:Nat→Option Addr) (el ec:Nat→Nat) (x:Nat):List Value:=[.int .i64 (ei x),.slice (ea x) (el x) (ec x)]
theorem R_over {e base g n cap:Nat} {ok:Nat→Prop}:∀ (m i:Nat) (W:World) (xs:List (List Value)) (us:List Value),Kd.R (Kd.raw 2) e W base ok (.slice (some ⟨g,0,none⟩) n cap) xs→i+m=n→us.length=2 * m→(∀ u ∈ us,u.oneCell'=true)→
  ∃ ys,Kd.R (Kd.raw 2) e (W.setCells g (i * 2) us) base ok (.slice (some ⟨g,0,none⟩) n cap) ys∧ys.take i=xs.take i∧ys.length=xs.length∧W.grownBy (W.setCells g (i * 2) us) (some g)
 | 0,i,W,xs,us,h,hi,hu,_=>by
  obtain rfl:=List.eq_nil_of_length_eq_zero (show us.length=0 by omega)
  exact ⟨xs,h,rfl,rfl,World.grownBy.refl _ _⟩
 | m+1,i,W,xs,us,h,hi,hu,ho=>by
  obtain ⟨u0,us1,rfl⟩:∃ u r,us=u :: r:=by cases us with | nil=>exact absurd hu (by simp) | cons u r=>exact ⟨u,r,rfl⟩
  obtain ⟨u1,us2,rfl⟩:∃ u r,us1=u :: r:=by cases us1 with | nil=>(simp at hu;omega) | cons u r=>exact ⟨u,r,rfl⟩
  obtain ⟨c,hcl,hM,hcc,hfr⟩:=Kd.R_elem h [] (i:Int) (by omega) (by omega)
  have hcl2:c.length=2:=hcl
  obtain ⟨h1,h2⟩:=Kd.R_seg h (i:Int) (by omega) (by omega) (okp:=fun _=>False) (seg:=[u0,u1]) (j:=0) hcl hcc (show 0+2≤2 from by decide) (x':=[u0,u1]) (by
   have:c.take 0 ++ [u0,u1] ++ c.drop (0+2)=[u0,u1]:=by rw [List.take_zero,List.nil_append,List.drop_of_length_le (by omega),List.append_nil]
   show Kd.M (Kd.raw 2) _ _ (fun _=>False) _ (c.take 0 ++ [u0,u1] ++ c.drop (0+2))
   rw [this]
   exact ⟨rfl,rfl,fun u hu=>ho u (by simp only [List.mem_cons,List.not_mem_nil,or_false] at hu ⊢;rcases hu with h | h;exact .inl h;exact .inr (.inl h))⟩) (fun _ hk=>hk.elim)
  rw [Int.toNat_natCast] at h1 h2
  obtain ⟨ys,h3,h4,h5,h6⟩:=R_over m (i+1) _ _ us2 h1 (by omega) (by simp at hu;omega) (fun u hu=>ho u (by simp [hu]))
  have e1:W.setCells g (i * 2) (u0 :: u1 :: us2)=(W.setCells g (i * 2+0) [u0,u1]).setCells g ((i+1) * 2) us2:=by
   rw [show (i+1) * 2=i * 2+0+1+1 by omega]
   rfl
  rw [e1]
  refine ⟨ys,h3,?_,by rw [h5,List.length_set],grown_trans h2 h6⟩
  have:=congrArg (List.take i) h4
  rw [List.take_take,List.take_take,Nat.min_eq_left (by omega)] at this
  rw [this,List.take_set_of_le (by omega)]
theorem zero_one (n:Nat):∀ u ∈ (Builtin.zeroCells #[.int .i64 0,.slice none 0 0] n).toList,u.oneCell'=true:=by
 intro u hu
 simp [Builtin.zeroCells] at hu
 obtain ⟨i,_,rfl⟩:=hu
 rcases Nat.mod_two_eq_zero_or_one i with h | h <;> rw [h] <;> rfl
theorem run_clearP (w:World) (ty:TypeId) (b o n c:Nat) (hn:0 < n)
  (hc:∀ j,j < 2 * n→(w.cell? ⟨b,o+j,none⟩).isSome=true) (hf:∀ j,j < 2 * n→w.frozen? ⟨b,o+j,none⟩=false) :
  (Builtin.clear_ #[46] ty #[.slice (some ⟨b,o,none⟩) n c]).run Try.prog w=.ok (.tuple #[]) (w.setCells b o (Builtin.zeroCells #[.int .i64 0,.slice none 0 0] n).toList):=by
 have hv:∀ w,(zeroValue 30).run Try.prog w=.ok (.agg #[.int .i64 0,.slice none 0 0]) w:=fun w=>by kernel_rfl
 have hzl:(Builtin.zeroCells #[.int .i64 0,.slice none 0 0] n).toList.length=2 * n:=by simp [Builtin.zeroCells];omega
 have hst:=run_storeCells_cells (P:=Try.prog) b o (Builtin.zeroCells #[.int .i64 0,.slice none 0 0] n).toList 0 w (by rw [hzl];simpa using hc) (by rw [hzl];simpa using hf) (zero_one n)
 simp only [Nat.add_zero] at hst
 obtain ⟨m,rfl⟩:∃ m,n=m+1:=⟨n - 1,by omega⟩
 simp [Builtin.clear_,run_underlying Try.underlying46,hv,Value.cells,hst]
set_option maxHeartbeats 4000000 in
set_option maxRecDepth 100000 in
theorem compact_calls (eqv:Nat→Nat→Bool) (ei:Nat→Int) (ea:Nat→Option Addr) (el ec:Nat→Nat) (A:Option Addr) (c:Nat) (ds:List Nat) (W:World) (base:Nat) (ok:Nat→Prop) (hR:Kd.R (Kd.raw 2) 30 W base ok (.slice A ds.length c) (ds.map (rw2 ei ea el ec)))
  (hcl:∀ w',W.grownBy w' (Value.slice A ds.length c).ownBlock→∀ x y,x ∈ ds→y ∈ ds→Calls Try.prog 60 #[.agg #[.int .i64 (ei x),.slice (ea x) (el x) (ec x)],.agg #[.int .i64 (ei y),.slice (ea y) (el y) (ec y)]] w' fun e w''=>e=.returned (.bool (eqv x y))∧Up.Below w'.heap.size w' w'') :
  Calls Try.prog 59 #[.slice A ds.length c,.func (.func 60) #[] #[]] W fun e w'=>∃ v,e=.returned v∧Kd.R (Kd.raw 2) 30 w' base ok v ((cpN 0 eqv ds).map (rw2 ei ea el ec))∧v.ownBlock=(Value.slice A ds.length c).ownBlock∧W.grownBy w' (Value.slice A ds.length c).ownBlock:=by
 have hu:=Try.underlying30
 have hs:=Try.underlying46
 have mixed:Try.prog.follows .mixedOrders=true:=by kernel_rfl
 have HR:=Aside0.mk hR
 have HCL:=Aside0.mk hcl
 have hbig:ds.length≤9223372036854775807:=by have:=(Kd.R_reads' hR).2.2.2.1;simpa using this
 clear hR hcl
 by_cases hn2:ds.length < 2
 ·have hn2z:(ds.length:Int) < 2:=by omega
  have HF:Aside0 (cpN 0 eqv ds=ds):=⟨by
   unfold cpN
   rw [show ds.length - 1=0 by omega,kp,List.take_of_length_le (by omega)]⟩
  go_enter Try.func59,Try.ntmps59
  go_wp2
  go_ret
  exact ⟨_,rfl,by rw [HF.out];exact HR.out,rfl,grown_refl _ _⟩
 have hn2z:¬ (ds.length:Int) < 2:=by omega
 obtain ⟨g,c',ea,gb,gl,cells,hg⟩:=Kd.R_form HR.out (by rw [List.length_map];omega)
 rw [List.length_map] at ea
 injection ea with ea1 ea2 ea3
 subst ea1 ea3
 clear ea2
 have hncap:ds.length≤c:=by have:=(Kd.R_reads' HR.out).2.1;simpa using this
 clear hg cells
 go_enter Try.func59,Try.ntmps59
 go_wp2
 go_loopg [5] ds.length (fun gg v5 wr=>∃ j:Nat,1≤j∧j≤ds.length∧ds.length - j≤gg∧v5=.int .i64 (j:Int)∧Aside0 (∀ i,i+1 < j→eqv (ds.getD (i+1) 0) (ds.getD i 0)=false)∧Aside0 (Below W.heap.size W wr))
 case atStart=>exact ⟨1,by omega,by omega,by omega,rfl,⟨fun i hi=>by omega⟩,⟨Below.refl _ _⟩⟩
 case round=>
  obtain ⟨j,hj1,hj,hgg,rfl,AN,HBr⟩:=hrel
  by_cases hlt:j < ds.length
  ·have hltz:(j:Int) < (ds.length:Int):=by omega
   obtain ⟨jp,rfl⟩:∃ jp,j=jp+1:=⟨j - 1,by omega⟩
   obtain ⟨x,hx⟩:∃ x,x=ds.getD (jp+1) 0:=⟨_,rfl⟩
   obtain ⟨y,hy⟩:∃ y,y=ds.getD jp 0:=⟨_,rfl⟩
   have hxm:x ∈ ds:=by rw [hx,List.getD_eq_getElem?_getD,List.getElem?_eq_getElem hlt];exact List.getElem_mem _
   have hym:y ∈ ds:=by rw [hy,List.getD_eq_getElem?_getD,List.getElem?_eq_getElem (show jp < ds.length by omega)];exact List.getElem_mem _
   have hxr:(ds.map (rw2 ei ea el ec)).getD (jp+1) []=[.int .i64 (ei x),.slice (ea x) (el x) (ec x)]:=by rw [hx,List.getD_eq_getElem?_getD,List.getElem?_map,List.getElem?_eq_getElem hlt,List.getD_eq_getElem?_getD,List.getElem?_eq_getElem hlt];rfl
   have hyr:(ds.map (rw2 ei ea el ec)).getD jp []=[.int .i64 (ei y),.slice (ea y) (el y) (ec y)]:=by rw [hy,List.getD_eq_getElem?_getD,List.getElem?_map,List.getElem?_eq_getElem (show jp < ds.length by omega),List.getD_eq_getElem?_getD,List.getElem?_eq_getElem (show jp < ds.length by omega)];rfl
   have HRr:=Aside0.mk (Kd.R_below HR.out HBr.out)
   have lx:∀ n' os',(Go.Sort.grow (wr.drewN n') os').cell? ⟨g,(jp+1) * 2,none⟩=some (.int .i64 (ei x))∧(Go.Sort.grow (wr.drewN n') os').cell? ⟨g,(jp+1) * 2+1,none⟩=some (.slice (ea x) (el x) (ec x)):=fun n' os'=>(raw_cell (Kd.R_below HRr.out (below_grow wr n' os')) (jp+1) hlt hxr).1
   have ly:∀ n' os',(Go.Sort.grow (wr.drewN n') os').cell? ⟨g,jp * 2,none⟩=some (.int .i64 (ei y))∧(Go.Sort.grow (wr.drewN n') os').cell? ⟨g,jp * 2+1,none⟩=some (.slice (ea y) (el y) (ec y)):=fun n' os'=>(raw_cell (Kd.R_below HRr.out (below_grow wr n' os')) jp (by omega) hyr).1
   have lx0:=fun n' os'=>(lx n' os').1
   have lx1:=fun n' os'=>(lx n' os').2
   have ly0:=fun n' os'=>(ly n' os').1
   have ly1:=fun n' os'=>(ly n' os').2
   have hcg:∀ n' os',Calls Try.prog 60 #[.agg #[.int .i64 (ei x),.slice (ea x) (el x) (ec x)],.agg #[.int .i64 (ei y),.slice (ea y) (el y) (ec y)]] (Go.Sort.grow (wr.drewN n') os') fun e w'=>e=.returned (.bool (eqv x y))∧∃ q os'',w'=Go.Sort.grow ((Go.Sort.grow (wr.drewN n') os').drewN q) os'':=fun n' os'=>
    (HCL.out _ (grown_grow (grown_below (grown_refl _ _) HBr.out) n' os') x y hxm hym).mono (fun e w' h=>⟨h.1,upp_grow h.2⟩)
   have hwp:IntKind.i64.wrap (jp:Int)=(jp:Int):=by rw [IntKind.wrap_i64];omega
   have jz:(jp:Int)+1 < (ds.length:Int):=by omega
   have jz1:(jp:Int) < (ds.length:Int):=by omega
   have p0:(0:Int)≤(jp:Int)+1:=by omega
   have e0':((jp:Int)+1).toNat=jp+1:=by omega
   have AX:=Aside0.mk hx
   have AY:=Aside0.mk hy
   clear lx ly hxr hyr hx hy hxm hym
   cases hq:eqv x y with
   | true =>
    rw [hq] at hcg
    go_wp2_with fail
    go_quiet_grown (first | (go_at_call 60; refine Calls.grown_of (hcg _ _)))
    go_wp2_with fail
    have hk0:Aside0 (kp 0 eqv ds (jp+1)=ds.take (jp+1)):=⟨by
     rw [kp,← AX.out,← AY.out,if_pos hq]
     exact kp_none 0 eqv ds jp (by omega) (fun i hi=>AN.out i (by omega))⟩
    have hl0:Aside0 ((kp 0 eqv ds (jp+1)).length=jp+1):=⟨by rw [hk0.out,List.length_take];omega⟩
    have HWq:=Aside0.mk (below_step HBr.out (below_grow wr nq osq))
    clear lx0 lx1 ly0 ly1 hcg
    generalize Go.Sort.grow (wr.drewN nq) osq=wq at HWq ⊢
    go_loopg [5,7] ds.length (fun gg2 v5 v7 wl=>∃ jq:Nat,jp+jq+1 < ds.length+0∧ds.length - jq≤gg2∧v5=.int .i64 ((kp 0 eqv ds (jp+jq+1)).length:Int)∧v7=.int .i64 ((jq:Int)+1)∧(kp 0 eqv ds (jp+jq+1)).length≤jp+jq+1∧Aside0 (Kd.R (Kd.raw 2) 30 wl base ok (.slice (some ⟨g,0,none⟩) ds.length c) ((kp 0 eqv ds (jp+jq+1) ++ ds.drop (kp 0 eqv ds (jp+jq+1)).length).map (rw2 ei ea el ec)))∧Aside0 (W.grownBy wl (some g)))
    case atStart=>
     exact ⟨0,by omega,by omega,by rw [Nat.add_zero,hl0.out];go_num,rfl,by rw [Nat.add_zero,hl0.out];omega,⟨by rw [Nat.add_zero,hl0.out,hk0.out,List.take_append_drop];exact Kd.R_below HR.out HWq.out⟩,⟨grown_below (grown_refl _ _) HWq.out⟩⟩
    case round=>
     obtain ⟨jq,hjq,hg2,rfl,rfl,hL,HRl,HWl⟩:=hrel
     have hlp:=kp_pos 0 eqv ds (by omega) (jp+jq+1)
     obtain ⟨L,hLe⟩:∃ L,L=(kp 0 eqv ds (jp+jq+1)).length:=⟨_,rfl⟩
     rw [← hLe] at hL hlp
     have HLE:=Aside0.mk hLe
     rw [← hLe]
     have hrlen:(kp 0 eqv ds (jp+jq+1) ++ ds.drop L).length=ds.length:=by rw [List.length_append,List.length_drop,← hLe];omega
     have HRLE:=Aside0.mk hrlen
     have hrat:∀ i,L≤i→i < ds.length→(kp 0 eqv ds (jp+jq+1) ++ ds.drop L)[i]?=ds[i]?:=fun i h1 h2=>by
      rw [List.getElem?_append_right (by omega),List.getElem?_drop,← hLe,show L+(i - L)=i by omega]
     by_cases hlt2:jp+jq+2 < ds.length
     ·have hltz2:(jq:Int)+1 < ((ds.length - (jp+1):Nat):Int):=by omega
      obtain ⟨x2,hx2⟩:∃ x2,x2=ds.getD (jp+jq+2) 0:=⟨_,rfl⟩
      obtain ⟨y2,hy2⟩:∃ y2,y2=ds.getD (jp+jq+1) 0:=⟨_,rfl⟩
      have hx3:ds[jp+jq+2]?=some x2:=by rw [hx2,List.getD_eq_getElem?_getD,List.getElem?_eq_getElem hlt2];rfl
      have hy3:ds[jp+jq+1]?=some y2:=by rw [hy2,List.getD_eq_getElem?_getD,List.getElem?_eq_getElem (show jp+jq+1 < ds.length by omega)];rfl
      have hxm:x2 ∈ ds:=List.mem_of_getElem? hx3
      have hym:y2 ∈ ds:=List.mem_of_getElem? hy3
      have hxr:((kp 0 eqv ds (jp+jq+1) ++ ds.drop L).map (rw2 ei ea el ec)).getD (jp+jq+2) []=[.int .i64 (ei x2),.slice (ea x2) (el x2) (ec x2)]:=by rw [List.getD_eq_getElem?_getD,List.getElem?_map,hrat _ (by omega) hlt2,hx3];rfl
      have hyr:((kp 0 eqv ds (jp+jq+1) ++ ds.drop L).map (rw2 ei ea el ec)).getD (jp+jq+1) []=[.int .i64 (ei y2),.slice (ea y2) (el y2) (ec y2)]:=by rw [List.getD_eq_getElem?_getD,List.getElem?_map,hrat _ (by omega) (by omega),hy3];rfl
      rw [← hLe] at HRl
      have lx:∀ n' os',(Go.Sort.grow (wr.drewN n') os').cell? ⟨g,(jp+1) * 2+(jq+1) * 2,none⟩=some (.int .i64 (ei x2))∧(Go.Sort.grow (wr.drewN n') os').cell? ⟨g,(jp+1) * 2+(jq+1) * 2+1,none⟩=some (.slice (ea x2) (el x2) (ec x2)):=fun n' os'=>by
       rw [show (jp+1) * 2+(jq+1) * 2=(jp+jq+2) * 2 by omega]
       exact (raw_cell (Kd.R_below HRl.out (below_grow wr n' os')) (jp+jq+2) hlt2 hxr).1
      have ly:∀ n' os',(Go.Sort.grow (wr.drewN n') os').cell? ⟨g,(jp+1) * 2+jq * 2,none⟩=some (.int .i64 (ei y2))∧(Go.Sort.grow (wr.drewN n') os').cell? ⟨g,(jp+1) * 2+jq * 2+1,none⟩=some (.slice (ea y2) (el y2) (ec y2)):=fun n' os'=>by
       rw [show (jp+1) * 2+jq * 2=(jp+jq+1) * 2 by omega]
       exact (raw_cell (Kd.R_below HRl.out (below_grow wr n' os')) (jp+jq+1) (by omega) hyr).1
      have lx0:=fun n' os'=>(lx n' os').1
      have lx1:=fun n' os'=>(lx n' os').2
      have ly0:=fun n' os'=>(ly n' os').1
      have ly1:=fun n' os'=>(ly n' os').2
      have hcg:∀ n' os',Calls Try.prog 60 #[.agg #[.int .i64 (ei x2),.slice (ea x2) (el x2) (ec x2)],.agg #[.int .i64 (ei y2),.slice (ea y2) (el y2) (ec y2)]] (Go.Sort.grow (wr.drewN n') os') fun e w'=>e=.returned (.bool (eqv x2 y2))∧∃ q os'',w'=Go.Sort.grow ((Go.Sort.grow (wr.drewN n') os').drewN q) os'':=fun n' os'=>
       (HCL.out _ (grown_grow HWl.out n' os') x2 y2 hxm hym).mono (fun e w' h=>⟨h.1,upp_grow h.2⟩)
      have hwp2:IntKind.i64.wrap (jq:Int)=(jq:Int):=by rw [IntKind.wrap_i64];omega
      have jy:(jq:Int) < ((ds.length - (jp+1):Nat):Int):=by omega
      have q0:(0:Int)≤(jq:Int)+1:=by omega
      have f0':((jq:Int)+1).toNat=jq+1:=by omega
      have AX2:=Aside0.mk hx2
      have AY2:=Aside0.mk hy2
      clear lx ly hyr hx2 hy2 hxm hym hrat hrlen hy3 hx3 hLe
      have AXR:=Aside0.mk hxr
      clear hxr
      cases hq2:eqv x2 y2 with
      | true =>
       rw [hq2] at hcg
       go_wp2_with fail
       go_quiet_grown (first | (go_at_call 60; refine Calls.grown_of (hcg _ _)))
       go_wp2
       go_roundg (ds.length - (jq+1))
       case measure=>omega
       case rel=>
        have hk1:kp 0 eqv ds (jp+(jq+1)+1)=kp 0 eqv ds (jp+jq+1):=by rw [show jp+(jq+1)+1=(jp+jq+1)+1 by omega,kp,← AX2.out,← AY2.out,if_pos hq2]
        refine ⟨jq+1,by omega,by omega,by rw [hk1,← HLE.out],by go_num,by rw [hk1,← HLE.out];omega,⟨by rw [hk1,← HLE.out];exact Kd.R_below HRl.out (below_grow _ _ _)⟩,⟨grown_grow HWl.out _ _⟩⟩
      | false =>
       rw [hq2] at hcg
       go_wp2_with fail
       go_quiet_grown (first | (go_at_call 60; refine Calls.grown_of (hcg _ _)))
       have HWq2:=Aside0.mk (grown_grow HWl.out nq osq)
       have HRq2:=Aside0.mk (Kd.R_below HRl.out (below_grow wr nq osq))
       clear lx0 lx1 ly0 ly1 hcg
       generalize Go.Sort.grow (wr.drewN nq) osq=wq2 at HWq2 HRq2 ⊢
       have lLz:(L:Int) < (ds.length:Int):=by omega
       have lL0:(0:Int)≤(L:Int):=by omega
       obtain ⟨⟨lx0,lx1⟩,-,-⟩:=raw_cell HRq2.out (jp+jq+2) hlt2 AXR.out
       obtain ⟨zz,hzz⟩:∃ zz,zz=ds.getD L 0:=⟨_,rfl⟩
       have hzr:((kp 0 eqv ds (jp+jq+1) ++ ds.drop L).map (rw2 ei ea el ec)).getD L []=[.int .i64 (ei zz),.slice (ea zz) (el zz) (ec zz)]:=by
        have hz3:ds[L]?=some zz:=by rw [hzz,List.getD_eq_getElem?_getD,List.getElem?_eq_getElem (show L < ds.length by omega)];rfl
        rw [List.getD_eq_getElem?_getD,List.getElem?_map,List.getElem?_append_right (by rw [← HLE.out];exact Nat.le_refl _),List.getElem?_drop,← HLE.out,Nat.sub_self,Nat.add_zero,hz3];rfl
       obtain ⟨⟨lz0,lz1⟩,lf0,lf1⟩:=raw_cell HRq2.out L (by omega) hzr
       rw [show (jp+jq+2) * 2=(jp+1) * 2+(jq+1) * 2 by omega] at lx0 lx1
       clear hzr hzz
       go_wp2
       go_roundg (ds.length - (jq+1))
       case measure=>omega
       case rel=>
        have hk1:kp 0 eqv ds (jp+(jq+1)+1)=kp 0 eqv ds (jp+jq+1) ++ [x2]:=by rw [show jp+(jq+1)+1=(jp+jq+1)+1 by omega,kp,← AX2.out,← AY2.out,if_neg (by rw [hq2];decide)]
        have hk2:(kp 0 eqv ds (jp+(jq+1)+1)).length=L+1:=by rw [hk1,List.length_append,List.length_singleton,← HLE.out]
        have hrow:((kp 0 eqv ds (jp+jq+1) ++ ds.drop L).map (rw2 ei ea el ec)).set L (rw2 ei ea el ec x2)=(kp 0 eqv ds (jp+(jq+1)+1) ++ ds.drop (L+1)).map (rw2 ei ea el ec):=by
         rw [← List.map_set,hk1,List.set_append_right _ _ (Nat.le_of_eq HLE.out.symm),← HLE.out,Nat.sub_self,List.append_assoc]
         congr 2
         rw [List.drop_eq_getElem_cons (show L < ds.length by omega)]
         rfl
        obtain ⟨ce,hcl,hM,hcc,hfr⟩:=Kd.R_elem HRq2.out [] (L:Int) (by omega) (by omega)
        have hcl2:ce.length=2:=hcl
        obtain ⟨h1,h2⟩:=Kd.R_seg HRq2.out (L:Int) (by omega) (by omega) (okp:=fun _=>False) (seg:=rw2 ei ea el ec x2) (j:=0) hcl hcc (show 0+2≤2 from by decide) (x':=rw2 ei ea el ec x2) (by
         have:ce.take 0 ++ rw2 ei ea el ec x2 ++ ce.drop (0+2)=rw2 ei ea el ec x2:=by rw [List.take_zero,List.nil_append,List.drop_of_length_le (by omega),List.append_nil]
         show Kd.M (Kd.raw 2) _ _ (fun _=>False) _ (ce.take 0 ++ rw2 ei ea el ec x2 ++ ce.drop (0+2))
         rw [this]
         exact ⟨rfl,rfl,fun u hu=>by simp only [rw2,List.mem_cons,List.not_mem_nil,or_false] at hu;rcases hu with rfl | rfl <;> rfl⟩) (fun _ hk=>hk.elim)
        rw [Int.toNat_natCast] at h1 h2
        rw [hrow] at h1
        exact ⟨jq+1,by omega,by omega,by rw [hk2];go_num,by go_num,by rw [hk2];omega,⟨by rw [hk2];exact h1⟩,⟨grown_trans HWq2.out h2⟩⟩
     ·have hltz2:¬ (jq:Int)+1 < ((ds.length - (jp+1):Nat):Int):=by omega
      rw [← hLe] at HRl
      obtain ⟨ys,hy1,hy2,hy3,hy4⟩:=R_over (ds.length - L) L wr _ (Builtin.zeroCells #[.int .i64 0,.slice none 0 0] (ds.length - L)).toList HRl.out (by omega) (by simp [Builtin.zeroCells];omega) (zero_one _)
      have HW9:=Aside0.mk (grown_trans HWl.out hy4)
      have h1:=Kd.R_take hy1 (m:=L) (by rw [hy3,List.length_map,hrlen];omega)
      have HF:Aside0 (cpN 0 eqv ds=kp 0 eqv ds (jp+jq+1)):=⟨by unfold cpN;rw [show ds.length - 1=jp+jq+1 by omega]⟩
      have hys:ys.take L=(kp 0 eqv ds (jp+jq+1)).map (rw2 ei ea el ec):=by
       rw [hy2,List.map_append,List.take_append_of_le_length (by rw [List.length_map,← hLe];exact Nat.le_refl _),List.take_of_length_le (by rw [List.length_map,← hLe];exact Nat.le_refl _)]
      rw [hys] at h1
      have HR9:=Aside0.mk h1
      have hcl:∀ ty,(Builtin.clear_ #[46] ty #[.slice (some ⟨g,L * 2,none⟩) (ds.length - L) (c - L)]).run Try.prog wr=.ok (.tuple #[]) (wr.setCells g (L * 2) (Builtin.zeroCells #[.int .i64 0,.slice none 0 0] (ds.length - L)).toList):=fun ty=>
       run_clearP wr ty g (L * 2) (ds.length - L) (c - L) (by omega) (fun q hq=>by
        obtain ⟨ce,hcl,hM,hcc,hfr⟩:=Kd.R_elem HRl.out [] ((L+q / 2:Nat):Int) (by omega) (by omega)
        have hcl2:ce.length=2:=hcl
        have h3:=hcc (q % 2) _ (List.getElem?_eq_getElem (show q % 2 < ce.length by omega))
        rw [Int.toNat_natCast] at h3
        have h4:(L+q / 2) * 2+q % 2=L * 2+q:=by omega
        have h5:wr.cell? ⟨g,(L+q / 2) * 2+q % 2,none⟩=some (ce[q % 2]'(by omega)):=h3
        rw [h4] at h5
        rw [h5]
        rfl) (fun q hq=>by
        obtain ⟨ce,hcl,hM,hcc,hfr⟩:=Kd.R_elem HRl.out [] ((L+q / 2:Nat):Int) (by omega) (by omega)
        have h3:=hfr (q % 2)
        rw [Int.toNat_natCast] at h3
        have h4:(L+q / 2) * 2+q % 2=L * 2+q:=by omega
        have h5:wr.frozen? ⟨g,(L+q / 2) * 2+q % 2,none⟩=false:=h3
        rw [h4] at h5
        exact h5)
      have lLz:(L:Int)≤(ds.length:Int):=by omega
      have lL0:(0:Int)≤(L:Int):=by omega
      have lLc:(L:Int)≤(c:Int):=by omega
      clear hy1 hy2 hy3 hy4 h1 hys hrat hrlen hLe
      go_wp2
      go_ret
      exact ⟨_,rfl,by rw [HF.out];exact HR9.out,rfl,HW9.out⟩
   | false =>
    rw [hq] at hcg
    go_wp2_with fail
    go_quiet_grown (first | (go_at_call 60; refine Calls.grown_of (hcg _ _)))
    go_wp2
    go_roundg (ds.length - (jp+2))
    case measure=>omega
    case rel=>
     exact ⟨jp+2,by omega,by omega,by omega,by go_num,⟨fun i hi=>by
      by_cases e:i=jp
      ·subst e
       rw [← AX.out,← AY.out];exact hq
      ·exact AN.out i (by omega)⟩,⟨below_step HBr.out (below_grow _ _ _)⟩⟩
  ·have hltz:¬ (j:Int) < (ds.length:Int):=by omega
   have HF:Aside0 (cpN 0 eqv ds=ds):=⟨by
    unfold cpN
    rw [kp_none 0 eqv ds (ds.length - 1) (by omega) (fun i hi=>AN.out i (by omega)),List.take_of_length_le (by omega)]⟩
   go_wp2
   go_ret
   exact ⟨_,rfl,by rw [HF.out];exact Kd.R_below HR.out HBr.out,rfl,grown_below (grown_refl _ _) HBr.out⟩
def srtLaysRen : Go.Shelf.Ren := ⟨fun | 6 => 58 | 15 => 84 | 14 => 83 | 28 => 101 | 29 => 102 | 20 => 93 | 21 => 94 | 22 => 95 | 23 => 96 | 24 => 97 | 25 => 98 | 26 => 99 | 27 => 100 | 46 => 106 | 47 => 107 | 48 => 108 | 49 => 109 | 50 => 110 | 57 => 120 | n => n, fun | 22 => 46 | 24 => 30 | 25 => 56 | 3 => 3 | 39 => 105 | 0 => 0 | 53 => 116 | 55 => 118 | 4 => 4 | 46 => 110 | 45 => 109 | 50 => 34 | 5 => 5 | 9 => 9 | 66 => 121 | 70 => 125 | 76 => 131 | 77 => 132 | n => n, fun | n => n⟩
theorem srtLays : Go.Proofs.SlLaysF0.n6 Try.prog srtLaysRen := {
  mixed := by kernel_rfl
  f6 := ⟨Try.f58.name, by decide, Try.func58.trans (congrArg some (by kernel_rfl))⟩
  f14 := ⟨Try.f83.name, by decide, Try.func83.trans (congrArg some (by kernel_rfl))⟩
  f15 := Try.func84.trans (congrArg some (by kernel_rfl))
  f20 := ⟨Try.f93.name, by decide, Try.func93.trans (congrArg some (by kernel_rfl))⟩
  f21 := ⟨Try.f94.name, by decide, Try.func94.trans (congrArg some (by kernel_rfl))⟩
  f22 := ⟨Try.f95.name, by decide, Try.func95.trans (congrArg some (by kernel_rfl))⟩
  f23 := ⟨Try.f96.name, by decide, Try.func96.trans (congrArg some (by kernel_rfl))⟩
  f24 := ⟨Try.f97.name, by decide, Try.func97.trans (congrArg some (by kernel_rfl))⟩
  f25 := ⟨Try.f98.name, by decide, Try.func98.trans (congrArg some (by kernel_rfl))⟩
  f26 := ⟨Try.f99.name, by decide, Try.func99.trans (congrArg some (by kernel_rfl))⟩
  f27 := ⟨Try.f100.name, by decide, Try.func100.trans (congrArg some (by kernel_rfl))⟩
  f28 := Try.func101.trans (congrArg some (by kernel_rfl))
  f29 := Try.func102.trans (congrArg some (by kernel_rfl))
  f46 := ⟨Try.f106.name, by decide, Try.func106.trans (congrArg some (by kernel_rfl))⟩
  f47 := Try.func107.trans (congrArg some (by kernel_rfl))
  f48 := Try.func108.trans (congrArg some (by kernel_rfl))
  f49 := ⟨Try.f109.name, by decide, Try.func109.trans (congrArg some (by kernel_rfl))⟩
  f50 := ⟨Try.f110.name, by decide, Try.func110.trans (congrArg some (by kernel_rfl))⟩
  f57 := ⟨Try.f120.name, by decide, Try.func120.trans (congrArg some (by kernel_rfl))⟩
  t0 := Try.underlying0
  a0 := Try.isAgg0
  z0 := Try.sizeOf0
  v0 := Try.zeroValue0
  t3 := Try.underlying3
  a3 := Try.isAgg3
  z3 := Try.sizeOf3
  v3 := Try.zeroValue3
  t4 := Try.underlying4
  a4 := Try.isAgg4
  z4 := Try.sizeOf4
  v4 := Try.zeroValue4
  t5 := Try.underlying5
  a5 := Try.isAgg5
  z5 := Try.sizeOf5
  v5 := Try.zeroValue5
  t9 := Try.underlying9
  a9 := Try.isAgg9
  z9 := Try.sizeOf9
  v9 := Try.zeroValue9
  t22 := Try.underlying46
  a22 := Try.isAgg46
  z22 := Try.sizeOf46
  v22 := Try.zeroValue46
  t25 := Try.underlying56
  a25 := Try.isAgg56
  z25 := Try.sizeOf56
  v25 := Try.zeroValue56
  t39 := Try.underlying105
  a39 := Try.isAgg105
  z39 := Try.sizeOf105
  v39 := Try.zeroValue105
  t45 := Try.underlying109
  a45 := Try.isAgg109
  z45 := Try.sizeOf109
  v45 := Try.zeroValue109
  t46 := Try.underlying110
  a46 := Try.isAgg110
  z46 := Try.sizeOf110
  v46 := Try.zeroValue110
  t50 := Try.underlying34
  a50 := Try.isAgg34
  z50 := Try.sizeOf34
  v50 := Try.zeroValue34
  t53 := Try.underlying116
  a53 := Try.isAgg116
  z53 := Try.sizeOf116
  v53 := Try.zeroValue116
  t55 := Try.underlying118
  a55 := Try.isAgg118
  z55 := Try.sizeOf118
  v55 := Try.zeroValue118
  t66 := Try.underlying121
  a66 := Try.isAgg121
  z66 := Try.sizeOf121
  v66 := Try.zeroValue121
  t70 := Try.underlying125
  a70 := Try.isAgg125
  z70 := Try.sizeOf125
  v70 := Try.zeroValue125
  t76 := Try.underlying131
  a76 := Try.isAgg131
  z76 := Try.sizeOf131
  v76 := Try.zeroValue131
  t77 := Try.underlying132
  a77 := Try.isAgg132
  z77 := Try.sizeOf132
  v77 := Try.zeroValue132 }
theorem c2_zero (a b c d:Int):cmp2 a b c d=0↔a=c∧b=d:=by
 unfold cmp2
 by_cases h1:a < c
 ·rw [if_pos h1];omega
 ·rw [if_neg h1]
  by_cases h2:c < a
  ·rw [if_pos h2];omega
  ·rw [if_neg h2]
   by_cases h3:b < d
   ·rw [if_pos h3];omega
   ·rw [if_neg h3]
    by_cases h4:d < b
    ·rw [if_pos h4];omega
    ·rw [if_neg h4];omega
theorem c2_neg (a b c d:Int):cmp2 a b c d < 0↔a < c∨(a=c∧b < d):=by
 unfold cmp2
 by_cases h1:a < c
 ·rw [if_pos h1];omega
 ·rw [if_neg h1]
  by_cases h2:c < a
  ·rw [if_pos h2];omega
  ·rw [if_neg h2]
   by_cases h3:b < d
   ·rw [if_pos h3];omega
   ·rw [if_neg h3]
    by_cases h4:d < b
    ·rw [if_pos h4];omega
    ·rw [if_neg h4];omega
theorem cT_cons (x y:S70) (a b:List S70):cmpT (x :: a) (y :: b) < 0↔cmp2 x.f0 x.f1 y.f0 y.f1 < 0∨(cmp2 x.f0 x.f1 y.f0 y.f1=0∧cmpT a b < 0):=by
 rw [cmpT]
 by_cases h:cmp2 x.f0 x.f1 y.f0 y.f1=0
 ·rw [if_pos h];omega
 ·rw [if_neg h];omega
theorem cT_irrefl:∀ a:List S70,¬ cmpT a a < 0
 | []=>by simp [cmpT]
 | x :: a=>by
  rw [cT_cons,c2_neg,c2_zero]
  have:=cT_irrefl a
  omega
theorem cT_trans:∀ a b c:List S70,cmpT a b < 0→cmpT b c < 0→cmpT a c < 0
 | [],[],_,h,_=>by simp [cmpT] at h
 | [],_ :: _,[],_,h=>by simp [cmpT] at h
 | [],_ :: _,_ :: _,_,_=>by simp [cmpT]
 | _ :: _,[],_,h,_=>by simp [cmpT] at h
 | _ :: _,_ :: _,[],_,h=>by simp [cmpT] at h
 | x :: a,y :: b,z :: c,h1,h2=>by
  rw [cT_cons,c2_neg,c2_zero] at h1 h2 ⊢
  have:=cT_trans a b c
  omega
theorem cT_tri:∀ a b:List S70,cmpT a b < 0∨a=b∨cmpT b a < 0
 | [],[]=>.inr (.inl rfl)
 | [],_ :: _=>.inl (by simp [cmpT])
 | _ :: _,[]=>.inr (.inr (by simp [cmpT]))
 | ⟨x0,x1⟩ :: a,⟨y0,y1⟩ :: b=>by
  rw [cT_cons,cT_cons,c2_neg,c2_zero,c2_neg,c2_zero]
  simp only
  by_cases h:x0=y0∧x1=y1
  ·obtain ⟨rfl,rfl⟩:=h
   rcases cT_tri a b with h1 | h1 | h1
   ·exact .inl (.inr ⟨⟨rfl,rfl⟩,h1⟩)
   ·exact .inr (.inl (by rw [h1]))
   ·exact .inr (.inr (.inr ⟨⟨rfl,rfl⟩,h1⟩))
  ·by_cases h2:x0 < y0∨(x0=y0∧x1 < y1)
   ·exact .inl (.inl h2)
   ·exact .inr (.inr (.inl (by omega)))
theorem cT_zero:∀ a b:List S70,cmpT a b=0↔a=b
 | [],[]=>by simp [cmpT]
 | [],_ :: _=>by simp [cmpT]
 | _ :: _,[]=>by simp [cmpT]
 | ⟨x0,x1⟩ :: a,⟨y0,y1⟩ :: b=>by
  rw [cmpT]
  simp only
  have hz:=c2_zero x0 x1 y0 y1
  by_cases h:cmp2 x0 x1 y0 y1=0
  ·rw [if_pos h,cT_zero a b]
   obtain ⟨rfl,rfl⟩:=hz.1 h
   simp
  ·rw [if_neg h]
   constructor
   ·intro h2;exact absurd h2 h
   ·intro h2
    injection h2 with h3 h4
    injection h3 with h5 h6
    exact absurd (hz.2 ⟨h5,h6⟩) h
def cfX (xs:List S30) (i j:Nat):Int:=cmpT (xs.getD i z30).f1 (xs.getD j z30).f1
theorem cfX_swo (xs:List S30):Go.Sort.SWO (ltOf (cfX xs)) where
 irrefl i:=by unfold ltOf cfX;exact decide_eq_false (cT_irrefl _)
 trans i j k h1 h2:=by
  unfold ltOf cfX at *
  exact decide_eq_true (cT_trans _ _ _ (of_decide_eq_true h1) (of_decide_eq_true h2))
 ntrans i j k h1 h2:=by
  unfold ltOf cfX at *
  have g1:=of_decide_eq_false h1
  have g2:=of_decide_eq_false h2
  refine decide_eq_false (fun h3=>?_)
  rcases cT_tri (xs.getD i z30).f1 (xs.getD j z30).f1 with h | h | h
  ·exact g1 h
  ·rw [h] at h3;exact g2 h3
  ·exact g2 (cT_trans _ _ _ h h3)
def posN:List Nat→Nat→Nat
 | [],_=>0
 | x :: xs,y=>if y=x then 0 else posN xs y+1
theorem posN_at:∀ (ps:List Nat),ps.Nodup→∀ j y,ps[j]?=some y→posN ps y=j
 | [],_,j,y,h=>by simp at h
 | x :: xs,hd,0,y,h=>by
  simp at h
  rw [posN,if_pos h.symm]
 | x :: xs,hd,j+1,y,h=>by
  rw [List.getElem?_cons_succ] at h
  rw [List.nodup_cons] at hd
  have hm:=List.mem_of_getElem? h
  have hne:¬ y=x:=fun e=>hd.1 (by rw [← e];exact hm)
  rw [posN,if_neg hne,posN_at xs hd.2 j y h]
def rowX (xs:List S30) (ea:Nat→Option Addr) (ec:Nat→Nat):Nat→List Value:=rw2 (fun i=>(xs.getD i z30).f0) ea (fun i=>(xs.getD i z30).f1.length) ec
/-- The row's rows are one's own, each of its own block: laid in whatever order, they are still one's own. -/
theorem S30_rows {W:World} {base c:Nat} {ok:Nat→Prop} {A:Option Addr} {xs:List S30} (h:Kd.S k30 30 W base ok (.slice A xs.length c) xs):
  ∃ (ea:Nat→Option Addr) (ec:Nat→Nat),
   Kd.R (Kd.raw 2) 30 W base ok (.slice A xs.length c) ((List.range xs.length).map (rowX xs ea ec))∧
   (∀ i,(xs.getD i z30).f1.length≤ec i∧∀ w1,W.grownBy w1 (Value.slice A xs.length c).ownBlock→k70.C w1 (ea i) (xs.getD i z30).f1.length (xs.getD i z30).f1)∧
   ∀ (w1:World) (v1:Value) (ps:List Nat),W.grownBy w1 (Value.slice A xs.length c).ownBlock→v1.ownBlock=(Value.slice A xs.length c).ownBlock→ps.Nodup→(∀ p ∈ ps,p < xs.length)→Kd.R (Kd.raw 2) 30 w1 base (fun _=>True) v1 (ps.map (rowX xs ea ec))→Kd.S k30 30 w1 base ok v1 (ps.map fun i=>xs.getD i z30):=by
 obtain ⟨f,h0,inner,ho,hr⟩:=h
 have key:∀ i:Nat,∃ p:Option Addr × Nat,(i < xs.length→(inner.drop (i * 2)).take 2=[.int .i64 (xs.getD i z30).f0,.slice p.1 (xs.getD i z30).f1.length p.2]∧k70.R 70 W base (fun k=>(ok k∧some k ≠ (Value.slice A xs.length c).ownBlock)∧f k=i) (.slice p.1 (xs.getD i z30).f1.length p.2) (xs.getD i z30).f1)∧(xs.length≤i→p=(none,0)):=by
  intro i
  by_cases hi:i < xs.length
  ·have hz:xs.zipIdx[i]?=some (xs.getD i z30,i):=Kd.zip_at (by rw [List.getD_eq_getElem?_getD,List.getElem?_eq_getElem hi];rfl)
   have hM:=hr.2 i _ hz
   have hM2:k30.M W base (fun k=>(ok k∧some k ≠ (Value.slice A xs.length c).ownBlock)∧f k=i) (xs.getD i z30) ((inner.drop (i * 2)).take 2):=hM
   obtain ⟨v1,hv,hR⟩:=k30_openM hM2
   obtain ⟨A1,c1,rfl⟩:=Kd.R_slice hR
   exact ⟨(A1,c1),fun _=>⟨hv,hR⟩,fun h=>by omega⟩
  ·exact ⟨(none,0),fun h=>absurd h hi,fun _=>rfl⟩
 obtain ⟨fe,hfe⟩:=Classical.axiomOfChoice key
 have hrow:∀ i,i < xs.length→(inner.drop (i * 2)).take 2=rowX xs (fun i=>(fe i).1) (fun i=>(fe i).2) i:=fun i hi=>((hfe i).1 hi).1
 have hmv:∀ {w1:World},W.grownBy w1 (Value.slice A xs.length c).ownBlock→∀ i,i < xs.length→k70.R 70 w1 base (fun k=>((ok k∧some k ≠ (Value.slice A xs.length c).ownBlock)∧f k=i)) (.slice (fe i).1 (xs.getD i z30).f1.length (fe i).2) (xs.getD i z30).f1:=fun hg i hi=>
  Kd.R_mono (Kd.R_move (Kd.R_bound ((hfe i).1 hi).2) (fun k hk=>hg.block k hk.2.2.1 hk.1.1.2)) (fun k hk=>hk.1)
 have hrl:xs.zipIdx.length=xs.length:=List.length_zipIdx
 refine ⟨fun i=>(fe i).1,fun i=>(fe i).2,⟨h0,inner,by rw [List.length_map,List.length_range];rw [hrl] at ho;exact ho,?_⟩,fun i=>?_,fun w1 v1 ps hg hv hd hp hR=>?_⟩
 ·refine ⟨by have:=hr.1;rw [hrl] at this;rw [List.length_map,List.length_range];exact this,fun j p hj=>?_⟩
  rw [List.getElem?_map] at hj
  by_cases hjl:j < xs.length
  ·rw [List.getElem?_range hjl] at hj
   injection hj with hj
   subst hj
   show (inner.drop (j * 2)).take 2=_∧((inner.drop (j * 2)).take 2).length=2∧∀ u ∈ (inner.drop (j * 2)).take 2,u.oneCell'=true
   rw [hrow j hjl]
   exact ⟨rfl,rfl,by intro u hu;simp only [rowX,rw2,List.mem_cons,List.not_mem_nil,or_false] at hu;rcases hu with rfl | rfl <;> rfl⟩
  ·rw [List.getElem?_eq_none (by rw [List.length_range];omega)] at hj
   cases hj
 ·by_cases hi:i < xs.length
  ·have hself:=(hfe i).1 hi
   exact ⟨(Kd.R_reads' hself.2).2.1,fun w1 hg=>(Kd.R_reads' (hmv hg i hi)).2.2⟩
  ·have hn:=(hfe i).2 (by omega)
   have hz:xs.getD i z30=z30:=by rw [List.getD_eq_getElem?_getD,List.getElem?_eq_none (by omega)];rfl
   show (xs.getD i z30).f1.length≤(fe i).2∧∀ w1,W.grownBy w1 (Value.slice A xs.length c).ownBlock→k70.C w1 (fe i).1 (xs.getD i z30).f1.length (xs.getD i z30).f1
   rw [hn,hz]
   exact ⟨Nat.zero_le _,fun w1 _=>(Kd.R_reads' (Kd.R_nil k70 70 w1 0 (fun _=>True))).2.2⟩
 ·obtain ⟨_,inner2,ho2,hr2⟩:=hR
  refine ⟨fun k=>posN ps (f k),fun k hk=>h0 k (by rw [← hv];exact hk),inner2,by rw [List.length_zipIdx,List.length_map];rw [List.length_map] at ho2;exact ho2,by have:=hr2.1;rw [List.length_map] at this;rw [List.length_zipIdx,List.length_map];exact this,fun j p hj=>?_⟩
  by_cases hjl:j < ps.length
  ·obtain ⟨q,hq⟩:∃ q,ps[j]?=some q:=⟨_,List.getElem?_eq_getElem hjl⟩
   have hqm:q ∈ ps:=List.mem_of_getElem? hq
   have hql:=hp q hqm
   rw [Kd.zip_at (p:=xs.getD q z30) (by rw [List.getElem?_map,hq];rfl)] at hj
   injection hj with hj
   subst hj
   have hc:=(hr2.2 j (rowX xs (fun i=>(fe i).1) (fun i=>(fe i).2) q) (by rw [List.getElem?_map,hq];rfl)).1
   show k30.M w1 base (fun k=>(ok k∧some k ≠ v1.ownBlock)∧posN ps (f k)=j) (xs.getD q z30) ((inner2.drop (j * 2)).take 2)
   have hc2:(inner2.drop (j * 2)).take 2=rowX xs (fun i=>(fe i).1) (fun i=>(fe i).2) q:=hc
   rw [hc2]
   refine k30_mkM _ _ _ _ (Kd.R_mono (hmv hg q hql) (fun k hk=>⟨⟨hk.1.1,by rw [hv];exact hk.1.2⟩,by rw [hk.2];exact posN_at ps hd j q hq⟩))
  ·rw [List.getElem?_eq_none (by rw [List.length_zipIdx,List.length_map];omega)] at hj
   cases hj
theorem heap_sortX {enc:Nat→List Value} {w:World} {g n:Nat} {os:Array Obj} {cur:Array Value} {e:TypeId} {fr:Nat × Nat} (d:Array Nat) (hb:w.heap[g]?=some (.cells cur e fr)):
  (sortWorldK enc 2 w g 0 n d os).heap[g]?=some (.cells (Go.Sort.putCells id 0 (Go.Sort.flatK enc 2 d) cur) e fr):=by
 have hg:g < w.heap.size:=(Array.getElem?_eq_some_iff.1 hb).1
 unfold sortWorldK
 rw [Go.Sort.heap_grow_old _ _ (by simpa [Go.Sort.putRowK,Go.Sort.ahead] using hg)]
 simp [Go.Sort.putRowK,Go.Sort.putRow,Go.Sort.mapBlock,Go.Sort.ahead,Array.getElem?_modify,hb,Go.Sort.onCells]
theorem grownBy_sortX {enc:Nat→List Value} {w:World} {g n:Nat} {os:Array Obj} (d:Array Nat):w.grownBy (sortWorldK enc 2 w g 0 n d os) (some g):=by
 unfold sortWorldK
 refine ⟨rfl,rfl,rfl,by simp [Go.Sort.putRowK,Go.Sort.ahead,Go.Sort.grow],fun k hk hne=>?_⟩
 rw [Go.Sort.heap_grow_old _ _ (by simpa [Go.Sort.putRowK,Go.Sort.ahead] using hk)]
 have:g ≠ k:=fun e=>hne (by rw [e])
 simp [Go.Sort.putRowK,Go.Sort.putRow,Go.Sort.mapBlock,Go.Sort.ahead,Array.getElem?_modify,this]
theorem flat_take (enc:Nat→List Value) (h2:∀ x,(enc x).length=2) (cur:Array Value) (d:Array Nat) (h:d.size * 2≤cur.size):(Go.Sort.putCells id 0 (Go.Sort.flatK enc 2 d) cur).toList.take (d.size * 2)=(d.toList.map enc).flatten:=by
 have e1:∀ l:List Nat,((l.map enc).flatten).length=l.length * 2:=fun l=>by
  induction l with
  | nil=>rfl
  | cons x l ih=>rw [List.map_cons,List.flatten_cons,List.length_append,ih,h2,List.length_cons];omega
 have e2:∀ (l:List Nat) (t:Nat),t < l.length * 2→((l.map enc).flatten)[t]?=(enc (l.getD (t / 2) 0))[t % 2]?:=fun l=>by
  induction l with
  | nil=>intro t ht;simp at ht
  | cons x l ih=>
   intro t ht
   rw [List.map_cons,List.flatten_cons]
   by_cases h3:t < 2
   ·rw [List.getElem?_append_left (by rw [h2];omega),show t / 2=0 by omega,show t % 2=t by omega]
    rfl
   ·rw [List.getElem?_append_right (by rw [h2];omega),h2,ih (t - 2) (by rw [List.length_cons] at ht;omega),show t / 2=(t - 2) / 2+1 by omega,show (t - 2) % 2=t % 2 by omega]
    rfl
 apply List.ext_getElem?
 intro t
 by_cases ht:t < d.size * 2
 ·rw [List.getElem?_take_of_lt ht,Array.getElem?_toList,e2 d.toList t (by simpa using ht)]
  have hs:t < (Go.Sort.putCells id 0 (Go.Sort.flatK enc 2 d) cur).size:=by simp [Go.Sort.putCells];omega
  have hp:(enc (d.toList.getD (t / 2) 0))[t % 2]?=some ((enc d[t / 2]!)[t % 2]!):=by
   have hd2:t / 2 < d.size:=by omega
   have:d.toList.getD (t / 2) 0=d[t / 2]!:=by simp [List.getD,hd2]
   have hd3:t % 2 < (enc d[t / 2]!).length:=by rw [h2];omega
   rw [this,List.getElem!_eq_getElem?_getD,List.getElem?_eq_getElem hd3]
   rfl
  rw [hp,← Go.Sort.get_flatK enc 2 d t ht]
  simp [Go.Sort.putCells,ht,show t < cur.size by omega]
 ·rw [List.getElem?_take_eq_none (by omega),List.getElem?_eq_none (by rw [e1];simp;omega)]
theorem chunk_flat (enc:Nat→List Value) (h2:∀ x,(enc x).length=2):∀ (l:List Nat) (j p:Nat),l[j]?=some p→(((l.map enc).flatten).drop (j * 2)).take 2=enc p
 | [],j,p,h=>by simp at h
 | x :: l,0,p,h=>by
  simp at h
  subst h
  rw [List.map_cons,List.flatten_cons,Nat.zero_mul,List.drop_zero,List.take_append_of_le_length (by rw [h2];exact Nat.le_refl _),List.take_of_length_le (by rw [h2];exact Nat.le_refl _)]
 | x :: l,j+1,p,h=>by
  rw [List.getElem?_cons_succ] at h
  rw [List.map_cons,List.flatten_cons,show (j+1) * 2=(enc x).length+j * 2 by rw [h2];omega,List.drop_append,List.drop_of_length_le (by omega),List.nil_append,Nat.add_sub_cancel_left]
  exact chunk_flat enc h2 l j p h
theorem sortX_calls (xs:List S30) (ea:Nat→Option Addr) (ec:Nat→Nat) (A:Option Addr) (c:Nat) (W:World) (base:Nat) (ok:Nat→Prop) (hR:Kd.R (Kd.raw 2) 30 W base ok (.slice A xs.length c) ((List.range xs.length).map (rowX xs ea ec)))
  (hrd:∀ i,(xs.getD i z30).f1.length≤ec i∧∀ w1,W.grownBy w1 (Value.slice A xs.length c).ownBlock→k70.C w1 (ea i) (xs.getD i z30).f1.length (xs.getD i z30).f1) (hsz:xs.length < 4611686018427387904) :
  Calls Try.prog 58 #[.slice A xs.length c,.func (.func 35) #[] #[]] W fun e w'=>e=.returned (.tuple #[])∧∃ ds:List Nat,ds.Perm (List.range xs.length)∧ds.Pairwise (fun i j=>¬ cfX xs j i < 0)∧Kd.R (Kd.raw 2) 30 w' base ok (.slice A xs.length c) (ds.map (rowX xs ea ec))∧W.grownBy w' (Value.slice A xs.length c).ownBlock:=by
 by_cases hn:xs.length=0
 ·have hcon:=Go.Proofs.AnyF.slices_SortFunc_none srtLays A c (.func (.func 35) #[] #[]) W
  rw [hn] at hR ⊢
  exact hcon.mono (fun e w' h=>⟨h.1,[],by simp,List.Pairwise.nil,by rw [h.2];exact hR,by rw [h.2];exact grown_refl _ _⟩)
 ·obtain ⟨g,c',ea1,gb,gl,cells0,hg0⟩:=Kd.R_form hR (by rw [List.length_map,List.length_range];omega)
  rw [List.length_map,List.length_range] at ea1
  injection ea1 with ea2 ea3 ea4
  subst ea2 ea4
  have hR0:=hR
  obtain ⟨h0,inner,ho,hr⟩:=hR
  rw [List.length_map,List.length_range] at ho
  obtain ⟨hol,ho2⟩:=ho
  rcases ho2 with ⟨hv,_⟩ | ⟨g2,cap,cur,hv,hb,hh,hnc,hm,hcs,ht⟩
  ·cases hv
  injection hv with hv1 hv2 hv3
  injection hv1 with hv1
  injection hv1 with hv1
  subst hv1 hv3
  have hh2:W.heap[g]?=some (.cells cur 30 (0,0)):=hh
  have hk2:∀ x,(rowX xs ea ec x).length=2:=fun x=>rfl
  have h1:∀ x,∀ v ∈ rowX xs ea ec x,v.oneCell'=true:=fun x v hv=>by simp only [rowX,rw2,List.mem_cons,List.not_mem_nil,or_false] at hv;rcases hv with rfl | rfl <;> rfl
  have eg:∀ args w,(callFunc 35 args).run Try.prog w=.ok (.enter 35 args) w:=Go.Proofs.enters_of Try.func35 (by kernel_rfl) rfl
  have hH:Go.Sort.HoldsK (rowX xs ea ec) 2 W g 0 (Array.range xs.length):=by
   intro t ht
   rw [Go.Sort.size_flatK,Array.size_range] at ht
   rw [Go.Sort.get_flatK _ _ _ _ (by rw [Array.size_range];exact ht)]
   have hrw:((List.range xs.length).map (rowX xs ea ec)).getD (t / 2) []=[.int .i64 (xs.getD (t / 2) z30).f0,.slice (ea (t / 2)) (xs.getD (t / 2) z30).f1.length (ec (t / 2))]:=by
    rw [List.getD_eq_getElem?_getD,List.getElem?_map,List.getElem?_range (by omega)]
    rfl
   obtain ⟨⟨c0,c1⟩,f0,f1⟩:=raw_cell hR0 (t / 2) (by omega) hrw
   have he:(Array.range xs.length)[t / 2]! = t / 2:=by simp [show t / 2 < xs.length by omega]
   rw [he,Nat.zero_add]
   rcases Nat.mod_two_eq_zero_or_one t with h | h
   ·rw [h]
    rw [show t / 2 * 2=t by omega] at c0 f0
    exact ⟨c0,f0⟩
   ·rw [h]
    rw [show t / 2 * 2+1=t by omega] at c1 f1
    exact ⟨c1,f1⟩
  have hcmp:Go.Proofs.CmpLays Try.prog 35 #[] (rowX xs ea ec) 2 (cfX xs) g 0 (Array.range xs.length).size W:=fun m os dk hdk x y=>by
   have hgr:=grownBy_sortX (enc:=rowX xs ea ec) (w:=W) (g:=g) (n:=m) (os:=os) dk
   exact (Up.impl_compareParties.calls 4 _ (ea x) (ec x) _ _ (ea y) (ec y) _ _ _ ((hrd x).2 _ hgr) (hrd x).1 ((hrd y).2 _ hgr) (hrd y).1 (Up.compare_eq _ _ _ _ ((hrd x).2 _ hgr).2.1)).mono (fun e w' h=>⟨h.1,upp_grow h.2⟩)
  have hcon:=Go.Proofs.AnyQ.slices_SortFunc srtLays 2 Try.isAgg30 Try.sizeOf30 (rowX xs ea ec) hk2 h1 (cfX xs) (cfX_swo xs) 35 #[] g 0 c (Array.range xs.length) W eg hcmp hH gl (by rw [Array.size_range];exact hsz)
  rw [Array.size_range] at hcon
  refine hcon.mono (fun e w' h=>?_)
  obtain ⟨he,d',n,os,hp,hs,rfl⟩:=h
  have hsz2:d'.size=xs.length:=by have:=hp.1;rw [Array.size_range] at this;exact this
  refine ⟨he,d'.toList,?_,?_,?_,grownBy_sortX d'⟩
  ·have h3:=hp.2.2
   have e1:d'.extract 0 xs.length=d':=by rw [← hsz2];exact Array.extract_size
   have e2:(Array.range xs.length).extract 0 xs.length=Array.range xs.length:=by have:=Array.extract_size (xs:=Array.range xs.length);rwa [Array.size_range] at this
   rw [e1,e2,Array.toList_range] at h3
   exact h3
  ·rw [List.pairwise_iff_getElem]
   intro i j hi hj hij
   have h4:=hs i j (Nat.zero_le _) hij (by rw [← hsz2];simpa using hj)
   have ei:d'[i]! = d'.toList[i]:=by rw [getElem!_pos d' i (by simpa using hi)];simp
   have ej:d'[j]! = d'.toList[j]:=by rw [getElem!_pos d' j (by simpa using hj)];simp
   rw [ei,ej] at h4
   exact of_decide_eq_false h4
  ·have hh3:=heap_sortX (enc:=rowX xs ea ec) (n:=n) (os:=os) d' hh2
   have hfl:((d'.toList.map (rowX xs ea ec)).flatten).length=xs.length * 2:=by
    have e1:∀ l:List Nat,((l.map (rowX xs ea ec)).flatten).length=l.length * 2:=fun l=>by
     induction l with
     | nil=>rfl
     | cons x l ih=>rw [List.map_cons,List.flatten_cons,List.length_append,ih,hk2,List.length_cons];omega
    rw [e1]
    simp [hsz2]
   have hml:(d'.toList.map (rowX xs ea ec)).length=xs.length:=by simp [hsz2]
   have hcs2:cur.size=c * 2:=hcs
   have hft:=flat_take (rowX xs ea ec) hk2 cur d' (by omega)
   rw [hsz2] at hft
   refine ⟨h0,(d'.toList.map (rowX xs ea ec)).flatten,?_,?_,?_⟩
   ·rw [hml]
    exact ⟨hfl,.inr ⟨g,c,_,rfl,hb,hh3,hnc,hm,by simp [Go.Sort.putCells];exact hcs2,hft⟩⟩
   ·rw [hml]
    exact hfl
   ·intro j p hj
    rw [List.getElem?_map] at hj
    obtain ⟨q,hq,rfl⟩:=Option.map_eq_some_iff.1 hj
    have hc2:=chunk_flat (rowX xs ea ec) hk2 _ j q hq
    show (((d'.toList.map (rowX xs ea ec)).flatten).drop (j * 2)).take 2=_∧((((d'.toList.map (rowX xs ea ec)).flatten).drop (j * 2)).take 2).length=2∧∀ u ∈ (((d'.toList.map (rowX xs ea ec)).flatten).drop (j * 2)).take 2,u.oneCell'=true
    rw [hc2]
    exact ⟨rfl,rfl,h1 q⟩
def okX (xs:List S30):Bool:=decide (xs.length < 4611686018427387904) && xs.all fun x=>x.f0 == (xs.headD z30).f0
def srtX (xs:List S30):List S30:=xs.mergeSort fun a b=>!decide (cmpT b.f1 a.f1 < 0)
def cpX (l:List S30):List S30:=cpN z30 (fun a b=>cmpT a.f1 b.f1 == 0) l
def eqX (xs:List S30) (i j:Nat):Bool:=cmpT (xs.getD i z30).f1 (xs.getD j z30).f1 == 0
theorem compactX_calls (xs:List S30) (ea:Nat→Option Addr) (ec:Nat→Nat) (A:Option Addr) (c:Nat) (ds:List Nat) (W:World) (base:Nat) (ok:Nat→Prop) (hp:ds.Perm (List.range xs.length)) (hR:Kd.R (Kd.raw 2) 30 W base ok (.slice A xs.length c) (ds.map (rowX xs ea ec)))
  (hrd:∀ i,(xs.getD i z30).f1.length≤ec i∧∀ w1,W.grownBy w1 (Value.slice A xs.length c).ownBlock→k70.C w1 (ea i) (xs.getD i z30).f1.length (xs.getD i z30).f1) :
  Calls Try.prog 59 #[.slice A xs.length c,.func (.func 60) #[] #[]] W fun e w'=>∃ v,e=.returned v∧Kd.R (Kd.raw 2) 30 w' base ok v ((cpN 0 (eqX xs) ds).map (rowX xs ea ec))∧v.ownBlock=(Value.slice A xs.length c).ownBlock∧W.grownBy w' (Value.slice A xs.length c).ownBlock:=by
 have hl:ds.length=xs.length:=by rw [hp.length_eq,List.length_range]
 rw [← hl] at hR hrd ⊢
 exact compact_calls (eqX xs) (fun i=>(xs.getD i z30).f0) ea (fun i=>(xs.getD i z30).f1.length) ec A c ds W base ok hR (fun w' hg x y _ _=>Up.eqX_calls _ (ea x) (ec x) _ _ (ea y) (ec y) _ w' ((hrd x).2 w' hg) (hrd x).1 ((hrd y).2 w' hg) (hrd y).1)
theorem sortedX (xs:List S30) (ds:List Nat) (hok:okX xs=true) (hp:ds.Perm (List.range xs.length)) (hs:ds.Pairwise (fun i j=>¬ cfX xs j i < 0)):ds.map (fun i=>xs.getD i z30)=srtX xs:=by
 unfold okX at hok
 rw [Bool.and_eq_true,List.all_eq_true] at hok
 have hf0:∀ x ∈ xs,x.f0=(xs.headD z30).f0:=fun x hx=>by simpa using hok.2 x hx
 have hxs:(List.range xs.length).map (fun i=>xs.getD i z30)=xs:=by
  apply List.ext_getElem (by simp)
  intro i h1 h2
  simp [List.getD_eq_getElem?_getD,List.getElem?_eq_getElem h2]
 have hp1:(ds.map fun i=>xs.getD i z30).Perm xs:=by have:=hp.map (fun i=>xs.getD i z30);rwa [hxs] at this
 have hp2:(srtX xs).Perm xs:=List.mergeSort_perm _ _
 have hs2:(srtX xs).Pairwise (fun a b=>(!decide (cmpT b.f1 a.f1 < 0))=true):=List.pairwise_mergeSort (le:=fun a b:S30=>!decide (cmpT b.f1 a.f1 < 0)) (fun a b c h1 h2=>by
   simp only [Bool.not_eq_true',decide_eq_false_iff_not] at *
   intro h3
   rcases cT_tri a.f1 b.f1 with h | h | h
   ·exact h2 (cT_trans _ _ _ h3 h)
   ·rw [h] at h3;exact h2 h3
   ·exact h1 h) (fun a b=>by
   simp only [Bool.or_eq_true,Bool.not_eq_true',decide_eq_false_iff_not]
   rcases cT_tri a.f1 b.f1 with h | h | h
   ·exact .inl (fun h2=>cT_irrefl _ (cT_trans _ _ _ h h2))
   ·exact .inl (by rw [h];exact cT_irrefl _)
   ·exact .inr (fun h2=>cT_irrefl _ (cT_trans _ _ _ h h2))) xs
 have hs1:(ds.map fun i=>xs.getD i z30).Pairwise (fun a b=>(!decide (cmpT b.f1 a.f1 < 0))=true):=by
  rw [List.pairwise_map]
  exact hs.imp (fun {i j} h=>by simp only [Bool.not_eq_true',decide_eq_false_iff_not];exact h)
 refine List.Perm.eq_of_pairwise (fun a b ha hb h1 h2=>?_) hs1 hs2 (hp1.trans hp2.symm)
 simp only [Bool.not_eq_true',decide_eq_false_iff_not] at h1 h2
 have ha2:=hf0 a (hp1.mem_iff.1 ha)
 have hb2:=hf0 b (hp2.mem_iff.1 hb)
 have he:a.f1=b.f1:=by
  rcases cT_tri a.f1 b.f1 with h | h | h
  ·exact absurd h h2
  ·exact h
  ·exact absurd h h1
 cases a
 cases b
 simp only at ha2 hb2 he
 rw [he,ha2,hb2]
theorem compactedX (xs:List S30) (ds:List Nat) (hok:okX xs=true) (hp:ds.Perm (List.range xs.length)) (hs:ds.Pairwise (fun i j=>¬ cfX xs j i < 0)):(cpN 0 (eqX xs) ds).map (fun i=>xs.getD i z30)=cpX (srtX xs):=by
 rw [← sortedX xs ds hok hp hs]
 unfold cpX cpN
 cases ds with
 | nil=>rfl
 | cons d ds=>
  rw [List.length_map]
  exact kp_map 0 (eqX xs) (d :: ds) (fun i=>xs.getD i z30) z30 (fun a b=>cmpT a.f1 b.f1 == 0) (fun x y=>rfl) _ (by simp)
/-- SortFunc and CompactFunc, together: what is one's own before is one's own behind. -/
theorem endX {W:World} {base c:Nat} {ok:Nat→Prop} {A:Option Addr} {xs:List S30} (h:Kd.S k30 30 W base ok (.slice A xs.length c) xs) (hok:okX xs=true):
  ∃ (ea:Nat→Option Addr) (ec:Nat→Nat),
   Kd.R (Kd.raw 2) 30 W base ok (.slice A xs.length c) ((List.range xs.length).map (rowX xs ea ec))∧
   (∀ i,(xs.getD i z30).f1.length≤ec i∧∀ w1,W.grownBy w1 (Value.slice A xs.length c).ownBlock→k70.C w1 (ea i) (xs.getD i z30).f1.length (xs.getD i z30).f1)∧
   ∀ (ds:List Nat) (w2:World) (v:Value),ds.Perm (List.range xs.length)→ds.Pairwise (fun i j=>¬ cfX xs j i < 0)→W.grownBy w2 (Value.slice A xs.length c).ownBlock→v.ownBlock=(Value.slice A xs.length c).ownBlock→Kd.R (Kd.raw 2) 30 w2 base ok v ((cpN 0 (eqX xs) ds).map (rowX xs ea ec))→Kd.S k30 30 w2 base ok v (cpX (srtX xs)):=by
 obtain ⟨ea,ec,h1,h2,h3⟩:=S30_rows h
 refine ⟨ea,ec,h1,h2,fun ds w2 v hp hs hg hv hR=>?_⟩
 rw [← compactedX xs ds hok hp hs]
 have hnd:ds.Nodup:=hp.nodup_iff.2 List.nodup_range
 have hcn:(cpN 0 (eqX xs) ds).Nodup∧∀ x,x ∈ cpN 0 (eqX xs) ds→x ∈ ds:=by
  cases ds with
  | nil=>exact ⟨List.nodup_nil,fun x hx=>hx⟩
  | cons d ds=>exact ⟨(kp_nodup 0 (eqX xs) (d :: ds) hnd _ (by simp)).1,fun x hx=>kp_mem 0 (eqX xs) (d :: ds) _ (by simp) x hx⟩
 exact h3 w2 v _ hg hv hcn.1 (fun p hp2=>by have:=hp.mem_iff.1 (hcn.2 p hp2);simpa using this) (Kd.R_mono hR (fun _ _=>trivial))
theorem own_ge {W:World} {base c n:Nat} {ok:Nat→Prop} {A:Option Addr} {rows:List (List Value)} (h:Kd.R (Kd.raw 2) 30 W base ok (.slice A n c) rows):∀ k,(Value.slice A n c).ownBlock=some k→base≤k:=fun k hk=>by
 obtain ⟨_,inner,ho,_⟩:=h
 exact own_base ho k hk
theorem below_own {w W w1:World} {B:Nat} {row:Option Nat} (h:Below B w W) (hg:W.grownBy w1 row) (hr:∀ k,row=some k→B≤k) (hB:B≤W.heap.size):Below B w w1:=
 ⟨hg.os.trans h.os,hg.tape.trans h.tape,hg.output.trans h.output,Nat.le_trans h.size hg.size,fun q hq=>(hg.block q (by omega) (fun e=>by have:=hr q e.symm;omega)).trans (h.block q hq)⟩
/-! ### impl_AllExchanges: function 25 -/
mutual
def impl_AllExchanges0.l0:Nat→List Int→List (S30)→List (S70)→Int→Int→Int→List (S70)→Option ((List (S30)) × Bool)
 | 0,_,_,_,_,_,_,_=>none
 | k+1,x4,x5,x19,x20,x21,x304000,x304001=>if x21 < x20 then (if 0≤x21 then (if x21 < (x19.length:Int) then (impl_AllExchanges0.l1 k x4 x5 x19 x20 x21 x304001 (x304001.length:Int) 0 x304000 x304001 ((rd_T70 x19 x21).f0) ((rd_T70 x19 x21).f1)) else (none)) else (none)) else (some (x5,true))
def impl_AllExchanges0.l1:Nat→List Int→List (S30)→List (S70)→Int→Int→List (S70)→Int→Int→Int→List (S70)→Int→Int→Option ((List (S30)) × Bool)
 | 0,_,_,_,_,_,_,_,_,_,_,_,_=>none
 | k+1,x4,x5,x19,x20,x21,x26,x27,x28,x304000,x304001,x313000,x313001=>if x28 < x27 then (if 0≤x28 then (if x28 < (x26.length:Int) then ((some (([(⟨(rd_T70 x26 x28).f0,(rd_T70 x26 x28).f1⟩:S76),(⟨(rd_T70 x26 x28).f1,(rd_T70 x26 x28).f0⟩:S76)]:List (S76)):List (S76))).bind fun y315=>(impl_AllExchanges0.l2 k x4 x5 x19 x20 x21 x26 x27 x28 y315 (y315.length:Int) 0 x304000 x304001 x313000 x313001)) else (none)) else (none)) else (impl_AllExchanges0.l0 k x4 x5 x19 x20 (wrap64 (x21+1)) x304000 x304001)
def impl_AllExchanges0.l2:Nat→List Int→List (S30)→List (S70)→Int→Int→List (S70)→Int→Int→List (S76)→Int→Int→Int→List (S70)→Int→Int→Option ((List (S30)) × Bool)
 | 0,_,_,_,_,_,_,_,_,_,_,_,_,_,_,_=>none
 | k+1,x4,x5,x19,x20,x21,x26,x27,x28,x42,x43,x44,x304000,x304001,x313000,x313001=>if x44 < x43 then (if 0≤x44 then (if x44 < (x42.length:Int) then ((impl_table_canExchange.f x4 x313000 x313001 ((rd_T76 x42 x44).f0) ((rd_T76 x42 x44).f1)).bind fun t320=>(if t320=true then ((impl_table_exchanged.f x4 x313000 x313001 ((rd_T76 x42 x44).f0) ((rd_T76 x42 x44).f1)).bind fun t321=>((impl_table_party.f k t321).bind fun bt324=>(if x5.length < 4398046511104 then (impl_AllExchanges0.l2 k x4 (x5 ++ [(⟨bt324.1,bt324.2⟩:S30)]) x19 x20 x21 x26 x27 x28 x42 x43 (wrap64 (x44+1)) x304000 x304001 x313000 x313001) else (none)))) else (impl_AllExchanges0.l2 k x4 x5 x19 x20 x21 x26 x27 x28 x42 x43 (wrap64 (x44+1)) x304000 x304001 x313000 x313001))) else (none)) else (none)) else (impl_AllExchanges0.l1 k x4 x5 x19 x20 x21 x26 x27 (wrap64 (x28+1)) x304000 x304001 x313000 x313001)
end
def impl_AllExchanges0.f (k:Nat) (a0_0:Int) (l0_1:List (S70)):Option ((List (S30)) × Bool):=(impl_IsParty.f k a0_0 l0_1).bind fun t304=>(if t304=true then ((impl_Party_table.f k a0_0 l0_1).bind fun t305=>(impl_AllExchanges0.l0 k t305 (([]:List (S30))) l0_1 (l0_1.length:Int) 0 a0_0 l0_1)) else (some (([]:List (S30)),false)))
theorem impl_AllExchanges0.mono_l:∀ k,(∀ y0 y1 y2 y3 y4 y5 y6,LeO (impl_AllExchanges0.l0 k y0 y1 y2 y3 y4 y5 y6) (impl_AllExchanges0.l0 (k+1) y0 y1 y2 y3 y4 y5 y6))∧(∀ y0 y1 y2 y3 y4 y5 y6 y7 y8 y9 y10 y11,LeO (impl_AllExchanges0.l1 k y0 y1 y2 y3 y4 y5 y6 y7 y8 y9 y10 y11) (impl_AllExchanges0.l1 (k+1) y0 y1 y2 y3 y4 y5 y6 y7 y8 y9 y10 y11))∧(∀ y0 y1 y2 y3 y4 y5 y6 y7 y8 y9 y10 y11 y12 y13 y14,LeO (impl_AllExchanges0.l2 k y0 y1 y2 y3 y4 y5 y6 y7 y8 y9 y10 y11 y12 y13 y14) (impl_AllExchanges0.l2 (k+1) y0 y1 y2 y3 y4 y5 y6 y7 y8 y9 y10 y11 y12 y13 y14))
 | 0=>⟨fun _ _ _ _ _ _ _ r h=>by simp [impl_AllExchanges0.l0] at h,fun _ _ _ _ _ _ _ _ _ _ _ _ r h=>by simp [impl_AllExchanges0.l1] at h,fun _ _ _ _ _ _ _ _ _ _ _ _ _ _ _ r h=>by simp [impl_AllExchanges0.l2] at h⟩
 | k+1=>by
  obtain ⟨ih0,ih1,ih2⟩:=impl_AllExchanges0.mono_l k
  refine ⟨?_,?_,?_⟩
  ·intro y0 y1 y2 y3 y4 y5 y6
   unfold impl_AllExchanges0.l0
   repeat' first
   | (with_reducible exact ih0 _ _ _ _ _ _ _)
   | (with_reducible exact ih1 _ _ _ _ _ _ _ _ _ _ _ _)
   | (with_reducible exact ih2 _ _ _ _ _ _ _ _ _ _ _ _ _ _ _)
   | (with_reducible exact impl_IsParty.mono _ _ _)
   | (with_reducible exact impl_Party_table.mono _ _ _)
   | (with_reducible exact impl_table_party.mono _ _)
   | (with_reducible exact LeO.refl _)
   | (with_reducible exact LeO.none _)
   | (with_reducible refine LeO.ite ?_ ?_)
   | (with_reducible refine LeO.bind ?_ (fun _=>?_))
   | exact ih0 _ _ _ _ _ _ _
   | exact ih1 _ _ _ _ _ _ _ _ _ _ _ _
   | exact ih2 _ _ _ _ _ _ _ _ _ _ _ _ _ _ _
   | exact impl_IsParty.mono _ _ _
   | exact impl_Party_table.mono _ _ _
   | exact impl_table_party.mono _ _
   | exact LeO.none _
   | refine LeO.ite ?_ ?_
   | refine LeO.bind ?_ (fun _=>?_)
  ·intro y0 y1 y2 y3 y4 y5 y6 y7 y8 y9 y10 y11
   unfold impl_AllExchanges0.l1
   repeat' first
   | (with_reducible exact ih0 _ _ _ _ _ _ _)
   | (with_reducible exact ih1 _ _ _ _ _ _ _ _ _ _ _ _)
   | (with_reducible exact ih2 _ _ _ _ _ _ _ _ _ _ _ _ _ _ _)
   | (with_reducible exact impl_IsParty.mono _ _ _)
   | (with_reducible exact impl_Party_table.mono _ _ _)
   | (with_reducible exact impl_table_party.mono _ _)
   | (with_reducible exact LeO.refl _)
   | (with_reducible exact LeO.none _)
   | (with_reducible refine LeO.ite ?_ ?_)
   | (with_reducible refine LeO.bind ?_ (fun _=>?_))
   | exact ih0 _ _ _ _ _ _ _
   | exact ih1 _ _ _ _ _ _ _ _ _ _ _ _
   | exact ih2 _ _ _ _ _ _ _ _ _ _ _ _ _ _ _
   | exact impl_IsParty.mono _ _ _
   | exact impl_Party_table.mono _ _ _
   | exact impl_table_party.mono _ _
   | exact LeO.none _
   | refine LeO.ite ?_ ?_
   | refine LeO.bind ?_ (fun _=>?_)
  ·intro y0 y1 y2 y3 y4 y5 y6 y7 y8 y9 y10 y11 y12 y13 y14
   unfold impl_AllExchanges0.l2
   repeat' first
   | (with_reducible exact ih0 _ _ _ _ _ _ _)
   | (with_reducible exact ih1 _ _ _ _ _ _ _ _ _ _ _ _)
   | (with_reducible exact ih2 _ _ _ _ _ _ _ _ _ _ _ _ _ _ _)
   | (with_reducible exact impl_IsParty.mono _ _ _)
   | (with_reducible exact impl_Party_table.mono _ _ _)
   | (with_reducible exact impl_table_party.mono _ _)
   | (with_reducible exact LeO.refl _)
   | (with_reducible exact LeO.none _)
   | (with_reducible refine LeO.ite ?_ ?_)
   | (with_reducible refine LeO.bind ?_ (fun _=>?_))
   | exact ih0 _ _ _ _ _ _ _
   | exact ih1 _ _ _ _ _ _ _ _ _ _ _ _
   | exact ih2 _ _ _ _ _ _ _ _ _ _ _ _ _ _ _
   | exact impl_IsParty.mono _ _ _
   | exact impl_Party_table.mono _ _ _
   | exact impl_table_party.mono _ _
   | exact LeO.none _
   | refine LeO.ite ?_ ?_
   | refine LeO.bind ?_ (fun _=>?_)
theorem impl_AllExchanges0.mono:∀ a0 a1 k,LeO (impl_AllExchanges0.f k a0 a1) (impl_AllExchanges0.f (k+1) a0 a1):=by
 intro a0 a1 k
 obtain ⟨ih0,ih1,ih2⟩:=impl_AllExchanges0.mono_l k
 unfold impl_AllExchanges0.f
 repeat' first
   | (with_reducible exact ih0 _ _ _ _ _ _ _)
   | (with_reducible exact ih1 _ _ _ _ _ _ _ _ _ _ _ _)
   | (with_reducible exact ih2 _ _ _ _ _ _ _ _ _ _ _ _ _ _ _)
   | (with_reducible exact impl_IsParty.mono _ _ _)
   | (with_reducible exact impl_Party_table.mono _ _ _)
   | (with_reducible exact impl_table_party.mono _ _)
   | (with_reducible exact LeO.refl _)
   | (with_reducible exact LeO.none _)
   | (with_reducible refine LeO.ite ?_ ?_)
   | (with_reducible refine LeO.bind ?_ (fun _=>?_))
   | exact ih0 _ _ _ _ _ _ _
   | exact ih1 _ _ _ _ _ _ _ _ _ _ _ _
   | exact ih2 _ _ _ _ _ _ _ _ _ _ _ _ _ _ _
   | exact impl_IsParty.mono _ _ _
   | exact impl_Party_table.mono _ _ _
   | exact impl_table_party.mono _ _
   | exact LeO.none _
   | refine LeO.ite ?_ ?_
   | refine LeO.bind ?_ (fun _=>?_)
set_option maxHeartbeats 8000000 in
set_option maxRecDepth 100000 in
theorem impl_AllExchanges0.calls (k:Nat) (a0_0:Int) (A0_1:Option Addr) (c0_1:Nat) (l0_1:List (S70)) (r1:List (S30)) (r2:Bool) (w:World) (hr0_1:Kd.C k70 w A0_1 l0_1.length l0_1) (hc0_1:l0_1.length≤c0_1) (hok:r2=true→okX r1=true) (h:impl_AllExchanges0.f k a0_0 l0_1=some (r1,r2)) :
  Calls Try.prog 25 #[.agg #[.int .i64 a0_0,.slice A0_1 l0_1.length c0_1]] w fun e w'=>∃ v0_:Value,e=.returned (.tuple #[v0_,.bool r2])∧Kd.S k30 30 w' w.heap.size (fun _=>True) v0_ (if r2=true then cpX (srtX r1) else r1)∧Below w.heap.size w w':=by
 have HOK:=zz31 hok
 clear hok
 have hu30:=Try.underlying30
 have hu70:=Try.underlying70
 have hu76:=Try.underlying76
 have HR0_1:=zz31 hr0_1
 have HC0_1:=zz31 hc0_1
 clear hr0_1 hc0_1
 have HB:=zz31 (Below.refl w.heap.size w)
 have H:((impl_IsParty.f k a0_0 l0_1).bind fun t304=>(if t304=true then ((impl_Party_table.f k a0_0 l0_1).bind fun t305=>(impl_AllExchanges0.l0 k t305 (([]:List (S30))) l0_1 (l0_1.length:Int) 0 a0_0 l0_1)) else (some (([]:List (S30)),false))))=some (r1,r2):=h
 clear h
 replace H:=zz30.mp H
 obtain ⟨t304,A20,H⟩:=H
 replace H:(if t304=true then ((impl_Party_table.f k a0_0 l0_1).bind fun t305=>(impl_AllExchanges0.l0 k t305 (([]:List (S30))) l0_1 (l0_1.length:Int) 0 a0_0 l0_1)) else (some (([]:List (S30)),false)))=some (r1,r2):=H
 have A2:=zz31 A20
 clear A20
 by_cases c3:t304=true
 ·subst c3
  have H1:((impl_Party_table.f k a0_0 l0_1).bind fun t305=>(impl_AllExchanges0.l0 k t305 (([]:List (S30))) l0_1 (l0_1.length:Int) 0 a0_0 l0_1))=some (r1,r2):=by rw [if_pos rfl] at H;exact H
  clear H
  have H:=H1
  clear H1
  replace H:=zz30.mp H
  obtain ⟨t305,A40,H⟩:=H
  replace H:(impl_AllExchanges0.l0 k t305 (([]:List (S30))) l0_1 (l0_1.length:Int) 0 a0_0 l0_1)=some (r1,r2):=H
  have A4:=zz31 A40
  clear A40
  obtain ⟨y308,hy308⟩:∃ y_:List (S30),y_=(([]:List (S30))):=⟨_,rfl⟩
  replace H:(impl_AllExchanges0.l0 k t305 y308 l0_1 (l0_1.length:Int) 0 a0_0 l0_1)=some (r1,r2):=by first | (rw [hy308];with_reducible exact H) | (have H2_:=(Option.bind_some _ _).symm.trans H;rw [hy308];with_reducible exact H2_) | (have H2_:=(Option.bind_some _ _).symm.trans H;with_reducible exact H2_) | with_reducible exact H | (rw [hy308];exact H) | exact H
  have Ny308:=zz31 hy308
  clear hy308
  have H':=zz31 H
  clear H
  go_enter Try.func25,Try.ntmps25
  go_wp2_with (first | ((with_reducible refine gate_dst (N:=1) rfl ?_);refine box_event ?hg (N:=1) ?hd (cs:=#[.int .i64 a0_0,.slice A0_1 l0_1.length c0_1]) (t:=30) ?hr ?_;(case hd=>rfl);(case hg=>rfl);(case hr=>first | (go_simp;done) | (go_simp;rfl));intro gb303 hg w5 hbox hb;have BK303:=zz31 (hbox);have GW303:=zz31 ((by rw [hg];exact (zz5 (by repeat first | exact HB.out | apply zz2 | apply zz0 | apply zz1)):w.heap.size≤gb303));replace HB:=zz31 (zz4 (by repeat first | exact HB.out | apply zz2 | apply zz0 | apply zz1) hb);have GE303:=GW303;clear hb hbox hg;have hcz6_0:w5.cell? ⟨gb303,0,none⟩=some (.int .i64 a0_0):=(zz9 BK303.out 0).trans rfl;have hcz6_1:w5.cell? ⟨gb303,1,none⟩=some (.slice A0_1 l0_1.length c0_1):=(zz9 BK303.out 1).trans rfl;have hfz6_0:=zz10 BK303.out 0;have hfz6_1:=zz10 BK303.out 1) | ((with_reducible refine gate_callee (f:=50) rfl ?_);refine goesL_ (some 13) rfl rfl Try.func50 (by kernel_rfl) rfl #[.agg #[.int .i64 a0_0,.slice A0_1 l0_1.length c0_1]] rfl (by (try simp only [zz26,zz27,zz28]);first | done | rfl | (simp only [zz24,zz25];rfl)) ?_;(with_reducible refine (impl_IsParty.calls k a0_0 _ _ l0_1 true _ ?side1 ?side2 A2.out).mono ?_);(case side1=>repeat (first | exact (Kd.C_below HR0_1.out HB.out) | (with_reducible refine zz18 ?_ _) | (with_reducible refine zz19 ?_ _) | (with_reducible refine zz20 ?_)));(case side2=>exact HC0_1.out);rintro e w7 ⟨rfl,hb⟩;refine ⟨_,rfl,?_⟩;replace BK303:=zz31 (zz11 (g:=gb303) (o:=.cells #[.int .i64 a0_0,.slice A0_1 l0_1.length c0_1] 30 (0,0)) (by (with_reducible repeat (first | refine zz6 ?_ _ | refine zz7 ?_ | refine zz8 ?_ _));exact BK303.out) hb);replace HB:=zz31 (zz4 (by repeat first | exact HB.out | apply zz2 | apply zz0 | apply zz1 | refine zz3 ?_ GE303.out) hb);(try clear hb);(try clear hb2);(try clear hk);(try clear hi);have hcz8_0:w7.cell? ⟨gb303,0,none⟩=some (.int .i64 a0_0):=(zz9 BK303.out 0).trans rfl;have hcz8_1:w7.cell? ⟨gb303,1,none⟩=some (.slice A0_1 l0_1.length c0_1):=(zz9 BK303.out 1).trans rfl;have hfz8_0:=zz10 BK303.out 0;have hfz8_1:=zz10 BK303.out 1) | ((with_reducible refine gate_callee (f:=54) rfl ?_);refine goesL_ (some 16) rfl rfl Try.func54 (by kernel_rfl) rfl #[.agg #[.int .i64 a0_0,.slice A0_1 l0_1.length c0_1]] rfl (by (try simp only [zz26,zz27,zz28]);first | done | rfl | (simp only [zz24,zz25];rfl)) ?_;(with_reducible refine (impl_Party_table.calls k a0_0 _ _ l0_1 t305 _ ?side1 ?side2 A4.out).mono ?_);(case side1=>repeat (first | exact (Kd.C_below HR0_1.out HB.out) | (with_reducible refine zz18 ?_ _) | (with_reducible refine zz19 ?_ _) | (with_reducible refine zz20 ?_)));(case side2=>exact HC0_1.out);rintro e w9 ⟨v306,rfl,ho0,hb⟩;refine ⟨_,rfl,?_⟩;have HO307:=zz31 (Kd.R_lower ho0 (zz5 (by repeat first | exact HB.out | apply zz2 | apply zz0 | apply zz1 | refine zz3 ?_ GE303.out)));replace BK303:=zz31 (zz11 (g:=gb303) (o:=.cells #[.int .i64 a0_0,.slice A0_1 l0_1.length c0_1] 30 (0,0)) (by (with_reducible repeat (first | refine zz6 ?_ _ | refine zz7 ?_ | refine zz8 ?_ _));exact BK303.out) hb);replace HB:=zz31 (zz4 (by repeat first | exact HB.out | apply zz2 | apply zz0 | apply zz1 | refine zz3 ?_ GE303.out) hb);(try clear hb);(try clear hb2);(try clear hk);(try clear hi);(try clear ho0)) | ((with_reducible refine gate_dst (N:=17) rfl ?_);refine Kd.S_lit k30 _ 30 ?hg (N:=17) ?hd (xs:=([]:List (S30))) (inner:=[]) (ok:=fun _=>True) (okp:=fun _=>True) ?hr ?hp (fun _ hk=>hk) trivial (Below.refl _ _) (Nat.le_refl _) (by simp) ?_;(case hd=>rfl);(case hg=>rfl);(case hr=>first | (go_simp;done) | (go_simp;rfl));(case hp=>exact (Reps.none _ _));intro v309 w10 ho11 hb hg_ hnew_;clear hg_ hnew_;(first | rw [← Ny308.out] at ho11 | (simp only [Int.reduceToNat] at ho11;rw [← Ny308.out] at ho11));replace HO307:=zz31 (Kd.R_below (by (with_reducible repeat (first | apply zz12 | apply zz13 | apply zz14));exact HO307.out) hb);have HO310:=zz31 (Kd.S_lower (Kd.S_newB ho11 (g:=gb303) (o:=.cells #[.int .i64 a0_0,.slice A0_1 l0_1.length c0_1] 30 (0,0)) (by (with_reducible repeat (first | refine zz6 ?_ _ | refine zz7 ?_ | refine zz8 ?_ _));exact BK303.out)) (zz5 (by repeat first | exact HB.out | apply zz2 | apply zz0 | apply zz1 | refine zz3 ?_ GE303.out)));replace BK303:=zz31 (zz11 (g:=gb303) (o:=.cells #[.int .i64 a0_0,.slice A0_1 l0_1.length c0_1] 30 (0,0)) (by (with_reducible repeat (first | refine zz6 ?_ _ | refine zz7 ?_ | refine zz8 ?_ _));exact BK303.out) hb);replace HB:=zz31 (zz4 (by repeat first | exact HB.out | apply zz2 | apply zz0 | apply zz1 | refine zz3 ?_ GE303.out) hb);clear hb ho11;have hcz12_0:w10.cell? ⟨gb303,0,none⟩=some (.int .i64 a0_0):=(zz9 BK303.out 0).trans rfl;have hcz12_1:w10.cell? ⟨gb303,1,none⟩=some (.slice A0_1 l0_1.length c0_1):=(zz9 BK303.out 1).trans rfl;have hfz12_0:=zz10 BK303.out 0;have hfz12_1:=zz10 BK303.out 1))
  go_loopg [5,21] k (fun kq v5 v21 w'=>∃ (x5_1:List (S30)) (x21_1:Int),v21=.int .i64 x21_1∧Aside0 (impl_AllExchanges0.l0 kq t305 x5_1 l0_1 (l0_1.length:Int) x21_1 a0_0 l0_1=some (r1,r2))∧Aside0 (kq≤k)∧Aside0 (Kd.R (Kd.int .u16) 100 w' w.heap.size (fun _=>True) v306 t305)∧Aside0 (Kd.S k30 30 w' w.heap.size (fun k_=>k_ ≠ gb303) v5 x5_1)∧Aside0 (w'.heap[gb303]?=some (.cells #[.int .i64 a0_0,(.slice A0_1 l0_1.length c0_1)] 30 (0,0)))∧Aside0 (Below w.heap.size w w'))
  case atStart=>exact ⟨(y308),(0),(by first | rfl | (simp;done) | (simp [*];done)),H',⟨Nat.le_refl _⟩,⟨by (with_reducible repeat (first | apply zz12 | apply zz13 | apply zz14));exact HO307.out⟩,⟨by (with_reducible repeat (first | apply zz15 | apply zz16 | apply zz17));exact Kd.S_mono HO310.out (fun _ hk=>hk.2)⟩,⟨by (with_reducible repeat (first | refine zz6 ?_ _ | refine zz7 ?_ | refine zz8 ?_ _));exact BK303.out⟩,⟨by repeat first | exact HB.out | apply zz2 | apply zz0 | apply zz1 | refine zz3 ?_ GE303.out⟩⟩
  case round =>
   clear H'
   try clear c2
   try clear p2
   try clear c3
   try clear c5
   try clear hcz12_0
   try clear hcz12_1
   try clear hcz6_0
   try clear hcz6_1
   try clear hcz8_0
   try clear hcz8_1
   try clear hfz12_0
   try clear hfz12_1
   try clear hfz6_0
   try clear hfz6_1
   try clear hfz8_0
   try clear hfz8_1
   obtain ⟨x5_1,x21_1,rfl,HA,HK1,HO_4,HO_5,BK303,HB⟩:=hrel
   cases gk with
   | zero=>exact absurd HA.out (by simp [impl_AllExchanges0.l0])
   | succ k1 =>
    have H:=HA.out
    clear HA
    simp only [impl_AllExchanges0.l0] at H
    by_cases c13:x21_1 < (l0_1.length:Int)
    ·rw [if_pos c13] at H
     have c13b0:decide (x21_1 < (l0_1.length:Int))=true:=decide_eq_true c13
     clear c13
     by_cases c14:0≤x21_1
     ·rw [if_pos c14] at H
      have c14b0:decide (0≤x21_1)=true:=decide_eq_true c14
      clear c14
      by_cases c15:x21_1 < (l0_1.length:Int)
      ·rw [if_pos c15] at H
       have c15b0:decide (x21_1 < (l0_1.length:Int))=true:=decide_eq_true c15
       clear c15
       have H':=zz31 H
       clear H
       have p311:0≤(x21_1:Int):=zz29 (by first | (with_reducible assumption) | assumption)
       have q311:x21_1 < (l0_1.length:Int):=zz29 (by first | (with_reducible assumption) | assumption)
       obtain ⟨ad311,e311,hx311_0,hx311_1⟩:=at_T70 HR0_1.out x21_1 p311 q311
       cases e311
       try replace hx311_0:=(HB.out.cell (World.block_lt_of_cell? w _ hx311_0)).trans hx311_0
       try replace hx311_1:=(HB.out.cell (World.block_lt_of_cell? w _ hx311_1)).trans hx311_1
       replace p311:=eq_true p311
       replace q311:=eq_true q311
       go_wp2_with (first | ((with_reducible refine gate_dst (N:=7) rfl ?_);refine box_event ?hg (N:=7) ?hd (cs:=#[.int .i64 0,.int .i64 0]) (t:=70) ?hr ?_;(case hd=>rfl);(case hg=>rfl);(case hr=>first | (go_simp;done) | (go_simp;rfl));intro gb312 hg w16 hbox hb;replace HO_4:=zz31 (Kd.R_below (by (with_reducible repeat (first | apply zz12 | apply zz13 | apply zz14));exact HO_4.out) hb);replace HO_5:=zz31 (Kd.S_below (Kd.S_elderB (by (with_reducible repeat (first | apply zz15 | apply zz16 | apply zz17));exact HO_5.out) gb312 (Nat.le_of_eq hg.symm)) hb);have BK312:=zz31 (hbox);have GW312:=zz31 ((by rw [hg];exact (zz5 (by repeat first | exact HB.out | apply zz2 | apply zz0 | apply zz1 | refine zz3 ?_ GE303.out)):w.heap.size≤gb312));replace HB:=zz31 (zz4 (by repeat first | exact HB.out | apply zz2 | apply zz0 | apply zz1 | refine zz3 ?_ GE303.out) hb);have GE312:=GW312;have NB303_312:=zz31 ((by rw [hg];exact Nat.ne_of_lt (blk_lt (g:=gb303) (o:=.cells #[.int .i64 a0_0,.slice (some ad311) l0_1.length c0_1] 30 (0,0)) (by (with_reducible repeat (first | refine zz6 ?_ _ | refine zz7 ?_ | refine zz8 ?_ _));exact BK303.out)):gb303 ≠ gb312));have NB312_303:=zz31 ((by rw [hg];exact Nat.ne_of_gt (blk_lt (g:=gb303) (o:=.cells #[.int .i64 a0_0,.slice (some ad311) l0_1.length c0_1] 30 (0,0)) (by (with_reducible repeat (first | refine zz6 ?_ _ | refine zz7 ?_ | refine zz8 ?_ _));exact BK303.out)):gb312 ≠ gb303));replace BK303:=zz31 (zz11 (g:=gb303) (o:=.cells #[.int .i64 a0_0,.slice (some ad311) l0_1.length c0_1] 30 (0,0)) (by (with_reducible repeat (first | refine zz6 ?_ _ | refine zz7 ?_ | refine zz8 ?_ _));exact BK303.out) hb);clear hb hbox hg;have hnb17:=NB312_303.out;have hnc17:=NB303_312.out;have hcz18_0:w16.cell? ⟨gb312,0,none⟩=some (.int .i64 0):=(zz9 BK312.out 0).trans rfl;have hcz18_1:w16.cell? ⟨gb312,1,none⟩=some (.int .i64 0):=(zz9 BK312.out 1).trans rfl;have hfz18_0:=zz10 BK312.out 0;have hfz18_1:=zz10 BK312.out 1;have hcz19_0:w16.cell? ⟨gb303,0,none⟩=some (.int .i64 a0_0):=(zz9 BK303.out 0).trans rfl;have hcz19_1:w16.cell? ⟨gb303,1,none⟩=some (.slice (some ad311) l0_1.length c0_1):=(zz9 BK303.out 1).trans rfl;have hfz19_0:=zz10 BK303.out 0;have hfz19_1:=zz10 BK303.out 1))
       go_loopg [5,28] k1 (fun kq v5 v28 w'=>∃ (x5_2:List (S30)) (x28_2:Int),v28=.int .i64 x28_2∧Aside0 (impl_AllExchanges0.l1 kq t305 x5_2 l0_1 (l0_1.length:Int) x21_1 l0_1 (l0_1.length:Int) x28_2 a0_0 l0_1 ((rd_T70 l0_1 x21_1).f0) ((rd_T70 l0_1 x21_1).f1)=some (r1,r2))∧Aside0 (kq≤k1)∧Aside0 (Kd.R (Kd.int .u16) 100 w' w.heap.size (fun _=>True) v306 t305)∧Aside0 (Kd.S k30 30 w' w.heap.size (fun k_=>k_ ≠ gb303∧k_ ≠ gb312) v5 x5_2)∧Aside0 (w'.heap[gb303]?=some (.cells #[.int .i64 a0_0,(.slice (some ad311) l0_1.length c0_1)] 30 (0,0)))∧Aside0 (w'.heap[gb312]?=some (.cells #[.int .i64 ((rd_T70 l0_1 x21_1).f0),.int .i64 ((rd_T70 l0_1 x21_1).f1)] 70 (0,0)))∧Aside0 (Below w.heap.size w w'))
       case atStart=>exact ⟨(x5_1),(0),(by first | rfl | (simp;done) | (simp [*];done)),H',⟨Nat.le_refl _⟩,⟨by (with_reducible repeat (first | apply zz12 | apply zz13 | apply zz14));exact Kd.R_mono (Kd.R_far (p:=⟨gb312,1,none⟩) (Kd.R_far (p:=⟨gb312,0,none⟩) (Kd.R_types HO_4.out BK312.out (by decide)) (fun _ hk=>hk.2) (.int .i64 ((rd_T70 l0_1 x21_1).f0))) (fun _ hk=>hk.2) (.int .i64 ((rd_T70 l0_1 x21_1).f1))) (fun _ hk=>trivial)⟩,⟨by (with_reducible repeat (first | apply zz15 | apply zz16 | apply zz17));exact Kd.S_mono (Kd.S_far (p:=⟨gb312,1,none⟩) (Kd.S_far (p:=⟨gb312,0,none⟩) (Kd.S_mono HO_5.out (fun k_ hk=>(⟨hk,hk.2⟩:_∧k_ ≠ gb312))) (fun _ hk=>hk.2) (.int .i64 ((rd_T70 l0_1 x21_1).f0))) (fun _ hk=>hk.2) (.int .i64 ((rd_T70 l0_1 x21_1).f1))) (fun _ hk=>⟨hk.1.1,hk.1.2⟩)⟩,⟨by (with_reducible repeat (first | refine zz6 ?_ _ | refine zz7 ?_ | refine zz8 ?_ _));refine blk_far ?_ NB303_312.out _;(with_reducible repeat (first | refine zz6 ?_ _ | refine zz7 ?_ | refine zz8 ?_ _));refine blk_far ?_ NB303_312.out _;(with_reducible repeat (first | refine zz6 ?_ _ | refine zz7 ?_ | refine zz8 ?_ _));exact BK303.out⟩,⟨by (with_reducible repeat (first | refine zz6 ?_ _ | refine zz7 ?_ | refine zz8 ?_ _));refine blk_put (cs:=#[.int .i64 ((rd_T70 l0_1 x21_1).f0),.int .i64 0]) ?_ 1 _ rfl;(with_reducible repeat (first | refine zz6 ?_ _ | refine zz7 ?_ | refine zz8 ?_ _));refine blk_put (cs:=#[.int .i64 0,.int .i64 0]) ?_ 0 _ rfl;(with_reducible repeat (first | refine zz6 ?_ _ | refine zz7 ?_ | refine zz8 ?_ _));exact BK312.out⟩,⟨by repeat first | exact HB.out | apply zz2 | apply zz0 | apply zz1 | refine zz3 ?_ GE303.out | refine zz3 ?_ GE312.out⟩⟩
       case round =>
        clear H'
        try clear c1
        try clear c2
        try clear p2
        try clear c3
        try clear p3
        try clear q3
        try clear hx3
        try clear c5
        try clear c13
        try clear c13b0
        try clear c14
        try clear c14b0
        try clear c15
        try clear c15b0
        try clear c17
        try clear hcz12_0
        try clear hcz12_1
        try clear hcz18_0
        try clear hcz18_1
        try clear hcz19_0
        try clear hcz19_1
        try clear hcz6_0
        try clear hcz6_1
        try clear hcz8_0
        try clear hcz8_1
        try clear hfz12_0
        try clear hfz12_1
        try clear hfz18_0
        try clear hfz18_1
        try clear hfz19_0
        try clear hfz19_1
        try clear hfz6_0
        try clear hfz6_1
        try clear hfz8_0
        try clear hfz8_1
        try clear hx311_0
        try clear hx311_1
        try clear p2
        try clear p311
        try clear q311
        obtain ⟨x5_2,x28_2,rfl,HA,HK2,HO_4,HO_5,BK303,BK312,HB⟩:=hrel
        cases gk with
        | zero=>exact absurd HA.out (by simp [impl_AllExchanges0.l1])
        | succ k2 =>
         have H:=HA.out
         clear HA
         simp only [impl_AllExchanges0.l1] at H
         by_cases c20:x28_2 < (l0_1.length:Int)
         ·rw [if_pos c20] at H
          have c20b0:decide (x28_2 < (l0_1.length:Int))=true:=decide_eq_true c20
          clear c20
          by_cases c21:0≤x28_2
          ·rw [if_pos c21] at H
           have c21b0:decide (0≤x28_2)=true:=decide_eq_true c21
           clear c21
           by_cases c22:x28_2 < (l0_1.length:Int)
           ·rw [if_pos c22] at H
            have c22b0:decide (x28_2 < (l0_1.length:Int))=true:=decide_eq_true c22
            clear c22
            obtain ⟨y315,hy315⟩:∃ y_:List (S76),y_=(([(⟨(rd_T70 l0_1 x28_2).f0,(rd_T70 l0_1 x28_2).f1⟩:S76),(⟨(rd_T70 l0_1 x28_2).f1,(rd_T70 l0_1 x28_2).f0⟩:S76)]:List (S76))):=⟨_,rfl⟩
            replace H:(impl_AllExchanges0.l2 k2 t305 x5_2 l0_1 (l0_1.length:Int) x21_1 l0_1 (l0_1.length:Int) x28_2 y315 (y315.length:Int) 0 a0_0 l0_1 ((rd_T70 l0_1 x21_1).f0) ((rd_T70 l0_1 x21_1).f1))=some (r1,r2):=by first | (rw [hy315];with_reducible exact H) | (have H2_:=(Option.bind_some _ _).symm.trans H;rw [hy315];with_reducible exact H2_) | (have H2_:=(Option.bind_some _ _).symm.trans H;with_reducible exact H2_) | with_reducible exact H | (rw [hy315];exact H) | exact H
            have Ny315:=zz31 hy315
            clear hy315
            have H':=zz31 H
            clear H
            have p313:0≤(x28_2:Int):=zz29 (by first | (with_reducible assumption) | assumption)
            have q313:x28_2 < (l0_1.length:Int):=zz29 (by first | (with_reducible assumption) | assumption)
            obtain ⟨ad313,e313,hx313_0,hx313_1⟩:=at_T70 HR0_1.out x28_2 p313 q313
            obtain rfl:ad311=ad313:=(by injection e313)
            try replace hx313_0:=(HB.out.cell (World.block_lt_of_cell? w _ hx313_0)).trans hx313_0
            try replace hx313_1:=(HB.out.cell (World.block_lt_of_cell? w _ hx313_1)).trans hx313_1
            replace p313:=eq_true p313
            replace q313:=eq_true q313
            go_wp2_with (first | ((with_reducible refine gate_dst (N:=9) rfl ?_);refine box_event ?hg (N:=9) ?hd (cs:=#[.int .i64 0,.int .i64 0]) (t:=70) ?hr ?_;(case hd=>rfl);(case hg=>rfl);(case hr=>first | (go_simp;done) | (go_simp;rfl));intro gb314 hg w23 hbox hb;replace HO_4:=zz31 (Kd.R_below (by (with_reducible repeat (first | apply zz12 | apply zz13 | apply zz14));exact HO_4.out) hb);replace HO_5:=zz31 (Kd.S_below (Kd.S_elderB (by (with_reducible repeat (first | apply zz15 | apply zz16 | apply zz17));exact HO_5.out) gb314 (Nat.le_of_eq hg.symm)) hb);have BK314:=zz31 (hbox);have GW314:=zz31 ((by rw [hg];exact (zz5 (by repeat first | exact HB.out | apply zz2 | apply zz0 | apply zz1 | refine zz3 ?_ GE303.out | refine zz3 ?_ GE312.out)):w.heap.size≤gb314));replace HB:=zz31 (zz4 (by repeat first | exact HB.out | apply zz2 | apply zz0 | apply zz1 | refine zz3 ?_ GE303.out | refine zz3 ?_ GE312.out) hb);have GE314:=GW314;have NB303_314:=zz31 ((by rw [hg];exact Nat.ne_of_lt (blk_lt (g:=gb303) (o:=.cells #[.int .i64 a0_0,.slice (some ad311) l0_1.length c0_1] 30 (0,0)) (by (with_reducible repeat (first | refine zz6 ?_ _ | refine zz7 ?_ | refine zz8 ?_ _));exact BK303.out)):gb303 ≠ gb314));have NB314_303:=zz31 ((by rw [hg];exact Nat.ne_of_gt (blk_lt (g:=gb303) (o:=.cells #[.int .i64 a0_0,.slice (some ad311) l0_1.length c0_1] 30 (0,0)) (by (with_reducible repeat (first | refine zz6 ?_ _ | refine zz7 ?_ | refine zz8 ?_ _));exact BK303.out)):gb314 ≠ gb303));replace BK303:=zz31 (zz11 (g:=gb303) (o:=.cells #[.int .i64 a0_0,.slice (some ad311) l0_1.length c0_1] 30 (0,0)) (by (with_reducible repeat (first | refine zz6 ?_ _ | refine zz7 ?_ | refine zz8 ?_ _));exact BK303.out) hb);have NB312_314:=zz31 ((by rw [hg];exact Nat.ne_of_lt (blk_lt (g:=gb312) (o:=.cells #[.int .i64 ((rd_T70 l0_1 x21_1).f0),.int .i64 ((rd_T70 l0_1 x21_1).f1)] 70 (0,0)) (by (with_reducible repeat (first | refine zz6 ?_ _ | refine zz7 ?_ | refine zz8 ?_ _));exact BK312.out)):gb312 ≠ gb314));have NB314_312:=zz31 ((by rw [hg];exact Nat.ne_of_gt (blk_lt (g:=gb312) (o:=.cells #[.int .i64 ((rd_T70 l0_1 x21_1).f0),.int .i64 ((rd_T70 l0_1 x21_1).f1)] 70 (0,0)) (by (with_reducible repeat (first | refine zz6 ?_ _ | refine zz7 ?_ | refine zz8 ?_ _));exact BK312.out)):gb314 ≠ gb312));replace BK312:=zz31 (zz11 (g:=gb312) (o:=.cells #[.int .i64 ((rd_T70 l0_1 x21_1).f0),.int .i64 ((rd_T70 l0_1 x21_1).f1)] 70 (0,0)) (by (with_reducible repeat (first | refine zz6 ?_ _ | refine zz7 ?_ | refine zz8 ?_ _));exact BK312.out) hb);clear hb hbox hg;have hnb24:=NB314_303.out;have hnc24:=NB303_314.out;have hnb25:=NB314_312.out;have hnc25:=NB312_314.out;have hcz26_0:w23.cell? ⟨gb314,0,none⟩=some (.int .i64 0):=(zz9 BK314.out 0).trans rfl;have hcz26_1:w23.cell? ⟨gb314,1,none⟩=some (.int .i64 0):=(zz9 BK314.out 1).trans rfl;have hfz26_0:=zz10 BK314.out 0;have hfz26_1:=zz10 BK314.out 1) | ((with_reducible refine gate_dst (N:=42) rfl ?_);refine Kd.R_lit k76 _ 76 ?hg (N:=42) ?hd (xs:=([(⟨(rd_T70 l0_1 x28_2).f0,(rd_T70 l0_1 x28_2).f1⟩:S76),(⟨(rd_T70 l0_1 x28_2).f1,(rd_T70 l0_1 x28_2).f0⟩:S76)]:List (S76))) (inner:=[.int .i64 ((rd_T70 l0_1 x28_2).f0),.int .i64 ((rd_T70 l0_1 x28_2).f1),.int .i64 ((rd_T70 l0_1 x28_2).f1),.int .i64 ((rd_T70 l0_1 x28_2).f0)]) (ok:=fun _=>True) (okp:=fun _=>True) ?hr ?hp (fun _ hk=>hk) trivial (Below.refl _ _) (Nat.le_refl _) (by simp) ?_;(case hd=>rfl);(case hg=>rfl);(case hr=>first | (go_simp;done) | (go_simp;rfl));(case hp=>exact (Reps.c2 (show Kd.M k76 _ _ _ (⟨(rd_T70 l0_1 x28_2).f0,(rd_T70 l0_1 x28_2).f1⟩:S76) [.int .i64 ((rd_T70 l0_1 x28_2).f0),.int .i64 ((rd_T70 l0_1 x28_2).f1)] from (k76_mkM _ _ _ (⟨(rd_T70 l0_1 x28_2).f0,(rd_T70 l0_1 x28_2).f1⟩:S76) )) (Reps.c2 (show Kd.M k76 _ _ _ (⟨(rd_T70 l0_1 x28_2).f1,(rd_T70 l0_1 x28_2).f0⟩:S76) [.int .i64 ((rd_T70 l0_1 x28_2).f1),.int .i64 ((rd_T70 l0_1 x28_2).f0)] from (k76_mkM _ _ _ (⟨(rd_T70 l0_1 x28_2).f1,(rd_T70 l0_1 x28_2).f0⟩:S76) )) (Reps.none _ _))));intro v316 w27 ho28 hb hg_ hnew_;clear hg_ hnew_;(first | rw [← Ny315.out] at ho28 | (simp only [Int.reduceToNat] at ho28;rw [← Ny315.out] at ho28));replace HO_4:=zz31 (Kd.R_below (by (with_reducible repeat (first | apply zz12 | apply zz13 | apply zz14));exact (Kd.R_mono (Kd.R_far (p:=⟨gb314,1,none⟩) (Kd.R_far (p:=⟨gb314,0,none⟩) (Kd.R_types HO_4.out BK314.out (by decide)) (fun _ hk=>hk.2) (.int .i64 ((rd_T70 l0_1 x28_2).f0))) (fun _ hk=>hk.2) (.int .i64 ((rd_T70 l0_1 x28_2).f1))) (fun _ h_=>h_.1))) hb);replace HO_5:=zz31 (Kd.S_below (by (with_reducible repeat (first | apply zz15 | apply zz16 | apply zz17));exact (Kd.S_mono (Kd.S_far (p:=⟨gb314,1,none⟩) (Kd.S_far (p:=⟨gb314,0,none⟩) (Kd.S_mono HO_5.out (fun k_ hk=>(⟨hk,hk.2⟩:_∧k_ ≠ gb314))) (fun _ hk=>hk.2) (.int .i64 ((rd_T70 l0_1 x28_2).f0))) (fun _ hk=>hk.2) (.int .i64 ((rd_T70 l0_1 x28_2).f1))) (fun _ h_=>h_.1))) hb);have HO317:=zz31 (Kd.R_lower ho28 (zz5 (by repeat first | exact HB.out | apply zz2 | apply zz0 | apply zz1 | refine zz3 ?_ GE303.out | refine zz3 ?_ GE312.out | refine zz3 ?_ GE314.out)));replace BK303:=zz31 (zz11 (g:=gb303) (o:=.cells #[.int .i64 a0_0,.slice (some ad311) l0_1.length c0_1] 30 (0,0)) (by (with_reducible repeat (first | refine zz6 ?_ _ | refine zz7 ?_ | refine zz8 ?_ _));refine blk_far ?_ NB303_314.out _;(with_reducible repeat (first | refine zz6 ?_ _ | refine zz7 ?_ | refine zz8 ?_ _));refine blk_far ?_ NB303_314.out _;(with_reducible repeat (first | refine zz6 ?_ _ | refine zz7 ?_ | refine zz8 ?_ _));exact BK303.out) hb);replace BK312:=zz31 (zz11 (g:=gb312) (o:=.cells #[.int .i64 ((rd_T70 l0_1 x21_1).f0),.int .i64 ((rd_T70 l0_1 x21_1).f1)] 70 (0,0)) (by (with_reducible repeat (first | refine zz6 ?_ _ | refine zz7 ?_ | refine zz8 ?_ _));refine blk_far ?_ NB312_314.out _;(with_reducible repeat (first | refine zz6 ?_ _ | refine zz7 ?_ | refine zz8 ?_ _));refine blk_far ?_ NB312_314.out _;(with_reducible repeat (first | refine zz6 ?_ _ | refine zz7 ?_ | refine zz8 ?_ _));exact BK312.out) hb);replace BK314:=zz31 (zz11 (g:=gb314) (o:=.cells #[.int .i64 ((rd_T70 l0_1 x28_2).f0),.int .i64 ((rd_T70 l0_1 x28_2).f1)] 70 (0,0)) (by (with_reducible repeat (first | refine zz6 ?_ _ | refine zz7 ?_ | refine zz8 ?_ _));refine blk_put (cs:=#[.int .i64 ((rd_T70 l0_1 x28_2).f0),.int .i64 0]) ?_ 1 _ rfl;(with_reducible repeat (first | refine zz6 ?_ _ | refine zz7 ?_ | refine zz8 ?_ _));refine blk_put (cs:=#[.int .i64 0,.int .i64 0]) ?_ 0 _ rfl;(with_reducible repeat (first | refine zz6 ?_ _ | refine zz7 ?_ | refine zz8 ?_ _));exact BK314.out) hb);replace HB:=zz31 (zz4 (by repeat first | exact HB.out | apply zz2 | apply zz0 | apply zz1 | refine zz3 ?_ GE303.out | refine zz3 ?_ GE312.out | refine zz3 ?_ GE314.out) hb);clear hb ho28;obtain ⟨Ao29,co29,eo29⟩:=Kd.R_slice HO317.out;subst eo29))
            go_loopg [5,44] k2 (fun kq v5 v44 w'=>∃ (x5_3:List (S30)) (x44_3:Int),v44=.int .i64 x44_3∧Aside0 (impl_AllExchanges0.l2 kq t305 x5_3 l0_1 (l0_1.length:Int) x21_1 l0_1 (l0_1.length:Int) x28_2 y315 (y315.length:Int) x44_3 a0_0 l0_1 ((rd_T70 l0_1 x21_1).f0) ((rd_T70 l0_1 x21_1).f1)=some (r1,r2))∧Aside0 (kq≤k2)∧Aside0 (Kd.R (Kd.int .u16) 100 w' w.heap.size (fun _=>True) v306 t305)∧Aside0 (Kd.S k30 30 w' w.heap.size (fun k_=>k_ ≠ gb303∧k_ ≠ gb312∧k_ ≠ gb314) v5 x5_3)∧Aside0 (Kd.R k76 76 w' w.heap.size (fun _=>True) (.slice Ao29 y315.length co29) y315)∧Aside0 (w'.heap[gb303]?=some (.cells #[.int .i64 a0_0,(.slice (some ad311) l0_1.length c0_1)] 30 (0,0)))∧Aside0 (w'.heap[gb312]?=some (.cells #[.int .i64 ((rd_T70 l0_1 x21_1).f0),.int .i64 ((rd_T70 l0_1 x21_1).f1)] 70 (0,0)))∧Aside0 (w'.heap[gb314]?=some (.cells #[.int .i64 ((rd_T70 l0_1 x28_2).f0),.int .i64 ((rd_T70 l0_1 x28_2).f1)] 70 (0,0)))∧Aside0 (Below w.heap.size w w'))
            case atStart=>exact ⟨(x5_2),(0),(by first | rfl | (simp;done) | (simp [*];done)),H',⟨Nat.le_refl _⟩,⟨by (with_reducible repeat (first | apply zz12 | apply zz13 | apply zz14));exact HO_4.out⟩,⟨by (with_reducible repeat (first | apply zz15 | apply zz16 | apply zz17));exact Kd.S_mono HO_5.out (fun _ hk=>⟨hk.1.1,⟨hk.1.2,hk.2⟩⟩)⟩,⟨by (with_reducible repeat (first | apply zz12 | apply zz13 | apply zz14));exact HO317.out⟩,⟨by (with_reducible repeat (first | refine zz6 ?_ _ | refine zz7 ?_ | refine zz8 ?_ _));exact BK303.out⟩,⟨by (with_reducible repeat (first | refine zz6 ?_ _ | refine zz7 ?_ | refine zz8 ?_ _));exact BK312.out⟩,⟨by (with_reducible repeat (first | refine zz6 ?_ _ | refine zz7 ?_ | refine zz8 ?_ _));exact BK314.out⟩,⟨by repeat first | exact HB.out | apply zz2 | apply zz0 | apply zz1 | refine zz3 ?_ GE303.out | refine zz3 ?_ GE312.out | refine zz3 ?_ GE314.out⟩⟩
            case round =>
             clear H'
             try clear c1
             try clear c2
             try clear p2
             try clear c3
             try clear p3
             try clear q3
             try clear hx3
             try clear c5
             try clear c13
             try clear c13b0
             try clear c14
             try clear c14b0
             try clear c15
             try clear c15b0
             try clear c17
             try clear c20
             try clear c20b0
             try clear c21
             try clear c21b0
             try clear c22
             try clear c22b0
             try clear c24
             try clear c25
             try clear hcz12_0
             try clear hcz12_1
             try clear hcz18_0
             try clear hcz18_1
             try clear hcz19_0
             try clear hcz19_1
             try clear hcz26_0
             try clear hcz26_1
             try clear hcz6_0
             try clear hcz6_1
             try clear hcz8_0
             try clear hcz8_1
             try clear hfz12_0
             try clear hfz12_1
             try clear hfz18_0
             try clear hfz18_1
             try clear hfz19_0
             try clear hfz19_1
             try clear hfz26_0
             try clear hfz26_1
             try clear hfz6_0
             try clear hfz6_1
             try clear hfz8_0
             try clear hfz8_1
             try clear hx311_0
             try clear hx311_1
             try clear hx313_0
             try clear hx313_1
             try clear p2
             try clear p3
             try clear p311
             try clear p313
             try clear q3
             try clear q311
             try clear q313
             obtain ⟨x5_3,x44_3,rfl,HA,HK3,HO_4,HO_5,HO_42,BK303,BK312,BK314,HB⟩:=hrel
             cases gk with
             | zero=>exact absurd HA.out (by simp [impl_AllExchanges0.l2])
             | succ k3 =>
              have H:=HA.out
              clear HA
              simp only [impl_AllExchanges0.l2] at H
              by_cases c30:x44_3 < (y315.length:Int)
              ·rw [if_pos c30] at H
               have c30b0:decide (x44_3 < (y315.length:Int))=true:=decide_eq_true c30
               clear c30
               by_cases c31:0≤x44_3
               ·rw [if_pos c31] at H
                have c31b0:decide (0≤x44_3)=true:=decide_eq_true c31
                clear c31
                by_cases c32:x44_3 < (y315.length:Int)
                ·rw [if_pos c32] at H
                 have c32b0:decide (x44_3 < (y315.length:Int))=true:=decide_eq_true c32
                 clear c32
                 replace H:=zz30.mp H
                 obtain ⟨t320,A330,H⟩:=H
                 replace H:(if t320=true then ((impl_table_exchanged.f t305 ((rd_T70 l0_1 x21_1).f0) ((rd_T70 l0_1 x21_1).f1) ((rd_T76 y315 x44_3).f0) ((rd_T76 y315 x44_3).f1)).bind fun t321=>((impl_table_party.f k3 t321).bind fun bt324=>(if x5_3.length < 4398046511104 then (impl_AllExchanges0.l2 k3 t305 (x5_3 ++ [(⟨bt324.1,bt324.2⟩:S30)]) l0_1 (l0_1.length:Int) x21_1 l0_1 (l0_1.length:Int) x28_2 y315 (y315.length:Int) (wrap64 (x44_3+1)) a0_0 l0_1 ((rd_T70 l0_1 x21_1).f0) ((rd_T70 l0_1 x21_1).f1)) else (none)))) else (impl_AllExchanges0.l2 k3 t305 x5_3 l0_1 (l0_1.length:Int) x21_1 l0_1 (l0_1.length:Int) x28_2 y315 (y315.length:Int) (wrap64 (x44_3+1)) a0_0 l0_1 ((rd_T70 l0_1 x21_1).f0) ((rd_T70 l0_1 x21_1).f1)))=some (r1,r2):=H
                 have A33:=zz31 A330
                 clear A330
                 by_cases c34:t320=true
                 ·subst c34
                  have H1:((impl_table_exchanged.f t305 ((rd_T70 l0_1 x21_1).f0) ((rd_T70 l0_1 x21_1).f1) ((rd_T76 y315 x44_3).f0) ((rd_T76 y315 x44_3).f1)).bind fun t321=>((impl_table_party.f k3 t321).bind fun bt324=>(if x5_3.length < 4398046511104 then (impl_AllExchanges0.l2 k3 t305 (x5_3 ++ [(⟨bt324.1,bt324.2⟩:S30)]) l0_1 (l0_1.length:Int) x21_1 l0_1 (l0_1.length:Int) x28_2 y315 (y315.length:Int) (wrap64 (x44_3+1)) a0_0 l0_1 ((rd_T70 l0_1 x21_1).f0) ((rd_T70 l0_1 x21_1).f1)) else (none))))=some (r1,r2):=by rw [if_pos rfl] at H;exact H
                  clear H
                  have H:=H1
                  clear H1
                  replace H:=zz30.mp H
                  obtain ⟨t321,A350,H⟩:=H
                  replace H:((impl_table_party.f k3 t321).bind fun bt324=>(if x5_3.length < 4398046511104 then (impl_AllExchanges0.l2 k3 t305 (x5_3 ++ [(⟨bt324.1,bt324.2⟩:S30)]) l0_1 (l0_1.length:Int) x21_1 l0_1 (l0_1.length:Int) x28_2 y315 (y315.length:Int) (wrap64 (x44_3+1)) a0_0 l0_1 ((rd_T70 l0_1 x21_1).f0) ((rd_T70 l0_1 x21_1).f1)) else (none)))=some (r1,r2):=H
                  have A35:=zz31 A350
                  clear A350
                  replace H:=zz30.mp H
                  obtain ⟨⟨t324,t325⟩,A360,H⟩:=H
                  replace H:(if x5_3.length < 4398046511104 then (impl_AllExchanges0.l2 k3 t305 (x5_3 ++ [(⟨t324,t325⟩:S30)]) l0_1 (l0_1.length:Int) x21_1 l0_1 (l0_1.length:Int) x28_2 y315 (y315.length:Int) (wrap64 (x44_3+1)) a0_0 l0_1 ((rd_T70 l0_1 x21_1).f0) ((rd_T70 l0_1 x21_1).f1)) else (none))=some (r1,r2):=H
                  have A36:=zz31 A360
                  clear A360
                  by_cases c37:x5_3.length < 4398046511104
                  ·rw [if_pos c37] at H
                   have LMc37:=zz31 c37
                   clear c37
                   obtain ⟨y328,hy328⟩:∃ y_:List (S30),y_=(x5_3 ++ [(⟨t324,t325⟩:S30)]):=⟨_,rfl⟩
                   replace H:(impl_AllExchanges0.l2 k3 t305 y328 l0_1 (l0_1.length:Int) x21_1 l0_1 (l0_1.length:Int) x28_2 y315 (y315.length:Int) (wrap64 (x44_3+1)) a0_0 l0_1 ((rd_T70 l0_1 x21_1).f0) ((rd_T70 l0_1 x21_1).f1))=some (r1,r2):=by first | (rw [hy328];with_reducible exact H) | (have H2_:=(Option.bind_some _ _).symm.trans H;rw [hy328];with_reducible exact H2_) | (have H2_:=(Option.bind_some _ _).symm.trans H;with_reducible exact H2_) | with_reducible exact H | (rw [hy328];exact H) | exact H
                   have Ny328:=zz31 hy328
                   clear hy328
                   have H':=zz31 H
                   clear H
                   have p318:0≤(x44_3:Int):=zz29 (by first | (with_reducible assumption) | assumption)
                   have q318:x44_3 < (y315.length:Int):=zz29 (by first | (with_reducible assumption) | assumption)
                   obtain ⟨ad318,e318,hx318_0,hx318_1⟩:=at_T76 (Kd.R_reads' HO_42.out).2.2 x44_3 p318 q318
                   cases e318
                   replace p318:=eq_true p318
                   replace q318:=eq_true q318
                   go_wp2_with (first | ((with_reducible refine gate_dst (N:=11) rfl ?_);refine box_event ?hg (N:=11) ?hd (cs:=#[.int .i64 0,.int .i64 0]) (t:=76) ?hr ?_;(case hd=>rfl);(case hg=>rfl);(case hr=>first | (go_simp;done) | (go_simp;rfl));intro gb319 hg w38 hbox hb;replace HO_4:=zz31 (Kd.R_below (by (with_reducible repeat (first | apply zz12 | apply zz13 | apply zz14));exact HO_4.out) hb);replace HO_5:=zz31 (Kd.S_below (by (with_reducible repeat (first | apply zz15 | apply zz16 | apply zz17));exact HO_5.out) hb);replace HO_42:=zz31 (Kd.R_below (Kd.R_elderB (by (with_reducible repeat (first | apply zz12 | apply zz13 | apply zz14));exact HO_42.out) gb319 (Nat.le_of_eq hg.symm)) hb);have BK319:=zz31 (hbox);have GW319:=zz31 ((by rw [hg];exact (zz5 (by repeat first | exact HB.out | apply zz2 | apply zz0 | apply zz1 | refine zz3 ?_ GE303.out | refine zz3 ?_ GE312.out | refine zz3 ?_ GE314.out)):w.heap.size≤gb319));replace HB:=zz31 (zz4 (by repeat first | exact HB.out | apply zz2 | apply zz0 | apply zz1 | refine zz3 ?_ GE303.out | refine zz3 ?_ GE312.out | refine zz3 ?_ GE314.out) hb);have GE319:=GW319;have NB303_319:=zz31 ((by rw [hg];exact Nat.ne_of_lt (blk_lt (g:=gb303) (o:=.cells #[.int .i64 a0_0,.slice (some ad311) l0_1.length c0_1] 30 (0,0)) (by (with_reducible repeat (first | refine zz6 ?_ _ | refine zz7 ?_ | refine zz8 ?_ _));exact BK303.out)):gb303 ≠ gb319));have NB319_303:=zz31 ((by rw [hg];exact Nat.ne_of_gt (blk_lt (g:=gb303) (o:=.cells #[.int .i64 a0_0,.slice (some ad311) l0_1.length c0_1] 30 (0,0)) (by (with_reducible repeat (first | refine zz6 ?_ _ | refine zz7 ?_ | refine zz8 ?_ _));exact BK303.out)):gb319 ≠ gb303));replace BK303:=zz31 (zz11 (g:=gb303) (o:=.cells #[.int .i64 a0_0,.slice (some ad311) l0_1.length c0_1] 30 (0,0)) (by (with_reducible repeat (first | refine zz6 ?_ _ | refine zz7 ?_ | refine zz8 ?_ _));exact BK303.out) hb);have NB312_319:=zz31 ((by rw [hg];exact Nat.ne_of_lt (blk_lt (g:=gb312) (o:=.cells #[.int .i64 ((rd_T70 l0_1 x21_1).f0),.int .i64 ((rd_T70 l0_1 x21_1).f1)] 70 (0,0)) (by (with_reducible repeat (first | refine zz6 ?_ _ | refine zz7 ?_ | refine zz8 ?_ _));exact BK312.out)):gb312 ≠ gb319));have NB319_312:=zz31 ((by rw [hg];exact Nat.ne_of_gt (blk_lt (g:=gb312) (o:=.cells #[.int .i64 ((rd_T70 l0_1 x21_1).f0),.int .i64 ((rd_T70 l0_1 x21_1).f1)] 70 (0,0)) (by (with_reducible repeat (first | refine zz6 ?_ _ | refine zz7 ?_ | refine zz8 ?_ _));exact BK312.out)):gb319 ≠ gb312));replace BK312:=zz31 (zz11 (g:=gb312) (o:=.cells #[.int .i64 ((rd_T70 l0_1 x21_1).f0),.int .i64 ((rd_T70 l0_1 x21_1).f1)] 70 (0,0)) (by (with_reducible repeat (first | refine zz6 ?_ _ | refine zz7 ?_ | refine zz8 ?_ _));exact BK312.out) hb);have NB314_319:=zz31 ((by rw [hg];exact Nat.ne_of_lt (blk_lt (g:=gb314) (o:=.cells #[.int .i64 ((rd_T70 l0_1 x28_2).f0),.int .i64 ((rd_T70 l0_1 x28_2).f1)] 70 (0,0)) (by (with_reducible repeat (first | refine zz6 ?_ _ | refine zz7 ?_ | refine zz8 ?_ _));exact BK314.out)):gb314 ≠ gb319));have NB319_314:=zz31 ((by rw [hg];exact Nat.ne_of_gt (blk_lt (g:=gb314) (o:=.cells #[.int .i64 ((rd_T70 l0_1 x28_2).f0),.int .i64 ((rd_T70 l0_1 x28_2).f1)] 70 (0,0)) (by (with_reducible repeat (first | refine zz6 ?_ _ | refine zz7 ?_ | refine zz8 ?_ _));exact BK314.out)):gb319 ≠ gb314));replace BK314:=zz31 (zz11 (g:=gb314) (o:=.cells #[.int .i64 ((rd_T70 l0_1 x28_2).f0),.int .i64 ((rd_T70 l0_1 x28_2).f1)] 70 (0,0)) (by (with_reducible repeat (first | refine zz6 ?_ _ | refine zz7 ?_ | refine zz8 ?_ _));exact BK314.out) hb);clear hb hbox hg;have hnb39:=NB319_303.out;have hnc39:=NB303_319.out;have hnb40:=NB319_312.out;have hnc40:=NB312_319.out;have hnb41:=NB319_314.out;have hnc41:=NB314_319.out;have hcz42_0:w38.cell? ⟨gb319,0,none⟩=some (.int .i64 0):=(zz9 BK319.out 0).trans rfl;have hcz42_1:w38.cell? ⟨gb319,1,none⟩=some (.int .i64 0):=(zz9 BK319.out 1).trans rfl;have hfz42_0:=zz10 BK319.out 0;have hfz42_1:=zz10 BK319.out 1;have hnb43:=NB312_303.out;have hnc43:=NB303_312.out;have hnb44:=NB312_314.out;have hnc44:=NB314_312.out;have hcz45_0:w38.cell? ⟨gb312,0,none⟩=some (.int .i64 ((rd_T70 l0_1 x21_1).f0)):=(zz9 BK312.out 0).trans rfl;have hcz45_1:w38.cell? ⟨gb312,1,none⟩=some (.int .i64 ((rd_T70 l0_1 x21_1).f1)):=(zz9 BK312.out 1).trans rfl;have hfz45_0:=zz10 BK312.out 0;have hfz45_1:=zz10 BK312.out 1;obtain ⟨Ao46,co46,eo46⟩:=Kd.R_slice HO_4.out;subst eo46) | ((with_reducible refine gate_callee (f:=55) rfl ?_);refine goesL_ (some 57) rfl rfl Try.func55 (by kernel_rfl) rfl #[.slice Ao46 t305.length co46,.int .i64 ((rd_T70 l0_1 x21_1).f0),.int .i64 ((rd_T70 l0_1 x21_1).f1),.int .i64 ((rd_T76 y315 x44_3).f0),.int .i64 ((rd_T76 y315 x44_3).f1)] rfl (by (try simp only [zz26,zz27,zz28]);first | done | rfl | (simp only [zz24,zz25];rfl)) ?_;(with_reducible refine (impl_table_canExchange.calls _ _ t305 ((rd_T70 l0_1 x21_1).f0) ((rd_T70 l0_1 x21_1).f1) ((rd_T76 y315 x44_3).f0) ((rd_T76 y315 x44_3).f1) true _ ?side1 ?side2 A33.out).mono ?_);(case side1=>refine (Kd.R_reads' (e:=100) (base:=w.heap.size) (ok:=fun k_=>True) (n:=t305.length) (c:=co46) ?_).2.2;exact (by (with_reducible repeat (first | apply zz12 | apply zz13 | apply zz14));exact (Kd.R_mono (Kd.R_far (p:=⟨gb319,1,none⟩) (Kd.R_far (p:=⟨gb319,0,none⟩) (Kd.R_types HO_4.out BK319.out (by decide)) (fun _ hk=>hk.2) (.int .i64 ((rd_T76 y315 x44_3).f0))) (fun _ hk=>hk.2) (.int .i64 ((rd_T76 y315 x44_3).f1))) (fun _ h_=>h_.1))));(case side2=>exact (Kd.R_reads' HO_4.out).2.1);rintro e w' ⟨rfl,⟨nd,rfl⟩⟩;refine ⟨_,rfl,?_⟩) | ((with_reducible refine gate_callee (f:=56) rfl ?_);refine goesL_ (some 68) rfl rfl Try.func56 (by kernel_rfl) rfl #[.slice Ao46 t305.length co46,.int .i64 ((rd_T70 l0_1 x21_1).f0),.int .i64 ((rd_T70 l0_1 x21_1).f1),.int .i64 ((rd_T76 y315 x44_3).f0),.int .i64 ((rd_T76 y315 x44_3).f1)] rfl (by (try simp only [zz26,zz27,zz28]);first | done | rfl | (simp only [zz24,zz25];rfl)) ?_;(with_reducible refine (impl_table_exchanged.calls _ _ t305 ((rd_T70 l0_1 x21_1).f0) ((rd_T70 l0_1 x21_1).f1) ((rd_T76 y315 x44_3).f0) ((rd_T76 y315 x44_3).f1) t321 _ ?side1 ?side2 A35.out).mono ?_);(case side1=>refine (Kd.R_reads' (e:=100) (base:=w.heap.size) (ok:=fun k_=>True) (n:=t305.length) (c:=co46) ?_).2.2;exact (by (with_reducible repeat (first | apply zz12 | apply zz13 | apply zz14));exact (Kd.R_mono (Kd.R_far (p:=⟨gb319,1,none⟩) (Kd.R_far (p:=⟨gb319,0,none⟩) (Kd.R_types HO_4.out BK319.out (by decide)) (fun _ hk=>hk.2) (.int .i64 ((rd_T76 y315 x44_3).f0))) (fun _ hk=>hk.2) (.int .i64 ((rd_T76 y315 x44_3).f1))) (fun _ h_=>h_.1))));(case side2=>exact (Kd.R_reads' HO_4.out).2.1);rintro e w47 ⟨v322,rfl,ho0,hb⟩;refine ⟨_,rfl,?_⟩;replace HO_5:=zz31 (Kd.S_below (by (with_reducible repeat (first | apply zz15 | apply zz16 | apply zz17));exact (Kd.S_mono (Kd.S_far (p:=⟨gb319,1,none⟩) (Kd.S_far (p:=⟨gb319,0,none⟩) (Kd.S_types HO_5.out BK319.out (by decide)) (fun _ hk=>hk.2) (.int .i64 ((rd_T76 y315 x44_3).f0))) (fun _ hk=>hk.2) (.int .i64 ((rd_T76 y315 x44_3).f1))) (fun _ h_=>h_.1))) hb);replace HO_42:=zz31 (Kd.R_below (by (with_reducible repeat (first | apply zz12 | apply zz13 | apply zz14));exact (Kd.R_mono (Kd.R_far (p:=⟨gb319,1,none⟩) (Kd.R_far (p:=⟨gb319,0,none⟩) (Kd.R_mono HO_42.out (fun k_ hk=>(⟨hk,hk.2⟩:_∧k_ ≠ gb319))) (fun _ hk=>hk.2) (.int .i64 ((rd_T76 y315 x44_3).f0))) (fun _ hk=>hk.2) (.int .i64 ((rd_T76 y315 x44_3).f1))) (fun _ h_=>h_.1))) hb);have HO323:=zz31 (Kd.R_lower (Kd.R_new' ho0 (Kd.R_lt (by (with_reducible repeat (first | apply zz12 | apply zz13 | apply zz14));exact (Kd.R_mono (Kd.R_far (p:=⟨gb319,1,none⟩) (Kd.R_far (p:=⟨gb319,0,none⟩) (Kd.R_types HO_4.out BK319.out (by decide)) (fun _ hk=>hk.2) (.int .i64 ((rd_T76 y315 x44_3).f0))) (fun _ hk=>hk.2) (.int .i64 ((rd_T76 y315 x44_3).f1))) (fun _ h_=>h_.1))))) (zz5 (by repeat first | exact HB.out | apply zz2 | apply zz0 | apply zz1 | refine zz3 ?_ GE303.out | refine zz3 ?_ GE312.out | refine zz3 ?_ GE314.out | refine zz3 ?_ GE319.out)));replace HO_4:=zz31 (Kd.R_elder' (by (with_reducible repeat (first | apply zz12 | apply zz13 | apply zz14));exact (Kd.R_mono (Kd.R_far (p:=⟨gb319,1,none⟩) (Kd.R_far (p:=⟨gb319,0,none⟩) (Kd.R_types HO_4.out BK319.out (by decide)) (fun _ hk=>hk.2) (.int .i64 ((rd_T76 y315 x44_3).f0))) (fun _ hk=>hk.2) (.int .i64 ((rd_T76 y315 x44_3).f1))) (fun _ h_=>h_.1))) (Kd.R_base ho0) hb);replace BK303:=zz31 (zz11 (g:=gb303) (o:=.cells #[.int .i64 a0_0,.slice (some ad311) l0_1.length c0_1] 30 (0,0)) (by (with_reducible repeat (first | refine zz6 ?_ _ | refine zz7 ?_ | refine zz8 ?_ _));refine blk_far ?_ NB303_319.out _;(with_reducible repeat (first | refine zz6 ?_ _ | refine zz7 ?_ | refine zz8 ?_ _));refine blk_far ?_ NB303_319.out _;(with_reducible repeat (first | refine zz6 ?_ _ | refine zz7 ?_ | refine zz8 ?_ _));exact BK303.out) hb);replace BK312:=zz31 (zz11 (g:=gb312) (o:=.cells #[.int .i64 ((rd_T70 l0_1 x21_1).f0),.int .i64 ((rd_T70 l0_1 x21_1).f1)] 70 (0,0)) (by (with_reducible repeat (first | refine zz6 ?_ _ | refine zz7 ?_ | refine zz8 ?_ _));refine blk_far ?_ NB312_319.out _;(with_reducible repeat (first | refine zz6 ?_ _ | refine zz7 ?_ | refine zz8 ?_ _));refine blk_far ?_ NB312_319.out _;(with_reducible repeat (first | refine zz6 ?_ _ | refine zz7 ?_ | refine zz8 ?_ _));exact BK312.out) hb);replace BK314:=zz31 (zz11 (g:=gb314) (o:=.cells #[.int .i64 ((rd_T70 l0_1 x28_2).f0),.int .i64 ((rd_T70 l0_1 x28_2).f1)] 70 (0,0)) (by (with_reducible repeat (first | refine zz6 ?_ _ | refine zz7 ?_ | refine zz8 ?_ _));refine blk_far ?_ NB314_319.out _;(with_reducible repeat (first | refine zz6 ?_ _ | refine zz7 ?_ | refine zz8 ?_ _));refine blk_far ?_ NB314_319.out _;(with_reducible repeat (first | refine zz6 ?_ _ | refine zz7 ?_ | refine zz8 ?_ _));exact BK314.out) hb);replace BK319:=zz31 (zz11 (g:=gb319) (o:=.cells #[.int .i64 ((rd_T76 y315 x44_3).f0),.int .i64 ((rd_T76 y315 x44_3).f1)] 76 (0,0)) (by (with_reducible repeat (first | refine zz6 ?_ _ | refine zz7 ?_ | refine zz8 ?_ _));refine blk_put (cs:=#[.int .i64 ((rd_T76 y315 x44_3).f0),.int .i64 0]) ?_ 1 _ rfl;(with_reducible repeat (first | refine zz6 ?_ _ | refine zz7 ?_ | refine zz8 ?_ _));refine blk_put (cs:=#[.int .i64 0,.int .i64 0]) ?_ 0 _ rfl;(with_reducible repeat (first | refine zz6 ?_ _ | refine zz7 ?_ | refine zz8 ?_ _));exact BK319.out) hb);replace HB:=zz31 (zz4 (by repeat first | exact HB.out | apply zz2 | apply zz0 | apply zz1 | refine zz3 ?_ GE303.out | refine zz3 ?_ GE312.out | refine zz3 ?_ GE314.out | refine zz3 ?_ GE319.out) hb);(try clear hb);(try clear hb2);(try clear hk);(try clear hi);(try clear ho0);obtain ⟨Ao48,co48,eo48⟩:=Kd.R_slice HO323.out;subst eo48) | ((with_reducible refine gate_callee (f:=57) rfl ?_);refine goesL_ (some 69) rfl rfl Try.func57 (by kernel_rfl) rfl #[.slice Ao48 t321.length co48] rfl (by (try simp only [zz26,zz27,zz28]);first | done | rfl | (simp only [zz24,zz25];rfl)) ?_;(with_reducible refine (impl_table_party.calls k3 _ _ t321 t324 t325 _ ?side1 ?side2 A36.out).mono ?_);(case side1=>repeat (first | exact (Kd.R_reads' HO323.out).2.2 | (with_reducible refine zz18 ?_ _) | (with_reducible refine zz19 ?_ _) | (with_reducible refine zz20 ?_)));(case side2=>exact (Kd.R_reads' HO323.out).2.1);rintro e w49 ⟨v326,rfl,ho0,hb⟩;refine ⟨_,rfl,?_⟩;replace HO_4:=zz31 (Kd.R_below (by (with_reducible repeat (first | apply zz12 | apply zz13 | apply zz14));exact HO_4.out) hb);replace HO_5:=zz31 (Kd.S_elder' (by (with_reducible repeat (first | apply zz15 | apply zz16 | apply zz17));exact HO_5.out) (Kd.R_base ho0) hb);replace HO_42:=zz31 (Kd.R_below (by (with_reducible repeat (first | apply zz12 | apply zz13 | apply zz14));exact HO_42.out) hb);replace HO323:=zz31 (Kd.R_below (by (with_reducible repeat (first | apply zz12 | apply zz13 | apply zz14));exact HO323.out) hb);have HO327:=zz31 (Kd.R_lower (Kd.R_newB (Kd.R_newB ho0 (g:=gb312) (o:=.cells #[.int .i64 ((rd_T70 l0_1 x21_1).f0),.int .i64 ((rd_T70 l0_1 x21_1).f1)] 70 (0,0)) (by (with_reducible repeat (first | refine zz6 ?_ _ | refine zz7 ?_ | refine zz8 ?_ _));exact BK312.out)) (g:=gb314) (o:=.cells #[.int .i64 ((rd_T70 l0_1 x28_2).f0),.int .i64 ((rd_T70 l0_1 x28_2).f1)] 70 (0,0)) (by (with_reducible repeat (first | refine zz6 ?_ _ | refine zz7 ?_ | refine zz8 ?_ _));exact BK314.out)) (zz5 (by repeat first | exact HB.out | apply zz2 | apply zz0 | apply zz1 | refine zz3 ?_ GE303.out | refine zz3 ?_ GE312.out | refine zz3 ?_ GE314.out | refine zz3 ?_ GE319.out)));replace BK303:=zz31 (zz11 (g:=gb303) (o:=.cells #[.int .i64 a0_0,.slice (some ad311) l0_1.length c0_1] 30 (0,0)) (by (with_reducible repeat (first | refine zz6 ?_ _ | refine zz7 ?_ | refine zz8 ?_ _));exact BK303.out) hb);replace BK312:=zz31 (zz11 (g:=gb312) (o:=.cells #[.int .i64 ((rd_T70 l0_1 x21_1).f0),.int .i64 ((rd_T70 l0_1 x21_1).f1)] 70 (0,0)) (by (with_reducible repeat (first | refine zz6 ?_ _ | refine zz7 ?_ | refine zz8 ?_ _));exact BK312.out) hb);replace BK314:=zz31 (zz11 (g:=gb314) (o:=.cells #[.int .i64 ((rd_T70 l0_1 x28_2).f0),.int .i64 ((rd_T70 l0_1 x28_2).f1)] 70 (0,0)) (by (with_reducible repeat (first | refine zz6 ?_ _ | refine zz7 ?_ | refine zz8 ?_ _));exact BK314.out) hb);replace BK319:=zz31 (zz11 (g:=gb319) (o:=.cells #[.int .i64 ((rd_T76 y315 x44_3).f0),.int .i64 ((rd_T76 y315 x44_3).f1)] 76 (0,0)) (by (with_reducible repeat (first | refine zz6 ?_ _ | refine zz7 ?_ | refine zz8 ?_ _));exact BK319.out) hb);replace HB:=zz31 (zz4 (by repeat first | exact HB.out | apply zz2 | apply zz0 | apply zz1 | refine zz3 ?_ GE303.out | refine zz3 ?_ GE312.out | refine zz3 ?_ GE314.out | refine zz3 ?_ GE319.out) hb);(try clear hb);(try clear hb2);(try clear hk);(try clear hi);(try clear ho0);obtain ⟨Ao51,co51,eo51⟩:=Kd.R_slice HO327.out;subst eo51) | ((with_reducible refine gate_builtin (b:=.append) (xs:=#[.tmp 58,.tmp 70]) rfl ?_);at_builtin;refine Kd.S_append k30 (w0:=w) w.heap.size rfl (.tmp 58) (.tmp 70) 46 30 (.agg #[(.int .i64 0),(.slice none 0 0)]) 32 rfl Try.underlying46 info30 rfl (by decide) (by omega) u5 x5_3 (⟨t324,t325⟩:S30) [.int .i64 t324,.slice Ao51 t325.length co51] (fun k_=>k_ ≠ gb303∧k_ ≠ gb312∧k_ ≠ gb314) (fun k_=>some k_=(.slice Ao51 t325.length co51:Value).ownBlock) rfl rfl ?aP (fun k_ hk_=>((Kd.R_mono (ok':=fun k_=>((fun k_=>k_ ≠ gb303∧k_ ≠ gb312∧k_ ≠ gb314)) k_∧some k_ ≠ (u5:Value).ownBlock) (Kd.R_types (Kd.R_apart' (HO327.out) (Kd.S_typed HO_5.out) (by decide)) BK303.out (by decide)) (fun k_ hk=>⟨⟨hk.2,⟨hk.1.1.1.2,hk.1.1.2⟩⟩,hk.1.2⟩))).1 k_ hk_.symm) ?aF ?aO ?aB ?aS ?aL ?_;(case aP=>exact k30_mkM _ _ _ (⟨t324,t325⟩:S30) (Kd.R_mono (Kd.R_tight rfl (Kd.R_mono (ok':=fun k_=>((fun k_=>k_ ≠ gb303∧k_ ≠ gb312∧k_ ≠ gb314)) k_∧some k_ ≠ (u5:Value).ownBlock) (Kd.R_types (Kd.R_apart' (HO327.out) (Kd.S_typed HO_5.out) (by decide)) BK303.out (by decide)) (fun k_ hk=>⟨⟨hk.2,⟨hk.1.1.1.2,hk.1.1.2⟩⟩,hk.1.2⟩))) (fun _ h_=>h_)));(case aB=>exact (by repeat first | exact HB.out | apply zz2 | apply zz0 | apply zz1 | refine zz3 ?_ GE303.out | refine zz3 ?_ GE312.out | refine zz3 ?_ GE314.out | refine zz3 ?_ GE319.out));(case aF=>exact (fun k_ hk=>⟨Kd.freshB (g:=gb303) (o:=.cells #[.int .i64 a0_0,.slice (some ad311) l0_1.length c0_1] 30 (0,0)) (by (with_reducible repeat (first | refine zz6 ?_ _ | refine zz7 ?_ | refine zz8 ?_ _));exact BK303.out) k_ hk,Kd.freshB (g:=gb312) (o:=.cells #[.int .i64 ((rd_T70 l0_1 x21_1).f0),.int .i64 ((rd_T70 l0_1 x21_1).f1)] 70 (0,0)) (by (with_reducible repeat (first | refine zz6 ?_ _ | refine zz7 ?_ | refine zz8 ?_ _));exact BK312.out) k_ hk,Kd.freshB (g:=gb314) (o:=.cells #[.int .i64 ((rd_T70 l0_1 x28_2).f0),.int .i64 ((rd_T70 l0_1 x28_2).f1)] 70 (0,0)) (by (with_reducible repeat (first | refine zz6 ?_ _ | refine zz7 ?_ | refine zz8 ?_ _));exact BK314.out) k_ hk⟩));(case aO=>exact (by (with_reducible repeat (first | apply zz15 | apply zz16 | apply zz17));exact Kd.S_mono HO_5.out (fun k_ hk=>⟨⟨hk.1.1,⟨hk.1.2.1,hk.1.2.2⟩⟩,fun e_=>hk.2 e_⟩)));(case aS=>exact (zz5 (by repeat first | exact HB.out | apply zz2 | apply zz0 | apply zz1 | refine zz3 ?_ GE303.out | refine zz3 ?_ GE312.out | refine zz3 ?_ GE314.out | refine zz3 ?_ GE319.out)));(case aL=>have:=LMc37.out;omega);intro v329 w50 ho hb hg hat;rw [← Ny328.out] at ho;replace HO_4:=zz31 (Kd.R_over' (by (with_reducible repeat (first | apply zz12 | apply zz13 | apply zz14));exact HO_4.out) (Kd.S_typed (by (with_reducible repeat (first | apply zz15 | apply zz16 | apply zz17));exact HO_5.out)) (by decide) hg);replace HO_42:=zz31 (Kd.R_over' (by (with_reducible repeat (first | apply zz12 | apply zz13 | apply zz14));exact HO_42.out) (Kd.S_typed (by (with_reducible repeat (first | apply zz15 | apply zz16 | apply zz17));exact HO_5.out)) (by decide) hg);replace BK303:=zz31 (blk_grown (g:=gb303) (o:=.cells #[.int .i64 a0_0,.slice (some ad311) l0_1.length c0_1] 30 (0,0)) (by (with_reducible repeat (first | refine zz6 ?_ _ | refine zz7 ?_ | refine zz8 ?_ _));exact BK303.out) hg (Kd.S_away HO_5.out (fun _ hk=>hk.1.1)));replace BK312:=zz31 (blk_grown (g:=gb312) (o:=.cells #[.int .i64 ((rd_T70 l0_1 x21_1).f0),.int .i64 ((rd_T70 l0_1 x21_1).f1)] 70 (0,0)) (by (with_reducible repeat (first | refine zz6 ?_ _ | refine zz7 ?_ | refine zz8 ?_ _));exact BK312.out) hg (Kd.S_ne HO_5.out BK312.out (by decide)));replace BK314:=zz31 (blk_grown (g:=gb314) (o:=.cells #[.int .i64 ((rd_T70 l0_1 x28_2).f0),.int .i64 ((rd_T70 l0_1 x28_2).f1)] 70 (0,0)) (by (with_reducible repeat (first | refine zz6 ?_ _ | refine zz7 ?_ | refine zz8 ?_ _));exact BK314.out) hg (Kd.S_ne HO_5.out BK314.out (by decide)));replace BK319:=zz31 (blk_grown (g:=gb319) (o:=.cells #[.int .i64 ((rd_T76 y315 x44_3).f0),.int .i64 ((rd_T76 y315 x44_3).f1)] 76 (0,0)) (by (with_reducible repeat (first | refine zz6 ?_ _ | refine zz7 ?_ | refine zz8 ?_ _));exact BK319.out) hg (Kd.S_ne HO_5.out BK319.out (by decide)));replace HO323:=zz31 (Kd.R_over' (by (with_reducible repeat (first | apply zz12 | apply zz13 | apply zz14));exact HO323.out) (Kd.S_typed (by (with_reducible repeat (first | apply zz15 | apply zz16 | apply zz17));exact HO_5.out)) (by decide) hg);replace HB:=zz31 (hb);have HO330:=zz31 (ho);clear HO_5 HO327;clear ho hb hg hat))
                   go_roundg k3
                   case measure=>have:=HK1.out;have:=HK2.out;have:=HK3.out;omega
                   case rel=>exact ⟨(y328),(wrap64 (x44_3+1)),(by first | rfl | (simp;done) | (simp [*];done)),H',⟨by have:=HK1.out;have:=HK2.out;have:=HK3.out;omega⟩,⟨by (with_reducible repeat (first | apply zz12 | apply zz13 | apply zz14));exact Kd.R_mono HO_4.out (fun _ hk=>trivial)⟩,⟨by (with_reducible repeat (first | apply zz15 | apply zz16 | apply zz17));exact HO330.out⟩,⟨by (with_reducible repeat (first | apply zz12 | apply zz13 | apply zz14));exact Kd.R_mono HO_42.out (fun _ hk=>trivial)⟩,⟨by (with_reducible repeat (first | refine zz6 ?_ _ | refine zz7 ?_ | refine zz8 ?_ _));exact BK303.out⟩,⟨by (with_reducible repeat (first | refine zz6 ?_ _ | refine zz7 ?_ | refine zz8 ?_ _));exact BK312.out⟩,⟨by (with_reducible repeat (first | refine zz6 ?_ _ | refine zz7 ?_ | refine zz8 ?_ _));exact BK314.out⟩,⟨by repeat first | exact HB.out | apply zz2 | apply zz0 | apply zz1 | refine zz3 ?_ GE303.out | refine zz3 ?_ GE312.out | refine zz3 ?_ GE314.out | refine zz3 ?_ GE319.out⟩⟩
                  ·rw [if_neg c37] at H
                   exact absurd H (by simp)
                 ·replace c34:=Bool.eq_false_iff.mpr c34
                  subst c34
                  have H1:(impl_AllExchanges0.l2 k3 t305 x5_3 l0_1 (l0_1.length:Int) x21_1 l0_1 (l0_1.length:Int) x28_2 y315 (y315.length:Int) (wrap64 (x44_3+1)) a0_0 l0_1 ((rd_T70 l0_1 x21_1).f0) ((rd_T70 l0_1 x21_1).f1))=some (r1,r2):=by rw [if_neg (show ¬ (false=true) by decide)] at H;exact H
                  clear H
                  have H:=H1
                  clear H1
                  have H':=zz31 H
                  clear H
                  have p318:0≤(x44_3:Int):=zz29 (by first | (with_reducible assumption) | assumption)
                  have q318:x44_3 < (y315.length:Int):=zz29 (by first | (with_reducible assumption) | assumption)
                  obtain ⟨ad318,e318,hx318_0,hx318_1⟩:=at_T76 (Kd.R_reads' HO_42.out).2.2 x44_3 p318 q318
                  cases e318
                  replace p318:=eq_true p318
                  replace q318:=eq_true q318
                  go_wp2_with (first | ((with_reducible refine gate_dst (N:=11) rfl ?_);refine box_event ?hg (N:=11) ?hd (cs:=#[.int .i64 0,.int .i64 0]) (t:=76) ?hr ?_;(case hd=>rfl);(case hg=>rfl);(case hr=>first | (go_simp;done) | (go_simp;rfl));intro gb319 hg w52 hbox hb;replace HO_4:=zz31 (Kd.R_below (by (with_reducible repeat (first | apply zz12 | apply zz13 | apply zz14));exact HO_4.out) hb);replace HO_5:=zz31 (Kd.S_below (by (with_reducible repeat (first | apply zz15 | apply zz16 | apply zz17));exact HO_5.out) hb);replace HO_42:=zz31 (Kd.R_below (Kd.R_elderB (by (with_reducible repeat (first | apply zz12 | apply zz13 | apply zz14));exact HO_42.out) gb319 (Nat.le_of_eq hg.symm)) hb);have BK319:=zz31 (hbox);have GW319:=zz31 ((by rw [hg];exact (zz5 (by repeat first | exact HB.out | apply zz2 | apply zz0 | apply zz1 | refine zz3 ?_ GE303.out | refine zz3 ?_ GE312.out | refine zz3 ?_ GE314.out)):w.heap.size≤gb319));replace HB:=zz31 (zz4 (by repeat first | exact HB.out | apply zz2 | apply zz0 | apply zz1 | refine zz3 ?_ GE303.out | refine zz3 ?_ GE312.out | refine zz3 ?_ GE314.out) hb);have GE319:=GW319;have NB303_319:=zz31 ((by rw [hg];exact Nat.ne_of_lt (blk_lt (g:=gb303) (o:=.cells #[.int .i64 a0_0,.slice (some ad311) l0_1.length c0_1] 30 (0,0)) (by (with_reducible repeat (first | refine zz6 ?_ _ | refine zz7 ?_ | refine zz8 ?_ _));exact BK303.out)):gb303 ≠ gb319));have NB319_303:=zz31 ((by rw [hg];exact Nat.ne_of_gt (blk_lt (g:=gb303) (o:=.cells #[.int .i64 a0_0,.slice (some ad311) l0_1.length c0_1] 30 (0,0)) (by (with_reducible repeat (first | refine zz6 ?_ _ | refine zz7 ?_ | refine zz8 ?_ _));exact BK303.out)):gb319 ≠ gb303));replace BK303:=zz31 (zz11 (g:=gb303) (o:=.cells #[.int .i64 a0_0,.slice (some ad311) l0_1.length c0_1] 30 (0,0)) (by (with_reducible repeat (first | refine zz6 ?_ _ | refine zz7 ?_ | refine zz8 ?_ _));exact BK303.out) hb);have NB312_319:=zz31 ((by rw [hg];exact Nat.ne_of_lt (blk_lt (g:=gb312) (o:=.cells #[.int .i64 ((rd_T70 l0_1 x21_1).f0),.int .i64 ((rd_T70 l0_1 x21_1).f1)] 70 (0,0)) (by (with_reducible repeat (first | refine zz6 ?_ _ | refine zz7 ?_ | refine zz8 ?_ _));exact BK312.out)):gb312 ≠ gb319));have NB319_312:=zz31 ((by rw [hg];exact Nat.ne_of_gt (blk_lt (g:=gb312) (o:=.cells #[.int .i64 ((rd_T70 l0_1 x21_1).f0),.int .i64 ((rd_T70 l0_1 x21_1).f1)] 70 (0,0)) (by (with_reducible repeat (first | refine zz6 ?_ _ | refine zz7 ?_ | refine zz8 ?_ _));exact BK312.out)):gb319 ≠ gb312));replace BK312:=zz31 (zz11 (g:=gb312) (o:=.cells #[.int .i64 ((rd_T70 l0_1 x21_1).f0),.int .i64 ((rd_T70 l0_1 x21_1).f1)] 70 (0,0)) (by (with_reducible repeat (first | refine zz6 ?_ _ | refine zz7 ?_ | refine zz8 ?_ _));exact BK312.out) hb);have NB314_319:=zz31 ((by rw [hg];exact Nat.ne_of_lt (blk_lt (g:=gb314) (o:=.cells #[.int .i64 ((rd_T70 l0_1 x28_2).f0),.int .i64 ((rd_T70 l0_1 x28_2).f1)] 70 (0,0)) (by (with_reducible repeat (first | refine zz6 ?_ _ | refine zz7 ?_ | refine zz8 ?_ _));exact BK314.out)):gb314 ≠ gb319));have NB319_314:=zz31 ((by rw [hg];exact Nat.ne_of_gt (blk_lt (g:=gb314) (o:=.cells #[.int .i64 ((rd_T70 l0_1 x28_2).f0),.int .i64 ((rd_T70 l0_1 x28_2).f1)] 70 (0,0)) (by (with_reducible repeat (first | refine zz6 ?_ _ | refine zz7 ?_ | refine zz8 ?_ _));exact BK314.out)):gb319 ≠ gb314));replace BK314:=zz31 (zz11 (g:=gb314) (o:=.cells #[.int .i64 ((rd_T70 l0_1 x28_2).f0),.int .i64 ((rd_T70 l0_1 x28_2).f1)] 70 (0,0)) (by (with_reducible repeat (first | refine zz6 ?_ _ | refine zz7 ?_ | refine zz8 ?_ _));exact BK314.out) hb);clear hb hbox hg;have hnb53:=NB319_303.out;have hnc53:=NB303_319.out;have hnb54:=NB319_312.out;have hnc54:=NB312_319.out;have hnb55:=NB319_314.out;have hnc55:=NB314_319.out;have hcz56_0:w52.cell? ⟨gb319,0,none⟩=some (.int .i64 0):=(zz9 BK319.out 0).trans rfl;have hcz56_1:w52.cell? ⟨gb319,1,none⟩=some (.int .i64 0):=(zz9 BK319.out 1).trans rfl;have hfz56_0:=zz10 BK319.out 0;have hfz56_1:=zz10 BK319.out 1;have hnb57:=NB312_303.out;have hnc57:=NB303_312.out;have hnb58:=NB312_314.out;have hnc58:=NB314_312.out;have hcz59_0:w52.cell? ⟨gb312,0,none⟩=some (.int .i64 ((rd_T70 l0_1 x21_1).f0)):=(zz9 BK312.out 0).trans rfl;have hcz59_1:w52.cell? ⟨gb312,1,none⟩=some (.int .i64 ((rd_T70 l0_1 x21_1).f1)):=(zz9 BK312.out 1).trans rfl;have hfz59_0:=zz10 BK312.out 0;have hfz59_1:=zz10 BK312.out 1;obtain ⟨Ao60,co60,eo60⟩:=Kd.R_slice HO_4.out;subst eo60) | ((with_reducible refine gate_callee (f:=55) rfl ?_);refine goesL_ (some 57) rfl rfl Try.func55 (by kernel_rfl) rfl #[.slice Ao60 t305.length co60,.int .i64 ((rd_T70 l0_1 x21_1).f0),.int .i64 ((rd_T70 l0_1 x21_1).f1),.int .i64 ((rd_T76 y315 x44_3).f0),.int .i64 ((rd_T76 y315 x44_3).f1)] rfl (by (try simp only [zz26,zz27,zz28]);first | done | rfl | (simp only [zz24,zz25];rfl)) ?_;(with_reducible refine (impl_table_canExchange.calls _ _ t305 ((rd_T70 l0_1 x21_1).f0) ((rd_T70 l0_1 x21_1).f1) ((rd_T76 y315 x44_3).f0) ((rd_T76 y315 x44_3).f1) false _ ?side1 ?side2 A33.out).mono ?_);(case side1=>refine (Kd.R_reads' (e:=100) (base:=w.heap.size) (ok:=fun k_=>True) (n:=t305.length) (c:=co60) ?_).2.2;exact (by (with_reducible repeat (first | apply zz12 | apply zz13 | apply zz14));exact (Kd.R_mono (Kd.R_far (p:=⟨gb319,1,none⟩) (Kd.R_far (p:=⟨gb319,0,none⟩) (Kd.R_types HO_4.out BK319.out (by decide)) (fun _ hk=>hk.2) (.int .i64 ((rd_T76 y315 x44_3).f0))) (fun _ hk=>hk.2) (.int .i64 ((rd_T76 y315 x44_3).f1))) (fun _ h_=>h_.1))));(case side2=>exact (Kd.R_reads' HO_4.out).2.1);rintro e w' ⟨rfl,⟨nd,rfl⟩⟩;refine ⟨_,rfl,?_⟩))
                  go_roundg k3
                  case measure=>have:=HK1.out;have:=HK2.out;have:=HK3.out;omega
                  case rel=>exact ⟨(x5_3),(wrap64 (x44_3+1)),(by first | rfl | (simp;done) | (simp [*];done)),H',⟨by have:=HK1.out;have:=HK2.out;have:=HK3.out;omega⟩,⟨by (with_reducible repeat (first | apply zz12 | apply zz13 | apply zz14));exact Kd.R_mono (Kd.R_far (p:=⟨gb319,1,none⟩) (Kd.R_far (p:=⟨gb319,0,none⟩) (Kd.R_types HO_4.out BK319.out (by decide)) (fun _ hk=>hk.2) (.int .i64 ((rd_T76 y315 x44_3).f0))) (fun _ hk=>hk.2) (.int .i64 ((rd_T76 y315 x44_3).f1))) (fun _ hk=>trivial)⟩,⟨by (with_reducible repeat (first | apply zz15 | apply zz16 | apply zz17));exact Kd.S_mono (Kd.S_far (p:=⟨gb319,1,none⟩) (Kd.S_far (p:=⟨gb319,0,none⟩) (Kd.S_types HO_5.out BK319.out (by decide)) (fun _ hk=>hk.2) (.int .i64 ((rd_T76 y315 x44_3).f0))) (fun _ hk=>hk.2) (.int .i64 ((rd_T76 y315 x44_3).f1))) (fun _ hk=>⟨hk.1.1,⟨hk.1.2.1,hk.1.2.2⟩⟩)⟩,⟨by (with_reducible repeat (first | apply zz12 | apply zz13 | apply zz14));exact Kd.R_mono (Kd.R_far (p:=⟨gb319,1,none⟩) (Kd.R_far (p:=⟨gb319,0,none⟩) (Kd.R_mono HO_42.out (fun k_ hk=>(⟨hk,hk.2⟩:_∧k_ ≠ gb319))) (fun _ hk=>hk.2) (.int .i64 ((rd_T76 y315 x44_3).f0))) (fun _ hk=>hk.2) (.int .i64 ((rd_T76 y315 x44_3).f1))) (fun _ hk=>trivial)⟩,⟨by (with_reducible repeat (first | refine zz6 ?_ _ | refine zz7 ?_ | refine zz8 ?_ _));refine blk_far ?_ NB303_319.out _;(with_reducible repeat (first | refine zz6 ?_ _ | refine zz7 ?_ | refine zz8 ?_ _));refine blk_far ?_ NB303_319.out _;(with_reducible repeat (first | refine zz6 ?_ _ | refine zz7 ?_ | refine zz8 ?_ _));exact BK303.out⟩,⟨by (with_reducible repeat (first | refine zz6 ?_ _ | refine zz7 ?_ | refine zz8 ?_ _));refine blk_far ?_ NB312_319.out _;(with_reducible repeat (first | refine zz6 ?_ _ | refine zz7 ?_ | refine zz8 ?_ _));refine blk_far ?_ NB312_319.out _;(with_reducible repeat (first | refine zz6 ?_ _ | refine zz7 ?_ | refine zz8 ?_ _));exact BK312.out⟩,⟨by (with_reducible repeat (first | refine zz6 ?_ _ | refine zz7 ?_ | refine zz8 ?_ _));refine blk_far ?_ NB314_319.out _;(with_reducible repeat (first | refine zz6 ?_ _ | refine zz7 ?_ | refine zz8 ?_ _));refine blk_far ?_ NB314_319.out _;(with_reducible repeat (first | refine zz6 ?_ _ | refine zz7 ?_ | refine zz8 ?_ _));exact BK314.out⟩,⟨by repeat first | exact HB.out | apply zz2 | apply zz0 | apply zz1 | refine zz3 ?_ GE303.out | refine zz3 ?_ GE312.out | refine zz3 ?_ GE314.out | refine zz3 ?_ GE319.out⟩⟩
                ·rw [if_neg c32] at H
                 exact absurd H (by simp)
               ·rw [if_neg c31] at H
                exact absurd H (by simp)
              ·rw [if_neg c30] at H
               have c30b0:decide (x44_3 < (y315.length:Int))=false:=decide_eq_false c30
               clear c30
               have H':=zz31 H
               clear H
               go_wp2
               go_roundg k3
               case measure=>have:=HK1.out;have:=HK2.out;have:=HK3.out;omega
               case rel=>exact ⟨(x5_3),(wrap64 (x28_2+1)),(by first | rfl | (simp;done) | (simp [*];done)),H',⟨by have:=HK1.out;have:=HK2.out;have:=HK3.out;omega⟩,⟨by (with_reducible repeat (first | apply zz12 | apply zz13 | apply zz14));exact HO_4.out⟩,⟨by (with_reducible repeat (first | apply zz15 | apply zz16 | apply zz17));exact Kd.S_mono HO_5.out (fun _ hk=>⟨hk.1,hk.2.1⟩)⟩,⟨by (with_reducible repeat (first | refine zz6 ?_ _ | refine zz7 ?_ | refine zz8 ?_ _));exact BK303.out⟩,⟨by (with_reducible repeat (first | refine zz6 ?_ _ | refine zz7 ?_ | refine zz8 ?_ _));exact BK312.out⟩,⟨by repeat first | exact HB.out | apply zz2 | apply zz0 | apply zz1 | refine zz3 ?_ GE303.out | refine zz3 ?_ GE312.out | refine zz3 ?_ GE314.out⟩⟩
           ·rw [if_neg c22] at H
            exact absurd H (by simp)
          ·rw [if_neg c21] at H
           exact absurd H (by simp)
         ·rw [if_neg c20] at H
          have c20b0:decide (x28_2 < (l0_1.length:Int))=false:=decide_eq_false c20
          clear c20
          have H':=zz31 H
          clear H
          go_wp2
          go_roundg k2
          case measure=>have:=HK1.out;have:=HK2.out;omega
          case rel=>exact ⟨(x5_2),(wrap64 (x21_1+1)),(by first | rfl | (simp;done) | (simp [*];done)),H',⟨by have:=HK1.out;have:=HK2.out;omega⟩,⟨by (with_reducible repeat (first | apply zz12 | apply zz13 | apply zz14));exact HO_4.out⟩,⟨by (with_reducible repeat (first | apply zz15 | apply zz16 | apply zz17));exact Kd.S_mono HO_5.out (fun _ hk=>hk.1)⟩,⟨by (with_reducible repeat (first | refine zz6 ?_ _ | refine zz7 ?_ | refine zz8 ?_ _));exact BK303.out⟩,⟨by repeat first | exact HB.out | apply zz2 | apply zz0 | apply zz1 | refine zz3 ?_ GE303.out | refine zz3 ?_ GE312.out⟩⟩
      ·rw [if_neg c15] at H
       exact absurd H (by simp)
     ·rw [if_neg c14] at H
      exact absurd H (by simp)
    ·rw [if_neg c13] at H
     have c13b0:decide (x21_1 < (l0_1.length:Int))=false:=decide_eq_false c13
     clear c13
     simp only [Option.some.injEq,Prod.mk.injEq] at H
     obtain ⟨rfl,rfl⟩:=H
     have HOK2:=zz31 (HOK.out rfl)
     obtain ⟨A5,cc5,e5⟩:=Kd.S_slice HO_5.out
     subst e5
     obtain ⟨ea,ec,hX1,hX2,hX3⟩:=endX HO_5.out HOK2.out
     have X1:=zz31 hX1
     have X2:=zz31 hX2
     have X3:=zz31 hX3
     have XN:=zz31 (show x5_1.length < 4611686018427387904 from by have h:=HOK2.out;unfold okX at h;rw [Bool.and_eq_true,decide_eq_true_eq] at h;exact h.1)
     clear hX1 hX2 hX3
     go_wp2_with (first | (go_at_call 58; refine (sortX_calls x5_1 ea ec A5 cc5 _ w.heap.size _ X1.out X2.out XN.out).mono ?_; rintro e w71 ⟨rfl,ds,hp,hs,hR1,hg1⟩; have Y1:=zz31 hp; have Y2:=zz31 hs; have Y3:=zz31 hR1; have Y4:=zz31 hg1; clear hp hs hR1 hg1) | (go_at_call 59; refine (compactX_calls x5_1 ea ec A5 cc5 ds _ w.heap.size _ Y1.out Y3.out (fun i=>⟨(X2.out i).1,fun w3 hg=>(X2.out i).2 w3 (grown_trans Y4.out hg)⟩)).mono ?_; rintro e w72 ⟨v78,rfl,hR2,hv2,hg2⟩; have Z1:=zz31 hR2; have Z2:=zz31 hv2; have Z3:=zz31 (grown_trans Y4.out hg2); clear hR2 hv2 hg2) | (fail "no arm"))
     go_ret2
     have HB2:Below w.heap.size w w72:=below_own HB.out Z3.out (own_ge X1.out) HB.out.size
     exact ⟨_,by first | rfl | (simp [errW_none,errW_some] <;> rfl) | (simp [*,errW_none,errW_some] <;> rfl),Kd.S_mono (X3.out ds _ v78 Y1.out Y2.out Z3.out Z2.out Z1.out) (fun _ _=>trivial),HB2⟩
 ·replace c3:=Bool.eq_false_iff.mpr c3
  subst c3
  have H1:(some (([]:List (S30)),false))=some (r1,r2):=by rw [if_neg (show ¬ (false=true) by decide)] at H;exact H
  clear H
  have H:=H1
  clear H1
  simp only [Option.some.injEq,Prod.mk.injEq] at H
  obtain ⟨rfl,rfl⟩:=H
  go_enter Try.func25,Try.ntmps25
  go_wp2_with (first | ((with_reducible refine gate_dst (N:=1) rfl ?_);refine box_event ?hg (N:=1) ?hd (cs:=#[.int .i64 a0_0,.slice A0_1 l0_1.length c0_1]) (t:=30) ?hr ?_;(case hd=>rfl);(case hg=>rfl);(case hr=>first | (go_simp;done) | (go_simp;rfl));intro gb303 hg w61 hbox hb;have BK303:=zz31 (hbox);have GW303:=zz31 ((by rw [hg];exact (zz5 (by repeat first | exact HB.out | apply zz2 | apply zz0 | apply zz1)):w.heap.size≤gb303));replace HB:=zz31 (zz4 (by repeat first | exact HB.out | apply zz2 | apply zz0 | apply zz1) hb);have GE303:=GW303;clear hb hbox hg;have hcz62_0:w61.cell? ⟨gb303,0,none⟩=some (.int .i64 a0_0):=(zz9 BK303.out 0).trans rfl;have hcz62_1:w61.cell? ⟨gb303,1,none⟩=some (.slice A0_1 l0_1.length c0_1):=(zz9 BK303.out 1).trans rfl;have hfz62_0:=zz10 BK303.out 0;have hfz62_1:=zz10 BK303.out 1) | ((with_reducible refine gate_callee (f:=50) rfl ?_);refine goesL_ (some 13) rfl rfl Try.func50 (by kernel_rfl) rfl #[.agg #[.int .i64 a0_0,.slice A0_1 l0_1.length c0_1]] rfl (by (try simp only [zz26,zz27,zz28]);first | done | rfl | (simp only [zz24,zz25];rfl)) ?_;(with_reducible refine (impl_IsParty.calls k a0_0 _ _ l0_1 false _ ?side1 ?side2 A2.out).mono ?_);(case side1=>repeat (first | exact (Kd.C_below HR0_1.out HB.out) | (with_reducible refine zz18 ?_ _) | (with_reducible refine zz19 ?_ _) | (with_reducible refine zz20 ?_)));(case side2=>exact HC0_1.out);rintro e w63 ⟨rfl,hb⟩;refine ⟨_,rfl,?_⟩;replace BK303:=zz31 (zz11 (g:=gb303) (o:=.cells #[.int .i64 a0_0,.slice A0_1 l0_1.length c0_1] 30 (0,0)) (by (with_reducible repeat (first | refine zz6 ?_ _ | refine zz7 ?_ | refine zz8 ?_ _));exact BK303.out) hb);replace HB:=zz31 (zz4 (by repeat first | exact HB.out | apply zz2 | apply zz0 | apply zz1 | refine zz3 ?_ GE303.out) hb);(try clear hb);(try clear hb2);(try clear hk);(try clear hi)))
  go_ret2
  exact ⟨_,by first | rfl | (simp [errW_none,errW_some] <;> rfl) | (simp [*,errW_none,errW_some] <;> rfl),by first | exact Kd.S_nil _ _ _ _ _ | exact Kd.N_nil _ _ _ _ _ | exact Kd.V_nil _ _ _ _ _ | exact Kd.Q_nil _ _ _ _ _ | exact Kd.R_nil _ _ _ _ _,by repeat first | exact HB.out | apply zz2 | apply zz0 | apply zz1 | refine zz3 ?_ GE303.out⟩

def impl_AllExchanges.f (k:Nat) (a0_0:Int) (l0_1:List (S70)):Option ((List (S30)) × Bool):=(impl_AllExchanges0.f k a0_0 l0_1).bind fun r=>if r.2=true then (if okX r.1=true then some (cpX (srtX r.1),true) else none) else some r
theorem impl_AllExchanges.mono:∀ a0 a1 k,LeO (impl_AllExchanges.f k a0 a1) (impl_AllExchanges.f (k+1) a0 a1):=fun a0 a1 k=>LeO.bind (impl_AllExchanges0.mono a0 a1 k) (fun _=>LeO.refl _)
theorem impl_AllExchanges.calls (k:Nat) (a0_0:Int) (A0_1:Option Addr) (c0_1:Nat) (l0_1:List (S70)) (r1:List (S30)) (r2:Bool) (w:World) (hr0_1:Kd.C k70 w A0_1 l0_1.length l0_1) (hc0_1:l0_1.length≤c0_1) (h:impl_AllExchanges.f k a0_0 l0_1=some (r1,r2)) :
  Calls Try.prog 25 #[.agg #[.int .i64 a0_0,.slice A0_1 l0_1.length c0_1]] w fun e w'=>∃ v0_:Value,e=.returned (.tuple #[v0_,.bool r2])∧Kd.S k30 30 w' w.heap.size (fun _=>True) v0_ r1∧Below w.heap.size w w':=by
 unfold impl_AllExchanges.f at h
 obtain ⟨⟨s1,s2⟩,hs,h⟩:=zz30.mp h
 by_cases h2:s2=true
 ·subst h2
  have h:(if okX s1=true then some (cpX (srtX s1),true) else none)=some (r1,r2):=h
  by_cases ho:okX s1=true
  ·rw [if_pos ho] at h
   injection h with h
   injection h with e1 e2
   subst e1 e2
   have hc:=impl_AllExchanges0.calls k a0_0 A0_1 c0_1 l0_1 s1 true w hr0_1 hc0_1 (fun _=>ho) hs
   rw [if_pos rfl] at hc
   exact hc
  ·rw [if_neg ho] at h
   cases h
 ·have h:(if s2=true then (if okX s1=true then some (cpX (srtX s1),true) else none) else some (s1,s2))=some (r1,r2):=h
  rw [if_neg h2] at h
  injection h with h
  injection h with e1 e2
  subst e1 e2
  have hc:=impl_AllExchanges0.calls k a0_0 A0_1 c0_1 l0_1 s1 s2 w hr0_1 hc0_1 (fun h3=>absurd h3 h2) hs
  rw [if_neg h2] at hc
  exact hc

/-! ### laws_eqPartyS: function 26 -/
def laws_eqPartyS.l0:Nat→List (S30)→List (S30)→Int→Option (Bool)
 | 0,_,_,_=>none
 | k+1,x0,x1,x5=>if x5 < (x0.length:Int) then (if 0≤x5 then (if x5 < (x1.length:Int) then ((laws_eqParty.f k ((rd_T30 x0 x5).f0) ((rd_T30 x0 x5).f1) ((rd_T30 x1 x5).f0) ((rd_T30 x1 x5).f1)).bind fun t333=>(if t333=true then (laws_eqPartyS.l0 k x0 x1 (wrap64 (x5+1))) else (some false))) else (none)) else (none)) else (some true)
def laws_eqPartyS.f (k:Nat) (l0:List (S30)) (l1:List (S30)):Option (Bool):=if (l0.length:Int)=(l1.length:Int) then (laws_eqPartyS.l0 k l0 l1 0) else (some false)
theorem laws_eqPartyS.mono_l:∀ k,(∀ y0 y1 y2,LeO (laws_eqPartyS.l0 k y0 y1 y2) (laws_eqPartyS.l0 (k+1) y0 y1 y2))
 | 0=>fun _ _ _ r h=>by simp [laws_eqPartyS.l0] at h
 | k+1=>by
  have ih0:=laws_eqPartyS.mono_l k
  ·intro y0 y1 y2
   unfold laws_eqPartyS.l0
   repeat' first
   | (with_reducible exact ih0 _ _ _)
   | (with_reducible exact laws_eqParty.mono _ _ _ _ _)
   | (with_reducible exact LeO.refl _)
   | (with_reducible exact LeO.none _)
   | (with_reducible refine LeO.ite ?_ ?_)
   | (with_reducible refine LeO.bind ?_ (fun _=>?_))
   | exact ih0 _ _ _
   | exact laws_eqParty.mono _ _ _ _ _
   | exact LeO.none _
   | refine LeO.ite ?_ ?_
   | refine LeO.bind ?_ (fun _=>?_)
theorem laws_eqPartyS.mono:∀ a0 a1 k,LeO (laws_eqPartyS.f k a0 a1) (laws_eqPartyS.f (k+1) a0 a1):=by
 intro a0 a1 k
 have ih0:=laws_eqPartyS.mono_l k
 unfold laws_eqPartyS.f
 repeat' first
   | (with_reducible exact ih0 _ _ _)
   | (with_reducible exact laws_eqParty.mono _ _ _ _ _)
   | (with_reducible exact LeO.refl _)
   | (with_reducible exact LeO.none _)
   | (with_reducible refine LeO.ite ?_ ?_)
   | (with_reducible refine LeO.bind ?_ (fun _=>?_))
   | exact ih0 _ _ _
   | exact laws_eqParty.mono _ _ _ _ _
   | exact LeO.none _
   | refine LeO.ite ?_ ?_
   | refine LeO.bind ?_ (fun _=>?_)
def laws_eqPartyS.T6:Bool × List (List Nat × List Nat):=(true,[([],[]),([],[]),([0,1],[0,1]),([2],[2]),([],[]),([],[]),([4,5],[4,5]),([6],[6]),([3,7],[3,7]),([8],[8])])
def laws_eqPartyS.B6:List Nat:=[0,0,3,7,0,0,48,112,255,511]
theorem laws_eqPartyS.tab6:rtab .any (opsOf Try.f26 6)=laws_eqPartyS.T6:=by kernel_rfl
theorem laws_eqPartyS.bits6:waitsOk laws_eqPartyS.T6.2 laws_eqPartyS.B6=true:=by kernel_rfl
set_option maxHeartbeats 8000000 in
set_option maxRecDepth 100000 in
theorem laws_eqPartyS.calls (k:Nat) (A0:Option Addr) (c0:Nat) (l0:List (S30)) (A1:Option Addr) (c1:Nat) (l1:List (S30)) (r:Bool) (w:World) (hr0:Kd.C k30 w A0 l0.length l0) (hc0:l0.length≤c0) (hr1:Kd.C k30 w A1 l1.length l1) (hc1:l1.length≤c1) (h:laws_eqPartyS.f k l0 l1=some r) :
  Calls Try.prog 26 #[.slice A0 l0.length c0,.slice A1 l1.length c1] w fun e w'=>e=.returned (.bool r)∧Below w.heap.size w w':=by
 have hu30:=Try.underlying30
 have HR0:=zz31 hr0
 have HC0:=zz31 hc0
 clear hr0 hc0
 have HR1:=zz31 hr1
 have HC1:=zz31 hc1
 clear hr1 hc1
 have HB:=zz31 (Below.refl w.heap.size w)
 have H:(if (l0.length:Int)=(l1.length:Int) then (laws_eqPartyS.l0 k l0 l1 0) else (some false))=some r:=h
 clear h
 by_cases c3:(l0.length:Int)=(l1.length:Int)
 ·rw [if_pos c3] at H
  have c3b0:((l0.length:Int) == (l1.length:Int))=true:=beq_iff_eq.mpr c3
  have c3b1:((l0.length:Int) != (l1.length:Int))=false:=bne_eq_false_iff_eq.mpr c3
  have c3b2:(l0.length == l1.length)=true:=by first | simpa using c3 | (simp at c3 ⊢;omega)
  clear c3
  have H':=zz31 H
  clear H
  go_enter Try.func26,Try.ntmps26
  go_wp2
  go_loopg [5] k (fun kq v5 w'=>∃ (x5_1:Int),v5=.int .i64 x5_1∧Aside0 (laws_eqPartyS.l0 kq l0 l1 x5_1=some r)∧Aside0 (kq≤k)∧Aside0 (Below w.heap.size w w'))
  case atStart=>exact ⟨(0),(by first | rfl | (simp;done) | (simp [*];done)),H',⟨Nat.le_refl _⟩,⟨by repeat first | exact HB.out | apply zz2 | apply zz0 | apply zz1⟩⟩
  case round =>
   clear H'
   try clear c1
   try clear c2
   try clear p2
   try clear c3
   try clear c3b0
   try clear c3b1
   try clear c3b2
   obtain ⟨x5_1,rfl,HA,HK1,HB⟩:=hrel
   cases gk with
   | zero=>exact absurd HA.out (by simp [laws_eqPartyS.l0])
   | succ k1 =>
    have H:=HA.out
    clear HA
    simp only [laws_eqPartyS.l0] at H
    by_cases c4:x5_1 < (l0.length:Int)
    ·rw [if_pos c4] at H
     have c4b0:decide (x5_1 < (l0.length:Int))=true:=decide_eq_true c4
     clear c4
     by_cases c5:0≤x5_1
     ·rw [if_pos c5] at H
      have c5b0:decide (0≤x5_1)=true:=decide_eq_true c5
      clear c5
      by_cases c6:x5_1 < (l1.length:Int)
      ·rw [if_pos c6] at H
       have c6b0:decide (x5_1 < (l1.length:Int))=true:=decide_eq_true c6
       clear c6
       replace H:=zz30.mp H
       obtain ⟨t333,A70,H⟩:=H
       replace H:(if t333=true then (laws_eqPartyS.l0 k1 l0 l1 (wrap64 (x5_1+1))) else (some false))=some r:=H
       have A7:=zz31 A70
       clear A70
       by_cases c8:t333=true
       ·subst c8
        have H1:(laws_eqPartyS.l0 k1 l0 l1 (wrap64 (x5_1+1)))=some r:=by rw [if_pos rfl] at H;exact H
        clear H
        have H:=H1
        clear H1
        have H':=zz31 H
        clear H
        try go_wp2
        replace HB:=zz31 (zz1 HB.out)
        have p331:0≤(x5_1:Int):=zz29 (by first | (with_reducible assumption) | assumption)
        have q331:x5_1 < (l0.length:Int):=zz29 (by first | (with_reducible assumption) | assumption)
        obtain ⟨ad331,A331_1,c331_1,e331,hx331_0,hx331_1,hl331_1,hi331_1⟩:=at_T30 HR0.out x5_1 p331 q331
        have hw331_1:=hx331_1
        have hw331_0:=hx331_0
        cases e331
        try replace hx331_0:=(HB.out.cell (World.block_lt_of_cell? w _ hx331_0)).trans hx331_0
        try replace hx331_1:=(HB.out.cell (World.block_lt_of_cell? w _ hx331_1)).trans hx331_1
        have HR331_1:=zz31 hi331_1
        have HC331_1:=zz31 hl331_1
        clear hi331_1 hl331_1
        replace p331:=eq_true p331
        replace q331:=eq_true q331
        have p332:0≤(x5_1:Int):=zz29 (by first | (with_reducible assumption) | assumption)
        have q332:x5_1 < (l1.length:Int):=zz29 (by first | (with_reducible assumption) | assumption)
        obtain ⟨ad332,A332_1,c332_1,e332,hx332_0,hx332_1,hl332_1,hi332_1⟩:=at_T30 HR1.out x5_1 p332 q332
        have hw332_1:=hx332_1
        have hw332_0:=hx332_0
        cases e332
        try replace hx332_0:=(HB.out.cell (World.block_lt_of_cell? w _ hx332_0)).trans hx332_0
        try replace hx332_1:=(HB.out.cell (World.block_lt_of_cell? w _ hx332_1)).trans hx332_1
        have HR332_1:=zz31 hi332_1
        have HC332_1:=zz31 hl332_1
        clear hi332_1 hl332_1
        replace p332:=eq_true p332
        replace q332:=eq_true q332
        refine start_ (n:=10) (S:=fun w'=>w'.cell? (ad331.add ((x5_1).toNat * 2))=some (.int .i64 ((rd_T30 l0 x5_1).f0))∧w'.cell? ⟨(ad331.add ((x5_1).toNat * 2)).block,(ad331.add ((x5_1).toNat * 2)).off+1,none⟩=some (.slice A331_1 ((rd_T30 l0 x5_1).f1).length c331_1)∧w'.cell? (ad332.add ((x5_1).toNat * 2))=some (.int .i64 ((rd_T30 l1 x5_1).f0))∧w'.cell? ⟨(ad332.add ((x5_1).toNat * 2)).block,(ad332.add ((x5_1).toNat * 2)).off+1,none⟩=some (.slice A332_1 ((rd_T30 l1 x5_1).f1).length c332_1)) (ds:=[]) #[F,F,F,F,F,F,F,F,F,F] (by kernel_rfl) rfl rfl ⟨((HB.out.cell (World.block_lt_of_cell? w _ hw331_0)).trans hw331_0),((HB.out.cell (World.block_lt_of_cell? w _ hw331_1)).trans hw331_1),((HB.out.cell (World.block_lt_of_cell? w _ hw332_0)).trans hw332_0),((HB.out.cell (World.block_lt_of_cell? w _ hw332_1)).trans hw332_1)⟩ (fun hHeld=>?_);refine with_tabW laws_eqPartyS.tab6 laws_eqPartyS.bits6 (fun HT_ HW_=>?_)
        generalize wr.drew=w9 at HB HR331_1 HR332_1 hx331_0 hx331_1 hx332_0 hx332_1 hHeld ⊢
        refine zz32 (v:=?_) (a':=?_) 0 (some 17) #[T,F,F,F,F,F,F,F,F,F] rfl rfl HT_.out (by kernel_rfl) (fun _ _ _ h=>h) (by rfl) (fun w'=>?_) ?_ ?_;rotate_left;(go_simp;with_reducible rfl);rotate_left;(simp only [Act.put,zz21,zz22,zz23,i64_w,i32_w];rfl)
        refine zz32 (v:=?_) (a':=?_) 1 (some 18) #[T,T,F,F,F,F,F,F,F,F] rfl rfl HT_.out (by kernel_rfl) (fun _ _ _ h=>h) (by rfl) (fun w'=>?_) ?_ ?_;rotate_left;(go_simp;with_reducible rfl);rotate_left;(simp only [Act.put,zz21,zz22,zz23,i64_w,i32_w];rfl)
        refine zz32 (v:=?_) (a':=?_) 2 (some 19) #[T,T,T,F,F,F,F,F,F,F] rfl rfl HT_.out (by kernel_rfl) (fun _ _ _ h=>h) (by rfl) (fun w'=>?_) ?_ ?_;rotate_left;(go_simp;with_reducible rfl);rotate_left;(simp only [Act.put,zz21,zz22,zz23,i64_w,i32_w];rfl)
        refine zz32 (v:=?_) (a':=?_) 4 (some 21) #[T,T,T,F,T,F,F,F,F,F] rfl rfl HT_.out (by kernel_rfl) (fun _ _ _ h=>h) (by rfl) (fun w'=>?_) ?_ ?_;rotate_left;(go_simp;with_reducible rfl);rotate_left;(simp only [Act.put,zz21,zz22,zz23,i64_w,i32_w];rfl)
        refine zz32 (v:=?_) (a':=?_) 5 (some 22) #[T,T,T,F,T,T,F,F,F,F] rfl rfl HT_.out (by kernel_rfl) (fun _ _ _ h=>h) (by rfl) (fun w'=>?_) ?_ ?_;rotate_left;(go_simp;with_reducible rfl);rotate_left;(simp only [Act.put,zz21,zz22,zz23,i64_w,i32_w];rfl)
        refine zz32 (v:=?_) (a':=?_) 6 (some 23) #[T,T,T,F,T,T,T,F,F,F] rfl rfl HT_.out (by kernel_rfl) (fun _ _ _ h=>h) (by rfl) (fun w'=>?_) ?_ ?_;rotate_left;(go_simp;with_reducible rfl);rotate_left;(simp only [Act.put,zz21,zz22,zz23,i64_w,i32_w];rfl)
        refine zz33 (v:=?_) (a':=?_) 3 (some 20) #[T,T,T,T,T,T,T,F,F,F] rfl rfl HT_.out HW_.out (by kernel_rfl) (fun _ _ _ h=>h) (by rfl) ?_ hHeld ?_ ?_;rotate_left;(rintro w' ⟨s0,s1,s2,s3⟩;go_simp;with_reducible rfl);rotate_left;(simp only [Act.put,zz21,zz22,zz23,i64_w,i32_w];rfl)
        refine zz33 (v:=?_) (a':=?_) 7 (some 24) #[T,T,T,T,T,T,T,T,F,F] rfl rfl HT_.out HW_.out (by kernel_rfl) (fun _ _ _ h=>h) (by rfl) ?_ hHeld ?_ ?_;rotate_left;(rintro w' ⟨s0,s1,s2,s3⟩;go_simp;with_reducible rfl);rotate_left;(simp only [Act.put,zz21,zz22,zz23,i64_w,i32_w];rfl)
        refine one_ (i:=8) (N:=some 25) #[T,T,T,T,T,T,T,T,T,F] rfl rfl (one_of HT_.out (by kernel_rfl)) (by decide) (fun K hK=>?_)
        refine goes_ Try.func12 (by kernel_rfl) rfl #[.agg #[.int .i64 ((rd_T30 l0 x5_1).f0),.slice A331_1 ((rd_T30 l0 x5_1).f1).length c331_1],.agg #[.int .i64 ((rd_T30 l1 x5_1).f0),.slice A332_1 ((rd_T30 l1 x5_1).f1).length c332_1]] (by rfl) rfl rfl (by (try simp only [zz26,zz27,zz28]);first | done | rfl | (simp only [zz24,zz25];rfl)) ?_
        with_reducible refine (laws_eqParty.calls k1 ((rd_T30 l0 x5_1).f0) _ _ ((rd_T30 l0 x5_1).f1) ((rd_T30 l1 x5_1).f0) _ _ ((rd_T30 l1 x5_1).f1) true _ ?side1 ?side2 ?side3 ?side4 A7.out).mono ?_
        (case side1=>repeat (first | exact (Kd.C_below HR331_1.out HB.out) | (with_reducible refine zz18 ?_ _) | (with_reducible refine zz19 ?_ _) | (with_reducible refine zz20 ?_)))
        (case side2=>exact HC331_1.out)
        (case side3=>repeat (first | exact (Kd.C_below HR332_1.out HB.out) | (with_reducible refine zz18 ?_ _) | (with_reducible refine zz19 ?_ _) | (with_reducible refine zz20 ?_)))
        (case side4=>exact HC332_1.out)
        rintro e w10 ⟨rfl,hb⟩
        refine ⟨_,rfl,?_⟩
        replace HB:=zz31 (zz4 (by repeat first | exact HB.out | apply zz2 | apply zz0 | apply zz1) hb)
        (try clear hb)
        (try clear hb2)
        (try clear hk)
        (try clear hi)
        refine hK.out _ _ ⟨((HB.out.cell (World.block_lt_of_cell? w _ hw331_0)).trans hw331_0),((HB.out.cell (World.block_lt_of_cell? w _ hw331_1)).trans hw331_1),((HB.out.cell (World.block_lt_of_cell? w _ hw332_0)).trans hw332_0),((HB.out.cell (World.block_lt_of_cell? w _ hw332_1)).trans hw332_1)⟩ (fun hHeld=>?_)
        clear hK K
        refine norm_ (a':=?_) ?_ ?_;rotate_left;(show Act.put _ (some 25) _=_;simp only [Act.put,zz21,zz22,zz23,i64_w,i32_w];rfl)
        refine zz32 (v:=?_) (a':=?_) 9 (some 26) #[T,T,T,T,T,T,T,T,T,T] rfl rfl HT_.out (by kernel_rfl) (fun _ _ _ h=>h) (by rfl) (fun w'=>?_) ?_ ?_;rotate_left;(go_simp;with_reducible rfl);rotate_left;(simp only [Act.put,zz21,zz22,zz23,i64_w,i32_w];rfl)
        refine done_ (done_of HT_.out (by kernel_rfl)) ?_
        try go_wp2
        go_roundg k1
        case measure=>have:=HK1.out;omega
        case rel=>exact ⟨(wrap64 (x5_1+1)),(by first | rfl | (simp;done) | (simp [*];done)),H',⟨by have:=HK1.out;omega⟩,⟨by repeat first | exact HB.out | apply zz2 | apply zz0 | apply zz1⟩⟩
       ·replace c8:=Bool.eq_false_iff.mpr c8
        subst c8
        have H1:(some false)=some r:=by rw [if_neg (show ¬ (false=true) by decide)] at H;exact H
        clear H
        have H:=H1
        clear H1
        obtain rfl:=Option.some.inj H
        try go_wp2
        replace HB:=zz31 (zz1 HB.out)
        have p331:0≤(x5_1:Int):=zz29 (by first | (with_reducible assumption) | assumption)
        have q331:x5_1 < (l0.length:Int):=zz29 (by first | (with_reducible assumption) | assumption)
        obtain ⟨ad331,A331_1,c331_1,e331,hx331_0,hx331_1,hl331_1,hi331_1⟩:=at_T30 HR0.out x5_1 p331 q331
        have hw331_1:=hx331_1
        have hw331_0:=hx331_0
        cases e331
        try replace hx331_0:=(HB.out.cell (World.block_lt_of_cell? w _ hx331_0)).trans hx331_0
        try replace hx331_1:=(HB.out.cell (World.block_lt_of_cell? w _ hx331_1)).trans hx331_1
        have HR331_1:=zz31 hi331_1
        have HC331_1:=zz31 hl331_1
        clear hi331_1 hl331_1
        replace p331:=eq_true p331
        replace q331:=eq_true q331
        have p332:0≤(x5_1:Int):=zz29 (by first | (with_reducible assumption) | assumption)
        have q332:x5_1 < (l1.length:Int):=zz29 (by first | (with_reducible assumption) | assumption)
        obtain ⟨ad332,A332_1,c332_1,e332,hx332_0,hx332_1,hl332_1,hi332_1⟩:=at_T30 HR1.out x5_1 p332 q332
        have hw332_1:=hx332_1
        have hw332_0:=hx332_0
        cases e332
        try replace hx332_0:=(HB.out.cell (World.block_lt_of_cell? w _ hx332_0)).trans hx332_0
        try replace hx332_1:=(HB.out.cell (World.block_lt_of_cell? w _ hx332_1)).trans hx332_1
        have HR332_1:=zz31 hi332_1
        have HC332_1:=zz31 hl332_1
        clear hi332_1 hl332_1
        replace p332:=eq_true p332
        replace q332:=eq_true q332
        refine start_ (n:=10) (S:=fun w'=>w'.cell? (ad331.add ((x5_1).toNat * 2))=some (.int .i64 ((rd_T30 l0 x5_1).f0))∧w'.cell? ⟨(ad331.add ((x5_1).toNat * 2)).block,(ad331.add ((x5_1).toNat * 2)).off+1,none⟩=some (.slice A331_1 ((rd_T30 l0 x5_1).f1).length c331_1)∧w'.cell? (ad332.add ((x5_1).toNat * 2))=some (.int .i64 ((rd_T30 l1 x5_1).f0))∧w'.cell? ⟨(ad332.add ((x5_1).toNat * 2)).block,(ad332.add ((x5_1).toNat * 2)).off+1,none⟩=some (.slice A332_1 ((rd_T30 l1 x5_1).f1).length c332_1)) (ds:=[]) #[F,F,F,F,F,F,F,F,F,F] (by kernel_rfl) rfl rfl ⟨((HB.out.cell (World.block_lt_of_cell? w _ hw331_0)).trans hw331_0),((HB.out.cell (World.block_lt_of_cell? w _ hw331_1)).trans hw331_1),((HB.out.cell (World.block_lt_of_cell? w _ hw332_0)).trans hw332_0),((HB.out.cell (World.block_lt_of_cell? w _ hw332_1)).trans hw332_1)⟩ (fun hHeld=>?_);refine with_tabW laws_eqPartyS.tab6 laws_eqPartyS.bits6 (fun HT_ HW_=>?_)
        generalize wr.drew=w11 at HB HR331_1 HR332_1 hx331_0 hx331_1 hx332_0 hx332_1 hHeld ⊢
        refine zz32 (v:=?_) (a':=?_) 0 (some 17) #[T,F,F,F,F,F,F,F,F,F] rfl rfl HT_.out (by kernel_rfl) (fun _ _ _ h=>h) (by rfl) (fun w'=>?_) ?_ ?_;rotate_left;(go_simp;with_reducible rfl);rotate_left;(simp only [Act.put,zz21,zz22,zz23,i64_w,i32_w];rfl)
        refine zz32 (v:=?_) (a':=?_) 1 (some 18) #[T,T,F,F,F,F,F,F,F,F] rfl rfl HT_.out (by kernel_rfl) (fun _ _ _ h=>h) (by rfl) (fun w'=>?_) ?_ ?_;rotate_left;(go_simp;with_reducible rfl);rotate_left;(simp only [Act.put,zz21,zz22,zz23,i64_w,i32_w];rfl)
        refine zz32 (v:=?_) (a':=?_) 2 (some 19) #[T,T,T,F,F,F,F,F,F,F] rfl rfl HT_.out (by kernel_rfl) (fun _ _ _ h=>h) (by rfl) (fun w'=>?_) ?_ ?_;rotate_left;(go_simp;with_reducible rfl);rotate_left;(simp only [Act.put,zz21,zz22,zz23,i64_w,i32_w];rfl)
        refine zz32 (v:=?_) (a':=?_) 4 (some 21) #[T,T,T,F,T,F,F,F,F,F] rfl rfl HT_.out (by kernel_rfl) (fun _ _ _ h=>h) (by rfl) (fun w'=>?_) ?_ ?_;rotate_left;(go_simp;with_reducible rfl);rotate_left;(simp only [Act.put,zz21,zz22,zz23,i64_w,i32_w];rfl)
        refine zz32 (v:=?_) (a':=?_) 5 (some 22) #[T,T,T,F,T,T,F,F,F,F] rfl rfl HT_.out (by kernel_rfl) (fun _ _ _ h=>h) (by rfl) (fun w'=>?_) ?_ ?_;rotate_left;(go_simp;with_reducible rfl);rotate_left;(simp only [Act.put,zz21,zz22,zz23,i64_w,i32_w];rfl)
        refine zz32 (v:=?_) (a':=?_) 6 (some 23) #[T,T,T,F,T,T,T,F,F,F] rfl rfl HT_.out (by kernel_rfl) (fun _ _ _ h=>h) (by rfl) (fun w'=>?_) ?_ ?_;rotate_left;(go_simp;with_reducible rfl);rotate_left;(simp only [Act.put,zz21,zz22,zz23,i64_w,i32_w];rfl)
        refine zz33 (v:=?_) (a':=?_) 3 (some 20) #[T,T,T,T,T,T,T,F,F,F] rfl rfl HT_.out HW_.out (by kernel_rfl) (fun _ _ _ h=>h) (by rfl) ?_ hHeld ?_ ?_;rotate_left;(rintro w' ⟨s0,s1,s2,s3⟩;go_simp;with_reducible rfl);rotate_left;(simp only [Act.put,zz21,zz22,zz23,i64_w,i32_w];rfl)
        refine zz33 (v:=?_) (a':=?_) 7 (some 24) #[T,T,T,T,T,T,T,T,F,F] rfl rfl HT_.out HW_.out (by kernel_rfl) (fun _ _ _ h=>h) (by rfl) ?_ hHeld ?_ ?_;rotate_left;(rintro w' ⟨s0,s1,s2,s3⟩;go_simp;with_reducible rfl);rotate_left;(simp only [Act.put,zz21,zz22,zz23,i64_w,i32_w];rfl)
        refine one_ (i:=8) (N:=some 25) #[T,T,T,T,T,T,T,T,T,F] rfl rfl (one_of HT_.out (by kernel_rfl)) (by decide) (fun K hK=>?_)
        refine goes_ Try.func12 (by kernel_rfl) rfl #[.agg #[.int .i64 ((rd_T30 l0 x5_1).f0),.slice A331_1 ((rd_T30 l0 x5_1).f1).length c331_1],.agg #[.int .i64 ((rd_T30 l1 x5_1).f0),.slice A332_1 ((rd_T30 l1 x5_1).f1).length c332_1]] (by rfl) rfl rfl (by (try simp only [zz26,zz27,zz28]);first | done | rfl | (simp only [zz24,zz25];rfl)) ?_
        with_reducible refine (laws_eqParty.calls k1 ((rd_T30 l0 x5_1).f0) _ _ ((rd_T30 l0 x5_1).f1) ((rd_T30 l1 x5_1).f0) _ _ ((rd_T30 l1 x5_1).f1) false _ ?side1 ?side2 ?side3 ?side4 A7.out).mono ?_
        (case side1=>repeat (first | exact (Kd.C_below HR331_1.out HB.out) | (with_reducible refine zz18 ?_ _) | (with_reducible refine zz19 ?_ _) | (with_reducible refine zz20 ?_)))
        (case side2=>exact HC331_1.out)
        (case side3=>repeat (first | exact (Kd.C_below HR332_1.out HB.out) | (with_reducible refine zz18 ?_ _) | (with_reducible refine zz19 ?_ _) | (with_reducible refine zz20 ?_)))
        (case side4=>exact HC332_1.out)
        rintro e w12 ⟨rfl,hb⟩
        refine ⟨_,rfl,?_⟩
        replace HB:=zz31 (zz4 (by repeat first | exact HB.out | apply zz2 | apply zz0 | apply zz1) hb)
        (try clear hb)
        (try clear hb2)
        (try clear hk)
        (try clear hi)
        refine hK.out _ _ ⟨((HB.out.cell (World.block_lt_of_cell? w _ hw331_0)).trans hw331_0),((HB.out.cell (World.block_lt_of_cell? w _ hw331_1)).trans hw331_1),((HB.out.cell (World.block_lt_of_cell? w _ hw332_0)).trans hw332_0),((HB.out.cell (World.block_lt_of_cell? w _ hw332_1)).trans hw332_1)⟩ (fun hHeld=>?_)
        clear hK K
        refine norm_ (a':=?_) ?_ ?_;rotate_left;(show Act.put _ (some 25) _=_;simp only [Act.put,zz21,zz22,zz23,i64_w,i32_w];rfl)
        refine zz32 (v:=?_) (a':=?_) 9 (some 26) #[T,T,T,T,T,T,T,T,T,T] rfl rfl HT_.out (by kernel_rfl) (fun _ _ _ h=>h) (by rfl) (fun w'=>?_) ?_ ?_;rotate_left;(go_simp;with_reducible rfl);rotate_left;(simp only [Act.put,zz21,zz22,zz23,i64_w,i32_w];rfl)
        refine done_ (done_of HT_.out (by kernel_rfl)) ?_
        try go_wp2
        go_ret
        exact ⟨by first | rfl | (simp [errW_none,errW_some] <;> rfl) | (simp [*,errW_none,errW_some] <;> rfl),by repeat first | exact HB.out | apply zz2 | apply zz0 | apply zz1⟩
      ·rw [if_neg c6] at H
       exact absurd H (by simp)
     ·rw [if_neg c5] at H
      exact absurd H (by simp)
    ·rw [if_neg c4] at H
     have c4b0:decide (x5_1 < (l0.length:Int))=false:=decide_eq_false c4
     clear c4
     obtain rfl:=Option.some.inj H
     go_wp2
     go_ret
     exact ⟨by first | rfl | (simp [errW_none,errW_some] <;> rfl) | (simp [*,errW_none,errW_some] <;> rfl),by repeat first | exact HB.out | apply zz2 | apply zz0 | apply zz1⟩
 ·rw [if_neg c3] at H
  have c3b0:((l0.length:Int) == (l1.length:Int))=false:=beq_eq_false_iff_ne.mpr c3
  have c3b1:((l0.length:Int) != (l1.length:Int))=true:=bne_iff_ne.mpr c3
  have c3b2:(l0.length == l1.length)=false:=by first | simpa using c3 | (simp at c3 ⊢;omega)
  obtain rfl:=Option.some.inj H
  go_enter Try.func26,Try.ntmps26
  go_wp2
  go_ret
  exact ⟨by first | rfl | (simp [errW_none,errW_some] <;> rfl) | (simp [*,errW_none,errW_some] <;> rfl),by repeat first | exact HB.out | apply zz2 | apply zz0 | apply zz1⟩

/-! ### laws_markPartyS: function 27 (a contract of our own) -/
def laws_markPartyS.go (k:Nat):List S30→Int→Option (Int × List S30)
 | [],a=>some (a,[])
 | x :: xs,a=>if 0≤a∧a < 4611686018427387904 then (laws_markPairS.f k x.f1 (a+1)).bind fun p=>(laws_markPartyS.go k xs p.1).bind fun q=>some (q.1,⟨a,p.2⟩ :: q.2) else none
def laws_markPartyS.f (k:Nat) (l0:List S30) (a1:Int):Option (Int × List S30):=if l0.length≤1000000000 then laws_markPartyS.go k l0 a1 else none
theorem laws_markPartyS.mono_go:∀ (l0:List S30) (a:Int) (k:Nat),LeO (laws_markPartyS.go k l0 a) (laws_markPartyS.go (k+1) l0 a)
 | [],a,k=>LeO.refl _
 | x :: xs,a,k=>LeO.ite (LeO.bind (laws_markPairS.mono _ _ _) fun p=>LeO.bind (laws_markPartyS.mono_go xs p.1 k) fun q=>LeO.refl _) (LeO.none _)
theorem laws_markPartyS.mono:∀ a0 a1 k,LeO (laws_markPartyS.f k a0 a1) (laws_markPartyS.f (k+1) a0 a1):=by
 intro a0 a1 k
 unfold laws_markPartyS.f
 exact LeO.ite (laws_markPartyS.mono_go _ _ _) (LeO.none _)
theorem grown_of_kept {w0 w w':World} {base:Nat} {row:Option Nat} (h1:Below base w0 w) (h2:Below base w0 w') (hk:Kept w w' (fun k=>some k=row)):w.grownBy w' row :=
 ⟨h2.os.trans h1.os.symm,h2.tape.trans h1.tape.symm,h2.output.trans h1.output.symm,hk.1,fun k hk1 hk2=>hk.2 k hk1 hk2⟩
set_option maxHeartbeats 1000000 in
theorem laws_markPartyS.calls (k:Nat) (P0_:Nat→Prop) (u9000_:Value) (l0:List S30) (a1:Int) (r1:Int) (r2:List S30) (w0 w:World) (hB:Below w0.heap.size w0 w) (ho0:Kd.S k30 30 w w0.heap.size P0_ u9000_ l0) (h:laws_markPartyS.f k l0 a1=some (r1,r2)) :
  Calls Try.prog 27 #[u9000_,.int .i64 a1] w fun e w'=>e=.returned (.int .i64 r1)∧Kd.S k30 30 w' w0.heap.size (fun k_=>(P0_ k_ ∨ w.heap.size≤k_)) u9000_ r2∧Below w0.heap.size w0 w'∧Kept w w' (fun k_=>P0_ k_):=by
 have hu:=Try.underlying30
 unfold laws_markPartyS.f at h
 by_cases hl:l0.length≤1000000000
 case neg=>rw [if_neg hl] at h;exact absurd h (by simp)
 rw [if_pos hl] at h
 obtain ⟨A,c,rfl⟩:=Kd.S_slice ho0
 have hsb:=fun g (hg:some g=(Value.slice A l0.length c).ownBlock)=>ho0.choose_spec.1 g hg.symm
 have HSB:=zz31 hsb
 have HO:=zz31 (Kd.S_mono ho0 (fun k_ hk=>(.inl hk:P0_ k_ ∨ w.heap.size≤k_)))
 have HB:=zz31 hB
 have HH:=zz31 h
 clear ho0 hB h hsb
 go_enter Try.func27,Try.ntmps27
 go_wp2
 go_loopg [1,5] l0.length (fun gg v1 v5 wr=>∃ (i:Nat) (L:List S30) (a:Int) (rest:List S30),i≤l0.length∧l0.length - i≤gg∧L.length=l0.length∧v5=.int .i64 i∧v1=.int .i64 a∧Aside0 (laws_markPartyS.go k (L.drop i) a=some (r1,rest))∧Aside0 (r2=L.take i ++ rest)∧Aside0 (Kd.S k30 30 wr w0.heap.size (fun k_=>(P0_ k_ ∨ w.heap.size≤k_)) (.slice A l0.length c) L)∧Aside0 (Below w0.heap.size w0 wr)∧Aside0 (Kept w wr (fun k_=>P0_ k_)))
 case atStart=>exact ⟨0,l0,a1,r2,by omega,by omega,rfl,by rfl,by rfl,HH,⟨by simp⟩,HO,HB,⟨Kept.refl w _⟩⟩
 case round =>
  obtain ⟨i,L,a,rest,hi,hgg,hLl,rfl,rfl,HG,HR2,HS,HBr,HK⟩:=hrel
  by_cases hlt:i < l0.length
  ·have hltz:(i:Int) < (l0.length:Int):=by omega
   have hdrop:L.drop i=L[i] :: L.drop (i+1):=List.drop_eq_getElem_cons (by omega)
   have hg:=HG.out
   rw [hdrop,laws_markPartyS.go] at hg
   by_cases ha:0≤a∧a < 4611686018427387904
   case neg=>rw [if_neg ha] at hg;exact absurd hg (by simp)
   rw [if_pos ha] at hg
   have hwa:IntKind.i64.wrap (a+1)=a+1:=by rw [IntKind.wrap_i64];omega
   obtain ⟨⟨p1,p2⟩,hp,hg⟩:=zz30.1 hg
   obtain ⟨⟨q1,q2⟩,hq,hg⟩:=zz30.1 hg
   simp only [Option.some.injEq,Prod.mk.injEq] at hg
   obtain ⟨e1,e2⟩:=hg
   subst e1 e2
   have hS:=HS.out
   have hAp:∃ g,A=some ⟨g,0,none⟩:=by
    obtain ⟨g,cap,he,_⟩:=Kd.S_form hS (by omega)
    injection he with he1 _ _
    exact ⟨_,he1⟩
   obtain ⟨g,rfl⟩:=hAp
   have hPg:P0_ g:=HSB.out g rfl
   have hgb:w0.heap.size≤g:=Kd.S_base hS g rfl
   have hglt:g < w.heap.size ∨ w.heap.size≤g:=Nat.lt_or_ge _ _
   obtain ⟨oki,cc,hcl,hM,hcc,hoki,hH⟩:=Kd.S_lend hS z30 (i:Int) (by omega) (by omega)
   have hget:L.getD (i:Int).toNat z30=L[i]:=by rw [Int.toNat_natCast,List.getD_eq_getElem?_getD,List.getElem?_eq_getElem (by omega)];rfl
   rw [hget] at hM
   obtain ⟨v0,ecc,hR0⟩:=k30_openM hM
   rw [ecc] at hcc hH
   have hc0:=hcc 0 _ rfl
   have hfz:=(Kd.R_elem (Kd.S_R hS) z30 (i:Int) (by omega) (by omega)).choose_spec.2.2.2 0
   simp only [show (k30).sz=2 from rfl,Int.toNat_natCast,Nat.add_zero] at hc0 hfz
   obtain ⟨hS1,hg1⟩:=Kd.S_seg0 hH (by omega) (by omega) (seg:=[.int .i64 a]) (j:=0) (show 0+1≤2 from by decide) (x':=(⟨a,L[i].f1⟩:S30)) (okp:=oki) (by
    show Kd.M k30 _ _ oki _ [.int .i64 a,v0]
    exact k30_mkM _ _ _ _ hR0) (fun _ hk=>hk)
   have hS2:Kd.S k30 30 (wr.setCell ⟨g,i * 2,none⟩ (.int .i64 a)) w0.heap.size (fun k_=>(P0_ k_ ∨ w.heap.size≤k_)) (.slice (some ⟨g,0,none⟩) l0.length c) (L.set i ⟨a,L[i].f1⟩):=by
    rw [Int.toNat_natCast] at hS1
    exact hS1
   have hg2:wr.grownBy (wr.setCell ⟨g,i * 2,none⟩ (.int .i64 a)) (some g):=by
    rw [Int.toNat_natCast] at hg1
    exact hg1
   have hB2:Below w0.heap.size w0 (wr.setCell ⟨g,i * 2,none⟩ (.int .i64 a)):=⟨hg2.os.trans HBr.out.os,hg2.tape.trans HBr.out.tape,hg2.output.trans HBr.out.output,Nat.le_trans HBr.out.size hg2.size,fun q hq=>(hg2.block q (Nat.lt_of_lt_of_le hq HBr.out.size) (fun he=>by injection he with he;omega)).trans (HBr.out.block q hq)⟩
   have hK2:Kept w (wr.setCell ⟨g,i * 2,none⟩ (.int .i64 a)) (fun k_=>P0_ k_):=⟨Nat.le_trans HK.out.1 hg2.size,fun j hj hn=>(hg2.block j (Nat.lt_of_lt_of_le hj HK.out.1) (fun he=>by injection he with he;exact hn (he ▸ hPg))).trans (HK.out.2 j hj hn)⟩
   have hlen2:(L.set i ⟨a,L[i].f1⟩).length=l0.length:=by rw [List.length_set];exact hLl
   obtain ⟨oki2,c2,hcl2,hM2,hcc2,hoki2,hback⟩:=Kd.S_borrow hS2 z30 (i:Int) (by omega) (by omega)
   have hget2:(L.set i ⟨a,L[i].f1⟩).getD (i:Int).toNat z30=⟨a,L[i].f1⟩:=by rw [Int.toNat_natCast,List.getD_eq_getElem?_getD,List.getElem?_set_self (by omega)];rfl
   rw [hget2] at hM2
   obtain ⟨v,ec2,hR⟩:=k30_openM hM2
   rw [ec2] at hcc2 hback
   have hcell:=hcc2 1 _ rfl
   have hcell2:(wr.setCell ⟨g,i * 2,none⟩ (.int .i64 a)).cell? ⟨g,i * 2+1,none⟩=some v:=by
    have:=hcell
    simp only [show (k30).sz=2 from rfl,Int.toNat_natCast] at this
    rw [add_at,Nat.zero_add] at this
    exact this
   have hin:∀ k,v.ownBlock=some k→P0_ k ∨ w.heap.size≤k:=fun k hk=>(hoki2 k (hR.1 k hk)).1
   have hkw:=hK2
   have hP:=zz31 ((laws_markPairS.calls k (fun k=>some k=v.ownBlock) v L[i].f1 (a+1) p1 p2 w0 _ hB2 (Kd.R_tight rfl hR) hp).mono (R':=fun e w'=>e=.returned (.int .i64 p1)∧Aside0 (Kd.S k30 30 w' w0.heap.size (fun k_=>(P0_ k_ ∨ w.heap.size≤k_)) (.slice (some ⟨g,0,none⟩) l0.length c) ((L.set i ⟨a,L[i].f1⟩).set i ⟨a,p2⟩))∧Aside0 (Below w0.heap.size w0 w')∧Aside0 (Kept w w' (fun k_=>P0_ k_))) fun e w' ⟨h1,h2,h3,h4⟩=>by
    have hk4:Kept (wr.setCell ⟨g,i * 2,none⟩ (.int .i64 a)) w' (fun k=>some k=v.ownBlock):=h4
    have hb:=hback (grown_of_kept hB2 h3 hk4) (fun k hk=>hR.1 k hk) (x':=(⟨a,p2⟩:S30)) (k30_mkM _ _ _ _ (Kd.R_mono (Kd.R_tight rfl h2) (fun k hk=>hR.1 k hk.symm)))
    rw [Int.toNat_natCast] at hb
    refine ⟨h1,⟨hb⟩,⟨h3⟩,⟨Nat.le_trans hkw.1 hk4.1,fun j hj hn=>?_⟩⟩
    rw [hk4.2 j (Nat.lt_of_lt_of_le hj hkw.1) (fun he=>(hin j he.symm).elim hn (fun h=>by omega)),hkw.2 j hj hn])
   have HQ:=zz31 hq
   rw [List.set_set] at hP
   have HI:=zz31 (show L.take i ++ (⟨a,p2⟩:S30) :: q2=(L.set i ⟨a,p2⟩).take (i+1) ++ q2 from by
    rw [List.take_succ_eq_append_getElem (by rw [List.length_set];omega),List.getElem_set_self,List.take_set_of_le (Nat.le_refl _),List.append_assoc,List.singleton_append])
   have HD:=zz31 (show (L.set i ⟨a,p2⟩).drop (i+1)=L.drop (i+1) from List.drop_set_of_lt (by omega))
   have HLs:=zz31 (show (L.set i ⟨a,p2⟩).length=l0.length from by rw [List.length_set];exact hLl)
   clear hq hp hg hback hR hcc2 hoki2 hin hkw hS hget hget2 HS HBr HK HG hS1 hS2 hg1 hg2 hB2 hK2 hH hR0 hoki hcc hM hM2 hlen2 hcell hcl hcl2 hdrop ecc ec2
   go_wp2_with (go_at_call 44;refine hP.out.mono ?_;rintro e w' ⟨rfl,hS2,hB2,hK2⟩)
   go_roundg (l0.length - (i+1))
   case measure=>omega
   case rel=>exact ⟨i+1,L.set i ⟨a,p2⟩,p1,q2,by omega,by omega,HLs.out,by go_num,by rfl,⟨by rw [HD.out];exact HQ.out⟩,⟨by rw [HR2.out,HI.out]⟩,hS2,hB2,hK2⟩
  ·have hltz:¬ (i:Int) < (l0.length:Int):=by omega
   obtain rfl:i=l0.length:=by omega
   go_wp2
   go_ret
   have hg:=HG.out
   rw [List.drop_of_length_le (by omega),laws_markPartyS.go] at hg
   simp only [Option.some.injEq,Prod.mk.injEq] at hg
   obtain ⟨e1,e2⟩:=hg
   subst e1 e2
   refine ⟨rfl,?_,HBr.out,HK.out⟩
   rw [HR2.out,List.append_nil,List.take_of_length_le (by omega)]
   exact HS.out

/-! ### laws_heldPairS: function 45 -/
def laws_heldPairS.l0:Nat→List (S70)→Int→Int→Option (Int)
 | 0,_,_,_=>none
 | k+1,x0,x1,x5=>if x5 < (x0.length:Int) then (if 0≤x5 then (if ((rd_T70 x0 x5).f0)=x1 then (if ((rd_T70 x0 x5).f1)=(wrap64 (x1+1)) then (laws_heldPairS.l0 k x0 (wrap64 ((wrap64 (x1+1))+1)) (wrap64 (x5+1))) else (some (-1))) else (some (-1))) else (none)) else (some x1)
def laws_heldPairS.f (k:Nat) (l0:List (S70)) (a1:Int):Option (Int):=laws_heldPairS.l0 k l0 a1 0
theorem laws_heldPairS.mono_l:∀ k,(∀ y0 y1 y2,LeO (laws_heldPairS.l0 k y0 y1 y2) (laws_heldPairS.l0 (k+1) y0 y1 y2))
 | 0=>fun _ _ _ r h=>by simp [laws_heldPairS.l0] at h
 | k+1=>by
  have ih0:=laws_heldPairS.mono_l k
  ·intro y0 y1 y2
   unfold laws_heldPairS.l0
   repeat' first
   | (with_reducible exact ih0 _ _ _)
   | (with_reducible exact LeO.refl _)
   | (with_reducible exact LeO.none _)
   | (with_reducible refine LeO.ite ?_ ?_)
   | (with_reducible refine LeO.bind ?_ (fun _=>?_))
   | exact ih0 _ _ _
   | exact LeO.none _
   | refine LeO.ite ?_ ?_
   | refine LeO.bind ?_ (fun _=>?_)
theorem laws_heldPairS.mono:∀ a0 a1 k,LeO (laws_heldPairS.f k a0 a1) (laws_heldPairS.f (k+1) a0 a1):=by
 intro a0 a1 k
 have ih0:=laws_heldPairS.mono_l k
 unfold laws_heldPairS.f
 repeat' first
   | (with_reducible exact ih0 _ _ _)
   | (with_reducible exact LeO.refl _)
   | (with_reducible exact LeO.none _)
   | (with_reducible refine LeO.ite ?_ ?_)
   | (with_reducible refine LeO.bind ?_ (fun _=>?_))
   | exact ih0 _ _ _
   | exact LeO.none _
   | refine LeO.ite ?_ ?_
   | refine LeO.bind ?_ (fun _=>?_)
set_option maxHeartbeats 8000000 in
set_option maxRecDepth 100000 in
theorem laws_heldPairS.calls (k:Nat) (A0:Option Addr) (c0:Nat) (l0:List (S70)) (a1:Int) (r:Int) (w:World) (hr0:Kd.C k70 w A0 l0.length l0) (hc0:l0.length≤c0) (h:laws_heldPairS.f k l0 a1=some r) :
  Calls Try.prog 45 #[.slice A0 l0.length c0,.int .i64 a1] w fun e w'=>e=.returned (.int .i64 r)∧Drawn0 w w':=by
 have HR0:=zz31 hr0
 have HC0:=zz31 hc0
 clear hr0 hc0
 have H:(laws_heldPairS.l0 k l0 a1 0)=some r:=h
 clear h
 have H':=zz31 H
 clear H
 go_enter Try.func45,Try.ntmps45
 go_wp2
 go_loopg [1,5] k (fun kq v1 v5 w'=>∃ (x1_1:Int) (x5_1:Int),v1=.int .i64 x1_1∧v5=.int .i64 x5_1∧Aside0 (laws_heldPairS.l0 kq l0 x1_1 x5_1=some r)∧Aside0 (kq≤k)∧Drawn0 w w')
 case atStart=>exact ⟨(a1),(0),(by first | rfl | (simp;done) | (simp [*];done)),(by first | rfl | (simp;done) | (simp [*];done)),H',⟨Nat.le_refl _⟩,by repeat (first | exact Drawn0.refl _ | apply Drawn0.step)⟩
 case round =>
  clear H'
  try clear p2
  obtain ⟨x1_1,x5_1,rfl,rfl,HA,HK1,⟨m1,rfl⟩⟩:=hrel
  cases gk with
  | zero=>exact absurd HA.out (by simp [laws_heldPairS.l0])
  | succ k1 =>
   have H:=HA.out
   clear HA
   simp only [laws_heldPairS.l0] at H
   by_cases c3:x5_1 < (l0.length:Int)
   ·rw [if_pos c3] at H
    have c3b0:decide (x5_1 < (l0.length:Int))=true:=decide_eq_true c3
    clear c3
    by_cases c4:0≤x5_1
    ·rw [if_pos c4] at H
     have c4b0:decide (0≤x5_1)=true:=decide_eq_true c4
     clear c4
     by_cases c5:((rd_T70 l0 x5_1).f0)=x1_1
     ·rw [if_pos c5] at H
      have c5b0:(((rd_T70 l0 x5_1).f0) == x1_1)=true:=beq_iff_eq.mpr c5
      have c5b1:(((rd_T70 l0 x5_1).f0) != x1_1)=false:=bne_eq_false_iff_eq.mpr c5
      clear c5
      by_cases c6:((rd_T70 l0 x5_1).f1)=(wrap64 (x1_1+1))
      ·rw [if_pos c6] at H
       have c6b0:(((rd_T70 l0 x5_1).f1) == (wrap64 (x1_1+1)))=true:=beq_iff_eq.mpr c6
       have c6b1:(((rd_T70 l0 x5_1).f1) != (wrap64 (x1_1+1)))=false:=bne_eq_false_iff_eq.mpr c6
       clear c6
       have H':=zz31 H
       clear H
       have p334:0≤(x5_1:Int):=zz29 (by first | (with_reducible assumption) | assumption)
       have q334:x5_1 < (l0.length:Int):=zz29 (by first | (with_reducible assumption) | assumption)
       obtain ⟨ad334,e334,hx334_0,hx334_1⟩:=at_T70 HR0.out x5_1 p334 q334
       cases e334
       replace p334:=eq_true p334
       replace q334:=eq_true q334
       have p335:0≤(x5_1:Int):=zz29 (by first | (with_reducible assumption) | assumption)
       have q335:x5_1 < (l0.length:Int):=zz29 (by first | (with_reducible assumption) | assumption)
       obtain ⟨ad335,e335,hx335_0,hx335_1⟩:=at_T70 HR0.out x5_1 p335 q335
       obtain rfl:ad334=ad335:=(by injection e335)
       replace p335:=eq_true p335
       replace q335:=eq_true q335
       go_wp2
       go_roundg k1
       case measure=>have:=HK1.out;omega
       case rel=>exact ⟨(wrap64 ((wrap64 (x1_1+1))+1)),(wrap64 (x5_1+1)),(by first | rfl | (simp;done) | (simp [*];done)),(by first | rfl | (simp;done) | (simp [*];done)),H',⟨by have:=HK1.out;omega⟩,by repeat (first | exact Drawn0.refl _ | apply Drawn0.step)⟩
      ·rw [if_neg c6] at H
       have c6b0:(((rd_T70 l0 x5_1).f1) == (wrap64 (x1_1+1)))=false:=beq_eq_false_iff_ne.mpr c6
       have c6b1:(((rd_T70 l0 x5_1).f1) != (wrap64 (x1_1+1)))=true:=bne_iff_ne.mpr c6
       obtain rfl:=Option.some.inj H
       have p334:0≤(x5_1:Int):=zz29 (by first | (with_reducible assumption) | assumption)
       have q334:x5_1 < (l0.length:Int):=zz29 (by first | (with_reducible assumption) | assumption)
       obtain ⟨ad334,e334,hx334_0,hx334_1⟩:=at_T70 HR0.out x5_1 p334 q334
       cases e334
       replace p334:=eq_true p334
       replace q334:=eq_true q334
       have p335:0≤(x5_1:Int):=zz29 (by first | (with_reducible assumption) | assumption)
       have q335:x5_1 < (l0.length:Int):=zz29 (by first | (with_reducible assumption) | assumption)
       obtain ⟨ad335,e335,hx335_0,hx335_1⟩:=at_T70 HR0.out x5_1 p335 q335
       obtain rfl:ad334=ad335:=(by injection e335)
       replace p335:=eq_true p335
       replace q335:=eq_true q335
       go_wp2
       go_ret
       exact ⟨by first | rfl | (simp;done) | (simp [*];done),by repeat (first | exact Drawn0.refl _ | apply Drawn0.step)⟩
     ·rw [if_neg c5] at H
      have c5b0:(((rd_T70 l0 x5_1).f0) == x1_1)=false:=beq_eq_false_iff_ne.mpr c5
      have c5b1:(((rd_T70 l0 x5_1).f0) != x1_1)=true:=bne_iff_ne.mpr c5
      obtain rfl:=Option.some.inj H
      have p334:0≤(x5_1:Int):=zz29 (by first | (with_reducible assumption) | assumption)
      have q334:x5_1 < (l0.length:Int):=zz29 (by first | (with_reducible assumption) | assumption)
      obtain ⟨ad334,e334,hx334_0,hx334_1⟩:=at_T70 HR0.out x5_1 p334 q334
      cases e334
      replace p334:=eq_true p334
      replace q334:=eq_true q334
      go_wp2
      go_ret
      exact ⟨by first | rfl | (simp;done) | (simp [*];done),by repeat (first | exact Drawn0.refl _ | apply Drawn0.step)⟩
    ·rw [if_neg c4] at H
     exact absurd H (by simp)
   ·rw [if_neg c3] at H
    have c3b0:decide (x5_1 < (l0.length:Int))=false:=decide_eq_false c3
    clear c3
    obtain rfl:=Option.some.inj H
    go_wp2
    go_ret
    exact ⟨by first | rfl | (simp;done) | (simp [*];done),by repeat (first | exact Drawn0.refl _ | apply Drawn0.step)⟩

/-! ### laws_heldPartyS: function 28 -/
def laws_heldPartyS.l0:Nat→List (S30)→Int→Int→Option (Int)
 | 0,_,_,_=>none
 | k+1,x0,x1,x5=>if x5 < (x0.length:Int) then (if 0≤x5 then (if ((rd_T30 x0 x5).f0)=x1 then ((laws_heldPairS.f k ((rd_T30 x0 x5).f1) (wrap64 (x1+1))).bind fun t338=>(if t338 < 0 then (some (-1)) else (laws_heldPartyS.l0 k x0 t338 (wrap64 (x5+1))))) else (some (-1))) else (none)) else (some x1)
def laws_heldPartyS.f (k:Nat) (l0:List (S30)) (a1:Int):Option (Int):=laws_heldPartyS.l0 k l0 a1 0
theorem laws_heldPartyS.mono_l:∀ k,(∀ y0 y1 y2,LeO (laws_heldPartyS.l0 k y0 y1 y2) (laws_heldPartyS.l0 (k+1) y0 y1 y2))
 | 0=>fun _ _ _ r h=>by simp [laws_heldPartyS.l0] at h
 | k+1=>by
  have ih0:=laws_heldPartyS.mono_l k
  ·intro y0 y1 y2
   unfold laws_heldPartyS.l0
   repeat' first
   | (with_reducible exact ih0 _ _ _)
   | (with_reducible exact laws_heldPairS.mono _ _ _)
   | (with_reducible exact LeO.refl _)
   | (with_reducible exact LeO.none _)
   | (with_reducible refine LeO.ite ?_ ?_)
   | (with_reducible refine LeO.bind ?_ (fun _=>?_))
   | exact ih0 _ _ _
   | exact laws_heldPairS.mono _ _ _
   | exact LeO.none _
   | refine LeO.ite ?_ ?_
   | refine LeO.bind ?_ (fun _=>?_)
theorem laws_heldPartyS.mono:∀ a0 a1 k,LeO (laws_heldPartyS.f k a0 a1) (laws_heldPartyS.f (k+1) a0 a1):=by
 intro a0 a1 k
 have ih0:=laws_heldPartyS.mono_l k
 unfold laws_heldPartyS.f
 repeat' first
   | (with_reducible exact ih0 _ _ _)
   | (with_reducible exact laws_heldPairS.mono _ _ _)
   | (with_reducible exact LeO.refl _)
   | (with_reducible exact LeO.none _)
   | (with_reducible refine LeO.ite ?_ ?_)
   | (with_reducible refine LeO.bind ?_ (fun _=>?_))
   | exact ih0 _ _ _
   | exact laws_heldPairS.mono _ _ _
   | exact LeO.none _
   | refine LeO.ite ?_ ?_
   | refine LeO.bind ?_ (fun _=>?_)
set_option maxHeartbeats 8000000 in
set_option maxRecDepth 100000 in
theorem laws_heldPartyS.calls (k:Nat) (A0:Option Addr) (c0:Nat) (l0:List (S30)) (a1:Int) (r:Int) (w:World) (hr0:Kd.C k30 w A0 l0.length l0) (hc0:l0.length≤c0) (h:laws_heldPartyS.f k l0 a1=some r) :
  Calls Try.prog 28 #[.slice A0 l0.length c0,.int .i64 a1] w fun e w'=>e=.returned (.int .i64 r)∧Drawn0 w w':=by
 have HR0:=zz31 hr0
 have HC0:=zz31 hc0
 clear hr0 hc0
 have H:(laws_heldPartyS.l0 k l0 a1 0)=some r:=h
 clear h
 have H':=zz31 H
 clear H
 go_enter Try.func28,Try.ntmps28
 go_wp2
 go_loopg [1,5] k (fun kq v1 v5 w'=>∃ (x1_1:Int) (x5_1:Int),v1=.int .i64 x1_1∧v5=.int .i64 x5_1∧Aside0 (laws_heldPartyS.l0 kq l0 x1_1 x5_1=some r)∧Aside0 (kq≤k)∧Drawn0 w w')
 case atStart=>exact ⟨(a1),(0),(by first | rfl | (simp;done) | (simp [*];done)),(by first | rfl | (simp;done) | (simp [*];done)),H',⟨Nat.le_refl _⟩,by repeat (first | exact Drawn0.refl _ | apply Drawn0.step)⟩
 case round =>
  clear H'
  try clear c2
  try clear p2
  obtain ⟨x1_1,x5_1,rfl,rfl,HA,HK1,⟨m1,rfl⟩⟩:=hrel
  cases gk with
  | zero=>exact absurd HA.out (by simp [laws_heldPartyS.l0])
  | succ k1 =>
   have H:=HA.out
   clear HA
   simp only [laws_heldPartyS.l0] at H
   by_cases c3:x5_1 < (l0.length:Int)
   ·rw [if_pos c3] at H
    have c3b0:decide (x5_1 < (l0.length:Int))=true:=decide_eq_true c3
    clear c3
    by_cases c4:0≤x5_1
    ·rw [if_pos c4] at H
     have c4b0:decide (0≤x5_1)=true:=decide_eq_true c4
     clear c4
     by_cases c5:((rd_T30 l0 x5_1).f0)=x1_1
     ·rw [if_pos c5] at H
      have c5b0:(((rd_T30 l0 x5_1).f0) == x1_1)=true:=beq_iff_eq.mpr c5
      have c5b1:(((rd_T30 l0 x5_1).f0) != x1_1)=false:=bne_eq_false_iff_eq.mpr c5
      clear c5
      replace H:=zz30.mp H
      obtain ⟨t338,A60,H⟩:=H
      replace H:(if t338 < 0 then (some (-1)) else (laws_heldPartyS.l0 k1 l0 t338 (wrap64 (x5_1+1))))=some r:=H
      have A6:=zz31 A60
      clear A60
      by_cases c7:t338 < 0
      ·rw [if_pos c7] at H
       have c7b0:decide (t338 < 0)=true:=decide_eq_true c7
       clear c7
       obtain rfl:=Option.some.inj H
       have p336:0≤(x5_1:Int):=zz29 (by first | (with_reducible assumption) | assumption)
       have q336:x5_1 < (l0.length:Int):=zz29 (by first | (with_reducible assumption) | assumption)
       obtain ⟨ad336,A336_1,c336_1,e336,hx336_0,hx336_1,hl336_1,hi336_1⟩:=at_T30 HR0.out x5_1 p336 q336
       cases e336
       have HR336_1:=zz31 hi336_1
       have HC336_1:=zz31 hl336_1
       clear hi336_1 hl336_1
       replace p336:=eq_true p336
       replace q336:=eq_true q336
       have p337:0≤(x5_1:Int):=zz29 (by first | (with_reducible assumption) | assumption)
       have q337:x5_1 < (l0.length:Int):=zz29 (by first | (with_reducible assumption) | assumption)
       obtain ⟨ad337,A337_1,c337_1,e337,hx337_0,hx337_1,hl337_1,hi337_1⟩:=at_T30 HR0.out x5_1 p337 q337
       obtain rfl:ad336=ad337:=(by injection e337)
       have HR337_1:=zz31 hi337_1
       have HC337_1:=zz31 hl337_1
       clear hi337_1 hl337_1
       replace p337:=eq_true p337
       replace q337:=eq_true q337
       have ea_:=Option.some.inj (hx336_1.symm.trans hx337_1)
       injection ea_ with ea_ en_ ec_
       subst ea_
       subst ec_
       clear en_
       go_wp2_with (first | ((with_reducible refine gate_callee (f:=45) rfl ?_);refine goesL_ (some 27) rfl rfl Try.func45 (by kernel_rfl) rfl #[.slice A336_1 ((rd_T30 l0 x5_1).f1).length c336_1,.int .i64 (wrap64 (x1_1+1))] rfl (by (try simp only [zz26,zz27,zz28]);first | done | rfl | (simp only [zz24,zz25];rfl)) ?_;(with_reducible refine (laws_heldPairS.calls k1 _ _ ((rd_T30 l0 x5_1).f1) (wrap64 (x1_1+1)) t338 _ ?side1 ?side2 A6.out).mono ?_);(case side1=>repeat (first | exact HR337_1.out | (with_reducible refine zz18 ?_ _) | (with_reducible refine zz19 ?_ _) | (with_reducible refine zz20 ?_)));(case side2=>exact HC337_1.out);rintro e w' ⟨rfl,⟨nd,rfl⟩⟩;refine ⟨_,rfl,?_⟩))
       go_ret
       exact ⟨by first | rfl | (simp;done) | (simp [*];done),by repeat (first | exact Drawn0.refl _ | apply Drawn0.step)⟩
      ·rw [if_neg c7] at H
       have c7b0:decide (t338 < 0)=false:=decide_eq_false c7
       clear c7
       have H':=zz31 H
       clear H
       have p336:0≤(x5_1:Int):=zz29 (by first | (with_reducible assumption) | assumption)
       have q336:x5_1 < (l0.length:Int):=zz29 (by first | (with_reducible assumption) | assumption)
       obtain ⟨ad336,A336_1,c336_1,e336,hx336_0,hx336_1,hl336_1,hi336_1⟩:=at_T30 HR0.out x5_1 p336 q336
       cases e336
       have HR336_1:=zz31 hi336_1
       have HC336_1:=zz31 hl336_1
       clear hi336_1 hl336_1
       replace p336:=eq_true p336
       replace q336:=eq_true q336
       have p337:0≤(x5_1:Int):=zz29 (by first | (with_reducible assumption) | assumption)
       have q337:x5_1 < (l0.length:Int):=zz29 (by first | (with_reducible assumption) | assumption)
       obtain ⟨ad337,A337_1,c337_1,e337,hx337_0,hx337_1,hl337_1,hi337_1⟩:=at_T30 HR0.out x5_1 p337 q337
       obtain rfl:ad336=ad337:=(by injection e337)
       have HR337_1:=zz31 hi337_1
       have HC337_1:=zz31 hl337_1
       clear hi337_1 hl337_1
       replace p337:=eq_true p337
       replace q337:=eq_true q337
       have ea_:=Option.some.inj (hx336_1.symm.trans hx337_1)
       injection ea_ with ea_ en_ ec_
       subst ea_
       subst ec_
       clear en_
       go_wp2_with (first | ((with_reducible refine gate_callee (f:=45) rfl ?_);refine goesL_ (some 27) rfl rfl Try.func45 (by kernel_rfl) rfl #[.slice A336_1 ((rd_T30 l0 x5_1).f1).length c336_1,.int .i64 (wrap64 (x1_1+1))] rfl (by (try simp only [zz26,zz27,zz28]);first | done | rfl | (simp only [zz24,zz25];rfl)) ?_;(with_reducible refine (laws_heldPairS.calls k1 _ _ ((rd_T30 l0 x5_1).f1) (wrap64 (x1_1+1)) t338 _ ?side1 ?side2 A6.out).mono ?_);(case side1=>repeat (first | exact HR337_1.out | (with_reducible refine zz18 ?_ _) | (with_reducible refine zz19 ?_ _) | (with_reducible refine zz20 ?_)));(case side2=>exact HC337_1.out);rintro e w' ⟨rfl,⟨nd,rfl⟩⟩;refine ⟨_,rfl,?_⟩))
       go_roundg k1
       case measure=>have:=HK1.out;omega
       case rel=>exact ⟨(t338),(wrap64 (x5_1+1)),(by first | rfl | (simp;done) | (simp [*];done)),(by first | rfl | (simp;done) | (simp [*];done)),H',⟨by have:=HK1.out;omega⟩,by repeat (first | exact Drawn0.refl _ | apply Drawn0.step)⟩
     ·rw [if_neg c5] at H
      have c5b0:(((rd_T30 l0 x5_1).f0) == x1_1)=false:=beq_eq_false_iff_ne.mpr c5
      have c5b1:(((rd_T30 l0 x5_1).f0) != x1_1)=true:=bne_iff_ne.mpr c5
      obtain rfl:=Option.some.inj H
      have p336:0≤(x5_1:Int):=zz29 (by first | (with_reducible assumption) | assumption)
      have q336:x5_1 < (l0.length:Int):=zz29 (by first | (with_reducible assumption) | assumption)
      obtain ⟨ad336,A336_1,c336_1,e336,hx336_0,hx336_1,hl336_1,hi336_1⟩:=at_T30 HR0.out x5_1 p336 q336
      cases e336
      have HR336_1:=zz31 hi336_1
      have HC336_1:=zz31 hl336_1
      clear hi336_1 hl336_1
      replace p336:=eq_true p336
      replace q336:=eq_true q336
      go_wp2
      go_ret
      exact ⟨by first | rfl | (simp;done) | (simp [*];done),by repeat (first | exact Drawn0.refl _ | apply Drawn0.step)⟩
    ·rw [if_neg c4] at H
     exact absurd H (by simp)
   ·rw [if_neg c3] at H
    have c3b0:decide (x5_1 < (l0.length:Int))=false:=decide_eq_false c3
    clear c3
    obtain rfl:=Option.some.inj H
    go_wp2
    go_ret
    exact ⟨by first | rfl | (simp;done) | (simp [*];done),by repeat (first | exact Drawn0.refl _ | apply Drawn0.step)⟩

/-! ### laws_FnExactAllExchanges: function 7 (a contract of our own) -/
def laws_FnExactAllExchanges.f (k:Nat) (a0_0:Int) (l0_1:List (S86)):Option Bool :=
 (laws_szParty.f a0_0 l0_1 1048576).bind fun s=>if s < 0 then some true else
 (laws_toParty.f k a0_0 l0_1).bind fun p=>(spec_AllExchanges.f k p.1 p.2).bind fun W=>(impl_AllExchanges.f k p.1 p.2).bind fun G=>(laws_eqPartyS.f k G.1 W.1).bind fun e1=>(laws_eqParty.f k p.1 p.2 p.1 p.2).bind fun e2=>(laws_markParty.f k p.1 p.2 1).bind fun mp=>(laws_markPartyS.f k G.1 1).bind fun m=>(laws_heldPartyS.f k m.2 1).bind fun q =>
 if (e1=true∧G.2=W.2∧e2=true)∧0≤mp.1∧0≤q∧q=m.1 then some true else none
theorem laws_FnExactAllExchanges.mono:∀ a0 a1 k,LeO (laws_FnExactAllExchanges.f k a0 a1) (laws_FnExactAllExchanges.f (k+1) a0 a1):=by
 intro a0 a1 k
 unfold laws_FnExactAllExchanges.f
 exact LeO.bind (LeO.refl _) fun s=>LeO.ite (LeO.refl _) (LeO.bind (laws_toParty.mono _ _ _) fun p=>LeO.bind (spec_AllExchanges.mono _ _ _) fun W=>LeO.bind (impl_AllExchanges.mono _ _ _) fun G=>LeO.bind (laws_eqPartyS.mono _ _ _) fun e1=>LeO.bind (laws_eqParty.mono _ _ _ _ _) fun e2=>LeO.bind (laws_markParty.mono _ _ _ _) fun mp=>LeO.bind (laws_markPartyS.mono _ _ _) fun m=>LeO.bind (laws_heldPartyS.mono _ _ _) fun q=>LeO.refl _)
set_option maxHeartbeats 2000000 in
set_option maxRecDepth 100000 in
theorem laws_FnExactAllExchanges.calls (k:Nat) (a0_0:Int) (A0_1:Option Addr) (c0_1:Nat) (l0_1:List (S86)) (r:Bool) (w:World) (hr0_1:Kd.C k86 w A0_1 l0_1.length l0_1) (hc0_1:l0_1.length≤c0_1) (h:laws_FnExactAllExchanges.f k a0_0 l0_1=some r) :
  Calls Try.prog 7 #[.agg #[.int .i64 a0_0,.slice A0_1 l0_1.length c0_1]] w fun e w'=>e=.returned (.bool r)∧Below w.heap.size w w':=by
 have hu:=Try.underlying24
 have hu2:=Try.underlying30
 unfold laws_FnExactAllExchanges.f at h
 obtain ⟨s,hs,h⟩:=zz30.1 h
 have HSZ:=zz31 hs
 have HCC:=zz31 hc0_1
 have HC:=zz31 hr0_1
 clear hs hc0_1 hr0_1
 by_cases hneg:s < 0
 ·rw [if_pos hneg] at h
  injection h with h
  subst h
  have hd:decide (s < 0)=true:=decide_eq_true hneg
  go_enter Try.func7,Try.ntmps7
  go_wp2_with (first | ((with_reducible refine gate_dst (N := 1) rfl ?_); refine box_event ?hg (N := 1) ?hd (cs := #[.int .i64 a0_0, .slice A0_1 l0_1.length c0_1]) (t := 24) ?hr ?_; (case hd => rfl); (case hg => rfl); (case hr => first | (go_simp; done) | (go_simp; rfl)); intro gb hg wa hbox hb; have HXa := zz31 hbox; have HBa := zz31 (zz4 (w := w) (by repeat (first | exact Below.refl _ _ | apply zz0 | apply below_drew | apply zz2)) hb); have HCa := zz31 (Kd.C_below HC.out HBa.out); have f1 := zz9 HXa.out 0; have f2 := zz9 HXa.out 1; simp only [List.getElem?_toArray, List.getElem?_cons_zero, List.getElem?_cons_succ] at f1 f2; clear hbox hb hg) | (go_at_call 8; (with_reducible refine (laws_szParty.calls a0_0 A0_1 c0_1 l0_1 1048576 s wa HCa.out HCC.out HSZ.out).mono ?_); rintro e wb ⟨rfl, hb⟩; have HXb := zz31 (zz11 HXa.out hb); have HBb := zz31 (zz4 HBa.out hb); have HCb := zz31 (Kd.C_below HCa.out hb); clear f1 f2; have f1 := zz9 HXb.out 0; have f2 := zz9 HXb.out 1; simp only [List.getElem?_toArray, List.getElem?_cons_zero, List.getElem?_cons_succ] at f1 f2; clear hb) | (fail "no arm"))
  refine bodyPost_ret (results_tmp rfl _ _ _) rfl ?_
  exact ⟨rfl,by repeat first | exact HBb.out | apply zz0 | apply below_drew⟩
 ·rw [if_neg hneg] at h
  obtain ⟨⟨p1,p2⟩,hp,h⟩:=zz30.1 h
  obtain ⟨⟨W1,W2⟩,hw,h⟩:=zz30.1 h
  obtain ⟨⟨G1,G2⟩,hg,h⟩:=zz30.1 h
  obtain ⟨e1,he1,h⟩:=zz30.1 h
  obtain ⟨e2,he2,h⟩:=zz30.1 h
  obtain ⟨⟨m1,m2⟩,hmp,h⟩:=zz30.1 h
  obtain ⟨⟨n1,n2⟩,hm,h⟩:=zz30.1 h
  obtain ⟨q,hq,h⟩:=zz30.1 h
  dsimp only at hw hg he1 he2 hmp hm hq h
  by_cases hc:(e1=true∧G2=W2∧e2=true)∧0≤m1∧0≤q∧q=n1
  case neg=>rw [if_neg hc] at h;exact absurd h (by simp)
  rw [if_pos hc] at h
  injection h with h
  subst h
  obtain ⟨⟨rfl,rfl,rfl⟩,hm0,hn0,rfl⟩:=hc
  have HP:=zz31 hp
  have HW:=zz31 hw
  have HG:=zz31 hg
  have HE1:=zz31 he1
  have HE2:=zz31 he2
  have HMP:=zz31 hmp
  have HM:=zz31 hm
  have HQ:=zz31 hq
  have hd:decide (s < 0)=false:=decide_eq_false hneg
  have hd1:decide (m1 < 0)=false:=decide_eq_false (by omega)
  have hd2:decide (q < 0)=false:=decide_eq_false (by omega)
  clear hp hw hg he1 he2 hmp hm hq hneg hm0 hn0
  go_enter Try.func7,Try.ntmps7
  go_upto_region 7 with (first | ((with_reducible refine gate_dst (N := 1) rfl ?_); refine box_event ?hg (N := 1) ?hd (cs := #[.int .i64 a0_0, .slice A0_1 l0_1.length c0_1]) (t := 24) ?hr ?_; (case hd => rfl); (case hg => rfl); (case hr => first | (go_simp; done) | (go_simp; rfl)); intro gb hg wa hbox hb; have HXa := zz31 hbox; have HBa := zz31 (zz4 (w := w) (by repeat (first | exact Below.refl _ _ | apply zz0 | apply below_drew | apply zz2)) hb); have HCa := zz31 (Kd.C_below HC.out HBa.out); have f1 := zz9 HXa.out 0; have f2 := zz9 HXa.out 1; simp only [List.getElem?_toArray, List.getElem?_cons_zero, List.getElem?_cons_succ] at f1 f2; clear hbox hb hg) | (go_at_call 8; (with_reducible refine (laws_szParty.calls a0_0 A0_1 c0_1 l0_1 1048576 s wa HCa.out HCC.out HSZ.out).mono ?_); rintro e wb ⟨rfl, hb⟩; have HXb := zz31 (zz11 HXa.out hb); have HBb := zz31 (zz4 HBa.out hb); have HCb := zz31 (Kd.C_below HCa.out hb); clear f1 f2; have f1 := zz9 HXb.out 0; have f2 := zz9 HXb.out 1; simp only [List.getElem?_toArray, List.getElem?_cons_zero, List.getElem?_cons_succ] at f1 f2; clear hb) | (go_at_call 10; (with_reducible refine (laws_toParty.calls k a0_0 A0_1 c0_1 l0_1 p1 p2 wb HCb.out HCC.out HP.out).mono ?_); rintro e wc ⟨vc, rfl, ho, hb⟩; obtain ⟨Ac, cc, rfl⟩ := Kd.R_slice ho; have HPc := zz31 (Kd.R_reads' ho).2; have HXc := zz31 (zz11 HXb.out hb); have HBc := zz31 (zz4 HBb.out hb); have HCx := zz31 (Kd.C_below HCb.out hb); clear f1 f2; clear ho hb) | (go_at_call 24; (with_reducible refine (spec_AllExchanges.calls k p1 Ac cc p2 W1 G2 wc HPc.out.2 HPc.out.1 HW.out).mono ?_); rintro e wd ⟨vd, rfl, ho, hb⟩; obtain ⟨Ad, cd, rfl⟩ := Kd.V_slice ho; have HWd := zz31 (Kd.V_reads' ho).2; have HXd := zz31 (zz11 HXc.out hb); have HBd := zz31 (zz4 HBc.out hb); have HCd := zz31 (Kd.C_below HCx.out hb); have f1 := zz9 HXd.out 0; have f2 := zz9 HXd.out 1; simp only [List.getElem?_toArray, List.getElem?_cons_zero, List.getElem?_cons_succ] at f1 f2; clear ho hb) | (go_at_call 10; (with_reducible refine (laws_toParty.calls k a0_0 A0_1 c0_1 l0_1 p1 p2 wd HCd.out HCC.out HP.out).mono ?_); rintro e we ⟨ve, rfl, ho, hb⟩; obtain ⟨Ae, ce, rfl⟩ := Kd.R_slice ho; have HPe := zz31 ho; have HDe := zz31 hb; clear f1 f2; clear ho hb) | ((with_reducible refine gate_dst (N := 6) rfl ?_); refine box_event ?hg (N := 6) ?hd (cs := #[.int .i64 0, .slice none 0 0]) (t := 30) ?hr ?_; (case hd => rfl); (case hg => rfl); (case hr => first | (go_simp; done) | (go_simp; rfl)); intro gx hg wf hbox hb; have HXf := zz31 hbox; have HDf := zz31 (zz4 HDe.out hb); have HPf := zz31 (Kd.R_below HPe.out hb); have HGX := zz31 (show wd.heap.size ≤ gx from by rw [hg]; exact HDe.out.size); have g1 := zz9 HXf.out 0; have g2 := zz9 HXf.out 1; simp only [List.getElem?_toArray, List.getElem?_cons_zero, List.getElem?_cons_succ] at g1 g2; have g3 := zz10 HXf.out 0; have g4 := zz10 HXf.out 1; clear hbox hb hg) | (fail "no arm"))
  have HXg:Aside0 (((wf.setCell ⟨gx,0,none⟩ (.int .i64 p1)).setCell ⟨gx,1,none⟩ (.slice Ae p2.length ce)).heap[gx]?=some (.cells #[.int .i64 p1,.slice Ae p2.length ce] 30 (0,0))):=⟨blk_put (cs:=#[.int .i64 p1,.slice none 0 0]) (blk_put (cs:=#[.int .i64 0,.slice none 0 0]) HXf.out 0 _ rfl) 1 _ rfl⟩
  have HDg:Aside0 (Below wd.heap.size wd ((wf.setCell ⟨gx,0,none⟩ (.int .i64 p1)).setCell ⟨gx,1,none⟩ (.slice Ae p2.length ce))):=⟨zz3 (zz3 HDf.out HGX.out) HGX.out⟩
  have HPg:Aside0 (Kd.R k70 70 ((wf.setCell ⟨gx,0,none⟩ (.int .i64 p1)).setCell ⟨gx,1,none⟩ (.slice Ae p2.length ce)) wd.heap.size (fun k=>True∧k ≠ gx) (.slice Ae p2.length ce) p2):=⟨Kd.R_far (p:=⟨gx,1,none⟩) (Kd.R_far (p:=⟨gx,0,none⟩) (Kd.R_types HPf.out HXf.out (by decide)) (fun _ hk=>hk.2) (.int .i64 p1)) (fun _ hk=>hk.2) (.slice Ae p2.length ce)⟩
  clear g1 g2 g3 g4
  generalize ((wf.setCell ⟨gx,0,none⟩ (.int .i64 p1)).setCell ⟨gx,1,none⟩ (.slice Ae p2.length ce))=wg at HXg HDg HPg ⊢
  have HXb2:=zz31 (zz11 HXd.out HDg.out)
  have HPX:=zz31 (fun k (hk:some k=(Value.slice Ae p2.length ce).ownBlock)=>Kd.R_lt HPg.out k hk.symm)
  have f1:=zz9 HXd.out 0
  have f2:=zz9 HXd.out 1
  simp only [List.getElem?_toArray,List.getElem?_cons_zero,List.getElem?_cons_succ] at f1 f2
  have g1:=zz9 HXg.out 0
  have g2:=zz9 HXg.out 1
  simp only [List.getElem?_toArray,List.getElem?_cons_zero,List.getElem?_cons_succ] at g1 g2
  clear f1 f2
  go_upto_region 10 with (first | (go_at_call 25; (with_reducible refine (impl_AllExchanges.calls k p1 Ae ce p2 G1 G2 wg (Kd.R_reads' HPg.out).2.2 (Kd.R_reads' HPg.out).2.1 HG.out).mono ?_); rintro e wh ⟨vh, rfl, ho, hb⟩; obtain ⟨Ah, ch, rfl⟩ := Kd.S_slice ho; have HGh := zz31 ho; have HDh := zz31 (zz4 HDg.out hb); have HPh := zz31 (Kd.R_below HPg.out hb); have HXh := zz31 (zz11 HXg.out hb); clear g1 g2; clear ho hb) | (go_at_call 26; (with_reducible refine (laws_eqPartyS.calls k Ah ch G1 Ad cd W1 true wh (Kd.S_reads' HGh.out).2.2 (Kd.S_reads' HGh.out).2.1 (Kd.C_below HWd.out.2 HDh.out) HWd.out.1 HE1.out).mono ?_); rintro e wi ⟨rfl, hb⟩; have HGi := zz31 (Kd.S_below HGh.out hb); have HDi := zz31 (zz4 HDh.out hb); have HPi := zz31 (Kd.R_below HPh.out hb); have HXi := zz31 (zz11 HXh.out hb); clear hb) | (fail "no arm"))
  have HPxc:=zz31 (Kd.R_reads' HPh.out).2.1
  have HYi:=zz31 (zz11 HXd.out HDi.out)
  have HCi:=zz31 (Kd.C_below HCd.out HDi.out)
  have HL1:=zz31 (blk_lt HYi.out)
  have HL2:=zz31 (blk_lt HXi.out)
  have f1:=zz9 HYi.out 0
  have f2:=zz9 HYi.out 1
  simp only [List.getElem?_toArray,List.getElem?_cons_zero,List.getElem?_cons_succ] at f1 f2
  have g1:=zz9 HXi.out 0
  have g2:=zz9 HXi.out 1
  simp only [List.getElem?_toArray,List.getElem?_cons_zero,List.getElem?_cons_succ] at g1 g2
  go_region_held3 (fun w' => (w'.cell? ⟨gb, 0, none⟩ = some (.int .i64 a0_0) ∧ w'.cell? ⟨gb, 1, none⟩ = some (.slice A0_1 l0_1.length c0_1)) ∧ w'.cell? ⟨gx, 0, none⟩ = some (.int .i64 p1) ∧ w'.cell? ⟨gx, 1, none⟩ = some (.slice Ae p2.length ce)) (first | go_keep | exact ⟨⟨f1, f2⟩, g1, g2⟩ | exact ⟨⟨(HDij.out.cell (p := ⟨gb, 0, none⟩) HL1.out).trans f1, (HDij.out.cell (p := ⟨gb, 1, none⟩) HL1.out).trans f2⟩, (HDij.out.cell (p := ⟨gx, 0, none⟩) HL2.out).trans g1, (HDij.out.cell (p := ⟨gx, 1, none⟩) HL2.out).trans g2⟩ | exact ⟨⟨(HDik.out.cell (p := ⟨gb, 0, none⟩) HL1.out).trans f1, (HDik.out.cell (p := ⟨gb, 1, none⟩) HL1.out).trans f2⟩, (HDik.out.cell (p := ⟨gx, 0, none⟩) HL2.out).trans g1, (HDik.out.cell (p := ⟨gx, 1, none⟩) HL2.out).trans g2⟩) (first | (go_at_call 10; (with_reducible refine (laws_toParty.calls k a0_0 A0_1 c0_1 l0_1 p1 p2 _ ?_ HCC.out HP.out).mono ?_); (repeat (first | exact HCi.out | (with_reducible refine zz19 ?_ _) | (with_reducible refine zz20 ?_))); rintro e wj ⟨vj, rfl, ho, hb⟩; obtain ⟨Aj, cj, rfl⟩ := Kd.R_slice ho; have HPj := zz31 (Kd.R_reads' ho).2; have HDij := zz31 (zz4 (w := wi) (by repeat (first | exact Below.refl _ _ | apply zz0 | apply below_drew)) hb); have HPx := zz31 (Kd.C_below (Kd.R_reads' HPi.out).2.2 HDij.out); clear ho hb) | (go_at_call 12; (with_reducible refine (laws_eqParty.calls k p1 Ae ce p2 p1 Aj cj p2 true _ ?_ HPxc.out ?_ HPj.out.1 HE2.out).mono ?_); (repeat (first | exact HPx.out | (with_reducible refine zz19 ?_ _) | (with_reducible refine zz20 ?_))); (repeat (first | exact HPj.out.2 | (with_reducible refine zz19 ?_ _) | (with_reducible refine zz20 ?_))); rintro e wk ⟨rfl, hb⟩; have HDik := zz31 (zz4 (w := wi) (by repeat (first | exact HDij.out | apply zz0 | apply below_drew)) hb); clear hb) | (fail "no arm"))
  have HDk:=zz31 (HDi.out.trans (HDik.out.mono HDi.out.size))
  have HGk:=zz31 (Kd.S_bound (Kd.S_below HGi.out HDik.out))
  have HPk:=zz31 (Kd.R_below HPi.out HDik.out)
  have HXk:=zz31 (zz11 HXi.out HDik.out)
  clear f1 f2 g1 g2
  have g1:=zz9 HXk.out 0
  have g2:=zz9 HXk.out 1
  simp only [List.getElem?_toArray,List.getElem?_cons_zero,List.getElem?_cons_succ] at g1 g2
  have f1:=g1
  have f2:=g2
  go_wp2_with (first | (go_at_call 17; (with_reducible refine (laws_markParty.calls k p1 (fun k => some k = (Value.slice Ae p2.length ce).ownBlock) (.slice Ae p2.length ce) p2 1 m1 m2 wd wk HDk.out (Kd.R_tight rfl HPk.out) HMP.out).mono ?_); rintro e wl ⟨rfl, -, hB, hK⟩; have HDl := zz31 hB; have HGl := zz31 (Kd.S_step HGk.out (fun k hk hlt => hK.2 k hlt (fun he => by have := HPX.out k he; have := hk.2.1; omega))); clear hB hK) | (go_at_call 26; (with_reducible refine (laws_eqPartyS.calls k Ah ch G1 Ad cd W1 true wl (Kd.S_reads' HGl.out).2.2 (Kd.S_reads' HGl.out).2.1 (Kd.C_below HWd.out.2 HDl.out) HWd.out.1 HE1.out).mono ?_); rintro e wl2 ⟨rfl, hb⟩; have HGl2 := zz31 (Kd.S_lower (Kd.S_mono (Kd.S_below HGl.out hb) (fun k hk => hk.2.1)) HDg.out.size); have HDl2 := zz31 (zz4 HDl.out hb); clear hb) | (go_at_call 27; (with_reducible refine (laws_markPartyS.calls k (fun k => wg.heap.size ≤ k) (.slice Ah G1.length ch) G1 1 q n2 wd wl2 HDl2.out HGl2.out HM.out).mono ?_); rintro e wm ⟨rfl, hS, hB, -⟩; have HDm := zz31 hB; have HGm := zz31 hS; have HNL := zz31 (Kd.S_reads' hS).1; have HNc := zz31 (Kd.S_reads' hS).2.1; rw [HNL.out] at HNc; have HXm := zz31 (zz11 HXd.out HDm.out); clear f1 f2; have f1 := zz9 HXm.out 0; have f2 := zz9 HXm.out 1; simp only [List.getElem?_toArray, List.getElem?_cons_zero, List.getElem?_cons_succ] at f1 f2; clear hS hB) | (go_at_call 28; rw [HNL.out]; (with_reducible refine (laws_heldPartyS.calls k Ah ch n2 1 q wm (Kd.S_reads' HGm.out).2.2 HNc.out HQ.out).mono ?_); rintro e w' ⟨rfl, hd⟩; obtain ⟨q3, hq3⟩ := hd.out; subst hq3; have HDm3 := zz31 (zz0 HDm.out q3); have HGm3 := zz31 (zz16 HGm.out q3); have HCm3 := zz31 (Kd.C_below HCd.out HDm3.out); clear hd) | (go_at_call 10; (with_reducible refine (laws_toParty.calls k a0_0 A0_1 c0_1 l0_1 p1 p2 (wm.drewN q3) HCm3.out HCC.out HP.out).mono ?_); rintro e wn ⟨vn, rfl, ho, hb⟩; obtain ⟨An, cn, rfl⟩ := Kd.R_slice ho; have HPn := zz31 (Kd.R_reads' ho).2; have HDn := zz31 (zz4 HDm3.out hb); have HGn := zz31 (Kd.S_below HGm3.out hb); clear f1 f2; clear ho hb) | (go_at_call 25; (with_reducible refine (impl_AllExchanges.calls k p1 An cn p2 G1 G2 wn HPn.out.2 HPn.out.1 HG.out).mono ?_); rintro e wo ⟨vo, rfl, ho, hb⟩; obtain ⟨Ao, co, rfl⟩ := Kd.S_slice ho; have HHo := zz31 (Kd.S_reads' ho).2; have HDo := zz31 (zz4 HDn.out hb); have HGo := zz31 (Kd.S_below HGn.out hb); clear ho hb) | (go_at_call 26; (with_reducible refine (laws_eqPartyS.calls k Ao co G1 Ad cd W1 true wo HHo.out.2 HHo.out.1 (Kd.C_below HWd.out.2 HDo.out) HWd.out.1 HE1.out).mono ?_); rintro e wo4 ⟨rfl, hb⟩; have HGo4 := zz31 (Kd.S_below HGo.out hb); have HDo4 := zz31 (zz4 HDo.out hb); clear hb) | (go_at_call 28; rw [HNL.out]; (with_reducible refine (laws_heldPartyS.calls k Ah ch n2 1 q wo4 (Kd.S_reads' HGo4.out).2.2 HNc.out HQ.out).mono ?_); rintro e w' ⟨rfl, hd⟩; obtain ⟨q5, hq5⟩ := hd.out; subst hq5; clear hd) | (fail "no arm"))
  refine bodyPost_ret (results_tmp rfl _ _ _) rfl ?_
  exact ⟨rfl,by repeat first | exact (HBd.out.trans (HDo4.out.mono HBd.out.size)) | apply zz0 | apply below_drew⟩

end Go.Proofs.Ytoedkkoafidalaa.P
