-- PRINTED by print.py (a twelfth state) out of the translation. Not trusted: Lean checks it.
import Derived.Test.YtialimbdkokdcaaPx0
namespace Go.Proofs.Ytialimbdkokdcaa.P
open Go.RowKit Go.Proofs.YtialimbdkokdcaaW.PrintWords Go.Proofs.YtialimbdkokdcaaW.PrintLast Go.Proofs.YtialimbdkokdcaaW.PrintMore
open Bool renaming true → T, false → F
attribute [local go_sem] max2_int min2_int max_two min_two max_three min_three max_four min_four   -- for this text's walks alone
set_option linter.unusedVariables false
set_option linter.unusedSimpArgs false

/-! ### impl_table_put: function 66 -/
def impl_table_put.f (l0:List Int) (a1:Int) (a2:Int):Option (List Int):=if 0≤a1 then (if a1 < (l0.length:Int) then (if 0≤a2 then ((some (l0.set (a1:Int).toNat (Go.bits .or .u16 (rd l0 a1) (shl .u16 1 a2)):List Int)).bind fun y375=>(if a2 < (l0.length:Int) then (some (y375.set (a2:Int).toNat (Go.bits .or .u16 (rd y375 a2) (shl .u16 1 a1)))) else (none))) else (none)) else (none)) else (none)
def impl_table_put.T0:Bool × List (List Nat × List Nat):=(true,[([],[]),([],[]),([0,1],[0,1]),([2],[2]),([],[]),([4],[4]),([3,5],[3,5]),([0,1,0,1,2,3,4,5,6],[0,1]),([7,6,0,1,2,3,4,5,6],[6,7])])
def impl_table_put.B0:List Nat:=[0,0,3,7,0,16,63,127,255]
theorem impl_table_put.tab0:rtab .any (opsOf Try.f66 0)=impl_table_put.T0:=by kernel_rfl
theorem impl_table_put.bits0:waitsOk impl_table_put.T0.2 impl_table_put.B0=true:=by kernel_rfl
def impl_table_put.T1:Bool × List (List Nat × List Nat):=(true,[([],[]),([],[]),([0,1],[0,1]),([2],[2]),([],[]),([4],[4]),([3,5],[3,5]),([0,1,0,1,2,3,4,5,6],[0,1]),([7,6,0,1,2,3,4,5,6],[6,7])])
def impl_table_put.B1:List Nat:=[0,0,3,7,0,16,63,127,255]
theorem impl_table_put.tab1:rtab .any (opsOf Try.f66 1)=impl_table_put.T1:=by kernel_rfl
theorem impl_table_put.bits1:waitsOk impl_table_put.T1.2 impl_table_put.B1=true:=by kernel_rfl
set_option maxHeartbeats 8000000 in
set_option maxRecDepth 100000 in
theorem impl_table_put.calls (P0_:Nat→Prop) (u9000_:Value) (l0:List Int) (a1:Int) (a2:Int) (r:List Int) (w0 w:World) (hB:Below w0.heap.size w0 w) (ho0:Kd.R (Kd.int .u16) 96 w w0.heap.size P0_ u9000_ l0) (h:impl_table_put.f l0 a1 a2=some r) :
  Calls Try.prog 66 #[u9000_,.int .i64 a1,.int .i64 a2] w fun e w'=>e=.returned (.tuple #[])∧Kd.R (Kd.int .u16) 96 w' w0.heap.size (fun k_=>(P0_ k_ ∨ w.heap.size≤k_)) u9000_ r∧Below w0.heap.size w0 w'∧Kept w w' (fun k_=>P0_ k_):=by
 have HO0:=zz31 (show Kd.R (Kd.int .u16) 96 w w0.heap.size (fun k_=>(P0_ k_ ∨ w.heap.size≤k_)) u9000_ l0 from Kd.R_mono ho0 (fun k_ hk=>(.inl hk)))
 have HK:=zz31 (Kept.refl w (fun k_=>P0_ k_))
 have HW0:=zz31 hB.size
 have HB:=zz31 hB
 clear hB
 have H:(if 0≤a1 then (if a1 < (l0.length:Int) then (if 0≤a2 then ((some (l0.set (a1:Int).toNat (Go.bits .or .u16 (rd l0 a1) (shl .u16 1 a2)):List Int)).bind fun y375=>(if a2 < (l0.length:Int) then (some (y375.set (a2:Int).toNat (Go.bits .or .u16 (rd y375 a2) (shl .u16 1 a1)))) else (none))) else (none)) else (none)) else (none))=some r:=h
 clear h
 by_cases c4:0≤a1
 ·rw [if_pos c4] at H
  have c4b0:decide (0≤a1)=true:=decide_eq_true c4
  clear c4
  by_cases c5:a1 < (l0.length:Int)
  ·rw [if_pos c5] at H
   have c5b0:decide (a1 < (l0.length:Int))=true:=decide_eq_true c5
   clear c5
   by_cases c6:0≤a2
   ·rw [if_pos c6] at H
    have c6b0:=eq_true c6
    have c6b1:decide (0≤a2)=true:=decide_eq_true c6
    clear c6
    obtain ⟨ji7,hji7⟩:∃ j_:Int,(shl .u16 1 a2)=j_:=⟨_,rfl⟩
    replace H:((some (l0.set (a1:Int).toNat (Go.bits .or .u16 (rd l0 a1) (ji7)):List Int)).bind fun y375=>(if a2 < (l0.length:Int) then (some (y375.set (a2:Int).toNat (Go.bits .or .u16 (rd y375 a2) (shl .u16 1 a1)))) else (none)))=some r:=by first | (rw [hji7] at H;exact H) | (simp only [hji7] at H ⊢;exact H)
    have hji7_:(IntKind.u16.wrap (1 * 2 ^ min a2.toNat 16))=ji7:=hji7
    have hji7z:a2≤16→(IntKind.u16.wrap (1 * 2 ^ a2.toNat))=ji7:=shl_small hji7
    have hji7u:(IntKind.u16.wrap (2 ^ min a2.toNat 16))=ji7:=by have h_:=hji7_;rw [Int.one_mul] at h_;exact h_
    have hji7v:a2≤16→(IntKind.u16.wrap (2 ^ a2.toNat))=ji7:=fun hle_=>by have h_:=hji7z hle_;rw [Int.one_mul] at h_;exact h_
    obtain ⟨y375,hy375⟩:∃ y_:List Int,y_=(l0.set (a1:Int).toNat (Go.bits .or .u16 (rd l0 a1) (ji7))):=⟨_,rfl⟩
    replace H:(if a2 < (l0.length:Int) then (some (y375.set (a2:Int).toNat (Go.bits .or .u16 (rd y375 a2) (shl .u16 1 a1)))) else (none))=some r:=by first | (rw [hy375];with_reducible exact H) | (have H2_:=(Option.bind_some _ _).symm.trans H;rw [hy375];with_reducible exact H2_) | (have H2_:=(Option.bind_some _ _).symm.trans H;with_reducible exact H2_) | with_reducible exact H | (rw [hy375];exact H) | exact H
    have Ny375:=zz31 hy375
    clear hy375
    by_cases c9:a2 < (l0.length:Int)
    ·rw [if_pos c9] at H
     have c9b0:decide (a2 < (l0.length:Int))=true:=decide_eq_true c9
     clear c9
     have c10b0:=eq_true (zz29 (by first | (with_reducible assumption) | assumption):0≤a1)
     obtain ⟨ji11,hji11⟩:∃ j_:Int,(shl .u16 1 a1)=j_:=⟨_,rfl⟩
     replace H:(some (y375.set (a2:Int).toNat (Go.bits .or .u16 (rd y375 a2) (ji11))))=some r:=by first | (rw [hji11] at H;exact H) | (simp only [hji11] at H ⊢;exact H)
     have hji11_:(IntKind.u16.wrap (1 * 2 ^ min a1.toNat 16))=ji11:=hji11
     have hji11z:a1≤16→(IntKind.u16.wrap (1 * 2 ^ a1.toNat))=ji11:=shl_small hji11
     have hji11u:(IntKind.u16.wrap (2 ^ min a1.toNat 16))=ji11:=by have h_:=hji11_;rw [Int.one_mul] at h_;exact h_
     have hji11v:a1≤16→(IntKind.u16.wrap (2 ^ a1.toNat))=ji11:=fun hle_=>by have h_:=hji11z hle_;rw [Int.one_mul] at h_;exact h_
     obtain ⟨y377,hy377⟩:∃ y_:List Int,y_=(y375.set (a2:Int).toNat (Go.bits .or .u16 (rd y375 a2) (ji11))):=⟨_,rfl⟩
     replace H:(some y377)=some r:=by first | (rw [hy377];with_reducible exact H) | (have H2_:=(Option.bind_some _ _).symm.trans H;rw [hy377];with_reducible exact H2_) | (have H2_:=(Option.bind_some _ _).symm.trans H;with_reducible exact H2_) | with_reducible exact H | (rw [hy377];exact H) | exact H
     have Ny377:=zz31 hy377
     clear hy377
     obtain rfl:=Option.some.inj H
     go_enter Try.func66,Try.ntmps66
     try go_wp2
     have n0_:=zz31 (zz14 HO0.out)
     have n1_:=zz31 (Kept.drew HK.out)
     have n2_:=zz31 (zz1 HB.out)
     clear HO0
     clear HK
     clear HB
     have HO0:=n0_
     have HK:=n1_
     have HB:=n2_
     clear n0_ n1_ n2_
     obtain ⟨Ao14,co14,eo14⟩:=Kd.R_slice HO0.out
     (first | subst eo14 | (injection eo14 with f1_ f2_ f3_;have f4_:=f1_.symm;have f5_:=f3_.symm;clear f1_ f2_ f3_;subst f4_;subst f5_))
     have p374:0≤(a1:Int):=zz29 (by first | (with_reducible assumption) | assumption)
     have q374:a1 < (l0.length:Int):=zz29 (by first | (with_reducible assumption) | assumption)
     obtain ⟨ad374,e374,hx374_0⟩:=Kd.at_int (Kd.R_reads' HO0.out).2.2 a1 p374 q374
     cases e374
     replace p374:=eq_true p374
     replace q374:=eq_true q374
     have p8:0≤(a1:Int):=zz29 (by first | (with_reducible assumption) | assumption)
     have q8:(a1:Int) < ((l0.length:Int):Int):=zz29 (by first | (with_reducible assumption) | assumption)
     obtain ⟨go8,co8,eo8,gb8,gl8,cl8,HG8⟩:=Kd.R_form HO0.out (by omega)
     (first | cases eo8 | (injection eo8 with ea_ en_ ec_;(first | subst ea_ | (injection ea_ with ea_;subst ea_));subst ec_;clear en_))
     have GB8:=zz31 gb8
     have GG8:=zz31 HG8
     clear gb8 gl8 HG8
     have HMgo8:=zz31 (show (P0_ go8 ∨ w.heap.size≤go8) from (HO0.out.1 _ rfl))
     (first | simp only [add_plain] at hx374_0 | skip)
     obtain ⟨hx8_0,hf8_0⟩:=Kd.R_celln 0 HO0.out (a1:Int) p8 q8
     replace p8:=eq_true p8
     replace q8:=eq_true q8
     have HP15:=Kd.R_putn HO0.out (a1:Int) (Go.bits .or .u16 (rd l0 a1) (ji7))
     rw [← Ny375.out] at HP15
     have HQ15:=zz31 HP15
     clear HP15
     refine start_ (n:=9) (S:=fun w'=>w'.cell? ⟨go8,(a1).toNat,none⟩=some (.int .u16 (rd l0 a1))) (ds:=[8]) #[F,F,F,F,F,F,F,F,F] (by kernel_rfl) rfl rfl (hx374_0) (fun hHeld=>?_);refine with_tabW impl_table_put.tab0 impl_table_put.bits0 (fun HT_ HW_=>?_)
     generalize w.drew=w13 at HO0 HK HB GG8 HQ15 hf8_0 hx374_0 hx8_0 hHeld ⊢
     refine pure_ (i:=0) (N:=some 6) (v:=?_) (a':=?_) #[T,F,F,F,F,F,F,F,F] rfl rfl (any_of HT_.out (by kernel_rfl)) (fun _ _ _ h=>h) (Or.inl ⟨by rfl,?_⟩) ?_ ?_
     rotate_left
     ·intro w'
      go_simp
      with_reducible rfl
     rotate_left
     ·simp only [Act.put,zz21,zz22,zz23,i64_w,i32_w]
      rfl
     refine pure_ (i:=1) (N:=some 7) (v:=?_) (a':=?_) #[T,T,F,F,F,F,F,F,F] rfl rfl (any_of HT_.out (by kernel_rfl)) (fun _ _ _ h=>h) (Or.inl ⟨by rfl,?_⟩) ?_ ?_
     rotate_left
     ·intro w'
      go_simp
      with_reducible rfl
     rotate_left
     ·simp only [Act.put,zz21,zz22,zz23,i64_w,i32_w]
      rfl
     refine pure_ (i:=2) (N:=some 8) (v:=?_) (a':=?_) #[T,T,T,F,F,F,F,F,F] rfl rfl (any_of HT_.out (by kernel_rfl)) (fun _ _ _ h=>h) (Or.inl ⟨by rfl,?_⟩) ?_ ?_
     rotate_left
     ·intro w'
      go_simp
      with_reducible rfl
     rotate_left
     ·simp only [Act.put,zz21,zz22,zz23,i64_w,i32_w]
      rfl
     refine pure_ (i:=4) (N:=some 10) (v:=?_) (a':=?_) #[T,T,T,F,T,F,F,F,F] rfl rfl (any_of HT_.out (by kernel_rfl)) (fun _ _ _ h=>h) (Or.inl ⟨by rfl,?_⟩) ?_ ?_
     rotate_left
     ·intro w'
      go_simp
      with_reducible rfl
     rotate_left
     ·simp only [Act.put,zz21,zz22,zz23,i64_w,i32_w]
      rfl
     refine pure_ (i:=5) (N:=some 11) (v:=?_) (a':=?_) #[T,T,T,F,T,T,F,F,F] rfl rfl (any_of HT_.out (by kernel_rfl)) (fun _ _ _ h=>h) (Or.inl ⟨by rfl,?_⟩) ?_ ?_
     rotate_left
     ·intro w'
      go_simp
      with_reducible rfl
     rotate_left
     ·simp only [Act.put,zz21,zz22,zz23,i64_w,i32_w]
      rfl
     refine take_ (i:=3) (N:=some 9) (v:=?_) (a':=?_) #[T,T,T,T,T,T,F,F,F] rfl rfl (take_ofW HT_.out HW_.out (by kernel_rfl)) (fun _ _ _ h=>h) (Or.inl ⟨by rfl,?_⟩) hHeld ?_ ?_
     rotate_left
     ·intro w' s0
      go_simp
      with_reducible rfl
     rotate_left
     ·simp only [Act.put,zz21,zz22,zz23,i64_w,i32_w]
      rfl
     refine pure_ (i:=6) (N:=some 12) (v:=?_) (a':=?_) #[T,T,T,T,T,T,T,F,F] rfl rfl (any_of HT_.out (by kernel_rfl)) (fun _ _ _ h=>h) (Or.inl ⟨by rfl,?_⟩) ?_ ?_
     rotate_left
     ·intro w'
      go_simp
      with_reducible rfl
     rotate_left
     ·simp only [Act.put,zz21,zz22,zz23,i64_w,i32_w]
      rfl
     refine pure_ (i:=7) (N:=some 13) (v:=?_) (a':=?_) #[T,T,T,T,T,T,T,T,F] rfl rfl (any_of HT_.out (by kernel_rfl)) (fun _ _ _ h=>h) (Or.inl ⟨by rfl,?_⟩) ?_ ?_
     rotate_left
     ·intro w'
      go_simp
      with_reducible rfl
     rotate_left
     ·simp only [Act.put,zz21,zz22,zz23,i64_w,i32_w]
      rfl
     refine last_ (i:=8) (N:=none) #[T,T,T,T,T,T,T,T,T] rfl rfl (one_of HT_.out (by kernel_rfl)) (by decide) (fun K hK=>?_)
     refine skip_ (w1:=?_) (by rfl) rfl ?_ ?_
     rotate_left
     ·go_simp
      rfl
     refine hK.out _ _ ?_
     clear hK K
     refine done_ (done_of HT_.out (by kernel_rfl)) ?_
     try go_wp2
     have n0_:Aside0 (Kd.R (Kd.int .u16) 96 (w13.setCell ⟨go8,(a1:Int).toNat,none⟩ (.int .u16 (Go.bits .or .u16 (rd l0 a1) (ji7)))) w0.heap.size (fun k_=>(P0_ k_ ∨ w.heap.size≤k_)) (.slice (some ⟨go8,0,none⟩) l0.length co14) y375):=⟨by (with_reducible repeat (first | apply zz12 | apply zz13 | apply zz14));exact HQ15.out⟩
     have n1_:Aside0 (Kept w (w13.setCell ⟨go8,(a1:Int).toNat,none⟩ (.int .u16 (Go.bits .or .u16 (rd l0 a1) (ji7)))) (fun k_=>P0_ k_)):=⟨by repeat (first | (with_reducible first | exact HK.out | apply Kept.alloc | apply Kept.drewN | apply Kept.drew | refine Kept.setCell ?_ HMgo8.out _) | exact HK.out)⟩
     have n2_:Aside0 (Below w0.heap.size w0 (w13.setCell ⟨go8,(a1:Int).toNat,none⟩ (.int .u16 (Go.bits .or .u16 (rd l0 a1) (ji7))))):=⟨by repeat first | exact HB.out | apply zz2 | apply zz0 | apply zz1 | refine zz3 ?_ GB8.out⟩
     (try clear HO0)
     (try clear HK)
     (try clear HB)
     generalize (w13.setCell ⟨go8,(a1:Int).toNat,none⟩ (.int .u16 (Go.bits .or .u16 (rd l0 a1) (ji7))))=w16 at n0_ n1_ n2_ ⊢
     have HO0:=n0_
     have HK:=n1_
     have HB:=n2_
     clear n0_ n1_ n2_
     have n0_:=zz31 (zz14 HO0.out)
     have n1_:=zz31 (Kept.drew HK.out)
     have n2_:=zz31 (zz1 HB.out)
     clear HO0
     clear HK
     clear HB
     have HO0:=n0_
     have HK:=n1_
     have HB:=n2_
     clear n0_ n1_ n2_
     have p376:0≤(a2:Int):=zz29 (by first | (with_reducible assumption) | assumption)
     have q376:a2 < (y375.length:Int):=(by have h_:(a2:Int) < ((l0.length:Int):Int):=zz29 (by first | (with_reducible assumption) | assumption);first | (have e_:=(Kd.R_reads' HO0.out).1;omega) | simpa only [Ny375.out,List.length_set] using h_)
     have ql376:((a2:Int) < ((l0.length:Int):Int))=True:=eq_true (zz29 (by first | (with_reducible assumption) | assumption))
     obtain ⟨ad376,e376,hx376_0⟩:=Kd.at_int (Kd.R_reads' HO0.out).2.2 a2 p376 q376
     obtain rfl:(⟨go8,0,none⟩:Addr)=ad376:=(by injection e376)
     (first | simp only [add_plain] at hx376_0 | simp only [add_at] at hx376_0 | simp only [Addr.add,Nat.zero_add] at hx376_0 | skip)
     replace p376:=eq_true p376
     replace q376:=eq_true q376
     have p12:0≤(a2:Int):=zz29 (by first | (with_reducible assumption) | assumption)
     have q12:(a2:Int) < ((l0.length:Int):Int):=zz29 (by first | (with_reducible assumption) | assumption)
     obtain ⟨hx12_0,hf12_0⟩:=Kd.R_celln 0 HO0.out (a2:Int) p12 q12
     replace p12:=eq_true p12
     replace q12:=eq_true q12
     have HP18:=Kd.R_putn HO0.out (a2:Int) (Go.bits .or .u16 (rd y375 a2) (ji11))
     rw [← Ny377.out] at HP18
     have HQ18:=zz31 HP18
     clear HP18
     refine start_ (n:=9) (S:=fun w'=>w'.cell? ⟨go8,(a2).toNat,none⟩=some (.int .u16 (rd y375 a2))) (ds:=[8]) #[F,F,F,F,F,F,F,F,F] (by kernel_rfl) rfl rfl (hx376_0) (fun hHeld=>?_);refine with_tabW impl_table_put.tab1 impl_table_put.bits1 (fun HT_ HW_=>?_)
     generalize w16.drew=w17 at HO0 HK HB HQ15 HQ18 hf12_0 hx12_0 hx376_0 hHeld ⊢
     refine pure_ (i:=0) (N:=some 14) (v:=?_) (a':=?_) #[T,F,F,F,F,F,F,F,F] rfl rfl (any_of HT_.out (by kernel_rfl)) (fun _ _ _ h=>h) (Or.inl ⟨by rfl,?_⟩) ?_ ?_
     rotate_left
     ·intro w'
      go_simp
      with_reducible rfl
     rotate_left
     ·simp only [Act.put,zz21,zz22,zz23,i64_w,i32_w]
      rfl
     refine pure_ (i:=1) (N:=some 15) (v:=?_) (a':=?_) #[T,T,F,F,F,F,F,F,F] rfl rfl (any_of HT_.out (by kernel_rfl)) (fun _ _ _ h=>h) (Or.inl ⟨by rfl,?_⟩) ?_ ?_
     rotate_left
     ·intro w'
      go_simp
      with_reducible rfl
     rotate_left
     ·simp only [Act.put,zz21,zz22,zz23,i64_w,i32_w]
      rfl
     refine pure_ (i:=2) (N:=some 16) (v:=?_) (a':=?_) #[T,T,T,F,F,F,F,F,F] rfl rfl (any_of HT_.out (by kernel_rfl)) (fun _ _ _ h=>h) (Or.inl ⟨by rfl,?_⟩) ?_ ?_
     rotate_left
     ·intro w'
      go_simp
      with_reducible rfl
     rotate_left
     ·simp only [Act.put,zz21,zz22,zz23,i64_w,i32_w]
      rfl
     refine pure_ (i:=4) (N:=some 18) (v:=?_) (a':=?_) #[T,T,T,F,T,F,F,F,F] rfl rfl (any_of HT_.out (by kernel_rfl)) (fun _ _ _ h=>h) (Or.inl ⟨by rfl,?_⟩) ?_ ?_
     rotate_left
     ·intro w'
      go_simp
      with_reducible rfl
     rotate_left
     ·simp only [Act.put,zz21,zz22,zz23,i64_w,i32_w]
      rfl
     refine pure_ (i:=5) (N:=some 19) (v:=?_) (a':=?_) #[T,T,T,F,T,T,F,F,F] rfl rfl (any_of HT_.out (by kernel_rfl)) (fun _ _ _ h=>h) (Or.inl ⟨by rfl,?_⟩) ?_ ?_
     rotate_left
     ·intro w'
      go_simp
      with_reducible rfl
     rotate_left
     ·simp only [Act.put,zz21,zz22,zz23,i64_w,i32_w]
      rfl
     refine take_ (i:=3) (N:=some 17) (v:=?_) (a':=?_) #[T,T,T,T,T,T,F,F,F] rfl rfl (take_ofW HT_.out HW_.out (by kernel_rfl)) (fun _ _ _ h=>h) (Or.inl ⟨by rfl,?_⟩) hHeld ?_ ?_
     rotate_left
     ·intro w' s0
      go_simp
      with_reducible rfl
     rotate_left
     ·simp only [Act.put,zz21,zz22,zz23,i64_w,i32_w]
      rfl
     refine pure_ (i:=6) (N:=some 20) (v:=?_) (a':=?_) #[T,T,T,T,T,T,T,F,F] rfl rfl (any_of HT_.out (by kernel_rfl)) (fun _ _ _ h=>h) (Or.inl ⟨by rfl,?_⟩) ?_ ?_
     rotate_left
     ·intro w'
      go_simp
      with_reducible rfl
     rotate_left
     ·simp only [Act.put,zz21,zz22,zz23,i64_w,i32_w]
      rfl
     refine pure_ (i:=7) (N:=some 21) (v:=?_) (a':=?_) #[T,T,T,T,T,T,T,T,F] rfl rfl (any_of HT_.out (by kernel_rfl)) (fun _ _ _ h=>h) (Or.inl ⟨by rfl,?_⟩) ?_ ?_
     rotate_left
     ·intro w'
      go_simp
      with_reducible rfl
     rotate_left
     ·simp only [Act.put,zz21,zz22,zz23,i64_w,i32_w]
      rfl
     refine last_ (i:=8) (N:=none) #[T,T,T,T,T,T,T,T,T] rfl rfl (one_of HT_.out (by kernel_rfl)) (by decide) (fun K hK=>?_)
     refine skip_ (w1:=?_) (by rfl) rfl ?_ ?_
     rotate_left
     ·go_simp
      rfl
     refine hK.out _ _ ?_
     clear hK K
     refine done_ (done_of HT_.out (by kernel_rfl)) ?_
     try go_wp2
     first | go_end0 | ((try simp only [Exit.inBlock,Exit.then]);refine bodyPost_ret (results_none rfl _ _ _) rfl ?_)
     exact ⟨by first | rfl | (simp [errW_none,errW_some] <;> rfl) | (simp only [← hji7,← hji11];first | rfl | (simp [errW_none,errW_some] <;> rfl)) | (simp [*,errW_none,errW_some] <;> rfl),by (with_reducible repeat (first | apply zz12 | apply zz13 | apply zz14));exact HQ18.out,by repeat first | exact HB.out | apply zz2 | apply zz0 | apply zz1 | refine zz3 ?_ GB8.out,by repeat (first | (with_reducible first | exact HK.out | apply Kept.alloc | apply Kept.drewN | apply Kept.drew | refine Kept.setCell ?_ HMgo8.out _) | exact HK.out)⟩
    ·rw [if_neg c9] at H
     exact absurd H (by simp)
   ·rw [if_neg c6] at H
    exact absurd H (by simp)
  ·rw [if_neg c5] at H
   exact absurd H (by simp)
 ·rw [if_neg c4] at H
  exact absurd H (by simp)

end Go.Proofs.Ytialimbdkokdcaa.P
