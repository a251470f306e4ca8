-- PRINTED by print.py (a twelfth state) out of the translation. Not trusted: Lean checks it.
import Derived.Test.YtjipjcdeoajnjaaPx0
import Derived.Test.YtjipjcdeoajnjaaPx2
namespace Go.Proofs.Ytjipjcdeoajnjaa.P
open Go.RowKit Go.Proofs.YtjipjcdeoajnjaaW.PrintWords Go.Proofs.YtjipjcdeoajnjaaW.PrintLast Go.Proofs.YtjipjcdeoajnjaaW.PrintMore
attribute [local go_sem] max2_int min2_int max_two min_two max_three min_three max_four min_four   -- for this text's walks alone
set_option linter.unusedVariables false
set_option linter.unusedSimpArgs false

-- NOT PRINTED: function 85 (impl_countOf_1)

/-! ### impl_countOf: function 49 (a contract of our own) -/
def CntM (bo:Nat) (s:Nat) (own:Nat→Prop) (W:World):Prop:=own=(fun i=>i=bo)∧W.heap[bo]?=some (.cells #[.int .i64 (wrap64 (s:Int))] 3 (0,0))
theorem fr_one {bo:Nat} {W:World} {u:Value}:Fr (fun i=>i=bo) (fun i=>i=bo) W (W.setCell ⟨bo,0,none⟩ u) :=
 ⟨rfl,rfl,rfl,by simp [World.setCell],fun i _ hn=>Below.heap_setCell _ _ _ i hn,fun i h=>.inl h⟩
theorem wrap_succ (s:Nat):wrap64 (wrap64 (s:Int)+1)=wrap64 ((s+1:Nat):Int):=by unfold wrap64;omega
theorem giveL_count {τ:Type}:∀ (L:List τ) (s:Nat),giveL (fun (s:Nat) (_:τ)=>(s+1,true)) L s=(s+L.length,true)
 | [],s=>rfl
 | x :: L,s=>by rw [giveL,if_pos rfl,giveL_count L (s+1),List.length_cons];congr 1;omega
set_option maxHeartbeats 1000000 in
theorem cntM_each (bo n:Nat):EachT Nat 85 #[.pointer (some ⟨bo,0,none⟩)] n (CntM bo) (fun s _=>(s+1,true)):=by
 intro s own W A c t ⟨ho,hb⟩ _ _ _
 have f1:=zz9 hb 0
 have f2:=zz10 hb 0
 simp only [List.getElem?_toArray,List.getElem?_cons_zero] at f1
 have HB:=zz31 hb
 have hw:wrap64 (wrap64 (s:Int)+1)=wrap64 ((s+1:Nat):Int):=wrap_succ s
 obtain ⟨v,hv⟩:∃ v,v=wrap64 (s:Int):=⟨_,rfl⟩
 rw [← hv] at f1 hw
 have HW:=zz31 hw
 clear hb hv hw
 subst ho
 show Calls Try.prog 85 #[.slice A n c,.pointer (some ⟨bo,0,none⟩)] W _
 go_enter Try.func85,Try.ntmps85
 go_wp2
 go_ret
 refine ⟨rfl,_,⟨rfl,?_⟩,fr_one⟩
 rw [HW.out]
 exact blk_set HB.out 0 _
def impl_countOf.f (l0:List Int):Option Int:=if l0.length≤7∧(madeL l0).length≤1000000000 then some ((madeL l0).length:Int) else none
set_option maxHeartbeats 2000000 in
set_option maxRecDepth 100000 in
theorem impl_countOf.calls (A0:Option Addr) (c0:Nat) (l0:List Int) (r:Int) (w:World) (hr0:Kd.C (Kd.int .i64) w A0 l0.length l0) (hc0:l0.length≤c0) (h:impl_countOf.f l0=some r) :
  Calls Try.prog 49 #[.slice A0 l0.length c0] w fun e w'=>e=.returned (.int .i64 r)∧Below w.heap.size w w':=by
 unfold impl_countOf.f at h
 by_cases hb:l0.length≤7∧(madeL l0).length≤1000000000
 case neg=>rw [if_neg hb] at h;exact absurd h (by simp)
 rw [if_pos hb] at h
 injection h with h
 have b0:=blk_new w (.cells #[.int .i64 0] 3)
 have hbel:Below w.heap.size w (w.alloc (.cells #[.int .i64 0] 3)):=zz2 (Below.refl _ _) _
 have h0:ReadApart .i64 (fun i=>False) w A0 l0.length l0:=⟨hr0,fun _ _ _ h=>h⟩
 have h1:=(h0.fr (own':=fun i=>i=w.heap.size) (w':=w) ⟨rfl,rfl,rfl,Nat.le_refl _,fun _ _ _=>rfl,fun i hi=>.inr (by omega)⟩).fr (Fr.of_below _ hbel)
 have HC:=zz31 ((made_calls Nat 85 #[.pointer (some ⟨w.heap.size,0,none⟩)] (fun _ _=>rfl) l0 (CntM w.heap.size) (fun s _=>(s+1,true)) (cntM_each _ _) (fun _ _ _ _ h hb=>⟨h.1,zz11 h.2 hb⟩) (fun _ _ _ h i hi=>by rw [h.1] at hi;subst hi;exact blk_lt h.2) hb.1 A0 c0 0 _ _ h1 hc0 ⟨rfl,by rw [show wrap64 ((0:Nat):Int)=0 by unfold wrap64;omega];exact b0⟩).mono
  (R':=fun e W'=>e=.returned (.bool true)∧W'.cell? ⟨w.heap.size,0,none⟩=some (.int .i64 r)∧Below w.heap.size w W') fun e W' ⟨g1,own',g2,g3⟩=>by
   rw [giveL_count] at g1 g2
   refine ⟨g1,?_,hbel.trans (g3.below hbel.size (fun i hi=>by omega))⟩
   have:=zz9 g2.2 0
   rw [← h]
   simp only [Nat.zero_add,List.getElem?_toArray,List.getElem?_cons_zero] at this
   rwa [show wrap64 ((madeL l0).length:Int)=((madeL l0).length:Int) by unfold wrap64;omega] at this)
 clear h hr0 hc0 b0 hbel h0 h1 hb
 go_enter Try.func49,Try.ntmps49
 go_wp2_with (go_at_call 50;refine HC.out.mono ?_;rintro e w' ⟨rfl,hc1,hb⟩;have HB:=zz31 hb;clear hb)
 go_ret
 exact ⟨rfl,HB.out⟩

/-! ### impl_CountOfNumbers: function 16 -/
def impl_CountOfNumbers.f (l0:List Int):Option (Int × Bool):=(impl_isFew.f l0).bind fun t129=>(if t129=true then ((impl_countOf.f l0).bind fun t130=>(some (t130,true))) else (some (0,false)))
set_option maxHeartbeats 8000000 in
set_option maxRecDepth 100000 in
theorem impl_CountOfNumbers.calls (A0:Option Addr) (c0:Nat) (l0:List Int) (r1:Int) (r2:Bool) (w:World) (hr0:Kd.C (Kd.int .i64) w A0 l0.length l0) (hc0:l0.length≤c0) (h:impl_CountOfNumbers.f l0=some (r1,r2)) :
  Calls Try.prog 16 #[.slice A0 l0.length c0] w fun e w'=>e=.returned (.tuple #[.int .i64 r1,.bool r2])∧Below w.heap.size w w':=by
 have HR0:=zz31 hr0
 have HC0:=zz31 hc0
 clear hr0 hc0
 have HB:=zz31 (Below.refl w.heap.size w)
 have H:((impl_isFew.f l0).bind fun t129=>(if t129=true then ((impl_countOf.f l0).bind fun t130=>(some (t130,true))) else (some (0,false))))=some (r1,r2):=h
 clear h
 replace H:=zz30.mp H
 obtain ⟨t129,A20,H⟩:=H
 replace H:(if t129=true then ((impl_countOf.f l0).bind fun t130=>(some (t130,true))) else (some (0,false)))=some (r1,r2):=H
 have A2:=zz31 A20
 clear A20
 by_cases c3:t129=true
 ·subst c3
  have H1:((impl_countOf.f l0).bind fun t130=>(some (t130,true)))=some (r1,r2):=by rw [if_pos rfl] at H;exact H
  clear H
  have H:=H1
  clear H1
  replace H:=zz30.mp H
  obtain ⟨t130,A40,H⟩:=H
  replace H:(some (t130,true))=some (r1,r2):=H
  have A4:=zz31 A40
  clear A40
  simp only [Option.some.injEq,Prod.mk.injEq] at H
  obtain ⟨rfl,rfl⟩:=H
  go_enter Try.func16,Try.ntmps16
  go_wp2_with (first | ((with_reducible refine gate_callee (f:=48) rfl ?_);refine goesL_ (some 5) rfl rfl Try.func48 (by kernel_rfl) rfl #[.slice A0 l0.length c0] rfl (by (try simp only [zz26,zz27,zz28]);first | done | rfl | (simp only [zz24,zz25];rfl)) ?_;(with_reducible refine (impl_isFew.calls _ _ l0 true _ ?side1 ?side2 A2.out).mono ?_);(case side1=>repeat (first | exact HR0.out | (with_reducible refine zz18 ?_ _) | (with_reducible refine zz19 ?_ _) | (with_reducible refine zz20 ?_)));(case side2=>exact HC0.out);rintro e w5 ⟨rfl,hb⟩;refine ⟨_,rfl,?_⟩;have n0_:=zz31 (zz4 (by repeat first | exact HB.out | apply zz2 | apply zz0 | apply zz1) hb);clear HB;have HB:=n0_;clear n0_;(try clear hb);(try clear hb2);(try clear hk);(try clear hi)) | ((with_reducible refine gate_callee (f:=49) rfl ?_);refine goesL_ (some 8) rfl rfl Try.func49 (by kernel_rfl) rfl #[.slice A0 l0.length c0] rfl (by (try simp only [zz26,zz27,zz28]);first | done | rfl | (simp only [zz24,zz25];rfl)) ?_;(with_reducible refine (impl_countOf.calls _ _ l0 t130 _ ?side1 ?side2 A4.out).mono ?_);(case side1=>repeat (first | exact (Kd.C_below HR0.out HB.out) | (with_reducible refine zz18 ?_ _) | (with_reducible refine zz19 ?_ _) | (with_reducible refine zz20 ?_)));(case side2=>exact HC0.out);rintro e w6 ⟨rfl,hb⟩;refine ⟨_,rfl,?_⟩;have n0_:=zz31 (zz4 (by repeat first | exact HB.out | apply zz2 | apply zz0 | apply zz1) hb);clear HB;have HB:=n0_;clear n0_;(try clear hb);(try clear hb2);(try clear hk);(try clear hi)))
  go_ret2
  exact ⟨by first | rfl | (simp [errW_none,errW_some] <;> rfl) | (simp [*,errW_none,errW_some] <;> rfl),by repeat first | exact HB.out | apply zz2 | apply zz0 | apply zz1⟩
 ·replace c3:=Bool.eq_false_iff.mpr c3
  subst c3
  have H1:(some (0,false))=some (r1,r2):=by rw [if_neg (show ¬ (false=true) by decide)] at H;exact H
  clear H
  have H:=H1
  clear H1
  simp only [Option.some.injEq,Prod.mk.injEq] at H
  obtain ⟨rfl,rfl⟩:=H
  go_enter Try.func16,Try.ntmps16
  go_wp2_with (first | ((with_reducible refine gate_callee (f:=48) rfl ?_);refine goesL_ (some 5) rfl rfl Try.func48 (by kernel_rfl) rfl #[.slice A0 l0.length c0] rfl (by (try simp only [zz26,zz27,zz28]);first | done | rfl | (simp only [zz24,zz25];rfl)) ?_;(with_reducible refine (impl_isFew.calls _ _ l0 false _ ?side1 ?side2 A2.out).mono ?_);(case side1=>repeat (first | exact HR0.out | (with_reducible refine zz18 ?_ _) | (with_reducible refine zz19 ?_ _) | (with_reducible refine zz20 ?_)));(case side2=>exact HC0.out);rintro e w7 ⟨rfl,hb⟩;refine ⟨_,rfl,?_⟩;have n0_:=zz31 (zz4 (by repeat first | exact HB.out | apply zz2 | apply zz0 | apply zz1) hb);clear HB;have HB:=n0_;clear n0_;(try clear hb);(try clear hb2);(try clear hk);(try clear hi)))
  go_ret2
  exact ⟨by first | rfl | (simp [errW_none,errW_some] <;> rfl) | (simp [*,errW_none,errW_some] <;> rfl),by repeat first | exact HB.out | apply zz2 | apply zz0 | apply zz1⟩

end Go.Proofs.Ytjipjcdeoajnjaa.P
