-- PRINTED by print.py (a twelfth state) out of the translation. Not trusted: Lean checks it.
import Derived.Test.YtoedkkoafidalaaPx0
import Derived.Test.YtoedkkoafidalaaPx4
namespace Go.Proofs.Ytoedkkoafidalaa.P
open Go.RowKit Go.Proofs.YtoedkkoafidalaaW.PrintWords Go.Proofs.YtoedkkoafidalaaW.PrintLast Go.Proofs.YtoedkkoafidalaaW.PrintMore
open Bool renaming true → T, false → F
attribute [local go_sem] max2_int min2_int max_two min_two max_three min_three max_four min_four   -- for this text's walks alone
set_option linter.unusedVariables false
set_option linter.unusedSimpArgs false

/-! ### spec_dePut: function 53 -/
def spec_dePut.l0:Nat→List (S30)→Int→Int→List (S70)→Option ((List (S30)))
 | 0,_,_,_,_=>none
 | k+1,x0,x5,x179000,x179001=>if x5 < (x0.length:Int) then (if 0≤x5 then ((spec_paBefore.f k ((rd_T30 x0 x5).f0) ((rd_T30 x0 x5).f1) x179000 x179001).bind fun t180=>(if t180=true then (spec_dePut.l0 k x0 (wrap64 (x5+1)) x179000 x179001) else ((spec_paSame.f k ((rd_T30 x0 x5).f0) ((rd_T30 x0 x5).f1) x179000 x179001).bind fun t182=>(if t182=true then (some x0) else ((some (([]:List (S30)):List (S30))).bind fun y183=>(if x5≤(x0.length:Int) then ((some (x0.take (x5:Int).toNat:List (S30))).bind fun y186=>(if y183.length+y186.length < 4398046511104 then ((some (y183 ++ y186:List (S30))).bind fun y191=>((some (([(⟨x179000,x179001⟩:S30)]:List (S30)):List (S30))).bind fun y194=>(if y191.length+y194.length < 4398046511104 then ((some (y191 ++ y194:List (S30))).bind fun y197=>((some (x0.drop (x5:Int).toNat:List (S30))).bind fun y200=>(if y197.length+y200.length < 4398046511104 then (some (y197 ++ y200)) else (none)))) else (none)))) else (none))) else (none))))))) else (none)) else ((some (([]:List (S30)):List (S30))).bind fun y208=>(if 0≤x5 then (if x5≤(x0.length:Int) then ((some (x0.take (x5:Int).toNat:List (S30))).bind fun y211=>(if y208.length+y211.length < 4398046511104 then ((some (y208 ++ y211:List (S30))).bind fun y216=>((some (([(⟨x179000,x179001⟩:S30)]:List (S30)):List (S30))).bind fun y219=>(if y216.length+y219.length < 4398046511104 then ((some (y216 ++ y219:List (S30))).bind fun y222=>((some (x0.drop (x5:Int).toNat:List (S30))).bind fun y225=>(if y222.length+y225.length < 4398046511104 then (some (y222 ++ y225)) else (none)))) else (none)))) else (none))) else (none)) else (none)))
def spec_dePut.f (k:Nat) (l0:List (S30)) (a1_0:Int) (l1_1:List (S70)):Option ((List (S30))):=spec_dePut.l0 k l0 0 a1_0 l1_1
theorem spec_dePut.mono_l:∀ k,(∀ y0 y1 y2 y3,LeO (spec_dePut.l0 k y0 y1 y2 y3) (spec_dePut.l0 (k+1) y0 y1 y2 y3))
 | 0=>fun _ _ _ _ r h=>by simp [spec_dePut.l0] at h
 | k+1=>by
  have ih0:=spec_dePut.mono_l k
  ·intro y0 y1 y2 y3
   unfold spec_dePut.l0
   repeat' first
   | (with_reducible exact ih0 _ _ _ _)
   | (with_reducible exact spec_paBefore.mono _ _ _ _ _)
   | (with_reducible exact spec_paSame.mono _ _ _ _ _)
   | (with_reducible exact LeO.refl _)
   | (with_reducible exact LeO.none _)
   | (with_reducible refine LeO.ite ?_ ?_)
   | (with_reducible refine LeO.bind ?_ (fun _=>?_))
   | exact ih0 _ _ _ _
   | exact spec_paBefore.mono _ _ _ _ _
   | exact spec_paSame.mono _ _ _ _ _
   | exact LeO.none _
   | refine LeO.ite ?_ ?_
   | refine LeO.bind ?_ (fun _=>?_)
theorem spec_dePut.mono:∀ a0 a1 a2 k,LeO (spec_dePut.f k a0 a1 a2) (spec_dePut.f (k+1) a0 a1 a2):=by
 intro a0 a1 a2 k
 have ih0:=spec_dePut.mono_l k
 unfold spec_dePut.f
 repeat' first
   | (with_reducible exact ih0 _ _ _ _)
   | (with_reducible exact spec_paBefore.mono _ _ _ _ _)
   | (with_reducible exact spec_paSame.mono _ _ _ _ _)
   | (with_reducible exact LeO.refl _)
   | (with_reducible exact LeO.none _)
   | (with_reducible refine LeO.ite ?_ ?_)
   | (with_reducible refine LeO.bind ?_ (fun _=>?_))
   | exact ih0 _ _ _ _
   | exact spec_paBefore.mono _ _ _ _ _
   | exact spec_paSame.mono _ _ _ _ _
   | exact LeO.none _
   | refine LeO.ite ?_ ?_
   | refine LeO.bind ?_ (fun _=>?_)
def spec_dePut.T2:Bool × List (List Nat × List Nat):=(true,[([],[]),([],[]),([1],[1]),([0,2],[0,2]),([3],[3]),([4],[4]),([4],[4]),([5,6,4],[4,5,6]),([7,4],[4,7]),([4],[4]),([8,9,4,4],[4,8,9]),([4,10],[4,10])])
def spec_dePut.B2:List Nat:=[0,0,2,7,15,31,31,127,255,31,1023,2047]
theorem spec_dePut.tab2:rtab .any (opsOf Try.f53 2)=spec_dePut.T2:=by kernel_rfl
theorem spec_dePut.bits2:waitsOk spec_dePut.T2.2 spec_dePut.B2=true:=by kernel_rfl
def spec_dePut.T4:Bool × List (List Nat × List Nat):=(true,[([],[]),([],[]),([1],[1]),([0,2],[0,2]),([3],[3]),([4],[4]),([4],[4]),([5,6,4],[4,5,6]),([7,4],[4,7]),([4],[4]),([8,9,4,4],[4,8,9]),([4,10],[4,10])])
def spec_dePut.B4:List Nat:=[0,0,2,7,15,31,31,127,255,31,1023,2047]
theorem spec_dePut.tab4:rtab .any (opsOf Try.f53 4)=spec_dePut.T4:=by kernel_rfl
theorem spec_dePut.bits4:waitsOk spec_dePut.T4.2 spec_dePut.B4=true:=by kernel_rfl
def spec_dePut.T6:Bool × List (List Nat × List Nat):=(true,[([],[]),([],[]),([],[]),([1,2],[1,2]),([0,3],[0,3]),([],[]),([5],[5]),([4,6,4],[4,6]),([7,7,0,1,2,3,4,5,6,7],[7])])
def spec_dePut.B6:List Nat:=[0,0,0,6,15,0,32,127,255]
theorem spec_dePut.tab6:rtab .any (opsOf Try.f53 6)=spec_dePut.T6:=by kernel_rfl
theorem spec_dePut.bits6:waitsOk spec_dePut.T6.2 spec_dePut.B6=true:=by kernel_rfl
set_option maxHeartbeats 8000000 in
set_option maxRecDepth 100000 in
theorem spec_dePut.calls (k:Nat) (P0_:Nat→Prop) (A0:Option Addr) (c0:Nat) (l0:List (S30)) (a1_0:Int) (P1_1_:Nat→Prop) (A1_1:Option Addr) (c1_1:Nat) (l1_1:List (S70)) (r:List (S30)) (w:World) (hs0:Kd.V k30 30 w w.heap.size (fun k_=>P0_ k_) (.slice A0 l0.length c0) l0) (hs1_1:Kd.V k70 70 w w.heap.size (fun k_=>P1_1_ k_) (.slice A1_1 l1_1.length c1_1) l1_1) (h:spec_dePut.f k l0 a1_0 l1_1=some r) :
  Calls Try.prog 53 #[.slice A0 l0.length c0,.agg #[.int .i64 a1_0,.slice A1_1 l1_1.length c1_1]] w fun e w'=>∃ v0_:Value,e=.returned (v0_)∧Kd.V k30 30 w' w.heap.size (fun k_=>((P0_ k_ ∨ P1_1_ k_) ∨ w.heap.size≤k_)) v0_ r∧Below w.heap.size w w':=by
 have hu30:=Try.underlying30
 have HO0:=zz31 (show Kd.V k30 30 w w.heap.size (fun k_=>((P0_ k_ ∨ P1_1_ k_) ∨ w.heap.size≤k_)) (.slice A0 l0.length c0) l0 from Kd.V_mono hs0 (fun k_ hk=>.inl (.inl hk)))
 have HO1_1:=zz31 (show Kd.V k70 70 w w.heap.size (fun k_=>((P0_ k_ ∨ P1_1_ k_) ∨ w.heap.size≤k_)) (.slice A1_1 l1_1.length c1_1) l1_1 from Kd.V_mono hs1_1 (fun k_ hk=>.inl (.inr hk)))
 have HB:=zz31 (Below.refl w.heap.size w)
 have H:(spec_dePut.l0 k l0 0 a1_0 l1_1)=some r:=h
 clear h
 have H':=zz31 H
 clear H
 go_enter Try.func53,Try.ntmps53
 go_wp2_with (first | ((with_reducible refine gate_dst (N:=3) rfl ?_);refine box_event ?hg (N:=3) ?hd (cs:=#[.int .i64 a1_0,.slice A1_1 l1_1.length c1_1]) (t:=30) ?hr ?_;(case hd=>rfl);(case hg=>rfl);(case hr=>first | (go_simp;done) | (go_simp;rfl));intro gb178 hg w3 hbox hb;replace HO0:=zz31 (Kd.V_below (Kd.V_elderB (by (with_reducible repeat (first | apply Kd.V_alloc | apply Kd.V_drewN | apply Kd.V_drew));exact HO0.out) gb178 (Nat.le_of_eq hg.symm)) hb);replace HO1_1:=zz31 (Kd.V_below (Kd.V_elderB (by (with_reducible repeat (first | apply Kd.V_alloc | apply Kd.V_drewN | apply Kd.V_drew));exact HO1_1.out) gb178 (Nat.le_of_eq hg.symm)) hb);have BK178:=zz31 (hbox);have GW178:=zz31 ((by rw [hg];exact (zz5 (by repeat first | exact HB.out | apply zz2 | apply zz0 | apply zz1)):w.heap.size≤gb178));replace HB:=zz31 (zz4 (by repeat first | exact HB.out | apply zz2 | apply zz0 | apply zz1) hb);have GE178:=GW178;clear hb hbox hg))
 go_loopg [5] k (fun kq v5 w'=>∃ (x5_1:Int),v5=.int .i64 x5_1∧Aside0 (spec_dePut.l0 kq l0 x5_1 a1_0 l1_1=some r)∧Aside0 (kq≤k)∧Aside0 (Kd.V k30 30 w' w.heap.size (fun k_=>((P0_ k_ ∨ P1_1_ k_) ∨ w.heap.size≤k_)∧k_ ≠ gb178) (.slice A0 l0.length c0) l0)∧Aside0 (Kd.V k70 70 w' w.heap.size (fun k_=>((P0_ k_ ∨ P1_1_ k_) ∨ w.heap.size≤k_)∧k_ ≠ gb178) (.slice A1_1 l1_1.length c1_1) l1_1)∧Aside0 (w'.heap[gb178]?=some (.cells #[.int .i64 a1_0,(.slice A1_1 l1_1.length c1_1)] 30 (0,0)))∧Aside0 (Below w.heap.size w w'))
 case atStart=>exact ⟨(0),(by first | rfl | (simp;done) | (simp [*];done)),H',⟨Nat.le_refl _⟩,⟨by (with_reducible repeat (first | apply Kd.V_alloc | apply Kd.V_drewN | apply Kd.V_drew));exact HO0.out⟩,⟨by (with_reducible repeat (first | apply Kd.V_alloc | apply Kd.V_drewN | apply Kd.V_drew));exact HO1_1.out⟩,⟨by (with_reducible repeat (first | refine zz6 ?_ _ | refine zz7 ?_ | refine zz8 ?_ _));exact BK178.out⟩,⟨by repeat first | exact HB.out | apply zz2 | apply zz0 | apply zz1 | refine zz3 ?_ GE178.out⟩⟩
 case round =>
  clear H'
  try clear c1
  try clear p2
  obtain ⟨x5_1,rfl,HA,HK1,HO_0,HO_179001,BK178,HB⟩:=hrel
  cases gk with
  | zero=>exact absurd HA.out (by simp [spec_dePut.l0])
  | succ k1 =>
   have H:=HA.out
   clear HA
   simp only [spec_dePut.l0] at H
   by_cases c4:x5_1 < (l0.length:Int)
   ·rw [if_pos c4] at H
    have c4b0:decide (x5_1 < (l0.length:Int))=true:=decide_eq_true c4
    clear c4
    by_cases c5:0≤x5_1
    ·rw [if_pos c5] at H
     have c5b0:decide (0≤x5_1)=true:=decide_eq_true c5
     clear c5
     replace H:=zz30.mp H
     obtain ⟨t180,A60,H⟩:=H
     replace H:(if t180=true then (spec_dePut.l0 k1 l0 (wrap64 (x5_1+1)) a1_0 l1_1) else ((spec_paSame.f k1 ((rd_T30 l0 x5_1).f0) ((rd_T30 l0 x5_1).f1) a1_0 l1_1).bind fun t182=>(if t182=true then (some l0) else ((some (([]:List (S30)):List (S30))).bind fun y183=>(if x5_1≤(l0.length:Int) then ((some (l0.take (x5_1:Int).toNat:List (S30))).bind fun y186=>(if y183.length+y186.length < 4398046511104 then ((some (y183 ++ y186:List (S30))).bind fun y191=>((some (([(⟨a1_0,l1_1⟩:S30)]:List (S30)):List (S30))).bind fun y194=>(if y191.length+y194.length < 4398046511104 then ((some (y191 ++ y194:List (S30))).bind fun y197=>((some (l0.drop (x5_1:Int).toNat:List (S30))).bind fun y200=>(if y197.length+y200.length < 4398046511104 then (some (y197 ++ y200)) else (none)))) else (none)))) else (none))) else (none))))))=some r:=H
     have A6:=zz31 A60
     clear A60
     by_cases c7:t180=true
     ·subst c7
      have H1:(spec_dePut.l0 k1 l0 (wrap64 (x5_1+1)) a1_0 l1_1)=some r:=by rw [if_pos rfl] at H;exact H
      clear H
      have H:=H1
      clear H1
      have H':=zz31 H
      clear H
      try go_wp2
      replace HO_0:=zz31 (Kd.V_drew HO_0.out)
      replace HO_179001:=zz31 (Kd.V_drew HO_179001.out)
      replace BK178:=zz31 (zz7 BK178.out)
      replace HB:=zz31 (zz1 HB.out)
      have p179:0≤(x5_1:Int):=zz29 (by first | (with_reducible assumption) | assumption)
      have q179:x5_1 < (l0.length:Int):=zz29 (by first | (with_reducible assumption) | assumption)
      obtain ⟨ad179,A179_1,c179_1,e179,hx179_0,hx179_1,hl179_1,hi179_1⟩:=at_T30 (Kd.V_reads' HO_0.out).2.2 x5_1 p179 q179
      cases e179
      obtain ⟨ce179,hce179,hMe179,hcc179⟩:=Kd.V_get HO_0.out z30 x5_1 p179 (by first | exact q179 | exact zz29 (by first | (with_reducible assumption) | assumption) | (have e_:=(Kd.V_reads' HO_0.out).1;omega))
      obtain ⟨ua179_1,uc179_1,rfl,ul179_1,ge179_1⟩:=k30_openF hMe179
      have hv179_1:=hcc179 1 _ rfl
      rw [add_field _ _ 1 (by omega)] at hv179_1
      replace hv179_1:=Option.some.inj (hv179_1.symm.trans hx179_1)
      injection hv179_1 with hva_ hvn_ hvc_
      rw [hva_] at ge179_1
      rw [hvc_] at ul179_1
      have HL179_1:=zz31 (show Kd.V k70 70 _ w.heap.size _ _ ((rd_T30 l0 x5_1).f1) from Kd.V_mk ul179_1 ge179_1)
      clear hva_ hvn_ hvc_ ge179_1 ul179_1
      clear hcc179 hce179
      have HR179_1:=zz31 hi179_1
      have HC179_1:=zz31 hl179_1
      clear hi179_1 hl179_1
      replace p179:=eq_true p179
      replace q179:=eq_true q179
      refine start_ (n:=12) (S:=fun w'=>w'.cell? ⟨gb178,0,none⟩=some (.int .i64 a1_0)∧w'.cell? ⟨gb178,1,none⟩=some (.slice A1_1 l1_1.length c1_1)∧w'.cell? (ad179.add ((x5_1).toNat * 2))=some (.int .i64 ((rd_T30 l0 x5_1).f0))∧w'.cell? ⟨(ad179.add ((x5_1).toNat * 2)).block,(ad179.add ((x5_1).toNat * 2)).off+1,none⟩=some (.slice A179_1 ((rd_T30 l0 x5_1).f1).length c179_1)) (ds:=[]) #[F,F,F,F,F,F,F,F,F,F,F,F] (by kernel_rfl) rfl rfl ⟨(zz9 BK178.out 0).trans rfl,(zz9 BK178.out 1).trans rfl,hx179_0,hx179_1⟩ (fun hHeld=>?_);refine with_tabW spec_dePut.tab2 spec_dePut.bits2 (fun HT_ HW_=>?_)
      generalize wr.drew=w8 at HO_0 HO_179001 BK178 HB HL179_1 HR179_1 hx179_0 hx179_1 hHeld ⊢
      refine zz32 (v:=?_) (a':=?_) 0 (some 7) #[T,F,F,F,F,F,F,F,F,F,F,F] rfl rfl HT_.out (by kernel_rfl) (fun _ _ _ h=>h) (by rfl) (fun w'=>?_) ?_ ?_;rotate_left;(go_simp;with_reducible rfl);rotate_left;(simp only [Act.put,zz21,zz22,zz23,i64_w,i32_w];rfl)
      refine zz32 (v:=?_) (a':=?_) 1 (some 8) #[T,T,F,F,F,F,F,F,F,F,F,F] rfl rfl HT_.out (by kernel_rfl) (fun _ _ _ h=>h) (by rfl) (fun w'=>?_) ?_ ?_;rotate_left;(go_simp;with_reducible rfl);rotate_left;(simp only [Act.put,zz21,zz22,zz23,i64_w,i32_w];rfl)
      refine zz32 (v:=?_) (a':=?_) 2 (some 9) #[T,T,T,F,F,F,F,F,F,F,F,F] rfl rfl HT_.out (by kernel_rfl) (fun _ _ _ h=>h) (by rfl) (fun w'=>?_) ?_ ?_;rotate_left;(go_simp;with_reducible rfl);rotate_left;(simp only [Act.put,zz21,zz22,zz23,i64_w,i32_w];rfl)
      refine zz32 (v:=?_) (a':=?_) 3 (some 10) #[T,T,T,T,F,F,F,F,F,F,F,F] rfl rfl HT_.out (by kernel_rfl) (fun _ _ _ h=>h) (by rfl) (fun w'=>?_) ?_ ?_;rotate_left;(go_simp;with_reducible rfl);rotate_left;(simp only [Act.put,zz21,zz22,zz23,i64_w,i32_w];rfl)
      refine zz32 (v:=?_) (a':=?_) 4 (some 11) #[T,T,T,T,T,F,F,F,F,F,F,F] rfl rfl HT_.out (by kernel_rfl) (fun _ _ _ h=>h) (by rfl) (fun w'=>?_) ?_ ?_;rotate_left;(go_simp;with_reducible rfl);rotate_left;(simp only [Act.put,zz21,zz22,zz23,i64_w,i32_w];rfl)
      refine zz32 (v:=?_) (a':=?_) 5 (some 12) #[T,T,T,T,T,T,F,F,F,F,F,F] rfl rfl HT_.out (by kernel_rfl) (fun _ _ _ h=>h) (by rfl) (fun w'=>?_) ?_ ?_;rotate_left;(go_simp;with_reducible rfl);rotate_left;(simp only [Act.put,zz21,zz22,zz23,i64_w,i32_w];rfl)
      refine zz32 (v:=?_) (a':=?_) 6 (some 13) #[T,T,T,T,T,T,T,F,F,F,F,F] rfl rfl HT_.out (by kernel_rfl) (fun _ _ _ h=>h) (by rfl) (fun w'=>?_) ?_ ?_;rotate_left;(go_simp;with_reducible rfl);rotate_left;(simp only [Act.put,zz21,zz22,zz23,i64_w,i32_w];rfl)
      refine zz32 (v:=?_) (a':=?_) 7 (some 14) #[T,T,T,T,T,T,T,T,F,F,F,F] rfl rfl HT_.out (by kernel_rfl) (fun _ _ _ h=>h) (by rfl) (fun w'=>?_) ?_ ?_;rotate_left;(go_simp;with_reducible rfl);rotate_left;(simp only [Act.put,zz21,zz22,zz23,i64_w,i32_w];rfl)
      refine zz33 (v:=?_) (a':=?_) 8 (some 15) #[T,T,T,T,T,T,T,T,T,F,F,F] rfl rfl HT_.out HW_.out (by kernel_rfl) (fun _ _ _ h=>h) (by rfl) ?_ hHeld ?_ ?_;rotate_left;(rintro w' ⟨s0,s1,s2,s3⟩;go_simp;with_reducible rfl);rotate_left;(simp only [Act.put,zz21,zz22,zz23,i64_w,i32_w];rfl)
      refine zz33 (v:=?_) (a':=?_) 9 (some 16) #[T,T,T,T,T,T,T,T,T,T,F,F] rfl rfl HT_.out HW_.out (by kernel_rfl) (fun _ _ _ h=>h) (by rfl) ?_ hHeld ?_ ?_;rotate_left;(rintro w' ⟨s0,s1,s2,s3⟩;go_simp;with_reducible rfl);rotate_left;(simp only [Act.put,zz21,zz22,zz23,i64_w,i32_w];rfl)
      refine one_ (i:=10) (N:=some 17) #[T,T,T,T,T,T,T,T,T,T,T,F] rfl rfl (one_of HT_.out (by kernel_rfl)) (by decide) (fun K hK=>?_)
      refine goes_ Try.func62 (by kernel_rfl) rfl #[.agg #[.int .i64 ((rd_T30 l0 x5_1).f0),.slice A179_1 ((rd_T30 l0 x5_1).f1).length c179_1],.agg #[.int .i64 a1_0,.slice A1_1 l1_1.length c1_1]] (by rfl) rfl rfl (by (try simp only [zz26,zz27,zz28]);first | done | rfl | (simp only [zz24,zz25];rfl)) ?_
      with_reducible refine (spec_paBefore.calls k1 ((rd_T30 l0 x5_1).f0) _ _ ((rd_T30 l0 x5_1).f1) a1_0 _ _ l1_1 true _ ?side1 ?side2 ?side3 ?side4 A6.out).mono ?_
      (case side1=>repeat (first | exact (by repeat (first | (with_reducible exact HR179_1.out) | (with_reducible refine zz18 ?_ _) | (with_reducible refine zz19 ?_ _) | (with_reducible refine zz20 ?_) | exact HR179_1.out)) | (with_reducible refine zz18 ?_ _) | (with_reducible refine zz19 ?_ _) | (with_reducible refine zz20 ?_)))
      (case side2=>exact HC179_1.out)
      (case side3=>repeat (first | exact (Kd.V_reads' HO_179001.out).2.2 | (with_reducible refine zz18 ?_ _) | (with_reducible refine zz19 ?_ _) | (with_reducible refine zz20 ?_)))
      (case side4=>exact (Kd.V_reads' HO_179001.out).2.1)
      rintro e w9 ⟨rfl,hb⟩
      have HS2_:=(hb.cell (World.block_lt_of_cell? _ _ (hHeld.2.2.1))).trans (hHeld.2.2.1)
      have HS3_:=(hb.cell (World.block_lt_of_cell? _ _ (hHeld.2.2.2))).trans (hHeld.2.2.2)
      refine ⟨_,rfl,?_⟩
      replace HO_0:=zz31 (Kd.V_below (by (with_reducible repeat (first | apply Kd.V_alloc | apply Kd.V_drewN | apply Kd.V_drew));exact HO_0.out) hb)
      replace HO_179001:=zz31 (Kd.V_below (by (with_reducible repeat (first | apply Kd.V_alloc | apply Kd.V_drewN | apply Kd.V_drew));exact HO_179001.out) hb)
      replace HL179_1:=zz31 (Kd.V_below (by (with_reducible repeat (first | apply Kd.V_alloc | apply Kd.V_drewN | apply Kd.V_drew));exact HL179_1.out) hb)
      replace BK178:=zz31 (zz11 (g:=gb178) (o:=.cells #[.int .i64 a1_0,.slice A1_1 l1_1.length c1_1] 30 (0,0)) (by (with_reducible repeat (first | refine zz6 ?_ _ | refine zz7 ?_ | refine zz8 ?_ _));exact BK178.out) hb)
      replace HR179_1:=zz31 (Kd.C_below (by repeat (first | (with_reducible exact HR179_1.out) | (with_reducible refine zz18 ?_ _) | (with_reducible refine zz19 ?_ _) | (with_reducible refine zz20 ?_) | exact HR179_1.out)) hb)
      replace HB:=zz31 (zz4 (by repeat first | exact HB.out | apply zz2 | apply zz0 | apply zz1 | refine zz3 ?_ GE178.out) hb)
      (try clear hb)
      (try clear hb2)
      (try clear hk)
      (try clear hi)
      refine hK.out _ _ ⟨(zz9 BK178.out 0).trans rfl,(zz9 BK178.out 1).trans rfl,HS2_,HS3_⟩ (fun hHeld=>?_)
      clear hK K
      refine norm_ (a':=?_) ?_ ?_;rotate_left;(show Act.put _ (some 17) _=_;simp only [Act.put,zz21,zz22,zz23,i64_w,i32_w];rfl)
      refine zz32 (v:=?_) (a':=?_) 11 (some 18) #[T,T,T,T,T,T,T,T,T,T,T,T] rfl rfl HT_.out (by kernel_rfl) (fun _ _ _ h=>h) (by rfl) (fun w'=>?_) ?_ ?_;rotate_left;(go_simp;with_reducible rfl);rotate_left;(simp only [Act.put,zz21,zz22,zz23,i64_w,i32_w];rfl)
      refine done_ (done_of HT_.out (by kernel_rfl)) ?_
      try go_wp2
      go_roundg k1
      case measure=>have:=HK1.out;omega
      case rel=>exact ⟨(wrap64 (x5_1+1)),(by first | rfl | (simp;done) | (simp [*];done)),H',⟨by have:=HK1.out;omega⟩,⟨by (with_reducible repeat (first | apply Kd.V_alloc | apply Kd.V_drewN | apply Kd.V_drew));exact HO_0.out⟩,⟨by (with_reducible repeat (first | apply Kd.V_alloc | apply Kd.V_drewN | apply Kd.V_drew));exact HO_179001.out⟩,⟨by (with_reducible repeat (first | refine zz6 ?_ _ | refine zz7 ?_ | refine zz8 ?_ _));exact BK178.out⟩,⟨by repeat first | exact HB.out | apply zz2 | apply zz0 | apply zz1 | refine zz3 ?_ GE178.out⟩⟩
     ·replace c7:=Bool.eq_false_iff.mpr c7
      subst c7
      have H1:((spec_paSame.f k1 ((rd_T30 l0 x5_1).f0) ((rd_T30 l0 x5_1).f1) a1_0 l1_1).bind fun t182=>(if t182=true then (some l0) else ((some (([]:List (S30)):List (S30))).bind fun y183=>(if x5_1≤(l0.length:Int) then ((some (l0.take (x5_1:Int).toNat:List (S30))).bind fun y186=>(if y183.length+y186.length < 4398046511104 then ((some (y183 ++ y186:List (S30))).bind fun y191=>((some (([(⟨a1_0,l1_1⟩:S30)]:List (S30)):List (S30))).bind fun y194=>(if y191.length+y194.length < 4398046511104 then ((some (y191 ++ y194:List (S30))).bind fun y197=>((some (l0.drop (x5_1:Int).toNat:List (S30))).bind fun y200=>(if y197.length+y200.length < 4398046511104 then (some (y197 ++ y200)) else (none)))) else (none)))) else (none))) else (none)))))=some r:=by rw [if_neg (show ¬ (false=true) by decide)] at H;exact H
      clear H
      have H:=H1
      clear H1
      replace H:=zz30.mp H
      obtain ⟨t182,A100,H⟩:=H
      replace H:(if t182=true then (some l0) else ((some (([]:List (S30)):List (S30))).bind fun y183=>(if x5_1≤(l0.length:Int) then ((some (l0.take (x5_1:Int).toNat:List (S30))).bind fun y186=>(if y183.length+y186.length < 4398046511104 then ((some (y183 ++ y186:List (S30))).bind fun y191=>((some (([(⟨a1_0,l1_1⟩:S30)]:List (S30)):List (S30))).bind fun y194=>(if y191.length+y194.length < 4398046511104 then ((some (y191 ++ y194:List (S30))).bind fun y197=>((some (l0.drop (x5_1:Int).toNat:List (S30))).bind fun y200=>(if y197.length+y200.length < 4398046511104 then (some (y197 ++ y200)) else (none)))) else (none)))) else (none))) else (none))))=some r:=H
      have A10:=zz31 A100
      clear A100
      by_cases c11:t182=true
      ·subst c11
       have H1:(some l0)=some r:=by rw [if_pos rfl] at H;exact H
       clear H
       have H:=H1
       clear H1
       obtain rfl:=Option.some.inj H
       try go_wp2
       replace HO_0:=zz31 (Kd.V_drew HO_0.out)
       replace HO_179001:=zz31 (Kd.V_drew HO_179001.out)
       replace BK178:=zz31 (zz7 BK178.out)
       replace HB:=zz31 (zz1 HB.out)
       have p179:0≤(x5_1:Int):=zz29 (by first | (with_reducible assumption) | assumption)
       have q179:x5_1 < (l0.length:Int):=zz29 (by first | (with_reducible assumption) | assumption)
       obtain ⟨ad179,A179_1,c179_1,e179,hx179_0,hx179_1,hl179_1,hi179_1⟩:=at_T30 (Kd.V_reads' HO_0.out).2.2 x5_1 p179 q179
       cases e179
       obtain ⟨ce179,hce179,hMe179,hcc179⟩:=Kd.V_get HO_0.out z30 x5_1 p179 (by first | exact q179 | exact zz29 (by first | (with_reducible assumption) | assumption) | (have e_:=(Kd.V_reads' HO_0.out).1;omega))
       obtain ⟨ua179_1,uc179_1,rfl,ul179_1,ge179_1⟩:=k30_openF hMe179
       have hv179_1:=hcc179 1 _ rfl
       rw [add_field _ _ 1 (by omega)] at hv179_1
       replace hv179_1:=Option.some.inj (hv179_1.symm.trans hx179_1)
       injection hv179_1 with hva_ hvn_ hvc_
       rw [hva_] at ge179_1
       rw [hvc_] at ul179_1
       have HL179_1:=zz31 (show Kd.V k70 70 _ w.heap.size _ _ ((rd_T30 l0 x5_1).f1) from Kd.V_mk ul179_1 ge179_1)
       clear hva_ hvn_ hvc_ ge179_1 ul179_1
       clear hcc179 hce179
       have HR179_1:=zz31 hi179_1
       have HC179_1:=zz31 hl179_1
       clear hi179_1 hl179_1
       replace p179:=eq_true p179
       replace q179:=eq_true q179
       refine start_ (n:=12) (S:=fun w'=>w'.cell? ⟨gb178,0,none⟩=some (.int .i64 a1_0)∧w'.cell? ⟨gb178,1,none⟩=some (.slice A1_1 l1_1.length c1_1)∧w'.cell? (ad179.add ((x5_1).toNat * 2))=some (.int .i64 ((rd_T30 l0 x5_1).f0))∧w'.cell? ⟨(ad179.add ((x5_1).toNat * 2)).block,(ad179.add ((x5_1).toNat * 2)).off+1,none⟩=some (.slice A179_1 ((rd_T30 l0 x5_1).f1).length c179_1)) (ds:=[]) #[F,F,F,F,F,F,F,F,F,F,F,F] (by kernel_rfl) rfl rfl ⟨(zz9 BK178.out 0).trans rfl,(zz9 BK178.out 1).trans rfl,hx179_0,hx179_1⟩ (fun hHeld=>?_);refine with_tabW spec_dePut.tab2 spec_dePut.bits2 (fun HT_ HW_=>?_)
       generalize wr.drew=w12 at HO_0 HO_179001 BK178 HB HL179_1 HR179_1 hx179_0 hx179_1 hHeld ⊢
       refine zz32 (v:=?_) (a':=?_) 0 (some 7) #[T,F,F,F,F,F,F,F,F,F,F,F] rfl rfl HT_.out (by kernel_rfl) (fun _ _ _ h=>h) (by rfl) (fun w'=>?_) ?_ ?_;rotate_left;(go_simp;with_reducible rfl);rotate_left;(simp only [Act.put,zz21,zz22,zz23,i64_w,i32_w];rfl)
       refine zz32 (v:=?_) (a':=?_) 1 (some 8) #[T,T,F,F,F,F,F,F,F,F,F,F] rfl rfl HT_.out (by kernel_rfl) (fun _ _ _ h=>h) (by rfl) (fun w'=>?_) ?_ ?_;rotate_left;(go_simp;with_reducible rfl);rotate_left;(simp only [Act.put,zz21,zz22,zz23,i64_w,i32_w];rfl)
       refine zz32 (v:=?_) (a':=?_) 2 (some 9) #[T,T,T,F,F,F,F,F,F,F,F,F] rfl rfl HT_.out (by kernel_rfl) (fun _ _ _ h=>h) (by rfl) (fun w'=>?_) ?_ ?_;rotate_left;(go_simp;with_reducible rfl);rotate_left;(simp only [Act.put,zz21,zz22,zz23,i64_w,i32_w];rfl)
       refine zz32 (v:=?_) (a':=?_) 3 (some 10) #[T,T,T,T,F,F,F,F,F,F,F,F] rfl rfl HT_.out (by kernel_rfl) (fun _ _ _ h=>h) (by rfl) (fun w'=>?_) ?_ ?_;rotate_left;(go_simp;with_reducible rfl);rotate_left;(simp only [Act.put,zz21,zz22,zz23,i64_w,i32_w];rfl)
       refine zz32 (v:=?_) (a':=?_) 4 (some 11) #[T,T,T,T,T,F,F,F,F,F,F,F] rfl rfl HT_.out (by kernel_rfl) (fun _ _ _ h=>h) (by rfl) (fun w'=>?_) ?_ ?_;rotate_left;(go_simp;with_reducible rfl);rotate_left;(simp only [Act.put,zz21,zz22,zz23,i64_w,i32_w];rfl)
       refine zz32 (v:=?_) (a':=?_) 5 (some 12) #[T,T,T,T,T,T,F,F,F,F,F,F] rfl rfl HT_.out (by kernel_rfl) (fun _ _ _ h=>h) (by rfl) (fun w'=>?_) ?_ ?_;rotate_left;(go_simp;with_reducible rfl);rotate_left;(simp only [Act.put,zz21,zz22,zz23,i64_w,i32_w];rfl)
       refine zz32 (v:=?_) (a':=?_) 6 (some 13) #[T,T,T,T,T,T,T,F,F,F,F,F] rfl rfl HT_.out (by kernel_rfl) (fun _ _ _ h=>h) (by rfl) (fun w'=>?_) ?_ ?_;rotate_left;(go_simp;with_reducible rfl);rotate_left;(simp only [Act.put,zz21,zz22,zz23,i64_w,i32_w];rfl)
       refine zz32 (v:=?_) (a':=?_) 7 (some 14) #[T,T,T,T,T,T,T,T,F,F,F,F] rfl rfl HT_.out (by kernel_rfl) (fun _ _ _ h=>h) (by rfl) (fun w'=>?_) ?_ ?_;rotate_left;(go_simp;with_reducible rfl);rotate_left;(simp only [Act.put,zz21,zz22,zz23,i64_w,i32_w];rfl)
       refine zz33 (v:=?_) (a':=?_) 8 (some 15) #[T,T,T,T,T,T,T,T,T,F,F,F] rfl rfl HT_.out HW_.out (by kernel_rfl) (fun _ _ _ h=>h) (by rfl) ?_ hHeld ?_ ?_;rotate_left;(rintro w' ⟨s0,s1,s2,s3⟩;go_simp;with_reducible rfl);rotate_left;(simp only [Act.put,zz21,zz22,zz23,i64_w,i32_w];rfl)
       refine zz33 (v:=?_) (a':=?_) 9 (some 16) #[T,T,T,T,T,T,T,T,T,T,F,F] rfl rfl HT_.out HW_.out (by kernel_rfl) (fun _ _ _ h=>h) (by rfl) ?_ hHeld ?_ ?_;rotate_left;(rintro w' ⟨s0,s1,s2,s3⟩;go_simp;with_reducible rfl);rotate_left;(simp only [Act.put,zz21,zz22,zz23,i64_w,i32_w];rfl)
       refine one_ (i:=10) (N:=some 17) #[T,T,T,T,T,T,T,T,T,T,T,F] rfl rfl (one_of HT_.out (by kernel_rfl)) (by decide) (fun K hK=>?_)
       refine goes_ Try.func62 (by kernel_rfl) rfl #[.agg #[.int .i64 ((rd_T30 l0 x5_1).f0),.slice A179_1 ((rd_T30 l0 x5_1).f1).length c179_1],.agg #[.int .i64 a1_0,.slice A1_1 l1_1.length c1_1]] (by rfl) rfl rfl (by (try simp only [zz26,zz27,zz28]);first | done | rfl | (simp only [zz24,zz25];rfl)) ?_
       with_reducible refine (spec_paBefore.calls k1 ((rd_T30 l0 x5_1).f0) _ _ ((rd_T30 l0 x5_1).f1) a1_0 _ _ l1_1 false _ ?side1 ?side2 ?side3 ?side4 A6.out).mono ?_
       (case side1=>repeat (first | exact (by repeat (first | (with_reducible exact HR179_1.out) | (with_reducible refine zz18 ?_ _) | (with_reducible refine zz19 ?_ _) | (with_reducible refine zz20 ?_) | exact HR179_1.out)) | (with_reducible refine zz18 ?_ _) | (with_reducible refine zz19 ?_ _) | (with_reducible refine zz20 ?_)))
       (case side2=>exact HC179_1.out)
       (case side3=>repeat (first | exact (Kd.V_reads' HO_179001.out).2.2 | (with_reducible refine zz18 ?_ _) | (with_reducible refine zz19 ?_ _) | (with_reducible refine zz20 ?_)))
       (case side4=>exact (Kd.V_reads' HO_179001.out).2.1)
       rintro e w13 ⟨rfl,hb⟩
       have HS2_:=(hb.cell (World.block_lt_of_cell? _ _ (hHeld.2.2.1))).trans (hHeld.2.2.1)
       have HS3_:=(hb.cell (World.block_lt_of_cell? _ _ (hHeld.2.2.2))).trans (hHeld.2.2.2)
       refine ⟨_,rfl,?_⟩
       replace HO_0:=zz31 (Kd.V_below (by (with_reducible repeat (first | apply Kd.V_alloc | apply Kd.V_drewN | apply Kd.V_drew));exact HO_0.out) hb)
       replace HO_179001:=zz31 (Kd.V_below (by (with_reducible repeat (first | apply Kd.V_alloc | apply Kd.V_drewN | apply Kd.V_drew));exact HO_179001.out) hb)
       replace HL179_1:=zz31 (Kd.V_below (by (with_reducible repeat (first | apply Kd.V_alloc | apply Kd.V_drewN | apply Kd.V_drew));exact HL179_1.out) hb)
       replace BK178:=zz31 (zz11 (g:=gb178) (o:=.cells #[.int .i64 a1_0,.slice A1_1 l1_1.length c1_1] 30 (0,0)) (by (with_reducible repeat (first | refine zz6 ?_ _ | refine zz7 ?_ | refine zz8 ?_ _));exact BK178.out) hb)
       replace HR179_1:=zz31 (Kd.C_below (by repeat (first | (with_reducible exact HR179_1.out) | (with_reducible refine zz18 ?_ _) | (with_reducible refine zz19 ?_ _) | (with_reducible refine zz20 ?_) | exact HR179_1.out)) hb)
       replace HB:=zz31 (zz4 (by repeat first | exact HB.out | apply zz2 | apply zz0 | apply zz1 | refine zz3 ?_ GE178.out) hb)
       (try clear hb)
       (try clear hb2)
       (try clear hk)
       (try clear hi)
       refine hK.out _ _ ⟨(zz9 BK178.out 0).trans rfl,(zz9 BK178.out 1).trans rfl,HS2_,HS3_⟩ (fun hHeld=>?_)
       clear hK K
       refine norm_ (a':=?_) ?_ ?_;rotate_left;(show Act.put _ (some 17) _=_;simp only [Act.put,zz21,zz22,zz23,i64_w,i32_w];rfl)
       refine zz32 (v:=?_) (a':=?_) 11 (some 18) #[T,T,T,T,T,T,T,T,T,T,T,T] rfl rfl HT_.out (by kernel_rfl) (fun _ _ _ h=>h) (by rfl) (fun w'=>?_) ?_ ?_;rotate_left;(go_simp;with_reducible rfl);rotate_left;(simp only [Act.put,zz21,zz22,zz23,i64_w,i32_w];rfl)
       refine done_ (done_of HT_.out (by kernel_rfl)) ?_
       try go_wp2
       replace HO_0:=zz31 (Kd.V_drew HO_0.out)
       replace HO_179001:=zz31 (Kd.V_drew HO_179001.out)
       replace HL179_1:=zz31 (Kd.V_drew HL179_1.out)
       replace BK178:=zz31 (zz7 BK178.out)
       replace HR179_1:=zz31 (zz20 HR179_1.out)
       replace HB:=zz31 (zz1 HB.out)
       have p181:0≤(x5_1:Int):=zz29 (by first | (with_reducible assumption) | assumption)
       have q181:x5_1 < (l0.length:Int):=zz29 (by first | (with_reducible assumption) | assumption)
       obtain ⟨ad181,A181_1,c181_1,e181,hx181_0,hx181_1,hl181_1,hi181_1⟩:=at_T30 (Kd.V_reads' HO_0.out).2.2 x5_1 p181 q181
       obtain rfl:ad179=ad181:=(by injection e181)
       obtain ⟨ce181,hce181,hMe181,hcc181⟩:=Kd.V_get HO_0.out z30 x5_1 p181 (by first | exact q181 | exact zz29 (by first | (with_reducible assumption) | assumption) | (have e_:=(Kd.V_reads' HO_0.out).1;omega))
       obtain ⟨ua181_1,uc181_1,rfl,ul181_1,ge181_1⟩:=k30_openF hMe181
       have hv181_1:=hcc181 1 _ rfl
       rw [add_field _ _ 1 (by omega)] at hv181_1
       replace hv181_1:=Option.some.inj (hv181_1.symm.trans hx181_1)
       injection hv181_1 with hva_ hvn_ hvc_
       rw [hva_] at ge181_1
       rw [hvc_] at ul181_1
       have HL181_1:=zz31 (show Kd.V k70 70 _ w.heap.size _ _ ((rd_T30 l0 x5_1).f1) from Kd.V_mk ul181_1 ge181_1)
       clear hva_ hvn_ hvc_ ge181_1 ul181_1
       clear hcc181 hce181
       have HR181_1:=zz31 hi181_1
       have HC181_1:=zz31 hl181_1
       clear hi181_1 hl181_1
       replace p181:=eq_true p181
       replace q181:=eq_true q181
       refine start_ (n:=12) (S:=fun w'=>w'.cell? ⟨gb178,0,none⟩=some (.int .i64 a1_0)∧w'.cell? ⟨gb178,1,none⟩=some (.slice A1_1 l1_1.length c1_1)∧w'.cell? (ad179.add ((x5_1).toNat * 2))=some (.int .i64 ((rd_T30 l0 x5_1).f0))∧w'.cell? ⟨(ad179.add ((x5_1).toNat * 2)).block,(ad179.add ((x5_1).toNat * 2)).off+1,none⟩=some (.slice A181_1 ((rd_T30 l0 x5_1).f1).length c181_1)) (ds:=[]) #[F,F,F,F,F,F,F,F,F,F,F,F] (by kernel_rfl) rfl rfl ⟨(zz9 BK178.out 0).trans rfl,(zz9 BK178.out 1).trans rfl,hx181_0,hx181_1⟩ (fun hHeld=>?_);refine with_tabW spec_dePut.tab4 spec_dePut.bits4 (fun HT_ HW_=>?_)
       generalize w13.drew=w14 at HO_0 HO_179001 HL179_1 BK178 HR179_1 HB HL181_1 HR181_1 hx181_0 hx181_1 hHeld ⊢
       refine zz32 (v:=?_) (a':=?_) 0 (some 21) #[T,F,F,F,F,F,F,F,F,F,F,F] rfl rfl HT_.out (by kernel_rfl) (fun _ _ _ h=>h) (by rfl) (fun w'=>?_) ?_ ?_;rotate_left;(go_simp;with_reducible rfl);rotate_left;(simp only [Act.put,zz21,zz22,zz23,i64_w,i32_w];rfl)
       refine zz32 (v:=?_) (a':=?_) 1 (some 22) #[T,T,F,F,F,F,F,F,F,F,F,F] rfl rfl HT_.out (by kernel_rfl) (fun _ _ _ h=>h) (by rfl) (fun w'=>?_) ?_ ?_;rotate_left;(go_simp;with_reducible rfl);rotate_left;(simp only [Act.put,zz21,zz22,zz23,i64_w,i32_w];rfl)
       refine zz32 (v:=?_) (a':=?_) 2 (some 23) #[T,T,T,F,F,F,F,F,F,F,F,F] rfl rfl HT_.out (by kernel_rfl) (fun _ _ _ h=>h) (by rfl) (fun w'=>?_) ?_ ?_;rotate_left;(go_simp;with_reducible rfl);rotate_left;(simp only [Act.put,zz21,zz22,zz23,i64_w,i32_w];rfl)
       refine zz32 (v:=?_) (a':=?_) 3 (some 24) #[T,T,T,T,F,F,F,F,F,F,F,F] rfl rfl HT_.out (by kernel_rfl) (fun _ _ _ h=>h) (by rfl) (fun w'=>?_) ?_ ?_;rotate_left;(go_simp;with_reducible rfl);rotate_left;(simp only [Act.put,zz21,zz22,zz23,i64_w,i32_w];rfl)
       refine zz32 (v:=?_) (a':=?_) 4 (some 25) #[T,T,T,T,T,F,F,F,F,F,F,F] rfl rfl HT_.out (by kernel_rfl) (fun _ _ _ h=>h) (by rfl) (fun w'=>?_) ?_ ?_;rotate_left;(go_simp;with_reducible rfl);rotate_left;(simp only [Act.put,zz21,zz22,zz23,i64_w,i32_w];rfl)
       refine zz32 (v:=?_) (a':=?_) 5 (some 26) #[T,T,T,T,T,T,F,F,F,F,F,F] rfl rfl HT_.out (by kernel_rfl) (fun _ _ _ h=>h) (by rfl) (fun w'=>?_) ?_ ?_;rotate_left;(go_simp;with_reducible rfl);rotate_left;(simp only [Act.put,zz21,zz22,zz23,i64_w,i32_w];rfl)
       refine zz32 (v:=?_) (a':=?_) 6 (some 27) #[T,T,T,T,T,T,T,F,F,F,F,F] rfl rfl HT_.out (by kernel_rfl) (fun _ _ _ h=>h) (by rfl) (fun w'=>?_) ?_ ?_;rotate_left;(go_simp;with_reducible rfl);rotate_left;(simp only [Act.put,zz21,zz22,zz23,i64_w,i32_w];rfl)
       refine zz32 (v:=?_) (a':=?_) 7 (some 28) #[T,T,T,T,T,T,T,T,F,F,F,F] rfl rfl HT_.out (by kernel_rfl) (fun _ _ _ h=>h) (by rfl) (fun w'=>?_) ?_ ?_;rotate_left;(go_simp;with_reducible rfl);rotate_left;(simp only [Act.put,zz21,zz22,zz23,i64_w,i32_w];rfl)
       refine zz33 (v:=?_) (a':=?_) 8 (some 29) #[T,T,T,T,T,T,T,T,T,F,F,F] rfl rfl HT_.out HW_.out (by kernel_rfl) (fun _ _ _ h=>h) (by rfl) ?_ hHeld ?_ ?_;rotate_left;(rintro w' ⟨s0,s1,s2,s3⟩;go_simp;with_reducible rfl);rotate_left;(simp only [Act.put,zz21,zz22,zz23,i64_w,i32_w];rfl)
       refine zz33 (v:=?_) (a':=?_) 9 (some 30) #[T,T,T,T,T,T,T,T,T,T,F,F] rfl rfl HT_.out HW_.out (by kernel_rfl) (fun _ _ _ h=>h) (by rfl) ?_ hHeld ?_ ?_;rotate_left;(rintro w' ⟨s0,s1,s2,s3⟩;go_simp;with_reducible rfl);rotate_left;(simp only [Act.put,zz21,zz22,zz23,i64_w,i32_w];rfl)
       refine one_ (i:=10) (N:=some 31) #[T,T,T,T,T,T,T,T,T,T,T,F] rfl rfl (one_of HT_.out (by kernel_rfl)) (by decide) (fun K hK=>?_)
       refine goes_ Try.func32 (by kernel_rfl) rfl #[.agg #[.int .i64 ((rd_T30 l0 x5_1).f0),.slice A181_1 ((rd_T30 l0 x5_1).f1).length c181_1],.agg #[.int .i64 a1_0,.slice A1_1 l1_1.length c1_1]] (by rfl) rfl rfl (by (try simp only [zz26,zz27,zz28]);first | done | rfl | (simp only [zz24,zz25];rfl)) ?_
       with_reducible refine (spec_paSame.calls k1 ((rd_T30 l0 x5_1).f0) _ _ ((rd_T30 l0 x5_1).f1) a1_0 _ _ l1_1 true _ ?side1 ?side2 ?side3 ?side4 A10.out).mono ?_
       (case side1=>repeat (first | exact (by repeat (first | (with_reducible exact HR181_1.out) | (with_reducible refine zz18 ?_ _) | (with_reducible refine zz19 ?_ _) | (with_reducible refine zz20 ?_) | exact HR181_1.out)) | (with_reducible refine zz18 ?_ _) | (with_reducible refine zz19 ?_ _) | (with_reducible refine zz20 ?_)))
       (case side2=>exact HC181_1.out)
       (case side3=>repeat (first | exact (Kd.V_reads' HO_179001.out).2.2 | (with_reducible refine zz18 ?_ _) | (with_reducible refine zz19 ?_ _) | (with_reducible refine zz20 ?_)))
       (case side4=>exact (Kd.V_reads' HO_179001.out).2.1)
       rintro e w15 ⟨rfl,hb⟩
       have HS2_:=(hb.cell (World.block_lt_of_cell? _ _ (hHeld.2.2.1))).trans (hHeld.2.2.1)
       have HS3_:=(hb.cell (World.block_lt_of_cell? _ _ (hHeld.2.2.2))).trans (hHeld.2.2.2)
       refine ⟨_,rfl,?_⟩
       replace HO_0:=zz31 (Kd.V_below (by (with_reducible repeat (first | apply Kd.V_alloc | apply Kd.V_drewN | apply Kd.V_drew));exact HO_0.out) hb)
       replace HO_179001:=zz31 (Kd.V_below (by (with_reducible repeat (first | apply Kd.V_alloc | apply Kd.V_drewN | apply Kd.V_drew));exact HO_179001.out) hb)
       replace HL179_1:=zz31 (Kd.V_below (by (with_reducible repeat (first | apply Kd.V_alloc | apply Kd.V_drewN | apply Kd.V_drew));exact HL179_1.out) hb)
       replace HL181_1:=zz31 (Kd.V_below (by (with_reducible repeat (first | apply Kd.V_alloc | apply Kd.V_drewN | apply Kd.V_drew));exact HL181_1.out) hb)
       replace BK178:=zz31 (zz11 (g:=gb178) (o:=.cells #[.int .i64 a1_0,.slice A1_1 l1_1.length c1_1] 30 (0,0)) (by (with_reducible repeat (first | refine zz6 ?_ _ | refine zz7 ?_ | refine zz8 ?_ _));exact BK178.out) hb)
       replace HR179_1:=zz31 (Kd.C_below (by repeat (first | (with_reducible exact HR179_1.out) | (with_reducible refine zz18 ?_ _) | (with_reducible refine zz19 ?_ _) | (with_reducible refine zz20 ?_) | exact HR179_1.out)) hb)
       replace HR181_1:=zz31 (Kd.C_below (by repeat (first | (with_reducible exact HR181_1.out) | (with_reducible refine zz18 ?_ _) | (with_reducible refine zz19 ?_ _) | (with_reducible refine zz20 ?_) | exact HR181_1.out)) hb)
       replace HB:=zz31 (zz4 (by repeat first | exact HB.out | apply zz2 | apply zz0 | apply zz1 | refine zz3 ?_ GE178.out) hb)
       (try clear hb)
       (try clear hb2)
       (try clear hk)
       (try clear hi)
       refine hK.out _ _ ⟨(zz9 BK178.out 0).trans rfl,(zz9 BK178.out 1).trans rfl,HS2_,HS3_⟩ (fun hHeld=>?_)
       clear hK K
       refine norm_ (a':=?_) ?_ ?_;rotate_left;(show Act.put _ (some 31) _=_;simp only [Act.put,zz21,zz22,zz23,i64_w,i32_w];rfl)
       refine zz32 (v:=?_) (a':=?_) 11 (some 32) #[T,T,T,T,T,T,T,T,T,T,T,T] rfl rfl HT_.out (by kernel_rfl) (fun _ _ _ h=>h) (by rfl) (fun w'=>?_) ?_ ?_;rotate_left;(go_simp;with_reducible rfl);rotate_left;(simp only [Act.put,zz21,zz22,zz23,i64_w,i32_w];rfl)
       refine done_ (done_of HT_.out (by kernel_rfl)) ?_
       try go_wp2
       go_ret
       exact ⟨_,by first | rfl | (simp [errW_none,errW_some] <;> rfl) | (simp [*,errW_none,errW_some] <;> rfl),by (with_reducible repeat (first | apply Kd.V_alloc | apply Kd.V_drewN | apply Kd.V_drew));exact Kd.V_mono HO_0.out (fun _ hk=>hk.1),by repeat first | exact HB.out | apply zz2 | apply zz0 | apply zz1 | refine zz3 ?_ GE178.out⟩
      ·replace c11:=Bool.eq_false_iff.mpr c11
       subst c11
       have H1:((some (([]:List (S30)):List (S30))).bind fun y183=>(if x5_1≤(l0.length:Int) then ((some (l0.take (x5_1:Int).toNat:List (S30))).bind fun y186=>(if y183.length+y186.length < 4398046511104 then ((some (y183 ++ y186:List (S30))).bind fun y191=>((some (([(⟨a1_0,l1_1⟩:S30)]:List (S30)):List (S30))).bind fun y194=>(if y191.length+y194.length < 4398046511104 then ((some (y191 ++ y194:List (S30))).bind fun y197=>((some (l0.drop (x5_1:Int).toNat:List (S30))).bind fun y200=>(if y197.length+y200.length < 4398046511104 then (some (y197 ++ y200)) else (none)))) else (none)))) else (none))) else (none)))=some r:=by rw [if_neg (show ¬ (false=true) by decide)] at H;exact H
       clear H
       have H:=H1
       clear H1
       obtain ⟨y183,hy183⟩:∃ y_:List (S30),y_=(([]:List (S30))):=⟨_,rfl⟩
       replace H:(if x5_1≤(l0.length:Int) then ((some (l0.take (x5_1:Int).toNat:List (S30))).bind fun y186=>(if y183.length+y186.length < 4398046511104 then ((some (y183 ++ y186:List (S30))).bind fun y191=>((some (([(⟨a1_0,l1_1⟩:S30)]:List (S30)):List (S30))).bind fun y194=>(if y191.length+y194.length < 4398046511104 then ((some (y191 ++ y194:List (S30))).bind fun y197=>((some (l0.drop (x5_1:Int).toNat:List (S30))).bind fun y200=>(if y197.length+y200.length < 4398046511104 then (some (y197 ++ y200)) else (none)))) else (none)))) else (none))) else (none))=some r:=by first | (rw [hy183];with_reducible exact H) | (have H2_:=(Option.bind_some _ _).symm.trans H;rw [hy183];with_reducible exact H2_) | (have H2_:=(Option.bind_some _ _).symm.trans H;with_reducible exact H2_) | with_reducible exact H | (rw [hy183];exact H) | exact H
       have Ny183:=zz31 hy183
       clear hy183
       have c16b0:=eq_true (zz29 (by first | (with_reducible assumption) | assumption):0≤x5_1)
       by_cases c17:x5_1≤(l0.length:Int)
       ·rw [if_pos c17] at H
        have c17b0:=eq_true c17
        have c17b1:decide (x5_1≤(l0.length:Int))=true:=decide_eq_true c17
        clear c17
        obtain ⟨y186,hy186⟩:∃ y_:List (S30),y_=(l0.take (x5_1:Int).toNat):=⟨_,rfl⟩
        replace H:(if y183.length+y186.length < 4398046511104 then ((some (y183 ++ y186:List (S30))).bind fun y191=>((some (([(⟨a1_0,l1_1⟩:S30)]:List (S30)):List (S30))).bind fun y194=>(if y191.length+y194.length < 4398046511104 then ((some (y191 ++ y194:List (S30))).bind fun y197=>((some (l0.drop (x5_1:Int).toNat:List (S30))).bind fun y200=>(if y197.length+y200.length < 4398046511104 then (some (y197 ++ y200)) else (none)))) else (none)))) else (none))=some r:=by first | (rw [hy186];with_reducible exact H) | (have H2_:=(Option.bind_some _ _).symm.trans H;rw [hy186];with_reducible exact H2_) | (have H2_:=(Option.bind_some _ _).symm.trans H;with_reducible exact H2_) | with_reducible exact H | (rw [hy186];exact H) | exact H
        have Ny186:=zz31 hy186
        clear hy186
        by_cases c18:y183.length+y186.length < 4398046511104
        ·rw [if_pos c18] at H
         have LMc18:=zz31 c18
         clear c18
         obtain ⟨y191,hy191⟩:∃ y_:List (S30),y_=(y183 ++ y186):=⟨_,rfl⟩
         replace H:((some (([(⟨a1_0,l1_1⟩:S30)]:List (S30)):List (S30))).bind fun y194=>(if y191.length+y194.length < 4398046511104 then ((some (y191 ++ y194:List (S30))).bind fun y197=>((some (l0.drop (x5_1:Int).toNat:List (S30))).bind fun y200=>(if y197.length+y200.length < 4398046511104 then (some (y197 ++ y200)) else (none)))) else (none)))=some r:=by first | (rw [hy191];with_reducible exact H) | (have H2_:=(Option.bind_some _ _).symm.trans H;rw [hy191];with_reducible exact H2_) | (have H2_:=(Option.bind_some _ _).symm.trans H;with_reducible exact H2_) | with_reducible exact H | (rw [hy191];exact H) | exact H
         have Ny191:=zz31 hy191
         clear hy191
         obtain ⟨y194,hy194⟩:∃ y_:List (S30),y_=(([(⟨a1_0,l1_1⟩:S30)]:List (S30))):=⟨_,rfl⟩
         replace H:(if y191.length+y194.length < 4398046511104 then ((some (y191 ++ y194:List (S30))).bind fun y197=>((some (l0.drop (x5_1:Int).toNat:List (S30))).bind fun y200=>(if y197.length+y200.length < 4398046511104 then (some (y197 ++ y200)) else (none)))) else (none))=some r:=by first | (rw [hy194];with_reducible exact H) | (have H2_:=(Option.bind_some _ _).symm.trans H;rw [hy194];with_reducible exact H2_) | (have H2_:=(Option.bind_some _ _).symm.trans H;with_reducible exact H2_) | with_reducible exact H | (rw [hy194];exact H) | exact H
         have Ny194:=zz31 hy194
         clear hy194
         by_cases c19:y191.length+y194.length < 4398046511104
         ·rw [if_pos c19] at H
          have LMc19:=zz31 c19
          clear c19
          obtain ⟨y197,hy197⟩:∃ y_:List (S30),y_=(y191 ++ y194):=⟨_,rfl⟩
          replace H:((some (l0.drop (x5_1:Int).toNat:List (S30))).bind fun y200=>(if y197.length+y200.length < 4398046511104 then (some (y197 ++ y200)) else (none)))=some r:=by first | (rw [hy197];with_reducible exact H) | (have H2_:=(Option.bind_some _ _).symm.trans H;rw [hy197];with_reducible exact H2_) | (have H2_:=(Option.bind_some _ _).symm.trans H;with_reducible exact H2_) | with_reducible exact H | (rw [hy197];exact H) | exact H
          have Ny197:=zz31 hy197
          clear hy197
          have c20b0:=eq_true (zz29 (by first | (with_reducible assumption) | assumption):0≤x5_1)
          have c21b0:=eq_true (zz29 (by first | (with_reducible assumption) | assumption):x5_1≤(l0.length:Int))
          obtain ⟨y200,hy200⟩:∃ y_:List (S30),y_=(l0.drop (x5_1:Int).toNat):=⟨_,rfl⟩
          replace H:(if y197.length+y200.length < 4398046511104 then (some (y197 ++ y200)) else (none))=some r:=by first | (rw [hy200];with_reducible exact H) | (have H2_:=(Option.bind_some _ _).symm.trans H;rw [hy200];with_reducible exact H2_) | (have H2_:=(Option.bind_some _ _).symm.trans H;with_reducible exact H2_) | with_reducible exact H | (rw [hy200];exact H) | exact H
          have Ny200:=zz31 hy200
          clear hy200
          by_cases c22:y197.length+y200.length < 4398046511104
          ·rw [if_pos c22] at H
           have LMc22:=zz31 c22
           clear c22
           obtain ⟨y205,hy205⟩:∃ y_:List (S30),y_=(y197 ++ y200):=⟨_,rfl⟩
           replace H:(some y205)=some r:=by first | (rw [hy205];with_reducible exact H) | (have H2_:=(Option.bind_some _ _).symm.trans H;rw [hy205];with_reducible exact H2_) | (have H2_:=(Option.bind_some _ _).symm.trans H;with_reducible exact H2_) | with_reducible exact H | (rw [hy205];exact H) | exact H
           have Ny205:=zz31 hy205
           clear hy205
           obtain rfl:=Option.some.inj H
           try go_wp2
           replace HO_0:=zz31 (Kd.V_drew HO_0.out)
           replace HO_179001:=zz31 (Kd.V_drew HO_179001.out)
           replace BK178:=zz31 (zz7 BK178.out)
           replace HB:=zz31 (zz1 HB.out)
           have p179:0≤(x5_1:Int):=zz29 (by first | (with_reducible assumption) | assumption)
           have q179:x5_1 < (l0.length:Int):=zz29 (by first | (with_reducible assumption) | assumption)
           obtain ⟨ad179,A179_1,c179_1,e179,hx179_0,hx179_1,hl179_1,hi179_1⟩:=at_T30 (Kd.V_reads' HO_0.out).2.2 x5_1 p179 q179
           cases e179
           obtain ⟨ce179,hce179,hMe179,hcc179⟩:=Kd.V_get HO_0.out z30 x5_1 p179 (by first | exact q179 | exact zz29 (by first | (with_reducible assumption) | assumption) | (have e_:=(Kd.V_reads' HO_0.out).1;omega))
           obtain ⟨ua179_1,uc179_1,rfl,ul179_1,ge179_1⟩:=k30_openF hMe179
           have hv179_1:=hcc179 1 _ rfl
           rw [add_field _ _ 1 (by omega)] at hv179_1
           replace hv179_1:=Option.some.inj (hv179_1.symm.trans hx179_1)
           injection hv179_1 with hva_ hvn_ hvc_
           rw [hva_] at ge179_1
           rw [hvc_] at ul179_1
           have HL179_1:=zz31 (show Kd.V k70 70 _ w.heap.size _ _ ((rd_T30 l0 x5_1).f1) from Kd.V_mk ul179_1 ge179_1)
           clear hva_ hvn_ hvc_ ge179_1 ul179_1
           clear hcc179 hce179
           have HR179_1:=zz31 hi179_1
           have HC179_1:=zz31 hl179_1
           clear hi179_1 hl179_1
           replace p179:=eq_true p179
           replace q179:=eq_true q179
           refine start_ (n:=12) (S:=fun w'=>w'.cell? ⟨gb178,0,none⟩=some (.int .i64 a1_0)∧w'.cell? ⟨gb178,1,none⟩=some (.slice A1_1 l1_1.length c1_1)∧w'.cell? (ad179.add ((x5_1).toNat * 2))=some (.int .i64 ((rd_T30 l0 x5_1).f0))∧w'.cell? ⟨(ad179.add ((x5_1).toNat * 2)).block,(ad179.add ((x5_1).toNat * 2)).off+1,none⟩=some (.slice A179_1 ((rd_T30 l0 x5_1).f1).length c179_1)) (ds:=[]) #[F,F,F,F,F,F,F,F,F,F,F,F] (by kernel_rfl) rfl rfl ⟨(zz9 BK178.out 0).trans rfl,(zz9 BK178.out 1).trans rfl,hx179_0,hx179_1⟩ (fun hHeld=>?_);refine with_tabW spec_dePut.tab2 spec_dePut.bits2 (fun HT_ HW_=>?_)
           generalize wr.drew=w23 at HO_0 HO_179001 BK178 HB HL179_1 HR179_1 hx179_0 hx179_1 hHeld ⊢
           refine zz32 (v:=?_) (a':=?_) 0 (some 7) #[T,F,F,F,F,F,F,F,F,F,F,F] rfl rfl HT_.out (by kernel_rfl) (fun _ _ _ h=>h) (by rfl) (fun w'=>?_) ?_ ?_;rotate_left;(go_simp;with_reducible rfl);rotate_left;(simp only [Act.put,zz21,zz22,zz23,i64_w,i32_w];rfl)
           refine zz32 (v:=?_) (a':=?_) 1 (some 8) #[T,T,F,F,F,F,F,F,F,F,F,F] rfl rfl HT_.out (by kernel_rfl) (fun _ _ _ h=>h) (by rfl) (fun w'=>?_) ?_ ?_;rotate_left;(go_simp;with_reducible rfl);rotate_left;(simp only [Act.put,zz21,zz22,zz23,i64_w,i32_w];rfl)
           refine zz32 (v:=?_) (a':=?_) 2 (some 9) #[T,T,T,F,F,F,F,F,F,F,F,F] rfl rfl HT_.out (by kernel_rfl) (fun _ _ _ h=>h) (by rfl) (fun w'=>?_) ?_ ?_;rotate_left;(go_simp;with_reducible rfl);rotate_left;(simp only [Act.put,zz21,zz22,zz23,i64_w,i32_w];rfl)
           refine zz32 (v:=?_) (a':=?_) 3 (some 10) #[T,T,T,T,F,F,F,F,F,F,F,F] rfl rfl HT_.out (by kernel_rfl) (fun _ _ _ h=>h) (by rfl) (fun w'=>?_) ?_ ?_;rotate_left;(go_simp;with_reducible rfl);rotate_left;(simp only [Act.put,zz21,zz22,zz23,i64_w,i32_w];rfl)
           refine zz32 (v:=?_) (a':=?_) 4 (some 11) #[T,T,T,T,T,F,F,F,F,F,F,F] rfl rfl HT_.out (by kernel_rfl) (fun _ _ _ h=>h) (by rfl) (fun w'=>?_) ?_ ?_;rotate_left;(go_simp;with_reducible rfl);rotate_left;(simp only [Act.put,zz21,zz22,zz23,i64_w,i32_w];rfl)
           refine zz32 (v:=?_) (a':=?_) 5 (some 12) #[T,T,T,T,T,T,F,F,F,F,F,F] rfl rfl HT_.out (by kernel_rfl) (fun _ _ _ h=>h) (by rfl) (fun w'=>?_) ?_ ?_;rotate_left;(go_simp;with_reducible rfl);rotate_left;(simp only [Act.put,zz21,zz22,zz23,i64_w,i32_w];rfl)
           refine zz32 (v:=?_) (a':=?_) 6 (some 13) #[T,T,T,T,T,T,T,F,F,F,F,F] rfl rfl HT_.out (by kernel_rfl) (fun _ _ _ h=>h) (by rfl) (fun w'=>?_) ?_ ?_;rotate_left;(go_simp;with_reducible rfl);rotate_left;(simp only [Act.put,zz21,zz22,zz23,i64_w,i32_w];rfl)
           refine zz32 (v:=?_) (a':=?_) 7 (some 14) #[T,T,T,T,T,T,T,T,F,F,F,F] rfl rfl HT_.out (by kernel_rfl) (fun _ _ _ h=>h) (by rfl) (fun w'=>?_) ?_ ?_;rotate_left;(go_simp;with_reducible rfl);rotate_left;(simp only [Act.put,zz21,zz22,zz23,i64_w,i32_w];rfl)
           refine zz33 (v:=?_) (a':=?_) 8 (some 15) #[T,T,T,T,T,T,T,T,T,F,F,F] rfl rfl HT_.out HW_.out (by kernel_rfl) (fun _ _ _ h=>h) (by rfl) ?_ hHeld ?_ ?_;rotate_left;(rintro w' ⟨s0,s1,s2,s3⟩;go_simp;with_reducible rfl);rotate_left;(simp only [Act.put,zz21,zz22,zz23,i64_w,i32_w];rfl)
           refine zz33 (v:=?_) (a':=?_) 9 (some 16) #[T,T,T,T,T,T,T,T,T,T,F,F] rfl rfl HT_.out HW_.out (by kernel_rfl) (fun _ _ _ h=>h) (by rfl) ?_ hHeld ?_ ?_;rotate_left;(rintro w' ⟨s0,s1,s2,s3⟩;go_simp;with_reducible rfl);rotate_left;(simp only [Act.put,zz21,zz22,zz23,i64_w,i32_w];rfl)
           refine one_ (i:=10) (N:=some 17) #[T,T,T,T,T,T,T,T,T,T,T,F] rfl rfl (one_of HT_.out (by kernel_rfl)) (by decide) (fun K hK=>?_)
           refine goes_ Try.func62 (by kernel_rfl) rfl #[.agg #[.int .i64 ((rd_T30 l0 x5_1).f0),.slice A179_1 ((rd_T30 l0 x5_1).f1).length c179_1],.agg #[.int .i64 a1_0,.slice A1_1 l1_1.length c1_1]] (by rfl) rfl rfl (by (try simp only [zz26,zz27,zz28]);first | done | rfl | (simp only [zz24,zz25];rfl)) ?_
           with_reducible refine (spec_paBefore.calls k1 ((rd_T30 l0 x5_1).f0) _ _ ((rd_T30 l0 x5_1).f1) a1_0 _ _ l1_1 false _ ?side1 ?side2 ?side3 ?side4 A6.out).mono ?_
           (case side1=>repeat (first | exact (by repeat (first | (with_reducible exact HR179_1.out) | (with_reducible refine zz18 ?_ _) | (with_reducible refine zz19 ?_ _) | (with_reducible refine zz20 ?_) | exact HR179_1.out)) | (with_reducible refine zz18 ?_ _) | (with_reducible refine zz19 ?_ _) | (with_reducible refine zz20 ?_)))
           (case side2=>exact HC179_1.out)
           (case side3=>repeat (first | exact (Kd.V_reads' HO_179001.out).2.2 | (with_reducible refine zz18 ?_ _) | (with_reducible refine zz19 ?_ _) | (with_reducible refine zz20 ?_)))
           (case side4=>exact (Kd.V_reads' HO_179001.out).2.1)
           rintro e w24 ⟨rfl,hb⟩
           have HS2_:=(hb.cell (World.block_lt_of_cell? _ _ (hHeld.2.2.1))).trans (hHeld.2.2.1)
           have HS3_:=(hb.cell (World.block_lt_of_cell? _ _ (hHeld.2.2.2))).trans (hHeld.2.2.2)
           refine ⟨_,rfl,?_⟩
           replace HO_0:=zz31 (Kd.V_below (by (with_reducible repeat (first | apply Kd.V_alloc | apply Kd.V_drewN | apply Kd.V_drew));exact HO_0.out) hb)
           replace HO_179001:=zz31 (Kd.V_below (by (with_reducible repeat (first | apply Kd.V_alloc | apply Kd.V_drewN | apply Kd.V_drew));exact HO_179001.out) hb)
           replace HL179_1:=zz31 (Kd.V_below (by (with_reducible repeat (first | apply Kd.V_alloc | apply Kd.V_drewN | apply Kd.V_drew));exact HL179_1.out) hb)
           replace BK178:=zz31 (zz11 (g:=gb178) (o:=.cells #[.int .i64 a1_0,.slice A1_1 l1_1.length c1_1] 30 (0,0)) (by (with_reducible repeat (first | refine zz6 ?_ _ | refine zz7 ?_ | refine zz8 ?_ _));exact BK178.out) hb)
           replace HR179_1:=zz31 (Kd.C_below (by repeat (first | (with_reducible exact HR179_1.out) | (with_reducible refine zz18 ?_ _) | (with_reducible refine zz19 ?_ _) | (with_reducible refine zz20 ?_) | exact HR179_1.out)) hb)
           replace HB:=zz31 (zz4 (by repeat first | exact HB.out | apply zz2 | apply zz0 | apply zz1 | refine zz3 ?_ GE178.out) hb)
           (try clear hb)
           (try clear hb2)
           (try clear hk)
           (try clear hi)
           refine hK.out _ _ ⟨(zz9 BK178.out 0).trans rfl,(zz9 BK178.out 1).trans rfl,HS2_,HS3_⟩ (fun hHeld=>?_)
           clear hK K
           refine norm_ (a':=?_) ?_ ?_;rotate_left;(show Act.put _ (some 17) _=_;simp only [Act.put,zz21,zz22,zz23,i64_w,i32_w];rfl)
           refine zz32 (v:=?_) (a':=?_) 11 (some 18) #[T,T,T,T,T,T,T,T,T,T,T,T] rfl rfl HT_.out (by kernel_rfl) (fun _ _ _ h=>h) (by rfl) (fun w'=>?_) ?_ ?_;rotate_left;(go_simp;with_reducible rfl);rotate_left;(simp only [Act.put,zz21,zz22,zz23,i64_w,i32_w];rfl)
           refine done_ (done_of HT_.out (by kernel_rfl)) ?_
           try go_wp2
           replace HO_0:=zz31 (Kd.V_drew HO_0.out)
           replace HO_179001:=zz31 (Kd.V_drew HO_179001.out)
           replace HL179_1:=zz31 (Kd.V_drew HL179_1.out)
           replace BK178:=zz31 (zz7 BK178.out)
           replace HR179_1:=zz31 (zz20 HR179_1.out)
           replace HB:=zz31 (zz1 HB.out)
           have p181:0≤(x5_1:Int):=zz29 (by first | (with_reducible assumption) | assumption)
           have q181:x5_1 < (l0.length:Int):=zz29 (by first | (with_reducible assumption) | assumption)
           obtain ⟨ad181,A181_1,c181_1,e181,hx181_0,hx181_1,hl181_1,hi181_1⟩:=at_T30 (Kd.V_reads' HO_0.out).2.2 x5_1 p181 q181
           obtain rfl:ad179=ad181:=(by injection e181)
           obtain ⟨ce181,hce181,hMe181,hcc181⟩:=Kd.V_get HO_0.out z30 x5_1 p181 (by first | exact q181 | exact zz29 (by first | (with_reducible assumption) | assumption) | (have e_:=(Kd.V_reads' HO_0.out).1;omega))
           obtain ⟨ua181_1,uc181_1,rfl,ul181_1,ge181_1⟩:=k30_openF hMe181
           have hv181_1:=hcc181 1 _ rfl
           rw [add_field _ _ 1 (by omega)] at hv181_1
           replace hv181_1:=Option.some.inj (hv181_1.symm.trans hx181_1)
           injection hv181_1 with hva_ hvn_ hvc_
           rw [hva_] at ge181_1
           rw [hvc_] at ul181_1
           have HL181_1:=zz31 (show Kd.V k70 70 _ w.heap.size _ _ ((rd_T30 l0 x5_1).f1) from Kd.V_mk ul181_1 ge181_1)
           clear hva_ hvn_ hvc_ ge181_1 ul181_1
           clear hcc181 hce181
           have HR181_1:=zz31 hi181_1
           have HC181_1:=zz31 hl181_1
           clear hi181_1 hl181_1
           replace p181:=eq_true p181
           replace q181:=eq_true q181
           refine start_ (n:=12) (S:=fun w'=>w'.cell? ⟨gb178,0,none⟩=some (.int .i64 a1_0)∧w'.cell? ⟨gb178,1,none⟩=some (.slice A1_1 l1_1.length c1_1)∧w'.cell? (ad179.add ((x5_1).toNat * 2))=some (.int .i64 ((rd_T30 l0 x5_1).f0))∧w'.cell? ⟨(ad179.add ((x5_1).toNat * 2)).block,(ad179.add ((x5_1).toNat * 2)).off+1,none⟩=some (.slice A181_1 ((rd_T30 l0 x5_1).f1).length c181_1)) (ds:=[]) #[F,F,F,F,F,F,F,F,F,F,F,F] (by kernel_rfl) rfl rfl ⟨(zz9 BK178.out 0).trans rfl,(zz9 BK178.out 1).trans rfl,hx181_0,hx181_1⟩ (fun hHeld=>?_);refine with_tabW spec_dePut.tab4 spec_dePut.bits4 (fun HT_ HW_=>?_)
           generalize w24.drew=w25 at HO_0 HO_179001 HL179_1 BK178 HR179_1 HB HL181_1 HR181_1 hx181_0 hx181_1 hHeld ⊢
           refine zz32 (v:=?_) (a':=?_) 0 (some 21) #[T,F,F,F,F,F,F,F,F,F,F,F] rfl rfl HT_.out (by kernel_rfl) (fun _ _ _ h=>h) (by rfl) (fun w'=>?_) ?_ ?_;rotate_left;(go_simp;with_reducible rfl);rotate_left;(simp only [Act.put,zz21,zz22,zz23,i64_w,i32_w];rfl)
           refine zz32 (v:=?_) (a':=?_) 1 (some 22) #[T,T,F,F,F,F,F,F,F,F,F,F] rfl rfl HT_.out (by kernel_rfl) (fun _ _ _ h=>h) (by rfl) (fun w'=>?_) ?_ ?_;rotate_left;(go_simp;with_reducible rfl);rotate_left;(simp only [Act.put,zz21,zz22,zz23,i64_w,i32_w];rfl)
           refine zz32 (v:=?_) (a':=?_) 2 (some 23) #[T,T,T,F,F,F,F,F,F,F,F,F] rfl rfl HT_.out (by kernel_rfl) (fun _ _ _ h=>h) (by rfl) (fun w'=>?_) ?_ ?_;rotate_left;(go_simp;with_reducible rfl);rotate_left;(simp only [Act.put,zz21,zz22,zz23,i64_w,i32_w];rfl)
           refine zz32 (v:=?_) (a':=?_) 3 (some 24) #[T,T,T,T,F,F,F,F,F,F,F,F] rfl rfl HT_.out (by kernel_rfl) (fun _ _ _ h=>h) (by rfl) (fun w'=>?_) ?_ ?_;rotate_left;(go_simp;with_reducible rfl);rotate_left;(simp only [Act.put,zz21,zz22,zz23,i64_w,i32_w];rfl)
           refine zz32 (v:=?_) (a':=?_) 4 (some 25) #[T,T,T,T,T,F,F,F,F,F,F,F] rfl rfl HT_.out (by kernel_rfl) (fun _ _ _ h=>h) (by rfl) (fun w'=>?_) ?_ ?_;rotate_left;(go_simp;with_reducible rfl);rotate_left;(simp only [Act.put,zz21,zz22,zz23,i64_w,i32_w];rfl)
           refine zz32 (v:=?_) (a':=?_) 5 (some 26) #[T,T,T,T,T,T,F,F,F,F,F,F] rfl rfl HT_.out (by kernel_rfl) (fun _ _ _ h=>h) (by rfl) (fun w'=>?_) ?_ ?_;rotate_left;(go_simp;with_reducible rfl);rotate_left;(simp only [Act.put,zz21,zz22,zz23,i64_w,i32_w];rfl)
           refine zz32 (v:=?_) (a':=?_) 6 (some 27) #[T,T,T,T,T,T,T,F,F,F,F,F] rfl rfl HT_.out (by kernel_rfl) (fun _ _ _ h=>h) (by rfl) (fun w'=>?_) ?_ ?_;rotate_left;(go_simp;with_reducible rfl);rotate_left;(simp only [Act.put,zz21,zz22,zz23,i64_w,i32_w];rfl)
           refine zz32 (v:=?_) (a':=?_) 7 (some 28) #[T,T,T,T,T,T,T,T,F,F,F,F] rfl rfl HT_.out (by kernel_rfl) (fun _ _ _ h=>h) (by rfl) (fun w'=>?_) ?_ ?_;rotate_left;(go_simp;with_reducible rfl);rotate_left;(simp only [Act.put,zz21,zz22,zz23,i64_w,i32_w];rfl)
           refine zz33 (v:=?_) (a':=?_) 8 (some 29) #[T,T,T,T,T,T,T,T,T,F,F,F] rfl rfl HT_.out HW_.out (by kernel_rfl) (fun _ _ _ h=>h) (by rfl) ?_ hHeld ?_ ?_;rotate_left;(rintro w' ⟨s0,s1,s2,s3⟩;go_simp;with_reducible rfl);rotate_left;(simp only [Act.put,zz21,zz22,zz23,i64_w,i32_w];rfl)
           refine zz33 (v:=?_) (a':=?_) 9 (some 30) #[T,T,T,T,T,T,T,T,T,T,F,F] rfl rfl HT_.out HW_.out (by kernel_rfl) (fun _ _ _ h=>h) (by rfl) ?_ hHeld ?_ ?_;rotate_left;(rintro w' ⟨s0,s1,s2,s3⟩;go_simp;with_reducible rfl);rotate_left;(simp only [Act.put,zz21,zz22,zz23,i64_w,i32_w];rfl)
           refine one_ (i:=10) (N:=some 31) #[T,T,T,T,T,T,T,T,T,T,T,F] rfl rfl (one_of HT_.out (by kernel_rfl)) (by decide) (fun K hK=>?_)
           refine goes_ Try.func32 (by kernel_rfl) rfl #[.agg #[.int .i64 ((rd_T30 l0 x5_1).f0),.slice A181_1 ((rd_T30 l0 x5_1).f1).length c181_1],.agg #[.int .i64 a1_0,.slice A1_1 l1_1.length c1_1]] (by rfl) rfl rfl (by (try simp only [zz26,zz27,zz28]);first | done | rfl | (simp only [zz24,zz25];rfl)) ?_
           with_reducible refine (spec_paSame.calls k1 ((rd_T30 l0 x5_1).f0) _ _ ((rd_T30 l0 x5_1).f1) a1_0 _ _ l1_1 false _ ?side1 ?side2 ?side3 ?side4 A10.out).mono ?_
           (case side1=>repeat (first | exact (by repeat (first | (with_reducible exact HR181_1.out) | (with_reducible refine zz18 ?_ _) | (with_reducible refine zz19 ?_ _) | (with_reducible refine zz20 ?_) | exact HR181_1.out)) | (with_reducible refine zz18 ?_ _) | (with_reducible refine zz19 ?_ _) | (with_reducible refine zz20 ?_)))
           (case side2=>exact HC181_1.out)
           (case side3=>repeat (first | exact (Kd.V_reads' HO_179001.out).2.2 | (with_reducible refine zz18 ?_ _) | (with_reducible refine zz19 ?_ _) | (with_reducible refine zz20 ?_)))
           (case side4=>exact (Kd.V_reads' HO_179001.out).2.1)
           rintro e w26 ⟨rfl,hb⟩
           have HS2_:=(hb.cell (World.block_lt_of_cell? _ _ (hHeld.2.2.1))).trans (hHeld.2.2.1)
           have HS3_:=(hb.cell (World.block_lt_of_cell? _ _ (hHeld.2.2.2))).trans (hHeld.2.2.2)
           refine ⟨_,rfl,?_⟩
           replace HO_0:=zz31 (Kd.V_below (by (with_reducible repeat (first | apply Kd.V_alloc | apply Kd.V_drewN | apply Kd.V_drew));exact HO_0.out) hb)
           replace HO_179001:=zz31 (Kd.V_below (by (with_reducible repeat (first | apply Kd.V_alloc | apply Kd.V_drewN | apply Kd.V_drew));exact HO_179001.out) hb)
           replace HL179_1:=zz31 (Kd.V_below (by (with_reducible repeat (first | apply Kd.V_alloc | apply Kd.V_drewN | apply Kd.V_drew));exact HL179_1.out) hb)
           replace HL181_1:=zz31 (Kd.V_below (by (with_reducible repeat (first | apply Kd.V_alloc | apply Kd.V_drewN | apply Kd.V_drew));exact HL181_1.out) hb)
           replace BK178:=zz31 (zz11 (g:=gb178) (o:=.cells #[.int .i64 a1_0,.slice A1_1 l1_1.length c1_1] 30 (0,0)) (by (with_reducible repeat (first | refine zz6 ?_ _ | refine zz7 ?_ | refine zz8 ?_ _));exact BK178.out) hb)
           replace HR179_1:=zz31 (Kd.C_below (by repeat (first | (with_reducible exact HR179_1.out) | (with_reducible refine zz18 ?_ _) | (with_reducible refine zz19 ?_ _) | (with_reducible refine zz20 ?_) | exact HR179_1.out)) hb)
           replace HR181_1:=zz31 (Kd.C_below (by repeat (first | (with_reducible exact HR181_1.out) | (with_reducible refine zz18 ?_ _) | (with_reducible refine zz19 ?_ _) | (with_reducible refine zz20 ?_) | exact HR181_1.out)) hb)
           replace HB:=zz31 (zz4 (by repeat first | exact HB.out | apply zz2 | apply zz0 | apply zz1 | refine zz3 ?_ GE178.out) hb)
           (try clear hb)
           (try clear hb2)
           (try clear hk)
           (try clear hi)
           refine hK.out _ _ ⟨(zz9 BK178.out 0).trans rfl,(zz9 BK178.out 1).trans rfl,HS2_,HS3_⟩ (fun hHeld=>?_)
           clear hK K
           refine norm_ (a':=?_) ?_ ?_;rotate_left;(show Act.put _ (some 31) _=_;simp only [Act.put,zz21,zz22,zz23,i64_w,i32_w];rfl)
           refine zz32 (v:=?_) (a':=?_) 11 (some 32) #[T,T,T,T,T,T,T,T,T,T,T,T] rfl rfl HT_.out (by kernel_rfl) (fun _ _ _ h=>h) (by rfl) (fun w'=>?_) ?_ ?_;rotate_left;(go_simp;with_reducible rfl);rotate_left;(simp only [Act.put,zz21,zz22,zz23,i64_w,i32_w];rfl)
           refine done_ (done_of HT_.out (by kernel_rfl)) ?_
           try go_wp2
           replace HO_0:=zz31 (Kd.V_drew HO_0.out)
           replace HO_179001:=zz31 (Kd.V_drew HO_179001.out)
           replace HL179_1:=zz31 (Kd.V_drew HL179_1.out)
           replace HL181_1:=zz31 (Kd.V_drew HL181_1.out)
           replace BK178:=zz31 (zz7 BK178.out)
           replace HR179_1:=zz31 (zz20 HR179_1.out)
           replace HR181_1:=zz31 (zz20 HR181_1.out)
           replace HB:=zz31 (zz1 HB.out)
           have q28:(x5_1:Int)≤((l0.length:Int):Int):=zz29 (by first | (with_reducible assumption) | assumption)
           obtain ⟨i028,hi028,_,hsz28,_⟩:=info_parts info30
           have hroom28:l0.length≤c0:=(Kd.V_reads' HO_0.out).2.1
           have hC28:Kd.F k30 _ _ (some ad179) l0.length l0:=(Kd.V_at (base:=w.heap.size) HO_0.out).2.2
           have hcut28:=cut_to (P:=Try.prog) 46 30 .i64 Try.underlying46 hi028 (some ad179) l0.length c0 x5_1 (zz29 (by first | (with_reducible assumption) | assumption)) q28 hroom28
           have hr28:=Kd.F_take (m:=(x5_1:Int).toNat) hC28 (by omega)
           have hy28:y186.length=(x5_1:Int).toNat:=(by rw [Ny186.out,zz25];omega)
           rw [← Ny186.out] at hr28
           rw [← hy28] at hcut28
           have HO190:=zz31 (show Kd.V k30 30 _ w.heap.size _ (.slice (some ad179) y186.length c0) y186 from Kd.V_mk (by omega) hr28)
           have HC190:=zz31 (show y186.length≤c0 from by omega)
           clear hr28 hC28 hroom28 hi028 hsz28
           have KY28:=zz31 hy28
           clear hy28
           replace q28:=eq_true q28
           refine start_ (n:=9) (S:=fun w'=>w'.cell? ⟨gb178,0,none⟩=some (.int .i64 a1_0)∧w'.cell? ⟨gb178,1,none⟩=some (.slice A1_1 l1_1.length c1_1)) (ds:=[]) #[F,F,F,F,F,F,F,F,F] (by kernel_rfl) rfl rfl ⟨(zz9 BK178.out 0).trans rfl,(zz9 BK178.out 1).trans rfl⟩ (fun hHeld=>?_);refine with_tabW spec_dePut.tab6 spec_dePut.bits6 (fun HT_ HW_=>?_)
           generalize w26.drew=w27 at HO_0 HO_179001 HL179_1 HL181_1 BK178 HR179_1 HR181_1 HB HO190 hHeld ⊢
           refine zz32 (v:=?_) (a':=?_) 1 (some 35) #[F,T,F,F,F,F,F,F,F] rfl rfl HT_.out (by kernel_rfl) (fun _ _ _ h=>h) (by rfl) (fun w'=>?_) ?_ ?_;rotate_left;(go_simp;with_reducible rfl);rotate_left;(simp only [Act.put,zz21,zz22,zz23,i64_w,i32_w];rfl)
           refine zz32 (v:=?_) (a':=?_) 2 (some 36) #[F,T,T,F,F,F,F,F,F] rfl rfl HT_.out (by kernel_rfl) (fun _ _ _ h=>h) (by rfl) (fun w'=>?_) ?_ ?_;rotate_left;(go_simp;with_reducible rfl);rotate_left;(simp only [Act.put,zz21,zz22,zz23,i64_w,i32_w];rfl)
           refine zz32 (v:=?_) (a':=?_) 3 (some 37) #[F,T,T,T,F,F,F,F,F] rfl rfl HT_.out (by kernel_rfl) (fun _ _ _ h=>h) (by rfl) (fun w'=>?_) ?_ ?_;rotate_left;(go_simp;with_reducible rfl);rotate_left;(simp only [Act.put,zz21,zz22,zz23,i64_w,i32_w];rfl)
           refine zz33 (v:=?_) (a':=?_) 5 (some 39) #[F,T,T,T,F,T,F,F,F] rfl rfl HT_.out HW_.out (by kernel_rfl) (fun _ _ _ h=>h) (by rfl) ?_ hHeld ?_ ?_;rotate_left;(rintro w' ⟨s0,s1⟩;go_simp;with_reducible rfl);rotate_left;(simp only [Act.put,zz21,zz22,zz23,i64_w,i32_w];rfl)
           refine join_ (σ:=Value × Value × Value) 2 #[T,T,T,T,T,T,T,F,F] (fun s_=>[(34,s_.1),(38,s_.2.1),(40,s_.2.2)]) (fun s_ w'=>(w'.cell? ⟨gb178,0,none⟩=some (.int .i64 a1_0)∧w'.cell? ⟨gb178,1,none⟩=some (.slice A1_1 l1_1.length c1_1))∧(Kd.V k70 70 w' w.heap.size (fun k_=>((P0_ k_ ∨ P1_1_ k_) ∨ w.heap.size≤k_)∧some k_ ≠ (s_.2.1:Value).ownBlock∧some k_ ≠ (s_.2.2:Value).ownBlock∧k_ ≠ gb178) (.slice A179_1 ((rd_T30 l0 x5_1).f1).length c179_1) ((rd_T30 l0 x5_1).f1))∧(Kd.V k70 70 w' w.heap.size (fun k_=>((P0_ k_ ∨ P1_1_ k_) ∨ w.heap.size≤k_)∧some k_ ≠ (s_.2.1:Value).ownBlock∧some k_ ≠ (s_.2.2:Value).ownBlock∧k_ ≠ gb178) (.slice A181_1 ((rd_T30 l0 x5_1).f1).length c181_1) ((rd_T30 l0 x5_1).f1))∧(Kd.V k30 30 w' w.heap.size (fun k_=>((P0_ k_ ∨ P1_1_ k_) ∨ w.heap.size≤k_)∧some k_ ≠ (s_.2.1:Value).ownBlock∧some k_ ≠ (s_.2.2:Value).ownBlock∧k_ ≠ gb178) (.slice (some ad179) y186.length c0) y186)∧(Kd.N k30 30 w' w.heap.size (fun k_=>((P0_ k_ ∨ P1_1_ k_) ∨ w.heap.size≤k_)∧some k_ ≠ (s_.2.2:Value).ownBlock∧k_ ≠ gb178) s_.2.1 y191)∧(Kd.N k30 30 w' w.heap.size (fun k_=>((P0_ k_ ∨ P1_1_ k_) ∨ w.heap.size≤k_)∧some k_ ≠ (s_.2.1:Value).ownBlock∧k_ ≠ gb178) s_.2.2 y194)∧(Kd.V k30 30 w' w.heap.size (fun k_=>((P0_ k_ ∨ P1_1_ k_) ∨ w.heap.size≤k_)∧some k_ ≠ (s_.2.1:Value).ownBlock∧some k_ ≠ (s_.2.2:Value).ownBlock∧k_ ≠ gb178) (.slice (some ad179) l0.length c0) l0)∧(Kd.V k70 70 w' w.heap.size (fun k_=>((P0_ k_ ∨ P1_1_ k_) ∨ w.heap.size≤k_)∧some k_ ≠ (s_.2.1:Value).ownBlock∧some k_ ≠ (s_.2.2:Value).ownBlock∧k_ ≠ gb178) (.slice A1_1 l1_1.length c1_1) l1_1)∧(w'.heap[gb178]?=some (.cells #[.int .i64 a1_0,.slice A1_1 l1_1.length c1_1] 30 (0,0)))∧(Below w.heap.size w w')) ?_ ?_
           rotate_left
           ·intro hCont
            refine two_ (i:=0) (j:=6) (Ni:=some 34) (Nj:=some 40) #[T,T,T,T,F,T,F,F,F] #[F,T,T,T,F,T,T,F,F] rfl rfl rfl rfl (two_of HT_.out (by kernel_rfl)) (by decide) (by decide) (fun K hK=>?_) (fun K hK=>?_)
            ·skip
             refine Kd.N_lit_step k30 _ 30 ?hg (N':=34) ?hd (xs:=([]:List (S30))) (inner:=[]) (ok:=(fun k_=>((P0_ k_ ∨ P1_1_ k_) ∨ w.heap.size≤k_)∧k_ ≠ gb178)) (okp:=(fun k_=>((P0_ k_ ∨ P1_1_ k_) ∨ w.heap.size≤k_)∧k_ ≠ gb178)) ?hr ?hp (fun _ hk=>hk) ((show ∀ k_,w27.heap.size≤k_→(fun k_=>((P0_ k_ ∨ P1_1_ k_) ∨ w.heap.size≤k_)∧k_ ≠ gb178) k_ from fun k_ hk=>⟨(.inr (Nat.le_trans (zz5 (by repeat first | exact HB.out | apply zz2 | apply zz0 | apply zz1 | refine zz3 ?_ GE178.out)) hk)),Kd.freshB (g:=gb178) (o:=.cells #[.int .i64 a1_0,.slice A1_1 l1_1.length c1_1] 30 (0,0)) (by (with_reducible repeat (first | refine zz6 ?_ _ | refine zz7 ?_ | refine zz8 ?_ _));exact BK178.out) k_ hk⟩) _ (Nat.le_refl _)) (Below.refl _ _) (Nat.le_refl _) (by simp) ?_;(case hd=>rfl);(case hg=>rfl);(case hr=>first | (go_simp;done) | (go_simp;rfl));(case hp=>exact (Reps.none _ _))
             intro v184 w29 ho30 hb hg_ hnew_
             clear hg_ hnew_
             (first | rw [← Ny183.out] at ho30 | (simp only [Int.reduceToNat] at ho30;rw [← Ny183.out] at ho30))
             replace HO_0:=zz31 (Kd.V_elder' (by (with_reducible repeat (first | apply Kd.V_alloc | apply Kd.V_drewN | apply Kd.V_drew));exact HO_0.out) (Kd.N_base ho30) hb)
             replace HO_179001:=zz31 (Kd.V_elder' (by (with_reducible repeat (first | apply Kd.V_alloc | apply Kd.V_drewN | apply Kd.V_drew));exact HO_179001.out) (Kd.N_base ho30) hb)
             replace HL179_1:=zz31 (Kd.V_elder' (by (with_reducible repeat (first | apply Kd.V_alloc | apply Kd.V_drewN | apply Kd.V_drew));exact HL179_1.out) (Kd.N_base ho30) hb)
             replace HL181_1:=zz31 (Kd.V_elder' (by (with_reducible repeat (first | apply Kd.V_alloc | apply Kd.V_drewN | apply Kd.V_drew));exact HL181_1.out) (Kd.N_base ho30) hb)
             replace HO190:=zz31 (Kd.V_elder' (by (with_reducible repeat (first | apply Kd.V_alloc | apply Kd.V_drewN | apply Kd.V_drew));exact HO190.out) (Kd.N_base ho30) hb)
             have HO185:=zz31 (Kd.N_lower ho30 (zz5 (by repeat first | exact HB.out | apply zz2 | apply zz0 | apply zz1 | refine zz3 ?_ GE178.out)))
             replace BK178:=zz31 (zz11 (g:=gb178) (o:=.cells #[.int .i64 a1_0,.slice A1_1 l1_1.length c1_1] 30 (0,0)) (by (with_reducible repeat (first | refine zz6 ?_ _ | refine zz7 ?_ | refine zz8 ?_ _));exact BK178.out) hb)
             replace HR179_1:=zz31 (Kd.C_below (by repeat (first | (with_reducible exact HR179_1.out) | (with_reducible refine zz18 ?_ _) | (with_reducible refine zz19 ?_ _) | (with_reducible refine zz20 ?_) | exact HR179_1.out)) hb)
             replace HR181_1:=zz31 (Kd.C_below (by repeat (first | (with_reducible exact HR181_1.out) | (with_reducible refine zz18 ?_ _) | (with_reducible refine zz19 ?_ _) | (with_reducible refine zz20 ?_) | exact HR181_1.out)) hb)
             replace HB:=zz31 (zz4 (by repeat first | exact HB.out | apply zz2 | apply zz0 | apply zz1 | refine zz3 ?_ GE178.out) hb)
             clear hb ho30
             refine hK.out _ _ ⟨(zz9 BK178.out 0).trans rfl,(zz9 BK178.out 1).trans rfl⟩ (fun hHeld=>?_)
             clear hK K
             refine norm_ (a':=?_) ?_ ?_;rotate_left;(show Act.put _ (some 34) _=_;simp only [Act.put,zz21,zz22,zz23,i64_w,i32_w];rfl)
             refine two_ (i:=4) (j:=6) (Ni:=some 38) (Nj:=some 40) #[T,T,T,T,T,T,F,F,F] #[T,T,T,T,F,T,T,F,F] rfl rfl rfl rfl (two_of HT_.out (by kernel_rfl)) (by decide) (by decide) (fun K hK=>?_) (fun K hK=>?_)
             ·skip
              refine Kd.N_append_rows_step k30 (w0:=w) w.heap.size (by rfl) (.tmp 34) (.tmp 37) 46 30 (.agg #[(.int .i64 0),(.slice none 0 0)]) 32 rfl Try.underlying46 info30 rfl (by decide) (by omega) v184 y183 y186 _ _ _ (fun k_=>((P0_ k_ ∨ P1_1_ k_) ∨ w.heap.size≤k_)∧k_ ≠ gb178) (fun k_=>((fun k_=>((P0_ k_ ∨ P1_1_ k_) ∨ w.heap.size≤k_)∧k_ ≠ gb178)) k_∧some k_ ≠ (v184:Value).ownBlock) rfl rfl ?aO ?aR (fun _ hk=>hk) ?aF ?aB ?aS ?aL ?_
              (case aR=>exact (by skip;exact Kd.V_F (Kd.V_mono (ok':=(fun k_=>((fun k_=>((P0_ k_ ∨ P1_1_ k_) ∨ w.heap.size≤k_)∧k_ ≠ gb178)) k_∧some k_ ≠ (v184:Value).ownBlock)) (HO190.out) (fun k_ hk=>⟨⟨hk.1.1,hk.1.2⟩,hk.2⟩))))
              (case aB=>exact (by repeat first | exact HB.out | apply zz2 | apply zz0 | apply zz1 | refine zz3 ?_ GE178.out))
              (case aF=>exact (fun k_ hk=>⟨(.inr (Nat.le_trans (zz5 (by repeat first | exact HB.out | apply zz2 | apply zz0 | apply zz1 | refine zz3 ?_ GE178.out)) hk)),Kd.freshB (g:=gb178) (o:=.cells #[.int .i64 a1_0,.slice A1_1 l1_1.length c1_1] 30 (0,0)) (by (with_reducible repeat (first | refine zz6 ?_ _ | refine zz7 ?_ | refine zz8 ?_ _));exact BK178.out) k_ hk⟩))
              (case aO=>exact (by (with_reducible repeat (first | apply Kd.N_alloc | apply Kd.N_drewN | apply Kd.N_drew));exact HO185.out))
              (case aS=>exact (zz5 (by repeat first | exact HB.out | apply zz2 | apply zz0 | apply zz1 | refine zz3 ?_ GE178.out)))
              (case aL=>have:=LMc18.out;omega)
              intro v192 w31 ho hb hg hat
              rw [← Ny191.out] at ho
              replace HO_0:=zz31 (Kd.V_afterv (ok:=(fun k_=>((P0_ k_ ∨ P1_1_ k_) ∨ w.heap.size≤k_)∧k_ ≠ gb178)) (by (with_reducible repeat (first | apply Kd.V_alloc | apply Kd.V_drewN | apply Kd.V_drew));exact HO_0.out) hg hat)
              replace HO_179001:=zz31 (Kd.V_afterv (ok:=(fun k_=>((P0_ k_ ∨ P1_1_ k_) ∨ w.heap.size≤k_)∧k_ ≠ gb178)) (by (with_reducible repeat (first | apply Kd.V_alloc | apply Kd.V_drewN | apply Kd.V_drew));exact HO_179001.out) hg hat)
              replace BK178:=zz31 (blk_grown (g:=gb178) (o:=.cells #[.int .i64 a1_0,.slice A1_1 l1_1.length c1_1] 30 (0,0)) (by (with_reducible repeat (first | refine zz6 ?_ _ | refine zz7 ?_ | refine zz8 ?_ _));exact BK178.out) hg (Kd.N_away HO185.out (fun _ hk=>hk.2)))
              replace HL179_1:=zz31 (Kd.V_afterv (ok:=(fun k_=>((P0_ k_ ∨ P1_1_ k_) ∨ w.heap.size≤k_)∧k_ ≠ gb178)) (by (with_reducible repeat (first | apply Kd.V_alloc | apply Kd.V_drewN | apply Kd.V_drew));exact HL179_1.out) hg hat)
              replace HL181_1:=zz31 (Kd.V_afterv (ok:=(fun k_=>((P0_ k_ ∨ P1_1_ k_) ∨ w.heap.size≤k_)∧k_ ≠ gb178)) (by (with_reducible repeat (first | apply Kd.V_alloc | apply Kd.V_drewN | apply Kd.V_drew));exact HL181_1.out) hg hat)
              replace HO190:=zz31 (Kd.V_afterv (ok:=(fun k_=>((P0_ k_ ∨ P1_1_ k_) ∨ w.heap.size≤k_)∧k_ ≠ gb178)) (by (with_reducible repeat (first | apply Kd.V_alloc | apply Kd.V_drewN | apply Kd.V_drew));exact HO190.out) hg hat)
              replace HB:=zz31 (hb)
              have HO193:=zz31 (ho)
              clear HO185
              clear ho hb hg hat
              refine hK.out _ _ ⟨(zz9 BK178.out 0).trans rfl,(zz9 BK178.out 1).trans rfl⟩ (fun hHeld=>?_)
              clear hK K
              refine norm_ (a':=?_) ?_ ?_;rotate_left;(show Act.put _ (some 38) _=_;simp only [Act.put,zz21,zz22,zz23,i64_w,i32_w];rfl)
              refine one_ (i:=6) (N:=some 40) #[T,T,T,T,T,T,T,F,F] rfl rfl (one_of HT_.out (by kernel_rfl)) (by decide) (fun K hK=>?_)
              refine Kd.N_lit_step k30 _ 30 ?hg (N':=40) ?hd (xs:=([(⟨a1_0,l1_1⟩:S30)]:List (S30))) (inner:=[.int .i64 a1_0,.slice A1_1 l1_1.length c1_1]) (ok:=(fun k_=>((P0_ k_ ∨ P1_1_ k_) ∨ w.heap.size≤k_)∧some k_ ≠ (v192:Value).ownBlock∧k_ ≠ gb178)) (okp:=(fun k_=>((P0_ k_ ∨ P1_1_ k_) ∨ w.heap.size≤k_)∧some k_ ≠ (v192:Value).ownBlock∧k_ ≠ gb178)) ?hr ?hp (fun _ hk=>hk) ((show ∀ k_,w31.heap.size≤k_→(fun k_=>((P0_ k_ ∨ P1_1_ k_) ∨ w.heap.size≤k_)∧some k_ ≠ (v192:Value).ownBlock∧k_ ≠ gb178) k_ from fun k_ hk=>⟨(.inr (Nat.le_trans (zz5 (by repeat first | exact HB.out | apply zz2 | apply zz0 | apply zz1 | refine zz3 ?_ GE178.out)) hk)),Kd.fresh' (Kd.N_lt (by (with_reducible repeat (first | apply Kd.N_alloc | apply Kd.N_drewN | apply Kd.N_drew));exact HO193.out)) k_ hk,Kd.freshB (g:=gb178) (o:=.cells #[.int .i64 a1_0,.slice A1_1 l1_1.length c1_1] 30 (0,0)) (by (with_reducible repeat (first | refine zz6 ?_ _ | refine zz7 ?_ | refine zz8 ?_ _));exact BK178.out) k_ hk⟩) _ (Nat.le_refl _)) (Below.refl _ _) (Nat.le_refl _) (by simp) ?_;(case hd=>rfl);(case hg=>rfl);(case hr=>first | (go_simp;done) | (go_simp;rfl));(case hp=>exact (Reps.c2 (show Kd.FK k30 _ _ (⟨a1_0,l1_1⟩:S30) [.int .i64 a1_0,.slice A1_1 l1_1.length c1_1] from (k30_mkF _ _ (⟨a1_0,l1_1⟩:S30) (Kd.V_reads' (Kd.V_mono (ok':=(fun k_=>((P0_ k_ ∨ P1_1_ k_) ∨ w.heap.size≤k_)∧some k_ ≠ (v192:Value).ownBlock∧k_ ≠ gb178)) (HO_179001.out) (fun k_ hk=>⟨hk.1.1,⟨hk.2,hk.1.2⟩⟩))).2.1 (Kd.V_F (Kd.V_mono (ok':=(fun k_=>((P0_ k_ ∨ P1_1_ k_) ∨ w.heap.size≤k_)∧some k_ ≠ (v192:Value).ownBlock∧k_ ≠ gb178)) (HO_179001.out) (fun k_ hk=>⟨hk.1.1,⟨hk.2,hk.1.2⟩⟩))))) (Reps.none _ _)))
              intro v195 w32 ho33 hb hg_ hnew_
              clear hg_ hnew_
              (first | rw [← Ny194.out] at ho33 | (simp only [Int.reduceToNat] at ho33;rw [← Ny194.out] at ho33))
              replace HO_0:=zz31 (Kd.V_elder' (by (with_reducible repeat (first | apply Kd.V_alloc | apply Kd.V_drewN | apply Kd.V_drew));exact HO_0.out) (Kd.N_base ho33) hb)
              replace HO_179001:=zz31 (Kd.V_elder' (by (with_reducible repeat (first | apply Kd.V_alloc | apply Kd.V_drewN | apply Kd.V_drew));exact HO_179001.out) (Kd.N_base ho33) hb)
              replace HL179_1:=zz31 (Kd.V_elder' (by (with_reducible repeat (first | apply Kd.V_alloc | apply Kd.V_drewN | apply Kd.V_drew));exact HL179_1.out) (Kd.N_base ho33) hb)
              replace HL181_1:=zz31 (Kd.V_elder' (by (with_reducible repeat (first | apply Kd.V_alloc | apply Kd.V_drewN | apply Kd.V_drew));exact HL181_1.out) (Kd.N_base ho33) hb)
              replace HO190:=zz31 (Kd.V_elder' (by (with_reducible repeat (first | apply Kd.V_alloc | apply Kd.V_drewN | apply Kd.V_drew));exact HO190.out) (Kd.N_base ho33) hb)
              replace HO193:=zz31 (Kd.N_elder' (by (with_reducible repeat (first | apply Kd.N_alloc | apply Kd.N_drewN | apply Kd.N_drew));exact HO193.out) (Kd.N_base ho33) hb)
              have HO196:=zz31 (Kd.N_lower ho33 (zz5 (by repeat first | exact HB.out | apply zz2 | apply zz0 | apply zz1 | refine zz3 ?_ GE178.out)))
              replace BK178:=zz31 (zz11 (g:=gb178) (o:=.cells #[.int .i64 a1_0,.slice A1_1 l1_1.length c1_1] 30 (0,0)) (by (with_reducible repeat (first | refine zz6 ?_ _ | refine zz7 ?_ | refine zz8 ?_ _));exact BK178.out) hb)
              replace HB:=zz31 (zz4 (by repeat first | exact HB.out | apply zz2 | apply zz0 | apply zz1 | refine zz3 ?_ GE178.out) hb)
              clear hb ho33
              refine hK.out _ _ ⟨(zz9 BK178.out 0).trans rfl,(zz9 BK178.out 1).trans rfl⟩ (fun hHeld=>?_)
              clear hK K
              refine norm_ (a':=?_) ?_ ?_;rotate_left;(show Act.put _ (some 40) _=_;simp only [Act.put,zz21,zz22,zz23,i64_w,i32_w];rfl)
              exact norm_ (by simp only [putAll,Act.put,zz21,zz22,zz23]) (hCont (v184,v192,v195) _ ⟨hHeld,(by (with_reducible repeat (first | apply Kd.V_alloc | apply Kd.V_drewN | apply Kd.V_drew));exact Kd.V_mono HL179_1.out (fun _ hk=>⟨hk.1.1.1,⟨hk.1.2,⟨hk.2,hk.1.1.2⟩⟩⟩)),(by (with_reducible repeat (first | apply Kd.V_alloc | apply Kd.V_drewN | apply Kd.V_drew));exact Kd.V_mono HL181_1.out (fun _ hk=>⟨hk.1.1.1,⟨hk.1.2,⟨hk.2,hk.1.1.2⟩⟩⟩)),(by (with_reducible repeat (first | apply Kd.V_alloc | apply Kd.V_drewN | apply Kd.V_drew));exact Kd.V_mono HO190.out (fun _ hk=>⟨hk.1.1.1,⟨hk.1.2,⟨hk.2,hk.1.1.2⟩⟩⟩)),(by (with_reducible repeat (first | apply Kd.N_alloc | apply Kd.N_drewN | apply Kd.N_drew));exact Kd.N_mono HO193.out (fun _ hk=>⟨hk.1.1,⟨hk.2,hk.1.2⟩⟩)),(by (with_reducible repeat (first | apply Kd.N_alloc | apply Kd.N_drewN | apply Kd.N_drew));exact HO196.out),(by (with_reducible repeat (first | apply Kd.V_alloc | apply Kd.V_drewN | apply Kd.V_drew));exact Kd.V_mono HO_0.out (fun _ hk=>⟨hk.1.1.1,⟨hk.1.2,⟨hk.2,hk.1.1.2⟩⟩⟩)),(by (with_reducible repeat (first | apply Kd.V_alloc | apply Kd.V_drewN | apply Kd.V_drew));exact Kd.V_mono HO_179001.out (fun _ hk=>⟨hk.1.1.1,⟨hk.1.2,⟨hk.2,hk.1.1.2⟩⟩⟩)),(by (with_reducible repeat (first | refine zz6 ?_ _ | refine zz7 ?_ | refine zz8 ?_ _));exact BK178.out),(by repeat first | exact HB.out | apply zz2 | apply zz0 | apply zz1 | refine zz3 ?_ GE178.out)⟩)
             ·skip
              refine Kd.N_lit_step k30 _ 30 ?hg (N':=40) ?hd (xs:=([(⟨a1_0,l1_1⟩:S30)]:List (S30))) (inner:=[.int .i64 a1_0,.slice A1_1 l1_1.length c1_1]) (ok:=(fun k_=>((P0_ k_ ∨ P1_1_ k_) ∨ w.heap.size≤k_)∧some k_ ≠ (v184:Value).ownBlock∧k_ ≠ gb178)) (okp:=(fun k_=>((P0_ k_ ∨ P1_1_ k_) ∨ w.heap.size≤k_)∧some k_ ≠ (v184:Value).ownBlock∧k_ ≠ gb178)) ?hr ?hp (fun _ hk=>hk) ((show ∀ k_,w29.heap.size≤k_→(fun k_=>((P0_ k_ ∨ P1_1_ k_) ∨ w.heap.size≤k_)∧some k_ ≠ (v184:Value).ownBlock∧k_ ≠ gb178) k_ from fun k_ hk=>⟨(.inr (Nat.le_trans (zz5 (by repeat first | exact HB.out | apply zz2 | apply zz0 | apply zz1 | refine zz3 ?_ GE178.out)) hk)),Kd.fresh' (Kd.N_lt (by (with_reducible repeat (first | apply Kd.N_alloc | apply Kd.N_drewN | apply Kd.N_drew));exact HO185.out)) k_ hk,Kd.freshB (g:=gb178) (o:=.cells #[.int .i64 a1_0,.slice A1_1 l1_1.length c1_1] 30 (0,0)) (by (with_reducible repeat (first | refine zz6 ?_ _ | refine zz7 ?_ | refine zz8 ?_ _));exact BK178.out) k_ hk⟩) _ (Nat.le_refl _)) (Below.refl _ _) (Nat.le_refl _) (by simp) ?_;(case hd=>rfl);(case hg=>rfl);(case hr=>first | (go_simp;done) | (go_simp;rfl));(case hp=>exact (Reps.c2 (show Kd.FK k30 _ _ (⟨a1_0,l1_1⟩:S30) [.int .i64 a1_0,.slice A1_1 l1_1.length c1_1] from (k30_mkF _ _ (⟨a1_0,l1_1⟩:S30) (Kd.V_reads' (Kd.V_mono (ok':=(fun k_=>((P0_ k_ ∨ P1_1_ k_) ∨ w.heap.size≤k_)∧some k_ ≠ (v184:Value).ownBlock∧k_ ≠ gb178)) (HO_179001.out) (fun k_ hk=>⟨hk.1.1,⟨hk.2,hk.1.2⟩⟩))).2.1 (Kd.V_F (Kd.V_mono (ok':=(fun k_=>((P0_ k_ ∨ P1_1_ k_) ∨ w.heap.size≤k_)∧some k_ ≠ (v184:Value).ownBlock∧k_ ≠ gb178)) (HO_179001.out) (fun k_ hk=>⟨hk.1.1,⟨hk.2,hk.1.2⟩⟩))))) (Reps.none _ _)))
              intro v195 w31 ho32 hb hg_ hnew_
              clear hg_ hnew_
              (first | rw [← Ny194.out] at ho32 | (simp only [Int.reduceToNat] at ho32;rw [← Ny194.out] at ho32))
              replace HO_0:=zz31 (Kd.V_elder' (by (with_reducible repeat (first | apply Kd.V_alloc | apply Kd.V_drewN | apply Kd.V_drew));exact HO_0.out) (Kd.N_base ho32) hb)
              replace HO_179001:=zz31 (Kd.V_elder' (by (with_reducible repeat (first | apply Kd.V_alloc | apply Kd.V_drewN | apply Kd.V_drew));exact HO_179001.out) (Kd.N_base ho32) hb)
              replace HL179_1:=zz31 (Kd.V_elder' (by (with_reducible repeat (first | apply Kd.V_alloc | apply Kd.V_drewN | apply Kd.V_drew));exact HL179_1.out) (Kd.N_base ho32) hb)
              replace HL181_1:=zz31 (Kd.V_elder' (by (with_reducible repeat (first | apply Kd.V_alloc | apply Kd.V_drewN | apply Kd.V_drew));exact HL181_1.out) (Kd.N_base ho32) hb)
              replace HO190:=zz31 (Kd.V_elder' (by (with_reducible repeat (first | apply Kd.V_alloc | apply Kd.V_drewN | apply Kd.V_drew));exact HO190.out) (Kd.N_base ho32) hb)
              replace HO185:=zz31 (Kd.N_elder' (by (with_reducible repeat (first | apply Kd.N_alloc | apply Kd.N_drewN | apply Kd.N_drew));exact HO185.out) (Kd.N_base ho32) hb)
              have HO196:=zz31 (Kd.N_lower ho32 (zz5 (by repeat first | exact HB.out | apply zz2 | apply zz0 | apply zz1 | refine zz3 ?_ GE178.out)))
              replace BK178:=zz31 (zz11 (g:=gb178) (o:=.cells #[.int .i64 a1_0,.slice A1_1 l1_1.length c1_1] 30 (0,0)) (by (with_reducible repeat (first | refine zz6 ?_ _ | refine zz7 ?_ | refine zz8 ?_ _));exact BK178.out) hb)
              replace HR179_1:=zz31 (Kd.C_below (by repeat (first | (with_reducible exact HR179_1.out) | (with_reducible refine zz18 ?_ _) | (with_reducible refine zz19 ?_ _) | (with_reducible refine zz20 ?_) | exact HR179_1.out)) hb)
              replace HR181_1:=zz31 (Kd.C_below (by repeat (first | (with_reducible exact HR181_1.out) | (with_reducible refine zz18 ?_ _) | (with_reducible refine zz19 ?_ _) | (with_reducible refine zz20 ?_) | exact HR181_1.out)) hb)
              replace HB:=zz31 (zz4 (by repeat first | exact HB.out | apply zz2 | apply zz0 | apply zz1 | refine zz3 ?_ GE178.out) hb)
              clear hb ho32
              refine hK.out _ _ ⟨(zz9 BK178.out 0).trans rfl,(zz9 BK178.out 1).trans rfl⟩ (fun hHeld=>?_)
              clear hK K
              refine norm_ (a':=?_) ?_ ?_;rotate_left;(show Act.put _ (some 40) _=_;simp only [Act.put,zz21,zz22,zz23,i64_w,i32_w];rfl)
              refine one_ (i:=4) (N:=some 38) #[T,T,T,T,T,T,T,F,F] rfl rfl (one_of HT_.out (by kernel_rfl)) (by decide) (fun K hK=>?_)
              refine Kd.N_append_rows_step k30 (w0:=w) w.heap.size (by rfl) (.tmp 34) (.tmp 37) 46 30 (.agg #[(.int .i64 0),(.slice none 0 0)]) 32 rfl Try.underlying46 info30 rfl (by decide) (by omega) v184 y183 y186 _ _ _ (fun k_=>((P0_ k_ ∨ P1_1_ k_) ∨ w.heap.size≤k_)∧some k_ ≠ (v195:Value).ownBlock∧k_ ≠ gb178) (fun k_=>((fun k_=>((P0_ k_ ∨ P1_1_ k_) ∨ w.heap.size≤k_)∧some k_ ≠ (v195:Value).ownBlock∧k_ ≠ gb178)) k_∧some k_ ≠ (v184:Value).ownBlock) rfl rfl ?aO ?aR (fun _ hk=>hk) ?aF ?aB ?aS ?aL ?_
              (case aR=>exact (by skip;exact Kd.V_F (Kd.V_mono (ok':=(fun k_=>((fun k_=>((P0_ k_ ∨ P1_1_ k_) ∨ w.heap.size≤k_)∧some k_ ≠ (v195:Value).ownBlock∧k_ ≠ gb178)) k_∧some k_ ≠ (v184:Value).ownBlock)) (HO190.out) (fun k_ hk=>⟨⟨hk.1.1.1,⟨hk.2,hk.1.1.2⟩⟩,hk.1.2⟩))))
              (case aB=>exact (by repeat first | exact HB.out | apply zz2 | apply zz0 | apply zz1 | refine zz3 ?_ GE178.out))
              (case aF=>exact (fun k_ hk=>⟨(.inr (Nat.le_trans (zz5 (by repeat first | exact HB.out | apply zz2 | apply zz0 | apply zz1 | refine zz3 ?_ GE178.out)) hk)),Kd.fresh' (Kd.N_lt (by (with_reducible repeat (first | apply Kd.N_alloc | apply Kd.N_drewN | apply Kd.N_drew));exact HO196.out)) k_ hk,Kd.freshB (g:=gb178) (o:=.cells #[.int .i64 a1_0,.slice A1_1 l1_1.length c1_1] 30 (0,0)) (by (with_reducible repeat (first | refine zz6 ?_ _ | refine zz7 ?_ | refine zz8 ?_ _));exact BK178.out) k_ hk⟩))
              (case aO=>exact (by (with_reducible repeat (first | apply Kd.N_alloc | apply Kd.N_drewN | apply Kd.N_drew));exact Kd.N_mono HO185.out (fun _ hk=>⟨hk.1.1,⟨hk.2,hk.1.2⟩⟩)))
              (case aS=>exact (zz5 (by repeat first | exact HB.out | apply zz2 | apply zz0 | apply zz1 | refine zz3 ?_ GE178.out)))
              (case aL=>have:=LMc18.out;omega)
              intro v192 w33 ho hb hg hat
              rw [← Ny191.out] at ho
              replace HO_0:=zz31 (Kd.V_afterv (ok:=(fun k_=>((P0_ k_ ∨ P1_1_ k_) ∨ w.heap.size≤k_)∧some k_ ≠ (v195:Value).ownBlock∧k_ ≠ gb178)) (by (with_reducible repeat (first | apply Kd.V_alloc | apply Kd.V_drewN | apply Kd.V_drew));exact Kd.V_mono HO_0.out (fun _ hk=>⟨⟨hk.1.1.1,⟨hk.2,hk.1.1.2⟩⟩,hk.1.2⟩)) hg hat)
              replace HO_179001:=zz31 (Kd.V_afterv (ok:=(fun k_=>((P0_ k_ ∨ P1_1_ k_) ∨ w.heap.size≤k_)∧some k_ ≠ (v195:Value).ownBlock∧k_ ≠ gb178)) (by (with_reducible repeat (first | apply Kd.V_alloc | apply Kd.V_drewN | apply Kd.V_drew));exact Kd.V_mono HO_179001.out (fun _ hk=>⟨⟨hk.1.1.1,⟨hk.2,hk.1.1.2⟩⟩,hk.1.2⟩)) hg hat)
              replace BK178:=zz31 (blk_grown (g:=gb178) (o:=.cells #[.int .i64 a1_0,.slice A1_1 l1_1.length c1_1] 30 (0,0)) (by (with_reducible repeat (first | refine zz6 ?_ _ | refine zz7 ?_ | refine zz8 ?_ _));exact BK178.out) hg (Kd.N_away HO185.out (fun _ hk=>hk.1.2)))
              replace HL179_1:=zz31 (Kd.V_afterv (ok:=(fun k_=>((P0_ k_ ∨ P1_1_ k_) ∨ w.heap.size≤k_)∧some k_ ≠ (v195:Value).ownBlock∧k_ ≠ gb178)) (by (with_reducible repeat (first | apply Kd.V_alloc | apply Kd.V_drewN | apply Kd.V_drew));exact Kd.V_mono HL179_1.out (fun _ hk=>⟨⟨hk.1.1.1,⟨hk.2,hk.1.1.2⟩⟩,hk.1.2⟩)) hg hat)
              replace HL181_1:=zz31 (Kd.V_afterv (ok:=(fun k_=>((P0_ k_ ∨ P1_1_ k_) ∨ w.heap.size≤k_)∧some k_ ≠ (v195:Value).ownBlock∧k_ ≠ gb178)) (by (with_reducible repeat (first | apply Kd.V_alloc | apply Kd.V_drewN | apply Kd.V_drew));exact Kd.V_mono HL181_1.out (fun _ hk=>⟨⟨hk.1.1.1,⟨hk.2,hk.1.1.2⟩⟩,hk.1.2⟩)) hg hat)
              replace HO190:=zz31 (Kd.V_afterv (ok:=(fun k_=>((P0_ k_ ∨ P1_1_ k_) ∨ w.heap.size≤k_)∧some k_ ≠ (v195:Value).ownBlock∧k_ ≠ gb178)) (by (with_reducible repeat (first | apply Kd.V_alloc | apply Kd.V_drewN | apply Kd.V_drew));exact Kd.V_mono HO190.out (fun _ hk=>⟨⟨hk.1.1.1,⟨hk.2,hk.1.1.2⟩⟩,hk.1.2⟩)) hg hat)
              replace HO196:=zz31 (Kd.N_afterv (ok:=(fun k_=>((P0_ k_ ∨ P1_1_ k_) ∨ w.heap.size≤k_)∧k_ ≠ gb178)) (by (with_reducible repeat (first | apply Kd.N_alloc | apply Kd.N_drewN | apply Kd.N_drew));exact Kd.N_mono HO196.out (fun _ hk=>⟨⟨hk.1,hk.2.2⟩,hk.2.1⟩)) hg hat)
              replace HB:=zz31 (hb)
              have HO193:=zz31 (ho)
              clear HO185
              clear ho hb hg hat
              refine hK.out _ _ ⟨(zz9 BK178.out 0).trans rfl,(zz9 BK178.out 1).trans rfl⟩ (fun hHeld=>?_)
              clear hK K
              refine norm_ (a':=?_) ?_ ?_;rotate_left;(show Act.put _ (some 38) _=_;simp only [Act.put,zz21,zz22,zz23,i64_w,i32_w];rfl)
              exact norm_ (by simp only [putAll,Act.put,zz21,zz22,zz23]) (hCont (v184,v192,v195) _ ⟨hHeld,(by (with_reducible repeat (first | apply Kd.V_alloc | apply Kd.V_drewN | apply Kd.V_drew));exact Kd.V_mono HL179_1.out (fun _ hk=>⟨hk.1.1,⟨hk.2,⟨hk.1.2.1,hk.1.2.2⟩⟩⟩)),(by (with_reducible repeat (first | apply Kd.V_alloc | apply Kd.V_drewN | apply Kd.V_drew));exact Kd.V_mono HL181_1.out (fun _ hk=>⟨hk.1.1,⟨hk.2,⟨hk.1.2.1,hk.1.2.2⟩⟩⟩)),(by (with_reducible repeat (first | apply Kd.V_alloc | apply Kd.V_drewN | apply Kd.V_drew));exact Kd.V_mono HO190.out (fun _ hk=>⟨hk.1.1,⟨hk.2,⟨hk.1.2.1,hk.1.2.2⟩⟩⟩)),(by (with_reducible repeat (first | apply Kd.N_alloc | apply Kd.N_drewN | apply Kd.N_drew));exact HO193.out),(by (with_reducible repeat (first | apply Kd.N_alloc | apply Kd.N_drewN | apply Kd.N_drew));exact Kd.N_mono HO196.out (fun _ hk=>⟨hk.1.1,⟨hk.2,hk.1.2⟩⟩)),(by (with_reducible repeat (first | apply Kd.V_alloc | apply Kd.V_drewN | apply Kd.V_drew));exact Kd.V_mono HO_0.out (fun _ hk=>⟨hk.1.1,⟨hk.2,⟨hk.1.2.1,hk.1.2.2⟩⟩⟩)),(by (with_reducible repeat (first | apply Kd.V_alloc | apply Kd.V_drewN | apply Kd.V_drew));exact Kd.V_mono HO_179001.out (fun _ hk=>⟨hk.1.1,⟨hk.2,⟨hk.1.2.1,hk.1.2.2⟩⟩⟩)),(by (with_reducible repeat (first | refine zz6 ?_ _ | refine zz7 ?_ | refine zz8 ?_ _));exact BK178.out),(by repeat first | exact HB.out | apply zz2 | apply zz0 | apply zz1 | refine zz3 ?_ GE178.out)⟩)
            ·skip
             refine Kd.N_lit_step k30 _ 30 ?hg (N':=40) ?hd (xs:=([(⟨a1_0,l1_1⟩:S30)]:List (S30))) (inner:=[.int .i64 a1_0,.slice A1_1 l1_1.length c1_1]) (ok:=(fun k_=>((P0_ k_ ∨ P1_1_ k_) ∨ w.heap.size≤k_)∧k_ ≠ gb178)) (okp:=(fun k_=>((P0_ k_ ∨ P1_1_ k_) ∨ w.heap.size≤k_)∧k_ ≠ gb178)) ?hr ?hp (fun _ hk=>hk) ((show ∀ k_,w27.heap.size≤k_→(fun k_=>((P0_ k_ ∨ P1_1_ k_) ∨ w.heap.size≤k_)∧k_ ≠ gb178) k_ from fun k_ hk=>⟨(.inr (Nat.le_trans (zz5 (by repeat first | exact HB.out | apply zz2 | apply zz0 | apply zz1 | refine zz3 ?_ GE178.out)) hk)),Kd.freshB (g:=gb178) (o:=.cells #[.int .i64 a1_0,.slice A1_1 l1_1.length c1_1] 30 (0,0)) (by (with_reducible repeat (first | refine zz6 ?_ _ | refine zz7 ?_ | refine zz8 ?_ _));exact BK178.out) k_ hk⟩) _ (Nat.le_refl _)) (Below.refl _ _) (Nat.le_refl _) (by simp) ?_;(case hd=>rfl);(case hg=>rfl);(case hr=>first | (go_simp;done) | (go_simp;rfl));(case hp=>exact (Reps.c2 (show Kd.FK k30 _ _ (⟨a1_0,l1_1⟩:S30) [.int .i64 a1_0,.slice A1_1 l1_1.length c1_1] from (k30_mkF _ _ (⟨a1_0,l1_1⟩:S30) (Kd.V_reads' (Kd.V_mono (ok':=(fun k_=>((P0_ k_ ∨ P1_1_ k_) ∨ w.heap.size≤k_)∧k_ ≠ gb178)) (HO_179001.out) (fun k_ hk=>⟨hk.1,hk.2⟩))).2.1 (Kd.V_F (Kd.V_mono (ok':=(fun k_=>((P0_ k_ ∨ P1_1_ k_) ∨ w.heap.size≤k_)∧k_ ≠ gb178)) (HO_179001.out) (fun k_ hk=>⟨hk.1,hk.2⟩))))) (Reps.none _ _)))
             intro v195 w29 ho30 hb hg_ hnew_
             clear hg_ hnew_
             (first | rw [← Ny194.out] at ho30 | (simp only [Int.reduceToNat] at ho30;rw [← Ny194.out] at ho30))
             replace HO_0:=zz31 (Kd.V_elder' (by (with_reducible repeat (first | apply Kd.V_alloc | apply Kd.V_drewN | apply Kd.V_drew));exact HO_0.out) (Kd.N_base ho30) hb)
             replace HO_179001:=zz31 (Kd.V_elder' (by (with_reducible repeat (first | apply Kd.V_alloc | apply Kd.V_drewN | apply Kd.V_drew));exact HO_179001.out) (Kd.N_base ho30) hb)
             replace HL179_1:=zz31 (Kd.V_elder' (by (with_reducible repeat (first | apply Kd.V_alloc | apply Kd.V_drewN | apply Kd.V_drew));exact HL179_1.out) (Kd.N_base ho30) hb)
             replace HL181_1:=zz31 (Kd.V_elder' (by (with_reducible repeat (first | apply Kd.V_alloc | apply Kd.V_drewN | apply Kd.V_drew));exact HL181_1.out) (Kd.N_base ho30) hb)
             replace HO190:=zz31 (Kd.V_elder' (by (with_reducible repeat (first | apply Kd.V_alloc | apply Kd.V_drewN | apply Kd.V_drew));exact HO190.out) (Kd.N_base ho30) hb)
             have HO196:=zz31 (Kd.N_lower ho30 (zz5 (by repeat first | exact HB.out | apply zz2 | apply zz0 | apply zz1 | refine zz3 ?_ GE178.out)))
             replace BK178:=zz31 (zz11 (g:=gb178) (o:=.cells #[.int .i64 a1_0,.slice A1_1 l1_1.length c1_1] 30 (0,0)) (by (with_reducible repeat (first | refine zz6 ?_ _ | refine zz7 ?_ | refine zz8 ?_ _));exact BK178.out) hb)
             replace HR179_1:=zz31 (Kd.C_below (by repeat (first | (with_reducible exact HR179_1.out) | (with_reducible refine zz18 ?_ _) | (with_reducible refine zz19 ?_ _) | (with_reducible refine zz20 ?_) | exact HR179_1.out)) hb)
             replace HR181_1:=zz31 (Kd.C_below (by repeat (first | (with_reducible exact HR181_1.out) | (with_reducible refine zz18 ?_ _) | (with_reducible refine zz19 ?_ _) | (with_reducible refine zz20 ?_) | exact HR181_1.out)) hb)
             replace HB:=zz31 (zz4 (by repeat first | exact HB.out | apply zz2 | apply zz0 | apply zz1 | refine zz3 ?_ GE178.out) hb)
             clear hb ho30
             refine hK.out _ _ ⟨(zz9 BK178.out 0).trans rfl,(zz9 BK178.out 1).trans rfl⟩ (fun hHeld=>?_)
             clear hK K
             refine norm_ (a':=?_) ?_ ?_;rotate_left;(show Act.put _ (some 40) _=_;simp only [Act.put,zz21,zz22,zz23,i64_w,i32_w];rfl)
             refine one_ (i:=0) (N:=some 34) #[T,T,T,T,F,T,T,F,F] rfl rfl (one_of HT_.out (by kernel_rfl)) (by decide) (fun K hK=>?_)
             refine Kd.N_lit_step k30 _ 30 ?hg (N':=34) ?hd (xs:=([]:List (S30))) (inner:=[]) (ok:=(fun k_=>((P0_ k_ ∨ P1_1_ k_) ∨ w.heap.size≤k_)∧some k_ ≠ (v195:Value).ownBlock∧k_ ≠ gb178)) (okp:=(fun k_=>((P0_ k_ ∨ P1_1_ k_) ∨ w.heap.size≤k_)∧some k_ ≠ (v195:Value).ownBlock∧k_ ≠ gb178)) ?hr ?hp (fun _ hk=>hk) ((show ∀ k_,w29.heap.size≤k_→(fun k_=>((P0_ k_ ∨ P1_1_ k_) ∨ w.heap.size≤k_)∧some k_ ≠ (v195:Value).ownBlock∧k_ ≠ gb178) k_ from fun k_ hk=>⟨(.inr (Nat.le_trans (zz5 (by repeat first | exact HB.out | apply zz2 | apply zz0 | apply zz1 | refine zz3 ?_ GE178.out)) hk)),Kd.fresh' (Kd.N_lt (by (with_reducible repeat (first | apply Kd.N_alloc | apply Kd.N_drewN | apply Kd.N_drew));exact HO196.out)) k_ hk,Kd.freshB (g:=gb178) (o:=.cells #[.int .i64 a1_0,.slice A1_1 l1_1.length c1_1] 30 (0,0)) (by (with_reducible repeat (first | refine zz6 ?_ _ | refine zz7 ?_ | refine zz8 ?_ _));exact BK178.out) k_ hk⟩) _ (Nat.le_refl _)) (Below.refl _ _) (Nat.le_refl _) (by simp) ?_;(case hd=>rfl);(case hg=>rfl);(case hr=>first | (go_simp;done) | (go_simp;rfl));(case hp=>exact (Reps.none _ _))
             intro v184 w31 ho32 hb hg_ hnew_
             clear hg_ hnew_
             (first | rw [← Ny183.out] at ho32 | (simp only [Int.reduceToNat] at ho32;rw [← Ny183.out] at ho32))
             replace HO_0:=zz31 (Kd.V_elder' (by (with_reducible repeat (first | apply Kd.V_alloc | apply Kd.V_drewN | apply Kd.V_drew));exact HO_0.out) (Kd.N_base ho32) hb)
             replace HO_179001:=zz31 (Kd.V_elder' (by (with_reducible repeat (first | apply Kd.V_alloc | apply Kd.V_drewN | apply Kd.V_drew));exact HO_179001.out) (Kd.N_base ho32) hb)
             replace HL179_1:=zz31 (Kd.V_elder' (by (with_reducible repeat (first | apply Kd.V_alloc | apply Kd.V_drewN | apply Kd.V_drew));exact HL179_1.out) (Kd.N_base ho32) hb)
             replace HL181_1:=zz31 (Kd.V_elder' (by (with_reducible repeat (first | apply Kd.V_alloc | apply Kd.V_drewN | apply Kd.V_drew));exact HL181_1.out) (Kd.N_base ho32) hb)
             replace HO190:=zz31 (Kd.V_elder' (by (with_reducible repeat (first | apply Kd.V_alloc | apply Kd.V_drewN | apply Kd.V_drew));exact HO190.out) (Kd.N_base ho32) hb)
             replace HO196:=zz31 (Kd.N_elder' (by (with_reducible repeat (first | apply Kd.N_alloc | apply Kd.N_drewN | apply Kd.N_drew));exact HO196.out) (Kd.N_base ho32) hb)
             have HO185:=zz31 (Kd.N_lower ho32 (zz5 (by repeat first | exact HB.out | apply zz2 | apply zz0 | apply zz1 | refine zz3 ?_ GE178.out)))
             replace BK178:=zz31 (zz11 (g:=gb178) (o:=.cells #[.int .i64 a1_0,.slice A1_1 l1_1.length c1_1] 30 (0,0)) (by (with_reducible repeat (first | refine zz6 ?_ _ | refine zz7 ?_ | refine zz8 ?_ _));exact BK178.out) hb)
             replace HR179_1:=zz31 (Kd.C_below (by repeat (first | (with_reducible exact HR179_1.out) | (with_reducible refine zz18 ?_ _) | (with_reducible refine zz19 ?_ _) | (with_reducible refine zz20 ?_) | exact HR179_1.out)) hb)
             replace HR181_1:=zz31 (Kd.C_below (by repeat (first | (with_reducible exact HR181_1.out) | (with_reducible refine zz18 ?_ _) | (with_reducible refine zz19 ?_ _) | (with_reducible refine zz20 ?_) | exact HR181_1.out)) hb)
             replace HB:=zz31 (zz4 (by repeat first | exact HB.out | apply zz2 | apply zz0 | apply zz1 | refine zz3 ?_ GE178.out) hb)
             clear hb ho32
             refine hK.out _ _ ⟨(zz9 BK178.out 0).trans rfl,(zz9 BK178.out 1).trans rfl⟩ (fun hHeld=>?_)
             clear hK K
             refine norm_ (a':=?_) ?_ ?_;rotate_left;(show Act.put _ (some 34) _=_;simp only [Act.put,zz21,zz22,zz23,i64_w,i32_w];rfl)
             refine one_ (i:=4) (N:=some 38) #[T,T,T,T,T,T,T,F,F] rfl rfl (one_of HT_.out (by kernel_rfl)) (by decide) (fun K hK=>?_)
             refine Kd.N_append_rows_step k30 (w0:=w) w.heap.size (by rfl) (.tmp 34) (.tmp 37) 46 30 (.agg #[(.int .i64 0),(.slice none 0 0)]) 32 rfl Try.underlying46 info30 rfl (by decide) (by omega) v184 y183 y186 _ _ _ (fun k_=>((P0_ k_ ∨ P1_1_ k_) ∨ w.heap.size≤k_)∧some k_ ≠ (v195:Value).ownBlock∧k_ ≠ gb178) (fun k_=>((fun k_=>((P0_ k_ ∨ P1_1_ k_) ∨ w.heap.size≤k_)∧some k_ ≠ (v195:Value).ownBlock∧k_ ≠ gb178)) k_∧some k_ ≠ (v184:Value).ownBlock) rfl rfl ?aO ?aR (fun _ hk=>hk) ?aF ?aB ?aS ?aL ?_
             (case aR=>exact (by skip;exact Kd.V_F (Kd.V_mono (ok':=(fun k_=>((fun k_=>((P0_ k_ ∨ P1_1_ k_) ∨ w.heap.size≤k_)∧some k_ ≠ (v195:Value).ownBlock∧k_ ≠ gb178)) k_∧some k_ ≠ (v184:Value).ownBlock)) (HO190.out) (fun k_ hk=>⟨⟨hk.1.1.1,⟨hk.1.2,hk.1.1.2⟩⟩,hk.2⟩))))
             (case aB=>exact (by repeat first | exact HB.out | apply zz2 | apply zz0 | apply zz1 | refine zz3 ?_ GE178.out))
             (case aF=>exact (fun k_ hk=>⟨(.inr (Nat.le_trans (zz5 (by repeat first | exact HB.out | apply zz2 | apply zz0 | apply zz1 | refine zz3 ?_ GE178.out)) hk)),Kd.fresh' (Kd.N_lt (by (with_reducible repeat (first | apply Kd.N_alloc | apply Kd.N_drewN | apply Kd.N_drew));exact HO196.out)) k_ hk,Kd.freshB (g:=gb178) (o:=.cells #[.int .i64 a1_0,.slice A1_1 l1_1.length c1_1] 30 (0,0)) (by (with_reducible repeat (first | refine zz6 ?_ _ | refine zz7 ?_ | refine zz8 ?_ _));exact BK178.out) k_ hk⟩))
             (case aO=>exact (by (with_reducible repeat (first | apply Kd.N_alloc | apply Kd.N_drewN | apply Kd.N_drew));exact HO185.out))
             (case aS=>exact (zz5 (by repeat first | exact HB.out | apply zz2 | apply zz0 | apply zz1 | refine zz3 ?_ GE178.out)))
             (case aL=>have:=LMc18.out;omega)
             intro v192 w33 ho hb hg hat
             rw [← Ny191.out] at ho
             replace HO_0:=zz31 (Kd.V_afterv (ok:=(fun k_=>((P0_ k_ ∨ P1_1_ k_) ∨ w.heap.size≤k_)∧some k_ ≠ (v195:Value).ownBlock∧k_ ≠ gb178)) (by (with_reducible repeat (first | apply Kd.V_alloc | apply Kd.V_drewN | apply Kd.V_drew));exact Kd.V_mono HO_0.out (fun _ hk=>⟨⟨hk.1.1.1,⟨hk.1.2,hk.1.1.2⟩⟩,hk.2⟩)) hg hat)
             replace HO_179001:=zz31 (Kd.V_afterv (ok:=(fun k_=>((P0_ k_ ∨ P1_1_ k_) ∨ w.heap.size≤k_)∧some k_ ≠ (v195:Value).ownBlock∧k_ ≠ gb178)) (by (with_reducible repeat (first | apply Kd.V_alloc | apply Kd.V_drewN | apply Kd.V_drew));exact Kd.V_mono HO_179001.out (fun _ hk=>⟨⟨hk.1.1.1,⟨hk.1.2,hk.1.1.2⟩⟩,hk.2⟩)) hg hat)
             replace BK178:=zz31 (blk_grown (g:=gb178) (o:=.cells #[.int .i64 a1_0,.slice A1_1 l1_1.length c1_1] 30 (0,0)) (by (with_reducible repeat (first | refine zz6 ?_ _ | refine zz7 ?_ | refine zz8 ?_ _));exact BK178.out) hg (Kd.N_away HO185.out (fun _ hk=>hk.2.2)))
             replace HL179_1:=zz31 (Kd.V_afterv (ok:=(fun k_=>((P0_ k_ ∨ P1_1_ k_) ∨ w.heap.size≤k_)∧some k_ ≠ (v195:Value).ownBlock∧k_ ≠ gb178)) (by (with_reducible repeat (first | apply Kd.V_alloc | apply Kd.V_drewN | apply Kd.V_drew));exact Kd.V_mono HL179_1.out (fun _ hk=>⟨⟨hk.1.1.1,⟨hk.1.2,hk.1.1.2⟩⟩,hk.2⟩)) hg hat)
             replace HL181_1:=zz31 (Kd.V_afterv (ok:=(fun k_=>((P0_ k_ ∨ P1_1_ k_) ∨ w.heap.size≤k_)∧some k_ ≠ (v195:Value).ownBlock∧k_ ≠ gb178)) (by (with_reducible repeat (first | apply Kd.V_alloc | apply Kd.V_drewN | apply Kd.V_drew));exact Kd.V_mono HL181_1.out (fun _ hk=>⟨⟨hk.1.1.1,⟨hk.1.2,hk.1.1.2⟩⟩,hk.2⟩)) hg hat)
             replace HO190:=zz31 (Kd.V_afterv (ok:=(fun k_=>((P0_ k_ ∨ P1_1_ k_) ∨ w.heap.size≤k_)∧some k_ ≠ (v195:Value).ownBlock∧k_ ≠ gb178)) (by (with_reducible repeat (first | apply Kd.V_alloc | apply Kd.V_drewN | apply Kd.V_drew));exact Kd.V_mono HO190.out (fun _ hk=>⟨⟨hk.1.1.1,⟨hk.1.2,hk.1.1.2⟩⟩,hk.2⟩)) hg hat)
             replace HO196:=zz31 (Kd.N_afterv (ok:=(fun k_=>((P0_ k_ ∨ P1_1_ k_) ∨ w.heap.size≤k_)∧k_ ≠ gb178)) (by (with_reducible repeat (first | apply Kd.N_alloc | apply Kd.N_drewN | apply Kd.N_drew));exact HO196.out) hg hat)
             replace HB:=zz31 (hb)
             have HO193:=zz31 (ho)
             clear HO185
             clear ho hb hg hat
             refine hK.out _ _ ⟨(zz9 BK178.out 0).trans rfl,(zz9 BK178.out 1).trans rfl⟩ (fun hHeld=>?_)
             clear hK K
             refine norm_ (a':=?_) ?_ ?_;rotate_left;(show Act.put _ (some 38) _=_;simp only [Act.put,zz21,zz22,zz23,i64_w,i32_w];rfl)
             exact norm_ (by simp only [putAll,Act.put,zz21,zz22,zz23]) (hCont (v184,v192,v195) _ ⟨hHeld,(by (with_reducible repeat (first | apply Kd.V_alloc | apply Kd.V_drewN | apply Kd.V_drew));exact Kd.V_mono HL179_1.out (fun _ hk=>⟨hk.1.1,⟨hk.2,⟨hk.1.2.1,hk.1.2.2⟩⟩⟩)),(by (with_reducible repeat (first | apply Kd.V_alloc | apply Kd.V_drewN | apply Kd.V_drew));exact Kd.V_mono HL181_1.out (fun _ hk=>⟨hk.1.1,⟨hk.2,⟨hk.1.2.1,hk.1.2.2⟩⟩⟩)),(by (with_reducible repeat (first | apply Kd.V_alloc | apply Kd.V_drewN | apply Kd.V_drew));exact Kd.V_mono HO190.out (fun _ hk=>⟨hk.1.1,⟨hk.2,⟨hk.1.2.1,hk.1.2.2⟩⟩⟩)),(by (with_reducible repeat (first | apply Kd.N_alloc | apply Kd.N_drewN | apply Kd.N_drew));exact HO193.out),(by (with_reducible repeat (first | apply Kd.N_alloc | apply Kd.N_drewN | apply Kd.N_drew));exact Kd.N_mono HO196.out (fun _ hk=>⟨hk.1.1,⟨hk.2,hk.1.2⟩⟩)),(by (with_reducible repeat (first | apply Kd.V_alloc | apply Kd.V_drewN | apply Kd.V_drew));exact Kd.V_mono HO_0.out (fun _ hk=>⟨hk.1.1,⟨hk.2,⟨hk.1.2.1,hk.1.2.2⟩⟩⟩)),(by (with_reducible repeat (first | apply Kd.V_alloc | apply Kd.V_drewN | apply Kd.V_drew));exact Kd.V_mono HO_179001.out (fun _ hk=>⟨hk.1.1,⟨hk.2,⟨hk.1.2.1,hk.1.2.2⟩⟩⟩)),(by (with_reducible repeat (first | refine zz6 ?_ _ | refine zz7 ?_ | refine zz8 ?_ _));exact BK178.out),(by repeat first | exact HB.out | apply zz2 | apply zz0 | apply zz1 | refine zz3 ?_ GE178.out)⟩)
           rintro ⟨v184,v192,v195⟩ w34 ⟨hS_,h0_,h1_,h2_,h3_,h4_,h5_,h6_,h7_,h8_⟩
           have n0_:Aside0 (Kd.V k70 70 w34 w.heap.size (fun k_=>((P0_ k_ ∨ P1_1_ k_) ∨ w.heap.size≤k_)∧some k_ ≠ (v192:Value).ownBlock∧some k_ ≠ (v195:Value).ownBlock∧k_ ≠ gb178) (.slice A179_1 ((rd_T30 l0 x5_1).f1).length c179_1) ((rd_T30 l0 x5_1).f1)):=⟨h0_⟩
           have n1_:Aside0 (Kd.V k70 70 w34 w.heap.size (fun k_=>((P0_ k_ ∨ P1_1_ k_) ∨ w.heap.size≤k_)∧some k_ ≠ (v192:Value).ownBlock∧some k_ ≠ (v195:Value).ownBlock∧k_ ≠ gb178) (.slice A181_1 ((rd_T30 l0 x5_1).f1).length c181_1) ((rd_T30 l0 x5_1).f1)):=⟨h1_⟩
           have n2_:Aside0 (Kd.V k30 30 w34 w.heap.size (fun k_=>((P0_ k_ ∨ P1_1_ k_) ∨ w.heap.size≤k_)∧some k_ ≠ (v192:Value).ownBlock∧some k_ ≠ (v195:Value).ownBlock∧k_ ≠ gb178) (.slice (some ad179) y186.length c0) y186):=⟨h2_⟩
           have n3_:Aside0 (Kd.N k30 30 w34 w.heap.size (fun k_=>((P0_ k_ ∨ P1_1_ k_) ∨ w.heap.size≤k_)∧some k_ ≠ (v195:Value).ownBlock∧k_ ≠ gb178) v192 y191):=⟨h3_⟩
           have n4_:Aside0 (Kd.N k30 30 w34 w.heap.size (fun k_=>((P0_ k_ ∨ P1_1_ k_) ∨ w.heap.size≤k_)∧some k_ ≠ (v192:Value).ownBlock∧k_ ≠ gb178) v195 y194):=⟨h4_⟩
           have n5_:Aside0 (Kd.V k30 30 w34 w.heap.size (fun k_=>((P0_ k_ ∨ P1_1_ k_) ∨ w.heap.size≤k_)∧some k_ ≠ (v192:Value).ownBlock∧some k_ ≠ (v195:Value).ownBlock∧k_ ≠ gb178) (.slice (some ad179) l0.length c0) l0):=⟨h5_⟩
           have n6_:Aside0 (Kd.V k70 70 w34 w.heap.size (fun k_=>((P0_ k_ ∨ P1_1_ k_) ∨ w.heap.size≤k_)∧some k_ ≠ (v192:Value).ownBlock∧some k_ ≠ (v195:Value).ownBlock∧k_ ≠ gb178) (.slice A1_1 l1_1.length c1_1) l1_1):=⟨h6_⟩
           have n7_:Aside0 (w34.heap[gb178]?=some (.cells #[.int .i64 a1_0,.slice A1_1 l1_1.length c1_1] 30 (0,0))):=⟨h7_⟩
           have n8_:Aside0 (Below w.heap.size w w34):=⟨h8_⟩
           clear HO_0 HO_179001 HL179_1 HL181_1 BK178 HR179_1 HR181_1 HB
           clear h0_ h1_ h2_ h3_ h4_ h5_ h6_ h7_ h8_
           have HL179_1:=n0_
           have HL181_1:=n1_
           have HO190:=n2_
           have HO193:=n3_
           have HO196:=n4_
           have HO_0:=n5_
           have HO_179001:=n6_
           have BK178:=n7_
           have HB:=n8_
           clear n0_ n1_ n2_ n3_ n4_ n5_ n6_ n7_ n8_
           have hHeld:w34.cell? ⟨gb178,0,none⟩=some (.int .i64 a1_0)∧w34.cell? ⟨gb178,1,none⟩=some (.slice A1_1 l1_1.length c1_1):=hS_
           obtain ⟨Ao36,co36,eo36⟩:=Kd.N_slice HO196.out
           (first | subst eo36 | (injection eo36 with f1_ f2_ f3_;have f4_:=f1_.symm;have f5_:=f3_.symm;clear f1_ f2_ f3_;subst f4_;subst f5_))
           refine norm_ (a':=?_) ?_ ?_
           rotate_left
           ·simp only [putAll,Act.put,zz21,zz22,zz23]
            rfl
           refine one_ (i:=7) (N:=some 41) #[T,T,T,T,T,T,T,T,F] rfl rfl (one_of HT_.out (by kernel_rfl)) (by decide) (fun K hK=>?_)
           refine Kd.N_append_rows_step k30 (w0:=w) w.heap.size (by rfl) (.tmp 38) (.tmp 40) 46 30 (.agg #[(.int .i64 0),(.slice none 0 0)]) 32 rfl Try.underlying46 info30 rfl (by decide) (by omega) v192 y191 y194 _ _ _ (fun k_=>((P0_ k_ ∨ P1_1_ k_) ∨ w.heap.size≤k_)∧k_ ≠ gb178) (fun k_=>((fun k_=>((P0_ k_ ∨ P1_1_ k_) ∨ w.heap.size≤k_)∧k_ ≠ gb178)) k_∧some k_ ≠ (v192:Value).ownBlock) rfl rfl ?aO ?aR (fun _ hk=>hk) ?aF ?aB ?aS ?aL ?_
           (case aR=>exact (by skip;exact Kd.N_F (Kd.N_mono (ok':=(fun k_=>((fun k_=>((P0_ k_ ∨ P1_1_ k_) ∨ w.heap.size≤k_)∧k_ ≠ gb178)) k_∧some k_ ≠ (v192:Value).ownBlock)) (HO196.out) (fun k_ hk=>⟨⟨hk.1,hk.2.2⟩,hk.2.1⟩))))
           (case aB=>exact (by repeat first | exact HB.out | apply zz2 | apply zz0 | apply zz1 | refine zz3 ?_ GE178.out))
           (case aF=>exact (fun k_ hk=>⟨(.inr (Nat.le_trans (zz5 (by repeat first | exact HB.out | apply zz2 | apply zz0 | apply zz1 | refine zz3 ?_ GE178.out)) hk)),Kd.freshB (g:=gb178) (o:=.cells #[.int .i64 a1_0,.slice A1_1 l1_1.length c1_1] 30 (0,0)) (by (with_reducible repeat (first | refine zz6 ?_ _ | refine zz7 ?_ | refine zz8 ?_ _));exact BK178.out) k_ hk⟩))
           (case aO=>exact (by (with_reducible repeat (first | apply Kd.N_alloc | apply Kd.N_drewN | apply Kd.N_drew));exact Kd.N_mono HO193.out (fun _ hk=>⟨hk.1,hk.2.2⟩)))
           (case aS=>exact (zz5 (by repeat first | exact HB.out | apply zz2 | apply zz0 | apply zz1 | refine zz3 ?_ GE178.out)))
           (case aL=>have:=LMc19.out;omega)
           intro v198 w35 ho hb hg hat
           rw [← Ny197.out] at ho
           replace HO_0:=zz31 (Kd.V_afterv (ok:=(fun k_=>((P0_ k_ ∨ P1_1_ k_) ∨ w.heap.size≤k_)∧some k_ ≠ (.slice Ao36 y194.length co36:Value).ownBlock∧k_ ≠ gb178)) (by (with_reducible repeat (first | apply Kd.V_alloc | apply Kd.V_drewN | apply Kd.V_drew));exact Kd.V_mono HO_0.out (fun _ hk=>⟨⟨hk.1,⟨hk.2.2.1,hk.2.2.2⟩⟩,hk.2.1⟩)) hg hat)
           replace HO_179001:=zz31 (Kd.V_afterv (ok:=(fun k_=>((P0_ k_ ∨ P1_1_ k_) ∨ w.heap.size≤k_)∧some k_ ≠ (.slice Ao36 y194.length co36:Value).ownBlock∧k_ ≠ gb178)) (by (with_reducible repeat (first | apply Kd.V_alloc | apply Kd.V_drewN | apply Kd.V_drew));exact Kd.V_mono HO_179001.out (fun _ hk=>⟨⟨hk.1,⟨hk.2.2.1,hk.2.2.2⟩⟩,hk.2.1⟩)) hg hat)
           replace BK178:=zz31 (blk_grown (g:=gb178) (o:=.cells #[.int .i64 a1_0,.slice A1_1 l1_1.length c1_1] 30 (0,0)) (by (with_reducible repeat (first | refine zz6 ?_ _ | refine zz7 ?_ | refine zz8 ?_ _));exact BK178.out) hg (Kd.N_away HO193.out (fun _ hk=>hk.2.2)))
           replace HL179_1:=zz31 (Kd.V_afterv (ok:=(fun k_=>((P0_ k_ ∨ P1_1_ k_) ∨ w.heap.size≤k_)∧some k_ ≠ (.slice Ao36 y194.length co36:Value).ownBlock∧k_ ≠ gb178)) (by (with_reducible repeat (first | apply Kd.V_alloc | apply Kd.V_drewN | apply Kd.V_drew));exact Kd.V_mono HL179_1.out (fun _ hk=>⟨⟨hk.1,⟨hk.2.2.1,hk.2.2.2⟩⟩,hk.2.1⟩)) hg hat)
           replace HL181_1:=zz31 (Kd.V_afterv (ok:=(fun k_=>((P0_ k_ ∨ P1_1_ k_) ∨ w.heap.size≤k_)∧some k_ ≠ (.slice Ao36 y194.length co36:Value).ownBlock∧k_ ≠ gb178)) (by (with_reducible repeat (first | apply Kd.V_alloc | apply Kd.V_drewN | apply Kd.V_drew));exact Kd.V_mono HL181_1.out (fun _ hk=>⟨⟨hk.1,⟨hk.2.2.1,hk.2.2.2⟩⟩,hk.2.1⟩)) hg hat)
           replace HO190:=zz31 (Kd.V_afterv (ok:=(fun k_=>((P0_ k_ ∨ P1_1_ k_) ∨ w.heap.size≤k_)∧some k_ ≠ (.slice Ao36 y194.length co36:Value).ownBlock∧k_ ≠ gb178)) (by (with_reducible repeat (first | apply Kd.V_alloc | apply Kd.V_drewN | apply Kd.V_drew));exact Kd.V_mono HO190.out (fun _ hk=>⟨⟨hk.1,⟨hk.2.2.1,hk.2.2.2⟩⟩,hk.2.1⟩)) hg hat)
           replace HO196:=zz31 (Kd.N_afterv (ok:=(fun k_=>((P0_ k_ ∨ P1_1_ k_) ∨ w.heap.size≤k_)∧k_ ≠ gb178)) (by (with_reducible repeat (first | apply Kd.N_alloc | apply Kd.N_drewN | apply Kd.N_drew));exact Kd.N_mono HO196.out (fun _ hk=>⟨⟨hk.1,hk.2.2⟩,hk.2.1⟩)) hg hat)
           replace HB:=zz31 (hb)
           have HO199:=zz31 (ho)
           clear HO193
           clear ho hb hg hat
           refine hK.out _ _ ⟨(zz9 BK178.out 0).trans rfl,(zz9 BK178.out 1).trans rfl⟩ (fun hHeld=>?_)
           clear hK K
           refine norm_ (a':=?_) ?_ ?_;rotate_left;(show Act.put _ (some 41) _=_;simp only [Act.put,zz21,zz22,zz23,i64_w,i32_w];rfl)
           refine zz32 (v:=?_) (a':=?_) 8 (some 6) #[T,T,T,T,T,T,T,T,T] rfl rfl HT_.out (by kernel_rfl) (fun _ _ _ h=>h) (by rfl) (fun w'=>?_) ?_ ?_;rotate_left;(go_simp;with_reducible rfl);rotate_left;(simp only [Act.put,zz21,zz22,zz23,i64_w,i32_w];rfl)
           refine done_ (done_of HT_.out (by kernel_rfl)) ?_
           have q37:(x5_1:Int)≤((l0.length:Int):Int):=zz29 (by first | (with_reducible assumption) | assumption)
           obtain ⟨i037,hi037,_,hsz37,_⟩:=info_parts info30
           have hroom37:l0.length≤c0:=(Kd.V_reads' HO_0.out).2.1
           have hC37:Kd.F k30 _ _ (some ad179) l0.length l0:=(Kd.V_at (base:=w.heap.size) HO_0.out).2.2
           have q037:(0:Int)≤(x5_1:Int):=zz29 (by first | (with_reducible assumption) | assumption)
           have hcut37:=cut_from (P:=Try.prog) 46 30 .i64 Try.underlying46 hi037 2 hsz37 (some ad179) l0.length c0 x5_1 q037 q37
           have hr37:=Kd.F_cut (m:=(x5_1:Int).toNat) (c:=c0) hC37 (by omega) hroom37
           obtain ⟨A37,hA37⟩:∃ A1,A1=(if c0=(x5_1:Int).toNat then (some ad179) else ((some ad179):Option Addr).map (·.add ((x5_1:Int).toNat * 2))):=⟨_,rfl⟩
           obtain ⟨c37,hc37⟩:∃ c1,c1=c0 - (x5_1:Int).toNat:=⟨_,rfl⟩
           have hy37:y200.length=l0.length - (x5_1:Int).toNat:=(by rw [Ny200.out,zz24] <;> omega)
           rw [show (l0).drop (x5_1:Int).toNat=y200 from Ny200.out.symm] at hr37
           replace hr37:Kd.F k30 _ _ A37 y200.length y200:=(by rw [hA37];exact hr37)
           rw [← hy37,← hA37,← hc37] at hcut37
           have HO204:=zz31 (show Kd.V k30 30 _ w.heap.size _ (.slice A37 y200.length c37) y200 from Kd.V_mk (by rw [hy37,hc37];exact Nat.sub_le_sub_right hroom37 _) hr37)
           have HC204:=zz31 (show y200.length≤c37 from by rw [hy37,hc37];exact Nat.sub_le_sub_right hroom37 _)
           clear hr37 hC37 hroom37 hi037 hsz37 hc37
           have KY37:=zz31 hy37
           have KA37:=zz31 hA37
           clear hy37 hA37
           replace q37:=eq_true q37
           try go_wp2_with (first | ((with_reducible refine gate_builtin (b:=.append) (xs:=#[.tmp 42,.tmp 45]) rfl ?_);at_builtin;refine Kd.N_append_rows k30 (w0:=w) w.heap.size rfl (.tmp 42) (.tmp 45) 46 30 (.agg #[(.int .i64 0),(.slice none 0 0)]) 32 rfl Try.underlying46 info30 rfl (by decide) (by omega) v198 y197 y200 _ _ _ (fun k_=>((P0_ k_ ∨ P1_1_ k_) ∨ w.heap.size≤k_)∧k_ ≠ gb178) (fun k_=>((fun k_=>((P0_ k_ ∨ P1_1_ k_) ∨ w.heap.size≤k_)∧k_ ≠ gb178)) k_∧some k_ ≠ (v198:Value).ownBlock) rfl rfl ?aO ?aR (fun _ hk=>hk) ?aF ?aB ?aS ?aL ?_;(case aR=>exact (by skip;exact Kd.V_F (Kd.V_mono (ok':=(fun k_=>((fun k_=>((P0_ k_ ∨ P1_1_ k_) ∨ w.heap.size≤k_)∧k_ ≠ gb178)) k_∧some k_ ≠ (v198:Value).ownBlock)) (HO204.out) (fun k_ hk=>⟨⟨hk.1.1,hk.1.2.2⟩,hk.2⟩))));(case aB=>exact (by repeat first | exact HB.out | apply zz2 | apply zz0 | apply zz1 | refine zz3 ?_ GE178.out));(case aF=>exact (fun k_ hk=>⟨(.inr (Nat.le_trans (zz5 (by repeat first | exact HB.out | apply zz2 | apply zz0 | apply zz1 | refine zz3 ?_ GE178.out)) hk)),Kd.freshB (g:=gb178) (o:=.cells #[.int .i64 a1_0,.slice A1_1 l1_1.length c1_1] 30 (0,0)) (by (with_reducible repeat (first | refine zz6 ?_ _ | refine zz7 ?_ | refine zz8 ?_ _));exact BK178.out) k_ hk⟩));(case aO=>exact (by (with_reducible repeat (first | apply Kd.N_alloc | apply Kd.N_drewN | apply Kd.N_drew));exact HO199.out));(case aS=>exact (zz5 (by repeat first | exact HB.out | apply zz2 | apply zz0 | apply zz1 | refine zz3 ?_ GE178.out)));(case aL=>have:=LMc22.out;omega);intro v206 w38 ho hb hg hat;rw [← Ny205.out] at ho;replace HO_0:=zz31 (Kd.V_afterv (ok:=(fun k_=>((P0_ k_ ∨ P1_1_ k_) ∨ w.heap.size≤k_)∧some k_ ≠ (.slice Ao36 y194.length co36:Value).ownBlock∧k_ ≠ gb178)) (by (with_reducible repeat (first | apply Kd.V_alloc | apply Kd.V_drewN | apply Kd.V_drew));exact HO_0.out) hg hat);replace HO_179001:=zz31 (Kd.V_afterv (ok:=(fun k_=>((P0_ k_ ∨ P1_1_ k_) ∨ w.heap.size≤k_)∧some k_ ≠ (.slice Ao36 y194.length co36:Value).ownBlock∧k_ ≠ gb178)) (by (with_reducible repeat (first | apply Kd.V_alloc | apply Kd.V_drewN | apply Kd.V_drew));exact HO_179001.out) hg hat);replace BK178:=zz31 (blk_grown (g:=gb178) (o:=.cells #[.int .i64 a1_0,.slice A1_1 l1_1.length c1_1] 30 (0,0)) (by (with_reducible repeat (first | refine zz6 ?_ _ | refine zz7 ?_ | refine zz8 ?_ _));exact BK178.out) hg (Kd.N_away HO199.out (fun _ hk=>hk.2)));replace HL179_1:=zz31 (Kd.V_afterv (ok:=(fun k_=>((P0_ k_ ∨ P1_1_ k_) ∨ w.heap.size≤k_)∧some k_ ≠ (.slice Ao36 y194.length co36:Value).ownBlock∧k_ ≠ gb178)) (by (with_reducible repeat (first | apply Kd.V_alloc | apply Kd.V_drewN | apply Kd.V_drew));exact HL179_1.out) hg hat);replace HL181_1:=zz31 (Kd.V_afterv (ok:=(fun k_=>((P0_ k_ ∨ P1_1_ k_) ∨ w.heap.size≤k_)∧some k_ ≠ (.slice Ao36 y194.length co36:Value).ownBlock∧k_ ≠ gb178)) (by (with_reducible repeat (first | apply Kd.V_alloc | apply Kd.V_drewN | apply Kd.V_drew));exact HL181_1.out) hg hat);replace HO190:=zz31 (Kd.V_afterv (ok:=(fun k_=>((P0_ k_ ∨ P1_1_ k_) ∨ w.heap.size≤k_)∧some k_ ≠ (.slice Ao36 y194.length co36:Value).ownBlock∧k_ ≠ gb178)) (by (with_reducible repeat (first | apply Kd.V_alloc | apply Kd.V_drewN | apply Kd.V_drew));exact HO190.out) hg hat);replace HO196:=zz31 (Kd.N_afterv (ok:=(fun k_=>((P0_ k_ ∨ P1_1_ k_) ∨ w.heap.size≤k_)∧k_ ≠ gb178)) (by (with_reducible repeat (first | apply Kd.N_alloc | apply Kd.N_drewN | apply Kd.N_drew));exact HO196.out) hg hat);replace HO204:=zz31 (Kd.V_afterv (ok:=(fun k_=>((P0_ k_ ∨ P1_1_ k_) ∨ w.heap.size≤k_)∧some k_ ≠ (.slice Ao36 y194.length co36:Value).ownBlock∧k_ ≠ gb178)) (by (with_reducible repeat (first | apply Kd.V_alloc | apply Kd.V_drewN | apply Kd.V_drew));exact HO204.out) hg hat);replace HB:=zz31 (hb);have HO207:=zz31 (ho);clear HO199;clear ho hb hg hat))
           go_ret
           exact ⟨_,by first | rfl | (simp [errW_none,errW_some] <;> rfl) | (simp [*,errW_none,errW_some] <;> rfl),Kd.N_V (by (with_reducible repeat (first | apply Kd.N_alloc | apply Kd.N_drewN | apply Kd.N_drew));exact Kd.N_mono HO207.out (fun _ hk=>hk.1)),by repeat first | exact HB.out | apply zz2 | apply zz0 | apply zz1 | refine zz3 ?_ GE178.out⟩
          ·rw [if_neg c22] at H
           exact absurd H (by simp)
         ·rw [if_neg c19] at H
          exact absurd H (by simp)
        ·rw [if_neg c18] at H
         exact absurd H (by simp)
       ·rw [if_neg c17] at H
        exact absurd H (by simp)
    ·rw [if_neg c5] at H
     exact absurd H (by simp)
   ·rw [if_neg c4] at H
    have c4b0:decide (x5_1 < (l0.length:Int))=false:=decide_eq_false c4
    clear c4
    obtain ⟨y208,hy208⟩:∃ y_:List (S30),y_=(([]:List (S30))):=⟨_,rfl⟩
    replace H:(if 0≤x5_1 then (if x5_1≤(l0.length:Int) then ((some (l0.take (x5_1:Int).toNat:List (S30))).bind fun y211=>(if y208.length+y211.length < 4398046511104 then ((some (y208 ++ y211:List (S30))).bind fun y216=>((some (([(⟨a1_0,l1_1⟩:S30)]:List (S30)):List (S30))).bind fun y219=>(if y216.length+y219.length < 4398046511104 then ((some (y216 ++ y219:List (S30))).bind fun y222=>((some (l0.drop (x5_1:Int).toNat:List (S30))).bind fun y225=>(if y222.length+y225.length < 4398046511104 then (some (y222 ++ y225)) else (none)))) else (none)))) else (none))) else (none)) else (none))=some r:=by first | (rw [hy208];with_reducible exact H) | (have H2_:=(Option.bind_some _ _).symm.trans H;rw [hy208];with_reducible exact H2_) | (have H2_:=(Option.bind_some _ _).symm.trans H;with_reducible exact H2_) | with_reducible exact H | (rw [hy208];exact H) | exact H
    have Ny208:=zz31 hy208
    clear hy208
    by_cases c39:0≤x5_1
    ·rw [if_pos c39] at H
     have c39b0:=eq_true c39
     have c39b1:decide (0≤x5_1)=true:=decide_eq_true c39
     clear c39
     by_cases c40:x5_1≤(l0.length:Int)
     ·rw [if_pos c40] at H
      have c40b0:=eq_true c40
      have c40b1:decide (x5_1≤(l0.length:Int))=true:=decide_eq_true c40
      clear c40
      obtain ⟨y211,hy211⟩:∃ y_:List (S30),y_=(l0.take (x5_1:Int).toNat):=⟨_,rfl⟩
      replace H:(if y208.length+y211.length < 4398046511104 then ((some (y208 ++ y211:List (S30))).bind fun y216=>((some (([(⟨a1_0,l1_1⟩:S30)]:List (S30)):List (S30))).bind fun y219=>(if y216.length+y219.length < 4398046511104 then ((some (y216 ++ y219:List (S30))).bind fun y222=>((some (l0.drop (x5_1:Int).toNat:List (S30))).bind fun y225=>(if y222.length+y225.length < 4398046511104 then (some (y222 ++ y225)) else (none)))) else (none)))) else (none))=some r:=by first | (rw [hy211];with_reducible exact H) | (have H2_:=(Option.bind_some _ _).symm.trans H;rw [hy211];with_reducible exact H2_) | (have H2_:=(Option.bind_some _ _).symm.trans H;with_reducible exact H2_) | with_reducible exact H | (rw [hy211];exact H) | exact H
      have Ny211:=zz31 hy211
      clear hy211
      by_cases c41:y208.length+y211.length < 4398046511104
      ·rw [if_pos c41] at H
       have LMc41:=zz31 c41
       clear c41
       obtain ⟨y216,hy216⟩:∃ y_:List (S30),y_=(y208 ++ y211):=⟨_,rfl⟩
       replace H:((some (([(⟨a1_0,l1_1⟩:S30)]:List (S30)):List (S30))).bind fun y219=>(if y216.length+y219.length < 4398046511104 then ((some (y216 ++ y219:List (S30))).bind fun y222=>((some (l0.drop (x5_1:Int).toNat:List (S30))).bind fun y225=>(if y222.length+y225.length < 4398046511104 then (some (y222 ++ y225)) else (none)))) else (none)))=some r:=by first | (rw [hy216];with_reducible exact H) | (have H2_:=(Option.bind_some _ _).symm.trans H;rw [hy216];with_reducible exact H2_) | (have H2_:=(Option.bind_some _ _).symm.trans H;with_reducible exact H2_) | with_reducible exact H | (rw [hy216];exact H) | exact H
       have Ny216:=zz31 hy216
       clear hy216
       obtain ⟨y219,hy219⟩:∃ y_:List (S30),y_=(([(⟨a1_0,l1_1⟩:S30)]:List (S30))):=⟨_,rfl⟩
       replace H:(if y216.length+y219.length < 4398046511104 then ((some (y216 ++ y219:List (S30))).bind fun y222=>((some (l0.drop (x5_1:Int).toNat:List (S30))).bind fun y225=>(if y222.length+y225.length < 4398046511104 then (some (y222 ++ y225)) else (none)))) else (none))=some r:=by first | (rw [hy219];with_reducible exact H) | (have H2_:=(Option.bind_some _ _).symm.trans H;rw [hy219];with_reducible exact H2_) | (have H2_:=(Option.bind_some _ _).symm.trans H;with_reducible exact H2_) | with_reducible exact H | (rw [hy219];exact H) | exact H
       have Ny219:=zz31 hy219
       clear hy219
       by_cases c42:y216.length+y219.length < 4398046511104
       ·rw [if_pos c42] at H
        have LMc42:=zz31 c42
        clear c42
        obtain ⟨y222,hy222⟩:∃ y_:List (S30),y_=(y216 ++ y219):=⟨_,rfl⟩
        replace H:((some (l0.drop (x5_1:Int).toNat:List (S30))).bind fun y225=>(if y222.length+y225.length < 4398046511104 then (some (y222 ++ y225)) else (none)))=some r:=by first | (rw [hy222];with_reducible exact H) | (have H2_:=(Option.bind_some _ _).symm.trans H;rw [hy222];with_reducible exact H2_) | (have H2_:=(Option.bind_some _ _).symm.trans H;with_reducible exact H2_) | with_reducible exact H | (rw [hy222];exact H) | exact H
        have Ny222:=zz31 hy222
        clear hy222
        have c43b0:=eq_true (zz29 (by first | (with_reducible assumption) | assumption):0≤x5_1)
        have c44b0:=eq_true (zz29 (by first | (with_reducible assumption) | assumption):x5_1≤(l0.length:Int))
        obtain ⟨y225,hy225⟩:∃ y_:List (S30),y_=(l0.drop (x5_1:Int).toNat):=⟨_,rfl⟩
        replace H:(if y222.length+y225.length < 4398046511104 then (some (y222 ++ y225)) else (none))=some r:=by first | (rw [hy225];with_reducible exact H) | (have H2_:=(Option.bind_some _ _).symm.trans H;rw [hy225];with_reducible exact H2_) | (have H2_:=(Option.bind_some _ _).symm.trans H;with_reducible exact H2_) | with_reducible exact H | (rw [hy225];exact H) | exact H
        have Ny225:=zz31 hy225
        clear hy225
        by_cases c45:y222.length+y225.length < 4398046511104
        ·rw [if_pos c45] at H
         have LMc45:=zz31 c45
         clear c45
         obtain ⟨y230,hy230⟩:∃ y_:List (S30),y_=(y222 ++ y225):=⟨_,rfl⟩
         replace H:(some y230)=some r:=by first | (rw [hy230];with_reducible exact H) | (have H2_:=(Option.bind_some _ _).symm.trans H;rw [hy230];with_reducible exact H2_) | (have H2_:=(Option.bind_some _ _).symm.trans H;with_reducible exact H2_) | with_reducible exact H | (rw [hy230];exact H) | exact H
         have Ny230:=zz31 hy230
         clear hy230
         obtain rfl:=Option.some.inj H
         try go_wp2
         replace HO_0:=zz31 (Kd.V_drew HO_0.out)
         replace HO_179001:=zz31 (Kd.V_drew HO_179001.out)
         replace BK178:=zz31 (zz7 BK178.out)
         replace HB:=zz31 (zz1 HB.out)
         refine start_ (n:=12) (S:=fun w'=>True) (ds:=[]) #[F,F,F,F,F,F,F,F,F,F,F,F] (by kernel_rfl) rfl rfl trivial (fun hHeld=>?_);refine with_tabW spec_dePut.tab2 spec_dePut.bits2 (fun HT_ HW_=>?_)
         generalize wr.drew=w46 at HO_0 HO_179001 BK178 HB hHeld ⊢
         refine zz32 (v:=?_) (a':=?_) 0 (some 7) #[T,F,F,F,F,F,F,F,F,F,F,F] rfl rfl HT_.out (by kernel_rfl) (fun _ _ _ h=>h) (by rfl) (fun w'=>?_) ?_ ?_;rotate_left;(go_simp;with_reducible rfl);rotate_left;(simp only [Act.put,zz21,zz22,zz23,i64_w,i32_w];rfl)
         refine zz32 (v:=?_) (a':=?_) 1 (some 8) #[T,T,F,F,F,F,F,F,F,F,F,F] rfl rfl HT_.out (by kernel_rfl) (fun _ _ _ h=>h) (by rfl) (fun w'=>?_) ?_ ?_;rotate_left;(go_simp;with_reducible rfl);rotate_left;(simp only [Act.put,zz21,zz22,zz23,i64_w,i32_w];rfl)
         refine zz32 (v:=?_) (a':=?_) 2 (some 9) #[T,T,T,F,F,F,F,F,F,F,F,F] rfl rfl HT_.out (by kernel_rfl) (fun _ _ _ h=>h) (by rfl) (fun w'=>?_) ?_ ?_;rotate_left;(go_simp;with_reducible rfl);rotate_left;(simp only [Act.put,zz21,zz22,zz23,i64_w,i32_w];rfl)
         refine zz32 (v:=?_) (a':=?_) 3 (some 10) #[T,T,T,T,F,F,F,F,F,F,F,F] rfl rfl HT_.out (by kernel_rfl) (fun _ _ _ h=>h) (by rfl) (fun w'=>?_) ?_ ?_;rotate_left;(go_simp;with_reducible rfl);rotate_left;(simp only [Act.put,zz21,zz22,zz23,i64_w,i32_w];rfl)
         refine zz32 (v:=?_) (a':=?_) 4 (some 11) #[T,T,T,T,T,F,F,F,F,F,F,F] rfl rfl HT_.out (by kernel_rfl) (fun _ _ _ h=>h) (by rfl) (fun w'=>?_) ?_ ?_;rotate_left;(go_simp;with_reducible rfl);rotate_left;(simp only [Act.put,zz21,zz22,zz23,i64_w,i32_w];rfl)
         refine pure_ (i:=5) (N:=some 12) (v:=undef) (a':=?_) #[T,T,T,T,T,T,F,F,F,F,F,F] rfl rfl (any_of HT_.out (by kernel_rfl)) (fun _ _ _ h=>h) (Or.inr ⟨by rfl,rfl⟩) ?_ ?_
         rotate_left
         ·simp only [Act.put,zz21,zz22,zz23,i64_w,i32_w]
          rfl
         refine pure_ (i:=6) (N:=some 13) (v:=undef) (a':=?_) #[T,T,T,T,T,T,T,F,F,F,F,F] rfl rfl (any_of HT_.out (by kernel_rfl)) (fun _ _ _ h=>h) (Or.inr ⟨by rfl,rfl⟩) ?_ ?_
         rotate_left
         ·simp only [Act.put,zz21,zz22,zz23,i64_w,i32_w]
          rfl
         refine pure_ (i:=7) (N:=some 14) (v:=undef) (a':=?_) #[T,T,T,T,T,T,T,T,F,F,F,F] rfl rfl (any_of HT_.out (by kernel_rfl)) (fun _ _ _ h=>h) (Or.inr ⟨by rfl,rfl⟩) ?_ ?_
         rotate_left
         ·simp only [Act.put,zz21,zz22,zz23,i64_w,i32_w]
          rfl
         refine pure_ (i:=8) (N:=some 15) (v:=undef) (a':=?_) #[T,T,T,T,T,T,T,T,T,F,F,F] rfl rfl (any_of HT_.out (by kernel_rfl)) (fun _ _ _ h=>h) (Or.inr ⟨by rfl,rfl⟩) ?_ ?_
         rotate_left
         ·simp only [Act.put,zz21,zz22,zz23,i64_w,i32_w]
          rfl
         refine pure_ (i:=9) (N:=some 16) (v:=undef) (a':=?_) #[T,T,T,T,T,T,T,T,T,T,F,F] rfl rfl (any_of HT_.out (by kernel_rfl)) (fun _ _ _ h=>h) (Or.inr ⟨by rfl,rfl⟩) ?_ ?_
         rotate_left
         ·simp only [Act.put,zz21,zz22,zz23,i64_w,i32_w]
          rfl
         refine pure_ (i:=10) (N:=some 17) (v:=undef) (a':=?_) #[T,T,T,T,T,T,T,T,T,T,T,F] rfl rfl (any_of HT_.out (by kernel_rfl)) (fun _ _ _ h=>h) (Or.inr ⟨by rfl,rfl⟩) ?_ ?_
         rotate_left
         ·simp only [Act.put,zz21,zz22,zz23,i64_w,i32_w]
          rfl
         refine zz32 (v:=?_) (a':=?_) 11 (some 18) #[T,T,T,T,T,T,T,T,T,T,T,T] rfl rfl HT_.out (by kernel_rfl) (fun _ _ _ h=>h) (by rfl) (fun w'=>?_) ?_ ?_;rotate_left;(go_simp;with_reducible rfl);rotate_left;(simp only [Act.put,zz21,zz22,zz23,i64_w,i32_w];rfl)
         refine done_ (done_of HT_.out (by kernel_rfl)) ?_
         try go_wp2
         replace HO_0:=zz31 (Kd.V_drew HO_0.out)
         replace HO_179001:=zz31 (Kd.V_drew HO_179001.out)
         replace BK178:=zz31 (zz7 BK178.out)
         replace HB:=zz31 (zz1 HB.out)
         refine start_ (n:=12) (S:=fun w'=>True) (ds:=[]) #[F,F,F,F,F,F,F,F,F,F,F,F] (by kernel_rfl) rfl rfl trivial (fun hHeld=>?_);refine with_tabW spec_dePut.tab4 spec_dePut.bits4 (fun HT_ HW_=>?_)
         generalize w46.drew=w47 at HO_0 HO_179001 BK178 HB hHeld ⊢
         refine zz32 (v:=?_) (a':=?_) 0 (some 21) #[T,F,F,F,F,F,F,F,F,F,F,F] rfl rfl HT_.out (by kernel_rfl) (fun _ _ _ h=>h) (by rfl) (fun w'=>?_) ?_ ?_;rotate_left;(go_simp;with_reducible rfl);rotate_left;(simp only [Act.put,zz21,zz22,zz23,i64_w,i32_w];rfl)
         refine zz32 (v:=?_) (a':=?_) 1 (some 22) #[T,T,F,F,F,F,F,F,F,F,F,F] rfl rfl HT_.out (by kernel_rfl) (fun _ _ _ h=>h) (by rfl) (fun w'=>?_) ?_ ?_;rotate_left;(go_simp;with_reducible rfl);rotate_left;(simp only [Act.put,zz21,zz22,zz23,i64_w,i32_w];rfl)
         refine zz32 (v:=?_) (a':=?_) 2 (some 23) #[T,T,T,F,F,F,F,F,F,F,F,F] rfl rfl HT_.out (by kernel_rfl) (fun _ _ _ h=>h) (by rfl) (fun w'=>?_) ?_ ?_;rotate_left;(go_simp;with_reducible rfl);rotate_left;(simp only [Act.put,zz21,zz22,zz23,i64_w,i32_w];rfl)
         refine zz32 (v:=?_) (a':=?_) 3 (some 24) #[T,T,T,T,F,F,F,F,F,F,F,F] rfl rfl HT_.out (by kernel_rfl) (fun _ _ _ h=>h) (by rfl) (fun w'=>?_) ?_ ?_;rotate_left;(go_simp;with_reducible rfl);rotate_left;(simp only [Act.put,zz21,zz22,zz23,i64_w,i32_w];rfl)
         refine zz32 (v:=?_) (a':=?_) 4 (some 25) #[T,T,T,T,T,F,F,F,F,F,F,F] rfl rfl HT_.out (by kernel_rfl) (fun _ _ _ h=>h) (by rfl) (fun w'=>?_) ?_ ?_;rotate_left;(go_simp;with_reducible rfl);rotate_left;(simp only [Act.put,zz21,zz22,zz23,i64_w,i32_w];rfl)
         refine pure_ (i:=5) (N:=some 26) (v:=undef) (a':=?_) #[T,T,T,T,T,T,F,F,F,F,F,F] rfl rfl (any_of HT_.out (by kernel_rfl)) (fun _ _ _ h=>h) (Or.inr ⟨by rfl,rfl⟩) ?_ ?_
         rotate_left
         ·simp only [Act.put,zz21,zz22,zz23,i64_w,i32_w]
          rfl
         refine pure_ (i:=6) (N:=some 27) (v:=undef) (a':=?_) #[T,T,T,T,T,T,T,F,F,F,F,F] rfl rfl (any_of HT_.out (by kernel_rfl)) (fun _ _ _ h=>h) (Or.inr ⟨by rfl,rfl⟩) ?_ ?_
         rotate_left
         ·simp only [Act.put,zz21,zz22,zz23,i64_w,i32_w]
          rfl
         refine pure_ (i:=7) (N:=some 28) (v:=undef) (a':=?_) #[T,T,T,T,T,T,T,T,F,F,F,F] rfl rfl (any_of HT_.out (by kernel_rfl)) (fun _ _ _ h=>h) (Or.inr ⟨by rfl,rfl⟩) ?_ ?_
         rotate_left
         ·simp only [Act.put,zz21,zz22,zz23,i64_w,i32_w]
          rfl
         refine pure_ (i:=8) (N:=some 29) (v:=undef) (a':=?_) #[T,T,T,T,T,T,T,T,T,F,F,F] rfl rfl (any_of HT_.out (by kernel_rfl)) (fun _ _ _ h=>h) (Or.inr ⟨by rfl,rfl⟩) ?_ ?_
         rotate_left
         ·simp only [Act.put,zz21,zz22,zz23,i64_w,i32_w]
          rfl
         refine pure_ (i:=9) (N:=some 30) (v:=undef) (a':=?_) #[T,T,T,T,T,T,T,T,T,T,F,F] rfl rfl (any_of HT_.out (by kernel_rfl)) (fun _ _ _ h=>h) (Or.inr ⟨by rfl,rfl⟩) ?_ ?_
         rotate_left
         ·simp only [Act.put,zz21,zz22,zz23,i64_w,i32_w]
          rfl
         refine pure_ (i:=10) (N:=some 31) (v:=undef) (a':=?_) #[T,T,T,T,T,T,T,T,T,T,T,F] rfl rfl (any_of HT_.out (by kernel_rfl)) (fun _ _ _ h=>h) (Or.inr ⟨by rfl,rfl⟩) ?_ ?_
         rotate_left
         ·simp only [Act.put,zz21,zz22,zz23,i64_w,i32_w]
          rfl
         refine zz32 (v:=?_) (a':=?_) 11 (some 32) #[T,T,T,T,T,T,T,T,T,T,T,T] rfl rfl HT_.out (by kernel_rfl) (fun _ _ _ h=>h) (by rfl) (fun w'=>?_) ?_ ?_;rotate_left;(go_simp;with_reducible rfl);rotate_left;(simp only [Act.put,zz21,zz22,zz23,i64_w,i32_w];rfl)
         refine done_ (done_of HT_.out (by kernel_rfl)) ?_
         try go_wp2
         replace HO_0:=zz31 (Kd.V_drew HO_0.out)
         replace HO_179001:=zz31 (Kd.V_drew HO_179001.out)
         replace BK178:=zz31 (zz7 BK178.out)
         replace HB:=zz31 (zz1 HB.out)
         have q49:(x5_1:Int)≤((l0.length:Int):Int):=zz29 (by first | (with_reducible assumption) | assumption)
         obtain ⟨i049,hi049,_,hsz49,_⟩:=info_parts info30
         have hroom49:l0.length≤c0:=(Kd.V_reads' HO_0.out).2.1
         have hC49:Kd.F k30 _ _ A0 l0.length l0:=(Kd.V_at (base:=w.heap.size) HO_0.out).2.2
         have hcut49:=cut_to (P:=Try.prog) 46 30 .i64 Try.underlying46 hi049 A0 l0.length c0 x5_1 (zz29 (by first | (with_reducible assumption) | assumption)) q49 hroom49
         have hr49:=Kd.F_take (m:=(x5_1:Int).toNat) hC49 (by omega)
         have hy49:y211.length=(x5_1:Int).toNat:=(by rw [Ny211.out,zz25];omega)
         rw [← Ny211.out] at hr49
         rw [← hy49] at hcut49
         have HO215:=zz31 (show Kd.V k30 30 _ w.heap.size _ (.slice A0 y211.length c0) y211 from Kd.V_mk (by omega) hr49)
         have HC215:=zz31 (show y211.length≤c0 from by omega)
         clear hr49 hC49 hroom49 hi049 hsz49
         have KY49:=zz31 hy49
         clear hy49
         replace q49:=eq_true q49
         refine start_ (n:=9) (S:=fun w'=>w'.cell? ⟨gb178,0,none⟩=some (.int .i64 a1_0)∧w'.cell? ⟨gb178,1,none⟩=some (.slice A1_1 l1_1.length c1_1)) (ds:=[]) #[F,F,F,F,F,F,F,F,F] (by kernel_rfl) rfl rfl ⟨(zz9 BK178.out 0).trans rfl,(zz9 BK178.out 1).trans rfl⟩ (fun hHeld=>?_);refine with_tabW spec_dePut.tab6 spec_dePut.bits6 (fun HT_ HW_=>?_)
         generalize w47.drew=w48 at HO_0 HO_179001 BK178 HB HO215 hHeld ⊢
         refine zz32 (v:=?_) (a':=?_) 1 (some 35) #[F,T,F,F,F,F,F,F,F] rfl rfl HT_.out (by kernel_rfl) (fun _ _ _ h=>h) (by rfl) (fun w'=>?_) ?_ ?_;rotate_left;(go_simp;with_reducible rfl);rotate_left;(simp only [Act.put,zz21,zz22,zz23,i64_w,i32_w];rfl)
         refine zz32 (v:=?_) (a':=?_) 2 (some 36) #[F,T,T,F,F,F,F,F,F] rfl rfl HT_.out (by kernel_rfl) (fun _ _ _ h=>h) (by rfl) (fun w'=>?_) ?_ ?_;rotate_left;(go_simp;with_reducible rfl);rotate_left;(simp only [Act.put,zz21,zz22,zz23,i64_w,i32_w];rfl)
         refine zz32 (v:=?_) (a':=?_) 3 (some 37) #[F,T,T,T,F,F,F,F,F] rfl rfl HT_.out (by kernel_rfl) (fun _ _ _ h=>h) (by rfl) (fun w'=>?_) ?_ ?_;rotate_left;(go_simp;with_reducible rfl);rotate_left;(simp only [Act.put,zz21,zz22,zz23,i64_w,i32_w];rfl)
         refine zz33 (v:=?_) (a':=?_) 5 (some 39) #[F,T,T,T,F,T,F,F,F] rfl rfl HT_.out HW_.out (by kernel_rfl) (fun _ _ _ h=>h) (by rfl) ?_ hHeld ?_ ?_;rotate_left;(rintro w' ⟨s0,s1⟩;go_simp;with_reducible rfl);rotate_left;(simp only [Act.put,zz21,zz22,zz23,i64_w,i32_w];rfl)
         refine join_ (σ:=Value × Value × Value) 2 #[T,T,T,T,T,T,T,F,F] (fun s_=>[(34,s_.1),(38,s_.2.1),(40,s_.2.2)]) (fun s_ w'=>(w'.cell? ⟨gb178,0,none⟩=some (.int .i64 a1_0)∧w'.cell? ⟨gb178,1,none⟩=some (.slice A1_1 l1_1.length c1_1))∧(Kd.V k30 30 w' w.heap.size (fun k_=>((P0_ k_ ∨ P1_1_ k_) ∨ w.heap.size≤k_)∧some k_ ≠ (s_.2.1:Value).ownBlock∧some k_ ≠ (s_.2.2:Value).ownBlock∧k_ ≠ gb178) (.slice A0 y211.length c0) y211)∧(Kd.N k30 30 w' w.heap.size (fun k_=>((P0_ k_ ∨ P1_1_ k_) ∨ w.heap.size≤k_)∧some k_ ≠ (s_.2.2:Value).ownBlock∧k_ ≠ gb178) s_.2.1 y216)∧(Kd.N k30 30 w' w.heap.size (fun k_=>((P0_ k_ ∨ P1_1_ k_) ∨ w.heap.size≤k_)∧some k_ ≠ (s_.2.1:Value).ownBlock∧k_ ≠ gb178) s_.2.2 y219)∧(Kd.V k30 30 w' w.heap.size (fun k_=>((P0_ k_ ∨ P1_1_ k_) ∨ w.heap.size≤k_)∧some k_ ≠ (s_.2.1:Value).ownBlock∧some k_ ≠ (s_.2.2:Value).ownBlock∧k_ ≠ gb178) (.slice A0 l0.length c0) l0)∧(Kd.V k70 70 w' w.heap.size (fun k_=>((P0_ k_ ∨ P1_1_ k_) ∨ w.heap.size≤k_)∧some k_ ≠ (s_.2.1:Value).ownBlock∧some k_ ≠ (s_.2.2:Value).ownBlock∧k_ ≠ gb178) (.slice A1_1 l1_1.length c1_1) l1_1)∧(w'.heap[gb178]?=some (.cells #[.int .i64 a1_0,.slice A1_1 l1_1.length c1_1] 30 (0,0)))∧(Below w.heap.size w w')) ?_ ?_
         rotate_left
         ·intro hCont
          refine two_ (i:=0) (j:=6) (Ni:=some 34) (Nj:=some 40) #[T,T,T,T,F,T,F,F,F] #[F,T,T,T,F,T,T,F,F] rfl rfl rfl rfl (two_of HT_.out (by kernel_rfl)) (by decide) (by decide) (fun K hK=>?_) (fun K hK=>?_)
          ·skip
           refine Kd.N_lit_step k30 _ 30 ?hg (N':=34) ?hd (xs:=([]:List (S30))) (inner:=[]) (ok:=(fun k_=>((P0_ k_ ∨ P1_1_ k_) ∨ w.heap.size≤k_)∧k_ ≠ gb178)) (okp:=(fun k_=>((P0_ k_ ∨ P1_1_ k_) ∨ w.heap.size≤k_)∧k_ ≠ gb178)) ?hr ?hp (fun _ hk=>hk) ((show ∀ k_,w48.heap.size≤k_→(fun k_=>((P0_ k_ ∨ P1_1_ k_) ∨ w.heap.size≤k_)∧k_ ≠ gb178) k_ from fun k_ hk=>⟨(.inr (Nat.le_trans (zz5 (by repeat first | exact HB.out | apply zz2 | apply zz0 | apply zz1 | refine zz3 ?_ GE178.out)) hk)),Kd.freshB (g:=gb178) (o:=.cells #[.int .i64 a1_0,.slice A1_1 l1_1.length c1_1] 30 (0,0)) (by (with_reducible repeat (first | refine zz6 ?_ _ | refine zz7 ?_ | refine zz8 ?_ _));exact BK178.out) k_ hk⟩) _ (Nat.le_refl _)) (Below.refl _ _) (Nat.le_refl _) (by simp) ?_;(case hd=>rfl);(case hg=>rfl);(case hr=>first | (go_simp;done) | (go_simp;rfl));(case hp=>exact (Reps.none _ _))
           intro v209 w50 ho51 hb hg_ hnew_
           clear hg_ hnew_
           (first | rw [← Ny208.out] at ho51 | (simp only [Int.reduceToNat] at ho51;rw [← Ny208.out] at ho51))
           replace HO_0:=zz31 (Kd.V_elder' (by (with_reducible repeat (first | apply Kd.V_alloc | apply Kd.V_drewN | apply Kd.V_drew));exact HO_0.out) (Kd.N_base ho51) hb)
           replace HO_179001:=zz31 (Kd.V_elder' (by (with_reducible repeat (first | apply Kd.V_alloc | apply Kd.V_drewN | apply Kd.V_drew));exact HO_179001.out) (Kd.N_base ho51) hb)
           replace HO215:=zz31 (Kd.V_elder' (by (with_reducible repeat (first | apply Kd.V_alloc | apply Kd.V_drewN | apply Kd.V_drew));exact HO215.out) (Kd.N_base ho51) hb)
           have HO210:=zz31 (Kd.N_lower ho51 (zz5 (by repeat first | exact HB.out | apply zz2 | apply zz0 | apply zz1 | refine zz3 ?_ GE178.out)))
           replace BK178:=zz31 (zz11 (g:=gb178) (o:=.cells #[.int .i64 a1_0,.slice A1_1 l1_1.length c1_1] 30 (0,0)) (by (with_reducible repeat (first | refine zz6 ?_ _ | refine zz7 ?_ | refine zz8 ?_ _));exact BK178.out) hb)
           replace HB:=zz31 (zz4 (by repeat first | exact HB.out | apply zz2 | apply zz0 | apply zz1 | refine zz3 ?_ GE178.out) hb)
           clear hb ho51
           refine hK.out _ _ ⟨(zz9 BK178.out 0).trans rfl,(zz9 BK178.out 1).trans rfl⟩ (fun hHeld=>?_)
           clear hK K
           refine norm_ (a':=?_) ?_ ?_;rotate_left;(show Act.put _ (some 34) _=_;simp only [Act.put,zz21,zz22,zz23,i64_w,i32_w];rfl)
           refine two_ (i:=4) (j:=6) (Ni:=some 38) (Nj:=some 40) #[T,T,T,T,T,T,F,F,F] #[T,T,T,T,F,T,T,F,F] rfl rfl rfl rfl (two_of HT_.out (by kernel_rfl)) (by decide) (by decide) (fun K hK=>?_) (fun K hK=>?_)
           ·skip
            refine Kd.N_append_rows_step k30 (w0:=w) w.heap.size (by rfl) (.tmp 34) (.tmp 37) 46 30 (.agg #[(.int .i64 0),(.slice none 0 0)]) 32 rfl Try.underlying46 info30 rfl (by decide) (by omega) v209 y208 y211 _ _ _ (fun k_=>((P0_ k_ ∨ P1_1_ k_) ∨ w.heap.size≤k_)∧k_ ≠ gb178) (fun k_=>((fun k_=>((P0_ k_ ∨ P1_1_ k_) ∨ w.heap.size≤k_)∧k_ ≠ gb178)) k_∧some k_ ≠ (v209:Value).ownBlock) rfl rfl ?aO ?aR (fun _ hk=>hk) ?aF ?aB ?aS ?aL ?_
            (case aR=>exact (by skip;exact Kd.V_F (Kd.V_mono (ok':=(fun k_=>((fun k_=>((P0_ k_ ∨ P1_1_ k_) ∨ w.heap.size≤k_)∧k_ ≠ gb178)) k_∧some k_ ≠ (v209:Value).ownBlock)) (HO215.out) (fun k_ hk=>⟨⟨hk.1.1,hk.1.2⟩,hk.2⟩))))
            (case aB=>exact (by repeat first | exact HB.out | apply zz2 | apply zz0 | apply zz1 | refine zz3 ?_ GE178.out))
            (case aF=>exact (fun k_ hk=>⟨(.inr (Nat.le_trans (zz5 (by repeat first | exact HB.out | apply zz2 | apply zz0 | apply zz1 | refine zz3 ?_ GE178.out)) hk)),Kd.freshB (g:=gb178) (o:=.cells #[.int .i64 a1_0,.slice A1_1 l1_1.length c1_1] 30 (0,0)) (by (with_reducible repeat (first | refine zz6 ?_ _ | refine zz7 ?_ | refine zz8 ?_ _));exact BK178.out) k_ hk⟩))
            (case aO=>exact (by (with_reducible repeat (first | apply Kd.N_alloc | apply Kd.N_drewN | apply Kd.N_drew));exact HO210.out))
            (case aS=>exact (zz5 (by repeat first | exact HB.out | apply zz2 | apply zz0 | apply zz1 | refine zz3 ?_ GE178.out)))
            (case aL=>have:=LMc41.out;omega)
            intro v217 w52 ho hb hg hat
            rw [← Ny216.out] at ho
            replace HO_0:=zz31 (Kd.V_afterv (ok:=(fun k_=>((P0_ k_ ∨ P1_1_ k_) ∨ w.heap.size≤k_)∧k_ ≠ gb178)) (by (with_reducible repeat (first | apply Kd.V_alloc | apply Kd.V_drewN | apply Kd.V_drew));exact HO_0.out) hg hat)
            replace HO_179001:=zz31 (Kd.V_afterv (ok:=(fun k_=>((P0_ k_ ∨ P1_1_ k_) ∨ w.heap.size≤k_)∧k_ ≠ gb178)) (by (with_reducible repeat (first | apply Kd.V_alloc | apply Kd.V_drewN | apply Kd.V_drew));exact HO_179001.out) hg hat)
            replace BK178:=zz31 (blk_grown (g:=gb178) (o:=.cells #[.int .i64 a1_0,.slice A1_1 l1_1.length c1_1] 30 (0,0)) (by (with_reducible repeat (first | refine zz6 ?_ _ | refine zz7 ?_ | refine zz8 ?_ _));exact BK178.out) hg (Kd.N_away HO210.out (fun _ hk=>hk.2)))
            replace HO215:=zz31 (Kd.V_afterv (ok:=(fun k_=>((P0_ k_ ∨ P1_1_ k_) ∨ w.heap.size≤k_)∧k_ ≠ gb178)) (by (with_reducible repeat (first | apply Kd.V_alloc | apply Kd.V_drewN | apply Kd.V_drew));exact HO215.out) hg hat)
            replace HB:=zz31 (hb)
            have HO218:=zz31 (ho)
            clear HO210
            clear ho hb hg hat
            refine hK.out _ _ ⟨(zz9 BK178.out 0).trans rfl,(zz9 BK178.out 1).trans rfl⟩ (fun hHeld=>?_)
            clear hK K
            refine norm_ (a':=?_) ?_ ?_;rotate_left;(show Act.put _ (some 38) _=_;simp only [Act.put,zz21,zz22,zz23,i64_w,i32_w];rfl)
            refine one_ (i:=6) (N:=some 40) #[T,T,T,T,T,T,T,F,F] rfl rfl (one_of HT_.out (by kernel_rfl)) (by decide) (fun K hK=>?_)
            refine Kd.N_lit_step k30 _ 30 ?hg (N':=40) ?hd (xs:=([(⟨a1_0,l1_1⟩:S30)]:List (S30))) (inner:=[.int .i64 a1_0,.slice A1_1 l1_1.length c1_1]) (ok:=(fun k_=>((P0_ k_ ∨ P1_1_ k_) ∨ w.heap.size≤k_)∧some k_ ≠ (v217:Value).ownBlock∧k_ ≠ gb178)) (okp:=(fun k_=>((P0_ k_ ∨ P1_1_ k_) ∨ w.heap.size≤k_)∧some k_ ≠ (v217:Value).ownBlock∧k_ ≠ gb178)) ?hr ?hp (fun _ hk=>hk) ((show ∀ k_,w52.heap.size≤k_→(fun k_=>((P0_ k_ ∨ P1_1_ k_) ∨ w.heap.size≤k_)∧some k_ ≠ (v217:Value).ownBlock∧k_ ≠ gb178) k_ from fun k_ hk=>⟨(.inr (Nat.le_trans (zz5 (by repeat first | exact HB.out | apply zz2 | apply zz0 | apply zz1 | refine zz3 ?_ GE178.out)) hk)),Kd.fresh' (Kd.N_lt (by (with_reducible repeat (first | apply Kd.N_alloc | apply Kd.N_drewN | apply Kd.N_drew));exact HO218.out)) k_ hk,Kd.freshB (g:=gb178) (o:=.cells #[.int .i64 a1_0,.slice A1_1 l1_1.length c1_1] 30 (0,0)) (by (with_reducible repeat (first | refine zz6 ?_ _ | refine zz7 ?_ | refine zz8 ?_ _));exact BK178.out) k_ hk⟩) _ (Nat.le_refl _)) (Below.refl _ _) (Nat.le_refl _) (by simp) ?_;(case hd=>rfl);(case hg=>rfl);(case hr=>first | (go_simp;done) | (go_simp;rfl));(case hp=>exact (Reps.c2 (show Kd.FK k30 _ _ (⟨a1_0,l1_1⟩:S30) [.int .i64 a1_0,.slice A1_1 l1_1.length c1_1] from (k30_mkF _ _ (⟨a1_0,l1_1⟩:S30) (Kd.V_reads' (Kd.V_mono (ok':=(fun k_=>((P0_ k_ ∨ P1_1_ k_) ∨ w.heap.size≤k_)∧some k_ ≠ (v217:Value).ownBlock∧k_ ≠ gb178)) (HO_179001.out) (fun k_ hk=>⟨hk.1.1,⟨hk.2,hk.1.2⟩⟩))).2.1 (Kd.V_F (Kd.V_mono (ok':=(fun k_=>((P0_ k_ ∨ P1_1_ k_) ∨ w.heap.size≤k_)∧some k_ ≠ (v217:Value).ownBlock∧k_ ≠ gb178)) (HO_179001.out) (fun k_ hk=>⟨hk.1.1,⟨hk.2,hk.1.2⟩⟩))))) (Reps.none _ _)))
            intro v220 w53 ho54 hb hg_ hnew_
            clear hg_ hnew_
            (first | rw [← Ny219.out] at ho54 | (simp only [Int.reduceToNat] at ho54;rw [← Ny219.out] at ho54))
            replace HO_0:=zz31 (Kd.V_elder' (by (with_reducible repeat (first | apply Kd.V_alloc | apply Kd.V_drewN | apply Kd.V_drew));exact HO_0.out) (Kd.N_base ho54) hb)
            replace HO_179001:=zz31 (Kd.V_elder' (by (with_reducible repeat (first | apply Kd.V_alloc | apply Kd.V_drewN | apply Kd.V_drew));exact HO_179001.out) (Kd.N_base ho54) hb)
            replace HO215:=zz31 (Kd.V_elder' (by (with_reducible repeat (first | apply Kd.V_alloc | apply Kd.V_drewN | apply Kd.V_drew));exact HO215.out) (Kd.N_base ho54) hb)
            replace HO218:=zz31 (Kd.N_elder' (by (with_reducible repeat (first | apply Kd.N_alloc | apply Kd.N_drewN | apply Kd.N_drew));exact HO218.out) (Kd.N_base ho54) hb)
            have HO221:=zz31 (Kd.N_lower ho54 (zz5 (by repeat first | exact HB.out | apply zz2 | apply zz0 | apply zz1 | refine zz3 ?_ GE178.out)))
            replace BK178:=zz31 (zz11 (g:=gb178) (o:=.cells #[.int .i64 a1_0,.slice A1_1 l1_1.length c1_1] 30 (0,0)) (by (with_reducible repeat (first | refine zz6 ?_ _ | refine zz7 ?_ | refine zz8 ?_ _));exact BK178.out) hb)
            replace HB:=zz31 (zz4 (by repeat first | exact HB.out | apply zz2 | apply zz0 | apply zz1 | refine zz3 ?_ GE178.out) hb)
            clear hb ho54
            refine hK.out _ _ ⟨(zz9 BK178.out 0).trans rfl,(zz9 BK178.out 1).trans rfl⟩ (fun hHeld=>?_)
            clear hK K
            refine norm_ (a':=?_) ?_ ?_;rotate_left;(show Act.put _ (some 40) _=_;simp only [Act.put,zz21,zz22,zz23,i64_w,i32_w];rfl)
            exact norm_ (by simp only [putAll,Act.put,zz21,zz22,zz23]) (hCont (v209,v217,v220) _ ⟨hHeld,(by (with_reducible repeat (first | apply Kd.V_alloc | apply Kd.V_drewN | apply Kd.V_drew));exact Kd.V_mono HO215.out (fun _ hk=>⟨hk.1.1.1,⟨hk.1.2,⟨hk.2,hk.1.1.2⟩⟩⟩)),(by (with_reducible repeat (first | apply Kd.N_alloc | apply Kd.N_drewN | apply Kd.N_drew));exact Kd.N_mono HO218.out (fun _ hk=>⟨hk.1.1,⟨hk.2,hk.1.2⟩⟩)),(by (with_reducible repeat (first | apply Kd.N_alloc | apply Kd.N_drewN | apply Kd.N_drew));exact HO221.out),(by (with_reducible repeat (first | apply Kd.V_alloc | apply Kd.V_drewN | apply Kd.V_drew));exact Kd.V_mono HO_0.out (fun _ hk=>⟨hk.1.1.1,⟨hk.1.2,⟨hk.2,hk.1.1.2⟩⟩⟩)),(by (with_reducible repeat (first | apply Kd.V_alloc | apply Kd.V_drewN | apply Kd.V_drew));exact Kd.V_mono HO_179001.out (fun _ hk=>⟨hk.1.1.1,⟨hk.1.2,⟨hk.2,hk.1.1.2⟩⟩⟩)),(by (with_reducible repeat (first | refine zz6 ?_ _ | refine zz7 ?_ | refine zz8 ?_ _));exact BK178.out),(by repeat first | exact HB.out | apply zz2 | apply zz0 | apply zz1 | refine zz3 ?_ GE178.out)⟩)
           ·skip
            refine Kd.N_lit_step k30 _ 30 ?hg (N':=40) ?hd (xs:=([(⟨a1_0,l1_1⟩:S30)]:List (S30))) (inner:=[.int .i64 a1_0,.slice A1_1 l1_1.length c1_1]) (ok:=(fun k_=>((P0_ k_ ∨ P1_1_ k_) ∨ w.heap.size≤k_)∧some k_ ≠ (v209:Value).ownBlock∧k_ ≠ gb178)) (okp:=(fun k_=>((P0_ k_ ∨ P1_1_ k_) ∨ w.heap.size≤k_)∧some k_ ≠ (v209:Value).ownBlock∧k_ ≠ gb178)) ?hr ?hp (fun _ hk=>hk) ((show ∀ k_,w50.heap.size≤k_→(fun k_=>((P0_ k_ ∨ P1_1_ k_) ∨ w.heap.size≤k_)∧some k_ ≠ (v209:Value).ownBlock∧k_ ≠ gb178) k_ from fun k_ hk=>⟨(.inr (Nat.le_trans (zz5 (by repeat first | exact HB.out | apply zz2 | apply zz0 | apply zz1 | refine zz3 ?_ GE178.out)) hk)),Kd.fresh' (Kd.N_lt (by (with_reducible repeat (first | apply Kd.N_alloc | apply Kd.N_drewN | apply Kd.N_drew));exact HO210.out)) k_ hk,Kd.freshB (g:=gb178) (o:=.cells #[.int .i64 a1_0,.slice A1_1 l1_1.length c1_1] 30 (0,0)) (by (with_reducible repeat (first | refine zz6 ?_ _ | refine zz7 ?_ | refine zz8 ?_ _));exact BK178.out) k_ hk⟩) _ (Nat.le_refl _)) (Below.refl _ _) (Nat.le_refl _) (by simp) ?_;(case hd=>rfl);(case hg=>rfl);(case hr=>first | (go_simp;done) | (go_simp;rfl));(case hp=>exact (Reps.c2 (show Kd.FK k30 _ _ (⟨a1_0,l1_1⟩:S30) [.int .i64 a1_0,.slice A1_1 l1_1.length c1_1] from (k30_mkF _ _ (⟨a1_0,l1_1⟩:S30) (Kd.V_reads' (Kd.V_mono (ok':=(fun k_=>((P0_ k_ ∨ P1_1_ k_) ∨ w.heap.size≤k_)∧some k_ ≠ (v209:Value).ownBlock∧k_ ≠ gb178)) (HO_179001.out) (fun k_ hk=>⟨hk.1.1,⟨hk.2,hk.1.2⟩⟩))).2.1 (Kd.V_F (Kd.V_mono (ok':=(fun k_=>((P0_ k_ ∨ P1_1_ k_) ∨ w.heap.size≤k_)∧some k_ ≠ (v209:Value).ownBlock∧k_ ≠ gb178)) (HO_179001.out) (fun k_ hk=>⟨hk.1.1,⟨hk.2,hk.1.2⟩⟩))))) (Reps.none _ _)))
            intro v220 w52 ho53 hb hg_ hnew_
            clear hg_ hnew_
            (first | rw [← Ny219.out] at ho53 | (simp only [Int.reduceToNat] at ho53;rw [← Ny219.out] at ho53))
            replace HO_0:=zz31 (Kd.V_elder' (by (with_reducible repeat (first | apply Kd.V_alloc | apply Kd.V_drewN | apply Kd.V_drew));exact HO_0.out) (Kd.N_base ho53) hb)
            replace HO_179001:=zz31 (Kd.V_elder' (by (with_reducible repeat (first | apply Kd.V_alloc | apply Kd.V_drewN | apply Kd.V_drew));exact HO_179001.out) (Kd.N_base ho53) hb)
            replace HO215:=zz31 (Kd.V_elder' (by (with_reducible repeat (first | apply Kd.V_alloc | apply Kd.V_drewN | apply Kd.V_drew));exact HO215.out) (Kd.N_base ho53) hb)
            replace HO210:=zz31 (Kd.N_elder' (by (with_reducible repeat (first | apply Kd.N_alloc | apply Kd.N_drewN | apply Kd.N_drew));exact HO210.out) (Kd.N_base ho53) hb)
            have HO221:=zz31 (Kd.N_lower ho53 (zz5 (by repeat first | exact HB.out | apply zz2 | apply zz0 | apply zz1 | refine zz3 ?_ GE178.out)))
            replace BK178:=zz31 (zz11 (g:=gb178) (o:=.cells #[.int .i64 a1_0,.slice A1_1 l1_1.length c1_1] 30 (0,0)) (by (with_reducible repeat (first | refine zz6 ?_ _ | refine zz7 ?_ | refine zz8 ?_ _));exact BK178.out) hb)
            replace HB:=zz31 (zz4 (by repeat first | exact HB.out | apply zz2 | apply zz0 | apply zz1 | refine zz3 ?_ GE178.out) hb)
            clear hb ho53
            refine hK.out _ _ ⟨(zz9 BK178.out 0).trans rfl,(zz9 BK178.out 1).trans rfl⟩ (fun hHeld=>?_)
            clear hK K
            refine norm_ (a':=?_) ?_ ?_;rotate_left;(show Act.put _ (some 40) _=_;simp only [Act.put,zz21,zz22,zz23,i64_w,i32_w];rfl)
            refine one_ (i:=4) (N:=some 38) #[T,T,T,T,T,T,T,F,F] rfl rfl (one_of HT_.out (by kernel_rfl)) (by decide) (fun K hK=>?_)
            refine Kd.N_append_rows_step k30 (w0:=w) w.heap.size (by rfl) (.tmp 34) (.tmp 37) 46 30 (.agg #[(.int .i64 0),(.slice none 0 0)]) 32 rfl Try.underlying46 info30 rfl (by decide) (by omega) v209 y208 y211 _ _ _ (fun k_=>((P0_ k_ ∨ P1_1_ k_) ∨ w.heap.size≤k_)∧some k_ ≠ (v220:Value).ownBlock∧k_ ≠ gb178) (fun k_=>((fun k_=>((P0_ k_ ∨ P1_1_ k_) ∨ w.heap.size≤k_)∧some k_ ≠ (v220:Value).ownBlock∧k_ ≠ gb178)) k_∧some k_ ≠ (v209:Value).ownBlock) rfl rfl ?aO ?aR (fun _ hk=>hk) ?aF ?aB ?aS ?aL ?_
            (case aR=>exact (by skip;exact Kd.V_F (Kd.V_mono (ok':=(fun k_=>((fun k_=>((P0_ k_ ∨ P1_1_ k_) ∨ w.heap.size≤k_)∧some k_ ≠ (v220:Value).ownBlock∧k_ ≠ gb178)) k_∧some k_ ≠ (v209:Value).ownBlock)) (HO215.out) (fun k_ hk=>⟨⟨hk.1.1.1,⟨hk.2,hk.1.1.2⟩⟩,hk.1.2⟩))))
            (case aB=>exact (by repeat first | exact HB.out | apply zz2 | apply zz0 | apply zz1 | refine zz3 ?_ GE178.out))
            (case aF=>exact (fun k_ hk=>⟨(.inr (Nat.le_trans (zz5 (by repeat first | exact HB.out | apply zz2 | apply zz0 | apply zz1 | refine zz3 ?_ GE178.out)) hk)),Kd.fresh' (Kd.N_lt (by (with_reducible repeat (first | apply Kd.N_alloc | apply Kd.N_drewN | apply Kd.N_drew));exact HO221.out)) k_ hk,Kd.freshB (g:=gb178) (o:=.cells #[.int .i64 a1_0,.slice A1_1 l1_1.length c1_1] 30 (0,0)) (by (with_reducible repeat (first | refine zz6 ?_ _ | refine zz7 ?_ | refine zz8 ?_ _));exact BK178.out) k_ hk⟩))
            (case aO=>exact (by (with_reducible repeat (first | apply Kd.N_alloc | apply Kd.N_drewN | apply Kd.N_drew));exact Kd.N_mono HO210.out (fun _ hk=>⟨hk.1.1,⟨hk.2,hk.1.2⟩⟩)))
            (case aS=>exact (zz5 (by repeat first | exact HB.out | apply zz2 | apply zz0 | apply zz1 | refine zz3 ?_ GE178.out)))
            (case aL=>have:=LMc41.out;omega)
            intro v217 w54 ho hb hg hat
            rw [← Ny216.out] at ho
            replace HO_0:=zz31 (Kd.V_afterv (ok:=(fun k_=>((P0_ k_ ∨ P1_1_ k_) ∨ w.heap.size≤k_)∧some k_ ≠ (v220:Value).ownBlock∧k_ ≠ gb178)) (by (with_reducible repeat (first | apply Kd.V_alloc | apply Kd.V_drewN | apply Kd.V_drew));exact Kd.V_mono HO_0.out (fun _ hk=>⟨⟨hk.1.1.1,⟨hk.2,hk.1.1.2⟩⟩,hk.1.2⟩)) hg hat)
            replace HO_179001:=zz31 (Kd.V_afterv (ok:=(fun k_=>((P0_ k_ ∨ P1_1_ k_) ∨ w.heap.size≤k_)∧some k_ ≠ (v220:Value).ownBlock∧k_ ≠ gb178)) (by (with_reducible repeat (first | apply Kd.V_alloc | apply Kd.V_drewN | apply Kd.V_drew));exact Kd.V_mono HO_179001.out (fun _ hk=>⟨⟨hk.1.1.1,⟨hk.2,hk.1.1.2⟩⟩,hk.1.2⟩)) hg hat)
            replace BK178:=zz31 (blk_grown (g:=gb178) (o:=.cells #[.int .i64 a1_0,.slice A1_1 l1_1.length c1_1] 30 (0,0)) (by (with_reducible repeat (first | refine zz6 ?_ _ | refine zz7 ?_ | refine zz8 ?_ _));exact BK178.out) hg (Kd.N_away HO210.out (fun _ hk=>hk.1.2)))
            replace HO215:=zz31 (Kd.V_afterv (ok:=(fun k_=>((P0_ k_ ∨ P1_1_ k_) ∨ w.heap.size≤k_)∧some k_ ≠ (v220:Value).ownBlock∧k_ ≠ gb178)) (by (with_reducible repeat (first | apply Kd.V_alloc | apply Kd.V_drewN | apply Kd.V_drew));exact Kd.V_mono HO215.out (fun _ hk=>⟨⟨hk.1.1.1,⟨hk.2,hk.1.1.2⟩⟩,hk.1.2⟩)) hg hat)
            replace HO221:=zz31 (Kd.N_afterv (ok:=(fun k_=>((P0_ k_ ∨ P1_1_ k_) ∨ w.heap.size≤k_)∧k_ ≠ gb178)) (by (with_reducible repeat (first | apply Kd.N_alloc | apply Kd.N_drewN | apply Kd.N_drew));exact Kd.N_mono HO221.out (fun _ hk=>⟨⟨hk.1,hk.2.2⟩,hk.2.1⟩)) hg hat)
            replace HB:=zz31 (hb)
            have HO218:=zz31 (ho)
            clear HO210
            clear ho hb hg hat
            refine hK.out _ _ ⟨(zz9 BK178.out 0).trans rfl,(zz9 BK178.out 1).trans rfl⟩ (fun hHeld=>?_)
            clear hK K
            refine norm_ (a':=?_) ?_ ?_;rotate_left;(show Act.put _ (some 38) _=_;simp only [Act.put,zz21,zz22,zz23,i64_w,i32_w];rfl)
            exact norm_ (by simp only [putAll,Act.put,zz21,zz22,zz23]) (hCont (v209,v217,v220) _ ⟨hHeld,(by (with_reducible repeat (first | apply Kd.V_alloc | apply Kd.V_drewN | apply Kd.V_drew));exact Kd.V_mono HO215.out (fun _ hk=>⟨hk.1.1,⟨hk.2,⟨hk.1.2.1,hk.1.2.2⟩⟩⟩)),(by (with_reducible repeat (first | apply Kd.N_alloc | apply Kd.N_drewN | apply Kd.N_drew));exact HO218.out),(by (with_reducible repeat (first | apply Kd.N_alloc | apply Kd.N_drewN | apply Kd.N_drew));exact Kd.N_mono HO221.out (fun _ hk=>⟨hk.1.1,⟨hk.2,hk.1.2⟩⟩)),(by (with_reducible repeat (first | apply Kd.V_alloc | apply Kd.V_drewN | apply Kd.V_drew));exact Kd.V_mono HO_0.out (fun _ hk=>⟨hk.1.1,⟨hk.2,⟨hk.1.2.1,hk.1.2.2⟩⟩⟩)),(by (with_reducible repeat (first | apply Kd.V_alloc | apply Kd.V_drewN | apply Kd.V_drew));exact Kd.V_mono HO_179001.out (fun _ hk=>⟨hk.1.1,⟨hk.2,⟨hk.1.2.1,hk.1.2.2⟩⟩⟩)),(by (with_reducible repeat (first | refine zz6 ?_ _ | refine zz7 ?_ | refine zz8 ?_ _));exact BK178.out),(by repeat first | exact HB.out | apply zz2 | apply zz0 | apply zz1 | refine zz3 ?_ GE178.out)⟩)
          ·skip
           refine Kd.N_lit_step k30 _ 30 ?hg (N':=40) ?hd (xs:=([(⟨a1_0,l1_1⟩:S30)]:List (S30))) (inner:=[.int .i64 a1_0,.slice A1_1 l1_1.length c1_1]) (ok:=(fun k_=>((P0_ k_ ∨ P1_1_ k_) ∨ w.heap.size≤k_)∧k_ ≠ gb178)) (okp:=(fun k_=>((P0_ k_ ∨ P1_1_ k_) ∨ w.heap.size≤k_)∧k_ ≠ gb178)) ?hr ?hp (fun _ hk=>hk) ((show ∀ k_,w48.heap.size≤k_→(fun k_=>((P0_ k_ ∨ P1_1_ k_) ∨ w.heap.size≤k_)∧k_ ≠ gb178) k_ from fun k_ hk=>⟨(.inr (Nat.le_trans (zz5 (by repeat first | exact HB.out | apply zz2 | apply zz0 | apply zz1 | refine zz3 ?_ GE178.out)) hk)),Kd.freshB (g:=gb178) (o:=.cells #[.int .i64 a1_0,.slice A1_1 l1_1.length c1_1] 30 (0,0)) (by (with_reducible repeat (first | refine zz6 ?_ _ | refine zz7 ?_ | refine zz8 ?_ _));exact BK178.out) k_ hk⟩) _ (Nat.le_refl _)) (Below.refl _ _) (Nat.le_refl _) (by simp) ?_;(case hd=>rfl);(case hg=>rfl);(case hr=>first | (go_simp;done) | (go_simp;rfl));(case hp=>exact (Reps.c2 (show Kd.FK k30 _ _ (⟨a1_0,l1_1⟩:S30) [.int .i64 a1_0,.slice A1_1 l1_1.length c1_1] from (k30_mkF _ _ (⟨a1_0,l1_1⟩:S30) (Kd.V_reads' (Kd.V_mono (ok':=(fun k_=>((P0_ k_ ∨ P1_1_ k_) ∨ w.heap.size≤k_)∧k_ ≠ gb178)) (HO_179001.out) (fun k_ hk=>⟨hk.1,hk.2⟩))).2.1 (Kd.V_F (Kd.V_mono (ok':=(fun k_=>((P0_ k_ ∨ P1_1_ k_) ∨ w.heap.size≤k_)∧k_ ≠ gb178)) (HO_179001.out) (fun k_ hk=>⟨hk.1,hk.2⟩))))) (Reps.none _ _)))
           intro v220 w50 ho51 hb hg_ hnew_
           clear hg_ hnew_
           (first | rw [← Ny219.out] at ho51 | (simp only [Int.reduceToNat] at ho51;rw [← Ny219.out] at ho51))
           replace HO_0:=zz31 (Kd.V_elder' (by (with_reducible repeat (first | apply Kd.V_alloc | apply Kd.V_drewN | apply Kd.V_drew));exact HO_0.out) (Kd.N_base ho51) hb)
           replace HO_179001:=zz31 (Kd.V_elder' (by (with_reducible repeat (first | apply Kd.V_alloc | apply Kd.V_drewN | apply Kd.V_drew));exact HO_179001.out) (Kd.N_base ho51) hb)
           replace HO215:=zz31 (Kd.V_elder' (by (with_reducible repeat (first | apply Kd.V_alloc | apply Kd.V_drewN | apply Kd.V_drew));exact HO215.out) (Kd.N_base ho51) hb)
           have HO221:=zz31 (Kd.N_lower ho51 (zz5 (by repeat first | exact HB.out | apply zz2 | apply zz0 | apply zz1 | refine zz3 ?_ GE178.out)))
           replace BK178:=zz31 (zz11 (g:=gb178) (o:=.cells #[.int .i64 a1_0,.slice A1_1 l1_1.length c1_1] 30 (0,0)) (by (with_reducible repeat (first | refine zz6 ?_ _ | refine zz7 ?_ | refine zz8 ?_ _));exact BK178.out) hb)
           replace HB:=zz31 (zz4 (by repeat first | exact HB.out | apply zz2 | apply zz0 | apply zz1 | refine zz3 ?_ GE178.out) hb)
           clear hb ho51
           refine hK.out _ _ ⟨(zz9 BK178.out 0).trans rfl,(zz9 BK178.out 1).trans rfl⟩ (fun hHeld=>?_)
           clear hK K
           refine norm_ (a':=?_) ?_ ?_;rotate_left;(show Act.put _ (some 40) _=_;simp only [Act.put,zz21,zz22,zz23,i64_w,i32_w];rfl)
           refine one_ (i:=0) (N:=some 34) #[T,T,T,T,F,T,T,F,F] rfl rfl (one_of HT_.out (by kernel_rfl)) (by decide) (fun K hK=>?_)
           refine Kd.N_lit_step k30 _ 30 ?hg (N':=34) ?hd (xs:=([]:List (S30))) (inner:=[]) (ok:=(fun k_=>((P0_ k_ ∨ P1_1_ k_) ∨ w.heap.size≤k_)∧some k_ ≠ (v220:Value).ownBlock∧k_ ≠ gb178)) (okp:=(fun k_=>((P0_ k_ ∨ P1_1_ k_) ∨ w.heap.size≤k_)∧some k_ ≠ (v220:Value).ownBlock∧k_ ≠ gb178)) ?hr ?hp (fun _ hk=>hk) ((show ∀ k_,w50.heap.size≤k_→(fun k_=>((P0_ k_ ∨ P1_1_ k_) ∨ w.heap.size≤k_)∧some k_ ≠ (v220:Value).ownBlock∧k_ ≠ gb178) k_ from fun k_ hk=>⟨(.inr (Nat.le_trans (zz5 (by repeat first | exact HB.out | apply zz2 | apply zz0 | apply zz1 | refine zz3 ?_ GE178.out)) hk)),Kd.fresh' (Kd.N_lt (by (with_reducible repeat (first | apply Kd.N_alloc | apply Kd.N_drewN | apply Kd.N_drew));exact HO221.out)) k_ hk,Kd.freshB (g:=gb178) (o:=.cells #[.int .i64 a1_0,.slice A1_1 l1_1.length c1_1] 30 (0,0)) (by (with_reducible repeat (first | refine zz6 ?_ _ | refine zz7 ?_ | refine zz8 ?_ _));exact BK178.out) k_ hk⟩) _ (Nat.le_refl _)) (Below.refl _ _) (Nat.le_refl _) (by simp) ?_;(case hd=>rfl);(case hg=>rfl);(case hr=>first | (go_simp;done) | (go_simp;rfl));(case hp=>exact (Reps.none _ _))
           intro v209 w52 ho53 hb hg_ hnew_
           clear hg_ hnew_
           (first | rw [← Ny208.out] at ho53 | (simp only [Int.reduceToNat] at ho53;rw [← Ny208.out] at ho53))
           replace HO_0:=zz31 (Kd.V_elder' (by (with_reducible repeat (first | apply Kd.V_alloc | apply Kd.V_drewN | apply Kd.V_drew));exact HO_0.out) (Kd.N_base ho53) hb)
           replace HO_179001:=zz31 (Kd.V_elder' (by (with_reducible repeat (first | apply Kd.V_alloc | apply Kd.V_drewN | apply Kd.V_drew));exact HO_179001.out) (Kd.N_base ho53) hb)
           replace HO215:=zz31 (Kd.V_elder' (by (with_reducible repeat (first | apply Kd.V_alloc | apply Kd.V_drewN | apply Kd.V_drew));exact HO215.out) (Kd.N_base ho53) hb)
           replace HO221:=zz31 (Kd.N_elder' (by (with_reducible repeat (first | apply Kd.N_alloc | apply Kd.N_drewN | apply Kd.N_drew));exact HO221.out) (Kd.N_base ho53) hb)
           have HO210:=zz31 (Kd.N_lower ho53 (zz5 (by repeat first | exact HB.out | apply zz2 | apply zz0 | apply zz1 | refine zz3 ?_ GE178.out)))
           replace BK178:=zz31 (zz11 (g:=gb178) (o:=.cells #[.int .i64 a1_0,.slice A1_1 l1_1.length c1_1] 30 (0,0)) (by (with_reducible repeat (first | refine zz6 ?_ _ | refine zz7 ?_ | refine zz8 ?_ _));exact BK178.out) hb)
           replace HB:=zz31 (zz4 (by repeat first | exact HB.out | apply zz2 | apply zz0 | apply zz1 | refine zz3 ?_ GE178.out) hb)
           clear hb ho53
           refine hK.out _ _ ⟨(zz9 BK178.out 0).trans rfl,(zz9 BK178.out 1).trans rfl⟩ (fun hHeld=>?_)
           clear hK K
           refine norm_ (a':=?_) ?_ ?_;rotate_left;(show Act.put _ (some 34) _=_;simp only [Act.put,zz21,zz22,zz23,i64_w,i32_w];rfl)
           refine one_ (i:=4) (N:=some 38) #[T,T,T,T,T,T,T,F,F] rfl rfl (one_of HT_.out (by kernel_rfl)) (by decide) (fun K hK=>?_)
           refine Kd.N_append_rows_step k30 (w0:=w) w.heap.size (by rfl) (.tmp 34) (.tmp 37) 46 30 (.agg #[(.int .i64 0),(.slice none 0 0)]) 32 rfl Try.underlying46 info30 rfl (by decide) (by omega) v209 y208 y211 _ _ _ (fun k_=>((P0_ k_ ∨ P1_1_ k_) ∨ w.heap.size≤k_)∧some k_ ≠ (v220:Value).ownBlock∧k_ ≠ gb178) (fun k_=>((fun k_=>((P0_ k_ ∨ P1_1_ k_) ∨ w.heap.size≤k_)∧some k_ ≠ (v220:Value).ownBlock∧k_ ≠ gb178)) k_∧some k_ ≠ (v209:Value).ownBlock) rfl rfl ?aO ?aR (fun _ hk=>hk) ?aF ?aB ?aS ?aL ?_
           (case aR=>exact (by skip;exact Kd.V_F (Kd.V_mono (ok':=(fun k_=>((fun k_=>((P0_ k_ ∨ P1_1_ k_) ∨ w.heap.size≤k_)∧some k_ ≠ (v220:Value).ownBlock∧k_ ≠ gb178)) k_∧some k_ ≠ (v209:Value).ownBlock)) (HO215.out) (fun k_ hk=>⟨⟨hk.1.1.1,⟨hk.1.2,hk.1.1.2⟩⟩,hk.2⟩))))
           (case aB=>exact (by repeat first | exact HB.out | apply zz2 | apply zz0 | apply zz1 | refine zz3 ?_ GE178.out))
           (case aF=>exact (fun k_ hk=>⟨(.inr (Nat.le_trans (zz5 (by repeat first | exact HB.out | apply zz2 | apply zz0 | apply zz1 | refine zz3 ?_ GE178.out)) hk)),Kd.fresh' (Kd.N_lt (by (with_reducible repeat (first | apply Kd.N_alloc | apply Kd.N_drewN | apply Kd.N_drew));exact HO221.out)) k_ hk,Kd.freshB (g:=gb178) (o:=.cells #[.int .i64 a1_0,.slice A1_1 l1_1.length c1_1] 30 (0,0)) (by (with_reducible repeat (first | refine zz6 ?_ _ | refine zz7 ?_ | refine zz8 ?_ _));exact BK178.out) k_ hk⟩))
           (case aO=>exact (by (with_reducible repeat (first | apply Kd.N_alloc | apply Kd.N_drewN | apply Kd.N_drew));exact HO210.out))
           (case aS=>exact (zz5 (by repeat first | exact HB.out | apply zz2 | apply zz0 | apply zz1 | refine zz3 ?_ GE178.out)))
           (case aL=>have:=LMc41.out;omega)
           intro v217 w54 ho hb hg hat
           rw [← Ny216.out] at ho
           replace HO_0:=zz31 (Kd.V_afterv (ok:=(fun k_=>((P0_ k_ ∨ P1_1_ k_) ∨ w.heap.size≤k_)∧some k_ ≠ (v220:Value).ownBlock∧k_ ≠ gb178)) (by (with_reducible repeat (first | apply Kd.V_alloc | apply Kd.V_drewN | apply Kd.V_drew));exact Kd.V_mono HO_0.out (fun _ hk=>⟨⟨hk.1.1.1,⟨hk.1.2,hk.1.1.2⟩⟩,hk.2⟩)) hg hat)
           replace HO_179001:=zz31 (Kd.V_afterv (ok:=(fun k_=>((P0_ k_ ∨ P1_1_ k_) ∨ w.heap.size≤k_)∧some k_ ≠ (v220:Value).ownBlock∧k_ ≠ gb178)) (by (with_reducible repeat (first | apply Kd.V_alloc | apply Kd.V_drewN | apply Kd.V_drew));exact Kd.V_mono HO_179001.out (fun _ hk=>⟨⟨hk.1.1.1,⟨hk.1.2,hk.1.1.2⟩⟩,hk.2⟩)) hg hat)
           replace BK178:=zz31 (blk_grown (g:=gb178) (o:=.cells #[.int .i64 a1_0,.slice A1_1 l1_1.length c1_1] 30 (0,0)) (by (with_reducible repeat (first | refine zz6 ?_ _ | refine zz7 ?_ | refine zz8 ?_ _));exact BK178.out) hg (Kd.N_away HO210.out (fun _ hk=>hk.2.2)))
           replace HO215:=zz31 (Kd.V_afterv (ok:=(fun k_=>((P0_ k_ ∨ P1_1_ k_) ∨ w.heap.size≤k_)∧some k_ ≠ (v220:Value).ownBlock∧k_ ≠ gb178)) (by (with_reducible repeat (first | apply Kd.V_alloc | apply Kd.V_drewN | apply Kd.V_drew));exact Kd.V_mono HO215.out (fun _ hk=>⟨⟨hk.1.1.1,⟨hk.1.2,hk.1.1.2⟩⟩,hk.2⟩)) hg hat)
           replace HO221:=zz31 (Kd.N_afterv (ok:=(fun k_=>((P0_ k_ ∨ P1_1_ k_) ∨ w.heap.size≤k_)∧k_ ≠ gb178)) (by (with_reducible repeat (first | apply Kd.N_alloc | apply Kd.N_drewN | apply Kd.N_drew));exact HO221.out) hg hat)
           replace HB:=zz31 (hb)
           have HO218:=zz31 (ho)
           clear HO210
           clear ho hb hg hat
           refine hK.out _ _ ⟨(zz9 BK178.out 0).trans rfl,(zz9 BK178.out 1).trans rfl⟩ (fun hHeld=>?_)
           clear hK K
           refine norm_ (a':=?_) ?_ ?_;rotate_left;(show Act.put _ (some 38) _=_;simp only [Act.put,zz21,zz22,zz23,i64_w,i32_w];rfl)
           exact norm_ (by simp only [putAll,Act.put,zz21,zz22,zz23]) (hCont (v209,v217,v220) _ ⟨hHeld,(by (with_reducible repeat (first | apply Kd.V_alloc | apply Kd.V_drewN | apply Kd.V_drew));exact Kd.V_mono HO215.out (fun _ hk=>⟨hk.1.1,⟨hk.2,⟨hk.1.2.1,hk.1.2.2⟩⟩⟩)),(by (with_reducible repeat (first | apply Kd.N_alloc | apply Kd.N_drewN | apply Kd.N_drew));exact HO218.out),(by (with_reducible repeat (first | apply Kd.N_alloc | apply Kd.N_drewN | apply Kd.N_drew));exact Kd.N_mono HO221.out (fun _ hk=>⟨hk.1.1,⟨hk.2,hk.1.2⟩⟩)),(by (with_reducible repeat (first | apply Kd.V_alloc | apply Kd.V_drewN | apply Kd.V_drew));exact Kd.V_mono HO_0.out (fun _ hk=>⟨hk.1.1,⟨hk.2,⟨hk.1.2.1,hk.1.2.2⟩⟩⟩)),(by (with_reducible repeat (first | apply Kd.V_alloc | apply Kd.V_drewN | apply Kd.V_drew));exact Kd.V_mono HO_179001.out (fun _ hk=>⟨hk.1.1,⟨hk.2,⟨hk.1.2.1,hk.1.2.2⟩⟩⟩)),(by (with_reducible repeat (first | refine zz6 ?_ _ | refine zz7 ?_ | refine zz8 ?_ _));exact BK178.out),(by repeat first | exact HB.out | apply zz2 | apply zz0 | apply zz1 | refine zz3 ?_ GE178.out)⟩)
         rintro ⟨v209,v217,v220⟩ w55 ⟨hS_,h0_,h1_,h2_,h3_,h4_,h5_,h6_⟩
         have n0_:Aside0 (Kd.V k30 30 w55 w.heap.size (fun k_=>((P0_ k_ ∨ P1_1_ k_) ∨ w.heap.size≤k_)∧some k_ ≠ (v217:Value).ownBlock∧some k_ ≠ (v220:Value).ownBlock∧k_ ≠ gb178) (.slice A0 y211.length c0) y211):=⟨h0_⟩
         have n1_:Aside0 (Kd.N k30 30 w55 w.heap.size (fun k_=>((P0_ k_ ∨ P1_1_ k_) ∨ w.heap.size≤k_)∧some k_ ≠ (v220:Value).ownBlock∧k_ ≠ gb178) v217 y216):=⟨h1_⟩
         have n2_:Aside0 (Kd.N k30 30 w55 w.heap.size (fun k_=>((P0_ k_ ∨ P1_1_ k_) ∨ w.heap.size≤k_)∧some k_ ≠ (v217:Value).ownBlock∧k_ ≠ gb178) v220 y219):=⟨h2_⟩
         have n3_:Aside0 (Kd.V k30 30 w55 w.heap.size (fun k_=>((P0_ k_ ∨ P1_1_ k_) ∨ w.heap.size≤k_)∧some k_ ≠ (v217:Value).ownBlock∧some k_ ≠ (v220:Value).ownBlock∧k_ ≠ gb178) (.slice A0 l0.length c0) l0):=⟨h3_⟩
         have n4_:Aside0 (Kd.V k70 70 w55 w.heap.size (fun k_=>((P0_ k_ ∨ P1_1_ k_) ∨ w.heap.size≤k_)∧some k_ ≠ (v217:Value).ownBlock∧some k_ ≠ (v220:Value).ownBlock∧k_ ≠ gb178) (.slice A1_1 l1_1.length c1_1) l1_1):=⟨h4_⟩
         have n5_:Aside0 (w55.heap[gb178]?=some (.cells #[.int .i64 a1_0,.slice A1_1 l1_1.length c1_1] 30 (0,0))):=⟨h5_⟩
         have n6_:Aside0 (Below w.heap.size w w55):=⟨h6_⟩
         clear HO_0 HO_179001 BK178 HB
         clear h0_ h1_ h2_ h3_ h4_ h5_ h6_
         have HO215:=n0_
         have HO218:=n1_
         have HO221:=n2_
         have HO_0:=n3_
         have HO_179001:=n4_
         have BK178:=n5_
         have HB:=n6_
         clear n0_ n1_ n2_ n3_ n4_ n5_ n6_
         have hHeld:w55.cell? ⟨gb178,0,none⟩=some (.int .i64 a1_0)∧w55.cell? ⟨gb178,1,none⟩=some (.slice A1_1 l1_1.length c1_1):=hS_
         obtain ⟨Ao57,co57,eo57⟩:=Kd.N_slice HO221.out
         (first | subst eo57 | (injection eo57 with f1_ f2_ f3_;have f4_:=f1_.symm;have f5_:=f3_.symm;clear f1_ f2_ f3_;subst f4_;subst f5_))
         refine norm_ (a':=?_) ?_ ?_
         rotate_left
         ·simp only [putAll,Act.put,zz21,zz22,zz23]
          rfl
         refine one_ (i:=7) (N:=some 41) #[T,T,T,T,T,T,T,T,F] rfl rfl (one_of HT_.out (by kernel_rfl)) (by decide) (fun K hK=>?_)
         refine Kd.N_append_rows_step k30 (w0:=w) w.heap.size (by rfl) (.tmp 38) (.tmp 40) 46 30 (.agg #[(.int .i64 0),(.slice none 0 0)]) 32 rfl Try.underlying46 info30 rfl (by decide) (by omega) v217 y216 y219 _ _ _ (fun k_=>((P0_ k_ ∨ P1_1_ k_) ∨ w.heap.size≤k_)∧k_ ≠ gb178) (fun k_=>((fun k_=>((P0_ k_ ∨ P1_1_ k_) ∨ w.heap.size≤k_)∧k_ ≠ gb178)) k_∧some k_ ≠ (v217:Value).ownBlock) rfl rfl ?aO ?aR (fun _ hk=>hk) ?aF ?aB ?aS ?aL ?_
         (case aR=>exact (by skip;exact Kd.N_F (Kd.N_mono (ok':=(fun k_=>((fun k_=>((P0_ k_ ∨ P1_1_ k_) ∨ w.heap.size≤k_)∧k_ ≠ gb178)) k_∧some k_ ≠ (v217:Value).ownBlock)) (HO221.out) (fun k_ hk=>⟨⟨hk.1,hk.2.2⟩,hk.2.1⟩))))
         (case aB=>exact (by repeat first | exact HB.out | apply zz2 | apply zz0 | apply zz1 | refine zz3 ?_ GE178.out))
         (case aF=>exact (fun k_ hk=>⟨(.inr (Nat.le_trans (zz5 (by repeat first | exact HB.out | apply zz2 | apply zz0 | apply zz1 | refine zz3 ?_ GE178.out)) hk)),Kd.freshB (g:=gb178) (o:=.cells #[.int .i64 a1_0,.slice A1_1 l1_1.length c1_1] 30 (0,0)) (by (with_reducible repeat (first | refine zz6 ?_ _ | refine zz7 ?_ | refine zz8 ?_ _));exact BK178.out) k_ hk⟩))
         (case aO=>exact (by (with_reducible repeat (first | apply Kd.N_alloc | apply Kd.N_drewN | apply Kd.N_drew));exact Kd.N_mono HO218.out (fun _ hk=>⟨hk.1,hk.2.2⟩)))
         (case aS=>exact (zz5 (by repeat first | exact HB.out | apply zz2 | apply zz0 | apply zz1 | refine zz3 ?_ GE178.out)))
         (case aL=>have:=LMc42.out;omega)
         intro v223 w56 ho hb hg hat
         rw [← Ny222.out] at ho
         replace HO_0:=zz31 (Kd.V_afterv (ok:=(fun k_=>((P0_ k_ ∨ P1_1_ k_) ∨ w.heap.size≤k_)∧some k_ ≠ (.slice Ao57 y219.length co57:Value).ownBlock∧k_ ≠ gb178)) (by (with_reducible repeat (first | apply Kd.V_alloc | apply Kd.V_drewN | apply Kd.V_drew));exact Kd.V_mono HO_0.out (fun _ hk=>⟨⟨hk.1,⟨hk.2.2.1,hk.2.2.2⟩⟩,hk.2.1⟩)) hg hat)
         replace HO_179001:=zz31 (Kd.V_afterv (ok:=(fun k_=>((P0_ k_ ∨ P1_1_ k_) ∨ w.heap.size≤k_)∧some k_ ≠ (.slice Ao57 y219.length co57:Value).ownBlock∧k_ ≠ gb178)) (by (with_reducible repeat (first | apply Kd.V_alloc | apply Kd.V_drewN | apply Kd.V_drew));exact Kd.V_mono HO_179001.out (fun _ hk=>⟨⟨hk.1,⟨hk.2.2.1,hk.2.2.2⟩⟩,hk.2.1⟩)) hg hat)
         replace BK178:=zz31 (blk_grown (g:=gb178) (o:=.cells #[.int .i64 a1_0,.slice A1_1 l1_1.length c1_1] 30 (0,0)) (by (with_reducible repeat (first | refine zz6 ?_ _ | refine zz7 ?_ | refine zz8 ?_ _));exact BK178.out) hg (Kd.N_away HO218.out (fun _ hk=>hk.2.2)))
         replace HO215:=zz31 (Kd.V_afterv (ok:=(fun k_=>((P0_ k_ ∨ P1_1_ k_) ∨ w.heap.size≤k_)∧some k_ ≠ (.slice Ao57 y219.length co57:Value).ownBlock∧k_ ≠ gb178)) (by (with_reducible repeat (first | apply Kd.V_alloc | apply Kd.V_drewN | apply Kd.V_drew));exact Kd.V_mono HO215.out (fun _ hk=>⟨⟨hk.1,⟨hk.2.2.1,hk.2.2.2⟩⟩,hk.2.1⟩)) hg hat)
         replace HO221:=zz31 (Kd.N_afterv (ok:=(fun k_=>((P0_ k_ ∨ P1_1_ k_) ∨ w.heap.size≤k_)∧k_ ≠ gb178)) (by (with_reducible repeat (first | apply Kd.N_alloc | apply Kd.N_drewN | apply Kd.N_drew));exact Kd.N_mono HO221.out (fun _ hk=>⟨⟨hk.1,hk.2.2⟩,hk.2.1⟩)) hg hat)
         replace HB:=zz31 (hb)
         have HO224:=zz31 (ho)
         clear HO218
         clear ho hb hg hat
         refine hK.out _ _ ⟨(zz9 BK178.out 0).trans rfl,(zz9 BK178.out 1).trans rfl⟩ (fun hHeld=>?_)
         clear hK K
         refine norm_ (a':=?_) ?_ ?_;rotate_left;(show Act.put _ (some 41) _=_;simp only [Act.put,zz21,zz22,zz23,i64_w,i32_w];rfl)
         refine zz32 (v:=?_) (a':=?_) 8 (some 6) #[T,T,T,T,T,T,T,T,T] rfl rfl HT_.out (by kernel_rfl) (fun _ _ _ h=>h) (by rfl) (fun w'=>?_) ?_ ?_;rotate_left;(go_simp;with_reducible rfl);rotate_left;(simp only [Act.put,zz21,zz22,zz23,i64_w,i32_w];rfl)
         refine done_ (done_of HT_.out (by kernel_rfl)) ?_
         have q58:(x5_1:Int)≤((l0.length:Int):Int):=zz29 (by first | (with_reducible assumption) | assumption)
         obtain ⟨i058,hi058,_,hsz58,_⟩:=info_parts info30
         have hroom58:l0.length≤c0:=(Kd.V_reads' HO_0.out).2.1
         have hC58:Kd.F k30 _ _ A0 l0.length l0:=(Kd.V_at (base:=w.heap.size) HO_0.out).2.2
         have q058:(0:Int)≤(x5_1:Int):=zz29 (by first | (with_reducible assumption) | assumption)
         have hcut58:=cut_from (P:=Try.prog) 46 30 .i64 Try.underlying46 hi058 2 hsz58 A0 l0.length c0 x5_1 q058 q58
         have hr58:=Kd.F_cut (m:=(x5_1:Int).toNat) (c:=c0) hC58 (by omega) hroom58
         obtain ⟨A58,hA58⟩:∃ A1,A1=(if c0=(x5_1:Int).toNat then A0 else (A0:Option Addr).map (·.add ((x5_1:Int).toNat * 2))):=⟨_,rfl⟩
         obtain ⟨c58,hc58⟩:∃ c1,c1=c0 - (x5_1:Int).toNat:=⟨_,rfl⟩
         have hy58:y225.length=l0.length - (x5_1:Int).toNat:=(by rw [Ny225.out,zz24] <;> omega)
         rw [show (l0).drop (x5_1:Int).toNat=y225 from Ny225.out.symm] at hr58
         replace hr58:Kd.F k30 _ _ A58 y225.length y225:=(by rw [hA58];exact hr58)
         rw [← hy58,← hA58,← hc58] at hcut58
         have HO229:=zz31 (show Kd.V k30 30 _ w.heap.size _ (.slice A58 y225.length c58) y225 from Kd.V_mk (by rw [hy58,hc58];exact Nat.sub_le_sub_right hroom58 _) hr58)
         have HC229:=zz31 (show y225.length≤c58 from by rw [hy58,hc58];exact Nat.sub_le_sub_right hroom58 _)
         clear hr58 hC58 hroom58 hi058 hsz58 hc58
         have KY58:=zz31 hy58
         have KA58:=zz31 hA58
         clear hy58 hA58
         replace q58:=eq_true q58
         try go_wp2_with (first | ((with_reducible refine gate_builtin (b:=.append) (xs:=#[.tmp 42,.tmp 45]) rfl ?_);at_builtin;refine Kd.N_append_rows k30 (w0:=w) w.heap.size rfl (.tmp 42) (.tmp 45) 46 30 (.agg #[(.int .i64 0),(.slice none 0 0)]) 32 rfl Try.underlying46 info30 rfl (by decide) (by omega) v223 y222 y225 _ _ _ (fun k_=>((P0_ k_ ∨ P1_1_ k_) ∨ w.heap.size≤k_)∧k_ ≠ gb178) (fun k_=>((fun k_=>((P0_ k_ ∨ P1_1_ k_) ∨ w.heap.size≤k_)∧k_ ≠ gb178)) k_∧some k_ ≠ (v223:Value).ownBlock) rfl rfl ?aO ?aR (fun _ hk=>hk) ?aF ?aB ?aS ?aL ?_;(case aR=>exact (by skip;exact Kd.V_F (Kd.V_mono (ok':=(fun k_=>((fun k_=>((P0_ k_ ∨ P1_1_ k_) ∨ w.heap.size≤k_)∧k_ ≠ gb178)) k_∧some k_ ≠ (v223:Value).ownBlock)) (HO229.out) (fun k_ hk=>⟨⟨hk.1.1,hk.1.2.2⟩,hk.2⟩))));(case aB=>exact (by repeat first | exact HB.out | apply zz2 | apply zz0 | apply zz1 | refine zz3 ?_ GE178.out));(case aF=>exact (fun k_ hk=>⟨(.inr (Nat.le_trans (zz5 (by repeat first | exact HB.out | apply zz2 | apply zz0 | apply zz1 | refine zz3 ?_ GE178.out)) hk)),Kd.freshB (g:=gb178) (o:=.cells #[.int .i64 a1_0,.slice A1_1 l1_1.length c1_1] 30 (0,0)) (by (with_reducible repeat (first | refine zz6 ?_ _ | refine zz7 ?_ | refine zz8 ?_ _));exact BK178.out) k_ hk⟩));(case aO=>exact (by (with_reducible repeat (first | apply Kd.N_alloc | apply Kd.N_drewN | apply Kd.N_drew));exact HO224.out));(case aS=>exact (zz5 (by repeat first | exact HB.out | apply zz2 | apply zz0 | apply zz1 | refine zz3 ?_ GE178.out)));(case aL=>have:=LMc45.out;omega);intro v231 w59 ho hb hg hat;rw [← Ny230.out] at ho;replace HO_0:=zz31 (Kd.V_afterv (ok:=(fun k_=>((P0_ k_ ∨ P1_1_ k_) ∨ w.heap.size≤k_)∧some k_ ≠ (.slice Ao57 y219.length co57:Value).ownBlock∧k_ ≠ gb178)) (by (with_reducible repeat (first | apply Kd.V_alloc | apply Kd.V_drewN | apply Kd.V_drew));exact HO_0.out) hg hat);replace HO_179001:=zz31 (Kd.V_afterv (ok:=(fun k_=>((P0_ k_ ∨ P1_1_ k_) ∨ w.heap.size≤k_)∧some k_ ≠ (.slice Ao57 y219.length co57:Value).ownBlock∧k_ ≠ gb178)) (by (with_reducible repeat (first | apply Kd.V_alloc | apply Kd.V_drewN | apply Kd.V_drew));exact HO_179001.out) hg hat);replace BK178:=zz31 (blk_grown (g:=gb178) (o:=.cells #[.int .i64 a1_0,.slice A1_1 l1_1.length c1_1] 30 (0,0)) (by (with_reducible repeat (first | refine zz6 ?_ _ | refine zz7 ?_ | refine zz8 ?_ _));exact BK178.out) hg (Kd.N_away HO224.out (fun _ hk=>hk.2)));replace HO215:=zz31 (Kd.V_afterv (ok:=(fun k_=>((P0_ k_ ∨ P1_1_ k_) ∨ w.heap.size≤k_)∧some k_ ≠ (.slice Ao57 y219.length co57:Value).ownBlock∧k_ ≠ gb178)) (by (with_reducible repeat (first | apply Kd.V_alloc | apply Kd.V_drewN | apply Kd.V_drew));exact HO215.out) hg hat);replace HO221:=zz31 (Kd.N_afterv (ok:=(fun k_=>((P0_ k_ ∨ P1_1_ k_) ∨ w.heap.size≤k_)∧k_ ≠ gb178)) (by (with_reducible repeat (first | apply Kd.N_alloc | apply Kd.N_drewN | apply Kd.N_drew));exact HO221.out) hg hat);replace HO229:=zz31 (Kd.V_afterv (ok:=(fun k_=>((P0_ k_ ∨ P1_1_ k_) ∨ w.heap.size≤k_)∧some k_ ≠ (.slice Ao57 y219.length co57:Value).ownBlock∧k_ ≠ gb178)) (by (with_reducible repeat (first | apply Kd.V_alloc | apply Kd.V_drewN | apply Kd.V_drew));exact HO229.out) hg hat);replace HB:=zz31 (hb);have HO232:=zz31 (ho);clear HO224;clear ho hb hg hat))
         go_ret
         exact ⟨_,by first | rfl | (simp [errW_none,errW_some] <;> rfl) | (simp [*,errW_none,errW_some] <;> rfl),Kd.N_V (by (with_reducible repeat (first | apply Kd.N_alloc | apply Kd.N_drewN | apply Kd.N_drew));exact Kd.N_mono HO232.out (fun _ hk=>hk.1)),by repeat first | exact HB.out | apply zz2 | apply zz0 | apply zz1 | refine zz3 ?_ GE178.out⟩
        ·rw [if_neg c45] at H
         exact absurd H (by simp)
       ·rw [if_neg c42] at H
        exact absurd H (by simp)
      ·rw [if_neg c41] at H
       exact absurd H (by simp)
     ·rw [if_neg c40] at H
      exact absurd H (by simp)
    ·rw [if_neg c39] at H
     exact absurd H (by simp)

end Go.Proofs.Ytoedkkoafidalaa.P
