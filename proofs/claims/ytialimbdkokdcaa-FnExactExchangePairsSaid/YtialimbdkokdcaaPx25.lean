-- PRINTED by print.py (a twelfth state) out of the translation. Not trusted: Lean checks it.
import Derived.Test.YtialimbdkokdcaaPx0
import Derived.Test.YtialimbdkokdcaaPx1
import Derived.Test.YtialimbdkokdcaaPx3
import Derived.Test.YtialimbdkokdcaaPx4
import Derived.Test.YtialimbdkokdcaaPx14
import Derived.Test.YtialimbdkokdcaaPx15
import Derived.Test.YtialimbdkokdcaaPx16
import Derived.Test.YtialimbdkokdcaaPx19
import Derived.Test.YtialimbdkokdcaaPx21
namespace Go.Proofs.Ytialimbdkokdcaa.P
open Go.RowKit Go.Proofs.YtialimbdkokdcaaW.PrintWords Go.Proofs.YtialimbdkokdcaaW.PrintLast Go.Proofs.YtialimbdkokdcaaW.PrintMore
open Bool renaming true → T, false → F
attribute [local go_sem] max2_int min2_int max_two min_two max_three min_three max_four min_four   -- for this text's walks alone
set_option linter.unusedVariables false
set_option linter.unusedSimpArgs false

/-! ### spec_deExchange: function 72 (a contract of our own) -/
/-- Both places of two people. -/
def putB (v:Bool) (X:List (List Bool)) (x y:Int):List (List Bool):=(X.set x.toNat ((rd_L4 X x).set y.toNat v)).set y.toNat ((rd_L4 (X.set x.toNat ((rd_L4 X x).set y.toNat v)) y).set x.toNat v)
def stB (v:Bool) (X:List (List Bool)) (ps:List (Int × Int)):List (List Bool):=ps.foldl (fun X p=>putB v X p.1 p.2) X
def sqB (m:Nat) (X:List (List Bool)):Prop:=X.length=m∧∀ i:Int,0≤i→i < (m:Int)→(rd_L4 X i).length=m
theorem rd_set4 (X:List (List Bool)) (r:List Bool) (x i:Int) (h:0≤x) (hi:0≤i):rd_L4 (X.set x.toNat r) i=if x=i∧x < (X.length:Int) then r else rd_L4 X i:=by
 unfold rd_L4
 rw [List.getD_eq_getElem?_getD,List.getD_eq_getElem?_getD,List.getElem?_set]
 by_cases e:x=i
 ·subst e
  by_cases h2:x < (X.length:Int)
  ·rw [if_pos rfl,if_pos (by omega),if_pos ⟨rfl,h2⟩];rfl
  ·rw [if_pos rfl,if_neg (by omega),if_neg (fun h3=>h2 h3.2),List.getElem?_eq_none (by omega)]
 ·rw [if_neg (by omega),if_neg (fun h3=>e h3.1)]
theorem sq_set {m:Nat} {X:List (List Bool)} (h:sqB m X) (x y:Int) (v:Bool) (hx:0≤x) (hx1:x < (m:Int)):sqB m (X.set x.toNat ((rd_L4 X x).set y.toNat v)):=by
 refine ⟨by rw [List.length_set];exact h.1,fun i h0 h1=>?_⟩
 rw [rd_set4 _ _ _ _ hx h0]
 split
 ·rw [List.length_set];exact h.2 x hx hx1
 ·exact h.2 i h0 h1
theorem sq_put {m:Nat} {X:List (List Bool)} (h:sqB m X) (x y:Int) (v:Bool) (hx:0≤x∧x < (m:Int)) (hy:0≤y∧y < (m:Int)):sqB m (putB v X x y):=sq_set (sq_set h x y v hx.1 hx.2) y x v hy.1 hy.2
/-- Two rows of two numbers, and a row of them, as they are laid. -/
theorem lits3 (W:World) (a1 a2 a3 a4:Int):Below W.heap.size W (((W.alloc (.cells #[.int .i64 a1,.int .i64 a2] 3)).alloc (.cells #[.int .i64 a3,.int .i64 a4] 3)).alloc (.cells #[.slice (some ⟨W.heap.size,0,none⟩) 2 2,.slice (some ⟨W.heap.size+1,0,none⟩) 2 2] 40)) ∧
  (((W.alloc (.cells #[.int .i64 a1,.int .i64 a2] 3)).alloc (.cells #[.int .i64 a3,.int .i64 a4] 3)).alloc (.cells #[.slice (some ⟨W.heap.size,0,none⟩) 2 2,.slice (some ⟨W.heap.size+1,0,none⟩) 2 2] 40)).heap[W.heap.size]?=some (.cells #[.int .i64 a1,.int .i64 a2] 3 (0,0)) ∧
  (((W.alloc (.cells #[.int .i64 a1,.int .i64 a2] 3)).alloc (.cells #[.int .i64 a3,.int .i64 a4] 3)).alloc (.cells #[.slice (some ⟨W.heap.size,0,none⟩) 2 2,.slice (some ⟨W.heap.size+1,0,none⟩) 2 2] 40)).heap[W.heap.size+1]?=some (.cells #[.int .i64 a3,.int .i64 a4] 3 (0,0)) ∧
  (((W.alloc (.cells #[.int .i64 a1,.int .i64 a2] 3)).alloc (.cells #[.int .i64 a3,.int .i64 a4] 3)).alloc (.cells #[.slice (some ⟨W.heap.size,0,none⟩) 2 2,.slice (some ⟨W.heap.size+1,0,none⟩) 2 2] 40)).heap[W.heap.size+1+1]?=some (.cells #[.slice (some ⟨W.heap.size,0,none⟩) 2 2,.slice (some ⟨W.heap.size+1,0,none⟩) 2 2] 40 (0,0)):=by
 have e1:(W.alloc (.cells #[.int .i64 a1,.int .i64 a2] 3)).heap.size=W.heap.size+1:=by simp
 have e2:((W.alloc (.cells #[.int .i64 a1,.int .i64 a2] 3)).alloc (.cells #[.int .i64 a3,.int .i64 a4] 3)).heap.size=W.heap.size+1+1:=by simp
 have b0:=blk_new W (.cells #[.int .i64 a1,.int .i64 a2] 3)
 have b1:=blk_new (W.alloc (.cells #[.int .i64 a1,.int .i64 a2] 3)) (.cells #[.int .i64 a3,.int .i64 a4] 3)
 have b2:=blk_new ((W.alloc (.cells #[.int .i64 a1,.int .i64 a2] 3)).alloc (.cells #[.int .i64 a3,.int .i64 a4] 3)) (.cells #[.slice (some ⟨W.heap.size,0,none⟩) 2 2,.slice (some ⟨W.heap.size+1,0,none⟩) 2 2] 40)
 rw [e1] at b1
 rw [e2] at b2
 exact ⟨zz2 (zz2 (zz2 (Below.refl _ _) _) _) _,zz8 (zz8 b0 _) _,zz8 b1 _,b2⟩
def badX (T:List (List Bool)) (a b c d:Int):Bool:=decide (a=c) || (decide (a=d) || (decide (b=c) || (decide (b=d) || (!rdOf false (rd_L4 T a) b || (!rdOf false (rd_L4 T c) d || (rdOf false (rd_L4 T a) c || rdOf false (rd_L4 T b) d))))))
def spec_deExchange.f (k:Nat) (a0_0:Int) (l0_1:List (S80)) (a1 a2 a3 a4:Int):Option (Int × List (S80) × Bool) :=
 (spec_paTable.f k a0_0 l0_1).bind fun T=>if (T.length≤1000∧T.all (fun r=>decide (r.length=T.length))=true)∧((0≤a1∧a1 < (T.length:Int))∧0≤a2∧a2 < (T.length:Int))∧(0≤a3∧a3 < (T.length:Int))∧0≤a4∧a4 < (T.length:Int) then
  (if badX T a1 a2 a3 a4=true then some (0,[],false) else (spec_paOf.f k (stB true (stB false T [(a1,a2),(a3,a4)]) [(a1,a3),(a2,a4)])).bind fun r=>some (r.1,r.2,true)) else none
theorem spec_deExchange.mono:∀ a0 a1 a2 a3 a4 a5 k,LeO (spec_deExchange.f k a0 a1 a2 a3 a4 a5) (spec_deExchange.f (k+1) a0 a1 a2 a3 a4 a5):=by
 intro a0 a1 a2 a3 a4 a5 k
 unfold spec_deExchange.f
 exact LeO.bind (spec_paTable.mono _ _ _) fun T=>LeO.ite (LeO.ite (LeO.refl _) (LeO.bind (spec_paOf.mono _ _) fun r=>LeO.refl _)) (LeO.refl _)
theorem bit_at {w:World} {A:Option Addr} {c:Nat} {X:List (List Bool)} {m:Nat} (hsq:sqB m X) (hC:Kd.C (Kd.slice 4 Kd.bool) w A X.length X) (x y:Int) (hx:0≤x∧x < (m:Int)) (hy:0≤y∧y < (m:Int)) :
  ∃ (ad adr:Addr) (cr:Nat),A=some ad∧w.cell? (ad.add x.toNat)=some (.slice (some adr) m cr)∧w.cell? (adr.add y.toNat)=some (.bool (rdOf false (rd_L4 X x) y)):=by
 obtain ⟨ad,A0,c0,e,hx1,_,hr⟩:=at_L4 hC x hx.1 (by rw [hsq.1];exact hx.2)
 rw [hsq.2 x hx.1 hx.2] at hx1 hr
 obtain ⟨adr,e2,hy1⟩:=Kd.at_bool hr y hy.1 hy.2
 subst e2
 exact ⟨ad,adr,c0,e,hx1,hy1⟩
set_option maxHeartbeats 8000000 in
set_option maxRecDepth 100000 in
theorem spec_deExchange.calls (k:Nat) (a0_0:Int) (A0_1:Option Addr) (c0_1:Nat) (l0_1:List (S80)) (a1 a2 a3 a4:Int) (r1:Int) (r2:List (S80)) (r3:Bool) (w:World) (hr0_1:Kd.C k80 w A0_1 l0_1.length l0_1) (hc0_1:l0_1.length≤c0_1) (h:spec_deExchange.f k a0_0 l0_1 a1 a2 a3 a4=some (r1,r2,r3)) :
  Calls Try.prog 72 #[.agg #[.int .i64 a0_0,.slice A0_1 l0_1.length c0_1],.int .i64 a1,.int .i64 a2,.int .i64 a3,.int .i64 a4] w fun e w'=>∃ v1_:Value,e=.returned (.tuple #[.agg #[.int .i64 r1,v1_],.bool r3])∧Kd.R k80 80 w' w.heap.size (fun _=>True) v1_ r2∧Below w.heap.size w w':=by
 have hu:=Try.underlying30
 have HC:=zz31 hr0_1
 have HCC:=zz31 hc0_1
 clear hr0_1 hc0_1
 unfold spec_deExchange.f at h
 replace h:=zz30.1 h
 obtain ⟨T,hT,h⟩:=h
 have HT:=zz31 hT
 clear hT
 by_cases hbd:(T.length≤1000∧T.all (fun r=>decide (r.length=T.length))=true)∧((0≤a1∧a1 < (T.length:Int))∧0≤a2∧a2 < (T.length:Int))∧(0≤a3∧a3 < (T.length:Int))∧0≤a4∧a4 < (T.length:Int)
 case neg=>rw [if_neg hbd] at h;exact absurd h (by simp)
 rw [if_pos hbd] at h
 obtain ⟨⟨hm1,hall⟩,⟨⟨a10,a11⟩,a20,a21⟩,⟨a30,a31⟩,a40,a41⟩:=hbd
 obtain ⟨m,hmT⟩:∃ m,m=T.length:=⟨_,rfl⟩
 rw [← hmT] at hm1 hall a11 a21 a31 a41
 have HSQ:Aside0 (sqB m T):=⟨hmT.symm,fun i h0 h1=>by
  have hlt:i.toNat < T.length:=by omega
  have:=List.all_eq_true.1 hall T[i.toNat] (List.getElem_mem hlt)
  unfold rd_L4
  rw [List.getD_eq_getElem?_getD,List.getElem?_eq_getElem hlt]
  exact zz29 this⟩
 have HM:=zz31 hmT
 clear hall hmT
 -- what the table says
 obtain ⟨b5,hb5⟩:∃ b,b=rdOf false (rd_L4 T a1) a2:=⟨_,rfl⟩
 obtain ⟨b6,hb6⟩:∃ b,b=rdOf false (rd_L4 T a3) a4:=⟨_,rfl⟩
 obtain ⟨b7,hb7⟩:∃ b,b=rdOf false (rd_L4 T a1) a3:=⟨_,rfl⟩
 obtain ⟨b8,hb8⟩:∃ b,b=rdOf false (rd_L4 T a2) a4:=⟨_,rfl⟩
 unfold badX at h
 rw [← hb5,← hb6,← hb7,← hb8] at h
 have HB5:=zz31 hb5
 have HB6:=zz31 hb6
 have HB7:=zz31 hb7
 have HB8:=zz31 hb8
 clear hb5 hb6 hb7 hb8
 by_cases c0:a1=a3
 ·have k0:(a1 == a3)=true:=beq_iff_eq.2 c0
  rw [decide_eq_true c0] at h
  simp only [Bool.true_or,if_true] at h
  clear c0
  replace h:(some (0,[],false):Option (Int × List (S80) × Bool))=some (r1,r2,r3):=h
  simp only [Option.some.injEq,Prod.mk.injEq] at h
  obtain ⟨rfl,rfl,rfl⟩:=h
  go_enter Try.func72,Try.ntmps72
  go_wp2_with (first | ((with_reducible refine gate_dst (N := 5) rfl ?_); refine box_event ?hg (N := 5) ?hd (cs := #[.int .i64 a0_0, .slice A0_1 l0_1.length c0_1]) (t := 30) ?hr ?_; (case hd => rfl); (case hg => rfl); (case hr => first | (go_simp; done) | (go_simp; rfl)); intro gb hg wa hbox hb; have HXa := zz31 hbox; have HBa := zz31 (zz4 (w := w) (by repeat (first | exact Below.refl _ _ | apply zz0 | apply below_drew | apply zz2)) hb); clear hbox hb hg) | ((with_reducible refine gate_dst (N := 10) rfl ?_); refine box_event ?hg (N := 10) ?hd (cs := #[.int .i64 0, .slice none 0 0]) (t := 30) ?hr ?_; (case hd => rfl); (case hg => rfl); (case hr => first | (go_simp; done) | (go_simp; rfl)); intro gr hg wc hbox hb; have HZc := zz31 hbox; have HXc := zz31 (zz11 HXa.out hb); have HGR := zz31 (show w.heap.size ≤ gr from by rw [hg]; exact HBa.out.size); have HBc := zz31 (zz4 HBa.out hb); have f1 := zz9 HXc.out 0; have f2 := zz9 HXc.out 1; have g1 := zz9 HZc.out 0; have g2 := zz9 HZc.out 1; have g3 := zz10 HZc.out 0; have g4 := zz10 HZc.out 1; simp only [List.getElem?_toArray, List.getElem?_cons_zero, List.getElem?_cons_succ] at f1 f2 g1 g2; clear hbox hb hg) | (go_at_call 53; (with_reducible refine (spec_paTable.calls k a0_0 A0_1 c0_1 l0_1 T wc (Kd.C_below HC.out HBc.out) HCC.out HT.out).mono ?_); rintro e wf ⟨vf, rfl, ho, hb⟩; obtain ⟨Af, cf, rfl⟩ := Kd.S_slice ho; have HSf := zz31 (Kd.S_mono (ok' := fun k => k < wf.heap.size) (Kd.S_bound ho) (fun k hk => hk.2.2.1)); have HDf := zz31 hb; have HXf := zz31 (zz11 HXc.out hb); have HZf := zz31 (zz11 HZc.out hb); have HBf := zz31 (zz4 HBc.out hb); clear f1 f2 g1 g2 g3 g4; have f1 := zz9 HXf.out 0; have f2 := zz9 HXf.out 1; have g1 := zz9 HZf.out 0; have g2 := zz9 HZf.out 1; have g3 := zz10 HZf.out 0; have g4 := zz10 HZf.out 1; simp only [List.getElem?_toArray, List.getElem?_cons_zero, List.getElem?_cons_succ] at f1 f2 g1 g2; clear ho hb; obtain ⟨ad5, rr5, cr5, eA5, hx5, hy5⟩ := bit_at (c := cf) HSQ.out (Kd.S_reads' HSf.out).2.2 a1 a2 ⟨a10, a11⟩ ⟨a20, a21⟩; subst eA5; rw [← HB5.out] at hy5; obtain ⟨ad6, rr6, cr6, eA6, hx6, hy6⟩ := bit_at (c := cf) HSQ.out (Kd.S_reads' HSf.out).2.2 a3 a4 ⟨a30, a31⟩ ⟨a40, a41⟩; injection eA6 with eA6; subst eA6; rw [← HB6.out] at hy6; obtain ⟨ad7, rr7, cr7, eA7, hx7, hy7⟩ := bit_at (c := cf) HSQ.out (Kd.S_reads' HSf.out).2.2 a1 a3 ⟨a10, a11⟩ ⟨a30, a31⟩; injection eA7 with eA7; subst eA7; rw [← HB7.out] at hy7; obtain ⟨ad8, rr8, cr8, eA8, hx8, hy8⟩ := bit_at (c := cf) HSQ.out (Kd.S_reads' HSf.out).2.2 a2 a4 ⟨a20, a21⟩ ⟨a40, a41⟩; injection eA8 with eA8; subst eA8; rw [← HB8.out] at hy8; have ez := Option.some.inj (hx5.symm.trans hx7); injection ez with ez1 ez2 ez3; injection ez1 with ez1; subst ez1; subst ez3; clear hx7 ez2; rw [← HM.out]) | (fail "no arm"))
  refine bodyPost_ret (results_ct rfl _ _ gr 30 #[.int .i64 0,.slice none 0 0] (0,0) _ rfl (by (with_reducible repeat (first | refine zz6 ?_ _ | refine zz7 ?_));refine blk_put (cs:=#[.int .i64 0,.slice none 0 0]) ?_ 1 _ rfl;refine blk_put (cs:=#[.int .i64 0,.slice none 0 0]) ?_ 0 _ rfl;(with_reducible repeat (first | refine zz6 ?_ _ | refine zz7 ?_));exact HZf.out) Try.underlying30 rfl (by kernel_rfl)) rfl ?_
  exact ⟨_,rfl,Kd.R_nil _ _ _ _ _,by repeat first | exact HBf.out | apply zz0 | apply below_drew | refine zz3 ?_ HGR.out⟩
 have k0:(a1 == a3)=false:=beq_eq_false_iff_ne.2 c0
 rw [decide_eq_false c0] at h
 simp only [Bool.false_or] at h
 clear c0
 by_cases c1:a1=a4
 ·have k1:(a1 == a4)=true:=beq_iff_eq.2 c1
  rw [decide_eq_true c1] at h
  simp only [Bool.true_or,if_true] at h
  clear c1
  replace h:(some (0,[],false):Option (Int × List (S80) × Bool))=some (r1,r2,r3):=h
  simp only [Option.some.injEq,Prod.mk.injEq] at h
  obtain ⟨rfl,rfl,rfl⟩:=h
  go_enter Try.func72,Try.ntmps72
  go_wp2_with (first | ((with_reducible refine gate_dst (N := 5) rfl ?_); refine box_event ?hg (N := 5) ?hd (cs := #[.int .i64 a0_0, .slice A0_1 l0_1.length c0_1]) (t := 30) ?hr ?_; (case hd => rfl); (case hg => rfl); (case hr => first | (go_simp; done) | (go_simp; rfl)); intro gb hg wa hbox hb; have HXa := zz31 hbox; have HBa := zz31 (zz4 (w := w) (by repeat (first | exact Below.refl _ _ | apply zz0 | apply below_drew | apply zz2)) hb); clear hbox hb hg) | ((with_reducible refine gate_dst (N := 10) rfl ?_); refine box_event ?hg (N := 10) ?hd (cs := #[.int .i64 0, .slice none 0 0]) (t := 30) ?hr ?_; (case hd => rfl); (case hg => rfl); (case hr => first | (go_simp; done) | (go_simp; rfl)); intro gr hg wc hbox hb; have HZc := zz31 hbox; have HXc := zz31 (zz11 HXa.out hb); have HGR := zz31 (show w.heap.size ≤ gr from by rw [hg]; exact HBa.out.size); have HBc := zz31 (zz4 HBa.out hb); have f1 := zz9 HXc.out 0; have f2 := zz9 HXc.out 1; have g1 := zz9 HZc.out 0; have g2 := zz9 HZc.out 1; have g3 := zz10 HZc.out 0; have g4 := zz10 HZc.out 1; simp only [List.getElem?_toArray, List.getElem?_cons_zero, List.getElem?_cons_succ] at f1 f2 g1 g2; clear hbox hb hg) | (go_at_call 53; (with_reducible refine (spec_paTable.calls k a0_0 A0_1 c0_1 l0_1 T wc (Kd.C_below HC.out HBc.out) HCC.out HT.out).mono ?_); rintro e wf ⟨vf, rfl, ho, hb⟩; obtain ⟨Af, cf, rfl⟩ := Kd.S_slice ho; have HSf := zz31 (Kd.S_mono (ok' := fun k => k < wf.heap.size) (Kd.S_bound ho) (fun k hk => hk.2.2.1)); have HDf := zz31 hb; have HXf := zz31 (zz11 HXc.out hb); have HZf := zz31 (zz11 HZc.out hb); have HBf := zz31 (zz4 HBc.out hb); clear f1 f2 g1 g2 g3 g4; have f1 := zz9 HXf.out 0; have f2 := zz9 HXf.out 1; have g1 := zz9 HZf.out 0; have g2 := zz9 HZf.out 1; have g3 := zz10 HZf.out 0; have g4 := zz10 HZf.out 1; simp only [List.getElem?_toArray, List.getElem?_cons_zero, List.getElem?_cons_succ] at f1 f2 g1 g2; clear ho hb; obtain ⟨ad5, rr5, cr5, eA5, hx5, hy5⟩ := bit_at (c := cf) HSQ.out (Kd.S_reads' HSf.out).2.2 a1 a2 ⟨a10, a11⟩ ⟨a20, a21⟩; subst eA5; rw [← HB5.out] at hy5; obtain ⟨ad6, rr6, cr6, eA6, hx6, hy6⟩ := bit_at (c := cf) HSQ.out (Kd.S_reads' HSf.out).2.2 a3 a4 ⟨a30, a31⟩ ⟨a40, a41⟩; injection eA6 with eA6; subst eA6; rw [← HB6.out] at hy6; obtain ⟨ad7, rr7, cr7, eA7, hx7, hy7⟩ := bit_at (c := cf) HSQ.out (Kd.S_reads' HSf.out).2.2 a1 a3 ⟨a10, a11⟩ ⟨a30, a31⟩; injection eA7 with eA7; subst eA7; rw [← HB7.out] at hy7; obtain ⟨ad8, rr8, cr8, eA8, hx8, hy8⟩ := bit_at (c := cf) HSQ.out (Kd.S_reads' HSf.out).2.2 a2 a4 ⟨a20, a21⟩ ⟨a40, a41⟩; injection eA8 with eA8; subst eA8; rw [← HB8.out] at hy8; have ez := Option.some.inj (hx5.symm.trans hx7); injection ez with ez1 ez2 ez3; injection ez1 with ez1; subst ez1; subst ez3; clear hx7 ez2; rw [← HM.out]) | (fail "no arm"))
  refine bodyPost_ret (results_ct rfl _ _ gr 30 #[.int .i64 0,.slice none 0 0] (0,0) _ rfl (by (with_reducible repeat (first | refine zz6 ?_ _ | refine zz7 ?_));refine blk_put (cs:=#[.int .i64 0,.slice none 0 0]) ?_ 1 _ rfl;refine blk_put (cs:=#[.int .i64 0,.slice none 0 0]) ?_ 0 _ rfl;(with_reducible repeat (first | refine zz6 ?_ _ | refine zz7 ?_));exact HZf.out) Try.underlying30 rfl (by kernel_rfl)) rfl ?_
  exact ⟨_,rfl,Kd.R_nil _ _ _ _ _,by repeat first | exact HBf.out | apply zz0 | apply below_drew | refine zz3 ?_ HGR.out⟩
 have k1:(a1 == a4)=false:=beq_eq_false_iff_ne.2 c1
 rw [decide_eq_false c1] at h
 simp only [Bool.false_or] at h
 clear c1
 by_cases c2:a2=a3
 ·have k2:(a2 == a3)=true:=beq_iff_eq.2 c2
  rw [decide_eq_true c2] at h
  simp only [Bool.true_or,if_true] at h
  clear c2
  replace h:(some (0,[],false):Option (Int × List (S80) × Bool))=some (r1,r2,r3):=h
  simp only [Option.some.injEq,Prod.mk.injEq] at h
  obtain ⟨rfl,rfl,rfl⟩:=h
  go_enter Try.func72,Try.ntmps72
  go_wp2_with (first | ((with_reducible refine gate_dst (N := 5) rfl ?_); refine box_event ?hg (N := 5) ?hd (cs := #[.int .i64 a0_0, .slice A0_1 l0_1.length c0_1]) (t := 30) ?hr ?_; (case hd => rfl); (case hg => rfl); (case hr => first | (go_simp; done) | (go_simp; rfl)); intro gb hg wa hbox hb; have HXa := zz31 hbox; have HBa := zz31 (zz4 (w := w) (by repeat (first | exact Below.refl _ _ | apply zz0 | apply below_drew | apply zz2)) hb); clear hbox hb hg) | ((with_reducible refine gate_dst (N := 10) rfl ?_); refine box_event ?hg (N := 10) ?hd (cs := #[.int .i64 0, .slice none 0 0]) (t := 30) ?hr ?_; (case hd => rfl); (case hg => rfl); (case hr => first | (go_simp; done) | (go_simp; rfl)); intro gr hg wc hbox hb; have HZc := zz31 hbox; have HXc := zz31 (zz11 HXa.out hb); have HGR := zz31 (show w.heap.size ≤ gr from by rw [hg]; exact HBa.out.size); have HBc := zz31 (zz4 HBa.out hb); have f1 := zz9 HXc.out 0; have f2 := zz9 HXc.out 1; have g1 := zz9 HZc.out 0; have g2 := zz9 HZc.out 1; have g3 := zz10 HZc.out 0; have g4 := zz10 HZc.out 1; simp only [List.getElem?_toArray, List.getElem?_cons_zero, List.getElem?_cons_succ] at f1 f2 g1 g2; clear hbox hb hg) | (go_at_call 53; (with_reducible refine (spec_paTable.calls k a0_0 A0_1 c0_1 l0_1 T wc (Kd.C_below HC.out HBc.out) HCC.out HT.out).mono ?_); rintro e wf ⟨vf, rfl, ho, hb⟩; obtain ⟨Af, cf, rfl⟩ := Kd.S_slice ho; have HSf := zz31 (Kd.S_mono (ok' := fun k => k < wf.heap.size) (Kd.S_bound ho) (fun k hk => hk.2.2.1)); have HDf := zz31 hb; have HXf := zz31 (zz11 HXc.out hb); have HZf := zz31 (zz11 HZc.out hb); have HBf := zz31 (zz4 HBc.out hb); clear f1 f2 g1 g2 g3 g4; have f1 := zz9 HXf.out 0; have f2 := zz9 HXf.out 1; have g1 := zz9 HZf.out 0; have g2 := zz9 HZf.out 1; have g3 := zz10 HZf.out 0; have g4 := zz10 HZf.out 1; simp only [List.getElem?_toArray, List.getElem?_cons_zero, List.getElem?_cons_succ] at f1 f2 g1 g2; clear ho hb; obtain ⟨ad5, rr5, cr5, eA5, hx5, hy5⟩ := bit_at (c := cf) HSQ.out (Kd.S_reads' HSf.out).2.2 a1 a2 ⟨a10, a11⟩ ⟨a20, a21⟩; subst eA5; rw [← HB5.out] at hy5; obtain ⟨ad6, rr6, cr6, eA6, hx6, hy6⟩ := bit_at (c := cf) HSQ.out (Kd.S_reads' HSf.out).2.2 a3 a4 ⟨a30, a31⟩ ⟨a40, a41⟩; injection eA6 with eA6; subst eA6; rw [← HB6.out] at hy6; obtain ⟨ad7, rr7, cr7, eA7, hx7, hy7⟩ := bit_at (c := cf) HSQ.out (Kd.S_reads' HSf.out).2.2 a1 a3 ⟨a10, a11⟩ ⟨a30, a31⟩; injection eA7 with eA7; subst eA7; rw [← HB7.out] at hy7; obtain ⟨ad8, rr8, cr8, eA8, hx8, hy8⟩ := bit_at (c := cf) HSQ.out (Kd.S_reads' HSf.out).2.2 a2 a4 ⟨a20, a21⟩ ⟨a40, a41⟩; injection eA8 with eA8; subst eA8; rw [← HB8.out] at hy8; have ez := Option.some.inj (hx5.symm.trans hx7); injection ez with ez1 ez2 ez3; injection ez1 with ez1; subst ez1; subst ez3; clear hx7 ez2; rw [← HM.out]) | (fail "no arm"))
  refine bodyPost_ret (results_ct rfl _ _ gr 30 #[.int .i64 0,.slice none 0 0] (0,0) _ rfl (by (with_reducible repeat (first | refine zz6 ?_ _ | refine zz7 ?_));refine blk_put (cs:=#[.int .i64 0,.slice none 0 0]) ?_ 1 _ rfl;refine blk_put (cs:=#[.int .i64 0,.slice none 0 0]) ?_ 0 _ rfl;(with_reducible repeat (first | refine zz6 ?_ _ | refine zz7 ?_));exact HZf.out) Try.underlying30 rfl (by kernel_rfl)) rfl ?_
  exact ⟨_,rfl,Kd.R_nil _ _ _ _ _,by repeat first | exact HBf.out | apply zz0 | apply below_drew | refine zz3 ?_ HGR.out⟩
 have k2:(a2 == a3)=false:=beq_eq_false_iff_ne.2 c2
 rw [decide_eq_false c2] at h
 simp only [Bool.false_or] at h
 clear c2
 by_cases c3:a2=a4
 ·have k3:(a2 == a4)=true:=beq_iff_eq.2 c3
  rw [decide_eq_true c3] at h
  simp only [Bool.true_or,if_true] at h
  clear c3
  replace h:(some (0,[],false):Option (Int × List (S80) × Bool))=some (r1,r2,r3):=h
  simp only [Option.some.injEq,Prod.mk.injEq] at h
  obtain ⟨rfl,rfl,rfl⟩:=h
  go_enter Try.func72,Try.ntmps72
  go_wp2_with (first | ((with_reducible refine gate_dst (N := 5) rfl ?_); refine box_event ?hg (N := 5) ?hd (cs := #[.int .i64 a0_0, .slice A0_1 l0_1.length c0_1]) (t := 30) ?hr ?_; (case hd => rfl); (case hg => rfl); (case hr => first | (go_simp; done) | (go_simp; rfl)); intro gb hg wa hbox hb; have HXa := zz31 hbox; have HBa := zz31 (zz4 (w := w) (by repeat (first | exact Below.refl _ _ | apply zz0 | apply below_drew | apply zz2)) hb); clear hbox hb hg) | ((with_reducible refine gate_dst (N := 10) rfl ?_); refine box_event ?hg (N := 10) ?hd (cs := #[.int .i64 0, .slice none 0 0]) (t := 30) ?hr ?_; (case hd => rfl); (case hg => rfl); (case hr => first | (go_simp; done) | (go_simp; rfl)); intro gr hg wc hbox hb; have HZc := zz31 hbox; have HXc := zz31 (zz11 HXa.out hb); have HGR := zz31 (show w.heap.size ≤ gr from by rw [hg]; exact HBa.out.size); have HBc := zz31 (zz4 HBa.out hb); have f1 := zz9 HXc.out 0; have f2 := zz9 HXc.out 1; have g1 := zz9 HZc.out 0; have g2 := zz9 HZc.out 1; have g3 := zz10 HZc.out 0; have g4 := zz10 HZc.out 1; simp only [List.getElem?_toArray, List.getElem?_cons_zero, List.getElem?_cons_succ] at f1 f2 g1 g2; clear hbox hb hg) | (go_at_call 53; (with_reducible refine (spec_paTable.calls k a0_0 A0_1 c0_1 l0_1 T wc (Kd.C_below HC.out HBc.out) HCC.out HT.out).mono ?_); rintro e wf ⟨vf, rfl, ho, hb⟩; obtain ⟨Af, cf, rfl⟩ := Kd.S_slice ho; have HSf := zz31 (Kd.S_mono (ok' := fun k => k < wf.heap.size) (Kd.S_bound ho) (fun k hk => hk.2.2.1)); have HDf := zz31 hb; have HXf := zz31 (zz11 HXc.out hb); have HZf := zz31 (zz11 HZc.out hb); have HBf := zz31 (zz4 HBc.out hb); clear f1 f2 g1 g2 g3 g4; have f1 := zz9 HXf.out 0; have f2 := zz9 HXf.out 1; have g1 := zz9 HZf.out 0; have g2 := zz9 HZf.out 1; have g3 := zz10 HZf.out 0; have g4 := zz10 HZf.out 1; simp only [List.getElem?_toArray, List.getElem?_cons_zero, List.getElem?_cons_succ] at f1 f2 g1 g2; clear ho hb; obtain ⟨ad5, rr5, cr5, eA5, hx5, hy5⟩ := bit_at (c := cf) HSQ.out (Kd.S_reads' HSf.out).2.2 a1 a2 ⟨a10, a11⟩ ⟨a20, a21⟩; subst eA5; rw [← HB5.out] at hy5; obtain ⟨ad6, rr6, cr6, eA6, hx6, hy6⟩ := bit_at (c := cf) HSQ.out (Kd.S_reads' HSf.out).2.2 a3 a4 ⟨a30, a31⟩ ⟨a40, a41⟩; injection eA6 with eA6; subst eA6; rw [← HB6.out] at hy6; obtain ⟨ad7, rr7, cr7, eA7, hx7, hy7⟩ := bit_at (c := cf) HSQ.out (Kd.S_reads' HSf.out).2.2 a1 a3 ⟨a10, a11⟩ ⟨a30, a31⟩; injection eA7 with eA7; subst eA7; rw [← HB7.out] at hy7; obtain ⟨ad8, rr8, cr8, eA8, hx8, hy8⟩ := bit_at (c := cf) HSQ.out (Kd.S_reads' HSf.out).2.2 a2 a4 ⟨a20, a21⟩ ⟨a40, a41⟩; injection eA8 with eA8; subst eA8; rw [← HB8.out] at hy8; have ez := Option.some.inj (hx5.symm.trans hx7); injection ez with ez1 ez2 ez3; injection ez1 with ez1; subst ez1; subst ez3; clear hx7 ez2; rw [← HM.out]) | (fail "no arm"))
  refine bodyPost_ret (results_ct rfl _ _ gr 30 #[.int .i64 0,.slice none 0 0] (0,0) _ rfl (by (with_reducible repeat (first | refine zz6 ?_ _ | refine zz7 ?_));refine blk_put (cs:=#[.int .i64 0,.slice none 0 0]) ?_ 1 _ rfl;refine blk_put (cs:=#[.int .i64 0,.slice none 0 0]) ?_ 0 _ rfl;(with_reducible repeat (first | refine zz6 ?_ _ | refine zz7 ?_));exact HZf.out) Try.underlying30 rfl (by kernel_rfl)) rfl ?_
  exact ⟨_,rfl,Kd.R_nil _ _ _ _ _,by repeat first | exact HBf.out | apply zz0 | apply below_drew | refine zz3 ?_ HGR.out⟩
 have k3:(a2 == a4)=false:=beq_eq_false_iff_ne.2 c3
 rw [decide_eq_false c3] at h
 simp only [Bool.false_or] at h
 clear c3
 cases b5 with
 | false =>
  simp only [Bool.not_false,Bool.true_or,if_true] at h
  replace h:(some (0,[],false):Option (Int × List (S80) × Bool))=some (r1,r2,r3):=h
  simp only [Option.some.injEq,Prod.mk.injEq] at h
  obtain ⟨rfl,rfl,rfl⟩:=h
  go_enter Try.func72,Try.ntmps72
  go_wp2_with (first | ((with_reducible refine gate_dst (N := 5) rfl ?_); refine box_event ?hg (N := 5) ?hd (cs := #[.int .i64 a0_0, .slice A0_1 l0_1.length c0_1]) (t := 30) ?hr ?_; (case hd => rfl); (case hg => rfl); (case hr => first | (go_simp; done) | (go_simp; rfl)); intro gb hg wa hbox hb; have HXa := zz31 hbox; have HBa := zz31 (zz4 (w := w) (by repeat (first | exact Below.refl _ _ | apply zz0 | apply below_drew | apply zz2)) hb); clear hbox hb hg) | ((with_reducible refine gate_dst (N := 10) rfl ?_); refine box_event ?hg (N := 10) ?hd (cs := #[.int .i64 0, .slice none 0 0]) (t := 30) ?hr ?_; (case hd => rfl); (case hg => rfl); (case hr => first | (go_simp; done) | (go_simp; rfl)); intro gr hg wc hbox hb; have HZc := zz31 hbox; have HXc := zz31 (zz11 HXa.out hb); have HGR := zz31 (show w.heap.size ≤ gr from by rw [hg]; exact HBa.out.size); have HBc := zz31 (zz4 HBa.out hb); have f1 := zz9 HXc.out 0; have f2 := zz9 HXc.out 1; have g1 := zz9 HZc.out 0; have g2 := zz9 HZc.out 1; have g3 := zz10 HZc.out 0; have g4 := zz10 HZc.out 1; simp only [List.getElem?_toArray, List.getElem?_cons_zero, List.getElem?_cons_succ] at f1 f2 g1 g2; clear hbox hb hg) | (go_at_call 53; (with_reducible refine (spec_paTable.calls k a0_0 A0_1 c0_1 l0_1 T wc (Kd.C_below HC.out HBc.out) HCC.out HT.out).mono ?_); rintro e wf ⟨vf, rfl, ho, hb⟩; obtain ⟨Af, cf, rfl⟩ := Kd.S_slice ho; have HSf := zz31 (Kd.S_mono (ok' := fun k => k < wf.heap.size) (Kd.S_bound ho) (fun k hk => hk.2.2.1)); have HDf := zz31 hb; have HXf := zz31 (zz11 HXc.out hb); have HZf := zz31 (zz11 HZc.out hb); have HBf := zz31 (zz4 HBc.out hb); clear f1 f2 g1 g2 g3 g4; have f1 := zz9 HXf.out 0; have f2 := zz9 HXf.out 1; have g1 := zz9 HZf.out 0; have g2 := zz9 HZf.out 1; have g3 := zz10 HZf.out 0; have g4 := zz10 HZf.out 1; simp only [List.getElem?_toArray, List.getElem?_cons_zero, List.getElem?_cons_succ] at f1 f2 g1 g2; clear ho hb; obtain ⟨ad5, rr5, cr5, eA5, hx5, hy5⟩ := bit_at (c := cf) HSQ.out (Kd.S_reads' HSf.out).2.2 a1 a2 ⟨a10, a11⟩ ⟨a20, a21⟩; subst eA5; rw [← HB5.out] at hy5; obtain ⟨ad6, rr6, cr6, eA6, hx6, hy6⟩ := bit_at (c := cf) HSQ.out (Kd.S_reads' HSf.out).2.2 a3 a4 ⟨a30, a31⟩ ⟨a40, a41⟩; injection eA6 with eA6; subst eA6; rw [← HB6.out] at hy6; obtain ⟨ad7, rr7, cr7, eA7, hx7, hy7⟩ := bit_at (c := cf) HSQ.out (Kd.S_reads' HSf.out).2.2 a1 a3 ⟨a10, a11⟩ ⟨a30, a31⟩; injection eA7 with eA7; subst eA7; rw [← HB7.out] at hy7; obtain ⟨ad8, rr8, cr8, eA8, hx8, hy8⟩ := bit_at (c := cf) HSQ.out (Kd.S_reads' HSf.out).2.2 a2 a4 ⟨a20, a21⟩ ⟨a40, a41⟩; injection eA8 with eA8; subst eA8; rw [← HB8.out] at hy8; have ez := Option.some.inj (hx5.symm.trans hx7); injection ez with ez1 ez2 ez3; injection ez1 with ez1; subst ez1; subst ez3; clear hx7 ez2; rw [← HM.out]) | (fail "no arm"))
  refine bodyPost_ret (results_ct rfl _ _ gr 30 #[.int .i64 0,.slice none 0 0] (0,0) _ rfl (by (with_reducible repeat (first | refine zz6 ?_ _ | refine zz7 ?_));refine blk_put (cs:=#[.int .i64 0,.slice none 0 0]) ?_ 1 _ rfl;refine blk_put (cs:=#[.int .i64 0,.slice none 0 0]) ?_ 0 _ rfl;(with_reducible repeat (first | refine zz6 ?_ _ | refine zz7 ?_));exact HZf.out) Try.underlying30 rfl (by kernel_rfl)) rfl ?_
  exact ⟨_,rfl,Kd.R_nil _ _ _ _ _,by repeat first | exact HBf.out | apply zz0 | apply below_drew | refine zz3 ?_ HGR.out⟩
 | true =>
  simp only [Bool.not_true,Bool.false_or] at h
  cases b6 with
  | false =>
   simp only [Bool.not_false,Bool.true_or,if_true] at h
   replace h:(some (0,[],false):Option (Int × List (S80) × Bool))=some (r1,r2,r3):=h
   simp only [Option.some.injEq,Prod.mk.injEq] at h
   obtain ⟨rfl,rfl,rfl⟩:=h
   go_enter Try.func72,Try.ntmps72
   go_wp2_with (first | ((with_reducible refine gate_dst (N := 5) rfl ?_); refine box_event ?hg (N := 5) ?hd (cs := #[.int .i64 a0_0, .slice A0_1 l0_1.length c0_1]) (t := 30) ?hr ?_; (case hd => rfl); (case hg => rfl); (case hr => first | (go_simp; done) | (go_simp; rfl)); intro gb hg wa hbox hb; have HXa := zz31 hbox; have HBa := zz31 (zz4 (w := w) (by repeat (first | exact Below.refl _ _ | apply zz0 | apply below_drew | apply zz2)) hb); clear hbox hb hg) | ((with_reducible refine gate_dst (N := 10) rfl ?_); refine box_event ?hg (N := 10) ?hd (cs := #[.int .i64 0, .slice none 0 0]) (t := 30) ?hr ?_; (case hd => rfl); (case hg => rfl); (case hr => first | (go_simp; done) | (go_simp; rfl)); intro gr hg wc hbox hb; have HZc := zz31 hbox; have HXc := zz31 (zz11 HXa.out hb); have HGR := zz31 (show w.heap.size ≤ gr from by rw [hg]; exact HBa.out.size); have HBc := zz31 (zz4 HBa.out hb); have f1 := zz9 HXc.out 0; have f2 := zz9 HXc.out 1; have g1 := zz9 HZc.out 0; have g2 := zz9 HZc.out 1; have g3 := zz10 HZc.out 0; have g4 := zz10 HZc.out 1; simp only [List.getElem?_toArray, List.getElem?_cons_zero, List.getElem?_cons_succ] at f1 f2 g1 g2; clear hbox hb hg) | (go_at_call 53; (with_reducible refine (spec_paTable.calls k a0_0 A0_1 c0_1 l0_1 T wc (Kd.C_below HC.out HBc.out) HCC.out HT.out).mono ?_); rintro e wf ⟨vf, rfl, ho, hb⟩; obtain ⟨Af, cf, rfl⟩ := Kd.S_slice ho; have HSf := zz31 (Kd.S_mono (ok' := fun k => k < wf.heap.size) (Kd.S_bound ho) (fun k hk => hk.2.2.1)); have HDf := zz31 hb; have HXf := zz31 (zz11 HXc.out hb); have HZf := zz31 (zz11 HZc.out hb); have HBf := zz31 (zz4 HBc.out hb); clear f1 f2 g1 g2 g3 g4; have f1 := zz9 HXf.out 0; have f2 := zz9 HXf.out 1; have g1 := zz9 HZf.out 0; have g2 := zz9 HZf.out 1; have g3 := zz10 HZf.out 0; have g4 := zz10 HZf.out 1; simp only [List.getElem?_toArray, List.getElem?_cons_zero, List.getElem?_cons_succ] at f1 f2 g1 g2; clear ho hb; obtain ⟨ad5, rr5, cr5, eA5, hx5, hy5⟩ := bit_at (c := cf) HSQ.out (Kd.S_reads' HSf.out).2.2 a1 a2 ⟨a10, a11⟩ ⟨a20, a21⟩; subst eA5; rw [← HB5.out] at hy5; obtain ⟨ad6, rr6, cr6, eA6, hx6, hy6⟩ := bit_at (c := cf) HSQ.out (Kd.S_reads' HSf.out).2.2 a3 a4 ⟨a30, a31⟩ ⟨a40, a41⟩; injection eA6 with eA6; subst eA6; rw [← HB6.out] at hy6; obtain ⟨ad7, rr7, cr7, eA7, hx7, hy7⟩ := bit_at (c := cf) HSQ.out (Kd.S_reads' HSf.out).2.2 a1 a3 ⟨a10, a11⟩ ⟨a30, a31⟩; injection eA7 with eA7; subst eA7; rw [← HB7.out] at hy7; obtain ⟨ad8, rr8, cr8, eA8, hx8, hy8⟩ := bit_at (c := cf) HSQ.out (Kd.S_reads' HSf.out).2.2 a2 a4 ⟨a20, a21⟩ ⟨a40, a41⟩; injection eA8 with eA8; subst eA8; rw [← HB8.out] at hy8; have ez := Option.some.inj (hx5.symm.trans hx7); injection ez with ez1 ez2 ez3; injection ez1 with ez1; subst ez1; subst ez3; clear hx7 ez2; rw [← HM.out]) | (fail "no arm"))
   refine bodyPost_ret (results_ct rfl _ _ gr 30 #[.int .i64 0,.slice none 0 0] (0,0) _ rfl (by (with_reducible repeat (first | refine zz6 ?_ _ | refine zz7 ?_));refine blk_put (cs:=#[.int .i64 0,.slice none 0 0]) ?_ 1 _ rfl;refine blk_put (cs:=#[.int .i64 0,.slice none 0 0]) ?_ 0 _ rfl;(with_reducible repeat (first | refine zz6 ?_ _ | refine zz7 ?_));exact HZf.out) Try.underlying30 rfl (by kernel_rfl)) rfl ?_
   exact ⟨_,rfl,Kd.R_nil _ _ _ _ _,by repeat first | exact HBf.out | apply zz0 | apply below_drew | refine zz3 ?_ HGR.out⟩
  | true =>
   simp only [Bool.not_true,Bool.false_or] at h
   cases b7 with
   | true =>
    simp only [Bool.true_or,if_true] at h
    replace h:(some (0,[],false):Option (Int × List (S80) × Bool))=some (r1,r2,r3):=h
    simp only [Option.some.injEq,Prod.mk.injEq] at h
    obtain ⟨rfl,rfl,rfl⟩:=h
    go_enter Try.func72,Try.ntmps72
    go_wp2_with (first | ((with_reducible refine gate_dst (N := 5) rfl ?_); refine box_event ?hg (N := 5) ?hd (cs := #[.int .i64 a0_0, .slice A0_1 l0_1.length c0_1]) (t := 30) ?hr ?_; (case hd => rfl); (case hg => rfl); (case hr => first | (go_simp; done) | (go_simp; rfl)); intro gb hg wa hbox hb; have HXa := zz31 hbox; have HBa := zz31 (zz4 (w := w) (by repeat (first | exact Below.refl _ _ | apply zz0 | apply below_drew | apply zz2)) hb); clear hbox hb hg) | ((with_reducible refine gate_dst (N := 10) rfl ?_); refine box_event ?hg (N := 10) ?hd (cs := #[.int .i64 0, .slice none 0 0]) (t := 30) ?hr ?_; (case hd => rfl); (case hg => rfl); (case hr => first | (go_simp; done) | (go_simp; rfl)); intro gr hg wc hbox hb; have HZc := zz31 hbox; have HXc := zz31 (zz11 HXa.out hb); have HGR := zz31 (show w.heap.size ≤ gr from by rw [hg]; exact HBa.out.size); have HBc := zz31 (zz4 HBa.out hb); have f1 := zz9 HXc.out 0; have f2 := zz9 HXc.out 1; have g1 := zz9 HZc.out 0; have g2 := zz9 HZc.out 1; have g3 := zz10 HZc.out 0; have g4 := zz10 HZc.out 1; simp only [List.getElem?_toArray, List.getElem?_cons_zero, List.getElem?_cons_succ] at f1 f2 g1 g2; clear hbox hb hg) | (go_at_call 53; (with_reducible refine (spec_paTable.calls k a0_0 A0_1 c0_1 l0_1 T wc (Kd.C_below HC.out HBc.out) HCC.out HT.out).mono ?_); rintro e wf ⟨vf, rfl, ho, hb⟩; obtain ⟨Af, cf, rfl⟩ := Kd.S_slice ho; have HSf := zz31 (Kd.S_mono (ok' := fun k => k < wf.heap.size) (Kd.S_bound ho) (fun k hk => hk.2.2.1)); have HDf := zz31 hb; have HXf := zz31 (zz11 HXc.out hb); have HZf := zz31 (zz11 HZc.out hb); have HBf := zz31 (zz4 HBc.out hb); clear f1 f2 g1 g2 g3 g4; have f1 := zz9 HXf.out 0; have f2 := zz9 HXf.out 1; have g1 := zz9 HZf.out 0; have g2 := zz9 HZf.out 1; have g3 := zz10 HZf.out 0; have g4 := zz10 HZf.out 1; simp only [List.getElem?_toArray, List.getElem?_cons_zero, List.getElem?_cons_succ] at f1 f2 g1 g2; clear ho hb; obtain ⟨ad5, rr5, cr5, eA5, hx5, hy5⟩ := bit_at (c := cf) HSQ.out (Kd.S_reads' HSf.out).2.2 a1 a2 ⟨a10, a11⟩ ⟨a20, a21⟩; subst eA5; rw [← HB5.out] at hy5; obtain ⟨ad6, rr6, cr6, eA6, hx6, hy6⟩ := bit_at (c := cf) HSQ.out (Kd.S_reads' HSf.out).2.2 a3 a4 ⟨a30, a31⟩ ⟨a40, a41⟩; injection eA6 with eA6; subst eA6; rw [← HB6.out] at hy6; obtain ⟨ad7, rr7, cr7, eA7, hx7, hy7⟩ := bit_at (c := cf) HSQ.out (Kd.S_reads' HSf.out).2.2 a1 a3 ⟨a10, a11⟩ ⟨a30, a31⟩; injection eA7 with eA7; subst eA7; rw [← HB7.out] at hy7; obtain ⟨ad8, rr8, cr8, eA8, hx8, hy8⟩ := bit_at (c := cf) HSQ.out (Kd.S_reads' HSf.out).2.2 a2 a4 ⟨a20, a21⟩ ⟨a40, a41⟩; injection eA8 with eA8; subst eA8; rw [← HB8.out] at hy8; have ez := Option.some.inj (hx5.symm.trans hx7); injection ez with ez1 ez2 ez3; injection ez1 with ez1; subst ez1; subst ez3; clear hx7 ez2; rw [← HM.out]) | (fail "no arm"))
    refine bodyPost_ret (results_ct rfl _ _ gr 30 #[.int .i64 0,.slice none 0 0] (0,0) _ rfl (by (with_reducible repeat (first | refine zz6 ?_ _ | refine zz7 ?_));refine blk_put (cs:=#[.int .i64 0,.slice none 0 0]) ?_ 1 _ rfl;refine blk_put (cs:=#[.int .i64 0,.slice none 0 0]) ?_ 0 _ rfl;(with_reducible repeat (first | refine zz6 ?_ _ | refine zz7 ?_));exact HZf.out) Try.underlying30 rfl (by kernel_rfl)) rfl ?_
    exact ⟨_,rfl,Kd.R_nil _ _ _ _ _,by repeat first | exact HBf.out | apply zz0 | apply below_drew | refine zz3 ?_ HGR.out⟩
   | false =>
    simp only [Bool.false_or] at h
    cases b8 with
    | true =>
     simp only [Bool.true_or,if_true] at h
     replace h:(some (0,[],false):Option (Int × List (S80) × Bool))=some (r1,r2,r3):=h
     simp only [Option.some.injEq,Prod.mk.injEq] at h
     obtain ⟨rfl,rfl,rfl⟩:=h
     go_enter Try.func72,Try.ntmps72
     go_wp2_with (first | ((with_reducible refine gate_dst (N := 5) rfl ?_); refine box_event ?hg (N := 5) ?hd (cs := #[.int .i64 a0_0, .slice A0_1 l0_1.length c0_1]) (t := 30) ?hr ?_; (case hd => rfl); (case hg => rfl); (case hr => first | (go_simp; done) | (go_simp; rfl)); intro gb hg wa hbox hb; have HXa := zz31 hbox; have HBa := zz31 (zz4 (w := w) (by repeat (first | exact Below.refl _ _ | apply zz0 | apply below_drew | apply zz2)) hb); clear hbox hb hg) | ((with_reducible refine gate_dst (N := 10) rfl ?_); refine box_event ?hg (N := 10) ?hd (cs := #[.int .i64 0, .slice none 0 0]) (t := 30) ?hr ?_; (case hd => rfl); (case hg => rfl); (case hr => first | (go_simp; done) | (go_simp; rfl)); intro gr hg wc hbox hb; have HZc := zz31 hbox; have HXc := zz31 (zz11 HXa.out hb); have HGR := zz31 (show w.heap.size ≤ gr from by rw [hg]; exact HBa.out.size); have HBc := zz31 (zz4 HBa.out hb); have f1 := zz9 HXc.out 0; have f2 := zz9 HXc.out 1; have g1 := zz9 HZc.out 0; have g2 := zz9 HZc.out 1; have g3 := zz10 HZc.out 0; have g4 := zz10 HZc.out 1; simp only [List.getElem?_toArray, List.getElem?_cons_zero, List.getElem?_cons_succ] at f1 f2 g1 g2; clear hbox hb hg) | (go_at_call 53; (with_reducible refine (spec_paTable.calls k a0_0 A0_1 c0_1 l0_1 T wc (Kd.C_below HC.out HBc.out) HCC.out HT.out).mono ?_); rintro e wf ⟨vf, rfl, ho, hb⟩; obtain ⟨Af, cf, rfl⟩ := Kd.S_slice ho; have HSf := zz31 (Kd.S_mono (ok' := fun k => k < wf.heap.size) (Kd.S_bound ho) (fun k hk => hk.2.2.1)); have HDf := zz31 hb; have HXf := zz31 (zz11 HXc.out hb); have HZf := zz31 (zz11 HZc.out hb); have HBf := zz31 (zz4 HBc.out hb); clear f1 f2 g1 g2 g3 g4; have f1 := zz9 HXf.out 0; have f2 := zz9 HXf.out 1; have g1 := zz9 HZf.out 0; have g2 := zz9 HZf.out 1; have g3 := zz10 HZf.out 0; have g4 := zz10 HZf.out 1; simp only [List.getElem?_toArray, List.getElem?_cons_zero, List.getElem?_cons_succ] at f1 f2 g1 g2; clear ho hb; obtain ⟨ad5, rr5, cr5, eA5, hx5, hy5⟩ := bit_at (c := cf) HSQ.out (Kd.S_reads' HSf.out).2.2 a1 a2 ⟨a10, a11⟩ ⟨a20, a21⟩; subst eA5; rw [← HB5.out] at hy5; obtain ⟨ad6, rr6, cr6, eA6, hx6, hy6⟩ := bit_at (c := cf) HSQ.out (Kd.S_reads' HSf.out).2.2 a3 a4 ⟨a30, a31⟩ ⟨a40, a41⟩; injection eA6 with eA6; subst eA6; rw [← HB6.out] at hy6; obtain ⟨ad7, rr7, cr7, eA7, hx7, hy7⟩ := bit_at (c := cf) HSQ.out (Kd.S_reads' HSf.out).2.2 a1 a3 ⟨a10, a11⟩ ⟨a30, a31⟩; injection eA7 with eA7; subst eA7; rw [← HB7.out] at hy7; obtain ⟨ad8, rr8, cr8, eA8, hx8, hy8⟩ := bit_at (c := cf) HSQ.out (Kd.S_reads' HSf.out).2.2 a2 a4 ⟨a20, a21⟩ ⟨a40, a41⟩; injection eA8 with eA8; subst eA8; rw [← HB8.out] at hy8; have ez := Option.some.inj (hx5.symm.trans hx7); injection ez with ez1 ez2 ez3; injection ez1 with ez1; subst ez1; subst ez3; clear hx7 ez2; rw [← HM.out]) | (fail "no arm"))
     refine bodyPost_ret (results_ct rfl _ _ gr 30 #[.int .i64 0,.slice none 0 0] (0,0) _ rfl (by (with_reducible repeat (first | refine zz6 ?_ _ | refine zz7 ?_));refine blk_put (cs:=#[.int .i64 0,.slice none 0 0]) ?_ 1 _ rfl;refine blk_put (cs:=#[.int .i64 0,.slice none 0 0]) ?_ 0 _ rfl;(with_reducible repeat (first | refine zz6 ?_ _ | refine zz7 ?_));exact HZf.out) Try.underlying30 rfl (by kernel_rfl)) rfl ?_
     exact ⟨_,rfl,Kd.R_nil _ _ _ _ _,by repeat first | exact HBf.out | apply zz0 | apply below_drew | refine zz3 ?_ HGR.out⟩
    | false =>
     simp only [Bool.false_or,Bool.false_eq_true,if_false] at h
     replace h:=zz30.1 h
     obtain ⟨⟨s1,s2⟩,hOF,h⟩:=h
     simp only [Option.some.injEq,Prod.mk.injEq] at h
     obtain ⟨rfl,rfl,rfl⟩:=h
     have HOF:=zz31 hOF
     clear hOF
     have HA:=zz31 (show ((0≤a1∧a1 < (m:Int))∧0≤a2∧a2 < (m:Int))∧(0≤a3∧a3 < (m:Int))∧0≤a4∧a4 < (m:Int) from ⟨⟨⟨a10,a11⟩,a20,a21⟩,⟨a30,a31⟩,a40,a41⟩)
     go_enter Try.func72,Try.ntmps72
     go_wp2_with (first | ((with_reducible refine gate_dst (N := 5) rfl ?_); refine box_event ?hg (N := 5) ?hd (cs := #[.int .i64 a0_0, .slice A0_1 l0_1.length c0_1]) (t := 30) ?hr ?_; (case hd => rfl); (case hg => rfl); (case hr => first | (go_simp; done) | (go_simp; rfl)); intro gb hg wa hbox hb; have HXa := zz31 hbox; have HBa := zz31 (zz4 (w := w) (by repeat (first | exact Below.refl _ _ | apply zz0 | apply below_drew | apply zz2)) hb); clear hbox hb hg) | ((with_reducible refine gate_dst (N := 10) rfl ?_); refine box_event ?hg (N := 10) ?hd (cs := #[.int .i64 0, .slice none 0 0]) (t := 30) ?hr ?_; (case hd => rfl); (case hg => rfl); (case hr => first | (go_simp; done) | (go_simp; rfl)); intro gr hg wc hbox hb; have HZc := zz31 hbox; have HXc := zz31 (zz11 HXa.out hb); have HGR := zz31 (show w.heap.size ≤ gr from by rw [hg]; exact HBa.out.size); have HBc := zz31 (zz4 HBa.out hb); have f1 := zz9 HXc.out 0; have f2 := zz9 HXc.out 1; have g1 := zz9 HZc.out 0; have g2 := zz9 HZc.out 1; have g3 := zz10 HZc.out 0; have g4 := zz10 HZc.out 1; simp only [List.getElem?_toArray, List.getElem?_cons_zero, List.getElem?_cons_succ] at f1 f2 g1 g2; clear hbox hb hg) | (go_at_call 53; (with_reducible refine (spec_paTable.calls k a0_0 A0_1 c0_1 l0_1 T wc (Kd.C_below HC.out HBc.out) HCC.out HT.out).mono ?_); rintro e wf ⟨vf, rfl, ho, hb⟩; obtain ⟨Af, cf, rfl⟩ := Kd.S_slice ho; have HSf := zz31 (Kd.S_mono (ok' := fun k => k < wf.heap.size) (Kd.S_bound ho) (fun k hk => hk.2.2.1)); have HDf := zz31 hb; have HXf := zz31 (zz11 HXc.out hb); have HZf := zz31 (zz11 HZc.out hb); have HBf := zz31 (zz4 HBc.out hb); clear f1 f2 g1 g2 g3 g4; have f1 := zz9 HXf.out 0; have f2 := zz9 HXf.out 1; have g1 := zz9 HZf.out 0; have g2 := zz9 HZf.out 1; have g3 := zz10 HZf.out 0; have g4 := zz10 HZf.out 1; simp only [List.getElem?_toArray, List.getElem?_cons_zero, List.getElem?_cons_succ] at f1 f2 g1 g2; clear ho hb; obtain ⟨ad5, rr5, cr5, eA5, hx5, hy5⟩ := bit_at (c := cf) HSQ.out (Kd.S_reads' HSf.out).2.2 a1 a2 ⟨a10, a11⟩ ⟨a20, a21⟩; subst eA5; rw [← HB5.out] at hy5; obtain ⟨ad6, rr6, cr6, eA6, hx6, hy6⟩ := bit_at (c := cf) HSQ.out (Kd.S_reads' HSf.out).2.2 a3 a4 ⟨a30, a31⟩ ⟨a40, a41⟩; injection eA6 with eA6; subst eA6; rw [← HB6.out] at hy6; obtain ⟨ad7, rr7, cr7, eA7, hx7, hy7⟩ := bit_at (c := cf) HSQ.out (Kd.S_reads' HSf.out).2.2 a1 a3 ⟨a10, a11⟩ ⟨a30, a31⟩; injection eA7 with eA7; subst eA7; rw [← HB7.out] at hy7; obtain ⟨ad8, rr8, cr8, eA8, hx8, hy8⟩ := bit_at (c := cf) HSQ.out (Kd.S_reads' HSf.out).2.2 a2 a4 ⟨a20, a21⟩ ⟨a40, a41⟩; injection eA8 with eA8; subst eA8; rw [← HB8.out] at hy8; have ez := Option.some.inj (hx5.symm.trans hx7); injection ez with ez1 ez2 ez3; injection ez1 with ez1; subst ez1; subst ez3; clear hx7 ez2; rw [← HM.out]) | (fail "no arm"))
     have HWF:=zz31 HDf.out.size
     have HPP:=HA
     clear f1 f2 g1 g2 g3 g4
     have HSm:Aside0 (Kd.S (Kd.slice 4 Kd.bool) 92 wf wc.heap.size (fun k=>k < wf.heap.size) (.slice (some ad5) m cf) T):=⟨by have h:=HSf.out;rw [← HM.out] at h;exact h⟩
     have L:=lits3 wf a1 a2 a3 a4
     generalize (((wf.alloc (.cells #[.int .i64 a1,.int .i64 a2] 3)).alloc (.cells #[.int .i64 a3,.int .i64 a4] 3)).alloc (.cells #[.slice (some ⟨wf.heap.size,0,none⟩) 2 2,.slice (some ⟨wf.heap.size+1,0,none⟩) 2 2] 40))=wl at L ⊢
     obtain ⟨lb,l1,l2,l3⟩:=L
     obtain ⟨h3,hh3⟩:∃ h3,h3=wf.heap.size+1+1:=⟨_,rfl⟩
     obtain ⟨h2,hh2⟩:∃ h2,h2=wf.heap.size+1:=⟨_,rfl⟩
     obtain ⟨h1,hh1⟩:∃ h1,h1=wf.heap.size:=⟨_,rfl⟩
     rw [← hh3] at l3 ⊢
     rw [← hh2] at l2 l3
     rw [← hh1] at l1 l3
     have HH:=zz31 (show wf.heap.size≤h1∧wf.heap.size≤h2∧wf.heap.size≤h3 from by have:=HDf.out.size;have:=HWF.out;omega)
     have HS0:=zz31 (Kd.S_below HSm.out lb)
     have HB0:=zz31 (zz4 HDf.out lb)
     have HLA0:=zz31 l1
     have HLB0:=zz31 l2
     have HLC0:=zz31 l3
     have HQ0:=HSQ
     clear lb l1 l2 l3 hh1 hh2 hh3
     go_loopg [84] 2 (fun gg v84 wr=>∃ (j:Nat) (X:List (List Bool)),j≤2∧2 - j≤gg∧v84=.int .i64 j∧Aside0 (X=stB false T ([(a1,a2),(a3,a4)].take j))∧Aside0 (sqB m X)∧Aside0 (Kd.S (Kd.slice 4 Kd.bool) 92 wr wc.heap.size (fun k=>k < wf.heap.size) (.slice (some ad5) m cf) X)∧Aside0 (Below wc.heap.size wc wr)∧Aside0 (wr.heap[h1]?=some (.cells #[.int .i64 a1,.int .i64 a2] 3 (0,0)))∧Aside0 (wr.heap[h2]?=some (.cells #[.int .i64 a3,.int .i64 a4] 3 (0,0)))∧Aside0 (wr.heap[h3]?=some (.cells #[.slice (some ⟨h1,0,none⟩) 2 2,.slice (some ⟨h2,0,none⟩) 2 2] 40 (0,0))))
     case atStart=>exact ⟨0,T,by omega,by omega,rfl,⟨rfl⟩,HQ0,HS0,HB0,HLA0,HLB0,HLC0⟩
     case round =>
      clear HQ0 HS0 HB0 HLA0 HLB0 HLC0
      obtain ⟨j,X,hj,hgj,rfl,HST,HQ0,HS0,HB0,HLA0,HLB0,HLC0⟩:=hrel
      by_cases hlt:j < 2
      ·have hltz:(j:Int) < 2:=by omega
       obtain ⟨hj0,x,y,e1,e2,e3,hx,hy,hst⟩:∃ (hj0:Nat) (x y:Int),wr.cell? ⟨h3,j,none⟩=some (.slice (some ⟨hj0,0,none⟩) 2 2)∧wr.cell? ⟨hj0,0,none⟩=some (.int .i64 x)∧wr.cell? ⟨hj0,1,none⟩=some (.int .i64 y)∧(0≤x∧x < (m:Int))∧(0≤y∧y < (m:Int))∧stB false T ([(a1,a2),(a3,a4)].take (j+1))=putB false X x y∧(hj0=h1∧x=a1∧y=a2 ∨ hj0=h2∧x=a3∧y=a4):=by
        rcases (by omega:j=0 ∨ j=1) with rfl | rfl
        ·exact ⟨h1,a1,a2,zz9 HLC0.out 0,zz9 HLA0.out 0,zz9 HLA0.out 1,HPP.out.1.1,HPP.out.1.2,by rw [HST.out];rfl,.inl ⟨rfl,rfl,rfl⟩⟩
        ·exact ⟨h2,a3,a4,zz9 HLC0.out 1,zz9 HLB0.out 0,zz9 HLB0.out 1,HPP.out.2.1,HPP.out.2.2,by rw [HST.out];rfl,.inr ⟨rfl,rfl,rfl⟩⟩
       obtain ⟨x0,x1⟩:=hx
       obtain ⟨y0,y1⟩:=hy
       obtain ⟨hst,hwho⟩:=hst
       have HSTN:=zz31 hst
       have HWHO:=zz31 hwho
       clear hst hwho
       have qx0:=eq_true x0
       have qx1:=eq_true x1
       have qy0:=eq_true y0
       have qy1:=eq_true y1
       obtain ⟨adO,vO,okO,eO,hxO,hRO,hokO,hbk⟩:=S_row HS0.out x (by omega) (by rw [HQ0.out.1];omega)
       injection eO with eO
       subst eO
       have hln:=HQ0.out.2 x (by omega) (by omega)
       obtain ⟨gO,cO,eV,gbO,glO,clO⟩:=Kd.R_form hRO (by omega)
       subst eV
       obtain ⟨hcO,hfO⟩:=Kd.R_celln false hRO y (by omega) (by omega)
       have HP:=Kd.R_putg hRO y false
       have HS1:Aside0 (Kd.S (Kd.slice 4 Kd.bool) 92 (wr.drew.setCell ⟨gO,y.toNat,none⟩ (.bool false)) wc.heap.size (fun k=>k < wf.heap.size) (.slice (some ad5) m cf) (X.set x.toNat ((rd_L4 X x).set y.toNat false))):=⟨zz17 (hbk HP.2 HP.1)⟩
       have HQ1:=zz31 (sq_set HQ0.out x y false (by omega) (by omega))
       have HgO:=zz31 (show gO < wf.heap.size from hokO gO (hRO.1 gO rfl))
       have HB1:Aside0 (Below wc.heap.size wc (wr.drew.setCell ⟨gO,y.toNat,none⟩ (.bool false))):=⟨zz3 (below_drew HB0.out) gbO⟩
       have HLA1:Aside0 ((wr.drew.setCell ⟨gO,y.toNat,none⟩ (.bool false)).heap[h1]?=some (.cells #[.int .i64 a1,.int .i64 a2] 3 (0,0))):=⟨blk_far (zz7 HLA0.out) (by have:=HgO.out;have:=HH.out;show h1 ≠ gO;omega) _⟩
       have HLB1:Aside0 ((wr.drew.setCell ⟨gO,y.toNat,none⟩ (.bool false)).heap[h2]?=some (.cells #[.int .i64 a3,.int .i64 a4] 3 (0,0))):=⟨blk_far (zz7 HLB0.out) (by have:=HgO.out;have:=HH.out;show h2 ≠ gO;omega) _⟩
       have HLC1:Aside0 ((wr.drew.setCell ⟨gO,y.toNat,none⟩ (.bool false)).heap[h3]?=some (.cells #[.slice (some ⟨h1,0,none⟩) 2 2,.slice (some ⟨h2,0,none⟩) 2 2] 40 (0,0))):=⟨blk_far (zz7 HLC0.out) (by have:=HgO.out;have:=HH.out;show h3 ≠ gO;omega) _⟩
       rw [hln] at hxO
       clear hRO hbk HP hokO gbO glO clO hln
       go_upto_region 7 with (fail)
       go_still_tail 10,(by kernel_rfl)
       change wpList _ _ _ _ _ wr.drew
       have hcO2:wr.drew.cell? ⟨gO,y.toNat,none⟩=some (.bool (rdOf false (rd_L4 X x) y)):=hcO
       have hfO2:wr.drew.frozen? ⟨gO,y.toNat,none⟩=false:=hfO
       clear hcO hfO hxO e2 e3
       generalize wr.drew=wd1 at HS1 HB1 HLA1 HLB1 HLC1 hcO2 hfO2 ⊢
       go_upto_region 8 with (fail)
       generalize hw2:wd1.setCell ⟨gO,y.toNat,none⟩ (.bool false)=w2 at HS1 HB1 HLA1 HLB1 HLC1 ⊢
       clear hw2 hcO2 hfO2 HgO
       have ee:w2.cell? ⟨hj0,0,none⟩=some (.int .i64 x)∧w2.cell? ⟨hj0,1,none⟩=some (.int .i64 y):=by
        rcases HWHO.out with ⟨q1,q2,q3⟩ | ⟨q1,q2,q3⟩
        ·rw [q1,q2,q3];exact ⟨zz9 HLA1.out 0,zz9 HLA1.out 1⟩
        ·rw [q1,q2,q3];exact ⟨zz9 HLB1.out 0,zz9 HLB1.out 1⟩
       obtain ⟨e2,e3⟩:=ee
       obtain ⟨X1,hX1⟩:∃ X1,X1=X.set x.toNat ((rd_L4 X x).set y.toNat false):=⟨_,rfl⟩
       rw [← hX1] at HS1 HQ1
       have HX1:=zz31 hX1
       clear hX1
       obtain ⟨adO,vO,okO,eO,hxO,hRO,hokO,hbk⟩:=S_row HS1.out y (by omega) (by rw [HQ1.out.1];omega)
       injection eO with eO
       subst eO
       have hln:=HQ1.out.2 y (by omega) (by omega)
       obtain ⟨gO,cO,eV,gbO,glO,clO⟩:=Kd.R_form hRO (by omega)
       subst eV
       obtain ⟨hcO,hfO⟩:=Kd.R_celln false hRO x (by omega) (by omega)
       have HP:=Kd.R_putg hRO x false
       have HS2:Aside0 (Kd.S (Kd.slice 4 Kd.bool) 92 (w2.drew.setCell ⟨gO,x.toNat,none⟩ (.bool false)) wc.heap.size (fun k=>k < wf.heap.size) (.slice (some ad5) m cf) (X1.set y.toNat ((rd_L4 X1 y).set x.toNat false))):=⟨zz17 (hbk HP.2 HP.1)⟩
       have HQ2:=zz31 (sq_set HQ1.out y x false (by omega) (by omega))
       have HgO:=zz31 (show gO < wf.heap.size from hokO gO (hRO.1 gO rfl))
       have HB2:Aside0 (Below wc.heap.size wc (w2.drew.setCell ⟨gO,x.toNat,none⟩ (.bool false))):=⟨zz3 (below_drew HB1.out) gbO⟩
       have HLA2:Aside0 ((w2.drew.setCell ⟨gO,x.toNat,none⟩ (.bool false)).heap[h1]?=some (.cells #[.int .i64 a1,.int .i64 a2] 3 (0,0))):=⟨blk_far (zz7 HLA1.out) (by have:=HgO.out;have:=HH.out;show h1 ≠ gO;omega) _⟩
       have HLB2:Aside0 ((w2.drew.setCell ⟨gO,x.toNat,none⟩ (.bool false)).heap[h2]?=some (.cells #[.int .i64 a3,.int .i64 a4] 3 (0,0))):=⟨blk_far (zz7 HLB1.out) (by have:=HgO.out;have:=HH.out;show h2 ≠ gO;omega) _⟩
       have HLC2:Aside0 ((w2.drew.setCell ⟨gO,x.toNat,none⟩ (.bool false)).heap[h3]?=some (.cells #[.slice (some ⟨h1,0,none⟩) 2 2,.slice (some ⟨h2,0,none⟩) 2 2] 40 (0,0))):=⟨blk_far (zz7 HLC1.out) (by have:=HgO.out;have:=HH.out;show h3 ≠ gO;omega) _⟩
       rw [hln] at hxO
       clear hRO hbk HP hokO gbO glO clO hln
       go_upto_region 8 with (fail)
       go_still_tail 10,(by kernel_rfl)
       change wpList _ _ _ _ _ w2.drew
       have hcO2:w2.drew.cell? ⟨gO,x.toNat,none⟩=some (.bool (rdOf false (rd_L4 X1 y) x)):=hcO
       have hfO2:w2.drew.frozen? ⟨gO,x.toNat,none⟩=false:=hfO
       clear hcO hfO hxO e2 e3
       generalize w2.drew=wd2 at HS2 HB2 HLA2 HLB2 HLC2 hcO2 hfO2 ⊢
       go_wp2
       go_roundg (2 - (j+1))
       case measure=>omega
       case rel=>exact ⟨j+1,putB false X x y,by omega,by omega,by go_num,⟨HSTN.out.symm⟩,⟨by unfold putB;rw [← HX1.out];exact HQ2.out⟩,⟨by unfold putB;rw [← HX1.out];(with_reducible repeat (first | apply zz16 | apply zz17));exact HS2.out⟩,⟨by repeat (first | exact HB2.out | apply zz0 | apply below_drew)⟩,⟨by (with_reducible repeat (first | refine zz6 ?_ _ | refine zz7 ?_));exact HLA2.out⟩,⟨by (with_reducible repeat (first | refine zz6 ?_ _ | refine zz7 ?_));exact HLB2.out⟩,⟨by (with_reducible repeat (first | refine zz6 ?_ _ | refine zz7 ?_));exact HLC2.out⟩⟩
      ·have hltz:¬ (j:Int) < 2:=by omega
       obtain rfl:j=2:=by omega
       replace HST:Aside0 (X=stB false T [(a1,a2),(a3,a4)]):=HST
       have HWF9:=zz31 (show wf.heap.size≤wr.heap.size from by have:=HH.out;have:=blk_lt HLA0.out;omega)
       clear HLA0 HLB0 HLC0
       go_wp2
       have HS9:=HS0
       have HQ9:=HQ0
       have HB9:=HB0
       clear HS0 HQ0 HB0 HH HPP
       have L:=lits3 wr a1 a3 a2 a4
       generalize (((wr.alloc (.cells #[.int .i64 a1,.int .i64 a3] 3)).alloc (.cells #[.int .i64 a2,.int .i64 a4] 3)).alloc (.cells #[.slice (some ⟨wr.heap.size,0,none⟩) 2 2,.slice (some ⟨wr.heap.size+1,0,none⟩) 2 2] 40))=wl at L ⊢
       obtain ⟨lb,l1,l2,l3⟩:=L
       obtain ⟨h3,hh3⟩:∃ h3,h3=wr.heap.size+1+1:=⟨_,rfl⟩
       obtain ⟨h2,hh2⟩:∃ h2,h2=wr.heap.size+1:=⟨_,rfl⟩
       obtain ⟨h1,hh1⟩:∃ h1,h1=wr.heap.size:=⟨_,rfl⟩
       rw [← hh3] at l3 ⊢
       rw [← hh2] at l2 l3
       rw [← hh1] at l1 l3
       have HH:=zz31 (show wf.heap.size≤h1∧wf.heap.size≤h2∧wf.heap.size≤h3 from by have:=HB9.out.size;have:=HWF9.out;omega)
       have HS0:=zz31 (Kd.S_below HS9.out lb)
       have HB0:=zz31 (zz4 HB9.out lb)
       have HLA0:=zz31 l1
       have HLB0:=zz31 l2
       have HLC0:=zz31 l3
       have HQ0:=HQ9
       clear lb l1 l2 l3 hh1 hh2 hh3
       have HX0:=HST
       clear HST
       obtain ⟨XT,hXT⟩:∃ XT,XT=X:=⟨_,rfl⟩
       have HPP:=zz31 (show ((0≤a1∧a1 < (m:Int))∧0≤a3∧a3 < (m:Int))∧(0≤a2∧a2 < (m:Int))∧0≤a4∧a4 < (m:Int) from ⟨⟨HA.out.1.1,HA.out.2.1⟩,HA.out.1.2,HA.out.2.2⟩)
       have HOF:=HOF
       rw [← HX0.out,← hXT] at HOF
       rw [← hXT] at HS0 HQ0
       clear HX0 hXT
       go_loopg [117] 2 (fun gg v117 wr=>∃ (j:Nat) (X:List (List Bool)),j≤2∧2 - j≤gg∧v117=.int .i64 j∧Aside0 (X=stB true XT ([(a1,a3),(a2,a4)].take j))∧Aside0 (sqB m X)∧Aside0 (Kd.S (Kd.slice 4 Kd.bool) 92 wr wc.heap.size (fun k=>k < wf.heap.size) (.slice (some ad5) m cf) X)∧Aside0 (Below wc.heap.size wc wr)∧Aside0 (wr.heap[h1]?=some (.cells #[.int .i64 a1,.int .i64 a3] 3 (0,0)))∧Aside0 (wr.heap[h2]?=some (.cells #[.int .i64 a2,.int .i64 a4] 3 (0,0)))∧Aside0 (wr.heap[h3]?=some (.cells #[.slice (some ⟨h1,0,none⟩) 2 2,.slice (some ⟨h2,0,none⟩) 2 2] 40 (0,0))))
       case atStart=>exact ⟨0,XT,by omega,by omega,rfl,⟨rfl⟩,HQ0,HS0,HB0,HLA0,HLB0,HLC0⟩
       case round =>
        clear HQ0 HS0 HB0 HLA0 HLB0 HLC0
        obtain ⟨j,X,hj,hgj,rfl,HST,HQ0,HS0,HB0,HLA0,HLB0,HLC0⟩:=hrel
        by_cases hlt:j < 2
        ·have hltz:(j:Int) < 2:=by omega
         obtain ⟨hj0,x,y,e1,e2,e3,hx,hy,hst⟩:∃ (hj0:Nat) (x y:Int),wr.cell? ⟨h3,j,none⟩=some (.slice (some ⟨hj0,0,none⟩) 2 2)∧wr.cell? ⟨hj0,0,none⟩=some (.int .i64 x)∧wr.cell? ⟨hj0,1,none⟩=some (.int .i64 y)∧(0≤x∧x < (m:Int))∧(0≤y∧y < (m:Int))∧stB true XT ([(a1,a3),(a2,a4)].take (j+1))=putB true X x y∧(hj0=h1∧x=a1∧y=a3 ∨ hj0=h2∧x=a2∧y=a4):=by
          rcases (by omega:j=0 ∨ j=1) with rfl | rfl
          ·exact ⟨h1,a1,a3,zz9 HLC0.out 0,zz9 HLA0.out 0,zz9 HLA0.out 1,HPP.out.1.1,HPP.out.1.2,by rw [HST.out];rfl,.inl ⟨rfl,rfl,rfl⟩⟩
          ·exact ⟨h2,a2,a4,zz9 HLC0.out 1,zz9 HLB0.out 0,zz9 HLB0.out 1,HPP.out.2.1,HPP.out.2.2,by rw [HST.out];rfl,.inr ⟨rfl,rfl,rfl⟩⟩
         obtain ⟨x0,x1⟩:=hx
         obtain ⟨y0,y1⟩:=hy
         obtain ⟨hst,hwho⟩:=hst
         have HSTN:=zz31 hst
         have HWHO:=zz31 hwho
         clear hst hwho
         have qx0:=eq_true x0
         have qx1:=eq_true x1
         have qy0:=eq_true y0
         have qy1:=eq_true y1
         obtain ⟨adO,vO,okO,eO,hxO,hRO,hokO,hbk⟩:=S_row HS0.out x (by omega) (by rw [HQ0.out.1];omega)
         injection eO with eO
         subst eO
         have hln:=HQ0.out.2 x (by omega) (by omega)
         obtain ⟨gO,cO,eV,gbO,glO,clO⟩:=Kd.R_form hRO (by omega)
         subst eV
         obtain ⟨hcO,hfO⟩:=Kd.R_celln false hRO y (by omega) (by omega)
         have HP:=Kd.R_putg hRO y true
         have HS1:Aside0 (Kd.S (Kd.slice 4 Kd.bool) 92 (wr.drew.setCell ⟨gO,y.toNat,none⟩ (.bool true)) wc.heap.size (fun k=>k < wf.heap.size) (.slice (some ad5) m cf) (X.set x.toNat ((rd_L4 X x).set y.toNat true))):=⟨zz17 (hbk HP.2 HP.1)⟩
         have HQ1:=zz31 (sq_set HQ0.out x y true (by omega) (by omega))
         have HgO:=zz31 (show gO < wf.heap.size from hokO gO (hRO.1 gO rfl))
         have HB1:Aside0 (Below wc.heap.size wc (wr.drew.setCell ⟨gO,y.toNat,none⟩ (.bool true))):=⟨zz3 (below_drew HB0.out) gbO⟩
         have HLA1:Aside0 ((wr.drew.setCell ⟨gO,y.toNat,none⟩ (.bool true)).heap[h1]?=some (.cells #[.int .i64 a1,.int .i64 a3] 3 (0,0))):=⟨blk_far (zz7 HLA0.out) (by have:=HgO.out;have:=HH.out;show h1 ≠ gO;omega) _⟩
         have HLB1:Aside0 ((wr.drew.setCell ⟨gO,y.toNat,none⟩ (.bool true)).heap[h2]?=some (.cells #[.int .i64 a2,.int .i64 a4] 3 (0,0))):=⟨blk_far (zz7 HLB0.out) (by have:=HgO.out;have:=HH.out;show h2 ≠ gO;omega) _⟩
         have HLC1:Aside0 ((wr.drew.setCell ⟨gO,y.toNat,none⟩ (.bool true)).heap[h3]?=some (.cells #[.slice (some ⟨h1,0,none⟩) 2 2,.slice (some ⟨h2,0,none⟩) 2 2] 40 (0,0))):=⟨blk_far (zz7 HLC0.out) (by have:=HgO.out;have:=HH.out;show h3 ≠ gO;omega) _⟩
         rw [hln] at hxO
         clear hRO hbk HP hokO gbO glO clO hln
         go_upto_region 13 with (fail)
         go_still_tail 10,(by kernel_rfl)
         change wpList _ _ _ _ _ wr.drew
         have hcO2:wr.drew.cell? ⟨gO,y.toNat,none⟩=some (.bool (rdOf false (rd_L4 X x) y)):=hcO
         have hfO2:wr.drew.frozen? ⟨gO,y.toNat,none⟩=false:=hfO
         clear hcO hfO hxO e2 e3
         generalize wr.drew=wd1 at HS1 HB1 HLA1 HLB1 HLC1 hcO2 hfO2 ⊢
         go_upto_region 14 with (fail)
         generalize hw2:wd1.setCell ⟨gO,y.toNat,none⟩ (.bool true)=w2 at HS1 HB1 HLA1 HLB1 HLC1 ⊢
         clear hw2 hcO2 hfO2 HgO
         have ee:w2.cell? ⟨hj0,0,none⟩=some (.int .i64 x)∧w2.cell? ⟨hj0,1,none⟩=some (.int .i64 y):=by
          rcases HWHO.out with ⟨q1,q2,q3⟩ | ⟨q1,q2,q3⟩
          ·rw [q1,q2,q3];exact ⟨zz9 HLA1.out 0,zz9 HLA1.out 1⟩
          ·rw [q1,q2,q3];exact ⟨zz9 HLB1.out 0,zz9 HLB1.out 1⟩
         obtain ⟨e2,e3⟩:=ee
         obtain ⟨X1,hX1⟩:∃ X1,X1=X.set x.toNat ((rd_L4 X x).set y.toNat true):=⟨_,rfl⟩
         rw [← hX1] at HS1 HQ1
         have HX1:=zz31 hX1
         clear hX1
         obtain ⟨adO,vO,okO,eO,hxO,hRO,hokO,hbk⟩:=S_row HS1.out y (by omega) (by rw [HQ1.out.1];omega)
         injection eO with eO
         subst eO
         have hln:=HQ1.out.2 y (by omega) (by omega)
         obtain ⟨gO,cO,eV,gbO,glO,clO⟩:=Kd.R_form hRO (by omega)
         subst eV
         obtain ⟨hcO,hfO⟩:=Kd.R_celln false hRO x (by omega) (by omega)
         have HP:=Kd.R_putg hRO x true
         have HS2:Aside0 (Kd.S (Kd.slice 4 Kd.bool) 92 (w2.drew.setCell ⟨gO,x.toNat,none⟩ (.bool true)) wc.heap.size (fun k=>k < wf.heap.size) (.slice (some ad5) m cf) (X1.set y.toNat ((rd_L4 X1 y).set x.toNat true))):=⟨zz17 (hbk HP.2 HP.1)⟩
         have HQ2:=zz31 (sq_set HQ1.out y x true (by omega) (by omega))
         have HgO:=zz31 (show gO < wf.heap.size from hokO gO (hRO.1 gO rfl))
         have HB2:Aside0 (Below wc.heap.size wc (w2.drew.setCell ⟨gO,x.toNat,none⟩ (.bool true))):=⟨zz3 (below_drew HB1.out) gbO⟩
         have HLA2:Aside0 ((w2.drew.setCell ⟨gO,x.toNat,none⟩ (.bool true)).heap[h1]?=some (.cells #[.int .i64 a1,.int .i64 a3] 3 (0,0))):=⟨blk_far (zz7 HLA1.out) (by have:=HgO.out;have:=HH.out;show h1 ≠ gO;omega) _⟩
         have HLB2:Aside0 ((w2.drew.setCell ⟨gO,x.toNat,none⟩ (.bool true)).heap[h2]?=some (.cells #[.int .i64 a2,.int .i64 a4] 3 (0,0))):=⟨blk_far (zz7 HLB1.out) (by have:=HgO.out;have:=HH.out;show h2 ≠ gO;omega) _⟩
         have HLC2:Aside0 ((w2.drew.setCell ⟨gO,x.toNat,none⟩ (.bool true)).heap[h3]?=some (.cells #[.slice (some ⟨h1,0,none⟩) 2 2,.slice (some ⟨h2,0,none⟩) 2 2] 40 (0,0))):=⟨blk_far (zz7 HLC1.out) (by have:=HgO.out;have:=HH.out;show h3 ≠ gO;omega) _⟩
         rw [hln] at hxO
         clear hRO hbk HP hokO gbO glO clO hln
         go_upto_region 14 with (fail)
         go_still_tail 10,(by kernel_rfl)
         change wpList _ _ _ _ _ w2.drew
         have hcO2:w2.drew.cell? ⟨gO,x.toNat,none⟩=some (.bool (rdOf false (rd_L4 X1 y) x)):=hcO
         have hfO2:w2.drew.frozen? ⟨gO,x.toNat,none⟩=false:=hfO
         clear hcO hfO hxO e2 e3
         generalize w2.drew=wd2 at HS2 HB2 HLA2 HLB2 HLC2 hcO2 hfO2 ⊢
         go_wp2
         go_roundg (2 - (j+1))
         case measure=>omega
         case rel=>exact ⟨j+1,putB true X x y,by omega,by omega,by go_num,⟨HSTN.out.symm⟩,⟨by unfold putB;rw [← HX1.out];exact HQ2.out⟩,⟨by unfold putB;rw [← HX1.out];(with_reducible repeat (first | apply zz16 | apply zz17));exact HS2.out⟩,⟨by repeat (first | exact HB2.out | apply zz0 | apply below_drew)⟩,⟨by (with_reducible repeat (first | refine zz6 ?_ _ | refine zz7 ?_));exact HLA2.out⟩,⟨by (with_reducible repeat (first | refine zz6 ?_ _ | refine zz7 ?_));exact HLB2.out⟩,⟨by (with_reducible repeat (first | refine zz6 ?_ _ | refine zz7 ?_));exact HLC2.out⟩⟩
        ·have hltz:¬ (j:Int) < 2:=by omega
         obtain rfl:j=2:=by omega
         replace HST:Aside0 (X=stB true XT [(a1,a3),(a2,a4)]):=HST
         have HWF9:=zz31 (show wf.heap.size≤wr.heap.size from by have:=HH.out;have:=blk_lt HLA0.out;omega)
         clear HLA0 HLB0 HLC0
         have HZr:=zz31 (zz11 HZc.out HB0.out)
         have HBw:Aside0 (Below w.heap.size w wr):=⟨HBc.out.trans (HB0.out.mono HBc.out.size)⟩
         have HCO:=zz31 (Kd.S_reads' HS0.out).2.2
         have HCc:=zz31 (Kd.S_reads' HS0.out).2.1
         have HLN:=zz31 HQ0.out.1
         have HCc2:=zz31 (show X.length≤cf from by rw [HLN.out];exact HCc.out)
         rw [← HST.out] at HOF
         go_wp2_with (first | (go_at_call 87; rw [← HLN.out]; refine (spec_paOf.calls k (some ad5) cf X s1 s2 _ ?_ HCc2.out HOF.out).mono ?_; (repeat (first | exact HCO.out | (with_reducible refine zz19 ?_ _) | (with_reducible refine zz20 ?_))); rintro e' w6 ⟨v6, rfl, ho, hb⟩; obtain ⟨A6, c6, rfl⟩ := Kd.R_slice ho; have HR6 := zz31 (Kd.R_lower ho HBw.out.size); have HB6 := zz31 (zz4 HBw.out hb); have HY6 := zz31 (zz11 HZr.out hb); have g1 := zz9 HY6.out 0; have g2 := zz9 HY6.out 1; have g3 := zz10 HY6.out 0; have g4 := zz10 HY6.out 1; simp only [List.getElem?_toArray, List.getElem?_cons_zero, List.getElem?_cons_succ] at g1 g2; clear ho hb) | (fail "no arm"))
         refine bodyPost_ret (results_ct rfl _ _ gr 30 #[.int .i64 s1,.slice A6 s2.length c6] (0,0) _ rfl (by (with_reducible repeat (first | refine zz6 ?_ _ | refine zz7 ?_));refine blk_put (cs:=#[.int .i64 s1,.slice none 0 0]) ?_ 1 _ rfl;refine blk_put (cs:=#[.int .i64 0,.slice none 0 0]) ?_ 0 _ rfl;(with_reducible repeat (first | refine zz6 ?_ _ | refine zz7 ?_));exact HY6.out) Try.underlying30 rfl (by kernel_rfl)) rfl ?_
         exact ⟨_,rfl,by (with_reducible repeat (first | apply zz13 | apply zz14));exact Kd.R_mono (Kd.R_far (p:=⟨gr,1,none⟩) (Kd.R_far (p:=⟨gr,0,none⟩) (Kd.R_types HR6.out HY6.out (by decide)) (fun _ hk=>hk.2) (.int .i64 s1)) (fun _ hk=>hk.2) (.slice A6 s2.length c6)) (fun _ hk=>trivial),by repeat first | exact HB6.out | apply zz0 | apply below_drew | refine zz3 ?_ HGR.out⟩

/-! ### spec_ExchangePairs: function 36 -/
def spec_ExchangePairs.f (k:Nat) (a0_0:Int) (l0_1:List (S80)) (a1:Int) (a2:Int) (a3:Int) (a4:Int):Option (Int × (List (S80)) × Bool):=(spec_paTwo.f k a0_0 l0_1 a1 a2).bind fun t710=>(if t710=true then ((spec_paTwo.f k a0_0 l0_1 a3 a4).bind fun t711=>(if t711=true then ((spec_deExchange.f k a0_0 l0_1 a1 a2 a3 a4).bind fun bt712=>(some (bt712.1,bt712.2.1,bt712.2.2))) else (some (0,([]:List (S80)),false)))) else (some (0,([]:List (S80)),false)))
theorem spec_ExchangePairs.mono:∀ a0 a1 a2 a3 a4 a5 k,LeO (spec_ExchangePairs.f k a0 a1 a2 a3 a4 a5) (spec_ExchangePairs.f (k+1) a0 a1 a2 a3 a4 a5):=by
 intro a0 a1 a2 a3 a4 a5 k
 unfold spec_ExchangePairs.f
 repeat' first
   | (with_reducible exact spec_deExchange.mono _ _ _ _ _ _ _)
   | (with_reducible exact spec_paTwo.mono _ _ _ _ _)
   | (with_reducible exact LeO.refl _)
   | (with_reducible exact LeO.none _)
   | (with_reducible refine LeO.ite ?_ ?_)
   | (with_reducible refine LeO.bind ?_ (fun _=>?_))
   | exact spec_deExchange.mono _ _ _ _ _ _ _
   | exact spec_paTwo.mono _ _ _ _ _
   | exact LeO.none _
   | refine LeO.ite ?_ ?_
   | refine LeO.bind ?_ (fun _=>?_)
set_option maxHeartbeats 8000000 in
set_option maxRecDepth 100000 in
theorem spec_ExchangePairs.calls (k:Nat) (a0_0:Int) (A0_1:Option Addr) (c0_1:Nat) (l0_1:List (S80)) (a1:Int) (a2:Int) (a3:Int) (a4:Int) (r1:Int) (r2:List (S80)) (r3:Bool) (w:World) (hr0_1:Kd.C k80 w A0_1 l0_1.length l0_1) (hc0_1:l0_1.length≤c0_1) (h:spec_ExchangePairs.f k a0_0 l0_1 a1 a2 a3 a4=some (r1,r2,r3)) :
  Calls Try.prog 36 #[.agg #[.int .i64 a0_0,.slice A0_1 l0_1.length c0_1],.int .i64 a1,.int .i64 a2,.int .i64 a3,.int .i64 a4] w fun e w'=>∃ v1_:Value,e=.returned (.tuple #[.agg #[.int .i64 r1,v1_],.bool r3])∧Kd.R k80 80 w' w.heap.size (fun _=>True) v1_ r2∧Below w.heap.size w w':=by
 have hu30:=Try.underlying30
 have HR0_1:=zz31 hr0_1
 have HC0_1:=zz31 hc0_1
 clear hr0_1 hc0_1
 have HB:=zz31 (Below.refl w.heap.size w)
 have H:((spec_paTwo.f k a0_0 l0_1 a1 a2).bind fun t710=>(if t710=true then ((spec_paTwo.f k a0_0 l0_1 a3 a4).bind fun t711=>(if t711=true then ((spec_deExchange.f k a0_0 l0_1 a1 a2 a3 a4).bind fun bt712=>(some (bt712.1,bt712.2.1,bt712.2.2))) else (some (0,([]:List (S80)),false)))) else (some (0,([]:List (S80)),false))))=some (r1,r2,r3):=h
 clear h
 replace H:=zz30.mp H
 obtain ⟨t710,A60,H⟩:=H
 replace H:(if t710=true then ((spec_paTwo.f k a0_0 l0_1 a3 a4).bind fun t711=>(if t711=true then ((spec_deExchange.f k a0_0 l0_1 a1 a2 a3 a4).bind fun bt712=>(some (bt712.1,bt712.2.1,bt712.2.2))) else (some (0,([]:List (S80)),false)))) else (some (0,([]:List (S80)),false)))=some (r1,r2,r3):=H
 have A6:=zz31 A60
 clear A60
 by_cases c7:t710=true
 ·subst c7
  have H1:((spec_paTwo.f k a0_0 l0_1 a3 a4).bind fun t711=>(if t711=true then ((spec_deExchange.f k a0_0 l0_1 a1 a2 a3 a4).bind fun bt712=>(some (bt712.1,bt712.2.1,bt712.2.2))) else (some (0,([]:List (S80)),false))))=some (r1,r2,r3):=by rw [if_pos rfl] at H;exact H
  clear H
  have H:=H1
  clear H1
  replace H:=zz30.mp H
  obtain ⟨t711,A80,H⟩:=H
  replace H:(if t711=true then ((spec_deExchange.f k a0_0 l0_1 a1 a2 a3 a4).bind fun bt712=>(some (bt712.1,bt712.2.1,bt712.2.2))) else (some (0,([]:List (S80)),false)))=some (r1,r2,r3):=H
  have A8:=zz31 A80
  clear A80
  by_cases c9:t711=true
  ·subst c9
   have H1:((spec_deExchange.f k a0_0 l0_1 a1 a2 a3 a4).bind fun bt712=>(some (bt712.1,bt712.2.1,bt712.2.2)))=some (r1,r2,r3):=by rw [if_pos rfl] at H;exact H
   clear H
   have H:=H1
   clear H1
   replace H:=zz30.mp H
   obtain ⟨⟨t712,t713,t716⟩,A100,H⟩:=H
   replace H:(some (t712,t713,t716))=some (r1,r2,r3):=H
   have A10:=zz31 A100
   clear A100
   simp only [Option.some.injEq,Prod.mk.injEq] at H
   obtain ⟨rfl,rfl,rfl⟩:=H
   go_enter Try.func36,Try.ntmps36
   go_wp2_with (first | ((with_reducible refine gate_dst (N:=5) rfl ?_);refine box_event ?hg (N:=5) ?hd (cs:=#[.int .i64 a0_0,.slice A0_1 l0_1.length c0_1]) (t:=30) ?hr ?_;(case hd=>rfl);(case hg=>rfl);(case hr=>first | (go_simp;done) | (go_simp;rfl));intro gb708 hg w11 hbox hb;have n0_:=zz31 (zz4 (by repeat first | exact HB.out | apply zz2 | apply zz0 | apply zz1) hb);have n1_:=zz31 (hbox);have n2_:=zz31 ((by rw [hg];exact (zz5 (by repeat first | exact HB.out | apply zz2 | apply zz0 | apply zz1)):w.heap.size≤gb708));have n3_:=zz31 ((by rw [hg];exact (zz5 (by repeat first | exact HB.out | apply zz2 | apply zz0 | apply zz1)):w.heap.size≤gb708));clear HB;have HB:=n0_;have BK708:=n1_;have GW708:=n2_;have GE708:=n3_;clear n0_ n1_ n2_ n3_;clear hb hbox hg) | ((with_reducible refine gate_dst (N:=10) rfl ?_);refine box_event ?hg (N:=10) ?hd (cs:=#[.int .i64 0,.slice none 0 0]) (t:=30) ?hr ?_;(case hd=>rfl);(case hg=>rfl);(case hr=>first | (go_simp;done) | (go_simp;rfl));intro gb709 hg w12 hbox hb;have n0_:=zz31 (zz11 (g:=gb708) (o:=.cells #[.int .i64 a0_0,.slice A0_1 l0_1.length c0_1] 30 (0,0)) (by (with_reducible repeat (first | refine zz6 ?_ _ | refine zz7 ?_ | refine zz8 ?_ _));exact BK708.out) hb);have n1_:=zz31 (zz4 (by repeat first | exact HB.out | apply zz2 | apply zz0 | apply zz1 | refine zz3 ?_ GE708.out) hb);have n2_:=zz31 (hbox);have n3_:=zz31 ((by rw [hg];exact (zz5 (by repeat first | exact HB.out | apply zz2 | apply zz0 | apply zz1 | refine zz3 ?_ GE708.out)):w.heap.size≤gb709));have n4_:=zz31 ((by rw [hg];exact (zz5 (by repeat first | exact HB.out | apply zz2 | apply zz0 | apply zz1 | refine zz3 ?_ GE708.out)):w.heap.size≤gb709));have n5_:=zz31 ((by rw [hg];exact Nat.ne_of_lt (blk_lt (g:=gb708) (o:=.cells #[.int .i64 a0_0,.slice A0_1 l0_1.length c0_1] 30 (0,0)) (by (with_reducible repeat (first | refine zz6 ?_ _ | refine zz7 ?_ | refine zz8 ?_ _));exact BK708.out)):gb708 ≠ gb709));have n6_:=zz31 ((by rw [hg];exact Nat.ne_of_gt (blk_lt (g:=gb708) (o:=.cells #[.int .i64 a0_0,.slice A0_1 l0_1.length c0_1] 30 (0,0)) (by (with_reducible repeat (first | refine zz6 ?_ _ | refine zz7 ?_ | refine zz8 ?_ _));exact BK708.out)):gb709 ≠ gb708));clear BK708;clear HB;have BK708:=n0_;have HB:=n1_;have BK709:=n2_;have GW709:=n3_;have GE709:=n4_;have NB708_709:=n5_;have NB709_708:=n6_;clear n0_ n1_ n2_ n3_ n4_ n5_ n6_;clear hb hbox hg;have hnb13:=NB708_709.out;have hnc13:=NB709_708.out;have hcz14_0:w12.cell? ⟨gb708,0,none⟩=some (.int .i64 a0_0):=(zz9 BK708.out 0).trans rfl;have hcz14_1:w12.cell? ⟨gb708,1,none⟩=some (.slice A0_1 l0_1.length c0_1):=(zz9 BK708.out 1).trans rfl;have hfz14_0:=zz10 BK708.out 0;have hfz14_1:=zz10 BK708.out 1) | ((with_reducible refine gate_callee (f:=71) rfl ?_);refine goesL_ (some 15) rfl rfl Try.func71 (by kernel_rfl) rfl #[.agg #[.int .i64 a0_0,.slice A0_1 l0_1.length c0_1],.int .i64 a1,.int .i64 a2] rfl (by (try simp only [zz26,zz27,zz28]);first | done | rfl | (simp only [zz24,zz25];rfl)) ?_;(with_reducible refine (spec_paTwo.calls k a0_0 _ _ l0_1 a1 a2 true _ ?side1 ?side2 A6.out).mono ?_);(case side1=>repeat (first | exact (Kd.C_below HR0_1.out HB.out) | (with_reducible refine zz18 ?_ _) | (with_reducible refine zz19 ?_ _) | (with_reducible refine zz20 ?_)));(case side2=>exact HC0_1.out);rintro e w15 ⟨rfl,hb⟩;refine ⟨_,rfl,?_⟩;have n0_:=zz31 (zz11 (g:=gb708) (o:=.cells #[.int .i64 a0_0,.slice A0_1 l0_1.length c0_1] 30 (0,0)) (by (with_reducible repeat (first | refine zz6 ?_ _ | refine zz7 ?_ | refine zz8 ?_ _));exact BK708.out) hb);have n1_:=zz31 (zz11 (g:=gb709) (o:=.cells #[.int .i64 0,.slice none 0 0] 30 (0,0)) (by (with_reducible repeat (first | refine zz6 ?_ _ | refine zz7 ?_ | refine zz8 ?_ _));exact BK709.out) hb);have n2_:=zz31 (zz4 (by repeat first | exact HB.out | apply zz2 | apply zz0 | apply zz1 | refine zz3 ?_ GE708.out | refine zz3 ?_ GE709.out) hb);clear BK708;clear BK709;clear HB;have BK708:=n0_;have BK709:=n1_;have HB:=n2_;clear n0_ n1_ n2_;(try clear hb);(try clear hb2);(try clear hk);(try clear hi);have hcz16_0:w15.cell? ⟨gb708,0,none⟩=some (.int .i64 a0_0):=(zz9 BK708.out 0).trans rfl;have hcz16_1:w15.cell? ⟨gb708,1,none⟩=some (.slice A0_1 l0_1.length c0_1):=(zz9 BK708.out 1).trans rfl;have hfz16_0:=zz10 BK708.out 0;have hfz16_1:=zz10 BK708.out 1) | (go_at_call 71;(with_reducible refine (spec_paTwo.calls k a0_0 _ _ l0_1 a3 a4 true _ ?side1 ?side2 A8.out).mono ?_);(case side1=>repeat (first | exact (Kd.C_below HR0_1.out HB.out) | (with_reducible refine zz18 ?_ _) | (with_reducible refine zz19 ?_ _) | (with_reducible refine zz20 ?_)));(case side2=>exact HC0_1.out);rintro e w17 ⟨rfl,hb⟩;have n0_:=zz31 (zz11 (g:=gb708) (o:=.cells #[.int .i64 a0_0,.slice A0_1 l0_1.length c0_1] 30 (0,0)) (by (with_reducible repeat (first | refine zz6 ?_ _ | refine zz7 ?_ | refine zz8 ?_ _));exact BK708.out) hb);have n1_:=zz31 (zz11 (g:=gb709) (o:=.cells #[.int .i64 0,.slice none 0 0] 30 (0,0)) (by (with_reducible repeat (first | refine zz6 ?_ _ | refine zz7 ?_ | refine zz8 ?_ _));exact BK709.out) hb);have n2_:=zz31 (zz4 (by repeat first | exact HB.out | apply zz2 | apply zz0 | apply zz1 | refine zz3 ?_ GE708.out | refine zz3 ?_ GE709.out) hb);clear BK708;clear BK709;clear HB;have BK708:=n0_;have BK709:=n1_;have HB:=n2_;clear n0_ n1_ n2_;(try clear hb);(try clear hb2);(try clear hk);(try clear hi);have hcz18_0:w17.cell? ⟨gb708,0,none⟩=some (.int .i64 a0_0):=(zz9 BK708.out 0).trans rfl;have hcz18_1:w17.cell? ⟨gb708,1,none⟩=some (.slice A0_1 l0_1.length c0_1):=(zz9 BK708.out 1).trans rfl;have hfz18_0:=zz10 BK708.out 0;have hfz18_1:=zz10 BK708.out 1) | ((with_reducible refine gate_callee (f:=72) rfl ?_);refine goesL_ (some 30) rfl rfl Try.func72 (by kernel_rfl) rfl #[.agg #[.int .i64 a0_0,.slice A0_1 l0_1.length c0_1],.int .i64 a1,.int .i64 a2,.int .i64 a3,.int .i64 a4] rfl (by (try simp only [zz26,zz27,zz28]);first | done | rfl | (simp only [zz24,zz25];rfl)) ?_;(with_reducible refine (spec_deExchange.calls k a0_0 _ _ l0_1 a1 a2 a3 a4 t712 t713 t716 _ ?side1 ?side2 A10.out).mono ?_);(case side1=>repeat (first | exact (Kd.C_below HR0_1.out HB.out) | (with_reducible refine zz18 ?_ _) | (with_reducible refine zz19 ?_ _) | (with_reducible refine zz20 ?_)));(case side2=>exact HC0_1.out);rintro e w19 ⟨v714,rfl,ho0,hb⟩;refine ⟨_,rfl,?_⟩;have n0_:=zz31 (Kd.R_lower ho0 (zz5 (by repeat first | exact HB.out | apply zz2 | apply zz0 | apply zz1 | refine zz3 ?_ GE708.out | refine zz3 ?_ GE709.out)));have n1_:=zz31 (zz11 (g:=gb708) (o:=.cells #[.int .i64 a0_0,.slice A0_1 l0_1.length c0_1] 30 (0,0)) (by (with_reducible repeat (first | refine zz6 ?_ _ | refine zz7 ?_ | refine zz8 ?_ _));exact BK708.out) hb);have n2_:=zz31 (zz11 (g:=gb709) (o:=.cells #[.int .i64 0,.slice none 0 0] 30 (0,0)) (by (with_reducible repeat (first | refine zz6 ?_ _ | refine zz7 ?_ | refine zz8 ?_ _));exact BK709.out) hb);have n3_:=zz31 (zz4 (by repeat first | exact HB.out | apply zz2 | apply zz0 | apply zz1 | refine zz3 ?_ GE708.out | refine zz3 ?_ GE709.out) hb);clear BK708;clear BK709;clear HB;have HO715:=n0_;have BK708:=n1_;have BK709:=n2_;have HB:=n3_;clear n0_ n1_ n2_ n3_;(try clear hb);(try clear hb2);(try clear hk);(try clear hi);(try clear ho0);have hcz20_0:w19.cell? ⟨gb709,0,none⟩=some (.int .i64 0):=(zz9 BK709.out 0).trans rfl;have hcz20_1:w19.cell? ⟨gb709,1,none⟩=some (.slice none 0 0):=(zz9 BK709.out 1).trans rfl;have hfz20_0:=zz10 BK709.out 0;have hfz20_1:=zz10 BK709.out 1;obtain ⟨Ao21,co21,eo21⟩:=Kd.R_slice HO715.out;subst eo21))
   refine bodyPost_ret (results_ct rfl _ _ gb709 30 #[.int .i64 t712,.slice Ao21 t713.length co21] (0,0) _ rfl (by (with_reducible repeat (first | refine zz6 ?_ _ | refine zz7 ?_ | refine zz8 ?_ _));refine blk_put (cs:=#[.int .i64 t712,.slice none 0 0]) ?_ 1 _ rfl;(with_reducible repeat (first | refine zz6 ?_ _ | refine zz7 ?_ | refine zz8 ?_ _));refine blk_put (cs:=#[.int .i64 0,.slice none 0 0]) ?_ 0 _ rfl;(with_reducible repeat (first | refine zz6 ?_ _ | refine zz7 ?_ | refine zz8 ?_ _));exact BK709.out) Try.underlying30 rfl (by kernel_rfl)) rfl ?_
   exact ⟨_,by first | rfl | (simp [errW_none,errW_some] <;> rfl) | (simp [*,errW_none,errW_some] <;> rfl),by (with_reducible repeat (first | apply zz12 | apply zz13 | apply zz14));exact Kd.R_mono (Kd.R_far (p:=⟨gb709,1,none⟩) (Kd.R_far (p:=⟨gb709,0,none⟩) (Kd.R_types HO715.out BK709.out (by decide)) (fun _ hk=>hk.2) (.int .i64 t712)) (fun _ hk=>hk.2) (.slice Ao21 t713.length co21)) (fun _ hk=>trivial),by repeat first | exact HB.out | apply zz2 | apply zz0 | apply zz1 | refine zz3 ?_ GE708.out | refine zz3 ?_ GE709.out⟩
  ·replace c9:=Bool.eq_false_iff.mpr c9
   subst c9
   have H1:(some (0,([]:List (S80)),false))=some (r1,r2,r3):=by rw [if_neg (show ¬ (false=true) by decide)] at H;exact H
   clear H
   have H:=H1
   clear H1
   simp only [Option.some.injEq,Prod.mk.injEq] at H
   obtain ⟨rfl,rfl,rfl⟩:=H
   go_enter Try.func36,Try.ntmps36
   go_wp2_with (first | ((with_reducible refine gate_dst (N:=5) rfl ?_);refine box_event ?hg (N:=5) ?hd (cs:=#[.int .i64 a0_0,.slice A0_1 l0_1.length c0_1]) (t:=30) ?hr ?_;(case hd=>rfl);(case hg=>rfl);(case hr=>first | (go_simp;done) | (go_simp;rfl));intro gb708 hg w22 hbox hb;have n0_:=zz31 (zz4 (by repeat first | exact HB.out | apply zz2 | apply zz0 | apply zz1) hb);have n1_:=zz31 (hbox);have n2_:=zz31 ((by rw [hg];exact (zz5 (by repeat first | exact HB.out | apply zz2 | apply zz0 | apply zz1)):w.heap.size≤gb708));have n3_:=zz31 ((by rw [hg];exact (zz5 (by repeat first | exact HB.out | apply zz2 | apply zz0 | apply zz1)):w.heap.size≤gb708));clear HB;have HB:=n0_;have BK708:=n1_;have GW708:=n2_;have GE708:=n3_;clear n0_ n1_ n2_ n3_;clear hb hbox hg) | ((with_reducible refine gate_dst (N:=10) rfl ?_);refine box_event ?hg (N:=10) ?hd (cs:=#[.int .i64 0,.slice none 0 0]) (t:=30) ?hr ?_;(case hd=>rfl);(case hg=>rfl);(case hr=>first | (go_simp;done) | (go_simp;rfl));intro gb709 hg w23 hbox hb;have n0_:=zz31 (zz11 (g:=gb708) (o:=.cells #[.int .i64 a0_0,.slice A0_1 l0_1.length c0_1] 30 (0,0)) (by (with_reducible repeat (first | refine zz6 ?_ _ | refine zz7 ?_ | refine zz8 ?_ _));exact BK708.out) hb);have n1_:=zz31 (zz4 (by repeat first | exact HB.out | apply zz2 | apply zz0 | apply zz1 | refine zz3 ?_ GE708.out) hb);have n2_:=zz31 (hbox);have n3_:=zz31 ((by rw [hg];exact (zz5 (by repeat first | exact HB.out | apply zz2 | apply zz0 | apply zz1 | refine zz3 ?_ GE708.out)):w.heap.size≤gb709));have n4_:=zz31 ((by rw [hg];exact (zz5 (by repeat first | exact HB.out | apply zz2 | apply zz0 | apply zz1 | refine zz3 ?_ GE708.out)):w.heap.size≤gb709));have n5_:=zz31 ((by rw [hg];exact Nat.ne_of_lt (blk_lt (g:=gb708) (o:=.cells #[.int .i64 a0_0,.slice A0_1 l0_1.length c0_1] 30 (0,0)) (by (with_reducible repeat (first | refine zz6 ?_ _ | refine zz7 ?_ | refine zz8 ?_ _));exact BK708.out)):gb708 ≠ gb709));have n6_:=zz31 ((by rw [hg];exact Nat.ne_of_gt (blk_lt (g:=gb708) (o:=.cells #[.int .i64 a0_0,.slice A0_1 l0_1.length c0_1] 30 (0,0)) (by (with_reducible repeat (first | refine zz6 ?_ _ | refine zz7 ?_ | refine zz8 ?_ _));exact BK708.out)):gb709 ≠ gb708));clear BK708;clear HB;have BK708:=n0_;have HB:=n1_;have BK709:=n2_;have GW709:=n3_;have GE709:=n4_;have NB708_709:=n5_;have NB709_708:=n6_;clear n0_ n1_ n2_ n3_ n4_ n5_ n6_;clear hb hbox hg;have hnb24:=NB708_709.out;have hnc24:=NB709_708.out;have hcz25_0:w23.cell? ⟨gb708,0,none⟩=some (.int .i64 a0_0):=(zz9 BK708.out 0).trans rfl;have hcz25_1:w23.cell? ⟨gb708,1,none⟩=some (.slice A0_1 l0_1.length c0_1):=(zz9 BK708.out 1).trans rfl;have hfz25_0:=zz10 BK708.out 0;have hfz25_1:=zz10 BK708.out 1) | ((with_reducible refine gate_callee (f:=71) rfl ?_);refine goesL_ (some 15) rfl rfl Try.func71 (by kernel_rfl) rfl #[.agg #[.int .i64 a0_0,.slice A0_1 l0_1.length c0_1],.int .i64 a1,.int .i64 a2] rfl (by (try simp only [zz26,zz27,zz28]);first | done | rfl | (simp only [zz24,zz25];rfl)) ?_;(with_reducible refine (spec_paTwo.calls k a0_0 _ _ l0_1 a1 a2 true _ ?side1 ?side2 A6.out).mono ?_);(case side1=>repeat (first | exact (Kd.C_below HR0_1.out HB.out) | (with_reducible refine zz18 ?_ _) | (with_reducible refine zz19 ?_ _) | (with_reducible refine zz20 ?_)));(case side2=>exact HC0_1.out);rintro e w26 ⟨rfl,hb⟩;refine ⟨_,rfl,?_⟩;have n0_:=zz31 (zz11 (g:=gb708) (o:=.cells #[.int .i64 a0_0,.slice A0_1 l0_1.length c0_1] 30 (0,0)) (by (with_reducible repeat (first | refine zz6 ?_ _ | refine zz7 ?_ | refine zz8 ?_ _));exact BK708.out) hb);have n1_:=zz31 (zz11 (g:=gb709) (o:=.cells #[.int .i64 0,.slice none 0 0] 30 (0,0)) (by (with_reducible repeat (first | refine zz6 ?_ _ | refine zz7 ?_ | refine zz8 ?_ _));exact BK709.out) hb);have n2_:=zz31 (zz4 (by repeat first | exact HB.out | apply zz2 | apply zz0 | apply zz1 | refine zz3 ?_ GE708.out | refine zz3 ?_ GE709.out) hb);clear BK708;clear BK709;clear HB;have BK708:=n0_;have BK709:=n1_;have HB:=n2_;clear n0_ n1_ n2_;(try clear hb);(try clear hb2);(try clear hk);(try clear hi);have hcz27_0:w26.cell? ⟨gb708,0,none⟩=some (.int .i64 a0_0):=(zz9 BK708.out 0).trans rfl;have hcz27_1:w26.cell? ⟨gb708,1,none⟩=some (.slice A0_1 l0_1.length c0_1):=(zz9 BK708.out 1).trans rfl;have hfz27_0:=zz10 BK708.out 0;have hfz27_1:=zz10 BK708.out 1) | (go_at_call 71;(with_reducible refine (spec_paTwo.calls k a0_0 _ _ l0_1 a3 a4 false _ ?side1 ?side2 A8.out).mono ?_);(case side1=>repeat (first | exact (Kd.C_below HR0_1.out HB.out) | (with_reducible refine zz18 ?_ _) | (with_reducible refine zz19 ?_ _) | (with_reducible refine zz20 ?_)));(case side2=>exact HC0_1.out);rintro e w28 ⟨rfl,hb⟩;have n0_:=zz31 (zz11 (g:=gb708) (o:=.cells #[.int .i64 a0_0,.slice A0_1 l0_1.length c0_1] 30 (0,0)) (by (with_reducible repeat (first | refine zz6 ?_ _ | refine zz7 ?_ | refine zz8 ?_ _));exact BK708.out) hb);have n1_:=zz31 (zz11 (g:=gb709) (o:=.cells #[.int .i64 0,.slice none 0 0] 30 (0,0)) (by (with_reducible repeat (first | refine zz6 ?_ _ | refine zz7 ?_ | refine zz8 ?_ _));exact BK709.out) hb);have n2_:=zz31 (zz4 (by repeat first | exact HB.out | apply zz2 | apply zz0 | apply zz1 | refine zz3 ?_ GE708.out | refine zz3 ?_ GE709.out) hb);clear BK708;clear BK709;clear HB;have BK708:=n0_;have BK709:=n1_;have HB:=n2_;clear n0_ n1_ n2_;(try clear hb);(try clear hb2);(try clear hk);(try clear hi);have hcz29_0:w28.cell? ⟨gb709,0,none⟩=some (.int .i64 0):=(zz9 BK709.out 0).trans rfl;have hcz29_1:w28.cell? ⟨gb709,1,none⟩=some (.slice none 0 0):=(zz9 BK709.out 1).trans rfl;have hfz29_0:=zz10 BK709.out 0;have hfz29_1:=zz10 BK709.out 1))
   refine bodyPost_ret (results_ct rfl _ _ gb709 30 #[.int .i64 0,.slice none 0 0] (0,0) _ rfl (by (with_reducible repeat (first | refine zz6 ?_ _ | refine zz7 ?_ | refine zz8 ?_ _));refine blk_put (cs:=#[.int .i64 0,.slice none 0 0]) ?_ 1 _ rfl;(with_reducible repeat (first | refine zz6 ?_ _ | refine zz7 ?_ | refine zz8 ?_ _));refine blk_put (cs:=#[.int .i64 0,.slice none 0 0]) ?_ 0 _ rfl;(with_reducible repeat (first | refine zz6 ?_ _ | refine zz7 ?_ | refine zz8 ?_ _));exact BK709.out) Try.underlying30 rfl (by kernel_rfl)) rfl ?_
   exact ⟨_,by first | rfl | (simp [errW_none,errW_some] <;> rfl) | (simp [*,errW_none,errW_some] <;> rfl),by first | exact Kd.R_nil _ _ _ _ _ | exact Kd.N_nil _ _ _ _ _ | exact Kd.V_nil _ _ _ _ _ | exact Kd.Q_nil _ _ _ _ _ | exact Kd.S_nil _ _ _ _ _,by repeat first | exact HB.out | apply zz2 | apply zz0 | apply zz1 | refine zz3 ?_ GE708.out | refine zz3 ?_ GE709.out⟩
 ·replace c7:=Bool.eq_false_iff.mpr c7
  subst c7
  have H1:(some (0,([]:List (S80)),false))=some (r1,r2,r3):=by rw [if_neg (show ¬ (false=true) by decide)] at H;exact H
  clear H
  have H:=H1
  clear H1
  simp only [Option.some.injEq,Prod.mk.injEq] at H
  obtain ⟨rfl,rfl,rfl⟩:=H
  go_enter Try.func36,Try.ntmps36
  go_wp2_with (first | ((with_reducible refine gate_dst (N:=5) rfl ?_);refine box_event ?hg (N:=5) ?hd (cs:=#[.int .i64 a0_0,.slice A0_1 l0_1.length c0_1]) (t:=30) ?hr ?_;(case hd=>rfl);(case hg=>rfl);(case hr=>first | (go_simp;done) | (go_simp;rfl));intro gb708 hg w30 hbox hb;have n0_:=zz31 (zz4 (by repeat first | exact HB.out | apply zz2 | apply zz0 | apply zz1) hb);have n1_:=zz31 (hbox);have n2_:=zz31 ((by rw [hg];exact (zz5 (by repeat first | exact HB.out | apply zz2 | apply zz0 | apply zz1)):w.heap.size≤gb708));have n3_:=zz31 ((by rw [hg];exact (zz5 (by repeat first | exact HB.out | apply zz2 | apply zz0 | apply zz1)):w.heap.size≤gb708));clear HB;have HB:=n0_;have BK708:=n1_;have GW708:=n2_;have GE708:=n3_;clear n0_ n1_ n2_ n3_;clear hb hbox hg) | ((with_reducible refine gate_dst (N:=10) rfl ?_);refine box_event ?hg (N:=10) ?hd (cs:=#[.int .i64 0,.slice none 0 0]) (t:=30) ?hr ?_;(case hd=>rfl);(case hg=>rfl);(case hr=>first | (go_simp;done) | (go_simp;rfl));intro gb709 hg w31 hbox hb;have n0_:=zz31 (zz11 (g:=gb708) (o:=.cells #[.int .i64 a0_0,.slice A0_1 l0_1.length c0_1] 30 (0,0)) (by (with_reducible repeat (first | refine zz6 ?_ _ | refine zz7 ?_ | refine zz8 ?_ _));exact BK708.out) hb);have n1_:=zz31 (zz4 (by repeat first | exact HB.out | apply zz2 | apply zz0 | apply zz1 | refine zz3 ?_ GE708.out) hb);have n2_:=zz31 (hbox);have n3_:=zz31 ((by rw [hg];exact (zz5 (by repeat first | exact HB.out | apply zz2 | apply zz0 | apply zz1 | refine zz3 ?_ GE708.out)):w.heap.size≤gb709));have n4_:=zz31 ((by rw [hg];exact (zz5 (by repeat first | exact HB.out | apply zz2 | apply zz0 | apply zz1 | refine zz3 ?_ GE708.out)):w.heap.size≤gb709));have n5_:=zz31 ((by rw [hg];exact Nat.ne_of_lt (blk_lt (g:=gb708) (o:=.cells #[.int .i64 a0_0,.slice A0_1 l0_1.length c0_1] 30 (0,0)) (by (with_reducible repeat (first | refine zz6 ?_ _ | refine zz7 ?_ | refine zz8 ?_ _));exact BK708.out)):gb708 ≠ gb709));have n6_:=zz31 ((by rw [hg];exact Nat.ne_of_gt (blk_lt (g:=gb708) (o:=.cells #[.int .i64 a0_0,.slice A0_1 l0_1.length c0_1] 30 (0,0)) (by (with_reducible repeat (first | refine zz6 ?_ _ | refine zz7 ?_ | refine zz8 ?_ _));exact BK708.out)):gb709 ≠ gb708));clear BK708;clear HB;have BK708:=n0_;have HB:=n1_;have BK709:=n2_;have GW709:=n3_;have GE709:=n4_;have NB708_709:=n5_;have NB709_708:=n6_;clear n0_ n1_ n2_ n3_ n4_ n5_ n6_;clear hb hbox hg;have hnb32:=NB708_709.out;have hnc32:=NB709_708.out;have hcz33_0:w31.cell? ⟨gb708,0,none⟩=some (.int .i64 a0_0):=(zz9 BK708.out 0).trans rfl;have hcz33_1:w31.cell? ⟨gb708,1,none⟩=some (.slice A0_1 l0_1.length c0_1):=(zz9 BK708.out 1).trans rfl;have hfz33_0:=zz10 BK708.out 0;have hfz33_1:=zz10 BK708.out 1) | ((with_reducible refine gate_callee (f:=71) rfl ?_);refine goesL_ (some 15) rfl rfl Try.func71 (by kernel_rfl) rfl #[.agg #[.int .i64 a0_0,.slice A0_1 l0_1.length c0_1],.int .i64 a1,.int .i64 a2] rfl (by (try simp only [zz26,zz27,zz28]);first | done | rfl | (simp only [zz24,zz25];rfl)) ?_;(with_reducible refine (spec_paTwo.calls k a0_0 _ _ l0_1 a1 a2 false _ ?side1 ?side2 A6.out).mono ?_);(case side1=>repeat (first | exact (Kd.C_below HR0_1.out HB.out) | (with_reducible refine zz18 ?_ _) | (with_reducible refine zz19 ?_ _) | (with_reducible refine zz20 ?_)));(case side2=>exact HC0_1.out);rintro e w34 ⟨rfl,hb⟩;refine ⟨_,rfl,?_⟩;have n0_:=zz31 (zz11 (g:=gb708) (o:=.cells #[.int .i64 a0_0,.slice A0_1 l0_1.length c0_1] 30 (0,0)) (by (with_reducible repeat (first | refine zz6 ?_ _ | refine zz7 ?_ | refine zz8 ?_ _));exact BK708.out) hb);have n1_:=zz31 (zz11 (g:=gb709) (o:=.cells #[.int .i64 0,.slice none 0 0] 30 (0,0)) (by (with_reducible repeat (first | refine zz6 ?_ _ | refine zz7 ?_ | refine zz8 ?_ _));exact BK709.out) hb);have n2_:=zz31 (zz4 (by repeat first | exact HB.out | apply zz2 | apply zz0 | apply zz1 | refine zz3 ?_ GE708.out | refine zz3 ?_ GE709.out) hb);clear BK708;clear BK709;clear HB;have BK708:=n0_;have BK709:=n1_;have HB:=n2_;clear n0_ n1_ n2_;(try clear hb);(try clear hb2);(try clear hk);(try clear hi);have hcz35_0:w34.cell? ⟨gb709,0,none⟩=some (.int .i64 0):=(zz9 BK709.out 0).trans rfl;have hcz35_1:w34.cell? ⟨gb709,1,none⟩=some (.slice none 0 0):=(zz9 BK709.out 1).trans rfl;have hfz35_0:=zz10 BK709.out 0;have hfz35_1:=zz10 BK709.out 1))
  refine bodyPost_ret (results_ct rfl _ _ gb709 30 #[.int .i64 0,.slice none 0 0] (0,0) _ rfl (by (with_reducible repeat (first | refine zz6 ?_ _ | refine zz7 ?_ | refine zz8 ?_ _));refine blk_put (cs:=#[.int .i64 0,.slice none 0 0]) ?_ 1 _ rfl;(with_reducible repeat (first | refine zz6 ?_ _ | refine zz7 ?_ | refine zz8 ?_ _));refine blk_put (cs:=#[.int .i64 0,.slice none 0 0]) ?_ 0 _ rfl;(with_reducible repeat (first | refine zz6 ?_ _ | refine zz7 ?_ | refine zz8 ?_ _));exact BK709.out) Try.underlying30 rfl (by kernel_rfl)) rfl ?_
  exact ⟨_,by first | rfl | (simp [errW_none,errW_some] <;> rfl) | (simp [*,errW_none,errW_some] <;> rfl),by first | exact Kd.R_nil _ _ _ _ _ | exact Kd.N_nil _ _ _ _ _ | exact Kd.V_nil _ _ _ _ _ | exact Kd.Q_nil _ _ _ _ _ | exact Kd.S_nil _ _ _ _ _,by repeat first | exact HB.out | apply zz2 | apply zz0 | apply zz1 | refine zz3 ?_ GE708.out | refine zz3 ?_ GE709.out⟩

/-! ### impl_table_canExchange: function 73 -/
def impl_table_canExchange.f (l0:List Int) (a1:Int) (a2:Int) (a3:Int) (a4:Int):Option (Bool):=(impl_table_has.f l0 a1 a2).bind fun t717=>(if t717=true then ((impl_table_has.f l0 a3 a4).bind fun t718=>(if t718=true then ((impl_table_has.f l0 a1 a3).bind fun t719=>(if t719=true then (some false) else ((impl_table_has.f l0 a2 a4).bind fun t720=>(if t720=true then (some false) else (if a1=a3 then (some false) else (if a1=a4 then (some false) else (if a2=a3 then (some false) else (some (a2 != a4))))))))) else (some false))) else (some false))
set_option maxHeartbeats 8000000 in
set_option maxRecDepth 100000 in
theorem impl_table_canExchange.calls (A0:Option Addr) (c0:Nat) (l0:List Int) (a1:Int) (a2:Int) (a3:Int) (a4:Int) (r:Bool) (w:World) (hr0:Kd.C (Kd.int .u16) w A0 l0.length l0) (hc0:l0.length≤c0) (h:impl_table_canExchange.f l0 a1 a2 a3 a4=some r) :
  Calls Try.prog 73 #[.slice A0 l0.length c0,.int .i64 a1,.int .i64 a2,.int .i64 a3,.int .i64 a4] w fun e w'=>e=.returned (.bool r)∧Drawn0 w w':=by
 have HR0:=zz31 hr0
 have HC0:=zz31 hc0
 clear hr0 hc0
 have H:((impl_table_has.f l0 a1 a2).bind fun t717=>(if t717=true then ((impl_table_has.f l0 a3 a4).bind fun t718=>(if t718=true then ((impl_table_has.f l0 a1 a3).bind fun t719=>(if t719=true then (some false) else ((impl_table_has.f l0 a2 a4).bind fun t720=>(if t720=true then (some false) else (if a1=a3 then (some false) else (if a1=a4 then (some false) else (if a2=a3 then (some false) else (some (a2 != a4))))))))) else (some false))) else (some false)))=some r:=h
 clear h
 replace H:=zz30.mp H
 obtain ⟨t717,A60,H⟩:=H
 replace H:(if t717=true then ((impl_table_has.f l0 a3 a4).bind fun t718=>(if t718=true then ((impl_table_has.f l0 a1 a3).bind fun t719=>(if t719=true then (some false) else ((impl_table_has.f l0 a2 a4).bind fun t720=>(if t720=true then (some false) else (if a1=a3 then (some false) else (if a1=a4 then (some false) else (if a2=a3 then (some false) else (some (a2 != a4))))))))) else (some false))) else (some false))=some r:=H
 have A6:=zz31 A60
 clear A60
 by_cases c7:t717=true
 ·subst c7
  have H1:((impl_table_has.f l0 a3 a4).bind fun t718=>(if t718=true then ((impl_table_has.f l0 a1 a3).bind fun t719=>(if t719=true then (some false) else ((impl_table_has.f l0 a2 a4).bind fun t720=>(if t720=true then (some false) else (if a1=a3 then (some false) else (if a1=a4 then (some false) else (if a2=a3 then (some false) else (some (a2 != a4))))))))) else (some false)))=some r:=by rw [if_pos rfl] at H;exact H
  clear H
  have H:=H1
  clear H1
  replace H:=zz30.mp H
  obtain ⟨t718,A80,H⟩:=H
  replace H:(if t718=true then ((impl_table_has.f l0 a1 a3).bind fun t719=>(if t719=true then (some false) else ((impl_table_has.f l0 a2 a4).bind fun t720=>(if t720=true then (some false) else (if a1=a3 then (some false) else (if a1=a4 then (some false) else (if a2=a3 then (some false) else (some (a2 != a4))))))))) else (some false))=some r:=H
  have A8:=zz31 A80
  clear A80
  by_cases c9:t718=true
  ·subst c9
   have H1:((impl_table_has.f l0 a1 a3).bind fun t719=>(if t719=true then (some false) else ((impl_table_has.f l0 a2 a4).bind fun t720=>(if t720=true then (some false) else (if a1=a3 then (some false) else (if a1=a4 then (some false) else (if a2=a3 then (some false) else (some (a2 != a4)))))))))=some r:=by rw [if_pos rfl] at H;exact H
   clear H
   have H:=H1
   clear H1
   replace H:=zz30.mp H
   obtain ⟨t719,A100,H⟩:=H
   replace H:(if t719=true then (some false) else ((impl_table_has.f l0 a2 a4).bind fun t720=>(if t720=true then (some false) else (if a1=a3 then (some false) else (if a1=a4 then (some false) else (if a2=a3 then (some false) else (some (a2 != a4))))))))=some r:=H
   have A10:=zz31 A100
   clear A100
   by_cases c11:t719=true
   ·subst c11
    have H1:(some false)=some r:=by rw [if_pos rfl] at H;exact H
    clear H
    have H:=H1
    clear H1
    obtain rfl:=Option.some.inj H
    go_enter Try.func73,Try.ntmps73
    go_wp2_with (first | ((with_reducible refine gate_callee (f:=48) rfl ?_);refine goesL_ (some 14) rfl rfl Try.func48 (by kernel_rfl) rfl #[.slice A0 l0.length c0,.int .i64 a1,.int .i64 a2] rfl (by (try simp only [zz26,zz27,zz28]);first | done | rfl | (simp only [zz24,zz25];rfl)) ?_;(with_reducible refine (impl_table_has.calls _ _ l0 a1 a2 true _ ?side1 ?side2 A6.out).mono ?_);(case side1=>repeat (first | exact HR0.out | (with_reducible refine zz18 ?_ _) | (with_reducible refine zz19 ?_ _) | (with_reducible refine zz20 ?_)));(case side2=>exact HC0.out);rintro e w' ⟨rfl,⟨nd,rfl⟩⟩;refine ⟨_,rfl,?_⟩) | (go_at_call 48;(with_reducible refine (impl_table_has.calls _ _ l0 a3 a4 true _ ?side1 ?side2 A8.out).mono ?_);(case side1=>repeat (first | exact HR0.out | (with_reducible refine zz18 ?_ _) | (with_reducible refine zz19 ?_ _) | (with_reducible refine zz20 ?_)));(case side2=>exact HC0.out);rintro e w' ⟨rfl,⟨nd,rfl⟩⟩) | (go_at_call 48;(with_reducible refine (impl_table_has.calls _ _ l0 a1 a3 true _ ?side1 ?side2 A10.out).mono ?_);(case side1=>repeat (first | exact HR0.out | (with_reducible refine zz18 ?_ _) | (with_reducible refine zz19 ?_ _) | (with_reducible refine zz20 ?_)));(case side2=>exact HC0.out);rintro e w' ⟨rfl,⟨nd,rfl⟩⟩))
    go_ret
    exact ⟨by first | rfl | (simp;done) | (simp [*];done),by repeat (first | exact Drawn0.refl _ | apply Drawn0.step)⟩
   ·replace c11:=Bool.eq_false_iff.mpr c11
    subst c11
    have H1:((impl_table_has.f l0 a2 a4).bind fun t720=>(if t720=true then (some false) else (if a1=a3 then (some false) else (if a1=a4 then (some false) else (if a2=a3 then (some false) else (some (a2 != a4)))))))=some r:=by rw [if_neg (show ¬ (false=true) by decide)] at H;exact H
    clear H
    have H:=H1
    clear H1
    replace H:=zz30.mp H
    obtain ⟨t720,A120,H⟩:=H
    replace H:(if t720=true then (some false) else (if a1=a3 then (some false) else (if a1=a4 then (some false) else (if a2=a3 then (some false) else (some (a2 != a4))))))=some r:=H
    have A12:=zz31 A120
    clear A120
    by_cases c13:t720=true
    ·subst c13
     have H1:(some false)=some r:=by rw [if_pos rfl] at H;exact H
     clear H
     have H:=H1
     clear H1
     obtain rfl:=Option.some.inj H
     go_enter Try.func73,Try.ntmps73
     go_wp2_with (first | ((with_reducible refine gate_callee (f:=48) rfl ?_);refine goesL_ (some 14) rfl rfl Try.func48 (by kernel_rfl) rfl #[.slice A0 l0.length c0,.int .i64 a1,.int .i64 a2] rfl (by (try simp only [zz26,zz27,zz28]);first | done | rfl | (simp only [zz24,zz25];rfl)) ?_;(with_reducible refine (impl_table_has.calls _ _ l0 a1 a2 true _ ?side1 ?side2 A6.out).mono ?_);(case side1=>repeat (first | exact HR0.out | (with_reducible refine zz18 ?_ _) | (with_reducible refine zz19 ?_ _) | (with_reducible refine zz20 ?_)));(case side2=>exact HC0.out);rintro e w' ⟨rfl,⟨nd,rfl⟩⟩;refine ⟨_,rfl,?_⟩) | (go_at_call 48;(with_reducible refine (impl_table_has.calls _ _ l0 a3 a4 true _ ?side1 ?side2 A8.out).mono ?_);(case side1=>repeat (first | exact HR0.out | (with_reducible refine zz18 ?_ _) | (with_reducible refine zz19 ?_ _) | (with_reducible refine zz20 ?_)));(case side2=>exact HC0.out);rintro e w' ⟨rfl,⟨nd,rfl⟩⟩) | (go_at_call 48;(with_reducible refine (impl_table_has.calls _ _ l0 a1 a3 false _ ?side1 ?side2 A10.out).mono ?_);(case side1=>repeat (first | exact HR0.out | (with_reducible refine zz18 ?_ _) | (with_reducible refine zz19 ?_ _) | (with_reducible refine zz20 ?_)));(case side2=>exact HC0.out);rintro e w' ⟨rfl,⟨nd,rfl⟩⟩) | (go_at_call 48;(with_reducible refine (impl_table_has.calls _ _ l0 a2 a4 true _ ?side1 ?side2 A12.out).mono ?_);(case side1=>repeat (first | exact HR0.out | (with_reducible refine zz18 ?_ _) | (with_reducible refine zz19 ?_ _) | (with_reducible refine zz20 ?_)));(case side2=>exact HC0.out);rintro e w' ⟨rfl,⟨nd,rfl⟩⟩))
     go_ret
     exact ⟨by first | rfl | (simp;done) | (simp [*];done),by repeat (first | exact Drawn0.refl _ | apply Drawn0.step)⟩
    ·replace c13:=Bool.eq_false_iff.mpr c13
     subst c13
     have H1:(if a1=a3 then (some false) else (if a1=a4 then (some false) else (if a2=a3 then (some false) else (some (a2 != a4)))))=some r:=by rw [if_neg (show ¬ (false=true) by decide)] at H;exact H
     clear H
     have H:=H1
     clear H1
     by_cases c14:a1=a3
     ·rw [if_pos c14] at H
      have c14b0:(a1 == a3)=true:=beq_iff_eq.mpr c14
      have c14b1:(a1 != a3)=false:=bne_eq_false_iff_eq.mpr c14
      clear c14
      obtain rfl:=Option.some.inj H
      go_enter Try.func73,Try.ntmps73
      go_wp2_with (first | ((with_reducible refine gate_callee (f:=48) rfl ?_);refine goesL_ (some 14) rfl rfl Try.func48 (by kernel_rfl) rfl #[.slice A0 l0.length c0,.int .i64 a1,.int .i64 a2] rfl (by (try simp only [zz26,zz27,zz28]);first | done | rfl | (simp only [zz24,zz25];rfl)) ?_;(with_reducible refine (impl_table_has.calls _ _ l0 a1 a2 true _ ?side1 ?side2 A6.out).mono ?_);(case side1=>repeat (first | exact HR0.out | (with_reducible refine zz18 ?_ _) | (with_reducible refine zz19 ?_ _) | (with_reducible refine zz20 ?_)));(case side2=>exact HC0.out);rintro e w' ⟨rfl,⟨nd,rfl⟩⟩;refine ⟨_,rfl,?_⟩) | (go_at_call 48;(with_reducible refine (impl_table_has.calls _ _ l0 a3 a4 true _ ?side1 ?side2 A8.out).mono ?_);(case side1=>repeat (first | exact HR0.out | (with_reducible refine zz18 ?_ _) | (with_reducible refine zz19 ?_ _) | (with_reducible refine zz20 ?_)));(case side2=>exact HC0.out);rintro e w' ⟨rfl,⟨nd,rfl⟩⟩) | (go_at_call 48;(with_reducible refine (impl_table_has.calls _ _ l0 a1 a3 false _ ?side1 ?side2 A10.out).mono ?_);(case side1=>repeat (first | exact HR0.out | (with_reducible refine zz18 ?_ _) | (with_reducible refine zz19 ?_ _) | (with_reducible refine zz20 ?_)));(case side2=>exact HC0.out);rintro e w' ⟨rfl,⟨nd,rfl⟩⟩) | (go_at_call 48;(with_reducible refine (impl_table_has.calls _ _ l0 a2 a4 false _ ?side1 ?side2 A12.out).mono ?_);(case side1=>repeat (first | exact HR0.out | (with_reducible refine zz18 ?_ _) | (with_reducible refine zz19 ?_ _) | (with_reducible refine zz20 ?_)));(case side2=>exact HC0.out);rintro e w' ⟨rfl,⟨nd,rfl⟩⟩))
      go_ret
      exact ⟨by first | rfl | (simp;done) | (simp [*];done),by repeat (first | exact Drawn0.refl _ | apply Drawn0.step)⟩
     ·rw [if_neg c14] at H
      have c14b0:(a1 == a3)=false:=beq_eq_false_iff_ne.mpr c14
      have c14b1:(a1 != a3)=true:=bne_iff_ne.mpr c14
      by_cases c15:a1=a4
      ·rw [if_pos c15] at H
       have c15b0:(a1 == a4)=true:=beq_iff_eq.mpr c15
       have c15b1:(a1 != a4)=false:=bne_eq_false_iff_eq.mpr c15
       clear c15
       obtain rfl:=Option.some.inj H
       go_enter Try.func73,Try.ntmps73
       go_wp2_with (first | ((with_reducible refine gate_callee (f:=48) rfl ?_);refine goesL_ (some 14) rfl rfl Try.func48 (by kernel_rfl) rfl #[.slice A0 l0.length c0,.int .i64 a1,.int .i64 a2] rfl (by (try simp only [zz26,zz27,zz28]);first | done | rfl | (simp only [zz24,zz25];rfl)) ?_;(with_reducible refine (impl_table_has.calls _ _ l0 a1 a2 true _ ?side1 ?side2 A6.out).mono ?_);(case side1=>repeat (first | exact HR0.out | (with_reducible refine zz18 ?_ _) | (with_reducible refine zz19 ?_ _) | (with_reducible refine zz20 ?_)));(case side2=>exact HC0.out);rintro e w' ⟨rfl,⟨nd,rfl⟩⟩;refine ⟨_,rfl,?_⟩) | (go_at_call 48;(with_reducible refine (impl_table_has.calls _ _ l0 a3 a4 true _ ?side1 ?side2 A8.out).mono ?_);(case side1=>repeat (first | exact HR0.out | (with_reducible refine zz18 ?_ _) | (with_reducible refine zz19 ?_ _) | (with_reducible refine zz20 ?_)));(case side2=>exact HC0.out);rintro e w' ⟨rfl,⟨nd,rfl⟩⟩) | (go_at_call 48;(with_reducible refine (impl_table_has.calls _ _ l0 a1 a3 false _ ?side1 ?side2 A10.out).mono ?_);(case side1=>repeat (first | exact HR0.out | (with_reducible refine zz18 ?_ _) | (with_reducible refine zz19 ?_ _) | (with_reducible refine zz20 ?_)));(case side2=>exact HC0.out);rintro e w' ⟨rfl,⟨nd,rfl⟩⟩) | (go_at_call 48;(with_reducible refine (impl_table_has.calls _ _ l0 a2 a4 false _ ?side1 ?side2 A12.out).mono ?_);(case side1=>repeat (first | exact HR0.out | (with_reducible refine zz18 ?_ _) | (with_reducible refine zz19 ?_ _) | (with_reducible refine zz20 ?_)));(case side2=>exact HC0.out);rintro e w' ⟨rfl,⟨nd,rfl⟩⟩))
       go_ret
       exact ⟨by first | rfl | (simp;done) | (simp [*];done),by repeat (first | exact Drawn0.refl _ | apply Drawn0.step)⟩
      ·rw [if_neg c15] at H
       have c15b0:(a1 == a4)=false:=beq_eq_false_iff_ne.mpr c15
       have c15b1:(a1 != a4)=true:=bne_iff_ne.mpr c15
       by_cases c16:a2=a3
       ·rw [if_pos c16] at H
        have c16b0:(a2 == a3)=true:=beq_iff_eq.mpr c16
        have c16b1:(a2 != a3)=false:=bne_eq_false_iff_eq.mpr c16
        clear c16
        obtain rfl:=Option.some.inj H
        go_enter Try.func73,Try.ntmps73
        go_wp2_with (first | ((with_reducible refine gate_callee (f:=48) rfl ?_);refine goesL_ (some 14) rfl rfl Try.func48 (by kernel_rfl) rfl #[.slice A0 l0.length c0,.int .i64 a1,.int .i64 a2] rfl (by (try simp only [zz26,zz27,zz28]);first | done | rfl | (simp only [zz24,zz25];rfl)) ?_;(with_reducible refine (impl_table_has.calls _ _ l0 a1 a2 true _ ?side1 ?side2 A6.out).mono ?_);(case side1=>repeat (first | exact HR0.out | (with_reducible refine zz18 ?_ _) | (with_reducible refine zz19 ?_ _) | (with_reducible refine zz20 ?_)));(case side2=>exact HC0.out);rintro e w' ⟨rfl,⟨nd,rfl⟩⟩;refine ⟨_,rfl,?_⟩) | (go_at_call 48;(with_reducible refine (impl_table_has.calls _ _ l0 a3 a4 true _ ?side1 ?side2 A8.out).mono ?_);(case side1=>repeat (first | exact HR0.out | (with_reducible refine zz18 ?_ _) | (with_reducible refine zz19 ?_ _) | (with_reducible refine zz20 ?_)));(case side2=>exact HC0.out);rintro e w' ⟨rfl,⟨nd,rfl⟩⟩) | (go_at_call 48;(with_reducible refine (impl_table_has.calls _ _ l0 a1 a3 false _ ?side1 ?side2 A10.out).mono ?_);(case side1=>repeat (first | exact HR0.out | (with_reducible refine zz18 ?_ _) | (with_reducible refine zz19 ?_ _) | (with_reducible refine zz20 ?_)));(case side2=>exact HC0.out);rintro e w' ⟨rfl,⟨nd,rfl⟩⟩) | (go_at_call 48;(with_reducible refine (impl_table_has.calls _ _ l0 a2 a4 false _ ?side1 ?side2 A12.out).mono ?_);(case side1=>repeat (first | exact HR0.out | (with_reducible refine zz18 ?_ _) | (with_reducible refine zz19 ?_ _) | (with_reducible refine zz20 ?_)));(case side2=>exact HC0.out);rintro e w' ⟨rfl,⟨nd,rfl⟩⟩))
        go_ret
        exact ⟨by first | rfl | (simp;done) | (simp [*];done),by repeat (first | exact Drawn0.refl _ | apply Drawn0.step)⟩
       ·rw [if_neg c16] at H
        have c16b0:(a2 == a3)=false:=beq_eq_false_iff_ne.mpr c16
        have c16b1:(a2 != a3)=true:=bne_iff_ne.mpr c16
        obtain rfl:=Option.some.inj H
        go_enter Try.func73,Try.ntmps73
        go_wp2_with (first | ((with_reducible refine gate_callee (f:=48) rfl ?_);refine goesL_ (some 14) rfl rfl Try.func48 (by kernel_rfl) rfl #[.slice A0 l0.length c0,.int .i64 a1,.int .i64 a2] rfl (by (try simp only [zz26,zz27,zz28]);first | done | rfl | (simp only [zz24,zz25];rfl)) ?_;(with_reducible refine (impl_table_has.calls _ _ l0 a1 a2 true _ ?side1 ?side2 A6.out).mono ?_);(case side1=>repeat (first | exact HR0.out | (with_reducible refine zz18 ?_ _) | (with_reducible refine zz19 ?_ _) | (with_reducible refine zz20 ?_)));(case side2=>exact HC0.out);rintro e w' ⟨rfl,⟨nd,rfl⟩⟩;refine ⟨_,rfl,?_⟩) | (go_at_call 48;(with_reducible refine (impl_table_has.calls _ _ l0 a3 a4 true _ ?side1 ?side2 A8.out).mono ?_);(case side1=>repeat (first | exact HR0.out | (with_reducible refine zz18 ?_ _) | (with_reducible refine zz19 ?_ _) | (with_reducible refine zz20 ?_)));(case side2=>exact HC0.out);rintro e w' ⟨rfl,⟨nd,rfl⟩⟩) | (go_at_call 48;(with_reducible refine (impl_table_has.calls _ _ l0 a1 a3 false _ ?side1 ?side2 A10.out).mono ?_);(case side1=>repeat (first | exact HR0.out | (with_reducible refine zz18 ?_ _) | (with_reducible refine zz19 ?_ _) | (with_reducible refine zz20 ?_)));(case side2=>exact HC0.out);rintro e w' ⟨rfl,⟨nd,rfl⟩⟩) | (go_at_call 48;(with_reducible refine (impl_table_has.calls _ _ l0 a2 a4 false _ ?side1 ?side2 A12.out).mono ?_);(case side1=>repeat (first | exact HR0.out | (with_reducible refine zz18 ?_ _) | (with_reducible refine zz19 ?_ _) | (with_reducible refine zz20 ?_)));(case side2=>exact HC0.out);rintro e w' ⟨rfl,⟨nd,rfl⟩⟩))
        go_ret
        exact ⟨by first | rfl | (simp;done) | (simp [*];done),by repeat (first | exact Drawn0.refl _ | apply Drawn0.step)⟩
  ·replace c9:=Bool.eq_false_iff.mpr c9
   subst c9
   have H1:(some false)=some r:=by rw [if_neg (show ¬ (false=true) by decide)] at H;exact H
   clear H
   have H:=H1
   clear H1
   obtain rfl:=Option.some.inj H
   go_enter Try.func73,Try.ntmps73
   go_wp2_with (first | ((with_reducible refine gate_callee (f:=48) rfl ?_);refine goesL_ (some 14) rfl rfl Try.func48 (by kernel_rfl) rfl #[.slice A0 l0.length c0,.int .i64 a1,.int .i64 a2] rfl (by (try simp only [zz26,zz27,zz28]);first | done | rfl | (simp only [zz24,zz25];rfl)) ?_;(with_reducible refine (impl_table_has.calls _ _ l0 a1 a2 true _ ?side1 ?side2 A6.out).mono ?_);(case side1=>repeat (first | exact HR0.out | (with_reducible refine zz18 ?_ _) | (with_reducible refine zz19 ?_ _) | (with_reducible refine zz20 ?_)));(case side2=>exact HC0.out);rintro e w' ⟨rfl,⟨nd,rfl⟩⟩;refine ⟨_,rfl,?_⟩) | (go_at_call 48;(with_reducible refine (impl_table_has.calls _ _ l0 a3 a4 false _ ?side1 ?side2 A8.out).mono ?_);(case side1=>repeat (first | exact HR0.out | (with_reducible refine zz18 ?_ _) | (with_reducible refine zz19 ?_ _) | (with_reducible refine zz20 ?_)));(case side2=>exact HC0.out);rintro e w' ⟨rfl,⟨nd,rfl⟩⟩))
   go_ret
   exact ⟨by first | rfl | (simp;done) | (simp [*];done),by repeat (first | exact Drawn0.refl _ | apply Drawn0.step)⟩
 ·replace c7:=Bool.eq_false_iff.mpr c7
  subst c7
  have H1:(some false)=some r:=by rw [if_neg (show ¬ (false=true) by decide)] at H;exact H
  clear H
  have H:=H1
  clear H1
  obtain rfl:=Option.some.inj H
  go_enter Try.func73,Try.ntmps73
  go_wp2_with (first | ((with_reducible refine gate_callee (f:=48) rfl ?_);refine goesL_ (some 14) rfl rfl Try.func48 (by kernel_rfl) rfl #[.slice A0 l0.length c0,.int .i64 a1,.int .i64 a2] rfl (by (try simp only [zz26,zz27,zz28]);first | done | rfl | (simp only [zz24,zz25];rfl)) ?_;(with_reducible refine (impl_table_has.calls _ _ l0 a1 a2 false _ ?side1 ?side2 A6.out).mono ?_);(case side1=>repeat (first | exact HR0.out | (with_reducible refine zz18 ?_ _) | (with_reducible refine zz19 ?_ _) | (with_reducible refine zz20 ?_)));(case side2=>exact HC0.out);rintro e w' ⟨rfl,⟨nd,rfl⟩⟩;refine ⟨_,rfl,?_⟩))
  go_ret
  exact ⟨by first | rfl | (simp;done) | (simp [*];done),by repeat (first | exact Drawn0.refl _ | apply Drawn0.step)⟩

/-! ### impl_table_uint16: function 90 (a contract of our own) -/
def impl_table_uint16.f (l0:List Int):Option (List Int):=if l0.length≤1000000000 then some l0 else none
set_option maxHeartbeats 1000000 in
set_option maxRecDepth 100000 in
theorem impl_table_uint16.calls (A0:Option Addr) (c0:Nat) (l0:List Int) (r:List Int) (w:World) (hr0:Kd.C (Kd.int .u16) w A0 l0.length l0) (hc0:l0.length≤c0) (h:impl_table_uint16.f l0=some r) :
  Calls Try.prog 90 #[.slice A0 l0.length c0] w fun e w'=>∃ v0_:Value,e=.returned (v0_)∧Kd.R (Kd.int .u16) 96 w' w.heap.size (fun _=>True) v0_ r∧Below w.heap.size w w':=by
 unfold impl_table_uint16.f at h
 by_cases hb:l0.length≤1000000000
 case neg=>rw [if_neg hb] at h;exact absurd h (by simp)
 rw [if_pos hb] at h
 obtain rfl:=Option.some.inj h
 clear h
 have HR:=zz31 hr0
 have HBIG:=zz31 hb
 clear hb hc0
 cases A0 with
 | none =>
  have h0:l0=[]:=by
   rcases Nat.eq_zero_or_pos l0.length with hz | hz
   ·exact List.eq_nil_of_length_eq_zero hz
   ·obtain ⟨ad,e,_⟩:=hr0.2.2 hz
    cases e
  subst h0
  clear hr0
  have heq:∀ W:World,(binOp .eql 60 (.slice none 0 c0) (.slice none 0 0)).run Try.prog W=.ok (.bool true) W:=fun W=>Lib.run_eql_slice_nil_nil W 0 c0 Try.underlying60
  go_enter Try.func90,Try.ntmps90
  go_wp2
  go_ret
  exact ⟨_,rfl,Kd.R_nil _ _ _ _ _,Below.refl _ _⟩
 | some ad =>
  clear hr0
  have heq:∀ W:World,(binOp .eql 60 (.slice (some ad) l0.length c0) (.slice none 0 0)).run Try.prog W=.ok (.bool false) W:=fun W=>Lib.run_eql_slice_some_nil W ad l0.length c0 Try.underlying60
  go_enter Try.func90,Try.ntmps90
  go_wp2_with (first | ((with_reducible refine gate_dst (N:=5) rfl ?_);refine Kd.R_lit (Kd.int .u16) (w0:=w) w.heap.size 96 ?hg (N:=5) ?hd (xs:=([]:List Int)) (inner:=[]) (ok:=fun _=>True) (okp:=fun _=>True) ?hr ?hp (fun _ hk=>hk) trivial (Below.refl _ _) (Nat.le_refl _) (by simp) ?_;(case hd=>rfl);(case hg=>rfl);(case hr=>first | (go_simp;done) | (go_simp;rfl));(case hp=>exact (Reps.none _ _));intro v3 w3 ho hb hg_ hnew_;clear hg_ hnew_;have HO:=zz31 ho;have HB:=zz31 hb;clear ho hb) | ((with_reducible refine gate_dst (N:=7) rfl ?_);refine Kd.R_append_rows (Kd.int .u16) (w0:=w) w.heap.size rfl (.tmp 5) (.tmp 6) 60 96 (.int .u16 0) 2 rfl Try.underlying60 info96 rfl (by decide) (by omega) v3 [] l0 _ _ _ (fun _=>True) (fun _=>False) rfl rfl HO.out (Kd.C_below HR.out HB.out) ?aR (fun _ h=>h.elim) (fun _ _=>trivial) HB.out HB.out.size ?aL ?_;(case aR=>exact (fun _ _ h=>h));(case aL=>(have:=HBIG.out;simp;omega));intro v4 w4 ho4 hb4 hg4 hn4;clear hg4 hn4;have HO4:=zz31 ho4;have HB4:=zz31 hb4;clear ho4 hb4))
  go_ret
  exact ⟨_,rfl,by simpa using HO4.out,HB4.out⟩

/-! ### impl_table_exchanged: function 74 -/
def impl_table_exchanged.f (l0:List Int) (a1:Int) (a2:Int) (a3:Int) (a4:Int):Option (List Int):=(impl_table_uint16.f l0).bind fun t721=>(if 0≤a1 then (if a1 < (t721.length:Int) then (if 0≤a2 then (if 0≤a3 then ((some (t721.set (a1:Int).toNat (Go.bits .or .u16 (Go.bits .andNot .u16 (rd t721 a1) (shl .u16 1 a2)) (shl .u16 1 a3)):List Int)).bind fun y725=>(if a2 < (t721.length:Int) then (if 0≤a4 then ((some (y725.set (a2:Int).toNat (Go.bits .or .u16 (Go.bits .andNot .u16 (rd y725 a2) (shl .u16 1 a1)) (shl .u16 1 a4)):List Int)).bind fun y727=>(if a3 < (t721.length:Int) then ((some (y727.set (a3:Int).toNat (Go.bits .or .u16 (Go.bits .andNot .u16 (rd y727 a3) (shl .u16 1 a4)) (shl .u16 1 a1)):List Int)).bind fun y729=>(if a4 < (t721.length:Int) then (some (y729.set (a4:Int).toNat (Go.bits .or .u16 (Go.bits .andNot .u16 (rd y729 a4) (shl .u16 1 a3)) (shl .u16 1 a2)))) else (none))) else (none))) else (none)) else (none))) else (none)) else (none)) else (none)) else (none))
def impl_table_exchanged.T2:Bool × List (List Nat × List Nat):=(true,[([],[]),([],[]),([],[]),([],[]),([2,3],[2,3]),([4],[4]),([],[]),([6],[6]),([5,7],[5,7]),([],[]),([9],[9]),([8,10],[8,10]),([0,1,0,1,2,3,4,5,6,7,8,9,10,11],[0,1]),([12,11,0,1,2,3,4,5,6,7,8,9,10,11],[11,12])])
def impl_table_exchanged.B2:List Nat:=[0,0,0,0,12,28,0,64,252,0,512,2044,4095,8191]
theorem impl_table_exchanged.tab2:rtab .any (opsOf Try.f74 2)=impl_table_exchanged.T2:=by kernel_rfl
theorem impl_table_exchanged.bits2:waitsOk impl_table_exchanged.T2.2 impl_table_exchanged.B2=true:=by kernel_rfl
def impl_table_exchanged.T3:Bool × List (List Nat × List Nat):=(true,[([],[]),([],[]),([],[]),([],[]),([2,3],[2,3]),([4],[4]),([],[]),([6],[6]),([5,7],[5,7]),([],[]),([9],[9]),([8,10],[8,10]),([0,1,0,1,2,3,4,5,6,7,8,9,10,11],[0,1]),([12,11,0,1,2,3,4,5,6,7,8,9,10,11],[11,12])])
def impl_table_exchanged.B3:List Nat:=[0,0,0,0,12,28,0,64,252,0,512,2044,4095,8191]
theorem impl_table_exchanged.tab3:rtab .any (opsOf Try.f74 3)=impl_table_exchanged.T3:=by kernel_rfl
theorem impl_table_exchanged.bits3:waitsOk impl_table_exchanged.T3.2 impl_table_exchanged.B3=true:=by kernel_rfl
def impl_table_exchanged.T4:Bool × List (List Nat × List Nat):=(true,[([],[]),([],[]),([],[]),([],[]),([2,3],[2,3]),([4],[4]),([],[]),([6],[6]),([5,7],[5,7]),([],[]),([9],[9]),([8,10],[8,10]),([0,1,0,1,2,3,4,5,6,7,8,9,10,11],[0,1]),([12,11,0,1,2,3,4,5,6,7,8,9,10,11],[11,12])])
def impl_table_exchanged.B4:List Nat:=[0,0,0,0,12,28,0,64,252,0,512,2044,4095,8191]
theorem impl_table_exchanged.tab4:rtab .any (opsOf Try.f74 4)=impl_table_exchanged.T4:=by kernel_rfl
theorem impl_table_exchanged.bits4:waitsOk impl_table_exchanged.T4.2 impl_table_exchanged.B4=true:=by kernel_rfl
def impl_table_exchanged.T5:Bool × List (List Nat × List Nat):=(true,[([],[]),([],[]),([],[]),([],[]),([2,3],[2,3]),([4],[4]),([],[]),([6],[6]),([5,7],[5,7]),([],[]),([9],[9]),([8,10],[8,10]),([0,1,0,1,2,3,4,5,6,7,8,9,10,11],[0,1]),([12,11,0,1,2,3,4,5,6,7,8,9,10,11],[11,12])])
def impl_table_exchanged.B5:List Nat:=[0,0,0,0,12,28,0,64,252,0,512,2044,4095,8191]
theorem impl_table_exchanged.tab5:rtab .any (opsOf Try.f74 5)=impl_table_exchanged.T5:=by kernel_rfl
theorem impl_table_exchanged.bits5:waitsOk impl_table_exchanged.T5.2 impl_table_exchanged.B5=true:=by kernel_rfl
set_option maxHeartbeats 8000000 in
set_option maxRecDepth 100000 in
theorem impl_table_exchanged.calls (A0:Option Addr) (c0:Nat) (l0:List Int) (a1:Int) (a2:Int) (a3:Int) (a4:Int) (r:List Int) (w:World) (hr0:Kd.C (Kd.int .u16) w A0 l0.length l0) (hc0:l0.length≤c0) (h:impl_table_exchanged.f l0 a1 a2 a3 a4=some r) :
  Calls Try.prog 74 #[.slice A0 l0.length c0,.int .i64 a1,.int .i64 a2,.int .i64 a3,.int .i64 a4] w fun e w'=>∃ v0_:Value,e=.returned (v0_)∧Kd.R (Kd.int .u16) 96 w' w.heap.size (fun _=>True) v0_ r∧Below w.heap.size w w':=by
 have HR0:=zz31 hr0
 have HC0:=zz31 hc0
 clear hr0 hc0
 have HB:=zz31 (Below.refl w.heap.size w)
 have H:((impl_table_uint16.f l0).bind fun t721=>(if 0≤a1 then (if a1 < (t721.length:Int) then (if 0≤a2 then (if 0≤a3 then ((some (t721.set (a1:Int).toNat (Go.bits .or .u16 (Go.bits .andNot .u16 (rd t721 a1) (shl .u16 1 a2)) (shl .u16 1 a3)):List Int)).bind fun y725=>(if a2 < (t721.length:Int) then (if 0≤a4 then ((some (y725.set (a2:Int).toNat (Go.bits .or .u16 (Go.bits .andNot .u16 (rd y725 a2) (shl .u16 1 a1)) (shl .u16 1 a4)):List Int)).bind fun y727=>(if a3 < (t721.length:Int) then ((some (y727.set (a3:Int).toNat (Go.bits .or .u16 (Go.bits .andNot .u16 (rd y727 a3) (shl .u16 1 a4)) (shl .u16 1 a1)):List Int)).bind fun y729=>(if a4 < (t721.length:Int) then (some (y729.set (a4:Int).toNat (Go.bits .or .u16 (Go.bits .andNot .u16 (rd y729 a4) (shl .u16 1 a3)) (shl .u16 1 a2)))) else (none))) else (none))) else (none)) else (none))) else (none)) else (none)) else (none)) else (none)))=some r:=h
 clear h
 replace H:=zz30.mp H
 obtain ⟨t721,A60,H⟩:=H
 replace H:(if 0≤a1 then (if a1 < (t721.length:Int) then (if 0≤a2 then (if 0≤a3 then ((some (t721.set (a1:Int).toNat (Go.bits .or .u16 (Go.bits .andNot .u16 (rd t721 a1) (shl .u16 1 a2)) (shl .u16 1 a3)):List Int)).bind fun y725=>(if a2 < (t721.length:Int) then (if 0≤a4 then ((some (y725.set (a2:Int).toNat (Go.bits .or .u16 (Go.bits .andNot .u16 (rd y725 a2) (shl .u16 1 a1)) (shl .u16 1 a4)):List Int)).bind fun y727=>(if a3 < (t721.length:Int) then ((some (y727.set (a3:Int).toNat (Go.bits .or .u16 (Go.bits .andNot .u16 (rd y727 a3) (shl .u16 1 a4)) (shl .u16 1 a1)):List Int)).bind fun y729=>(if a4 < (t721.length:Int) then (some (y729.set (a4:Int).toNat (Go.bits .or .u16 (Go.bits .andNot .u16 (rd y729 a4) (shl .u16 1 a3)) (shl .u16 1 a2)))) else (none))) else (none))) else (none)) else (none))) else (none)) else (none)) else (none)) else (none))=some r:=H
 have A6:=zz31 A60
 clear A60
 by_cases c7:0≤a1
 ·rw [if_pos c7] at H
  have c7b0:decide (0≤a1)=true:=decide_eq_true c7
  clear c7
  by_cases c8:a1 < (t721.length:Int)
  ·rw [if_pos c8] at H
   have c8b0:decide (a1 < (t721.length:Int))=true:=decide_eq_true c8
   clear c8
   by_cases c9:0≤a2
   ·rw [if_pos c9] at H
    have c9b0:=eq_true c9
    have c9b1:decide (0≤a2)=true:=decide_eq_true c9
    clear c9
    obtain ⟨ji10,hji10⟩:∃ j_:Int,(shl .u16 1 a2)=j_:=⟨_,rfl⟩
    replace H:(if 0≤a3 then ((some (t721.set (a1:Int).toNat (Go.bits .or .u16 (Go.bits .andNot .u16 (rd t721 a1) (ji10)) (shl .u16 1 a3)):List Int)).bind fun y725=>(if a2 < (t721.length:Int) then (if 0≤a4 then ((some (y725.set (a2:Int).toNat (Go.bits .or .u16 (Go.bits .andNot .u16 (rd y725 a2) (shl .u16 1 a1)) (shl .u16 1 a4)):List Int)).bind fun y727=>(if a3 < (t721.length:Int) then ((some (y727.set (a3:Int).toNat (Go.bits .or .u16 (Go.bits .andNot .u16 (rd y727 a3) (shl .u16 1 a4)) (shl .u16 1 a1)):List Int)).bind fun y729=>(if a4 < (t721.length:Int) then (some (y729.set (a4:Int).toNat (Go.bits .or .u16 (Go.bits .andNot .u16 (rd y729 a4) (shl .u16 1 a3)) (ji10)))) else (none))) else (none))) else (none)) else (none))) else (none))=some r:=by first | (rw [hji10] at H;exact H) | (simp only [hji10] at H ⊢;exact H)
    (try rw [hji10] at A6)
    have hji10_:(IntKind.u16.wrap (1 * 2 ^ min a2.toNat 16))=ji10:=hji10
    have hji10z:a2≤16→(IntKind.u16.wrap (1 * 2 ^ a2.toNat))=ji10:=shl_small hji10
    have hji10u:(IntKind.u16.wrap (2 ^ min a2.toNat 16))=ji10:=by have h_:=hji10_;rw [Int.one_mul] at h_;exact h_
    have hji10v:a2≤16→(IntKind.u16.wrap (2 ^ a2.toNat))=ji10:=fun hle_=>by have h_:=hji10z hle_;rw [Int.one_mul] at h_;exact h_
    by_cases c11:0≤a3
    ·rw [if_pos c11] at H
     have c11b0:=eq_true c11
     have c11b1:decide (0≤a3)=true:=decide_eq_true c11
     clear c11
     obtain ⟨ji12,hji12⟩:∃ j_:Int,(shl .u16 1 a3)=j_:=⟨_,rfl⟩
     replace H:((some (t721.set (a1:Int).toNat (Go.bits .or .u16 (Go.bits .andNot .u16 (rd t721 a1) (ji10)) (ji12)):List Int)).bind fun y725=>(if a2 < (t721.length:Int) then (if 0≤a4 then ((some (y725.set (a2:Int).toNat (Go.bits .or .u16 (Go.bits .andNot .u16 (rd y725 a2) (shl .u16 1 a1)) (shl .u16 1 a4)):List Int)).bind fun y727=>(if a3 < (t721.length:Int) then ((some (y727.set (a3:Int).toNat (Go.bits .or .u16 (Go.bits .andNot .u16 (rd y727 a3) (shl .u16 1 a4)) (shl .u16 1 a1)):List Int)).bind fun y729=>(if a4 < (t721.length:Int) then (some (y729.set (a4:Int).toNat (Go.bits .or .u16 (Go.bits .andNot .u16 (rd y729 a4) (ji12)) (ji10)))) else (none))) else (none))) else (none)) else (none)))=some r:=by first | (rw [hji12] at H;exact H) | (simp only [hji12] at H ⊢;exact H)
     (try rw [hji12] at A6)
     have hji12_:(IntKind.u16.wrap (1 * 2 ^ min a3.toNat 16))=ji12:=hji12
     have hji12z:a3≤16→(IntKind.u16.wrap (1 * 2 ^ a3.toNat))=ji12:=shl_small hji12
     have hji12u:(IntKind.u16.wrap (2 ^ min a3.toNat 16))=ji12:=by have h_:=hji12_;rw [Int.one_mul] at h_;exact h_
     have hji12v:a3≤16→(IntKind.u16.wrap (2 ^ a3.toNat))=ji12:=fun hle_=>by have h_:=hji12z hle_;rw [Int.one_mul] at h_;exact h_
     obtain ⟨y725,hy725⟩:∃ y_:List Int,y_=(t721.set (a1:Int).toNat (Go.bits .or .u16 (Go.bits .andNot .u16 (rd t721 a1) (ji10)) (ji12))):=⟨_,rfl⟩
     replace H:(if a2 < (t721.length:Int) then (if 0≤a4 then ((some (y725.set (a2:Int).toNat (Go.bits .or .u16 (Go.bits .andNot .u16 (rd y725 a2) (shl .u16 1 a1)) (shl .u16 1 a4)):List Int)).bind fun y727=>(if a3 < (t721.length:Int) then ((some (y727.set (a3:Int).toNat (Go.bits .or .u16 (Go.bits .andNot .u16 (rd y727 a3) (shl .u16 1 a4)) (shl .u16 1 a1)):List Int)).bind fun y729=>(if a4 < (t721.length:Int) then (some (y729.set (a4:Int).toNat (Go.bits .or .u16 (Go.bits .andNot .u16 (rd y729 a4) (ji12)) (ji10)))) else (none))) else (none))) else (none)) else (none))=some r:=by first | (rw [hy725];with_reducible exact H) | (have H2_:=(Option.bind_some _ _).symm.trans H;rw [hy725];with_reducible exact H2_) | (have H2_:=(Option.bind_some _ _).symm.trans H;with_reducible exact H2_) | with_reducible exact H | (rw [hy725];exact H) | exact H
     have Ny725:=zz31 hy725
     clear hy725
     by_cases c14:a2 < (t721.length:Int)
     ·rw [if_pos c14] at H
      have c14b0:decide (a2 < (t721.length:Int))=true:=decide_eq_true c14
      clear c14
      have c15b0:=eq_true (zz29 (by first | (with_reducible assumption) | assumption):0≤a1)
      obtain ⟨ji16,hji16⟩:∃ j_:Int,(shl .u16 1 a1)=j_:=⟨_,rfl⟩
      replace H:(if 0≤a4 then ((some (y725.set (a2:Int).toNat (Go.bits .or .u16 (Go.bits .andNot .u16 (rd y725 a2) (ji16)) (shl .u16 1 a4)):List Int)).bind fun y727=>(if a3 < (t721.length:Int) then ((some (y727.set (a3:Int).toNat (Go.bits .or .u16 (Go.bits .andNot .u16 (rd y727 a3) (shl .u16 1 a4)) (ji16)):List Int)).bind fun y729=>(if a4 < (t721.length:Int) then (some (y729.set (a4:Int).toNat (Go.bits .or .u16 (Go.bits .andNot .u16 (rd y729 a4) (ji12)) (ji10)))) else (none))) else (none))) else (none))=some r:=by first | (rw [hji16] at H;exact H) | (simp only [hji16] at H ⊢;exact H)
      (try rw [hji16] at A6)
      have hji16_:(IntKind.u16.wrap (1 * 2 ^ min a1.toNat 16))=ji16:=hji16
      have hji16z:a1≤16→(IntKind.u16.wrap (1 * 2 ^ a1.toNat))=ji16:=shl_small hji16
      have hji16u:(IntKind.u16.wrap (2 ^ min a1.toNat 16))=ji16:=by have h_:=hji16_;rw [Int.one_mul] at h_;exact h_
      have hji16v:a1≤16→(IntKind.u16.wrap (2 ^ a1.toNat))=ji16:=fun hle_=>by have h_:=hji16z hle_;rw [Int.one_mul] at h_;exact h_
      by_cases c17:0≤a4
      ·rw [if_pos c17] at H
       have c17b0:=eq_true c17
       have c17b1:decide (0≤a4)=true:=decide_eq_true c17
       clear c17
       obtain ⟨ji18,hji18⟩:∃ j_:Int,(shl .u16 1 a4)=j_:=⟨_,rfl⟩
       replace H:((some (y725.set (a2:Int).toNat (Go.bits .or .u16 (Go.bits .andNot .u16 (rd y725 a2) (ji16)) (ji18)):List Int)).bind fun y727=>(if a3 < (t721.length:Int) then ((some (y727.set (a3:Int).toNat (Go.bits .or .u16 (Go.bits .andNot .u16 (rd y727 a3) (ji18)) (ji16)):List Int)).bind fun y729=>(if a4 < (t721.length:Int) then (some (y729.set (a4:Int).toNat (Go.bits .or .u16 (Go.bits .andNot .u16 (rd y729 a4) (ji12)) (ji10)))) else (none))) else (none)))=some r:=by first | (rw [hji18] at H;exact H) | (simp only [hji18] at H ⊢;exact H)
       (try rw [hji18] at A6)
       have hji18_:(IntKind.u16.wrap (1 * 2 ^ min a4.toNat 16))=ji18:=hji18
       have hji18z:a4≤16→(IntKind.u16.wrap (1 * 2 ^ a4.toNat))=ji18:=shl_small hji18
       have hji18u:(IntKind.u16.wrap (2 ^ min a4.toNat 16))=ji18:=by have h_:=hji18_;rw [Int.one_mul] at h_;exact h_
       have hji18v:a4≤16→(IntKind.u16.wrap (2 ^ a4.toNat))=ji18:=fun hle_=>by have h_:=hji18z hle_;rw [Int.one_mul] at h_;exact h_
       obtain ⟨y727,hy727⟩:∃ y_:List Int,y_=(y725.set (a2:Int).toNat (Go.bits .or .u16 (Go.bits .andNot .u16 (rd y725 a2) (ji16)) (ji18))):=⟨_,rfl⟩
       replace H:(if a3 < (t721.length:Int) then ((some (y727.set (a3:Int).toNat (Go.bits .or .u16 (Go.bits .andNot .u16 (rd y727 a3) (ji18)) (ji16)):List Int)).bind fun y729=>(if a4 < (t721.length:Int) then (some (y729.set (a4:Int).toNat (Go.bits .or .u16 (Go.bits .andNot .u16 (rd y729 a4) (ji12)) (ji10)))) else (none))) else (none))=some r:=by first | (rw [hy727];with_reducible exact H) | (have H2_:=(Option.bind_some _ _).symm.trans H;rw [hy727];with_reducible exact H2_) | (have H2_:=(Option.bind_some _ _).symm.trans H;with_reducible exact H2_) | with_reducible exact H | (rw [hy727];exact H) | exact H
       have Ny727:=zz31 hy727
       clear hy727
       by_cases c20:a3 < (t721.length:Int)
       ·rw [if_pos c20] at H
        have c20b0:decide (a3 < (t721.length:Int))=true:=decide_eq_true c20
        clear c20
        have c21b0:=eq_true (zz29 (by first | (with_reducible assumption) | assumption):0≤a4)
        have c23b0:=eq_true (zz29 (by first | (with_reducible assumption) | assumption):0≤a1)
        obtain ⟨y729,hy729⟩:∃ y_:List Int,y_=(y727.set (a3:Int).toNat (Go.bits .or .u16 (Go.bits .andNot .u16 (rd y727 a3) (ji18)) (ji16))):=⟨_,rfl⟩
        replace H:(if a4 < (t721.length:Int) then (some (y729.set (a4:Int).toNat (Go.bits .or .u16 (Go.bits .andNot .u16 (rd y729 a4) (ji12)) (ji10)))) else (none))=some r:=by first | (rw [hy729];with_reducible exact H) | (have H2_:=(Option.bind_some _ _).symm.trans H;rw [hy729];with_reducible exact H2_) | (have H2_:=(Option.bind_some _ _).symm.trans H;with_reducible exact H2_) | with_reducible exact H | (rw [hy729];exact H) | exact H
        have Ny729:=zz31 hy729
        clear hy729
        by_cases c26:a4 < (t721.length:Int)
        ·rw [if_pos c26] at H
         have c26b0:decide (a4 < (t721.length:Int))=true:=decide_eq_true c26
         clear c26
         have c27b0:=eq_true (zz29 (by first | (with_reducible assumption) | assumption):0≤a3)
         have c29b0:=eq_true (zz29 (by first | (with_reducible assumption) | assumption):0≤a2)
         obtain ⟨y731,hy731⟩:∃ y_:List Int,y_=(y729.set (a4:Int).toNat (Go.bits .or .u16 (Go.bits .andNot .u16 (rd y729 a4) (ji12)) (ji10))):=⟨_,rfl⟩
         replace H:(some y731)=some r:=by first | (rw [hy731];with_reducible exact H) | (have H2_:=(Option.bind_some _ _).symm.trans H;rw [hy731];with_reducible exact H2_) | (have H2_:=(Option.bind_some _ _).symm.trans H;with_reducible exact H2_) | with_reducible exact H | (rw [hy731];exact H) | exact H
         have Ny731:=zz31 hy731
         clear hy731
         obtain rfl:=Option.some.inj H
         go_enter Try.func74,Try.ntmps74
         try go_wp2_with (first | ((with_reducible refine gate_callee (f:=90) rfl ?_);refine goesL_ (some 13) rfl rfl Try.func90 (by kernel_rfl) rfl #[.slice A0 l0.length c0] rfl (by (try simp only [zz26,zz27,zz28]);first | done | rfl | (simp only [zz24,zz25];rfl)) ?_;(with_reducible refine (impl_table_uint16.calls _ _ l0 t721 _ ?side1 ?side2 A6.out).mono ?_);(case side1=>repeat (first | exact HR0.out | (with_reducible refine zz18 ?_ _) | (with_reducible refine zz19 ?_ _) | (with_reducible refine zz20 ?_)));(case side2=>exact HC0.out);rintro e w32 ⟨v722,rfl,ho0,hb⟩;refine ⟨_,rfl,?_⟩;have n0_:=zz31 (Kd.R_lower ho0 (zz5 (by repeat first | exact HB.out | apply zz2 | apply zz0 | apply zz1)));have n1_:=zz31 (zz4 (by repeat first | exact HB.out | apply zz2 | apply zz0 | apply zz1) hb);clear HB;have HO723:=n0_;have HB:=n1_;clear n0_ n1_;(try clear hb);(try clear hb2);(try clear hk);(try clear hi);(try clear ho0)))
         have n0_:=zz31 (zz14 HO723.out)
         have n1_:=zz31 (zz1 HB.out)
         clear HO723
         clear HB
         have HO723:=n0_
         have HB:=n1_
         clear n0_ n1_
         obtain ⟨Ao34,co34,eo34⟩:=Kd.R_slice HO723.out
         (first | subst eo34 | (injection eo34 with f1_ f2_ f3_;have f4_:=f1_.symm;have f5_:=f3_.symm;clear f1_ f2_ f3_;subst f4_;subst f5_))
         have p724:0≤(a1:Int):=zz29 (by first | (with_reducible assumption) | assumption)
         have q724:a1 < (t721.length:Int):=zz29 (by first | (with_reducible assumption) | assumption)
         obtain ⟨ad724,e724,hx724_0⟩:=Kd.at_int (Kd.R_reads' HO723.out).2.2 a1 p724 q724
         cases e724
         replace p724:=eq_true p724
         replace q724:=eq_true q724
         have p13:0≤(a1:Int):=zz29 (by first | (with_reducible assumption) | assumption)
         have q13:(a1:Int) < ((t721.length:Int):Int):=zz29 (by first | (with_reducible assumption) | assumption)
         obtain ⟨go13,co13,eo13,gb13,gl13,cl13,HG13⟩:=Kd.R_form HO723.out (by omega)
         (first | cases eo13 | (injection eo13 with ea_ en_ ec_;(first | subst ea_ | (injection ea_ with ea_;subst ea_));subst ec_;clear en_))
         have GB13:=zz31 gb13
         have GG13:=zz31 HG13
         clear gb13 gl13 HG13
         (first | simp only [add_plain] at hx724_0 | skip)
         obtain ⟨hx13_0,hf13_0⟩:=Kd.R_celln 0 HO723.out (a1:Int) p13 q13
         replace p13:=eq_true p13
         replace q13:=eq_true q13
         have HP35:=Kd.R_putn HO723.out (a1:Int) (Go.bits .or .u16 (Go.bits .andNot .u16 (rd t721 a1) (ji10)) (ji12))
         rw [← Ny725.out] at HP35
         have HQ35:=zz31 HP35
         clear HP35
         refine start_ (n:=14) (S:=fun w'=>w'.cell? ⟨go13,(a1).toNat,none⟩=some (.int .u16 (rd t721 a1))) (ds:=[13]) #[F,F,F,F,F,F,F,F,F,F,F,F,F,F] (by kernel_rfl) rfl rfl (hx724_0) (fun hHeld=>?_);refine with_tabW impl_table_exchanged.tab2 impl_table_exchanged.bits2 (fun HT_ HW_=>?_)
         generalize w32.drew=w33 at HO723 HB GG13 HQ35 hf13_0 hx13_0 hx724_0 hHeld ⊢
         refine pure_ (i:=0) (N:=some 14) (v:=?_) (a':=?_) #[T,F,F,F,F,F,F,F,F,F,F,F,F,F] rfl rfl (any_of HT_.out (by kernel_rfl)) (fun _ _ _ h=>h) (Or.inl ⟨by rfl,?_⟩) ?_ ?_
         rotate_left
         ·intro w'
          go_simp
          with_reducible rfl
         rotate_left
         ·simp only [Act.put,zz21,zz22,zz23,i64_w,i32_w]
          rfl
         refine pure_ (i:=1) (N:=some 15) (v:=?_) (a':=?_) #[T,T,F,F,F,F,F,F,F,F,F,F,F,F] rfl rfl (any_of HT_.out (by kernel_rfl)) (fun _ _ _ h=>h) (Or.inl ⟨by rfl,?_⟩) ?_ ?_
         rotate_left
         ·intro w'
          go_simp
          with_reducible rfl
         rotate_left
         ·simp only [Act.put,zz21,zz22,zz23,i64_w,i32_w]
          rfl
         refine pure_ (i:=2) (N:=some 16) (v:=?_) (a':=?_) #[T,T,T,F,F,F,F,F,F,F,F,F,F,F] rfl rfl (any_of HT_.out (by kernel_rfl)) (fun _ _ _ h=>h) (Or.inl ⟨by rfl,?_⟩) ?_ ?_
         rotate_left
         ·intro w'
          go_simp
          with_reducible rfl
         rotate_left
         ·simp only [Act.put,zz21,zz22,zz23,i64_w,i32_w]
          rfl
         refine pure_ (i:=3) (N:=some 17) (v:=?_) (a':=?_) #[T,T,T,T,F,F,F,F,F,F,F,F,F,F] rfl rfl (any_of HT_.out (by kernel_rfl)) (fun _ _ _ h=>h) (Or.inl ⟨by rfl,?_⟩) ?_ ?_
         rotate_left
         ·intro w'
          go_simp
          with_reducible rfl
         rotate_left
         ·simp only [Act.put,zz21,zz22,zz23,i64_w,i32_w]
          rfl
         refine pure_ (i:=4) (N:=some 18) (v:=?_) (a':=?_) #[T,T,T,T,T,F,F,F,F,F,F,F,F,F] rfl rfl (any_of HT_.out (by kernel_rfl)) (fun _ _ _ h=>h) (Or.inl ⟨by rfl,?_⟩) ?_ ?_
         rotate_left
         ·intro w'
          go_simp
          with_reducible rfl
         rotate_left
         ·simp only [Act.put,zz21,zz22,zz23,i64_w,i32_w]
          rfl
         refine pure_ (i:=6) (N:=some 20) (v:=?_) (a':=?_) #[T,T,T,T,T,F,T,F,F,F,F,F,F,F] rfl rfl (any_of HT_.out (by kernel_rfl)) (fun _ _ _ h=>h) (Or.inl ⟨by rfl,?_⟩) ?_ ?_
         rotate_left
         ·intro w'
          go_simp
          with_reducible rfl
         rotate_left
         ·simp only [Act.put,zz21,zz22,zz23,i64_w,i32_w]
          rfl
         refine pure_ (i:=7) (N:=some 21) (v:=?_) (a':=?_) #[T,T,T,T,T,F,T,T,F,F,F,F,F,F] rfl rfl (any_of HT_.out (by kernel_rfl)) (fun _ _ _ h=>h) (Or.inl ⟨by rfl,?_⟩) ?_ ?_
         rotate_left
         ·intro w'
          go_simp
          with_reducible rfl
         rotate_left
         ·simp only [Act.put,zz21,zz22,zz23,i64_w,i32_w]
          rfl
         refine pure_ (i:=9) (N:=some 23) (v:=?_) (a':=?_) #[T,T,T,T,T,F,T,T,F,T,F,F,F,F] rfl rfl (any_of HT_.out (by kernel_rfl)) (fun _ _ _ h=>h) (Or.inl ⟨by rfl,?_⟩) ?_ ?_
         rotate_left
         ·intro w'
          go_simp
          with_reducible rfl
         rotate_left
         ·simp only [Act.put,zz21,zz22,zz23,i64_w,i32_w]
          rfl
         refine pure_ (i:=10) (N:=some 24) (v:=?_) (a':=?_) #[T,T,T,T,T,F,T,T,F,T,T,F,F,F] rfl rfl (any_of HT_.out (by kernel_rfl)) (fun _ _ _ h=>h) (Or.inl ⟨by rfl,?_⟩) ?_ ?_
         rotate_left
         ·intro w'
          go_simp
          with_reducible rfl
         rotate_left
         ·simp only [Act.put,zz21,zz22,zz23,i64_w,i32_w]
          rfl
         refine take_ (i:=5) (N:=some 19) (v:=?_) (a':=?_) #[T,T,T,T,T,T,T,T,F,T,T,F,F,F] rfl rfl (take_ofW HT_.out HW_.out (by kernel_rfl)) (fun _ _ _ h=>h) (Or.inl ⟨by rfl,?_⟩) hHeld ?_ ?_
         rotate_left
         ·intro w' s0
          go_simp
          with_reducible rfl
         rotate_left
         ·simp only [Act.put,zz21,zz22,zz23,i64_w,i32_w]
          rfl
         refine pure_ (i:=8) (N:=some 22) (v:=?_) (a':=?_) #[T,T,T,T,T,T,T,T,T,T,T,F,F,F] rfl rfl (any_of HT_.out (by kernel_rfl)) (fun _ _ _ h=>h) (Or.inl ⟨by rfl,?_⟩) ?_ ?_
         rotate_left
         ·intro w'
          go_simp
          with_reducible rfl
         rotate_left
         ·simp only [Act.put,zz21,zz22,zz23,i64_w,i32_w]
          rfl
         refine pure_ (i:=11) (N:=some 25) (v:=?_) (a':=?_) #[T,T,T,T,T,T,T,T,T,T,T,T,F,F] rfl rfl (any_of HT_.out (by kernel_rfl)) (fun _ _ _ h=>h) (Or.inl ⟨by rfl,?_⟩) ?_ ?_
         rotate_left
         ·intro w'
          go_simp
          with_reducible rfl
         rotate_left
         ·simp only [Act.put,zz21,zz22,zz23,i64_w,i32_w]
          rfl
         refine pure_ (i:=12) (N:=some 26) (v:=?_) (a':=?_) #[T,T,T,T,T,T,T,T,T,T,T,T,T,F] rfl rfl (any_of HT_.out (by kernel_rfl)) (fun _ _ _ h=>h) (Or.inl ⟨by rfl,?_⟩) ?_ ?_
         rotate_left
         ·intro w'
          go_simp
          with_reducible rfl
         rotate_left
         ·simp only [Act.put,zz21,zz22,zz23,i64_w,i32_w]
          rfl
         refine last_ (i:=13) (N:=none) #[T,T,T,T,T,T,T,T,T,T,T,T,T,T] rfl rfl (one_of HT_.out (by kernel_rfl)) (by decide) (fun K hK=>?_)
         refine skip_ (w1:=?_) (by rfl) rfl ?_ ?_
         rotate_left
         ·go_simp
          rfl
         refine hK.out _ _ ?_
         clear hK K
         refine done_ (done_of HT_.out (by kernel_rfl)) ?_
         try go_wp2
         have n0_:Aside0 (Kd.R (Kd.int .u16) 96 (w33.setCell ⟨go13,(a1:Int).toNat,none⟩ (.int .u16 (Go.bits .or .u16 (Go.bits .andNot .u16 (rd t721 a1) (ji10)) (ji12)))) w.heap.size (fun _=>True) (.slice (some ⟨go13,0,none⟩) t721.length co34) y725):=⟨by (with_reducible repeat (first | apply zz12 | apply zz13 | apply zz14));exact HQ35.out⟩
         have n1_:Aside0 (Below w.heap.size w (w33.setCell ⟨go13,(a1:Int).toNat,none⟩ (.int .u16 (Go.bits .or .u16 (Go.bits .andNot .u16 (rd t721 a1) (ji10)) (ji12))))):=⟨by repeat first | exact HB.out | apply zz2 | apply zz0 | apply zz1 | refine zz3 ?_ GB13.out⟩
         (try clear HO723)
         (try clear HB)
         generalize (w33.setCell ⟨go13,(a1:Int).toNat,none⟩ (.int .u16 (Go.bits .or .u16 (Go.bits .andNot .u16 (rd t721 a1) (ji10)) (ji12))))=w36 at n0_ n1_ ⊢
         have HO723:=n0_
         have HB:=n1_
         clear n0_ n1_
         have n0_:=zz31 (zz14 HO723.out)
         have n1_:=zz31 (zz1 HB.out)
         clear HO723
         clear HB
         have HO723:=n0_
         have HB:=n1_
         clear n0_ n1_
         have p726:0≤(a2:Int):=zz29 (by first | (with_reducible assumption) | assumption)
         have q726:a2 < (y725.length:Int):=(by have h_:(a2:Int) < ((t721.length:Int):Int):=zz29 (by first | (with_reducible assumption) | assumption);first | (have e_:=(Kd.R_reads' HO723.out).1;omega) | simpa only [Ny725.out,List.length_set] using h_)
         have ql726:((a2:Int) < ((t721.length:Int):Int))=True:=eq_true (zz29 (by first | (with_reducible assumption) | assumption))
         obtain ⟨ad726,e726,hx726_0⟩:=Kd.at_int (Kd.R_reads' HO723.out).2.2 a2 p726 q726
         obtain rfl:(⟨go13,0,none⟩:Addr)=ad726:=(by injection e726)
         (first | simp only [add_plain] at hx726_0 | simp only [add_at] at hx726_0 | simp only [Addr.add,Nat.zero_add] at hx726_0 | skip)
         replace p726:=eq_true p726
         replace q726:=eq_true q726
         have p19:0≤(a2:Int):=zz29 (by first | (with_reducible assumption) | assumption)
         have q19:(a2:Int) < ((t721.length:Int):Int):=zz29 (by first | (with_reducible assumption) | assumption)
         obtain ⟨hx19_0,hf19_0⟩:=Kd.R_celln 0 HO723.out (a2:Int) p19 q19
         replace p19:=eq_true p19
         replace q19:=eq_true q19
         have HP38:=Kd.R_putn HO723.out (a2:Int) (Go.bits .or .u16 (Go.bits .andNot .u16 (rd y725 a2) (ji16)) (ji18))
         rw [← Ny727.out] at HP38
         have HQ38:=zz31 HP38
         clear HP38
         refine start_ (n:=14) (S:=fun w'=>w'.cell? ⟨go13,(a2).toNat,none⟩=some (.int .u16 (rd y725 a2))) (ds:=[13]) #[F,F,F,F,F,F,F,F,F,F,F,F,F,F] (by kernel_rfl) rfl rfl (hx726_0) (fun hHeld=>?_);refine with_tabW impl_table_exchanged.tab3 impl_table_exchanged.bits3 (fun HT_ HW_=>?_)
         generalize w36.drew=w37 at HO723 HB HQ35 HQ38 hf19_0 hx19_0 hx726_0 hHeld ⊢
         refine pure_ (i:=0) (N:=some 27) (v:=?_) (a':=?_) #[T,F,F,F,F,F,F,F,F,F,F,F,F,F] rfl rfl (any_of HT_.out (by kernel_rfl)) (fun _ _ _ h=>h) (Or.inl ⟨by rfl,?_⟩) ?_ ?_
         rotate_left
         ·intro w'
          go_simp
          with_reducible rfl
         rotate_left
         ·simp only [Act.put,zz21,zz22,zz23,i64_w,i32_w]
          rfl
         refine pure_ (i:=1) (N:=some 28) (v:=?_) (a':=?_) #[T,T,F,F,F,F,F,F,F,F,F,F,F,F] rfl rfl (any_of HT_.out (by kernel_rfl)) (fun _ _ _ h=>h) (Or.inl ⟨by rfl,?_⟩) ?_ ?_
         rotate_left
         ·intro w'
          go_simp
          with_reducible rfl
         rotate_left
         ·simp only [Act.put,zz21,zz22,zz23,i64_w,i32_w]
          rfl
         refine pure_ (i:=2) (N:=some 29) (v:=?_) (a':=?_) #[T,T,T,F,F,F,F,F,F,F,F,F,F,F] rfl rfl (any_of HT_.out (by kernel_rfl)) (fun _ _ _ h=>h) (Or.inl ⟨by rfl,?_⟩) ?_ ?_
         rotate_left
         ·intro w'
          go_simp
          with_reducible rfl
         rotate_left
         ·simp only [Act.put,zz21,zz22,zz23,i64_w,i32_w]
          rfl
         refine pure_ (i:=3) (N:=some 30) (v:=?_) (a':=?_) #[T,T,T,T,F,F,F,F,F,F,F,F,F,F] rfl rfl (any_of HT_.out (by kernel_rfl)) (fun _ _ _ h=>h) (Or.inl ⟨by rfl,?_⟩) ?_ ?_
         rotate_left
         ·intro w'
          go_simp
          with_reducible rfl
         rotate_left
         ·simp only [Act.put,zz21,zz22,zz23,i64_w,i32_w]
          rfl
         refine pure_ (i:=4) (N:=some 31) (v:=?_) (a':=?_) #[T,T,T,T,T,F,F,F,F,F,F,F,F,F] rfl rfl (any_of HT_.out (by kernel_rfl)) (fun _ _ _ h=>h) (Or.inl ⟨by rfl,?_⟩) ?_ ?_
         rotate_left
         ·intro w'
          go_simp
          with_reducible rfl
         rotate_left
         ·simp only [Act.put,zz21,zz22,zz23,i64_w,i32_w]
          rfl
         refine pure_ (i:=6) (N:=some 33) (v:=?_) (a':=?_) #[T,T,T,T,T,F,T,F,F,F,F,F,F,F] rfl rfl (any_of HT_.out (by kernel_rfl)) (fun _ _ _ h=>h) (Or.inl ⟨by rfl,?_⟩) ?_ ?_
         rotate_left
         ·intro w'
          go_simp
          with_reducible rfl
         rotate_left
         ·simp only [Act.put,zz21,zz22,zz23,i64_w,i32_w]
          rfl
         refine pure_ (i:=7) (N:=some 34) (v:=?_) (a':=?_) #[T,T,T,T,T,F,T,T,F,F,F,F,F,F] rfl rfl (any_of HT_.out (by kernel_rfl)) (fun _ _ _ h=>h) (Or.inl ⟨by rfl,?_⟩) ?_ ?_
         rotate_left
         ·intro w'
          go_simp
          with_reducible rfl
         rotate_left
         ·simp only [Act.put,zz21,zz22,zz23,i64_w,i32_w]
          rfl
         refine pure_ (i:=9) (N:=some 36) (v:=?_) (a':=?_) #[T,T,T,T,T,F,T,T,F,T,F,F,F,F] rfl rfl (any_of HT_.out (by kernel_rfl)) (fun _ _ _ h=>h) (Or.inl ⟨by rfl,?_⟩) ?_ ?_
         rotate_left
         ·intro w'
          go_simp
          with_reducible rfl
         rotate_left
         ·simp only [Act.put,zz21,zz22,zz23,i64_w,i32_w]
          rfl
         refine pure_ (i:=10) (N:=some 37) (v:=?_) (a':=?_) #[T,T,T,T,T,F,T,T,F,T,T,F,F,F] rfl rfl (any_of HT_.out (by kernel_rfl)) (fun _ _ _ h=>h) (Or.inl ⟨by rfl,?_⟩) ?_ ?_
         rotate_left
         ·intro w'
          go_simp
          with_reducible rfl
         rotate_left
         ·simp only [Act.put,zz21,zz22,zz23,i64_w,i32_w]
          rfl
         refine take_ (i:=5) (N:=some 32) (v:=?_) (a':=?_) #[T,T,T,T,T,T,T,T,F,T,T,F,F,F] rfl rfl (take_ofW HT_.out HW_.out (by kernel_rfl)) (fun _ _ _ h=>h) (Or.inl ⟨by rfl,?_⟩) hHeld ?_ ?_
         rotate_left
         ·intro w' s0
          go_simp
          with_reducible rfl
         rotate_left
         ·simp only [Act.put,zz21,zz22,zz23,i64_w,i32_w]
          rfl
         refine pure_ (i:=8) (N:=some 35) (v:=?_) (a':=?_) #[T,T,T,T,T,T,T,T,T,T,T,F,F,F] rfl rfl (any_of HT_.out (by kernel_rfl)) (fun _ _ _ h=>h) (Or.inl ⟨by rfl,?_⟩) ?_ ?_
         rotate_left
         ·intro w'
          go_simp
          with_reducible rfl
         rotate_left
         ·simp only [Act.put,zz21,zz22,zz23,i64_w,i32_w]
          rfl
         refine pure_ (i:=11) (N:=some 38) (v:=?_) (a':=?_) #[T,T,T,T,T,T,T,T,T,T,T,T,F,F] rfl rfl (any_of HT_.out (by kernel_rfl)) (fun _ _ _ h=>h) (Or.inl ⟨by rfl,?_⟩) ?_ ?_
         rotate_left
         ·intro w'
          go_simp
          with_reducible rfl
         rotate_left
         ·simp only [Act.put,zz21,zz22,zz23,i64_w,i32_w]
          rfl
         refine pure_ (i:=12) (N:=some 39) (v:=?_) (a':=?_) #[T,T,T,T,T,T,T,T,T,T,T,T,T,F] rfl rfl (any_of HT_.out (by kernel_rfl)) (fun _ _ _ h=>h) (Or.inl ⟨by rfl,?_⟩) ?_ ?_
         rotate_left
         ·intro w'
          go_simp
          with_reducible rfl
         rotate_left
         ·simp only [Act.put,zz21,zz22,zz23,i64_w,i32_w]
          rfl
         refine last_ (i:=13) (N:=none) #[T,T,T,T,T,T,T,T,T,T,T,T,T,T] rfl rfl (one_of HT_.out (by kernel_rfl)) (by decide) (fun K hK=>?_)
         refine skip_ (w1:=?_) (by rfl) rfl ?_ ?_
         rotate_left
         ·go_simp
          rfl
         refine hK.out _ _ ?_
         clear hK K
         refine done_ (done_of HT_.out (by kernel_rfl)) ?_
         try go_wp2
         have n0_:Aside0 (Kd.R (Kd.int .u16) 96 (w37.setCell ⟨go13,(a2:Int).toNat,none⟩ (.int .u16 (Go.bits .or .u16 (Go.bits .andNot .u16 (rd y725 a2) (ji16)) (ji18)))) w.heap.size (fun _=>True) (.slice (some ⟨go13,0,none⟩) t721.length co34) y727):=⟨by (with_reducible repeat (first | apply zz12 | apply zz13 | apply zz14));exact HQ38.out⟩
         have n1_:Aside0 (Below w.heap.size w (w37.setCell ⟨go13,(a2:Int).toNat,none⟩ (.int .u16 (Go.bits .or .u16 (Go.bits .andNot .u16 (rd y725 a2) (ji16)) (ji18))))):=⟨by repeat first | exact HB.out | apply zz2 | apply zz0 | apply zz1 | refine zz3 ?_ GB13.out⟩
         (try clear HO723)
         (try clear HB)
         generalize (w37.setCell ⟨go13,(a2:Int).toNat,none⟩ (.int .u16 (Go.bits .or .u16 (Go.bits .andNot .u16 (rd y725 a2) (ji16)) (ji18))))=w39 at n0_ n1_ ⊢
         have HO723:=n0_
         have HB:=n1_
         clear n0_ n1_
         have n0_:=zz31 (zz14 HO723.out)
         have n1_:=zz31 (zz1 HB.out)
         clear HO723
         clear HB
         have HO723:=n0_
         have HB:=n1_
         clear n0_ n1_
         have p728:0≤(a3:Int):=zz29 (by first | (with_reducible assumption) | assumption)
         have q728:a3 < (y727.length:Int):=(by have h_:(a3:Int) < ((t721.length:Int):Int):=zz29 (by first | (with_reducible assumption) | assumption);first | (have e_:=(Kd.R_reads' HO723.out).1;omega) | simpa only [Ny725.out,Ny727.out,List.length_set] using h_)
         have ql728:((a3:Int) < ((t721.length:Int):Int))=True:=eq_true (zz29 (by first | (with_reducible assumption) | assumption))
         obtain ⟨ad728,e728,hx728_0⟩:=Kd.at_int (Kd.R_reads' HO723.out).2.2 a3 p728 q728
         obtain rfl:(⟨go13,0,none⟩:Addr)=ad728:=(by injection e728)
         (first | simp only [add_plain] at hx728_0 | simp only [add_at] at hx728_0 | simp only [Addr.add,Nat.zero_add] at hx728_0 | skip)
         replace p728:=eq_true p728
         replace q728:=eq_true q728
         have p25:0≤(a3:Int):=zz29 (by first | (with_reducible assumption) | assumption)
         have q25:(a3:Int) < ((t721.length:Int):Int):=zz29 (by first | (with_reducible assumption) | assumption)
         obtain ⟨hx25_0,hf25_0⟩:=Kd.R_celln 0 HO723.out (a3:Int) p25 q25
         replace p25:=eq_true p25
         replace q25:=eq_true q25
         have HP41:=Kd.R_putn HO723.out (a3:Int) (Go.bits .or .u16 (Go.bits .andNot .u16 (rd y727 a3) (ji18)) (ji16))
         rw [← Ny729.out] at HP41
         have HQ41:=zz31 HP41
         clear HP41
         refine start_ (n:=14) (S:=fun w'=>w'.cell? ⟨go13,(a3).toNat,none⟩=some (.int .u16 (rd y727 a3))) (ds:=[13]) #[F,F,F,F,F,F,F,F,F,F,F,F,F,F] (by kernel_rfl) rfl rfl (hx728_0) (fun hHeld=>?_);refine with_tabW impl_table_exchanged.tab4 impl_table_exchanged.bits4 (fun HT_ HW_=>?_)
         generalize w39.drew=w40 at HO723 HB HQ38 HQ41 hf25_0 hx25_0 hx728_0 hHeld ⊢
         refine pure_ (i:=0) (N:=some 40) (v:=?_) (a':=?_) #[T,F,F,F,F,F,F,F,F,F,F,F,F,F] rfl rfl (any_of HT_.out (by kernel_rfl)) (fun _ _ _ h=>h) (Or.inl ⟨by rfl,?_⟩) ?_ ?_
         rotate_left
         ·intro w'
          go_simp
          with_reducible rfl
         rotate_left
         ·simp only [Act.put,zz21,zz22,zz23,i64_w,i32_w]
          rfl
         refine pure_ (i:=1) (N:=some 41) (v:=?_) (a':=?_) #[T,T,F,F,F,F,F,F,F,F,F,F,F,F] rfl rfl (any_of HT_.out (by kernel_rfl)) (fun _ _ _ h=>h) (Or.inl ⟨by rfl,?_⟩) ?_ ?_
         rotate_left
         ·intro w'
          go_simp
          with_reducible rfl
         rotate_left
         ·simp only [Act.put,zz21,zz22,zz23,i64_w,i32_w]
          rfl
         refine pure_ (i:=2) (N:=some 42) (v:=?_) (a':=?_) #[T,T,T,F,F,F,F,F,F,F,F,F,F,F] rfl rfl (any_of HT_.out (by kernel_rfl)) (fun _ _ _ h=>h) (Or.inl ⟨by rfl,?_⟩) ?_ ?_
         rotate_left
         ·intro w'
          go_simp
          with_reducible rfl
         rotate_left
         ·simp only [Act.put,zz21,zz22,zz23,i64_w,i32_w]
          rfl
         refine pure_ (i:=3) (N:=some 43) (v:=?_) (a':=?_) #[T,T,T,T,F,F,F,F,F,F,F,F,F,F] rfl rfl (any_of HT_.out (by kernel_rfl)) (fun _ _ _ h=>h) (Or.inl ⟨by rfl,?_⟩) ?_ ?_
         rotate_left
         ·intro w'
          go_simp
          with_reducible rfl
         rotate_left
         ·simp only [Act.put,zz21,zz22,zz23,i64_w,i32_w]
          rfl
         refine pure_ (i:=4) (N:=some 44) (v:=?_) (a':=?_) #[T,T,T,T,T,F,F,F,F,F,F,F,F,F] rfl rfl (any_of HT_.out (by kernel_rfl)) (fun _ _ _ h=>h) (Or.inl ⟨by rfl,?_⟩) ?_ ?_
         rotate_left
         ·intro w'
          go_simp
          with_reducible rfl
         rotate_left
         ·simp only [Act.put,zz21,zz22,zz23,i64_w,i32_w]
          rfl
         refine pure_ (i:=6) (N:=some 46) (v:=?_) (a':=?_) #[T,T,T,T,T,F,T,F,F,F,F,F,F,F] rfl rfl (any_of HT_.out (by kernel_rfl)) (fun _ _ _ h=>h) (Or.inl ⟨by rfl,?_⟩) ?_ ?_
         rotate_left
         ·intro w'
          go_simp
          with_reducible rfl
         rotate_left
         ·simp only [Act.put,zz21,zz22,zz23,i64_w,i32_w]
          rfl
         refine pure_ (i:=7) (N:=some 47) (v:=?_) (a':=?_) #[T,T,T,T,T,F,T,T,F,F,F,F,F,F] rfl rfl (any_of HT_.out (by kernel_rfl)) (fun _ _ _ h=>h) (Or.inl ⟨by rfl,?_⟩) ?_ ?_
         rotate_left
         ·intro w'
          go_simp
          with_reducible rfl
         rotate_left
         ·simp only [Act.put,zz21,zz22,zz23,i64_w,i32_w]
          rfl
         refine pure_ (i:=9) (N:=some 49) (v:=?_) (a':=?_) #[T,T,T,T,T,F,T,T,F,T,F,F,F,F] rfl rfl (any_of HT_.out (by kernel_rfl)) (fun _ _ _ h=>h) (Or.inl ⟨by rfl,?_⟩) ?_ ?_
         rotate_left
         ·intro w'
          go_simp
          with_reducible rfl
         rotate_left
         ·simp only [Act.put,zz21,zz22,zz23,i64_w,i32_w]
          rfl
         refine pure_ (i:=10) (N:=some 50) (v:=?_) (a':=?_) #[T,T,T,T,T,F,T,T,F,T,T,F,F,F] rfl rfl (any_of HT_.out (by kernel_rfl)) (fun _ _ _ h=>h) (Or.inl ⟨by rfl,?_⟩) ?_ ?_
         rotate_left
         ·intro w'
          go_simp
          with_reducible rfl
         rotate_left
         ·simp only [Act.put,zz21,zz22,zz23,i64_w,i32_w]
          rfl
         refine take_ (i:=5) (N:=some 45) (v:=?_) (a':=?_) #[T,T,T,T,T,T,T,T,F,T,T,F,F,F] rfl rfl (take_ofW HT_.out HW_.out (by kernel_rfl)) (fun _ _ _ h=>h) (Or.inl ⟨by rfl,?_⟩) hHeld ?_ ?_
         rotate_left
         ·intro w' s0
          go_simp
          with_reducible rfl
         rotate_left
         ·simp only [Act.put,zz21,zz22,zz23,i64_w,i32_w]
          rfl
         refine pure_ (i:=8) (N:=some 48) (v:=?_) (a':=?_) #[T,T,T,T,T,T,T,T,T,T,T,F,F,F] rfl rfl (any_of HT_.out (by kernel_rfl)) (fun _ _ _ h=>h) (Or.inl ⟨by rfl,?_⟩) ?_ ?_
         rotate_left
         ·intro w'
          go_simp
          with_reducible rfl
         rotate_left
         ·simp only [Act.put,zz21,zz22,zz23,i64_w,i32_w]
          rfl
         refine pure_ (i:=11) (N:=some 51) (v:=?_) (a':=?_) #[T,T,T,T,T,T,T,T,T,T,T,T,F,F] rfl rfl (any_of HT_.out (by kernel_rfl)) (fun _ _ _ h=>h) (Or.inl ⟨by rfl,?_⟩) ?_ ?_
         rotate_left
         ·intro w'
          go_simp
          with_reducible rfl
         rotate_left
         ·simp only [Act.put,zz21,zz22,zz23,i64_w,i32_w]
          rfl
         refine pure_ (i:=12) (N:=some 52) (v:=?_) (a':=?_) #[T,T,T,T,T,T,T,T,T,T,T,T,T,F] rfl rfl (any_of HT_.out (by kernel_rfl)) (fun _ _ _ h=>h) (Or.inl ⟨by rfl,?_⟩) ?_ ?_
         rotate_left
         ·intro w'
          go_simp
          with_reducible rfl
         rotate_left
         ·simp only [Act.put,zz21,zz22,zz23,i64_w,i32_w]
          rfl
         refine last_ (i:=13) (N:=none) #[T,T,T,T,T,T,T,T,T,T,T,T,T,T] rfl rfl (one_of HT_.out (by kernel_rfl)) (by decide) (fun K hK=>?_)
         refine skip_ (w1:=?_) (by rfl) rfl ?_ ?_
         rotate_left
         ·go_simp
          rfl
         refine hK.out _ _ ?_
         clear hK K
         refine done_ (done_of HT_.out (by kernel_rfl)) ?_
         try go_wp2
         have n0_:Aside0 (Kd.R (Kd.int .u16) 96 (w40.setCell ⟨go13,(a3:Int).toNat,none⟩ (.int .u16 (Go.bits .or .u16 (Go.bits .andNot .u16 (rd y727 a3) (ji18)) (ji16)))) w.heap.size (fun _=>True) (.slice (some ⟨go13,0,none⟩) t721.length co34) y729):=⟨by (with_reducible repeat (first | apply zz12 | apply zz13 | apply zz14));exact HQ41.out⟩
         have n1_:Aside0 (Below w.heap.size w (w40.setCell ⟨go13,(a3:Int).toNat,none⟩ (.int .u16 (Go.bits .or .u16 (Go.bits .andNot .u16 (rd y727 a3) (ji18)) (ji16))))):=⟨by repeat first | exact HB.out | apply zz2 | apply zz0 | apply zz1 | refine zz3 ?_ GB13.out⟩
         (try clear HO723)
         (try clear HB)
         generalize (w40.setCell ⟨go13,(a3:Int).toNat,none⟩ (.int .u16 (Go.bits .or .u16 (Go.bits .andNot .u16 (rd y727 a3) (ji18)) (ji16))))=w42 at n0_ n1_ ⊢
         have HO723:=n0_
         have HB:=n1_
         clear n0_ n1_
         have n0_:=zz31 (zz14 HO723.out)
         have n1_:=zz31 (zz1 HB.out)
         clear HO723
         clear HB
         have HO723:=n0_
         have HB:=n1_
         clear n0_ n1_
         have p730:0≤(a4:Int):=zz29 (by first | (with_reducible assumption) | assumption)
         have q730:a4 < (y729.length:Int):=(by have h_:(a4:Int) < ((t721.length:Int):Int):=zz29 (by first | (with_reducible assumption) | assumption);first | (have e_:=(Kd.R_reads' HO723.out).1;omega) | simpa only [Ny725.out,Ny727.out,Ny729.out,List.length_set] using h_)
         have ql730:((a4:Int) < ((t721.length:Int):Int))=True:=eq_true (zz29 (by first | (with_reducible assumption) | assumption))
         obtain ⟨ad730,e730,hx730_0⟩:=Kd.at_int (Kd.R_reads' HO723.out).2.2 a4 p730 q730
         obtain rfl:(⟨go13,0,none⟩:Addr)=ad730:=(by injection e730)
         (first | simp only [add_plain] at hx730_0 | simp only [add_at] at hx730_0 | simp only [Addr.add,Nat.zero_add] at hx730_0 | skip)
         replace p730:=eq_true p730
         replace q730:=eq_true q730
         have p31:0≤(a4:Int):=zz29 (by first | (with_reducible assumption) | assumption)
         have q31:(a4:Int) < ((t721.length:Int):Int):=zz29 (by first | (with_reducible assumption) | assumption)
         obtain ⟨hx31_0,hf31_0⟩:=Kd.R_celln 0 HO723.out (a4:Int) p31 q31
         replace p31:=eq_true p31
         replace q31:=eq_true q31
         have HP44:=Kd.R_putn HO723.out (a4:Int) (Go.bits .or .u16 (Go.bits .andNot .u16 (rd y729 a4) (ji12)) (ji10))
         rw [← Ny731.out] at HP44
         have HQ44:=zz31 HP44
         clear HP44
         refine start_ (n:=14) (S:=fun w'=>w'.cell? ⟨go13,(a4).toNat,none⟩=some (.int .u16 (rd y729 a4))) (ds:=[13]) #[F,F,F,F,F,F,F,F,F,F,F,F,F,F] (by kernel_rfl) rfl rfl (hx730_0) (fun hHeld=>?_);refine with_tabW impl_table_exchanged.tab5 impl_table_exchanged.bits5 (fun HT_ HW_=>?_)
         generalize w42.drew=w43 at HO723 HB HQ41 HQ44 hf31_0 hx31_0 hx730_0 hHeld ⊢
         refine pure_ (i:=0) (N:=some 53) (v:=?_) (a':=?_) #[T,F,F,F,F,F,F,F,F,F,F,F,F,F] rfl rfl (any_of HT_.out (by kernel_rfl)) (fun _ _ _ h=>h) (Or.inl ⟨by rfl,?_⟩) ?_ ?_
         rotate_left
         ·intro w'
          go_simp
          with_reducible rfl
         rotate_left
         ·simp only [Act.put,zz21,zz22,zz23,i64_w,i32_w]
          rfl
         refine pure_ (i:=1) (N:=some 54) (v:=?_) (a':=?_) #[T,T,F,F,F,F,F,F,F,F,F,F,F,F] rfl rfl (any_of HT_.out (by kernel_rfl)) (fun _ _ _ h=>h) (Or.inl ⟨by rfl,?_⟩) ?_ ?_
         rotate_left
         ·intro w'
          go_simp
          with_reducible rfl
         rotate_left
         ·simp only [Act.put,zz21,zz22,zz23,i64_w,i32_w]
          rfl
         refine pure_ (i:=2) (N:=some 55) (v:=?_) (a':=?_) #[T,T,T,F,F,F,F,F,F,F,F,F,F,F] rfl rfl (any_of HT_.out (by kernel_rfl)) (fun _ _ _ h=>h) (Or.inl ⟨by rfl,?_⟩) ?_ ?_
         rotate_left
         ·intro w'
          go_simp
          with_reducible rfl
         rotate_left
         ·simp only [Act.put,zz21,zz22,zz23,i64_w,i32_w]
          rfl
         refine pure_ (i:=3) (N:=some 56) (v:=?_) (a':=?_) #[T,T,T,T,F,F,F,F,F,F,F,F,F,F] rfl rfl (any_of HT_.out (by kernel_rfl)) (fun _ _ _ h=>h) (Or.inl ⟨by rfl,?_⟩) ?_ ?_
         rotate_left
         ·intro w'
          go_simp
          with_reducible rfl
         rotate_left
         ·simp only [Act.put,zz21,zz22,zz23,i64_w,i32_w]
          rfl
         refine pure_ (i:=4) (N:=some 57) (v:=?_) (a':=?_) #[T,T,T,T,T,F,F,F,F,F,F,F,F,F] rfl rfl (any_of HT_.out (by kernel_rfl)) (fun _ _ _ h=>h) (Or.inl ⟨by rfl,?_⟩) ?_ ?_
         rotate_left
         ·intro w'
          go_simp
          with_reducible rfl
         rotate_left
         ·simp only [Act.put,zz21,zz22,zz23,i64_w,i32_w]
          rfl
         refine pure_ (i:=6) (N:=some 59) (v:=?_) (a':=?_) #[T,T,T,T,T,F,T,F,F,F,F,F,F,F] rfl rfl (any_of HT_.out (by kernel_rfl)) (fun _ _ _ h=>h) (Or.inl ⟨by rfl,?_⟩) ?_ ?_
         rotate_left
         ·intro w'
          go_simp
          with_reducible rfl
         rotate_left
         ·simp only [Act.put,zz21,zz22,zz23,i64_w,i32_w]
          rfl
         refine pure_ (i:=7) (N:=some 60) (v:=?_) (a':=?_) #[T,T,T,T,T,F,T,T,F,F,F,F,F,F] rfl rfl (any_of HT_.out (by kernel_rfl)) (fun _ _ _ h=>h) (Or.inl ⟨by rfl,?_⟩) ?_ ?_
         rotate_left
         ·intro w'
          go_simp
          with_reducible rfl
         rotate_left
         ·simp only [Act.put,zz21,zz22,zz23,i64_w,i32_w]
          rfl
         refine pure_ (i:=9) (N:=some 62) (v:=?_) (a':=?_) #[T,T,T,T,T,F,T,T,F,T,F,F,F,F] rfl rfl (any_of HT_.out (by kernel_rfl)) (fun _ _ _ h=>h) (Or.inl ⟨by rfl,?_⟩) ?_ ?_
         rotate_left
         ·intro w'
          go_simp
          with_reducible rfl
         rotate_left
         ·simp only [Act.put,zz21,zz22,zz23,i64_w,i32_w]
          rfl
         refine pure_ (i:=10) (N:=some 63) (v:=?_) (a':=?_) #[T,T,T,T,T,F,T,T,F,T,T,F,F,F] rfl rfl (any_of HT_.out (by kernel_rfl)) (fun _ _ _ h=>h) (Or.inl ⟨by rfl,?_⟩) ?_ ?_
         rotate_left
         ·intro w'
          go_simp
          with_reducible rfl
         rotate_left
         ·simp only [Act.put,zz21,zz22,zz23,i64_w,i32_w]
          rfl
         refine take_ (i:=5) (N:=some 58) (v:=?_) (a':=?_) #[T,T,T,T,T,T,T,T,F,T,T,F,F,F] rfl rfl (take_ofW HT_.out HW_.out (by kernel_rfl)) (fun _ _ _ h=>h) (Or.inl ⟨by rfl,?_⟩) hHeld ?_ ?_
         rotate_left
         ·intro w' s0
          go_simp
          with_reducible rfl
         rotate_left
         ·simp only [Act.put,zz21,zz22,zz23,i64_w,i32_w]
          rfl
         refine pure_ (i:=8) (N:=some 61) (v:=?_) (a':=?_) #[T,T,T,T,T,T,T,T,T,T,T,F,F,F] rfl rfl (any_of HT_.out (by kernel_rfl)) (fun _ _ _ h=>h) (Or.inl ⟨by rfl,?_⟩) ?_ ?_
         rotate_left
         ·intro w'
          go_simp
          with_reducible rfl
         rotate_left
         ·simp only [Act.put,zz21,zz22,zz23,i64_w,i32_w]
          rfl
         refine pure_ (i:=11) (N:=some 64) (v:=?_) (a':=?_) #[T,T,T,T,T,T,T,T,T,T,T,T,F,F] rfl rfl (any_of HT_.out (by kernel_rfl)) (fun _ _ _ h=>h) (Or.inl ⟨by rfl,?_⟩) ?_ ?_
         rotate_left
         ·intro w'
          go_simp
          with_reducible rfl
         rotate_left
         ·simp only [Act.put,zz21,zz22,zz23,i64_w,i32_w]
          rfl
         refine pure_ (i:=12) (N:=some 65) (v:=?_) (a':=?_) #[T,T,T,T,T,T,T,T,T,T,T,T,T,F] rfl rfl (any_of HT_.out (by kernel_rfl)) (fun _ _ _ h=>h) (Or.inl ⟨by rfl,?_⟩) ?_ ?_
         rotate_left
         ·intro w'
          go_simp
          with_reducible rfl
         rotate_left
         ·simp only [Act.put,zz21,zz22,zz23,i64_w,i32_w]
          rfl
         refine last_ (i:=13) (N:=none) #[T,T,T,T,T,T,T,T,T,T,T,T,T,T] rfl rfl (one_of HT_.out (by kernel_rfl)) (by decide) (fun K hK=>?_)
         refine skip_ (w1:=?_) (by rfl) rfl ?_ ?_
         rotate_left
         ·go_simp
          rfl
         refine hK.out _ _ ?_
         clear hK K
         refine done_ (done_of HT_.out (by kernel_rfl)) ?_
         try go_wp2
         go_ret
         exact ⟨_,by first | rfl | (simp [errW_none,errW_some] <;> rfl) | (simp only [← hji10,← hji12,← hji16,← hji18];first | rfl | (simp [errW_none,errW_some] <;> rfl)) | (simp [*,errW_none,errW_some] <;> rfl),by (with_reducible repeat (first | apply zz12 | apply zz13 | apply zz14));exact HQ44.out,by repeat first | exact HB.out | apply zz2 | apply zz0 | apply zz1 | refine zz3 ?_ GB13.out⟩
        ·rw [if_neg c26] at H
         exact absurd H (by simp)
       ·rw [if_neg c20] at H
        exact absurd H (by simp)
      ·rw [if_neg c17] at H
       exact absurd H (by simp)
     ·rw [if_neg c14] at H
      exact absurd H (by simp)
    ·rw [if_neg c11] at H
     exact absurd H (by simp)
   ·rw [if_neg c9] at H
    exact absurd H (by simp)
  ·rw [if_neg c8] at H
   exact absurd H (by simp)
 ·rw [if_neg c7] at H
  exact absurd H (by simp)

/-! ### impl_ExchangePairs: function 37 -/
def impl_ExchangePairs.j0:Nat→Int→Int→Int→Int→Bool→Int→List (S80)→Option (Int × (List (S80)) × Bool)
 | 0,_,_,_,_,_,_,_=>none
 | k+1,x1,x2,x3,x4,x29,x733000,x733001=>if x29=true then (some (0,([]:List (S80)),false)) else ((impl_Party_table.f k x733000 x733001).bind fun t742=>((impl_table_exchanged.f t742 x1 x2 x3 x4).bind fun t745=>((impl_table_party.f k t745).bind fun bt748=>(some (bt748.1,bt748.2,true)))))
def impl_ExchangePairs.f (k:Nat) (a0_0:Int) (l0_1:List (S80)) (a1:Int) (a2:Int) (a3:Int) (a4:Int):Option (Int × (List (S80)) × Bool):=(impl_arePeople.f k a0_0 l0_1 (([a1,a2,a3,a4]:List Int))).bind fun t737=>(if t737=true then ((impl_Party_table.f k a0_0 l0_1).bind fun t738=>((impl_table_canExchange.f t738 a1 a2 a3 a4).bind fun t741=>(impl_ExchangePairs.j0 k a1 a2 a3 a4 (!t741) a0_0 l0_1))) else (impl_ExchangePairs.j0 k a1 a2 a3 a4 true a0_0 l0_1))
theorem impl_ExchangePairs.mono_l:∀ k,(∀ y0 y1 y2 y3 y4 y5 y6,LeO (impl_ExchangePairs.j0 k y0 y1 y2 y3 y4 y5 y6) (impl_ExchangePairs.j0 (k+1) y0 y1 y2 y3 y4 y5 y6))
 | 0=>fun _ _ _ _ _ _ _ r h=>by simp [impl_ExchangePairs.j0] at h
 | k+1=>by
  have ih0:=impl_ExchangePairs.mono_l k
  ·intro y0 y1 y2 y3 y4 y5 y6
   unfold impl_ExchangePairs.j0
   repeat' first
   | (with_reducible exact ih0 _ _ _ _ _ _ _)
   | (with_reducible exact impl_Party_table.mono _ _ _)
   | (with_reducible exact impl_arePeople.mono _ _ _ _)
   | (with_reducible exact impl_table_party.mono _ _)
   | (with_reducible exact LeO.refl _)
   | (with_reducible exact LeO.none _)
   | (with_reducible refine LeO.ite ?_ ?_)
   | (with_reducible refine LeO.bind ?_ (fun _=>?_))
   | exact ih0 _ _ _ _ _ _ _
   | exact impl_Party_table.mono _ _ _
   | exact impl_arePeople.mono _ _ _ _
   | exact impl_table_party.mono _ _
   | exact LeO.none _
   | refine LeO.ite ?_ ?_
   | refine LeO.bind ?_ (fun _=>?_)
theorem impl_ExchangePairs.mono:∀ a0 a1 a2 a3 a4 a5 k,LeO (impl_ExchangePairs.f k a0 a1 a2 a3 a4 a5) (impl_ExchangePairs.f (k+1) a0 a1 a2 a3 a4 a5):=by
 intro a0 a1 a2 a3 a4 a5 k
 have ih0:=impl_ExchangePairs.mono_l k
 unfold impl_ExchangePairs.f
 repeat' first
   | (with_reducible exact ih0 _ _ _ _ _ _ _)
   | (with_reducible exact impl_Party_table.mono _ _ _)
   | (with_reducible exact impl_arePeople.mono _ _ _ _)
   | (with_reducible exact impl_table_party.mono _ _)
   | (with_reducible exact LeO.refl _)
   | (with_reducible exact LeO.none _)
   | (with_reducible refine LeO.ite ?_ ?_)
   | (with_reducible refine LeO.bind ?_ (fun _=>?_))
   | exact ih0 _ _ _ _ _ _ _
   | exact impl_Party_table.mono _ _ _
   | exact impl_arePeople.mono _ _ _ _
   | exact impl_table_party.mono _ _
   | exact LeO.none _
   | refine LeO.ite ?_ ?_
   | refine LeO.bind ?_ (fun _=>?_)
set_option maxHeartbeats 8000000 in
set_option maxRecDepth 100000 in
theorem impl_ExchangePairs.calls (k:Nat) (a0_0:Int) (A0_1:Option Addr) (c0_1:Nat) (l0_1:List (S80)) (a1:Int) (a2:Int) (a3:Int) (a4:Int) (r1:Int) (r2:List (S80)) (r3:Bool) (w:World) (hr0_1:Kd.C k80 w A0_1 l0_1.length l0_1) (hc0_1:l0_1.length≤c0_1) (h:impl_ExchangePairs.f k a0_0 l0_1 a1 a2 a3 a4=some (r1,r2,r3)) :
  Calls Try.prog 37 #[.agg #[.int .i64 a0_0,.slice A0_1 l0_1.length c0_1],.int .i64 a1,.int .i64 a2,.int .i64 a3,.int .i64 a4] w fun e w'=>∃ v1_:Value,e=.returned (.tuple #[.agg #[.int .i64 r1,v1_],.bool r3])∧Kd.R k80 80 w' w.heap.size (fun _=>True) v1_ r2∧Below w.heap.size w w':=by
 have hu30:=Try.underlying30
 have HR0_1:=zz31 hr0_1
 have HC0_1:=zz31 hc0_1
 clear hr0_1 hc0_1
 have HB:=zz31 (Below.refl w.heap.size w)
 have H:((impl_arePeople.f k a0_0 l0_1 (([a1,a2,a3,a4]:List Int))).bind fun t737=>(if t737=true then ((impl_Party_table.f k a0_0 l0_1).bind fun t738=>((impl_table_canExchange.f t738 a1 a2 a3 a4).bind fun t741=>(impl_ExchangePairs.j0 k a1 a2 a3 a4 (!t741) a0_0 l0_1))) else (impl_ExchangePairs.j0 k a1 a2 a3 a4 true a0_0 l0_1)))=some (r1,r2,r3):=h
 clear h
 have HC6:=zz31 H
 clear H
 go_enter Try.func37,Try.ntmps37
 go_upto_region 1 with (first | ((with_reducible refine gate_dst (N:=5) rfl ?_);refine box_event ?hg (N:=5) ?hd (cs:=#[.int .i64 a0_0,.slice A0_1 l0_1.length c0_1]) (t:=30) ?hr ?_;(case hd=>rfl);(case hg=>rfl);(case hr=>first | (go_simp;done) | (go_simp;rfl));intro gb732 hg w7 hbox hb;have n0_:=zz31 (zz4 (by repeat first | exact HB.out | apply zz2 | apply zz0 | apply zz1) hb);have n1_:=zz31 (hbox);have n2_:=zz31 ((by rw [hg];exact (zz5 (by repeat first | exact HB.out | apply zz2 | apply zz0 | apply zz1)):w.heap.size≤gb732));have n3_:=zz31 ((by rw [hg];exact (zz5 (by repeat first | exact HB.out | apply zz2 | apply zz0 | apply zz1)):w.heap.size≤gb732));clear HB;have HB:=n0_;have BK732:=n1_;have GW732:=n2_;have GE732:=n3_;clear n0_ n1_ n2_ n3_;clear hb hbox hg) | ((with_reducible refine gate_dst (N:=10) rfl ?_);refine box_event ?hg (N:=10) ?hd (cs:=#[.int .i64 0,.slice none 0 0]) (t:=30) ?hr ?_;(case hd=>rfl);(case hg=>rfl);(case hr=>first | (go_simp;done) | (go_simp;rfl));intro gb733 hg w8 hbox hb;have n0_:=zz31 (zz11 (g:=gb732) (o:=.cells #[.int .i64 a0_0,.slice A0_1 l0_1.length c0_1] 30 (0,0)) (by (with_reducible repeat (first | refine zz6 ?_ _ | refine zz7 ?_ | refine zz8 ?_ _));exact BK732.out) hb);have n1_:=zz31 (zz4 (by repeat first | exact HB.out | apply zz2 | apply zz0 | apply zz1 | refine zz3 ?_ GE732.out) hb);have n2_:=zz31 (hbox);have n3_:=zz31 ((by rw [hg];exact (zz5 (by repeat first | exact HB.out | apply zz2 | apply zz0 | apply zz1 | refine zz3 ?_ GE732.out)):w.heap.size≤gb733));have n4_:=zz31 ((by rw [hg];exact (zz5 (by repeat first | exact HB.out | apply zz2 | apply zz0 | apply zz1 | refine zz3 ?_ GE732.out)):w.heap.size≤gb733));have n5_:=zz31 ((by rw [hg];exact Nat.ne_of_lt (blk_lt (g:=gb732) (o:=.cells #[.int .i64 a0_0,.slice A0_1 l0_1.length c0_1] 30 (0,0)) (by (with_reducible repeat (first | refine zz6 ?_ _ | refine zz7 ?_ | refine zz8 ?_ _));exact BK732.out)):gb732 ≠ gb733));have n6_:=zz31 ((by rw [hg];exact Nat.ne_of_gt (blk_lt (g:=gb732) (o:=.cells #[.int .i64 a0_0,.slice A0_1 l0_1.length c0_1] 30 (0,0)) (by (with_reducible repeat (first | refine zz6 ?_ _ | refine zz7 ?_ | refine zz8 ?_ _));exact BK732.out)):gb733 ≠ gb732));clear BK732;clear HB;have BK732:=n0_;have HB:=n1_;have BK733:=n2_;have GW733:=n3_;have GE733:=n4_;have NB732_733:=n5_;have NB733_732:=n6_;clear n0_ n1_ n2_ n3_ n4_ n5_ n6_;clear hb hbox hg))
 (try simp only [Act.put,zz21,zz22,zz23])
 go_cut [29] (fun v29 wc=>∃ (kq:Nat) (x29_5:Bool),v29=.bool x29_5∧Aside0 (impl_ExchangePairs.j0 kq a1 a2 a3 a4 x29_5 a0_0 l0_1=some (r1,r2,r3))∧Aside0 (kq≤k)∧Aside0 (wc.heap[gb732]?=some (.cells #[.int .i64 a0_0,(.slice A0_1 l0_1.length c0_1)] 30 (0,0)))∧Aside0 (wc.heap[gb733]?=some (.cells #[.int .i64 0,(.slice none 0 0)] 30 (0,0)))∧Aside0 (Below w.heap.size w wc))
 case first =>
  have H:=HC6.out
  clear HC6
  obtain ⟨y734,hy734⟩:∃ y_:List Int,y_=(([a1,a2,a3,a4]:List Int)):=⟨_,rfl⟩
  replace H:((impl_arePeople.f k a0_0 l0_1 y734).bind fun t737=>(if t737=true then ((impl_Party_table.f k a0_0 l0_1).bind fun t738=>((impl_table_canExchange.f t738 a1 a2 a3 a4).bind fun t741=>(impl_ExchangePairs.j0 k a1 a2 a3 a4 (!t741) a0_0 l0_1))) else (impl_ExchangePairs.j0 k a1 a2 a3 a4 true a0_0 l0_1)))=some (r1,r2,r3):=by first | (rw [hy734];with_reducible exact H) | (have H2_:=(Option.bind_some _ _).symm.trans H;rw [hy734];with_reducible exact H2_) | (have H2_:=(Option.bind_some _ _).symm.trans H;with_reducible exact H2_) | with_reducible exact H | (rw [hy734];exact H) | exact H
  have Ny734:=zz31 hy734
  clear hy734
  replace H:=zz30.mp H
  obtain ⟨t737,A90,H⟩:=H
  replace H:(if t737=true then ((impl_Party_table.f k a0_0 l0_1).bind fun t738=>((impl_table_canExchange.f t738 a1 a2 a3 a4).bind fun t741=>(impl_ExchangePairs.j0 k a1 a2 a3 a4 (!t741) a0_0 l0_1))) else (impl_ExchangePairs.j0 k a1 a2 a3 a4 true a0_0 l0_1))=some (r1,r2,r3):=H
  have A9:=zz31 A90
  clear A90
  by_cases c10:t737=true
  ·subst c10
   have H1:((impl_Party_table.f k a0_0 l0_1).bind fun t738=>((impl_table_canExchange.f t738 a1 a2 a3 a4).bind fun t741=>(impl_ExchangePairs.j0 k a1 a2 a3 a4 (!t741) a0_0 l0_1)))=some (r1,r2,r3):=by rw [if_pos rfl] at H;exact H
   clear H
   have H:=H1
   clear H1
   replace H:=zz30.mp H
   obtain ⟨t738,A110,H⟩:=H
   replace H:((impl_table_canExchange.f t738 a1 a2 a3 a4).bind fun t741=>(impl_ExchangePairs.j0 k a1 a2 a3 a4 (!t741) a0_0 l0_1))=some (r1,r2,r3):=H
   have A11:=zz31 A110
   clear A110
   replace H:=zz30.mp H
   obtain ⟨t741,A120,H⟩:=H
   replace H:(impl_ExchangePairs.j0 k a1 a2 a3 a4 (!t741) a0_0 l0_1)=some (r1,r2,r3):=H
   have A12:=zz31 A120
   clear A120
   have H':=zz31 H
   clear H
   have hnb13:=NB732_733.out
   have hnc13:=NB733_732.out
   have hcz14_0:w8.cell? ⟨gb732,0,none⟩=some (.int .i64 a0_0):=(zz9 BK732.out 0).trans rfl
   have hcz14_1:w8.cell? ⟨gb732,1,none⟩=some (.slice A0_1 l0_1.length c0_1):=(zz9 BK732.out 1).trans rfl
   have hfz14_0:=zz10 BK732.out 0
   have hfz14_1:=zz10 BK732.out 1
   go_wp2_with (first | ((with_reducible refine gate_dst (N:=17) rfl ?_);refine Kd.R_lit (Kd.int .i64) _ 3 ?hg (N:=17) ?hd (xs:=([a1,a2,a3,a4]:List Int)) (inner:=[.int .i64 a1,.int .i64 a2,.int .i64 a3,.int .i64 a4]) (ok:=fun _=>True) (okp:=fun _=>True) ?hr ?hp (fun _ hk=>hk) trivial (Below.refl _ _) (Nat.le_refl _) (by simp) ?_;(case hd=>rfl);(case hg=>rfl);(case hr=>first | (go_simp;done) | (go_simp;rfl));(case hp=>exact (Reps.one (show Kd.M (Kd.int .i64) _ _ _ a1 [.int .i64 a1] from rfl) (Reps.one (show Kd.M (Kd.int .i64) _ _ _ a2 [.int .i64 a2] from rfl) (Reps.one (show Kd.M (Kd.int .i64) _ _ _ a3 [.int .i64 a3] from rfl) (Reps.one (show Kd.M (Kd.int .i64) _ _ _ a4 [.int .i64 a4] from rfl) (Reps.none _ _))))));intro v735 w15 ho16 hb hg_ hnew_;clear hg_ hnew_;(first | rw [← Ny734.out] at ho16 | (simp only [Int.reduceToNat] at ho16;rw [← Ny734.out] at ho16));have n0_:=zz31 (Kd.R_lower ho16 (zz5 (by repeat first | exact HB.out | apply zz2 | apply zz0 | apply zz1 | refine zz3 ?_ GE732.out | refine zz3 ?_ GE733.out)));have n1_:=zz31 (zz11 (g:=gb732) (o:=.cells #[.int .i64 a0_0,.slice A0_1 l0_1.length c0_1] 30 (0,0)) (by (with_reducible repeat (first | refine zz6 ?_ _ | refine zz7 ?_ | refine zz8 ?_ _));exact BK732.out) hb);have n2_:=zz31 (zz11 (g:=gb733) (o:=.cells #[.int .i64 0,.slice none 0 0] 30 (0,0)) (by (with_reducible repeat (first | refine zz6 ?_ _ | refine zz7 ?_ | refine zz8 ?_ _));exact BK733.out) hb);have n3_:=zz31 (zz4 (by repeat first | exact HB.out | apply zz2 | apply zz0 | apply zz1 | refine zz3 ?_ GE732.out | refine zz3 ?_ GE733.out) hb);clear BK732;clear BK733;clear HB;have HO736:=n0_;have BK732:=n1_;have BK733:=n2_;have HB:=n3_;clear n0_ n1_ n2_ n3_;clear hb ho16;obtain ⟨Ao17,co17,eo17⟩:=Kd.R_slice HO736.out;subst eo17) | ((with_reducible refine gate_callee (f:=58) rfl ?_);refine goesL_ (some 18) rfl rfl Try.func58 (by kernel_rfl) rfl #[.agg #[.int .i64 a0_0,.slice A0_1 l0_1.length c0_1],.slice Ao17 y734.length co17] rfl (by (try simp only [zz26,zz27,zz28]);first | done | rfl | (simp only [zz24,zz25];rfl)) ?_;(with_reducible refine (impl_arePeople.calls k a0_0 _ _ l0_1 _ _ y734 true _ ?side1 ?side2 ?side3 ?side4 A9.out).mono ?_);(case side1=>repeat (first | exact (Kd.C_below HR0_1.out HB.out) | (with_reducible refine zz18 ?_ _) | (with_reducible refine zz19 ?_ _) | (with_reducible refine zz20 ?_)));(case side2=>exact HC0_1.out);(case side3=>repeat (first | exact (Kd.R_reads' HO736.out).2.2 | (with_reducible refine zz18 ?_ _) | (with_reducible refine zz19 ?_ _) | (with_reducible refine zz20 ?_)));(case side4=>exact (Kd.R_reads' HO736.out).2.1);rintro e w18 ⟨rfl,hb⟩;refine ⟨_,rfl,?_⟩;have n0_:=zz31 (Kd.R_below (by (with_reducible repeat (first | apply zz12 | apply zz13 | apply zz14));exact HO736.out) hb);have n1_:=zz31 (zz11 (g:=gb732) (o:=.cells #[.int .i64 a0_0,.slice A0_1 l0_1.length c0_1] 30 (0,0)) (by (with_reducible repeat (first | refine zz6 ?_ _ | refine zz7 ?_ | refine zz8 ?_ _));exact BK732.out) hb);have n2_:=zz31 (zz11 (g:=gb733) (o:=.cells #[.int .i64 0,.slice none 0 0] 30 (0,0)) (by (with_reducible repeat (first | refine zz6 ?_ _ | refine zz7 ?_ | refine zz8 ?_ _));exact BK733.out) hb);have n3_:=zz31 (zz4 (by repeat first | exact HB.out | apply zz2 | apply zz0 | apply zz1 | refine zz3 ?_ GE732.out | refine zz3 ?_ GE733.out) hb);clear HO736;clear BK732;clear BK733;clear HB;have HO736:=n0_;have BK732:=n1_;have BK733:=n2_;have HB:=n3_;clear n0_ n1_ n2_ n3_;(try clear hb);(try clear hb2);(try clear hk);(try clear hi);have hcz19_0:w18.cell? ⟨gb732,0,none⟩=some (.int .i64 a0_0):=(zz9 BK732.out 0).trans rfl;have hcz19_1:w18.cell? ⟨gb732,1,none⟩=some (.slice A0_1 l0_1.length c0_1):=(zz9 BK732.out 1).trans rfl;have hfz19_0:=zz10 BK732.out 0;have hfz19_1:=zz10 BK732.out 1) | (go_at_call 46;(with_reducible refine (impl_Party_table.calls k a0_0 _ _ l0_1 t738 _ ?side1 ?side2 A11.out).mono ?_);(case side1=>repeat (first | exact (Kd.C_below HR0_1.out HB.out) | (with_reducible refine zz18 ?_ _) | (with_reducible refine zz19 ?_ _) | (with_reducible refine zz20 ?_)));(case side2=>exact HC0_1.out);rintro e w20 ⟨v739,rfl,ho0,hb⟩;have n0_:=zz31 (Kd.R_below (by (with_reducible repeat (first | apply zz12 | apply zz13 | apply zz14));exact HO736.out) hb);have n1_:=zz31 (Kd.R_lower ho0 (zz5 (by repeat first | exact HB.out | apply zz2 | apply zz0 | apply zz1 | refine zz3 ?_ GE732.out | refine zz3 ?_ GE733.out)));have n2_:=zz31 (zz11 (g:=gb732) (o:=.cells #[.int .i64 a0_0,.slice A0_1 l0_1.length c0_1] 30 (0,0)) (by (with_reducible repeat (first | refine zz6 ?_ _ | refine zz7 ?_ | refine zz8 ?_ _));exact BK732.out) hb);have n3_:=zz31 (zz11 (g:=gb733) (o:=.cells #[.int .i64 0,.slice none 0 0] 30 (0,0)) (by (with_reducible repeat (first | refine zz6 ?_ _ | refine zz7 ?_ | refine zz8 ?_ _));exact BK733.out) hb);have n4_:=zz31 (zz4 (by repeat first | exact HB.out | apply zz2 | apply zz0 | apply zz1 | refine zz3 ?_ GE732.out | refine zz3 ?_ GE733.out) hb);clear HO736;clear BK732;clear BK733;clear HB;have HO736:=n0_;have HO740:=n1_;have BK732:=n2_;have BK733:=n3_;have HB:=n4_;clear n0_ n1_ n2_ n3_ n4_;(try clear hb);(try clear hb2);(try clear hk);(try clear hi);(try clear ho0);obtain ⟨Ao21,co21,eo21⟩:=Kd.R_slice HO740.out;subst eo21) | (go_at_call 73;(with_reducible refine (impl_table_canExchange.calls _ _ t738 a1 a2 a3 a4 t741 _ ?side1 ?side2 A12.out).mono ?_);(case side1=>repeat (first | exact (Kd.R_reads' HO740.out).2.2 | (with_reducible refine zz18 ?_ _) | (with_reducible refine zz19 ?_ _) | (with_reducible refine zz20 ?_)));(case side2=>exact (Kd.R_reads' HO740.out).2.1);rintro e w' ⟨rfl,⟨nd,rfl⟩⟩))
   go_meet
   case rel=>exact ⟨_,(!t741),(by first | rfl | (simp;done) | (simp [*];done)),H',⟨by first | omega | exact Nat.le_refl _⟩,⟨by (with_reducible repeat (first | refine zz6 ?_ _ | refine zz7 ?_ | refine zz8 ?_ _));exact BK732.out⟩,⟨by (with_reducible repeat (first | refine zz6 ?_ _ | refine zz7 ?_ | refine zz8 ?_ _));exact BK733.out⟩,⟨by repeat first | exact HB.out | apply zz2 | apply zz0 | apply zz1 | refine zz3 ?_ GE732.out | refine zz3 ?_ GE733.out⟩⟩
  ·replace c10:=Bool.eq_false_iff.mpr c10
   subst c10
   have H1:(impl_ExchangePairs.j0 k a1 a2 a3 a4 true a0_0 l0_1)=some (r1,r2,r3):=by rw [if_neg (show ¬ (false=true) by decide)] at H;exact H
   clear H
   have H:=H1
   clear H1
   have H':=zz31 H
   clear H
   have hnb22:=NB732_733.out
   have hnc22:=NB733_732.out
   have hcz23_0:w8.cell? ⟨gb732,0,none⟩=some (.int .i64 a0_0):=(zz9 BK732.out 0).trans rfl
   have hcz23_1:w8.cell? ⟨gb732,1,none⟩=some (.slice A0_1 l0_1.length c0_1):=(zz9 BK732.out 1).trans rfl
   have hfz23_0:=zz10 BK732.out 0
   have hfz23_1:=zz10 BK732.out 1
   go_wp2_with (first | ((with_reducible refine gate_dst (N:=17) rfl ?_);refine Kd.R_lit (Kd.int .i64) _ 3 ?hg (N:=17) ?hd (xs:=([a1,a2,a3,a4]:List Int)) (inner:=[.int .i64 a1,.int .i64 a2,.int .i64 a3,.int .i64 a4]) (ok:=fun _=>True) (okp:=fun _=>True) ?hr ?hp (fun _ hk=>hk) trivial (Below.refl _ _) (Nat.le_refl _) (by simp) ?_;(case hd=>rfl);(case hg=>rfl);(case hr=>first | (go_simp;done) | (go_simp;rfl));(case hp=>exact (Reps.one (show Kd.M (Kd.int .i64) _ _ _ a1 [.int .i64 a1] from rfl) (Reps.one (show Kd.M (Kd.int .i64) _ _ _ a2 [.int .i64 a2] from rfl) (Reps.one (show Kd.M (Kd.int .i64) _ _ _ a3 [.int .i64 a3] from rfl) (Reps.one (show Kd.M (Kd.int .i64) _ _ _ a4 [.int .i64 a4] from rfl) (Reps.none _ _))))));intro v735 w24 ho25 hb hg_ hnew_;clear hg_ hnew_;(first | rw [← Ny734.out] at ho25 | (simp only [Int.reduceToNat] at ho25;rw [← Ny734.out] at ho25));have n0_:=zz31 (Kd.R_lower ho25 (zz5 (by repeat first | exact HB.out | apply zz2 | apply zz0 | apply zz1 | refine zz3 ?_ GE732.out | refine zz3 ?_ GE733.out)));have n1_:=zz31 (zz11 (g:=gb732) (o:=.cells #[.int .i64 a0_0,.slice A0_1 l0_1.length c0_1] 30 (0,0)) (by (with_reducible repeat (first | refine zz6 ?_ _ | refine zz7 ?_ | refine zz8 ?_ _));exact BK732.out) hb);have n2_:=zz31 (zz11 (g:=gb733) (o:=.cells #[.int .i64 0,.slice none 0 0] 30 (0,0)) (by (with_reducible repeat (first | refine zz6 ?_ _ | refine zz7 ?_ | refine zz8 ?_ _));exact BK733.out) hb);have n3_:=zz31 (zz4 (by repeat first | exact HB.out | apply zz2 | apply zz0 | apply zz1 | refine zz3 ?_ GE732.out | refine zz3 ?_ GE733.out) hb);clear BK732;clear BK733;clear HB;have HO736:=n0_;have BK732:=n1_;have BK733:=n2_;have HB:=n3_;clear n0_ n1_ n2_ n3_;clear hb ho25;obtain ⟨Ao26,co26,eo26⟩:=Kd.R_slice HO736.out;subst eo26) | ((with_reducible refine gate_callee (f:=58) rfl ?_);refine goesL_ (some 18) rfl rfl Try.func58 (by kernel_rfl) rfl #[.agg #[.int .i64 a0_0,.slice A0_1 l0_1.length c0_1],.slice Ao26 y734.length co26] rfl (by (try simp only [zz26,zz27,zz28]);first | done | rfl | (simp only [zz24,zz25];rfl)) ?_;(with_reducible refine (impl_arePeople.calls k a0_0 _ _ l0_1 _ _ y734 false _ ?side1 ?side2 ?side3 ?side4 A9.out).mono ?_);(case side1=>repeat (first | exact (Kd.C_below HR0_1.out HB.out) | (with_reducible refine zz18 ?_ _) | (with_reducible refine zz19 ?_ _) | (with_reducible refine zz20 ?_)));(case side2=>exact HC0_1.out);(case side3=>repeat (first | exact (Kd.R_reads' HO736.out).2.2 | (with_reducible refine zz18 ?_ _) | (with_reducible refine zz19 ?_ _) | (with_reducible refine zz20 ?_)));(case side4=>exact (Kd.R_reads' HO736.out).2.1);rintro e w27 ⟨rfl,hb⟩;refine ⟨_,rfl,?_⟩;have n0_:=zz31 (Kd.R_below (by (with_reducible repeat (first | apply zz12 | apply zz13 | apply zz14));exact HO736.out) hb);have n1_:=zz31 (zz11 (g:=gb732) (o:=.cells #[.int .i64 a0_0,.slice A0_1 l0_1.length c0_1] 30 (0,0)) (by (with_reducible repeat (first | refine zz6 ?_ _ | refine zz7 ?_ | refine zz8 ?_ _));exact BK732.out) hb);have n2_:=zz31 (zz11 (g:=gb733) (o:=.cells #[.int .i64 0,.slice none 0 0] 30 (0,0)) (by (with_reducible repeat (first | refine zz6 ?_ _ | refine zz7 ?_ | refine zz8 ?_ _));exact BK733.out) hb);have n3_:=zz31 (zz4 (by repeat first | exact HB.out | apply zz2 | apply zz0 | apply zz1 | refine zz3 ?_ GE732.out | refine zz3 ?_ GE733.out) hb);clear HO736;clear BK732;clear BK733;clear HB;have HO736:=n0_;have BK732:=n1_;have BK733:=n2_;have HB:=n3_;clear n0_ n1_ n2_ n3_;(try clear hb);(try clear hb2);(try clear hk);(try clear hi)))
   go_meet
   case rel=>exact ⟨_,(true),(by first | rfl | (simp;done) | (simp [*];done)),H',⟨by first | omega | exact Nat.le_refl _⟩,⟨by (with_reducible repeat (first | refine zz6 ?_ _ | refine zz7 ?_ | refine zz8 ?_ _));exact BK732.out⟩,⟨by (with_reducible repeat (first | refine zz6 ?_ _ | refine zz7 ?_ | refine zz8 ?_ _));exact BK733.out⟩,⟨by repeat first | exact HB.out | apply zz2 | apply zz0 | apply zz1 | refine zz3 ?_ GE732.out | refine zz3 ?_ GE733.out⟩⟩
 case rest =>
  clear HC6
  try clear c1
  try clear c2
  try clear p2
  try clear c3
  try clear c5
  try clear c10
  try clear c13
  try clear c22
  try clear hcz14_0
  try clear hcz14_1
  try clear hcz19_0
  try clear hcz19_1
  try clear hcz23_0
  try clear hcz23_1
  try clear hfz14_0
  try clear hfz14_1
  try clear hfz19_0
  try clear hfz19_1
  try clear hfz23_0
  try clear hfz23_1
  obtain ⟨kq,x29_5,rfl,HA,HJ5,BK732,BK733,HB⟩:=hcut
  cases kq with
  | zero=>exact absurd HA.out (by simp [impl_ExchangePairs.j0])
  | succ kj5 =>
   have H:=HA.out
   clear HA
   simp only [impl_ExchangePairs.j0] at H
   by_cases c28:x29_5=true
   ·subst c28
    have H1:(some (0,([]:List (S80)),false))=some (r1,r2,r3):=by rw [if_pos rfl] at H;exact H
    clear H
    have H:=H1
    clear H1
    simp only [Option.some.injEq,Prod.mk.injEq] at H
    obtain ⟨rfl,rfl,rfl⟩:=H
    have hnb29:=NB733_732.out
    have hnc29:=NB732_733.out
    have hcz30_0:wc.cell? ⟨gb733,0,none⟩=some (.int .i64 0):=(zz9 BK733.out 0).trans rfl
    have hcz30_1:wc.cell? ⟨gb733,1,none⟩=some (.slice none 0 0):=(zz9 BK733.out 1).trans rfl
    have hfz30_0:=zz10 BK733.out 0
    have hfz30_1:=zz10 BK733.out 1
    go_wp2
    refine bodyPost_ret (results_ct rfl _ _ gb733 30 #[.int .i64 0,.slice none 0 0] (0,0) _ rfl (by (with_reducible repeat (first | refine zz6 ?_ _ | refine zz7 ?_ | refine zz8 ?_ _));refine blk_put (cs:=#[.int .i64 0,.slice none 0 0]) ?_ 1 _ rfl;(with_reducible repeat (first | refine zz6 ?_ _ | refine zz7 ?_ | refine zz8 ?_ _));refine blk_put (cs:=#[.int .i64 0,.slice none 0 0]) ?_ 0 _ rfl;(with_reducible repeat (first | refine zz6 ?_ _ | refine zz7 ?_ | refine zz8 ?_ _));exact BK733.out) Try.underlying30 rfl (by kernel_rfl)) rfl ?_
    exact ⟨_,by first | rfl | (simp [errW_none,errW_some] <;> rfl) | (simp [*,errW_none,errW_some] <;> rfl),by first | exact Kd.R_nil _ _ _ _ _ | exact Kd.N_nil _ _ _ _ _ | exact Kd.V_nil _ _ _ _ _ | exact Kd.Q_nil _ _ _ _ _ | exact Kd.S_nil _ _ _ _ _,by repeat first | exact HB.out | apply zz2 | apply zz0 | apply zz1 | refine zz3 ?_ GE732.out | refine zz3 ?_ GE733.out⟩
   ·replace c28:=Bool.eq_false_iff.mpr c28
    subst c28
    have H1:((impl_Party_table.f kj5 a0_0 l0_1).bind fun t742=>((impl_table_exchanged.f t742 a1 a2 a3 a4).bind fun t745=>((impl_table_party.f kj5 t745).bind fun bt748=>(some (bt748.1,bt748.2,true)))))=some (r1,r2,r3):=by rw [if_neg (show ¬ (false=true) by decide)] at H;exact H
    clear H
    have H:=H1
    clear H1
    replace H:=zz30.mp H
    obtain ⟨t742,A310,H⟩:=H
    replace H:((impl_table_exchanged.f t742 a1 a2 a3 a4).bind fun t745=>((impl_table_party.f kj5 t745).bind fun bt748=>(some (bt748.1,bt748.2,true))))=some (r1,r2,r3):=H
    have A31:=zz31 A310
    clear A310
    replace H:=zz30.mp H
    obtain ⟨t745,A320,H⟩:=H
    replace H:((impl_table_party.f kj5 t745).bind fun bt748=>(some (bt748.1,bt748.2,true)))=some (r1,r2,r3):=H
    have A32:=zz31 A320
    clear A320
    replace H:=zz30.mp H
    obtain ⟨⟨t748,t749⟩,A330,H⟩:=H
    replace H:(some (t748,t749,true))=some (r1,r2,r3):=H
    have A33:=zz31 A330
    clear A330
    simp only [Option.some.injEq,Prod.mk.injEq] at H
    obtain ⟨rfl,rfl,rfl⟩:=H
    have hnb34:=NB732_733.out
    have hnc34:=NB733_732.out
    have hcz35_0:wc.cell? ⟨gb732,0,none⟩=some (.int .i64 a0_0):=(zz9 BK732.out 0).trans rfl
    have hcz35_1:wc.cell? ⟨gb732,1,none⟩=some (.slice A0_1 l0_1.length c0_1):=(zz9 BK732.out 1).trans rfl
    have hfz35_0:=zz10 BK732.out 0
    have hfz35_1:=zz10 BK732.out 1
    go_wp2_with (first | ((with_reducible refine gate_callee (f:=46) rfl ?_);refine goesL_ (some 32) rfl rfl Try.func46 (by kernel_rfl) rfl #[.agg #[.int .i64 a0_0,.slice A0_1 l0_1.length c0_1]] rfl (by (try simp only [zz26,zz27,zz28]);first | done | rfl | (simp only [zz24,zz25];rfl)) ?_;(with_reducible refine (impl_Party_table.calls kj5 a0_0 _ _ l0_1 t742 _ ?side1 ?side2 A31.out).mono ?_);(case side1=>repeat (first | exact (Kd.C_below HR0_1.out HB.out) | (with_reducible refine zz18 ?_ _) | (with_reducible refine zz19 ?_ _) | (with_reducible refine zz20 ?_)));(case side2=>exact HC0_1.out);rintro e w36 ⟨v743,rfl,ho0,hb⟩;refine ⟨_,rfl,?_⟩;have n0_:=zz31 (Kd.R_lower ho0 (zz5 (by repeat first | exact HB.out | apply zz2 | apply zz0 | apply zz1 | refine zz3 ?_ GE732.out | refine zz3 ?_ GE733.out)));have n1_:=zz31 (zz11 (g:=gb732) (o:=.cells #[.int .i64 a0_0,.slice A0_1 l0_1.length c0_1] 30 (0,0)) (by (with_reducible repeat (first | refine zz6 ?_ _ | refine zz7 ?_ | refine zz8 ?_ _));exact BK732.out) hb);have n2_:=zz31 (zz11 (g:=gb733) (o:=.cells #[.int .i64 0,.slice none 0 0] 30 (0,0)) (by (with_reducible repeat (first | refine zz6 ?_ _ | refine zz7 ?_ | refine zz8 ?_ _));exact BK733.out) hb);have n3_:=zz31 (zz4 (by repeat first | exact HB.out | apply zz2 | apply zz0 | apply zz1 | refine zz3 ?_ GE732.out | refine zz3 ?_ GE733.out) hb);clear BK732;clear BK733;clear HB;have HO744:=n0_;have BK732:=n1_;have BK733:=n2_;have HB:=n3_;clear n0_ n1_ n2_ n3_;(try clear hb);(try clear hb2);(try clear hk);(try clear hi);(try clear ho0);obtain ⟨Ao37,co37,eo37⟩:=Kd.R_slice HO744.out;subst eo37) | ((with_reducible refine gate_callee (f:=74) rfl ?_);refine goesL_ (some 37) rfl rfl Try.func74 (by kernel_rfl) rfl #[.slice Ao37 t742.length co37,.int .i64 a1,.int .i64 a2,.int .i64 a3,.int .i64 a4] rfl (by (try simp only [zz26,zz27,zz28]);first | done | rfl | (simp only [zz24,zz25];rfl)) ?_;(with_reducible refine (impl_table_exchanged.calls _ _ t742 a1 a2 a3 a4 t745 _ ?side1 ?side2 A32.out).mono ?_);(case side1=>repeat (first | exact (Kd.R_reads' HO744.out).2.2 | (with_reducible refine zz18 ?_ _) | (with_reducible refine zz19 ?_ _) | (with_reducible refine zz20 ?_)));(case side2=>exact (Kd.R_reads' HO744.out).2.1);rintro e w38 ⟨v746,rfl,ho0,hb⟩;refine ⟨_,rfl,?_⟩;have n0_:=zz31 (Kd.R_elder' (by (with_reducible repeat (first | apply zz12 | apply zz13 | apply zz14));exact HO744.out) (Kd.R_base ho0) hb);have n1_:=zz31 (Kd.R_lower (Kd.R_new' ho0 (Kd.R_lt (by (with_reducible repeat (first | apply zz12 | apply zz13 | apply zz14));exact HO744.out))) (zz5 (by repeat first | exact HB.out | apply zz2 | apply zz0 | apply zz1 | refine zz3 ?_ GE732.out | refine zz3 ?_ GE733.out)));have n2_:=zz31 (zz11 (g:=gb732) (o:=.cells #[.int .i64 a0_0,.slice A0_1 l0_1.length c0_1] 30 (0,0)) (by (with_reducible repeat (first | refine zz6 ?_ _ | refine zz7 ?_ | refine zz8 ?_ _));exact BK732.out) hb);have n3_:=zz31 (zz11 (g:=gb733) (o:=.cells #[.int .i64 0,.slice none 0 0] 30 (0,0)) (by (with_reducible repeat (first | refine zz6 ?_ _ | refine zz7 ?_ | refine zz8 ?_ _));exact BK733.out) hb);have n4_:=zz31 (zz4 (by repeat first | exact HB.out | apply zz2 | apply zz0 | apply zz1 | refine zz3 ?_ GE732.out | refine zz3 ?_ GE733.out) hb);clear HO744;clear BK732;clear BK733;clear HB;have HO744:=n0_;have HO747:=n1_;have BK732:=n2_;have BK733:=n3_;have HB:=n4_;clear n0_ n1_ n2_ n3_ n4_;(try clear hb);(try clear hb2);(try clear hk);(try clear hi);(try clear ho0);obtain ⟨Ao39,co39,eo39⟩:=Kd.R_slice HO747.out;subst eo39) | ((with_reducible refine gate_callee (f:=67) rfl ?_);refine goesL_ (some 38) rfl rfl Try.func67 (by kernel_rfl) rfl #[.slice Ao39 t745.length co39] rfl (by (try simp only [zz26,zz27,zz28]);first | done | rfl | (simp only [zz24,zz25];rfl)) ?_;(with_reducible refine (impl_table_party.calls kj5 _ _ t745 t748 t749 _ ?side1 ?side2 A33.out).mono ?_);(case side1=>repeat (first | exact (Kd.R_reads' HO747.out).2.2 | (with_reducible refine zz18 ?_ _) | (with_reducible refine zz19 ?_ _) | (with_reducible refine zz20 ?_)));(case side2=>exact (Kd.R_reads' HO747.out).2.1);rintro e w40 ⟨v750,rfl,ho0,hb⟩;refine ⟨_,rfl,?_⟩;have n0_:=zz31 (Kd.R_below (by (with_reducible repeat (first | apply zz12 | apply zz13 | apply zz14));exact HO744.out) hb);have n1_:=zz31 (Kd.R_below (by (with_reducible repeat (first | apply zz12 | apply zz13 | apply zz14));exact HO747.out) hb);have n2_:=zz31 (Kd.R_lower ho0 (zz5 (by repeat first | exact HB.out | apply zz2 | apply zz0 | apply zz1 | refine zz3 ?_ GE732.out | refine zz3 ?_ GE733.out)));have n3_:=zz31 (zz11 (g:=gb732) (o:=.cells #[.int .i64 a0_0,.slice A0_1 l0_1.length c0_1] 30 (0,0)) (by (with_reducible repeat (first | refine zz6 ?_ _ | refine zz7 ?_ | refine zz8 ?_ _));exact BK732.out) hb);have n4_:=zz31 (zz11 (g:=gb733) (o:=.cells #[.int .i64 0,.slice none 0 0] 30 (0,0)) (by (with_reducible repeat (first | refine zz6 ?_ _ | refine zz7 ?_ | refine zz8 ?_ _));exact BK733.out) hb);have n5_:=zz31 (zz4 (by repeat first | exact HB.out | apply zz2 | apply zz0 | apply zz1 | refine zz3 ?_ GE732.out | refine zz3 ?_ GE733.out) hb);clear HO744;clear HO747;clear BK732;clear BK733;clear HB;have HO744:=n0_;have HO747:=n1_;have HO751:=n2_;have BK732:=n3_;have BK733:=n4_;have HB:=n5_;clear n0_ n1_ n2_ n3_ n4_ n5_;(try clear hb);(try clear hb2);(try clear hk);(try clear hi);(try clear ho0);have hcz41_0:w40.cell? ⟨gb733,0,none⟩=some (.int .i64 0):=(zz9 BK733.out 0).trans rfl;have hcz41_1:w40.cell? ⟨gb733,1,none⟩=some (.slice none 0 0):=(zz9 BK733.out 1).trans rfl;have hfz41_0:=zz10 BK733.out 0;have hfz41_1:=zz10 BK733.out 1;obtain ⟨Ao42,co42,eo42⟩:=Kd.R_slice HO751.out;subst eo42))
    refine bodyPost_ret (results_ct rfl _ _ gb733 30 #[.int .i64 t748,.slice Ao42 t749.length co42] (0,0) _ rfl (by (with_reducible repeat (first | refine zz6 ?_ _ | refine zz7 ?_ | refine zz8 ?_ _));refine blk_put (cs:=#[.int .i64 t748,.slice none 0 0]) ?_ 1 _ rfl;(with_reducible repeat (first | refine zz6 ?_ _ | refine zz7 ?_ | refine zz8 ?_ _));refine blk_put (cs:=#[.int .i64 0,.slice none 0 0]) ?_ 0 _ rfl;(with_reducible repeat (first | refine zz6 ?_ _ | refine zz7 ?_ | refine zz8 ?_ _));exact BK733.out) Try.underlying30 rfl (by kernel_rfl)) rfl ?_
    exact ⟨_,by first | rfl | (simp [errW_none,errW_some] <;> rfl) | (simp [*,errW_none,errW_some] <;> rfl),by (with_reducible repeat (first | apply zz12 | apply zz13 | apply zz14));exact Kd.R_mono (Kd.R_far (p:=⟨gb733,1,none⟩) (Kd.R_far (p:=⟨gb733,0,none⟩) (Kd.R_types HO751.out BK733.out (by decide)) (fun _ hk=>hk.2) (.int .i64 t748)) (fun _ hk=>hk.2) (.slice Ao42 t749.length co42)) (fun _ hk=>trivial),by repeat first | exact HB.out | apply zz2 | apply zz0 | apply zz1 | refine zz3 ?_ GE732.out | refine zz3 ?_ GE733.out⟩

end Go.Proofs.Ytialimbdkokdcaa.P
