-- PRINTED by print.py (a twelfth state) out of the translation. Not trusted: Lean checks it.
import Derived.Test.YtoedkkoafidalaaPx0
import Derived.Test.YtoedkkoafidalaaPx1
import Derived.Test.YtoedkkoafidalaaPx2
import Derived.Test.YtoedkkoafidalaaPx3
namespace Go.Proofs.Ytoedkkoafidalaa.P
open Go.RowKit Go.Proofs.YtoedkkoafidalaaW.PrintWords Go.Proofs.YtoedkkoafidalaaW.PrintLast Go.Proofs.YtoedkkoafidalaaW.PrintMore
open Bool renaming true → T, false → F
attribute [local go_sem] max2_int min2_int max_two min_two max_three min_three max_four min_four   -- for this text's walks alone
set_option linter.unusedVariables false
set_option linter.unusedSimpArgs false

attribute [local go_sem high] eqA70
/-- A row of a matrix of one's own, lent: where its header lies, and how it comes back. -/
theorem S_row {W : World} {base n cap : Nat} {ok : Nat → Prop} {A : Option Addr} {O : List (List Bool)} (HS : Kd.S (Kd.slice 4 Kd.bool) 92 W base ok (.slice A n cap) O) (i : Int) (h0 : 0 ≤ i) (hi : i < (O.length : Int)) :
    ∃ (ad : Addr) (v : Value) (oki : Nat → Prop), A = some ad ∧ W.cell? (ad.add i.toNat) = some v ∧ Kd.R Kd.bool 4 W base oki v (rd_L4 O i) ∧ (∀ k, oki k → ok k) ∧
      ∀ {w1 : World} {x' : List Bool}, W.grownBy w1 v.ownBlock → Kd.R Kd.bool 4 w1 base oki v x' → Kd.S (Kd.slice 4 Kd.bool) 92 w1 base ok (.slice A n cap) (O.set i.toNat x') := by
  have hn := (Kd.S_reads' HS).1
  obtain ⟨ad, eA, _⟩ := (Kd.S_reads' HS).2.2.2.2 (by omega)
  subst eA
  obtain ⟨oki, c, hcl, hM, hcc, hok, hbk⟩ := Kd.S_borrow HS [] i h0 (by omega)
  obtain ⟨v, rfl, ge⟩ := hM
  have hv := hcc 0 v rfl
  rw [Nat.add_zero, show ((Kd.slice 4 Kd.bool)).sz = 1 from rfl, Nat.mul_one] at hv
  exact ⟨ad, v, oki, rfl, hv, ge, fun k hk => (hok k hk).1, fun hg hR => hbk hg (fun k hk => ge.1 k hk) ⟨v, rfl, hR⟩⟩
/-! ### spec_deExchange: function 52 (a contract of our own) -/
/-- Both places of two people. -/
def putB (v:Bool) (X:List (List Bool)) (x y:Int):List (List Bool):=(X.set x.toNat ((rd_L4 X x).set y.toNat v)).set y.toNat ((rd_L4 (X.set x.toNat ((rd_L4 X x).set y.toNat v)) y).set x.toNat v)
def stB (v:Bool) (X:List (List Bool)) (ps:List (Int × Int)):List (List Bool):=ps.foldl (fun X p=>putB v X p.1 p.2) X
def sqB (m:Nat) (X:List (List Bool)):Prop:=X.length=m∧∀ i:Int,0≤i→i < (m:Int)→(rd_L4 X i).length=m
theorem rd_set4 (X:List (List Bool)) (r:List Bool) (x i:Int) (h:0≤x) (hi:0≤i):rd_L4 (X.set x.toNat r) i=if x=i∧x < (X.length:Int) then r else rd_L4 X i:=by
 unfold rd_L4
 rw [List.getD_eq_getElem?_getD,List.getD_eq_getElem?_getD,List.getElem?_set]
 by_cases e:x=i
 ·subst e
  by_cases h2:x < (X.length:Int)
  ·rw [if_pos rfl,if_pos (by omega),if_pos ⟨rfl,h2⟩];rfl
  ·rw [if_pos rfl,if_neg (by omega),if_neg (fun h3=>h2 h3.2),List.getElem?_eq_none (by omega)]
 ·rw [if_neg (by omega),if_neg (fun h3=>e h3.1)]
theorem sq_set {m:Nat} {X:List (List Bool)} (h:sqB m X) (x y:Int) (v:Bool) (hx:0≤x) (hx1:x < (m:Int)):sqB m (X.set x.toNat ((rd_L4 X x).set y.toNat v)):=by
 refine ⟨by rw [List.length_set];exact h.1,fun i h0 h1=>?_⟩
 rw [rd_set4 _ _ _ _ hx h0]
 split
 ·rw [List.length_set];exact h.2 x hx hx1
 ·exact h.2 i h0 h1
theorem sq_put {m:Nat} {X:List (List Bool)} (h:sqB m X) (x y:Int) (v:Bool) (hx:0≤x∧x < (m:Int)) (hy:0≤y∧y < (m:Int)):sqB m (putB v X x y):=sq_set (sq_set h x y v hx.1 hx.2) y x v hy.1 hy.2
/-- Two rows of two numbers, and a row of them, as they are laid. -/
theorem lits3 (W:World) (a1 a2 a3 a4:Int):Below W.heap.size W (((W.alloc (.cells #[.int .i64 a1,.int .i64 a2] 3)).alloc (.cells #[.int .i64 a3,.int .i64 a4] 3)).alloc (.cells #[.slice (some ⟨W.heap.size,0,none⟩) 2 2,.slice (some ⟨W.heap.size+1,0,none⟩) 2 2] 40)) ∧
  (((W.alloc (.cells #[.int .i64 a1,.int .i64 a2] 3)).alloc (.cells #[.int .i64 a3,.int .i64 a4] 3)).alloc (.cells #[.slice (some ⟨W.heap.size,0,none⟩) 2 2,.slice (some ⟨W.heap.size+1,0,none⟩) 2 2] 40)).heap[W.heap.size]?=some (.cells #[.int .i64 a1,.int .i64 a2] 3 (0,0)) ∧
  (((W.alloc (.cells #[.int .i64 a1,.int .i64 a2] 3)).alloc (.cells #[.int .i64 a3,.int .i64 a4] 3)).alloc (.cells #[.slice (some ⟨W.heap.size,0,none⟩) 2 2,.slice (some ⟨W.heap.size+1,0,none⟩) 2 2] 40)).heap[W.heap.size+1]?=some (.cells #[.int .i64 a3,.int .i64 a4] 3 (0,0)) ∧
  (((W.alloc (.cells #[.int .i64 a1,.int .i64 a2] 3)).alloc (.cells #[.int .i64 a3,.int .i64 a4] 3)).alloc (.cells #[.slice (some ⟨W.heap.size,0,none⟩) 2 2,.slice (some ⟨W.heap.size+1,0,none⟩) 2 2] 40)).heap[W.heap.size+1+1]?=some (.cells #[.slice (some ⟨W.heap.size,0,none⟩) 2 2,.slice (some ⟨W.heap.size+1,0,none⟩) 2 2] 40 (0,0)):=by
 have e1:(W.alloc (.cells #[.int .i64 a1,.int .i64 a2] 3)).heap.size=W.heap.size+1:=by simp
 have e2:((W.alloc (.cells #[.int .i64 a1,.int .i64 a2] 3)).alloc (.cells #[.int .i64 a3,.int .i64 a4] 3)).heap.size=W.heap.size+1+1:=by simp
 have b0:=blk_new W (.cells #[.int .i64 a1,.int .i64 a2] 3)
 have b1:=blk_new (W.alloc (.cells #[.int .i64 a1,.int .i64 a2] 3)) (.cells #[.int .i64 a3,.int .i64 a4] 3)
 have b2:=blk_new ((W.alloc (.cells #[.int .i64 a1,.int .i64 a2] 3)).alloc (.cells #[.int .i64 a3,.int .i64 a4] 3)) (.cells #[.slice (some ⟨W.heap.size,0,none⟩) 2 2,.slice (some ⟨W.heap.size+1,0,none⟩) 2 2] 40)
 rw [e1] at b1
 rw [e2] at b2
 exact ⟨zz2 (zz2 (zz2 (Below.refl _ _) _) _) _,zz8 (zz8 b0 _) _,zz8 b1 _,b2⟩
def badX (T:List (List Bool)) (a b c d:Int):Bool:=decide (a=c) || (decide (a=d) || (decide (b=c) || (decide (b=d) || (!rdOf false (rd_L4 T a) b || (!rdOf false (rd_L4 T c) d || (rdOf false (rd_L4 T a) c || rdOf false (rd_L4 T b) d))))))
def spec_deExchange.f (k:Nat) (a0_0:Int) (l0_1:List (S70)) (a1 a2 a3 a4:Int):Option (Int × List (S70) × Bool) :=
 (spec_paTable.f k a0_0 l0_1).bind fun T=>if (T.length≤1000∧T.all (fun r=>decide (r.length=T.length))=true)∧((0≤a1∧a1 < (T.length:Int))∧0≤a2∧a2 < (T.length:Int))∧(0≤a3∧a3 < (T.length:Int))∧0≤a4∧a4 < (T.length:Int) then
  (if badX T a1 a2 a3 a4=true then some (0,[],false) else (spec_paOf.f k (stB true (stB false T [(a1,a2),(a3,a4)]) [(a1,a3),(a2,a4)])).bind fun r=>some (r.1,r.2,true)) else none
theorem spec_deExchange.mono:∀ a0 a1 a2 a3 a4 a5 k,LeO (spec_deExchange.f k a0 a1 a2 a3 a4 a5) (spec_deExchange.f (k+1) a0 a1 a2 a3 a4 a5):=by
 intro a0 a1 a2 a3 a4 a5 k
 unfold spec_deExchange.f
 exact LeO.bind (spec_paTable.mono _ _ _) fun T=>LeO.ite (LeO.ite (LeO.refl _) (LeO.bind (spec_paOf.mono _ _) fun r=>LeO.refl _)) (LeO.refl _)
theorem bit_at {w:World} {A:Option Addr} {c:Nat} {X:List (List Bool)} {m:Nat} (hsq:sqB m X) (hC:Kd.C (Kd.slice 4 Kd.bool) w A X.length X) (x y:Int) (hx:0≤x∧x < (m:Int)) (hy:0≤y∧y < (m:Int)) :
  ∃ (ad adr:Addr) (cr:Nat),A=some ad∧w.cell? (ad.add x.toNat)=some (.slice (some adr) m cr)∧w.cell? (adr.add y.toNat)=some (.bool (rdOf false (rd_L4 X x) y)):=by
 obtain ⟨ad,A0,c0,e,hx1,_,hr⟩:=at_L4 hC x hx.1 (by rw [hsq.1];exact hx.2)
 rw [hsq.2 x hx.1 hx.2] at hx1 hr
 obtain ⟨adr,e2,hy1⟩:=Kd.at_bool hr y hy.1 hy.2
 subst e2
 exact ⟨ad,adr,c0,e,hx1,hy1⟩
set_option maxHeartbeats 8000000 in
set_option maxRecDepth 100000 in
theorem spec_deExchange.calls (k:Nat) (a0_0:Int) (A0_1:Option Addr) (c0_1:Nat) (l0_1:List (S70)) (a1 a2 a3 a4:Int) (r1:Int) (r2:List (S70)) (r3:Bool) (w:World) (hr0_1:Kd.C k70 w A0_1 l0_1.length l0_1) (hc0_1:l0_1.length≤c0_1) (h:spec_deExchange.f k a0_0 l0_1 a1 a2 a3 a4=some (r1,r2,r3)) :
  Calls Try.prog 52 #[.agg #[.int .i64 a0_0,.slice A0_1 l0_1.length c0_1],.int .i64 a1,.int .i64 a2,.int .i64 a3,.int .i64 a4] w fun e w'=>∃ v1_:Value,e=.returned (.tuple #[.agg #[.int .i64 r1,v1_],.bool r3])∧Kd.R k70 70 w' w.heap.size (fun _=>True) v1_ r2∧Below w.heap.size w w':=by
 have hu:=Try.underlying30
 have HC:=zz31 hr0_1
 have HCC:=zz31 hc0_1
 clear hr0_1 hc0_1
 unfold spec_deExchange.f at h
 replace h:=zz30.1 h
 obtain ⟨T,hT,h⟩:=h
 have HT:=zz31 hT
 clear hT
 by_cases hbd:(T.length≤1000∧T.all (fun r=>decide (r.length=T.length))=true)∧((0≤a1∧a1 < (T.length:Int))∧0≤a2∧a2 < (T.length:Int))∧(0≤a3∧a3 < (T.length:Int))∧0≤a4∧a4 < (T.length:Int)
 case neg=>rw [if_neg hbd] at h;exact absurd h (by simp)
 rw [if_pos hbd] at h
 obtain ⟨⟨hm1,hall⟩,⟨⟨a10,a11⟩,a20,a21⟩,⟨a30,a31⟩,a40,a41⟩:=hbd
 obtain ⟨m,hmT⟩:∃ m,m=T.length:=⟨_,rfl⟩
 rw [← hmT] at hm1 hall a11 a21 a31 a41
 have HSQ:Aside0 (sqB m T):=⟨hmT.symm,fun i h0 h1=>by
  have hlt:i.toNat < T.length:=by omega
  have:=List.all_eq_true.1 hall T[i.toNat] (List.getElem_mem hlt)
  unfold rd_L4
  rw [List.getD_eq_getElem?_getD,List.getElem?_eq_getElem hlt]
  exact zz29 this⟩
 have HM:=zz31 hmT
 clear hall hmT
 -- what the table says
 obtain ⟨b5,hb5⟩:∃ b,b=rdOf false (rd_L4 T a1) a2:=⟨_,rfl⟩
 obtain ⟨b6,hb6⟩:∃ b,b=rdOf false (rd_L4 T a3) a4:=⟨_,rfl⟩
 obtain ⟨b7,hb7⟩:∃ b,b=rdOf false (rd_L4 T a1) a3:=⟨_,rfl⟩
 obtain ⟨b8,hb8⟩:∃ b,b=rdOf false (rd_L4 T a2) a4:=⟨_,rfl⟩
 unfold badX at h
 rw [← hb5,← hb6,← hb7,← hb8] at h
 have HB5:=zz31 hb5
 have HB6:=zz31 hb6
 have HB7:=zz31 hb7
 have HB8:=zz31 hb8
 clear hb5 hb6 hb7 hb8
 by_cases c0:a1=a3
 ·have k0:(a1 == a3)=true:=beq_iff_eq.2 c0
  rw [decide_eq_true c0] at h
  simp only [Bool.true_or,if_true] at h
  clear c0
  replace h:(some (0,[],false):Option (Int × List (S70) × Bool))=some (r1,r2,r3):=h
  simp only [Option.some.injEq,Prod.mk.injEq] at h
  obtain ⟨rfl,rfl,rfl⟩:=h
  go_enter Try.func52,Try.ntmps52
  go_wp2_with (first | ((with_reducible refine gate_dst (N := 5) rfl ?_); refine box_event ?hg (N := 5) ?hd (cs := #[.int .i64 a0_0, .slice A0_1 l0_1.length c0_1]) (t := 30) ?hr ?_; (case hd => rfl); (case hg => rfl); (case hr => first | (go_simp; done) | (go_simp; rfl)); intro gb hg wa hbox hb; have HXa := zz31 hbox; have HBa := zz31 (zz4 (w := w) (by repeat (first | exact Below.refl _ _ | apply zz0 | apply below_drew | apply zz2)) hb); clear hbox hb hg) | ((with_reducible refine gate_dst (N := 10) rfl ?_); refine box_event ?hg (N := 10) ?hd (cs := #[.int .i64 0, .slice none 0 0]) (t := 30) ?hr ?_; (case hd => rfl); (case hg => rfl); (case hr => first | (go_simp; done) | (go_simp; rfl)); intro gr hg wc hbox hb; have HZc := zz31 hbox; have HXc := zz31 (zz11 HXa.out hb); have HGR := zz31 (show w.heap.size ≤ gr from by rw [hg]; exact HBa.out.size); have HBc := zz31 (zz4 HBa.out hb); have f1 := zz9 HXc.out 0; have f2 := zz9 HXc.out 1; have g1 := zz9 HZc.out 0; have g2 := zz9 HZc.out 1; have g3 := zz10 HZc.out 0; have g4 := zz10 HZc.out 1; simp only [List.getElem?_toArray, List.getElem?_cons_zero, List.getElem?_cons_succ] at f1 f2 g1 g2; clear hbox hb hg) | (go_at_call 43; (with_reducible refine (spec_paTable.calls k a0_0 A0_1 c0_1 l0_1 T wc (Kd.C_below HC.out HBc.out) HCC.out HT.out).mono ?_); rintro e wf ⟨vf, rfl, ho, hb⟩; obtain ⟨Af, cf, rfl⟩ := Kd.S_slice ho; have HSf := zz31 (Kd.S_mono (ok' := fun k => k < wf.heap.size) (Kd.S_bound ho) (fun k hk => hk.2.2.1)); have HDf := zz31 hb; have HXf := zz31 (zz11 HXc.out hb); have HZf := zz31 (zz11 HZc.out hb); have HBf := zz31 (zz4 HBc.out hb); clear f1 f2 g1 g2 g3 g4; have f1 := zz9 HXf.out 0; have f2 := zz9 HXf.out 1; have g1 := zz9 HZf.out 0; have g2 := zz9 HZf.out 1; have g3 := zz10 HZf.out 0; have g4 := zz10 HZf.out 1; simp only [List.getElem?_toArray, List.getElem?_cons_zero, List.getElem?_cons_succ] at f1 f2 g1 g2; clear ho hb; obtain ⟨ad5, rr5, cr5, eA5, hx5, hy5⟩ := bit_at (c := cf) HSQ.out (Kd.S_reads' HSf.out).2.2 a1 a2 ⟨a10, a11⟩ ⟨a20, a21⟩; subst eA5; rw [← HB5.out] at hy5; obtain ⟨ad6, rr6, cr6, eA6, hx6, hy6⟩ := bit_at (c := cf) HSQ.out (Kd.S_reads' HSf.out).2.2 a3 a4 ⟨a30, a31⟩ ⟨a40, a41⟩; injection eA6 with eA6; subst eA6; rw [← HB6.out] at hy6; obtain ⟨ad7, rr7, cr7, eA7, hx7, hy7⟩ := bit_at (c := cf) HSQ.out (Kd.S_reads' HSf.out).2.2 a1 a3 ⟨a10, a11⟩ ⟨a30, a31⟩; injection eA7 with eA7; subst eA7; rw [← HB7.out] at hy7; obtain ⟨ad8, rr8, cr8, eA8, hx8, hy8⟩ := bit_at (c := cf) HSQ.out (Kd.S_reads' HSf.out).2.2 a2 a4 ⟨a20, a21⟩ ⟨a40, a41⟩; injection eA8 with eA8; subst eA8; rw [← HB8.out] at hy8; have ez := Option.some.inj (hx5.symm.trans hx7); injection ez with ez1 ez2 ez3; injection ez1 with ez1; subst ez1; subst ez3; clear hx7 ez2; rw [← HM.out]) | (fail "no arm"))
  refine bodyPost_ret (results_ct rfl _ _ gr 30 #[.int .i64 0,.slice none 0 0] (0,0) _ rfl (by (with_reducible repeat (first | refine zz6 ?_ _ | refine zz7 ?_));refine blk_put (cs:=#[.int .i64 0,.slice none 0 0]) ?_ 1 _ rfl;refine blk_put (cs:=#[.int .i64 0,.slice none 0 0]) ?_ 0 _ rfl;(with_reducible repeat (first | refine zz6 ?_ _ | refine zz7 ?_));exact HZf.out) Try.underlying30 rfl (by kernel_rfl)) rfl ?_
  exact ⟨_,rfl,Kd.R_nil _ _ _ _ _,by repeat first | exact HBf.out | apply zz0 | apply below_drew | refine zz3 ?_ HGR.out⟩
 have k0:(a1 == a3)=false:=beq_eq_false_iff_ne.2 c0
 rw [decide_eq_false c0] at h
 simp only [Bool.false_or] at h
 clear c0
 by_cases c1:a1=a4
 ·have k1:(a1 == a4)=true:=beq_iff_eq.2 c1
  rw [decide_eq_true c1] at h
  simp only [Bool.true_or,if_true] at h
  clear c1
  replace h:(some (0,[],false):Option (Int × List (S70) × Bool))=some (r1,r2,r3):=h
  simp only [Option.some.injEq,Prod.mk.injEq] at h
  obtain ⟨rfl,rfl,rfl⟩:=h
  go_enter Try.func52,Try.ntmps52
  go_wp2_with (first | ((with_reducible refine gate_dst (N := 5) rfl ?_); refine box_event ?hg (N := 5) ?hd (cs := #[.int .i64 a0_0, .slice A0_1 l0_1.length c0_1]) (t := 30) ?hr ?_; (case hd => rfl); (case hg => rfl); (case hr => first | (go_simp; done) | (go_simp; rfl)); intro gb hg wa hbox hb; have HXa := zz31 hbox; have HBa := zz31 (zz4 (w := w) (by repeat (first | exact Below.refl _ _ | apply zz0 | apply below_drew | apply zz2)) hb); clear hbox hb hg) | ((with_reducible refine gate_dst (N := 10) rfl ?_); refine box_event ?hg (N := 10) ?hd (cs := #[.int .i64 0, .slice none 0 0]) (t := 30) ?hr ?_; (case hd => rfl); (case hg => rfl); (case hr => first | (go_simp; done) | (go_simp; rfl)); intro gr hg wc hbox hb; have HZc := zz31 hbox; have HXc := zz31 (zz11 HXa.out hb); have HGR := zz31 (show w.heap.size ≤ gr from by rw [hg]; exact HBa.out.size); have HBc := zz31 (zz4 HBa.out hb); have f1 := zz9 HXc.out 0; have f2 := zz9 HXc.out 1; have g1 := zz9 HZc.out 0; have g2 := zz9 HZc.out 1; have g3 := zz10 HZc.out 0; have g4 := zz10 HZc.out 1; simp only [List.getElem?_toArray, List.getElem?_cons_zero, List.getElem?_cons_succ] at f1 f2 g1 g2; clear hbox hb hg) | (go_at_call 43; (with_reducible refine (spec_paTable.calls k a0_0 A0_1 c0_1 l0_1 T wc (Kd.C_below HC.out HBc.out) HCC.out HT.out).mono ?_); rintro e wf ⟨vf, rfl, ho, hb⟩; obtain ⟨Af, cf, rfl⟩ := Kd.S_slice ho; have HSf := zz31 (Kd.S_mono (ok' := fun k => k < wf.heap.size) (Kd.S_bound ho) (fun k hk => hk.2.2.1)); have HDf := zz31 hb; have HXf := zz31 (zz11 HXc.out hb); have HZf := zz31 (zz11 HZc.out hb); have HBf := zz31 (zz4 HBc.out hb); clear f1 f2 g1 g2 g3 g4; have f1 := zz9 HXf.out 0; have f2 := zz9 HXf.out 1; have g1 := zz9 HZf.out 0; have g2 := zz9 HZf.out 1; have g3 := zz10 HZf.out 0; have g4 := zz10 HZf.out 1; simp only [List.getElem?_toArray, List.getElem?_cons_zero, List.getElem?_cons_succ] at f1 f2 g1 g2; clear ho hb; obtain ⟨ad5, rr5, cr5, eA5, hx5, hy5⟩ := bit_at (c := cf) HSQ.out (Kd.S_reads' HSf.out).2.2 a1 a2 ⟨a10, a11⟩ ⟨a20, a21⟩; subst eA5; rw [← HB5.out] at hy5; obtain ⟨ad6, rr6, cr6, eA6, hx6, hy6⟩ := bit_at (c := cf) HSQ.out (Kd.S_reads' HSf.out).2.2 a3 a4 ⟨a30, a31⟩ ⟨a40, a41⟩; injection eA6 with eA6; subst eA6; rw [← HB6.out] at hy6; obtain ⟨ad7, rr7, cr7, eA7, hx7, hy7⟩ := bit_at (c := cf) HSQ.out (Kd.S_reads' HSf.out).2.2 a1 a3 ⟨a10, a11⟩ ⟨a30, a31⟩; injection eA7 with eA7; subst eA7; rw [← HB7.out] at hy7; obtain ⟨ad8, rr8, cr8, eA8, hx8, hy8⟩ := bit_at (c := cf) HSQ.out (Kd.S_reads' HSf.out).2.2 a2 a4 ⟨a20, a21⟩ ⟨a40, a41⟩; injection eA8 with eA8; subst eA8; rw [← HB8.out] at hy8; have ez := Option.some.inj (hx5.symm.trans hx7); injection ez with ez1 ez2 ez3; injection ez1 with ez1; subst ez1; subst ez3; clear hx7 ez2; rw [← HM.out]) | (fail "no arm"))
  refine bodyPost_ret (results_ct rfl _ _ gr 30 #[.int .i64 0,.slice none 0 0] (0,0) _ rfl (by (with_reducible repeat (first | refine zz6 ?_ _ | refine zz7 ?_));refine blk_put (cs:=#[.int .i64 0,.slice none 0 0]) ?_ 1 _ rfl;refine blk_put (cs:=#[.int .i64 0,.slice none 0 0]) ?_ 0 _ rfl;(with_reducible repeat (first | refine zz6 ?_ _ | refine zz7 ?_));exact HZf.out) Try.underlying30 rfl (by kernel_rfl)) rfl ?_
  exact ⟨_,rfl,Kd.R_nil _ _ _ _ _,by repeat first | exact HBf.out | apply zz0 | apply below_drew | refine zz3 ?_ HGR.out⟩
 have k1:(a1 == a4)=false:=beq_eq_false_iff_ne.2 c1
 rw [decide_eq_false c1] at h
 simp only [Bool.false_or] at h
 clear c1
 by_cases c2:a2=a3
 ·have k2:(a2 == a3)=true:=beq_iff_eq.2 c2
  rw [decide_eq_true c2] at h
  simp only [Bool.true_or,if_true] at h
  clear c2
  replace h:(some (0,[],false):Option (Int × List (S70) × Bool))=some (r1,r2,r3):=h
  simp only [Option.some.injEq,Prod.mk.injEq] at h
  obtain ⟨rfl,rfl,rfl⟩:=h
  go_enter Try.func52,Try.ntmps52
  go_wp2_with (first | ((with_reducible refine gate_dst (N := 5) rfl ?_); refine box_event ?hg (N := 5) ?hd (cs := #[.int .i64 a0_0, .slice A0_1 l0_1.length c0_1]) (t := 30) ?hr ?_; (case hd => rfl); (case hg => rfl); (case hr => first | (go_simp; done) | (go_simp; rfl)); intro gb hg wa hbox hb; have HXa := zz31 hbox; have HBa := zz31 (zz4 (w := w) (by repeat (first | exact Below.refl _ _ | apply zz0 | apply below_drew | apply zz2)) hb); clear hbox hb hg) | ((with_reducible refine gate_dst (N := 10) rfl ?_); refine box_event ?hg (N := 10) ?hd (cs := #[.int .i64 0, .slice none 0 0]) (t := 30) ?hr ?_; (case hd => rfl); (case hg => rfl); (case hr => first | (go_simp; done) | (go_simp; rfl)); intro gr hg wc hbox hb; have HZc := zz31 hbox; have HXc := zz31 (zz11 HXa.out hb); have HGR := zz31 (show w.heap.size ≤ gr from by rw [hg]; exact HBa.out.size); have HBc := zz31 (zz4 HBa.out hb); have f1 := zz9 HXc.out 0; have f2 := zz9 HXc.out 1; have g1 := zz9 HZc.out 0; have g2 := zz9 HZc.out 1; have g3 := zz10 HZc.out 0; have g4 := zz10 HZc.out 1; simp only [List.getElem?_toArray, List.getElem?_cons_zero, List.getElem?_cons_succ] at f1 f2 g1 g2; clear hbox hb hg) | (go_at_call 43; (with_reducible refine (spec_paTable.calls k a0_0 A0_1 c0_1 l0_1 T wc (Kd.C_below HC.out HBc.out) HCC.out HT.out).mono ?_); rintro e wf ⟨vf, rfl, ho, hb⟩; obtain ⟨Af, cf, rfl⟩ := Kd.S_slice ho; have HSf := zz31 (Kd.S_mono (ok' := fun k => k < wf.heap.size) (Kd.S_bound ho) (fun k hk => hk.2.2.1)); have HDf := zz31 hb; have HXf := zz31 (zz11 HXc.out hb); have HZf := zz31 (zz11 HZc.out hb); have HBf := zz31 (zz4 HBc.out hb); clear f1 f2 g1 g2 g3 g4; have f1 := zz9 HXf.out 0; have f2 := zz9 HXf.out 1; have g1 := zz9 HZf.out 0; have g2 := zz9 HZf.out 1; have g3 := zz10 HZf.out 0; have g4 := zz10 HZf.out 1; simp only [List.getElem?_toArray, List.getElem?_cons_zero, List.getElem?_cons_succ] at f1 f2 g1 g2; clear ho hb; obtain ⟨ad5, rr5, cr5, eA5, hx5, hy5⟩ := bit_at (c := cf) HSQ.out (Kd.S_reads' HSf.out).2.2 a1 a2 ⟨a10, a11⟩ ⟨a20, a21⟩; subst eA5; rw [← HB5.out] at hy5; obtain ⟨ad6, rr6, cr6, eA6, hx6, hy6⟩ := bit_at (c := cf) HSQ.out (Kd.S_reads' HSf.out).2.2 a3 a4 ⟨a30, a31⟩ ⟨a40, a41⟩; injection eA6 with eA6; subst eA6; rw [← HB6.out] at hy6; obtain ⟨ad7, rr7, cr7, eA7, hx7, hy7⟩ := bit_at (c := cf) HSQ.out (Kd.S_reads' HSf.out).2.2 a1 a3 ⟨a10, a11⟩ ⟨a30, a31⟩; injection eA7 with eA7; subst eA7; rw [← HB7.out] at hy7; obtain ⟨ad8, rr8, cr8, eA8, hx8, hy8⟩ := bit_at (c := cf) HSQ.out (Kd.S_reads' HSf.out).2.2 a2 a4 ⟨a20, a21⟩ ⟨a40, a41⟩; injection eA8 with eA8; subst eA8; rw [← HB8.out] at hy8; have ez := Option.some.inj (hx5.symm.trans hx7); injection ez with ez1 ez2 ez3; injection ez1 with ez1; subst ez1; subst ez3; clear hx7 ez2; rw [← HM.out]) | (fail "no arm"))
  refine bodyPost_ret (results_ct rfl _ _ gr 30 #[.int .i64 0,.slice none 0 0] (0,0) _ rfl (by (with_reducible repeat (first | refine zz6 ?_ _ | refine zz7 ?_));refine blk_put (cs:=#[.int .i64 0,.slice none 0 0]) ?_ 1 _ rfl;refine blk_put (cs:=#[.int .i64 0,.slice none 0 0]) ?_ 0 _ rfl;(with_reducible repeat (first | refine zz6 ?_ _ | refine zz7 ?_));exact HZf.out) Try.underlying30 rfl (by kernel_rfl)) rfl ?_
  exact ⟨_,rfl,Kd.R_nil _ _ _ _ _,by repeat first | exact HBf.out | apply zz0 | apply below_drew | refine zz3 ?_ HGR.out⟩
 have k2:(a2 == a3)=false:=beq_eq_false_iff_ne.2 c2
 rw [decide_eq_false c2] at h
 simp only [Bool.false_or] at h
 clear c2
 by_cases c3:a2=a4
 ·have k3:(a2 == a4)=true:=beq_iff_eq.2 c3
  rw [decide_eq_true c3] at h
  simp only [Bool.true_or,if_true] at h
  clear c3
  replace h:(some (0,[],false):Option (Int × List (S70) × Bool))=some (r1,r2,r3):=h
  simp only [Option.some.injEq,Prod.mk.injEq] at h
  obtain ⟨rfl,rfl,rfl⟩:=h
  go_enter Try.func52,Try.ntmps52
  go_wp2_with (first | ((with_reducible refine gate_dst (N := 5) rfl ?_); refine box_event ?hg (N := 5) ?hd (cs := #[.int .i64 a0_0, .slice A0_1 l0_1.length c0_1]) (t := 30) ?hr ?_; (case hd => rfl); (case hg => rfl); (case hr => first | (go_simp; done) | (go_simp; rfl)); intro gb hg wa hbox hb; have HXa := zz31 hbox; have HBa := zz31 (zz4 (w := w) (by repeat (first | exact Below.refl _ _ | apply zz0 | apply below_drew | apply zz2)) hb); clear hbox hb hg) | ((with_reducible refine gate_dst (N := 10) rfl ?_); refine box_event ?hg (N := 10) ?hd (cs := #[.int .i64 0, .slice none 0 0]) (t := 30) ?hr ?_; (case hd => rfl); (case hg => rfl); (case hr => first | (go_simp; done) | (go_simp; rfl)); intro gr hg wc hbox hb; have HZc := zz31 hbox; have HXc := zz31 (zz11 HXa.out hb); have HGR := zz31 (show w.heap.size ≤ gr from by rw [hg]; exact HBa.out.size); have HBc := zz31 (zz4 HBa.out hb); have f1 := zz9 HXc.out 0; have f2 := zz9 HXc.out 1; have g1 := zz9 HZc.out 0; have g2 := zz9 HZc.out 1; have g3 := zz10 HZc.out 0; have g4 := zz10 HZc.out 1; simp only [List.getElem?_toArray, List.getElem?_cons_zero, List.getElem?_cons_succ] at f1 f2 g1 g2; clear hbox hb hg) | (go_at_call 43; (with_reducible refine (spec_paTable.calls k a0_0 A0_1 c0_1 l0_1 T wc (Kd.C_below HC.out HBc.out) HCC.out HT.out).mono ?_); rintro e wf ⟨vf, rfl, ho, hb⟩; obtain ⟨Af, cf, rfl⟩ := Kd.S_slice ho; have HSf := zz31 (Kd.S_mono (ok' := fun k => k < wf.heap.size) (Kd.S_bound ho) (fun k hk => hk.2.2.1)); have HDf := zz31 hb; have HXf := zz31 (zz11 HXc.out hb); have HZf := zz31 (zz11 HZc.out hb); have HBf := zz31 (zz4 HBc.out hb); clear f1 f2 g1 g2 g3 g4; have f1 := zz9 HXf.out 0; have f2 := zz9 HXf.out 1; have g1 := zz9 HZf.out 0; have g2 := zz9 HZf.out 1; have g3 := zz10 HZf.out 0; have g4 := zz10 HZf.out 1; simp only [List.getElem?_toArray, List.getElem?_cons_zero, List.getElem?_cons_succ] at f1 f2 g1 g2; clear ho hb; obtain ⟨ad5, rr5, cr5, eA5, hx5, hy5⟩ := bit_at (c := cf) HSQ.out (Kd.S_reads' HSf.out).2.2 a1 a2 ⟨a10, a11⟩ ⟨a20, a21⟩; subst eA5; rw [← HB5.out] at hy5; obtain ⟨ad6, rr6, cr6, eA6, hx6, hy6⟩ := bit_at (c := cf) HSQ.out (Kd.S_reads' HSf.out).2.2 a3 a4 ⟨a30, a31⟩ ⟨a40, a41⟩; injection eA6 with eA6; subst eA6; rw [← HB6.out] at hy6; obtain ⟨ad7, rr7, cr7, eA7, hx7, hy7⟩ := bit_at (c := cf) HSQ.out (Kd.S_reads' HSf.out).2.2 a1 a3 ⟨a10, a11⟩ ⟨a30, a31⟩; injection eA7 with eA7; subst eA7; rw [← HB7.out] at hy7; obtain ⟨ad8, rr8, cr8, eA8, hx8, hy8⟩ := bit_at (c := cf) HSQ.out (Kd.S_reads' HSf.out).2.2 a2 a4 ⟨a20, a21⟩ ⟨a40, a41⟩; injection eA8 with eA8; subst eA8; rw [← HB8.out] at hy8; have ez := Option.some.inj (hx5.symm.trans hx7); injection ez with ez1 ez2 ez3; injection ez1 with ez1; subst ez1; subst ez3; clear hx7 ez2; rw [← HM.out]) | (fail "no arm"))
  refine bodyPost_ret (results_ct rfl _ _ gr 30 #[.int .i64 0,.slice none 0 0] (0,0) _ rfl (by (with_reducible repeat (first | refine zz6 ?_ _ | refine zz7 ?_));refine blk_put (cs:=#[.int .i64 0,.slice none 0 0]) ?_ 1 _ rfl;refine blk_put (cs:=#[.int .i64 0,.slice none 0 0]) ?_ 0 _ rfl;(with_reducible repeat (first | refine zz6 ?_ _ | refine zz7 ?_));exact HZf.out) Try.underlying30 rfl (by kernel_rfl)) rfl ?_
  exact ⟨_,rfl,Kd.R_nil _ _ _ _ _,by repeat first | exact HBf.out | apply zz0 | apply below_drew | refine zz3 ?_ HGR.out⟩
 have k3:(a2 == a4)=false:=beq_eq_false_iff_ne.2 c3
 rw [decide_eq_false c3] at h
 simp only [Bool.false_or] at h
 clear c3
 cases b5 with
 | false =>
  simp only [Bool.not_false,Bool.true_or,if_true] at h
  replace h:(some (0,[],false):Option (Int × List (S70) × Bool))=some (r1,r2,r3):=h
  simp only [Option.some.injEq,Prod.mk.injEq] at h
  obtain ⟨rfl,rfl,rfl⟩:=h
  go_enter Try.func52,Try.ntmps52
  go_wp2_with (first | ((with_reducible refine gate_dst (N := 5) rfl ?_); refine box_event ?hg (N := 5) ?hd (cs := #[.int .i64 a0_0, .slice A0_1 l0_1.length c0_1]) (t := 30) ?hr ?_; (case hd => rfl); (case hg => rfl); (case hr => first | (go_simp; done) | (go_simp; rfl)); intro gb hg wa hbox hb; have HXa := zz31 hbox; have HBa := zz31 (zz4 (w := w) (by repeat (first | exact Below.refl _ _ | apply zz0 | apply below_drew | apply zz2)) hb); clear hbox hb hg) | ((with_reducible refine gate_dst (N := 10) rfl ?_); refine box_event ?hg (N := 10) ?hd (cs := #[.int .i64 0, .slice none 0 0]) (t := 30) ?hr ?_; (case hd => rfl); (case hg => rfl); (case hr => first | (go_simp; done) | (go_simp; rfl)); intro gr hg wc hbox hb; have HZc := zz31 hbox; have HXc := zz31 (zz11 HXa.out hb); have HGR := zz31 (show w.heap.size ≤ gr from by rw [hg]; exact HBa.out.size); have HBc := zz31 (zz4 HBa.out hb); have f1 := zz9 HXc.out 0; have f2 := zz9 HXc.out 1; have g1 := zz9 HZc.out 0; have g2 := zz9 HZc.out 1; have g3 := zz10 HZc.out 0; have g4 := zz10 HZc.out 1; simp only [List.getElem?_toArray, List.getElem?_cons_zero, List.getElem?_cons_succ] at f1 f2 g1 g2; clear hbox hb hg) | (go_at_call 43; (with_reducible refine (spec_paTable.calls k a0_0 A0_1 c0_1 l0_1 T wc (Kd.C_below HC.out HBc.out) HCC.out HT.out).mono ?_); rintro e wf ⟨vf, rfl, ho, hb⟩; obtain ⟨Af, cf, rfl⟩ := Kd.S_slice ho; have HSf := zz31 (Kd.S_mono (ok' := fun k => k < wf.heap.size) (Kd.S_bound ho) (fun k hk => hk.2.2.1)); have HDf := zz31 hb; have HXf := zz31 (zz11 HXc.out hb); have HZf := zz31 (zz11 HZc.out hb); have HBf := zz31 (zz4 HBc.out hb); clear f1 f2 g1 g2 g3 g4; have f1 := zz9 HXf.out 0; have f2 := zz9 HXf.out 1; have g1 := zz9 HZf.out 0; have g2 := zz9 HZf.out 1; have g3 := zz10 HZf.out 0; have g4 := zz10 HZf.out 1; simp only [List.getElem?_toArray, List.getElem?_cons_zero, List.getElem?_cons_succ] at f1 f2 g1 g2; clear ho hb; obtain ⟨ad5, rr5, cr5, eA5, hx5, hy5⟩ := bit_at (c := cf) HSQ.out (Kd.S_reads' HSf.out).2.2 a1 a2 ⟨a10, a11⟩ ⟨a20, a21⟩; subst eA5; rw [← HB5.out] at hy5; obtain ⟨ad6, rr6, cr6, eA6, hx6, hy6⟩ := bit_at (c := cf) HSQ.out (Kd.S_reads' HSf.out).2.2 a3 a4 ⟨a30, a31⟩ ⟨a40, a41⟩; injection eA6 with eA6; subst eA6; rw [← HB6.out] at hy6; obtain ⟨ad7, rr7, cr7, eA7, hx7, hy7⟩ := bit_at (c := cf) HSQ.out (Kd.S_reads' HSf.out).2.2 a1 a3 ⟨a10, a11⟩ ⟨a30, a31⟩; injection eA7 with eA7; subst eA7; rw [← HB7.out] at hy7; obtain ⟨ad8, rr8, cr8, eA8, hx8, hy8⟩ := bit_at (c := cf) HSQ.out (Kd.S_reads' HSf.out).2.2 a2 a4 ⟨a20, a21⟩ ⟨a40, a41⟩; injection eA8 with eA8; subst eA8; rw [← HB8.out] at hy8; have ez := Option.some.inj (hx5.symm.trans hx7); injection ez with ez1 ez2 ez3; injection ez1 with ez1; subst ez1; subst ez3; clear hx7 ez2; rw [← HM.out]) | (fail "no arm"))
  refine bodyPost_ret (results_ct rfl _ _ gr 30 #[.int .i64 0,.slice none 0 0] (0,0) _ rfl (by (with_reducible repeat (first | refine zz6 ?_ _ | refine zz7 ?_));refine blk_put (cs:=#[.int .i64 0,.slice none 0 0]) ?_ 1 _ rfl;refine blk_put (cs:=#[.int .i64 0,.slice none 0 0]) ?_ 0 _ rfl;(with_reducible repeat (first | refine zz6 ?_ _ | refine zz7 ?_));exact HZf.out) Try.underlying30 rfl (by kernel_rfl)) rfl ?_
  exact ⟨_,rfl,Kd.R_nil _ _ _ _ _,by repeat first | exact HBf.out | apply zz0 | apply below_drew | refine zz3 ?_ HGR.out⟩
 | true =>
  simp only [Bool.not_true,Bool.false_or] at h
  cases b6 with
  | false =>
   simp only [Bool.not_false,Bool.true_or,if_true] at h
   replace h:(some (0,[],false):Option (Int × List (S70) × Bool))=some (r1,r2,r3):=h
   simp only [Option.some.injEq,Prod.mk.injEq] at h
   obtain ⟨rfl,rfl,rfl⟩:=h
   go_enter Try.func52,Try.ntmps52
   go_wp2_with (first | ((with_reducible refine gate_dst (N := 5) rfl ?_); refine box_event ?hg (N := 5) ?hd (cs := #[.int .i64 a0_0, .slice A0_1 l0_1.length c0_1]) (t := 30) ?hr ?_; (case hd => rfl); (case hg => rfl); (case hr => first | (go_simp; done) | (go_simp; rfl)); intro gb hg wa hbox hb; have HXa := zz31 hbox; have HBa := zz31 (zz4 (w := w) (by repeat (first | exact Below.refl _ _ | apply zz0 | apply below_drew | apply zz2)) hb); clear hbox hb hg) | ((with_reducible refine gate_dst (N := 10) rfl ?_); refine box_event ?hg (N := 10) ?hd (cs := #[.int .i64 0, .slice none 0 0]) (t := 30) ?hr ?_; (case hd => rfl); (case hg => rfl); (case hr => first | (go_simp; done) | (go_simp; rfl)); intro gr hg wc hbox hb; have HZc := zz31 hbox; have HXc := zz31 (zz11 HXa.out hb); have HGR := zz31 (show w.heap.size ≤ gr from by rw [hg]; exact HBa.out.size); have HBc := zz31 (zz4 HBa.out hb); have f1 := zz9 HXc.out 0; have f2 := zz9 HXc.out 1; have g1 := zz9 HZc.out 0; have g2 := zz9 HZc.out 1; have g3 := zz10 HZc.out 0; have g4 := zz10 HZc.out 1; simp only [List.getElem?_toArray, List.getElem?_cons_zero, List.getElem?_cons_succ] at f1 f2 g1 g2; clear hbox hb hg) | (go_at_call 43; (with_reducible refine (spec_paTable.calls k a0_0 A0_1 c0_1 l0_1 T wc (Kd.C_below HC.out HBc.out) HCC.out HT.out).mono ?_); rintro e wf ⟨vf, rfl, ho, hb⟩; obtain ⟨Af, cf, rfl⟩ := Kd.S_slice ho; have HSf := zz31 (Kd.S_mono (ok' := fun k => k < wf.heap.size) (Kd.S_bound ho) (fun k hk => hk.2.2.1)); have HDf := zz31 hb; have HXf := zz31 (zz11 HXc.out hb); have HZf := zz31 (zz11 HZc.out hb); have HBf := zz31 (zz4 HBc.out hb); clear f1 f2 g1 g2 g3 g4; have f1 := zz9 HXf.out 0; have f2 := zz9 HXf.out 1; have g1 := zz9 HZf.out 0; have g2 := zz9 HZf.out 1; have g3 := zz10 HZf.out 0; have g4 := zz10 HZf.out 1; simp only [List.getElem?_toArray, List.getElem?_cons_zero, List.getElem?_cons_succ] at f1 f2 g1 g2; clear ho hb; obtain ⟨ad5, rr5, cr5, eA5, hx5, hy5⟩ := bit_at (c := cf) HSQ.out (Kd.S_reads' HSf.out).2.2 a1 a2 ⟨a10, a11⟩ ⟨a20, a21⟩; subst eA5; rw [← HB5.out] at hy5; obtain ⟨ad6, rr6, cr6, eA6, hx6, hy6⟩ := bit_at (c := cf) HSQ.out (Kd.S_reads' HSf.out).2.2 a3 a4 ⟨a30, a31⟩ ⟨a40, a41⟩; injection eA6 with eA6; subst eA6; rw [← HB6.out] at hy6; obtain ⟨ad7, rr7, cr7, eA7, hx7, hy7⟩ := bit_at (c := cf) HSQ.out (Kd.S_reads' HSf.out).2.2 a1 a3 ⟨a10, a11⟩ ⟨a30, a31⟩; injection eA7 with eA7; subst eA7; rw [← HB7.out] at hy7; obtain ⟨ad8, rr8, cr8, eA8, hx8, hy8⟩ := bit_at (c := cf) HSQ.out (Kd.S_reads' HSf.out).2.2 a2 a4 ⟨a20, a21⟩ ⟨a40, a41⟩; injection eA8 with eA8; subst eA8; rw [← HB8.out] at hy8; have ez := Option.some.inj (hx5.symm.trans hx7); injection ez with ez1 ez2 ez3; injection ez1 with ez1; subst ez1; subst ez3; clear hx7 ez2; rw [← HM.out]) | (fail "no arm"))
   refine bodyPost_ret (results_ct rfl _ _ gr 30 #[.int .i64 0,.slice none 0 0] (0,0) _ rfl (by (with_reducible repeat (first | refine zz6 ?_ _ | refine zz7 ?_));refine blk_put (cs:=#[.int .i64 0,.slice none 0 0]) ?_ 1 _ rfl;refine blk_put (cs:=#[.int .i64 0,.slice none 0 0]) ?_ 0 _ rfl;(with_reducible repeat (first | refine zz6 ?_ _ | refine zz7 ?_));exact HZf.out) Try.underlying30 rfl (by kernel_rfl)) rfl ?_
   exact ⟨_,rfl,Kd.R_nil _ _ _ _ _,by repeat first | exact HBf.out | apply zz0 | apply below_drew | refine zz3 ?_ HGR.out⟩
  | true =>
   simp only [Bool.not_true,Bool.false_or] at h
   cases b7 with
   | true =>
    simp only [Bool.true_or,if_true] at h
    replace h:(some (0,[],false):Option (Int × List (S70) × Bool))=some (r1,r2,r3):=h
    simp only [Option.some.injEq,Prod.mk.injEq] at h
    obtain ⟨rfl,rfl,rfl⟩:=h
    go_enter Try.func52,Try.ntmps52
    go_wp2_with (first | ((with_reducible refine gate_dst (N := 5) rfl ?_); refine box_event ?hg (N := 5) ?hd (cs := #[.int .i64 a0_0, .slice A0_1 l0_1.length c0_1]) (t := 30) ?hr ?_; (case hd => rfl); (case hg => rfl); (case hr => first | (go_simp; done) | (go_simp; rfl)); intro gb hg wa hbox hb; have HXa := zz31 hbox; have HBa := zz31 (zz4 (w := w) (by repeat (first | exact Below.refl _ _ | apply zz0 | apply below_drew | apply zz2)) hb); clear hbox hb hg) | ((with_reducible refine gate_dst (N := 10) rfl ?_); refine box_event ?hg (N := 10) ?hd (cs := #[.int .i64 0, .slice none 0 0]) (t := 30) ?hr ?_; (case hd => rfl); (case hg => rfl); (case hr => first | (go_simp; done) | (go_simp; rfl)); intro gr hg wc hbox hb; have HZc := zz31 hbox; have HXc := zz31 (zz11 HXa.out hb); have HGR := zz31 (show w.heap.size ≤ gr from by rw [hg]; exact HBa.out.size); have HBc := zz31 (zz4 HBa.out hb); have f1 := zz9 HXc.out 0; have f2 := zz9 HXc.out 1; have g1 := zz9 HZc.out 0; have g2 := zz9 HZc.out 1; have g3 := zz10 HZc.out 0; have g4 := zz10 HZc.out 1; simp only [List.getElem?_toArray, List.getElem?_cons_zero, List.getElem?_cons_succ] at f1 f2 g1 g2; clear hbox hb hg) | (go_at_call 43; (with_reducible refine (spec_paTable.calls k a0_0 A0_1 c0_1 l0_1 T wc (Kd.C_below HC.out HBc.out) HCC.out HT.out).mono ?_); rintro e wf ⟨vf, rfl, ho, hb⟩; obtain ⟨Af, cf, rfl⟩ := Kd.S_slice ho; have HSf := zz31 (Kd.S_mono (ok' := fun k => k < wf.heap.size) (Kd.S_bound ho) (fun k hk => hk.2.2.1)); have HDf := zz31 hb; have HXf := zz31 (zz11 HXc.out hb); have HZf := zz31 (zz11 HZc.out hb); have HBf := zz31 (zz4 HBc.out hb); clear f1 f2 g1 g2 g3 g4; have f1 := zz9 HXf.out 0; have f2 := zz9 HXf.out 1; have g1 := zz9 HZf.out 0; have g2 := zz9 HZf.out 1; have g3 := zz10 HZf.out 0; have g4 := zz10 HZf.out 1; simp only [List.getElem?_toArray, List.getElem?_cons_zero, List.getElem?_cons_succ] at f1 f2 g1 g2; clear ho hb; obtain ⟨ad5, rr5, cr5, eA5, hx5, hy5⟩ := bit_at (c := cf) HSQ.out (Kd.S_reads' HSf.out).2.2 a1 a2 ⟨a10, a11⟩ ⟨a20, a21⟩; subst eA5; rw [← HB5.out] at hy5; obtain ⟨ad6, rr6, cr6, eA6, hx6, hy6⟩ := bit_at (c := cf) HSQ.out (Kd.S_reads' HSf.out).2.2 a3 a4 ⟨a30, a31⟩ ⟨a40, a41⟩; injection eA6 with eA6; subst eA6; rw [← HB6.out] at hy6; obtain ⟨ad7, rr7, cr7, eA7, hx7, hy7⟩ := bit_at (c := cf) HSQ.out (Kd.S_reads' HSf.out).2.2 a1 a3 ⟨a10, a11⟩ ⟨a30, a31⟩; injection eA7 with eA7; subst eA7; rw [← HB7.out] at hy7; obtain ⟨ad8, rr8, cr8, eA8, hx8, hy8⟩ := bit_at (c := cf) HSQ.out (Kd.S_reads' HSf.out).2.2 a2 a4 ⟨a20, a21⟩ ⟨a40, a41⟩; injection eA8 with eA8; subst eA8; rw [← HB8.out] at hy8; have ez := Option.some.inj (hx5.symm.trans hx7); injection ez with ez1 ez2 ez3; injection ez1 with ez1; subst ez1; subst ez3; clear hx7 ez2; rw [← HM.out]) | (fail "no arm"))
    refine bodyPost_ret (results_ct rfl _ _ gr 30 #[.int .i64 0,.slice none 0 0] (0,0) _ rfl (by (with_reducible repeat (first | refine zz6 ?_ _ | refine zz7 ?_));refine blk_put (cs:=#[.int .i64 0,.slice none 0 0]) ?_ 1 _ rfl;refine blk_put (cs:=#[.int .i64 0,.slice none 0 0]) ?_ 0 _ rfl;(with_reducible repeat (first | refine zz6 ?_ _ | refine zz7 ?_));exact HZf.out) Try.underlying30 rfl (by kernel_rfl)) rfl ?_
    exact ⟨_,rfl,Kd.R_nil _ _ _ _ _,by repeat first | exact HBf.out | apply zz0 | apply below_drew | refine zz3 ?_ HGR.out⟩
   | false =>
    simp only [Bool.false_or] at h
    cases b8 with
    | true =>
     simp only [Bool.true_or,if_true] at h
     replace h:(some (0,[],false):Option (Int × List (S70) × Bool))=some (r1,r2,r3):=h
     simp only [Option.some.injEq,Prod.mk.injEq] at h
     obtain ⟨rfl,rfl,rfl⟩:=h
     go_enter Try.func52,Try.ntmps52
     go_wp2_with (first | ((with_reducible refine gate_dst (N := 5) rfl ?_); refine box_event ?hg (N := 5) ?hd (cs := #[.int .i64 a0_0, .slice A0_1 l0_1.length c0_1]) (t := 30) ?hr ?_; (case hd => rfl); (case hg => rfl); (case hr => first | (go_simp; done) | (go_simp; rfl)); intro gb hg wa hbox hb; have HXa := zz31 hbox; have HBa := zz31 (zz4 (w := w) (by repeat (first | exact Below.refl _ _ | apply zz0 | apply below_drew | apply zz2)) hb); clear hbox hb hg) | ((with_reducible refine gate_dst (N := 10) rfl ?_); refine box_event ?hg (N := 10) ?hd (cs := #[.int .i64 0, .slice none 0 0]) (t := 30) ?hr ?_; (case hd => rfl); (case hg => rfl); (case hr => first | (go_simp; done) | (go_simp; rfl)); intro gr hg wc hbox hb; have HZc := zz31 hbox; have HXc := zz31 (zz11 HXa.out hb); have HGR := zz31 (show w.heap.size ≤ gr from by rw [hg]; exact HBa.out.size); have HBc := zz31 (zz4 HBa.out hb); have f1 := zz9 HXc.out 0; have f2 := zz9 HXc.out 1; have g1 := zz9 HZc.out 0; have g2 := zz9 HZc.out 1; have g3 := zz10 HZc.out 0; have g4 := zz10 HZc.out 1; simp only [List.getElem?_toArray, List.getElem?_cons_zero, List.getElem?_cons_succ] at f1 f2 g1 g2; clear hbox hb hg) | (go_at_call 43; (with_reducible refine (spec_paTable.calls k a0_0 A0_1 c0_1 l0_1 T wc (Kd.C_below HC.out HBc.out) HCC.out HT.out).mono ?_); rintro e wf ⟨vf, rfl, ho, hb⟩; obtain ⟨Af, cf, rfl⟩ := Kd.S_slice ho; have HSf := zz31 (Kd.S_mono (ok' := fun k => k < wf.heap.size) (Kd.S_bound ho) (fun k hk => hk.2.2.1)); have HDf := zz31 hb; have HXf := zz31 (zz11 HXc.out hb); have HZf := zz31 (zz11 HZc.out hb); have HBf := zz31 (zz4 HBc.out hb); clear f1 f2 g1 g2 g3 g4; have f1 := zz9 HXf.out 0; have f2 := zz9 HXf.out 1; have g1 := zz9 HZf.out 0; have g2 := zz9 HZf.out 1; have g3 := zz10 HZf.out 0; have g4 := zz10 HZf.out 1; simp only [List.getElem?_toArray, List.getElem?_cons_zero, List.getElem?_cons_succ] at f1 f2 g1 g2; clear ho hb; obtain ⟨ad5, rr5, cr5, eA5, hx5, hy5⟩ := bit_at (c := cf) HSQ.out (Kd.S_reads' HSf.out).2.2 a1 a2 ⟨a10, a11⟩ ⟨a20, a21⟩; subst eA5; rw [← HB5.out] at hy5; obtain ⟨ad6, rr6, cr6, eA6, hx6, hy6⟩ := bit_at (c := cf) HSQ.out (Kd.S_reads' HSf.out).2.2 a3 a4 ⟨a30, a31⟩ ⟨a40, a41⟩; injection eA6 with eA6; subst eA6; rw [← HB6.out] at hy6; obtain ⟨ad7, rr7, cr7, eA7, hx7, hy7⟩ := bit_at (c := cf) HSQ.out (Kd.S_reads' HSf.out).2.2 a1 a3 ⟨a10, a11⟩ ⟨a30, a31⟩; injection eA7 with eA7; subst eA7; rw [← HB7.out] at hy7; obtain ⟨ad8, rr8, cr8, eA8, hx8, hy8⟩ := bit_at (c := cf) HSQ.out (Kd.S_reads' HSf.out).2.2 a2 a4 ⟨a20, a21⟩ ⟨a40, a41⟩; injection eA8 with eA8; subst eA8; rw [← HB8.out] at hy8; have ez := Option.some.inj (hx5.symm.trans hx7); injection ez with ez1 ez2 ez3; injection ez1 with ez1; subst ez1; subst ez3; clear hx7 ez2; rw [← HM.out]) | (fail "no arm"))
     refine bodyPost_ret (results_ct rfl _ _ gr 30 #[.int .i64 0,.slice none 0 0] (0,0) _ rfl (by (with_reducible repeat (first | refine zz6 ?_ _ | refine zz7 ?_));refine blk_put (cs:=#[.int .i64 0,.slice none 0 0]) ?_ 1 _ rfl;refine blk_put (cs:=#[.int .i64 0,.slice none 0 0]) ?_ 0 _ rfl;(with_reducible repeat (first | refine zz6 ?_ _ | refine zz7 ?_));exact HZf.out) Try.underlying30 rfl (by kernel_rfl)) rfl ?_
     exact ⟨_,rfl,Kd.R_nil _ _ _ _ _,by repeat first | exact HBf.out | apply zz0 | apply below_drew | refine zz3 ?_ HGR.out⟩
    | false =>
     simp only [Bool.false_or,Bool.false_eq_true,if_false] at h
     replace h:=zz30.1 h
     obtain ⟨⟨s1,s2⟩,hOF,h⟩:=h
     simp only [Option.some.injEq,Prod.mk.injEq] at h
     obtain ⟨rfl,rfl,rfl⟩:=h
     have HOF:=zz31 hOF
     clear hOF
     have HA:=zz31 (show ((0≤a1∧a1 < (m:Int))∧0≤a2∧a2 < (m:Int))∧(0≤a3∧a3 < (m:Int))∧0≤a4∧a4 < (m:Int) from ⟨⟨⟨a10,a11⟩,a20,a21⟩,⟨a30,a31⟩,a40,a41⟩)
     go_enter Try.func52,Try.ntmps52
     go_wp2_with (first | ((with_reducible refine gate_dst (N := 5) rfl ?_); refine box_event ?hg (N := 5) ?hd (cs := #[.int .i64 a0_0, .slice A0_1 l0_1.length c0_1]) (t := 30) ?hr ?_; (case hd => rfl); (case hg => rfl); (case hr => first | (go_simp; done) | (go_simp; rfl)); intro gb hg wa hbox hb; have HXa := zz31 hbox; have HBa := zz31 (zz4 (w := w) (by repeat (first | exact Below.refl _ _ | apply zz0 | apply below_drew | apply zz2)) hb); clear hbox hb hg) | ((with_reducible refine gate_dst (N := 10) rfl ?_); refine box_event ?hg (N := 10) ?hd (cs := #[.int .i64 0, .slice none 0 0]) (t := 30) ?hr ?_; (case hd => rfl); (case hg => rfl); (case hr => first | (go_simp; done) | (go_simp; rfl)); intro gr hg wc hbox hb; have HZc := zz31 hbox; have HXc := zz31 (zz11 HXa.out hb); have HGR := zz31 (show w.heap.size ≤ gr from by rw [hg]; exact HBa.out.size); have HBc := zz31 (zz4 HBa.out hb); have f1 := zz9 HXc.out 0; have f2 := zz9 HXc.out 1; have g1 := zz9 HZc.out 0; have g2 := zz9 HZc.out 1; have g3 := zz10 HZc.out 0; have g4 := zz10 HZc.out 1; simp only [List.getElem?_toArray, List.getElem?_cons_zero, List.getElem?_cons_succ] at f1 f2 g1 g2; clear hbox hb hg) | (go_at_call 43; (with_reducible refine (spec_paTable.calls k a0_0 A0_1 c0_1 l0_1 T wc (Kd.C_below HC.out HBc.out) HCC.out HT.out).mono ?_); rintro e wf ⟨vf, rfl, ho, hb⟩; obtain ⟨Af, cf, rfl⟩ := Kd.S_slice ho; have HSf := zz31 (Kd.S_mono (ok' := fun k => k < wf.heap.size) (Kd.S_bound ho) (fun k hk => hk.2.2.1)); have HDf := zz31 hb; have HXf := zz31 (zz11 HXc.out hb); have HZf := zz31 (zz11 HZc.out hb); have HBf := zz31 (zz4 HBc.out hb); clear f1 f2 g1 g2 g3 g4; have f1 := zz9 HXf.out 0; have f2 := zz9 HXf.out 1; have g1 := zz9 HZf.out 0; have g2 := zz9 HZf.out 1; have g3 := zz10 HZf.out 0; have g4 := zz10 HZf.out 1; simp only [List.getElem?_toArray, List.getElem?_cons_zero, List.getElem?_cons_succ] at f1 f2 g1 g2; clear ho hb; obtain ⟨ad5, rr5, cr5, eA5, hx5, hy5⟩ := bit_at (c := cf) HSQ.out (Kd.S_reads' HSf.out).2.2 a1 a2 ⟨a10, a11⟩ ⟨a20, a21⟩; subst eA5; rw [← HB5.out] at hy5; obtain ⟨ad6, rr6, cr6, eA6, hx6, hy6⟩ := bit_at (c := cf) HSQ.out (Kd.S_reads' HSf.out).2.2 a3 a4 ⟨a30, a31⟩ ⟨a40, a41⟩; injection eA6 with eA6; subst eA6; rw [← HB6.out] at hy6; obtain ⟨ad7, rr7, cr7, eA7, hx7, hy7⟩ := bit_at (c := cf) HSQ.out (Kd.S_reads' HSf.out).2.2 a1 a3 ⟨a10, a11⟩ ⟨a30, a31⟩; injection eA7 with eA7; subst eA7; rw [← HB7.out] at hy7; obtain ⟨ad8, rr8, cr8, eA8, hx8, hy8⟩ := bit_at (c := cf) HSQ.out (Kd.S_reads' HSf.out).2.2 a2 a4 ⟨a20, a21⟩ ⟨a40, a41⟩; injection eA8 with eA8; subst eA8; rw [← HB8.out] at hy8; have ez := Option.some.inj (hx5.symm.trans hx7); injection ez with ez1 ez2 ez3; injection ez1 with ez1; subst ez1; subst ez3; clear hx7 ez2; rw [← HM.out]) | (fail "no arm"))
     have HWF:=zz31 HDf.out.size
     have HPP:=HA
     clear f1 f2 g1 g2 g3 g4
     have HSm:Aside0 (Kd.S (Kd.slice 4 Kd.bool) 92 wf wc.heap.size (fun k=>k < wf.heap.size) (.slice (some ad5) m cf) T):=⟨by have h:=HSf.out;rw [← HM.out] at h;exact h⟩
     have L:=lits3 wf a1 a2 a3 a4
     generalize (((wf.alloc (.cells #[.int .i64 a1,.int .i64 a2] 3)).alloc (.cells #[.int .i64 a3,.int .i64 a4] 3)).alloc (.cells #[.slice (some ⟨wf.heap.size,0,none⟩) 2 2,.slice (some ⟨wf.heap.size+1,0,none⟩) 2 2] 40))=wl at L ⊢
     obtain ⟨lb,l1,l2,l3⟩:=L
     obtain ⟨h3,hh3⟩:∃ h3,h3=wf.heap.size+1+1:=⟨_,rfl⟩
     obtain ⟨h2,hh2⟩:∃ h2,h2=wf.heap.size+1:=⟨_,rfl⟩
     obtain ⟨h1,hh1⟩:∃ h1,h1=wf.heap.size:=⟨_,rfl⟩
     rw [← hh3] at l3 ⊢
     rw [← hh2] at l2 l3
     rw [← hh1] at l1 l3
     have HH:=zz31 (show wf.heap.size≤h1∧wf.heap.size≤h2∧wf.heap.size≤h3 from by have:=HDf.out.size;have:=HWF.out;omega)
     have HS0:=zz31 (Kd.S_below HSm.out lb)
     have HB0:=zz31 (zz4 HDf.out lb)
     have HLA0:=zz31 l1
     have HLB0:=zz31 l2
     have HLC0:=zz31 l3
     have HQ0:=HSQ
     clear lb l1 l2 l3 hh1 hh2 hh3
     go_loopg [84] 2 (fun gg v84 wr=>∃ (j:Nat) (X:List (List Bool)),j≤2∧2 - j≤gg∧v84=.int .i64 j∧Aside0 (X=stB false T ([(a1,a2),(a3,a4)].take j))∧Aside0 (sqB m X)∧Aside0 (Kd.S (Kd.slice 4 Kd.bool) 92 wr wc.heap.size (fun k=>k < wf.heap.size) (.slice (some ad5) m cf) X)∧Aside0 (Below wc.heap.size wc wr)∧Aside0 (wr.heap[h1]?=some (.cells #[.int .i64 a1,.int .i64 a2] 3 (0,0)))∧Aside0 (wr.heap[h2]?=some (.cells #[.int .i64 a3,.int .i64 a4] 3 (0,0)))∧Aside0 (wr.heap[h3]?=some (.cells #[.slice (some ⟨h1,0,none⟩) 2 2,.slice (some ⟨h2,0,none⟩) 2 2] 40 (0,0))))
     case atStart=>exact ⟨0,T,by omega,by omega,rfl,⟨rfl⟩,HQ0,HS0,HB0,HLA0,HLB0,HLC0⟩
     case round =>
      clear HQ0 HS0 HB0 HLA0 HLB0 HLC0
      obtain ⟨j,X,hj,hgj,rfl,HST,HQ0,HS0,HB0,HLA0,HLB0,HLC0⟩:=hrel
      by_cases hlt:j < 2
      ·have hltz:(j:Int) < 2:=by omega
       obtain ⟨hj0,x,y,e1,e2,e3,hx,hy,hst⟩:∃ (hj0:Nat) (x y:Int),wr.cell? ⟨h3,j,none⟩=some (.slice (some ⟨hj0,0,none⟩) 2 2)∧wr.cell? ⟨hj0,0,none⟩=some (.int .i64 x)∧wr.cell? ⟨hj0,1,none⟩=some (.int .i64 y)∧(0≤x∧x < (m:Int))∧(0≤y∧y < (m:Int))∧stB false T ([(a1,a2),(a3,a4)].take (j+1))=putB false X x y∧(hj0=h1∧x=a1∧y=a2 ∨ hj0=h2∧x=a3∧y=a4):=by
        rcases (by omega:j=0 ∨ j=1) with rfl | rfl
        ·exact ⟨h1,a1,a2,zz9 HLC0.out 0,zz9 HLA0.out 0,zz9 HLA0.out 1,HPP.out.1.1,HPP.out.1.2,by rw [HST.out];rfl,.inl ⟨rfl,rfl,rfl⟩⟩
        ·exact ⟨h2,a3,a4,zz9 HLC0.out 1,zz9 HLB0.out 0,zz9 HLB0.out 1,HPP.out.2.1,HPP.out.2.2,by rw [HST.out];rfl,.inr ⟨rfl,rfl,rfl⟩⟩
       obtain ⟨x0,x1⟩:=hx
       obtain ⟨y0,y1⟩:=hy
       obtain ⟨hst,hwho⟩:=hst
       have HSTN:=zz31 hst
       have HWHO:=zz31 hwho
       clear hst hwho
       have qx0:=eq_true x0
       have qx1:=eq_true x1
       have qy0:=eq_true y0
       have qy1:=eq_true y1
       obtain ⟨adO,vO,okO,eO,hxO,hRO,hokO,hbk⟩:=S_row HS0.out x (by omega) (by rw [HQ0.out.1];omega)
       injection eO with eO
       subst eO
       have hln:=HQ0.out.2 x (by omega) (by omega)
       obtain ⟨gO,cO,eV,gbO,glO,clO⟩:=Kd.R_form hRO (by omega)
       subst eV
       obtain ⟨hcO,hfO⟩:=Kd.R_celln false hRO y (by omega) (by omega)
       have HP:=Kd.R_putg hRO y false
       have HS1:Aside0 (Kd.S (Kd.slice 4 Kd.bool) 92 (wr.drew.setCell ⟨gO,y.toNat,none⟩ (.bool false)) wc.heap.size (fun k=>k < wf.heap.size) (.slice (some ad5) m cf) (X.set x.toNat ((rd_L4 X x).set y.toNat false))):=⟨zz17 (hbk HP.2 HP.1)⟩
       have HQ1:=zz31 (sq_set HQ0.out x y false (by omega) (by omega))
       have HgO:=zz31 (show gO < wf.heap.size from hokO gO (hRO.1 gO rfl))
       have HB1:Aside0 (Below wc.heap.size wc (wr.drew.setCell ⟨gO,y.toNat,none⟩ (.bool false))):=⟨zz3 (below_drew HB0.out) gbO⟩
       have HLA1:Aside0 ((wr.drew.setCell ⟨gO,y.toNat,none⟩ (.bool false)).heap[h1]?=some (.cells #[.int .i64 a1,.int .i64 a2] 3 (0,0))):=⟨blk_far (zz7 HLA0.out) (by have:=HgO.out;have:=HH.out;show h1 ≠ gO;omega) _⟩
       have HLB1:Aside0 ((wr.drew.setCell ⟨gO,y.toNat,none⟩ (.bool false)).heap[h2]?=some (.cells #[.int .i64 a3,.int .i64 a4] 3 (0,0))):=⟨blk_far (zz7 HLB0.out) (by have:=HgO.out;have:=HH.out;show h2 ≠ gO;omega) _⟩
       have HLC1:Aside0 ((wr.drew.setCell ⟨gO,y.toNat,none⟩ (.bool false)).heap[h3]?=some (.cells #[.slice (some ⟨h1,0,none⟩) 2 2,.slice (some ⟨h2,0,none⟩) 2 2] 40 (0,0))):=⟨blk_far (zz7 HLC0.out) (by have:=HgO.out;have:=HH.out;show h3 ≠ gO;omega) _⟩
       rw [hln] at hxO
       clear hRO hbk HP hokO gbO glO clO hln
       go_upto_region 7 with (fail)
       go_still_tail 10,(by kernel_rfl)
       change wpList _ _ _ _ _ wr.drew
       have hcO2:wr.drew.cell? ⟨gO,y.toNat,none⟩=some (.bool (rdOf false (rd_L4 X x) y)):=hcO
       have hfO2:wr.drew.frozen? ⟨gO,y.toNat,none⟩=false:=hfO
       clear hcO hfO hxO e2 e3
       generalize wr.drew=wd1 at HS1 HB1 HLA1 HLB1 HLC1 hcO2 hfO2 ⊢
       go_upto_region 8 with (fail)
       generalize hw2:wd1.setCell ⟨gO,y.toNat,none⟩ (.bool false)=w2 at HS1 HB1 HLA1 HLB1 HLC1 ⊢
       clear hw2 hcO2 hfO2 HgO
       have ee:w2.cell? ⟨hj0,0,none⟩=some (.int .i64 x)∧w2.cell? ⟨hj0,1,none⟩=some (.int .i64 y):=by
        rcases HWHO.out with ⟨q1,q2,q3⟩ | ⟨q1,q2,q3⟩
        ·rw [q1,q2,q3];exact ⟨zz9 HLA1.out 0,zz9 HLA1.out 1⟩
        ·rw [q1,q2,q3];exact ⟨zz9 HLB1.out 0,zz9 HLB1.out 1⟩
       obtain ⟨e2,e3⟩:=ee
       obtain ⟨X1,hX1⟩:∃ X1,X1=X.set x.toNat ((rd_L4 X x).set y.toNat false):=⟨_,rfl⟩
       rw [← hX1] at HS1 HQ1
       have HX1:=zz31 hX1
       clear hX1
       obtain ⟨adO,vO,okO,eO,hxO,hRO,hokO,hbk⟩:=S_row HS1.out y (by omega) (by rw [HQ1.out.1];omega)
       injection eO with eO
       subst eO
       have hln:=HQ1.out.2 y (by omega) (by omega)
       obtain ⟨gO,cO,eV,gbO,glO,clO⟩:=Kd.R_form hRO (by omega)
       subst eV
       obtain ⟨hcO,hfO⟩:=Kd.R_celln false hRO x (by omega) (by omega)
       have HP:=Kd.R_putg hRO x false
       have HS2:Aside0 (Kd.S (Kd.slice 4 Kd.bool) 92 (w2.drew.setCell ⟨gO,x.toNat,none⟩ (.bool false)) wc.heap.size (fun k=>k < wf.heap.size) (.slice (some ad5) m cf) (X1.set y.toNat ((rd_L4 X1 y).set x.toNat false))):=⟨zz17 (hbk HP.2 HP.1)⟩
       have HQ2:=zz31 (sq_set HQ1.out y x false (by omega) (by omega))
       have HgO:=zz31 (show gO < wf.heap.size from hokO gO (hRO.1 gO rfl))
       have HB2:Aside0 (Below wc.heap.size wc (w2.drew.setCell ⟨gO,x.toNat,none⟩ (.bool false))):=⟨zz3 (below_drew HB1.out) gbO⟩
       have HLA2:Aside0 ((w2.drew.setCell ⟨gO,x.toNat,none⟩ (.bool false)).heap[h1]?=some (.cells #[.int .i64 a1,.int .i64 a2] 3 (0,0))):=⟨blk_far (zz7 HLA1.out) (by have:=HgO.out;have:=HH.out;show h1 ≠ gO;omega) _⟩
       have HLB2:Aside0 ((w2.drew.setCell ⟨gO,x.toNat,none⟩ (.bool false)).heap[h2]?=some (.cells #[.int .i64 a3,.int .i64 a4] 3 (0,0))):=⟨blk_far (zz7 HLB1.out) (by have:=HgO.out;have:=HH.out;show h2 ≠ gO;omega) _⟩
       have HLC2:Aside0 ((w2.drew.setCell ⟨gO,x.toNat,none⟩ (.bool false)).heap[h3]?=some (.cells #[.slice (some ⟨h1,0,none⟩) 2 2,.slice (some ⟨h2,0,none⟩) 2 2] 40 (0,0))):=⟨blk_far (zz7 HLC1.out) (by have:=HgO.out;have:=HH.out;show h3 ≠ gO;omega) _⟩
       rw [hln] at hxO
       clear hRO hbk HP hokO gbO glO clO hln
       go_upto_region 8 with (fail)
       go_still_tail 10,(by kernel_rfl)
       change wpList _ _ _ _ _ w2.drew
       have hcO2:w2.drew.cell? ⟨gO,x.toNat,none⟩=some (.bool (rdOf false (rd_L4 X1 y) x)):=hcO
       have hfO2:w2.drew.frozen? ⟨gO,x.toNat,none⟩=false:=hfO
       clear hcO hfO hxO e2 e3
       generalize w2.drew=wd2 at HS2 HB2 HLA2 HLB2 HLC2 hcO2 hfO2 ⊢
       go_wp2
       go_roundg (2 - (j+1))
       case measure=>omega
       case rel=>exact ⟨j+1,putB false X x y,by omega,by omega,by go_num,⟨HSTN.out.symm⟩,⟨by unfold putB;rw [← HX1.out];exact HQ2.out⟩,⟨by unfold putB;rw [← HX1.out];(with_reducible repeat (first | apply zz16 | apply zz17));exact HS2.out⟩,⟨by repeat (first | exact HB2.out | apply zz0 | apply below_drew)⟩,⟨by (with_reducible repeat (first | refine zz6 ?_ _ | refine zz7 ?_));exact HLA2.out⟩,⟨by (with_reducible repeat (first | refine zz6 ?_ _ | refine zz7 ?_));exact HLB2.out⟩,⟨by (with_reducible repeat (first | refine zz6 ?_ _ | refine zz7 ?_));exact HLC2.out⟩⟩
      ·have hltz:¬ (j:Int) < 2:=by omega
       obtain rfl:j=2:=by omega
       replace HST:Aside0 (X=stB false T [(a1,a2),(a3,a4)]):=HST
       have HWF9:=zz31 (show wf.heap.size≤wr.heap.size from by have:=HH.out;have:=blk_lt HLA0.out;omega)
       clear HLA0 HLB0 HLC0
       go_wp2
       have HS9:=HS0
       have HQ9:=HQ0
       have HB9:=HB0
       clear HS0 HQ0 HB0 HH HPP
       have L:=lits3 wr a1 a3 a2 a4
       generalize (((wr.alloc (.cells #[.int .i64 a1,.int .i64 a3] 3)).alloc (.cells #[.int .i64 a2,.int .i64 a4] 3)).alloc (.cells #[.slice (some ⟨wr.heap.size,0,none⟩) 2 2,.slice (some ⟨wr.heap.size+1,0,none⟩) 2 2] 40))=wl at L ⊢
       obtain ⟨lb,l1,l2,l3⟩:=L
       obtain ⟨h3,hh3⟩:∃ h3,h3=wr.heap.size+1+1:=⟨_,rfl⟩
       obtain ⟨h2,hh2⟩:∃ h2,h2=wr.heap.size+1:=⟨_,rfl⟩
       obtain ⟨h1,hh1⟩:∃ h1,h1=wr.heap.size:=⟨_,rfl⟩
       rw [← hh3] at l3 ⊢
       rw [← hh2] at l2 l3
       rw [← hh1] at l1 l3
       have HH:=zz31 (show wf.heap.size≤h1∧wf.heap.size≤h2∧wf.heap.size≤h3 from by have:=HB9.out.size;have:=HWF9.out;omega)
       have HS0:=zz31 (Kd.S_below HS9.out lb)
       have HB0:=zz31 (zz4 HB9.out lb)
       have HLA0:=zz31 l1
       have HLB0:=zz31 l2
       have HLC0:=zz31 l3
       have HQ0:=HQ9
       clear lb l1 l2 l3 hh1 hh2 hh3
       have HX0:=HST
       clear HST
       obtain ⟨XT,hXT⟩:∃ XT,XT=X:=⟨_,rfl⟩
       have HPP:=zz31 (show ((0≤a1∧a1 < (m:Int))∧0≤a3∧a3 < (m:Int))∧(0≤a2∧a2 < (m:Int))∧0≤a4∧a4 < (m:Int) from ⟨⟨HA.out.1.1,HA.out.2.1⟩,HA.out.1.2,HA.out.2.2⟩)
       have HOF:=HOF
       rw [← HX0.out,← hXT] at HOF
       rw [← hXT] at HS0 HQ0
       clear HX0 hXT
       go_loopg [117] 2 (fun gg v117 wr=>∃ (j:Nat) (X:List (List Bool)),j≤2∧2 - j≤gg∧v117=.int .i64 j∧Aside0 (X=stB true XT ([(a1,a3),(a2,a4)].take j))∧Aside0 (sqB m X)∧Aside0 (Kd.S (Kd.slice 4 Kd.bool) 92 wr wc.heap.size (fun k=>k < wf.heap.size) (.slice (some ad5) m cf) X)∧Aside0 (Below wc.heap.size wc wr)∧Aside0 (wr.heap[h1]?=some (.cells #[.int .i64 a1,.int .i64 a3] 3 (0,0)))∧Aside0 (wr.heap[h2]?=some (.cells #[.int .i64 a2,.int .i64 a4] 3 (0,0)))∧Aside0 (wr.heap[h3]?=some (.cells #[.slice (some ⟨h1,0,none⟩) 2 2,.slice (some ⟨h2,0,none⟩) 2 2] 40 (0,0))))
       case atStart=>exact ⟨0,XT,by omega,by omega,rfl,⟨rfl⟩,HQ0,HS0,HB0,HLA0,HLB0,HLC0⟩
       case round =>
        clear HQ0 HS0 HB0 HLA0 HLB0 HLC0
        obtain ⟨j,X,hj,hgj,rfl,HST,HQ0,HS0,HB0,HLA0,HLB0,HLC0⟩:=hrel
        by_cases hlt:j < 2
        ·have hltz:(j:Int) < 2:=by omega
         obtain ⟨hj0,x,y,e1,e2,e3,hx,hy,hst⟩:∃ (hj0:Nat) (x y:Int),wr.cell? ⟨h3,j,none⟩=some (.slice (some ⟨hj0,0,none⟩) 2 2)∧wr.cell? ⟨hj0,0,none⟩=some (.int .i64 x)∧wr.cell? ⟨hj0,1,none⟩=some (.int .i64 y)∧(0≤x∧x < (m:Int))∧(0≤y∧y < (m:Int))∧stB true XT ([(a1,a3),(a2,a4)].take (j+1))=putB true X x y∧(hj0=h1∧x=a1∧y=a3 ∨ hj0=h2∧x=a2∧y=a4):=by
          rcases (by omega:j=0 ∨ j=1) with rfl | rfl
          ·exact ⟨h1,a1,a3,zz9 HLC0.out 0,zz9 HLA0.out 0,zz9 HLA0.out 1,HPP.out.1.1,HPP.out.1.2,by rw [HST.out];rfl,.inl ⟨rfl,rfl,rfl⟩⟩
          ·exact ⟨h2,a2,a4,zz9 HLC0.out 1,zz9 HLB0.out 0,zz9 HLB0.out 1,HPP.out.2.1,HPP.out.2.2,by rw [HST.out];rfl,.inr ⟨rfl,rfl,rfl⟩⟩
         obtain ⟨x0,x1⟩:=hx
         obtain ⟨y0,y1⟩:=hy
         obtain ⟨hst,hwho⟩:=hst
         have HSTN:=zz31 hst
         have HWHO:=zz31 hwho
         clear hst hwho
         have qx0:=eq_true x0
         have qx1:=eq_true x1
         have qy0:=eq_true y0
         have qy1:=eq_true y1
         obtain ⟨adO,vO,okO,eO,hxO,hRO,hokO,hbk⟩:=S_row HS0.out x (by omega) (by rw [HQ0.out.1];omega)
         injection eO with eO
         subst eO
         have hln:=HQ0.out.2 x (by omega) (by omega)
         obtain ⟨gO,cO,eV,gbO,glO,clO⟩:=Kd.R_form hRO (by omega)
         subst eV
         obtain ⟨hcO,hfO⟩:=Kd.R_celln false hRO y (by omega) (by omega)
         have HP:=Kd.R_putg hRO y true
         have HS1:Aside0 (Kd.S (Kd.slice 4 Kd.bool) 92 (wr.drew.setCell ⟨gO,y.toNat,none⟩ (.bool true)) wc.heap.size (fun k=>k < wf.heap.size) (.slice (some ad5) m cf) (X.set x.toNat ((rd_L4 X x).set y.toNat true))):=⟨zz17 (hbk HP.2 HP.1)⟩
         have HQ1:=zz31 (sq_set HQ0.out x y true (by omega) (by omega))
         have HgO:=zz31 (show gO < wf.heap.size from hokO gO (hRO.1 gO rfl))
         have HB1:Aside0 (Below wc.heap.size wc (wr.drew.setCell ⟨gO,y.toNat,none⟩ (.bool true))):=⟨zz3 (below_drew HB0.out) gbO⟩
         have HLA1:Aside0 ((wr.drew.setCell ⟨gO,y.toNat,none⟩ (.bool true)).heap[h1]?=some (.cells #[.int .i64 a1,.int .i64 a3] 3 (0,0))):=⟨blk_far (zz7 HLA0.out) (by have:=HgO.out;have:=HH.out;show h1 ≠ gO;omega) _⟩
         have HLB1:Aside0 ((wr.drew.setCell ⟨gO,y.toNat,none⟩ (.bool true)).heap[h2]?=some (.cells #[.int .i64 a2,.int .i64 a4] 3 (0,0))):=⟨blk_far (zz7 HLB0.out) (by have:=HgO.out;have:=HH.out;show h2 ≠ gO;omega) _⟩
         have HLC1:Aside0 ((wr.drew.setCell ⟨gO,y.toNat,none⟩ (.bool true)).heap[h3]?=some (.cells #[.slice (some ⟨h1,0,none⟩) 2 2,.slice (some ⟨h2,0,none⟩) 2 2] 40 (0,0))):=⟨blk_far (zz7 HLC0.out) (by have:=HgO.out;have:=HH.out;show h3 ≠ gO;omega) _⟩
         rw [hln] at hxO
         clear hRO hbk HP hokO gbO glO clO hln
         go_upto_region 13 with (fail)
         go_still_tail 10,(by kernel_rfl)
         change wpList _ _ _ _ _ wr.drew
         have hcO2:wr.drew.cell? ⟨gO,y.toNat,none⟩=some (.bool (rdOf false (rd_L4 X x) y)):=hcO
         have hfO2:wr.drew.frozen? ⟨gO,y.toNat,none⟩=false:=hfO
         clear hcO hfO hxO e2 e3
         generalize wr.drew=wd1 at HS1 HB1 HLA1 HLB1 HLC1 hcO2 hfO2 ⊢
         go_upto_region 14 with (fail)
         generalize hw2:wd1.setCell ⟨gO,y.toNat,none⟩ (.bool true)=w2 at HS1 HB1 HLA1 HLB1 HLC1 ⊢
         clear hw2 hcO2 hfO2 HgO
         have ee:w2.cell? ⟨hj0,0,none⟩=some (.int .i64 x)∧w2.cell? ⟨hj0,1,none⟩=some (.int .i64 y):=by
          rcases HWHO.out with ⟨q1,q2,q3⟩ | ⟨q1,q2,q3⟩
          ·rw [q1,q2,q3];exact ⟨zz9 HLA1.out 0,zz9 HLA1.out 1⟩
          ·rw [q1,q2,q3];exact ⟨zz9 HLB1.out 0,zz9 HLB1.out 1⟩
         obtain ⟨e2,e3⟩:=ee
         obtain ⟨X1,hX1⟩:∃ X1,X1=X.set x.toNat ((rd_L4 X x).set y.toNat true):=⟨_,rfl⟩
         rw [← hX1] at HS1 HQ1
         have HX1:=zz31 hX1
         clear hX1
         obtain ⟨adO,vO,okO,eO,hxO,hRO,hokO,hbk⟩:=S_row HS1.out y (by omega) (by rw [HQ1.out.1];omega)
         injection eO with eO
         subst eO
         have hln:=HQ1.out.2 y (by omega) (by omega)
         obtain ⟨gO,cO,eV,gbO,glO,clO⟩:=Kd.R_form hRO (by omega)
         subst eV
         obtain ⟨hcO,hfO⟩:=Kd.R_celln false hRO x (by omega) (by omega)
         have HP:=Kd.R_putg hRO x true
         have HS2:Aside0 (Kd.S (Kd.slice 4 Kd.bool) 92 (w2.drew.setCell ⟨gO,x.toNat,none⟩ (.bool true)) wc.heap.size (fun k=>k < wf.heap.size) (.slice (some ad5) m cf) (X1.set y.toNat ((rd_L4 X1 y).set x.toNat true))):=⟨zz17 (hbk HP.2 HP.1)⟩
         have HQ2:=zz31 (sq_set HQ1.out y x true (by omega) (by omega))
         have HgO:=zz31 (show gO < wf.heap.size from hokO gO (hRO.1 gO rfl))
         have HB2:Aside0 (Below wc.heap.size wc (w2.drew.setCell ⟨gO,x.toNat,none⟩ (.bool true))):=⟨zz3 (below_drew HB1.out) gbO⟩
         have HLA2:Aside0 ((w2.drew.setCell ⟨gO,x.toNat,none⟩ (.bool true)).heap[h1]?=some (.cells #[.int .i64 a1,.int .i64 a3] 3 (0,0))):=⟨blk_far (zz7 HLA1.out) (by have:=HgO.out;have:=HH.out;show h1 ≠ gO;omega) _⟩
         have HLB2:Aside0 ((w2.drew.setCell ⟨gO,x.toNat,none⟩ (.bool true)).heap[h2]?=some (.cells #[.int .i64 a2,.int .i64 a4] 3 (0,0))):=⟨blk_far (zz7 HLB1.out) (by have:=HgO.out;have:=HH.out;show h2 ≠ gO;omega) _⟩
         have HLC2:Aside0 ((w2.drew.setCell ⟨gO,x.toNat,none⟩ (.bool true)).heap[h3]?=some (.cells #[.slice (some ⟨h1,0,none⟩) 2 2,.slice (some ⟨h2,0,none⟩) 2 2] 40 (0,0))):=⟨blk_far (zz7 HLC1.out) (by have:=HgO.out;have:=HH.out;show h3 ≠ gO;omega) _⟩
         rw [hln] at hxO
         clear hRO hbk HP hokO gbO glO clO hln
         go_upto_region 14 with (fail)
         go_still_tail 10,(by kernel_rfl)
         change wpList _ _ _ _ _ w2.drew
         have hcO2:w2.drew.cell? ⟨gO,x.toNat,none⟩=some (.bool (rdOf false (rd_L4 X1 y) x)):=hcO
         have hfO2:w2.drew.frozen? ⟨gO,x.toNat,none⟩=false:=hfO
         clear hcO hfO hxO e2 e3
         generalize w2.drew=wd2 at HS2 HB2 HLA2 HLB2 HLC2 hcO2 hfO2 ⊢
         go_wp2
         go_roundg (2 - (j+1))
         case measure=>omega
         case rel=>exact ⟨j+1,putB true X x y,by omega,by omega,by go_num,⟨HSTN.out.symm⟩,⟨by unfold putB;rw [← HX1.out];exact HQ2.out⟩,⟨by unfold putB;rw [← HX1.out];(with_reducible repeat (first | apply zz16 | apply zz17));exact HS2.out⟩,⟨by repeat (first | exact HB2.out | apply zz0 | apply below_drew)⟩,⟨by (with_reducible repeat (first | refine zz6 ?_ _ | refine zz7 ?_));exact HLA2.out⟩,⟨by (with_reducible repeat (first | refine zz6 ?_ _ | refine zz7 ?_));exact HLB2.out⟩,⟨by (with_reducible repeat (first | refine zz6 ?_ _ | refine zz7 ?_));exact HLC2.out⟩⟩
        ·have hltz:¬ (j:Int) < 2:=by omega
         obtain rfl:j=2:=by omega
         replace HST:Aside0 (X=stB true XT [(a1,a3),(a2,a4)]):=HST
         have HWF9:=zz31 (show wf.heap.size≤wr.heap.size from by have:=HH.out;have:=blk_lt HLA0.out;omega)
         clear HLA0 HLB0 HLC0
         have HZr:=zz31 (zz11 HZc.out HB0.out)
         have HBw:Aside0 (Below w.heap.size w wr):=⟨HBc.out.trans (HB0.out.mono HBc.out.size)⟩
         have HCO:=zz31 (Kd.S_reads' HS0.out).2.2
         have HCc:=zz31 (Kd.S_reads' HS0.out).2.1
         have HLN:=zz31 HQ0.out.1
         have HCc2:=zz31 (show X.length≤cf from by rw [HLN.out];exact HCc.out)
         rw [← HST.out] at HOF
         go_wp2_with (first | (go_at_call 42; rw [← HLN.out]; refine (spec_paOf.calls k (some ad5) cf X s1 s2 _ ?_ HCc2.out HOF.out).mono ?_; (repeat (first | exact HCO.out | (with_reducible refine zz19 ?_ _) | (with_reducible refine zz20 ?_))); rintro e' w6 ⟨v6, rfl, ho, hb⟩; obtain ⟨A6, c6, rfl⟩ := Kd.R_slice ho; have HR6 := zz31 (Kd.R_lower ho HBw.out.size); have HB6 := zz31 (zz4 HBw.out hb); have HY6 := zz31 (zz11 HZr.out hb); have g1 := zz9 HY6.out 0; have g2 := zz9 HY6.out 1; have g3 := zz10 HY6.out 0; have g4 := zz10 HY6.out 1; simp only [List.getElem?_toArray, List.getElem?_cons_zero, List.getElem?_cons_succ] at g1 g2; clear ho hb) | (fail "no arm"))
         refine bodyPost_ret (results_ct rfl _ _ gr 30 #[.int .i64 s1,.slice A6 s2.length c6] (0,0) _ rfl (by (with_reducible repeat (first | refine zz6 ?_ _ | refine zz7 ?_));refine blk_put (cs:=#[.int .i64 s1,.slice none 0 0]) ?_ 1 _ rfl;refine blk_put (cs:=#[.int .i64 0,.slice none 0 0]) ?_ 0 _ rfl;(with_reducible repeat (first | refine zz6 ?_ _ | refine zz7 ?_));exact HY6.out) Try.underlying30 rfl (by kernel_rfl)) rfl ?_
         exact ⟨_,rfl,by (with_reducible repeat (first | apply zz13 | apply zz14));exact Kd.R_mono (Kd.R_far (p:=⟨gr,1,none⟩) (Kd.R_far (p:=⟨gr,0,none⟩) (Kd.R_types HR6.out HY6.out (by decide)) (fun _ hk=>hk.2) (.int .i64 s1)) (fun _ hk=>hk.2) (.slice A6 s2.length c6)) (fun _ hk=>trivial),by repeat first | exact HB6.out | apply zz0 | apply below_drew | refine zz3 ?_ HGR.out⟩

/-! ### spec_paBefore: function 62 -/
def spec_paBefore.l0:Nat→List (S70)→Int→Int→Int→List (S70)→Int→List (S70)→Option (Bool)
 | 0,_,_,_,_,_,_,_=>none
 | k+1,x8,x9,x10,x168000,x168001,x169000,x169001=>if x10 < x9 then (if 0≤x10 then (if x10 < (x8.length:Int) then (if x10 ≥ (x169001.length:Int) then (some false) else (if x10 < (x169001.length:Int) then (if (!(((rd_T70 x8 x10).f0) == ((rd_T70 x169001 x10).f0)) || (!(((rd_T70 x8 x10).f1) == ((rd_T70 x169001 x10).f1))))=true then ((spec_paLess.f ((rd_T70 x8 x10).f0) ((rd_T70 x8 x10).f1) ((rd_T70 x169001 x10).f0) ((rd_T70 x169001 x10).f1)).bind fun t173=>(some t173)) else (spec_paBefore.l0 k x8 x9 (wrap64 (x10+1)) x168000 x168001 x169000 x169001)) else (none))) else (none)) else (none)) else (some (decide ((x168001.length:Int) < (x169001.length:Int))))
def spec_paBefore.f (k:Nat) (a0_0:Int) (l0_1:List (S70)) (a1_0:Int) (l1_1:List (S70)):Option (Bool):=spec_paBefore.l0 k l0_1 (l0_1.length:Int) 0 a0_0 l0_1 a1_0 l1_1
theorem spec_paBefore.mono_l:∀ k,(∀ y0 y1 y2 y3 y4 y5 y6,LeO (spec_paBefore.l0 k y0 y1 y2 y3 y4 y5 y6) (spec_paBefore.l0 (k+1) y0 y1 y2 y3 y4 y5 y6))
 | 0=>fun _ _ _ _ _ _ _ r h=>by simp [spec_paBefore.l0] at h
 | k+1=>by
  have ih0:=spec_paBefore.mono_l k
  ·intro y0 y1 y2 y3 y4 y5 y6
   unfold spec_paBefore.l0
   repeat' first
   | (with_reducible exact ih0 _ _ _ _ _ _ _)
   | (with_reducible exact LeO.refl _)
   | (with_reducible exact LeO.none _)
   | (with_reducible refine LeO.ite ?_ ?_)
   | (with_reducible refine LeO.bind ?_ (fun _=>?_))
   | exact ih0 _ _ _ _ _ _ _
   | exact LeO.none _
   | refine LeO.ite ?_ ?_
   | refine LeO.bind ?_ (fun _=>?_)
theorem spec_paBefore.mono:∀ a0 a1 a2 a3 k,LeO (spec_paBefore.f k a0 a1 a2 a3) (spec_paBefore.f (k+1) a0 a1 a2 a3):=by
 intro a0 a1 a2 a3 k
 have ih0:=spec_paBefore.mono_l k
 unfold spec_paBefore.f
 repeat' first
   | (with_reducible exact ih0 _ _ _ _ _ _ _)
   | (with_reducible exact LeO.refl _)
   | (with_reducible exact LeO.none _)
   | (with_reducible refine LeO.ite ?_ ?_)
   | (with_reducible refine LeO.bind ?_ (fun _=>?_))
   | exact ih0 _ _ _ _ _ _ _
   | exact LeO.none _
   | refine LeO.ite ?_ ?_
   | refine LeO.bind ?_ (fun _=>?_)
def spec_paBefore.T7:Bool × List (List Nat × List Nat):=(true,[([],[]),([],[]),([1],[1]),([],[]),([2,3],[2,3]),([4],[4]),([0,5],[0,5]),([6,6,0,1,2,3,4,5,6],[6])])
def spec_paBefore.B7:List Nat:=[0,0,2,0,14,30,63,127]
theorem spec_paBefore.tab7:rtab .any (opsOf Try.f62 7)=spec_paBefore.T7:=by kernel_rfl
theorem spec_paBefore.bits7:waitsOk spec_paBefore.T7.2 spec_paBefore.B7=true:=by kernel_rfl
set_option maxHeartbeats 8000000 in
set_option maxRecDepth 100000 in
theorem spec_paBefore.calls (k:Nat) (a0_0:Int) (A0_1:Option Addr) (c0_1:Nat) (l0_1:List (S70)) (a1_0:Int) (A1_1:Option Addr) (c1_1:Nat) (l1_1:List (S70)) (r:Bool) (w:World) (hr0_1:Kd.C k70 w A0_1 l0_1.length l0_1) (hc0_1:l0_1.length≤c0_1) (hr1_1:Kd.C k70 w A1_1 l1_1.length l1_1) (hc1_1:l1_1.length≤c1_1) (h:spec_paBefore.f k a0_0 l0_1 a1_0 l1_1=some r) :
  Calls Try.prog 62 #[.agg #[.int .i64 a0_0,.slice A0_1 l0_1.length c0_1],.agg #[.int .i64 a1_0,.slice A1_1 l1_1.length c1_1]] w fun e w'=>e=.returned (.bool r)∧Below w.heap.size w w':=by
 have hu30:=Try.underlying30
 have hu70:=Try.underlying70
 have HR0_1:=zz31 hr0_1
 have HC0_1:=zz31 hc0_1
 clear hr0_1 hc0_1
 have HR1_1:=zz31 hr1_1
 have HC1_1:=zz31 hc1_1
 clear hr1_1 hc1_1
 have HB:=zz31 (Below.refl w.heap.size w)
 have H:(spec_paBefore.l0 k l0_1 (l0_1.length:Int) 0 a0_0 l0_1 a1_0 l1_1)=some r:=h
 clear h
 have H':=zz31 H
 clear H
 go_enter Try.func62,Try.ntmps62
 go_wp2_with (first | ((with_reducible refine gate_dst (N:=2) rfl ?_);refine box_event ?hg (N:=2) ?hd (cs:=#[.int .i64 a0_0,.slice A0_1 l0_1.length c0_1]) (t:=30) ?hr ?_;(case hd=>rfl);(case hg=>rfl);(case hr=>first | (go_simp;done) | (go_simp;rfl));intro gb167 hg w3 hbox hb;have BK167:=zz31 (hbox);have GW167:=zz31 ((by rw [hg];exact (zz5 (by repeat first | exact HB.out | apply zz2 | apply zz0 | apply zz1)):w.heap.size≤gb167));replace HB:=zz31 (zz4 (by repeat first | exact HB.out | apply zz2 | apply zz0 | apply zz1) hb);have GE167:=GW167;clear hb hbox hg) | ((with_reducible refine gate_dst (N:=3) rfl ?_);refine box_event ?hg (N:=3) ?hd (cs:=#[.int .i64 a1_0,.slice A1_1 l1_1.length c1_1]) (t:=30) ?hr ?_;(case hd=>rfl);(case hg=>rfl);(case hr=>first | (go_simp;done) | (go_simp;rfl));intro gb168 hg w4 hbox hb;have BK168:=zz31 (hbox);have GW168:=zz31 ((by rw [hg];exact (zz5 (by repeat first | exact HB.out | apply zz2 | apply zz0 | apply zz1 | refine zz3 ?_ GE167.out)):w.heap.size≤gb168));replace HB:=zz31 (zz4 (by repeat first | exact HB.out | apply zz2 | apply zz0 | apply zz1 | refine zz3 ?_ GE167.out) hb);have GE168:=GW168;have NB167_168:=zz31 ((by rw [hg];exact Nat.ne_of_lt (blk_lt (g:=gb167) (o:=.cells #[.int .i64 a0_0,.slice A0_1 l0_1.length c0_1] 30 (0,0)) (by (with_reducible repeat (first | refine zz6 ?_ _ | refine zz7 ?_ | refine zz8 ?_ _));exact BK167.out)):gb167 ≠ gb168));have NB168_167:=zz31 ((by rw [hg];exact Nat.ne_of_gt (blk_lt (g:=gb167) (o:=.cells #[.int .i64 a0_0,.slice A0_1 l0_1.length c0_1] 30 (0,0)) (by (with_reducible repeat (first | refine zz6 ?_ _ | refine zz7 ?_ | refine zz8 ?_ _));exact BK167.out)):gb168 ≠ gb167));replace BK167:=zz31 (zz11 (g:=gb167) (o:=.cells #[.int .i64 a0_0,.slice A0_1 l0_1.length c0_1] 30 (0,0)) (by (with_reducible repeat (first | refine zz6 ?_ _ | refine zz7 ?_ | refine zz8 ?_ _));exact BK167.out) hb);clear hb hbox hg;have hnb5:=NB167_168.out;have hnc5:=NB168_167.out;have hcz6_0:w4.cell? ⟨gb167,0,none⟩=some (.int .i64 a0_0):=(zz9 BK167.out 0).trans rfl;have hcz6_1:w4.cell? ⟨gb167,1,none⟩=some (.slice A0_1 l0_1.length c0_1):=(zz9 BK167.out 1).trans rfl;have hfz6_0:=zz10 BK167.out 0;have hfz6_1:=zz10 BK167.out 1))
 go_loopg [10] k (fun kq v10 w'=>∃ (x10_1:Int),v10=.int .i64 x10_1∧Aside0 (spec_paBefore.l0 kq l0_1 (l0_1.length:Int) x10_1 a0_0 l0_1 a1_0 l1_1=some r)∧Aside0 (kq≤k)∧Aside0 (w'.heap[gb167]?=some (.cells #[.int .i64 a0_0,(.slice A0_1 l0_1.length c0_1)] 30 (0,0)))∧Aside0 (w'.heap[gb168]?=some (.cells #[.int .i64 a1_0,(.slice A1_1 l1_1.length c1_1)] 30 (0,0)))∧Aside0 (Below w.heap.size w w'))
 case atStart=>exact ⟨(0),(by first | rfl | (simp;done) | (simp [*];done)),H',⟨Nat.le_refl _⟩,⟨by (with_reducible repeat (first | refine zz6 ?_ _ | refine zz7 ?_ | refine zz8 ?_ _));exact BK167.out⟩,⟨by (with_reducible repeat (first | refine zz6 ?_ _ | refine zz7 ?_ | refine zz8 ?_ _));exact BK168.out⟩,⟨by repeat first | exact HB.out | apply zz2 | apply zz0 | apply zz1 | refine zz3 ?_ GE167.out | refine zz3 ?_ GE168.out⟩⟩
 case round =>
  clear H'
  try clear c1
  try clear p2
  try clear c5
  try clear c6
  try clear hcz6_0
  try clear hcz6_1
  try clear hfz6_0
  try clear hfz6_1
  obtain ⟨x10_1,rfl,HA,HK1,BK167,BK168,HB⟩:=hrel
  cases gk with
  | zero=>exact absurd HA.out (by simp [spec_paBefore.l0])
  | succ k1 =>
   have H:=HA.out
   clear HA
   simp only [spec_paBefore.l0] at H
   by_cases c7:x10_1 < (l0_1.length:Int)
   ·rw [if_pos c7] at H
    have c7b0:decide (x10_1 < (l0_1.length:Int))=true:=decide_eq_true c7
    clear c7
    by_cases c8:0≤x10_1
    ·rw [if_pos c8] at H
     have c8b0:decide (0≤x10_1)=true:=decide_eq_true c8
     clear c8
     by_cases c9:x10_1 < (l0_1.length:Int)
     ·rw [if_pos c9] at H
      have c9b0:decide (x10_1 < (l0_1.length:Int))=true:=decide_eq_true c9
      clear c9
      by_cases c10:x10_1 ≥ (l1_1.length:Int)
      ·rw [if_pos c10] at H
       have c10b0:decide ((l1_1.length:Int)≤x10_1)=true:=decide_eq_true c10
       clear c10
       obtain rfl:=Option.some.inj H
       have p169:0≤(x10_1:Int):=zz29 (by first | (with_reducible assumption) | assumption)
       have q169:x10_1 < (l0_1.length:Int):=zz29 (by first | (with_reducible assumption) | assumption)
       obtain ⟨ad169,e169,hx169_0,hx169_1⟩:=at_T70 HR0_1.out x10_1 p169 q169
       cases e169
       try replace hx169_0:=(HB.out.cell (World.block_lt_of_cell? w _ hx169_0)).trans hx169_0
       try replace hx169_1:=(HB.out.cell (World.block_lt_of_cell? w _ hx169_1)).trans hx169_1
       replace p169:=eq_true p169
       replace q169:=eq_true q169
       go_wp2_with (first | ((with_reducible refine gate_dst (N:=6) rfl ?_);refine box_event ?hg (N:=6) ?hd (cs:=#[.int .i64 0,.int .i64 0]) (t:=70) ?hr ?_;(case hd=>rfl);(case hg=>rfl);(case hr=>first | (go_simp;done) | (go_simp;rfl));intro gb170 hg w11 hbox hb;have BK170:=zz31 (hbox);have GW170:=zz31 ((by rw [hg];exact (zz5 (by repeat first | exact HB.out | apply zz2 | apply zz0 | apply zz1 | refine zz3 ?_ GE167.out | refine zz3 ?_ GE168.out)):w.heap.size≤gb170));replace HB:=zz31 (zz4 (by repeat first | exact HB.out | apply zz2 | apply zz0 | apply zz1 | refine zz3 ?_ GE167.out | refine zz3 ?_ GE168.out) hb);have GE170:=GW170;have NB167_170:=zz31 ((by rw [hg];exact Nat.ne_of_lt (blk_lt (g:=gb167) (o:=.cells #[.int .i64 a0_0,.slice (some ad169) l0_1.length c0_1] 30 (0,0)) (by (with_reducible repeat (first | refine zz6 ?_ _ | refine zz7 ?_ | refine zz8 ?_ _));exact BK167.out)):gb167 ≠ gb170));have NB170_167:=zz31 ((by rw [hg];exact Nat.ne_of_gt (blk_lt (g:=gb167) (o:=.cells #[.int .i64 a0_0,.slice (some ad169) l0_1.length c0_1] 30 (0,0)) (by (with_reducible repeat (first | refine zz6 ?_ _ | refine zz7 ?_ | refine zz8 ?_ _));exact BK167.out)):gb170 ≠ gb167));replace BK167:=zz31 (zz11 (g:=gb167) (o:=.cells #[.int .i64 a0_0,.slice (some ad169) l0_1.length c0_1] 30 (0,0)) (by (with_reducible repeat (first | refine zz6 ?_ _ | refine zz7 ?_ | refine zz8 ?_ _));exact BK167.out) hb);have NB168_170:=zz31 ((by rw [hg];exact Nat.ne_of_lt (blk_lt (g:=gb168) (o:=.cells #[.int .i64 a1_0,.slice A1_1 l1_1.length c1_1] 30 (0,0)) (by (with_reducible repeat (first | refine zz6 ?_ _ | refine zz7 ?_ | refine zz8 ?_ _));exact BK168.out)):gb168 ≠ gb170));have NB170_168:=zz31 ((by rw [hg];exact Nat.ne_of_gt (blk_lt (g:=gb168) (o:=.cells #[.int .i64 a1_0,.slice A1_1 l1_1.length c1_1] 30 (0,0)) (by (with_reducible repeat (first | refine zz6 ?_ _ | refine zz7 ?_ | refine zz8 ?_ _));exact BK168.out)):gb170 ≠ gb168));replace BK168:=zz31 (zz11 (g:=gb168) (o:=.cells #[.int .i64 a1_0,.slice A1_1 l1_1.length c1_1] 30 (0,0)) (by (with_reducible repeat (first | refine zz6 ?_ _ | refine zz7 ?_ | refine zz8 ?_ _));exact BK168.out) hb);clear hb hbox hg;have hnb12:=NB170_167.out;have hnc12:=NB167_170.out;have hnb13:=NB170_168.out;have hnc13:=NB168_170.out;have hcz14_0:w11.cell? ⟨gb170,0,none⟩=some (.int .i64 0):=(zz9 BK170.out 0).trans rfl;have hcz14_1:w11.cell? ⟨gb170,1,none⟩=some (.int .i64 0):=(zz9 BK170.out 1).trans rfl;have hfz14_0:=zz10 BK170.out 0;have hfz14_1:=zz10 BK170.out 1;have hnb15:=NB168_167.out;have hnc15:=NB167_168.out;have hcz16_0:w11.cell? ⟨gb168,0,none⟩=some (.int .i64 a1_0):=(zz9 BK168.out 0).trans rfl;have hcz16_1:w11.cell? ⟨gb168,1,none⟩=some (.slice A1_1 l1_1.length c1_1):=(zz9 BK168.out 1).trans rfl;have hfz16_0:=zz10 BK168.out 0;have hfz16_1:=zz10 BK168.out 1))
       go_ret
       exact ⟨by first | rfl | (simp [errW_none,errW_some] <;> rfl) | (simp [*,errW_none,errW_some] <;> rfl),by repeat first | exact HB.out | apply zz2 | apply zz0 | apply zz1 | refine zz3 ?_ GE167.out | refine zz3 ?_ GE168.out | refine zz3 ?_ GE170.out⟩
      ·rw [if_neg c10] at H
       have c10b0:decide ((l1_1.length:Int)≤x10_1)=false:=decide_eq_false c10
       clear c10
       by_cases c17:x10_1 < (l1_1.length:Int)
       ·rw [if_pos c17] at H
        have c17b0:decide (x10_1 < (l1_1.length:Int))=true:=decide_eq_true c17
        clear c17
        by_cases c18:(!(((rd_T70 l0_1 x10_1).f0) == ((rd_T70 l1_1 x10_1).f0)) || (!(((rd_T70 l0_1 x10_1).f1) == ((rd_T70 l1_1 x10_1).f1))))=true
        ·rw [if_pos c18] at H
         have c18b0:(!(((rd_T70 l0_1 x10_1).f0) == ((rd_T70 l1_1 x10_1).f0)) || (!(((rd_T70 l0_1 x10_1).f1) == ((rd_T70 l1_1 x10_1).f1))))=true:=c18
         clear c18
         replace H:=zz30.mp H
         obtain ⟨t173,A190,H⟩:=H
         replace H:(some t173)=some r:=H
         have A19:=zz31 A190
         clear A190
         obtain rfl:=Option.some.inj H
         have p169:0≤(x10_1:Int):=zz29 (by first | (with_reducible assumption) | assumption)
         have q169:x10_1 < (l0_1.length:Int):=zz29 (by first | (with_reducible assumption) | assumption)
         obtain ⟨ad169,e169,hx169_0,hx169_1⟩:=at_T70 HR0_1.out x10_1 p169 q169
         cases e169
         try replace hx169_0:=(HB.out.cell (World.block_lt_of_cell? w _ hx169_0)).trans hx169_0
         try replace hx169_1:=(HB.out.cell (World.block_lt_of_cell? w _ hx169_1)).trans hx169_1
         replace p169:=eq_true p169
         replace q169:=eq_true q169
         try go_wp2_with (first | ((with_reducible refine gate_dst (N:=6) rfl ?_);refine box_event ?hg (N:=6) ?hd (cs:=#[.int .i64 0,.int .i64 0]) (t:=70) ?hr ?_;(case hd=>rfl);(case hg=>rfl);(case hr=>first | (go_simp;done) | (go_simp;rfl));intro gb170 hg w20 hbox hb;have BK170:=zz31 (hbox);have GW170:=zz31 ((by rw [hg];exact (zz5 (by repeat first | exact HB.out | apply zz2 | apply zz0 | apply zz1 | refine zz3 ?_ GE167.out | refine zz3 ?_ GE168.out)):w.heap.size≤gb170));replace HB:=zz31 (zz4 (by repeat first | exact HB.out | apply zz2 | apply zz0 | apply zz1 | refine zz3 ?_ GE167.out | refine zz3 ?_ GE168.out) hb);have GE170:=GW170;have NB167_170:=zz31 ((by rw [hg];exact Nat.ne_of_lt (blk_lt (g:=gb167) (o:=.cells #[.int .i64 a0_0,.slice (some ad169) l0_1.length c0_1] 30 (0,0)) (by (with_reducible repeat (first | refine zz6 ?_ _ | refine zz7 ?_ | refine zz8 ?_ _));exact BK167.out)):gb167 ≠ gb170));have NB170_167:=zz31 ((by rw [hg];exact Nat.ne_of_gt (blk_lt (g:=gb167) (o:=.cells #[.int .i64 a0_0,.slice (some ad169) l0_1.length c0_1] 30 (0,0)) (by (with_reducible repeat (first | refine zz6 ?_ _ | refine zz7 ?_ | refine zz8 ?_ _));exact BK167.out)):gb170 ≠ gb167));replace BK167:=zz31 (zz11 (g:=gb167) (o:=.cells #[.int .i64 a0_0,.slice (some ad169) l0_1.length c0_1] 30 (0,0)) (by (with_reducible repeat (first | refine zz6 ?_ _ | refine zz7 ?_ | refine zz8 ?_ _));exact BK167.out) hb);have NB168_170:=zz31 ((by rw [hg];exact Nat.ne_of_lt (blk_lt (g:=gb168) (o:=.cells #[.int .i64 a1_0,.slice A1_1 l1_1.length c1_1] 30 (0,0)) (by (with_reducible repeat (first | refine zz6 ?_ _ | refine zz7 ?_ | refine zz8 ?_ _));exact BK168.out)):gb168 ≠ gb170));have NB170_168:=zz31 ((by rw [hg];exact Nat.ne_of_gt (blk_lt (g:=gb168) (o:=.cells #[.int .i64 a1_0,.slice A1_1 l1_1.length c1_1] 30 (0,0)) (by (with_reducible repeat (first | refine zz6 ?_ _ | refine zz7 ?_ | refine zz8 ?_ _));exact BK168.out)):gb170 ≠ gb168));replace BK168:=zz31 (zz11 (g:=gb168) (o:=.cells #[.int .i64 a1_0,.slice A1_1 l1_1.length c1_1] 30 (0,0)) (by (with_reducible repeat (first | refine zz6 ?_ _ | refine zz7 ?_ | refine zz8 ?_ _));exact BK168.out) hb);clear hb hbox hg;have hnb21:=NB170_167.out;have hnc21:=NB167_170.out;have hnb22:=NB170_168.out;have hnc22:=NB168_170.out;have hcz23_0:w20.cell? ⟨gb170,0,none⟩=some (.int .i64 0):=(zz9 BK170.out 0).trans rfl;have hcz23_1:w20.cell? ⟨gb170,1,none⟩=some (.int .i64 0):=(zz9 BK170.out 1).trans rfl;have hfz23_0:=zz10 BK170.out 0;have hfz23_1:=zz10 BK170.out 1;have hnb24:=NB168_167.out;have hnc24:=NB167_168.out;have hcz25_0:w20.cell? ⟨gb168,0,none⟩=some (.int .i64 a1_0):=(zz9 BK168.out 0).trans rfl;have hcz25_1:w20.cell? ⟨gb168,1,none⟩=some (.slice A1_1 l1_1.length c1_1):=(zz9 BK168.out 1).trans rfl;have hfz25_0:=zz10 BK168.out 0;have hfz25_1:=zz10 BK168.out 1))
         have n0_:Aside0 (((w20.setCell ⟨gb170,0,none⟩ (.int .i64 ((rd_T70 l0_1 x10_1).f0))).setCell ⟨gb170,1,none⟩ (.int .i64 ((rd_T70 l0_1 x10_1).f1))).heap[gb167]?=some (.cells #[.int .i64 a0_0,.slice (some ad169) l0_1.length c0_1] 30 (0,0))):=⟨by (with_reducible repeat (first | refine zz6 ?_ _ | refine zz7 ?_ | refine zz8 ?_ _));refine blk_far ?_ NB167_170.out _;(with_reducible repeat (first | refine zz6 ?_ _ | refine zz7 ?_ | refine zz8 ?_ _));refine blk_far ?_ NB167_170.out _;(with_reducible repeat (first | refine zz6 ?_ _ | refine zz7 ?_ | refine zz8 ?_ _));exact BK167.out⟩
         have n1_:Aside0 (((w20.setCell ⟨gb170,0,none⟩ (.int .i64 ((rd_T70 l0_1 x10_1).f0))).setCell ⟨gb170,1,none⟩ (.int .i64 ((rd_T70 l0_1 x10_1).f1))).heap[gb168]?=some (.cells #[.int .i64 a1_0,.slice A1_1 l1_1.length c1_1] 30 (0,0))):=⟨by (with_reducible repeat (first | refine zz6 ?_ _ | refine zz7 ?_ | refine zz8 ?_ _));refine blk_far ?_ NB168_170.out _;(with_reducible repeat (first | refine zz6 ?_ _ | refine zz7 ?_ | refine zz8 ?_ _));refine blk_far ?_ NB168_170.out _;(with_reducible repeat (first | refine zz6 ?_ _ | refine zz7 ?_ | refine zz8 ?_ _));exact BK168.out⟩
         have n2_:Aside0 (((w20.setCell ⟨gb170,0,none⟩ (.int .i64 ((rd_T70 l0_1 x10_1).f0))).setCell ⟨gb170,1,none⟩ (.int .i64 ((rd_T70 l0_1 x10_1).f1))).heap[gb170]?=some (.cells #[.int .i64 ((rd_T70 l0_1 x10_1).f0),.int .i64 ((rd_T70 l0_1 x10_1).f1)] 70 (0,0))):=⟨by (with_reducible repeat (first | refine zz6 ?_ _ | refine zz7 ?_ | refine zz8 ?_ _));refine blk_put (cs:=#[.int .i64 ((rd_T70 l0_1 x10_1).f0),.int .i64 0]) ?_ 1 _ rfl;(with_reducible repeat (first | refine zz6 ?_ _ | refine zz7 ?_ | refine zz8 ?_ _));refine blk_put (cs:=#[.int .i64 0,.int .i64 0]) ?_ 0 _ rfl;(with_reducible repeat (first | refine zz6 ?_ _ | refine zz7 ?_ | refine zz8 ?_ _));exact BK170.out⟩
         have n3_:Aside0 (Below w.heap.size w ((w20.setCell ⟨gb170,0,none⟩ (.int .i64 ((rd_T70 l0_1 x10_1).f0))).setCell ⟨gb170,1,none⟩ (.int .i64 ((rd_T70 l0_1 x10_1).f1)))):=⟨by repeat first | exact HB.out | apply zz2 | apply zz0 | apply zz1 | refine zz3 ?_ GE167.out | refine zz3 ?_ GE168.out | refine zz3 ?_ GE170.out⟩
         (try clear BK167)
         (try clear BK168)
         (try clear BK170)
         (try clear HB)
         generalize ((w20.setCell ⟨gb170,0,none⟩ (.int .i64 ((rd_T70 l0_1 x10_1).f0))).setCell ⟨gb170,1,none⟩ (.int .i64 ((rd_T70 l0_1 x10_1).f1)))=w26 at n0_ n1_ n2_ n3_ ⊢
         have BK167:=n0_
         have BK168:=n1_
         have BK170:=n2_
         have HB:=n3_
         clear n0_ n1_ n2_ n3_
         replace BK167:=zz31 (zz7 BK167.out)
         replace BK168:=zz31 (zz7 BK168.out)
         replace BK170:=zz31 (zz7 BK170.out)
         replace HB:=zz31 (zz1 HB.out)
         have p171:0≤(x10_1:Int):=zz29 (by first | (with_reducible assumption) | assumption)
         have q171:x10_1 < (l1_1.length:Int):=zz29 (by first | (with_reducible assumption) | assumption)
         obtain ⟨ad171,e171,hx171_0,hx171_1⟩:=at_T70 HR1_1.out x10_1 p171 q171
         have hw171_1:=hx171_1
         have hw171_0:=hx171_0
         cases e171
         try replace hx171_0:=(HB.out.cell (World.block_lt_of_cell? w _ hx171_0)).trans hx171_0
         try replace hx171_1:=(HB.out.cell (World.block_lt_of_cell? w _ hx171_1)).trans hx171_1
         replace p171:=eq_true p171
         replace q171:=eq_true q171
         refine start_ (n:=7) (S:=fun w'=>w'.cell? ⟨gb170,0,none⟩=some (.int .i64 ((rd_T70 l0_1 x10_1).f0))∧w'.cell? ⟨gb170,1,none⟩=some (.int .i64 ((rd_T70 l0_1 x10_1).f1))∧w'.cell? ⟨gb168,0,none⟩=some (.int .i64 a1_0)∧w'.cell? ⟨gb168,1,none⟩=some (.slice (some ad171) l1_1.length c1_1)∧w'.cell? (ad171.add ((x10_1).toNat * 2))=some (.int .i64 ((rd_T70 l1_1 x10_1).f0))∧w'.cell? ⟨(ad171.add ((x10_1).toNat * 2)).block,(ad171.add ((x10_1).toNat * 2)).off+1,none⟩=some (.int .i64 ((rd_T70 l1_1 x10_1).f1))) (ds:=[]) #[F,F,F,F,F,F,F] (by kernel_rfl) rfl rfl ⟨(zz9 BK170.out 0).trans rfl,(zz9 BK170.out 1).trans rfl,(zz9 BK168.out 0).trans rfl,(zz9 BK168.out 1).trans rfl,((HB.out.cell (World.block_lt_of_cell? w _ hw171_0)).trans hw171_0),((HB.out.cell (World.block_lt_of_cell? w _ hw171_1)).trans hw171_1)⟩ (fun hHeld=>?_)
         generalize w26.drew=w27 at BK167 BK168 BK170 HB hx171_0 hx171_1 hHeld ⊢
         refine pure_ (i:=1) (N:=some 21) (v:=?_) (a':=?_) #[F,T,F,F,F,F,F] rfl rfl (by kernel_rfl) (fun _ _ _ h=>h) (Or.inl ⟨by rfl,?_⟩) ?_ ?_;rotate_left;(intro w';go_simp;with_reducible rfl);rotate_left;(simp only [Act.put,zz21,zz22,zz23,i64_w,i32_w];rfl)
         refine pure_ (i:=3) (N:=some 23) (v:=?_) (a':=?_) #[F,T,F,T,F,F,F] rfl rfl (by kernel_rfl) (fun _ _ _ h=>h) (Or.inl ⟨by rfl,?_⟩) ?_ ?_;rotate_left;(intro w';go_simp;with_reducible rfl);rotate_left;(simp only [Act.put,zz21,zz22,zz23,i64_w,i32_w];rfl)
         refine take_ (i:=0) (N:=some 20) (v:=?_) (a':=?_) #[T,T,F,T,F,F,F] rfl rfl (by kernel_rfl) (fun _ _ _ h=>h) (Or.inl ⟨by rfl,?_⟩) hHeld ?_ ?_;rotate_left;(rintro w' ⟨s0,s1,s2,s3,s4,s5⟩;go_simp;with_reducible rfl);rotate_left;(simp only [Act.put,zz21,zz22,zz23,i64_w,i32_w];rfl)
         refine take_ (i:=2) (N:=some 22) (v:=?_) (a':=?_) #[T,T,T,T,F,F,F] rfl rfl (by kernel_rfl) (fun _ _ _ h=>h) (Or.inl ⟨by rfl,?_⟩) hHeld ?_ ?_;rotate_left;(rintro w' ⟨s0,s1,s2,s3,s4,s5⟩;go_simp;with_reducible rfl);rotate_left;(simp only [Act.put,zz21,zz22,zz23,i64_w,i32_w];rfl)
         refine pure_ (i:=4) (N:=some 24) (v:=?_) (a':=?_) #[T,T,T,T,T,F,F] rfl rfl (by kernel_rfl) (fun _ _ _ h=>h) (Or.inl ⟨by rfl,?_⟩) ?_ ?_;rotate_left;(intro w';go_simp;with_reducible rfl);rotate_left;(simp only [Act.put,zz21,zz22,zz23,i64_w,i32_w];rfl)
         refine take_ (i:=5) (N:=some 25) (v:=?_) (a':=?_) #[T,T,T,T,T,T,F] rfl rfl (by kernel_rfl) (fun _ _ _ h=>h) (Or.inl ⟨by rfl,?_⟩) hHeld ?_ ?_;rotate_left;(rintro w' ⟨s0,s1,s2,s3,s4,s5⟩;go_simp;with_reducible rfl);rotate_left;(simp only [Act.put,zz21,zz22,zz23,i64_w,i32_w];rfl)
         refine pure_ (i:=6) (N:=some 26) (v:=?_) (a':=?_) #[T,T,T,T,T,T,T] rfl rfl (by kernel_rfl) (fun _ _ _ h=>h) (Or.inl ⟨by rfl,?_⟩) ?_ ?_;rotate_left;(intro w';go_simp;with_reducible rfl);rotate_left;(simp only [Act.put,zz21,zz22,zz23,i64_w,i32_w];rfl)
         refine done_ (by kernel_rfl) ?_
         try go_wp2
         replace BK167:=zz31 (zz7 BK167.out)
         replace BK168:=zz31 (zz7 BK168.out)
         replace BK170:=zz31 (zz7 BK170.out)
         replace HB:=zz31 (zz1 HB.out)
         have p172:0≤(x10_1:Int):=zz29 (by first | (with_reducible assumption) | assumption)
         have q172:x10_1 < (l1_1.length:Int):=zz29 (by first | (with_reducible assumption) | assumption)
         obtain ⟨ad172,e172,hx172_0,hx172_1⟩:=at_T70 HR1_1.out x10_1 p172 q172
         have hw172_1:=hx172_1
         have hw172_0:=hx172_0
         obtain rfl:ad171=ad172:=(by injection e172)
         try replace hx172_0:=(HB.out.cell (World.block_lt_of_cell? w _ hx172_0)).trans hx172_0
         try replace hx172_1:=(HB.out.cell (World.block_lt_of_cell? w _ hx172_1)).trans hx172_1
         replace p172:=eq_true p172
         replace q172:=eq_true q172
         refine start_ (n:=8) (S:=fun w'=>w'.cell? ⟨gb170,0,none⟩=some (.int .i64 ((rd_T70 l0_1 x10_1).f0))∧w'.cell? ⟨gb170,1,none⟩=some (.int .i64 ((rd_T70 l0_1 x10_1).f1))∧w'.cell? ⟨gb168,0,none⟩=some (.int .i64 a1_0)∧w'.cell? ⟨gb168,1,none⟩=some (.slice (some ad171) l1_1.length c1_1)∧w'.cell? (ad171.add ((x10_1).toNat * 2))=some (.int .i64 ((rd_T70 l1_1 x10_1).f0))∧w'.cell? ⟨(ad171.add ((x10_1).toNat * 2)).block,(ad171.add ((x10_1).toNat * 2)).off+1,none⟩=some (.int .i64 ((rd_T70 l1_1 x10_1).f1))) (ds:=[]) #[F,F,F,F,F,F,F,F] (by kernel_rfl) rfl rfl ⟨(zz9 BK170.out 0).trans rfl,(zz9 BK170.out 1).trans rfl,(zz9 BK168.out 0).trans rfl,(zz9 BK168.out 1).trans rfl,((HB.out.cell (World.block_lt_of_cell? w _ hw172_0)).trans hw172_0),((HB.out.cell (World.block_lt_of_cell? w _ hw172_1)).trans hw172_1)⟩ (fun hHeld=>?_);refine with_tabW spec_paBefore.tab7 spec_paBefore.bits7 (fun HT_ HW_=>?_)
         generalize w27.drew=w28 at BK167 BK168 BK170 HB hx172_0 hx172_1 hHeld ⊢
         refine zz32 (v:=?_) (a':=?_) 1 (some 28) #[F,T,F,F,F,F,F,F] rfl rfl HT_.out (by kernel_rfl) (fun _ _ _ h=>h) (by rfl) (fun w'=>?_) ?_ ?_;rotate_left;(go_simp;with_reducible rfl);rotate_left;(simp only [Act.put,zz21,zz22,zz23,i64_w,i32_w];rfl)
         refine zz32 (v:=?_) (a':=?_) 3 (some 30) #[F,T,F,T,F,F,F,F] rfl rfl HT_.out (by kernel_rfl) (fun _ _ _ h=>h) (by rfl) (fun w'=>?_) ?_ ?_;rotate_left;(go_simp;with_reducible rfl);rotate_left;(simp only [Act.put,zz21,zz22,zz23,i64_w,i32_w];rfl)
         refine zz33 (v:=?_) (a':=?_) 0 (some 27) #[T,T,F,T,F,F,F,F] rfl rfl HT_.out HW_.out (by kernel_rfl) (fun _ _ _ h=>h) (by rfl) ?_ hHeld ?_ ?_;rotate_left;(rintro w' ⟨s0,s1,s2,s3,s4,s5⟩;go_simp;with_reducible rfl);rotate_left;(simp only [Act.put,zz21,zz22,zz23,i64_w,i32_w];rfl)
         refine zz33 (v:=?_) (a':=?_) 2 (some 29) #[T,T,T,T,F,F,F,F] rfl rfl HT_.out HW_.out (by kernel_rfl) (fun _ _ _ h=>h) (by rfl) ?_ hHeld ?_ ?_;rotate_left;(rintro w' ⟨s0,s1,s2,s3,s4,s5⟩;go_simp;with_reducible rfl);rotate_left;(simp only [Act.put,zz21,zz22,zz23,i64_w,i32_w];rfl)
         refine zz32 (v:=?_) (a':=?_) 4 (some 31) #[T,T,T,T,T,F,F,F] rfl rfl HT_.out (by kernel_rfl) (fun _ _ _ h=>h) (by rfl) (fun w'=>?_) ?_ ?_;rotate_left;(go_simp;with_reducible rfl);rotate_left;(simp only [Act.put,zz21,zz22,zz23,i64_w,i32_w];rfl)
         refine zz33 (v:=?_) (a':=?_) 5 (some 32) #[T,T,T,T,T,T,F,F] rfl rfl HT_.out HW_.out (by kernel_rfl) (fun _ _ _ h=>h) (by rfl) ?_ hHeld ?_ ?_;rotate_left;(rintro w' ⟨s0,s1,s2,s3,s4,s5⟩;go_simp;with_reducible rfl);rotate_left;(simp only [Act.put,zz21,zz22,zz23,i64_w,i32_w];rfl)
         refine one_ (i:=6) (N:=some 33) #[T,T,T,T,T,T,T,F] rfl rfl (one_of HT_.out (by kernel_rfl)) (by decide) (fun K hK=>?_)
         refine goes_ Try.func75 (by kernel_rfl) rfl #[.agg #[.int .i64 ((rd_T70 l0_1 x10_1).f0),.int .i64 ((rd_T70 l0_1 x10_1).f1)],.agg #[.int .i64 ((rd_T70 l1_1 x10_1).f0),.int .i64 ((rd_T70 l1_1 x10_1).f1)]] (by rfl) rfl rfl (by (try simp only [zz26,zz27,zz28]);first | done | rfl | (simp only [zz24,zz25];rfl)) ?_
         with_reducible refine (spec_paLess.calls ((rd_T70 l0_1 x10_1).f0) ((rd_T70 l0_1 x10_1).f1) ((rd_T70 l1_1 x10_1).f0) ((rd_T70 l1_1 x10_1).f1) t173 _ A19.out).mono ?_
         rintro e w29 ⟨rfl,hb⟩
         refine ⟨_,rfl,?_⟩
         replace BK167:=zz31 (zz11 (g:=gb167) (o:=.cells #[.int .i64 a0_0,.slice (some ad169) l0_1.length c0_1] 30 (0,0)) (by (with_reducible repeat (first | refine zz6 ?_ _ | refine zz7 ?_ | refine zz8 ?_ _));exact BK167.out) hb)
         replace BK168:=zz31 (zz11 (g:=gb168) (o:=.cells #[.int .i64 a1_0,.slice (some ad171) l1_1.length c1_1] 30 (0,0)) (by (with_reducible repeat (first | refine zz6 ?_ _ | refine zz7 ?_ | refine zz8 ?_ _));exact BK168.out) hb)
         replace BK170:=zz31 (zz11 (g:=gb170) (o:=.cells #[.int .i64 ((rd_T70 l0_1 x10_1).f0),.int .i64 ((rd_T70 l0_1 x10_1).f1)] 70 (0,0)) (by (with_reducible repeat (first | refine zz6 ?_ _ | refine zz7 ?_ | refine zz8 ?_ _));exact BK170.out) hb)
         replace HB:=zz31 (zz4 (by repeat first | exact HB.out | apply zz2 | apply zz0 | apply zz1 | refine zz3 ?_ GE167.out | refine zz3 ?_ GE168.out | refine zz3 ?_ GE170.out) hb)
         (try clear hb)
         (try clear hb2)
         (try clear hk)
         (try clear hi)
         refine hK.out _ _ ⟨(zz9 BK170.out 0).trans rfl,(zz9 BK170.out 1).trans rfl,(zz9 BK168.out 0).trans rfl,(zz9 BK168.out 1).trans rfl,((HB.out.cell (World.block_lt_of_cell? w _ hw172_0)).trans hw172_0),((HB.out.cell (World.block_lt_of_cell? w _ hw172_1)).trans hw172_1)⟩ (fun hHeld=>?_)
         clear hK K
         refine norm_ (a':=?_) ?_ ?_;rotate_left;(show Act.put _ (some 33) _=_;simp only [Act.put,zz21,zz22,zz23,i64_w,i32_w];rfl)
         refine zz32 (v:=?_) (a':=?_) 7 (some 4) #[T,T,T,T,T,T,T,T] rfl rfl HT_.out (by kernel_rfl) (fun _ _ _ h=>h) (by rfl) (fun w'=>?_) ?_ ?_;rotate_left;(go_simp;with_reducible rfl);rotate_left;(simp only [Act.put,zz21,zz22,zz23,i64_w,i32_w];rfl)
         refine done_ (done_of HT_.out (by kernel_rfl)) ?_
         try go_wp2
         go_ret
         exact ⟨by first | rfl | (simp [errW_none,errW_some] <;> rfl) | (simp [*,errW_none,errW_some] <;> rfl),by repeat first | exact HB.out | apply zz2 | apply zz0 | apply zz1 | refine zz3 ?_ GE167.out | refine zz3 ?_ GE168.out | refine zz3 ?_ GE170.out⟩
        ·rw [if_neg c18] at H
         have c18b0:(!(((rd_T70 l0_1 x10_1).f0) == ((rd_T70 l1_1 x10_1).f0)) || (!(((rd_T70 l0_1 x10_1).f1) == ((rd_T70 l1_1 x10_1).f1))))=false:=by simpa using c18
         clear c18
         have H':=zz31 H
         clear H
         have p169:0≤(x10_1:Int):=zz29 (by first | (with_reducible assumption) | assumption)
         have q169:x10_1 < (l0_1.length:Int):=zz29 (by first | (with_reducible assumption) | assumption)
         obtain ⟨ad169,e169,hx169_0,hx169_1⟩:=at_T70 HR0_1.out x10_1 p169 q169
         cases e169
         try replace hx169_0:=(HB.out.cell (World.block_lt_of_cell? w _ hx169_0)).trans hx169_0
         try replace hx169_1:=(HB.out.cell (World.block_lt_of_cell? w _ hx169_1)).trans hx169_1
         replace p169:=eq_true p169
         replace q169:=eq_true q169
         try go_wp2_with (first | ((with_reducible refine gate_dst (N:=6) rfl ?_);refine box_event ?hg (N:=6) ?hd (cs:=#[.int .i64 0,.int .i64 0]) (t:=70) ?hr ?_;(case hd=>rfl);(case hg=>rfl);(case hr=>first | (go_simp;done) | (go_simp;rfl));intro gb170 hg w30 hbox hb;have BK170:=zz31 (hbox);have GW170:=zz31 ((by rw [hg];exact (zz5 (by repeat first | exact HB.out | apply zz2 | apply zz0 | apply zz1 | refine zz3 ?_ GE167.out | refine zz3 ?_ GE168.out)):w.heap.size≤gb170));replace HB:=zz31 (zz4 (by repeat first | exact HB.out | apply zz2 | apply zz0 | apply zz1 | refine zz3 ?_ GE167.out | refine zz3 ?_ GE168.out) hb);have GE170:=GW170;have NB167_170:=zz31 ((by rw [hg];exact Nat.ne_of_lt (blk_lt (g:=gb167) (o:=.cells #[.int .i64 a0_0,.slice (some ad169) l0_1.length c0_1] 30 (0,0)) (by (with_reducible repeat (first | refine zz6 ?_ _ | refine zz7 ?_ | refine zz8 ?_ _));exact BK167.out)):gb167 ≠ gb170));have NB170_167:=zz31 ((by rw [hg];exact Nat.ne_of_gt (blk_lt (g:=gb167) (o:=.cells #[.int .i64 a0_0,.slice (some ad169) l0_1.length c0_1] 30 (0,0)) (by (with_reducible repeat (first | refine zz6 ?_ _ | refine zz7 ?_ | refine zz8 ?_ _));exact BK167.out)):gb170 ≠ gb167));replace BK167:=zz31 (zz11 (g:=gb167) (o:=.cells #[.int .i64 a0_0,.slice (some ad169) l0_1.length c0_1] 30 (0,0)) (by (with_reducible repeat (first | refine zz6 ?_ _ | refine zz7 ?_ | refine zz8 ?_ _));exact BK167.out) hb);have NB168_170:=zz31 ((by rw [hg];exact Nat.ne_of_lt (blk_lt (g:=gb168) (o:=.cells #[.int .i64 a1_0,.slice A1_1 l1_1.length c1_1] 30 (0,0)) (by (with_reducible repeat (first | refine zz6 ?_ _ | refine zz7 ?_ | refine zz8 ?_ _));exact BK168.out)):gb168 ≠ gb170));have NB170_168:=zz31 ((by rw [hg];exact Nat.ne_of_gt (blk_lt (g:=gb168) (o:=.cells #[.int .i64 a1_0,.slice A1_1 l1_1.length c1_1] 30 (0,0)) (by (with_reducible repeat (first | refine zz6 ?_ _ | refine zz7 ?_ | refine zz8 ?_ _));exact BK168.out)):gb170 ≠ gb168));replace BK168:=zz31 (zz11 (g:=gb168) (o:=.cells #[.int .i64 a1_0,.slice A1_1 l1_1.length c1_1] 30 (0,0)) (by (with_reducible repeat (first | refine zz6 ?_ _ | refine zz7 ?_ | refine zz8 ?_ _));exact BK168.out) hb);clear hb hbox hg;have hnb31:=NB170_167.out;have hnc31:=NB167_170.out;have hnb32:=NB170_168.out;have hnc32:=NB168_170.out;have hcz33_0:w30.cell? ⟨gb170,0,none⟩=some (.int .i64 0):=(zz9 BK170.out 0).trans rfl;have hcz33_1:w30.cell? ⟨gb170,1,none⟩=some (.int .i64 0):=(zz9 BK170.out 1).trans rfl;have hfz33_0:=zz10 BK170.out 0;have hfz33_1:=zz10 BK170.out 1;have hnb34:=NB168_167.out;have hnc34:=NB167_168.out;have hcz35_0:w30.cell? ⟨gb168,0,none⟩=some (.int .i64 a1_0):=(zz9 BK168.out 0).trans rfl;have hcz35_1:w30.cell? ⟨gb168,1,none⟩=some (.slice A1_1 l1_1.length c1_1):=(zz9 BK168.out 1).trans rfl;have hfz35_0:=zz10 BK168.out 0;have hfz35_1:=zz10 BK168.out 1))
         have n0_:Aside0 (((w30.setCell ⟨gb170,0,none⟩ (.int .i64 ((rd_T70 l0_1 x10_1).f0))).setCell ⟨gb170,1,none⟩ (.int .i64 ((rd_T70 l0_1 x10_1).f1))).heap[gb167]?=some (.cells #[.int .i64 a0_0,.slice (some ad169) l0_1.length c0_1] 30 (0,0))):=⟨by (with_reducible repeat (first | refine zz6 ?_ _ | refine zz7 ?_ | refine zz8 ?_ _));refine blk_far ?_ NB167_170.out _;(with_reducible repeat (first | refine zz6 ?_ _ | refine zz7 ?_ | refine zz8 ?_ _));refine blk_far ?_ NB167_170.out _;(with_reducible repeat (first | refine zz6 ?_ _ | refine zz7 ?_ | refine zz8 ?_ _));exact BK167.out⟩
         have n1_:Aside0 (((w30.setCell ⟨gb170,0,none⟩ (.int .i64 ((rd_T70 l0_1 x10_1).f0))).setCell ⟨gb170,1,none⟩ (.int .i64 ((rd_T70 l0_1 x10_1).f1))).heap[gb168]?=some (.cells #[.int .i64 a1_0,.slice A1_1 l1_1.length c1_1] 30 (0,0))):=⟨by (with_reducible repeat (first | refine zz6 ?_ _ | refine zz7 ?_ | refine zz8 ?_ _));refine blk_far ?_ NB168_170.out _;(with_reducible repeat (first | refine zz6 ?_ _ | refine zz7 ?_ | refine zz8 ?_ _));refine blk_far ?_ NB168_170.out _;(with_reducible repeat (first | refine zz6 ?_ _ | refine zz7 ?_ | refine zz8 ?_ _));exact BK168.out⟩
         have n2_:Aside0 (((w30.setCell ⟨gb170,0,none⟩ (.int .i64 ((rd_T70 l0_1 x10_1).f0))).setCell ⟨gb170,1,none⟩ (.int .i64 ((rd_T70 l0_1 x10_1).f1))).heap[gb170]?=some (.cells #[.int .i64 ((rd_T70 l0_1 x10_1).f0),.int .i64 ((rd_T70 l0_1 x10_1).f1)] 70 (0,0))):=⟨by (with_reducible repeat (first | refine zz6 ?_ _ | refine zz7 ?_ | refine zz8 ?_ _));refine blk_put (cs:=#[.int .i64 ((rd_T70 l0_1 x10_1).f0),.int .i64 0]) ?_ 1 _ rfl;(with_reducible repeat (first | refine zz6 ?_ _ | refine zz7 ?_ | refine zz8 ?_ _));refine blk_put (cs:=#[.int .i64 0,.int .i64 0]) ?_ 0 _ rfl;(with_reducible repeat (first | refine zz6 ?_ _ | refine zz7 ?_ | refine zz8 ?_ _));exact BK170.out⟩
         have n3_:Aside0 (Below w.heap.size w ((w30.setCell ⟨gb170,0,none⟩ (.int .i64 ((rd_T70 l0_1 x10_1).f0))).setCell ⟨gb170,1,none⟩ (.int .i64 ((rd_T70 l0_1 x10_1).f1)))):=⟨by repeat first | exact HB.out | apply zz2 | apply zz0 | apply zz1 | refine zz3 ?_ GE167.out | refine zz3 ?_ GE168.out | refine zz3 ?_ GE170.out⟩
         (try clear BK167)
         (try clear BK168)
         (try clear BK170)
         (try clear HB)
         generalize ((w30.setCell ⟨gb170,0,none⟩ (.int .i64 ((rd_T70 l0_1 x10_1).f0))).setCell ⟨gb170,1,none⟩ (.int .i64 ((rd_T70 l0_1 x10_1).f1)))=w36 at n0_ n1_ n2_ n3_ ⊢
         have BK167:=n0_
         have BK168:=n1_
         have BK170:=n2_
         have HB:=n3_
         clear n0_ n1_ n2_ n3_
         replace BK167:=zz31 (zz7 BK167.out)
         replace BK168:=zz31 (zz7 BK168.out)
         replace BK170:=zz31 (zz7 BK170.out)
         replace HB:=zz31 (zz1 HB.out)
         have p171:0≤(x10_1:Int):=zz29 (by first | (with_reducible assumption) | assumption)
         have q171:x10_1 < (l1_1.length:Int):=zz29 (by first | (with_reducible assumption) | assumption)
         obtain ⟨ad171,e171,hx171_0,hx171_1⟩:=at_T70 HR1_1.out x10_1 p171 q171
         have hw171_1:=hx171_1
         have hw171_0:=hx171_0
         cases e171
         try replace hx171_0:=(HB.out.cell (World.block_lt_of_cell? w _ hx171_0)).trans hx171_0
         try replace hx171_1:=(HB.out.cell (World.block_lt_of_cell? w _ hx171_1)).trans hx171_1
         replace p171:=eq_true p171
         replace q171:=eq_true q171
         refine start_ (n:=7) (S:=fun w'=>w'.cell? ⟨gb170,0,none⟩=some (.int .i64 ((rd_T70 l0_1 x10_1).f0))∧w'.cell? ⟨gb170,1,none⟩=some (.int .i64 ((rd_T70 l0_1 x10_1).f1))∧w'.cell? ⟨gb168,0,none⟩=some (.int .i64 a1_0)∧w'.cell? ⟨gb168,1,none⟩=some (.slice (some ad171) l1_1.length c1_1)∧w'.cell? (ad171.add ((x10_1).toNat * 2))=some (.int .i64 ((rd_T70 l1_1 x10_1).f0))∧w'.cell? ⟨(ad171.add ((x10_1).toNat * 2)).block,(ad171.add ((x10_1).toNat * 2)).off+1,none⟩=some (.int .i64 ((rd_T70 l1_1 x10_1).f1))) (ds:=[]) #[F,F,F,F,F,F,F] (by kernel_rfl) rfl rfl ⟨(zz9 BK170.out 0).trans rfl,(zz9 BK170.out 1).trans rfl,(zz9 BK168.out 0).trans rfl,(zz9 BK168.out 1).trans rfl,((HB.out.cell (World.block_lt_of_cell? w _ hw171_0)).trans hw171_0),((HB.out.cell (World.block_lt_of_cell? w _ hw171_1)).trans hw171_1)⟩ (fun hHeld=>?_)
         generalize w36.drew=w37 at BK167 BK168 BK170 HB hx171_0 hx171_1 hHeld ⊢
         refine pure_ (i:=1) (N:=some 21) (v:=?_) (a':=?_) #[F,T,F,F,F,F,F] rfl rfl (by kernel_rfl) (fun _ _ _ h=>h) (Or.inl ⟨by rfl,?_⟩) ?_ ?_;rotate_left;(intro w';go_simp;with_reducible rfl);rotate_left;(simp only [Act.put,zz21,zz22,zz23,i64_w,i32_w];rfl)
         refine pure_ (i:=3) (N:=some 23) (v:=?_) (a':=?_) #[F,T,F,T,F,F,F] rfl rfl (by kernel_rfl) (fun _ _ _ h=>h) (Or.inl ⟨by rfl,?_⟩) ?_ ?_;rotate_left;(intro w';go_simp;with_reducible rfl);rotate_left;(simp only [Act.put,zz21,zz22,zz23,i64_w,i32_w];rfl)
         refine take_ (i:=0) (N:=some 20) (v:=?_) (a':=?_) #[T,T,F,T,F,F,F] rfl rfl (by kernel_rfl) (fun _ _ _ h=>h) (Or.inl ⟨by rfl,?_⟩) hHeld ?_ ?_;rotate_left;(rintro w' ⟨s0,s1,s2,s3,s4,s5⟩;go_simp;with_reducible rfl);rotate_left;(simp only [Act.put,zz21,zz22,zz23,i64_w,i32_w];rfl)
         refine take_ (i:=2) (N:=some 22) (v:=?_) (a':=?_) #[T,T,T,T,F,F,F] rfl rfl (by kernel_rfl) (fun _ _ _ h=>h) (Or.inl ⟨by rfl,?_⟩) hHeld ?_ ?_;rotate_left;(rintro w' ⟨s0,s1,s2,s3,s4,s5⟩;go_simp;with_reducible rfl);rotate_left;(simp only [Act.put,zz21,zz22,zz23,i64_w,i32_w];rfl)
         refine pure_ (i:=4) (N:=some 24) (v:=?_) (a':=?_) #[T,T,T,T,T,F,F] rfl rfl (by kernel_rfl) (fun _ _ _ h=>h) (Or.inl ⟨by rfl,?_⟩) ?_ ?_;rotate_left;(intro w';go_simp;with_reducible rfl);rotate_left;(simp only [Act.put,zz21,zz22,zz23,i64_w,i32_w];rfl)
         refine take_ (i:=5) (N:=some 25) (v:=?_) (a':=?_) #[T,T,T,T,T,T,F] rfl rfl (by kernel_rfl) (fun _ _ _ h=>h) (Or.inl ⟨by rfl,?_⟩) hHeld ?_ ?_;rotate_left;(rintro w' ⟨s0,s1,s2,s3,s4,s5⟩;go_simp;with_reducible rfl);rotate_left;(simp only [Act.put,zz21,zz22,zz23,i64_w,i32_w];rfl)
         refine pure_ (i:=6) (N:=some 26) (v:=?_) (a':=?_) #[T,T,T,T,T,T,T] rfl rfl (by kernel_rfl) (fun _ _ _ h=>h) (Or.inl ⟨by rfl,?_⟩) ?_ ?_;rotate_left;(intro w';go_simp;with_reducible rfl);rotate_left;(simp only [Act.put,zz21,zz22,zz23,i64_w,i32_w];rfl)
         refine done_ (by kernel_rfl) ?_
         try go_wp2
         go_roundg k1
         case measure=>have:=HK1.out;omega
         case rel=>exact ⟨(wrap64 (x10_1+1)),(by first | rfl | (simp;done) | (simp [*];done)),H',⟨by have:=HK1.out;omega⟩,⟨by (with_reducible repeat (first | refine zz6 ?_ _ | refine zz7 ?_ | refine zz8 ?_ _));exact BK167.out⟩,⟨by (with_reducible repeat (first | refine zz6 ?_ _ | refine zz7 ?_ | refine zz8 ?_ _));exact BK168.out⟩,⟨by repeat first | exact HB.out | apply zz2 | apply zz0 | apply zz1 | refine zz3 ?_ GE167.out | refine zz3 ?_ GE168.out | refine zz3 ?_ GE170.out⟩⟩
       ·rw [if_neg c17] at H
        exact absurd H (by simp)
     ·rw [if_neg c9] at H
      exact absurd H (by simp)
    ·rw [if_neg c8] at H
     exact absurd H (by simp)
   ·rw [if_neg c7] at H
    have c7b0:decide (x10_1 < (l0_1.length:Int))=false:=decide_eq_false c7
    clear c7
    obtain rfl:=Option.some.inj H
    have hnb38:=NB167_168.out
    have hnc38:=NB168_167.out
    have hcz39_0:wr.cell? ⟨gb167,0,none⟩=some (.int .i64 a0_0):=(zz9 BK167.out 0).trans rfl
    have hcz39_1:wr.cell? ⟨gb167,1,none⟩=some (.slice A0_1 l0_1.length c0_1):=(zz9 BK167.out 1).trans rfl
    have hfz39_0:=zz10 BK167.out 0
    have hfz39_1:=zz10 BK167.out 1
    have hcz40_0:wr.cell? ⟨gb168,0,none⟩=some (.int .i64 a1_0):=(zz9 BK168.out 0).trans rfl
    have hcz40_1:wr.cell? ⟨gb168,1,none⟩=some (.slice A1_1 l1_1.length c1_1):=(zz9 BK168.out 1).trans rfl
    have hfz40_0:=zz10 BK168.out 0
    have hfz40_1:=zz10 BK168.out 1
    go_wp2
    go_ret
    exact ⟨by first | rfl | (simp [errW_none,errW_some] <;> rfl) | (simp [*,errW_none,errW_some] <;> rfl),by repeat first | exact HB.out | apply zz2 | apply zz0 | apply zz1 | refine zz3 ?_ GE167.out | refine zz3 ?_ GE168.out⟩

/-! ### spec_paSame: function 32 -/
def spec_paSame.f (k:Nat) (a0_0:Int) (l0_1:List (S70)) (a1_0:Int) (l1_1:List (S70)):Option (Bool):=if a0_0=a1_0 then ((spec_paBefore.f k a0_0 l0_1 a1_0 l1_1).bind fun t176=>(if t176=true then (some false) else ((spec_paBefore.f k a1_0 l1_1 a0_0 l0_1).bind fun t177=>(some (!t177))))) else (some false)
theorem spec_paSame.mono:∀ a0 a1 a2 a3 k,LeO (spec_paSame.f k a0 a1 a2 a3) (spec_paSame.f (k+1) a0 a1 a2 a3):=by
 intro a0 a1 a2 a3 k
 unfold spec_paSame.f
 repeat' first
   | (with_reducible exact spec_paBefore.mono _ _ _ _ _)
   | (with_reducible exact LeO.refl _)
   | (with_reducible exact LeO.none _)
   | (with_reducible refine LeO.ite ?_ ?_)
   | (with_reducible refine LeO.bind ?_ (fun _=>?_))
   | exact spec_paBefore.mono _ _ _ _ _
   | exact LeO.none _
   | refine LeO.ite ?_ ?_
   | refine LeO.bind ?_ (fun _=>?_)
set_option maxHeartbeats 8000000 in
set_option maxRecDepth 100000 in
theorem spec_paSame.calls (k:Nat) (a0_0:Int) (A0_1:Option Addr) (c0_1:Nat) (l0_1:List (S70)) (a1_0:Int) (A1_1:Option Addr) (c1_1:Nat) (l1_1:List (S70)) (r:Bool) (w:World) (hr0_1:Kd.C k70 w A0_1 l0_1.length l0_1) (hc0_1:l0_1.length≤c0_1) (hr1_1:Kd.C k70 w A1_1 l1_1.length l1_1) (hc1_1:l1_1.length≤c1_1) (h:spec_paSame.f k a0_0 l0_1 a1_0 l1_1=some r) :
  Calls Try.prog 32 #[.agg #[.int .i64 a0_0,.slice A0_1 l0_1.length c0_1],.agg #[.int .i64 a1_0,.slice A1_1 l1_1.length c1_1]] w fun e w'=>e=.returned (.bool r)∧Below w.heap.size w w':=by
 have hu30:=Try.underlying30
 have HR0_1:=zz31 hr0_1
 have HC0_1:=zz31 hc0_1
 clear hr0_1 hc0_1
 have HR1_1:=zz31 hr1_1
 have HC1_1:=zz31 hc1_1
 clear hr1_1 hc1_1
 have HB:=zz31 (Below.refl w.heap.size w)
 have H:(if a0_0=a1_0 then ((spec_paBefore.f k a0_0 l0_1 a1_0 l1_1).bind fun t176=>(if t176=true then (some false) else ((spec_paBefore.f k a1_0 l1_1 a0_0 l0_1).bind fun t177=>(some (!t177))))) else (some false))=some r:=h
 clear h
 by_cases c3:a0_0=a1_0
 ·rw [if_pos c3] at H
  have c3b0:(a0_0 == a1_0)=true:=beq_iff_eq.mpr c3
  have c3b1:(a0_0 != a1_0)=false:=bne_eq_false_iff_eq.mpr c3
  clear c3
  replace H:=zz30.mp H
  obtain ⟨t176,A40,H⟩:=H
  replace H:(if t176=true then (some false) else ((spec_paBefore.f k a1_0 l1_1 a0_0 l0_1).bind fun t177=>(some (!t177))))=some r:=H
  have A4:=zz31 A40
  clear A40
  by_cases c5:t176=true
  ·subst c5
   have H1:(some false)=some r:=by rw [if_pos rfl] at H;exact H
   clear H
   have H:=H1
   clear H1
   obtain rfl:=Option.some.inj H
   go_enter Try.func32,Try.ntmps32
   go_wp2_with (first | ((with_reducible refine gate_dst (N:=2) rfl ?_);refine box_event ?hg (N:=2) ?hd (cs:=#[.int .i64 a0_0,.slice A0_1 l0_1.length c0_1]) (t:=30) ?hr ?_;(case hd=>rfl);(case hg=>rfl);(case hr=>first | (go_simp;done) | (go_simp;rfl));intro gb174 hg w6 hbox hb;have BK174:=zz31 (hbox);have GW174:=zz31 ((by rw [hg];exact (zz5 (by repeat first | exact HB.out | apply zz2 | apply zz0 | apply zz1)):w.heap.size≤gb174));replace HB:=zz31 (zz4 (by repeat first | exact HB.out | apply zz2 | apply zz0 | apply zz1) hb);have GE174:=GW174;clear hb hbox hg) | ((with_reducible refine gate_dst (N:=3) rfl ?_);refine box_event ?hg (N:=3) ?hd (cs:=#[.int .i64 a1_0,.slice A1_1 l1_1.length c1_1]) (t:=30) ?hr ?_;(case hd=>rfl);(case hg=>rfl);(case hr=>first | (go_simp;done) | (go_simp;rfl));intro gb175 hg w7 hbox hb;have BK175:=zz31 (hbox);have GW175:=zz31 ((by rw [hg];exact (zz5 (by repeat first | exact HB.out | apply zz2 | apply zz0 | apply zz1 | refine zz3 ?_ GE174.out)):w.heap.size≤gb175));replace HB:=zz31 (zz4 (by repeat first | exact HB.out | apply zz2 | apply zz0 | apply zz1 | refine zz3 ?_ GE174.out) hb);have GE175:=GW175;have NB174_175:=zz31 ((by rw [hg];exact Nat.ne_of_lt (blk_lt (g:=gb174) (o:=.cells #[.int .i64 a0_0,.slice A0_1 l0_1.length c0_1] 30 (0,0)) (by (with_reducible repeat (first | refine zz6 ?_ _ | refine zz7 ?_ | refine zz8 ?_ _));exact BK174.out)):gb174 ≠ gb175));have NB175_174:=zz31 ((by rw [hg];exact Nat.ne_of_gt (blk_lt (g:=gb174) (o:=.cells #[.int .i64 a0_0,.slice A0_1 l0_1.length c0_1] 30 (0,0)) (by (with_reducible repeat (first | refine zz6 ?_ _ | refine zz7 ?_ | refine zz8 ?_ _));exact BK174.out)):gb175 ≠ gb174));replace BK174:=zz31 (zz11 (g:=gb174) (o:=.cells #[.int .i64 a0_0,.slice A0_1 l0_1.length c0_1] 30 (0,0)) (by (with_reducible repeat (first | refine zz6 ?_ _ | refine zz7 ?_ | refine zz8 ?_ _));exact BK174.out) hb);clear hb hbox hg;have hnb8:=NB174_175.out;have hnc8:=NB175_174.out;have hcz9_0:w7.cell? ⟨gb174,0,none⟩=some (.int .i64 a0_0):=(zz9 BK174.out 0).trans rfl;have hcz9_1:w7.cell? ⟨gb174,1,none⟩=some (.slice A0_1 l0_1.length c0_1):=(zz9 BK174.out 1).trans rfl;have hfz9_0:=zz10 BK174.out 0;have hfz9_1:=zz10 BK174.out 1;have hcz10_0:w7.cell? ⟨gb175,0,none⟩=some (.int .i64 a1_0):=(zz9 BK175.out 0).trans rfl;have hcz10_1:w7.cell? ⟨gb175,1,none⟩=some (.slice A1_1 l1_1.length c1_1):=(zz9 BK175.out 1).trans rfl;have hfz10_0:=zz10 BK175.out 0;have hfz10_1:=zz10 BK175.out 1) | (go_at_call 62;(with_reducible refine (spec_paBefore.calls k a0_0 _ _ l0_1 a1_0 _ _ l1_1 true _ ?side1 ?side2 ?side3 ?side4 A4.out).mono ?_);(case side1=>repeat (first | exact (Kd.C_below HR0_1.out HB.out) | (with_reducible refine zz18 ?_ _) | (with_reducible refine zz19 ?_ _) | (with_reducible refine zz20 ?_)));(case side2=>exact HC0_1.out);(case side3=>repeat (first | exact (Kd.C_below HR1_1.out HB.out) | (with_reducible refine zz18 ?_ _) | (with_reducible refine zz19 ?_ _) | (with_reducible refine zz20 ?_)));(case side4=>exact HC1_1.out);rintro e w11 ⟨rfl,hb⟩;replace BK174:=zz31 (zz11 (g:=gb174) (o:=.cells #[.int .i64 a0_0,.slice A0_1 l0_1.length c0_1] 30 (0,0)) (by (with_reducible repeat (first | refine zz6 ?_ _ | refine zz7 ?_ | refine zz8 ?_ _));exact BK174.out) hb);replace BK175:=zz31 (zz11 (g:=gb175) (o:=.cells #[.int .i64 a1_0,.slice A1_1 l1_1.length c1_1] 30 (0,0)) (by (with_reducible repeat (first | refine zz6 ?_ _ | refine zz7 ?_ | refine zz8 ?_ _));exact BK175.out) hb);replace HB:=zz31 (zz4 (by repeat first | exact HB.out | apply zz2 | apply zz0 | apply zz1 | refine zz3 ?_ GE174.out | refine zz3 ?_ GE175.out) hb);(try clear hb);(try clear hb2);(try clear hk);(try clear hi)))
   go_ret
   exact ⟨by first | rfl | (simp [errW_none,errW_some] <;> rfl) | (simp [*,errW_none,errW_some] <;> rfl),by repeat first | exact HB.out | apply zz2 | apply zz0 | apply zz1 | refine zz3 ?_ GE174.out | refine zz3 ?_ GE175.out⟩
  ·replace c5:=Bool.eq_false_iff.mpr c5
   subst c5
   have H1:((spec_paBefore.f k a1_0 l1_1 a0_0 l0_1).bind fun t177=>(some (!t177)))=some r:=by rw [if_neg (show ¬ (false=true) by decide)] at H;exact H
   clear H
   have H:=H1
   clear H1
   replace H:=zz30.mp H
   obtain ⟨t177,A120,H⟩:=H
   replace H:(some (!t177))=some r:=H
   have A12:=zz31 A120
   clear A120
   obtain rfl:=Option.some.inj H
   go_enter Try.func32,Try.ntmps32
   go_wp2_with (first | ((with_reducible refine gate_dst (N:=2) rfl ?_);refine box_event ?hg (N:=2) ?hd (cs:=#[.int .i64 a0_0,.slice A0_1 l0_1.length c0_1]) (t:=30) ?hr ?_;(case hd=>rfl);(case hg=>rfl);(case hr=>first | (go_simp;done) | (go_simp;rfl));intro gb174 hg w13 hbox hb;have BK174:=zz31 (hbox);have GW174:=zz31 ((by rw [hg];exact (zz5 (by repeat first | exact HB.out | apply zz2 | apply zz0 | apply zz1)):w.heap.size≤gb174));replace HB:=zz31 (zz4 (by repeat first | exact HB.out | apply zz2 | apply zz0 | apply zz1) hb);have GE174:=GW174;clear hb hbox hg) | ((with_reducible refine gate_dst (N:=3) rfl ?_);refine box_event ?hg (N:=3) ?hd (cs:=#[.int .i64 a1_0,.slice A1_1 l1_1.length c1_1]) (t:=30) ?hr ?_;(case hd=>rfl);(case hg=>rfl);(case hr=>first | (go_simp;done) | (go_simp;rfl));intro gb175 hg w14 hbox hb;have BK175:=zz31 (hbox);have GW175:=zz31 ((by rw [hg];exact (zz5 (by repeat first | exact HB.out | apply zz2 | apply zz0 | apply zz1 | refine zz3 ?_ GE174.out)):w.heap.size≤gb175));replace HB:=zz31 (zz4 (by repeat first | exact HB.out | apply zz2 | apply zz0 | apply zz1 | refine zz3 ?_ GE174.out) hb);have GE175:=GW175;have NB174_175:=zz31 ((by rw [hg];exact Nat.ne_of_lt (blk_lt (g:=gb174) (o:=.cells #[.int .i64 a0_0,.slice A0_1 l0_1.length c0_1] 30 (0,0)) (by (with_reducible repeat (first | refine zz6 ?_ _ | refine zz7 ?_ | refine zz8 ?_ _));exact BK174.out)):gb174 ≠ gb175));have NB175_174:=zz31 ((by rw [hg];exact Nat.ne_of_gt (blk_lt (g:=gb174) (o:=.cells #[.int .i64 a0_0,.slice A0_1 l0_1.length c0_1] 30 (0,0)) (by (with_reducible repeat (first | refine zz6 ?_ _ | refine zz7 ?_ | refine zz8 ?_ _));exact BK174.out)):gb175 ≠ gb174));replace BK174:=zz31 (zz11 (g:=gb174) (o:=.cells #[.int .i64 a0_0,.slice A0_1 l0_1.length c0_1] 30 (0,0)) (by (with_reducible repeat (first | refine zz6 ?_ _ | refine zz7 ?_ | refine zz8 ?_ _));exact BK174.out) hb);clear hb hbox hg;have hnb15:=NB174_175.out;have hnc15:=NB175_174.out;have hcz16_0:w14.cell? ⟨gb174,0,none⟩=some (.int .i64 a0_0):=(zz9 BK174.out 0).trans rfl;have hcz16_1:w14.cell? ⟨gb174,1,none⟩=some (.slice A0_1 l0_1.length c0_1):=(zz9 BK174.out 1).trans rfl;have hfz16_0:=zz10 BK174.out 0;have hfz16_1:=zz10 BK174.out 1;have hcz17_0:w14.cell? ⟨gb175,0,none⟩=some (.int .i64 a1_0):=(zz9 BK175.out 0).trans rfl;have hcz17_1:w14.cell? ⟨gb175,1,none⟩=some (.slice A1_1 l1_1.length c1_1):=(zz9 BK175.out 1).trans rfl;have hfz17_0:=zz10 BK175.out 0;have hfz17_1:=zz10 BK175.out 1) | (go_at_call 62;(with_reducible refine (spec_paBefore.calls k a0_0 _ _ l0_1 a1_0 _ _ l1_1 false _ ?side1 ?side2 ?side3 ?side4 A4.out).mono ?_);(case side1=>repeat (first | exact (Kd.C_below HR0_1.out HB.out) | (with_reducible refine zz18 ?_ _) | (with_reducible refine zz19 ?_ _) | (with_reducible refine zz20 ?_)));(case side2=>exact HC0_1.out);(case side3=>repeat (first | exact (Kd.C_below HR1_1.out HB.out) | (with_reducible refine zz18 ?_ _) | (with_reducible refine zz19 ?_ _) | (with_reducible refine zz20 ?_)));(case side4=>exact HC1_1.out);rintro e w18 ⟨rfl,hb⟩;replace BK174:=zz31 (zz11 (g:=gb174) (o:=.cells #[.int .i64 a0_0,.slice A0_1 l0_1.length c0_1] 30 (0,0)) (by (with_reducible repeat (first | refine zz6 ?_ _ | refine zz7 ?_ | refine zz8 ?_ _));exact BK174.out) hb);replace BK175:=zz31 (zz11 (g:=gb175) (o:=.cells #[.int .i64 a1_0,.slice A1_1 l1_1.length c1_1] 30 (0,0)) (by (with_reducible repeat (first | refine zz6 ?_ _ | refine zz7 ?_ | refine zz8 ?_ _));exact BK175.out) hb);replace HB:=zz31 (zz4 (by repeat first | exact HB.out | apply zz2 | apply zz0 | apply zz1 | refine zz3 ?_ GE174.out | refine zz3 ?_ GE175.out) hb);(try clear hb);(try clear hb2);(try clear hk);(try clear hi);have hcz19_0:w18.cell? ⟨gb175,0,none⟩=some (.int .i64 a1_0):=(zz9 BK175.out 0).trans rfl;have hcz19_1:w18.cell? ⟨gb175,1,none⟩=some (.slice A1_1 l1_1.length c1_1):=(zz9 BK175.out 1).trans rfl;have hfz19_0:=zz10 BK175.out 0;have hfz19_1:=zz10 BK175.out 1;have hcz20_0:w18.cell? ⟨gb174,0,none⟩=some (.int .i64 a0_0):=(zz9 BK174.out 0).trans rfl;have hcz20_1:w18.cell? ⟨gb174,1,none⟩=some (.slice A0_1 l0_1.length c0_1):=(zz9 BK174.out 1).trans rfl;have hfz20_0:=zz10 BK174.out 0;have hfz20_1:=zz10 BK174.out 1) | (go_at_call 62;(with_reducible refine (spec_paBefore.calls k a1_0 _ _ l1_1 a0_0 _ _ l0_1 t177 _ ?side1 ?side2 ?side3 ?side4 A12.out).mono ?_);(case side1=>repeat (first | exact (Kd.C_below HR1_1.out HB.out) | (with_reducible refine zz18 ?_ _) | (with_reducible refine zz19 ?_ _) | (with_reducible refine zz20 ?_)));(case side2=>exact HC1_1.out);(case side3=>repeat (first | exact (Kd.C_below HR0_1.out HB.out) | (with_reducible refine zz18 ?_ _) | (with_reducible refine zz19 ?_ _) | (with_reducible refine zz20 ?_)));(case side4=>exact HC0_1.out);rintro e w21 ⟨rfl,hb⟩;replace BK174:=zz31 (zz11 (g:=gb174) (o:=.cells #[.int .i64 a0_0,.slice A0_1 l0_1.length c0_1] 30 (0,0)) (by (with_reducible repeat (first | refine zz6 ?_ _ | refine zz7 ?_ | refine zz8 ?_ _));exact BK174.out) hb);replace BK175:=zz31 (zz11 (g:=gb175) (o:=.cells #[.int .i64 a1_0,.slice A1_1 l1_1.length c1_1] 30 (0,0)) (by (with_reducible repeat (first | refine zz6 ?_ _ | refine zz7 ?_ | refine zz8 ?_ _));exact BK175.out) hb);replace HB:=zz31 (zz4 (by repeat first | exact HB.out | apply zz2 | apply zz0 | apply zz1 | refine zz3 ?_ GE174.out | refine zz3 ?_ GE175.out) hb);(try clear hb);(try clear hb2);(try clear hk);(try clear hi)))
   go_ret
   exact ⟨by first | rfl | (simp [errW_none,errW_some] <;> rfl) | (simp [*,errW_none,errW_some] <;> rfl),by repeat first | exact HB.out | apply zz2 | apply zz0 | apply zz1 | refine zz3 ?_ GE174.out | refine zz3 ?_ GE175.out⟩
 ·rw [if_neg c3] at H
  have c3b0:(a0_0 == a1_0)=false:=beq_eq_false_iff_ne.mpr c3
  have c3b1:(a0_0 != a1_0)=true:=bne_iff_ne.mpr c3
  obtain rfl:=Option.some.inj H
  go_enter Try.func32,Try.ntmps32
  go_wp2_with (first | ((with_reducible refine gate_dst (N:=2) rfl ?_);refine box_event ?hg (N:=2) ?hd (cs:=#[.int .i64 a0_0,.slice A0_1 l0_1.length c0_1]) (t:=30) ?hr ?_;(case hd=>rfl);(case hg=>rfl);(case hr=>first | (go_simp;done) | (go_simp;rfl));intro gb174 hg w22 hbox hb;have BK174:=zz31 (hbox);have GW174:=zz31 ((by rw [hg];exact (zz5 (by repeat first | exact HB.out | apply zz2 | apply zz0 | apply zz1)):w.heap.size≤gb174));replace HB:=zz31 (zz4 (by repeat first | exact HB.out | apply zz2 | apply zz0 | apply zz1) hb);have GE174:=GW174;clear hb hbox hg) | ((with_reducible refine gate_dst (N:=3) rfl ?_);refine box_event ?hg (N:=3) ?hd (cs:=#[.int .i64 a1_0,.slice A1_1 l1_1.length c1_1]) (t:=30) ?hr ?_;(case hd=>rfl);(case hg=>rfl);(case hr=>first | (go_simp;done) | (go_simp;rfl));intro gb175 hg w23 hbox hb;have BK175:=zz31 (hbox);have GW175:=zz31 ((by rw [hg];exact (zz5 (by repeat first | exact HB.out | apply zz2 | apply zz0 | apply zz1 | refine zz3 ?_ GE174.out)):w.heap.size≤gb175));replace HB:=zz31 (zz4 (by repeat first | exact HB.out | apply zz2 | apply zz0 | apply zz1 | refine zz3 ?_ GE174.out) hb);have GE175:=GW175;have NB174_175:=zz31 ((by rw [hg];exact Nat.ne_of_lt (blk_lt (g:=gb174) (o:=.cells #[.int .i64 a0_0,.slice A0_1 l0_1.length c0_1] 30 (0,0)) (by (with_reducible repeat (first | refine zz6 ?_ _ | refine zz7 ?_ | refine zz8 ?_ _));exact BK174.out)):gb174 ≠ gb175));have NB175_174:=zz31 ((by rw [hg];exact Nat.ne_of_gt (blk_lt (g:=gb174) (o:=.cells #[.int .i64 a0_0,.slice A0_1 l0_1.length c0_1] 30 (0,0)) (by (with_reducible repeat (first | refine zz6 ?_ _ | refine zz7 ?_ | refine zz8 ?_ _));exact BK174.out)):gb175 ≠ gb174));replace BK174:=zz31 (zz11 (g:=gb174) (o:=.cells #[.int .i64 a0_0,.slice A0_1 l0_1.length c0_1] 30 (0,0)) (by (with_reducible repeat (first | refine zz6 ?_ _ | refine zz7 ?_ | refine zz8 ?_ _));exact BK174.out) hb);clear hb hbox hg;have hnb24:=NB174_175.out;have hnc24:=NB175_174.out;have hcz25_0:w23.cell? ⟨gb174,0,none⟩=some (.int .i64 a0_0):=(zz9 BK174.out 0).trans rfl;have hcz25_1:w23.cell? ⟨gb174,1,none⟩=some (.slice A0_1 l0_1.length c0_1):=(zz9 BK174.out 1).trans rfl;have hfz25_0:=zz10 BK174.out 0;have hfz25_1:=zz10 BK174.out 1;have hcz26_0:w23.cell? ⟨gb175,0,none⟩=some (.int .i64 a1_0):=(zz9 BK175.out 0).trans rfl;have hcz26_1:w23.cell? ⟨gb175,1,none⟩=some (.slice A1_1 l1_1.length c1_1):=(zz9 BK175.out 1).trans rfl;have hfz26_0:=zz10 BK175.out 0;have hfz26_1:=zz10 BK175.out 1))
  go_ret
  exact ⟨by first | rfl | (simp [errW_none,errW_some] <;> rfl) | (simp [*,errW_none,errW_some] <;> rfl),by repeat first | exact HB.out | apply zz2 | apply zz0 | apply zz1 | refine zz3 ?_ GE174.out | refine zz3 ?_ GE175.out⟩

end Go.Proofs.Ytoedkkoafidalaa.P
