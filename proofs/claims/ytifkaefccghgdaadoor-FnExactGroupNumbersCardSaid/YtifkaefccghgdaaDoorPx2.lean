-- PRINTED by print.py (a twelfth state) out of the translation. Not trusted: Lean checks it.
import Derived.Test.YtifkaefccghgdaaDoorPx0
import Derived.Test.YtifkaefccghgdaaDoorPx5
namespace Go.Proofs.YtifkaefccghgdaaDoor.P
open Go.RowKit Go.Proofs.YtifkaefccghgdaaDoorW.PrintWords Go.Proofs.YtifkaefccghgdaaDoorW.PrintLast Go.Proofs.YtifkaefccghgdaaDoorW.PrintMore
attribute [local go_sem] max2_int min2_int max_two min_two max_three min_three max_four min_four   -- for this text's walks alone
set_option linter.unusedVariables false
set_option linter.unusedSimpArgs false

/-! ### spec_l1Own: function 62 -/
def spec_l1Own.f (l0:List Int):Option (List Int):=(some (([]:List Int):List Int)).bind fun y114=>(if y114.length+l0.length < 17592186044416 then (some (y114 ++ l0)) else (none))
set_option maxHeartbeats 8000000 in
set_option maxRecDepth 100000 in
theorem spec_l1Own.calls (A0:Option Addr) (c0:Nat) (l0:List Int) (r:List Int) (w:World) (hr0:Kd.C (Kd.int .i64) w A0 l0.length l0) (hc0:l0.length≤c0) (h:spec_l1Own.f l0=some r) :
  Calls Tryd.prog 62 #[.slice A0 l0.length c0] w fun e w'=>∃ v0_:Value,e=.returned (v0_)∧Kd.R (Kd.int .i64) 3 w' w.heap.size (fun _=>True) v0_ r∧Below w.heap.size w w':=by
 have HR0:=zz31 hr0
 have HC0:=zz31 hc0
 clear hr0 hc0
 have HB:=zz31 (Below.refl w.heap.size w)
 have H:((some (([]:List Int):List Int)).bind fun y114=>(if y114.length+l0.length < 17592186044416 then (some (y114 ++ l0)) else (none)))=some r:=h
 clear h
 obtain ⟨y114,hy114⟩:∃ y_:List Int,y_=(([]:List Int)):=⟨_,rfl⟩
 replace H:(if y114.length+l0.length < 17592186044416 then (some (y114 ++ l0)) else (none))=some r:=by first | (rw [hy114];with_reducible exact H) | (have H2_:=(Option.bind_some _ _).symm.trans H;rw [hy114];with_reducible exact H2_) | (have H2_:=(Option.bind_some _ _).symm.trans H;with_reducible exact H2_) | with_reducible exact H | (rw [hy114];exact H) | exact H
 have Ny114:=zz31 hy114
 clear hy114
 by_cases c2:y114.length+l0.length < 17592186044416
 ·rw [if_pos c2] at H
  have LMc2:=zz31 c2
  clear c2
  obtain ⟨y117,hy117⟩:∃ y_:List Int,y_=(y114 ++ l0):=⟨_,rfl⟩
  replace H:(some y117)=some r:=by first | (rw [hy117];with_reducible exact H) | (have H2_:=(Option.bind_some _ _).symm.trans H;rw [hy117];with_reducible exact H2_) | (have H2_:=(Option.bind_some _ _).symm.trans H;with_reducible exact H2_) | with_reducible exact H | (rw [hy117];exact H) | exact H
  have Ny117:=zz31 hy117
  clear hy117
  obtain rfl:=Option.some.inj H
  go_enter Tryd.func62,Tryd.ntmps62
  go_wp2_with (first | ((with_reducible refine gate_dst (N:=3) rfl ?_);refine Kd.R_lit (Kd.int .i64) _ 3 ?hg (N:=3) ?hd (xs:=([]:List Int)) (inner:=[]) (ok:=fun _=>True) (okp:=fun _=>True) ?hr ?hp (fun _ hk=>hk) trivial (Below.refl _ _) (Nat.le_refl _) (by simp) ?_;(case hd=>rfl);(case hg=>rfl);(case hr=>first | (go_simp;done) | (go_simp;rfl));(case hp=>exact (Reps.none _ _));intro v115 w3 ho4 hb hg_ hnew_;clear hg_ hnew_;(first | rw [← Ny114.out] at ho4 | (simp only [Int.reduceToNat] at ho4;rw [← Ny114.out] at ho4));have n0_:=zz31 (Kd.R_lower ho4 (zz5 (by repeat first | exact HB.out | apply zz2 | apply zz0 | apply zz1)));have n1_:=zz31 (zz4 (by repeat first | exact HB.out | apply zz2 | apply zz0 | apply zz1) hb);clear HB;have HO116:=n0_;have HB:=n1_;clear n0_ n1_;clear hb ho4) | ((with_reducible refine gate_builtin (b:=.append) (xs:=#[.tmp 3,.tmp 4]) rfl ?_);at_builtin;refine Kd.R_append_rows (Kd.int .i64) (w0:=w) w.heap.size rfl (.tmp 3) (.tmp 4) 34 3 (.int .i64 0) 8 rfl Tryd.underlying34 info3 rfl (by decide) (by omega) v115 y114 l0 _ _ _ (fun _=>True) (fun _=>False) rfl rfl ?aO ?aR (fun _ _ h=>h) (fun _ h=>h.elim) ?aF ?aB ?aS ?aL ?_;(case aR=>repeat (first | exact (Kd.C_below HR0.out HB.out) | (with_reducible refine zz18 ?_ _) | (with_reducible refine zz19 ?_ _) | (with_reducible refine zz20 ?_)));(case aB=>exact (by repeat first | exact HB.out | apply zz2 | apply zz0 | apply zz1));(case aF=>exact (fun _ _=>trivial));(case aO=>exact (by (with_reducible repeat (first | apply zz12 | apply zz13 | apply zz14));exact HO116.out));(case aS=>exact (zz5 (by repeat first | exact HB.out | apply zz2 | apply zz0 | apply zz1)));(case aL=>have:=LMc2.out;omega);intro v118 w5 ho hb hg hat;rw [← Ny117.out] at ho;have n0_:=zz31 (hb);have n1_:=zz31 (ho);clear HB;clear HO116;have HB:=n0_;have HO119:=n1_;clear n0_ n1_;clear ho hb hg hat))
  go_ret
  exact ⟨_,by first | rfl | (simp [errW_none,errW_some] <;> rfl) | (simp [*,errW_none,errW_some] <;> rfl),by (with_reducible repeat (first | apply zz12 | apply zz13 | apply zz14));exact HO119.out,by repeat first | exact HB.out | apply zz2 | apply zz0 | apply zz1⟩
 ·rw [if_neg c2] at H
  exact absurd H (by simp)

/-! ### slices_Clone_int_int: function 68 (a contract of our own) -/
def slices_Clone_int_int.f (l0:List Int):Option (List Int):=if l0.length≤1000000000 then some l0 else none
set_option maxHeartbeats 1000000 in
set_option maxRecDepth 100000 in
theorem slices_Clone_int_int.calls (A0:Option Addr) (c0:Nat) (l0:List Int) (r:List Int) (w:World) (hr0:Kd.C (Kd.int .i64) w A0 l0.length l0) (hc0:l0.length≤c0) (h:slices_Clone_int_int.f l0=some r) :
  Calls Tryd.prog 68 #[.slice A0 l0.length c0] w fun e w'=>∃ v0_:Value,e=.returned (v0_)∧Kd.R (Kd.int .i64) 3 w' w.heap.size (fun _=>True) v0_ r∧Below w.heap.size w w':=by
 unfold slices_Clone_int_int.f at h
 by_cases hb:l0.length≤1000000000
 case neg=>rw [if_neg hb] at h;exact absurd h (by simp)
 rw [if_pos hb] at h
 obtain rfl:=Option.some.inj h
 clear h
 have HR:=zz31 hr0
 have HBIG:=zz31 hb
 clear hb hc0
 cases A0 with
 | none =>
  have h0:l0=[]:=by
   rcases Nat.eq_zero_or_pos l0.length with hz | hz
   ·exact List.eq_nil_of_length_eq_zero hz
   ·obtain ⟨ad,e,_⟩:=hr0.2.2 hz
    cases e
  subst h0
  clear hr0
  have heq:∀ W:World,(binOp .eql 34 (.slice none 0 c0) (.slice none 0 0)).run Tryd.prog W=.ok (.bool true) W:=fun W=>Lib.run_eql_slice_nil_nil W 0 c0 Tryd.underlying34
  go_enter Tryd.func68,Tryd.ntmps68
  go_wp2
  go_ret
  exact ⟨_,rfl,Kd.R_nil _ _ _ _ _,Below.refl _ _⟩
 | some ad =>
  clear hr0
  have heq:∀ W:World,(binOp .eql 34 (.slice (some ad) l0.length c0) (.slice none 0 0)).run Tryd.prog W=.ok (.bool false) W:=fun W=>Lib.run_eql_slice_some_nil W ad l0.length c0 Tryd.underlying34
  go_enter Tryd.func68,Tryd.ntmps68
  go_wp2_with (first | ((with_reducible refine gate_dst (N:=5) rfl ?_);refine Kd.R_lit (Kd.int .i64) (w0:=w) w.heap.size 3 ?hg (N:=5) ?hd (xs:=([]:List Int)) (inner:=[]) (ok:=fun _=>True) (okp:=fun _=>True) ?hr ?hp (fun _ hk=>hk) trivial (Below.refl _ _) (Nat.le_refl _) (by simp) ?_;(case hd=>rfl);(case hg=>rfl);(case hr=>first | (go_simp;done) | (go_simp;rfl));(case hp=>exact (Reps.none _ _));intro v3 w3 ho hb hg_ hnew_;clear hg_ hnew_;have HO:=zz31 ho;have HB:=zz31 hb;clear ho hb) | ((with_reducible refine gate_dst (N:=7) rfl ?_);refine Kd.R_append_rows (Kd.int .i64) (w0:=w) w.heap.size rfl (.tmp 5) (.tmp 6) 34 3 (.int .i64 0) 8 rfl Tryd.underlying34 info3 rfl (by decide) (by omega) v3 [] l0 _ _ _ (fun _=>True) (fun _=>False) rfl rfl HO.out (Kd.C_below HR.out HB.out) ?aR (fun _ h=>h.elim) (fun _ _=>trivial) HB.out HB.out.size ?aL ?_;(case aR=>exact (fun _ _ h=>h));(case aL=>(have:=HBIG.out;simp;omega));intro v4 w4 ho4 hb4 hg4 hn4;clear hg4 hn4;have HO4:=zz31 ho4;have HB4:=zz31 hb4;clear ho4 hb4))
  go_ret
  exact ⟨_,rfl,by simpa using HO4.out,HB4.out⟩

-- NOT PRINTED: function 67 (impl_table_groups_1)

/-! ### impl_table_groups: function 38 (lemmas of our own) -/
/-! What a call of a closure keeps: the blocks `own` are the state's; whatever else lay stays; what is the state's behind was its own before, or is new. -/
structure Fr (own own' : Nat → Prop) (w w' : World) : Prop where
  os:w'.os=w.os
  tape:w'.tape=w.tape
  output:w'.output=w.output
  size:w.heap.size≤w'.heap.size
  block:∀ i,i < w.heap.size→¬ own i→w'.heap[i]?=w.heap[i]?
  own:∀ i,own' i→own i ∨ w.heap.size≤i
theorem Fr.refl (own:Nat→Prop) (w:World):Fr own own w w:=⟨rfl,rfl,rfl,Nat.le_refl _,fun _ _ _=>rfl,fun _ h=>.inl h⟩
theorem Fr.trans {o1 o2 o3:Nat→Prop} {w1 w2 w3:World} (h:Fr o1 o2 w1 w2) (k:Fr o2 o3 w2 w3):Fr o1 o3 w1 w3 :=
  ⟨k.os.trans h.os,k.tape.trans h.tape,k.output.trans h.output,Nat.le_trans h.size k.size,
   fun i hi hn=>(k.block i (Nat.lt_of_lt_of_le hi h.size) (fun h2=>(h.own i h2).elim hn (fun h3=>by omega))).trans (h.block i hi hn),
   fun i hi=>(k.own i hi).elim (fun h2=>h.own i h2) (fun h3=>.inr (Nat.le_trans h.size h3))⟩
theorem Fr.of_below (own:Nat→Prop) {w w':World} (h:Below w.heap.size w w'):Fr own own w w':=⟨h.os,h.tape,h.output,h.size,fun i hi _=>h.block i hi,fun _ h=>.inl h⟩
theorem Fr.below {own own':Nat→Prop} {n:Nat} {w w':World} (h:Fr own own' w w') (hn:n≤w.heap.size) (ho:∀ i,own i→n≤i):Below n w w' :=
  ⟨h.os,h.tape,h.output,h.size,fun i hi=>h.block i (by omega) (fun h2=>by have:=ho i h2;omega)⟩
theorem Fr.cell {own own':Nat→Prop} {w w':World} (h:Fr own own' w w') {a:Addr} {v:Value} (hc:w.cell? a=some v) (hn:¬ own a.block):w'.cell? a=some v:=by
  have:=h.block a.block (World.block_lt_of_cell? w a hc) hn
  simpa [World.cell?,this] using hc
theorem Fr.blk {own own':Nat→Prop} {w w':World} (h:Fr own own' w w') {g:Nat} {o:Obj} (hb:w.heap[g]?=some o) (hn:¬ own g):w'.heap[g]?=some o:=(h.block g (blk_lt hb) hn).trans hb
theorem Fr.R {α:Type} {d:Kd α} {e base:Nat} {ok own own':Nat→Prop} {w w':World} {v:Value} {xs:List α} (h:Fr own own' w w') (hr:d.R e w base ok v xs) (hn:∀ k,ok k→¬ own k):d.R e w' base ok v xs :=
  Kd.R_step hr (fun k hk hlt=>h.block k hlt (hn k hk))
theorem Fr.mono {o1 o1' o2:Nat→Prop} {w w':World} (h:Fr o1 o2 w w') (hs:∀ i,o1 i→o1' i) (h2:∀ i,o2 i→o1' i ∨ w.heap.size≤i):Fr o1' o2 w w' :=
  ⟨h.os,h.tape,h.output,h.size,fun i hi hn=>h.block i hi (fun h1=>hn (hs i h1)),h2⟩
theorem fr_addb (ad:Addr) (j:Nat):(ad.add j).block=ad.block:=by unfold Addr.add;split <;> rfl
/-- A row of numbers that is read, in no block of the state's. -/
def ReadApart (k:IntKind) (own:Nat→Prop) (w:World) (A:Option Addr) (n:Nat) (xs:List Int):Prop:=Kd.C (Kd.int k) w A n xs∧∀ ad,A=some ad→0 < n→¬ own ad.block
theorem ReadApart.fr {k:IntKind} {own own':Nat→Prop} {w w':World} {A:Option Addr} {n:Nat} {xs:List Int} (h:ReadApart k own w A n xs) (hf:Fr own own' w w'):ReadApart k own' w' A n xs:=by
  obtain ⟨⟨h1,h2,h3⟩,h4⟩:=h
  have hlt:∀ ad,A=some ad→0 < n→ad.block < w.heap.size:=fun ad e hn=>by
    obtain ⟨ad',e',hc⟩:=h3 hn
    rw [e] at e'
    injection e' with e'
    subst e'
    obtain ⟨c,hl,hk,hcc⟩:=hc 0 _ (List.getElem?_eq_getElem (show 0 < xs.length by omega))
    have hl':0 < c.length:=by rw [hl];exact Nat.zero_lt_one
    have:=World.block_lt_of_cell? w _ (hcc 0 _ (List.getElem?_eq_getElem hl'))
    rwa [fr_addb] at this
  refine ⟨⟨h1,h2,fun hn=>?_⟩,fun ad e hn h5=>?_⟩
  · obtain ⟨ad,e,hc⟩:=h3 hn
    refine ⟨ad,e,fun j p hj=>?_⟩
    obtain ⟨c,hl,hk,hcc⟩:=hc j p hj
    exact ⟨c,hl,hk,fun i u hu=>hf.cell (hcc i u hu) (by rw [fr_addb];exact h4 ad e hn)⟩
  · rcases hf.own _ h5 with h6 | h6
    · exact h4 ad e hn h6
    · have:=hlt ad e hn;omega
theorem Fr.drewN {own own':Nat→Prop} {w w':World} (h:Fr own own' w w') (n:Nat):Fr own own' w (w'.drewN n):=h.trans (Fr.of_below _ (zz0 (Below.refl _ _) n))
section
variable {P : Program} {ops : Array Oper} {o : Oper} {a : Act} {Q : Exit → Act → World → Prop} {K : Act → World → Prop}
/-- append(v, y) of a number, as one step of a region that draws its order (the box of y may lie anywhere). -/
theorem step_append_at {W:World} (k:IntKind) (base:Nat) (hw:Region.wanted o (yielded ops a.tmps)=true) (s x:Operand) (t e:TypeId) (bytes:Nat)
    (ho:o.op=.call { callee:=.builtin .append,args:=#[s,x],argTypes:=#[t,t] })
    (ht:P.underlying t=some (.slice e)) (hinfo:(P.info? e).map (fun i=>(i.zero,i.size,i.bytes))=some (some (.int k 0),1,bytes)) (hb0:0 < bytes)
    (v:Value) (xs:List Int) (y:Int) (ok:Nat→Prop) (hs:a.eval s=v) (ad:Addr) (hx:a.eval x=.slice (some ad) 1 1) (hc:W.cell? ad=some (.int k y)) (hfresh:∀ b,W.heap.size≤b→ok b)
    (HO:(Kd.int k).R e W base ok v xs) (hbase:base≤W.heap.size) (hl:(xs.length+1) * bytes≤140737488355328)
    (h:∀ v1 w1,(Kd.int k).R e w1 base ok v1 (xs ++ [y])→W.grownBy w1 v.ownBlock→K (a.put o.dst v1) w1) :
    if Region.wanted o (yielded ops a.tmps)=true then Oper.wp P o a W K Q else K (a.put o.dst undef) W:=by
  obtain ⟨i0,hi,hzz⟩:=Option.map_eq_some_iff.1 hinfo
  simp only [Prod.mk.injEq] at hzz
  obtain ⟨hz0,hz1,hz2⟩:=hzz
  have hlen:xs.length+1≤140737488355328:=Nat.le_trans (Nat.le_mul_of_pos_right _ hb0) hl
  rw [if_pos hw]
  obtain ⟨v1,w1,hr,hown,hg,_,hat⟩:=run_append_own_at (P:=P) W base t o.type e i0 (.int k 0) 1 bytes ht hi hz0 hz1 hz2 rfl (by decide) v xs.length _ (Kd.own_of_R HO) ad 1 1 [.int k y] (by simp)
    (fun j u hu=>by
      cases j with
      | zero=>simp at hu;subst hu;simpa [Addr.add] using hc
      | succ j=>simp at hu) (fun u hu=>by rw [List.mem_singleton.1 hu];rfl) (by simp only [maxLen];omega) hl hbase
  unfold Oper.wp execOp
  simp only [ho,resolve,invoke,builtin,Sem.run_bind,Sem.run_pure,Result.andThen_ok,zz26,zz27,zz28,hs,hx,hr]
  refine h v1 w1 (Kd.R_of_own (enc:=Value.int k) (h1:=fun _=>rfl) (by rw [List.length_append,List.length_singleton];have h2:=hown;unfold encs at h2 ⊢;rw [List.map_append];exact h2) (fun b hb=>?_)) hg
  rcases hat with hat | hat
  · exact HO.1 b (by rw [← hat];exact hb)
  · rw [hat] at hb
    injection hb with hb
    exact hfresh b (by omega)
end
theorem gb_below {base:Nat} {a w w':World} {row:Option Nat} (h:Below base a w) (hg:w.grownBy w' row) (hr:∀ k,row=some k→base≤k) (hs:base≤w.heap.size):Below base a w' :=
  ⟨hg.os.trans h.os,hg.tape.trans h.tape,hg.output.trans h.output,Nat.le_trans h.size hg.size,fun i hi=>(hg.block i (Nat.lt_of_lt_of_le hi hs) (fun he=>by have:=hr i he.symm;omega)).trans (h.block i hi)⟩
theorem size_alloc_le (w:World) (o:Obj):w.heap.size≤(w.alloc o).heap.size:=(zz2 (Below.refl w.heap.size w) o).size
theorem pw_cell_below' {w w1:World} (h:Below w.heap.size w w1) {a:Addr} {v:Value} (hc:w.cell? a=some v):w1.cell? a=some v:=pw_cell_below h hc
theorem Tz.fr {own own':Nat→Prop} {w w':World} (h:Tz w) (hf:Fr own own' w w') (hn:¬ own 0):Tz w':=fun j hj=>hf.cell (h j hj) hn
abbrev nx (t:List Int) (left a:Int):Int:=Go.bits .andNot .u16 (Go.bits .and .u16 left (rd t a)) (IntKind.u16.wrap (IntKind.u16.wrap (2 ^ min a.toNat 16) - 1))
def lsd (left:Int):List Int:=(impl_listed.f 20 left).getD []
def gokB (t:List Int):Nat→Int→Bool
  | 0,_=>false
  | d+1,left=>((impl_listed.f 20 left).isSome && decide ((lsd left).length≤16)) && (lsd left).all fun a=>decide (0≤a) && (decide (a < (t.length:Int)) && gokB t d (nx t left a))
/-- The groups that begin with some people and go on with people of a set, in the program's order. -/
def grs (t:List Int):Nat→List Int→Int→List (List Int)
  | 0,cs,_=>[cs]
  | d+1,cs,left=>cs :: (lsd left).flatMap fun a=>grs t d (cs ++ [a]) (nx t left a)
/-- A function value that takes each group. -/
def EachGrp (σ:Type) (g:Nat) (lb:Array Value) (B0:Nat) (I:σ→(Nat→Prop)→World→Prop) (step:σ→List Int→σ):Prop :=
  ∀ (s:σ) (own:Nat→Prop) (W:World) (A:Option Addr) (c:Nat) (cs:List Int),I s own W→B0≤W.heap.size→cs.length≤40→Kd.R (Kd.int .i64) 3 W B0 (fun k=>¬ own k) (.slice A cs.length c) cs →
    Calls Tryd.prog g (#[.slice A cs.length c] ++ lb) W fun e W'=>e=.returned (.tuple #[])∧∃ own',I (step s cs) own' W'∧Fr own own' W W'
theorem frozen_new (W:World) (c:Array Value) (e i:Nat):(W.alloc (.cells c e)).frozen? ⟨W.heap.size,i,none⟩=false:=zz10 (blk_new W _) i
theorem R_empty (k:IntKind) (e:Nat) (W:World) (base:Nat) (ok:Nat→Prop) (hb:base≤W.heap.size) (hok:ok W.heap.size):(Kd.int k).R e (W.alloc (.cells #[] e)) base ok (.slice (some ⟨W.heap.size,0,none⟩) 0 0) [] :=
  ⟨fun k hk=>by
    have:W.heap.size=k:=by simpa [Value.ownBlock] using hk
    subst this;exact hok,[],by simpa using World.ownsRow_lit (base:=base) (e:=e) (size:=(Kd.int k).sz) W #[] 0 hb (by simp [maxLen]) (by simp),Reps.none _ _⟩
theorem cell_lit {W0 w3:World} {v:Value} {e n:Nat} (hb:Below (W0.alloc (.cells #[v] e)).heap.size (W0.alloc (.cells #[v] e)) w3) (hn:n=W0.heap.size):w3.cell? ⟨n,0,none⟩=some v:=by
  subst hn;exact pw_cell_below hb (World.cell?_alloc_new _ _ _ 0)
theorem cell_lit1 {W0 w3:World} {v:Value} {e n:Nat} (hb:Below (W0.alloc (.cells #[v] e)).drew.heap.size (W0.alloc (.cells #[v] e)).drew w3) (hn:n=W0.heap.size):w3.cell? ⟨n,0,none⟩=some v:=by
  subst hn;exact pw_cell_below hb (a:=⟨W0.heap.size,0,none⟩) (World.cell?_alloc_new _ _ _ 0)
theorem cell_litN {W0 w3:World} {v:Value} {e n k:Nat} (hb:Below ((W0.alloc (.cells #[v] e)).drewN k).heap.size ((W0.alloc (.cells #[v] e)).drewN k) w3) (hn:n=W0.heap.size):w3.cell? ⟨n,0,none⟩=some v:=by
  subst hn;exact pw_cell_below hb (a:=⟨W0.heap.size,0,none⟩) (World.cell?_alloc_new _ _ _ 0)
set_option maxHeartbeats 4000000 in
set_option maxRecDepth 100000 in
theorem grow_calls (σ:Type) (g:Nat) (lb:Array Value) (eg:∀ args w,(callFunc g args).run Tryd.prog w=.ok (.enter g args) w) (B0:Nat) (I:σ→(Nat→Prop)→World→Prop) (step:σ→List Int→σ)
    (hE:EachGrp σ g lb B0 I step) (hI:∀ s own W W',I s own W→Below W.heap.size W W'→I s own W') (hO:∀ s own W,I s own W→∀ i,own i→i < W.heap.size) (hZ:∀ s own W,I s own W→¬ own 0)
    (t:List Int) (Bt Be Bg:Nat) (At:Option Addr) (ct:Nat) (hct:t.length≤ct) :
    ∀ (d:Nat) (cs:List Int) (left:Int) (s:σ) (own:Nat→Prop) (W:World) (A:Option Addr) (c:Nat),cs.length+d≤40→gokB t d left=true→Tz W →
      W.cell? ⟨Bt,0,none⟩=some (.slice At t.length ct)→W.cell? ⟨Be,0,none⟩=some (.func (.func g) #[] lb)→W.cell? ⟨Bg,0,none⟩=some (.func (.func 67) #[] #[.pointer (some ⟨Be,0,none⟩),.pointer (some ⟨Bg,0,none⟩),.pointer (some ⟨Bt,0,none⟩)]) →
      ¬ own Bt→¬ own Be→¬ own Bg→ReadApart .u16 own W At t.length t→I s own W→B0≤W.heap.size→Kd.R (Kd.int .i64) 3 W B0 (fun k=>¬ own k) (.slice A cs.length c) cs →
      Calls Tryd.prog 67 #[.slice A cs.length c,.int .u16 left,.pointer (some ⟨Be,0,none⟩),.pointer (some ⟨Bg,0,none⟩),.pointer (some ⟨Bt,0,none⟩)] W fun e W' =>
        e=.returned (.tuple #[])∧∃ own',I ((grs t d cs left).foldl step s) own' W'∧Fr own own' W W'
  | 0,cs,left,s,own,W,A,c,hd,hgo,hz,ht,he,hg,nt,ne,ng,hT,hs,hB,hR=>by simp [gokB] at hgo
  | d+1,cs,left,s,own,W,A,c,hd,hgo,hz,ht,he,hg,nt,ne,ng,hT,hs,hB,hR=>by
    have cE:=zz31 (hE s own W A c cs hs hB (by omega) hR)
    have IH:=zz31 (grow_calls σ g lb eg B0 I step hE hI hO hZ t Bt Be Bg At ct hct d)
    have HI:=zz31 hI
    have HO:=zz31 hO
    have HZ:=zz31 hZ
    have HT:=zz31 hT
    have HTz:=zz31 hz
    have HZ0:=zz31 (hZ s own W hs)
    have HR:=zz31 hR
    have HN:=zz31 (show ¬ own Bt∧¬ own Be∧¬ own Bg from ⟨nt,ne,ng⟩)
    have HC:=zz31 (show W.cell? ⟨Bt,0,none⟩=some (.slice At t.length ct)∧W.cell? ⟨Be,0,none⟩=some (.func (.func g) #[] lb)∧W.cell? ⟨Bg,0,none⟩=some (.func (.func 67) #[] #[.pointer (some ⟨Be,0,none⟩),.pointer (some ⟨Bg,0,none⟩),.pointer (some ⟨Bt,0,none⟩)]) from ⟨ht,he,hg⟩)
    have HBt:=zz31 (World.block_lt_of_cell? W _ ht)
    have HBe:=zz31 (World.block_lt_of_cell? W _ he)
    have HBg:=zz31 (World.block_lt_of_cell? W _ hg)
    unfold gokB at hgo
    rw [Bool.and_eq_true,Bool.and_eq_true,Option.isSome_iff_exists,decide_eq_true_eq] at hgo
    obtain ⟨⟨⟨L,hL⟩,hLn⟩,hA⟩:=hgo
    have hL':lsd left=L:=by unfold lsd;rw [hL];rfl
    rw [hL'] at hA hLn
    have HA:Aside0 (∀ a ∈ L,0≤a∧a < (t.length:Int)∧gokB t d (nx t left a)=true):=⟨fun a ha=>by
      have:=List.all_eq_true.1 hA a ha
      simpa using this⟩
    have HL:=zz31 hL
    have HL':=zz31 hL'
    clear hE hI hO hZ hT hz hs hR nt ne ng ht hg hL hL' hA
    go_enter Tryd.func67,Tryd.ntmps67
    go_wp2_with (first | (go_at_fn g;refine cE.out.mono ?_;rintro e Wa ⟨rfl,owna,h1,h2⟩;have HIa:=zz31 h1;have HFa:=zz31 h2;clear h1 h2;have HTa:=zz31 (HTz.out.fr HFa.out HZ0.out)) | (go_at_call 58;refine (impl_listed.calls 20 left L _ HL.out (HTa.out.below (by repeat (first | exact Below.refl _ _ | apply zz0)))).mono ?_;rintro e wb ⟨vb,rfl,ho,hb⟩;have HBb:=zz31 (zz4 (w:=Wa) (by repeat (first | exact Below.refl _ _ | apply zz0)) hb);have HRb:=zz31 ho;clear ho hb;obtain ⟨Ab,cb,rfl⟩:=Kd.R_slice HRb.out))
    have HTb:=zz31 (HTa.out.below HBb.out)
    have HFb0:=zz31 (HFa.out.trans (Fr.of_below owna HBb.out))
    have HIb:=zz31 (HI.out _ _ _ _ HIa.out HBb.out)
    have HRb2:=zz31 (Kd.R_mono (ok':=fun k=>¬ owna k) (Kd.R_bound HRb.out) (fun k hk h=>Nat.lt_irrefl _ (Nat.lt_of_lt_of_le (HO.out _ _ _ HIa.out k h) hk.2.1)))
    go_loopg [15] L.length (fun gg v15 wr=>∃ (j:Nat) (s1:σ) (own1:Nat→Prop),j≤L.length∧L.length - j≤gg∧v15=.int .i64 j∧Aside0 (s1=((L.take j).flatMap fun a=>grs t d (cs ++ [a]) (nx t left a)).foldl step (step s cs))∧Aside0 (I s1 own1 wr)∧Aside0 (Fr own own1 W wr)∧Aside0 (Fr owna own1 wb wr))
    case atStart=>exact ⟨0,step s cs,owna,by omega,by omega,by rfl,⟨rfl⟩,HIb,HFb0,⟨Fr.refl _ _⟩⟩
    case round =>
      obtain ⟨j,s1,own1,hj,hgg,rfl,HS1,HI1,HF,HFb⟩:=hrel
      by_cases hlt:j < L.length
      · have hltz:(j:Int) < (L.length:Int):=by omega
        have hrL:=HFb.out.R HRb2.out (fun _ h=>h)
        obtain ⟨ad,e1,hcell⟩:=Kd.at_int (Kd.R_reads' hrL).2.2 (j:Int) (by omega) (by omega)
        cases e1
        rw [Int.toNat_natCast] at hcell
        obtain ⟨a,ha⟩:∃ a,a=rd L (j:Int):=⟨_,rfl⟩
        rw [← ha] at hcell
        have hmem:a ∈ L:=by
          rw [ha]
          show L.getD (j:Int).toNat 0 ∈ L
          rw [Int.toNat_natCast,List.getD_eq_getElem?_getD,List.getElem?_eq_getElem hlt]
          exact List.getElem_mem hlt
        obtain ⟨ha0,hat,hgo1⟩:=HA.out a hmem
        have HGO:=zz31 hgo1
        have HTK:=zz31 (show L.take (j+1)=L.take j ++ [a] from by
          rw [List.take_add_one,ha,List.getElem?_eq_getElem hlt]
          show _=L.take j ++ [L.getD (j:Int).toNat 0]
          rw [Int.toNat_natCast,List.getD_eq_getElem?_getD,List.getElem?_eq_getElem hlt];rfl)
        have hr1:=HF.out.R HR.out (fun _ h=>h)
        have ht1:=HF.out.cell HC.out.1 HN.out.1
        have hg1:=HF.out.cell HC.out.2.2 HN.out.2.2
        have he1:=zz31 (HF.out.cell HC.out.2.1 HN.out.2.1)
        have HT1:=zz31 (HT.out.fr HF.out)
        have HR1:=zz31 hr1
        have HZ1:=zz31 (HZ.out _ _ _ HI1.out)
        have HTz1:=zz31 (HTz.out.fr HF.out HZ0.out)
        have HN1:=zz31 (show ¬ own1 Bt∧¬ own1 Be∧¬ own1 Bg from ⟨fun h=>(HF.out.own _ h).elim HN.out.1 (fun h=>absurd h (Nat.not_le.2 HBt.out)),fun h=>(HF.out.own _ h).elim HN.out.2.1 (fun h=>absurd h (Nat.not_le.2 HBe.out)),fun h=>(HF.out.own _ h).elim HN.out.2.2 (fun h=>absurd h (Nat.not_le.2 HBg.out))⟩)
        obtain ⟨adt,et,hcellt⟩:=Kd.at_int HT1.out.1 a ha0 hat
        cases et
        have HAD:=zz31 (show ¬ own1 adt.block from HT1.out.2 adt rfl (by omega))
        have HCs:=zz31 (Kd.R_reads' HR1.out).2.2
        have HCc:=zz31 (Kd.R_reads' HR1.out).2.1
        have HBg1:=zz31 (World.block_lt_of_cell? wr _ hg1)
        have HBt1:=zz31 (World.block_lt_of_cell? wr _ ht1)
        have HBd1:=zz31 (World.block_lt_of_cell? wr _ hcellt)
        have HBd2:=zz31 (show ¬ own1 (adt.add a.toNat).block from by rw [fr_addb];exact HAD.out)
        have HBr:=zz31 (show B0≤wr.heap.size from Nat.le_trans hB HF.out.size)
        have HFC:=zz31 (show slices_Clone_int_int.f cs=some cs from by unfold slices_Clone_int_int.f;rw [if_pos (by omega)])
        have HLc:=zz31 (show (cs.length+1) * 8≤140737488355328 from by omega)
        have HL1:=zz31 (show (cs ++ [a]).length=cs.length+1 from by rw [List.length_append,List.length_singleton])
        have HQ:=zz31 (show (cs ++ [a]).length+d≤40 from by rw [List.length_append,List.length_singleton];omega)
        clear hr1 hrL ha hmem hgo1
        go_wp2
        go_region_held3 (fun w' => w'.cell? ⟨Bg, 0, none⟩ = some (.func (.func 67) #[] #[.pointer (some ⟨Be, 0, none⟩), .pointer (some ⟨Bg, 0, none⟩), .pointer (some ⟨Bt, 0, none⟩)]) ∧ w'.cell? ⟨Bt, 0, none⟩ = some (.slice (some adt) t.length ct) ∧ w'.cell? (adt.add a.toNat) = some (.int .u16 (rd t a))) (first | go_keep | exact ⟨HF5.out.cell (a := ⟨Bg, 0, none⟩) hg1 HN1.out.2.2, HF5.out.cell (a := ⟨Bt, 0, none⟩) ht1 HN1.out.1, HF5.out.cell hcellt HBd2.out⟩ | exact ⟨(HBw4.out.cell (p := ⟨Bg, 0, none⟩) HBg1.out).trans hg1, (HBw4.out.cell (p := ⟨Bt, 0, none⟩) HBt1.out).trans ht1, (HBw4.out.cell HBd1.out).trans hcellt⟩ | exact ⟨(HBw.out.cell (p := ⟨Bg, 0, none⟩) HBg1.out).trans hg1, (HBw.out.cell (p := ⟨Bt, 0, none⟩) HBt1.out).trans ht1, (HBw.out.cell HBd1.out).trans hcellt⟩) (first | (go_at_call 68; refine (slices_Clone_int_int.calls A c cs cs _ ?_ HCc.out HFC.out).mono ?_; (repeat (first | exact HCs.out | (with_reducible refine zz18 ?_ _) | (with_reducible refine zz19 ?_ _) | (with_reducible refine zz20 ?_))); rintro e w3 ⟨v3, rfl, ho, hb⟩; have HBw := zz31 (zz4 (w := wr) (by repeat (first | exact Below.refl _ _ | apply zz0 | apply below_drew | apply zz2)) hb); have HBc := zz31 hb; have HO3 := zz31 ho; clear hb ho) | (refine step_append_at .i64 wr.heap.size ?_ (.tmp 21) (.tmp 23) 34 3 8 ?_ Tryd.underlying34 info3 (Nat.succ_pos 7) v3 cs a (fun _ => True) ?_ ⟨w3.heap.size, 0, none⟩ ?_ ?_ (fun _ _ => trivial) ?_ ?_ HLc.out ?_; rfl; rfl; rfl; rfl; exact World.cell?_alloc_new _ _ _ 0; exact zz12 HO3.out _; exact (zz2 HBw.out _).size; intro v4 w4 ho4 hg4; have HBw4 := zz31 (gb_below (zz2 HBw.out _) hg4 (Kd.R_base HO3.out) (Nat.le_trans HBw.out.size (size_alloc_le _ _))); have HO4 := zz31 (Kd.R_mono (Kd.R_lower (Kd.R_bound ho4) HBr.out) (fun k hk h => Nat.lt_irrefl _ (Nat.lt_of_lt_of_le (HO.out _ _ _ HI1.out k h) hk.2.1))); obtain ⟨A4, c4, rfl⟩ := Kd.R_slice ho4; clear ho4 hg4) | (refine step_append_at .i64 wr.heap.size ?_ (.tmp 21) (.tmp 23) 34 3 8 ?_ Tryd.underlying34 info3 (Nat.succ_pos 7) v3 cs a (fun _ => True) ?_ ⟨wr.heap.size, 0, none⟩ ?_ ?_ (fun _ _ => trivial) ?_ ?_ HLc.out ?_; rfl; rfl; rfl; rfl; (first | exact cell_lit HBc.out rfl | exact cell_lit1 HBc.out rfl | exact cell_litN HBc.out rfl); exact Kd.R_lower HO3.out (size_alloc_le _ _); exact HBw.out.size; intro v4 w4 ho4 hg4; have HBw4 := zz31 (gb_below HBw.out hg4 (Kd.R_base (Kd.R_lower HO3.out (size_alloc_le _ _))) HBw.out.size); have HO4 := zz31 (Kd.R_mono (Kd.R_lower (Kd.R_bound ho4) HBr.out) (fun k hk h => Nat.lt_irrefl _ (Nat.lt_of_lt_of_le (HO.out _ _ _ HI1.out k h) hk.2.1))); obtain ⟨A4, c4, rfl⟩ := Kd.R_slice ho4; clear ho4 hg4) | (go_at_call 67; rw [← HL1.out]; refine (IH.out (cs ++ [a]) (nx t left a) s1 own1 w4 A4 c4 HQ.out HGO.out (HTz1.out.below HBw4.out) (pw_cell_below' HBw4.out ht1) (pw_cell_below' HBw4.out he1.out) (pw_cell_below' HBw4.out hg1) HN1.out.1 HN1.out.2.1 HN1.out.2.2 (HT1.out.fr (Fr.of_below _ HBw4.out)) (HI.out _ _ _ _ HI1.out HBw4.out) (Nat.le_trans HBr.out HBw4.out.size) HO4.out).mono ?_; rintro e w5 ⟨rfl, own5, hI5, hF5⟩; have HI5 := zz31 hI5; have HF5 := zz31 ((Fr.of_below own1 HBw4.out).trans hF5); clear hI5 hF5) | (fail "no arm"))
        all_goals
          go_wp2
          go_roundg (L.length - (j+1))
          case measure=>omega
          case rel=>exact ⟨j+1,(grs t d (cs ++ [a]) (nx t left a)).foldl step s1,own5,by omega,by omega,by go_num,⟨by rw [HS1.out,HTK.out,List.flatMap_append,List.foldl_append];simp⟩,⟨HI.out _ _ _ _ HI5.out (by repeat first | exact Below.refl _ _ | apply zz0)⟩,⟨HF.out.trans (HF5.out.trans (Fr.of_below _ (by repeat first | exact Below.refl _ _ | apply zz0)))⟩,⟨HFb.out.trans (HF5.out.trans (Fr.of_below _ (by repeat first | exact Below.refl _ _ | apply zz0)))⟩⟩
      · have hltz:¬ (j:Int) < (L.length:Int):=by omega
        obtain rfl:j=L.length:=by omega
        go_wp2
        refine bodyPost_end (results_none rfl _ _ _) rfl ⟨rfl,own1,?_,HF.out⟩
        have h1:=HI1.out
        rw [HS1.out,List.take_length] at h1
        rw [grs,HL'.out]
        exact h1
theorem R_lit0 {k:IntKind} {e n base:Nat} {W0:World} {ok:Nat→Prop} (hn:n=W0.heap.size) (hb:base≤W0.heap.size) (hok:ok W0.heap.size):(Kd.int k).R e (W0.alloc (.cells #[] e)) base ok (.slice (some ⟨n,0,none⟩) 0 0) []:=by
  subst hn;exact R_empty k e W0 base ok hb hok
abbrev fullOf (t:List Int):Int:=IntKind.u16.wrap (IntKind.u16.wrap (2 ^ t.length) - 1)
set_option maxHeartbeats 4000000 in
set_option maxRecDepth 100000 in
theorem groups_calls (σ:Type) (g:Nat) (lb:Array Value) (eg:∀ args w,(callFunc g args).run Tryd.prog w=.ok (.enter g args) w) (B0:Nat) (I:σ→(Nat→Prop)→World→Prop) (step:σ→List Int→σ)
    (hE:EachGrp σ g lb B0 I step) (hI:∀ s own W W',I s own W→Below W.heap.size W W'→I s own W') (hO:∀ s own W,I s own W→∀ i,own i→i < W.heap.size) (hZ:∀ s own W,I s own W→¬ own 0)
    (t:List Int) (hn:t.length≤12) (At:Option Addr) (ct:Nat) (s:σ) (own:Nat→Prop) (W:World) (hT:ReadApart .u16 own W At t.length t) (hct:t.length≤ct) (hgo:gokB t 17 (fullOf t)=true) (hz:Tz W) (hs:I s own W) (hB:B0≤W.heap.size) :
    Calls Tryd.prog 38 #[.slice At t.length ct,.func (.func g) #[] lb] W fun e W' =>
      e=.returned (.tuple #[])∧∃ own',I ((grs t 17 [] (fullOf t)).foldl step s) own' W'∧Fr own own' W W':=by
  have CG:Aside0 (∀ (Wx:World) (B5:Nat),Below ((((W.alloc (.cells #[.slice At t.length ct] 53)).alloc (.cells #[.func (.func g) #[] lb] 57)).alloc (.cells #[(.func (.func 67) #[] #[.pointer (some ⟨W.heap.size+1,0,none⟩),.pointer (some ⟨W.heap.size+1+1,0,none⟩),.pointer (some ⟨W.heap.size,0,none⟩)])] 81))).heap.size ((((W.alloc (.cells #[.slice At t.length ct] 53)).alloc (.cells #[.func (.func g) #[] lb] 57)).alloc (.cells #[(.func (.func 67) #[] #[.pointer (some ⟨W.heap.size+1,0,none⟩),.pointer (some ⟨W.heap.size+1+1,0,none⟩),.pointer (some ⟨W.heap.size,0,none⟩)])] 81))) Wx→(Kd.int .i64).R 3 Wx B0 (fun k=>¬ own k) (.slice (some ⟨B5,0,none⟩) 0 0) [] →
      Calls Tryd.prog 67 #[.slice (some ⟨B5,0,none⟩) 0 0,.int .u16 (fullOf t),.pointer (some ⟨W.heap.size+1,0,none⟩),.pointer (some ⟨W.heap.size+1+1,0,none⟩),.pointer (some ⟨W.heap.size,0,none⟩)] Wx fun e W' =>
      e=.returned (.tuple #[])∧∃ own',I ((grs t 17 [] (fullOf t)).foldl step s) own' W'∧Fr own own' W W'∧W'.cell? ⟨W.heap.size+1+1,0,none⟩=some (.func (.func 67) #[] #[.pointer (some ⟨W.heap.size+1,0,none⟩),.pointer (some ⟨W.heap.size+1+1,0,none⟩),.pointer (some ⟨W.heap.size,0,none⟩)])∧W'.cell? ⟨W.heap.size,0,none⟩=some (.slice At t.length ct)):=⟨fun Wx B5 hbx hR=>by
    generalize hV0:(Value.slice At t.length ct)=V0 at *
    have e1:(W.alloc (.cells #[V0] 53)).heap.size=W.heap.size+1:=by simp
    have e2:((W.alloc (.cells #[V0] 53)).alloc (.cells #[.func (.func g) #[] lb] 57)).heap.size=W.heap.size+1+1:=by simp
    generalize hF:(Value.func (.func 67) #[] #[.pointer (some ⟨W.heap.size+1,0,none⟩),.pointer (some ⟨W.heap.size+1+1,0,none⟩),.pointer (some ⟨W.heap.size,0,none⟩)])=F at *
    have b0:=blk_new W (.cells #[V0] 53)
    have b1:=blk_new (W.alloc (.cells #[V0] 53)) (.cells #[.func (.func g) #[] lb] 57)
    have b2:=blk_new ((W.alloc (.cells #[V0] 53)).alloc (.cells #[.func (.func g) #[] lb] 57)) (.cells #[F] 81)
    rw [e1] at b1
    rw [e2] at b2
    have hbel:Below W.heap.size W (((W.alloc (.cells #[V0] 53)).alloc (.cells #[.func (.func g) #[] lb] 57)).alloc (.cells #[F] 81)):=zz2 (zz2 (zz2 (Below.refl _ _) _) _) _
    have hbel2:Below W.heap.size W Wx:=hbel.trans (hbx.mono hbel.size)
    have c0:=pw_cell_below hbx (zz9 (zz8 (zz8 b0 (.cells #[.func (.func g) #[] lb] 57)) (.cells #[F] 81)) 0)
    have c1:=pw_cell_below hbx (zz9 (zz8 b1 (.cells #[F] 81)) 0)
    have c2:=pw_cell_below hbx (zz9 b2 0)
    subst hV0 hF
    have hno:∀ i,W.heap.size≤i→¬ own i:=fun i hi h=>by have:=hO s own W hs _ h;omega
    exact (grow_calls σ g lb eg B0 I step hE hI hO hZ t W.heap.size (W.heap.size+1) (W.heap.size+1+1) At ct hct 17 [] (fullOf t) s own Wx (some ⟨B5,0,none⟩) 0 (by simp) hgo (hz.below hbel2) c0 c1 c2 (hno _ (by omega)) (hno _ (by omega)) (hno _ (by omega)) (hT.fr (Fr.of_below _ hbel2)) (hI _ _ _ _ hs hbel2) (Nat.le_trans hB hbel2.size) hR).mono fun e W' ⟨h1,own',h2,h3⟩=>⟨h1,own',h2,(Fr.of_below _ hbel2).trans h3,h3.cell c2 (hno _ (by show W.heap.size≤W.heap.size+1+1;omega)),h3.cell c0 (hno _ (by exact Nat.le_refl _))⟩⟩
  have HOK:=zz31 (show ∀ i,W.heap.size≤i→¬ own i from fun i hi h=>by have:=hO s own W hs _ h;omega)
  have HBB:=zz31 hB
  clear hE hI hO hZ hT hs hz hgo hB
  have hf3:(((W.alloc (Obj.cells #[Value.slice At t.length ct] 53)).alloc (Obj.cells #[Value.func (Fn.func g) #[] lb] 57)).alloc (Obj.cells #[Value.nilFunc] 81)).frozen? ⟨W.heap.size+1+1,0,none⟩=false:=by
    have e:((W.alloc (Obj.cells #[Value.slice At t.length ct] 53)).alloc (Obj.cells #[Value.func (Fn.func g) #[] lb] 57)).heap.size=W.heap.size+1+1:=by simp
    rw [← e];exact frozen_new _ _ _ 0
  have hc3:(((W.alloc (Obj.cells #[Value.slice At t.length ct] 53)).alloc (Obj.cells #[Value.func (Fn.func g) #[] lb] 57)).alloc (Obj.cells #[Value.nilFunc] 81)).cell? ⟨W.heap.size+1+1,0,none⟩=some Value.nilFunc:=by
    have e:((W.alloc (Obj.cells #[Value.slice At t.length ct] 53)).alloc (Obj.cells #[Value.func (Fn.func g) #[] lb] 57)).heap.size=W.heap.size+1+1:=by simp
    rw [← e];exact World.cell?_alloc_new _ _ _ 0
  go_enter Tryd.func38,Tryd.ntmps38
  have hcg:(((W.alloc (.cells #[.slice At t.length ct] 53)).alloc (.cells #[.func (.func g) #[] lb] 57)).alloc (.cells #[(.func (.func 67) #[] #[.pointer (some ⟨W.heap.size+1,0,none⟩),.pointer (some ⟨W.heap.size+1+1,0,none⟩),.pointer (some ⟨W.heap.size,0,none⟩)])] 81)).cell? ⟨W.heap.size+1+1,0,none⟩=some (.func (.func 67) #[] #[.pointer (some ⟨W.heap.size+1,0,none⟩),.pointer (some ⟨W.heap.size+1+1,0,none⟩),.pointer (some ⟨W.heap.size,0,none⟩)]):=by
    have e:((W.alloc (Obj.cells #[Value.slice At t.length ct] 53)).alloc (Obj.cells #[Value.func (Fn.func g) #[] lb] 57)).heap.size=W.heap.size+1+1:=by simp
    rw [← e];exact World.cell?_alloc_new _ _ _ 0
  have hct0:(((W.alloc (.cells #[.slice At t.length ct] 53)).alloc (.cells #[.func (.func g) #[] lb] 57)).alloc (.cells #[(.func (.func 67) #[] #[.pointer (some ⟨W.heap.size+1,0,none⟩),.pointer (some ⟨W.heap.size+1+1,0,none⟩),.pointer (some ⟨W.heap.size,0,none⟩)])] 81)).cell? ⟨W.heap.size,0,none⟩=some (.slice At t.length ct):=zz9 (zz8 (zz8 (blk_new W _) _) _) 0
  go_wp2
  go_region_held3 (fun w' => w'.cell? ⟨W.heap.size + 1 + 1, 0, none⟩ = some (.func (.func 67) #[] #[.pointer (some ⟨W.heap.size + 1, 0, none⟩), .pointer (some ⟨W.heap.size + 1 + 1, 0, none⟩), .pointer (some ⟨W.heap.size, 0, none⟩)]) ∧ w'.cell? ⟨W.heap.size, 0, none⟩ = some (.slice At t.length ct)) (first | go_keep | exact ⟨H3.out.1, H3.out.2⟩) (first | (go_at_call 67; refine (CG.out _ _ ?_ ?_).mono ?_; (repeat (first | exact Below.refl _ _ | apply zz0 | apply below_drew | apply zz2)); (repeat (first | (with_reducible refine zz13 ?_ _) | (with_reducible refine zz14 ?_))); exact R_lit0 (by first | rfl | (simp; done)) (Nat.le_trans HBB.out (by first | (simp; done) | (simp; omega) | omega)) (HOK.out _ (by first | (simp; done) | (simp; omega) | omega)); rintro e w' ⟨rfl, own', h1, h2, h3⟩; have H1 := zz31 h1; have H2 := zz31 h2; have H3 := zz31 h3; clear h1 h2 h3) | (fail "no arm"))
  all_goals exact bodyPost_end (results_none rfl _ _ _) rfl ⟨rfl,own',H1.out,H2.out⟩
theorem Tz.pos {w:World} (h:Tz w):0 < w.heap.size:=World.block_lt_of_cell? w _ (h 0 (by decide))
def cntStep (p:List Int→Bool) (s:Int) (cs:List Int):Int:=wrap64 (s+(if p cs then 1 else 0))
/-- A count in one block, a number in another one. -/
def CntI (bm bz:Nat) (z:Int) (s:Int) (own:Nat→Prop) (W:World):Prop :=
  own=(fun i=>i=bm)∧bm ≠ 0∧bz ≠ bm∧W.heap[bm]?=some (.cells #[.int .i64 s] 3 (0,0))∧W.cell? ⟨bz,0,none⟩=some (.int .i64 z)
theorem CntI.below {bm bz:Nat} {z s:Int} {own:Nat→Prop} {W W':World} (h:CntI bm bz z s own W) (hb:Below W.heap.size W W'):CntI bm bz z s own W':=by
  obtain ⟨h1,h0,h2,h3,h4⟩:=h
  exact ⟨h1,h0,h2,zz11 h3 hb,pw_cell_below hb h4⟩
theorem CntI.lt {bm bz:Nat} {z s:Int} {own:Nat→Prop} {W:World} (h:CntI bm bz z s own W):∀ i,own i→i < W.heap.size:=by
  obtain ⟨h1,h0,h2,h3,h4⟩:=h
  subst h1
  rintro i rfl
  exact blk_lt h3
theorem CntI.tab {bm bz:Nat} {z s:Int} {own:Nat→Prop} {W:World} (h:CntI bm bz z s own W):¬ own 0:=by
  obtain ⟨h1,h0,_⟩:=h
  subst h1
  exact fun h=>h0 h.symm
theorem CntI.put {bm bz:Nat} {z s:Int} {W:World} (h:CntI bm bz z s (fun i=>i=bm) W) (n:Int) (W2:World) (hW:Below W.heap.size W W2) :
    CntI bm bz z n (fun i=>i=bm) (W2.setCell ⟨bm,0,none⟩ (.int .i64 n))∧Fr (fun i=>i=bm) (fun i=>i=bm) W (W2.setCell ⟨bm,0,none⟩ (.int .i64 n)):=by
  obtain ⟨h1,h0,h2,h3,h4⟩:=h.below hW
  refine ⟨⟨rfl,h0,h2,blk_set h3 0 _,?_⟩,(Fr.of_below _ hW).trans ⟨rfl,rfl,rfl,by simp [World.setCell],fun i hi hn=>?_,fun i hi=>.inl hi⟩⟩
  · have:(W2.setCell ⟨bm,0,none⟩ (.int .i64 n)).heap[bz]?=W2.heap[bz]?:=Below.heap_setCell _ _ _ bz (fun he=>h2 he)
    simpa [World.cell?,this] using h4
  · rw [Below.heap_setCell _ _ _ i (fun he=>hn he)]
theorem row_apart {k:IntKind} {e base n c B:Nat} {ok:Nat→Prop} {W:World} {A:Option Addr} {xs:List Int} (h:Kd.R (Kd.int k) e W base ok (.slice A n c) xs) (hB:B < base):∀ ad,A=some ad→ad.block ≠ B:=by
  intro ad e1
  subst e1
  have:=Kd.R_base h ad.block rfl
  omega

end Go.Proofs.YtifkaefccghgdaaDoor.P
