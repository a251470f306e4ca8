-- PRINTED by print.py (a twelfth state) out of the translation. Not trusted: Lean checks it.
import Derived.Test.YtjipjcdeoajnjaaPx0
import Derived.Test.YtjipjcdeoajnjaaPx1
namespace Go.Proofs.Ytjipjcdeoajnjaa.P
open Go.RowKit Go.Proofs.YtjipjcdeoajnjaaW.PrintWords Go.Proofs.YtjipjcdeoajnjaaW.PrintLast Go.Proofs.YtjipjcdeoajnjaaW.PrintMore
attribute [local go_sem] max2_int min2_int max_two min_two max_three min_three max_four min_four   -- for this text's walks alone
set_option linter.unusedVariables false
set_option linter.unusedSimpArgs false

/-! ### spec_deFew: function 46 -/
def spec_deFew.f (k:Nat) (l0:List Int):Option (Bool):=(spec_deGood.f k l0).bind fun t104=>(if t104=true then (some (decide ((l0.length:Int)≤7))) else (some false))
theorem spec_deFew.mono:∀ a0 k,LeO (spec_deFew.f k a0) (spec_deFew.f (k+1) a0):=by
 intro a0 k
 unfold spec_deFew.f
 repeat' first
   | (with_reducible exact spec_deGood.mono _ _)
   | (with_reducible exact LeO.refl _)
   | (with_reducible exact LeO.none _)
   | (with_reducible refine LeO.ite ?_ ?_)
   | (with_reducible refine LeO.bind ?_ (fun _=>?_))
   | exact spec_deGood.mono _ _
   | exact LeO.none _
   | refine LeO.ite ?_ ?_
   | refine LeO.bind ?_ (fun _=>?_)
set_option maxHeartbeats 8000000 in
set_option maxRecDepth 100000 in
theorem spec_deFew.calls (k:Nat) (A0:Option Addr) (c0:Nat) (l0:List Int) (r:Bool) (w:World) (hr0:Kd.C (Kd.int .i64) w A0 l0.length l0) (hc0:l0.length≤c0) (h:spec_deFew.f k l0=some r) :
  Calls Try.prog 46 #[.slice A0 l0.length c0] w fun e w'=>e=.returned (.bool r)∧Drawn0 w w':=by
 have HR0:=zz31 hr0
 have HC0:=zz31 hc0
 clear hr0 hc0
 have H:((spec_deGood.f k l0).bind fun t104=>(if t104=true then (some (decide ((l0.length:Int)≤7))) else (some false)))=some r:=h
 clear h
 replace H:=zz30.mp H
 obtain ⟨t104,A20,H⟩:=H
 replace H:(if t104=true then (some (decide ((l0.length:Int)≤7))) else (some false))=some r:=H
 have A2:=zz31 A20
 clear A20
 by_cases c3:t104=true
 ·subst c3
  have H1:(some (decide ((l0.length:Int)≤7)))=some r:=by rw [if_pos rfl] at H;exact H
  clear H
  have H:=H1
  clear H1
  obtain rfl:=Option.some.inj H
  go_enter Try.func46,Try.ntmps46
  go_wp2_with (first | ((with_reducible refine gate_callee (f:=56) rfl ?_);refine goesL_ (some 4) rfl rfl Try.func56 (by kernel_rfl) rfl #[.slice A0 l0.length c0] rfl (by (try simp only [zz26,zz27,zz28]);first | done | rfl | (simp only [zz24,zz25];rfl)) ?_;(with_reducible refine (spec_deGood.calls k _ _ l0 true _ ?side1 ?side2 A2.out).mono ?_);(case side1=>repeat (first | exact HR0.out | (with_reducible refine zz18 ?_ _) | (with_reducible refine zz19 ?_ _) | (with_reducible refine zz20 ?_)));(case side2=>exact HC0.out);rintro e w' ⟨rfl,⟨nd,rfl⟩⟩;refine ⟨_,rfl,?_⟩))
  go_ret
  exact ⟨by first | rfl | (simp;done) | (simp [*];done),by repeat (first | exact Drawn0.refl _ | apply Drawn0.step)⟩
 ·replace c3:=Bool.eq_false_iff.mpr c3
  subst c3
  have H1:(some false)=some r:=by rw [if_neg (show ¬ (false=true) by decide)] at H;exact H
  clear H
  have H:=H1
  clear H1
  obtain rfl:=Option.some.inj H
  go_enter Try.func46,Try.ntmps46
  go_wp2_with (first | ((with_reducible refine gate_callee (f:=56) rfl ?_);refine goesL_ (some 4) rfl rfl Try.func56 (by kernel_rfl) rfl #[.slice A0 l0.length c0] rfl (by (try simp only [zz26,zz27,zz28]);first | done | rfl | (simp only [zz24,zz25];rfl)) ?_;(with_reducible refine (spec_deGood.calls k _ _ l0 false _ ?side1 ?side2 A2.out).mono ?_);(case side1=>repeat (first | exact HR0.out | (with_reducible refine zz18 ?_ _) | (with_reducible refine zz19 ?_ _) | (with_reducible refine zz20 ?_)));(case side2=>exact HC0.out);rintro e w' ⟨rfl,⟨nd,rfl⟩⟩;refine ⟨_,rfl,?_⟩))
  go_ret
  exact ⟨by first | rfl | (simp;done) | (simp [*];done),by repeat (first | exact Drawn0.refl _ | apply Drawn0.step)⟩

-- NOT PRINTED: function 84 (spec_deLook)

/-! ### spec_deAll: function 47 (a contract of our own) -/
/-! What a call of a closure keeps: the blocks `own` are the state's; whatever else lay stays; what is the state's behind was its own before, or is new. -/
structure Fr (own own' : Nat → Prop) (w w' : World) : Prop where
  os:w'.os=w.os
  tape:w'.tape=w.tape
  output:w'.output=w.output
  size:w.heap.size≤w'.heap.size
  block:∀ i,i < w.heap.size→¬ own i→w'.heap[i]?=w.heap[i]?
  own:∀ i,own' i→own i ∨ w.heap.size≤i
theorem Fr.refl (own:Nat→Prop) (w:World):Fr own own w w:=⟨rfl,rfl,rfl,Nat.le_refl _,fun _ _ _=>rfl,fun _ h=>.inl h⟩
theorem Fr.trans {o1 o2 o3:Nat→Prop} {w1 w2 w3:World} (h:Fr o1 o2 w1 w2) (k:Fr o2 o3 w2 w3):Fr o1 o3 w1 w3 :=
  ⟨k.os.trans h.os,k.tape.trans h.tape,k.output.trans h.output,Nat.le_trans h.size k.size,
   fun i hi hn=>(k.block i (Nat.lt_of_lt_of_le hi h.size) (fun h2=>(h.own i h2).elim hn (fun h3=>by omega))).trans (h.block i hi hn),
   fun i hi=>(k.own i hi).elim (fun h2=>h.own i h2) (fun h3=>.inr (Nat.le_trans h.size h3))⟩
theorem Fr.of_below (own:Nat→Prop) {w w':World} (h:Below w.heap.size w w'):Fr own own w w':=⟨h.os,h.tape,h.output,h.size,fun i hi _=>h.block i hi,fun _ h=>.inl h⟩
theorem Fr.below {own own':Nat→Prop} {n:Nat} {w w':World} (h:Fr own own' w w') (hn:n≤w.heap.size) (ho:∀ i,own i→n≤i):Below n w w' :=
  ⟨h.os,h.tape,h.output,h.size,fun i hi=>h.block i (by omega) (fun h2=>by have:=ho i h2;omega)⟩
theorem Fr.cell {own own':Nat→Prop} {w w':World} (h:Fr own own' w w') {a:Addr} {v:Value} (hc:w.cell? a=some v) (hn:¬ own a.block):w'.cell? a=some v:=by
  have:=h.block a.block (World.block_lt_of_cell? w a hc) hn
  simpa [World.cell?,this] using hc
theorem Fr.blk {own own':Nat→Prop} {w w':World} (h:Fr own own' w w') {g:Nat} {o:Obj} (hb:w.heap[g]?=some o) (hn:¬ own g):w'.heap[g]?=some o:=(h.block g (blk_lt hb) hn).trans hb
theorem Fr.R {α:Type} {d:Kd α} {e base:Nat} {ok own own':Nat→Prop} {w w':World} {v:Value} {xs:List α} (h:Fr own own' w w') (hr:d.R e w base ok v xs) (hn:∀ k,ok k→¬ own k):d.R e w' base ok v xs :=
  Kd.R_step hr (fun k hk hlt=>h.block k hlt (hn k hk))
theorem Fr.mono {o1 o1' o2:Nat→Prop} {w w':World} (h:Fr o1 o2 w w') (hs:∀ i,o1 i→o1' i) (h2:∀ i,o2 i→o1' i ∨ w.heap.size≤i):Fr o1' o2 w w' :=
  ⟨h.os,h.tape,h.output,h.size,fun i hi hn=>h.block i hi (fun h1=>hn (hs i h1)),h2⟩
theorem fr_addb (ad:Addr) (j:Nat):(ad.add j).block=ad.block:=by unfold Addr.add;split <;> rfl
/-- A row of numbers that is read, in no block of the state's. -/
def ReadApart (k:IntKind) (own:Nat→Prop) (w:World) (A:Option Addr) (n:Nat) (xs:List Int):Prop:=Kd.C (Kd.int k) w A n xs∧∀ ad,A=some ad→0 < n→¬ own ad.block
theorem ReadApart.fr {k:IntKind} {own own':Nat→Prop} {w w':World} {A:Option Addr} {n:Nat} {xs:List Int} (h:ReadApart k own w A n xs) (hf:Fr own own' w w'):ReadApart k own' w' A n xs:=by
  obtain ⟨⟨h1,h2,h3⟩,h4⟩:=h
  have hlt:∀ ad,A=some ad→0 < n→ad.block < w.heap.size:=fun ad e hn=>by
    obtain ⟨ad',e',hc⟩:=h3 hn
    rw [e] at e'
    injection e' with e'
    subst e'
    obtain ⟨c,hl,hk,hcc⟩:=hc 0 _ (List.getElem?_eq_getElem (show 0 < xs.length by omega))
    have hl':0 < c.length:=by rw [hl];exact Nat.zero_lt_one
    have:=World.block_lt_of_cell? w _ (hcc 0 _ (List.getElem?_eq_getElem hl'))
    rwa [fr_addb] at this
  refine ⟨⟨h1,h2,fun hn=>?_⟩,fun ad e hn h5=>?_⟩
  · obtain ⟨ad,e,hc⟩:=h3 hn
    refine ⟨ad,e,fun j p hj=>?_⟩
    obtain ⟨c,hl,hk,hcc⟩:=hc j p hj
    exact ⟨c,hl,hk,fun i u hu=>hf.cell (hcc i u hu) (by rw [fr_addb];exact h4 ad e hn)⟩
  · rcases hf.own _ h5 with h6 | h6
    · exact h4 ad e hn h6
    · have:=hlt ad e hn;omega
theorem Fr.drewN {own own':Nat→Prop} {w w':World} (h:Fr own own' w w') (n:Nat):Fr own own' w (w'.drewN n):=h.trans (Fr.of_below _ (zz0 (Below.refl _ _) n))
theorem gb_below {base:Nat} {a w w':World} {row:Option Nat} (h:Below base a w) (hg:w.grownBy w' row) (hr:∀ k,row=some k→base≤k) (hs:base≤w.heap.size):Below base a w' :=
  ⟨hg.os.trans h.os,hg.tape.trans h.tape,hg.output.trans h.output,Nat.le_trans h.size hg.size,fun i hi=>(hg.block i (Nat.lt_of_lt_of_le hi hs) (fun he=>by have:=hr i he.symm;omega)).trans (h.block i hi)⟩
theorem size_alloc_le (w:World) (o:Obj):w.heap.size≤(w.alloc o).heap.size:=(zz2 (Below.refl w.heap.size w) o).size
theorem pw_cell_below' {w w1:World} (h:Below w.heap.size w w1) {a:Addr} {v:Value} (hc:w.cell? a=some v):w1.cell? a=some v:=pw_cell_below h hc
theorem frozen_new (W:World) (c:Array Value) (e i:Nat):(W.alloc (.cells c e)).frozen? ⟨W.heap.size,i,none⟩=false:=zz10 (blk_new W _) i
def dec2 (l:List Int) (a b:Nat):List Int:=(l.set a (wrap64 (rd l (a:Int) - 1))).set b (wrap64 (rd (l.set a (wrap64 (rd l (a:Int) - 1))) (b:Int) - 1))
theorem dec2_length (l:List Int) (a b:Nat):(dec2 l a b).length=l.length:=by simp [dec2]
def fuelM (n d a b:Nat):Prop:=1≤d∧(a+1 < n→(n - a) * (n+1)≤d+b)
theorem fuelM_b {n d a b:Nat} (h:fuelM n (d+1) a b) (ha:a+1 < n) (hb:b < n):fuelM n d a (b+1):=by
  have h2:=h.2 ha
  have h3:2 * (n+1)≤(n - a) * (n+1):=Nat.mul_le_mul_right _ (by omega)
  exact ⟨by omega,fun _=>by omega⟩
theorem fuelM_a {n d a:Nat} (h:fuelM n (d+1) a n) (ha:a+1 < n):fuelM n d (a+1) (a+2):=by
  have h2:=h.2 ha
  have h3:(n - a) * (n+1)=(n - (a+1)) * (n+1)+(n+1):=by rw [show n - a=(n - (a+1))+1 by omega,Nat.succ_mul]
  have h4:1 * (n+1)≤(n - (a+1)) * (n+1):=Nat.mul_le_mul_right _ (by omega)
  exact ⟨by omega,fun _=>by omega⟩
theorem wrapI (x:Int) (h0:-1000≤x) (h1:x≤1000):IntKind.i64.wrap x=x:=by rw [IntKind.wrap_i64];omega
def dlk (n:Nat):Nat→List Int→Nat→Nat→List S80→List (List S80)
  | 0,_,_,_,_=>[]
  | d+1,l,a,b,ps=>if a+1=n ∨ n=0 then (if n=0 ∨ rd l (a:Int)=0 then [ps] else []) else if b=n then (if rd l (a:Int)=0 then dlk n d l (a+1) (a+2) ps else []) else (if 0 < rd l (a:Int)∧0 < rd l (b:Int) then dlk n d (dec2 l a b) a (b+1) (ps ++ [⟨(a:Int),(b:Int)⟩]) else []) ++ dlk n d l a (b+1) ps
theorem R_own {α:Type} {d:Kd α} {e base:Nat} {own own1:Nat→Prop} {W W1:World} {v:Value} {xs:List α} (h:d.R e W base (fun k=>¬ own k) v xs) (hF:Fr own own1 W W1):d.R e W1 base (fun k=>¬ own1 k) v xs :=
  Kd.R_mono (hF.R (Kd.R_bound h) (fun k hk=>hk.1)) (fun k hk h1=>(hF.own k h1).elim hk.1 (fun h2=>by have:=hk.2.2.1;omega))
theorem fr_set {own:Nat→Prop} {b:Nat} {W:World} {u:Value} (hb:own b):Fr own own W (W.setCell ⟨b,0,none⟩ u) :=
  ⟨rfl,rfl,rfl,by simp [World.setCell],fun i _ hn=>Below.heap_setCell _ _ _ i (fun he=>hn (by rw [he];exact hb)),fun i h=>.inl h⟩
theorem fr_own {own own':Nat→Prop} {W W':World} (h:Fr own own W W') (h2:∀ i,own' i→own i ∨ W.heap.size≤i):Fr own own' W W' :=
  ⟨h.os,h.tape,h.output,h.size,h.block,h2⟩
def dstep (s:Nat × List (S80)) (q:List (S80)):Nat × List (S80):=(s.1+1,if wrap64 (s.1:Int)=0 then q else s.2)
theorem foldl_dstep:∀ (L:List (List (S80))) (m:Nat) (f:List (S80)),m+L.length≤1000000000→L.foldl dstep (m,f)=(m+L.length,if m=0 then L.headD f else f)
  | [],m,f,_=>by simp
  | q :: L,m,f,h=>by
    rw [List.length_cons] at h
    rw [List.foldl_cons,dstep,foldl_dstep L (m+1) _ (by omega),List.length_cons,if_neg (by omega),List.headD_cons]
    have hw:wrap64 (m:Int)=(m:Int):=by unfold wrap64;omega
    simp only [hw]
    congr 1
    · omega
    · by_cases hm:m=0
      · rw [if_pos hm,if_pos (by omega)]
      · rw [if_neg hm,if_neg (by omega)]
def ownD (Bc Bf:Nat) (v:Value):Nat→Prop:=fun i=>i=Bc ∨ i=Bf ∨ some i=v.ownBlock
/-- The count, the first list, each in its box. -/
structure DI (Bc Bf B0 : Nat) (s : Nat × List (S80)) (v : Value) (W : World) : Prop where
  cnt:W.heap[Bc]?=some (.cells #[.int .i64 (wrap64 (s.1:Int))] 3 (0,0))
  fst:W.heap[Bf]?=some (.cells #[v] 30 (0,0))
  row:k80.R 80 W B0 (fun k=>k ≠ Bc∧k ≠ Bf) v s.2
theorem DI.below {Bc Bf B0:Nat} {s:Nat × List (S80)} {v:Value} {W W':World} (h:DI Bc Bf B0 s v W) (hb:Below W.heap.size W W'):DI Bc Bf B0 s v W' :=
  ⟨zz11 h.cnt hb,zz11 h.fst hb,Kd.R_below h.row hb⟩
theorem DI.put {Bc Bf B0:Nat} {s:Nat × List (S80)} {v:Value} {W:World} (hne:Bc ≠ Bf) (h:DI Bc Bf B0 s v W) (f:List (S80)) (hf:s.2=f) :
    DI Bc Bf B0 (s.1+1,f) v (W.setCell ⟨Bc,0,none⟩ (.int .i64 (wrap64 ((s.1+1:Nat):Int)))) :=
  ⟨blk_set h.cnt 0 _,blk_far h.fst (p:=⟨Bc,0,none⟩) (fun he=>hne he.symm) _,by rw [← hf];exact Kd.R_far h.row (fun k hk=>hk.1) _⟩
theorem DI.own_lt {Bc Bf B0:Nat} {s:Nat × List (S80)} {v:Value} {W:World} (h:DI Bc Bf B0 s v W):∀ i,ownD Bc Bf v i→i < W.heap.size:=by
  rintro i (rfl | rfl | hi)
  · exact blk_lt h.cnt
  · exact blk_lt h.fst
  · exact Kd.R_lt h.row i hi.symm
theorem wrap_succD (s:Nat):wrap64 (wrap64 (s:Int)+1)=wrap64 ((s+1:Nat):Int):=by unfold wrap64;omega
set_option maxHeartbeats 8000000 in
set_option maxRecDepth 100000 in
theorem dlook_calls (n:Nat) (hn:n≤7) (Bc Bf B0:Nat) (hne:Bc ≠ Bf) :
    ∀ (d:Nat) (l:List Int) (a b:Nat) (ps:List (S80)) (s:Nat × List (S80)) (v:Value) (W:World) (Al Ap:Option Addr) (cl cp:Nat),fuelM n d a b→l.length=n→(b≤n ∨ n≤a+1)→(a+1≤n ∨ n=0)→a < b→ps.length+d≤1000 →
      DI Bc Bf B0 s v W→(Kd.int .i64).R 3 W B0 (fun k=>¬ ownD Bc Bf v k) (.slice Al n cl) l→k80.R 80 W B0 (fun k=>¬ ownD Bc Bf v k) (.slice Ap ps.length cp) ps→B0≤W.heap.size →
      Calls Try.prog 84 #[.int .i64 (n:Int),.slice Al n cl,.int .i64 (a:Int),.int .i64 (b:Int),.slice Ap ps.length cp,.pointer (some ⟨Bc,0,none⟩),.pointer (some ⟨Bf,0,none⟩)] W fun e W' =>
        e=.returned (.tuple #[])∧∃ v',DI Bc Bf B0 ((dlk n d l a b ps).foldl dstep s) v' W'∧Fr (ownD Bc Bf v) (ownD Bc Bf v') W W'
  | 0,l,a,b,ps,s,v,W,Al,Ap,cl,cp,hf,_,_,_,_,_,_,_,_,_=>absurd hf.1 (by omega)
  | d+1,l,a,b,ps,s,v,W,Al,Ap,cl,cp,hf,hl,hb,ha,hab,hpl,hs,hL,hP,hB0=>by
    have IH:=zz31 (dlook_calls n hn Bc Bf B0 hne d)
    have HS:=zz31 hs
    have HL:=zz31 hL
    have HP:=zz31 hP
    have HF:=zz31 hf
    have hwn:IntKind.i64.wrap ((n:Int) - 1)=(n:Int) - 1:=wrapI _ (by omega) (by omega)
    have f1:=zz9 hs.cnt 0
    have f2:=zz10 hs.cnt 0
    have f3:=zz9 hs.fst 0
    have f4:=zz10 hs.fst 0
    simp only [List.getElem?_toArray,List.getElem?_cons_zero] at f1 f3
    obtain ⟨m,hm⟩:∃ m,m=wrap64 (s.1:Int):=⟨_,rfl⟩
    rw [← hm] at f1
    have HM:=zz31 hm
    have HW:Aside0 (wrap64 (m+1)=wrap64 ((s.1+1:Nat):Int)):=⟨by rw [hm];exact wrap_succD s.1⟩
    clear hm hs hL hP hf
    by_cases hA:a+1=n ∨ n=0
    · by_cases hz:n=0 ∨ rd l (a:Int)=0
      · have hdl:dlk n (d+1) l a b ps=[ps]:=by rw [dlk,if_pos hA,if_pos hz]
        rw [hdl]
        clear hdl
        by_cases h0:n=0
        · clear hA hz hwn IH
          subst h0
          by_cases hz0:m=0
          · have hmz:(m == 0)=true:=beq_iff_eq.2 hz0
            have hd1:[ps].foldl dstep s=(s.1+1,ps):=by
              show dstep s ps=_
              rw [dstep,if_pos (by rw [← HM.out];exact hz0)]
            rw [hd1]
            clear hd1
            go_enter Try.func84,Try.ntmps84
            go_upto_region 4 with (first | ((with_reducible refine gate_dst (N := 37) rfl ?_); refine Kd.R_lit k80 _ 80 ?hg (N := 37) ?hd (xs := ([] : List (S80))) (inner := []) (ok := fun _ => True) (okp := fun _ => True) ?hr ?hp (fun _ hk => hk) trivial (Below.refl _ _) (Nat.le_refl _) (by simp) ?_; (case hd => rfl); (case hg => rfl); (case hr => first | (go_simp; done) | (go_simp; rfl)); (case hp => exact (Reps.none _ _)); intro v1 w1 ho hb hg_ hnew_; clear hg_ hnew_; have HO1 := zz31 ho; have HB1 := zz31 hb; clear ho hb) | ((with_reducible refine gate_builtin (b := .append) (xs := #[.tmp 37, .tmp 38]) rfl ?_); at_builtin; refine Kd.R_append_rows k80 (w0 := W) W.heap.size rfl (.tmp 37) (.tmp 38) 30 80 (.agg #[(.int .i64 0), (.int .i64 0)]) 16 rfl Try.underlying30 info80 rfl (by decide) (by omega) v1 [] ps _ _ _ (fun _ => True) (fun _ => False) rfl rfl HO1.out (Kd.C_below (Kd.R_reads' HP.out).2.2 HB1.out) (fun _ _ h => h) (fun _ h => h.elim) (fun _ _ => trivial) HB1.out HB1.out.size (by simp; omega) ?_; intro v2 w2 ho hb hg hat; rw [List.nil_append] at ho; obtain ⟨A2, c2, rfl⟩ := Kd.R_slice ho; have HO2 := zz31 ho; have HB2 := zz31 hb; have HX1 := zz31 (zz11 HS.out.cnt hb); have HX2 := zz31 (zz11 HS.out.fst hb); clear ho hb hg hat f1 f2 f3 f4; have f3 := zz9 HX2.out 0; have f4 := zz10 HX2.out 0; simp only [List.getElem?_toArray, List.getElem?_cons_zero] at f3) | (fail "no arm"))
            have hlt1:=blk_lt HS.out.cnt
            have hlt2:=blk_lt HS.out.fst
            have HX3:=zz31 (blk_far HX1.out (p:=⟨Bf,0,none⟩) hne (.slice A2 ps.length c2))
            have HX4:=zz31 (blk_set HX2.out 0 (.slice A2 ps.length c2))
            have f1:=zz9 HX3.out 0
            have f2:=zz10 HX3.out 0
            simp only [List.getElem?_toArray,List.getElem?_cons_zero] at f1
            rw [← HM.out] at f1
            clear f3 f4
            have HD:=zz31 (DI.put (s:=(s.1,ps)) hne ⟨HX3.out,HX4.out,Kd.R_far (Kd.R_mono (ok':=fun k=>k ≠ Bc∧k ≠ Bf) (Kd.R_lower (Kd.R_bound HO2.out) hB0) (fun k hk=>⟨by have:=hk.2.1;omega,by have:=hk.2.1;omega⟩)) (fun k hk=>hk.2) (.slice A2 ps.length c2)⟩ ps rfl)
            have HFr:Aside0 (Fr (ownD Bc Bf v) (ownD Bc Bf (.slice A2 ps.length c2)) W ((w2.setCell ⟨Bf,0,none⟩ (.slice A2 ps.length c2)).setCell ⟨Bc,0,none⟩ (.int .i64 (wrap64 ((s.1+1:Nat):Int))))) :=
              ⟨fr_own ((Fr.of_below _ HB2.out).trans ((fr_set (.inr (.inl rfl))).trans (fr_set (.inl rfl)))) (fun i hi=>by
                rcases hi with hi | hi | hi
                · exact .inl (.inl hi)
                · exact .inl (.inr (.inl hi))
                · exact .inr (Kd.R_base HO2.out i hi.symm))⟩
            have hw1:wrap64 ((s.1+1:Nat):Int)=1:=by rw [← HW.out,hz0];unfold wrap64;omega
            have h1:=HD.out
            have h2:=HFr.out
            rw [hw1] at h1 h2
            go_wp2
            exact bodyPost_ret (results_none rfl _ _ _) rfl ⟨rfl,_,h1,h2⟩
          · have hmz:(m == 0)=false:=beq_eq_false_iff_ne.2 hz0
            have hd1:[ps].foldl dstep s=(s.1+1,s.2):=by
              show dstep s ps=_
              rw [dstep,if_neg (by rw [← HM.out];exact hz0)]
            rw [hd1]
            clear hd1
            go_enter Try.func84,Try.ntmps84
            go_wp2
            rw [HW.out]
            exact bodyPost_ret (results_none rfl _ _ _) rfl ⟨rfl,v,DI.put hne HS.out s.2 rfl,fr_set (.inl rfl)⟩
        · have hAz:((a:Int) == (n:Int) - 1)=true:=beq_iff_eq.2 (by omega)
          have hnz:((n:Int) == 0)=false:=beq_eq_false_iff_ne.2 (by omega)
          obtain ⟨ad,e0,hcell⟩:=Kd.at_int (Kd.R_reads' HL.out).2.2 (a:Int) (by omega) (by omega)
          subst e0
          rw [Int.toNat_natCast,show rd l (a:Int)=0 by omega] at hcell
          by_cases hz0:m=0
          · have hmz:(m == 0)=true:=beq_iff_eq.2 hz0
            have hd1:[ps].foldl dstep s=(s.1+1,ps):=by
              show dstep s ps=_
              rw [dstep,if_pos (by rw [← HM.out];exact hz0)]
            rw [hd1]
            clear hd1
            go_enter Try.func84,Try.ntmps84
            go_upto_region 4 with (first | ((with_reducible refine gate_dst (N := 37) rfl ?_); refine Kd.R_lit k80 _ 80 ?hg (N := 37) ?hd (xs := ([] : List (S80))) (inner := []) (ok := fun _ => True) (okp := fun _ => True) ?hr ?hp (fun _ hk => hk) trivial (Below.refl _ _) (Nat.le_refl _) (by simp) ?_; (case hd => rfl); (case hg => rfl); (case hr => first | (go_simp; done) | (go_simp; rfl)); (case hp => exact (Reps.none _ _)); intro v1 w1 ho hb hg_ hnew_; clear hg_ hnew_; have HO1 := zz31 ho; have HB1 := zz31 hb; clear ho hb) | ((with_reducible refine gate_builtin (b := .append) (xs := #[.tmp 37, .tmp 38]) rfl ?_); at_builtin; refine Kd.R_append_rows k80 (w0 := W) W.heap.size rfl (.tmp 37) (.tmp 38) 30 80 (.agg #[(.int .i64 0), (.int .i64 0)]) 16 rfl Try.underlying30 info80 rfl (by decide) (by omega) v1 [] ps _ _ _ (fun _ => True) (fun _ => False) rfl rfl HO1.out (Kd.C_below (Kd.R_reads' HP.out).2.2 HB1.out) (fun _ _ h => h) (fun _ h => h.elim) (fun _ _ => trivial) HB1.out HB1.out.size (by simp; omega) ?_; intro v2 w2 ho hb hg hat; rw [List.nil_append] at ho; obtain ⟨A2, c2, rfl⟩ := Kd.R_slice ho; have HO2 := zz31 ho; have HB2 := zz31 hb; have HX1 := zz31 (zz11 HS.out.cnt hb); have HX2 := zz31 (zz11 HS.out.fst hb); clear ho hb hg hat f1 f2 f3 f4; have f3 := zz9 HX2.out 0; have f4 := zz10 HX2.out 0; simp only [List.getElem?_toArray, List.getElem?_cons_zero] at f3) | (fail "no arm"))
            have hlt1:=blk_lt HS.out.cnt
            have hlt2:=blk_lt HS.out.fst
            have HX3:=zz31 (blk_far HX1.out (p:=⟨Bf,0,none⟩) hne (.slice A2 ps.length c2))
            have HX4:=zz31 (blk_set HX2.out 0 (.slice A2 ps.length c2))
            have f1:=zz9 HX3.out 0
            have f2:=zz10 HX3.out 0
            simp only [List.getElem?_toArray,List.getElem?_cons_zero] at f1
            rw [← HM.out] at f1
            clear f3 f4
            have HD:=zz31 (DI.put (s:=(s.1,ps)) hne ⟨HX3.out,HX4.out,Kd.R_far (Kd.R_mono (ok':=fun k=>k ≠ Bc∧k ≠ Bf) (Kd.R_lower (Kd.R_bound HO2.out) hB0) (fun k hk=>⟨by have:=hk.2.1;omega,by have:=hk.2.1;omega⟩)) (fun k hk=>hk.2) (.slice A2 ps.length c2)⟩ ps rfl)
            have HFr:Aside0 (Fr (ownD Bc Bf v) (ownD Bc Bf (.slice A2 ps.length c2)) W ((w2.setCell ⟨Bf,0,none⟩ (.slice A2 ps.length c2)).setCell ⟨Bc,0,none⟩ (.int .i64 (wrap64 ((s.1+1:Nat):Int))))) :=
              ⟨fr_own ((Fr.of_below _ HB2.out).trans ((fr_set (.inr (.inl rfl))).trans (fr_set (.inl rfl)))) (fun i hi=>by
                rcases hi with hi | hi | hi
                · exact .inl (.inl hi)
                · exact .inl (.inr (.inl hi))
                · exact .inr (Kd.R_base HO2.out i hi.symm))⟩
            have hw1:wrap64 ((s.1+1:Nat):Int)=1:=by rw [← HW.out,hz0];unfold wrap64;omega
            have h1:=HD.out
            have h2:=HFr.out
            rw [hw1] at h1 h2
            go_wp2
            exact bodyPost_ret (results_none rfl _ _ _) rfl ⟨rfl,_,h1,h2⟩
          · have hmz:(m == 0)=false:=beq_eq_false_iff_ne.2 hz0
            have hd1:[ps].foldl dstep s=(s.1+1,s.2):=by
              show dstep s ps=_
              rw [dstep,if_neg (by rw [← HM.out];exact hz0)]
            rw [hd1]
            clear hd1
            go_enter Try.func84,Try.ntmps84
            go_wp2
            rw [HW.out]
            exact bodyPost_ret (results_none rfl _ _ _) rfl ⟨rfl,v,DI.put hne HS.out s.2 rfl,fr_set (.inl rfl)⟩
      · have hdl:dlk n (d+1) l a b ps=[]:=by rw [dlk,if_pos hA,if_neg hz]
        rw [hdl]
        clear hdl
        have hAz:((a:Int) == (n:Int) - 1)=true:=beq_iff_eq.2 (by omega)
        have hnz:((n:Int) == 0)=false:=beq_eq_false_iff_ne.2 (by omega)
        obtain ⟨ad,e0,hcell⟩:=Kd.at_int (Kd.R_reads' HL.out).2.2 (a:Int) (by omega) (by omega)
        subst e0
        rw [Int.toNat_natCast] at hcell
        obtain ⟨xa,hxa⟩:∃ xa,xa=rd l (a:Int):=⟨_,rfl⟩
        rw [← hxa] at hcell
        have hxz:(xa == 0)=false:=beq_eq_false_iff_ne.2 (by omega)
        clear hxa
        go_enter Try.func84,Try.ntmps84
        go_wp2
        exact bodyPost_ret (results_none rfl _ _ _) rfl ⟨rfl,v,HS.out,Fr.refl _ _⟩
    · have hA2:a+1 < n:=by omega
      have hAz:((a:Int) == (n:Int) - 1)=false:=beq_eq_false_iff_ne.2 (by omega)
      have hnz:((n:Int) == 0)=false:=beq_eq_false_iff_ne.2 (by omega)
      have hbn:b≤n:=by omega
      obtain ⟨ad,e0,hcell⟩:=Kd.at_int (Kd.R_reads' HL.out).2.2 (a:Int) (by omega) (by omega)
      subst e0
      rw [Int.toNat_natCast] at hcell
      clear f1 f2 f3 f4
      have REC:Aside0 (∀ (s1:Nat × List (S80)) (v1:Value) (W1:World) (a' b':Nat),Fr (ownD Bc Bf v) (ownD Bc Bf v1) W W1→DI Bc Bf B0 s1 v1 W1→fuelM n d a' b'→(b'≤n ∨ n≤a'+1)→(a'+1≤n ∨ n=0)→a' < b' →
          Calls Try.prog 84 #[.int .i64 (n:Int),.slice (some ad) n cl,.int .i64 (a':Int),.int .i64 (b':Int),.slice Ap ps.length cp,.pointer (some ⟨Bc,0,none⟩),.pointer (some ⟨Bf,0,none⟩)] W1 fun e W' =>
            e=.returned (.tuple #[])∧∃ v',DI Bc Bf B0 ((dlk n d l a' b' ps).foldl dstep s1) v' W'∧Fr (ownD Bc Bf v) (ownD Bc Bf v') W W') :=
        ⟨fun s1 v1 W1 a' b' hF hI1 hf1 h1 h2 h3=>(IH.out l a' b' ps s1 v1 W1 (some ad) Ap cl cp hf1 hl h1 h2 h3 (by omega) hI1 (R_own HL.out hF) (R_own HP.out hF) (Nat.le_trans hB0 hF.size)).mono fun e W' ⟨h1,own',h2,h3⟩=>⟨h1,own',h2,hF.trans h3⟩⟩
      by_cases hB:b=n
      · have hBz:((b:Int) == (n:Int))=true:=beq_iff_eq.2 (by omega)
        have HF1:=zz31 (show fuelM n d (a+1) (a+2) from fuelM_a (by have:=HF.out;rw [hB] at this;exact this) hA2)
        obtain ⟨xa,hxa⟩:∃ xa,xa=rd l (a:Int):=⟨_,rfl⟩
        rw [← hxa] at hcell
        by_cases hz:xa=0
        · have hdl:dlk n (d+1) l a b ps=dlk n d l (a+1) (a+2) ps:=by rw [dlk,if_neg hA,if_pos hB,if_pos (by omega)]
          rw [hdl]
          clear hdl hxa
          have hxz:(xa == 0)=true:=beq_iff_eq.2 hz
          go_enter Try.func84,Try.ntmps84
          go_wp2_with (go_at_call 84;refine (REC.out s v W (a+1) (a+2) (Fr.refl _ _) HS.out HF1.out (by omega) (by omega) (by omega)).mono ?_;rintro e W1 ⟨rfl,v1,h1,h2⟩)
          exact bodyPost_ret (results_none rfl _ _ _) rfl ⟨rfl,v1,h1,h2⟩
        · have hdl:dlk n (d+1) l a b ps=[]:=by rw [dlk,if_neg hA,if_pos hB,if_neg (by omega)]
          rw [hdl]
          clear hdl hxa REC
          have hxz:(xa == 0)=false:=beq_eq_false_iff_ne.2 hz
          go_enter Try.func84,Try.ntmps84
          go_wp2
          exact bodyPost_ret (results_none rfl _ _ _) rfl ⟨rfl,v,HS.out,Fr.refl _ _⟩
      · have hBz:((b:Int) == (n:Int))=false:=beq_eq_false_iff_ne.2 (by omega)
        have hbn2:b < n:=by omega
        have HF1:=zz31 (fuelM_b HF.out hA2 hbn2)
        obtain ⟨xa,hxa⟩:∃ xa,xa=rd l (a:Int):=⟨_,rfl⟩
        rw [← hxa] at hcell
        have HXA:=zz31 hxa
        clear hxa
        obtain ⟨ad2,e2,hcell2⟩:=Kd.at_int (Kd.R_reads' HL.out).2.2 (b:Int) (by omega) (by omega)
        injection e2 with e2
        subst e2
        rw [Int.toNat_natCast] at hcell2
        obtain ⟨xb,hxb⟩:∃ xb,xb=rd l (b:Int):=⟨_,rfl⟩
        rw [← hxb] at hcell2
        have HXB:=zz31 hxb
        clear hxb
        by_cases hp:0 < xa∧0 < xb
        · have hpa2:xa > 0:=hp.1
          have hpb2:xb > 0:=hp.2
          have hdl:dlk n (d+1) l a b ps=dlk n d (dec2 l a b) a (b+1) (ps ++ [⟨(a:Int),(b:Int)⟩]) ++ dlk n d l a (b+1) ps:=by rw [dlk,if_neg hA,if_neg hB,if_pos (by rw [← HXA.out,← HXB.out];exact hp)]
          rw [hdl,List.foldl_append]
          clear hdl hp
          have cL:Aside0 (Calls Try.prog 59 #[.slice (some ad) n cl] W fun e w'=>∃ v,e=.returned v∧Kd.R (Kd.int .i64) 3 w' W.heap.size (fun _=>True) v l∧Below W.heap.size W w'):=⟨by
            have h:=spec_l1Own.calls (some ad) cl l l W (Kd.R_reads' HL.out).2.2 (by have:=(Kd.R_reads' HL.out).2.1;omega) (by unfold spec_l1Own.f;simp only [Option.bind_some,List.length_nil,Nat.zero_add,if_pos (show l.length < 17592186044416 by omega),List.nil_append])
            rw [hl] at h
            exact h⟩
          have HD2:=zz31 (show dec2 l a b=(l.set a (wrap64 (xa - 1))).set b (wrap64 (xb - 1)) from by
            unfold dec2
            rw [← HXA.out,HXB.out]
            congr 2
            unfold rd
            rw [Int.toNat_natCast,List.getD_eq_getElem?_getD,List.getD_eq_getElem?_getD,List.getElem?_set_ne (by omega)])
          go_enter Try.func84,Try.ntmps84
          go_upto_region 10 with (first | (go_at_call 59; refine cL.out.mono ?_; rintro e w4 ⟨v4, rfl, ho4, hb4⟩; have HB4 := zz31 hb4; have HO4 := zz31 ho4; clear ho4 hb4) | (fail "no arm"))
          have HR5:Kd.R (Kd.int .i64) 3 w4 W.heap.size (fun k=>W.heap.size≤k) v4 l:=Kd.R_mono (Kd.R_bound HO4.out) (fun k hk=>hk.2.1)
          obtain ⟨g4,c4,rfl,gb4,gl4,cl4,hg4⟩:=Kd.R_form HR5 (show 0 < l.length by omega)
          obtain ⟨hx5,hf5⟩:=Kd.R_celln 0 HR5 (a:Int) (by omega) (by omega)
          rw [show rdOf 0 l (a:Int)=xa from HXA.out.symm,Int.toNat_natCast] at hx5
          rw [Int.toNat_natCast] at hf5
          have HR6:=Kd.R_putn HR5 (a:Int) (wrap64 (xa - 1))
          rw [Int.toNat_natCast] at HR6
          have HB6:=zz3 (g:=g4) (j:=a) (v:=.int .i64 (wrap64 (xa - 1))) HB4.out gb4
          obtain ⟨hx6,hf6⟩:=Kd.R_celln 0 HR6 (b:Int) (by omega) (by omega)
          rw [show rdOf 0 (l.set a (wrap64 (xa - 1))) (b:Int)=xb from by
            rw [HXB.out]
            unfold rd rdOf
            rw [Int.toNat_natCast,List.getD_eq_getElem?_getD,List.getD_eq_getElem?_getD,List.getElem?_set_ne (by omega)],Int.toNat_natCast] at hx6
          rw [Int.toNat_natCast] at hf6
          have HR7:=Kd.R_putn HR6 (b:Int) (wrap64 (xb - 1))
          rw [Int.toNat_natCast] at HR7
          have HB7:=zz3 (g:=g4) (j:=b) (v:=.int .i64 (wrap64 (xb - 1))) HB6 gb4
          have HR7:=zz31 HR7
          have HB7:=zz31 HB7
          clear HR6 HB6 HR5
          go_upto_region 11 with (fail)
          generalize hw6:w4.setCell { block:=g4,off:=a } (Value.int IntKind.i64 (wrap64 (xa - 1)))=w6 at *
          clear hx5 hf5 hw6
          go_upto_region 12 with (fail)
          generalize hw7:w6.setCell { block:=g4,off:=b } (Value.int IntKind.i64 (wrap64 (xb - 1)))=w7 at *
          clear hx6 hf6 hw7
          rw [hl]
          have HPC:=zz31 (Kd.C_below (Kd.R_reads' HP.out).2.2 HB7.out)
          have HL1:=zz31 (show (ps ++ [(⟨(a:Int),(b:Int)⟩:S80)]).length=ps.length+1 from by rw [List.length_append,List.length_singleton])
          have GL10:Aside0 (∀ w10,Below w7.heap.size w7 w10→(Kd.int .i64).R 3 w10 B0 (fun k=>¬ ownD Bc Bf v k) (.slice (some ⟨g4,0,none⟩) n c4) (dec2 l a b)):=⟨fun w10 hb=>by
            have h7:=HR7.out
            rw [hl] at h7
            rw [HD2.out]
            exact Kd.R_below (Kd.R_mono (Kd.R_lower h7 hB0) (fun k hk h=>by have:=HS.out.own_lt k h;omega)) hb⟩
          have GP10:Aside0 (∀ w10 u,k80.R 80 w10 w7.heap.size (fun _=>True) u (ps ++ [(⟨(a:Int),(b:Int)⟩:S80)])→k80.R 80 w10 B0 (fun k=>¬ ownD Bc Bf v k) u (ps ++ [(⟨(a:Int),(b:Int)⟩:S80)])):=⟨fun w10 u h =>
            Kd.R_mono (Kd.R_lower (Kd.R_bound h) (Nat.le_trans hB0 HB7.out.size)) (fun k hk h2=>by have h3:=HS.out.own_lt k h2;have h4:=HB7.out.size;have h5:=hk.2.1;omega)⟩
          go_wp2_with (first | ((with_reducible refine gate_dst (N := 95) rfl ?_); refine Kd.R_lit k80 _ 80 ?hg (N := 95) ?hd (xs := ([] : List (S80))) (inner := []) (ok := fun _ => True) (okp := fun _ => True) ?hr ?hp (fun _ hk => hk) trivial (Below.refl _ _) (Nat.le_refl _) (by simp) ?_; (case hd => rfl); (case hg => rfl); (case hr => first | (go_simp; done) | (go_simp; rfl)); (case hp => exact (Reps.none _ _)); intro v8 w8 ho hb hg_ hnew_; clear hg_ hnew_; have HO8 := zz31 ho; have HB8 := zz31 hb; clear ho hb) | ((with_reducible refine gate_builtin (b := .append) (xs := #[.tmp 95, .tmp 96]) rfl ?_); at_builtin; refine Kd.R_append_rows k80 (w0 := w7) w7.heap.size rfl (.tmp 95) (.tmp 96) 30 80 (.agg #[(.int .i64 0), (.int .i64 0)]) 16 rfl Try.underlying30 info80 rfl (by decide) (by omega) v8 [] ps _ _ _ (fun _ => True) (fun _ => False) rfl rfl HO8.out (Kd.C_below HPC.out HB8.out) (fun _ _ h => h) (fun _ h => h.elim) (fun _ _ => trivial) HB8.out HB8.out.size (by simp; omega) ?_; intro v9 w9 ho hb hg hat; rw [List.nil_append] at ho; have HO9 := zz31 ho; have HB9 := zz31 hb; clear ho hb hg hat) | ((with_reducible refine gate_builtin (b := .append) (xs := #[.tmp 97, .tmp 101]) rfl ?_); at_builtin; refine Kd.R_append k80 (w0 := w7) w7.heap.size rfl (.tmp 97) (.tmp 101) 30 80 (.agg #[(.int .i64 0), (.int .i64 0)]) 16 rfl Try.underlying30 info80 rfl (by decide) (by omega) v9 ps (⟨(a : Int), (b : Int)⟩ : S80) [.int .i64 (a : Int), .int .i64 (b : Int)] (fun _ => True) (fun _ => False) rfl rfl (k80_mkM _ _ _ (⟨(a : Int), (b : Int)⟩ : S80)) (fun _ hk => hk.elim) (fun _ _ => trivial) HO9.out HB9.out HB9.out.size (by omega) ?_; intro v10 w10 ho hb hg hat; obtain ⟨A10, c10, rfl⟩ := Kd.R_slice ho; have HO10 := zz31 ho; have HB10 := zz31 hb; clear ho hb hg hat) | (fail "no arm"))
          go_at_call 84
          rw [← HL1.out]
          have HX:=IH.out (dec2 l a b) a (b+1) (ps ++ [(⟨(a:Int),(b:Int)⟩:S80)]) s v w10 (some ⟨g4,0,none⟩) A10 c4 c10 HF1.out ((dec2_length _ _ _).trans hl) (by omega) (by omega) (by omega) (by rw [HL1.out];omega) (HS.out.below (zz4 HB7.out HB10.out)) (GL10.out w10 HB10.out) (GP10.out w10 _ HO10.out) (Nat.le_trans hB0 (zz4 HB7.out HB10.out).size)
          refine HX.mono ?_
          rintro e W1 ⟨rfl,v1,h1,h2⟩
          have hq1:b+1≤n ∨ n≤a+1:=by omega
          have HY:=REC.out _ v1 W1 a (b+1) ((Fr.of_below _ (zz4 HB7.out HB10.out)).trans h2) h1 HF1.out hq1 (by omega) (by omega)
          clear h1 h2 HX REC
          go_wp2_with (go_at_call 84;refine HY.mono ?_;rintro e W2 ⟨rfl,v2,h1,h2⟩)
          exact bodyPost_end (results_none rfl _ _ _) rfl ⟨rfl,v2,h1,h2⟩
        · have hdl:dlk n (d+1) l a b ps=dlk n d l a (b+1) ps:=by rw [dlk,if_neg hA,if_neg hB,if_neg (by rw [← HXA.out,← HXB.out];exact hp),List.nil_append]
          rw [hdl]
          clear hdl
          by_cases hpa:0 < xa
          · have hpa2:xa > 0:=hpa
            have hpb2:¬ xb > 0:=fun h=>hp ⟨hpa,h⟩
            clear hp
            go_enter Try.func84,Try.ntmps84
            go_wp2_with (go_at_call 84;refine (REC.out s v W a (b+1) (Fr.refl _ _) HS.out HF1.out (by omega) (by omega) (by omega)).mono ?_;rintro e W1 ⟨rfl,v1,h1,h2⟩)
            exact bodyPost_end (results_none rfl _ _ _) rfl ⟨rfl,v1,h1,h2⟩
          · have hpa2:¬ xa > 0:=hpa
            clear hp
            go_enter Try.func84,Try.ntmps84
            go_wp2_with (go_at_call 84;refine (REC.out s v W a (b+1) (Fr.refl _ _) HS.out HF1.out (by omega) (by omega) (by omega)).mono ?_;rintro e W1 ⟨rfl,v1,h1,h2⟩)
            exact bodyPost_end (results_none rfl _ _ _) rfl ⟨rfl,v1,h1,h2⟩
def lookL (l:List Int):List (List (S80)):=dlk l.length 100 l 0 1 []
def spec_deAll.f (l0:List Int):Option (Int × List (S80)):=if l0.length≤7∧(lookL l0).length≤1000000000 then some (((lookL l0).length:Int),(lookL l0).headD []) else none
set_option maxHeartbeats 4000000 in
set_option maxRecDepth 100000 in
theorem spec_deAll.calls (A0:Option Addr) (c0:Nat) (l0:List Int) (r1:Int) (r2:List (S80)) (w:World) (hr0:Kd.C (Kd.int .i64) w A0 l0.length l0) (hc0:l0.length≤c0) (h:spec_deAll.f l0=some (r1,r2)) :
    Calls Try.prog 47 #[.slice A0 l0.length c0] w fun e w'=>∃ v0_:Value,e=.returned (.tuple #[.int .i64 r1,v0_])∧Kd.R k80 80 w' w.heap.size (fun _=>True) v0_ r2∧Below w.heap.size w w':=by
  unfold spec_deAll.f at h
  by_cases hb:l0.length≤7∧(lookL l0).length≤1000000000
  case neg=>rw [if_neg hb] at h;exact absurd h (by simp)
  rw [if_pos hb] at h
  simp only [Option.some.injEq,Prod.mk.injEq] at h
  obtain ⟨h1,h2⟩:=h
  have hfold:=foldl_dstep (lookL l0) 0 [] (by omega)
  rw [if_pos rfl,h2,Nat.zero_add] at hfold
  have e1:(w.alloc (.cells #[.int .i64 0] 3)).heap.size=w.heap.size+1:=by simp
  have b0:=blk_new w (.cells #[.int .i64 0] 3)
  have b1:=blk_new (w.alloc (.cells #[.int .i64 0] 3)) (.cells #[.slice none 0 0] 30)
  rw [e1] at b1
  have HX0:=zz31 (zz8 b0 (.cells #[.slice none 0 0] 30))
  have HX1:=zz31 b1
  have HB2:Aside0 (Below w.heap.size w ((w.alloc (.cells #[.int .i64 0] 3)).alloc (.cells #[.slice none 0 0] 30))):=⟨zz2 (zz2 (Below.refl _ _) _) _⟩
  have HCC:=zz31 (Kd.C_below hr0 HB2.out)
  have hf0:=zz10 HX0.out 0
  have hw1:wrap64 (((lookL l0).length:Nat):Int)=r1:=by rw [← h1];unfold wrap64;omega
  clear b0 b1 e1 hr0
  have CG:Aside0 (∀ (w3:World) (A3:Option Addr) (c3:Nat),Below ((w.alloc (.cells #[.int .i64 0] 3)).alloc (.cells #[.slice none 0 0] 30)).heap.size ((w.alloc (.cells #[.int .i64 0] 3)).alloc (.cells #[.slice none 0 0] 30)) w3→Kd.R (Kd.int .i64) 3 w3 ((w.alloc (.cells #[.int .i64 0] 3)).alloc (.cells #[.slice none 0 0] 30)).heap.size (fun _=>True) (.slice A3 l0.length c3) l0 →
      Calls Try.prog 84 #[.int .i64 (l0.length:Int),.slice A3 l0.length c3,.int .i64 0,.int .i64 1,.slice none 0 0,.pointer (some ⟨w.heap.size,0,none⟩),.pointer (some ⟨w.heap.size+1,0,none⟩)] w3 fun e W' =>
        e=.returned (.tuple #[])∧W'.cell? ⟨w.heap.size,0,none⟩=some (.int .i64 r1)∧∃ v,W'.cell? ⟨w.heap.size+1,0,none⟩=some v∧Kd.R k80 80 W' w.heap.size (fun _=>True) v r2∧Below w.heap.size w W'):=⟨fun w3 A3 c3 hb3 hr3=>by
    have hs2:((w.alloc (.cells #[.int .i64 0] 3)).alloc (.cells #[.slice none 0 0] 30)).heap.size=w.heap.size+1+1:=by simp
    have hown:∀ i,ownD w.heap.size (w.heap.size+1) (.slice none 0 0) i→i < w.heap.size+1+1:=by
      rintro i (rfl | rfl | hi)
      · omega
      · omega
      · simp [Value.ownBlock] at hi
    have hB3:=HB2.out.trans (hb3.mono (by rw [hs2];omega))
    refine (dlook_calls l0.length hb.1 w.heap.size (w.heap.size+1) w.heap.size (by omega) 100 l0 0 1 [] (0,[]) (.slice none 0 0) w3 A3 none c3 0 ⟨by omega,fun _=>by have:=Nat.mul_le_mul (show l0.length - 0≤7 by omega) (show l0.length+1≤8 by omega);omega⟩ rfl (by omega) (by omega) (by omega) (by simp)
      ⟨by rw [show wrap64 ((0:Nat):Int)=0 by unfold wrap64;omega];exact zz11 HX0.out hb3,zz11 HX1.out hb3,Kd.R_nil _ _ _ _ _⟩ (Kd.R_mono (Kd.R_lower (Kd.R_bound hr3) (by rw [hs2];omega)) (fun k hk h=>by have h3:=hown k h;have h4:=hk.2.1;rw [hs2] at h4;omega)) (Kd.R_nil _ _ _ _ _) hB3.size).mono ?_
    rintro e W' ⟨g1,v,g2,g3⟩
    rw [show dlk l0.length 100 l0 0 1 []=lookL l0 from rfl,hfold] at g2
    refine ⟨g1,?_,v,zz9 g2.fst 0,Kd.R_mono g2.row (fun _ _=>trivial),hB3.trans (g3.below hB3.size (fun i hi=>?_))⟩
    · have:=zz9 g2.cnt 0
      rw [hw1] at this
      exact this
    · rcases hi with rfl | rfl | hi
      · exact Nat.le_refl _
      · omega
      · simp [Value.ownBlock] at hi⟩
  have cO:Aside0 (∀ W1,Kd.C (Kd.int .i64) W1 A0 l0.length l0→Calls Try.prog 59 #[.slice A0 l0.length c0] W1 fun e w'=>∃ v0_:Value,e=.returned v0_∧Kd.R (Kd.int .i64) 3 w' W1.heap.size (fun _=>True) v0_ l0∧Below W1.heap.size W1 w'):=⟨fun W1 h=>spec_l1Own.calls A0 c0 l0 l0 W1 h hc0 (by unfold spec_l1Own.f;simp only [Option.bind_some,List.length_nil,Nat.zero_add,if_pos (show l0.length < 17592186044416 by omega),List.nil_append])⟩
  clear h1 h2 hfold hw1 hb
  go_enter Try.func47,Try.ntmps47
  go_wp2_with (first | (go_at_call 59; refine (cO.out _ HCC.out).mono ?_; rintro e w3 ⟨v3, rfl, ho, hb⟩; obtain ⟨A3, c3, rfl⟩ := Kd.R_slice ho; have CL := zz31 (CG.out w3 A3 c3 hb ho); clear ho hb) | (go_at_call 84; refine CL.out.mono ?_; rintro e w4 ⟨rfl, hc1, v, hc2, hR, hB⟩; have HR := zz31 hR; have HB := zz31 hB; clear hR hB) | (fail "no arm"))
  repeat (go_quiet (fail);try go_wp2)
  refine bodyPost_ret (results_tmp2 rfl _ _ _) rfl ?_
  exact ⟨v,rfl,Kd.R_below HR.out (by repeat first | exact Below.refl _ _ | apply zz0 | apply below_drew),HB.out.trans (by repeat first | exact (Below.refl _ _).mono HB.out.size | apply zz0 | apply below_drew)⟩

/-! ### impl_isFew: function 48 -/
def impl_isFew.f (l0:List Int):Option (Bool):=(impl_IsNumbers.f l0).bind fun t124=>(if t124=true then (some (decide ((l0.length:Int)≤7))) else (some false))
set_option maxHeartbeats 8000000 in
set_option maxRecDepth 100000 in
theorem impl_isFew.calls (A0:Option Addr) (c0:Nat) (l0:List Int) (r:Bool) (w:World) (hr0:Kd.C (Kd.int .i64) w A0 l0.length l0) (hc0:l0.length≤c0) (h:impl_isFew.f l0=some r) :
  Calls Try.prog 48 #[.slice A0 l0.length c0] w fun e w'=>e=.returned (.bool r)∧Below w.heap.size w w':=by
 have HR0:=zz31 hr0
 have HC0:=zz31 hc0
 clear hr0 hc0
 have HB:=zz31 (Below.refl w.heap.size w)
 have H:((impl_IsNumbers.f l0).bind fun t124=>(if t124=true then (some (decide ((l0.length:Int)≤7))) else (some false)))=some r:=h
 clear h
 replace H:=zz30.mp H
 obtain ⟨t124,A20,H⟩:=H
 replace H:(if t124=true then (some (decide ((l0.length:Int)≤7))) else (some false))=some r:=H
 have A2:=zz31 A20
 clear A20
 by_cases c3:t124=true
 ·subst c3
  have H1:(some (decide ((l0.length:Int)≤7)))=some r:=by rw [if_pos rfl] at H;exact H
  clear H
  have H:=H1
  clear H1
  obtain rfl:=Option.some.inj H
  go_enter Try.func48,Try.ntmps48
  go_wp2_with (first | ((with_reducible refine gate_callee (f:=62) rfl ?_);refine goesL_ (some 4) rfl rfl Try.func62 (by kernel_rfl) rfl #[.slice A0 l0.length c0] rfl (by (try simp only [zz26,zz27,zz28]);first | done | rfl | (simp only [zz24,zz25];rfl)) ?_;(with_reducible refine (impl_IsNumbers.calls _ _ l0 true _ ?side1 ?side2 A2.out).mono ?_);(case side1=>repeat (first | exact HR0.out | (with_reducible refine zz18 ?_ _) | (with_reducible refine zz19 ?_ _) | (with_reducible refine zz20 ?_)));(case side2=>exact HC0.out);rintro e w4 ⟨rfl,hb⟩;refine ⟨_,rfl,?_⟩;have n0_:=zz31 (zz4 (by repeat first | exact HB.out | apply zz2 | apply zz0 | apply zz1) hb);clear HB;have HB:=n0_;clear n0_;(try clear hb);(try clear hb2);(try clear hk);(try clear hi)))
  go_ret
  exact ⟨by first | rfl | (simp [errW_none,errW_some] <;> rfl) | (simp [*,errW_none,errW_some] <;> rfl),by repeat first | exact HB.out | apply zz2 | apply zz0 | apply zz1⟩
 ·replace c3:=Bool.eq_false_iff.mpr c3
  subst c3
  have H1:(some false)=some r:=by rw [if_neg (show ¬ (false=true) by decide)] at H;exact H
  clear H
  have H:=H1
  clear H1
  obtain rfl:=Option.some.inj H
  go_enter Try.func48,Try.ntmps48
  go_wp2_with (first | ((with_reducible refine gate_callee (f:=62) rfl ?_);refine goesL_ (some 4) rfl rfl Try.func62 (by kernel_rfl) rfl #[.slice A0 l0.length c0] rfl (by (try simp only [zz26,zz27,zz28]);first | done | rfl | (simp only [zz24,zz25];rfl)) ?_;(with_reducible refine (impl_IsNumbers.calls _ _ l0 false _ ?side1 ?side2 A2.out).mono ?_);(case side1=>repeat (first | exact HR0.out | (with_reducible refine zz18 ?_ _) | (with_reducible refine zz19 ?_ _) | (with_reducible refine zz20 ?_)));(case side2=>exact HC0.out);rintro e w5 ⟨rfl,hb⟩;refine ⟨_,rfl,?_⟩;have n0_:=zz31 (zz4 (by repeat first | exact HB.out | apply zz2 | apply zz0 | apply zz1) hb);clear HB;have HB:=n0_;clear n0_;(try clear hb);(try clear hb2);(try clear hk);(try clear hi)))
  go_ret
  exact ⟨by first | rfl | (simp [errW_none,errW_some] <;> rfl) | (simp [*,errW_none,errW_some] <;> rfl),by repeat first | exact HB.out | apply zz2 | apply zz0 | apply zz1⟩

/-! ### impl_table_uint16: function 87 (a contract of our own) -/
def impl_table_uint16.f (l0:List Int):Option (List Int):=if l0.length≤1000000000 then some l0 else none
set_option maxHeartbeats 1000000 in
set_option maxRecDepth 100000 in
theorem impl_table_uint16.calls (A0:Option Addr) (c0:Nat) (l0:List Int) (r:List Int) (w:World) (hr0:Kd.C (Kd.int .u16) w A0 l0.length l0) (hc0:l0.length≤c0) (h:impl_table_uint16.f l0=some r) :
  Calls Try.prog 87 #[.slice A0 l0.length c0] w fun e w'=>∃ v0_:Value,e=.returned (v0_)∧Kd.R (Kd.int .u16) 77 w' w.heap.size (fun _=>True) v0_ r∧Below w.heap.size w w':=by
 unfold impl_table_uint16.f at h
 by_cases hb:l0.length≤1000000000
 case neg=>rw [if_neg hb] at h;exact absurd h (by simp)
 rw [if_pos hb] at h
 obtain rfl:=Option.some.inj h
 clear h
 have HR:=zz31 hr0
 have HBIG:=zz31 hb
 clear hb hc0
 cases A0 with
 | none =>
  have h0:l0=[]:=by
   rcases Nat.eq_zero_or_pos l0.length with hz | hz
   ·exact List.eq_nil_of_length_eq_zero hz
   ·obtain ⟨ad,e,_⟩:=hr0.2.2 hz
    cases e
  subst h0
  clear hr0
  have heq:∀ W:World,(binOp .eql 51 (.slice none 0 c0) (.slice none 0 0)).run Try.prog W=.ok (.bool true) W:=fun W=>Lib.run_eql_slice_nil_nil W 0 c0 Try.underlying51
  go_enter Try.func87,Try.ntmps87
  go_wp2
  go_ret
  exact ⟨_,rfl,Kd.R_nil _ _ _ _ _,Below.refl _ _⟩
 | some ad =>
  clear hr0
  have heq:∀ W:World,(binOp .eql 51 (.slice (some ad) l0.length c0) (.slice none 0 0)).run Try.prog W=.ok (.bool false) W:=fun W=>Lib.run_eql_slice_some_nil W ad l0.length c0 Try.underlying51
  go_enter Try.func87,Try.ntmps87
  go_wp2_with (first | ((with_reducible refine gate_dst (N:=5) rfl ?_);refine Kd.R_lit (Kd.int .u16) (w0:=w) w.heap.size 77 ?hg (N:=5) ?hd (xs:=([]:List Int)) (inner:=[]) (ok:=fun _=>True) (okp:=fun _=>True) ?hr ?hp (fun _ hk=>hk) trivial (Below.refl _ _) (Nat.le_refl _) (by simp) ?_;(case hd=>rfl);(case hg=>rfl);(case hr=>first | (go_simp;done) | (go_simp;rfl));(case hp=>exact (Reps.none _ _));intro v3 w3 ho hb hg_ hnew_;clear hg_ hnew_;have HO:=zz31 ho;have HB:=zz31 hb;clear ho hb) | ((with_reducible refine gate_dst (N:=7) rfl ?_);refine Kd.R_append_rows (Kd.int .u16) (w0:=w) w.heap.size rfl (.tmp 5) (.tmp 6) 51 77 (.int .u16 0) 2 rfl Try.underlying51 info77 rfl (by decide) (by omega) v3 [] l0 _ _ _ (fun _=>True) (fun _=>False) rfl rfl HO.out (Kd.C_below HR.out HB.out) ?aR (fun _ h=>h.elim) (fun _ _=>trivial) HB.out HB.out.size ?aL ?_;(case aR=>exact (fun _ _ h=>h));(case aL=>(have:=HBIG.out;simp;omega));intro v4 w4 ho4 hb4 hg4 hn4;clear hg4 hn4;have HO4:=zz31 ho4;have HB4:=zz31 hb4;clear ho4 hb4))
  go_ret
  exact ⟨_,rfl,by simpa using HO4.out,HB4.out⟩

-- NOT PRINTED: function 86 (impl_made_1)

/-! ### impl_made: function 50 (lemmas of our own) -/
def mkl (put:List Int→Nat→Nat→List Int) (n:Nat):Nat→List Int→List Int→Nat→Nat→List (List Int)
 | 0,_,_,_,_=>[]
 | d+1,t,l,a,b=>if n≤a+1 then (if 0 < n∧rd l ((n:Int) - 1) ≠ 0 then [] else [t]) else if b=n then (if rd l (a:Int) ≠ 0 then [] else mkl put n d t l (a+1) (a+2)) else if rd l (a:Int) > (n:Int) - (b:Int) then [] else (if 0 < rd l (a:Int)∧0 < rd l (b:Int) then mkl put n d (put t a b) (dec2 l a b) a (b+1) else []) ++ mkl put n d t l a (b+1)
/-- put as a function: what the table is after. -/
def putM (t:List Int) (a b:Nat):List Int:=(impl_table_put.f t (a:Int) (b:Int)).getD []
theorem put_some (t:List Int) (a b:Nat) (ha:a < t.length) (hb:b < t.length):impl_table_put.f t (a:Int) (b:Int)=some (putM t a b)∧(putM t a b).length=t.length:=by
 have e:∃ r,impl_table_put.f t (a:Int) (b:Int)=some r∧r.length=t.length:=by
  unfold impl_table_put.f
  rw [if_pos (by omega),if_pos (by omega),if_pos (by omega),Option.bind_some,if_pos (by simp;omega)]
  exact ⟨_,rfl,by simp⟩
 obtain ⟨r,h1,h2⟩:=e
 unfold putM
 rw [h1]
 exact ⟨rfl,h2⟩
/-- What a function that takes each item, and may end it, has done. -/
def giveL {σ τ:Type} (step:σ→τ→σ × Bool):List τ→σ→σ × Bool
 | [],s=>(s,true)
 | x :: xs,s=>if (step s x).2=true then giveL step xs (step s x).1 else ((step s x).1,false)
theorem giveL_one {σ τ:Type} (step:σ→τ→σ × Bool) (x:τ) (s:σ):giveL step [x] s=step s x:=by
 rw [giveL,giveL]
 cases h:step s x with
 | mk a b=>cases b <;> rfl
theorem giveL_append {σ τ:Type} (step:σ→τ→σ × Bool):∀ (xs ys:List τ) (s:σ),giveL step (xs ++ ys) s=if (giveL step xs s).2=true then giveL step ys (giveL step xs s).1 else ((giveL step xs s).1,false)
 | [],ys,s=>rfl
 | x :: xs,ys,s=>by
  rw [List.cons_append,giveL,giveL]
  by_cases h:(step s x).2=true
  ·rw [if_pos h,if_pos h];exact giveL_append step xs ys _
  ·rw [if_neg h,if_neg h];rfl
/-- A function value that takes each table. -/
def EachT (σ:Type) (g:Nat) (lb:Array Value) (n:Nat) (I:σ→(Nat→Prop)→World→Prop) (step:σ→List Int→σ × Bool):Prop :=
 ∀ (s:σ) (own:Nat→Prop) (W:World) (A:Option Addr) (c:Nat) (t:List Int),I s own W→t.length=n→n≤c→ReadApart .u16 own W A n t →
  Calls Try.prog g (#[.slice A n c] ++ lb) W fun e W'=>e=.returned (.bool (step s t).2)∧∃ own',I (step s t).1 own' W'∧Fr own own' W W'
theorem R_apart {k:IntKind} {e base n c:Nat} {ok own:Nat→Prop} {W w7:World} {A:Option Addr} {xs:List Int} (h:(Kd.int k).R e w7 base ok (.slice A n c) xs) (hn:xs.length=n) (hb:W.heap.size≤base) (ho:∀ i,own i→i < W.heap.size):ReadApart k own w7 A n xs :=
 ⟨by have:=(Kd.R_reads' h).2.2;rw [hn] at this;exact this,fun ad e _ hw=>by
  subst e
  have h1:=Kd.R_base h ad.block rfl
  have:=ho _ hw
  omega⟩
set_option maxHeartbeats 8000000 in
set_option maxRecDepth 100000 in
theorem choose_calls (σ:Type) (g:Nat) (lb:Array Value) (eg:∀ args w,(callFunc g args).run Try.prog w=.ok (.enter g args) w) (n:Nat) (I:σ→(Nat→Prop)→World→Prop) (step:σ→List Int→σ × Bool)
  (hE:EachT σ g lb n I step) (hI:∀ s own W W',I s own W→Below W.heap.size W W'→I s own W') (hO:∀ s own W,I s own W→∀ i,own i→i < W.heap.size) (hn:n≤7) (Bn Be Bg:Nat) :
  ∀ (d:Nat) (t l:List Int) (a b:Nat) (s:σ) (own:Nat→Prop) (W:World) (At Al:Option Addr) (ct cl:Nat),fuelM n d a b→t.length=n→l.length=n→(b≤n ∨ n≤a+1)→(a+1≤n ∨ n=0)→a < b →
   W.cell? ⟨Bn,0,none⟩=some (.int .i64 (n:Int))→W.cell? ⟨Be,0,none⟩=some (.func (.func g) #[] lb)→W.cell? ⟨Bg,0,none⟩=some (.func (.func 86) #[] #[.pointer (some ⟨Bn,0,none⟩),.pointer (some ⟨Be,0,none⟩),.pointer (some ⟨Bg,0,none⟩)]) →
   ¬ own Bn→¬ own Be→¬ own Bg→ReadApart .u16 own W At n t→n≤ct→ReadApart .i64 own W Al n l→n≤cl→I s own W →
   Calls Try.prog 86 #[.slice At n ct,.slice Al n cl,.int .i64 (a:Int),.int .i64 (b:Int),.pointer (some ⟨Bn,0,none⟩),.pointer (some ⟨Be,0,none⟩),.pointer (some ⟨Bg,0,none⟩)] W fun e W' =>
    e=.returned (.bool (giveL step (mkl putM n d t l a b) s).2)∧∃ own',I (giveL step (mkl putM n d t l a b) s).1 own' W'∧Fr own own' W W'
 | 0,t,l,a,b,s,own,W,At,Al,ct,cl,hf,_,_,_,_,_,_,_,_,_,_,_,_,_,_,_,_=>absurd hf.1 (by omega)
 | d+1,t,l,a,b,s,own,W,At,Al,ct,cl,hf,ht,hl,hb,ha,hab,hn0,he0,hg0,nn,ne,ng,hT,hct,hL,hcl,hs=>by
  have IH:=zz31 (choose_calls σ g lb eg n I step hE hI hO hn Bn Be Bg d)
  have HI:=zz31 hI
  have HO:=zz31 hO
  have HT:=zz31 hT
  have HL:=zz31 hL
  have HS:=zz31 hs
  have HF:=zz31 hf
  have cE:=hE s own W At ct t hs ht hct hT
  have hwn:IntKind.i64.wrap ((n:Int) - 1)=(n:Int) - 1:=wrapI _ (by omega) (by omega)
  clear hE hI hO hT hL hs hf
  by_cases hA:n≤a+1
  ·have hAz:(a:Int) ≥ (n:Int) - 1:=by omega
   by_cases h0:n=0
   ·have hm:mkl putM n (d+1) t l a b=[t]:=by rw [mkl,if_pos hA,if_neg (by omega)]
    rw [hm,giveL_one]
    clear hm hA hAz hwn IH
    subst h0
    go_enter Try.func86,Try.ntmps86
    go_wp2_with (go_at_fn g;refine cE.mono ?_;rintro e W' ⟨rfl,own',h1,h2⟩)
    go_ret
    exact ⟨rfl,own',h1,h2⟩
   ·have hnz:(n:Int) > 0:=by omega
    obtain ⟨ad,e0,hcell⟩:=Kd.at_int HL.out.1 ((n:Int) - 1) (by omega) (by omega)
    subst e0
    rw [show ((n:Int) - 1).toNat=n - 1 by omega] at hcell
    by_cases hz:rd l ((n:Int) - 1)=0
    ·have hm:mkl putM n (d+1) t l a b=[t]:=by rw [mkl,if_pos hA,if_neg (by omega)]
     rw [hm,giveL_one]
     rw [hz] at hcell
     go_enter Try.func86,Try.ntmps86
     go_wp2_with (go_at_fn g;refine cE.mono ?_;rintro e W' ⟨rfl,own',h1,h2⟩)
     go_ret
     exact ⟨rfl,own',h1,h2⟩
    ·have hm:mkl putM n (d+1) t l a b=[]:=by rw [mkl,if_pos hA,if_pos ⟨by omega,hz⟩]
     rw [hm]
     clear cE
     go_enter Try.func86,Try.ntmps86
     go_wp2
     go_ret
     exact ⟨rfl,own,HI.out _ _ _ _ HS.out (by repeat first | exact Below.refl _ _ | apply zz0 | apply below_drew),Fr.of_below _ (by repeat first | exact Below.refl _ _ | apply zz0 | apply below_drew)⟩
  ·have hA2:a+1 < n:=by omega
   have hbn:b≤n:=by omega
   have hAz:¬ (a:Int) ≥ (n:Int) - 1:=by omega
   have hna:¬ n≤a+1:=hA
   obtain ⟨ad,e0,hcell⟩:=Kd.at_int HL.out.1 (a:Int) (by omega) (by omega)
   subst e0
   rw [Int.toNat_natCast] at hcell
   have REC:Aside0 (∀ (s1:σ) (own1:Nat→Prop) (W1:World) (a' b':Nat),Fr own own1 W W1→I s1 own1 W1→fuelM n d a' b'→(b'≤n ∨ n≤a'+1)→(a'+1≤n ∨ n=0)→a' < b' →
     Calls Try.prog 86 #[.slice At n ct,.slice (some ad) n cl,.int .i64 (a':Int),.int .i64 (b':Int),.pointer (some ⟨Bn,0,none⟩),.pointer (some ⟨Be,0,none⟩),.pointer (some ⟨Bg,0,none⟩)] W1 fun e W' =>
      e=.returned (.bool (giveL step (mkl putM n d t l a' b') s1).2)∧∃ own',I (giveL step (mkl putM n d t l a' b') s1).1 own' W'∧Fr own own' W W') :=
    ⟨fun s1 own1 W1 a' b' hF hI1 hf1 h1 h2 h3=>(IH.out t l a' b' s1 own1 W1 At (some ad) ct cl hf1 ht hl h1 h2 h3 (hF.cell hn0 nn) (hF.cell he0 ne) (hF.cell hg0 ng)
     (fun h=>(hF.own _ h).elim nn (fun h=>absurd h (Nat.not_le.2 (World.block_lt_of_cell? W _ hn0)))) (fun h=>(hF.own _ h).elim ne (fun h=>absurd h (Nat.not_le.2 (World.block_lt_of_cell? W _ he0)))) (fun h=>(hF.own _ h).elim ng (fun h=>absurd h (Nat.not_le.2 (World.block_lt_of_cell? W _ hg0))))
     (HT.out.fr hF) hct (HL.out.fr hF) hcl hI1).mono fun e W' ⟨h1,own',h2,h3⟩=>⟨h1,own',h2,hF.trans h3⟩⟩
   clear cE
   by_cases hB:b=n
   ·have hBz:((b:Int) == (n:Int))=true:=beq_iff_eq.2 (by omega)
    by_cases hz:rd l (a:Int)=0
    ·have hm:mkl putM n (d+1) t l a b=mkl putM n d t l (a+1) (a+2):=by rw [mkl,if_neg hA,if_pos hB,if_neg (by omega)]
     have hF1:fuelM n d (a+1) (a+2):=fuelM_a (by rw [← hB];rw [hB];have:=HF.out;rw [hB] at this;exact this) hA2
     have HF1:=zz31 hF1
     rw [hm]
     rw [hz] at hcell
     clear hF1 hm
     go_enter Try.func86,Try.ntmps86
     go_wp2_with (go_at_call 86;refine (REC.out s own _ (a+1) (a+2) (Fr.of_below _ (by repeat first | exact Below.refl _ _ | apply zz0 | apply below_drew)) (HI.out _ _ _ _ HS.out (by repeat first | exact Below.refl _ _ | apply zz0 | apply below_drew)) HF1.out (by omega) (by omega) (by omega)).mono ?_;rintro e W1 ⟨rfl,own1,h1,h2⟩)
     go_ret
     exact ⟨rfl,own1,h1,h2⟩
    ·have hm:mkl putM n (d+1) t l a b=[]:=by rw [mkl,if_neg hA,if_pos hB,if_pos hz]
     rw [hm]
     clear hm REC
     go_enter Try.func86,Try.ntmps86
     go_wp2
     go_ret
     exact ⟨rfl,own,HI.out _ _ _ _ HS.out (by repeat first | exact Below.refl _ _ | apply zz0 | apply below_drew),Fr.of_below _ (by repeat first | exact Below.refl _ _ | apply zz0 | apply below_drew)⟩
   ·have hBz:((b:Int) == (n:Int))=false:=beq_eq_false_iff_ne.2 (by omega)
    have hwb:IntKind.i64.wrap ((n:Int) - (b:Int))=(n:Int) - (b:Int):=wrapI _ (by omega) (by omega)
    have hbn2:b < n:=by omega
    have HF1:=zz31 (fuelM_b HF.out hA2 hbn2)
    obtain ⟨xa,hxa⟩:∃ xa,xa=rd l (a:Int):=⟨_,rfl⟩
    rw [← hxa] at hcell
    have HXA:=zz31 hxa
    clear hxa
    by_cases hC:xa > (n:Int) - (b:Int)
    ·have hm:mkl putM n (d+1) t l a b=[]:=by rw [mkl,if_neg hA,if_neg hB,if_pos (by rw [← HXA.out];exact hC)]
     rw [hm]
     clear hm REC
     go_enter Try.func86,Try.ntmps86
     go_wp2
     go_quiet (fail)
     go_wp2
     go_ret
     exact ⟨rfl,own,HI.out _ _ _ _ HS.out (by repeat first | exact Below.refl _ _ | apply zz0 | apply below_drew),Fr.of_below _ (by repeat first | exact Below.refl _ _ | apply zz0 | apply below_drew)⟩
    ·have hCz:¬ xa > (n:Int) - (b:Int):=hC
     obtain ⟨ad2,e2,hcell2⟩:=Kd.at_int HL.out.1 (b:Int) (by omega) (by omega)
     injection e2 with e2
     subst e2
     rw [Int.toNat_natCast] at hcell2
     obtain ⟨xb,hxb⟩:∃ xb,xb=rd l (b:Int):=⟨_,rfl⟩
     rw [← hxb] at hcell2
     have HXB:=zz31 hxb
     clear hxb
     by_cases hp:0 < xa∧0 < xb
     ·have hpa2:xa > 0:=hp.1
      have hpb2:xb > 0:=hp.2
      have hm:mkl putM n (d+1) t l a b=mkl putM n d (putM t a b) (dec2 l a b) a (b+1) ++ mkl putM n d t l a (b+1):=by rw [mkl,if_neg hA,if_neg hB,if_neg (by rw [← HXA.out];exact hC),if_pos (by rw [← HXA.out,← HXB.out];exact hp)]
      obtain ⟨q,hq⟩:∃ q,q=(giveL step (mkl putM n d (putM t a b) (dec2 l a b) a (b+1)) s).2:=⟨_,rfl⟩
      obtain ⟨s1,hs1⟩:∃ s1,s1=(giveL step (mkl putM n d (putM t a b) (dec2 l a b) a (b+1)) s).1:=⟨_,rfl⟩
      have HQ:=zz31 hq
      have HS1:=zz31 hs1
      rw [hm,giveL_append,← hq,← hs1]
      clear hm hp hq hs1
      have cT:Aside0 (∀ W1,Below W.heap.size W W1→Calls Try.prog 87 #[.slice At n ct] W1 fun e w'=>∃ v,e=.returned v∧Kd.R (Kd.int .u16) 77 w' W1.heap.size (fun _=>True) v t∧Below W1.heap.size W1 w'):=⟨fun W1 hb=>by
       have h:=impl_table_uint16.calls At ct t t W1 (by rw [ht];exact Kd.C_below HT.out.1 hb) (by omega) (by unfold impl_table_uint16.f;rw [if_pos (by omega)])
       rw [ht] at h
       exact h⟩
      have cL:Aside0 (∀ W1,Below W.heap.size W W1→Calls Try.prog 65 #[.slice (some ad) n cl] W1 fun e w'=>∃ v,e=.returned v∧Kd.R (Kd.int .i64) 3 w' W1.heap.size (fun _=>True) v l∧Below W1.heap.size W1 w'):=⟨fun W1 hb=>by
       have h:=slices_Clone_int_int.calls (some ad) cl l l W1 (by rw [hl];exact Kd.C_below HL.out.1 hb) (by omega) (by unfold slices_Clone_int_int.f;rw [if_pos (by omega)])
       rw [hl] at h
       exact h⟩
      have HPS:=zz31 (put_some t a b (by omega) (by omega))
      have HD2:=zz31 (show dec2 l a b=(l.set a (wrap64 (xa - 1))).set b (wrap64 (xb - 1)) from by
       unfold dec2
       rw [← HXA.out,HXB.out]
       congr 2
       unfold rd
       rw [Int.toNat_natCast,List.getD_eq_getElem?_getD,List.getD_eq_getElem?_getD,List.getElem?_set_ne (by omega)])
      go_enter Try.func86,Try.ntmps86
      go_wp2
      go_quiet (fail)
      go_upto_region 10 with (first | (go_at_call 87; refine (cT.out _ (by repeat first | exact Below.refl _ _ | apply zz0 | apply below_drew)).mono ?_; rintro e w3 ⟨v3, rfl, ho3, hb3⟩; have HB3 := zz31 (zz4 (w := W) (by repeat first | exact Below.refl _ _ | apply zz0 | apply below_drew) hb3); have HO3 := zz31 (Kd.R_lower (base' := W.heap.size) ho3 (by first | exact Nat.le_refl _ | (simp; done))); clear ho3 hb3) | (go_at_call 65; refine (cL.out _ HB3.out).mono ?_; rintro e w4 ⟨v4, rfl, ho4, hb4⟩; have HB4 := zz31 (HB3.out.trans (hb4.mono HB3.out.size)); have HB34 := zz31 hb4; have HO4 := zz31 ho4; clear ho4 hb4) | (go_at_call 69; refine (impl_table_put.calls (fun k => k < w3.heap.size) v3 t (a : Int) (b : Int) (putM t a b) W _ HB4.out (Kd.R_mono (Kd.R_below (Kd.R_bound HO3.out) HB34.out) (fun k hk => hk.2.2.1)) HPS.out.1).mono ?_; rintro e w5 ⟨rfl, ho5, hb5, hk5⟩; have HB5 := zz31 hb5; have HO5 := zz31 ho5; have HK5 := zz31 hk5; clear ho5 hb5 hk5) | (fail "no arm"))
      obtain ⟨A3,c3,rfl⟩:=Kd.R_slice HO5.out
      have HR5:Kd.R (Kd.int .i64) 3 w5 w3.heap.size (fun k=>w3.heap.size≤k) v4 l:=Kd.R_kept (Kd.R_mono (ok':=fun k=>w3.heap.size≤k) (Kd.R_bound HO4.out) (fun k hk=>hk.2.1)) HK5.out (fun k hk=>Nat.not_lt.2 hk)
      obtain ⟨g4,c4,rfl,gb4,gl4,cl4,hg4⟩:=Kd.R_form HR5 (show 0 < l.length by omega)
      have gm4:=HR5.1 g4 rfl
      obtain ⟨hx5,hf5⟩:=Kd.R_celln 0 HR5 (a:Int) (by omega) (by omega)
      rw [show rdOf 0 l (a:Int)=xa from HXA.out.symm,Int.toNat_natCast] at hx5
      rw [Int.toNat_natCast] at hf5
      have hwa:wrap64 (xa - 1)=xa - 1:=by unfold wrap64;omega
      have hlt4:=Kd.R_lt HO4.out g4 rfl
      have HT5:Kd.R (Kd.int .u16) 77 w5 W.heap.size (fun k=>k ≠ g4) (.slice A3 (putM t a b).length c3) (putM t a b):=Kd.R_mono HO5.out (fun k hk=>by
       rcases hk with hk | hk
       ·show k ≠ g4;omega
       ·show k ≠ g4;omega)
      have HR6:=Kd.R_putn HR5 (a:Int) (xa - 1)
      rw [Int.toNat_natCast] at HR6
      have HT6:=Kd.R_far HT5 (fun k hk=>hk) (.int .i64 (xa - 1)) (p:=⟨g4,a,none⟩)
      have HB6:=zz3 (g:=g4) (j:=a) (v:=.int .i64 (xa - 1)) HB5.out (Nat.le_trans HB3.out.size gb4)
      obtain ⟨hx6,hf6⟩:=Kd.R_celln 0 HR6 (b:Int) (by omega) (by omega)
      rw [show rdOf 0 (l.set a (xa - 1)) (b:Int)=xb from by
       rw [HXB.out]
       unfold rd rdOf
       rw [Int.toNat_natCast,List.getD_eq_getElem?_getD,List.getD_eq_getElem?_getD,List.getElem?_set_ne (by omega)],Int.toNat_natCast] at hx6
      rw [Int.toNat_natCast] at hf6
      have HR7:=Kd.R_putn HR6 (b:Int) (wrap64 (xb - 1))
      rw [Int.toNat_natCast] at HR7
      have HT7:=Kd.R_far HT6 (fun k hk=>hk) (.int .i64 (wrap64 (xb - 1))) (p:=⟨g4,b,none⟩)
      have HB7:=zz3 (g:=g4) (j:=b) (v:=.int .i64 (wrap64 (xb - 1))) HB6 (Nat.le_trans HB3.out.size gb4)
      have HR7:=zz31 HR7
      have HT7:=zz31 HT7
      have HB7:=zz31 HB7
      clear HR6 HT6 HB6 HR5 HT5
      go_upto_region 11 with (fail)
      generalize hw6:w5.setCell { block:=g4,off:=a } (Value.int IntKind.i64 (xa - 1))=w6 at *
      clear hx5 hf5 hw6
      go_upto_region 12 with (fail)
      generalize hw7:w6.setCell { block:=g4,off:=b } (Value.int IntKind.i64 (wrap64 (xb - 1)))=w7 at *
      clear hx6 hf6 hw7
      have hg7:=pw_cell_below' HB7.out hg0
      have HLP:=zz31 (HPS.out.2.trans ht)
      have cN:Aside0 (Calls Try.prog 86 #[.slice A3 n c3,.slice (some ⟨g4,0,none⟩) n c4,.int .i64 (a:Int),.int .i64 ((b+1:Nat):Int),.pointer (some ⟨Bn,0,none⟩),.pointer (some ⟨Be,0,none⟩),.pointer (some ⟨Bg,0,none⟩)] w7 fun e W' =>
        e=.returned (.bool q)∧∃ own',I s1 own' W'∧Fr own own' W W'):=⟨by
       have hF:=Fr.of_below own HB7.out
       have hT8:=R_apart HT7.out rfl (Nat.le_refl _) (HO.out _ _ _ HS.out)
       have hL8:ReadApart .i64 own w7 (some ⟨g4,0,none⟩) n (dec2 l a b):=by
        rw [HD2.out,hwa]
        have h7:=HR7.out
        rw [hl] at h7
        exact R_apart h7 (by simpa using hl) HB3.out.size (HO.out _ _ _ HS.out)
       have hc3:=(Kd.R_reads' HT7.out).2.1
       have hc4:=(Kd.R_reads' HR7.out).2.1
       have hlp:=HLP.out
       rw [hlp] at hT8
       rw [HQ.out,HS1.out]
       exact (IH.out (putM t a b) (dec2 l a b) a (b+1) s own w7 A3 (some ⟨g4,0,none⟩) c3 c4 HF1.out hlp ((dec2_length _ _ _).trans hl) (by omega) (by omega) (by omega) (hF.cell hn0 nn) (hF.cell he0 ne) (hF.cell hg0 ng) nn ne ng hT8 (by omega) hL8 (by omega) (HI.out _ _ _ _ HS.out HB7.out)).mono fun e W' ⟨h1,own',h2,h3⟩=>⟨h1,own',h2,hF.trans h3⟩⟩
      cases q with
      | false =>
       go_wp2_with (go_at_call 86;rw [HLP.out,hl];refine cN.out.mono ?_;rintro e W1 ⟨rfl,own1,h1,h2⟩)
       go_ret
       exact ⟨rfl,own1,h1,h2⟩
      | true =>
       go_wp2_with (first | (go_at_call 86; rw [HLP.out, hl]; refine cN.out.mono ?_; rintro e W1 ⟨rfl, own1, h1, h2⟩; have H1 := zz31 h1; have H2 := zz31 h2; have hg8 := h2.cell hg0 ng; clear h1 h2) | (go_at_call 86; refine (REC.out s1 own1 W1 a (b + 1) H2.out H1.out HF1.out (by omega) (by omega) (by omega)).mono ?_; rintro e W2 ⟨rfl, own2, h1, h2⟩) | (fail "no arm"))
       go_ret
       exact ⟨rfl,own2,h1,h2⟩
     ·have hm:mkl putM n (d+1) t l a b=mkl putM n d t l a (b+1):=by rw [mkl,if_neg hA,if_neg hB,if_neg (by rw [← HXA.out];exact hC),if_neg (by rw [← HXA.out,← HXB.out];exact hp),List.nil_append]
      rw [hm]
      clear hm
      by_cases hpa:0 < xa
      ·have hpa2:xa > 0:=hpa
       have hpb2:¬ xb > 0:=fun h=>hp ⟨hpa,h⟩
       clear hp
       go_enter Try.func86,Try.ntmps86
       go_wp2
       go_quiet (fail)
       go_wp2_with (go_at_call 86;refine (REC.out s own _ a (b+1) (Fr.of_below _ (by repeat first | exact Below.refl _ _ | apply zz0 | apply below_drew)) (HI.out _ _ _ _ HS.out (by repeat first | exact Below.refl _ _ | apply zz0 | apply below_drew)) HF1.out (by omega) (by omega) (by omega)).mono ?_;rintro e W1 ⟨rfl,own1,h1,h2⟩)
       go_ret
       exact ⟨rfl,own1,h1,h2⟩
      ·have hpa2:¬ xa > 0:=hpa
       clear hp
       go_enter Try.func86,Try.ntmps86
       go_wp2
       go_quiet (fail)
       go_wp2_with (go_at_call 86;refine (REC.out s own _ a (b+1) (Fr.of_below _ (by repeat first | exact Below.refl _ _ | apply zz0 | apply below_drew)) (HI.out _ _ _ _ HS.out (by repeat first | exact Below.refl _ _ | apply zz0 | apply below_drew)) HF1.out (by omega) (by omega) (by omega)).mono ?_;rintro e W1 ⟨rfl,own1,h1,h2⟩)
       go_ret
       exact ⟨rfl,own1,h1,h2⟩
-- END choose
def madeL (l:List Int):List (List Int):=mkl putM l.length 100 (List.replicate l.length 0) l 0 1
set_option maxHeartbeats 4000000 in
set_option maxRecDepth 100000 in
theorem made_calls (σ:Type) (g:Nat) (lb:Array Value) (eg:∀ args w,(callFunc g args).run Try.prog w=.ok (.enter g args) w) (l:List Int) (I:σ→(Nat→Prop)→World→Prop) (step:σ→List Int→σ × Bool)
  (hE:EachT σ g lb l.length I step) (hI:∀ s own W W',I s own W→Below W.heap.size W W'→I s own W') (hO:∀ s own W,I s own W→∀ i,own i→i < W.heap.size) (hn:l.length≤7) (Al:Option Addr) (cl:Nat)
  (s:σ) (own:Nat→Prop) (W:World) (hL:ReadApart .i64 own W Al l.length l) (hcl:l.length≤cl) (hs:I s own W) :
  Calls Try.prog 50 #[.slice Al l.length cl,.func (.func g) #[] lb] W fun e W' =>
   e=.returned (.bool (giveL step (madeL l) s).2)∧∃ own',I (giveL step (madeL l) s).1 own' W'∧Fr own own' W W':=by
 have cG:Aside0 (Calls Try.prog 86 #[.slice (some ⟨W.heap.size+1+1+1,0,none⟩) l.length l.length,.slice Al l.length cl,.int .i64 0,.int .i64 1,.pointer (some ⟨W.heap.size+1,0,none⟩),.pointer (some ⟨W.heap.size,0,none⟩),.pointer (some ⟨W.heap.size+1+1,0,none⟩)]
   ((((W.alloc (.cells #[.func (.func g) #[] lb] 53)).alloc (.cells #[.int .i64 (l.length:Int)] 3)).alloc (.cells #[(.func (.func 86) #[] #[.pointer (some ⟨W.heap.size+1,0,none⟩),.pointer (some ⟨W.heap.size,0,none⟩),.pointer (some ⟨W.heap.size+1+1,0,none⟩)])] 75)).alloc (.cells (madeCells #[.int .u16 0] l.length) 77)).drew fun e W' =>
   e=.returned (.bool (giveL step (madeL l) s).2)∧∃ own',I (giveL step (madeL l) s).1 own' W'∧Fr own own' W W'):=by
  have e1:(W.alloc (.cells #[.func (.func g) #[] lb] 53)).heap.size=W.heap.size+1:=by simp
  have e2:((W.alloc (.cells #[.func (.func g) #[] lb] 53)).alloc (.cells #[.int .i64 (l.length:Int)] 3)).heap.size=W.heap.size+1+1:=by simp
  generalize hF:(Value.func (.func 86) #[] #[.pointer (some ⟨W.heap.size+1,0,none⟩),.pointer (some ⟨W.heap.size,0,none⟩),.pointer (some ⟨W.heap.size+1+1,0,none⟩)])=F
  have e3:(((W.alloc (.cells #[.func (.func g) #[] lb] 53)).alloc (.cells #[.int .i64 (l.length:Int)] 3)).alloc (.cells #[F] 75)).heap.size=W.heap.size+1+1+1:=by simp
  have b0:=blk_new W (.cells #[.func (.func g) #[] lb] 53)
  have b1:=blk_new (W.alloc (.cells #[.func (.func g) #[] lb] 53)) (.cells #[.int .i64 (l.length:Int)] 3)
  have b2:=blk_new ((W.alloc (.cells #[.func (.func g) #[] lb] 53)).alloc (.cells #[.int .i64 (l.length:Int)] 3)) (.cells #[F] 75)
  rw [e1] at b1
  rw [e2] at b2
  have c0:=zz9 (zz8 (zz8 (zz8 b0 (.cells #[.int .i64 (l.length:Int)] 3)) (.cells #[F] 75)) (.cells (madeCells #[.int .u16 0] l.length) 77)) 0
  have c1:=zz9 (zz8 (zz8 b1 (.cells #[F] 75)) (.cells (madeCells #[.int .u16 0] l.length) 77)) 0
  have c2:=zz9 (zz8 b2 (.cells (madeCells #[.int .u16 0] l.length) 77)) 0
  have hbel:Below W.heap.size W ((((W.alloc (.cells #[.func (.func g) #[] lb] 53)).alloc (.cells #[.int .i64 (l.length:Int)] 3)).alloc (.cells #[F] 75)).alloc (.cells (madeCells #[.int .u16 0] l.length) 77)).drew:=below_drew (zz2 (zz2 (zz2 (zz2 (Below.refl _ _) _) _) _) _)
  have hR:=Kd.R_of_own (ok:=fun _=>True) (enc:=Value.int .u16) (h1:=fun _=>rfl) (own_made_of' (enc:=Value.int .u16) (d:=(0:Int)) (((W.alloc (.cells #[.func (.func g) #[] lb] 53)).alloc (.cells #[.int .i64 (l.length:Int)] 3)).alloc (.cells #[F] 75)) W.heap.size 77 l.length (by rw [e3];omega) (by omega)) (fun _ _=>trivial)
  rw [e3] at hR
  replace hR:=zz14 hR
  subst hF
  have hno:∀ i,W.heap.size≤i→¬ own i:=fun i hi h=>by have:=hO s own W hs _ h;omega
  exact ⟨(choose_calls σ g lb eg l.length I step hE hI hO hn (W.heap.size+1) W.heap.size (W.heap.size+1+1) 100 (List.replicate l.length 0) l 0 1 s own (((((W.alloc (.cells #[.func (.func g) #[] lb] 53)).alloc (.cells #[.int .i64 (l.length:Int)] 3)).alloc (.cells #[(.func (.func 86) #[] #[.pointer (some ⟨W.heap.size+1,0,none⟩),.pointer (some ⟨W.heap.size,0,none⟩),.pointer (some ⟨W.heap.size+1+1,0,none⟩)])] 75)).alloc (.cells (madeCells #[.int .u16 0] l.length) 77)).drew) (some ⟨W.heap.size+1+1+1,0,none⟩) Al l.length cl ⟨by omega,fun _=>by have:=Nat.mul_le_mul (show l.length - 0≤7 by omega) (show l.length+1≤8 by omega);omega⟩ (by simp) rfl (by omega) (by omega) (by omega) c1 c0 c2 (hno _ (by omega)) (hno _ (by omega)) (hno _ (by omega)) (R_apart hR (by simp) (Nat.le_refl _) (hO s own W hs)) (Nat.le_refl _) (hL.fr (Fr.of_below _ hbel)) hcl (hI _ _ _ _ hs hbel)).mono fun e W' ⟨h1,own',h2,h3⟩=>⟨h1,own',h2,(Fr.of_below _ hbel).trans h3⟩⟩
 have hmk:=print_make (P:=Try.prog) 51 77 .u16 2 Try.underlying51 (by kernel_rfl) (by decide) l.length (by omega)
 have hf3:(((W.alloc (Obj.cells #[Value.func (Fn.func g) #[] lb] 53)).alloc (Obj.cells #[Value.int .i64 (l.length:Int)] 3)).alloc (Obj.cells #[Value.nilFunc] 75)).frozen? ⟨W.heap.size+1+1,0,none⟩=false:=by
  have e:((W.alloc (Obj.cells #[Value.func (Fn.func g) #[] lb] 53)).alloc (Obj.cells #[Value.int .i64 (l.length:Int)] 3)).heap.size=W.heap.size+1+1:=by simp
  rw [← e];exact frozen_new _ _ _ 0
 have hc3:(((W.alloc (Obj.cells #[Value.func (Fn.func g) #[] lb] 53)).alloc (Obj.cells #[Value.int .i64 (l.length:Int)] 3)).alloc (Obj.cells #[Value.nilFunc] 75)).cell? ⟨W.heap.size+1+1,0,none⟩=some Value.nilFunc:=by
  have e:((W.alloc (Obj.cells #[Value.func (Fn.func g) #[] lb] 53)).alloc (Obj.cells #[Value.int .i64 (l.length:Int)] 3)).heap.size=W.heap.size+1+1:=by simp
  rw [← e];exact World.cell?_alloc_new _ _ _ 0
 clear hE hI hO hL hs
 go_enter Try.func50,Try.ntmps50
 go_wp2
 go_region_law (rw [if_pos (by rfl)];go_simp;go_at_call 86;refine cG.out.mono ?_;rintro e W1 ⟨rfl,own1,h1,h2⟩;have H1:=zz31 h1;have H2:=zz31 h2;clear h1 h2)
 all_goals go_wp2
 all_goals go_ret
 all_goals exact ⟨rfl,own1,H1.out,H2.out⟩

end Go.Proofs.Ytjipjcdeoajnjaa.P
