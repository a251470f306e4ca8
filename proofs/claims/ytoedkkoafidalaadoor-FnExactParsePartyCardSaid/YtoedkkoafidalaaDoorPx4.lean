-- PRINTED by print.py (a twelfth state) out of the translation. Not trusted: Lean checks it.
import Derived.Test.YtoedkkoafidalaaDoorPx0
import Derived.Test.YtoedkkoafidalaaDoorPx1
import Derived.Test.YtoedkkoafidalaaDoorPx2
import Derived.Test.YtoedkkoafidalaaDoorPx3
namespace Go.Proofs.YtoedkkoafidalaaDoor.P
open Go.RowKit Go.Proofs.YtoedkkoafidalaaDoorW.PrintWords Go.Proofs.YtoedkkoafidalaaDoorW.PrintLast Go.Proofs.YtoedkkoafidalaaDoorW.PrintMore
open Bool renaming true → T, false → F
attribute [local go_sem] max2_int min2_int max_two min_two max_three min_three max_four min_four   -- for this text's walks alone
set_option linter.unusedVariables false
set_option linter.unusedSimpArgs false

/-! ### impl_ParseParty: function 11 (a contract of our own) -/
def psL:List Int→List (S50)
 | a :: b :: t=>⟨a,b⟩ :: psL t
 | _=>[]
def impl_ParseParty.f (k:Nat) (a0:ByteArray):Option (Int × List (S50) × Bool) :=
 if a0.size≤1048576 then (match numsV 12 (Lib.goFieldsP isSep a0) with
  | none=>some (0,[],false)
  | some []=>some (0,[],false)
  | some (n :: l)=>if l.length % 2=0 then (impl_IsParty.f k n (psL l)).bind fun g=>if g=true then (impl_partyText.f k n (psL l)).bind fun t=>if t=a0 then some (n,psL l,true) else some (0,[],false) else some (0,[],false)
   else some (0,[],false)) else none
theorem impl_ParseParty.mono:∀ a0 k,LeO (impl_ParseParty.f k a0) (impl_ParseParty.f (k+1) a0):=by
 intro a0 k
 unfold impl_ParseParty.f
 refine LeO.ite ?_ (LeO.refl _)
 cases numsV 12 (Lib.goFieldsP isSep a0) with
 | none=>exact LeO.refl _
 | some l =>
  cases l with
  | nil=>exact LeO.refl _
  | cons n l=>exact LeO.ite (LeO.bind (impl_IsParty.mono _ _ _) fun g=>LeO.ite (LeO.bind (impl_partyText.mono _ _ _) fun t=>LeO.refl _) (LeO.refl _)) (LeO.refl _)
/-- The cells of a row of pairs. -/
def pairCells (ps:List (S50)):List Value:=ps.flatMap fun p=>[Value.int .i64 p.f0,Value.int .i64 p.f1]
theorem pairCells_snoc (ps:List (S50)) (p:S50):pairCells (ps ++ [p])=pairCells ps ++ [Value.int .i64 p.f0,Value.int .i64 p.f1]:=by simp [pairCells]
theorem pairCells_reps' (w:World) (base:Nat) (ok:Nat→Prop):∀ (ps qs:List (S50)),Reps (k50.M w base ok) 2 qs (pairCells qs)→Reps (k50.M w base ok) 2 (qs ++ ps) (pairCells (qs ++ ps))
 | [],qs,h=>by simpa using h
 | p :: ps,qs,h=>by
  have e:qs ++ p :: ps=(qs ++ [p]) ++ ps:=by simp
  rw [e]
  refine pairCells_reps' w base ok ps (qs ++ [p]) ?_
  rw [pairCells_snoc]
  exact Reps.snoc h (k50_mkM w base ok p) rfl
theorem pairCells_reps (w:World) (base:Nat) (ok:Nat→Prop) (ps:List (S50)):Reps (k50.M w base ok) 2 ps (pairCells ps):=pairCells_reps' w base ok ps [] (Reps.none _ _)
theorem R_pairs {w:World} {base:Nat} {v:Value} {ps:List (S50)} (h:w.ownsRow base 50 2 v ps.length (pairCells ps)):Kd.R k50 50 w base (fun _=>True) v ps :=
 ⟨fun _ _=>trivial,pairCells ps,h,pairCells_reps _ _ _ _⟩
set_option maxHeartbeats 2000000 in
set_option maxRecDepth 100000 in
/-- .. where the words are no numbers, or not of an odd count. -/
theorem impl_ParseParty.no (a0:ByteArray) (hs:a0.size≤1048576) (w:World) (hT:Tz w) (hn:numsV 12 (Lib.goFieldsP isSep a0)=none ∨ ∃ l,numsV 12 (Lib.goFieldsP isSep a0)=some l∧l.length % 2=0) :
  Calls Tryd.prog 11 #[.string a0] w fun e w'=>∃ v1_:Value,e=.returned (.tuple #[.agg #[.int .i64 0,v1_],.bool false])∧Kd.R k50 50 w' w.heap.size (fun _=>True) v1_ []∧Below w.heap.size w w':=by
 have hu:=Tryd.underlying30
 have HT:=zz31 hT
 clear hT
 have cN:=zz31 (fun (W:World) (h:Tz W)=>numbersIn_calls a0 12 hs W h)
 rcases hn with hn | ⟨l,hn,hl⟩
 ·rw [hn] at cN
  clear hn
  go_enter Tryd.func11,Tryd.ntmps11
  go_wp2_with (first | ((with_reducible refine gate_dst (N := 2) rfl ?_); refine box_event ?hg (N := 2) ?hd (cs := #[.int .i64 0, .slice none 0 0]) (t := 30) ?hr ?_; (case hd => rfl); (case hg => rfl); (case hr => first | (go_simp; done) | (go_simp; rfl)); intro bo hbo wa hbox hb; have HXa := zz31 hbox; have HBa := zz31 (zz4 (w := w) (by repeat (first | exact Below.refl _ _ | apply zz0 | apply below_drew | apply zz2)) hb); have HBO := zz31 (show w.heap.size ≤ bo from by rw [hbo]; exact Nat.le_refl _); have f1 := zz9 HXa.out 0; have f2 := zz9 HXa.out 1; simp only [List.getElem?_toArray, List.getElem?_cons_zero, List.getElem?_cons_succ] at f1 f2; have f3 := zz10 HXa.out 0; have f4 := zz10 HXa.out 1; clear hbox hb hbo) | (go_at_call 22; refine (cN.out _ (HT.out.below HBa.out)).mono ?_; rintro e wb ⟨hr, hb⟩; obtain rfl := hr; have HBb := zz31 (zz4 HBa.out hb); have HXb := zz31 (zz11 HXa.out hb); clear hb f1 f2 f3 f4; have f1 := zz9 HXb.out 0; have f2 := zz9 HXb.out 1; simp only [List.getElem?_toArray, List.getElem?_cons_zero, List.getElem?_cons_succ] at f1 f2; have f3 := zz10 HXb.out 0; have f4 := zz10 HXb.out 1) | (fail "no arm"))
  refine bodyPost_ret (results_ct rfl _ _ bo 30 #[.int .i64 0,.slice none 0 0] (0,0) _ rfl (by (with_reducible repeat (first | refine zz6 ?_ _ | refine zz7 ?_));refine blk_put (cs:=#[.int .i64 0,.slice none 0 0]) ?_ 1 _ rfl;refine blk_put (cs:=#[.int .i64 0,.slice none 0 0]) ?_ 0 _ rfl;(with_reducible repeat (first | refine zz6 ?_ _ | refine zz7 ?_));exact HXb.out) Tryd.underlying30 rfl (by kernel_rfl)) rfl ?_
  exact ⟨_,rfl,Kd.R_nil _ _ _ _ _,by repeat first | exact HBb.out | apply zz0 | apply below_drew | refine zz3 ?_ HBO.out⟩
 ·rw [hn] at cN
  clear hn
  have hlz:IntKind.i64.wrap ((l.length:Int).tmod 2)=0:=by
   rw [Int.tmod_eq_emod_of_nonneg (by omega),show (l.length:Int) % 2=0 by omega];rfl
  go_enter Tryd.func11,Tryd.ntmps11
  go_wp2_with (first | ((with_reducible refine gate_dst (N := 2) rfl ?_); refine box_event ?hg (N := 2) ?hd (cs := #[.int .i64 0, .slice none 0 0]) (t := 30) ?hr ?_; (case hd => rfl); (case hg => rfl); (case hr => first | (go_simp; done) | (go_simp; rfl)); intro bo hbo wa hbox hb; have HXa := zz31 hbox; have HBa := zz31 (zz4 (w := w) (by repeat (first | exact Below.refl _ _ | apply zz0 | apply below_drew | apply zz2)) hb); have HBO := zz31 (show w.heap.size ≤ bo from by rw [hbo]; exact Nat.le_refl _); have f1 := zz9 HXa.out 0; have f2 := zz9 HXa.out 1; simp only [List.getElem?_toArray, List.getElem?_cons_zero, List.getElem?_cons_succ] at f1 f2; have f3 := zz10 HXa.out 0; have f4 := zz10 HXa.out 1; clear hbox hb hbo) | (go_at_call 22; refine (cN.out _ (HT.out.below HBa.out)).mono ?_; rintro e wb ⟨⟨v, hr, ho⟩, hb⟩; obtain rfl := hr; obtain ⟨A, c, rfl⟩ := own_slice ho; have HBb := zz31 (zz4 HBa.out hb); have HXb := zz31 (zz11 HXa.out hb); clear ho hb f1 f2 f3 f4; have f1 := zz9 HXb.out 0; have f2 := zz9 HXb.out 1; simp only [List.getElem?_toArray, List.getElem?_cons_zero, List.getElem?_cons_succ] at f1 f2; have f3 := zz10 HXb.out 0; have f4 := zz10 HXb.out 1) | (fail "no arm"))
  refine bodyPost_ret (results_ct rfl _ _ bo 30 #[.int .i64 0,.slice none 0 0] (0,0) _ rfl (by (with_reducible repeat (first | refine zz6 ?_ _ | refine zz7 ?_));refine blk_put (cs:=#[.int .i64 0,.slice none 0 0]) ?_ 1 _ rfl;refine blk_put (cs:=#[.int .i64 0,.slice none 0 0]) ?_ 0 _ rfl;(with_reducible repeat (first | refine zz6 ?_ _ | refine zz7 ?_));exact HXb.out) Tryd.underlying30 rfl (by kernel_rfl)) rfl ?_
  exact ⟨_,rfl,Kd.R_nil _ _ _ _ _,by repeat first | exact HBb.out | apply zz0 | apply below_drew | refine zz3 ?_ HBO.out⟩
def pairAt (l:List Int) {m:Nat} (x:Fin m):S50:=⟨l.getD (2 * x.val) 0,l.getD (2 * x.val+1) 0⟩
theorem psL_at:∀ (l:List Int) (m:Nat),l.length=2 * m→∀ j,j < m→(psL l)[j]?=some ⟨l.getD (2 * j) 0,l.getD (2 * j+1) 0⟩
 | [],m,h,j,hj=>by simp at h;omega
 | [a],m,h,j,hj=>by simp at h;omega
 | a :: b :: t,m,h,j,hj=>by
  cases j with
  | zero=>rfl
  | succ j =>
   have h2:t.length=2 * (m - 1):=by simp only [List.length_cons] at h;omega
   have ih:=psL_at t (m - 1) h2 j (by omega)
   show (psL t)[j]?=_
   rw [ih]
   rw [show 2 * (j+1)=2 * j+1+1 by omega]
   rfl
theorem psL_len:∀ (l:List Int) (m:Nat),l.length=2 * m→(psL l).length=m
 | [],m,h=>by simp at h;simp [psL];omega
 | [a],m,h=>by simp at h;omega
 | a :: b :: t,m,h=>by
  have h2:t.length=2 * (m - 1):=by simp only [List.length_cons] at h;omega
  have:=psL_len t (m - 1) h2
  simp only [psL,List.length_cons]
  simp only [List.length_cons] at h
  omega
theorem psL_fin (l:List Int) (m:Nat) (h:l.length=2 * m):(List.finRange m).map (pairAt l)=psL l:=by
 refine List.ext_getElem? (fun j=>?_)
 by_cases hj:j < m
 ·rw [psL_at l m h j hj,List.getElem?_map,List.getElem?_eq_getElem (by rw [List.length_finRange];exact hj)]
  simp [pairAt]
 ·rw [List.getElem?_eq_none (by rw [List.length_map,List.length_finRange];omega),List.getElem?_eq_none (by rw [psL_len l m h];omega)]
theorem slice_tail (g m cap:Nat) (hc:2 * m+1≤cap):∃ A:Option Addr,(0 < m→A=some ⟨g,1,none⟩)∧∀ W:World,(Instr.slice 43 (.slice (some ⟨g,0,none⟩) (2 * m+1) cap) (some (.int .i64 1)) none none).run Tryd.prog W=.ok (.slice A (2 * m) (cap - 1)) W:=by
 refine ⟨some (if cap=1 then ⟨g,0,none⟩ else ⟨g,1,none⟩),fun hm=>by rw [if_neg (by omega)],fun W=>?_⟩
 rw [run_slice_l W 43 (some ⟨g,0,none⟩) (2 * m+1) cap (by kernel_rfl) .i64 1 (by omega) (by omega),show sizeOf (Tryd.prog.elem 43)=sizeOf 3 from by kernel_rfl]
 by_cases h1:cap=1
 ·simp [go_sem,Tryd.sizeOf3,h1]
 ·simp [go_sem,Tryd.sizeOf3,h1]
/-- Behind some rounds: the box holds the pairs so far. -/
structure PI (w W0 : World) (bp n₁ : Nat) (n : Int) (l : List Int) {m : Nat} (pre : List (Fin m)) (W : World) : Prop where
 row:∃ v,W.heap[bp]?=some (.cells #[.int .i64 n,v] 30 (0,0))∧W.ownsRow n₁ 50 2 v pre.length (pairCells (pre.map (pairAt l)))
 kept:KpX n₁ bp W0 W
 bel:Below w.heap.size w W
theorem PI.own {w W0:World} {bp n₁ B:Nat} {n:Int} {l:List Int} {m:Nat} (hn:n₁≤B) (hw:w.heap.size≤B) (hb:bp < B):OwnFrom B (PI w W0 bp n₁ n l (m:=m)):=by
 intro pre W W' row h hg hr
 refine ⟨?_,⟨Nat.le_trans h.kept.size hg.size,fun k h1 h2 h3=>(hg.block k (Nat.lt_of_lt_of_le h3 h.kept.size) (fun e=>?_)).trans (h.kept.same k h1 h2 h3)⟩,h.bel.grown hg h.bel.size (fun k e=>Nat.le_trans hw (hr k e).1)⟩
 ·obtain ⟨v,hv,ho⟩:=h.row
  refine ⟨v,(hg.block bp (Array.getElem?_eq_some_iff.1 hv).1 (fun e=>?_)).trans hv,ho.kept hg ?_⟩
  ·have:=(hr bp e.symm).1;omega
  ·cases hk:v.ownBlock with
   | none=>exact .inl rfl
   | some q =>
    refine .inr fun e=>?_
    obtain ⟨o,ho2,ho3⟩:=(hr q e.symm).2
    obtain ⟨cells,hc⟩:=own_typed ho q hk
    rw [hc] at ho2
    cases ho2
    cases ho3
 ·have:=(hr k e.symm).1;omega
theorem PI.step {w W0 W w1:World} {bp n₁ B:Nat} {n:Int} {l:List Int} {m:Nat} {pre:List (Fin m)} {x:Fin m} {v v':Value} {t:Obj} (hI:PI w W0 bp n₁ n l pre W)
  (hv:W.heap[bp]?=some (.cells #[.int .i64 n,v] 30 (0,0))) (hrow:W.ownsRow n₁ 50 2 v pre.length (pairCells (pre.map (pairAt l)))) (hbp:bp < n₁) (hwbp:w.heap.size≤bp) (hB:n₁≤B)
  (hown':w1.ownsRow n₁ 50 2 v' (pre.length+1) (pairCells (pre.map (pairAt l)) ++ [.int .i64 (pairAt l x).f0,.int .i64 (pairAt l x).f1])) (hgrow:((W.alloc t).drew).grownBy w1 v.ownBlock) :
  KeepsFrom B W (w1.setCell ⟨bp,1,none⟩ v')∧KpX n₁ bp W (w1.setCell ⟨bp,1,none⟩ v')∧PI w W0 bp n₁ n l (pre ++ [x]) (w1.setCell ⟨bp,1,none⟩ v'):=by
 have hal:=(Below.refl W.heap.size W).alloc (Nat.le_refl _) t
 have hlt:∀ k,k < W.heap.size→k < ((W.alloc t).drew).heap.size:=fun k hk=>Nat.lt_of_lt_of_le hk hal.size
 have hW1:∀ k,k < W.heap.size→some k ≠ v.ownBlock→k ≠ bp→(w1.setCell ⟨bp,1,none⟩ v').heap[k]?=W.heap[k]?:=fun k h1 h2 h3 =>
  (Below.heap_setCell w1 ⟨bp,1,none⟩ v' k h3).trans ((hgrow.block k (hlt k h1) h2).trans (hal.block k h1))
 have hsz:W.heap.size≤(w1.setCell ⟨bp,1,none⟩ v').heap.size:=Nat.le_trans hal.size (Nat.le_trans hgrow.size (KeepsWalks.setCell w1 _ v').size)
 have hv1:w1.heap[bp]?=some (.cells #[.int .i64 n,v] 30 (0,0)):=(hgrow.block bp (hlt bp (blk_lt hv)) (own_ne hrow hv (by decide))).trans ((hal.block bp (blk_lt hv)).trans hv)
 have hK:KpX n₁ bp W (w1.setCell ⟨bp,1,none⟩ v'):=⟨hsz,fun k h1 h2 h3=>hW1 k h3 (fun e=>by have:=own_base hrow k e.symm;omega) h2⟩
 refine ⟨⟨hsz,fun k o hk ho hc=>(hW1 k (Array.getElem?_eq_some_iff.1 ho).1 (fun e=>?_) (by omega)).trans ho⟩,hK,⟨v',blk_put (cs:=#[.int .i64 n,v]) hv1 1 v' rfl,?_⟩,hI.kept.trans hK,?_⟩
 ·obtain ⟨cells,h⟩:=own_typed hrow k e.symm
  rw [h] at ho
  cases ho
  cases hc
 ·have h:=own_setCell hown' (p:=⟨bp,1,none⟩) (own_ne hown' hv1 (by decide)) v'
  rw [List.length_append,List.map_append,zz27,zz28,pairCells_snoc]
  exact h
 ·exact zz3 ((below_drew (hI.bel.alloc hI.bel.size t)).grown hgrow (below_drew (hI.bel.alloc hI.bel.size t)).size (fun k e=>by have:=own_base hrow k e;omega)) hwbp
theorem pairAt_cells (l:List Int) (m:Nat) (hl:l.length=2 * m) (n:Int) (x:Fin m):(n :: l)[1+2 * x.val]?=some (pairAt l x).f0∧(n :: l)[1+2 * x.val+1]?=some (pairAt l x).f1:=by
 have hx:=x.isLt
 have e:∀ j,(n :: l)[1+j]?=l[j]?:=fun j=>by rw [Nat.add_comm 1 j];rfl
 refine ⟨?_,?_⟩
 ·rw [e]
  show l[2 * x.val]?=some (l.getD (2 * x.val) 0)
  rw [List.getD_eq_getElem?_getD,List.getElem?_eq_getElem (show 2 * x.val < l.length by omega)];rfl
 ·rw [Nat.add_assoc,e]
  show l[2 * x.val+1]?=some (l.getD (2 * x.val+1) 0)
  rw [List.getD_eq_getElem?_getD,List.getElem?_eq_getElem (show 2 * x.val+1 < l.length by omega)];rfl
section
variable {P : Program} {l n : Nat} {ops : Array Oper} {Q : Exit → Act → World → Prop}
/-- What an operation does outside a round it does within one, unless it defers. -/
theorem uponIn_of_upon (o:Oper) (a:Act) (next:Act→World→Prop) (r:Result Next) (h:o.upon P a next Q r):o.uponIn (Fence.wide.inRound l) n P a next Q r:=by
 cases r with
 | ok x w' =>
  cases x
  case enter f args =>
   refine ⟨fun hd=>(by cases hd),?_⟩
   exact CallsIn.mono (show CallsIn (Fence.wide.inRound l) (n - 1) P f args w' _ from (callsIn_wide (n:=n - 1)).2 h) (fun e w'' he=>by cases e <;> exact he)
  case row row args =>
   refine ⟨fun hd=>(by cases hd),fun c cs _=>?_⟩
   obtain ⟨v,w',r,s⟩:=h c cs
   exact ⟨v,w',r,stepsIn_wide.2 s⟩
  all_goals first | exact h | exact h.elim
 | halt x w'=>cases x <;> exact h
theorem opIn_of_op (o:Oper) (a:Act) (w:World) (next:Act→World→Prop) (hd:∀ c,o.op ≠ .defer c) (h:o.wp P a w next Q):o.wpIn (Fence.wide.inRound l) n P a w next Q:=by
 refine ⟨fun _ _=>trivial,?_⟩
 rw [Oper.semAt_eq _ _ _ hd]
 exact uponIn_of_upon o a next _ h
def noDefer (o:Oper):Bool:=match o.op with
 | .defer _=>false
 | _=>true
theorem noDefer_ne {o:Oper} (h:noDefer o=true):∀ c,o.op ≠ .defer c:=by
 intro c e
 unfold noDefer at h
 rw [e] at h
 cases h
theorem wpOpIn_of (hn:ops.all noDefer=true) (hQ:¬ LetsOut Q) (i:Nat) (K K':Act→World→Prop) (hK:∀ a w,K a w→K' a w) (a:Act) (w:World) (h:wpOp P ops Q i K a w):wpOpIn (Fence.wide.inRound l) n P ops Q i K' a w:=by
 unfold wpOp at h
 unfold wpOpIn
 cases ho:ops[i]? with
 | none=>rw [ho] at h;exact hK _ _ h
 | some o =>
  rw [ho] at h
  dsimp only at h ⊢
  have hi:=Array.getElem?_eq_some_iff.1 ho
  have hnd:noDefer o=true:=by
   obtain ⟨h1,h2⟩:=hi
   rw [Array.all_eq_true] at hn
   rw [← h2]
   exact hn i h1
  by_cases hw:Region.wanted o (yielded ops a.tmps)=true
  ·rw [if_pos hw] at h ⊢
   rcases h with h | h
   ·exact Oper.wpIn_mono hK (opIn_of_op o a w K (noDefer_ne hnd) h)
   ·exact absurd h.2 hQ
  ·rw [if_neg hw] at h ⊢
   exact ⟨fun _ _=>trivial,hK _ _ h⟩
theorem wpAnyIn_of {md:Region.Mode} (hn:ops.all noDefer=true) (hQ:¬ LetsOut Q):∀ (fuel:Nat) (listed:Array Bool) (a:Act) (w:World),wpAny P md ops Q fuel listed a w→wpAnyIn (Fence.wide.inRound l) n P md ops Q fuel listed a w
 | 0,_,_,_,h=>h
 | fuel+1,_,_,_,h=>⟨h.1,fun i hi=>wpOpIn_of hn hQ i _ _ (fun a w hk=>wpAnyIn_of hn hQ fuel _ a w hk) _ _ (h.2 i hi)⟩
/-- A region within a round, walked by the rules for one outside. -/
theorem start_round {S:World→Prop} {ds:List Nat} {id k:Nat} {a:Act} {w:World} (lb:Array Bool) (hm:P.follows .mixedOrders=true) (hk:ops.size=k) (hl:Array.replicate k false=lb) (hn:ops.all noDefer=true) (hQ:¬ LetsOut Q) (hS:S w.drew)
  (h:S w.drew→wpAnyLast P .any ops Q S ds k lb a w.drew):(Code.region id ops true).wpIn (Fence.wide.inRound l) n P Q a w:=by
 subst hk
 subst hl
 exact wpIn_region_any hm (wpAnyIn_of hn hQ _ _ _ _ (wpAny_of_last _ _ _ _ (h hS)))
end
def parseT7:Bool × List (List Nat × List Nat):=(true,[([],[]),([0],[0]),([],[]),([2],[2]),([3],[3]),([],[]),([5],[5]),([6],[6]),([4,7],[4,7]),([8],[8]),([1,9],[1,9]),([0,1,2,3,4,5,6,7,8,9,10],[]),([11,10,10,0,1,2,3,4,5,6,7,8,9,10],[10,11])])
def parseB7:List Nat:=[0,1,0,4,12,0,32,96,252,508,1023,2047,4095]
theorem parse_tab7:rtab .any (opsOf Tryd.f11 7)=parseT7:=by kernel_rfl
theorem parse_bits7:waitsOk parseT7.2 parseB7=true:=by kernel_rfl
section
open Go.Shelf
attribute [local go_sem] Oper.semAt_some
set_option maxHeartbeats 4000000 in
set_option maxRecDepth 100000 in
theorem impl_ParseParty.odd (k:Nat) (a0:ByteArray) (hs:a0.size≤1048576) (n:Int) (l:List Int) (hn:numsV 12 (Lib.goFieldsP isSep a0)=some (n :: l)) (m:Nat) (hl:l.length=2 * m) (hm:m≤1048576) (w:World) (hT:Tz w)
  (g:Bool) (hg:impl_IsParty.f k n (psL l)=some g) (t:ByteArray) (ht:g=true→impl_partyText.f k n (psL l)=some t) (r1:Int) (r2:List (S50)) (r3:Bool) (hres:(r1,r2,r3)=if g=true∧t=a0 then (n,psL l,true) else (0,[],false)) :
  Calls Tryd.prog 11 #[.string a0] w fun e w'=>∃ v1_:Value,e=.returned (.tuple #[.agg #[.int .i64 r1,v1_],.bool r3])∧Kd.R k50 50 w' w.heap.size (fun _=>True) v1_ r2∧Below w.heap.size w w':=by
 have hu:=Tryd.underlying30
 have HT:=zz31 hT
 clear hT
 have cN:=zz31 (fun (W:World) (h:Tz W)=>numbersIn_calls a0 12 hs W h)
 rw [hn] at cN
 clear hn
 refine (callsIn_wide (n:=3)).1 ?_
 refine callsIn_of_wp_marks Tryd.func11 rfl trivial ?_ rfl
 simp only [Tryd.ntmps11,List.size_toArray,List.length_cons,List.length_nil,Nat.reduceAdd,Nat.reduceSub,Array.replicate_succ,Array.replicate_zero,List.push_toArray,List.append_toArray,List.nil_append,List.cons_append]
 refine wpIn_wide.2 ?_
 go_upto_region 4 with (first | ((with_reducible refine gate_dst (N := 2) rfl ?_); refine box_event ?hg (N := 2) ?hd (cs := #[.int .i64 0, .slice none 0 0]) (t := 30) ?hr ?_; (case hd => rfl); (case hg => rfl); (case hr => first | (go_simp; done) | (go_simp; rfl)); intro bo hbo wa hbox hb; have HXa := zz31 hbox; have HBa := zz31 (zz4 (w := w) (by repeat (first | exact Below.refl _ _ | apply zz0 | apply below_drew | apply zz2)) hb); have HBO := zz31 (show w.heap.size ≤ bo from by rw [hbo]; exact Nat.le_refl _); have f1 := zz9 HXa.out 0; have f2 := zz9 HXa.out 1; simp only [List.getElem?_toArray, List.getElem?_cons_zero, List.getElem?_cons_succ] at f1 f2; have f3 := zz10 HXa.out 0; have f4 := zz10 HXa.out 1; clear hbox hb hbo) | (go_at_call 22; refine (cN.out _ (HT.out.below HBa.out)).mono ?_; rintro e wb ⟨⟨v, hr, ho⟩, hb⟩; obtain rfl := hr; simp only [List.length_cons, hl] at ho; obtain ⟨gl, cl, rfl⟩ := ownsRow_succ ho; have HO := zz31 ho; have HBb := zz31 (zz4 HBa.out hb); have HXb := zz31 (zz11 HXa.out hb); have HGO := zz31 (Nat.lt_of_lt_of_le (blk_lt HXa.out) (own_base ho gl rfl)); clear ho hb f1 f2 f3 f4) | (fail "no arm"))
 have HCl:Aside0 (∀ j x,(n :: l)[j]?=some x→wb.cell? ⟨gl,j,none⟩=some (.int .i64 x)):=⟨fun j x hx=>by
  have hj:j < (2 * m+1) * 1:=by have:=(List.getElem?_eq_some_iff.1 hx).1;simp only [List.length_cons,hl] at this;omega
  rw [HO.out.cellAt j hj,List.getElem?_map,hx];rfl⟩
 have HCP:Aside0 (2 * m+1≤cl):=⟨by
  rcases HO.out.2 with ⟨h,_⟩ | ⟨g,cp,cur,h,_,_,h2,_⟩
  ·cases h
  ·cases h;exact h2⟩
 have HGL:=zz31 (own_lt HO.out gl rfl)
 have f5:=HCl.out 0 n rfl
 go_upto_region 5 with (first | ((with_reducible refine gate_dst (N := 6) rfl ?_); refine box_event ?hg (N := 6) ?hd (cs := #[.int .i64 0, .slice none 0 0]) (t := 30) ?hr ?_; (case hd => rfl); (case hg => rfl); (case hr => first | (go_simp; done) | (go_simp; rfl)); intro bp hbp wc hbox hb; have HXc := zz31 hbox; have HBc := zz31 hb; have HBP := zz31 (show wb.heap.size ≤ bp from by rw [hbp]; exact Nat.le_refl _); have g1 := zz9 HXc.out 0; have g2 := zz9 HXc.out 1; simp only [List.getElem?_toArray, List.getElem?_cons_zero, List.getElem?_cons_succ] at g1 g2; have g3 := zz10 HXc.out 0; have g4 := zz10 HXc.out 1; clear hbox hb hbp) | (fail "no arm"))
 have HXd:Aside0 (((wc.setCell ⟨bp,0,none⟩ (.int .i64 n)).setCell ⟨bp,1,none⟩ (.slice none 0 0)).heap[bp]?=some (.cells #[.int .i64 n,.slice none 0 0] 30 (0,0))):=⟨blk_put (cs:=#[.int .i64 n,.slice none 0 0]) (blk_put (cs:=#[.int .i64 0,.slice none 0 0]) HXc.out 0 _ rfl) 1 _ rfl⟩
 have HDd:Aside0 (Below wb.heap.size wb ((wc.setCell ⟨bp,0,none⟩ (.int .i64 n)).setCell ⟨bp,1,none⟩ (.slice none 0 0))):=⟨zz3 (zz3 HBc.out HBP.out) HBP.out⟩
 clear g1 g2 g3 g4 HXc HBc f5
 generalize ((wc.setCell ⟨bp,0,none⟩ (.int .i64 n)).setCell ⟨bp,1,none⟩ (.slice none 0 0))=wd at HXd HDd ⊢
 obtain ⟨A1,hA1,hsl⟩:=slice_tail gl m cl HCP.out
 have HA1:=zz31 hA1
 clear hA1
 go_wp2_with (first | (go_at_call 23; refine (chunk_any _ _ _ _).mono ?_; rintro e we ⟨rfl, rfl⟩) | (fail "no arm"))
 have HSZ:Aside0 (((wd.alloc (.cells #[.slice A1 (2 * m) (cl - 1)] 43)).alloc (.cells #[.int .i64 2] 3)).heap.size=wd.heap.size+2):=⟨by simp⟩
 have HDA:Aside0 (Below wd.heap.size wd ((wd.alloc (.cells #[.slice A1 (2 * m) (cl - 1)] 43)).alloc (.cells #[.int .i64 2] 3))):=⟨((Below.refl _ wd).alloc (Nat.le_refl _) _).alloc (by simp) _⟩
 have HBs:Aside0 (((wd.alloc (.cells #[.slice A1 (2 * m) (cl - 1)] 43)).alloc (.cells #[.int .i64 2] 3)).cell? ⟨wd.heap.size,0,none⟩=some (.slice A1 (2 * m) (cl - 1))):=⟨((Boxed.new wd 43 _).alloc _).cell⟩
 have HBn:Aside0 (((wd.alloc (.cells #[.slice A1 (2 * m) (cl - 1)] 43)).alloc (.cells #[.int .i64 2] 3)).cell? ⟨wd.heap.size+1,0,none⟩=some (.int .i64 2)):=⟨by simp⟩
 generalize ((wd.alloc (.cells #[.slice A1 (2 * m) (cl - 1)] 43)).alloc (.cells #[.int .i64 2] 3))=we at HSZ HDA HBs HBn ⊢
 have hbpd:=blk_lt HXd.out
 have hXe:we.heap[bp]?=some (.cells #[.int .i64 n,.slice none 0 0] 30 (0,0)):=(HDA.out.block bp hbpd).trans HXd.out
 have hDe:Below wb.heap.size wb we:=zz4 HDd.out HDA.out
 have hBe:Below w.heap.size w we:=zz4 HBb.out hDe
 have hCe:∀ j x,(n :: l)[j]?=some x→we.cell? ⟨gl,j,none⟩=some (.int .i64 x):=fun j x hx=>(hDe.cell (p:=⟨gl,j,none⟩) HGL.out).trans (HCl.out j x hx)
 have hsz:=HSZ.out
 have hgl:=HGL.out
 have hbp:=HBP.out
 have hinfo:(Tryd.prog.info? 50).map (fun i=>(i.zero,i.size,i.bytes))=some (some (.agg #[.int .i64 0,.int .i64 0]),2,16):=by kernel_rfl
 obtain ⟨i0,hi,hz0,hz1,hz2⟩:=info_parts hinfo
 have hwb:=HBb.out.size
 have hwbd:=HDd.out.size
 have hcp:=HCP.out
 refine (wpIn_wide (n:=3)).1 ?_
 refine wpIn_rangeFunc_ownG rfl (by omega) (gf:=42) (lb:=#[.pointer (some ⟨wd.heap.size,0,none⟩),.pointer (some ⟨wd.heap.size+1,0,none⟩)]) rfl trivial (enters_of Tryd.func42 (by kernel_rfl) rfl)
  (chunk_stops 2 (by omega) wd.heap.size (wd.heap.size+1) gl (cl - 1) m (wd.heap.size+2) bp A1 HA1.out (by omega) (by omega) we (by omega) (by omega) (by omega) (by omega) HBs.out HBn.out)
  (fun h k=>KpX.trans h k) (KpX.put (by omega)) (Below.refl _ _) (fun _=>rfl)
  (PI w we bp (wd.heap.size+2) n l) (fun _ _ _=>False) (PI.own (by omega) (by omega) (by omega)) (fun _ _ _ _ _ hs _ _=>hs)
  ⟨⟨_,hXe,World.ownsRow_nil _ _ _ _⟩,KpX.refl _ _ _,hBe⟩
  (fun x=>{ tmps:=#[.string a0,undef,.pointer (some ⟨bo,0,none⟩),.bool false,.slice (some ⟨gl,0,none⟩) (2 * m+1) cl,.bool true,.pointer (some ⟨bp,0,none⟩),.slice (some ⟨gl,1+2 * x.val,none⟩) 2 2,
   .tuple #[.slice (some ⟨gl,0,none⟩) (2 * m+1) cl,.bool true],.string a0,.tuple #[.slice (some ⟨gl,0,none⟩) (2 * m+1) cl,.bool true],.slice (some ⟨gl,0,none⟩) (2 * m+1) cl,.bool true,.bool true,.bool false,.bool false,.slice (some ⟨gl,0,none⟩) (2 * m+1) cl,.int .i64 (2 * (m:Int)+1),.int .i64 1,.bool false,.bool false,undef,
   .slice (some ⟨gl,0,none⟩) (2 * m+1) cl,.pointer (some ⟨gl,0,none⟩),.int .i64 n,.agg #[.int .i64 n,.slice none 0 0],.slice (some ⟨gl,0,none⟩) (2 * m+1) cl,.slice A1 (2 * m) (cl - 1),.func (.func 42) #[] #[.pointer (some ⟨wd.heap.size,0,none⟩),.pointer (some ⟨wd.heap.size+1,0,none⟩)],
   .slice (some ⟨gl,1+2 * x.val,none⟩) 2 2,undef,undef,undef,undef,undef,undef,undef,undef,undef,undef,undef,undef,undef,undef,undef,undef,undef,undef,undef,undef,undef,undef,undef],defers:=[] }) ?assign ?body ?done ?stop
 case assign =>
  intro l' x W K hK
  gi_wp2
  exact hK
 case stop =>
  rintro D c pre W _ _ h _
  exact h.elim
 case body =>
  rintro l' pre x W hI hlt
  obtain ⟨v,hv,hrow⟩:=hI.row
  obtain ⟨hpa,hpb⟩:=pairAt_cells l m hl n x
  have fa:=hI.kept.cell (hCe _ _ hpa) (by omega) (by omega)
  have fb:=hI.kept.cell (hCe _ _ hpb) (by omega) (by omega)
  have f1:=zz9 hv 1
  simp only [List.getElem?_toArray,List.getElem?_cons_zero,List.getElem?_cons_succ] at f1
  have f2:=zz10 hv 1
  generalize hP:pairAt l x=P at *
  have f3:=zz9 (zz8 hv (.cells #[.int .i64 P.f0,.int .i64 P.f1] 50)) 1
  simp only [List.getElem?_toArray,List.getElem?_cons_zero,List.getElem?_cons_succ] at f3
  have HLB:Aside0 (bp < wd.heap.size+2∧w.heap.size≤bp∧wd.heap.size+2≤we.heap.size):=⟨by omega,by omega,by omega⟩
  have HI:=zz31 hI
  have HR:=zz31 hrow
  have HV:=zz31 hv
  have HLW:Aside0 (wd.heap.size+2≤W.heap.size):=⟨by have:=hI.kept.size;omega⟩
  clear hI hrow hv hpa hpb hsl hXe hDe hBe hCe hsz hgl hbp hinfo hwb hwbd hcp
  gi_wp2
  refine start_round (k:=13) (S:=fun w'=>w'.cell? ⟨bp,1,none⟩=some v∧w'.cell? ⟨gl,1+2 * x.val,none⟩=some (.int .i64 P.f0)∧w'.cell? ⟨gl,1+2 * x.val+1,none⟩=some (.int .i64 P.f1)) (ds:=[10,12]) #[F,F,F,F,F,F,F,F,F,F,F,F,F] (by kernel_rfl) rfl rfl (by kernel_rfl) (fun h9=>by obtain ⟨_,_,h9⟩:=h9;exact h9) ⟨f1,fa,fb⟩ (fun hHeld=>?_)
  refine with_tabW parse_tab7 parse_bits7 (fun HT_ HW_=>?_)
  refine pure_ (i:=0) (N:=some 30) (v:=?_) (a':=?_) #[T,F,F,F,F,F,F,F,F,F,F,F,F] rfl rfl (any_of HT_.out (by kernel_rfl)) (fun _ _ _ h=>h) (Or.inl ⟨by rfl,?_⟩) ?_ ?_
  rotate_left
  ·intro w'
   go_simp
   with_reducible rfl
  rotate_left
  ·simp only [Act.put,zz21,zz22,zz23]
   rfl
  refine pure_ (i:=2) (N:=some 32) (v:=?_) (a':=?_) #[T,F,T,F,F,F,F,F,F,F,F,F,F] rfl rfl (any_of HT_.out (by kernel_rfl)) (fun _ _ _ h=>h) (Or.inl ⟨by rfl,?_⟩) ?_ ?_
  rotate_left
  ·intro w'
   go_simp
   with_reducible rfl
  rotate_left
  ·simp only [Act.put,zz21,zz22,zz23]
   rfl
  refine pure_ (i:=3) (N:=some 33) (v:=?_) (a':=?_) #[T,F,T,T,F,F,F,F,F,F,F,F,F] rfl rfl (any_of HT_.out (by kernel_rfl)) (fun _ _ _ h=>h) (Or.inl ⟨by rfl,?_⟩) ?_ ?_
  rotate_left
  ·intro w'
   go_simp
   with_reducible rfl
  rotate_left
  ·simp only [Act.put,zz21,zz22,zz23]
   rfl
  refine pure_ (i:=5) (N:=some 35) (v:=?_) (a':=?_) #[T,F,T,T,F,T,F,F,F,F,F,F,F] rfl rfl (any_of HT_.out (by kernel_rfl)) (fun _ _ _ h=>h) (Or.inl ⟨by rfl,?_⟩) ?_ ?_
  rotate_left
  ·intro w'
   go_simp
   with_reducible rfl
  rotate_left
  ·simp only [Act.put,zz21,zz22,zz23]
   rfl
  refine pure_ (i:=6) (N:=some 36) (v:=?_) (a':=?_) #[T,F,T,T,F,T,T,F,F,F,F,F,F] rfl rfl (any_of HT_.out (by kernel_rfl)) (fun _ _ _ h=>h) (Or.inl ⟨by rfl,?_⟩) ?_ ?_
  rotate_left
  ·intro w'
   go_simp
   with_reducible rfl
  rotate_left
  ·simp only [Act.put,zz21,zz22,zz23]
   rfl
  refine take_ (i:=1) (N:=some 31) (v:=?_) (a':=?_) #[T,T,T,T,F,T,T,F,F,F,F,F,F] rfl rfl (take_ofW HT_.out HW_.out (by kernel_rfl)) (fun _ _ _ h=>h) (Or.inl ⟨by rfl,?_⟩) hHeld ?_ ?_
  rotate_left
  ·rintro w' ⟨s0,s1,s2⟩
   go_simp
   with_reducible rfl
  rotate_left
  ·simp only [Act.put,zz21,zz22,zz23]
   rfl
  refine take_ (i:=4) (N:=some 34) (v:=?_) (a':=?_) #[T,T,T,T,T,T,T,F,F,F,F,F,F] rfl rfl (take_ofW HT_.out HW_.out (by kernel_rfl)) (fun _ _ _ h=>h) (Or.inl ⟨by rfl,?_⟩) hHeld ?_ ?_
  rotate_left
  ·rintro w' ⟨s0,s1,s2⟩
   go_simp
   with_reducible rfl
  rotate_left
  ·simp only [Act.put,zz21,zz22,zz23]
   rfl
  refine take_ (i:=7) (N:=some 37) (v:=?_) (a':=?_) #[T,T,T,T,T,T,T,T,F,F,F,F,F] rfl rfl (take_ofW HT_.out HW_.out (by kernel_rfl)) (fun _ _ _ h=>h) (Or.inl ⟨by rfl,?_⟩) hHeld ?_ ?_
  rotate_left
  ·rintro w' ⟨s0,s1,s2⟩
   go_simp
   with_reducible rfl
  rotate_left
  ·simp only [Act.put,zz21,zz22,zz23]
   rfl
  refine pure_ (i:=8) (N:=some 38) (v:=?_) (a':=?_) #[T,T,T,T,T,T,T,T,T,F,F,F,F] rfl rfl (any_of HT_.out (by kernel_rfl)) (fun _ _ _ h=>h) (Or.inl ⟨by rfl,?_⟩) ?_ ?_
  rotate_left
  ·intro w'
   go_simp
   with_reducible rfl
  rotate_left
  ·simp only [Act.put,zz21,zz22,zz23]
   rfl
  refine one_ (i:=9) (N:=some 39) #[T,T,T,T,T,T,T,T,T,T,F,F,F] rfl rfl (one_of HT_.out (by kernel_rfl)) (by decide) (fun K hK=>?_)
  refine value_ (w1:=?_) (v:=?_) (by rfl) rfl ?_ ?_
  rotate_left 2
  ·go_simp
   constructor
   ·rfl
   ·rfl
  refine hK.out _ _ ⟨f3,(World.cell?_alloc_lt _ _ _ (World.block_lt_of_cell? _ _ fa)).trans fa,(World.cell?_alloc_lt _ _ _ (World.block_lt_of_cell? _ _ fb)).trans fb⟩ (fun hHeld=>?_)
  clear hK K
  refine norm_ (a':=?_) ?_ ?_
  rotate_left
  ·show Act.put _ (some 39) _=_
   simp only [Act.put,zz21,zz22,zz23]
   rfl
  refine last_ (i:=10) (N:=some 40) #[T,T,T,T,T,T,T,T,T,T,T,F,F] rfl rfl (one_of HT_.out (by kernel_rfl)) (by decide) (fun K hK=>?_)
  rw [if_pos (by rfl)]
  refine wp_append_own _ (.tmp 31) (.tmp 39) 28 rfl (wd.heap.size+2) 50 i0 (.agg #[.int .i64 0,.int .i64 0]) 2 16 Tryd.underlying28 hi hz0 hz1 hz2 rfl (by decide) v pre.length _ rfl (World.ownsRow.drew (HR.out.alloc _)) ⟨W.heap.size,0,none⟩ 1 1 [.int .i64 P.f0,.int .i64 P.f1] rfl rfl (cell_two_new' W _ _ _) (by simp [Value.oneCell']) (by simp only [maxLen];omega) (by omega) (Nat.le_trans HLW.out (show W.heap.size≤(W.alloc _).heap.size from by rw [World.size_alloc];exact Nat.le_succ _)) ?_
  intro v' w1 hown' hgrow _
  obtain ⟨g',cap',rfl⟩:=ownsRow_succ hown'
  have hlb:bp < ((W.alloc (.cells #[.int .i64 P.f0,.int .i64 P.f1] 50)).drew).heap.size:=Nat.lt_of_lt_of_le (blk_lt HV.out) (show W.heap.size≤(W.alloc _).heap.size from by rw [World.size_alloc];exact Nat.le_succ _)
  have hv1:w1.heap[bp]?=some (.cells #[.int .i64 n,v] 30 (0,0)):=(hgrow.block bp hlb (own_ne HR.out HV.out (by decide))).trans (zz7 (zz8 HV.out _))
  have h1:=zz9 hv1 1
  simp only [List.getElem?_toArray,List.getElem?_cons_zero,List.getElem?_cons_succ] at h1
  have h2:=zz10 hv1 1
  have HOW:=zz31 hown'
  have HGR:=zz31 hgrow
  clear hown' hgrow hv1 hlb
  refine hK.out _ _ ?_
  clear hK K
  refine norm_ (a':=?_) ?_ ?_
  rotate_left
  ·show Act.put _ (some 40) _=_
   simp only [Act.put,zz21,zz22,zz23]
   rfl
  refine pure_ (i:=11) (N:=some 41) (v:=?_) (a':=?_) #[T,T,T,T,T,T,T,T,T,T,T,T,F] rfl rfl (any_of HT_.out (by kernel_rfl)) (fun _ _ _ h=>h) (Or.inl ⟨by rfl,?_⟩) ?_ ?_
  rotate_left
  ·intro w'
   go_simp
   with_reducible rfl
  rotate_left
  ·simp only [Act.put,zz21,zz22,zz23]
   rfl
  refine last_ (i:=12) (N:=none) #[T,T,T,T,T,T,T,T,T,T,T,T,T] rfl rfl (one_of HT_.out (by kernel_rfl)) (by decide) (fun K hK=>?_)
  refine skip_ (w1:=?_) (by rfl) rfl ?_ ?_
  rotate_left
  ·go_simp
   rfl
  refine hK.out _ _ ?_
  clear hK K
  refine done_ (done_of HT_.out (by kernel_rfl)) ?_
  exact PI.step HI.out HV.out HR.out HLB.out.1 HLB.out.2.1 HLB.out.2.2 (by rw [hP];exact HOW.out) HGR.out
 case done =>
  rintro D ys W hD rfl hI hK
  obtain ⟨v,hv,hrow⟩:=hI.row
  have e:=psL_fin l m hl
  have hlen:(List.finRange m).length=(psL l).length:=by rw [← e,List.length_map]
  rw [hlen,e] at hrow
  obtain ⟨A,c,rfl⟩:=own_slice hrow
  have hrd:=Kd.R_reads' (R_pairs hrow)
  have hdl:D < W.heap.size:=(Array.getElem?_eq_some_iff.1 hK).1
  have hbob:=blk_lt HXb.out
  have hbod:bo < we.heap.size:=by omega
  have hxo:W.heap[bo]?=some (.cells #[.int .i64 0,.slice none 0 0] 30 (0,0)):=(hI.kept.same bo (by omega) (by omega) hbod).trans ((hDe.block bo (by omega)).trans HXb.out)
  have HFIN:Aside0 (∀ (w6:World) (x y:Value) (u:Value) (ps:List (S50)),Below W.heap.size W w6→w6.ownsRow w.heap.size 50 2 u ps.length (pairCells ps)→w6.heap[bo]?=some (.cells #[.int .i64 0,.slice none 0 0] 30 (0,0)) →
    ((w6.setCell ⟨bo,0,none⟩ x).setCell ⟨bo,1,none⟩ y).heap[D]?=some (.deferred (some [])) ∧
    (((w6.setCell ⟨bo,0,none⟩ x).setCell ⟨bo,1,none⟩ y).putObj D (.deferred none)).heap[bo]?=some (.cells #[x,y] 30 (0,0)) ∧
    (((w6.setCell ⟨bo,0,none⟩ x).setCell ⟨bo,1,none⟩ y).putObj D (.deferred none)).ownsRow w.heap.size 50 2 u ps.length (pairCells ps) ∧
    Below w.heap.size w (((w6.setCell ⟨bo,0,none⟩ x).setCell ⟨bo,1,none⟩ y).putObj D (.deferred none))):=⟨by
   intro w6 x y u ps hb ho hx
   have hne:D ≠ bo:=by omega
   have hk6:w6.heap[D]?=some (.deferred (some [])):=(hb.block D hdl).trans hK
   have hk:((w6.setCell ⟨bo,0,none⟩ x).setCell ⟨bo,1,none⟩ y).heap[D]?=some (.deferred (some [])):=(Below.heap_setCell _ ⟨bo,1,none⟩ y D hne).trans ((Below.heap_setCell _ ⟨bo,0,none⟩ x D hne).trans hk6)
   have hx2:((w6.setCell ⟨bo,0,none⟩ x).setCell ⟨bo,1,none⟩ y).heap[bo]?=some (.cells #[x,y] 30 (0,0)):=blk_put (cs:=#[x,.slice none 0 0]) (blk_put (cs:=#[.int .i64 0,.slice none 0 0]) hx 0 _ rfl) 1 _ rfl
   have hx1:(w6.setCell ⟨bo,0,none⟩ x).heap[bo]?=some (.cells #[x,.slice none 0 0] 30 (0,0)):=blk_put (cs:=#[.int .i64 0,.slice none 0 0]) hx 0 _ rfl
   have ho1:=own_setCell ho (p:=⟨bo,0,none⟩) (own_ne ho hx (by decide)) x
   have ho2:=own_setCell ho1 (p:=⟨bo,1,none⟩) (own_ne ho1 hx1 (by decide)) y
   refine ⟨hk,((grownBy_putObj' _ D _).block bo (Array.getElem?_eq_some_iff.1 hx2).1 (fun e9=>hne (Option.some.inj e9).symm)).trans hx2,ownsRow_putObj ho2 _ hk rfl,?_⟩
   have hb6:Below w.heap.size w w6:=zz4 hI.bel hb
   have hb7:Below w.heap.size w ((w6.setCell ⟨bo,0,none⟩ x).setCell ⟨bo,1,none⟩ y):=zz3 (zz3 hb6 HBO.out) HBO.out
   exact hb7.grown (grownBy_putObj' _ D _) hb7.size (fun q e9=>by cases e9;omega)⟩
  have cI:=zz31 (impl_IsParty.calls k n A c (psL l) g W hrd.2.2 hrd.2.1 hg)
  have cT:=zz31 (fun (h:g=true) (W1:World) (hb:Below W.heap.size W W1)=>impl_partyText.calls k n A c (psL l) t W1 (Kd.C_below hrd.2.2 hb) hrd.2.1 (ht h))
  have HV:=zz31 hv
  have HXo:=zz31 hxo
  have HRW:=zz31 (own_weaken (base':=w.heap.size) hrow (by omega))
  have HRES:=zz31 hres
  have f1:=zz9 HV.out 0;have f2:=zz9 HV.out 1;simp only [List.getElem?_toArray,List.getElem?_cons_zero,List.getElem?_cons_succ] at f1 f2
  clear hI hv hxo hrow hrd hdl hbod hbob hK hsl hXe hDe hBe hCe hsz hgl hbp hinfo hwb hwbd hcp hlen e hD hg ht hres
  cases g with
  | false =>
   clear cT
   have hr9:=HRES.out
   simp only [Bool.false_eq_true,false_and,if_false,Prod.mk.injEq] at hr9
   obtain ⟨rfl,rfl,rfl⟩:=hr9
   clear HRES
   go_wp2_with (first | (go_at_call 18; refine cI.out.mono ?_; rintro e w5 ⟨rfl, hb⟩; have HB5 := zz31 hb; have HV5 := zz31 (zz11 HV.out hb); have HX5 := zz31 (zz11 HXo.out hb); clear hb f1 f2; have f1 := zz9 HV5.out 0; have f2 := zz9 HV5.out 1; simp only [List.getElem?_toArray, List.getElem?_cons_zero, List.getElem?_cons_succ] at f1 f2; have g1 := zz9 HX5.out 0; have g2 := zz9 HX5.out 1; simp only [List.getElem?_toArray, List.getElem?_cons_zero, List.getElem?_cons_succ] at g1 g2; have g3 := zz10 HX5.out 0; have g4 := zz10 HX5.out 1) | (fail "no arm"))
   obtain ⟨q1,q2,q3,q4⟩:=HFIN.out _ (.int .i64 0) (.slice none 0 0) (.slice none 0 0) [] HB5.out (World.ownsRow_nil _ _ _ _) HX5.out
   refine ⟨by simp,.inl ⟨_,_,rfl,run_takeDeferred q1,?_⟩⟩
   exact ⟨_,results_ct rfl _ _ bo 30 #[.int .i64 0,.slice none 0 0] (0,0) _ rfl q2 Tryd.underlying30 rfl (by kernel_rfl),_,rfl,R_pairs q3,q4⟩
  | true =>
   have cT2:=zz31 (fun (W1:World) (hb:Below W.heap.size W W1)=>cT.out rfl W1 hb)
   clear cT
   by_cases hta:t=a0
   ·subst hta
    have hr9:=HRES.out
    simp only [and_self,if_true,Prod.mk.injEq] at hr9
    obtain ⟨rfl,rfl,rfl⟩:=hr9
    clear HRES
    go_wp2_with (first | (go_at_call 18; refine cI.out.mono ?_; rintro e w5 ⟨rfl, hb⟩; have HB5 := zz31 hb; have HV5 := zz31 (zz11 HV.out hb); have HX5 := zz31 (zz11 HXo.out hb); clear hb f1 f2; have f1 := zz9 HV5.out 0; have f2 := zz9 HV5.out 1; simp only [List.getElem?_toArray, List.getElem?_cons_zero, List.getElem?_cons_succ] at f1 f2; have g1 := zz9 HX5.out 0; have g2 := zz9 HX5.out 1; simp only [List.getElem?_toArray, List.getElem?_cons_zero, List.getElem?_cons_succ] at g1 g2; have g3 := zz10 HX5.out 0; have g4 := zz10 HX5.out 1) | (go_at_call 19; refine (cT2.out _ HB5.out).mono ?_; rintro e w6 ⟨rfl, hb⟩; have HB6 := zz31 (zz4 HB5.out hb); have HV6 := zz31 (zz11 HV5.out hb); have HX6 := zz31 (zz11 HX5.out hb); clear hb f1 f2 g1 g2 g3 g4; have f1 := zz9 HV6.out 0; have f2 := zz9 HV6.out 1; simp only [List.getElem?_toArray, List.getElem?_cons_zero, List.getElem?_cons_succ] at f1 f2; have g1 := zz9 HX6.out 0; have g2 := zz9 HX6.out 1; simp only [List.getElem?_toArray, List.getElem?_cons_zero, List.getElem?_cons_succ] at g1 g2; have g3 := zz10 HX6.out 0; have g4 := zz10 HX6.out 1) | (fail "no arm"))
    obtain ⟨q1,q2,q3,q4⟩:=HFIN.out _ (.int .i64 r1) (.slice A (psL l).length c) _ _ HB6.out (pw_own_below HRW.out HB6.out) HX6.out
    refine ⟨by simp,.inl ⟨_,_,rfl,run_takeDeferred q1,?_⟩⟩
    exact ⟨_,results_ct rfl _ _ bo 30 #[.int .i64 r1,.slice A (psL l).length c] (0,0) _ rfl q2 Tryd.underlying30 rfl (by kernel_rfl),_,rfl,R_pairs q3,q4⟩
   ·have heq:=str_ne hta
    have hr9:=HRES.out
    rw [if_neg (show ¬ (true=true∧t=a0) from fun h9=>hta h9.2)] at hr9
    simp only [Prod.mk.injEq] at hr9
    obtain ⟨rfl,rfl,rfl⟩:=hr9
    clear HRES hta
    go_wp2_with (first | (go_at_call 18; refine cI.out.mono ?_; rintro e w5 ⟨rfl, hb⟩; have HB5 := zz31 hb; have HV5 := zz31 (zz11 HV.out hb); have HX5 := zz31 (zz11 HXo.out hb); clear hb f1 f2; have f1 := zz9 HV5.out 0; have f2 := zz9 HV5.out 1; simp only [List.getElem?_toArray, List.getElem?_cons_zero, List.getElem?_cons_succ] at f1 f2; have g1 := zz9 HX5.out 0; have g2 := zz9 HX5.out 1; simp only [List.getElem?_toArray, List.getElem?_cons_zero, List.getElem?_cons_succ] at g1 g2; have g3 := zz10 HX5.out 0; have g4 := zz10 HX5.out 1) | (go_at_call 19; refine (cT2.out _ HB5.out).mono ?_; rintro e w6 ⟨rfl, hb⟩; have HB6 := zz31 (zz4 HB5.out hb); have HV6 := zz31 (zz11 HV5.out hb); have HX6 := zz31 (zz11 HX5.out hb); clear hb f1 f2 g1 g2 g3 g4; have f1 := zz9 HV6.out 0; have f2 := zz9 HV6.out 1; simp only [List.getElem?_toArray, List.getElem?_cons_zero, List.getElem?_cons_succ] at f1 f2; have g1 := zz9 HX6.out 0; have g2 := zz9 HX6.out 1; simp only [List.getElem?_toArray, List.getElem?_cons_zero, List.getElem?_cons_succ] at g1 g2; have g3 := zz10 HX6.out 0; have g4 := zz10 HX6.out 1) | (fail "no arm"))
    obtain ⟨q1,q2,q3,q4⟩:=HFIN.out _ (.int .i64 0) (.slice none 0 0) (.slice none 0 0) [] HB6.out (World.ownsRow_nil _ _ _ _) HX6.out
    refine ⟨by simp,.inl ⟨_,_,rfl,run_takeDeferred q1,?_⟩⟩
    exact ⟨_,results_ct rfl _ _ bo 30 #[.int .i64 0,.slice none 0 0] (0,0) _ rfl q2 Tryd.underlying30 rfl (by kernel_rfl),_,rfl,R_pairs q3,q4⟩
end
theorem numsV_len (mx:Int):∀ (ws:List ByteArray) (l:List Int),numsV mx ws=some l→l.length=ws.length
 | [],l,h=>by simp only [numsV,Option.some.injEq] at h;subst h;rfl
 | x :: ws,l,h=>by
  unfold numsV at h
  cases hx:numV x mx with
  | none=>rw [hx] at h;exact absurd h (by simp)
  | some v =>
   rw [hx] at h
   dsimp only at h
   cases hr:numsV mx ws with
   | none=>rw [hr] at h;exact absurd h (by simp)
   | some l' =>
    rw [hr] at h
    simp only [Option.map_some,Option.some.injEq] at h
    subst h
    simp only [List.length_cons]
    rw [numsV_len mx ws l' hr]
theorem impl_ParseParty.calls (k:Nat) (a0:ByteArray) (r1:Int) (r2:List (S50)) (r3:Bool) (w:World) (h:impl_ParseParty.f k a0=some (r1,r2,r3)) (hT:Tz w) :
  Calls Tryd.prog 11 #[.string a0] w fun e w'=>∃ v1_:Value,e=.returned (.tuple #[.agg #[.int .i64 r1,v1_],.bool r3])∧Kd.R k50 50 w' w.heap.size (fun _=>True) v1_ r2∧Below w.heap.size w w':=by
 unfold impl_ParseParty.f at h
 by_cases hs:a0.size≤1048576
 case neg=>rw [if_neg hs] at h;exact absurd h (by simp)
 rw [if_pos hs] at h
 cases hn:numsV 12 (Lib.goFieldsP isSep a0) with
 | none =>
  rw [hn] at h
  simp only [Option.some.injEq,Prod.mk.injEq] at h
  obtain ⟨rfl,rfl,rfl⟩:=h
  exact impl_ParseParty.no a0 hs w hT (.inl hn)
 | some l =>
  cases l with
  | nil =>
   rw [hn] at h
   simp only [Option.some.injEq,Prod.mk.injEq] at h
   obtain ⟨rfl,rfl,rfl⟩:=h
   exact impl_ParseParty.no a0 hs w hT (.inr ⟨_,hn,rfl⟩)
  | cons n l =>
   rw [hn] at h
   dsimp only at h
   by_cases he:l.length % 2=0
   ·rw [if_pos he] at h
    have hl:l.length≤1048576:=by
     have h1:=numsV_len 12 _ _ hn
     have h2:=fields_le isSep a0
     simp only [List.length_cons] at h1
     omega
    obtain ⟨g,hg,h⟩:=zz30.1 h
    cases g with
    | false =>
     simp only [Bool.false_eq_true,if_false,Option.some.injEq] at h
     exact impl_ParseParty.odd k a0 hs n l hn (l.length / 2) (by omega) (by omega) w hT false hg a0 (fun h9=>by cases h9) r1 r2 r3 (by rw [if_neg (by simp)];exact h.symm)
    | true =>
     rw [if_pos rfl] at h
     obtain ⟨t,ht,h⟩:=zz30.1 h
     refine impl_ParseParty.odd k a0 hs n l hn (l.length / 2) (by omega) (by omega) w hT true hg t (fun _=>ht) r1 r2 r3 ?_
     by_cases hta:t=a0
     ·rw [if_pos hta] at h
      rw [if_pos ⟨rfl,hta⟩]
      exact (Option.some.inj h).symm
     ·rw [if_neg hta] at h
      rw [if_neg (fun h9=>hta h9.2)]
      exact (Option.some.inj h).symm
   ·rw [if_neg he] at h
    simp only [Option.some.injEq,Prod.mk.injEq] at h
    obtain ⟨rfl,rfl,rfl⟩:=h
    exact impl_ParseParty.no a0 hs w hT (.inr ⟨_,hn,by simp only [List.length_cons];omega⟩)

/-! ### laws_markPairS: function 24 -/
def laws_markPairS.l0:Nat→List (S50)→Int→Int→Option (Int × (List (S50)))
 | 0,_,_,_=>none
 | k+1,x0,x1,x5=>if x5 < (x0.length:Int) then (if 0≤x5 then ((some (x0.set (x5:Int).toNat (⟨x1,(rd_T50 x0 x5).f1⟩:S50):List (S50))).bind fun y193=>(laws_markPairS.l0 k (y193.set (x5:Int).toNat (⟨(rd_T50 y193 x5).f0,wrap64 (x1+1)⟩:S50)) (wrap64 ((wrap64 (x1+1))+1)) (wrap64 (x5+1)))) else (none)) else (some (x1,x0))
def laws_markPairS.f (k:Nat) (l0:List (S50)) (a1:Int):Option (Int × (List (S50))):=laws_markPairS.l0 k l0 a1 0
theorem laws_markPairS.mono_l:∀ k,(∀ y0 y1 y2,LeO (laws_markPairS.l0 k y0 y1 y2) (laws_markPairS.l0 (k+1) y0 y1 y2))
 | 0=>fun _ _ _ r h=>by simp [laws_markPairS.l0] at h
 | k+1=>by
  have ih0:=laws_markPairS.mono_l k
  ·intro y0 y1 y2
   unfold laws_markPairS.l0
   repeat' first
   | (with_reducible exact ih0 _ _ _)
   | (with_reducible exact LeO.refl _)
   | (with_reducible exact LeO.none _)
   | (with_reducible refine LeO.ite ?_ ?_)
   | (with_reducible refine LeO.bind ?_ (fun _=>?_))
   | exact ih0 _ _ _
   | exact LeO.none _
   | refine LeO.ite ?_ ?_
   | refine LeO.bind ?_ (fun _=>?_)
theorem laws_markPairS.mono:∀ a0 a1 k,LeO (laws_markPairS.f k a0 a1) (laws_markPairS.f (k+1) a0 a1):=by
 intro a0 a1 k
 have ih0:=laws_markPairS.mono_l k
 unfold laws_markPairS.f
 repeat' first
   | (with_reducible exact ih0 _ _ _)
   | (with_reducible exact LeO.refl _)
   | (with_reducible exact LeO.none _)
   | (with_reducible refine LeO.ite ?_ ?_)
   | (with_reducible refine LeO.bind ?_ (fun _=>?_))
   | exact ih0 _ _ _
   | exact LeO.none _
   | refine LeO.ite ?_ ?_
   | refine LeO.bind ?_ (fun _=>?_)
set_option maxHeartbeats 8000000 in
set_option maxRecDepth 100000 in
theorem laws_markPairS.calls (k:Nat) (P0_:Nat→Prop) (u9000_:Value) (l0:List (S50)) (a1:Int) (r1:Int) (r2:List (S50)) (w0 w:World) (hB:Below w0.heap.size w0 w) (ho0:Kd.R k50 50 w w0.heap.size P0_ u9000_ l0) (h:laws_markPairS.f k l0 a1=some (r1,r2)) :
  Calls Tryd.prog 24 #[u9000_,.int .i64 a1] w fun e w'=>e=.returned (.int .i64 r1)∧Kd.R k50 50 w' w0.heap.size (fun k_=>(P0_ k_ ∨ w.heap.size≤k_)) u9000_ r2∧Below w0.heap.size w0 w'∧Kept w w' (fun k_=>P0_ k_):=by
 have HO0:=zz31 (show Kd.R k50 50 w w0.heap.size (fun k_=>(P0_ k_ ∨ w.heap.size≤k_)) u9000_ l0 from Kd.R_mono ho0 (fun k_ hk=>(.inl hk)))
 have HK:=zz31 (Kept.refl w (fun k_=>P0_ k_))
 have HW0:=zz31 hB.size
 have HB:=zz31 hB
 clear hB
 have H:(laws_markPairS.l0 k l0 a1 0)=some (r1,r2):=h
 clear h
 have H':=zz31 H
 clear H
 go_enter Tryd.func24,Tryd.ntmps24
 go_wp2
 go_loopg [1,5] k (fun kq v1 v5 w'=>∃ (x0_1:List (S50)) (x1_1:Int) (x5_1:Int),v1=.int .i64 x1_1∧v5=.int .i64 x5_1∧Aside0 (laws_markPairS.l0 kq x0_1 x1_1 x5_1=some (r1,r2))∧Aside0 (kq≤k)∧Aside0 (Kd.R k50 50 w' w0.heap.size (fun k_=>(P0_ k_ ∨ w.heap.size≤k_)) u9000_ x0_1)∧Aside0 (Kept w w' (fun k_=>P0_ k_))∧Aside0 (Below w0.heap.size w0 w'))
 case atStart=>exact ⟨(l0),(a1),(0),(by first | rfl | (simp;done) | (simp [*];done)),(by first | rfl | (simp;done) | (simp [*];done)),H',⟨Nat.le_refl _⟩,⟨by (with_reducible repeat (first | apply zz12 | apply zz13 | apply zz14));exact HO0.out⟩,⟨by repeat (first | (with_reducible first | exact HK.out | apply Kept.alloc | apply Kept.drewN | apply Kept.drew) | exact HK.out)⟩,⟨by repeat first | exact HB.out | apply zz2 | apply zz0 | apply zz1⟩⟩
 case round =>
  clear H'
  try clear c2
  try clear p2
  obtain ⟨x0_1,x1_1,x5_1,rfl,rfl,HA,HK1,HO_0,HK,HB⟩:=hrel
  cases gk with
  | zero=>exact absurd HA.out (by simp [laws_markPairS.l0])
  | succ k1 =>
   have H:=HA.out
   clear HA
   simp only [laws_markPairS.l0] at H
   by_cases c3:x5_1 < (x0_1.length:Int)
   ·rw [if_pos c3] at H
    have c3b0:decide (x5_1 < (x0_1.length:Int))=true:=decide_eq_true c3
    clear c3
    by_cases c4:0≤x5_1
    ·rw [if_pos c4] at H
     have c4b0:decide (0≤x5_1)=true:=decide_eq_true c4
     clear c4
     obtain ⟨y193,hy193⟩:∃ y_:List (S50),y_=(x0_1.set (x5_1:Int).toNat (⟨x1_1,(rd_T50 x0_1 x5_1).f1⟩:S50)):=⟨_,rfl⟩
     replace H:(laws_markPairS.l0 k1 (y193.set (x5_1:Int).toNat (⟨(rd_T50 y193 x5_1).f0,wrap64 (x1_1+1)⟩:S50)) (wrap64 ((wrap64 (x1_1+1))+1)) (wrap64 (x5_1+1)))=some (r1,r2):=by first | (rw [hy193];with_reducible exact H) | (have H2_:=(Option.bind_some _ _).symm.trans H;rw [hy193];with_reducible exact H2_) | (have H2_:=(Option.bind_some _ _).symm.trans H;with_reducible exact H2_) | with_reducible exact H | (rw [hy193];exact H) | exact H
     have Ny193:=zz31 hy193
     clear hy193
     obtain ⟨y194,hy194⟩:∃ y_:List (S50),y_=(y193.set (x5_1:Int).toNat (⟨(rd_T50 y193 x5_1).f0,wrap64 (x1_1+1)⟩:S50)):=⟨_,rfl⟩
     replace H:(laws_markPairS.l0 k1 y194 (wrap64 ((wrap64 (x1_1+1))+1)) (wrap64 (x5_1+1)))=some (r1,r2):=by first | (rw [hy194];with_reducible exact H) | (have H2_:=(Option.bind_some _ _).symm.trans H;rw [hy194];with_reducible exact H2_) | (have H2_:=(Option.bind_some _ _).symm.trans H;with_reducible exact H2_) | with_reducible exact H | (rw [hy194];exact H) | exact H
     have Ny194:=zz31 hy194
     clear hy194
     have H':=zz31 H
     clear H
     obtain ⟨Ao7,co7,eo7⟩:=Kd.R_slice HO_0.out
     subst eo7
     have p5:0≤(x5_1:Int):=zz29 (by first | (with_reducible assumption) | assumption)
     have q5:(x5_1:Int) < ((x0_1.length:Int):Int):=zz29 (by first | (with_reducible assumption) | assumption)
     obtain ⟨go5,co5,eo5,gb5,gl5,cl5,HG5⟩:=Kd.R_form HO_0.out (by omega)
     (first | cases eo5 | (injection eo5 with ea_ en_ ec_;(first | subst ea_ | (injection ea_ with ea_;subst ea_));subst ec_;clear en_))
     have GB5:=zz31 gb5
     have GG5:=zz31 HG5
     clear gb5 gl5 HG5
     have HMgo5:=zz31 (show (P0_ go5 ∨ w.heap.size≤go5) from (HO_0.out.1 _ rfl))
     obtain ⟨ce5,hcl5,hM5,hcc5,hfr5⟩:=Kd.R_elem HO_0.out z50 (x5_1:Int) p5 q5
     obtain rfl:=k50_openM hM5
     have hx5_0:wr.cell? ⟨go5,(x5_1:Int).toNat * 2,none⟩=some (.int .i64 ((rd_T50 x0_1 x5_1).f0)):=hcc5 0 _ rfl
     have hx5_1:wr.cell? ⟨go5,(x5_1:Int).toNat * 2+1,none⟩=some (.int .i64 ((rd_T50 x0_1 x5_1).f1)):=hcc5 1 _ rfl
     have hf5_0:wr.frozen? ⟨go5,(x5_1:Int).toNat * 2,none⟩=false:=hfr5 0
     have hf5_1:wr.frozen? ⟨go5,(x5_1:Int).toNat * 2+1,none⟩=false:=hfr5 1
     clear hcl5 hcc5 hfr5 hM5
     replace p5:=eq_true p5
     replace q5:=eq_true q5
     have HX8:=zz31 (show Kd.R k50 50 wr w0.heap.size (fun k_=>(P0_ k_ ∨ w.heap.size≤k_)) (.slice (some ⟨go5,0,none⟩) x0_1.length co7) x0_1 from (by (with_reducible repeat (first | apply zz12 | apply zz13 | apply zz14));exact HO_0.out))
     obtain ⟨ce8,hcl8,hM8,hcc8,hfr8⟩:=Kd.R_elem HX8.out z50 (x5_1:Int) (zz29 (by first | (with_reducible assumption) | assumption)) (by have h_:(x5_1:Int) < ((x0_1.length:Int):Int):=zz29 (by first | (with_reducible assumption) | assumption);first | exact h_ | (have e_:=(Kd.R_reads' HO_0.out).1;omega) | simpa using h_)
     obtain rfl:=k50_openM hM8
     have HP8:=Kd.R_seg HX8.out (x5_1:Int) (zz29 (by first | (with_reducible assumption) | assumption)) (by have h_:(x5_1:Int) < ((x0_1.length:Int):Int):=zz29 (by first | (with_reducible assumption) | assumption);first | exact h_ | (have e_:=(Kd.R_reads' HO_0.out).1;omega) | simpa using h_) (seg:=[.int .i64 x1_1]) (j:=0) hcl8 hcc8 (show 1≤2 from by decide) (x':=(⟨x1_1,(rd_T50 x0_1 x5_1).f1⟩:S50)) (k50_mkM _ _ _ (⟨x1_1,(rd_T50 x0_1 x5_1).f1⟩:S50) ) (fun _ hk=>hk)
     have hx8_0:=hcc8 0 _ rfl
     (try simp only [show (k50).sz=2 from rfl,Nat.mul_one,Nat.add_zero] at hx8_0)
     have hf8_0:=hfr8 0
     (try simp only [show (k50).sz=2 from rfl,Nat.mul_one,Nat.add_zero] at hf8_0)
     clear hcl8 hcc8 hfr8 hM8
     go_wp2_with (first | ((with_reducible refine gate_store (t:=3) (p:=16) rfl ?_);refine store_event (t:=3) (p:=16) (v:=?vo_w9) (w1:=(wr.setCell ⟨go5,(x5_1:Int).toNat * 2,none⟩ (.int .i64 x1_1))) ?hg ?ho ?hn ?hr ?_;(case ho=>rfl);(case hg=>rfl);(case hn=>rfl);(case hr=>first | (go_simp;done) | (go_simp;rfl));intro w9 hw;have hg:wr.grownBy w9 (some go5):=(by rw [hw];exact HP8.2);have hp_:Kd.R k50 50 w9 w0.heap.size (fun k_=>(P0_ k_ ∨ w.heap.size≤k_)) (.slice (some ⟨go5,0,none⟩) x0_1.length co7) y193:=(by rw [hw,Ny193.out];exact HP8.1);clear HP8;have n0_:=zz31 (hp_);have n1_:=zz31 ((by rw [hw];exact zz3 (HB.out) GB5.out:Below w0.heap.size w0 w9));have n2_:=zz31 (Kept.of_grown (S:=(fun k_=>P0_ k_)) hg (by repeat (first | (with_reducible first | exact HK.out | apply Kept.alloc | apply Kept.drewN | apply Kept.drew) | exact HK.out)) (fun k_ e_=>(HO_0.out.1 k_ e_)));clear HO_0;clear HB;clear HK;have HO_0:=n0_;have HB:=n1_;have HK:=n2_;clear n0_ n1_ n2_;clear hg hw hp_;have p6:0≤(x5_1:Int):=zz29 (by first | (with_reducible assumption) | assumption);have q6:(x5_1:Int) < ((x0_1.length:Int):Int):=zz29 (by first | (with_reducible assumption) | assumption);obtain ⟨ce6,hcl6,hM6,hcc6,hfr6⟩:=Kd.R_elem HO_0.out z50 (x5_1:Int) p6 q6;obtain rfl:=k50_openM hM6;have hx6_0:w9.cell? ⟨go5,(x5_1:Int).toNat * 2,none⟩=some (.int .i64 ((rd_T50 y193 x5_1).f0)):=hcc6 0 _ rfl;have hx6_1:w9.cell? ⟨go5,(x5_1:Int).toNat * 2+1,none⟩=some (.int .i64 ((rd_T50 y193 x5_1).f1)):=hcc6 1 _ rfl;have hf6_0:w9.frozen? ⟨go5,(x5_1:Int).toNat * 2,none⟩=false:=hfr6 0;have hf6_1:w9.frozen? ⟨go5,(x5_1:Int).toNat * 2+1,none⟩=false:=hfr6 1;clear hcl6 hcc6 hfr6 hM6;replace p6:=eq_true p6;replace q6:=eq_true q6;have HX10:=zz31 (show Kd.R k50 50 w9 w0.heap.size (fun k_=>(P0_ k_ ∨ w.heap.size≤k_)) (.slice (some ⟨go5,0,none⟩) x0_1.length co7) y193 from (by (with_reducible repeat (first | apply zz12 | apply zz13 | apply zz14));exact HO_0.out));obtain ⟨ce10,hcl10,hM10,hcc10,hfr10⟩:=Kd.R_elem HX10.out z50 (x5_1:Int) (zz29 (by first | (with_reducible assumption) | assumption)) (by have h_:(x5_1:Int) < ((x0_1.length:Int):Int):=zz29 (by first | (with_reducible assumption) | assumption);first | exact h_ | (have e_:=(Kd.R_reads' HO_0.out).1;omega) | simpa using h_);obtain rfl:=k50_openM hM10;have HP10:=Kd.R_seg HX10.out (x5_1:Int) (zz29 (by first | (with_reducible assumption) | assumption)) (by have h_:(x5_1:Int) < ((x0_1.length:Int):Int):=zz29 (by first | (with_reducible assumption) | assumption);first | exact h_ | (have e_:=(Kd.R_reads' HO_0.out).1;omega) | simpa using h_) (seg:=[.int .i64 (wrap64 (x1_1+1))]) (j:=1) hcl10 hcc10 (show 2≤2 from by decide) (x':=(⟨(rd_T50 y193 x5_1).f0,wrap64 (x1_1+1)⟩:S50)) (k50_mkM _ _ _ (⟨(rd_T50 y193 x5_1).f0,wrap64 (x1_1+1)⟩:S50) ) (fun _ hk=>hk);have hx10_1:=hcc10 1 _ rfl;(try simp only [show (k50).sz=2 from rfl,Nat.mul_one,Nat.add_zero] at hx10_1);have hf10_1:=hfr10 1;(try simp only [show (k50).sz=2 from rfl,Nat.mul_one,Nat.add_zero] at hf10_1);clear hcl10 hcc10 hfr10 hM10) | ((with_reducible refine gate_store (t:=3) (p:=23) rfl ?_);refine store_event (t:=3) (p:=23) (v:=?vo_w11) (w1:=(w9.setCell ⟨go5,(x5_1:Int).toNat * 2+1,none⟩ (.int .i64 (wrap64 (x1_1+1))))) ?hg ?ho ?hn ?hr ?_;(case ho=>rfl);(case hg=>rfl);(case hn=>rfl);(case hr=>first | (go_simp;done) | (go_simp;rfl));intro w11 hw;have hg:w9.grownBy w11 (some go5):=(by rw [hw];exact HP10.2);have hp_:Kd.R k50 50 w11 w0.heap.size (fun k_=>(P0_ k_ ∨ w.heap.size≤k_)) (.slice (some ⟨go5,0,none⟩) x0_1.length co7) y194:=(by rw [hw,Ny194.out];exact HP10.1);clear HP10;have n0_:=zz31 (hp_);have n1_:=zz31 ((by rw [hw];exact zz3 (HB.out) GB5.out:Below w0.heap.size w0 w11));have n2_:=zz31 (Kept.of_grown (S:=(fun k_=>P0_ k_)) hg (by repeat (first | (with_reducible first | exact HK.out | apply Kept.alloc | apply Kept.drewN | apply Kept.drew) | exact HK.out)) (fun k_ e_=>(HO_0.out.1 k_ e_)));clear HO_0;clear HB;clear HK;have HO_0:=n0_;have HB:=n1_;have HK:=n2_;clear n0_ n1_ n2_;clear hg hw hp_))
     go_roundg k1
     case measure=>have:=HK1.out;omega
     case rel=>exact ⟨(y194),(wrap64 ((wrap64 (x1_1+1))+1)),(wrap64 (x5_1+1)),(by first | rfl | (simp;done) | (simp [*];done)),(by first | rfl | (simp;done) | (simp [*];done)),H',⟨by have:=HK1.out;omega⟩,⟨by (with_reducible repeat (first | apply zz12 | apply zz13 | apply zz14));exact HO_0.out⟩,⟨by repeat (first | (with_reducible first | exact HK.out | apply Kept.alloc | apply Kept.drewN | apply Kept.drew) | exact HK.out)⟩,⟨by repeat first | exact HB.out | apply zz2 | apply zz0 | apply zz1⟩⟩
    ·rw [if_neg c4] at H
     exact absurd H (by simp)
   ·rw [if_neg c3] at H
    have c3b0:decide (x5_1 < (x0_1.length:Int))=false:=decide_eq_false c3
    clear c3
    simp only [Option.some.injEq,Prod.mk.injEq] at H
    obtain ⟨rfl,rfl⟩:=H
    obtain ⟨Ao12,co12,eo12⟩:=Kd.R_slice HO_0.out
    subst eo12
    go_wp2
    go_ret
    exact ⟨by first | rfl | (simp [errW_none,errW_some] <;> rfl) | (simp [*,errW_none,errW_some] <;> rfl),by (with_reducible repeat (first | apply zz12 | apply zz13 | apply zz14));exact HO_0.out,by repeat first | exact HB.out | apply zz2 | apply zz0 | apply zz1,by repeat (first | (with_reducible first | exact HK.out | apply Kept.alloc | apply Kept.drewN | apply Kept.drew) | exact HK.out)⟩

/-! ### laws_markParty: function 12 -/
def laws_markParty.f (k:Nat) (a0_0:Int) (l0_1:List (S50)) (a1:Int):Option (Int × (List (S50))):=(laws_markPairS.f k l0_1 a1).bind fun bt196=>(some (bt196.1,bt196.2))
theorem laws_markParty.mono:∀ a0 a1 a2 k,LeO (laws_markParty.f k a0 a1 a2) (laws_markParty.f (k+1) a0 a1 a2):=by
 intro a0 a1 a2 k
 unfold laws_markParty.f
 repeat' first
   | (with_reducible exact laws_markPairS.mono _ _ _)
   | (with_reducible exact LeO.refl _)
   | (with_reducible exact LeO.none _)
   | (with_reducible refine LeO.ite ?_ ?_)
   | (with_reducible refine LeO.bind ?_ (fun _=>?_))
   | exact laws_markPairS.mono _ _ _
   | exact LeO.none _
   | refine LeO.ite ?_ ?_
   | refine LeO.bind ?_ (fun _=>?_)
set_option maxHeartbeats 8000000 in
set_option maxRecDepth 100000 in
theorem laws_markParty.calls (k:Nat) (a0_0:Int) (P0_1_:Nat→Prop) (u9000_:Value) (l0_1:List (S50)) (a1:Int) (r1:Int) (r2:List (S50)) (w0 w:World) (hB:Below w0.heap.size w0 w) (ho0_1:Kd.R k50 50 w w0.heap.size P0_1_ u9000_ l0_1) (h:laws_markParty.f k a0_0 l0_1 a1=some (r1,r2)) :
  Calls Tryd.prog 12 #[.agg #[.int .i64 a0_0,u9000_],.int .i64 a1] w fun e w'=>e=.returned (.int .i64 r1)∧Kd.R k50 50 w' w0.heap.size (fun k_=>(P0_1_ k_ ∨ w.heap.size≤k_)) u9000_ r2∧Below w0.heap.size w0 w'∧Kept w w' (fun k_=>P0_1_ k_):=by
 have hu30:=Tryd.underlying30
 have HO0_1:=zz31 (show Kd.R k50 50 w w0.heap.size (fun k_=>(P0_1_ k_ ∨ w.heap.size≤k_)) u9000_ l0_1 from Kd.R_mono ho0_1 (fun k_ hk=>(.inl hk)))
 have HK:=zz31 (Kept.refl w (fun k_=>P0_1_ k_))
 have HW0:=zz31 hB.size
 have HB:=zz31 hB
 clear hB
 have H:((laws_markPairS.f k l0_1 a1).bind fun bt196=>(some (bt196.1,bt196.2)))=some (r1,r2):=h
 clear h
 replace H:=zz30.mp H
 obtain ⟨⟨t196,t197⟩,A30,H⟩:=H
 replace H:(some (t196,t197))=some (r1,r2):=H
 have A3:=zz31 A30
 clear A30
 simp only [Option.some.injEq,Prod.mk.injEq] at H
 obtain ⟨rfl,rfl⟩:=H
 obtain ⟨Ao4,co4,eo4⟩:=Kd.R_slice HO0_1.out
 subst eo4
 go_enter Tryd.func12,Tryd.ntmps12
 go_wp2_with (first | ((with_reducible refine gate_dst (N:=2) rfl ?_);refine box_event ?hg (N:=2) ?hd (cs:=#[.int .i64 a0_0,.slice Ao4 l0_1.length co4]) (t:=30) ?hr ?_;(case hd=>rfl);(case hg=>rfl);(case hr=>first | (go_simp;done) | (go_simp;rfl));intro gb195 hg w5 hbox hb;have n0_:=zz31 (Kd.R_below (by (with_reducible repeat (first | apply zz12 | apply zz13 | apply zz14));exact HO0_1.out) hb);have n1_:=zz31 (Kept.below (S:=(fun k_=>P0_1_ k_)) (by repeat (first | (with_reducible first | exact HK.out | apply Kept.alloc | apply Kept.drewN | apply Kept.drew) | exact HK.out)) hb);have n2_:=zz31 (zz4 (by repeat first | exact HB.out | apply zz2 | apply zz0 | apply zz1) hb);have n3_:=zz31 (hbox);have n4_:=zz31 ((by rw [hg];exact (by first | exact HK.out.1 | exact (show Kept w _ (fun k_=>P0_1_ k_) from by repeat (first | (with_reducible first | exact HK.out | apply Kept.alloc | apply Kept.drewN | apply Kept.drew) | exact HK.out)).1):w.heap.size≤gb195));have n5_:=zz31 ((by rw [hg];exact (zz5 (by repeat first | exact HB.out | apply zz2 | apply zz0 | apply zz1)):w0.heap.size≤gb195));clear HO0_1;clear HK;clear HB;have HO0_1:=n0_;have HK:=n1_;have HB:=n2_;have BK195:=n3_;have GW195:=n4_;have GE195:=n5_;clear n0_ n1_ n2_ n3_ n4_ n5_;clear hb hbox hg;have hcz6_0:w5.cell? ⟨gb195,0,none⟩=some (.int .i64 a0_0):=(zz9 BK195.out 0).trans rfl;have hcz6_1:w5.cell? ⟨gb195,1,none⟩=some (.slice Ao4 l0_1.length co4):=(zz9 BK195.out 1).trans rfl;have hfz6_0:=zz10 BK195.out 0;have hfz6_1:=zz10 BK195.out 1) | ((with_reducible refine gate_callee (f:=24) rfl ?_);refine goesL_ (some 8) rfl rfl Tryd.func24 (by kernel_rfl) rfl #[.slice Ao4 l0_1.length co4,.int .i64 a1] rfl (by (try simp only [zz26,zz27,zz28]);first | done | rfl | (simp only [zz24,zz25];rfl)) ?_;(with_reducible refine (laws_markPairS.calls k (fun k_=>some k_=(.slice Ao4 l0_1.length co4:Value).ownBlock) (.slice Ao4 l0_1.length co4) l0_1 a1 t196 t197 w0 _ ?side1 ?side2 A3.out).mono ?_);(case side1=>repeat first | exact HB.out | apply zz2 | apply zz0 | apply zz1 | refine zz3 ?_ GE195.out);(case side2=>exact Kd.R_tight rfl HO0_1.out);rintro e w7 ⟨rfl,hy0,hb,hkp⟩;refine ⟨_,rfl,?_⟩;have n0_:=zz31 (Kd.R_reok rfl hy0 (fun k_ e_=>HO0_1.out.1 k_ e_));(first | have n1_:=zz31 (blk_kept BK195.out hkp (fun hs_=>(fun e_=>(Kd.R_ne HO0_1.out BK195.out (by decide)) e_) hs_)) | have n1_:=zz31 (blk_kept (by (with_reducible repeat (first | refine zz6 ?_ _ | refine zz7 ?_ | refine zz8 ?_ _));exact BK195.out) hkp (fun hs_=>(fun e_=>(Kd.R_ne HO0_1.out BK195.out (by decide)) e_) hs_)));have n2_:=zz31 (Kept.then_ (S:=(fun k_=>P0_1_ k_)) (by repeat (first | (with_reducible first | exact HK.out | apply Kept.alloc | apply Kept.drewN | apply Kept.drew | refine Kept.setCell ?_ (.inr GW195.out) _) | exact HK.out)) hkp (fun k_ hs_=>(fun e_=>(HO0_1.out.1 k_ e_.symm)) hs_));have n3_:=zz31 (hb);clear HO0_1;clear BK195;clear HK;clear HB;have HO0_1:=n0_;have BK195:=n1_;have HK:=n2_;have HB:=n3_;clear n0_ n1_ n2_ n3_;(try clear hb);(try clear hkp);(try clear hy0)))
 go_ret
 exact ⟨by first | rfl | (simp [errW_none,errW_some] <;> rfl) | (simp [*,errW_none,errW_some] <;> rfl),by (with_reducible repeat (first | apply zz12 | apply zz13 | apply zz14));exact HO0_1.out,by repeat first | exact HB.out | apply zz2 | apply zz0 | apply zz1 | refine zz3 ?_ GE195.out,by repeat (first | (with_reducible first | exact HK.out | apply Kept.alloc | apply Kept.drewN | apply Kept.drew | refine Kept.setCell ?_ (.inr GW195.out) _) | exact HK.out)⟩

/-! ### laws_heldPairS: function 25 -/
def laws_heldPairS.l0:Nat→List (S50)→Int→Int→Option (Int)
 | 0,_,_,_=>none
 | k+1,x0,x1,x5=>if x5 < (x0.length:Int) then (if 0≤x5 then (if ((rd_T50 x0 x5).f0)=x1 then (if ((rd_T50 x0 x5).f1)=(wrap64 (x1+1)) then (laws_heldPairS.l0 k x0 (wrap64 ((wrap64 (x1+1))+1)) (wrap64 (x5+1))) else (some (-1))) else (some (-1))) else (none)) else (some x1)
def laws_heldPairS.f (k:Nat) (l0:List (S50)) (a1:Int):Option (Int):=laws_heldPairS.l0 k l0 a1 0
theorem laws_heldPairS.mono_l:∀ k,(∀ y0 y1 y2,LeO (laws_heldPairS.l0 k y0 y1 y2) (laws_heldPairS.l0 (k+1) y0 y1 y2))
 | 0=>fun _ _ _ r h=>by simp [laws_heldPairS.l0] at h
 | k+1=>by
  have ih0:=laws_heldPairS.mono_l k
  ·intro y0 y1 y2
   unfold laws_heldPairS.l0
   repeat' first
   | (with_reducible exact ih0 _ _ _)
   | (with_reducible exact LeO.refl _)
   | (with_reducible exact LeO.none _)
   | (with_reducible refine LeO.ite ?_ ?_)
   | (with_reducible refine LeO.bind ?_ (fun _=>?_))
   | exact ih0 _ _ _
   | exact LeO.none _
   | refine LeO.ite ?_ ?_
   | refine LeO.bind ?_ (fun _=>?_)
theorem laws_heldPairS.mono:∀ a0 a1 k,LeO (laws_heldPairS.f k a0 a1) (laws_heldPairS.f (k+1) a0 a1):=by
 intro a0 a1 k
 have ih0:=laws_heldPairS.mono_l k
 unfold laws_heldPairS.f
 repeat' first
   | (with_reducible exact ih0 _ _ _)
   | (with_reducible exact LeO.refl _)
   | (with_reducible exact LeO.none _)
   | (with_reducible refine LeO.ite ?_ ?_)
   | (with_reducible refine LeO.bind ?_ (fun _=>?_))
   | exact ih0 _ _ _
   | exact LeO.none _
   | refine LeO.ite ?_ ?_
   | refine LeO.bind ?_ (fun _=>?_)
set_option maxHeartbeats 8000000 in
set_option maxRecDepth 100000 in
theorem laws_heldPairS.calls (k:Nat) (A0:Option Addr) (c0:Nat) (l0:List (S50)) (a1:Int) (r:Int) (w:World) (hr0:Kd.C k50 w A0 l0.length l0) (hc0:l0.length≤c0) (h:laws_heldPairS.f k l0 a1=some r) :
  Calls Tryd.prog 25 #[.slice A0 l0.length c0,.int .i64 a1] w fun e w'=>e=.returned (.int .i64 r)∧Drawn0 w w':=by
 have HR0:=zz31 hr0
 have HC0:=zz31 hc0
 clear hr0 hc0
 have H:(laws_heldPairS.l0 k l0 a1 0)=some r:=h
 clear h
 have H':=zz31 H
 clear H
 go_enter Tryd.func25,Tryd.ntmps25
 go_wp2
 go_loopg [1,5] k (fun kq v1 v5 w'=>∃ (x1_1:Int) (x5_1:Int),v1=.int .i64 x1_1∧v5=.int .i64 x5_1∧Aside0 (laws_heldPairS.l0 kq l0 x1_1 x5_1=some r)∧Aside0 (kq≤k)∧Drawn0 w w')
 case atStart=>exact ⟨(a1),(0),(by first | rfl | (simp;done) | (simp [*];done)),(by first | rfl | (simp;done) | (simp [*];done)),H',⟨Nat.le_refl _⟩,by repeat (first | exact Drawn0.refl _ | apply Drawn0.step)⟩
 case round =>
  clear H'
  try clear c2
  try clear p2
  obtain ⟨x1_1,x5_1,rfl,rfl,HA,HK1,⟨m1,rfl⟩⟩:=hrel
  cases gk with
  | zero=>exact absurd HA.out (by simp [laws_heldPairS.l0])
  | succ k1 =>
   have H:=HA.out
   clear HA
   simp only [laws_heldPairS.l0] at H
   by_cases c3:x5_1 < (l0.length:Int)
   ·rw [if_pos c3] at H
    have c3b0:decide (x5_1 < (l0.length:Int))=true:=decide_eq_true c3
    clear c3
    by_cases c4:0≤x5_1
    ·rw [if_pos c4] at H
     have c4b0:decide (0≤x5_1)=true:=decide_eq_true c4
     clear c4
     by_cases c5:((rd_T50 l0 x5_1).f0)=x1_1
     ·rw [if_pos c5] at H
      have c5b0:(((rd_T50 l0 x5_1).f0) == x1_1)=true:=beq_iff_eq.mpr c5
      have c5b1:(((rd_T50 l0 x5_1).f0) != x1_1)=false:=bne_eq_false_iff_eq.mpr c5
      clear c5
      by_cases c6:((rd_T50 l0 x5_1).f1)=(wrap64 (x1_1+1))
      ·rw [if_pos c6] at H
       have c6b0:(((rd_T50 l0 x5_1).f1) == (wrap64 (x1_1+1)))=true:=beq_iff_eq.mpr c6
       have c6b1:(((rd_T50 l0 x5_1).f1) != (wrap64 (x1_1+1)))=false:=bne_eq_false_iff_eq.mpr c6
       clear c6
       have H':=zz31 H
       clear H
       have p198:0≤(x5_1:Int):=zz29 (by first | (with_reducible assumption) | assumption)
       have q198:x5_1 < (l0.length:Int):=zz29 (by first | (with_reducible assumption) | assumption)
       obtain ⟨ad198,e198,hx198_0,hx198_1⟩:=at_T50 HR0.out x5_1 p198 q198
       cases e198
       replace p198:=eq_true p198
       replace q198:=eq_true q198
       have p199:0≤(x5_1:Int):=zz29 (by first | (with_reducible assumption) | assumption)
       have q199:x5_1 < (l0.length:Int):=zz29 (by first | (with_reducible assumption) | assumption)
       obtain ⟨ad199,e199,hx199_0,hx199_1⟩:=at_T50 HR0.out x5_1 p199 q199
       obtain rfl:ad198=ad199:=(by injection e199)
       replace p199:=eq_true p199
       replace q199:=eq_true q199
       go_wp2
       go_roundg k1
       case measure=>have:=HK1.out;omega
       case rel=>exact ⟨(wrap64 ((wrap64 (x1_1+1))+1)),(wrap64 (x5_1+1)),(by first | rfl | (simp;done) | (simp [*];done)),(by first | rfl | (simp;done) | (simp [*];done)),H',⟨by have:=HK1.out;omega⟩,by repeat (first | exact Drawn0.refl _ | apply Drawn0.step)⟩
      ·rw [if_neg c6] at H
       have c6b0:(((rd_T50 l0 x5_1).f1) == (wrap64 (x1_1+1)))=false:=beq_eq_false_iff_ne.mpr c6
       have c6b1:(((rd_T50 l0 x5_1).f1) != (wrap64 (x1_1+1)))=true:=bne_iff_ne.mpr c6
       obtain rfl:=Option.some.inj H
       have p198:0≤(x5_1:Int):=zz29 (by first | (with_reducible assumption) | assumption)
       have q198:x5_1 < (l0.length:Int):=zz29 (by first | (with_reducible assumption) | assumption)
       obtain ⟨ad198,e198,hx198_0,hx198_1⟩:=at_T50 HR0.out x5_1 p198 q198
       cases e198
       replace p198:=eq_true p198
       replace q198:=eq_true q198
       have p199:0≤(x5_1:Int):=zz29 (by first | (with_reducible assumption) | assumption)
       have q199:x5_1 < (l0.length:Int):=zz29 (by first | (with_reducible assumption) | assumption)
       obtain ⟨ad199,e199,hx199_0,hx199_1⟩:=at_T50 HR0.out x5_1 p199 q199
       obtain rfl:ad198=ad199:=(by injection e199)
       replace p199:=eq_true p199
       replace q199:=eq_true q199
       go_wp2
       go_ret
       exact ⟨by first | rfl | (simp;done) | (simp [*];done),by repeat (first | exact Drawn0.refl _ | apply Drawn0.step)⟩
     ·rw [if_neg c5] at H
      have c5b0:(((rd_T50 l0 x5_1).f0) == x1_1)=false:=beq_eq_false_iff_ne.mpr c5
      have c5b1:(((rd_T50 l0 x5_1).f0) != x1_1)=true:=bne_iff_ne.mpr c5
      obtain rfl:=Option.some.inj H
      have p198:0≤(x5_1:Int):=zz29 (by first | (with_reducible assumption) | assumption)
      have q198:x5_1 < (l0.length:Int):=zz29 (by first | (with_reducible assumption) | assumption)
      obtain ⟨ad198,e198,hx198_0,hx198_1⟩:=at_T50 HR0.out x5_1 p198 q198
      cases e198
      replace p198:=eq_true p198
      replace q198:=eq_true q198
      go_wp2
      go_ret
      exact ⟨by first | rfl | (simp;done) | (simp [*];done),by repeat (first | exact Drawn0.refl _ | apply Drawn0.step)⟩
    ·rw [if_neg c4] at H
     exact absurd H (by simp)
   ·rw [if_neg c3] at H
    have c3b0:decide (x5_1 < (l0.length:Int))=false:=decide_eq_false c3
    clear c3
    obtain rfl:=Option.some.inj H
    go_wp2
    go_ret
    exact ⟨by first | rfl | (simp;done) | (simp [*];done),by repeat (first | exact Drawn0.refl _ | apply Drawn0.step)⟩

/-! ### laws_heldParty: function 13 -/
def laws_heldParty.f (k:Nat) (a0_0:Int) (l0_1:List (S50)) (a1:Int):Option (Int):=(laws_heldPairS.f k l0_1 a1).bind fun t201=>(if t201 < 0 then (some (-1)) else (some t201))
theorem laws_heldParty.mono:∀ a0 a1 a2 k,LeO (laws_heldParty.f k a0 a1 a2) (laws_heldParty.f (k+1) a0 a1 a2):=by
 intro a0 a1 a2 k
 unfold laws_heldParty.f
 repeat' first
   | (with_reducible exact laws_heldPairS.mono _ _ _)
   | (with_reducible exact LeO.refl _)
   | (with_reducible exact LeO.none _)
   | (with_reducible refine LeO.ite ?_ ?_)
   | (with_reducible refine LeO.bind ?_ (fun _=>?_))
   | exact laws_heldPairS.mono _ _ _
   | exact LeO.none _
   | refine LeO.ite ?_ ?_
   | refine LeO.bind ?_ (fun _=>?_)
set_option maxHeartbeats 8000000 in
set_option maxRecDepth 100000 in
theorem laws_heldParty.calls (k:Nat) (a0_0:Int) (A0_1:Option Addr) (c0_1:Nat) (l0_1:List (S50)) (a1:Int) (r:Int) (w:World) (hr0_1:Kd.C k50 w A0_1 l0_1.length l0_1) (hc0_1:l0_1.length≤c0_1) (h:laws_heldParty.f k a0_0 l0_1 a1=some r) :
  Calls Tryd.prog 13 #[.agg #[.int .i64 a0_0,.slice A0_1 l0_1.length c0_1],.int .i64 a1] w fun e w'=>e=.returned (.int .i64 r)∧Below w.heap.size w w':=by
 have hu30:=Tryd.underlying30
 have HR0_1:=zz31 hr0_1
 have HC0_1:=zz31 hc0_1
 clear hr0_1 hc0_1
 have HB:=zz31 (Below.refl w.heap.size w)
 have H:((laws_heldPairS.f k l0_1 a1).bind fun t201=>(if t201 < 0 then (some (-1)) else (some t201)))=some r:=h
 clear h
 replace H:=zz30.mp H
 obtain ⟨t201,A30,H⟩:=H
 replace H:(if t201 < 0 then (some (-1)) else (some t201))=some r:=H
 have A3:=zz31 A30
 clear A30
 by_cases c4:t201 < 0
 ·rw [if_pos c4] at H
  have c4b0:decide (t201 < 0)=true:=decide_eq_true c4
  clear c4
  obtain rfl:=Option.some.inj H
  go_enter Tryd.func13,Tryd.ntmps13
  go_wp2_with (first | ((with_reducible refine gate_dst (N:=2) rfl ?_);refine box_event ?hg (N:=2) ?hd (cs:=#[.int .i64 a0_0,.slice A0_1 l0_1.length c0_1]) (t:=30) ?hr ?_;(case hd=>rfl);(case hg=>rfl);(case hr=>first | (go_simp;done) | (go_simp;rfl));intro gb200 hg w5 hbox hb;have n0_:=zz31 (zz4 (by repeat first | exact HB.out | apply zz2 | apply zz0 | apply zz1) hb);have n1_:=zz31 (hbox);have n2_:=zz31 ((by rw [hg];exact (zz5 (by repeat first | exact HB.out | apply zz2 | apply zz0 | apply zz1)):w.heap.size≤gb200));have n3_:=zz31 ((by rw [hg];exact (zz5 (by repeat first | exact HB.out | apply zz2 | apply zz0 | apply zz1)):w.heap.size≤gb200));clear HB;have HB:=n0_;have BK200:=n1_;have GW200:=n2_;have GE200:=n3_;clear n0_ n1_ n2_ n3_;clear hb hbox hg;have hcz6_0:w5.cell? ⟨gb200,0,none⟩=some (.int .i64 a0_0):=(zz9 BK200.out 0).trans rfl;have hcz6_1:w5.cell? ⟨gb200,1,none⟩=some (.slice A0_1 l0_1.length c0_1):=(zz9 BK200.out 1).trans rfl;have hfz6_0:=zz10 BK200.out 0;have hfz6_1:=zz10 BK200.out 1) | ((with_reducible refine gate_callee (f:=25) rfl ?_);refine goesL_ (some 8) rfl rfl Tryd.func25 (by kernel_rfl) rfl #[.slice A0_1 l0_1.length c0_1,.int .i64 a1] rfl (by (try simp only [zz26,zz27,zz28]);first | done | rfl | (simp only [zz24,zz25];rfl)) ?_;(with_reducible refine (laws_heldPairS.calls k _ _ l0_1 a1 t201 _ ?side1 ?side2 A3.out).mono ?_);(case side1=>repeat (first | exact (Kd.C_below HR0_1.out HB.out) | (with_reducible refine zz18 ?_ _) | (with_reducible refine zz19 ?_ _) | (with_reducible refine zz20 ?_)));(case side2=>exact HC0_1.out);rintro e w' ⟨rfl,⟨nd,rfl⟩⟩;refine ⟨_,rfl,?_⟩))
  go_ret
  exact ⟨by first | rfl | (simp [errW_none,errW_some] <;> rfl) | (simp [*,errW_none,errW_some] <;> rfl),by repeat first | exact HB.out | apply zz2 | apply zz0 | apply zz1 | refine zz3 ?_ GE200.out⟩
 ·rw [if_neg c4] at H
  have c4b0:decide (t201 < 0)=false:=decide_eq_false c4
  clear c4
  obtain rfl:=Option.some.inj H
  go_enter Tryd.func13,Tryd.ntmps13
  go_wp2_with (first | ((with_reducible refine gate_dst (N:=2) rfl ?_);refine box_event ?hg (N:=2) ?hd (cs:=#[.int .i64 a0_0,.slice A0_1 l0_1.length c0_1]) (t:=30) ?hr ?_;(case hd=>rfl);(case hg=>rfl);(case hr=>first | (go_simp;done) | (go_simp;rfl));intro gb200 hg w7 hbox hb;have n0_:=zz31 (zz4 (by repeat first | exact HB.out | apply zz2 | apply zz0 | apply zz1) hb);have n1_:=zz31 (hbox);have n2_:=zz31 ((by rw [hg];exact (zz5 (by repeat first | exact HB.out | apply zz2 | apply zz0 | apply zz1)):w.heap.size≤gb200));have n3_:=zz31 ((by rw [hg];exact (zz5 (by repeat first | exact HB.out | apply zz2 | apply zz0 | apply zz1)):w.heap.size≤gb200));clear HB;have HB:=n0_;have BK200:=n1_;have GW200:=n2_;have GE200:=n3_;clear n0_ n1_ n2_ n3_;clear hb hbox hg;have hcz8_0:w7.cell? ⟨gb200,0,none⟩=some (.int .i64 a0_0):=(zz9 BK200.out 0).trans rfl;have hcz8_1:w7.cell? ⟨gb200,1,none⟩=some (.slice A0_1 l0_1.length c0_1):=(zz9 BK200.out 1).trans rfl;have hfz8_0:=zz10 BK200.out 0;have hfz8_1:=zz10 BK200.out 1) | ((with_reducible refine gate_callee (f:=25) rfl ?_);refine goesL_ (some 8) rfl rfl Tryd.func25 (by kernel_rfl) rfl #[.slice A0_1 l0_1.length c0_1,.int .i64 a1] rfl (by (try simp only [zz26,zz27,zz28]);first | done | rfl | (simp only [zz24,zz25];rfl)) ?_;(with_reducible refine (laws_heldPairS.calls k _ _ l0_1 a1 t201 _ ?side1 ?side2 A3.out).mono ?_);(case side1=>repeat (first | exact (Kd.C_below HR0_1.out HB.out) | (with_reducible refine zz18 ?_ _) | (with_reducible refine zz19 ?_ _) | (with_reducible refine zz20 ?_)));(case side2=>exact HC0_1.out);rintro e w' ⟨rfl,⟨nd,rfl⟩⟩;refine ⟨_,rfl,?_⟩))
  go_ret
  exact ⟨by first | rfl | (simp [errW_none,errW_some] <;> rfl) | (simp [*,errW_none,errW_some] <;> rfl),by repeat first | exact HB.out | apply zz2 | apply zz0 | apply zz1 | refine zz3 ?_ GE200.out⟩

/-! ### laws_FnExactParseParty: function 4 -/
mutual
def laws_FnExactParseParty.j0:Nat→ByteArray→Bool→Bool→Int→List (S50)→Int→List (S50)→Option (Bool)
 | 0,_,_,_,_,_,_,_=>none
 | k+1,x0,x4,x32,x208000,x208001,x214000,x214001=>if x32=true then (some false) else ((laws_markParty.f k x214000 x214001 1).bind fun bt215=>((laws_heldParty.f k x214000 bt215.2 1).bind fun t217=>(if t217 < 0 then (some false) else (if t217=bt215.1 then ((impl_ParseParty.f k x0).bind fun bt218=>((laws_eqParty.f k bt218.1 bt218.2.1 x208000 x208001).bind fun t224=>(if t224=true then (laws_FnExactParseParty.j1 k bt215.1 (bt218.2.2 != x4) x214000 bt215.2) else (laws_FnExactParseParty.j1 k bt215.1 true x214000 bt215.2)))) else (some false)))))
def laws_FnExactParseParty.j1:Nat→Int→Bool→Int→List (S50)→Option (Bool)
 | 0,_,_,_,_=>none
 | k+1,x7,x57,x214000,x214001=>if x57=true then (some false) else ((laws_heldParty.f k x214000 x214001 1).bind fun t225=>(if t225 < 0 then (some false) else (if t225=x7 then (some true) else (some false))))
end
def laws_FnExactParseParty.f (k:Nat) (a0:ByteArray):Option (Bool):=if (a0.size:Int) > 1048576 then (some true) else ((spec_ParseParty.f k a0).bind fun bt202=>((impl_ParseParty.f k a0).bind fun bt208=>((laws_eqParty.f k bt208.1 bt208.2.1 bt202.1 bt202.2.1).bind fun t214=>(if t214=true then (laws_FnExactParseParty.j0 k a0 bt202.2.2 (bt208.2.2 != bt202.2.2) bt202.1 bt202.2.1 bt208.1 bt208.2.1) else (laws_FnExactParseParty.j0 k a0 bt202.2.2 true bt202.1 bt202.2.1 bt208.1 bt208.2.1)))))
theorem laws_FnExactParseParty.mono_l:∀ k,(∀ y0 y1 y2 y3 y4 y5 y6,LeO (laws_FnExactParseParty.j0 k y0 y1 y2 y3 y4 y5 y6) (laws_FnExactParseParty.j0 (k+1) y0 y1 y2 y3 y4 y5 y6))∧(∀ y0 y1 y2 y3,LeO (laws_FnExactParseParty.j1 k y0 y1 y2 y3) (laws_FnExactParseParty.j1 (k+1) y0 y1 y2 y3))
 | 0=>⟨fun _ _ _ _ _ _ _ r h=>by simp [laws_FnExactParseParty.j0] at h,fun _ _ _ _ r h=>by simp [laws_FnExactParseParty.j1] at h⟩
 | k+1=>by
  obtain ⟨ih0,ih1⟩:=laws_FnExactParseParty.mono_l k
  refine ⟨?_,?_⟩
  ·intro y0 y1 y2 y3 y4 y5 y6
   unfold laws_FnExactParseParty.j0
   repeat' first
   | (with_reducible exact ih0 _ _ _ _ _ _ _)
   | (with_reducible exact ih1 _ _ _ _)
   | (with_reducible exact impl_ParseParty.mono _ _)
   | (with_reducible exact laws_eqParty.mono _ _ _ _ _)
   | (with_reducible exact laws_heldParty.mono _ _ _ _)
   | (with_reducible exact laws_markParty.mono _ _ _ _)
   | (with_reducible exact spec_ParseParty.mono _ _)
   | (with_reducible exact LeO.refl _)
   | (with_reducible exact LeO.none _)
   | (with_reducible refine LeO.ite ?_ ?_)
   | (with_reducible refine LeO.bind ?_ (fun _=>?_))
   | exact ih0 _ _ _ _ _ _ _
   | exact ih1 _ _ _ _
   | exact impl_ParseParty.mono _ _
   | exact laws_eqParty.mono _ _ _ _ _
   | exact laws_heldParty.mono _ _ _ _
   | exact laws_markParty.mono _ _ _ _
   | exact spec_ParseParty.mono _ _
   | exact LeO.none _
   | refine LeO.ite ?_ ?_
   | refine LeO.bind ?_ (fun _=>?_)
  ·intro y0 y1 y2 y3
   unfold laws_FnExactParseParty.j1
   repeat' first
   | (with_reducible exact ih0 _ _ _ _ _ _ _)
   | (with_reducible exact ih1 _ _ _ _)
   | (with_reducible exact impl_ParseParty.mono _ _)
   | (with_reducible exact laws_eqParty.mono _ _ _ _ _)
   | (with_reducible exact laws_heldParty.mono _ _ _ _)
   | (with_reducible exact laws_markParty.mono _ _ _ _)
   | (with_reducible exact spec_ParseParty.mono _ _)
   | (with_reducible exact LeO.refl _)
   | (with_reducible exact LeO.none _)
   | (with_reducible refine LeO.ite ?_ ?_)
   | (with_reducible refine LeO.bind ?_ (fun _=>?_))
   | exact ih0 _ _ _ _ _ _ _
   | exact ih1 _ _ _ _
   | exact impl_ParseParty.mono _ _
   | exact laws_eqParty.mono _ _ _ _ _
   | exact laws_heldParty.mono _ _ _ _
   | exact laws_markParty.mono _ _ _ _
   | exact spec_ParseParty.mono _ _
   | exact LeO.none _
   | refine LeO.ite ?_ ?_
   | refine LeO.bind ?_ (fun _=>?_)
theorem laws_FnExactParseParty.mono:∀ a0 k,LeO (laws_FnExactParseParty.f k a0) (laws_FnExactParseParty.f (k+1) a0):=by
 intro a0 k
 obtain ⟨ih0,ih1⟩:=laws_FnExactParseParty.mono_l k
 unfold laws_FnExactParseParty.f
 repeat' first
   | (with_reducible exact ih0 _ _ _ _ _ _ _)
   | (with_reducible exact ih1 _ _ _ _)
   | (with_reducible exact impl_ParseParty.mono _ _)
   | (with_reducible exact laws_eqParty.mono _ _ _ _ _)
   | (with_reducible exact laws_heldParty.mono _ _ _ _)
   | (with_reducible exact laws_markParty.mono _ _ _ _)
   | (with_reducible exact spec_ParseParty.mono _ _)
   | (with_reducible exact LeO.refl _)
   | (with_reducible exact LeO.none _)
   | (with_reducible refine LeO.ite ?_ ?_)
   | (with_reducible refine LeO.bind ?_ (fun _=>?_))
   | exact ih0 _ _ _ _ _ _ _
   | exact ih1 _ _ _ _
   | exact impl_ParseParty.mono _ _
   | exact laws_eqParty.mono _ _ _ _ _
   | exact laws_heldParty.mono _ _ _ _
   | exact laws_markParty.mono _ _ _ _
   | exact spec_ParseParty.mono _ _
   | exact LeO.none _
   | refine LeO.ite ?_ ?_
   | refine LeO.bind ?_ (fun _=>?_)
set_option maxHeartbeats 8000000 in
set_option maxRecDepth 100000 in
theorem laws_FnExactParseParty.calls (k:Nat) (a0:ByteArray) (r:Bool) (w:World) (h:laws_FnExactParseParty.f k a0=some r) (hT:Tz w) :
  Calls Tryd.prog 4 #[.string a0] w fun e w'=>e=.returned (.bool r)∧Below w.heap.size w w':=by
 have hu30:=Tryd.underlying30
 have HB:=zz31 (Below.refl w.heap.size w)
 have HT:=zz31 hT
 clear hT
 have H:(if (a0.size:Int) > 1048576 then (some true) else ((spec_ParseParty.f k a0).bind fun bt202=>((impl_ParseParty.f k a0).bind fun bt208=>((laws_eqParty.f k bt208.1 bt208.2.1 bt202.1 bt202.2.1).bind fun t214=>(if t214=true then (laws_FnExactParseParty.j0 k a0 bt202.2.2 (bt208.2.2 != bt202.2.2) bt202.1 bt202.2.1 bt208.1 bt208.2.1) else (laws_FnExactParseParty.j0 k a0 bt202.2.2 true bt202.1 bt202.2.1 bt208.1 bt208.2.1))))))=some r:=h
 clear h
 by_cases c2:(a0.size:Int) > 1048576
 ·rw [if_pos c2] at H
  have c2b0:decide (1048576 < (a0.size:Int))=true:=decide_eq_true c2
  have c2b1:decide (1048576 < a0.size)=true:=decide_eq_true (by omega)
  clear c2
  obtain rfl:=Option.some.inj H
  go_enter Tryd.func4,Tryd.ntmps4
  go_wp2
  go_ret
  exact ⟨by first | rfl | (simp [errW_none,errW_some] <;> rfl) | (simp [*,errW_none,errW_some] <;> rfl),by repeat first | exact HB.out | apply zz2 | apply zz0 | apply zz1⟩
 ·rw [if_neg c2] at H
  have c2b0:decide (1048576 < (a0.size:Int))=false:=decide_eq_false c2
  have c2b1:decide (1048576 < a0.size)=false:=decide_eq_false (by omega)
  clear c2
  replace H:=zz30.mp H
  obtain ⟨⟨t202,t203,t206⟩,A30,H⟩:=H
  replace H:((impl_ParseParty.f k a0).bind fun bt208=>((laws_eqParty.f k bt208.1 bt208.2.1 t202 t203).bind fun t214=>(if t214=true then (laws_FnExactParseParty.j0 k a0 t206 (bt208.2.2 != t206) t202 t203 bt208.1 bt208.2.1) else (laws_FnExactParseParty.j0 k a0 t206 true t202 t203 bt208.1 bt208.2.1))))=some r:=H
  have A3:=zz31 A30
  clear A30
  replace H:=zz30.mp H
  obtain ⟨⟨t208,t209,t212⟩,A40,H⟩:=H
  replace H:((laws_eqParty.f k t208 t209 t202 t203).bind fun t214=>(if t214=true then (laws_FnExactParseParty.j0 k a0 t206 (t212 != t206) t202 t203 t208 t209) else (laws_FnExactParseParty.j0 k a0 t206 true t202 t203 t208 t209)))=some r:=H
  have A4:=zz31 A40
  clear A40
  have HC5:=zz31 H
  clear H
  go_enter Tryd.func4,Tryd.ntmps4
  go_upto_region 5 with (first | ((with_reducible refine gate_callee (f:=10) rfl ?_);refine goesL_ (some 16) rfl rfl Tryd.func10 (by kernel_rfl) rfl #[.string a0] rfl (by (try simp only [zz26,zz27,zz28]);first | done | rfl | (simp only [zz24,zz25];rfl)) ?_;(with_reducible refine (spec_ParseParty.calls k a0 t202 t203 t206 _ A3.out).mono ?_);rintro e w6 ⟨v204,rfl,ho0,hb⟩;refine ⟨_,rfl,?_⟩;have n0_:=zz31 (Kd.R_lower ho0 (zz5 (by repeat first | exact HB.out | apply zz2 | apply zz0 | apply zz1)));have n1_:=zz31 (zz4 (by repeat first | exact HB.out | apply zz2 | apply zz0 | apply zz1) hb);clear HB;have HO205:=n0_;have HB:=n1_;clear n0_ n1_;(try clear hb);(try clear hb2);(try clear hk);(try clear hi);(try clear ho0)) | ((with_reducible refine gate_dst (N:=3) rfl ?_);refine box_event ?hg (N:=3) ?hd (cs:=#[.int .i64 0,.slice none 0 0]) (t:=30) ?hr ?_;(case hd=>rfl);(case hg=>rfl);(case hr=>first | (go_simp;done) | (go_simp;rfl));intro gb207 hg w7 hbox hb;have n0_:=zz31 (Kd.R_below (by (with_reducible repeat (first | apply zz12 | apply zz13 | apply zz14));exact HO205.out) hb);have n1_:=zz31 (zz4 (by repeat first | exact HB.out | apply zz2 | apply zz0 | apply zz1) hb);have n2_:=zz31 (hbox);have n3_:=zz31 ((by rw [hg];exact (zz5 (by repeat first | exact HB.out | apply zz2 | apply zz0 | apply zz1)):w.heap.size≤gb207));have n4_:=zz31 ((by rw [hg];exact (zz5 (by repeat first | exact HB.out | apply zz2 | apply zz0 | apply zz1)):w.heap.size≤gb207));clear HO205;clear HB;have HO205:=n0_;have HB:=n1_;have BK207:=n2_;have GW207:=n3_;have GE207:=n4_;clear n0_ n1_ n2_ n3_ n4_;clear hb hbox hg;have hcz8_0:w7.cell? ⟨gb207,0,none⟩=some (.int .i64 0):=(zz9 BK207.out 0).trans rfl;have hcz8_1:w7.cell? ⟨gb207,1,none⟩=some (.slice none 0 0):=(zz9 BK207.out 1).trans rfl;have hfz8_0:=zz10 BK207.out 0;have hfz8_1:=zz10 BK207.out 1;obtain ⟨Ao9,co9,eo9⟩:=Kd.R_slice HO205.out;subst eo9) | ((with_reducible refine gate_callee (f:=11) rfl ?_);refine goesL_ (some 21) rfl rfl Tryd.func11 (by kernel_rfl) rfl #[.string a0] rfl (by (try simp only [zz26,zz27,zz28]);first | done | rfl | (simp only [zz24,zz25];rfl)) ?_;(with_reducible refine (impl_ParseParty.calls k a0 t208 t209 t212 _ A4.out (HT.out.below (by repeat first | exact HB.out | apply zz2 | apply zz0 | apply zz1 | refine zz3 ?_ GE207.out | refine zz3 ?_ GE213.out | refine zz3 ?_ GE223.out))).mono ?_);rintro e w10 ⟨v210,rfl,ho0,hb⟩;refine ⟨_,rfl,?_⟩;have n0_:=zz31 (Kd.R_elder' (by (with_reducible repeat (first | apply zz12 | apply zz13 | apply zz14));exact (Kd.R_mono (Kd.R_far (p:=⟨gb207,1,none⟩) (Kd.R_far (p:=⟨gb207,0,none⟩) (Kd.R_types HO205.out BK207.out (by decide)) (fun _ hk=>hk.2) (.int .i64 t202)) (fun _ hk=>hk.2) (.slice Ao9 t203.length co9)) (fun _ h_=>h_.1))) (Kd.R_base ho0) hb);have n1_:=zz31 (Kd.R_lower (Kd.R_new' ho0 (Kd.R_lt (by (with_reducible repeat (first | apply zz12 | apply zz13 | apply zz14));exact (Kd.R_mono (Kd.R_far (p:=⟨gb207,1,none⟩) (Kd.R_far (p:=⟨gb207,0,none⟩) (Kd.R_types HO205.out BK207.out (by decide)) (fun _ hk=>hk.2) (.int .i64 t202)) (fun _ hk=>hk.2) (.slice Ao9 t203.length co9)) (fun _ h_=>h_.1))))) (zz5 (by repeat first | exact HB.out | apply zz2 | apply zz0 | apply zz1 | refine zz3 ?_ GE207.out)));have n2_:=zz31 (zz11 (g:=gb207) (o:=.cells #[.int .i64 t202,.slice Ao9 t203.length co9] 30 (0,0)) (by (with_reducible repeat (first | refine zz6 ?_ _ | refine zz7 ?_ | refine zz8 ?_ _));refine blk_put (cs:=#[.int .i64 t202,.slice none 0 0]) ?_ 1 _ rfl;(with_reducible repeat (first | refine zz6 ?_ _ | refine zz7 ?_ | refine zz8 ?_ _));refine blk_put (cs:=#[.int .i64 0,.slice none 0 0]) ?_ 0 _ rfl;(with_reducible repeat (first | refine zz6 ?_ _ | refine zz7 ?_ | refine zz8 ?_ _));exact BK207.out) hb);have n3_:=zz31 (zz4 (by repeat first | exact HB.out | apply zz2 | apply zz0 | apply zz1 | refine zz3 ?_ GE207.out) hb);clear HO205;clear BK207;clear HB;have HO205:=n0_;have HO211:=n1_;have BK207:=n2_;have HB:=n3_;clear n0_ n1_ n2_ n3_;(try clear hb);(try clear hb2);(try clear hk);(try clear hi);(try clear ho0)) | ((with_reducible refine gate_dst (N:=5) rfl ?_);refine box_event ?hg (N:=5) ?hd (cs:=#[.int .i64 0,.slice none 0 0]) (t:=30) ?hr ?_;(case hd=>rfl);(case hg=>rfl);(case hr=>first | (go_simp;done) | (go_simp;rfl));intro gb213 hg w11 hbox hb;have n0_:=zz31 (Kd.R_below (by (with_reducible repeat (first | apply zz12 | apply zz13 | apply zz14));exact HO205.out) hb);have n1_:=zz31 (Kd.R_below (by (with_reducible repeat (first | apply zz12 | apply zz13 | apply zz14));exact HO211.out) hb);have n2_:=zz31 (zz11 (g:=gb207) (o:=.cells #[.int .i64 t202,.slice Ao9 t203.length co9] 30 (0,0)) (by (with_reducible repeat (first | refine zz6 ?_ _ | refine zz7 ?_ | refine zz8 ?_ _));exact BK207.out) hb);have n3_:=zz31 (zz4 (by repeat first | exact HB.out | apply zz2 | apply zz0 | apply zz1 | refine zz3 ?_ GE207.out) hb);have n4_:=zz31 (hbox);have n5_:=zz31 ((by rw [hg];exact (zz5 (by repeat first | exact HB.out | apply zz2 | apply zz0 | apply zz1 | refine zz3 ?_ GE207.out)):w.heap.size≤gb213));have n6_:=zz31 ((by rw [hg];exact (zz5 (by repeat first | exact HB.out | apply zz2 | apply zz0 | apply zz1 | refine zz3 ?_ GE207.out)):w.heap.size≤gb213));have n7_:=zz31 ((by rw [hg];exact Nat.ne_of_lt (blk_lt (g:=gb207) (o:=.cells #[.int .i64 t202,.slice Ao9 t203.length co9] 30 (0,0)) (by (with_reducible repeat (first | refine zz6 ?_ _ | refine zz7 ?_ | refine zz8 ?_ _));exact BK207.out)):gb207 ≠ gb213));have n8_:=zz31 ((by rw [hg];exact Nat.ne_of_gt (blk_lt (g:=gb207) (o:=.cells #[.int .i64 t202,.slice Ao9 t203.length co9] 30 (0,0)) (by (with_reducible repeat (first | refine zz6 ?_ _ | refine zz7 ?_ | refine zz8 ?_ _));exact BK207.out)):gb213 ≠ gb207));clear HO205;clear HO211;clear BK207;clear HB;have HO205:=n0_;have HO211:=n1_;have BK207:=n2_;have HB:=n3_;have BK213:=n4_;have GW213:=n5_;have GE213:=n6_;have NB207_213:=n7_;have NB213_207:=n8_;clear n0_ n1_ n2_ n3_ n4_ n5_ n6_ n7_ n8_;clear hb hbox hg;have hnb12:=NB213_207.out;have hnc12:=NB207_213.out;have hcz13_0:w11.cell? ⟨gb213,0,none⟩=some (.int .i64 0):=(zz9 BK213.out 0).trans rfl;have hcz13_1:w11.cell? ⟨gb213,1,none⟩=some (.slice none 0 0):=(zz9 BK213.out 1).trans rfl;have hfz13_0:=zz10 BK213.out 0;have hfz13_1:=zz10 BK213.out 1;obtain ⟨Ao14,co14,eo14⟩:=Kd.R_slice HO211.out;subst eo14))
  (try simp only [Act.put,zz21,zz22,zz23])
  go_cut [32] (fun v32 wc=>∃ (kq:Nat) (x32_4:Bool),v32=.bool x32_4∧Aside0 (laws_FnExactParseParty.j0 kq a0 t206 x32_4 t202 t203 t208 t209=some r)∧Aside0 (kq≤k)∧Aside0 (Kd.R k50 50 wc w.heap.size (fun k_=>some k_ ≠ ((.slice Ao14 t209.length co14):Value).ownBlock) (.slice Ao9 t203.length co9) t203)∧Aside0 (Kd.R k50 50 wc w.heap.size (fun k_=>some k_ ≠ ((.slice Ao9 t203.length co9):Value).ownBlock) (.slice Ao14 t209.length co14) t209)∧Aside0 (wc.heap[gb207]?=some (.cells #[.int .i64 t202,(.slice Ao9 t203.length co9)] 30 (0,0)))∧Aside0 (wc.heap[gb213]?=some (.cells #[.int .i64 t208,(.slice Ao14 t209.length co14)] 30 (0,0)))∧Aside0 (Below w.heap.size w wc))
  case first =>
   have H:=HC5.out
   clear HC5
   replace H:=zz30.mp H
   obtain ⟨t214,A150,H⟩:=H
   replace H:(if t214=true then (laws_FnExactParseParty.j0 k a0 t206 (t212 != t206) t202 t203 t208 t209) else (laws_FnExactParseParty.j0 k a0 t206 true t202 t203 t208 t209))=some r:=H
   have A15:=zz31 A150
   clear A150
   by_cases c16:t214=true
   ·subst c16
    have H1:(laws_FnExactParseParty.j0 k a0 t206 (t212 != t206) t202 t203 t208 t209)=some r:=by rw [if_pos rfl] at H;exact H
    clear H
    have H:=H1
    clear H1
    have H':=zz31 H
    clear H
    have hnb17:=NB213_207.out
    have hnc17:=NB207_213.out
    have hcz18_0:w11.cell? ⟨gb213,0,none⟩=some (.int .i64 0):=(zz9 BK213.out 0).trans rfl
    have hcz18_1:w11.cell? ⟨gb213,1,none⟩=some (.slice none 0 0):=(zz9 BK213.out 1).trans rfl
    have hfz18_0:=zz10 BK213.out 0
    have hfz18_1:=zz10 BK213.out 1
    have hcz19_0:w11.cell? ⟨gb207,0,none⟩=some (.int .i64 t202):=(zz9 BK207.out 0).trans rfl
    have hcz19_1:w11.cell? ⟨gb207,1,none⟩=some (.slice Ao9 t203.length co9):=(zz9 BK207.out 1).trans rfl
    have hfz19_0:=zz10 BK207.out 0
    have hfz19_1:=zz10 BK207.out 1
    go_wp2_with (first | ((with_reducible refine gate_callee (f:=9) rfl ?_);refine goesL_ (some 26) rfl rfl Tryd.func9 (by kernel_rfl) rfl #[.agg #[.int .i64 t208,.slice Ao14 t209.length co14],.agg #[.int .i64 t202,.slice Ao9 t203.length co9]] rfl (by (try simp only [zz26,zz27,zz28]);first | done | rfl | (simp only [zz24,zz25];rfl)) ?_;(with_reducible refine (laws_eqParty.calls k t208 _ _ t209 t202 _ _ t203 true _ ?side1 ?side2 ?side3 ?side4 A15.out).mono ?_);(case side1=>refine (Kd.R_reads' (e:=50) (base:=w.heap.size) (ok:=fun k_=>(True∧some k_ ≠ (.slice Ao9 t203.length co9:Value).ownBlock)) (n:=t209.length) (c:=co14) ?_).2.2;exact (by (with_reducible repeat (first | apply zz12 | apply zz13 | apply zz14));exact (Kd.R_mono (Kd.R_far (p:=⟨gb213,1,none⟩) (Kd.R_far (p:=⟨gb213,0,none⟩) (Kd.R_types HO211.out BK213.out (by decide)) (fun _ hk=>hk.2) (.int .i64 t208)) (fun _ hk=>hk.2) (.slice Ao14 t209.length co14)) (fun _ h_=>h_.1))));(case side2=>exact (Kd.R_reads' HO211.out).2.1);(case side3=>refine (Kd.R_reads' (e:=50) (base:=w.heap.size) (ok:=fun k_=>(True∧some k_ ≠ (.slice Ao14 t209.length co14:Value).ownBlock)) (n:=t203.length) (c:=co9) ?_).2.2;exact (by (with_reducible repeat (first | apply zz12 | apply zz13 | apply zz14));exact (Kd.R_mono (Kd.R_far (p:=⟨gb213,1,none⟩) (Kd.R_far (p:=⟨gb213,0,none⟩) (Kd.R_types HO205.out BK213.out (by decide)) (fun _ hk=>hk.2) (.int .i64 t208)) (fun _ hk=>hk.2) (.slice Ao14 t209.length co14)) (fun _ h_=>h_.1))));(case side4=>exact (Kd.R_reads' HO205.out).2.1);rintro e w20 ⟨rfl,hb⟩;refine ⟨_,rfl,?_⟩;have n0_:=zz31 (Kd.R_below (by (with_reducible repeat (first | apply zz12 | apply zz13 | apply zz14));exact (Kd.R_mono (Kd.R_far (p:=⟨gb213,1,none⟩) (Kd.R_far (p:=⟨gb213,0,none⟩) (Kd.R_types HO205.out BK213.out (by decide)) (fun _ hk=>hk.2) (.int .i64 t208)) (fun _ hk=>hk.2) (.slice Ao14 t209.length co14)) (fun _ h_=>h_.1))) hb);have n1_:=zz31 (Kd.R_below (by (with_reducible repeat (first | apply zz12 | apply zz13 | apply zz14));exact (Kd.R_mono (Kd.R_far (p:=⟨gb213,1,none⟩) (Kd.R_far (p:=⟨gb213,0,none⟩) (Kd.R_types HO211.out BK213.out (by decide)) (fun _ hk=>hk.2) (.int .i64 t208)) (fun _ hk=>hk.2) (.slice Ao14 t209.length co14)) (fun _ h_=>h_.1))) hb);have n2_:=zz31 (zz11 (g:=gb207) (o:=.cells #[.int .i64 t202,.slice Ao9 t203.length co9] 30 (0,0)) (by (with_reducible repeat (first | refine zz6 ?_ _ | refine zz7 ?_ | refine zz8 ?_ _));refine blk_far ?_ NB207_213.out _;(with_reducible repeat (first | refine zz6 ?_ _ | refine zz7 ?_ | refine zz8 ?_ _));refine blk_far ?_ NB207_213.out _;(with_reducible repeat (first | refine zz6 ?_ _ | refine zz7 ?_ | refine zz8 ?_ _));exact BK207.out) hb);have n3_:=zz31 (zz11 (g:=gb213) (o:=.cells #[.int .i64 t208,.slice Ao14 t209.length co14] 30 (0,0)) (by (with_reducible repeat (first | refine zz6 ?_ _ | refine zz7 ?_ | refine zz8 ?_ _));refine blk_put (cs:=#[.int .i64 t208,.slice none 0 0]) ?_ 1 _ rfl;(with_reducible repeat (first | refine zz6 ?_ _ | refine zz7 ?_ | refine zz8 ?_ _));refine blk_put (cs:=#[.int .i64 0,.slice none 0 0]) ?_ 0 _ rfl;(with_reducible repeat (first | refine zz6 ?_ _ | refine zz7 ?_ | refine zz8 ?_ _));exact BK213.out) hb);have n4_:=zz31 (zz4 (by repeat first | exact HB.out | apply zz2 | apply zz0 | apply zz1 | refine zz3 ?_ GE207.out | refine zz3 ?_ GE213.out) hb);clear HO205;clear HO211;clear BK207;clear BK213;clear HB;have HO205:=n0_;have HO211:=n1_;have BK207:=n2_;have BK213:=n3_;have HB:=n4_;clear n0_ n1_ n2_ n3_ n4_;(try clear hb);(try clear hb2);(try clear hk);(try clear hi)))
    go_meet
    case rel=>exact ⟨_,((t212 != t206)),(by first | rfl | (simp;done) | (simp [*];done)),H',⟨by first | omega | exact Nat.le_refl _⟩,⟨by (with_reducible repeat (first | apply zz12 | apply zz13 | apply zz14));exact Kd.R_mono HO205.out (fun _ hk=>hk.2)⟩,⟨by (with_reducible repeat (first | apply zz12 | apply zz13 | apply zz14));exact Kd.R_mono HO211.out (fun _ hk=>hk.2)⟩,⟨by (with_reducible repeat (first | refine zz6 ?_ _ | refine zz7 ?_ | refine zz8 ?_ _));exact BK207.out⟩,⟨by (with_reducible repeat (first | refine zz6 ?_ _ | refine zz7 ?_ | refine zz8 ?_ _));exact BK213.out⟩,⟨by repeat first | exact HB.out | apply zz2 | apply zz0 | apply zz1 | refine zz3 ?_ GE207.out | refine zz3 ?_ GE213.out⟩⟩
   ·replace c16:=Bool.eq_false_iff.mpr c16
    subst c16
    have H1:(laws_FnExactParseParty.j0 k a0 t206 true t202 t203 t208 t209)=some r:=by rw [if_neg (show ¬ (false=true) by decide)] at H;exact H
    clear H
    have H:=H1
    clear H1
    have H':=zz31 H
    clear H
    have hnb21:=NB213_207.out
    have hnc21:=NB207_213.out
    have hcz22_0:w11.cell? ⟨gb213,0,none⟩=some (.int .i64 0):=(zz9 BK213.out 0).trans rfl
    have hcz22_1:w11.cell? ⟨gb213,1,none⟩=some (.slice none 0 0):=(zz9 BK213.out 1).trans rfl
    have hfz22_0:=zz10 BK213.out 0
    have hfz22_1:=zz10 BK213.out 1
    have hcz23_0:w11.cell? ⟨gb207,0,none⟩=some (.int .i64 t202):=(zz9 BK207.out 0).trans rfl
    have hcz23_1:w11.cell? ⟨gb207,1,none⟩=some (.slice Ao9 t203.length co9):=(zz9 BK207.out 1).trans rfl
    have hfz23_0:=zz10 BK207.out 0
    have hfz23_1:=zz10 BK207.out 1
    go_wp2_with (first | ((with_reducible refine gate_callee (f:=9) rfl ?_);refine goesL_ (some 26) rfl rfl Tryd.func9 (by kernel_rfl) rfl #[.agg #[.int .i64 t208,.slice Ao14 t209.length co14],.agg #[.int .i64 t202,.slice Ao9 t203.length co9]] rfl (by (try simp only [zz26,zz27,zz28]);first | done | rfl | (simp only [zz24,zz25];rfl)) ?_;(with_reducible refine (laws_eqParty.calls k t208 _ _ t209 t202 _ _ t203 false _ ?side1 ?side2 ?side3 ?side4 A15.out).mono ?_);(case side1=>refine (Kd.R_reads' (e:=50) (base:=w.heap.size) (ok:=fun k_=>(True∧some k_ ≠ (.slice Ao9 t203.length co9:Value).ownBlock)) (n:=t209.length) (c:=co14) ?_).2.2;exact (by (with_reducible repeat (first | apply zz12 | apply zz13 | apply zz14));exact (Kd.R_mono (Kd.R_far (p:=⟨gb213,1,none⟩) (Kd.R_far (p:=⟨gb213,0,none⟩) (Kd.R_types HO211.out BK213.out (by decide)) (fun _ hk=>hk.2) (.int .i64 t208)) (fun _ hk=>hk.2) (.slice Ao14 t209.length co14)) (fun _ h_=>h_.1))));(case side2=>exact (Kd.R_reads' HO211.out).2.1);(case side3=>refine (Kd.R_reads' (e:=50) (base:=w.heap.size) (ok:=fun k_=>(True∧some k_ ≠ (.slice Ao14 t209.length co14:Value).ownBlock)) (n:=t203.length) (c:=co9) ?_).2.2;exact (by (with_reducible repeat (first | apply zz12 | apply zz13 | apply zz14));exact (Kd.R_mono (Kd.R_far (p:=⟨gb213,1,none⟩) (Kd.R_far (p:=⟨gb213,0,none⟩) (Kd.R_types HO205.out BK213.out (by decide)) (fun _ hk=>hk.2) (.int .i64 t208)) (fun _ hk=>hk.2) (.slice Ao14 t209.length co14)) (fun _ h_=>h_.1))));(case side4=>exact (Kd.R_reads' HO205.out).2.1);rintro e w24 ⟨rfl,hb⟩;refine ⟨_,rfl,?_⟩;have n0_:=zz31 (Kd.R_below (by (with_reducible repeat (first | apply zz12 | apply zz13 | apply zz14));exact (Kd.R_mono (Kd.R_far (p:=⟨gb213,1,none⟩) (Kd.R_far (p:=⟨gb213,0,none⟩) (Kd.R_types HO205.out BK213.out (by decide)) (fun _ hk=>hk.2) (.int .i64 t208)) (fun _ hk=>hk.2) (.slice Ao14 t209.length co14)) (fun _ h_=>h_.1))) hb);have n1_:=zz31 (Kd.R_below (by (with_reducible repeat (first | apply zz12 | apply zz13 | apply zz14));exact (Kd.R_mono (Kd.R_far (p:=⟨gb213,1,none⟩) (Kd.R_far (p:=⟨gb213,0,none⟩) (Kd.R_types HO211.out BK213.out (by decide)) (fun _ hk=>hk.2) (.int .i64 t208)) (fun _ hk=>hk.2) (.slice Ao14 t209.length co14)) (fun _ h_=>h_.1))) hb);have n2_:=zz31 (zz11 (g:=gb207) (o:=.cells #[.int .i64 t202,.slice Ao9 t203.length co9] 30 (0,0)) (by (with_reducible repeat (first | refine zz6 ?_ _ | refine zz7 ?_ | refine zz8 ?_ _));refine blk_far ?_ NB207_213.out _;(with_reducible repeat (first | refine zz6 ?_ _ | refine zz7 ?_ | refine zz8 ?_ _));refine blk_far ?_ NB207_213.out _;(with_reducible repeat (first | refine zz6 ?_ _ | refine zz7 ?_ | refine zz8 ?_ _));exact BK207.out) hb);have n3_:=zz31 (zz11 (g:=gb213) (o:=.cells #[.int .i64 t208,.slice Ao14 t209.length co14] 30 (0,0)) (by (with_reducible repeat (first | refine zz6 ?_ _ | refine zz7 ?_ | refine zz8 ?_ _));refine blk_put (cs:=#[.int .i64 t208,.slice none 0 0]) ?_ 1 _ rfl;(with_reducible repeat (first | refine zz6 ?_ _ | refine zz7 ?_ | refine zz8 ?_ _));refine blk_put (cs:=#[.int .i64 0,.slice none 0 0]) ?_ 0 _ rfl;(with_reducible repeat (first | refine zz6 ?_ _ | refine zz7 ?_ | refine zz8 ?_ _));exact BK213.out) hb);have n4_:=zz31 (zz4 (by repeat first | exact HB.out | apply zz2 | apply zz0 | apply zz1 | refine zz3 ?_ GE207.out | refine zz3 ?_ GE213.out) hb);clear HO205;clear HO211;clear BK207;clear BK213;clear HB;have HO205:=n0_;have HO211:=n1_;have BK207:=n2_;have BK213:=n3_;have HB:=n4_;clear n0_ n1_ n2_ n3_ n4_;(try clear hb);(try clear hb2);(try clear hk);(try clear hi)))
    go_meet
    case rel=>exact ⟨_,(true),(by first | rfl | (simp;done) | (simp [*];done)),H',⟨by first | omega | exact Nat.le_refl _⟩,⟨by (with_reducible repeat (first | apply zz12 | apply zz13 | apply zz14));exact Kd.R_mono HO205.out (fun _ hk=>hk.2)⟩,⟨by (with_reducible repeat (first | apply zz12 | apply zz13 | apply zz14));exact Kd.R_mono HO211.out (fun _ hk=>hk.2)⟩,⟨by (with_reducible repeat (first | refine zz6 ?_ _ | refine zz7 ?_ | refine zz8 ?_ _));exact BK207.out⟩,⟨by (with_reducible repeat (first | refine zz6 ?_ _ | refine zz7 ?_ | refine zz8 ?_ _));exact BK213.out⟩,⟨by repeat first | exact HB.out | apply zz2 | apply zz0 | apply zz1 | refine zz3 ?_ GE207.out | refine zz3 ?_ GE213.out⟩⟩
  case rest =>
   clear HC5
   try clear c1
   try clear c2
   try clear c2b0
   try clear c2b1
   try clear p2
   try clear c4
   try clear c9
   try clear c10
   try clear c11
   try clear c12
   try clear c16
   try clear c17
   try clear c21
   try clear hcz13_0
   try clear hcz13_1
   try clear hcz18_0
   try clear hcz18_1
   try clear hcz19_0
   try clear hcz19_1
   try clear hcz22_0
   try clear hcz22_1
   try clear hcz23_0
   try clear hcz23_1
   try clear hcz8_0
   try clear hcz8_1
   try clear hfz13_0
   try clear hfz13_1
   try clear hfz18_0
   try clear hfz18_1
   try clear hfz19_0
   try clear hfz19_1
   try clear hfz22_0
   try clear hfz22_1
   try clear hfz23_0
   try clear hfz23_1
   try clear hfz8_0
   try clear hfz8_1
   obtain ⟨kq,x32_4,rfl,HA,HJ4,HO_208001,HO_214001,BK207,BK213,HB⟩:=hcut
   cases kq with
   | zero=>exact absurd HA.out (by simp [laws_FnExactParseParty.j0])
   | succ kj4 =>
    have H:=HA.out
    clear HA
    simp only [laws_FnExactParseParty.j0] at H
    by_cases c25:x32_4=true
    ·subst c25
     have H1:(some false)=some r:=by rw [if_pos rfl] at H;exact H
     clear H
     have H:=H1
     clear H1
     obtain rfl:=Option.some.inj H
     go_wp2
     go_ret
     exact ⟨by first | rfl | (simp [errW_none,errW_some] <;> rfl) | (simp [*,errW_none,errW_some] <;> rfl),by repeat first | exact HB.out | apply zz2 | apply zz0 | apply zz1 | refine zz3 ?_ GE207.out | refine zz3 ?_ GE213.out⟩
    ·replace c25:=Bool.eq_false_iff.mpr c25
     subst c25
     have H1:((laws_markParty.f kj4 t208 t209 1).bind fun bt215=>((laws_heldParty.f kj4 t208 bt215.2 1).bind fun t217=>(if t217 < 0 then (some false) else (if t217=bt215.1 then ((impl_ParseParty.f kj4 a0).bind fun bt218=>((laws_eqParty.f kj4 bt218.1 bt218.2.1 t202 t203).bind fun t224=>(if t224=true then (laws_FnExactParseParty.j1 kj4 bt215.1 (bt218.2.2 != t206) t208 bt215.2) else (laws_FnExactParseParty.j1 kj4 bt215.1 true t208 bt215.2)))) else (some false)))))=some r:=by rw [if_neg (show ¬ (false=true) by decide)] at H;exact H
     clear H
     have H:=H1
     clear H1
     replace H:=zz30.mp H
     obtain ⟨⟨t215,t216⟩,A260,H⟩:=H
     replace H:((laws_heldParty.f kj4 t208 t216 1).bind fun t217=>(if t217 < 0 then (some false) else (if t217=t215 then ((impl_ParseParty.f kj4 a0).bind fun bt218=>((laws_eqParty.f kj4 bt218.1 bt218.2.1 t202 t203).bind fun t224=>(if t224=true then (laws_FnExactParseParty.j1 kj4 t215 (bt218.2.2 != t206) t208 t216) else (laws_FnExactParseParty.j1 kj4 t215 true t208 t216)))) else (some false))))=some r:=H
     have A26:=zz31 A260
     clear A260
     replace H:=zz30.mp H
     obtain ⟨t217,A270,H⟩:=H
     replace H:(if t217 < 0 then (some false) else (if t217=t215 then ((impl_ParseParty.f kj4 a0).bind fun bt218=>((laws_eqParty.f kj4 bt218.1 bt218.2.1 t202 t203).bind fun t224=>(if t224=true then (laws_FnExactParseParty.j1 kj4 t215 (bt218.2.2 != t206) t208 t216) else (laws_FnExactParseParty.j1 kj4 t215 true t208 t216)))) else (some false)))=some r:=H
     have A27:=zz31 A270
     clear A270
     by_cases c28:t217 < 0
     ·rw [if_pos c28] at H
      have c28b0:decide (t217 < 0)=true:=decide_eq_true c28
      clear c28
      obtain rfl:=Option.some.inj H
      have hnb29:=NB213_207.out
      have hnc29:=NB207_213.out
      have hcz30_0:wc.cell? ⟨gb213,0,none⟩=some (.int .i64 t208):=(zz9 BK213.out 0).trans rfl
      have hcz30_1:wc.cell? ⟨gb213,1,none⟩=some (.slice Ao14 t209.length co14):=(zz9 BK213.out 1).trans rfl
      have hfz30_0:=zz10 BK213.out 0
      have hfz30_1:=zz10 BK213.out 1
      go_wp2_with (first | ((with_reducible refine gate_callee (f:=12) rfl ?_);refine goesL_ (some 35) rfl rfl Tryd.func12 (by kernel_rfl) rfl #[.agg #[.int .i64 t208,.slice Ao14 t209.length co14],.int .i64 1] rfl (by (try simp only [zz26,zz27,zz28]);first | done | rfl | (simp only [zz24,zz25];rfl)) ?_;(with_reducible refine (laws_markParty.calls kj4 t208 (fun k_=>some k_=(.slice Ao14 t209.length co14:Value).ownBlock) (.slice Ao14 t209.length co14) t209 1 t215 t216 w _ ?side1 ?side2 A26.out).mono ?_);(case side1=>repeat first | exact HB.out | apply zz2 | apply zz0 | apply zz1 | refine zz3 ?_ GE207.out | refine zz3 ?_ GE213.out);(case side2=>exact Kd.R_tight rfl HO_214001.out);rintro e w31 ⟨rfl,hy0,hb,hkp⟩;refine ⟨_,rfl,?_⟩;have n0_:=zz31 (Kd.R_mono (ok':=fun k_=>some k_ ≠ (.slice Ao14 t209.length co14:Value).ownBlock) (Kd.R_keptB (HO_208001.out) hkp (fun k_ hk_ hs_=>(hk_) hs_)) (fun k_ hk_=>hk_.1));have n1_:=zz31 (Kd.R_reok rfl hy0 (fun k_ e_=>HO_214001.out.1 k_ e_));(first | have n2_:=zz31 (blk_kept BK207.out hkp (fun hs_=>(fun e_=>(Kd.R_ne HO_214001.out BK207.out (by decide)) e_) hs_)) | have n2_:=zz31 (blk_kept (by (with_reducible repeat (first | refine zz6 ?_ _ | refine zz7 ?_ | refine zz8 ?_ _));exact BK207.out) hkp (fun hs_=>(fun e_=>(Kd.R_ne HO_214001.out BK207.out (by decide)) e_) hs_)));(first | have n3_:=zz31 (blk_kept BK213.out hkp (fun hs_=>(fun e_=>(Kd.R_ne HO_214001.out BK213.out (by decide)) e_) hs_)) | have n3_:=zz31 (blk_kept (by (with_reducible repeat (first | refine zz6 ?_ _ | refine zz7 ?_ | refine zz8 ?_ _));exact BK213.out) hkp (fun hs_=>(fun e_=>(Kd.R_ne HO_214001.out BK213.out (by decide)) e_) hs_)));have n4_:=zz31 (hb);clear HO_208001;clear HO_214001;clear BK207;clear BK213;clear HB;have HO_208001:=n0_;have HO_214001:=n1_;have BK207:=n2_;have BK213:=n3_;have HB:=n4_;clear n0_ n1_ n2_ n3_ n4_;(try clear hb);(try clear hkp);(try clear hy0);have hcz32_0:w31.cell? ⟨gb213,0,none⟩=some (.int .i64 t208):=(zz9 BK213.out 0).trans rfl;have hcz32_1:w31.cell? ⟨gb213,1,none⟩=some (.slice Ao14 t209.length co14):=(zz9 BK213.out 1).trans rfl;have hfz32_0:=zz10 BK213.out 0;have hfz32_1:=zz10 BK213.out 1) | ((with_reducible refine gate_callee (f:=13) rfl ?_);refine goesL_ (some 38) rfl rfl Tryd.func13 (by kernel_rfl) rfl #[.agg #[.int .i64 t208,.slice Ao14 t216.length co14],.int .i64 1] rfl (by (try simp only [zz26,zz27,zz28]);first | done | (rw [show t216.length=t209.length from (Kd.R_reads' HO_214001.out).1.symm] <;> rfl) | rfl | (simp only [zz24,zz25];rfl)) ?_;(with_reducible refine (laws_heldParty.calls kj4 t208 _ _ t216 1 t217 _ ?side1 ?side2 A27.out).mono ?_);(case side1=>repeat (first | exact (Kd.R_reads' HO_214001.out).2.2 | (with_reducible refine zz18 ?_ _) | (with_reducible refine zz19 ?_ _) | (with_reducible refine zz20 ?_)));(case side2=>rw [show t216.length=t209.length from (Kd.R_reads' HO_214001.out).1.symm];exact (Kd.R_reads' HO_214001.out).2.1);rintro e w33 ⟨rfl,hb⟩;refine ⟨_,rfl,?_⟩;have n0_:=zz31 (Kd.R_below (by (with_reducible repeat (first | apply zz12 | apply zz13 | apply zz14));exact HO_208001.out) hb);have n1_:=zz31 (Kd.R_below (by (with_reducible repeat (first | apply zz12 | apply zz13 | apply zz14));exact HO_214001.out) hb);have n2_:=zz31 (zz11 (g:=gb207) (o:=.cells #[.int .i64 t202,.slice Ao9 t203.length co9] 30 (0,0)) (by (with_reducible repeat (first | refine zz6 ?_ _ | refine zz7 ?_ | refine zz8 ?_ _));exact BK207.out) hb);have n3_:=zz31 (zz11 (g:=gb213) (o:=.cells #[.int .i64 t208,.slice Ao14 t209.length co14] 30 (0,0)) (by (with_reducible repeat (first | refine zz6 ?_ _ | refine zz7 ?_ | refine zz8 ?_ _));exact BK213.out) hb);have n4_:=zz31 (zz4 (by repeat first | exact HB.out | apply zz2 | apply zz0 | apply zz1 | refine zz3 ?_ GE207.out | refine zz3 ?_ GE213.out) hb);clear HO_208001;clear HO_214001;clear BK207;clear BK213;clear HB;have HO_208001:=n0_;have HO_214001:=n1_;have BK207:=n2_;have BK213:=n3_;have HB:=n4_;clear n0_ n1_ n2_ n3_ n4_;(try clear hb);(try clear hb2);(try clear hk);(try clear hi)))
      go_ret
      exact ⟨by first | rfl | (simp [errW_none,errW_some] <;> rfl) | (simp [*,errW_none,errW_some] <;> rfl),by repeat first | exact HB.out | apply zz2 | apply zz0 | apply zz1 | refine zz3 ?_ GE207.out | refine zz3 ?_ GE213.out⟩
     ·rw [if_neg c28] at H
      have c28b0:decide (t217 < 0)=false:=decide_eq_false c28
      clear c28
      by_cases c34:t217=t215
      ·rw [if_pos c34] at H
       have c34b0:(t217 == t215)=true:=beq_iff_eq.mpr c34
       have c34b1:(t217 != t215)=false:=bne_eq_false_iff_eq.mpr c34
       clear c34
       replace H:=zz30.mp H
       obtain ⟨⟨t218,t219,t222⟩,A350,H⟩:=H
       replace H:((laws_eqParty.f kj4 t218 t219 t202 t203).bind fun t224=>(if t224=true then (laws_FnExactParseParty.j1 kj4 t215 (t222 != t206) t208 t216) else (laws_FnExactParseParty.j1 kj4 t215 true t208 t216)))=some r:=H
       have A35:=zz31 A350
       clear A350
       have HC36:=zz31 H
       clear H
       have hnb37:=NB213_207.out
       have hnc37:=NB207_213.out
       have hcz38_0:wc.cell? ⟨gb213,0,none⟩=some (.int .i64 t208):=(zz9 BK213.out 0).trans rfl
       have hcz38_1:wc.cell? ⟨gb213,1,none⟩=some (.slice Ao14 t209.length co14):=(zz9 BK213.out 1).trans rfl
       have hfz38_0:=zz10 BK213.out 0
       have hfz38_1:=zz10 BK213.out 1
       go_upto_region 16 with (first | ((with_reducible refine gate_callee (f:=12) rfl ?_);refine goesL_ (some 35) rfl rfl Tryd.func12 (by kernel_rfl) rfl #[.agg #[.int .i64 t208,.slice Ao14 t209.length co14],.int .i64 1] rfl (by (try simp only [zz26,zz27,zz28]);first | done | rfl | (simp only [zz24,zz25];rfl)) ?_;(with_reducible refine (laws_markParty.calls kj4 t208 (fun k_=>some k_=(.slice Ao14 t209.length co14:Value).ownBlock) (.slice Ao14 t209.length co14) t209 1 t215 t216 w _ ?side1 ?side2 A26.out).mono ?_);(case side1=>repeat first | exact HB.out | apply zz2 | apply zz0 | apply zz1 | refine zz3 ?_ GE207.out | refine zz3 ?_ GE213.out);(case side2=>exact Kd.R_tight rfl HO_214001.out);rintro e w39 ⟨rfl,hy0,hb,hkp⟩;refine ⟨_,rfl,?_⟩;have n0_:=zz31 (Kd.R_mono (ok':=fun k_=>some k_ ≠ (.slice Ao14 t209.length co14:Value).ownBlock) (Kd.R_keptB (HO_208001.out) hkp (fun k_ hk_ hs_=>(hk_) hs_)) (fun k_ hk_=>hk_.1));have n1_:=zz31 (Kd.R_reok rfl hy0 (fun k_ e_=>HO_214001.out.1 k_ e_));(first | have n2_:=zz31 (blk_kept BK207.out hkp (fun hs_=>(fun e_=>(Kd.R_ne HO_214001.out BK207.out (by decide)) e_) hs_)) | have n2_:=zz31 (blk_kept (by (with_reducible repeat (first | refine zz6 ?_ _ | refine zz7 ?_ | refine zz8 ?_ _));exact BK207.out) hkp (fun hs_=>(fun e_=>(Kd.R_ne HO_214001.out BK207.out (by decide)) e_) hs_)));(first | have n3_:=zz31 (blk_kept BK213.out hkp (fun hs_=>(fun e_=>(Kd.R_ne HO_214001.out BK213.out (by decide)) e_) hs_)) | have n3_:=zz31 (blk_kept (by (with_reducible repeat (first | refine zz6 ?_ _ | refine zz7 ?_ | refine zz8 ?_ _));exact BK213.out) hkp (fun hs_=>(fun e_=>(Kd.R_ne HO_214001.out BK213.out (by decide)) e_) hs_)));have n4_:=zz31 (hb);clear HO_208001;clear HO_214001;clear BK207;clear BK213;clear HB;have HO_208001:=n0_;have HO_214001:=n1_;have BK207:=n2_;have BK213:=n3_;have HB:=n4_;clear n0_ n1_ n2_ n3_ n4_;(try clear hb);(try clear hkp);(try clear hy0);have hcz40_0:w39.cell? ⟨gb213,0,none⟩=some (.int .i64 t208):=(zz9 BK213.out 0).trans rfl;have hcz40_1:w39.cell? ⟨gb213,1,none⟩=some (.slice Ao14 t209.length co14):=(zz9 BK213.out 1).trans rfl;have hfz40_0:=zz10 BK213.out 0;have hfz40_1:=zz10 BK213.out 1) | ((with_reducible refine gate_callee (f:=13) rfl ?_);refine goesL_ (some 38) rfl rfl Tryd.func13 (by kernel_rfl) rfl #[.agg #[.int .i64 t208,.slice Ao14 t216.length co14],.int .i64 1] rfl (by (try simp only [zz26,zz27,zz28]);first | done | (rw [show t216.length=t209.length from (Kd.R_reads' HO_214001.out).1.symm] <;> rfl) | rfl | (simp only [zz24,zz25];rfl)) ?_;(with_reducible refine (laws_heldParty.calls kj4 t208 _ _ t216 1 t217 _ ?side1 ?side2 A27.out).mono ?_);(case side1=>repeat (first | exact (Kd.R_reads' HO_214001.out).2.2 | (with_reducible refine zz18 ?_ _) | (with_reducible refine zz19 ?_ _) | (with_reducible refine zz20 ?_)));(case side2=>rw [show t216.length=t209.length from (Kd.R_reads' HO_214001.out).1.symm];exact (Kd.R_reads' HO_214001.out).2.1);rintro e w41 ⟨rfl,hb⟩;refine ⟨_,rfl,?_⟩;have n0_:=zz31 (Kd.R_below (by (with_reducible repeat (first | apply zz12 | apply zz13 | apply zz14));exact HO_208001.out) hb);have n1_:=zz31 (Kd.R_below (by (with_reducible repeat (first | apply zz12 | apply zz13 | apply zz14));exact HO_214001.out) hb);have n2_:=zz31 (zz11 (g:=gb207) (o:=.cells #[.int .i64 t202,.slice Ao9 t203.length co9] 30 (0,0)) (by (with_reducible repeat (first | refine zz6 ?_ _ | refine zz7 ?_ | refine zz8 ?_ _));exact BK207.out) hb);have n3_:=zz31 (zz11 (g:=gb213) (o:=.cells #[.int .i64 t208,.slice Ao14 t209.length co14] 30 (0,0)) (by (with_reducible repeat (first | refine zz6 ?_ _ | refine zz7 ?_ | refine zz8 ?_ _));exact BK213.out) hb);have n4_:=zz31 (zz4 (by repeat first | exact HB.out | apply zz2 | apply zz0 | apply zz1 | refine zz3 ?_ GE207.out | refine zz3 ?_ GE213.out) hb);clear HO_208001;clear HO_214001;clear BK207;clear BK213;clear HB;have HO_208001:=n0_;have HO_214001:=n1_;have BK207:=n2_;have BK213:=n3_;have HB:=n4_;clear n0_ n1_ n2_ n3_ n4_;(try clear hb);(try clear hb2);(try clear hk);(try clear hi)) | ((with_reducible refine gate_callee (f:=11) rfl ?_);refine goesL_ (some 46) rfl rfl Tryd.func11 (by kernel_rfl) rfl #[.string a0] rfl (by (try simp only [zz26,zz27,zz28]);first | done | rfl | (simp only [zz24,zz25];rfl)) ?_;(with_reducible refine (impl_ParseParty.calls kj4 a0 t218 t219 t222 _ A35.out (HT.out.below (by repeat first | exact HB.out | apply zz2 | apply zz0 | apply zz1 | refine zz3 ?_ GE207.out | refine zz3 ?_ GE213.out | refine zz3 ?_ GE223.out))).mono ?_);rintro e w42 ⟨v220,rfl,ho0,hb⟩;refine ⟨_,rfl,?_⟩;have n0_:=zz31 (Kd.R_elder' (by (with_reducible repeat (first | apply zz12 | apply zz13 | apply zz14));exact HO_208001.out) (Kd.R_base ho0) hb);have n1_:=zz31 (Kd.R_elder' (by (with_reducible repeat (first | apply zz12 | apply zz13 | apply zz14));exact HO_214001.out) (Kd.R_base ho0) hb);have n2_:=zz31 (Kd.R_lower (Kd.R_new' (Kd.R_new' ho0 (Kd.R_lt (by (with_reducible repeat (first | apply zz12 | apply zz13 | apply zz14));exact HO_208001.out))) (Kd.R_lt (by (with_reducible repeat (first | apply zz12 | apply zz13 | apply zz14));exact HO_214001.out))) (zz5 (by repeat first | exact HB.out | apply zz2 | apply zz0 | apply zz1 | refine zz3 ?_ GE207.out | refine zz3 ?_ GE213.out)));have n3_:=zz31 (zz11 (g:=gb207) (o:=.cells #[.int .i64 t202,.slice Ao9 t203.length co9] 30 (0,0)) (by (with_reducible repeat (first | refine zz6 ?_ _ | refine zz7 ?_ | refine zz8 ?_ _));exact BK207.out) hb);have n4_:=zz31 (zz11 (g:=gb213) (o:=.cells #[.int .i64 t208,.slice Ao14 t209.length co14] 30 (0,0)) (by (with_reducible repeat (first | refine zz6 ?_ _ | refine zz7 ?_ | refine zz8 ?_ _));exact BK213.out) hb);have n5_:=zz31 (zz4 (by repeat first | exact HB.out | apply zz2 | apply zz0 | apply zz1 | refine zz3 ?_ GE207.out | refine zz3 ?_ GE213.out) hb);clear HO_208001;clear HO_214001;clear BK207;clear BK213;clear HB;have HO_208001:=n0_;have HO_214001:=n1_;have HO221:=n2_;have BK207:=n3_;have BK213:=n4_;have HB:=n5_;clear n0_ n1_ n2_ n3_ n4_ n5_;(try clear hb);(try clear hb2);(try clear hk);(try clear hi);(try clear ho0)) | ((with_reducible refine gate_dst (N:=9) rfl ?_);refine box_event ?hg (N:=9) ?hd (cs:=#[.int .i64 0,.slice none 0 0]) (t:=30) ?hr ?_;(case hd=>rfl);(case hg=>rfl);(case hr=>first | (go_simp;done) | (go_simp;rfl));intro gb223 hg w43 hbox hb;have n0_:=zz31 (Kd.R_below (by (with_reducible repeat (first | apply zz12 | apply zz13 | apply zz14));exact HO_208001.out) hb);have n1_:=zz31 (Kd.R_below (by (with_reducible repeat (first | apply zz12 | apply zz13 | apply zz14));exact HO_214001.out) hb);have n2_:=zz31 (Kd.R_below (by (with_reducible repeat (first | apply zz12 | apply zz13 | apply zz14));exact HO221.out) hb);have n3_:=zz31 (zz11 (g:=gb207) (o:=.cells #[.int .i64 t202,.slice Ao9 t203.length co9] 30 (0,0)) (by (with_reducible repeat (first | refine zz6 ?_ _ | refine zz7 ?_ | refine zz8 ?_ _));exact BK207.out) hb);have n4_:=zz31 (zz11 (g:=gb213) (o:=.cells #[.int .i64 t208,.slice Ao14 t209.length co14] 30 (0,0)) (by (with_reducible repeat (first | refine zz6 ?_ _ | refine zz7 ?_ | refine zz8 ?_ _));exact BK213.out) hb);have n5_:=zz31 (zz4 (by repeat first | exact HB.out | apply zz2 | apply zz0 | apply zz1 | refine zz3 ?_ GE207.out | refine zz3 ?_ GE213.out) hb);have n6_:=zz31 (hbox);have n7_:=zz31 ((by rw [hg];exact (zz5 (by repeat first | exact HB.out | apply zz2 | apply zz0 | apply zz1 | refine zz3 ?_ GE207.out | refine zz3 ?_ GE213.out)):w.heap.size≤gb223));have n8_:=zz31 ((by rw [hg];exact (zz5 (by repeat first | exact HB.out | apply zz2 | apply zz0 | apply zz1 | refine zz3 ?_ GE207.out | refine zz3 ?_ GE213.out)):w.heap.size≤gb223));have n9_:=zz31 ((by rw [hg];exact Nat.ne_of_lt (blk_lt (g:=gb207) (o:=.cells #[.int .i64 t202,.slice Ao9 t203.length co9] 30 (0,0)) (by (with_reducible repeat (first | refine zz6 ?_ _ | refine zz7 ?_ | refine zz8 ?_ _));exact BK207.out)):gb207 ≠ gb223));have n10_:=zz31 ((by rw [hg];exact Nat.ne_of_gt (blk_lt (g:=gb207) (o:=.cells #[.int .i64 t202,.slice Ao9 t203.length co9] 30 (0,0)) (by (with_reducible repeat (first | refine zz6 ?_ _ | refine zz7 ?_ | refine zz8 ?_ _));exact BK207.out)):gb223 ≠ gb207));have n11_:=zz31 ((by rw [hg];exact Nat.ne_of_lt (blk_lt (g:=gb213) (o:=.cells #[.int .i64 t208,.slice Ao14 t209.length co14] 30 (0,0)) (by (with_reducible repeat (first | refine zz6 ?_ _ | refine zz7 ?_ | refine zz8 ?_ _));exact BK213.out)):gb213 ≠ gb223));have n12_:=zz31 ((by rw [hg];exact Nat.ne_of_gt (blk_lt (g:=gb213) (o:=.cells #[.int .i64 t208,.slice Ao14 t209.length co14] 30 (0,0)) (by (with_reducible repeat (first | refine zz6 ?_ _ | refine zz7 ?_ | refine zz8 ?_ _));exact BK213.out)):gb223 ≠ gb213));clear HO_208001;clear HO_214001;clear HO221;clear BK207;clear BK213;clear HB;have HO_208001:=n0_;have HO_214001:=n1_;have HO221:=n2_;have BK207:=n3_;have BK213:=n4_;have HB:=n5_;have BK223:=n6_;have GW223:=n7_;have GE223:=n8_;have NB207_223:=n9_;have NB223_207:=n10_;have NB213_223:=n11_;have NB223_213:=n12_;clear n0_ n1_ n2_ n3_ n4_ n5_ n6_ n7_ n8_ n9_ n10_ n11_ n12_;clear hb hbox hg;have hnb44:=NB223_207.out;have hnc44:=NB207_223.out;have hnb45:=NB223_213.out;have hnc45:=NB213_223.out;have hcz46_0:w43.cell? ⟨gb223,0,none⟩=some (.int .i64 0):=(zz9 BK223.out 0).trans rfl;have hcz46_1:w43.cell? ⟨gb223,1,none⟩=some (.slice none 0 0):=(zz9 BK223.out 1).trans rfl;have hfz46_0:=zz10 BK223.out 0;have hfz46_1:=zz10 BK223.out 1;obtain ⟨Ao47,co47,eo47⟩:=Kd.R_slice HO221.out;subst eo47))
       (try simp only [Act.put,zz21,zz22,zz23])
       go_cut [57] (fun v57 wc=>∃ (kq:Nat) (x57_35:Bool),v57=.bool x57_35∧Aside0 (laws_FnExactParseParty.j1 kq t215 x57_35 t208 t216=some r)∧Aside0 (kq≤kj4)∧Aside0 (Kd.R k50 50 wc w.heap.size (fun k_=>some k_ ≠ ((.slice Ao14 t209.length co14):Value).ownBlock∧some k_ ≠ ((.slice Ao47 t219.length co47):Value).ownBlock) (.slice Ao9 t203.length co9) t203)∧Aside0 (Kd.R k50 50 wc w.heap.size (fun k_=>some k_ ≠ ((.slice Ao9 t203.length co9):Value).ownBlock∧some k_ ≠ ((.slice Ao47 t219.length co47):Value).ownBlock) (.slice Ao14 t209.length co14) t216)∧Aside0 (Kd.R k50 50 wc w.heap.size (fun k_=>some k_ ≠ ((.slice Ao9 t203.length co9):Value).ownBlock∧some k_ ≠ ((.slice Ao14 t209.length co14):Value).ownBlock) (.slice Ao47 t219.length co47) t219)∧Aside0 (wc.heap[gb207]?=some (.cells #[.int .i64 t202,(.slice Ao9 t203.length co9)] 30 (0,0)))∧Aside0 (wc.heap[gb213]?=some (.cells #[.int .i64 t208,(.slice Ao14 t209.length co14)] 30 (0,0)))∧Aside0 (wc.heap[gb223]?=some (.cells #[.int .i64 t218,(.slice Ao47 t219.length co47)] 30 (0,0)))∧Aside0 (Below w.heap.size w wc))
       case first =>
        have H:=HC36.out
        clear HC36
        replace H:=zz30.mp H
        obtain ⟨t224,A480,H⟩:=H
        replace H:(if t224=true then (laws_FnExactParseParty.j1 kj4 t215 (t222 != t206) t208 t216) else (laws_FnExactParseParty.j1 kj4 t215 true t208 t216))=some r:=H
        have A48:=zz31 A480
        clear A480
        by_cases c49:t224=true
        ·subst c49
         have H1:(laws_FnExactParseParty.j1 kj4 t215 (t222 != t206) t208 t216)=some r:=by rw [if_pos rfl] at H;exact H
         clear H
         have H:=H1
         clear H1
         have H':=zz31 H
         clear H
         have hnb50:=NB223_207.out
         have hnc50:=NB207_223.out
         have hnb51:=NB223_213.out
         have hnc51:=NB213_223.out
         have hcz52_0:w43.cell? ⟨gb223,0,none⟩=some (.int .i64 0):=(zz9 BK223.out 0).trans rfl
         have hcz52_1:w43.cell? ⟨gb223,1,none⟩=some (.slice none 0 0):=(zz9 BK223.out 1).trans rfl
         have hfz52_0:=zz10 BK223.out 0
         have hfz52_1:=zz10 BK223.out 1
         have hnb53:=NB207_213.out
         have hnc53:=NB213_207.out
         have hcz54_0:w43.cell? ⟨gb207,0,none⟩=some (.int .i64 t202):=(zz9 BK207.out 0).trans rfl
         have hcz54_1:w43.cell? ⟨gb207,1,none⟩=some (.slice Ao9 t203.length co9):=(zz9 BK207.out 1).trans rfl
         have hfz54_0:=zz10 BK207.out 0
         have hfz54_1:=zz10 BK207.out 1
         go_wp2_with (first | ((with_reducible refine gate_callee (f:=9) rfl ?_);refine goesL_ (some 51) rfl rfl Tryd.func9 (by kernel_rfl) rfl #[.agg #[.int .i64 t218,.slice Ao47 t219.length co47],.agg #[.int .i64 t202,.slice Ao9 t203.length co9]] rfl (by (try simp only [zz26,zz27,zz28]);first | done | rfl | (simp only [zz24,zz25];rfl)) ?_;(with_reducible refine (laws_eqParty.calls kj4 t218 _ _ t219 t202 _ _ t203 true _ ?side1 ?side2 ?side3 ?side4 A48.out).mono ?_);(case side1=>refine (Kd.R_reads' (e:=50) (base:=w.heap.size) (ok:=fun k_=>((True∧some k_ ≠ (.slice Ao9 t203.length co9:Value).ownBlock)∧some k_ ≠ (.slice Ao14 t209.length co14:Value).ownBlock)) (n:=t219.length) (c:=co47) ?_).2.2;exact (by (with_reducible repeat (first | apply zz12 | apply zz13 | apply zz14));exact (Kd.R_mono (Kd.R_far (p:=⟨gb223,1,none⟩) (Kd.R_far (p:=⟨gb223,0,none⟩) (Kd.R_types HO221.out BK223.out (by decide)) (fun _ hk=>hk.2) (.int .i64 t218)) (fun _ hk=>hk.2) (.slice Ao47 t219.length co47)) (fun _ h_=>h_.1))));(case side2=>exact (Kd.R_reads' HO221.out).2.1);(case side3=>refine (Kd.R_reads' (e:=50) (base:=w.heap.size) (ok:=fun k_=>(some k_ ≠ (.slice Ao14 t209.length co14:Value).ownBlock∧some k_ ≠ (.slice Ao47 t219.length co47:Value).ownBlock)) (n:=t203.length) (c:=co9) ?_).2.2;exact (by (with_reducible repeat (first | apply zz12 | apply zz13 | apply zz14));exact (Kd.R_mono (Kd.R_far (p:=⟨gb223,1,none⟩) (Kd.R_far (p:=⟨gb223,0,none⟩) (Kd.R_types HO_208001.out BK223.out (by decide)) (fun _ hk=>hk.2) (.int .i64 t218)) (fun _ hk=>hk.2) (.slice Ao47 t219.length co47)) (fun _ h_=>h_.1))));(case side4=>exact (Kd.R_reads' HO_208001.out).2.1);rintro e w55 ⟨rfl,hb⟩;refine ⟨_,rfl,?_⟩;have n0_:=zz31 (Kd.R_below (by (with_reducible repeat (first | apply zz12 | apply zz13 | apply zz14));exact (Kd.R_mono (Kd.R_far (p:=⟨gb223,1,none⟩) (Kd.R_far (p:=⟨gb223,0,none⟩) (Kd.R_types HO_208001.out BK223.out (by decide)) (fun _ hk=>hk.2) (.int .i64 t218)) (fun _ hk=>hk.2) (.slice Ao47 t219.length co47)) (fun _ h_=>h_.1))) hb);have n1_:=zz31 (Kd.R_below (by (with_reducible repeat (first | apply zz12 | apply zz13 | apply zz14));exact (Kd.R_mono (Kd.R_far (p:=⟨gb223,1,none⟩) (Kd.R_far (p:=⟨gb223,0,none⟩) (Kd.R_types HO_214001.out BK223.out (by decide)) (fun _ hk=>hk.2) (.int .i64 t218)) (fun _ hk=>hk.2) (.slice Ao47 t219.length co47)) (fun _ h_=>h_.1))) hb);have n2_:=zz31 (Kd.R_below (by (with_reducible repeat (first | apply zz12 | apply zz13 | apply zz14));exact (Kd.R_mono (Kd.R_far (p:=⟨gb223,1,none⟩) (Kd.R_far (p:=⟨gb223,0,none⟩) (Kd.R_types HO221.out BK223.out (by decide)) (fun _ hk=>hk.2) (.int .i64 t218)) (fun _ hk=>hk.2) (.slice Ao47 t219.length co47)) (fun _ h_=>h_.1))) hb);have n3_:=zz31 (zz11 (g:=gb207) (o:=.cells #[.int .i64 t202,.slice Ao9 t203.length co9] 30 (0,0)) (by (with_reducible repeat (first | refine zz6 ?_ _ | refine zz7 ?_ | refine zz8 ?_ _));refine blk_far ?_ NB207_223.out _;(with_reducible repeat (first | refine zz6 ?_ _ | refine zz7 ?_ | refine zz8 ?_ _));refine blk_far ?_ NB207_223.out _;(with_reducible repeat (first | refine zz6 ?_ _ | refine zz7 ?_ | refine zz8 ?_ _));exact BK207.out) hb);have n4_:=zz31 (zz11 (g:=gb213) (o:=.cells #[.int .i64 t208,.slice Ao14 t209.length co14] 30 (0,0)) (by (with_reducible repeat (first | refine zz6 ?_ _ | refine zz7 ?_ | refine zz8 ?_ _));refine blk_far ?_ NB213_223.out _;(with_reducible repeat (first | refine zz6 ?_ _ | refine zz7 ?_ | refine zz8 ?_ _));refine blk_far ?_ NB213_223.out _;(with_reducible repeat (first | refine zz6 ?_ _ | refine zz7 ?_ | refine zz8 ?_ _));exact BK213.out) hb);have n5_:=zz31 (zz11 (g:=gb223) (o:=.cells #[.int .i64 t218,.slice Ao47 t219.length co47] 30 (0,0)) (by (with_reducible repeat (first | refine zz6 ?_ _ | refine zz7 ?_ | refine zz8 ?_ _));refine blk_put (cs:=#[.int .i64 t218,.slice none 0 0]) ?_ 1 _ rfl;(with_reducible repeat (first | refine zz6 ?_ _ | refine zz7 ?_ | refine zz8 ?_ _));refine blk_put (cs:=#[.int .i64 0,.slice none 0 0]) ?_ 0 _ rfl;(with_reducible repeat (first | refine zz6 ?_ _ | refine zz7 ?_ | refine zz8 ?_ _));exact BK223.out) hb);have n6_:=zz31 (zz4 (by repeat first | exact HB.out | apply zz2 | apply zz0 | apply zz1 | refine zz3 ?_ GE207.out | refine zz3 ?_ GE213.out | refine zz3 ?_ GE223.out) hb);clear HO_208001;clear HO_214001;clear HO221;clear BK207;clear BK213;clear BK223;clear HB;have HO_208001:=n0_;have HO_214001:=n1_;have HO221:=n2_;have BK207:=n3_;have BK213:=n4_;have BK223:=n5_;have HB:=n6_;clear n0_ n1_ n2_ n3_ n4_ n5_ n6_;(try clear hb);(try clear hb2);(try clear hk);(try clear hi)))
         go_meet
         case rel=>exact ⟨_,((t222 != t206)),(by first | rfl | (simp;done) | (simp [*];done)),H',⟨by have:=HJ4.out;first | omega | exact Nat.le_refl _⟩,⟨by (with_reducible repeat (first | apply zz12 | apply zz13 | apply zz14));exact HO_208001.out⟩,⟨by (with_reducible repeat (first | apply zz12 | apply zz13 | apply zz14));exact HO_214001.out⟩,⟨by (with_reducible repeat (first | apply zz12 | apply zz13 | apply zz14));exact Kd.R_mono HO221.out (fun _ hk=>⟨hk.1.2,hk.2⟩)⟩,⟨by (with_reducible repeat (first | refine zz6 ?_ _ | refine zz7 ?_ | refine zz8 ?_ _));exact BK207.out⟩,⟨by (with_reducible repeat (first | refine zz6 ?_ _ | refine zz7 ?_ | refine zz8 ?_ _));exact BK213.out⟩,⟨by (with_reducible repeat (first | refine zz6 ?_ _ | refine zz7 ?_ | refine zz8 ?_ _));exact BK223.out⟩,⟨by repeat first | exact HB.out | apply zz2 | apply zz0 | apply zz1 | refine zz3 ?_ GE207.out | refine zz3 ?_ GE213.out | refine zz3 ?_ GE223.out⟩⟩
        ·replace c49:=Bool.eq_false_iff.mpr c49
         subst c49
         have H1:(laws_FnExactParseParty.j1 kj4 t215 true t208 t216)=some r:=by rw [if_neg (show ¬ (false=true) by decide)] at H;exact H
         clear H
         have H:=H1
         clear H1
         have H':=zz31 H
         clear H
         have hnb56:=NB223_207.out
         have hnc56:=NB207_223.out
         have hnb57:=NB223_213.out
         have hnc57:=NB213_223.out
         have hcz58_0:w43.cell? ⟨gb223,0,none⟩=some (.int .i64 0):=(zz9 BK223.out 0).trans rfl
         have hcz58_1:w43.cell? ⟨gb223,1,none⟩=some (.slice none 0 0):=(zz9 BK223.out 1).trans rfl
         have hfz58_0:=zz10 BK223.out 0
         have hfz58_1:=zz10 BK223.out 1
         have hnb59:=NB207_213.out
         have hnc59:=NB213_207.out
         have hcz60_0:w43.cell? ⟨gb207,0,none⟩=some (.int .i64 t202):=(zz9 BK207.out 0).trans rfl
         have hcz60_1:w43.cell? ⟨gb207,1,none⟩=some (.slice Ao9 t203.length co9):=(zz9 BK207.out 1).trans rfl
         have hfz60_0:=zz10 BK207.out 0
         have hfz60_1:=zz10 BK207.out 1
         go_wp2_with (first | ((with_reducible refine gate_callee (f:=9) rfl ?_);refine goesL_ (some 51) rfl rfl Tryd.func9 (by kernel_rfl) rfl #[.agg #[.int .i64 t218,.slice Ao47 t219.length co47],.agg #[.int .i64 t202,.slice Ao9 t203.length co9]] rfl (by (try simp only [zz26,zz27,zz28]);first | done | rfl | (simp only [zz24,zz25];rfl)) ?_;(with_reducible refine (laws_eqParty.calls kj4 t218 _ _ t219 t202 _ _ t203 false _ ?side1 ?side2 ?side3 ?side4 A48.out).mono ?_);(case side1=>refine (Kd.R_reads' (e:=50) (base:=w.heap.size) (ok:=fun k_=>((True∧some k_ ≠ (.slice Ao9 t203.length co9:Value).ownBlock)∧some k_ ≠ (.slice Ao14 t209.length co14:Value).ownBlock)) (n:=t219.length) (c:=co47) ?_).2.2;exact (by (with_reducible repeat (first | apply zz12 | apply zz13 | apply zz14));exact (Kd.R_mono (Kd.R_far (p:=⟨gb223,1,none⟩) (Kd.R_far (p:=⟨gb223,0,none⟩) (Kd.R_types HO221.out BK223.out (by decide)) (fun _ hk=>hk.2) (.int .i64 t218)) (fun _ hk=>hk.2) (.slice Ao47 t219.length co47)) (fun _ h_=>h_.1))));(case side2=>exact (Kd.R_reads' HO221.out).2.1);(case side3=>refine (Kd.R_reads' (e:=50) (base:=w.heap.size) (ok:=fun k_=>(some k_ ≠ (.slice Ao14 t209.length co14:Value).ownBlock∧some k_ ≠ (.slice Ao47 t219.length co47:Value).ownBlock)) (n:=t203.length) (c:=co9) ?_).2.2;exact (by (with_reducible repeat (first | apply zz12 | apply zz13 | apply zz14));exact (Kd.R_mono (Kd.R_far (p:=⟨gb223,1,none⟩) (Kd.R_far (p:=⟨gb223,0,none⟩) (Kd.R_types HO_208001.out BK223.out (by decide)) (fun _ hk=>hk.2) (.int .i64 t218)) (fun _ hk=>hk.2) (.slice Ao47 t219.length co47)) (fun _ h_=>h_.1))));(case side4=>exact (Kd.R_reads' HO_208001.out).2.1);rintro e w61 ⟨rfl,hb⟩;refine ⟨_,rfl,?_⟩;have n0_:=zz31 (Kd.R_below (by (with_reducible repeat (first | apply zz12 | apply zz13 | apply zz14));exact (Kd.R_mono (Kd.R_far (p:=⟨gb223,1,none⟩) (Kd.R_far (p:=⟨gb223,0,none⟩) (Kd.R_types HO_208001.out BK223.out (by decide)) (fun _ hk=>hk.2) (.int .i64 t218)) (fun _ hk=>hk.2) (.slice Ao47 t219.length co47)) (fun _ h_=>h_.1))) hb);have n1_:=zz31 (Kd.R_below (by (with_reducible repeat (first | apply zz12 | apply zz13 | apply zz14));exact (Kd.R_mono (Kd.R_far (p:=⟨gb223,1,none⟩) (Kd.R_far (p:=⟨gb223,0,none⟩) (Kd.R_types HO_214001.out BK223.out (by decide)) (fun _ hk=>hk.2) (.int .i64 t218)) (fun _ hk=>hk.2) (.slice Ao47 t219.length co47)) (fun _ h_=>h_.1))) hb);have n2_:=zz31 (Kd.R_below (by (with_reducible repeat (first | apply zz12 | apply zz13 | apply zz14));exact (Kd.R_mono (Kd.R_far (p:=⟨gb223,1,none⟩) (Kd.R_far (p:=⟨gb223,0,none⟩) (Kd.R_types HO221.out BK223.out (by decide)) (fun _ hk=>hk.2) (.int .i64 t218)) (fun _ hk=>hk.2) (.slice Ao47 t219.length co47)) (fun _ h_=>h_.1))) hb);have n3_:=zz31 (zz11 (g:=gb207) (o:=.cells #[.int .i64 t202,.slice Ao9 t203.length co9] 30 (0,0)) (by (with_reducible repeat (first | refine zz6 ?_ _ | refine zz7 ?_ | refine zz8 ?_ _));refine blk_far ?_ NB207_223.out _;(with_reducible repeat (first | refine zz6 ?_ _ | refine zz7 ?_ | refine zz8 ?_ _));refine blk_far ?_ NB207_223.out _;(with_reducible repeat (first | refine zz6 ?_ _ | refine zz7 ?_ | refine zz8 ?_ _));exact BK207.out) hb);have n4_:=zz31 (zz11 (g:=gb213) (o:=.cells #[.int .i64 t208,.slice Ao14 t209.length co14] 30 (0,0)) (by (with_reducible repeat (first | refine zz6 ?_ _ | refine zz7 ?_ | refine zz8 ?_ _));refine blk_far ?_ NB213_223.out _;(with_reducible repeat (first | refine zz6 ?_ _ | refine zz7 ?_ | refine zz8 ?_ _));refine blk_far ?_ NB213_223.out _;(with_reducible repeat (first | refine zz6 ?_ _ | refine zz7 ?_ | refine zz8 ?_ _));exact BK213.out) hb);have n5_:=zz31 (zz11 (g:=gb223) (o:=.cells #[.int .i64 t218,.slice Ao47 t219.length co47] 30 (0,0)) (by (with_reducible repeat (first | refine zz6 ?_ _ | refine zz7 ?_ | refine zz8 ?_ _));refine blk_put (cs:=#[.int .i64 t218,.slice none 0 0]) ?_ 1 _ rfl;(with_reducible repeat (first | refine zz6 ?_ _ | refine zz7 ?_ | refine zz8 ?_ _));refine blk_put (cs:=#[.int .i64 0,.slice none 0 0]) ?_ 0 _ rfl;(with_reducible repeat (first | refine zz6 ?_ _ | refine zz7 ?_ | refine zz8 ?_ _));exact BK223.out) hb);have n6_:=zz31 (zz4 (by repeat first | exact HB.out | apply zz2 | apply zz0 | apply zz1 | refine zz3 ?_ GE207.out | refine zz3 ?_ GE213.out | refine zz3 ?_ GE223.out) hb);clear HO_208001;clear HO_214001;clear HO221;clear BK207;clear BK213;clear BK223;clear HB;have HO_208001:=n0_;have HO_214001:=n1_;have HO221:=n2_;have BK207:=n3_;have BK213:=n4_;have BK223:=n5_;have HB:=n6_;clear n0_ n1_ n2_ n3_ n4_ n5_ n6_;(try clear hb);(try clear hb2);(try clear hk);(try clear hi)))
         go_meet
         case rel=>exact ⟨_,(true),(by first | rfl | (simp;done) | (simp [*];done)),H',⟨by have:=HJ4.out;first | omega | exact Nat.le_refl _⟩,⟨by (with_reducible repeat (first | apply zz12 | apply zz13 | apply zz14));exact HO_208001.out⟩,⟨by (with_reducible repeat (first | apply zz12 | apply zz13 | apply zz14));exact HO_214001.out⟩,⟨by (with_reducible repeat (first | apply zz12 | apply zz13 | apply zz14));exact Kd.R_mono HO221.out (fun _ hk=>⟨hk.1.2,hk.2⟩)⟩,⟨by (with_reducible repeat (first | refine zz6 ?_ _ | refine zz7 ?_ | refine zz8 ?_ _));exact BK207.out⟩,⟨by (with_reducible repeat (first | refine zz6 ?_ _ | refine zz7 ?_ | refine zz8 ?_ _));exact BK213.out⟩,⟨by (with_reducible repeat (first | refine zz6 ?_ _ | refine zz7 ?_ | refine zz8 ?_ _));exact BK223.out⟩,⟨by repeat first | exact HB.out | apply zz2 | apply zz0 | apply zz1 | refine zz3 ?_ GE207.out | refine zz3 ?_ GE213.out | refine zz3 ?_ GE223.out⟩⟩
       case rest =>
        clear HC36
        try clear c1
        try clear c2
        try clear c2b0
        try clear c2b1
        try clear p2
        try clear c3
        try clear c4
        try clear c5
        try clear c9
        try clear c10
        try clear c11
        try clear c12
        try clear c13
        try clear c16
        try clear c17
        try clear c21
        try clear c25
        try clear c28
        try clear c28b0
        try clear c29
        try clear c34
        try clear c34b0
        try clear c34b1
        try clear c37
        try clear c44
        try clear c45
        try clear c49
        try clear c50
        try clear c51
        try clear c53
        try clear c56
        try clear c57
        try clear c59
        try clear hcz13_0
        try clear hcz13_1
        try clear hcz18_0
        try clear hcz18_1
        try clear hcz19_0
        try clear hcz19_1
        try clear hcz22_0
        try clear hcz22_1
        try clear hcz23_0
        try clear hcz23_1
        try clear hcz30_0
        try clear hcz30_1
        try clear hcz32_0
        try clear hcz32_1
        try clear hcz38_0
        try clear hcz38_1
        try clear hcz40_0
        try clear hcz40_1
        try clear hcz46_0
        try clear hcz46_1
        try clear hcz52_0
        try clear hcz52_1
        try clear hcz54_0
        try clear hcz54_1
        try clear hcz58_0
        try clear hcz58_1
        try clear hcz60_0
        try clear hcz60_1
        try clear hcz8_0
        try clear hcz8_1
        try clear hfz13_0
        try clear hfz13_1
        try clear hfz18_0
        try clear hfz18_1
        try clear hfz19_0
        try clear hfz19_1
        try clear hfz22_0
        try clear hfz22_1
        try clear hfz23_0
        try clear hfz23_1
        try clear hfz30_0
        try clear hfz30_1
        try clear hfz32_0
        try clear hfz32_1
        try clear hfz38_0
        try clear hfz38_1
        try clear hfz40_0
        try clear hfz40_1
        try clear hfz46_0
        try clear hfz46_1
        try clear hfz52_0
        try clear hfz52_1
        try clear hfz54_0
        try clear hfz54_1
        try clear hfz58_0
        try clear hfz58_1
        try clear hfz60_0
        try clear hfz60_1
        try clear hfz8_0
        try clear hfz8_1
        try clear p2
        obtain ⟨kq,x57_35,rfl,HA,HJ35,HO_208001,HO_214001,HO_224001,BK207,BK213,BK223,HB⟩:=hcut
        have hl214001_35:=(Kd.R_reads' HO_214001.out).1
        rw [hl214001_35] at HO_214001
        (try simp only [hl214001_35])
        (try simp only [hl214001_35] at BK207)
        (try simp only [hl214001_35] at BK213)
        (try simp only [hl214001_35] at BK223)
        (try simp only [hl214001_35] at HO_208001)
        (try simp only [hl214001_35] at HO_224001)
        cases kq with
        | zero=>exact absurd HA.out (by simp [laws_FnExactParseParty.j1])
        | succ kj35 =>
         have H:=HA.out
         clear HA
         simp only [laws_FnExactParseParty.j1] at H
         by_cases c62:x57_35=true
         ·subst c62
          have H1:(some false)=some r:=by rw [if_pos rfl] at H;exact H
          clear H
          have H:=H1
          clear H1
          obtain rfl:=Option.some.inj H
          go_wp2
          go_ret
          exact ⟨by first | rfl | (simp [errW_none,errW_some] <;> rfl) | (simp [*,errW_none,errW_some] <;> rfl),by repeat first | exact HB.out | apply zz2 | apply zz0 | apply zz1 | refine zz3 ?_ GE207.out | refine zz3 ?_ GE213.out | refine zz3 ?_ GE223.out⟩
         ·replace c62:=Bool.eq_false_iff.mpr c62
          subst c62
          have H1:((laws_heldParty.f kj35 t208 t216 1).bind fun t225=>(if t225 < 0 then (some false) else (if t225=t215 then (some true) else (some false))))=some r:=by rw [if_neg (show ¬ (false=true) by decide)] at H;exact H
          clear H
          have H:=H1
          clear H1
          replace H:=zz30.mp H
          obtain ⟨t225,A630,H⟩:=H
          replace H:(if t225 < 0 then (some false) else (if t225=t215 then (some true) else (some false)))=some r:=H
          have A63:=zz31 A630
          clear A630
          by_cases c64:t225 < 0
          ·rw [if_pos c64] at H
           have c64b0:decide (t225 < 0)=true:=decide_eq_true c64
           clear c64
           obtain rfl:=Option.some.inj H
           have hnb65:=NB213_207.out
           have hnc65:=NB207_213.out
           have hnb66:=NB213_223.out
           have hnc66:=NB223_213.out
           have hcz67_0:wc.cell? ⟨gb213,0,none⟩=some (.int .i64 t208):=(zz9 BK213.out 0).trans rfl
           have hcz67_1:wc.cell? ⟨gb213,1,none⟩=some (.slice Ao14 t216.length co14):=(zz9 BK213.out 1).trans rfl
           have hfz67_0:=zz10 BK213.out 0
           have hfz67_1:=zz10 BK213.out 1
           go_wp2_with (first | ((with_reducible refine gate_callee (f:=13) rfl ?_);refine goesL_ (some 60) rfl rfl Tryd.func13 (by kernel_rfl) rfl #[.agg #[.int .i64 t208,.slice Ao14 t216.length co14],.int .i64 1] rfl (by (try simp only [zz26,zz27,zz28]);first | done | rfl | (simp only [zz24,zz25];rfl)) ?_;(with_reducible refine (laws_heldParty.calls kj35 t208 _ _ t216 1 t225 _ ?side1 ?side2 A63.out).mono ?_);(case side1=>repeat (first | exact (Kd.R_reads' HO_214001.out).2.2 | (with_reducible refine zz18 ?_ _) | (with_reducible refine zz19 ?_ _) | (with_reducible refine zz20 ?_)));(case side2=>exact (Kd.R_reads' HO_214001.out).2.1);rintro e w68 ⟨rfl,hb⟩;refine ⟨_,rfl,?_⟩;have n0_:=zz31 (Kd.R_below (by (with_reducible repeat (first | apply zz12 | apply zz13 | apply zz14));exact HO_208001.out) hb);have n1_:=zz31 (Kd.R_below (by (with_reducible repeat (first | apply zz12 | apply zz13 | apply zz14));exact HO_214001.out) hb);have n2_:=zz31 (Kd.R_below (by (with_reducible repeat (first | apply zz12 | apply zz13 | apply zz14));exact HO_224001.out) hb);have n3_:=zz31 (zz11 (g:=gb207) (o:=.cells #[.int .i64 t202,.slice Ao9 t203.length co9] 30 (0,0)) (by (with_reducible repeat (first | refine zz6 ?_ _ | refine zz7 ?_ | refine zz8 ?_ _));exact BK207.out) hb);have n4_:=zz31 (zz11 (g:=gb213) (o:=.cells #[.int .i64 t208,.slice Ao14 t216.length co14] 30 (0,0)) (by (with_reducible repeat (first | refine zz6 ?_ _ | refine zz7 ?_ | refine zz8 ?_ _));exact BK213.out) hb);have n5_:=zz31 (zz11 (g:=gb223) (o:=.cells #[.int .i64 t218,.slice Ao47 t219.length co47] 30 (0,0)) (by (with_reducible repeat (first | refine zz6 ?_ _ | refine zz7 ?_ | refine zz8 ?_ _));exact BK223.out) hb);have n6_:=zz31 (zz4 (by repeat first | exact HB.out | apply zz2 | apply zz0 | apply zz1 | refine zz3 ?_ GE207.out | refine zz3 ?_ GE213.out | refine zz3 ?_ GE223.out) hb);clear HO_208001;clear HO_214001;clear HO_224001;clear BK207;clear BK213;clear BK223;clear HB;have HO_208001:=n0_;have HO_214001:=n1_;have HO_224001:=n2_;have BK207:=n3_;have BK213:=n4_;have BK223:=n5_;have HB:=n6_;clear n0_ n1_ n2_ n3_ n4_ n5_ n6_;(try clear hb);(try clear hb2);(try clear hk);(try clear hi)))
           go_ret
           exact ⟨by first | rfl | (simp [errW_none,errW_some] <;> rfl) | (simp [*,errW_none,errW_some] <;> rfl),by repeat first | exact HB.out | apply zz2 | apply zz0 | apply zz1 | refine zz3 ?_ GE207.out | refine zz3 ?_ GE213.out | refine zz3 ?_ GE223.out⟩
          ·rw [if_neg c64] at H
           have c64b0:decide (t225 < 0)=false:=decide_eq_false c64
           clear c64
           by_cases c69:t225=t215
           ·rw [if_pos c69] at H
            have c69b0:(t225 == t215)=true:=beq_iff_eq.mpr c69
            have c69b1:(t225 != t215)=false:=bne_eq_false_iff_eq.mpr c69
            clear c69
            obtain rfl:=Option.some.inj H
            have hnb70:=NB213_207.out
            have hnc70:=NB207_213.out
            have hnb71:=NB213_223.out
            have hnc71:=NB223_213.out
            have hcz72_0:wc.cell? ⟨gb213,0,none⟩=some (.int .i64 t208):=(zz9 BK213.out 0).trans rfl
            have hcz72_1:wc.cell? ⟨gb213,1,none⟩=some (.slice Ao14 t216.length co14):=(zz9 BK213.out 1).trans rfl
            have hfz72_0:=zz10 BK213.out 0
            have hfz72_1:=zz10 BK213.out 1
            go_wp2_with (first | ((with_reducible refine gate_callee (f:=13) rfl ?_);refine goesL_ (some 60) rfl rfl Tryd.func13 (by kernel_rfl) rfl #[.agg #[.int .i64 t208,.slice Ao14 t216.length co14],.int .i64 1] rfl (by (try simp only [zz26,zz27,zz28]);first | done | rfl | (simp only [zz24,zz25];rfl)) ?_;(with_reducible refine (laws_heldParty.calls kj35 t208 _ _ t216 1 t225 _ ?side1 ?side2 A63.out).mono ?_);(case side1=>repeat (first | exact (Kd.R_reads' HO_214001.out).2.2 | (with_reducible refine zz18 ?_ _) | (with_reducible refine zz19 ?_ _) | (with_reducible refine zz20 ?_)));(case side2=>exact (Kd.R_reads' HO_214001.out).2.1);rintro e w73 ⟨rfl,hb⟩;refine ⟨_,rfl,?_⟩;have n0_:=zz31 (Kd.R_below (by (with_reducible repeat (first | apply zz12 | apply zz13 | apply zz14));exact HO_208001.out) hb);have n1_:=zz31 (Kd.R_below (by (with_reducible repeat (first | apply zz12 | apply zz13 | apply zz14));exact HO_214001.out) hb);have n2_:=zz31 (Kd.R_below (by (with_reducible repeat (first | apply zz12 | apply zz13 | apply zz14));exact HO_224001.out) hb);have n3_:=zz31 (zz11 (g:=gb207) (o:=.cells #[.int .i64 t202,.slice Ao9 t203.length co9] 30 (0,0)) (by (with_reducible repeat (first | refine zz6 ?_ _ | refine zz7 ?_ | refine zz8 ?_ _));exact BK207.out) hb);have n4_:=zz31 (zz11 (g:=gb213) (o:=.cells #[.int .i64 t208,.slice Ao14 t216.length co14] 30 (0,0)) (by (with_reducible repeat (first | refine zz6 ?_ _ | refine zz7 ?_ | refine zz8 ?_ _));exact BK213.out) hb);have n5_:=zz31 (zz11 (g:=gb223) (o:=.cells #[.int .i64 t218,.slice Ao47 t219.length co47] 30 (0,0)) (by (with_reducible repeat (first | refine zz6 ?_ _ | refine zz7 ?_ | refine zz8 ?_ _));exact BK223.out) hb);have n6_:=zz31 (zz4 (by repeat first | exact HB.out | apply zz2 | apply zz0 | apply zz1 | refine zz3 ?_ GE207.out | refine zz3 ?_ GE213.out | refine zz3 ?_ GE223.out) hb);clear HO_208001;clear HO_214001;clear HO_224001;clear BK207;clear BK213;clear BK223;clear HB;have HO_208001:=n0_;have HO_214001:=n1_;have HO_224001:=n2_;have BK207:=n3_;have BK213:=n4_;have BK223:=n5_;have HB:=n6_;clear n0_ n1_ n2_ n3_ n4_ n5_ n6_;(try clear hb);(try clear hb2);(try clear hk);(try clear hi)))
            go_ret
            exact ⟨by first | rfl | (simp [errW_none,errW_some] <;> rfl) | (simp [*,errW_none,errW_some] <;> rfl),by repeat first | exact HB.out | apply zz2 | apply zz0 | apply zz1 | refine zz3 ?_ GE207.out | refine zz3 ?_ GE213.out | refine zz3 ?_ GE223.out⟩
           ·rw [if_neg c69] at H
            have c69b0:(t225 == t215)=false:=beq_eq_false_iff_ne.mpr c69
            have c69b1:(t225 != t215)=true:=bne_iff_ne.mpr c69
            obtain rfl:=Option.some.inj H
            have hnb74:=NB213_207.out
            have hnc74:=NB207_213.out
            have hnb75:=NB213_223.out
            have hnc75:=NB223_213.out
            have hcz76_0:wc.cell? ⟨gb213,0,none⟩=some (.int .i64 t208):=(zz9 BK213.out 0).trans rfl
            have hcz76_1:wc.cell? ⟨gb213,1,none⟩=some (.slice Ao14 t216.length co14):=(zz9 BK213.out 1).trans rfl
            have hfz76_0:=zz10 BK213.out 0
            have hfz76_1:=zz10 BK213.out 1
            go_wp2_with (first | ((with_reducible refine gate_callee (f:=13) rfl ?_);refine goesL_ (some 60) rfl rfl Tryd.func13 (by kernel_rfl) rfl #[.agg #[.int .i64 t208,.slice Ao14 t216.length co14],.int .i64 1] rfl (by (try simp only [zz26,zz27,zz28]);first | done | rfl | (simp only [zz24,zz25];rfl)) ?_;(with_reducible refine (laws_heldParty.calls kj35 t208 _ _ t216 1 t225 _ ?side1 ?side2 A63.out).mono ?_);(case side1=>repeat (first | exact (Kd.R_reads' HO_214001.out).2.2 | (with_reducible refine zz18 ?_ _) | (with_reducible refine zz19 ?_ _) | (with_reducible refine zz20 ?_)));(case side2=>exact (Kd.R_reads' HO_214001.out).2.1);rintro e w77 ⟨rfl,hb⟩;refine ⟨_,rfl,?_⟩;have n0_:=zz31 (Kd.R_below (by (with_reducible repeat (first | apply zz12 | apply zz13 | apply zz14));exact HO_208001.out) hb);have n1_:=zz31 (Kd.R_below (by (with_reducible repeat (first | apply zz12 | apply zz13 | apply zz14));exact HO_214001.out) hb);have n2_:=zz31 (Kd.R_below (by (with_reducible repeat (first | apply zz12 | apply zz13 | apply zz14));exact HO_224001.out) hb);have n3_:=zz31 (zz11 (g:=gb207) (o:=.cells #[.int .i64 t202,.slice Ao9 t203.length co9] 30 (0,0)) (by (with_reducible repeat (first | refine zz6 ?_ _ | refine zz7 ?_ | refine zz8 ?_ _));exact BK207.out) hb);have n4_:=zz31 (zz11 (g:=gb213) (o:=.cells #[.int .i64 t208,.slice Ao14 t216.length co14] 30 (0,0)) (by (with_reducible repeat (first | refine zz6 ?_ _ | refine zz7 ?_ | refine zz8 ?_ _));exact BK213.out) hb);have n5_:=zz31 (zz11 (g:=gb223) (o:=.cells #[.int .i64 t218,.slice Ao47 t219.length co47] 30 (0,0)) (by (with_reducible repeat (first | refine zz6 ?_ _ | refine zz7 ?_ | refine zz8 ?_ _));exact BK223.out) hb);have n6_:=zz31 (zz4 (by repeat first | exact HB.out | apply zz2 | apply zz0 | apply zz1 | refine zz3 ?_ GE207.out | refine zz3 ?_ GE213.out | refine zz3 ?_ GE223.out) hb);clear HO_208001;clear HO_214001;clear HO_224001;clear BK207;clear BK213;clear BK223;clear HB;have HO_208001:=n0_;have HO_214001:=n1_;have HO_224001:=n2_;have BK207:=n3_;have BK213:=n4_;have BK223:=n5_;have HB:=n6_;clear n0_ n1_ n2_ n3_ n4_ n5_ n6_;(try clear hb);(try clear hb2);(try clear hk);(try clear hi)))
            go_ret
            exact ⟨by first | rfl | (simp [errW_none,errW_some] <;> rfl) | (simp [*,errW_none,errW_some] <;> rfl),by repeat first | exact HB.out | apply zz2 | apply zz0 | apply zz1 | refine zz3 ?_ GE207.out | refine zz3 ?_ GE213.out | refine zz3 ?_ GE223.out⟩
      ·rw [if_neg c34] at H
       have c34b0:(t217 == t215)=false:=beq_eq_false_iff_ne.mpr c34
       have c34b1:(t217 != t215)=true:=bne_iff_ne.mpr c34
       obtain rfl:=Option.some.inj H
       have hnb78:=NB213_207.out
       have hnc78:=NB207_213.out
       have hcz79_0:wc.cell? ⟨gb213,0,none⟩=some (.int .i64 t208):=(zz9 BK213.out 0).trans rfl
       have hcz79_1:wc.cell? ⟨gb213,1,none⟩=some (.slice Ao14 t209.length co14):=(zz9 BK213.out 1).trans rfl
       have hfz79_0:=zz10 BK213.out 0
       have hfz79_1:=zz10 BK213.out 1
       go_wp2_with (first | ((with_reducible refine gate_callee (f:=12) rfl ?_);refine goesL_ (some 35) rfl rfl Tryd.func12 (by kernel_rfl) rfl #[.agg #[.int .i64 t208,.slice Ao14 t209.length co14],.int .i64 1] rfl (by (try simp only [zz26,zz27,zz28]);first | done | rfl | (simp only [zz24,zz25];rfl)) ?_;(with_reducible refine (laws_markParty.calls kj4 t208 (fun k_=>some k_=(.slice Ao14 t209.length co14:Value).ownBlock) (.slice Ao14 t209.length co14) t209 1 t215 t216 w _ ?side1 ?side2 A26.out).mono ?_);(case side1=>repeat first | exact HB.out | apply zz2 | apply zz0 | apply zz1 | refine zz3 ?_ GE207.out | refine zz3 ?_ GE213.out);(case side2=>exact Kd.R_tight rfl HO_214001.out);rintro e w80 ⟨rfl,hy0,hb,hkp⟩;refine ⟨_,rfl,?_⟩;have n0_:=zz31 (Kd.R_mono (ok':=fun k_=>some k_ ≠ (.slice Ao14 t209.length co14:Value).ownBlock) (Kd.R_keptB (HO_208001.out) hkp (fun k_ hk_ hs_=>(hk_) hs_)) (fun k_ hk_=>hk_.1));have n1_:=zz31 (Kd.R_reok rfl hy0 (fun k_ e_=>HO_214001.out.1 k_ e_));(first | have n2_:=zz31 (blk_kept BK207.out hkp (fun hs_=>(fun e_=>(Kd.R_ne HO_214001.out BK207.out (by decide)) e_) hs_)) | have n2_:=zz31 (blk_kept (by (with_reducible repeat (first | refine zz6 ?_ _ | refine zz7 ?_ | refine zz8 ?_ _));exact BK207.out) hkp (fun hs_=>(fun e_=>(Kd.R_ne HO_214001.out BK207.out (by decide)) e_) hs_)));(first | have n3_:=zz31 (blk_kept BK213.out hkp (fun hs_=>(fun e_=>(Kd.R_ne HO_214001.out BK213.out (by decide)) e_) hs_)) | have n3_:=zz31 (blk_kept (by (with_reducible repeat (first | refine zz6 ?_ _ | refine zz7 ?_ | refine zz8 ?_ _));exact BK213.out) hkp (fun hs_=>(fun e_=>(Kd.R_ne HO_214001.out BK213.out (by decide)) e_) hs_)));have n4_:=zz31 (hb);clear HO_208001;clear HO_214001;clear BK207;clear BK213;clear HB;have HO_208001:=n0_;have HO_214001:=n1_;have BK207:=n2_;have BK213:=n3_;have HB:=n4_;clear n0_ n1_ n2_ n3_ n4_;(try clear hb);(try clear hkp);(try clear hy0);have hcz81_0:w80.cell? ⟨gb213,0,none⟩=some (.int .i64 t208):=(zz9 BK213.out 0).trans rfl;have hcz81_1:w80.cell? ⟨gb213,1,none⟩=some (.slice Ao14 t209.length co14):=(zz9 BK213.out 1).trans rfl;have hfz81_0:=zz10 BK213.out 0;have hfz81_1:=zz10 BK213.out 1) | ((with_reducible refine gate_callee (f:=13) rfl ?_);refine goesL_ (some 38) rfl rfl Tryd.func13 (by kernel_rfl) rfl #[.agg #[.int .i64 t208,.slice Ao14 t216.length co14],.int .i64 1] rfl (by (try simp only [zz26,zz27,zz28]);first | done | (rw [show t216.length=t209.length from (Kd.R_reads' HO_214001.out).1.symm] <;> rfl) | rfl | (simp only [zz24,zz25];rfl)) ?_;(with_reducible refine (laws_heldParty.calls kj4 t208 _ _ t216 1 t217 _ ?side1 ?side2 A27.out).mono ?_);(case side1=>repeat (first | exact (Kd.R_reads' HO_214001.out).2.2 | (with_reducible refine zz18 ?_ _) | (with_reducible refine zz19 ?_ _) | (with_reducible refine zz20 ?_)));(case side2=>rw [show t216.length=t209.length from (Kd.R_reads' HO_214001.out).1.symm];exact (Kd.R_reads' HO_214001.out).2.1);rintro e w82 ⟨rfl,hb⟩;refine ⟨_,rfl,?_⟩;have n0_:=zz31 (Kd.R_below (by (with_reducible repeat (first | apply zz12 | apply zz13 | apply zz14));exact HO_208001.out) hb);have n1_:=zz31 (Kd.R_below (by (with_reducible repeat (first | apply zz12 | apply zz13 | apply zz14));exact HO_214001.out) hb);have n2_:=zz31 (zz11 (g:=gb207) (o:=.cells #[.int .i64 t202,.slice Ao9 t203.length co9] 30 (0,0)) (by (with_reducible repeat (first | refine zz6 ?_ _ | refine zz7 ?_ | refine zz8 ?_ _));exact BK207.out) hb);have n3_:=zz31 (zz11 (g:=gb213) (o:=.cells #[.int .i64 t208,.slice Ao14 t209.length co14] 30 (0,0)) (by (with_reducible repeat (first | refine zz6 ?_ _ | refine zz7 ?_ | refine zz8 ?_ _));exact BK213.out) hb);have n4_:=zz31 (zz4 (by repeat first | exact HB.out | apply zz2 | apply zz0 | apply zz1 | refine zz3 ?_ GE207.out | refine zz3 ?_ GE213.out) hb);clear HO_208001;clear HO_214001;clear BK207;clear BK213;clear HB;have HO_208001:=n0_;have HO_214001:=n1_;have BK207:=n2_;have BK213:=n3_;have HB:=n4_;clear n0_ n1_ n2_ n3_ n4_;(try clear hb);(try clear hb2);(try clear hk);(try clear hi)))
       go_ret
       exact ⟨by first | rfl | (simp [errW_none,errW_some] <;> rfl) | (simp [*,errW_none,errW_some] <;> rfl),by repeat first | exact HB.out | apply zz2 | apply zz0 | apply zz1 | refine zz3 ?_ GE207.out | refine zz3 ?_ GE213.out⟩

/-- THE ONE PURE STATEMENT of laws_FnExactParseParty: yours. -/
def laws_FnExactParseParty.Pure:Prop:=∀ (a0:ByteArray),a0.size≤140737488351232→∃ k,laws_FnExactParseParty.f k a0=some true
theorem laws_FnExactParseParty.walk (P:laws_FnExactParseParty.Pure) (a0:ByteArray) (w:World) (w0:a0.size≤140737488351232) (hT:Tz w) :
  Calls Tryd.prog 4 #[.string a0] w fun e w'=>e=.returned (.bool true)∧Below w.heap.size w w':=by
 obtain ⟨k,h⟩:=P a0 w0
 refine (laws_FnExactParseParty.calls k a0 true w h hT).mono ?_
 rintro e w' ⟨rfl,hd⟩
 exact ⟨rfl,hd⟩

end Go.Proofs.YtoedkkoafidalaaDoor.P
