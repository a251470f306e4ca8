-- PRINTED by print.py (a twelfth state) out of the translation. Not trusted: Lean checks it.
import Derived.Test.YtialimbdkokdcaaPx0
import Derived.Test.YtialimbdkokdcaaPx1
import Derived.Test.YtialimbdkokdcaaPx3
import Derived.Test.YtialimbdkokdcaaPx15
import Derived.Test.YtialimbdkokdcaaPx18
import Derived.Test.YtialimbdkokdcaaPx19
namespace Go.Proofs.Ytialimbdkokdcaa.P
open Go.RowKit Go.Proofs.YtialimbdkokdcaaW.PrintWords Go.Proofs.YtialimbdkokdcaaW.PrintLast Go.Proofs.YtialimbdkokdcaaW.PrintMore
attribute [local go_sem] max2_int min2_int max_two min_two max_three min_three max_four min_four   -- for this text's walks alone
set_option linter.unusedVariables false
set_option linter.unusedSimpArgs false

/-! ### spec_paJoin: function 61 (a contract of our own) -/

def cpyB (dst src:List Bool):List Bool:=src.take (min src.length dst.length) ++ dst.drop (min src.length dst.length)
theorem cpyB_len (dst src:List Bool):(cpyB dst src).length=dst.length:=by unfold cpyB;simp;omega
/-- A row of a matrix of one's own, lent: where its header lies, and how it comes back. -/
theorem S_row {W:World} {base n cap:Nat} {ok:Nat→Prop} {A:Option Addr} {O:List (List Bool)} (HS:Kd.S (Kd.slice 4 Kd.bool) 92 W base ok (.slice A n cap) O) (i:Int) (h0:0≤i) (hi:i < (O.length:Int)) :
  ∃ (ad:Addr) (v:Value) (oki:Nat→Prop),A=some ad∧W.cell? (ad.add i.toNat)=some v∧Kd.R Kd.bool 4 W base oki v (rd_L4 O i)∧(∀ k,oki k→ok k) ∧
   ∀ {w1:World} {x':List Bool},W.grownBy w1 v.ownBlock→Kd.R Kd.bool 4 w1 base oki v x'→Kd.S (Kd.slice 4 Kd.bool) 92 w1 base ok (.slice A n cap) (O.set i.toNat x'):=by
 have hn:=(Kd.S_reads' HS).1
 obtain ⟨ad,eA,_⟩:=(Kd.S_reads' HS).2.2.2.2 (by omega)
 subst eA
 obtain ⟨oki,c,hcl,hM,hcc,hok,hbk⟩:=Kd.S_borrow HS [] i h0 (by omega)
 obtain ⟨v,rfl,ge⟩:=hM
 have hv:=hcc 0 v rfl
 rw [Nat.add_zero,show ((Kd.slice 4 Kd.bool)).sz=1 from rfl,Nat.mul_one] at hv
 exact ⟨ad,v,oki,rfl,hv,ge,fun k hk=>(hok k hk).1,fun hg hR=>hbk hg (fun k hk=>ge.1 k hk) ⟨v,rfl,hR⟩⟩
theorem R_rawb {W:World} {base:Nat} {ok:Nat→Prop} {A:Option Addr} {c k e:Nat} {xs:List Bool} (h:Kd.bool.R e W base ok (.slice A c k) xs) (hp:0 < c) :
  ∃ (g:Nat) (cur:List Value),A=some ⟨g,0,none⟩∧c=xs.length∧base≤g∧ok g∧W.heap[g]?=some (.cells cur.toArray e (0,0))∧c≤k∧k≤maxLen∧cur.length=k∧cur.take c=xs.map Value.bool:=by
 have ho:=Kd.own_of_R h
 have hn:=(Kd.R_reads' h).1
 rcases ho.2 with ⟨_,h0⟩ | ⟨g,cap,cur,hv,hb,hh,hn',hm,hs,ht⟩
 ·omega
 ·injection hv with e1 e2 e3
  subst e1 e3
  refine ⟨g,cur.toList,rfl,hn,hb,h.1 g rfl,by simpa using hh,by omega,hm,by simp;omega,?_⟩
  rw [hn,← Nat.mul_one xs.length,ht]
  rfl
theorem R_backb {W:World} {base:Nat} {ok:Nat→Prop} {c k g e:Nat} {xs:List Bool} {cur:List Value} (hb:base≤g) (hok:ok g) (hh:W.heap[g]?=some (.cells cur.toArray e (0,0))) (hn:c≤k) (hm:k≤maxLen) (hs:cur.length=k) (ht:cur.take c=xs.map Value.bool) (hx:xs.length=c) :
  Kd.bool.R e W base ok (.slice (some ⟨g,0,none⟩) c k) xs:=by
 refine Kd.R_of_own (enc:=Value.bool) (h1:=fun _=>rfl) ?_ (fun q hq=>?_)
 ·rw [hx]
  exact ⟨by simp [encs,hx],.inr ⟨g,k,cur.toArray,rfl,hb,hh,hn,hm,by simp [hs],by simp;rw [ht];rfl⟩⟩
 ·have:g=q:=by simpa [Value.ownBlock] using hq
  subst this;exact hok
section
variable {P : Program} {ops : Array Oper} {rest : List Oper} {o : Oper} {a : Act} {Q : Exit → Act → World → Prop} {K : Act → World → Prop}
/-- copy of bools into a row from a place on. -/
theorem wp_copy_bool {W:World} {base:Nat} {ok:Nat→Prop} (d s:Operand) (T e:TypeId)
  (ho:o.op=.call { callee:=.builtin .copy,args:=#[d,s],argTypes:=#[T,T] }) (ht:P.underlying T=some (.slice e)) (hinfo:(P.info? e).map (·.size)=some 1)
  (g off cv dCap:Nat) (row src:List Bool) (As:Option Addr) (c:Nat) (hd:a.eval d=.slice (some ⟨g,off,none⟩) (row.length - off) dCap) (hs:a.eval s=.slice As src.length c) (hoff:off < row.length)
  (HO:Kd.bool.R e W base ok (.slice (some ⟨g,0,none⟩) row.length cv) row) (HC:Kd.bool.C W As src.length src)
  (h:∀ w1,Kd.bool.R e w1 base ok (.slice (some ⟨g,0,none⟩) row.length cv) (row.take off ++ cpyB (row.drop off) src)→W.grownBy w1 (some g)→K (a.put o.dst (goInt ((min src.length (row.length - off):Nat):Int))) w1) :
  Oper.wp P o a W K Q:=by
 have hl:(row.drop off).length=row.length - off:=zz24
 by_cases h0:min src.length (row.length - off)=0
 ·have hrun:=run_copy_none (P:=P) W T T o.type e (some ⟨g,off,none⟩) As (row.length - off) dCap src.length c ht hinfo h0
  have hsame:row.take off ++ cpyB (row.drop off) src=row:=by
   unfold cpyB
   rw [hl,h0,List.take_zero,List.nil_append,List.drop_zero,List.take_append_drop]
  unfold Oper.wp execOp
  simp only [ho,resolve,invoke,builtin,Sem.run_bind,Sem.run_pure,Result.andThen_ok,zz26,zz27,zz28,hd,hs,hrun]
  have hk:=h W (by rw [hsame];exact HO) (World.grownBy.refl W _)
  rw [h0] at hk
  exact hk
 ·obtain ⟨g',cur,eg,_,hb,hokg,hh,hn,hm,hcl,htk⟩:=R_rawb HO (by omega)
  injection eg with eg
  injection eg with eg
  subst eg
  obtain ⟨ad,eA,hcell⟩:=(Kd.reads_of_C (enc:=Value.bool) (d:=false) (h1:=fun _=>rfl) HC).2.2 (by omega)
  subst eA
  obtain ⟨cs,hcs⟩:∃ cs:List Value,cs=(src.take (min src.length (row.length - off))).map Value.bool:=⟨_,rfl⟩
  have hlen:cs.length=min src.length (row.length - off):=by rw [hcs];simp
  have hsrc:∀ j v,cs[j]?=some v→W.cell? (ad.add j)=some v:=fun j v hj=>by
   have hj2:j < min src.length (row.length - off):=by rw [← hlen];exact (List.getElem?_eq_some_iff.1 hj).1
   rw [hcs,List.getElem?_map,List.getElem?_take,if_pos hj2,List.getElem?_eq_getElem (by omega)] at hj
   rw [hcell j (by omega),← Option.some.inj hj,List.getD_eq_getElem?_getD,List.getElem?_eq_getElem (by omega)]
   first | done | rfl
  have hfit:off+cs.length≤cur.length:=by rw [hlen];omega
  have h1:∀ u ∈ cs,u.oneCell'=true:=fun u hu=>by
   rw [hcs] at hu
   obtain ⟨b,_,rfl⟩:=List.mem_map.1 hu
   rfl
  have hrun:=run_copy_row (P:=P) W T T o.type e g off (row.length - off) dCap ad src.length c cur.toArray e cs ht hinfo hh hlen hsrc (by simpa using hfit) h1
  have hnew:=setRow_heap W g cur.toArray ((cur.take off ++ cs ++ cur.drop (off+cs.length)).toArray) e (0,0) hh
  unfold Oper.wp execOp
  simp only [ho,resolve,invoke,builtin,Sem.run_bind,Sem.run_pure,Result.andThen_ok,zz26,zz27,zz28,hd,hs,hrun]
  have hk:=h _ (R_backb hb hokg hnew hn hm (by simp;omega) ?_ ?_) ⟨rfl,rfl,rfl,by simp [World.setRow],fun i hi hne=>setRow_other W g i _ (fun e=>hne (by rw [e]))⟩
  ·rw [← hlen] at hk
   exact hk
  ·have e1:cur.take off=(row.take off).map Value.bool:=by
    have:=congrArg (List.take off) htk
    rw [List.take_take,Nat.min_eq_left (by omega)] at this
    rw [this,List.map_take]
   have e2:(cur.drop (off+cs.length)).take (row.length - (off+cs.length))=(row.drop (off+cs.length)).map Value.bool:=by
    have:=congrArg (List.drop (off+cs.length)) htk
    rw [List.drop_take] at this
    rw [this,List.map_drop]
   have a1:(cur.take off).length=off:=by rw [zz25];omega
   have a2:(cur.take off ++ cs ++ cur.drop (off+cs.length)).take row.length=cur.take off ++ cs ++ (cur.drop (off+cs.length)).take (row.length - (off+cs.length)):=by
    rw [List.take_append,List.take_of_length_le (by rw [List.length_append,a1,hlen];omega),List.length_append,a1]
   rw [a2,e1,e2]
   unfold cpyB
   rw [List.map_append,List.map_append,hl,← hcs,List.drop_drop,hlen,List.append_assoc]
  ·rw [List.length_append,cpyB_len,zz25,hl];omega
theorem wpList_copy_bool {W:World} {base:Nat} {ok:Nat→Prop} (hgd:o.guard=none) (d s:Operand) (T e:TypeId)
  (ho:o.op=.call { callee:=.builtin .copy,args:=#[d,s],argTypes:=#[T,T] }) (ht:P.underlying T=some (.slice e)) (hinfo:(P.info? e).map (·.size)=some 1)
  (g off cv dCap:Nat) (row src:List Bool) (As:Option Addr) (n m c:Nat) (hn:n=row.length) (hm:m=src.length) (hd:a.eval d=.slice (some ⟨g,off,none⟩) (n - off) dCap) (hs:a.eval s=.slice As m c) (hoff:off < row.length)
  (HO:Kd.bool.R e W base ok (.slice (some ⟨g,0,none⟩) n cv) row) (HC:Kd.bool.C W As m src)
  (h:∀ w1,Kd.bool.R e w1 base ok (.slice (some ⟨g,0,none⟩) n cv) (row.take off ++ cpyB (row.drop off) src)→W.grownBy w1 (some g)→wpList P ops Q rest (a.put o.dst (goInt ((min src.length (row.length - off):Nat):Int))) w1) :
  wpList P ops Q (o :: rest) a W:=by
 subst hn hm
 exact wpList_plain hgd fun _ hK=>wp_copy_bool d s T e ho ht hinfo g off cv dCap row src As c hd hs hoff HO HC fun w1 h1 h2=>hK _ _ (h w1 h1 h2)
end

def jA (T:List (List Bool)):Nat→Nat→List (List Bool)→Option (List (List Bool))
 | 0,_,O=>some O
 | d+1,a,O=>if a < O.length∧0 < (rd_L4 O (a:Int)).length then jA T d (a+1) (O.set a (cpyB (rd_L4 O (a:Int)) (rd_L4 T (a:Int)))) else none
def jB (n:Nat) (T:List (List Bool)):Nat→Nat→List (List Bool)→Option (List (List Bool))
 | 0,_,O=>some O
 | d+1,a,O=>if n+a < O.length∧n < (rd_L4 O ((n+a:Nat):Int)).length then jB n T d (a+1) (O.set (n+a) ((rd_L4 O ((n+a:Nat):Int)).take n ++ cpyB ((rd_L4 O ((n+a:Nat):Int)).drop n) (rd_L4 T (a:Int)))) else none
def jD (fr:Bool) (a:Nat):Nat→Nat→List (List Bool)→Option (List (List Bool))
 | 0,_,O=>some O
 | d+1,b,O=>if a < O.length∧b < (rd_L4 O (a:Int)).length then (if b < (O.set a ((rd_L4 O (a:Int)).set b fr)).length∧a < (rd_L4 (O.set a ((rd_L4 O (a:Int)).set b fr)) (b:Int)).length then jD fr a d (b+1) ((O.set a ((rd_L4 O (a:Int)).set b fr)).set b ((rd_L4 (O.set a ((rd_L4 O (a:Int)).set b fr)) (b:Int)).set a fr)) else none) else none
def jC (fr:Bool) (n:Nat):Nat→Nat→List (List Bool)→Option (List (List Bool))
 | 0,_,O=>some O
 | d+1,a,O=>(jD fr a (O.length - n) n O).bind fun O'=>jC fr n d (a+1) O'
def spec_paJoin.f (k:Nat) (a0_0:Int) (l0_1:List (S80)) (a1_0:Int) (l1_1:List (S80)) (a2:Bool):Option (Int × List (S80) × Bool) :=
 (spec_paGood.f k a0_0 l0_1).bind fun g1=>if g1=true then (spec_paGood.f k a1_0 l1_1).bind fun g2=>if g2=true then (if (0≤a0_0∧a0_0≤1000)∧0≤a1_0∧a1_0≤1000 then
  (spec_paPeople.f (a0_0+a1_0)).bind fun g3=>if g3=true then (spec_paTable.f k (a0_0+a1_0) []).bind fun O=>(spec_paTable.f k a0_0 l0_1).bind fun T=>(jA T T.length 0 O).bind fun O1=>(spec_paTable.f k a1_0 l1_1).bind fun T2=>(jB a0_0.toNat T2 T2.length 0 O1).bind fun O2=>(jC a2 a0_0.toNat a0_0.toNat 0 O2).bind fun O3=>if (T.length≤1000∧T2.length≤1000)∧O.length≤1000 then (spec_paOf.f k O3).bind fun r=>some (r.1,r.2,true) else none
  else some (0,[],false) else none) else some (0,[],false) else some (0,[],false)
theorem spec_paJoin.mono:∀ a0 a1 a2 a3 a4 k,LeO (spec_paJoin.f k a0 a1 a2 a3 a4) (spec_paJoin.f (k+1) a0 a1 a2 a3 a4):=by
 intro a0 a1 a2 a3 a4 k
 unfold spec_paJoin.f
 exact LeO.bind (spec_paGood.mono _ _ _) fun g1=>LeO.ite (LeO.bind (spec_paGood.mono _ _ _) fun g2=>LeO.ite (LeO.ite (LeO.bind (LeO.refl _) fun g3=>LeO.ite (LeO.bind (spec_paTable.mono _ _ _) fun O=>LeO.bind (spec_paTable.mono _ _ _) fun T=>LeO.bind (LeO.refl _) fun O1=>LeO.bind (spec_paTable.mono _ _ _) fun T2=>LeO.bind (LeO.refl _) fun O2=>LeO.bind (LeO.refl _) fun O3=>LeO.ite (LeO.bind (spec_paOf.mono _ _) fun r=>LeO.refl _) (LeO.refl _)) (LeO.refl _)) (LeO.refl _)) (LeO.refl _)) (LeO.refl _)
set_option maxHeartbeats 4000000 in
set_option maxRecDepth 100000 in
theorem spec_paJoin.calls (k:Nat) (a0_0:Int) (A0_1:Option Addr) (c0_1:Nat) (l0_1:List (S80)) (a1_0:Int) (A1_1:Option Addr) (c1_1:Nat) (l1_1:List (S80)) (a2:Bool) (r1:Int) (r2:List (S80)) (r3:Bool) (w:World) (hr0_1:Kd.C k80 w A0_1 l0_1.length l0_1) (hc0_1:l0_1.length≤c0_1) (hr1_1:Kd.C k80 w A1_1 l1_1.length l1_1) (hc1_1:l1_1.length≤c1_1) (h:spec_paJoin.f k a0_0 l0_1 a1_0 l1_1 a2=some (r1,r2,r3)) :
  Calls Try.prog 61 #[.agg #[.int .i64 a0_0,.slice A0_1 l0_1.length c0_1],.agg #[.int .i64 a1_0,.slice A1_1 l1_1.length c1_1],.bool a2] w fun e w'=>∃ v1_:Value,e=.returned (.tuple #[.agg #[.int .i64 r1,v1_],.bool r3])∧Kd.R k80 80 w' w.heap.size (fun _=>True) v1_ r2∧Below w.heap.size w w':=by
 have hu:=Try.underlying30
 have HC:=zz31 hr0_1
 have HCC:=zz31 hc0_1
 have HD:=zz31 hr1_1
 have HDD:=zz31 hc1_1
 clear hr0_1 hc0_1 hr1_1 hc1_1
 unfold spec_paJoin.f at h
 replace h:=zz30.1 h
 obtain ⟨g1,hg1,h⟩:=h
 have HG1:=zz31 hg1
 clear hg1
 cases g1 with
 | false =>
  rw [if_neg (by simp)] at h
  simp only [Option.some.injEq,Prod.mk.injEq] at h
  obtain ⟨rfl,rfl,rfl⟩:=h
  go_enter Try.func61,Try.ntmps61
  go_wp2_with (first | ((with_reducible refine gate_dst (N := 3) rfl ?_); refine box_event ?hg (N := 3) ?hd (cs := #[.int .i64 a0_0, .slice A0_1 l0_1.length c0_1]) (t := 30) ?hr ?_; (case hd => rfl); (case hg => rfl); (case hr => first | (go_simp; done) | (go_simp; rfl)); intro gb hg wa hbox hb; have HXa := zz31 hbox; have HBa := zz31 (zz4 (w := w) (by repeat (first | exact Below.refl _ _ | apply zz0 | apply below_drew | apply zz2)) hb); clear hbox hb hg) | ((with_reducible refine gate_dst (N := 4) rfl ?_); refine box_event ?hg (N := 4) ?hd (cs := #[.int .i64 a1_0, .slice A1_1 l1_1.length c1_1]) (t := 30) ?hr ?_; (case hd => rfl); (case hg => rfl); (case hr => first | (go_simp; done) | (go_simp; rfl)); intro gq hg wb hbox hb; have HYb := zz31 hbox; have HXb := zz31 (zz11 HXa.out hb); have HBb := zz31 (zz4 HBa.out hb); clear hbox hb hg) | ((with_reducible refine gate_dst (N := 6) rfl ?_); refine box_event ?hg (N := 6) ?hd (cs := #[.int .i64 0, .slice none 0 0]) (t := 30) ?hr ?_; (case hd => rfl); (case hg => rfl); (case hr => first | (go_simp; done) | (go_simp; rfl)); intro gr hg wc hbox hb; have HZc := zz31 hbox; have HXc := zz31 (zz11 HXb.out hb); have HYc := zz31 (zz11 HYb.out hb); have HGR := zz31 (show w.heap.size ≤ gr from by rw [hg]; exact HBb.out.size); have HBc := zz31 (zz4 HBb.out hb); have f1 := zz9 HXc.out 0; have f2 := zz9 HXc.out 1; have q1 := zz9 HYc.out 0; have q2 := zz9 HYc.out 1; have g1 := zz9 HZc.out 0; have g2 := zz9 HZc.out 1; have g3 := zz10 HZc.out 0; have g4 := zz10 HZc.out 1; simp only [List.getElem?_toArray, List.getElem?_cons_zero, List.getElem?_cons_succ] at f1 f2 q1 q2 g1 g2; clear hbox hb hg) | (go_at_call 42; (with_reducible refine (spec_paGood.calls k a0_0 A0_1 c0_1 l0_1 false wc (Kd.C_below HC.out HBc.out) HCC.out HG1.out).mono ?_); rintro e wd ⟨rfl, hb⟩; have HXd := zz31 (zz11 HXc.out hb); have HYd := zz31 (zz11 HYc.out hb); have HZd := zz31 (zz11 HZc.out hb); have HBd := zz31 (zz4 HBc.out hb); clear f1 f2 q1 q2 g1 g2 g3 g4; have f1 := zz9 HXd.out 0; have f2 := zz9 HXd.out 1; have q1 := zz9 HYd.out 0; have q2 := zz9 HYd.out 1; have g1 := zz9 HZd.out 0; have g2 := zz9 HZd.out 1; have g3 := zz10 HZd.out 0; have g4 := zz10 HZd.out 1; simp only [List.getElem?_toArray, List.getElem?_cons_zero, List.getElem?_cons_succ] at f1 f2 q1 q2 g1 g2; clear hb) | (fail "no arm"))
  refine bodyPost_ret (results_ct rfl _ _ gr 30 #[.int .i64 0,.slice none 0 0] (0,0) _ rfl (by (with_reducible repeat (first | refine zz6 ?_ _ | refine zz7 ?_));refine blk_put (cs:=#[.int .i64 0,.slice none 0 0]) ?_ 1 _ rfl;refine blk_put (cs:=#[.int .i64 0,.slice none 0 0]) ?_ 0 _ rfl;(with_reducible repeat (first | refine zz6 ?_ _ | refine zz7 ?_));exact HZd.out) Try.underlying30 rfl (by kernel_rfl)) rfl ?_
  exact ⟨_,rfl,Kd.R_nil _ _ _ _ _,by repeat first | exact HBd.out | apply zz0 | apply below_drew | refine zz3 ?_ HGR.out⟩
 | true =>
  rw [if_pos rfl] at h
  replace h:=zz30.1 h
  obtain ⟨g2,hg2,h⟩:=h
  have HG2:=zz31 hg2
  clear hg2
  cases g2 with
  | false =>
   rw [if_neg (by simp)] at h
   simp only [Option.some.injEq,Prod.mk.injEq] at h
   obtain ⟨rfl,rfl,rfl⟩:=h
   go_enter Try.func61,Try.ntmps61
   go_wp2_with (first | ((with_reducible refine gate_dst (N := 3) rfl ?_); refine box_event ?hg (N := 3) ?hd (cs := #[.int .i64 a0_0, .slice A0_1 l0_1.length c0_1]) (t := 30) ?hr ?_; (case hd => rfl); (case hg => rfl); (case hr => first | (go_simp; done) | (go_simp; rfl)); intro gb hg wa hbox hb; have HXa := zz31 hbox; have HBa := zz31 (zz4 (w := w) (by repeat (first | exact Below.refl _ _ | apply zz0 | apply below_drew | apply zz2)) hb); clear hbox hb hg) | ((with_reducible refine gate_dst (N := 4) rfl ?_); refine box_event ?hg (N := 4) ?hd (cs := #[.int .i64 a1_0, .slice A1_1 l1_1.length c1_1]) (t := 30) ?hr ?_; (case hd => rfl); (case hg => rfl); (case hr => first | (go_simp; done) | (go_simp; rfl)); intro gq hg wb hbox hb; have HYb := zz31 hbox; have HXb := zz31 (zz11 HXa.out hb); have HBb := zz31 (zz4 HBa.out hb); clear hbox hb hg) | ((with_reducible refine gate_dst (N := 6) rfl ?_); refine box_event ?hg (N := 6) ?hd (cs := #[.int .i64 0, .slice none 0 0]) (t := 30) ?hr ?_; (case hd => rfl); (case hg => rfl); (case hr => first | (go_simp; done) | (go_simp; rfl)); intro gr hg wc hbox hb; have HZc := zz31 hbox; have HXc := zz31 (zz11 HXb.out hb); have HYc := zz31 (zz11 HYb.out hb); have HGR := zz31 (show w.heap.size ≤ gr from by rw [hg]; exact HBb.out.size); have HBc := zz31 (zz4 HBb.out hb); have f1 := zz9 HXc.out 0; have f2 := zz9 HXc.out 1; have q1 := zz9 HYc.out 0; have q2 := zz9 HYc.out 1; have g1 := zz9 HZc.out 0; have g2 := zz9 HZc.out 1; have g3 := zz10 HZc.out 0; have g4 := zz10 HZc.out 1; simp only [List.getElem?_toArray, List.getElem?_cons_zero, List.getElem?_cons_succ] at f1 f2 q1 q2 g1 g2; clear hbox hb hg) | (go_at_call 42; (with_reducible refine (spec_paGood.calls k a0_0 A0_1 c0_1 l0_1 true wc (Kd.C_below HC.out HBc.out) HCC.out HG1.out).mono ?_); rintro e wd ⟨rfl, hb⟩; have HXd := zz31 (zz11 HXc.out hb); have HYd := zz31 (zz11 HYc.out hb); have HZd := zz31 (zz11 HZc.out hb); have HBd := zz31 (zz4 HBc.out hb); clear f1 f2 q1 q2 g1 g2 g3 g4; have f1 := zz9 HXd.out 0; have f2 := zz9 HXd.out 1; have q1 := zz9 HYd.out 0; have q2 := zz9 HYd.out 1; have g1 := zz9 HZd.out 0; have g2 := zz9 HZd.out 1; have g3 := zz10 HZd.out 0; have g4 := zz10 HZd.out 1; simp only [List.getElem?_toArray, List.getElem?_cons_zero, List.getElem?_cons_succ] at f1 f2 q1 q2 g1 g2; clear hb) | (go_at_call 42; (with_reducible refine (spec_paGood.calls k a1_0 A1_1 c1_1 l1_1 false wd (Kd.C_below HD.out HBd.out) HDD.out HG2.out).mono ?_); rintro e we ⟨rfl, hb⟩; have HXe := zz31 (zz11 HXd.out hb); have HYe := zz31 (zz11 HYd.out hb); have HZe := zz31 (zz11 HZd.out hb); have HBe := zz31 (zz4 HBd.out hb); clear f1 f2 q1 q2 g1 g2 g3 g4; have f1 := zz9 HXe.out 0; have f2 := zz9 HXe.out 1; have q1 := zz9 HYe.out 0; have q2 := zz9 HYe.out 1; have g1 := zz9 HZe.out 0; have g2 := zz9 HZe.out 1; have g3 := zz10 HZe.out 0; have g4 := zz10 HZe.out 1; simp only [List.getElem?_toArray, List.getElem?_cons_zero, List.getElem?_cons_succ] at f1 f2 q1 q2 g1 g2; clear hb) | (fail "no arm"))
   refine bodyPost_ret (results_ct rfl _ _ gr 30 #[.int .i64 0,.slice none 0 0] (0,0) _ rfl (by (with_reducible repeat (first | refine zz6 ?_ _ | refine zz7 ?_));refine blk_put (cs:=#[.int .i64 0,.slice none 0 0]) ?_ 1 _ rfl;refine blk_put (cs:=#[.int .i64 0,.slice none 0 0]) ?_ 0 _ rfl;(with_reducible repeat (first | refine zz6 ?_ _ | refine zz7 ?_));exact HZe.out) Try.underlying30 rfl (by kernel_rfl)) rfl ?_
   exact ⟨_,rfl,Kd.R_nil _ _ _ _ _,by repeat first | exact HBe.out | apply zz0 | apply below_drew | refine zz3 ?_ HGR.out⟩
  | true =>
   rw [if_pos rfl] at h
   by_cases hbd:(0≤a0_0∧a0_0≤1000)∧0≤a1_0∧a1_0≤1000
   case neg=>rw [if_neg hbd] at h;exact absurd h (by simp)
   rw [if_pos hbd] at h
   obtain ⟨⟨hp0,hp1⟩,hq0,hq1⟩:=hbd
   replace h:=zz30.1 h
   obtain ⟨g3,hg3,h⟩:=h
   have HG3:=zz31 hg3
   clear hg3
   cases g3 with
   | false =>
    rw [if_neg (by simp)] at h
    simp only [Option.some.injEq,Prod.mk.injEq] at h
    obtain ⟨rfl,rfl,rfl⟩:=h
    go_enter Try.func61,Try.ntmps61
    go_wp2_with (first | ((with_reducible refine gate_dst (N := 3) rfl ?_); refine box_event ?hg (N := 3) ?hd (cs := #[.int .i64 a0_0, .slice A0_1 l0_1.length c0_1]) (t := 30) ?hr ?_; (case hd => rfl); (case hg => rfl); (case hr => first | (go_simp; done) | (go_simp; rfl)); intro gb hg wa hbox hb; have HXa := zz31 hbox; have HBa := zz31 (zz4 (w := w) (by repeat (first | exact Below.refl _ _ | apply zz0 | apply below_drew | apply zz2)) hb); clear hbox hb hg) | ((with_reducible refine gate_dst (N := 4) rfl ?_); refine box_event ?hg (N := 4) ?hd (cs := #[.int .i64 a1_0, .slice A1_1 l1_1.length c1_1]) (t := 30) ?hr ?_; (case hd => rfl); (case hg => rfl); (case hr => first | (go_simp; done) | (go_simp; rfl)); intro gq hg wb hbox hb; have HYb := zz31 hbox; have HXb := zz31 (zz11 HXa.out hb); have HBb := zz31 (zz4 HBa.out hb); clear hbox hb hg) | ((with_reducible refine gate_dst (N := 6) rfl ?_); refine box_event ?hg (N := 6) ?hd (cs := #[.int .i64 0, .slice none 0 0]) (t := 30) ?hr ?_; (case hd => rfl); (case hg => rfl); (case hr => first | (go_simp; done) | (go_simp; rfl)); intro gr hg wc hbox hb; have HZc := zz31 hbox; have HXc := zz31 (zz11 HXb.out hb); have HYc := zz31 (zz11 HYb.out hb); have HGR := zz31 (show w.heap.size ≤ gr from by rw [hg]; exact HBb.out.size); have HBc := zz31 (zz4 HBb.out hb); have f1 := zz9 HXc.out 0; have f2 := zz9 HXc.out 1; have q1 := zz9 HYc.out 0; have q2 := zz9 HYc.out 1; have g1 := zz9 HZc.out 0; have g2 := zz9 HZc.out 1; have g3 := zz10 HZc.out 0; have g4 := zz10 HZc.out 1; simp only [List.getElem?_toArray, List.getElem?_cons_zero, List.getElem?_cons_succ] at f1 f2 q1 q2 g1 g2; clear hbox hb hg) | (go_at_call 42; (with_reducible refine (spec_paGood.calls k a0_0 A0_1 c0_1 l0_1 true wc (Kd.C_below HC.out HBc.out) HCC.out HG1.out).mono ?_); rintro e wd ⟨rfl, hb⟩; have HXd := zz31 (zz11 HXc.out hb); have HYd := zz31 (zz11 HYc.out hb); have HZd := zz31 (zz11 HZc.out hb); have HBd := zz31 (zz4 HBc.out hb); clear f1 f2 q1 q2 g1 g2 g3 g4; have f1 := zz9 HXd.out 0; have f2 := zz9 HXd.out 1; have q1 := zz9 HYd.out 0; have q2 := zz9 HYd.out 1; have g1 := zz9 HZd.out 0; have g2 := zz9 HZd.out 1; have g3 := zz10 HZd.out 0; have g4 := zz10 HZd.out 1; simp only [List.getElem?_toArray, List.getElem?_cons_zero, List.getElem?_cons_succ] at f1 f2 q1 q2 g1 g2; clear hb) | (go_at_call 42; (with_reducible refine (spec_paGood.calls k a1_0 A1_1 c1_1 l1_1 true wd (Kd.C_below HD.out HBd.out) HDD.out HG2.out).mono ?_); rintro e we ⟨rfl, hb⟩; have HXe := zz31 (zz11 HXd.out hb); have HYe := zz31 (zz11 HYd.out hb); have HZe := zz31 (zz11 HZd.out hb); have HBe := zz31 (zz4 HBd.out hb); clear f1 f2 q1 q2 g1 g2 g3 g4; have f1 := zz9 HXe.out 0; have f2 := zz9 HXe.out 1; have q1 := zz9 HYe.out 0; have q2 := zz9 HYe.out 1; have g1 := zz9 HZe.out 0; have g2 := zz9 HZe.out 1; have g3 := zz10 HZe.out 0; have g4 := zz10 HZe.out 1; simp only [List.getElem?_toArray, List.getElem?_cons_zero, List.getElem?_cons_succ] at f1 f2 q1 q2 g1 g2; clear hb) | (go_at_call 77; refine (spec_paPeople.calls (a0_0 + a1_0) false _ HG3.out).mono ?_; rintro e w' ⟨rfl, hd⟩; obtain ⟨qd, hqd⟩ := hd.out; subst hqd; clear hd) | (fail "no arm"))
    refine bodyPost_ret (results_ct rfl _ _ gr 30 #[.int .i64 0,.slice none 0 0] (0,0) _ rfl (by (with_reducible repeat (first | refine zz6 ?_ _ | refine zz7 ?_));refine blk_put (cs:=#[.int .i64 0,.slice none 0 0]) ?_ 1 _ rfl;refine blk_put (cs:=#[.int .i64 0,.slice none 0 0]) ?_ 0 _ rfl;(with_reducible repeat (first | refine zz6 ?_ _ | refine zz7 ?_));exact HZe.out) Try.underlying30 rfl (by kernel_rfl)) rfl ?_
    exact ⟨_,rfl,Kd.R_nil _ _ _ _ _,by repeat first | exact HBe.out | apply zz0 | apply below_drew | refine zz3 ?_ HGR.out⟩
   | true =>
    rw [if_pos rfl] at h
    obtain ⟨n,rfl⟩:=Int.eq_ofNat_of_zero_le hp0
    replace h:=zz30.1 h
    obtain ⟨O,hO,h⟩:=h
    replace h:=zz30.1 h
    obtain ⟨T,hT,h⟩:=h
    replace h:=zz30.1 h
    obtain ⟨O1,hA1,h⟩:=h
    replace h:=zz30.1 h
    obtain ⟨T2,hT2,h⟩:=h
    replace h:=zz30.1 h
    obtain ⟨O2,hA2,h⟩:=h
    replace h:=zz30.1 h
    obtain ⟨O3,hA3,h⟩:=h
    rw [Int.toNat_natCast] at hA2 hA3
    by_cases hsz:(T.length≤1000∧T2.length≤1000)∧O.length≤1000
    case neg=>rw [if_neg hsz] at h;exact absurd h (by simp)
    rw [if_pos hsz] at h
    replace h:=zz30.1 h
    obtain ⟨⟨s1,s2⟩,hOF,h⟩:=h
    simp only [Option.some.injEq,Prod.mk.injEq] at h
    obtain ⟨rfl,rfl,rfl⟩:=h
    have HSZ:=zz31 hsz
    have HO:=zz31 hO
    have HT:=zz31 hT
    have HA1:=zz31 hA1
    have HT2:=zz31 hT2
    have HA2:=zz31 hA2
    have HA3:=zz31 hA3
    have HOF:=zz31 hOF
    have hn1:(n:Int)≤1000:=hp1
    clear hsz hO hT hA1 hT2 hA2 hA3 hOF hp0
    go_enter Try.func61,Try.ntmps61
    go_wp2_with (first | ((with_reducible refine gate_dst (N := 3) rfl ?_); refine box_event ?hg (N := 3) ?hd (cs := #[.int .i64 (n : Int), .slice A0_1 l0_1.length c0_1]) (t := 30) ?hr ?_; (case hd => rfl); (case hg => rfl); (case hr => first | (go_simp; done) | (go_simp; rfl)); intro gb hg wa hbox hb; have HXa := zz31 hbox; have HBa := zz31 (zz4 (w := w) (by repeat (first | exact Below.refl _ _ | apply zz0 | apply below_drew | apply zz2)) hb); clear hbox hb hg) | ((with_reducible refine gate_dst (N := 4) rfl ?_); refine box_event ?hg (N := 4) ?hd (cs := #[.int .i64 a1_0, .slice A1_1 l1_1.length c1_1]) (t := 30) ?hr ?_; (case hd => rfl); (case hg => rfl); (case hr => first | (go_simp; done) | (go_simp; rfl)); intro gq hg wb hbox hb; have HYb := zz31 hbox; have HXb := zz31 (zz11 HXa.out hb); have HBb := zz31 (zz4 HBa.out hb); clear hbox hb hg) | ((with_reducible refine gate_dst (N := 6) rfl ?_); refine box_event ?hg (N := 6) ?hd (cs := #[.int .i64 0, .slice none 0 0]) (t := 30) ?hr ?_; (case hd => rfl); (case hg => rfl); (case hr => first | (go_simp; done) | (go_simp; rfl)); intro gr hg wc hbox hb; have HZc := zz31 hbox; have HXc := zz31 (zz11 HXb.out hb); have HYc := zz31 (zz11 HYb.out hb); have HGR := zz31 (show w.heap.size ≤ gr from by rw [hg]; exact HBb.out.size); have HBc := zz31 (zz4 HBb.out hb); have f1 := zz9 HXc.out 0; have f2 := zz9 HXc.out 1; have q1 := zz9 HYc.out 0; have q2 := zz9 HYc.out 1; have g1 := zz9 HZc.out 0; have g2 := zz9 HZc.out 1; have g3 := zz10 HZc.out 0; have g4 := zz10 HZc.out 1; simp only [List.getElem?_toArray, List.getElem?_cons_zero, List.getElem?_cons_succ] at f1 f2 q1 q2 g1 g2; clear hbox hb hg) | (go_at_call 42; (with_reducible refine (spec_paGood.calls k (n : Int) A0_1 c0_1 l0_1 true wc (Kd.C_below HC.out HBc.out) HCC.out HG1.out).mono ?_); rintro e wd ⟨rfl, hb⟩; have HXd := zz31 (zz11 HXc.out hb); have HYd := zz31 (zz11 HYc.out hb); have HZd := zz31 (zz11 HZc.out hb); have HBd := zz31 (zz4 HBc.out hb); clear f1 f2 q1 q2 g1 g2 g3 g4; have f1 := zz9 HXd.out 0; have f2 := zz9 HXd.out 1; have q1 := zz9 HYd.out 0; have q2 := zz9 HYd.out 1; have g1 := zz9 HZd.out 0; have g2 := zz9 HZd.out 1; have g3 := zz10 HZd.out 0; have g4 := zz10 HZd.out 1; simp only [List.getElem?_toArray, List.getElem?_cons_zero, List.getElem?_cons_succ] at f1 f2 q1 q2 g1 g2; clear hb) | (go_at_call 42; (with_reducible refine (spec_paGood.calls k a1_0 A1_1 c1_1 l1_1 true wd (Kd.C_below HD.out HBd.out) HDD.out HG2.out).mono ?_); rintro e we ⟨rfl, hb⟩; have HXe := zz31 (zz11 HXd.out hb); have HYe := zz31 (zz11 HYd.out hb); have HZe := zz31 (zz11 HZd.out hb); have HBe := zz31 (zz4 HBd.out hb); clear f1 f2 q1 q2 g1 g2 g3 g4; have f1 := zz9 HXe.out 0; have f2 := zz9 HXe.out 1; have q1 := zz9 HYe.out 0; have q2 := zz9 HYe.out 1; have g1 := zz9 HZe.out 0; have g2 := zz9 HZe.out 1; have g3 := zz10 HZe.out 0; have g4 := zz10 HZe.out 1; simp only [List.getElem?_toArray, List.getElem?_cons_zero, List.getElem?_cons_succ] at f1 f2 q1 q2 g1 g2; clear hb) | (go_at_call 77; refine (spec_paPeople.calls ((n : Int) + a1_0) true _ HG3.out).mono ?_; rintro e w' ⟨rfl, hd⟩; obtain ⟨qd, hqd⟩ := hd.out; subst hqd; clear hd) | (go_at_call 53; (with_reducible refine (spec_paTable.calls k (n : Int) A0_1 c0_1 l0_1 T wf (Kd.C_below HC.out HBf.out) HCC.out HT.out).mono ?_); rintro e wg ⟨vg, rfl, ho, hb⟩; obtain ⟨Ag, cg, rfl⟩ := Kd.S_slice ho; have HTg := zz31 (Kd.S_mono (ok' := fun k => wf.heap.size ≤ k) (Kd.S_bound ho) (fun k hk => hk.2.1)); have HSg := zz31 (Kd.S_below HSf.out hb); have HDg := zz31 (zz4 HDf.out hb); have HXg := zz31 (zz11 HXf.out hb); have HYg := zz31 (zz11 HYf.out hb); have HZg := zz31 (zz11 HZf.out hb); clear f1 f2 q1 q2 g1 g2 g3 g4; clear ho hb) | (go_at_call 53; refine (spec_paTable.calls k ((n : Int) + a1_0) none 0 [] O _ (Kd.C_nil _ _) (Nat.le_refl _) HO.out).mono ?_; rintro e wf ⟨vf, rfl, ho, hb⟩; obtain ⟨Af, cf, rfl⟩ := Kd.S_slice ho; have HBf0 := zz31 (zz0 (Below.refl we.heap.size we) qd); have HSf := zz31 (Kd.S_mono (ok' := fun k => k < wf.heap.size) (Kd.S_bound ho) (fun k hk => hk.2.2.1)); have HDf := zz31 hb; have HXf := zz31 (zz11 HXe.out (zz4 HBf0.out hb)); have HYf := zz31 (zz11 HYe.out (zz4 HBf0.out hb)); have HZf := zz31 (zz11 HZe.out (zz4 HBf0.out hb)); have HBf := zz31 (zz4 (zz0 HBe.out qd) hb); clear f1 f2 q1 q2 g1 g2 g3 g4; have f1 := zz9 HXf.out 0; have f2 := zz9 HXf.out 1; have q1 := zz9 HYf.out 0; have q2 := zz9 HYf.out 1; have g1 := zz9 HZf.out 0; have g2 := zz9 HZf.out 1; have g3 := zz10 HZf.out 0; have g4 := zz10 HZf.out 1; simp only [List.getElem?_toArray, List.getElem?_cons_zero, List.getElem?_cons_succ] at f1 f2 q1 q2 g1 g2; clear ho hb) | (fail "no arm"))
    have HN0:=zz31 (show O.length=O.length from rfl)
    go_loopg [43] T.length (fun gg v43 wr=>∃ (a:Nat) (X:List (List Bool)),a≤T.length∧T.length - a≤gg∧v43=.int .i64 a∧Aside0 (jA T (T.length - a) a X=some O1)∧Aside0 (X.length=O.length)∧Aside0 (Kd.S (Kd.slice 4 Kd.bool) 92 wr (we.drewN qd).heap.size (fun k=>k < wf.heap.size) (.slice Af O.length cf) X)∧Aside0 (Kd.S (Kd.slice 4 Kd.bool) 92 wr wf.heap.size (fun k=>wf.heap.size≤k) (.slice Ag T.length cg) T)∧Aside0 (Below (we.drewN qd).heap.size (we.drewN qd) wr))
    case atStart=>exact ⟨0,O,Nat.zero_le _,Nat.le_refl _,rfl,HA1,⟨rfl⟩,HSg,HTg,HDg⟩
    case round =>
     obtain ⟨a,X,hal,hag,rfl,HR,HL,HS,HTS,HBr⟩:=hrel
     have hT1:=HSZ.out.1.1
     by_cases hlt:a < T.length
     ·have hltz:(a:Int) < (T.length:Int):=by omega
      obtain ⟨dd,hd⟩:∃ dd,T.length - a=dd+1:=⟨T.length - a - 1,by omega⟩
      have hd2:T.length - (a+1)=dd:=by omega
      have hr:=HR.out
      rw [hd,jA] at hr
      by_cases hc:a < X.length∧0 < (rd_L4 X (a:Int)).length
      case neg=>rw [if_neg hc] at hr;exact absurd hr (by simp)
      rw [if_pos hc] at hr
      have HR2:=zz31 hr
      clear hr
      obtain ⟨adT,AT,cT,eT,hxT,hlT,hiT⟩:=at_L4 (Kd.S_reads' HTS.out).2.2 (a:Int) (by omega) (by omega)
      subst eT
      obtain ⟨adO,vO,okO,eO,hxO,hRO,hokO,hbk⟩:=S_row HS.out (a:Int) (by omega) (by omega)
      subst eO
      obtain ⟨gO,cO,eV,gbO,glO,clO⟩:=Kd.R_form hRO hc.2
      subst eV
      rw [Int.toNat_natCast] at hxT hxO
      obtain ⟨nT,hnT⟩:∃ nT,nT=(rd_L4 T (a:Int)).length:=⟨_,rfl⟩
      obtain ⟨nO,hnO⟩:∃ nO,nO=(rd_L4 X (a:Int)).length:=⟨_,rfl⟩
      have hw63:=hc.2
      rw [← hnT] at hxT hiT
      rw [← hnO] at hxO hRO hbk hw63
      have HgO:=zz31 (show gO < wf.heap.size from hokO gO (hRO.1 gO rfl))
      have HRO:=zz31 hRO
      have HBK:=zz31 (@hbk)
      have HiT:=zz31 hiT
      have q1:(a:Int) < (O.length:Int):=by have:=HL.out;omega
      have HNT:=zz31 hnT
      have HNO:=zz31 hnO
      have HBs:=zz31 HBr.out.size
      have HKT:=zz31 (show ∀ k,wf.heap.size≤k→some k ≠ (Value.slice (some ⟨gO,0,none⟩) nO cO).ownBlock from fun k hk he=>by
       have he2:some k=some gO:=he
       injection he2 with he2
       have:=HgO.out
       omega)
      clear hRO hbk hiT hokO gbO glO clO hlT hnT hnO hc
      go_wp2_with (first | ((with_reducible refine gate_dst (N := 53) rfl ?_); refine Kd.R_copy (enc := Value.bool) (h1 := fun _ => rfl) false (w0 := we.drewN qd) (we.drewN qd).heap.size rfl (.tmp 51) (.tmp 52) 92 92 4 rfl Try.underlying92 (by kernel_rfl) (.slice (some ⟨gO, 0, none⟩) nO cO) (rd_L4 X (a : Int)) (rd_L4 T (a : Int)) AT nT cT okO rfl rfl HRO.out HiT.out HBr.out HBs.out ?_; intro w1 hr1 hb1 hg1; have HR1 := zz31 hr1; have HB1 := zz31 hb1; have HG1 := zz31 hg1; clear hr1 hb1 hg1) | (fail "no arm"))
      have HS1:Aside0 (Kd.S (Kd.slice 4 Kd.bool) 92 w1 (we.drewN qd).heap.size (fun k=>k < wf.heap.size) (.slice (some adO) O.length cf) (X.set a (cpyB (rd_L4 X (a:Int)) (rd_L4 T (a:Int))))):=⟨by
       have h1:=HBK.out HG1.out HR1.out
       rw [Int.toNat_natCast,HNT.out] at h1
       exact h1⟩
      have HT1:=zz31 (Kd.S_step HTS.out (fun k hk hlt=>HG1.out.block k hlt (HKT.out k hk)))
      clear HR1 HBK HKT HRO hxT hxO
      go_wp2
      go_roundg (T.length - (a+1))
      case measure=>omega
      case rel=>exact ⟨a+1,X.set a (cpyB (rd_L4 X (a:Int)) (rd_L4 T (a:Int))),by omega,by omega,by go_num,⟨by rw [hd2];exact HR2.out⟩,⟨by rw [List.length_set];exact HL.out⟩,⟨(by (with_reducible repeat (first | apply zz16 | apply zz17));exact HS1.out)⟩,⟨(by (with_reducible repeat (first | apply zz16 | apply zz17));exact HT1.out)⟩,⟨(by repeat (first | exact HB1.out | apply zz0 | apply below_drew))⟩⟩
     ·have hltz:¬ (a:Int) < (T.length:Int):=by omega
      have hr:=HR.out
      rw [show T.length - a=0 by omega,jA] at hr
      injection hr with hr
      subst hr
      have HXr:=zz31 (zz11 HXe.out ((zz0 (Below.refl _ _) qd).trans HBr.out))
      have HYr:=zz31 (zz11 HYe.out ((zz0 (Below.refl _ _) qd).trans HBr.out))
      have HZr:=zz31 (zz11 HZe.out ((zz0 (Below.refl _ _) qd).trans HBr.out))
      have HBw:Aside0 (Below w.heap.size w wr):=⟨(zz0 HBe.out qd).trans (HBr.out.mono (zz0 HBe.out qd).size)⟩
      have f1:=zz9 HXr.out 0
      have f2:=zz9 HXr.out 1
      have q1:=zz9 HYr.out 0
      have q2:=zz9 HYr.out 1
      simp only [List.getElem?_toArray,List.getElem?_cons_zero,List.getElem?_cons_succ] at f1 f2 q1 q2
      go_wp2_with (first | (go_at_call 53; (with_reducible refine (spec_paTable.calls k a1_0 A1_1 c1_1 l1_1 T2 wr (Kd.C_below HD.out HBw.out) HDD.out HT2.out).mono ?_); rintro e wh ⟨vh, rfl, ho, hb⟩; obtain ⟨Ah, ch, rfl⟩ := Kd.S_slice ho; have HUh := zz31 (Kd.S_mono (ok' := fun k => wr.heap.size ≤ k) (Kd.S_bound ho) (fun k hk => hk.2.1)); have HSh := zz31 (Kd.S_below (Kd.S_mono (ok' := fun k => k < wr.heap.size) (Kd.S_bound HS.out) (fun k hk => hk.2.2.1)) hb); have HBh := zz31 (zz4 HBr.out hb); have HXh := zz31 (zz11 HXr.out hb); clear ho hb f1 f2 q1 q2) | (fail "no arm"))
      clear HS HTS HXr HYr HZr
      have HBr0:=HBr
      clear HBr
      obtain ⟨wo,hwo⟩:∃ wo:World,wo=wr:=⟨_,rfl⟩
      subst hwo
      go_loopg [58] T2.length (fun gg v58 wr=>∃ (a:Nat) (X:List (List Bool)),a≤T2.length∧T2.length - a≤gg∧v58=.int .i64 a∧Aside0 (jB n T2 (T2.length - a) a X=some O2)∧Aside0 (X.length=O.length)∧Aside0 (Kd.S (Kd.slice 4 Kd.bool) 92 wr (we.drewN qd).heap.size (fun k=>k < wo.heap.size) (.slice Af O.length cf) X)∧Aside0 (Kd.S (Kd.slice 4 Kd.bool) 92 wr wo.heap.size (fun k=>wo.heap.size≤k) (.slice Ah T2.length ch) T2)∧Aside0 (Below (we.drewN qd).heap.size (we.drewN qd) wr))
      case atStart=>exact ⟨0,_,Nat.zero_le _,Nat.le_refl _,rfl,HA2,HL,HSh,HUh,HBh⟩
      case round =>
       clear HL HSh HUh HBh HA1 HTg HSg HDg hlt hltz
       obtain ⟨a,X,hal,hag,rfl,HR,HL,HS,HTS,HBr⟩:=hrel
       have hT2:=HSZ.out.1.2
       have HXr:=zz31 (zz11 HXe.out ((zz0 (Below.refl _ _) qd).trans HBr.out))
       by_cases hlt:a < T2.length
       ·have hltz:(a:Int) < (T2.length:Int):=by omega
        obtain ⟨dd,hd⟩:∃ dd,T2.length - a=dd+1:=⟨T2.length - a - 1,by omega⟩
        have hd2:T2.length - (a+1)=dd:=by omega
        have hr:=HR.out
        rw [hd,jB] at hr
        by_cases hc:n+a < X.length∧n < (rd_L4 X ((n+a:Nat):Int)).length
        case neg=>rw [if_neg hc] at hr;exact absurd hr (by simp)
        rw [if_pos hc] at hr
        have HR2:=zz31 hr
        clear hr
        obtain ⟨adT,AT,cT,eT,hxT,hlT,hiT⟩:=at_L4 (Kd.S_reads' HTS.out).2.2 (a:Int) (by omega) (by omega)
        subst eT
        obtain ⟨adO,vO,okO,eO,hxO,hRO,hokO,hbk⟩:=S_row HS.out ((n+a:Nat):Int) (by omega) (by omega)
        subst eO
        obtain ⟨gO,cO,eV,gbO,glO,clO⟩:=Kd.R_form hRO (by omega)
        subst eV
        rw [Int.toNat_natCast] at hxT hxO
        obtain ⟨nT,hnT⟩:∃ nT,nT=(rd_L4 T2 (a:Int)).length:=⟨_,rfl⟩
        obtain ⟨nO,hnO⟩:∃ nO,nO=(rd_L4 X ((n+a:Nat):Int)).length:=⟨_,rfl⟩
        have hw63:=hc.2
        rw [← hnT] at hxT hiT
        rw [← hnO] at hxO hRO hbk hw63
        have hlc:=(Kd.R_reads' hRO).2.1
        have HgO:=zz31 (show gO < wo.heap.size from hokO gO (hRO.1 gO rfl))
        have HRO:=zz31 hRO
        have HBK:=zz31 (@hbk)
        have HiT:=zz31 hiT
        have q1:(n:Int)+(a:Int) < (O.length:Int):=by have:=HL.out;have:=hc.1;omega
        have q2:(0:Int)≤(n:Int)+(a:Int):=by omega
        have q3:IntKind.i64.wrap ((n:Int)+(a:Int))=(n:Int)+(a:Int):=by rw [IntKind.wrap_i64];omega
        have q4:((n:Int)+(a:Int)).toNat=n+a:=by omega
        have d1:(0:Int)≤(n:Int):=by omega
        have d2:(n:Int)≤(nO:Int):=by omega
        have d3:(nO:Int)≤(cO:Int):=by omega
        have d4:(n:Int)≤(cO:Int):=by omega
        have hkn:(cO=n)=False:=eq_false (by omega)
        have HNT:=zz31 hnT
        have HNO:=zz31 hnO
        have HBs:=zz31 HBr.out.size
        have HKT:=zz31 (show ∀ k,wo.heap.size≤k→some k ≠ some gO from fun k hk he=>by
         injection he with he2
         have:=HgO.out
         omega)
        have HW6:=zz31 hw63
        have HGB:=zz31 gbO
        clear hRO hbk hiT hokO gbO glO clO hlT hnT hnO hc hlc hw63
        have f1:=zz9 HXr.out 0
        have f2:=zz9 HXr.out 1
        simp only [List.getElem?_toArray,List.getElem?_cons_zero,List.getElem?_cons_succ] at f1 f2
        go_upto_region 12 with (fail)
        go_still_tail 11,(by kernel_rfl)
        change wpList _ _ _ _ _ wr.drew
        refine wpList_copy_bool rfl (.tmp 72) (.tmp 73) 92 4 rfl Try.underlying92 (by kernel_rfl) gO n cO (cO - n) (rd_L4 X ((n+a:Nat):Int)) (rd_L4 T2 (a:Int)) AT nO nT cT HNO.out HNT.out rfl rfl (by rw [← HNO.out];exact HW6.out) (zz14 HRO.out) (zz20 HiT.out) ?_
        intro w1 hr1 hg1
        have hg2:wr.grownBy w1 (some gO):=⟨hg1.os,hg1.tape,hg1.output,hg1.size,hg1.block⟩
        have HS1:Aside0 (Kd.S (Kd.slice 4 Kd.bool) 92 w1 (we.drewN qd).heap.size (fun k=>k < wo.heap.size) (.slice (some adO) O.length cf) (X.set (n+a) ((rd_L4 X ((n+a:Nat):Int)).take n ++ cpyB ((rd_L4 X ((n+a:Nat):Int)).drop n) (rd_L4 T2 (a:Int))))):=⟨by
         have h1:=HBK.out hg2 hr1
         rw [Int.toNat_natCast] at h1
         exact h1⟩
        have HT1:=zz31 (Kd.S_step HTS.out (fun k hk hlt=>hg2.block k hlt (HKT.out k hk)))
        have HB1:=zz31 (HBr.out.grown hg2 HBs.out (fun k hk=>by injection hk with hk;subst hk;exact HGB.out))
        clear hr1 hg1 hg2 HBK HKT HRO hxT hxO f1 f2
        go_wp2
        go_roundg (T2.length - (a+1))
        case measure=>omega
        case rel=>exact ⟨a+1,_,by omega,by omega,by go_num,⟨by rw [hd2];exact HR2.out⟩,⟨by rw [List.length_set];exact HL.out⟩,⟨(by (with_reducible repeat (first | apply zz16 | apply zz17));exact HS1.out)⟩,⟨(by (with_reducible repeat (first | apply zz16 | apply zz17));exact HT1.out)⟩,⟨(by repeat (first | exact HB1.out | apply zz0 | apply below_drew))⟩⟩
       ·have hltz:¬ (a:Int) < (T2.length:Int):=by omega
        have hr:=HR.out
        rw [show T2.length - a=0 by omega,jB] at hr
        injection hr with hr
        subst hr
        go_wp2
        have HS0:=zz31 (Kd.S_mono (ok':=fun _=>True) HS.out (fun _ _=>trivial))
        go_loopg [13] n (fun gg v13 wr=>∃ (a:Nat) (Y:List (List Bool)),a≤n∧n - a≤gg∧v13=.int .i64 a∧Aside0 (jC a2 n (n - a) a Y=some O3)∧Aside0 (Y.length=O.length)∧Aside0 (Kd.S (Kd.slice 4 Kd.bool) 92 wr (we.drewN qd).heap.size (fun _=>True) (.slice Af O.length cf) Y)∧Aside0 (Below (we.drewN qd).heap.size (we.drewN qd) wr))
        case atStart=>exact ⟨0,X,Nat.zero_le _,Nat.le_refl _,rfl,HA3,HL,⟨(by (with_reducible repeat (first | apply zz16 | apply zz17));exact HS0.out)⟩,⟨(by repeat (first | exact HBr.out | apply zz0 | apply below_drew))⟩⟩
        case round =>
         clear HA3 HA2 HL HS0 HS HTS HBr HXr hlt hltz
         obtain ⟨a,Y,hal,hag,rfl,HR,HL,HS,HBr⟩:=hrel
         have hO1:=HSZ.out.2
         have HXr:=zz31 (zz11 HXe.out ((zz0 (Below.refl _ _) qd).trans HBr.out))
         have f1:=zz9 HXr.out 0
         have f2:=zz9 HXr.out 1
         simp only [List.getElem?_toArray,List.getElem?_cons_zero,List.getElem?_cons_succ] at f1 f2
         by_cases hlt:a < n
         ·have hltz:(a:Int) < (n:Int):=by omega
          obtain ⟨dd,hd⟩:∃ dd,n - a=dd+1:=⟨n - a - 1,by omega⟩
          have hd2:n - (a+1)=dd:=by omega
          have hr:=HR.out
          rw [hd,jC] at hr
          obtain ⟨Y1,hr1,hr0⟩:=zz30.1 hr
          rw [HL.out] at hr1
          have HR1:=zz31 hr1
          have HR0:=zz31 hr0
          clear hr hr1 hr0
          go_wp2
          go_loopg [14] O.length (fun gg v14 wr=>∃ (b:Nat) (Z:List (List Bool)),n≤b∧(b≤O.length ∨ b=n)∧O.length - b≤gg∧v14=.int .i64 b∧Aside0 (jD a2 a (O.length - b) b Z=some Y1)∧Aside0 (Z.length=O.length)∧Aside0 (Kd.S (Kd.slice 4 Kd.bool) 92 wr (we.drewN qd).heap.size (fun _=>True) (.slice Af O.length cf) Z)∧Aside0 (Below (we.drewN qd).heap.size (we.drewN qd) wr))
          case atStart=>exact ⟨n,Y,Nat.le_refl _,.inr rfl,by omega,rfl,HR1,HL,⟨(by (with_reducible repeat (first | apply zz16 | apply zz17));exact HS.out)⟩,⟨(by repeat (first | exact HBr.out | apply zz0 | apply below_drew))⟩⟩
          case round =>
           clear f1 f2 HR1 HL HS HBr HXr
           obtain ⟨b,Z,hnb,hbl,hbg,rfl,HR,HL,HS,HBr⟩:=hrel
           by_cases hltb:b < O.length
           ·have hltbz:(b:Int) < (O.length:Int):=by omega
            obtain ⟨d2,hd3⟩:∃ d2,O.length - b=d2+1:=⟨O.length - b - 1,by omega⟩
            have hd4:O.length - (b+1)=d2:=by omega
            have hr:=HR.out
            rw [hd3,jD] at hr
            by_cases hc:a < Z.length∧b < (rd_L4 Z (a:Int)).length
            case neg=>rw [if_neg hc] at hr;exact absurd hr (by simp)
            rw [if_pos hc] at hr
            obtain ⟨Z1,hZ1⟩:∃ Z1,Z1=Z.set a ((rd_L4 Z (a:Int)).set b a2):=⟨_,rfl⟩
            rw [← hZ1] at hr
            by_cases hc2:b < Z1.length∧a < (rd_L4 Z1 (b:Int)).length
            case neg=>rw [if_neg hc2] at hr;exact absurd hr (by simp)
            rw [if_pos hc2] at hr
            have HR2:=zz31 hr
            have HZ1:=zz31 hZ1
            have HL1:=zz31 (show Z1.length=O.length from by rw [hZ1,List.length_set];exact HL.out)
            have HC2:=zz31 hc2
            have hz:=hc.2
            have hz0:=hc.1
            clear hr hZ1 hc2 hc
            obtain ⟨adO,vO,okO,eO,hxO,hRO,hokO,hbk⟩:=S_row HS.out (a:Int) (by omega) (by omega)
            subst eO
            obtain ⟨gO,cO,eV,gbO,glO,clO⟩:=Kd.R_form hRO (by omega)
            subst eV
            obtain ⟨hcO,hfO⟩:=Kd.R_celln false hRO (b:Int) (by omega) (by omega)
            have HP:=Kd.R_putg hRO (b:Int) a2
            have HS1:Aside0 (Kd.S (Kd.slice 4 Kd.bool) 92 (wr.setCell ⟨gO,b,none⟩ (.bool a2)) (we.drewN qd).heap.size (fun _=>True) (.slice (some adO) O.length cf) Z1):=⟨by
             have h1:=hbk HP.2 HP.1
             simp only [Int.toNat_natCast] at h1
             rw [HZ1.out]
             exact h1⟩
            have HB1:Aside0 (Below (we.drewN qd).heap.size (we.drewN qd) (wr.setCell ⟨gO,b,none⟩ (.bool a2))):=⟨zz3 HBr.out gbO⟩
            simp only [Int.toNat_natCast] at hxO hcO hfO
            obtain ⟨nO,hnO⟩:∃ nO,nO=(rd_L4 Z (a:Int)).length:=⟨_,rfl⟩
            rw [← hnO] at hxO hz
            have q1:(a:Int) < (O.length:Int):=by have:=HL.out;omega
            have q2:(b:Int) < (nO:Int):=by omega
            clear hRO hbk HP hokO gbO glO clO hnO hz hz0
            go_upto_region 21 with (fail)
            generalize wr.setCell ⟨gO,b,none⟩ (.bool a2)=w2 at HS1 HB1 ⊢
            clear hxO hcO hfO q2
            obtain ⟨adP,vP,okP,eP,hxP,hRP,hokP,hbkP⟩:=S_row HS1.out (b:Int) (by omega) (by have:=HL1.out;omega)
            injection eP with eP
            subst eP
            obtain ⟨gP,cP,eVP,gbP,glP,clP⟩:=Kd.R_form hRP (by have:=HC2.out.2;omega)
            subst eVP
            obtain ⟨hcP,hfP⟩:=Kd.R_celln false hRP (a:Int) (by omega) (by have:=HC2.out.2;omega)
            have HPP:=Kd.R_putg hRP (a:Int) a2
            have HS2:Aside0 (Kd.S (Kd.slice 4 Kd.bool) 92 (w2.setCell ⟨gP,a,none⟩ (.bool a2)) (we.drewN qd).heap.size (fun _=>True) (.slice (some adO) O.length cf) (Z1.set b ((rd_L4 Z1 (b:Int)).set a a2))):=⟨by
             have h1:=hbkP HPP.2 HPP.1
             simp only [Int.toNat_natCast] at h1
             exact h1⟩
            have HB2:Aside0 (Below (we.drewN qd).heap.size (we.drewN qd) (w2.setCell ⟨gP,a,none⟩ (.bool a2))):=⟨zz3 HB1.out gbP⟩
            simp only [Int.toNat_natCast] at hxP hcP hfP
            obtain ⟨nP,hnP⟩:∃ nP,nP=(rd_L4 Z1 (b:Int)).length:=⟨_,rfl⟩
            rw [← hnP] at hxP
            have q3:(a:Int) < (nP:Int):=by have:=HC2.out.2;omega
            clear hRP hbkP HPP hokP gbP glP clP hnP
            go_wp2
            go_roundg (O.length - (b+1))
            case measure=>omega
            case rel=>exact ⟨b+1,_,by omega,by omega,by omega,by go_num,⟨by rw [hd4];exact HR2.out⟩,⟨by rw [List.length_set];exact HL1.out⟩,⟨(by (with_reducible repeat (first | apply zz16 | apply zz17));exact HS2.out)⟩,⟨(by repeat (first | exact HB2.out | apply zz0 | apply below_drew))⟩⟩
           ·have hltbz:¬ (b:Int) < (O.length:Int):=by omega
            have hr:=HR.out
            rw [show O.length - b=0 by omega,jD] at hr
            injection hr with hr
            subst hr
            go_wp2
            go_roundg (n - (a+1))
            case measure=>omega
            case rel=>exact ⟨a+1,Z,by omega,by omega,by go_num,⟨by rw [hd2];exact HR0.out⟩,HL,⟨(by (with_reducible repeat (first | apply zz16 | apply zz17));exact HS.out)⟩,⟨(by repeat (first | exact HBr.out | apply zz0 | apply below_drew))⟩⟩
         ·have hltz:¬ (a:Int) < (n:Int):=by omega
          have hr:=HR.out
          rw [show n - a=0 by omega,jC] at hr
          injection hr with hr
          subst hr
          have HZr:=zz31 (zz11 HZe.out ((zz0 (Below.refl _ _) qd).trans HBr.out))
          have HBw:Aside0 (Below w.heap.size w wr):=⟨(zz0 HBe.out qd).trans (HBr.out.mono (zz0 HBe.out qd).size)⟩
          have HCO:=zz31 (Kd.S_reads' HS.out).2.2
          have HCc:=zz31 (Kd.S_reads' HS.out).2.1
          rw [← HL.out] at HCc
          go_wp2_with (first | (go_at_call 87; rw [← HL.out]; refine (spec_paOf.calls k Af cf Y s1 s2 _ ?_ HCc.out HOF.out).mono ?_; (repeat (first | exact HCO.out | (with_reducible refine zz19 ?_ _) | (with_reducible refine zz20 ?_))); rintro e' w6 ⟨v6, rfl, ho, hb⟩; obtain ⟨A6, c6, rfl⟩ := Kd.R_slice ho; have HR6 := zz31 (Kd.R_lower ho HBw.out.size); have HB6 := zz31 (zz4 HBw.out hb); have HY6 := zz31 (zz11 HZr.out hb); clear f1 f2; have g1 := zz9 HY6.out 0; have g2 := zz9 HY6.out 1; have g3 := zz10 HY6.out 0; have g4 := zz10 HY6.out 1; simp only [List.getElem?_toArray, List.getElem?_cons_zero, List.getElem?_cons_succ] at g1 g2; clear ho hb) | (fail "no arm"))
          refine bodyPost_ret (results_ct rfl _ _ gr 30 #[.int .i64 s1,.slice A6 s2.length c6] (0,0) _ rfl (by (with_reducible repeat (first | refine zz6 ?_ _ | refine zz7 ?_));refine blk_put (cs:=#[.int .i64 s1,.slice none 0 0]) ?_ 1 _ rfl;refine blk_put (cs:=#[.int .i64 0,.slice none 0 0]) ?_ 0 _ rfl;(with_reducible repeat (first | refine zz6 ?_ _ | refine zz7 ?_));exact HY6.out) Try.underlying30 rfl (by kernel_rfl)) rfl ?_
          exact ⟨_,rfl,by (with_reducible repeat (first | apply zz13 | apply zz14));exact Kd.R_mono (Kd.R_far (p:=⟨gr,1,none⟩) (Kd.R_far (p:=⟨gr,0,none⟩) (Kd.R_types HR6.out HY6.out (by decide)) (fun _ hk=>hk.2) (.int .i64 s1)) (fun _ hk=>hk.2) (.slice A6 s2.length c6)) (fun _ hk=>trivial),by repeat first | exact HB6.out | apply zz0 | apply below_drew | refine zz3 ?_ HGR.out⟩

/-! ### impl_joined: function 62 -/
mutual
def impl_joined.j0:Nat→Bool→Bool→Int→List (S80)→Int→List (S80)→Option (Int × (List (S80)) × Bool)
 | 0,_,_,_,_,_,_=>none
 | k+1,x2,x30,x385000,x385001,x386000,x386001=>if x30=true then (some (0,([]:List (S80)),false)) else (if 0≤(wrap64 (x385000+x386000)) then (if (wrap64 (x385000+x386000):Int).toNat≤140737488355328 then (impl_joined.l0 k x2 (List.replicate (wrap64 (x385000+x386000):Int).toNat 0) x385001 (x385001.length:Int) 0 x385000 x385001 x386000 x386001) else (none)) else (none))
def impl_joined.l0:Nat→Bool→List Int→List (S80)→Int→Int→Int→List (S80)→Int→List (S80)→Option (Int × (List (S80)) × Bool)
 | 0,_,_,_,_,_,_,_,_,_=>none
 | k+1,x2,x8,x39,x40,x41,x385000,x385001,x386000,x386001=>if x41 < x40 then (if 0≤x41 then (if x41 < (x39.length:Int) then ((impl_table_put.f x8 ((rd_T80 x39 x41).f0) ((rd_T80 x39 x41).f1)).bind fun t394=>(impl_joined.l0 k x2 t394 x39 x40 (wrap64 (x41+1)) x385000 x385001 x386000 x386001)) else (none)) else (none)) else (impl_joined.l1 k x2 x8 x386001 (x386001.length:Int) 0 x385000 x385001 x386000 x386001)
def impl_joined.l1:Nat→Bool→List Int→List (S80)→Int→Int→Int→List (S80)→Int→List (S80)→Option (Int × (List (S80)) × Bool)
 | 0,_,_,_,_,_,_,_,_,_=>none
 | k+1,x2,x8,x53,x54,x55,x385000,x385001,x386000,x386001=>if x55 < x54 then (if 0≤x55 then (if x55 < (x53.length:Int) then ((impl_table_put.f x8 (wrap64 (((rd_T80 x53 x55).f0)+x385000)) (wrap64 (((rd_T80 x53 x55).f1)+x385000))).bind fun t397=>(impl_joined.l1 k x2 t397 x53 x54 (wrap64 (x55+1)) x385000 x385001 x386000 x386001)) else (none)) else (none)) else (if x2=true then (impl_joined.l2 k x8 x385000 0 x385000 x385001 x386000 x386001) else ((impl_table_party.f k x8).bind fun bt403=>(some (bt403.1,bt403.2,true))))
def impl_joined.l2:Nat→List Int→Int→Int→Int→List (S80)→Int→List (S80)→Option (Int × (List (S80)) × Bool)
 | 0,_,_,_,_,_,_,_=>none
 | k+1,x8,x74,x75,x385000,x385001,x386000,x386001=>if x75 < x74 then (impl_joined.l3 k x8 x75 x74 x75 x386000 0 x385000 x385001 x386000 x386001) else ((impl_table_party.f k x8).bind fun bt398=>(some (bt398.1,bt398.2,true)))
def impl_joined.l3:Nat→List Int→Int→Int→Int→Int→Int→Int→List (S80)→Int→List (S80)→Option (Int × (List (S80)) × Bool)
 | 0,_,_,_,_,_,_,_,_,_,_=>none
 | k+1,x8,x13,x74,x75,x79,x80,x385000,x385001,x386000,x386001=>if x80 < x79 then ((impl_table_put.f x8 x13 (wrap64 (x80+x385000))).bind fun t402=>(impl_joined.l3 k t402 x13 x74 x75 x79 (wrap64 (x80+1)) x385000 x385001 x386000 x386001)) else (impl_joined.l2 k x8 x74 (wrap64 (x75+1)) x385000 x385001 x386000 x386001)
end
def impl_joined.f (k:Nat) (a0_0:Int) (l0_1:List (S80)) (a1_0:Int) (l1_1:List (S80)) (a2:Bool):Option (Int × (List (S80)) × Bool):=(impl_IsParty.f k a0_0 l0_1).bind fun t387=>(if t387=true then ((impl_IsParty.f k a1_0 l1_1).bind fun t388=>(if t388=true then (impl_joined.j0 k a2 (decide ((wrap64 (a0_0+a1_0)) > 12)) a0_0 l0_1 a1_0 l1_1) else (impl_joined.j0 k a2 true a0_0 l0_1 a1_0 l1_1))) else (impl_joined.j0 k a2 true a0_0 l0_1 a1_0 l1_1))
theorem impl_joined.mono_l:∀ k,(∀ y0 y1 y2 y3 y4 y5,LeO (impl_joined.j0 k y0 y1 y2 y3 y4 y5) (impl_joined.j0 (k+1) y0 y1 y2 y3 y4 y5))∧(∀ y0 y1 y2 y3 y4 y5 y6 y7 y8,LeO (impl_joined.l0 k y0 y1 y2 y3 y4 y5 y6 y7 y8) (impl_joined.l0 (k+1) y0 y1 y2 y3 y4 y5 y6 y7 y8))∧(∀ y0 y1 y2 y3 y4 y5 y6 y7 y8,LeO (impl_joined.l1 k y0 y1 y2 y3 y4 y5 y6 y7 y8) (impl_joined.l1 (k+1) y0 y1 y2 y3 y4 y5 y6 y7 y8))∧(∀ y0 y1 y2 y3 y4 y5 y6,LeO (impl_joined.l2 k y0 y1 y2 y3 y4 y5 y6) (impl_joined.l2 (k+1) y0 y1 y2 y3 y4 y5 y6))∧(∀ y0 y1 y2 y3 y4 y5 y6 y7 y8 y9,LeO (impl_joined.l3 k y0 y1 y2 y3 y4 y5 y6 y7 y8 y9) (impl_joined.l3 (k+1) y0 y1 y2 y3 y4 y5 y6 y7 y8 y9))
 | 0=>⟨fun _ _ _ _ _ _ r h=>by simp [impl_joined.j0] at h,fun _ _ _ _ _ _ _ _ _ r h=>by simp [impl_joined.l0] at h,fun _ _ _ _ _ _ _ _ _ r h=>by simp [impl_joined.l1] at h,fun _ _ _ _ _ _ _ r h=>by simp [impl_joined.l2] at h,fun _ _ _ _ _ _ _ _ _ _ r h=>by simp [impl_joined.l3] at h⟩
 | k+1=>by
  obtain ⟨ih0,ih1,ih2,ih3,ih4⟩:=impl_joined.mono_l k
  refine ⟨?_,?_,?_,?_,?_⟩
  ·intro y0 y1 y2 y3 y4 y5
   unfold impl_joined.j0
   repeat' first
   | (with_reducible exact ih0 _ _ _ _ _ _)
   | (with_reducible exact ih1 _ _ _ _ _ _ _ _ _)
   | (with_reducible exact ih2 _ _ _ _ _ _ _ _ _)
   | (with_reducible exact ih3 _ _ _ _ _ _ _)
   | (with_reducible exact ih4 _ _ _ _ _ _ _ _ _ _)
   | (with_reducible exact impl_IsParty.mono _ _ _)
   | (with_reducible exact impl_table_party.mono _ _)
   | (with_reducible exact LeO.refl _)
   | (with_reducible exact LeO.none _)
   | (with_reducible refine LeO.ite ?_ ?_)
   | (with_reducible refine LeO.bind ?_ (fun _=>?_))
   | exact ih0 _ _ _ _ _ _
   | exact ih1 _ _ _ _ _ _ _ _ _
   | exact ih2 _ _ _ _ _ _ _ _ _
   | exact ih3 _ _ _ _ _ _ _
   | exact ih4 _ _ _ _ _ _ _ _ _ _
   | exact impl_IsParty.mono _ _ _
   | exact impl_table_party.mono _ _
   | exact LeO.none _
   | refine LeO.ite ?_ ?_
   | refine LeO.bind ?_ (fun _=>?_)
  ·intro y0 y1 y2 y3 y4 y5 y6 y7 y8
   unfold impl_joined.l0
   repeat' first
   | (with_reducible exact ih0 _ _ _ _ _ _)
   | (with_reducible exact ih1 _ _ _ _ _ _ _ _ _)
   | (with_reducible exact ih2 _ _ _ _ _ _ _ _ _)
   | (with_reducible exact ih3 _ _ _ _ _ _ _)
   | (with_reducible exact ih4 _ _ _ _ _ _ _ _ _ _)
   | (with_reducible exact impl_IsParty.mono _ _ _)
   | (with_reducible exact impl_table_party.mono _ _)
   | (with_reducible exact LeO.refl _)
   | (with_reducible exact LeO.none _)
   | (with_reducible refine LeO.ite ?_ ?_)
   | (with_reducible refine LeO.bind ?_ (fun _=>?_))
   | exact ih0 _ _ _ _ _ _
   | exact ih1 _ _ _ _ _ _ _ _ _
   | exact ih2 _ _ _ _ _ _ _ _ _
   | exact ih3 _ _ _ _ _ _ _
   | exact ih4 _ _ _ _ _ _ _ _ _ _
   | exact impl_IsParty.mono _ _ _
   | exact impl_table_party.mono _ _
   | exact LeO.none _
   | refine LeO.ite ?_ ?_
   | refine LeO.bind ?_ (fun _=>?_)
  ·intro y0 y1 y2 y3 y4 y5 y6 y7 y8
   unfold impl_joined.l1
   repeat' first
   | (with_reducible exact ih0 _ _ _ _ _ _)
   | (with_reducible exact ih1 _ _ _ _ _ _ _ _ _)
   | (with_reducible exact ih2 _ _ _ _ _ _ _ _ _)
   | (with_reducible exact ih3 _ _ _ _ _ _ _)
   | (with_reducible exact ih4 _ _ _ _ _ _ _ _ _ _)
   | (with_reducible exact impl_IsParty.mono _ _ _)
   | (with_reducible exact impl_table_party.mono _ _)
   | (with_reducible exact LeO.refl _)
   | (with_reducible exact LeO.none _)
   | (with_reducible refine LeO.ite ?_ ?_)
   | (with_reducible refine LeO.bind ?_ (fun _=>?_))
   | exact ih0 _ _ _ _ _ _
   | exact ih1 _ _ _ _ _ _ _ _ _
   | exact ih2 _ _ _ _ _ _ _ _ _
   | exact ih3 _ _ _ _ _ _ _
   | exact ih4 _ _ _ _ _ _ _ _ _ _
   | exact impl_IsParty.mono _ _ _
   | exact impl_table_party.mono _ _
   | exact LeO.none _
   | refine LeO.ite ?_ ?_
   | refine LeO.bind ?_ (fun _=>?_)
  ·intro y0 y1 y2 y3 y4 y5 y6
   unfold impl_joined.l2
   repeat' first
   | (with_reducible exact ih0 _ _ _ _ _ _)
   | (with_reducible exact ih1 _ _ _ _ _ _ _ _ _)
   | (with_reducible exact ih2 _ _ _ _ _ _ _ _ _)
   | (with_reducible exact ih3 _ _ _ _ _ _ _)
   | (with_reducible exact ih4 _ _ _ _ _ _ _ _ _ _)
   | (with_reducible exact impl_IsParty.mono _ _ _)
   | (with_reducible exact impl_table_party.mono _ _)
   | (with_reducible exact LeO.refl _)
   | (with_reducible exact LeO.none _)
   | (with_reducible refine LeO.ite ?_ ?_)
   | (with_reducible refine LeO.bind ?_ (fun _=>?_))
   | exact ih0 _ _ _ _ _ _
   | exact ih1 _ _ _ _ _ _ _ _ _
   | exact ih2 _ _ _ _ _ _ _ _ _
   | exact ih3 _ _ _ _ _ _ _
   | exact ih4 _ _ _ _ _ _ _ _ _ _
   | exact impl_IsParty.mono _ _ _
   | exact impl_table_party.mono _ _
   | exact LeO.none _
   | refine LeO.ite ?_ ?_
   | refine LeO.bind ?_ (fun _=>?_)
  ·intro y0 y1 y2 y3 y4 y5 y6 y7 y8 y9
   unfold impl_joined.l3
   repeat' first
   | (with_reducible exact ih0 _ _ _ _ _ _)
   | (with_reducible exact ih1 _ _ _ _ _ _ _ _ _)
   | (with_reducible exact ih2 _ _ _ _ _ _ _ _ _)
   | (with_reducible exact ih3 _ _ _ _ _ _ _)
   | (with_reducible exact ih4 _ _ _ _ _ _ _ _ _ _)
   | (with_reducible exact impl_IsParty.mono _ _ _)
   | (with_reducible exact impl_table_party.mono _ _)
   | (with_reducible exact LeO.refl _)
   | (with_reducible exact LeO.none _)
   | (with_reducible refine LeO.ite ?_ ?_)
   | (with_reducible refine LeO.bind ?_ (fun _=>?_))
   | exact ih0 _ _ _ _ _ _
   | exact ih1 _ _ _ _ _ _ _ _ _
   | exact ih2 _ _ _ _ _ _ _ _ _
   | exact ih3 _ _ _ _ _ _ _
   | exact ih4 _ _ _ _ _ _ _ _ _ _
   | exact impl_IsParty.mono _ _ _
   | exact impl_table_party.mono _ _
   | exact LeO.none _
   | refine LeO.ite ?_ ?_
   | refine LeO.bind ?_ (fun _=>?_)
theorem impl_joined.mono:∀ a0 a1 a2 a3 a4 k,LeO (impl_joined.f k a0 a1 a2 a3 a4) (impl_joined.f (k+1) a0 a1 a2 a3 a4):=by
 intro a0 a1 a2 a3 a4 k
 obtain ⟨ih0,ih1,ih2,ih3,ih4⟩:=impl_joined.mono_l k
 unfold impl_joined.f
 repeat' first
   | (with_reducible exact ih0 _ _ _ _ _ _)
   | (with_reducible exact ih1 _ _ _ _ _ _ _ _ _)
   | (with_reducible exact ih2 _ _ _ _ _ _ _ _ _)
   | (with_reducible exact ih3 _ _ _ _ _ _ _)
   | (with_reducible exact ih4 _ _ _ _ _ _ _ _ _ _)
   | (with_reducible exact impl_IsParty.mono _ _ _)
   | (with_reducible exact impl_table_party.mono _ _)
   | (with_reducible exact LeO.refl _)
   | (with_reducible exact LeO.none _)
   | (with_reducible refine LeO.ite ?_ ?_)
   | (with_reducible refine LeO.bind ?_ (fun _=>?_))
   | exact ih0 _ _ _ _ _ _
   | exact ih1 _ _ _ _ _ _ _ _ _
   | exact ih2 _ _ _ _ _ _ _ _ _
   | exact ih3 _ _ _ _ _ _ _
   | exact ih4 _ _ _ _ _ _ _ _ _ _
   | exact impl_IsParty.mono _ _ _
   | exact impl_table_party.mono _ _
   | exact LeO.none _
   | refine LeO.ite ?_ ?_
   | refine LeO.bind ?_ (fun _=>?_)
set_option maxHeartbeats 8000000 in
set_option maxRecDepth 100000 in
theorem impl_joined.calls (k:Nat) (a0_0:Int) (A0_1:Option Addr) (c0_1:Nat) (l0_1:List (S80)) (a1_0:Int) (A1_1:Option Addr) (c1_1:Nat) (l1_1:List (S80)) (a2:Bool) (r1:Int) (r2:List (S80)) (r3:Bool) (w:World) (hr0_1:Kd.C k80 w A0_1 l0_1.length l0_1) (hc0_1:l0_1.length≤c0_1) (hr1_1:Kd.C k80 w A1_1 l1_1.length l1_1) (hc1_1:l1_1.length≤c1_1) (h:impl_joined.f k a0_0 l0_1 a1_0 l1_1 a2=some (r1,r2,r3)) :
  Calls Try.prog 62 #[.agg #[.int .i64 a0_0,.slice A0_1 l0_1.length c0_1],.agg #[.int .i64 a1_0,.slice A1_1 l1_1.length c1_1],.bool a2] w fun e w'=>∃ v1_:Value,e=.returned (.tuple #[.agg #[.int .i64 r1,v1_],.bool r3])∧Kd.R k80 80 w' w.heap.size (fun _=>True) v1_ r2∧Below w.heap.size w w':=by
 have hu30:=Try.underlying30
 have hu80:=Try.underlying80
 have HR0_1:=zz31 hr0_1
 have HC0_1:=zz31 hc0_1
 clear hr0_1 hc0_1
 have HR1_1:=zz31 hr1_1
 have HC1_1:=zz31 hc1_1
 clear hr1_1 hc1_1
 have HB:=zz31 (Below.refl w.heap.size w)
 have H:((impl_IsParty.f k a0_0 l0_1).bind fun t387=>(if t387=true then ((impl_IsParty.f k a1_0 l1_1).bind fun t388=>(if t388=true then (impl_joined.j0 k a2 (decide ((wrap64 (a0_0+a1_0)) > 12)) a0_0 l0_1 a1_0 l1_1) else (impl_joined.j0 k a2 true a0_0 l0_1 a1_0 l1_1))) else (impl_joined.j0 k a2 true a0_0 l0_1 a1_0 l1_1)))=some (r1,r2,r3):=h
 clear h
 have HC4:=zz31 H
 clear H
 go_enter Try.func62,Try.ntmps62
 go_upto_region 1 with (first | ((with_reducible refine gate_dst (N:=3) rfl ?_);refine box_event ?hg (N:=3) ?hd (cs:=#[.int .i64 a0_0,.slice A0_1 l0_1.length c0_1]) (t:=30) ?hr ?_;(case hd=>rfl);(case hg=>rfl);(case hr=>first | (go_simp;done) | (go_simp;rfl));intro gb384 hg w5 hbox hb;have n0_:=zz31 (zz4 (by repeat first | exact HB.out | apply zz2 | apply zz0 | apply zz1) hb);have n1_:=zz31 (hbox);have n2_:=zz31 ((by rw [hg];exact (zz5 (by repeat first | exact HB.out | apply zz2 | apply zz0 | apply zz1)):w.heap.size≤gb384));have n3_:=zz31 ((by rw [hg];exact (zz5 (by repeat first | exact HB.out | apply zz2 | apply zz0 | apply zz1)):w.heap.size≤gb384));clear HB;have HB:=n0_;have BK384:=n1_;have GW384:=n2_;have GE384:=n3_;clear n0_ n1_ n2_ n3_;clear hb hbox hg) | ((with_reducible refine gate_dst (N:=4) rfl ?_);refine box_event ?hg (N:=4) ?hd (cs:=#[.int .i64 a1_0,.slice A1_1 l1_1.length c1_1]) (t:=30) ?hr ?_;(case hd=>rfl);(case hg=>rfl);(case hr=>first | (go_simp;done) | (go_simp;rfl));intro gb385 hg w6 hbox hb;have n0_:=zz31 (zz11 (g:=gb384) (o:=.cells #[.int .i64 a0_0,.slice A0_1 l0_1.length c0_1] 30 (0,0)) (by (with_reducible repeat (first | refine zz6 ?_ _ | refine zz7 ?_ | refine zz8 ?_ _));exact BK384.out) hb);have n1_:=zz31 (zz4 (by repeat first | exact HB.out | apply zz2 | apply zz0 | apply zz1 | refine zz3 ?_ GE384.out) hb);have n2_:=zz31 (hbox);have n3_:=zz31 ((by rw [hg];exact (zz5 (by repeat first | exact HB.out | apply zz2 | apply zz0 | apply zz1 | refine zz3 ?_ GE384.out)):w.heap.size≤gb385));have n4_:=zz31 ((by rw [hg];exact (zz5 (by repeat first | exact HB.out | apply zz2 | apply zz0 | apply zz1 | refine zz3 ?_ GE384.out)):w.heap.size≤gb385));have n5_:=zz31 ((by rw [hg];exact Nat.ne_of_lt (blk_lt (g:=gb384) (o:=.cells #[.int .i64 a0_0,.slice A0_1 l0_1.length c0_1] 30 (0,0)) (by (with_reducible repeat (first | refine zz6 ?_ _ | refine zz7 ?_ | refine zz8 ?_ _));exact BK384.out)):gb384 ≠ gb385));have n6_:=zz31 ((by rw [hg];exact Nat.ne_of_gt (blk_lt (g:=gb384) (o:=.cells #[.int .i64 a0_0,.slice A0_1 l0_1.length c0_1] 30 (0,0)) (by (with_reducible repeat (first | refine zz6 ?_ _ | refine zz7 ?_ | refine zz8 ?_ _));exact BK384.out)):gb385 ≠ gb384));clear BK384;clear HB;have BK384:=n0_;have HB:=n1_;have BK385:=n2_;have GW385:=n3_;have GE385:=n4_;have NB384_385:=n5_;have NB385_384:=n6_;clear n0_ n1_ n2_ n3_ n4_ n5_ n6_;clear hb hbox hg) | ((with_reducible refine gate_dst (N:=6) rfl ?_);refine box_event ?hg (N:=6) ?hd (cs:=#[.int .i64 0,.slice none 0 0]) (t:=30) ?hr ?_;(case hd=>rfl);(case hg=>rfl);(case hr=>first | (go_simp;done) | (go_simp;rfl));intro gb386 hg w7 hbox hb;have n0_:=zz31 (zz11 (g:=gb384) (o:=.cells #[.int .i64 a0_0,.slice A0_1 l0_1.length c0_1] 30 (0,0)) (by (with_reducible repeat (first | refine zz6 ?_ _ | refine zz7 ?_ | refine zz8 ?_ _));exact BK384.out) hb);have n1_:=zz31 (zz11 (g:=gb385) (o:=.cells #[.int .i64 a1_0,.slice A1_1 l1_1.length c1_1] 30 (0,0)) (by (with_reducible repeat (first | refine zz6 ?_ _ | refine zz7 ?_ | refine zz8 ?_ _));exact BK385.out) hb);have n2_:=zz31 (zz4 (by repeat first | exact HB.out | apply zz2 | apply zz0 | apply zz1 | refine zz3 ?_ GE384.out | refine zz3 ?_ GE385.out) hb);have n3_:=zz31 (hbox);have n4_:=zz31 ((by rw [hg];exact (zz5 (by repeat first | exact HB.out | apply zz2 | apply zz0 | apply zz1 | refine zz3 ?_ GE384.out | refine zz3 ?_ GE385.out)):w.heap.size≤gb386));have n5_:=zz31 ((by rw [hg];exact (zz5 (by repeat first | exact HB.out | apply zz2 | apply zz0 | apply zz1 | refine zz3 ?_ GE384.out | refine zz3 ?_ GE385.out)):w.heap.size≤gb386));have n6_:=zz31 ((by rw [hg];exact Nat.ne_of_lt (blk_lt (g:=gb384) (o:=.cells #[.int .i64 a0_0,.slice A0_1 l0_1.length c0_1] 30 (0,0)) (by (with_reducible repeat (first | refine zz6 ?_ _ | refine zz7 ?_ | refine zz8 ?_ _));exact BK384.out)):gb384 ≠ gb386));have n7_:=zz31 ((by rw [hg];exact Nat.ne_of_gt (blk_lt (g:=gb384) (o:=.cells #[.int .i64 a0_0,.slice A0_1 l0_1.length c0_1] 30 (0,0)) (by (with_reducible repeat (first | refine zz6 ?_ _ | refine zz7 ?_ | refine zz8 ?_ _));exact BK384.out)):gb386 ≠ gb384));have n8_:=zz31 ((by rw [hg];exact Nat.ne_of_lt (blk_lt (g:=gb385) (o:=.cells #[.int .i64 a1_0,.slice A1_1 l1_1.length c1_1] 30 (0,0)) (by (with_reducible repeat (first | refine zz6 ?_ _ | refine zz7 ?_ | refine zz8 ?_ _));exact BK385.out)):gb385 ≠ gb386));have n9_:=zz31 ((by rw [hg];exact Nat.ne_of_gt (blk_lt (g:=gb385) (o:=.cells #[.int .i64 a1_0,.slice A1_1 l1_1.length c1_1] 30 (0,0)) (by (with_reducible repeat (first | refine zz6 ?_ _ | refine zz7 ?_ | refine zz8 ?_ _));exact BK385.out)):gb386 ≠ gb385));clear BK384;clear BK385;clear HB;have BK384:=n0_;have BK385:=n1_;have HB:=n2_;have BK386:=n3_;have GW386:=n4_;have GE386:=n5_;have NB384_386:=n6_;have NB386_384:=n7_;have NB385_386:=n8_;have NB386_385:=n9_;clear n0_ n1_ n2_ n3_ n4_ n5_ n6_ n7_ n8_ n9_;clear hb hbox hg))
 (try simp only [Act.put,zz21,zz22,zz23])
 go_cut [30] (fun v30 wc=>∃ (kq:Nat) (x30_3:Bool),v30=.bool x30_3∧Aside0 (impl_joined.j0 kq a2 x30_3 a0_0 l0_1 a1_0 l1_1=some (r1,r2,r3))∧Aside0 (kq≤k)∧Aside0 (wc.heap[gb384]?=some (.cells #[.int .i64 a0_0,(.slice A0_1 l0_1.length c0_1)] 30 (0,0)))∧Aside0 (wc.heap[gb385]?=some (.cells #[.int .i64 a1_0,(.slice A1_1 l1_1.length c1_1)] 30 (0,0)))∧Aside0 (wc.heap[gb386]?=some (.cells #[.int .i64 0,(.slice none 0 0)] 30 (0,0)))∧Aside0 (Below w.heap.size w wc))
 case first =>
  have H:=HC4.out
  clear HC4
  replace H:=zz30.mp H
  obtain ⟨t387,A80,H⟩:=H
  replace H:(if t387=true then ((impl_IsParty.f k a1_0 l1_1).bind fun t388=>(if t388=true then (impl_joined.j0 k a2 (decide ((wrap64 (a0_0+a1_0)) > 12)) a0_0 l0_1 a1_0 l1_1) else (impl_joined.j0 k a2 true a0_0 l0_1 a1_0 l1_1))) else (impl_joined.j0 k a2 true a0_0 l0_1 a1_0 l1_1))=some (r1,r2,r3):=H
  have A8:=zz31 A80
  clear A80
  by_cases c9:t387=true
  ·subst c9
   have H1:((impl_IsParty.f k a1_0 l1_1).bind fun t388=>(if t388=true then (impl_joined.j0 k a2 (decide ((wrap64 (a0_0+a1_0)) > 12)) a0_0 l0_1 a1_0 l1_1) else (impl_joined.j0 k a2 true a0_0 l0_1 a1_0 l1_1)))=some (r1,r2,r3):=by rw [if_pos rfl] at H;exact H
   clear H
   have H:=H1
   clear H1
   replace H:=zz30.mp H
   obtain ⟨t388,A100,H⟩:=H
   replace H:(if t388=true then (impl_joined.j0 k a2 (decide ((wrap64 (a0_0+a1_0)) > 12)) a0_0 l0_1 a1_0 l1_1) else (impl_joined.j0 k a2 true a0_0 l0_1 a1_0 l1_1))=some (r1,r2,r3):=H
   have A10:=zz31 A100
   clear A100
   by_cases c11:t388=true
   ·subst c11
    have H1:(impl_joined.j0 k a2 (decide ((wrap64 (a0_0+a1_0)) > 12)) a0_0 l0_1 a1_0 l1_1)=some (r1,r2,r3):=by rw [if_pos rfl] at H;exact H
    clear H
    have H:=H1
    clear H1
    have H':=zz31 H
    clear H
    have hnb12:=NB384_385.out
    have hnc12:=NB385_384.out
    have hnb13:=NB384_386.out
    have hnc13:=NB386_384.out
    have hcz14_0:w7.cell? ⟨gb384,0,none⟩=some (.int .i64 a0_0):=(zz9 BK384.out 0).trans rfl
    have hcz14_1:w7.cell? ⟨gb384,1,none⟩=some (.slice A0_1 l0_1.length c0_1):=(zz9 BK384.out 1).trans rfl
    have hfz14_0:=zz10 BK384.out 0
    have hfz14_1:=zz10 BK384.out 1
    go_wp2_with (first | ((with_reducible refine gate_callee (f:=45) rfl ?_);refine goesL_ (some 16) rfl rfl Try.func45 (by kernel_rfl) rfl #[.agg #[.int .i64 a0_0,.slice A0_1 l0_1.length c0_1]] rfl (by (try simp only [zz26,zz27,zz28]);first | done | rfl | (simp only [zz24,zz25];rfl)) ?_;(with_reducible refine (impl_IsParty.calls k a0_0 _ _ l0_1 true _ ?side1 ?side2 A8.out).mono ?_);(case side1=>repeat (first | exact (Kd.C_below HR0_1.out HB.out) | (with_reducible refine zz18 ?_ _) | (with_reducible refine zz19 ?_ _) | (with_reducible refine zz20 ?_)));(case side2=>exact HC0_1.out);rintro e w15 ⟨rfl,hb⟩;refine ⟨_,rfl,?_⟩;have n0_:=zz31 (zz11 (g:=gb384) (o:=.cells #[.int .i64 a0_0,.slice A0_1 l0_1.length c0_1] 30 (0,0)) (by (with_reducible repeat (first | refine zz6 ?_ _ | refine zz7 ?_ | refine zz8 ?_ _));exact BK384.out) hb);have n1_:=zz31 (zz11 (g:=gb385) (o:=.cells #[.int .i64 a1_0,.slice A1_1 l1_1.length c1_1] 30 (0,0)) (by (with_reducible repeat (first | refine zz6 ?_ _ | refine zz7 ?_ | refine zz8 ?_ _));exact BK385.out) hb);have n2_:=zz31 (zz11 (g:=gb386) (o:=.cells #[.int .i64 0,.slice none 0 0] 30 (0,0)) (by (with_reducible repeat (first | refine zz6 ?_ _ | refine zz7 ?_ | refine zz8 ?_ _));exact BK386.out) hb);have n3_:=zz31 (zz4 (by repeat first | exact HB.out | apply zz2 | apply zz0 | apply zz1 | refine zz3 ?_ GE384.out | refine zz3 ?_ GE385.out | refine zz3 ?_ GE386.out) hb);clear BK384;clear BK385;clear BK386;clear HB;have BK384:=n0_;have BK385:=n1_;have BK386:=n2_;have HB:=n3_;clear n0_ n1_ n2_ n3_;(try clear hb);(try clear hb2);(try clear hk);(try clear hi);have hnb16:=NB385_386.out;have hnc16:=NB386_385.out;have hcz17_0:w15.cell? ⟨gb385,0,none⟩=some (.int .i64 a1_0):=(zz9 BK385.out 0).trans rfl;have hcz17_1:w15.cell? ⟨gb385,1,none⟩=some (.slice A1_1 l1_1.length c1_1):=(zz9 BK385.out 1).trans rfl;have hfz17_0:=zz10 BK385.out 0;have hfz17_1:=zz10 BK385.out 1) | (go_at_call 45;(with_reducible refine (impl_IsParty.calls k a1_0 _ _ l1_1 true _ ?side1 ?side2 A10.out).mono ?_);(case side1=>repeat (first | exact (Kd.C_below HR1_1.out HB.out) | (with_reducible refine zz18 ?_ _) | (with_reducible refine zz19 ?_ _) | (with_reducible refine zz20 ?_)));(case side2=>exact HC1_1.out);rintro e w18 ⟨rfl,hb⟩;have n0_:=zz31 (zz11 (g:=gb384) (o:=.cells #[.int .i64 a0_0,.slice A0_1 l0_1.length c0_1] 30 (0,0)) (by (with_reducible repeat (first | refine zz6 ?_ _ | refine zz7 ?_ | refine zz8 ?_ _));exact BK384.out) hb);have n1_:=zz31 (zz11 (g:=gb385) (o:=.cells #[.int .i64 a1_0,.slice A1_1 l1_1.length c1_1] 30 (0,0)) (by (with_reducible repeat (first | refine zz6 ?_ _ | refine zz7 ?_ | refine zz8 ?_ _));exact BK385.out) hb);have n2_:=zz31 (zz11 (g:=gb386) (o:=.cells #[.int .i64 0,.slice none 0 0] 30 (0,0)) (by (with_reducible repeat (first | refine zz6 ?_ _ | refine zz7 ?_ | refine zz8 ?_ _));exact BK386.out) hb);have n3_:=zz31 (zz4 (by repeat first | exact HB.out | apply zz2 | apply zz0 | apply zz1 | refine zz3 ?_ GE384.out | refine zz3 ?_ GE385.out | refine zz3 ?_ GE386.out) hb);clear BK384;clear BK385;clear BK386;clear HB;have BK384:=n0_;have BK385:=n1_;have BK386:=n2_;have HB:=n3_;clear n0_ n1_ n2_ n3_;(try clear hb);(try clear hb2);(try clear hk);(try clear hi);have hcz19_0:w18.cell? ⟨gb384,0,none⟩=some (.int .i64 a0_0):=(zz9 BK384.out 0).trans rfl;have hcz19_1:w18.cell? ⟨gb384,1,none⟩=some (.slice A0_1 l0_1.length c0_1):=(zz9 BK384.out 1).trans rfl;have hfz19_0:=zz10 BK384.out 0;have hfz19_1:=zz10 BK384.out 1;have hcz20_0:w18.cell? ⟨gb385,0,none⟩=some (.int .i64 a1_0):=(zz9 BK385.out 0).trans rfl;have hcz20_1:w18.cell? ⟨gb385,1,none⟩=some (.slice A1_1 l1_1.length c1_1):=(zz9 BK385.out 1).trans rfl;have hfz20_0:=zz10 BK385.out 0;have hfz20_1:=zz10 BK385.out 1))
    go_meet
    case rel=>exact ⟨_,(decide ((wrap64 (a0_0+a1_0)) > 12)),(by first | rfl | (simp;done) | (simp [*];done)),H',⟨by first | omega | exact Nat.le_refl _⟩,⟨by (with_reducible repeat (first | refine zz6 ?_ _ | refine zz7 ?_ | refine zz8 ?_ _));exact BK384.out⟩,⟨by (with_reducible repeat (first | refine zz6 ?_ _ | refine zz7 ?_ | refine zz8 ?_ _));exact BK385.out⟩,⟨by (with_reducible repeat (first | refine zz6 ?_ _ | refine zz7 ?_ | refine zz8 ?_ _));exact BK386.out⟩,⟨by repeat first | exact HB.out | apply zz2 | apply zz0 | apply zz1 | refine zz3 ?_ GE384.out | refine zz3 ?_ GE385.out | refine zz3 ?_ GE386.out⟩⟩
   ·replace c11:=Bool.eq_false_iff.mpr c11
    subst c11
    have H1:(impl_joined.j0 k a2 true a0_0 l0_1 a1_0 l1_1)=some (r1,r2,r3):=by rw [if_neg (show ¬ (false=true) by decide)] at H;exact H
    clear H
    have H:=H1
    clear H1
    have H':=zz31 H
    clear H
    have hnb21:=NB384_385.out
    have hnc21:=NB385_384.out
    have hnb22:=NB384_386.out
    have hnc22:=NB386_384.out
    have hcz23_0:w7.cell? ⟨gb384,0,none⟩=some (.int .i64 a0_0):=(zz9 BK384.out 0).trans rfl
    have hcz23_1:w7.cell? ⟨gb384,1,none⟩=some (.slice A0_1 l0_1.length c0_1):=(zz9 BK384.out 1).trans rfl
    have hfz23_0:=zz10 BK384.out 0
    have hfz23_1:=zz10 BK384.out 1
    go_wp2_with (first | ((with_reducible refine gate_callee (f:=45) rfl ?_);refine goesL_ (some 16) rfl rfl Try.func45 (by kernel_rfl) rfl #[.agg #[.int .i64 a0_0,.slice A0_1 l0_1.length c0_1]] rfl (by (try simp only [zz26,zz27,zz28]);first | done | rfl | (simp only [zz24,zz25];rfl)) ?_;(with_reducible refine (impl_IsParty.calls k a0_0 _ _ l0_1 true _ ?side1 ?side2 A8.out).mono ?_);(case side1=>repeat (first | exact (Kd.C_below HR0_1.out HB.out) | (with_reducible refine zz18 ?_ _) | (with_reducible refine zz19 ?_ _) | (with_reducible refine zz20 ?_)));(case side2=>exact HC0_1.out);rintro e w24 ⟨rfl,hb⟩;refine ⟨_,rfl,?_⟩;have n0_:=zz31 (zz11 (g:=gb384) (o:=.cells #[.int .i64 a0_0,.slice A0_1 l0_1.length c0_1] 30 (0,0)) (by (with_reducible repeat (first | refine zz6 ?_ _ | refine zz7 ?_ | refine zz8 ?_ _));exact BK384.out) hb);have n1_:=zz31 (zz11 (g:=gb385) (o:=.cells #[.int .i64 a1_0,.slice A1_1 l1_1.length c1_1] 30 (0,0)) (by (with_reducible repeat (first | refine zz6 ?_ _ | refine zz7 ?_ | refine zz8 ?_ _));exact BK385.out) hb);have n2_:=zz31 (zz11 (g:=gb386) (o:=.cells #[.int .i64 0,.slice none 0 0] 30 (0,0)) (by (with_reducible repeat (first | refine zz6 ?_ _ | refine zz7 ?_ | refine zz8 ?_ _));exact BK386.out) hb);have n3_:=zz31 (zz4 (by repeat first | exact HB.out | apply zz2 | apply zz0 | apply zz1 | refine zz3 ?_ GE384.out | refine zz3 ?_ GE385.out | refine zz3 ?_ GE386.out) hb);clear BK384;clear BK385;clear BK386;clear HB;have BK384:=n0_;have BK385:=n1_;have BK386:=n2_;have HB:=n3_;clear n0_ n1_ n2_ n3_;(try clear hb);(try clear hb2);(try clear hk);(try clear hi);have hnb25:=NB385_386.out;have hnc25:=NB386_385.out;have hcz26_0:w24.cell? ⟨gb385,0,none⟩=some (.int .i64 a1_0):=(zz9 BK385.out 0).trans rfl;have hcz26_1:w24.cell? ⟨gb385,1,none⟩=some (.slice A1_1 l1_1.length c1_1):=(zz9 BK385.out 1).trans rfl;have hfz26_0:=zz10 BK385.out 0;have hfz26_1:=zz10 BK385.out 1) | (go_at_call 45;(with_reducible refine (impl_IsParty.calls k a1_0 _ _ l1_1 false _ ?side1 ?side2 A10.out).mono ?_);(case side1=>repeat (first | exact (Kd.C_below HR1_1.out HB.out) | (with_reducible refine zz18 ?_ _) | (with_reducible refine zz19 ?_ _) | (with_reducible refine zz20 ?_)));(case side2=>exact HC1_1.out);rintro e w27 ⟨rfl,hb⟩;have n0_:=zz31 (zz11 (g:=gb384) (o:=.cells #[.int .i64 a0_0,.slice A0_1 l0_1.length c0_1] 30 (0,0)) (by (with_reducible repeat (first | refine zz6 ?_ _ | refine zz7 ?_ | refine zz8 ?_ _));exact BK384.out) hb);have n1_:=zz31 (zz11 (g:=gb385) (o:=.cells #[.int .i64 a1_0,.slice A1_1 l1_1.length c1_1] 30 (0,0)) (by (with_reducible repeat (first | refine zz6 ?_ _ | refine zz7 ?_ | refine zz8 ?_ _));exact BK385.out) hb);have n2_:=zz31 (zz11 (g:=gb386) (o:=.cells #[.int .i64 0,.slice none 0 0] 30 (0,0)) (by (with_reducible repeat (first | refine zz6 ?_ _ | refine zz7 ?_ | refine zz8 ?_ _));exact BK386.out) hb);have n3_:=zz31 (zz4 (by repeat first | exact HB.out | apply zz2 | apply zz0 | apply zz1 | refine zz3 ?_ GE384.out | refine zz3 ?_ GE385.out | refine zz3 ?_ GE386.out) hb);clear BK384;clear BK385;clear BK386;clear HB;have BK384:=n0_;have BK385:=n1_;have BK386:=n2_;have HB:=n3_;clear n0_ n1_ n2_ n3_;(try clear hb);(try clear hb2);(try clear hk);(try clear hi)))
    go_meet
    case rel=>exact ⟨_,(true),(by first | rfl | (simp;done) | (simp [*];done)),H',⟨by first | omega | exact Nat.le_refl _⟩,⟨by (with_reducible repeat (first | refine zz6 ?_ _ | refine zz7 ?_ | refine zz8 ?_ _));exact BK384.out⟩,⟨by (with_reducible repeat (first | refine zz6 ?_ _ | refine zz7 ?_ | refine zz8 ?_ _));exact BK385.out⟩,⟨by (with_reducible repeat (first | refine zz6 ?_ _ | refine zz7 ?_ | refine zz8 ?_ _));exact BK386.out⟩,⟨by repeat first | exact HB.out | apply zz2 | apply zz0 | apply zz1 | refine zz3 ?_ GE384.out | refine zz3 ?_ GE385.out | refine zz3 ?_ GE386.out⟩⟩
  ·replace c9:=Bool.eq_false_iff.mpr c9
   subst c9
   have H1:(impl_joined.j0 k a2 true a0_0 l0_1 a1_0 l1_1)=some (r1,r2,r3):=by rw [if_neg (show ¬ (false=true) by decide)] at H;exact H
   clear H
   have H:=H1
   clear H1
   have H':=zz31 H
   clear H
   have hnb28:=NB384_385.out
   have hnc28:=NB385_384.out
   have hnb29:=NB384_386.out
   have hnc29:=NB386_384.out
   have hcz30_0:w7.cell? ⟨gb384,0,none⟩=some (.int .i64 a0_0):=(zz9 BK384.out 0).trans rfl
   have hcz30_1:w7.cell? ⟨gb384,1,none⟩=some (.slice A0_1 l0_1.length c0_1):=(zz9 BK384.out 1).trans rfl
   have hfz30_0:=zz10 BK384.out 0
   have hfz30_1:=zz10 BK384.out 1
   go_wp2_with (first | ((with_reducible refine gate_callee (f:=45) rfl ?_);refine goesL_ (some 16) rfl rfl Try.func45 (by kernel_rfl) rfl #[.agg #[.int .i64 a0_0,.slice A0_1 l0_1.length c0_1]] rfl (by (try simp only [zz26,zz27,zz28]);first | done | rfl | (simp only [zz24,zz25];rfl)) ?_;(with_reducible refine (impl_IsParty.calls k a0_0 _ _ l0_1 false _ ?side1 ?side2 A8.out).mono ?_);(case side1=>repeat (first | exact (Kd.C_below HR0_1.out HB.out) | (with_reducible refine zz18 ?_ _) | (with_reducible refine zz19 ?_ _) | (with_reducible refine zz20 ?_)));(case side2=>exact HC0_1.out);rintro e w31 ⟨rfl,hb⟩;refine ⟨_,rfl,?_⟩;have n0_:=zz31 (zz11 (g:=gb384) (o:=.cells #[.int .i64 a0_0,.slice A0_1 l0_1.length c0_1] 30 (0,0)) (by (with_reducible repeat (first | refine zz6 ?_ _ | refine zz7 ?_ | refine zz8 ?_ _));exact BK384.out) hb);have n1_:=zz31 (zz11 (g:=gb385) (o:=.cells #[.int .i64 a1_0,.slice A1_1 l1_1.length c1_1] 30 (0,0)) (by (with_reducible repeat (first | refine zz6 ?_ _ | refine zz7 ?_ | refine zz8 ?_ _));exact BK385.out) hb);have n2_:=zz31 (zz11 (g:=gb386) (o:=.cells #[.int .i64 0,.slice none 0 0] 30 (0,0)) (by (with_reducible repeat (first | refine zz6 ?_ _ | refine zz7 ?_ | refine zz8 ?_ _));exact BK386.out) hb);have n3_:=zz31 (zz4 (by repeat first | exact HB.out | apply zz2 | apply zz0 | apply zz1 | refine zz3 ?_ GE384.out | refine zz3 ?_ GE385.out | refine zz3 ?_ GE386.out) hb);clear BK384;clear BK385;clear BK386;clear HB;have BK384:=n0_;have BK385:=n1_;have BK386:=n2_;have HB:=n3_;clear n0_ n1_ n2_ n3_;(try clear hb);(try clear hb2);(try clear hk);(try clear hi)))
   go_meet
   case rel=>exact ⟨_,(true),(by first | rfl | (simp;done) | (simp [*];done)),H',⟨by first | omega | exact Nat.le_refl _⟩,⟨by (with_reducible repeat (first | refine zz6 ?_ _ | refine zz7 ?_ | refine zz8 ?_ _));exact BK384.out⟩,⟨by (with_reducible repeat (first | refine zz6 ?_ _ | refine zz7 ?_ | refine zz8 ?_ _));exact BK385.out⟩,⟨by (with_reducible repeat (first | refine zz6 ?_ _ | refine zz7 ?_ | refine zz8 ?_ _));exact BK386.out⟩,⟨by repeat first | exact HB.out | apply zz2 | apply zz0 | apply zz1 | refine zz3 ?_ GE384.out | refine zz3 ?_ GE385.out | refine zz3 ?_ GE386.out⟩⟩
 case rest =>
  clear HC4
  try clear c1
  try clear c2
  try clear p2
  try clear c4
  try clear c6
  try clear p6
  try clear c9
  try clear c11
  try clear c12
  try clear c13
  try clear c16
  try clear c21
  try clear c22
  try clear c25
  try clear c28
  try clear c29
  try clear hcz14_0
  try clear hcz14_1
  try clear hcz17_0
  try clear hcz17_1
  try clear hcz19_0
  try clear hcz19_1
  try clear hcz20_0
  try clear hcz20_1
  try clear hcz23_0
  try clear hcz23_1
  try clear hcz26_0
  try clear hcz26_1
  try clear hcz30_0
  try clear hcz30_1
  try clear hfz14_0
  try clear hfz14_1
  try clear hfz17_0
  try clear hfz17_1
  try clear hfz19_0
  try clear hfz19_1
  try clear hfz20_0
  try clear hfz20_1
  try clear hfz23_0
  try clear hfz23_1
  try clear hfz26_0
  try clear hfz26_1
  try clear hfz30_0
  try clear hfz30_1
  obtain ⟨kq,x30_3,rfl,HA,HJ3,BK384,BK385,BK386,HB⟩:=hcut
  cases kq with
  | zero=>exact absurd HA.out (by simp [impl_joined.j0])
  | succ kj3 =>
   have H:=HA.out
   clear HA
   simp only [impl_joined.j0] at H
   by_cases c32:x30_3=true
   ·subst c32
    have H1:(some (0,([]:List (S80)),false))=some (r1,r2,r3):=by rw [if_pos rfl] at H;exact H
    clear H
    have H:=H1
    clear H1
    simp only [Option.some.injEq,Prod.mk.injEq] at H
    obtain ⟨rfl,rfl,rfl⟩:=H
    have hnb33:=NB386_384.out
    have hnc33:=NB384_386.out
    have hnb34:=NB386_385.out
    have hnc34:=NB385_386.out
    have hcz35_0:wc.cell? ⟨gb386,0,none⟩=some (.int .i64 0):=(zz9 BK386.out 0).trans rfl
    have hcz35_1:wc.cell? ⟨gb386,1,none⟩=some (.slice none 0 0):=(zz9 BK386.out 1).trans rfl
    have hfz35_0:=zz10 BK386.out 0
    have hfz35_1:=zz10 BK386.out 1
    go_wp2
    refine bodyPost_ret (results_ct rfl _ _ gb386 30 #[.int .i64 0,.slice none 0 0] (0,0) _ rfl (by (with_reducible repeat (first | refine zz6 ?_ _ | refine zz7 ?_ | refine zz8 ?_ _));refine blk_put (cs:=#[.int .i64 0,.slice none 0 0]) ?_ 1 _ rfl;(with_reducible repeat (first | refine zz6 ?_ _ | refine zz7 ?_ | refine zz8 ?_ _));refine blk_put (cs:=#[.int .i64 0,.slice none 0 0]) ?_ 0 _ rfl;(with_reducible repeat (first | refine zz6 ?_ _ | refine zz7 ?_ | refine zz8 ?_ _));exact BK386.out) Try.underlying30 rfl (by kernel_rfl)) rfl ?_
    exact ⟨_,by first | rfl | (simp [errW_none,errW_some] <;> rfl) | (simp [*,errW_none,errW_some] <;> rfl),by first | exact Kd.R_nil _ _ _ _ _ | exact Kd.N_nil _ _ _ _ _ | exact Kd.V_nil _ _ _ _ _ | exact Kd.Q_nil _ _ _ _ _ | exact Kd.S_nil _ _ _ _ _,by repeat first | exact HB.out | apply zz2 | apply zz0 | apply zz1 | refine zz3 ?_ GE384.out | refine zz3 ?_ GE385.out | refine zz3 ?_ GE386.out⟩
   ·replace c32:=Bool.eq_false_iff.mpr c32
    subst c32
    have H1:(if 0≤(wrap64 (a0_0+a1_0)) then (if (wrap64 (a0_0+a1_0):Int).toNat≤140737488355328 then (impl_joined.l0 kj3 a2 (List.replicate (wrap64 (a0_0+a1_0):Int).toNat 0) l0_1 (l0_1.length:Int) 0 a0_0 l0_1 a1_0 l1_1) else (none)) else (none))=some (r1,r2,r3):=by rw [if_neg (show ¬ (false=true) by decide)] at H;exact H
    clear H
    have H:=H1
    clear H1
    obtain ⟨ji36,hji36⟩:∃ j_:Int,(wrap64 (a0_0+a1_0))=j_:=⟨_,rfl⟩
    replace H:(if 0≤(ji36) then (if (ji36:Int).toNat≤140737488355328 then (impl_joined.l0 kj3 a2 (List.replicate (ji36:Int).toNat 0) l0_1 (l0_1.length:Int) 0 a0_0 l0_1 a1_0 l1_1) else (none)) else (none))=some (r1,r2,r3):=by first | (rw [hji36] at H;exact H) | (simp only [hji36] at H ⊢;exact H)
    have hji36w:(IntKind.i64.wrap (a0_0+a1_0))=ji36:=(i64_w _).trans hji36
    by_cases c37:0≤(ji36)
    ·rw [if_pos c37] at H
     have c37b0:=eq_true c37
     have c37b1:decide (0≤(ji36))=true:=decide_eq_true c37
     clear c37
     by_cases c38:(ji36:Int).toNat≤140737488355328
     ·rw [if_pos c38] at H
      have c38b0:=eq_true c38
      have c38b1:decide ((ji36:Int).toNat≤140737488355328)=true:=decide_eq_true c38
      clear c38
      obtain ⟨y389,hy389⟩:∃ y_:List Int,y_=(List.replicate (ji36:Int).toNat 0):=⟨_,rfl⟩
      replace H:(impl_joined.l0 kj3 a2 y389 l0_1 (l0_1.length:Int) 0 a0_0 l0_1 a1_0 l1_1)=some (r1,r2,r3):=by first | (rw [hy389];with_reducible exact H) | (have H2_:=(Option.bind_some _ _).symm.trans H;rw [hy389];with_reducible exact H2_) | (have H2_:=(Option.bind_some _ _).symm.trans H;with_reducible exact H2_) | with_reducible exact H | (rw [hy389];exact H) | exact H
      have Ny389:=zz31 hy389
      clear hy389
      have H':=zz31 H
      clear H
      have hnb39:=NB384_385.out
      have hnc39:=NB385_384.out
      have hnb40:=NB384_386.out
      have hnc40:=NB386_384.out
      have hcz41_0:wc.cell? ⟨gb384,0,none⟩=some (.int .i64 a0_0):=(zz9 BK384.out 0).trans rfl
      have hcz41_1:wc.cell? ⟨gb384,1,none⟩=some (.slice A0_1 l0_1.length c0_1):=(zz9 BK384.out 1).trans rfl
      have hfz41_0:=zz10 BK384.out 0
      have hfz41_1:=zz10 BK384.out 1
      have hnb42:=NB385_386.out
      have hnc42:=NB386_385.out
      have hcz43_0:wc.cell? ⟨gb385,0,none⟩=some (.int .i64 a1_0):=(zz9 BK385.out 0).trans rfl
      have hcz43_1:wc.cell? ⟨gb385,1,none⟩=some (.slice A1_1 l1_1.length c1_1):=(zz9 BK385.out 1).trans rfl
      have hfz43_0:=zz10 BK385.out 0
      have hfz43_1:=zz10 BK385.out 1
      go_wp2_with (first | ((with_reducible refine gate_dst (N:=37) rfl ?_);refine Kd.R_make (Kd.int .u16) _ 96 rfl (N:=37) rfl 60 _ _ rfl ji36 rfl rfl Try.underlying60 (.int .u16 0) 2 info96 rfl (by decide) (by omega) 0 (ok:=fun _=>True) (okp:=fun _=>True) rfl (fun _ hk=>hk) trivial (zz29 (by first | (with_reducible assumption) | assumption)) (Nat.le_trans (Nat.mul_le_mul_right _ (zz29 (by first | (with_reducible assumption) | assumption):ji36.toNat≤140737488355328)) (by omega)) (Below.refl _ _) (Nat.le_refl _) ?_;intro v390 w44 ho45 hb hg_ hnew_;clear hg_ hnew_;(first | rw [← Ny389.out] at ho45 | (simp only [Int.reduceToNat] at ho45;rw [← Ny389.out] at ho45));have n0_:=zz31 (Kd.R_lower ho45 (zz5 (by repeat first | exact HB.out | apply zz2 | apply zz0 | apply zz1 | refine zz3 ?_ GE384.out | refine zz3 ?_ GE385.out | refine zz3 ?_ GE386.out)));have n1_:=zz31 (zz11 (g:=gb384) (o:=.cells #[.int .i64 a0_0,.slice A0_1 l0_1.length c0_1] 30 (0,0)) (by (with_reducible repeat (first | refine zz6 ?_ _ | refine zz7 ?_ | refine zz8 ?_ _));exact BK384.out) hb);have n2_:=zz31 (zz11 (g:=gb385) (o:=.cells #[.int .i64 a1_0,.slice A1_1 l1_1.length c1_1] 30 (0,0)) (by (with_reducible repeat (first | refine zz6 ?_ _ | refine zz7 ?_ | refine zz8 ?_ _));exact BK385.out) hb);have n3_:=zz31 (zz11 (g:=gb386) (o:=.cells #[.int .i64 0,.slice none 0 0] 30 (0,0)) (by (with_reducible repeat (first | refine zz6 ?_ _ | refine zz7 ?_ | refine zz8 ?_ _));exact BK386.out) hb);have n4_:=zz31 (zz4 (by repeat first | exact HB.out | apply zz2 | apply zz0 | apply zz1 | refine zz3 ?_ GE384.out | refine zz3 ?_ GE385.out | refine zz3 ?_ GE386.out) hb);clear BK384;clear BK385;clear BK386;clear HB;have HO391:=n0_;have BK384:=n1_;have BK385:=n2_;have BK386:=n3_;have HB:=n4_;clear n0_ n1_ n2_ n3_ n4_;clear hb ho45;have hcz46_0:w44.cell? ⟨gb384,0,none⟩=some (.int .i64 a0_0):=(zz9 BK384.out 0).trans rfl;have hcz46_1:w44.cell? ⟨gb384,1,none⟩=some (.slice A0_1 l0_1.length c0_1):=(zz9 BK384.out 1).trans rfl;have hfz46_0:=zz10 BK384.out 0;have hfz46_1:=zz10 BK384.out 1))
      go_loopg [41] kj3 (fun kq v41 w'=>∃ (x8_2:List Int) (x41_2:Int),v41=.int .i64 x41_2∧Aside0 (impl_joined.l0 kq a2 x8_2 l0_1 (l0_1.length:Int) x41_2 a0_0 l0_1 a1_0 l1_1=some (r1,r2,r3))∧Aside0 (kq≤kj3)∧Aside0 (Kd.R (Kd.int .u16) 96 w' w.heap.size (fun _=>True) v390 x8_2)∧Aside0 (w'.heap[gb384]?=some (.cells #[.int .i64 a0_0,(.slice A0_1 l0_1.length c0_1)] 30 (0,0)))∧Aside0 (w'.heap[gb385]?=some (.cells #[.int .i64 a1_0,(.slice A1_1 l1_1.length c1_1)] 30 (0,0)))∧Aside0 (w'.heap[gb386]?=some (.cells #[.int .i64 0,(.slice none 0 0)] 30 (0,0)))∧Aside0 (Below w.heap.size w w'))
      case atStart=>exact ⟨(y389),(0),(by first | rfl | (simp;done) | (simp [*];done)),H',⟨Nat.le_refl _⟩,⟨by (with_reducible repeat (first | apply zz12 | apply zz13 | apply zz14));exact HO391.out⟩,⟨by (with_reducible repeat (first | refine zz6 ?_ _ | refine zz7 ?_ | refine zz8 ?_ _));exact BK384.out⟩,⟨by (with_reducible repeat (first | refine zz6 ?_ _ | refine zz7 ?_ | refine zz8 ?_ _));exact BK385.out⟩,⟨by (with_reducible repeat (first | refine zz6 ?_ _ | refine zz7 ?_ | refine zz8 ?_ _));exact BK386.out⟩,⟨by repeat first | exact HB.out | apply zz2 | apply zz0 | apply zz1 | refine zz3 ?_ GE384.out | refine zz3 ?_ GE385.out | refine zz3 ?_ GE386.out⟩⟩
      case round =>
       clear H'
       try clear c1
       try clear c2
       try clear p2
       try clear c3
       try clear c4
       try clear c6
       try clear p6
       try clear c9
       try clear c11
       try clear c12
       try clear c13
       try clear c16
       try clear c21
       try clear c22
       try clear c25
       try clear c28
       try clear c29
       try clear c32
       try clear c33
       try clear c34
       try clear c37
       try clear c37b0
       try clear c37b1
       try clear c38
       try clear c38b0
       try clear c38b1
       try clear c39
       try clear c40
       try clear c42
       try clear c45
       try clear hcz14_0
       try clear hcz14_1
       try clear hcz17_0
       try clear hcz17_1
       try clear hcz19_0
       try clear hcz19_1
       try clear hcz20_0
       try clear hcz20_1
       try clear hcz23_0
       try clear hcz23_1
       try clear hcz26_0
       try clear hcz26_1
       try clear hcz30_0
       try clear hcz30_1
       try clear hcz35_0
       try clear hcz35_1
       try clear hcz41_0
       try clear hcz41_1
       try clear hcz43_0
       try clear hcz43_1
       try clear hcz46_0
       try clear hcz46_1
       try clear hfz14_0
       try clear hfz14_1
       try clear hfz17_0
       try clear hfz17_1
       try clear hfz19_0
       try clear hfz19_1
       try clear hfz20_0
       try clear hfz20_1
       try clear hfz23_0
       try clear hfz23_1
       try clear hfz26_0
       try clear hfz26_1
       try clear hfz30_0
       try clear hfz30_1
       try clear hfz35_0
       try clear hfz35_1
       try clear hfz41_0
       try clear hfz41_1
       try clear hfz43_0
       try clear hfz43_1
       try clear hfz46_0
       try clear hfz46_1
       try clear p2
       try clear p6
       obtain ⟨x8_2,x41_2,rfl,HA,HK2,HO_8,BK384,BK385,BK386,HB⟩:=hrel
       cases gk with
       | zero=>exact absurd HA.out (by simp [impl_joined.l0])
       | succ k2 =>
        have H:=HA.out
        clear HA
        simp only [impl_joined.l0] at H
        by_cases c47:x41_2 < (l0_1.length:Int)
        ·rw [if_pos c47] at H
         have c47b0:decide (x41_2 < (l0_1.length:Int))=true:=decide_eq_true c47
         clear c47
         by_cases c48:0≤x41_2
         ·rw [if_pos c48] at H
          have c48b0:decide (0≤x41_2)=true:=decide_eq_true c48
          clear c48
          by_cases c49:x41_2 < (l0_1.length:Int)
          ·rw [if_pos c49] at H
           have c49b0:decide (x41_2 < (l0_1.length:Int))=true:=decide_eq_true c49
           clear c49
           replace H:=zz30.mp H
           obtain ⟨t394,A500,H⟩:=H
           replace H:(impl_joined.l0 k2 a2 t394 l0_1 (l0_1.length:Int) (wrap64 (x41_2+1)) a0_0 l0_1 a1_0 l1_1)=some (r1,r2,r3):=H
           have A50:=zz31 A500
           clear A500
           have H':=zz31 H
           clear H
           have p392:0≤(x41_2:Int):=zz29 (by first | (with_reducible assumption) | assumption)
           have q392:x41_2 < (l0_1.length:Int):=zz29 (by first | (with_reducible assumption) | assumption)
           obtain ⟨ad392,e392,hx392_0,hx392_1⟩:=at_T80 HR0_1.out x41_2 p392 q392
           cases e392
           try replace hx392_0:=(HB.out.cell (World.block_lt_of_cell? w _ hx392_0)).trans hx392_0
           try replace hx392_1:=(HB.out.cell (World.block_lt_of_cell? w _ hx392_1)).trans hx392_1
           replace p392:=eq_true p392
           replace q392:=eq_true q392
           go_wp2_with (first | ((with_reducible refine gate_dst (N:=10) rfl ?_);refine box_event ?hg (N:=10) ?hd (cs:=#[.int .i64 0,.int .i64 0]) (t:=80) ?hr ?_;(case hd=>rfl);(case hg=>rfl);(case hr=>first | (go_simp;done) | (go_simp;rfl));intro gb393 hg w51 hbox hb;have n0_:=zz31 (Kd.R_below (by (with_reducible repeat (first | apply zz12 | apply zz13 | apply zz14));exact HO_8.out) hb);have n1_:=zz31 (zz11 (g:=gb384) (o:=.cells #[.int .i64 a0_0,.slice (some ad392) l0_1.length c0_1] 30 (0,0)) (by (with_reducible repeat (first | refine zz6 ?_ _ | refine zz7 ?_ | refine zz8 ?_ _));exact BK384.out) hb);have n2_:=zz31 (zz11 (g:=gb385) (o:=.cells #[.int .i64 a1_0,.slice A1_1 l1_1.length c1_1] 30 (0,0)) (by (with_reducible repeat (first | refine zz6 ?_ _ | refine zz7 ?_ | refine zz8 ?_ _));exact BK385.out) hb);have n3_:=zz31 (zz11 (g:=gb386) (o:=.cells #[.int .i64 0,.slice none 0 0] 30 (0,0)) (by (with_reducible repeat (first | refine zz6 ?_ _ | refine zz7 ?_ | refine zz8 ?_ _));exact BK386.out) hb);have n4_:=zz31 (zz4 (by repeat first | exact HB.out | apply zz2 | apply zz0 | apply zz1 | refine zz3 ?_ GE384.out | refine zz3 ?_ GE385.out | refine zz3 ?_ GE386.out) hb);have n5_:=zz31 (hbox);have n6_:=zz31 ((by rw [hg];exact (zz5 (by repeat first | exact HB.out | apply zz2 | apply zz0 | apply zz1 | refine zz3 ?_ GE384.out | refine zz3 ?_ GE385.out | refine zz3 ?_ GE386.out)):w.heap.size≤gb393));have n7_:=zz31 ((by rw [hg];exact (zz5 (by repeat first | exact HB.out | apply zz2 | apply zz0 | apply zz1 | refine zz3 ?_ GE384.out | refine zz3 ?_ GE385.out | refine zz3 ?_ GE386.out)):w.heap.size≤gb393));have n8_:=zz31 ((by rw [hg];exact Nat.ne_of_lt (blk_lt (g:=gb384) (o:=.cells #[.int .i64 a0_0,.slice (some ad392) l0_1.length c0_1] 30 (0,0)) (by (with_reducible repeat (first | refine zz6 ?_ _ | refine zz7 ?_ | refine zz8 ?_ _));exact BK384.out)):gb384 ≠ gb393));have n9_:=zz31 ((by rw [hg];exact Nat.ne_of_gt (blk_lt (g:=gb384) (o:=.cells #[.int .i64 a0_0,.slice (some ad392) l0_1.length c0_1] 30 (0,0)) (by (with_reducible repeat (first | refine zz6 ?_ _ | refine zz7 ?_ | refine zz8 ?_ _));exact BK384.out)):gb393 ≠ gb384));have n10_:=zz31 ((by rw [hg];exact Nat.ne_of_lt (blk_lt (g:=gb385) (o:=.cells #[.int .i64 a1_0,.slice A1_1 l1_1.length c1_1] 30 (0,0)) (by (with_reducible repeat (first | refine zz6 ?_ _ | refine zz7 ?_ | refine zz8 ?_ _));exact BK385.out)):gb385 ≠ gb393));have n11_:=zz31 ((by rw [hg];exact Nat.ne_of_gt (blk_lt (g:=gb385) (o:=.cells #[.int .i64 a1_0,.slice A1_1 l1_1.length c1_1] 30 (0,0)) (by (with_reducible repeat (first | refine zz6 ?_ _ | refine zz7 ?_ | refine zz8 ?_ _));exact BK385.out)):gb393 ≠ gb385));have n12_:=zz31 ((by rw [hg];exact Nat.ne_of_lt (blk_lt (g:=gb386) (o:=.cells #[.int .i64 0,.slice none 0 0] 30 (0,0)) (by (with_reducible repeat (first | refine zz6 ?_ _ | refine zz7 ?_ | refine zz8 ?_ _));exact BK386.out)):gb386 ≠ gb393));have n13_:=zz31 ((by rw [hg];exact Nat.ne_of_gt (blk_lt (g:=gb386) (o:=.cells #[.int .i64 0,.slice none 0 0] 30 (0,0)) (by (with_reducible repeat (first | refine zz6 ?_ _ | refine zz7 ?_ | refine zz8 ?_ _));exact BK386.out)):gb393 ≠ gb386));clear HO_8;clear BK384;clear BK385;clear BK386;clear HB;have HO_8:=n0_;have BK384:=n1_;have BK385:=n2_;have BK386:=n3_;have HB:=n4_;have BK393:=n5_;have GW393:=n6_;have GE393:=n7_;have NB384_393:=n8_;have NB393_384:=n9_;have NB385_393:=n10_;have NB393_385:=n11_;have NB386_393:=n12_;have NB393_386:=n13_;clear n0_ n1_ n2_ n3_ n4_ n5_ n6_ n7_ n8_ n9_ n10_ n11_ n12_ n13_;clear hb hbox hg;have hnb52:=NB393_384.out;have hnc52:=NB384_393.out;have hnb53:=NB393_385.out;have hnc53:=NB385_393.out;have hnb54:=NB393_386.out;have hnc54:=NB386_393.out;have hcz55_0:w51.cell? ⟨gb393,0,none⟩=some (.int .i64 0):=(zz9 BK393.out 0).trans rfl;have hcz55_1:w51.cell? ⟨gb393,1,none⟩=some (.int .i64 0):=(zz9 BK393.out 1).trans rfl;have hfz55_0:=zz10 BK393.out 0;have hfz55_1:=zz10 BK393.out 1) | ((with_reducible refine gate_store (t:=80) (p:=10) rfl ?_);refine store_event (t:=80) (p:=10) (v:=?vo_w56) (w1:=((w51.setCell ⟨gb393,0,none⟩ (.int .i64 ((rd_T80 l0_1 x41_2).f0))).setCell ⟨gb393,1,none⟩ (.int .i64 ((rd_T80 l0_1 x41_2).f1)))) ?hg ?ho ?hn ?hr ?_;(case ho=>rfl);(case hg=>rfl);(case hn=>rfl);(case hr=>first | (go_simp;done) | (go_simp;rfl));intro w56 hw;have n0_:Aside0 (Kd.R (Kd.int .u16) 96 w56 w.heap.size (fun _=>True) v390 x8_2):=⟨(by rw [hw];exact (by (with_reducible repeat (first | apply zz12 | apply zz13 | apply zz14));exact Kd.R_mono (Kd.R_far (p:=⟨gb393,1,none⟩) (Kd.R_far (p:=⟨gb393,0,none⟩) (Kd.R_types HO_8.out BK393.out (by decide)) (fun _ hk=>hk.2) (.int .i64 ((rd_T80 l0_1 x41_2).f0))) (fun _ hk=>hk.2) (.int .i64 ((rd_T80 l0_1 x41_2).f1))) (fun _ hk=>trivial)))⟩;have n1_:Aside0 (w56.heap[gb384]?=some (.cells #[.int .i64 a0_0,.slice (some ad392) l0_1.length c0_1] 30 (0,0))):=⟨(by rw [hw];exact (by (with_reducible repeat (first | refine zz6 ?_ _ | refine zz7 ?_ | refine zz8 ?_ _));refine blk_far ?_ NB384_393.out _;(with_reducible repeat (first | refine zz6 ?_ _ | refine zz7 ?_ | refine zz8 ?_ _));refine blk_far ?_ NB384_393.out _;(with_reducible repeat (first | refine zz6 ?_ _ | refine zz7 ?_ | refine zz8 ?_ _));exact BK384.out))⟩;have n2_:Aside0 (w56.heap[gb385]?=some (.cells #[.int .i64 a1_0,.slice A1_1 l1_1.length c1_1] 30 (0,0))):=⟨(by rw [hw];exact (by (with_reducible repeat (first | refine zz6 ?_ _ | refine zz7 ?_ | refine zz8 ?_ _));refine blk_far ?_ NB385_393.out _;(with_reducible repeat (first | refine zz6 ?_ _ | refine zz7 ?_ | refine zz8 ?_ _));refine blk_far ?_ NB385_393.out _;(with_reducible repeat (first | refine zz6 ?_ _ | refine zz7 ?_ | refine zz8 ?_ _));exact BK385.out))⟩;have n3_:Aside0 (w56.heap[gb386]?=some (.cells #[.int .i64 0,.slice none 0 0] 30 (0,0))):=⟨(by rw [hw];exact (by (with_reducible repeat (first | refine zz6 ?_ _ | refine zz7 ?_ | refine zz8 ?_ _));refine blk_far ?_ NB386_393.out _;(with_reducible repeat (first | refine zz6 ?_ _ | refine zz7 ?_ | refine zz8 ?_ _));refine blk_far ?_ NB386_393.out _;(with_reducible repeat (first | refine zz6 ?_ _ | refine zz7 ?_ | refine zz8 ?_ _));exact BK386.out))⟩;have n4_:Aside0 (w56.heap[gb393]?=some (.cells #[.int .i64 ((rd_T80 l0_1 x41_2).f0),.int .i64 ((rd_T80 l0_1 x41_2).f1)] 80 (0,0))):=⟨(by rw [hw];exact (by (with_reducible repeat (first | refine zz6 ?_ _ | refine zz7 ?_ | refine zz8 ?_ _));refine blk_put (cs:=#[.int .i64 ((rd_T80 l0_1 x41_2).f0),.int .i64 0]) ?_ 1 _ rfl;(with_reducible repeat (first | refine zz6 ?_ _ | refine zz7 ?_ | refine zz8 ?_ _));refine blk_put (cs:=#[.int .i64 0,.int .i64 0]) ?_ 0 _ rfl;(with_reducible repeat (first | refine zz6 ?_ _ | refine zz7 ?_ | refine zz8 ?_ _));exact BK393.out))⟩;have n5_:Aside0 (Below w.heap.size w w56):=⟨(by rw [hw];exact (by repeat first | exact HB.out | apply zz2 | apply zz0 | apply zz1 | refine zz3 ?_ GE384.out | refine zz3 ?_ GE385.out | refine zz3 ?_ GE386.out | refine zz3 ?_ GE393.out))⟩;clear hw;clear HO_8;clear BK384;clear BK385;clear BK386;clear BK393;clear HB;have HO_8:=n0_;have BK384:=n1_;have BK385:=n2_;have BK386:=n3_;have BK393:=n4_;have HB:=n5_;clear n0_ n1_ n2_ n3_ n4_ n5_;have hcz57_0:w56.cell? ⟨gb393,0,none⟩=some (.int .i64 ((rd_T80 l0_1 x41_2).f0)):=(zz9 BK393.out 0).trans rfl;have hcz57_1:w56.cell? ⟨gb393,1,none⟩=some (.int .i64 ((rd_T80 l0_1 x41_2).f1)):=(zz9 BK393.out 1).trans rfl;have hfz57_0:=zz10 BK393.out 0;have hfz57_1:=zz10 BK393.out 1;obtain ⟨Ao58,co58,eo58⟩:=Kd.R_slice HO_8.out;subst eo58) | ((with_reducible refine gate_callee (f:=66) rfl ?_);refine goesL_ (some 50) rfl rfl Try.func66 (by kernel_rfl) rfl #[.slice Ao58 x8_2.length co58,.int .i64 ((rd_T80 l0_1 x41_2).f0),.int .i64 ((rd_T80 l0_1 x41_2).f1)] rfl (by (try simp only [zz26,zz27,zz28]);first | done | rfl | (simp only [zz24,zz25];rfl)) ?_;(with_reducible refine (impl_table_put.calls (fun k_=>some k_=(.slice Ao58 x8_2.length co58:Value).ownBlock) (.slice Ao58 x8_2.length co58) x8_2 ((rd_T80 l0_1 x41_2).f0) ((rd_T80 l0_1 x41_2).f1) t394 w _ ?side1 ?side2 A50.out).mono ?_);(case side1=>repeat first | exact HB.out | apply zz2 | apply zz0 | apply zz1 | refine zz3 ?_ GE384.out | refine zz3 ?_ GE385.out | refine zz3 ?_ GE386.out | refine zz3 ?_ GE393.out);(case side2=>exact Kd.R_tight rfl HO_8.out);rintro e w59 ⟨rfl,hy0,hb,hkp⟩;refine ⟨_,rfl,?_⟩;have n0_:=zz31 (Kd.R_reok rfl hy0 (fun k_ e_=>HO_8.out.1 k_ e_));(first | have n1_:=zz31 (blk_kept BK384.out hkp (fun hs_=>(fun e_=>(Kd.R_ne HO_8.out BK384.out (by decide)) e_) hs_)) | have n1_:=zz31 (blk_kept (by (with_reducible repeat (first | refine zz6 ?_ _ | refine zz7 ?_ | refine zz8 ?_ _));exact BK384.out) hkp (fun hs_=>(fun e_=>(Kd.R_ne HO_8.out BK384.out (by decide)) e_) hs_)));(first | have n2_:=zz31 (blk_kept BK385.out hkp (fun hs_=>(fun e_=>(Kd.R_ne HO_8.out BK385.out (by decide)) e_) hs_)) | have n2_:=zz31 (blk_kept (by (with_reducible repeat (first | refine zz6 ?_ _ | refine zz7 ?_ | refine zz8 ?_ _));exact BK385.out) hkp (fun hs_=>(fun e_=>(Kd.R_ne HO_8.out BK385.out (by decide)) e_) hs_)));(first | have n3_:=zz31 (blk_kept BK386.out hkp (fun hs_=>(fun e_=>(Kd.R_ne HO_8.out BK386.out (by decide)) e_) hs_)) | have n3_:=zz31 (blk_kept (by (with_reducible repeat (first | refine zz6 ?_ _ | refine zz7 ?_ | refine zz8 ?_ _));exact BK386.out) hkp (fun hs_=>(fun e_=>(Kd.R_ne HO_8.out BK386.out (by decide)) e_) hs_)));(first | have n4_:=zz31 (blk_kept BK393.out hkp (fun hs_=>(fun e_=>(Kd.R_ne HO_8.out BK393.out (by decide)) e_) hs_)) | have n4_:=zz31 (blk_kept (by (with_reducible repeat (first | refine zz6 ?_ _ | refine zz7 ?_ | refine zz8 ?_ _));exact BK393.out) hkp (fun hs_=>(fun e_=>(Kd.R_ne HO_8.out BK393.out (by decide)) e_) hs_)));have n5_:=zz31 (hb);clear HO_8;clear BK384;clear BK385;clear BK386;clear BK393;clear HB;have HO_8:=n0_;have BK384:=n1_;have BK385:=n2_;have BK386:=n3_;have BK393:=n4_;have HB:=n5_;clear n0_ n1_ n2_ n3_ n4_ n5_;(try clear hb);(try clear hkp);(try clear hy0)))
           go_roundg k2
           case measure=>have:=HJ3.out;have:=HK2.out;omega
           case rel=>exact ⟨(t394),(wrap64 (x41_2+1)),(by first | rfl | (simp;done) | (simp [*];done)),H',⟨by have:=HJ3.out;have:=HK2.out;omega⟩,⟨by (with_reducible repeat (first | apply zz12 | apply zz13 | apply zz14));exact HO_8.out⟩,⟨by (with_reducible repeat (first | refine zz6 ?_ _ | refine zz7 ?_ | refine zz8 ?_ _));exact BK384.out⟩,⟨by (with_reducible repeat (first | refine zz6 ?_ _ | refine zz7 ?_ | refine zz8 ?_ _));exact BK385.out⟩,⟨by (with_reducible repeat (first | refine zz6 ?_ _ | refine zz7 ?_ | refine zz8 ?_ _));exact BK386.out⟩,⟨by repeat first | exact HB.out | apply zz2 | apply zz0 | apply zz1 | refine zz3 ?_ GE384.out | refine zz3 ?_ GE385.out | refine zz3 ?_ GE386.out | refine zz3 ?_ GE393.out⟩⟩
          ·rw [if_neg c49] at H
           exact absurd H (by simp)
         ·rw [if_neg c48] at H
          exact absurd H (by simp)
        ·rw [if_neg c47] at H
         have c47b0:decide (x41_2 < (l0_1.length:Int))=false:=decide_eq_false c47
         clear c47
         have H':=zz31 H
         clear H
         have hnb60:=NB385_384.out
         have hnc60:=NB384_385.out
         have hnb61:=NB385_386.out
         have hnc61:=NB386_385.out
         have hcz62_0:wr.cell? ⟨gb385,0,none⟩=some (.int .i64 a1_0):=(zz9 BK385.out 0).trans rfl
         have hcz62_1:wr.cell? ⟨gb385,1,none⟩=some (.slice A1_1 l1_1.length c1_1):=(zz9 BK385.out 1).trans rfl
         have hfz62_0:=zz10 BK385.out 0
         have hfz62_1:=zz10 BK385.out 1
         go_wp2
         go_loopg [55] k2 (fun kq v55 w'=>∃ (x8_3:List Int) (x55_3:Int),v55=.int .i64 x55_3∧Aside0 (impl_joined.l1 kq a2 x8_3 l1_1 (l1_1.length:Int) x55_3 a0_0 l0_1 a1_0 l1_1=some (r1,r2,r3))∧Aside0 (kq≤k2)∧Aside0 (Kd.R (Kd.int .u16) 96 w' w.heap.size (fun _=>True) v390 x8_3)∧Aside0 (w'.heap[gb384]?=some (.cells #[.int .i64 a0_0,(.slice A0_1 l0_1.length c0_1)] 30 (0,0)))∧Aside0 (w'.heap[gb385]?=some (.cells #[.int .i64 a1_0,(.slice A1_1 l1_1.length c1_1)] 30 (0,0)))∧Aside0 (w'.heap[gb386]?=some (.cells #[.int .i64 0,(.slice none 0 0)] 30 (0,0)))∧Aside0 (Below w.heap.size w w'))
         case atStart=>exact ⟨(x8_2),(0),(by first | rfl | (simp;done) | (simp [*];done)),H',⟨Nat.le_refl _⟩,⟨by (with_reducible repeat (first | apply zz12 | apply zz13 | apply zz14));exact HO_8.out⟩,⟨by (with_reducible repeat (first | refine zz6 ?_ _ | refine zz7 ?_ | refine zz8 ?_ _));exact BK384.out⟩,⟨by (with_reducible repeat (first | refine zz6 ?_ _ | refine zz7 ?_ | refine zz8 ?_ _));exact BK385.out⟩,⟨by (with_reducible repeat (first | refine zz6 ?_ _ | refine zz7 ?_ | refine zz8 ?_ _));exact BK386.out⟩,⟨by repeat first | exact HB.out | apply zz2 | apply zz0 | apply zz1 | refine zz3 ?_ GE384.out | refine zz3 ?_ GE385.out | refine zz3 ?_ GE386.out⟩⟩
         case round =>
          clear H'
          try clear c1
          try clear c2
          try clear p2
          try clear c3
          try clear p3
          try clear q3
          try clear hx3
          try clear c4
          try clear c5
          try clear c6
          try clear p6
          try clear c9
          try clear c11
          try clear c12
          try clear c13
          try clear c16
          try clear c21
          try clear c22
          try clear c25
          try clear c28
          try clear c29
          try clear c32
          try clear c33
          try clear c34
          try clear c37
          try clear c37b0
          try clear c37b1
          try clear c38
          try clear c38b0
          try clear c38b1
          try clear c39
          try clear p39
          try clear q39
          try clear hx39
          try clear c40
          try clear c42
          try clear c45
          try clear c47
          try clear c47b0
          try clear c48
          try clear c48b0
          try clear c49
          try clear c49b0
          try clear c52
          try clear c53
          try clear c54
          try clear c60
          try clear c61
          try clear c62
          try clear hcz14_0
          try clear hcz14_1
          try clear hcz17_0
          try clear hcz17_1
          try clear hcz19_0
          try clear hcz19_1
          try clear hcz20_0
          try clear hcz20_1
          try clear hcz23_0
          try clear hcz23_1
          try clear hcz26_0
          try clear hcz26_1
          try clear hcz30_0
          try clear hcz30_1
          try clear hcz35_0
          try clear hcz35_1
          try clear hcz41_0
          try clear hcz41_1
          try clear hcz43_0
          try clear hcz43_1
          try clear hcz46_0
          try clear hcz46_1
          try clear hcz55_0
          try clear hcz55_1
          try clear hcz57_0
          try clear hcz57_1
          try clear hcz62_0
          try clear hcz62_1
          try clear hfz14_0
          try clear hfz14_1
          try clear hfz17_0
          try clear hfz17_1
          try clear hfz19_0
          try clear hfz19_1
          try clear hfz20_0
          try clear hfz20_1
          try clear hfz23_0
          try clear hfz23_1
          try clear hfz26_0
          try clear hfz26_1
          try clear hfz30_0
          try clear hfz30_1
          try clear hfz35_0
          try clear hfz35_1
          try clear hfz41_0
          try clear hfz41_1
          try clear hfz43_0
          try clear hfz43_1
          try clear hfz46_0
          try clear hfz46_1
          try clear hfz55_0
          try clear hfz55_1
          try clear hfz57_0
          try clear hfz57_1
          try clear hfz62_0
          try clear hfz62_1
          try clear hx392_0
          try clear hx392_1
          try clear p2
          try clear p392
          try clear p6
          try clear q392
          obtain ⟨x8_3,x55_3,rfl,HA,HK3,HO_8,BK384,BK385,BK386,HB⟩:=hrel
          cases gk with
          | zero=>exact absurd HA.out (by simp [impl_joined.l1])
          | succ k3 =>
           have H:=HA.out
           clear HA
           simp only [impl_joined.l1] at H
           by_cases c63:x55_3 < (l1_1.length:Int)
           ·rw [if_pos c63] at H
            have c63b0:decide (x55_3 < (l1_1.length:Int))=true:=decide_eq_true c63
            clear c63
            by_cases c64:0≤x55_3
            ·rw [if_pos c64] at H
             have c64b0:decide (0≤x55_3)=true:=decide_eq_true c64
             clear c64
             by_cases c65:x55_3 < (l1_1.length:Int)
             ·rw [if_pos c65] at H
              have c65b0:decide (x55_3 < (l1_1.length:Int))=true:=decide_eq_true c65
              clear c65
              replace H:=zz30.mp H
              obtain ⟨t397,A660,H⟩:=H
              replace H:(impl_joined.l1 k3 a2 t397 l1_1 (l1_1.length:Int) (wrap64 (x55_3+1)) a0_0 l0_1 a1_0 l1_1)=some (r1,r2,r3):=H
              have A66:=zz31 A660
              clear A660
              have H':=zz31 H
              clear H
              have p395:0≤(x55_3:Int):=zz29 (by first | (with_reducible assumption) | assumption)
              have q395:x55_3 < (l1_1.length:Int):=zz29 (by first | (with_reducible assumption) | assumption)
              obtain ⟨ad395,e395,hx395_0,hx395_1⟩:=at_T80 HR1_1.out x55_3 p395 q395
              cases e395
              try replace hx395_0:=(HB.out.cell (World.block_lt_of_cell? w _ hx395_0)).trans hx395_0
              try replace hx395_1:=(HB.out.cell (World.block_lt_of_cell? w _ hx395_1)).trans hx395_1
              replace p395:=eq_true p395
              replace q395:=eq_true q395
              go_wp2_with (first | ((with_reducible refine gate_dst (N:=12) rfl ?_);refine box_event ?hg (N:=12) ?hd (cs:=#[.int .i64 0,.int .i64 0]) (t:=80) ?hr ?_;(case hd=>rfl);(case hg=>rfl);(case hr=>first | (go_simp;done) | (go_simp;rfl));intro gb396 hg w67 hbox hb;have n0_:=zz31 (Kd.R_below (by (with_reducible repeat (first | apply zz12 | apply zz13 | apply zz14));exact HO_8.out) hb);have n1_:=zz31 (zz11 (g:=gb384) (o:=.cells #[.int .i64 a0_0,.slice A0_1 l0_1.length c0_1] 30 (0,0)) (by (with_reducible repeat (first | refine zz6 ?_ _ | refine zz7 ?_ | refine zz8 ?_ _));exact BK384.out) hb);have n2_:=zz31 (zz11 (g:=gb385) (o:=.cells #[.int .i64 a1_0,.slice (some ad395) l1_1.length c1_1] 30 (0,0)) (by (with_reducible repeat (first | refine zz6 ?_ _ | refine zz7 ?_ | refine zz8 ?_ _));exact BK385.out) hb);have n3_:=zz31 (zz11 (g:=gb386) (o:=.cells #[.int .i64 0,.slice none 0 0] 30 (0,0)) (by (with_reducible repeat (first | refine zz6 ?_ _ | refine zz7 ?_ | refine zz8 ?_ _));exact BK386.out) hb);have n4_:=zz31 (zz4 (by repeat first | exact HB.out | apply zz2 | apply zz0 | apply zz1 | refine zz3 ?_ GE384.out | refine zz3 ?_ GE385.out | refine zz3 ?_ GE386.out) hb);have n5_:=zz31 (hbox);have n6_:=zz31 ((by rw [hg];exact (zz5 (by repeat first | exact HB.out | apply zz2 | apply zz0 | apply zz1 | refine zz3 ?_ GE384.out | refine zz3 ?_ GE385.out | refine zz3 ?_ GE386.out)):w.heap.size≤gb396));have n7_:=zz31 ((by rw [hg];exact (zz5 (by repeat first | exact HB.out | apply zz2 | apply zz0 | apply zz1 | refine zz3 ?_ GE384.out | refine zz3 ?_ GE385.out | refine zz3 ?_ GE386.out)):w.heap.size≤gb396));have n8_:=zz31 ((by rw [hg];exact Nat.ne_of_lt (blk_lt (g:=gb384) (o:=.cells #[.int .i64 a0_0,.slice A0_1 l0_1.length c0_1] 30 (0,0)) (by (with_reducible repeat (first | refine zz6 ?_ _ | refine zz7 ?_ | refine zz8 ?_ _));exact BK384.out)):gb384 ≠ gb396));have n9_:=zz31 ((by rw [hg];exact Nat.ne_of_gt (blk_lt (g:=gb384) (o:=.cells #[.int .i64 a0_0,.slice A0_1 l0_1.length c0_1] 30 (0,0)) (by (with_reducible repeat (first | refine zz6 ?_ _ | refine zz7 ?_ | refine zz8 ?_ _));exact BK384.out)):gb396 ≠ gb384));have n10_:=zz31 ((by rw [hg];exact Nat.ne_of_lt (blk_lt (g:=gb385) (o:=.cells #[.int .i64 a1_0,.slice (some ad395) l1_1.length c1_1] 30 (0,0)) (by (with_reducible repeat (first | refine zz6 ?_ _ | refine zz7 ?_ | refine zz8 ?_ _));exact BK385.out)):gb385 ≠ gb396));have n11_:=zz31 ((by rw [hg];exact Nat.ne_of_gt (blk_lt (g:=gb385) (o:=.cells #[.int .i64 a1_0,.slice (some ad395) l1_1.length c1_1] 30 (0,0)) (by (with_reducible repeat (first | refine zz6 ?_ _ | refine zz7 ?_ | refine zz8 ?_ _));exact BK385.out)):gb396 ≠ gb385));have n12_:=zz31 ((by rw [hg];exact Nat.ne_of_lt (blk_lt (g:=gb386) (o:=.cells #[.int .i64 0,.slice none 0 0] 30 (0,0)) (by (with_reducible repeat (first | refine zz6 ?_ _ | refine zz7 ?_ | refine zz8 ?_ _));exact BK386.out)):gb386 ≠ gb396));have n13_:=zz31 ((by rw [hg];exact Nat.ne_of_gt (blk_lt (g:=gb386) (o:=.cells #[.int .i64 0,.slice none 0 0] 30 (0,0)) (by (with_reducible repeat (first | refine zz6 ?_ _ | refine zz7 ?_ | refine zz8 ?_ _));exact BK386.out)):gb396 ≠ gb386));clear HO_8;clear BK384;clear BK385;clear BK386;clear HB;have HO_8:=n0_;have BK384:=n1_;have BK385:=n2_;have BK386:=n3_;have HB:=n4_;have BK396:=n5_;have GW396:=n6_;have GE396:=n7_;have NB384_396:=n8_;have NB396_384:=n9_;have NB385_396:=n10_;have NB396_385:=n11_;have NB386_396:=n12_;have NB396_386:=n13_;clear n0_ n1_ n2_ n3_ n4_ n5_ n6_ n7_ n8_ n9_ n10_ n11_ n12_ n13_;clear hb hbox hg;have hnb68:=NB396_384.out;have hnc68:=NB384_396.out;have hnb69:=NB396_385.out;have hnc69:=NB385_396.out;have hnb70:=NB396_386.out;have hnc70:=NB386_396.out;have hcz71_0:w67.cell? ⟨gb396,0,none⟩=some (.int .i64 0):=(zz9 BK396.out 0).trans rfl;have hcz71_1:w67.cell? ⟨gb396,1,none⟩=some (.int .i64 0):=(zz9 BK396.out 1).trans rfl;have hfz71_0:=zz10 BK396.out 0;have hfz71_1:=zz10 BK396.out 1) | ((with_reducible refine gate_store (t:=80) (p:=12) rfl ?_);refine store_event (t:=80) (p:=12) (v:=?vo_w72) (w1:=((w67.setCell ⟨gb396,0,none⟩ (.int .i64 ((rd_T80 l1_1 x55_3).f0))).setCell ⟨gb396,1,none⟩ (.int .i64 ((rd_T80 l1_1 x55_3).f1)))) ?hg ?ho ?hn ?hr ?_;(case ho=>rfl);(case hg=>rfl);(case hn=>rfl);(case hr=>first | (go_simp;done) | (go_simp;rfl));intro w72 hw;have n0_:Aside0 (Kd.R (Kd.int .u16) 96 w72 w.heap.size (fun _=>True) v390 x8_3):=⟨(by rw [hw];exact (by (with_reducible repeat (first | apply zz12 | apply zz13 | apply zz14));exact Kd.R_mono (Kd.R_far (p:=⟨gb396,1,none⟩) (Kd.R_far (p:=⟨gb396,0,none⟩) (Kd.R_types HO_8.out BK396.out (by decide)) (fun _ hk=>hk.2) (.int .i64 ((rd_T80 l1_1 x55_3).f0))) (fun _ hk=>hk.2) (.int .i64 ((rd_T80 l1_1 x55_3).f1))) (fun _ hk=>trivial)))⟩;have n1_:Aside0 (w72.heap[gb384]?=some (.cells #[.int .i64 a0_0,.slice A0_1 l0_1.length c0_1] 30 (0,0))):=⟨(by rw [hw];exact (by (with_reducible repeat (first | refine zz6 ?_ _ | refine zz7 ?_ | refine zz8 ?_ _));refine blk_far ?_ NB384_396.out _;(with_reducible repeat (first | refine zz6 ?_ _ | refine zz7 ?_ | refine zz8 ?_ _));refine blk_far ?_ NB384_396.out _;(with_reducible repeat (first | refine zz6 ?_ _ | refine zz7 ?_ | refine zz8 ?_ _));exact BK384.out))⟩;have n2_:Aside0 (w72.heap[gb385]?=some (.cells #[.int .i64 a1_0,.slice (some ad395) l1_1.length c1_1] 30 (0,0))):=⟨(by rw [hw];exact (by (with_reducible repeat (first | refine zz6 ?_ _ | refine zz7 ?_ | refine zz8 ?_ _));refine blk_far ?_ NB385_396.out _;(with_reducible repeat (first | refine zz6 ?_ _ | refine zz7 ?_ | refine zz8 ?_ _));refine blk_far ?_ NB385_396.out _;(with_reducible repeat (first | refine zz6 ?_ _ | refine zz7 ?_ | refine zz8 ?_ _));exact BK385.out))⟩;have n3_:Aside0 (w72.heap[gb386]?=some (.cells #[.int .i64 0,.slice none 0 0] 30 (0,0))):=⟨(by rw [hw];exact (by (with_reducible repeat (first | refine zz6 ?_ _ | refine zz7 ?_ | refine zz8 ?_ _));refine blk_far ?_ NB386_396.out _;(with_reducible repeat (first | refine zz6 ?_ _ | refine zz7 ?_ | refine zz8 ?_ _));refine blk_far ?_ NB386_396.out _;(with_reducible repeat (first | refine zz6 ?_ _ | refine zz7 ?_ | refine zz8 ?_ _));exact BK386.out))⟩;have n4_:Aside0 (w72.heap[gb396]?=some (.cells #[.int .i64 ((rd_T80 l1_1 x55_3).f0),.int .i64 ((rd_T80 l1_1 x55_3).f1)] 80 (0,0))):=⟨(by rw [hw];exact (by (with_reducible repeat (first | refine zz6 ?_ _ | refine zz7 ?_ | refine zz8 ?_ _));refine blk_put (cs:=#[.int .i64 ((rd_T80 l1_1 x55_3).f0),.int .i64 0]) ?_ 1 _ rfl;(with_reducible repeat (first | refine zz6 ?_ _ | refine zz7 ?_ | refine zz8 ?_ _));refine blk_put (cs:=#[.int .i64 0,.int .i64 0]) ?_ 0 _ rfl;(with_reducible repeat (first | refine zz6 ?_ _ | refine zz7 ?_ | refine zz8 ?_ _));exact BK396.out))⟩;have n5_:Aside0 (Below w.heap.size w w72):=⟨(by rw [hw];exact (by repeat first | exact HB.out | apply zz2 | apply zz0 | apply zz1 | refine zz3 ?_ GE384.out | refine zz3 ?_ GE385.out | refine zz3 ?_ GE386.out | refine zz3 ?_ GE396.out))⟩;clear hw;clear HO_8;clear BK384;clear BK385;clear BK386;clear BK396;clear HB;have HO_8:=n0_;have BK384:=n1_;have BK385:=n2_;have BK386:=n3_;have BK396:=n4_;have HB:=n5_;clear n0_ n1_ n2_ n3_ n4_ n5_;have hcz73_0:w72.cell? ⟨gb396,0,none⟩=some (.int .i64 ((rd_T80 l1_1 x55_3).f0)):=(zz9 BK396.out 0).trans rfl;have hcz73_1:w72.cell? ⟨gb396,1,none⟩=some (.int .i64 ((rd_T80 l1_1 x55_3).f1)):=(zz9 BK396.out 1).trans rfl;have hfz73_0:=zz10 BK396.out 0;have hfz73_1:=zz10 BK396.out 1;have hnb74:=NB384_385.out;have hnc74:=NB385_384.out;have hnb75:=NB384_386.out;have hnc75:=NB386_384.out;have hcz76_0:w72.cell? ⟨gb384,0,none⟩=some (.int .i64 a0_0):=(zz9 BK384.out 0).trans rfl;have hcz76_1:w72.cell? ⟨gb384,1,none⟩=some (.slice A0_1 l0_1.length c0_1):=(zz9 BK384.out 1).trans rfl;have hfz76_0:=zz10 BK384.out 0;have hfz76_1:=zz10 BK384.out 1;obtain ⟨Ao77,co77,eo77⟩:=Kd.R_slice HO_8.out;subst eo77) | ((with_reducible refine gate_callee (f:=66) rfl ?_);refine goesL_ (some 70) rfl rfl Try.func66 (by kernel_rfl) rfl #[.slice Ao77 x8_3.length co77,.int .i64 (wrap64 (((rd_T80 l1_1 x55_3).f0)+a0_0)),.int .i64 (wrap64 (((rd_T80 l1_1 x55_3).f1)+a0_0))] rfl (by (try simp only [zz26,zz27,zz28]);first | done | rfl | (simp only [zz24,zz25];rfl)) ?_;(with_reducible refine (impl_table_put.calls (fun k_=>some k_=(.slice Ao77 x8_3.length co77:Value).ownBlock) (.slice Ao77 x8_3.length co77) x8_3 (wrap64 (((rd_T80 l1_1 x55_3).f0)+a0_0)) (wrap64 (((rd_T80 l1_1 x55_3).f1)+a0_0)) t397 w _ ?side1 ?side2 A66.out).mono ?_);(case side1=>repeat first | exact HB.out | apply zz2 | apply zz0 | apply zz1 | refine zz3 ?_ GE384.out | refine zz3 ?_ GE385.out | refine zz3 ?_ GE386.out | refine zz3 ?_ GE396.out);(case side2=>exact Kd.R_tight rfl HO_8.out);rintro e w78 ⟨rfl,hy0,hb,hkp⟩;refine ⟨_,rfl,?_⟩;have n0_:=zz31 (Kd.R_reok rfl hy0 (fun k_ e_=>HO_8.out.1 k_ e_));(first | have n1_:=zz31 (blk_kept BK384.out hkp (fun hs_=>(fun e_=>(Kd.R_ne HO_8.out BK384.out (by decide)) e_) hs_)) | have n1_:=zz31 (blk_kept (by (with_reducible repeat (first | refine zz6 ?_ _ | refine zz7 ?_ | refine zz8 ?_ _));exact BK384.out) hkp (fun hs_=>(fun e_=>(Kd.R_ne HO_8.out BK384.out (by decide)) e_) hs_)));(first | have n2_:=zz31 (blk_kept BK385.out hkp (fun hs_=>(fun e_=>(Kd.R_ne HO_8.out BK385.out (by decide)) e_) hs_)) | have n2_:=zz31 (blk_kept (by (with_reducible repeat (first | refine zz6 ?_ _ | refine zz7 ?_ | refine zz8 ?_ _));exact BK385.out) hkp (fun hs_=>(fun e_=>(Kd.R_ne HO_8.out BK385.out (by decide)) e_) hs_)));(first | have n3_:=zz31 (blk_kept BK386.out hkp (fun hs_=>(fun e_=>(Kd.R_ne HO_8.out BK386.out (by decide)) e_) hs_)) | have n3_:=zz31 (blk_kept (by (with_reducible repeat (first | refine zz6 ?_ _ | refine zz7 ?_ | refine zz8 ?_ _));exact BK386.out) hkp (fun hs_=>(fun e_=>(Kd.R_ne HO_8.out BK386.out (by decide)) e_) hs_)));(first | have n4_:=zz31 (blk_kept BK396.out hkp (fun hs_=>(fun e_=>(Kd.R_ne HO_8.out BK396.out (by decide)) e_) hs_)) | have n4_:=zz31 (blk_kept (by (with_reducible repeat (first | refine zz6 ?_ _ | refine zz7 ?_ | refine zz8 ?_ _));exact BK396.out) hkp (fun hs_=>(fun e_=>(Kd.R_ne HO_8.out BK396.out (by decide)) e_) hs_)));have n5_:=zz31 (hb);clear HO_8;clear BK384;clear BK385;clear BK386;clear BK396;clear HB;have HO_8:=n0_;have BK384:=n1_;have BK385:=n2_;have BK386:=n3_;have BK396:=n4_;have HB:=n5_;clear n0_ n1_ n2_ n3_ n4_ n5_;(try clear hb);(try clear hkp);(try clear hy0)))
              go_roundg k3
              case measure=>have:=HJ3.out;have:=HK2.out;have:=HK3.out;omega
              case rel=>exact ⟨(t397),(wrap64 (x55_3+1)),(by first | rfl | (simp;done) | (simp [*];done)),H',⟨by have:=HJ3.out;have:=HK2.out;have:=HK3.out;omega⟩,⟨by (with_reducible repeat (first | apply zz12 | apply zz13 | apply zz14));exact HO_8.out⟩,⟨by (with_reducible repeat (first | refine zz6 ?_ _ | refine zz7 ?_ | refine zz8 ?_ _));exact BK384.out⟩,⟨by (with_reducible repeat (first | refine zz6 ?_ _ | refine zz7 ?_ | refine zz8 ?_ _));exact BK385.out⟩,⟨by (with_reducible repeat (first | refine zz6 ?_ _ | refine zz7 ?_ | refine zz8 ?_ _));exact BK386.out⟩,⟨by repeat first | exact HB.out | apply zz2 | apply zz0 | apply zz1 | refine zz3 ?_ GE384.out | refine zz3 ?_ GE385.out | refine zz3 ?_ GE386.out | refine zz3 ?_ GE396.out⟩⟩
             ·rw [if_neg c65] at H
              exact absurd H (by simp)
            ·rw [if_neg c64] at H
             exact absurd H (by simp)
           ·rw [if_neg c63] at H
            have c63b0:decide (x55_3 < (l1_1.length:Int))=false:=decide_eq_false c63
            clear c63
            by_cases c79:a2=true
            ·subst c79
             have H1:(impl_joined.l2 k3 x8_3 a0_0 0 a0_0 l0_1 a1_0 l1_1)=some (r1,r2,r3):=by rw [if_pos rfl] at H;exact H
             clear H
             have H:=H1
             clear H1
             have H':=zz31 H
             clear H
             have hnb80:=NB384_385.out
             have hnc80:=NB385_384.out
             have hnb81:=NB384_386.out
             have hnc81:=NB386_384.out
             have hcz82_0:wr.cell? ⟨gb384,0,none⟩=some (.int .i64 a0_0):=(zz9 BK384.out 0).trans rfl
             have hcz82_1:wr.cell? ⟨gb384,1,none⟩=some (.slice A0_1 l0_1.length c0_1):=(zz9 BK384.out 1).trans rfl
             have hfz82_0:=zz10 BK384.out 0
             have hfz82_1:=zz10 BK384.out 1
             go_wp2
             go_loopg [75] k3 (fun kq v75 w'=>∃ (x8_4:List Int) (x75_4:Int),v75=.int .i64 x75_4∧Aside0 (impl_joined.l2 kq x8_4 a0_0 x75_4 a0_0 l0_1 a1_0 l1_1=some (r1,r2,r3))∧Aside0 (kq≤k3)∧Aside0 (Kd.R (Kd.int .u16) 96 w' w.heap.size (fun _=>True) v390 x8_4)∧Aside0 (w'.heap[gb384]?=some (.cells #[.int .i64 a0_0,(.slice A0_1 l0_1.length c0_1)] 30 (0,0)))∧Aside0 (w'.heap[gb385]?=some (.cells #[.int .i64 a1_0,(.slice A1_1 l1_1.length c1_1)] 30 (0,0)))∧Aside0 (w'.heap[gb386]?=some (.cells #[.int .i64 0,(.slice none 0 0)] 30 (0,0)))∧Aside0 (Below w.heap.size w w'))
             case atStart=>exact ⟨(x8_3),(0),(by first | rfl | (simp;done) | (simp [*];done)),H',⟨Nat.le_refl _⟩,⟨by (with_reducible repeat (first | apply zz12 | apply zz13 | apply zz14));exact HO_8.out⟩,⟨by (with_reducible repeat (first | refine zz6 ?_ _ | refine zz7 ?_ | refine zz8 ?_ _));exact BK384.out⟩,⟨by (with_reducible repeat (first | refine zz6 ?_ _ | refine zz7 ?_ | refine zz8 ?_ _));exact BK385.out⟩,⟨by (with_reducible repeat (first | refine zz6 ?_ _ | refine zz7 ?_ | refine zz8 ?_ _));exact BK386.out⟩,⟨by repeat first | exact HB.out | apply zz2 | apply zz0 | apply zz1 | refine zz3 ?_ GE384.out | refine zz3 ?_ GE385.out | refine zz3 ?_ GE386.out⟩⟩
             case round =>
              clear H'
              try clear c1
              try clear c2
              try clear p2
              try clear c3
              try clear p3
              try clear q3
              try clear hx3
              try clear c4
              try clear c5
              try clear c6
              try clear p6
              try clear c7
              try clear c8
              try clear c9
              try clear c11
              try clear c12
              try clear c13
              try clear c16
              try clear c21
              try clear c22
              try clear c25
              try clear c28
              try clear c29
              try clear c32
              try clear c33
              try clear c34
              try clear c37
              try clear c37b0
              try clear c37b1
              try clear c38
              try clear c38b0
              try clear c38b1
              try clear c39
              try clear p39
              try clear q39
              try clear hx39
              try clear c40
              try clear c42
              try clear c45
              try clear c47
              try clear c47b0
              try clear c48
              try clear c48b0
              try clear c49
              try clear c49b0
              try clear c52
              try clear c53
              try clear c54
              try clear c60
              try clear c61
              try clear c62
              try clear c63
              try clear c63b0
              try clear c64
              try clear c64b0
              try clear p64
              try clear c65
              try clear c65b0
              try clear c66
              try clear c68
              try clear c69
              try clear c70
              try clear c74
              try clear c75
              try clear c79
              try clear c80
              try clear c81
              try clear hcz14_0
              try clear hcz14_1
              try clear hcz17_0
              try clear hcz17_1
              try clear hcz19_0
              try clear hcz19_1
              try clear hcz20_0
              try clear hcz20_1
              try clear hcz23_0
              try clear hcz23_1
              try clear hcz26_0
              try clear hcz26_1
              try clear hcz30_0
              try clear hcz30_1
              try clear hcz35_0
              try clear hcz35_1
              try clear hcz41_0
              try clear hcz41_1
              try clear hcz43_0
              try clear hcz43_1
              try clear hcz46_0
              try clear hcz46_1
              try clear hcz55_0
              try clear hcz55_1
              try clear hcz57_0
              try clear hcz57_1
              try clear hcz62_0
              try clear hcz62_1
              try clear hcz71_0
              try clear hcz71_1
              try clear hcz73_0
              try clear hcz73_1
              try clear hcz76_0
              try clear hcz76_1
              try clear hcz82_0
              try clear hcz82_1
              try clear hfz14_0
              try clear hfz14_1
              try clear hfz17_0
              try clear hfz17_1
              try clear hfz19_0
              try clear hfz19_1
              try clear hfz20_0
              try clear hfz20_1
              try clear hfz23_0
              try clear hfz23_1
              try clear hfz26_0
              try clear hfz26_1
              try clear hfz30_0
              try clear hfz30_1
              try clear hfz35_0
              try clear hfz35_1
              try clear hfz41_0
              try clear hfz41_1
              try clear hfz43_0
              try clear hfz43_1
              try clear hfz46_0
              try clear hfz46_1
              try clear hfz55_0
              try clear hfz55_1
              try clear hfz57_0
              try clear hfz57_1
              try clear hfz62_0
              try clear hfz62_1
              try clear hfz71_0
              try clear hfz71_1
              try clear hfz73_0
              try clear hfz73_1
              try clear hfz76_0
              try clear hfz76_1
              try clear hfz82_0
              try clear hfz82_1
              try clear hx392_0
              try clear hx392_1
              try clear hx395_0
              try clear hx395_1
              try clear p2
              try clear p3
              try clear p39
              try clear p392
              try clear p395
              try clear p6
              try clear q3
              try clear q39
              try clear q392
              try clear q395
              obtain ⟨x8_4,x75_4,rfl,HA,HK4,HO_8,BK384,BK385,BK386,HB⟩:=hrel
              cases gk with
              | zero=>exact absurd HA.out (by simp [impl_joined.l2])
              | succ k4 =>
               have H:=HA.out
               clear HA
               simp only [impl_joined.l2] at H
               by_cases c83:x75_4 < a0_0
               ·rw [if_pos c83] at H
                have c83b0:decide (x75_4 < a0_0)=true:=decide_eq_true c83
                clear c83
                have H':=zz31 H
                clear H
                have hnb84:=NB385_384.out
                have hnc84:=NB384_385.out
                have hnb85:=NB385_386.out
                have hnc85:=NB386_385.out
                have hcz86_0:wr.cell? ⟨gb385,0,none⟩=some (.int .i64 a1_0):=(zz9 BK385.out 0).trans rfl
                have hcz86_1:wr.cell? ⟨gb385,1,none⟩=some (.slice A1_1 l1_1.length c1_1):=(zz9 BK385.out 1).trans rfl
                have hfz86_0:=zz10 BK385.out 0
                have hfz86_1:=zz10 BK385.out 1
                go_wp2
                go_loopg [80] k4 (fun kq v80 w'=>∃ (x8_5:List Int) (x80_5:Int),v80=.int .i64 x80_5∧Aside0 (impl_joined.l3 kq x8_5 x75_4 a0_0 x75_4 a1_0 x80_5 a0_0 l0_1 a1_0 l1_1=some (r1,r2,r3))∧Aside0 (kq≤k4)∧Aside0 (Kd.R (Kd.int .u16) 96 w' w.heap.size (fun _=>True) v390 x8_5)∧Aside0 (w'.heap[gb384]?=some (.cells #[.int .i64 a0_0,(.slice A0_1 l0_1.length c0_1)] 30 (0,0)))∧Aside0 (w'.heap[gb385]?=some (.cells #[.int .i64 a1_0,(.slice A1_1 l1_1.length c1_1)] 30 (0,0)))∧Aside0 (w'.heap[gb386]?=some (.cells #[.int .i64 0,(.slice none 0 0)] 30 (0,0)))∧Aside0 (Below w.heap.size w w'))
                case atStart=>exact ⟨(x8_4),(0),(by first | rfl | (simp;done) | (simp [*];done)),H',⟨Nat.le_refl _⟩,⟨by (with_reducible repeat (first | apply zz12 | apply zz13 | apply zz14));exact HO_8.out⟩,⟨by (with_reducible repeat (first | refine zz6 ?_ _ | refine zz7 ?_ | refine zz8 ?_ _));exact BK384.out⟩,⟨by (with_reducible repeat (first | refine zz6 ?_ _ | refine zz7 ?_ | refine zz8 ?_ _));exact BK385.out⟩,⟨by (with_reducible repeat (first | refine zz6 ?_ _ | refine zz7 ?_ | refine zz8 ?_ _));exact BK386.out⟩,⟨by repeat first | exact HB.out | apply zz2 | apply zz0 | apply zz1 | refine zz3 ?_ GE384.out | refine zz3 ?_ GE385.out | refine zz3 ?_ GE386.out⟩⟩
                case round =>
                 clear H'
                 try clear c1
                 try clear c2
                 try clear p2
                 try clear c3
                 try clear p3
                 try clear q3
                 try clear hx3
                 try clear c4
                 try clear c5
                 try clear c6
                 try clear p6
                 try clear c7
                 try clear c8
                 try clear c9
                 try clear c11
                 try clear c12
                 try clear c13
                 try clear c16
                 try clear c21
                 try clear c22
                 try clear c25
                 try clear c28
                 try clear c29
                 try clear c32
                 try clear c33
                 try clear c34
                 try clear c37
                 try clear c37b0
                 try clear c37b1
                 try clear c38
                 try clear c38b0
                 try clear c38b1
                 try clear c39
                 try clear p39
                 try clear q39
                 try clear hx39
                 try clear c40
                 try clear c42
                 try clear c45
                 try clear c47
                 try clear c47b0
                 try clear c48
                 try clear c48b0
                 try clear c49
                 try clear c49b0
                 try clear c52
                 try clear c53
                 try clear c54
                 try clear c60
                 try clear c61
                 try clear c62
                 try clear c63
                 try clear c63b0
                 try clear c64
                 try clear c64b0
                 try clear p64
                 try clear c65
                 try clear c65b0
                 try clear c66
                 try clear c68
                 try clear c69
                 try clear c70
                 try clear c74
                 try clear c75
                 try clear c79
                 try clear c80
                 try clear c81
                 try clear c83
                 try clear c83b0
                 try clear c84
                 try clear c85
                 try clear hcz14_0
                 try clear hcz14_1
                 try clear hcz17_0
                 try clear hcz17_1
                 try clear hcz19_0
                 try clear hcz19_1
                 try clear hcz20_0
                 try clear hcz20_1
                 try clear hcz23_0
                 try clear hcz23_1
                 try clear hcz26_0
                 try clear hcz26_1
                 try clear hcz30_0
                 try clear hcz30_1
                 try clear hcz35_0
                 try clear hcz35_1
                 try clear hcz41_0
                 try clear hcz41_1
                 try clear hcz43_0
                 try clear hcz43_1
                 try clear hcz46_0
                 try clear hcz46_1
                 try clear hcz55_0
                 try clear hcz55_1
                 try clear hcz57_0
                 try clear hcz57_1
                 try clear hcz62_0
                 try clear hcz62_1
                 try clear hcz71_0
                 try clear hcz71_1
                 try clear hcz73_0
                 try clear hcz73_1
                 try clear hcz76_0
                 try clear hcz76_1
                 try clear hcz82_0
                 try clear hcz82_1
                 try clear hcz86_0
                 try clear hcz86_1
                 try clear hfz14_0
                 try clear hfz14_1
                 try clear hfz17_0
                 try clear hfz17_1
                 try clear hfz19_0
                 try clear hfz19_1
                 try clear hfz20_0
                 try clear hfz20_1
                 try clear hfz23_0
                 try clear hfz23_1
                 try clear hfz26_0
                 try clear hfz26_1
                 try clear hfz30_0
                 try clear hfz30_1
                 try clear hfz35_0
                 try clear hfz35_1
                 try clear hfz41_0
                 try clear hfz41_1
                 try clear hfz43_0
                 try clear hfz43_1
                 try clear hfz46_0
                 try clear hfz46_1
                 try clear hfz55_0
                 try clear hfz55_1
                 try clear hfz57_0
                 try clear hfz57_1
                 try clear hfz62_0
                 try clear hfz62_1
                 try clear hfz71_0
                 try clear hfz71_1
                 try clear hfz73_0
                 try clear hfz73_1
                 try clear hfz76_0
                 try clear hfz76_1
                 try clear hfz82_0
                 try clear hfz82_1
                 try clear hfz86_0
                 try clear hfz86_1
                 try clear hx392_0
                 try clear hx392_1
                 try clear hx395_0
                 try clear hx395_1
                 try clear p2
                 try clear p3
                 try clear p39
                 try clear p392
                 try clear p395
                 try clear p6
                 try clear p64
                 try clear q3
                 try clear q39
                 try clear q392
                 try clear q395
                 obtain ⟨x8_5,x80_5,rfl,HA,HK5,HO_8,BK384,BK385,BK386,HB⟩:=hrel
                 cases gk with
                 | zero=>exact absurd HA.out (by simp [impl_joined.l3])
                 | succ k5 =>
                  have H:=HA.out
                  clear HA
                  simp only [impl_joined.l3] at H
                  by_cases c87:x80_5 < a1_0
                  ·rw [if_pos c87] at H
                   have c87b0:decide (x80_5 < a1_0)=true:=decide_eq_true c87
                   clear c87
                   replace H:=zz30.mp H
                   obtain ⟨t402,A880,H⟩:=H
                   replace H:(impl_joined.l3 k5 t402 x75_4 a0_0 x75_4 a1_0 (wrap64 (x80_5+1)) a0_0 l0_1 a1_0 l1_1)=some (r1,r2,r3):=H
                   have A88:=zz31 A880
                   clear A880
                   have H':=zz31 H
                   clear H
                   have hnb89:=NB384_385.out
                   have hnc89:=NB385_384.out
                   have hnb90:=NB384_386.out
                   have hnc90:=NB386_384.out
                   have hcz91_0:wr.cell? ⟨gb384,0,none⟩=some (.int .i64 a0_0):=(zz9 BK384.out 0).trans rfl
                   have hcz91_1:wr.cell? ⟨gb384,1,none⟩=some (.slice A0_1 l0_1.length c0_1):=(zz9 BK384.out 1).trans rfl
                   have hfz91_0:=zz10 BK384.out 0
                   have hfz91_1:=zz10 BK384.out 1
                   obtain ⟨Ao92,co92,eo92⟩:=Kd.R_slice HO_8.out
                   subst eo92
                   go_wp2_with (first | ((with_reducible refine gate_callee (f:=66) rfl ?_);refine goesL_ (some 89) rfl rfl Try.func66 (by kernel_rfl) rfl #[.slice Ao92 x8_5.length co92,.int .i64 x75_4,.int .i64 (wrap64 (x80_5+a0_0))] rfl (by (try simp only [zz26,zz27,zz28]);first | done | rfl | (simp only [zz24,zz25];rfl)) ?_;(with_reducible refine (impl_table_put.calls (fun k_=>some k_=(.slice Ao92 x8_5.length co92:Value).ownBlock) (.slice Ao92 x8_5.length co92) x8_5 x75_4 (wrap64 (x80_5+a0_0)) t402 w _ ?side1 ?side2 A88.out).mono ?_);(case side1=>repeat first | exact HB.out | apply zz2 | apply zz0 | apply zz1 | refine zz3 ?_ GE384.out | refine zz3 ?_ GE385.out | refine zz3 ?_ GE386.out);(case side2=>exact Kd.R_tight rfl HO_8.out);rintro e w93 ⟨rfl,hy0,hb,hkp⟩;refine ⟨_,rfl,?_⟩;have n0_:=zz31 (Kd.R_reok rfl hy0 (fun k_ e_=>HO_8.out.1 k_ e_));(first | have n1_:=zz31 (blk_kept BK384.out hkp (fun hs_=>(fun e_=>(Kd.R_ne HO_8.out BK384.out (by decide)) e_) hs_)) | have n1_:=zz31 (blk_kept (by (with_reducible repeat (first | refine zz6 ?_ _ | refine zz7 ?_ | refine zz8 ?_ _));exact BK384.out) hkp (fun hs_=>(fun e_=>(Kd.R_ne HO_8.out BK384.out (by decide)) e_) hs_)));(first | have n2_:=zz31 (blk_kept BK385.out hkp (fun hs_=>(fun e_=>(Kd.R_ne HO_8.out BK385.out (by decide)) e_) hs_)) | have n2_:=zz31 (blk_kept (by (with_reducible repeat (first | refine zz6 ?_ _ | refine zz7 ?_ | refine zz8 ?_ _));exact BK385.out) hkp (fun hs_=>(fun e_=>(Kd.R_ne HO_8.out BK385.out (by decide)) e_) hs_)));(first | have n3_:=zz31 (blk_kept BK386.out hkp (fun hs_=>(fun e_=>(Kd.R_ne HO_8.out BK386.out (by decide)) e_) hs_)) | have n3_:=zz31 (blk_kept (by (with_reducible repeat (first | refine zz6 ?_ _ | refine zz7 ?_ | refine zz8 ?_ _));exact BK386.out) hkp (fun hs_=>(fun e_=>(Kd.R_ne HO_8.out BK386.out (by decide)) e_) hs_)));have n4_:=zz31 (hb);clear HO_8;clear BK384;clear BK385;clear BK386;clear HB;have HO_8:=n0_;have BK384:=n1_;have BK385:=n2_;have BK386:=n3_;have HB:=n4_;clear n0_ n1_ n2_ n3_ n4_;(try clear hb);(try clear hkp);(try clear hy0)))
                   go_roundg k5
                   case measure=>have:=HJ3.out;have:=HK2.out;have:=HK3.out;have:=HK4.out;have:=HK5.out;omega
                   case rel=>exact ⟨(t402),(wrap64 (x80_5+1)),(by first | rfl | (simp;done) | (simp [*];done)),H',⟨by have:=HJ3.out;have:=HK2.out;have:=HK3.out;have:=HK4.out;have:=HK5.out;omega⟩,⟨by (with_reducible repeat (first | apply zz12 | apply zz13 | apply zz14));exact HO_8.out⟩,⟨by (with_reducible repeat (first | refine zz6 ?_ _ | refine zz7 ?_ | refine zz8 ?_ _));exact BK384.out⟩,⟨by (with_reducible repeat (first | refine zz6 ?_ _ | refine zz7 ?_ | refine zz8 ?_ _));exact BK385.out⟩,⟨by (with_reducible repeat (first | refine zz6 ?_ _ | refine zz7 ?_ | refine zz8 ?_ _));exact BK386.out⟩,⟨by repeat first | exact HB.out | apply zz2 | apply zz0 | apply zz1 | refine zz3 ?_ GE384.out | refine zz3 ?_ GE385.out | refine zz3 ?_ GE386.out⟩⟩
                  ·rw [if_neg c87] at H
                   have c87b0:decide (x80_5 < a1_0)=false:=decide_eq_false c87
                   clear c87
                   have H':=zz31 H
                   clear H
                   go_wp2
                   go_roundg k5
                   case measure=>have:=HJ3.out;have:=HK2.out;have:=HK3.out;have:=HK4.out;have:=HK5.out;omega
                   case rel=>exact ⟨(x8_5),(wrap64 (x75_4+1)),(by first | rfl | (simp;done) | (simp [*];done)),H',⟨by have:=HJ3.out;have:=HK2.out;have:=HK3.out;have:=HK4.out;have:=HK5.out;omega⟩,⟨by (with_reducible repeat (first | apply zz12 | apply zz13 | apply zz14));exact HO_8.out⟩,⟨by (with_reducible repeat (first | refine zz6 ?_ _ | refine zz7 ?_ | refine zz8 ?_ _));exact BK384.out⟩,⟨by (with_reducible repeat (first | refine zz6 ?_ _ | refine zz7 ?_ | refine zz8 ?_ _));exact BK385.out⟩,⟨by (with_reducible repeat (first | refine zz6 ?_ _ | refine zz7 ?_ | refine zz8 ?_ _));exact BK386.out⟩,⟨by repeat first | exact HB.out | apply zz2 | apply zz0 | apply zz1 | refine zz3 ?_ GE384.out | refine zz3 ?_ GE385.out | refine zz3 ?_ GE386.out⟩⟩
               ·rw [if_neg c83] at H
                have c83b0:decide (x75_4 < a0_0)=false:=decide_eq_false c83
                clear c83
                replace H:=zz30.mp H
                obtain ⟨⟨t398,t399⟩,A940,H⟩:=H
                replace H:(some (t398,t399,true))=some (r1,r2,r3):=H
                have A94:=zz31 A940
                clear A940
                simp only [Option.some.injEq,Prod.mk.injEq] at H
                obtain ⟨rfl,rfl,rfl⟩:=H
                obtain ⟨Ao95,co95,eo95⟩:=Kd.R_slice HO_8.out
                subst eo95
                go_wp2_with (first | ((with_reducible refine gate_callee (f:=67) rfl ?_);refine goesL_ (some 93) rfl rfl Try.func67 (by kernel_rfl) rfl #[.slice Ao95 x8_4.length co95] rfl (by (try simp only [zz26,zz27,zz28]);first | done | rfl | (simp only [zz24,zz25];rfl)) ?_;(with_reducible refine (impl_table_party.calls k4 _ _ x8_4 t398 t399 _ ?side1 ?side2 A94.out).mono ?_);(case side1=>repeat (first | exact (Kd.R_reads' HO_8.out).2.2 | (with_reducible refine zz18 ?_ _) | (with_reducible refine zz19 ?_ _) | (with_reducible refine zz20 ?_)));(case side2=>exact (Kd.R_reads' HO_8.out).2.1);rintro e w96 ⟨v400,rfl,ho0,hb⟩;refine ⟨_,rfl,?_⟩;have n0_:=zz31 (Kd.R_below (by (with_reducible repeat (first | apply zz12 | apply zz13 | apply zz14));exact HO_8.out) hb);have n1_:=zz31 (Kd.R_lower ho0 (zz5 (by repeat first | exact HB.out | apply zz2 | apply zz0 | apply zz1 | refine zz3 ?_ GE384.out | refine zz3 ?_ GE385.out | refine zz3 ?_ GE386.out)));have n2_:=zz31 (zz11 (g:=gb384) (o:=.cells #[.int .i64 a0_0,.slice A0_1 l0_1.length c0_1] 30 (0,0)) (by (with_reducible repeat (first | refine zz6 ?_ _ | refine zz7 ?_ | refine zz8 ?_ _));exact BK384.out) hb);have n3_:=zz31 (zz11 (g:=gb385) (o:=.cells #[.int .i64 a1_0,.slice A1_1 l1_1.length c1_1] 30 (0,0)) (by (with_reducible repeat (first | refine zz6 ?_ _ | refine zz7 ?_ | refine zz8 ?_ _));exact BK385.out) hb);have n4_:=zz31 (zz11 (g:=gb386) (o:=.cells #[.int .i64 0,.slice none 0 0] 30 (0,0)) (by (with_reducible repeat (first | refine zz6 ?_ _ | refine zz7 ?_ | refine zz8 ?_ _));exact BK386.out) hb);have n5_:=zz31 (zz4 (by repeat first | exact HB.out | apply zz2 | apply zz0 | apply zz1 | refine zz3 ?_ GE384.out | refine zz3 ?_ GE385.out | refine zz3 ?_ GE386.out) hb);clear HO_8;clear BK384;clear BK385;clear BK386;clear HB;have HO_8:=n0_;have HO401:=n1_;have BK384:=n2_;have BK385:=n3_;have BK386:=n4_;have HB:=n5_;clear n0_ n1_ n2_ n3_ n4_ n5_;(try clear hb);(try clear hb2);(try clear hk);(try clear hi);(try clear ho0);have hnb97:=NB386_384.out;have hnc97:=NB384_386.out;have hnb98:=NB386_385.out;have hnc98:=NB385_386.out;have hcz99_0:w96.cell? ⟨gb386,0,none⟩=some (.int .i64 0):=(zz9 BK386.out 0).trans rfl;have hcz99_1:w96.cell? ⟨gb386,1,none⟩=some (.slice none 0 0):=(zz9 BK386.out 1).trans rfl;have hfz99_0:=zz10 BK386.out 0;have hfz99_1:=zz10 BK386.out 1;obtain ⟨Ao100,co100,eo100⟩:=Kd.R_slice HO401.out;subst eo100))
                refine bodyPost_ret (results_ct rfl _ _ gb386 30 #[.int .i64 t398,.slice Ao100 t399.length co100] (0,0) _ rfl (by (with_reducible repeat (first | refine zz6 ?_ _ | refine zz7 ?_ | refine zz8 ?_ _));refine blk_put (cs:=#[.int .i64 t398,.slice none 0 0]) ?_ 1 _ rfl;(with_reducible repeat (first | refine zz6 ?_ _ | refine zz7 ?_ | refine zz8 ?_ _));refine blk_put (cs:=#[.int .i64 0,.slice none 0 0]) ?_ 0 _ rfl;(with_reducible repeat (first | refine zz6 ?_ _ | refine zz7 ?_ | refine zz8 ?_ _));exact BK386.out) Try.underlying30 rfl (by kernel_rfl)) rfl ?_
                exact ⟨_,by first | rfl | (simp [errW_none,errW_some] <;> rfl) | (simp only [← hji36];first | rfl | (simp [errW_none,errW_some] <;> rfl)) | (simp [*,errW_none,errW_some] <;> rfl),by (with_reducible repeat (first | apply zz12 | apply zz13 | apply zz14));exact Kd.R_mono (Kd.R_far (p:=⟨gb386,1,none⟩) (Kd.R_far (p:=⟨gb386,0,none⟩) (Kd.R_types HO401.out BK386.out (by decide)) (fun _ hk=>hk.2) (.int .i64 t398)) (fun _ hk=>hk.2) (.slice Ao100 t399.length co100)) (fun _ hk=>trivial),by repeat first | exact HB.out | apply zz2 | apply zz0 | apply zz1 | refine zz3 ?_ GE384.out | refine zz3 ?_ GE385.out | refine zz3 ?_ GE386.out⟩
            ·replace c79:=Bool.eq_false_iff.mpr c79
             subst c79
             have H1:((impl_table_party.f k3 x8_3).bind fun bt403=>(some (bt403.1,bt403.2,true)))=some (r1,r2,r3):=by rw [if_neg (show ¬ (false=true) by decide)] at H;exact H
             clear H
             have H:=H1
             clear H1
             replace H:=zz30.mp H
             obtain ⟨⟨t403,t404⟩,A1010,H⟩:=H
             replace H:(some (t403,t404,true))=some (r1,r2,r3):=H
             have A101:=zz31 A1010
             clear A1010
             simp only [Option.some.injEq,Prod.mk.injEq] at H
             obtain ⟨rfl,rfl,rfl⟩:=H
             obtain ⟨Ao102,co102,eo102⟩:=Kd.R_slice HO_8.out
             subst eo102
             go_wp2_with (first | ((with_reducible refine gate_callee (f:=67) rfl ?_);refine goesL_ (some 93) rfl rfl Try.func67 (by kernel_rfl) rfl #[.slice Ao102 x8_3.length co102] rfl (by (try simp only [zz26,zz27,zz28]);first | done | rfl | (simp only [zz24,zz25];rfl)) ?_;(with_reducible refine (impl_table_party.calls k3 _ _ x8_3 t403 t404 _ ?side1 ?side2 A101.out).mono ?_);(case side1=>repeat (first | exact (Kd.R_reads' HO_8.out).2.2 | (with_reducible refine zz18 ?_ _) | (with_reducible refine zz19 ?_ _) | (with_reducible refine zz20 ?_)));(case side2=>exact (Kd.R_reads' HO_8.out).2.1);rintro e w103 ⟨v405,rfl,ho0,hb⟩;refine ⟨_,rfl,?_⟩;have n0_:=zz31 (Kd.R_below (by (with_reducible repeat (first | apply zz12 | apply zz13 | apply zz14));exact HO_8.out) hb);have n1_:=zz31 (Kd.R_lower ho0 (zz5 (by repeat first | exact HB.out | apply zz2 | apply zz0 | apply zz1 | refine zz3 ?_ GE384.out | refine zz3 ?_ GE385.out | refine zz3 ?_ GE386.out)));have n2_:=zz31 (zz11 (g:=gb384) (o:=.cells #[.int .i64 a0_0,.slice A0_1 l0_1.length c0_1] 30 (0,0)) (by (with_reducible repeat (first | refine zz6 ?_ _ | refine zz7 ?_ | refine zz8 ?_ _));exact BK384.out) hb);have n3_:=zz31 (zz11 (g:=gb385) (o:=.cells #[.int .i64 a1_0,.slice A1_1 l1_1.length c1_1] 30 (0,0)) (by (with_reducible repeat (first | refine zz6 ?_ _ | refine zz7 ?_ | refine zz8 ?_ _));exact BK385.out) hb);have n4_:=zz31 (zz11 (g:=gb386) (o:=.cells #[.int .i64 0,.slice none 0 0] 30 (0,0)) (by (with_reducible repeat (first | refine zz6 ?_ _ | refine zz7 ?_ | refine zz8 ?_ _));exact BK386.out) hb);have n5_:=zz31 (zz4 (by repeat first | exact HB.out | apply zz2 | apply zz0 | apply zz1 | refine zz3 ?_ GE384.out | refine zz3 ?_ GE385.out | refine zz3 ?_ GE386.out) hb);clear HO_8;clear BK384;clear BK385;clear BK386;clear HB;have HO_8:=n0_;have HO406:=n1_;have BK384:=n2_;have BK385:=n3_;have BK386:=n4_;have HB:=n5_;clear n0_ n1_ n2_ n3_ n4_ n5_;(try clear hb);(try clear hb2);(try clear hk);(try clear hi);(try clear ho0);have hnb104:=NB386_384.out;have hnc104:=NB384_386.out;have hnb105:=NB386_385.out;have hnc105:=NB385_386.out;have hcz106_0:w103.cell? ⟨gb386,0,none⟩=some (.int .i64 0):=(zz9 BK386.out 0).trans rfl;have hcz106_1:w103.cell? ⟨gb386,1,none⟩=some (.slice none 0 0):=(zz9 BK386.out 1).trans rfl;have hfz106_0:=zz10 BK386.out 0;have hfz106_1:=zz10 BK386.out 1;obtain ⟨Ao107,co107,eo107⟩:=Kd.R_slice HO406.out;subst eo107))
             refine bodyPost_ret (results_ct rfl _ _ gb386 30 #[.int .i64 t403,.slice Ao107 t404.length co107] (0,0) _ rfl (by (with_reducible repeat (first | refine zz6 ?_ _ | refine zz7 ?_ | refine zz8 ?_ _));refine blk_put (cs:=#[.int .i64 t403,.slice none 0 0]) ?_ 1 _ rfl;(with_reducible repeat (first | refine zz6 ?_ _ | refine zz7 ?_ | refine zz8 ?_ _));refine blk_put (cs:=#[.int .i64 0,.slice none 0 0]) ?_ 0 _ rfl;(with_reducible repeat (first | refine zz6 ?_ _ | refine zz7 ?_ | refine zz8 ?_ _));exact BK386.out) Try.underlying30 rfl (by kernel_rfl)) rfl ?_
             exact ⟨_,by first | rfl | (simp [errW_none,errW_some] <;> rfl) | (simp only [← hji36];first | rfl | (simp [errW_none,errW_some] <;> rfl)) | (simp [*,errW_none,errW_some] <;> rfl),by (with_reducible repeat (first | apply zz12 | apply zz13 | apply zz14));exact Kd.R_mono (Kd.R_far (p:=⟨gb386,1,none⟩) (Kd.R_far (p:=⟨gb386,0,none⟩) (Kd.R_types HO406.out BK386.out (by decide)) (fun _ hk=>hk.2) (.int .i64 t403)) (fun _ hk=>hk.2) (.slice Ao107 t404.length co107)) (fun _ hk=>trivial),by repeat first | exact HB.out | apply zz2 | apply zz0 | apply zz1 | refine zz3 ?_ GE384.out | refine zz3 ?_ GE385.out | refine zz3 ?_ GE386.out⟩
     ·rw [if_neg c38] at H
      exact absurd H (by simp)
    ·rw [if_neg c37] at H
     exact absurd H (by simp)

end Go.Proofs.Ytialimbdkokdcaa.P
