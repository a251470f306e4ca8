-- PRINTED by print.py (a twelfth state) out of the translation. Not trusted: Lean checks it.
import Derived.Test.YtifkaefccghgdaaPx0
import Derived.Test.YtifkaefccghgdaaPx1
import Derived.Test.YtifkaefccghgdaaPx3
import Derived.Test.YtifkaefccghgdaaPx5
import Derived.Test.YtifkaefccghgdaaPx7
import Derived.Test.YtifkaefccghgdaaPx9
import Derived.Test.YtifkaefccghgdaaPx11
namespace Go.Proofs.Ytifkaefccghgdaa.P
open Go.RowKit Go.Proofs.YtifkaefccghgdaaW.PrintWords Go.Proofs.YtifkaefccghgdaaW.PrintLast Go.Proofs.YtifkaefccghgdaaW.PrintMore
open Bool renaming true → T, false → F
attribute [local go_sem] max2_int min2_int max_two min_two max_three min_three max_four min_four   -- for this text's walks alone
set_option linter.unusedVariables false
set_option linter.unusedSimpArgs false

/-! ### spec_grWays: function 50 (a contract of our own) -/
abbrev Hd:=Option Addr × Nat × Nat
abbrev encH (x:Hd):Value:=.slice x.1 x.2.1 x.2.2
abbrev KH:Kd Hd:=Kd.scalar encH (fun _=>rfl)
def dH:Hd:=(none,0,0)
def apW (tb:List (List Bool)) (a:Nat) (people:List Int):Bool:=people.all fun b=>!rdOf false (rd_L4 tb (a:Int)) b
def wys (tb:List (List Bool)) (C:Int):Nat→List (List Int)→Nat→Int
 | 0,_,_=>1
 | d+1,S,a =>
  let s:=(List.range S.length).foldl (fun s k=>if apW tb a (S.getD k [])=true then wrap64 (s+wys tb C d (S.set k (S.getD k [] ++ [(a:Int)])) (a+1)) else s) 0
  if (S.length:Int) < C then wrap64 (s+wrap64 ((C - (S.length:Int)) * wys tb C d (S ++ [[(a:Int)]]) (a+1))) else s
/-- The headers of the sets, and what they lead to. -/
def SetsAt (w:World) (hs:List Hd) (S:List (List Int)):Prop:=hs.length=S.length∧∀ k,k < S.length→(hs.getD k dH).2.1=(S.getD k []).length∧(S.getD k []).length≤(hs.getD k dH).2.2∧Kd.C (Kd.int .i64) w (hs.getD k dH).1 (S.getD k []).length (S.getD k [])
theorem SetsAt.below {w w':World} {hs:List Hd} {S:List (List Int)} (h:SetsAt w hs S) (hb:Below w.heap.size w w'):SetsAt w' hs S:=⟨h.1,fun k hk=>⟨(h.2 k hk).1,(h.2 k hk).2.1,Kd.C_below (h.2 k hk).2.2 hb⟩⟩
theorem C_keepS {w:World} {A:Option Addr} {n:Nat} {xs:List Int} (h:Kd.C (Kd.int .i64) w A n xs) {p:Addr} {x:Hd} (hp:w.cell? p=some (encH x)) (u:Value):Kd.C (Kd.int .i64) (w.setCell p u) A n xs:=by
 have h2:=Kd.reads_of_C (enc:=Value.int .i64) (d:=(0:Int)) (h1:=fun _=>rfl) h
 refine Kd.C_of_reads (d:=(0:Int)) ⟨h2.1,h2.2.1,fun hn=>?_⟩
 obtain ⟨ad,e,hc⟩:=h2.2.2 hn
 refine ⟨ad,e,fun j hj=>?_⟩
 have h3:=hc j hj
 rw [World.cell?_setCell_other w p (ad.add j) u (fun e=>by rw [← e,hp] at h3;cases h3)]
 exact h3
theorem SetsAt.put {w:World} {hs:List Hd} {S:List (List Int)} (h:SetsAt w hs S) (k:Nat) (hk:k < S.length) {p:Addr} {x:Hd} (hp:w.cell? p=some (encH x)) (A:Option Addr) (c:Nat) (ys:List Int) (hc:ys.length≤c) (hR:Kd.C (Kd.int .i64) w A ys.length ys):SetsAt (w.setCell p (.slice A ys.length c)) (hs.set k (A,ys.length,c)) (S.set k ys):=by
 refine ⟨by rw [List.length_set,List.length_set];exact h.1,fun j hj=>?_⟩
 rw [List.length_set] at hj
 have e1:∀ {α:Type} (l:List α) (d v:α),k < l.length→(l.set k v).getD j d=if k=j then v else l.getD j d:=fun l d v hl=>by
  rw [List.getD_eq_getElem?_getD,List.getD_eq_getElem?_getD,List.getElem?_set]
  by_cases e:k=j
  ·rw [if_pos e,if_pos e,if_pos (by omega)];rfl
  ·rw [if_neg e,if_neg e]
 rw [e1 hs dH _ (by rw [h.1];exact hk),e1 S [] _ hk]
 by_cases e:k=j
 ·rw [if_pos e,if_pos e]
  exact ⟨rfl,hc,C_keepS hR hp _⟩
 ·rw [if_neg e,if_neg e]
  exact ⟨(h.2 j hj).1,(h.2 j hj).2.1,C_keepS (h.2 j hj).2.2 hp _⟩
theorem SetsAt.snoc {w:World} {hs:List Hd} {S:List (List Int)} (h:SetsAt w hs S) (A:Option Addr) (c:Nat) (ys:List Int) (hc:ys.length≤c) (hR:Kd.C (Kd.int .i64) w A ys.length ys):SetsAt w (hs ++ [(A,ys.length,c)]) (S ++ [ys]):=by
 refine ⟨by simp [h.1],fun j hj=>?_⟩
 have e1:∀ {α:Type} (l:List α) (d v:α),(l ++ [v]).getD j d=if j < l.length then l.getD j d else if j=l.length then v else d:=fun l d v=>by
  rw [List.getD_eq_getElem?_getD,List.getD_eq_getElem?_getD]
  by_cases e:j < l.length
  ·rw [if_pos e,List.getElem?_append_left e]
  ·rw [if_neg e,List.getElem?_append_right (by omega)]
   by_cases e2:j=l.length
   ·rw [if_pos e2,e2];simp
   ·rw [if_neg e2,List.getElem?_eq_none (by simp;omega)];rfl
 rw [List.length_append,List.length_singleton] at hj
 rw [e1,e1,h.1]
 by_cases e:j < S.length
 ·rw [if_pos e,if_pos e];exact h.2 j e
 ·rw [if_neg e,if_neg e,if_pos (by omega),if_pos (by omega)]
  exact ⟨rfl,hc,hR⟩
/-- A header written, and written back. -/
theorem back_again {n g k:Nat} {w wr w0 w1 w2:World} {cur:List Value} {t:TypeId} {u v:Value} (hr:Below n w wr) (hn:n≤wr.heap.size) (hg:wr.heap[g]?=some (.cells cur.toArray t (0,0))) (hk:cur[k]?=some v) (h0:Below wr.heap.size wr w0) (e1:w1=w0.setCell ⟨g,k,none⟩ u) (h2:Below w1.heap.size w1 w2):Below n w (w2.setCell ⟨g,k,none⟩ v):=by
 subst e1
 have hs1:(w0.setCell ⟨g,k,none⟩ u).heap.size=w0.heap.size:=by simp [World.setCell]
 have hg0:=zz11 hg h0
 have hlt:=blk_lt hg0
 have hg1:=blk_set hg0 k u
 have hg2:=(h2.block g (by rw [hs1];exact hlt)).trans hg1
 have hg3:=blk_set hg2 k v
 have ecur:((cur.toArray.setIfInBounds k u).setIfInBounds k v)=cur.toArray:=by
  apply Array.ext'
  simp
  apply List.ext_getElem?
  intro i
  by_cases e:k=i
  ·subst e
   obtain ⟨hl,_⟩:=List.getElem?_eq_some_iff.1 hk
   rw [List.getElem?_set_self hl];exact hk.symm
  ·rw [List.getElem?_set_ne e]
 rw [ecur] at hg3
 have hgl:=blk_lt hg
 refine ⟨?_,?_,?_,?_,fun i hi=>?_⟩
 ·exact h2.os.trans (h0.os.trans hr.os)
 ·exact h2.tape.trans (h0.tape.trans hr.tape)
 ·exact h2.output.trans (h0.output.trans hr.output)
 ·have:=h2.size;have:=h0.size;have:=hr.size;simp [World.setCell] at *;omega
 ·by_cases e:i=g
  ·subst e
   exact hg3.trans (hg.symm.trans (hr.block i hi))
  ·rw [Below.heap_setCell _ _ _ i e,h2.block i (by rw [hs1];have:=h0.size;omega),Below.heap_setCell _ _ _ i e,h0.block i (by omega)]
   exact hr.block i hi
theorem infoSets:(Try.prog.info? 25).map (fun i=>(i.zero,i.size,i.bytes))=some (some (.slice none 0 0),1,24):=by kernel_rfl
set_option maxHeartbeats 8000000 in
set_option maxRecDepth 100000 in
theorem ways_calls (tb:List (List Bool)) (h8:tb.length≤8) (hsq:∀ i:Int,0≤i→i < (tb.length:Int)→(rd_L4 tb i).length=tb.length) (A0:Option Addr) (c0:Nat) (hc0:tb.length≤c0) (C:Int) (hC0:0≤C) (hC1:C≤12) (w0:World) (hr0:Kd.C (Kd.slice 4 Kd.bool) w0 A0 tb.length tb) :
  ∀ (d:Nat) (S:List (List Int)) (hs:List Hd) (a:Nat) (w:World) (A:Option Addr) (c:Nat),a+d=tb.length→S.length≤a→(∀ p ∈ S,p.length≤a∧∀ b ∈ p,0≤b∧b < (a:Int))→Below w0.heap.size w0 w→(hs=[] ∨ Kd.R KH 25 w w0.heap.size (fun _=>True) (.slice A S.length c) hs)→SetsAt w hs S →
   Calls Try.prog 50 #[.slice A0 tb.length c0,.slice A S.length c,.int .i64 (a:Int),.int .i64 C] w fun e w'=>e=.returned (.int .i64 (wys tb C d S a))∧Below w.heap.size w w'
 | 0,S,hs,a,w,A,c,had,hSa,hSp,hB,hR,hSS=>by
  have e0:((a:Int) == (tb.length:Int))=true:=beq_iff_eq.2 (by omega)
  clear hR hSS hSp hr0 hsq
  go_enter Try.func50,Try.ntmps50
  go_wp2
  go_ret
  exact ⟨rfl,Below.refl _ _⟩
 | d+1,S,hs,a,w,A,c,had,hSa,hSp,hB,hR,hSS=>by
  have IH:=zz31 (ways_calls tb h8 hsq A0 c0 hc0 C hC0 hC1 w0 hr0 d)
  have e0:((a:Int) == (tb.length:Int))=false:=beq_eq_false_iff_ne.2 (by omega)
  have HSQ:=zz31 hsq
  have HT:=zz31 hr0
  have HC0:=zz31 hc0
  have HSP:=zz31 hSp
  have HB:=zz31 hB
  have HR:=zz31 hR
  have HSS:=zz31 hSS
  have HAD:=zz31 had
  have ha8:(a:Int) < 8:=by omega
  have haL:(a:Int) < (tb.length:Int):=by omega
  clear hsq hr0 hc0 hSp hB hR hSS had
  go_enter Try.func50,Try.ntmps50
  go_wp2
  go_loopg [9,21] S.length (fun gg v9 v21 wr=>∃ (k:Nat) (s:Int),k≤S.length∧S.length - k≤gg∧v21=.int .i64 k∧v9=.int .i64 s∧Aside0 (s=(List.range k).foldl (fun s k=>if apW tb a (S.getD k [])=true then wrap64 (s+wys tb C d (S.set k (S.getD k [] ++ [(a:Int)])) (a+1)) else s) 0)∧Aside0 (Below w.heap.size w wr))
  case atStart=>exact ⟨0,0,by omega,by omega,by rfl,by rfl,⟨rfl⟩,⟨Below.refl _ _⟩⟩
  case round =>
   obtain ⟨k,s,hk,hgg,rfl,rfl,HS,HBr⟩:=hrel
   by_cases hlt:k < S.length
   ·have hltz:(k:Int) < (S.length:Int):=by omega
    have HTr:=zz31 (Kd.C_below HT.out (HB.out.trans (HBr.out.mono HB.out.size)))
    have HSr:=zz31 (HSS.out.below HBr.out)
    have HRr:=zz31 (Kd.R_below (HR.out.resolve_left (fun h=>by
     have h9:=HSr.out.1
     rw [h] at h9
     simp only [List.length_nil] at h9
     omega)) HBr.out)
    obtain ⟨p,hp⟩:∃ p,p=S.getD k []:=⟨_,rfl⟩
    have hpm:p ∈ S:=by rw [hp,List.getD_eq_getElem?_getD,List.getElem?_eq_getElem hlt];exact List.getElem_mem hlt
    obtain ⟨hpl,hpb⟩:=HSP.out p hpm
    obtain ⟨hh1,hh2,hh3⟩:=HSr.out.2 k hlt
    rw [← hp] at hh1 hh2 hh3
    have hcl:=HSr.out.1
    have hform:=Kd.R_form HRr.out (by omega)
    obtain ⟨g,cap,eV,gb,gl,gcl⟩:=hform
    injection eV with eA eN eC
    subst eA
    subst eC
    obtain ⟨hx,hf⟩:=Kd.R_celln dH HRr.out (k:Int) (by omega) (by omega)
    rw [Int.toNat_natCast] at hx hf
    have ex:encH (rdOf dH hs (k:Int))=.slice (hs.getD k dH).1 p.length (hs.getD k dH).2.2:=by
     unfold rdOf
     rw [Int.toNat_natCast,← hh1]
    rw [ex] at hx
    obtain ⟨Ak,hAk⟩:∃ Ak,Ak=(hs.getD k dH).1:=⟨_,rfl⟩
    obtain ⟨ck,hck⟩:∃ ck,ck=(hs.getD k dH).2.2:=⟨_,rfl⟩
    rw [← hAk] at hh3 hx
    rw [← hck] at hh2 hx
    have HP:=zz31 hp
    have HPC:=zz31 hh3
    have HPB:=zz31 hpb
    have HX:=zz31 hx
    have HAk:=zz31 hAk
    have HCk:=zz31 hck
    have hck2:p.length≤ck:=hh2
    have HPL:=zz31 hpl
    obtain ⟨cells,hcells⟩:=gcl
    have HCK:=zz31 (show cells[k]?=some (.slice Ak p.length ck) from by
     have h9:=hx
     simpa [World.cell?,hcells] using h9)
    clear hp hpm hpb hh1 hh3 hcl eN ex hAk hck hh2
    obtain ⟨adT,A2,c2,eT,hxT,_,hrT⟩:=at_L4 HTr.out (a:Int) (by omega) haL
    subst eT
    have hlT:=HSQ.out (a:Int) (by omega) haL
    rw [hlT,Int.toNat_natCast] at hxT
    rw [hlT] at hrT
    have HRT:=zz31 hrT
    have HLT:=zz31 hlT
    clear hrT hlT
    go_wp2
    go_loop [12,28] (fun v12 v28=>∃ j:Nat,j≤p.length∧v28=.int .i64 j∧v12=.bool ((p.take j).all fun b=>!rdOf false (rd_L4 tb (a:Int)) b)) (fun _ i=>p.length - (intOf i).toNat)
    case atStart=>exact ⟨0,Nat.zero_le _,rfl,by simp⟩
    case round =>
     obtain ⟨j,hj,rfl,rfl⟩:=hrel
     by_cases hjl:j < p.length
     ·have hjz:(j:Int) < (p.length:Int):=by omega
      obtain ⟨adP,eP,hxP⟩:=Kd.at_int HPC.out (j:Int) (by omega) hjz
      rw [Int.toNat_natCast] at hxP
      obtain ⟨b,hb⟩:∃ b,b=rd p (j:Int):=⟨_,rfl⟩
      have hbe:p[j]?=some b:=by
       rw [hb]
       unfold rd
       rw [Int.toNat_natCast,List.getD_eq_getElem?_getD,List.getElem?_eq_getElem hjl];rfl
      obtain ⟨hb0,hb1⟩:=HPB.out b (List.mem_of_getElem? hbe)
      have hb2:b < (tb.length:Int):=by omega
      rw [← hb] at hxP
      obtain ⟨adR,eR,hxR⟩:=Kd.at_bool HRT.out b hb0 hb2
      obtain ⟨t,ht⟩:∃ t,t=rdOf false (rd_L4 tb (a:Int)) b:=⟨_,rfl⟩
      have HSTEP:=zz31 (show ((p.take (j+1)).all fun b=>!rdOf false (rd_L4 tb (a:Int)) b)=(((p.take j).all fun b=>!rdOf false (rd_L4 tb (a:Int)) b) && !t) from by
       rw [List.take_add_one,hbe,List.all_append,ht];simp)
      rw [← ht] at hxR
      obtain ⟨b12,hb12⟩:∃ b12,b12=((p.take j).all fun b=>!rdOf false (rd_L4 tb (a:Int)) b):=⟨_,rfl⟩
      rw [← hb12] at HSTEP
      rw [← hb12]
      clear hb12 hbe hb ht
      rw [eP] at hx
      subst eR
      cases b12 with
      | false =>
       go_wp2
       refine ⟨⟨j+1,by omega,by go_num,by rw [HSTEP.out];simp⟩,by simp [intOf];omega⟩
      | true =>
       go_wp2
       refine ⟨⟨j+1,by omega,by go_num,by rw [HSTEP.out];simp⟩,by simp [intOf];omega⟩
     ·have hjz:¬ (j:Int) < (p.length:Int):=by omega
      obtain rfl:j=p.length:=by omega
      obtain ⟨ap,hap⟩:∃ ap,ap=apW tb a p:=⟨_,rfl⟩
      rw [List.take_length,show (p.all fun b=>!rdOf false (rd_L4 tb (a:Int)) b)=ap from hap.symm]
      have HNX:=zz31 (show (List.range (k+1)).foldl (fun s k=>if apW tb a (S.getD k [])=true then wrap64 (s+wys tb C d (S.set k (S.getD k [] ++ [(a:Int)])) (a+1)) else s) 0=if ap=true then wrap64 (s+wys tb C d (S.set k (p ++ [(a:Int)])) (a+1)) else s from by
       rw [List.range_succ,List.foldl_append,List.foldl_cons,List.foldl_nil,← HS.out,← HP.out,← hap])
      clear hap
      cases ap with
      | false =>
       go_wp2
       go_roundg (S.length - (k+1))
       case measure=>omega
       case rel=>exact ⟨k+1,s,by omega,by omega,by go_num,by rfl,⟨by rw [HNX.out];rfl⟩,⟨by repeat first | exact HBr.out | apply zz0 | apply below_drew⟩⟩
      | true =>
       have HOwn:=zz31 (show spec_l1Own.f p=some p from by
        unfold spec_l1Own.f
        simp only [Option.bind_some,List.length_nil,Nat.zero_add,if_pos (show p.length < 17592186044416 by omega),List.nil_append])
       have HLc:=zz31 (show (p.length+1) * 8≤140737488355328 from by omega)
       have HCELL:=zz31 hcells
       clear hcells hf hx
       go_wp2_with (first | (go_at_call 35; refine (spec_l1Own.calls Ak ck p p _ ?_ hck2 HOwn.out).mono ?_; (repeat (first | exact HPC.out | (with_reducible refine zz19 ?_ _) | (with_reducible refine zz20 ?_))); rintro e' w5 ⟨v5, rfl, ho, hb⟩; have HB5 := zz31 (zz4 (w := wr) (by repeat (first | exact Below.refl _ _ | apply zz0 | apply below_drew)) hb); have HO5 := zz31 (Kd.R_mono (ok' := fun k => wr.heap.size ≤ k) (Kd.R_bound ho) (fun k hk => hk.2.1)); clear ho hb) | (at_builtin; refine Kd.R_append (Kd.int .i64) (w0 := wr) wr.heap.size rfl (.tmp 48) (.tmp 50) 25 3 (.int .i64 0) 8 rfl Try.underlying25 info3 rfl (by decide) (by omega) v5 p (a : Int) [.int .i64 (a : Int)] (fun k => wr.heap.size ≤ k) (fun _ => False) rfl rfl ?_ (fun _ hk => hk.elim) ?_ ?_ ?_ ?_ HLc.out ?_; exact rfl; exact (fun k hk => Nat.le_trans HB5.out.size hk); exact HO5.out; exact HB5.out; exact HB5.out.size; intro v6 w6 ho hb hg hat; obtain ⟨A6, c6, rfl⟩ := Kd.R_slice ho; have HO6 := zz31 ho; have HB6 := zz31 hb; clear ho hb hg hat; have HXg := zz31 (zz11 HCELL.out HB6.out); have g1 := zz9 HXg.out k; have g2 := zz10 HXg.out k; rw [HCK.out] at g1) | (fail "no arm"))
       obtain ⟨q,hq⟩:∃ q,q=p ++ [(a:Int)]:=⟨_,rfl⟩
       obtain ⟨N,hN⟩:∃ N,N=p.length+1:=⟨_,rfl⟩
       have hql:q.length=N:=by rw [hq,hN,List.length_append,List.length_singleton]
       have hO6:=HO6.out
       rw [List.length_append,List.length_singleton,← hN,← hq] at hO6
       rw [← hN]
       have hR6:=Kd.R_reads' hO6
       obtain ⟨W1,hW1⟩:∃ W1:World,W1=w6.setCell ⟨g,k,none⟩ (.slice A6 N c6):=⟨_,rfl⟩
       have hS1:=SetsAt.put (HSr.out.below HB6.out) k hlt (x:=(Ak,p.length,ck)) g1 A6 c6 q (by rw [hql];exact hR6.2.1) hR6.2.2
       rw [hql,← hW1] at hS1
       have hR1:=(Kd.R_putg (Kd.R_below HRr.out HB6.out) (k:Int) ((A6,N,c6):Hd)).1
       rw [Int.toNat_natCast] at hR1
       have hR1:Kd.R KH 25 W1 w0.heap.size (fun _=>True) (.slice (some ⟨g,0,none⟩) S.length c) (hs.set k (A6,N,c6)):=by rw [hW1];exact hR1
       have hBW:Below w0.heap.size w0 W1:=by rw [hW1];exact zz3 ((HB.out.trans (HBr.out.mono HB.out.size)).trans (HB6.out.mono (HB.out.trans (HBr.out.mono HB.out.size)).size)) gb
       have hX1:W1.heap[g]?=some (.cells (cells.setIfInBounds k (.slice A6 N c6)) 25 (0,0)):=by rw [hW1];exact blk_set HXg.out k _
       have hS':∀ p ∈ S.set k q,p.length≤a+1∧∀ b ∈ p,0≤b∧b < ((a+1:Nat):Int):=fun p2 hp2=>by
        rcases List.mem_or_eq_of_mem_set hp2 with h | h
        ·have:=HSP.out p2 h
         exact ⟨by omega,fun b hb=>by have:=this.2 b hb;omega⟩
        ·subst h
         refine ⟨by have:=HPL.out;omega,fun b hb=>?_⟩
         rw [hq,List.mem_append,List.mem_singleton] at hb
         rcases hb with hb | hb
         ·have:=HPB.out b hb;omega
         ·omega
       have hIH:=IH.out (S.set k q) (hs.set k (A6,N,c6)) (a+1) W1 (some ⟨g,0,none⟩) c (by have:=HAD.out;omega) (by rw [List.length_set];omega) hS' hBW (.inr (by rw [List.length_set];exact hR1)) hS1
       rw [List.length_set,show ((a+1:Nat):Int)=(a:Int)+1 from rfl] at hIH
       have HIH:=zz31 hIH
       have HX1:=zz31 hX1
       have HW1:=zz31 hW1
       rw [← hq] at HNX
       rw [← hW1]
       have HkC:=zz31 (show k < cells.size from (Array.getElem?_eq_some_iff.1 HCK.out).1)
       clear hIH hX1 hW1 hS' hBW hR1 hS1 hR6 hO6 g1 g2 hq hN hql
       refine HIH.out.mono ?_
       rintro e' w7 ⟨rfl,hb7⟩
       have HB7:=zz31 hb7
       have HX7:=zz31 (zz11 HX1.out hb7)
       have g1:=zz9 HX7.out k
       have g2:=zz10 HX7.out k
       rw [Array.getElem?_setIfInBounds_self_of_lt HkC.out] at g1
       have HFIN:=zz31 (back_again (cur:=cells.toList) HBr.out HBr.out.size (by simpa using HCELL.out) (by simpa using HCK.out) HB6.out HW1.out hb7)
       clear hb7
       go_wp2
       go_roundg (S.length - (k+1))
       case measure=>omega
       case rel=>exact ⟨k+1,_,by omega,by omega,by go_num,by rfl,⟨by rw [HNX.out];rfl⟩,⟨by repeat first | exact HFIN.out | apply zz0 | apply below_drew⟩⟩
   ·have hltz:¬ (k:Int) < (S.length:Int):=by omega
    obtain rfl:k=S.length:=by omega
    have HSr:=zz31 (HSS.out.below HBr.out)
    have hhl:=HSr.out.1
    have HCr:=zz31 (show Kd.C KH wr A S.length hs from by
     rcases HR.out with h | h
     ·have h0:S.length=0:=by rw [← hhl,h];rfl
      rw [h0,h]
      exact Kd.C_of_reads (enc:=encH) (h1:=fun _=>rfl) (d:=dH) ⟨rfl,by simp [maxLen],fun hn=>absurd hn (by omega)⟩
     ·exact hhl ▸ (Kd.R_reads' (Kd.R_below h HBr.out)).2.2)
    have HLe:=zz31 hhl
    have HLL:=zz31 (show (hs.length+1) * 24≤140737488355328 from by rw [hhl];omega)
    have HTr:=zz31 (HB.out.trans (HBr.out.mono HB.out.size))
    clear hhl
    by_cases hCS:(S.length:Int) < C
    ·have HFIN:=zz31 (show wys tb C (d+1) S a=wrap64 (s+wrap64 ((C - (S.length:Int)) * wys tb C d (S ++ [[(a:Int)]]) (a+1))) from by rw [wys,← HS.out,if_pos hCS])
     go_wp2_with (first | ((with_reducible refine gate_dst (N := 76) rfl ?_); refine Kd.R_lit KH (w0 := wr) wr.heap.size 25 ?hg (N := 76) ?hd (xs := ([] : List Hd)) (inner := []) (ok := fun _ => True) (okp := fun _ => True) ?hr ?hp (fun _ hk => hk) trivial (Below.refl _ _) (Nat.le_refl _) (by simp) ?_; (case hd => rfl); (case hg => rfl); (case hr => first | (go_simp; done) | (go_simp; rfl)); (case hp => exact (Reps.none _ _)); intro v3 w3 ho hb hg_ hnew_; clear hg_ hnew_; have HO3 := zz31 ho; have HB3 := zz31 hb; clear ho hb) | ((with_reducible refine gate_dst (N := 78) rfl ?_); refine Kd.R_append_rows KH (w0 := wr) wr.heap.size rfl (.tmp 76) (.tmp 77) 45 25 _ 24 rfl Try.underlying45 infoSets rfl (by decide) (by omega) v3 [] hs _ _ _ (fun _ => True) (fun _ => False) rfl rfl HO3.out (Kd.C_below HCr.out HB3.out) ?aR (fun _ h => h.elim) (fun _ _ => trivial) HB3.out HB3.out.size ?aL ?_; (case aR => intro x cs hx; exact hx); (case aL => (have := HLL.out; have := HLe.out; simp; omega)); intro v4 w4 ho4 hb4 hg4 hn4; clear hg4 hn4; rw [List.nil_append] at ho4; have HO4 := zz31 ho4; have HB4 := zz31 hb4; clear ho4 hb4) | ((with_reducible refine gate_dst (N := 82) rfl ?_); refine Kd.R_append KH (w0 := wr) (W := w4.alloc (.cells #[.int .i64 (a : Int)] 3)) wr.heap.size rfl (.tmp 78) (.tmp 81) 45 25 (.slice none 0 0) 24 rfl Try.underlying45 infoSets rfl (by decide) (by omega) v4 hs (some ⟨w4.heap.size, 0, none⟩, 1, 1) [.slice (some ⟨w4.heap.size, 0, none⟩) 1 1] (fun _ => True) (fun _ => False) rfl (by rw [show (w4.alloc (.cells #[.int .i64 (a : Int)] 3)).heap.size = w4.heap.size + 1 from by simp]; rfl) ?_ (fun _ hk => hk.elim) (fun _ _ => trivial) ?_ ?_ ?_ HLL.out ?_; exact rfl; exact Kd.R_below HO4.out (zz2 (Below.refl _ _) _); exact zz2 HB4.out _; exact Nat.le_trans HB4.out.size (by simp); intro v5 w5 ho hb hg hat; obtain ⟨A5, c5, rfl⟩ := Kd.R_slice ho; have HO5 := zz31 ho; have HB5 := zz31 hb; have HG5 := zz31 hg; clear ho hb hg hat) | (fail "no arm"))
     obtain ⟨q,hq⟩:∃ q:List (List Int),q=S ++ [[(a:Int)]]:=⟨_,rfl⟩
     have hql:q.length=S.length+1:=by rw [hq,List.length_append,List.length_singleton]
     have hlt4:w4.heap.size < (w4.alloc (.cells #[.int .i64 (a:Int)] 3)).heap.size:=by simp
     have hX5:w5.heap[w4.heap.size]?=some (.cells #[.int .i64 (a:Int)] 3 (0,0)) :=
      (HG5.out.block _ hlt4 (fun he=>by have:=Kd.R_lt HO4.out _ he.symm;omega)).trans (blk_new w4 _)
     have hSN:=SetsAt.snoc (HSr.out.below HB5.out) (some ⟨w4.heap.size,0,none⟩) 1 [(a:Int)] (Nat.le_refl _) (Kd.C_of_reads (enc:=Value.int .i64) (h1:=fun _=>rfl) (d:=(0:Int)) ⟨rfl,by simp [maxLen],fun _=>⟨⟨w4.heap.size,0,none⟩,rfl,fun j hj=>by
      have hj0:j=0:=by simpa using hj
      subst hj0
      exact zz9 hX5 0⟩⟩)
     rw [← hq] at hSN
     have hO5:=Kd.R_lower HO5.out HTr.out.size
     have hBW:=HTr.out.trans (HB5.out.mono HTr.out.size)
     have hS':∀ p ∈ q,p.length≤a+1∧∀ b ∈ p,0≤b∧b < ((a+1:Nat):Int):=fun p2 hp2=>by
      rw [hq,List.mem_append,List.mem_singleton] at hp2
      rcases hp2 with h | h
      ·have:=HSP.out p2 h
       exact ⟨by omega,fun b hb=>by have:=this.2 b hb;omega⟩
      ·subst h
       refine ⟨by simp,fun b hb=>?_⟩
       rw [List.mem_singleton] at hb
       omega
     have hIH:=IH.out q (hs ++ [(some ⟨w4.heap.size,0,none⟩,1,1)]) (a+1) w5 A5 c5 (by have:=HAD.out;omega) (by omega) hS' hBW (.inr (by rw [hql];rw [List.length_append,List.length_singleton,HLe.out] at hO5;exact hO5)) hSN
     rw [hql,show S.length=hs.length from HLe.out.symm] at hIH
     have HIH:=zz31 hIH
     rw [hq] at HIH
     clear hIH hSN hO5 hBW hS' hX5 hlt4 hql hq
     refine HIH.out.mono ?_
     rintro e' w7 ⟨rfl,hb7⟩
     have HB7:=zz31 hb7
     clear hb7
     go_wp2
     go_ret
     exact ⟨by rw [HFIN.out];rfl,by repeat first | exact (HBr.out.trans (HB5.out.mono HBr.out.size)).trans (HB7.out.mono (HBr.out.trans (HB5.out.mono HBr.out.size)).size) | apply zz0 | apply below_drew⟩
    ·have HFIN:=zz31 (show wys tb C (d+1) S a=s from by rw [wys,← HS.out,if_neg hCS])
     go_wp2
     go_ret
     exact ⟨by rw [HFIN.out];rfl,by repeat first | exact HBr.out | apply zz0 | apply below_drew⟩
def spec_grWays.f (l0:List (List Bool)) (l1:List (List Int)) (a2 a3:Int):Option Int :=
 if l1=[]∧a2=0∧l0.length≤8∧(l0.all fun r=>decide (r.length=l0.length))=true∧0≤a3∧a3≤12 then some (wys l0 a3 l0.length [] 0) else none
set_option maxHeartbeats 1000000 in
theorem spec_grWays.calls (A0:Option Addr) (c0:Nat) (l0:List (List Bool)) (A1:Option Addr) (c1:Nat) (l1:List (List Int)) (a2 a3:Int) (r:Int) (w:World) (hr0:Kd.C (Kd.slice 4 Kd.bool) w A0 l0.length l0) (hc0:l0.length≤c0) (hr1:Kd.C (Kd.slice 3 (Kd.int .i64)) w A1 l1.length l1) (hc1:l1.length≤c1) (h:spec_grWays.f l0 l1 a2 a3=some r) :
  Calls Try.prog 50 #[.slice A0 l0.length c0,.slice A1 l1.length c1,.int .i64 a2,.int .i64 a3] w fun e w'=>e=.returned (.int .i64 r)∧Below w.heap.size w w':=by
 unfold spec_grWays.f at h
 by_cases hc:l1=[]∧a2=0∧l0.length≤8∧(l0.all fun r=>decide (r.length=l0.length))=true∧0≤a3∧a3≤12
 case neg=>rw [if_neg hc] at h;exact absurd h (by simp)
 rw [if_pos hc] at h
 injection h with h
 obtain ⟨rfl,rfl,h8,hall,hC0,hC1⟩:=hc
 have hsq:∀ i:Int,0≤i→i < (l0.length:Int)→(rd_L4 l0 i).length=l0.length:=fun i h0 h1=>by
  have hlt:i.toNat < l0.length:=by omega
  have:=List.all_eq_true.1 hall l0[i.toNat] (List.getElem_mem hlt)
  unfold rd_L4
  rw [List.getD_eq_getElem?_getD,List.getElem?_eq_getElem hlt]
  exact zz29 this
 rw [← h]
 exact ways_calls l0 h8 hsq A0 c0 hc0 a3 hC0 hC1 w hr0 l0.length [] [] 0 w A1 c1 (by omega) (Nat.le_refl _) (fun p hp=>by cases hp) (Below.refl _ _) (.inl rfl) ⟨rfl,fun k hk=>by cases hk⟩

/-! ### spec_CountColourings: function 19 -/
def spec_CountColourings.j0:Nat→Int→Bool→Int→List (S79)→Option (Int × Bool)
 | 0,_,_,_,_=>none
 | k+1,x1,x13,x376000,x376001=>if x13=true then (some (0,false)) else ((spec_paTable.f k x376000 x376001).bind fun t378=>((spec_grWays.f t378 ([]:List (List Int)) 0 x1).bind fun t381=>(some (t381,true))))
def spec_CountColourings.f (k:Nat) (a0_0:Int) (l0_1:List (S79)) (a1:Int):Option (Int × Bool):=(spec_grFew.f k a0_0 l0_1).bind fun t376=>(if t376=true then ((spec_l1In.f a1 0 12).bind fun t377=>(spec_CountColourings.j0 k a1 (!t377) a0_0 l0_1)) else (spec_CountColourings.j0 k a1 true a0_0 l0_1))
theorem spec_CountColourings.mono_l:∀ k,(∀ y0 y1 y2 y3,LeO (spec_CountColourings.j0 k y0 y1 y2 y3) (spec_CountColourings.j0 (k+1) y0 y1 y2 y3))
 | 0=>fun _ _ _ _ r h=>by simp [spec_CountColourings.j0] at h
 | k+1=>by
  have ih0:=spec_CountColourings.mono_l k
  ·intro y0 y1 y2 y3
   unfold spec_CountColourings.j0
   repeat' first
   | (with_reducible exact ih0 _ _ _ _)
   | (with_reducible exact spec_grFew.mono _ _ _)
   | (with_reducible exact spec_paTable.mono _ _ _)
   | (with_reducible exact LeO.refl _)
   | (with_reducible exact LeO.none _)
   | (with_reducible refine LeO.ite ?_ ?_)
   | (with_reducible refine LeO.bind ?_ (fun _=>?_))
   | exact ih0 _ _ _ _
   | exact spec_grFew.mono _ _ _
   | exact spec_paTable.mono _ _ _
   | exact LeO.none _
   | refine LeO.ite ?_ ?_
   | refine LeO.bind ?_ (fun _=>?_)
theorem spec_CountColourings.mono:∀ a0 a1 a2 k,LeO (spec_CountColourings.f k a0 a1 a2) (spec_CountColourings.f (k+1) a0 a1 a2):=by
 intro a0 a1 a2 k
 have ih0:=spec_CountColourings.mono_l k
 unfold spec_CountColourings.f
 repeat' first
   | (with_reducible exact ih0 _ _ _ _)
   | (with_reducible exact spec_grFew.mono _ _ _)
   | (with_reducible exact spec_paTable.mono _ _ _)
   | (with_reducible exact LeO.refl _)
   | (with_reducible exact LeO.none _)
   | (with_reducible refine LeO.ite ?_ ?_)
   | (with_reducible refine LeO.bind ?_ (fun _=>?_))
   | exact ih0 _ _ _ _
   | exact spec_grFew.mono _ _ _
   | exact spec_paTable.mono _ _ _
   | exact LeO.none _
   | refine LeO.ite ?_ ?_
   | refine LeO.bind ?_ (fun _=>?_)
set_option maxHeartbeats 8000000 in
set_option maxRecDepth 100000 in
theorem spec_CountColourings.calls (k:Nat) (a0_0:Int) (A0_1:Option Addr) (c0_1:Nat) (l0_1:List (S79)) (a1:Int) (r1:Int) (r2:Bool) (w:World) (hr0_1:Kd.C k79 w A0_1 l0_1.length l0_1) (hc0_1:l0_1.length≤c0_1) (h:spec_CountColourings.f k a0_0 l0_1 a1=some (r1,r2)) :
  Calls Try.prog 19 #[.agg #[.int .i64 a0_0,.slice A0_1 l0_1.length c0_1],.int .i64 a1] w fun e w'=>e=.returned (.tuple #[.int .i64 r1,.bool r2])∧Below w.heap.size w w':=by
 have hu31:=Try.underlying31
 have HR0_1:=zz31 hr0_1
 have HC0_1:=zz31 hc0_1
 clear hr0_1 hc0_1
 have HB:=zz31 (Below.refl w.heap.size w)
 have H:((spec_grFew.f k a0_0 l0_1).bind fun t376=>(if t376=true then ((spec_l1In.f a1 0 12).bind fun t377=>(spec_CountColourings.j0 k a1 (!t377) a0_0 l0_1)) else (spec_CountColourings.j0 k a1 true a0_0 l0_1)))=some (r1,r2):=h
 clear h
 have HC3:=zz31 H
 clear H
 go_enter Try.func19,Try.ntmps19
 go_upto_region 1 with (first | ((with_reducible refine gate_dst (N:=2) rfl ?_);refine box_event ?hg (N:=2) ?hd (cs:=#[.int .i64 a0_0,.slice A0_1 l0_1.length c0_1]) (t:=31) ?hr ?_;(case hd=>rfl);(case hg=>rfl);(case hr=>first | (go_simp;done) | (go_simp;rfl));intro gb375 hg w4 hbox hb;have n0_:=zz31 (zz4 (by repeat first | exact HB.out | apply zz2 | apply zz0 | apply zz1) hb);have n1_:=zz31 (hbox);have n2_:=zz31 ((by rw [hg];exact (zz5 (by repeat first | exact HB.out | apply zz2 | apply zz0 | apply zz1)):w.heap.size≤gb375));have n3_:=zz31 ((by rw [hg];exact (zz5 (by repeat first | exact HB.out | apply zz2 | apply zz0 | apply zz1)):w.heap.size≤gb375));clear HB;have HB:=n0_;have BK375:=n1_;have GW375:=n2_;have GE375:=n3_;clear n0_ n1_ n2_ n3_;clear hb hbox hg))
 (try simp only [Act.put,zz21,zz22,zz23])
 go_cut [13] (fun v13 wc=>∃ (kq:Nat) (x13_2:Bool),v13=.bool x13_2∧Aside0 (spec_CountColourings.j0 kq a1 x13_2 a0_0 l0_1=some (r1,r2))∧Aside0 (kq≤k)∧Aside0 (wc.heap[gb375]?=some (.cells #[.int .i64 a0_0,(.slice A0_1 l0_1.length c0_1)] 31 (0,0)))∧Aside0 (Below w.heap.size w wc))
 case first =>
  have H:=HC3.out
  clear HC3
  replace H:=zz30.mp H
  obtain ⟨t376,A50,H⟩:=H
  replace H:(if t376=true then ((spec_l1In.f a1 0 12).bind fun t377=>(spec_CountColourings.j0 k a1 (!t377) a0_0 l0_1)) else (spec_CountColourings.j0 k a1 true a0_0 l0_1))=some (r1,r2):=H
  have A5:=zz31 A50
  clear A50
  by_cases c6:t376=true
  ·subst c6
   have H1:((spec_l1In.f a1 0 12).bind fun t377=>(spec_CountColourings.j0 k a1 (!t377) a0_0 l0_1))=some (r1,r2):=by rw [if_pos rfl] at H;exact H
   clear H
   have H:=H1
   clear H1
   replace H:=zz30.mp H
   obtain ⟨t377,A70,H⟩:=H
   replace H:(spec_CountColourings.j0 k a1 (!t377) a0_0 l0_1)=some (r1,r2):=H
   have A7:=zz31 A70
   clear A70
   have H':=zz31 H
   clear H
   have hcz8_0:w4.cell? ⟨gb375,0,none⟩=some (.int .i64 a0_0):=(zz9 BK375.out 0).trans rfl
   have hcz8_1:w4.cell? ⟨gb375,1,none⟩=some (.slice A0_1 l0_1.length c0_1):=(zz9 BK375.out 1).trans rfl
   have hfz8_0:=zz10 BK375.out 0
   have hfz8_1:=zz10 BK375.out 1
   go_wp2_with (first | ((with_reducible refine gate_callee (f:=48) rfl ?_);refine goesL_ (some 7) rfl rfl Try.func48 (by kernel_rfl) rfl #[.agg #[.int .i64 a0_0,.slice A0_1 l0_1.length c0_1]] rfl (by (try simp only [zz26,zz27,zz28]);first | done | rfl | (simp only [zz24,zz25];rfl)) ?_;(with_reducible refine (spec_grFew.calls k a0_0 _ _ l0_1 true _ ?side1 ?side2 A5.out).mono ?_);(case side1=>repeat (first | exact (Kd.C_below HR0_1.out HB.out) | (with_reducible refine zz18 ?_ _) | (with_reducible refine zz19 ?_ _) | (with_reducible refine zz20 ?_)));(case side2=>exact HC0_1.out);rintro e w9 ⟨rfl,hb⟩;refine ⟨_,rfl,?_⟩;have n0_:=zz31 (zz11 (g:=gb375) (o:=.cells #[.int .i64 a0_0,.slice A0_1 l0_1.length c0_1] 31 (0,0)) (by (with_reducible repeat (first | refine zz6 ?_ _ | refine zz7 ?_ | refine zz8 ?_ _));exact BK375.out) hb);have n1_:=zz31 (zz4 (by repeat first | exact HB.out | apply zz2 | apply zz0 | apply zz1 | refine zz3 ?_ GE375.out) hb);clear BK375;clear HB;have BK375:=n0_;have HB:=n1_;clear n0_ n1_;(try clear hb);(try clear hb2);(try clear hk);(try clear hi)) | (go_at_call 49;(with_reducible refine (spec_l1In.calls a1 0 12 t377 _ A7.out).mono ?_);rintro e w' ⟨rfl,⟨nd,rfl⟩⟩))
   go_meet
   case rel=>exact ⟨_,(!t377),(by first | rfl | (simp;done) | (simp [*];done)),H',⟨by first | omega | exact Nat.le_refl _⟩,⟨by (with_reducible repeat (first | refine zz6 ?_ _ | refine zz7 ?_ | refine zz8 ?_ _));exact BK375.out⟩,⟨by repeat first | exact HB.out | apply zz2 | apply zz0 | apply zz1 | refine zz3 ?_ GE375.out⟩⟩
  ·replace c6:=Bool.eq_false_iff.mpr c6
   subst c6
   have H1:(spec_CountColourings.j0 k a1 true a0_0 l0_1)=some (r1,r2):=by rw [if_neg (show ¬ (false=true) by decide)] at H;exact H
   clear H
   have H:=H1
   clear H1
   have H':=zz31 H
   clear H
   have hcz10_0:w4.cell? ⟨gb375,0,none⟩=some (.int .i64 a0_0):=(zz9 BK375.out 0).trans rfl
   have hcz10_1:w4.cell? ⟨gb375,1,none⟩=some (.slice A0_1 l0_1.length c0_1):=(zz9 BK375.out 1).trans rfl
   have hfz10_0:=zz10 BK375.out 0
   have hfz10_1:=zz10 BK375.out 1
   go_wp2_with (first | ((with_reducible refine gate_callee (f:=48) rfl ?_);refine goesL_ (some 7) rfl rfl Try.func48 (by kernel_rfl) rfl #[.agg #[.int .i64 a0_0,.slice A0_1 l0_1.length c0_1]] rfl (by (try simp only [zz26,zz27,zz28]);first | done | rfl | (simp only [zz24,zz25];rfl)) ?_;(with_reducible refine (spec_grFew.calls k a0_0 _ _ l0_1 false _ ?side1 ?side2 A5.out).mono ?_);(case side1=>repeat (first | exact (Kd.C_below HR0_1.out HB.out) | (with_reducible refine zz18 ?_ _) | (with_reducible refine zz19 ?_ _) | (with_reducible refine zz20 ?_)));(case side2=>exact HC0_1.out);rintro e w11 ⟨rfl,hb⟩;refine ⟨_,rfl,?_⟩;have n0_:=zz31 (zz11 (g:=gb375) (o:=.cells #[.int .i64 a0_0,.slice A0_1 l0_1.length c0_1] 31 (0,0)) (by (with_reducible repeat (first | refine zz6 ?_ _ | refine zz7 ?_ | refine zz8 ?_ _));exact BK375.out) hb);have n1_:=zz31 (zz4 (by repeat first | exact HB.out | apply zz2 | apply zz0 | apply zz1 | refine zz3 ?_ GE375.out) hb);clear BK375;clear HB;have BK375:=n0_;have HB:=n1_;clear n0_ n1_;(try clear hb);(try clear hb2);(try clear hk);(try clear hi)))
   go_meet
   case rel=>exact ⟨_,(true),(by first | rfl | (simp;done) | (simp [*];done)),H',⟨by first | omega | exact Nat.le_refl _⟩,⟨by (with_reducible repeat (first | refine zz6 ?_ _ | refine zz7 ?_ | refine zz8 ?_ _));exact BK375.out⟩,⟨by repeat first | exact HB.out | apply zz2 | apply zz0 | apply zz1 | refine zz3 ?_ GE375.out⟩⟩
 case rest =>
  clear HC3
  try clear c1
  try clear p2
  try clear c4
  try clear c6
  try clear hcz10_0
  try clear hcz10_1
  try clear hcz8_0
  try clear hcz8_1
  try clear hfz10_0
  try clear hfz10_1
  try clear hfz8_0
  try clear hfz8_1
  obtain ⟨kq,x13_2,rfl,HA,HJ2,BK375,HB⟩:=hcut
  cases kq with
  | zero=>exact absurd HA.out (by simp [spec_CountColourings.j0])
  | succ kj2 =>
   have H:=HA.out
   clear HA
   simp only [spec_CountColourings.j0] at H
   by_cases c12:x13_2=true
   ·subst c12
    have H1:(some (0,false))=some (r1,r2):=by rw [if_pos rfl] at H;exact H
    clear H
    have H:=H1
    clear H1
    simp only [Option.some.injEq,Prod.mk.injEq] at H
    obtain ⟨rfl,rfl⟩:=H
    go_wp2
    go_ret2
    exact ⟨by first | rfl | (simp [errW_none,errW_some] <;> rfl) | (simp [*,errW_none,errW_some] <;> rfl),by repeat first | exact HB.out | apply zz2 | apply zz0 | apply zz1 | refine zz3 ?_ GE375.out⟩
   ·replace c12:=Bool.eq_false_iff.mpr c12
    subst c12
    have H1:((spec_paTable.f kj2 a0_0 l0_1).bind fun t378=>((spec_grWays.f t378 ([]:List (List Int)) 0 a1).bind fun t381=>(some (t381,true))))=some (r1,r2):=by rw [if_neg (show ¬ (false=true) by decide)] at H;exact H
    clear H
    have H:=H1
    clear H1
    replace H:=zz30.mp H
    obtain ⟨t378,A130,H⟩:=H
    replace H:((spec_grWays.f t378 ([]:List (List Int)) 0 a1).bind fun t381=>(some (t381,true)))=some (r1,r2):=H
    have A13:=zz31 A130
    clear A130
    replace H:=zz30.mp H
    obtain ⟨t381,A140,H⟩:=H
    replace H:(some (t381,true))=some (r1,r2):=H
    have A14:=zz31 A140
    clear A140
    simp only [Option.some.injEq,Prod.mk.injEq] at H
    obtain ⟨rfl,rfl⟩:=H
    have hcz15_0:wc.cell? ⟨gb375,0,none⟩=some (.int .i64 a0_0):=(zz9 BK375.out 0).trans rfl
    have hcz15_1:wc.cell? ⟨gb375,1,none⟩=some (.slice A0_1 l0_1.length c0_1):=(zz9 BK375.out 1).trans rfl
    have hfz15_0:=zz10 BK375.out 0
    have hfz15_1:=zz10 BK375.out 1
    go_wp2_with (first | ((with_reducible refine gate_callee (f:=34) rfl ?_);refine goesL_ (some 15) rfl rfl Try.func34 (by kernel_rfl) rfl #[.agg #[.int .i64 a0_0,.slice A0_1 l0_1.length c0_1]] rfl (by (try simp only [zz26,zz27,zz28]);first | done | rfl | (simp only [zz24,zz25];rfl)) ?_;(with_reducible refine (spec_paTable.calls kj2 a0_0 _ _ l0_1 t378 _ ?side1 ?side2 A13.out).mono ?_);(case side1=>repeat (first | exact (Kd.C_below HR0_1.out HB.out) | (with_reducible refine zz18 ?_ _) | (with_reducible refine zz19 ?_ _) | (with_reducible refine zz20 ?_)));(case side2=>exact HC0_1.out);rintro e w16 ⟨v379,rfl,ho0,hb⟩;refine ⟨_,rfl,?_⟩;have n0_:=zz31 (Kd.S_lower ho0 (zz5 (by repeat first | exact HB.out | apply zz2 | apply zz0 | apply zz1 | refine zz3 ?_ GE375.out)));have n1_:=zz31 (zz11 (g:=gb375) (o:=.cells #[.int .i64 a0_0,.slice A0_1 l0_1.length c0_1] 31 (0,0)) (by (with_reducible repeat (first | refine zz6 ?_ _ | refine zz7 ?_ | refine zz8 ?_ _));exact BK375.out) hb);have n2_:=zz31 (zz4 (by repeat first | exact HB.out | apply zz2 | apply zz0 | apply zz1 | refine zz3 ?_ GE375.out) hb);clear BK375;clear HB;have HO380:=n0_;have BK375:=n1_;have HB:=n2_;clear n0_ n1_ n2_;(try clear hb);(try clear hb2);(try clear hk);(try clear hi);(try clear ho0);obtain ⟨Ao17,co17,eo17⟩:=Kd.S_slice HO380.out;subst eo17) | ((with_reducible refine gate_callee (f:=50) rfl ?_);refine goesL_ (some 17) rfl rfl Try.func50 (by kernel_rfl) rfl #[.slice Ao17 t378.length co17,.slice none 0 0,.int .i64 0,.int .i64 a1] rfl (by (try simp only [zz26,zz27,zz28]);first | done | rfl | (simp only [zz24,zz25];rfl)) ?_;(refine (spec_grWays.calls _ _ t378 _ _ ([]:List (List Int)) 0 a1 t381 _ ?side1 ?side2 ?side3 ?side4 A14.out).mono ?_);(case side1=>repeat (first | exact (Kd.S_reads' HO380.out).2.2 | (with_reducible refine zz18 ?_ _) | (with_reducible refine zz19 ?_ _) | (with_reducible refine zz20 ?_)));(case side2=>exact (Kd.S_reads' HO380.out).2.1);(case side3=>exact Kd.C_nil _ _);(case side4=>exact Nat.le_refl _);rintro e w18 ⟨rfl,hb⟩;refine ⟨_,rfl,?_⟩;have n0_:=zz31 (Kd.S_below (by (with_reducible repeat (first | apply zz15 | apply zz16 | apply zz17));exact HO380.out) hb);have n1_:=zz31 (zz11 (g:=gb375) (o:=.cells #[.int .i64 a0_0,.slice A0_1 l0_1.length c0_1] 31 (0,0)) (by (with_reducible repeat (first | refine zz6 ?_ _ | refine zz7 ?_ | refine zz8 ?_ _));exact BK375.out) hb);have n2_:=zz31 (zz4 (by repeat first | exact HB.out | apply zz2 | apply zz0 | apply zz1 | refine zz3 ?_ GE375.out) hb);clear HO380;clear BK375;clear HB;have HO380:=n0_;have BK375:=n1_;have HB:=n2_;clear n0_ n1_ n2_;(try clear hb);(try clear hb2);(try clear hk);(try clear hi)))
    go_ret2
    exact ⟨by first | rfl | (simp [errW_none,errW_some] <;> rfl) | (simp [*,errW_none,errW_some] <;> rfl),by repeat first | exact HB.out | apply zz2 | apply zz0 | apply zz1 | refine zz3 ?_ GE375.out⟩

/-! ### impl_CountColourings: function 20 (a contract of our own) -/
def waysI (z:Int):Nat→Int
 | 0=>1
 | k+1=>wrap64 (waysI z k * (if z - (k:Int) < 0 then 0 else z - (k:Int)))
def ccStep (z:Int) (s:Int) (_cs:List Int) (m:Nat):Int:=wrap64 (s+waysI z m)
/-- A sum in one block, a number in another one. -/
def CcI (ba bz:Nat) (z:Int) (s:Int) (own:Nat→Prop) (W:World):Prop :=
 own=(fun i=>i=ba)∧bz ≠ ba∧W.heap[ba]?=some (.cells #[.int .i64 s] 3 (0,0))∧W.cell? ⟨bz,0,none⟩=some (.int .i64 z)
theorem CcI.below {ba bz:Nat} {z s:Int} {own:Nat→Prop} {W W':World} (h:CcI ba bz z s own W) (hb:Below W.heap.size W W'):CcI ba bz z s own W':=by
 obtain ⟨h1,h2,h3,h4⟩:=h
 exact ⟨h1,h2,zz11 h3 hb,pw_cell_below hb h4⟩
theorem CcI.lt {ba bz:Nat} {z s:Int} {own:Nat→Prop} {W:World} (h:CcI ba bz z s own W):∀ i,own i→i < W.heap.size:=by
 obtain ⟨h1,h2,h3,h4⟩:=h
 subst h1
 rintro i rfl
 exact blk_lt h3
theorem CcI.put {ba bz:Nat} {z s:Int} {W:World} (h:CcI ba bz z s (fun i=>i=ba) W) (n:Int) :
  CcI ba bz z n (fun i=>i=ba) (W.setCell ⟨ba,0,none⟩ (.int .i64 n))∧Fr (fun i=>i=ba) (fun i=>i=ba) W (W.setCell ⟨ba,0,none⟩ (.int .i64 n)):=by
 obtain ⟨h1,h2,h3,h4⟩:=h
 refine ⟨⟨rfl,h2,blk_set h3 0 _,?_⟩,rfl,rfl,rfl,by simp [World.setCell],fun i hi hn=>?_,fun i hi=>.inl hi⟩
 ·have:(W.setCell ⟨ba,0,none⟩ (.int .i64 n)).heap[bz]?=W.heap[bz]?:=Below.heap_setCell _ _ _ bz (fun he=>h2 he)
  simpa [World.cell?,this] using h4
 ·rw [Below.heap_setCell _ _ _ i (fun he=>hn he)]
set_option maxHeartbeats 1000000 in
set_option maxRecDepth 100000 in
theorem cc_each (B0 ba bz:Nat) (z:Int) (hz0:0≤z) (hz1:z≤12):EachCols Int 54 #[.pointer (some ⟨bz,0,none⟩),.pointer (some ⟨ba,0,none⟩)] B0 (CcI ba bz z) (ccStep z):=by
 intro s own W A c cs m hI hB hc8 hm8 hR
 have hI':=hI
 obtain ⟨rfl,h2,h3,h4⟩:=hI
 have f3:=zz9 h3 0
 have f4:=zz10 h3 0
 simp only [List.getElem?_toArray,List.getElem?_cons_zero] at f3
 have HI:=zz31 hI'
 have HM:=zz31 hm8
 clear hI' h2 h3 hR hB
 go_enter Try.func54,Try.ntmps54
 go_wp2
 go_loop [7,10] (fun v7 v10=>∃ k:Nat,k≤m∧v10=.int .i64 k∧v7=.int .i64 (waysI z k)) (fun _ i=>m - (intOf i).toNat)
 case atStart=>exact ⟨0,Nat.zero_le _,rfl,rfl⟩
 case round =>
  obtain ⟨k,hk,rfl,rfl⟩:=hrel
  have hk8:(k:Int)≤8:=by have:=HM.out;omega
  by_cases hlt:k < m
  ·have hltz:(k:Int) < (m:Int):=by omega
   obtain ⟨mm,hmm⟩:∃ mm:Int,(if z - (k:Int) < 0 then 0 else z - (k:Int))=mm:=⟨_,rfl⟩
   have HW:=zz31 (show waysI z (k+1)=wrap64 (waysI z k * mm) from by rw [waysI,hmm])
   go_wp2
   refine ⟨⟨k+1,by omega,by go_num,by rw [HW.out]⟩,by simp [intOf];omega⟩
  ·have hltz:¬ (k:Int) < (m:Int):=by omega
   obtain rfl:k=m:=by omega
   have HP:=zz31 (CcI.put HI.out (wrap64 (s+waysI z k)))
   go_wp2
   go_ret
   exact ⟨rfl,_,HP.out.1,HP.out.2⟩
theorem row_apart_ {k:IntKind} {e base n c B:Nat} {ok:Nat→Prop} {W:World} {A:Option Addr} {xs:List Int} (h:Kd.R (Kd.int k) e W base ok (.slice A n c) xs) (hB:B < base):∀ ad,A=some ad→ad.block ≠ B:=by
 intro ad e1
 subst e1
 have:=Kd.R_base h ad.block rfl
 omega
def impl_CountColourings.f (k:Nat) (a0_0:Int) (l0_1:List (S79)) (a1:Int):Option (Int × Bool) :=
 (impl_isFewColoured.f k a0_0 l0_1).bind fun ok=>if ok=true then (impl_within.f a1 0 12).bind fun c=>if c=true then (impl_Party_table.f k a0_0 l0_1).bind fun t=>if t.length≤8∧0≤a1∧a1≤12 then some ((cols (hasB t) t.length [] 0).foldl (fun s p=>ccStep a1 s p.1 p.2) 0,true) else none else some (0,false) else some (0,false)
theorem impl_CountColourings.mono:∀ a0 a1 a2 k,LeO (impl_CountColourings.f k a0 a1 a2) (impl_CountColourings.f (k+1) a0 a1 a2):=by
 intro a0 a1 a2 k
 unfold impl_CountColourings.f
 refine LeO.bind (impl_isFewColoured.mono _ _ _) fun ok=>LeO.ite (LeO.bind (LeO.refl _) fun c=>LeO.ite (LeO.bind (impl_Party_table.mono _ _ _) fun t=>LeO.refl _) (LeO.refl _)) (LeO.refl _)
set_option maxHeartbeats 4000000 in
set_option maxRecDepth 100000 in
theorem impl_CountColourings.calls (k:Nat) (a0_0:Int) (A0_1:Option Addr) (c0_1:Nat) (l0_1:List (S79)) (a1:Int) (r1:Int) (r2:Bool) (w:World) (hr0_1:Kd.C k79 w A0_1 l0_1.length l0_1) (hc0_1:l0_1.length≤c0_1) (h:impl_CountColourings.f k a0_0 l0_1 a1=some (r1,r2)) :
  Calls Try.prog 20 #[.agg #[.int .i64 a0_0,.slice A0_1 l0_1.length c0_1],.int .i64 a1] w fun e w'=>e=.returned (.tuple #[.int .i64 r1,.bool r2])∧Below w.heap.size w w':=by
 have hu:=Try.underlying31
 unfold impl_CountColourings.f at h
 obtain ⟨ok,hok,h⟩:=zz30.1 h
 have HOK:=zz31 hok
 have HCC:=zz31 hc0_1
 have e1:(w.alloc (.cells #[.int .i64 a0_0,.slice A0_1 l0_1.length c0_1] 31)).heap.size=w.heap.size+1:=by simp
 have b1:=blk_new (w.alloc (.cells #[.int .i64 a0_0,.slice A0_1 l0_1.length c0_1] 31)) (.cells #[.int .i64 a1] 3)
 rw [e1] at b1
 have HC1:=zz31 (zz18 (zz18 hr0_1 (.cells #[.int .i64 a0_0,.slice A0_1 l0_1.length c0_1] 31)) (.cells #[.int .i64 a1] 3))
 have HB1:Aside0 (Below w.heap.size w ((w.alloc (.cells #[.int .i64 a0_0,.slice A0_1 l0_1.length c0_1] 31)).alloc (.cells #[.int .i64 a1] 3))):=⟨zz2 (zz2 (Below.refl _ _) _) _⟩
 have HX1:=zz31 (zz8 (blk_new w (.cells #[.int .i64 a0_0,.slice A0_1 l0_1.length c0_1] 31)) (.cells #[.int .i64 a1] 3))
 have HS1:=zz31 b1
 clear hok hr0_1 hc0_1 b1 e1
 cases ok with
 | false =>
  rw [if_neg (by simp)] at h
  simp only [Option.some.injEq,Prod.mk.injEq] at h
  obtain ⟨rfl,rfl⟩:=h
  go_enter Try.func20,Try.ntmps20
  go_wp2_with (first | (go_at_call 51; refine (impl_isFewColoured.calls k a0_0 A0_1 c0_1 l0_1 false _ HC1.out HCC.out HOK.out).mono ?_; rintro e w3 ⟨rfl, hb⟩; have HB3 := zz31 (zz4 HB1.out hb); clear hb) | (fail "no arm"))
  refine bodyPost_ret (results_tmp2 rfl _ _ _) rfl ?_
  exact ⟨rfl,HB3.out⟩
 | true =>
  rw [if_pos rfl] at h
  obtain ⟨cr,hcr,h⟩:=zz30.1 h
  have HCR:=zz31 hcr
  clear hcr
  cases cr with
  | false =>
   rw [if_neg (by simp)] at h
   simp only [Option.some.injEq,Prod.mk.injEq] at h
   obtain ⟨rfl,rfl⟩:=h
   go_enter Try.func20,Try.ntmps20
   go_wp2_with (first | (go_at_call 51; refine (impl_isFewColoured.calls k a0_0 A0_1 c0_1 l0_1 true _ HC1.out HCC.out HOK.out).mono ?_; rintro e w3 ⟨rfl, hb⟩; have HB3 := zz31 (zz4 HB1.out hb); have hs3 := zz9 (zz11 HS1.out hb) 0; clear hb) | (go_at_call 52; refine (impl_within.calls a1 0 12 false _ HCR.out).mono ?_; rintro e w4 ⟨rfl, hd⟩; obtain ⟨q, hq⟩ := hd.out; subst hq) | (fail "no arm"))
   refine bodyPost_ret (results_tmp2 rfl _ _ _) rfl ?_
   exact ⟨rfl,by repeat first | exact HB3.out | apply zz0 | apply below_drew⟩
  | true =>
   rw [if_pos rfl] at h
   obtain ⟨t,ht,h⟩:=zz30.1 h
   split at h
   case isFalse=>simp at h
   rename_i hcond
   simp only [Option.some.injEq,Prod.mk.injEq] at h
   obtain ⟨h1,rfl⟩:=h
   have HT:=zz31 ht
   have CG:Aside0 (∀ (Wx:World) (At:Option Addr) (ct bm:Nat),Below w.heap.size w Wx→w.heap.size+1 < bm→Wx.heap[bm]?=some (.cells #[.int .i64 0] 3 (0,0))→Wx.cell? ⟨w.heap.size+1,0,none⟩=some (.int .i64 a1)→Kd.C (Kd.int .u16) Wx At t.length t→t.length≤ct→(∀ ad,At=some ad→ad.block ≠ bm) →
     Calls Try.prog 53 #[.slice At t.length ct,.func (.func 54) #[] #[.pointer (some ⟨w.heap.size+1,0,none⟩),.pointer (some ⟨bm,0,none⟩)]] Wx fun e W'=>e=.returned (.tuple #[])∧W'.cell? ⟨bm,0,none⟩=some (.int .i64 r1)∧Below w.heap.size w W'):=⟨fun Wx At ct bm hb hbm hcell hsz hC hct hap=>by
    have hs:CcI bm (w.heap.size+1) a1 0 (fun i=>i=bm) Wx:=⟨rfl,by omega,hcell,hsz⟩
    exact (colourings_calls Int 54 #[.pointer (some ⟨w.heap.size+1,0,none⟩),.pointer (some ⟨bm,0,none⟩)] (fun _ _=>rfl) w.heap.size (CcI bm (w.heap.size+1) a1) (ccStep a1) (cc_each _ _ _ _ hcond.2.1 hcond.2.2) (fun _ _ _ _ h hb=>h.below hb) (fun _ _ _ h=>h.lt) (hasB t) t hcond.1 (fun a b ha _=>hasB_f t a b ha) At ct 0 _ Wx ⟨hC,fun ad e _=>hap ad e⟩ hct hs hb.size).mono fun e W' ⟨g1,own',g2,g3⟩=>by
     rw [h1] at g2
     obtain ⟨p1,p2,p3,p4⟩:=g2
     exact ⟨g1,zz9 p3 0,hb.trans (g3.below hb.size (fun i hi=>by omega))⟩⟩
   clear ht h1 hcond
   go_enter Try.func20,Try.ntmps20
   go_wp2_with (first | (go_at_call 51; refine (impl_isFewColoured.calls k a0_0 A0_1 c0_1 l0_1 true _ HC1.out HCC.out HOK.out).mono ?_; rintro e w3 ⟨rfl, hb⟩; have HB3 := zz31 (zz4 HB1.out hb); have HS3 := zz31 (zz11 HS1.out hb); have HX3 := zz31 (zz11 HX1.out hb); have HC3 := zz31 (Kd.C_below HC1.out hb); have hs3 := zz9 HS3.out 0; have hc0 : w3.cell? ⟨w.heap.size, 0, none⟩ = some (.int .i64 a0_0) := zz9 HX3.out 0; have hc1 : w3.cell? ⟨w.heap.size, 1, none⟩ = some (.slice A0_1 l0_1.length c0_1) := zz9 HX3.out 1; have HLT := zz31 (show w.heap.size + 1 < w3.heap.size from blk_lt HS3.out); clear hb) | (go_at_call 52; refine (impl_within.calls a1 0 12 true _ HCR.out).mono ?_; rintro e w4 ⟨rfl, hd⟩; obtain ⟨q, hq⟩ := hd.out; subst hq; have hf5 : ((w3.drewN q).alloc (.cells #[.int .i64 0] 3)).frozen? ⟨w3.heap.size, 0, none⟩ = false := frozen_new (w3.drewN q) _ _ 0; have hc5 : ((w3.drewN q).alloc (.cells #[.int .i64 0] 3)).cell? ⟨w3.heap.size, 0, none⟩ = some (.int .i64 0) := World.cell?_alloc_new (w3.drewN q) _ _ 0; have hba : Below w3.heap.size w3 (((w3.drewN q).alloc (.cells #[.int .i64 0] 3)).setCell ⟨w3.heap.size, 0, none⟩ (.int .i64 0)) := zz3 (zz2 (zz0 (Below.refl _ _) q) _) (Nat.le_refl _); have HBA := zz31 hba; have hd0 : (((w3.drewN q).alloc (.cells #[.int .i64 0] 3)).setCell ⟨w3.heap.size, 0, none⟩ (.int .i64 0)).cell? ⟨w.heap.size, 0, none⟩ = some (.int .i64 a0_0) := zz9 (zz11 HX3.out hba) 0; have hd1 : (((w3.drewN q).alloc (.cells #[.int .i64 0] 3)).setCell ⟨w3.heap.size, 0, none⟩ (.int .i64 0)).cell? ⟨w.heap.size, 1, none⟩ = some (.slice A0_1 l0_1.length c0_1) := zz9 (zz11 HX3.out hba) 1; have HM4 := zz31 (show (((w3.drewN q).alloc (.cells #[.int .i64 0] 3)).setCell ⟨w3.heap.size, 0, none⟩ (.int .i64 0)).heap[w3.heap.size]? = some (.cells #[.int .i64 0] 3 (0, 0)) from blk_set (blk_new (w3.drewN q) _) 0 _); clear hba) | (go_at_call 41; refine (impl_Party_table.calls k a0_0 A0_1 c0_1 l0_1 t _ (Kd.C_below HC3.out HBA.out) HCC.out HT.out).mono ?_; rintro e w5 ⟨vt, rfl, ho, hb⟩; obtain ⟨At, ct, rfl⟩ := Kd.R_slice ho; have HB5 := zz31 (zz4 (HB3.out.trans (HBA.out.mono HB3.out.size)) hb); have HM5 := zz31 (zz11 HM4.out hb); have HS5 := zz31 (zz9 (zz11 (zz11 HS3.out HBA.out) hb) 0); have HR5 := zz31 ho; clear ho hb) | (go_at_call 53; refine (CG.out _ At ct w3.heap.size HB5.out ?_ HM5.out HS5.out (Kd.R_reads' HR5.out).2.2 (Kd.R_reads' HR5.out).2.1 ?_).mono ?_; exact HLT.out; exact row_apart_ HR5.out (by simp); rintro e w6 ⟨rfl, hm6, hb6⟩; have HB6 := zz31 hb6; clear hb6) | (fail "no arm"))
   refine bodyPost_ret (results_tmp2 rfl _ _ _) rfl ?_
   exact ⟨rfl,by repeat first | exact HB6.out | apply zz0 | apply below_drew⟩

/-! ### laws_FnExactCountColourings: function 4 -/
def laws_FnExactCountColourings.j0:Nat→Bool→Int→List (S81)→Int→List (S79)→Option (Bool)
 | 0,_,_,_,_,_=>none
 | k+1,x38,x385000,x385001,x397000,x397001=>if x38=true then (some false) else ((laws_toParty.f k x385000 x385001).bind fun bt399=>((laws_eqParty.f k x397000 x397001 bt399.1 bt399.2).bind fun t403=>(if t403=true then (some true) else (some false))))
def laws_FnExactCountColourings.f (k:Nat) (a0_0:Int) (l0_1:List (S81)) (a1:Int):Option (Bool):=(laws_szParty.f a0_0 l0_1 1048576).bind fun t385=>(if t385 < 0 then (some true) else ((laws_toParty.f k a0_0 l0_1).bind fun bt386=>((spec_CountColourings.f k bt386.1 bt386.2 a1).bind fun bt390=>((laws_toParty.f k a0_0 l0_1).bind fun bt392=>((impl_CountColourings.f k bt392.1 bt392.2 a1).bind fun bt397=>(if bt397.1=bt390.1 then (laws_FnExactCountColourings.j0 k (bt397.2 != bt390.2) a0_0 l0_1 bt392.1 bt392.2) else (laws_FnExactCountColourings.j0 k true a0_0 l0_1 bt392.1 bt392.2)))))))
theorem laws_FnExactCountColourings.mono_l:∀ k,(∀ y0 y1 y2 y3 y4,LeO (laws_FnExactCountColourings.j0 k y0 y1 y2 y3 y4) (laws_FnExactCountColourings.j0 (k+1) y0 y1 y2 y3 y4))
 | 0=>fun _ _ _ _ _ r h=>by simp [laws_FnExactCountColourings.j0] at h
 | k+1=>by
  have ih0:=laws_FnExactCountColourings.mono_l k
  ·intro y0 y1 y2 y3 y4
   unfold laws_FnExactCountColourings.j0
   repeat' first
   | (with_reducible exact ih0 _ _ _ _ _)
   | (with_reducible exact impl_CountColourings.mono _ _ _ _)
   | (with_reducible exact laws_eqParty.mono _ _ _ _ _)
   | (with_reducible exact laws_toParty.mono _ _ _)
   | (with_reducible exact spec_CountColourings.mono _ _ _ _)
   | (with_reducible exact LeO.refl _)
   | (with_reducible exact LeO.none _)
   | (with_reducible refine LeO.ite ?_ ?_)
   | (with_reducible refine LeO.bind ?_ (fun _=>?_))
   | exact ih0 _ _ _ _ _
   | exact impl_CountColourings.mono _ _ _ _
   | exact laws_eqParty.mono _ _ _ _ _
   | exact laws_toParty.mono _ _ _
   | exact spec_CountColourings.mono _ _ _ _
   | exact LeO.none _
   | refine LeO.ite ?_ ?_
   | refine LeO.bind ?_ (fun _=>?_)
theorem laws_FnExactCountColourings.mono:∀ a0 a1 a2 k,LeO (laws_FnExactCountColourings.f k a0 a1 a2) (laws_FnExactCountColourings.f (k+1) a0 a1 a2):=by
 intro a0 a1 a2 k
 have ih0:=laws_FnExactCountColourings.mono_l k
 unfold laws_FnExactCountColourings.f
 repeat' first
   | (with_reducible exact ih0 _ _ _ _ _)
   | (with_reducible exact impl_CountColourings.mono _ _ _ _)
   | (with_reducible exact laws_eqParty.mono _ _ _ _ _)
   | (with_reducible exact laws_toParty.mono _ _ _)
   | (with_reducible exact spec_CountColourings.mono _ _ _ _)
   | (with_reducible exact LeO.refl _)
   | (with_reducible exact LeO.none _)
   | (with_reducible refine LeO.ite ?_ ?_)
   | (with_reducible refine LeO.bind ?_ (fun _=>?_))
   | exact ih0 _ _ _ _ _
   | exact impl_CountColourings.mono _ _ _ _
   | exact laws_eqParty.mono _ _ _ _ _
   | exact laws_toParty.mono _ _ _
   | exact spec_CountColourings.mono _ _ _ _
   | exact LeO.none _
   | refine LeO.ite ?_ ?_
   | refine LeO.bind ?_ (fun _=>?_)
set_option maxHeartbeats 8000000 in
set_option maxRecDepth 100000 in
theorem laws_FnExactCountColourings.calls (k:Nat) (a0_0:Int) (A0_1:Option Addr) (c0_1:Nat) (l0_1:List (S81)) (a1:Int) (r:Bool) (w:World) (hr0_1:Kd.C k81 w A0_1 l0_1.length l0_1) (hc0_1:l0_1.length≤c0_1) (h:laws_FnExactCountColourings.f k a0_0 l0_1 a1=some r) :
  Calls Try.prog 4 #[.agg #[.int .i64 a0_0,.slice A0_1 l0_1.length c0_1],.int .i64 a1] w fun e w'=>e=.returned (.bool r)∧Below w.heap.size w w':=by
 have hu24:=Try.underlying24
 have hu31:=Try.underlying31
 have HR0_1:=zz31 hr0_1
 have HC0_1:=zz31 hc0_1
 clear hr0_1 hc0_1
 have HB:=zz31 (Below.refl w.heap.size w)
 have H:((laws_szParty.f a0_0 l0_1 1048576).bind fun t385=>(if t385 < 0 then (some true) else ((laws_toParty.f k a0_0 l0_1).bind fun bt386=>((spec_CountColourings.f k bt386.1 bt386.2 a1).bind fun bt390=>((laws_toParty.f k a0_0 l0_1).bind fun bt392=>((impl_CountColourings.f k bt392.1 bt392.2 a1).bind fun bt397=>(if bt397.1=bt390.1 then (laws_FnExactCountColourings.j0 k (bt397.2 != bt390.2) a0_0 l0_1 bt392.1 bt392.2) else (laws_FnExactCountColourings.j0 k true a0_0 l0_1 bt392.1 bt392.2))))))))=some r:=h
 clear h
 replace H:=zz30.mp H
 obtain ⟨t385,A30,H⟩:=H
 replace H:(if t385 < 0 then (some true) else ((laws_toParty.f k a0_0 l0_1).bind fun bt386=>((spec_CountColourings.f k bt386.1 bt386.2 a1).bind fun bt390=>((laws_toParty.f k a0_0 l0_1).bind fun bt392=>((impl_CountColourings.f k bt392.1 bt392.2 a1).bind fun bt397=>(if bt397.1=bt390.1 then (laws_FnExactCountColourings.j0 k (bt397.2 != bt390.2) a0_0 l0_1 bt392.1 bt392.2) else (laws_FnExactCountColourings.j0 k true a0_0 l0_1 bt392.1 bt392.2)))))))=some r:=H
 have A3:=zz31 A30
 clear A30
 by_cases c4:t385 < 0
 ·rw [if_pos c4] at H
  have c4b0:decide (t385 < 0)=true:=decide_eq_true c4
  clear c4
  obtain rfl:=Option.some.inj H
  go_enter Try.func4,Try.ntmps4
  go_wp2_with (first | ((with_reducible refine gate_dst (N:=2) rfl ?_);refine box_event ?hg (N:=2) ?hd (cs:=#[.int .i64 a0_0,.slice A0_1 l0_1.length c0_1]) (t:=24) ?hr ?_;(case hd=>rfl);(case hg=>rfl);(case hr=>first | (go_simp;done) | (go_simp;rfl));intro gb384 hg w5 hbox hb;have n0_:=zz31 (zz4 (by repeat first | exact HB.out | apply zz2 | apply zz0 | apply zz1) hb);have n1_:=zz31 (hbox);have n2_:=zz31 ((by rw [hg];exact (zz5 (by repeat first | exact HB.out | apply zz2 | apply zz0 | apply zz1)):w.heap.size≤gb384));have n3_:=zz31 ((by rw [hg];exact (zz5 (by repeat first | exact HB.out | apply zz2 | apply zz0 | apply zz1)):w.heap.size≤gb384));clear HB;have HB:=n0_;have BK384:=n1_;have GW384:=n2_;have GE384:=n3_;clear n0_ n1_ n2_ n3_;clear hb hbox hg;have hcz6_0:w5.cell? ⟨gb384,0,none⟩=some (.int .i64 a0_0):=(zz9 BK384.out 0).trans rfl;have hcz6_1:w5.cell? ⟨gb384,1,none⟩=some (.slice A0_1 l0_1.length c0_1):=(zz9 BK384.out 1).trans rfl;have hfz6_0:=zz10 BK384.out 0;have hfz6_1:=zz10 BK384.out 1) | ((with_reducible refine gate_callee (f:=9) rfl ?_);refine goesL_ (some 13) rfl rfl Try.func9 (by kernel_rfl) rfl #[.agg #[.int .i64 a0_0,.slice A0_1 l0_1.length c0_1],.int .i64 1048576] rfl (by (try simp only [zz26,zz27,zz28]);first | done | rfl | (simp only [zz24,zz25];rfl)) ?_;(with_reducible refine (laws_szParty.calls a0_0 _ _ l0_1 1048576 t385 _ ?side1 ?side2 A3.out).mono ?_);(case side1=>repeat (first | exact (Kd.C_below HR0_1.out HB.out) | (with_reducible refine zz18 ?_ _) | (with_reducible refine zz19 ?_ _) | (with_reducible refine zz20 ?_)));(case side2=>exact HC0_1.out);rintro e w7 ⟨rfl,hb⟩;refine ⟨_,rfl,?_⟩;have n0_:=zz31 (zz11 (g:=gb384) (o:=.cells #[.int .i64 a0_0,.slice A0_1 l0_1.length c0_1] 24 (0,0)) (by (with_reducible repeat (first | refine zz6 ?_ _ | refine zz7 ?_ | refine zz8 ?_ _));exact BK384.out) hb);have n1_:=zz31 (zz4 (by repeat first | exact HB.out | apply zz2 | apply zz0 | apply zz1 | refine zz3 ?_ GE384.out) hb);clear BK384;clear HB;have BK384:=n0_;have HB:=n1_;clear n0_ n1_;(try clear hb);(try clear hb2);(try clear hk);(try clear hi)))
  go_ret
  exact ⟨by first | rfl | (simp [errW_none,errW_some] <;> rfl) | (simp [*,errW_none,errW_some] <;> rfl),by repeat first | exact HB.out | apply zz2 | apply zz0 | apply zz1 | refine zz3 ?_ GE384.out⟩
 ·rw [if_neg c4] at H
  have c4b0:decide (t385 < 0)=false:=decide_eq_false c4
  clear c4
  replace H:=zz30.mp H
  obtain ⟨⟨t386,t387⟩,A80,H⟩:=H
  replace H:((spec_CountColourings.f k t386 t387 a1).bind fun bt390=>((laws_toParty.f k a0_0 l0_1).bind fun bt392=>((impl_CountColourings.f k bt392.1 bt392.2 a1).bind fun bt397=>(if bt397.1=bt390.1 then (laws_FnExactCountColourings.j0 k (bt397.2 != bt390.2) a0_0 l0_1 bt392.1 bt392.2) else (laws_FnExactCountColourings.j0 k true a0_0 l0_1 bt392.1 bt392.2)))))=some r:=H
  have A8:=zz31 A80
  clear A80
  replace H:=zz30.mp H
  obtain ⟨⟨t390,t391⟩,A90,H⟩:=H
  replace H:((laws_toParty.f k a0_0 l0_1).bind fun bt392=>((impl_CountColourings.f k bt392.1 bt392.2 a1).bind fun bt397=>(if bt397.1=t390 then (laws_FnExactCountColourings.j0 k (bt397.2 != t391) a0_0 l0_1 bt392.1 bt392.2) else (laws_FnExactCountColourings.j0 k true a0_0 l0_1 bt392.1 bt392.2))))=some r:=H
  have A9:=zz31 A90
  clear A90
  replace H:=zz30.mp H
  obtain ⟨⟨t392,t393⟩,A100,H⟩:=H
  replace H:((impl_CountColourings.f k t392 t393 a1).bind fun bt397=>(if bt397.1=t390 then (laws_FnExactCountColourings.j0 k (bt397.2 != t391) a0_0 l0_1 t392 t393) else (laws_FnExactCountColourings.j0 k true a0_0 l0_1 t392 t393)))=some r:=H
  have A10:=zz31 A100
  clear A100
  replace H:=zz30.mp H
  obtain ⟨⟨t397,t398⟩,A110,H⟩:=H
  replace H:(if t397=t390 then (laws_FnExactCountColourings.j0 k (t398 != t391) a0_0 l0_1 t392 t393) else (laws_FnExactCountColourings.j0 k true a0_0 l0_1 t392 t393))=some r:=H
  have A11:=zz31 A110
  clear A110
  have HC12:=zz31 H
  clear H
  go_enter Try.func4,Try.ntmps4
  go_upto_region 8 with (first | ((with_reducible refine gate_dst (N:=2) rfl ?_);refine box_event ?hg (N:=2) ?hd (cs:=#[.int .i64 a0_0,.slice A0_1 l0_1.length c0_1]) (t:=24) ?hr ?_;(case hd=>rfl);(case hg=>rfl);(case hr=>first | (go_simp;done) | (go_simp;rfl));intro gb384 hg w13 hbox hb;have n0_:=zz31 (zz4 (by repeat first | exact HB.out | apply zz2 | apply zz0 | apply zz1) hb);have n1_:=zz31 (hbox);have n2_:=zz31 ((by rw [hg];exact (zz5 (by repeat first | exact HB.out | apply zz2 | apply zz0 | apply zz1)):w.heap.size≤gb384));have n3_:=zz31 ((by rw [hg];exact (zz5 (by repeat first | exact HB.out | apply zz2 | apply zz0 | apply zz1)):w.heap.size≤gb384));clear HB;have HB:=n0_;have BK384:=n1_;have GW384:=n2_;have GE384:=n3_;clear n0_ n1_ n2_ n3_;clear hb hbox hg;have hcz14_0:w13.cell? ⟨gb384,0,none⟩=some (.int .i64 a0_0):=(zz9 BK384.out 0).trans rfl;have hcz14_1:w13.cell? ⟨gb384,1,none⟩=some (.slice A0_1 l0_1.length c0_1):=(zz9 BK384.out 1).trans rfl;have hfz14_0:=zz10 BK384.out 0;have hfz14_1:=zz10 BK384.out 1) | ((with_reducible refine gate_callee (f:=9) rfl ?_);refine goesL_ (some 13) rfl rfl Try.func9 (by kernel_rfl) rfl #[.agg #[.int .i64 a0_0,.slice A0_1 l0_1.length c0_1],.int .i64 1048576] rfl (by (try simp only [zz26,zz27,zz28]);first | done | rfl | (simp only [zz24,zz25];rfl)) ?_;(with_reducible refine (laws_szParty.calls a0_0 _ _ l0_1 1048576 t385 _ ?side1 ?side2 A3.out).mono ?_);(case side1=>repeat (first | exact (Kd.C_below HR0_1.out HB.out) | (with_reducible refine zz18 ?_ _) | (with_reducible refine zz19 ?_ _) | (with_reducible refine zz20 ?_)));(case side2=>exact HC0_1.out);rintro e w15 ⟨rfl,hb⟩;refine ⟨_,rfl,?_⟩;have n0_:=zz31 (zz11 (g:=gb384) (o:=.cells #[.int .i64 a0_0,.slice A0_1 l0_1.length c0_1] 24 (0,0)) (by (with_reducible repeat (first | refine zz6 ?_ _ | refine zz7 ?_ | refine zz8 ?_ _));exact BK384.out) hb);have n1_:=zz31 (zz4 (by repeat first | exact HB.out | apply zz2 | apply zz0 | apply zz1 | refine zz3 ?_ GE384.out) hb);clear BK384;clear HB;have BK384:=n0_;have HB:=n1_;clear n0_ n1_;(try clear hb);(try clear hb2);(try clear hk);(try clear hi);have hcz16_0:w15.cell? ⟨gb384,0,none⟩=some (.int .i64 a0_0):=(zz9 BK384.out 0).trans rfl;have hcz16_1:w15.cell? ⟨gb384,1,none⟩=some (.slice A0_1 l0_1.length c0_1):=(zz9 BK384.out 1).trans rfl;have hfz16_0:=zz10 BK384.out 0;have hfz16_1:=zz10 BK384.out 1) | ((with_reducible refine gate_callee (f:=11) rfl ?_);refine goesL_ (some 18) rfl rfl Try.func11 (by kernel_rfl) rfl #[.agg #[.int .i64 a0_0,.slice A0_1 l0_1.length c0_1]] rfl (by (try simp only [zz26,zz27,zz28]);first | done | rfl | (simp only [zz24,zz25];rfl)) ?_;(with_reducible refine (laws_toParty.calls k a0_0 _ _ l0_1 t386 t387 _ ?side1 ?side2 A8.out).mono ?_);(case side1=>repeat (first | exact (Kd.C_below HR0_1.out HB.out) | (with_reducible refine zz18 ?_ _) | (with_reducible refine zz19 ?_ _) | (with_reducible refine zz20 ?_)));(case side2=>exact HC0_1.out);rintro e w17 ⟨v388,rfl,ho0,hb⟩;refine ⟨_,rfl,?_⟩;have n0_:=zz31 (Kd.R_lower ho0 (zz5 (by repeat first | exact HB.out | apply zz2 | apply zz0 | apply zz1 | refine zz3 ?_ GE384.out)));have n1_:=zz31 (zz11 (g:=gb384) (o:=.cells #[.int .i64 a0_0,.slice A0_1 l0_1.length c0_1] 24 (0,0)) (by (with_reducible repeat (first | refine zz6 ?_ _ | refine zz7 ?_ | refine zz8 ?_ _));exact BK384.out) hb);have n2_:=zz31 (zz4 (by repeat first | exact HB.out | apply zz2 | apply zz0 | apply zz1 | refine zz3 ?_ GE384.out) hb);clear BK384;clear HB;have HO389:=n0_;have BK384:=n1_;have HB:=n2_;clear n0_ n1_ n2_;(try clear hb);(try clear hb2);(try clear hk);(try clear hi);(try clear ho0);obtain ⟨Ao18,co18,eo18⟩:=Kd.R_slice HO389.out;subst eo18) | ((with_reducible refine gate_callee (f:=19) rfl ?_);refine goesL_ (some 20) rfl rfl Try.func19 (by kernel_rfl) rfl #[.agg #[.int .i64 t386,.slice Ao18 t387.length co18],.int .i64 a1] rfl (by (try simp only [zz26,zz27,zz28]);first | done | rfl | (simp only [zz24,zz25];rfl)) ?_;(with_reducible refine (spec_CountColourings.calls k t386 _ _ t387 a1 t390 t391 _ ?side1 ?side2 A9.out).mono ?_);(case side1=>repeat (first | exact (Kd.R_reads' HO389.out).2.2 | (with_reducible refine zz18 ?_ _) | (with_reducible refine zz19 ?_ _) | (with_reducible refine zz20 ?_)));(case side2=>exact (Kd.R_reads' HO389.out).2.1);rintro e w19 ⟨rfl,hb⟩;refine ⟨_,rfl,?_⟩;have n0_:=zz31 (Kd.R_below (by (with_reducible repeat (first | apply zz12 | apply zz13 | apply zz14));exact HO389.out) hb);have n1_:=zz31 (zz11 (g:=gb384) (o:=.cells #[.int .i64 a0_0,.slice A0_1 l0_1.length c0_1] 24 (0,0)) (by (with_reducible repeat (first | refine zz6 ?_ _ | refine zz7 ?_ | refine zz8 ?_ _));exact BK384.out) hb);have n2_:=zz31 (zz4 (by repeat first | exact HB.out | apply zz2 | apply zz0 | apply zz1 | refine zz3 ?_ GE384.out) hb);clear HO389;clear BK384;clear HB;have HO389:=n0_;have BK384:=n1_;have HB:=n2_;clear n0_ n1_ n2_;(try clear hb);(try clear hb2);(try clear hk);(try clear hi);have hcz20_0:w19.cell? ⟨gb384,0,none⟩=some (.int .i64 a0_0):=(zz9 BK384.out 0).trans rfl;have hcz20_1:w19.cell? ⟨gb384,1,none⟩=some (.slice A0_1 l0_1.length c0_1):=(zz9 BK384.out 1).trans rfl;have hfz20_0:=zz10 BK384.out 0;have hfz20_1:=zz10 BK384.out 1) | ((with_reducible refine gate_callee (f:=11) rfl ?_);refine goesL_ (some 24) rfl rfl Try.func11 (by kernel_rfl) rfl #[.agg #[.int .i64 a0_0,.slice A0_1 l0_1.length c0_1]] rfl (by (try simp only [zz26,zz27,zz28]);first | done | rfl | (simp only [zz24,zz25];rfl)) ?_;(with_reducible refine (laws_toParty.calls k a0_0 _ _ l0_1 t392 t393 _ ?side1 ?side2 A10.out).mono ?_);(case side1=>repeat (first | exact (Kd.C_below HR0_1.out HB.out) | (with_reducible refine zz18 ?_ _) | (with_reducible refine zz19 ?_ _) | (with_reducible refine zz20 ?_)));(case side2=>exact HC0_1.out);rintro e w21 ⟨v394,rfl,ho0,hb⟩;refine ⟨_,rfl,?_⟩;have n0_:=zz31 (Kd.R_elder' (by (with_reducible repeat (first | apply zz12 | apply zz13 | apply zz14));exact HO389.out) (Kd.R_base ho0) hb);have n1_:=zz31 (Kd.R_lower (Kd.R_new' ho0 (Kd.R_lt (by (with_reducible repeat (first | apply zz12 | apply zz13 | apply zz14));exact HO389.out))) (zz5 (by repeat first | exact HB.out | apply zz2 | apply zz0 | apply zz1 | refine zz3 ?_ GE384.out)));have n2_:=zz31 (zz11 (g:=gb384) (o:=.cells #[.int .i64 a0_0,.slice A0_1 l0_1.length c0_1] 24 (0,0)) (by (with_reducible repeat (first | refine zz6 ?_ _ | refine zz7 ?_ | refine zz8 ?_ _));exact BK384.out) hb);have n3_:=zz31 (zz4 (by repeat first | exact HB.out | apply zz2 | apply zz0 | apply zz1 | refine zz3 ?_ GE384.out) hb);clear HO389;clear BK384;clear HB;have HO389:=n0_;have HO395:=n1_;have BK384:=n2_;have HB:=n3_;clear n0_ n1_ n2_ n3_;(try clear hb);(try clear hb2);(try clear hk);(try clear hi);(try clear ho0)) | ((with_reducible refine gate_dst (N:=8) rfl ?_);refine box_event ?hg (N:=8) ?hd (cs:=#[.int .i64 0,.slice none 0 0]) (t:=31) ?hr ?_;(case hd=>rfl);(case hg=>rfl);(case hr=>first | (go_simp;done) | (go_simp;rfl));intro gb396 hg w22 hbox hb;have n0_:=zz31 (Kd.R_below (by (with_reducible repeat (first | apply zz12 | apply zz13 | apply zz14));exact HO389.out) hb);have n1_:=zz31 (Kd.R_below (by (with_reducible repeat (first | apply zz12 | apply zz13 | apply zz14));exact HO395.out) hb);have n2_:=zz31 (zz11 (g:=gb384) (o:=.cells #[.int .i64 a0_0,.slice A0_1 l0_1.length c0_1] 24 (0,0)) (by (with_reducible repeat (first | refine zz6 ?_ _ | refine zz7 ?_ | refine zz8 ?_ _));exact BK384.out) hb);have n3_:=zz31 (zz4 (by repeat first | exact HB.out | apply zz2 | apply zz0 | apply zz1 | refine zz3 ?_ GE384.out) hb);have n4_:=zz31 (hbox);have n5_:=zz31 ((by rw [hg];exact (zz5 (by repeat first | exact HB.out | apply zz2 | apply zz0 | apply zz1 | refine zz3 ?_ GE384.out)):w.heap.size≤gb396));have n6_:=zz31 ((by rw [hg];exact (zz5 (by repeat first | exact HB.out | apply zz2 | apply zz0 | apply zz1 | refine zz3 ?_ GE384.out)):w.heap.size≤gb396));have n7_:=zz31 ((by rw [hg];exact Nat.ne_of_lt (blk_lt (g:=gb384) (o:=.cells #[.int .i64 a0_0,.slice A0_1 l0_1.length c0_1] 24 (0,0)) (by (with_reducible repeat (first | refine zz6 ?_ _ | refine zz7 ?_ | refine zz8 ?_ _));exact BK384.out)):gb384 ≠ gb396));have n8_:=zz31 ((by rw [hg];exact Nat.ne_of_gt (blk_lt (g:=gb384) (o:=.cells #[.int .i64 a0_0,.slice A0_1 l0_1.length c0_1] 24 (0,0)) (by (with_reducible repeat (first | refine zz6 ?_ _ | refine zz7 ?_ | refine zz8 ?_ _));exact BK384.out)):gb396 ≠ gb384));clear HO389;clear HO395;clear BK384;clear HB;have HO389:=n0_;have HO395:=n1_;have BK384:=n2_;have HB:=n3_;have BK396:=n4_;have GW396:=n5_;have GE396:=n6_;have NB384_396:=n7_;have NB396_384:=n8_;clear n0_ n1_ n2_ n3_ n4_ n5_ n6_ n7_ n8_;clear hb hbox hg;have hnb23:=NB396_384.out;have hnc23:=NB384_396.out;have hcz24_0:w22.cell? ⟨gb396,0,none⟩=some (.int .i64 0):=(zz9 BK396.out 0).trans rfl;have hcz24_1:w22.cell? ⟨gb396,1,none⟩=some (.slice none 0 0):=(zz9 BK396.out 1).trans rfl;have hfz24_0:=zz10 BK396.out 0;have hfz24_1:=zz10 BK396.out 1;obtain ⟨Ao25,co25,eo25⟩:=Kd.R_slice HO395.out;subst eo25) | ((with_reducible refine gate_callee (f:=20) rfl ?_);refine goesL_ (some 28) rfl rfl Try.func20 (by kernel_rfl) rfl #[.agg #[.int .i64 t392,.slice Ao25 t393.length co25],.int .i64 a1] rfl (by (try simp only [zz26,zz27,zz28]);first | done | rfl | (simp only [zz24,zz25];rfl)) ?_;(with_reducible refine (impl_CountColourings.calls k t392 _ _ t393 a1 t397 t398 _ ?side1 ?side2 A11.out).mono ?_);(case side1=>refine (Kd.R_reads' (e:=79) (base:=w.heap.size) (ok:=fun k_=>(True∧some k_ ≠ (.slice Ao18 t387.length co18:Value).ownBlock)) (n:=t393.length) (c:=co25) ?_).2.2;exact (by (with_reducible repeat (first | apply zz12 | apply zz13 | apply zz14));exact (Kd.R_mono (Kd.R_far (p:=⟨gb396,1,none⟩) (Kd.R_far (p:=⟨gb396,0,none⟩) (Kd.R_types HO395.out BK396.out (by decide)) (fun _ hk=>hk.2) (.int .i64 t392)) (fun _ hk=>hk.2) (.slice Ao25 t393.length co25)) (fun _ h_=>h_.1))));(case side2=>exact (Kd.R_reads' HO395.out).2.1);rintro e w26 ⟨rfl,hb⟩;refine ⟨_,rfl,?_⟩;have n0_:=zz31 (Kd.R_below (by (with_reducible repeat (first | apply zz12 | apply zz13 | apply zz14));exact (Kd.R_mono (Kd.R_far (p:=⟨gb396,1,none⟩) (Kd.R_far (p:=⟨gb396,0,none⟩) (Kd.R_types HO389.out BK396.out (by decide)) (fun _ hk=>hk.2) (.int .i64 t392)) (fun _ hk=>hk.2) (.slice Ao25 t393.length co25)) (fun _ h_=>h_.1))) hb);have n1_:=zz31 (Kd.R_below (by (with_reducible repeat (first | apply zz12 | apply zz13 | apply zz14));exact (Kd.R_mono (Kd.R_far (p:=⟨gb396,1,none⟩) (Kd.R_far (p:=⟨gb396,0,none⟩) (Kd.R_types HO395.out BK396.out (by decide)) (fun _ hk=>hk.2) (.int .i64 t392)) (fun _ hk=>hk.2) (.slice Ao25 t393.length co25)) (fun _ h_=>h_.1))) hb);have n2_:=zz31 (zz11 (g:=gb384) (o:=.cells #[.int .i64 a0_0,.slice A0_1 l0_1.length c0_1] 24 (0,0)) (by (with_reducible repeat (first | refine zz6 ?_ _ | refine zz7 ?_ | refine zz8 ?_ _));refine blk_far ?_ NB384_396.out _;(with_reducible repeat (first | refine zz6 ?_ _ | refine zz7 ?_ | refine zz8 ?_ _));refine blk_far ?_ NB384_396.out _;(with_reducible repeat (first | refine zz6 ?_ _ | refine zz7 ?_ | refine zz8 ?_ _));exact BK384.out) hb);have n3_:=zz31 (zz11 (g:=gb396) (o:=.cells #[.int .i64 t392,.slice Ao25 t393.length co25] 31 (0,0)) (by (with_reducible repeat (first | refine zz6 ?_ _ | refine zz7 ?_ | refine zz8 ?_ _));refine blk_put (cs:=#[.int .i64 t392,.slice none 0 0]) ?_ 1 _ rfl;(with_reducible repeat (first | refine zz6 ?_ _ | refine zz7 ?_ | refine zz8 ?_ _));refine blk_put (cs:=#[.int .i64 0,.slice none 0 0]) ?_ 0 _ rfl;(with_reducible repeat (first | refine zz6 ?_ _ | refine zz7 ?_ | refine zz8 ?_ _));exact BK396.out) hb);have n4_:=zz31 (zz4 (by repeat first | exact HB.out | apply zz2 | apply zz0 | apply zz1 | refine zz3 ?_ GE384.out | refine zz3 ?_ GE396.out) hb);clear HO389;clear HO395;clear BK384;clear BK396;clear HB;have HO389:=n0_;have HO395:=n1_;have BK384:=n2_;have BK396:=n3_;have HB:=n4_;clear n0_ n1_ n2_ n3_ n4_;(try clear hb);(try clear hb2);(try clear hk);(try clear hi)))
  (try simp only [Act.put,zz21,zz22,zz23])
  go_cut [38] (fun v38 wc=>∃ (kq:Nat) (x38_11:Bool),v38=.bool x38_11∧Aside0 (laws_FnExactCountColourings.j0 kq x38_11 a0_0 l0_1 t392 t393=some r)∧Aside0 (kq≤k)∧Aside0 (Kd.R k79 79 wc w.heap.size (fun _=>True) (.slice Ao25 t393.length co25) t393)∧Aside0 (wc.heap[gb384]?=some (.cells #[.int .i64 a0_0,(.slice A0_1 l0_1.length c0_1)] 24 (0,0)))∧Aside0 (wc.heap[gb396]?=some (.cells #[.int .i64 t392,(.slice Ao25 t393.length co25)] 31 (0,0)))∧Aside0 (Below w.heap.size w wc))
  case first =>
   have H:=HC12.out
   clear HC12
   by_cases c27:t397=t390
   ·rw [if_pos c27] at H
    have c27b0:(t397 == t390)=true:=beq_iff_eq.mpr c27
    have c27b1:(t397 != t390)=false:=bne_eq_false_iff_eq.mpr c27
    clear c27
    (first | rw [c27b0] | (simp only [i64_w,i32_w];rw [c27b0]) | skip)
    have H':=zz31 H
    clear H
    go_wp2
    go_meet
    case rel=>exact ⟨_,((t398 != t391)),(by first | rfl | (simp;done) | (simp [*];done)),H',⟨by first | omega | exact Nat.le_refl _⟩,⟨by (with_reducible repeat (first | apply zz12 | apply zz13 | apply zz14));exact Kd.R_mono HO395.out (fun _ hk=>trivial)⟩,⟨by (with_reducible repeat (first | refine zz6 ?_ _ | refine zz7 ?_ | refine zz8 ?_ _));exact BK384.out⟩,⟨by (with_reducible repeat (first | refine zz6 ?_ _ | refine zz7 ?_ | refine zz8 ?_ _));exact BK396.out⟩,⟨by repeat first | exact HB.out | apply zz2 | apply zz0 | apply zz1 | refine zz3 ?_ GE384.out | refine zz3 ?_ GE396.out⟩⟩
   ·rw [if_neg c27] at H
    have c27b0:(t397 == t390)=false:=beq_eq_false_iff_ne.mpr c27
    have c27b1:(t397 != t390)=true:=bne_iff_ne.mpr c27
    (first | rw [c27b0] | (simp only [i64_w,i32_w];rw [c27b0]) | skip)
    have H':=zz31 H
    clear H
    go_wp2
    go_meet
    case rel=>exact ⟨_,(true),(by first | rfl | (simp;done) | (simp [*];done)),H',⟨by first | omega | exact Nat.le_refl _⟩,⟨by (with_reducible repeat (first | apply zz12 | apply zz13 | apply zz14));exact Kd.R_mono HO395.out (fun _ hk=>trivial)⟩,⟨by (with_reducible repeat (first | refine zz6 ?_ _ | refine zz7 ?_ | refine zz8 ?_ _));exact BK384.out⟩,⟨by (with_reducible repeat (first | refine zz6 ?_ _ | refine zz7 ?_ | refine zz8 ?_ _));exact BK396.out⟩,⟨by repeat first | exact HB.out | apply zz2 | apply zz0 | apply zz1 | refine zz3 ?_ GE384.out | refine zz3 ?_ GE396.out⟩⟩
  case rest =>
   clear HC12
   try clear c1
   try clear c2
   try clear p2
   try clear c4
   try clear c4b0
   try clear c9
   try clear c11
   try clear c19
   try clear c20
   try clear c23
   try clear c27
   try clear c27b0
   try clear c27b1
   try clear hcz14_0
   try clear hcz14_1
   try clear hcz16_0
   try clear hcz16_1
   try clear hcz20_0
   try clear hcz20_1
   try clear hcz24_0
   try clear hcz24_1
   try clear hcz6_0
   try clear hcz6_1
   try clear hfz14_0
   try clear hfz14_1
   try clear hfz16_0
   try clear hfz16_1
   try clear hfz20_0
   try clear hfz20_1
   try clear hfz24_0
   try clear hfz24_1
   try clear hfz6_0
   try clear hfz6_1
   obtain ⟨kq,x38_11,rfl,HA,HJ11,HO_397001,BK384,BK396,HB⟩:=hcut
   cases kq with
   | zero=>exact absurd HA.out (by simp [laws_FnExactCountColourings.j0])
   | succ kj11 =>
    have H:=HA.out
    clear HA
    simp only [laws_FnExactCountColourings.j0] at H
    by_cases c28:x38_11=true
    ·subst c28
     have H1:(some false)=some r:=by rw [if_pos rfl] at H;exact H
     clear H
     have H:=H1
     clear H1
     obtain rfl:=Option.some.inj H
     go_wp2
     go_ret
     exact ⟨by first | rfl | (simp [errW_none,errW_some] <;> rfl) | (simp [*,errW_none,errW_some] <;> rfl),by repeat first | exact HB.out | apply zz2 | apply zz0 | apply zz1 | refine zz3 ?_ GE384.out | refine zz3 ?_ GE396.out⟩
    ·replace c28:=Bool.eq_false_iff.mpr c28
     subst c28
     have H1:((laws_toParty.f kj11 a0_0 l0_1).bind fun bt399=>((laws_eqParty.f kj11 t392 t393 bt399.1 bt399.2).bind fun t403=>(if t403=true then (some true) else (some false))))=some r:=by rw [if_neg (show ¬ (false=true) by decide)] at H;exact H
     clear H
     have H:=H1
     clear H1
     replace H:=zz30.mp H
     obtain ⟨⟨t399,t400⟩,A290,H⟩:=H
     replace H:((laws_eqParty.f kj11 t392 t393 t399 t400).bind fun t403=>(if t403=true then (some true) else (some false)))=some r:=H
     have A29:=zz31 A290
     clear A290
     replace H:=zz30.mp H
     obtain ⟨t403,A300,H⟩:=H
     replace H:(if t403=true then (some true) else (some false))=some r:=H
     have A30:=zz31 A300
     clear A300
     by_cases c31:t403=true
     ·subst c31
      have H1:(some true)=some r:=by rw [if_pos rfl] at H;exact H
      clear H
      have H:=H1
      clear H1
      obtain rfl:=Option.some.inj H
      try go_wp2
      have n0_:=zz31 (zz14 HO_397001.out)
      have n1_:=zz31 (zz7 BK384.out)
      have n2_:=zz31 (zz7 BK396.out)
      have n3_:=zz31 (zz1 HB.out)
      clear HO_397001
      clear BK384
      clear BK396
      clear HB
      have HO_397001:=n0_
      have BK384:=n1_
      have BK396:=n2_
      have HB:=n3_
      clear n0_ n1_ n2_ n3_
      refine start_ (n:=5) (S:=fun w'=>w'.cell? ⟨gb396,0,none⟩=some (.int .i64 t392)∧w'.cell? ⟨gb396,1,none⟩=some (.slice Ao25 t393.length co25)∧w'.cell? ⟨gb384,0,none⟩=some (.int .i64 a0_0)∧w'.cell? ⟨gb384,1,none⟩=some (.slice A0_1 l0_1.length c0_1)) (ds:=[]) #[F,F,F,F,F] (by kernel_rfl) rfl rfl ⟨(zz9 BK396.out 0).trans rfl,(zz9 BK396.out 1).trans rfl,(zz9 BK384.out 0).trans rfl,(zz9 BK384.out 1).trans rfl⟩ (fun hHeld=>?_)
      generalize wc.drew=w32 at HO_397001 BK384 BK396 HB hHeld ⊢
      refine take_ (i:=0) (N:=some 39) (v:=?_) (a':=?_) #[T,F,F,F,F] rfl rfl (by kernel_rfl) (fun _ _ _ h=>h) (Or.inl ⟨by rfl,?_⟩) hHeld ?_ ?_
      rotate_left
      ·rintro w' ⟨s0,s1,s2,s3⟩
       go_simp
       with_reducible rfl
      rotate_left
      ·simp only [Act.put,zz21,zz22,zz23,i64_w,i32_w]
       rfl
      refine take_ (i:=1) (N:=some 40) (v:=?_) (a':=?_) #[T,T,F,F,F] rfl rfl (by kernel_rfl) (fun _ _ _ h=>h) (Or.inl ⟨by rfl,?_⟩) hHeld ?_ ?_
      rotate_left
      ·rintro w' ⟨s0,s1,s2,s3⟩
       go_simp
       with_reducible rfl
      rotate_left
      ·simp only [Act.put,zz21,zz22,zz23,i64_w,i32_w]
       rfl
      refine one_ (i:=2) (N:=some 41) #[T,T,T,F,F] rfl rfl (by kernel_rfl) (by decide) (fun K hK=>?_)
      refine goes_ Try.func11 (by kernel_rfl) rfl #[.agg #[.int .i64 a0_0,.slice A0_1 l0_1.length c0_1]] (by rfl) rfl rfl (by (try simp only [zz26,zz27,zz28]);first | done | rfl | (simp only [zz24,zz25];rfl)) ?_
      with_reducible refine (laws_toParty.calls kj11 a0_0 _ _ l0_1 t399 t400 _ ?side1 ?side2 A29.out).mono ?_
      (case side1=>repeat (first | exact (Kd.C_below HR0_1.out HB.out) | (with_reducible refine zz18 ?_ _) | (with_reducible refine zz19 ?_ _) | (with_reducible refine zz20 ?_)))
      (case side2=>exact HC0_1.out)
      rintro e w33 ⟨v401,rfl,ho0,hb⟩
      refine ⟨_,rfl,?_⟩
      have n0_:=zz31 (Kd.R_elder' (by (with_reducible repeat (first | apply zz12 | apply zz13 | apply zz14));exact HO_397001.out) (Kd.R_base ho0) hb)
      have n1_:=zz31 (Kd.R_lower (Kd.R_new' ho0 (Kd.R_lt (by (with_reducible repeat (first | apply zz12 | apply zz13 | apply zz14));exact HO_397001.out))) (zz5 (by repeat first | exact HB.out | apply zz2 | apply zz0 | apply zz1 | refine zz3 ?_ GE384.out | refine zz3 ?_ GE396.out)))
      have n2_:=zz31 (zz11 (g:=gb384) (o:=.cells #[.int .i64 a0_0,.slice A0_1 l0_1.length c0_1] 24 (0,0)) (by (with_reducible repeat (first | refine zz6 ?_ _ | refine zz7 ?_ | refine zz8 ?_ _));exact BK384.out) hb)
      have n3_:=zz31 (zz11 (g:=gb396) (o:=.cells #[.int .i64 t392,.slice Ao25 t393.length co25] 31 (0,0)) (by (with_reducible repeat (first | refine zz6 ?_ _ | refine zz7 ?_ | refine zz8 ?_ _));exact BK396.out) hb)
      have n4_:=zz31 (zz4 (by repeat first | exact HB.out | apply zz2 | apply zz0 | apply zz1 | refine zz3 ?_ GE384.out | refine zz3 ?_ GE396.out) hb)
      clear HO_397001
      clear BK384
      clear BK396
      clear HB
      have HO_397001:=n0_
      have HO402:=n1_
      have BK384:=n2_
      have BK396:=n3_
      have HB:=n4_
      clear n0_ n1_ n2_ n3_ n4_
      (try clear hb)
      (try clear hb2)
      (try clear hk)
      (try clear hi)
      (try clear ho0)
      obtain ⟨Ao34,co34,eo34⟩:=Kd.R_slice HO402.out
      (first | subst eo34 | (injection eo34 with f1_ f2_ f3_;have f4_:=f1_.symm;have f5_:=f3_.symm;clear f1_ f2_ f3_;subst f4_;subst f5_))
      refine hK.out _ _ ⟨(zz9 BK396.out 0).trans rfl,(zz9 BK396.out 1).trans rfl,(zz9 BK384.out 0).trans rfl,(zz9 BK384.out 1).trans rfl⟩ (fun hHeld=>?_)
      clear hK K
      refine norm_ (a':=?_) ?_ ?_
      rotate_left
      ·show Act.put _ (some 41) _=_
       simp only [Act.put,zz21,zz22,zz23,i64_w,i32_w]
       rfl
      refine one_ (i:=3) (N:=some 42) #[T,T,T,T,F] rfl rfl (by kernel_rfl) (by decide) (fun K hK=>?_)
      refine goes_ Try.func15 (by kernel_rfl) rfl #[.agg #[.int .i64 t392,.slice Ao25 t393.length co25],.agg #[.int .i64 t399,.slice Ao34 t400.length co34]] (by rfl) rfl rfl (by (try simp only [zz26,zz27,zz28]);first | done | rfl | (simp only [zz24,zz25];rfl)) ?_
      with_reducible refine (laws_eqParty.calls kj11 t392 _ _ t393 t399 _ _ t400 true _ ?side1 ?side2 ?side3 ?side4 A30.out).mono ?_
      (case side1=>repeat (first | exact (Kd.R_reads' HO_397001.out).2.2 | (with_reducible refine zz18 ?_ _) | (with_reducible refine zz19 ?_ _) | (with_reducible refine zz20 ?_)))
      (case side2=>exact (Kd.R_reads' HO_397001.out).2.1)
      (case side3=>repeat (first | exact (Kd.R_reads' HO402.out).2.2 | (with_reducible refine zz18 ?_ _) | (with_reducible refine zz19 ?_ _) | (with_reducible refine zz20 ?_)))
      (case side4=>exact (Kd.R_reads' HO402.out).2.1)
      rintro e w35 ⟨rfl,hb⟩
      refine ⟨_,rfl,?_⟩
      have n0_:=zz31 (Kd.R_below (by (with_reducible repeat (first | apply zz12 | apply zz13 | apply zz14));exact HO_397001.out) hb)
      have n1_:=zz31 (Kd.R_below (by (with_reducible repeat (first | apply zz12 | apply zz13 | apply zz14));exact HO402.out) hb)
      have n2_:=zz31 (zz11 (g:=gb384) (o:=.cells #[.int .i64 a0_0,.slice A0_1 l0_1.length c0_1] 24 (0,0)) (by (with_reducible repeat (first | refine zz6 ?_ _ | refine zz7 ?_ | refine zz8 ?_ _));exact BK384.out) hb)
      have n3_:=zz31 (zz11 (g:=gb396) (o:=.cells #[.int .i64 t392,.slice Ao25 t393.length co25] 31 (0,0)) (by (with_reducible repeat (first | refine zz6 ?_ _ | refine zz7 ?_ | refine zz8 ?_ _));exact BK396.out) hb)
      have n4_:=zz31 (zz4 (by repeat first | exact HB.out | apply zz2 | apply zz0 | apply zz1 | refine zz3 ?_ GE384.out | refine zz3 ?_ GE396.out) hb)
      clear HO_397001
      clear HO402
      clear BK384
      clear BK396
      clear HB
      have HO_397001:=n0_
      have HO402:=n1_
      have BK384:=n2_
      have BK396:=n3_
      have HB:=n4_
      clear n0_ n1_ n2_ n3_ n4_
      (try clear hb)
      (try clear hb2)
      (try clear hk)
      (try clear hi)
      refine hK.out _ _ ⟨(zz9 BK396.out 0).trans rfl,(zz9 BK396.out 1).trans rfl,(zz9 BK384.out 0).trans rfl,(zz9 BK384.out 1).trans rfl⟩ (fun hHeld=>?_)
      clear hK K
      refine norm_ (a':=?_) ?_ ?_
      rotate_left
      ·show Act.put _ (some 42) _=_
       simp only [Act.put,zz21,zz22,zz23,i64_w,i32_w]
       rfl
      refine pure_ (i:=4) (N:=some 43) (v:=?_) (a':=?_) #[T,T,T,T,T] rfl rfl (by kernel_rfl) (fun _ _ _ h=>h) (Or.inl ⟨by rfl,?_⟩) ?_ ?_
      rotate_left
      ·intro w'
       go_simp
       with_reducible rfl
      rotate_left
      ·simp only [Act.put,zz21,zz22,zz23,i64_w,i32_w]
       rfl
      refine done_ (by kernel_rfl) ?_
      try go_wp2
      go_ret
      exact ⟨by first | rfl | (simp [errW_none,errW_some] <;> rfl) | (simp [*,errW_none,errW_some] <;> rfl),by repeat first | exact HB.out | apply zz2 | apply zz0 | apply zz1 | refine zz3 ?_ GE384.out | refine zz3 ?_ GE396.out⟩
     ·replace c31:=Bool.eq_false_iff.mpr c31
      subst c31
      have H1:(some false)=some r:=by rw [if_neg (show ¬ (false=true) by decide)] at H;exact H
      clear H
      have H:=H1
      clear H1
      obtain rfl:=Option.some.inj H
      try go_wp2
      have n0_:=zz31 (zz14 HO_397001.out)
      have n1_:=zz31 (zz7 BK384.out)
      have n2_:=zz31 (zz7 BK396.out)
      have n3_:=zz31 (zz1 HB.out)
      clear HO_397001
      clear BK384
      clear BK396
      clear HB
      have HO_397001:=n0_
      have BK384:=n1_
      have BK396:=n2_
      have HB:=n3_
      clear n0_ n1_ n2_ n3_
      refine start_ (n:=5) (S:=fun w'=>w'.cell? ⟨gb396,0,none⟩=some (.int .i64 t392)∧w'.cell? ⟨gb396,1,none⟩=some (.slice Ao25 t393.length co25)∧w'.cell? ⟨gb384,0,none⟩=some (.int .i64 a0_0)∧w'.cell? ⟨gb384,1,none⟩=some (.slice A0_1 l0_1.length c0_1)) (ds:=[]) #[F,F,F,F,F] (by kernel_rfl) rfl rfl ⟨(zz9 BK396.out 0).trans rfl,(zz9 BK396.out 1).trans rfl,(zz9 BK384.out 0).trans rfl,(zz9 BK384.out 1).trans rfl⟩ (fun hHeld=>?_)
      generalize wc.drew=w36 at HO_397001 BK384 BK396 HB hHeld ⊢
      refine take_ (i:=0) (N:=some 39) (v:=?_) (a':=?_) #[T,F,F,F,F] rfl rfl (by kernel_rfl) (fun _ _ _ h=>h) (Or.inl ⟨by rfl,?_⟩) hHeld ?_ ?_
      rotate_left
      ·rintro w' ⟨s0,s1,s2,s3⟩
       go_simp
       with_reducible rfl
      rotate_left
      ·simp only [Act.put,zz21,zz22,zz23,i64_w,i32_w]
       rfl
      refine take_ (i:=1) (N:=some 40) (v:=?_) (a':=?_) #[T,T,F,F,F] rfl rfl (by kernel_rfl) (fun _ _ _ h=>h) (Or.inl ⟨by rfl,?_⟩) hHeld ?_ ?_
      rotate_left
      ·rintro w' ⟨s0,s1,s2,s3⟩
       go_simp
       with_reducible rfl
      rotate_left
      ·simp only [Act.put,zz21,zz22,zz23,i64_w,i32_w]
       rfl
      refine one_ (i:=2) (N:=some 41) #[T,T,T,F,F] rfl rfl (by kernel_rfl) (by decide) (fun K hK=>?_)
      refine goes_ Try.func11 (by kernel_rfl) rfl #[.agg #[.int .i64 a0_0,.slice A0_1 l0_1.length c0_1]] (by rfl) rfl rfl (by (try simp only [zz26,zz27,zz28]);first | done | rfl | (simp only [zz24,zz25];rfl)) ?_
      with_reducible refine (laws_toParty.calls kj11 a0_0 _ _ l0_1 t399 t400 _ ?side1 ?side2 A29.out).mono ?_
      (case side1=>repeat (first | exact (Kd.C_below HR0_1.out HB.out) | (with_reducible refine zz18 ?_ _) | (with_reducible refine zz19 ?_ _) | (with_reducible refine zz20 ?_)))
      (case side2=>exact HC0_1.out)
      rintro e w37 ⟨v401,rfl,ho0,hb⟩
      refine ⟨_,rfl,?_⟩
      have n0_:=zz31 (Kd.R_elder' (by (with_reducible repeat (first | apply zz12 | apply zz13 | apply zz14));exact HO_397001.out) (Kd.R_base ho0) hb)
      have n1_:=zz31 (Kd.R_lower (Kd.R_new' ho0 (Kd.R_lt (by (with_reducible repeat (first | apply zz12 | apply zz13 | apply zz14));exact HO_397001.out))) (zz5 (by repeat first | exact HB.out | apply zz2 | apply zz0 | apply zz1 | refine zz3 ?_ GE384.out | refine zz3 ?_ GE396.out)))
      have n2_:=zz31 (zz11 (g:=gb384) (o:=.cells #[.int .i64 a0_0,.slice A0_1 l0_1.length c0_1] 24 (0,0)) (by (with_reducible repeat (first | refine zz6 ?_ _ | refine zz7 ?_ | refine zz8 ?_ _));exact BK384.out) hb)
      have n3_:=zz31 (zz11 (g:=gb396) (o:=.cells #[.int .i64 t392,.slice Ao25 t393.length co25] 31 (0,0)) (by (with_reducible repeat (first | refine zz6 ?_ _ | refine zz7 ?_ | refine zz8 ?_ _));exact BK396.out) hb)
      have n4_:=zz31 (zz4 (by repeat first | exact HB.out | apply zz2 | apply zz0 | apply zz1 | refine zz3 ?_ GE384.out | refine zz3 ?_ GE396.out) hb)
      clear HO_397001
      clear BK384
      clear BK396
      clear HB
      have HO_397001:=n0_
      have HO402:=n1_
      have BK384:=n2_
      have BK396:=n3_
      have HB:=n4_
      clear n0_ n1_ n2_ n3_ n4_
      (try clear hb)
      (try clear hb2)
      (try clear hk)
      (try clear hi)
      (try clear ho0)
      obtain ⟨Ao38,co38,eo38⟩:=Kd.R_slice HO402.out
      (first | subst eo38 | (injection eo38 with f1_ f2_ f3_;have f4_:=f1_.symm;have f5_:=f3_.symm;clear f1_ f2_ f3_;subst f4_;subst f5_))
      refine hK.out _ _ ⟨(zz9 BK396.out 0).trans rfl,(zz9 BK396.out 1).trans rfl,(zz9 BK384.out 0).trans rfl,(zz9 BK384.out 1).trans rfl⟩ (fun hHeld=>?_)
      clear hK K
      refine norm_ (a':=?_) ?_ ?_
      rotate_left
      ·show Act.put _ (some 41) _=_
       simp only [Act.put,zz21,zz22,zz23,i64_w,i32_w]
       rfl
      refine one_ (i:=3) (N:=some 42) #[T,T,T,T,F] rfl rfl (by kernel_rfl) (by decide) (fun K hK=>?_)
      refine goes_ Try.func15 (by kernel_rfl) rfl #[.agg #[.int .i64 t392,.slice Ao25 t393.length co25],.agg #[.int .i64 t399,.slice Ao38 t400.length co38]] (by rfl) rfl rfl (by (try simp only [zz26,zz27,zz28]);first | done | rfl | (simp only [zz24,zz25];rfl)) ?_
      with_reducible refine (laws_eqParty.calls kj11 t392 _ _ t393 t399 _ _ t400 false _ ?side1 ?side2 ?side3 ?side4 A30.out).mono ?_
      (case side1=>repeat (first | exact (Kd.R_reads' HO_397001.out).2.2 | (with_reducible refine zz18 ?_ _) | (with_reducible refine zz19 ?_ _) | (with_reducible refine zz20 ?_)))
      (case side2=>exact (Kd.R_reads' HO_397001.out).2.1)
      (case side3=>repeat (first | exact (Kd.R_reads' HO402.out).2.2 | (with_reducible refine zz18 ?_ _) | (with_reducible refine zz19 ?_ _) | (with_reducible refine zz20 ?_)))
      (case side4=>exact (Kd.R_reads' HO402.out).2.1)
      rintro e w39 ⟨rfl,hb⟩
      refine ⟨_,rfl,?_⟩
      have n0_:=zz31 (Kd.R_below (by (with_reducible repeat (first | apply zz12 | apply zz13 | apply zz14));exact HO_397001.out) hb)
      have n1_:=zz31 (Kd.R_below (by (with_reducible repeat (first | apply zz12 | apply zz13 | apply zz14));exact HO402.out) hb)
      have n2_:=zz31 (zz11 (g:=gb384) (o:=.cells #[.int .i64 a0_0,.slice A0_1 l0_1.length c0_1] 24 (0,0)) (by (with_reducible repeat (first | refine zz6 ?_ _ | refine zz7 ?_ | refine zz8 ?_ _));exact BK384.out) hb)
      have n3_:=zz31 (zz11 (g:=gb396) (o:=.cells #[.int .i64 t392,.slice Ao25 t393.length co25] 31 (0,0)) (by (with_reducible repeat (first | refine zz6 ?_ _ | refine zz7 ?_ | refine zz8 ?_ _));exact BK396.out) hb)
      have n4_:=zz31 (zz4 (by repeat first | exact HB.out | apply zz2 | apply zz0 | apply zz1 | refine zz3 ?_ GE384.out | refine zz3 ?_ GE396.out) hb)
      clear HO_397001
      clear HO402
      clear BK384
      clear BK396
      clear HB
      have HO_397001:=n0_
      have HO402:=n1_
      have BK384:=n2_
      have BK396:=n3_
      have HB:=n4_
      clear n0_ n1_ n2_ n3_ n4_
      (try clear hb)
      (try clear hb2)
      (try clear hk)
      (try clear hi)
      refine hK.out _ _ ⟨(zz9 BK396.out 0).trans rfl,(zz9 BK396.out 1).trans rfl,(zz9 BK384.out 0).trans rfl,(zz9 BK384.out 1).trans rfl⟩ (fun hHeld=>?_)
      clear hK K
      refine norm_ (a':=?_) ?_ ?_
      rotate_left
      ·show Act.put _ (some 42) _=_
       simp only [Act.put,zz21,zz22,zz23,i64_w,i32_w]
       rfl
      refine pure_ (i:=4) (N:=some 43) (v:=?_) (a':=?_) #[T,T,T,T,T] rfl rfl (by kernel_rfl) (fun _ _ _ h=>h) (Or.inl ⟨by rfl,?_⟩) ?_ ?_
      rotate_left
      ·intro w'
       go_simp
       with_reducible rfl
      rotate_left
      ·simp only [Act.put,zz21,zz22,zz23,i64_w,i32_w]
       rfl
      refine done_ (by kernel_rfl) ?_
      try go_wp2
      go_ret
      exact ⟨by first | rfl | (simp [errW_none,errW_some] <;> rfl) | (simp [*,errW_none,errW_some] <;> rfl),by repeat first | exact HB.out | apply zz2 | apply zz0 | apply zz1 | refine zz3 ?_ GE384.out | refine zz3 ?_ GE396.out⟩

end Go.Proofs.Ytifkaefccghgdaa.P
