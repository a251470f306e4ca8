/- The program's AllExchanges returns what the reference's returns, for all arguments (the plain statement behind the walk of lawps.py); no condition. -/
import Derived.Test.YtoedkkoafidalaaPx0
import Derived.Test.YtoedkkoafidalaaPx2
import Derived.Test.YtoedkkoafidalaaPx3
import Derived.Test.YtoedkkoafidalaaPx4
import Derived.Test.YtoedkkoafidalaaPx5
import Derived.Test.YtoedkkoafidalaaPx6
import Derived.Test.YtoedkkoafidalaaPx7
import Derived.Test.YtoedkkoafidalaaPx8
namespace Go.Proofs.Ytoedkkoafidalaa.Pure
open Go.RowKit Go.Proofs.Ytoedkkoafidalaa.P Go.Proofs.YtoedkkoafidalaaW.PrintWords Go.Proofs.YtoedkkoafidalaaW.PrintLast
set_option linter.unusedSimpArgs false
set_option linter.unusedVariables false
instance decPair:DecidableEq S70:=fun x y=>if h:x.f0=y.f0∧x.f1=y.f1 then isTrue (by cases x;cases y;simp_all) else isFalse (fun e=>h (by rw [e];exact ⟨rfl,rfl⟩))
def addX (S:List S30) (x:S30):List S30:=S ++ [x]
theorem addX_len (S:List S30) (x:S30):(addX S x).length≤S.length+1:=by unfold addX;simp
theorem eq_of_sorted {α:Type} (lt:α→α→Bool) (hi:∀ x,lt x x=false) (ht:∀ {x y z},lt x y=true→lt y z=true→lt x z=true):∀ (l1 l2:List α),l1.Pairwise (fun x y=>lt x y=true)→l2.Pairwise (fun x y=>lt x y=true)→(∀ x,x ∈ l1 ↔ x ∈ l2)→l1=l2
 | [],[],_,_,_=>rfl
 | [],y :: l2,_,_,h=>by have:=(h y).2 (List.mem_cons_self ..);cases this
 | x :: l1,[],_,_,h=>by have:=(h x).1 (List.mem_cons_self ..);cases this
 | x :: l1,y :: l2,h1,h2,h=>by
  obtain ⟨h1a,h1b⟩:=List.pairwise_cons.1 h1
  obtain ⟨h2a,h2b⟩:=List.pairwise_cons.1 h2
  have asym:∀ a b,lt a b=true→lt b a=true→False:=fun a b p q=>by
   have:=ht p q
   rw [hi] at this;cases this
  have e:x=y:=by
   rcases List.mem_cons.1 ((h x).1 (List.mem_cons_self ..)) with e | hx
   ·exact e
   ·rcases List.mem_cons.1 ((h y).2 (List.mem_cons_self ..)) with e | hy
    ·exact e.symm
    ·exact (asym x y (h1a y hy) (h2a x hx)).elim
  subst e
  congr 1
  refine eq_of_sorted lt hi ht l1 l2 h1b h2b fun z=>?_
  constructor
  ·intro hz
   rcases List.mem_cons.1 ((h z).1 (List.mem_cons_of_mem _ hz)) with e | hz2
   ·subst e
    have:=h1a z hz
    rw [hi] at this;cases this
   ·exact hz2
  ·intro hz
   rcases List.mem_cons.1 ((h z).2 (List.mem_cons_of_mem _ hz)) with e | hz2
   ·subst e
    have:=h2a z hz
    rw [hi] at this;cases this
   ·exact hz2

def lt2 (p q:S70):Bool:=decide (p.f0 < q.f0) || (decide (p.f0=q.f0) && decide (p.f1 < q.f1))
theorem cmp2_lt (x y:S70):(cmp2 x.f0 x.f1 y.f0 y.f1 < 0) ↔ lt2 x y=true:=by
 unfold cmp2 lt2
 simp only [Bool.or_eq_true,Bool.and_eq_true,decide_eq_true_eq]
 by_cases h1:x.f0 < y.f0
 ·rw [if_pos h1];exact ⟨fun _=>.inl h1,fun _=>by decide⟩
 ·rw [if_neg h1]
  by_cases h2:y.f0 < x.f0
  ·rw [if_pos h2];exact ⟨fun h=>absurd h (by decide),fun h=>by omega⟩
  ·rw [if_neg h2]
   by_cases h3:x.f1 < y.f1
   ·rw [if_pos h3];exact ⟨fun _=>.inr ⟨by omega,h3⟩,fun _=>by decide⟩
   ·rw [if_neg h3]
    by_cases h4:y.f1 < x.f1
    ·rw [if_pos h4];exact ⟨fun h=>absurd h (by decide),fun h=>by omega⟩
    ·rw [if_neg h4];exact ⟨fun h=>absurd h (by decide),fun h=>by omega⟩
theorem cmp2_zero (x y:S70):cmp2 x.f0 x.f1 y.f0 y.f1=0 ↔ x=y:=by
 obtain ⟨a,b⟩:=x
 obtain ⟨c,d⟩:=y
 rw [S70.mk.injEq]
 unfold cmp2
 dsimp only
 by_cases h1:a < c
 ·rw [if_pos h1];exact ⟨fun h=>absurd h (by decide),fun h=>by omega⟩
 ·rw [if_neg h1]
  by_cases h2:c < a
  ·rw [if_pos h2];exact ⟨fun h=>absurd h (by decide),fun h=>by omega⟩
  ·rw [if_neg h2]
   by_cases h3:b < d
   ·rw [if_pos h3];exact ⟨fun h=>absurd h (by decide),fun h=>by omega⟩
   ·rw [if_neg h3]
    by_cases h4:d < b
    ·rw [if_pos h4];exact ⟨fun h=>absurd h (by decide),fun h=>by omega⟩
    ·rw [if_neg h4];exact ⟨fun _=>by omega,fun _=>rfl⟩
def ltL:List S70→List S70→Bool
 | [],[]=>false
 | [],_ :: _=>true
 | _ :: _,[]=>false
 | x :: a,y :: b=>if x=y then ltL a b else lt2 x y
theorem cmpT_lt:∀ a b:List S70,(cmpT a b < 0) ↔ ltL a b=true
 | [],[]=>by simp [cmpT,ltL]
 | [],_ :: _=>by simp [cmpT,ltL]
 | _ :: _,[]=>by simp [cmpT,ltL]
 | x :: a,y :: b=>by
  rw [cmpT,ltL]
  by_cases e:x=y
  ·rw [if_pos ((cmp2_zero x y).2 e),if_pos e];exact cmpT_lt a b
  ·rw [if_neg (fun h=>e ((cmp2_zero x y).1 h)),if_neg e];exact cmp2_lt x y
theorem cmpT_zero:∀ a b:List S70,cmpT a b=0 ↔ a=b
 | [],[]=>by simp [cmpT]
 | [],_ :: _=>by simp [cmpT]
 | _ :: _,[]=>by simp [cmpT]
 | x :: a,y :: b=>by
  rw [cmpT]
  by_cases e:x=y
  ·rw [if_pos ((cmp2_zero x y).2 e),cmpT_zero a b,e];simp
  ·rw [if_neg (fun h=>e ((cmp2_zero x y).1 h))]
   exact ⟨fun h=>absurd ((cmp2_zero x y).1 h) e,fun h=>absurd (List.cons.inj h).1 e⟩
theorem lt2_tr {p q x:S70} (h1:lt2 p q=true) (h2:lt2 q x=true):lt2 p x=true:=by
 unfold lt2 at *
 simp only [Bool.or_eq_true,Bool.and_eq_true,decide_eq_true_eq] at *
 omega
theorem lt2_tri {x y:S70} (h:x ≠ y):lt2 x y=!lt2 y x:=by
 obtain ⟨a,b⟩:=x
 obtain ⟨c,d⟩:=y
 have h2:¬ (a=c∧b=d):=fun h3=>h (by rw [h3.1,h3.2])
 unfold lt2
 rw [Bool.eq_iff_iff]
 simp only [Bool.or_eq_true,Bool.and_eq_true,decide_eq_true_eq,Bool.not_eq_true',Bool.or_eq_false_iff,Bool.and_eq_false_imp,decide_eq_false_iff_not]
 omega
theorem ltL_trans:∀ {a b c:List S70},ltL a b=true→ltL b c=true→ltL a c=true
 | [],[],_,h,_=>by cases h
 | _ :: _,[],_,h,_=>by simp [ltL] at h
 | _,_ :: _,[],_,h=>by simp [ltL] at h
 | [],_ :: _,_ :: _,_,_=>rfl
 | x :: a,y :: b,z :: c,h1,h2=>by
  rw [ltL] at h1 h2 ⊢
  by_cases e1:x=y
  ·subst e1
   rw [if_pos rfl] at h1
   by_cases e2:x=z
   ·subst e2
    rw [if_pos rfl] at h2 ⊢
    exact ltL_trans h1 h2
   ·rw [if_neg e2] at h2 ⊢
    exact h2
  ·rw [if_neg e1] at h1
   by_cases e2:y=z
   ·subst e2
    rw [if_neg e1]
    exact h1
   ·rw [if_neg e2] at h2
    have h3:=lt2_tr h1 h2
    by_cases e3:x=z
    ·subst e3
     have:=lt2_tri e1
     rw [h1,h2] at this
     cases this
    ·rw [if_neg e3];exact h3
theorem ltL_tri:∀ {a b:List S70},a ≠ b→ltL a b=!ltL b a
 | [],[],h=>absurd rfl h
 | [],y :: b,_=>rfl
 | x :: a,[],_=>rfl
 | x :: a,y :: b,h=>by
  rw [ltL,ltL]
  by_cases e:x=y
  ·subst e
   rw [if_pos rfl,if_pos rfl]
   exact ltL_tri fun e=>h (by rw [e])
  ·rw [if_neg e,if_neg (fun e2=>e e2.symm)]
   exact lt2_tri e
def ltX (a b:S30):Bool:=ltL a.f1 b.f1
theorem party_eq {m:Int} {a b:S30} (ha:a.f0=m) (hb:b.f0=m) (h:a.f1=b.f1):a=b:=by
 obtain ⟨a0,a1⟩:=a
 obtain ⟨b0,b1⟩:=b
 rw [show a0=m from ha,show b0=m from hb,show a1=b1 from h]
theorem kp_sorted (m:Int) (D:List S30) (hf:∀ x ∈ D,x.f0=m) (hs:D.Pairwise (fun a b=>(!decide (cmpT b.f1 a.f1 < 0))=true)):∀ i,i < D.length→(kp z30 (fun a b=>cmpT a.f1 b.f1 == 0) D i).Pairwise (fun a b=>ltX a b=true)∧(∀ x ∈ kp z30 (fun a b=>cmpT a.f1 b.f1 == 0) D i,x=D.getD i z30 ∨ ltX x (D.getD i z30)=true)∧∀ j,j≤i→D.getD j z30 ∈ kp z30 (fun a b=>cmpT a.f1 b.f1 == 0) D i
 | 0,h=>by
  obtain ⟨d,D',rfl⟩:∃ d D',D=d :: D':=by cases D with | nil=>cases h | cons d D'=>exact ⟨d,D',rfl⟩
  rw [kp]
  refine ⟨by simp,fun x hx=>.inl (by simpa using hx),fun j hj=>?_⟩
  obtain rfl:j=0:=by omega
  simp
 | i+1,h=>by
  obtain ⟨i1,i2,i3⟩:=kp_sorted m D hf hs i (by omega)
  have ea:D.getD i z30=D[i]:=by rw [List.getD_eq_getElem?_getD,List.getElem?_eq_getElem (show i < D.length by omega)];rfl
  have eb:D.getD (i+1) z30=D[i+1]:=by rw [List.getD_eq_getElem?_getD,List.getElem?_eq_getElem h];rfl
  have hab:ltL (D.getD (i+1) z30).f1 (D.getD i z30).f1=false:=by
   have:=List.pairwise_iff_getElem.1 hs i (i+1) (by omega) h (by omega)
   simp only [Bool.not_eq_true',decide_eq_false_iff_not] at this
   rw [ea,eb]
   cases hq:ltL D[i+1].f1 D[i].f1 with
   | false=>rfl
   | true=>exact absurd ((cmpT_lt _ _).2 hq) this
  obtain ⟨a,ha⟩:∃ a,a=D.getD i z30:=⟨_,rfl⟩
  obtain ⟨b,hb⟩:∃ b,b=D.getD (i+1) z30:=⟨_,rfl⟩
  have ha0:a.f0=m:=by rw [ha,ea];exact hf _ (List.getElem_mem _)
  have hb0:b.f0=m:=by rw [hb,eb];exact hf _ (List.getElem_mem _)
  rw [← ha,← hb] at hab
  rw [kp]
  rw [← ha] at i2 ⊢
  rw [← hb]
  by_cases hc:cmpT b.f1 a.f1=0
  ·have hba:b=a:=party_eq hb0 ha0 ((cmpT_zero _ _).1 hc)
   rw [if_pos (by show (cmpT b.f1 a.f1 == 0)=true;rw [hc];rfl)]
   refine ⟨i1,fun x hx=>by rw [hba];exact i2 x hx,fun j hj=>?_⟩
   by_cases e:j=i+1
   ·subst e
    rw [← hb,hba,ha]
    exact i3 i (Nat.le_refl _)
   ·exact i3 j (by omega)
  ·have hlt:ltL a.f1 b.f1=true:=by
    have h2:a.f1 ≠ b.f1:=fun e=>hc ((cmpT_zero _ _).2 e.symm)
    rw [ltL_tri h2,hab];rfl
   rw [if_neg (by show ¬ (cmpT b.f1 a.f1 == 0)=true;simpa using hc)]
   have hx:∀ x ∈ kp z30 (fun a b=>cmpT a.f1 b.f1 == 0) D i,ltX x b=true:=fun x hx=>by
    rcases i2 x hx with rfl | h
    ·exact hlt
    ·exact ltL_trans h hlt
   refine ⟨?_,fun x hx2=>?_,fun j hj=>?_⟩
   ·rw [List.pairwise_append]
    refine ⟨i1,by simp,fun x hx1 y hy=>?_⟩
    rw [List.mem_singleton.1 hy]
    exact hx x hx1
   ·rcases List.mem_append.1 hx2 with h | h
    ·exact .inr (hx x h)
    ·exact .inl (List.mem_singleton.1 h)
   ·by_cases e:j=i+1
    ·subst e
     rw [← hb]
     exact List.mem_append_right _ (List.mem_singleton.2 rfl)
    ·exact List.mem_append_left _ (i3 j (by omega))
theorem ltL_irrefl:∀ a:List S70,ltL a a=false
 | []=>rfl
 | x :: a=>by rw [ltL,if_pos rfl];exact ltL_irrefl a
def relX (m:Nat) (S T:List S30):Prop:=S.Pairwise (fun a b=>ltX a b=true)∧(∀ x,x ∈ S ↔ x ∈ T)∧∀ x ∈ T,x.f0=(m:Int)∧x.f1.length≤144
theorem srtX_sorted (xs:List S30):(srtX xs).Pairwise (fun a b=>(!decide (cmpT b.f1 a.f1 < 0))=true) :=
 List.pairwise_mergeSort (le:=fun a b:S30=>!decide (cmpT b.f1 a.f1 < 0)) (fun a b c h1 h2=>by
  simp only [Bool.not_eq_true',decide_eq_false_iff_not] at *
  intro h3
  rcases cT_tri a.f1 b.f1 with h | h | h
  ·exact h2 (cT_trans _ _ _ h3 h)
  ·rw [h] at h3;exact h2 h3
  ·exact h1 h) (fun a b=>by
  simp only [Bool.or_eq_true,Bool.not_eq_true',decide_eq_false_iff_not]
  rcases cT_tri a.f1 b.f1 with h | h | h
  ·exact .inl (fun h2=>cT_irrefl _ (cT_trans _ _ _ h h2))
  ·exact .inl (by rw [h];exact cT_irrefl _)
  ·exact .inr (fun h2=>cT_irrefl _ (cT_trans _ _ _ h h2))) xs
theorem end_eq (m:Nat) (S T:List S30) (h:relX m S T):cpX (srtX T)=S:=by
 obtain ⟨g1,g2,g3⟩:=h
 have hp:(srtX T).Perm T:=List.mergeSort_perm _ _
 have hs:=srtX_sorted T
 have hm:∀ x,x ∈ srtX T ↔ x ∈ T:=fun x=>hp.mem_iff
 generalize srtX T=D at hp hs hm
 unfold cpX cpN
 by_cases hD:D.length=0
 ·have hD2:D=[]:=List.eq_nil_of_length_eq_zero hD
  subst hD2
  have:S=[]:=by
   cases S with
   | nil=>rfl
   | cons s S=>exact absurd ((hm s).2 ((g2 s).1 (List.mem_cons_self ..))) (by simp)
  rw [this];rfl
 ·obtain ⟨k1,k2,k3⟩:=kp_sorted (m:Int) D (fun x hx=>(g3 x ((hm x).1 hx)).1) hs (D.length - 1) (by omega)
  refine eq_of_sorted ltX (fun x=>ltL_irrefl _) (fun h1 h2=>ltL_trans h1 h2) _ _ k1 g1 (fun x=>?_)
  rw [g2 x,← hm x]
  constructor
  ·exact kp_mem _ _ D (D.length - 1) (by omega) x
  ·intro hx
   obtain ⟨j,hj,rfl⟩:=List.mem_iff_getElem.1 hx
   have:=k3 j (by omega)
   rwa [List.getD_eq_getElem?_getD,List.getElem?_eq_getElem hj] at this
abbrev Rel:=Nat→Nat→Bool
def exOk (r:Rel) (a b c d:Nat):Bool:=r a b && (r c d && (!r a c && (!r b d && (a != c && (a != d && (b != c && b != d))))))
def exR (r:Rel) (a b c d:Nat):Rel:=fun x y=>if (x=a∧y=c) ∨ (x=c∧y=a) ∨ (x=b∧y=d) ∨ (x=d∧y=b) then true else if (x=a∧y=b) ∨ (x=b∧y=a) ∨ (x=c∧y=d) ∨ (x=d∧y=c) then false else r x y
def hasP (l:List S70):Rel:=fun a b=>l.any fun x=>(x.f0 == (a:Int) && x.f1 == (b:Int)) || (x.f0 == (b:Int) && x.f1 == (a:Int))
/-! ### pairs listed -/
def rowFrom (r:Rel) (a:Nat):Nat→Nat→List S70
 | _,0=>[]
 | b,d+1=>(if r a b then [⟨(a:Int),(b:Int)⟩] else []) ++ rowFrom r a (b+1) d
def pairsFrom (r:Rel) (m:Nat):Nat→Nat→List S70
 | _,0=>[]
 | a,d+1=>rowFrom r a (a+1) (m - (a+1)) ++ pairsFrom r m (a+1) d
def pairsOf (m:Nat) (r:Rel):List S70:=pairsFrom r m 0 m
def cndX (m:Nat) (l:List S70) (p w:S70):Option S30:=if exOk (hasP l) p.f0.toNat p.f1.toNat w.f0.toNat w.f1.toNat=true then some ⟨(m:Int),pairsOf m (exR (hasP l) p.f0.toNat p.f1.toNat w.f0.toNat w.f1.toNat)⟩ else none
def stX (st:List S30→S30→List S30) (m:Nat) (l:List S70) (p:S70) (S:List S30) (w:S70):List S30:=match cndX m l p w with | none=>S | some x=>st S x
def swP (q:S70):S70:=⟨q.f1,q.f0⟩
def f1X (st:List S30→S30→List S30) (m:Nat) (l:List S70) (p:S70) (S:List S30) (rq:List S70):List S30:=rq.foldl (fun S q=>[q,swP q].foldl (stX st m l p) S) S
def f0X (st:List S30→S30→List S30) (m:Nat) (l:List S70) (S:List S30) (rp:List S70):List S30:=rp.foldl (fun S p=>f1X st m l p S l) S
theorem stX_len (st:List S30→S30→List S30) (hst:∀ S x,(st S x).length≤S.length+1) (m:Nat) (l:List S70) (p:S70) (S:List S30) (w:S70):(stX st m l p S w).length≤S.length+1:=by
 unfold stX
 cases cndX m l p w with
 | none=>exact Nat.le_succ _
 | some x=>exact hst S x
theorem two_len (st:List S30→S30→List S30) (hst:∀ S x,(st S x).length≤S.length+1) (m:Nat) (l:List S70) (p:S70) (S:List S30) (q:S70):([q,swP q].foldl (stX st m l p) S).length≤S.length+2:=by
 have h1:=stX_len st hst m l p S q
 have h2:=stX_len st hst m l p (stX st m l p S q) (swP q)
 show (stX st m l p (stX st m l p S q) (swP q)).length≤_
 omega
theorem f1X_len (st:List S30→S30→List S30) (hst:∀ S x,(st S x).length≤S.length+1) (m:Nat) (l:List S70) (p:S70):∀ (rq:List S70) (S:List S30),(f1X st m l p S rq).length≤S.length+2 * rq.length
 | [],S=>by simp [f1X]
 | q :: rq,S=>by
  have h1:=two_len st hst m l p S q
  have h2:=f1X_len st hst m l p rq ([q,swP q].foldl (stX st m l p) S)
  show (f1X st m l p ([q,swP q].foldl (stX st m l p) S) rq).length≤_
  rw [List.length_cons]
  omega
theorem f0X_len (st:List S30→S30→List S30) (hst:∀ S x,(st S x).length≤S.length+1) (m:Nat) (l:List S70):∀ (rp:List S70) (S:List S30),(f0X st m l S rp).length≤S.length+rp.length * (2 * l.length)
 | [],S=>by simp [f0X]
 | p :: rp,S=>by
  have h1:=f1X_len st hst m l p l S
  have h2:=f0X_len st hst m l rp (f1X st m l p S l)
  show (f0X st m l (f1X st m l p S l) rp).length≤_
  rw [List.length_cons,Nat.succ_mul]
  omega
theorem rowFrom_len (r:Rel) (a:Nat):∀ (d b:Nat),(rowFrom r a b d).length≤d
 | 0,_=>Nat.le_refl _
 | d+1,b=>by
  have:=rowFrom_len r a d (b+1)
  rw [rowFrom,List.length_append]
  split <;> simp <;> omega
theorem pairsFrom_len (r:Rel) (m:Nat) (hm:m≤12):∀ (d a:Nat),(pairsFrom r m a d).length≤12 * d
 | 0,_=>Nat.le_refl _
 | d+1,a=>by
  have:=pairsFrom_len r m hm d (a+1)
  have:=rowFrom_len r a (m - (a+1)) (a+1)
  rw [pairsFrom,List.length_append];omega
theorem pairsOf_len (m:Nat) (hm:m≤12) (r:Rel):(pairsOf m r).length≤144:=by
 have:=pairsFrom_len r m hm m 0
 unfold pairsOf;omega
/-- Two ways of gathering: what holds of both at the start holds at the end. -/
theorem f0X_rel (I:List S30→List S30→Prop) (s1 s2:List S30→S30→List S30) (m:Nat) (l:List S70) (hI:∀ S T x,x.f0=(m:Int)→x.f1.length≤144→I S T→I (s1 S x) (s2 T x)) (hm:m≤12):∀ (rp:List S70) (S T:List S30),I S T→I (f0X s1 m l S rp) (f0X s2 m l T rp):=by
 have h2:∀ p w S T,I S T→I (stX s1 m l p S w) (stX s2 m l p T w):=fun p w S T h=>by
  unfold stX
  cases hc:cndX m l p w with
  | none=>exact h
  | some x =>
   unfold cndX at hc
   split at hc
   ·injection hc with hc
    subst hc
    exact hI S T _ rfl (by have:=pairsOf_len m hm (exR (hasP l) p.f0.toNat p.f1.toNat w.f0.toNat w.f1.toNat);show (pairsOf m _).length≤144;omega) h
   ·cases hc
 have h1:∀ p (rq:List S70) S T,I S T→I (f1X s1 m l p S rq) (f1X s2 m l p T rq):=fun p rq=>by
  induction rq with
  | nil=>intro S T h;exact h
  | cons q rq ih=>intro S T h;exact ih _ _ (h2 p (swP q) _ _ (h2 p q _ _ h))
 intro rp
 induction rp with
 | nil=>intro S T h;exact h
 | cons p rp ih=>intro S T h;exact ih _ _ (h1 p l _ _ h)
def crowd (n:Int):Bool:=decide (0≤n∧n≤12)
def okPrev:Option S70→S70→Bool
 | none,_=>true
 | some p,x=>lt2 p x
def okFrom (n:Int):Option S70→List S70→Bool
 | _,[]=>true
 | prev,x :: xs=>(decide (0≤x.f0) && (decide (x.f0 < x.f1) && (decide (x.f1 < n) && okPrev prev x))) && okFrom n (some x) xs
def good (n:Int) (l:List S70):Bool:=crowd n && okFrom n none l
def natPairs (m:Nat) (l:List S70):Prop:=∀ x ∈ l,∃ a b:Nat,x=⟨(a:Int),(b:Int)⟩∧a < b∧b < m
theorem okFrom_nat (m:Nat):∀ (l:List S70) (p:Option S70),okFrom (m:Int) p l=true→natPairs m l
 | [],_,_=>fun x hx=>by simp at hx
 | x :: xs,p,h=>by
  simp only [okFrom,Bool.and_eq_true,decide_eq_true_eq] at h
  obtain ⟨⟨h0,h1,h2,_⟩,h3⟩:=h
  intro y hy
  rcases List.mem_cons.1 hy with rfl | hy
  ·refine ⟨y.f0.toNat,y.f1.toNat,?_,by omega,by omega⟩
   rw [Int.toNat_of_nonneg h0,Int.toNat_of_nonneg (by omega)]
  ·exact okFrom_nat m xs _ h3 y hy
theorem good_nat {n:Int} {l:List S70} (h:good n l=true):∃ m:Nat,n=(m:Int)∧m≤12∧natPairs m l∧okFrom (m:Int) none l=true:=by
 unfold good crowd at h
 simp only [Bool.and_eq_true,decide_eq_true_eq] at h
 obtain ⟨⟨h0,h1⟩,h2⟩:=h
 obtain ⟨m,rfl⟩:=Int.eq_ofNat_of_zero_le h0
 exact ⟨m,rfl,by omega,okFrom_nat m l none h2,h2⟩
theorem Ev.cast {α:Type} {g:Nat→Option α} {a b:α} (h:Ev g a) (e:a=b):Ev g b:=e ▸ h
theorem Ev.one {α:Type} {g:Nat→Option α} {r:α} (h:∀ k,g (k+1)=some r):Ev g r:=Ev.step h (Ev.now r)
theorem within_f (a lo hi:Int):impl_within.f a lo hi=some (decide (lo≤a) && decide (a≤hi)):=by
 unfold impl_within.f
 by_cases h:lo≤a
 ·rw [if_pos h];simp [h]
 ·rw [if_neg h];simp [h]
theorem areCrowd_f (a:Int):impl_areCrowd.f a=some (decide (0≤a∧a≤12)):=by
 unfold impl_areCrowd.f
 rw [within_f];simp [Bool.decide_and]
def cmp3 (a b:Int):Int:=if a < b then -1 else if a > b then 1 else 0
def cmpP (p q:S70):Int:=if cmp3 p.f0 q.f0=0 then cmp3 p.f1 q.f1 else cmp3 p.f0 q.f0
theorem cmpP_neg (p q:S70):decide (cmpP p q ≥ 0)=!lt2 p q:=by
 unfold cmpP cmp3 lt2
 by_cases h1:p.f0 < q.f0
 ·simp [h1]
 ·by_cases h2:p.f0 > q.f0
  ·have h3:¬ p.f0=q.f0:=by omega
   simp [h1,h2,h3]
  ·have h3:p.f0=q.f0:=by omega
   by_cases h4:p.f1 < q.f1
   ·simp [h3,h4]
   ·by_cases h5:p.f1 > q.f1
    ·simp [h3,h4,h5]
    ·simp [h3,h4,h5]
theorem cmpOr_ev (a b:Int):Ev (fun k=>cmp_Or_int.f k [a,b]) (if a=0 then b else a):=by
 refine ⟨3,fun k hk=>?_⟩
 obtain ⟨k,rfl⟩:∃ m,k=m+3:=⟨k - 3,by omega⟩
 have e1:wrap64 (0+1)=1:=by unfold wrap64;omega
 have e2:wrap64 (1+1)=2:=by unfold wrap64;omega
 have r0:rd [a,b] 0=a:=rfl
 have r1:rd [a,b] 1=b:=rfl
 simp only [cmp_Or_int.f,cmp_Or_int.l0,List.length_cons,List.length_nil,r0,r1,e1,e2]
 by_cases h:a=0
 ·by_cases h2:b=0
  ·simp [h,h2]
  ·simp [h,h2]
 ·simp [h]
theorem compare_f (a b:Int):cmp_Compare_int.f a b=some (cmp3 a b):=by
 unfold cmp_Compare_int.f cmp_isNaN_int.f cmp3
 simp
 by_cases h:a < b
 ·simp [h]
 ·by_cases h2:a > b
  ·simp [h,h2]
  ·simp [h,h2]
theorem comparePairs_ev (p q:S70):Ev (fun k=>impl_comparePairs.f k p.f0 p.f1 q.f0 q.f1) (cmpP p q):=by
 unfold impl_comparePairs.f
 simp only [compare_f,Option.bind_some]
 exact Ev.bind (cmpOr_ev _ _) (Ev.now _)
theorem rdT_mid (pre rest:List S70) (x:S70):rd_T70 (pre ++ x :: rest) (pre.length:Int)=x:=by
 unfold rd_T70
 simp [List.getD_eq_getElem?_getD]
theorem w1 {n:Nat} (h:n < 4611686018427387904):wrap64 ((n:Int)+1)=((n+1:Nat):Int):=by unfold wrap64;omega
theorem w64 {i:Int} (h0:-9223372036854775808≤i) (h:i≤9223372036854775807):wrap64 i=i:=by unfold wrap64;omega
theorem implIsParty_l0 (n:Int) (l:List S70) (hl:l.length < 4611686018427387904):∀ (rest pre:List S70),l=pre ++ rest→Ev (fun k=>impl_IsParty.l0 k l (l.length:Int) (pre.length:Int) n l) (okFrom n pre.getLast? rest && crowd n)
 | [],pre,h=>by
  refine Ev.one (fun k=>?_)
  have e:l.length=pre.length:=by rw [h];simp
  rw [impl_IsParty.l0,if_neg (by omega),areCrowd_f]
  simp [okFrom,crowd]
 | x :: rest,pre,h=>by
  have hlen:pre.length < l.length:=by rw [h];simp
  have hx:rd_T70 l (pre.length:Int)=x:=by rw [h];exact rdT_mid pre rest x
  have ih:=implIsParty_l0 n l hl rest (pre ++ [x]) (by rw [h];simp)
  rw [List.getLast?_concat,List.length_append,List.length_singleton] at ih
  by_cases c1:x.f0 < 0
  ·refine Ev.one (fun k=>?_)
   rw [impl_IsParty.l0,if_pos (by omega),if_pos (by omega),if_pos (by omega),hx,if_pos c1]
   have:decide (0≤x.f0)=false:=by simp;omega
   simp [okFrom,this]
  by_cases c2:x.f0 ≥ x.f1
  ·refine Ev.one (fun k=>?_)
   rw [impl_IsParty.l0,if_pos (by omega),if_pos (by omega),if_pos (by omega),hx,if_neg c1,if_pos c2]
   have:decide (x.f0 < x.f1)=false:=by simp;omega
   simp [okFrom,this]
  by_cases c3:x.f1 ≥ n
  ·refine Ev.one (fun k=>?_)
   rw [impl_IsParty.l0,if_pos (by omega),if_pos (by omega),if_pos (by omega),hx,if_neg c1,if_neg c2,if_pos c3]
   have:decide (x.f1 < n)=false:=by simp;omega
   simp [okFrom,this]
  have d1:decide (0≤x.f0)=true:=by simp;omega
  have d2:decide (x.f0 < x.f1)=true:=by simp;omega
  have d3:decide (x.f1 < n)=true:=by simp;omega
  rcases List.eq_nil_or_concat pre with rfl | ⟨q,p,rfl⟩
  ·refine Ev.cast (Ev.step (fun k=>?_) ih) ?_
   ·rw [impl_IsParty.l0,if_pos (by omega),if_pos (by omega),if_pos (by omega),hx,if_neg c1,if_neg c2,if_neg c3,if_neg (by simp),w1 (by simp)]
   ·simp [okFrom,d1,d2,d3,okPrev]
  ·rw [List.concat_eq_append] at hlen hx ih h ⊢
   have hp:rd_T70 l (q.length:Int)=p:=by rw [h,List.append_assoc];exact rdT_mid q (x :: rest) p
   have hq:(q ++ [p]).length=q.length+1:=by simp
   rw [hq] at hlen hx ih ⊢
   refine Ev.step (f:=fun k=>(impl_comparePairs.f k p.f0 p.f1 x.f0 x.f1).bind fun t=>if t ≥ 0 then some false else impl_IsParty.l0 k l (l.length:Int) ((q.length+1+1:Nat):Int) n l) (fun k=>?_) (Ev.bind (comparePairs_ev p x) ?_)
   ·rw [impl_IsParty.l0,if_pos (by omega),if_pos (by omega),if_pos (by omega),hx,if_neg c1,if_neg c2,if_neg c3,if_pos (by omega),w64 (i:=((q.length+1:Nat):Int) - 1) (by omega) (by omega),show ((q.length+1:Nat):Int) - 1=(q.length:Int) by omega,if_pos (by omega),if_pos (by omega),hp,w1 (by omega)]
   ·have hc:=cmpP_neg p x
    rw [List.getLast?_concat]
    by_cases hlt:lt2 p x=true
    ·have c4:¬ cmpP p x ≥ 0:=by rw [hlt] at hc;simpa using hc
     simp only [if_neg c4]
     refine Ev.cast ih ?_
     simp [okFrom,d1,d2,d3,okPrev,hlt]
    ·have hlt':lt2 p x=false:=by simpa using hlt
     have c4:cmpP p x ≥ 0:=by rw [hlt'] at hc;simpa using hc
     simp only [if_pos c4]
     refine Ev.cast (Ev.now _) ?_
     simp [okFrom,okPrev,hlt']
theorem implIsParty_ev (n:Int) (l:List S70) (hl:l.length < 4611686018427387904):Ev (fun k=>impl_IsParty.f k n l) (good n l):=by
 unfold impl_IsParty.f
 have:=implIsParty_l0 n l hl l [] rfl
 rw [Bool.and_comm] at this
 exact this
theorem wraps_u16 (n:Int) (h0:0≤n) (h1:n < 2 ^ 16):IntKind.u16.wrap n=n:=by
 simp [IntKind.wrap,IntKind.bits,IntKind.signed];omega
theorem and16 (x y:Nat) (hx:x < 65536) (hy:y < 65536):Go.bits .and .u16 (x:Int) (y:Int)=((x &&& y:Nat):Int):=(bits_nat .u16 16 (by decide) wraps_u16 x y hx hy).1
/-! ### tables of bits -/
def bitsOf:Nat→(Nat→Bool)→Nat
 | 0,_=>0
 | m+1,f=>bitsOf m f+(f m).toNat * 2 ^ m
theorem bitsOf_lt:∀ (m:Nat) (f:Nat→Bool),bitsOf m f < 2 ^ m
 | 0,_=>by simp [bitsOf]
 | m+1,f=>by
  have:=bitsOf_lt m f
  have h2:(f m).toNat * 2 ^ m≤2 ^ m:=by cases f m <;> simp
  rw [bitsOf,Nat.pow_succ];omega
theorem bitsOf_u16 (m:Nat) (hm:m≤12) (f:Nat→Bool):bitsOf m f < 65536 :=
 Nat.lt_of_lt_of_le (bitsOf_lt m f) (Nat.le_trans (Nat.pow_le_pow_right (by decide) hm) (by decide))
def tab (m:Nat) (r:Rel):List Int:=(List.range m).map fun a=>((bitsOf m (r a):Nat):Int)
theorem map_range_getD {α:Type} (m:Nat) (f:Nat→α) (d:α) (a:Nat) (h:a < m):((List.range m).map f).getD a d=f a:=by simp [List.getD_eq_getElem?_getD,h]
theorem tab_at (m:Nat) (r:Rel) (a:Nat) (h:a < m):rd (tab m r) (a:Int)=((bitsOf m (r a):Nat):Int):=map_range_getD m _ _ a h
theorem tab_len (m:Nat) (r:Rel):(tab m r).length=m:=by simp [tab]
theorem testBit_bitsOf:∀ (m:Nat) (f:Nat→Bool) (i:Nat),(bitsOf m f).testBit i=(decide (i < m) && f i)
 | 0,f,i=>by simp [bitsOf]
 | m+1,f,i=>by
  have ih:=testBit_bitsOf m f
  by_cases hi:i < m
  ·have h1:i < m+1:=by omega
   cases hf:f m with
   | false=>simp [bitsOf,hf,ih i,hi,h1]
   | true=>rw [bitsOf,hf,Bool.toNat_true,Nat.one_mul,Nat.add_comm,Nat.testBit_two_pow_add_gt hi,ih i];simp [hi,h1]
  ·by_cases e:i=m
   ·subst e
    cases hf:f i with
    | false=>simp [bitsOf,hf,ih i]
    | true=>rw [bitsOf,hf,Bool.toNat_true,Nat.one_mul,Nat.add_comm,Nat.testBit_two_pow_add_eq,ih i];simp
   ·have h1:¬ i < m+1:=by omega
    rw [Nat.testBit_lt_two_pow (Nat.lt_of_lt_of_le (bitsOf_lt (m+1) f) (Nat.pow_le_pow_right (by decide) (by omega)))]
    simp [h1]
theorem has_f (m:Nat) (hm:m≤12) (r:Rel) (a b:Nat) (ha:a < m) (hb:b < m):impl_table_has.f (tab m r) (a:Int) (b:Int)=some (r a b):=by
 unfold impl_table_has.f
 rw [if_pos (by omega),if_pos (by rw [tab_len];omega),if_pos (by omega),tab_at m r a ha]
 have hX:=bitsOf_u16 m hm (r a)
 have hs:shr .u16 ((bitsOf m (r a):Nat):Int) (b:Int)=((bitsOf m (r a) / 2 ^ b:Nat):Int):=by
  unfold shr
  rw [Int.toNat_natCast,Nat.min_eq_left (show b≤IntKind.u16.bits from by show b≤16;omega)]
  simp
 have hd:bitsOf m (r a) / 2 ^ b < 65536:=Nat.lt_of_le_of_lt (Nat.div_le_self _ _) hX
 have ht:=testBit_bitsOf m (r a) b
 rw [Nat.testBit_eq_decide_div_mod_eq] at ht
 have e1:Go.bits .and .u16 ((bitsOf m (r a) / 2 ^ b:Nat):Int) 1=((bitsOf m (r a) / 2 ^ b % 2:Nat):Int):=by
  have:=and16 (bitsOf m (r a) / 2 ^ b) 1 hd (by decide)
  rw [Nat.and_one_is_mod] at this
  exact this
 rw [hs,e1]
 simp only [hb,decide_true,Bool.true_and] at ht
 rw [← ht]
 congr 1
 by_cases h:bitsOf m (r a) / 2 ^ b % 2=1
 ·simp [h]
 ·have h0:bitsOf m (r a) / 2 ^ b % 2=0:=by omega
  simp [h0]
theorem canExchange_f (m:Nat) (hm:m≤12) (r:Rel) (a b c d:Nat) (ha:a < m) (hb:b < m) (hc:c < m) (hd:d < m):impl_table_canExchange.f (tab m r) (a:Int) (b:Int) (c:Int) (d:Int)=some (exOk r a b c d):=by
 unfold impl_table_canExchange.f exOk
 rw [has_f m hm r a b ha hb,has_f m hm r c d hc hd,has_f m hm r a c ha hc,has_f m hm r b d hb hd]
 simp only [Option.bind_some]
 have e:∀ u v:Nat,((u:Int) != (v:Int))=(u != v):=fun u v=>by
  by_cases h:u=v
  ·subst h;simp
  ·rw [bne_iff_ne.2 h];exact bne_iff_ne.2 (by omega)
 have e2:∀ u v:Nat,((u:Int)=(v:Int))=((u != v)=false):=fun u v=>by
  by_cases h:u=v
  ·subst h;simp
  ·have:¬ (u:Int)=(v:Int):=by omega
   simp [h,this]
 rw [e]
 simp only [e2]
 cases r a b <;> cases r c d <;> cases r a c <;> cases r b d <;> cases (a != c) <;> cases (a != d) <;> cases (b != c) <;> rfl
theorem bitsOf_congr (m:Nat) (f g:Nat→Bool) (h:∀ i,i < m→f i=g i):bitsOf m f=bitsOf m g:=by
 apply Nat.eq_of_testBit_eq
 intro i
 rw [testBit_bitsOf,testBit_bitsOf]
 by_cases hi:i < m
 ·simp [hi,h i hi]
 ·simp [hi]
theorem map_range_congr {α:Type} (m:Nat) (f g:Nat→α) (h:∀ a,a < m→f a=g a):(List.range m).map f=(List.range m).map g:=List.map_congr_left fun a ha=>h a (List.mem_range.1 ha)
theorem tab_congr (m:Nat) (r s:Rel) (h:∀ a b,a < m→b < m→r a b=s a b):tab m r=tab m s:=map_range_congr m _ _ fun a ha=>by rw [bitsOf_congr m _ _ fun b hb=>h a b ha hb]
def andn (x y:Nat):Nat:=(BitVec.ofNat 16 x &&& ~~~BitVec.ofNat 16 y).toNat
theorem andn_lt (x y:Nat):andn x y < 65536:=(BitVec.ofNat 16 x &&& ~~~BitVec.ofNat 16 y).isLt
theorem andNot16 (x y:Nat):Go.bits .andNot .u16 (x:Int) (y:Int)=((andn x y:Nat):Int):=by
 have h:=andn_lt x y
 show IntKind.u16.wrap _=_
 rw [BitVec.ofInt_natCast,BitVec.ofInt_natCast]
 exact wraps_u16 _ (Int.natCast_nonneg _) (by exact_mod_cast h)
theorem testBit_andn (x y i:Nat) (hx:x < 65536):(andn x y).testBit i=(x.testBit i && !y.testBit i):=by
 unfold andn
 rw [BitVec.testBit_toNat,BitVec.getLsbD_and,BitVec.getLsbD_not,BitVec.getLsbD_ofNat,BitVec.getLsbD_ofNat]
 by_cases h:i < 16
 ·simp [h]
 ·have:x.testBit i=false:=Nat.testBit_lt_two_pow (Nat.lt_of_lt_of_le hx (Nat.le_trans (show 65536≤2 ^ 16 by decide) (Nat.pow_le_pow_right (by decide) (by omega))))
  simp [h,this]
theorem bitsOf_clear (m:Nat) (hm:m≤12) (f:Nat→Bool) (b:Nat):andn (bitsOf m f) (2 ^ b)=bitsOf m fun j=>if j=b then false else f j:=by
 refine Nat.eq_of_testBit_eq fun i=>?_
 rw [testBit_andn _ _ _ (bitsOf_u16 m hm f),testBit_bitsOf,testBit_bitsOf,Nat.testBit_two_pow]
 by_cases h:i=b
 ·subst h;simp
 ·have:¬ b=i:=fun e=>h e.symm
  simp [h,this]
theorem bitsOf_or (m:Nat) (f:Nat→Bool) (b:Nat) (hb:b < m):bitsOf m f ||| 2 ^ b=bitsOf m fun j=>if j=b then true else f j:=by
 apply Nat.eq_of_testBit_eq
 intro i
 rw [Nat.testBit_or,testBit_bitsOf,testBit_bitsOf,Nat.testBit_two_pow]
 by_cases e:i=b
 ·subst e;simp [hb]
 ·have e':¬ b=i:=fun h=>e h.symm
  simp [e,e']
theorem or16 (x y:Nat) (hx:x < 65536) (hy:y < 65536):Go.bits .or .u16 (x:Int) (y:Int)=((x ||| y:Nat):Int):=(bits_nat .u16 16 (by decide) wraps_u16 x y hx hy).2
theorem pow_u16 (b:Nat) (h:b≤12):2 ^ b < 65536:=Nat.lt_of_le_of_lt (Nat.pow_le_pow_right (by decide) h) (by decide)
theorem shl1 (b:Nat) (h:b≤12):shl .u16 1 (b:Int)=((2 ^ b:Nat):Int):=by
 have:b=0 ∨ b=1 ∨ b=2 ∨ b=3 ∨ b=4 ∨ b=5 ∨ b=6 ∨ b=7 ∨ b=8 ∨ b=9 ∨ b=10 ∨ b=11 ∨ b=12:=by omega
 rcases this with rfl | rfl | rfl | rfl | rfl | rfl | rfl | rfl | rfl | rfl | rfl | rfl | rfl <;> decide
theorem map_range_set {α:Type} (m:Nat) (f:Nat→α) (a:Nat) (v:α):((List.range m).map f).set a v=(List.range m).map fun i=>if i=a then v else f i:=by
 apply List.ext_getElem?
 intro j
 rw [List.getElem?_set]
 by_cases hj:j < m
 ·by_cases e:a=j
  ·subst e;simp [hj]
  ·have e':¬ j=a:=fun h=>e h.symm
   simp [hj,e,e']
 ·by_cases e:a=j
  ·subst e;simp [hj]
  ·simp [hj,e]
theorem tab_set (m:Nat) (r:Rel) (a:Nat) (f:Nat→Bool):(tab m r).set a ((bitsOf m f:Nat):Int)=tab m (fun x=>if x=a then f else r x):=by
 unfold tab
 rw [map_range_set]
 refine map_range_congr m _ _ fun i hi=>?_
 by_cases e:i=a <;> simp [e]
theorem tab_swap (m:Nat) (hm:m≤12) (r:Rel) (a b c:Nat) (ha:a < m) (hb:b < m) (hc:c < m):(tab m r).set a (Go.bits .or .u16 (Go.bits .andNot .u16 (rd (tab m r) (a:Int)) (shl .u16 1 (b:Int))) (shl .u16 1 (c:Int)))=tab m fun x y=>if x=a then (if y=c then true else if y=b then false else r x y) else r x y:=by
 rw [tab_at m r a ha,shl1 b (by omega),shl1 c (by omega),andNot16,or16 _ _ (andn_lt _ _) (pow_u16 c (by omega)),bitsOf_clear m hm,bitsOf_or m _ c hc,tab_set]
 refine tab_congr m _ _ fun x y hx hy=>?_
 by_cases h:x=a
 ·subst h;simp
 ·simp [h]
theorem exchanged_ev (m:Nat) (hm:m≤12) (r:Rel) (a b c d:Nat) (ha:a < m) (hb:b < m) (hc:c < m) (hd:d < m) (hab:a ≠ b) (hcd:c ≠ d) (h:exOk r a b c d=true):impl_table_exchanged.f (tab m r) (a:Int) (b:Int) (c:Int) (d:Int)=some (tab m (exR r a b c d)):=by
 simp only [exOk,Bool.and_eq_true,Bool.not_eq_true',bne_iff_ne] at h
 obtain ⟨_,_,_,_,h1,h2,h3,h4⟩:=h
 have hcl:impl_table_uint16.f (tab m r)=some (tab m r):=by unfold impl_table_uint16.f;rw [if_pos (by rw [tab_len];omega)]
 unfold impl_table_exchanged.f
 rw [hcl,Option.bind_some]
 simp only [tab_len,Int.toNat_natCast]
 rw [if_pos (by omega),if_pos (by omega),if_pos (by omega),if_pos (by omega),tab_swap m hm r a b c ha hb hc,Option.bind_some,if_pos (by omega),if_pos (by omega),tab_swap m hm _ b a d hb ha hd,Option.bind_some,if_pos (by omega),tab_swap m hm _ c d a hc hd ha,Option.bind_some,if_pos (by omega),tab_swap m hm _ d c b hd hc hb]
 congr 1
 refine tab_congr m _ _ fun x y hx hy=>?_
 unfold exR
 by_cases xa:x=a
 ·subst xa
  have e1:¬ x=b:=hab
  simp [h1,h2,e1]
 ·by_cases xb:x=b
  ·subst xb
   simp [h3,h4,xa]
  ·by_cases xc:x=c
   ·subst xc
    simp [hcd,xa,xb]
   ·by_cases xd:x=d
    ·subst xd
     simp [xa,xb,xc]
    ·simp [xa,xb,xc,xd]
theorem party_l1 (m:Nat) (hm:m≤12) (r:Rel) (a:Nat) (ha:a < m) (n:Int) (R:Int × List S70):∀ (d b:Nat) (acc:List S70),b+d=m→acc.length≤12 * a+b→Ev (fun k=>impl_table_party.l0 k (tab m r) (m:Int) ((a+1:Nat):Int) n (acc ++ rowFrom r a b d)) R→Ev (fun k=>impl_table_party.l1 k (tab m r) (a:Int) (b:Int) (m:Int) (a:Int) n acc) R
 | 0,b,acc,hd,hacc,h=>by
  refine Ev.step (fun k=>?_) h
  rw [impl_table_party.l1,tab_len,if_neg (by omega),w1 (by omega),rowFrom,List.append_nil]
 | d+1,b,acc,hd,hacc,h=>by
  have hb:b < m:=by omega
  rw [rowFrom,← List.append_assoc] at h
  cases hr:r a b with
  | true =>
   rw [hr,if_pos rfl] at h
   have ih:=party_l1 m hm r a ha n R d (b+1) (acc ++ [⟨(a:Int),(b:Int)⟩]) (by omega) (by simp;omega) h
   refine Ev.step (fun k=>?_) ih
   rw [impl_table_party.l1,tab_len,if_pos (by omega),has_f m hm r a b ha hb,hr]
   simp only [Option.bind_some,if_true]
   rw [if_pos (by omega),w1 (by omega)]
  | false =>
   rw [hr,if_neg (by decide),List.append_nil] at h
   have ih:=party_l1 m hm r a ha n R d (b+1) acc (by omega) (by omega) h
   refine Ev.step (fun k=>?_) ih
   rw [impl_table_party.l1,tab_len,if_pos (by omega),has_f m hm r a b ha hb,hr,w1 (by omega)]
   rfl
theorem party_l0 (m:Nat) (hm:m≤12) (r:Rel) (n:Int):∀ (d a:Nat) (acc:List S70),a+d=m→acc.length≤12 * a→Ev (fun k=>impl_table_party.l0 k (tab m r) (m:Int) (a:Int) n acc) (n,acc ++ pairsFrom r m a d)
 | 0,a,acc,hd,hacc=>by
  refine Ev.one (fun k=>?_)
  rw [impl_table_party.l0,if_neg (by omega),pairsFrom,List.append_nil]
 | d+1,a,acc,hd,hacc=>by
  have hl:=rowFrom_len r a (m - (a+1)) (a+1)
  have ih:=party_l0 m hm r n d (a+1) (acc ++ rowFrom r a (a+1) (m - (a+1))) (by omega) (by rw [List.length_append];omega)
  rw [List.append_assoc,← pairsFrom] at ih
  have h:=party_l1 m hm r a (by omega) n _ (m - (a+1)) (a+1) acc (by omega) (by omega) ih
  refine Ev.step (fun k=>?_) h
  rw [impl_table_party.l0,if_pos (by omega),w1 (by omega)]
theorem party_ev (m:Nat) (hm:m≤12) (r:Rel):Ev (fun k=>impl_table_party.f k (tab m r)) ((m:Int),pairsOf m r):=by
 unfold impl_table_party.f
 rw [tab_len]
 exact party_l0 m hm r m m 0 [] (by omega) (by simp)

/-! the program's loops -/
theorem impl_step (m:Nat) (hm:m≤12) (l:List S70) (hl:l.length≤144) (hn:natPairs m l) (a b c d:Nat) (ha:a < m) (hb:b < m) (hc:c < m) (hd:d < m) (hab:a ≠ b) (hcd:c ≠ d) (W:List S76) (hW:W.length=2) (t:Nat) (ht:t < 2) (hr:rd_T76 W (t:Int)=⟨(c:Int),(d:Int)⟩) (X1 X2 X3 X4:Int) (S:List S30) (hSl:S.length≤1000000) (R:List S30 × Bool)
  (h:Ev (fun k=>impl_AllExchanges0.l2 k (tab m (hasP l)) (stX addX m l ⟨(a:Int),(b:Int)⟩ S ⟨(c:Int),(d:Int)⟩) l X1 X2 l X3 X4 W 2 ((t+1:Nat):Int) (m:Int) l (a:Int) (b:Int)) R) :
  Ev (fun k=>impl_AllExchanges0.l2 k (tab m (hasP l)) S l X1 X2 l X3 X4 W 2 (t:Int) (m:Int) l (a:Int) (b:Int)) R:=by
 unfold stX cndX at h
 simp only [Int.toNat_natCast] at h
 by_cases he:exOk (hasP l) a b c d=true
 ·rw [if_pos he] at h
  refine Ev.step (f:=fun k=>(impl_table_party.f k (tab m (exR (hasP l) a b c d))).bind fun bt=>if S.length < 4398046511104 then impl_AllExchanges0.l2 k (tab m (hasP l)) (S ++ [⟨bt.1,bt.2⟩]) l X1 X2 l X3 X4 W 2 ((t+1:Nat):Int) (m:Int) l (a:Int) (b:Int) else none) (fun k=>?_) ?_
  ·rw [impl_AllExchanges0.l2,if_pos (by omega),if_pos (by omega),if_pos (by omega),hr,w1 (by omega)]
   simp only [canExchange_f m hm _ a b c d ha hb hc hd,Option.bind_some,he,if_true,exchanged_ev m hm _ a b c d ha hb hc hd hab hcd he]
  ·refine Ev.bind (party_ev m hm _) ?_
   simp only [if_pos (show S.length < 4398046511104 by omega)]
   exact h
 ·rw [if_neg he] at h
  refine Ev.step (f:=fun k=>impl_AllExchanges0.l2 k (tab m (hasP l)) S l X1 X2 l X3 X4 W 2 ((t+1:Nat):Int) (m:Int) l (a:Int) (b:Int)) (fun k=>?_) h
  rw [impl_AllExchanges0.l2,if_pos (by omega),if_pos (by omega),if_pos (by omega),hr,w1 (by omega)]
  simp only [canExchange_f m hm _ a b c d ha hb hc hd,Option.bind_some,he,if_false,Bool.false_eq_true]
theorem impl_l1 (m:Nat) (hm:m≤12) (l:List S70) (hl:l.length≤144) (hn:natPairs m l) (p:S70) (hp:p ∈ l) (i:Nat) (hi:i < 1000) (R:List S30 × Bool):∀ (rq pq:List S70) (S:List S30),l=pq ++ rq→S.length+2 * rq.length≤1000000 →
  Ev (fun k=>impl_AllExchanges0.l0 k (tab m (hasP l)) (f1X addX m l p S rq) l (l.length:Int) ((i+1:Nat):Int) (m:Int) l) R→Ev (fun k=>impl_AllExchanges0.l1 k (tab m (hasP l)) S l (l.length:Int) (i:Int) l (l.length:Int) (pq.length:Int) (m:Int) l p.f0 p.f1) R
 | [],pq,S,e,hb,h=>by
  refine Ev.step (f:=fun k=>impl_AllExchanges0.l0 k (tab m (hasP l)) S l (l.length:Int) ((i+1:Nat):Int) (m:Int) l) (fun k=>?_) h
  have e2:l.length=pq.length:=by rw [e];simp
  rw [impl_AllExchanges0.l1,if_neg (by omega),w1 (by omega)]
 | q :: rq,pq,S,e,hb,h=>by
  have e2:l.length=pq.length+(rq.length+1):=by rw [e];simp
  obtain ⟨a,b,rfl,hab,hbm⟩:=hn p hp
  obtain ⟨c,d,rfl,hcd,hdm⟩:=hn q (by rw [e];simp)
  have hr:rd_T70 l (pq.length:Int)=⟨(c:Int),(d:Int)⟩:=by
   have:=rdT_mid pq rq (⟨(c:Int),(d:Int)⟩:S70)
   rwa [← e] at this
  rw [List.length_cons] at hb
  have n1:=stX_len addX addX_len m l ⟨(a:Int),(b:Int)⟩ S ⟨(c:Int),(d:Int)⟩
  have n2:=stX_len addX addX_len m l ⟨(a:Int),(b:Int)⟩ (stX addX m l ⟨(a:Int),(b:Int)⟩ S ⟨(c:Int),(d:Int)⟩) (swP ⟨(c:Int),(d:Int)⟩)
  refine Ev.step (f:=fun k=>impl_AllExchanges0.l2 k (tab m (hasP l)) S l (l.length:Int) (i:Int) l (l.length:Int) (pq.length:Int) [⟨(c:Int),(d:Int)⟩,⟨(d:Int),(c:Int)⟩] 2 ((0:Nat):Int) (m:Int) l (a:Int) (b:Int)) (fun k=>?_) ?_
  ·rw [impl_AllExchanges0.l1,if_pos (by omega),if_pos (by omega),if_pos (by omega),hr]
   rfl
  ·refine impl_step m hm l hl hn a b c d (by omega) (by omega) (by omega) (by omega) (by omega) (by omega) _ rfl 0 (by omega) rfl _ _ _ _ S (by omega) R ?_
   refine impl_step m hm l hl hn a b d c (by omega) (by omega) (by omega) (by omega) (by omega) (by omega) _ rfl 1 (by omega) rfl _ _ _ _ _ (by omega) R ?_
   refine Ev.step (f:=fun k=>impl_AllExchanges0.l1 k (tab m (hasP l)) (stX addX m l ⟨(a:Int),(b:Int)⟩ (stX addX m l ⟨(a:Int),(b:Int)⟩ S ⟨(c:Int),(d:Int)⟩) ⟨(d:Int),(c:Int)⟩) l (l.length:Int) (i:Int) l (l.length:Int) ((pq.length+1:Nat):Int) (m:Int) l (a:Int) (b:Int)) (fun k=>?_) ?_
   ·rw [impl_AllExchanges0.l2,if_neg (by omega),w1 (by omega)]
   ·have n3:(stX addX m l ⟨(a:Int),(b:Int)⟩ (stX addX m l ⟨(a:Int),(b:Int)⟩ S ⟨(c:Int),(d:Int)⟩) ⟨(d:Int),(c:Int)⟩).length≤S.length+2:=by have:=stX_len addX addX_len m l ⟨(a:Int),(b:Int)⟩ (stX addX m l ⟨(a:Int),(b:Int)⟩ S ⟨(c:Int),(d:Int)⟩) ⟨(d:Int),(c:Int)⟩;omega
    have ih:=impl_l1 m hm l hl hn ⟨(a:Int),(b:Int)⟩ hp i hi R rq (pq ++ [⟨(c:Int),(d:Int)⟩]) (stX addX m l ⟨(a:Int),(b:Int)⟩ (stX addX m l ⟨(a:Int),(b:Int)⟩ S ⟨(c:Int),(d:Int)⟩) ⟨(d:Int),(c:Int)⟩) (by rw [e];simp) (by omega) h
    rw [List.length_append,List.length_singleton] at ih
    exact ih
theorem impl_l0 (m:Nat) (hm:m≤12) (l:List S70) (hl:l.length≤144) (hn:natPairs m l):∀ (rp pp:List S70) (S:List S30),l=pp ++ rp→S.length+rp.length * 288≤1000000 →
  Ev (fun k=>impl_AllExchanges0.l0 k (tab m (hasP l)) S l (l.length:Int) (pp.length:Int) (m:Int) l) (f0X addX m l S rp,true)
 | [],pp,S,e,hb=>by
  have e2:l.length=pp.length:=by rw [e];simp
  refine Ev.one fun k=>?_
  rw [impl_AllExchanges0.l0,if_neg (by omega)]
  rfl
 | p :: rp,pp,S,e,hb=>by
  have e2:l.length=pp.length+(rp.length+1):=by rw [e];simp
  rw [List.length_cons,Nat.succ_mul] at hb
  have hp:p ∈ l:=by rw [e];simp
  have hr:rd_T70 l (pp.length:Int)=p:=by
   have:=rdT_mid pp rp p
   rwa [← e] at this
  have n1:=f1X_len addX addX_len m l p l S
  refine Ev.step (f:=fun k=>impl_AllExchanges0.l1 k (tab m (hasP l)) S l (l.length:Int) (pp.length:Int) l (l.length:Int) (([]:List S70).length:Int) (m:Int) l p.f0 p.f1) (fun k=>?_) ?_
  ·rw [impl_AllExchanges0.l0,if_pos (by omega),if_pos (by omega),if_pos (by omega),hr]
   rfl
  ·refine impl_l1 m hm l hl hn p hp pp.length (by omega) _ l [] S rfl (by omega) ?_
   have ih:=impl_l0 m hm l hl hn rp (pp ++ [p]) (f1X addX m l p S l) (by rw [e];simp) (by omega)
   rw [List.length_append,List.length_singleton] at ih
   exact ih
theorem okX_true (m:Nat) (T:List S30) (hl:T.length≤1000000) (h:∀ x ∈ T,x.f0=(m:Int)):okX T=true:=by
 unfold okX
 rw [Bool.and_eq_true,decide_eq_true_eq,List.all_eq_true]
 refine ⟨by omega,fun x hx=>?_⟩
 cases T with
 | nil=>cases hx
 | cons y T =>
  show (x.f0 == y.f0)=true
  rw [h x hx,h y (List.mem_cons_self ..)]
  simp
/-! the number of pairs -/
def below (m:Nat):Nat→Nat
 | 0=>0
 | a+1=>below m a+(m - 1 - a)
theorem below_all (m:Nat) (h:m≤12):Int.tdiv ((m:Int) * ((m:Int) - 1)) 2=(below m m:Int):=by
 have:m=0 ∨ m=1 ∨ m=2 ∨ m=3 ∨ m=4 ∨ m=5 ∨ m=6 ∨ m=7 ∨ m=8 ∨ m=9 ∨ m=10 ∨ m=11 ∨ m=12:=by omega
 rcases this with rfl | rfl | rfl | rfl | rfl | rfl | rfl | rfl | rfl | rfl | rfl | rfl | rfl <;> rfl
/-- where a pair stands among all pairs of m people -/
def rank (m:Nat) (x:S70):Nat:=below m x.f0.toNat+(x.f1.toNat - x.f0.toNat - 1)
theorem below_mono (m a:Nat):∀ d,below m a≤below m (a+d)
 | 0=>Nat.le_refl _
 | d+1=>Nat.le_trans (below_mono m a d) (by show below m (a+d)≤below m (a+d)+_;omega)
theorem rank_lt (m:Nat) (p x:S70) (h:lt2 p x=true) (p0:0≤p.f0) (p1:p.f0 < p.f1) (p2:p.f1 < m) (x0:0≤x.f0) (x1:x.f0 < x.f1):rank m p < rank m x:=by
 unfold lt2 at h
 unfold rank
 simp at h
 rcases h with h | ⟨h,h2⟩
 ·have h1:=below_mono m (p.f0.toNat+1) (x.f0.toNat - (p.f0.toNat+1))
  rw [show p.f0.toNat+1+(x.f0.toNat - (p.f0.toNat+1))=x.f0.toNat by omega] at h1
  have h3:below m (p.f0.toNat+1)=below m p.f0.toNat+(m - 1 - p.f0.toNat):=rfl
  omega
 ·rw [h];omega
theorem rank_top (m:Nat) (x:S70) (x0:0≤x.f0) (x1:x.f0 < x.f1) (x2:x.f1 < m):rank m x < below m m:=by
 unfold rank
 have h1:=below_mono m (x.f0.toNat+1) (m - (x.f0.toNat+1))
 rw [show x.f0.toNat+1+(m - (x.f0.toNat+1))=m by omega] at h1
 have h3:below m (x.f0.toNat+1)=below m x.f0.toNat+(m - 1 - x.f0.toNat):=rfl
 omega
theorem okFrom_len (m:Nat):∀ (l:List S70) (p:S70),0≤p.f0→p.f0 < p.f1→p.f1 < m→okFrom m (some p) l=true→rank m p+l.length < below m m
 | [],p,p0,p1,p2,_=>rank_top m p p0 p1 p2
 | x :: xs,p,p0,p1,p2,h=>by
  simp [okFrom,okPrev] at h
  obtain ⟨⟨x0,x1,x2,hlt⟩,h⟩:=h
  have ih:=okFrom_len m xs x x0 x1 x2 h
  have:=rank_lt m p x hlt p0 p1 p2 x0 x1
  simp only [List.length_cons]
  omega
theorem good_len (m:Nat) (l:List S70) (h:okFrom m none l=true):l.length≤below m m:=by
 cases l with
 | nil=>simp
 | cons x xs =>
  simp [okFrom,okPrev] at h
  obtain ⟨⟨x0,x1,x2⟩,h⟩:=h
  have:=okFrom_len m xs x x0 x1 x2 h
  simp only [List.length_cons]
  omega
theorem l1In_f (a lo hi:Int):spec_l1In.f a lo hi=some (decide (lo≤a) && decide (a≤hi)):=by
 unfold spec_l1In.f
 by_cases h:lo≤a
 ·rw [if_pos h];simp [h]
 ·rw [if_neg h];simp [h]
theorem paLess_f (p x:S70):spec_paLess.f p.f0 p.f1 x.f0 x.f1=some (lt2 p x):=by
 unfold spec_paLess.f lt2
 by_cases h:p.f0 < x.f0
 ·simp [h]
 ·by_cases h2:p.f0=x.f0
  ·simp [h2]
  ·simp [h,h2]
theorem paGood_l0 (m:Nat) (hm:m≤12) (l:List S70) (hl:l.length < 4611686018427387904):∀ (rest pre:List S70),l=pre ++ rest→Ev (fun k=>spec_paGood.l0 k l (l.length:Int) (pre.length:Int) (m:Int) l) (okFrom m pre.getLast? rest)
 | [],pre,h=>by
  refine Ev.one (fun k=>?_)
  have e:l.length=pre.length:=by rw [h];simp
  rw [spec_paGood.l0,if_neg (by omega)]
  simp [okFrom]
 | x :: rest,pre,h=>by
  have hlen:pre.length < l.length:=by rw [h];simp
  have hx:rd_T70 l (pre.length:Int)=x:=by rw [h];exact rdT_mid pre rest x
  have ih:=paGood_l0 m hm l hl rest (pre ++ [x]) (by rw [h];simp)
  rw [List.getLast?_concat,List.length_append,List.length_singleton] at ih
  have em:wrap64 ((m:Int) - 1)=(m:Int) - 1:=w64 (by omega) (by omega)
  by_cases c1:0≤x.f0∧x.f0≤(m:Int) - 1
  ·have e1:wrap64 (x.f0+1)=x.f0+1:=w64 (by omega) (by omega)
   have b1:(decide (0≤x.f0) && decide (x.f0≤(m:Int) - 1))=true:=by simp;exact c1
   by_cases c2:x.f0+1≤x.f1∧x.f1≤(m:Int) - 1
   ·have b2:(decide (x.f0+1≤x.f1) && decide (x.f1≤(m:Int) - 1))=true:=by simp;exact c2
    have d1:decide (0≤x.f0)=true:=by simp;omega
    have d2:decide (x.f0 < x.f1)=true:=by simp;omega
    have d3:decide (x.f1 < (m:Int))=true:=by simp;omega
    rcases List.eq_nil_or_concat pre with rfl | ⟨q,p,rfl⟩
    ·refine Ev.cast (Ev.step (fun k=>?_) ih) ?_
     ·rw [spec_paGood.l0,if_pos (by omega),if_pos (by omega),if_pos (by omega),hx,em,e1,l1In_f,l1In_f,b1,b2]
      simp only [Option.bind_some,if_true]
      rw [if_neg (by simp),w1 (by simp)]
     ·simp [okFrom,d1,d2,d3,okPrev]
    ·rw [List.concat_eq_append] at hlen hx ih h ⊢
     have hp:rd_T70 l (q.length:Int)=p:=by rw [h,List.append_assoc];exact rdT_mid q (x :: rest) p
     have hq:(q ++ [p]).length=q.length+1:=by simp
     rw [hq] at hlen hx ih ⊢
     rw [List.getLast?_concat]
     cases hlt:lt2 p x with
     | true =>
      refine Ev.cast (Ev.step (fun k=>?_) ih) ?_
      ·rw [spec_paGood.l0,if_pos (by omega),if_pos (by omega),if_pos (by omega),hx,em,e1,l1In_f,l1In_f,b1,b2]
       simp only [Option.bind_some,if_true]
       rw [if_pos (by omega),w64 (i:=((q.length+1:Nat):Int) - 1) (by omega) (by omega),show ((q.length+1:Nat):Int) - 1=(q.length:Int) by omega,if_pos (by omega),if_pos (by omega),hp,paLess_f,hlt,w1 (by omega)]
       rfl
      ·simp [okFrom,d1,d2,d3,okPrev,hlt]
     | false =>
      refine Ev.one (fun k=>?_)
      rw [spec_paGood.l0,if_pos (by omega),if_pos (by omega),if_pos (by omega),hx,em,e1,l1In_f,l1In_f,b1,b2]
      simp only [Option.bind_some,if_true]
      rw [if_pos (by omega),w64 (i:=((q.length+1:Nat):Int) - 1) (by omega) (by omega),show ((q.length+1:Nat):Int) - 1=(q.length:Int) by omega,if_pos (by omega),if_pos (by omega),hp,paLess_f,hlt]
      simp [okFrom,okPrev,hlt]
   ·refine Ev.one (fun k=>?_)
    have b2:(decide (x.f0+1≤x.f1) && decide (x.f1≤(m:Int) - 1))=false:=by simp;omega
    rw [spec_paGood.l0,if_pos (by omega),if_pos (by omega),if_pos (by omega),hx,em,e1,l1In_f,l1In_f,b1,b2]
    have:(decide (x.f0 < x.f1) && decide (x.f1 < (m:Int)))=false:=by simp;omega
    simp only [okFrom,← Bool.and_assoc (decide (x.f0 < x.f1)),this]
    simp
  ·refine Ev.one (fun k=>?_)
   have b1:(decide (0≤x.f0) && decide (x.f0≤(m:Int) - 1))=false:=by simp;omega
   rw [spec_paGood.l0,if_pos (by omega),if_pos (by omega),if_pos (by omega),hx,em,l1In_f,b1]
   have:(decide (0≤x.f0) && (decide (x.f0 < x.f1) && (decide (x.f1 < (m:Int)) && okPrev pre.getLast? x)))=false:=by
    by_cases z0:0≤x.f0
    ·by_cases z1:x.f0 < x.f1
     ·have:¬ x.f1 < (m:Int):=by omega
      simp [this]
     ·simp [z1]
    ·simp [z0]
   simp [okFrom,this]
theorem paPeople_f (a:Int):spec_paPeople.f a=some (decide (0≤a∧a≤12)):=by
 unfold spec_paPeople.f
 rw [l1In_f];simp [Bool.decide_and]
theorem paGood_ev (n:Int) (l:List S70) (hl:l.length < 4611686018427387904):Ev (fun k=>spec_paGood.f k n l) (good n l):=by
 unfold spec_paGood.f
 rw [paPeople_f]
 by_cases h:0≤n∧n≤12
 ·obtain ⟨m,rfl⟩:=Int.eq_ofNat_of_zero_le h.1
  have hm:m≤12:=by omega
  have hc:crowd (m:Int)=true:=by unfold crowd;simp;omega
  have hmul:(m:Int) * ((m:Int) - 1)≤144:=by
   have:m=0 ∨ m=1 ∨ m=2 ∨ m=3 ∨ m=4 ∨ m=5 ∨ m=6 ∨ m=7 ∨ m=8 ∨ m=9 ∨ m=10 ∨ m=11 ∨ m=12:=by omega
   rcases this with rfl | rfl | rfl | rfl | rfl | rfl | rfl | rfl | rfl | rfl | rfl | rfl | rfl <;> decide
  have hmul0:0≤(m:Int) * ((m:Int) - 1):=by
   have:m=0 ∨ m=1 ∨ m=2 ∨ m=3 ∨ m=4 ∨ m=5 ∨ m=6 ∨ m=7 ∨ m=8 ∨ m=9 ∨ m=10 ∨ m=11 ∨ m=12:=by omega
   rcases this with rfl | rfl | rfl | rfl | rfl | rfl | rfl | rfl | rfl | rfl | rfl | rfl | rfl <;> decide
  have hb:(below m m:Int)≤144:=by
   have:m=0 ∨ m=1 ∨ m=2 ∨ m=3 ∨ m=4 ∨ m=5 ∨ m=6 ∨ m=7 ∨ m=8 ∨ m=9 ∨ m=10 ∨ m=11 ∨ m=12:=by omega
   rcases this with rfl | rfl | rfl | rfl | rfl | rfl | rfl | rfl | rfl | rfl | rfl | rfl | rfl <;> decide
  have e:wrap64 (Int.tdiv (wrap64 ((m:Int) * (wrap64 ((m:Int) - 1)))) 2)=(below m m:Int):=by
   rw [w64 (i:=(m:Int) - 1) (by omega) (by omega),w64 (i:=(m:Int) * ((m:Int) - 1)) (by omega) (by omega),below_all m hm,w64 (by omega) (by omega)]
  simp only [h,decide_true,Option.bind_some,if_true,e,and_self]
  unfold good
  rw [hc,Bool.true_and]
  by_cases hlen:l.length≤below m m
  ·refine Ev.step (fun k=>?_) (paGood_l0 m hm l hl l [] rfl)
   have:decide ((l.length:Int) > (below m m:Int))=false:=by simp;omega
   rw [this,spec_paGood.j0,if_neg (by decide)]
   rfl
  ·refine Ev.one (fun k=>?_)
   have:decide ((l.length:Int) > (below m m:Int))=true:=by simp;omega
   rw [this,spec_paGood.j0,if_pos rfl]
   have hn:okFrom (m:Int) none l=false:=by
    cases hok:okFrom (m:Int) none l with
    | false=>rfl
    | true=>exact absurd (good_len m l hok) hlen
   rw [hn]
 ·have hc:crowd n=false:=by unfold crowd;simp;omega
  simp only [h,decide_false,Option.bind_some]
  unfold good
  rw [hc]
  refine Ev.one (fun k=>?_)
  rw [if_neg (by decide),spec_paGood.j0];simp

theorem lt2_trans {p q x:S70} (h1:lt2 p q=true) (h2:lt2 q x=true):lt2 p x=true:=by
 unfold lt2 at *
 simp at *
 omega
theorem okFrom_all (n:Int):∀ (l:List S70) (p:S70),okFrom n (some p) l=true→∀ y ∈ l,lt2 p y=true
 | [],_,_=>fun y hy=>by simp at hy
 | x :: xs,p,h=>by
  simp only [okFrom,okPrev,Bool.and_eq_true] at h
  obtain ⟨⟨_,_,_,hlt⟩,h3⟩:=h
  intro y hy
  rcases List.mem_cons.1 hy with rfl | hy
  ·exact hlt
  ·exact lt2_trans hlt (okFrom_all n xs x h3 y hy)
theorem okFrom_pair (n:Int):∀ (l:List S70) (p:Option S70),okFrom n p l=true→l.Pairwise (fun x y=>lt2 x y=true)
 | [],_,_=>List.Pairwise.nil
 | x :: l,p,h=>by
  have h2:okFrom n (some x) l=true:=by
   simp only [okFrom,Bool.and_eq_true] at h
   exact h.2
  exact List.pairwise_cons.2 ⟨okFrom_all n l x h2,okFrom_pair n l (some x) h2⟩
theorem hasP_mem (m:Nat) (l:List S70) (hn:natPairs m l) (a b:Nat) (hab:a < b):hasP l a b=true ↔ (⟨(a:Int),(b:Int)⟩:S70) ∈ l:=by
 unfold hasP
 rw [List.any_eq_true]
 constructor
 ·rintro ⟨x,hx,h⟩
  obtain ⟨i,j,rfl,hij,hj⟩:=hn x hx
  simp only [Bool.or_eq_true,Bool.and_eq_true,beq_iff_eq] at h
  rcases h with ⟨h1,h2⟩ | ⟨h1,h2⟩
  ·have e1:i=a:=by omega
   have e2:j=b:=by omega
   subst e1 e2;exact hx
  ·omega
 ·intro h
  exact ⟨_,h,by simp⟩
theorem lt2_irrefl (p:S70):lt2 p p=false:=by unfold lt2;simp
theorem mem_rowFrom (r:Rel) (a:Nat) (p:S70):∀ (d b:Nat),p ∈ rowFrom r a b d ↔ ∃ y:Nat,b≤y∧y < b+d∧r a y=true∧p=⟨(a:Int),(y:Int)⟩
 | 0,b=>by simp only [rowFrom,List.not_mem_nil,false_iff];rintro ⟨y,h1,h2,_⟩;omega
 | d+1,b=>by
  rw [rowFrom,List.mem_append,mem_rowFrom r a p d (b+1)]
  constructor
  ·rintro (h | ⟨y,h1,h2,h3,h4⟩)
   ·split at h
    ·next hr=>rw [List.mem_singleton] at h;exact ⟨b,Nat.le_refl _,by omega,hr,h⟩
    ·simp at h
   ·exact ⟨y,by omega,by omega,h3,h4⟩
  ·rintro ⟨y,h1,h2,h3,h4⟩
   by_cases e:y=b
   ·subst e;left;rw [h3,if_pos rfl];simp [h4]
   ·right;exact ⟨y,by omega,by omega,h3,h4⟩
theorem mem_pairsFrom (r:Rel) (m:Nat) (p:S70):∀ (d a:Nat),p ∈ pairsFrom r m a d ↔ ∃ x y:Nat,a≤x∧x < a+d∧x < y∧y < m∧r x y=true∧p=⟨(x:Int),(y:Int)⟩
 | 0,a=>by simp only [pairsFrom,List.not_mem_nil,false_iff];rintro ⟨x,y,h1,h2,_⟩;omega
 | d+1,a=>by
  rw [pairsFrom,List.mem_append,mem_rowFrom,mem_pairsFrom r m p d (a+1)]
  constructor
  ·rintro (⟨y,h1,h2,h3,h4⟩ | ⟨x,y,h1,h2,h3,h4,h5,h6⟩)
   ·exact ⟨a,y,Nat.le_refl _,by omega,by omega,by omega,h3,h4⟩
   ·exact ⟨x,y,by omega,by omega,h3,h4,h5,h6⟩
  ·rintro ⟨x,y,h1,h2,h3,h4,h5,h6⟩
   by_cases e:x=a
   ·subst e;left;exact ⟨y,by omega,by omega,h5,h6⟩
   ·right;exact ⟨x,y,by omega,by omega,h3,h4,h5,h6⟩
theorem rowFrom_pair (r:Rel) (a:Nat):∀ (d b:Nat),(rowFrom r a b d).Pairwise (fun x y=>lt2 x y=true)
 | 0,b=>List.Pairwise.nil
 | d+1,b=>by
  have ih:=rowFrom_pair r a d (b+1)
  rw [rowFrom]
  split
  ·refine List.pairwise_cons.2 ⟨fun y hy=>?_,ih⟩
   obtain ⟨z,h1,h2,_,rfl⟩:=(mem_rowFrom r a y d (b+1)).1 hy
   unfold lt2
   simp only [Bool.or_eq_true,Bool.and_eq_true,decide_eq_true_eq]
   right
   exact ⟨trivial,by omega⟩
  ·exact ih
theorem pairsFrom_pair (r:Rel) (m:Nat):∀ (d a:Nat),(pairsFrom r m a d).Pairwise (fun x y=>lt2 x y=true)
 | 0,a=>List.Pairwise.nil
 | d+1,a=>by
  rw [pairsFrom]
  refine List.pairwise_append.2 ⟨rowFrom_pair r a _ _,pairsFrom_pair r m d (a+1),fun x hx y hy=>?_⟩
  obtain ⟨z,h1,h2,_,rfl⟩:=(mem_rowFrom r a x _ _).1 hx
  obtain ⟨u,v,h3,h4,h5,h6,_,rfl⟩:=(mem_pairsFrom r m y d (a+1)).1 hy
  unfold lt2
  simp only [Bool.or_eq_true,Bool.and_eq_true,decide_eq_true_eq]
  left
  show (a:Int) < (u:Int)
  omega
theorem pairsOf_pair (m:Nat) (r:Rel):(pairsOf m r).Pairwise (fun x y=>lt2 x y=true):=pairsFrom_pair r m m 0
/-- A list in order, of pairs of people, is what its relation has. -/
theorem pairsOf_sorted (m:Nat) (l:List S70) (hn:natPairs m l) (hs:l.Pairwise (fun x y=>lt2 x y=true)):pairsOf m (hasP l)=l:=by
 refine eq_of_sorted lt2 lt2_irrefl (fun h1 h2=>lt2_trans h1 h2) _ _ (pairsOf_pair m _) hs fun x=>?_
 unfold pairsOf
 rw [mem_pairsFrom]
 constructor
 ·rintro ⟨a,b,_,_,h1,h2,h3,rfl⟩
  exact (hasP_mem m l hn a b h1).1 h3
 ·intro hx
  obtain ⟨a,b,rfl,h1,h2⟩:=hn x hx
  exact ⟨a,b,by omega,by omega,h1,h2,(hasP_mem m l hn a b h1).2 hx,rfl⟩
theorem pairsOf_good (m:Nat) (l:List S70) (hn:natPairs m l) (ho:okFrom (m:Int) none l=true):pairsOf m (hasP l)=l:=pairsOf_sorted m l hn (okFrom_pair _ l none ho)

def putX:List S30→S30→List S30
 | [],x=>[x]
 | y :: S,x=>if ltL y.f1 x.f1=true then y :: putX S x else if y.f1=x.f1 then y :: S else x :: y :: S
theorem putX_len:∀ (S:List S30) (x:S30),(putX S x).length≤S.length+1
 | [],x=>by simp [putX]
 | y :: S,x=>by
  have:=putX_len S x
  rw [putX]
  split
  ·simp;omega
  ·split <;> simp
theorem putX_mem (m:Int):∀ (S:List S30) (x:S30),(∀ y ∈ S,y.f0=m)→x.f0=m→∀ y,y ∈ putX S x ↔ y ∈ S ∨ y=x
 | [],x,_,_,y=>by simp [putX]
 | z :: S,x,hS,hx,y=>by
  have ih:=putX_mem m S x (fun y hy=>hS y (List.mem_cons_of_mem _ hy)) hx y
  rw [putX]
  split
  ·rw [List.mem_cons,List.mem_cons,ih,or_assoc]
  ·split
   ·next h =>
    have he:z=x:=party_eq (hS z (List.mem_cons_self ..)) hx h
    rw [he,List.mem_cons]
    constructor
    ·intro h;exact .inl h
    ·rintro (h | h)
     ·exact h
     ·exact .inl h
   ·rw [List.mem_cons,or_comm]
theorem putX_sorted (m:Int):∀ (S:List S30) (x:S30),(∀ y ∈ S,y.f0=m)→x.f0=m→S.Pairwise (fun a b=>ltX a b=true)→(putX S x).Pairwise (fun a b=>ltX a b=true)
 | [],x,_,_,_=>by simp [putX]
 | z :: S,x,hS,hx,h=>by
  have hS2:∀ y ∈ S,y.f0=m:=fun y hy=>hS y (List.mem_cons_of_mem _ hy)
  rw [List.pairwise_cons] at h
  rw [putX]
  split
  ·next h1 =>
   rw [List.pairwise_cons]
   refine ⟨fun y hy=>?_,putX_sorted m S x hS2 hx h.2⟩
   rcases (putX_mem m S x hS2 hx y).1 hy with hy | hy
   ·exact h.1 y hy
   ·rw [hy];exact h1
  ·next h1 =>
   split
   ·rw [List.pairwise_cons];exact h
   ·next h2 =>
    have h3:ltL x.f1 z.f1=true:=by
     have:=ltL_tri h2
     cases hq:ltL x.f1 z.f1 with
     | true=>rfl
     | false=>rw [hq] at this;exact absurd this h1
    rw [List.pairwise_cons,List.pairwise_cons]
    refine ⟨fun y hy=>?_,h⟩
    rcases List.mem_cons.1 hy with rfl | hy
    ·exact h3
    ·exact ltL_trans h3 (h.1 y hy)
theorem relX_step (m:Nat) (S T:List S30) (x:S30) (h0:x.f0=(m:Int)) (h1:x.f1.length≤144) (h:relX m S T):relX m (putX S x) (addX T x):=by
 obtain ⟨g1,g2,g3⟩:=h
 have hS:∀ y ∈ S,y.f0=(m:Int):=fun y hy=>(g3 y ((g2 y).1 hy)).1
 refine ⟨putX_sorted m S x hS h0 g1,fun y=>?_,fun y hy=>?_⟩
 ·rw [putX_mem m S x hS h0 y,g2 y]
  unfold addX
  rw [List.mem_append,List.mem_singleton]
 ·unfold addX at hy
  rcases List.mem_append.1 hy with hy | hy
  ·exact g3 y hy
  ·rw [List.mem_singleton.1 hy];exact ⟨h0,h1⟩
/-! the laws' helpers over lists of parties -/
def smallPS (L:List S30):Prop:=L.length≤1000000∧∀ x ∈ L,x.f1.length≤144
def fitX (m:Nat) (S:List S30):Prop:=∀ y ∈ S,y.f0=(m:Int)∧y.f1.length≤144
theorem cndX_fit (m:Nat) (hm:m≤12) (l:List S70) (p w:S70) (x:S30) (h:cndX m l p w=some x):x.f0=(m:Int)∧x.f1.length≤144:=by
 unfold cndX at h
 split at h
 ·injection h with h
  subst h
  exact ⟨rfl,pairsOf_len m hm _⟩
 ·cases h
theorem st_fit (st:List S30→S30→List S30) (m:Nat) (hst:∀ S x,(x.f0=(m:Int)∧x.f1.length≤144)→fitX m S→fitX m (st S x)) (hm:m≤12) (l:List S70) (p w:S70) (S:List S30) (hS:fitX m S):fitX m (stX st m l p S w):=by
 unfold stX
 cases hc:cndX m l p w with
 | none=>exact hS
 | some x=>exact hst S x (cndX_fit m hm l p w x hc) hS
theorem f1_fit (st:List S30→S30→List S30) (m:Nat) (hst:∀ S x,(x.f0=(m:Int)∧x.f1.length≤144)→fitX m S→fitX m (st S x)) (hm:m≤12) (l:List S70) (p:S70):∀ (rq:List S70) (S:List S30),fitX m S→fitX m (f1X st m l p S rq)
 | [],S,h=>h
 | q :: rq,S,h=>f1_fit st m hst hm l p rq _ (st_fit st m hst hm l p (swP q) _ (st_fit st m hst hm l p q S h))
theorem put_fit (m:Nat) (S:List S30) (x:S30) (hx:x.f0=(m:Int)∧x.f1.length≤144) (hS:fitX m S):fitX m (putX S x):=fun y hy=>by
 rcases (putX_mem (m:Int) S x (fun y hy=>(hS y hy).1) hx.1 y).1 hy with h | h
 ·exact hS y h
 ·rw [h];exact hx
/-! ### matrices -/
def mat (m:Nat) (r:Rel):List (List Bool):=(List.range m).map fun a=>(List.range m).map fun b=>r a b
theorem mat_row (m:Nat) (r:Rel) (a:Nat) (h:a < m):rd_L4 (mat m r) (a:Int)=(List.range m).map fun b=>r a b:=map_range_getD m _ _ a h
theorem mat_at (m:Nat) (r:Rel) (a b:Nat) (h:a < m) (h2:b < m):rdOf false (rd_L4 (mat m r) (a:Int)) (b:Int)=r a b:=by
 rw [mat_row m r a h];exact map_range_getD m _ _ b h2
theorem bad_ok (m:Nat) (r:Rel) (a b c d:Nat) (ha:a < m) (hb:b < m) (hc:c < m) (hd:d < m):badX (mat m r) (a:Int) (b:Int) (c:Int) (d:Int)=!exOk r a b c d:=by
 unfold badX exOk
 rw [mat_at m r a b ha hb,mat_at m r c d hc hd,mat_at m r a c ha hc,mat_at m r b d hb hd]
 have e:∀ u v:Nat,decide ((u:Int)=(v:Int))=!(u != v):=fun u v=>by
  by_cases h:u=v
  ·subst h;simp
  ·have:¬ (u:Int)=(v:Int):=by omega
   simp [h,this]
 rw [e,e,e,e]
 cases r a b <;> cases r c d <;> cases r a c <;> cases r b d <;> cases (a != c) <;> cases (a != d) <;> cases (b != c) <;> cases (b != d) <;> rfl
theorem mat_all (m:Nat) (r:Rel):(mat m r).all (fun x=>decide (x.length=m))=true:=by
 rw [List.all_eq_true]
 intro x hx
 unfold mat at hx
 obtain ⟨a,_,rfl⟩:=List.mem_map.1 hx
 simp
theorem mat_len (m:Nat) (r:Rel):(mat m r).length=m:=by simp [mat]
theorem paOf_l1 (m:Nat) (hm:m≤12) (r:Rel) (a:Nat) (ha:a < m) (n:Int) (R:Int × List S70):∀ (d b:Nat) (acc:List S70),b+d=m→acc.length≤12 * a+b→Ev (fun k=>spec_paOf.l0 k (mat m r) (m:Int) ((a+1:Nat):Int) n (acc ++ rowFrom r a b d)) R→Ev (fun k=>spec_paOf.l1 k (mat m r) (a:Int) (b:Int) (m:Int) (a:Int) n acc) R
 | 0,b,acc,hd,hacc,h=>by
  refine Ev.step (fun k=>?_) h
  rw [spec_paOf.l1,mat_len,if_neg (by omega),w1 (by omega),rowFrom,List.append_nil]
 | d+1,b,acc,hd,hacc,h=>by
  have hb:b < m:=by omega
  rw [rowFrom,← List.append_assoc] at h
  have hrow:(rd_L4 (mat m r) (a:Int)).length=m:=by rw [mat_row m r a ha];simp
  cases hr:r a b with
  | true =>
   rw [hr,if_pos rfl] at h
   have ih:=paOf_l1 m hm r a ha n R d (b+1) (acc ++ [⟨(a:Int),(b:Int)⟩]) (by omega) (by simp;omega) h
   refine Ev.step (fun k=>?_) ih
   rw [spec_paOf.l1,mat_len,if_pos (by omega),if_pos (by omega),if_pos (by omega),if_pos (by omega),hrow,if_pos (by omega),mat_at m r a b ha hb,hr,if_pos rfl,if_pos (by omega),w1 (by omega)]
  | false =>
   rw [hr,if_neg (by decide),List.append_nil] at h
   have ih:=paOf_l1 m hm r a ha n R d (b+1) acc (by omega) (by omega) h
   refine Ev.step (fun k=>?_) ih
   rw [spec_paOf.l1,mat_len,if_pos (by omega),if_pos (by omega),if_pos (by omega),if_pos (by omega),hrow,if_pos (by omega),mat_at m r a b ha hb,hr,if_neg (by decide),w1 (by omega)]
theorem paOf_l0 (m:Nat) (hm:m≤12) (r:Rel) (n:Int):∀ (d a:Nat) (acc:List S70),a+d=m→acc.length≤12 * a→Ev (fun k=>spec_paOf.l0 k (mat m r) (m:Int) (a:Int) n acc) (n,acc ++ pairsFrom r m a d)
 | 0,a,acc,hd,hacc=>by
  refine Ev.one (fun k=>?_)
  rw [spec_paOf.l0,if_neg (by omega),pairsFrom,List.append_nil]
 | d+1,a,acc,hd,hacc=>by
  have hl:=rowFrom_len r a (m - (a+1)) (a+1)
  have ih:=paOf_l0 m hm r n d (a+1) (acc ++ rowFrom r a (a+1) (m - (a+1))) (by omega) (by rw [List.length_append];omega)
  rw [List.append_assoc,← pairsFrom] at ih
  have h:=paOf_l1 m hm r a (by omega) n _ (m - (a+1)) (a+1) acc (by omega) (by omega) ih
  refine Ev.step (fun k=>?_) h
  rw [spec_paOf.l0,if_pos (by omega),w1 (by omega)]
theorem paOf_ev (m:Nat) (hm:m≤12) (r:Rel):Ev (fun k=>spec_paOf.f k (mat m r)) ((m:Int),pairsOf m r):=by
 unfold spec_paOf.f
 rw [mat_len]
 exact paOf_l0 m hm r m m 0 [] (by omega) (by simp)
theorem hasP_nil:hasP []=fun _ _=>false:=by funext x y;rfl
theorem map_range_const {α:Type} (c:α):∀ m:Nat,(List.range m).map (fun _=>c)=List.replicate m c
 | 0=>rfl
 | m+1=>by rw [List.range_succ,List.map_append,map_range_const c m,List.replicate_succ'];rfl
theorem mat_false (m:Nat):mat m (fun _ _=>false)=List.replicate m (List.replicate m false):=by
 unfold mat;rw [map_range_const,map_range_const]
def upd (r:Rel) (a b:Nat) (v:Bool):Rel:=fun x y=>if x=a∧y=b then v else r x y
theorem mat_set (m:Nat) (r:Rel) (a b:Nat) (v:Bool) (ha:a < m):(mat m r).set a ((rd_L4 (mat m r) (a:Int)).set b v)=mat m (upd r a b v):=by
 rw [mat_row m r a ha,map_range_set]
 show ((List.range m).map fun a=>(List.range m).map fun b=>r a b).set a _=_
 rw [map_range_set]
 refine map_range_congr m _ _ fun i hi=>?_
 by_cases e:i=a
 ·subst e
  rw [if_pos rfl]
  refine map_range_congr m _ _ fun j hj=>?_
  simp [upd]
 ·rw [if_neg e]
  refine map_range_congr m _ _ fun j hj=>?_
  simp [upd,e]
theorem hasP_snoc (pre:List S70) (a b x y:Nat):hasP (pre ++ [⟨(a:Int),(b:Int)⟩]) x y=(hasP pre x y || ((decide (a=x) && decide (b=y)) || (decide (a=y) && decide (b=x)))):=by
 unfold hasP
 rw [List.any_append]
 congr 1
 simp only [List.any_cons,List.any_nil,Bool.or_false]
 have e:∀ u v:Nat,((u:Int) == (v:Int))=decide (u=v):=fun u v=>by
  by_cases h:u=v
  ·simp [h]
  ·have:¬ (u:Int)=(v:Int):=by omega
   simp [h,this]
 rw [e,e,e,e]
theorem upd2_hasP (pre:List S70) (a b:Nat):upd (upd (hasP pre) a b true) b a true=hasP (pre ++ [⟨(a:Int),(b:Int)⟩]):=by
 funext x y
 rw [hasP_snoc]
 unfold upd
 by_cases h1:x=b∧y=a
 ·simp [h1]
 ·by_cases h2:x=a∧y=b
  ·simp [h2]
  ·have e1:(decide (a=x) && decide (b=y))=false:=by simp;intro h3 h4;exact h2 ⟨h3.symm,h4.symm⟩
   have e2:(decide (a=y) && decide (b=x))=false:=by simp;intro h3 h4;exact h1 ⟨h4.symm,h3.symm⟩
   simp [h1,h2,e1,e2]
theorem paTable_l1 (m:Nat) (l:List S70) (hl:l.length < 4611686018427387904) (hn:natPairs m l):∀ (rest pre:List S70),l=pre ++ rest→Ev (fun k=>spec_paTable.l1 k (mat m (hasP pre)) l (l.length:Int) (pre.length:Int)) (mat m (hasP l))
 | [],pre,h=>by
  refine Ev.one (fun k=>?_)
  have e:l=pre:=by rw [h];simp
  rw [spec_paTable.l1,if_neg (by rw [e];omega),e]
 | x :: rest,pre,h=>by
  have hlen:pre.length < l.length:=by rw [h];simp
  obtain ⟨a,b,rfl,hab,hb⟩:=hn x (by rw [h];simp)
  have hx:rd_T70 l (pre.length:Int)=⟨(a:Int),(b:Int)⟩:=by rw [h];exact rdT_mid pre rest _
  have ih:=paTable_l1 m l hl hn rest (pre ++ [⟨(a:Int),(b:Int)⟩]) (by rw [h];simp)
  rw [List.length_append,List.length_singleton,← upd2_hasP] at ih
  refine Ev.step (fun k=>?_) ih
  have hrow:(rd_L4 (mat m (hasP pre)) (a:Int)).length=m:=by rw [mat_row _ _ _ (by omega)];simp
  have hrow2:(rd_L4 (mat m (upd (hasP pre) a b true)) (b:Int)).length=m:=by rw [mat_row _ _ _ (by omega)];simp
  rw [spec_paTable.l1,if_pos (by omega),if_pos (by omega),if_pos (by omega),hx]
  dsimp only
  rw [mat_len,hrow,if_pos (by omega),if_pos (by omega),if_pos (by omega),if_pos (by omega),Int.toNat_natCast,Int.toNat_natCast,mat_set _ _ _ _ _ (by omega)]
  simp only [Option.bind_some]
  rw [if_pos (by omega),hrow2,if_pos (by omega),mat_set _ _ _ _ _ (by omega),w1 (by omega)]
theorem paTable_l0 (m:Nat) (hm:m≤12) (l:List S70) (hl:l.length < 4611686018427387904) (hn:natPairs m l):∀ (d i:Nat),i+d=m→Ev (fun k=>spec_paTable.l0 k (List.replicate i (List.replicate m false)) (i:Int) (m:Int) l) (mat m (hasP l))
 | 0,i,hd=>by
  refine Ev.step (fun k=>?_) (paTable_l1 m l hl hn l [] rfl)
  obtain rfl:i=m:=by omega
  rw [spec_paTable.l0,if_neg (by omega),hasP_nil,mat_false]
  rfl
 | d+1,i,hd=>by
  refine Ev.step (fun k=>?_) (paTable_l0 m hm l hl hn d (i+1) (by omega))
  rw [spec_paTable.l0,if_pos (by omega),if_pos (by omega),if_pos (by omega),if_pos (by simp;omega),w1 (by omega),Int.toNat_natCast,List.replicate_succ']
theorem paTable_ev (m:Nat) (hm:m≤12) (l:List S70) (hl:l.length < 4611686018427387904) (hn:natPairs m l):Ev (fun k=>spec_paTable.f k (m:Int) l) (mat m (hasP l)):=by
 unfold spec_paTable.f
 exact paTable_l0 m hm l hl hn m 0 (by omega)
theorem mat_congr (m:Nat) (r s:Rel) (h:∀ a b,a < m→b < m→r a b=s a b):mat m r=mat m s:=map_range_congr m _ _ fun a ha=>map_range_congr m _ _ fun b hb=>h a b ha hb
theorem putB_mat (v:Bool) (m:Nat) (r:Rel) (x y:Nat) (hx:x < m) (hy:y < m):putB v (mat m r) (x:Int) (y:Int)=mat m (upd (upd r x y v) y x v):=by
 unfold putB
 rw [Int.toNat_natCast,Int.toNat_natCast,mat_set m r x y v hx,mat_set m _ y x v hy]
theorem st_mat (m:Nat) (r:Rel) (a b c d:Nat) (ha:a < m) (hb:b < m) (hc:c < m) (hd:d < m) (h:exOk r a b c d=true):stB true (stB false (mat m r) [((a:Int),(b:Int)),((c:Int),(d:Int))]) [((a:Int),(c:Int)),((b:Int),(d:Int))]=mat m (exR r a b c d):=by
 simp only [exOk,Bool.and_eq_true,Bool.not_eq_true',bne_iff_ne] at h
 obtain ⟨_,_,_,_,h1,h2,h3,h4⟩:=h
 show putB true (putB true (putB false (putB false (mat m r) (a:Int) (b:Int)) (c:Int) (d:Int)) (a:Int) (c:Int)) (b:Int) (d:Int)=_
 rw [putB_mat false m r a b ha hb,putB_mat false m _ c d hc hd,putB_mat true m _ a c ha hc,putB_mat true m _ b d hb hd]
 refine mat_congr m _ _ fun x y hx hy=>?_
 unfold upd exR
 by_cases k1:(x=a∧y=c) ∨ (x=c∧y=a) ∨ (x=b∧y=d) ∨ (x=d∧y=b)
 ·rw [if_pos k1]
  by_cases j1:x=d∧y=b
  ·rw [if_pos j1]
  ·rw [if_neg j1]
   by_cases j2:x=b∧y=d
   ·rw [if_pos j2]
   ·rw [if_neg j2]
    by_cases j3:x=c∧y=a
    ·rw [if_pos j3]
    ·rw [if_neg j3,if_pos]
     rcases k1 with k | k | k | k
     ·exact k
     ·exact absurd k j3
     ·exact absurd k j2
     ·exact absurd k j1
 ·rw [if_neg k1,if_neg (fun h=>k1 (.inr (.inr (.inr h)))),if_neg (fun h=>k1 (.inr (.inr (.inl h)))),if_neg (fun h=>k1 (.inr (.inl h))),if_neg (fun h=>k1 (.inl h))]
  by_cases k2:(x=a∧y=b) ∨ (x=b∧y=a) ∨ (x=c∧y=d) ∨ (x=d∧y=c)
  ·rw [if_pos k2]
   by_cases j1:x=d∧y=c
   ·rw [if_pos j1]
   ·rw [if_neg j1]
    by_cases j2:x=c∧y=d
    ·rw [if_pos j2]
    ·rw [if_neg j2]
     by_cases j3:x=b∧y=a
     ·rw [if_pos j3]
     ·rw [if_neg j3,if_pos]
      rcases k2 with k | k | k | k
      ·exact k
      ·exact absurd k j3
      ·exact absurd k j2
      ·exact absurd k j1
  ·rw [if_neg k2,if_neg (fun h=>k2 (.inr (.inr (.inr h)))),if_neg (fun h=>k2 (.inr (.inr (.inl h)))),if_neg (fun h=>k2 (.inr (.inl h))),if_neg (fun h=>k2 (.inl h))]
theorem deExchange_ev (m:Nat) (hm:m≤12) (l:List S70) (hl:l.length≤1048576) (hn:natPairs m l) (a b c d:Nat) (ha:a < m) (hb:b < m) (hc:c < m) (hd:d < m):Ev (fun k=>spec_deExchange.f k (m:Int) l (a:Int) (b:Int) (c:Int) (d:Int)) (if exOk (hasP l) a b c d=true then ((m:Int),pairsOf m (exR (hasP l) a b c d),true) else (0,[],false)):=by
 unfold spec_deExchange.f
 refine Ev.bind (paTable_ev m hm l (by omega) hn) ?_
 have hall:=mat_all m (hasP l)
 simp only [mat_len]
 simp only [if_pos (show (m≤1000∧(mat m (hasP l)).all (fun x=>decide (x.length=m))=true)∧((0≤(a:Int)∧(a:Int) < (m:Int))∧0≤(b:Int)∧(b:Int) < (m:Int))∧(0≤(c:Int)∧(c:Int) < (m:Int))∧0≤(d:Int)∧(d:Int) < (m:Int) from ⟨⟨by omega,hall⟩,by omega⟩),bad_ok m _ a b c d ha hb hc hd]
 cases h:exOk (hasP l) a b c d with
 | false=>simp only [Bool.not_false,if_true,Bool.false_eq_true,if_false];exact Ev.now _
 | true =>
  simp only [Bool.not_true,Bool.false_eq_true,if_false,if_true,st_mat m (hasP l) a b c d ha hb hc hd h]
  exact Ev.bind (paOf_ev m hm _) (Ev.now _)
theorem before_l0 (a b:List S70) (ha:a.length < 4611686018427387904) (n n':Int):∀ (ra pa rb pb:List S70),a=pa ++ ra→b=pb ++ rb→pa.length=pb.length→Ev (fun k=>spec_paBefore.l0 k a (a.length:Int) (pa.length:Int) n a n' b) (ltL ra rb)
 | [],pa,rb,pb,e1,e2,e3=>by
  have el:a.length=pa.length:=by rw [e1];simp
  have eb:b.length=pb.length+rb.length:=by rw [e2];simp
  refine Ev.one fun k=>?_
  rw [spec_paBefore.l0,if_neg (by omega)]
  congr 1
  cases rb with
  | nil=>rw [ltL,decide_eq_false (by simp at eb;omega)]
  | cons y rb=>rw [ltL,decide_eq_true (by simp at eb;omega)]
 | x :: ra,pa,[],pb,e1,e2,e3=>by
  have el:a.length=pa.length+(ra.length+1):=by rw [e1];simp
  have eb:b.length=pb.length:=by rw [e2];simp
  refine Ev.one fun k=>?_
  rw [spec_paBefore.l0,if_pos (by omega),if_pos (by omega),if_pos (by omega),if_pos (by omega),ltL]
 | x :: ra,pa,y :: rb,pb,e1,e2,e3=>by
  have el:a.length=pa.length+(ra.length+1):=by rw [e1];simp
  have eb:b.length=pb.length+(rb.length+1):=by rw [e2];simp
  have hx:rd_T70 a (pa.length:Int)=x:=by rw [e1];exact rdT_mid pa ra x
  have hy:rd_T70 b (pa.length:Int)=y:=by rw [e2,e3];exact rdT_mid pb rb y
  by_cases e:x=y
  ·subst e
   have hw:wrap64 ((pa.length:Int)+1)=((pa ++ [x]).length:Int):=by rw [List.length_append,List.length_singleton];unfold wrap64;omega
   refine Ev.step (f:=fun k=>spec_paBefore.l0 k a (a.length:Int) ((pa ++ [x]).length:Int) n a n' b) (fun k=>?_) (Ev.cast (before_l0 a b ha n n' ra (pa ++ [x]) rb (pb ++ [x]) (by rw [e1];simp) (by rw [e2];simp) (by simp [e3])) (by rw [ltL,if_pos rfl]))
   rw [spec_paBefore.l0,if_pos (by omega),if_pos (by omega),if_pos (by omega),if_neg (by omega),if_pos (by omega),hx,hy,if_neg (by simp),hw]
  ·refine Ev.one fun k=>?_
   have hc:(!(x.f0 == y.f0) || !(x.f1 == y.f1))=true:=by
    cases hb:(!(x.f0 == y.f0) || !(x.f1 == y.f1)) with
    | true=>rfl
    | false =>
     simp only [Bool.or_eq_false_iff,Bool.not_eq_false',beq_iff_eq] at hb
     obtain ⟨a1,a2⟩:=x
     obtain ⟨b1,b2⟩:=y
     exact absurd (show (⟨a1,a2⟩:S70)=⟨b1,b2⟩ from by rw [show a1=b1 from hb.1,show a2=b2 from hb.2]) e
   rw [spec_paBefore.l0,if_pos (by omega),if_pos (by omega),if_pos (by omega),if_neg (by omega),if_pos (by omega),hx,hy,if_pos hc,paLess_f,Option.bind_some,ltL,if_neg e]
theorem before_ev (a b:List S70) (ha:a.length < 4611686018427387904) (n n':Int):Ev (fun k=>spec_paBefore.f k n a n' b) (ltL a b):=before_l0 a b ha n n' a [] b [] rfl rfl rfl
theorem drop_mid {α:Type} (pre rest:List α):(pre ++ rest).drop ((pre.length:Int)).toNat=rest:=by rw [Int.toNat_natCast];simp
/-! the reference's loops -/
theorem rdT30_mid (pre rest:List S30) (x:S30):rd_T30 (pre ++ x :: rest) (pre.length:Int)=x:=by
 unfold rd_T30
 simp [List.getD_eq_getElem?_getD]
theorem same_ev (a b:List S70) (ha:a.length < 4611686018427387904) (hb:b.length < 4611686018427387904) (n:Int):Ev (fun k=>spec_paSame.f k n a n b) (decide (a=b)):=by
 unfold spec_paSame.f
 simp only [if_true]
 refine Ev.bind (before_ev a b ha n n) ?_
 cases h:ltL a b with
 | true =>
  simp only [if_true]
  refine Ev.cast (Ev.now _) ?_
  symm
  refine decide_eq_false fun e=>?_
  rw [e,ltL_irrefl] at h
  cases h
 | false =>
  simp only [Bool.false_eq_true,if_false]
  refine Ev.bind (before_ev b a hb n n) ?_
  refine Ev.cast (Ev.now _) ?_
  by_cases e:a=b
  ·rw [e,ltL_irrefl];simp
  ·have:=ltL_tri e
   rw [h] at this
   rw [decide_eq_false e]
   cases h2:ltL b a with
   | true=>rfl
   | false=>rw [h2] at this;cases this
theorem take_mid {α:Type} (pre rest:List α):(pre ++ rest).take ((pre.length:Int)).toNat=pre:=by rw [Int.toNat_natCast];simp
theorem dePut_l0 (m:Nat) (x:S30) (hx:x.f1.length≤144) (hx0:x.f0=(m:Int)):∀ (ra pa:List S30),(pa ++ ra).length≤1000000→(∀ y ∈ pa ++ ra,y.f0=(m:Int)∧y.f1.length≤144)→Ev (fun k=>spec_dePut.l0 k (pa ++ ra) (pa.length:Int) (m:Int) x.f1) (pa ++ putX ra x)
 | [],pa,hl,hS=>by
  rw [List.length_append] at hl
  refine Ev.one fun k=>?_
  rw [spec_dePut.l0,if_neg (by simp)]
  simp only [Option.bind_some]
  rw [if_pos (by omega),if_pos (by simp),take_mid,if_pos (by simp at hl ⊢;omega),drop_mid]
  simp only [List.nil_append,List.length_append,List.length_cons,List.length_nil]
  rw [if_pos (by simp at hl ⊢;omega),if_pos (by simp at hl ⊢;omega),putX,List.append_nil,← hx0]
 | y :: ra,pa,hl,hS=>by
  have hy:=hS y (by simp)
  have e1:(pa.length:Int) < ((pa ++ y :: ra).length:Int):=by simp;omega
  have hlp:pa.length≤1000000:=by rw [List.length_append] at hl;omega
  have er:rd_T30 (pa ++ y :: ra) (pa.length:Int)=y:=rdT30_mid pa ra y
  rw [putX]
  refine Ev.step (f:=fun k=>(spec_paBefore.f k y.f0 y.f1 (m:Int) x.f1).bind fun t180=>if t180=true then spec_dePut.l0 k (pa ++ y :: ra) ((pa.length+1:Nat):Int) (m:Int) x.f1 else (spec_paSame.f k y.f0 y.f1 (m:Int) x.f1).bind fun t182=>if t182=true then some (pa ++ y :: ra) else some (pa ++ x :: y :: ra)) (fun k=>?_) ?_
  ·rw [spec_dePut.l0,if_pos e1,if_pos (by omega),er,w1 (by omega)]
   simp only [Option.bind_some]
   rw [if_pos (show (pa.length:Int)≤((pa ++ y :: ra).length:Int) by omega),take_mid,drop_mid]
   rw [if_pos (show ([]:List S30).length+pa.length < 4398046511104 by simp;omega)]
   rw [if_pos (show (([]:List S30) ++ pa).length+[(⟨(m:Int),x.f1⟩:S30)].length < 4398046511104 by simp;omega)]
   rw [if_pos (show ((([]:List S30) ++ pa) ++ [(⟨(m:Int),x.f1⟩:S30)]).length+(y :: ra).length < 4398046511104 by simp at hl ⊢;omega)]
   rw [← hx0]
   simp
  ·refine Ev.bind (before_ev y.f1 x.f1 (by omega) y.f0 (m:Int)) ?_
   cases hb:ltL y.f1 x.f1 with
   | true =>
    simp only [if_true]
    have ih:=dePut_l0 m x hx hx0 ra (pa ++ [y]) (by simpa using hl) (by simpa using hS)
    rw [List.length_append,List.length_singleton,List.append_assoc,List.singleton_append,List.append_assoc,List.singleton_append] at ih
    exact ih
   | false =>
    simp only [Bool.false_eq_true,if_false]
    rw [hy.1]
    refine Ev.bind (same_ev y.f1 x.f1 (by omega) (by omega) (m:Int)) ?_
    by_cases e:y.f1=x.f1
    ·rw [if_pos e,decide_eq_true e]
     simp only [if_true]
     exact Ev.now _
    ·rw [if_neg e,decide_eq_false e]
     simp only [Bool.false_eq_true,if_false]
     exact Ev.now _
theorem spec_step (m:Nat) (hm:m≤12) (l:List S70) (hl:l.length≤144) (hn:natPairs m l) (a b c d:Nat) (ha:a < m) (hb:b < m) (hc:c < m) (hd:d < m) (W:List S70) (hW:W.length=2) (t:Nat) (ht:t < 2) (hr:rd_T70 W (t:Int)=⟨(c:Int),(d:Int)⟩) (X1 X2 X3 X4:Int) (S:List S30) (hS:fitX m S) (hSl:S.length≤1000000) (R:List S30 × Bool)
  (h:Ev (fun k=>spec_AllExchanges.l2 k (stX putX m l ⟨(a:Int),(b:Int)⟩ S ⟨(c:Int),(d:Int)⟩) l X1 X2 l X3 X4 W 2 ((t+1:Nat):Int) (m:Int) l (a:Int) (b:Int)) R) :
  Ev (fun k=>spec_AllExchanges.l2 k S l X1 X2 l X3 X4 W 2 (t:Int) (m:Int) l (a:Int) (b:Int)) R:=by
 refine Ev.step (f:=fun k=>(spec_deExchange.f k (m:Int) l (a:Int) (b:Int) (c:Int) (d:Int)).bind fun bt244=>if bt244.2.2=true then (spec_dePut.f k S bt244.1 bt244.2.1).bind fun t250=>spec_AllExchanges.l2 k t250 l X1 X2 l X3 X4 W 2 ((t+1:Nat):Int) (m:Int) l (a:Int) (b:Int) else spec_AllExchanges.l2 k S l X1 X2 l X3 X4 W 2 ((t+1:Nat):Int) (m:Int) l (a:Int) (b:Int)) (fun k=>?_) ?_
 ·rw [spec_AllExchanges.l2,if_pos (by omega),if_pos (by omega),if_pos (by omega),hr,w1 (by omega)]
 ·refine Ev.bind (deExchange_ev m hm l (by omega) hn a b c d ha hb hc hd) ?_
  unfold stX cndX at h
  simp only [Int.toNat_natCast] at h
  by_cases he:exOk (hasP l) a b c d=true
  ·rw [if_pos he]
   rw [if_pos he] at h
   simp only [if_true]
   have hp:Ev (fun k=>spec_dePut.f k S (m:Int) (pairsOf m (exR (hasP l) a b c d))) (putX S ⟨(m:Int),pairsOf m (exR (hasP l) a b c d)⟩):=dePut_l0 m ⟨(m:Int),pairsOf m (exR (hasP l) a b c d)⟩ (pairsOf_len m hm _) rfl S [] hSl hS
   exact Ev.bind hp h
  ·rw [if_neg he]
   rw [if_neg he] at h
   simp only [Bool.false_eq_true,if_false]
   exact h
theorem spec_l1 (m:Nat) (hm:m≤12) (l:List S70) (hl:l.length≤144) (hn:natPairs m l) (p:S70) (hp:p ∈ l) (i:Nat) (hi:i < 1000) (R:List S30 × Bool):∀ (rq pq:List S70) (S:List S30),l=pq ++ rq→fitX m S→S.length+2 * rq.length≤1000000 →
  Ev (fun k=>spec_AllExchanges.l0 k (f1X putX m l p S rq) l (l.length:Int) ((i+1:Nat):Int) (m:Int) l) R→Ev (fun k=>spec_AllExchanges.l1 k S l (l.length:Int) (i:Int) l (l.length:Int) (pq.length:Int) (m:Int) l p.f0 p.f1) R
 | [],pq,S,e,hS,hb,h=>by
  refine Ev.step (f:=fun k=>spec_AllExchanges.l0 k S l (l.length:Int) ((i+1:Nat):Int) (m:Int) l) (fun k=>?_) h
  have e2:l.length=pq.length:=by rw [e];simp
  rw [spec_AllExchanges.l1,if_neg (by omega),w1 (by omega)]
 | q :: rq,pq,S,e,hS,hb,h=>by
  have e2:l.length=pq.length+(rq.length+1):=by rw [e];simp
  obtain ⟨a,b,rfl,hab,hbm⟩:=hn p hp
  obtain ⟨c,d,rfl,hcd,hdm⟩:=hn q (by rw [e];simp)
  have hr:rd_T70 l (pq.length:Int)=⟨(c:Int),(d:Int)⟩:=by
   have:=rdT_mid pq rq (⟨(c:Int),(d:Int)⟩:S70)
   rwa [← e] at this
  rw [List.length_cons] at hb
  have n1:=stX_len putX putX_len m l ⟨(a:Int),(b:Int)⟩ S ⟨(c:Int),(d:Int)⟩
  have n2:=stX_len putX putX_len m l ⟨(a:Int),(b:Int)⟩ (stX putX m l ⟨(a:Int),(b:Int)⟩ S ⟨(c:Int),(d:Int)⟩) (swP ⟨(c:Int),(d:Int)⟩)
  have s1:=st_fit putX m (put_fit m) hm l ⟨(a:Int),(b:Int)⟩ ⟨(c:Int),(d:Int)⟩ S hS
  have s2:=st_fit putX m (put_fit m) hm l ⟨(a:Int),(b:Int)⟩ (swP ⟨(c:Int),(d:Int)⟩) _ s1
  refine Ev.step (f:=fun k=>spec_AllExchanges.l2 k S l (l.length:Int) (i:Int) l (l.length:Int) (pq.length:Int) [⟨(c:Int),(d:Int)⟩,⟨(d:Int),(c:Int)⟩] 2 ((0:Nat):Int) (m:Int) l (a:Int) (b:Int)) (fun k=>?_) ?_
  ·rw [spec_AllExchanges.l1,if_pos (by omega),if_pos (by omega),if_pos (by omega),hr]
   rfl
  ·refine spec_step m hm l hl hn a b c d (by omega) (by omega) (by omega) (by omega) _ rfl 0 (by omega) rfl _ _ _ _ S hS (by omega) R ?_
   refine spec_step m hm l hl hn a b d c (by omega) (by omega) (by omega) (by omega) _ rfl 1 (by omega) rfl _ _ _ _ _ s1 (by omega) R ?_
   refine Ev.step (f:=fun k=>spec_AllExchanges.l1 k (stX putX m l ⟨(a:Int),(b:Int)⟩ (stX putX m l ⟨(a:Int),(b:Int)⟩ S ⟨(c:Int),(d:Int)⟩) ⟨(d:Int),(c:Int)⟩) l (l.length:Int) (i:Int) l (l.length:Int) ((pq.length+1:Nat):Int) (m:Int) l (a:Int) (b:Int)) (fun k=>?_) ?_
   ·rw [spec_AllExchanges.l2,if_neg (by omega),w1 (by omega)]
   ·have ih:=spec_l1 m hm l hl hn ⟨(a:Int),(b:Int)⟩ hp i hi R rq (pq ++ [⟨(c:Int),(d:Int)⟩]) _ (by rw [e];simp) s2 (by omega) h
    rw [List.length_append,List.length_singleton] at ih
    exact ih
theorem spec_l0 (m:Nat) (hm:m≤12) (l:List S70) (hl:l.length≤144) (hn:natPairs m l):∀ (rp pp:List S70) (S:List S30),l=pp ++ rp→fitX m S→S.length+rp.length * 288≤1000000 →
  Ev (fun k=>spec_AllExchanges.l0 k S l (l.length:Int) (pp.length:Int) (m:Int) l) (f0X putX m l S rp,true)
 | [],pp,S,e,hS,hb=>by
  have e2:l.length=pp.length:=by rw [e];simp
  refine Ev.one fun k=>?_
  rw [spec_AllExchanges.l0,if_neg (by omega)]
  rfl
 | p :: rp,pp,S,e,hS,hb=>by
  have e2:l.length=pp.length+(rp.length+1):=by rw [e];simp
  rw [List.length_cons,Nat.succ_mul] at hb
  have hp:p ∈ l:=by rw [e];simp
  have hr:rd_T70 l (pp.length:Int)=p:=by
   have:=rdT_mid pp rp p
   rwa [← e] at this
  have n1:=f1X_len putX putX_len m l p l S
  refine Ev.step (f:=fun k=>spec_AllExchanges.l1 k S l (l.length:Int) (pp.length:Int) l (l.length:Int) (([]:List S70).length:Int) (m:Int) l p.f0 p.f1) (fun k=>?_) ?_
  ·rw [spec_AllExchanges.l0,if_pos (by omega),if_pos (by omega),if_pos (by omega),hr]
   rfl
  ·refine spec_l1 m hm l hl hn p hp pp.length (by omega) _ l [] S rfl hS (by omega) ?_
   have ih:=spec_l0 m hm l hl hn rp (pp ++ [p]) (f1X putX m l p S l) (by rw [e];simp) (f1_fit putX m (put_fit m) hm l p l S hS) (by omega)
   rw [List.length_append,List.length_singleton] at ih
   exact ih
theorem tab_false (m:Nat):tab m (fun _ _=>false)=List.replicate m 0:=by
 unfold tab
 rw [← map_range_const (0:Int) m]
 refine map_range_congr m _ _ fun i hi=>?_
 have:bitsOf m (fun _=>false)=0:=by
  apply Nat.eq_of_testBit_eq
  intro i
  rw [testBit_bitsOf];simp
 rw [this];rfl
theorem tab_or (m:Nat) (hm:m≤12) (r:Rel) (a b:Nat) (ha:a < m) (hb:b < m):(tab m r).set a (Go.bits .or .u16 (rd (tab m r) (a:Int)) (shl .u16 1 (b:Int)))=tab m (upd r a b true):=by
 rw [tab_at m r a ha,shl1 b (by omega),or16 _ _ (bitsOf_u16 m hm _) (pow_u16 b (by omega)),bitsOf_or m _ b hb,tab_set]
 refine tab_congr m _ _ fun x y hx hy=>?_
 by_cases e:x=a
 ·subst e;simp [upd]
 ·simp [upd,e]
theorem table_l0 (m:Nat) (hm:m≤12) (l:List S70) (hl:l.length < 4611686018427387904) (hn:natPairs m l):∀ (rest pre:List S70),l=pre ++ rest→Ev (fun k=>impl_Party_table.l0 k (tab m (hasP pre)) l (l.length:Int) (pre.length:Int)) (tab m (hasP l))
 | [],pre,h=>by
  refine Ev.one (fun k=>?_)
  have e:l=pre:=by rw [h];simp
  rw [impl_Party_table.l0,if_neg (by rw [e];omega),e]
 | x :: rest,pre,h=>by
  have hlen:pre.length < l.length:=by rw [h];simp
  obtain ⟨a,b,rfl,hab,hb⟩:=hn x (by rw [h];simp)
  have hx:rd_T70 l (pre.length:Int)=⟨(a:Int),(b:Int)⟩:=by rw [h];exact rdT_mid pre rest _
  have ih:=table_l0 m hm l hl hn rest (pre ++ [⟨(a:Int),(b:Int)⟩]) (by rw [h];simp)
  rw [List.length_append,List.length_singleton,← upd2_hasP] at ih
  refine Ev.step (fun k=>?_) ih
  rw [impl_Party_table.l0,if_pos (by omega),if_pos (by omega),if_pos (by omega),hx]
  dsimp only
  rw [tab_len,if_pos (by omega),if_pos (by omega),if_pos (by omega),Int.toNat_natCast,Int.toNat_natCast,tab_or m hm _ a b (by omega) (by omega)]
  simp only [Option.bind_some]
  rw [if_pos (by omega),tab_or m hm _ b a (by omega) (by omega),w1 (by omega)]
theorem table_ev (m:Nat) (hm:m≤12) (l:List S70) (hl:l.length < 4611686018427387904) (hn:natPairs m l):Ev (fun k=>impl_Party_table.f k (m:Int) l) (tab m (hasP l)):=by
 unfold impl_Party_table.f
 simp only [if_pos (show (0:Int)≤(m:Int) by omega),Int.toNat_natCast,if_pos (show m≤140737488355328 by omega)]
 have:=table_l0 m hm l hl hn l [] rfl
 rw [hasP_nil,tab_false] at this
 exact this

theorem AllExchanges_common (n:Int) (l:List S70) (w:(Lit.int .i64 n).wf=true) (hl:l.length≤1048576):∃ R:List S30 × Bool,Ev (fun k=>spec_AllExchanges.f k n l) R∧Ev (fun k=>impl_AllExchanges.f k n l) R∧smallPS R.1:=by
 have h1:=paGood_ev n l (by omega)
 have h2:=implIsParty_ev n l (by omega)
 cases hg:good n l with
 | false =>
  rw [hg] at h1 h2
  refine ⟨([],false),?_,?_,by simp [smallPS]⟩
  ·unfold spec_AllExchanges.f
   refine Ev.bind h1 ?_
   simp only [Bool.false_eq_true,if_false];exact Ev.now _
  ·unfold impl_AllExchanges.f
   have hi:Ev (fun k=>impl_AllExchanges0.f k n l) ([],false):=by
    unfold impl_AllExchanges0.f
    refine Ev.bind h2 ?_
    simp only [Bool.false_eq_true,if_false];exact Ev.now _
   refine Ev.bind hi ?_
   simp only [Bool.false_eq_true,if_false];exact Ev.now _
 | true =>
  rw [hg] at h1 h2
  obtain ⟨m,rfl,hm,hn,ho⟩:=good_nat hg
  have hll:l.length≤144:=by
   rw [← pairsOf_good m l hn ho]
   exact pairsOf_len m hm _
  have hrel:relX m (f0X putX m l [] l) (f0X addX m l [] l):=f0X_rel (relX m) putX addX m l (fun S T x h0 h1 h=>relX_step m S T x h0 h1 h) hm l [] [] ⟨List.Pairwise.nil,fun x=>Iff.rfl,fun x hx=>by cases hx⟩
  have hlen1:=f0X_len putX putX_len m l l []
  have hlen2:=f0X_len addX addX_len m l l []
  have hmul:l.length * (2 * l.length)≤144 * 288:=Nat.mul_le_mul hll (by omega)
  rw [List.length_nil] at hlen1 hlen2
  refine ⟨(f0X putX m l [] l,true),?_,?_,(show (f0X putX m l [] l).length≤1000000 by omega),fun x hx=>(hrel.2.2 x ((hrel.2.1 x).1 hx)).2⟩
  ·unfold spec_AllExchanges.f
   refine Ev.bind h1 ?_
   simp only [if_true]
   exact spec_l0 m hm l hll hn l [] [] rfl (fun _ h=>by cases h) (by rw [List.length_nil];omega)
  ·unfold impl_AllExchanges.f
   have hi:Ev (fun k=>impl_AllExchanges0.f k (m:Int) l) (f0X addX m l [] l,true):=by
    unfold impl_AllExchanges0.f
    refine Ev.bind h2 ?_
    simp only [if_true]
    refine Ev.bind (table_ev m hm l (by omega) hn) ?_
    exact impl_l0 m hm l hll hn l [] [] rfl (by rw [List.length_nil];omega)
   refine Ev.bind hi ?_
   simp only [if_true,okX_true m (f0X addX m l [] l) (by omega) (fun x hx=>(hrel.2.2 x hx).1),end_eq m _ _ hrel]
   exact Ev.now _

def conv (l:List S86):List S70:=l.map fun x=>⟨x.f0,x.f1⟩
theorem conv_len (l:List S86):(conv l).length=l.length:=by simp [conv]
theorem eqPairS_l0 (l:List S70) (hl:l.length < 4611686018427387904):∀ (d i:Nat),i+d=l.length→Ev (fun k=>laws_eqPairS.l0 k l l i) true
 | 0,i,hd=>by
  refine Ev.one (fun k=>?_)
  rw [laws_eqPairS.l0,if_neg (by omega)]
 | d+1,i,hd=>by
  refine Ev.step (fun k=>?_) (eqPairS_l0 l hl d (i+1) (by omega))
  rw [laws_eqPairS.l0,if_pos (by omega),if_pos (by omega),if_pos (by omega),laws_eqPair.f,if_pos rfl,if_pos rfl,w1 (by omega)]
  rfl
theorem eqParty_self (a:Int) (l:List S70) (hl:l.length < 4611686018427387904):Ev (fun k=>laws_eqParty.f k a l a l) true:=by
 unfold laws_eqParty.f laws_eqPairS.f
 simp only [if_true]
 have h:Ev (fun k=>laws_eqPairS.l0 k l l 0) true:=by simpa using eqPairS_l0 l hl l.length 0 (by omega)
 refine Ev.bind h ?_
 simp only [if_true]
 exact Ev.now _

theorem eqPartyS_l0 (L:List S30) (h:smallPS L):∀ (rest pre:List S30),L=pre ++ rest→Ev (fun k=>laws_eqPartyS.l0 k L L (pre.length:Int)) true
 | [],pre,e=>by
  have e2:L.length=pre.length:=by rw [e];simp
  refine Ev.one fun k=>?_
  rw [laws_eqPartyS.l0,if_neg (by omega)]
 | x :: rest,pre,e=>by
  have e2:L.length=pre.length+(rest.length+1):=by rw [e];simp
  have hx:rd_T30 L (pre.length:Int)=x:=by rw [e];exact rdT30_mid pre rest x
  have hl:=h.1
  have hxl:=h.2 x (by rw [e];simp)
  have ih:=eqPartyS_l0 L h rest (pre ++ [x]) (by rw [e];simp)
  rw [List.length_append,List.length_singleton] at ih
  refine Ev.step (f:=fun k=>(laws_eqParty.f k x.f0 x.f1 x.f0 x.f1).bind fun t=>if t=true then laws_eqPartyS.l0 k L L ((pre.length+1:Nat):Int) else some false) (fun k=>?_) (Ev.bind (eqParty_self x.f0 x.f1 (by omega)) ?_)
  ·rw [laws_eqPartyS.l0,if_pos (by omega),if_pos (by omega),if_pos (by omega),hx,w1 (by omega)]
  ·simp only [if_true];exact ih
theorem eqPartyS_self (L:List S30) (h:smallPS L):Ev (fun k=>laws_eqPartyS.f k L L) true:=by
 unfold laws_eqPartyS.f
 simp only [if_true]
 exact eqPartyS_l0 L h L [] rfl
/-- The pairs bear the marks m, m+1, .. -/
def MarkedP (m:Int) (z:List S70):Prop:=∀ j,j < z.length→z[j]?=some ⟨m+2 * j,m+2 * j+1⟩
inductive MarkedPS : Nat → List S30 → Prop
 | nil (m:Nat):MarkedPS m []
 | cons (m:Nat) (z:List S70) (Z:List S30):MarkedP ((m+1:Nat):Int) z→MarkedPS (m+1+2 * z.length) Z→MarkedPS m (⟨(m:Int),z⟩ :: Z)
theorem getD_of_get {α:Type} (l:List α) (i:Nat) (d x:α) (h:l[i]?=some x):l.getD i d=x:=by rw [List.getD_eq_getElem?_getD,h];rfl
theorem heldPairS_l0 (m:Int) (z:List S70) (h0:0≤m) (hm:m+2 * z.length < 4611686018427387904) (hz:MarkedP m z):∀ (d i:Nat),i+d=z.length→Ev (fun k=>laws_heldPairS.l0 k z (m+2 * i) i) (m+2 * z.length)
 | 0,i,hd=>by
  refine Ev.one (fun k=>?_)
  rw [laws_heldPairS.l0,if_neg (by omega),show i=z.length by omega]
 | d+1,i,hd=>by
  have hx:rd_T70 z (i:Int)=⟨m+2 * i,m+2 * i+1⟩:=getD_of_get z i _ _ (hz i (by omega))
  refine Ev.step (fun k=>?_) (heldPairS_l0 m z h0 hm hz d (i+1) (by omega))
  rw [laws_heldPairS.l0,if_pos (by omega),if_pos (by omega),hx,if_pos rfl,w64 (i:=m+2 * (i:Int)+1) (by omega) (by omega),if_pos rfl,w1 (by omega),w64 (by omega) (by omega),show m+2 * (i:Int)+1+1=m+2 * ((i+1:Nat):Int) by omega]
def sumPS:List S30→Nat
 | []=>0
 | x :: l=>1+2 * x.f1.length+sumPS l
theorem heldPS_l0 (L:List S30) (hb:L.length < 4611686018427387904):∀ (rest pre:List S30) (m:Nat),L=pre ++ rest→MarkedPS m rest→m+sumPS rest < 2305843009213693952→Ev (fun k=>laws_heldPartyS.l0 k L (m:Int) (pre.length:Int)) ((m+sumPS rest:Nat):Int)
 | [],pre,m,e,_,_=>by
  have e2:L.length=pre.length:=by rw [e];simp
  refine Ev.one fun k=>?_
  rw [laws_heldPartyS.l0,if_neg (by omega)];rfl
 | x :: rest,pre,m,e,hM,hs=>by
  have e2:L.length=pre.length+(rest.length+1):=by rw [e];simp
  have hx:rd_T30 L (pre.length:Int)=x:=by rw [e];exact rdT30_mid pre rest x
  rw [sumPS] at hs
  cases hM with
  | cons _ z _ hm hr =>
   have hs2:m+(1+2 * z.length+sumPS rest) < 2305843009213693952:=hs
   have ih:=heldPS_l0 L hb rest (pre ++ [(⟨(m:Int),z⟩:S30)]) (m+1+2 * z.length) (by rw [e];simp) hr (by omega)
   rw [List.length_append,List.length_singleton] at ih
   have hh:=heldPairS_l0 ((m+1:Nat):Int) z (by omega) (by omega) hm z.length 0 (by omega)
   have hE2:Ev (fun k=>laws_heldPairS.f k z ((m:Int)+1)) ((m+1+2 * z.length:Nat):Int):=by
    have e:((m+1:Nat):Int)+2 * ((0:Nat):Int)=(m:Int)+1:=by omega
    rw [e] at hh
    refine Ev.cast hh ?_
    omega
   refine Ev.step (f:=fun k=>(laws_heldPairS.f k z ((m:Int)+1)).bind fun t=>if t < 0 then some (-1) else laws_heldPartyS.l0 k L t ((pre.length+1:Nat):Int)) (fun k=>?_) (Ev.bind hE2 ?_)
   ·rw [laws_heldPartyS.l0,if_pos (by omega),if_pos (by omega),hx,if_pos rfl,w64 (i:=(m:Int)+1) (by omega) (by omega),w1 (by omega)]
   ·simp only [if_neg (show ¬ (((m+1+2 * z.length:Nat):Int) < 0) by omega)]
    refine Ev.cast ih ?_
    show ((m+1+2 * z.length+sumPS rest:Nat):Int)=((m+(1+2 * z.length+sumPS rest):Nat):Int)
    omega
theorem rdT_set (y:List S70) (i:Nat) (v:S70) (h:i < y.length):rd_T70 (y.set i v) (i:Int)=v:=getD_of_get _ i _ _ (by rw [List.getElem?_set];simp [h])
theorem markPairS_l0 (m:Int) (n:Nat) (h0:0≤m) (hm:m+2 * n < 4611686018427387904):∀ (d i:Nat) (y:List S70),i+d=n→y.length=n→(∀ j,j < i→y[j]?=some ⟨m+2 * j,m+2 * j+1⟩)→∃ z:List S70,z.length=n∧MarkedP m z∧Ev (fun k=>laws_markPairS.l0 k y (m+2 * i) i) (m+2 * n,z)
 | 0,i,y,hd,hy,h=>by
  refine ⟨y,hy,fun j hj=>h j (by omega),Ev.one (fun k=>?_)⟩
  rw [laws_markPairS.l0,if_neg (by omega),show i=n by omega]
 | d+1,i,y,hd,hy,h=>by
  have hi:i < y.length:=by omega
  obtain ⟨z,hz,hj,hE⟩:=markPairS_l0 m n h0 hm d (i+1) (y.set i ⟨m+2 * i,m+2 * i+1⟩) (by omega) (by simpa using hy) (fun j hj=>by
   rw [List.getElem?_set]
   by_cases e:i=j
   ·subst e;simp [hi]
   ·rw [if_neg e];exact h j (by omega))
  refine ⟨z,hz,hj,Ev.step (fun k=>?_) hE⟩
  rw [laws_markPairS.l0,if_pos (by omega),if_pos (by omega)]
  simp only [Option.bind_some,Int.toNat_natCast]
  rw [rdT_set _ _ _ (by omega),List.set_set,w1 (by omega),w64 (i:=m+2 * (i:Int)+1) (by omega) (by omega),w64 (by omega) (by omega),show m+2 * (i:Int)+1+1=m+2 * ((i+1:Nat):Int) by omega]
theorem markPS_go:∀ (L:List S30) (m:Nat),m+sumPS L < 2305843009213693952→∃ Z:List S30,Z.length=L.length∧sumPS Z=sumPS L∧MarkedPS m Z∧Ev (fun k=>laws_markPartyS.go k L (m:Int)) (((m+sumPS L:Nat):Int),Z)
 | [],m,h=>⟨[],rfl,rfl,.nil m,Ev.now _⟩
 | x :: L,m,h=>by
  rw [sumPS] at h
  obtain ⟨z,hz,hm,hE⟩:=markPairS_l0 ((m+1:Nat):Int) x.f1.length (by omega) (by omega) x.f1.length 0 x.f1 (by omega) rfl (fun j hj=>absurd hj (Nat.not_lt_zero _))
  obtain ⟨Z,h1,h2,h3,h4⟩:=markPS_go L (m+1+2 * x.f1.length) (by omega)
  refine ⟨⟨(m:Int),z⟩ :: Z,by rw [List.length_cons,List.length_cons,h1],by rw [sumPS,sumPS,h2];show 1+2 * z.length+_=_;rw [hz],.cons m z Z hm (by rw [hz];exact h3),?_⟩
  unfold laws_markPartyS.go
  simp only [if_pos (show 0≤(m:Int)∧(m:Int) < 4611686018427387904 by omega)]
  have hE2:Ev (fun k=>laws_markPairS.f k x.f1 ((m:Int)+1)) (((m+1+2 * x.f1.length:Nat):Int),z):=by
   have e:((m+1:Nat):Int)+2 * ((0:Nat):Int)=(m:Int)+1:=by omega
   rw [e] at hE
   refine Ev.cast hE ?_
   rw [show ((m+1:Nat):Int)+2 * (x.f1.length:Int)=((m+1+2 * x.f1.length:Nat):Int) by omega]
  refine Ev.bind hE2 ?_
  refine Ev.bind h4 ?_
  refine Ev.cast (Ev.now _) ?_
  rw [sumPS,show m+1+2 * x.f1.length+sumPS L=m+(1+2 * x.f1.length+sumPS L) by omega]
theorem sumPS_le:∀ (L:List S30),(∀ x ∈ L,x.f1.length≤144)→sumPS L≤L.length * 289
 | [],h=>by simp [sumPS]
 | x :: l,h=>by
  have h1:=h x (List.mem_cons_self ..)
  have h2:=sumPS_le l (fun y hy=>h y (List.mem_cons_of_mem _ hy))
  rw [sumPS,List.length_cons,Nat.succ_mul];omega
theorem markPartyS_ev (L:List S30) (h:smallPS L):∃ (Z:List S30) (m:Int),0≤m∧Ev (fun k=>laws_markPartyS.f k L 1) (m,Z)∧Ev (fun k=>laws_heldPartyS.f k Z 1) m:=by
 have hs:=sumPS_le L h.2
 have hl:=h.1
 have hs2:sumPS L≤289000000:=by omega
 obtain ⟨Z,h1,h2,h3,h4⟩:=markPS_go L 1 (by omega)
 refine ⟨Z,((1+sumPS L:Nat):Int),by omega,?_,?_⟩
 ·unfold laws_markPartyS.f
  simp only [if_pos (show L.length≤1000000000 by omega)]
  exact h4
 ·unfold laws_heldPartyS.f
  have:=heldPS_l0 Z (by omega) Z [] 1 rfl h3 (by rw [h2];omega)
  rw [h2] at this
  exact this
theorem markParty_ev (a:Int) (y:List S70) (m:Int) (h0:0≤m) (hm:m+2 * y.length < 4611686018427387904):∃ z:List S70,z.length=y.length∧MarkedP m z∧Ev (fun k=>laws_markParty.f k a y m) (m+2 * y.length,z):=by
 obtain ⟨z,hz,hj,hE⟩:=markPairS_l0 m y.length h0 hm y.length 0 y (by omega) rfl (fun j hj=>absurd hj (Nat.not_lt_zero _))
 refine ⟨z,hz,hj,?_⟩
 unfold laws_markParty.f laws_markPairS.f
 have hE':Ev (fun k=>laws_markPairS.l0 k y m 0) (m+2 * y.length,z):=by simpa using hE
 exact Ev.bind hE' (Ev.now _)
theorem szParty_f (a0:Int) (l:List S86) (a1:Int) (h0:0≤a1) (h1:a1≤1048576) (hl:l.length≤maxLen):laws_szParty.f a0 l a1=some (if a1 - l.length < 0 then -1 else a1 - l.length):=by
 unfold maxLen at hl
 unfold laws_szParty.f laws_szPairS.f
 rw [w64 (by omega) (by omega)]
 by_cases h:a1 - l.length < 0
 ·simp [h]
 ·simp [h]
theorem toPairS_l0 (l:List S86) (hl:l.length < 4611686018427387904):∀ (d i:Nat) (y:List S70),i+d=l.length→y.length=l.length→(∀ j,j < i→y[j]?=(conv l)[j]?)→Ev (fun k=>laws_toPairS.l0 k l y i) (conv l)
 | 0,i,y,hd,hy,h=>by
  refine Ev.one (fun k=>?_)
  have e:y=conv l:=by
   apply List.ext_getElem?
   intro j
   by_cases hj:j < i
   ·exact h j hj
   ·rw [List.getElem?_eq_none (by omega),List.getElem?_eq_none (by rw [conv_len];omega)]
  rw [laws_toPairS.l0,if_neg (by omega),e]
 | d+1,i,y,hd,hy,h=>by
  have hi:i < l.length:=by omega
  have hx:rd_T86 l (i:Int)=l[i]:=getD_of_get l i _ _ (List.getElem?_eq_getElem hi)
  refine Ev.step (fun k=>?_) (toPairS_l0 l hl d (i+1) (y.set i ⟨l[i].f0,l[i].f1⟩) (by omega) (by simpa using hy) ?_)
  ·rw [laws_toPairS.l0,if_pos (by omega),if_pos (by omega),hx,laws_toPair.f]
   simp only [Option.bind_some]
   rw [if_pos (by omega),w1 (by omega)]
   rfl
  ·intro j hj
   rw [List.getElem?_set]
   by_cases e:i=j
   ·subst e
    have hiy:i < y.length:=by omega
    simp [conv,hi,hiy]
   ·rw [if_neg e];exact h j (by omega)
theorem toPairS_ev (l:List S86) (hl:l.length≤17592186044416):Ev (fun k=>laws_toPairS.f k l) (conv l):=by
 unfold laws_toPairS.f
 simp only [if_pos (show (0:Int)≤(l.length:Int) by omega),if_pos (show ((l.length:Int):Int).toNat≤17592186044416 by simpa using hl)]
 exact toPairS_l0 l (by omega) l.length 0 _ (by omega) (by simp) (fun j hj=>absurd hj (Nat.not_lt_zero _))
theorem toParty_ev (a:Int) (l:List S86) (hl:l.length≤17592186044416):Ev (fun k=>laws_toParty.f k a l) (a,conv l):=by
 unfold laws_toParty.f
 exact Ev.bind (toPairS_ev l hl) (Ev.now _)
theorem FnExactAllExchanges:∀ (a0:Int) (l0:List S86),(Lit.int .i64 a0).wf=true→l0.length≤maxLen→(∀ x ∈ l0,∃ m n:Int,x=⟨m,n⟩∧(Lit.int .i64 m).wf=true∧(Lit.int .i64 n).wf=true)→∃ k,laws_FnExactAllExchanges.f k a0 l0=some true:=by
 intro a0 l0 w0 hm0 hw0
 refine Ev.rounds ?_
 unfold laws_FnExactAllExchanges.f
 simp only [szParty_f a0 l0 1048576 (by omega) (by omega) hm0,Option.bind_some]
 by_cases hg0:1048576 - (l0.length:Int) < 0
 ·simp only [if_pos hg0,show ((-1:Int) < 0) from by decide,if_true];exact Ev.now _
 simp only [if_neg hg0]
 have hlen0:l0.length≤1048576:=by omega
 have hcl0:=conv_len l0
 obtain ⟨R,hs,hi,hr0⟩:=AllExchanges_common a0 (conv l0) w0 (by rw [conv_len];omega)
 obtain ⟨zk1,hzk1,_,hEk1⟩:=markParty_ev a0 (conv l0) (1:Int) (by omega) (by omega)
 obtain ⟨Z,m,hm,hEm,hEh⟩:=markPartyS_ev R.1 hr0
 refine Ev.bind (toParty_ev a0 l0 (by omega)) ?_
 refine Ev.bind hs ?_
 refine Ev.bind hi ?_
 refine Ev.bind (eqPartyS_self R.1 hr0) ?_
 refine Ev.bind (eqParty_self a0 (conv l0) (by omega)) ?_
 refine Ev.bind hEk1 ?_
 refine Ev.bind hEm ?_
 refine Ev.bind hEh ?_
 have h1:(0:Int)≤1+2 * ((conv l0).length:Int):=by omega
 simp only [h1,hm,true_and,and_self,if_true]
 exact Ev.now _
end Go.Proofs.Ytoedkkoafidalaa.Pure
