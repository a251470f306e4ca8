-- PRINTED by print.py (a twelfth state) out of the translation. Not trusted: Lean checks it.
import Derived.Test.YtifkaefccghgdaaDoorPx0
import Derived.Test.YtifkaefccghgdaaDoorPx2
namespace Go.Proofs.YtifkaefccghgdaaDoor.P
open Go.RowKit Go.Proofs.YtifkaefccghgdaaDoorW.PrintWords Go.Proofs.YtifkaefccghgdaaDoorW.PrintLast Go.Proofs.YtifkaefccghgdaaDoorW.PrintMore
attribute [local go_sem] max2_int min2_int max_two min_two max_three min_three max_four min_four   -- for this text's walks alone
set_option linter.unusedVariables false
set_option linter.unusedSimpArgs false

/-! ### spec_grJoins: function 85 -/
def spec_grJoins.l0:Nat→List (List Bool)→Int→List Int→Int→Int→Option (Bool)
 | 0,_,_,_,_,_=>none
 | k+1,x0,x2,x9,x10,x11=>if x11 < x10 then (if 0≤x11 then (if x11 < (x9.length:Int) then (if 0≤x2 then (if x2 < (x0.length:Int) then (if 0≤(rd x9 x11) then (if (rd x9 x11) < ((rd_L4 x0 x2).length:Int) then (if (rdOf false (rd_L4 x0 x2) (rd x9 x11)=true) then (spec_grJoins.l0 k x0 x2 x9 x10 (wrap64 (x11+1))) else (some false)) else (none)) else (none)) else (none)) else (none)) else (none)) else (none)) else (some true)
def spec_grJoins.f (k:Nat) (l0:List (List Bool)) (l1:List Int) (a2:Int):Option (Bool):=spec_grJoins.l0 k l0 a2 l1 (l1.length:Int) 0
theorem spec_grJoins.mono_l:∀ k,(∀ y0 y1 y2 y3 y4,LeO (spec_grJoins.l0 k y0 y1 y2 y3 y4) (spec_grJoins.l0 (k+1) y0 y1 y2 y3 y4))
 | 0=>fun _ _ _ _ _ r h=>by simp [spec_grJoins.l0] at h
 | k+1=>by
  have ih0:=spec_grJoins.mono_l k
  ·intro y0 y1 y2 y3 y4
   unfold spec_grJoins.l0
   repeat' first
   | (with_reducible exact ih0 _ _ _ _ _)
   | (with_reducible exact LeO.refl _)
   | (with_reducible exact LeO.none _)
   | (with_reducible refine LeO.ite ?_ ?_)
   | (with_reducible refine LeO.bind ?_ (fun _=>?_))
   | exact ih0 _ _ _ _ _
   | exact LeO.none _
   | refine LeO.ite ?_ ?_
   | refine LeO.bind ?_ (fun _=>?_)
theorem spec_grJoins.mono:∀ a0 a1 a2 k,LeO (spec_grJoins.f k a0 a1 a2) (spec_grJoins.f (k+1) a0 a1 a2):=by
 intro a0 a1 a2 k
 have ih0:=spec_grJoins.mono_l k
 unfold spec_grJoins.f
 repeat' first
   | (with_reducible exact ih0 _ _ _ _ _)
   | (with_reducible exact LeO.refl _)
   | (with_reducible exact LeO.none _)
   | (with_reducible refine LeO.ite ?_ ?_)
   | (with_reducible refine LeO.bind ?_ (fun _=>?_))
   | exact ih0 _ _ _ _ _
   | exact LeO.none _
   | refine LeO.ite ?_ ?_
   | refine LeO.bind ?_ (fun _=>?_)
set_option maxHeartbeats 8000000 in
set_option maxRecDepth 100000 in
theorem spec_grJoins.calls (k:Nat) (A0:Option Addr) (c0:Nat) (l0:List (List Bool)) (A1:Option Addr) (c1:Nat) (l1:List Int) (a2:Int) (r:Bool) (w:World) (hr0:Kd.C (Kd.slice 4 Kd.bool) w A0 l0.length l0) (hc0:l0.length≤c0) (hr1:Kd.C (Kd.int .i64) w A1 l1.length l1) (hc1:l1.length≤c1) (h:spec_grJoins.f k l0 l1 a2=some r) :
  Calls Tryd.prog 85 #[.slice A0 l0.length c0,.slice A1 l1.length c1,.int .i64 a2] w fun e w'=>e=.returned (.bool r)∧Drawn0 w w':=by
 have HR0:=zz31 hr0
 have HC0:=zz31 hc0
 clear hr0 hc0
 have HR1:=zz31 hr1
 have HC1:=zz31 hc1
 clear hr1 hc1
 have H:(spec_grJoins.l0 k l0 a2 l1 (l1.length:Int) 0)=some r:=h
 clear h
 have H':=zz31 H
 clear H
 go_enter Tryd.func85,Tryd.ntmps85
 go_wp2
 go_loopg [11] k (fun kq v11 w'=>∃ (x11_1:Int),v11=.int .i64 x11_1∧Aside0 (spec_grJoins.l0 kq l0 a2 l1 (l1.length:Int) x11_1=some r)∧Aside0 (kq≤k)∧Drawn0 w w')
 case atStart=>exact ⟨(0),(by first | rfl | (simp;done) | (simp [*];done)),H',⟨Nat.le_refl _⟩,by repeat (first | exact Drawn0.refl _ | apply Drawn0.step)⟩
 case round =>
  clear H'
  try clear c1
  try clear p2
  obtain ⟨x11_1,rfl,HA,HK1,⟨m1,rfl⟩⟩:=hrel
  cases gk with
  | zero=>exact absurd HA.out (by simp [spec_grJoins.l0])
  | succ k1 =>
   have H:=HA.out
   clear HA
   simp only [spec_grJoins.l0] at H
   by_cases c4:x11_1 < (l1.length:Int)
   ·rw [if_pos c4] at H
    have c4b0:decide (x11_1 < (l1.length:Int))=true:=decide_eq_true c4
    clear c4
    by_cases c5:0≤x11_1
    ·rw [if_pos c5] at H
     have c5b0:decide (0≤x11_1)=true:=decide_eq_true c5
     clear c5
     by_cases c6:x11_1 < (l1.length:Int)
     ·rw [if_pos c6] at H
      have c6b0:decide (x11_1 < (l1.length:Int))=true:=decide_eq_true c6
      clear c6
      by_cases c7:0≤a2
      ·rw [if_pos c7] at H
       have c7b0:decide (0≤a2)=true:=decide_eq_true c7
       clear c7
       by_cases c8:a2 < (l0.length:Int)
       ·rw [if_pos c8] at H
        have c8b0:decide (a2 < (l0.length:Int))=true:=decide_eq_true c8
        clear c8
        by_cases c9:0≤(rd l1 x11_1)
        ·rw [if_pos c9] at H
         have c9b0:decide (0≤(rd l1 x11_1))=true:=decide_eq_true c9
         clear c9
         by_cases c10:(rd l1 x11_1) < ((rd_L4 l0 a2).length:Int)
         ·rw [if_pos c10] at H
          have c10b0:decide ((rd l1 x11_1) < ((rd_L4 l0 a2).length:Int))=true:=decide_eq_true c10
          clear c10
          obtain ⟨bq11,hbq11⟩:∃ b_:Bool,b_=(rdOf false (rd_L4 l0 a2) (rd l1 x11_1)):=⟨_,rfl⟩
          replace H:(if (bq11=true) then (spec_grJoins.l0 k1 l0 a2 l1 (l1.length:Int) (wrap64 (x11_1+1))) else (some false))=some r:=by rw [← hbq11] at H;exact H
          have Nbq11:=zz31 hbq11
          clear hbq11
          by_cases c12:(bq11=true)
          ·subst c12
           have H1:(spec_grJoins.l0 k1 l0 a2 l1 (l1.length:Int) (wrap64 (x11_1+1)))=some r:=by rw [if_pos rfl] at H;exact H
           clear H
           have H:=H1
           clear H1
           have H':=zz31 H
           clear H
           have p250:0≤(x11_1:Int):=zz29 (by first | (with_reducible assumption) | assumption)
           have q250:x11_1 < (l1.length:Int):=zz29 (by first | (with_reducible assumption) | assumption)
           obtain ⟨ad250,e250,hx250_0⟩:=Kd.at_int HR1.out x11_1 p250 q250
           cases e250
           replace p250:=eq_true p250
           replace q250:=eq_true q250
           have p251:0≤(a2:Int):=zz29 (by first | (with_reducible assumption) | assumption)
           have q251:a2 < (l0.length:Int):=zz29 (by first | (with_reducible assumption) | assumption)
           obtain ⟨ad251,A251_0,c251_0,e251,hx251_0,hl251_0,hi251_0⟩:=at_L4 HR0.out a2 p251 q251
           cases e251
           have HR251_0:=zz31 hi251_0
           have HC251_0:=zz31 hl251_0
           clear hi251_0 hl251_0
           replace p251:=eq_true p251
           replace q251:=eq_true q251
           have p252:0≤((rd l1 x11_1):Int):=zz29 (by first | (with_reducible assumption) | assumption)
           have q252:(rd l1 x11_1) < ((rd_L4 l0 a2).length:Int):=zz29 (by first | (with_reducible assumption) | assumption)
           obtain ⟨ad252,e252,hx252_0⟩:=Kd.at_bool HR251_0.out (rd l1 x11_1) p252 q252
           (try rw [← Nbq11.out] at hx252_0)
           cases e252
           replace p252:=eq_true p252
           replace q252:=eq_true q252
           go_wp2
           go_roundg k1
           case measure=>have:=HK1.out;omega
           case rel=>exact ⟨(wrap64 (x11_1+1)),(by first | rfl | (simp;done) | (simp [*];done)),H',⟨by have:=HK1.out;omega⟩,by repeat (first | exact Drawn0.refl _ | apply Drawn0.step)⟩
          ·replace c12:=Bool.eq_false_iff.mpr c12
           subst c12
           have H1:(some false)=some r:=by rw [if_neg (show ¬ (false=true) by decide)] at H;exact H
           clear H
           have H:=H1
           clear H1
           obtain rfl:=Option.some.inj H
           have p250:0≤(x11_1:Int):=zz29 (by first | (with_reducible assumption) | assumption)
           have q250:x11_1 < (l1.length:Int):=zz29 (by first | (with_reducible assumption) | assumption)
           obtain ⟨ad250,e250,hx250_0⟩:=Kd.at_int HR1.out x11_1 p250 q250
           cases e250
           replace p250:=eq_true p250
           replace q250:=eq_true q250
           have p251:0≤(a2:Int):=zz29 (by first | (with_reducible assumption) | assumption)
           have q251:a2 < (l0.length:Int):=zz29 (by first | (with_reducible assumption) | assumption)
           obtain ⟨ad251,A251_0,c251_0,e251,hx251_0,hl251_0,hi251_0⟩:=at_L4 HR0.out a2 p251 q251
           cases e251
           have HR251_0:=zz31 hi251_0
           have HC251_0:=zz31 hl251_0
           clear hi251_0 hl251_0
           replace p251:=eq_true p251
           replace q251:=eq_true q251
           have p252:0≤((rd l1 x11_1):Int):=zz29 (by first | (with_reducible assumption) | assumption)
           have q252:(rd l1 x11_1) < ((rd_L4 l0 a2).length:Int):=zz29 (by first | (with_reducible assumption) | assumption)
           obtain ⟨ad252,e252,hx252_0⟩:=Kd.at_bool HR251_0.out (rd l1 x11_1) p252 q252
           (try rw [← Nbq11.out] at hx252_0)
           cases e252
           replace p252:=eq_true p252
           replace q252:=eq_true q252
           go_wp2
           go_ret
           exact ⟨by first | rfl | (simp;done) | (simp [*];done),by repeat (first | exact Drawn0.refl _ | apply Drawn0.step)⟩
         ·rw [if_neg c10] at H
          exact absurd H (by simp)
        ·rw [if_neg c9] at H
         exact absurd H (by simp)
       ·rw [if_neg c8] at H
        exact absurd H (by simp)
      ·rw [if_neg c7] at H
       exact absurd H (by simp)
     ·rw [if_neg c6] at H
      exact absurd H (by simp)
    ·rw [if_neg c5] at H
     exact absurd H (by simp)
   ·rw [if_neg c4] at H
    have c4b0:decide (x11_1 < (l1.length:Int))=false:=decide_eq_false c4
    clear c4
    obtain rfl:=Option.some.inj H
    go_wp2
    go_ret
    exact ⟨by first | rfl | (simp;done) | (simp [*];done),by repeat (first | exact Drawn0.refl _ | apply Drawn0.step)⟩

-- NOT PRINTED: function 70 (spec_grLook)

/-! ### spec_grGroups: function 43 (a contract of our own) -/
def jn (l0:List (List Bool)) (cs:List Int) (a:Nat):Bool:=(spec_grJoins.f 60 l0 cs (a:Int)) == some true
def glk (l0:List (List Bool)):Nat→List Int→Nat→List (List Int)
 | 0,_,_=>[]
 | e+1,cs,a=>(if jn l0 cs a then (cs ++ [(a:Int)]) :: glk l0 e (cs ++ [(a:Int)]) (a+1) else []) ++ glk l0 e cs (a+1)
def glB (l0:List (List Bool)):Nat→List Int→Nat→Bool
 | 0,_,_=>true
 | e+1,cs,a=>(spec_grJoins.f 60 l0 cs (a:Int)).isSome && ((!jn l0 cs a || glB l0 e (cs ++ [(a:Int)]) (a+1)) && glB l0 e cs (a+1))
theorem glk_len (l0:List (List Bool)):∀ (e:Nat) (cs:List Int) (a:Nat),(glk l0 e cs a).length+1≤2 ^ e
 | 0,cs,a=>by simp [glk]
 | e+1,cs,a=>by
  have h1:=glk_len l0 e (cs ++ [(a:Int)]) (a+1)
  have h2:=glk_len l0 e cs (a+1)
  rw [glk,List.length_append,Nat.pow_succ]
  split
  ·rw [List.length_cons];omega
  ·simp only [List.length_nil];omega
abbrev ownV (bo:Nat) (v:Value):Nat→Prop:=fun i=>i=bo ∨ some i=v.ownBlock
abbrev KdS:Kd (List Int):=Kd.slice 3 (Kd.int .i64)
theorem infoRows:(Tryd.prog.info? 34).map (fun i=>(i.zero,i.size,i.bytes))=some (some (.slice none 0 0),1,24):=by kernel_rfl
section
open Kd
variable {P : Program} {ops : Array Oper} {o : Oper} {a : Act} {Q : Exit → Act → World → Prop} {Kc : Act → World → Prop} {α : Type}
theorem S_append_step (d:Kd α) {w0 W:World} (base:Nat) (hw:Region.wanted o (yielded ops a.tmps)=true) (s x:Operand) (t e:TypeId) (z:Value) (bytes:Nat)
  (ho:o.op=.call { callee:=.builtin .append,args:=#[s,x],argTypes:=#[t,t] })
  (ht:P.underlying t=some (.slice e)) (hinfo:(P.info? e).map (fun i=>(i.zero,i.size,i.bytes))=some (some z,d.sz,bytes)) (hz:z.cells.size=d.sz) (hs0:0 < d.sz) (hb0:0 < bytes)
  (v:Value) (xs:List α) (p:α) (cs:List Value) (ok okp:Nat→Prop) (hs:a.eval s=v) (hx:a.eval x=.slice (some ⟨W.heap.size,0,none⟩) 1 1) (hp:d.M W base okp p cs) (hokp:∀ k,okp k→ok k∧some k ≠ v.ownBlock) (hfresh:∀ k,W.heap.size≤k→ok k)
  (HO:Kd.S d e W base (fun k=>ok k∧¬ okp k) v xs) (HB:Below base w0 W) (hbase:base≤W.heap.size) (hl:(xs.length+1) * bytes≤140737488355328)
  (h:∀ v1 w1,Kd.S d e w1 base ok v1 (xs ++ [p])→Below base w0 w1→W.grownBy w1 v.ownBlock→(v1.ownBlock=v.ownBlock ∨ ∃ b,v1.ownBlock=some b∧W.heap.size≤b)→Kc (a.put o.dst v1) w1) :
  if Region.wanted o (yielded ops a.tmps)=true then Oper.wp P o a (W.alloc (.cells cs.toArray e)) Kc Q else Kc (a.put o.dst undef) (W.alloc (.cells cs.toArray e)):=by
 obtain ⟨f,hf,hR⟩:=S_tag HO xs.length okp (fun _ hk h2=>h2.2 hk)
 refine R_append_step (tag f d) base hw s x t e z bytes ho ht hinfo hz hs0 hb0 v xs.zipIdx (p,xs.length) cs ok okp hs hx (d.M_mono (fun k hk=>⟨hk,hf k hk⟩) hp) hokp hfresh (R_mono hR (fun _ hk=>hk.1)) HB hbase (by rw [List.length_zipIdx];exact hl) ?_
 intro v1 w1 hr
 rw [← zip_snoc] at hr
 exact h v1 w1 ⟨f,hr⟩
end
theorem fr_put {bo:Nat} {v v1:Value} {W w3 w1:World} (hB:Below W.heap.size W w3) (hg:w3.grownBy w1 v.ownBlock) (hat:v1.ownBlock=v.ownBlock ∨ ∃ b,v1.ownBlock=some b∧w3.heap.size≤b) (hlt:bo < w3.heap.size):Fr (ownV bo v) (ownV bo v1) W (w1.setCell ⟨bo,0,none⟩ v1) :=
 ⟨hg.os.trans hB.os,hg.tape.trans hB.tape,hg.output.trans hB.output,Nat.le_trans hB.size (Nat.le_trans hg.size (by simp [World.setCell])),fun i hi hn=>by
  rw [Below.heap_setCell _ _ _ i (fun he=>hn (.inl he)),hg.block i (Nat.lt_of_lt_of_le hi hB.size) (fun he=>hn (.inr he)),hB.block i hi],fun i hi=>hi.elim (fun h=>.inl (.inl h)) (fun h=>by
  rcases hat with h1 | ⟨b,h1,h2⟩
  ·exact .inl (.inr (h.trans h1))
  ·rw [h1] at h
   injection h with h
   exact .inr (by have:=hB.size;omega))⟩
set_option maxHeartbeats 4000000 in
set_option maxRecDepth 100000 in
theorem look_calls (l0:List (List Bool)) (h12:l0.length≤12) (A0:Option Addr) (c0:Nat) (hc0:l0.length≤c0) (w:World) (hr0:Kd.C (Kd.slice 4 Kd.bool) w A0 l0.length l0) (bo:Nat) (hbo:w.heap.size≤bo) :
  ∀ (e a:Nat) (cs:List Int) (acc:List (List Int)) (v:Value) (W:World) (A:Option Addr) (c:Nat),a+e=l0.length→glB l0 e cs a=true→cs.length+e≤40→acc.length+2 ^ e≤100000 →
   Below w.heap.size w W→W.heap[bo]?=some (.cells #[v] 47 (0,0))→Kd.S KdS 34 W w.heap.size (fun k=>k ≠ bo) v acc→Kd.R (Kd.int .i64) 3 W w.heap.size (fun k=>¬ ownV bo v k) (.slice A cs.length c) cs →
   Calls Tryd.prog 70 #[.slice A0 l0.length c0,.slice A cs.length c,.int .i64 (a:Int),.pointer (some ⟨bo,0,none⟩)] W fun e' W' =>
    e'=.returned (.tuple #[])∧∃ v',W'.heap[bo]?=some (.cells #[v'] 47 (0,0))∧Kd.S KdS 34 W' w.heap.size (fun k=>k ≠ bo) v' (acc ++ cs :: glk l0 e cs a)∧Fr (ownV bo v) (ownV bo v') W W':=by
 intro e
 induction e using Nat.strongRecOn with
 | _ e ih =>
  intro a cs acc v W A c ha hgb hlen hacc hB hbox hR hC
  have IH:=zz31 ih
  have HB:=zz31 hB
  have HX:=zz31 hbox
  have HR:=zz31 hR
  have HC:=zz31 hC
  have HM:=zz31 hr0
  have f1:=zz9 hbox 0
  have f2:=zz10 hbox 0
  simp only [List.getElem?_toArray,List.getElem?_cons_zero] at f1
  have HCs:=zz31 (Kd.R_reads' HC.out).2.2
  have HCc:=zz31 (Kd.R_reads' HC.out).2.1
  have HOwn:=zz31 (show spec_l1Own.f cs=some cs from by
   unfold spec_l1Own.f
   simp only [Option.bind_some,List.length_nil,Nat.zero_add,if_pos (show cs.length < 17592186044416 by omega),List.nil_append])
  have HNO:=zz31 (show ∀ k,v.ownBlock=some k→k ≠ bo from fun k hk=>(Kd.S_R HR.out).1 k hk)
  have HP:=zz31 (show ∀ k,W.heap.size≤k→k ≠ bo∧some k ≠ v.ownBlock from fun k hk=>⟨fun he=>by have:=blk_lt HX.out;omega,fun he=>by have:=Kd.R_lt (Kd.S_R HR.out) k he.symm;omega⟩)
  have HLL:=zz31 (show (acc.length+1) * 24≤140737488355328 from by have:=Nat.one_le_two_pow (n:=e);omega)
  obtain ⟨L1,hL1⟩:∃ L1,L1=acc ++ [cs]:=⟨_,rfl⟩
  have HLE:=zz31 hL1
  clear ih hB hbox hR hC hr0 hL1
  go_enter Tryd.func70,Tryd.ntmps70
  go_wp2
  go_region_law (first | (rw [if_pos (by rfl)]; go_simp; go_at_call 62; refine (spec_l1Own.calls A c cs cs _ ?_ HCc.out HOwn.out).mono ?_; (repeat (first | exact HCs.out | (with_reducible refine zz18 ?_ _) | (with_reducible refine zz19 ?_ _) | (with_reducible refine zz20 ?_))); rintro e' w3 ⟨v3, rfl, ho, hb⟩; obtain ⟨A3, c3, rfl⟩ := Kd.R_slice ho; have HB3 := zz31 (zz4 (w := W) (by repeat (first | exact Below.refl _ _ | apply zz0 | apply below_drew | apply zz2)) hb); have HO3 := zz31 ho; clear ho hb; have HX3 := zz31 (zz11 HX.out HB3.out); have f13 := zz9 HX3.out 0; have f14 := zz9 (zz8 HX3.out (.cells #[.slice A3 cs.length c3] 34)) 0; simp only [List.getElem?_toArray, List.getElem?_cons_zero] at f13 f14; have HR3 := zz31 (Kd.S_below (Kd.S_mono (ok' := fun k => k ≠ bo ∧ ¬ W.heap.size ≤ k) (Kd.S_bound HR.out) (fun k hk => ⟨hk.1, Nat.not_le.2 hk.2.2.1⟩)) HB3.out); have HB3w := zz31 (HB.out.trans (HB3.out.mono HB.out.size)); have HM3 := zz31 (Kd.M_row (Kd.R_lower (Kd.R_mono (ok' := fun k => W.heap.size ≤ k) (Kd.R_bound HO3.out) (fun k hk => hk.2.1)) HB.out.size)); have HF3 := zz31 (fun k (hk : w3.heap.size ≤ k) => Nat.ne_of_gt (Nat.lt_of_lt_of_le (blk_lt HX3.out) hk))) | (refine S_append_step KdS (w0 := w) (W := w3) w.heap.size ?_ (.tmp 12) (.tmp 15) 47 34 (.slice none 0 0) 24 ?_ Tryd.underlying47 infoRows rfl (by decide) (by omega) v acc cs [.slice A3 cs.length c3] (fun k => k ≠ bo) (fun k => W.heap.size ≤ k) ?_ ?_ ?_ HP.out HF3.out ?_ ?_ ?_ HLL.out ?_; rfl; rfl; rfl; rfl; exact HM3.out; exact HR3.out; exact HB3w.out; exact HB3w.out.size; intro v1 w1 hR1 hB1 hg1 hat1; rw [← HLE.out] at hR1; obtain ⟨A1, c1, rfl⟩ := Kd.S_slice hR1; have HX1 : Aside0 (w1.heap[bo]? = some (.cells #[v] 47 (0, 0))) := ⟨(hg1.block bo (blk_lt HX3.out) (fun he => HNO.out _ he.symm rfl)).trans HX3.out⟩; have g1 := zz9 HX1.out 0; have g2 := zz10 HX1.out 0; simp only [List.getElem?_toArray, List.getElem?_cons_zero] at g1; have HR1 := zz31 hR1; have HB1 := zz31 hB1; have HG1 := zz31 hg1; have HA1 := zz31 hat1; clear hR1 hB1 hg1 hat1) | (fail "no arm"))
  all_goals
   have HF2:=zz31 (fr_put HB3.out HG1.out HA1.out (blk_lt HX3.out) (bo:=bo))
   have HX2:Aside0 ((w1.setCell ⟨bo,0,none⟩ (.slice A1 L1.length c1)).heap[bo]?=some (.cells #[.slice A1 L1.length c1] 47 (0,0))):=⟨blk_set HX1.out 0 _⟩
   have HR2:=zz31 (Kd.S_far HR1.out (fun k hk he=>hk he) (.slice A1 L1.length c1) (p:=⟨bo,0,none⟩))
   clear g1 g2 f1 f2 f13 f14
   go_wp2
   go_loopg [8] (l0.length - a) (fun gg v8 wr=>∃ (j:Nat) (vr:Value) (pre:List (List Int)),a≤j∧j≤l0.length∧l0.length - j≤gg∧v8=.int .i64 j∧Aside0 (pre ++ glk l0 (l0.length - j) cs j=glk l0 e cs a)∧Aside0 (glB l0 (l0.length - j) cs j=true)∧Aside0 (pre.length+2 ^ (l0.length - j)≤2 ^ e)∧Aside0 (wr.heap[bo]?=some (.cells #[vr] 47 (0,0)))∧Aside0 (Kd.S KdS 34 wr w.heap.size (fun k=>k ≠ bo) vr (acc ++ cs :: pre))∧Aside0 (Fr (ownV bo v) (ownV bo vr) W wr))
   case atStart =>
    have e1:l0.length - a=e:=by omega
    exact ⟨a,_,[],Nat.le_refl _,by omega,by omega,by rfl,⟨by rw [e1];rfl⟩,⟨by rw [e1];exact hgb⟩,⟨by rw [e1];simp⟩,⟨by (with_reducible repeat (first | refine zz6 ?_ _ | refine zz7 ?_));exact HX2.out⟩,⟨by rw [← HLE.out];(with_reducible repeat (first | apply zz16 | apply zz17));exact HR2.out⟩,⟨HF2.out.trans (Fr.of_below _ (by repeat first | exact Below.refl _ _ | apply zz0 | apply below_drew))⟩⟩
   case round =>
    obtain ⟨j,vr,pre,haj,hjl,hgg,rfl,HG,HGB,HPL,HXr,HRr,HFr⟩:=hrel
    have hBr:Below w.heap.size w wr:=HB.out.trans (HFr.out.below HB.out.size (fun i hi=>hi.elim (fun h=>by omega) (fun h=>Kd.R_base (Kd.S_R HR.out) i h.symm)))
    have HBr:=zz31 hBr
    clear hBr
    by_cases hlt:j < l0.length
    ·have hltz:(j:Int) < (l0.length:Int):=by omega
     obtain ⟨e2,he2⟩:∃ e2,l0.length - j=e2+1:=⟨l0.length - j - 1,by omega⟩
     have he3:l0.length - (j+1)=e2:=by omega
     have hgb2:=HGB.out
     rw [he2,glB] at hgb2
     simp only [Bool.and_eq_true] at hgb2
     obtain ⟨hsome,hrec,hrest⟩:=hgb2
     obtain ⟨jb,hjb⟩:=Option.isSome_iff_exists.1 hsome
     have hjn:jn l0 cs j=jb:=by unfold jn;rw [hjb];cases jb <;> rfl
     rw [hjn] at hrec
     have hglk:=HG.out
     rw [he2,glk,hjn] at hglk
     have hpl:=HPL.out
     rw [he2,Nat.pow_succ] at hpl
     have hgl:=glk_len l0 e2 (cs ++ [(j:Int)]) (j+1)
     have HJ:=zz31 hjb
     have HK:=zz31 hglk
     have HREC:=zz31 hrec
     have HREST:=zz31 hrest
     have HPL2:=zz31 hpl
     have HGL:=zz31 hgl
     have HCr:=zz31 (HFr.out.R HC.out (fun _ h=>h))
     have HCsr:=zz31 (Kd.R_reads' HCr.out).2.2
     have HMr:=zz31 (Kd.C_below HM.out HBr.out)
     have HL1:=zz31 (show (cs ++ [(j:Int)]).length=cs.length+1 from by rw [List.length_append,List.length_singleton])
     have HLc:=zz31 (show (cs.length+1) * 8≤140737488355328 from by omega)
     clear hsome hrec hrest hjb hjn hglk hpl hgl
     cases jb with
     | false =>
      go_wp2_with (first | (go_at_call 85; refine (spec_grJoins.calls 60 A0 c0 l0 A c cs (j : Int) false _ ?_ hc0 ?_ HCc.out HJ.out).mono ?_; (repeat (first | exact HMr.out | (with_reducible refine zz19 ?_ _) | (with_reducible refine zz20 ?_))); (repeat (first | exact HCsr.out | (with_reducible refine zz19 ?_ _) | (with_reducible refine zz20 ?_))); rintro e' w4 ⟨rfl, hd⟩; obtain ⟨q, hq⟩ := hd.out; subst hq) | (fail "no arm"))
      go_roundg (l0.length - (j+1))
      case measure=>omega
      case rel=>exact ⟨j+1,vr,pre,by omega,by omega,by omega,by go_num,⟨by rw [he3];simpa using HK.out⟩,⟨by rw [he3];exact HREST.out⟩,⟨by rw [he3];have:=HPL2.out;omega⟩,⟨by (with_reducible repeat (first | refine zz6 ?_ _ | refine zz7 ?_));exact HXr.out⟩,⟨by (with_reducible repeat (first | apply zz16 | apply zz17));exact HRr.out⟩,⟨HFr.out.trans (Fr.of_below _ (by repeat first | exact Below.refl _ _ | apply zz0 | apply below_drew))⟩⟩
     | true =>
      have HXl:=zz31 (blk_lt HXr.out)
      have HE2:=zz31 (show e2 < e from by omega)
      have HJE:=zz31 (show j+1+e2=l0.length from by omega)
      have HREC2:=zz31 (show glB l0 e2 (cs ++ [(j:Int)]) (j+1)=true from by simpa using HREC.out)
      have HQL:=zz31 (show (cs ++ [(j:Int)]).length+e2≤40 from by rw [List.length_append,List.length_singleton];omega)
      have HQB:=zz31 (show (acc ++ cs :: pre).length+2 ^ e2≤100000 from by rw [List.length_append,List.length_cons];have h1:=HPL2.out;have h2:=Nat.one_le_two_pow (n:=e2);omega)
      have HVL:=zz31 (show ∀ k,wr.heap.size≤k→¬ ownV bo vr k from fun k hk h=>h.elim (fun h=>by have:=HXl.out;omega) (fun h=>by have:=Kd.R_lt (Kd.S_R HRr.out) k h.symm;omega))
      go_wp2_with (first | (go_at_call 85; refine (spec_grJoins.calls 60 A0 c0 l0 A c cs (j : Int) true _ ?_ hc0 ?_ HCc.out HJ.out).mono ?_; (repeat (first | exact HMr.out | (with_reducible refine zz19 ?_ _) | (with_reducible refine zz20 ?_))); (repeat (first | exact HCsr.out | (with_reducible refine zz19 ?_ _) | (with_reducible refine zz20 ?_))); rintro e' w4 ⟨rfl, hd⟩; obtain ⟨q, hq⟩ := hd.out; subst hq) | (go_at_call 62; refine (spec_l1Own.calls A c cs cs _ ?_ HCc.out HOwn.out).mono ?_; (repeat (first | exact HCsr.out | (with_reducible refine zz19 ?_ _) | (with_reducible refine zz20 ?_))); rintro e' w5 ⟨v5, rfl, ho, hb⟩; have HB5 := zz31 (zz4 (w := wr) (by repeat (first | exact Below.refl _ _ | apply zz0 | apply below_drew)) hb); have HO5 := zz31 (Kd.R_mono (ok' := fun k => wr.heap.size ≤ k) (Kd.R_bound ho) (fun k hk => hk.2.1)); clear ho hb) | (at_builtin; refine Kd.R_append (Kd.int .i64) (w0 := wr) wr.heap.size rfl (.tmp 31) (.tmp 33) 34 3 (.int .i64 0) 8 rfl Tryd.underlying34 info3 rfl (by decide) (by omega) v5 cs (j : Int) [.int .i64 (j : Int)] (fun k => wr.heap.size ≤ k) (fun _ => False) rfl rfl ?_ (fun _ hk => hk.elim) ?_ ?_ ?_ ?_ HLc.out ?_; exact rfl; exact (fun k hk => Nat.le_trans HB5.out.size hk); exact HO5.out; exact HB5.out; exact HB5.out.size; intro v6 w6 ho hb hg hat; obtain ⟨A6, c6, rfl⟩ := Kd.R_slice ho; have HO6 := zz31 ho; have HB6 := zz31 hb; clear ho hb hg hat) | (go_at_call 70; rw [← HL1.out, show ((j : Int) + 1) = ((j + 1 : Nat) : Int) from rfl]; refine (IH.out e2 HE2.out (j + 1) (cs ++ [(j : Int)]) (acc ++ cs :: pre) vr w6 A6 c6 HJE.out HREC2.out HQL.out HQB.out (HBr.out.trans (HB6.out.mono HBr.out.size)) (zz11 HXr.out HB6.out) (Kd.S_below HRr.out HB6.out) (Kd.R_mono (Kd.R_lower HO6.out HBr.out.size) (fun k hk => HVL.out k hk))).mono ?_; rintro e' w7 ⟨rfl, v7, hx7, hr7, hf7⟩; have HX7 := zz31 hx7; have HR7 := zz31 hr7; have HF7 := zz31 ((Fr.of_below (ownV bo vr) HB6.out).trans hf7); clear hx7 hr7 hf7) | (fail "no arm"))
      all_goals
       go_wp2
       go_roundg (l0.length - (j+1))
       case measure=>omega
       case rel=>exact ⟨j+1,v7,pre ++ (cs ++ [(j:Int)]) :: glk l0 e2 (cs ++ [(j:Int)]) (j+1),by omega,by omega,by omega,by go_num,⟨by rw [he3,← HK.out];simp⟩,⟨by rw [he3];exact HREST.out⟩,⟨by rw [he3,List.length_append,List.length_cons];have h1:=HPL2.out;have h2:=HGL.out;omega⟩,⟨by (with_reducible repeat (first | refine zz6 ?_ _ | refine zz7 ?_));exact HX7.out⟩,⟨by rw [← List.cons_append,← List.append_assoc];(with_reducible repeat (first | apply zz16 | apply zz17));exact HR7.out⟩,⟨HFr.out.trans (HF7.out.trans (Fr.of_below _ (by repeat first | exact Below.refl _ _ | apply zz0 | apply below_drew)))⟩⟩
    ·have hltz:¬ (j:Int) < (l0.length:Int):=by omega
     obtain rfl:j=l0.length:=by omega
     go_wp2
     have h1:=HG.out
     rw [Nat.sub_self] at h1
     have h2:pre=glk l0 e cs a:=by simpa [glk] using h1
     exact bodyPost_end (results_none rfl _ _ _) rfl ⟨rfl,vr,HXr.out,by rw [← h2];exact HRr.out,HFr.out⟩
def spec_grGroups.f (l0:List (List Bool)):Option (List (List Int)):=if l0.length≤12∧glB l0 l0.length [] 0=true then some ([] :: glk l0 l0.length [] 0) else none
set_option maxHeartbeats 1000000 in
set_option maxRecDepth 100000 in
theorem spec_grGroups.calls (A0:Option Addr) (c0:Nat) (l0:List (List Bool)) (r:List (List Int)) (w:World) (hr0:Kd.C (Kd.slice 4 Kd.bool) w A0 l0.length l0) (hc0:l0.length≤c0) (h:spec_grGroups.f l0=some r) :
  Calls Tryd.prog 43 #[.slice A0 l0.length c0] w fun e w'=>∃ v0_:Value,e=.returned v0_∧Kd.S (Kd.slice 3 (Kd.int .i64)) 34 w' w.heap.size (fun _=>True) v0_ r∧Below w.heap.size w w':=by
 unfold spec_grGroups.f at h
 by_cases hl:l0.length≤12∧glB l0 l0.length [] 0=true
 case neg=>rw [if_neg hl] at h;exact absurd h (by simp)
 rw [if_pos hl] at h
 injection h with h
 have HW:=zz31 (look_calls l0 hl.1 A0 c0 hc0 w hr0 w.heap.size (Nat.le_refl _) l0.length 0 [] [] (.slice none 0 0) (w.alloc (.cells #[.slice none 0 0] 47)) none 0 (by omega) hl.2 (by simp;omega) (by
  have:2 ^ l0.length≤2 ^ 12:=Nat.pow_le_pow_right (by decide) hl.1
  simp only [List.length_nil];omega) (zz2 (Below.refl _ _) _) (blk_new w _) (Kd.S_nil _ _ _ _ _) (Kd.R_nil _ _ _ _ _))
 have HH:=zz31 h
 clear hr0 hc0 hl h
 go_enter Tryd.func43,Tryd.ntmps43
 go_wp2_with (first | (go_at_call 70; refine HW.out.mono ?_; rintro e w' ⟨rfl, v, hx, hr, hf⟩; have HX := zz31 hx; have f1 := zz9 HX.out 0; simp only [List.getElem?_toArray, List.getElem?_cons_zero] at f1; have HR := zz31 hr; have HB := zz31 ((zz2 (Below.refl w.heap.size w) (.cells #[.slice none 0 0] 47)).trans (hf.below (zz2 (Below.refl w.heap.size w) _).size (fun i hi => hi.elim (fun h => by omega) (fun h => by simp [Value.ownBlock] at h)))); clear hx hr hf) | (fail "no arm"))
 refine bodyPost_ret (results_tmp rfl _ _ _) rfl ?_
 refine ⟨v,rfl,?_,by repeat first | exact HB.out | apply zz0 | apply below_drew⟩
 rw [← HH.out]
 have h2:=Kd.S_mono (ok':=fun _=>True) HR.out (fun _ _=>trivial)
 (with_reducible repeat (first | apply zz16 | apply zz17))
 simpa using h2

end Go.Proofs.YtifkaefccghgdaaDoor.P
