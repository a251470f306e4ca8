-- PRINTED by print.py (a twelfth state) out of the translation. Not trusted: Lean checks it.
import Derived.Test.YtialimbdkokdcaaPx0
import Derived.Test.YtialimbdkokdcaaPx3
namespace Go.Proofs.Ytialimbdkokdcaa.P
open Go.RowKit Go.Proofs.YtialimbdkokdcaaW.PrintWords Go.Proofs.YtialimbdkokdcaaW.PrintLast Go.Proofs.YtialimbdkokdcaaW.PrintMore
attribute [local go_sem] max2_int min2_int max_two min_two max_three min_three max_four min_four   -- for this text's walks alone
set_option linter.unusedVariables false
set_option linter.unusedSimpArgs false

/-! ### impl_threes: function 47 (lemmas of our own) -/
def tC (h:Nat→Nat→Bool) (a b c:Nat):List (List Int):=(List.range' (b+1) (c - (b+1))).flatMap fun c=>if h a b && h a c && h b c then [[(a:Int),(b:Int),(c:Int)]] else []
def tB (h:Nat→Nat→Bool) (n a b:Nat):List (List Int):=(List.range' (a+1) (b - (a+1))).flatMap fun b=>tC h a b n
def tA (h:Nat→Nat→Bool) (n a:Nat):List (List Int):=(List.range a).flatMap fun a=>tB h n a n
theorem range_snoc (m c:Nat) (h:m≤c):List.range' m (c+1 - m)=List.range' m (c - m) ++ [c]:=by
 rw [show c+1 - m=(c - m)+1 by omega,List.range'_concat]
 congr 2;omega
theorem tC_succ (h:Nat→Nat→Bool) (a b c:Nat) (hc:b+1≤c):tC h a b (c+1)=tC h a b c ++ (if h a b && h a c && h b c then [[(a:Int),(b:Int),(c:Int)]] else []):=by
 unfold tC;rw [range_snoc _ _ hc,List.flatMap_append];simp
theorem tB_succ (h:Nat→Nat→Bool) (n a b:Nat) (hb:a+1≤b):tB h n a (b+1)=tB h n a b ++ tC h a b n:=by
 unfold tB;rw [range_snoc _ _ hb,List.flatMap_append];simp
theorem tA_succ (h:Nat→Nat→Bool) (n a:Nat):tA h n (a+1)=tA h n a ++ tB h n a n:=by
 unfold tA;rw [List.range_succ,List.flatMap_append];simp
theorem flat_len {α β:Type} (f:α→List β) (m:Nat):∀ (l:List α),(∀ x,(f x).length≤m)→(l.flatMap f).length≤l.length * m
 | [],_=>by simp
 | x :: l,h=>by
  rw [List.flatMap_cons,List.length_append,List.length_cons,Nat.add_mul,Nat.one_mul]
  have:=flat_len f m l h
  have:=h x
  omega
theorem tC_len (h:Nat→Nat→Bool) (a b c:Nat) (hc:c≤12):(tC h a b c).length≤12:=by
 have:=flat_len (fun c=>if h a b && h a c && h b c then [[(a:Int),(b:Int),(c:Int)]] else []) 1 (List.range' (b+1) (c - (b+1))) (fun x=>by split <;> simp)
 rw [List.length_range'] at this
 unfold tC;omega
theorem tB_len (h:Nat→Nat→Bool) (n a b:Nat) (hn:n≤12) (hb:b≤12):(tB h n a b).length≤144:=by
 have:=flat_len (fun b=>tC h a b n) 12 (List.range' (a+1) (b - (a+1))) (fun x=>tC_len h a x n hn)
 rw [List.length_range'] at this
 unfold tB;omega
theorem tA_len (h:Nat→Nat→Bool) (n a:Nat) (hn:n≤12) (ha:a≤12):(tA h n a).length≤1728:=by
 have:=flat_len (fun a=>tB h n a n) 144 (List.range a) (fun x=>tB_len h n x n hn hn)
 rw [List.length_range] at this
 unfold tA;omega
theorem own_empty (w:World) (base e sz:Nat) (hb:base≤w.heap.size):(w.alloc (.cells #[] e)).ownsRow base e sz (.slice (some ⟨w.heap.size,0,none⟩) 0 0) 0 []:=by
 simpa using World.ownsRow_lit (base:=base) (e:=e) (size:=sz) w #[] 0 hb (by simp [maxLen]) (by simp)
theorem R_ints (k:IntKind) (e:Nat) (W:World) (base:Nat) (ok:Nat→Prop) (xs:List Int) (hb:base≤W.heap.size) (hok:ok W.heap.size) (hl:xs.length≤1000000):(Kd.int k).R e (W.alloc (.cells (encs (Value.int k) xs).toArray e)) base ok (.slice (some ⟨W.heap.size,0,none⟩) xs.length xs.length) xs :=
 Kd.R_of_own (enc:=Value.int k) (h1:=fun _=>rfl) (by
  have h2:=World.ownsRow_lit (base:=base) (e:=e) (size:=1) W (encs (Value.int k) xs).toArray xs.length hb (by simp only [maxLen];omega) (by simp [encs])
  simpa using h2) (fun k hk=>by
   have:W.heap.size=k:=by simpa [Value.ownBlock] using hk
   subst this;exact hok)
section
variable {P : Program} {ops : Array Oper} {o : Oper} {rest : List Oper} {a : Act} {Q : Exit → Act → World → Prop}
theorem lit_event {W:World} (k:IntKind) (e base:Nat) (xs:List Int) (hgd:o.guard=none)
  (hrun:(execOp a.eval o).run P W=.ok (.value (.slice (some ⟨W.heap.size,0,none⟩) xs.length xs.length)) (W.alloc (.cells (encs (Value.int k) xs).toArray e)))
  (hb:base≤W.heap.size) (hl:xs.length≤1000000)
  (h:∀ w1,(Kd.int k).R e w1 base (fun i=>i=W.heap.size) (.slice (some ⟨W.heap.size,0,none⟩) xs.length xs.length) xs→Below W.heap.size W w1→wpList P ops Q rest (a.put o.dst (.slice (some ⟨W.heap.size,0,none⟩) xs.length xs.length)) w1):wpList P ops Q (o :: rest) a W :=
 Kd.event_run hgd hrun (h _ (R_ints k e W base _ xs hb rfl hl) (zz2 (Below.refl _ _) _))
end
theorem size_alloc_le' (w:World) (o:Obj):w.heap.size≤(w.alloc o).heap.size:=(zz2 (Below.refl w.heap.size w) o).size
theorem infoThrees:(Try.prog.info? 40).map (fun i=>(i.zero,i.size,i.bytes))=some (some (.slice none 0 0),1,24):=by kernel_rfl
set_option maxHeartbeats 4000000 in
set_option maxRecDepth 100000 in
theorem threes_calls (h:Nat→Nat→Bool) (n:Nat) (hn:n≤12) (t:List Int) (ht:t.length=n) (At:Option Addr) (ct:Nat) (hct:t.length≤ct) (w:World) (hr0:Kd.C (Kd.int .u16) w At t.length t)
  (hh:∀ a b:Nat,a < n→b < n→impl_table_has.f t (a:Int) (b:Int)=some (h a b)) :
  Calls Try.prog 47 #[.int .i64 (n:Int),.func (.func 48) #[.slice At t.length ct] #[]] w fun e w'=>∃ v,e=.returned v∧Kd.S (Kd.slice 3 (Kd.int .i64)) 40 w' w.heap.size (fun _=>True) v (tA h n n)∧Below w.heap.size w w':=by
 subst ht
 have HH:=zz31 hh
 have HC:=zz31 hr0
 have HS0:=zz31 (show Kd.S (Kd.slice 3 (Kd.int .i64)) 40 (w.alloc (.cells #[] 40)) w.heap.size (fun _=>True) (.slice (some ⟨w.heap.size,0,none⟩) 0 0) [] from
  ⟨fun _=>0,⟨fun _ _=>trivial,[],own_empty w w.heap.size 40 1 (Nat.le_refl _),Reps.none _ _⟩⟩)
 clear hh hr0
 go_enter Try.func47,Try.ntmps47
 go_wp2
 go_loopg [5,11] t.length (fun gg v5 v11 wr=>∃ a:Nat,a≤t.length∧t.length - a≤gg∧v11=.int .i64 a∧Aside0 (Kd.S (Kd.slice 3 (Kd.int .i64)) 40 wr w.heap.size (fun _=>True) v5 (tA h t.length a))∧Aside0 (Below w.heap.size w wr))
 case atStart=>exact ⟨0,by omega,by omega,by rfl,HS0,⟨zz2 (Below.refl _ _) _⟩⟩
 case round =>
  obtain ⟨a,ha,hga,rfl,HS,HB⟩:=hrel
  by_cases hlt:a < t.length
  ·have hltz:(a:Int) < (t.length:Int):=by omega
   go_wp2
   go_loopg [5,7] t.length (fun gg v5 v7 w2=>∃ b:Nat,a+1≤b∧b≤t.length∧t.length - b≤gg∧v7=.int .i64 b∧Aside0 (Kd.S (Kd.slice 3 (Kd.int .i64)) 40 w2 w.heap.size (fun _=>True) v5 (tA h t.length a ++ tB h t.length a b))∧Aside0 (Below w.heap.size w w2))
   case atStart=>exact ⟨a+1,by omega,by omega,by omega,by go_num,⟨by simpa [tB] using HS.out⟩,HB⟩
   case round =>
    clear HS HB
    obtain ⟨b,hab,hb,hgb,rfl,HS,HB⟩:=hrel
    by_cases hlb:b < t.length
    ·have hlbz:(b:Int) < (t.length:Int):=by omega
     go_wp2
     go_loopg [5,8] t.length (fun gg v5 v8 w3=>∃ c:Nat,b+1≤c∧c≤t.length∧t.length - c≤gg∧v8=.int .i64 c∧Aside0 (Kd.S (Kd.slice 3 (Kd.int .i64)) 40 w3 w.heap.size (fun _=>True) v5 (tA h t.length a ++ tB h t.length a b ++ tC h a b c))∧Aside0 (Below w.heap.size w w3))
     case atStart=>exact ⟨b+1,by omega,by omega,by omega,by go_num,⟨by simpa [tC] using HS.out⟩,HB⟩
     case round =>
      clear HS HB
      obtain ⟨c,hbc,hc,hgc,rfl,HS,HB⟩:=hrel
      by_cases hlc:c < t.length
      ·have hlcz:(c:Int) < (t.length:Int):=by omega
       have HCr:=zz31 (Kd.C_below HC.out HB.out)
       have H1:=zz31 (HH.out a b (by omega) (by omega))
       have H2:=zz31 (HH.out a c (by omega) (by omega))
       have H3:=zz31 (HH.out b c (by omega) (by omega))
       have hL1:=tA_len h t.length a hn (by omega)
       have hL2:=tB_len h t.length a b hn (by omega)
       have hL3:=tC_len h a b c (by omega)
       have HLL:=zz31 (show ((tA h t.length a ++ tB h t.length a b ++ tC h a b c).length+1) * 24≤140737488355328 from by simp only [List.length_append];omega)
       clear hL1 hL2 hL3
       have hr1:(if h a b && h a c && h b c then [[(a:Int),(b:Int),(c:Int)]] else [])=(if h a b=true then if h a c=true then if h b c=true then [[(a:Int),(b:Int),(c:Int)]] else [] else [] else []):=by cases h a b <;> cases h a c <;> cases h b c <;> rfl
       have HT:=zz31 ((tC_succ h a b c hbc).trans (congrArg _ hr1))
       clear hr1
       cases e1:h a b with
       | false =>
        rw [e1] at H1 HT
        go_wp2_with (go_at_call 48;(with_reducible refine (impl_table_has.calls At ct t (a:Int) (b:Int) false _ ?_ hct H1.out).mono ?_);(repeat (first | (with_reducible exact HCr.out) | (with_reducible refine zz19 ?_ _) | (with_reducible refine zz20 ?_)));rintro e w4 ⟨rfl,hd⟩;obtain ⟨q1,hq1⟩:=hd.out;subst hq1;clear hd)
        go_roundg (t.length - (c+1))
        case measure=>omega
        case rel=>exact ⟨c+1,by omega,by omega,by omega,by go_num,⟨by rw [HT.out];simp only [Bool.false_eq_true,if_false,List.append_nil];(with_reducible repeat (first | apply zz16 | apply zz17));exact HS.out⟩,⟨by repeat first | exact HB.out | apply zz0 | apply below_drew⟩⟩
       | true =>
        cases e2:h a c with
        | false =>
         rw [e1] at H1 HT
         rw [e2] at H2 HT
         go_wp2_with (first | (go_at_call 48;(with_reducible refine (impl_table_has.calls At ct t (a:Int) (b:Int) true _ ?_ hct H1.out).mono ?_);(repeat (first | (with_reducible exact HCr.out) | (with_reducible refine zz19 ?_ _) | (with_reducible refine zz20 ?_)));rintro e w4 ⟨rfl,hd⟩;obtain ⟨q1,hq1⟩:=hd.out;subst hq1;clear hd) | (go_at_call 48;(with_reducible refine (impl_table_has.calls At ct t (a:Int) (c:Int) false _ ?_ hct H2.out).mono ?_);(repeat (first | (with_reducible exact HCr.out) | (with_reducible refine zz19 ?_ _) | (with_reducible refine zz20 ?_)));rintro e w4 ⟨rfl,hd⟩;obtain ⟨q1,hq1⟩:=hd.out;subst hq1;clear hd))
         go_roundg (t.length - (c+1))
         case measure=>omega
         case rel=>exact ⟨c+1,by omega,by omega,by omega,by go_num,⟨by rw [HT.out];simp only [Bool.false_eq_true,if_false,if_true,List.append_nil];(with_reducible repeat (first | apply zz16 | apply zz17));exact HS.out⟩,⟨by repeat first | exact HB.out | apply zz0 | apply below_drew⟩⟩
        | true =>
         cases e3:h b c with
         | false =>
          rw [e1] at H1 HT
          rw [e2] at H2 HT
          rw [e3] at H3 HT
          go_wp2_with (first | (go_at_call 48;(with_reducible refine (impl_table_has.calls At ct t (a:Int) (b:Int) true _ ?_ hct H1.out).mono ?_);(repeat (first | (with_reducible exact HCr.out) | (with_reducible refine zz19 ?_ _) | (with_reducible refine zz20 ?_)));rintro e w4 ⟨rfl,hd⟩;obtain ⟨q1,hq1⟩:=hd.out;subst hq1;clear hd) | (go_at_call 48;(with_reducible refine (impl_table_has.calls At ct t (a:Int) (c:Int) true _ ?_ hct H2.out).mono ?_);(repeat (first | (with_reducible exact HCr.out) | (with_reducible refine zz19 ?_ _) | (with_reducible refine zz20 ?_)));rintro e w4 ⟨rfl,hd⟩;obtain ⟨q1,hq1⟩:=hd.out;subst hq1;clear hd) | (go_at_call 48;(with_reducible refine (impl_table_has.calls At ct t (b:Int) (c:Int) false _ ?_ hct H3.out).mono ?_);(repeat (first | (with_reducible exact HCr.out) | (with_reducible refine zz19 ?_ _) | (with_reducible refine zz20 ?_)));rintro e w4 ⟨rfl,hd⟩;obtain ⟨q1,hq1⟩:=hd.out;subst hq1;clear hd))
          go_roundg (t.length - (c+1))
          case measure=>omega
          case rel=>exact ⟨c+1,by omega,by omega,by omega,by go_num,⟨by rw [HT.out];simp only [Bool.false_eq_true,if_false,if_true,List.append_nil];(with_reducible repeat (first | apply zz16 | apply zz17));exact HS.out⟩,⟨by repeat first | exact HB.out | apply zz0 | apply below_drew⟩⟩
         | true =>
          rw [e1] at H1 HT
          rw [e2] at H2 HT
          rw [e3] at H3 HT
          go_wp2_with (first | (go_at_call 48;(with_reducible refine (impl_table_has.calls At ct t (a:Int) (b:Int) true _ ?_ hct H1.out).mono ?_);(repeat (first | (with_reducible exact HCr.out) | (with_reducible refine zz19 ?_ _) | (with_reducible refine zz20 ?_)));rintro e w4 ⟨rfl,hd⟩;obtain ⟨q1,hq1⟩:=hd.out;subst hq1;clear hd) | (go_at_call 48;(with_reducible refine (impl_table_has.calls At ct t (a:Int) (c:Int) true _ ?_ hct H2.out).mono ?_);(repeat (first | (with_reducible exact HCr.out) | (with_reducible refine zz19 ?_ _) | (with_reducible refine zz20 ?_)));rintro e w4 ⟨rfl,hd⟩;obtain ⟨q1,hq1⟩:=hd.out;subst hq1;clear hd) | (go_at_call 48;(with_reducible refine (impl_table_has.calls At ct t (b:Int) (c:Int) true _ ?_ hct H3.out).mono ?_);(repeat (first | (with_reducible exact HCr.out) | (with_reducible refine zz19 ?_ _) | (with_reducible refine zz20 ?_)));rintro e w4 ⟨rfl,hd⟩;obtain ⟨q1,hq1⟩:=hd.out;subst hq1;clear hd) | ((with_reducible refine gate_dst (N:=48) rfl ?_);refine lit_event .i64 3 w.heap.size [(a:Int),(b:Int),(c:Int)] rfl ?_ HB.out.size (Nat.le_of_ble_eq_true rfl) ?_;(first | (go_simp;done) | (go_simp;rfl));intro w7 hR7 hB7;have HR7:=zz31 hR7;have HB7:=zz31 hB7;clear hR7 hB7) | (at_builtin;refine Kd.S_append (Kd.slice 3 (Kd.int .i64)) (w0:=w) w.heap.size rfl (.tmp 44) (.tmp 49) 34 40 (.slice none 0 0) 24 rfl Try.underlying34 infoThrees rfl (by decide) (by omega) _ (tA h t.length a ++ tB h t.length a b ++ tC h a b c) [(a:Int),(b:Int),(c:Int)] _ (fun _=>True) (fun k=>k=wr.heap.size) rfl rfl ?_ ?_ (fun _ _=>trivial) ?_ ?_ ?_ HLL.out ?_;exact Kd.M_row HR7.out;exact (fun k hk=>⟨trivial,fun he=>absurd (Kd.R_lt (Kd.S_R HS.out) k he.symm) (by rw [hk];exact Nat.lt_irrefl _)⟩);exact Kd.S_below (zz16 (Kd.S_mono (Kd.S_bound HS.out) (fun k hk=>⟨trivial,fun e=>absurd hk.2.2.1 (by rw [e];exact Nat.lt_irrefl _)⟩)) _) HB7.out;exact below_then (zz0 HB.out _) HB.out.size HB7.out;exact Nat.le_trans HB.out.size HB7.out.size;intro v9 w9 hS9 hB9 hg9 hat9;have HS9:=zz31 hS9;have HB9:=zz31 hB9;clear hS9 hB9 hg9 hat9))
          go_roundg (t.length - (c+1))
          case measure=>omega
          case rel=>exact ⟨c+1,by omega,by omega,by omega,by go_num,⟨by rw [HT.out];simp only [if_true];rw [← List.append_assoc];(with_reducible repeat (first | apply zz16 | apply zz17));exact HS9.out⟩,⟨by repeat first | exact HB9.out | apply zz0 | apply below_drew⟩⟩
      ·have hlcz:¬ (c:Int) < (t.length:Int):=by omega
       obtain rfl:c=t.length:=by omega
       go_wp2
       go_roundg (t.length - (b+1))
       case measure=>omega
       case rel=>exact ⟨b+1,by omega,by omega,by omega,by go_num,⟨by rw [tB_succ h t.length a b hab,← List.append_assoc];exact HS.out⟩,HB⟩
    ·have hlbz:¬ (b:Int) < (t.length:Int):=by omega
     obtain rfl:b=t.length:=by omega
     go_wp2
     go_roundg (t.length - (a+1))
     case measure=>omega
     case rel=>exact ⟨a+1,by omega,by omega,by go_num,⟨by rw [tA_succ];exact HS.out⟩,HB⟩
  ·have hltz:¬ (a:Int) < (t.length:Int):=by omega
   obtain rfl:a=t.length:=by omega
   go_wp2
   go_ret
   exact ⟨_,rfl,HS.out,HB.out⟩

end Go.Proofs.Ytialimbdkokdcaa.P
