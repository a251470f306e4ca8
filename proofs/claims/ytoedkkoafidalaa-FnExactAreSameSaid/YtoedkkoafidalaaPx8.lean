-- PRINTED by print.py (a twelfth state) out of the translation. Not trusted: Lean checks it.
import Derived.Test.YtoedkkoafidalaaPx0
import Derived.Test.YtoedkkoafidalaaPx6
import Derived.Test.YtoedkkoafidalaaPx7
namespace Go.Proofs.Ytoedkkoafidalaa.P
open Go.RowKit Go.Proofs.YtoedkkoafidalaaW.PrintWords Go.Proofs.YtoedkkoafidalaaW.PrintLast Go.Proofs.YtoedkkoafidalaaW.PrintMore
attribute [local go_sem] max2_int min2_int max_two min_two max_three min_three max_four min_four   -- for this text's walks alone
set_option linter.unusedVariables false
set_option linter.unusedSimpArgs false

-- NOT PRINTED: function 66 (impl_least_1)

/-! ### impl_Pair_67: function 67 (a contract of our own) -/
def impl_Pair_67.f (l0:List S70):Option (List S70):=if l0.length≤1000000000 then some l0 else none
set_option maxHeartbeats 1000000 in
set_option maxRecDepth 100000 in
theorem impl_Pair_67.calls (A0:Option Addr) (c0:Nat) (l0:List S70) (r:List S70) (w:World) (hr0:Kd.C k70 w A0 l0.length l0) (hc0:l0.length≤c0) (h:impl_Pair_67.f l0=some r) :
  Calls Try.prog 67 #[.slice A0 l0.length c0] w fun e w'=>∃ v0_:Value,e=.returned (v0_)∧Kd.R k70 70 w' w.heap.size (fun _=>True) v0_ r∧Below w.heap.size w w':=by
 unfold impl_Pair_67.f at h
 by_cases hb:l0.length≤1000000000
 case neg=>rw [if_neg hb] at h;exact absurd h (by simp)
 rw [if_pos hb] at h
 obtain rfl:=Option.some.inj h
 clear h
 have HR:=zz31 hr0
 have HBIG:=zz31 hb
 clear hb hc0
 cases A0 with
 | none =>
  have h0:l0=[]:=by
   rcases Nat.eq_zero_or_pos l0.length with hz | hz
   ·exact List.eq_nil_of_length_eq_zero hz
   ·obtain ⟨ad,e,_⟩:=hr0.2.2 hz
    cases e
  subst h0
  clear hr0
  have heq:∀ W:World,(binOp .eql 28 (.slice none 0 c0) (.slice none 0 0)).run Try.prog W=.ok (.bool true) W:=fun W=>Lib.run_eql_slice_nil_nil W 0 c0 Try.underlying28
  go_enter Try.func67,Try.ntmps67
  go_wp2
  go_ret
  exact ⟨_,rfl,Kd.R_nil _ _ _ _ _,Below.refl _ _⟩
 | some ad =>
  clear hr0
  have heq:∀ W:World,(binOp .eql 28 (.slice (some ad) l0.length c0) (.slice none 0 0)).run Try.prog W=.ok (.bool false) W:=fun W=>Lib.run_eql_slice_some_nil W ad l0.length c0 Try.underlying28
  go_enter Try.func67,Try.ntmps67
  go_wp2_with (first | ((with_reducible refine gate_dst (N:=5) rfl ?_);refine Kd.R_lit k70 (w0:=w) w.heap.size 70 ?hg (N:=5) ?hd (xs:=([]:List S70)) (inner:=[]) (ok:=fun _=>True) (okp:=fun _=>True) ?hr ?hp (fun _ hk=>hk) trivial (Below.refl _ _) (Nat.le_refl _) (by simp) ?_;(case hd=>rfl);(case hg=>rfl);(case hr=>first | (go_simp;done) | (go_simp;rfl));(case hp=>exact (Reps.none _ _));intro v3 w3 ho hb hg_ hnew_;clear hg_ hnew_;have HO:=zz31 ho;have HB:=zz31 hb;clear ho hb) | ((with_reducible refine gate_dst (N:=7) rfl ?_);refine Kd.R_append_rows k70 (w0:=w) w.heap.size rfl (.tmp 5) (.tmp 6) 28 70 _ 16 rfl Try.underlying28 info70 rfl (by decide) (by omega) v3 [] l0 _ _ _ (fun _=>True) (fun _=>False) rfl rfl HO.out (Kd.C_below HR.out HB.out) ?aR (fun _ h=>h.elim) (fun _ _=>trivial) HB.out HB.out.size ?aL ?_;(case aR=>intro x cs hx;exact (k70_open hx) ▸ k70_mkM _ _ _ x);(case aL=>(have:=HBIG.out;simp;omega));intro v4 w4 ho4 hb4 hg4 hn4;clear hg4 hn4;have HO4:=zz31 ho4;have HB4:=zz31 hb4;clear ho4 hb4))
  go_ret
  exact ⟨_,rfl,by simpa using HO4.out,HB4.out⟩

/-! ### impl_least: function 36 (a contract of our own) -/
/-- What the closure of least keeps: the party in one block, the best one in another block. -/
def LeI (w0:World) (a0:Int) (A0:Option Addr) (n0 c0 B1 Bb:Nat) (s:Int × List S70) (own:Nat→Prop) (W:World):Prop :=
 own=(fun i=>i=Bb)∧Below w0.heap.size w0 W∧W.heap[B1]?=some (.cells #[.int .i64 a0,.slice A0 n0 c0] 30 (0,0)) ∧
  ∃ A c,W.heap[Bb]?=some (.cells #[.int .i64 s.1,.slice A s.2.length c] 30 (0,0))∧Kd.C k70 W A s.2.length s.2∧s.2.length≤c
theorem LeI.below {w0:World} {a0:Int} {A0:Option Addr} {n0 c0 B1 Bb:Nat} {s:Int × List S70} {own:Nat→Prop} {W W':World} (h:LeI w0 a0 A0 n0 c0 B1 Bb s own W) (hb:Below W.heap.size W W'):LeI w0 a0 A0 n0 c0 B1 Bb s own W':=by
 obtain ⟨h1,h2,h3,A,c,h4,h5,h6⟩:=h
 exact ⟨h1,h2.trans (hb.mono h2.size),zz11 h3 hb,A,c,zz11 h4 hb,Kd.C_below h5 hb,h6⟩
theorem LeI.lt {w0:World} {a0:Int} {A0:Option Addr} {n0 c0 B1 Bb:Nat} {s:Int × List S70} {own:Nat→Prop} {W:World} (h:LeI w0 a0 A0 n0 c0 B1 Bb s own W):∀ i,own i→i < W.heap.size:=by
 obtain ⟨h1,h2,h3,A,c,h4,h5,h6⟩:=h
 subst h1
 rintro i rfl
 exact blk_lt h4
def leStep (k:Nat) (a0:Int) (l0:List S70) (s:Int × List S70) (q:List Int):Int × List S70 :=
 (fun (s r:Int × List S70)=>if cmpT r.2 s.2 < 0 then r else s) s ((impl_renamed.f k a0 l0 q).getD (0,[]))
theorem fr_set {Bb:Nat} {W:World} (i:Nat) (v:Value):Fr (fun i=>i=Bb) (fun i=>i=Bb) W (W.setCell ⟨Bb,i,none⟩ v) :=
 ⟨rfl,rfl,rfl,by simp [World.setCell],fun j hj hn=>Below.heap_setCell _ _ _ j (fun he=>hn he),fun j hj=>.inl hj⟩
set_option maxHeartbeats 4000000 in
set_option maxRecDepth 100000 in
theorem least_each (k n:Nat) (a0:Int) (A0:Option Addr) (c0:Nat) (l0:List S70) (w0:World) (hc0:l0.length≤c0) (hr0:Kd.C k70 w0 A0 l0.length l0) (B1 Bb:Nat) (hlb:w0.heap.size≤Bb) (hne:B1 ≠ Bb)
  (hall:∀ q ∈ rns n n [],∃ r:Int × List S70,r.2.length≤1000000000∧impl_renamed.f (k+4) a0 l0 q=some r) :
  EachR (Int × List S70) 66 #[.pointer (some ⟨B1,0,none⟩),.pointer (some ⟨Bb,0,none⟩)] w0.heap.size n (LeI w0 a0 A0 l0.length c0 B1 Bb) (leStep (k+4) a0 l0) (fun q=>q ∈ rns n n []):=by
 intro s own W A c q hI hB hq hl hR
 obtain ⟨⟨r1,r2⟩,hrl,hrq⟩:=hall q hq
 replace hrl:r2.length≤1000000000:=hrl
 have hst:leStep (k+4) a0 l0 s q=if cmpT r2 s.2 < 0 then (r1,r2) else s:=by unfold leStep;rw [hrq];rfl
 obtain ⟨s1,s2⟩:=s
 have HI:=zz31 hI
 obtain ⟨rfl,hbw,h3,Ab,cb,h4,h5,h6⟩:=hI
 have hcm:impl_compareParties.f (k+4) r1 r2 s1 s2=some (cmpT r2 s2):=by unfold impl_compareParties.f;rw [if_pos (by omega),cmpL_eq]
 have hu:=Try.underlying30
 have HC0:=zz31 (Kd.C_below hr0 hbw)
 have HCC:=zz31 hc0
 have HCs:=zz31 (Kd.R_reads' hR).2.2
 have HCc:=zz31 (Kd.R_reads' hR).2.1
 have HRN:=zz31 hrq
 have HX1:=zz31 h3
 have HXb:=zz31 h4
 have HCb:=zz31 h5
 have HCD:=zz31 h6
 have HBW:=zz31 hbw
 have HLB:=zz31 hlb
 have HNE:=zz31 hne
 have HST:=zz31 hst
 have f0:=zz9 h3 0
 have f1:=zz9 h3 1
 simp only [List.getElem?_toArray,List.getElem?_cons_zero,List.getElem?_cons_succ] at f0 f1
 obtain ⟨cc,hcc⟩:∃ cc,cc=cmpT r2 s2:=⟨_,rfl⟩
 rw [← hcc] at hcm HST
 have HCM:=zz31 hcm
 clear hcm hst h3 h4 h5 h6 hbw hrq hq hR hr0 hcc hne hlb hc0 hrl hall hB hl
 by_cases hlt:cc < 0
 ·have hst:=HST.out
  rw [if_pos hlt] at hst
  replace HST:=zz31 hst
  clear hst
  go_enter Try.func66,Try.ntmps66
  go_wp2_with (first | (go_at_call 41; refine (impl_renamed.calls (k + 4) a0 A0 c0 l0 A c q r1 r2 _ HC0.out HCC.out HCs.out HCc.out HRN.out).mono ?_; rintro e w1 ⟨v1, rfl, ho, hb⟩; obtain ⟨A1, c1, rfl⟩ := Kd.R_slice ho; have HO1 := zz31 ho; have HB1 := zz31 hb; have hba : Below W.heap.size W (w1.alloc (.cells #[.int .i64 r1, .slice A1 r2.length c1] 30)) := zz2 hb _; have HBA := zz31 hba; clear f0 f1 ho hb; have g0 := zz9 (zz11 HXb.out hba) 0; have g1 := zz9 (zz11 HXb.out hba) 1; simp only [List.getElem?_toArray, List.getElem?_cons_zero, List.getElem?_cons_succ] at g0 g1; have HC1 := zz31 (zz18 (Kd.R_reads' HO1.out).2.2 (.cells #[.int .i64 r1, .slice A1 r2.length c1] 30)); have HCb1 := zz31 (Kd.C_below HCb.out hba); have HXn := zz31 (blk_new w1 (.cells #[.int .i64 r1, .slice A1 r2.length c1] 30)); clear hba) | (go_at_call 35; refine (impl_compareParties.calls (k + 4) r1 A1 c1 r2 s1 Ab cb s2 cc _ HC1.out (Kd.R_reads' HO1.out).2.1 HCb1.out HCD.out HCM.out).mono ?_; rintro e w2 ⟨rfl, hb⟩; have HB2 := zz31 hb; have HX2 := zz31 (zz11 (zz11 HXb.out HBA.out) hb); have HN2 := zz31 (zz11 HXn.out hb); clear g0 g1 hb; have g0 := zz9 HN2.out 0; have g1 := zz9 HN2.out 1; simp only [List.getElem?_toArray, List.getElem?_cons_zero, List.getElem?_cons_succ] at g0 g1; have g2 := zz10 HX2.out 0; have g3 := zz10 HX2.out 1; have g4 := zz9 HX2.out 0; have g5 := zz9 HX2.out 1; simp only [List.getElem?_toArray, List.getElem?_cons_zero, List.getElem?_cons_succ] at g4 g5) | (fail "no arm"))
  have HX:=zz31 (HBA.out.trans (HB2.out.mono HBA.out.size))
  have HR2:=zz31 (Kd.R_below (zz12 (Kd.R_mono (ok':=fun k=>W.heap.size≤k) (Kd.R_bound HO1.out) (fun k hk=>hk.2.1)) (.cells #[.int .i64 r1,.slice A1 r2.length c1] 30)) HB2.out)
  have HLX:=zz31 (blk_lt HXb.out)
  refine bodyPost_end (results_none rfl _ _ _) rfl ⟨rfl,(fun i=>i=Bb),?_,(Fr.of_below _ HX.out).trans ((fr_set 0 _).trans (fr_set 1 _))⟩
  rw [HST.out]
  exact ⟨rfl,zz3 (zz3 (HBW.out.trans (HX.out.mono HBW.out.size)) HLB.out) HLB.out,blk_far (blk_far (zz11 HX1.out HX.out) (p:=⟨Bb,0,none⟩) HNE.out _) (p:=⟨Bb,1,none⟩) HNE.out _,A1,c1,blk_put (cs:=#[.int .i64 r1,.slice Ab s2.length cb]) (blk_put (cs:=#[.int .i64 s1,.slice Ab s2.length cb]) HX2.out 0 _ rfl) 1 _ rfl,(Kd.R_reads' (Kd.R_far (Kd.R_far HR2.out (fun k hk=>by have:=HLX.out;show k ≠ Bb;omega) _) (fun k hk=>by have:=HLX.out;show k ≠ Bb;omega) _)).2.2,(Kd.R_reads' HO1.out).2.1⟩
 ·have hst:=HST.out
  rw [if_neg hlt] at hst
  replace HST:=zz31 hst
  clear hst
  go_enter Try.func66,Try.ntmps66
  go_wp2_with (first | (go_at_call 41; refine (impl_renamed.calls (k + 4) a0 A0 c0 l0 A c q r1 r2 _ HC0.out HCC.out HCs.out HCc.out HRN.out).mono ?_; rintro e w1 ⟨v1, rfl, ho, hb⟩; obtain ⟨A1, c1, rfl⟩ := Kd.R_slice ho; have HO1 := zz31 ho; have HB1 := zz31 hb; have hba : Below W.heap.size W (w1.alloc (.cells #[.int .i64 r1, .slice A1 r2.length c1] 30)) := zz2 hb _; have HBA := zz31 hba; clear f0 f1 ho hb; have g0 := zz9 (zz11 HXb.out hba) 0; have g1 := zz9 (zz11 HXb.out hba) 1; simp only [List.getElem?_toArray, List.getElem?_cons_zero, List.getElem?_cons_succ] at g0 g1; have HC1 := zz31 (zz18 (Kd.R_reads' HO1.out).2.2 (.cells #[.int .i64 r1, .slice A1 r2.length c1] 30)); have HCb1 := zz31 (Kd.C_below HCb.out hba); have HXn := zz31 (blk_new w1 (.cells #[.int .i64 r1, .slice A1 r2.length c1] 30)); clear hba) | (go_at_call 35; refine (impl_compareParties.calls (k + 4) r1 A1 c1 r2 s1 Ab cb s2 cc _ HC1.out (Kd.R_reads' HO1.out).2.1 HCb1.out HCD.out HCM.out).mono ?_; rintro e w2 ⟨rfl, hb⟩; have HB2 := zz31 hb; have HX2 := zz31 (zz11 (zz11 HXb.out HBA.out) hb); have HN2 := zz31 (zz11 HXn.out hb); clear g0 g1 hb; have g0 := zz9 HN2.out 0; have g1 := zz9 HN2.out 1; simp only [List.getElem?_toArray, List.getElem?_cons_zero, List.getElem?_cons_succ] at g0 g1; have g2 := zz10 HX2.out 0; have g3 := zz10 HX2.out 1; have g4 := zz9 HX2.out 0; have g5 := zz9 HX2.out 1; simp only [List.getElem?_toArray, List.getElem?_cons_zero, List.getElem?_cons_succ] at g4 g5) | (fail "no arm"))
  have HX:=zz31 (HBA.out.trans (HB2.out.mono HBA.out.size))
  refine bodyPost_end (results_none rfl _ _ _) rfl ⟨rfl,(fun i=>i=Bb),?_,Fr.of_below _ HX.out⟩
  rw [HST.out]
  exact LeI.below HI.out HX.out
def impl_least.f (k:Nat) (a0_0:Int) (l0_1:List (S70)):Option (Int × List (S70)) :=
 if 4≤k∧0≤a0_0∧a0_0≤7∧l0_1.length≤1000000000 then
  (mapO (fun q=>impl_renamed.f k a0_0 l0_1 q) (rns a0_0.toNat a0_0.toNat [])).bind fun rs =>
   if ∀ r ∈ rs,r.2.length≤1000000000 then some (rs.foldl (fun s r=>if cmpT r.2 s.2 < 0 then r else s) (a0_0,l0_1)) else none
 else none
theorem impl_least.mono:∀ a0 a1 k,LeO (impl_least.f k a0 a1) (impl_least.f (k+1) a0 a1):=by
 intro a0 a1 k
 unfold impl_least.f
 by_cases h:4≤k∧0≤a0∧a0≤7∧a1.length≤1000000000
 ·rw [if_pos h,if_pos ⟨by omega,h.2⟩]
  exact LeO.bind (mapO_mono _ _ (fun q=>impl_renamed.mono _ _ _ _) _) fun _=>LeO.refl _
 ·rw [if_neg h]
  exact LeO.none _
set_option maxHeartbeats 4000000 in
set_option maxRecDepth 100000 in
theorem impl_least.calls (k:Nat) (a0_0:Int) (A0_1:Option Addr) (c0_1:Nat) (l0_1:List (S70)) (r1:Int) (r2:List (S70)) (w:World) (hr0_1:Kd.C k70 w A0_1 l0_1.length l0_1) (hc0_1:l0_1.length≤c0_1) (h:impl_least.f k a0_0 l0_1=some (r1,r2)) :
  Calls Try.prog 36 #[.agg #[.int .i64 a0_0,.slice A0_1 l0_1.length c0_1]] w fun e w'=>∃ v1_:Value,e=.returned (.agg #[.int .i64 r1,v1_])∧Kd.R k70 70 w' w.heap.size (fun _=>True) v1_ r2∧Below w.heap.size w w':=by
 have hu:=Try.underlying30
 unfold impl_least.f at h
 by_cases hg:4≤k∧0≤a0_0∧a0_0≤7∧l0_1.length≤1000000000
 case neg=>rw [if_neg hg] at h;exact absurd h (by simp)
 rw [if_pos hg] at h
 obtain ⟨rs,hrs,h⟩:=zz30.1 h
 by_cases hrl:∀ r ∈ rs,r.2.length≤1000000000
 case neg=>rw [if_neg hrl] at h;exact absurd h (by simp)
 rw [if_pos hrl] at h
 injection h with hfo
 obtain ⟨hk4,hg0,hg7,hgl⟩:=hg
 obtain ⟨k,rfl⟩:∃ k',k=k'+4:=⟨k - 4,by omega⟩
 obtain ⟨n,rfl⟩:=Int.eq_ofNat_of_zero_le hg0
 rw [Int.toNat_natCast] at hrs
 have hr2l:r2.length≤1000000000:=by
  have:∀ (rs:List (Int × List S70)) (s:Int × List S70),s.2.length≤1000000000→(∀ r ∈ rs,r.2.length≤1000000000)→(rs.foldl (fun s r=>if cmpT r.2 s.2 < 0 then r else s) s).2.length≤1000000000:=by
   intro rs
   induction rs with
   | nil=>intro s h _;exact h
   | cons x rs ih =>
    intro s h1 h2
    rw [List.foldl_cons]
    refine ih _ ?_ (fun r hr=>h2 r (by simp [hr]))
    split
    ·exact h2 x (by simp)
    ·exact h1
  have h3:=this rs ((n:Int),l0_1) hgl hrl
  rw [hfo] at h3
  exact h3
 have hfold:(rns n n []).foldl (leStep (k+4) (n:Int) l0_1) ((n:Int),l0_1)=(r1,r2):=by
  rw [← hfo]
  exact mapO_fold (0,[]) (fun (s r:Int × List S70)=>if cmpT r.2 s.2 < 0 then r else s) _ hrs
 have hall:∀ q ∈ rns n n [],∃ r:Int × List S70,r.2.length≤1000000000∧impl_renamed.f (k+4) (n:Int) l0_1 q=some r:=fun q hq=>by
  obtain ⟨y,hy,e⟩:=mapO_mem hrs q hq
  exact ⟨y,hrl y hy,e⟩
 have CG:Aside0 (∀ (Wx:World) (Bb:Nat),Below w.heap.size w Wx→w.heap.size < Bb→Wx.heap[w.heap.size]?=some (.cells #[.int .i64 (n:Int),.slice A0_1 l0_1.length c0_1] 30 (0,0))→Wx.heap[Bb]?=some (.cells #[.int .i64 (n:Int),.slice A0_1 l0_1.length c0_1] 30 (0,0)) →
   Calls Try.prog 38 #[.int .i64 (n:Int),.func (.func 66) #[] #[.pointer (some ⟨w.heap.size,0,none⟩),.pointer (some ⟨Bb,0,none⟩)]] Wx fun e W'=>e=.returned (.tuple #[])∧Below w.heap.size w W'∧(∀ i,i < Wx.heap.size→i ≠ Bb→W'.heap[i]?=Wx.heap[i]?)∧∃ A c,W'.heap[Bb]?=some (.cells #[.int .i64 r1,.slice A r2.length c] 30 (0,0))∧Kd.C k70 W' A r2.length r2∧r2.length≤c):=⟨fun Wx Bb hb hlb h1 h2=>by
  have hs:LeI w (n:Int) A0_1 l0_1.length c0_1 w.heap.size Bb ((n:Int),l0_1) (fun i=>i=Bb) Wx:=⟨rfl,hb,h1,A0_1,c0_1,h2,Kd.C_below hr0_1 hb,hc0_1⟩
  refine (renamings_each (Int × List S70) 66 #[.pointer (some ⟨w.heap.size,0,none⟩),.pointer (some ⟨Bb,0,none⟩)] (fun _ _=>rfl) w.heap.size n (LeI w (n:Int) A0_1 l0_1.length c0_1 w.heap.size Bb) (leStep (k+4) (n:Int) l0_1) (least_each k n (n:Int) A0_1 c0_1 l0_1 w hc0_1 hr0_1 w.heap.size Bb (by omega) (by omega) hall) (fun _ _ _ _ h hb=>h.below hb) (fun _ _ _ h=>h.lt) (by omega) _ _ Wx hs hb.size).mono ?_
  rintro e W' ⟨g1,own',g2,g3⟩
  rw [hfold] at g2
  obtain ⟨p1,p2,p3,A,c,p4,p5,p6⟩:=g2
  exact ⟨g1,p2,fun i hi hn=>g3.block i hi hn,A,c,p4,p5,p6⟩⟩
 clear hall hfold hrs hrl hfo hg0 hg7 hgl hk4
 have HR0:=zz31 hr0_1
 have HFC:=zz31 (show impl_Pair_67.f r2=some r2 from by unfold impl_Pair_67.f;rw [if_pos (by omega)])
 clear hr0_1 hr2l
 go_enter Try.func36,Try.ntmps36
 have e1:(w.alloc (.cells #[.int .i64 (n:Int),.slice A0_1 l0_1.length c0_1] 30)).heap.size=w.heap.size+1:=by simp
 have e2:((w.alloc (.cells #[.int .i64 (n:Int),.slice A0_1 l0_1.length c0_1] 30)).alloc (.cells #[.int .i64 0,.slice none 0 0] 30)).heap.size=w.heap.size+1+1:=by simp
 have b1:=blk_new (w.alloc (.cells #[.int .i64 (n:Int),.slice A0_1 l0_1.length c0_1] 30)) (.cells #[.int .i64 0,.slice none 0 0] 30)
 have b2:=blk_new ((w.alloc (.cells #[.int .i64 (n:Int),.slice A0_1 l0_1.length c0_1] 30)).alloc (.cells #[.int .i64 0,.slice none 0 0] 30)) (.cells #[.int .i64 (n:Int),.slice A0_1 l0_1.length c0_1] 30)
 rw [e1] at b1
 rw [e2] at b2
 have HBX0:=zz31 (zz8 (zz8 (blk_new w (.cells #[.int .i64 (n:Int),.slice A0_1 l0_1.length c0_1] 30)) (.cells #[.int .i64 0,.slice none 0 0] 30)) (.cells #[.int .i64 (n:Int),.slice A0_1 l0_1.length c0_1] 30))
 have HBX1:=zz31 (zz8 b1 (.cells #[.int .i64 (n:Int),.slice A0_1 l0_1.length c0_1] 30))
 have HBX2:=zz31 b2
 clear b1 b2 e1 e2
 go_upto_region 3 with (first | (go_at_call 38; refine (CG.out _ (w.heap.size + 1 + 1) (zz2 (zz2 (zz2 (Below.refl _ _) _) _) _) (by omega) HBX0.out HBX2.out).mono ?_; rintro e w3 ⟨rfl, hb, hk, A3, c3, h3, h4, h5⟩; have HX3 := zz31 h3; have HC3 := zz31 h4; have HC3c := zz31 h5; have HB3 := zz31 hb; have HX1 := zz31 ((hk (w.heap.size + 1) (blk_lt HBX1.out) (by omega)).trans HBX1.out); clear hb hk h3 h4 h5) | (fail "no arm"))
 have f1:=zz9 HX3.out 0
 have f2:=zz9 HX3.out 1
 simp only [List.getElem?_toArray,List.getElem?_cons_zero,List.getElem?_cons_succ] at f1 f2
 have HB1:=zz31 (show w.heap.size≤w.heap.size+1 from Nat.le_succ _)
 have HLT:=zz31 (show w.heap.size+1 < w3.heap.size from blk_lt HX1.out)
 go_region_held3 (fun w' => w'.cell? ⟨w.heap.size + 1 + 1, 0, none⟩ = some (.int .i64 r1) ∧ w'.cell? ⟨w.heap.size + 1 + 1, 1, none⟩ = some (.slice A3 r2.length c3)) (first | go_keep | exact ⟨f1, f2⟩ | exact ⟨zz9 HX4.out 0, zz9 HX4.out 1⟩ | exact ⟨zz9 (blk_far (blk_far HX4.out (p := ⟨w.heap.size + 1, 0, none⟩) (show w.heap.size + 1 + 1 ≠ w.heap.size + 1 by omega) _) (p := ⟨w.heap.size + 1, 1, none⟩) (show w.heap.size + 1 + 1 ≠ w.heap.size + 1 by omega) _) 0, zz9 (blk_far (blk_far HX4.out (p := ⟨w.heap.size + 1, 0, none⟩) (show w.heap.size + 1 + 1 ≠ w.heap.size + 1 by omega) _) (p := ⟨w.heap.size + 1, 1, none⟩) (show w.heap.size + 1 + 1 ≠ w.heap.size + 1 by omega) _) 1⟩) (first | (go_at_call 67; refine (impl_Pair_67.calls A3 c3 r2 r2 _ ?_ HC3c.out HFC.out).mono ?_; (repeat (first | exact HC3.out | (with_reducible refine zz18 ?_ _) | (with_reducible refine zz19 ?_ _) | (with_reducible refine zz20 ?_))); rintro e w4 ⟨v4, rfl, ho, hb⟩; obtain ⟨A4, c4, rfl⟩ := Kd.R_slice ho; have HB4 := zz31 (zz4 (w := w3) (by repeat (first | exact Below.refl _ _ | apply zz0 | apply below_drew | apply zz2)) hb); have HO4 := zz31 (Kd.R_mono (ok' := fun k => w3.heap.size ≤ k) (Kd.R_bound ho) (fun k hk => hk.2.1)); have HX4 := zz31 (zz11 HX3.out HB4.out); have HY4 := zz31 (zz11 HX1.out HB4.out); clear ho hb; have g3 := zz10 HY4.out 0; have g4 := zz10 HY4.out 1; have g5 := zz9 HY4.out 0; have g6 := zz9 HY4.out 1; simp only [List.getElem?_toArray, List.getElem?_cons_zero, List.getElem?_cons_succ] at g5 g6) | (fail "no arm"))
 all_goals go_wp2
 all_goals refine bodyPost_ret (results_cell_row rfl _ _ (w.heap.size+1) 30 #[.int .i64 r1,.slice A4 r2.length c4] (0,0) _ rfl (by (with_reducible repeat (first | refine zz6 ?_ _ | refine zz7 ?_));refine blk_put (cs:=#[.int .i64 r1,.slice none 0 0]) ?_ 1 _ rfl;refine blk_put (cs:=#[.int .i64 0,.slice none 0 0]) ?_ 0 _ rfl;(with_reducible repeat (first | refine zz6 ?_ _ | refine zz7 ?_));exact HY4.out) Try.underlying30 rfl (by kernel_rfl)) rfl ?_
 all_goals exact ⟨_,rfl,Kd.R_mono (Kd.R_lower (Kd.R_far (Kd.R_far HO4.out (fun k hk=>by have:=HLT.out;show k ≠ w.heap.size+1;omega) _) (fun k hk=>by have:=HLT.out;show k ≠ w.heap.size+1;omega) _) HB3.out.size) (fun _ _=>trivial),by repeat first | exact (HB3.out.trans (HB4.out.mono HB3.out.size)) | apply zz0 | apply below_drew | refine zz3 ?_ HB1.out⟩

end Go.Proofs.Ytoedkkoafidalaa.P
