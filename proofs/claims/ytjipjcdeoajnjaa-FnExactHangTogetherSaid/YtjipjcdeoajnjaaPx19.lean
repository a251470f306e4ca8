-- PRINTED by print.py (a twelfth state) out of the translation. Not trusted: Lean checks it.
import Derived.Test.YtjipjcdeoajnjaaPx0
namespace Go.Proofs.Ytjipjcdeoajnjaa.P
open Go.RowKit Go.Proofs.YtjipjcdeoajnjaaW.PrintWords Go.Proofs.YtjipjcdeoajnjaaW.PrintLast Go.Proofs.YtjipjcdeoajnjaaW.PrintMore
open Bool renaming true → T, false → F
attribute [local go_sem] max2_int min2_int max_two min_two max_three min_three max_four min_four   -- for this text's walks alone
set_option linter.unusedVariables false
set_option linter.unusedSimpArgs false

-- NOT PRINTED: function 105 (slices_AppendSeq_int_int)

-- NOT PRINTED: function 100 (slices_Collect_int)

/-! ### cmp_isNaN_int: function 126 -/
def cmp_isNaN_int.f (a0:Int):Option (Bool):=some (a0 != a0)
set_option maxHeartbeats 8000000 in
set_option maxRecDepth 100000 in
theorem cmp_isNaN_int.calls (a0:Int) (r:Bool) (w:World) (h:cmp_isNaN_int.f a0=some r) :
  Calls Try.prog 126 #[.int .i64 a0] w fun e w'=>e=.returned (.bool r)∧Drawn0 w w':=by
 have H:(some (a0 != a0))=some r:=h
 clear h
 obtain rfl:=Option.some.inj H
 go_enter Try.func126,Try.ntmps126
 go_wp2
 go_ret
 exact ⟨by first | rfl | (simp;done) | (simp [*];done),by repeat (first | exact Drawn0.refl _ | apply Drawn0.step)⟩

/-! ### cmp_Less_int: function 115 -/
def cmp_Less_int.f (a0:Int) (a1:Int):Option (Bool):=(cmp_isNaN_int.f a0).bind fun t261=>(if t261=true then ((cmp_isNaN_int.f a1).bind fun t262=>(if t262=true then (some (decide (a0 < a1))) else (some true))) else (some (decide (a0 < a1))))
set_option maxHeartbeats 8000000 in
set_option maxRecDepth 100000 in
theorem cmp_Less_int.calls (a0:Int) (a1:Int) (r:Bool) (w:World) (h:cmp_Less_int.f a0 a1=some r) :
  Calls Try.prog 115 #[.int .i64 a0,.int .i64 a1] w fun e w'=>e=.returned (.bool r)∧Drawn0 w w':=by
 have H:((cmp_isNaN_int.f a0).bind fun t261=>(if t261=true then ((cmp_isNaN_int.f a1).bind fun t262=>(if t262=true then (some (decide (a0 < a1))) else (some true))) else (some (decide (a0 < a1)))))=some r:=h
 clear h
 replace H:=zz30.mp H
 obtain ⟨t261,A30,H⟩:=H
 replace H:(if t261=true then ((cmp_isNaN_int.f a1).bind fun t262=>(if t262=true then (some (decide (a0 < a1))) else (some true))) else (some (decide (a0 < a1))))=some r:=H
 have A3:=zz31 A30
 clear A30
 by_cases c4:t261=true
 ·subst c4
  have H1:((cmp_isNaN_int.f a1).bind fun t262=>(if t262=true then (some (decide (a0 < a1))) else (some true)))=some r:=by rw [if_pos rfl] at H;exact H
  clear H
  have H:=H1
  clear H1
  replace H:=zz30.mp H
  obtain ⟨t262,A50,H⟩:=H
  replace H:(if t262=true then (some (decide (a0 < a1))) else (some true))=some r:=H
  have A5:=zz31 A50
  clear A50
  by_cases c6:t262=true
  ·subst c6
   have H1:(some (decide (a0 < a1)))=some r:=by rw [if_pos rfl] at H;exact H
   clear H
   have H:=H1
   clear H1
   obtain rfl:=Option.some.inj H
   go_enter Try.func115,Try.ntmps115
   go_wp2_with (first | ((with_reducible refine gate_callee (f:=126) rfl ?_);refine goesL_ (some 6) rfl rfl Try.func126 (by kernel_rfl) rfl #[.int .i64 a0] rfl (by (try simp only [zz26,zz27,zz28]);first | done | rfl | (simp only [zz24,zz25];rfl)) ?_;(with_reducible refine (cmp_isNaN_int.calls a0 true _ A3.out).mono ?_);rintro e w' ⟨rfl,⟨nd,rfl⟩⟩;refine ⟨_,rfl,?_⟩) | (go_at_call 126;(with_reducible refine (cmp_isNaN_int.calls a1 true _ A5.out).mono ?_);rintro e w' ⟨rfl,⟨nd,rfl⟩⟩))
   go_ret
   exact ⟨by first | rfl | (simp;done) | (simp [*];done),by repeat (first | exact Drawn0.refl _ | apply Drawn0.step)⟩
  ·replace c6:=Bool.eq_false_iff.mpr c6
   subst c6
   have H1:(some true)=some r:=by rw [if_neg (show ¬ (false=true) by decide)] at H;exact H
   clear H
   have H:=H1
   clear H1
   obtain rfl:=Option.some.inj H
   go_enter Try.func115,Try.ntmps115
   go_wp2_with (first | ((with_reducible refine gate_callee (f:=126) rfl ?_);refine goesL_ (some 6) rfl rfl Try.func126 (by kernel_rfl) rfl #[.int .i64 a0] rfl (by (try simp only [zz26,zz27,zz28]);first | done | rfl | (simp only [zz24,zz25];rfl)) ?_;(with_reducible refine (cmp_isNaN_int.calls a0 true _ A3.out).mono ?_);rintro e w' ⟨rfl,⟨nd,rfl⟩⟩;refine ⟨_,rfl,?_⟩) | (go_at_call 126;(with_reducible refine (cmp_isNaN_int.calls a1 false _ A5.out).mono ?_);rintro e w' ⟨rfl,⟨nd,rfl⟩⟩))
   go_ret
   exact ⟨by first | rfl | (simp;done) | (simp [*];done),by repeat (first | exact Drawn0.refl _ | apply Drawn0.step)⟩
 ·replace c4:=Bool.eq_false_iff.mpr c4
  subst c4
  have H1:(some (decide (a0 < a1)))=some r:=by rw [if_neg (show ¬ (false=true) by decide)] at H;exact H
  clear H
  have H:=H1
  clear H1
  obtain rfl:=Option.some.inj H
  go_enter Try.func115,Try.ntmps115
  go_wp2_with (first | ((with_reducible refine gate_callee (f:=126) rfl ?_);refine goesL_ (some 6) rfl rfl Try.func126 (by kernel_rfl) rfl #[.int .i64 a0] rfl (by (try simp only [zz26,zz27,zz28]);first | done | rfl | (simp only [zz24,zz25];rfl)) ?_;(with_reducible refine (cmp_isNaN_int.calls a0 false _ A3.out).mono ?_);rintro e w' ⟨rfl,⟨nd,rfl⟩⟩;refine ⟨_,rfl,?_⟩))
  go_ret
  exact ⟨by first | rfl | (simp;done) | (simp [*];done),by repeat (first | exact Drawn0.refl _ | apply Drawn0.step)⟩

-- NOT PRINTED: function 109 (slices_insertionSortOrdered_int)

-- NOT PRINTED: function 121 (slices_siftDownOrdered_int)

-- NOT PRINTED: function 110 (slices_heapSortOrdered_int)

-- NOT PRINTED: function 118 (bits_Len32)

-- NOT PRINTED: function 119 (bits_Len64)

-- NOT PRINTED: function 107 (bits_Len)

-- NOT PRINTED: function 122 (slices_nextPowerOfTwo)

-- NOT PRINTED: function 123 (slices_xorshift_Next)

-- NOT PRINTED: function 111 (slices_breakPatternsOrdered_int)

-- NOT PRINTED: function 127 (slices_order2Ordered_int)

-- NOT PRINTED: function 125 (slices_medianOrdered_int)

-- NOT PRINTED: function 124 (slices_medianAdjacentOrdered_int)

-- NOT PRINTED: function 112 (slices_choosePivotOrdered_int)

-- NOT PRINTED: function 113 (slices_reverseRangeOrdered_int)

-- NOT PRINTED: function 114 (slices_partialInsertionSortOrdered_int)

-- NOT PRINTED: function 116 (slices_partitionEqualOrdered_int)

-- NOT PRINTED: function 117 (slices_partitionOrdered_int)

-- NOT PRINTED: function 106 (slices_pdqsortOrdered_int)

/-! ### slices_Sort_int_int: function 101 (a contract of our own) -/
def sortRen:Go.Shelf.Ren:=⟨fun | 125=>107 | 128=>118 | 129=>119 | 189=>101 | 215=>126 | 216=>115 | 257=>106 | 294=>109 | 295=>110 | 296=>111 | 297=>112 | 298=>113 | 299=>114 | 300=>116 | 301=>117 | 328=>121 | 329=>122 | 330=>123 | 331=>124 | 332=>125 | 343=>127 | n=>n,fun | 0=>0 | 3=>3 | 4=>4 | 5=>5 | 9=>9 | 28=>22 | 46=>95 | 51=>103 | 53=>105 | 131=>23 | 182=>97 | 183=>98 | 218=>106 | 222=>73 | 228=>111 | 229=>112 | n=>n,fun | n=>n⟩
theorem sortLays:Go.Proofs.Lays.n189 Try.prog sortRen:={
 mixed:=by kernel_rfl
 f125:=Try.func107.trans (congrArg some (by kernel_rfl))
 f128:=Try.func118.trans (congrArg some (by kernel_rfl))
 f129:=Try.func119.trans (congrArg some (by kernel_rfl))
 f189:=Try.func101.trans (congrArg some (by kernel_rfl))
 f215:=Try.func126.trans (congrArg some (by kernel_rfl))
 f216:=Try.func115.trans (congrArg some (by kernel_rfl))
 f257:=Try.func106.trans (congrArg some (by kernel_rfl))
 f294:=Try.func109.trans (congrArg some (by kernel_rfl))
 f295:=Try.func110.trans (congrArg some (by kernel_rfl))
 f296:=Try.func111.trans (congrArg some (by kernel_rfl))
 f297:=Try.func112.trans (congrArg some (by kernel_rfl))
 f298:=Try.func113.trans (congrArg some (by kernel_rfl))
 f299:=Try.func114.trans (congrArg some (by kernel_rfl))
 f300:=Try.func116.trans (congrArg some (by kernel_rfl))
 f301:=Try.func117.trans (congrArg some (by kernel_rfl))
 f328:=Try.func121.trans (congrArg some (by kernel_rfl))
 f329:=Try.func122.trans (congrArg some (by kernel_rfl))
 f330:=Try.func123.trans (congrArg some (by kernel_rfl))
 f331:=Try.func124.trans (congrArg some (by kernel_rfl))
 f332:=Try.func125.trans (congrArg some (by kernel_rfl))
 f343:=Try.func127.trans (congrArg some (by kernel_rfl))
 t0:=Try.underlying0
 a0:=Try.isAgg0
 z0:=Try.sizeOf0
 v0:=Try.zeroValue0
 t3:=Try.underlying3
 a3:=Try.isAgg3
 z3:=Try.sizeOf3
 v3:=Try.zeroValue3
 t4:=Try.underlying4
 a4:=Try.isAgg4
 z4:=Try.sizeOf4
 v4:=Try.zeroValue4
 t5:=Try.underlying5
 a5:=Try.isAgg5
 z5:=Try.sizeOf5
 v5:=Try.zeroValue5
 t9:=Try.underlying9
 a9:=Try.isAgg9
 z9:=Try.sizeOf9
 v9:=Try.zeroValue9
 t28:=Try.underlying22
 a28:=Try.isAgg22
 z28:=Try.sizeOf22
 v28:=Try.zeroValue22
 t46:=Try.underlying95
 a46:=Try.isAgg95
 z46:=Try.sizeOf95
 v46:=Try.zeroValue95
 t51:=Try.underlying103
 a51:=Try.isAgg103
 z51:=Try.sizeOf103
 v51:=Try.zeroValue103
 t53:=Try.underlying105
 a53:=Try.isAgg105
 z53:=Try.sizeOf105
 v53:=Try.zeroValue105
 t131:=Try.underlying23
 a131:=Try.isAgg23
 z131:=Try.sizeOf23
 v131:=Try.zeroValue23
 t182:=Try.underlying97
 a182:=Try.isAgg97
 z182:=Try.sizeOf97
 v182:=Try.zeroValue97
 t183:=Try.underlying98
 a183:=Try.isAgg98
 z183:=Try.sizeOf98
 v183:=Try.zeroValue98
 t218:=Try.underlying106
 a218:=Try.isAgg106
 z218:=Try.sizeOf106
 v218:=Try.zeroValue106
 t222:=Try.underlying73
 a222:=Try.isAgg73
 z222:=Try.sizeOf73
 v222:=Try.zeroValue73
 t228:=Try.underlying111
 a228:=Try.isAgg111
 z228:=Try.sizeOf111
 v228:=Try.zeroValue111
 t229:=Try.underlying112
 a229:=Try.isAgg112
 z229:=Try.sizeOf112
 v229:=Try.zeroValue112 }
/-- What slices.Sort does at whole numbers, as the library tells it. -/
theorem sortInts (blk off cap:Nat) (zs:List Int) (w:World) (hH:Go.Sort.Holds (Value.int .i64) w blk off zs.toArray) (hb:blk < w.heap.size) (hz:zs.length < 4611686018427387904) :
    Calls Try.prog 101 #[.slice (some ⟨blk,off,none⟩) zs.length cap] w fun e w' =>
      e=.returned (.tuple #[])∧∃ n os,w'=Go.Sort.grow (Go.Sort.putRow (Value.int .i64) (Go.Sort.ahead w n) blk off (zs.mergeSort fun x y=>decide (x≤y)).toArray) os:=Any.slices_Sort_int sortLays blk off cap zs w hH hb hz
theorem sortNone (p:Option Addr) (cap:Nat) (W:World):Calls Try.prog 101 #[.slice p 0 cap] W fun e w'=>e=.returned (.tuple #[])∧w'=W:=Any.slices_Sort_int_none sortLays p cap W
def slices_Sort_int_int.f (l0:List Int):Option (List Int):=if l0.length < 4611686018427387904 then some (l0.mergeSort fun x y=>decide (x≤y)) else none
theorem slices_Sort_int_int.calls (P0_:Nat→Prop) (u9000_:Value) (l0:List Int) (r:List Int) (w0 w:World) (hB:Below w0.heap.size w0 w) (ho0:Kd.R (Kd.int .i64) 3 w w0.heap.size P0_ u9000_ l0) (h:slices_Sort_int_int.f l0=some r) :
    Calls Try.prog 101 #[u9000_] w fun e w'=>e=.returned (.tuple #[])∧Kd.R (Kd.int .i64) 3 w' w0.heap.size (fun k_=>(P0_ k_ ∨ w.heap.size≤k_)) u9000_ r∧Below w0.heap.size w0 w'∧Kept w w' (fun k_=>P0_ k_):=by
  unfold slices_Sort_int_int.f at h
  by_cases hl:l0.length < 4611686018427387904
  case neg=>rw [if_neg hl] at h;exact absurd h (by simp)
  rw [if_pos hl] at h
  obtain rfl:=Option.some.inj h
  have hml:(l0.mergeSort fun x y=>decide (x≤y)).length=l0.length:=List.length_mergeSort _
  have ho:=Kd.own_of_R ho0
  rcases ho.2 with ⟨rfl,hz⟩ | ⟨gb,cp,cur,rfl,hbase,hgb,r1,r2,r3,r4⟩
  · obtain rfl:l0=[]:=List.eq_nil_of_length_eq_zero hz
    refine (sortNone none 0 w).mono ?_
    rintro e w' ⟨rfl,rfl⟩
    exact ⟨rfl,by simpa using Kd.R_nil _ _ _ _ _,hB,Kept.refl _ _⟩
  · have hH:Go.Sort.Holds (Value.int .i64) w gb 0 l0.toArray:=holds_of_blockI hgb (by rw [Nat.mul_one] at r4;exact r4)
    refine (sortInts gb 0 cp l0 w hH (Array.getElem?_eq_some_iff.1 hgb).1 hl).mono ?_
    rintro e w' ⟨rfl,nn,os,rfl⟩
    have hp:P0_ gb:=ho0.1 gb (by simp [Value.ownBlock])
    refine ⟨rfl,Kd.R_of_own (enc:=Value.int .i64) (h1:=fun _=>rfl) (by rw [hml];exact ownsRow_sortedI hml hbase hgb r1 r2 r3) (fun k hk=>.inl ?_),hB.grown (grownBy_sortedI _) hB.size (fun j hj=>by cases hj;exact hbase),Kept.of_grown (grownBy_sortedI _) (Kept.refl _ _) (fun k hk=>.inl ?_)⟩
    · have:gb=k:=by simpa [Value.ownBlock] using hk
      rw [← this];exact hp
    · cases hk;exact hp

-- NOT PRINTED: function 93 (slices_Sorted_int)

-- NOT PRINTED: function 94 (slices_Values_int_int)

/-! ### slices_Reverse_int_int: function 95 -/
def slices_Reverse_int_int.l0:Nat→List Int→Int→Int→Option (List Int)
 | 0,_,_,_=>none
 | k+1,x0,x2,x3=>if x2 < x3 then (if 0≤x3 then (if x3 < (x0.length:Int) then (if 0≤x2 then (if x2 < (x0.length:Int) then (slices_Reverse_int_int.l0 k ((x0.set (x2:Int).toNat (rd x0 x3)).set (x3:Int).toNat (rd x0 x2)) (wrap64 (x2+1)) (wrap64 (x3 - 1))) else (none)) else (none)) else (none)) else (none)) else (some x0)
def slices_Reverse_int_int.f (k:Nat) (l0:List Int):Option (List Int):=slices_Reverse_int_int.l0 k l0 0 (wrap64 ((l0.length:Int) - 1))
theorem slices_Reverse_int_int.mono_l:∀ k,(∀ y0 y1 y2,LeO (slices_Reverse_int_int.l0 k y0 y1 y2) (slices_Reverse_int_int.l0 (k+1) y0 y1 y2))
 | 0=>fun _ _ _ r h=>by simp [slices_Reverse_int_int.l0] at h
 | k+1=>by
  have ih0:=slices_Reverse_int_int.mono_l k
  ·intro y0 y1 y2
   unfold slices_Reverse_int_int.l0
   repeat' first
   | (with_reducible exact ih0 _ _ _)
   | (with_reducible exact LeO.refl _)
   | (with_reducible exact LeO.none _)
   | (with_reducible refine LeO.ite ?_ ?_)
   | (with_reducible refine LeO.bind ?_ (fun _=>?_))
   | exact ih0 _ _ _
   | exact LeO.none _
   | refine LeO.ite ?_ ?_
   | refine LeO.bind ?_ (fun _=>?_)
theorem slices_Reverse_int_int.mono:∀ a0 k,LeO (slices_Reverse_int_int.f k a0) (slices_Reverse_int_int.f (k+1) a0):=by
 intro a0 k
 have ih0:=slices_Reverse_int_int.mono_l k
 unfold slices_Reverse_int_int.f
 repeat' first
   | (with_reducible exact ih0 _ _ _)
   | (with_reducible exact LeO.refl _)
   | (with_reducible exact LeO.none _)
   | (with_reducible refine LeO.ite ?_ ?_)
   | (with_reducible refine LeO.bind ?_ (fun _=>?_))
   | exact ih0 _ _ _
   | exact LeO.none _
   | refine LeO.ite ?_ ?_
   | refine LeO.bind ?_ (fun _=>?_)
def slices_Reverse_int_int.T3:Bool × List (List Nat × List Nat):=(true,[([],[]),([],[]),([],[]),([],[]),([],[]),([],[]),([4,5],[4,5]),([6],[6]),([],[]),([],[]),([8,9],[8,9]),([10],[10]),([0,1,0,1,4,5,6,7,11],[0,1]),([12,7,0,1,4,5,6,7,11],[7,12]),([2,3,0,1,2,3,4,5,6,7,8,9,10,11,12,13],[2,3]),([14,11,13,0,1,2,3,4,5,6,7,8,9,10,11,12,13],[11,14])])
def slices_Reverse_int_int.B3:List Nat:=[0,0,0,0,0,0,48,112,0,0,768,1792,4083,8179,16383,32767]
theorem slices_Reverse_int_int.tab3:rtab .any (opsOf Try.f95 3)=slices_Reverse_int_int.T3:=by kernel_rfl
theorem slices_Reverse_int_int.bits3:waitsOk slices_Reverse_int_int.T3.2 slices_Reverse_int_int.B3=true:=by kernel_rfl
set_option maxHeartbeats 8000000 in
set_option maxRecDepth 100000 in
theorem slices_Reverse_int_int.calls (k:Nat) (P0_:Nat→Prop) (u9000_:Value) (l0:List Int) (r:List Int) (w0 w:World) (hB:Below w0.heap.size w0 w) (ho0:Kd.R (Kd.int .i64) 3 w w0.heap.size P0_ u9000_ l0) (h:slices_Reverse_int_int.f k l0=some r) :
  Calls Try.prog 95 #[u9000_] w fun e w'=>e=.returned (.tuple #[])∧Kd.R (Kd.int .i64) 3 w' w0.heap.size (fun k_=>(P0_ k_ ∨ w.heap.size≤k_)) u9000_ r∧Below w0.heap.size w0 w'∧Kept w w' (fun k_=>P0_ k_):=by
 have HO0:=zz31 (show Kd.R (Kd.int .i64) 3 w w0.heap.size (fun k_=>(P0_ k_ ∨ w.heap.size≤k_)) u9000_ l0 from Kd.R_mono ho0 (fun k_ hk=>(.inl hk)))
 have HK:=zz31 (Kept.refl w (fun k_=>P0_ k_))
 have HW0:=zz31 hB.size
 have HB:=zz31 hB
 clear hB
 have H:(slices_Reverse_int_int.l0 k l0 0 (wrap64 ((l0.length:Int) - 1)))=some r:=h
 clear h
 have H':=zz31 H
 clear H
 obtain ⟨Ao2,co2,eo2⟩:=Kd.R_slice HO0.out
 subst eo2
 go_enter Try.func95,Try.ntmps95
 go_wp2
 go_loopg [2,3] k (fun kq v2 v3 w'=>∃ (x0_1:List Int) (x2_1:Int) (x3_1:Int),v2=.int .i64 x2_1∧v3=.int .i64 x3_1∧Aside0 (slices_Reverse_int_int.l0 kq x0_1 x2_1 x3_1=some r)∧Aside0 (kq≤k)∧Aside0 (Kd.R (Kd.int .i64) 3 w' w0.heap.size (fun k_=>(P0_ k_ ∨ w.heap.size≤k_)) (.slice Ao2 l0.length co2) x0_1)∧Aside0 (Kept w w' (fun k_=>P0_ k_))∧Aside0 (Below w0.heap.size w0 w'))
 case atStart=>exact ⟨(l0),(0),(wrap64 ((l0.length:Int) - 1)),(by first | rfl | (simp;done) | (simp [*];done)),(by first | rfl | (simp;done) | (simp [*];done)),H',⟨Nat.le_refl _⟩,⟨by (with_reducible repeat (first | apply zz12 | apply zz13 | apply zz14));exact HO0.out⟩,⟨by repeat (first | (with_reducible first | exact HK.out | apply Kept.alloc | apply Kept.drewN | apply Kept.drew) | exact HK.out)⟩,⟨by repeat first | exact HB.out | apply zz2 | apply zz0 | apply zz1⟩⟩
 case round =>
  clear H'
  try clear p2
  obtain ⟨x0_1,x2_1,x3_1,rfl,rfl,HA,HK1,HO_0,HK,HB⟩:=hrel
  have hl0_1:=(Kd.R_reads' HO_0.out).1
  rw [hl0_1] at HO_0
  (try simp only [hl0_1])
  cases gk with
  | zero=>exact absurd HA.out (by simp [slices_Reverse_int_int.l0])
  | succ k1 =>
   have H:=HA.out
   clear HA
   simp only [slices_Reverse_int_int.l0] at H
   by_cases c3:x2_1 < x3_1
   ·rw [if_pos c3] at H
    have c3b0:decide (x2_1 < x3_1)=true:=decide_eq_true c3
    clear c3
    by_cases c4:0≤x3_1
    ·rw [if_pos c4] at H
     have c4b0:decide (0≤x3_1)=true:=decide_eq_true c4
     clear c4
     by_cases c5:x3_1 < (x0_1.length:Int)
     ·rw [if_pos c5] at H
      have c5b0:decide (x3_1 < (x0_1.length:Int))=true:=decide_eq_true c5
      (try simp only [hl0_1] at c5b0)
      clear c5
      by_cases c6:0≤x2_1
      ·rw [if_pos c6] at H
       have c6b0:decide (0≤x2_1)=true:=decide_eq_true c6
       clear c6
       by_cases c7:x2_1 < (x0_1.length:Int)
       ·rw [if_pos c7] at H
        have c7b0:decide (x2_1 < (x0_1.length:Int))=true:=decide_eq_true c7
        (try simp only [hl0_1] at c7b0)
        clear c7
        obtain ⟨y265,hy265⟩:∃ y_:List Int,y_=(x0_1.set (x2_1:Int).toNat (rd x0_1 x3_1)):=⟨_,rfl⟩
        replace H:(slices_Reverse_int_int.l0 k1 (y265.set (x3_1:Int).toNat (rd x0_1 x2_1)) (wrap64 (x2_1+1)) (wrap64 (x3_1 - 1)))=some r:=by first | (rw [hy265];with_reducible exact H) | (have H2_:=(Option.bind_some _ _).symm.trans H;rw [hy265];with_reducible exact H2_) | (have H2_:=(Option.bind_some _ _).symm.trans H;with_reducible exact H2_) | with_reducible exact H | (rw [hy265];exact H) | exact H
        have Ny265:=zz31 hy265
        clear hy265
        obtain ⟨y266,hy266⟩:∃ y_:List Int,y_=(y265.set (x3_1:Int).toNat (rd x0_1 x2_1)):=⟨_,rfl⟩
        replace H:(slices_Reverse_int_int.l0 k1 y266 (wrap64 (x2_1+1)) (wrap64 (x3_1 - 1)))=some r:=by first | (rw [hy266];with_reducible exact H) | (have H2_:=(Option.bind_some _ _).symm.trans H;rw [hy266];with_reducible exact H2_) | (have H2_:=(Option.bind_some _ _).symm.trans H;with_reducible exact H2_) | with_reducible exact H | (rw [hy266];exact H) | exact H
        have Ny266:=zz31 hy266
        clear hy266
        have H':=zz31 H
        clear H
        try go_wp2
        have n0_:=zz31 (zz14 HO_0.out)
        have n1_:=zz31 (Kept.drew HK.out)
        have n2_:=zz31 (zz1 HB.out)
        clear HO_0
        clear HK
        clear HB
        have HO_0:=n0_
        have HK:=n1_
        have HB:=n2_
        clear n0_ n1_ n2_
        have p263:0≤(x3_1:Int):=zz29 (by first | (with_reducible assumption) | assumption)
        have q263:x3_1 < (x0_1.length:Int):=zz29 (by first | (with_reducible assumption) | assumption)
        obtain ⟨ad263,e263,hx263_0⟩:=Kd.at_int (Kd.R_reads' HO_0.out).2.2 x3_1 p263 q263
        cases e263
        replace p263:=eq_true p263
        replace q263:=eq_true q263
        have p264:0≤(x2_1:Int):=zz29 (by first | (with_reducible assumption) | assumption)
        have q264:x2_1 < (x0_1.length:Int):=zz29 (by first | (with_reducible assumption) | assumption)
        obtain ⟨ad264,e264,hx264_0⟩:=Kd.at_int (Kd.R_reads' HO_0.out).2.2 x2_1 p264 q264
        obtain rfl:ad263=ad264:=(by injection e264)
        replace p264:=eq_true p264
        replace q264:=eq_true q264
        have p8:0≤(x2_1:Int):=zz29 (by first | (with_reducible assumption) | assumption)
        have q8:(x2_1:Int) < ((x0_1.length:Int):Int):=zz29 (by first | (with_reducible assumption) | assumption)
        obtain ⟨go8,co8,eo8,gb8,gl8,cl8,HG8⟩:=Kd.R_form HO_0.out (by omega)
        (first | cases eo8 | (injection eo8 with ea_ en_ ec_;(first | subst ea_ | (injection ea_ with ea_;subst ea_));subst ec_;clear en_))
        have GB8:=zz31 gb8
        have GG8:=zz31 HG8
        clear gb8 gl8 HG8
        have HMgo8:=zz31 (show (P0_ go8 ∨ w.heap.size≤go8) from (HO_0.out.1 _ rfl))
        (first | simp only [add_plain] at hx263_0 | skip)
        (first | simp only [add_plain] at hx264_0 | skip)
        obtain ⟨hx8_0,hf8_0⟩:=Kd.R_celln 0 HO_0.out (x2_1:Int) p8 q8
        replace p8:=eq_true p8
        replace q8:=eq_true q8
        have HP11:=Kd.R_putn HO_0.out (x2_1:Int) (rd x0_1 x3_1)
        rw [← Ny265.out] at HP11
        have HQ11:=zz31 HP11
        clear HP11
        have p9:0≤(x3_1:Int):=zz29 (by first | (with_reducible assumption) | assumption)
        have q9:(x3_1:Int) < ((x0_1.length:Int):Int):=zz29 (by first | (with_reducible assumption) | assumption)
        obtain ⟨hx9_0,hf9_0⟩:=Kd.R_celln 0 HQ11.out (x3_1:Int) p9 q9
        replace p9:=eq_true p9
        replace q9:=eq_true q9
        have HP12:=Kd.R_putn HQ11.out (x3_1:Int) (rd x0_1 x2_1)
        rw [← Ny266.out] at HP12
        have HQ12:=zz31 HP12
        clear HP12
        refine start_ (n:=16) (S:=fun w'=>w'.cell? ⟨go8,(x3_1).toNat,none⟩=some (.int .i64 (rd x0_1 x3_1))∧w'.cell? ⟨go8,(x2_1).toNat,none⟩=some (.int .i64 (rd x0_1 x2_1))) (ds:=[13,15]) #[F,F,F,F,F,F,F,F,F,F,F,F,F,F,F,F] (by kernel_rfl) rfl rfl ⟨hx263_0,hx264_0⟩ (fun hHeld=>?_);refine with_tabW slices_Reverse_int_int.tab3 slices_Reverse_int_int.bits3 (fun HT_ HW_=>?_)
        generalize wr.drew=w10 at HO_0 HK HB GG8 HQ11 HQ12 hf8_0 hf9_0 hx263_0 hx264_0 hx8_0 hx9_0 hHeld ⊢
        refine pure_ (i:=0) (N:=some 14) (v:=?_) (a':=?_) #[T,F,F,F,F,F,F,F,F,F,F,F,F,F,F,F] rfl rfl (any_of HT_.out (by kernel_rfl)) (fun _ _ _ h=>h) (Or.inl ⟨by rfl,?_⟩) ?_ ?_
        rotate_left
        ·intro w'
         go_simp
         with_reducible rfl
        rotate_left
        ·simp only [Act.put,zz21,zz22,zz23,i64_w,i32_w]
         rfl
        refine pure_ (i:=1) (N:=some 15) (v:=?_) (a':=?_) #[T,T,F,F,F,F,F,F,F,F,F,F,F,F,F,F] rfl rfl (any_of HT_.out (by kernel_rfl)) (fun _ _ _ h=>h) (Or.inl ⟨by rfl,?_⟩) ?_ ?_
        rotate_left
        ·intro w'
         go_simp
         with_reducible rfl
        rotate_left
        ·simp only [Act.put,zz21,zz22,zz23,i64_w,i32_w]
         rfl
        refine pure_ (i:=2) (N:=some 16) (v:=?_) (a':=?_) #[T,T,T,F,F,F,F,F,F,F,F,F,F,F,F,F] rfl rfl (any_of HT_.out (by kernel_rfl)) (fun _ _ _ h=>h) (Or.inl ⟨by rfl,?_⟩) ?_ ?_
        rotate_left
        ·intro w'
         go_simp
         with_reducible rfl
        rotate_left
        ·simp only [Act.put,zz21,zz22,zz23,i64_w,i32_w]
         rfl
        refine pure_ (i:=3) (N:=some 17) (v:=?_) (a':=?_) #[T,T,T,T,F,F,F,F,F,F,F,F,F,F,F,F] rfl rfl (any_of HT_.out (by kernel_rfl)) (fun _ _ _ h=>h) (Or.inl ⟨by rfl,?_⟩) ?_ ?_
        rotate_left
        ·intro w'
         go_simp
         with_reducible rfl
        rotate_left
        ·simp only [Act.put,zz21,zz22,zz23,i64_w,i32_w]
         rfl
        refine pure_ (i:=4) (N:=some 18) (v:=?_) (a':=?_) #[T,T,T,T,T,F,F,F,F,F,F,F,F,F,F,F] rfl rfl (any_of HT_.out (by kernel_rfl)) (fun _ _ _ h=>h) (Or.inl ⟨by rfl,?_⟩) ?_ ?_
        rotate_left
        ·intro w'
         go_simp
         with_reducible rfl
        rotate_left
        ·simp only [Act.put,zz21,zz22,zz23,i64_w,i32_w]
         rfl
        refine pure_ (i:=5) (N:=some 19) (v:=?_) (a':=?_) #[T,T,T,T,T,T,F,F,F,F,F,F,F,F,F,F] rfl rfl (any_of HT_.out (by kernel_rfl)) (fun _ _ _ h=>h) (Or.inl ⟨by rfl,?_⟩) ?_ ?_
        rotate_left
        ·intro w'
         go_simp
         with_reducible rfl
        rotate_left
        ·simp only [Act.put,zz21,zz22,zz23,i64_w,i32_w]
         rfl
        refine pure_ (i:=6) (N:=some 20) (v:=?_) (a':=?_) #[T,T,T,T,T,T,T,F,F,F,F,F,F,F,F,F] rfl rfl (any_of HT_.out (by kernel_rfl)) (fun _ _ _ h=>h) (Or.inl ⟨by rfl,?_⟩) ?_ ?_
        rotate_left
        ·intro w'
         go_simp
         with_reducible rfl
        rotate_left
        ·simp only [Act.put,zz21,zz22,zz23,i64_w,i32_w]
         rfl
        refine pure_ (i:=8) (N:=some 22) (v:=?_) (a':=?_) #[T,T,T,T,T,T,T,F,T,F,F,F,F,F,F,F] rfl rfl (any_of HT_.out (by kernel_rfl)) (fun _ _ _ h=>h) (Or.inl ⟨by rfl,?_⟩) ?_ ?_
        rotate_left
        ·intro w'
         go_simp
         with_reducible rfl
        rotate_left
        ·simp only [Act.put,zz21,zz22,zz23,i64_w,i32_w]
         rfl
        refine pure_ (i:=9) (N:=some 23) (v:=?_) (a':=?_) #[T,T,T,T,T,T,T,F,T,T,F,F,F,F,F,F] rfl rfl (any_of HT_.out (by kernel_rfl)) (fun _ _ _ h=>h) (Or.inl ⟨by rfl,?_⟩) ?_ ?_
        rotate_left
        ·intro w'
         go_simp
         with_reducible rfl
        rotate_left
        ·simp only [Act.put,zz21,zz22,zz23,i64_w,i32_w]
         rfl
        refine pure_ (i:=10) (N:=some 24) (v:=?_) (a':=?_) #[T,T,T,T,T,T,T,F,T,T,T,F,F,F,F,F] rfl rfl (any_of HT_.out (by kernel_rfl)) (fun _ _ _ h=>h) (Or.inl ⟨by rfl,?_⟩) ?_ ?_
        rotate_left
        ·intro w'
         go_simp
         with_reducible rfl
        rotate_left
        ·simp only [Act.put,zz21,zz22,zz23,i64_w,i32_w]
         rfl
        refine take_ (i:=7) (N:=some 21) (v:=?_) (a':=?_) #[T,T,T,T,T,T,T,T,T,T,T,F,F,F,F,F] rfl rfl (take_ofW HT_.out HW_.out (by kernel_rfl)) (fun _ _ _ h=>h) (Or.inl ⟨by rfl,?_⟩) hHeld ?_ ?_
        rotate_left
        ·rintro w' ⟨s0,s1⟩
         go_simp
         with_reducible rfl
        rotate_left
        ·simp only [Act.put,zz21,zz22,zz23,i64_w,i32_w]
         rfl
        refine take_ (i:=11) (N:=some 25) (v:=?_) (a':=?_) #[T,T,T,T,T,T,T,T,T,T,T,T,F,F,F,F] rfl rfl (take_ofW HT_.out HW_.out (by kernel_rfl)) (fun _ _ _ h=>h) (Or.inl ⟨by rfl,?_⟩) hHeld ?_ ?_
        rotate_left
        ·rintro w' ⟨s0,s1⟩
         go_simp
         with_reducible rfl
        rotate_left
        ·simp only [Act.put,zz21,zz22,zz23,i64_w,i32_w]
         rfl
        refine pure_ (i:=12) (N:=some 26) (v:=?_) (a':=?_) #[T,T,T,T,T,T,T,T,T,T,T,T,T,F,F,F] rfl rfl (any_of HT_.out (by kernel_rfl)) (fun _ _ _ h=>h) (Or.inl ⟨by rfl,?_⟩) ?_ ?_
        rotate_left
        ·intro w'
         go_simp
         with_reducible rfl
        rotate_left
        ·simp only [Act.put,zz21,zz22,zz23,i64_w,i32_w]
         rfl
        refine last_ (i:=13) (N:=none) #[T,T,T,T,T,T,T,T,T,T,T,T,T,T,F,F] rfl rfl (one_of HT_.out (by kernel_rfl)) (by decide) (fun K hK=>?_)
        refine skip_ (w1:=?_) (by rfl) rfl ?_ ?_
        rotate_left
        ·go_simp
         rfl
        refine hK.out _ _ ?_
        clear hK K
        refine pure_ (i:=14) (N:=some 27) (v:=?_) (a':=?_) #[T,T,T,T,T,T,T,T,T,T,T,T,T,T,T,F] rfl rfl (any_of HT_.out (by kernel_rfl)) (fun _ _ _ h=>h) (Or.inl ⟨by rfl,?_⟩) ?_ ?_
        rotate_left
        ·intro w'
         go_simp
         with_reducible rfl
        rotate_left
        ·simp only [Act.put,zz21,zz22,zz23,i64_w,i32_w]
         rfl
        refine last_ (i:=15) (N:=none) #[T,T,T,T,T,T,T,T,T,T,T,T,T,T,T,T] rfl rfl (one_of HT_.out (by kernel_rfl)) (by decide) (fun K hK=>?_)
        refine skip_ (w1:=?_) (by rfl) rfl ?_ ?_
        rotate_left
        ·go_simp
         rfl
        refine hK.out _ _ ?_
        clear hK K
        refine done_ (done_of HT_.out (by kernel_rfl)) ?_
        try go_wp2
        (try simp only [← hl0_1])
        go_roundg k1
        case measure=>have:=HK1.out;omega
        case rel=>exact ⟨(y266),(wrap64 (x2_1+1)),(wrap64 (x3_1 - 1)),(by first | rfl | (simp;done) | (simp [*];done)),(by first | rfl | (simp;done) | (simp [*];done)),H',⟨by have:=HK1.out;omega⟩,⟨by (try simp only [hl0_1]);(with_reducible repeat (first | apply zz12 | apply zz13 | apply zz14));exact HQ12.out⟩,⟨by repeat (first | (with_reducible first | exact HK.out | apply Kept.alloc | apply Kept.drewN | apply Kept.drew | refine Kept.setCell ?_ HMgo8.out _ | refine Kept.setCell ?_ HMgo8.out _) | exact HK.out)⟩,⟨by repeat first | exact HB.out | apply zz2 | apply zz0 | apply zz1 | refine zz3 ?_ GB8.out | refine zz3 ?_ GB8.out⟩⟩
       ·rw [if_neg c7] at H
        exact absurd H (by simp)
      ·rw [if_neg c6] at H
       exact absurd H (by simp)
     ·rw [if_neg c5] at H
      exact absurd H (by simp)
    ·rw [if_neg c4] at H
     exact absurd H (by simp)
   ·rw [if_neg c3] at H
    have c3b0:decide (x2_1 < x3_1)=false:=decide_eq_false c3
    clear c3
    obtain rfl:=Option.some.inj H
    go_wp2
    first | go_end0 | ((try simp only [Exit.inBlock,Exit.then]);refine bodyPost_ret (results_none rfl _ _ _) rfl ?_)
    exact ⟨by first | rfl | (simp [errW_none,errW_some] <;> rfl) | (simp [*,errW_none,errW_some] <;> rfl),(by first | exact (by (with_reducible repeat (first | apply zz12 | apply zz13 | apply zz14));exact HO_0.out) | (simp only [hl0_1];exact (by (with_reducible repeat (first | apply zz12 | apply zz13 | apply zz14));exact HO_0.out))),by repeat first | exact HB.out | apply zz2 | apply zz0 | apply zz1,by repeat (first | (with_reducible first | exact HK.out | apply Kept.alloc | apply Kept.drewN | apply Kept.drew) | exact HK.out)⟩

/-! ### impl_falling: function 71 (a contract of our own) -/
section
open Go.Shelf
attribute [local go_sem] Oper.semAt_some
set_option maxRecDepth 100000 in
set_option maxHeartbeats 2000000 in
/-- The iterator of slices.Values over whole numbers, for every loop body that keeps what lay below n₀. -/
theorem vals1_in (F:Fence) (n:Nat) (h7:F.fn 102) (hro:F.round=none) (hn:1≤n) (l Bs n₀ cap:Nat) (ad:Addr) (xs:List Int) (hreach:xs.length≤9223372036854775807) (hb:ad.block < n₀) (J Jx:List Int→World→Prop)
  (hY:∀ pre x W,J pre W→pre.length < xs.length→YieldAt F (n - 1) Try.prog l #[.int .i64 x] W fun e W' =>
   (e=.returned (.bool true)∧J (pre ++ [x]) W'∧Below n₀ W W') ∨ (e=.returned (.bool false)∧Jx (pre ++ [x]) W'))
  (W:World) (hBs:W.cell? ⟨Bs,0,none⟩=some (.slice (some ad) xs.length cap)) (hc:∀ j,j < xs.length→W.cell? (ad.add j)=some (.int .i64 (rd xs j))) (h0:J [] W) :
  CallsIn F n Try.prog 102 #[.func (.yield l) #[] #[],.pointer (some ⟨Bs,0,none⟩)] W fun e W'=>(∃ v,e=.returned v) ∧
   ((∃ ys,ys=xs∧J ys W') ∨ (∃ pre,pre <+: xs∧Jx pre W')):=by
 refine callsIn_of_wp Try.func102 rfl h7 ?_ hro
 simp only [Try.ntmps102,List.size_toArray,List.length_cons,List.length_nil,Nat.reduceAdd,Nat.reduceSub,Array.replicate_succ,Array.replicate_zero,List.push_toArray,List.append_toArray,List.nil_append,List.cons_append]
 gi_wp2
 gi_loopw [7] (fun i wr=>∃ k:Nat,k≤xs.length∧i=.int .i64 k∧J (xs.take k) wr∧Below n₀ W wr)
  (fun i _=>xs.length - (intOf i).toNat)
 case atStart=>exact ⟨0,Nat.zero_le _,rfl,by simpa using h0,Below.refl _ _⟩
 case round =>
  obtain ⟨k,hk,rfl,hJs,hnx⟩:=hrel
  by_cases hlt:k < xs.length
  ·obtain ⟨y,hy⟩:∃ y,y=rd xs k:=⟨_,rfl⟩
   have hcx:wr.cell? (ad.add k)=some (.int .i64 y):=by
    have hbk:(ad.add k).block=ad.block:=by unfold Addr.add;split <;> rfl
    rw [hy]
    exact (hnx.cell (p:=ad.add k) (by rw [hbk];exact hb)).trans (hc k hlt)
   have hsn:Aside0 (xs.take (k+1)=xs.take k ++ [y]):=⟨by rw [List.take_succ_eq_append_getElem hlt,hy];simp [rd,List.getD_eq_getElem?_getD,hlt]⟩
   have hkz:(k:Int) < (xs.length:Int):=by omega
   obtain ⟨fn,tmps,assign,body,hyy,hR⟩:=hY _ y wr hJs (by rw [zz25];omega)
   clear hy
   gi_wp2
   refine hR.mono ?_
   rintro e W3 (⟨rfl,hJ3,hk3⟩ | ⟨rfl,hJx3⟩)
   ·gi_wp2
    go_roundw
    case rel=>exact ⟨k+1,by omega,by go_num,by rw [hsn.out];exact hJ3,hnx.trans hk3⟩
    case measure=>simp [intOf];omega
   ·gi_wp2
    refine bodyPost_ret (results_none rfl _ _ _) rfl ?_
    exact ⟨⟨_,rfl⟩,.inr ⟨_,by rw [← hsn.out];exact List.take_prefix _ _,hJx3⟩⟩
  ·have hkl:xs.length≤k:=by omega
   have hkz:¬ (k:Int) < (xs.length:Int):=by omega
   have hJx:J xs wr:=by rw [List.take_of_length_le hkl] at hJs;exact hJs
   gi_wp2
   go_end0
   exact ⟨⟨_,rfl⟩,.inl (by first | exact hJx | exact ⟨_,rfl,hJx⟩)⟩
set_option maxRecDepth 100000 in
set_option maxHeartbeats 1000000 in
theorem vals1_nil_in (F:Fence) (n:Nat) (h7:F.fn 102) (hro:F.round=none) (l Bs:Nat) (A:Option Addr) (cap:Nat) (J:List Int→World→Prop) (W:World) (hBs:W.cell? ⟨Bs,0,none⟩=some (.slice A 0 cap)) (h0:J [] W) :
  CallsIn F n Try.prog 102 #[.func (.yield l) #[] #[],.pointer (some ⟨Bs,0,none⟩)] W fun e W'=>(∃ v,e=.returned v)∧J [] W':=by
 refine callsIn_of_wp Try.func102 rfl h7 ?_ hro
 simp only [Try.ntmps102,List.size_toArray,List.length_cons,List.length_nil,Nat.reduceAdd,Nat.reduceSub,Array.replicate_succ,Array.replicate_zero,List.push_toArray,List.append_toArray,List.nil_append,List.cons_append]
 gi_wp2
 gi_loopw [7] (fun i wr=>i=.int .i64 0∧J [] wr) (fun _ _=>0)
 case atStart=>exact ⟨rfl,h0⟩
 case round =>
  obtain ⟨rfl,hJs⟩:=hrel
  gi_wp2
  go_end0
  exact ⟨⟨_,rfl⟩,hJs⟩
/-- slices.Values(xs) hands back an iterator that gives xs, in order. -/
theorem vals_stops (F:Fence) (n:Nat) (h7:F.fn 102) (hro:F.round=none) (hn:1≤n) (Bs:Nat) (A:Option Addr) (cap:Nat) (xs:List Int) (w w0:World) (hBs:Bs < w.heap.size) (hn₀:w0.heap.size≤w.heap.size)
  (hc:w.cell? ⟨Bs,0,none⟩=some (.slice A xs.length cap)) (hr:Kd.C (Kd.int .i64) w0 A xs.length xs) (hb0:Below w0.heap.size w0 w) :
  SeqStopsK F n Try.prog 102 #[.pointer (some ⟨Bs,0,none⟩)] (fun x:Int=>#[Value.int .i64 x]) (Below w0.heap.size) (fun ys=>ys=xs) (fun pre=>pre <+: xs) xs.length w:=fun l J Jx W hW _ _ hY h0=>by
 have hc':=(hW.cell (p:=⟨Bs,0,none⟩) hBs).trans hc
 have hb1:Below w0.heap.size w0 W:=hb0.trans (hW.mono hn₀)
 rcases Nat.eq_zero_or_pos xs.length with hz | hz
 ·obtain rfl:xs=[]:=List.eq_nil_of_length_eq_zero hz
  exact (vals1_nil_in F n h7 hro l Bs A cap J W hc' h0).mono fun e W' ⟨he,hj⟩=>⟨he,.inl ⟨_,rfl,hj⟩⟩
 ·obtain ⟨ad,rfl,h1⟩:=Kd.at_int hr 0 (by decide) (by omega)
  have hcell:∀ j,j < xs.length→w0.cell? (ad.add j)=some (.int .i64 (rd xs j)):=fun j hj=>by
   obtain ⟨ad',e,h2⟩:=Kd.at_int hr (j:Int) (by omega) (by omega)
   cases e
   simpa using h2
  have hblk:ad.block < w0.heap.size:=by
   have:=World.block_lt_of_cell? w0 _ h1
   unfold Addr.add at this
   split at this <;> exact this
  refine (vals1_in F n h7 hro hn l Bs w0.heap.size cap ad xs hr.2.1 hblk J Jx hY W hc' (fun j hj=>?_) h0).mono ?_
  ·refine (hb1.cell (p:=ad.add j) ?_).trans (hcell j hj)
   have hbk:(ad.add j).block=ad.block:=by unfold Addr.add;split <;> rfl
   rw [hbk];exact hblk
  ·rintro e W' ⟨he,⟨ys,rfl,hj⟩ | ⟨pre,hp,hj⟩⟩
   ·exact ⟨he,.inl ⟨_,rfl,hj⟩⟩
   ·exact ⟨he,.inr ⟨_,hp,hj⟩⟩
set_option maxRecDepth 100000 in
set_option maxHeartbeats 2000000 in
/-- slices.AppendSeq(nil, slices.Values(xs)): a row of the call's own that holds xs. -/
theorem appendVals_in (F:Fence) (n:Nat) (h3:F.fn 105) (h7:F.fn 102) (hro:F.round=none) (hn:3≤n) (Bs:Nat) (A:Option Addr) (cap:Nat) (xs:List Int) (w:World) (hBs:Bs < w.heap.size)
  (hc:w.cell? ⟨Bs,0,none⟩=some (.slice A xs.length cap)) (hr:Kd.C (Kd.int .i64) w A xs.length xs) (hlen:xs.length≤17592186044416) :
  CallsIn F n Try.prog 105 #[.slice none 0 0,.func (.func 102) #[] #[.pointer (some ⟨Bs,0,none⟩)]] w fun e W'=>∃ v,e=.returned v∧W'.ownsRow w.heap.size 3 1 v xs.length (xs.map (Value.int .i64))∧Below w.heap.size w W':=by
 have h1:1≤n:=by omega
 have hinfo:(Try.prog.info? 3).map (fun i=>(i.zero,i.size,i.bytes))=some (some (.int .i64 0),1,8):=by kernel_rfl
 obtain ⟨i0,hi,hz0,hz1,hz2⟩:=info_parts hinfo
 refine callsIn_of_wp_marks Try.func105 rfl h3 ?_ hro
 simp only [Try.ntmps105,List.size_toArray,List.length_cons,List.length_nil,Nat.reduceAdd,Nat.reduceSub,Array.replicate_succ,Array.replicate_zero,List.push_toArray,List.append_toArray,List.nil_append,List.cons_append]
 gi_wp2
 have bO:=Boxed.new w 22 (.slice none 0 0)
 have hB0:Below w.heap.size w (w.alloc (.cells #[.slice none 0 0] 22)):=(Below.refl _ w).alloc (Nat.le_refl _) _
 have hc0:(w.alloc (.cells #[.slice none 0 0] 22)).cell? ⟨Bs,0,none⟩=some (.slice A xs.length cap):=(hB0.cell (p:=⟨Bs,0,none⟩) hBs).trans hc
 refine wpIn_rangeFunc_ownG hro h1 (gf:=102) (lb:=#[.pointer (some ⟨Bs,0,none⟩)]) rfl h7 (enters_of Try.func102 (by kernel_rfl) rfl)
  (vals_stops F (n - 1) h7 hro (by omega) Bs A cap xs _ w (by simp;omega) (by simp) hc0 hr hB0) belowK_t (belowK_b (by simp)) (Below.refl _ _) (fun _=>rfl)
  (fun pre W=>(∃ v,Boxed W w.heap.size 22 v∧W.ownsRow w.heap.size 3 1 v pre.length (pre.map (Value.int .i64))∧True)∧Below w.heap.size w W)
  (fun _ _ _=>False)
  (OwnFrom.and (Own.from (holdsRow_own w.heap.size w.heap.size 22 3 1 (fun pre:List Int=>pre.length) (fun pre=>pre.map (Value.int .i64)) (fun _ _=>True)) _) (ownFrom_below (Nat.le_refl _) (by simp)))
  (fun _ _ _ _ _ hs _ _=>hs)
  ⟨⟨_,bO,World.ownsRow_nil _ _ _ _,trivial⟩,hB0⟩
  (fun x=>{ tmps:=#[.slice none 0 0,.func (.func 102) #[] #[.pointer (some ⟨Bs,0,none⟩)],.pointer (some ⟨w.heap.size,0,none⟩),undef,.slice none 0 0,.int .i64 x,.func (.func 102) #[] #[.pointer (some ⟨Bs,0,none⟩)],.int .i64 x,undef,undef,undef,undef,undef],defers:=[] }) ?assign ?body ?done ?stop
 case assign =>
  intro l x W K hK
  gi_wp2
  exact hK
 case body =>
  rintro l pre x W ⟨⟨v,hv,hrow,_⟩,hB⟩ hlt
  have hc:=hv.cell
  gi_wp2_with (gi_at_builtin;refine wpListIn_append_own _ rfl _ _ 22 rfl w.heap.size 3 i0 (.int .i64 0) 1 8 Try.underlying22 hi hz0 hz1 hz2 rfl (by decide) _ _ _ rfl (hrow.alloc _) ⟨W.heap.size,0,none⟩ 1 1 [.int .i64 x] rfl rfl (cell_one_new _ _ _) (by simp [Value.oneCell']) (by simp only [maxLen];omega) (by omega) (by have:=hB.size;simp;omega) ?_;intro v' w1 hown' hgrow _;obtain ⟨g',cap',rfl⟩:=ownsRow_succ hown';obtain ⟨hv1,hv2,hr2,hk2,hb2⟩:=hv.appended (by decide) hrow hB.size (Nat.le_refl _) hown' hgrow;have hc1:=hv1.cell;have hf1:=hv1.frozen)
  exact ⟨hk2.from _,hb2,⟨_,hv2,by simpa using hr2,trivial⟩,hB.trans hb2⟩
 case done =>
  rintro D ys W hD rfl ⟨⟨v,hv,hrow,_⟩,hB⟩ hK
  have hc:=hv.cell
  gi_wp2
  refine ⟨by simp,.inl ⟨_,_,rfl,run_takeDeferred hK,?_⟩⟩
  exact ⟨_,results_tmp rfl _ _ _,v,rfl,ownsRow_putObj hrow _ hK rfl,hB.trans (belowK_b (w:=w) (Nat.le_refl _) W D _ _ (by simp at hD;omega) hK rfl rfl)⟩
 case stop =>
  rintro D c pre W _ _ h _
  exact h.elim
end
set_option maxHeartbeats 1000000 in
theorem values_any (A:Option Addr) (n c:Nat) (w:World):Calls Try.prog 94 #[.slice A n c] w fun e w'=>e=.returned (.func (.func 102) #[] #[.pointer (some ⟨w.heap.size,0,none⟩)])∧w'=w.alloc (.cells #[.slice A n c] 22):=by
 go_enter Try.func94,Try.ntmps94
 go_wp2
 go_ret
 exact ⟨rfl,rfl⟩
set_option maxHeartbeats 1000000 in
/-- slices.Sorted(slices.Values(xs)): a row of the call's own: xs, sorted. -/
theorem sortedVals (Bs:Nat) (A:Option Addr) (cap:Nat) (xs:List Int) (w:World) (hBs:Bs < w.heap.size) (hc:w.cell? ⟨Bs,0,none⟩=some (.slice A xs.length cap)) (hr:Kd.C (Kd.int .i64) w A xs.length xs) (hlen:xs.length≤17592186044416) :
  Calls Try.prog 93 #[.func (.func 102) #[] #[.pointer (some ⟨Bs,0,none⟩)]] w fun e w'=>∃ v,e=.returned v∧Kd.R (Kd.int .i64) 3 w' w.heap.size (fun _=>True) v (xs.mergeSort fun x y=>decide (x≤y))∧Below w.heap.size w w':=by
 have cA:=(callsIn_wide (n:=3)).1 (appendVals_in Fence.wide 3 trivial trivial rfl (by omega) Bs A cap xs w hBs hc hr hlen)
 clear hr hc
 have cC:Calls Try.prog 100 #[.func (.func 102) #[] #[.pointer (some ⟨Bs,0,none⟩)]] w fun e W'=>∃ v,e=.returned v∧W'.ownsRow w.heap.size 3 1 v xs.length (xs.map (Value.int .i64))∧Below w.heap.size w W':=by
  go_enter Try.func100,Try.ntmps100
  go_wp2_with (go_at_call 105;refine cA.mono ?_;rintro e w' ⟨v,rfl,hrow,hb⟩)
  go_ret
  exact ⟨v,rfl,hrow,hb⟩
 clear cA
 have R_of:∀ (W:World) (v:Value) (ys:List Int),W.ownsRow w.heap.size 3 1 v ys.length (ys.map (Value.int .i64))→Kd.R (Kd.int .i64) 3 W w.heap.size (fun _=>True) v ys:=fun W v ys h=>Kd.R_of_own (enc:=Value.int .i64) (h1:=fun _=>rfl) h (fun _ _=>trivial)
 have HR:=zz31 R_of
 clear R_of
 go_enter Try.func93,Try.ntmps93
 go_wp2_with (go_at_call 100;refine cC.mono ?_;rintro e W ⟨v,rfl,hrow,hb⟩)
 rcases hrow.2 with ⟨rfl,hz⟩ | ⟨gb,cp,cur,rfl,hbase,hgb,r1,r2,r3,r4⟩
 ·have hx:xs=[]:=List.eq_nil_of_length_eq_zero hz
  subst hx
  have HB:=zz31 hb
  clear hb hrow hz
  go_wp2_with (go_at_call 101;refine (sortNone none 0 _).mono ?_;rintro e w' ⟨rfl,rfl⟩)
  go_ret
  exact ⟨_,rfl,by simpa using Kd.R_nil _ _ _ _ _,HB.out⟩
 ·have hH:Go.Sort.Holds (Value.int .i64) W gb 0 xs.toArray:=holds_of_blockI hgb (by simpa using r4)
  have hgl:gb < W.heap.size:=(Array.getElem?_eq_some_iff.1 hgb).1
  have cS:=sortInts gb 0 cp xs W hH hgl (by omega)
  have HB:=zz31 hb
  have HG:=zz31 hgb
  have R1:=zz31 r1
  have R2:=zz31 r2
  have R3:=zz31 r3
  clear hrow hb hgb r1 r2 r3 r4 hH hgl
  go_wp2_with (go_at_call 101;refine cS.mono ?_;rintro e w' ⟨rfl,nn,os,rfl⟩)
  go_ret
  have hml:(xs.mergeSort fun x y=>decide (x≤y)).length=xs.length:=List.length_mergeSort _
  exact ⟨_,rfl,HR.out _ _ _ (by rw [hml];exact ownsRow_sortedI hml hbase HG.out R1.out R2.out R3.out),HB.out.grown (grownBy_sortedI _) HB.out.size (fun j hj=>by cases hj;exact hbase)⟩
def impl_falling.f (k:Nat) (l0:List Int):Option (List Int):=if l0.length≤17592186044416 then slices_Reverse_int_int.f k (l0.mergeSort fun x y=>decide (x≤y)) else none
theorem impl_falling.mono:∀ a0 k,LeO (impl_falling.f k a0) (impl_falling.f (k+1) a0):=by
 intro a0 k
 unfold impl_falling.f
 exact LeO.ite (slices_Reverse_int_int.mono _ _) (LeO.none _)
set_option maxHeartbeats 1000000 in
theorem impl_falling.calls (k:Nat) (A0:Option Addr) (c0:Nat) (l0:List Int) (r:List Int) (w:World) (hr0:Kd.C (Kd.int .i64) w A0 l0.length l0) (hc0:l0.length≤c0) (h:impl_falling.f k l0=some r) :
  Calls Try.prog 71 #[.slice A0 l0.length c0] w fun e w'=>∃ v0_:Value,e=.returned (v0_)∧Kd.R (Kd.int .i64) 3 w' w.heap.size (fun _=>True) v0_ r∧Below w.heap.size w w':=by
 unfold impl_falling.f at h
 by_cases hl:l0.length≤17592186044416
 case neg=>rw [if_neg hl] at h;exact absurd h (by simp)
 rw [if_pos hl] at h
 have H:=zz31 h
 have cS:Calls Try.prog 93 #[.func (.func 102) #[] #[.pointer (some ⟨w.heap.size,0,none⟩)]] (w.alloc (.cells #[.slice A0 l0.length c0] 22)) fun e w'=>∃ v,e=.returned v∧Aside0 (Kd.R (Kd.int .i64) 3 w' w.heap.size (fun _=>True) v (l0.mergeSort fun x y=>decide (x≤y)))∧Aside0 (Below w.heap.size w w') :=
  (sortedVals w.heap.size A0 c0 l0 (w.alloc (.cells #[.slice A0 l0.length c0] 22)) (by simp) (by simp) (zz18 hr0 _) hl).mono fun e w' ⟨v,he,hR,hb⟩=>⟨v,he,⟨Kd.R_lower hR (by simp)⟩,⟨((Below.refl w.heap.size w).alloc (Nat.le_refl _) _).trans (hb.mono (by simp))⟩⟩
 clear h hr0 hl hc0
 go_enter Try.func71,Try.ntmps71
 go_wp2_with (first | (go_at_call 94;refine (values_any _ _ _ _).mono ?_;rintro e w' ⟨rfl,hw⟩;obtain rfl:=hw.symm;clear hw) | (go_at_call 93;refine cS.mono ?_;rintro e w2 ⟨v,rfl,HR,HB⟩) | (go_at_call 95;refine (slices_Reverse_int_int.calls k (fun _=>True) v _ r w w2 HB.out HR.out H.out).mono ?_;rintro e w3 ⟨rfl,hR,hb,hk⟩;clear hk;have HB2:=zz31 hb;have HR2:=zz31 hR;clear hb hR;clear HB HR))
 go_ret
 exact ⟨_,rfl,Kd.R_mono HR2.out (fun _ _=>trivial),HB2.out⟩

end Go.Proofs.Ytjipjcdeoajnjaa.P
