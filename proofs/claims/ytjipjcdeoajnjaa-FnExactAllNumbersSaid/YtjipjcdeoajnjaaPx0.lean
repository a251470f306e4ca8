-- PRINTED by print.py (a twelfth state) out of the translation. Not trusted: Lean checks it.
import Derived.Test.YtjipjcdeoajnjaaProg
import Derived.Below
import Derived.Deep.Draws
import Derived.Deep.AppendLies
import Derived.Maps.AppendAt
import Derived.OwnWalk
import Derived.Laws.BytesArg
import Derived.Laws.MakeOwn
import Derived.Laws.OwnMore
import Derived.Deep.OwnRows
import Derived.Tactics
import Derived.Lib.ConvBytes
import Derived.Laws.Slices
import Derived.WalkKit
import Derived.KernelRfl
import Derived.RowKit3
import Derived.Deep.LoopGhost
import Derived.Deep.QuietTactic
import Derived.BigQuiet
import Derived.WideLaws
import Derived.Deep.DeepCutAuto
import Derived.Deep.CutBlock
import Derived.Deep.RegionHeld3
import Derived.Laws.Rows
import Derived.Lib.AppendStr
import Derived.ArgAppend
import Derived.Laws.IdiomCopy
import Derived.OrdersHeld
import Derived.Laws.BitsLemmas
import Derived.RowKit
import Derived.Shelf.Abstract
import Derived.WalkSpells
import Derived.Lib.BufferMore
import Derived.Shelf.Sort.Plain
import Derived.Shelf.Slices.In.SortNone
import Derived.Sort.OwnSortedInts
import Derived.RangeFuncBox
import Derived.RangeFuncLeaves
import Derived.Shelf.AbstractIn
import Derived.OwnWalkIn
import Derived.TacticsInMore
import Derived.LoopNIn
import Derived.LoopIn
import Derived.Maps.AppendAt
import Derived.Deep.RegionLaw
import Derived.Laws.EntriesVeiled
import Derived.Deep.RegionHeld3
import Derived.Deep.DrawnRows
import Derived.Deep.Cut
import Derived.Test.YtjipjcdeoajnjaaWWords
import Derived.Test.YtjipjcdeoajnjaaWLast
import Derived.Test.YtjipjcdeoajnjaaWTab
import Derived.Test.YtjipjcdeoajnjaaWRepsOne
import Derived.Test.YtjipjcdeoajnjaaWMore
namespace Go.Proofs.Ytjipjcdeoajnjaa.P
open Go.RowKit Go.Proofs.YtjipjcdeoajnjaaW.PrintWords Go.Proofs.YtjipjcdeoajnjaaW.PrintLast Go.Proofs.YtjipjcdeoajnjaaW.PrintMore
attribute [local go_sem] max2_int min2_int max_two min_two max_three min_three max_four min_four   -- for this text's walks alone
set_option linter.unusedVariables false
set_option linter.unusedSimpArgs false



def errW:Option Int→Value
  | none=>.nilIface
  | some c=>.iface 0 (.int .i64 c)
theorem errW_none:errW none=.nilIface:=rfl
theorem errW_some (c:Int):errW (some c)=.iface 0 (.int .i64 c):=rfl

theorem info3:(Try.prog.info? 3).map (fun i=>(i.zero,i.size,i.bytes))=some (some (.int .i64 0),1,8):=by kernel_rfl
-- the values' own types
def rd_L1 (xs:List (List Int)) (i:Int):(List Int):=xs.getD i.toNat ([]:List Int)
theorem at_L1 {w:World} {A:Option Addr} {n:Nat} {xs:List (List Int)} (h:Kd.C (Kd.slice 3 (Kd.int .i64)) w A n xs) (i:Int) (h0:0≤i) (h1:i < n):∃ ad A0 c0,A=some ad∧w.cell? (ad.add i.toNat)=some (.slice A0 (rd_L1 xs i).length c0)∧(rd_L1 xs i).length≤c0∧(Kd.int .i64).C w A0 (rd_L1 xs i).length (rd_L1 xs i):=by
  obtain ⟨ad,c,e,_,hK,hc0⟩:=Kd.C_get h ([]:List Int) i h0 h1
  have hc:∀ j u,c[j]?=some u→w.cell? (ad.add (i.toNat * 1+j))=some u:=hc0
  obtain ⟨A0,c0,rfl,l0,g0⟩:=hK
  exact ⟨ad,A0,c0,e,by have hq:=hc 0 _ rfl;rwa [Nat.mul_one,Nat.add_zero] at hq,l0,g0⟩

def rd_L2 (xs:List (List (List Int))) (i:Int):(List (List Int)):=xs.getD i.toNat ([]:List (List Int))
theorem at_L2 {w:World} {A:Option Addr} {n:Nat} {xs:List (List (List Int))} (h:Kd.C (Kd.slice 22 (Kd.slice 3 (Kd.int .i64))) w A n xs) (i:Int) (h0:0≤i) (h1:i < n):∃ ad A0 c0,A=some ad∧w.cell? (ad.add i.toNat)=some (.slice A0 (rd_L2 xs i).length c0)∧(rd_L2 xs i).length≤c0∧(Kd.slice 3 (Kd.int .i64)).C w A0 (rd_L2 xs i).length (rd_L2 xs i):=by
  obtain ⟨ad,c,e,_,hK,hc0⟩:=Kd.C_get h ([]:List (List Int)) i h0 h1
  have hc:∀ j u,c[j]?=some u→w.cell? (ad.add (i.toNat * 1+j))=some u:=hc0
  obtain ⟨A0,c0,rfl,l0,g0⟩:=hK
  exact ⟨ad,A0,c0,e,by have hq:=hc 0 _ rfl;rwa [Nat.mul_one,Nat.add_zero] at hq,l0,g0⟩

-- short names for what the printed proofs say most often
theorem zz0:type_of% @pw_below_drewN:=@pw_below_drewN
theorem zz1:type_of% @below_drew1:=@below_drew1
theorem zz2:type_of% @below_alloc:=@below_alloc
theorem zz3:type_of% @below_set:=@below_set
theorem zz4:type_of% @below_step:=@below_step
theorem zz5:type_of% @below_size:=@below_size
theorem zz6:type_of% @blk_drewN:=@blk_drewN
theorem zz7:type_of% @blk_drew:=@blk_drew
theorem zz8:type_of% @blk_alloc:=@blk_alloc
theorem zz9:type_of% @blk_cell:=@blk_cell
theorem zz10:type_of% @blk_frozen:=@blk_frozen
theorem zz11:type_of% @blk_below:=@blk_below
theorem zz12:type_of% @Kd.R_alloc:=@Kd.R_alloc
theorem zz13:type_of% @Kd.R_drewN:=@Kd.R_drewN
theorem zz14:type_of% @Kd.R_drew:=@Kd.R_drew
theorem zz16:type_of% @Kd.S_drewN:=@Kd.S_drewN
theorem zz17:type_of% @Kd.S_drew:=@Kd.S_drew
theorem zz18:type_of% @Kd.C_alloc:=@Kd.C_alloc
theorem zz19:type_of% @Kd.C_drewN:=@Kd.C_drewN
theorem zz20:type_of% @Kd.C_drew:=@Kd.C_drew
theorem zz21:type_of% @List.setIfInBounds_toArray:=@List.setIfInBounds_toArray
theorem zz22:type_of% @List.set_cons_zero:=@List.set_cons_zero
theorem zz23:type_of% @List.set_cons_succ:=@List.set_cons_succ
theorem zz24:type_of% @List.length_drop:=@List.length_drop
theorem zz25:type_of% @List.length_take:=@List.length_take
theorem zz26:type_of% @List.map_toArray:=@List.map_toArray
theorem zz27:type_of% @List.map_cons:=@List.map_cons
theorem zz28:type_of% @List.map_nil:=@List.map_nil
theorem zz29:type_of% @of_decide_eq_true:=@of_decide_eq_true
theorem zz30:type_of% @Option.bind_eq_some_iff:=@Option.bind_eq_some_iff
theorem zz31:type_of% @Aside0.mk:=@Aside0.mk
end Go.Proofs.Ytjipjcdeoajnjaa.P
