/-
  No cell of these rows narrows 'for every input' (looked for: loops, veiled, ifaces, maps, wideKeys, modest, calm, conditions, laid).
  DERIVED. THE GIVEN ROWS OF THIS SEAT. 6 by the template 'for every input the law returns true; each argument reads behind the call as it read before'; 0 by the template 'total and deterministic' (their statements: YtifkaefccghgdaaTotals.lean).
  GIVEN WITH THE SEED: the statements are not yours to turn. If you find one false, say at which input.
  Laid BY PROGRAM, IN A SANDBOX (cutbox-rows.mjs): the forced cells as the released guide's own fill.sh prints them over the translation 7a15f29350114d0a… (all of the seat's roots in one cut). By AI agents, Wed Nov 11 2026. No macro, syntax, notation, axiom, sorry.
-/
import Derived.Test.YtifkaefccghgdaaChecked
import GoSem.Claim
import GoSem.ClaimJoined
import GoSem.ClaimMapViews
import Derived.JoinedTies
import Derived.KernelRfl
namespace Go.Proofs.Ytifkaefccghgdaa
/- THE CELL 'sum', in the pinned program and in every row, IS THE sha256 OF THE DUMP (.gsa) THAT YtifkaefccghgdaaProg.lean LOADS. Nothing in Lean hashes anything: it is a label: what it is worth is what the hold of that sum in a sandbox is worth. -/
noncomputable def Try.pinned : Pinned := { name := "ytifkaefccghgdaa", sum := "7a15f29350114d0a957f4044d382fb164924bf37c4b8fe313faf540dc71770db", checked := Try.checked }
namespace Rows
def none {H : Type} : Left H := { results := [], args := [] }

/-- 'laws.FnExactGrowGroup': WHATEVER THE INPUT: true; the input reads as it did. -/
def fnExactGrowGroupSpec : ChangeSpec := { name := "fnExactGrowGroup", fn := fun _ => fun
  | [d1, d2] => { results := [.lit (.bool true)], args := [d1, d2] }
  | _ => none }
def fnExactGrowGroupRow : OpenClaim := { program := "ytifkaefccghgdaa", sum := "7a15f29350114d0a957f4044d382fb164924bf37c4b8fe313faf540dc71770db", func := "loop.example/g01257/laws.FnExactGrowGroup", spec := "fnExactGrowGroup", unfollowed := true, recurses := true, apart := false }
def FnExactGrowGroupSaid : Prop := fnExactGrowGroupRow.holds Try.pinned (OpenSpec.ofChange fnExactGrowGroupSpec)

/-- ITS FALSE NEIGHBOUR: 'it returns false'. Refute it at one input. -/
def fnExactGrowGroupWrong : ChangeSpec := { name := "fnExactGrowGroup", fn := fun _ => fun
  | [d1, d2] => { results := [.lit (.bool false)], args := [d1, d2] }
  | _ => none }
def FnExactGrowGroupWrongFalsely : Prop := fnExactGrowGroupRow.holds Try.pinned (OpenSpec.ofChange fnExactGrowGroupWrong)

/-- 'laws.FnExactCountColourings': WHATEVER THE INPUT: true; the input reads as it did. -/
def fnExactCountColouringsSpec : ChangeSpec := { name := "fnExactCountColourings", fn := fun _ => fun
  | [d1, d2] => { results := [.lit (.bool true)], args := [d1, d2] }
  | _ => none }
def fnExactCountColouringsRow : OpenClaim := { program := "ytifkaefccghgdaa", sum := "7a15f29350114d0a957f4044d382fb164924bf37c4b8fe313faf540dc71770db", func := "loop.example/g01257/laws.FnExactCountColourings", spec := "fnExactCountColourings", unfollowed := true, recurses := true, apart := false }
def FnExactCountColouringsSaid : Prop := fnExactCountColouringsRow.holds Try.pinned (OpenSpec.ofChange fnExactCountColouringsSpec)

/-- ITS FALSE NEIGHBOUR: 'it returns false'. Refute it at one input. -/
def fnExactCountColouringsWrong : ChangeSpec := { name := "fnExactCountColourings", fn := fun _ => fun
  | [d1, d2] => { results := [.lit (.bool false)], args := [d1, d2] }
  | _ => none }
def FnExactCountColouringsWrongFalsely : Prop := fnExactCountColouringsRow.holds Try.pinned (OpenSpec.ofChange fnExactCountColouringsWrong)

/-- 'laws.FnExactFewestColours': WHATEVER THE INPUT: true; the input reads as it did. -/
def fnExactFewestColoursSpec : ChangeSpec := { name := "fnExactFewestColours", fn := fun _ => fun
  | [d] => { results := [.lit (.bool true)], args := [d] }
  | _ => none }
def fnExactFewestColoursRow : OpenClaim := { program := "ytifkaefccghgdaa", sum := "7a15f29350114d0a957f4044d382fb164924bf37c4b8fe313faf540dc71770db", func := "loop.example/g01257/laws.FnExactFewestColours", spec := "fnExactFewestColours", unfollowed := true, recurses := true, apart := false }
def FnExactFewestColoursSaid : Prop := fnExactFewestColoursRow.holds Try.pinned (OpenSpec.ofChange fnExactFewestColoursSpec)

/-- ITS FALSE NEIGHBOUR: 'it returns false'. Refute it at one input. -/
def fnExactFewestColoursWrong : ChangeSpec := { name := "fnExactFewestColours", fn := fun _ => fun
  | [d] => { results := [.lit (.bool false)], args := [d] }
  | _ => none }
def FnExactFewestColoursWrongFalsely : Prop := fnExactFewestColoursRow.holds Try.pinned (OpenSpec.ofChange fnExactFewestColoursWrong)

/-- 'laws.FnExactFewestGroups': WHATEVER THE INPUT: true; the input reads as it did. -/
def fnExactFewestGroupsSpec : ChangeSpec := { name := "fnExactFewestGroups", fn := fun _ => fun
  | [d] => { results := [.lit (.bool true)], args := [d] }
  | _ => none }
def fnExactFewestGroupsRow : OpenClaim := { program := "ytifkaefccghgdaa", sum := "7a15f29350114d0a957f4044d382fb164924bf37c4b8fe313faf540dc71770db", func := "loop.example/g01257/laws.FnExactFewestGroups", spec := "fnExactFewestGroups", unfollowed := true, recurses := true, apart := false }
def FnExactFewestGroupsSaid : Prop := fnExactFewestGroupsRow.holds Try.pinned (OpenSpec.ofChange fnExactFewestGroupsSpec)

/-- ITS FALSE NEIGHBOUR: 'it returns false'. Refute it at one input. -/
def fnExactFewestGroupsWrong : ChangeSpec := { name := "fnExactFewestGroups", fn := fun _ => fun
  | [d] => { results := [.lit (.bool false)], args := [d] }
  | _ => none }
def FnExactFewestGroupsWrongFalsely : Prop := fnExactFewestGroupsRow.holds Try.pinned (OpenSpec.ofChange fnExactFewestGroupsWrong)

/-- 'laws.FnExactFirstColouring': WHATEVER THE INPUT: true; the input reads as it did. -/
def fnExactFirstColouringSpec : ChangeSpec := { name := "fnExactFirstColouring", fn := fun _ => fun
  | [d] => { results := [.lit (.bool true)], args := [d] }
  | _ => none }
def fnExactFirstColouringRow : OpenClaim := { program := "ytifkaefccghgdaa", sum := "7a15f29350114d0a957f4044d382fb164924bf37c4b8fe313faf540dc71770db", func := "loop.example/g01257/laws.FnExactFirstColouring", spec := "fnExactFirstColouring", unfollowed := true, recurses := true, apart := false }
def FnExactFirstColouringSaid : Prop := fnExactFirstColouringRow.holds Try.pinned (OpenSpec.ofChange fnExactFirstColouringSpec)

/-- ITS FALSE NEIGHBOUR: 'it returns false'. Refute it at one input. -/
def fnExactFirstColouringWrong : ChangeSpec := { name := "fnExactFirstColouring", fn := fun _ => fun
  | [d] => { results := [.lit (.bool false)], args := [d] }
  | _ => none }
def FnExactFirstColouringWrongFalsely : Prop := fnExactFirstColouringRow.holds Try.pinned (OpenSpec.ofChange fnExactFirstColouringWrong)

/-- 'laws.FnExactGroupsOfParty': WHATEVER THE INPUT: true; the input reads as it did. -/
def fnExactGroupsOfPartySpec : ChangeSpec := { name := "fnExactGroupsOfParty", fn := fun _ => fun
  | [d] => { results := [.lit (.bool true)], args := [d] }
  | _ => none }
def fnExactGroupsOfPartyRow : OpenClaim := { program := "ytifkaefccghgdaa", sum := "7a15f29350114d0a957f4044d382fb164924bf37c4b8fe313faf540dc71770db", func := "loop.example/g01257/laws.FnExactGroupsOfParty", spec := "fnExactGroupsOfParty", unfollowed := true, recurses := true, apart := false }
def FnExactGroupsOfPartySaid : Prop := fnExactGroupsOfPartyRow.holds Try.pinned (OpenSpec.ofChange fnExactGroupsOfPartySpec)

/-- ITS FALSE NEIGHBOUR: 'it returns false'. Refute it at one input. -/
def fnExactGroupsOfPartyWrong : ChangeSpec := { name := "fnExactGroupsOfParty", fn := fun _ => fun
  | [d] => { results := [.lit (.bool false)], args := [d] }
  | _ => none }
def FnExactGroupsOfPartyWrongFalsely : Prop := fnExactGroupsOfPartyRow.holds Try.pinned (OpenSpec.ofChange fnExactGroupsOfPartyWrong)

/- THE SECOND FORM. 'bulk': how many values and letters a reading holds, each counted each time it is reached (what is shared counts as often as it is met; a slice's spare places count too). A statement '..UptoSaid' is the law's where the arguments, and the package variables that the reading takes, are together of bulk at most 1048576: NARROWER than '..Said'. Prove '..Said' where nothing that the law and all that it calls make is longer than what came in: it says more and counts as full. Else prove '..UptoSaid'. A law counts once. -/
mutual
def uptoBulk {H : Type} : DataW H → Nat
  | .lit (.string bytes) => bytes.length + 1
  | .lit _ => 1
  | .nil => 1
  | .ptr d => uptoBulk d + 1
  | .slice elems spare => uptoBulkAll elems + uptoBulkAll spare + 1
  | .agg parts => uptoBulkAll parts + 1
  | .iface _ d => uptoBulk d + 1
  | .map entries => uptoBulkEntries entries + 1
  | .held _ => 1
def uptoBulkAll {H : Type} : List (DataW H) → Nat
  | [] => 0
  | d :: r => uptoBulk d + uptoBulkAll r
def uptoBulkEntries {H : Type} : List (Lit × DataW H) → Nat
  | [] => 0
  | x :: r => uptoBulkEntry x + uptoBulkEntries r
def uptoBulkEntry {H : Type} : Lit × DataW H → Nat
  | (.string bytes, d) => bytes.length + uptoBulk d + 1
  | (_, d) => uptoBulk d + 1
 end
def uptoSmall : (H : Type) → List (DataW H) → Bool := fun _ ds => decide (uptoBulkAll ds ≤ 1048576)
def OpenSpec.upto (s : _root_.Go.ChangeSpec) : _root_.Go.OpenSpec := { _root_.Go.OpenSpec.ofChange s with cond := some uptoSmall }

/-- 'laws.FnExactGrowGroup', WHERE WHAT IT READS IS OF BULK AT MOST 1048576: true; the input reads as it did. -/
def fnExactGrowGroupUptoRow : OpenClaim := { program := "ytifkaefccghgdaa", sum := "7a15f29350114d0a957f4044d382fb164924bf37c4b8fe313faf540dc71770db", func := "loop.example/g01257/laws.FnExactGrowGroup", spec := "fnExactGrowGroup", unfollowed := true, recurses := true, apart := false, narrowed := true }
def FnExactGrowGroupUptoSaid : Prop := fnExactGrowGroupUptoRow.holds Try.pinned (OpenSpec.upto fnExactGrowGroupSpec)

/-- 'laws.FnExactCountColourings', WHERE WHAT IT READS IS OF BULK AT MOST 1048576: true; the input reads as it did. -/
def fnExactCountColouringsUptoRow : OpenClaim := { program := "ytifkaefccghgdaa", sum := "7a15f29350114d0a957f4044d382fb164924bf37c4b8fe313faf540dc71770db", func := "loop.example/g01257/laws.FnExactCountColourings", spec := "fnExactCountColourings", unfollowed := true, recurses := true, apart := false, narrowed := true }
def FnExactCountColouringsUptoSaid : Prop := fnExactCountColouringsUptoRow.holds Try.pinned (OpenSpec.upto fnExactCountColouringsSpec)

/-- 'laws.FnExactFewestColours', WHERE WHAT IT READS IS OF BULK AT MOST 1048576: true; the input reads as it did. -/
def fnExactFewestColoursUptoRow : OpenClaim := { program := "ytifkaefccghgdaa", sum := "7a15f29350114d0a957f4044d382fb164924bf37c4b8fe313faf540dc71770db", func := "loop.example/g01257/laws.FnExactFewestColours", spec := "fnExactFewestColours", unfollowed := true, recurses := true, apart := false, narrowed := true }
def FnExactFewestColoursUptoSaid : Prop := fnExactFewestColoursUptoRow.holds Try.pinned (OpenSpec.upto fnExactFewestColoursSpec)

/-- 'laws.FnExactFewestGroups', WHERE WHAT IT READS IS OF BULK AT MOST 1048576: true; the input reads as it did. -/
def fnExactFewestGroupsUptoRow : OpenClaim := { program := "ytifkaefccghgdaa", sum := "7a15f29350114d0a957f4044d382fb164924bf37c4b8fe313faf540dc71770db", func := "loop.example/g01257/laws.FnExactFewestGroups", spec := "fnExactFewestGroups", unfollowed := true, recurses := true, apart := false, narrowed := true }
def FnExactFewestGroupsUptoSaid : Prop := fnExactFewestGroupsUptoRow.holds Try.pinned (OpenSpec.upto fnExactFewestGroupsSpec)

/-- 'laws.FnExactFirstColouring', WHERE WHAT IT READS IS OF BULK AT MOST 1048576: true; the input reads as it did. -/
def fnExactFirstColouringUptoRow : OpenClaim := { program := "ytifkaefccghgdaa", sum := "7a15f29350114d0a957f4044d382fb164924bf37c4b8fe313faf540dc71770db", func := "loop.example/g01257/laws.FnExactFirstColouring", spec := "fnExactFirstColouring", unfollowed := true, recurses := true, apart := false, narrowed := true }
def FnExactFirstColouringUptoSaid : Prop := fnExactFirstColouringUptoRow.holds Try.pinned (OpenSpec.upto fnExactFirstColouringSpec)

/-- 'laws.FnExactGroupsOfParty', WHERE WHAT IT READS IS OF BULK AT MOST 1048576: true; the input reads as it did. -/
def fnExactGroupsOfPartyUptoRow : OpenClaim := { program := "ytifkaefccghgdaa", sum := "7a15f29350114d0a957f4044d382fb164924bf37c4b8fe313faf540dc71770db", func := "loop.example/g01257/laws.FnExactGroupsOfParty", spec := "fnExactGroupsOfParty", unfollowed := true, recurses := true, apart := false, narrowed := true }
def FnExactGroupsOfPartyUptoSaid : Prop := fnExactGroupsOfPartyUptoRow.holds Try.pinned (OpenSpec.upto fnExactGroupsOfPartySpec)

end Rows
end Go.Proofs.Ytifkaefccghgdaa
