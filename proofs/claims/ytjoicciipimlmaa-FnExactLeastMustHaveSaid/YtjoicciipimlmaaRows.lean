/-
  No cell of these rows narrows 'for every input' (looked for: loops, veiled, ifaces, maps, wideKeys, modest, calm, conditions, laid).
  DERIVED. THE GIVEN ROWS OF THIS SEAT. 7 by the template 'for every input the law returns true; each argument reads behind the call as it read before'; 0 by the template 'total and deterministic' (their statements: YtjoicciipimlmaaTotals.lean).
  GIVEN WITH THE SEED: the statements are not yours to turn. If you find one false, say at which input.
  Laid BY PROGRAM, IN A SANDBOX (cutbox-rows.mjs): the forced cells as the released guide's own fill.sh prints them over the translation f179e4eb05c0f76c… (all of the seat's roots in one cut). By AI agents, Wed Nov 11 2026. No macro, syntax, notation, axiom, sorry.
-/
import Derived.Test.YtjoicciipimlmaaChecked
import GoSem.Claim
import GoSem.ClaimJoined
import GoSem.ClaimMapViews
import Derived.JoinedTies
import Derived.KernelRfl
namespace Go.Proofs.Ytjoicciipimlmaa
/- THE CELL 'sum', in the pinned program and in every row, IS THE sha256 OF THE DUMP (.gsa) THAT YtjoicciipimlmaaProg.lean LOADS. Nothing in Lean hashes anything: it is a label: what it is worth is what the hold of that sum in a sandbox is worth. -/
noncomputable def Try.pinned : Pinned := { name := "ytjoicciipimlmaa", sum := "f179e4eb05c0f76c5ac2d3fb4fa7bce234dbdeb01b431562aff34beb3f6a538a", checked := Try.checked }
namespace Rows
def none {H : Type} : Left H := { results := [], args := [] }

/-- 'laws.FnExactConstants': WHATEVER THE INPUT: true; the input reads as it did. -/
def fnExactConstantsSpec : ChangeSpec := { name := "fnExactConstants", fn := fun _ => fun
  | [] => { results := [.lit (.bool true)], args := [] }
  | _ => none }
def fnExactConstantsRow : OpenClaim := { program := "ytjoicciipimlmaa", sum := "f179e4eb05c0f76c5ac2d3fb4fa7bce234dbdeb01b431562aff34beb3f6a538a", func := "loop.example/g01257/laws.FnExactConstants", spec := "fnExactConstants", apart := false }
def FnExactConstantsSaid : Prop := fnExactConstantsRow.holds Try.pinned (OpenSpec.ofChange fnExactConstantsSpec)

/-- ITS FALSE NEIGHBOUR: 'it returns false'. Refute it at one input. -/
def fnExactConstantsWrong : ChangeSpec := { name := "fnExactConstants", fn := fun _ => fun
  | [] => { results := [.lit (.bool false)], args := [] }
  | _ => none }
def FnExactConstantsWrongFalsely : Prop := fnExactConstantsRow.holds Try.pinned (OpenSpec.ofChange fnExactConstantsWrong)

/-- 'laws.FnExactLeastMustHave': WHATEVER THE INPUT: true; the input reads as it did. -/
def fnExactLeastMustHaveSpec : ChangeSpec := { name := "fnExactLeastMustHave", fn := fun _ => fun
  | [d1, d2] => { results := [.lit (.bool true)], args := [d1, d2] }
  | _ => none }
def fnExactLeastMustHaveRow : OpenClaim := { program := "ytjoicciipimlmaa", sum := "f179e4eb05c0f76c5ac2d3fb4fa7bce234dbdeb01b431562aff34beb3f6a538a", func := "loop.example/g01257/laws.FnExactLeastMustHave", spec := "fnExactLeastMustHave", apart := false }
def FnExactLeastMustHaveSaid : Prop := fnExactLeastMustHaveRow.holds Try.pinned (OpenSpec.ofChange fnExactLeastMustHaveSpec)

/-- ITS FALSE NEIGHBOUR: 'it returns false'. Refute it at one input. -/
def fnExactLeastMustHaveWrong : ChangeSpec := { name := "fnExactLeastMustHave", fn := fun _ => fun
  | [d1, d2] => { results := [.lit (.bool false)], args := [d1, d2] }
  | _ => none }
def FnExactLeastMustHaveWrongFalsely : Prop := fnExactLeastMustHaveRow.holds Try.pinned (OpenSpec.ofChange fnExactLeastMustHaveWrong)

/-- 'laws.FnExactGroupBound': WHATEVER THE INPUT: true; the input reads as it did. -/
def fnExactGroupBoundSpec : ChangeSpec := { name := "fnExactGroupBound", fn := fun _ => fun
  | [d1, d2] => { results := [.lit (.bool true)], args := [d1, d2] }
  | _ => none }
def fnExactGroupBoundRow : OpenClaim := { program := "ytjoicciipimlmaa", sum := "f179e4eb05c0f76c5ac2d3fb4fa7bce234dbdeb01b431562aff34beb3f6a538a", func := "loop.example/g01257/laws.FnExactGroupBound", spec := "fnExactGroupBound", apart := false }
def FnExactGroupBoundSaid : Prop := fnExactGroupBoundRow.holds Try.pinned (OpenSpec.ofChange fnExactGroupBoundSpec)

/-- ITS FALSE NEIGHBOUR: 'it returns false'. Refute it at one input. -/
def fnExactGroupBoundWrong : ChangeSpec := { name := "fnExactGroupBound", fn := fun _ => fun
  | [d1, d2] => { results := [.lit (.bool false)], args := [d1, d2] }
  | _ => none }
def FnExactGroupBoundWrongFalsely : Prop := fnExactGroupBoundRow.holds Try.pinned (OpenSpec.ofChange fnExactGroupBoundWrong)

/-- 'laws.FnExactLeastOneKind': WHATEVER THE INPUT: true; the input reads as it did. -/
def fnExactLeastOneKindSpec : ChangeSpec := { name := "fnExactLeastOneKind", fn := fun _ => fun
  | [d] => { results := [.lit (.bool true)], args := [d] }
  | _ => none }
def fnExactLeastOneKindRow : OpenClaim := { program := "ytjoicciipimlmaa", sum := "f179e4eb05c0f76c5ac2d3fb4fa7bce234dbdeb01b431562aff34beb3f6a538a", func := "loop.example/g01257/laws.FnExactLeastOneKind", spec := "fnExactLeastOneKind", apart := false }
def FnExactLeastOneKindSaid : Prop := fnExactLeastOneKindRow.holds Try.pinned (OpenSpec.ofChange fnExactLeastOneKindSpec)

/-- ITS FALSE NEIGHBOUR: 'it returns false'. Refute it at one input. -/
def fnExactLeastOneKindWrong : ChangeSpec := { name := "fnExactLeastOneKind", fn := fun _ => fun
  | [d] => { results := [.lit (.bool false)], args := [d] }
  | _ => none }
def FnExactLeastOneKindWrongFalsely : Prop := fnExactLeastOneKindRow.holds Try.pinned (OpenSpec.ofChange fnExactLeastOneKindWrong)

/-- 'laws.FnExactIsNumbers': WHATEVER THE INPUT: true; the input reads as it did. -/
def fnExactIsNumbersSpec : ChangeSpec := { name := "fnExactIsNumbers", fn := fun _ => fun
  | [d] => { results := [.lit (.bool true)], args := [d] }
  | _ => none }
def fnExactIsNumbersRow : OpenClaim := { program := "ytjoicciipimlmaa", sum := "f179e4eb05c0f76c5ac2d3fb4fa7bce234dbdeb01b431562aff34beb3f6a538a", func := "loop.example/g01257/laws.FnExactIsNumbers", spec := "fnExactIsNumbers", unfollowed := true, recurses := true, apart := false }
def FnExactIsNumbersSaid : Prop := fnExactIsNumbersRow.holds Try.pinned (OpenSpec.ofChange fnExactIsNumbersSpec)

/-- ITS FALSE NEIGHBOUR: 'it returns false'. Refute it at one input. -/
def fnExactIsNumbersWrong : ChangeSpec := { name := "fnExactIsNumbers", fn := fun _ => fun
  | [d] => { results := [.lit (.bool false)], args := [d] }
  | _ => none }
def FnExactIsNumbersWrongFalsely : Prop := fnExactIsNumbersRow.holds Try.pinned (OpenSpec.ofChange fnExactIsNumbersWrong)

/-- 'laws.FnExactEmptyParty': WHATEVER THE INPUT: true; the input reads as it did. -/
def fnExactEmptyPartySpec : ChangeSpec := { name := "fnExactEmptyParty", fn := fun _ => fun
  | [d] => { results := [.lit (.bool true)], args := [d] }
  | _ => none }
def fnExactEmptyPartyRow : OpenClaim := { program := "ytjoicciipimlmaa", sum := "f179e4eb05c0f76c5ac2d3fb4fa7bce234dbdeb01b431562aff34beb3f6a538a", func := "loop.example/g01257/laws.FnExactEmptyParty", spec := "fnExactEmptyParty", apart := false }
def FnExactEmptyPartySaid : Prop := fnExactEmptyPartyRow.holds Try.pinned (OpenSpec.ofChange fnExactEmptyPartySpec)

/-- ITS FALSE NEIGHBOUR: 'it returns false'. Refute it at one input. -/
def fnExactEmptyPartyWrong : ChangeSpec := { name := "fnExactEmptyParty", fn := fun _ => fun
  | [d] => { results := [.lit (.bool false)], args := [d] }
  | _ => none }
def FnExactEmptyPartyWrongFalsely : Prop := fnExactEmptyPartyRow.holds Try.pinned (OpenSpec.ofChange fnExactEmptyPartyWrong)

/-- 'laws.FnExactOtherNumbers': WHATEVER THE INPUT: true; the input reads as it did. -/
def fnExactOtherNumbersSpec : ChangeSpec := { name := "fnExactOtherNumbers", fn := fun _ => fun
  | [d] => { results := [.lit (.bool true)], args := [d] }
  | _ => none }
def fnExactOtherNumbersRow : OpenClaim := { program := "ytjoicciipimlmaa", sum := "f179e4eb05c0f76c5ac2d3fb4fa7bce234dbdeb01b431562aff34beb3f6a538a", func := "loop.example/g01257/laws.FnExactOtherNumbers", spec := "fnExactOtherNumbers", unfollowed := true, recurses := true, apart := false }
def FnExactOtherNumbersSaid : Prop := fnExactOtherNumbersRow.holds Try.pinned (OpenSpec.ofChange fnExactOtherNumbersSpec)

/-- ITS FALSE NEIGHBOUR: 'it returns false'. Refute it at one input. -/
def fnExactOtherNumbersWrong : ChangeSpec := { name := "fnExactOtherNumbers", fn := fun _ => fun
  | [d] => { results := [.lit (.bool false)], args := [d] }
  | _ => none }
def FnExactOtherNumbersWrongFalsely : Prop := fnExactOtherNumbersRow.holds Try.pinned (OpenSpec.ofChange fnExactOtherNumbersWrong)

/- THE SECOND FORM. 'bulk': how many values and letters a reading holds, each counted each time it is reached (what is shared counts as often as it is met; a slice's spare places count too). A statement '..UptoSaid' is the law's where the arguments, and the package variables that the reading takes, are together of bulk at most 1048576: NARROWER than '..Said'. Prove '..Said' where nothing that the law and all that it calls make is longer than what came in: it says more and counts as full. Else prove '..UptoSaid'. A law counts once. -/
mutual
def uptoBulk {H : Type} : DataW H → Nat
  | .lit (.string bytes) => bytes.length + 1
  | .lit _ => 1
  | .nil => 1
  | .ptr d => uptoBulk d + 1
  | .slice elems spare => uptoBulkAll elems + uptoBulkAll spare + 1
  | .agg parts => uptoBulkAll parts + 1
  | .iface _ d => uptoBulk d + 1
  | .map entries => uptoBulkEntries entries + 1
  | .held _ => 1
def uptoBulkAll {H : Type} : List (DataW H) → Nat
  | [] => 0
  | d :: r => uptoBulk d + uptoBulkAll r
def uptoBulkEntries {H : Type} : List (Lit × DataW H) → Nat
  | [] => 0
  | x :: r => uptoBulkEntry x + uptoBulkEntries r
def uptoBulkEntry {H : Type} : Lit × DataW H → Nat
  | (.string bytes, d) => bytes.length + uptoBulk d + 1
  | (_, d) => uptoBulk d + 1
 end
def uptoSmall : (H : Type) → List (DataW H) → Bool := fun _ ds => decide (uptoBulkAll ds ≤ 1048576)
def OpenSpec.upto (s : _root_.Go.ChangeSpec) : _root_.Go.OpenSpec := { _root_.Go.OpenSpec.ofChange s with cond := some uptoSmall }

/-- 'laws.FnExactConstants', WHERE WHAT IT READS IS OF BULK AT MOST 1048576: true; the input reads as it did. -/
def fnExactConstantsUptoRow : OpenClaim := { program := "ytjoicciipimlmaa", sum := "f179e4eb05c0f76c5ac2d3fb4fa7bce234dbdeb01b431562aff34beb3f6a538a", func := "loop.example/g01257/laws.FnExactConstants", spec := "fnExactConstants", apart := false, narrowed := true }
def FnExactConstantsUptoSaid : Prop := fnExactConstantsUptoRow.holds Try.pinned (OpenSpec.upto fnExactConstantsSpec)

/-- 'laws.FnExactLeastMustHave', WHERE WHAT IT READS IS OF BULK AT MOST 1048576: true; the input reads as it did. -/
def fnExactLeastMustHaveUptoRow : OpenClaim := { program := "ytjoicciipimlmaa", sum := "f179e4eb05c0f76c5ac2d3fb4fa7bce234dbdeb01b431562aff34beb3f6a538a", func := "loop.example/g01257/laws.FnExactLeastMustHave", spec := "fnExactLeastMustHave", apart := false, narrowed := true }
def FnExactLeastMustHaveUptoSaid : Prop := fnExactLeastMustHaveUptoRow.holds Try.pinned (OpenSpec.upto fnExactLeastMustHaveSpec)

/-- 'laws.FnExactGroupBound', WHERE WHAT IT READS IS OF BULK AT MOST 1048576: true; the input reads as it did. -/
def fnExactGroupBoundUptoRow : OpenClaim := { program := "ytjoicciipimlmaa", sum := "f179e4eb05c0f76c5ac2d3fb4fa7bce234dbdeb01b431562aff34beb3f6a538a", func := "loop.example/g01257/laws.FnExactGroupBound", spec := "fnExactGroupBound", apart := false, narrowed := true }
def FnExactGroupBoundUptoSaid : Prop := fnExactGroupBoundUptoRow.holds Try.pinned (OpenSpec.upto fnExactGroupBoundSpec)

/-- 'laws.FnExactLeastOneKind', WHERE WHAT IT READS IS OF BULK AT MOST 1048576: true; the input reads as it did. -/
def fnExactLeastOneKindUptoRow : OpenClaim := { program := "ytjoicciipimlmaa", sum := "f179e4eb05c0f76c5ac2d3fb4fa7bce234dbdeb01b431562aff34beb3f6a538a", func := "loop.example/g01257/laws.FnExactLeastOneKind", spec := "fnExactLeastOneKind", apart := false, narrowed := true }
def FnExactLeastOneKindUptoSaid : Prop := fnExactLeastOneKindUptoRow.holds Try.pinned (OpenSpec.upto fnExactLeastOneKindSpec)

/-- 'laws.FnExactIsNumbers', WHERE WHAT IT READS IS OF BULK AT MOST 1048576: true; the input reads as it did. -/
def fnExactIsNumbersUptoRow : OpenClaim := { program := "ytjoicciipimlmaa", sum := "f179e4eb05c0f76c5ac2d3fb4fa7bce234dbdeb01b431562aff34beb3f6a538a", func := "loop.example/g01257/laws.FnExactIsNumbers", spec := "fnExactIsNumbers", unfollowed := true, recurses := true, apart := false, narrowed := true }
def FnExactIsNumbersUptoSaid : Prop := fnExactIsNumbersUptoRow.holds Try.pinned (OpenSpec.upto fnExactIsNumbersSpec)

/-- 'laws.FnExactEmptyParty', WHERE WHAT IT READS IS OF BULK AT MOST 1048576: true; the input reads as it did. -/
def fnExactEmptyPartyUptoRow : OpenClaim := { program := "ytjoicciipimlmaa", sum := "f179e4eb05c0f76c5ac2d3fb4fa7bce234dbdeb01b431562aff34beb3f6a538a", func := "loop.example/g01257/laws.FnExactEmptyParty", spec := "fnExactEmptyParty", apart := false, narrowed := true }
def FnExactEmptyPartyUptoSaid : Prop := fnExactEmptyPartyUptoRow.holds Try.pinned (OpenSpec.upto fnExactEmptyPartySpec)

/-- 'laws.FnExactOtherNumbers', WHERE WHAT IT READS IS OF BULK AT MOST 1048576: true; the input reads as it did. -/
def fnExactOtherNumbersUptoRow : OpenClaim := { program := "ytjoicciipimlmaa", sum := "f179e4eb05c0f76c5ac2d3fb4fa7bce234dbdeb01b431562aff34beb3f6a538a", func := "loop.example/g01257/laws.FnExactOtherNumbers", spec := "fnExactOtherNumbers", unfollowed := true, recurses := true, apart := false, narrowed := true }
def FnExactOtherNumbersUptoSaid : Prop := fnExactOtherNumbersUptoRow.holds Try.pinned (OpenSpec.upto fnExactOtherNumbersSpec)

end Rows
end Go.Proofs.Ytjoicciipimlmaa
