/-
  No cell of these rows narrows 'for every input' (looked for: loops, veiled, ifaces, maps, wideKeys, modest, calm, conditions, laid).
  DERIVED. THE GIVEN ROWS OF THIS SEAT. 5 by the template 'for every input the law returns true; each argument reads behind the call as it read before'; 0 by the template 'total and deterministic' (their statements: YtoedkkoafidalaaTotals.lean).
  GIVEN WITH THE SEED: the statements are not yours to turn. If you find one false, say at which input.
  Laid BY PROGRAM, IN A SANDBOX (cutbox-rows.mjs): the forced cells as the released guide's own fill.sh prints them over the translation b9abcc489d981a24… (all of the seat's roots in one cut). By AI agents, Wed Nov 11 2026. No macro, syntax, notation, axiom, sorry.
-/
import Derived.Test.YtoedkkoafidalaaChecked
import GoSem.Claim
import GoSem.ClaimJoined
import GoSem.ClaimMapViews
import Derived.JoinedTies
import Derived.KernelRfl
namespace Go.Proofs.Ytoedkkoafidalaa
/- THE CELL 'sum', in the pinned program and in every row, IS THE sha256 OF THE DUMP (.gsa) THAT YtoedkkoafidalaaProg.lean LOADS. Nothing in Lean hashes anything: it is a label: what it is worth is what the hold of that sum in a sandbox is worth. -/
noncomputable def Try.pinned : Pinned := { name := "ytoedkkoafidalaa", sum := "b9abcc489d981a24df9eda97d1e230832afb00cfa8f856f3c3e58d59643c0b79", checked := Try.checked }
namespace Rows
def none {H : Type} : Left H := { results := [], args := [] }

/-- 'laws.FnExactAreSame': WHATEVER THE INPUT: true; the input reads as it did. -/
def fnExactAreSameSpec : ChangeSpec := { name := "fnExactAreSame", fn := fun _ => fun
  | [d1, d2] => { results := [.lit (.bool true)], args := [d1, d2] }
  | _ => none }
def fnExactAreSameRow : OpenClaim := { program := "ytoedkkoafidalaa", sum := "b9abcc489d981a24df9eda97d1e230832afb00cfa8f856f3c3e58d59643c0b79", func := "loop.example/g01257/laws.FnExactAreSame", spec := "fnExactAreSame", unfollowed := true, recurses := true, apart := false }
def FnExactAreSameSaid : Prop := fnExactAreSameRow.holds Try.pinned (OpenSpec.ofChange fnExactAreSameSpec)

/-- ITS FALSE NEIGHBOUR: 'it returns false'. Refute it at one input. -/
def fnExactAreSameWrong : ChangeSpec := { name := "fnExactAreSame", fn := fun _ => fun
  | [d1, d2] => { results := [.lit (.bool false)], args := [d1, d2] }
  | _ => none }
def FnExactAreSameWrongFalsely : Prop := fnExactAreSameRow.holds Try.pinned (OpenSpec.ofChange fnExactAreSameWrong)

/-- 'laws.FnExactCountNamed': WHATEVER THE INPUT: true; the input reads as it did. -/
def fnExactCountNamedSpec : ChangeSpec := { name := "fnExactCountNamed", fn := fun _ => fun
  | [d] => { results := [.lit (.bool true)], args := [d] }
  | _ => none }
def fnExactCountNamedRow : OpenClaim := { program := "ytoedkkoafidalaa", sum := "b9abcc489d981a24df9eda97d1e230832afb00cfa8f856f3c3e58d59643c0b79", func := "loop.example/g01257/laws.FnExactCountNamed", spec := "fnExactCountNamed", unfollowed := true, recurses := true, apart := false }
def FnExactCountNamedSaid : Prop := fnExactCountNamedRow.holds Try.pinned (OpenSpec.ofChange fnExactCountNamedSpec)

/-- ITS FALSE NEIGHBOUR: 'it returns false'. Refute it at one input. -/
def fnExactCountNamedWrong : ChangeSpec := { name := "fnExactCountNamed", fn := fun _ => fun
  | [d] => { results := [.lit (.bool false)], args := [d] }
  | _ => none }
def FnExactCountNamedWrongFalsely : Prop := fnExactCountNamedRow.holds Try.pinned (OpenSpec.ofChange fnExactCountNamedWrong)

/-- 'laws.FnExactLeastParty': WHATEVER THE INPUT: true; the input reads as it did. -/
def fnExactLeastPartySpec : ChangeSpec := { name := "fnExactLeastParty", fn := fun _ => fun
  | [d] => { results := [.lit (.bool true)], args := [d] }
  | _ => none }
def fnExactLeastPartyRow : OpenClaim := { program := "ytoedkkoafidalaa", sum := "b9abcc489d981a24df9eda97d1e230832afb00cfa8f856f3c3e58d59643c0b79", func := "loop.example/g01257/laws.FnExactLeastParty", spec := "fnExactLeastParty", unfollowed := true, recurses := true, apart := false }
def FnExactLeastPartySaid : Prop := fnExactLeastPartyRow.holds Try.pinned (OpenSpec.ofChange fnExactLeastPartySpec)

/-- ITS FALSE NEIGHBOUR: 'it returns false'. Refute it at one input. -/
def fnExactLeastPartyWrong : ChangeSpec := { name := "fnExactLeastParty", fn := fun _ => fun
  | [d] => { results := [.lit (.bool false)], args := [d] }
  | _ => none }
def FnExactLeastPartyWrongFalsely : Prop := fnExactLeastPartyRow.holds Try.pinned (OpenSpec.ofChange fnExactLeastPartyWrong)

/-- 'laws.FnExactRenameParty': WHATEVER THE INPUT: true; the input reads as it did. -/
def fnExactRenamePartySpec : ChangeSpec := { name := "fnExactRenameParty", fn := fun _ => fun
  | [d1, d2] => { results := [.lit (.bool true)], args := [d1, d2] }
  | _ => none }
def fnExactRenamePartyRow : OpenClaim := { program := "ytoedkkoafidalaa", sum := "b9abcc489d981a24df9eda97d1e230832afb00cfa8f856f3c3e58d59643c0b79", func := "loop.example/g01257/laws.FnExactRenameParty", spec := "fnExactRenameParty", unfollowed := true, recurses := true, apart := false }
def FnExactRenamePartySaid : Prop := fnExactRenamePartyRow.holds Try.pinned (OpenSpec.ofChange fnExactRenamePartySpec)

/-- ITS FALSE NEIGHBOUR: 'it returns false'. Refute it at one input. -/
def fnExactRenamePartyWrong : ChangeSpec := { name := "fnExactRenameParty", fn := fun _ => fun
  | [d1, d2] => { results := [.lit (.bool false)], args := [d1, d2] }
  | _ => none }
def FnExactRenamePartyWrongFalsely : Prop := fnExactRenamePartyRow.holds Try.pinned (OpenSpec.ofChange fnExactRenamePartyWrong)

/-- 'laws.FnExactAllExchanges': WHATEVER THE INPUT: true; the input reads as it did. -/
def fnExactAllExchangesSpec : ChangeSpec := { name := "fnExactAllExchanges", fn := fun _ => fun
  | [d] => { results := [.lit (.bool true)], args := [d] }
  | _ => none }
def fnExactAllExchangesRow : OpenClaim := { program := "ytoedkkoafidalaa", sum := "b9abcc489d981a24df9eda97d1e230832afb00cfa8f856f3c3e58d59643c0b79", func := "loop.example/g01257/laws.FnExactAllExchanges", spec := "fnExactAllExchanges", unfollowed := true, recurses := true, apart := false }
def FnExactAllExchangesSaid : Prop := fnExactAllExchangesRow.holds Try.pinned (OpenSpec.ofChange fnExactAllExchangesSpec)

/-- ITS FALSE NEIGHBOUR: 'it returns false'. Refute it at one input. -/
def fnExactAllExchangesWrong : ChangeSpec := { name := "fnExactAllExchanges", fn := fun _ => fun
  | [d] => { results := [.lit (.bool false)], args := [d] }
  | _ => none }
def FnExactAllExchangesWrongFalsely : Prop := fnExactAllExchangesRow.holds Try.pinned (OpenSpec.ofChange fnExactAllExchangesWrong)

/- THE SECOND FORM. 'bulk': how many values and letters a reading holds, each counted each time it is reached (what is shared counts as often as it is met; a slice's spare places count too). A statement '..UptoSaid' is the law's where the arguments, and the package variables that the reading takes, are together of bulk at most 1048576: NARROWER than '..Said'. Prove '..Said' where nothing that the law and all that it calls make is longer than what came in: it says more and counts as full. Else prove '..UptoSaid'. A law counts once. -/
mutual
def uptoBulk {H : Type} : DataW H → Nat
  | .lit (.string bytes) => bytes.length + 1
  | .lit _ => 1
  | .nil => 1
  | .ptr d => uptoBulk d + 1
  | .slice elems spare => uptoBulkAll elems + uptoBulkAll spare + 1
  | .agg parts => uptoBulkAll parts + 1
  | .iface _ d => uptoBulk d + 1
  | .map entries => uptoBulkEntries entries + 1
  | .held _ => 1
def uptoBulkAll {H : Type} : List (DataW H) → Nat
  | [] => 0
  | d :: r => uptoBulk d + uptoBulkAll r
def uptoBulkEntries {H : Type} : List (Lit × DataW H) → Nat
  | [] => 0
  | x :: r => uptoBulkEntry x + uptoBulkEntries r
def uptoBulkEntry {H : Type} : Lit × DataW H → Nat
  | (.string bytes, d) => bytes.length + uptoBulk d + 1
  | (_, d) => uptoBulk d + 1
 end
def uptoSmall : (H : Type) → List (DataW H) → Bool := fun _ ds => decide (uptoBulkAll ds ≤ 1048576)
def OpenSpec.upto (s : _root_.Go.ChangeSpec) : _root_.Go.OpenSpec := { _root_.Go.OpenSpec.ofChange s with cond := some uptoSmall }

/-- 'laws.FnExactAreSame', WHERE WHAT IT READS IS OF BULK AT MOST 1048576: true; the input reads as it did. -/
def fnExactAreSameUptoRow : OpenClaim := { program := "ytoedkkoafidalaa", sum := "b9abcc489d981a24df9eda97d1e230832afb00cfa8f856f3c3e58d59643c0b79", func := "loop.example/g01257/laws.FnExactAreSame", spec := "fnExactAreSame", unfollowed := true, recurses := true, apart := false, narrowed := true }
def FnExactAreSameUptoSaid : Prop := fnExactAreSameUptoRow.holds Try.pinned (OpenSpec.upto fnExactAreSameSpec)

/-- 'laws.FnExactCountNamed', WHERE WHAT IT READS IS OF BULK AT MOST 1048576: true; the input reads as it did. -/
def fnExactCountNamedUptoRow : OpenClaim := { program := "ytoedkkoafidalaa", sum := "b9abcc489d981a24df9eda97d1e230832afb00cfa8f856f3c3e58d59643c0b79", func := "loop.example/g01257/laws.FnExactCountNamed", spec := "fnExactCountNamed", unfollowed := true, recurses := true, apart := false, narrowed := true }
def FnExactCountNamedUptoSaid : Prop := fnExactCountNamedUptoRow.holds Try.pinned (OpenSpec.upto fnExactCountNamedSpec)

/-- 'laws.FnExactLeastParty', WHERE WHAT IT READS IS OF BULK AT MOST 1048576: true; the input reads as it did. -/
def fnExactLeastPartyUptoRow : OpenClaim := { program := "ytoedkkoafidalaa", sum := "b9abcc489d981a24df9eda97d1e230832afb00cfa8f856f3c3e58d59643c0b79", func := "loop.example/g01257/laws.FnExactLeastParty", spec := "fnExactLeastParty", unfollowed := true, recurses := true, apart := false, narrowed := true }
def FnExactLeastPartyUptoSaid : Prop := fnExactLeastPartyUptoRow.holds Try.pinned (OpenSpec.upto fnExactLeastPartySpec)

/-- 'laws.FnExactRenameParty', WHERE WHAT IT READS IS OF BULK AT MOST 1048576: true; the input reads as it did. -/
def fnExactRenamePartyUptoRow : OpenClaim := { program := "ytoedkkoafidalaa", sum := "b9abcc489d981a24df9eda97d1e230832afb00cfa8f856f3c3e58d59643c0b79", func := "loop.example/g01257/laws.FnExactRenameParty", spec := "fnExactRenameParty", unfollowed := true, recurses := true, apart := false, narrowed := true }
def FnExactRenamePartyUptoSaid : Prop := fnExactRenamePartyUptoRow.holds Try.pinned (OpenSpec.upto fnExactRenamePartySpec)

/-- 'laws.FnExactAllExchanges', WHERE WHAT IT READS IS OF BULK AT MOST 1048576: true; the input reads as it did. -/
def fnExactAllExchangesUptoRow : OpenClaim := { program := "ytoedkkoafidalaa", sum := "b9abcc489d981a24df9eda97d1e230832afb00cfa8f856f3c3e58d59643c0b79", func := "loop.example/g01257/laws.FnExactAllExchanges", spec := "fnExactAllExchanges", unfollowed := true, recurses := true, apart := false, narrowed := true }
def FnExactAllExchangesUptoSaid : Prop := fnExactAllExchangesUptoRow.holds Try.pinned (OpenSpec.upto fnExactAllExchangesSpec)

end Rows
end Go.Proofs.Ytoedkkoafidalaa
