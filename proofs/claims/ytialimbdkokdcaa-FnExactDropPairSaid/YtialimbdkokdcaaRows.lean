/-
  No cell of these rows narrows 'for every input' (looked for: loops, veiled, ifaces, maps, wideKeys, modest, calm, conditions, laid).
  DERIVED. THE GIVEN ROWS OF THIS SEAT. 9 by the template 'for every input the law returns true; each argument reads behind the call as it read before'; 0 by the template 'total and deterministic' (their statements: YtialimbdkokdcaaTotals.lean).
  GIVEN WITH THE SEED: the statements are not yours to turn. If you find one false, say at which input.
  Laid BY PROGRAM, IN A SANDBOX (cutbox-rows.mjs): the forced cells as the released guide's own fill.sh prints them over the translation cadad0abdcab912f… (all of the seat's roots in one cut). By AI agents, Wed Nov 11 2026. No macro, syntax, notation, axiom, sorry.
-/
import Derived.Test.YtialimbdkokdcaaChecked
import GoSem.Claim
import GoSem.ClaimJoined
import GoSem.ClaimMapViews
import Derived.JoinedTies
import Derived.KernelRfl
namespace Go.Proofs.Ytialimbdkokdcaa
/- THE CELL 'sum', in the pinned program and in every row, IS THE sha256 OF THE DUMP (.gsa) THAT YtialimbdkokdcaaProg.lean LOADS. Nothing in Lean hashes anything: it is a label: what it is worth is what the hold of that sum in a sandbox is worth. -/
noncomputable def Try.pinned : Pinned := { name := "ytialimbdkokdcaa", sum := "cadad0abdcab912f6c6a97b0067eb6ea20ad4036e5394a74c4a3405d6d801b83", checked := Try.checked }
namespace Rows
def none {H : Type} : Left H := { results := [], args := [] }

/-- 'laws.FnExactCountThrees': WHATEVER THE INPUT: true; the input reads as it did. -/
def fnExactCountThreesSpec : ChangeSpec := { name := "fnExactCountThrees", fn := fun _ => fun
  | [d] => { results := [.lit (.bool true)], args := [d] }
  | _ => none }
def fnExactCountThreesRow : OpenClaim := { program := "ytialimbdkokdcaa", sum := "cadad0abdcab912f6c6a97b0067eb6ea20ad4036e5394a74c4a3405d6d801b83", func := "loop.example/g01257/laws.FnExactCountThrees", spec := "fnExactCountThrees", unfollowed := true, recurses := true, apart := false }
def FnExactCountThreesSaid : Prop := fnExactCountThreesRow.holds Try.pinned (OpenSpec.ofChange fnExactCountThreesSpec)

/-- ITS FALSE NEIGHBOUR: 'it returns false'. Refute it at one input. -/
def fnExactCountThreesWrong : ChangeSpec := { name := "fnExactCountThrees", fn := fun _ => fun
  | [d] => { results := [.lit (.bool false)], args := [d] }
  | _ => none }
def FnExactCountThreesWrongFalsely : Prop := fnExactCountThreesRow.holds Try.pinned (OpenSpec.ofChange fnExactCountThreesWrong)

/-- 'laws.FnExactFriendThrees': WHATEVER THE INPUT: true; the input reads as it did. -/
def fnExactFriendThreesSpec : ChangeSpec := { name := "fnExactFriendThrees", fn := fun _ => fun
  | [d] => { results := [.lit (.bool true)], args := [d] }
  | _ => none }
def fnExactFriendThreesRow : OpenClaim := { program := "ytialimbdkokdcaa", sum := "cadad0abdcab912f6c6a97b0067eb6ea20ad4036e5394a74c4a3405d6d801b83", func := "loop.example/g01257/laws.FnExactFriendThrees", spec := "fnExactFriendThrees", unfollowed := true, recurses := true, apart := false }
def FnExactFriendThreesSaid : Prop := fnExactFriendThreesRow.holds Try.pinned (OpenSpec.ofChange fnExactFriendThreesSpec)

/-- ITS FALSE NEIGHBOUR: 'it returns false'. Refute it at one input. -/
def fnExactFriendThreesWrong : ChangeSpec := { name := "fnExactFriendThrees", fn := fun _ => fun
  | [d] => { results := [.lit (.bool false)], args := [d] }
  | _ => none }
def FnExactFriendThreesWrongFalsely : Prop := fnExactFriendThreesRow.holds Try.pinned (OpenSpec.ofChange fnExactFriendThreesWrong)

/-- 'laws.FnExactIsGroup': WHATEVER THE INPUT: true; the input reads as it did. -/
def fnExactIsGroupSpec : ChangeSpec := { name := "fnExactIsGroup", fn := fun _ => fun
  | [d1, d2] => { results := [.lit (.bool true)], args := [d1, d2] }
  | _ => none }
def fnExactIsGroupRow : OpenClaim := { program := "ytialimbdkokdcaa", sum := "cadad0abdcab912f6c6a97b0067eb6ea20ad4036e5394a74c4a3405d6d801b83", func := "loop.example/g01257/laws.FnExactIsGroup", spec := "fnExactIsGroup", unfollowed := true, recurses := true, apart := false }
def FnExactIsGroupSaid : Prop := fnExactIsGroupRow.holds Try.pinned (OpenSpec.ofChange fnExactIsGroupSpec)

/-- ITS FALSE NEIGHBOUR: 'it returns false'. Refute it at one input. -/
def fnExactIsGroupWrong : ChangeSpec := { name := "fnExactIsGroup", fn := fun _ => fun
  | [d1, d2] => { results := [.lit (.bool false)], args := [d1, d2] }
  | _ => none }
def FnExactIsGroupWrongFalsely : Prop := fnExactIsGroupRow.holds Try.pinned (OpenSpec.ofChange fnExactIsGroupWrong)

/-- 'laws.FnExactBesideParty': WHATEVER THE INPUT: true; the input reads as it did. -/
def fnExactBesidePartySpec : ChangeSpec := { name := "fnExactBesideParty", fn := fun _ => fun
  | [d1, d2] => { results := [.lit (.bool true)], args := [d1, d2] }
  | _ => none }
def fnExactBesidePartyRow : OpenClaim := { program := "ytialimbdkokdcaa", sum := "cadad0abdcab912f6c6a97b0067eb6ea20ad4036e5394a74c4a3405d6d801b83", func := "loop.example/g01257/laws.FnExactBesideParty", spec := "fnExactBesideParty", apart := false }
def FnExactBesidePartySaid : Prop := fnExactBesidePartyRow.holds Try.pinned (OpenSpec.ofChange fnExactBesidePartySpec)

/-- ITS FALSE NEIGHBOUR: 'it returns false'. Refute it at one input. -/
def fnExactBesidePartyWrong : ChangeSpec := { name := "fnExactBesideParty", fn := fun _ => fun
  | [d1, d2] => { results := [.lit (.bool false)], args := [d1, d2] }
  | _ => none }
def FnExactBesidePartyWrongFalsely : Prop := fnExactBesidePartyRow.holds Try.pinned (OpenSpec.ofChange fnExactBesidePartyWrong)

/-- 'laws.FnExactTogetherParty': WHATEVER THE INPUT: true; the input reads as it did. -/
def fnExactTogetherPartySpec : ChangeSpec := { name := "fnExactTogetherParty", fn := fun _ => fun
  | [d1, d2] => { results := [.lit (.bool true)], args := [d1, d2] }
  | _ => none }
def fnExactTogetherPartyRow : OpenClaim := { program := "ytialimbdkokdcaa", sum := "cadad0abdcab912f6c6a97b0067eb6ea20ad4036e5394a74c4a3405d6d801b83", func := "loop.example/g01257/laws.FnExactTogetherParty", spec := "fnExactTogetherParty", apart := false }
def FnExactTogetherPartySaid : Prop := fnExactTogetherPartyRow.holds Try.pinned (OpenSpec.ofChange fnExactTogetherPartySpec)

/-- ITS FALSE NEIGHBOUR: 'it returns false'. Refute it at one input. -/
def fnExactTogetherPartyWrong : ChangeSpec := { name := "fnExactTogetherParty", fn := fun _ => fun
  | [d1, d2] => { results := [.lit (.bool false)], args := [d1, d2] }
  | _ => none }
def FnExactTogetherPartyWrongFalsely : Prop := fnExactTogetherPartyRow.holds Try.pinned (OpenSpec.ofChange fnExactTogetherPartyWrong)

/-- 'laws.FnExactAddPair': WHATEVER THE INPUT: true; the input reads as it did. -/
def fnExactAddPairSpec : ChangeSpec := { name := "fnExactAddPair", fn := fun _ => fun
  | [d1, d2, d3] => { results := [.lit (.bool true)], args := [d1, d2, d3] }
  | _ => none }
def fnExactAddPairRow : OpenClaim := { program := "ytialimbdkokdcaa", sum := "cadad0abdcab912f6c6a97b0067eb6ea20ad4036e5394a74c4a3405d6d801b83", func := "loop.example/g01257/laws.FnExactAddPair", spec := "fnExactAddPair", unfollowed := true, recurses := true, apart := false }
def FnExactAddPairSaid : Prop := fnExactAddPairRow.holds Try.pinned (OpenSpec.ofChange fnExactAddPairSpec)

/-- ITS FALSE NEIGHBOUR: 'it returns false'. Refute it at one input. -/
def fnExactAddPairWrong : ChangeSpec := { name := "fnExactAddPair", fn := fun _ => fun
  | [d1, d2, d3] => { results := [.lit (.bool false)], args := [d1, d2, d3] }
  | _ => none }
def FnExactAddPairWrongFalsely : Prop := fnExactAddPairRow.holds Try.pinned (OpenSpec.ofChange fnExactAddPairWrong)

/-- 'laws.FnExactDropPair': WHATEVER THE INPUT: true; the input reads as it did. -/
def fnExactDropPairSpec : ChangeSpec := { name := "fnExactDropPair", fn := fun _ => fun
  | [d1, d2, d3] => { results := [.lit (.bool true)], args := [d1, d2, d3] }
  | _ => none }
def fnExactDropPairRow : OpenClaim := { program := "ytialimbdkokdcaa", sum := "cadad0abdcab912f6c6a97b0067eb6ea20ad4036e5394a74c4a3405d6d801b83", func := "loop.example/g01257/laws.FnExactDropPair", spec := "fnExactDropPair", unfollowed := true, recurses := true, apart := false }
def FnExactDropPairSaid : Prop := fnExactDropPairRow.holds Try.pinned (OpenSpec.ofChange fnExactDropPairSpec)

/-- ITS FALSE NEIGHBOUR: 'it returns false'. Refute it at one input. -/
def fnExactDropPairWrong : ChangeSpec := { name := "fnExactDropPair", fn := fun _ => fun
  | [d1, d2, d3] => { results := [.lit (.bool false)], args := [d1, d2, d3] }
  | _ => none }
def FnExactDropPairWrongFalsely : Prop := fnExactDropPairRow.holds Try.pinned (OpenSpec.ofChange fnExactDropPairWrong)

/-- 'laws.FnExactExchangePairs': WHATEVER THE INPUT: true; the input reads as it did. -/
def fnExactExchangePairsSpec : ChangeSpec := { name := "fnExactExchangePairs", fn := fun _ => fun
  | [d1, d2, d3, d4, d5] => { results := [.lit (.bool true)], args := [d1, d2, d3, d4, d5] }
  | _ => none }
def fnExactExchangePairsRow : OpenClaim := { program := "ytialimbdkokdcaa", sum := "cadad0abdcab912f6c6a97b0067eb6ea20ad4036e5394a74c4a3405d6d801b83", func := "loop.example/g01257/laws.FnExactExchangePairs", spec := "fnExactExchangePairs", unfollowed := true, recurses := true, apart := false }
def FnExactExchangePairsSaid : Prop := fnExactExchangePairsRow.holds Try.pinned (OpenSpec.ofChange fnExactExchangePairsSpec)

/-- ITS FALSE NEIGHBOUR: 'it returns false'. Refute it at one input. -/
def fnExactExchangePairsWrong : ChangeSpec := { name := "fnExactExchangePairs", fn := fun _ => fun
  | [d1, d2, d3, d4, d5] => { results := [.lit (.bool false)], args := [d1, d2, d3, d4, d5] }
  | _ => none }
def FnExactExchangePairsWrongFalsely : Prop := fnExactExchangePairsRow.holds Try.pinned (OpenSpec.ofChange fnExactExchangePairsWrong)

/-- 'laws.FnExactChooseParty': WHATEVER THE INPUT: true; the input reads as it did. -/
def fnExactChoosePartySpec : ChangeSpec := { name := "fnExactChooseParty", fn := fun _ => fun
  | [d1, d2] => { results := [.lit (.bool true)], args := [d1, d2] }
  | _ => none }
def fnExactChoosePartyRow : OpenClaim := { program := "ytialimbdkokdcaa", sum := "cadad0abdcab912f6c6a97b0067eb6ea20ad4036e5394a74c4a3405d6d801b83", func := "loop.example/g01257/laws.FnExactChooseParty", spec := "fnExactChooseParty", unfollowed := true, recurses := true, apart := false }
def FnExactChoosePartySaid : Prop := fnExactChoosePartyRow.holds Try.pinned (OpenSpec.ofChange fnExactChoosePartySpec)

/-- ITS FALSE NEIGHBOUR: 'it returns false'. Refute it at one input. -/
def fnExactChoosePartyWrong : ChangeSpec := { name := "fnExactChooseParty", fn := fun _ => fun
  | [d1, d2] => { results := [.lit (.bool false)], args := [d1, d2] }
  | _ => none }
def FnExactChoosePartyWrongFalsely : Prop := fnExactChoosePartyRow.holds Try.pinned (OpenSpec.ofChange fnExactChoosePartyWrong)

/- THE SECOND FORM. 'bulk': how many values and letters a reading holds, each counted each time it is reached (what is shared counts as often as it is met; a slice's spare places count too). A statement '..UptoSaid' is the law's where the arguments, and the package variables that the reading takes, are together of bulk at most 1048576: NARROWER than '..Said'. Prove '..Said' where nothing that the law and all that it calls make is longer than what came in: it says more and counts as full. Else prove '..UptoSaid'. A law counts once. -/
mutual
def uptoBulk {H : Type} : DataW H → Nat
  | .lit (.string bytes) => bytes.length + 1
  | .lit _ => 1
  | .nil => 1
  | .ptr d => uptoBulk d + 1
  | .slice elems spare => uptoBulkAll elems + uptoBulkAll spare + 1
  | .agg parts => uptoBulkAll parts + 1
  | .iface _ d => uptoBulk d + 1
  | .map entries => uptoBulkEntries entries + 1
  | .held _ => 1
def uptoBulkAll {H : Type} : List (DataW H) → Nat
  | [] => 0
  | d :: r => uptoBulk d + uptoBulkAll r
def uptoBulkEntries {H : Type} : List (Lit × DataW H) → Nat
  | [] => 0
  | x :: r => uptoBulkEntry x + uptoBulkEntries r
def uptoBulkEntry {H : Type} : Lit × DataW H → Nat
  | (.string bytes, d) => bytes.length + uptoBulk d + 1
  | (_, d) => uptoBulk d + 1
 end
def uptoSmall : (H : Type) → List (DataW H) → Bool := fun _ ds => decide (uptoBulkAll ds ≤ 1048576)
def OpenSpec.upto (s : _root_.Go.ChangeSpec) : _root_.Go.OpenSpec := { _root_.Go.OpenSpec.ofChange s with cond := some uptoSmall }

/-- 'laws.FnExactCountThrees', WHERE WHAT IT READS IS OF BULK AT MOST 1048576: true; the input reads as it did. -/
def fnExactCountThreesUptoRow : OpenClaim := { program := "ytialimbdkokdcaa", sum := "cadad0abdcab912f6c6a97b0067eb6ea20ad4036e5394a74c4a3405d6d801b83", func := "loop.example/g01257/laws.FnExactCountThrees", spec := "fnExactCountThrees", unfollowed := true, recurses := true, apart := false, narrowed := true }
def FnExactCountThreesUptoSaid : Prop := fnExactCountThreesUptoRow.holds Try.pinned (OpenSpec.upto fnExactCountThreesSpec)

/-- 'laws.FnExactFriendThrees', WHERE WHAT IT READS IS OF BULK AT MOST 1048576: true; the input reads as it did. -/
def fnExactFriendThreesUptoRow : OpenClaim := { program := "ytialimbdkokdcaa", sum := "cadad0abdcab912f6c6a97b0067eb6ea20ad4036e5394a74c4a3405d6d801b83", func := "loop.example/g01257/laws.FnExactFriendThrees", spec := "fnExactFriendThrees", unfollowed := true, recurses := true, apart := false, narrowed := true }
def FnExactFriendThreesUptoSaid : Prop := fnExactFriendThreesUptoRow.holds Try.pinned (OpenSpec.upto fnExactFriendThreesSpec)

/-- 'laws.FnExactIsGroup', WHERE WHAT IT READS IS OF BULK AT MOST 1048576: true; the input reads as it did. -/
def fnExactIsGroupUptoRow : OpenClaim := { program := "ytialimbdkokdcaa", sum := "cadad0abdcab912f6c6a97b0067eb6ea20ad4036e5394a74c4a3405d6d801b83", func := "loop.example/g01257/laws.FnExactIsGroup", spec := "fnExactIsGroup", unfollowed := true, recurses := true, apart := false, narrowed := true }
def FnExactIsGroupUptoSaid : Prop := fnExactIsGroupUptoRow.holds Try.pinned (OpenSpec.upto fnExactIsGroupSpec)

/-- 'laws.FnExactBesideParty', WHERE WHAT IT READS IS OF BULK AT MOST 1048576: true; the input reads as it did. -/
def fnExactBesidePartyUptoRow : OpenClaim := { program := "ytialimbdkokdcaa", sum := "cadad0abdcab912f6c6a97b0067eb6ea20ad4036e5394a74c4a3405d6d801b83", func := "loop.example/g01257/laws.FnExactBesideParty", spec := "fnExactBesideParty", apart := false, narrowed := true }
def FnExactBesidePartyUptoSaid : Prop := fnExactBesidePartyUptoRow.holds Try.pinned (OpenSpec.upto fnExactBesidePartySpec)

/-- 'laws.FnExactTogetherParty', WHERE WHAT IT READS IS OF BULK AT MOST 1048576: true; the input reads as it did. -/
def fnExactTogetherPartyUptoRow : OpenClaim := { program := "ytialimbdkokdcaa", sum := "cadad0abdcab912f6c6a97b0067eb6ea20ad4036e5394a74c4a3405d6d801b83", func := "loop.example/g01257/laws.FnExactTogetherParty", spec := "fnExactTogetherParty", apart := false, narrowed := true }
def FnExactTogetherPartyUptoSaid : Prop := fnExactTogetherPartyUptoRow.holds Try.pinned (OpenSpec.upto fnExactTogetherPartySpec)

/-- 'laws.FnExactAddPair', WHERE WHAT IT READS IS OF BULK AT MOST 1048576: true; the input reads as it did. -/
def fnExactAddPairUptoRow : OpenClaim := { program := "ytialimbdkokdcaa", sum := "cadad0abdcab912f6c6a97b0067eb6ea20ad4036e5394a74c4a3405d6d801b83", func := "loop.example/g01257/laws.FnExactAddPair", spec := "fnExactAddPair", unfollowed := true, recurses := true, apart := false, narrowed := true }
def FnExactAddPairUptoSaid : Prop := fnExactAddPairUptoRow.holds Try.pinned (OpenSpec.upto fnExactAddPairSpec)

/-- 'laws.FnExactDropPair', WHERE WHAT IT READS IS OF BULK AT MOST 1048576: true; the input reads as it did. -/
def fnExactDropPairUptoRow : OpenClaim := { program := "ytialimbdkokdcaa", sum := "cadad0abdcab912f6c6a97b0067eb6ea20ad4036e5394a74c4a3405d6d801b83", func := "loop.example/g01257/laws.FnExactDropPair", spec := "fnExactDropPair", unfollowed := true, recurses := true, apart := false, narrowed := true }
def FnExactDropPairUptoSaid : Prop := fnExactDropPairUptoRow.holds Try.pinned (OpenSpec.upto fnExactDropPairSpec)

/-- 'laws.FnExactExchangePairs', WHERE WHAT IT READS IS OF BULK AT MOST 1048576: true; the input reads as it did. -/
def fnExactExchangePairsUptoRow : OpenClaim := { program := "ytialimbdkokdcaa", sum := "cadad0abdcab912f6c6a97b0067eb6ea20ad4036e5394a74c4a3405d6d801b83", func := "loop.example/g01257/laws.FnExactExchangePairs", spec := "fnExactExchangePairs", unfollowed := true, recurses := true, apart := false, narrowed := true }
def FnExactExchangePairsUptoSaid : Prop := fnExactExchangePairsUptoRow.holds Try.pinned (OpenSpec.upto fnExactExchangePairsSpec)

/-- 'laws.FnExactChooseParty', WHERE WHAT IT READS IS OF BULK AT MOST 1048576: true; the input reads as it did. -/
def fnExactChoosePartyUptoRow : OpenClaim := { program := "ytialimbdkokdcaa", sum := "cadad0abdcab912f6c6a97b0067eb6ea20ad4036e5394a74c4a3405d6d801b83", func := "loop.example/g01257/laws.FnExactChooseParty", spec := "fnExactChooseParty", unfollowed := true, recurses := true, apart := false, narrowed := true }
def FnExactChoosePartyUptoSaid : Prop := fnExactChoosePartyUptoRow.holds Try.pinned (OpenSpec.upto fnExactChoosePartySpec)

end Rows
end Go.Proofs.Ytialimbdkokdcaa
