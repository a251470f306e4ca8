/-
  No cell of these rows narrows 'for every input' (looked for: loops, veiled, ifaces, maps, wideKeys, modest, calm, conditions, laid).
  DERIVED. THE GIVEN ROWS OF THIS SEAT. 12 by the template 'for every input the law returns true; each argument reads behind the call as it read before'; 0 by the template 'total and deterministic' (their statements: YtiopgbpjkjnphaaTotals.lean).
  GIVEN WITH THE SEED: the statements are not yours to turn. If you find one false, say at which input.
  Laid BY PROGRAM, IN A SANDBOX (cutbox-rows.mjs): the forced cells as the released guide's own fill.sh prints them over the translation 9e20d4c291324171… (all of the seat's roots in one cut). By AI agents, Wed Nov 11 2026. No macro, syntax, notation, axiom, sorry.
-/
import Derived.Test.YtiopgbpjkjnphaaChecked
import GoSem.Claim
import GoSem.ClaimJoined
import GoSem.ClaimMapViews
import Derived.JoinedTies
import Derived.KernelRfl
namespace Go.Proofs.Ytiopgbpjkjnphaa
/- THE CELL 'sum', in the pinned program and in every row, IS THE sha256 OF THE DUMP (.gsa) THAT YtiopgbpjkjnphaaProg.lean LOADS. Nothing in Lean hashes anything: it is a label: what it is worth is what the hold of that sum in a sandbox is worth. -/
noncomputable def Try.pinned : Pinned := { name := "ytiopgbpjkjnphaa", sum := "9e20d4c29132417190b49bb84f65f0b60884b1b5eb3ea85da3cd96a5b9b2db1d", checked := Try.checked }
namespace Rows
def none {H : Type} : Left H := { results := [], args := [] }

/-- 'laws.FnExactIsParty': WHATEVER THE INPUT: true; the input reads as it did. -/
def fnExactIsPartySpec : ChangeSpec := { name := "fnExactIsParty", fn := fun _ => fun
  | [d] => { results := [.lit (.bool true)], args := [d] }
  | _ => none }
def fnExactIsPartyRow : OpenClaim := { program := "ytiopgbpjkjnphaa", sum := "9e20d4c29132417190b49bb84f65f0b60884b1b5eb3ea85da3cd96a5b9b2db1d", func := "loop.example/g01257/laws.FnExactIsParty", spec := "fnExactIsParty", apart := false }
def FnExactIsPartySaid : Prop := fnExactIsPartyRow.holds Try.pinned (OpenSpec.ofChange fnExactIsPartySpec)

/-- ITS FALSE NEIGHBOUR: 'it returns false'. Refute it at one input. -/
def fnExactIsPartyWrong : ChangeSpec := { name := "fnExactIsParty", fn := fun _ => fun
  | [d] => { results := [.lit (.bool false)], args := [d] }
  | _ => none }
def FnExactIsPartyWrongFalsely : Prop := fnExactIsPartyRow.holds Try.pinned (OpenSpec.ofChange fnExactIsPartyWrong)

/-- 'laws.FnExactFullParty': WHATEVER THE INPUT: true; the input reads as it did. -/
def fnExactFullPartySpec : ChangeSpec := { name := "fnExactFullParty", fn := fun _ => fun
  | [d] => { results := [.lit (.bool true)], args := [d] }
  | _ => none }
def fnExactFullPartyRow : OpenClaim := { program := "ytiopgbpjkjnphaa", sum := "9e20d4c29132417190b49bb84f65f0b60884b1b5eb3ea85da3cd96a5b9b2db1d", func := "loop.example/g01257/laws.FnExactFullParty", spec := "fnExactFullParty", apart := false }
def FnExactFullPartySaid : Prop := fnExactFullPartyRow.holds Try.pinned (OpenSpec.ofChange fnExactFullPartySpec)

/-- ITS FALSE NEIGHBOUR: 'it returns false'. Refute it at one input. -/
def fnExactFullPartyWrong : ChangeSpec := { name := "fnExactFullParty", fn := fun _ => fun
  | [d] => { results := [.lit (.bool false)], args := [d] }
  | _ => none }
def FnExactFullPartyWrongFalsely : Prop := fnExactFullPartyRow.holds Try.pinned (OpenSpec.ofChange fnExactFullPartyWrong)

/-- 'laws.FnExactMostWithout': WHATEVER THE INPUT: true; the input reads as it did. -/
def fnExactMostWithoutSpec : ChangeSpec := { name := "fnExactMostWithout", fn := fun _ => fun
  | [d1, d2] => { results := [.lit (.bool true)], args := [d1, d2] }
  | _ => none }
def fnExactMostWithoutRow : OpenClaim := { program := "ytiopgbpjkjnphaa", sum := "9e20d4c29132417190b49bb84f65f0b60884b1b5eb3ea85da3cd96a5b9b2db1d", func := "loop.example/g01257/laws.FnExactMostWithout", spec := "fnExactMostWithout", apart := false }
def FnExactMostWithoutSaid : Prop := fnExactMostWithoutRow.holds Try.pinned (OpenSpec.ofChange fnExactMostWithoutSpec)

/-- ITS FALSE NEIGHBOUR: 'it returns false'. Refute it at one input. -/
def fnExactMostWithoutWrong : ChangeSpec := { name := "fnExactMostWithout", fn := fun _ => fun
  | [d1, d2] => { results := [.lit (.bool false)], args := [d1, d2] }
  | _ => none }
def FnExactMostWithoutWrongFalsely : Prop := fnExactMostWithoutRow.holds Try.pinned (OpenSpec.ofChange fnExactMostWithoutWrong)

/-- 'laws.FnExactAreFriends': WHATEVER THE INPUT: true; the input reads as it did. -/
def fnExactAreFriendsSpec : ChangeSpec := { name := "fnExactAreFriends", fn := fun _ => fun
  | [d1, d2, d3] => { results := [.lit (.bool true)], args := [d1, d2, d3] }
  | _ => none }
def fnExactAreFriendsRow : OpenClaim := { program := "ytiopgbpjkjnphaa", sum := "9e20d4c29132417190b49bb84f65f0b60884b1b5eb3ea85da3cd96a5b9b2db1d", func := "loop.example/g01257/laws.FnExactAreFriends", spec := "fnExactAreFriends", unfollowed := true, recurses := true, apart := false }
def FnExactAreFriendsSaid : Prop := fnExactAreFriendsRow.holds Try.pinned (OpenSpec.ofChange fnExactAreFriendsSpec)

/-- ITS FALSE NEIGHBOUR: 'it returns false'. Refute it at one input. -/
def fnExactAreFriendsWrong : ChangeSpec := { name := "fnExactAreFriends", fn := fun _ => fun
  | [d1, d2, d3] => { results := [.lit (.bool false)], args := [d1, d2, d3] }
  | _ => none }
def FnExactAreFriendsWrongFalsely : Prop := fnExactAreFriendsRow.holds Try.pinned (OpenSpec.ofChange fnExactAreFriendsWrong)

/-- 'laws.FnExactTwoAlike': WHATEVER THE INPUT: true; the input reads as it did. -/
def fnExactTwoAlikeSpec : ChangeSpec := { name := "fnExactTwoAlike", fn := fun _ => fun
  | [d] => { results := [.lit (.bool true)], args := [d] }
  | _ => none }
def fnExactTwoAlikeRow : OpenClaim := { program := "ytiopgbpjkjnphaa", sum := "9e20d4c29132417190b49bb84f65f0b60884b1b5eb3ea85da3cd96a5b9b2db1d", func := "loop.example/g01257/laws.FnExactTwoAlike", spec := "fnExactTwoAlike", apart := false }
def FnExactTwoAlikeSaid : Prop := fnExactTwoAlikeRow.holds Try.pinned (OpenSpec.ofChange fnExactTwoAlikeSpec)

/-- ITS FALSE NEIGHBOUR: 'it returns false'. Refute it at one input. -/
def fnExactTwoAlikeWrong : ChangeSpec := { name := "fnExactTwoAlike", fn := fun _ => fun
  | [d] => { results := [.lit (.bool false)], args := [d] }
  | _ => none }
def FnExactTwoAlikeWrongFalsely : Prop := fnExactTwoAlikeRow.holds Try.pinned (OpenSpec.ofChange fnExactTwoAlikeWrong)

/-- 'laws.FnExactIsColouring': WHATEVER THE INPUT: true; the input reads as it did. -/
def fnExactIsColouringSpec : ChangeSpec := { name := "fnExactIsColouring", fn := fun _ => fun
  | [d1, d2] => { results := [.lit (.bool true)], args := [d1, d2] }
  | _ => none }
def fnExactIsColouringRow : OpenClaim := { program := "ytiopgbpjkjnphaa", sum := "9e20d4c29132417190b49bb84f65f0b60884b1b5eb3ea85da3cd96a5b9b2db1d", func := "loop.example/g01257/laws.FnExactIsColouring", spec := "fnExactIsColouring", unfollowed := true, recurses := true, apart := false }
def FnExactIsColouringSaid : Prop := fnExactIsColouringRow.holds Try.pinned (OpenSpec.ofChange fnExactIsColouringSpec)

/-- ITS FALSE NEIGHBOUR: 'it returns false'. Refute it at one input. -/
def fnExactIsColouringWrong : ChangeSpec := { name := "fnExactIsColouring", fn := fun _ => fun
  | [d1, d2] => { results := [.lit (.bool false)], args := [d1, d2] }
  | _ => none }
def FnExactIsColouringWrongFalsely : Prop := fnExactIsColouringRow.holds Try.pinned (OpenSpec.ofChange fnExactIsColouringWrong)

/-- 'laws.FnExactCountByNumbers': WHATEVER THE INPUT: true; the input reads as it did. -/
def fnExactCountByNumbersSpec : ChangeSpec := { name := "fnExactCountByNumbers", fn := fun _ => fun
  | [d] => { results := [.lit (.bool true)], args := [d] }
  | _ => none }
def fnExactCountByNumbersRow : OpenClaim := { program := "ytiopgbpjkjnphaa", sum := "9e20d4c29132417190b49bb84f65f0b60884b1b5eb3ea85da3cd96a5b9b2db1d", func := "loop.example/g01257/laws.FnExactCountByNumbers", spec := "fnExactCountByNumbers", apart := false }
def FnExactCountByNumbersSaid : Prop := fnExactCountByNumbersRow.holds Try.pinned (OpenSpec.ofChange fnExactCountByNumbersSpec)

/-- ITS FALSE NEIGHBOUR: 'it returns false'. Refute it at one input. -/
def fnExactCountByNumbersWrong : ChangeSpec := { name := "fnExactCountByNumbers", fn := fun _ => fun
  | [d] => { results := [.lit (.bool false)], args := [d] }
  | _ => none }
def FnExactCountByNumbersWrongFalsely : Prop := fnExactCountByNumbersRow.holds Try.pinned (OpenSpec.ofChange fnExactCountByNumbersWrong)

/-- 'laws.FnExactCountForks': WHATEVER THE INPUT: true; the input reads as it did. -/
def fnExactCountForksSpec : ChangeSpec := { name := "fnExactCountForks", fn := fun _ => fun
  | [d] => { results := [.lit (.bool true)], args := [d] }
  | _ => none }
def fnExactCountForksRow : OpenClaim := { program := "ytiopgbpjkjnphaa", sum := "9e20d4c29132417190b49bb84f65f0b60884b1b5eb3ea85da3cd96a5b9b2db1d", func := "loop.example/g01257/laws.FnExactCountForks", spec := "fnExactCountForks", apart := false }
def FnExactCountForksSaid : Prop := fnExactCountForksRow.holds Try.pinned (OpenSpec.ofChange fnExactCountForksSpec)

/-- ITS FALSE NEIGHBOUR: 'it returns false'. Refute it at one input. -/
def fnExactCountForksWrong : ChangeSpec := { name := "fnExactCountForks", fn := fun _ => fun
  | [d] => { results := [.lit (.bool false)], args := [d] }
  | _ => none }
def FnExactCountForksWrongFalsely : Prop := fnExactCountForksRow.holds Try.pinned (OpenSpec.ofChange fnExactCountForksWrong)

/-- 'laws.FnExactNumbersOfFriends': WHATEVER THE INPUT: true; the input reads as it did. -/
def fnExactNumbersOfFriendsSpec : ChangeSpec := { name := "fnExactNumbersOfFriends", fn := fun _ => fun
  | [d] => { results := [.lit (.bool true)], args := [d] }
  | _ => none }
def fnExactNumbersOfFriendsRow : OpenClaim := { program := "ytiopgbpjkjnphaa", sum := "9e20d4c29132417190b49bb84f65f0b60884b1b5eb3ea85da3cd96a5b9b2db1d", func := "loop.example/g01257/laws.FnExactNumbersOfFriends", spec := "fnExactNumbersOfFriends", apart := false }
def FnExactNumbersOfFriendsSaid : Prop := fnExactNumbersOfFriendsRow.holds Try.pinned (OpenSpec.ofChange fnExactNumbersOfFriendsSpec)

/-- ITS FALSE NEIGHBOUR: 'it returns false'. Refute it at one input. -/
def fnExactNumbersOfFriendsWrong : ChangeSpec := { name := "fnExactNumbersOfFriends", fn := fun _ => fun
  | [d] => { results := [.lit (.bool false)], args := [d] }
  | _ => none }
def FnExactNumbersOfFriendsWrongFalsely : Prop := fnExactNumbersOfFriendsRow.holds Try.pinned (OpenSpec.ofChange fnExactNumbersOfFriendsWrong)

/-- 'laws.FnExactTuranParty': WHATEVER THE INPUT: true; the input reads as it did. -/
def fnExactTuranPartySpec : ChangeSpec := { name := "fnExactTuranParty", fn := fun _ => fun
  | [d1, d2] => { results := [.lit (.bool true)], args := [d1, d2] }
  | _ => none }
def fnExactTuranPartyRow : OpenClaim := { program := "ytiopgbpjkjnphaa", sum := "9e20d4c29132417190b49bb84f65f0b60884b1b5eb3ea85da3cd96a5b9b2db1d", func := "loop.example/g01257/laws.FnExactTuranParty", spec := "fnExactTuranParty", apart := false }
def FnExactTuranPartySaid : Prop := fnExactTuranPartyRow.holds Try.pinned (OpenSpec.ofChange fnExactTuranPartySpec)

/-- ITS FALSE NEIGHBOUR: 'it returns false'. Refute it at one input. -/
def fnExactTuranPartyWrong : ChangeSpec := { name := "fnExactTuranParty", fn := fun _ => fun
  | [d1, d2] => { results := [.lit (.bool false)], args := [d1, d2] }
  | _ => none }
def FnExactTuranPartyWrongFalsely : Prop := fnExactTuranPartyRow.holds Try.pinned (OpenSpec.ofChange fnExactTuranPartyWrong)

/-- 'laws.FnExactOtherParty': WHATEVER THE INPUT: true; the input reads as it did. -/
def fnExactOtherPartySpec : ChangeSpec := { name := "fnExactOtherParty", fn := fun _ => fun
  | [d] => { results := [.lit (.bool true)], args := [d] }
  | _ => none }
def fnExactOtherPartyRow : OpenClaim := { program := "ytiopgbpjkjnphaa", sum := "9e20d4c29132417190b49bb84f65f0b60884b1b5eb3ea85da3cd96a5b9b2db1d", func := "loop.example/g01257/laws.FnExactOtherParty", spec := "fnExactOtherParty", apart := false }
def FnExactOtherPartySaid : Prop := fnExactOtherPartyRow.holds Try.pinned (OpenSpec.ofChange fnExactOtherPartySpec)

/-- ITS FALSE NEIGHBOUR: 'it returns false'. Refute it at one input. -/
def fnExactOtherPartyWrong : ChangeSpec := { name := "fnExactOtherParty", fn := fun _ => fun
  | [d] => { results := [.lit (.bool false)], args := [d] }
  | _ => none }
def FnExactOtherPartyWrongFalsely : Prop := fnExactOtherPartyRow.holds Try.pinned (OpenSpec.ofChange fnExactOtherPartyWrong)

/-- 'laws.FnExactPartsParty': WHATEVER THE INPUT: true; the input reads as it did. -/
def fnExactPartsPartySpec : ChangeSpec := { name := "fnExactPartsParty", fn := fun _ => fun
  | [d] => { results := [.lit (.bool true)], args := [d] }
  | _ => none }
def fnExactPartsPartyRow : OpenClaim := { program := "ytiopgbpjkjnphaa", sum := "9e20d4c29132417190b49bb84f65f0b60884b1b5eb3ea85da3cd96a5b9b2db1d", func := "loop.example/g01257/laws.FnExactPartsParty", spec := "fnExactPartsParty", unfollowed := true, recurses := true, apart := false }
def FnExactPartsPartySaid : Prop := fnExactPartsPartyRow.holds Try.pinned (OpenSpec.ofChange fnExactPartsPartySpec)

/-- ITS FALSE NEIGHBOUR: 'it returns false'. Refute it at one input. -/
def fnExactPartsPartyWrong : ChangeSpec := { name := "fnExactPartsParty", fn := fun _ => fun
  | [d] => { results := [.lit (.bool false)], args := [d] }
  | _ => none }
def FnExactPartsPartyWrongFalsely : Prop := fnExactPartsPartyRow.holds Try.pinned (OpenSpec.ofChange fnExactPartsPartyWrong)

/- THE SECOND FORM. 'bulk': how many values and letters a reading holds, each counted each time it is reached (what is shared counts as often as it is met; a slice's spare places count too). A statement '..UptoSaid' is the law's where the arguments, and the package variables that the reading takes, are together of bulk at most 1048576: NARROWER than '..Said'. Prove '..Said' where nothing that the law and all that it calls make is longer than what came in: it says more and counts as full. Else prove '..UptoSaid'. A law counts once. -/
mutual
def uptoBulk {H : Type} : DataW H → Nat
  | .lit (.string bytes) => bytes.length + 1
  | .lit _ => 1
  | .nil => 1
  | .ptr d => uptoBulk d + 1
  | .slice elems spare => uptoBulkAll elems + uptoBulkAll spare + 1
  | .agg parts => uptoBulkAll parts + 1
  | .iface _ d => uptoBulk d + 1
  | .map entries => uptoBulkEntries entries + 1
  | .held _ => 1
def uptoBulkAll {H : Type} : List (DataW H) → Nat
  | [] => 0
  | d :: r => uptoBulk d + uptoBulkAll r
def uptoBulkEntries {H : Type} : List (Lit × DataW H) → Nat
  | [] => 0
  | x :: r => uptoBulkEntry x + uptoBulkEntries r
def uptoBulkEntry {H : Type} : Lit × DataW H → Nat
  | (.string bytes, d) => bytes.length + uptoBulk d + 1
  | (_, d) => uptoBulk d + 1
 end
def uptoSmall : (H : Type) → List (DataW H) → Bool := fun _ ds => decide (uptoBulkAll ds ≤ 1048576)
def OpenSpec.upto (s : _root_.Go.ChangeSpec) : _root_.Go.OpenSpec := { _root_.Go.OpenSpec.ofChange s with cond := some uptoSmall }

/-- 'laws.FnExactIsParty', WHERE WHAT IT READS IS OF BULK AT MOST 1048576: true; the input reads as it did. -/
def fnExactIsPartyUptoRow : OpenClaim := { program := "ytiopgbpjkjnphaa", sum := "9e20d4c29132417190b49bb84f65f0b60884b1b5eb3ea85da3cd96a5b9b2db1d", func := "loop.example/g01257/laws.FnExactIsParty", spec := "fnExactIsParty", apart := false, narrowed := true }
def FnExactIsPartyUptoSaid : Prop := fnExactIsPartyUptoRow.holds Try.pinned (OpenSpec.upto fnExactIsPartySpec)

/-- 'laws.FnExactFullParty', WHERE WHAT IT READS IS OF BULK AT MOST 1048576: true; the input reads as it did. -/
def fnExactFullPartyUptoRow : OpenClaim := { program := "ytiopgbpjkjnphaa", sum := "9e20d4c29132417190b49bb84f65f0b60884b1b5eb3ea85da3cd96a5b9b2db1d", func := "loop.example/g01257/laws.FnExactFullParty", spec := "fnExactFullParty", apart := false, narrowed := true }
def FnExactFullPartyUptoSaid : Prop := fnExactFullPartyUptoRow.holds Try.pinned (OpenSpec.upto fnExactFullPartySpec)

/-- 'laws.FnExactMostWithout', WHERE WHAT IT READS IS OF BULK AT MOST 1048576: true; the input reads as it did. -/
def fnExactMostWithoutUptoRow : OpenClaim := { program := "ytiopgbpjkjnphaa", sum := "9e20d4c29132417190b49bb84f65f0b60884b1b5eb3ea85da3cd96a5b9b2db1d", func := "loop.example/g01257/laws.FnExactMostWithout", spec := "fnExactMostWithout", apart := false, narrowed := true }
def FnExactMostWithoutUptoSaid : Prop := fnExactMostWithoutUptoRow.holds Try.pinned (OpenSpec.upto fnExactMostWithoutSpec)

/-- 'laws.FnExactAreFriends', WHERE WHAT IT READS IS OF BULK AT MOST 1048576: true; the input reads as it did. -/
def fnExactAreFriendsUptoRow : OpenClaim := { program := "ytiopgbpjkjnphaa", sum := "9e20d4c29132417190b49bb84f65f0b60884b1b5eb3ea85da3cd96a5b9b2db1d", func := "loop.example/g01257/laws.FnExactAreFriends", spec := "fnExactAreFriends", unfollowed := true, recurses := true, apart := false, narrowed := true }
def FnExactAreFriendsUptoSaid : Prop := fnExactAreFriendsUptoRow.holds Try.pinned (OpenSpec.upto fnExactAreFriendsSpec)

/-- 'laws.FnExactTwoAlike', WHERE WHAT IT READS IS OF BULK AT MOST 1048576: true; the input reads as it did. -/
def fnExactTwoAlikeUptoRow : OpenClaim := { program := "ytiopgbpjkjnphaa", sum := "9e20d4c29132417190b49bb84f65f0b60884b1b5eb3ea85da3cd96a5b9b2db1d", func := "loop.example/g01257/laws.FnExactTwoAlike", spec := "fnExactTwoAlike", apart := false, narrowed := true }
def FnExactTwoAlikeUptoSaid : Prop := fnExactTwoAlikeUptoRow.holds Try.pinned (OpenSpec.upto fnExactTwoAlikeSpec)

/-- 'laws.FnExactIsColouring', WHERE WHAT IT READS IS OF BULK AT MOST 1048576: true; the input reads as it did. -/
def fnExactIsColouringUptoRow : OpenClaim := { program := "ytiopgbpjkjnphaa", sum := "9e20d4c29132417190b49bb84f65f0b60884b1b5eb3ea85da3cd96a5b9b2db1d", func := "loop.example/g01257/laws.FnExactIsColouring", spec := "fnExactIsColouring", unfollowed := true, recurses := true, apart := false, narrowed := true }
def FnExactIsColouringUptoSaid : Prop := fnExactIsColouringUptoRow.holds Try.pinned (OpenSpec.upto fnExactIsColouringSpec)

/-- 'laws.FnExactCountByNumbers', WHERE WHAT IT READS IS OF BULK AT MOST 1048576: true; the input reads as it did. -/
def fnExactCountByNumbersUptoRow : OpenClaim := { program := "ytiopgbpjkjnphaa", sum := "9e20d4c29132417190b49bb84f65f0b60884b1b5eb3ea85da3cd96a5b9b2db1d", func := "loop.example/g01257/laws.FnExactCountByNumbers", spec := "fnExactCountByNumbers", apart := false, narrowed := true }
def FnExactCountByNumbersUptoSaid : Prop := fnExactCountByNumbersUptoRow.holds Try.pinned (OpenSpec.upto fnExactCountByNumbersSpec)

/-- 'laws.FnExactCountForks', WHERE WHAT IT READS IS OF BULK AT MOST 1048576: true; the input reads as it did. -/
def fnExactCountForksUptoRow : OpenClaim := { program := "ytiopgbpjkjnphaa", sum := "9e20d4c29132417190b49bb84f65f0b60884b1b5eb3ea85da3cd96a5b9b2db1d", func := "loop.example/g01257/laws.FnExactCountForks", spec := "fnExactCountForks", apart := false, narrowed := true }
def FnExactCountForksUptoSaid : Prop := fnExactCountForksUptoRow.holds Try.pinned (OpenSpec.upto fnExactCountForksSpec)

/-- 'laws.FnExactNumbersOfFriends', WHERE WHAT IT READS IS OF BULK AT MOST 1048576: true; the input reads as it did. -/
def fnExactNumbersOfFriendsUptoRow : OpenClaim := { program := "ytiopgbpjkjnphaa", sum := "9e20d4c29132417190b49bb84f65f0b60884b1b5eb3ea85da3cd96a5b9b2db1d", func := "loop.example/g01257/laws.FnExactNumbersOfFriends", spec := "fnExactNumbersOfFriends", apart := false, narrowed := true }
def FnExactNumbersOfFriendsUptoSaid : Prop := fnExactNumbersOfFriendsUptoRow.holds Try.pinned (OpenSpec.upto fnExactNumbersOfFriendsSpec)

/-- 'laws.FnExactTuranParty', WHERE WHAT IT READS IS OF BULK AT MOST 1048576: true; the input reads as it did. -/
def fnExactTuranPartyUptoRow : OpenClaim := { program := "ytiopgbpjkjnphaa", sum := "9e20d4c29132417190b49bb84f65f0b60884b1b5eb3ea85da3cd96a5b9b2db1d", func := "loop.example/g01257/laws.FnExactTuranParty", spec := "fnExactTuranParty", apart := false, narrowed := true }
def FnExactTuranPartyUptoSaid : Prop := fnExactTuranPartyUptoRow.holds Try.pinned (OpenSpec.upto fnExactTuranPartySpec)

/-- 'laws.FnExactOtherParty', WHERE WHAT IT READS IS OF BULK AT MOST 1048576: true; the input reads as it did. -/
def fnExactOtherPartyUptoRow : OpenClaim := { program := "ytiopgbpjkjnphaa", sum := "9e20d4c29132417190b49bb84f65f0b60884b1b5eb3ea85da3cd96a5b9b2db1d", func := "loop.example/g01257/laws.FnExactOtherParty", spec := "fnExactOtherParty", apart := false, narrowed := true }
def FnExactOtherPartyUptoSaid : Prop := fnExactOtherPartyUptoRow.holds Try.pinned (OpenSpec.upto fnExactOtherPartySpec)

/-- 'laws.FnExactPartsParty', WHERE WHAT IT READS IS OF BULK AT MOST 1048576: true; the input reads as it did. -/
def fnExactPartsPartyUptoRow : OpenClaim := { program := "ytiopgbpjkjnphaa", sum := "9e20d4c29132417190b49bb84f65f0b60884b1b5eb3ea85da3cd96a5b9b2db1d", func := "loop.example/g01257/laws.FnExactPartsParty", spec := "fnExactPartsParty", unfollowed := true, recurses := true, apart := false, narrowed := true }
def FnExactPartsPartyUptoSaid : Prop := fnExactPartsPartyUptoRow.holds Try.pinned (OpenSpec.upto fnExactPartsPartySpec)

end Rows
end Go.Proofs.Ytiopgbpjkjnphaa
