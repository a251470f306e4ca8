/-
  No cell of these rows narrows 'for every input' (looked for: loops, veiled, ifaces, maps, wideKeys, modest, calm, conditions, laid).
  DERIVED. THE GIVEN ROWS OF THIS SEAT. 11 by the template 'for every input the law returns true; each argument reads behind the call as it read before'; 0 by the template 'total and deterministic' (their statements: YtjipjcdeoajnjaaTotals.lean).
  GIVEN WITH THE SEED: the statements are not yours to turn. If you find one false, say at which input.
  Laid BY PROGRAM, IN A SANDBOX (cutbox-rows.mjs): the forced cells as the released guide's own fill.sh prints them over the translation a17b01582b202832… (all of the seat's roots in one cut). By AI agents, Wed Nov 11 2026. No macro, syntax, notation, axiom, sorry.
-/
import Derived.Test.YtjipjcdeoajnjaaChecked
import GoSem.Claim
import GoSem.ClaimJoined
import GoSem.ClaimMapViews
import Derived.JoinedTies
import Derived.KernelRfl
namespace Go.Proofs.Ytjipjcdeoajnjaa
/- THE CELL 'sum', in the pinned program and in every row, IS THE sha256 OF THE DUMP (.gsa) THAT YtjipjcdeoajnjaaProg.lean LOADS. Nothing in Lean hashes anything: it is a label: what it is worth is what the hold of that sum in a sandbox is worth. -/
noncomputable def Try.pinned : Pinned := { name := "ytjipjcdeoajnjaa", sum := "a17b01582b202832ae9b21116cb24394fa51fae8d5d6fa02a02ed95a2c7d9d31", checked := Try.checked }
namespace Rows
def none {H : Type} : Left H := { results := [], args := [] }

/-- 'laws.FnExactCountOfNumbers': WHATEVER THE INPUT: true; the input reads as it did. -/
def fnExactCountOfNumbersSpec : ChangeSpec := { name := "fnExactCountOfNumbers", fn := fun _ => fun
  | [d] => { results := [.lit (.bool true)], args := [d] }
  | _ => none }
def fnExactCountOfNumbersRow : OpenClaim := { program := "ytjipjcdeoajnjaa", sum := "a17b01582b202832ae9b21116cb24394fa51fae8d5d6fa02a02ed95a2c7d9d31", func := "loop.example/g01257/laws.FnExactCountOfNumbers", spec := "fnExactCountOfNumbers", unfollowed := true, recurses := true, apart := false }
def FnExactCountOfNumbersSaid : Prop := fnExactCountOfNumbersRow.holds Try.pinned (OpenSpec.ofChange fnExactCountOfNumbersSpec)

/-- ITS FALSE NEIGHBOUR: 'it returns false'. Refute it at one input. -/
def fnExactCountOfNumbersWrong : ChangeSpec := { name := "fnExactCountOfNumbers", fn := fun _ => fun
  | [d] => { results := [.lit (.bool false)], args := [d] }
  | _ => none }
def FnExactCountOfNumbersWrongFalsely : Prop := fnExactCountOfNumbersRow.holds Try.pinned (OpenSpec.ofChange fnExactCountOfNumbersWrong)

/-- 'laws.FnExactIsOnly': WHATEVER THE INPUT: true; the input reads as it did. -/
def fnExactIsOnlySpec : ChangeSpec := { name := "fnExactIsOnly", fn := fun _ => fun
  | [d] => { results := [.lit (.bool true)], args := [d] }
  | _ => none }
def fnExactIsOnlyRow : OpenClaim := { program := "ytjipjcdeoajnjaa", sum := "a17b01582b202832ae9b21116cb24394fa51fae8d5d6fa02a02ed95a2c7d9d31", func := "loop.example/g01257/laws.FnExactIsOnly", spec := "fnExactIsOnly", unfollowed := true, recurses := true, apart := false }
def FnExactIsOnlySaid : Prop := fnExactIsOnlyRow.holds Try.pinned (OpenSpec.ofChange fnExactIsOnlySpec)

/-- ITS FALSE NEIGHBOUR: 'it returns false'. Refute it at one input. -/
def fnExactIsOnlyWrong : ChangeSpec := { name := "fnExactIsOnly", fn := fun _ => fun
  | [d] => { results := [.lit (.bool false)], args := [d] }
  | _ => none }
def FnExactIsOnlyWrongFalsely : Prop := fnExactIsOnlyRow.holds Try.pinned (OpenSpec.ofChange fnExactIsOnlyWrong)

/-- 'laws.FnExactFirstOfNumbers': WHATEVER THE INPUT: true; the input reads as it did. -/
def fnExactFirstOfNumbersSpec : ChangeSpec := { name := "fnExactFirstOfNumbers", fn := fun _ => fun
  | [d] => { results := [.lit (.bool true)], args := [d] }
  | _ => none }
def fnExactFirstOfNumbersRow : OpenClaim := { program := "ytjipjcdeoajnjaa", sum := "a17b01582b202832ae9b21116cb24394fa51fae8d5d6fa02a02ed95a2c7d9d31", func := "loop.example/g01257/laws.FnExactFirstOfNumbers", spec := "fnExactFirstOfNumbers", unfollowed := true, recurses := true, apart := false }
def FnExactFirstOfNumbersSaid : Prop := fnExactFirstOfNumbersRow.holds Try.pinned (OpenSpec.ofChange fnExactFirstOfNumbersSpec)

/-- ITS FALSE NEIGHBOUR: 'it returns false'. Refute it at one input. -/
def fnExactFirstOfNumbersWrong : ChangeSpec := { name := "fnExactFirstOfNumbers", fn := fun _ => fun
  | [d] => { results := [.lit (.bool false)], args := [d] }
  | _ => none }
def FnExactFirstOfNumbersWrongFalsely : Prop := fnExactFirstOfNumbersRow.holds Try.pinned (OpenSpec.ofChange fnExactFirstOfNumbersWrong)

/-- 'laws.FnExactTreeOfNumbers': WHATEVER THE INPUT: true; the input reads as it did. -/
def fnExactTreeOfNumbersSpec : ChangeSpec := { name := "fnExactTreeOfNumbers", fn := fun _ => fun
  | [d] => { results := [.lit (.bool true)], args := [d] }
  | _ => none }
def fnExactTreeOfNumbersRow : OpenClaim := { program := "ytjipjcdeoajnjaa", sum := "a17b01582b202832ae9b21116cb24394fa51fae8d5d6fa02a02ed95a2c7d9d31", func := "loop.example/g01257/laws.FnExactTreeOfNumbers", spec := "fnExactTreeOfNumbers", unfollowed := true, recurses := true, apart := false }
def FnExactTreeOfNumbersSaid : Prop := fnExactTreeOfNumbersRow.holds Try.pinned (OpenSpec.ofChange fnExactTreeOfNumbersSpec)

/-- ITS FALSE NEIGHBOUR: 'it returns false'. Refute it at one input. -/
def fnExactTreeOfNumbersWrong : ChangeSpec := { name := "fnExactTreeOfNumbers", fn := fun _ => fun
  | [d] => { results := [.lit (.bool false)], args := [d] }
  | _ => none }
def FnExactTreeOfNumbersWrongFalsely : Prop := fnExactTreeOfNumbersRow.holds Try.pinned (OpenSpec.ofChange fnExactTreeOfNumbersWrong)

/-- 'laws.FnExactSortNumbers': WHATEVER THE INPUT: true; the input reads as it did. -/
def fnExactSortNumbersSpec : ChangeSpec := { name := "fnExactSortNumbers", fn := fun _ => fun
  | [d] => { results := [.lit (.bool true)], args := [d] }
  | _ => none }
def fnExactSortNumbersRow : OpenClaim := { program := "ytjipjcdeoajnjaa", sum := "a17b01582b202832ae9b21116cb24394fa51fae8d5d6fa02a02ed95a2c7d9d31", func := "loop.example/g01257/laws.FnExactSortNumbers", spec := "fnExactSortNumbers", unfollowed := true, recurses := true, apart := false }
def FnExactSortNumbersSaid : Prop := fnExactSortNumbersRow.holds Try.pinned (OpenSpec.ofChange fnExactSortNumbersSpec)

/-- ITS FALSE NEIGHBOUR: 'it returns false'. Refute it at one input. -/
def fnExactSortNumbersWrong : ChangeSpec := { name := "fnExactSortNumbers", fn := fun _ => fun
  | [d] => { results := [.lit (.bool false)], args := [d] }
  | _ => none }
def FnExactSortNumbersWrongFalsely : Prop := fnExactSortNumbersRow.holds Try.pinned (OpenSpec.ofChange fnExactSortNumbersWrong)

/-- 'laws.FnExactFailsAt': WHATEVER THE INPUT: true; the input reads as it did. -/
def fnExactFailsAtSpec : ChangeSpec := { name := "fnExactFailsAt", fn := fun _ => fun
  | [d] => { results := [.lit (.bool true)], args := [d] }
  | _ => none }
def fnExactFailsAtRow : OpenClaim := { program := "ytjipjcdeoajnjaa", sum := "a17b01582b202832ae9b21116cb24394fa51fae8d5d6fa02a02ed95a2c7d9d31", func := "loop.example/g01257/laws.FnExactFailsAt", spec := "fnExactFailsAt", unfollowed := true, recurses := true, apart := false }
def FnExactFailsAtSaid : Prop := fnExactFailsAtRow.holds Try.pinned (OpenSpec.ofChange fnExactFailsAtSpec)

/-- ITS FALSE NEIGHBOUR: 'it returns false'. Refute it at one input. -/
def fnExactFailsAtWrong : ChangeSpec := { name := "fnExactFailsAt", fn := fun _ => fun
  | [d] => { results := [.lit (.bool false)], args := [d] }
  | _ => none }
def FnExactFailsAtWrongFalsely : Prop := fnExactFailsAtRow.holds Try.pinned (OpenSpec.ofChange fnExactFailsAtWrong)

/-- 'laws.FnExactCanBe': WHATEVER THE INPUT: true; the input reads as it did. -/
def fnExactCanBeSpec : ChangeSpec := { name := "fnExactCanBe", fn := fun _ => fun
  | [d] => { results := [.lit (.bool true)], args := [d] }
  | _ => none }
def fnExactCanBeRow : OpenClaim := { program := "ytjipjcdeoajnjaa", sum := "a17b01582b202832ae9b21116cb24394fa51fae8d5d6fa02a02ed95a2c7d9d31", func := "loop.example/g01257/laws.FnExactCanBe", spec := "fnExactCanBe", unfollowed := true, recurses := true, apart := false }
def FnExactCanBeSaid : Prop := fnExactCanBeRow.holds Try.pinned (OpenSpec.ofChange fnExactCanBeSpec)

/-- ITS FALSE NEIGHBOUR: 'it returns false'. Refute it at one input. -/
def fnExactCanBeWrong : ChangeSpec := { name := "fnExactCanBe", fn := fun _ => fun
  | [d] => { results := [.lit (.bool false)], args := [d] }
  | _ => none }
def FnExactCanBeWrongFalsely : Prop := fnExactCanBeRow.holds Try.pinned (OpenSpec.ofChange fnExactCanBeWrong)

/-- 'laws.FnExactCountNumbers': WHATEVER THE INPUT: true; the input reads as it did. -/
def fnExactCountNumbersSpec : ChangeSpec := { name := "fnExactCountNumbers", fn := fun _ => fun
  | [d] => { results := [.lit (.bool true)], args := [d] }
  | _ => none }
def fnExactCountNumbersRow : OpenClaim := { program := "ytjipjcdeoajnjaa", sum := "a17b01582b202832ae9b21116cb24394fa51fae8d5d6fa02a02ed95a2c7d9d31", func := "loop.example/g01257/laws.FnExactCountNumbers", spec := "fnExactCountNumbers", unfollowed := true, recurses := true, apart := false }
def FnExactCountNumbersSaid : Prop := fnExactCountNumbersRow.holds Try.pinned (OpenSpec.ofChange fnExactCountNumbersSpec)

/-- ITS FALSE NEIGHBOUR: 'it returns false'. Refute it at one input. -/
def fnExactCountNumbersWrong : ChangeSpec := { name := "fnExactCountNumbers", fn := fun _ => fun
  | [d] => { results := [.lit (.bool false)], args := [d] }
  | _ => none }
def FnExactCountNumbersWrongFalsely : Prop := fnExactCountNumbersRow.holds Try.pinned (OpenSpec.ofChange fnExactCountNumbersWrong)

/-- 'laws.FnExactHangTogether': WHATEVER THE INPUT: true; the input reads as it did. -/
def fnExactHangTogetherSpec : ChangeSpec := { name := "fnExactHangTogether", fn := fun _ => fun
  | [d] => { results := [.lit (.bool true)], args := [d] }
  | _ => none }
def fnExactHangTogetherRow : OpenClaim := { program := "ytjipjcdeoajnjaa", sum := "a17b01582b202832ae9b21116cb24394fa51fae8d5d6fa02a02ed95a2c7d9d31", func := "loop.example/g01257/laws.FnExactHangTogether", spec := "fnExactHangTogether", unfollowed := true, recurses := true, apart := false }
def FnExactHangTogetherSaid : Prop := fnExactHangTogetherRow.holds Try.pinned (OpenSpec.ofChange fnExactHangTogetherSpec)

/-- ITS FALSE NEIGHBOUR: 'it returns false'. Refute it at one input. -/
def fnExactHangTogetherWrong : ChangeSpec := { name := "fnExactHangTogether", fn := fun _ => fun
  | [d] => { results := [.lit (.bool false)], args := [d] }
  | _ => none }
def FnExactHangTogetherWrongFalsely : Prop := fnExactHangTogetherRow.holds Try.pinned (OpenSpec.ofChange fnExactHangTogetherWrong)

/-- 'laws.FnExactAllNumbers': WHATEVER THE INPUT: true; the input reads as it did. -/
def fnExactAllNumbersSpec : ChangeSpec := { name := "fnExactAllNumbers", fn := fun _ => fun
  | [d] => { results := [.lit (.bool true)], args := [d] }
  | _ => none }
def fnExactAllNumbersRow : OpenClaim := { program := "ytjipjcdeoajnjaa", sum := "a17b01582b202832ae9b21116cb24394fa51fae8d5d6fa02a02ed95a2c7d9d31", func := "loop.example/g01257/laws.FnExactAllNumbers", spec := "fnExactAllNumbers", unfollowed := true, recurses := true, apart := false }
def FnExactAllNumbersSaid : Prop := fnExactAllNumbersRow.holds Try.pinned (OpenSpec.ofChange fnExactAllNumbersSpec)

/-- ITS FALSE NEIGHBOUR: 'it returns false'. Refute it at one input. -/
def fnExactAllNumbersWrong : ChangeSpec := { name := "fnExactAllNumbers", fn := fun _ => fun
  | [d] => { results := [.lit (.bool false)], args := [d] }
  | _ => none }
def FnExactAllNumbersWrongFalsely : Prop := fnExactAllNumbersRow.holds Try.pinned (OpenSpec.ofChange fnExactAllNumbersWrong)

/-- 'laws.FnExactPartyOfNumbers': WHATEVER THE INPUT: true; the input reads as it did. -/
def fnExactPartyOfNumbersSpec : ChangeSpec := { name := "fnExactPartyOfNumbers", fn := fun _ => fun
  | [d] => { results := [.lit (.bool true)], args := [d] }
  | _ => none }
def fnExactPartyOfNumbersRow : OpenClaim := { program := "ytjipjcdeoajnjaa", sum := "a17b01582b202832ae9b21116cb24394fa51fae8d5d6fa02a02ed95a2c7d9d31", func := "loop.example/g01257/laws.FnExactPartyOfNumbers", spec := "fnExactPartyOfNumbers", unfollowed := true, recurses := true, apart := false }
def FnExactPartyOfNumbersSaid : Prop := fnExactPartyOfNumbersRow.holds Try.pinned (OpenSpec.ofChange fnExactPartyOfNumbersSpec)

/-- ITS FALSE NEIGHBOUR: 'it returns false'. Refute it at one input. -/
def fnExactPartyOfNumbersWrong : ChangeSpec := { name := "fnExactPartyOfNumbers", fn := fun _ => fun
  | [d] => { results := [.lit (.bool false)], args := [d] }
  | _ => none }
def FnExactPartyOfNumbersWrongFalsely : Prop := fnExactPartyOfNumbersRow.holds Try.pinned (OpenSpec.ofChange fnExactPartyOfNumbersWrong)

/- THE SECOND FORM. 'bulk': how many values and letters a reading holds, each counted each time it is reached (what is shared counts as often as it is met; a slice's spare places count too). A statement '..UptoSaid' is the law's where the arguments, and the package variables that the reading takes, are together of bulk at most 1048576: NARROWER than '..Said'. Prove '..Said' where nothing that the law and all that it calls make is longer than what came in: it says more and counts as full. Else prove '..UptoSaid'. A law counts once. -/
mutual
def uptoBulk {H : Type} : DataW H → Nat
  | .lit (.string bytes) => bytes.length + 1
  | .lit _ => 1
  | .nil => 1
  | .ptr d => uptoBulk d + 1
  | .slice elems spare => uptoBulkAll elems + uptoBulkAll spare + 1
  | .agg parts => uptoBulkAll parts + 1
  | .iface _ d => uptoBulk d + 1
  | .map entries => uptoBulkEntries entries + 1
  | .held _ => 1
def uptoBulkAll {H : Type} : List (DataW H) → Nat
  | [] => 0
  | d :: r => uptoBulk d + uptoBulkAll r
def uptoBulkEntries {H : Type} : List (Lit × DataW H) → Nat
  | [] => 0
  | x :: r => uptoBulkEntry x + uptoBulkEntries r
def uptoBulkEntry {H : Type} : Lit × DataW H → Nat
  | (.string bytes, d) => bytes.length + uptoBulk d + 1
  | (_, d) => uptoBulk d + 1
 end
def uptoSmall : (H : Type) → List (DataW H) → Bool := fun _ ds => decide (uptoBulkAll ds ≤ 1048576)
def OpenSpec.upto (s : _root_.Go.ChangeSpec) : _root_.Go.OpenSpec := { _root_.Go.OpenSpec.ofChange s with cond := some uptoSmall }

/-- 'laws.FnExactCountOfNumbers', WHERE WHAT IT READS IS OF BULK AT MOST 1048576: true; the input reads as it did. -/
def fnExactCountOfNumbersUptoRow : OpenClaim := { program := "ytjipjcdeoajnjaa", sum := "a17b01582b202832ae9b21116cb24394fa51fae8d5d6fa02a02ed95a2c7d9d31", func := "loop.example/g01257/laws.FnExactCountOfNumbers", spec := "fnExactCountOfNumbers", unfollowed := true, recurses := true, apart := false, narrowed := true }
def FnExactCountOfNumbersUptoSaid : Prop := fnExactCountOfNumbersUptoRow.holds Try.pinned (OpenSpec.upto fnExactCountOfNumbersSpec)

/-- 'laws.FnExactIsOnly', WHERE WHAT IT READS IS OF BULK AT MOST 1048576: true; the input reads as it did. -/
def fnExactIsOnlyUptoRow : OpenClaim := { program := "ytjipjcdeoajnjaa", sum := "a17b01582b202832ae9b21116cb24394fa51fae8d5d6fa02a02ed95a2c7d9d31", func := "loop.example/g01257/laws.FnExactIsOnly", spec := "fnExactIsOnly", unfollowed := true, recurses := true, apart := false, narrowed := true }
def FnExactIsOnlyUptoSaid : Prop := fnExactIsOnlyUptoRow.holds Try.pinned (OpenSpec.upto fnExactIsOnlySpec)

/-- 'laws.FnExactFirstOfNumbers', WHERE WHAT IT READS IS OF BULK AT MOST 1048576: true; the input reads as it did. -/
def fnExactFirstOfNumbersUptoRow : OpenClaim := { program := "ytjipjcdeoajnjaa", sum := "a17b01582b202832ae9b21116cb24394fa51fae8d5d6fa02a02ed95a2c7d9d31", func := "loop.example/g01257/laws.FnExactFirstOfNumbers", spec := "fnExactFirstOfNumbers", unfollowed := true, recurses := true, apart := false, narrowed := true }
def FnExactFirstOfNumbersUptoSaid : Prop := fnExactFirstOfNumbersUptoRow.holds Try.pinned (OpenSpec.upto fnExactFirstOfNumbersSpec)

/-- 'laws.FnExactTreeOfNumbers', WHERE WHAT IT READS IS OF BULK AT MOST 1048576: true; the input reads as it did. -/
def fnExactTreeOfNumbersUptoRow : OpenClaim := { program := "ytjipjcdeoajnjaa", sum := "a17b01582b202832ae9b21116cb24394fa51fae8d5d6fa02a02ed95a2c7d9d31", func := "loop.example/g01257/laws.FnExactTreeOfNumbers", spec := "fnExactTreeOfNumbers", unfollowed := true, recurses := true, apart := false, narrowed := true }
def FnExactTreeOfNumbersUptoSaid : Prop := fnExactTreeOfNumbersUptoRow.holds Try.pinned (OpenSpec.upto fnExactTreeOfNumbersSpec)

/-- 'laws.FnExactSortNumbers', WHERE WHAT IT READS IS OF BULK AT MOST 1048576: true; the input reads as it did. -/
def fnExactSortNumbersUptoRow : OpenClaim := { program := "ytjipjcdeoajnjaa", sum := "a17b01582b202832ae9b21116cb24394fa51fae8d5d6fa02a02ed95a2c7d9d31", func := "loop.example/g01257/laws.FnExactSortNumbers", spec := "fnExactSortNumbers", unfollowed := true, recurses := true, apart := false, narrowed := true }
def FnExactSortNumbersUptoSaid : Prop := fnExactSortNumbersUptoRow.holds Try.pinned (OpenSpec.upto fnExactSortNumbersSpec)

/-- 'laws.FnExactFailsAt', WHERE WHAT IT READS IS OF BULK AT MOST 1048576: true; the input reads as it did. -/
def fnExactFailsAtUptoRow : OpenClaim := { program := "ytjipjcdeoajnjaa", sum := "a17b01582b202832ae9b21116cb24394fa51fae8d5d6fa02a02ed95a2c7d9d31", func := "loop.example/g01257/laws.FnExactFailsAt", spec := "fnExactFailsAt", unfollowed := true, recurses := true, apart := false, narrowed := true }
def FnExactFailsAtUptoSaid : Prop := fnExactFailsAtUptoRow.holds Try.pinned (OpenSpec.upto fnExactFailsAtSpec)

/-- 'laws.FnExactCanBe', WHERE WHAT IT READS IS OF BULK AT MOST 1048576: true; the input reads as it did. -/
def fnExactCanBeUptoRow : OpenClaim := { program := "ytjipjcdeoajnjaa", sum := "a17b01582b202832ae9b21116cb24394fa51fae8d5d6fa02a02ed95a2c7d9d31", func := "loop.example/g01257/laws.FnExactCanBe", spec := "fnExactCanBe", unfollowed := true, recurses := true, apart := false, narrowed := true }
def FnExactCanBeUptoSaid : Prop := fnExactCanBeUptoRow.holds Try.pinned (OpenSpec.upto fnExactCanBeSpec)

/-- 'laws.FnExactCountNumbers', WHERE WHAT IT READS IS OF BULK AT MOST 1048576: true; the input reads as it did. -/
def fnExactCountNumbersUptoRow : OpenClaim := { program := "ytjipjcdeoajnjaa", sum := "a17b01582b202832ae9b21116cb24394fa51fae8d5d6fa02a02ed95a2c7d9d31", func := "loop.example/g01257/laws.FnExactCountNumbers", spec := "fnExactCountNumbers", unfollowed := true, recurses := true, apart := false, narrowed := true }
def FnExactCountNumbersUptoSaid : Prop := fnExactCountNumbersUptoRow.holds Try.pinned (OpenSpec.upto fnExactCountNumbersSpec)

/-- 'laws.FnExactHangTogether', WHERE WHAT IT READS IS OF BULK AT MOST 1048576: true; the input reads as it did. -/
def fnExactHangTogetherUptoRow : OpenClaim := { program := "ytjipjcdeoajnjaa", sum := "a17b01582b202832ae9b21116cb24394fa51fae8d5d6fa02a02ed95a2c7d9d31", func := "loop.example/g01257/laws.FnExactHangTogether", spec := "fnExactHangTogether", unfollowed := true, recurses := true, apart := false, narrowed := true }
def FnExactHangTogetherUptoSaid : Prop := fnExactHangTogetherUptoRow.holds Try.pinned (OpenSpec.upto fnExactHangTogetherSpec)

/-- 'laws.FnExactAllNumbers', WHERE WHAT IT READS IS OF BULK AT MOST 1048576: true; the input reads as it did. -/
def fnExactAllNumbersUptoRow : OpenClaim := { program := "ytjipjcdeoajnjaa", sum := "a17b01582b202832ae9b21116cb24394fa51fae8d5d6fa02a02ed95a2c7d9d31", func := "loop.example/g01257/laws.FnExactAllNumbers", spec := "fnExactAllNumbers", unfollowed := true, recurses := true, apart := false, narrowed := true }
def FnExactAllNumbersUptoSaid : Prop := fnExactAllNumbersUptoRow.holds Try.pinned (OpenSpec.upto fnExactAllNumbersSpec)

/-- 'laws.FnExactPartyOfNumbers', WHERE WHAT IT READS IS OF BULK AT MOST 1048576: true; the input reads as it did. -/
def fnExactPartyOfNumbersUptoRow : OpenClaim := { program := "ytjipjcdeoajnjaa", sum := "a17b01582b202832ae9b21116cb24394fa51fae8d5d6fa02a02ed95a2c7d9d31", func := "loop.example/g01257/laws.FnExactPartyOfNumbers", spec := "fnExactPartyOfNumbers", unfollowed := true, recurses := true, apart := false, narrowed := true }
def FnExactPartyOfNumbersUptoSaid : Prop := fnExactPartyOfNumbersUptoRow.holds Try.pinned (OpenSpec.upto fnExactPartyOfNumbersSpec)

end Rows
end Go.Proofs.Ytjipjcdeoajnjaa
