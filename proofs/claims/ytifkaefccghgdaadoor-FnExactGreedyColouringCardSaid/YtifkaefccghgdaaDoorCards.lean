/-
  DERIVED. GIVEN WITH THE SEED: THE CARDS: each row of YtifkaefccghgdaaDoorRows.lean that lists a variable, with what it lists TIED to the program's text (the seventh form; the later family's looks); each row that meets fmt, with fmt's text TOLD by the authors' own Lean function (tested against real Go, not proved from fmt's source: count such statements apart). THE CARD IS WHAT COUNTS. Prove the row's statement (the work); the ties are given (YtifkaefccghgdaaDoorTie.lean); close each card by the builder's one call (the guide's Derived/Test/ToyasCard.lean, 'card_holds'). Laid BY PROGRAM, IN A SANDBOX (cutbox-door.mjs). By AI agents, Wed Nov 11 2026. No macro, syntax, notation, axiom, sorry.
-/
import Derived.Test.YtifkaefccghgdaaDoorRows
import GoSem.ClaimSeven
namespace Go.Proofs.YtifkaefccghgdaaDoor
namespace Rows

/-- THE TIED CARD OF 'laws.FnExactCountGroups'. -/
def fnExactCountGroupsCard : Claim7 := { stood := { row := fnExactCountGroupsRow, standIns := [], harness := (true, "e2474fdcb8f6e5ec2240a1d16f7315d0ae4cc801524d30ca399ae33b0a4479a7"), looks := false }, kinds := [], alts := [], laidByText := true, laidKinds := [.data], laidTests := true, laidLooks := .later }
def FnExactCountGroupsCardSaid : Prop := Claim7.holds Tryd.pinned (.plain (OpenSpec.ofChange fnExactCountGroupsSpec)) fnExactCountGroupsCard

/-- THE TIED CARD OF 'laws.FnExactGroupsAt'. -/
def fnExactGroupsAtCard : Claim7 := { stood := { row := fnExactGroupsAtRow, standIns := [], harness := (true, "e2474fdcb8f6e5ec2240a1d16f7315d0ae4cc801524d30ca399ae33b0a4479a7"), looks := false }, kinds := [], alts := [], laidByText := true, laidKinds := [.data], laidTests := true, laidLooks := .later }
def FnExactGroupsAtCardSaid : Prop := Claim7.holds Tryd.pinned (.plain (OpenSpec.ofChange fnExactGroupsAtSpec)) fnExactGroupsAtCard

/-- THE TIED CARD OF 'laws.FnExactGroupNumbers'. -/
def fnExactGroupNumbersCard : Claim7 := { stood := { row := fnExactGroupNumbersRow, standIns := [], harness := (true, "e2474fdcb8f6e5ec2240a1d16f7315d0ae4cc801524d30ca399ae33b0a4479a7"), looks := false }, kinds := [], alts := [], laidByText := true, laidKinds := [.data], laidTests := true, laidLooks := .later }
def FnExactGroupNumbersCardSaid : Prop := Claim7.holds Tryd.pinned (.plain (OpenSpec.ofChange fnExactGroupNumbersSpec)) fnExactGroupNumbersCard

/-- THE TIED CARD OF 'laws.FnExactGreatestGroup'. -/
def fnExactGreatestGroupCard : Claim7 := { stood := { row := fnExactGreatestGroupRow, standIns := [], harness := (true, "e2474fdcb8f6e5ec2240a1d16f7315d0ae4cc801524d30ca399ae33b0a4479a7"), looks := false }, kinds := [], alts := [], laidByText := true, laidKinds := [.data], laidTests := true, laidLooks := .later }
def FnExactGreatestGroupCardSaid : Prop := Claim7.holds Tryd.pinned (.plain (OpenSpec.ofChange fnExactGreatestGroupSpec)) fnExactGreatestGroupCard

/-- THE TIED CARD OF 'laws.FnExactGreatestStrange'. -/
def fnExactGreatestStrangeCard : Claim7 := { stood := { row := fnExactGreatestStrangeRow, standIns := [], harness := (true, "e2474fdcb8f6e5ec2240a1d16f7315d0ae4cc801524d30ca399ae33b0a4479a7"), looks := false }, kinds := [], alts := [], laidByText := true, laidKinds := [.data], laidTests := true, laidLooks := .later }
def FnExactGreatestStrangeCardSaid : Prop := Claim7.holds Tryd.pinned (.plain (OpenSpec.ofChange fnExactGreatestStrangeSpec)) fnExactGreatestStrangeCard

/-- THE TIED CARD OF 'laws.FnExactGreedyColouring'. -/
def fnExactGreedyColouringCard : Claim7 := { stood := { row := fnExactGreedyColouringRow, standIns := [], harness := (true, "e2474fdcb8f6e5ec2240a1d16f7315d0ae4cc801524d30ca399ae33b0a4479a7"), looks := false }, kinds := [], alts := [], laidByText := true, laidKinds := [.data], laidTests := true, laidLooks := .later }
def FnExactGreedyColouringCardSaid : Prop := Claim7.holds Tryd.pinned (.plain (OpenSpec.ofChange fnExactGreedyColouringSpec)) fnExactGreedyColouringCard

/-- THE SECOND FORM's CARD OF 'laws.FnExactCountGroups'. -/
def fnExactCountGroupsUptoCard : Claim7 := { stood := { row := fnExactCountGroupsUptoRow, standIns := [], harness := (true, "e2474fdcb8f6e5ec2240a1d16f7315d0ae4cc801524d30ca399ae33b0a4479a7"), looks := false }, kinds := [], alts := [], laidByText := true, laidKinds := [.data], laidTests := true, laidLooks := .later }
def FnExactCountGroupsUptoCardSaid : Prop := Claim7.holds Tryd.pinned (.plain (OpenSpec.upto fnExactCountGroupsSpec)) fnExactCountGroupsUptoCard

/-- THE SECOND FORM's CARD OF 'laws.FnExactGroupsAt'. -/
def fnExactGroupsAtUptoCard : Claim7 := { stood := { row := fnExactGroupsAtUptoRow, standIns := [], harness := (true, "e2474fdcb8f6e5ec2240a1d16f7315d0ae4cc801524d30ca399ae33b0a4479a7"), looks := false }, kinds := [], alts := [], laidByText := true, laidKinds := [.data], laidTests := true, laidLooks := .later }
def FnExactGroupsAtUptoCardSaid : Prop := Claim7.holds Tryd.pinned (.plain (OpenSpec.upto fnExactGroupsAtSpec)) fnExactGroupsAtUptoCard

/-- THE SECOND FORM's CARD OF 'laws.FnExactGroupNumbers'. -/
def fnExactGroupNumbersUptoCard : Claim7 := { stood := { row := fnExactGroupNumbersUptoRow, standIns := [], harness := (true, "e2474fdcb8f6e5ec2240a1d16f7315d0ae4cc801524d30ca399ae33b0a4479a7"), looks := false }, kinds := [], alts := [], laidByText := true, laidKinds := [.data], laidTests := true, laidLooks := .later }
def FnExactGroupNumbersUptoCardSaid : Prop := Claim7.holds Tryd.pinned (.plain (OpenSpec.upto fnExactGroupNumbersSpec)) fnExactGroupNumbersUptoCard

/-- THE SECOND FORM's CARD OF 'laws.FnExactGreatestGroup'. -/
def fnExactGreatestGroupUptoCard : Claim7 := { stood := { row := fnExactGreatestGroupUptoRow, standIns := [], harness := (true, "e2474fdcb8f6e5ec2240a1d16f7315d0ae4cc801524d30ca399ae33b0a4479a7"), looks := false }, kinds := [], alts := [], laidByText := true, laidKinds := [.data], laidTests := true, laidLooks := .later }
def FnExactGreatestGroupUptoCardSaid : Prop := Claim7.holds Tryd.pinned (.plain (OpenSpec.upto fnExactGreatestGroupSpec)) fnExactGreatestGroupUptoCard

/-- THE SECOND FORM's CARD OF 'laws.FnExactGreatestStrange'. -/
def fnExactGreatestStrangeUptoCard : Claim7 := { stood := { row := fnExactGreatestStrangeUptoRow, standIns := [], harness := (true, "e2474fdcb8f6e5ec2240a1d16f7315d0ae4cc801524d30ca399ae33b0a4479a7"), looks := false }, kinds := [], alts := [], laidByText := true, laidKinds := [.data], laidTests := true, laidLooks := .later }
def FnExactGreatestStrangeUptoCardSaid : Prop := Claim7.holds Tryd.pinned (.plain (OpenSpec.upto fnExactGreatestStrangeSpec)) fnExactGreatestStrangeUptoCard

/-- THE SECOND FORM's CARD OF 'laws.FnExactGreedyColouring'. -/
def fnExactGreedyColouringUptoCard : Claim7 := { stood := { row := fnExactGreedyColouringUptoRow, standIns := [], harness := (true, "e2474fdcb8f6e5ec2240a1d16f7315d0ae4cc801524d30ca399ae33b0a4479a7"), looks := false }, kinds := [], alts := [], laidByText := true, laidKinds := [.data], laidTests := true, laidLooks := .later }
def FnExactGreedyColouringUptoCardSaid : Prop := Claim7.holds Tryd.pinned (.plain (OpenSpec.upto fnExactGreedyColouringSpec)) fnExactGreedyColouringUptoCard
end Rows
end Go.Proofs.YtifkaefccghgdaaDoor
