/-
  DERIVED. GIVEN WITH THE SEED: THE CARDS: each row of YtialimbdkokdcaaDoorRows.lean that lists a variable, with what it lists TIED to the program's text (the seventh form; the later family's looks); each row that meets fmt, with fmt's text TOLD by the authors' own Lean function (tested against real Go, not proved from fmt's source: count such statements apart). THE CARD IS WHAT COUNTS. Prove the row's statement (the work); the ties are given (YtialimbdkokdcaaDoorTie.lean); close each card by the builder's one call (the guide's Derived/Test/ToyasCard.lean, 'card_holds'). Laid BY PROGRAM, IN A SANDBOX (cutbox-door.mjs). By AI agents, Wed Nov 11 2026. No macro, syntax, notation, axiom, sorry.
-/
import Derived.Test.YtialimbdkokdcaaDoorRows
import GoSem.ClaimSeven
namespace Go.Proofs.YtialimbdkokdcaaDoor
namespace Rows

/-- THE TIED CARD OF 'laws.FnExactThreesAt'. -/
def fnExactThreesAtCard : Claim7 := { stood := { row := fnExactThreesAtRow, standIns := [], harness := (true, "2b12115fd813e740302606b31a5ff50abdd151d8a315a16fb2deb6f49af72aea"), looks := false }, kinds := [], alts := [], laidByText := true, laidKinds := [.data], laidTests := true, laidLooks := .later }
def FnExactThreesAtCardSaid : Prop := Claim7.holds Tryd.pinned (.plain (OpenSpec.ofChange fnExactThreesAtSpec)) fnExactThreesAtCard

/-- THE TIED CARD OF 'laws.FnExactFriendsOf'. -/
def fnExactFriendsOfCard : Claim7 := { stood := { row := fnExactFriendsOfRow, standIns := [], harness := (true, "2b12115fd813e740302606b31a5ff50abdd151d8a315a16fb2deb6f49af72aea"), looks := false }, kinds := [], alts := [], laidByText := true, laidKinds := [.data], laidTests := true, laidLooks := .later }
def FnExactFriendsOfCardSaid : Prop := Claim7.holds Tryd.pinned (.plain (OpenSpec.ofChange fnExactFriendsOfSpec)) fnExactFriendsOfCard

/-- THE TIED CARD OF 'laws.FnExactPartsOfParty'. -/
def fnExactPartsOfPartyCard : Claim7 := { stood := { row := fnExactPartsOfPartyRow, standIns := [], harness := (true, "2b12115fd813e740302606b31a5ff50abdd151d8a315a16fb2deb6f49af72aea"), looks := false }, kinds := [], alts := [], laidByText := true, laidKinds := [.data], laidTests := true, laidLooks := .later }
def FnExactPartsOfPartyCardSaid : Prop := Claim7.holds Tryd.pinned (.plain (OpenSpec.ofChange fnExactPartsOfPartySpec)) fnExactPartsOfPartyCard

/-- THE SECOND FORM's CARD OF 'laws.FnExactThreesAt'. -/
def fnExactThreesAtUptoCard : Claim7 := { stood := { row := fnExactThreesAtUptoRow, standIns := [], harness := (true, "2b12115fd813e740302606b31a5ff50abdd151d8a315a16fb2deb6f49af72aea"), looks := false }, kinds := [], alts := [], laidByText := true, laidKinds := [.data], laidTests := true, laidLooks := .later }
def FnExactThreesAtUptoCardSaid : Prop := Claim7.holds Tryd.pinned (.plain (OpenSpec.upto fnExactThreesAtSpec)) fnExactThreesAtUptoCard

/-- THE SECOND FORM's CARD OF 'laws.FnExactFriendsOf'. -/
def fnExactFriendsOfUptoCard : Claim7 := { stood := { row := fnExactFriendsOfUptoRow, standIns := [], harness := (true, "2b12115fd813e740302606b31a5ff50abdd151d8a315a16fb2deb6f49af72aea"), looks := false }, kinds := [], alts := [], laidByText := true, laidKinds := [.data], laidTests := true, laidLooks := .later }
def FnExactFriendsOfUptoCardSaid : Prop := Claim7.holds Tryd.pinned (.plain (OpenSpec.upto fnExactFriendsOfSpec)) fnExactFriendsOfUptoCard

/-- THE SECOND FORM's CARD OF 'laws.FnExactPartsOfParty'. -/
def fnExactPartsOfPartyUptoCard : Claim7 := { stood := { row := fnExactPartsOfPartyUptoRow, standIns := [], harness := (true, "2b12115fd813e740302606b31a5ff50abdd151d8a315a16fb2deb6f49af72aea"), looks := false }, kinds := [], alts := [], laidByText := true, laidKinds := [.data], laidTests := true, laidLooks := .later }
def FnExactPartsOfPartyUptoCardSaid : Prop := Claim7.holds Tryd.pinned (.plain (OpenSpec.upto fnExactPartsOfPartySpec)) fnExactPartsOfPartyUptoCard
end Rows
end Go.Proofs.YtialimbdkokdcaaDoor
