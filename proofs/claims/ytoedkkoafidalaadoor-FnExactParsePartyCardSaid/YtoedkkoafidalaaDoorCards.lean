/-
  DERIVED. GIVEN WITH THE SEED: THE CARDS: each row of YtoedkkoafidalaaDoorRows.lean that lists a variable, with what it lists TIED to the program's text (the seventh form; the later family's looks); each row that meets fmt, with fmt's text TOLD by the authors' own Lean function (tested against real Go, not proved from fmt's source: count such statements apart). THE CARD IS WHAT COUNTS. Prove the row's statement (the work); the ties are given (YtoedkkoafidalaaDoorTie.lean); close each card by the builder's one call (the guide's Derived/Test/ToyasCard.lean, 'card_holds'). Laid BY PROGRAM, IN A SANDBOX (cutbox-door.mjs). By AI agents, Wed Nov 11 2026. No macro, syntax, notation, axiom, sorry.
-/
import Derived.Test.YtoedkkoafidalaaDoorRows
import GoSem.ClaimSeven
namespace Go.Proofs.YtoedkkoafidalaaDoor
namespace Rows

/-- THE TIED CARD OF 'laws.FnExactPartyText'. -/
def fnExactPartyTextCard : Claim7 := { stood := { row := fnExactPartyTextRow, standIns := [], harness := (true, "e0ea55450b1535dfc32196c8e8ccffb98b33b35f2aa7e71118f0613c31fe17ac"), looks := true }, kinds := [], alts := [], laidByText := true, laidKinds := [.data, .data, .data], laidTests := true, laidLooks := .later }
def FnExactPartyTextCardSaid : Prop := Claim7.holds Tryd.pinned (.plain (OpenSpec.ofChange fnExactPartyTextSpec)) fnExactPartyTextCard

/-- THE TIED CARD OF 'laws.FnExactParseParty'. -/
def fnExactParsePartyCard : Claim7 := { stood := { row := fnExactParsePartyRow, standIns := [], harness := (true, "e0ea55450b1535dfc32196c8e8ccffb98b33b35f2aa7e71118f0613c31fe17ac"), looks := true }, kinds := [], alts := [], laidByText := true, laidKinds := [.data, .data, .data, .sentinel, .sentinel], laidTests := true, laidLooks := .later }
def FnExactParsePartyCardSaid : Prop := Claim7.holds Tryd.pinned (.plain (OpenSpec.ofChange fnExactParsePartySpec)) fnExactParsePartyCard

/-- THE SECOND FORM's CARD OF 'laws.FnExactPartyText'. -/
def fnExactPartyTextUptoCard : Claim7 := { stood := { row := fnExactPartyTextUptoRow, standIns := [], harness := (true, "e0ea55450b1535dfc32196c8e8ccffb98b33b35f2aa7e71118f0613c31fe17ac"), looks := true }, kinds := [], alts := [], laidByText := true, laidKinds := [.data, .data, .data], laidTests := true, laidLooks := .later }
def FnExactPartyTextUptoCardSaid : Prop := Claim7.holds Tryd.pinned (.plain (OpenSpec.upto fnExactPartyTextSpec)) fnExactPartyTextUptoCard

/-- THE SECOND FORM's CARD OF 'laws.FnExactParseParty'. -/
def fnExactParsePartyUptoCard : Claim7 := { stood := { row := fnExactParsePartyUptoRow, standIns := [], harness := (true, "e0ea55450b1535dfc32196c8e8ccffb98b33b35f2aa7e71118f0613c31fe17ac"), looks := true }, kinds := [], alts := [], laidByText := true, laidKinds := [.data, .data, .data, .sentinel, .sentinel], laidTests := true, laidLooks := .later }
def FnExactParsePartyUptoCardSaid : Prop := Claim7.holds Tryd.pinned (.plain (OpenSpec.upto fnExactParsePartySpec)) fnExactParsePartyUptoCard
end Rows
end Go.Proofs.YtoedkkoafidalaaDoor
