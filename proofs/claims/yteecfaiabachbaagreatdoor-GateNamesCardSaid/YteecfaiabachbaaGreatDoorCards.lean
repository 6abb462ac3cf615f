/-
  DERIVED. GIVEN WITH THE SEED: THE CARDS: each row of YteecfaiabachbaaGreatDoorRows.lean that lists a variable, with what it lists TIED to the program's text (the seventh form; the later family's looks); each row that meets fmt, with fmt's text TOLD by the authors' own Lean function (tested against real Go, not proved from fmt's source: count such statements apart). THE CARD IS WHAT COUNTS. Prove the row's statement (the work); the ties are given (YteecfaiabachbaaGreatDoorTie.lean); close each card by the builder's one call (the guide's Derived/Test/ToyasCard.lean, 'card_holds'). Laid BY PROGRAM, IN A SANDBOX (cutbox-door.mjs). By AI agents, Wed Nov 11 2026. No macro, syntax, notation, axiom, sorry.
-/
import Derived.Test.YteecfaiabachbaaGreatDoorRows
import GoSem.ClaimSeven
namespace Go.Proofs.YteecfaiabachbaaGreatDoor
namespace Rows

/-- THE TIED CARD OF 'tollgatelaw20.GateNames'. -/
def gateNamesCard : Claim7 := { stood := { row := gateNamesRow, standIns := [], harness := (true, "5fe6b56ea1421f9aa28ec21e1beb843fac6624dd48d64d9dee69c89c2dd20718"), looks := true }, kinds := [], alts := [], laidByText := true, laidKinds := [.data, .data, .data, .data, .sentinel, .sentinel, .pinned], laidTests := true, laidLooks := .later }
def GateNamesCardSaid : Prop := Claim7.holds Tryz.pinned (.plain (OpenSpec.ofChange gateNamesSpec)) gateNamesCard

/-- THE SECOND FORM's CARD OF 'tollgatelaw20.GateNames'. -/
def gateNamesUptoCard : Claim7 := { stood := { row := gateNamesUptoRow, standIns := [], harness := (true, "5fe6b56ea1421f9aa28ec21e1beb843fac6624dd48d64d9dee69c89c2dd20718"), looks := true }, kinds := [], alts := [], laidByText := true, laidKinds := [.data, .data, .data, .data, .sentinel, .sentinel, .pinned], laidTests := true, laidLooks := .later }
def GateNamesUptoCardSaid : Prop := Claim7.holds Tryz.pinned (.plain (OpenSpec.upto gateNamesSpec)) gateNamesUptoCard
end Rows
end Go.Proofs.YteecfaiabachbaaGreatDoor
