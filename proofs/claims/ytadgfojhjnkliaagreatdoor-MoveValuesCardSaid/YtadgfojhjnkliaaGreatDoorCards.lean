/-
  DERIVED. GIVEN WITH THE SEED: THE CARDS: each row of YtadgfojhjnkliaaGreatDoorRows.lean that lists a variable, with what it lists TIED to the program's text (the seventh form; the later family's looks); each row that meets fmt, with fmt's text TOLD by the authors' own Lean function (tested against real Go, not proved from fmt's source: count such statements apart). THE CARD IS WHAT COUNTS. Prove the row's statement (the work); the ties are given (YtadgfojhjnkliaaGreatDoorTie.lean); close each card by the builder's one call (the guide's Derived/Test/ToyasCard.lean, 'card_holds'). Laid BY PROGRAM, IN A SANDBOX (cutbox-door.mjs). By AI agents, Wed Nov 11 2026. No macro, syntax, notation, axiom, sorry.
-/
import Derived.Test.YtadgfojhjnkliaaGreatDoorRows
import GoSem.ClaimSeven
namespace Go.Proofs.YtadgfojhjnkliaaGreatDoor
namespace Rows

/-- THE TIED CARD OF 'tollgatelaw21.MoveValues'. -/
def moveValuesCard : Claim7 := { stood := { row := moveValuesRow, standIns := [], harness := (true, "71223925fbedd3e1bad2c427e6af3d681612c1fc3f3e3b7343e4a88c73fabb9c"), looks := true }, kinds := [], alts := [], laidByText := true, laidKinds := [.data, .data, .data, .data, .sentinel, .sentinel, .pinned], laidTests := true, laidLooks := .later }
def MoveValuesCardSaid : Prop := Claim7.holds Tryz.pinned (.plain (OpenSpec.ofChange moveValuesSpec)) moveValuesCard

/-- THE SECOND FORM's CARD OF 'tollgatelaw21.MoveValues'. -/
def moveValuesUptoCard : Claim7 := { stood := { row := moveValuesUptoRow, standIns := [], harness := (true, "71223925fbedd3e1bad2c427e6af3d681612c1fc3f3e3b7343e4a88c73fabb9c"), looks := true }, kinds := [], alts := [], laidByText := true, laidKinds := [.data, .data, .data, .data, .sentinel, .sentinel, .pinned], laidTests := true, laidLooks := .later }
def MoveValuesUptoCardSaid : Prop := Claim7.holds Tryz.pinned (.plain (OpenSpec.upto moveValuesSpec)) moveValuesUptoCard
end Rows
end Go.Proofs.YtadgfojhjnkliaaGreatDoor
