/-
  DERIVED. GIVEN WITH THE SEED: THE CARDS: each row of YtjaocmocdhckaaaGreatDoorRows.lean that lists a variable, with what it lists TIED to the program's text (the seventh form; the later family's looks); each row that meets fmt, with fmt's text TOLD by the authors' own Lean function (tested against real Go, not proved from fmt's source: count such statements apart). THE CARD IS WHAT COUNTS. Prove the row's statement (the work); the ties are given (YtjaocmocdhckaaaGreatDoorTie.lean); close each card by the builder's one call (the guide's Derived/Test/ToyasCard.lean, 'card_holds'). Laid BY PROGRAM, IN A SANDBOX (cutbox-door.mjs). By AI agents, Wed Nov 11 2026. No macro, syntax, notation, axiom, sorry.
-/
import Derived.Test.YtjaocmocdhckaaaGreatDoorRows
import GoSem.ClaimSeven
namespace Go.Proofs.YtjaocmocdhckaaaGreatDoor
namespace Rows

/-- THE TIED CARD OF 'tollgatelaw21.MoveRests'. -/
def moveRestsCard : Claim7 := { stood := { row := moveRestsRow, standIns := [], harness := (true, "b3c0d5c7fe0e9d07c97ddca5f334cc1c82dfeeb1e0f01c0d0fdc971e06b45225"), looks := true }, kinds := [], alts := [], laidByText := true, laidKinds := [.data, .data, .data, .data, .sentinel, .sentinel, .pinned], laidTests := true, laidLooks := .later }
def MoveRestsCardSaid : Prop := Claim7.holds Tryz.pinned (.plain (OpenSpec.ofChange moveRestsSpec)) moveRestsCard

/-- THE TIED CARD OF 'tollgatelaw21.MoveWaits'. -/
def moveWaitsCard : Claim7 := { stood := { row := moveWaitsRow, standIns := [], harness := (true, "b3c0d5c7fe0e9d07c97ddca5f334cc1c82dfeeb1e0f01c0d0fdc971e06b45225"), looks := true }, kinds := [], alts := [], laidByText := true, laidKinds := [.data, .data, .data, .data, .sentinel, .sentinel, .pinned], laidTests := true, laidLooks := .later }
def MoveWaitsCardSaid : Prop := Claim7.holds Tryz.pinned (.plain (OpenSpec.ofChange moveWaitsSpec)) moveWaitsCard

/-- THE SECOND FORM's CARD OF 'tollgatelaw21.MoveRests'. -/
def moveRestsUptoCard : Claim7 := { stood := { row := moveRestsUptoRow, standIns := [], harness := (true, "b3c0d5c7fe0e9d07c97ddca5f334cc1c82dfeeb1e0f01c0d0fdc971e06b45225"), looks := true }, kinds := [], alts := [], laidByText := true, laidKinds := [.data, .data, .data, .data, .sentinel, .sentinel, .pinned], laidTests := true, laidLooks := .later }
def MoveRestsUptoCardSaid : Prop := Claim7.holds Tryz.pinned (.plain (OpenSpec.upto moveRestsSpec)) moveRestsUptoCard

/-- THE SECOND FORM's CARD OF 'tollgatelaw21.MoveWaits'. -/
def moveWaitsUptoCard : Claim7 := { stood := { row := moveWaitsUptoRow, standIns := [], harness := (true, "b3c0d5c7fe0e9d07c97ddca5f334cc1c82dfeeb1e0f01c0d0fdc971e06b45225"), looks := true }, kinds := [], alts := [], laidByText := true, laidKinds := [.data, .data, .data, .data, .sentinel, .sentinel, .pinned], laidTests := true, laidLooks := .later }
def MoveWaitsUptoCardSaid : Prop := Claim7.holds Tryz.pinned (.plain (OpenSpec.upto moveWaitsSpec)) moveWaitsUptoCard
end Rows
end Go.Proofs.YtjaocmocdhckaaaGreatDoor
