/-
  DERIVED. GIVEN WITH THE SEED: THE CARDS: each row of YtdaihdknnlphkaaGreatDoorRows.lean that lists a variable, with what it lists TIED to the program's text (the seventh form; the later family's looks); each row that meets fmt, with fmt's text TOLD by the authors' own Lean function (tested against real Go, not proved from fmt's source: count such statements apart). THE CARD IS WHAT COUNTS. Prove the row's statement (the work); the ties are given (YtdaihdknnlphkaaGreatDoorTie.lean); close each card by the builder's one call (the guide's Derived/Test/ToyasCard.lean, 'card_holds'). Laid BY PROGRAM, IN A SANDBOX (cutbox-door.mjs). By AI agents, Wed Nov 11 2026. No macro, syntax, notation, axiom, sorry.
-/
import Derived.Test.YtdaihdknnlphkaaGreatDoorRows
import GoSem.ClaimSeven
namespace Go.Proofs.YtdaihdknnlphkaaGreatDoor
namespace Rows

/-- THE TIED CARD OF 'tollgatelaw16.CompileNamed'. -/
def compileNamedCard : Claim7 := { stood := { row := compileNamedRow, standIns := [], harness := (true, "ad5216cc157875ae77c42bc4445a6f6dc575e67cca8a883f7c8502192443db0c"), looks := true }, kinds := [], alts := [], laidByText := true, laidKinds := [.data, .data, .data, .data, .sentinel, .sentinel, .pinned], laidTests := true, laidLooks := .later }
def CompileNamedCardSaid : Prop := Claim7.holds Tryz.pinned (.plain (OpenSpec.ofChange compileNamedSpec)) compileNamedCard

/-- THE SECOND FORM's CARD OF 'tollgatelaw16.CompileNamed'. -/
def compileNamedUptoCard : Claim7 := { stood := { row := compileNamedUptoRow, standIns := [], harness := (true, "ad5216cc157875ae77c42bc4445a6f6dc575e67cca8a883f7c8502192443db0c"), looks := true }, kinds := [], alts := [], laidByText := true, laidKinds := [.data, .data, .data, .data, .sentinel, .sentinel, .pinned], laidTests := true, laidLooks := .later }
def CompileNamedUptoCardSaid : Prop := Claim7.holds Tryz.pinned (.plain (OpenSpec.upto compileNamedSpec)) compileNamedUptoCard
end Rows
end Go.Proofs.YtdaihdknnlphkaaGreatDoor
