/-
  DERIVED. GIVEN WITH THE SEED: THE CARDS: each row of YthfpnokmdniopaaGreatDoorRows.lean that lists a variable, with what it lists TIED to the program's text (the seventh form; the later family's looks); each row that meets fmt, with fmt's text TOLD by the authors' own Lean function (tested against real Go, not proved from fmt's source: count such statements apart). THE CARD IS WHAT COUNTS. Prove the row's statement (the work); the ties are given (YthfpnokmdniopaaGreatDoorTie.lean); close each card by the builder's one call (the guide's Derived/Test/ToyasCard.lean, 'card_holds'). Laid BY PROGRAM, IN A SANDBOX (cutbox-door.mjs). By AI agents, Wed Nov 11 2026. No macro, syntax, notation, axiom, sorry.
-/
import Derived.Test.YthfpnokmdniopaaGreatDoorRows
import GoSem.ClaimSeven
namespace Go.Proofs.YthfpnokmdniopaaGreatDoor
namespace Rows

/-- THE TIED CARD OF 'tollgatelaw26.JudgeNames'. -/
def judgeNamesCard : Claim7 := { stood := { row := judgeNamesRow, standIns := [], harness := (true, "73990e19a5ba4a6962bf036e3707c3872df48e2c473089e7d1e372eb2d84eba6"), looks := true }, kinds := [], alts := [], laidByText := true, laidKinds := [.data, .data, .data, .data, .sentinel, .sentinel, .pinned], laidTests := true, laidLooks := .later }
def JudgeNamesCardSaid : Prop := Claim7.holds Tryz.pinned (.plain (OpenSpec.ofChange judgeNamesSpec)) judgeNamesCard

/-- THE SECOND FORM's CARD OF 'tollgatelaw26.JudgeNames'. -/
def judgeNamesUptoCard : Claim7 := { stood := { row := judgeNamesUptoRow, standIns := [], harness := (true, "73990e19a5ba4a6962bf036e3707c3872df48e2c473089e7d1e372eb2d84eba6"), looks := true }, kinds := [], alts := [], laidByText := true, laidKinds := [.data, .data, .data, .data, .sentinel, .sentinel, .pinned], laidTests := true, laidLooks := .later }
def JudgeNamesUptoCardSaid : Prop := Claim7.holds Tryz.pinned (.plain (OpenSpec.upto judgeNamesSpec)) judgeNamesUptoCard
end Rows
end Go.Proofs.YthfpnokmdniopaaGreatDoor
