/-
  DERIVED. GIVEN WITH THE SEED: THE CARDS: each row of YticggkmfgkmaoaaGreatDoorRows.lean that lists a variable, with what it lists TIED to the program's text (the seventh form; the later family's looks); each row that meets fmt, with fmt's text TOLD by the authors' own Lean function (tested against real Go, not proved from fmt's source: count such statements apart). THE CARD IS WHAT COUNTS. Prove the row's statement (the work); the ties are given (YticggkmfgkmaoaaGreatDoorTie.lean); close each card by the builder's one call (the guide's Derived/Test/ToyasCard.lean, 'card_holds'). Laid BY PROGRAM, IN A SANDBOX (cutbox-door.mjs). By AI agents, Wed Nov 11 2026. No macro, syntax, notation, axiom, sorry.
-/
import Derived.Test.YticggkmfgkmaoaaGreatDoorRows
import GoSem.ClaimSeven
namespace Go.Proofs.YticggkmfgkmaoaaGreatDoor
namespace Rows

/-- THE TIED CARD OF 'tollgatelaw23.MailNames'. -/
def mailNamesCard : Claim7 := { stood := { row := mailNamesRow, standIns := [], harness := (true, "2f284ee977ab4a25a82819a0fb38e1f67b4107f69c70dec4acb5371aabb1ddb8"), looks := true }, kinds := [], alts := [], laidByText := true, laidKinds := [.data, .data, .data, .data, .sentinel, .sentinel, .pinned], laidTests := true, laidLooks := .later }
def MailNamesCardSaid : Prop := Claim7.holds Tryz.pinned (.plain (OpenSpec.ofChange mailNamesSpec)) mailNamesCard

/-- THE SECOND FORM's CARD OF 'tollgatelaw23.MailNames'. -/
def mailNamesUptoCard : Claim7 := { stood := { row := mailNamesUptoRow, standIns := [], harness := (true, "2f284ee977ab4a25a82819a0fb38e1f67b4107f69c70dec4acb5371aabb1ddb8"), looks := true }, kinds := [], alts := [], laidByText := true, laidKinds := [.data, .data, .data, .data, .sentinel, .sentinel, .pinned], laidTests := true, laidLooks := .later }
def MailNamesUptoCardSaid : Prop := Claim7.holds Tryz.pinned (.plain (OpenSpec.upto mailNamesSpec)) mailNamesUptoCard
end Rows
end Go.Proofs.YticggkmfgkmaoaaGreatDoor
