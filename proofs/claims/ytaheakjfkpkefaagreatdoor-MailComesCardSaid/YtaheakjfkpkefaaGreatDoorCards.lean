/-
  DERIVED. GIVEN WITH THE SEED: THE CARDS: each row of YtaheakjfkpkefaaGreatDoorRows.lean that lists a variable, with what it lists TIED to the program's text (the seventh form; the later family's looks); each row that meets fmt, with fmt's text TOLD by the authors' own Lean function (tested against real Go, not proved from fmt's source: count such statements apart). THE CARD IS WHAT COUNTS. Prove the row's statement (the work); the ties are given (YtaheakjfkpkefaaGreatDoorTie.lean); close each card by the builder's one call (the guide's Derived/Test/ToyasCard.lean, 'card_holds'). Laid BY PROGRAM, IN A SANDBOX (cutbox-door.mjs). By AI agents, Wed Nov 11 2026. No macro, syntax, notation, axiom, sorry.
-/
import Derived.Test.YtaheakjfkpkefaaGreatDoorRows
import GoSem.ClaimSeven
namespace Go.Proofs.YtaheakjfkpkefaaGreatDoor
namespace Rows

/-- THE TIED CARD OF 'tollgatelaw23.MailMore'. -/
def mailMoreCard : Claim7 := { stood := { row := mailMoreRow, standIns := [], harness := (true, "1d25328ab1d20eb1b04175afb0f62037cbe76c7d6f159b680f419b774224d57f"), looks := true }, kinds := [], alts := [], laidByText := true, laidKinds := [.data, .data, .data, .data, .sentinel, .sentinel, .pinned], laidTests := true, laidLooks := .later }
def MailMoreCardSaid : Prop := Claim7.holds Tryz.pinned (.plain (OpenSpec.ofChange mailMoreSpec)) mailMoreCard

/-- THE TIED CARD OF 'tollgatelaw23.MailTurned'. -/
def mailTurnedCard : Claim7 := { stood := { row := mailTurnedRow, standIns := [], harness := (true, "1d25328ab1d20eb1b04175afb0f62037cbe76c7d6f159b680f419b774224d57f"), looks := true }, kinds := [], alts := [], laidByText := true, laidKinds := [.data, .data, .data, .data, .sentinel, .sentinel, .pinned], laidTests := true, laidLooks := .later }
def MailTurnedCardSaid : Prop := Claim7.holds Tryz.pinned (.plain (OpenSpec.ofChange mailTurnedSpec)) mailTurnedCard

/-- THE TIED CARD OF 'tollgatelaw23.MailComes'. -/
def mailComesCard : Claim7 := { stood := { row := mailComesRow, standIns := [], harness := (true, "1d25328ab1d20eb1b04175afb0f62037cbe76c7d6f159b680f419b774224d57f"), looks := true }, kinds := [], alts := [], laidByText := true, laidKinds := [.data, .data, .data, .data, .sentinel, .sentinel, .pinned], laidTests := true, laidLooks := .later }
def MailComesCardSaid : Prop := Claim7.holds Tryz.pinned (.plain (OpenSpec.ofChange mailComesSpec)) mailComesCard

/-- THE SECOND FORM's CARD OF 'tollgatelaw23.MailMore'. -/
def mailMoreUptoCard : Claim7 := { stood := { row := mailMoreUptoRow, standIns := [], harness := (true, "1d25328ab1d20eb1b04175afb0f62037cbe76c7d6f159b680f419b774224d57f"), looks := true }, kinds := [], alts := [], laidByText := true, laidKinds := [.data, .data, .data, .data, .sentinel, .sentinel, .pinned], laidTests := true, laidLooks := .later }
def MailMoreUptoCardSaid : Prop := Claim7.holds Tryz.pinned (.plain (OpenSpec.upto mailMoreSpec)) mailMoreUptoCard

/-- THE SECOND FORM's CARD OF 'tollgatelaw23.MailTurned'. -/
def mailTurnedUptoCard : Claim7 := { stood := { row := mailTurnedUptoRow, standIns := [], harness := (true, "1d25328ab1d20eb1b04175afb0f62037cbe76c7d6f159b680f419b774224d57f"), looks := true }, kinds := [], alts := [], laidByText := true, laidKinds := [.data, .data, .data, .data, .sentinel, .sentinel, .pinned], laidTests := true, laidLooks := .later }
def MailTurnedUptoCardSaid : Prop := Claim7.holds Tryz.pinned (.plain (OpenSpec.upto mailTurnedSpec)) mailTurnedUptoCard

/-- THE SECOND FORM's CARD OF 'tollgatelaw23.MailComes'. -/
def mailComesUptoCard : Claim7 := { stood := { row := mailComesUptoRow, standIns := [], harness := (true, "1d25328ab1d20eb1b04175afb0f62037cbe76c7d6f159b680f419b774224d57f"), looks := true }, kinds := [], alts := [], laidByText := true, laidKinds := [.data, .data, .data, .data, .sentinel, .sentinel, .pinned], laidTests := true, laidLooks := .later }
def MailComesUptoCardSaid : Prop := Claim7.holds Tryz.pinned (.plain (OpenSpec.upto mailComesSpec)) mailComesUptoCard
end Rows
end Go.Proofs.YtaheakjfkpkefaaGreatDoor
