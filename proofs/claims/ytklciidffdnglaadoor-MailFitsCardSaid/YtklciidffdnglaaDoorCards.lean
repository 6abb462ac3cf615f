/-
  DERIVED. GIVEN WITH THE SEED: THE CARDS: each row of YtklciidffdnglaaDoorRows.lean that lists a variable, with what it lists TIED to the program's text (the seventh form; the later family's looks); each row that meets fmt, with fmt's text TOLD by the authors' own Lean function (tested against real Go, not proved from fmt's source: count such statements apart). THE CARD IS WHAT COUNTS. Prove the row's statement (the work); the ties are given (YtklciidffdnglaaDoorTie.lean); close each card by the builder's one call (the guide's Derived/Test/ToyasCard.lean, 'card_holds'). Laid BY PROGRAM, IN A SANDBOX (cutbox-door.mjs). By AI agents, Wed Nov 11 2026. No macro, syntax, notation, axiom, sorry.
-/
import Derived.Test.YtklciidffdnglaaDoorRows
import GoSem.ClaimSeven
namespace Go.Proofs.YtklciidffdnglaaDoor
namespace Rows

/-- THE TIED CARD OF 'tollgatelaw23.MailFits'. -/
def mailFitsCard : Claim7 := { stood := { row := mailFitsRow, standIns := [], harness := (true, "369b10d60c8b22871e286301492bd4fd6899c5d4903347684ee68a88813b8866"), looks := false }, kinds := [], alts := [], laidByText := true, laidKinds := [.data, .pinned], laidTests := true, laidLooks := .later }
def MailFitsCardSaid : Prop := Claim7.holds Tryd.pinned (.plain (OpenSpec.ofChange mailFitsSpec)) mailFitsCard

/-- THE SECOND FORM's CARD OF 'tollgatelaw23.MailFits'. -/
def mailFitsUptoCard : Claim7 := { stood := { row := mailFitsUptoRow, standIns := [], harness := (true, "369b10d60c8b22871e286301492bd4fd6899c5d4903347684ee68a88813b8866"), looks := false }, kinds := [], alts := [], laidByText := true, laidKinds := [.data, .pinned], laidTests := true, laidLooks := .later }
def MailFitsUptoCardSaid : Prop := Claim7.holds Tryd.pinned (.plain (OpenSpec.upto mailFitsSpec)) mailFitsUptoCard
end Rows
end Go.Proofs.YtklciidffdnglaaDoor
