/-
  DERIVED. GIVEN WITH THE SEED: THE CARDS: each row of YtppmdnmjepkfaaaGreatDoorRows.lean that lists a variable, with what it lists TIED to the program's text (the seventh form; the later family's looks); each row that meets fmt, with fmt's text TOLD by the authors' own Lean function (tested against real Go, not proved from fmt's source: count such statements apart). THE CARD IS WHAT COUNTS. Prove the row's statement (the work); the ties are given (YtppmdnmjepkfaaaGreatDoorTie.lean); close each card by the builder's one call (the guide's Derived/Test/ToyasCard.lean, 'card_holds'). Laid BY PROGRAM, IN A SANDBOX (cutbox-door.mjs). By AI agents, Wed Nov 11 2026. No macro, syntax, notation, axiom, sorry.
-/
import Derived.Test.YtppmdnmjepkfaaaGreatDoorRows
import GoSem.ClaimSeven
namespace Go.Proofs.YtppmdnmjepkfaaaGreatDoor
namespace Rows

/-- THE TIED CARD OF 'tollgatelaw23.MailFinds'. -/
def mailFindsCard : Claim7 := { stood := { row := mailFindsRow, standIns := [], harness := (true, "84e2c5a549e0490627c3398389ac52fb6bf0a343a364888bc433f15836238da7"), looks := true }, kinds := [], alts := [], laidByText := true, laidKinds := [.data, .data, .data, .data, .sentinel, .sentinel, .pinned], laidTests := true, laidLooks := .later }
def MailFindsCardSaid : Prop := Claim7.holds Tryz.pinned (.plain (OpenSpec.ofChange mailFindsSpec)) mailFindsCard

/-- THE TIED CARD OF 'tollgatelaw23.MailKeeps'. -/
def mailKeepsCard : Claim7 := { stood := { row := mailKeepsRow, standIns := [], harness := (true, "84e2c5a549e0490627c3398389ac52fb6bf0a343a364888bc433f15836238da7"), looks := true }, kinds := [], alts := [], laidByText := true, laidKinds := [.data, .data, .data, .data, .sentinel, .sentinel, .pinned], laidTests := true, laidLooks := .later }
def MailKeepsCardSaid : Prop := Claim7.holds Tryz.pinned (.plain (OpenSpec.ofChange mailKeepsSpec)) mailKeepsCard

/-- THE SECOND FORM's CARD OF 'tollgatelaw23.MailFinds'. -/
def mailFindsUptoCard : Claim7 := { stood := { row := mailFindsUptoRow, standIns := [], harness := (true, "84e2c5a549e0490627c3398389ac52fb6bf0a343a364888bc433f15836238da7"), looks := true }, kinds := [], alts := [], laidByText := true, laidKinds := [.data, .data, .data, .data, .sentinel, .sentinel, .pinned], laidTests := true, laidLooks := .later }
def MailFindsUptoCardSaid : Prop := Claim7.holds Tryz.pinned (.plain (OpenSpec.upto mailFindsSpec)) mailFindsUptoCard

/-- THE SECOND FORM's CARD OF 'tollgatelaw23.MailKeeps'. -/
def mailKeepsUptoCard : Claim7 := { stood := { row := mailKeepsUptoRow, standIns := [], harness := (true, "84e2c5a549e0490627c3398389ac52fb6bf0a343a364888bc433f15836238da7"), looks := true }, kinds := [], alts := [], laidByText := true, laidKinds := [.data, .data, .data, .data, .sentinel, .sentinel, .pinned], laidTests := true, laidLooks := .later }
def MailKeepsUptoCardSaid : Prop := Claim7.holds Tryz.pinned (.plain (OpenSpec.upto mailKeepsSpec)) mailKeepsUptoCard
end Rows
end Go.Proofs.YtppmdnmjepkfaaaGreatDoor
