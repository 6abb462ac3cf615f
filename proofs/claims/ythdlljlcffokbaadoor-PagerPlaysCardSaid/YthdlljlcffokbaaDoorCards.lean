/-
  DERIVED. GIVEN WITH THE SEED: THE CARDS: each row of YthdlljlcffokbaaDoorRows.lean that lists a variable, with what it lists TIED to the program's text (the seventh form; the later family's looks); each row that meets fmt, with fmt's text TOLD by the authors' own Lean function (tested against real Go, not proved from fmt's source: count such statements apart). THE CARD IS WHAT COUNTS. Prove the row's statement (the work); the ties are given (YthdlljlcffokbaaDoorTie.lean); close each card by the builder's one call (the guide's Derived/Test/ToyasCard.lean, 'card_holds'). Laid BY PROGRAM, IN A SANDBOX (cutbox-door.mjs). By AI agents, Wed Nov 11 2026. No macro, syntax, notation, axiom, sorry.
-/
import Derived.Test.YthdlljlcffokbaaDoorRows
import GoSem.ClaimSeven
namespace Go.Proofs.YthdlljlcffokbaaDoor
namespace Rows

/-- THE TIED CARD OF 'tollgatelaw04.PagerCrash'. -/
def pagerCrashCard : Claim7 := { stood := { row := pagerCrashRow, standIns := [], harness := (true, "1553aa03ac1815a913bb6921815e138e7463cb3c4186b7e1ee5be6b70a4ac348"), looks := false }, kinds := [], alts := [], laidByText := true, laidKinds := [.data, .pinned], laidTests := true, laidLooks := .later }
def PagerCrashCardSaid : Prop := Claim7.holds Tryd.pinned (.plain (OpenSpec.ofChange pagerCrashSpec)) pagerCrashCard

/-- THE TIED CARD OF 'tollgatelaw04.PagerApart'. -/
def pagerApartCard : Claim7 := { stood := { row := pagerApartRow, standIns := [], harness := (true, "1553aa03ac1815a913bb6921815e138e7463cb3c4186b7e1ee5be6b70a4ac348"), looks := false }, kinds := [], alts := [], laidByText := true, laidKinds := [.data, .pinned], laidTests := true, laidLooks := .later }
def PagerApartCardSaid : Prop := Claim7.holds Tryd.pinned (.plain (OpenSpec.ofChange pagerApartSpec)) pagerApartCard

/-- THE TIED CARD OF 'tollgatelaw04.PagerPlays'. -/
def pagerPlaysCard : Claim7 := { stood := { row := pagerPlaysRow, standIns := [], harness := (true, "1553aa03ac1815a913bb6921815e138e7463cb3c4186b7e1ee5be6b70a4ac348"), looks := false }, kinds := [], alts := [], laidByText := true, laidKinds := [.data, .pinned], laidTests := true, laidLooks := .later }
def PagerPlaysCardSaid : Prop := Claim7.holds Tryd.pinned (.plain (OpenSpec.ofChange pagerPlaysSpec)) pagerPlaysCard

/-- THE SECOND FORM's CARD OF 'tollgatelaw04.PagerCrash'. -/
def pagerCrashUptoCard : Claim7 := { stood := { row := pagerCrashUptoRow, standIns := [], harness := (true, "1553aa03ac1815a913bb6921815e138e7463cb3c4186b7e1ee5be6b70a4ac348"), looks := false }, kinds := [], alts := [], laidByText := true, laidKinds := [.data, .pinned], laidTests := true, laidLooks := .later }
def PagerCrashUptoCardSaid : Prop := Claim7.holds Tryd.pinned (.plain (OpenSpec.upto pagerCrashSpec)) pagerCrashUptoCard

/-- THE SECOND FORM's CARD OF 'tollgatelaw04.PagerApart'. -/
def pagerApartUptoCard : Claim7 := { stood := { row := pagerApartUptoRow, standIns := [], harness := (true, "1553aa03ac1815a913bb6921815e138e7463cb3c4186b7e1ee5be6b70a4ac348"), looks := false }, kinds := [], alts := [], laidByText := true, laidKinds := [.data, .pinned], laidTests := true, laidLooks := .later }
def PagerApartUptoCardSaid : Prop := Claim7.holds Tryd.pinned (.plain (OpenSpec.upto pagerApartSpec)) pagerApartUptoCard

/-- THE SECOND FORM's CARD OF 'tollgatelaw04.PagerPlays'. -/
def pagerPlaysUptoCard : Claim7 := { stood := { row := pagerPlaysUptoRow, standIns := [], harness := (true, "1553aa03ac1815a913bb6921815e138e7463cb3c4186b7e1ee5be6b70a4ac348"), looks := false }, kinds := [], alts := [], laidByText := true, laidKinds := [.data, .pinned], laidTests := true, laidLooks := .later }
def PagerPlaysUptoCardSaid : Prop := Claim7.holds Tryd.pinned (.plain (OpenSpec.upto pagerPlaysSpec)) pagerPlaysUptoCard
end Rows
end Go.Proofs.YthdlljlcffokbaaDoor
