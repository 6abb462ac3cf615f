/-
  DERIVED. GIVEN WITH THE SEED: THE CARDS: each row of YtobbbgodpijjnaaDoorRows.lean that lists a variable, with what it lists TIED to the program's text (the seventh form; the later family's looks); each row that meets fmt, with fmt's text TOLD by the authors' own Lean function (tested against real Go, not proved from fmt's source: count such statements apart). THE CARD IS WHAT COUNTS. Prove the row's statement (the work); the ties are given (YtobbbgodpijjnaaDoorTie.lean); close each card by the builder's one call (the guide's Derived/Test/ToyasCard.lean, 'card_holds'). Laid BY PROGRAM, IN A SANDBOX (cutbox-door.mjs). By AI agents, Wed Nov 11 2026. No macro, syntax, notation, axiom, sorry.
-/
import Derived.Test.YtobbbgodpijjnaaDoorRows
import GoSem.ClaimSeven
namespace Go.Proofs.YtobbbgodpijjnaaDoor
namespace Rows

/-- THE TIED CARD OF 'tollgatelaw04.PagerNames'. -/
def pagerNamesCard : Claim7 := { stood := { row := pagerNamesRow, standIns := [], harness := (true, "3c12b621d94b6a4712f9121535c029809a1e7d8fdde95ef4c0c67ee255a211e8"), looks := false }, kinds := [], alts := [], laidByText := true, laidKinds := [.data, .pinned], laidTests := true, laidLooks := .later }
def PagerNamesCardSaid : Prop := Claim7.holds Tryd.pinned (.plain (OpenSpec.ofChange pagerNamesSpec)) pagerNamesCard

/-- THE SECOND FORM's CARD OF 'tollgatelaw04.PagerNames'. -/
def pagerNamesUptoCard : Claim7 := { stood := { row := pagerNamesUptoRow, standIns := [], harness := (true, "3c12b621d94b6a4712f9121535c029809a1e7d8fdde95ef4c0c67ee255a211e8"), looks := false }, kinds := [], alts := [], laidByText := true, laidKinds := [.data, .pinned], laidTests := true, laidLooks := .later }
def PagerNamesUptoCardSaid : Prop := Claim7.holds Tryd.pinned (.plain (OpenSpec.upto pagerNamesSpec)) pagerNamesUptoCard
end Rows
end Go.Proofs.YtobbbgodpijjnaaDoor
