/-
  DERIVED. GIVEN WITH THE SEED: THE CARDS: each row of YtnkodmkoomifaaaDoorRows.lean that lists a variable, with what it lists TIED to the program's text (the seventh form; the later family's looks); each row that meets fmt, with fmt's text TOLD by the authors' own Lean function (tested against real Go, not proved from fmt's source: count such statements apart). THE CARD IS WHAT COUNTS. Prove the row's statement (the work); the ties are given (YtnkodmkoomifaaaDoorTie.lean); close each card by the builder's one call (the guide's Derived/Test/ToyasCard.lean, 'card_holds'). Laid BY PROGRAM, IN A SANDBOX (cutbox-door.mjs). By AI agents, Wed Nov 11 2026. No macro, syntax, notation, axiom, sorry.
-/
import Derived.Test.YtnkodmkoomifaaaDoorRows
import GoSem.ClaimSeven
namespace Go.Proofs.YtnkodmkoomifaaaDoor
namespace Rows

/-- THE TIED CARD OF 'tollgatelaw03.PageReads'. -/
def pageReadsCard : Claim7 := { stood := { row := pageReadsRow, standIns := [], harness := (true, "bec21994636500a6f969a21f20cadad15840b3b69ef94c7432102dfd5938e276"), looks := false }, kinds := [], alts := [], laidByText := true, laidKinds := [.data, .pinned], laidTests := true, laidLooks := .later }
def PageReadsCardSaid : Prop := Claim7.holds Tryd.pinned (.plain (OpenSpec.ofChange pageReadsSpec)) pageReadsCard

/-- THE TIED CARD OF 'tollgatelaw03.PageNames'. -/
def pageNamesCard : Claim7 := { stood := { row := pageNamesRow, standIns := [], harness := (true, "bec21994636500a6f969a21f20cadad15840b3b69ef94c7432102dfd5938e276"), looks := false }, kinds := [], alts := [], laidByText := true, laidKinds := [.data, .pinned], laidTests := true, laidLooks := .later }
def PageNamesCardSaid : Prop := Claim7.holds Tryd.pinned (.plain (OpenSpec.ofChange pageNamesSpec)) pageNamesCard

/-- THE TIED CARD OF 'tollgatelaw03.PageBack'. -/
def pageBackCard : Claim7 := { stood := { row := pageBackRow, standIns := [], harness := (true, "bec21994636500a6f969a21f20cadad15840b3b69ef94c7432102dfd5938e276"), looks := false }, kinds := [], alts := [], laidByText := true, laidKinds := [.data, .pinned], laidTests := true, laidLooks := .later }
def PageBackCardSaid : Prop := Claim7.holds Tryd.pinned (.plain (OpenSpec.ofChange pageBackSpec)) pageBackCard

/-- THE TIED CARD OF 'tollgatelaw03.PageByte'. -/
def pageByteCard : Claim7 := { stood := { row := pageByteRow, standIns := [], harness := (true, "bec21994636500a6f969a21f20cadad15840b3b69ef94c7432102dfd5938e276"), looks := false }, kinds := [], alts := [], laidByText := true, laidKinds := [.data, .pinned], laidTests := true, laidLooks := .later }
def PageByteCardSaid : Prop := Claim7.holds Tryd.pinned (.plain (OpenSpec.ofChange pageByteSpec)) pageByteCard

/-- THE TIED CARD OF 'tollgatelaw03.PageNumber'. -/
def pageNumberCard : Claim7 := { stood := { row := pageNumberRow, standIns := [], harness := (true, "bec21994636500a6f969a21f20cadad15840b3b69ef94c7432102dfd5938e276"), looks := false }, kinds := [], alts := [], laidByText := true, laidKinds := [.data, .pinned], laidTests := true, laidLooks := .later }
def PageNumberCardSaid : Prop := Claim7.holds Tryd.pinned (.plain (OpenSpec.ofChange pageNumberSpec)) pageNumberCard

/-- THE TIED CARD OF 'tollgatelaw03.PageSteps'. -/
def pageStepsCard : Claim7 := { stood := { row := pageStepsRow, standIns := [], harness := (true, "bec21994636500a6f969a21f20cadad15840b3b69ef94c7432102dfd5938e276"), looks := false }, kinds := [], alts := [], laidByText := true, laidKinds := [.data, .pinned], laidTests := true, laidLooks := .later }
def PageStepsCardSaid : Prop := Claim7.holds Tryd.pinned (.plain (OpenSpec.ofChange pageStepsSpec)) pageStepsCard

/-- THE SECOND FORM's CARD OF 'tollgatelaw03.PageReads'. -/
def pageReadsUptoCard : Claim7 := { stood := { row := pageReadsUptoRow, standIns := [], harness := (true, "bec21994636500a6f969a21f20cadad15840b3b69ef94c7432102dfd5938e276"), looks := false }, kinds := [], alts := [], laidByText := true, laidKinds := [.data, .pinned], laidTests := true, laidLooks := .later }
def PageReadsUptoCardSaid : Prop := Claim7.holds Tryd.pinned (.plain (OpenSpec.upto pageReadsSpec)) pageReadsUptoCard

/-- THE SECOND FORM's CARD OF 'tollgatelaw03.PageNames'. -/
def pageNamesUptoCard : Claim7 := { stood := { row := pageNamesUptoRow, standIns := [], harness := (true, "bec21994636500a6f969a21f20cadad15840b3b69ef94c7432102dfd5938e276"), looks := false }, kinds := [], alts := [], laidByText := true, laidKinds := [.data, .pinned], laidTests := true, laidLooks := .later }
def PageNamesUptoCardSaid : Prop := Claim7.holds Tryd.pinned (.plain (OpenSpec.upto pageNamesSpec)) pageNamesUptoCard

/-- THE SECOND FORM's CARD OF 'tollgatelaw03.PageBack'. -/
def pageBackUptoCard : Claim7 := { stood := { row := pageBackUptoRow, standIns := [], harness := (true, "bec21994636500a6f969a21f20cadad15840b3b69ef94c7432102dfd5938e276"), looks := false }, kinds := [], alts := [], laidByText := true, laidKinds := [.data, .pinned], laidTests := true, laidLooks := .later }
def PageBackUptoCardSaid : Prop := Claim7.holds Tryd.pinned (.plain (OpenSpec.upto pageBackSpec)) pageBackUptoCard

/-- THE SECOND FORM's CARD OF 'tollgatelaw03.PageByte'. -/
def pageByteUptoCard : Claim7 := { stood := { row := pageByteUptoRow, standIns := [], harness := (true, "bec21994636500a6f969a21f20cadad15840b3b69ef94c7432102dfd5938e276"), looks := false }, kinds := [], alts := [], laidByText := true, laidKinds := [.data, .pinned], laidTests := true, laidLooks := .later }
def PageByteUptoCardSaid : Prop := Claim7.holds Tryd.pinned (.plain (OpenSpec.upto pageByteSpec)) pageByteUptoCard

/-- THE SECOND FORM's CARD OF 'tollgatelaw03.PageNumber'. -/
def pageNumberUptoCard : Claim7 := { stood := { row := pageNumberUptoRow, standIns := [], harness := (true, "bec21994636500a6f969a21f20cadad15840b3b69ef94c7432102dfd5938e276"), looks := false }, kinds := [], alts := [], laidByText := true, laidKinds := [.data, .pinned], laidTests := true, laidLooks := .later }
def PageNumberUptoCardSaid : Prop := Claim7.holds Tryd.pinned (.plain (OpenSpec.upto pageNumberSpec)) pageNumberUptoCard

/-- THE SECOND FORM's CARD OF 'tollgatelaw03.PageSteps'. -/
def pageStepsUptoCard : Claim7 := { stood := { row := pageStepsUptoRow, standIns := [], harness := (true, "bec21994636500a6f969a21f20cadad15840b3b69ef94c7432102dfd5938e276"), looks := false }, kinds := [], alts := [], laidByText := true, laidKinds := [.data, .pinned], laidTests := true, laidLooks := .later }
def PageStepsUptoCardSaid : Prop := Claim7.holds Tryd.pinned (.plain (OpenSpec.upto pageStepsSpec)) pageStepsUptoCard
end Rows
end Go.Proofs.YtnkodmkoomifaaaDoor
