/- tollgatelaw23.MailNames returns true: reckoned by the kernel, on the machine that is proved to stand for the model. Condition: the tables of unicode/utf8 are as they are laid. -/
import Derived.Test.YticggkmfgkmaoaaGreatDoorMailRun1
import Derived.Test.YticggkmfgkmaoaaGreatDoorUtf
namespace Go.Proofs.YticggkmfgkmaoaaGreatDoor
open Go.RowKit

theorem names_run (el : Nat → Nat) : okTrue (mRun Tryz.prog Tryz.prog.globals.size 100000 (known 4 (nameK (tabK noCall))) 60 3 [] (tabsH el utfL) Tryz.prog.globals.size) = true := by kernel_rfl
theorem names_calls (w : World) (hw : Laid w utfL) : Calls Tryz.prog 3 #[] w fun x w' => x = .returned (.bool true) ∧ Fr0 w w' := closed_tabs (run_ok mixed (known_ok works_calls (nameK_ok (tabK_ok noCall_ok)))) (by kernel_rfl) (by kernel_rfl) names_run w hw
end Go.Proofs.YticggkmfgkmaoaaGreatDoor
