/- tollgatelaw23.works returns true: reckoned by the kernel, on the machine that is proved to stand for the model. No condition. -/
import Derived.Test.YticggkmfgkmaoaaGreatDoorKw
namespace Go.Proofs.YticggkmfgkmaoaaGreatDoor
open Go.RowKit

theorem works_run : okTrue (mRun Tryz.prog Tryz.prog.globals.size 100000 (nameK (tabK noCall)) 60 4 [] .lf Tryz.prog.globals.size) = true := by kernel_rfl
theorem works_calls (w : World) : Calls Tryz.prog 4 #[] w fun x w' => x = .returned (.bool true) ∧ Fr0 w w' := closed_ok (run_ok mixed (nameK_ok (tabK_ok noCall_ok))) (by kernel_rfl) works_run w
end Go.Proofs.YticggkmfgkmaoaaGreatDoor
