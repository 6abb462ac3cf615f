/- tollgatelaw26.awake returns true: reckoned by the kernel, on the machine that is proved to stand for the model. No condition. -/
import Derived.Test.YthfpnokmdniopaaGreatDoorKw
namespace Go.Proofs.YthfpnokmdniopaaGreatDoor
open Go.RowKit

theorem awake_run : okTrue (mRun Tryz.prog Tryz.prog.globals.size 100000 (nameK (tabK noCall)) 60 8 [] .lf Tryz.prog.globals.size) = true := by kernel_rfl
theorem awake_calls (w : World) : Calls Tryz.prog 8 #[] w fun x w' => x = .returned (.bool true) ∧ Fr0 w w' := closed_ok (run_ok mixed (nameK_ok (tabK_ok noCall_ok))) (by kernel_rfl) awake_run w
end Go.Proofs.YthfpnokmdniopaaGreatDoor
