/- tollgatelaw26.JudgeNames returns true: reckoned by the kernel, on the machine that is proved to stand for the model. No condition. -/
import Derived.Test.YthfpnokmdniopaaGreatDoorJudgeRun1
namespace Go.Proofs.YthfpnokmdniopaaGreatDoor
open Go.RowKit

theorem names_run : okTrue (mRun Tryz.prog Tryz.prog.globals.size 100000 (known 8 (nameK (tabK noCall))) 60 3 [] .lf Tryz.prog.globals.size) = true := by kernel_rfl
theorem names_calls (w : World) : Calls Tryz.prog 3 #[] w fun x w' => x = .returned (.bool true) ∧ Fr0 w w' := closed_ok (run_ok mixed (known_ok awake_calls (nameK_ok (tabK_ok noCall_ok)))) (by kernel_rfl) names_run w
end Go.Proofs.YthfpnokmdniopaaGreatDoor
