/- tollgatelaw16.awake returns true: reckoned by the kernel, on the machine that is proved to stand for the model. No condition. -/
import Derived.Test.YtcdmoboikochmaaGreatDoorKq
import Derived.Test.YtcdmoboikochmaaGreatDoorProg
import Derived.KernelRfl
namespace Go.Proofs.YtcdmoboikochmaaGreatDoor
open Go.RowKit

theorem mixed : Tryz.prog.follows .mixedOrders = true := by kernel_rfl
theorem awake_run : okTrue (mRun Tryz.prog Tryz.prog.globals.size 100000 noCall 60 9 [] .lf Tryz.prog.globals.size) = true := by kernel_rfl
theorem awake_calls (w : World) : Calls Tryz.prog 9 #[] w fun x w' => x = .returned (.bool true) ∧ Fr0 w w' := closed_ok (run_ok mixed noCall_ok) awake_run w
end Go.Proofs.YtcdmoboikochmaaGreatDoor
