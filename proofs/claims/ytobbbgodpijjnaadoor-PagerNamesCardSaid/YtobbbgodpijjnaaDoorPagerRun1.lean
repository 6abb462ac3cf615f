/- tollgatelaw04.awake returns true: reckoned by the kernel, on the machine that is proved to stand for the model. No condition. -/
import Derived.Test.YtobbbgodpijjnaaDoorPgKnown
import Derived.Test.YtobbbgodpijjnaaDoorProg
import Derived.KernelRfl
namespace Go.Proofs.YtobbbgodpijjnaaDoor
open Go.RowKit

theorem mixed : Tryd.prog.follows .mixedOrders = true := by kernel_rfl
theorem awake_run : okTrue (mRun Tryd.prog Tryd.prog.globals.size 100000 (encK (decK noCall)) 60 19 [] .lf Tryd.prog.globals.size) = true := by kernel_rfl
theorem awake_calls (w : World) : Calls Tryd.prog 19 #[] w fun x w' => x = .returned (.bool true) ∧ Fr0 w w' := closed_ok (run_ok mixed (encK_ok (decK_ok noCall_ok))) awake_run w
end Go.Proofs.YtobbbgodpijjnaaDoor
