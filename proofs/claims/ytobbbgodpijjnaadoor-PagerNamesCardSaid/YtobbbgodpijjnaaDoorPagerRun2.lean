/- tollgatelaw04.PagerNames returns true: reckoned by the kernel, on the machine that is proved to stand for the model. No condition. -/
import Derived.Test.YtobbbgodpijjnaaDoorPagerRun1
namespace Go.Proofs.YtobbbgodpijjnaaDoor
open Go.RowKit

theorem names_run : okTrue (mRun Tryd.prog Tryd.prog.globals.size 100000 (known 19 (encK (decK noCall))) 60 3 [] .lf Tryd.prog.globals.size) = true := by kernel_rfl
theorem names_calls (w : World) : Calls Tryd.prog 3 #[] w fun x w' => x = .returned (.bool true) ∧ Fr0 w w' := closed_ok (run_ok mixed (known_ok awake_calls (encK_ok (decK_ok noCall_ok)))) names_run w
end Go.Proofs.YtobbbgodpijjnaaDoor
