/- tollgatelaw21.works returns true: reckoned by the kernel, on the machine that is proved to stand for the model. No condition. -/
import Derived.Test.YtadgfojhjnkliaaGreatDoorZb5
set_option maxHeartbeats 16000000
set_option maxRecDepth 100000
namespace Go.Proofs.YtadgfojhjnkliaaGreatDoor
open Go.RowKit
theorem bV : Y4 (rA Tryz.prog Tryz.prog.globals.size 100000 noCall 60 4 [] .lf Tryz.prog.globals.size) = true := by kernel_rfl
theorem O7 (w : World) : Calls Tryz.prog 4 #[] w fun x w' => x = .returned (.bool true) ∧ Fr0 w w' := eS (gV mixed SR) (by kernel_rfl) bV w
end Go.Proofs.YtadgfojhjnkliaaGreatDoor
