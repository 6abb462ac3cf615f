/- Lemmas that the last text rests on. Condition: each says its own. -/
import Derived.Test.YtadgfojhjnkliaaGreatDoorZb5
set_option maxHeartbeats 16000000
set_option maxRecDepth 100000
namespace Go.Proofs.YtadgfojhjnkliaaGreatDoor
open Go.RowKit
open Tryz
theorem bX : Y6 (rB prog prog.globals.size 100000 noCall 60 4 [] .lf prog.globals.size) = true := by kernel_rfl
theorem OA (w : World) : Calls prog 4 #[] w fun x w' => x = .returned (.bool true) ∧ Fr0 w w' := eU (gW mixed ST) (by kernel_rfl) bX w
end Go.Proofs.YtadgfojhjnkliaaGreatDoor
