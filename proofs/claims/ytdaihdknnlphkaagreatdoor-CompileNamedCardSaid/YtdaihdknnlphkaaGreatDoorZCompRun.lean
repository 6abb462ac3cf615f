/- Lemmas that the last text rests on. Condition: each says its own. -/
import Derived.Test.YtdaihdknnlphkaaGreatDoorZb5
set_option maxHeartbeats 16000000
set_option maxRecDepth 100000
namespace Go.Proofs.YtdaihdknnlphkaaGreatDoor
open Go.RowKit
open Tryz
theorem jZ : aU (wA prog prog.globals.size 100000 noCall 60 5 [] .lf prog.globals.size) = true := by kernel_rfl
theorem QB (w : World) : Calls prog 5 #[] w fun x w' => x = .returned (.bool true) ∧ Fr0 w w' := jS (lU mixed UO) (by kernel_rfl) jZ w
end Go.Proofs.YtdaihdknnlphkaaGreatDoor
