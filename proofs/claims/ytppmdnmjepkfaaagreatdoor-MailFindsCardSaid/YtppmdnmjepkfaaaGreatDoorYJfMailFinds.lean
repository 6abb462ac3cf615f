/- Lemmas. -/
import Derived.Test.YtppmdnmjepkfaaaGreatDoorCards
import Derived.Test.YtppmdnmjepkfaaaGreatDoorTie
import Derived.JoinedCond
import Derived.ProofKit
set_option maxHeartbeats 16000000
set_option maxRecDepth 100000
namespace Go.Proofs.YtppmdnmjepkfaaaGreatDoor.mailFinds
open Go.RowKit
theorem jf1 : Tryz.prog.inPlace 3=Rows.mailFindsRow.inPlace:=by kernel_rfl
theorem jf2 : Tryz.prog.unfollowed 3=Rows.mailFindsRow.unfollowed:=by kernel_rfl
theorem jf3 : Tryz.prog.recurses 3=Rows.mailFindsRow.recurses:=by kernel_rfl
theorem jf4 : Tryz.prog.varsNamed 3=Rows.mailFindsRow.named:=by kernel_rfl
theorem a1Y : joinedFacts Tryz.prog 3 Tryz.f3 (OpenSpec.ofChange Rows.mailFindsSpec).bare Rows.mailFindsRow=true:=by
 unfold joinedFacts;rw [jf1,jf2,jf3,jf4]
 kernel_rfl
end Go.Proofs.YtppmdnmjepkfaaaGreatDoor.mailFinds
