/- Lemmas. -/
import Derived.Test.YtppmdnmjepkfaaaGreatDoorCards
import Derived.Test.YtppmdnmjepkfaaaGreatDoorTie
import Derived.JoinedCond
import Derived.ProofKit
set_option maxHeartbeats 16000000
set_option maxRecDepth 100000
namespace Go.Proofs.YtppmdnmjepkfaaaGreatDoor.mailKeeps
open Go.RowKit
open Bool renaming true→zz
theorem jf1 : Tryz.prog.inPlace 4=Rows.mailKeepsRow.inPlace:=by kernel_rfl
theorem jf2 : Tryz.prog.unfollowed 4=Rows.mailKeepsRow.unfollowed:=by kernel_rfl
theorem jf3 : Tryz.prog.recurses 4=Rows.mailKeepsRow.recurses:=by kernel_rfl
theorem jf4 : Tryz.prog.varsNamed 4=Rows.mailKeepsRow.named:=by kernel_rfl
theorem a2K : joinedFacts Tryz.prog 4 Tryz.f4 (OpenSpec.ofChange Rows.mailKeepsSpec).bare Rows.mailKeepsRow=zz:=by
 unfold joinedFacts;rw [jf1,jf2,jf3,jf4]
 kernel_rfl
end Go.Proofs.YtppmdnmjepkfaaaGreatDoor.mailKeeps
