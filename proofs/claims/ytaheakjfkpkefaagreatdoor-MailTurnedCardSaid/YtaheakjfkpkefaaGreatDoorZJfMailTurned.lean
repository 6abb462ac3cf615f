/- Lemmas that the last text rests on. Condition: each says its own. -/
import Derived.Test.YtaheakjfkpkefaaGreatDoorCards
import Derived.Test.YtaheakjfkpkefaaGreatDoorTie
import Derived.JoinedCond
import Derived.ProofKit
set_option maxHeartbeats 16000000
set_option maxRecDepth 100000
namespace Go.Proofs.YtaheakjfkpkefaaGreatDoor.mailTurned
open Go.RowKit
theorem jf1 : Tryz.prog.inPlace 4 = Rows.mailTurnedRow.inPlace := by kernel_rfl
theorem jf2 : Tryz.prog.unfollowed 4 = Rows.mailTurnedRow.unfollowed := by kernel_rfl
theorem jf3 : Tryz.prog.recurses 4 = Rows.mailTurnedRow.recurses := by kernel_rfl
theorem jf4 : Tryz.prog.varsNamed 4 = Rows.mailTurnedRow.named := by kernel_rfl
theorem tI : joinedFacts Tryz.prog 4 Tryz.f4 (OpenSpec.ofChange Rows.mailTurnedSpec).bare Rows.mailTurnedRow = true := by
 unfold joinedFacts
 rw [jf1, jf2, jf3, jf4]
 kernel_rfl
end Go.Proofs.YtaheakjfkpkefaaGreatDoor.mailTurned
