/- Lemmas that the last text rests on. Condition: each says its own. -/
import Derived.Test.YtaheakjfkpkefaaGreatDoorCards
import Derived.Test.YtaheakjfkpkefaaGreatDoorTie
import Derived.JoinedCond
import Derived.ProofKit
set_option maxHeartbeats 16000000
set_option maxRecDepth 100000
namespace Go.Proofs.YtaheakjfkpkefaaGreatDoor.mailMore
open Go.RowKit
theorem jf1 : Tryz.prog.inPlace 3 = Rows.mailMoreRow.inPlace := by kernel_rfl
theorem jf2 : Tryz.prog.unfollowed 3 = Rows.mailMoreRow.unfollowed := by kernel_rfl
theorem jf3 : Tryz.prog.recurses 3 = Rows.mailMoreRow.recurses := by kernel_rfl
theorem jf4 : Tryz.prog.varsNamed 3 = Rows.mailMoreRow.named := by kernel_rfl
theorem rZ : joinedFacts Tryz.prog 3 Tryz.f3 (OpenSpec.ofChange Rows.mailMoreSpec).bare Rows.mailMoreRow = true := by
 unfold joinedFacts
 rw [jf1, jf2, jf3, jf4]
 kernel_rfl
end Go.Proofs.YtaheakjfkpkefaaGreatDoor.mailMore
