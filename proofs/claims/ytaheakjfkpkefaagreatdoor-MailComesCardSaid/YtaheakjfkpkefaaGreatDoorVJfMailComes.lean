/- Lemmas. -/
import Derived.Test.YtaheakjfkpkefaaGreatDoorCards
import Derived.Test.YtaheakjfkpkefaaGreatDoorTie
import Derived.JoinedCond
import Derived.ProofKit
set_option maxHeartbeats 16000000
set_option maxRecDepth 100000
namespace Go.Proofs.YtaheakjfkpkefaaGreatDoor.mailComes
open Go.RowKit
theorem jf1 : Tryz.prog.inPlace 5=Rows.mailComesRow.inPlace:=by kernel_rfl
theorem jf2 : Tryz.prog.unfollowed 5=Rows.mailComesRow.unfollowed:=by kernel_rfl
theorem jf3 : Tryz.prog.recurses 5=Rows.mailComesRow.recurses:=by kernel_rfl
theorem jf4 : Tryz.prog.varsNamed 5=Rows.mailComesRow.named:=by kernel_rfl
theorem xS : joinedFacts Tryz.prog 5 Tryz.f5 (OpenSpec.ofChange Rows.mailComesSpec).bare Rows.mailComesRow=true:=by
 unfold joinedFacts;rw [jf1,jf2,jf3,jf4]
 kernel_rfl
end Go.Proofs.YtaheakjfkpkefaaGreatDoor.mailComes
