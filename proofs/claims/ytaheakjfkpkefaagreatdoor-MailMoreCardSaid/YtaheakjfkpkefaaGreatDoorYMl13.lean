/- Lemmas that the last text rests on. Condition: each says its own. -/
import Derived.Test.YtaheakjfkpkefaaGreatDoorYMlq
set_option maxHeartbeats 16000000
set_option maxRecDepth 100000
namespace Go.Proofs.YtaheakjfkpkefaaGreatDoor
open Go.RowKit
theorem RW (hs:List Ht):kP hs=.tuple #[.agg (hs.head?.getD zeroHt).cells.toArray,.bool hs.head?.isSome]:=by cases hs<;>rfl
section
variable {P:Program} {e:Env} {w:World} {o:Oper}
end
end Go.Proofs.YtaheakjfkpkefaaGreatDoor
