/- Calls that leave the world. -/
import Derived.Test.YtklciidffdnglaaDoorSxAny
import Derived.Test.YtklciidffdnglaaDoorSxBuild
namespace Go.Proofs.YtklciidffdnglaaDoor
open Go.RowKit
section
variable {P : Program} {Q : Exit → Act → World → Prop} {n : Nat} {e : Env} {w : World}
theorem sxl_pure {ops : Array Oper} {o : Oper} {rest : List Oper} {f : FuncId} {args : Array Value} {d : Nat} {v : Value} (hw : Wn ops e o) (hd : o.dst = some d) (hn : dstOk n (some d) = true) (hy : YC P e o w f args) (hc : Calls P f args w fun x w' => x = .returned v ∧ w = w')
    (k : SxL P ops Q n rest (e.ins (some d) v) w) : SxL P ops Q n (o :: rest) e w :=
  sxl_call (some d) hw hd hn hy hc (by rintro _ _ ⟨rfl, rfl⟩; exact ⟨_, rfl, k⟩)
end
theorem Rd.ofBlk {w : World} {g : Nat} {t : TypeId} {xs : List Value} (h : Blk w g t xs) {n : Nat} (hn : xs.length = n) : Rd w (some ⟨g, 0, none⟩) n xs :=
  ⟨hn, fun _ => ⟨g, 0, rfl, fun j u hu => by rw [Nat.zero_add]; exact (h.cell j).trans hu⟩⟩
end Go.Proofs.YtklciidffdnglaaDoor
