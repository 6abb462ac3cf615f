/- What operations on strings yield, by the environment. A string is told by its bytes: str l. Over any program. No condition. -/
import Derived.Test.YtklciidffdnglaaDoorSx3
namespace Go.Proofs.YtklciidffdnglaaDoor
open Go.RowKit

/-- The string of these bytes. -/
def str (l : List UInt8) : Value := .string ⟨l.toArray⟩
theorem str_of (s : ByteArray) : Value.string s = str s.data.toList := by
  cases s with | mk d => rfl
section
variable {P : Program} {e : Env} {w : World} {o : Oper}
theorem y_slen {t : Nat} {x : Operand} {l : List UInt8} (ho : o.op = .call { callee := .builtin .len, args := #[x], argTypes := #[t] }) (hx : ev e x = some (str l)) (ht : P.underlying t = some .string) : Y P e o w (.int .i64 (l.length : Int)) := fun ρ h => by
  have hs : (ByteArray.mk l.toArray).size = l.length := by show l.toArray.size = _; simp
  unfold execOp
  simp [ho, h _ _ hx, str, resolve, invoke, builtin, Builtin.len_, run_underlying ht, goInt, hs]
theorem y_sindex {t : Nat} {x i : Operand} {l : List UInt8} {k : IntKind} {m : Nat} {b : UInt8} (ho : o.op = .index t x i) (hx : ev e x = some (str l)) (hi : ev e i = some (.int k (m : Int))) (ht : P.underlying t = some .string) (hb : l[m]? = some b) : Y P e o w (.int .u8 (b.toNat : Int)) := fun ρ h => by
  have hs : (ByteArray.mk l.toArray)[m]? = some b := by
    have hl := (List.getElem?_eq_some_iff.1 hb).1
    have he := (List.getElem?_eq_some_iff.1 hb).2
    rw [getElem?_pos (ByteArray.mk l.toArray) m (by show m < l.toArray.size; simpa using hl)]
    congr 1
  unfold execOp
  simp [ho, h _ _ hx, h _ _ hi, str, Instr.index, asIntOf, run_underlying ht, hs]
theorem y_seql {t t' : Nat} {a b : List UInt8} {x y : Operand} (ho : o.op = .binOp .eql t x y t') (hx : ev e x = some (str a)) (hy : ev e y = some (str b)) : Y P e o w (.bool (decide (a = b))) := fun ρ h => by
  have h1 : ρ x = .string ⟨a.toArray⟩ := h _ _ hx
  have h2 : ρ y = .string ⟨b.toArray⟩ := h _ _ hy
  unfold execOp
  simp [ho, h1, h2, eqGuard_at_string, binOp, Op.stringOp]
  by_cases hab : a = b
  · subst hab; simp
  · simp [hab]
end
end Go.Proofs.YtklciidffdnglaaDoor
