/- More operations on strings, bytes and bits, by the environment. Over any program. No condition. -/
import Derived.Test.YthdlljlcffokbaaDoorZb3
import Derived.Laws.BytesArg
import Derived.Lib.Strings
namespace Go.Proofs.YthdlljlcffokbaaDoor
open Go.RowKit

section
variable {P : Program} {e : Env} {w : World} {o : Oper}
theorem run_bstr (w : World) (src dst e : TypeId) (hs : P.underlying src = some (.slice e)) (he : P.underlying e = some (.int .u8)) (hd : P.underlying dst = some .string)
    (A : Option Addr) (n c : Nat) (l : List UInt8) (hr : Rd w A n (bvs l)) :
    (convert src dst (.slice A n c)).run P w = .ok (str l) w := by
  have hl : l.length = n := by rw [← bvs_length, hr.1]
  rcases Nat.eq_zero_or_pos n with h0 | h0
  · have hx : l = [] := List.eq_nil_of_length_eq_zero (by omega)
    subst hx; subst h0
    rcases A with _ | a
    · rw [run_convert_bytes_nil w src e hs he 0 c dst hd]; rfl
    · rw [run_convert_bytes_string w src dst e _ 0 c hs he hd, run_bytesToString w a 0 c [] (by simp [loadCells, loadCellsFrom])]; rfl
  · obtain ⟨b, off, rfl, _⟩ := hr.2 h0
    have := run_convert_bytes_arg (P := P) w src e hs he b off n c (l.map fun x => (x.toNat : Int)) (by simpa using hl) (fun i hi => by
      obtain ⟨b', off', e', u, hu, hc⟩ := hr.at_ hi
      injection e' with e'; injection e' with e1 e2 _; subst e1; subst e2
      rw [hc]
      have hil : i < l.length := by omega
      rw [bvs_getElem?, List.getElem?_eq_getElem hil] at hu
      simp only [Option.map_some, Option.some.injEq] at hu
      subst hu
      simp [bv, hil]) dst hd
    rw [this]
    unfold str strOfNums
    congr 3
    rw [List.map_map]
    refine congrArg List.toArray (List.map_congr_left (g := id) (fun x _ => ?_) |>.trans (List.map_id _))
    simp
theorem y_bstr {s d el : Nat} {x : Operand} {A : Option Addr} {n c : Nat} {l : List UInt8} (ho : o.op = .convert s d x) (hx : ev e x = some (.slice A n c)) (hs : P.underlying s = some (.slice el)) (he : P.underlying el = some (.int .u8)) (hd : P.underlying d = some .string) (hr : Rd w A n (bvs l)) : Y P e o w (str l) := fun ρ h => by
  unfold execOp
  simp [ho, h _ _ hx, run_bstr w s d el hs he hd A n c l hr]
theorem y_sneq {t t' : Nat} {a b : List UInt8} {x y : Operand} (ho : o.op = .binOp .neq t x y t') (hx : ev e x = some (str a)) (hy : ev e y = some (str b)) : Y P e o w (.bool (!decide (a = b))) := fun ρ h => by
  have h1 : ρ x = .string ⟨a.toArray⟩ := h _ _ hx
  have h2 : ρ y = .string ⟨b.toArray⟩ := h _ _ hy
  unfold execOp
  simp [ho, h1, h2, eqGuard_at_string, binOp, Op.stringOp]
  by_cases hab : a = b
  · subst hab; simp
  · simp [hab]
end
end Go.Proofs.YthdlljlcffokbaaDoor
