/- Whether a patch fits a model, in plain Lean; a model's fields. -/
import Derived.Test.YtklciidffdnglaaDoorBinds
namespace Go.Proofs.YtklciidffdnglaaDoor
open Go.RowKit

/-- What stands in the map: a later one of the same name first, then written over. -/
def kindsFrom : List Bd → List (List UInt8 × Value)
  | [] => []
  | x :: r => mput (kindsFrom r) x.name (.int .u8 (x.v.kind.toNat : Int))
theorem mget_kinds (k : List UInt8) : ∀ l : List Bd, mget (kindsFrom l) k = (bfind l k).map fun v => .int .u8 (v.kind.toNat : Int)
  | [] => rfl
  | x :: r => by
    rw [kindsFrom, mget_mput, bfind, mget_kinds k r]
    by_cases h : x.name = k
    · rw [if_pos h, if_pos h.symm]; rfl
    · rw [if_neg h, if_neg (fun e => h e.symm)]
def fitFrom (vars : List Bd) : List Bd → Int
  | [] => 0
  | x :: r => match bfind vars x.name with
    | none => 100
    | some v => if v.kind = x.v.kind then fitFrom vars r else 90
/-- Whether a patch fits a model. -/
def fitsOf (vars patch : List Bd) : Int := if cbFrom [] patch = 0 then fitFrom vars patch else cbFrom [] patch
/-- A model: its fields. -/
def mcells (id nm : List UInt8) (A : Option Addr) (n c : Nat) (vE vF : Value) : List Value := [str id, str nm, .slice A n c, vE, vF]
theorem y_lookupR {P : Program} {e : Env} {w : World} {o : Oper} {t kt el : TypeId} {x i : Operand} {g : Nat} {k : List UInt8} {L : List (List UInt8 × Value)} {z : Value} {r : Option Value} (ho : o.op = .lookup t x i true) (hx : ev e x = some (.map (some g))) (hi : ev e i = some (str k)) (hu : P.underlying t = some (.map kt el)) (hd : P.underlying kt = some .string)
    (hz : (P.info? el).map (·.zero) = some (some z)) (hM : Mp w g L) (hr : mget L k = r) : Y P e o w (.tuple #[r.getD z, .bool r.isSome]) := by
  subst hr
  exact y_lookup (ok := true) ho hx hi hu hd hz hM
theorem u8_zero : (Tryd.prog.info? 5).map (·.zero) = some (some (.int .u8 0)) := by kernel_rfl
theorem kinds_zero : (Tryd.prog.info? 31).map (·.zero) = some (some (.map none)) := by kernel_rfl
theorem kind_toNat {a b : UInt8} (h : (a.toNat : Int) = b.toNat) : a = b := UInt8.toNat_inj.1 (by omega)
end Go.Proofs.YtklciidffdnglaaDoor
