/- What single operations yield, by the environment. Over any program. No condition. -/
import Derived.Test.YtklciidffdnglaaDoorSx
import Derived.IntWalk
namespace Go.Proofs.YtklciidffdnglaaDoor
open Go.RowKit

/-- A cell's value, told of the heap alone. -/
structure Cell (h : Array Obj) (g off : Nat) (v : Value) : Prop where
  get : ∀ w : World, w.heap = h → w.cell? ⟨g, off, none⟩ = some v
theorem Cell.of {w : World} {g off : Nat} {v : Value} (h : w.cell? ⟨g, off, none⟩ = some v) : Cell w.heap g off v :=
  ⟨fun w' hw => by rw [← h]; exact World.cell?_of_block (w := w) (by rw [hw])⟩
theorem Blk.c {w : World} {g : Nat} {t : TypeId} {cs : List Value} (h : Blk w g t cs) (off : Nat) {v : Value} (hv : cs[off]? = some v) : Cell w.heap g off v := Cell.of ((h.cell off).trans hv)
theorem Cell.fr {S : Nat → Prop} {w w' : World} {g off : Nat} {v : Value} (h : Cell w.heap g off v) (hf : Fr S w w') (hn : ¬ S g) : Cell w'.heap g off v :=
  have hc := h.get w rfl
  Cell.of ((hf.cell (p := ⟨g, off, none⟩) (World.block_lt_of_cell? w _ hc) hn).trans hc)

def fieldOff (P : Program) (s f : Nat) : Option Nat := match P.underlying s with
  | some (.struct fs) => match fs[f]? with
    | some fd => match P.info? fd.type with
      | some i => if i.size = 0 then none else some fd.offset
      | none => none
    | none => none
  | _ => none
def scalarTy (P : Program) (t : Nat) : Bool := match P.underlying t with
  | some (.struct _) | some (.array _ _) | none => false
  | some _ => true
def sliceElem (P : Program) (t : Nat) : Option (Nat × Nat) := match P.underlying t with
  | some (.slice e) => match P.info? e with
    | some i => some (e, i.size)
    | none => none
  | _ => none
def arrElem (P : Program) (t : Nat) : Option (Nat × Nat × Nat) := match P.underlying t with
  | some (.array n e) => match P.info? e with
    | some i => some (n, e, i.size)
    | none => none
  | _ => none

def ptrElem (P : Program) (t : Nat) : Option Nat := match P.underlying t with
  | some (.pointer el) => some el
  | _ => none
theorem ptrElem_ok {P : Program} {t el : Nat} (h : ptrElem P t = some el) : P.underlying t = some (.pointer el) := by
  unfold ptrElem at h
  split at h
  · rename_i hu; simp only [Option.some.injEq] at h; subst h; exact hu
  · cases h
section
variable {P : Program} {e : Env} {w : World} {o : Oper}
theorem y_move {x : Operand} {v : Value} (ho : o.op = .move x) (hx : ev e x = some v) : Y P e o w v := fun ρ h => by
  unfold execOp; simp only [ho]; rw [h _ _ hx]; rfl
theorem y_assign {x : Operand} {v : Value} (ho : o.op = .assign x) (hx : ev e x = some v) : Y P e o w v := fun ρ h => by
  unfold execOp; simp only [ho]; rw [h _ _ hx]; rfl
theorem y_pick_t {c x y : Operand} {v : Value} (ho : o.op = .pick c x y) (hc : ev e c = some (.bool true)) (hx : ev e x = some v) : Y P e o w v := fun ρ h => by
  unfold execOp; simp [ho, h _ _ hc, h _ _ hx, asBool]
theorem y_pick_f {c x y : Operand} {v : Value} (ho : o.op = .pick c x y) (hc : ev e c = some (.bool false)) (hx : ev e y = some v) : Y P e o w v := fun ρ h => by
  unfold execOp; simp [ho, h _ _ hc, h _ _ hx, asBool]
theorem y_nil {x : Operand} {p : Addr} (ho : o.op = .nilCheck x) (hx : ev e x = some (.pointer (some p))) : Y P e o w (.pointer (some p)) := fun ρ h => by
  unfold execOp; simp only [ho, h _ _ hx]; rfl
theorem y_field {s f k g off : Nat} {x : Operand} (ho : o.op = .fieldAddr s x f) (hx : ev e x = some (.pointer (some ⟨g, off, none⟩))) (hf : fieldOff P s f = some k) : Y P e o w (.pointer (some ⟨g, off + k, none⟩)) := fun ρ h => by
  unfold fieldOff at hf
  split at hf
  · rename_i fs hu
    split at hf
    · rename_i fd hfd
      split at hf
      · rename_i i hi
        split at hf
        · cases hf
        · rename_i hz
          simp only [Option.some.injEq] at hf
          subst hf
          unfold execOp
          simp [ho, h _ _ hx, Instr.fieldAt, run_underlying hu, hfd, Instr.sureAddr, fieldPlace, sizeOf, typeInfo, hi, hz, Addr.add_mid]
      · cases hf
    · cases hf
  · cases hf
theorem y_load {t g off : Nat} {x : Operand} {v : Value} (ho : o.op = .load t x) (hx : ev e x = some (.pointer (some ⟨g, off, none⟩))) (ht : scalarTy P t = true) (hc : Cell w.heap g off v) : Y P e o w v := fun ρ h => by
  have hcell := hc.get w rfl
  unfold scalarTy at ht
  have ha : (isAgg t).run P w = .ok false w := by
    cases hu : P.underlying t with
    | none => simp [hu] at ht
    | some d =>
      unfold isAgg; rw [Sem.run_bind, run_underlying hu w]
      cases d <;> simp_all
  unfold execOp
  simp only [ho, h _ _ hx, Instr.loadAt, Instr.sureAddr, Sem.run_bind, Sem.run_pure, Result.andThen_ok, loadVar, ha, Bool.false_eq_true, if_false]
  simp [hcell]
theorem y_lss_t {t t' : Nat} {k : IntKind} {a b : Int} {x y : Operand} (ho : o.op = .binOp .lss t x y t') (hx : ev e x = some (.int k a)) (hy : ev e y = some (.int k b)) (hc : a < b) : Y P e o w (.bool true) := fun ρ h => by
  unfold execOp; simp [ho, h _ _ hx, h _ _ hy, eqGuard_at_int, binOp_lss]; omega
theorem y_lss_f {t t' : Nat} {k : IntKind} {a b : Int} {x y : Operand} (ho : o.op = .binOp .lss t x y t') (hx : ev e x = some (.int k a)) (hy : ev e y = some (.int k b)) (hc : ¬ (a < b)) : Y P e o w (.bool false) := fun ρ h => by
  unfold execOp; simp [ho, h _ _ hx, h _ _ hy, eqGuard_at_int, binOp_lss]; omega
theorem y_leq_t {t t' : Nat} {k : IntKind} {a b : Int} {x y : Operand} (ho : o.op = .binOp .leq t x y t') (hx : ev e x = some (.int k a)) (hy : ev e y = some (.int k b)) (hc : a ≤ b) : Y P e o w (.bool true) := fun ρ h => by
  unfold execOp; simp [ho, h _ _ hx, h _ _ hy, eqGuard_at_int, binOp_leq]; omega
theorem y_leq_f {t t' : Nat} {k : IntKind} {a b : Int} {x y : Operand} (ho : o.op = .binOp .leq t x y t') (hx : ev e x = some (.int k a)) (hy : ev e y = some (.int k b)) (hc : ¬ (a ≤ b)) : Y P e o w (.bool false) := fun ρ h => by
  unfold execOp; simp [ho, h _ _ hx, h _ _ hy, eqGuard_at_int, binOp_leq]; omega
theorem y_gtr_t {t t' : Nat} {k : IntKind} {a b : Int} {x y : Operand} (ho : o.op = .binOp .gtr t x y t') (hx : ev e x = some (.int k a)) (hy : ev e y = some (.int k b)) (hc : b < a) : Y P e o w (.bool true) := fun ρ h => by
  unfold execOp; simp [ho, h _ _ hx, h _ _ hy, eqGuard_at_int, binOp_gtr]; omega
theorem y_gtr_f {t t' : Nat} {k : IntKind} {a b : Int} {x y : Operand} (ho : o.op = .binOp .gtr t x y t') (hx : ev e x = some (.int k a)) (hy : ev e y = some (.int k b)) (hc : ¬ (b < a)) : Y P e o w (.bool false) := fun ρ h => by
  unfold execOp; simp [ho, h _ _ hx, h _ _ hy, eqGuard_at_int, binOp_gtr]; omega
theorem y_geq_t {t t' : Nat} {k : IntKind} {a b : Int} {x y : Operand} (ho : o.op = .binOp .geq t x y t') (hx : ev e x = some (.int k a)) (hy : ev e y = some (.int k b)) (hc : b ≤ a) : Y P e o w (.bool true) := fun ρ h => by
  unfold execOp; simp [ho, h _ _ hx, h _ _ hy, eqGuard_at_int, binOp_geq]; omega
theorem y_geq_f {t t' : Nat} {k : IntKind} {a b : Int} {x y : Operand} (ho : o.op = .binOp .geq t x y t') (hx : ev e x = some (.int k a)) (hy : ev e y = some (.int k b)) (hc : ¬ (b ≤ a)) : Y P e o w (.bool false) := fun ρ h => by
  unfold execOp; simp [ho, h _ _ hx, h _ _ hy, eqGuard_at_int, binOp_geq]; omega
theorem y_eql_t {t t' : Nat} {k : IntKind} {a b : Int} {x y : Operand} (ho : o.op = .binOp .eql t x y t') (hx : ev e x = some (.int k a)) (hy : ev e y = some (.int k b)) (hc : a = b) : Y P e o w (.bool true) := fun ρ h => by
  unfold execOp; simp [ho, h _ _ hx, h _ _ hy, eqGuard_at_int, binOp_eql]; omega
theorem y_eql_f {t t' : Nat} {k : IntKind} {a b : Int} {x y : Operand} (ho : o.op = .binOp .eql t x y t') (hx : ev e x = some (.int k a)) (hy : ev e y = some (.int k b)) (hc : ¬ (a = b)) : Y P e o w (.bool false) := fun ρ h => by
  unfold execOp; simp [ho, h _ _ hx, h _ _ hy, eqGuard_at_int, binOp_eql]; omega
theorem y_neq_t {t t' : Nat} {k : IntKind} {a b : Int} {x y : Operand} (ho : o.op = .binOp .neq t x y t') (hx : ev e x = some (.int k a)) (hy : ev e y = some (.int k b)) (hc : a ≠ b) : Y P e o w (.bool true) := fun ρ h => by
  unfold execOp; simp [ho, h _ _ hx, h _ _ hy, eqGuard_at_int, binOp_neq]; omega
theorem y_neq_f {t t' : Nat} {k : IntKind} {a b : Int} {x y : Operand} (ho : o.op = .binOp .neq t x y t') (hx : ev e x = some (.int k a)) (hy : ev e y = some (.int k b)) (hc : ¬ (a ≠ b)) : Y P e o w (.bool false) := fun ρ h => by
  unfold execOp; simp [ho, h _ _ hx, h _ _ hy, eqGuard_at_int, binOp_neq]; omega
theorem y_add {t t' : Nat} {a b : Int} {x y : Operand} (ho : o.op = .binOp .add t x y t') (hx : ev e x = some (.int .i64 a)) (hy : ev e y = some (.int .i64 b)) (hc : -9223372036854775808 ≤ a + b ∧ a + b ≤ 9223372036854775807) : Y P e o w (.int .i64 (a + b)) := fun ρ h => by
  unfold execOp; simp [ho, h _ _ hx, h _ _ hy, eqGuard_at_int, binOp_add, Op.intArith, IntWalk.i64_in _ hc]
theorem y_sub {t t' : Nat} {a b : Int} {x y : Operand} (ho : o.op = .binOp .sub t x y t') (hx : ev e x = some (.int .i64 a)) (hy : ev e y = some (.int .i64 b)) (hc : -9223372036854775808 ≤ a - b ∧ a - b ≤ 9223372036854775807) : Y P e o w (.int .i64 (a - b)) := fun ρ h => by
  unfold execOp; simp [ho, h _ _ hx, h _ _ hy, eqGuard_at_int, binOp_sub, Op.intArith, IntWalk.i64_in _ hc]
theorem y_mul {t t' : Nat} {a b : Int} {x y : Operand} (ho : o.op = .binOp .mul t x y t') (hx : ev e x = some (.int .i64 a)) (hy : ev e y = some (.int .i64 b)) (hc : -9223372036854775808 ≤ a * b ∧ a * b ≤ 9223372036854775807) : Y P e o w (.int .i64 (a * b)) := fun ρ h => by
  unfold execOp; simp [ho, h _ _ hx, h _ _ hy, eqGuard_at_int, binOp_mul, Op.intArith, IntWalk.i64_in _ hc]
theorem y_quo {t t' : Nat} {a b : Int} {x y : Operand} (ho : o.op = .binOp .quo t x y t') (hx : ev e x = some (.int .i64 a)) (hy : ev e y = some (.int .i64 b)) (ha : 0 ≤ a ∧ a ≤ 9223372036854775807) (hb : 0 < b) : Y P e o w (.int .i64 (a / b)) := fun ρ h => by
  have h1 : a.tdiv b = a / b := Int.tdiv_eq_ediv_of_nonneg ha.1
  have h2 : a / b ≤ a := Int.ediv_le_self _ ha.1
  have h3 : 0 ≤ a / b := Int.ediv_nonneg ha.1 (by omega)
  have h4 : ¬ b = 0 := by omega
  unfold execOp; simp [ho, h _ _ hx, h _ _ hy, eqGuard_at_int, binOp_quo, Op.intDiv, h4, h1, IntWalk.i64_in (a / b) ⟨by omega, by omega⟩]
theorem y_rem {t t' : Nat} {k : IntKind} {a b : Int} {x y : Operand} (ho : o.op = .binOp .rem t x y t') (hx : ev e x = some (.int k a)) (hy : ev e y = some (.int k b)) (ha : 0 ≤ a) (hb : 0 < b) : Y P e o w (.int k (a % b)) := fun ρ h => by
  have h1 : a.tmod b = a % b := Int.tmod_eq_emod_of_nonneg ha
  have h4 : ¬ b = 0 := by omega
  unfold execOp; simp [ho, h _ _ hx, h _ _ hy, eqGuard_at_int, binOp_rem, Op.intDiv, h4, h1]
theorem y_not {t : Nat} {b : Bool} {x : Operand} (ho : o.op = .unOp .not t x) (hx : ev e x = some (.bool b)) : Y P e o w (.bool (!b)) := fun ρ h => by
  unfold execOp; simp [ho, h _ _ hx, Op.unary]
theorem y_func {f : Fn} {xs ys : List Operand} {us vs : List Value} (ho : o.op = .makeFunc f xs.toArray ys.toArray) (hx : evs e xs = some us) (hy : evs e ys = some vs) : Y P e o w (.func f us.toArray vs.toArray) := fun ρ h => by
  unfold execOp; simp [ho, Instr.makeFunc, h.all hx, h.all hy]
theorem y_extract {x : Operand} {ix : Nat} {vs : Array Value} {v : Value} (ho : o.op = .extract x ix) (hx : ev e x = some (.tuple vs)) (hv : vs[ix]? = some v) : Y P e o w v := fun ρ h => by
  unfold execOp; simp [ho, h _ _ hx, Instr.extract, hv]
theorem y_index {t g off len cap sz el : Nat} {m : Int} {k : IntKind} {x i : Operand} (ho : o.op = .indexAddr t x i) (hx : ev e x = some (.slice (some ⟨g, off, none⟩) len cap)) (hi : ev e i = some (.int k m)) (ht : sliceElem P t = some (el, sz)) (h0 : 0 ≤ m ∧ m < len) :
    Y P e o w (.pointer (some ⟨g, off + m.toNat * sz, none⟩)) := fun ρ h => by
  unfold sliceElem at ht
  split at ht
  · rename_i el' hu
    split at ht
    · rename_i i' hi'
      simp only [Option.some.injEq, Prod.mk.injEq] at ht
      obtain ⟨rfl, rfl⟩ := ht
      unfold execOp
      simp [ho, h _ _ hx, h _ _ hi, Instr.indexAt, asIntOf, run_underlying hu, h0.1, h0.2, sizeOf, typeInfo, hi', Addr.add_mid]
    · cases ht
  · cases ht
theorem y_indexN {t g off len cap sz el j : Nat} {k : IntKind} {x i : Operand} (ho : o.op = .indexAddr t x i) (hx : ev e x = some (.slice (some ⟨g, off, none⟩) len cap)) (hi : ev e i = some (.int k (j : Int))) (ht : sliceElem P t = some (el, sz)) (h0 : j < len) :
    Y P e o w (.pointer (some ⟨g, off + j * sz, none⟩)) := y_index ho hx hi ht ⟨by omega, by omega⟩
theorem y_indexA {t g off len sz el : Nat} {m : Int} {k : IntKind} {x i : Operand} (ho : o.op = .indexAddr t x i) (hx : ev e x = some (.pointer (some ⟨g, off, none⟩))) (hi : ev e i = some (.int k m)) (ht : arrElem P t = some (len, el, sz)) (h0 : 0 ≤ m ∧ m < len) :
    Y P e o w (.pointer (some ⟨g, off + m.toNat * sz, none⟩)) := fun ρ h => by
  unfold arrElem at ht
  split at ht
  · rename_i el' n' hu
    split at ht
    · rename_i i' hi'
      simp only [Option.some.injEq, Prod.mk.injEq] at ht
      obtain ⟨rfl, rfl, rfl⟩ := ht
      unfold execOp
      simp [ho, h _ _ hx, h _ _ hi, Instr.indexAt, asIntOf, run_underlying hu, Instr.sureAddr, h0.1, h0.2, sizeOf, typeInfo, hi', Addr.add_mid]
    · cases ht
  · cases ht
theorem y_len {t n c el sz : Nat} {x : Operand} {A : Option Addr} (ho : o.op = .call { callee := .builtin .len, args := #[x], argTypes := #[t] }) (hx : ev e x = some (.slice A n c)) (ht : sliceElem P t = some (el, sz)) : Y P e o w (.int .i64 (n : Int)) := fun ρ h => by
  unfold sliceElem at ht
  split at ht
  · rename_i el' hu
    unfold execOp
    simp [ho, h _ _ hx, resolve, invoke, builtin, Builtin.len_, run_underlying hu, goInt]
  · cases ht
theorem y_arrayAt {t g off len cap sz el n : Nat} {x : Operand} (ho : o.op = .sliceToArrayPointer t x) (hx : ev e x = some (.slice (some ⟨g, off, none⟩) len cap)) (ht : arrElem P t = some (n, el, sz)) (h0 : n ≤ len) : Y P e o w (.pointer (some ⟨g, off, none⟩)) := fun ρ h => by
  unfold arrElem at ht
  split at ht
  · rename_i el' n' hu
    split at ht
    · simp only [Option.some.injEq, Prod.mk.injEq] at ht
      obtain ⟨rfl, rfl, rfl⟩ := ht
      unfold execOp
      simp [ho, h _ _ hx, Instr.arrayAt, run_underlying hu, Nat.not_lt.2 h0]
    · cases ht
  · cases ht
/-- x[:hi] of an array behind a pointer. -/
theorem y_sliceArr {t g off sz el n : Nat} {m : Int} {k : IntKind} {x i : Operand} (ho : o.op = .slice t x none (some i) none) (hx : ev e x = some (.pointer (some ⟨g, off, none⟩))) (hi : ev e i = some (.int k m)) (ht : arrElem P t = some (n, el, sz)) (h0 : 0 ≤ m ∧ m ≤ n) :
    Y P e o w (.slice (some ⟨g, off, none⟩) m.toNat n) := fun ρ h => by
  unfold arrElem at ht
  split at ht
  · rename_i el' n' hu
    split at ht
    · rename_i i' hi'
      simp only [Option.some.injEq, Prod.mk.injEq] at ht
      obtain ⟨rfl, rfl, rfl⟩ := ht
      unfold execOp
      simp [ho, h _ _ hx, h _ _ hi, Instr.sliceAt, run_underlying hu, Instr.sureAddr, Instr.sliceBounds, Instr.sliceBound, asIntOf, h0.1, h0.2, sizeOf, typeInfo, hi', Addr.add_zero']
    · cases ht
  · cases ht
/-- x[:] of an array behind a pointer. -/
theorem y_sliceAll {t g off sz el n : Nat} {x : Operand} (ho : o.op = .slice t x none none none) (hx : ev e x = some (.pointer (some ⟨g, off, none⟩))) (ht : arrElem P t = some (n, el, sz)) :
    Y P e o w (.slice (some ⟨g, off, none⟩) n n) := fun ρ h => by
  unfold arrElem at ht
  split at ht
  · rename_i el' n' hu
    split at ht
    · rename_i i' hi'
      simp only [Option.some.injEq, Prod.mk.injEq] at ht
      obtain ⟨rfl, rfl, rfl⟩ := ht
      unfold execOp
      simp [ho, h _ _ hx, Instr.sliceAt, run_underlying hu, Instr.sureAddr, Instr.sliceBounds, sizeOf, typeInfo, hi', Addr.add_zero']
    · cases ht
  · cases ht
/-- x[:hi] of a slice. -/
theorem y_sliceTo {t len cap sz el : Nat} {A : Option Addr} {m : Int} {k : IntKind} {x i : Operand} (ho : o.op = .slice t x none (some i) none) (hx : ev e x = some (.slice A len cap)) (hi : ev e i = some (.int k m)) (ht : sliceElem P t = some (el, sz)) (h0 : 0 ≤ m ∧ m ≤ cap) :
    Y P e o w (.slice A m.toNat cap) := fun ρ h => by
  unfold sliceElem at ht
  split at ht
  · rename_i el' hu
    split at ht
    · rename_i i' hi'
      simp only [Option.some.injEq, Prod.mk.injEq] at ht
      obtain ⟨rfl, rfl⟩ := ht
      have ha : (A.map fun x : Addr => x.add 0) = A := by cases A <;> simp [Addr.add_zero']
      unfold execOp
      simp [ho, h _ _ hx, h _ _ hi, Instr.sliceAt, Instr.slice, run_underlying hu, Instr.sliceBounds, Instr.sliceBound, asIntOf, h0.1, h0.2, sizeOf, typeInfo, hi', ha]
    · cases ht
  · cases ht
/-- A row or a struct is loaded out of a block. -/
theorem y_loadB {t g off n tb : Nat} {x : Operand} {d : TypeDesc} {cs : List Value} (ho : o.op = .load t x) (hx : ev e x = some (.pointer (some ⟨g, off, none⟩))) (hb : Blk w g tb cs) (hu : P.underlying t = some d) (hd : d.isRow = true) (hi : (P.info? t).map (·.size) = some n) (hl : off + n ≤ cs.length) :
    Y P e o w (.agg ((cs.drop off).take n).toArray) := fun ρ h => by
  obtain ⟨v, w', hr, rfl, rfl⟩ := does_load (P := P) (ρ := ρ) t x ho g off n tb cs d (h _ _ hx) hb hu hd hi hl
  rcases hr with hr | ⟨_, hv⟩
  · exact hr
  · cases hv
/-- Operations that only compute. -/
def pureOp (F : Nat → Nat → Option Nat) (e : Env) : Op → Option Value
  | .move x => ev e x
  | .assign x => ev e x
  | .pick c x y => match ev e c with
    | some (.bool true) => ev e x
    | some (.bool false) => ev e y
    | _ => none
  | .nilCheck x => match ev e x with
    | some (.pointer (some p)) => some (.pointer (some p))
    | _ => none
  | .fieldAddr s x f => match ev e x, F s f with
    | some (.pointer (some ⟨g, off, none⟩)), some k => some (.pointer (some ⟨g, off + k, none⟩))
    | _, _ => none
  | .extract x i => match ev e x with
    | some (.tuple vs) => vs[i]?
    | _ => none
  | .unOp u _ x => match u, ev e x with
    | .not, some (.bool b) => some (.bool (!b))
    | _, _ => none
  | _ => none
theorem y_pure {F : Nat → Nat → Option Nat} {v : Value} (hF : ∀ s f k, F s f = some k → fieldOff P s f = some k) (h : pureOp F e o.op = some v) : Y P e o w v := by
  cases ho : o.op <;> rw [ho] at h <;> simp only [pureOp] at h
  all_goals first
    | exact y_move ho h
    | exact y_assign ho h
    | cases h
    | skip
  · split at h
    · rename_i hc; exact y_pick_t ho hc h
    · rename_i hc; exact y_pick_f ho hc h
    · cases h
  · split at h
    · rename_i hc; simp only [Option.some.injEq] at h; subst h; exact y_nil ho hc
    · cases h
  · split at h
    · rename_i hc; simp only [Option.some.injEq] at h; subst h; exact y_not ho hc
    · cases h
  · split at h
    · rename_i hc hf; simp only [Option.some.injEq] at h; subst h; exact y_field ho hc (hF _ _ _ hf)
    · cases h
  · split at h
    · rename_i hc; exact y_extract ho hc h
    · cases h
theorem yc_call {f : FuncId} {xs : List Operand} {vs : List Value} {ts : Array TypeId} (ho : o.op = .call { callee := .value (.func f), args := xs.toArray, argTypes := ts }) (hx : evs e xs = some vs) (hc : ∀ (as : Array Value) (w : World), (callFunc f as).run P w = .ok (.enter f as) w) : YC P e o w f vs.toArray := fun ρ h => by
  have := h.all hx
  unfold execOp
  simp [ho, resolve, h (.func f) _ rfl, Deferred.ofValue, invoke, hc, this]
theorem yc_value {f : FuncId} {x : Operand} {cs : List Value} {xs : List Operand} {vs : List Value} {ts : Array TypeId} (ho : o.op = .call { callee := .value x, args := xs.toArray, argTypes := ts }) (hf : ev e x = some (.func (.func f) #[] cs.toArray)) (hx : evs e xs = some vs) (hc : ∀ (as : Array Value) (w : World), (callFunc f as).run P w = .ok (.enter f as) w) : YC P e o w f (vs ++ cs).toArray := fun ρ h => by
  have := h.all hx
  unfold execOp
  simp [ho, resolve, h _ _ hf, Deferred.ofValue, invoke, hc, this]
theorem y_convInt {s d : Nat} {k k' : IntKind} {m : Int} {x : Operand} {ds : TypeDesc} (ho : o.op = .convert s d x) (hx : ev e x = some (.int k m)) (hs : P.underlying s = some ds) (hd : P.underlying d = some (.int k')) {r : Int} (hr : k'.wrap m = r) : Y P e o w (.int k' r) := fun ρ h => by
  subst hr
  unfold execOp
  simp [ho, h _ _ hx, convert, run_underlying hs, run_underlying hd, Conv.intToInt]
theorem run_equal_ptr {t el : Nat} (hu : P.underlying t = some (.pointer el)) (a : Option Addr) : (Op.equal t (.pointer a) (.pointer none)).run P w = .ok a.isNone w := by
  unfold Op.equal Op.maxDepth Op.equalIn
  cases a <;> simp [run_underlying hu]
theorem y_eqlNil {t t' el : Nat} {a : Option Addr} {x y : Operand} (ho : o.op = .binOp .eql t x y t') (hx : ev e x = some (.pointer a)) (hy : ev e y = some (.pointer none)) (hu : ptrElem P t = some el) : Y P e o w (.bool a.isNone) := fun ρ h => by
  unfold execOp; simp [ho, h _ _ hx, h _ _ hy, eqGuard_at_pointer, binOp, run_equal_ptr (ptrElem_ok hu)]
theorem y_neqNil {t t' el : Nat} {a : Option Addr} {x y : Operand} (ho : o.op = .binOp .neq t x y t') (hx : ev e x = some (.pointer a)) (hy : ev e y = some (.pointer none)) (hu : ptrElem P t = some el) : Y P e o w (.bool (!a.isNone)) := fun ρ h => by
  unfold execOp; simp [ho, h _ _ hx, h _ _ hy, eqGuard_at_pointer, binOp, run_equal_ptr (ptrElem_ok hu)]
theorem run_equal_bool {t : Nat} (hu : P.underlying t = some .bool) (a b : Bool) : (Op.equal t (.bool a) (.bool b)).run P w = .ok (a == b) w := by
  unfold Op.equal Op.maxDepth Op.equalIn
  simp [run_underlying hu]
theorem y_eqlBool {t t' : Nat} {a b : Bool} {x y : Operand} (ho : o.op = .binOp .eql t x y t') (hx : ev e x = some (.bool a)) (hy : ev e y = some (.bool b)) (hu : P.underlying t = some .bool) : Y P e o w (.bool (a == b)) := fun ρ h => by
  unfold execOp; simp [ho, h _ _ hx, h _ _ hy, eqGuard_at_bool, binOp, run_equal_bool hu]
theorem y_neqBool {t t' : Nat} {a b : Bool} {x y : Operand} (ho : o.op = .binOp .neq t x y t') (hx : ev e x = some (.bool a)) (hy : ev e y = some (.bool b)) (hu : P.underlying t = some .bool) : Y P e o w (.bool (!(a == b))) := fun ρ h => by
  unfold execOp; simp [ho, h _ _ hx, h _ _ hy, eqGuard_at_bool, binOp, run_equal_bool hu]
end
end Go.Proofs.YtklciidffdnglaaDoor
