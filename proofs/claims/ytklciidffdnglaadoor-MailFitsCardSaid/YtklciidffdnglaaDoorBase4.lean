/- make, over any program. No condition. -/
import Derived.Test.YtklciidffdnglaaDoorBase3
import Derived.Laws.MakeOwn
namespace Go.Proofs.YtklciidffdnglaaDoor
open Go.RowKit

section
variable {P : Program} {ρ : Operand → Value} {o : Oper} {w : World}
/-- make([]T, n): a new row of zeros. -/
theorem does_make (t : TypeId) (l c : Operand) (ho : o.op = .makeSlice t l c) (e : TypeId) (z : Value) (size bytes n : Nat) (ht : P.underlying t = some (.slice e))
    (hi : (P.info? e).map (fun i => (i.zero, i.size, i.bytes)) = some (some z, size, bytes)) (hl : ρ l = .int .i64 (n : Int)) (hc : ρ c = .int .i64 (n : Int)) (hb : bytes * n ≤ 281474976710656) (h63 : n ≤ 9223372036854775807) :
    Does P ρ o w fun v w' => ∃ g, v = .slice (some ⟨g, 0, none⟩) n n ∧ w.heap.size ≤ g ∧ g < w'.heap.size ∧ Blk w' g e (madeCells z.cells (n * size)).toList ∧ Fr0 w w' := by
  cases hq : P.info? e with
  | none => simp [hq] at hi
  | some i =>
    obtain ⟨hz, hsize, hby⟩ : i.zero = some z ∧ i.size = size ∧ i.bytes = bytes := by simpa [hq] using hi
    subst hsize; subst hby
    have hb' : (i.bytes : Int) * (n : Int) ≤ 281474976710656 := by
      have h : ((i.bytes * n : Nat) : Int) ≤ 281474976710656 := by omega
      rwa [Int.natCast_mul] at h
    have hr := run_make (P := P) w t e i z ht hq hz .i64 .i64 (n : Int) (n : Int) (by omega) (Int.le_refl _) hb' (by omega)
    simp only [Int.toNat_natCast] at hr
    refine ⟨_, w.alloc (.cells (madeCells z.cells (n * i.size)) e), .inl ?_, w.heap.size, rfl, Nat.le_refl _, by simp, ?_, Fr.refl.alloc _⟩
    · unfold execOp
      simp only [ho, hl, hc, Sem.run_bind, hr, Result.andThen_ok, Sem.run_pure]
    · have := Blk.new w e (madeCells z.cells (n * i.size)).toList
      rwa [Array.toArray_toList] at this
/-- .. of elements of one cell. -/
theorem does_make1 (t : TypeId) (l c : Operand) (ho : o.op = .makeSlice t l c) (e : TypeId) (z : Value) (bytes n : Nat) (ht : P.underlying t = some (.slice e))
    (hi : (P.info? e).map (fun i => (i.zero, i.size, i.bytes)) = some (some z, 1, bytes)) (hzc : z.cells = #[z]) (hl : ρ l = .int .i64 (n : Int)) (hc : ρ c = .int .i64 (n : Int)) (hb : bytes * n ≤ 281474976710656) (h63 : n ≤ 9223372036854775807) :
    Does P ρ o w fun v w' => ∃ g, v = .slice (some ⟨g, 0, none⟩) n n ∧ w.heap.size ≤ g ∧ g < w'.heap.size ∧ Blk w' g e (List.replicate n z) ∧ Fr0 w w' := by
  have h := does_make (w := w) t l c ho e z 1 bytes n ht hi hl hc hb h63
  rwa [hzc, Nat.mul_one, toList_madeCells_one] at h
end
end Go.Proofs.YtklciidffdnglaaDoor
