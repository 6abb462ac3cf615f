/- What came in, for the laws of the disk: a slice of writes, a plan. -/
import Derived.Test.YtbfeailalhddgaaRows
import Derived.Test.YtbfeailalhddgaaRow2
import Derived.Test.YtbfeailalhddgaaDiskLaw4
import Derived.SizedLaws
import Derived.Lib.SmallJoins
namespace Go.Proofs.Ytbfeailalhddgaa
open Go.ChangeShapes Go.WideShapes Go.ChangeAt Go.RowKit Go.Deep Go.Joins

theorem own : ownKnob Try.prog.godebug = none := by kernel_rfl
theorem laidOut : laidOutB Try.prog = true := by kernel_rfl
theorem cells_put : Try.prog.cellsOf 34 = 3 := by kernel_rfl
theorem cells_u8 : Try.prog.cellsOf 5 = 1 := by kernel_rfl
theorem cells_bool : Try.prog.cellsOf 4 = 1 := by kernel_rfl
theorem bytes_bool : Try.prog.bytesOf 4 = 1 := by kernel_rfl
section
variable {H : Type} {enc : TypeId × Value → H} {w : World}
theorem read_put {r : List Value} {d : DataW H} (h : Reads enc Try.prog w 34 r d) : ∃ p : Put, r = prow p := by
  obtain ⟨n, p, h⟩ := h
  obtain ⟨y0, y1, y2, m, _, hl, h0, h1, h2⟩ := trod_struct3 Try.underlying34 h
  rw [cells_put] at hl
  simp only [cells_u8, cells_bool] at h0 h1 h2
  obtain ⟨a, ha, _, wa⟩ := DataW.trod_int Try.underlying5 h0
  obtain ⟨b, hb, _, wb⟩ := DataW.trod_int Try.underlying5 h1
  obtain ⟨c, hc, _⟩ := DataW.trod_bool Try.underlying4 h2
  match r, hl with
  | [r0, r1, r2], _ =>
    obtain rfl : r0 = _ := by simpa using ha
    obtain rfl : r1 = _ := by simpa using hb
    obtain rfl : r2 = _ := by simpa using hc
    exact ⟨(UInt8.ofNat a.toNat, UInt8.ofNat b.toNat, c), by rw [u8_of wa, u8_of wb]; rfl⟩
theorem read_bool {r : List Value} {d : DataW H} (h : Reads enc Try.prog w 4 r d) : ∃ b : Bool, r = [.bool b] := by
  obtain ⟨n, p, h⟩ := h
  obtain ⟨c, hc, _⟩ := DataW.trod_bool Try.underlying4 h
  exact ⟨c, hc⟩
/-- A slice of writes that came in. -/
theorem in_puts {A : Option Addr} {len cap fuel : Nat} {x : DataW H × List MemPlace} (h : DataW.trod enc Try.prog w 0 (fun _ => true) true fuel 22 [.slice A len cap] = some x) :
    ∃ l : List Put, l.length = len ∧ Rd w A (l.length * 3) (flatP l) := by
  obtain ⟨rows, D, hl, _, _, hr, _, _, _, hx, _⟩ := rd_slice Try.underlying22 cells_put (by omega) h
  obtain ⟨l, rfl⟩ := all_map prow rows (fun r hr => by
    obtain ⟨i, hi⟩ := List.getElem?_of_mem hr
    obtain ⟨d, _, hd⟩ := hx i r hi
    exact read_put hd)
  rw [List.length_map] at hl
  subst hl
  exact ⟨l, rfl, hr⟩
/-- A slice of bools that came in. -/
theorem in_bools {A : Option Addr} {len cap fuel : Nat} {x : DataW H × List MemPlace} (h : DataW.trod enc Try.prog w 0 (fun _ => true) true fuel 23 [.slice A len cap] = some x) :
    ∃ l : List Bool, l.length = len ∧ Rd w A l.length (boolsV l) ∧ (A = none → cap = 0) ∧ (x.1 = .nil ∧ len = 0 ∨ ∃ D sp, x.1 = .slice D sp ∧ D.length = len) := by
  obtain ⟨rows, D, hl, hD, _, hr, _, _, hn, hx, hd⟩ := rd_slice Try.underlying23 cells_bool (by omega) h
  obtain ⟨l, rfl⟩ := all_map (fun b => [Value.bool b]) rows (fun r hr => by
    obtain ⟨i, hi⟩ := List.getElem?_of_mem hr
    obtain ⟨d, _, hd⟩ := hx i r hi
    exact read_bool hd)
  rw [List.length_map] at hl
  subst hl
  refine ⟨l, rfl, ?_, hn, ?_⟩
  · have e : (l.map fun b => [Value.bool b]).flatten = boolsV l := by
      unfold boolsV
      generalize l = l'
      induction l' with
      | nil => rfl
      | cons b l ih => rw [List.map_cons, List.flatten_cons, ih]; rfl
    rw [e, Nat.mul_one] at hr
    exact hr
  · rcases hd with ⟨h1, h2, _⟩ | ⟨sp, h1, _⟩
    · exact .inl ⟨h1, h2⟩
    · exact .inr ⟨D, sp, h1, hD⟩
/-- A plan that came in. -/
theorem in_plan {r : Reach} {b0 : Nat} {v : Value} {d : DataW H} {p : List MemPlace} (hv : Value.okWide Try.prog w r b0 25 v) (h : DataW.Trod enc Try.prog w 0 (fun _ => true) true 25 v d p) :
    ∃ kA kc keep torn cut, v = .agg #[.slice kA (keep : List Bool).length kc, .int .i64 torn, .int .i64 cut] ∧ Rd w kA keep.length (boolsV keep) ∧ (kA = none → kc = 0) ∧ (∃ x y z, d = .agg [x, y, z] ∧ (keep.length = 0 ∨ ∃ D sp, x = .slice D sp ∧ D.length = keep.length)) := by
  obtain ⟨v0, v1, v2, y0, y1, y2, n, rfl, rfl, _, h0, h1, h2⟩ := open_agg3 Try.underlying25 (by kernel_rfl) (by kernel_rfl) hv h
  obtain ⟨t, ht, _, _⟩ := DataW.trod_int Try.underlying3 h1
  obtain ⟨c, hc, _, _⟩ := DataW.trod_int Try.underlying3 h2
  obtain ⟨A, len, cap, rfl⟩ : ∃ A len cap, v0 = .slice A len cap := by
    rcases open_slice Try.underlying23 h0 with ⟨hcs, _⟩ | ⟨a, len, cap, m, n, D, Pl, hcs, _⟩
    · exact ⟨none, 0, 0, by simpa using hcs⟩
    · exact ⟨some a, len, cap, by simpa using hcs⟩
  obtain ⟨keep, rfl, hr, hn, hd⟩ := in_bools h0
  refine ⟨A, cap, keep, t, c, ?_, hr, hn, _, _, _, rfl, ?_⟩
  · obtain rfl : v1 = _ := by simpa using ht
    obtain rfl : v2 = _ := by simpa using hc
    rfl
  · rcases hd with ⟨_, h⟩ | h
    · exact .inl h
    · exact .inr h
end
end Go.Proofs.Ytbfeailalhddgaa
