/- What came in, for the law PagerPlays: a slice of steps. No condition. -/
import Derived.Test.YthdlljlcffokbaaDoorZb8
import Derived.Test.YthdlljlcffokbaaDoorZPlaysL
import Derived.Lib.SmallJoins
namespace Go.Proofs.YthdlljlcffokbaaDoor
open Go.ChangeShapes Go.WideShapes Go.ChangeAt Go.RowKit Go.Deep Go.Joins

theorem cells_stp : Tryd.prog.cellsOf 66 = 4 := by kernel_rfl
theorem cells_int : Tryd.prog.cellsOf 3 = 1 := by kernel_rfl
theorem cells_str : Tryd.prog.cellsOf 9 = 1 := by kernel_rfl
theorem cells_ints : Tryd.prog.cellsOf 55 = 1 := by kernel_rfl
theorem all_mapS {α β : Type} (f : β → α) (Q : β → Prop) : ∀ (rows : List α), (∀ r ∈ rows, ∃ p, r = f p ∧ Q p) → ∃ l : List β, rows = l.map f ∧ ∀ x ∈ l, Q x
  | [], _ => ⟨[], rfl, fun _ h => by cases h⟩
  | r :: rows, h => by
    obtain ⟨p, hp, hq⟩ := h r (by simp)
    obtain ⟨l, hl, hl'⟩ := all_mapS f Q rows (fun r hr => h r (by simp [hr]))
    exact ⟨p :: l, by rw [hp, hl]; rfl, fun x hx => by
      rcases List.mem_cons.1 hx with rfl | hx
      · exact hq
      · exact hl' x hx⟩
section
variable {H : Type} {enc : TypeId × Value → H} {w : World}
theorem read_stp {r : List Value} {d : DataW H} (h : Reads enc Tryd.prog w 66 r d) : ∃ t : Stp, r = t.row ∧ Rd w t.A t.l.length (iv t.l) := by
  obtain ⟨n, p, h⟩ := h
  obtain ⟨y0, y1, y2, y3, m, _, hl, h0, h1, h2, h3⟩ := trod_struct4 Tryd.underlying66 h
  rw [cells_stp] at hl
  simp only [cells_int, cells_str, cells_ints] at h0 h1 h2 h3
  obtain ⟨a, ha, _, _⟩ := DataW.trod_int Tryd.underlying3 h0
  obtain ⟨b, hb, _, _⟩ := DataW.trod_int Tryd.underlying3 h1
  obtain ⟨s, hs, _, _⟩ := DataW.trod_string Tryd.underlying9 h2
  match r, hl with
  | [r0, r1, r2, r3], _ =>
    obtain rfl : r0 = _ := by simpa using ha
    obtain rfl : r1 = _ := by simpa using hb
    obtain rfl : r2 = _ := by simpa using hs
    have h3 : DataW.trod enc Tryd.prog w 0 (fun _ => true) true m 55 [r3] = some y3 := h3
    obtain ⟨A, len, cap, rfl⟩ : ∃ A len cap, r3 = .slice A len cap := by
      rcases open_slice Tryd.underlying55 h3 with ⟨hcs, _⟩ | ⟨a, len, cap, m, n, D, Pl, hcs, _⟩
      · exact ⟨none, 0, 0, by simpa using hcs⟩
      · exact ⟨some a, len, cap, by simpa using hcs⟩
    obtain ⟨l, rfl, hr, _⟩ := in_ints (d := y3.1) (p := y3.2) ⟨m, h3⟩
    exact ⟨⟨a, b, s.data.toList, A, cap, l⟩, by rw [str_of]; rfl, hr⟩
/-- A slice of steps that came in. -/
theorem in_stps {A : Option Addr} {len cap : Nat} {d : DataW H} {p : List MemPlace} (h : DataW.Trod enc Tryd.prog w 0 (fun _ => true) true 59 (.slice A len cap) d p) :
    ∃ l : List Stp, l.length = len ∧ Rd w A (l.length * 4) (stps l) ∧ ∀ t ∈ l, Rd w t.A t.l.length (iv t.l) := by
  obtain ⟨fuel, h⟩ := h
  obtain ⟨rows, D, hl, _, _, hr, _, _, _, hx, _⟩ := rd_slice Tryd.underlying59 cells_stp (by omega) h
  obtain ⟨l, rfl, hq⟩ := all_mapS Stp.row (fun t => Rd w t.A t.l.length (iv t.l)) rows (fun r hr => by
    obtain ⟨i, hi⟩ := List.getElem?_of_mem hr
    obtain ⟨d, _, hd⟩ := hx i r hi
    exact read_stp hd)
  rw [List.length_map] at hl
  subst hl
  exact ⟨l, rfl, hr, hq⟩
end
end Go.Proofs.YthdlljlcffokbaaDoor
