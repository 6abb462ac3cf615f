/- What came in, for the law PagerCrash: a slice of transactions, a plan. No condition. -/
import Derived.Test.YthdlljlcffokbaaDoorZb8
import Derived.Test.YthdlljlcffokbaaDoorZCrash
import Derived.Lib.SmallJoins
namespace Go.Proofs.YthdlljlcffokbaaDoor
open Go.ChangeShapes Go.WideShapes Go.ChangeAt Go.RowKit Go.Deep Go.Joins

theorem cells_tx : Tryd.prog.cellsOf 41 = 4 := by kernel_rfl
theorem cells_u8 : Tryd.prog.cellsOf 5 = 1 := by kernel_rfl
theorem cells_bool : Tryd.prog.cellsOf 4 = 1 := by kernel_rfl
theorem cells_bs : Tryd.prog.cellsOf 39 = 1 := by kernel_rfl
theorem bytes_bool : Tryd.prog.bytesOf 4 = 1 := by kernel_rfl
section
variable {H : Type} {enc : TypeId × Value → H} {w : World}
theorem read_tx {r : List Value} {d : DataW H} (h : Reads enc Tryd.prog w 41 r d) : ∃ t : Txr, r = t.row ∧ Rd w t.A t.dr.length (bvs t.dr) := by
  obtain ⟨n, p, h⟩ := h
  obtain ⟨y0, y1, y2, y3, m, _, hl, h0, h1, h2, h3⟩ := trod_struct4 Tryd.underlying41 h
  rw [cells_tx] at hl
  simp only [cells_u8, cells_bool, cells_bs] at h0 h1 h2 h3
  obtain ⟨a, ha, _, wa⟩ := DataW.trod_int Tryd.underlying5 h0
  obtain ⟨b, hb, _, wb⟩ := DataW.trod_int Tryd.underlying5 h1
  obtain ⟨c, hc, _⟩ := DataW.trod_bool Tryd.underlying4 h3
  match r, hl with
  | [r0, r1, r2, r3], _ =>
    obtain rfl : r0 = _ := by simpa using ha
    obtain rfl : r1 = _ := by simpa using hb
    obtain rfl : r3 = _ := by simpa using hc
    have h2 : DataW.trod enc Tryd.prog w 0 (fun _ => true) true m 39 [r2] = some y2 := h2
    obtain ⟨A, len, cap, rfl⟩ : ∃ A len cap, r2 = .slice A len cap := by
      rcases open_slice Tryd.underlying39 h2 with ⟨hcs, _⟩ | ⟨a, len, cap, m, n, D, Pl, hcs, _⟩
      · exact ⟨none, 0, 0, by simpa using hcs⟩
      · exact ⟨some a, len, cap, by simpa using hcs⟩
    obtain ⟨l, rfl, hr⟩ := in_bytes (d := y2.1) (p := y2.2) ⟨m, h2⟩
    exact ⟨⟨UInt8.ofNat a.toNat, UInt8.ofNat b.toNat, A, cap, l, c⟩, by rw [u8_of wa, u8_of wb]; rfl, hr⟩
theorem all_mapT {α β : Type} (f : β → α) (Q : β → Prop) : ∀ (rows : List α), (∀ r ∈ rows, ∃ p, r = f p ∧ Q p) → ∃ l : List β, rows = l.map f ∧ ∀ x ∈ l, Q x
  | [], _ => ⟨[], rfl, fun _ h => by cases h⟩
  | r :: rows, h => by
    obtain ⟨p, hp, hq⟩ := h r (by simp)
    obtain ⟨l, hl, hl'⟩ := all_mapT f Q rows (fun r hr => h r (by simp [hr]))
    exact ⟨p :: l, by rw [hp, hl]; rfl, fun x hx => by
      rcases List.mem_cons.1 hx with rfl | hx
      · exact hq
      · exact hl' x hx⟩
/-- A slice of transactions that came in. -/
theorem in_txs {A : Option Addr} {len cap : Nat} {d : DataW H} {p : List MemPlace} (h : DataW.Trod enc Tryd.prog w 0 (fun _ => true) true 22 (.slice A len cap) d p) :
    ∃ l : List Txr, l.length = len ∧ Rd w A (l.length * 4) (txs l) ∧ ∀ t ∈ l, Rd w t.A t.dr.length (bvs t.dr) := by
  obtain ⟨fuel, h⟩ := h
  obtain ⟨rows, D, hl, _, _, hr, _, _, _, hx, _⟩ := rd_slice Tryd.underlying22 cells_tx (by omega) h
  obtain ⟨l, rfl, hq⟩ := all_mapT Txr.row (fun t => Rd w t.A t.dr.length (bvs t.dr)) rows (fun r hr => by
    obtain ⟨i, hi⟩ := List.getElem?_of_mem hr
    obtain ⟨d, _, hd⟩ := hx i r hi
    exact read_tx hd)
  rw [List.length_map] at hl
  subst hl
  exact ⟨l, rfl, hr, hq⟩
theorem read_bool {r : List Value} {d : DataW H} (h : Reads enc Tryd.prog w 4 r d) : ∃ b : Bool, r = [.bool b] := by
  obtain ⟨n, p, h⟩ := h
  obtain ⟨c, hc, _⟩ := DataW.trod_bool Tryd.underlying4 h
  exact ⟨c, hc⟩
/-- A slice of bools that came in. -/
theorem in_bools {A : Option Addr} {len cap fuel : Nat} {x : DataW H × List MemPlace} (h : DataW.trod enc Tryd.prog w 0 (fun _ => true) true fuel 23 [.slice A len cap] = some x) :
    ∃ l : List Bool, l.length = len ∧ Rd w A l.length (boolsV l) ∧ (A = none → cap = 0) ∧ (x.1 = .nil ∧ len = 0 ∨ ∃ D sp, x.1 = .slice D sp ∧ D.length = len) := by
  obtain ⟨rows, D, hl, hD, _, hr, _, _, hn, hx, hd⟩ := rd_slice Tryd.underlying23 cells_bool (by omega) h
  obtain ⟨l, rfl⟩ := all_map (fun b => [Value.bool b]) rows (fun r hr => by
    obtain ⟨i, hi⟩ := List.getElem?_of_mem hr
    obtain ⟨d, _, hd⟩ := hx i r hi
    exact read_bool hd)
  rw [List.length_map] at hl
  subst hl
  refine ⟨l, rfl, ?_, hn, ?_⟩
  · rw [flat_one Value.bool, Nat.mul_one] at hr
    exact hr
  · rcases hd with ⟨h1, h2, _⟩ | ⟨sp, h1, _⟩
    · exact .inl ⟨h1, h2⟩
    · exact .inr ⟨D, sp, h1, hD⟩
set_option maxRecDepth 100000 in
/-- A plan that came in. -/
theorem in_plan {r : Reach} {b0 : Nat} {v : Value} {d : DataW H} {p : List MemPlace} (hv : Value.okWide Tryd.prog w r b0 25 v) (h : DataW.Trod enc Tryd.prog w 0 (fun _ => true) true 25 v d p) :
    ∃ kA kc keep torn cut, v = .agg #[.slice kA (keep : List Bool).length kc, .int .i64 torn, .int .i64 cut] ∧ Rd w kA keep.length (boolsV keep) ∧ (kA = none → kc = 0) ∧ (∃ x y z, d = .agg [x, y, z] ∧ (keep.length = 0 ∨ ∃ D sp, x = .slice D sp ∧ D.length = keep.length)) := by
  obtain ⟨v0, v1, v2, y0, y1, y2, n, rfl, rfl, _, h0, h1, h2⟩ := open_agg3 Tryd.underlying25 (by kernel_rfl) (by kernel_rfl) hv h
  obtain ⟨t, ht, _, _⟩ := DataW.trod_int Tryd.underlying3 h1
  obtain ⟨c, hc, _, _⟩ := DataW.trod_int Tryd.underlying3 h2
  obtain ⟨A, len, cap, rfl⟩ : ∃ A len cap, v0 = .slice A len cap := by
    rcases open_slice Tryd.underlying23 h0 with ⟨hcs, _⟩ | ⟨a, len, cap, m, n, D, Pl, hcs, _⟩
    · exact ⟨none, 0, 0, by simpa using hcs⟩
    · exact ⟨some a, len, cap, by simpa using hcs⟩
  obtain ⟨keep, rfl, hr, hn, hd⟩ := in_bools h0
  refine ⟨A, cap, keep, t, c, ?_, hr, hn, _, _, _, rfl, ?_⟩
  · obtain rfl : v1 = _ := by simpa using ht
    obtain rfl : v2 = _ := by simpa using hc
    rfl
  · rcases hd with ⟨_, h⟩ | h
    · exact .inl h
    · exact .inr h
end
theorem plan_sized {H : Type} {D sp : List (DataW H)} {y z : DataW H} (h : ∀ n ∈ DataW.weights Tryd.prog 25 (.agg [.slice D sp, y, z]), n ≤ reachBytes) : (D.length + sp.length) * Tryd.prog.bytesOf 4 ≤ reachBytes := by
  refine h _ ?_
  unfold DataW.weights
  rw [Tryd.underlying25]
  simp only [List.map_cons, List.map_nil, DataW.weightsEach]
  refine List.mem_append_left _ ?_
  unfold DataW.weights
  rw [Tryd.underlying23]
  exact List.mem_cons_self
end Go.Proofs.YthdlljlcffokbaaDoor
