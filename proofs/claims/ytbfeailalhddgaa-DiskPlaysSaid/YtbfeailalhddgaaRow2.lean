/- What came in, opened: slices of whatever elements as rows of cells. Over any program. No condition. -/
import Derived.Test.YtbfeailalhddgaaFlat
import Derived.Deep.Slices
import Derived.Deep.Strs
import Derived.ProofKit
import Derived.OpenShut
namespace Go.Proofs.Ytbfeailalhddgaa
open Go.ChangeShapes Go.WideShapes Go.ChangeAt Go.RowKit Go.Deep

section
variable {H : Type} {enc : TypeId × Value → H} {P : Program} {w : World}
/-- An element of a slice reads as data. -/
def Reads (enc : TypeId × Value → H) (P : Program) (w : World) (t : TypeId) (r : List Value) (d : DataW H) : Prop := ∃ n p, DataW.trod enc P w 0 (fun _ => true) true n t r = some (d, p)
theorem rd_slice {t e sz len cap fuel : Nat} {A : Option Addr} {x : DataW H × List MemPlace} (ht : P.underlying t = some (.slice e)) (hc : P.cellsOf e = sz) (hpos : 0 < sz)
    (h : DataW.trod enc P w 0 (fun _ => true) true fuel t [.slice A len cap] = some x) :
    ∃ (rows : List (List Value)) (D : List (DataW H)), rows.length = len ∧ D.length = len ∧ All sz rows ∧ Rd w A (len * sz) rows.flatten ∧ len ≤ cap ∧ cap ≤ maxLen ∧ (A = none → cap = 0) ∧
      (∀ (i : Nat) (r : List Value), rows[i]? = some r → ∃ d, D[i]? = some d ∧ Reads enc P w e r d) ∧ ((x.1 = .nil ∧ len = 0 ∧ cap = 0) ∨ ∃ sp, x.1 = .slice D sp ∧ sp.length = cap - len) := by
  rcases open_slice ht h with ⟨hcs, rfl⟩ | ⟨a, len', cap', m, n, D, Pl, hcs, _, hl, hm, hmm, rfl, hx⟩
  · simp only [List.cons.injEq, Value.slice.injEq, and_true] at hcs
    obtain ⟨rfl, rfl, rfl⟩ := hcs
    exact ⟨[], [], rfl, rfl, All.nil, by rw [Nat.zero_mul]; exact Rd.nil, Nat.le_refl _, Nat.zero_le _, fun _ => rfl, fun i r hr => by simp at hr, .inl ⟨rfl, rfl, rfl⟩⟩
  · simp only [List.cons.injEq, Value.slice.injEq, and_true] at hcs
    obtain ⟨rfl, rfl, rfl⟩ := hcs
    simp only [if_true] at hmm
    subst hmm
    obtain ⟨C, hC⟩ := choose_lt (α := List Value) (p := fun i cs => w.cells? 0 (a.add (i * P.cellsOf e)) (P.cellsOf e) = some cs ∧ DataW.trod enc P w 0 (fun _ => true) true n e cs = some (D i, Pl i)) (fun i hi => hx i hi)
    rw [hc] at hC
    have hrow : ∀ i, i < len → (C i).length = sz := fun i hi => (World.cells?_some (hC i (by omega)).1).2.1
    have hall : All sz ((List.range len).map C) := by
      intro r hr
      obtain ⟨i, hi, rfl⟩ := List.mem_map.1 hr
      exact hrow i (List.mem_range.1 hi)
    refine ⟨(List.range len).map C, (List.range len).map D, by simp, by simp, hall, ⟨by rw [flat_length hall]; simp, fun h0 => ?_⟩, hl, hm, by simp, ?_, .inr ⟨_, rfl, by simp⟩⟩
    · have hlen : 0 < len := Nat.pos_of_mul_pos_right h0
      obtain ⟨b, off, sp⟩ := a
      have hsp : sp = none := by
        have h1 := (World.cells?_some (hC 0 (by omega)).1).2.2 0 hpos
        have h2 := (World.cells?_some (hC 0 (by omega)).1).2.1
        rw [List.getElem?_eq_getElem (by omega)] at h1
        cases sp with
        | none => rfl
        | some s =>
          exfalso
          simp only [Nat.zero_mul, Addr.add, if_true, World.cell?] at h1
          split at h1 <;> simp at h1
      subst hsp
      refine ⟨b, off, rfl, fun j u hu => ?_⟩
      have hj : j < len * sz := by have := (List.getElem?_eq_some_iff.1 hu).1; rw [flat_length hall] at this; simpa using this
      have hi : j / sz < len := Nat.div_lt_of_lt_mul (by rw [Nat.mul_comm]; exact hj)
      have hjm : j % sz < sz := Nat.mod_lt _ hpos
      have hat := flat_at hall (i := j / sz) (x := C (j / sz)) (by rw [List.getElem?_map, List.getElem?_range hi]; rfl)
      have hcell := (World.cells?_some (hC (j / sz) (by omega)).1).2.2 (j % sz) hjm
      rw [← hat, List.getElem?_take_of_lt hjm, List.getElem?_drop] at hcell
      have e1 : j / sz * sz + j % sz = j := by rw [Nat.mul_comm]; exact Nat.div_add_mod j sz
      rw [e1, hu, Addr.add_mid, Addr.add_mid, Nat.add_assoc, e1] at hcell
      exact hcell
    · intro i r hr
      have hi : i < len := by have := (List.getElem?_eq_some_iff.1 hr).1; simpa using this
      rw [List.getElem?_map, List.getElem?_range hi] at hr
      simp only [Option.map_some, Option.some.injEq] at hr
      subst hr
      exact ⟨D i, by rw [List.getElem?_map, List.getElem?_range hi]; rfl, n, _, (hC i (by omega)).2⟩
/-- Rows that each are some f p. -/
theorem all_map {α β : Type} (f : β → α) : ∀ (rows : List α), (∀ r ∈ rows, ∃ p, r = f p) → ∃ l : List β, rows = l.map f
  | [], _ => ⟨[], rfl⟩
  | r :: rows, h => by
    obtain ⟨p, hp⟩ := h r (by simp)
    obtain ⟨l, hl⟩ := all_map f rows (fun r hr => h r (by simp [hr]))
    exact ⟨p :: l, by rw [hp, hl]; rfl⟩
theorem u8_of {n : Int} (h : (Lit.int .u8 n).wf = true) : Value.int .u8 n = bv (UInt8.ofNat n.toNat) := by
  have hb := bounds_u8 h
  unfold bv
  congr 1
  rw [UInt8.toNat_ofNat']
  omega
end
end Go.Proofs.Ytbfeailalhddgaa
