/- The law DiskLasts, walked. -/
import Derived.Test.YtbfeailalhddgaaDiskLaw3
import Derived.Test.YtbfeailalhddgaaDiskPlain1
import Derived.IntWalk
namespace Go.Proofs.Ytbfeailalhddgaa
open Go.RowKit

abbrev Put := UInt8 × UInt8 × Bool
def prow (p : Put) : List Value := [bv p.1, bv p.2.1, .bool p.2.2]
def flatP (l : List Put) : List Value := (l.map prow).flatten
theorem all_prow (l : List Put) : All 3 (l.map prow) := fun x hx => by obtain ⟨p, _, rfl⟩ := List.mem_map.1 hx; rfl
theorem flatP_length (l : List Put) : (flatP l).length = l.length * 3 := by unfold flatP; rw [flat_length (all_prow l), List.length_map]
theorem flatP_one (l : List Put) : ∀ u ∈ flatP l, u.oneCell' = true := by
  intro u hu
  obtain ⟨cs, hcs, hu⟩ := List.mem_flatten.1 hu
  obtain ⟨p, _, rfl⟩ := List.mem_map.1 hcs
  simp only [prow, List.mem_cons, List.not_mem_nil, or_false] at hu
  rcases hu with rfl | rfl | rfl <;> rfl
theorem flat_cell {m : Nat} {rows : List (List Value)} (h : All m rows) {k j : Nat} {r : List Value} {v : Value} (hk : rows[k]? = some r) (hj : r[j]? = some v) : rows.flatten[k * m + j]? = some v := by
  have hr := flat_at h hk
  have hjm : j < m := by have := (List.getElem?_eq_some_iff.1 hj).1; rw [h.at hk] at this; exact this
  rw [← hr, List.getElem?_take_of_lt hjm, List.getElem?_drop] at hj
  exact hj
theorem rd_at {w : World} {b off n m : Nat} {rows : List (List Value)} (h : Rd w (some ⟨b, off, none⟩) n rows.flatten) (ha : All m rows) {k j : Nat} {r : List Value} {v : Value} (hk : rows[k]? = some r) (hj : r[j]? = some v) : Cell w.heap b (off + k * m + j) v := by
  have hc := flat_cell ha hk hj
  have hn : 0 < n := by rw [← h.1]; have := (List.getElem?_eq_some_iff.1 hc).1; omega
  obtain ⟨b', off', e, hh⟩ := h.2 hn
  injection e with e; injection e with e1 e2 _
  subst e1 e2
  rw [Nat.add_assoc]
  exact Cell.of (hh _ _ hc)
theorem put_cells {w : World} {A : Option Addr} {l : List Put} {n k : Nat} {p : Put} (h : Rd w A n (flatP l)) (hk : l[k]? = some p) : ∃ b off, A = some ⟨b, off, none⟩ ∧ Cell w.heap b (off + k * 3 + 0) (.int .u8 (p.1.toNat : Int)) ∧ Cell w.heap b (off + k * 3 + 1) (.int .u8 (p.2.1.toNat : Int)) ∧ Cell w.heap b (off + k * 3 + 2) (.bool p.2.2) := by
  have hk' : (l.map prow)[k]? = some (prow p) := by rw [List.getElem?_map, hk]; rfl
  have hl := (List.getElem?_eq_some_iff.1 hk).1
  have hn : 0 < n := by rw [← h.1, flatP_length]; omega
  obtain ⟨b, off, rfl, _⟩ := h.2 hn
  exact ⟨b, off, rfl, rd_at h (all_prow l) hk' rfl, rd_at h (all_prow l) hk' rfl, rd_at h (all_prow l) hk' rfl⟩
theorem wrap_u64_nat (n : Int) : ∃ m : Nat, IntKind.u64.wrap n = (m : Int) := ⟨(IntKind.u64.wrap n).toNat, by
  have h : 0 ≤ IntKind.u64.wrap n := by
    show 0 ≤ n.emod _
    exact Int.emod_nonneg _ (by decide)
  omega⟩
def wput (p : Wt) : Put := (p.1, p.2, false)

structure Lasts (n i : Nat) (lb : List UInt8) (wt : List Wt) (s : DS) : Prop where
  ls : s.lasts = lb.map full
  ws : s.waits = wt.map wfull
  dead : s.dead = false
  fset : s.fset = false
  len : lb.length = n
  at_ : ∀ p ∈ wt, p.1.toNat < n
  done : s.done ≤ 2 * i
  wl : wt.length ≤ i
theorem Lasts.new (n : Nat) : Lasts n 0 (List.replicate n 0) [] (newDS n) where
  ls := by rw [List.map_replicate]; rfl
  ws := rfl
  dead := rfl
  fset := rfl
  len := List.length_replicate
  at_ := fun _ h => by cases h
  done := Nat.le_refl _
  wl := Nat.le_refl _
end Go.Proofs.Ytbfeailalhddgaa
