/- Contracts of a plan's may, and of what a crash keeps. -/
import Derived.Test.YtbfeailalhddgaaDisk4
namespace Go.Proofs.Ytbfeailalhddgaa
open Go.RowKit

theorem may_any (v : Value) (torn cut : Int) (w : World) : Calls Try.prog 28 #[.agg #[v, .int .i64 torn, .int .i64 cut]] w fun e w' => e = .returned (.bool (decide (0 ≤ cut ∧ cut ≤ 128))) ∧ Fr0 w w' := by
  by_cases h1 : 0 ≤ cut
  · by_cases h2 : cut ≤ 128
    · rw [decide_eq_true ⟨h1, h2⟩]
      go_enter Try.func28, Try.ntmps28
      go_wp2
      go_ret
      exact ⟨rfl, Fr.refl.alloc _⟩
    · rw [decide_eq_false (fun h => h2 h.2)]
      go_enter Try.func28, Try.ntmps28
      go_wp2
      go_ret
      exact ⟨rfl, Fr.refl.alloc _⟩
  · rw [decide_eq_false (fun h => h1 h.1)]
    go_enter Try.func28, Try.ntmps28
    go_wp2
    go_ret
    exact ⟨rfl, Fr.refl.alloc _⟩
theorem kept_any (k : Nat) (g : Nat) (A : Option Addr) (c : Nat) (keep : List Bool) (torn cut : Value) (w : World) (hb : Blk w g 25 [.slice A keep.length c, torn, cut]) (hk : Rd w A keep.length (boolsV keep)) :
    Calls Try.prog 43 #[.int .i64 (k : Int), .pointer (some ⟨g, 0, none⟩)] w fun e w' => e = .returned (.bool (keep.getD k false)) ∧ w = w' := by
  have hc : w.cell? ⟨g, 0, none⟩ = some (.slice A keep.length c) := (hb.cell 0).trans rfl
  by_cases h1 : k < keep.length
  · obtain ⟨b, off, rfl, u, hu, hcell⟩ := hk.at_ h1
    have hu : u = .bool (keep.getD k false) := by
      unfold boolsV at hu
      rw [List.getElem?_map, List.getElem?_eq_getElem h1] at hu
      rw [List.getD_eq_getElem?_getD, List.getElem?_eq_getElem h1]
      simpa using hu.symm
    subst hu
    generalize keep.getD k false = r at *
    clear hb hk
    generalize keep.length = n at *
    go_enter Try.func43, Try.ntmps43
    go_wp2
    go_ret
    exact ⟨rfl, rfl⟩
  · have hr : keep.getD k false = false := by rw [List.getD_eq_getElem?_getD, List.getElem?_eq_none (by omega)]; rfl
    rw [hr]
    clear hb hk
    generalize keep.length = n at *
    go_enter Try.func43, Try.ntmps43
    go_wp2
    go_ret
    exact ⟨rfl, rfl⟩
end Go.Proofs.Ytbfeailalhddgaa
