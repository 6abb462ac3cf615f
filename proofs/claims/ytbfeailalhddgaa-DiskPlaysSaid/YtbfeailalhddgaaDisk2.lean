/- Contracts of what a disk tells, of alive and of burns. -/
import Derived.Test.YtbfeailalhddgaaDisk1
namespace Go.Proofs.Ytbfeailalhddgaa
open Go.RowKit

section
variable {w : World} {L : DL} {s : DS}
theorem DkAt.c0 (h : DkAt w L s) : w.cell? ⟨L.gd, 0, none⟩ = some L.vl := (h.hd.cell 0).trans rfl
theorem DkAt.c1 (h : DkAt w L s) : w.cell? ⟨L.gd, 1, none⟩ = some L.vs := (h.hd.cell 1).trans rfl
theorem DkAt.c2 (h : DkAt w L s) : w.cell? ⟨L.gd, 2, none⟩ = some L.vw := (h.hd.cell 2).trans rfl
theorem DkAt.c3 (h : DkAt w L s) : w.cell? ⟨L.gd, 3, none⟩ = some (.int .i64 (s.done : Int)) := (h.hd.cell 3).trans rfl
theorem DkAt.c4 (h : DkAt w L s) : w.cell? ⟨L.gd, 4, none⟩ = some (.bool s.dead) := (h.hd.cell 4).trans rfl
theorem DkAt.c5 (h : DkAt w L s) : w.cell? ⟨L.gd, 5, none⟩ = some (.bool s.fset) := (h.hd.cell 5).trans rfl
theorem DkAt.c6 (h : DkAt w L s) : w.cell? ⟨L.gd, 6, none⟩ = some (.int .i64 (s.left : Int)) := (h.hd.cell 6).trans rfl
end

theorem alive_nil (w : World) : Calls Try.prog 25 #[.pointer none] w fun e w' => e = .returned (.int .i64 2) ∧ w = w' := by
  go_enter Try.func25, Try.ntmps25
  go_wp2
  go_ret
  exact ⟨rfl, rfl⟩
theorem alive_any (w : World) (g : Nat) (d : Bool) (hc : w.cell? ⟨g, 4, none⟩ = some (.bool d)) :
    Calls Try.prog 25 #[.pointer (some ⟨g, 0, none⟩)] w fun e w' => e = .returned (.int .i64 (if d then 20 else 0)) ∧ w = w' := by
  cases d
  · go_enter Try.func25, Try.ntmps25
    go_wp2
    go_ret
    exact ⟨rfl, rfl⟩
  · go_enter Try.func25, Try.ntmps25
    go_wp2
    go_ret
    exact ⟨rfl, rfl⟩
theorem dead_any (w : World) (g : Nat) (d : Bool) (hc : w.cell? ⟨g, 4, none⟩ = some (.bool d)) :
    Calls Try.prog 13 #[.pointer (some ⟨g, 0, none⟩)] w fun e w' => e = .returned (.bool d) ∧ w = w' := by
  go_enter Try.func13, Try.ntmps13
  go_wp2
  go_ret
  exact ⟨rfl, rfl⟩
theorem dead_nil (w : World) : Calls Try.prog 13 #[.pointer none] w fun e w' => e = .returned (.bool false) ∧ w = w' := by
  go_enter Try.func13, Try.ntmps13
  go_wp2
  go_ret
  exact ⟨rfl, rfl⟩
theorem done_any (w : World) (g : Nat) (d : Int) (hc : w.cell? ⟨g, 3, none⟩ = some (.int .i64 d)) :
    Calls Try.prog 16 #[.pointer (some ⟨g, 0, none⟩)] w fun e w' => e = .returned (.int .i64 d) ∧ w = w' := by
  go_enter Try.func16, Try.ntmps16
  go_wp2
  go_ret
  exact ⟨rfl, rfl⟩
theorem done_nil (w : World) : Calls Try.prog 16 #[.pointer none] w fun e w' => e = .returned (.int .i64 0) ∧ w = w' := by
  go_enter Try.func16, Try.ntmps16
  go_wp2
  go_ret
  exact ⟨rfl, rfl⟩
theorem len_any (w : World) (g : Nat) (A : Option Addr) (n c : Nat) (hc : w.cell? ⟨g, 0, none⟩ = some (.slice A n c)) :
    Calls Try.prog 20 #[.pointer (some ⟨g, 0, none⟩)] w fun e w' => e = .returned (.int .i64 (n : Int)) ∧ w = w' := by
  go_enter Try.func20, Try.ntmps20
  go_wp2
  go_ret
  exact ⟨rfl, rfl⟩
theorem len_nil (w : World) : Calls Try.prog 20 #[.pointer none] w fun e w' => e = .returned (.int .i64 0) ∧ w = w' := by
  go_enter Try.func20, Try.ntmps20
  go_wp2
  go_ret
  exact ⟨rfl, rfl⟩
theorem waits_any (w : World) (g : Nat) (A : Option Addr) (n c : Nat) (hc : w.cell? ⟨g, 2, none⟩ = some (.slice A n c)) :
    Calls Try.prog 15 #[.pointer (some ⟨g, 0, none⟩)] w fun e w' => e = .returned (.int .i64 (n : Int)) ∧ w = w' := by
  go_enter Try.func15, Try.ntmps15
  go_wp2
  go_ret
  exact ⟨rfl, rfl⟩
theorem waits_nil (w : World) : Calls Try.prog 15 #[.pointer none] w fun e w' => e = .returned (.int .i64 0) ∧ w = w' := by
  go_enter Try.func15, Try.ntmps15
  go_wp2
  go_ret
  exact ⟨rfl, rfl⟩
end Go.Proofs.Ytbfeailalhddgaa
