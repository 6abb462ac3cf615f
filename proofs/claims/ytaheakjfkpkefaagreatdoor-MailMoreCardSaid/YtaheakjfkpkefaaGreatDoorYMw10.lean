/- Lemmas that the last text rests on. Condition: each says its own. -/
import Derived.Test.YtaheakjfkpkefaaGreatDoorYMw9
set_option maxHeartbeats 16000000
set_option maxRecDepth 100000
namespace Go.Proofs.YtaheakjfkpkefaaGreatDoor
open Go.RowKit
section
section
variable {m : Md} {c : CrA}
variable (R : Rl m)
include R
variable (Z : Cz m c)
include Z
omit R Z
end
end
def As.res (b0 b1 : Nat) (F0 : List Nat) (P : World → Prop) : As := ⟨F0 ++ List.range' b0 (b1 - b0), fun w => ∀ w2, (∀ g ∈ F0 ++ List.range' b0 (b1 - b0), g < w.heap.size → w2.heap[g]? = w.heap[g]?) → P w2, fun {w w'} h hb w2 h2 => hb w2 fun g hg hlt => by
 have h3 := h g hg hlt
 have hlt' : g < w'.heap.size := by
  rw [Array.getElem?_eq_getElem hlt] at h3
  exact (Array.getElem?_eq_some_iff.1 h3).1
 exact (h2 g hg hlt').trans h3⟩
theorem Mem.swap2 {w0 w w' : World} {S : Nat → Prop} {a b : As} {Ls : List As} (M : Mem w0 S (a :: b :: Ls) w) (hf : Fr (fun k => k ∈ a.fp ++ b.fp) w w') {P : World → Prop} (hP : ∀ w2, SM w.heap.size (a.fp ++ b.fp) w' w2 → P w2) : Mem w0 S (As.res w.heap.size w'.heap.size (a.fp ++ b.fp) P :: Ls) w' := by
 have M1 := M.gone2 hf
 have hlt : ∀ g ∈ a.fp ++ b.fp, g < w.heap.size ∧ (w0.heap.size ≤ g ∨ S g) := fun g hg => by
  rcases List.mem_append.1 hg with h | h
  ·exact M.lt 0 a rfl g h
  ·exact M.lt 1 b rfl g h
 have h0 : w0.heap.size ≤ w.heap.size := M.fr.size
 have hs : w.heap.size ≤ w'.heap.size := hf.size
 have hfp : ∀ g ∈ (As.res w.heap.size w'.heap.size (a.fp ++ b.fp) P).fp, g ∈ a.fp ++ b.fp ∨ (w.heap.size ≤ g ∧ g < w'.heap.size) := fun g hg => by
  rcases List.mem_append.1 hg with h | h
  ·exact .inl h
  ·rw [List.mem_range'_1] at h
   exact .inr ⟨h.1, by omega⟩
 have hap : ∀ (i : Nat) (x : As), Ls[i]? = some x → ∀ g ∈ x.fp, g ∉ (As.res w.heap.size w'.heap.size (a.fp ++ b.fp) P).fp := fun i x hi g hg h => by
  rcases hfp g h with h | h
  ·rcases List.mem_append.1 h with h | h
   ·exact M.apart 0 (i + 2) a x rfl hi A0 g h hg
   ·exact M.apart 1 (i + 2) b x rfl hi A0 g h hg
  ·have := (M.lt (i + 2) x hi g hg).1
   omega
 refine ⟨M1.fr, fun i x hi => ?_, fun i x hi g hg => ?_, fun i j x y hi hj hne g hg => ?_⟩
 ·cases i with
  | zero =>
   simp only [List.getElem?_cons_zero, Option.some.injEq] at hi; subst hi
   exact fun w2 h2 => hP w2 fun g hg hlt' => h2 g (by
    rcases hg with h | h
    ·exact List.mem_append_left _ h
    ·exact List.mem_append_right _ (by rw [List.mem_range'_1]; omega)) hlt'
  | succ i => exact M1.ok i x hi
 ·cases i with
  | zero =>
   simp only [List.getElem?_cons_zero, Option.some.injEq] at hi; subst hi
   rcases hfp g hg with h | h
   ·have := hlt g h
    exact ⟨by omega, this.2⟩
   ·exact ⟨h.2, .inl A0⟩
  | succ i => exact M1.lt i x hi g hg
 ·cases i with
  | zero =>
   cases j with
   | zero => exact absurd rfl hne
   | succ j =>
    simp only [List.getElem?_cons_zero, Option.some.injEq] at hi; subst hi
    exact fun h => hap j y hj g h hg
  | succ i =>
   cases j with
   | zero =>
    simp only [List.getElem?_cons_zero, Option.some.injEq] at hj; subst hj
    exact hap i x hi g hg
   | succ j => exact M1.apart i j x y hi hj A0 g hg
theorem Mem.resA {w0 w : World} {Ls : List As} {b0 b1 : Nat} {F0 : List Nat} {P : World → Prop} (M : Mem w0 AM Ls w) (i : Nat) (hi : Ls[i]? = some (As.res b0 b1 F0 P)) : ∀ w2, SM w0.heap.size [] w w2 → P w2 := fun w2 h => M.ok i _ hi w2 fun g hg hlt => h g (.inr ((M.lt i _ hi g hg).2.elim id False.elim)) hlt
theorem XR {l k : List Bd} (h : HP l k = true) : l.length = k.length := Classical.byContradiction fun hn => by rw [OP hn] at h; cases h
end Go.Proofs.YtaheakjfkpkefaaGreatDoor
