/- Free pages are counted: plain laws. No condition. -/
import Derived.Test.YthdlljlcffokbaaDoorZb5
namespace Go.Proofs.YthdlljlcffokbaaDoor
open Go.RowKit

theorem firstFree_some (st : Int → Int) : ∀ (k n : Nat) {j : Nat}, firstFree st k n = some j → n ≤ j ∧ j < n + k ∧ st (j : Int) = 0 ∧ ∀ i : Nat, n ≤ i → i < j → st (i : Int) ≠ 0
  | 0, _, _, h => by cases h
  | k + 1, n, j, h => by
    unfold firstFree at h
    by_cases hz : st (n : Int) = 0
    · rw [if_pos hz] at h; injection h with h; subst h; exact ⟨Nat.le_refl _, by omega, hz, fun i h1 h2 => by omega⟩
    · rw [if_neg hz] at h
      obtain ⟨h1, h2, h3, h4⟩ := firstFree_some st k (n + 1) h
      refine ⟨by omega, by omega, h3, fun i hi hj => ?_⟩
      by_cases he : i = n
      · subst he; exact hz
      · exact h4 i (by omega) hj
theorem freeUpto_congr {st st' : Int → Int} : ∀ (n : Nat), (∀ j : Nat, 2 ≤ j → j < n → (st (j : Int) = 0 ↔ st' (j : Int) = 0)) → freeUpto st n = freeUpto st' n
  | 0, _ => rfl
  | n + 1, h => by
    have ih := freeUpto_congr n (fun j h1 h2 => h j h1 (by omega))
    unfold freeUpto
    rw [ih]
    by_cases h2 : 2 ≤ n
    · have := h n h2 (by omega)
      by_cases hz : st (n : Int) = 0
      · simp [h2, hz, this.1 hz]
      · have hz' : ¬ st' (n : Int) = 0 := fun e => hz (this.2 e)
        simp [h2, hz, hz']
    · simp [h2]
/-- How many of these pages are dropped. -/
def cnt4 (st : Int → Int) (l : List Int) : Nat := (l.filter fun k => decide (st k = 4)).length
end Go.Proofs.YthdlljlcffokbaaDoor
