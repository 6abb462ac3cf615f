/- Free pages are counted: plain laws. No condition. -/
import Derived.Test.YthdlljlcffokbaaDoorZb5
namespace Go.Proofs.YthdlljlcffokbaaDoor
open Go.RowKit

theorem firstFree_some (st : Int → Int) : ∀ (k n : Nat) {j : Nat}, firstFree st k n = some j → n ≤ j ∧ j < n + k ∧ st (j : Int) = 0 ∧ ∀ i : Nat, n ≤ i → i < j → st (i : Int) ≠ 0
  | 0, _, _, h => by cases h
  | k + 1, n, j, h => by
    unfold firstFree at h
    by_cases hz : st (n : Int) = 0
    · rw [if_pos hz] at h; injection h with h; subst h; exact ⟨Nat.le_refl _, by omega, hz, fun i h1 h2 => by omega⟩
    · rw [if_neg hz] at h
      obtain ⟨h1, h2, h3, h4⟩ := firstFree_some st k (n + 1) h
      refine ⟨by omega, by omega, h3, fun i hi hj => ?_⟩
      by_cases he : i = n
      · subst he; exact hz
      · exact h4 i (by omega) hj
theorem firstFree_none (st : Int → Int) : ∀ (k n : Nat), firstFree st k n = none → ∀ j : Nat, n ≤ j → j < n + k → st (j : Int) ≠ 0
  | 0, _, _, _, h1, h2 => by omega
  | k + 1, n, h, j, h1, h2 => by
    unfold firstFree at h
    by_cases hz : st (n : Int) = 0
    · rw [if_pos hz] at h; cases h
    · rw [if_neg hz] at h
      by_cases hj : j = n
      · subst hj; exact hz
      · exact firstFree_none st k (n + 1) h j (by omega) (by omega)
theorem freeUpto_congr {st st' : Int → Int} : ∀ (n : Nat), (∀ j : Nat, 2 ≤ j → j < n → (st (j : Int) = 0 ↔ st' (j : Int) = 0)) → freeUpto st n = freeUpto st' n
  | 0, _ => rfl
  | n + 1, h => by
    have ih := freeUpto_congr n (fun j h1 h2 => h j h1 (by omega))
    unfold freeUpto
    rw [ih]
    by_cases h2 : 2 ≤ n
    · have := h n h2 (by omega)
      by_cases hz : st (n : Int) = 0
      · simp [h2, hz, this.1 hz]
      · have hz' : ¬ st' (n : Int) = 0 := fun e => hz (this.2 e)
        simp [h2, hz, hz']
    · simp [h2]
theorem freeUpto_upd {st : Int → Int} {j : Nat} {v : Int} (h2 : 2 ≤ j) (hz : st (j : Int) = 0) (hv : v ≠ 0) : ∀ (n : Nat), j < n → freeUpto (updS st j v) n + 1 = freeUpto st n
  | 0, h => by omega
  | n + 1, h => by
    unfold freeUpto
    by_cases hj : j = n
    · subst hj
      have hc : freeUpto (updS st j v) j = freeUpto st j := freeUpto_congr j (fun i _ hi => by unfold updS; rw [if_neg (by omega)])
      have h1 : updS st j v (j : Int) = v := by unfold updS; rw [if_pos rfl]
      rw [hc, h1, if_neg (fun e => hv e.2), if_pos ⟨h2, hz⟩]
    · have ih := freeUpto_upd h2 hz hv n (by omega)
      have h1 : updS st j v (n : Int) = st (n : Int) := by unfold updS; rw [if_neg (by omega)]
      rw [h1]
      split <;> omega
theorem freeUpto_zero {st : Int → Int} : ∀ (n : Nat), freeUpto st n = 0 → ∀ j : Nat, 2 ≤ j → j < n → st (j : Int) ≠ 0
  | 0, _, _, _, h => by omega
  | n + 1, h, j, h1, h2 => by
    unfold freeUpto at h
    split at h
    · omega
    · rename_i hn
      by_cases hj : j = n
      · subst hj; exact fun e => hn ⟨h1, e⟩
      · exact freeUpto_zero n h j h1 (by omega)
theorem freeUpto_none {st : Int → Int} : ∀ (n : Nat), (∀ j : Nat, 2 ≤ j → j < n → st (j : Int) ≠ 0) → freeUpto st n = 0
  | 0, _ => rfl
  | n + 1, h => by
    unfold freeUpto
    rw [freeUpto_none n (fun j h1 h2 => h j h1 (by omega)), if_neg (fun e => h n e.1 (by omega) e.2)]
theorem freeUpto_all : ∀ (n : Nat), freeUpto (fun _ => 0) n = n - 2
  | 0 => rfl
  | n + 1 => by
    unfold freeUpto
    rw [freeUpto_all n]
    split
    · omega
    · rename_i h; have : ¬ 2 ≤ n := fun e => h ⟨e, rfl⟩; omega
theorem usedOf_cons (a : Int) (l : List Int) (k : Int) : usedOf (a :: l) k = updS (usedOf l) a 1 k := by
  unfold usedOf updS
  by_cases h : k = a <;> simp [h]
theorem freeUpto_used (n : Nat) : ∀ (l : List Int), l.Nodup → (∀ k ∈ l, 2 ≤ k ∧ k < (n : Int)) → freeUpto (usedOf l) n + l.length = n - 2
  | [], _, _ => by
    rw [freeUpto_congr (st' := fun _ => 0) n (fun j _ _ => by simp [usedOf]), freeUpto_all]; rfl
  | a :: l, hn, hr => by
    have ih := freeUpto_used n l (List.nodup_cons.1 hn).2 (fun k hk => hr k (List.mem_cons_of_mem _ hk))
    obtain ⟨h1, h2⟩ := hr a (by simp)
    obtain ⟨m, rfl⟩ : ∃ m : Nat, a = (m : Int) := ⟨a.toNat, by omega⟩
    have hz : usedOf l (m : Int) = 0 := by unfold usedOf; rw [if_neg (List.nodup_cons.1 hn).1]
    have hu := freeUpto_upd (v := 1) (by omega : 2 ≤ m) hz (by decide) n (by omega)
    rw [freeUpto_congr (st' := updS (usedOf l) (m : Int) 1) n (fun j _ _ => by rw [usedOf_cons]), List.length_cons]
    omega
/-- How many of these pages are dropped. -/
def cnt4 (st : Int → Int) (l : List Int) : Nat := (l.filter fun k => decide (st k = 4)).length
theorem cnt4_le (st : Int → Int) (l : List Int) : cnt4 st l ≤ l.length := List.length_filter_le ..
theorem cnt4_upd {st : Int → Int} {k : Int} : ∀ {l : List Int}, l.Nodup → k ∈ l → st k ≠ 4 → cnt4 (updS st k 4) l = cnt4 st l + 1
  | [], _, h, _ => by cases h
  | a :: l, hn, h, hk => by
    have hn' := List.nodup_cons.1 hn
    unfold cnt4
    by_cases ha : a = k
    · subst ha
      have e : l.filter (fun y => decide (updS st a 4 y = 4)) = l.filter (fun y => decide (st y = 4)) := List.filter_congr (fun y hy => by
        have : y ≠ a := fun e => hn'.1 (e ▸ hy)
        unfold updS; rw [if_neg this])
      rw [List.filter_cons_of_pos (by unfold updS; simp), List.filter_cons_of_neg (by simpa using hk), e]
      rfl
    · have hk' : k ∈ l := by
        rcases List.mem_cons.1 h with h | h
        · exact absurd h.symm ha
        · exact h
      have ih := cnt4_upd hn'.2 hk' hk
      unfold cnt4 at ih
      have hsame : updS st k 4 a = st a := by unfold updS; rw [if_neg ha]
      by_cases h4 : st a = 4
      · rw [List.filter_cons_of_pos (by rw [hsame]; simpa using h4), List.filter_cons_of_pos (by simpa using h4), List.length_cons, List.length_cons, ih]
      · rw [List.filter_cons_of_neg (by rw [hsame]; simpa using h4), List.filter_cons_of_neg (by simpa using h4), ih]
end Go.Proofs.YthdlljlcffokbaaDoor
