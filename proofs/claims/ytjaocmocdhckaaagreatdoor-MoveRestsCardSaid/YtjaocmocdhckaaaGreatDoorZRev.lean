/- Lemmas that the last text rests on. Condition: each says its own. -/
import Derived.Test.YtjaocmocdhckaaaGreatDoorZb6
import Derived.Sort.OwnSortedInts
set_option maxHeartbeats 16000000
set_option maxRecDepth 100000
namespace Go.Proofs.YtjaocmocdhckaaaGreatDoor
open Go.RowKit Go.Sort
open Tryz
theorem MU (zs : List Int) : AH NQ zs = zs.map (Value.int .i64) := by
 induction zs with
 | nil => rfl
 | cons z r ih => rw [List.map_cons, ← ih]; rfl
def HQ (zs : List Int) : List Int := zs.mergeSort fun x y => decide (x ≤ y)
theorem PF (zs : List Int) : (HQ zs).length = zs.length := List.length_mergeSort zs
theorem m7 {A : Option Addr} {c n base : Nat} {zs : List Int} (w : World) (hn : zs.length = n) (hown : w.ownsRow base 3 1 (.slice A n c) n (AH NQ zs)) (hl : n < 4611686018427387904) :
 Calls prog 169 #[.slice A n c] w fun e w' => e = .returned (.tuple #[]) ∧ w'.ownsRow base 3 1 (.slice A n c) n (AH NQ (HQ zs)) ∧ Fr (fun k => k ∈ (Value.slice A n c).ownBlock.toList) w w' := by
 subst hn
 rcases hown.2 with ⟨hv, h0⟩ | ⟨g, cap, cur, hv, hb, hg, hc, hm, hs, ht⟩
 ·have hz : zs = [] := List.length_eq_zero_iff.1 h0
  subst hz
  refine (Tryz.slices_Sort_int_none A c w).mono ?_
  rintro e w' ⟨rfl, rfl⟩
  exact ⟨rfl, by rw [show HQ [] = [] by simp [HQ]]; exact hown, Fr.refl⟩
 ·injection hv with hA _ hc'
  subst hA; subst hc'
  have ht' : cur.toList.take zs.length = zs.map (Value.int .i64) := by rw [← MU]; simpa using ht
  refine (Tryz.slices_Sort_int g 0 c zs w (Go.holds_of_blockI hg ht') (Array.getElem?_eq_some_iff.1 hg).1 hl).mono ?_
  rintro e w' ⟨rfl, n, os, rfl⟩
  have h2 := Go.grownBy_sortedI (w := w) (g := g) (n := n) (os := os) (HQ zs).toArray
  refine ⟨rfl, ?_, h2.os, h2.tape, h2.output, h2.size, fun k hk hn => h2.block k hk ?_⟩
  ·rw [MU]
   exact Go.ownsRow_sortedI (PF zs) hb hg hc hm hs
  ·intro e
   exact hn (by simp [Value.ownBlock, ← e])
theorem rX (w : World) : w = grow w #[] := by
 unfold grow
 simp
theorem pX {A : Option Addr} {c n base : Nat} {zs : List Int} (w : World) (hn : zs.length = n) (hown : w.ownsRow base 3 1 (.slice A n c) n (AH NQ zs)) (hl : n < 4611686018427387904) :
 Calls prog 170 #[.slice A n c] w fun e w' => e = .returned (.tuple #[]) ∧ w'.ownsRow base 3 1 (.slice A n c) n (AH NQ zs.reverse) ∧ Fr (fun k => k ∈ (Value.slice A n c).ownBlock.toList) w w' := by
 subst hn
 rcases hown.2 with ⟨hv, h0⟩ | ⟨g, cap, cur, hv, hb, hg, hc, hm, hs, ht⟩
 ·have hz : zs = [] := List.length_eq_zero_iff.1 h0
  subst hz
  refine (Tryz.slices_Reverse_int_empty A c w).mono ?_
  rintro e w' ⟨rfl, rfl⟩
  exact ⟨rfl, hown, Fr.refl⟩
 ·injection hv with hA _ hc'
  subst hA; subst hc'
  have ht' : cur.toList.take zs.length = zs.map (Value.int .i64) := by rw [← MU]; simpa using ht
  refine (Tryz.slices_Reverse_int g 0 c zs w (Go.holds_of_blockI hg ht') AM).mono ?_
  rintro e w' ⟨rfl, n, rfl⟩
  rw [rX (putRow _ _ _ _ _)]
  have h2 := Go.grownBy_sortedI (w := w) (g := g) (n := n) (os := #[]) zs.reverse.toArray
  refine ⟨rfl, ?_, h2.os, h2.tape, h2.output, h2.size, fun k hk hn => h2.block k hk ?_⟩
  ·rw [MU]
   exact Go.ownsRow_sortedI (List.length_reverse) hb hg hc hm hs
  ·intro e
   exact hn (by simp [Value.ownBlock, ← e])
end Go.Proofs.YtjaocmocdhckaaaGreatDoor
