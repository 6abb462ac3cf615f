/- Lemmas that the last text rests on. Condition: each says its own. -/
import Derived.Test.YtaheakjfkpkefaaGreatDoorYMw7
set_option maxHeartbeats 16000000
set_option maxRecDepth 100000
namespace Go.Proofs.YtaheakjfkpkefaaGreatDoor
open Go.RowKit
section
section
variable {w0 w w' : World} {S : Nat → Prop} {a b : As} {Ls : List As}
theorem Mem.self2 (M : Mem w0 S (a :: b :: Ls) w) : Mem w (fun k => k ∈ a.fp ++ b.fp) [a, b] w :=
 Mem.self [a, b] M fun i x hi g hg => by
  match i, hi with
  | 0, hi => simp only [List.getElem?_cons_zero, Option.some.injEq] at hi; subst hi; exact List.mem_append_left _ hg
  | 1, hi => simp only [List.getElem?_cons_succ, List.getElem?_cons_zero, Option.some.injEq] at hi; subst hi; exact List.mem_append_right _ hg
theorem Mem.new2 (M : Mem w0 AM (a :: b :: Ls) w) : ∀ g ∈ a.fp ++ b.fp, w0.heap.size ≤ g := fun g hg => by
 rcases List.mem_append.1 hg with h | h
 ·rcases (M.lt 0 a rfl g h).2 with h2 | h2
  ·exact h2
  ·exact h2.elim
 ·rcases (M.lt 1 b rfl g h).2 with h2 | h2
  ·exact h2
  ·exact h2.elim
theorem Mem.gone2 (M : Mem w0 S (a :: b :: Ls) w) (hf : Fr (fun k => k ∈ a.fp ++ b.fp) w w') : Mem w0 S Ls w' := by
 have up : ∀ (i : Nat) (x : As), Ls[i]? = some x → (a :: b :: Ls)[i + 2]? = some x := fun i x h => h
 have no : ∀ (i : Nat) (x : As), Ls[i]? = some x → ∀ g ∈ x.fp, ¬ g ∈ a.fp ++ b.fp := fun i x hi g hg h => by
  rcases List.mem_append.1 h with h | h
  ·exact M.apart 0 (i + 2) a x rfl (up i x hi) A0 g h hg
  ·exact M.apart 1 (i + 2) b x rfl (up i x hi) A0 g h hg
 refine ⟨?_, fun i x hi => ?_, fun i x hi g hg => ?_, fun i j x y hi hj hne => M.apart (i + 2) (j + 2) x y (up i x hi) (up j y hj) A0⟩
 ·have hin : ∀ g ∈ a.fp ++ b.fp, w0.heap.size ≤ g ∨ S g := fun g h => by
   rcases List.mem_append.1 h with h | h
   ·exact (M.lt 0 a rfl g h).2
   ·exact (M.lt 1 b rfl g h).2
  exact ⟨hf.os.trans M.fr.os, hf.tape.trans M.fr.tape, hf.output.trans M.fr.output, Nat.le_trans M.fr.size hf.size, fun k hk hn => (hf.block k (Nat.lt_of_lt_of_le hk M.fr.size) (fun h => by rcases hin k h with h2 | h2; omega; exact hn h2)).trans (M.fr.block k hk hn)⟩
 ·exact x.keep (fun g hg hl => hf.block g hl (no i x hi g hg)) (M.ok (i + 2) x (up i x hi))
 ·obtain ⟨h1, h2⟩ := M.lt (i + 2) x (up i x hi) g hg
  exact ⟨Nat.lt_of_lt_of_le h1 hf.size, h2⟩
end
end
end Go.Proofs.YtaheakjfkpkefaaGreatDoor
