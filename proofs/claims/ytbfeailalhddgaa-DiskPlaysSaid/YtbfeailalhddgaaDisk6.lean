/- What a crash and a flush leave, plainly. -/
import Derived.Test.YtbfeailalhddgaaDisk5
namespace Go.Proofs.Ytbfeailalhddgaa
open Go.RowKit

/-- One write that waits, at a crash. -/
def crashOne (keep : List Bool) (torn : Int) (cut k : Nat) (x : Nat × List UInt8) (l : List (List UInt8)) : List (List UInt8) :=
  if (k : Int) = torn then l.set x.1 (x.2.take cut ++ (l.getD x.1 []).drop cut) else if keep.getD k false then l.set x.1 x.2 else l
def crashFrom (keep : List Bool) (torn : Int) (cut : Nat) : Nat → List (Nat × List UInt8) → List (List UInt8) → List (List UInt8)
  | _, [], l => l
  | k, x :: xs, l => crashFrom keep torn cut (k + 1) xs (crashOne keep torn cut k x l)
def flushAll : List (Nat × List UInt8) → List (List UInt8) → List (List UInt8)
  | [], l => l
  | x :: xs, l => flushAll xs (l.set x.1 x.2)
def DS.crash (s : DS) (keep : List Bool) (torn : Int) (cut : Nat) : DS := { s with lasts := crashFrom keep torn cut 0 s.waits s.lasts, waits := [], dead := true }
def DS.flush (s : DS) : DS := { s with lasts := flushAll s.waits s.lasts, waits := [], done := s.done + 1 }

theorem crashOne_length (keep : List Bool) (torn : Int) (cut k : Nat) (x : Nat × List UInt8) (l : List (List UInt8)) : (crashOne keep torn cut k x l).length = l.length := by
  unfold crashOne; split
  · simp
  · split <;> simp
theorem crashOne_all {keep : List Bool} {torn : Int} {cut k : Nat} {x : Nat × List UInt8} {l : List (List UInt8)} (h : All 128 l) (hx : x.1 < l.length ∧ x.2.length = 128) (hc : cut ≤ 128) : All 128 (crashOne keep torn cut k x l) := by
  unfold crashOne; split
  · refine h.set _ ?_
    have : (l.getD x.1 []).length = 128 := by
      rw [List.getD_eq_getElem?_getD, List.getElem?_eq_getElem hx.1]; exact h _ (List.getElem_mem _)
    simp only [List.length_append, List.length_take, List.length_drop, hx.2, this]; omega
  · split
    · exact h.set _ hx.2
    · exact h
theorem crashFrom_length (keep : List Bool) (torn : Int) (cut : Nat) : ∀ (k : Nat) (ws : List (Nat × List UInt8)) (l : List (List UInt8)), (crashFrom keep torn cut k ws l).length = l.length
  | _, [], _ => rfl
  | k, x :: xs, l => by rw [crashFrom, crashFrom_length, crashOne_length]
theorem crashFrom_all {keep : List Bool} {torn : Int} {cut : Nat} (hc : cut ≤ 128) : ∀ (k : Nat) (ws : List (Nat × List UInt8)) (l : List (List UInt8)), All 128 l → (∀ x ∈ ws, x.1 < l.length ∧ x.2.length = 128) → All 128 (crashFrom keep torn cut k ws l)
  | _, [], _, h, _ => h
  | k, x :: xs, l, h, hw => by
    rw [crashFrom]
    refine crashFrom_all hc _ _ _ (crashOne_all h (hw x List.mem_cons_self) hc) fun y hy => ?_
    rw [crashOne_length]; exact hw y (List.mem_cons_of_mem _ hy)
theorem flushAll_length : ∀ (ws : List (Nat × List UInt8)) (l : List (List UInt8)), (flushAll ws l).length = l.length
  | [], _ => rfl
  | x :: xs, l => by rw [flushAll, flushAll_length, List.length_set]
theorem flushAll_all : ∀ (ws : List (Nat × List UInt8)) (l : List (List UInt8)), All 128 l → (∀ x ∈ ws, x.2.length = 128) → All 128 (flushAll ws l)
  | [], _, h, _ => h
  | x :: xs, l, h, hw => by
    rw [flushAll]
    exact flushAll_all _ _ (h.set _ (hw x List.mem_cons_self)) fun y hy => hw y (List.mem_cons_of_mem _ hy)
theorem DS.crash_wf {s : DS} (h : s.Wf) {keep : List Bool} {torn : Int} {cut : Nat} (hc : cut ≤ 128) : (s.crash keep torn cut).Wf where
  pos := by rw [show (s.crash keep torn cut).lasts.length = s.lasts.length from crashFrom_length ..]; exact h.pos
  le := by rw [show (s.crash keep torn cut).lasts.length = s.lasts.length from crashFrom_length ..]; exact h.le
  sl := by rw [show (s.crash keep torn cut).lasts.length = s.lasts.length from crashFrom_length ..]; exact h.sl
  al := crashFrom_all hc _ _ _ h.al h.aw
  ash := h.ash
  aw := by simp [DS.crash]
  cut := h.cut
  lm := h.lm
theorem DS.flush_wf {s : DS} (h : s.Wf) : s.flush.Wf where
  pos := by rw [show s.flush.lasts.length = s.lasts.length from flushAll_length ..]; exact h.pos
  le := by rw [show s.flush.lasts.length = s.lasts.length from flushAll_length ..]; exact h.le
  sl := by rw [show s.flush.lasts.length = s.lasts.length from flushAll_length ..]; exact h.sl
  al := flushAll_all _ _ h.al (fun x hx => (h.aw x hx).2)
  ash := h.ash
  aw := by simp [DS.flush]
  cut := h.cut
  lm := h.lm
end Go.Proofs.Ytbfeailalhddgaa
