/- Rows of equal length, one behind the other: reading and writing one of them. No condition. -/
import Derived.Test.YtklciidffdnglaaDoorBase4
namespace Go.Proofs.YtklciidffdnglaaDoor
open Go.RowKit

section
variable {α : Type}
def All (m : Nat) (l : List (List α)) : Prop := ∀ x ∈ l, x.length = m
theorem All.nil {m : Nat} : All m ([] : List (List α)) := fun _ h => by cases h
theorem All.cons {m : Nat} {x : List α} {l : List (List α)} (hx : x.length = m) (h : All m l) : All m (x :: l) := by
  intro y hy
  rcases List.mem_cons.1 hy with rfl | hy
  · exact hx
  · exact h y hy
theorem All.tail {m : Nat} {x : List α} {l : List (List α)} (h : All m (x :: l)) : All m l := fun y hy => h y (List.mem_cons_of_mem _ hy)
theorem All.head {m : Nat} {x : List α} {l : List (List α)} (h : All m (x :: l)) : x.length = m := h x List.mem_cons_self
theorem All.append {m : Nat} {a b : List (List α)} (ha : All m a) (hb : All m b) : All m (a ++ b) := by
  intro y hy
  rcases List.mem_append.1 hy with h | h
  · exact ha y h
  · exact hb y h
theorem All.set {m : Nat} {l : List (List α)} (h : All m l) (i : Nat) {b : List α} (hb : b.length = m) : All m (l.set i b) := by
  intro y hy
  rcases List.mem_or_eq_of_mem_set hy with h1 | h1
  · exact h y h1
  · rw [h1]; exact hb
theorem All.at {m : Nat} {l : List (List α)} (h : All m l) {i : Nat} {x : List α} (hx : l[i]? = some x) : x.length = m := h x (List.mem_of_getElem? hx)
theorem All.replicate {m n : Nat} {x : List α} (h : x.length = m) : All m (List.replicate n x) := fun _ hy => (List.eq_of_mem_replicate hy) ▸ h
theorem flat_length {m : Nat} {l : List (List α)} (h : All m l) : l.flatten.length = l.length * m := by
  induction l with
  | nil => simp
  | cons x l ih => rw [List.flatten_cons, List.length_append, ih h.tail, h.head, List.length_cons, Nat.add_mul]; omega
theorem flat_at {m : Nat} {l : List (List α)} (h : All m l) {i : Nat} {x : List α} (hx : l[i]? = some x) : (l.flatten.drop (i * m)).take m = x := by
  induction l generalizing i with
  | nil => simp at hx
  | cons y l ih =>
    cases i with
    | zero =>
      simp only [List.getElem?_cons_zero, Option.some.injEq] at hx
      subst hx
      rw [Nat.zero_mul, List.drop_zero, List.flatten_cons]
      exact List.take_left' h.head
    | succ i =>
      rw [List.flatten_cons, show (i + 1) * m = y.length + i * m from by rw [h.head, Nat.add_mul]; omega, ← List.drop_drop, List.drop_left]
      exact ih h.tail (by simpa using hx)
theorem flat_set {m : Nat} {l : List (List α)} (h : All m l) {i : Nat} (hi : i < l.length) (b : List α) :
    l.flatten.take (i * m) ++ (b ++ l.flatten.drop (i * m + m)) = (l.set i b).flatten := by
  induction l generalizing i with
  | nil => simp at hi
  | cons y l ih =>
    cases i with
    | zero =>
      rw [Nat.zero_mul, List.take_zero, Nat.zero_add, List.nil_append, List.set_cons_zero, List.flatten_cons, List.flatten_cons, ← h.head, List.drop_left]
    | succ i =>
      have ih' := ih h.tail (i := i) (by simpa using hi)
      rw [List.set_cons_succ, List.flatten_cons, List.flatten_cons, ← ih']
      have e : (i + 1) * m = y.length + i * m := by rw [h.head, Nat.add_mul]; omega
      rw [e, List.take_append, List.take_of_length_le (by omega), show y.length + i * m - y.length = i * m from by omega, Nat.add_assoc, ← List.drop_drop, List.drop_left, List.append_assoc]
end

/-- Sectors as cells. -/
def flatB (l : List (List UInt8)) : List Value := bvs l.flatten
theorem flatB_length {m : Nat} {l : List (List UInt8)} (h : All m l) : (flatB l).length = l.length * m := by
  unfold flatB; rw [bvs_length, flat_length h]
theorem flatB_at {m : Nat} {l : List (List UInt8)} (h : All m l) {i : Nat} {x : List UInt8} (hx : l[i]? = some x) : ((flatB l).drop (i * m)).take m = bvs x := by
  unfold flatB bvs
  rw [← List.map_drop, ← List.map_take, flat_at h hx]
theorem flatB_put {m : Nat} {l : List (List UInt8)} (h : All m l) {i : Nat} (hi : i < l.length) (b : List UInt8) (hb : b.length = m) : put (flatB l) (i * m) (bvs b) = flatB (l.set i b) := by
  unfold put flatB
  rw [bvs_length, hb, ← flat_set h hi b]
  unfold bvs
  simp only [List.map_append, List.map_take, List.map_drop]
end Go.Proofs.YtklciidffdnglaaDoor
