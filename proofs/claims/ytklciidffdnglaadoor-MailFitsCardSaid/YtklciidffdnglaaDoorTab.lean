/- Tables of the program: field offsets, scalar types, elements of slices and arrays. -/
import Derived.Test.YtklciidffdnglaaDoorSxOps
import Derived.Test.YtklciidffdnglaaDoorProg
namespace Go.Proofs.YtklciidffdnglaaDoor
def foL : List (Nat × Nat × Nat) := [(26, 2, 2), (36, 0, 0), (36, 1, 1), (36, 2, 2), (36, 3, 3), (38, 0, 0), (38, 1, 1), (55, 0, 0), (55, 1, 1)]
def scL : List Nat := [2, 3, 4, 5, 9, 12, 22, 27, 31, 61]
def slL : List (Nat × Nat × Nat) := [(22, 38, 5), (61, 5, 1)]
def arL : List (Nat × Nat × Nat × Nat) := [(46, 256, 5, 1), (56, 16, 55, 2)]
def ptL : List (Nat × Nat) := []
def get3 : List (Nat × Nat × Nat) → Nat → Nat → Option Nat
  | [], _, _ => none
  | (a, b, k) :: l, s, f => match Nat.beq a s with
    | true => match Nat.beq b f with
      | true => some k
      | false => get3 l s f
    | false => get3 l s f
def hasN : List Nat → Nat → Bool
  | [], _ => false
  | a :: l, t => match Nat.beq a t with
    | true => true
    | false => hasN l t
def get2 : List (Nat × Nat × Nat) → Nat → Option (Nat × Nat)
  | [], _ => none
  | (a, p) :: l, t => match Nat.beq a t with
    | true => some p
    | false => get2 l t
def get1 : List (Nat × Nat) → Nat → Option Nat
  | [], _ => none
  | (a, p) :: l, t => match Nat.beq a t with
    | true => some p
    | false => get1 l t
theorem get1_mem : ∀ (l : List (Nat × Nat)) {t : Nat} {p : Nat}, get1 l t = some p → (t, p) ∈ l
  | [], _, _, h => by simp [get1] at h
  | (a, q) :: l, t, p, h => by
    unfold get1 at h
    split at h
    · rename_i h1; obtain rfl := Nat.eq_of_beq_eq_true h1; simp only [Option.some.injEq] at h; subst h; simp
    · exact List.mem_cons_of_mem _ (get1_mem l h)
def get4 : List (Nat × Nat × Nat × Nat) → Nat → Option (Nat × Nat × Nat)
  | [], _ => none
  | (a, p) :: l, t => match Nat.beq a t with
    | true => some p
    | false => get4 l t
theorem get3_mem : ∀ (l : List (Nat × Nat × Nat)) {s f k : Nat}, get3 l s f = some k → (s, f, k) ∈ l
  | [], _, _, _, h => by simp [get3] at h
  | (a, b, c) :: l, s, f, k, h => by
    unfold get3 at h
    split at h
    · rename_i h1
      split at h
      · rename_i h2
        obtain rfl := Nat.eq_of_beq_eq_true h1; obtain rfl := Nat.eq_of_beq_eq_true h2
        simp only [Option.some.injEq] at h; subst h; simp
      · exact List.mem_cons_of_mem _ (get3_mem l h)
    · exact List.mem_cons_of_mem _ (get3_mem l h)
theorem hasN_mem : ∀ (l : List Nat) {t : Nat}, hasN l t = true → t ∈ l
  | [], _, h => by simp [hasN] at h
  | a :: l, t, h => by
    unfold hasN at h
    split at h
    · rename_i h1; obtain rfl := Nat.eq_of_beq_eq_true h1; simp
    · exact List.mem_cons_of_mem _ (hasN_mem l h)
theorem get2_mem : ∀ (l : List (Nat × Nat × Nat)) {t : Nat} {p : Nat × Nat}, get2 l t = some p → (t, p) ∈ l
  | [], _, _, h => by simp [get2] at h
  | (a, q) :: l, t, p, h => by
    unfold get2 at h
    split at h
    · rename_i h1; obtain rfl := Nat.eq_of_beq_eq_true h1; simp only [Option.some.injEq] at h; subst h; simp
    · exact List.mem_cons_of_mem _ (get2_mem l h)
theorem get4_mem : ∀ (l : List (Nat × Nat × Nat × Nat)) {t : Nat} {p : Nat × Nat × Nat}, get4 l t = some p → (t, p) ∈ l
  | [], _, _, h => by simp [get4] at h
  | (a, q) :: l, t, p, h => by
    unfold get4 at h
    split at h
    · rename_i h1; obtain rfl := Nat.eq_of_beq_eq_true h1; simp only [Option.some.injEq] at h; subst h; simp
    · exact List.mem_cons_of_mem _ (get4_mem l h)
theorem foL_ok : foL.all (fun x => fieldOff Tryd.prog x.1 x.2.1 == some x.2.2) = true := by kernel_rfl
theorem scL_ok : scL.all (fun x => scalarTy Tryd.prog x) = true := by kernel_rfl
theorem slL_ok : slL.all (fun x => sliceElem Tryd.prog x.1 == some x.2) = true := by kernel_rfl
theorem arL_ok : arL.all (fun x => arrElem Tryd.prog x.1 == some x.2) = true := by kernel_rfl
theorem ptL_ok : ptL.all (fun x => ptrElem Tryd.prog x.1 == some x.2) = true := by kernel_rfl
theorem hmix : Tryd.prog.follows .mixedOrders = true := by kernel_rfl
theorem pt {t el : Nat} (h : get1 ptL t = some el) : ptrElem Tryd.prog t = some el := by
  have := List.all_eq_true.1 ptL_ok _ (get1_mem _ h); simpa using this
theorem fo {s f k : Nat} (h : get3 foL s f = some k) : fieldOff Tryd.prog s f = some k := by
  have := List.all_eq_true.1 foL_ok _ (get3_mem _ h); simpa using this
theorem yp {e : Env} {o : Oper} {w : World} {v : Value} (h : pureOp (get3 foL) e o.op = some v) : Y Tryd.prog e o w v := y_pure (fun _ _ _ h => fo h) h
theorem sc {t : Nat} (h : hasN scL t = true) : scalarTy Tryd.prog t = true := List.all_eq_true.1 scL_ok _ (hasN_mem _ h)
theorem sl {t el sz : Nat} (h : get2 slL t = some (el, sz)) : sliceElem Tryd.prog t = some (el, sz) := by
  have := List.all_eq_true.1 slL_ok _ (get2_mem _ h); simpa using this
theorem ar {t n el sz : Nat} (h : get4 arL t = some (n, el, sz)) : arrElem Tryd.prog t = some (n, el, sz) := by
  have := List.all_eq_true.1 arL_ok _ (get4_mem _ h); simpa using this
end Go.Proofs.YtklciidffdnglaaDoor
