/- Tables of the program: field offsets, scalar types, elements of slices and arrays. -/
import Derived.Test.YtbfeailalhddgaaSxOps
import Derived.Test.YtbfeailalhddgaaProg
namespace Go.Proofs.Ytbfeailalhddgaa
def foL : List (Nat × Nat × Nat) := [(25, 0, 0), (25, 1, 1), (25, 2, 2), (34, 0, 0), (34, 1, 1), (34, 2, 2), (54, 0, 0), (54, 1, 1), (54, 2, 2), (54, 3, 3), (54, 4, 4), (54, 5, 5), (54, 6, 6), (61, 0, 0), (61, 1, 1), (61, 2, 2), (63, 0, 0), (63, 1, 1), (63, 2, 2), (63, 3, 3), (63, 4, 4), (63, 5, 5), (67, 0, 0), (67, 1, 1), (74, 0, 0), (74, 1, 1), (74, 2, 2), (76, 0, 0), (76, 1, 1), (76, 2, 2), (76, 3, 3), (76, 4, 4), (76, 5, 5), (76, 6, 6), (85, 0, 0), (85, 1, 1)]
def scL : List Nat := [3, 4, 5, 22, 23, 27, 28, 32, 47, 48, 58, 59, 72, 73]
def slL : List (Nat × Nat × Nat) := [(22, 34, 3), (23, 4, 1), (32, 5, 1), (47, 54, 7), (58, 65, 128), (59, 67, 129), (72, 32, 1), (73, 85, 2)]
def arL : List (Nat × Nat × Nat × Nat) := [(65, 128, 5, 1)]
def ptL : List (Nat × Nat) := [(27, 63), (48, 76)]
def get3 : List (Nat × Nat × Nat) → Nat → Nat → Option Nat
  | [], _, _ => none
  | (a, b, k) :: l, s, f => match Nat.beq a s with
    | true => match Nat.beq b f with
      | true => some k
      | false => get3 l s f
    | false => get3 l s f
def hasN : List Nat → Nat → Bool
  | [], _ => false
  | a :: l, t => match Nat.beq a t with
    | true => true
    | false => hasN l t
def get2 : List (Nat × Nat × Nat) → Nat → Option (Nat × Nat)
  | [], _ => none
  | (a, p) :: l, t => match Nat.beq a t with
    | true => some p
    | false => get2 l t
def get1 : List (Nat × Nat) → Nat → Option Nat
  | [], _ => none
  | (a, p) :: l, t => match Nat.beq a t with
    | true => some p
    | false => get1 l t
theorem get1_mem : ∀ (l : List (Nat × Nat)) {t : Nat} {p : Nat}, get1 l t = some p → (t, p) ∈ l
  | [], _, _, h => by simp [get1] at h
  | (a, q) :: l, t, p, h => by
    unfold get1 at h
    split at h
    · rename_i h1; obtain rfl := Nat.eq_of_beq_eq_true h1; simp only [Option.some.injEq] at h; subst h; simp
    · exact List.mem_cons_of_mem _ (get1_mem l h)
def get4 : List (Nat × Nat × Nat × Nat) → Nat → Option (Nat × Nat × Nat)
  | [], _ => none
  | (a, p) :: l, t => match Nat.beq a t with
    | true => some p
    | false => get4 l t
theorem get3_mem : ∀ (l : List (Nat × Nat × Nat)) {s f k : Nat}, get3 l s f = some k → (s, f, k) ∈ l
  | [], _, _, _, h => by simp [get3] at h
  | (a, b, c) :: l, s, f, k, h => by
    unfold get3 at h
    split at h
    · rename_i h1
      split at h
      · rename_i h2
        obtain rfl := Nat.eq_of_beq_eq_true h1; obtain rfl := Nat.eq_of_beq_eq_true h2
        simp only [Option.some.injEq] at h; subst h; simp
      · exact List.mem_cons_of_mem _ (get3_mem l h)
    · exact List.mem_cons_of_mem _ (get3_mem l h)
theorem hasN_mem : ∀ (l : List Nat) {t : Nat}, hasN l t = true → t ∈ l
  | [], _, h => by simp [hasN] at h
  | a :: l, t, h => by
    unfold hasN at h
    split at h
    · rename_i h1; obtain rfl := Nat.eq_of_beq_eq_true h1; simp
    · exact List.mem_cons_of_mem _ (hasN_mem l h)
theorem get2_mem : ∀ (l : List (Nat × Nat × Nat)) {t : Nat} {p : Nat × Nat}, get2 l t = some p → (t, p) ∈ l
  | [], _, _, h => by simp [get2] at h
  | (a, q) :: l, t, p, h => by
    unfold get2 at h
    split at h
    · rename_i h1; obtain rfl := Nat.eq_of_beq_eq_true h1; simp only [Option.some.injEq] at h; subst h; simp
    · exact List.mem_cons_of_mem _ (get2_mem l h)
theorem get4_mem : ∀ (l : List (Nat × Nat × Nat × Nat)) {t : Nat} {p : Nat × Nat × Nat}, get4 l t = some p → (t, p) ∈ l
  | [], _, _, h => by simp [get4] at h
  | (a, q) :: l, t, p, h => by
    unfold get4 at h
    split at h
    · rename_i h1; obtain rfl := Nat.eq_of_beq_eq_true h1; simp only [Option.some.injEq] at h; subst h; simp
    · exact List.mem_cons_of_mem _ (get4_mem l h)
theorem foL_ok : foL.all (fun x => fieldOff Try.prog x.1 x.2.1 == some x.2.2) = true := by kernel_rfl
theorem scL_ok : scL.all (fun x => scalarTy Try.prog x) = true := by kernel_rfl
theorem slL_ok : slL.all (fun x => sliceElem Try.prog x.1 == some x.2) = true := by kernel_rfl
theorem arL_ok : arL.all (fun x => arrElem Try.prog x.1 == some x.2) = true := by kernel_rfl
theorem ptL_ok : ptL.all (fun x => ptrElem Try.prog x.1 == some x.2) = true := by kernel_rfl
theorem hmix : Try.prog.follows .mixedOrders = true := by kernel_rfl
theorem pt {t el : Nat} (h : get1 ptL t = some el) : ptrElem Try.prog t = some el := by
  have := List.all_eq_true.1 ptL_ok _ (get1_mem _ h); simpa using this
theorem fo {s f k : Nat} (h : get3 foL s f = some k) : fieldOff Try.prog s f = some k := by
  have := List.all_eq_true.1 foL_ok _ (get3_mem _ h); simpa using this
theorem yp {e : Env} {o : Oper} {w : World} {v : Value} (h : pureOp (get3 foL) e o.op = some v) : Y Try.prog e o w v := y_pure (fun _ _ _ h => fo h) h
theorem sc {t : Nat} (h : hasN scL t = true) : scalarTy Try.prog t = true := List.all_eq_true.1 scL_ok _ (hasN_mem _ h)
theorem sl {t el sz : Nat} (h : get2 slL t = some (el, sz)) : sliceElem Try.prog t = some (el, sz) := by
  have := List.all_eq_true.1 slL_ok _ (get2_mem _ h); simpa using this
theorem ar {t n el sz : Nat} (h : get4 arL t = some (n, el, sz)) : arrElem Try.prog t = some (n, el, sz) := by
  have := List.all_eq_true.1 arL_ok _ (get4_mem _ h); simpa using this
end Go.Proofs.Ytbfeailalhddgaa
