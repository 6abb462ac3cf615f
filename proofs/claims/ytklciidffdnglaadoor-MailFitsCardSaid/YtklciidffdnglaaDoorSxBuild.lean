/- Structs and slices that are built out of parts, by the environment. Over any program. No condition. -/
import Derived.Test.YtklciidffdnglaaDoorSxAny
import Derived.Laws.Tables
import Derived.Great.BuildSlice
namespace Go.Proofs.YtklciidffdnglaaDoor
open Go.RowKit

def evp (e : Env) : List (Nat × Operand) → Option (List (Nat × Value))
  | [] => some []
  | (i, x) :: xs => match ev e x, evp e xs with
    | some v, some vs => some ((i, v) :: vs)
    | _, _ => none
theorem Ag.parts {e : Env} {ρ : Operand → Value} (h : Ag e ρ) : ∀ {xs : List (Nat × Operand)} {vs : List (Nat × Value)}, evp e xs = some vs → xs.map (fun (i, x) => (i, ρ x)) = vs
  | [], vs, hx => by simp [evp] at hx; simp [hx]
  | (i, x) :: xs, vs, hx => by
    unfold evp at hx
    cases h1 : ev e x with
    | none => simp [h1] at hx
    | some v =>
      cases h2 : evp e xs with
      | none => simp [h1, h2] at hx
      | some us =>
        simp only [h1, h2, Option.some.injEq] at hx
        subst hx
        rw [List.map_cons, h.parts h2]
        show (i, ρ x) :: us = _
        rw [h x v h1]
theorem put_get (cs xs : List Value) (off i : Nat) (h : off ≤ cs.length) : (put cs off xs)[i]? = if i < off then cs[i]? else if i < off + xs.length then xs[i - off]? else cs[i]? := by
  unfold put
  have hl : (cs.take off).length = off := by simp; omega
  by_cases h1 : i < off
  · rw [if_pos h1, List.getElem?_append_left (by omega), List.getElem?_take_of_lt h1]
  · rw [if_neg h1, List.getElem?_append_right (by omega), hl]
    by_cases h2 : i < off + xs.length
    · rw [if_pos h2, List.getElem?_append_left (by omega)]
    · rw [if_neg h2, List.getElem?_append_right (by omega), List.getElem?_drop]
      congr 1; omega
theorem put_cons (cs vs : List Value) (k : Nat) (v : Value) (h : k + 1 + vs.length ≤ cs.length) : put (cs.set k v) (k + 1) vs = put cs k (v :: vs) := by
  apply List.ext_getElem?
  intro i
  rw [put_get _ _ _ _ (by rw [List.length_set]; omega), put_get _ _ _ _ (by omega), List.length_cons]
  by_cases h1 : i < k
  · rw [if_pos (by omega), if_pos h1, List.getElem?_set_ne (by omega)]
  · by_cases h2 : i = k
    · subst h2
      rw [if_pos (by omega), if_neg h1, if_pos (by omega), List.getElem?_set_self (by omega), Nat.sub_self]; rfl
    · rw [if_neg (by omega), if_neg h1]
      by_cases h3 : i < k + 1 + vs.length
      · rw [if_pos h3, if_pos (by omega), show i - k = (i - (k + 1)) + 1 by omega, List.getElem?_cons_succ]
      · rw [if_neg h3, if_neg (by omega), List.getElem?_set_ne (by omega)]
theorem foldl_set (off : Nat) : ∀ (vs : List Value) (j : Nat) (cells : List Value), off + j + vs.length ≤ cells.length →
    (vs.zipIdx j).foldl (fun (cs : Array Value) (p : Value × Nat) => cs.setIfInBounds (off + p.2) p.1) cells.toArray = (put cells (off + j) vs).toArray
  | [], j, cells, _ => by simp [put_nil]
  | v :: vs, j, cells, h => by
    simp only [List.length_cons] at h
    rw [List.zipIdx_cons, List.foldl_cons, List.setIfInBounds_toArray, foldl_set off vs (j + 1) _ (by rw [List.length_set]; omega)]
    rw [show off + (j + 1) = off + j + 1 by omega, put_cons _ _ _ _ (by omega)]
theorem fill_cons (place : Nat → Option (Nat × Nat)) (cells : List Value) (i off : Nat) (v : Value) (vs : List Value) (rest : List (Nat × Value)) (hv : v.cells = vs.toArray) (hp : place i = some (off, vs.length)) (hl : off + vs.length ≤ cells.length) :
    Instr.fill place cells.toArray ((i, v) :: rest) = Instr.fill place (put cells off vs).toArray rest := by
  have hf := foldl_set off vs 0 cells (by omega)
  conv => lhs; unfold Instr.fill
  rw [hp]
  simp only [hv, List.size_toArray, ne_eq, not_true_eq_false, decide_false, Bool.false_or, decide_eq_true_eq]
  rw [if_neg (by omega)]
  rw [← Array.foldl_toList, Array.toList_zipIdx]
  simp only [Nat.add_zero] at hf
  rw [hf]
/-- Parts one behind the other. -/
theorem fill_dense (size : Nat) : ∀ (vs : List Value) (j : Nat) (pre rest : List Value), pre.length = j * size → rest.length = vs.length * size → (∀ v ∈ vs, v.cells.size = size) →
    Instr.fill (fun i => some (i * size, size)) (pre ++ rest).toArray ((vs.zipIdx j).map fun x => (x.2, x.1)) = some (pre ++ (vs.map fun v => v.cells.toList).flatten).toArray
  | [], j, pre, rest, _, hr, _ => by
    have : rest = [] := List.eq_nil_of_length_eq_zero (by simpa using hr)
    subst this
    simp [Instr.fill]
  | v :: vs, j, pre, rest, hp, hr, hv => by
    have hvs : v.cells.toList.length = size := by simpa using hv v (by simp)
    simp only [List.length_cons, Nat.add_mul, Nat.one_mul] at hr
    rw [List.zipIdx_cons, List.map_cons]
    rw [fill_cons _ _ j (j * size) v v.cells.toList _ (by simp) (by rw [hvs]) (by rw [List.length_append, hvs]; omega)]
    have e : put (pre ++ rest) (j * size) v.cells.toList = (pre ++ v.cells.toList) ++ rest.drop size := by
      unfold put
      rw [← hp, List.take_left, hvs, List.drop_append, List.drop_of_length_le (by omega), List.nil_append, List.append_assoc]
      congr 3; omega
    rw [e, fill_dense size vs (j + 1) _ _ (by rw [List.length_append, hvs, hp, Nat.add_mul]; omega) (by rw [List.length_drop]; omega) (fun u hu => hv u (by simp [hu]))]
    simp

section
variable {P : Program} {e : Env} {w : World} {o : Oper}
theorem y_build {t : Nat} {parts : List (Nat × Operand)} {ps : List (Nat × Value)} {cells : Array Value} (ho : o.op = .build t parts.toArray) (hp : evp e parts = some ps) (hb : P.built t ps = some cells) : Y P e o w (.agg cells) := fun ρ h => by
  have := h.parts hp
  unfold execOp
  simp only [ho, Sem.run_bind]
  have hm : (parts.toArray.map fun (i, x) => (i, ρ x)) = ps.toArray := by simp [this]
  rw [hm, run_build w t ps.toArray cells (by simpa using hb)]
  rfl
/-- An array is loaded out of a slice's memory. -/
theorem y_loadRd {t b off n : Nat} {x : Operand} {d : TypeDesc} {xs : List Value} (ho : o.op = .load t x) (hx : ev e x = some (.pointer (some ⟨b, off, none⟩))) (hr : Rd w (some ⟨b, off, none⟩) n xs) (hu : P.underlying t = some d) (hd : d.isRow = true) (hi : (P.info? t).map (·.size) = some n) : Y P e o w (.agg xs.toArray) := fun _ h =>
  exec_loadRd t x ho b off n xs d (h _ _ hx) hr hu hd hi
/-- []T{a, b, ..}: a new row. -/
theorem does_slice {ρ : Operand → Value} {t el size len : Nat} {parts : List (Nat × Operand)} {ps : List (Nat × Value)} (vs : List Value) (z : Value) (hρ : Ag e ρ) (ho : o.op = .buildSlice t len parts.toArray) (hp : evp e parts = some ps) (hps : ps = (vs.zipIdx 0).map fun x => (x.2, x.1)) (hlen : vs.length = len)
    (hu : P.underlying t = some (.slice el)) (hi : (P.info? el).map (fun i => (i.zero, i.size)) = some (some z, size)) (hpos : 0 < len * size) (hsm : len * size ≤ 16777216) (hv : ∀ v ∈ vs, v.cells.size = size) :
    Does P ρ o w fun v w' => ∃ g, v = .slice (some ⟨g, 0, none⟩) len len ∧ w.heap.size ≤ g ∧ g < w'.heap.size ∧ Blk w' g el ((vs.map fun v => v.cells.toList).flatten) ∧ Fr0 w w' := by
  cases hq : P.info? el with
  | none => simp [hq] at hi
  | some i =>
    obtain ⟨hz, hsize⟩ : i.zero = some z ∧ i.size = size := by simpa [hq] using hi
    subst hsize
    have hm : (parts.toArray.map fun (i, x) => (i, ρ x)) = ps.toArray := by simp [hρ.parts hp]
    have hfill := fill_dense i.size vs 0 [] ((Array.range (len * i.size)).map (z.cells[· % z.cells.size]!)).toList (by simp) (by simp [hlen]) hv
    simp only [List.nil_append] at hfill
    rw [Array.toArray_toList] at hfill
    refine ⟨_, w.alloc (.cells ((vs.map fun v => v.cells.toList).flatten).toArray el), .inl ?_, w.heap.size, rfl, Nat.le_refl _, by simp, Blk.new w el _, Fr.refl.alloc _⟩
    have hr := run_buildSlice (P := P) w t el len ps.toArray _ i z hu hq hz (by simp; omega) (by omega) (by rw [hps]; exact hfill)
    unfold execOp
    simp only [ho, Sem.run_bind, hm, hr, Result.andThen_ok]
    rfl
end
end Go.Proofs.YtklciidffdnglaaDoor
