/- The machine that runs closed code: its memory is read, written and grows as the model's. Over any program. No condition. -/
import Derived.Test.YtklciidffdnglaaDoorKc
namespace Go.Proofs.YtklciidffdnglaaDoor
open Go.RowKit

namespace VR
variable {σ : Sg} {u : Value}
theorem scal_inv {v : Value} (hs : scal v = true) (h : VR σ v u) : u = v := by
  cases h with
  | sc _ _ _ => rfl
  | _ => cases hs
theorem ptr_inv {id off : Nat} (h : VR σ (.pointer (some ⟨id, off, none⟩)) u) : ∃ L, σ id = some L ∧ u = .pointer (some ⟨L.blk, L.base + off, none⟩) := by
  cases h with
  | sc _ hs _ => cases hs
  | ptr h _ => exact ⟨_, h, rfl⟩
theorem sl_inv {id off n c : Nat} (h : VR σ (.slice (some ⟨id, off, none⟩) n c) u) : ∃ L, σ id = some L ∧ u = .slice (some ⟨L.blk, L.base + off, none⟩) n c := by
  cases h with
  | sc _ hs _ => cases hs
  | sl h _ => exact ⟨_, h, rfl⟩
theorem slo_inv {id off n z : Nat} (h : VR σ (.slice (some ⟨id, off, some z⟩) n 0) u) : ∃ L c', σ id = some L ∧ n ≤ c' ∧ L.base + off + c' * z = L.size ∧ (0 : Nat) = 0 ∧ u = .slice (some ⟨L.blk, L.base + off, none⟩) n c' := by
  cases h with
  | sc _ hs _ => cases hs
  | slo h h1 h2 _ => exact ⟨_, _, h, h1, h2, rfl, rfl⟩
theorem slice_any {id off n c : Nat} {sp : Option Nat} (h : VR σ (.slice (some ⟨id, off, sp⟩) n c) u) : ∃ L A c', σ id = some L ∧ u = .slice (some ⟨L.blk, A, none⟩) n c' ∧ (A = L.base + off ∨ n = 0) := by
  cases h with
  | sc _ hs _ => cases hs
  | sl h _ => exact ⟨_, _, _, h, rfl, .inl rfl⟩
  | slo h h1 h2 _ => exact ⟨_, _, _, h, rfl, .inl rfl⟩
  | sle h h1 _ => exact ⟨_, _, _, h, rfl, .inr rfl⟩
theorem slice_inv {id off n c : Nat} {sp : Option Nat} (h : VR σ (.slice (some ⟨id, off, sp⟩) n c) u) (hn : 0 < n) : ∃ L c', σ id = some L ∧ u = .slice (some ⟨L.blk, L.base + off, none⟩) n c' := by
  obtain ⟨L, A, c', h1, rfl, rfl | h2⟩ := h.slice_any
  · exact ⟨L, c', h1, rfl⟩
  · omega
theorem map_inv {id : Nat} (h : VR σ (.map (some id)) u) : ∃ L, σ id = some L ∧ u = .map (some L.blk) := by
  cases h with
  | sc _ hs _ => cases hs
  | map h _ => exact ⟨_, h, rfl⟩
theorem agg_inv {xs : List Value} (h : VR σ (.agg ⟨xs⟩) u) : ∃ ys, u = .agg ⟨ys⟩ ∧ VRs σ xs ys := by
  cases h with
  | sc _ hs _ => cases hs
  | agg h _ => exact ⟨_, rfl, h⟩
theorem tuple_inv {xs : List Value} (h : VR σ (.tuple ⟨xs⟩) u) : ∃ ys, u = .tuple ⟨ys⟩ ∧ VRs σ xs ys := by
  cases h with
  | sc _ hs _ => cases hs
  | tuple h _ => exact ⟨_, rfl, h⟩
theorem func_inv {f : FuncId} {xs xs' : List Value} (h : VR σ (.func (.func f) ⟨xs⟩ ⟨xs'⟩) u) : ∃ ys ys', u = .func (.func f) ⟨ys⟩ ⟨ys'⟩ ∧ VRs σ xs ys ∧ VRs σ xs' ys' := by
  cases h with
  | sc _ hs _ => cases hs
  | func f h h' _ => exact ⟨_, _, rfl, h, h'⟩
theorem yld_inv {id : Nat} (h : VR σ (.func (.yield id) ⟨[]⟩ ⟨[]⟩) u) : ∃ L, σ id = some L ∧ u = .func (.yield L.blk) ⟨[]⟩ ⟨[]⟩ := by
  cases h with
  | sc _ hs _ => cases hs
  | yld h _ => exact ⟨_, h, rfl⟩
theorem eq_of_flat {v : Value} (hf : flat v = true) (h : VR σ v u) : u = v := by
  have := VRs.eq_of_flat 100000 hf h
  injection this
theorem of_flat {v : Value} (hf : flat v = true) : VR σ v v := flatN_ok 100000 hf
theorem int {k : IntKind} {n : Int} : VR σ (.int k n) (.int k n) := .sc _ rfl .nil
theorem bool {b : Bool} : VR σ (.bool b) (.bool b) := .sc _ rfl .nil
theorem str {s : ByteArray} : VR σ (.string s) (.string s) := .sc _ rfl .nil
theorem undef : VR σ undef undef := .tuple (xs := []) (ys := []) .nil .nil
end VR
theorem VRs.one' {σ : Sg} {x : Value} {us : List Value} (h : VRs σ [x] us) : ∃ y, us = [y] ∧ VR σ x y := by
  obtain ⟨y, vs', rfl, h1, h2⟩ := h.inv
  rw [h2.inv_nil] at *
  exact ⟨y, rfl, h1⟩

section
variable {P : Program} {G : Nat} {σ : Sg} {nx : Nat} {w : World}
/-- What a block of cells says. -/
theorem MR.cells {h : Hf} (m : MR G σ h nx w) {id elem n k : Nat} {c : Tb Value} {L : Loc} (hb : h id = some (.cells elem n k c)) (hL : σ id = some L) :
    ∃ (row : Array Value) (fz : Nat × Nat), w.heap[L.blk]? = some (.cells row elem fz) ∧ row.size = L.size ∧ L.base + n ≤ L.size ∧ (∀ i, (c.get i).isSome = true ↔ i < n) ∧
      (∀ i v, c.get i = some v → ∃ u, row[L.base + i]? = some u ∧ VR σ v u) ∧ (k ≠ 2 → ∀ i, i < L.size → w.frozen? ⟨L.blk, i, none⟩ = false) ∧ (k ≠ 2 → fz.1 = fz.2 ∨ L.size ≤ fz.1) := by
  obtain ⟨L', h1, h2⟩ := m.blk id _ hb
  rw [hL] at h1; injection h1 with h1; subst h1
  obtain ⟨row, fz, h3, h4, h5, h6, h7, h8⟩ := h2
  refine ⟨row, fz, h3, h4, h5, h6, h7, fun hk i hi => ?_, h8⟩
  simp only [World.frozen?, h3, Bool.and_eq_false_iff, decide_eq_false_iff_not]
  rcases h8 hk with h9 | h9 <;> omega
theorem MR.cell {h : Hf} (m : MR G σ h nx w) {id elem n k off : Nat} {c : Tb Value} {L : Loc} {v : Value} (hb : h id = some (.cells elem n k c)) (hL : σ id = some L) (hv : c.get off = some v) :
    ∃ u, w.cell? ⟨L.blk, L.base + off, none⟩ = some u ∧ VR σ v u := by
  obtain ⟨row, fz, h1, _, _, _, h5, _, _⟩ := m.cells hb hL
  obtain ⟨u, hu, hr⟩ := h5 off v hv
  exact ⟨u, by rw [cell_of_row w L.blk _ row elem fz h1]; exact hu, hr⟩
theorem ldN_succ (c : Tb Value) (n off : Nat) : ldN c (n + 1) off = oo (c.get off) none (fun v => oo (ldN c n (off + 1)) none (fun l => some (v :: l))) := rfl
theorem MR.ldN {h : Hf} (m : MR G σ h nx w) {id elem n k : Nat} {c : Tb Value} {L : Loc} (hb : h id = some (.cells elem n k c)) (hL : σ id = some L) : ∀ (j off : Nat) {l : List Value}, ldN c j off = some l →
    ∃ us, VRs σ l us ∧ us.length = j ∧ w.rangeAt L.blk (L.base + off) us
  | 0, off, l, hl => by
    have : l = [] := by injection hl with hl; exact hl.symm
    subst this
    exact ⟨[], .nil, rfl, fun j v hv => by simp at hv⟩
  | j + 1, off, l, hl => by
    rw [ldN_succ] at hl
    obtain ⟨v, hv, hl⟩ := oo_inv hl (by simp)
    obtain ⟨l', hl', hl⟩ := oo_inv hl (by simp)
    injection hl with hl; subst hl
    obtain ⟨u, hu, hr⟩ := m.cell hb hL hv
    obtain ⟨us, h1, h2, h3⟩ := m.ldN hb hL j (off + 1) hl'
    refine ⟨u :: us, .cons hr h1, by simp [h2], fun i x hx => ?_⟩
    cases i with
    | zero => simp only [List.getElem?_cons_zero, Option.some.injEq] at hx; subst hx; simpa using hu
    | succ i =>
      have := h3 i x (by simpa using hx)
      rwa [show L.base + off + (i + 1) = L.base + (off + 1) + i by omega]
theorem ldN_length (c : Tb Value) : ∀ (j off : Nat) {l : List Value}, ldN c j off = some l → l.length = j
  | 0, off, l, hl => by injection hl with hl; subst hl; rfl
  | j + 1, off, l, hl => by
    rw [ldN_succ] at hl
    obtain ⟨v, hv, hl⟩ := oo_inv hl (by simp)
    obtain ⟨l', hl', hl⟩ := oo_inv hl (by simp)
    injection hl with hl; subst hl
    simp [ldN_length c j _ hl']
theorem ldN_get (c : Tb Value) : ∀ (j off : Nat) {l : List Value}, ldN c j off = some l → ∀ i, i < j → c.get (off + i) = l[i]?
  | 0, off, l, hl => fun i hi => by omega
  | j + 1, off, l, hl => fun i hi => by
    rw [ldN_succ] at hl
    obtain ⟨v, hv, hl⟩ := oo_inv hl (by simp)
    obtain ⟨l', hl', hl⟩ := oo_inv hl (by simp)
    injection hl with hl; subst hl
    cases i with
    | zero => simpa using hv
    | succ i =>
      have := ldN_get c j (off + 1) hl' i (by omega)
      rw [show off + (i + 1) = off + 1 + i by omega, this]; simp

theorem stN_cons (v : Value) (vs : List Value) (c : Tb Value) (off : Nat) : stN (v :: vs) c off = stN vs (c.put off v) (off + 1) := rfl
theorem stN_get : ∀ (vs : List Value) (c : Tb Value) (off i : Nat), (stN vs c off).get i = if off ≤ i ∧ i < off + vs.length then vs[i - off]? else c.get i
  | [], c, off, i => by
    show c.get i = _
    rw [if_neg (by simp)]
  | v :: vs, c, off, i => by
    rw [stN_cons, stN_get vs (c.put off v) (off + 1) i, Tb.get_put]
    by_cases h1 : i = off
    · subst h1
      rw [if_neg (by omega), if_pos rfl, if_pos (by simp)]; simp
    · by_cases h2 : off + 1 ≤ i ∧ i < off + 1 + vs.length
      · rw [if_pos h2, if_pos (by simp; omega), show i - off = (i - (off + 1)) + 1 by omega]; simp
      · rw [if_neg h2, if_neg h1, if_neg (by simp; omega)]

/-- A row with some cells written. -/
def rowPut (row : Array Value) : Nat → List Value → Array Value
  | _, [] => row
  | o, v :: r => rowPut (row.setIfInBounds o v) (o + 1) r
theorem rowPut_size : ∀ (vs : List Value) (row : Array Value) (o : Nat), (rowPut row o vs).size = row.size
  | [], _, _ => rfl
  | v :: r, row, o => by rw [rowPut, rowPut_size r]; simp
theorem rowPut_get : ∀ (vs : List Value) (row : Array Value) (o i : Nat), o + vs.length ≤ row.size → (rowPut row o vs)[i]? = if o ≤ i ∧ i < o + vs.length then vs[i - o]? else row[i]?
  | [], row, o, i, _ => by rw [if_neg (by simp)]; rfl
  | v :: r, row, o, i, hl => by
    simp only [List.length_cons] at hl
    rw [rowPut, rowPut_get r _ (o + 1) i (by simp; omega)]
    by_cases h1 : i = o
    · subst h1
      rw [if_neg (by omega), if_pos (by simp), Array.getElem?_setIfInBounds_self_of_lt (by omega)]; simp
    · rw [Array.getElem?_setIfInBounds_ne (Ne.symm h1)]
      by_cases h2 : o + 1 ≤ i ∧ i < o + 1 + r.length
      · rw [if_pos h2, if_pos (by simp; omega), show i - o = (i - (o + 1)) + 1 by omega]; simp
      · rw [if_neg h2, if_neg (by simp; omega)]
theorem setCells_row (b : Nat) : ∀ (vs : List Value) (o : Nat) (w : World) (row : Array Value) (el : TypeId) (fz : Nat × Nat), w.heap[b]? = some (.cells row el fz) → (w.setCells b o vs).heap[b]? = some (.cells (rowPut row o vs) el fz)
  | [], _, _, _, _, _, h => h
  | v :: r, o, w, row, el, fz, h => by
    rw [World.setCells, rowPut]
    exact setCells_row b r (o + 1) _ _ el fz (by simp [World.setCell, Array.getElem?_modify, h])
theorem setCells_size (b : Nat) : ∀ (vs : List Value) (o : Nat) (w : World), (w.setCells b o vs).heap.size = w.heap.size
  | [], _, _ => rfl
  | v :: r, o, w => by rw [World.setCells, setCells_size b r]; simp [World.setCell]
theorem setCells_other (b : Nat) : ∀ (vs : List Value) (o : Nat) (w : World) (r : Nat), r ≠ b → (w.setCells b o vs).heap[r]? = w.heap[r]?
  | [], _, _, _, _ => rfl
  | v :: vs, o, w, r, h => by rw [World.setCells, setCells_other b vs _ _ r h]; exact Below.heap_setCell _ _ _ _ h
theorem setCells_rest (b : Nat) : ∀ (vs : List Value) (o : Nat) (w : World), (w.setCells b o vs).os = w.os ∧ (w.setCells b o vs).tape = w.tape ∧ (w.setCells b o vs).output = w.output
  | [], _, _ => ⟨rfl, rfl, rfl⟩
  | v :: vs, o, w => by
    obtain ⟨h1, h2, h3⟩ := setCells_rest b vs (o + 1) (w.setCell ⟨b, o, none⟩ v)
    exact ⟨h1, h2, h3⟩

/-- A block is changed in place. -/
theorem MR.upd {h : Hf} (m : MR G σ h nx w) {id : Nat} {L : Loc} {B B' : Bl} (hb : h id = some B) (hL : σ id = some L) {w' : World} (hbr : BR σ L w' B')
    (hrest : w'.os = w.os ∧ w'.tape = w.tape ∧ w'.output = w.output) (hsize : w'.heap.size = w.heap.size) (hother : ∀ r, r ≠ L.blk → w'.heap[r]? = w.heap[r]?) (hro : ¬ B.ro := by simp [Bl.ro]) :
    Tr G σ h nx w σ (fun i => if i = id then some B' else h i) nx w' where
  le := Nat.le_refl _
  ext := Sg.le.refl σ
  old _ _ := rfl
  mr := by
    have hsome : ∀ i, (if i = id then some B' else h i).isSome = true → (h i).isSome = true := fun i hi => by
      by_cases e : i = id
      · subst e; simp [hb]
      · rwa [if_neg e] at hi
    refine ⟨fun i B'' hi => ?_, fun i i' L1 L2 h1 h2 h3 h4 h5 => m.sep i i' L1 L2 (hsome i h1) (hsome i' h2) h3 h4 h5, m.free, m.glob, m.gle⟩
    by_cases e : i = id
    · subst e
      rw [if_pos rfl] at hi; injection hi with hi; subst hi
      exact ⟨L, hL, hbr⟩
    · rw [if_neg e] at hi
      obtain ⟨L1, h1, h2⟩ := m.blk i B'' hi
      refine ⟨L1, h1, h2.keep (Sg.le.refl σ) (hother _ fun e2 => e (m.sep i id L1 L (by simp [hi]) (by simp [hb]) h1 hL e2))⟩
  os := hrest.1
  tape := hrest.2.1
  output := hrest.2.2
  size := by rw [hsize]; exact Nat.le_refl _
  fr r _ hn := hother r fun e => hn id L (by simp [hb]) hL e.symm
  src i L' hi hs := .inr ⟨i, L', by
    by_cases e : i = id
    · subst e; simp [hb]
    · simpa [if_neg e] using hi, hs, rfl⟩
  dom i _ hn := by
    by_cases e : i = id
    · subst e; rw [hb] at hn; cases hn
    · rw [if_neg e]; exact hn
  qt r _ hq := by
    have hne : r ≠ L.blk := fun e => hro (hq id L B hb hL e.symm)
    refine ⟨hother r hne, fun i L1 B1 (h1 : (if i = id then some B' else h i) = some B1) h2 h3 => ?_⟩
    by_cases e : i = id
    · subst e
      rw [hL] at h2; injection h2 with h2; subst h2
      exact absurd h3.symm hne
    · rw [if_neg e] at h1; exact hq i L1 B1 h1 h2 h3
theorem Tb.put_fun {α : Type} (t : Tb α) (k : Nat) (v : α) : (t.put k v).get = fun i => if i = k then some v else t.get i := funext fun i => t.get_put k v i
theorem wr_inv {h h' : Hp} {id off : Nat} {vs : List Value} (hw : wrCells h id off vs = some h') : ∃ el n k c, h.get id = some (.cells el n k c) ∧ off + vs.length ≤ n ∧ k = 0 ∧ vs.all (·.oneCell') = true ∧ h' = h.put id (.cells el n k (stN vs c off)) := by
  unfold wrCells at hw
  simp only [stS_eq, putS_eq] at hw
  split at hw
  · rename_i el n k c hb
    obtain ⟨h1, h2⟩ := bo_inv hw (by simp)
    simp only [Bool.and_eq_true] at h1
    injection h2 with h2
    exact ⟨el, n, k, c, hb, Nat.le_of_ble_eq_true h1.1, Nat.eq_of_beq_eq_true h1.2.1, h1.2.2, h2.symm⟩
  · cases hw
/-- Cells are written. -/
theorem MR.write {h h' : Hp} (m : MR G σ h.get nx w) {id off : Nat} {L : Loc} {vs us : List Value} (hw : wrCells h id off vs = some h') (hL : σ id = some L) (hv : VRs σ vs us) :
    (storeCells ⟨L.blk, L.base + off, none⟩ us).run P w = .ok () (w.setCells L.blk (L.base + off) us) ∧ Tr G σ h.get nx w σ h'.get nx (w.setCells L.blk (L.base + off) us) := by
  obtain ⟨el, n, k, c, hb, hle, rfl, hone, rfl⟩ := wr_inv hw
  obtain ⟨row, fz, h1, h2, h3, h4, h5, h6, h7⟩ := m.cells hb hL
  have hlen := hv.len
  constructor
  · refine run_storeCells_cells (P := P) L.blk (L.base + off) us 0 w (fun j hj => ?_) (fun j hj => h6 (by simp) _ (by omega)) (hv.one hone)
    rw [cell_of_row w L.blk _ row el fz h1, Array.getElem?_eq_getElem (by omega)]; rfl
  · rw [Tb.put_fun]
    refine m.upd hb hL ⟨rowPut row (L.base + off) us, fz, setCells_row _ _ _ _ _ _ _ h1, by rw [rowPut_size, h2], h3, fun i => ?_, fun i v hi => ?_, fun _ => h7 (by simp)⟩ (setCells_rest _ _ _ _) (setCells_size _ _ _ _) (fun r hr => setCells_other _ _ _ _ r hr)
    · rw [stN_get, ← h4 i]
      by_cases hc : off ≤ i ∧ i < off + vs.length
      · rw [if_pos hc]
        have h9 : (c.get i).isSome = true := (h4 i).2 (by omega)
        have h8 : (vs[i - off]?).isSome = true := by rw [List.getElem?_eq_getElem (by omega)]; rfl
        rw [h9, h8]
      · rw [if_neg hc]
    · rw [stN_get] at hi
      rw [rowPut_get _ _ _ _ (by omega)]
      by_cases hc : off ≤ i ∧ i < off + vs.length
      · rw [if_pos hc] at hi
        rw [if_pos (by omega), show L.base + i - (L.base + off) = i - off by omega]
        exact hv.get hi
      · rw [if_neg hc] at hi
        rw [if_neg (by omega)]
        exact h5 i v hi
/-- A new block. -/
theorem MR.new {h : Hf} (m : MR G σ h nx w) {w' : World} (L : Loc) (B : Bl) (hL : L.blk = w.heap.size) (hrest : w'.os = w.os ∧ w'.tape = w.tape ∧ w'.output = w.output) (hsize : w'.heap.size = w.heap.size + 1) (hold : ∀ r, r < w.heap.size → w'.heap[r]? = w.heap[r]?)
    (hbr : ∀ σ' : Sg, σ.le σ' → BR σ' L w' B) :
    Tr G σ h nx w (fun i => if i = nx then some L else σ i) (fun i => if i = nx then some B else h i) (nx + 1) w' := by
  have hle : σ.le (fun i => if i = nx then some L else σ i) := fun i L' hi => by
    by_cases e : i = nx
    · subst e; rw [m.free i (Nat.le_refl _)] at hi; cases hi
    · simp only [if_neg e]; exact hi
  have hlt : ∀ i B' L', h i = some B' → σ i = some L' → L'.blk < w.heap.size := fun i B' L' h1 h2 => by
    obtain ⟨L1, h3, h4⟩ := m.blk i B' h1
    rw [h2] at h3; injection h3 with h3; subst h3
    exact h4.lt
  refine ⟨by omega, hle, fun i hi => by rw [if_neg (by omega)], ⟨fun i B' hi => ?_, fun i i' L1 L2 h1 h2 h3 h4 h5 => ?_, fun i hi => ?_, fun g hg => ?_, by have := m.gle; omega⟩, hrest.1, hrest.2.1, hrest.2.2, by omega, fun r hr _ => hold r hr, fun i L' hi hs => ?_, fun i hi hn => by rw [if_neg (by omega)]; exact hn, fun r hr hq => ⟨hold r hr, fun i L1 B1 (h1 : (if i = nx then some B else h i) = some B1) (h2 : (if i = nx then some L else σ i) = some L1) h3 => by
    by_cases e : i = nx
    · rw [if_pos e] at h2; injection h2 with h2; subst h2; omega
    · rw [if_neg e] at h1 h2; exact hq i L1 B1 h1 h2 h3⟩⟩
  · by_cases e : i = nx
    · subst e
      rw [if_pos rfl] at hi; injection hi with hi; subst hi
      exact ⟨L, by rw [if_pos rfl], hbr _ hle⟩
    · rw [if_neg e] at hi
      obtain ⟨L1, h1, h2⟩ := m.blk i B' hi
      exact ⟨L1, by rw [if_neg e]; exact h1, h2.keep hle (hold _ h2.lt)⟩
  · by_cases e : i = nx <;> by_cases e' : i' = nx
    · rw [e, e']
    · rw [if_pos e] at h3; injection h3 with h3; subst h3
      rw [if_neg e'] at h4 h2
      obtain ⟨B2, hB2⟩ := Option.isSome_iff_exists.1 h2
      have := hlt i' B2 L2 hB2 h4
      omega
    · rw [if_pos e'] at h4; injection h4 with h4; subst h4
      rw [if_neg e] at h3 h1
      obtain ⟨B1, hB1⟩ := Option.isSome_iff_exists.1 h1
      have := hlt i B1 L1 hB1 h3
      omega
    · rw [if_neg e] at h3 h1; rw [if_neg e'] at h4 h2
      exact m.sep i i' L1 L2 h1 h2 h3 h4 h5
  · rw [if_neg (by omega)]; exact m.free i (by omega)
  · rw [if_neg (by have := m.gle; omega)]; exact m.glob g hg
  · by_cases e : i = nx
    · rw [if_pos e] at hs; injection hs with hs; subst hs
      exact .inl (by omega)
    · rw [if_neg e] at hi hs
      exact .inr ⟨i, L', hi, hs, rfl⟩
/-- A block that was laid meanwhile gets a number. -/
theorem MR.adopt {h : Hf} (m : MR G σ h nx w) {w' : World} (L : Loc) (B : Bl) (hL : w.heap.size ≤ L.blk) (hrest : w'.os = w.os ∧ w'.tape = w.tape ∧ w'.output = w.output) (hsize : w.heap.size ≤ w'.heap.size) (hold : ∀ r, r < w.heap.size → w'.heap[r]? = w.heap[r]?)
    (hbr : ∀ σ' : Sg, σ.le σ' → BR σ' L w' B) :
    Tr G σ h nx w (fun i => if i = nx then some L else σ i) (fun i => if i = nx then some B else h i) (nx + 1) w' := by
  have hle : σ.le (fun i => if i = nx then some L else σ i) := fun i L' hi => by
    by_cases e : i = nx
    · subst e; rw [m.free i (Nat.le_refl _)] at hi; cases hi
    · simp only [if_neg e]; exact hi
  have hlt : ∀ i B' L', h i = some B' → σ i = some L' → L'.blk < w.heap.size := fun i B' L' h1 h2 => by
    obtain ⟨L1, h3, h4⟩ := m.blk i B' h1
    rw [h2] at h3; injection h3 with h3; subst h3
    exact h4.lt
  refine ⟨by omega, hle, fun i hi => by rw [if_neg (by omega)], ⟨fun i B' hi => ?_, fun i i' L1 L2 h1 h2 h3 h4 h5 => ?_, fun i hi => ?_, fun g hg => ?_, by have := m.gle; omega⟩, hrest.1, hrest.2.1, hrest.2.2, by omega, fun r hr _ => hold r hr, fun i L' hi hs => ?_, fun i hi hn => by rw [if_neg (by omega)]; exact hn, fun r hr hq => ⟨hold r hr, fun i L1 B1 (h1 : (if i = nx then some B else h i) = some B1) (h2 : (if i = nx then some L else σ i) = some L1) h3 => by
    by_cases e : i = nx
    · rw [if_pos e] at h2; injection h2 with h2; subst h2; omega
    · rw [if_neg e] at h1 h2; exact hq i L1 B1 h1 h2 h3⟩⟩
  · by_cases e : i = nx
    · subst e
      rw [if_pos rfl] at hi; injection hi with hi; subst hi
      exact ⟨L, by rw [if_pos rfl], hbr _ hle⟩
    · rw [if_neg e] at hi
      obtain ⟨L1, h1, h2⟩ := m.blk i B' hi
      exact ⟨L1, by rw [if_neg e]; exact h1, h2.keep hle (hold _ h2.lt)⟩
  · by_cases e : i = nx <;> by_cases e' : i' = nx
    · rw [e, e']
    · rw [if_pos e] at h3; injection h3 with h3; subst h3
      rw [if_neg e'] at h4 h2
      obtain ⟨B2, hB2⟩ := Option.isSome_iff_exists.1 h2
      have := hlt i' B2 L2 hB2 h4
      omega
    · rw [if_pos e'] at h4; injection h4 with h4; subst h4
      rw [if_neg e] at h3 h1
      obtain ⟨B1, hB1⟩ := Option.isSome_iff_exists.1 h1
      have := hlt i B1 L1 hB1 h3
      omega
    · rw [if_neg e] at h3 h1; rw [if_neg e'] at h4 h2
      exact m.sep i i' L1 L2 h1 h2 h3 h4 h5
  · rw [if_neg (by omega)]; exact m.free i (by omega)
  · rw [if_neg (by have := m.gle; omega)]; exact m.glob g hg
  · by_cases e : i = nx
    · rw [if_pos e] at hs; injection hs with hs; subst hs
      exact .inl (by omega)
    · rw [if_neg e] at hi hs
      exact .inr ⟨i, L', hi, hs, rfl⟩
/-- A new row of cells, of which the first ones are known. -/
theorem MR.newRowIn {h : Hp} (m : MR G σ h.get nx w) {w' : World} (el : TypeId) (c : Tb Value) {cs us : List Value} {row : Array Value} {fz : Nat × Nat} (hv : VRs σ cs us) (hc : ∀ i, c.get i = cs[i]?)
    (hb : w'.heap[w.heap.size]? = some (.cells row el fz)) (hrow : ∀ (i : Nat) u, us[i]? = some u → row[i]? = some u) (hle : us.length ≤ row.size) (hfz : fz.1 = fz.2 ∨ row.size ≤ fz.1)
    (hrest : w'.os = w.os ∧ w'.tape = w.tape ∧ w'.output = w.output) (hsize : w'.heap.size = w.heap.size + 1) (hold : ∀ r, r < w.heap.size → w'.heap[r]? = w.heap[r]?) :
    ∃ σ', σ' nx = some ⟨w.heap.size, 0, row.size⟩ ∧ σ.le σ' ∧ Tr G σ h.get nx w σ' (h.put nx (.cells el cs.length 0 c)).get (nx + 1) w' := by
  have hlen := hv.len
  have := m.new (w' := w') ⟨w.heap.size, 0, row.size⟩ (.cells el cs.length 0 c) rfl hrest hsize hold (fun σ' hs => ⟨row, fz, hb, rfl, by simp [hlen, hle], fun i => by
    rw [hc]; simp, fun i v hi => by
    rw [hc] at hi
    obtain ⟨u, hu, hr⟩ := hv.get hi
    exact ⟨u, by rw [Nat.zero_add]; exact hrow i u hu, hr.mono hs⟩, fun _ => hfz⟩)
  rw [Tb.put_fun]
  exact ⟨_, by simp, this.ext, this⟩
end
end Go.Proofs.YtklciidffdnglaaDoor
