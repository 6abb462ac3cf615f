/- What single operations do, over any program, the world behind them left open: whole rows loaded and stored, new rows, copy, append. No condition. -/
import Derived.Test.YtklciidffdnglaaDoorBase
import Derived.Deep.RegionLaw
namespace Go.Proofs.YtklciidffdnglaaDoor
open Go.RowKit

/-- A slice's length: for a loop's measure. -/
def sliceLen : Value → Nat | .slice _ n _ => n | _ => 0
/-- The operation comes to a value (or to nothing) and a world that R knows. -/
def Does (P : Program) (ρ : Operand → Value) (o : Oper) (w : World) (R : Value → World → Prop) : Prop :=
  ∃ v w', ((execOp ρ o).run P w = .ok (.value v) w' ∨ ((execOp ρ o).run P w = .ok .skip w' ∧ v = undef)) ∧ R v w'

namespace Does
variable {P : Program} {o : Oper} {w : World} {R : Value → World → Prop} {ops : Array Oper} {rest : List Oper} {a : Act} {Q : Exit → Act → World → Prop}
theorem wp {K : Act → World → Prop} (h : Does P a.eval o w R) (k : ∀ v w', R v w' → K (a.put o.dst v) w') : o.wp P a w K Q := by
  obtain ⟨v, w', hr | ⟨hr, rfl⟩, hR⟩ := h
  · unfold Oper.wp; rw [hr]; exact k _ _ hR
  · unfold Oper.wp; rw [hr]; exact k _ _ hR
theorem list (hgd : o.guard = none) (h : Does P a.eval o w R) (k : ∀ v w', R v w' → wpList P ops Q rest (a.put o.dst v) w') : wpList P ops Q (o :: rest) a w :=
  wpList_plain hgd fun _ hK => h.wp fun v w' hR => hK _ _ (k v w' hR)
/-- As one step of a region that draws its order. -/
theorem step {K : Act → World → Prop} {E : Prop} (hgd : o.guard = none) (h : Does P a.eval o w R) (k : ∀ v w', R v w' → K (a.put o.dst v) w') :
    if Region.wanted o (yielded ops a.tmps) = true then Oper.wp P o a w K Q else E := by
  have hw : Region.wanted o (yielded ops a.tmps) = true := by simp [Region.wanted, hgd]
  rw [if_pos hw]
  exact h.wp k
theorem mono {ρ : Operand → Value} {R' : Value → World → Prop} (h : Does P ρ o w R) (k : ∀ v w', R v w' → R' v w') : Does P ρ o w R' :=
  let ⟨v, w', hr, hR⟩ := h; ⟨v, w', hr, k _ _ hR⟩
end Does

theorem Fr.setRow {S : Nat → Prop} {w w' : World} (h : Fr S w w') {g : Nat} (hg : g < w.heap.size → S g) (cs : Array Value) : Fr S w (w'.setRow g cs) :=
  h.step (T := fun k => k = g) ⟨rfl, rfl, rfl, by simp, fun k _ hn => setRow_other w' g k cs hn⟩ (fun k hk e => by subst e; exact hg hk)

theorem fr_setRow (w : World) (g : Nat) (cs : Array Value) : Fr (fun k => k = g) w (w.setRow g cs) := Fr.setRow (S := fun k => k = g) Fr.refl (fun _ => rfl) cs
/-- The list with the cells from off on taken by others. -/
def put (cs : List Value) (off : Nat) (xs : List Value) : List Value := cs.take off ++ (xs ++ cs.drop (off + xs.length))
theorem put_length (cs : List Value) (off : Nat) (xs : List Value) (h : off + xs.length ≤ cs.length) : (put cs off xs).length = cs.length := by
  simp [put]; omega
theorem put_nil (cs : List Value) (off : Nat) : put cs off [] = cs := by simp [put]
theorem put_all (cs xs : List Value) (h : xs.length = cs.length) : put cs 0 xs = xs := by
  simp [put, h]

section
variable {P : Program} {ρ : Operand → Value} {o : Oper} {w : World}

/-- A row or a struct is loaded out of a block. -/
theorem does_load (ty : TypeId) (x : Operand) (ho : o.op = .load ty x) (g off n : Nat) (t : TypeId) (cs : List Value) (d : TypeDesc)
    (hx : ρ x = .pointer (some ⟨g, off, none⟩)) (hb : Blk w g t cs) (hu : P.underlying ty = some d) (hd : d.isRow = true)
    (hi : (P.info? ty).map (·.size) = some n) (hl : off + n ≤ cs.length) :
    Does P ρ o w fun v w' => v = .agg ((cs.drop off).take n).toArray ∧ w = w' := by
  refine ⟨_, w, .inl ?_, rfl, rfl⟩
  have hc : w.rangeAt g off ((cs.drop off).take n) := fun j v hv => by
    rw [hb.cell]
    simp only [List.getElem?_take, List.getElem?_drop] at hv
    split at hv
    · exact hv
    · cases hv
  have hlen : ((cs.drop off).take n).length = n := by simp; omega
  have hr := run_loadVar_mid (P := P) w g off ty ((cs.drop off).take n) d hc hu hd (by rw [hlen]; exact hi)
  unfold execOp
  simp only [ho, hx, Instr.loadAt, Instr.sureAddr, Sem.run_bind, Sem.run_pure, Result.andThen_ok, hr]

/-- A row or a struct is stored into a block. -/
theorem does_store (ty : TypeId) (x y : Operand) (ho : o.op = .store ty x y) (g off : Nat) (t : TypeId) (cs new : List Value)
    (hx : ρ x = .pointer (some ⟨g, off, none⟩)) (hy : ρ y = .agg new.toArray) (hb : Blk w g t cs)
    (hi : (P.info? ty).map (·.size) = some new.length) (hl : off + new.length ≤ cs.length) (h1 : ∀ u ∈ new, u.oneCell' = true) :
    Does P ρ o w fun v w' => v = undef ∧ Blk w' g t (put cs off new) ∧ Fr (fun k => k = g) w w' := by
  have hs := run_storeCells_at P g off t new 0 cs.toArray w hb (by simpa using hl) h1
  refine ⟨undef, w.setRow g (put cs off new).toArray, .inr ⟨?_, rfl⟩, rfl, ?_, fr_setRow w g _⟩
  rotate_left
  · exact setRow_heap w g _ _ t _ hb
  · have hrun : (storeVar ty ⟨g, off, none⟩ (.agg new.toArray)).run P w = .ok () (w.setRow g (put cs off new).toArray) := by
      cases hq : P.info? ty with
      | none => simp [hq] at hi
      | some i =>
        have hsz : new.length = i.size := by simp [hq] at hi; omega
        simp only [Nat.add_zero] at hs
        simp [storeVar, sizeOf, typeInfo, hq, Value.cells, hsz, hs, put]
    unfold execOp
    simp only [ho, hx, hy, Instr.storeAt, Instr.sureAddr, Sem.run_bind, Sem.run_pure, Result.andThen_ok, hrun]

/-- One cell is stored. -/
theorem does_store1 (ty : TypeId) (x y : Operand) (ho : o.op = .store ty x y) (g off : Nat) (t : TypeId) (cs : List Value) (v : Value)
    (hx : ρ x = .pointer (some ⟨g, off, none⟩)) (hy : ρ y = v) (hv : v.cells = #[v]) (hb : Blk w g t cs)
    (hi : (P.info? ty).map (·.size) = some 1) (hl : off < cs.length) (h1 : v.oneCell' = true) :
    Does P ρ o w fun u w' => u = undef ∧ Blk w' g t (cs.set off v) ∧ Fr (fun k => k = g) w w' := by
  have hs := run_storeCells_at P g off t [v] 0 cs.toArray w hb (by simp; omega) (by simpa using h1)
  have hput : cs.set off v = put cs off [v] := by
    rw [List.set_eq_take_append_cons_drop, if_pos hl]; simp [put]
  refine ⟨undef, w.setRow g (put cs off [v]).toArray, .inr ⟨?_, rfl⟩, rfl, ?_, fr_setRow w g _⟩
  rotate_left
  · rw [hput]; exact setRow_heap w g _ _ t _ hb
  · have hrun : (storeVar ty ⟨g, off, none⟩ v).run P w = .ok () (w.setRow g (put cs off [v]).toArray) := by
      cases hq : P.info? ty with
      | none => simp [hq] at hi
      | some i =>
        have hsz : i.size = 1 := by simpa [hq] using hi
        simp only [Nat.add_zero] at hs
        simp [storeVar, sizeOf, typeInfo, hq, hv, hsz, hs, put]
    unfold execOp
    simp only [ho, hx, hy, Instr.storeAt, Instr.sureAddr, Sem.run_bind, Sem.run_pure, Result.andThen_ok, hrun]

/-- A new variable at its zero. -/
theorem does_alloc (e : TypeId) (ho : o.op = .alloc e) (z : Value) (zs : List Value) (hz : (P.info? e).map (·.zero) = some (some z)) (hc : z.cells = zs.toArray) :
    Does P ρ o w fun v w' => ∃ g, v = .pointer (some ⟨g, 0, none⟩) ∧ w.heap.size ≤ g ∧ g < w'.heap.size ∧ Blk w' g e zs ∧ Fr0 w w' := by
  refine ⟨_, w.alloc (.cells zs.toArray e), .inl ?_, w.heap.size, rfl, Nat.le_refl _, by simp, Blk.new w e zs, Fr.refl.alloc _⟩
  cases hq : P.info? e with
  | none => simp [hq] at hz
  | some i =>
    have hz' : i.zero = some z := by simpa [hq] using hz
    unfold execOp
    simp [ho, Instr.alloc, zeroValue, typeInfo, hq, hz', newVar, newRow, hc]

/-- A new variable that holds a value. -/
theorem does_box (e : TypeId) (x : Operand) (ho : o.op = .box e x) (cs : List Value) (hx : (ρ x).cells = cs.toArray) :
    Does P ρ o w fun v w' => ∃ g, v = .pointer (some ⟨g, 0, none⟩) ∧ w.heap.size ≤ g ∧ g < w'.heap.size ∧ Blk w' g e cs ∧ Fr0 w w' := by
  refine ⟨_, w.alloc (.cells cs.toArray e), .inl ?_, w.heap.size, rfl, Nat.le_refl _, by simp, Blk.new w e cs, Fr.refl.alloc _⟩
  unfold execOp
  simp [ho, Instr.box, newVar, newRow, hx]

/-- copy into a block known whole; elements of one cell. -/
theorem does_copy (d s : Operand) (dT sT : TypeId) (ho : o.op = .call { callee := .builtin .copy, args := #[d, s], argTypes := #[dT, sT] })
    (elem : TypeId) (hu : P.underlying dT = some (.slice elem)) (hsz : (P.info? elem).map (·.size) = some 1)
    (g off dLen dCap : Nat) (A : Option Addr) (sLen sCap : Nat) (hd : ρ d = .slice (some ⟨g, off, none⟩) dLen dCap) (hs : ρ s = .slice A sLen sCap)
    (t : TypeId) (cs xs : List Value) (hb : Blk w g t cs) (hr : Rd w A sLen xs) (hle : sLen ≤ dLen) (hfit : off + sLen ≤ cs.length) (h1 : ∀ u ∈ xs, u.oneCell' = true) :
    Does P ρ o w fun v w' => v = .int .i64 (sLen : Int) ∧ Blk w' g t (put cs off xs) ∧ Fr (fun k => k = g) w w' := by
  have hmin : Nat.min sLen dLen = sLen := Nat.min_eq_left hle
  rcases Nat.eq_zero_or_pos sLen with h0 | h0
  · have hx : xs = [] := List.eq_nil_of_length_eq_zero (by rw [hr.1, h0])
    subst hx; subst h0
    have hrun := run_copy_none (P := P) w dT sT o.type elem (some ⟨g, off, none⟩) A dLen dCap 0 sCap hu hsz hmin
    refine ⟨.int .i64 0, w, .inl ?_, rfl, by rw [put_nil]; exact hb, Fr.refl⟩
    simp [execOp, ho, resolve, invoke, builtin, hd, hs, hrun, goInt]
  · obtain ⟨b, off', rfl, hc⟩ := hr.2 h0
    have hrun := run_copy_row (P := P) w dT sT o.type elem g off dLen dCap ⟨b, off', none⟩ sLen sCap cs.toArray t xs hu hsz hb (by rw [hr.1, hmin]) (fun j v hv => by rw [Addr.add_mid]; exact hc j v hv) (by simpa [hr.1] using hfit) h1
    refine ⟨_, w.setRow g (put cs off xs).toArray, .inl ?_, rfl, ?_, fr_setRow w g _⟩
    rotate_left
    · exact setRow_heap w g _ _ t _ hb
    · simp [execOp, ho, resolve, invoke, builtin, hd, hs, hrun, goInt, put, hr.1]

/-- append onto a row of the call's own; elements of one cell. -/
theorem does_append (s x : Operand) (t : TypeId) (ho : o.op = .call { callee := .builtin .append, args := #[s, x], argTypes := #[t, t] })
    (base : Nat) (e : TypeId) (z : Value) (bytes : Nat) (ht : P.underlying t = some (.slice e)) (hi : (P.info? e).map (fun i => (i.zero, i.size, i.bytes)) = some (some z, 1, bytes)) (hzs : z.cells.size = 1)
    (v : Value) (n : Nat) (xs : List Value) (hs : ρ s = v) (hown : w.ownsRow base e 1 v n xs)
    (A : Option Addr) (m c : Nat) (news : List Value) (hx : ρ x = .slice A m c) (hr : Rd w A m news) (h1 : ∀ u ∈ news, u.oneCell' = true)
    (h63 : n + m ≤ maxLen) (hbytes : (n + m) * bytes ≤ 140737488355328) (hbase : base ≤ w.heap.size) :
    Does P ρ o w fun v' w' => w'.ownsRow base e 1 v' (n + m) (xs ++ news) ∧ w.grownBy w' v.ownBlock ∧ (v'.ownBlock = v.ownBlock ∨ v'.ownBlock = some w.heap.size) := by
  cases hq : P.info? e with
  | none => simp [hq] at hi
  | some i =>
    obtain ⟨hz, hsize, hby⟩ : i.zero = some z ∧ i.size = 1 ∧ i.bytes = bytes := by simpa [hq] using hi
    obtain ⟨v', w', hrun, h2, h3, h4⟩ := run_append_onto (P := P) w base t o.type e i z bytes ht hq hz hsize hby hzs v n xs hown A m c news hr h1 h63 hbytes hbase
    refine ⟨v', w', .inl ?_, h2, h3, h4⟩
    unfold execOp
    simp only [ho, resolve, invoke, builtin, Sem.run_bind, Sem.run_pure, Result.andThen_ok, List.map_toArray, List.map_cons, List.map_nil, hs, hx, hrun]
end

/-- A row that the call owns, as a block. -/
theorem own_blk {w : World} {base : Nat} {e : TypeId} {v : Value} {n : Nat} {xs : List Value} (h : w.ownsRow base e 1 v n xs) (hn : 0 < n) :
    ∃ g cap rest, v = .slice (some ⟨g, 0, none⟩) n cap ∧ base ≤ g ∧ n ≤ cap ∧ Blk w g e (xs ++ rest) ∧ (xs ++ rest).length = cap := by
  rcases h.2 with ⟨_, h0⟩ | ⟨g, cap, cur, rfl, hb, hg, hc, _, hs, ht⟩
  · omega
  · refine ⟨g, cap, cur.toList.drop n, rfl, hb, hc, ?_, ?_⟩
    · have : xs ++ cur.toList.drop n = cur.toList := by rw [← ht, Nat.mul_one, List.take_append_drop]
      unfold Blk; rw [this]; simpa using hg
    · have : xs ++ cur.toList.drop n = cur.toList := by rw [← ht, Nat.mul_one, List.take_append_drop]
      rw [this]; simpa using hs
theorem own_form {w : World} {base : Nat} {e : TypeId} {v : Value} {n : Nat} {xs : List Value} (h : w.ownsRow base e 1 v n xs) :
    ∃ A cap, v = .slice A n cap ∧ n ≤ cap ∧ cap ≤ maxLen ∧ Rd w A n xs ∧ (∀ b off, A = some ⟨b, off, none⟩ → base ≤ b ∧ off = 0) := by
  rcases h.2 with ⟨rfl, h0⟩ | ⟨g, cap, cur, rfl, hb, hg, hc, hm, hs, ht⟩
  · subst h0
    have hx : xs = [] := List.eq_nil_of_length_eq_zero (by simpa using h.1)
    subst hx
    exact ⟨none, 0, rfl, Nat.le_refl _, Nat.zero_le _, Rd.nil, by simp⟩
  · refine ⟨some ⟨g, 0, none⟩, cap, rfl, hc, hm, Rd.of_own h, ?_⟩
    intro b off e; injection e with e; injection e with e1 e2 _; subst e1; exact ⟨hb, e2.symm⟩
theorem own_fr {w w' : World} {S : Nat → Prop} {base : Nat} {e : TypeId} {v : Value} {n : Nat} {xs : List Value} (h : w.ownsRow base e 1 v n xs) (hf : Fr S w w') (hn : ∀ k, v.ownBlock = some k → ¬ S k) :
    w'.ownsRow base e 1 v n xs := by
  refine ⟨h.1, ?_⟩
  rcases h.2 with hh | ⟨g, cap, cur, rfl, hb, hg, r⟩
  · exact .inl hh
  · exact .inr ⟨g, cap, cur, rfl, hb, (hf.block g (Array.getElem?_eq_some_iff.1 hg).1 (hn g rfl)).trans hg, r⟩
theorem own_base {w : World} {base base' : Nat} {e : TypeId} {v : Value} {n : Nat} {xs : List Value} (h : w.ownsRow base e 1 v n xs) (hb : base' ≤ base) : w.ownsRow base' e 1 v n xs := by
  refine ⟨h.1, ?_⟩
  rcases h.2 with hh | ⟨g, cap, cur, hv, hg, r⟩
  · exact .inl hh
  · exact .inr ⟨g, cap, cur, hv, by omega, r⟩
theorem own_of_blk {w : World} {base g : Nat} {e : TypeId} {cs : List Value} (h : Blk w g e cs) (hb : base ≤ g) (hm : cs.length ≤ maxLen) (n : Nat) (hn : n ≤ cs.length) :
    w.ownsRow base e 1 (.slice (some ⟨g, 0, none⟩) n cs.length) n (cs.take n) :=
  ⟨by simp; omega, .inr ⟨g, cs.length, cs.toArray, rfl, hb, h, hn, hm, by simp, by simp⟩⟩
theorem own_new0 (w : World) (e : TypeId) : (w.alloc (.cells #[] e)).ownsRow w.heap.size e 1 (.slice (some ⟨w.heap.size, 0, none⟩) 0 0) 0 [] :=
  World.ownsRow_made w #[] 0 (Nat.le_refl _) (Nat.zero_le _) rfl
/-- Behind an append onto a row of the call's own: the frame from where the call began. -/
theorem Fr.app {S : Nat → Prop} {w0 w w' : World} {base : Nat} {e : TypeId} {v : Value} {n : Nat} {xs : List Value} (h : Fr S w0 w) (hown : w.ownsRow base e 1 v n xs) (hb : w0.heap.size ≤ base) (hg : w.grownBy w' v.ownBlock) : Fr S w0 w' :=
  h.grown hg (fun k hk hlt => by have := (hown.lt k hk).1; omega)
end Go.Proofs.YtklciidffdnglaaDoor
