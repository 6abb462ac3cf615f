/- A region that draws its order, walked in ONE order: each operation is the only one that may come up, or yields one value in every world that S lets in and may be taken first. No condition. -/
import Derived.WalkKit
import Derived.Maps.AppendAt
import Derived.Deep.AppendLies
import Derived.Deep.Draws
import Derived.Deep.MidRow
import Derived.Laws.CopyOwn
import Derived.Lib.Hide
import Derived.KernelRfl
import Derived.Deep.RegionLaw
import Derived.Deep.QuietTactic
import Derived.BigQuiet
import Derived.Laws.StructEq
import Derived.Laws.MakeOwn
import Derived.StillTail
import Derived.IntWalk
import Derived.OrdersHeld
import Derived.Laws.Tables
import Derived.Great.BuildSlice
import Derived.Maps.RangeRun
namespace Go.Proofs.YthdlljlcffokbaaDoor
open Go.RowKit

/-- Old blocks outside S stand; nothing else of the world has turned but the count of draws. -/
structure Fr (S : Nat → Prop) (w w' : World) : Prop where
  os : w'.os = w.os
  tape : w'.tape = w.tape
  output : w'.output = w.output
  size : w.heap.size ≤ w'.heap.size
  block : ∀ k, k < w.heap.size → ¬ S k → w'.heap[k]? = w.heap[k]?

abbrev Nowhere : Nat → Prop := fun _ => False
abbrev Fr0 := Fr Nowhere

namespace Fr
variable {S T : Nat → Prop} {w w' w'' : World}
theorem refl : Fr S w w := ⟨rfl, rfl, rfl, Nat.le_refl _, fun _ _ _ => rfl⟩
theorem mono (h : Fr S w w') (hs : ∀ k, k < w.heap.size → S k → T k) : Fr T w w' :=
  ⟨h.os, h.tape, h.output, h.size, fun k hk hn => h.block k hk (fun hh => hn (hs k hk hh))⟩
theorem of0 (h : Fr0 w w') : Fr S w w' := h.mono (fun _ _ hh => hh.elim)
theorem trans (h : Fr S w w') (h' : Fr S w' w'') : Fr S w w'' :=
  ⟨h'.os.trans h.os, h'.tape.trans h.tape, h'.output.trans h.output, Nat.le_trans h.size h'.size,
   fun k hk hn => (h'.block k (Nat.lt_of_lt_of_le hk h.size) hn).trans (h.block k hk hn)⟩
/-- A step that writes blocks T, each of S or new. -/
theorem step (h : Fr S w w') (h' : Fr T w' w'') (ht : ∀ k, k < w.heap.size → T k → S k) : Fr S w w'' :=
  ⟨h'.os.trans h.os, h'.tape.trans h.tape, h'.output.trans h.output, Nat.le_trans h.size h'.size,
   fun k hk hn => (h'.block k (Nat.lt_of_lt_of_le hk h.size) (fun hh => hn (ht k hk hh))).trans (h.block k hk hn)⟩
theorem then0 (h : Fr S w w') (h' : Fr0 w' w'') : Fr S w w'' := h.step h' (fun _ _ hh => hh.elim)
theorem drew (h : Fr S w w') : Fr S w w'.drew := ⟨h.os, h.tape, h.output, h.size, h.block⟩
theorem drewN (h : Fr S w w') (n : Nat) : Fr S w (w'.drewN n) := ⟨h.os, h.tape, h.output, h.size, h.block⟩
theorem alloc (h : Fr S w w') (o : Obj) : Fr S w (w'.alloc o) :=
  h.step (T := Nowhere) ⟨rfl, rfl, rfl, by simp, fun k hk _ => Below.heap_alloc _ _ _ hk⟩ (fun _ _ hh => hh.elim)
theorem setCell (h : Fr S w w') {p : Addr} (hp : p.block < w.heap.size → S p.block) (u : Value) : Fr S w (w'.setCell p u) :=
  h.step (T := fun k => k = p.block) ⟨rfl, rfl, rfl, by simp [World.setCell], fun k _ hn => Below.heap_setCell _ _ _ _ hn⟩
    (fun k hk e => by subst e; exact hp hk)
theorem grown {row : Option Nat} (h : Fr S w w') (hg : w'.grownBy w'' row) (hr : ∀ k, row = some k → k < w.heap.size → S k) : Fr S w w'' :=
  h.step (T := fun k => some k = row) ⟨hg.os, hg.tape, hg.output, hg.size, fun k hk hn => hg.block k hk hn⟩
    (fun k hk e => hr k e.symm hk)
theorem below (h : Fr0 w w') : Below w.heap.size w w' := ⟨h.os, h.tape, h.output, h.size, fun k hk => h.block k hk (fun hh => hh)⟩
theorem cell (h : Fr S w w') {p : Addr} (hp : p.block < w.heap.size) (hn : ¬ S p.block) : w'.cell? p = w.cell? p :=
  World.cell?_of_block (w := w) (h.block p.block hp hn)
theorem frozen (h : Fr S w w') {p : Addr} (hp : p.block < w.heap.size) (hn : ¬ S p.block) : w'.frozen? p = w.frozen? p :=
  World.frozen?_of_block (w := w) (h.block p.block hp hn)
end Fr

/-- Block g is just the cells cs of element type t, none frozen. -/
def Blk (w : World) (g : Nat) (t : TypeId) (cs : List Value) : Prop := w.heap[g]? = some (.cells cs.toArray t (0, 0))

namespace Blk
variable {w w' : World} {g : Nat} {t : TypeId} {cs : List Value}
theorem lt (h : Blk w g t cs) : g < w.heap.size := by
  rcases Nat.lt_or_ge g w.heap.size with hlt | hge
  · exact hlt
  · unfold Blk at h; rw [Array.getElem?_eq_none hge] at h; cases h
theorem cell (h : Blk w g t cs) (i : Nat) : w.cell? ⟨g, i, none⟩ = cs[i]? := by
  rw [cell_of_row w g i cs.toArray t (0, 0) h]; simp
theorem frozen (h : Blk w g t cs) (i : Nat) : w.frozen? ⟨g, i, none⟩ = false := by
  unfold Blk at h; simp [World.frozen?, h]
theorem new (w : World) (t : TypeId) (cs : List Value) : Blk (w.alloc (.cells cs.toArray t)) w.heap.size t cs := heap_alloc_new w _
theorem alloc (h : Blk w g t cs) (o : Obj) : Blk (w.alloc o) g t cs := (Below.heap_alloc w o g h.lt).trans h
theorem set (h : Blk w g t cs) (i : Nat) (u : Value) : Blk (w.setCell ⟨g, i, none⟩ u) g t (cs.set i u) := by
  unfold Blk at h ⊢
  simp [World.setCell, Array.getElem?_modify, h]
theorem far (h : Blk w g t cs) {p : Addr} (hp : g ≠ p.block) (u : Value) : Blk (w.setCell p u) g t cs := (Below.heap_setCell w p u g hp).trans h
theorem fr {S : Nat → Prop} (h : Blk w g t cs) (hf : Fr S w w') (hn : ¬ S g) : Blk w' g t cs := (hf.block g h.lt hn).trans h
theorem fr0 (h : Blk w g t cs) (hf : Fr0 w w') : Blk w' g t cs := h.fr hf (fun hh => hh)
theorem ne {g' : Nat} {t' : TypeId} {cs' : List Value} (h : Blk w g t cs) (h' : Blk w g' t' cs') (hne : t ≠ t') : g ≠ g' := by
  rintro rfl
  unfold Blk at h h'
  rw [h] at h'
  injection h' with h'
  injection h' with _ ht
  exact hne ht
theorem drew (h : Blk w g t cs) : Blk w.drew g t cs := h
theorem drewN (h : Blk w g t cs) (n : Nat) : Blk (w.drewN n) g t cs := h
end Blk

/-- The slice with address A and length n reads as the one-cell elements xs; an address is asked for only where there is an element. -/
def Rd (w : World) (A : Option Addr) (n : Nat) (xs : List Value) : Prop :=
  xs.length = n ∧ (0 < n → ∃ b off, A = some ⟨b, off, none⟩ ∧ ∀ j u, xs[j]? = some u → w.cell? ⟨b, off + j, none⟩ = some u)

namespace Rd
variable {w w' : World} {A : Option Addr} {n : Nat} {xs : List Value}
theorem nil {A : Option Addr} : Rd w A 0 [] := ⟨rfl, fun h => absurd h (by omega)⟩
theorem at_ (h : Rd w A n xs) {k : Nat} (hk : k < n) : ∃ b off, A = some ⟨b, off, none⟩ ∧ ∃ u, xs[k]? = some u ∧ w.cell? ⟨b, off + k, none⟩ = some u := by
  obtain ⟨b, off, e, hc⟩ := h.2 (by omega)
  have hl : k < xs.length := by have := h.1; omega
  exact ⟨b, off, e, xs[k], List.getElem?_eq_getElem hl, hc k _ (List.getElem?_eq_getElem hl)⟩
theorem keep (h : Rd w A n xs) (hk : 0 < n → ∀ b off, A = some ⟨b, off, none⟩ → ∀ j, w.cell? ⟨b, j, none⟩ ≠ none → w'.cell? ⟨b, j, none⟩ = w.cell? ⟨b, j, none⟩) : Rd w' A n xs :=
  ⟨h.1, fun hn => by
    obtain ⟨b, off, e, hc⟩ := h.2 hn
    exact ⟨b, off, e, fun j u hu => (hk hn b off e _ (by rw [hc j u hu]; simp)).trans (hc j u hu)⟩⟩
theorem fr {S : Nat → Prop} (h : Rd w A n xs) (hf : Fr S w w') (hn : 0 < n → ∀ b off, A = some ⟨b, off, none⟩ → ¬ S b) : Rd w' A n xs :=
  h.keep fun h0 b off e j hj => hf.cell (p := ⟨b, j, none⟩) (by
    cases hc : w.cell? ⟨b, j, none⟩ with
    | none => exact absurd hc hj
    | some v => exact World.block_lt_of_cell? w ⟨b, j, none⟩ hc) (hn h0 b off e)
theorem fr0 (h : Rd w A n xs) (hf : Fr0 w w') : Rd w' A n xs := h.fr hf (fun _ _ _ _ hh => hh)
theorem lt (h : Rd w A n xs) (hn : 0 < n) : ∀ b off, A = some ⟨b, off, none⟩ → b < w.heap.size := by
  intro b off e
  obtain ⟨b', off', e', u, hu, hc⟩ := h.at_ hn
  rw [e] at e'; injection e' with e'; injection e' with e1 _ _; subst e1
  exact World.block_lt_of_cell? w _ hc
theorem drew (h : Rd w A n xs) : Rd w.drew A n xs := h
theorem drewN (h : Rd w A n xs) (k : Nat) : Rd (w.drewN k) A n xs := h
theorem of_blk {g : Nat} {t : TypeId} {cs : List Value} (h : Blk w g t cs) (off : Nat) (hl : off + n ≤ cs.length) :
    Rd w (some ⟨g, off, none⟩) n ((cs.drop off).take n) := by
  refine ⟨by simp; omega, fun _ => ⟨g, off, rfl, fun j u hu => ?_⟩⟩
  rw [h.cell, ← hu]
  simp only [List.getElem?_take, List.getElem?_drop] at hu ⊢
  split
  · rfl
  · rename_i hh; rw [if_neg hh] at hu; cases hu
theorem of_own {base : Nat} {e : TypeId} {A : Option Addr} {c : Nat} (h : w.ownsRow base e 1 (.slice A n c) n xs) : Rd w A n xs := by
  refine ⟨by simpa using h.1, fun hn => ?_⟩
  rcases h.2 with ⟨hv, h0⟩ | ⟨g, cap, cur, hv, _⟩
  · omega
  · injection hv with hA
    subst hA
    refine ⟨g, 0, rfl, fun j u hu => ?_⟩
    have := h.cells (g := g) rfl j u hu
    rwa [Addr.add_mid] at this
theorem cut (h : Rd w A n xs) {k cap : Nat} (hk : k ≤ n) (hc : n ≤ cap) :
    Rd w (if cap = k then A else A.map (·.add k)) (n - k) (xs.drop k) := by
  refine ⟨by rw [List.length_drop, h.1], fun hn => ?_⟩
  obtain ⟨b, off, rfl, hcell⟩ := h.2 (by omega)
  rw [if_neg (by omega)]
  refine ⟨b, off + k, by simp [Addr.add_mid], fun j u hu => ?_⟩
  rw [Nat.add_assoc]
  exact hcell _ u (by rw [← hu, List.getElem?_drop])
end Rd

/-- bytes as cells -/
def bv (c : UInt8) : Value := .int .u8 (c.toNat : Int)
def bvs (l : List UInt8) : List Value := l.map bv
theorem bvs_length (l : List UInt8) : (bvs l).length = l.length := by simp [bvs]
theorem bvs_append (a b : List UInt8) : bvs (a ++ b) = bvs a ++ bvs b := by simp [bvs]
theorem bvs_getElem? (l : List UInt8) (k : Nat) : (bvs l)[k]? = (l[k]?).map bv := by simp [bvs]
theorem bvs_one (l : List UInt8) : ∀ u ∈ bvs l, u.oneCell' = true := by
  intro u hu
  obtain ⟨c, _, rfl⟩ := List.mem_map.1 hu
  rfl

section
variable {P : Program} (w : World)
theorem run_append_onto (base : Nat) (t ty e : TypeId) (i : TypeInfo) (z : Value) (bytes : Nat) (ht : P.underlying t = some (.slice e)) (hi : P.info? e = some i) (hz : i.zero = some z)
    (hsize : i.size = 1) (hby : i.bytes = bytes) (hzs : z.cells.size = 1)
    (v : Value) (n : Nat) (xs : List Value) (hown : w.ownsRow base e 1 v n xs)
    (A : Option Addr) (m c : Nat) (news : List Value) (hr : Rd w A m news) (h1 : ∀ u ∈ news, u.oneCell' = true)
    (h63 : n + m ≤ maxLen) (hbytes : (n + m) * bytes ≤ 140737488355328) (hbase : base ≤ w.heap.size) :
    ∃ v' w', (Builtin.append_ #[t, t] ty #[v, .slice A m c]).run P w = .ok v' w' ∧ w'.ownsRow base e 1 v' (n + m) (xs ++ news) ∧ w.grownBy w' v.ownBlock ∧
      (v'.ownBlock = v.ownBlock ∨ v'.ownBlock = some w.heap.size) := by
  rcases A with _ | ad
  · have hm : m = 0 := by
      rcases Nat.eq_zero_or_pos m with h0 | h0
      · exact h0
      · obtain ⟨b, off, h, _⟩ := hr.2 h0
        cases h
    subst hm
    have hn : news = [] := List.eq_nil_of_length_eq_zero hr.1
    subst hn
    refine ⟨v, w, ?_, by simpa using hown, ⟨rfl, rfl, rfl, Nat.le_refl _, fun _ _ _ => rfl⟩, .inl rfl⟩
    rcases hown.2 with ⟨rfl, rfl⟩ | ⟨g, cap, cur, rfl, _, _, hnc, _⟩
    · simp [Builtin.append_, run_underlying ht, sizeOf, typeInfo, hi, Builtin.lenOf, Builtin.firstCells]
    · simp [Builtin.append_, run_underlying ht, sizeOf, typeInfo, hi, Builtin.lenOf, Builtin.firstCells, hnc, storeCells]
  · have hcells : ∀ j u, news[j]? = some u → w.cell? (ad.add j) = some u := by
      intro j u hu
      rcases Nat.eq_zero_or_pos m with h0 | h0
      · subst h0
        have hn : news = [] := List.eq_nil_of_length_eq_zero hr.1
        subst hn
        simp at hu
      · obtain ⟨b', off', h, hc⟩ := hr.2 h0
        injection h with h
        subst h
        rw [Addr.add_mid]; exact hc j u hu
    obtain ⟨v', w', hrun, h2, h3, _, h5⟩ := run_append_own_at (P := P) w base t ty e i z 1 bytes ht hi hz hsize hby hzs (by omega) v n xs hown ad m c news (by simpa using hr.1) hcells h1 h63 hbytes hbase
    exact ⟨v', w', hrun, h2, h3, h5⟩

end
end Go.Proofs.YthdlljlcffokbaaDoor
namespace Go.Proofs.YthdlljlcffokbaaDoor
open Go.RowKit

/-- A slice's length: for a loop's measure. -/
def sliceLen : Value → Nat | .slice _ n _ => n | _ => 0
/-- The operation comes to a value (or to nothing) and a world that R knows. -/
def Does (P : Program) (ρ : Operand → Value) (o : Oper) (w : World) (R : Value → World → Prop) : Prop :=
  ∃ v w', ((execOp ρ o).run P w = .ok (.value v) w' ∨ ((execOp ρ o).run P w = .ok .skip w' ∧ v = undef)) ∧ R v w'

namespace Does
variable {P : Program} {o : Oper} {w : World} {R : Value → World → Prop} {ops : Array Oper} {rest : List Oper} {a : Act} {Q : Exit → Act → World → Prop}
theorem wp {K : Act → World → Prop} (h : Does P a.eval o w R) (k : ∀ v w', R v w' → K (a.put o.dst v) w') : o.wp P a w K Q := by
  obtain ⟨v, w', hr | ⟨hr, rfl⟩, hR⟩ := h
  · unfold Oper.wp; rw [hr]; exact k _ _ hR
  · unfold Oper.wp; rw [hr]; exact k _ _ hR
theorem list (hgd : o.guard = none) (h : Does P a.eval o w R) (k : ∀ v w', R v w' → wpList P ops Q rest (a.put o.dst v) w') : wpList P ops Q (o :: rest) a w :=
  wpList_plain hgd fun _ hK => h.wp fun v w' hR => hK _ _ (k v w' hR)
/-- As one step of a region that draws its order. -/
theorem step {K : Act → World → Prop} {E : Prop} (hgd : o.guard = none) (h : Does P a.eval o w R) (k : ∀ v w', R v w' → K (a.put o.dst v) w') :
    if Region.wanted o (yielded ops a.tmps) = true then Oper.wp P o a w K Q else E := by
  have hw : Region.wanted o (yielded ops a.tmps) = true := by simp [Region.wanted, hgd]
  rw [if_pos hw]
  exact h.wp k
theorem mono {ρ : Operand → Value} {R' : Value → World → Prop} (h : Does P ρ o w R) (k : ∀ v w', R v w' → R' v w') : Does P ρ o w R' :=
  let ⟨v, w', hr, hR⟩ := h; ⟨v, w', hr, k _ _ hR⟩
end Does

theorem Fr.setRow {S : Nat → Prop} {w w' : World} (h : Fr S w w') {g : Nat} (hg : g < w.heap.size → S g) (cs : Array Value) : Fr S w (w'.setRow g cs) :=
  h.step (T := fun k => k = g) ⟨rfl, rfl, rfl, by simp, fun k _ hn => setRow_other w' g k cs hn⟩ (fun k hk e => by subst e; exact hg hk)

theorem fr_setRow (w : World) (g : Nat) (cs : Array Value) : Fr (fun k => k = g) w (w.setRow g cs) := Fr.setRow (S := fun k => k = g) Fr.refl (fun _ => rfl) cs
/-- The list with the cells from off on taken by others. -/
def put (cs : List Value) (off : Nat) (xs : List Value) : List Value := cs.take off ++ (xs ++ cs.drop (off + xs.length))
theorem put_length (cs : List Value) (off : Nat) (xs : List Value) (h : off + xs.length ≤ cs.length) : (put cs off xs).length = cs.length := by
  simp [put]; omega
theorem put_nil (cs : List Value) (off : Nat) : put cs off [] = cs := by simp [put]
theorem put_all (cs xs : List Value) (h : xs.length = cs.length) : put cs 0 xs = xs := by
  simp [put, h]

section
variable {P : Program} {ρ : Operand → Value} {o : Oper} {w : World}

/-- A row or a struct is loaded out of a block. -/
theorem does_load (ty : TypeId) (x : Operand) (ho : o.op = .load ty x) (g off n : Nat) (t : TypeId) (cs : List Value) (d : TypeDesc)
    (hx : ρ x = .pointer (some ⟨g, off, none⟩)) (hb : Blk w g t cs) (hu : P.underlying ty = some d) (hd : d.isRow = true)
    (hi : (P.info? ty).map (·.size) = some n) (hl : off + n ≤ cs.length) :
    Does P ρ o w fun v w' => v = .agg ((cs.drop off).take n).toArray ∧ w = w' := by
  refine ⟨_, w, .inl ?_, rfl, rfl⟩
  have hc : w.rangeAt g off ((cs.drop off).take n) := fun j v hv => by
    rw [hb.cell]
    simp only [List.getElem?_take, List.getElem?_drop] at hv
    split at hv
    · exact hv
    · cases hv
  have hlen : ((cs.drop off).take n).length = n := by simp; omega
  have hr := run_loadVar_mid (P := P) w g off ty ((cs.drop off).take n) d hc hu hd (by rw [hlen]; exact hi)
  unfold execOp
  simp only [ho, hx, Instr.loadAt, Instr.sureAddr, Sem.run_bind, Sem.run_pure, Result.andThen_ok, hr]

/-- A row or a struct is stored into a block. -/
theorem does_store (ty : TypeId) (x y : Operand) (ho : o.op = .store ty x y) (g off : Nat) (t : TypeId) (cs new : List Value)
    (hx : ρ x = .pointer (some ⟨g, off, none⟩)) (hy : ρ y = .agg new.toArray) (hb : Blk w g t cs)
    (hi : (P.info? ty).map (·.size) = some new.length) (hl : off + new.length ≤ cs.length) (h1 : ∀ u ∈ new, u.oneCell' = true) :
    Does P ρ o w fun v w' => v = undef ∧ Blk w' g t (put cs off new) ∧ Fr (fun k => k = g) w w' := by
  have hs := run_storeCells_at P g off t new 0 cs.toArray w hb (by simpa using hl) h1
  refine ⟨undef, w.setRow g (put cs off new).toArray, .inr ⟨?_, rfl⟩, rfl, ?_, fr_setRow w g _⟩
  rotate_left
  · exact setRow_heap w g _ _ t _ hb
  · have hrun : (storeVar ty ⟨g, off, none⟩ (.agg new.toArray)).run P w = .ok () (w.setRow g (put cs off new).toArray) := by
      cases hq : P.info? ty with
      | none => simp [hq] at hi
      | some i =>
        have hsz : new.length = i.size := by simp [hq] at hi; omega
        simp only [Nat.add_zero] at hs
        simp [storeVar, sizeOf, typeInfo, hq, Value.cells, hsz, hs, put]
    unfold execOp
    simp only [ho, hx, hy, Instr.storeAt, Instr.sureAddr, Sem.run_bind, Sem.run_pure, Result.andThen_ok, hrun]

/-- One cell is stored. -/
theorem does_store1 (ty : TypeId) (x y : Operand) (ho : o.op = .store ty x y) (g off : Nat) (t : TypeId) (cs : List Value) (v : Value)
    (hx : ρ x = .pointer (some ⟨g, off, none⟩)) (hy : ρ y = v) (hv : v.cells = #[v]) (hb : Blk w g t cs)
    (hi : (P.info? ty).map (·.size) = some 1) (hl : off < cs.length) (h1 : v.oneCell' = true) :
    Does P ρ o w fun u w' => u = undef ∧ Blk w' g t (cs.set off v) ∧ Fr (fun k => k = g) w w' := by
  have hs := run_storeCells_at P g off t [v] 0 cs.toArray w hb (by simp; omega) (by simpa using h1)
  have hput : cs.set off v = put cs off [v] := by
    rw [List.set_eq_take_append_cons_drop, if_pos hl]; simp [put]
  refine ⟨undef, w.setRow g (put cs off [v]).toArray, .inr ⟨?_, rfl⟩, rfl, ?_, fr_setRow w g _⟩
  rotate_left
  · rw [hput]; exact setRow_heap w g _ _ t _ hb
  · have hrun : (storeVar ty ⟨g, off, none⟩ v).run P w = .ok () (w.setRow g (put cs off [v]).toArray) := by
      cases hq : P.info? ty with
      | none => simp [hq] at hi
      | some i =>
        have hsz : i.size = 1 := by simpa [hq] using hi
        simp only [Nat.add_zero] at hs
        simp [storeVar, sizeOf, typeInfo, hq, hv, hsz, hs, put]
    unfold execOp
    simp only [ho, hx, hy, Instr.storeAt, Instr.sureAddr, Sem.run_bind, Sem.run_pure, Result.andThen_ok, hrun]

/-- A new variable at its zero. -/
theorem does_alloc (e : TypeId) (ho : o.op = .alloc e) (z : Value) (zs : List Value) (hz : (P.info? e).map (·.zero) = some (some z)) (hc : z.cells = zs.toArray) :
    Does P ρ o w fun v w' => ∃ g, v = .pointer (some ⟨g, 0, none⟩) ∧ w.heap.size ≤ g ∧ g < w'.heap.size ∧ Blk w' g e zs ∧ Fr0 w w' := by
  refine ⟨_, w.alloc (.cells zs.toArray e), .inl ?_, w.heap.size, rfl, Nat.le_refl _, by simp, Blk.new w e zs, Fr.refl.alloc _⟩
  cases hq : P.info? e with
  | none => simp [hq] at hz
  | some i =>
    have hz' : i.zero = some z := by simpa [hq] using hz
    unfold execOp
    simp [ho, Instr.alloc, zeroValue, typeInfo, hq, hz', newVar, newRow, hc]

/-- A new variable that holds a value. -/
theorem does_box (e : TypeId) (x : Operand) (ho : o.op = .box e x) (cs : List Value) (hx : (ρ x).cells = cs.toArray) :
    Does P ρ o w fun v w' => ∃ g, v = .pointer (some ⟨g, 0, none⟩) ∧ w.heap.size ≤ g ∧ g < w'.heap.size ∧ Blk w' g e cs ∧ Fr0 w w' := by
  refine ⟨_, w.alloc (.cells cs.toArray e), .inl ?_, w.heap.size, rfl, Nat.le_refl _, by simp, Blk.new w e cs, Fr.refl.alloc _⟩
  unfold execOp
  simp [ho, Instr.box, newVar, newRow, hx]

/-- copy into a block known whole; elements of one cell. -/
theorem does_copy (d s : Operand) (dT sT : TypeId) (ho : o.op = .call { callee := .builtin .copy, args := #[d, s], argTypes := #[dT, sT] })
    (elem : TypeId) (hu : P.underlying dT = some (.slice elem)) (hsz : (P.info? elem).map (·.size) = some 1)
    (g off dLen dCap : Nat) (A : Option Addr) (sLen sCap : Nat) (hd : ρ d = .slice (some ⟨g, off, none⟩) dLen dCap) (hs : ρ s = .slice A sLen sCap)
    (t : TypeId) (cs xs : List Value) (hb : Blk w g t cs) (hr : Rd w A sLen xs) (hle : sLen ≤ dLen) (hfit : off + sLen ≤ cs.length) (h1 : ∀ u ∈ xs, u.oneCell' = true) :
    Does P ρ o w fun v w' => v = .int .i64 (sLen : Int) ∧ Blk w' g t (put cs off xs) ∧ Fr (fun k => k = g) w w' := by
  have hmin : Nat.min sLen dLen = sLen := Nat.min_eq_left hle
  rcases Nat.eq_zero_or_pos sLen with h0 | h0
  · have hx : xs = [] := List.eq_nil_of_length_eq_zero (by rw [hr.1, h0])
    subst hx; subst h0
    have hrun := run_copy_none (P := P) w dT sT o.type elem (some ⟨g, off, none⟩) A dLen dCap 0 sCap hu hsz hmin
    refine ⟨.int .i64 0, w, .inl ?_, rfl, by rw [put_nil]; exact hb, Fr.refl⟩
    simp [execOp, ho, resolve, invoke, builtin, hd, hs, hrun, goInt]
  · obtain ⟨b, off', rfl, hc⟩ := hr.2 h0
    have hrun := run_copy_row (P := P) w dT sT o.type elem g off dLen dCap ⟨b, off', none⟩ sLen sCap cs.toArray t xs hu hsz hb (by rw [hr.1, hmin]) (fun j v hv => by rw [Addr.add_mid]; exact hc j v hv) (by simpa [hr.1] using hfit) h1
    refine ⟨_, w.setRow g (put cs off xs).toArray, .inl ?_, rfl, ?_, fr_setRow w g _⟩
    rotate_left
    · exact setRow_heap w g _ _ t _ hb
    · simp [execOp, ho, resolve, invoke, builtin, hd, hs, hrun, goInt, put, hr.1]

/-- append onto a row of the call's own; elements of one cell. -/
theorem does_append (s x : Operand) (t : TypeId) (ho : o.op = .call { callee := .builtin .append, args := #[s, x], argTypes := #[t, t] })
    (base : Nat) (e : TypeId) (z : Value) (bytes : Nat) (ht : P.underlying t = some (.slice e)) (hi : (P.info? e).map (fun i => (i.zero, i.size, i.bytes)) = some (some z, 1, bytes)) (hzs : z.cells.size = 1)
    (v : Value) (n : Nat) (xs : List Value) (hs : ρ s = v) (hown : w.ownsRow base e 1 v n xs)
    (A : Option Addr) (m c : Nat) (news : List Value) (hx : ρ x = .slice A m c) (hr : Rd w A m news) (h1 : ∀ u ∈ news, u.oneCell' = true)
    (h63 : n + m ≤ maxLen) (hbytes : (n + m) * bytes ≤ 140737488355328) (hbase : base ≤ w.heap.size) :
    Does P ρ o w fun v' w' => w'.ownsRow base e 1 v' (n + m) (xs ++ news) ∧ w.grownBy w' v.ownBlock ∧ (v'.ownBlock = v.ownBlock ∨ v'.ownBlock = some w.heap.size) := by
  cases hq : P.info? e with
  | none => simp [hq] at hi
  | some i =>
    obtain ⟨hz, hsize, hby⟩ : i.zero = some z ∧ i.size = 1 ∧ i.bytes = bytes := by simpa [hq] using hi
    obtain ⟨v', w', hrun, h2, h3, h4⟩ := run_append_onto (P := P) w base t o.type e i z bytes ht hq hz hsize hby hzs v n xs hown A m c news hr h1 h63 hbytes hbase
    refine ⟨v', w', .inl ?_, h2, h3, h4⟩
    unfold execOp
    simp only [ho, resolve, invoke, builtin, Sem.run_bind, Sem.run_pure, Result.andThen_ok, List.map_toArray, List.map_cons, List.map_nil, hs, hx, hrun]
end

/-- A row that the call owns, as a block. -/
theorem own_blk {w : World} {base : Nat} {e : TypeId} {v : Value} {n : Nat} {xs : List Value} (h : w.ownsRow base e 1 v n xs) (hn : 0 < n) :
    ∃ g cap rest, v = .slice (some ⟨g, 0, none⟩) n cap ∧ base ≤ g ∧ n ≤ cap ∧ Blk w g e (xs ++ rest) ∧ (xs ++ rest).length = cap := by
  rcases h.2 with ⟨_, h0⟩ | ⟨g, cap, cur, rfl, hb, hg, hc, _, hs, ht⟩
  · omega
  · refine ⟨g, cap, cur.toList.drop n, rfl, hb, hc, ?_, ?_⟩
    · have : xs ++ cur.toList.drop n = cur.toList := by rw [← ht, Nat.mul_one, List.take_append_drop]
      unfold Blk; rw [this]; simpa using hg
    · have : xs ++ cur.toList.drop n = cur.toList := by rw [← ht, Nat.mul_one, List.take_append_drop]
      rw [this]; simpa using hs
theorem own_form {w : World} {base : Nat} {e : TypeId} {v : Value} {n : Nat} {xs : List Value} (h : w.ownsRow base e 1 v n xs) :
    ∃ A cap, v = .slice A n cap ∧ n ≤ cap ∧ cap ≤ maxLen ∧ Rd w A n xs ∧ (∀ b off, A = some ⟨b, off, none⟩ → base ≤ b ∧ off = 0) := by
  rcases h.2 with ⟨rfl, h0⟩ | ⟨g, cap, cur, rfl, hb, hg, hc, hm, hs, ht⟩
  · subst h0
    have hx : xs = [] := List.eq_nil_of_length_eq_zero (by simpa using h.1)
    subst hx
    exact ⟨none, 0, rfl, Nat.le_refl _, Nat.zero_le _, Rd.nil, by simp⟩
  · refine ⟨some ⟨g, 0, none⟩, cap, rfl, hc, hm, Rd.of_own h, ?_⟩
    intro b off e; injection e with e; injection e with e1 e2 _; subst e1; exact ⟨hb, e2.symm⟩
theorem own_fr {w w' : World} {S : Nat → Prop} {base : Nat} {e : TypeId} {v : Value} {n : Nat} {xs : List Value} (h : w.ownsRow base e 1 v n xs) (hf : Fr S w w') (hn : ∀ k, v.ownBlock = some k → ¬ S k) :
    w'.ownsRow base e 1 v n xs := by
  refine ⟨h.1, ?_⟩
  rcases h.2 with hh | ⟨g, cap, cur, rfl, hb, hg, r⟩
  · exact .inl hh
  · exact .inr ⟨g, cap, cur, rfl, hb, (hf.block g (Array.getElem?_eq_some_iff.1 hg).1 (hn g rfl)).trans hg, r⟩
theorem own_base {w : World} {base base' : Nat} {e : TypeId} {v : Value} {n : Nat} {xs : List Value} (h : w.ownsRow base e 1 v n xs) (hb : base' ≤ base) : w.ownsRow base' e 1 v n xs := by
  refine ⟨h.1, ?_⟩
  rcases h.2 with hh | ⟨g, cap, cur, hv, hg, r⟩
  · exact .inl hh
  · exact .inr ⟨g, cap, cur, hv, by omega, r⟩
theorem own_new0 (w : World) (e : TypeId) : (w.alloc (.cells #[] e)).ownsRow w.heap.size e 1 (.slice (some ⟨w.heap.size, 0, none⟩) 0 0) 0 [] :=
  World.ownsRow_made w #[] 0 (Nat.le_refl _) (Nat.zero_le _) rfl
/-- Behind an append onto a row of the call's own: the frame from where the call began. -/
theorem Fr.app {S : Nat → Prop} {w0 w w' : World} {base : Nat} {e : TypeId} {v : Value} {n : Nat} {xs : List Value} (h : Fr S w0 w) (hown : w.ownsRow base e 1 v n xs) (hb : w0.heap.size ≤ base) (hg : w.grownBy w' v.ownBlock) : Fr S w0 w' :=
  h.grown hg (fun k hk hlt => by have := (hown.lt k hk).1; omega)
end Go.Proofs.YthdlljlcffokbaaDoor
namespace Go.Proofs.YthdlljlcffokbaaDoor
open Go.RowKit

section
variable {P : Program} (w : World)
theorem run_part8 (e : TypeId) (he : P.underlying e = some (.int .u8)) (a : List UInt8) (i : Nat) (h : i < a.length) :
    (part e (bvs a).toArray i).run P w = .ok (.int .u8 (a[i].toNat : Int)) w := by
  have hagg : (isAgg e).run P w = .ok false w := by
    unfold isAgg; rw [Sem.run_bind, run_underlying he w]; rfl
  unfold part
  rw [Sem.run_bind, hagg]
  simp [bvs, h, bv]

theorem run_equalIn_bytes (d : Nat) (t e : TypeId) (n : Nat) (ht : P.underlying t = some (.array n e)) (he : P.underlying e = some (.int .u8)) (hsz : (P.info? e).map (·.size) = some 1)
    (a b : List UInt8) (ha : a.length = n) (hb : b.length = n) :
    (Op.equalIn (d + 2) t (.agg (bvs a).toArray) (.agg (bvs b).toArray)).run P w = .ok (a == b) w := by
  have hs : (sizeOf e).run P w = .ok 1 w := by
    cases hq : P.info? e with
    | none => simp [hq] at hsz
    | some i =>
      have h1 : i.size = 1 := by simpa [hq] using hsz
      simp [sizeOf, typeInfo, hq, h1]
  have key : ∀ (m k : Nat), k + m = n → (forIn (m := Sem) (List.range' k m) ((none, ()) : Option Bool × Unit) (fun i _ => do
      if (!(← Op.equalIn (d + 1) e (← part e (bvs a).toArray (i * 1)) (← part e (bvs b).toArray (i * 1)))) = true then pure (ForInStep.done (some false, ()))
      else pure (ForInStep.yield (none, ())))).run P w = .ok (if a.drop k = b.drop k then (none, ()) else (some false, ())) w := by
    intro m
    induction m with
    | zero => intro k hk; simp [List.drop_of_length_le (show a.length ≤ k by omega), List.drop_of_length_le (show b.length ≤ k by omega)]
    | succ m ih =>
      intro k hk
      have hka : k < a.length := by omega
      have hkb : k < b.length := by omega
      rw [List.range'_succ, List.forIn_cons]
      simp only [Nat.mul_one, Sem.run_bind, run_part8 w e he a k hka, run_part8 w e he b k hkb, Result.andThen_ok, run_equalIn_int w d e .u8 .u8 _ _ he]
      by_cases hc : a[k] = b[k]
      · rw [List.drop_eq_getElem_cons hka, List.drop_eq_getElem_cons hkb, hc]
        simp only [beq_self_eq_true, Bool.not_true, Bool.false_eq_true, if_false, Sem.run_pure, Result.andThen_ok, List.cons.injEq, true_and]
        have := ih (k + 1) (by omega)
        simp only [Nat.mul_one] at this
        exact this
      · have hne : ((a[k].toNat : Int) == (b[k].toNat : Int)) = false := by
          rw [beq_eq_false_iff_ne]; intro h; exact hc (UInt8.toNat_inj.1 (by omega))
        have hd : ¬ a.drop k = b.drop k := by
          rw [List.drop_eq_getElem_cons hka, List.drop_eq_getElem_cons hkb]
          intro h; injection h with h _; exact hc h
        simp [hne, hd]
  have := key n 0 (by omega)
  simp only [List.drop_zero] at this
  unfold Op.equalIn
  simp only [Sem.run_bind, run_underlying ht, Result.andThen_ok, hs, Std.Legacy.Range.forIn_eq_forIn_range', Std.Legacy.Range.size, Nat.sub_zero, Nat.add_sub_cancel, Nat.div_one]
  rw [this]
  by_cases h : a = b
  · simp [h]
  · have : (a == b) = false := by simpa using h
    simp [h]
end

theorem run_arrayAt {P : Program} (w : World) (arr e : TypeId) (n : Nat) (hu : P.underlying arr = some (.array n e)) (A : Option Addr) (len cap : Nat) (h : n ≤ len) :
    (Instr.arrayAt arr (.slice A len cap)).run P w = .ok (.pointer A) w := by
  simp [Instr.arrayAt, run_underlying hu, Nat.not_lt.2 h]
/-- A row is loaded out of a slice's memory. -/
theorem exec_loadRd {P : Program} {ρ : Operand → Value} {o : Oper} {w : World} (ty : TypeId) (x : Operand) (ho : o.op = .load ty x) (b off n : Nat) (xs : List Value) (d : TypeDesc)
    (hx : ρ x = .pointer (some ⟨b, off, none⟩)) (hr : Rd w (some ⟨b, off, none⟩) n xs) (hu : P.underlying ty = some d) (hd : d.isRow = true) (hi : (P.info? ty).map (·.size) = some n) :
    (execOp ρ o).run P w = .ok (.value (.agg xs.toArray)) w := by
  have hc : w.rangeAt b off xs := fun j v hv => by
    have hj : 0 < n := by have := (List.getElem?_eq_some_iff.1 hv).1; have := hr.1; omega
    obtain ⟨b', off', e, hc⟩ := hr.2 hj
    injection e with e; injection e with e1 e2 _; subst e1; subst e2
    exact hc j v hv
  have hrun := run_loadVar_mid (P := P) w b off ty xs d hc hu hd (by rw [hr.1]; exact hi)
  unfold execOp
  simp only [ho, hx, Instr.loadAt, Instr.sureAddr, Sem.run_bind, Sem.run_pure, Result.andThen_ok, hrun]

/-- A region that draws its order, every operation quiet in a family of worlds. -/
theorem wp_region_fam {P : Program} {X : Type} (F : X → World) {id : Nat} {Q : Exit → Act → World → Prop} {a : Act} {w : World} {l : List Oper}
    (hm : P.follows .mixedOrders = true) (hB : Region.lexB .any l.toArray = true) (x0 : X) (hx0 : w.drew = F x0)
    (h : wpQuiet P l.toArray (fun w' => ∃ x, w' = F x) (fun a' => ∀ w', (∃ x, w' = F x) → Q .normal a' w') l a) : (Code.region id l.toArray true).wp P Q a w :=
  wp_region_quiet (C := fun w' => ∃ x, w' = F x) hm hB ⟨x0, hx0⟩ (by simpa using h)

/-- The worlds in which old memory stands, as a family. -/
theorem family0 (w w1 : World) (h : Fr0 w w1) : ∃ (X : Type) (F : X → World), Nonempty X ∧ (∀ x, Fr0 w (F x)) ∧ (∀ w', Fr0 w w' → ∃ y, w' = F y) ∧ ∃ x0, w1.drew = F x0 :=
  ⟨{w' : World // Fr0 w w'}, Subtype.val, ⟨⟨w1, h⟩⟩, fun x => x.2, fun w' h' => ⟨⟨w', h'⟩, rfl⟩, ⟨⟨w1.drew, h.drew⟩, rfl⟩⟩

/-- An operation that comes to one value in every world of the family. -/
theorem wpQuiet_val {P : Program} {X : Type} {F : X → World} {ops : Array Oper} {Q : Act → Prop} {a : Act} {o : Oper} {rest : List Oper} {v : Value} (hw : Region.wanted o (yielded ops a.tmps) = true)
    (h : ∀ x, (execOp a.eval o).run P (F x) = .ok (.value v) (F x)) (k : wpQuiet P ops (fun w' => ∃ x, w' = F x) Q rest (a.put o.dst v)) : wpQuiet P ops (fun w' => ∃ x, w' = F x) Q (o :: rest) a := by
  unfold wpQuiet
  rw [if_pos hw]
  refine ⟨v, ?_, k⟩
  rintro w ⟨x, rfl⟩
  unfold Oper.quietAt
  rw [h x]
  exact ⟨rfl, rfl⟩
end Go.Proofs.YthdlljlcffokbaaDoor
namespace Go.Proofs.YthdlljlcffokbaaDoor
open Go.RowKit

section
variable {P : Program} {ρ : Operand → Value} {o : Oper} {w : World}
/-- make([]T, n): a new row of zeros. -/
theorem does_make (t : TypeId) (l c : Operand) (ho : o.op = .makeSlice t l c) (e : TypeId) (z : Value) (size bytes n : Nat) (ht : P.underlying t = some (.slice e))
    (hi : (P.info? e).map (fun i => (i.zero, i.size, i.bytes)) = some (some z, size, bytes)) (hl : ρ l = .int .i64 (n : Int)) (hc : ρ c = .int .i64 (n : Int)) (hb : bytes * n ≤ 281474976710656) (h63 : n ≤ 9223372036854775807) :
    Does P ρ o w fun v w' => ∃ g, v = .slice (some ⟨g, 0, none⟩) n n ∧ w.heap.size ≤ g ∧ g < w'.heap.size ∧ Blk w' g e (madeCells z.cells (n * size)).toList ∧ Fr0 w w' := by
  cases hq : P.info? e with
  | none => simp [hq] at hi
  | some i =>
    obtain ⟨hz, hsize, hby⟩ : i.zero = some z ∧ i.size = size ∧ i.bytes = bytes := by simpa [hq] using hi
    subst hsize; subst hby
    have hb' : (i.bytes : Int) * (n : Int) ≤ 281474976710656 := by
      have h : ((i.bytes * n : Nat) : Int) ≤ 281474976710656 := by omega
      rwa [Int.natCast_mul] at h
    have hr := run_make (P := P) w t e i z ht hq hz .i64 .i64 (n : Int) (n : Int) (by omega) (Int.le_refl _) hb' (by omega)
    simp only [Int.toNat_natCast] at hr
    refine ⟨_, w.alloc (.cells (madeCells z.cells (n * i.size)) e), .inl ?_, w.heap.size, rfl, Nat.le_refl _, by simp, ?_, Fr.refl.alloc _⟩
    · unfold execOp
      simp only [ho, hl, hc, Sem.run_bind, hr, Result.andThen_ok, Sem.run_pure]
    · have := Blk.new w e (madeCells z.cells (n * i.size)).toList
      rwa [Array.toArray_toList] at this
/-- .. of elements of one cell. -/
theorem does_make1 (t : TypeId) (l c : Operand) (ho : o.op = .makeSlice t l c) (e : TypeId) (z : Value) (bytes n : Nat) (ht : P.underlying t = some (.slice e))
    (hi : (P.info? e).map (fun i => (i.zero, i.size, i.bytes)) = some (some z, 1, bytes)) (hzc : z.cells = #[z]) (hl : ρ l = .int .i64 (n : Int)) (hc : ρ c = .int .i64 (n : Int)) (hb : bytes * n ≤ 281474976710656) (h63 : n ≤ 9223372036854775807) :
    Does P ρ o w fun v w' => ∃ g, v = .slice (some ⟨g, 0, none⟩) n n ∧ w.heap.size ≤ g ∧ g < w'.heap.size ∧ Blk w' g e (List.replicate n z) ∧ Fr0 w w' := by
  have h := does_make (w := w) t l c ho e z 1 bytes n ht hi hl hc hb h63
  rwa [hzc, Nat.mul_one, toList_madeCells_one] at h
end
end Go.Proofs.YthdlljlcffokbaaDoor
namespace Go.Proofs.YthdlljlcffokbaaDoor
open Go.RowKit

section
variable {P : Program} {ρ : Operand → Value} {o : Oper} {w : World}
/-- append onto a row of the call's own (or any row known by its first cells); elements of 'size' cells. -/
theorem does_appendN (s x : Operand) (t : TypeId) (ho : o.op = .call { callee := .builtin .append, args := #[s, x], argTypes := #[t, t] })
    (base : Nat) (e : TypeId) (z : Value) (size bytes : Nat) (ht : P.underlying t = some (.slice e)) (hi : (P.info? e).map (fun i => (i.zero, i.size, i.bytes)) = some (some z, size, bytes)) (hzs : z.cells.size = size) (hpos : 0 < size)
    (v : Value) (n : Nat) (xs : List Value) (hs : ρ s = v) (hown : w.ownsRow base e size v n xs)
    (A : Option Addr) (m c : Nat) (news : List Value) (hx : ρ x = .slice A m c) (hr : Rd w A (m * size) news) (h1 : ∀ u ∈ news, u.oneCell' = true)
    (h63 : n + m ≤ maxLen) (hbytes : (n + m) * bytes ≤ 140737488355328) (hbase : base ≤ w.heap.size) :
    Does P ρ o w fun v' w' => w'.ownsRow base e size v' (n + m) (xs ++ news) ∧ w.grownBy w' v.ownBlock ∧ (v'.ownBlock = v.ownBlock ∨ v'.ownBlock = some w.heap.size) := by
  cases hq : P.info? e with
  | none => simp [hq] at hi
  | some i =>
    obtain ⟨hz, hsize, hby⟩ : i.zero = some z ∧ i.size = size ∧ i.bytes = bytes := by simpa [hq] using hi
    have key : ∃ v' w', (Builtin.append_ #[t, t] o.type #[v, .slice A m c]).run P w = .ok v' w' ∧ w'.ownsRow base e size v' (n + m) (xs ++ news) ∧ w.grownBy w' v.ownBlock ∧ (v'.ownBlock = v.ownBlock ∨ v'.ownBlock = some w.heap.size) := by
      rcases A with _ | ad
      · have hm : m = 0 := by
          rcases Nat.eq_zero_or_pos m with h0 | h0
          · exact h0
          · obtain ⟨b, off, h, _⟩ := hr.2 (Nat.mul_pos h0 hpos)
            cases h
        subst hm
        have hn : news = [] := List.eq_nil_of_length_eq_zero (by rw [hr.1, Nat.zero_mul])
        subst hn
        refine ⟨v, w, ?_, by simpa using hown, ⟨rfl, rfl, rfl, Nat.le_refl _, fun _ _ _ => rfl⟩, .inl rfl⟩
        rcases hown.2 with ⟨rfl, rfl⟩ | ⟨g, cap, cur, rfl, _, _, hnc, _⟩
        · simp [Builtin.append_, run_underlying ht, sizeOf, typeInfo, hq, Builtin.lenOf, Builtin.firstCells]
        · simp [Builtin.append_, run_underlying ht, sizeOf, typeInfo, hq, Builtin.lenOf, Builtin.firstCells, hnc, storeCells]
      · have hcells : ∀ j u, news[j]? = some u → w.cell? (ad.add j) = some u := by
          intro j u hu
          have hl : 0 < m * size := by have := (List.getElem?_eq_some_iff.1 hu).1; rw [hr.1] at this; omega
          obtain ⟨b', off', h, hc⟩ := hr.2 hl
          injection h with h
          subst h
          rw [Addr.add_mid]; exact hc j u hu
        obtain ⟨v', w', hrun, h2, h3, _, h5⟩ := run_append_own_at (P := P) w base t o.type e i z size bytes ht hq hz hsize hby hzs hpos v n xs hown ad m c news hr.1 hcells h1 h63 hbytes hbase
        exact ⟨v', w', hrun, h2, h3, h5⟩
    obtain ⟨v', w', hrun, h2, h3, h4⟩ := key
    refine ⟨v', w', .inl ?_, h2, h3, h4⟩
    unfold execOp
    simp only [ho, resolve, invoke, builtin, Sem.run_bind, Sem.run_pure, Result.andThen_ok, List.map_toArray, List.map_cons, List.map_nil, hs, hx, hrun]
/-- [0]T{} .. of whatever elements: a new row without cells. -/
theorem ownN_new0 (w : World) (e : TypeId) (size : Nat) : (w.alloc (.cells #[] e)).ownsRow w.heap.size e size (.slice (some ⟨w.heap.size, 0, none⟩) 0 0) 0 [] :=
  World.ownsRow_made w #[] 0 (Nat.le_refl _) (Nat.zero_le _) (by simp)
theorem Fr.appN {S : Nat → Prop} {w0 w w' : World} {base size : Nat} {e : TypeId} {v : Value} {n : Nat} {xs : List Value} (h : Fr S w0 w) (hown : w.ownsRow base e size v n xs) (hb : w0.heap.size ≤ base) (hg : w.grownBy w' v.ownBlock) : Fr S w0 w' :=
  h.grown hg (fun k hk hlt => by have := (hown.lt k hk).1; omega)
theorem ownN_base {w : World} {base base' size : Nat} {e : TypeId} {v : Value} {n : Nat} {xs : List Value} (h : w.ownsRow base e size v n xs) (hb : base' ≤ base) : w.ownsRow base' e size v n xs := by
  refine ⟨h.1, ?_⟩
  rcases h.2 with hh | ⟨g, cap, cur, hv, hg, r⟩
  · exact .inl hh
  · exact .inr ⟨g, cap, cur, hv, by omega, r⟩
end
end Go.Proofs.YthdlljlcffokbaaDoor
namespace Go.Proofs.YthdlljlcffokbaaDoor
open Go.RowKit

theorem Fr.ofDrew {S : Nat → Prop} {w w' : World} (h : Fr S w.drew w') : Fr S w w' := ⟨h.os, h.tape, h.output, h.size, h.block⟩
theorem blt_lt {a b : Nat} (h : Nat.blt a b = true) : a < b := Nat.le_of_ble_eq_true h
abbrev Env := List (Nat × Value)
def Env.get : Env → Nat → Option Value
  | [], _ => none
  | (k, v) :: e, n => match Nat.beq k n with
    | true => some v
    | false => Env.get e n
/-- The frame is as the environment says. -/
structure Agr (n : Nat) (e : Env) (a : Act) : Prop where
  size : a.tmps.size = n
  defers : a.defers = []
  get : ∀ k v, e.get k = some v → a.tmps[k]? = some v
def ev (e : Env) : Operand → Option Value
  | .tmp t => e.get t
  | .const v => some v
  | .global g => some (.pointer (some ⟨g, 0, none⟩))
  | .func f => some (.func (.func f) #[] #[])
def evs (e : Env) : List Operand → Option (List Value)
  | [] => some []
  | x :: xs => match ev e x, evs e xs with
    | some v, some vs => some (v :: vs)
    | _, _ => none
/-- The operands read as the environment says. -/
def Ag (e : Env) (ρ : Operand → Value) : Prop := ∀ x v, ev e x = some v → ρ x = v
theorem Agr.eval {n : Nat} {e : Env} {a : Act} (h : Agr n e a) : Ag e a.eval := by
  intro x v hx
  cases x with
  | tmp t => have := h.get t v hx; simp [Act.eval, this]
  | const u => simpa [ev, Act.eval] using hx
  | global g => simpa [ev, Act.eval] using hx
  | func f => simpa [ev, Act.eval] using hx
theorem Ag.all {e : Env} {ρ : Operand → Value} (h : Ag e ρ) : ∀ {xs : List Operand} {vs : List Value}, evs e xs = some vs → xs.map ρ = vs
  | [], vs, hx => by simp [evs] at hx; simp [hx]
  | x :: xs, vs, hx => by
    unfold evs at hx
    cases h1 : ev e x with
    | none => simp [h1] at hx
    | some v =>
      cases h2 : evs e xs with
      | none => simp [h1, h2] at hx
      | some us =>
        simp only [h1, h2, Option.some.injEq] at hx
        subst hx
        rw [List.map_cons, h x v h1, h.all h2]
theorem Agr.put {n : Nat} {e : Env} {a : Act} (h : Agr n e a) {d : Nat} (hd : d < n) (v : Value) : Agr n ((d, v) :: e) (a.put (some d) v) where
  size := by simp [Act.put, h.size]
  defers := by simpa [Act.put] using h.defers
  get := by
    intro k u hk
    unfold Env.get at hk
    simp only [Act.put]
    split at hk
    · rename_i hb
      obtain rfl : d = k := Nat.eq_of_beq_eq_true hb
      simp only [Option.some.injEq] at hk
      subst hk
      have : d < a.tmps.size := by rw [h.size]; exact hd
      simp [this]
    · rename_i hb
      have hne : d ≠ k := fun e => by subst e; simp at hb
      rw [Array.getElem?_setIfInBounds_ne hne]
      exact h.get k u hk
/-- The environment with what an operation yields. -/
def Env.ins (e : Env) : Option Tmp → Value → Env
  | some d, v => (d, v) :: e
  | none, _ => e
def dstOk (n : Nat) : Option Tmp → Bool
  | some d => Nat.blt d n
  | none => true
theorem Agr.ins {n : Nat} {e : Env} {a : Act} (h : Agr n e a) {d : Option Tmp} (hd : dstOk n d = true) (v : Value) : Agr n (e.ins d v) (a.put d v) := by
  cases d with
  | none => exact h
  | some d => exact h.put (blt_lt hd) v
def Env.le : Env → Env → Prop
  | [], _ => True
  | (k, v) :: r, e => e.get k = some v ∧ Env.le r e
theorem Env.le_get {r e : Env} (h : r.le e) : ∀ k v, r.get k = some v → e.get k = some v := by
  induction r with
  | nil => intro k v hk; simp [Env.get] at hk
  | cons p r ih =>
    obtain ⟨k0, v0⟩ := p
    intro k v hk
    unfold Env.get at hk
    split at hk
    · rename_i hb
      obtain rfl : k0 = k := Nat.eq_of_beq_eq_true hb
      simp only [Option.some.injEq] at hk
      subst hk
      exact h.1
    · exact ih h.2 k v hk
theorem Agr.weak {n : Nat} {e r : Env} {a : Act} (h : Agr n e a) (hl : r.le e) : Agr n r a := ⟨h.size, h.defers, fun k v hk => h.get k v (Env.le_get hl k v hk)⟩

structure Sx (P : Program) (c : Code) (Q : Exit → Act → World → Prop) (n : Nat) (e : Env) (w : World) : Prop where
  run : ∀ a, Agr n e a → c.wp P Q a w
structure SxL (P : Program) (ops : Array Oper) (Q : Exit → Act → World → Prop) (n : Nat) (l : List Oper) (e : Env) (w : World) : Prop where
  run : ∀ a, Agr n e a → wpList P ops Q l a w
structure QX (Q : Exit → Act → World → Prop) (x : Exit) (n : Nat) (e : Env) (w : World) : Prop where
  run : ∀ a, Agr n e a → Q x a w
/-- The reading part of a region that draws its order; q: what follows it. -/
structure SxS (P : Program) (ops : Array Oper) (w : World) (q : Act → Prop) (n : Nat) (l : List Oper) (e : Env) : Prop where
  run : ∀ a, Agr n e a → wpStill P ops w q l a

section
variable {P : Program} {Q : Exit → Act → World → Prop} {n : Nat} {e : Env} {w : World}
theorem sx_seq {x y : Code} (h : Sx P x (Exit.then (y.wp P Q) Q) n e w) : Sx P (Code.seq x y) Q n e w := ⟨fun a ha => wp_seq (h.run a ha)⟩
theorem sx_block {id : Nat} {c : Code} (h : Sx P c (Exit.inBlock id Q) n e w) : Sx P (Code.block id c) Q n e w := ⟨fun a ha => wp_block (h.run a ha)⟩
theorem sx_skip (h : QX Q .normal n e w) : Sx P Code.skip Q n e w := ⟨fun a ha => wp_skip (h.run a ha)⟩
theorem sx_exit {id : Nat} (h : QX Q (.exit id) n e w) : Sx P (Code.exit id) Q n e w := ⟨fun a ha => wp_exit (h.run a ha)⟩
theorem sx_ret (h : QX Q .ret n e w) : Sx P Code.ret Q n e w := ⟨fun a ha => wp_ret (h.run a ha)⟩
theorem sx_true {c : Operand} {x y : Code} (hc : ev e c = some (.bool true)) (h : Sx P x Q n e w) : Sx P (Code.cond c x y) Q n e w := ⟨fun a ha => wp_cond_true (ha.eval _ _ hc) (h.run a ha)⟩
theorem sx_false {c : Operand} {x y : Code} (hc : ev e c = some (.bool false)) (h : Sx P y Q n e w) : Sx P (Code.cond c x y) Q n e w := ⟨fun a ha => wp_cond_false (ha.eval _ _ hc) (h.run a ha)⟩
theorem sx_region {id : Nat} {l : List Oper} (h : SxL P l.toArray Q n l e w) : Sx P (Code.region id l.toArray false) Q n e w := ⟨fun a ha => wp_region_lit (h.run a ha)⟩
theorem sx_still {id : Nat} {l : List Oper} (hm : P.follows .mixedOrders = true) (hB : Region.lexB .any l.toArray = true)
    (h : SxS P l.toArray w.drew (fun a' => Q .normal a' w.drew) n l e) : Sx P (Code.region id l.toArray true) Q n e w := ⟨fun a ha => wp_region_still_lit hm hB (h.run a ha)⟩
theorem sx_tail {id : Nat} {l : List Oper} (k : Nat) (hm : P.follows .mixedOrders = true) (hB : Region.lexTailB .any l.toArray k = true)
    (h : SxS P l.toArray w.drew (fun a' => wpList P l.toArray Q (l.drop k) a' w.drew) n (l.take k) e) : Sx P (Code.region id l.toArray true) Q n e w := ⟨fun a ha => wp_region_still_tail k hm hB (h.run a ha)⟩
theorem sxs_end {ops : Array Oper} (h : QX Q .normal n e w) : SxS P ops w (fun a' => Q .normal a' w) n [] e := ⟨fun a ha => wpStill_nil (h.run a ha)⟩
theorem sxs_tail {ops : Array Oper} {l : List Oper} (h : SxL P ops Q n l e w) : SxS P ops w (fun a' => wpList P ops Q l a' w) n [] e := ⟨fun a ha => wpStill_nil (h.run a ha)⟩
theorem sxl_nil {ops : Array Oper} (h : QX Q .normal n e w) : SxL P ops Q n [] e w := ⟨fun a ha => wpList_nil (h.run a ha)⟩
theorem qx_seq {y : Code} {Q' : Exit → Act → World → Prop} (h : Sx P y Q n e w) : QX (Exit.then (y.wp P Q) Q') .normal n e w := ⟨fun a ha => h.run a ha⟩
theorem qx_then_exit {K : Act → World → Prop} {id : Nat} (h : QX Q (.exit id) n e w) : QX (Exit.then K Q) (.exit id) n e w := ⟨fun a ha => h.run a ha⟩
theorem qx_then_ret {K : Act → World → Prop} (h : QX Q .ret n e w) : QX (Exit.then K Q) .ret n e w := ⟨fun a ha => h.run a ha⟩
theorem qx_block_normal {id : Nat} (h : QX Q .normal n e w) : QX (Exit.inBlock id Q) .normal n e w := ⟨fun a ha => h.run a ha⟩
theorem qx_block_ret {id : Nat} (h : QX Q .ret n e w) : QX (Exit.inBlock id Q) .ret n e w := ⟨fun a ha => h.run a ha⟩
theorem qx_block_hit {id : Nat} (h : QX Q .normal n e w) : QX (Exit.inBlock id Q) (.exit id) n e w := .mk fun a ha => by simp only [Exit.inBlock, if_true]; exact h.run a ha
theorem sx_weak {c : Code} {r : Env} (hl : r.le e) (h : Sx P c Q n r w) : Sx P c Q n e w := ⟨fun a ha => h.run a (ha.weak hl)⟩
/-- An operation is run. -/
def Wn (ops : Array Oper) (e : Env) (o : Oper) : Prop := ∀ n a, Agr n e a → Region.wanted o (yielded ops a.tmps) = true
theorem wn_none {ops : Array Oper} {o : Oper} (h : o.guard = none) : Wn ops e o := fun _ a _ => by simp [Region.wanted, h]
theorem wn_on {ops : Array Oper} {o : Oper} {j d : Nat} {b : Bool} (h : o.guard = some (j, b)) (hj : (ops[j]?).bind (·.dst) = some d) (hb : e.get d = some (.bool b)) : Wn ops e o := fun _ a ha => by
  simp [Region.wanted, h, yielded, hj, ha.get d _ hb]
/-- Skipped. -/
theorem sxl_off {ops : Array Oper} {o : Oper} {rest : List Oper} {j d d' : Nat} {b c : Bool} (h : o.guard = some (j, b)) (hj : (ops[j]?).bind (·.dst) = some d) (hb : e.get d = some (.bool c)) (hne : (c == b) = false) (hd : o.dst = some d') (hn : Nat.blt d' n = true)
    (k : SxL P ops Q n rest ((d', undef) :: e) w) : SxL P ops Q n (o :: rest) e w := .mk fun a ha => by
  have hw : Region.wanted o (yielded ops a.tmps) = false := by
    simp only [Region.wanted, h, yielded, hj, ha.get d _ hb, Option.bind_some]
    cases c <;> cases b <;> simp_all
  unfold wpList
  rw [if_neg (by simp [hw]), hd]
  exact k.run _ (ha.put (blt_lt hn) _)
/-- Skipped, since what it hangs on was skipped. -/
theorem sxl_offU {ops : Array Oper} {o : Oper} {rest : List Oper} {j d d' : Nat} {b : Bool} (h : o.guard = some (j, b)) (hj : (ops[j]?).bind (·.dst) = some d) (hb : e.get d = some undef) (hd : o.dst = some d') (hn : Nat.blt d' n = true)
    (k : SxL P ops Q n rest ((d', undef) :: e) w) : SxL P ops Q n (o :: rest) e w := .mk fun a ha => by
  have hw : Region.wanted o (yielded ops a.tmps) = false := by
    simp [Region.wanted, h, yielded, hj, ha.get d _ hb, undef]
  unfold wpList
  rw [if_neg (by simp [hw]), hd]
  exact k.run _ (ha.put (blt_lt hn) _)
/-- In this environment and world the operation yields v and leaves the world. -/
def Y (P : Program) (e : Env) (o : Oper) (w : World) (v : Value) : Prop := ∀ ρ, Ag e ρ → (execOp ρ o).run P w = .ok (.value v) w
theorem sxl_y {ops : Array Oper} {o : Oper} {rest : List Oper} {d : Nat} {v : Value} (hw : Wn ops e o) (hd : o.dst = some d) (hn : Nat.blt d n = true) (hy : Y P e o w v)
    (k : SxL P ops Q n rest ((d, v) :: e) w) : SxL P ops Q n (o :: rest) e w := .mk fun a ha => by
  unfold wpList
  rw [if_pos (hw n a ha)]
  refine .inl ?_
  unfold Oper.wp
  rw [hy _ ha.eval, Oper.upon_value, hd]
  exact k.run _ (ha.put (blt_lt hn) _)
theorem sxs_y {ops : Array Oper} {q : Act → Prop} {o : Oper} {rest : List Oper} {d : Nat} {v : Value} (hw : Wn ops e o) (hd : o.dst = some d) (hn : Nat.blt d n = true) (hy : Y P e o w v)
    (k : SxS P ops w q n rest ((d, v) :: e)) : SxS P ops w q n (o :: rest) e := .mk fun a ha => by
  unfold wpStill
  rw [if_pos (hw n a ha)]
  unfold Oper.still
  rw [hy _ ha.eval, Oper.stillUpon_value, hd]
  exact k.run _ (ha.put (blt_lt hn) _)
/-- The operation comes to what R knows. -/
theorem sxl_does {ops : Array Oper} {o : Oper} {rest : List Oper} {R : Value → World → Prop} (d : Option Tmp) (hw : Wn ops e o) (hd : o.dst = d) (hn : dstOk n d = true) (hy : ∀ ρ, Ag e ρ → Does P ρ o w R)
    (k : ∀ v w', R v w' → SxL P ops Q n rest (e.ins d v) w') : SxL P ops Q n (o :: rest) e w := .mk fun a ha => by
  unfold wpList
  rw [if_pos (hw n a ha)]
  refine .inl ((hy _ ha.eval).wp fun v w' hR => ?_)
  rw [hd]
  exact (k v w' hR).run _ (ha.ins hn v)
/-- A call. -/
def YC (P : Program) (e : Env) (o : Oper) (w : World) (f : FuncId) (args : Array Value) : Prop := ∀ ρ, Ag e ρ → (execOp ρ o).run P w = .ok (.enter f args) w
theorem sxl_call {ops : Array Oper} {o : Oper} {rest : List Oper} {f : FuncId} {args : Array Value} {R : Ending → World → Prop} (d : Option Tmp) (hw : Wn ops e o) (hd : o.dst = d) (hn : dstOk n d = true) (hy : YC P e o w f args) (hc : Calls P f args w R)
    (k : ∀ x w', R x w' → ∃ v, x = .returned v ∧ SxL P ops Q n rest (e.ins d v) w') : SxL P ops Q n (o :: rest) e w := .mk fun a ha => by
  unfold wpList
  rw [if_pos (hw n a ha)]
  refine .inl ?_
  unfold Oper.wp
  rw [hy _ ha.eval, Oper.upon_enter]
  refine hc.mono fun x w' hR => ?_
  obtain ⟨v, rfl, h⟩ := k x w' hR
  simp only [hd]
  exact h.run _ (ha.ins hn v)
/-- A call that leaves the world, in the reading part. -/
theorem sxs_call {ops : Array Oper} {q : Act → Prop} {o : Oper} {rest : List Oper} {f : FuncId} {args : Array Value} {d : Nat} {v : Value} (hw : Wn ops e o) (hd : o.dst = some d) (hn : Nat.blt d n = true) (hy : YC P e o w f args) (hc : Calls P f args w fun x w' => x = .returned v ∧ w = w')
    (k : SxS P ops w q n rest ((d, v) :: e)) : SxS P ops w q n (o :: rest) e := .mk fun a ha => by
  unfold wpStill
  rw [if_pos (hw n a ha)]
  unfold Oper.still
  rw [hy _ ha.eval]
  simp only [Oper.stillUpon, true_and]
  refine ⟨v, hc.mono fun x w' h => ⟨h.1, h.2.symm⟩, ?_⟩
  rw [hd]
  exact k.run _ (ha.put (blt_lt hn) _)

/-- What is passed, in the slots. -/
def argEnv : Nat → List Value → Env
  | _, [] => []
  | i, v :: vs => (i, v) :: argEnv (i + 1) vs
theorem argEnv_get : ∀ (vs : List Value) (i k : Nat) (v : Value), (argEnv i vs).get k = some v → i ≤ k ∧ vs[k - i]? = some v
  | [], _, _, _, h => by simp [argEnv, Env.get] at h
  | u :: vs, i, k, v, h => by
    unfold argEnv Env.get at h
    split at h
    · rename_i hb
      obtain rfl : i = k := Nat.eq_of_beq_eq_true hb
      simp only [Option.some.injEq] at h
      subst h
      simp
    · obtain ⟨h1, h2⟩ := argEnv_get vs (i + 1) k v h
      refine ⟨by omega, ?_⟩
      rw [show k - i = (k - (i + 1)) + 1 by omega, List.getElem?_cons_succ]
      exact h2
theorem sx_enter {f : FuncId} {fn : Func} {c : Code} {vs : List Value} {R : Ending → World → Prop} (hf : P.funcs[f]? = some fn) (hb : fn.body = some c) (hn : fn.ntmps = n) (hl : Nat.ble vs.length n = true)
    (h : Sx P c (bodyPost P fn R) n (argEnv 0 vs) w) : Calls P f vs.toArray w R := by
  refine calls_of_wp hf hb (h.run _ ⟨?_, rfl, ?_⟩)
  · have : vs.length ≤ n := Nat.le_of_ble_eq_true hl
    simp [hn]; omega
  · intro k v hk
    obtain ⟨_, h2⟩ := argEnv_get vs 0 k v hk
    rw [Nat.sub_zero] at h2
    have hlt : k < vs.length := (List.getElem?_eq_some_iff.1 h2).1
    rw [Array.getElem?_append_left (by simpa using hlt)]
    simpa using h2
theorem qx_ret0 {fn : Func} {R : Ending → World → Prop} {x : Exit} (hx : x = .ret ∨ x = .normal) (hr : fn.results = #[]) (h : R (.returned (.tuple #[])) w) : QX (bodyPost P fn R) x n e w := .mk fun a ha => by
  have : (results fn a.tmps).run P w = .ok (.tuple #[]) w := by simp [results, hr]
  rcases hx with rfl | rfl <;> exact ⟨ha.defers, _, this, h⟩
theorem qx_ret1 {fn : Func} {R : Ending → World → Prop} {t : Nat} {v : Value} (hr : fn.results = #[.tmp t]) (hv : e.get t = some v) (h : R (.returned v) w) : QX (bodyPost P fn R) .ret n e w := .mk fun a ha => by
  have : (results fn a.tmps).run P w = .ok v w := by simp [results, hr, ha.get t v hv]
  exact ⟨ha.defers, _, this, h⟩
theorem qx_ret2 {fn : Func} {R : Ending → World → Prop} {t u : Nat} {v v' : Value} (hr : fn.results = #[.tmp t, .tmp u]) (hv : e.get t = some v) (hv' : e.get u = some v') (h : R (.returned (.tuple #[v, v'])) w) : QX (bodyPost P fn R) .ret n e w := .mk fun a ha => by
  have : (results fn a.tmps).run P w = .ok (.tuple #[v, v']) w := by simp [results, hr, ha.get t v hv, ha.get u v' hv']
  exact ⟨ha.defers, _, this, h⟩
theorem qx_ret3 {fn : Func} {R : Ending → World → Prop} {t u s : Nat} {v v' v'' : Value} (hr : fn.results = #[.tmp t, .tmp u, .tmp s]) (hv : e.get t = some v) (hv' : e.get u = some v') (hv'' : e.get s = some v'') (h : R (.returned (.tuple #[v, v', v''])) w) : QX (bodyPost P fn R) .ret n e w := .mk fun a ha => by
  have : (results fn a.tmps).run P w = .ok (.tuple #[v, v', v'']) w := by simp [results, hr, ha.get t v hv, ha.get u v' hv', ha.get s v'' hv'']
  exact ⟨ha.defers, _, this, h⟩

theorem least (p : Nat → Prop) (h : ∃ m, p m) : ∃ m, p m ∧ ∀ k, p k → m ≤ k := by
  obtain ⟨m, hm⟩ := h
  induction m using Nat.strongRecOn with
  | _ m ih =>
    by_cases hs : ∃ k, k < m ∧ p k
    · obtain ⟨k, hk, hp⟩ := hs; exact ih k hk hp
    · exact ⟨m, hm, fun k hp => Nat.le_of_not_lt fun hlt => hs ⟨k, hlt, hp⟩⟩
/-- What a round must come to. -/
def Again (I : Env → World → Nat → Prop) (n m : Nat) (a : Act) (w : World) : Prop := ∃ e m', I e w m' ∧ m' < m ∧ Agr n e a
theorem sx_loop {c : Code} (I : Env → World → Nat → Prop) {m0 : Nat} {e0 : Env} (h0 : I e0 w m0) (hl : e0.le e)
    (round : ∀ e w m, I e w m → Sx P c (Exit.then (Again I n m) Q) n e w) : Sx P (Code.loop c) Q n e w := by
  refine ⟨fun a ha => ?_⟩
  have hp : ∀ a w, (∃ e m, I e w m ∧ Agr n e a) → ∃ m, (∃ e, I e w m ∧ Agr n e a) ∧ ∀ k, (∃ e, I e w k ∧ Agr n e a) → m ≤ k :=
    fun a w ⟨e, m, h⟩ => least _ ⟨m, e, h⟩
  classical
  let μ : Act → World → Nat := fun a w => if h : ∃ e m, I e w m ∧ Agr n e a then (hp a w h).choose else 0
  have hμ : ∀ a w e m, I e w m → Agr n e a → μ a w ≤ m ∧ ∃ e', I e' w (μ a w) ∧ Agr n e' a := by
    intro a w e m hI hA
    have hex : ∃ e m, I e w m ∧ Agr n e a := ⟨e, m, hI, hA⟩
    have hs := (hp a w hex).choose_spec
    have : μ a w = (hp a w hex).choose := dif_pos hex
    rw [this]
    exact ⟨hs.2 m ⟨e, hI, hA⟩, hs.1⟩
  refine wp_loop (fun a w => ∃ e m, I e w m ∧ Agr n e a) μ ⟨e0, m0, h0, ha.weak hl⟩ ?_
  rintro a w ⟨e, m, hI, hA⟩
  obtain ⟨hle, e', hI', hA'⟩ := hμ a w e m hI hA
  refine wp_mono ((round e' w (μ a w) hI').run a hA') ?_
  intro x a' w' hx
  cases x with
  | normal =>
    obtain ⟨e'', m'', h1, h2, h3⟩ := hx
    exact ⟨⟨e'', m'', h1, h3⟩, Nat.lt_of_le_of_lt (hμ a' w' e'' m'' h1 h3).1 h2⟩
  | exit id => exact hx
  | goto l => exact hx
  | ret => exact hx
  | panic ch => exact hx
  | outgrown => exact hx
theorem qx_again {I : Env → World → Nat → Prop} {m : Nat} (r : Env) (m' : Nat) (hI : I r w m') (hm : m' < m) (hl : r.le e) : QX (Exit.then (Again I n m) Q) .normal n e w := ⟨fun _ ha => ⟨r, m', hI, hm, ha.weak hl⟩⟩
end
end Go.Proofs.YthdlljlcffokbaaDoor
namespace Go.Proofs.YthdlljlcffokbaaDoor
open Go.RowKit

/-- A cell's value, told of the heap alone. -/
structure Cell (h : Array Obj) (g off : Nat) (v : Value) : Prop where
  get : ∀ w : World, w.heap = h → w.cell? ⟨g, off, none⟩ = some v
theorem Cell.of {w : World} {g off : Nat} {v : Value} (h : w.cell? ⟨g, off, none⟩ = some v) : Cell w.heap g off v :=
  ⟨fun w' hw => by rw [← h]; exact World.cell?_of_block (w := w) (by rw [hw])⟩
theorem Blk.c {w : World} {g : Nat} {t : TypeId} {cs : List Value} (h : Blk w g t cs) (off : Nat) {v : Value} (hv : cs[off]? = some v) : Cell w.heap g off v := Cell.of ((h.cell off).trans hv)
theorem Cell.fr {S : Nat → Prop} {w w' : World} {g off : Nat} {v : Value} (h : Cell w.heap g off v) (hf : Fr S w w') (hn : ¬ S g) : Cell w'.heap g off v :=
  have hc := h.get w rfl
  Cell.of ((hf.cell (p := ⟨g, off, none⟩) (World.block_lt_of_cell? w _ hc) hn).trans hc)

def fieldOff (P : Program) (s f : Nat) : Option Nat := match P.underlying s with
  | some (.struct fs) => match fs[f]? with
    | some fd => match P.info? fd.type with
      | some i => if i.size = 0 then none else some fd.offset
      | none => none
    | none => none
  | _ => none
def scalarTy (P : Program) (t : Nat) : Bool := match P.underlying t with
  | some (.struct _) | some (.array _ _) | none => false
  | some _ => true
def sliceElem (P : Program) (t : Nat) : Option (Nat × Nat) := match P.underlying t with
  | some (.slice e) => match P.info? e with
    | some i => some (e, i.size)
    | none => none
  | _ => none
def arrElem (P : Program) (t : Nat) : Option (Nat × Nat × Nat) := match P.underlying t with
  | some (.array n e) => match P.info? e with
    | some i => some (n, e, i.size)
    | none => none
  | _ => none

def ptrElem (P : Program) (t : Nat) : Option Nat := match P.underlying t with
  | some (.pointer el) => some el
  | _ => none
theorem ptrElem_ok {P : Program} {t el : Nat} (h : ptrElem P t = some el) : P.underlying t = some (.pointer el) := by
  unfold ptrElem at h
  split at h
  · rename_i hu; simp only [Option.some.injEq] at h; subst h; exact hu
  · cases h
section
variable {P : Program} {e : Env} {w : World} {o : Oper}
theorem y_move {x : Operand} {v : Value} (ho : o.op = .move x) (hx : ev e x = some v) : Y P e o w v := fun ρ h => by
  unfold execOp; simp only [ho]; rw [h _ _ hx]; rfl
theorem y_assign {x : Operand} {v : Value} (ho : o.op = .assign x) (hx : ev e x = some v) : Y P e o w v := fun ρ h => by
  unfold execOp; simp only [ho]; rw [h _ _ hx]; rfl
theorem y_pick_t {c x y : Operand} {v : Value} (ho : o.op = .pick c x y) (hc : ev e c = some (.bool true)) (hx : ev e x = some v) : Y P e o w v := fun ρ h => by
  unfold execOp; simp [ho, h _ _ hc, h _ _ hx, asBool]
theorem y_pick_f {c x y : Operand} {v : Value} (ho : o.op = .pick c x y) (hc : ev e c = some (.bool false)) (hx : ev e y = some v) : Y P e o w v := fun ρ h => by
  unfold execOp; simp [ho, h _ _ hc, h _ _ hx, asBool]
theorem y_nil {x : Operand} {p : Addr} (ho : o.op = .nilCheck x) (hx : ev e x = some (.pointer (some p))) : Y P e o w (.pointer (some p)) := fun ρ h => by
  unfold execOp; simp only [ho, h _ _ hx]; rfl
theorem y_field {s f k g off : Nat} {x : Operand} (ho : o.op = .fieldAddr s x f) (hx : ev e x = some (.pointer (some ⟨g, off, none⟩))) (hf : fieldOff P s f = some k) : Y P e o w (.pointer (some ⟨g, off + k, none⟩)) := fun ρ h => by
  unfold fieldOff at hf
  split at hf
  · rename_i fs hu
    split at hf
    · rename_i fd hfd
      split at hf
      · rename_i i hi
        split at hf
        · cases hf
        · rename_i hz
          simp only [Option.some.injEq] at hf
          subst hf
          unfold execOp
          simp [ho, h _ _ hx, Instr.fieldAt, run_underlying hu, hfd, Instr.sureAddr, fieldPlace, sizeOf, typeInfo, hi, hz, Addr.add_mid]
      · cases hf
    · cases hf
  · cases hf
theorem y_load {t g off : Nat} {x : Operand} {v : Value} (ho : o.op = .load t x) (hx : ev e x = some (.pointer (some ⟨g, off, none⟩))) (ht : scalarTy P t = true) (hc : Cell w.heap g off v) : Y P e o w v := fun ρ h => by
  have hcell := hc.get w rfl
  unfold scalarTy at ht
  have ha : (isAgg t).run P w = .ok false w := by
    cases hu : P.underlying t with
    | none => simp [hu] at ht
    | some d =>
      unfold isAgg; rw [Sem.run_bind, run_underlying hu w]
      cases d <;> simp_all
  unfold execOp
  simp only [ho, h _ _ hx, Instr.loadAt, Instr.sureAddr, Sem.run_bind, Sem.run_pure, Result.andThen_ok, loadVar, ha, Bool.false_eq_true, if_false]
  simp [hcell]
theorem y_lss_t {t t' : Nat} {k : IntKind} {a b : Int} {x y : Operand} (ho : o.op = .binOp .lss t x y t') (hx : ev e x = some (.int k a)) (hy : ev e y = some (.int k b)) (hc : a < b) : Y P e o w (.bool true) := fun ρ h => by
  unfold execOp; simp [ho, h _ _ hx, h _ _ hy, eqGuard_at_int, binOp_lss]; omega
theorem y_lss_f {t t' : Nat} {k : IntKind} {a b : Int} {x y : Operand} (ho : o.op = .binOp .lss t x y t') (hx : ev e x = some (.int k a)) (hy : ev e y = some (.int k b)) (hc : ¬ (a < b)) : Y P e o w (.bool false) := fun ρ h => by
  unfold execOp; simp [ho, h _ _ hx, h _ _ hy, eqGuard_at_int, binOp_lss]; omega
theorem y_leq_t {t t' : Nat} {k : IntKind} {a b : Int} {x y : Operand} (ho : o.op = .binOp .leq t x y t') (hx : ev e x = some (.int k a)) (hy : ev e y = some (.int k b)) (hc : a ≤ b) : Y P e o w (.bool true) := fun ρ h => by
  unfold execOp; simp [ho, h _ _ hx, h _ _ hy, eqGuard_at_int, binOp_leq]; omega
theorem y_leq_f {t t' : Nat} {k : IntKind} {a b : Int} {x y : Operand} (ho : o.op = .binOp .leq t x y t') (hx : ev e x = some (.int k a)) (hy : ev e y = some (.int k b)) (hc : ¬ (a ≤ b)) : Y P e o w (.bool false) := fun ρ h => by
  unfold execOp; simp [ho, h _ _ hx, h _ _ hy, eqGuard_at_int, binOp_leq]; omega
theorem y_gtr_t {t t' : Nat} {k : IntKind} {a b : Int} {x y : Operand} (ho : o.op = .binOp .gtr t x y t') (hx : ev e x = some (.int k a)) (hy : ev e y = some (.int k b)) (hc : b < a) : Y P e o w (.bool true) := fun ρ h => by
  unfold execOp; simp [ho, h _ _ hx, h _ _ hy, eqGuard_at_int, binOp_gtr]; omega
theorem y_gtr_f {t t' : Nat} {k : IntKind} {a b : Int} {x y : Operand} (ho : o.op = .binOp .gtr t x y t') (hx : ev e x = some (.int k a)) (hy : ev e y = some (.int k b)) (hc : ¬ (b < a)) : Y P e o w (.bool false) := fun ρ h => by
  unfold execOp; simp [ho, h _ _ hx, h _ _ hy, eqGuard_at_int, binOp_gtr]; omega
theorem y_geq_t {t t' : Nat} {k : IntKind} {a b : Int} {x y : Operand} (ho : o.op = .binOp .geq t x y t') (hx : ev e x = some (.int k a)) (hy : ev e y = some (.int k b)) (hc : b ≤ a) : Y P e o w (.bool true) := fun ρ h => by
  unfold execOp; simp [ho, h _ _ hx, h _ _ hy, eqGuard_at_int, binOp_geq]; omega
theorem y_geq_f {t t' : Nat} {k : IntKind} {a b : Int} {x y : Operand} (ho : o.op = .binOp .geq t x y t') (hx : ev e x = some (.int k a)) (hy : ev e y = some (.int k b)) (hc : ¬ (b ≤ a)) : Y P e o w (.bool false) := fun ρ h => by
  unfold execOp; simp [ho, h _ _ hx, h _ _ hy, eqGuard_at_int, binOp_geq]; omega
theorem y_eql_t {t t' : Nat} {k : IntKind} {a b : Int} {x y : Operand} (ho : o.op = .binOp .eql t x y t') (hx : ev e x = some (.int k a)) (hy : ev e y = some (.int k b)) (hc : a = b) : Y P e o w (.bool true) := fun ρ h => by
  unfold execOp; simp [ho, h _ _ hx, h _ _ hy, eqGuard_at_int, binOp_eql]; omega
theorem y_eql_f {t t' : Nat} {k : IntKind} {a b : Int} {x y : Operand} (ho : o.op = .binOp .eql t x y t') (hx : ev e x = some (.int k a)) (hy : ev e y = some (.int k b)) (hc : ¬ (a = b)) : Y P e o w (.bool false) := fun ρ h => by
  unfold execOp; simp [ho, h _ _ hx, h _ _ hy, eqGuard_at_int, binOp_eql]; omega
theorem y_neq_t {t t' : Nat} {k : IntKind} {a b : Int} {x y : Operand} (ho : o.op = .binOp .neq t x y t') (hx : ev e x = some (.int k a)) (hy : ev e y = some (.int k b)) (hc : a ≠ b) : Y P e o w (.bool true) := fun ρ h => by
  unfold execOp; simp [ho, h _ _ hx, h _ _ hy, eqGuard_at_int, binOp_neq]; omega
theorem y_neq_f {t t' : Nat} {k : IntKind} {a b : Int} {x y : Operand} (ho : o.op = .binOp .neq t x y t') (hx : ev e x = some (.int k a)) (hy : ev e y = some (.int k b)) (hc : ¬ (a ≠ b)) : Y P e o w (.bool false) := fun ρ h => by
  unfold execOp; simp [ho, h _ _ hx, h _ _ hy, eqGuard_at_int, binOp_neq]; omega
theorem y_add {t t' : Nat} {a b : Int} {x y : Operand} (ho : o.op = .binOp .add t x y t') (hx : ev e x = some (.int .i64 a)) (hy : ev e y = some (.int .i64 b)) (hc : -9223372036854775808 ≤ a + b ∧ a + b ≤ 9223372036854775807) : Y P e o w (.int .i64 (a + b)) := fun ρ h => by
  unfold execOp; simp [ho, h _ _ hx, h _ _ hy, eqGuard_at_int, binOp_add, Op.intArith, IntWalk.i64_in _ hc]
theorem y_sub {t t' : Nat} {a b : Int} {x y : Operand} (ho : o.op = .binOp .sub t x y t') (hx : ev e x = some (.int .i64 a)) (hy : ev e y = some (.int .i64 b)) (hc : -9223372036854775808 ≤ a - b ∧ a - b ≤ 9223372036854775807) : Y P e o w (.int .i64 (a - b)) := fun ρ h => by
  unfold execOp; simp [ho, h _ _ hx, h _ _ hy, eqGuard_at_int, binOp_sub, Op.intArith, IntWalk.i64_in _ hc]
theorem y_mul {t t' : Nat} {a b : Int} {x y : Operand} (ho : o.op = .binOp .mul t x y t') (hx : ev e x = some (.int .i64 a)) (hy : ev e y = some (.int .i64 b)) (hc : -9223372036854775808 ≤ a * b ∧ a * b ≤ 9223372036854775807) : Y P e o w (.int .i64 (a * b)) := fun ρ h => by
  unfold execOp; simp [ho, h _ _ hx, h _ _ hy, eqGuard_at_int, binOp_mul, Op.intArith, IntWalk.i64_in _ hc]
theorem y_quo {t t' : Nat} {a b : Int} {x y : Operand} (ho : o.op = .binOp .quo t x y t') (hx : ev e x = some (.int .i64 a)) (hy : ev e y = some (.int .i64 b)) (ha : 0 ≤ a ∧ a ≤ 9223372036854775807) (hb : 0 < b) : Y P e o w (.int .i64 (a / b)) := fun ρ h => by
  have h1 : a.tdiv b = a / b := Int.tdiv_eq_ediv_of_nonneg ha.1
  have h2 : a / b ≤ a := Int.ediv_le_self _ ha.1
  have h3 : 0 ≤ a / b := Int.ediv_nonneg ha.1 (by omega)
  have h4 : ¬ b = 0 := by omega
  unfold execOp; simp [ho, h _ _ hx, h _ _ hy, eqGuard_at_int, binOp_quo, Op.intDiv, h4, h1, IntWalk.i64_in (a / b) ⟨by omega, by omega⟩]
theorem y_rem {t t' : Nat} {k : IntKind} {a b : Int} {x y : Operand} (ho : o.op = .binOp .rem t x y t') (hx : ev e x = some (.int k a)) (hy : ev e y = some (.int k b)) (ha : 0 ≤ a) (hb : 0 < b) : Y P e o w (.int k (a % b)) := fun ρ h => by
  have h1 : a.tmod b = a % b := Int.tmod_eq_emod_of_nonneg ha
  have h4 : ¬ b = 0 := by omega
  unfold execOp; simp [ho, h _ _ hx, h _ _ hy, eqGuard_at_int, binOp_rem, Op.intDiv, h4, h1]
theorem y_not {t : Nat} {b : Bool} {x : Operand} (ho : o.op = .unOp .not t x) (hx : ev e x = some (.bool b)) : Y P e o w (.bool (!b)) := fun ρ h => by
  unfold execOp; simp [ho, h _ _ hx, Op.unary]
theorem y_func {f : Fn} {xs ys : List Operand} {us vs : List Value} (ho : o.op = .makeFunc f xs.toArray ys.toArray) (hx : evs e xs = some us) (hy : evs e ys = some vs) : Y P e o w (.func f us.toArray vs.toArray) := fun ρ h => by
  unfold execOp; simp [ho, Instr.makeFunc, h.all hx, h.all hy]
theorem y_extract {x : Operand} {ix : Nat} {vs : Array Value} {v : Value} (ho : o.op = .extract x ix) (hx : ev e x = some (.tuple vs)) (hv : vs[ix]? = some v) : Y P e o w v := fun ρ h => by
  unfold execOp; simp [ho, h _ _ hx, Instr.extract, hv]
theorem y_index {t g off len cap sz el : Nat} {m : Int} {k : IntKind} {x i : Operand} (ho : o.op = .indexAddr t x i) (hx : ev e x = some (.slice (some ⟨g, off, none⟩) len cap)) (hi : ev e i = some (.int k m)) (ht : sliceElem P t = some (el, sz)) (h0 : 0 ≤ m ∧ m < len) :
    Y P e o w (.pointer (some ⟨g, off + m.toNat * sz, none⟩)) := fun ρ h => by
  unfold sliceElem at ht
  split at ht
  · rename_i el' hu
    split at ht
    · rename_i i' hi'
      simp only [Option.some.injEq, Prod.mk.injEq] at ht
      obtain ⟨rfl, rfl⟩ := ht
      unfold execOp
      simp [ho, h _ _ hx, h _ _ hi, Instr.indexAt, asIntOf, run_underlying hu, h0.1, h0.2, sizeOf, typeInfo, hi', Addr.add_mid]
    · cases ht
  · cases ht
theorem y_indexN {t g off len cap sz el j : Nat} {k : IntKind} {x i : Operand} (ho : o.op = .indexAddr t x i) (hx : ev e x = some (.slice (some ⟨g, off, none⟩) len cap)) (hi : ev e i = some (.int k (j : Int))) (ht : sliceElem P t = some (el, sz)) (h0 : j < len) :
    Y P e o w (.pointer (some ⟨g, off + j * sz, none⟩)) := y_index ho hx hi ht ⟨by omega, by omega⟩
theorem y_indexA {t g off len sz el : Nat} {m : Int} {k : IntKind} {x i : Operand} (ho : o.op = .indexAddr t x i) (hx : ev e x = some (.pointer (some ⟨g, off, none⟩))) (hi : ev e i = some (.int k m)) (ht : arrElem P t = some (len, el, sz)) (h0 : 0 ≤ m ∧ m < len) :
    Y P e o w (.pointer (some ⟨g, off + m.toNat * sz, none⟩)) := fun ρ h => by
  unfold arrElem at ht
  split at ht
  · rename_i el' n' hu
    split at ht
    · rename_i i' hi'
      simp only [Option.some.injEq, Prod.mk.injEq] at ht
      obtain ⟨rfl, rfl, rfl⟩ := ht
      unfold execOp
      simp [ho, h _ _ hx, h _ _ hi, Instr.indexAt, asIntOf, run_underlying hu, Instr.sureAddr, h0.1, h0.2, sizeOf, typeInfo, hi', Addr.add_mid]
    · cases ht
  · cases ht
theorem y_len {t n c el sz : Nat} {x : Operand} {A : Option Addr} (ho : o.op = .call { callee := .builtin .len, args := #[x], argTypes := #[t] }) (hx : ev e x = some (.slice A n c)) (ht : sliceElem P t = some (el, sz)) : Y P e o w (.int .i64 (n : Int)) := fun ρ h => by
  unfold sliceElem at ht
  split at ht
  · rename_i el' hu
    unfold execOp
    simp [ho, h _ _ hx, resolve, invoke, builtin, Builtin.len_, run_underlying hu, goInt]
  · cases ht
theorem y_arrayAt {t g off len cap sz el n : Nat} {x : Operand} (ho : o.op = .sliceToArrayPointer t x) (hx : ev e x = some (.slice (some ⟨g, off, none⟩) len cap)) (ht : arrElem P t = some (n, el, sz)) (h0 : n ≤ len) : Y P e o w (.pointer (some ⟨g, off, none⟩)) := fun ρ h => by
  unfold arrElem at ht
  split at ht
  · rename_i el' n' hu
    split at ht
    · simp only [Option.some.injEq, Prod.mk.injEq] at ht
      obtain ⟨rfl, rfl, rfl⟩ := ht
      unfold execOp
      simp [ho, h _ _ hx, Instr.arrayAt, run_underlying hu, Nat.not_lt.2 h0]
    · cases ht
  · cases ht
/-- x[:hi] of an array behind a pointer. -/
theorem y_sliceArr {t g off sz el n : Nat} {m : Int} {k : IntKind} {x i : Operand} (ho : o.op = .slice t x none (some i) none) (hx : ev e x = some (.pointer (some ⟨g, off, none⟩))) (hi : ev e i = some (.int k m)) (ht : arrElem P t = some (n, el, sz)) (h0 : 0 ≤ m ∧ m ≤ n) :
    Y P e o w (.slice (some ⟨g, off, none⟩) m.toNat n) := fun ρ h => by
  unfold arrElem at ht
  split at ht
  · rename_i el' n' hu
    split at ht
    · rename_i i' hi'
      simp only [Option.some.injEq, Prod.mk.injEq] at ht
      obtain ⟨rfl, rfl, rfl⟩ := ht
      unfold execOp
      simp [ho, h _ _ hx, h _ _ hi, Instr.sliceAt, run_underlying hu, Instr.sureAddr, Instr.sliceBounds, Instr.sliceBound, asIntOf, h0.1, h0.2, sizeOf, typeInfo, hi', Addr.add_zero']
    · cases ht
  · cases ht
/-- x[:] of an array behind a pointer. -/
theorem y_sliceAll {t g off sz el n : Nat} {x : Operand} (ho : o.op = .slice t x none none none) (hx : ev e x = some (.pointer (some ⟨g, off, none⟩))) (ht : arrElem P t = some (n, el, sz)) :
    Y P e o w (.slice (some ⟨g, off, none⟩) n n) := fun ρ h => by
  unfold arrElem at ht
  split at ht
  · rename_i el' n' hu
    split at ht
    · rename_i i' hi'
      simp only [Option.some.injEq, Prod.mk.injEq] at ht
      obtain ⟨rfl, rfl, rfl⟩ := ht
      unfold execOp
      simp [ho, h _ _ hx, Instr.sliceAt, run_underlying hu, Instr.sureAddr, Instr.sliceBounds, sizeOf, typeInfo, hi', Addr.add_zero']
    · cases ht
  · cases ht
/-- x[:hi] of a slice. -/
theorem y_sliceTo {t len cap sz el : Nat} {A : Option Addr} {m : Int} {k : IntKind} {x i : Operand} (ho : o.op = .slice t x none (some i) none) (hx : ev e x = some (.slice A len cap)) (hi : ev e i = some (.int k m)) (ht : sliceElem P t = some (el, sz)) (h0 : 0 ≤ m ∧ m ≤ cap) :
    Y P e o w (.slice A m.toNat cap) := fun ρ h => by
  unfold sliceElem at ht
  split at ht
  · rename_i el' hu
    split at ht
    · rename_i i' hi'
      simp only [Option.some.injEq, Prod.mk.injEq] at ht
      obtain ⟨rfl, rfl⟩ := ht
      have ha : (A.map fun x : Addr => x.add 0) = A := by cases A <;> simp [Addr.add_zero']
      unfold execOp
      simp [ho, h _ _ hx, h _ _ hi, Instr.sliceAt, Instr.slice, run_underlying hu, Instr.sliceBounds, Instr.sliceBound, asIntOf, h0.1, h0.2, sizeOf, typeInfo, hi', ha]
    · cases ht
  · cases ht
/-- A row or a struct is loaded out of a block. -/
theorem y_loadB {t g off n tb : Nat} {x : Operand} {d : TypeDesc} {cs : List Value} (ho : o.op = .load t x) (hx : ev e x = some (.pointer (some ⟨g, off, none⟩))) (hb : Blk w g tb cs) (hu : P.underlying t = some d) (hd : d.isRow = true) (hi : (P.info? t).map (·.size) = some n) (hl : off + n ≤ cs.length) :
    Y P e o w (.agg ((cs.drop off).take n).toArray) := fun ρ h => by
  obtain ⟨v, w', hr, rfl, rfl⟩ := does_load (P := P) (ρ := ρ) t x ho g off n tb cs d (h _ _ hx) hb hu hd hi hl
  rcases hr with hr | ⟨_, hv⟩
  · exact hr
  · cases hv
/-- Operations that only compute. -/
def pureOp (F : Nat → Nat → Option Nat) (e : Env) : Op → Option Value
  | .move x => ev e x
  | .assign x => ev e x
  | .pick c x y => match ev e c with
    | some (.bool true) => ev e x
    | some (.bool false) => ev e y
    | _ => none
  | .nilCheck x => match ev e x with
    | some (.pointer (some p)) => some (.pointer (some p))
    | _ => none
  | .fieldAddr s x f => match ev e x, F s f with
    | some (.pointer (some ⟨g, off, none⟩)), some k => some (.pointer (some ⟨g, off + k, none⟩))
    | _, _ => none
  | .extract x i => match ev e x with
    | some (.tuple vs) => vs[i]?
    | _ => none
  | .unOp u _ x => match u, ev e x with
    | .not, some (.bool b) => some (.bool (!b))
    | _, _ => none
  | _ => none
theorem y_pure {F : Nat → Nat → Option Nat} {v : Value} (hF : ∀ s f k, F s f = some k → fieldOff P s f = some k) (h : pureOp F e o.op = some v) : Y P e o w v := by
  cases ho : o.op <;> rw [ho] at h <;> simp only [pureOp] at h
  all_goals first
    | exact y_move ho h
    | exact y_assign ho h
    | cases h
    | skip
  · split at h
    · rename_i hc; exact y_pick_t ho hc h
    · rename_i hc; exact y_pick_f ho hc h
    · cases h
  · split at h
    · rename_i hc; simp only [Option.some.injEq] at h; subst h; exact y_nil ho hc
    · cases h
  · split at h
    · rename_i hc; simp only [Option.some.injEq] at h; subst h; exact y_not ho hc
    · cases h
  · split at h
    · rename_i hc hf; simp only [Option.some.injEq] at h; subst h; exact y_field ho hc (hF _ _ _ hf)
    · cases h
  · split at h
    · rename_i hc; exact y_extract ho hc h
    · cases h
theorem yc_call {f : FuncId} {xs : List Operand} {vs : List Value} {ts : Array TypeId} (ho : o.op = .call { callee := .value (.func f), args := xs.toArray, argTypes := ts }) (hx : evs e xs = some vs) (hc : ∀ (as : Array Value) (w : World), (callFunc f as).run P w = .ok (.enter f as) w) : YC P e o w f vs.toArray := fun ρ h => by
  have := h.all hx
  unfold execOp
  simp [ho, resolve, h (.func f) _ rfl, Deferred.ofValue, invoke, hc, this]
theorem yc_value {f : FuncId} {x : Operand} {cs : List Value} {xs : List Operand} {vs : List Value} {ts : Array TypeId} (ho : o.op = .call { callee := .value x, args := xs.toArray, argTypes := ts }) (hf : ev e x = some (.func (.func f) #[] cs.toArray)) (hx : evs e xs = some vs) (hc : ∀ (as : Array Value) (w : World), (callFunc f as).run P w = .ok (.enter f as) w) : YC P e o w f (vs ++ cs).toArray := fun ρ h => by
  have := h.all hx
  unfold execOp
  simp [ho, resolve, h _ _ hf, Deferred.ofValue, invoke, hc, this]
theorem y_convInt {s d : Nat} {k k' : IntKind} {m : Int} {x : Operand} {ds : TypeDesc} (ho : o.op = .convert s d x) (hx : ev e x = some (.int k m)) (hs : P.underlying s = some ds) (hd : P.underlying d = some (.int k')) {r : Int} (hr : k'.wrap m = r) : Y P e o w (.int k' r) := fun ρ h => by
  subst hr
  unfold execOp
  simp [ho, h _ _ hx, convert, run_underlying hs, run_underlying hd, Conv.intToInt]
theorem run_equal_ptr {t el : Nat} (hu : P.underlying t = some (.pointer el)) (a : Option Addr) : (Op.equal t (.pointer a) (.pointer none)).run P w = .ok a.isNone w := by
  unfold Op.equal Op.maxDepth Op.equalIn
  cases a <;> simp [run_underlying hu]
theorem y_eqlNil {t t' el : Nat} {a : Option Addr} {x y : Operand} (ho : o.op = .binOp .eql t x y t') (hx : ev e x = some (.pointer a)) (hy : ev e y = some (.pointer none)) (hu : ptrElem P t = some el) : Y P e o w (.bool a.isNone) := fun ρ h => by
  unfold execOp; simp [ho, h _ _ hx, h _ _ hy, eqGuard_at_pointer, binOp, run_equal_ptr (ptrElem_ok hu)]
theorem run_equal_bool {t : Nat} (hu : P.underlying t = some .bool) (a b : Bool) : (Op.equal t (.bool a) (.bool b)).run P w = .ok (a == b) w := by
  unfold Op.equal Op.maxDepth Op.equalIn
  simp [run_underlying hu]
theorem y_neqBool {t t' : Nat} {a b : Bool} {x y : Operand} (ho : o.op = .binOp .neq t x y t') (hx : ev e x = some (.bool a)) (hy : ev e y = some (.bool b)) (hu : P.underlying t = some .bool) : Y P e o w (.bool (!(a == b))) := fun ρ h => by
  unfold execOp; simp [ho, h _ _ hx, h _ _ hy, eqGuard_at_bool, binOp, run_equal_bool hu]
end
end Go.Proofs.YthdlljlcffokbaaDoor
namespace Go.Proofs.YthdlljlcffokbaaDoor
open Go.RowKit

def waitAll (ops : Array Oper) (h t : Nat) : Bool := (List.range ops.size).all fun j => decide (j < t) || (List.range h).all fun i => Region.waitsFor .any ops j i

def wpAnyG (P : Program) (ops : Array Oper) (Q : Exit → Act → World → Prop) (t : Nat) (S : World → Prop) : Nat → Array Bool → Act → World → Prop
  | 0, listed, a, w => Region.ready .any ops listed = [] ∧ Q .normal a w
  | fuel + 1, listed, a, w =>
    (Region.ready .any ops listed = [] → Q .normal a w) ∧
    ∀ i ∈ Region.ready .any ops listed, wpOp P ops Q i (fun a' w' => (i < t → S w') ∧ wpAnyG P ops Q t S fuel (listed.setIfInBounds i true) a' w') a w

section
variable {P : Program} {ops : Array Oper} {Q : Exit → Act → World → Prop} {S : World → Prop} {h t : Nat}
theorem wpAny_of_G : ∀ (fuel : Nat) (listed : Array Bool) (a : Act) (w : World), wpAnyG P ops Q t S fuel listed a w → wpAny P .any ops Q fuel listed a w
  | 0, _, _, _, h => h
  | fuel + 1, _, _, _, h => ⟨h.1, fun i hi => wpOp_mono (fun a' w' h' => wpAny_of_G fuel _ a' w' h'.2) (h.2 i hi)⟩

theorem wpAnyG_first {i : Nat} {oi : Oper} {v : Value} (hi : ops[i]? = some oi) (hsel : ∀ (j : Nat) (o : Oper) cs b, ops[j]? = some o → o.op ≠ .select cs b)
    (hQ : ∀ c a w, Q (.panic c) (a.put oi.dst v) w → Q (.panic c) a w) (hwait : waitAll ops h t = true) (hih : i < h) :
    ∀ (fuel : Nat) (listed : Array Bool) (a : Act) (w : World),
      (∀ j oj, ops[j]? = some oj → j ≠ i → listed.getD j true = false → (∀ e ∈ oj.after, Region.binds .any e = true → e.on ≠ i) → oi.apart ops oj = true) →
      i ∈ Region.ready .any ops listed → YieldsIf P ops S oi v a → S w →
      wpAnyG P ops Q t S fuel (listed.setIfInBounds i true) (a.put oi.dst v) w → wpAnyG P ops Q t S (fuel + 1) listed a w := by
  intro fuel
  induction fuel with
  | zero =>
    intro listed a w _ hr hy hS H
    refine ⟨fun h => (by rw [h] at hr; cases hr), fun j hj => ?_⟩
    by_cases hji : j = i
    · subst hji; exact hy.wpOp hi hS ⟨fun _ => hS, H⟩
    · have := ready_mono hj hji
      rw [H.1] at this
      cases this
  | succ fuel ih =>
    intro listed a w hfree hr hy hS H
    refine ⟨fun h => (by rw [h] at hr; cases hr), fun j hj => ?_⟩
    by_cases hji : j = i
    · subst hji; exact hy.wpOp hi hS ⟨fun _ => hS, H⟩
    · have h1 := H.2 j (ready_mono hj hji)
      obtain ⟨hjun, oj, hoj, hall⟩ := mem_ready.1 hj
      have hnot : ∀ e ∈ oj.after, Region.binds .any e = true → e.on ≠ i := fun e he hb heq => by
        have h1 := hall e he hb
        have h0 := (mem_ready.1 hr).1
        rw [heq, getD_both h0] at h1
        cases h1
      have hjt : j < t := by
        have h2 := List.all_eq_true.1 hwait j (List.mem_range.2 (Array.getElem?_eq_some_iff.1 hoj).1)
        simp only [Bool.or_eq_true, decide_eq_true_eq] at h2
        rcases h2 with h2 | h2
        · exact h2
        · obtain ⟨o', ho', e, he, hb, hon⟩ := Region.waitsFor_spec (List.all_eq_true.1 h2 i (List.mem_range.2 hih))
          rw [hoj] at ho'
          injection ho' with ho'
          subst ho'
          exact absurd hon (hnot e he hb)
      have h2 := wpOp_putIf hoj (hfree j oj hoj hji hjun hnot) (fun cs b => hsel i oi cs b hi) (fun cs b => hsel j oj cs b hoj) hQ hy h1
      have hfree' : ∀ k ok, ops[k]? = some ok → k ≠ i → (listed.setIfInBounds j true).getD k true = false →
          (∀ e ∈ ok.after, Region.binds .any e = true → e.on ≠ i) → oi.apart ops ok = true := fun k ok hk hki hun hno => by
        refine hfree k ok hk hki ?_ hno
        by_cases hjk : j = k
        · subst hjk; exact hjun
        · rw [getD_set_ne true hjk] at hun; exact hun
      refine wpOp_mono (fun a' w' h3 => ⟨h3.2.1, ih (listed.setIfInBounds j true) a' w' hfree' (ready_mono hr (Ne.symm hji)) h3.1 (h3.2.1 hjt) ?_⟩) h2
      rw [Array.setIfInBounds_comm _ _ hji]
      exact h3.2.2
theorem wpAnyG_of_any : ∀ (fuel : Nat) (listed : Array Bool) (a : Act) (w : World), (∀ i, i < t → listed.getD i true = true) → wpAny P .any ops Q fuel listed a w → wpAnyG P ops Q t S fuel listed a w
  | 0, _, _, _, _, h => h
  | fuel + 1, listed, _, _, hd, h => by
    refine ⟨h.1, fun i hi => wpOp_mono (fun a' w' h' => ?_) (h.2 i hi)⟩
    have hno : ¬ i < t := fun hit => by
      have h0 := (mem_ready.1 hi).1
      rw [hd i hit] at h0; cases h0
    refine ⟨fun hit => absurd hit hno, wpAnyG_of_any fuel _ a' w' (fun k hk => ?_) h'⟩
    rw [getD_set_ne true (fun e : i = k => hno (by omega))]; exact hd k hk

/-- The walk of such a region. f: how many are left. -/
structure SxO (P : Program) (ops : Array Oper) (Q : Exit → Act → World → Prop) (t : Nat) (S : World → Prop) (n f : Nat) (listed : Array Bool) (e : Env) (w : World) : Prop where
  run : ∀ a, Agr n e a → wpAnyG P ops Q t S f listed a w
variable {n f : Nat} {listed : Array Bool} {e : Env} {w : World}
/-- h: the operations before this number are taken first; t: from this number on all wait for those. -/
theorem sx_any {id : Nat} {l : List Oper} (t : Nat) (S : World → Prop) (hm : P.follows .mixedOrders = true) (k : SxO P l.toArray Q t S n l.length (Array.replicate l.length false) e w.drew) : Sx P (Code.region id l.toArray true) Q n e w := ⟨fun a ha => by
  refine wp_region_any hm (wpAny_of_G (t := t) (S := S) _ _ _ _ ?_)
  simpa using k.run a ha⟩
theorem sxo_y {o : Oper} {d : Nat} {v : Value} (i h : Nat) (hs : Region.noSelect ops = true) (hQ : ∀ c (a : Act) t v w, Q (.panic c) (a.put t v) w → Q (.panic c) a w) (hwait : waitAll ops h t = true) (hih : Nat.blt i h = true)
    (hf : Region.free .any ops listed i = true) (hr : (Region.ready .any ops listed).contains i = true) (ho : ops[i]? = some o) (hw : Wn ops e o) (hd : o.dst = some d) (hn : Nat.blt d n = true) (hS : S w) (hy : ∀ w', S w' → Y P e o w' v)
    (k : SxO P ops Q t S n f (listed.setIfInBounds i true) ((d, v) :: e) w) : SxO P ops Q t S n (f + 1) listed e w := ⟨fun a ha =>
  wpAnyG_first ho (Region.noSelect_spec hs) (fun c a w => hQ c a _ _ w) hwait (blt_lt hih) f listed a w (Region.free_spec ho hf) (by simpa using hr) (.inl ⟨hw n a ha, fun w' hw' => hy w' hw' _ ha.eval⟩) hS (by
    rw [hd]; exact k.run _ (ha.put (blt_lt hn) v))⟩
theorem sxo_does {o : Oper} {R : Value → World → Prop} (i : Nat) (d : Option Tmp) (hr : Region.ready .any ops listed = [i]) (ho : ops[i]? = some o) (hw : Wn ops e o) (hd : o.dst = d) (hn : dstOk n d = true) (hy : ∀ ρ, Ag e ρ → Does P ρ o w R)
    (k : ∀ v w', R v w' → (i < t → S w') ∧ SxO P ops Q t S n f (listed.setIfInBounds i true) (e.ins d v) w') : SxO P ops Q t S n (f + 1) listed e w := ⟨fun a ha => by
  refine ⟨fun h0 => (by rw [hr] at h0; cases h0), fun j hj => ?_⟩
  rw [hr] at hj
  obtain rfl : j = i := by simpa using hj
  unfold wpOp
  simp only [ho, hw n a ha, if_true]
  refine .inl ((hy _ ha.eval).wp fun v w' hR => ?_)
  rw [hd]
  obtain ⟨h1, h2⟩ := k v w' hR
  exact ⟨h1, h2.run _ (ha.ins hn v)⟩⟩
theorem sxo_call {o : Oper} {fn : FuncId} {args : Array Value} {R : Ending → World → Prop} (i : Nat) (d : Option Tmp) (hr : Region.ready .any ops listed = [i]) (ho : ops[i]? = some o) (hw : Wn ops e o) (hd : o.dst = d) (hn : dstOk n d = true) (hy : YC P e o w fn args) (hc : Calls P fn args w R)
    (k : ∀ x w', R x w' → ∃ v, x = .returned v ∧ (i < t → S w') ∧ SxO P ops Q t S n f (listed.setIfInBounds i true) (e.ins d v) w') : SxO P ops Q t S n (f + 1) listed e w := ⟨fun a ha => by
  refine ⟨fun h0 => (by rw [hr] at h0; cases h0), fun j hj => ?_⟩
  rw [hr] at hj
  obtain rfl : j = i := by simpa using hj
  unfold wpOp
  simp only [ho, hw n a ha, if_true]
  refine .inl ?_
  unfold Oper.wp
  rw [hy _ ha.eval, Oper.upon_enter]
  refine hc.mono fun x w' hR => ?_
  obtain ⟨v, rfl, h1, h2⟩ := k x w' hR
  simp only [hd]
  exact ⟨h1, h2.run _ (ha.ins hn v)⟩⟩
/-- One of several calls, whichever comes up. -/
theorem sxo_all {rs : List Nat} (hr : Region.ready .any ops listed = rs) (hne : rs ≠ [])
    (k : ∀ i ∈ rs, ∀ a, Agr n e a → wpOp P ops Q i (fun a' w' => (i < t → S w') ∧ wpAnyG P ops Q t S f (listed.setIfInBounds i true) a' w') a w) : SxO P ops Q t S n (f + 1) listed e w := ⟨fun a ha =>
  ⟨fun h0 => absurd (hr ▸ h0) hne, fun i hi => k i (hr ▸ hi) a ha⟩⟩
theorem sxo_listed {listed' : Array Bool} (hl : listed = listed') (k : SxO P ops Q t S n f listed' e w) : SxO P ops Q t S n f listed e w := hl ▸ k
/-- All are done. -/
theorem sxo_done (hr : Region.ready .any ops listed = []) (k : QX Q .normal n e w) : SxO P ops Q t S n f listed e w := ⟨fun a ha => by
  cases f with
  | zero => exact ⟨hr, k.run a ha⟩
  | succ f => exact ⟨fun _ => k.run a ha, by rw [hr]; simp⟩⟩
def allListed (listed : Array Bool) (t : Nat) : Bool := (List.range t).all fun i => listed.getD i true
/-- The rest comes up in the text's order, and needs S no more. -/
theorem sxo_seq {l : List Oper} (j : Nat) (hl : allListed listed t = true) (hf : l.length = f) (hj : ops.toList.drop j = l) (hB : Region.seqB .any ops l.length j listed = true) (k : SxL P ops Q n l e w) : SxO P ops Q t S n f listed e w := ⟨fun a ha => by
  subst hf
  refine wpAnyG_of_any _ _ _ _ (fun i hi => List.all_eq_true.1 hl i (List.mem_range.2 hi)) (wpAny_of_seq (md := .any) l j listed a w (fun k => ?_) hB (k.run a ha))
  rw [← hj, List.getElem?_drop]; simp⟩
theorem sxo_weak {r : Env} (hl : r.le e) (k : SxO P ops Q t S n f listed r w) : SxO P ops Q t S n f listed e w := ⟨fun a ha => k.run a (ha.weak hl)⟩
end
end Go.Proofs.YthdlljlcffokbaaDoor
namespace Go.Proofs.YthdlljlcffokbaaDoor
open Go.RowKit

def evp (e : Env) : List (Nat × Operand) → Option (List (Nat × Value))
  | [] => some []
  | (i, x) :: xs => match ev e x, evp e xs with
    | some v, some vs => some ((i, v) :: vs)
    | _, _ => none
theorem Ag.parts {e : Env} {ρ : Operand → Value} (h : Ag e ρ) : ∀ {xs : List (Nat × Operand)} {vs : List (Nat × Value)}, evp e xs = some vs → xs.map (fun (i, x) => (i, ρ x)) = vs
  | [], vs, hx => by simp [evp] at hx; simp [hx]
  | (i, x) :: xs, vs, hx => by
    unfold evp at hx
    cases h1 : ev e x with
    | none => simp [h1] at hx
    | some v =>
      cases h2 : evp e xs with
      | none => simp [h1, h2] at hx
      | some us =>
        simp only [h1, h2, Option.some.injEq] at hx
        subst hx
        rw [List.map_cons, h.parts h2]
        show (i, ρ x) :: us = _
        rw [h x v h1]
theorem put_get (cs xs : List Value) (off i : Nat) (h : off ≤ cs.length) : (put cs off xs)[i]? = if i < off then cs[i]? else if i < off + xs.length then xs[i - off]? else cs[i]? := by
  unfold put
  have hl : (cs.take off).length = off := by simp; omega
  by_cases h1 : i < off
  · rw [if_pos h1, List.getElem?_append_left (by omega), List.getElem?_take_of_lt h1]
  · rw [if_neg h1, List.getElem?_append_right (by omega), hl]
    by_cases h2 : i < off + xs.length
    · rw [if_pos h2, List.getElem?_append_left (by omega)]
    · rw [if_neg h2, List.getElem?_append_right (by omega), List.getElem?_drop]
      congr 1; omega
theorem put_cons (cs vs : List Value) (k : Nat) (v : Value) (h : k + 1 + vs.length ≤ cs.length) : put (cs.set k v) (k + 1) vs = put cs k (v :: vs) := by
  apply List.ext_getElem?
  intro i
  rw [put_get _ _ _ _ (by rw [List.length_set]; omega), put_get _ _ _ _ (by omega), List.length_cons]
  by_cases h1 : i < k
  · rw [if_pos (by omega), if_pos h1, List.getElem?_set_ne (by omega)]
  · by_cases h2 : i = k
    · subst h2
      rw [if_pos (by omega), if_neg h1, if_pos (by omega), List.getElem?_set_self (by omega), Nat.sub_self]; rfl
    · rw [if_neg (by omega), if_neg h1]
      by_cases h3 : i < k + 1 + vs.length
      · rw [if_pos h3, if_pos (by omega), show i - k = (i - (k + 1)) + 1 by omega, List.getElem?_cons_succ]
      · rw [if_neg h3, if_neg (by omega), List.getElem?_set_ne (by omega)]
theorem foldl_set (off : Nat) : ∀ (vs : List Value) (j : Nat) (cells : List Value), off + j + vs.length ≤ cells.length →
    (vs.zipIdx j).foldl (fun (cs : Array Value) (p : Value × Nat) => cs.setIfInBounds (off + p.2) p.1) cells.toArray = (put cells (off + j) vs).toArray
  | [], j, cells, _ => by simp [put_nil]
  | v :: vs, j, cells, h => by
    simp only [List.length_cons] at h
    rw [List.zipIdx_cons, List.foldl_cons, List.setIfInBounds_toArray, foldl_set off vs (j + 1) _ (by rw [List.length_set]; omega)]
    rw [show off + (j + 1) = off + j + 1 by omega, put_cons _ _ _ _ (by omega)]
theorem fill_cons (place : Nat → Option (Nat × Nat)) (cells : List Value) (i off : Nat) (v : Value) (vs : List Value) (rest : List (Nat × Value)) (hv : v.cells = vs.toArray) (hp : place i = some (off, vs.length)) (hl : off + vs.length ≤ cells.length) :
    Instr.fill place cells.toArray ((i, v) :: rest) = Instr.fill place (put cells off vs).toArray rest := by
  have hf := foldl_set off vs 0 cells (by omega)
  conv => lhs; unfold Instr.fill
  rw [hp]
  simp only [hv, List.size_toArray, ne_eq, not_true_eq_false, decide_false, Bool.false_or, decide_eq_true_eq]
  rw [if_neg (by omega)]
  rw [← Array.foldl_toList, Array.toList_zipIdx]
  simp only [Nat.add_zero] at hf
  rw [hf]
/-- Parts one behind the other. -/
theorem fill_dense (size : Nat) : ∀ (vs : List Value) (j : Nat) (pre rest : List Value), pre.length = j * size → rest.length = vs.length * size → (∀ v ∈ vs, v.cells.size = size) →
    Instr.fill (fun i => some (i * size, size)) (pre ++ rest).toArray ((vs.zipIdx j).map fun x => (x.2, x.1)) = some (pre ++ (vs.map fun v => v.cells.toList).flatten).toArray
  | [], j, pre, rest, _, hr, _ => by
    have : rest = [] := List.eq_nil_of_length_eq_zero (by simpa using hr)
    subst this
    simp [Instr.fill]
  | v :: vs, j, pre, rest, hp, hr, hv => by
    have hvs : v.cells.toList.length = size := by simpa using hv v (by simp)
    simp only [List.length_cons, Nat.add_mul, Nat.one_mul] at hr
    rw [List.zipIdx_cons, List.map_cons]
    rw [fill_cons _ _ j (j * size) v v.cells.toList _ (by simp) (by rw [hvs]) (by rw [List.length_append, hvs]; omega)]
    have e : put (pre ++ rest) (j * size) v.cells.toList = (pre ++ v.cells.toList) ++ rest.drop size := by
      unfold put
      rw [← hp, List.take_left, hvs, List.drop_append, List.drop_of_length_le (by omega), List.nil_append, List.append_assoc]
      congr 3; omega
    rw [e, fill_dense size vs (j + 1) _ _ (by rw [List.length_append, hvs, hp, Nat.add_mul]; omega) (by rw [List.length_drop]; omega) (fun u hu => hv u (by simp [hu]))]
    simp

section
variable {P : Program} {e : Env} {w : World} {o : Oper}
theorem y_build {t : Nat} {parts : List (Nat × Operand)} {ps : List (Nat × Value)} {cells : Array Value} (ho : o.op = .build t parts.toArray) (hp : evp e parts = some ps) (hb : P.built t ps = some cells) : Y P e o w (.agg cells) := fun ρ h => by
  have := h.parts hp
  unfold execOp
  simp only [ho, Sem.run_bind]
  have hm : (parts.toArray.map fun (i, x) => (i, ρ x)) = ps.toArray := by simp [this]
  rw [hm, run_build w t ps.toArray cells (by simpa using hb)]
  rfl
/-- An array is loaded out of a slice's memory. -/
theorem y_loadRd {t b off n : Nat} {x : Operand} {d : TypeDesc} {xs : List Value} (ho : o.op = .load t x) (hx : ev e x = some (.pointer (some ⟨b, off, none⟩))) (hr : Rd w (some ⟨b, off, none⟩) n xs) (hu : P.underlying t = some d) (hd : d.isRow = true) (hi : (P.info? t).map (·.size) = some n) : Y P e o w (.agg xs.toArray) := fun _ h =>
  exec_loadRd t x ho b off n xs d (h _ _ hx) hr hu hd hi
/-- []T{a, b, ..}: a new row. -/
theorem does_slice {ρ : Operand → Value} {t el size len : Nat} {parts : List (Nat × Operand)} {ps : List (Nat × Value)} (vs : List Value) (z : Value) (hρ : Ag e ρ) (ho : o.op = .buildSlice t len parts.toArray) (hp : evp e parts = some ps) (hps : ps = (vs.zipIdx 0).map fun x => (x.2, x.1)) (hlen : vs.length = len)
    (hu : P.underlying t = some (.slice el)) (hi : (P.info? el).map (fun i => (i.zero, i.size)) = some (some z, size)) (hpos : 0 < len * size) (hsm : len * size ≤ 16777216) (hv : ∀ v ∈ vs, v.cells.size = size) :
    Does P ρ o w fun v w' => ∃ g, v = .slice (some ⟨g, 0, none⟩) len len ∧ w.heap.size ≤ g ∧ g < w'.heap.size ∧ Blk w' g el ((vs.map fun v => v.cells.toList).flatten) ∧ Fr0 w w' := by
  cases hq : P.info? el with
  | none => simp [hq] at hi
  | some i =>
    obtain ⟨hz, hsize⟩ : i.zero = some z ∧ i.size = size := by simpa [hq] using hi
    subst hsize
    have hm : (parts.toArray.map fun (i, x) => (i, ρ x)) = ps.toArray := by simp [hρ.parts hp]
    have hfill := fill_dense i.size vs 0 [] ((Array.range (len * i.size)).map (z.cells[· % z.cells.size]!)).toList (by simp) (by simp [hlen]) hv
    simp only [List.nil_append] at hfill
    rw [Array.toArray_toList] at hfill
    refine ⟨_, w.alloc (.cells ((vs.map fun v => v.cells.toList).flatten).toArray el), .inl ?_, w.heap.size, rfl, Nat.le_refl _, by simp, Blk.new w el _, Fr.refl.alloc _⟩
    have hr := run_buildSlice (P := P) w t el len ps.toArray _ i z hu hq hz (by simp; omega) (by omega) (by rw [hps]; exact hfill)
    unfold execOp
    simp only [ho, Sem.run_bind, hm, hr, Result.andThen_ok]
    rfl
end
end Go.Proofs.YthdlljlcffokbaaDoor
namespace Go.Proofs.YthdlljlcffokbaaDoor
open Go.RowKit
section
variable {P : Program} {Q : Exit → Act → World → Prop} {n : Nat} {e : Env} {w : World}
theorem sxl_pure {ops : Array Oper} {o : Oper} {rest : List Oper} {f : FuncId} {args : Array Value} {d : Nat} {v : Value} (hw : Wn ops e o) (hd : o.dst = some d) (hn : dstOk n (some d) = true) (hy : YC P e o w f args) (hc : Calls P f args w fun x w' => x = .returned v ∧ w = w')
    (k : SxL P ops Q n rest (e.ins (some d) v) w) : SxL P ops Q n (o :: rest) e w :=
  sxl_call (some d) hw hd hn hy hc (by rintro _ _ ⟨rfl, rfl⟩; exact ⟨_, rfl, k⟩)
end
theorem Rd.ofBlk {w : World} {g : Nat} {t : TypeId} {xs : List Value} (h : Blk w g t xs) {n : Nat} (hn : xs.length = n) : Rd w (some ⟨g, 0, none⟩) n xs :=
  ⟨hn, fun _ => ⟨g, 0, rfl, fun j u hu => by rw [Nat.zero_add]; exact (h.cell j).trans hu⟩⟩
end Go.Proofs.YthdlljlcffokbaaDoor
namespace Go.Proofs.YthdlljlcffokbaaDoor
open Go.RowKit
section
variable {P : Program} {Q : Exit → Act → World → Prop} {n : Nat} {e : Env} {w : World}
theorem qx_weak {x : Exit} {r : Env} (hl : r.le e) (h : QX Q x n r w) : QX Q x n e w := ⟨fun a ha => h.run a (ha.weak hl)⟩
/-- Several ways come to one exit: what follows it is walked once. -/
theorem sx_fork {c : Code} {K : Act → World → Prop} (id : Nat) (r : Env) (h : QX Q (.exit id) n r w) (k : (∀ e, r.le e → QX Q (.exit id) n e w) → Sx P c (Exit.then K Q) n e w) : Sx P c (Exit.then K Q) n e w := k fun _ hl => qx_weak hl h
/-- .. with whatever worlds. -/
theorem sx_via {ι : Type} {c : Code} (id : Nat) (F : ι → World → Prop) (E : ι → Env) (h : ∀ x w', F x w' → QX Q (.exit id) n (E x) w') (k : (∀ x w' e, F x w' → (E x).le e → QX Q (.exit id) n e w') → Sx P c Q n e w) : Sx P c Q n e w := k fun x w' _ hF hl => qx_weak hl (h x w' hF)
/-- .. what follows a part. -/
theorem sx_then_via {ι : Type} {c y : Code} {Q' : Exit → Act → World → Prop} (F : ι → World → Prop) (E : ι → Env) (h : ∀ x w', F x w' → Sx P y Q n (E x) w') (k : (∀ x w' e, F x w' → (E x).le e → QX (Exit.then (y.wp P Q) Q') .normal n e w') → Sx P c (Exit.then (y.wp P Q) Q') n e w) : Sx P c (Exit.then (y.wp P Q) Q') n e w :=
  k fun x w' _ hF hl => qx_seq (sx_weak hl (h x w' hF))
/-- In a region that draws its order. -/
theorem sxo_via {ι : Type} {ops : Array Oper} {S : World → Prop} {t f : Nat} {listed : Array Bool} (f' : Nat) (listed' : Array Bool) (F : ι → World → Prop) (E : ι → Env) (h : ∀ x w', F x w' → SxO P ops Q t S n f' listed' (E x) w')
    (k : (∀ x w' e l, F x w' → (E x).le e → l = listed' → SxO P ops Q t S n f' l e w') → SxO P ops Q t S n f listed e w) : SxO P ops Q t S n f listed e w := k fun x w' _ _ hF hl el => sxo_listed el (sxo_weak hl (h x w' hF))
end
section
variable {P : Program} {e : Env} {w : World} {o : Oper}
/-- x[lo:] of a slice. -/
theorem y_sliceFrom {t len cap sz el : Nat} {A : Option Addr} {m : Int} {k : IntKind} {x i : Operand} (ho : o.op = .slice t x (some i) none none) (hx : ev e x = some (.slice A len cap)) (hi : ev e i = some (.int k m)) (ht : sliceElem P t = some (el, sz)) (h0 : 0 ≤ m ∧ m ≤ len) :
    Y P e o w (.slice (if cap = m.toNat then A else A.map (·.add (m.toNat * sz))) (len - m.toNat) (cap - m.toNat)) := fun ρ h => by
  unfold sliceElem at ht
  split at ht
  · rename_i el' hu
    split at ht
    · rename_i i' hi'
      simp only [Option.some.injEq, Prod.mk.injEq] at ht
      obtain ⟨rfl, rfl⟩ := ht
      unfold execOp
      simp [ho, h _ _ hx, h _ _ hi, Instr.sliceAt, Instr.slice, run_underlying hu, Instr.sliceBounds, Instr.sliceBound, asIntOf, h0.1, h0.2, sizeOf, typeInfo, hi']
    · cases ht
  · cases ht
theorem Rd.takeN {A : Option Addr} {n : Nat} {xs : List Value} (h : Rd w A n xs) {k : Nat} (hk : k ≤ n) : Rd w A k (xs.take k) := by
  refine ⟨by rw [List.length_take, h.1]; omega, fun h0 => ?_⟩
  obtain ⟨b, off, e, hc⟩ := h.2 (by omega)
  exact ⟨b, off, e, fun j u hu => hc j u (by
    rw [List.getElem?_take] at hu
    split at hu
    · exact hu
    · cases hu)⟩
end
section
variable {P : Program} {ρ : Operand → Value} {w : World} {o : Oper}
/-- []T{}: a new row without cells. -/
theorem does_slice0 (t e size : Nat) (ho : o.op = .buildSlice t 0 #[]) (hu : P.underlying t = some (.slice e)) (hi : (P.info? e).map (·.size) = some size) :
    Does P ρ o w fun v w' => ∃ g, v = .slice (some ⟨g, 0, none⟩) 0 0 ∧ w.heap.size ≤ g ∧ g < w'.heap.size ∧ Blk w' g e [] ∧ Fr0 w w' ∧ ∀ base, base ≤ w.heap.size → w'.ownsRow base e size v 0 [] := by
  cases hq : P.info? e with
  | none => simp [hq] at hi
  | some i =>
    have hr : (Instr.buildSlice t 0 #[]).run P w = .ok (.slice (some ⟨w.heap.size, 0, none⟩) 0 0) (w.alloc (.cells #[] e)) := by
      simp [Instr.buildSlice, run_underlying hu, sizeOf, typeInfo, hq, newRow, Instr.fill]
      rw [show Array.range 0 = #[] from by apply Array.eq_empty_of_size_eq_zero; simp, List.map_toArray, List.map_nil]
    refine ⟨_, w.alloc (.cells #[] e), .inl ?_, w.heap.size, rfl, Nat.le_refl _, by simp, Blk.new w e [], Fr.refl.alloc _, fun base hb => ownN_base (ownN_new0 w e size) hb⟩
    unfold execOp
    simp only [ho, Sem.run_bind]
    rw [List.map_toArray, List.map_nil, hr]
    rfl
end
end Go.Proofs.YthdlljlcffokbaaDoor
namespace Go.Proofs.YthdlljlcffokbaaDoor
open Go.RowKit

def ik (k : Int) : Value := .int .i64 k
theorem ik_inj {a b : Int} (h : ik a = ik b) : a = b := by unfold ik at h; injection h
def upd (f : Int → Option Value) (k : Int) (v : Value) : Int → Option Value := fun x => if x = k then some v else f x
/-- What stands in a map. -/
structure MiOk (es : Array MapEntry) (clock : Nat) (f : Int → Option Value) : Prop where
  keys : ∀ e ∈ es.toList, ∃ k, e.key = ik k ∧ f k = some e.val
  all : ∀ k v, f k = some v → ∃ e ∈ es.toList, e.key = ik k
  nodup : (es.toList.map (·.key)).Nodup
  born : (es.toList.map (·.born)).Nodup
  old : ∀ e ∈ es.toList, e.born < clock
/-- The block is a map from numbers. -/
def Mi (w : World) (g : Nat) (f : Int → Option Value) : Prop := ∃ es clock, w.heap[g]? = some (.map es clock) ∧ MiOk es clock f
theorem Mi.lt {w : World} {g : Nat} {f : Int → Option Value} (h : Mi w g f) : g < w.heap.size := by
  obtain ⟨es, cl, h, _⟩ := h; exact (Array.getElem?_eq_some_iff.1 h).1
theorem Mi.fr {S : Nat → Prop} {w w' : World} {g : Nat} {f : Int → Option Value} (h : Mi w g f) (hf : Fr S w w') (hn : ¬ S g) : Mi w' g f := by
  obtain ⟨es, cl, h1, h2⟩ := h
  exact ⟨es, cl, (hf.block g (Array.getElem?_eq_some_iff.1 h1).1 hn).trans h1, h2⟩
theorem nodup_map_inj {α β : Type} {f : α → β} : ∀ {l : List α}, (l.map f).Nodup → ∀ {x y : α}, x ∈ l → y ∈ l → f x = f y → x = y
  | [], _, _, _, hx, _, _ => by cases hx
  | a :: l, h, x, y, hx, hy, e => by
    rw [List.map_cons, List.nodup_cons] at h
    rcases List.mem_cons.1 hx with rfl | hx'
    · rcases List.mem_cons.1 hy with rfl | hy'
      · rfl
      · exact absurd (List.mem_map.2 ⟨y, hy', e.symm⟩) h.1
    · rcases List.mem_cons.1 hy with rfl | hy'
      · exact absurd (List.mem_map.2 ⟨x, hx', e⟩) h.1
      · exact nodup_map_inj h.2 hx' hy' e
theorem MiOk.val {es : Array MapEntry} {clock : Nat} {f : Int → Option Value} (h : MiOk es clock f) {e : MapEntry} (he : e ∈ es.toList) {k : Int} (hk : e.key = ik k) : f k = some e.val := by
  obtain ⟨k', h1, h2⟩ := h.keys e he
  rw [hk] at h1
  rw [ik_inj h1]
  exact h2
theorem MiOk.empty : MiOk #[] 0 (fun _ => none) := ⟨by simp, by simp, by simp, by simp, by simp⟩
/-- A new entry. -/
theorem MiOk.push {es : Array MapEntry} {clock : Nat} {f : Int → Option Value} (h : MiOk es clock f) {k : Int} (v : Value) (hn : f k = none) : MiOk (es.push { key := ik k, val := v, born := clock }) (clock + 1) (upd f k v) where
  keys e he := by
    rw [Array.toList_push, List.mem_append, List.mem_singleton] at he
    rcases he with he | rfl
    · obtain ⟨k', h1, h2⟩ := h.keys e he
      refine ⟨k', h1, ?_⟩
      unfold upd
      rw [if_neg (by rintro rfl; rw [hn] at h2; cases h2)]
      exact h2
    · exact ⟨k, rfl, by simp [upd]⟩
  all k' v' hv := by
    unfold upd at hv
    rw [Array.toList_push]
    by_cases hk : k' = k
    · exact ⟨_, List.mem_append.2 (.inr (List.mem_singleton.2 rfl)), by rw [hk]⟩
    · rw [if_neg hk] at hv
      obtain ⟨e, he, h1⟩ := h.all k' v' hv
      exact ⟨e, List.mem_append.2 (.inl he), h1⟩
  nodup := by
    rw [Array.toList_push, List.map_append, List.nodup_append]
    refine ⟨h.nodup, by simp, ?_⟩
    intro a ha b hb
    obtain ⟨e, he, rfl⟩ := List.mem_map.1 ha
    obtain rfl : b = ik k := by simpa using hb
    intro e1
    have := h.val he e1
    rw [hn] at this
    cases this
  born := by
    rw [Array.toList_push, List.map_append, List.nodup_append]
    refine ⟨h.born, by simp, ?_⟩
    intro a ha b hb
    obtain ⟨e, he, rfl⟩ := List.mem_map.1 ha
    obtain rfl : b = clock := by simpa using hb
    have := h.old e he
    omega
  old e he := by
    rw [Array.toList_push, List.mem_append, List.mem_singleton] at he
    rcases he with he | rfl
    · have := h.old e he; omega
    · exact Nat.lt_succ_self _
/-- An entry that is there, written anew. -/
def rewr (k : Int) (v : Value) (e : MapEntry) : MapEntry := { e with key := ik k, val := v }
theorem modify_mem {es : Array MapEntry} {j : Nat} {g : MapEntry → MapEntry} {e : MapEntry} (h : e ∈ (es.modify j g).toList) : (∃ i, i ≠ j ∧ es[i]? = some e) ∨ ∃ e0, es[j]? = some e0 ∧ e = g e0 := by
  obtain ⟨i, hi⟩ := List.getElem?_of_mem h
  rw [Array.toList_modify, List.getElem?_modify] at hi
  by_cases hij : j = i
  · subst hij
    right
    simp only [if_true] at hi
    obtain ⟨e0, h1, h2⟩ := Option.map_eq_some_iff.1 hi
    exact ⟨e0, by simpa using h1, h2.symm⟩
  · left
    simp only [if_neg hij] at hi
    exact ⟨i, fun e => hij e.symm, by simpa using hi⟩
theorem modify_map {β : Type} {es : Array MapEntry} {j : Nat} {g : MapEntry → MapEntry} {q : MapEntry → β} (h : ∀ e, es[j]? = some e → q (g e) = q e) : (es.modify j g).toList.map q = es.toList.map q := by
  apply List.ext_getElem?
  intro i
  rw [Array.toList_modify, List.getElem?_map, List.getElem?_modify, List.getElem?_map]
  by_cases hij : j = i
  · subst hij
    simp only [if_true]
    cases hj : es.toList[j]? with
    | none => rfl
    | some e => simp [h e (by simpa using hj)]
  · simp [hij]
theorem MiOk.modify {es : Array MapEntry} {clock j : Nat} {f : Int → Option Value} (h : MiOk es clock f) {k : Int} (v : Value) {en : MapEntry} (hj : es[j]? = some en) (hk : en.key = ik k) : MiOk (es.modify j (rewr k v)) clock (upd f k v) where
  keys e he := by
    rcases modify_mem he with ⟨i, hij, hi⟩ | ⟨e0, h0, rfl⟩
    · have hm : e ∈ es.toList := by have := Array.mem_of_getElem? hi; simpa using this
      obtain ⟨k', h1, h2⟩ := h.keys e hm
      refine ⟨k', h1, ?_⟩
      unfold upd
      rw [if_neg ?_]
      · exact h2
      · rintro rfl
        have hl : i < es.toList.length := by have := (Array.getElem?_eq_some_iff.1 hi).1; simpa using this
        have hl' : j < es.toList.length := by have := (Array.getElem?_eq_some_iff.1 hj).1; simpa using this
        have e1 : (es.toList.map (·.key))[i]? = (es.toList.map (·.key))[j]? := by
          rw [List.getElem?_map, List.getElem?_map]
          simp [hi, hj, h1, hk]
        exact hij ((List.getElem?_inj (by simpa using hl) h.nodup).1 e1)
    · exact ⟨k, rfl, by simp [upd, rewr]⟩
  all k' v' hv := by
    have hnew : rewr k v en ∈ (es.modify j (rewr k v)).toList := by
      apply List.mem_of_getElem? (i := j)
      rw [Array.toList_modify, List.getElem?_modify]
      simp [hj]
    by_cases hk' : k' = k
    · exact ⟨_, hnew, by rw [hk']; rfl⟩
    · unfold upd at hv
      rw [if_neg hk'] at hv
      obtain ⟨e, he, h1⟩ := h.all k' v' hv
      obtain ⟨i, hi⟩ := List.getElem?_of_mem he
      refine ⟨e, ?_, h1⟩
      apply List.mem_of_getElem? (i := i)
      rw [Array.toList_modify, List.getElem?_modify]
      have hne : j ≠ i := by
        rintro rfl
        have : en = e := by have h2 : es.toList[j]? = some en := by simpa using hj
                            rw [h2] at hi; exact Option.some.inj hi
        subst this
        rw [hk] at h1
        exact hk' (ik_inj h1).symm
      simp [hne, hi]
  nodup := by rw [modify_map (fun e he => by rw [hj] at he; injection he with he; subst he; exact hk.symm)]; exact h.nodup
  born := by rw [modify_map (g := rewr k v) (q := fun e => e.born) (fun e he => rfl)]; exact h.born
  old e he := by
    rcases modify_mem he with ⟨i, _, hi⟩ | ⟨e0, h0, rfl⟩
    · exact h.old e (by have := Array.mem_of_getElem? hi; simpa using this)
    · exact h.old e0 (by have := Array.mem_of_getElem? h0; simpa using this)
theorem same_int (a b : Int) (q : IntKind) : Instr.sameNow (.int q) (ik a) (ik b) = some (a == b) := by
  unfold ik
  simp only [Instr.sameNow, if_true]
theorem find_int (q : IntKind) (k : Int) : ∀ (es : List MapEntry) (i : Nat), (∀ e ∈ es, ∃ k', e.key = ik k') →
    ((∀ e ∈ es, e.key ≠ ik k) ∧ Instr.findNow (.int q) (ik k) es i = some none) ∨ ∃ j e, es[j]? = some e ∧ e.key = ik k ∧ Instr.findNow (.int q) (ik k) es i = some (some (i + j, e.val))
  | [], i, _ => .inl ⟨fun _ h => by (cases h), rfl⟩
  | en :: es, i, h => by
    obtain ⟨k', hk'⟩ := h en (by simp)
    have hc : Instr.findNow (.int q) (ik k) (en :: es) i = match Instr.sameNow (.int q) (ik k) en.key with | some true => some (some (i, en.val)) | some false => Instr.findNow (.int q) (ik k) es (i + 1) | none => none := rfl
    rw [hk', same_int] at hc
    by_cases hk : k = k'
    · subst hk
      refine .inr ⟨0, en, rfl, hk', ?_⟩
      rw [hc]; simp
    · have hb : (k == k') = false := by simpa using hk
      rw [hb] at hc
      rcases find_int q k es (i + 1) (fun e he => h e (List.mem_cons_of_mem _ he)) with ⟨h1, h2⟩ | ⟨j, e, h1, h2, h3⟩
      · refine .inl ⟨fun e he => ?_, by rw [hc]; exact h2⟩
        rcases List.mem_cons.1 he with rfl | he
        · rw [hk']; exact fun e => hk (ik_inj e).symm
        · exact h1 e he
      · refine .inr ⟨j + 1, e, by simpa using h1, h2, ?_⟩
        rw [hc]
        show Instr.findNow (.int q) (ik k) es (i + 1) = _
        rw [h3, show i + 1 + j = i + (j + 1) by omega]
theorem MiOk.find {es : Array MapEntry} {clock : Nat} {f : Int → Option Value} (h : MiOk es clock f) (q : IntKind) (k : Int) :
    (f k = none ∧ Instr.findNow (.int q) (ik k) es.toList 0 = some none) ∨ ∃ j e, es[j]? = some e ∧ e.key = ik k ∧ f k = some e.val ∧ Instr.findNow (.int q) (ik k) es.toList 0 = some (some (j, e.val)) := by
  rcases find_int q k es.toList 0 (fun e he => by obtain ⟨k', h1, _⟩ := h.keys e he; exact ⟨k', h1⟩) with ⟨h1, h2⟩ | ⟨j, e, h1, h2, h3⟩
  · refine .inl ⟨?_, h2⟩
    cases hf : f k with
    | none => rfl
    | some v =>
      obtain ⟨e, he, hk⟩ := h.all k v hf
      exact absurd hk (h1 e he)
  · refine .inr ⟨j, e, by simpa using h1, h2, h.val (List.mem_of_getElem? h1) h2, by simpa using h3⟩
section
variable {P : Program} {e : Env} {w : World} {o : Oper}
theorem run_findI {kt : TypeId} {q : IntKind} {k : Int} {es : List MapEntry} {r : Option (Nat × Value)} (hd : P.underlying kt = some (.int q)) (hf : Instr.findNow (.int q) (ik k) es 0 = some r) (w : World) : (Instr.findKey kt (ik k) es).run P w = .ok r w := by
  unfold Instr.findKey
  simp [run_underlying hd, hf]
theorem run_checkI {kt : TypeId} {q : IntKind} (hd : P.underlying kt = some (.int q)) (k : Int) (b : Bool) (w : World) : (Instr.checkKey b 10000 kt (ik k)).run P w = .ok () w := by
  show (Instr.checkKey b (9999 + 1) kt _).run P w = _
  unfold Instr.checkKey
  simp [run_underlying hd]
theorem run_getMi {g clock : Nat} {es : Array MapEntry} (hb : w.heap[g]? = some (.map es clock)) : (Go.getObj g).run P w = .ok (.map es clock) w := by
  unfold Go.getObj
  simp only [Sem.run, hb]
theorem does_mapI {ρ : Operand → Value} {t : TypeId} (ho : o.op = .makeMap t none) : Does P ρ o w fun v w' => ∃ g, v = .map (some g) ∧ w.heap.size ≤ g ∧ g < w'.heap.size ∧ Mi w' g (fun _ => none) ∧ Fr0 w w' := by
  refine ⟨.map (some w.heap.size), w.alloc (.map #[] 0), .inl ?_, w.heap.size, rfl, Nat.le_refl _, by simp, ⟨#[], 0, by show (w.heap.push (.map #[] 0))[w.heap.size]? = _; simp, MiOk.empty⟩, Fr.refl.alloc _⟩
  unfold execOp
  simp [ho, Instr.makeMap]
theorem y_lookI {t kt el : TypeId} {q : IntKind} {x i : Operand} {ok : Bool} {g : Nat} {k : Int} {f : Int → Option Value} {z : Value} (ho : o.op = .lookup t x i ok) (hx : ev e x = some (.map (some g))) (hi : ev e i = some (.int .i64 k)) (hu : P.underlying t = some (.map kt el)) (hd : P.underlying kt = some (.int q))
    (hz : (P.info? el).map (·.zero) = some (some z)) (hM : Mi w g f) : Y P e o w (if ok then .tuple #[(f k).getD z, .bool (f k).isSome] else (f k).getD z) := fun ρ h => by
  obtain ⟨es, clock, hb, hes⟩ := hM
  obtain ⟨inf, hinf, hinz⟩ := Option.map_eq_some_iff.1 hz
  have h1 : ρ x = .map (some g) := h _ _ hx
  have h2 : ρ i = ik k := h _ _ hi
  unfold execOp
  simp only [ho, h1, h2]
  unfold Instr.lookup
  simp only [Sem.run_bind, run_underlying hu, Result.andThen_ok, Sem.run_pure, run_getMi hb, run_checkI hd]
  rcases hes.find q k with ⟨a1, a2⟩ | ⟨j, en, _, _, a1, a2⟩
  · simp only [run_findI hd a2, a1]
    cases ok <;> simp [zeroValue, typeInfo, hinf, hinz]
  · simp only [run_findI hd a2, a1]
    cases ok <;> simp
/-- What writing into a map comes to. -/
theorem mapUpdateI {t kt el : TypeId} {q : IntKind} {g clock : Nat} {es : Array MapEntry} {k : Int} {v : Value} {f : Int → Option Value} (hu : P.underlying t = some (.map kt el)) (hd : P.underlying kt = some (.int q)) (hb : w.heap[g]? = some (.map es clock)) (hes : MiOk es clock f) :
    ∃ es' clock', (Instr.mapUpdate t (.map (some g)) (ik k) v).run P w = .ok () { w with heap := w.heap.setIfInBounds g (.map es' clock') } ∧ MiOk es' clock' (upd f k v) ∧
      (f k ≠ none → clock' = clock ∧ ∃ j en, es[j]? = some en ∧ en.key = ik k ∧ es' = es.modify j (rewr k v)) := by
  have hbits : Instr.sameBits 10000 (ik k) (ik k) = true := by
    unfold ik
    simp [Instr.sameBits]
  rcases hes.find q k with ⟨a1, a2⟩ | ⟨j, en, hen, hkey, a1, a2⟩
  · refine ⟨es.push { key := ik k, val := v, born := clock }, clock + 1, ?_, hes.push v a1, fun h => absurd a1 h⟩
    unfold Instr.mapUpdate
    simp only [Sem.run_bind, run_underlying hu, Result.andThen_ok, run_getMi hb, run_checkI hd, run_findI hd a2]
    unfold setObj
    simp only [Sem.run, hb]
  · refine ⟨es.modify j (rewr k v), clock, ?_, hes.modify v hen hkey, fun _ => ⟨rfl, j, en, hen, hkey, rfl⟩⟩
    have hold : ((es[j]?).map (·.key)).getD (ik k) = ik k := by rw [hen]; exact hkey
    unfold Instr.mapUpdate
    simp only [Sem.run_bind, run_underlying hu, Result.andThen_ok, run_getMi hb, run_checkI hd, run_findI hd a2, hold, Instr.keyThatStays, hbits, if_true, Sem.run_pure]
    unfold setObj
    simp only [Sem.run, hb]
    rfl
theorem does_updI {ρ : Operand → Value} {t kt el : TypeId} {q : IntKind} {mp i x : Operand} {g : Nat} {k : Int} {v : Value} {f : Int → Option Value} (ho : o.op = .mapUpdate t mp i x) (hm : ρ mp = .map (some g)) (hi : ρ i = .int .i64 k) (hx : ρ x = v) (hu : P.underlying t = some (.map kt el)) (hd : P.underlying kt = some (.int q))
    (hM : Mi w g f) : Does P ρ o w fun u w' => u = undef ∧ Fr (fun b => b = g) w w' ∧ Mi w' g (upd f k v) := by
  obtain ⟨es, clock, hb, hes⟩ := hM
  have hlt : g < w.heap.size := (Array.getElem?_eq_some_iff.1 hb).1
  obtain ⟨es', clock', hrun, hok, _⟩ := mapUpdateI (P := P) (k := k) (v := v) hu hd hb hes
  refine ⟨undef, { w with heap := w.heap.setIfInBounds g (.map es' clock') }, .inr ⟨?_, rfl⟩, rfl, ⟨rfl, rfl, rfl, by simp, fun r _ hn => by simp [Array.getElem?_setIfInBounds_ne (Ne.symm hn)]⟩, es', clock', by simp [hlt], hok⟩
  unfold execOp
  have hi' : ρ i = ik k := hi
  simp only [ho, hm, hi', hx, Sem.run_bind, hrun, Result.andThen_ok]; rfl
/-- A map that is gone through: which keys are still to come, and how many. -/
structure MiR (w : World) (g r : Nat) (f : Int → Option Value) (todo : Int → Bool) (n : Nat) : Prop where
  ex : ∃ es clock since seen c0, w.heap[g]? = some (.map es clock) ∧ MiOk es clock f ∧ w.heap[r]? = some (.mapIter (some g) since seen c0) ∧ (∀ x ∈ es.toList, x.born < since) ∧ since ≤ c0 ∧ since ≤ clock ∧ (leftOf es seen).size = n ∧
    (∀ x ∈ es.toList, ∀ k, x.key = ik k → todo k = !seen.contains x.born)
  fin : ∀ k, todo k = true → f k ≠ none
theorem MiR.mi {g r n : Nat} {f : Int → Option Value} {todo : Int → Bool} (h : MiR w g r f todo n) : Mi w g f := by
  obtain ⟨⟨es, clock, _, _, _, hb, hok, _⟩, _⟩ := h
  exact ⟨es, clock, hb, hok⟩
theorem MiR.lt {g r n : Nat} {f : Int → Option Value} {todo : Int → Bool} (h : MiR w g r f todo n) : r < w.heap.size := by
  obtain ⟨⟨es, clock, _, _, _, hb, hok, hr, _⟩, _⟩ := h
  exact (Array.getElem?_eq_some_iff.1 hr).1
theorem MiR.ne {g r n : Nat} {f : Int → Option Value} {todo : Int → Bool} (h : MiR w g r f todo n) : r ≠ g := by
  obtain ⟨⟨es, clock, _, _, _, hb, hok, hr, _⟩, _⟩ := h
  rintro rfl
  rw [hb] at hr
  cases hr
theorem MiR.fr {S : Nat → Prop} {w w' : World} {g r n : Nat} {f : Int → Option Value} {todo : Int → Bool} (h : MiR w g r f todo n) (hf : Fr S w w') (hg : ¬ S g) (hr : ¬ S r) : MiR w' g r f todo n := by
  have h1 := h.mi.lt
  have h2 := h.lt
  obtain ⟨⟨es, clock, since, seen, c0, hb, hok, hr', rest⟩, fin⟩ := h
  exact ⟨⟨es, clock, since, seen, c0, (hf.block g h1 hg).trans hb, hok, (hf.block r h2 hr).trans hr', rest⟩, fin⟩
/-- The entry that came last. -/
def MiC (w : World) (r : Nat) (k : Int) (v : Value) : Prop := ∃ (g : Nat) (es : Array MapEntry) (clock since : Nat) (seen : Array Nat) (en : MapEntry), w.heap[g]? = some (.map es clock) ∧ (es.toList.map (·.born)).Nodup ∧ en ∈ es.toList ∧ en.key = ik k ∧ en.val = v ∧ w.heap[r]? = some (.mapIter (some g) since (seen.push en.born) clock)
theorem MiC.drew {r : Nat} {k : Int} {v : Value} (h : MiC w r k v) : MiC w.drew r k v := h
theorem y_entryI {x : Operand} {r : Nat} {k : Int} {v : Value} (ho : o.op = .entry x) (hx : ev e x = some (.pointer (some ⟨r, 0, none⟩))) (h : MiC w r k v) : Y P e o w (.tuple #[.int .i64 k, v]) := fun ρ hρ => by
  obtain ⟨g, es, clock, since, seen, en, hb, hn, hm, hk, hv, hr⟩ := h
  have h1 : ρ x = .pointer (some ⟨r, 0, none⟩) := hρ _ _ hx
  have := run_entry_at (P := P) w r g since seen es clock en hr hb hm hn
  rw [hk, hv] at this
  unfold execOp
  simp only [ho, h1, Sem.run_bind, this, Result.andThen_ok]
  rfl
theorem does_rangeI {ρ : Operand → Value} {t kt el : TypeId} {x : Operand} {g : Nat} {f : Int → Option Value} (ho : o.op = .range t x) (hx : ρ x = .map (some g)) (hu : P.underlying t = some (.map kt el)) (hM : Mi w g f) :
    Does P ρ o w fun v w' => ∃ r n, v = .pointer (some ⟨r, 0, none⟩) ∧ w.heap.size ≤ r ∧ r < w'.heap.size ∧ MiR w' g r f (fun k => (f k).isSome) n ∧ Fr0 w w' := by
  obtain ⟨es, clock, hb, hok⟩ := hM
  have hlt : g < w.heap.size := (Array.getElem?_eq_some_iff.1 hb).1
  refine ⟨.pointer (some ⟨w.heap.size, 0, none⟩), w.alloc (.mapIter (some g) clock #[] clock), .inl ?_, w.heap.size, _, rfl, Nat.le_refl _, by simp, ⟨⟨es, clock, clock, #[], clock, ?_, hok, ?_, hok.old, Nat.le_refl _, Nat.le_refl _, rfl, ?_⟩, ?_⟩, Fr.refl.alloc _⟩
  · unfold execOp
    simp only [ho, hx, Sem.run_bind, run_range_map w t kt el g es clock hu hb, Result.andThen_ok]
    rfl
  · rw [heap_alloc_old w _ hlt]; exact hb
  · exact heap_alloc_new w _
  · intro y hy k hk
    rw [hok.val hy hk]
    simp
  · intro k hk e
    rw [e] at hk
    cases hk
/-- A step: nothing is left, or one that was. -/
theorem does_nextI {ρ : Operand → Value} {x : Operand} {g r n : Nat} {f : Int → Option Value} {todo : Int → Bool} (ho : o.op = .next x false) (hx : ρ x = .pointer (some ⟨r, 0, none⟩)) (h : MiR w g r f todo n) :
    Does P ρ o w fun v w' => (v = .tuple #[.bool false] ∧ w' = w ∧ n = 0 ∧ ∀ k, todo k = false) ∨
      ∃ k u n', v = .tuple #[.bool true, .int .i64 k, u] ∧ f k = some u ∧ todo k = true ∧ n' < n ∧ MiR w' g r f (fun y => todo y && !decide (y = k)) n' ∧ MiC w' r k u ∧ Fr (fun b => b = r) w w' ∧ w'.heap.size = w.heap.size := by
  have hne := h.ne
  obtain ⟨⟨es, clock, since, seen, c0, hb, hok, hr, hold, hsc, hsk, hn, htodo⟩, hfin⟩ := h
  rcases run_next_at (P := P) w o.type r g since c0 seen es clock hr hb hold hsc with ⟨h0, hrun⟩ | ⟨en, hen, w1, hw1, hrun⟩
  · refine ⟨_, w, .inl ?_, .inl ⟨rfl, rfl, by omega, ?_⟩⟩
    · unfold execOp
      simp only [ho, hx, Sem.run_bind, hrun, Result.andThen_ok]
      rfl
    · intro k
      cases hk : todo k with
      | false => rfl
      | true =>
        obtain ⟨v, hv⟩ := Option.ne_none_iff_exists'.1 (hfin k hk)
        obtain ⟨y, hy, hyk⟩ := hok.all k v hv
        rw [htodo y hy k hyk, all_seen es seen h0 y hy] at hk
        cases hk
  · obtain ⟨hem, hes⟩ := mem_left hen
    obtain ⟨k, hkey, hfk⟩ := hok.keys en hem
    have hr1 : w1.heap[r]? = some (.mapIter (some g) since seen c0) := by rcases hw1 with rfl | rfl <;> exact hr
    have hb1 : w1.heap[g]? = some (.map es clock) := by rcases hw1 with rfl | rfl <;> exact hb
    have hrlt : r < w1.heap.size := (Array.getElem?_eq_some_iff.1 hr1).1
    have hfr1 : Fr (fun b => b = r) w w1 := by rcases hw1 with rfl | rfl <;> exact ⟨rfl, rfl, rfl, Nat.le_refl _, fun _ _ _ => rfl⟩
    refine ⟨.tuple #[.bool true, .int .i64 k, en.val], ChangeMaps.setBlock w1 r (.mapIter (some g) since (seen.push en.born) clock), .inl ?_, .inr ⟨k, en.val, _, rfl, hfk, by rw [htodo en hem k hkey, hes]; rfl, ?_, ⟨⟨es, clock, since, seen.push en.born, clock, ?_, hok, ?_, hold, hsk, hsk, rfl, ?_⟩, ?_⟩, ⟨g, es, clock, since, seen, en, ?_, hok.born, hem, hkey, rfl, ?_⟩, ?_, ?_⟩⟩
    · rw [hkey] at hrun
      unfold execOp
      simp only [ho, hx, Sem.run_bind, hrun, Result.andThen_ok]
      rfl
    · have := left_shrinks es seen en hen
      omega
    · show (w1.heap.setIfInBounds r _)[g]? = _
      rw [Array.getElem?_setIfInBounds_ne hne]
      exact hb1
    · show (w1.heap.setIfInBounds r _)[r]? = _
      simp [hrlt]
    · intro y hy k' hk'
      rw [contains_push, htodo y hy k' hk']
      by_cases e1 : k' = k
      · subst e1
        have : y = en := nodup_map_inj hok.nodup hy hem (hk'.trans hkey.symm)
        subst this
        simp
      · have : y.born ≠ en.born := fun e2 => e1 (by
          have := nodup_map_inj hok.born hy hem e2
          subst this
          exact ik_inj (hk'.symm.trans hkey))
        simp [e1, this]
    · intro k' hk' 
      have : todo k' = true := by
        cases ht : todo k' with
        | true => rfl
        | false => rw [ht] at hk'; cases hk'
      exact hfin k' this
    · show (w1.heap.setIfInBounds r _)[g]? = _
      rw [Array.getElem?_setIfInBounds_ne hne]
      exact hb1
    · show (w1.heap.setIfInBounds r _)[r]? = _
      simp [hrlt]
    · refine ⟨hfr1.os, hfr1.tape, hfr1.output, ?_, ?_⟩
      · show w.heap.size ≤ (w1.heap.setIfInBounds r _).size
        simpa using hfr1.size
      · intro i hi hni
        show (w1.heap.setIfInBounds r _)[i]? = _
        rw [Array.getElem?_setIfInBounds_ne (fun e => hni e.symm)]
        exact hfr1.block i hi hni
    · show (w1.heap.setIfInBounds r _).size = _
      rcases hw1 with rfl | rfl <;> simp
/-- A key that is there, written within the round. -/
theorem does_updR {ρ : Operand → Value} {t kt el : TypeId} {q : IntKind} {mp i x : Operand} {g r n : Nat} {k : Int} {v : Value} {f : Int → Option Value} {todo : Int → Bool} (ho : o.op = .mapUpdate t mp i x) (hm : ρ mp = .map (some g)) (hi : ρ i = .int .i64 k) (hx : ρ x = v) (hu : P.underlying t = some (.map kt el)) (hd : P.underlying kt = some (.int q))
    (h : MiR w g r f todo n) (hk : f k ≠ none) : Does P ρ o w fun u w' => u = undef ∧ Fr (fun b => b = g) w w' ∧ MiR w' g r (upd f k v) todo n := by
  have hne := h.ne
  obtain ⟨⟨es, clock, since, seen, c0, hb, hok, hr, hold, hsc, hsk, hn, htodo⟩, hfin⟩ := h
  have hlt : g < w.heap.size := (Array.getElem?_eq_some_iff.1 hb).1
  obtain ⟨es', clock', hrun, hok', hthere⟩ := mapUpdateI (P := P) (k := k) (v := v) hu hd hb hok
  obtain ⟨rfl, j, en, hj, hkey, rfl⟩ := hthere hk
  have hborn : (es.modify j (rewr k v)).toList.map (·.born) = es.toList.map (·.born) := modify_map (fun e _ => rfl)
  have hkeys : (es.modify j (rewr k v)).toList.map (fun e => (e.key, e.born)) = es.toList.map (fun e => (e.key, e.born)) := modify_map (fun e he => by
    rw [hj] at he; injection he with he; subst he
    show (ik k, en.born) = (en.key, en.born)
    rw [hkey])
  refine ⟨undef, { w with heap := w.heap.setIfInBounds g (.map (es.modify j (rewr k v)) clock') }, .inr ⟨?_, rfl⟩, rfl, ⟨rfl, rfl, rfl, by simp, fun r _ hn => by simp [Array.getElem?_setIfInBounds_ne (Ne.symm hn)]⟩, ⟨⟨_, clock', since, seen, c0, by simp [hlt], hok', ?_, ?_, hsc, hsk, ?_, ?_⟩, ?_⟩⟩
  · unfold execOp
    have hi' : ρ i = ik k := hi
    simp only [ho, hm, hi', hx, Sem.run_bind, hrun, Result.andThen_ok]; rfl
  · show (w.heap.setIfInBounds g _)[r]? = _
    rw [Array.getElem?_setIfInBounds_ne hne.symm]
    exact hr
  · intro y hy
    have : y.born ∈ es.toList.map (·.born) := by rw [← hborn]; exact List.mem_map.2 ⟨y, hy, rfl⟩
    obtain ⟨z, hz, e⟩ := List.mem_map.1 this
    rw [← e]; exact hold z hz
  · rw [← hn]
    have e1 : ∀ L : Array MapEntry, (leftOf L seen).size = ((L.toList.map (·.born)).filter fun b => !seen.contains b).length := fun L => by
      unfold leftOf
      rw [List.filter_map, List.length_map, ← Array.length_toList, Array.toList_filter]
      rfl
    rw [e1, e1, hborn]
  · intro y hy k' hk'
    have : (y.key, y.born) ∈ es.toList.map (fun e => (e.key, e.born)) := by rw [← hkeys]; exact List.mem_map.2 ⟨y, hy, rfl⟩
    obtain ⟨z, hz, e⟩ := List.mem_map.1 this
    injection e with e1 e2
    rw [← e2]
    exact htodo z hz k' (e1.trans hk')
  · intro k' hk'
    unfold upd
    by_cases e : k' = k
    · rw [if_pos e]; intro h; cases h
    · rw [if_neg e]; exact hfin k' hk'
end
end Go.Proofs.YthdlljlcffokbaaDoor
namespace Go.Proofs.YthdlljlcffokbaaDoor
open Go.RowKit

section
variable {α : Type}
def All (m : Nat) (l : List (List α)) : Prop := ∀ x ∈ l, x.length = m
theorem All.nil {m : Nat} : All m ([] : List (List α)) := fun _ h => by cases h
theorem All.cons {m : Nat} {x : List α} {l : List (List α)} (hx : x.length = m) (h : All m l) : All m (x :: l) := by
  intro y hy
  rcases List.mem_cons.1 hy with rfl | hy
  · exact hx
  · exact h y hy
theorem All.tail {m : Nat} {x : List α} {l : List (List α)} (h : All m (x :: l)) : All m l := fun y hy => h y (List.mem_cons_of_mem _ hy)
theorem All.head {m : Nat} {x : List α} {l : List (List α)} (h : All m (x :: l)) : x.length = m := h x List.mem_cons_self
theorem All.append {m : Nat} {a b : List (List α)} (ha : All m a) (hb : All m b) : All m (a ++ b) := by
  intro y hy
  rcases List.mem_append.1 hy with h | h
  · exact ha y h
  · exact hb y h
theorem All.set {m : Nat} {l : List (List α)} (h : All m l) (i : Nat) {b : List α} (hb : b.length = m) : All m (l.set i b) := by
  intro y hy
  rcases List.mem_or_eq_of_mem_set hy with h1 | h1
  · exact h y h1
  · rw [h1]; exact hb
theorem All.at {m : Nat} {l : List (List α)} (h : All m l) {i : Nat} {x : List α} (hx : l[i]? = some x) : x.length = m := h x (List.mem_of_getElem? hx)
theorem All.replicate {m n : Nat} {x : List α} (h : x.length = m) : All m (List.replicate n x) := fun _ hy => (List.eq_of_mem_replicate hy) ▸ h
theorem flat_length {m : Nat} {l : List (List α)} (h : All m l) : l.flatten.length = l.length * m := by
  induction l with
  | nil => simp
  | cons x l ih => rw [List.flatten_cons, List.length_append, ih h.tail, h.head, List.length_cons, Nat.add_mul]; omega
theorem flat_at {m : Nat} {l : List (List α)} (h : All m l) {i : Nat} {x : List α} (hx : l[i]? = some x) : (l.flatten.drop (i * m)).take m = x := by
  induction l generalizing i with
  | nil => simp at hx
  | cons y l ih =>
    cases i with
    | zero =>
      simp only [List.getElem?_cons_zero, Option.some.injEq] at hx
      subst hx
      rw [Nat.zero_mul, List.drop_zero, List.flatten_cons]
      exact List.take_left' h.head
    | succ i =>
      rw [List.flatten_cons, show (i + 1) * m = y.length + i * m from by rw [h.head, Nat.add_mul]; omega, ← List.drop_drop, List.drop_left]
      exact ih h.tail (by simpa using hx)
theorem flat_set {m : Nat} {l : List (List α)} (h : All m l) {i : Nat} (hi : i < l.length) (b : List α) :
    l.flatten.take (i * m) ++ (b ++ l.flatten.drop (i * m + m)) = (l.set i b).flatten := by
  induction l generalizing i with
  | nil => simp at hi
  | cons y l ih =>
    cases i with
    | zero =>
      rw [Nat.zero_mul, List.take_zero, Nat.zero_add, List.nil_append, List.set_cons_zero, List.flatten_cons, List.flatten_cons, ← h.head, List.drop_left]
    | succ i =>
      have ih' := ih h.tail (i := i) (by simpa using hi)
      rw [List.set_cons_succ, List.flatten_cons, List.flatten_cons, ← ih']
      have e : (i + 1) * m = y.length + i * m := by rw [h.head, Nat.add_mul]; omega
      rw [e, List.take_append, List.take_of_length_le (by omega), show y.length + i * m - y.length = i * m from by omega, Nat.add_assoc, ← List.drop_drop, List.drop_left, List.append_assoc]
end

/-- Sectors as cells. -/
def flatB (l : List (List UInt8)) : List Value := bvs l.flatten
theorem flatB_length {m : Nat} {l : List (List UInt8)} (h : All m l) : (flatB l).length = l.length * m := by
  unfold flatB; rw [bvs_length, flat_length h]
theorem flatB_at {m : Nat} {l : List (List UInt8)} (h : All m l) {i : Nat} {x : List UInt8} (hx : l[i]? = some x) : ((flatB l).drop (i * m)).take m = bvs x := by
  unfold flatB bvs
  rw [← List.map_drop, ← List.map_take, flat_at h hx]
theorem flatB_put {m : Nat} {l : List (List UInt8)} (h : All m l) {i : Nat} (hi : i < l.length) (b : List UInt8) (hb : b.length = m) : put (flatB l) (i * m) (bvs b) = flatB (l.set i b) := by
  unfold put flatB
  rw [bvs_length, hb, ← flat_set h hi b]
  unfold bvs
  simp only [List.map_append, List.map_take, List.map_drop]
end Go.Proofs.YthdlljlcffokbaaDoor
namespace Go.Proofs.YthdlljlcffokbaaDoor
open Go.RowKit

def wpSeq (P : Program) (ops : Array Oper) (Q : Exit → Act → World → Prop) (S : World → Prop) : List Nat → Array Bool → Act → World → Prop
  | [], listed, a, w => Region.ready .any ops listed = [] ∧ Q .normal a w
  | i :: rest, listed, a, w =>
    (Region.ready .any ops listed = [i] ∧ wpOp P ops Q i (fun a' w' => S w' ∧ wpSeq P ops Q S rest (listed.setIfInBounds i true) a' w') a w) ∨
    (Region.free .any ops listed i = true ∧ (Region.ready .any ops listed).contains i = true ∧ ∃ o v, ops[i]? = some o ∧ YieldsIf P ops S o v a ∧ S w ∧ wpSeq P ops Q S rest (listed.setIfInBounds i true) (a.put o.dst v) w)

section
variable {P : Program} {ops : Array Oper} {Q : Exit → Act → World → Prop} {S : World → Prop}
/-- An operation that yields one value in every world that S lets in. 'd': where it goes. -/
theorem seq_take {i : Nat} {rest : List Nat} {listed : Array Bool} {a : Act} {w : World} {o : Oper} (d : Option Tmp) (v : Value) (hf : Region.free .any ops listed i = true) (hr : (Region.ready .any ops listed).contains i = true) (ho : ops[i]? = some o)
    (hd : o.dst = d) (hw : Region.wanted o (yielded ops a.tmps) = true) (hy : ∀ w, S w → (execOp a.eval o).run P w = .ok (.value v) w) (hS : S w)
    (h : wpSeq P ops Q S rest (listed.setIfInBounds i true) (a.put d v) w) : wpSeq P ops Q S (i :: rest) listed a w :=
  .inr ⟨hf, hr, o, v, ho, .inl ⟨hw, hy⟩, hS, by rw [hd]; exact h⟩
/-- An operation that is not wanted. -/
theorem seq_off {i : Nat} {rest : List Nat} {listed : Array Bool} {a : Act} {w : World} {o : Oper} (d : Option Tmp) (hf : Region.free .any ops listed i = true) (hr : (Region.ready .any ops listed).contains i = true) (ho : ops[i]? = some o)
    (hd : o.dst = d) (hw : Region.wanted o (yielded ops a.tmps) = false) (hS : S w)
    (h : wpSeq P ops Q S rest (listed.setIfInBounds i true) (a.put d undef) w) : wpSeq P ops Q S (i :: rest) listed a w :=
  .inr ⟨hf, hr, o, undef, ho, .inr ⟨hw, rfl⟩, hS, by rw [hd]; exact h⟩
/-- The only operation that may come up. -/
theorem seq_does {i : Nat} {rest : List Nat} {listed : Array Bool} {a : Act} {w : World} {R : Value → World → Prop} {o : Oper} (d : Option Tmp) (hr : Region.ready .any ops listed = [i]) (ho : ops[i]? = some o)
    (hdst : o.dst = d) (hw : Region.wanted o (yielded ops a.tmps) = true) (hd : Does P a.eval o w R)
    (h : ∀ v w', R v w' → S w' ∧ wpSeq P ops Q S rest (listed.setIfInBounds i true) (a.put d v) w') : wpSeq P ops Q S (i :: rest) listed a w := by
  refine .inl ⟨hr, ?_⟩
  unfold wpOp
  simp only [ho, hw, if_true]
  refine .inl (hd.wp ?_)
  rw [hdst]
  exact h
/-- .. a call. -/
theorem seq_call {i : Nat} {rest : List Nat} {listed : Array Bool} {a : Act} {w : World} {f : FuncId} {args : Array Value} {R : Ending → World → Prop} {o : Oper} (d : Option Tmp) (hr : Region.ready .any ops listed = [i]) (ho : ops[i]? = some o)
    (hdst : o.dst = d) (hw : Region.wanted o (yielded ops a.tmps) = true) (hx : (execOp a.eval o).run P w = .ok (.enter f args) w) (hc : Calls P f args w R)
    (h : ∀ e w', R e w' → ∃ v, e = .returned v ∧ S w' ∧ wpSeq P ops Q S rest (listed.setIfInBounds i true) (a.put d v) w') : wpSeq P ops Q S (i :: rest) listed a w := by
  refine .inl ⟨hr, ?_⟩
  unfold wpOp
  simp only [ho, hw, if_true]
  refine .inl ?_
  unfold Oper.wp
  rw [hx]
  refine hc.mono fun e w' hR => ?_
  obtain ⟨v, rfl, h1, h2⟩ := h e w' hR
  rw [← hdst] at h2
  exact ⟨h1, h2⟩
end
end Go.Proofs.YthdlljlcffokbaaDoor
