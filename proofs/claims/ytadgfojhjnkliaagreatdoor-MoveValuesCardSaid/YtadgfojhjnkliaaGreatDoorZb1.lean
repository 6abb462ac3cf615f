/- Lemmas that the last text rests on. Condition: each says its own. -/
import Derived.WalkKit
import Derived.Maps.AppendAt
import Derived.Deep.AppendLies
import Derived.Deep.Draws
import Derived.Deep.MidRow
import Derived.Laws.CopyOwn
import Derived.Lib.Hide
import Derived.KernelRfl
import Derived.Deep.RegionLaw
import Derived.Deep.QuietTactic
import Derived.BigQuiet
import Derived.Laws.StructEq
import Derived.Laws.MakeOwn
import Derived.StillTail
import Derived.IntWalk
set_option maxHeartbeats 16000000
set_option maxRecDepth 100000
namespace Go.Proofs.YtadgfojhjnkliaaGreatDoor
open Go.RowKit
noncomputable section
section
theorem odt {p : Prop} [Decidable p] (h : decide p = true) : p := of_decide_eq_true h
theorem odf {p : Prop} [Decidable p] (h : decide p = false) : ¬ p := of_decide_eq_false h
structure Fr (S : Nat → Prop) (w w' : World) : Prop where
 os : w'.os = w.os
 tape : w'.tape = w.tape
 output : w'.output = w.output
 size : w.heap.size ≤ w'.heap.size
 block : ∀ k, k < w.heap.size → ¬ S k → w'.heap[k]? = w.heap[k]?
abbrev AB : Nat → Prop := fun _ => False
abbrev Fr0 := Fr AB
namespace Fr
variable {S T : Nat → Prop} {w w' w'' : World}
theorem refl : Fr S w w := ⟨rfl, rfl, rfl, Nat.le_refl _, fun _ _ _ => rfl⟩
theorem mono (h : Fr S w w') (hs : ∀ k, k < w.heap.size → S k → T k) : Fr T w w' :=
 ⟨h.os, h.tape, h.output, h.size, fun k hk hn => h.block k hk (fun hh => hn (hs k hk hh))⟩
theorem of0 (h : Fr0 w w') : Fr S w w' := h.mono (fun _ _ hh => hh.elim)
theorem trans (h : Fr S w w') (h' : Fr S w' w'') : Fr S w w'' :=
 ⟨h'.os.trans h.os, h'.tape.trans h.tape, h'.output.trans h.output, Nat.le_trans h.size h'.size,
  fun k hk hn => (h'.block k (Nat.lt_of_lt_of_le hk h.size) hn).trans (h.block k hk hn)⟩
theorem step (h : Fr S w w') (h' : Fr T w' w'') (ht : ∀ k, k < w.heap.size → T k → S k) : Fr S w w'' :=
 ⟨h'.os.trans h.os, h'.tape.trans h.tape, h'.output.trans h.output, Nat.le_trans h.size h'.size,
  fun k hk hn => (h'.block k (Nat.lt_of_lt_of_le hk h.size) (fun hh => hn (ht k hk hh))).trans (h.block k hk hn)⟩
theorem then0 (h : Fr S w w') (h' : Fr0 w' w'') : Fr S w w'' := h.step h' (fun _ _ hh => hh.elim)
theorem drew (h : Fr S w w') : Fr S w w'.drew := ⟨h.os, h.tape, h.output, h.size, h.block⟩
theorem alloc (h : Fr S w w') (o : Obj) : Fr S w (w'.alloc o) :=
 h.step (T := AB) ⟨rfl, rfl, rfl, by simp, fun k hk _ => Below.heap_alloc _ _ _ hk⟩ (fun _ _ hh => hh.elim)
theorem below (h : Fr0 w w') : Below w.heap.size w w' := ⟨h.os, h.tape, h.output, h.size, fun k hk => h.block k hk (fun hh => hh)⟩
theorem ofBelow (h : Below w.heap.size w w') : Fr S w w' := ⟨h.os, h.tape, h.output, h.size, fun k hk _ => h.block k hk⟩
theorem cell (h : Fr S w w') {p : Addr} (hp : p.block < w.heap.size) (hn : ¬ S p.block) : w'.cell? p = w.cell? p :=
 World.cell?_of_block (w := w) (h.block p.block hp hn)
end Fr
def Blk (w : World) (g : Nat) (t : TypeId) (cs : List Value) : Prop := w.heap[g]? = some (.cells cs.toArray t (0, 0))
namespace Blk
variable {w w' : World} {g : Nat} {t : TypeId} {cs : List Value}
theorem lt (h : Blk w g t cs) : g < w.heap.size := by
 rcases Nat.lt_or_ge g w.heap.size with hlt | hge
 ·exact hlt
 ·unfold Blk at h; rw [Array.getElem?_eq_none hge] at h; cases h
theorem cell (h : Blk w g t cs) (i : Nat) : w.cell? ⟨g, i, none⟩ = cs[i]? := by
 rw [cell_of_row w g i cs.toArray t (0, 0) h]; simp
theorem new (w : World) (t : TypeId) (cs : List Value) : Blk (w.alloc (.cells cs.toArray t)) w.heap.size t cs := heap_alloc_new w _
theorem fr {S : Nat → Prop} (h : Blk w g t cs) (hf : Fr S w w') (hn : ¬ S g) : Blk w' g t cs := (hf.block g h.lt hn).trans h
theorem fr0 (h : Blk w g t cs) (hf : Fr0 w w') : Blk w' g t cs := h.fr hf (fun hh => hh)
end Blk
def Rd (w : World) (A : Option Addr) (n : Nat) (xs : List Value) : Prop :=
 xs.length = n ∧ (0 < n → ∃ b off, A = some ⟨b, off, none⟩ ∧ ∀ j u, xs[j]? = some u → w.cell? ⟨b, off + j, none⟩ = some u)
namespace Rd
variable {w w' : World} {A : Option Addr} {n : Nat} {xs : List Value}
theorem nil {A : Option Addr} : Rd w A 0 [] := ⟨rfl, fun h => absurd h (by omega)⟩
theorem keep (h : Rd w A n xs) (hk : 0 < n → ∀ b off, A = some ⟨b, off, none⟩ → ∀ j, w.cell? ⟨b, j, none⟩ ≠ none → w'.cell? ⟨b, j, none⟩ = w.cell? ⟨b, j, none⟩) : Rd w' A n xs :=
 ⟨h.1, fun hn => by
  obtain ⟨b, off, e, hc⟩ := h.2 hn
  exact ⟨b, off, e, fun j u hu => (hk hn b off e _ (by rw [hc j u hu]; simp)).trans (hc j u hu)⟩⟩
theorem fr {S : Nat → Prop} (h : Rd w A n xs) (hf : Fr S w w') (hn : 0 < n → ∀ b off, A = some ⟨b, off, none⟩ → ¬ S b) : Rd w' A n xs :=
 h.keep fun h0 b off e j hj => hf.cell (p := ⟨b, j, none⟩) (by
  cases hc : w.cell? ⟨b, j, none⟩ with
  | none => exact absurd hc hj
  | some v => exact World.block_lt_of_cell? w ⟨b, j, none⟩ hc) (hn h0 b off e)
theorem fr0 (h : Rd w A n xs) (hf : Fr0 w w') : Rd w' A n xs := h.fr hf (fun _ _ _ _ hh => hh)
theorem of_own {base : Nat} {e : TypeId} {A : Option Addr} {c : Nat} (h : w.ownsRow base e 1 (.slice A n c) n xs) : Rd w A n xs := by
 refine ⟨by simpa using h.1, fun hn => ?_⟩
 rcases h.2 with ⟨hv, h0⟩ | ⟨g, cap, cur, hv, _⟩
 ·omega
 ·injection hv with hA
  subst hA
  refine ⟨g, 0, rfl, fun j u hu => ?_⟩
  have := h.cells (g := g) rfl j u hu
  rwa [Addr.add_mid] at this
end Rd
def bv (c : UInt8) : Value := .int .u8 (c.toNat : Int)
def bvs (l : List UInt8) : List Value := l.map bv
theorem RP (l : List UInt8) : (bvs l).length = l.length := by simp [bvs]
section
variable {P : Program} (w : World)
theorem P5 (base : Nat) (t ty e : TypeId) (i : TypeInfo) (z : Value) (bytes : Nat) (ht : P.underlying t = some (.slice e)) (hi : P.info? e = some i) (hz : i.zero = some z)
 (hsize : i.size = 1) (hby : i.bytes = bytes) (hzs : z.cells.size = 1)
 (v : Value) (n : Nat) (xs : List Value) (hown : w.ownsRow base e 1 v n xs)
 (A : Option Addr) (m c : Nat) (news : List Value) (hr : Rd w A m news) (h1 : ∀ u ∈ news, u.oneCell' = true)
 (h63 : n + m ≤ maxLen) (hbytes : (n + m) * bytes ≤ 140737488355328) (hbase : base ≤ w.heap.size) :
 ∃ v' w', (Builtin.append_ #[t, t] ty #[v, .slice A m c]).run P w = .ok v' w' ∧ w'.ownsRow base e 1 v' (n + m) (xs ++ news) ∧ w.grownBy w' v.ownBlock ∧
  (v'.ownBlock = v.ownBlock ∨ v'.ownBlock = some w.heap.size) := by
 rcases A with _ | ad
 ·have hm : m = 0 := by
   rcases Nat.eq_zero_or_pos m with h0 | h0
   ·exact h0
   ·obtain ⟨b, off, h, _⟩ := hr.2 h0
    cases h
  subst hm
  have hn : news = [] := List.eq_nil_of_length_eq_zero hr.1
  subst hn
  refine ⟨v, w, ?_, by simpa using hown, ⟨rfl, rfl, rfl, Nat.le_refl _, fun _ _ _ => rfl⟩, .inl rfl⟩
  rcases hown.2 with ⟨rfl, rfl⟩ | ⟨g, cap, cur, rfl, _, _, hnc, _⟩
  ·simp [Builtin.append_, run_underlying ht, sizeOf, typeInfo, hi, Builtin.lenOf, Builtin.firstCells]
  ·simp [Builtin.append_, run_underlying ht, sizeOf, typeInfo, hi, Builtin.lenOf, Builtin.firstCells, hnc, storeCells]
 ·have hcells : ∀ j u, news[j]? = some u → w.cell? (ad.add j) = some u := by
   intro j u hu
   rcases Nat.eq_zero_or_pos m with h0 | h0
   ·subst h0
    have hn : news = [] := List.eq_nil_of_length_eq_zero hr.1
    subst hn
    simp at hu
   ·obtain ⟨b', off', h, hc⟩ := hr.2 h0
    injection h with h
    subst h
    rw [Addr.add_mid]; exact hc j u hu
  obtain ⟨v', w', hrun, h2, h3, _, h5⟩ := run_append_own_at (P := P) w base t ty e i z 1 bytes ht hi hz hsize hby hzs (by omega) v n xs hown ad m c news (by simpa using hr.1) hcells h1 h63 hbytes hbase
  exact ⟨v', w', hrun, h2, h3, h5⟩
end
end
section
def G8 (P : Program) (ρ : Operand → Value) (o : Oper) (w : World) (R : Value → World → Prop) : Prop :=
 ∃ v w', ((execOp ρ o).run P w = .ok (.value v) w' ∨ ((execOp ρ o).run P w = .ok .skip w' ∧ v = undef)) ∧ R v w'
namespace G8
variable {P : Program} {o : Oper} {w : World} {R : Value → World → Prop} {ops : Array Oper} {rest : List Oper} {a : Act} {Q : Exit → Act → World → Prop}
theorem wp {K : Act → World → Prop} (h : G8 P a.eval o w R) (k : ∀ v w', R v w' → K (a.put o.dst v) w') : o.wp P a w K Q := by
 obtain ⟨v, w', hr | ⟨hr, rfl⟩, hR⟩ := h
 ·unfold Oper.wp; rw [hr]; exact k _ _ hR
 ·unfold Oper.wp; rw [hr]; exact k _ _ hR
theorem mono {ρ : Operand → Value} {R' : Value → World → Prop} (h : G8 P ρ o w R) (k : ∀ v w', R v w' → R' v w') : G8 P ρ o w R' :=
 let ⟨v, w', hr, hR⟩ := h; ⟨v, w', hr, k _ _ hR⟩
end G8
theorem Fr.setRow {S : Nat → Prop} {w w' : World} (h : Fr S w w') {g : Nat} (hg : g < w.heap.size → S g) (cs : Array Value) : Fr S w (w'.setRow g cs) :=
 h.step (T := fun k => k = g) ⟨rfl, rfl, rfl, by simp, fun k _ hn => setRow_other w' g k cs hn⟩ (fun k hk e => by subst e; exact hg hk)
theorem T4 (w : World) (g : Nat) (cs : Array Value) : Fr (fun k => k = g) w (w.setRow g cs) := Fr.setRow (S := fun k => k = g) Fr.refl (fun _ => rfl) cs
def put (cs : List Value) (off : Nat) (xs : List Value) : List Value := cs.take off ++ (xs ++ cs.drop (off + xs.length))
theorem n9 (cs : List Value) (off : Nat) : put cs off [] = cs := by simp [put]
theorem PC (cs xs : List Value) (h : xs.length = cs.length) : put cs 0 xs = xs := by
 simp [put, h]
section
variable {P : Program} {ρ : Operand → Value} {o : Oper} {w : World}
theorem BP (ty : TypeId) (x y : Operand) (ho : o.op = .store ty x y) (g off : Nat) (t : TypeId) (cs new : List Value)
 (hx : ρ x = .pointer (some ⟨g, off, none⟩)) (hy : ρ y = .agg new.toArray) (hb : Blk w g t cs)
 (hi : (P.info? ty).map (·.size) = some new.length) (hl : off + new.length ≤ cs.length) (h1 : ∀ u ∈ new, u.oneCell' = true) :
 G8 P ρ o w fun v w' => v = undef ∧ Blk w' g t (put cs off new) ∧ Fr (fun k => k = g) w w' := by
 have hs := run_storeCells_at P g off t new 0 cs.toArray w hb (by simpa using hl) h1
 refine ⟨undef, w.setRow g (put cs off new).toArray, .inr ⟨?_, rfl⟩, rfl, ?_, T4 w g _⟩
 rotate_left
 ·exact setRow_heap w g _ _ t _ hb
 ·have hrun : (storeVar ty ⟨g, off, none⟩ (.agg new.toArray)).run P w = .ok () (w.setRow g (put cs off new).toArray) := by
   cases hq : P.info? ty with
   | none => simp [hq] at hi
   | some i =>
    have hsz : new.length = i.size := by simp [hq] at hi; omega
    simp only [Nat.add_zero] at hs
    simp [storeVar, sizeOf, typeInfo, hq, Value.cells, hsz, hs, put]
  unfold execOp
  simp only [ho, hx, hy, Instr.storeAt, Instr.sureAddr, Sem.run_bind, Sem.run_pure, Result.andThen_ok, hrun]
theorem DZ (ty : TypeId) (x y : Operand) (ho : o.op = .store ty x y) (g off : Nat) (t : TypeId) (cs : List Value) (v : Value)
 (hx : ρ x = .pointer (some ⟨g, off, none⟩)) (hy : ρ y = v) (hv : v.cells = #[v]) (hb : Blk w g t cs)
 (hi : (P.info? ty).map (·.size) = some 1) (hl : off < cs.length) (h1 : v.oneCell' = true) :
 G8 P ρ o w fun u w' => u = undef ∧ Blk w' g t (cs.set off v) ∧ Fr (fun k => k = g) w w' := by
 have hs := run_storeCells_at P g off t [v] 0 cs.toArray w hb (by simp; omega) (by simpa using h1)
 have hput : cs.set off v = put cs off [v] := by
  rw [List.set_eq_take_append_cons_drop, if_pos hl]; simp [put]
 refine ⟨undef, w.setRow g (put cs off [v]).toArray, .inr ⟨?_, rfl⟩, rfl, ?_, T4 w g _⟩
 rotate_left
 ·rw [hput]; exact setRow_heap w g _ _ t _ hb
 ·have hrun : (storeVar ty ⟨g, off, none⟩ v).run P w = .ok () (w.setRow g (put cs off [v]).toArray) := by
   cases hq : P.info? ty with
   | none => simp [hq] at hi
   | some i =>
    have hsz : i.size = 1 := by simpa [hq] using hi
    simp only [Nat.add_zero] at hs
    simp [storeVar, sizeOf, typeInfo, hq, hv, hsz, hs, put]
  unfold execOp
  simp only [ho, hx, hy, Instr.storeAt, Instr.sureAddr, Sem.run_bind, Sem.run_pure, Result.andThen_ok, hrun]
theorem BX (e : TypeId) (ho : o.op = .alloc e) (z : Value) (zs : List Value) (hz : (P.info? e).map (·.zero) = some (some z)) (hc : z.cells = zs.toArray) :
 G8 P ρ o w fun v w' => ∃ g, v = .pointer (some ⟨g, 0, none⟩) ∧ w.heap.size ≤ g ∧ g < w'.heap.size ∧ Blk w' g e zs ∧ Fr0 w w' := by
 refine ⟨_, w.alloc (.cells zs.toArray e), .inl ?_, w.heap.size, rfl, Nat.le_refl _, by simp, Blk.new w e zs, Fr.refl.alloc _⟩
 cases hq : P.info? e with
 | none => simp [hq] at hz
 | some i =>
  have hz' : i.zero = some z := by simpa [hq] using hz
  unfold execOp
  simp [ho, Instr.alloc, zeroValue, typeInfo, hq, hz', newVar, newRow, hc]
theorem WZ (e : TypeId) (x : Operand) (ho : o.op = .box e x) (cs : List Value) (hx : (ρ x).cells = cs.toArray) :
 G8 P ρ o w fun v w' => ∃ g, v = .pointer (some ⟨g, 0, none⟩) ∧ w.heap.size ≤ g ∧ g < w'.heap.size ∧ Blk w' g e cs ∧ Fr0 w w' := by
 refine ⟨_, w.alloc (.cells cs.toArray e), .inl ?_, w.heap.size, rfl, Nat.le_refl _, by simp, Blk.new w e cs, Fr.refl.alloc _⟩
 unfold execOp
 simp [ho, Instr.box, newVar, newRow, hx]
theorem X0 (s x : Operand) (t : TypeId) (ho : o.op = .call { callee := .builtin .append, args := #[s, x], argTypes := #[t, t] })
 (base : Nat) (e : TypeId) (z : Value) (bytes : Nat) (ht : P.underlying t = some (.slice e)) (hi : (P.info? e).map (fun i => (i.zero, i.size, i.bytes)) = some (some z, 1, bytes)) (hzs : z.cells.size = 1)
 (v : Value) (n : Nat) (xs : List Value) (hs : ρ s = v) (hown : w.ownsRow base e 1 v n xs)
 (A : Option Addr) (m c : Nat) (news : List Value) (hx : ρ x = .slice A m c) (hr : Rd w A m news) (h1 : ∀ u ∈ news, u.oneCell' = true)
 (h63 : n + m ≤ maxLen) (hbytes : (n + m) * bytes ≤ 140737488355328) (hbase : base ≤ w.heap.size) :
 G8 P ρ o w fun v' w' => w'.ownsRow base e 1 v' (n + m) (xs ++ news) ∧ w.grownBy w' v.ownBlock ∧ (v'.ownBlock = v.ownBlock ∨ v'.ownBlock = some w.heap.size) := by
 cases hq : P.info? e with
 | none => simp [hq] at hi
 | some i =>
  obtain ⟨hz, hsize, hby⟩ : i.zero = some z ∧ i.size = 1 ∧ i.bytes = bytes := by simpa [hq] using hi
  obtain ⟨v', w', hrun, h2, h3, h4⟩ := P5 (P := P) w base t o.type e i z bytes ht hq hz hsize hby hzs v n xs hown A m c news hr h1 h63 hbytes hbase
  refine ⟨v', w', .inl ?_, h2, h3, h4⟩
  unfold execOp
  simp only [ho, resolve, invoke, builtin, Sem.run_bind, Sem.run_pure, Result.andThen_ok, List.map_toArray, List.map_cons, List.map_nil, hs, hx, hrun]
end
theorem W0 {w : World} {base : Nat} {e : TypeId} {v : Value} {n : Nat} {xs : List Value} (h : w.ownsRow base e 1 v n xs) :
 ∃ A cap, v = .slice A n cap ∧ n ≤ cap ∧ cap ≤ maxLen ∧ Rd w A n xs ∧ (∀ b off, A = some ⟨b, off, none⟩ → base ≤ b ∧ off = 0) := by
 rcases h.2 with ⟨rfl, h0⟩ | ⟨g, cap, cur, rfl, hb, hg, hc, hm, hs, ht⟩
 ·subst h0
  have hx : xs = [] := List.eq_nil_of_length_eq_zero (by simpa using h.1)
  subst hx
  exact ⟨none, 0, rfl, Nat.le_refl _, Nat.zero_le _, Rd.nil, by simp⟩
 ·refine ⟨some ⟨g, 0, none⟩, cap, rfl, hc, hm, Rd.of_own h, ?_⟩
  intro b off e; injection e with e; injection e with e1 e2 _; subst e1; exact ⟨hb, e2.symm⟩
theorem Y3 {w w' : World} {S : Nat → Prop} {base : Nat} {e : TypeId} {v : Value} {n : Nat} {xs : List Value} (h : w.ownsRow base e 1 v n xs) (hf : Fr S w w') (hn : ∀ k, v.ownBlock = some k → ¬ S k) :
 w'.ownsRow base e 1 v n xs := by
 refine ⟨h.1, ?_⟩
 rcases h.2 with hh | ⟨g, cap, cur, rfl, hb, hg, r⟩
 ·exact .inl hh
 ·exact .inr ⟨g, cap, cur, rfl, hb, (hf.block g (Array.getElem?_eq_some_iff.1 hg).1 (hn g rfl)).trans hg, r⟩
end
section
def bo {α : Type} (b : Bool) (t f : α) : α := @Bool.rec (fun _ => α) f t b
theorem CG {α : Type} (t f : α) : bo true t f = t := rfl
theorem BV {α : Type} (t f : α) : bo false t f = f := rfl
def oo {α β : Type} (x : Option α) (n : β) (s : α → β) : β := @Option.rec α (fun _ => β) n s x
theorem HU {α β : Type} (v : α) (n : β) (s : α → β) : oo (some v) n s = s v := rfl
theorem U5 {α β : Type} (n : β) (s : α → β) : oo none n s = n := rfl
theorem BE {α : Type} {b : Bool} {t f r : α} (h : bo b t f = r) (hf : f ≠ r) : b = true ∧ t = r := by
 cases b with
 | true => exact ⟨rfl, h⟩
 | false => exact absurd h hf
theorem D9 {α β : Type} {x : Option α} {n : β} {s : α → β} {r : β} (h : oo x n s = r) (hn : n ≠ r) : ∃ v, x = some v ∧ s v = r := by
 cases x with
 | none => exact absurd h hn
 | some v => exact ⟨v, rfl, h⟩
structure Nd (α : Type) where
 a : α
 b : α
 c : α
 d : α
def QT (α : Type) (m : Nat) : Type := @Nat.rec (fun _ => Type) (Option α) (fun _ T => Nd T) m
def QT.emp (α : Type) (m : Nat) : QT α m := @Nat.rec (QT α) (none : Option α) (fun m ih => (Nd.mk ih ih ih ih : Nd (QT α m))) m
def rY {β : Type} (n : Nat) (x0 x1 x2 x3 : β) : β := bo (Nat.beq n 0) x0 (bo (Nat.beq n 1) x1 (bo (Nat.beq n 2) x2 x3))
theorem aZ {β : Type} (n : Nat) (x0 x1 x2 x3 : β) : rY n x0 x1 x2 x3 = if n = 0 then x0 else if n = 1 then x1 else if n = 2 then x2 else x3 := by
 match n with
 | 0 => rfl
 | 1 => rfl
 | 2 => rfl
 | n + 3 => rw [if_neg (by omega), if_neg (by omega), if_neg (by omega)]; rfl
def G9 {α : Type} : (m : Nat) → Nat → QT α m → Option α
 | 0, _, q => q
 | m + 1, k, q => have q : Nd (QT α m) := q; if k / 4 ^ m = 0 then G9 m (k % 4 ^ m) q.a else if k / 4 ^ m = 1 then G9 m (k % 4 ^ m) q.b else if k / 4 ^ m = 2 then G9 m (k % 4 ^ m) q.c else G9 m (k % 4 ^ m) q.d
def K5 {α : Type} (v : Option α) : (m : Nat) → Nat → QT α m → QT α m
 | 0, _, _ => v
 | m + 1, k, q => have q : Nd (QT α m) := q; if k / 4 ^ m = 0 then (Nd.mk (K5 v m (k % 4 ^ m) q.a) q.b q.c q.d : Nd (QT α m)) else if k / 4 ^ m = 1 then (Nd.mk q.a (K5 v m (k % 4 ^ m) q.b) q.c q.d : Nd (QT α m)) else if k / 4 ^ m = 2 then (Nd.mk q.a q.b (K5 v m (k % 4 ^ m) q.c) q.d : Nd (QT α m)) else (Nd.mk q.a q.b q.c (K5 v m (k % 4 ^ m) q.d) : Nd (QT α m))
theorem GJ {α : Type} (m k : Nat) (q : Nd (QT α m)) : G9 (m + 1) k (q : QT α (m + 1)) = if k / 4 ^ m = 0 then G9 m (k % 4 ^ m) q.a else if k / 4 ^ m = 1 then G9 m (k % 4 ^ m) q.b else if k / 4 ^ m = 2 then G9 m (k % 4 ^ m) q.c else G9 m (k % 4 ^ m) q.d := rfl
theorem SN {α : Type} (v : Option α) (m k : Nat) (q : Nd (QT α m)) : K5 v (m + 1) k (q : QT α (m + 1)) = if k / 4 ^ m = 0 then (Nd.mk (K5 v m (k % 4 ^ m) q.a) q.b q.c q.d : Nd (QT α m)) else if k / 4 ^ m = 1 then (Nd.mk q.a (K5 v m (k % 4 ^ m) q.b) q.c q.d : Nd (QT α m)) else if k / 4 ^ m = 2 then (Nd.mk q.a q.b (K5 v m (k % 4 ^ m) q.c) q.d : Nd (QT α m)) else (Nd.mk q.a q.b q.c (K5 v m (k % 4 ^ m) q.d) : Nd (QT α m)) := rfl
theorem QE {α : Type} : ∀ (m k : Nat), G9 m k (QT.emp α m) = none
 | 0, _ => rfl
 | m + 1, k => by
  have h := QE (α := α) m (k % 4 ^ m)
  have e : QT.emp α (m + 1) = (Nd.mk (QT.emp α m) (QT.emp α m) (QT.emp α m) (QT.emp α m) : Nd (QT α m)) := rfl
  rw [e, GJ]
  simp only [h, ite_self]
theorem PL {k m : Nat} (h : k < 4 ^ (m + 1)) : k / 4 ^ m < 4 := Nat.div_lt_of_lt_mul (by rw [Nat.pow_succ] at h; exact h)
theorem K6 (m : Nat) : 0 < 4 ^ m := Nat.pow_pos (by omega)
theorem SO {α : Type} (v : Option α) : ∀ (m k j : Nat) (q : QT α m), k < 4 ^ m → j < 4 ^ m → G9 m j (K5 v m k q) = if j = k then v else G9 m j q
 | 0, k, j, q, hk, hj => by
  have : j = k := by simp at hk hj; omega
  rw [if_pos this]; rfl
 | m + 1, k, j, q, hk, hj => by
  have ih := fun (q : QT α m) => SO v m (k % 4 ^ m) (j % 4 ^ m) q (Nat.mod_lt _ (K6 m)) (Nat.mod_lt _ (K6 m))
  have hk4 := PL hk
  have hj4 := PL hj
  have ek := Nat.div_add_mod k (4 ^ m)
  have ej := Nat.div_add_mod j (4 ^ m)
  have hkj : j = k ↔ (j / 4 ^ m = k / 4 ^ m ∧ j % 4 ^ m = k % 4 ^ m) := ⟨fun e => by rw [e]; exact ⟨rfl, rfl⟩, fun ⟨e1, e2⟩ => by rw [← ek, ← ej, e1, e2]⟩
  generalize hK : k / 4 ^ m = K at hk4 hkj
  generalize hJ : j / 4 ^ m = J at hj4 hkj
  have hp := SN v m k q
  have hg : ∀ q : Nd (QT α m), G9 (m + 1) j q = if j / 4 ^ m = 0 then G9 m (j % 4 ^ m) q.a else if j / 4 ^ m = 1 then G9 m (j % 4 ^ m) q.b else if j / 4 ^ m = 2 then G9 m (j % 4 ^ m) q.c else G9 m (j % 4 ^ m) q.d := fun q => GJ m j q
  rw [hK] at hp
  rw [hJ] at hg
  rw [hp, hg q]
  match K, hk4 with
  | 0, _ => rw [if_pos rfl, hg]; match J, hj4 with
   | 0, _ => simp only [if_true, ih]; by_cases e : j % 4 ^ m = k % 4 ^ m <;> simp [hkj, e]
   | 1, _ => simp [hkj]
   | 2, _ => simp [hkj]
   | 3, _ => simp [hkj]
  | 1, _ => rw [if_neg (by omega), if_pos rfl, hg]; match J, hj4 with
   | 0, _ => simp [hkj]
   | 1, _ => simp only [Nat.one_ne_zero, if_false, if_true, ih]; by_cases e : j % 4 ^ m = k % 4 ^ m <;> simp [hkj, e]
   | 2, _ => simp [hkj]
   | 3, _ => simp [hkj]
  | 2, _ => rw [if_neg (by omega), if_neg (by omega), if_pos rfl, hg]; match J, hj4 with
   | 0, _ => simp [hkj]
   | 1, _ => simp [hkj]
   | 2, _ =>
    show G9 m (j % 4 ^ m) (K5 v m (k % 4 ^ m) _) = if j = k then v else G9 m (j % 4 ^ m) _
    rw [ih]; by_cases e : j % 4 ^ m = k % 4 ^ m <;> simp [hkj, e]
   | 3, _ => simp [hkj]
  | 3, _ => rw [if_neg (by omega), if_neg (by omega), if_neg (by omega), hg]; match J, hj4 with
   | 0, _ => simp [hkj]
   | 1, _ => simp [hkj]
   | 2, _ => simp [hkj]
   | 3, _ =>
    show G9 m (j % 4 ^ m) (K5 v m (k % 4 ^ m) _) = if j = k then v else G9 m (j % 4 ^ m) _
    rw [ih]; by_cases e : j % 4 ^ m = k % 4 ^ m <;> simp [hkj, e]
structure GB (α : Type) (m : Nat) where
 f : QT α m → Option α
def jE (α : Type) (m k : Nat) (f : QT α m → Option α) : GB α (m + 1) := rY (Nat.div k (Nat.pow 4 m))
 (GB.mk (m := m + 1) (fun q => @Nd.rec (QT α m) (fun _ => Option α) (fun a _ _ _ => f a) q)) (GB.mk (m := m + 1) (fun q => @Nd.rec (QT α m) (fun _ => Option α) (fun _ b _ _ => f b) q))
 (GB.mk (m := m + 1) (fun q => @Nd.rec (QT α m) (fun _ => Option α) (fun _ _ c _ => f c) q)) (GB.mk (m := m + 1) (fun q => @Nd.rec (QT α m) (fun _ => Option α) (fun _ _ _ d => f d) q))
def rR (α : Type) (m : Nat) : Nat → GB α m :=
 @Nat.rec (fun m => Nat → GB α m) (fun _ => GB.mk (m := 0) (fun q => q)) (fun m ih k => @GB.rec α m (fun _ => GB α (m + 1)) (jE α m k) (ih (Nat.mod k (Nat.pow 4 m)))) m
theorem aV {α : Type} : ∀ (m k : Nat) (q : QT α m), (rR α m k).f q = G9 m k q
 | 0, _, _ => rfl
 | m + 1, k, q => by
  have ih := fun q => aV (α := α) m (k % 4 ^ m) q
  show (jE α m k (rR α m (k % 4 ^ m)).f).f q = _
  rw [show G9 (m + 1) k q = _ from GJ m k q]
  unfold jE
  rw [aZ]
  have e : Nat.div k (Nat.pow 4 m) = k / 4 ^ m := rfl
  rw [e]
  split
  ·exact ih _
  ·split
   ·exact ih _
   ·split
    ·exact ih _
    ·exact ih _
structure Tb (α : Type) where
 m : Nat
 q : QT α m
def rQ (α : Type) (m k : Nat) : GB α m := bo (Nat.blt k (Nat.pow 4 m)) (rR α m k) ⟨fun _ => none⟩
structure UB (α β : Type) (m : Nat) where
 f : QT α m → Option α → (QT α m → β) → β
def fN (α β : Type) (m k : Nat) (f : QT α m → Option α → (QT α m → β) → β) : UB α β (m + 1) := rY (Nat.div k (Nat.pow 4 m))
 (UB.mk (m := m + 1) (fun q v K => @Nd.rec (QT α m) (fun _ => β) (fun a b c d => f a v (fun x => K (Nd.mk x b c d : Nd (QT α m)))) q)) (UB.mk (m := m + 1) (fun q v K => @Nd.rec (QT α m) (fun _ => β) (fun a b c d => f b v (fun x => K (Nd.mk a x c d : Nd (QT α m)))) q))
 (UB.mk (m := m + 1) (fun q v K => @Nd.rec (QT α m) (fun _ => β) (fun a b c d => f c v (fun x => K (Nd.mk a b x d : Nd (QT α m)))) q)) (UB.mk (m := m + 1) (fun q v K => @Nd.rec (QT α m) (fun _ => β) (fun a b c d => f d v (fun x => K (Nd.mk a b c x : Nd (QT α m)))) q))
def cF (α β : Type) (m : Nat) : Nat → UB α β m :=
 @Nat.rec (fun m => Nat → UB α β m) (fun _ => UB.mk (m := 0) (fun _ v K => K v)) (fun m ih k => @UB.rec α β m (fun _ => UB α β (m + 1)) (fN α β m k) (ih (Nat.mod k (Nat.pow 4 m)))) m
theorem TU {α β : Type} (v : Option α) : ∀ (m k : Nat) (q : QT α m) (K : QT α m → β), (cF α β m k).f q v K = K (K5 v m k q)
 | 0, _, _, _ => rfl
 | m + 1, k, q, K => by
  have ih := fun q K => TU (β := β) v m (k % 4 ^ m) q K
  show (fN α β m k (cF α β m (k % 4 ^ m)).f).f q v K = _
  rw [show K5 v (m + 1) k q = _ from SN v m k q]
  unfold fN
  rw [aZ]
  have e : Nat.div k (Nat.pow 4 m) = k / 4 ^ m := rfl
  rw [e]
  split
  ·exact ih _ _
  ·split
   ·exact ih _ _
   ·split
    ·exact ih _ _
    ·exact ih _ _
structure LB (α β : Type) (m : Nat) where
 f : QT α m → Option α → (Tb α → β) → β
def aO (α β : Type) (m : Nat) (f : QT α m → Option α → (QT α m → β) → β) : LB α β m := ⟨fun q v K => f q v (fun x => K ⟨m, x⟩)⟩
def pH (α β : Type) (m : Nat) (f : QT α (m + 1) → Option α → (Tb α → β) → β) : LB α β m := ⟨fun q v K => f (Nd.mk q (QT.emp α m) (QT.emp α m) (QT.emp α m) : Nd (QT α m)) v K⟩
def rD (α β : Type) (fuel : Nat) : (m k : Nat) → LB α β m :=
 @Nat.rec (fun _ => (m k : Nat) → LB α β m) (fun m k => @UB.rec α β m (fun _ => LB α β m) (aO α β m) (cF α β m k))
  (fun _ ih m k => bo (Nat.blt k (Nat.pow 4 m)) (@UB.rec α β m (fun _ => LB α β m) (aO α β m) (cF α β m k)) (@LB.rec α β (m + 1) (fun _ => LB α β m) (pH α β m) (ih (Nat.succ m) k))) fuel
def cI {α : Type} (k : Nat) (v : Option α) : (fuel m : Nat) → QT α m → Tb α
 | 0, m, q => ⟨m, K5 v m k q⟩
 | f + 1, m, q => if k < 4 ^ m then ⟨m, K5 v m k q⟩ else cI k v f (m + 1) (Nd.mk q (QT.emp α m) (QT.emp α m) (QT.emp α m) : Nd (QT α m))
theorem aL {α β : Type} (v : Option α) (k : Nat) : ∀ (fuel m : Nat) (q : QT α m) (K : Tb α → β), (rD α β fuel m k).f q v K = K (cI k v fuel m q)
 | 0, m, q, K => by
  show (aO α β m (cF α β m k).f).f q v K = _
  exact TU v m k q _
 | fuel + 1, m, q, K => by
  show (bo (Nat.blt k (Nat.pow 4 m)) (aO α β m (cF α β m k).f) (pH α β m (rD α β fuel (m + 1) k).f)).f q v K = _
  unfold cI
  by_cases h : k < 4 ^ m
  ·have hb : Nat.blt k (Nat.pow 4 m) = true := Nat.ble_eq_true_of_le h
   rw [hb, CG, if_pos h]
   exact TU v m k q _
  ·have hb : Nat.blt k (Nat.pow 4 m) = false := by
    cases hq : Nat.blt k (Nat.pow 4 m) with
    | false => rfl
    | true => exact absurd (Nat.le_of_ble_eq_true hq) h
   rw [hb, BV, if_neg h]
   exact aL v k fuel (m + 1) _ K
namespace Tb
variable {α : Type}
def lf : Tb α := ⟨0, (none : Option α)⟩
def get (t : Tb α) (k : Nat) : Option α := @Tb.rec α (fun _ => Option α) (fun m q => @GB.rec α m (fun _ => Option α) (fun f => f q) (rQ α m k)) t
def upd (t : Tb α) (k : Nat) (v : Option α) : Tb α := cI k v k t.m t.q
def put (t : Tb α) (k : Nat) (v : α) : Tb α := t.upd k (some v)
def del (t : Tb α) (k : Nat) : Tb α := t.upd k none
theorem get_eq (t : Tb α) (k : Nat) : t.get k = if k < 4 ^ t.m then G9 t.m k t.q else none := by
 obtain ⟨m, q⟩ := t
 show (rQ α m k).f q = _
 unfold rQ
 by_cases h : k < 4 ^ m
 ·have hb : Nat.blt k (Nat.pow 4 m) = true := Nat.ble_eq_true_of_le h
  rw [hb, CG, if_pos h]; exact aV m k q
 ·have hb : Nat.blt k (Nat.pow 4 m) = false := by
   cases hq : Nat.blt k (Nat.pow 4 m) with
   | false => rfl
   | true => exact absurd (Nat.le_of_ble_eq_true hq) h
  rw [hb, BV, if_neg h]
theorem jG (m : Nat) (q : QT α m) (j : Nat) : (Tb.mk (m + 1) (Nd.mk q (QT.emp α m) (QT.emp α m) (QT.emp α m) : Nd (QT α m))).get j = (Tb.mk m q).get j := by
 rw [get_eq, get_eq]
 simp only
 by_cases h : j < 4 ^ m
 ·rw [if_pos h, if_pos (by rw [Nat.pow_succ]; omega), GJ, Nat.div_eq_of_lt h, if_pos rfl, Nat.mod_eq_of_lt h]
 ·rw [if_neg h]
  by_cases h2 : j < 4 ^ (m + 1)
  ·rw [if_pos h2, GJ]
   have : j / 4 ^ m ≠ 0 := fun e => by
    have := Nat.div_add_mod j (4 ^ m)
    have := Nat.mod_lt j (K6 m)
    rw [e] at *; omega
   rw [if_neg this]
   simp only [QE, ite_self]
  ·rw [if_neg h2]
theorem jF (k : Nat) (v : Option α) (j : Nat) : ∀ (f m : Nat) (q : QT α m), k < 4 ^ (m + f) → (cI k v f m q).get j = if j = k then v else (Tb.mk m q).get j := by
 have key : ∀ (m : Nat) (q : QT α m), k < 4 ^ m → (Tb.mk m (K5 v m k q)).get j = if j = k then v else (Tb.mk m q).get j := fun m q hk => by
  rw [get_eq, get_eq]
  simp only
  by_cases hj : j < 4 ^ m
  ·rw [if_pos hj, if_pos hj, SO v m k j q hk hj]
  ·rw [if_neg hj, if_neg hj, if_neg (fun e => hj (by rw [e]; exact hk))]
 intro f
 induction f with
 | zero => exact fun m q hk => key m q hk
 | succ f ih =>
  intro m q hk
  unfold cI
  by_cases h : k < 4 ^ m
  ·rw [if_pos h]; exact key m q h
  ·rw [if_neg h]
   refine (ih (m + 1) _ (by rw [show m + 1 + f = m + (f + 1) by omega]; exact hk)).trans ?_
   by_cases e : j = k
   ·rw [if_pos e, if_pos e]
   ·rw [if_neg e, if_neg e]; exact jG m q j
theorem lt_pow4 (k : Nat) : k < 4 ^ k := Nat.lt_pow_self (by omega)
theorem aU (t : Tb α) (k : Nat) (v : Option α) (j : Nat) : (t.upd k v).get j = if j = k then v else t.get j :=
 jF k v j k t.m t.q (Nat.lt_of_lt_of_le (lt_pow4 k) (Nat.pow_le_pow_right (by omega) (by omega)))
theorem get_lf (k : Nat) : (Tb.lf : Tb α).get k = none := by
 rw [get_eq]
 unfold lf
 simp only
 split <;> rfl
theorem get_put (t : Tb α) (k : Nat) (v : α) (j : Nat) : (t.put k v).get j = if j = k then some v else t.get j := aU t k (some v) j
theorem get_del (t : Tb α) (k : Nat) (j : Nat) : (t.del k).get j = if j = k then none else t.get j := aU t k none j
theorem get_put_same (t : Tb α) (k : Nat) (v : α) : (t.put k v).get k = some v := by rw [get_put]; simp
end Tb
def dep (n fuel : Nat) : Nat → Nat := @Nat.rec (fun _ => Nat → Nat) (fun m => m) (fun _ ih m => bo (Nat.ble n (Nat.pow 4 m)) m (ih (Nat.succ m))) fuel
theorem kM (n : Nat) : ∀ (f m : Nat), n ≤ 4 ^ (m + f) → n ≤ 4 ^ (dep n f m)
 | 0, m, h => h
 | f + 1, m, h => by
  show n ≤ 4 ^ (bo (Nat.ble n (Nat.pow 4 m)) m (dep n f (m + 1)))
  cases hb : Nat.ble n (Nat.pow 4 m) with
  | true => exact Nat.le_of_ble_eq_true hb
  | false => exact kM n f (m + 1) (by rw [show m + 1 + f = m + (f + 1) by omega]; exact h)
theorem kL (n : Nat) : n ≤ 4 ^ (dep n n 0) := kM n n 0 (by rw [Nat.zero_add]; exact Nat.le_of_lt (Tb.lt_pow4 n))
structure RD (α : Type) (m : Nat) where
 q : QT α m
 l : List α
def FL (α : Type) (m : Nat) : List α → RD α m :=
 @Nat.rec (fun m => List α → RD α m) (fun l => @List.rec α (fun _ => RD α 0) (RD.mk (m := 0) (none : Option α) []) (fun x r _ => RD.mk (m := 0) (some x) r) l)
  (fun m ih l => @List.rec α (fun _ => RD α (m + 1)) (RD.mk (m := m + 1) (QT.emp α (m + 1)) []) (fun _ _ _ => @RD.rec α m (fun _ => RD α (m + 1)) (fun a l1 => @RD.rec α m (fun _ => RD α (m + 1)) (fun b l2 => @RD.rec α m (fun _ => RD α (m + 1)) (fun c l3 => @RD.rec α m (fun _ => RD α (m + 1))
   (fun d l4 => RD.mk (m := m + 1) (Nd.mk a b c d : Nd (QT α m)) l4) (ih l3)) (ih l2)) (ih l1)) (ih l)) l) m
theorem K4 {α : Type} : ∀ (m : Nat) (l : List α), (FL α m l).l = l.drop (4 ^ m) ∧ ∀ k, k < 4 ^ m → G9 m k (FL α m l).q = l[k]?
 | 0, [] => ⟨rfl, fun k _ => by simp; rfl⟩
 | 0, x :: r => ⟨rfl, fun k hk => by
  obtain rfl : k = 0 := by simp at hk; exact hk
  rfl⟩
 | m + 1, [] => ⟨by simp; rfl, fun k _ => by
  show G9 (m + 1) k (QT.emp α (m + 1)) = _
  rw [QE]; simp⟩
 | m + 1, x :: r => by
  generalize hl : x :: r = l
  have e : FL α (m + 1) l = ⟨(Nd.mk (FL α m l).q (FL α m (FL α m l).l).q (FL α m (FL α m (FL α m l).l).l).q (FL α m (FL α m (FL α m (FL α m l).l).l).l).q : Nd (QT α m)), (FL α m (FL α m (FL α m (FL α m l).l).l).l).l⟩ := by
   subst hl; rfl
  obtain ⟨a1, a2⟩ := K4 (α := α) m l
  rw [a1] at e
  obtain ⟨b1, b2⟩ := K4 (α := α) m (l.drop (4 ^ m))
  rw [b1, List.drop_drop] at e
  obtain ⟨c1, c2⟩ := K4 (α := α) m (l.drop (4 ^ m + 4 ^ m))
  rw [c1, List.drop_drop] at e
  obtain ⟨d1, d2⟩ := K4 (α := α) m (l.drop (4 ^ m + 4 ^ m + 4 ^ m))
  rw [e]
  refine ⟨?_, fun k hk => ?_⟩
  ·show (FL α m (l.drop (4 ^ m + 4 ^ m + 4 ^ m))).l = _
   rw [d1, List.drop_drop]
   congr 1; rw [Nat.pow_succ]; omega
  ·show G9 (m + 1) k ((Nd.mk _ _ _ _ : Nd (QT α m)) : QT α (m + 1)) = _
   rw [GJ]
   have hk4 := PL hk
   have ek := Nat.div_add_mod k (4 ^ m)
   have hm := Nat.mod_lt k (K6 m)
   generalize k / 4 ^ m = K at hk4 ek ⊢
   generalize k % 4 ^ m = J at hm ek ⊢
   simp only [a2 J hm, b2 J hm, c2 J hm, d2 J hm, List.getElem?_drop]
   match K, hk4 with
   | 0, _ => rw [if_pos rfl]; congr 1; omega
   | 1, _ => rw [if_neg (by omega), if_pos rfl]; congr 1; omega
   | 2, _ => rw [if_neg (by omega), if_neg (by omega), if_pos rfl]; congr 1; omega
   | 3, _ => rw [if_neg (by omega), if_neg (by omega), if_neg (by omega)]; congr 1; omega
def rH {α : Type} (l : List α) : Nat := @List.rec α (fun _ => Nat) 0 (fun _ _ ih => Nat.succ ih) l
theorem aP {α : Type} : ∀ l : List α, rH l = l.length
 | [] => rfl
 | _ :: l => congrArg Nat.succ (aP l)
def r8 {α : Type} (n : Nat) (f : Nat → Tb α) : Tb α := @Nat.rec (fun _ => Tb α) (f 0) (fun m _ => f (Nat.succ m)) n
theorem aD {α : Type} (n : Nat) (f : Nat → Tb α) : r8 n f = f n := by cases n <;> rfl
def Tb.of {α : Type} (l : List α) : Tb α := r8 (dep (rH l) (rH l) 0) (fun m => @RD.rec α m (fun _ => Tb α) (fun q _ => ⟨m, q⟩) (FL α m l))
theorem Tb.get_of {α : Type} (l : List α) (k : Nat) : (Tb.of l).get k = l[k]? := by
 unfold Tb.of
 rw [aD, aP]
 show (Tb.mk (dep l.length l.length 0) (FL α _ l).q).get k = _
 rw [Tb.get_eq]
 simp only
 have hd := kL l.length
 by_cases h : k < 4 ^ dep l.length l.length 0
 ·rw [if_pos h]; exact (K4 _ l).2 k h
 ·rw [if_neg h, List.getElem?_eq_none (by omega)]
def Y0 {α : Type} (v : α) (m : Nat) : Nat → QT α m :=
 @Nat.rec (fun m => Nat → QT α m) (fun n => (bo (Nat.beq n 0) none (some v) : Option α)) (fun m ih n => (Nd.mk (ih n) (ih (Nat.sub n (Nat.pow 4 m))) (ih (Nat.sub n (Nat.mul 2 (Nat.pow 4 m)))) (ih (Nat.sub n (Nat.mul 3 (Nat.pow 4 m)))) : Nd (QT α m))) m
theorem ZV {α : Type} (v : α) : ∀ (m n k : Nat), k < 4 ^ m → G9 m k (Y0 v m n) = if k < n then some v else none
 | 0, n, k, hk => by
  obtain rfl : k = 0 := by simp at hk; exact hk
  show (bo (Nat.beq n 0) none (some v) : Option α) = _
  cases n with
  | zero => rfl
  | succ n => rw [if_pos (by omega)]; rfl
 | m + 1, n, k, hk => by
  have e : Y0 v (m + 1) n = (Nd.mk (Y0 v m n) (Y0 v m (n - 4 ^ m)) (Y0 v m (n - 2 * 4 ^ m)) (Y0 v m (n - 3 * 4 ^ m)) : Nd (QT α m)) := rfl
  rw [e, GJ]
  have hk4 := PL hk
  have ek := Nat.div_add_mod k (4 ^ m)
  have hm := Nat.mod_lt k (K6 m)
  generalize k / 4 ^ m = K at hk4 ek ⊢
  generalize k % 4 ^ m = J at hm ek ⊢
  simp only [ZV v m _ J hm]
  have fin : ∀ (a b : Nat), (J < a ↔ k < b) → (if J < a then some v else none) = if k < b then some v else none := fun a b h => by
   by_cases hh : J < a
   ·rw [if_pos hh, if_pos (h.1 hh)]
   ·rw [if_neg hh, if_neg (fun h' => hh (h.2 h'))]
  match K, hk4 with
  | 0, _ => rw [if_pos rfl]; exact fin _ _ (by omega)
  | 1, _ => rw [if_neg (by omega), if_pos rfl]; exact fin _ _ (by omega)
  | 2, _ => rw [if_neg (by omega), if_neg (by omega), if_pos rfl]; exact fin _ _ (by omega)
  | 3, _ => rw [if_neg (by omega), if_neg (by omega), if_neg (by omega)]; exact fin _ _ (by omega)
def Tb.repN {α : Type} (v : α) (m : Nat) (n : Nat) : Tb α := r8 (dep m m 0) (fun d => ⟨d, Y0 v d n⟩)
theorem Tb.get_repN {α : Type} (v : α) (n k : Nat) : (Tb.repN v n n).get k = (List.replicate n v)[k]? := by
 unfold Tb.repN
 rw [aD, Tb.get_eq, List.getElem?_replicate]
 simp only
 have hd := kL n
 by_cases h : k < 4 ^ dep n n 0
 ·rw [if_pos h, ZV v _ n k h]
 ·rw [if_neg h, if_neg (by omega)]
def fO {α β : Type} (t : Tb α) (k : Nat) (v : Option α) (f : Tb α → β) : β := @Tb.rec α (fun _ => β) (fun m q => @LB.rec α β m (fun _ => β) (fun g => g q v f) (rD α β k m k)) t
theorem ZI {α β : Type} (t : Tb α) (k : Nat) (v : Option α) (f : Tb α → β) : fO t k v f = f (t.upd k v) := by
 obtain ⟨m, q⟩ := t
 exact aL v k k m q f
def IX {α β : Type} (t : Tb α) (k : Nat) (v : α) (f : Tb α → β) : β := fO t k (some v) f
theorem F2 {α β : Type} (t : Tb α) (k : Nat) (v : α) (f : Tb α → β) : IX t k v f = f (t.put k v) := ZI _ _ _ _
def rZ {α β : Type} (t : Tb α) (k : Nat) (f : Tb α → β) : β := fO t k none f
theorem bA {α β : Type} (t : Tb α) (k : Nat) (f : Tb α → β) : rZ t k f = f (t.del k) := ZI _ _ _ _
def GZ {β : Type} (n : Nat) (f : Nat → β) : β := @Nat.rec (fun _ => β) (f 0) (fun m _ => f (Nat.succ m)) n
theorem DN {β : Type} (n : Nat) (f : Nat → β) : GZ n f = f n := by cases n <;> rfl
def KX {α β : Type} (l : List α) : (List α → β) → β := @List.rec α (fun _ => (List α → β) → β) (fun f => f []) (fun x _ ih f => ih (fun l => f (x :: l))) l
theorem J7 {α β : Type} : ∀ (l : List α) (f : List α → β), KX l f = f l
 | [], _ => rfl
 | x :: l, f => by
  show KX l (fun l => f (x :: l)) = _
  rw [J7 l]
def m9 {β : Type} (v : Value) (f : Value → β) : β :=
 match v with
 | .int k (.ofNat m) => GZ m (fun m => f (.int k (.ofNat m)))
 | .int k (.negSucc m) => GZ m (fun m => f (.int k (.negSucc m)))
 | .bool b => bo b (f (.bool true)) (f (.bool false))
 | .pointer (some ⟨id, off, sp⟩) => GZ off (fun off => f (.pointer (some ⟨id, off, sp⟩)))
 | .slice (some ⟨id, off, sp⟩) n c => GZ off (fun off => GZ n (fun n => GZ c (fun c => f (.slice (some ⟨id, off, sp⟩) n c))))
 | v => f v
theorem m8 {β : Type} (v : Value) (f : Value → β) : m9 v f = f v := by
 unfold m9
 split
 ·rw [DN]
 ·rw [DN]
 ·rename_i b; cases b <;> rfl
 ·rw [DN]
 ·rw [DN, DN, DN]
 ·rfl
structure Loc where
 blk : Nat
 base : Nat
 size : Nat
abbrev Sg := Nat → Option Loc
def cU : Value → Bool
 | .bool _ | .int _ _ | .float _ _ | .complex _ _ _ | .string _ | .pointer none | .slice none _ _ | .map none | .nilFunc | .nilIface => true
 | _ => false
inductive VRs (σ : Sg) : List Value → List Value → Prop
 | nil : VRs σ [] []
 | sc {us vs : List Value} (v : Value) : cU v = true → VRs σ us vs → VRs σ (v :: us) (v :: vs)
 | ptr {us vs : List Value} {id off : Nat} {L : Loc} : σ id = some L → VRs σ us vs → VRs σ (.pointer (some ⟨id, off, none⟩) :: us) (.pointer (some ⟨L.blk, L.base + off, none⟩) :: vs)
 | sl {us vs : List Value} {id off n c : Nat} {L : Loc} : σ id = some L → VRs σ us vs → VRs σ (.slice (some ⟨id, off, none⟩) n c :: us) (.slice (some ⟨L.blk, L.base + off, none⟩) n c :: vs)
 | slo {us vs : List Value} {id off n c z : Nat} {L : Loc} : σ id = some L → n ≤ c → L.base + off + c * z = L.size → VRs σ us vs → VRs σ (.slice (some ⟨id, off, some z⟩) n 0 :: us) (.slice (some ⟨L.blk, L.base + off, none⟩) n c :: vs)
 | sle {us vs : List Value} {id off z c A : Nat} {L : Loc} : σ id = some L → (c = 0 ∨ A = L.base + off ∧ L.base + off + c * z = L.size) → VRs σ us vs → VRs σ (.slice (some ⟨id, off, some z⟩) 0 1 :: us) (.slice (some ⟨L.blk, A, none⟩) 0 c :: vs)
 | map {us vs : List Value} {id : Nat} {L : Loc} : σ id = some L → VRs σ us vs → VRs σ (.map (some id) :: us) (.map (some L.blk) :: vs)
 | func {us vs xs ys xs' ys' : List Value} (f : FuncId) : VRs σ xs ys → VRs σ xs' ys' → VRs σ us vs → VRs σ (.func (.func f) ⟨xs⟩ ⟨xs'⟩ :: us) (.func (.func f) ⟨ys⟩ ⟨ys'⟩ :: vs)
 | yld {us vs : List Value} {id : Nat} {L : Loc} : σ id = some L → VRs σ us vs → VRs σ (.func (.yield id) ⟨[]⟩ ⟨[]⟩ :: us) (.func (.yield L.blk) ⟨[]⟩ ⟨[]⟩ :: vs)
 | iface {us vs : List Value} {x y : Value} (t : TypeId) : VRs σ [x] [y] → VRs σ us vs → VRs σ (.iface t x :: us) (.iface t y :: vs)
 | agg {us vs xs ys : List Value} : VRs σ xs ys → VRs σ us vs → VRs σ (.agg ⟨xs⟩ :: us) (.agg ⟨ys⟩ :: vs)
 | tuple {us vs xs ys : List Value} : VRs σ xs ys → VRs σ us vs → VRs σ (.tuple ⟨xs⟩ :: us) (.tuple ⟨ys⟩ :: vs)
abbrev VR (σ : Sg) (x y : Value) : Prop := VRs σ [x] [y]
theorem VRs.cons {σ : Sg} {x y : Value} {us vs : List Value} (h : VR σ x y) (t : VRs σ us vs) : VRs σ (x :: us) (y :: vs) := by
 cases h with
 | sc _ h _ => exact .sc _ h t
 | ptr h _ => exact .ptr h t
 | sl h _ => exact .sl h t
 | slo h h1 h2 _ => exact .slo h h1 h2 t
 | sle h h1 _ => exact .sle h h1 t
 | map h _ => exact .map h t
 | func f h h' _ => exact .func f h h' t
 | yld h _ => exact .yld h t
 | iface ty h _ => exact .iface ty h t
 | agg h _ => exact .agg h t
 | tuple h _ => exact .tuple h t
theorem VRs.inv {σ : Sg} {x : Value} {us vs : List Value} (h : VRs σ (x :: us) vs) : ∃ y vs', vs = y :: vs' ∧ VR σ x y ∧ VRs σ us vs' := by
 cases h with
 | sc _ h t => exact ⟨_, _, rfl, .sc _ h .nil, t⟩
 | ptr h t => exact ⟨_, _, rfl, .ptr h .nil, t⟩
 | sl h t => exact ⟨_, _, rfl, .sl h .nil, t⟩
 | slo h h1 h2 t => exact ⟨_, _, rfl, .slo h h1 h2 .nil, t⟩
 | sle h h1 t => exact ⟨_, _, rfl, .sle h h1 .nil, t⟩
 | map h t => exact ⟨_, _, rfl, .map h .nil, t⟩
 | func f h h' t => exact ⟨_, _, rfl, .func f h h' .nil, t⟩
 | yld h t => exact ⟨_, _, rfl, .yld h .nil, t⟩
 | iface ty h t => exact ⟨_, _, rfl, .iface ty h .nil, t⟩
 | agg h t => exact ⟨_, _, rfl, .agg h .nil, t⟩
 | tuple h t => exact ⟨_, _, rfl, .tuple h .nil, t⟩
theorem VRs.inv_nil {σ : Sg} {vs : List Value} (h : VRs σ [] vs) : vs = [] := by cases h; rfl
theorem VRs.len {σ : Sg} : ∀ {us vs : List Value}, VRs σ us vs → us.length = vs.length
 | [], vs, h => by rw [h.inv_nil]
 | x :: us, vs, h => by
  obtain ⟨y, vs', rfl, _, t⟩ := h.inv
  simp [t.len]
theorem VRs.append {σ : Sg} : ∀ {us vs xs ys : List Value}, VRs σ us vs → VRs σ xs ys → VRs σ (us ++ xs) (vs ++ ys)
 | [], vs, _, _, h, h' => by rw [h.inv_nil]; exact h'
 | x :: us, vs, _, _, h, h' => by
  obtain ⟨y, vs', rfl, hx, t⟩ := h.inv
  exact .cons hx (t.append h')
theorem VRs.get {σ : Sg} : ∀ {us vs : List Value} {i : Nat} {x : Value}, VRs σ us vs → us[i]? = some x → ∃ y, vs[i]? = some y ∧ VR σ x y
 | [], _, _, _, _, hx => by simp at hx
 | x :: us, vs, i, v, h, hx => by
  obtain ⟨y, vs', rfl, h1, t⟩ := h.inv
  cases i with
  | zero => simp only [List.getElem?_cons_zero, Option.some.injEq] at hx; subst hx; exact ⟨y, rfl, h1⟩
  | succ i => exact t.get (i := i) (by simpa using hx)
theorem VRs.of_get {σ : Sg} : ∀ {us vs : List Value}, us.length = vs.length → (∀ (i : Nat) (x : Value), us[i]? = some x → ∃ y, vs[i]? = some y ∧ VR σ x y) → VRs σ us vs
 | [], [], _, _ => .nil
 | [], _ :: _, h, _ => by simp at h
 | _ :: _, [], h, _ => by simp at h
 | x :: us, y :: vs, h, hg => by
  obtain ⟨y', hy, hxy⟩ := hg 0 x rfl
  simp only [List.getElem?_cons_zero, Option.some.injEq] at hy
  subst hy
  exact .cons hxy (VRs.of_get (by simpa using h) fun (i : Nat) (x : Value) hx => by simpa using hg (i + 1) x (by simpa using hx))
theorem VRs.drop {σ : Sg} : ∀ {us vs : List Value} (n : Nat), VRs σ us vs → VRs σ (us.drop n) (vs.drop n)
 | us, vs, 0, h => h
 | [], vs, n + 1, h => by rw [h.inv_nil]; exact .nil
 | x :: us, vs, n + 1, h => by
  obtain ⟨y, vs', rfl, _, t⟩ := h.inv
  exact t.drop n
theorem VRs.take {σ : Sg} : ∀ {us vs : List Value} (n : Nat), VRs σ us vs → VRs σ (us.take n) (vs.take n)
 | us, vs, 0, _ => .nil
 | [], vs, n + 1, h => by rw [h.inv_nil]; exact .nil
 | x :: us, vs, n + 1, h => by
  obtain ⟨y, vs', rfl, h1, t⟩ := h.inv
  exact .cons h1 (t.take n)
def Sg.le (σ σ' : Sg) : Prop := ∀ id L, σ id = some L → σ' id = some L
theorem Sg.le.refl (σ : Sg) : σ.le σ := fun _ _ h => h
theorem Sg.le.trans {σ σ' σ'' : Sg} (h : σ.le σ') (h' : σ'.le σ'') : σ.le σ'' := fun _ _ e => h' _ _ (h _ _ e)
theorem VRs.mono {σ σ' : Sg} (hs : σ.le σ') {us vs : List Value} (h : VRs σ us vs) : VRs σ' us vs := by
 induction h with
 | nil => exact .nil
 | sc v h _ ih => exact .sc v h ih
 | ptr h _ ih => exact .ptr (hs _ _ h) ih
 | sl h _ ih => exact .sl (hs _ _ h) ih
 | slo h h1 h2 _ ih => exact .slo (hs _ _ h) h1 h2 ih
 | sle h h1 _ ih => exact .sle (hs _ _ h) h1 ih
 | map h _ ih => exact .map (hs _ _ h) ih
 | func f _ _ _ i1 i2 i3 => exact .func f i1 i2 i3
 | yld h _ ih => exact .yld (hs _ _ h) ih
 | iface ty _ _ i1 i2 => exact .iface ty i1 i2
 | agg _ _ i1 i2 => exact .agg i1 i2
 | tuple _ _ i1 i2 => exact .tuple i1 i2
def WM (ih : List Value → Bool) : Value → Bool
 | .agg ⟨a⟩ => ih a
 | .tuple ⟨a⟩ => ih a
 | .iface _ x => ih [x]
 | .func (.func _) ⟨a⟩ ⟨b⟩ => ih a && ih b
 | v => cU v
def OS (n : Nat) : List Value → Bool :=
 @Nat.rec (fun _ => List Value → Bool) (fun _ => false) (fun _ ih l => @List.rec Value (fun _ => Bool) true (fun v us _ => bo (WM ih v) (ih us) false) l) n
theorem R7 (n : Nat) (v : Value) (us : List Value) : OS (n + 1) (v :: us) = bo (WM (OS n) v) (OS n us) false := rfl
theorem IC {σ : Sg} : ∀ (n : Nat) {us : List Value}, OS n us = true → VRs σ us us
 | 0, us, h => by cases h
 | n + 1, [], _ => .nil
 | n + 1, v :: us, h => by
  rw [R7] at h
  cases hc : WM (OS n) v with
  | false => rw [hc] at h; cases h
  | true =>
   rw [hc] at h
   have ht := IC (σ := σ) n (us := us) h
   unfold WM at hc
   split at hc
   ·exact .agg (IC n hc) ht
   ·exact .tuple (IC n hc) ht
   ·exact .iface _ (IC n hc) ht
   ·simp only [Bool.and_eq_true] at hc
    exact .func _ (IC n hc.1) (IC n hc.2) ht
   ·exact .sc _ hc ht
theorem VRs.eq_of_flat {σ : Sg} : ∀ (n : Nat) {us vs : List Value}, OS n us = true → VRs σ us vs → vs = us
 | 0, us, _, h, _ => by cases h
 | n + 1, [], _, _, h' => h'.inv_nil
 | n + 1, v :: us, vs, h, h' => by
  rw [R7] at h
  cases hc : WM (OS n) v with
  | false => rw [hc] at h; cases h
  | true =>
   rw [hc] at h
   cases h' with
   | sc _ hs t => rw [t.eq_of_flat n h]
   | ptr hs t => cases hc
   | sl hs t => cases hc
   | slo hs _ _ t => cases hc
   | sle hs _ t => cases hc
   | map hs t => cases hc
   | yld hs t => cases hc
   | func f a b t =>
    rw [t.eq_of_flat n h]
    have hc' := Bool.and_eq_true_iff.1 hc
    rw [a.eq_of_flat n hc'.1, b.eq_of_flat n hc'.2]
   | iface ty a t =>
    rw [t.eq_of_flat n h]
    have := a.eq_of_flat n hc
    injection this with e1; rw [e1]
   | agg a t => rw [t.eq_of_flat n h, a.eq_of_flat n hc]
   | tuple a t => rw [t.eq_of_flat n h, a.eq_of_flat n hc]
theorem VR.cells {σ : Sg} {x y : Value} (h : VR σ x y) : VRs σ x.cells.toList y.cells.toList := by
 cases h with
 | agg a _ => exact a
 | sc v hs _ => cases x <;> first | exact .sc _ hs .nil | cases hs
 | ptr hs _ => exact .ptr hs .nil
 | sl hs _ => exact .sl hs .nil
 | slo hs h1 h2 _ => exact .slo hs h1 h2 .nil
 | sle hs h1 _ => exact .sle hs h1 .nil
 | map hs _ => exact .map hs .nil
 | func f a b _ => exact .func f a b .nil
 | yld h _ => exact .yld h .nil
 | iface ty a _ => exact .iface ty a .nil
 | tuple a _ => exact .tuple a .nil
theorem VR.one {σ : Sg} {x y : Value} (h : VR σ x y) : x.oneCell' = y.oneCell' := by
 cases h <;> rfl
theorem VRs.one {σ : Sg} : ∀ {us vs : List Value}, VRs σ us vs → us.all (·.oneCell') = true → ∀ v ∈ vs, v.oneCell' = true
 | [], vs, h, _ => by rw [h.inv_nil]; simp
 | x :: us, vs, h, ha => by
  obtain ⟨y, vs', rfl, h1, t⟩ := h.inv
  simp only [List.all_cons, Bool.and_eq_true] at ha
  intro v hv
  rcases List.mem_cons.1 hv with rfl | hv
  ·rw [← h1.one]; exact ha.1
  ·exact t.one ha.2 v hv
inductive Bl where
 | cells (elem n k : Nat) (c : Tb Value)
 | map (clock : Nat) (bs : List Nat) (l : List (Value × Value))
 | iter (s : ByteArray) (pos : Nat)
 | miter (m : Option Nat) (since : Nat) (seen : List Nat) (last : Nat)
 | loop (st n : Nat) (e : Tb Value) (ps : List Nat) (asg body : Code) (pend : Option (Option Nat))
def blS {β : Type} (B : Bl) (f : Bl → β) : β :=
 match B with
 | .cells el n k c => GZ n (fun n => f (.cells el n k c))
 | B => f B
theorem sE {β : Type} (B : Bl) (f : Bl → β) : blS B f = f B := by
 unfold blS
 split
 ·rw [DN]
 ·rfl
abbrev Hp := Tb Bl
def iZ : Nat → LoopState
 | 0 => .ready
 | 1 => .busy
 | 2 => .done
 | _ => .exhausted
def jumpC : Option Nat → Code
 | none => .ret
 | some id => .exit id
def BR (σ : Sg) (L : Loc) (w : World) : Bl → Prop
 | .cells elem n k c => ∃ (row : Array Value) (fz : Nat × Nat), w.heap[L.blk]? = some (.cells row elem fz) ∧ row.size = L.size ∧ L.base + n ≤ L.size ∧ (∀ i, (c.get i).isSome = true ↔ i < n) ∧
  (∀ i v, c.get i = some v → ∃ u, row[L.base + i]? = some u ∧ VR σ v u) ∧ (k ≠ 2 → fz.1 = fz.2 ∨ L.size ≤ fz.1)
 | .map clock bs l => ∃ es : Array MapEntry, w.heap[L.blk]? = some (.map es clock) ∧ VRs σ (l.map (·.1)) (es.toList.map (·.key)) ∧ VRs σ (l.map (·.2)) (es.toList.map (·.val)) ∧ es.toList.map (·.born) = bs
 | .iter s pos => L.base = 0 ∧ w.heap[L.blk]? = some (.stringIter s pos)
 | .miter m since seen last => L.base = 0 ∧ ∃ r, (∀ id, m = some id → ∃ L', σ id = some L' ∧ r = some L'.blk) ∧ (m = none → r = none) ∧ w.heap[L.blk]? = some (.mapIter r since ⟨seen⟩ last)
 | .loop st n e ps asg body pend => L.base = 0 ∧ ∃ r : Loop, w.heap[L.blk]? = some (.loop r) ∧ r.state = iZ st ∧ r.tmps.size = n ∧ (∀ k v, e.get k = some v → ∃ u, r.tmps[k]? = some u ∧ VR σ v u) ∧ r.params.toList = ps ∧ r.assign = asg ∧ r.body = body ∧ r.pending = pend.map jumpC
theorem BR.lt {σ : Sg} {L : Loc} {w : World} {B : Bl} (h : BR σ L w B) : L.blk < w.heap.size := by
 cases B with
 | cells elem n k c => obtain ⟨row, fz, h, _⟩ := h; exact (Array.getElem?_eq_some_iff.1 h).1
 | map cl bs l => obtain ⟨es, h, _⟩ := h; exact (Array.getElem?_eq_some_iff.1 h).1
 | iter s p => exact (Array.getElem?_eq_some_iff.1 h.2).1
 | miter m a b c => obtain ⟨_, r, _, _, h⟩ := h; exact (Array.getElem?_eq_some_iff.1 h).1
 | loop st n e ps asg body pend => obtain ⟨_, r, h, _⟩ := h; exact (Array.getElem?_eq_some_iff.1 h).1
theorem BR.keep {σ σ' : Sg} {L : Loc} {w w' : World} {B : Bl} (h : BR σ L w B) (hs : σ.le σ') (hb : w'.heap[L.blk]? = w.heap[L.blk]?) : BR σ' L w' B := by
 cases B with
 | cells elem n k c =>
  obtain ⟨row, fz, h0, h1, h2, h3, h4, h5⟩ := h
  exact ⟨row, fz, hb.trans h0, h1, h2, h3, fun i v hv => let ⟨u, hu, hr⟩ := h4 i v hv; ⟨u, hu, hr.mono hs⟩, h5⟩
 | map cl bs l =>
  obtain ⟨es, h0, h1, h2, h3⟩ := h
  exact ⟨es, hb.trans h0, h1.mono hs, h2.mono hs, h3⟩
 | iter s p => exact ⟨h.1, hb.trans h.2⟩
 | miter m a b c =>
  obtain ⟨h0, r, h1, h2, h3⟩ := h
  exact ⟨h0, r, fun id hi => let ⟨L', h4, h5⟩ := h1 id hi; ⟨L', hs _ _ h4, h5⟩, h2, hb.trans h3⟩
 | loop st n e ps asg body pend =>
  obtain ⟨h0, r, h1, h2, h3, h4, h5⟩ := h
  exact ⟨h0, r, hb.trans h1, h2, h3, fun k v hk => let ⟨u, hu, hr⟩ := h4 k v hk; ⟨u, hu, hr.mono hs⟩, h5⟩
abbrev Hf := Nat → Option Bl
def Bl.ro : Bl → Prop
 | .cells _ _ k _ => k = 2
 | _ => False
def pN (h : Hf) (σ : Sg) (r : Nat) : Prop := ∀ id L B, h id = some B → σ id = some L → L.blk = r → B.ro
structure MR (G : Nat) (σ : Sg) (h : Hf) (nx : Nat) (w : World) : Prop where
 blk : ∀ id B, h id = some B → ∃ L, σ id = some L ∧ BR σ L w B
 sep : ∀ id id' L L', (h id).isSome = true → (h id').isSome = true → σ id = some L → σ id' = some L' → L.blk = L'.blk → id = id'
 free : ∀ id, nx ≤ id → σ id = none
 glob : ∀ g, g < G → ∃ n, σ g = some ⟨g, 0, n⟩
 gle : G ≤ nx
structure Tr (G : Nat) (σ : Sg) (h : Hf) (nx : Nat) (w : World) (σ' : Sg) (h' : Hf) (nx' : Nat) (w' : World) : Prop where
 le : nx ≤ nx'
 ext : σ.le σ'
 old : ∀ id, id < nx → σ' id = σ id
 mr : MR G σ' h' nx' w'
 os : w'.os = w.os
 tape : w'.tape = w.tape
 output : w'.output = w.output
 size : w.heap.size ≤ w'.heap.size
 fr : ∀ r, r < w.heap.size → (∀ id L, (h id).isSome = true → σ id = some L → L.blk ≠ r) → w'.heap[r]? = w.heap[r]?
 src : ∀ id L', (h' id).isSome = true → σ' id = some L' → w.heap.size ≤ L'.blk ∨ ∃ id0 L0, (h id0).isSome = true ∧ σ id0 = some L0 ∧ L0.blk = L'.blk
 dom : ∀ id, id < nx → h id = none → h' id = none
 qt : ∀ r, r < w.heap.size → pN h σ r → w'.heap[r]? = w.heap[r]? ∧ pN h' σ' r
theorem Tr.refl {G : Nat} {σ : Sg} {h : Hf} {nx : Nat} {w : World} (m : MR G σ h nx w) : Tr G σ h nx w σ h nx w :=
 ⟨Nat.le_refl _, Sg.le.refl σ, fun _ _ => rfl, m, rfl, rfl, rfl, Nat.le_refl _, fun _ _ _ => rfl, fun id L' hi hs => .inr ⟨id, L', hi, hs, rfl⟩, fun _ _ h => h, fun _ _ hq => ⟨rfl, hq⟩⟩
theorem Tr.trans {G : Nat} {σ σ' σ'' : Sg} {h h' h'' : Hf} {nx nx' nx'' : Nat} {w w' w'' : World} (a : Tr G σ h nx w σ' h' nx' w') (b : Tr G σ' h' nx' w' σ'' h'' nx'' w'') : Tr G σ h nx w σ'' h'' nx'' w'' where
 le := Nat.le_trans a.le b.le
 ext := a.ext.trans b.ext
 old id hi := (b.old id (Nat.lt_of_lt_of_le hi a.le)).trans (a.old id hi)
 mr := b.mr
 os := b.os.trans a.os
 tape := b.tape.trans a.tape
 output := b.output.trans a.output
 size := Nat.le_trans a.size b.size
 fr r hr hn := by
  refine (b.fr r (Nat.lt_of_lt_of_le hr a.size) fun id L hi hs e => ?_).trans (a.fr r hr hn)
  rcases a.src id L hi hs with h1 | ⟨id0, L0, h1, h2, h3⟩
  ·omega
  ·exact hn id0 L0 h1 h2 (h3.trans e)
 src id L hi hs := by
  rcases b.src id L hi hs with h1 | ⟨id0, L0, h1, h2, h3⟩
  ·exact .inl (Nat.le_trans a.size h1)
  ·rcases a.src id0 L0 h1 h2 with h4 | ⟨id1, L1, h4, h5, h6⟩
   ·exact .inl (by omega)
   ·exact .inr ⟨id1, L1, h4, h5, h6.trans h3⟩
 dom id hi hn := b.dom id (Nat.lt_of_lt_of_le hi a.le) (a.dom id hi hn)
 qt r hr hq := by
  obtain ⟨h1, h2⟩ := a.qt r hr hq
  obtain ⟨h3, h4⟩ := b.qt r (Nat.lt_of_lt_of_le hr a.size) h2
  exact ⟨h3.trans h1, h4⟩
theorem Tr.drew {G : Nat} {σ σ' : Sg} {h h' : Hf} {nx nx' : Nat} {w w' : World} (a : Tr G σ h nx w.drew σ' h' nx' w') : Tr G σ h nx w σ' h' nx' w' :=
 ⟨a.le, a.ext, a.old, a.mr, a.os, a.tape, a.output, a.size, a.fr, a.src, a.dom, a.qt⟩
theorem BR.drew {σ : Sg} {L : Loc} {w : World} {B : Bl} (h : BR σ L w B) : BR σ L w.drew B := h.keep (Sg.le.refl σ) rfl
theorem MR.drew {G : Nat} {σ : Sg} {h : Hf} {nx : Nat} {w : World} (m : MR G σ h nx w) : MR G σ h nx w.drew :=
 ⟨fun id B hb => let ⟨L, h1, h2⟩ := m.blk id B hb; ⟨L, h1, h2.drew⟩, m.sep, m.free, m.glob, m.gle⟩
end
section
section
variable {P : Program} (w : World)
end
theorem WT {P : Program} {ρ : Operand → Value} {o : Oper} {w : World} (ty : TypeId) (x : Operand) (ho : o.op = .load ty x) (b off n : Nat) (xs : List Value) (d : TypeDesc)
 (hx : ρ x = .pointer (some ⟨b, off, none⟩)) (hr : Rd w (some ⟨b, off, none⟩) n xs) (hu : P.underlying ty = some d) (hd : d.isRow = true) (hi : (P.info? ty).map (·.size) = some n) :
 (execOp ρ o).run P w = .ok (.value (.agg xs.toArray)) w := by
 have hc : w.rangeAt b off xs := fun j v hv => by
  have hj : 0 < n := by have := (List.getElem?_eq_some_iff.1 hv).1; have := hr.1; omega
  obtain ⟨b', off', e, hc⟩ := hr.2 hj
  injection e with e; injection e with e1 e2 _; subst e1; subst e2
  exact hc j v hv
 have hrun := run_loadVar_mid (P := P) w b off ty xs d hc hu hd (by rw [hr.1]; exact hi)
 unfold execOp
 simp only [ho, hx, Instr.loadAt, Instr.sureAddr, Sem.run_bind, Sem.run_pure, Result.andThen_ok, hrun]
end
section
section
variable {P : Program} {ρ : Operand → Value} {o : Oper} {w : World}
end
end
section
section
variable {P : Program} {ρ : Operand → Value} {o : Oper} {w : World}
theorem DU (s x : Operand) (t : TypeId) (ho : o.op = .call { callee := .builtin .append, args := #[s, x], argTypes := #[t, t] })
 (base : Nat) (e : TypeId) (z : Value) (size bytes : Nat) (ht : P.underlying t = some (.slice e)) (hi : (P.info? e).map (fun i => (i.zero, i.size, i.bytes)) = some (some z, size, bytes)) (hzs : z.cells.size = size) (hpos : 0 < size)
 (v : Value) (n : Nat) (xs : List Value) (hs : ρ s = v) (hown : w.ownsRow base e size v n xs)
 (A : Option Addr) (m c : Nat) (news : List Value) (hx : ρ x = .slice A m c) (hr : Rd w A (m * size) news) (h1 : ∀ u ∈ news, u.oneCell' = true)
 (h63 : n + m ≤ maxLen) (hbytes : (n + m) * bytes ≤ 140737488355328) (hbase : base ≤ w.heap.size) :
 G8 P ρ o w fun v' w' => w'.ownsRow base e size v' (n + m) (xs ++ news) ∧ w.grownBy w' v.ownBlock ∧ (v'.ownBlock = v.ownBlock ∨ v'.ownBlock = some w.heap.size) := by
 cases hq : P.info? e with
 | none => simp [hq] at hi
 | some i =>
  obtain ⟨hz, hsize, hby⟩ : i.zero = some z ∧ i.size = size ∧ i.bytes = bytes := by simpa [hq] using hi
  have key : ∃ v' w', (Builtin.append_ #[t, t] o.type #[v, .slice A m c]).run P w = .ok v' w' ∧ w'.ownsRow base e size v' (n + m) (xs ++ news) ∧ w.grownBy w' v.ownBlock ∧ (v'.ownBlock = v.ownBlock ∨ v'.ownBlock = some w.heap.size) := by
   rcases A with _ | ad
   ·have hm : m = 0 := by
     rcases Nat.eq_zero_or_pos m with h0 | h0
     ·exact h0
     ·obtain ⟨b, off, h, _⟩ := hr.2 (Nat.mul_pos h0 hpos)
      cases h
    subst hm
    have hn : news = [] := List.eq_nil_of_length_eq_zero (by rw [hr.1, Nat.zero_mul])
    subst hn
    refine ⟨v, w, ?_, by simpa using hown, ⟨rfl, rfl, rfl, Nat.le_refl _, fun _ _ _ => rfl⟩, .inl rfl⟩
    rcases hown.2 with ⟨rfl, rfl⟩ | ⟨g, cap, cur, rfl, _, _, hnc, _⟩
    ·simp [Builtin.append_, run_underlying ht, sizeOf, typeInfo, hq, Builtin.lenOf, Builtin.firstCells]
    ·simp [Builtin.append_, run_underlying ht, sizeOf, typeInfo, hq, Builtin.lenOf, Builtin.firstCells, hnc, storeCells]
   ·have hcells : ∀ j u, news[j]? = some u → w.cell? (ad.add j) = some u := by
     intro j u hu
     have hl : 0 < m * size := by have := (List.getElem?_eq_some_iff.1 hu).1; rw [hr.1] at this; omega
     obtain ⟨b', off', h, hc⟩ := hr.2 hl
     injection h with h
     subst h
     rw [Addr.add_mid]; exact hc j u hu
    obtain ⟨v', w', hrun, h2, h3, _, h5⟩ := run_append_own_at (P := P) w base t o.type e i z size bytes ht hq hz hsize hby hzs hpos v n xs hown ad m c news hr.1 hcells h1 h63 hbytes hbase
    exact ⟨v', w', hrun, h2, h3, h5⟩
  obtain ⟨v', w', hrun, h2, h3, h4⟩ := key
  refine ⟨v', w', .inl ?_, h2, h3, h4⟩
  unfold execOp
  simp only [ho, resolve, invoke, builtin, Sem.run_bind, Sem.run_pure, Result.andThen_ok, List.map_toArray, List.map_cons, List.map_nil, hs, hx, hrun]
theorem dC (w : World) (e : TypeId) (size : Nat) : (w.alloc (.cells #[] e)).ownsRow w.heap.size e size (.slice (some ⟨w.heap.size, 0, none⟩) 0 0) 0 [] :=
 World.ownsRow_made w #[] 0 (Nat.le_refl _) (Nat.zero_le _) (by simp)
theorem SR {w : World} {base base' size : Nat} {e : TypeId} {v : Value} {n : Nat} {xs : List Value} (h : w.ownsRow base e size v n xs) (hb : base' ≤ base) : w.ownsRow base' e size v n xs := by
 refine ⟨h.1, ?_⟩
 rcases h.2 with hh | ⟨g, cap, cur, hv, hg, r⟩
 ·exact .inl hh
 ·exact .inr ⟨g, cap, cur, hv, by omega, r⟩
end
end
section
theorem Fr.ofDrew {S : Nat → Prop} {w w' : World} (h : Fr S w.drew w') : Fr S w w' := ⟨h.os, h.tape, h.output, h.size, h.block⟩
theorem AZ {a b : Nat} (h : Nat.blt a b = true) : a < b := Nat.le_of_ble_eq_true h
abbrev Env := List (Nat × Value)
def Env.get : Env → Nat → Option Value
 | [], _ => none
 | (k, v) :: e, n => match Nat.beq k n with
  | true => some v
  | false => Env.get e n
structure Agr (n : Nat) (e : Env) (a : Act) : Prop where
 size : a.tmps.size = n
 defers : a.defers = []
 get : ∀ k v, e.get k = some v → a.tmps[k]? = some v
def ev (e : Env) : Operand → Option Value
 | .tmp t => e.get t
 | .const v => some v
 | .global g => some (.pointer (some ⟨g, 0, none⟩))
 | .func f => some (.func (.func f) #[] #[])
def evs (e : Env) : List Operand → Option (List Value)
 | [] => some []
 | x :: xs => match ev e x, evs e xs with
  | some v, some vs => some (v :: vs)
  | _, _ => none
def Ag (e : Env) (ρ : Operand → Value) : Prop := ∀ x v, ev e x = some v → ρ x = v
theorem Agr.eval {n : Nat} {e : Env} {a : Act} (h : Agr n e a) : Ag e a.eval := by
 intro x v hx
 cases x with
 | tmp t => have := h.get t v hx; simp [Act.eval, this]
 | const u => simpa [ev, Act.eval] using hx
 | global g => simpa [ev, Act.eval] using hx
 | func f => simpa [ev, Act.eval] using hx
theorem Ag.all {e : Env} {ρ : Operand → Value} (h : Ag e ρ) : ∀ {xs : List Operand} {vs : List Value}, evs e xs = some vs → xs.map ρ = vs
 | [], vs, hx => by simp [evs] at hx; simp [hx]
 | x :: xs, vs, hx => by
  unfold evs at hx
  cases h1 : ev e x with
  | none => simp [h1] at hx
  | some v =>
   cases h2 : evs e xs with
   | none => simp [h1, h2] at hx
   | some us =>
    simp only [h1, h2, Option.some.injEq] at hx
    subst hx
    rw [List.map_cons, h x v h1, h.all h2]
theorem Agr.put {n : Nat} {e : Env} {a : Act} (h : Agr n e a) {d : Nat} (hd : d < n) (v : Value) : Agr n ((d, v) :: e) (a.put (some d) v) where
 size := by simp [Act.put, h.size]
 defers := by simpa [Act.put] using h.defers
 get := by
  intro k u hk
  unfold Env.get at hk
  simp only [Act.put]
  split at hk
  ·rename_i hb
   obtain rfl : d = k := Nat.eq_of_beq_eq_true hb
   simp only [Option.some.injEq] at hk
   subst hk
   have : d < a.tmps.size := by rw [h.size]; exact hd
   simp [this]
  ·rename_i hb
   have hne : d ≠ k := fun e => by subst e; simp at hb
   rw [Array.getElem?_setIfInBounds_ne hne]
   exact h.get k u hk
def Env.ins (e : Env) : Option Tmp → Value → Env
 | some d, v => (d, v) :: e
 | none, _ => e
def MZ (n : Nat) : Option Tmp → Bool
 | some d => Nat.blt d n
 | none => true
theorem Agr.ins {n : Nat} {e : Env} {a : Act} (h : Agr n e a) {d : Option Tmp} (hd : MZ n d = true) (v : Value) : Agr n (e.ins d v) (a.put d v) := by
 cases d with
 | none => exact h
 | some d => exact h.put (AZ hd) v
def Env.le : Env → Env → Prop
 | [], _ => True
 | (k, v) :: r, e => e.get k = some v ∧ Env.le r e
theorem Env.le_get {r e : Env} (h : r.le e) : ∀ k v, r.get k = some v → e.get k = some v := by
 induction r with
 | nil => intro k v hk; simp [Env.get] at hk
 | cons p r ih =>
  obtain ⟨k0, v0⟩ := p
  intro k v hk
  unfold Env.get at hk
  split at hk
  ·rename_i hb
   obtain rfl : k0 = k := Nat.eq_of_beq_eq_true hb
   simp only [Option.some.injEq] at hk
   subst hk
   exact h.1
  ·exact ih h.2 k v hk
theorem Agr.weak {n : Nat} {e r : Env} {a : Act} (h : Agr n e a) (hl : r.le e) : Agr n r a := ⟨h.size, h.defers, fun k v hk => h.get k v (Env.le_get hl k v hk)⟩
structure Sx (P : Program) (c : Code) (Q : Exit → Act → World → Prop) (n : Nat) (e : Env) (w : World) : Prop where
 run : ∀ a, Agr n e a → c.wp P Q a w
structure SxL (P : Program) (ops : Array Oper) (Q : Exit → Act → World → Prop) (n : Nat) (l : List Oper) (e : Env) (w : World) : Prop where
 run : ∀ a, Agr n e a → wpList P ops Q l a w
structure QX (Q : Exit → Act → World → Prop) (x : Exit) (n : Nat) (e : Env) (w : World) : Prop where
 run : ∀ a, Agr n e a → Q x a w
structure SxS (P : Program) (ops : Array Oper) (w : World) (q : Act → Prop) (n : Nat) (l : List Oper) (e : Env) : Prop where
 run : ∀ a, Agr n e a → wpStill P ops w q l a
section
variable {P : Program} {Q : Exit → Act → World → Prop} {n : Nat} {e : Env} {w : World}
theorem A4 {x y : Code} (h : Sx P x (Exit.then (y.wp P Q) Q) n e w) : Sx P (Code.seq x y) Q n e w := ⟨fun a ha => wp_seq (h.run a ha)⟩
theorem AV {id : Nat} {c : Code} (h : Sx P c (Exit.inBlock id Q) n e w) : Sx P (Code.block id c) Q n e w := ⟨fun a ha => wp_block (h.run a ha)⟩
theorem AL (h : QX Q .normal n e w) : Sx P Code.skip Q n e w := ⟨fun a ha => wp_skip (h.run a ha)⟩
theorem CD {id : Nat} (h : QX Q (.exit id) n e w) : Sx P (Code.exit id) Q n e w := ⟨fun a ha => wp_exit (h.run a ha)⟩
theorem AD (h : QX Q .ret n e w) : Sx P Code.ret Q n e w := ⟨fun a ha => wp_ret (h.run a ha)⟩
theorem DQ {c : Operand} {x y : Code} (hc : ev e c = some (.bool true)) (h : Sx P x Q n e w) : Sx P (Code.cond c x y) Q n e w := ⟨fun a ha => wp_cond_true (ha.eval _ _ hc) (h.run a ha)⟩
theorem DB {c : Operand} {x y : Code} (hc : ev e c = some (.bool false)) (h : Sx P y Q n e w) : Sx P (Code.cond c x y) Q n e w := ⟨fun a ha => wp_cond_false (ha.eval _ _ hc) (h.run a ha)⟩
theorem A0 {id : Nat} {l : List Oper} (h : SxL P l.toArray Q n l e w) : Sx P (Code.region id l.toArray false) Q n e w := ⟨fun a ha => wp_region_lit (h.run a ha)⟩
theorem GV {id : Nat} {l : List Oper} (hm : P.follows .mixedOrders = true) (hB : Region.lexB .any l.toArray = true)
 (h : SxS P l.toArray w.drew (fun a' => Q .normal a' w.drew) n l e) : Sx P (Code.region id l.toArray true) Q n e w := ⟨fun a ha => wp_region_still_lit hm hB (h.run a ha)⟩
theorem GP {id : Nat} {l : List Oper} (k : Nat) (hm : P.follows .mixedOrders = true) (hB : Region.lexTailB .any l.toArray k = true)
 (h : SxS P l.toArray w.drew (fun a' => wpList P l.toArray Q (l.drop k) a' w.drew) n (l.take k) e) : Sx P (Code.region id l.toArray true) Q n e w := ⟨fun a ha => wp_region_still_tail k hm hB (h.run a ha)⟩
theorem IP {ops : Array Oper} (h : QX Q .normal n e w) : SxS P ops w (fun a' => Q .normal a' w) n [] e := ⟨fun a ha => wpStill_nil (h.run a ha)⟩
theorem EJ {ops : Array Oper} {l : List Oper} (h : SxL P ops Q n l e w) : SxS P ops w (fun a' => wpList P ops Q l a' w) n [] e := ⟨fun a ha => wpStill_nil (h.run a ha)⟩
theorem A1 {ops : Array Oper} (h : QX Q .normal n e w) : SxL P ops Q n [] e w := ⟨fun a ha => wpList_nil (h.run a ha)⟩
theorem A2 {y : Code} {Q' : Exit → Act → World → Prop} (h : Sx P y Q n e w) : QX (Exit.then (y.wp P Q) Q') .normal n e w := ⟨fun a ha => h.run a ha⟩
theorem AI {K : Act → World → Prop} {id : Nat} (h : QX Q (.exit id) n e w) : QX (Exit.then K Q) (.exit id) n e w := ⟨fun a ha => h.run a ha⟩
theorem AA {K : Act → World → Prop} (h : QX Q .ret n e w) : QX (Exit.then K Q) .ret n e w := ⟨fun a ha => h.run a ha⟩
theorem AC {id : Nat} (h : QX Q .normal n e w) : QX (Exit.inBlock id Q) .normal n e w := ⟨fun a ha => h.run a ha⟩
theorem AJ {id : Nat} (h : QX Q .ret n e w) : QX (Exit.inBlock id Q) .ret n e w := ⟨fun a ha => h.run a ha⟩
theorem BB {id : Nat} (h : QX Q .normal n e w) : QX (Exit.inBlock id Q) (.exit id) n e w := .mk fun a ha => by simp only [Exit.inBlock, if_true]; exact h.run a ha
theorem IW {id id' : Nat} (hne : Nat.beq id' id = false) (h : QX Q (.exit id') n e w) : QX (Exit.inBlock id Q) (.exit id') n e w := .mk fun a ha => by
 have : id' ≠ id := fun he => by subst he; simp at hne
 simp only [Exit.inBlock, this, if_false]; exact h.run a ha
theorem gB {ops : Array Oper} {l : List Oper} {r : Env} (hl : r.le e) (h : SxL P ops Q n l r w) : SxL P ops Q n l e w := ⟨fun a ha => h.run a (ha.weak hl)⟩
def Wn (ops : Array Oper) (e : Env) (o : Oper) : Prop := ∀ n a, Agr n e a → Region.wanted o (yielded ops a.tmps) = true
theorem A9 {ops : Array Oper} {o : Oper} (h : o.guard = none) : Wn ops e o := fun _ a _ => by simp [Region.wanted, h]
theorem B7 {ops : Array Oper} {o : Oper} {j d : Nat} {b : Bool} (h : o.guard = some (j, b)) (hj : (ops[j]?).bind (·.dst) = some d) (hb : e.get d = some (.bool b)) : Wn ops e o := fun _ a ha => by
 simp [Region.wanted, h, yielded, hj, ha.get d _ hb]
theorem mO {ops : Array Oper} {o : Oper} {rest : List Oper} {j d d' : Nat} {b c : Bool} (h : o.guard = some (j, b)) (hj : (ops[j]?).bind (·.dst) = some d) (hb : e.get d = some (.bool c)) (hne : (c == b) = false) (hd : o.dst = some d') (hn : Nat.blt d' n = true)
 (k : SxL P ops Q n rest ((d', undef) :: e) w) : SxL P ops Q n (o :: rest) e w := .mk fun a ha => by
 have hw : Region.wanted o (yielded ops a.tmps) = false := by
  simp only [Region.wanted, h, yielded, hj, ha.get d _ hb, Option.bind_some]
  cases c <;> cases b <;> simp_all
 unfold wpList
 rw [if_neg (by simp [hw]), hd]
 exact k.run _ (ha.put (AZ hn) _)
theorem IO {ops : Array Oper} {q : Act → Prop} {o : Oper} {rest : List Oper} {j d d' : Nat} {b c : Bool} (h : o.guard = some (j, b)) (hj : (ops[j]?).bind (·.dst) = some d) (hb : e.get d = some (.bool c)) (hne : (c == b) = false) (hd : o.dst = some d') (hn : Nat.blt d' n = true)
 (k : SxS P ops w q n rest ((d', undef) :: e)) : SxS P ops w q n (o :: rest) e := .mk fun a ha => by
 have hw : Region.wanted o (yielded ops a.tmps) = false := by
  simp only [Region.wanted, h, yielded, hj, ha.get d _ hb, Option.bind_some]
  cases c <;> cases b <;> simp_all
 unfold wpStill
 rw [if_neg (by simp [hw]), hd]
 exact k.run _ (ha.put (AZ hn) _)
theorem BZ {ops : Array Oper} {o : Oper} {rest : List Oper} {j d d' : Nat} {b : Bool} (h : o.guard = some (j, b)) (hj : (ops[j]?).bind (·.dst) = some d) (hb : e.get d = some undef) (hd : o.dst = some d') (hn : Nat.blt d' n = true)
 (k : SxL P ops Q n rest ((d', undef) :: e) w) : SxL P ops Q n (o :: rest) e w := .mk fun a ha => by
 have hw : Region.wanted o (yielded ops a.tmps) = false := by
  simp [Region.wanted, h, yielded, hj, ha.get d _ hb, undef]
 unfold wpList
 rw [if_neg (by simp [hw]), hd]
 exact k.run _ (ha.put (AZ hn) _)
def Y (P : Program) (e : Env) (o : Oper) (w : World) (v : Value) : Prop := ∀ ρ, Ag e ρ → (execOp ρ o).run P w = .ok (.value v) w
theorem VI {ops : Array Oper} {o : Oper} {rest : List Oper} {d : Nat} {v : Value} (hw : Wn ops e o) (hd : o.dst = some d) (hn : Nat.blt d n = true) (hy : Y P e o w v)
 (k : SxL P ops Q n rest ((d, v) :: e) w) : SxL P ops Q n (o :: rest) e w := .mk fun a ha => by
 unfold wpList
 rw [if_pos (hw n a ha)]
 refine .inl ?_
 unfold Oper.wp
 rw [hy _ ha.eval, Oper.upon_value, hd]
 exact k.run _ (ha.put (AZ hn) _)
theorem ya {ops : Array Oper} {o : Oper} {rest : List Oper} {d : Nat} {v : Value} (h : (o.guard, o.dst, Nat.blt d n) = (none, some d, true)) (hy : Y P e o w v) (k : SxL P ops Q n rest ((d, v) :: e) w) : SxL P ops Q n (o :: rest) e w :=
 VI (A9 (Prod.mk.inj h).1) (Prod.mk.inj (Prod.mk.inj h).2).1 (Prod.mk.inj (Prod.mk.inj h).2).2 hy k
theorem yd {ops : Array Oper} {o : Oper} {rest : List Oper} {j d' d : Nat} {b : Bool} {v : Value} (h : (o.guard, (ops[j]?).bind (·.dst), e.get d', o.dst, Nat.blt d n) = (some (j, b), some d', some (.bool b), some d, true)) (hy : Y P e o w v) (k : SxL P ops Q n rest ((d, v) :: e) w) : SxL P ops Q n (o :: rest) e w := by
 simp only [Prod.mk.injEq] at h
 exact VI (B7 h.1 h.2.1 h.2.2.1) h.2.2.2.1 h.2.2.2.2 hy k
theorem yo {ops : Array Oper} {o : Oper} {rest : List Oper} {j d d' : Nat} {b c : Bool} (h : (o.guard, (ops[j]?).bind (·.dst), e.get d, (c == b), o.dst, Nat.blt d' n) = (some (j, b), some d, some (.bool c), false, some d', true)) (k : SxL P ops Q n rest ((d', undef) :: e) w) : SxL P ops Q n (o :: rest) e w :=
 mO (Prod.mk.inj h).1 (Prod.mk.inj (Prod.mk.inj h).2).1 (Prod.mk.inj (Prod.mk.inj (Prod.mk.inj h).2).2).1 (Prod.mk.inj (Prod.mk.inj (Prod.mk.inj (Prod.mk.inj h).2).2).2).1 (Prod.mk.inj (Prod.mk.inj (Prod.mk.inj (Prod.mk.inj (Prod.mk.inj h).2).2).2).2).1 (Prod.mk.inj (Prod.mk.inj (Prod.mk.inj (Prod.mk.inj (Prod.mk.inj h).2).2).2).2).2 k
theorem CN {ops : Array Oper} {q : Act → Prop} {o : Oper} {rest : List Oper} {d : Nat} {v : Value} (hw : Wn ops e o) (hd : o.dst = some d) (hn : Nat.blt d n = true) (hy : Y P e o w v)
 (k : SxS P ops w q n rest ((d, v) :: e)) : SxS P ops w q n (o :: rest) e := .mk fun a ha => by
 unfold wpStill
 rw [if_pos (hw n a ha)]
 unfold Oper.still
 rw [hy _ ha.eval, Oper.stillUpon_value, hd]
 exact k.run _ (ha.put (AZ hn) _)
theorem CI {ops : Array Oper} {o : Oper} {rest : List Oper} {R : Value → World → Prop} (d : Option Tmp) (hw : Wn ops e o) (hd : o.dst = d) (hn : MZ n d = true) (hy : ∀ ρ, Ag e ρ → G8 P ρ o w R)
 (k : ∀ v w', R v w' → SxL P ops Q n rest (e.ins d v) w') : SxL P ops Q n (o :: rest) e w := .mk fun a ha => by
 unfold wpList
 rw [if_pos (hw n a ha)]
 refine .inl ((hy _ ha.eval).wp fun v w' hR => ?_)
 rw [hd]
 exact (k v w' hR).run _ (ha.ins hn v)
def YC (P : Program) (e : Env) (o : Oper) (w : World) (f : FuncId) (args : Array Value) : Prop := ∀ ρ, Ag e ρ → (execOp ρ o).run P w = .ok (.enter f args) w
theorem CC {ops : Array Oper} {o : Oper} {rest : List Oper} {f : FuncId} {args : Array Value} {R : Ending → World → Prop} (d : Option Tmp) (hw : Wn ops e o) (hd : o.dst = d) (hn : MZ n d = true) (hy : YC P e o w f args) (hc : Calls P f args w R)
 (k : ∀ x w', R x w' → ∃ v, x = .returned v ∧ SxL P ops Q n rest (e.ins d v) w') : SxL P ops Q n (o :: rest) e w := .mk fun a ha => by
 unfold wpList
 rw [if_pos (hw n a ha)]
 refine .inl ?_
 unfold Oper.wp
 rw [hy _ ha.eval, Oper.upon_enter]
 refine hc.mono fun x w' hR => ?_
 obtain ⟨v, rfl, h⟩ := k x w' hR
 simp only [hd]
 exact h.run _ (ha.ins hn v)
def RY : Nat → List Value → Env
 | _, [] => []
 | i, v :: vs => (i, v) :: RY (i + 1) vs
theorem RX : ∀ (vs : List Value) (i k : Nat) (v : Value), (RY i vs).get k = some v → i ≤ k ∧ vs[k - i]? = some v
 | [], _, _, _, h => by simp [RY, Env.get] at h
 | u :: vs, i, k, v, h => by
  unfold RY Env.get at h
  split at h
  ·rename_i hb
   obtain rfl : i = k := Nat.eq_of_beq_eq_true hb
   simp only [Option.some.injEq] at h
   subst h
   simp
  ·obtain ⟨h1, h2⟩ := RX vs (i + 1) k v h
   refine ⟨by omega, ?_⟩
   rw [show k - i = (k - (i + 1)) + 1 by omega, List.getElem?_cons_succ]
   exact h2
theorem AK {f : FuncId} {fn : Func} {c : Code} {vs : List Value} {R : Ending → World → Prop} (hf : P.funcs[f]? = some fn) (hb : fn.body = some c) (hn : fn.ntmps = n) (hl : Nat.ble vs.length n = true)
 (h : Sx P c (bodyPost P fn R) n (RY 0 vs) w) : Calls P f vs.toArray w R := by
 refine calls_of_wp hf hb (h.run _ ⟨?_, rfl, ?_⟩)
 ·have : vs.length ≤ n := Nat.le_of_ble_eq_true hl
  simp [hn]; omega
 ·intro k v hk
  obtain ⟨_, h2⟩ := RX vs 0 k v hk
  rw [Nat.sub_zero] at h2
  have hlt : k < vs.length := (List.getElem?_eq_some_iff.1 h2).1
  rw [Array.getElem?_append_left (by simpa using hlt)]
  simpa using h2
theorem DC {fn : Func} {R : Ending → World → Prop} {x : Exit} (hx : x = .ret ∨ x = .normal) (hr : fn.results = #[]) (h : R (.returned (.tuple #[])) w) : QX (bodyPost P fn R) x n e w := .mk fun a ha => by
 have : (results fn a.tmps).run P w = .ok (.tuple #[]) w := by simp [results, hr]
 rcases hx with rfl | rfl <;> exact ⟨ha.defers, _, this, h⟩
theorem AH {fn : Func} {R : Ending → World → Prop} {t : Nat} {v : Value} (hr : fn.results = #[.tmp t]) (hv : e.get t = some v) (h : R (.returned v) w) : QX (bodyPost P fn R) .ret n e w := .mk fun a ha => by
 have : (results fn a.tmps).run P w = .ok v w := by simp [results, hr, ha.get t v hv]
 exact ⟨ha.defers, _, this, h⟩
theorem BY {fn : Func} {R : Ending → World → Prop} {t u : Nat} {v v' : Value} (hr : fn.results = #[.tmp t, .tmp u]) (hv : e.get t = some v) (hv' : e.get u = some v') (h : R (.returned (.tuple #[v, v'])) w) : QX (bodyPost P fn R) .ret n e w := .mk fun a ha => by
 have : (results fn a.tmps).run P w = .ok (.tuple #[v, v']) w := by simp [results, hr, ha.get t v hv, ha.get u v' hv']
 exact ⟨ha.defers, _, this, h⟩
theorem ZT {fn : Func} {R : Ending → World → Prop} {t u s : Nat} {v v' v'' : Value} (hr : fn.results = #[.tmp t, .tmp u, .tmp s]) (hv : e.get t = some v) (hv' : e.get u = some v') (hv'' : e.get s = some v'') (h : R (.returned (.tuple #[v, v', v''])) w) : QX (bodyPost P fn R) .ret n e w := .mk fun a ha => by
 have : (results fn a.tmps).run P w = .ok (.tuple #[v, v', v'']) w := by simp [results, hr, ha.get t v hv, ha.get u v' hv', ha.get s v'' hv'']
 exact ⟨ha.defers, _, this, h⟩
theorem t7 (p : Nat → Prop) (h : ∃ m, p m) : ∃ m, p m ∧ ∀ k, p k → m ≤ k := by
 obtain ⟨m, hm⟩ := h
 induction m using Nat.strongRecOn with
 | _ m ih =>
  by_cases hs : ∃ k, k < m ∧ p k
  ·obtain ⟨k, hk, hp⟩ := hs; exact ih k hk hp
  ·exact ⟨m, hm, fun k hp => Nat.le_of_not_lt fun hlt => hs ⟨k, hlt, hp⟩⟩
def pO (I : Env → World → Nat → Prop) (n m : Nat) (a : Act) (w : World) : Prop := ∃ e m', I e w m' ∧ m' < m ∧ Agr n e a
theorem CM {c : Code} (I : Env → World → Nat → Prop) {m0 : Nat} {e0 : Env} (h0 : I e0 w m0) (hl : e0.le e)
 (round : ∀ e w m, I e w m → Sx P c (Exit.then (pO I n m) Q) n e w) : Sx P (Code.loop c) Q n e w := by
 refine ⟨fun a ha => ?_⟩
 have hp : ∀ a w, (∃ e m, I e w m ∧ Agr n e a) → ∃ m, (∃ e, I e w m ∧ Agr n e a) ∧ ∀ k, (∃ e, I e w k ∧ Agr n e a) → m ≤ k :=
  fun a w ⟨e, m, h⟩ => t7 _ ⟨m, e, h⟩
 classical
 let μ : Act → World → Nat := fun a w => if h : ∃ e m, I e w m ∧ Agr n e a then (hp a w h).choose else 0
 have hμ : ∀ a w e m, I e w m → Agr n e a → μ a w ≤ m ∧ ∃ e', I e' w (μ a w) ∧ Agr n e' a := by
  intro a w e m hI hA
  have hex : ∃ e m, I e w m ∧ Agr n e a := ⟨e, m, hI, hA⟩
  have hs := (hp a w hex).choose_spec
  have : μ a w = (hp a w hex).choose := dif_pos hex
  rw [this]
  exact ⟨hs.2 m ⟨e, hI, hA⟩, hs.1⟩
 refine wp_loop (fun a w => ∃ e m, I e w m ∧ Agr n e a) μ ⟨e0, m0, h0, ha.weak hl⟩ ?_
 rintro a w ⟨e, m, hI, hA⟩
 obtain ⟨hle, e', hI', hA'⟩ := hμ a w e m hI hA
 refine wp_mono ((round e' w (μ a w) hI').run a hA') fun x a' w' hx => ?_
 cases x with
 | normal =>
  obtain ⟨e'', m'', h1, h2, h3⟩ := hx
  exact ⟨⟨e'', m'', h1, h3⟩, Nat.lt_of_le_of_lt (hμ a' w' e'' m'' h1 h3).1 h2⟩
 | exit id => exact hx
 | goto l => exact hx
 | ret => exact hx
 | panic ch => exact hx
 | outgrown => exact hx
theorem BM {I : Env → World → Nat → Prop} {m : Nat} (r : Env) (m' : Nat) (hI : I r w m') (hm : m' < m) (hl : r.le e) : QX (Exit.then (pO I n m) Q) .normal n e w := ⟨fun _ ha => ⟨r, m', hI, hm, ha.weak hl⟩⟩
end
end
section
structure Cell (h : Array Obj) (g off : Nat) (v : Value) : Prop where
 get : ∀ w : World, w.heap = h → w.cell? ⟨g, off, none⟩ = some v
theorem Cell.of {w : World} {g off : Nat} {v : Value} (h : w.cell? ⟨g, off, none⟩ = some v) : Cell w.heap g off v :=
 ⟨fun w' hw => by rw [← h]; exact World.cell?_of_block (w := w) (by rw [hw])⟩
theorem Blk.c {w : World} {g : Nat} {t : TypeId} {cs : List Value} (h : Blk w g t cs) (off : Nat) {v : Value} (hv : cs[off]? = some v) : Cell w.heap g off v := Cell.of ((h.cell off).trans hv)
theorem Cell.fr {S : Nat → Prop} {w w' : World} {g off : Nat} {v : Value} (h : Cell w.heap g off v) (hf : Fr S w w') (hn : ¬ S g) : Cell w'.heap g off v :=
 have hc := h.get w rfl
 Cell.of ((hf.cell (p := ⟨g, off, none⟩) (World.block_lt_of_cell? w _ hc) hn).trans hc)
def FA (P : Program) (s f : Nat) : Option Nat := match P.underlying s with
 | some (.struct fs) => match fs[f]? with
  | some fd => match P.info? fd.type with
   | some i => if i.size = 0 then none else some fd.offset
   | none => none
  | none => none
 | _ => none
def MF (P : Program) (t : Nat) : Bool := match P.underlying t with
 | some (.struct _) | some (.array _ _) | none => false
 | some _ => true
def BT (P : Program) (t : Nat) : Option (Nat × Nat) := match P.underlying t with
 | some (.slice e) => match P.info? e with
  | some i => some (e, i.size)
  | none => none
 | _ => none
def EI (P : Program) (t : Nat) : Option (Nat × Nat × Nat) := match P.underlying t with
 | some (.array n e) => match P.info? e with
  | some i => some (n, e, i.size)
  | none => none
 | _ => none
def HR (P : Program) (t : Nat) : Option Nat := match P.underlying t with
 | some (.pointer el) => some el
 | _ => none
theorem I6 {P : Program} {t el : Nat} (h : HR P t = some el) : P.underlying t = some (.pointer el) := by
 unfold HR at h
 split at h
 ·rename_i hu; simp only [Option.some.injEq] at h; subst h; exact hu
 ·cases h
section
variable {P : Program} {e : Env} {w : World} {o : Oper}
theorem pS {x : Operand} {v : Value} (ho : o.op = .move x) (hx : ev e x = some v) : Y P e o w v := fun ρ h => by
 unfold execOp; simp only [ho]; rw [h _ _ hx]; rfl
theorem fD {x : Operand} {v : Value} (ho : o.op = .assign x) (hx : ev e x = some v) : Y P e o w v := fun ρ h => by
 unfold execOp; simp only [ho]; rw [h _ _ hx]; rfl
theorem fA {c x y : Operand} {v : Value} (ho : o.op = .pick c x y) (hc : ev e c = some (.bool true)) (hx : ev e x = some v) : Y P e o w v := fun ρ h => by
 unfold execOp; simp [ho, h _ _ hc, h _ _ hx, asBool]
theorem fB {c x y : Operand} {v : Value} (ho : o.op = .pick c x y) (hc : ev e c = some (.bool false)) (hx : ev e y = some v) : Y P e o w v := fun ρ h => by
 unfold execOp; simp [ho, h _ _ hc, h _ _ hx, asBool]
theorem sO {x : Operand} {p : Addr} (ho : o.op = .nilCheck x) (hx : ev e x = some (.pointer (some p))) : Y P e o w (.pointer (some p)) := fun ρ h => by
 unfold execOp; simp only [ho, h _ _ hx]; rfl
theorem lV {s f k g off : Nat} {x : Operand} (ho : o.op = .fieldAddr s x f) (hx : ev e x = some (.pointer (some ⟨g, off, none⟩))) (hf : FA P s f = some k) : Y P e o w (.pointer (some ⟨g, off + k, none⟩)) := fun ρ h => by
 unfold FA at hf
 split at hf
 ·rename_i fs hu
  split at hf
  ·rename_i fd hfd
   split at hf
   ·rename_i i hi
    split at hf
    ·cases hf
    ·rename_i hz
     simp only [Option.some.injEq] at hf
     subst hf
     unfold execOp
     simp [ho, h _ _ hx, Instr.fieldAt, run_underlying hu, hfd, Instr.sureAddr, fieldPlace, sizeOf, typeInfo, hi, hz, Addr.add_mid]
   ·cases hf
  ·cases hf
 ·cases hf
theorem CO {t g off : Nat} {x : Operand} {v : Value} (ho : o.op = .load t x) (hx : ev e x = some (.pointer (some ⟨g, off, none⟩))) (ht : MF P t = true) (hc : Cell w.heap g off v) : Y P e o w v := fun ρ h => by
 have hcell := hc.get w rfl
 unfold MF at ht
 have ha : (isAgg t).run P w = .ok false w := by
  cases hu : P.underlying t with
  | none => simp [hu] at ht
  | some d =>
   unfold isAgg; rw [Sem.run_bind, run_underlying hu w]
   cases d <;> simp_all
 unfold execOp
 simp only [ho, h _ _ hx, Instr.loadAt, Instr.sureAddr, Sem.run_bind, Sem.run_pure, Result.andThen_ok, loadVar, ha, Bool.false_eq_true, if_false]
 simp [hcell]
theorem ZC {t t' : Nat} {k : IntKind} {a b : Int} {x y : Operand} (ho : o.op = .binOp .lss t x y t') (hx : ev e x = some (.int k a)) (hy : ev e y = some (.int k b)) (hc : a < b) : Y P e o w (.bool true) := fun ρ h => by
 unfold execOp; simp [ho, h _ _ hx, h _ _ hy, eqGuard_at_int, binOp_lss]; omega
theorem ZD {t t' : Nat} {k : IntKind} {a b : Int} {x y : Operand} (ho : o.op = .binOp .lss t x y t') (hx : ev e x = some (.int k a)) (hy : ev e y = some (.int k b)) (hc : ¬ (a < b)) : Y P e o w (.bool false) := fun ρ h => by
 unfold execOp; simp [ho, h _ _ hx, h _ _ hy, eqGuard_at_int, binOp_lss]; omega
theorem lQ {t t' : Nat} {k : IntKind} {a b : Int} {x y : Operand} (ho : o.op = .binOp .leq t x y t') (hx : ev e x = some (.int k a)) (hy : ev e y = some (.int k b)) (hc : a ≤ b) : Y P e o w (.bool true) := fun ρ h => by
 unfold execOp; simp [ho, h _ _ hx, h _ _ hy, eqGuard_at_int, binOp_leq]; omega
theorem lR {t t' : Nat} {k : IntKind} {a b : Int} {x y : Operand} (ho : o.op = .binOp .leq t x y t') (hx : ev e x = some (.int k a)) (hy : ev e y = some (.int k b)) (hc : ¬ (a ≤ b)) : Y P e o w (.bool false) := fun ρ h => by
 unfold execOp; simp [ho, h _ _ hx, h _ _ hy, eqGuard_at_int, binOp_leq]; omega
theorem lT {t t' : Nat} {k : IntKind} {a b : Int} {x y : Operand} (ho : o.op = .binOp .gtr t x y t') (hx : ev e x = some (.int k a)) (hy : ev e y = some (.int k b)) (hc : b < a) : Y P e o w (.bool true) := fun ρ h => by
 unfold execOp; simp [ho, h _ _ hx, h _ _ hy, eqGuard_at_int, binOp_gtr]; omega
theorem lU {t t' : Nat} {k : IntKind} {a b : Int} {x y : Operand} (ho : o.op = .binOp .gtr t x y t') (hx : ev e x = some (.int k a)) (hy : ev e y = some (.int k b)) (hc : ¬ (b < a)) : Y P e o w (.bool false) := fun ρ h => by
 unfold execOp; simp [ho, h _ _ hx, h _ _ hy, eqGuard_at_int, binOp_gtr]; omega
theorem KH {t t' : Nat} {k : IntKind} {a b : Int} {x y : Operand} (ho : o.op = .binOp .eql t x y t') (hx : ev e x = some (.int k a)) (hy : ev e y = some (.int k b)) (hc : a = b) : Y P e o w (.bool true) := fun ρ h => by
 unfold execOp; simp [ho, h _ _ hx, h _ _ hy, eqGuard_at_int, binOp_eql]; omega
theorem GO {t t' : Nat} {k : IntKind} {a b : Int} {x y : Operand} (ho : o.op = .binOp .eql t x y t') (hx : ev e x = some (.int k a)) (hy : ev e y = some (.int k b)) (hc : ¬ (a = b)) : Y P e o w (.bool false) := fun ρ h => by
 unfold execOp; simp [ho, h _ _ hx, h _ _ hy, eqGuard_at_int, binOp_eql]; omega
theorem CQ {t t' : Nat} {a b : Int} {x y : Operand} (ho : o.op = .binOp .add t x y t') (hx : ev e x = some (.int .i64 a)) (hy : ev e y = some (.int .i64 b)) (hc : -9223372036854775808 ≤ a + b ∧ a + b ≤ 9223372036854775807) : Y P e o w (.int .i64 (a + b)) := fun ρ h => by
 unfold execOp; simp [ho, h _ _ hx, h _ _ hy, eqGuard_at_int, binOp_add, Op.intArith, IntWalk.i64_in _ hc]
theorem sL {t t' : Nat} {a b : Int} {x y : Operand} (ho : o.op = .binOp .sub t x y t') (hx : ev e x = some (.int .i64 a)) (hy : ev e y = some (.int .i64 b)) (hc : -9223372036854775808 ≤ a - b ∧ a - b ≤ 9223372036854775807) : Y P e o w (.int .i64 (a - b)) := fun ρ h => by
 unfold execOp; simp [ho, h _ _ hx, h _ _ hy, eqGuard_at_int, binOp_sub, Op.intArith, IntWalk.i64_in _ hc]
theorem sM {t : Nat} {b : Bool} {x : Operand} (ho : o.op = .unOp .not t x) (hx : ev e x = some (.bool b)) : Y P e o w (.bool (!b)) := fun ρ h => by
 unfold execOp; simp [ho, h _ _ hx, Op.unary]
theorem CT {f : Fn} {xs ys : List Operand} {us vs : List Value} (ho : o.op = .makeFunc f xs.toArray ys.toArray) (hx : evs e xs = some us) (hy : evs e ys = some vs) : Y P e o w (.func f us.toArray vs.toArray) := fun ρ h => by
 unfold execOp; simp [ho, Instr.makeFunc, h.all hx, h.all hy]
theorem bT {x : Operand} {ix : Nat} {vs : Array Value} {v : Value} (ho : o.op = .extract x ix) (hx : ev e x = some (.tuple vs)) (hv : vs[ix]? = some v) : Y P e o w v := fun ρ h => by
 unfold execOp; simp [ho, h _ _ hx, Instr.extract, hv]
theorem lS {t g off len cap sz el : Nat} {m : Int} {k : IntKind} {x i : Operand} (ho : o.op = .indexAddr t x i) (hx : ev e x = some (.slice (some ⟨g, off, none⟩) len cap)) (hi : ev e i = some (.int k m)) (ht : BT P t = some (el, sz)) (h0 : 0 ≤ m ∧ m < len) :
 Y P e o w (.pointer (some ⟨g, off + m.toNat * sz, none⟩)) := fun ρ h => by
 unfold BT at ht
 split at ht
 ·rename_i el' hu
  split at ht
  ·rename_i i' hi'
   simp only [Option.some.injEq, Prod.mk.injEq] at ht
   obtain ⟨rfl, rfl⟩ := ht
   unfold execOp
   simp [ho, h _ _ hx, h _ _ hi, Instr.indexAt, asIntOf, run_underlying hu, h0.1, h0.2, sizeOf, typeInfo, hi', Addr.add_mid]
  ·cases ht
 ·cases ht
theorem V8 {t g off len cap sz el j : Nat} {k : IntKind} {x i : Operand} (ho : o.op = .indexAddr t x i) (hx : ev e x = some (.slice (some ⟨g, off, none⟩) len cap)) (hi : ev e i = some (.int k (j : Int))) (ht : BT P t = some (el, sz)) (h0 : j < len) :
 Y P e o w (.pointer (some ⟨g, off + j * sz, none⟩)) := lS ho hx hi ht ⟨by omega, by omega⟩
theorem GT {t g off len sz el : Nat} {m : Int} {k : IntKind} {x i : Operand} (ho : o.op = .indexAddr t x i) (hx : ev e x = some (.pointer (some ⟨g, off, none⟩))) (hi : ev e i = some (.int k m)) (ht : EI P t = some (len, el, sz)) (h0 : 0 ≤ m ∧ m < len) :
 Y P e o w (.pointer (some ⟨g, off + m.toNat * sz, none⟩)) := fun ρ h => by
 unfold EI at ht
 split at ht
 ·rename_i el' n' hu
  split at ht
  ·rename_i i' hi'
   simp only [Option.some.injEq, Prod.mk.injEq] at ht
   obtain ⟨rfl, rfl, rfl⟩ := ht
   unfold execOp
   simp [ho, h _ _ hx, h _ _ hi, Instr.indexAt, asIntOf, run_underlying hu, Instr.sureAddr, h0.1, h0.2, sizeOf, typeInfo, hi', Addr.add_mid]
  ·cases ht
 ·cases ht
theorem CY {t n c el sz : Nat} {x : Operand} {A : Option Addr} (ho : o.op = .call { callee := .builtin .len, args := #[x], argTypes := #[t] }) (hx : ev e x = some (.slice A n c)) (ht : BT P t = some (el, sz)) : Y P e o w (.int .i64 (n : Int)) := fun ρ h => by
 unfold BT at ht
 split at ht
 ·rename_i el' hu
  unfold execOp
  simp [ho, h _ _ hx, resolve, invoke, builtin, Builtin.len_, run_underlying hu, goInt]
 ·cases ht
def ND (F : Nat → Nat → Option Nat) (e : Env) : Op → Option Value
 | .move x => ev e x
 | .assign x => ev e x
 | .pick c x y => match ev e c with
  | some (.bool true) => ev e x
  | some (.bool false) => ev e y
  | _ => none
 | .nilCheck x => match ev e x with
  | some (.pointer (some p)) => some (.pointer (some p))
  | _ => none
 | .fieldAddr s x f => match ev e x, F s f with
  | some (.pointer (some ⟨g, off, none⟩)), some k => some (.pointer (some ⟨g, off + k, none⟩))
  | _, _ => none
 | .extract x i => match ev e x with
  | some (.tuple vs) => vs[i]?
  | _ => none
 | .unOp u _ x => match u, ev e x with
  | .not, some (.bool b) => some (.bool (!b))
  | _, _ => none
 | _ => none
theorem pR {F : Nat → Nat → Option Nat} {v : Value} (hF : ∀ s f k, F s f = some k → FA P s f = some k) (h : ND F e o.op = some v) : Y P e o w v := by
 cases ho : o.op <;> rw [ho] at h <;> simp only [ND] at h
 all_goals first
  | exact pS ho h
  | exact fD ho h
  | cases h
  | skip
 ·split at h
  ·rename_i hc; exact fA ho hc h
  ·rename_i hc; exact fB ho hc h
  ·cases h
 ·split at h
  ·rename_i hc; simp only [Option.some.injEq] at h; subst h; exact sO ho hc
  ·cases h
 ·split at h
  ·rename_i hc; simp only [Option.some.injEq] at h; subst h; exact sM ho hc
  ·cases h
 ·split at h
  ·rename_i hc hf; simp only [Option.some.injEq] at h; subst h; exact lV ho hc (hF _ _ _ hf)
  ·cases h
 ·split at h
  ·rename_i hc; exact bT ho hc h
  ·cases h
theorem AF {f : FuncId} {xs : List Operand} {vs : List Value} {ts : Array TypeId} (ho : o.op = .call { callee := .value (.func f), args := xs.toArray, argTypes := ts }) (hx : evs e xs = some vs) (hc : ∀ (us : Array Value) (w : World), (callFunc f us).run P w = .ok (.enter f us) w) : YC P e o w f vs.toArray := fun ρ h => by
 have := h.all hx
 unfold execOp
 simp [ho, resolve, h (.func f) _ rfl, Deferred.ofValue, invoke, hc, this]
theorem C0 {f : FuncId} {x : Operand} {cs : List Value} {xs : List Operand} {vs : List Value} {ts : Array TypeId} (ho : o.op = .call { callee := .value x, args := xs.toArray, argTypes := ts }) (hf : ev e x = some (.func (.func f) #[] cs.toArray)) (hx : evs e xs = some vs) (hc : ∀ (us : Array Value) (w : World), (callFunc f us).run P w = .ok (.enter f us) w) : YC P e o w f (vs ++ cs).toArray := fun ρ h => by
 have := h.all hx
 unfold execOp
 simp [ho, resolve, h _ _ hf, Deferred.ofValue, invoke, hc, this]
theorem bV {s d : Nat} {k k' : IntKind} {m : Int} {x : Operand} {ds : TypeDesc} (ho : o.op = .convert s d x) (hx : ev e x = some (.int k m)) (hs : P.underlying s = some ds) (hd : P.underlying d = some (.int k')) {r : Int} (hr : k'.wrap m = r) : Y P e o w (.int k' r) := fun ρ h => by
 subst hr
 unfold execOp
 simp [ho, h _ _ hx, convert, run_underlying hs, run_underlying hd, Conv.intToInt]
theorem IT {t el : Nat} (hu : P.underlying t = some (.pointer el)) (a : Option Addr) : (Op.equal t (.pointer a) (.pointer none)).run P w = .ok a.isNone w := by
 unfold Op.equal Op.maxDepth Op.equalIn
 cases a <;> simp [run_underlying hu]
theorem LZ {t t' el : Nat} {a : Option Addr} {x y : Operand} (ho : o.op = .binOp .eql t x y t') (hx : ev e x = some (.pointer a)) (hy : ev e y = some (.pointer none)) (hu : HR P t = some el) : Y P e o w (.bool a.isNone) := fun ρ h => by
 unfold execOp; simp [ho, h _ _ hx, h _ _ hy, eqGuard_at_pointer, binOp, IT (I6 hu)]
theorem Q8 {t : Nat} (hu : P.underlying t = some .bool) (a b : Bool) : (Op.equal t (.bool a) (.bool b)).run P w = .ok (a == b) w := by
 unfold Op.equal Op.maxDepth Op.equalIn
 simp [run_underlying hu]
theorem bU {t t' : Nat} {a b : Bool} {x y : Operand} (ho : o.op = .binOp .eql t x y t') (hx : ev e x = some (.bool a)) (hy : ev e y = some (.bool b)) (hu : P.underlying t = some .bool) : Y P e o w (.bool (a == b)) := fun ρ h => by
 unfold execOp; simp [ho, h _ _ hx, h _ _ hy, eqGuard_at_bool, binOp, Q8 hu]
end
end
end
end Go.Proofs.YtadgfojhjnkliaaGreatDoor
