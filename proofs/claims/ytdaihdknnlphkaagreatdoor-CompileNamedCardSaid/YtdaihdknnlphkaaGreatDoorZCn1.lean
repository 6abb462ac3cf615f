/- Lemmas that the last text rests on. Condition: each says its own. -/
import Derived.Test.YtdaihdknnlphkaaGreatDoorZNetP
import Derived.Test.YtdaihdknnlphkaaGreatDoorZMapU
import Derived.Test.YtdaihdknnlphkaaGreatDoorZShelf2
import Derived.Sort.OwnSortedInts
set_option maxHeartbeats 16000000
set_option maxRecDepth 100000
namespace Go.Proofs.YtdaihdknnlphkaaGreatDoor
open Go.RowKit Go.Sort
open Tryz
theorem V1 (zs : List Int) : AS LL zs = zs.map (Value.int .i64) := by
 induction zs with
 | nil => rfl
 | cons z r ih => rw [List.map_cons, ← ih]; rfl
def RJ (zs : List Int) : List Int := zs.mergeSort fun x y => decide (x ≤ y)
theorem gK (zs : List Int) : (RJ zs).length = zs.length := List.length_mergeSort zs
theorem qT {A : Option Addr} {c n base : Nat} {zs : List Int} (w : World) (hn : zs.length = n) (hown : w.ownsRow base 3 1 (.slice A n c) n (AS LL zs)) (hl : n < 4611686018427387904) :
 Calls prog 94 #[.slice A n c] w fun e w' => e = .returned (.tuple #[]) ∧ w'.ownsRow base 3 1 (.slice A n c) n (AS LL (RJ zs)) ∧ Fr (fun k => k ∈ (Value.slice A n c).ownBlock.toList) w w' := by
 subst hn
 rcases hown.2 with ⟨hv, h0⟩ | ⟨g, cap, cur, hv, hb, hg, hc, hm, hs, ht⟩
 ·have hz : zs = [] := List.length_eq_zero_iff.1 h0
  subst hz
  refine (Tryz.slices_Sort_int_none A c w).mono ?_
  rintro e w' ⟨rfl, rfl⟩
  exact ⟨rfl, by rw [show RJ [] = [] by simp [RJ]]; exact hown, Fr.refl⟩
 ·injection hv with hA _ hc'
  subst hA; subst hc'
  have ht' : cur.toList.take zs.length = zs.map (Value.int .i64) := by rw [← V1]; simpa using ht
  refine (Tryz.slices_Sort_int g 0 c zs w (Go.holds_of_blockI hg ht') (Array.getElem?_eq_some_iff.1 hg).1 hl).mono ?_
  rintro e w' ⟨rfl, n, os, rfl⟩
  have h2 := Go.grownBy_sortedI (w := w) (g := g) (n := n) (os := os) (RJ zs).toArray
  refine ⟨rfl, ?_, h2.os, h2.tape, h2.output, h2.size, fun k hk hn => h2.block k hk ?_⟩
  ·rw [V1]
   exact Go.ownsRow_sortedI (gK zs) hb hg hc hm hs
  ·intro e
   exact hn (by simp [Value.ownBlock, ← e])
structure TrR where
 lb : List UInt8
 A : Option Addr
 n : Nat
 c : Nat
 B : Option Addr
 m : Nat
 d : Nat
def TrR.cells (r : TrR) : List Value := [str r.lb, .slice r.A r.n r.c, .slice r.B r.m r.d]
theorem TrR.len (r : TrR) : r.cells.length = 3 := rfl
structure TrOk (w : World) (F : List Nat) (t : Tr1) (r : TrR) : Prop where
 lb : r.lb = t.label
 n : r.n = t.ins.length
 m : r.m = t.outs.length
 ins : Rd w r.A (t.ins.length * 1) (AS LL t.ins)
 outs : Rd w r.B (t.outs.length * 1) (AS LL t.outs)
 fA : ∀ b off p, r.A = some ⟨b, off, p⟩ → b ∈ F
 fB : ∀ b off p, r.B = some ⟨b, off, p⟩ → b ∈ F
theorem TrOk.keep {w w' : World} {F F' : List Nat} {t : Tr1} {r : TrR} (h : TrOk w F t r) (hk : ∀ g ∈ F, g < w.heap.size → w'.heap[g]? = w.heap[g]?) (hF : ∀ g ∈ F, g ∈ F') : TrOk w' F' t r :=
 ⟨h.lb, h.n, h.m, J8 h.ins hk h.fA, J8 h.outs hk h.fB, fun b off p e => hF b (h.fA b off p e), fun b off p e => hF b (h.fB b off p e)⟩
def TrsOk (w : World) (F : List Nat) (ts : List Tr1) (rs : List TrR) : Prop := ts.length = rs.length ∧ ∀ (i : Nat) (t : Tr1) (r : TrR), ts[i]? = some t → rs[i]? = some r → TrOk w F t r
theorem TrsOk.keep {w w' : World} {F F' : List Nat} {ts : List Tr1} {rs : List TrR} (h : TrsOk w F ts rs) (hk : ∀ g ∈ F, g < w.heap.size → w'.heap[g]? = w.heap[g]?) (hF : ∀ g ∈ F, g ∈ F') : TrsOk w' F' ts rs :=
 ⟨h.1, fun i t r ht hr => (h.2 i t r ht hr).keep hk hF⟩
theorem TrsOk.snoc {w : World} {F : List Nat} {ts : List Tr1} {rs : List TrR} {t : Tr1} {r : TrR} (h : TrsOk w F ts rs) (h1 : TrOk w F t r) : TrsOk w F (ts ++ [t]) (rs ++ [r]) := by
 refine ⟨by rw [List.length_append, List.length_append, h.1]; rfl, fun i u v hu hv => ?_⟩
 by_cases hi : i < ts.length
 ·rw [List.getElem?_append_left hi] at hu
  rw [List.getElem?_append_left (h.1 ▸ hi)] at hv
  exact h.2 i u v hu hv
 ·have h0 : i = ts.length := by
   have := (List.getElem?_eq_some_iff.1 hu).1
   rw [List.length_append] at this
   simp only [List.length_cons, List.length_nil] at this
   omega
  subst h0
  rw [List.getElem?_append_right (Nat.le_refl _), Nat.sub_self] at hu
  rw [h.1, List.getElem?_append_right (Nat.le_refl _), Nat.sub_self] at hv
  simp only [List.getElem?_cons_zero, Option.some.injEq] at hu hv
  rw [← hu, ← hv]; exact h1
def As.pair (a b : As) : As := ⟨a.fp ++ b.fp, fun w => a.ok w ∧ b.ok w, fun h hb => ⟨a.keep (fun g hg => h g (List.mem_append_left _ hg)) hb.1, b.keep (fun g hg => h g (List.mem_append_right _ hg)) hb.2⟩⟩
def As.trs (F : List Nat) (ts : List Tr1) (rs : List TrR) : As := ⟨F, fun w => TrsOk w F ts rs, fun h hb => hb.keep h fun _ hg => hg⟩
structure MkA where
 a : MdA
 fin : Int
 gP : Nat
 L : List (List UInt8 × Value)
 A : Option Addr
 c : Nat
 B : Option Addr
 d : Nat
 rs : List TrR
 FT : List Nat
def MkA.cells (m : Md) (x : MkA) (pl : List (List UInt8)) : List Value := [str m.id, str m.nm, .slice x.a.V m.vars.length x.a.vc, .slice x.a.E m.els.length x.a.ec, .slice x.a.F m.fls.length x.a.fc, .slice x.A pl.length x.c, .slice x.B x.rs.length x.d, .int .i64 0, .int .i64 x.fin, .map (some x.gP)]
abbrev MkA.parts (m : Md) (gx : Nat) (x : MkA) (pl : List (List UInt8)) (ts : List Tr1) : List As := [As.blk gx 55 (x.cells m pl), As.mp x.gP x.L, As.own 0 9 1 (.slice x.A pl.length x.c) pl.length (AS D7 pl), As.own 0 45 3 (.slice x.B x.rs.length x.d) x.rs.length (AS TrR.cells x.rs), As.trs x.FT ts x.rs]
structure MkN (w : World) (m : Md) (a : MdA) (gx : Nat) (fin : Int) (pl : List (List UInt8)) (ts : List Tr1) (F : List Nat) : Prop where
 hgx : gx ∈ F
 lt : ∀ g ∈ F, g < w.heap.size
 ex : ∃ x : MkA, x.a = a ∧ x.fin = fin ∧ (∀ k, (D5 x.L k).getD (.int .i64 0) = .int .i64 ((idxP pl k : Nat) : Int)) ∧ Mem w (fun k => k ∈ F) (x.parts m gx pl ts) w
theorem Mem.fpIn {w : World} {F : List Nat} {L : List As} (M : Mem w (fun k => k ∈ F) L w) {i : Nat} {a : As} (hi : L[i]? = some a) : ∀ g ∈ a.fp, g < w.heap.size ∧ g ∈ F := fun g hg => by
 obtain ⟨h1, h2⟩ := M.lt i a hi g hg
 refine ⟨h1, ?_⟩
 rcases h2 with h2 | h2
 ·omega
 ·exact h2
theorem Mem.keepAll {w w' : World} {F : List Nat} {L : List As} (M : Mem w (fun k => k ∈ F) L w) (hk : ∀ g ∈ F, g < w.heap.size → w'.heap[g]? = w.heap[g]?) : Mem w' (fun k => k ∈ F) L w' where
 fr := Fr.refl
 ok i a hi := a.keep (fun g hg hl => hk g (M.fpIn hi g hg).2 hl) (M.ok i a hi)
 lt i a hi g hg := by
  obtain ⟨h1, h2⟩ := M.fpIn hi g hg
  refine ⟨?_, .inr h2⟩
  have h3 : w.heap[g]? = some w.heap[g] := Array.getElem?_eq_getElem h1
  exact (Array.getElem?_eq_some_iff.1 ((hk g h2 h1).trans h3)).1
 apart := M.apart
theorem MkN.keep {w w' : World} {m : Md} {a : MdA} {gx : Nat} {fin : Int} {pl : List (List UInt8)} {ts : List Tr1} {F : List Nat} (hk : ∀ g ∈ F, g < w.heap.size → w'.heap[g]? = w.heap[g]?) (h : MkN w m a gx fin pl ts F) : MkN w' m a gx fin pl ts F := by
 obtain ⟨hg, hl, x, h1, h2, h3, M⟩ := h
 refine ⟨hg, fun g hgF => ?_, x, h1, h2, h3, M.keepAll hk⟩
 have h3 : w.heap[g]? = some (w.heap[g]'(hl g hgF)) := Array.getElem?_eq_getElem (hl g hgF)
 exact (Array.getElem?_eq_some_iff.1 ((hk g hgF (hl g hgF)).trans h3)).1
def As.mk_ (m : Md) (a : MdA) (gx : Nat) (fin : Int) (pl : List (List UInt8)) (ts : List Tr1) (F : List Nat) : As := ⟨F, fun w => MkN w m a gx fin pl ts F, fun h hb => hb.keep h⟩
def nuF (w w' : World) : List Nat := List.range' w.heap.size (w'.heap.size - w.heap.size)
theorem WA {w w' : World} {g : Nat} : g ∈ nuF w w' ↔ w.heap.size ≤ g ∧ g < w'.heap.size := by
 unfold nuF; rw [List.mem_range'_1]; omega
theorem Mem.reopen {w w' : World} {F : List Nat} {L : List As} (M : Mem w (fun k => k ∈ F) L w') : Mem w' (fun k => k ∈ F ++ nuF w w') L w' where
 fr := Fr.refl
 ok := M.ok
 lt i a hi g hg := by
  obtain ⟨h1, h2⟩ := M.lt i a hi g hg
  refine ⟨h1, .inr ?_⟩
  rcases h2 with h2 | h2
  ·exact List.mem_append_right _ (WA.2 ⟨h2, h1⟩)
  ·exact List.mem_append_left _ h2
 apart := M.apart
def ME (m : Md) (a : MdA) (gx : Nat) (fin : Int) (pl : List (List UInt8)) (ts : List Tr1) (F : List Nat) (w w' : World) : Prop := ∃ F', MkN w' m a gx fin pl ts F' ∧ (∀ g ∈ F', g ∈ F ∨ (w.heap.size ≤ g ∧ g < w'.heap.size)) ∧ Fr (fun k => k ∈ F) w w'
theorem MkN.close {w w' : World} {m : Md} {gx : Nat} {x : MkA} {pl : List (List UInt8)} {ts : List Tr1} {F : List Nat} (hg : gx ∈ F) (hl : ∀ g ∈ F, g < w.heap.size) (hL : ∀ k, (D5 x.L k).getD (.int .i64 0) = .int .i64 ((idxP pl k : Nat) : Int)) (M : Mem w (fun k => k ∈ F) (x.parts m gx pl ts) w') : ME m x.a gx x.fin pl ts F w w' :=
 ⟨F ++ nuF w w', ⟨List.mem_append_left _ hg, fun g h => (List.mem_append.1 h).elim (fun h => Nat.lt_of_lt_of_le (hl g h) M.fr.size) fun h => (WA.1 h).2, x, rfl, rfl, hL, M.reopen⟩, fun _ hg => (List.mem_append.1 hg).imp id fun h => WA.1 h, M.fr⟩
theorem Mem.updMk {w0 w w' : World} {S : Nat → Prop} {L : List As} {m : Md} {a : MdA} {gx : Nat} {fin fin' : Int} {pl pl' : List (List UInt8)} {ts ts' : List Tr1} {F F' : List Nat} (M : Mem w0 S L w) (i : Nat) (hi : L[i]? = some (As.mk_ m a gx fin pl ts F)) (hN : MkN w' m a gx fin' pl' ts' F') (hF : ∀ g ∈ F', g ∈ F ∨ (w.heap.size ≤ g ∧ g < w'.heap.size)) (hf : Fr (fun k => k ∈ F) w w') : Mem w0 S (L.set i (As.mk_ m a gx fin' pl' ts' F')) w' :=
 M.upd i hi hf _ hN hF
theorem Mem.oneMk {w : World} {m : Md} {a : MdA} {gx : Nat} {fin : Int} {pl : List (List UInt8)} {ts : List Tr1} {F : List Nat} (h : MkN w m a gx fin pl ts F) : Mem w (fun k => k ∈ F) [As.mk_ m a gx fin pl ts F] w where
 fr := Fr.refl
 ok i b hi := by
  cases i with
  | zero => simp only [List.getElem?_cons_zero, Option.some.injEq] at hi; subst hi; exact h
  | succ i => simp at hi
 lt i b hi g hg := by
  cases i with
  | zero => simp only [List.getElem?_cons_zero, Option.some.injEq] at hi; subst hi; exact ⟨h.lt g hg, .inr hg⟩
  | succ i => simp at hi
 apart i j b c hi hj hij := by
  cases i with
  | zero => cases j with
   | zero => exact absurd rfl hij
   | succ j => simp at hj
  | succ i => simp at hi
section
variable {P : Program} {Q : Exit → Act → World → Prop} {n : Nat} {e : Env} {w w0 : World} {S : Nat → Prop} {L : List As} {ops : Array Oper} {o : Oper} {rest : List Oper}
theorem lB (M : Mem w0 S L w) (i : Nat) {d : Nat} (hw : Wn ops e o) (hd : o.dst = some d) (hn : Nat.blt d n = true) {s x : Operand} {t el size bytes len m c : Nat} {z v : Value} {xs news : List Value} {A : Option Addr}
 (ho : o.op = .call { callee := .builtin .append, args := #[s, x], argTypes := #[t, t] }) (hs : ev e s = some v) (hx : ev e x = some (.slice A m c)) (hi : L[i]? = some (As.own 0 el size v len xs)) (hr : Rd w A (m * size) news)
 (ht : P.underlying t = some (.slice el)) (hinf : (P.info? el).map (fun i => (i.zero, i.size, i.bytes)) = some (some z, size, bytes)) (hzs : z.cells.size = size) (hpos : 0 < size) (h1 : ∀ u ∈ news, u.oneCell' = true) (hsm : (len + m) * bytes ≤ 140737488355328) (h63 : len + m ≤ maxLen) {len' : Nat} {xs' : List Value} (hl' : len + m = len') (hx' : xs ++ news = xs')
 (k : ∀ A' c' w', Mem w0 S (L.set i (As.own 0 el size (.slice A' len' c') len' xs')) w' → SxL P ops Q n rest ((d, .slice A' len' c') :: e) w') : SxL P ops Q n (o :: rest) e w := by
 subst hl'; subst hx'
 have hown := M.own i hi
 refine CM (some d) hw hd hn (fun ρ hρ => GJ s x t ho 0 el z size bytes ht hinf hzs hpos v len xs (hρ _ _ hs) hown A m c news (hρ _ _ hx) hr h1 h63 hsm (Nat.zero_le _)) ?_
 rintro v' w1 ⟨h1, h2, h3⟩
 obtain ⟨A', c', rfl, _⟩ := G3 h1
 exact k A' c' w1 (M.appOwn i hi h1 h2 h3)
end
theorem DW {w w' : World} {F : List Nat} {A : Option Addr} {n : Nat} {xs : List Value} (h : Rd w A n xs) (hf : Fr (fun k => k ∈ F) w w') (hn : ∀ b off p, A = some ⟨b, off, p⟩ → b ∉ F) : Rd w' A n xs := by
 cases A with
 | none => exact J8 h (F := []) (fun g hg => by simp at hg) (fun b off p e => by simp at e)
 | some a =>
  obtain ⟨b, off, p⟩ := a
  refine J8 h (F := [b]) (fun g hg hl => hf.block g hl ?_) (fun b' off' p' e => by injection e with e; injection e with e; simp [e])
  obtain rfl : g = b := by simpa using hg
  exact hn g off p rfl
theorem Mem.notMk {w0 w : World} {S : Nat → Prop} {L : List As} (M : Mem w0 S L w) (i j : Nat) {a : As} {m : Md} {a0 : MdA} {gx : Nat} {fin : Int} {pl : List (List UInt8)} {ts : List Tr1} {F : List Nat} (hj : L[j]? = some (As.mk_ m a0 gx fin pl ts F)) (hi : L[i]? = some a) (h : i ≠ j) {A : Option Addr} (hA : ∀ b off p, A = some ⟨b, off, p⟩ → b ∈ a.fp) : ∀ b off p, A = some ⟨b, off, p⟩ → b ∉ F := fun b off p e hb =>
 M.apart i j _ _ hi hj h b (hA b off p e) hb
theorem OL {base size n c : Nat} {e : TypeId} {A : Option Addr} {xs : List Value} : ∀ b off p, A = some ⟨b, off, p⟩ → b ∈ (As.own base e size (.slice A n c) n xs).fp := fun b off p h => by subst h; simp [As.own, Value.ownBlock]
theorem IU {g : Nat} {t : TypeId} {cs : List Value} : ∀ b off p, (some ⟨g, 0, none⟩ : Option Addr) = some ⟨b, off, p⟩ → b ∈ (As.blk g t cs).fp := fun b off p h => by injection h with h; injection h with h; simp [As.blk, h]
theorem tY {w w' : World} {m : Md} {gx : Nat} {x : MkA} {pl : List (List UInt8)} {ts : List Tr1} {F : List Nat} {lb : List UInt8} {l1 l2 : List (List UInt8)} {A B C : Option Addr} {c d k : Nat} (hg : gx ∈ F) (hl : ∀ g ∈ F, g < w.heap.size) (hL : ∀ k, (D5 x.L k).getD (.int .i64 0) = .int .i64 ((idxP pl k : Nat) : Int)) (h1 : (DT pl l1).length = l1.length) (h2 : (DT pl l2).length = l2.length)
 (M : Mem w (fun k => k ∈ F) [As.own w.heap.size 3 1 (.slice A l1.length c) l1.length (AS LL (DT pl l1)), As.own w.heap.size 3 1 (.slice B l2.length d) l2.length (AS LL (DT pl l2)), As.trs x.FT ts x.rs, As.blk gx 55 [str m.id, str m.nm, .slice x.a.V m.vars.length x.a.vc, .slice x.a.E m.els.length x.a.ec, .slice x.a.F m.fls.length x.a.fc, .slice x.A pl.length x.c, .slice C ((x.rs ++ [(⟨lb, A, l1.length, c, B, l2.length, d⟩ : TrR)]).length) k, .int .i64 0, .int .i64 x.fin, .map (some x.gP)], As.mp x.gP x.L, As.own 0 9 1 (.slice x.A pl.length x.c) pl.length (AS D7 pl), As.own 0 45 3 (.slice C ((x.rs ++ [(⟨lb, A, l1.length, c, B, l2.length, d⟩ : TrR)]).length) k) ((x.rs ++ [(⟨lb, A, l1.length, c, B, l2.length, d⟩ : TrR)]).length) (AS TrR.cells (x.rs ++ [(⟨lb, A, l1.length, c, B, l2.length, d⟩ : TrR)]))] w') :
 ME m x.a gx x.fin pl (ts ++ [trP pl ⟨lb, l1, l2⟩]) F w w' := by
 have ho1 := M.own 0 rfl
 have ho2 := M.own 1 rfl
 have h3 : TrsOk w' x.FT ts x.rs := M.ok 2 _ rfl
 have M1 := M.joinFam (As.pair (As.own w.heap.size 3 1 (.slice A l1.length c) l1.length (AS LL (DT pl l1))) (As.own w.heap.size 3 1 (.slice B l2.length d) l2.length (AS LL (DT pl l2)))) ⟨ho1, ho2⟩ (fun g h => List.mem_append.1 h)
 have hT : TrsOk w' (((Value.slice A l1.length c).ownBlock.toList ++ (Value.slice B l2.length d).ownBlock.toList) ++ x.FT) (ts ++ [trP pl ⟨lb, l1, l2⟩]) (x.rs ++ [(⟨lb, A, l1.length, c, B, l2.length, d⟩ : TrR)]) := by
  refine (h3.keep (fun _ _ _ => rfl) (fun g h => List.mem_append_right _ h)).snoc ⟨rfl, h1.symm, h2.symm, ?_, ?_, ?_, ?_⟩
  ·show Rd w' A ((DT pl l1).length * 1) _
   rw [h1]; exact OK ho1
  ·show Rd w' B ((DT pl l2).length * 1) _
   rw [h2]; exact OK ho2
  ·intro b off p e
   obtain rfl : A = some ⟨b, off, p⟩ := e
   exact List.mem_append_left _ (List.mem_append_left _ (by simp [Value.ownBlock]))
  ·intro b off p e
   obtain rfl : B = some ⟨b, off, p⟩ := e
   exact List.mem_append_left _ (List.mem_append_right _ (by simp [Value.ownBlock]))
 have M2 := M1.joinFam (As.trs _ _ _) hT (fun g h => List.mem_append.1 h)
 exact MkN.close (x := { x with B := C, d := k, rs := x.rs ++ [(⟨lb, A, l1.length, c, B, l2.length, d⟩ : TrR)], FT := ((Value.slice A l1.length c).ownBlock.toList ++ (Value.slice B l2.length d).ownBlock.toList) ++ x.FT }) hg hl hL (M2.pick [1, 2, 3, 4, 0] (by decide))
theorem sS {L : List (List UInt8 × Value)} {pl : List (List UInt8)} {k : List UInt8} (hL : ∀ k, (D5 L k).getD (.int .i64 0) = .int .i64 ((idxP pl k : Nat) : Int)) : ∀ k', (D5 (EW L k (.int .i64 ((pl.length : Nat) : Int))) k').getD (.int .i64 0) = .int .i64 ((idxP (pl ++ [k]) k' : Nat) : Int) := fun k' => by
 rw [IB, j7]
 by_cases h : k' = k
 ·rw [if_pos h, if_pos h]; rfl
 ·rw [if_neg h, if_neg h, hL]
end Go.Proofs.YtdaihdknnlphkaaGreatDoor
