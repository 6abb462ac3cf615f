/- Lemmas that the last text rests on. Condition: each says its own. -/
import Derived.Test.YtdaihdknnlphkaaGreatDoorZb5
import Derived.Deep.Slices
import Derived.Deep.Strs
import Derived.ProofKit
import Derived.OpenShut
import Derived.Deep.DeepHandedRow
import Derived.Lay
import Derived.Shelf.Unicode.ValidAny
set_option maxHeartbeats 16000000
set_option maxRecDepth 100000
namespace Go.Proofs.YtdaihdknnlphkaaGreatDoor
open Go.RowKit
section
def AS {α : Type} (cells : α → List Value) (l : List α) : List Value := (l.map cells).flatten
theorem o3 {α : Type} {cells : α → List Value} {k : Nat} (hk : ∀ x, (cells x).length = k) {l : List α} {i j : Nat} {x : α} {u : Value} (hx : l[i]? = some x) (hj : (cells x)[j]? = some u) : (AS cells l)[i * k + j]? = some u := by
 have h1 := eS (m := k) (l := l.map cells) (fun r hr => by obtain ⟨x, _, rfl⟩ := List.mem_map.1 hr; exact hk x) (i := i) (x := cells x) (by rw [List.getElem?_map, hx]; rfl)
 have hjk : j < k := by have := (List.getElem?_eq_some_iff.1 hj).1; rw [hk] at this; exact this
 have h2 : (((l.map cells).flatten.drop (i * k)).take k)[j]? = (cells x)[j]? := congrArg (·[j]?) h1
 rw [List.getElem?_take_of_lt hjk, List.getElem?_drop, hj] at h2
 exact h2
theorem E2 {α : Type} (cells : α → List Value) (a b : List α) : AS cells (a ++ b) = AS cells a ++ AS cells b := by simp [AS]
theorem C7 {w : World} {α : Type} {cells : α → List Value} {A : Option Addr} {k : Nat} (hk0 : 0 < k) {l : List α} {i : Nat} {x : α} (h : Rd w A (l.length * k) (AS cells l)) (hx : l[i]? = some x) : ∃ b off, A = some ⟨b, off, none⟩ := by
 have hi := (List.getElem?_eq_some_iff.1 hx).1
 obtain ⟨b, off, e, _⟩ := h.2 (Nat.mul_pos (by omega) hk0)
 exact ⟨b, off, e⟩
theorem EB {w : World} {α : Type} {cells : α → List Value} {A : Option Addr} {k : Nat} (hk : ∀ x, (cells x).length = k) {l : List α} {i : Nat} {x : α} (h : Rd w A (l.length * k) (AS cells l)) {b off : Nat} (hA : A = some ⟨b, off, none⟩) (hx : l[i]? = some x) (j : Nat) {u : Value} (hj : (cells x)[j]? = some u) : Cell w.heap b (off + i * k + j) u := by
 have h1 := o3 hk hx hj
 have hlt := (List.getElem?_eq_some_iff.1 h1).1
 rw [h.1] at hlt
 obtain ⟨b', off', e, hc⟩ := h.2 (by omega)
 rw [hA] at e; injection e with e; injection e with e1 e2 _; subst e1; subst e2
 rw [Nat.add_assoc]
 exact Cell.of (hc _ u h1)
theorem DD {w : World} {α : Type} {cells : α → List Value} {A : Option Addr} {k : Nat} (hk : ∀ x, (cells x).length = k) {l : List α} {i : Nat} {x : α} (h : Rd w A (l.length * k) (AS cells l)) {b off : Nat} (hA : A = some ⟨b, off, none⟩) (hx : l[i]? = some x) : Rd w (some ⟨b, off + i * k, none⟩) k (cells x) :=
 ⟨hk x, fun _ => ⟨b, off + i * k, rfl, fun j _ hu => (EB hk h hA hx j hu).get w rfl⟩⟩
theorem DA {α : Type} {l : List α} {i : Nat} (h : i < l.length) : ∃ x, l[i]? = some x := ⟨_, List.getElem?_eq_getElem h⟩
theorem BH {α : Type} {l : List α} {i : Nat} {x : α} (hx : l[i]? = some x) : l.drop i = x :: l.drop (i + 1) := by
 have hlt := (List.getElem?_eq_some_iff.1 hx).1
 rw [List.drop_eq_getElem_cons hlt]
 congr 1
 rw [List.getElem?_eq_getElem hlt] at hx
 exact Option.some.inj hx
theorem B3 {α : Type} {l : List α} {i : Nat} {x : α} (hx : l[i]? = some x) : l.take (i + 1) = l.take i ++ [x] := by
 rw [List.take_add_one, hx]; rfl
def D7 (s : List UInt8) : List Value := [str s]
def LL (i : Int) : List Value := [.int .i64 i]
theorem GD (s : List UInt8) : (D7 s).length = 1 := rfl
theorem YK (s : Int) : (LL s).length = 1 := rfl
theorem BE {b : Bool} (h : b = false) : ¬ (b = true) := by rw [h]; decide
theorem C4 {b : Bool} (h : (!b) = true) : b = false := by cases b <;> simp_all
theorem C5 {b : Bool} (h : (!b) = false) : b = true := by cases b <;> simp_all
theorem C9 {a b : Bool} (h : (a && b) = true) : a = true ∧ b = true := by cases a <;> cases b <;> simp_all
theorem EH {a b : Bool} (h : (a && b) = false) : a = false ∨ b = false := by cases a <;> cases b <;> simp_all
theorem EL {a b : Bool} (h : (a || b) = true) : a = true ∨ b = true := by cases a <;> cases b <;> simp_all
theorem CE {a b : Bool} (h : (a || b) = false) : a = false ∧ b = false := by cases a <;> cases b <;> simp_all
theorem SU {α : Type} {cells : α → List Value} (h : ∀ x, ∀ u ∈ cells x, u.oneCell' = true) {l : List α} : ∀ u ∈ AS cells l, u.oneCell' = true := by
 intro u hu
 obtain ⟨r, hr, hu⟩ := List.mem_flatten.1 hu
 obtain ⟨x, _, rfl⟩ := List.mem_map.1 hr
 exact h x u hu
theorem AI {a b : Nat} (h : Nat.ble a b = true) : a ≤ b := Nat.le_of_ble_eq_true h
theorem II {w : World} {g : Nat} {t : TypeId} {cs : List Value} (h : Blk w g t cs) (off m : Nat) {ys : List Value} (hys : (cs.drop off).take m = ys) (hm : ys.length = m) : Rd w (some ⟨g, off, none⟩) m ys :=
 ⟨hm, fun _ => ⟨g, off, rfl, fun q u hu => by
  subst hys
  have hq : q < m := by have := (List.getElem?_eq_some_iff.1 hu).1; omega
  rw [List.getElem?_take_of_lt hq, List.getElem?_drop] at hu
  exact (h.cell (off + q)).trans hu⟩⟩
def vP (l : List Value) : Bool := l.all (·.oneCell')
theorem AY {l : List Value} (h : vP l = true) : ∀ u ∈ l, u.oneCell' = true := fun u hu => List.all_eq_true.1 h u hu
theorem N2 {w : World} {base size n : Nat} {e : TypeId} {v : Value} {xs : List Value} (h : w.ownsRow base e size v n xs) : ∀ g ∈ v.ownBlock.toList, base ≤ g ∧ g < w.heap.size := fun g hg => by
 obtain ⟨h1, h2⟩ := h.lt g (by simpa using hg)
 exact ⟨h1, h2⟩
theorem G3 {w : World} {base size : Nat} {e : TypeId} {v : Value} {n : Nat} {xs : List Value} (h : w.ownsRow base e size v n xs) : ∃ A cap, v = .slice A n cap ∧ n ≤ cap := by
 rcases h.2 with ⟨rfl, h0⟩ | ⟨g, cap, cur, rfl, hb, hg, hc, hm, hs, ht⟩
 ·subst h0; exact ⟨none, 0, rfl, Nat.le_refl _⟩
 ·exact ⟨some ⟨g, 0, none⟩, cap, rfl, hc⟩
theorem OK {w : World} {base size : Nat} {e : TypeId} {A : Option Addr} {c n : Nat} {xs : List Value} (h : w.ownsRow base e size (.slice A n c) n xs) : Rd w A (n * size) xs := by
 refine ⟨h.1, fun hn => ?_⟩
 rcases h.2 with ⟨hv, h0⟩ | ⟨g, cap, cur, hv, _⟩
 ·subst h0; omega
 ·injection hv with hA
  subst hA
  refine ⟨g, 0, rfl, fun j u hu => ?_⟩
  have := h.cells (g := g) rfl j u hu
  rwa [Addr.add_mid] at this
namespace Mem
variable {w0 w w' : World} {S : Nat → Prop} {L : List As}
theorem nilOwn (M : Mem w0 S L w) (e : TypeId) (size : Nat) : Mem w0 S (As.own w0.heap.size e size (.slice none 0 0) 0 [] :: L) w := by
 refine M.push Fr.refl _ ?_ (fun g hg => by simp [As.own, Value.ownBlock] at hg)
 exact ⟨by simp, .inl ⟨rfl, rfl⟩⟩
theorem pushOwn (M : Mem w0 S L w) (hf : Fr0 w w') {base size n : Nat} {e : TypeId} {v : Value} {xs : List Value} (hb : w.heap.size ≤ base) (h : w'.ownsRow base e size v n xs) : Mem w0 S (As.own w0.heap.size e size v n xs :: L) w' := by
 have hw := M.fr.size
 refine M.push hf _ (UM h (by omega)) (fun g hg => ?_)
 obtain ⟨h1, h2⟩ := N2 h g hg
 exact ⟨by omega, h2⟩
theorem blkOwn (M : Mem w0 AD L w) (i : Nat) {g t size n : Nat} {cs : List Value} (hi : L[i]? = some (As.blk g t cs)) (hn : cs.length = n * size) (hm : n ≤ maxLen) : Mem w0 AD (L.set i (As.own w0.heap.size t size (.slice (some ⟨g, 0, none⟩) n n) n cs)) w := by
 have hb := M.blk i hi
 have hg : w0.heap.size ≤ g := by
  rcases (M.lt i _ hi g (by simp [As.blk])).2 with h | h
  ·exact h
  ·exact h.elim
 refine M.upd i hi Fr.refl _ ?_ (fun g' hg' => .inl (by simpa [As.own, As.blk, Value.ownBlock, eq_comm] using hg'))
 exact ⟨hn, .inr ⟨g, n, cs.toArray, rfl, hg, hb, Nat.le_refl _, hm, by simpa using hn, by simp [← hn]⟩⟩
theorem ownLen (M : Mem w0 S L w) (i : Nat) {base e size n : Nat} {v : Value} {xs : List Value} (hi : L[i]? = some (As.own base e size v n xs)) : n ≤ 9223372036854775807 := by
 rcases (M.own i hi).2 with ⟨_, h0⟩ | ⟨g, cap, cur, _, _, _, hc, hm, _⟩
 ·omega
 ·unfold maxLen at hm; omega
theorem rdOwn (M : Mem w0 S L w) (i : Nat) {base e size n c : Nat} {A : Option Addr} {xs : List Value} (hi : L[i]? = some (As.own base e size (.slice A n c) n xs)) : Rd w A (n * size) xs := OK (M.own i hi)
theorem rdBlk (M : Mem w0 S L w) (i : Nat) {g t m : Nat} {cs : List Value} (hi : L[i]? = some (As.blk g t cs)) (hm : cs.length = m) : Rd w (some ⟨g, 0, none⟩) m cs := Rd.ofBlk (M.blk i hi) hm
end Mem
section
variable {P : Program} {Q : Exit → Act → World → Prop} {n : Nat} {e : Env} {w w0 : World} {S : Nat → Prop} {L : List As} {ops : Array Oper} {o : Oper} {rest : List Oper}
theorem AM {l : List Oper} {d : Nat} {b : Bool} (hb : e.get d = some (.bool b)) (h1 : b = true → SxL P ops Q n l ((d, .bool true) :: e) w) (h2 : b = false → SxL P ops Q n l ((d, .bool false) :: e) w) : SxL P ops Q n l e w := .mk fun a ha => by
 have key : ∀ c, b = c → Agr n ((d, .bool c) :: e) a := fun c hc => ⟨ha.size, ha.defers, fun k v hk => by
  unfold Env.get at hk
  split at hk
  ·rename_i hb'
   obtain rfl : d = k := Nat.eq_of_beq_eq_true hb'
   simp only [Option.some.injEq] at hk
   rw [← hk, ← hc]; exact ha.get d _ hb
  ·exact ha.get k v hk⟩
 cases b
 ·exact (h2 rfl).run a (key false rfl)
 ·exact (h1 rfl).run a (key true rfl)
theorem I9 {q : Act → Prop} {l : List Oper} {d : Nat} {b : Bool} (hb : e.get d = some (.bool b)) (h1 : b = true → SxS P ops w q n l ((d, .bool true) :: e)) (h2 : b = false → SxS P ops w q n l ((d, .bool false) :: e)) : SxS P ops w q n l e := .mk fun a ha => by
 have key : ∀ c, b = c → Agr n ((d, .bool c) :: e) a := fun c hc => ⟨ha.size, ha.defers, fun k v hk => by
  unfold Env.get at hk
  split at hk
  ·rename_i hb'
   obtain rfl : d = k := Nat.eq_of_beq_eq_true hb'
   simp only [Option.some.injEq] at hk
   rw [← hk, ← hc]; exact ha.get d _ hb
  ·exact ha.get k v hk⟩
 cases b
 ·exact (h2 rfl).run a (key false rfl)
 ·exact (h1 rfl).run a (key true rfl)
theorem AX {l : List Oper} (cut : Nat) (r : Env) (F : World → Prop) (h : ∀ w', F w' → SxL P ops Q n (l.drop cut) r w') (k : (∀ e' w', F w' → r.le e' → SxL P ops Q n (l.drop cut) e' w') → SxL P ops Q n l e w) : SxL P ops Q n l e w :=
 k fun _ w' hF hl => l9 hl (h w' hF)
theorem QM {q : Act → Prop} {l : List Oper} (cut : Nat) (r : Env) (h : SxS P ops w q n (l.drop cut) r) (k : (∀ e', r.le e' → SxS P ops w q n (l.drop cut) e') → SxS P ops w q n l e) : SxS P ops w q n l e :=
 k fun _ hl => .mk fun a ha => h.run a (ha.weak hl)
theorem QN {c : Code} {K : Act → World → Prop} (r : Env) (F : World → Prop) (h : ∀ w', F w' → QX (Exit.then K Q) .normal n r w') (k : (∀ e' w', F w' → r.le e' → QX (Exit.then K Q) .normal n e' w') → Sx P c (Exit.then K Q) n e w) : Sx P c (Exit.then K Q) n e w :=
 k fun _ w' hF hl => dG hl (h w' hF)
theorem J4 (M : Mem w0 S L w) (i : Nat) {d : Nat} (hw : Wn ops e o) (hd : o.dst = some d) (hn : Nat.blt d n = true) {s x : Operand} {t base el size bytes len m c : Nat} {z v : Value} {xs news : List Value} {A : Option Addr}
 (ho : o.op = .call { callee := .builtin .append, args := #[s, x], argTypes := #[t, t] }) (hs : ev e s = some v) (hx : ev e x = some (.slice A m c)) (hi : L[i]? = some (As.own base el size v len xs)) (hr : Rd w A (m * size) news)
 (ht : P.underlying t = some (.slice el)) (hinf : (P.info? el).map (fun i => (i.zero, i.size, i.bytes)) = some (some z, size, bytes)) (hzs : z.cells.size = size) (hpos : 0 < size) (h1 : ∀ u ∈ news, u.oneCell' = true) (hb : w0.heap.size ≤ base) (hb' : base ≤ w0.heap.size) (hsm : (len + m) * bytes ≤ 140737488355328) (h63 : len + m ≤ maxLen) {len' : Nat} {xs' : List Value} (hl' : len + m = len') (hx' : xs ++ news = xs')
 (k : ∀ A' c' w', Mem w0 S (L.set i (As.own base el size (.slice A' len' c') len' xs')) w' → SxL P ops Q n rest ((d, .slice A' len' c') :: e) w') : SxL P ops Q n (o :: rest) e w := by
 subst hl'; subst hx'
 have hw0 := M.fr.size
 have hown := M.own i hi
 refine CM (some d) hw hd hn (fun ρ hρ => GJ s x t ho base el z size bytes ht hinf hzs hpos v len xs (hρ _ _ hs) hown A m c news (hρ _ _ hx) hr h1 h63 hsm (by omega)) ?_
 rintro v' w1 ⟨h1, h2, h3⟩
 obtain ⟨A', c', rfl, _⟩ := G3 h1
 refine k A' c' w1 (M.upd i hi ?_ _ h1 ?_)
 ·refine ⟨h2.os, h2.tape, h2.output, h2.size, fun g hg hn => h2.block g hg ?_⟩
  intro e
  exact hn (by simp [As.own, ← e])
 ·intro g hg
  rcases h3 with h | h
  ·left; simpa [As.own, h] using hg
  ·right
   have hg' : g = w.heap.size := by simpa [As.own, h, eq_comm] using hg
   have := (N2 h1 g hg).2
   omega
theorem DC (M : Mem w0 S L w) {d : Nat} (hw : Wn ops e o) (hd : o.dst = some d) (hn : Nat.blt d n = true) {t len el size : Nat} {parts : List (Nat × Operand)} {ps : List (Nat × Value)} (vs cs : List Value) {z : Value} (ho : o.op = .buildSlice t len parts.toArray) (hp : evp e parts = some ps) (hps : ps = (vs.zipIdx 0).map fun x => (x.2, x.1)) (hlen : vs.length = len)
 (hu : P.underlying t = some (.slice el)) (hi : (P.info? el).map (fun i => (i.zero, i.size)) = some (some z, size)) (hpos : Nat.blt 0 (len * size) = true) (hsm : Nat.ble (len * size) 16777216 = true) (hv : ∀ v ∈ vs, v.cells.size = size) (hcs : (vs.map fun v => v.cells.toList).flatten = cs)
 (k : ∀ g w', w.heap.size ≤ g → Mem w0 S (As.blk g el cs :: L) w' → SxL P ops Q n rest ((d, .slice (some ⟨g, 0, none⟩) len len) :: e) w') : SxL P ops Q n (o :: rest) e w := by
 subst hcs
 refine CM (some d) hw hd hn (fun ρ hρ => GZ vs z hρ ho hp hps hlen hu hi (AZ hpos) (Nat.le_of_ble_eq_true hsm) hv) ?_
 rintro _ w1 ⟨g, rfl, h1, h2, hb, hf⟩
 exact k g w1 h1 (M.push hf _ hb (fun g' hg' => by simp only [As.blk, List.mem_singleton] at hg'; subst hg'; exact ⟨h1, h2⟩))
end
section
variable {P : Program} {e : Env} {w : World} {o : Oper}
theorem CB {t t' : Nat} {k : IntKind} {a b : Int} {x y : Operand} (ho : o.op = .binOp .lss t x y t') (hx : ev e x = some (.int k a)) (hy : ev e y = some (.int k b)) : Y P e o w (.bool (decide (a < b))) := fun ρ h => by
 unfold execOp; simp [ho, h _ _ hx, h _ _ hy, eqGuard_at_int, binOp_lss]
theorem K5 {t t' : Nat} {k : IntKind} {a b : Int} {x y : Operand} (ho : o.op = .binOp .leq t x y t') (hx : ev e x = some (.int k a)) (hy : ev e y = some (.int k b)) : Y P e o w (.bool (decide (a ≤ b))) := fun ρ h => by
 unfold execOp; simp [ho, h _ _ hx, h _ _ hy, eqGuard_at_int, binOp_leq]
theorem FF {t t' : Nat} {k : IntKind} {a b : Int} {x y : Operand} (ho : o.op = .binOp .gtr t x y t') (hx : ev e x = some (.int k a)) (hy : ev e y = some (.int k b)) : Y P e o w (.bool (decide (b < a))) := fun ρ h => by
 unfold execOp; simp [ho, h _ _ hx, h _ _ hy, eqGuard_at_int, binOp_gtr]
theorem FG {t t' : Nat} {k : IntKind} {a b : Int} {x y : Operand} (ho : o.op = .binOp .geq t x y t') (hx : ev e x = some (.int k a)) (hy : ev e y = some (.int k b)) : Y P e o w (.bool (decide (b ≤ a))) := fun ρ h => by
 unfold execOp; simp [ho, h _ _ hx, h _ _ hy, eqGuard_at_int, binOp_geq]
theorem BB {t t' : Nat} {k : IntKind} {a b : Int} {x y : Operand} (ho : o.op = .binOp .eql t x y t') (hx : ev e x = some (.int k a)) (hy : ev e y = some (.int k b)) : Y P e o w (.bool (decide (a = b))) := fun ρ h => by
 unfold execOp; simp only [ho, h _ _ hx, h _ _ hy, eqGuard_at_int, binOp_eql, Sem.run_bind, Sem.run_pure, Result.andThen_ok]; by_cases hab : a = b <;> simp [hab]
theorem CX {t t' : Nat} {k : IntKind} {a b : Int} {x y : Operand} (ho : o.op = .binOp .neq t x y t') (hx : ev e x = some (.int k a)) (hy : ev e y = some (.int k b)) : Y P e o w (.bool (!decide (a = b))) := fun ρ h => by
 unfold execOp; simp only [ho, h _ _ hx, h _ _ hy, eqGuard_at_int, binOp_neq, Sem.run_bind, Sem.run_pure, Result.andThen_ok]; by_cases hab : a = b <;> simp [hab]
theorem BM {t g off len cap sz el : Nat} (j : Nat) {k : IntKind} {x i : Operand} {A : Option Addr} (hA : A = some ⟨g, off, none⟩) (ho : o.op = .indexAddr t x i) (hx : ev e x = some (.slice A len cap)) (hi : ev e i = some (.int k (j : Int))) (ht : BT P t = some (el, sz)) (h0 : j < len) :
 Y P e o w (.pointer (some ⟨g, off + j * sz, none⟩)) := by subst hA; exact XC ho hx hi ht h0
end
section
variable {P : Program} {Q : Exit → Act → World → Prop} {n f t : Nat} {e : Env} {w w0 : World} {S : Nat → Prop} {L L' : List As} {ops : Array Oper} {o : Oper} {listed : Array Bool} {c : Code} {I : World → Prop}
theorem NL {α β : Type} (r : α → β → Env) (F : α → β → World → Prop) (h : ∀ x y w', F x y w' → QX Q .normal n (r x y) w') (k : (∀ x y e' w', F x y w' → (r x y).le e' → QX Q .normal n e' w') → Sx P c Q n e w) : Sx P c Q n e w := k fun x y _ w' hF hl => dG hl (h x y w' hF)
theorem DX {g : Nat} {ty : TypeId} {cs : List Value} {w w' : World} (h1 : w.heap.size ≤ g) (h2 : g < w'.heap.size) : ∀ g' ∈ (As.blk g ty cs).fp, w.heap.size ≤ g' ∧ g' < w'.heap.size := fun g' hg' => by
 simp only [As.blk, List.mem_singleton] at hg'; subst hg'; exact ⟨h1, h2⟩
theorem L9 {g : Nat} {K : List (List UInt8 × Value)} {w w' : World} (h1 : w.heap.size ≤ g) (h2 : g < w'.heap.size) : ∀ g' ∈ (As.mp g K).fp, w.heap.size ≤ g' ∧ g' < w'.heap.size := fun g' hg' => by
 simp only [As.mp, List.mem_singleton] at hg'; subst hg'; exact ⟨h1, h2⟩
theorem Mem.putB (M : Mem w0 S L w) (i : Nat) {g ty : Nat} {cs cs' : List Value} {w' : World} (hi : L[i]? = some (As.blk g ty cs)) (hb : Blk w' g ty cs') (hf : Fr (fun k => k = g) w w') : Mem w0 S (L.set i (As.blk g ty cs')) w' :=
 M.upd i hi (cG hf) (As.blk g ty cs') hb (fun _ hg' => .inl hg')
end
section
variable {P : Program} {e : Env} {w : World} {o : Oper}
theorem cO {t : Nat} {x j : Operand} {l : List UInt8} {k' : IntKind} {b : Nat} (ho : o.op = .slice t x none (some j) none) (hx : ev e x = some (str l)) (hj : ev e j = some (.int k' (b : Int))) (ht : P.underlying t = some .string) (hb : b ≤ l.length) : Y P e o w (str (l.take b)) := fun ρ h => by
 have hs : (ByteArray.mk l.toArray).size = l.length := by show l.toArray.size = _; simp
 unfold execOp
 simp [ho, h _ _ hx, h _ _ hj, str, Instr.sliceAt, Instr.slice, run_underlying ht, Instr.sliceBounds, Instr.sliceBound, asIntOf, hs, hb, Lib.extract_eq]
theorem DH {t kt el : TypeId} {x i : Operand} {g : Nat} {k : List UInt8} {L : List (List UInt8 × Value)} {z v : Value} {b : Bool} (ho : o.op = .lookup t x i true) (hx : ev e x = some (.map (some g))) (hi : ev e i = some (str k)) (hu : P.underlying t = some (.map kt el)) (hd : P.underlying kt = some .string)
 (hz : (P.info? el).map (·.zero) = some (some z)) (hM : Mp w g L) (hv : (D5 L k).getD z = v) (hb : (D5 L k).isSome = b) : Y P e o w (.tuple #[v, .bool b]) := by
 subst hv; subst hb
 exact XA (ok := true) ho hx hi hu hd hz hM
theorem CK {t kt el : TypeId} {x i : Operand} {g : Nat} {k : List UInt8} {L : List (List UInt8 × Value)} {z v : Value} (ho : o.op = .lookup t x i false) (hx : ev e x = some (.map (some g))) (hi : ev e i = some (str k)) (hu : P.underlying t = some (.map kt el)) (hd : P.underlying kt = some .string)
 (hz : (P.info? el).map (·.zero) = some (some z)) (hM : Mp w g L) (hv : (D5 L k).getD z = v) : Y P e o w v := by
 subst hv
 exact XA (ok := false) ho hx hi hu hd hz hM
theorem u6 {t t' : TypeId} {x y : Operand} {b c : UInt8} (ho : o.op = .binOp .or t x y t') (hx : ev e x = some (.int .u8 (b.toNat : Int))) (hy : ev e y = some (.int .u8 (c.toNat : Int))) : Y P e o w (.int .u8 ((b ||| c).toNat : Int)) := fun ρ h => by
 have hk : Op.intBits .or .u8 (b.toNat : Int) (c.toNat : Int) = pure (.int .u8 ((b ||| c).toNat : Int)) := by
  unfold Op.intBits
  have h1 : BitVec.ofInt (IntKind.u8).bits (b.toNat : Int) = b.toBitVec := by
   apply BitVec.eq_of_toNat_eq; simp [IntKind.bits]
  have h2 : BitVec.ofInt (IntKind.u8).bits (c.toNat : Int) = c.toBitVec := by
   apply BitVec.eq_of_toNat_eq; simp [IntKind.bits]
  simp only [h1, h2]
  have h3 : ((b.toBitVec ||| c.toBitVec : BitVec 8).toNat : Int) = ((b ||| c).toNat : Int) := rfl
  have h4 : (IntKind.u8).wrap ((b ||| c).toNat : Int) = ((b ||| c).toNat : Int) := by
   have := (b ||| c).toNat_lt
   rw [UInt8.toNat_or] at this
   simp [IntKind.wrap, IntKind.bits, IntKind.signed]; omega
  show (pure (.int .u8 ((IntKind.u8).wrap ((b.toBitVec ||| c.toBitVec : BitVec 8).toNat : Int))) : Sem Value) = _
  rw [h3, h4]
 unfold execOp
 simp [ho, h _ _ hx, h _ _ hy, eqGuard_at_int, Go.binOp, hk]
theorem uQ {t t' : TypeId} {x y : Operand} {a b : Nat} (ho : o.op = .call { callee := .builtin .min, args := #[x, y], argTypes := #[t, t'] }) (hx : ev e x = some (.int .i64 (a : Int))) (hy : ev e y = some (.int .i64 (b : Int))) : Y P e o w (.int .i64 ((min a b : Nat) : Int)) := fun ρ h => by
 unfold execOp
 have hab : (if (b : Int) < (a : Int) then (b : Int) else (a : Int)) = ((min a b : Nat) : Int) := by split <;> omega
 simp only [ho, h _ _ hx, h _ _ hy, resolve, invoke, builtin, Builtin.min_, Builtin.min2, List.map_toArray, List.map_cons, List.map_nil, List.foldlM_cons, List.foldlM_nil, Sem.run_bind, Sem.run_pure, Result.andThen_ok, hab]
end
end
open Tryz
section
structure Vl where
 kind : UInt8
 int : Int
 bool : Bool
 text : List UInt8
def Vl.cells (v : Vl) : List Value := [bv v.kind, .int .i64 v.int, .bool v.bool, str v.text]
def Vl.val (v : Vl) : Value := .agg v.cells.toArray
def Vl.same (a b : Vl) : Bool := decide ((a.kind.toNat : Int) = b.kind.toNat) && (decide (a.int = b.int) && ((a.bool == b.bool) && decide (a.text = b.text)))
theorem Vl.cells_one (v : Vl) : ∀ u ∈ v.cells, u.oneCell' = true := by
 intro u hu
 simp only [Vl.cells, List.mem_cons, List.not_mem_nil, or_false] at hu
 rcases hu with rfl | rfl | rfl | rfl <;> rfl
def zeroVl : Vl := ⟨0, 0, false, []⟩
theorem MX : (prog.info? 95).map (·.zero) = some (some zeroVl.val) := by kernel_rfl
theorem EI : (prog.info? 95).map (·.size) = some 4 := by kernel_rfl
theorem W5 (n : Int) : prog.built 95 [(0, .int .u8 1), (1, .int .i64 n)] = some (Vl.cells ⟨1, n, false, []⟩).toArray := by kernel_rfl
theorem XL (b : Bool) : prog.built 95 [(0, .int .u8 2), (2, .bool b)] = some (Vl.cells ⟨2, 0, b, []⟩).toArray := by kernel_rfl
theorem XF (l : List UInt8) : prog.built 95 [(0, .int .u8 3), (3, str l)] = some (Vl.cells ⟨3, 0, false, l⟩).toArray := by kernel_rfl
section
variable {P : Program} {e : Env} {w : World} {n : Nat}
theorem E8 {fn : Func} {R : Ending → World → Prop} {t ty g m : Nat} {d : TypeDesc} {xs : List Value} (hr : fn.results = #[.cell t ty]) (hv : e.get t = some (.pointer (some ⟨g, 0, none⟩))) (hrd : Rd w (some ⟨g, 0, none⟩) m xs) (hu : P.underlying ty = some d) (hd : d.isRow = true) (hi : (P.info? ty).map (·.size) = some m)
 (h : R (.returned (.agg xs.toArray)) w) : QX (bodyPost P fn R) .ret n e w := .mk fun a ha => by
 have hc : w.rangeAt g 0 xs := fun j v hv => by
  have hj : 0 < m := by have := (List.getElem?_eq_some_iff.1 hv).1; have := hrd.1; omega
  obtain ⟨b', off', e, hc⟩ := hrd.2 hj
  injection e with e; injection e with e1 e2 _; subst e1; subst e2
  exact hc j v hv
 have hrun := run_loadVar_mid (P := P) w g 0 ty xs d hc hu hd (by rw [hrd.1]; exact hi)
 have : (results fn a.tmps).run P w = .ok (.agg xs.toArray) w := by simp [results, hr, ha.get t _ hv, asAddr, hrun]
 exact ⟨ha.defers, _, this, h⟩
end
theorem iH (i : Int) (w : World) : Calls prog 106 #[.int .i64 i] w fun e w' => e = .returned (Vl.val ⟨1, i, false, []⟩) ∧ Fr0 w w' := by
 refine AJ (vs := [_]) func106 rfl ntmps106 rfl (A9 (A0 (CM (some 2) (AA rfl) rfl rfl (fun ρ hρ => C6 95 rfl _ _ MX rfl) ?_)))
 rintro _ w1 ⟨g, rfl, hg1, hg2, hb, hf⟩
 refine A4 (A5 (A9 (A0 (yb rfl (ya rfl (BU rfl rfl (W5 i)) (CM none (AA rfl) rfl rfl (fun ρ hρ => BW 95 (.tmp 2) (.tmp 4) rfl g 0 95 _ (Vl.cells ⟨1, i, false, []⟩) (hρ _ _ rfl) (hρ _ _ rfl) hb EI (by show 0 + 4 ≤ 4; omega) (Vl.cells_one _)) ?_))))))
 rintro _ w2 ⟨rfl, hb2, hf2⟩
 rw [QP zeroVl.cells (Vl.cells ⟨1, i, false, []⟩) rfl] at hb2
 exact A4 (A5 (AF (E8 rfl rfl (Rd.ofBlk hb2 rfl) underlying95 rfl EI ⟨rfl, hf.step hf2 (fun k hk e => by omega)⟩)))
theorem kV (i : Bool) (w : World) : Calls prog 107 #[.bool i] w fun e w' => e = .returned (Vl.val ⟨2, 0, i, []⟩) ∧ Fr0 w w' := by
 refine AJ (vs := [_]) func107 rfl ntmps107 rfl (A9 (A0 (CM (some 2) (AA rfl) rfl rfl (fun ρ hρ => C6 95 rfl _ _ MX rfl) ?_)))
 rintro _ w1 ⟨g, rfl, hg1, hg2, hb, hf⟩
 refine A4 (A5 (A9 (A0 (yb rfl (ya rfl (BU rfl rfl (XL i)) (CM none (AA rfl) rfl rfl (fun ρ hρ => BW 95 (.tmp 2) (.tmp 4) rfl g 0 95 _ (Vl.cells ⟨2, 0, i, []⟩) (hρ _ _ rfl) (hρ _ _ rfl) hb EI (by show 0 + 4 ≤ 4; omega) (Vl.cells_one _)) ?_))))))
 rintro _ w2 ⟨rfl, hb2, hf2⟩
 rw [QP zeroVl.cells (Vl.cells ⟨2, 0, i, []⟩) rfl] at hb2
 exact A4 (A5 (AF (E8 rfl rfl (Rd.ofBlk hb2 rfl) underlying95 rfl EI ⟨rfl, hf.step hf2 (fun k hk e => by omega)⟩)))
theorem kK (i : List UInt8) (w : World) : Calls prog 108 #[str i] w fun e w' => e = .returned (Vl.val ⟨3, 0, false, i⟩) ∧ Fr0 w w' := by
 refine AJ (vs := [_]) func108 rfl ntmps108 rfl (A9 (A0 (CM (some 2) (AA rfl) rfl rfl (fun ρ hρ => C6 95 rfl _ _ MX rfl) ?_)))
 rintro _ w1 ⟨g, rfl, hg1, hg2, hb, hf⟩
 refine A4 (A5 (A9 (A0 (yb rfl (ya rfl (BU rfl rfl (XF i)) (CM none (AA rfl) rfl rfl (fun ρ hρ => BW 95 (.tmp 2) (.tmp 4) rfl g 0 95 _ (Vl.cells ⟨3, 0, false, i⟩) (hρ _ _ rfl) (hρ _ _ rfl) hb EI (by show 0 + 4 ≤ 4; omega) (Vl.cells_one _)) ?_))))))
 rintro _ w2 ⟨rfl, hb2, hf2⟩
 rw [QP zeroVl.cells (Vl.cells ⟨3, 0, false, i⟩) rfl] at hb2
 exact A4 (A5 (AF (E8 rfl rfl (Rd.ofBlk hb2 rfl) underlying95 rfl EI ⟨rfl, hf.step hf2 (fun k hk e => by omega)⟩)))
theorem PR : prog.eqGuardType prog.depth 95 = false := by kernel_rfl
theorem R8 : prog.stoodInHeld 95 = false := by kernel_rfl
theorem NF : prog.underlying 95 = some (.struct (prog.fieldsOf 95)) := by kernel_rfl
theorem BX {P : Program} {w : World} {f : Field} {fs : List Field} {d : Nat} {xs ys : Array Value} {a b : Value} {r : Bool} (hn : f.name ≠ "_") (ha : (part f.type xs f.offset).run P w = .ok a w) (hb : (part f.type ys f.offset).run P w = .ok b w)
 (hr : (Op.equalIn d f.type a b).run P w = .ok r w) : (Op.eqFields d xs ys (f :: fs)).run P w = if r then (Op.eqFields d xs ys fs).run P w else .ok false w := by
 simp only [Op.eqFields, if_pos hn, Sem.run_bind, ha, hb, hr, Result.andThen_ok]
 cases r <;> simp
theorem BQ {P : Program} {w : World} {t : TypeId} {xs : Array Value} {off : Nat} {v : Value} (ha : (isAgg t).run P w = .ok false w) (hx : xs[off]? = some v) : (part t xs off).run P w = .ok v w := by simp [part, ha, hx]
theorem ZW {e : Env} {w : World} {o : Oper} {t' : Nat} {x y : Operand} {a b : Vl} (ho : o.op = .binOp .eql 95 x y t') (hx : ev e x = some a.val) (hy : ev e y = some b.val) : Y prog e o w (.bool (a.same b)) := fun ρ h => by
 have h1 : ρ x = .agg a.cells.toArray := h _ _ hx
 have h2 : ρ y = .agg b.cells.toArray := h _ _ hy
 have hg := run_eqGuard_agg (P := prog) w .eql 95 x y a.cells.toArray b.cells.toArray PR
 have hrun : (Op.equalIn 10000 95 (.agg a.cells.toArray) (.agg b.cells.toArray)).run prog w = .ok (a.same b) w := by
  rw [run_equalIn_struct w 9999 95 _ _ NF R8]
  have hl : (prog.fieldsOf 95).toList = (match prog.underlying 95 with | some (.struct fs) => fs.toList | _ => []) := by unfold Program.fieldsOf; rw [underlying95]
  rw [hl, underlying95]
  simp only
  rw [BX (a := .int .u8 (a.kind.toNat : Int)) (b := .int .u8 (b.kind.toNat : Int)) (by decide) (BQ (isAgg5 w) rfl) (BQ (isAgg5 w) rfl) (run_equalIn_int w 9998 5 _ _ _ _ underlying5),
   BX (a := .int .i64 a.int) (b := .int .i64 b.int) (by decide) (BQ (isAgg2 w) rfl) (BQ (isAgg2 w) rfl) (run_equalIn_int w 9998 2 _ _ _ _ underlying2),
   BX (a := .bool a.bool) (b := .bool b.bool) (by decide) (BQ (isAgg4 w) rfl) (BQ (isAgg4 w) rfl) (run_equalIn_bool' w 9998 4 _ _ underlying4),
   BX (a := str a.text) (b := str b.text) (by decide) (BQ (isAgg9 w) rfl) (BQ (isAgg9 w) rfl) (run_equalIn_string w 9998 9 _ _ underlying9)]
  have ht : ((⟨a.text.toArray⟩ : ByteArray).toList == (⟨b.text.toArray⟩ : ByteArray).toList) = decide (a.text = b.text) := by
   rw [ByteArray.toList_eq, ByteArray.toList_eq]
   by_cases h : a.text = b.text <;> simp [h]
  rw [ht]
  simp only [Op.eqFields, Sem.run_pure]
  unfold Vl.same
  by_cases h1 : (a.kind.toNat : Int) = b.kind.toNat <;> by_cases h2 : a.int = b.int <;> by_cases h3 : a.bool = b.bool <;> by_cases h4 : a.text = b.text <;> simp [h1, h2, h3, h4]
 unfold execOp
 simp only [ho, h1, h2, Sem.run_bind, hg, Result.andThen_ok, run_eql_struct, hrun]
 rfl
end
def ES (c : UInt8) : Bool := (97 ≤ c.toNat && c.toNat ≤ 122) || (65 ≤ c.toNat && c.toNat ≤ 90)
def KN (c : UInt8) : Bool := (48 ≤ c.toNat && c.toNat ≤ 57) || c.toNat == 45 || c.toNat == 95 || c.toNat == 46
def IN : Nat → List UInt8 → Bool
 | _, [] => true
 | i, c :: l => (ES c || (KN c && i != 0)) && IN (i + 1) l
def BL (l : List UInt8) : Bool := decide (1 ≤ l.length) && decide (l.length ≤ 32) && IN 0 l
section
structure Bd where
 name : List UInt8
 v : Vl
def Bd.cells (b : Bd) : List Value := str b.name :: b.v.cells
def xK (l : List Bd) : List (List Value) := l.map Bd.cells
def yE (l : List Bd) : List Value := (xK l).flatten
structure ElD (w : World) (b off : Nat) (x : Bd) : Prop where
 name : Cell w.heap b (off + 0) (str x.name)
 kind : Cell w.heap b (off + 1 + 0) (.int .u8 (x.v.kind.toNat : Int))
 val : Rd w (some ⟨b, off + 1, none⟩) 4 x.v.cells
 all : Rd w (some ⟨b, off, none⟩) 5 x.cells
theorem Bd.cells_one (b : Bd) : ∀ u ∈ b.cells, u.oneCell' = true := by
 intro u hu
 simp only [Bd.cells, Vl.cells, List.mem_cons, List.not_mem_nil, or_false] at hu
 rcases hu with rfl | rfl | rfl | rfl | rfl <;> rfl
section
variable {P : Program} {e : Env} {w : World} {n : Nat}
theorem NR {fn : Func} {R : Ending → World → Prop} {t ty g m u : Nat} {v : Value} {d : TypeDesc} {xs : List Value} (hr : fn.results = #[.cell t ty, .tmp u]) (hv : e.get t = some (.pointer (some ⟨g, 0, none⟩))) (hrd : Rd w (some ⟨g, 0, none⟩) m xs) (hu : P.underlying ty = some d) (hd : d.isRow = true) (hi : (P.info? ty).map (·.size) = some m)
 (hv' : e.get u = some v) (h : R (.returned (.tuple #[.agg xs.toArray, v])) w) : QX (bodyPost P fn R) .ret n e w := .mk fun a ha => by
 have hc : w.rangeAt g 0 xs := fun j v hv => by
  have hj : 0 < m := by have := (List.getElem?_eq_some_iff.1 hv).1; have := hrd.1; omega
  obtain ⟨b', off', e, hc⟩ := hrd.2 hj
  injection e with e; injection e with e1 e2 _; subst e1; subst e2
  exact hc j v hv
 have hrun := run_loadVar_mid (P := P) w g 0 ty xs d hc hu hd (by rw [hrd.1]; exact hi)
 have : (results fn a.tmps).run P w = .ok (.tuple #[.agg xs.toArray, v]) w := by simp [results, hr, ha.get t _ hv, ha.get u _ hv', asAddr, hrun]
 exact ⟨ha.defers, _, this, h⟩
theorem L5 {fn : Func} {R : Ending → World → Prop} {t ty g m u u2 : Nat} {v v2 : Value} {d : TypeDesc} {xs : List Value} (hr : fn.results = #[.cell t ty, .tmp u, .tmp u2]) (hv : e.get t = some (.pointer (some ⟨g, 0, none⟩))) (hrd : Rd w (some ⟨g, 0, none⟩) m xs) (hu : P.underlying ty = some d) (hd : d.isRow = true) (hi : (P.info? ty).map (·.size) = some m)
 (hv' : e.get u = some v) (hv2 : e.get u2 = some v2) (h : R (.returned (.tuple #[.agg xs.toArray, v, v2])) w) : QX (bodyPost P fn R) .ret n e w := .mk fun a ha => by
 have hc : w.rangeAt g 0 xs := fun j v hv => by
  have hj : 0 < m := by have := (List.getElem?_eq_some_iff.1 hv).1; have := hrd.1; omega
  obtain ⟨b', off', e, hc⟩ := hrd.2 hj
  injection e with e; injection e with e1 e2 _; subst e1; subst e2
  exact hc j v hv
 have hrun := run_loadVar_mid (P := P) w g 0 ty xs d hc hu hd (by rw [hrd.1]; exact hi)
 have : (results fn a.tmps).run P w = .ok (.tuple #[.agg xs.toArray, v, v2]) w := by simp [results, hr, ha.get t _ hv, ha.get u _ hv', ha.get u2 _ hv2, asAddr, hrun]
 exact ⟨ha.defers, _, this, h⟩
end
structure BdOk (l : List Bd) : Prop where
 len : (l.length : Int) < 4611686018427387904
 name : ∀ x ∈ l, (x.name.length : Int) < 4611686018427387904
 text : ∀ x ∈ l, (x.v.text.length : Int) < 4611686018427387904
end
structure El where
 id : List UInt8
 nm : List UInt8
 kind : UInt8
 inn : List UInt8
 dflt : List UInt8
 att : List UInt8
 ev : UInt8
 ref : List UInt8
 key : List UInt8
 ticks : Int
 tries : Int
def El.cells (x : El) : List Value := [str x.id, str x.nm, .int .u8 (x.kind.toNat : Int), str x.inn, str x.dflt, str x.att, .int .u8 (x.ev.toNat : Int), str x.ref, str x.key, .int .i64 x.ticks, .int .i64 x.tries]
theorem El.cells_one (x : El) : ∀ u ∈ x.cells, u.oneCell' = true := AY rfl
theorem El.len (x : El) : x.cells.length = 11 := rfl
def zeroEl : El := ⟨[], [], 0, [], [], [], 0, [], [], 0, 0⟩
structure Fl where
 id : List UInt8
 frm : List UInt8
 tg : List UInt8
 cond : List UInt8
def Fl.cells (x : Fl) : List Value := [str x.id, str x.frm, str x.tg, str x.cond]
theorem Fl.cells_one (x : Fl) : ∀ u ∈ x.cells, u.oneCell' = true := AY rfl
theorem Fl.len (x : Fl) : x.cells.length = 4 := rfl
def zeroFl : Fl := ⟨[], [], [], []⟩
theorem Bd.len (x : Bd) : x.cells.length = 5 := rfl
structure Md where
 id : List UInt8
 nm : List UInt8
 vars : List Bd
 els : List El
 fls : List Fl
structure MdA where
 V : Option Addr
 vc : Nat
 E : Option Addr
 ec : Nat
 F : Option Addr
 fc : Nat
def Md.cells (m : Md) (a : MdA) : List Value := [str m.id, str m.nm, .slice a.V m.vars.length a.vc, .slice a.E m.els.length a.ec, .slice a.F m.fls.length a.fc]
structure MdIn (w : World) (m : Md) (a : MdA) : Prop where
 vars : Rd w a.V (m.vars.length * 5) (AS Bd.cells m.vars)
 els : Rd w a.E (m.els.length * 11) (AS El.cells m.els)
 fls : Rd w a.F (m.fls.length * 4) (AS Fl.cells m.fls)
theorem MdIn.fr0 {w w' : World} {m : Md} {a : MdA} (h : MdIn w m a) (hf : Fr0 w w') : MdIn w' m a := ⟨h.vars.fr0 hf, h.els.fr0 hf, h.fls.fr0 hf⟩
structure ElOk (x : El) : Prop where
 id : (x.id.length : Int) < 4611686018427387904
 nm : (x.nm.length : Int) < 4611686018427387904
 inn : (x.inn.length : Int) < 4611686018427387904
 dflt : (x.dflt.length : Int) < 4611686018427387904
 att : (x.att.length : Int) < 4611686018427387904
 ref : (x.ref.length : Int) < 4611686018427387904
 key : (x.key.length : Int) < 4611686018427387904
structure FlOk (x : Fl) : Prop where
 id : (x.id.length : Int) < 4611686018427387904
 frm : (x.frm.length : Int) < 4611686018427387904
 tg : (x.tg.length : Int) < 4611686018427387904
 cond : (x.cond.length : Int) < 4611686018427387904
structure MdOk (m : Md) : Prop where
 id : (m.id.length : Int) < 4611686018427387904
 nm : (m.nm.length : Int) < 4611686018427387904
 vars : BdOk m.vars
 nels : m.els.length ≤ 200
 nfls : m.fls.length ≤ 400
 nvars : m.vars.length ≤ 200
 els : ∀ x ∈ m.els, ElOk x
 fls : ∀ x ∈ m.fls, FlOk x
theorem B7 : (prog.info? 39).map (·.zero) = some (some (.agg zeroEl.cells.toArray)) := by kernel_rfl
theorem AP : (prog.info? 39).map (·.size) = some 11 := by kernel_rfl
theorem C8 : (prog.info? 41).map (·.size) = some 4 := by kernel_rfl
theorem FW : (prog.info? 41).map (·.zero) = some (some (.agg zeroFl.cells.toArray)) := by kernel_rfl
theorem BC : (prog.info? 26).map (·.size) = some 5 := by kernel_rfl
theorem J1 : (prog.info? 97).map (·.size) = some 5 := by kernel_rfl
theorem FA : (prog.info? 95).map (·.size) = some 4 := by kernel_rfl
theorem CR : (prog.info? 9).map (fun i => (i.zero, i.size)) = some (some (str []), 1) := by kernel_rfl
theorem JA : (prog.info? 9).map (fun i => (i.zero, i.size, i.bytes)) = some (some (str []), 1, 16) := by kernel_rfl
structure PredJ {α : Type} (P : Program) (f : FuncId) (cs : List Value) (av : α → Value) (l : List α) (p : Nat → α → Bool) (S : Nat → Prop) (J : Nat → World → Prop) (w : World) : Prop where
 fn : ∀ (us : Array Value) (w : World), (callFunc f us).run P w = .ok (.enter f us) w
 call : ∀ (i : Nat) (x : α) (w1 : World), l[i]? = some x → Fr S w w1 → J i w1 → Calls P f (av x :: cs).toArray w1 fun e w2 => e = .returned (.bool (p i x)) ∧ J (i + 1) w2 ∧ Fr S w1 w2
 st : ∀ (i : Nat) (w1 w2 : World), Fr0 w1 w2 → J i w1 → J i w2
 old : ∀ g, S g → g < w.heap.size
def ixJ {α : Type} (p : Nat → α → Bool) : Nat → List α → Int
 | _, [] => -1
 | i, x :: r => if p i x = true then (i : Int) else ixJ p (i + 1) r
def ixN {α : Type} (p : Nat → α → Bool) : Nat → List α → Nat
 | i, [] => i
 | i, x :: r => if p i x = true then i + 1 else ixN p (i + 1) r
theorem KI {α : Type} (p : α → Bool) : ∀ (l : List α) (i : Nat), decide (0 ≤ ixJ (fun _ => p) i l) = l.any p
 | [], i => by simp [ixJ]
 | x :: r, i => by
  rw [ixJ, List.any_cons]
  by_cases h : p x = true
  ·rw [if_pos h, h]; simp
  ·rw [if_neg h, KI p r (i + 1)]; simp [h]
def ffN {α : Type} (p : Nat → α → Bool) : Nat → List α → Option α
 | _, [] => none
 | i, x :: r => if p i x = true then ffN p (i + 1) r else some x
theorem QW {α : Type} (p : Nat → α → Bool) : ∀ (l : List α) (i : Nat), (ixJ (fun i x => !(p i x)) i l = -1 ∧ ffN p i l = none) ∨ ∃ j x, ixJ (fun i x => !(p i x)) i l = ((i + j : Nat) : Int) ∧ l[j]? = some x ∧ ffN p i l = some x
 | [], i => .inl ⟨rfl, rfl⟩
 | x :: r, i => by
  by_cases h : p i x = true
  ·rw [ixJ, if_neg (by simp [h]), ffN, if_pos h]
   rcases QW p r (i + 1) with h1 | ⟨j, y, h1, h2, h3⟩
   ·exact .inl h1
   ·right; exact ⟨j + 1, y, by rw [h1]; congr 1; omega, h2, h3⟩
  ·right; exact ⟨0, x, by rw [ixJ, if_pos (by simp [h])]; rfl, rfl, by rw [ffN, if_neg h]⟩
theorem Mem.one {w : World} {g t : Nat} {cs : List Value} (h : Blk w g t cs) : Mem w (fun k => k = g) [As.blk g t cs] w where
 fr := Fr.refl
 ok i a hi := by
  cases i with
  | zero => simp only [List.getElem?_cons_zero, Option.some.injEq] at hi; subst hi; exact h
  | succ i => simp at hi
 lt i a hi g' hg' := by
  cases i with
  | zero =>
   simp only [List.getElem?_cons_zero, Option.some.injEq] at hi; subst hi
   simp only [As.blk, List.mem_singleton] at hg'; subst hg'
   exact ⟨h.lt, .inr rfl⟩
  | succ i => simp at hi
 apart i j a b hi hj hne := by
  cases i with
  | zero =>
   cases j with
   | zero => exact absurd rfl hne
   | succ j => simp at hj
  | succ i => simp at hi
theorem AR : (prog.info? 129).map (·.size) = some 7 := by kernel_rfl
theorem QZ {α : Type} (cells : α → List Value) (hk : ∀ x, (cells x).length = 11) (A : Option Addr) (c : Nat) (l : List α) (hl : l.length ≤ 4611686018427387904) (f : FuncId) (cs : List Value) (p : Nat → α → Bool) (S : Nat → Prop) (J : Nat → World → Prop) (w : World) (hP : PredJ prog f cs (fun x => .agg (cells x).toArray) l p S J w) (hR : ∀ w1, Fr S w w1 → Rd w1 A (l.length * 11) (AS cells l)) (hJ : J 0 w) :
 Calls prog 32 #[.slice A l.length c, .func (.func f) #[] cs.toArray] w fun e w' => e = .returned (.int .i64 (ixJ p 0 l)) ∧ J (ixN p 0 l) w' ∧ Fr S w w' := by
 refine AJ (vs := [_, _]) func32 rfl ntmps32 rfl ?_
 have M : Mem w S [] w := Mem.nil w
 refine A9 (A0 (yb rfl (A4 (A5 (A9 (A9 (A0 (yb rfl (ya rfl (CS rfl rfl (sl rfl)) (yb rfl (A4 (A5 (AV (CL (fun e wr mz => ∃ (i : Nat), e = [(0, .slice A l.length c), (1, .func (.func f) #[] cs.toArray), (7, .int .i64 ((l.length : Nat) : Int)), (8, .int .i64 ((i : Nat) : Int))] ∧ Mem w S [] wr ∧ (i ≤ l.length) ∧ (J i wr) ∧ (ixJ p 0 l = ixJ p i (l.drop i)) ∧ (ixN p 0 l = ixN p i (l.drop i)) ∧ mz = l.length - i) ⟨0, rfl, M, Nat.zero_le _, hJ, rfl, rfl, rfl⟩ ⟨rfl, rfl, rfl, rfl, trivial⟩ ?_))))))))))))))
 rintro _ w1 _ ⟨i, rfl, M, hi, hJ, hr, hn, rfl⟩
 refine A9 (A0 (ya rfl (CB rfl rfl rfl) (A4 (A5 (A9 (AT (b := (decide (((i : Nat) : Int) < ((l.length : Nat) : Int)))) rfl (fun h9 => ?_) (fun h9 => ?_)))))))
 ·have h9p := (odt h9)
  refine AN (A5 (A9 (AV (A9 (A0 (yb rfl (yb rfl (A4 (A5 (A9 (A0 (yb rfl (yb rfl (yb rfl ?_))))))))))))))
  obtain ⟨x, hx⟩ := DA (l := l) (i := i) (by omega)
  obtain ⟨b_x, o_x, hA_x⟩ := C7 (k := 11) (by omega) (hR _ M.fr) hx
  refine ya rfl (BM i hA_x rfl rfl rfl (sl rfl) (by omega)) (ya rfl (AU rfl rfl (DD hk (hR _ M.fr) hA_x hx) underlying39 rfl AP) (cl 16 rfl (BK rfl rfl rfl hP.fn) (hP.call i x _ hx M.fr hJ) ?_))
  rintro _ w9 ⟨rfl, hJ, hf9⟩
  refine ⟨_, rfl, ?_⟩
  have M : Mem w S [] w9 := Mem.ofFr (M.fr.trans hf9)
  refine A4 (A5 (AT (b := (p i x)) rfl (fun h16 => ?_) (fun h16 => ?_)))
  ·exact A9 (A0 (yb rfl (yb rfl (A4 (A5 (AF (AL (AB (AB (AL (AB (AK rfl rfl ⟨by rw [hr, BH hx, ixJ, if_pos h16], by rw [hn, BH hx, ixN, if_pos h16]; exact hJ, M.fr⟩))))))))))))
  ·refine AN (AC (A5 (A0 (ya rfl (CI rfl rfl rfl (by omega)) (yb rfl (A4 (BF [(0, .slice A l.length c), (1, .func (.func f) #[] cs.toArray), (7, .int .i64 ((l.length : Nat) : Int)), (8, .int .i64 (((i + 1) : Nat) : Int))] (l.length - (i + 1)) ⟨i + 1, rfl, M, ?_, ?_, ?_, ?_, rfl⟩ (by first | omega | (simp <;> omega)) ⟨rfl, rfl, rfl, rfl, trivial⟩)))))))
   ·omega
   ·exact hJ
   ·rw [hr, BH hx, ixJ, if_neg (BE h16)]
   ·rw [hn, BH hx, ixN, if_neg (BE h16)]
 ·have h9p := (odf h9)
  refine C2 (AG (AG (B5 (A5 (A9 (A0 (yb rfl (A4 (A5 (AF (AK rfl rfl ?_)))))))))))
  obtain rfl : i = l.length := by omega
  exact ⟨by rw [hr, List.drop_length]; rfl, by rw [hn, List.drop_length]; exact hJ, M.fr⟩
theorem oY {α : Type} (cells : α → List Value) (hk : ∀ x, (cells x).length = 11) (A : Option Addr) (c : Nat) (l : List α) (hl : l.length ≤ 4611686018427387904) (f : FuncId) (cs : List Value) (p : Nat → α → Bool) (S : Nat → Prop) (J : Nat → World → Prop) (w : World) (hP : PredJ prog f cs (fun x => .agg (cells x).toArray) l p S J w) (hR : ∀ w1, Fr S w w1 → Rd w1 A (l.length * 11) (AS cells l)) (hJ : J 0 w) :
 Calls prog 83 #[.slice A l.length c, .func (.func f) #[] cs.toArray] w fun e w' => e = .returned (.bool (decide (0 ≤ ixJ p 0 l))) ∧ J (ixN p 0 l) w' ∧ Fr S w w' := by
 refine AJ (vs := [_, _]) func83 rfl ntmps83 rfl ?_
 have M : Mem w S [] w := Mem.nil w
 refine A9 (A0 (yb rfl (A4 (A5 (A9 (A0 (yb rfl (yb rfl (cl 7 rfl (AE rfl rfl call32) (QZ cells hk A c l hl f cs p S J _ hP hR hJ) ?_)))))))))
 rintro _ w9 ⟨rfl, hJ, hf9⟩
 refine ⟨_, rfl, ?_⟩
 have M : Mem w S [] w9 := Mem.ofFr hf9
 exact ya rfl (FG rfl rfl rfl) (yb rfl (A4 (A5 (AF (AK rfl rfl ⟨rfl, hJ, M.fr⟩)))))
theorem eO {α : Type} (cells : α → List Value) (hk : ∀ x, (cells x).length = 4) (A : Option Addr) (c : Nat) (l : List α) (hl : l.length ≤ 4611686018427387904) (f : FuncId) (cs : List Value) (p : Nat → α → Bool) (S : Nat → Prop) (J : Nat → World → Prop) (w : World) (hP : PredJ prog f cs (fun x => .agg (cells x).toArray) l p S J w) (hR : ∀ w1, Fr S w w1 → Rd w1 A (l.length * 4) (AS cells l)) (hJ : J 0 w) :
 Calls prog 110 #[.slice A l.length c, .func (.func f) #[] cs.toArray] w fun e w' => e = .returned (.int .i64 (ixJ p 0 l)) ∧ J (ixN p 0 l) w' ∧ Fr S w w' := by
 refine AJ (vs := [_, _]) func110 rfl ntmps110 rfl ?_
 have M : Mem w S [] w := Mem.nil w
 refine A9 (A0 (yb rfl (A4 (A5 (A9 (A9 (A0 (yb rfl (ya rfl (CS rfl rfl (sl rfl)) (yb rfl (A4 (A5 (AV (CL (fun e wr mz => ∃ (i : Nat), e = [(0, .slice A l.length c), (1, .func (.func f) #[] cs.toArray), (7, .int .i64 ((l.length : Nat) : Int)), (8, .int .i64 ((i : Nat) : Int))] ∧ Mem w S [] wr ∧ (i ≤ l.length) ∧ (J i wr) ∧ (ixJ p 0 l = ixJ p i (l.drop i)) ∧ (ixN p 0 l = ixN p i (l.drop i)) ∧ mz = l.length - i) ⟨0, rfl, M, Nat.zero_le _, hJ, rfl, rfl, rfl⟩ ⟨rfl, rfl, rfl, rfl, trivial⟩ ?_))))))))))))))
 rintro _ w1 _ ⟨i, rfl, M, hi, hJ, hr, hn, rfl⟩
 refine A9 (A0 (ya rfl (CB rfl rfl rfl) (A4 (A5 (A9 (AT (b := (decide (((i : Nat) : Int) < ((l.length : Nat) : Int)))) rfl (fun h9 => ?_) (fun h9 => ?_)))))))
 ·have h9p := (odt h9)
  refine AN (A5 (A9 (AV (A9 (A0 (yb rfl (yb rfl (A4 (A5 (A9 (A0 (yb rfl (yb rfl (yb rfl ?_))))))))))))))
  obtain ⟨x, hx⟩ := DA (l := l) (i := i) (by omega)
  obtain ⟨b_x, o_x, hA_x⟩ := C7 (k := 4) (by omega) (hR _ M.fr) hx
  refine ya rfl (BM i hA_x rfl rfl rfl (sl rfl) (by omega)) (ya rfl (AU rfl rfl (DD hk (hR _ M.fr) hA_x hx) underlying41 rfl C8) (cl 16 rfl (BK rfl rfl rfl hP.fn) (hP.call i x _ hx M.fr hJ) ?_))
  rintro _ w9 ⟨rfl, hJ, hf9⟩
  refine ⟨_, rfl, ?_⟩
  have M : Mem w S [] w9 := Mem.ofFr (M.fr.trans hf9)
  refine A4 (A5 (AT (b := (p i x)) rfl (fun h16 => ?_) (fun h16 => ?_)))
  ·exact A9 (A0 (yb rfl (yb rfl (A4 (A5 (AF (AL (AB (AB (AL (AB (AK rfl rfl ⟨by rw [hr, BH hx, ixJ, if_pos h16], by rw [hn, BH hx, ixN, if_pos h16]; exact hJ, M.fr⟩))))))))))))
  ·refine AN (AC (A5 (A0 (ya rfl (CI rfl rfl rfl (by omega)) (yb rfl (A4 (BF [(0, .slice A l.length c), (1, .func (.func f) #[] cs.toArray), (7, .int .i64 ((l.length : Nat) : Int)), (8, .int .i64 (((i + 1) : Nat) : Int))] (l.length - (i + 1)) ⟨i + 1, rfl, M, ?_, ?_, ?_, ?_, rfl⟩ (by first | omega | (simp <;> omega)) ⟨rfl, rfl, rfl, rfl, trivial⟩)))))))
   ·omega
   ·exact hJ
   ·rw [hr, BH hx, ixJ, if_neg (BE h16)]
   ·rw [hn, BH hx, ixN, if_neg (BE h16)]
 ·have h9p := (odf h9)
  refine C2 (AG (AG (B5 (A5 (A9 (A0 (yb rfl (A4 (A5 (AF (AK rfl rfl ?_)))))))))))
  obtain rfl : i = l.length := by omega
  exact ⟨by rw [hr, List.drop_length]; rfl, by rw [hn, List.drop_length]; exact hJ, M.fr⟩
theorem oX {α : Type} (cells : α → List Value) (hk : ∀ x, (cells x).length = 4) (A : Option Addr) (c : Nat) (l : List α) (hl : l.length ≤ 4611686018427387904) (f : FuncId) (cs : List Value) (p : Nat → α → Bool) (S : Nat → Prop) (J : Nat → World → Prop) (w : World) (hP : PredJ prog f cs (fun x => .agg (cells x).toArray) l p S J w) (hR : ∀ w1, Fr S w w1 → Rd w1 A (l.length * 4) (AS cells l)) (hJ : J 0 w) :
 Calls prog 73 #[.slice A l.length c, .func (.func f) #[] cs.toArray] w fun e w' => e = .returned (.bool (decide (0 ≤ ixJ p 0 l))) ∧ J (ixN p 0 l) w' ∧ Fr S w w' := by
 refine AJ (vs := [_, _]) func73 rfl ntmps73 rfl ?_
 have M : Mem w S [] w := Mem.nil w
 refine A9 (A0 (yb rfl (A4 (A5 (A9 (A0 (yb rfl (yb rfl (cl 7 rfl (AE rfl rfl call110) (eO cells hk A c l hl f cs p S J _ hP hR hJ) ?_)))))))))
 rintro _ w9 ⟨rfl, hJ, hf9⟩
 refine ⟨_, rfl, ?_⟩
 have M : Mem w S [] w9 := Mem.ofFr hf9
 exact ya rfl (FG rfl rfl rfl) (yb rfl (A4 (A5 (AF (AK rfl rfl ⟨rfl, hJ, M.fr⟩)))))
theorem WJ {α : Type} (cells : α → List Value) (hk : ∀ x, (cells x).length = 5) (A : Option Addr) (c : Nat) (l : List α) (hl : l.length ≤ 4611686018427387904) (f : FuncId) (cs : List Value) (p : Nat → α → Bool) (S : Nat → Prop) (J : Nat → World → Prop) (w : World) (hP : PredJ prog f cs (fun x => .agg (cells x).toArray) l p S J w) (hR : ∀ w1, Fr S w w1 → Rd w1 A (l.length * 5) (AS cells l)) (hJ : J 0 w) :
 Calls prog 104 #[.slice A l.length c, .func (.func f) #[] cs.toArray] w fun e w' => e = .returned (.int .i64 (ixJ p 0 l)) ∧ J (ixN p 0 l) w' ∧ Fr S w w' := by
 refine AJ (vs := [_, _]) func104 rfl ntmps104 rfl ?_
 have M : Mem w S [] w := Mem.nil w
 refine A9 (A0 (yb rfl (A4 (A5 (A9 (A9 (A0 (yb rfl (ya rfl (CS rfl rfl (sl rfl)) (yb rfl (A4 (A5 (AV (CL (fun e wr mz => ∃ (i : Nat), e = [(0, .slice A l.length c), (1, .func (.func f) #[] cs.toArray), (7, .int .i64 ((l.length : Nat) : Int)), (8, .int .i64 ((i : Nat) : Int))] ∧ Mem w S [] wr ∧ (i ≤ l.length) ∧ (J i wr) ∧ (ixJ p 0 l = ixJ p i (l.drop i)) ∧ (ixN p 0 l = ixN p i (l.drop i)) ∧ mz = l.length - i) ⟨0, rfl, M, Nat.zero_le _, hJ, rfl, rfl, rfl⟩ ⟨rfl, rfl, rfl, rfl, trivial⟩ ?_))))))))))))))
 rintro _ w1 _ ⟨i, rfl, M, hi, hJ, hr, hn, rfl⟩
 refine A9 (A0 (ya rfl (CB rfl rfl rfl) (A4 (A5 (A9 (AT (b := (decide (((i : Nat) : Int) < ((l.length : Nat) : Int)))) rfl (fun h9 => ?_) (fun h9 => ?_)))))))
 ·have h9p := (odt h9)
  refine AN (A5 (A9 (AV (A9 (A0 (yb rfl (yb rfl (A4 (A5 (A9 (A0 (yb rfl (yb rfl (yb rfl ?_))))))))))))))
  obtain ⟨x, hx⟩ := DA (l := l) (i := i) (by omega)
  obtain ⟨b_x, o_x, hA_x⟩ := C7 (k := 5) (by omega) (hR _ M.fr) hx
  refine ya rfl (BM i hA_x rfl rfl rfl (sl rfl) (by omega)) (ya rfl (AU rfl rfl (DD hk (hR _ M.fr) hA_x hx) underlying97 rfl J1) (cl 16 rfl (BK rfl rfl rfl hP.fn) (hP.call i x _ hx M.fr hJ) ?_))
  rintro _ w9 ⟨rfl, hJ, hf9⟩
  refine ⟨_, rfl, ?_⟩
  have M : Mem w S [] w9 := Mem.ofFr (M.fr.trans hf9)
  refine A4 (A5 (AT (b := (p i x)) rfl (fun h16 => ?_) (fun h16 => ?_)))
  ·exact A9 (A0 (yb rfl (yb rfl (A4 (A5 (AF (AL (AB (AB (AL (AB (AK rfl rfl ⟨by rw [hr, BH hx, ixJ, if_pos h16], by rw [hn, BH hx, ixN, if_pos h16]; exact hJ, M.fr⟩))))))))))))
  ·refine AN (AC (A5 (A0 (ya rfl (CI rfl rfl rfl (by omega)) (yb rfl (A4 (BF [(0, .slice A l.length c), (1, .func (.func f) #[] cs.toArray), (7, .int .i64 ((l.length : Nat) : Int)), (8, .int .i64 (((i + 1) : Nat) : Int))] (l.length - (i + 1)) ⟨i + 1, rfl, M, ?_, ?_, ?_, ?_, rfl⟩ (by first | omega | (simp <;> omega)) ⟨rfl, rfl, rfl, rfl, trivial⟩)))))))
   ·omega
   ·exact hJ
   ·rw [hr, BH hx, ixJ, if_neg (BE h16)]
   ·rw [hn, BH hx, ixN, if_neg (BE h16)]
 ·have h9p := (odf h9)
  refine C2 (AG (AG (B5 (A5 (A9 (A0 (yb rfl (A4 (A5 (AF (AK rfl rfl ?_)))))))))))
  obtain rfl : i = l.length := by omega
  exact ⟨by rw [hr, List.drop_length]; rfl, by rw [hn, List.drop_length]; exact hJ, M.fr⟩
theorem oZ {α : Type} (cells : α → List Value) (hk : ∀ x, (cells x).length = 5) (A : Option Addr) (c : Nat) (l : List α) (hl : l.length ≤ 4611686018427387904) (f : FuncId) (cs : List Value) (p : Nat → α → Bool) (S : Nat → Prop) (J : Nat → World → Prop) (w : World) (hP : PredJ prog f cs (fun x => .agg (cells x).toArray) l p S J w) (hR : ∀ w1, Fr S w w1 → Rd w1 A (l.length * 5) (AS cells l)) (hJ : J 0 w) :
 Calls prog 88 #[.slice A l.length c, .func (.func f) #[] cs.toArray] w fun e w' => e = .returned (.bool (decide (0 ≤ ixJ p 0 l))) ∧ J (ixN p 0 l) w' ∧ Fr S w w' := by
 refine AJ (vs := [_, _]) func88 rfl ntmps88 rfl ?_
 have M : Mem w S [] w := Mem.nil w
 refine A9 (A0 (yb rfl (A4 (A5 (A9 (A0 (yb rfl (yb rfl (cl 7 rfl (AE rfl rfl call104) (WJ cells hk A c l hl f cs p S J _ hP hR hJ) ?_)))))))))
 rintro _ w9 ⟨rfl, hJ, hf9⟩
 refine ⟨_, rfl, ?_⟩
 have M : Mem w S [] w9 := Mem.ofFr hf9
 exact ya rfl (FG rfl rfl rfl) (yb rfl (A4 (A5 (AF (AK rfl rfl ⟨rfl, hJ, M.fr⟩)))))
theorem sW {α : Type} (cells : α → List Value) (hk : ∀ x, (cells x).length = 7) (A : Option Addr) (c : Nat) (l : List α) (hl : l.length ≤ 4611686018427387904) (f : FuncId) (cs : List Value) (p : Nat → α → Bool) (S : Nat → Prop) (J : Nat → World → Prop) (w : World) (hP : PredJ prog f cs (fun x => .agg (cells x).toArray) l p S J w) (hR : ∀ w1, Fr S w w1 → Rd w1 A (l.length * 7) (AS cells l)) (hJ : J 0 w) :
 Calls prog 174 #[.slice A l.length c, .func (.func f) #[] cs.toArray] w fun e w' => e = .returned (.int .i64 (ixJ p 0 l)) ∧ J (ixN p 0 l) w' ∧ Fr S w w' := by
 refine AJ (vs := [_, _]) func174 rfl ntmps174 rfl ?_
 have M : Mem w S [] w := Mem.nil w
 refine A9 (A0 (yb rfl (A4 (A5 (A9 (A9 (A0 (yb rfl (ya rfl (CS rfl rfl (sl rfl)) (yb rfl (A4 (A5 (AV (CL (fun e wr mz => ∃ (i : Nat), e = [(0, .slice A l.length c), (1, .func (.func f) #[] cs.toArray), (7, .int .i64 ((l.length : Nat) : Int)), (8, .int .i64 ((i : Nat) : Int))] ∧ Mem w S [] wr ∧ (i ≤ l.length) ∧ (J i wr) ∧ (ixJ p 0 l = ixJ p i (l.drop i)) ∧ (ixN p 0 l = ixN p i (l.drop i)) ∧ mz = l.length - i) ⟨0, rfl, M, Nat.zero_le _, hJ, rfl, rfl, rfl⟩ ⟨rfl, rfl, rfl, rfl, trivial⟩ ?_))))))))))))))
 rintro _ w1 _ ⟨i, rfl, M, hi, hJ, hr, hn, rfl⟩
 refine A9 (A0 (ya rfl (CB rfl rfl rfl) (A4 (A5 (A9 (AT (b := (decide (((i : Nat) : Int) < ((l.length : Nat) : Int)))) rfl (fun h9 => ?_) (fun h9 => ?_)))))))
 ·have h9p := (odt h9)
  refine AN (A5 (A9 (AV (A9 (A0 (yb rfl (yb rfl (A4 (A5 (A9 (A0 (yb rfl (yb rfl (yb rfl ?_))))))))))))))
  obtain ⟨x, hx⟩ := DA (l := l) (i := i) (by omega)
  obtain ⟨b_x, o_x, hA_x⟩ := C7 (k := 7) (by omega) (hR _ M.fr) hx
  refine ya rfl (BM i hA_x rfl rfl rfl (sl rfl) (by omega)) (ya rfl (AU rfl rfl (DD hk (hR _ M.fr) hA_x hx) underlying129 rfl AR) (cl 16 rfl (BK rfl rfl rfl hP.fn) (hP.call i x _ hx M.fr hJ) ?_))
  rintro _ w9 ⟨rfl, hJ, hf9⟩
  refine ⟨_, rfl, ?_⟩
  have M : Mem w S [] w9 := Mem.ofFr (M.fr.trans hf9)
  refine A4 (A5 (AT (b := (p i x)) rfl (fun h16 => ?_) (fun h16 => ?_)))
  ·exact A9 (A0 (yb rfl (yb rfl (A4 (A5 (AF (AL (AB (AB (AL (AB (AK rfl rfl ⟨by rw [hr, BH hx, ixJ, if_pos h16], by rw [hn, BH hx, ixN, if_pos h16]; exact hJ, M.fr⟩))))))))))))
  ·refine AN (AC (A5 (A0 (ya rfl (CI rfl rfl rfl (by omega)) (yb rfl (A4 (BF [(0, .slice A l.length c), (1, .func (.func f) #[] cs.toArray), (7, .int .i64 ((l.length : Nat) : Int)), (8, .int .i64 (((i + 1) : Nat) : Int))] (l.length - (i + 1)) ⟨i + 1, rfl, M, ?_, ?_, ?_, ?_, rfl⟩ (by first | omega | (simp <;> omega)) ⟨rfl, rfl, rfl, rfl, trivial⟩)))))))
   ·omega
   ·exact hJ
   ·rw [hr, BH hx, ixJ, if_neg (BE h16)]
   ·rw [hn, BH hx, ixN, if_neg (BE h16)]
 ·have h9p := (odf h9)
  refine C2 (AG (AG (B5 (A5 (A9 (A0 (yb rfl (A4 (A5 (AF (AK rfl rfl ?_)))))))))))
  obtain rfl : i = l.length := by omega
  exact ⟨by rw [hr, List.drop_length]; rfl, by rw [hn, List.drop_length]; exact hJ, M.fr⟩
theorem oW {α : Type} (cells : α → List Value) (hk : ∀ x, (cells x).length = 7) (A : Option Addr) (c : Nat) (l : List α) (hl : l.length ≤ 4611686018427387904) (f : FuncId) (cs : List Value) (p : Nat → α → Bool) (S : Nat → Prop) (J : Nat → World → Prop) (w : World) (hP : PredJ prog f cs (fun x => .agg (cells x).toArray) l p S J w) (hR : ∀ w1, Fr S w w1 → Rd w1 A (l.length * 7) (AS cells l)) (hJ : J 0 w) :
 Calls prog 154 #[.slice A l.length c, .func (.func f) #[] cs.toArray] w fun e w' => e = .returned (.bool (decide (0 ≤ ixJ p 0 l))) ∧ J (ixN p 0 l) w' ∧ Fr S w w' := by
 refine AJ (vs := [_, _]) func154 rfl ntmps154 rfl ?_
 have M : Mem w S [] w := Mem.nil w
 refine A9 (A0 (yb rfl (A4 (A5 (A9 (A0 (yb rfl (yb rfl (cl 7 rfl (AE rfl rfl call174) (sW cells hk A c l hl f cs p S J _ hP hR hJ) ?_)))))))))
 rintro _ w9 ⟨rfl, hJ, hf9⟩
 refine ⟨_, rfl, ?_⟩
 have M : Mem w S [] w9 := Mem.ofFr hf9
 exact ya rfl (FG rfl rfl rfl) (yb rfl (A4 (A5 (AF (AK rfl rfl ⟨rfl, hJ, M.fr⟩)))))
theorem nP (A : Option Addr) (c : Nat) (l : List (List UInt8)) (hl : l.length ≤ 4611686018427387904) (f : FuncId) (cs : List Value) (p : Nat → (List UInt8) → Bool) (S : Nat → Prop) (J : Nat → World → Prop) (w : World) (hP : PredJ prog f cs str l p S J w) (hR : ∀ w1, Fr S w w1 → Rd w1 A (l.length * 1) (AS D7 l)) (hJ : J 0 w) :
 Calls prog 113 #[.slice A l.length c, .func (.func f) #[] cs.toArray] w fun e w' => e = .returned (.int .i64 (ixJ p 0 l)) ∧ J (ixN p 0 l) w' ∧ Fr S w w' := by
 refine AJ (vs := [_, _]) func113 rfl ntmps113 rfl ?_
 have M : Mem w S [] w := Mem.nil w
 refine A9 (A0 (yb rfl (A4 (A5 (A9 (A9 (A0 (yb rfl (ya rfl (CS rfl rfl (sl rfl)) (yb rfl (A4 (A5 (AV (CL (fun e wr mz => ∃ (i : Nat), e = [(0, .slice A l.length c), (1, .func (.func f) #[] cs.toArray), (7, .int .i64 ((l.length : Nat) : Int)), (8, .int .i64 ((i : Nat) : Int))] ∧ Mem w S [] wr ∧ (i ≤ l.length) ∧ (J i wr) ∧ (ixJ p 0 l = ixJ p i (l.drop i)) ∧ (ixN p 0 l = ixN p i (l.drop i)) ∧ mz = l.length - i) ⟨0, rfl, M, Nat.zero_le _, hJ, rfl, rfl, rfl⟩ ⟨rfl, rfl, rfl, rfl, trivial⟩ ?_))))))))))))))
 rintro _ w1 _ ⟨i, rfl, M, hi, hJ, hr, hn, rfl⟩
 refine A9 (A0 (ya rfl (CB rfl rfl rfl) (A4 (A5 (A9 (AT (b := (decide (((i : Nat) : Int) < ((l.length : Nat) : Int)))) rfl (fun h9 => ?_) (fun h9 => ?_)))))))
 ·have h9p := (odt h9)
  refine AN (A5 (A9 (AV (A9 (A0 (yb rfl (yb rfl (A4 (A5 (A9 (A0 (yb rfl (yb rfl (yb rfl ?_))))))))))))))
  obtain ⟨x, hx⟩ := DA (l := l) (i := i) (by omega)
  obtain ⟨b_x, o_x, hA_x⟩ := C7 (k := 1) (by omega) (hR _ M.fr) hx
  refine ya rfl (BM i hA_x rfl rfl rfl (sl rfl) (by omega)) (yl rfl rfl (EB GD (hR _ M.fr) hA_x hx 0 rfl) (cl 16 rfl (BK rfl rfl rfl hP.fn) (hP.call i x _ hx M.fr hJ) ?_))
  rintro _ w9 ⟨rfl, hJ, hf9⟩
  refine ⟨_, rfl, ?_⟩
  have M : Mem w S [] w9 := Mem.ofFr (M.fr.trans hf9)
  refine A4 (A5 (AT (b := (p i x)) rfl (fun h16 => ?_) (fun h16 => ?_)))
  ·exact A9 (A0 (yb rfl (yb rfl (A4 (A5 (AF (AL (AB (AB (AL (AB (AK rfl rfl ⟨by rw [hr, BH hx, ixJ, if_pos h16], by rw [hn, BH hx, ixN, if_pos h16]; exact hJ, M.fr⟩))))))))))))
  ·refine AN (AC (A5 (A0 (ya rfl (CI rfl rfl rfl (by omega)) (yb rfl (A4 (BF [(0, .slice A l.length c), (1, .func (.func f) #[] cs.toArray), (7, .int .i64 ((l.length : Nat) : Int)), (8, .int .i64 (((i + 1) : Nat) : Int))] (l.length - (i + 1)) ⟨i + 1, rfl, M, ?_, ?_, ?_, ?_, rfl⟩ (by first | omega | (simp <;> omega)) ⟨rfl, rfl, rfl, rfl, trivial⟩)))))))
   ·omega
   ·exact hJ
   ·rw [hr, BH hx, ixJ, if_neg (BE h16)]
   ·rw [hn, BH hx, ixN, if_neg (BE h16)]
 ·have h9p := (odf h9)
  refine C2 (AG (AG (B5 (A5 (A9 (A0 (yb rfl (A4 (A5 (AF (AK rfl rfl ?_)))))))))))
  obtain rfl : i = l.length := by omega
  exact ⟨by rw [hr, List.drop_length]; rfl, by rw [hn, List.drop_length]; exact hJ, M.fr⟩
section
section
variable {P : Program} {ops : Array Oper} {Q : Exit → Act → World → Prop} {S : World → Prop} {t n f : Nat} {listed : Array Bool} {e : Env} {w : World}
theorem CY {o : Oper} {d : Nat} {v : Value} (i : Nat) (hr : Region.ready .any ops listed = [i]) (ho : ops[i]? = some o) (hw : Wn ops e o) (hd : o.dst = some d) (hn : Nat.blt d n = true) (hy : Y P e o w v) (hS : S w)
 (k : SxO P ops Q t S n f (listed.setIfInBounds i true) ((d, v) :: e) w) : SxO P ops Q t S n (f + 1) listed e w :=
 BG i (some d) hr ho hw hd hn (R := fun u w' => u = v ∧ w' = w) (fun ρ hρ => ⟨v, w, .inl (hy ρ hρ), rfl, rfl⟩) fun u w' ⟨h1, h2⟩ => by subst h1; subst h2; exact ⟨fun _ => hS, k⟩
theorem FK {o : Oper} {j d d' : Nat} {b c : Bool} (i : Nat) (hr : Region.ready .any ops listed = [i]) (ho : ops[i]? = some o) (h : o.guard = some (j, b)) (hj : (ops[j]?).bind (·.dst) = some d) (hb : e.get d = some (.bool c)) (hne : (c == b) = false) (hd : o.dst = some d') (hn : Nat.blt d' n = true) (hS : S w)
 (k : SxO P ops Q t S n f (listed.setIfInBounds i true) ((d', undef) :: e) w) : SxO P ops Q t S n (f + 1) listed e w := ⟨fun a ha => by
 have hw : Region.wanted o (yielded ops a.tmps) = false := by
  simp only [Region.wanted, h, yielded, hj, ha.get d _ hb, Option.bind_some]
  cases c <;> cases b <;> simp_all
 refine ⟨fun h0 => (by rw [hr] at h0; cases h0), fun j' hj' => ?_⟩
 rw [hr] at hj'
 obtain rfl : j' = i := by simpa using hj'
 unfold wpOp
 simp only [ho, hw, Bool.false_eq_true, if_false]
 rw [hd]
 exact ⟨fun _ => hS, k.run _ (ha.put (AZ hn) _)⟩⟩
end
end
section
def cU (ops : Array Oper) (i t : Nat) : Bool := (List.range ops.size).all fun j => decide (j < t) || Region.waitsFor .any ops j i
section
variable {P : Program} {ops : Array Oper} {Q : Exit → Act → World → Prop} {S : World → Prop} {t : Nat}
theorem TT {i : Nat} {oi : Oper} {v : Value} (hi : ops[i]? = some oi) (hsel : ∀ (j : Nat) (o : Oper) cs b, ops[j]? = some o → o.op ≠ .select cs b)
 (hQ : ∀ c a w, Q (.panic c) (a.put oi.dst v) w → Q (.panic c) a w) (hwait : cU ops i t = true) :
 ∀ (fuel : Nat) (listed : Array Bool) (a : Act) (w : World),
  (∀ j oj, ops[j]? = some oj → j ≠ i → listed.getD j true = false → (∀ e ∈ oj.after, Region.binds .any e = true → e.on ≠ i) → oi.apart ops oj = true) →
  i ∈ Region.ready .any ops listed → YieldsIf P ops S oi v a → S w →
  HT P ops Q t S fuel (listed.setIfInBounds i true) (a.put oi.dst v) w → HT P ops Q t S (fuel + 1) listed a w := by
 intro fuel
 induction fuel with
 | zero =>
  intro listed a w _ hr hy hS H
  refine ⟨fun h => (by rw [h] at hr; cases hr), fun j hj => ?_⟩
  by_cases hji : j = i
  ·subst hji; exact hy.wpOp hi hS ⟨fun _ => hS, H⟩
  ·have := ready_mono hj hji
   rw [H.1] at this
   cases this
 | succ fuel ih =>
  intro listed a w hfree hr hy hS H
  refine ⟨fun h => (by rw [h] at hr; cases hr), fun j hj => ?_⟩
  by_cases hji : j = i
  ·subst hji; exact hy.wpOp hi hS ⟨fun _ => hS, H⟩
  ·have h1 := H.2 j (ready_mono hj hji)
   obtain ⟨hjun, oj, hoj, hall⟩ := mem_ready.1 hj
   have hnot : ∀ e ∈ oj.after, Region.binds .any e = true → e.on ≠ i := fun e he hb heq => by
    have h1 := hall e he hb
    have h0 := (mem_ready.1 hr).1
    rw [heq, getD_both h0] at h1
    cases h1
   have hjt : j < t := by
    have h2 := List.all_eq_true.1 hwait j (List.mem_range.2 (Array.getElem?_eq_some_iff.1 hoj).1)
    simp only [Bool.or_eq_true, decide_eq_true_eq] at h2
    rcases h2 with h2 | h2
    ·exact h2
    ·obtain ⟨o', ho', e, he, hb, hon⟩ := Region.waitsFor_spec h2
     rw [hoj] at ho'
     injection ho' with ho'
     subst ho'
     exact absurd hon (hnot e he hb)
   have h2 := wpOp_putIf hoj (hfree j oj hoj hji hjun hnot) (fun cs b => hsel i oi cs b hi) (fun cs b => hsel j oj cs b hoj) hQ hy h1
   have hfree' : ∀ k ok, ops[k]? = some ok → k ≠ i → (listed.setIfInBounds j true).getD k true = false →
    (∀ e ∈ ok.after, Region.binds .any e = true → e.on ≠ i) → oi.apart ops ok = true := fun k ok hk hki hun hno => by
    refine hfree k ok hk hki ?_ hno
    by_cases hjk : j = k
    ·subst hjk; exact hjun
    ·rw [getD_set_ne true hjk] at hun; exact hun
   refine wpOp_mono (fun a' w' h3 => ⟨h3.2.1, ih (listed.setIfInBounds j true) a' w' hfree' (ready_mono hr (Ne.symm hji)) h3.1 (h3.2.1 hjt) ?_⟩) h2
   rw [Array.setIfInBounds_comm _ _ hji]
   exact h3.2.2
variable {n f : Nat} {listed : Array Bool} {e : Env} {w : World}
theorem KA {o : Oper} {d : Nat} {v : Value} (i : Nat) (hs : Region.noSelect ops = true) (hQ : ∀ c (a : Act) t v w, Q (.panic c) (a.put t v) w → Q (.panic c) a w) (hwait : cU ops i t = true)
 (hf : Region.free .any ops listed i = true) (hr : (Region.ready .any ops listed).contains i = true) (ho : ops[i]? = some o) (hw : Wn ops e o) (hd : o.dst = some d) (hn : Nat.blt d n = true) (hS : S w) (hy : ∀ w', S w' → Y P e o w' v)
 (k : SxO P ops Q t S n f (listed.setIfInBounds i true) ((d, v) :: e) w) : SxO P ops Q t S n (f + 1) listed e w := ⟨fun a ha =>
 TT ho (Region.noSelect_spec hs) (fun c a w => hQ c a _ _ w) hwait f listed a w (Region.free_spec ho hf) (by simpa using hr) (.inl ⟨hw n a ha, fun w' hw' => hy w' hw' _ ha.eval⟩) hS (by
  rw [hd]; exact k.run _ (ha.put (AZ hn) v))⟩
end
end
section
def HO (L : List (List UInt8 × Value)) (k : List UInt8) : Value := (D5 L k).getD (.slice none 0 0)
theorem LA (L : List (List UInt8 × Value)) (k k' : List UInt8) (v : Value) : HO (EW L k v) k' = if k' = k then v else HO L k' := by
 unfold HO
 rw [IB]
 split <;> rfl
theorem Y3 {w w' : World} {base size n : Nat} {e : TypeId} {v : Value} {xs : List Value} (h : w.ownsRow base e size v n xs) (hk : ∀ b, v.ownBlock = some b → b < w.heap.size → w'.heap[b]? = w.heap[b]?) : w'.ownsRow base e size v n xs := by
 refine ⟨h.1, ?_⟩
 rcases h.2 with hh | ⟨g, cap, cur, rfl, hb, hg, r⟩
 ·exact .inl hh
 ·exact .inr ⟨g, cap, cur, rfl, hb, (hk g rfl (Array.getElem?_eq_some_iff.1 hg).1).trans hg, r⟩
structure Fam {α : Type} (w : World) (base : Nat) (e : TypeId) (size : Nat) (cells : α → List Value) (g : Nat) (L : List (List UInt8 × Value)) (rows : List UInt8 → List α) (bad : List UInt8 → Prop) (F : List Nat) : Prop where
 map : Mp w g L
 gF : ¬ g ∈ F
 row : ∀ k, ¬ bad k → w.ownsRow base e size (HO L k) (rows k).length (AS cells (rows k)) ∧ ∀ b, (HO L k).ownBlock = some b → b ∈ F
 apart : ∀ k k' b, ¬ bad k → ¬ bad k' → (HO L k).ownBlock = some b → (HO L k').ownBlock = some b → k = k'
section
variable {α : Type} {w w' w0 : World} {base size g : Nat} {e : TypeId} {cells : α → List Value} {L : List (List UInt8 × Value)} {rows : List UInt8 → List α} {bad : List UInt8 → Prop} {F : List Nat} {S : Nat → Prop} {Ls : List As}
theorem Fam.keep (hk : ∀ b ∈ g :: F, b < w.heap.size → w'.heap[b]? = w.heap[b]?) (h : Fam w base e size cells g L rows bad F) : Fam w' base e size cells g L rows bad F := by
 obtain ⟨⟨es, cl, h1, h2⟩, hg, hr, ha⟩ := h
 exact ⟨⟨es, cl, (hk g (by simp) (Array.getElem?_eq_some_iff.1 h1).1).trans h1, h2⟩, hg, fun k hb => ⟨Y3 (hr k hb).1 (fun b hb' hl => hk b (List.mem_cons_of_mem _ ((hr k hb).2 b hb')) hl), (hr k hb).2⟩, ha⟩
def As.fam {α : Type} (base : Nat) (e : TypeId) (size : Nat) (cells : α → List Value) (g : Nat) (L : List (List UInt8 × Value)) (rows : List UInt8 → List α) (bad : List UInt8 → Prop) (F : List Nat) : As :=
 ⟨g :: F, fun w => Fam w base e size cells g L rows bad F, fun h hb => hb.keep h⟩
theorem Fam.new (hm : Mp w g []) (base : Nat) (e : TypeId) (size : Nat) (cells : α → List Value) : Fam w base e size cells g [] (fun _ => []) (fun _ => False) [] :=
 ⟨hm, by simp, fun k _ => ⟨⟨by simp [AS], .inl ⟨by simp [HO, D5], rfl⟩⟩, fun b hb => by simp [HO, D5, Value.ownBlock] at hb⟩, fun k k' b _ _ hb => by simp [HO, D5, Value.ownBlock] at hb⟩
theorem Mem.split2 {a b c : As} (M : Mem w0 S (c :: Ls) w) (ha : a.ok w) (hb : b.ok w) (hfa : ∀ x ∈ a.fp, x ∈ c.fp) (hfb : ∀ x ∈ b.fp, x ∈ c.fp) (hab : ∀ x ∈ a.fp, x ∉ b.fp) : Mem w0 S (a :: b :: Ls) w := by
 have rest : ∀ (i : Nat) (d : As), (a :: b :: Ls)[i + 2]? = some d → (c :: Ls)[i + 1]? = some d := fun i d h => h
 refine ⟨M.fr, ?_, ?_, ?_⟩
 ·intro i d hi
  match i with
  | 0 => simp only [List.getElem?_cons_zero, Option.some.injEq] at hi; subst hi; exact ha
  | 1 => simp only [List.getElem?_cons_succ, List.getElem?_cons_zero, Option.some.injEq] at hi; subst hi; exact hb
  | i + 2 => exact M.ok (i + 1) d (rest i d hi)
 ·intro i d hi x hx
  match i with
  | 0 => simp only [List.getElem?_cons_zero, Option.some.injEq] at hi; subst hi; exact M.lt 0 c rfl x (hfa x hx)
  | 1 => simp only [List.getElem?_cons_succ, List.getElem?_cons_zero, Option.some.injEq] at hi; subst hi; exact M.lt 0 c rfl x (hfb x hx)
  | i + 2 => exact M.lt (i + 1) d (rest i d hi) x hx
 ·intro i j d d' hi hj hne x hx hx'
  match i, j with
  | 0, 0 => exact hne rfl
  | 1, 1 => exact hne rfl
  | 0, 1 =>
   simp only [List.getElem?_cons_succ, List.getElem?_cons_zero, Option.some.injEq] at hi hj; subst hi; subst hj
   exact hab x hx hx'
  | 1, 0 =>
   simp only [List.getElem?_cons_succ, List.getElem?_cons_zero, Option.some.injEq] at hi hj; subst hi; subst hj
   exact hab x hx' hx
  | 0, j + 2 =>
   simp only [List.getElem?_cons_zero, Option.some.injEq] at hi; subst hi
   exact M.apart 0 (j + 1) c d' rfl (rest j d' hj) (by omega) x (hfa x hx) hx'
  | 1, j + 2 =>
   simp only [List.getElem?_cons_succ, List.getElem?_cons_zero, Option.some.injEq] at hi; subst hi
   exact M.apart 0 (j + 1) c d' rfl (rest j d' hj) (by omega) x (hfb x hx) hx'
  | i + 2, 0 =>
   simp only [List.getElem?_cons_zero, Option.some.injEq] at hj; subst hj
   exact M.apart (i + 1) 0 d c (rest i d hi) rfl (by omega) x hx (hfa x hx')
  | i + 2, 1 =>
   simp only [List.getElem?_cons_succ, List.getElem?_cons_zero, Option.some.injEq] at hj; subst hj
   exact M.apart (i + 1) 0 d c (rest i d hi) rfl (by omega) x hx (hfb x hx')
  | i + 2, j + 2 => exact M.apart (i + 1) (j + 1) d d' (rest i d hi) (rest j d' hj) (by omega) x hx hx'
theorem Mem.joinFam {a b : As} (M : Mem w0 S (a :: b :: Ls) w) (c : As) (hok : c.ok w) (hfp : ∀ x ∈ c.fp, x ∈ a.fp ∨ x ∈ b.fp) : Mem w0 S (c :: Ls) w := by
 have rest : ∀ (i : Nat) (d : As), (c :: Ls)[i + 1]? = some d → (a :: b :: Ls)[i + 2]? = some d := fun i d h => h
 have fp : ∀ k, k ∈ c.fp → ∃ (i : Nat) (d : As), i < 2 ∧ (a :: b :: Ls)[i]? = some d ∧ k ∈ d.fp := fun k hk => by
  rcases hfp k hk with h | h
  ·exact ⟨0, _, by decide, rfl, h⟩
  ·exact ⟨1, _, by decide, rfl, h⟩
 refine ⟨M.fr, ?_, ?_, ?_⟩
 ·intro i d hi
  cases i with
  | zero => simp only [List.getElem?_cons_zero, Option.some.injEq] at hi; subst hi; exact hok
  | succ i => exact M.ok (i + 2) d (rest i d hi)
 ·intro i d hi k hk
  cases i with
  | zero =>
   simp only [List.getElem?_cons_zero, Option.some.injEq] at hi; subst hi
   obtain ⟨j, f, _, h1, h2⟩ := fp k hk
   exact M.lt j f h1 k h2
  | succ i => exact M.lt (i + 2) d (rest i d hi) k hk
 ·intro i j d f hi hj hne k hk hk'
  cases i with
  | zero =>
   cases j with
   | zero => exact hne rfl
   | succ j =>
    simp only [List.getElem?_cons_zero, Option.some.injEq] at hi; subst hi
    obtain ⟨q, d', hq, h1, h2⟩ := fp k hk
    exact M.apart q (j + 2) d' f h1 (rest j f hj) (by omega) k h2 hk'
  | succ i =>
   cases j with
   | zero =>
    simp only [List.getElem?_cons_zero, Option.some.injEq] at hj; subst hj
    obtain ⟨q, d', hq, h1, h2⟩ := fp k hk'
    exact M.apart (i + 2) q d d' (rest i d hi) h1 (by omega) k hk h2
   | succ j => exact M.apart (i + 2) (j + 2) d f (rest i d hi) (rest j f hj) (by omega) k hk hk'
theorem Mem.famTake (M : Mem w0 S (As.fam base e size cells g L rows (fun _ => False) F :: Ls) w) (k0 : List UInt8) : ∃ A C F', HO L k0 = .slice A (rows k0).length C ∧ Mem w0 S (As.own base e size (.slice A (rows k0).length C) (rows k0).length (AS cells (rows k0)) :: As.fam base e size cells g L rows (fun k => k = k0) F' :: Ls) w := by
 have h : Fam w base e size cells g L rows (fun _ => False) F := M.ok 0 _ rfl
 obtain ⟨ho, hF⟩ := h.row k0 (fun hh => hh)
 obtain ⟨A, C, hv, _⟩ := G3 ho
 refine ⟨A, C, F.filter (fun b => !(decide ((HO L k0).ownBlock = some b))), hv, ?_⟩
 rw [hv] at ho
 refine M.split2 ho (show Fam w base e size cells g L rows (fun k => k = k0) _ from ⟨h.map, fun hh => h.gF (List.mem_filter.1 hh).1, fun k hk => ⟨(h.row k (fun hh => hh)).1, fun b hb => List.mem_filter.2 ⟨(h.row k (fun hh => hh)).2 b hb, ?_⟩⟩, fun k k' b _ _ hb hb' => h.apart k k' b (fun hh => hh) (fun hh => hh) hb hb'⟩) ?_ ?_ ?_
 ·simp only [Bool.not_eq_true', decide_eq_false_iff_not]
  exact fun hb' => hk (h.apart k k0 b (fun hh => hh) (fun hh => hh) hb hb')
 ·intro x hx
  have hx' : (HO L k0).ownBlock = some x := by rw [hv]; simpa [As.own] using hx
  exact List.mem_cons_of_mem _ (hF x hx')
 ·intro x hx
  rcases List.mem_cons.1 hx with rfl | hx
  ·exact List.mem_cons_self
  ·exact List.mem_cons_of_mem _ (List.mem_filter.1 hx).1
 ·intro x hx hx'
  have h1 : (HO L k0).ownBlock = some x := by rw [hv]; simpa [As.own] using hx
  rcases List.mem_cons.1 hx' with rfl | hx'
  ·exact h.gF (hF x h1)
  ·have := (List.mem_filter.1 hx').2
   simp [h1] at this
theorem Mem.famPut {k0 : List UInt8} {A : Option Addr} {n C : Nat} {row' : List α} (M : Mem w0 S (As.own base e size (.slice A n C) n (AS cells row') :: As.fam base e size cells g L rows (fun k => k = k0) F :: Ls) w) (hv : HO L k0 = .slice A n C) (hn : n = row'.length) (rows' : List UInt8 → List α) (h0 : rows' k0 = row') (h1 : ∀ k, k ≠ k0 → rows' k = rows k) :
 ∃ F', Mem w0 S (As.fam base e size cells g L rows' (fun _ => False) F' :: Ls) w := by
 have h : Fam w base e size cells g L rows (fun k => k = k0) F := M.ok 1 _ rfl
 have ho := M.own 0 rfl
 have hap : ∀ b, (HO L k0).ownBlock = some b → ¬ b ∈ g :: F := fun b hb => by
  rw [hv] at hb
  exact M.apart 0 1 _ _ rfl rfl (by decide) b (by simp [As.own, hb])
 refine ⟨(HO L k0).ownBlock.toList ++ F, M.joinFam _ (show Fam w base e size cells g L rows' (fun _ => False) _ from ⟨h.map, ?_, ?_, ?_⟩) ?_⟩
 ·intro hh
  rcases List.mem_append.1 hh with hh | hh
  ·exact hap g (by simpa using hh) List.mem_cons_self
  ·exact h.gF hh
 ·intro k _
  by_cases hk : k = k0
  ·subst hk
   rw [h0, hv, ← hn]
   exact ⟨ho, fun b hb => List.mem_append_left _ (by simpa using hb)⟩
  ·rw [h1 k hk]
   exact ⟨(h.row k hk).1, fun b hb => List.mem_append_right _ ((h.row k hk).2 b hb)⟩
 ·intro k k' b _ _ hb hb'
  by_cases hk : k = k0
  ·by_cases hk' : k' = k0
   ·rw [hk, hk']
   ·subst hk; exact absurd (List.mem_cons_of_mem _ ((h.row k' hk').2 b hb')) (hap b hb)
  ·by_cases hk' : k' = k0
   ·subst hk'; exact absurd (List.mem_cons_of_mem _ ((h.row k hk).2 b hb)) (hap b hb')
   ·exact h.apart k k' b hk hk' hb hb'
 ·intro x hx
  rcases List.mem_cons.1 (show x ∈ g :: ((HO L k0).ownBlock.toList ++ F) from hx) with rfl | hx
  ·exact .inr List.mem_cons_self
  ·rcases List.mem_append.1 hx with hx | hx
   ·left; rw [hv] at hx; simpa [As.own] using hx
   ·exact .inr (List.mem_cons_of_mem _ hx)
theorem Mem.putFam {k0 : List UInt8} {v : Value} (M : Mem w0 S Ls w) (i : Nat) (hi : Ls[i]? = some (As.fam base e size cells g L rows (fun k => k = k0) F)) (hf : Fr (fun b => b = g) w w') (hb : Mp w' g (EW L k0 v)) : Mem w0 S (Ls.set i (As.fam base e size cells g (EW L k0 v) rows (fun k => k = k0) F)) w' := by
 have h : Fam w base e size cells g L rows (fun k => k = k0) F := M.ok i _ hi
 refine M.upd i hi (hf.mono fun k _ e => by rw [e]; exact List.mem_cons_self) _ (show Fam w' base e size cells g (EW L k0 v) rows (fun k => k = k0) F from ⟨hb, h.gF, fun k hk => ?_, fun k k' b hk hk' h1 h2 => ?_⟩) (fun g' hg' => .inl hg')
 ·rw [LA, if_neg hk]
  exact ⟨Y3 (h.row k hk).1 (fun b hb' hl => hf.block b hl (fun hh => h.gF (hh ▸ (h.row k hk).2 b hb'))), (h.row k hk).2⟩
 ·rw [LA, if_neg hk] at h1
  rw [LA, if_neg hk'] at h2
  exact h.apart k k' b hk hk' h1 h2
theorem Mem.famMp (M : Mem w0 S Ls w) (i : Nat) (hi : Ls[i]? = some (As.fam base e size cells g L rows bad F)) : Mp w g L := Fam.map (M.ok i _ hi)
end
end
open Go.ChangeShapes Go.WideShapes Go.ChangeAt Go.RowKit Go.Deep
section
section
variable {H : Type} {enc : TypeId × Value → H} {P : Program} {w : World}
def fN (enc : TypeId × Value → H) (P : Program) (w : World) (t : TypeId) (r : List Value) (d : DataW H) : Prop := ∃ n p, DataW.trod enc P w 0 (fun _ => true) true n t r = some (d, p)
theorem RQ {t e sz len cap fuel : Nat} {A : Option Addr} {x : DataW H × List MemPlace} (ht : P.underlying t = some (.slice e)) (hc : P.cellsOf e = sz) (hpos : 0 < sz)
 (h : DataW.trod enc P w 0 (fun _ => true) true fuel t [.slice A len cap] = some x) :
 ∃ (rows : List (List Value)) (D : List (DataW H)), rows.length = len ∧ D.length = len ∧ All sz rows ∧ Rd w A (len * sz) rows.flatten ∧ len ≤ cap ∧ cap ≤ maxLen ∧ (A = none → cap = 0) ∧
  (∀ (i : Nat) (r : List Value), rows[i]? = some r → ∃ d, D[i]? = some d ∧ fN enc P w e r d) ∧ ((x.1 = .nil ∧ len = 0 ∧ cap = 0) ∨ ∃ sp, x.1 = .slice D sp ∧ sp.length = cap - len) := by
 rcases open_slice ht h with ⟨hcs, rfl⟩ | ⟨a, len', cap', m, n, D, Pl, hcs, _, hl, hm, hmm, rfl, hx⟩
 ·simp only [List.cons.injEq, Value.slice.injEq, and_true] at hcs
  obtain ⟨rfl, rfl, rfl⟩ := hcs
  exact ⟨[], [], rfl, rfl, All.nil, by rw [Nat.zero_mul]; exact Rd.nil, Nat.le_refl _, Nat.zero_le _, fun _ => rfl, fun i r hr => by simp at hr, .inl ⟨rfl, rfl, rfl⟩⟩
 ·simp only [List.cons.injEq, Value.slice.injEq, and_true] at hcs
  obtain ⟨rfl, rfl, rfl⟩ := hcs
  simp only [if_true] at hmm
  subst hmm
  obtain ⟨C, hC⟩ := choose_lt (α := List Value) (p := fun i cs => w.cells? 0 (a.add (i * P.cellsOf e)) (P.cellsOf e) = some cs ∧ DataW.trod enc P w 0 (fun _ => true) true n e cs = some (D i, Pl i)) (fun i hi => hx i hi)
  rw [hc] at hC
  have hrow : ∀ i, i < len → (C i).length = sz := fun i hi => (World.cells?_some (hC i (by omega)).1).2.1
  have hall : All sz ((List.range len).map C) := by
   intro r hr
   obtain ⟨i, hi, rfl⟩ := List.mem_map.1 hr
   exact hrow i (List.mem_range.1 hi)
  refine ⟨(List.range len).map C, (List.range len).map D, by simp, by simp, hall, ⟨by rw [Q1 hall]; simp, fun h0 => ?_⟩, hl, hm, by simp, ?_, .inr ⟨_, rfl, by simp⟩⟩
  ·have hlen : 0 < len := Nat.pos_of_mul_pos_right h0
   obtain ⟨b, off, sp⟩ := a
   have hsp : sp = none := by
    have h1 := (World.cells?_some (hC 0 (by omega)).1).2.2 0 hpos
    have h2 := (World.cells?_some (hC 0 (by omega)).1).2.1
    rw [List.getElem?_eq_getElem (by omega)] at h1
    cases sp with
    | none => rfl
    | some s =>
     exfalso
     simp only [Nat.zero_mul, Addr.add, if_true, World.cell?] at h1
     split at h1 <;> simp at h1
   subst hsp
   refine ⟨b, off, rfl, fun j u hu => ?_⟩
   have hj : j < len * sz := by have := (List.getElem?_eq_some_iff.1 hu).1; rw [Q1 hall] at this; simpa using this
   have hi : j / sz < len := Nat.div_lt_of_lt_mul (by rw [Nat.mul_comm]; exact hj)
   have hjm : j % sz < sz := Nat.mod_lt _ hpos
   have hat := eS hall (i := j / sz) (x := C (j / sz)) (by rw [List.getElem?_map, List.getElem?_range hi]; rfl)
   have hcell := (World.cells?_some (hC (j / sz) (by omega)).1).2.2 (j % sz) hjm
   rw [← hat, List.getElem?_take_of_lt hjm, List.getElem?_drop] at hcell
   have e1 : j / sz * sz + j % sz = j := by rw [Nat.mul_comm]; exact Nat.div_add_mod j sz
   rw [e1, hu, Addr.add_mid, Addr.add_mid, Nat.add_assoc, e1] at hcell
   exact hcell
  ·intro i r hr
   have hi : i < len := by have := (List.getElem?_eq_some_iff.1 hr).1; simpa using this
   rw [List.getElem?_map, List.getElem?_range hi] at hr
   simp only [Option.map_some, Option.some.injEq] at hr
   subst hr
   exact ⟨D i, by rw [List.getElem?_map, List.getElem?_range hi]; rfl, n, _, (hC i (by omega)).2⟩
theorem kS {n : Int} (h : (Lit.int .u8 n).wf = true) : Value.int .u8 n = bv (UInt8.ofNat n.toNat) := by
 have hb := bounds_u8 h
 unfold bv
 congr 1
 rw [UInt8.toNat_ofNat']
 omega
end
end
theorem XG {H : Type} {enc : TypeId × Value → H} {C : Checked} {os : Os} {f : FuncId} {fn : Func} {s : OpenSpec} {conds : List PathCond} {apart : Bool} {laid : List (String × DataW Unit)} (modest : Bool) (w0 : World) (args : Array Value) (hos : w0.os = os)
 (hv : (w0.forCall (fun _ _ => 0) ⟨#[], args, []⟩).variablesZipB C.prog = true)
 (hr : ((w0.forCall (fun _ _ => 0) ⟨#[], args, []⟩).heap.toList.drop C.prog.globals.size).take ((begin C.prog (fun _ _ => 0) default).world.heap.size - C.prog.globals.size) =
  (begin C.prog (fun _ _ => 0) default).world.heap.toList.drop C.prog.globals.size)
 (hok : Input.okWideB C.prog (w0.forCall (fun _ _ => 0) ⟨#[], args, []⟩) f ⟨#[], args, []⟩ = true)
 (hrow : s.preRow enc C.prog fn conds apart laid (w0.forCall (fun _ _ => 0) ⟨#[], args, []⟩).memory args) :
 ∃ (w : World) (tape : Tape) (i : Input), w.os = os ∧ (w.forCall tape i).Shaped C.prog ∧ i.vars = [] ∧ Input.okWide C.prog (w.forCall tape i) .any w.heap.size f i ∧
  s.preRow enc C.prog fn conds apart laid (w.forCall tape i).memory i.args ∧ ({ modest := modest } : Assume).holds C.prog (lone (Frame.enter C.prog f i.args .normal) [] (w.forCall tape i)) :=
 ⟨w0, fun _ _ => 0, ⟨#[], args, []⟩, hos, World.shaped_of_ZipB hv hr, (Input.okWide_of_okWideB (base := 0) hok).1, (Input.okWide_of_okWideB hok).2, hrow, by
  simp only [Assume.holds]
  exact ⟨by simp, by simp, fun _ => Modest.zero, by simp, by simp⟩⟩
open Go.RowKit Go.Shelf
def yS : Ren := ⟨fun n => if n = 196 then 121 else 143,
 fun n => if n = 0 then 0 else if n = 3 then 3 else if n = 4 then 4 else if n = 5 then 5 else if n = 9 then 9 else if n = 12 then 12 else if n = 46 then 137 else if n = 53 then 165 else if n = 119 then 119 else if n = 138 then 168 else 169,
 fun n => if n = 3 then 0 else 1⟩
theorem xI : Lays.n196 prog yS where
 mixed := DV
 f196 := by kernel_rfl
 f259 := by kernel_rfl
 t0 := underlying0
 a0 := isAgg0
 z0 := sizeOf0
 v0 := zeroValue0
 t3 := underlying3
 a3 := isAgg3
 z3 := sizeOf3
 v3 := zeroValue3
 t4 := underlying4
 a4 := isAgg4
 z4 := sizeOf4
 v4 := zeroValue4
 t5 := underlying5
 a5 := isAgg5
 z5 := sizeOf5
 v5 := zeroValue5
 t9 := underlying9
 a9 := isAgg9
 z9 := sizeOf9
 v9 := zeroValue9
 t12 := underlying12
 a12 := isAgg12
 z12 := sizeOf12
 v12 := zeroValue12
 t46 := underlying137
 a46 := isAgg137
 z46 := sizeOf137
 v46 := zeroValue137
 t53 := underlying165
 a53 := isAgg165
 z53 := sizeOf165
 v53 := zeroValue165
 t119 := underlying119
 a119 := isAgg119
 z119 := sizeOf119
 t138 := underlying168
 a138 := isAgg168
 z138 := sizeOf168
 v138 := zeroValue168
 t139 := underlying169
 a139 := isAgg169
 z139 := sizeOf169
 v139 := zeroValue169
 g3 := by kernel_rfl
 g4 := by kernel_rfl
theorem bN : (firstZ.map fun z => Value.int .u8 z) = (List.range 256).map fun c => Value.int .u8 (Go.Lib.firstT c : Int) := by kernel_rfl
theorem XW : (pairsZ.flatMap fun z => [Value.int .u8 z.1, Value.int .u8 z.2]) = (List.range 32).map fun j => Value.int .u8 (if j % 2 = 0 then (Go.Lib.accLo (j / 2) : Int) else (Go.Lib.accHi (j / 2) : Int)) := by kernel_rfl
theorem Laid.tabs {w : World} (h : Laid w utfL) : Go.Lib.Utf8Tabs 0 1 w := by
 obtain ⟨el, fz, h1⟩ := h _ (List.mem_cons_self)
 obtain ⟨el', fz', h2⟩ := h _ (List.mem_cons_of_mem _ List.mem_cons_self)
 simp only at h1 h2
 rw [bN] at h1
 rw [XW] at h2
 refine ⟨fun c hc => ?_, fun i hi => ⟨?_, ?_⟩⟩
 ·simp [World.cell?, h1, hc]
 ·have e1 : 2 * i % 2 = 0 := by omega
  have e2 : 2 * i / 2 = i := by omega
  have e3 : 2 * i < 32 := by omega
  simp [World.cell?, h2, e1, e2, e3]
 ·have e1 : (2 * i + 1) % 2 = 1 := by omega
  have e2 : (2 * i + 1) / 2 = i := by omega
  have e3 : 2 * i + 1 < 32 := by omega
  simp [World.cell?, h2, e1, e2, e3]
theorem Laid.fr {w w' : World} {L : List (Nat × List Value)} (h : Laid w L) (hf : Fr0 w w') : Laid w' L := fun p hp => by
 obtain ⟨el, fz, h1⟩ := h p hp
 exact ⟨el, fz, (hf.block _ (Array.getElem?_eq_some_iff.1 h1).1 (fun hh => hh)).trans h1⟩
theorem Fr0.of_below {w w' : World} (h : Below w.heap.size w w') : Fr0 w w' := ⟨h.os, h.tape, h.output, h.size, fun k hk _ => h.block k hk⟩
theorem kO (l : List UInt8) (w : World) (hm : (l.length : Int) < 4611686018427387904) (hT : Laid w utfL) : Calls prog 121 #[str l] w fun e w' => e = .returned (.bool (utf l)) ∧ Fr0 w w' := by
 have hs : (ByteArray.mk l.toArray).size = l.length := by show l.toArray.size = _; simp
 have h := Any.utf8_ValidString xI ⟨l.toArray⟩ w (by omega) hT.tabs
 refine h.mono fun e w' ⟨he, hb⟩ => ⟨?_, Fr0.of_below hb⟩
 rw [he]
 have : (ByteArray.mk l.toArray).data.toList = l := rfl
 rw [this, a7 l.length l (Nat.le_refl _)]
theorem K8 (l : List UInt8) (w : World) (hm : (l.length : Int) < 4611686018427387904) (hT : Laid w utfL) : Calls prog 102 #[str l] w fun e w' => e = .returned (.bool (utf l)) ∧ Fr0 w w' := by
 refine AJ (vs := [_]) func102 rfl ntmps102 rfl (A9 (A0 (yb rfl (A4 (A5 (A9 (A0 (yb rfl (CF (some 4) (by first | exact AA rfl | exact AW rfl rfl rfl) rfl rfl (AE rfl rfl call121) (kO l _ hm hT) ?_)))))))))
 rintro _ w1 ⟨rfl, hf1⟩
 exact ⟨_, rfl, yb rfl (A4 (A5 (AF (AK rfl rfl ⟨rfl, hf1⟩))))⟩
def vOk (v : Vl) : Bool := if v.kind = 1 then (!v.bool && decide (v.text = [])) else if v.kind = 2 then (decide (v.int = 0) && decide (v.text = [])) else if v.kind = 3 then (decide (v.int = 0) && (!v.bool && (decide (v.text.length ≤ 1024) && utf v.text))) else false
def chk (v : Vl) : Int := if vOk v then 0 else 1
theorem p3 {v : Vl} (h : vOk v = true) : chk v = 0 := by unfold chk; rw [h]; rfl
theorem VF {v : Vl} (h : vOk v = false) : chk v = 1 := by unfold chk; rw [h]; rfl
theorem WI {k : UInt8} {n : Nat} (h : k ≠ UInt8.ofNat n) : (k.toNat : Int) ≠ n := fun e => h (by
 have : k.toNat = n := by omega
 rw [← this]; simp)
theorem JM (v : Vl) (w : World) (hm : (v.text.length : Int) < 4611686018427387904) (hT : Laid w utfL) : Calls prog 62 #[v.val] w fun e w' => e = .returned (.int .i64 (chk v)) ∧ Fr0 w w' := by
 refine AJ (vs := [_]) func62 rfl ntmps62 rfl (A9 (A0 (CM (some 1) (AA rfl) rfl rfl (fun ρ hρ => ZA 95 (.tmp 0) rfl v.cells (by rw [hρ _ _ rfl]; rfl)) ?_)))
 rintro _ w1 ⟨g, rfl, hg1, hg2, hb, hf⟩
 have c0 : Cell w1.heap g 0 (.int .u8 (v.kind.toNat : Int)) := hb.c 0 rfl
 have c1 : Cell w1.heap g 1 (.int .i64 v.int) := hb.c 1 rfl
 have c2 : Cell w1.heap g 2 (.bool v.bool) := hb.c 2 rfl
 have c3 : Cell w1.heap g 3 (str v.text) := hb.c 3 rfl
 have hrd : Rd w1 (some ⟨g, 0, none⟩) 4 v.cells := Rd.ofBlk hb rfl
 have hk := v.kind.toNat_lt
 by_cases k1 : v.kind = 1
 ·have k1' : (v.kind.toNat : Int) = 1 := by rw [k1]; rfl
  refine yb rfl (A4 (A5 (A9 (A0 (yb rfl (A4 (A5 (A9 (A9 (A0 (yb rfl (yl rfl rfl (by assumption) (A4 (A5 (AV ?_)))))))))))))))
  refine A9 (A0 (ya rfl (LP rfl rfl rfl (by omega)) (yb rfl (A4 (A5 (DI rfl (DB 5 (fun w' => Rd w' (some ⟨g, 0, none⟩) 4 v.cells ∧ Cell w'.heap g 1 (.int .i64 v.int)) DV ?_)))))))
  have HS : Rd w1.drew (some ⟨g, 0, none⟩) 4 v.cells ∧ Cell w1.drew.heap g 1 (.int .i64 v.int) := ⟨hrd, c1⟩
  refine oa 0 3 rfl rfl HS (fun w' hS' => AU rfl rfl hS'.1 underlying95 rfl EI) (oa 1 3 rfl rfl HS (fun w' hS' => yp rfl) (oa 2 3 rfl rfl HS (fun w' hS' => C0 rfl rfl (sc rfl) (by obtain ⟨s1, s2⟩ := hS'; assumption)) (BY 3 (some 11) (by kernel_rfl) rfl (AA rfl) rfl rfl (AE rfl rfl call106) (iH v.int _) ?_)))
  rintro _ w2 ⟨rfl, hf2⟩
  have HS : Rd w2 (some ⟨g, 0, none⟩) 4 v.cells ∧ Cell w2.heap g 1 (.int .i64 v.int) := ⟨hrd.fr0 hf2.ofDrew, c1.fr hf2.ofDrew (fun hh => hh)⟩
  refine ⟨_, rfl, fun _ => HS, ?_⟩
  refine CY 4 (by kernel_rfl) rfl (AA rfl) rfl rfl (ZW rfl rfl rfl) HS (NK 5 (by kernel_rfl) rfl rfl (by kernel_rfl) ?_)
  have hsm : v.same ⟨1, v.int, false, []⟩ = vOk v := by
   unfold Vl.same vOk
   rw [if_pos k1, k1]
   cases v.bool <;> simp
  refine yb rfl (A4 (AC (A5 (A9 (A9 (A0 (yb rfl (yb rfl (A4 (A5 ?_))))))))))
  rw [hsm]
  cases hv : vOk v with
  | true =>
   exact CW rfl (AN (A5 (A9 (A0 (yb rfl (A4 (A5 (AF (AK rfl rfl ⟨by rw [p3 hv], hf.trans hf2.ofDrew⟩)))))))))
  | false =>
   exact DI rfl (A9 (A0 (yb rfl (A4 (A5 (AF (AB (AK rfl rfl ⟨by rw [VF hv], hf.trans hf2.ofDrew⟩))))))))
 by_cases k2 : v.kind = 2
 ·have k1' : (v.kind.toNat : Int) ≠ 1 := by rw [k2]; decide
  have k2' : (v.kind.toNat : Int) = 2 := by rw [k2]; rfl
  refine yb rfl (A4 (A5 (A9 (A0 (yb rfl (A4 (A5 (A9 (A9 (A0 (yb rfl (yl rfl rfl (by assumption) (A4 (A5 (AV ?_)))))))))))))))
  refine A9 (A0 (ya rfl (HD rfl rfl rfl (by omega)) (yb rfl (A4 (A5 (CW rfl (A9 (A0 (ya rfl (LP rfl rfl rfl (by omega)) (yb rfl (A4 (A5 (DI rfl (DB 5 (fun w' => Rd w' (some ⟨g, 0, none⟩) 4 v.cells ∧ Cell w'.heap g 2 (.bool v.bool)) DV ?_))))))))))))))
  have HS : Rd w1.drew (some ⟨g, 0, none⟩) 4 v.cells ∧ Cell w1.drew.heap g 2 (.bool v.bool) := ⟨hrd, c2⟩
  refine oa 0 3 rfl rfl HS (fun w' hS' => AU rfl rfl hS'.1 underlying95 rfl EI) (oa 1 3 rfl rfl HS (fun w' hS' => yp rfl) (oa 2 3 rfl rfl HS (fun w' hS' => C0 rfl rfl (sc rfl) (by obtain ⟨s1, s2⟩ := hS'; assumption)) (BY 3 (some 18) (by kernel_rfl) rfl (AA rfl) rfl rfl (AE rfl rfl call107) (kV v.bool _) ?_)))
  rintro _ w2 ⟨rfl, hf2⟩
  have HS : Rd w2 (some ⟨g, 0, none⟩) 4 v.cells ∧ Cell w2.heap g 2 (.bool v.bool) := ⟨hrd.fr0 hf2.ofDrew, c2.fr hf2.ofDrew (fun hh => hh)⟩
  refine ⟨_, rfl, fun _ => HS, ?_⟩
  refine CY 4 (by kernel_rfl) rfl (AA rfl) rfl rfl (ZW rfl rfl rfl) HS (NK 5 (by kernel_rfl) rfl rfl (by kernel_rfl) ?_)
  have hsm : v.same ⟨2, 0, v.bool, []⟩ = vOk v := by
   unfold Vl.same vOk
   rw [if_neg k1, if_pos k2, k2]
   simp
  refine yb rfl (A4 (AC (A5 (A9 (A9 (A0 (yb rfl (yb rfl (A4 (A5 ?_))))))))))
  rw [hsm]
  cases hv : vOk v with
  | true =>
   exact CW rfl (AN (A5 (A9 (A0 (yb rfl (A4 (A5 (AF (AK rfl rfl ⟨by rw [p3 hv], hf.trans hf2.ofDrew⟩)))))))))
  | false =>
   exact DI rfl (A9 (A0 (yb rfl (A4 (A5 (AF (AB (AK rfl rfl ⟨by rw [VF hv], hf.trans hf2.ofDrew⟩))))))))
 have k1' : (v.kind.toNat : Int) ≠ 1 := WI (n := 1) k1
 have k2' : (v.kind.toNat : Int) ≠ 2 := WI (n := 2) k2
 by_cases k3 : v.kind = 3
 ·have k3' : (v.kind.toNat : Int) = 3 := by rw [k3]; rfl
  refine yb rfl (A4 (A5 (A9 (A0 (yb rfl (A4 (A5 (A9 (A9 (A0 (yb rfl (yl rfl rfl (by assumption) (A4 (A5 (AV ?_)))))))))))))))
  refine A9 (A0 (ya rfl (HD rfl rfl rfl (by omega)) (yb rfl (A4 (A5 (CW rfl (A9 (A0 (ya rfl (HD rfl rfl rfl (by omega)) (yb rfl (A4 (A5 (CW rfl (A9 (A0 ?_)))))))))))))))
  refine ya rfl (LP rfl rfl rfl (by omega)) (yb rfl (A4 (A5 (DI rfl (DB 16 (fun w' => Rd w' (some ⟨g, 0, none⟩) 4 v.cells ∧ Cell w'.heap g 3 (str v.text)) DV ?_)))))
  have HS : Rd w1.drew (some ⟨g, 0, none⟩) 4 v.cells ∧ Cell w1.drew.heap g 3 (str v.text) := ⟨hrd, c3⟩
  refine oa 0 3 rfl rfl HS (fun w' hS' => AU rfl rfl hS'.1 underlying95 rfl EI) (oa 1 3 rfl rfl HS (fun w' hS' => yp rfl) (oa 2 3 rfl rfl HS (fun w' hS' => C0 rfl rfl (sc rfl) (by obtain ⟨s1, s2⟩ := hS'; assumption)) (BY 3 (some 25) (by kernel_rfl) rfl (AA rfl) rfl rfl (AE rfl rfl call108) (kK v.text _) ?_)))
  rintro _ w2 ⟨rfl, hf2⟩
  have c3' : Cell w2.heap g 3 (str v.text) := c3.fr hf2.ofDrew (fun hh => hh)
  have HS : Rd w2 (some ⟨g, 0, none⟩) 4 v.cells ∧ Cell w2.heap g 3 (str v.text) := ⟨hrd.fr0 hf2.ofDrew, c3'⟩
  refine ⟨_, rfl, fun _ => HS, ?_⟩
  have hw2 : Fr0 w w2 := hf.trans hf2.ofDrew
  have hsm : v.same ⟨3, 0, false, v.text⟩ = (decide (v.int = 0) && !v.bool) := by
   unfold Vl.same
   rw [k3]
   cases v.bool <;> simp
  have hvk : vOk v = ((decide (v.int = 0) && !v.bool) && (decide (v.text.length ≤ 1024) && utf v.text)) := by
   unfold vOk
   rw [if_neg k1, if_neg k2, if_pos k3, Bool.and_assoc]
  refine CY 4 (by kernel_rfl) rfl (AA rfl) rfl rfl (ZW rfl rfl rfl) HS ?_
  rw [hsm]
  cases ha : (decide (v.int = 0) && !v.bool) with
  | false =>
   have hv : vOk v = false := by rw [hvk, ha]; rfl
   refine CY 5 (by kernel_rfl) rfl (AA rfl) rfl rfl (yp rfl) HS (FK 6 (by kernel_rfl) rfl rfl rfl rfl rfl rfl rfl HS (FK 7 (by kernel_rfl) rfl rfl rfl rfl rfl rfl rfl HS (FK 8 (by kernel_rfl) rfl rfl rfl rfl rfl rfl rfl HS (FK 9 (by kernel_rfl) rfl rfl rfl rfl rfl rfl rfl HS (CY 10 (by kernel_rfl) rfl (AA rfl) rfl rfl (yp rfl) HS (CY 11 (by kernel_rfl) rfl (AA rfl) rfl rfl (yp rfl) HS (FK 12 (by kernel_rfl) rfl rfl rfl rfl rfl rfl rfl HS (FK 13 (by kernel_rfl) rfl rfl rfl rfl rfl rfl rfl HS (FK 14 (by kernel_rfl) rfl rfl rfl rfl rfl rfl rfl HS (CY 15 (by kernel_rfl) rfl (AA rfl) rfl rfl (yp rfl) HS (NK 16 (by kernel_rfl) rfl rfl (by kernel_rfl) (yb rfl (A4 (AC (A5 ?_)))))))))))))))
   refine A9 (A9 (A0 (yb rfl (yb rfl (A4 (A5 (DI rfl (A9 (A0 (yb rfl (A4 (A5 (AF (AB (AK rfl rfl ?_)))))))))))))))
   exact ⟨by rw [VF hv], hw2⟩
  | true =>
   by_cases hl : v.text.length ≤ 1024
   ·skip
    refine CY 5 (by kernel_rfl) rfl (AA rfl) rfl rfl (yp rfl) HS (CY 6 (by kernel_rfl) rfl (AW rfl rfl rfl) rfl rfl (yp rfl) HS (CY 7 (by kernel_rfl) rfl (AW rfl rfl rfl) rfl rfl (C0 rfl rfl (sc rfl) (by assumption)) HS (CY 8 (by kernel_rfl) rfl (AW rfl rfl rfl) rfl rfl (E3 rfl rfl underlying9) HS (CY 9 (by kernel_rfl) rfl (AW rfl rfl rfl) rfl rfl (pU rfl rfl rfl (by omega)) HS (CY 10 (by kernel_rfl) rfl (AA rfl) rfl rfl (yp rfl) HS (CY 11 (by kernel_rfl) rfl (AA rfl) rfl rfl (yp rfl) HS (CY 12 (by kernel_rfl) rfl (AW rfl rfl rfl) rfl rfl (yp rfl) HS (CY 13 (by kernel_rfl) rfl (AW rfl rfl rfl) rfl rfl (C0 rfl rfl (sc rfl) (by assumption)) HS (BY 14 (some 36) (by kernel_rfl) rfl (AW rfl rfl rfl) rfl rfl (AE rfl rfl call102) (K8 v.text _ hm (hT.fr hw2)) ?_)))))))))
    rintro _ w3 ⟨rfl, hf3⟩
    have HS : Rd w3 (some ⟨g, 0, none⟩) 4 v.cells ∧ Cell w3.heap g 3 (str v.text) := ⟨(hrd.fr0 hf2.ofDrew).fr0 hf3, c3'.fr hf3 (fun hh => hh)⟩
    refine ⟨_, rfl, fun _ => HS, ?_⟩
    have hv : vOk v = utf v.text := by rw [hvk, ha]; simp [hl]
    rw [← hv]
    refine CY 15 (by kernel_rfl) rfl (AA rfl) rfl rfl (yp rfl) HS (NK 16 (by kernel_rfl) rfl rfl (by kernel_rfl) (yb rfl (A4 (AC (A5 (A9 (A9 (A0 (yb rfl (yb rfl (A4 (A5 ?_))))))))))))
    cases hq : vOk v with
    | true =>
     exact CW rfl (AN (A5 (A9 (A0 (yb rfl (A4 (A5 (AF (AK rfl rfl ⟨by rw [p3 hq], hw2.trans hf3⟩)))))))))
    | false =>
     exact DI rfl (A9 (A0 (yb rfl (A4 (A5 (AF (AB (AK rfl rfl ⟨by rw [VF hq], hw2.trans hf3⟩))))))))
   ·have hv : vOk v = false := by rw [hvk, ha]; simp [hl]
    refine CY 5 (by kernel_rfl) rfl (AA rfl) rfl rfl (yp rfl) HS (CY 6 (by kernel_rfl) rfl (AW rfl rfl rfl) rfl rfl (yp rfl) HS (CY 7 (by kernel_rfl) rfl (AW rfl rfl rfl) rfl rfl (C0 rfl rfl (sc rfl) (by assumption)) HS (CY 8 (by kernel_rfl) rfl (AW rfl rfl rfl) rfl rfl (E3 rfl rfl underlying9) HS (CY 9 (by kernel_rfl) rfl (AW rfl rfl rfl) rfl rfl (pW rfl rfl rfl (by omega)) HS (CY 10 (by kernel_rfl) rfl (AA rfl) rfl rfl (yp rfl) HS (CY 11 (by kernel_rfl) rfl (AA rfl) rfl rfl (yp rfl) HS (FK 12 (by kernel_rfl) rfl rfl rfl rfl rfl rfl rfl HS (FK 13 (by kernel_rfl) rfl rfl rfl rfl rfl rfl rfl HS (FK 14 (by kernel_rfl) rfl rfl rfl rfl rfl rfl rfl HS (CY 15 (by kernel_rfl) rfl (AA rfl) rfl rfl (yp rfl) HS (NK 16 (by kernel_rfl) rfl rfl (by kernel_rfl) (yb rfl (A4 (AC (A5 ?_)))))))))))))))
    refine A9 (A9 (A0 (yb rfl (yb rfl (A4 (A5 (DI rfl (A9 (A0 (yb rfl (A4 (A5 (AF (AB (AK rfl rfl ?_)))))))))))))))
    exact ⟨by rw [VF hv], hw2⟩
 ·have k3' : (v.kind.toNat : Int) ≠ 3 := WI (n := 3) k3
  have hv : vOk v = false := by unfold vOk; rw [if_neg k1, if_neg k2, if_neg k3]
  refine yb rfl (A4 (A5 (A9 (A0 (yb rfl (A4 (A5 (A9 (A9 (A0 (yb rfl (yl rfl rfl (by assumption) (A4 (A5 (AV ?_)))))))))))))))
  refine A9 (A0 (ya rfl (HD rfl rfl rfl (by omega)) (yb rfl (A4 (A5 (CW rfl (A9 (A0 (ya rfl (HD rfl rfl rfl (by omega)) (yb rfl (A4 (A5 (CW rfl (A9 (A0 ?_)))))))))))))))
  refine ya rfl (HD rfl rfl rfl (by omega)) (yb rfl (A4 (A5 (CW rfl (AN (AC (A5 (A9 (A9 (A0 (yb rfl (yb rfl (A4 (A5 (DI rfl ?_)))))))))))))))
  exact A9 (A0 (yb rfl (A4 (A5 (AF (AB (AK rfl rfl ⟨by rw [VF hv], hf⟩)))))))
def tabN (n : Nat) : Nat := if (decide (65 ≤ n) && decide (n ≤ 90)) || (decide (97 ≤ n) && decide (n ≤ 122)) then 2 else if ((decide (48 ≤ n) && decide (n ≤ 57)) || n == 45 || n == 95 || n == 46) then 1 else 0
def tabL : List Value := (List.range 256).map fun n => .int .u8 (tabN n : Int)
theorem qM : qN = .agg tabL.toArray := by kernel_rfl
theorem RB : tabL.length = 256 := by unfold tabL; simp
theorem l7 : ∀ u ∈ tabL, u.oneCell' = true := by
 intro u hu
 obtain ⟨n, _, rfl⟩ := List.mem_map.1 hu
 rfl
theorem qO {n : Nat} (h : n < 256) : tabL[n]? = some (.int .u8 (tabN n : Int)) := by unfold tabL; simp [h]
theorem d6 (c : UInt8) : tabN c.toNat = if ES c then 2 else if KN c then 1 else 0 := by
 have h1 : (((decide (65 ≤ c.toNat) && decide (c.toNat ≤ 90)) || (decide (97 ≤ c.toNat) && decide (c.toNat ≤ 122))) = ES c) := by
  unfold ES; rw [Bool.or_comm]
 unfold tabN
 rw [h1]
 rfl
def zeroT : List Value := List.replicate 256 (.int .u8 0)
theorem aA : (prog.info? 119).map (·.zero) = some (some (.agg zeroT.toArray)) := by kernel_rfl
theorem aB : (prog.info? 119).map (·.size) = some 256 := by kernel_rfl
def FC (l : List UInt8) : Bool := l.all fun c => ES c || KN c
theorem NU : ∀ (i : Nat) (l : List UInt8), i ≠ 0 → IN i l = FC l
 | _, [], _ => rfl
 | i, c :: l, h => by
  rw [IN, NU (i + 1) l (by omega), show (i != 0) = true by simp [h], Bool.and_true]
  rfl
theorem JJ (c : UInt8) (l : List UInt8) : IN 0 (c :: l) = (ES c && FC (c :: l)) := by
 rw [IN, NU 1 l (by omega)]
 show ((ES c || (KN c && (0 != 0))) && FC l) = (ES c && ((ES c || KN c) && FC l))
 cases ES c <;> cases KN c <;> simp
theorem U8 : zeroT.length = 256 := by unfold zeroT; rw [List.length_replicate]
theorem DQ (l : List UInt8) (w : World) (hm : (l.length : Int) < 4611686018427387904) : Calls prog 56 #[str l] w fun e w' => e = .returned (.bool (BL l)) ∧ Fr0 w w' := by
 refine AJ (vs := [_]) func56 rfl ntmps56 rfl ?_
 by_cases h0 : l.length = 0
 ·have hno : BL l = false := by unfold BL; simp; omega
  refine A9 (A0 (yb rfl (A4 (A5 (A9 (A9 (A0 (yb rfl (ya rfl (E3 rfl rfl underlying9) (ya rfl (LP rfl rfl rfl (by omega)) (yb rfl (yo rfl (yo rfl (yo rfl (yb rfl ?_)))))))))))))))
  exact A4 (A5 (DI rfl (A9 (A0 (yb rfl (A4 (A5 (AF (AB (AK rfl rfl ⟨by rw [hno], Fr.refl⟩))))))))))
 by_cases h1 : 32 < l.length
 ·have hno : BL l = false := by unfold BL; simp; omega
  refine A9 (A0 (yb rfl (A4 (A5 (A9 (A9 (A0 (yb rfl (ya rfl (E3 rfl rfl underlying9) (ya rfl (HD rfl rfl rfl (by omega)) (yb rfl (yd rfl (yp rfl) (yd rfl (E3 rfl rfl underlying9) (yd rfl (pY rfl rfl rfl (by omega)) (yb rfl ?_)))))))))))))))
  exact A4 (A5 (DI rfl (A9 (A0 (yb rfl (A4 (A5 (AF (AB (AK rfl rfl ⟨by rw [hno], Fr.refl⟩))))))))))
 obtain ⟨c0, r0, hl⟩ : ∃ c0 r0, l = c0 :: r0 := List.exists_cons_of_ne_nil (by intro e; rw [e] at h0; exact h0 rfl)
 have hno : BL l = (ES c0 && FC l) := by
  have : IN 0 l = (ES c0 && FC l) := by rw [hl]; exact JJ c0 r0
  unfold BL; rw [this]; simp [show 1 ≤ l.length by omega, show l.length ≤ 32 by omega]
 have hc0 : l[0]? = some c0 := by rw [hl]; rfl
 refine A9 (A0 (yb rfl (A4 (A5 (A9 (A9 (A0 (yb rfl (ya rfl (E3 rfl rfl underlying9) (ya rfl (HD rfl rfl rfl (by omega)) (yb rfl (yd rfl (yp rfl) (yd rfl (E3 rfl rfl underlying9) (yd rfl (pZ rfl rfl rfl (by omega)) (yb rfl ?_)))))))))))))))
 refine A4 (A5 (CW rfl (AN (A5 (A9 (A0 (CF (some 13) (by first | exact AA rfl | exact AW rfl rfl rfl) rfl rfl (AE rfl rfl call101) (gD _) ?_)))))))
 rintro _ w1 ⟨rfl, hf1⟩
 refine ⟨_, rfl, CM (some 3) (AA rfl) rfl rfl (fun ρ hρ => C6 119 rfl _ zeroT aA rfl) ?_⟩
 rintro _ w2 ⟨g, rfl, hg1, hg2, hb, hf2⟩
 refine CM none (AA rfl) rfl rfl (fun ρ hρ => BW 119 (.tmp 3) (.tmp 13) rfl g 0 119 _ tabL (hρ _ _ rfl) ((hρ _ _ rfl).trans qM) hb (by rw [RB]; exact aB) (by rw [RB, U8]; omega) l7) ?_
 rintro _ w3 ⟨rfl, hb3, hf3⟩
 rw [QP zeroT tabL (by rw [RB, U8])] at hb3
 have hf : Fr0 w w3 := (hf1.trans hf2).step hf3 (fun k hk e => by have := hf1.size; omega)
 refine A4 (A5 (A9 (A9 (A0 (yb rfl (ya rfl (E3 rfl rfl underlying9) (yb rfl (A4 (A5 (AV ?_))))))))))
 have tcell : ∀ c : UInt8, Cell w3.heap g (0 + ((c.toNat : Int)).toNat * 1) (.int .u8 (tabN c.toNat : Int)) := fun c => by
  have := hb3.c c.toNat (qO c.toNat_lt)
  simpa using this
 refine CL (fun e wr m => ∃ (i : Nat), e = [(16, .int .i64 (i : Int)), (15, .int .i64 (l.length : Int)), (3, .pointer (some ⟨g, 0, none⟩)), (0, str l)] ∧ w3 = wr ∧ i ≤ l.length ∧ FC (l.take i) = true ∧ m = l.length - i) ⟨0, rfl, rfl, Nat.zero_le _, rfl, rfl⟩ ⟨rfl, rfl, rfl, rfl, trivial⟩ ?_
 rintro _ _ _ ⟨i, rfl, rfl, hi, hok, rfl⟩
 by_cases hlt : i < l.length
 ·obtain ⟨c, hc⟩ : ∃ c, l[i]? = some c := ⟨_, List.getElem?_eq_getElem hlt⟩
  have h256 := c.toNat_lt
  have ct := tcell c
  have hsplit : l = l.take i ++ c :: l.drop (i + 1) := by
   have h1 : l.drop i = c :: l.drop (i + 1) := by
    rw [List.drop_eq_getElem_cons hlt]
    congr 1
    rw [List.getElem?_eq_getElem hlt] at hc
    exact Option.some.inj hc
   rw [← h1, List.take_append_drop]
  have htab := d6 c
  by_cases hz : tabN c.toNat = 0
  ·have hbad : FC l = false := by
    rw [hz] at htab
    have h3 : ES c = false := by cases hq : ES c with | false => rfl | true => rw [hq] at htab; simp at htab
    have h4 : KN c = false := by cases hq : KN c with | false => rfl | true => rw [h3, hq] at htab; simp at htab
    rw [hsplit]; unfold FC; simp [h3, h4]
   refine A9 (A0 (ya rfl (cP rfl rfl rfl (by omega)) (A4 (A5 (A9 (DI rfl (AN (A5 (A9 (AV (A9 (A0 (yb rfl (yb rfl (A4 ?_)))))))))))))))
   refine A5 (A9 (A0 (yb rfl (yb rfl (ya rfl (FJ rfl rfl rfl underlying9 hc) (ya rfl (HH rfl rfl rfl (ar rfl) (by omega)) (yl rfl rfl (by assumption) (ya rfl (LP rfl rfl rfl (by omega)) (A4 (A5 (DI rfl (A9 (A0 (yb rfl (A4 ?_)))))))))))))))
   exact A5 (AF (AL (AB (AB (AL (AB (AK rfl rfl ⟨by rw [hno, hbad, Bool.and_false], hf⟩)))))))
  ·have hstep : FC (l.take (i + 1)) = true := by
    have h3 : (ES c || KN c) = true := by
     cases hq : ES c with
     | true => rfl
     | false => cases hq2 : KN c with
      | true => rfl
      | false => rw [hq, hq2] at htab; simp at htab; omega
    rw [List.take_add_one, hc]
    unfold FC at hok ⊢
    rw [List.all_append, hok]
    simpa using h3
   refine A9 (A0 (ya rfl (cP rfl rfl rfl (by omega)) (A4 (A5 (A9 (DI rfl (AN (A5 (A9 (AV (A9 (A0 (yb rfl (yb rfl (A4 ?_)))))))))))))))
   refine A5 (A9 (A0 (yb rfl (yb rfl (ya rfl (FJ rfl rfl rfl underlying9 hc) (ya rfl (HH rfl rfl rfl (ar rfl) (by omega)) (yl rfl rfl (by assumption) (ya rfl (HD rfl rfl rfl (by omega)) (A4 (A5 (CW rfl (AN (AC (A5 (A0 ?_)))))))))))))))
   exact ya rfl (CI rfl rfl rfl (by omega)) (yb rfl (A4 (BF [(16, .int .i64 ((i + 1 : Nat) : Int)), (15, .int .i64 (l.length : Int)), (3, .pointer (some ⟨g, 0, none⟩)), (0, str l)] (l.length - (i + 1)) ⟨i + 1, rfl, rfl, by omega, hstep, rfl⟩ (by omega) ⟨rfl, rfl, rfl, rfl, trivial⟩)))
 ·obtain rfl : i = l.length := by omega
  rw [List.take_length] at hok
  have h256 := c0.toNat_lt
  have ct := tcell c0
  have htab := d6 c0
  cases hlet : ES c0 with
  | true =>
   rw [hlet] at htab
   have h2 : tabN c0.toNat = 2 := htab
   refine A9 (A0 (ya rfl (cQ rfl rfl rfl (by omega)) (A4 (A5 (A9 (CW rfl (C2 (AG (AG (B5 (A5 (A9 (A0 (yb rfl (ya rfl (FJ (m := 0) rfl rfl rfl underlying9 hc0) ?_)))))))))))))))
   exact ya rfl (HH rfl rfl rfl (ar rfl) (by omega)) (yl rfl rfl (by assumption) (ya rfl (LP rfl rfl rfl (by omega)) (yb rfl (A4 (A5 (AF (AK rfl rfl ⟨by rw [hno, hlet, hok]; rfl, hf⟩)))))))
  | false =>
   rw [hlet] at htab
   have h2 : tabN c0.toNat ≠ 2 := by rw [htab]; cases KN c0 <;> simp
   refine A9 (A0 (ya rfl (cQ rfl rfl rfl (by omega)) (A4 (A5 (A9 (CW rfl (C2 (AG (AG (B5 (A5 (A9 (A0 (yb rfl (ya rfl (FJ (m := 0) rfl rfl rfl underlying9 hc0) ?_)))))))))))))))
   exact ya rfl (HH rfl rfl rfl (ar rfl) (by omega)) (yl rfl rfl (by assumption) (ya rfl (HD rfl rfl rfl (by omega)) (yb rfl (A4 (A5 (AF (AK rfl rfl ⟨by rw [hno, hlet]; rfl, hf⟩)))))))
end Go.Proofs.YtdaihdknnlphkaaGreatDoor
