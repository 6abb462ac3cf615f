/- Lemmas that the last text rests on. Condition: each says its own. -/
import Derived.Test.YtadgfojhjnkliaaGreatDoorZb5
import Derived.Deep.Slices
import Derived.Deep.Strs
import Derived.ProofKit
import Derived.OpenShut
import Derived.Deep.DeepHandedRow
import Derived.Lay
import Derived.Shelf.Unicode.ValidAny
set_option maxHeartbeats 16000000
set_option maxRecDepth 100000
namespace Go.Proofs.YtadgfojhjnkliaaGreatDoor
open Go.RowKit
section
def AR {α : Type} (cells : α → List Value) (l : List α) : List Value := (l.map cells).flatten
theorem jQ {α : Type} {cells : α → List Value} {k : Nat} (hk : ∀ x, (cells x).length = k) {l : List α} {i j : Nat} {x : α} {u : Value} (hx : l[i]? = some x) (hj : (cells x)[j]? = some u) : (AR cells l)[i * k + j]? = some u := by
 have h1 := aW (m := k) (l := l.map cells) (fun r hr => by obtain ⟨x, _, rfl⟩ := List.mem_map.1 hr; exact hk x) (i := i) (x := cells x) (by rw [List.getElem?_map, hx]; rfl)
 have hjk : j < k := by have := (List.getElem?_eq_some_iff.1 hj).1; rw [hk] at this; exact this
 have h2 : (((l.map cells).flatten.drop (i * k)).take k)[j]? = (cells x)[j]? := congrArg (·[j]?) h1
 rw [List.getElem?_take_of_lt hjk, List.getElem?_drop, hj] at h2
 exact h2
theorem D3 {α : Type} (cells : α → List Value) (a b : List α) : AR cells (a ++ b) = AR cells a ++ AR cells b := by simp [AR]
theorem CL {w : World} {α : Type} {cells : α → List Value} {A : Option Addr} {k : Nat} (hk0 : 0 < k) {l : List α} {i : Nat} {x : α} (h : Rd w A (l.length * k) (AR cells l)) (hx : l[i]? = some x) : ∃ b off, A = some ⟨b, off, none⟩ := by
 have hi := (List.getElem?_eq_some_iff.1 hx).1
 obtain ⟨b, off, e, _⟩ := h.2 (Nat.mul_pos (by omega) hk0)
 exact ⟨b, off, e⟩
theorem G1 {w : World} {α : Type} {cells : α → List Value} {A : Option Addr} {k : Nat} (hk : ∀ x, (cells x).length = k) {l : List α} {i : Nat} {x : α} (h : Rd w A (l.length * k) (AR cells l)) {b off : Nat} (hA : A = some ⟨b, off, none⟩) (hx : l[i]? = some x) (j : Nat) {u : Value} (hj : (cells x)[j]? = some u) : Cell w.heap b (off + i * k + j) u := by
 have h1 := jQ hk hx hj
 have hlt := (List.getElem?_eq_some_iff.1 h1).1
 rw [h.1] at hlt
 obtain ⟨b', off', e, hc⟩ := h.2 (by omega)
 rw [hA] at e; injection e with e; injection e with e1 e2 _; subst e1; subst e2
 rw [Nat.add_assoc]
 exact Cell.of (hc _ u h1)
theorem DK {w : World} {α : Type} {cells : α → List Value} {A : Option Addr} {k : Nat} (hk : ∀ x, (cells x).length = k) {l : List α} {i : Nat} {x : α} (h : Rd w A (l.length * k) (AR cells l)) {b off : Nat} (hA : A = some ⟨b, off, none⟩) (hx : l[i]? = some x) : Rd w (some ⟨b, off + i * k, none⟩) k (cells x) :=
 ⟨hk x, fun _ => ⟨b, off + i * k, rfl, fun j _ hu => (G1 hk h hA hx j hu).get w rfl⟩⟩
theorem DY {α : Type} {l : List α} {i : Nat} (h : i < l.length) : ∃ x, l[i]? = some x := ⟨_, List.getElem?_eq_getElem h⟩
theorem BG {α : Type} {l : List α} {i : Nat} {x : α} (hx : l[i]? = some x) : l.drop i = x :: l.drop (i + 1) := by
 have hlt := (List.getElem?_eq_some_iff.1 hx).1
 rw [List.drop_eq_getElem_cons hlt]
 congr 1
 rw [List.getElem?_eq_getElem hlt] at hx
 exact Option.some.inj hx
theorem BH {α : Type} {l : List α} {i : Nat} {x : α} (hx : l[i]? = some x) : l.take (i + 1) = l.take i ++ [x] := by
 rw [List.take_add_one, hx]; rfl
def C4 (s : List UInt8) : List Value := [str s]
theorem FW (s : List UInt8) : (C4 s).length = 1 := rfl
theorem BA {b : Bool} (h : b = false) : ¬ (b = true) := by rw [h]; decide
theorem C1 {b : Bool} (h : (!b) = true) : b = false := by cases b <;> simp_all
theorem C3 {b : Bool} (h : (!b) = false) : b = true := by cases b <;> simp_all
theorem C5 {a b : Bool} (h : (a && b) = true) : a = true ∧ b = true := by cases a <;> cases b <;> simp_all
theorem E9 {a b : Bool} (h : (a && b) = false) : a = false ∨ b = false := by cases a <;> cases b <;> simp_all
theorem EK {a b : Bool} (h : (a || b) = true) : a = true ∨ b = true := by cases a <;> cases b <;> simp_all
theorem CA {a b : Bool} (h : (a || b) = false) : a = false ∧ b = false := by cases a <;> cases b <;> simp_all
theorem FV (s : List UInt8) : ∀ u ∈ C4 s, u.oneCell' = true := by intro u hu; simp only [C4, List.mem_singleton] at hu; subst hu; rfl
theorem EL {α : Type} {cells : α → List Value} (h : ∀ x, ∀ u ∈ cells x, u.oneCell' = true) {l : List α} : ∀ u ∈ AR cells l, u.oneCell' = true := by
 intro u hu
 obtain ⟨r, hr, hu⟩ := List.mem_flatten.1 hu
 obtain ⟨x, _, rfl⟩ := List.mem_map.1 hr
 exact h x u hu
theorem AP {a b : Nat} (h : Nat.ble a b = true) : a ≤ b := Nat.le_of_ble_eq_true h
theorem n7 {w : World} {α : Type} {cells : α → List Value} {A : Option Addr} {k : Nat} (hk : ∀ x, (cells x).length = k) {l : List α} {i : Nat} {x : α} (h : Rd w A (l.length * k) (AR cells l)) {b off : Nat} (hA : A = some ⟨b, off, none⟩) (hx : l[i]? = some x) (j m : Nat) {ys : List Value} (hys : ((cells x).drop j).take m = ys) (hm : ys.length = m) : Rd w (some ⟨b, off + i * k + j, none⟩) m ys :=
 ⟨hm, fun _ => ⟨b, off + i * k + j, rfl, fun q u hu => by
  subst hys
  have hq : q < m := by have := (List.getElem?_eq_some_iff.1 hu).1; omega
  rw [List.getElem?_take_of_lt hq, List.getElem?_drop] at hu
  rw [Nat.add_assoc]
  exact (G1 hk h hA hx (j + q) hu).get w rfl⟩⟩
theorem FD {w : World} {g : Nat} {t : TypeId} {cs : List Value} (h : Blk w g t cs) (off m : Nat) {ys : List Value} (hys : (cs.drop off).take m = ys) (hm : ys.length = m) : Rd w (some ⟨g, off, none⟩) m ys :=
 ⟨hm, fun _ => ⟨g, off, rfl, fun q u hu => by
  subst hys
  have hq : q < m := by have := (List.getElem?_eq_some_iff.1 hu).1; omega
  rw [List.getElem?_take_of_lt hq, List.getElem?_drop] at hu
  exact (h.cell (off + q)).trans hu⟩⟩
def qU (l : List Value) : Bool := l.all (·.oneCell')
theorem AW {l : List Value} (h : qU l = true) : ∀ u ∈ l, u.oneCell' = true := fun u hu => List.all_eq_true.1 h u hu
theorem LP {w : World} {base size n : Nat} {e : TypeId} {v : Value} {xs : List Value} (h : w.ownsRow base e size v n xs) : ∀ g ∈ v.ownBlock.toList, base ≤ g ∧ g < w.heap.size := fun g hg => by
 obtain ⟨h1, h2⟩ := h.lt g (by simpa using hg)
 exact ⟨h1, h2⟩
theorem E3 {w : World} {base size : Nat} {e : TypeId} {v : Value} {n : Nat} {xs : List Value} (h : w.ownsRow base e size v n xs) : ∃ A cap, v = .slice A n cap ∧ n ≤ cap := by
 rcases h.2 with ⟨rfl, h0⟩ | ⟨g, cap, cur, rfl, hb, hg, hc, hm, hs, ht⟩
 ·subst h0; exact ⟨none, 0, rfl, Nat.le_refl _⟩
 ·exact ⟨some ⟨g, 0, none⟩, cap, rfl, hc⟩
theorem NE {w : World} {base size : Nat} {e : TypeId} {A : Option Addr} {c n : Nat} {xs : List Value} (h : w.ownsRow base e size (.slice A n c) n xs) : Rd w A (n * size) xs := by
 refine ⟨h.1, fun hn => ?_⟩
 rcases h.2 with ⟨hv, h0⟩ | ⟨g, cap, cur, hv, _⟩
 ·subst h0; omega
 ·injection hv with hA
  subst hA
  refine ⟨g, 0, rfl, fun j u hu => ?_⟩
  have := h.cells (g := g) rfl j u hu
  rwa [Addr.add_mid] at this
namespace Mem
variable {w0 w w' : World} {S : Nat → Prop} {L : List As}
theorem nilOwn (M : Mem w0 S L w) (e : TypeId) (size : Nat) : Mem w0 S (As.own w0.heap.size e size (.slice none 0 0) 0 [] :: L) w := by
 refine M.push Fr.refl _ ?_ (fun g hg => by simp [As.own, Value.ownBlock] at hg)
 exact ⟨by simp, .inl ⟨rfl, rfl⟩⟩
theorem pushOwn (M : Mem w0 S L w) (hf : Fr0 w w') {base size n : Nat} {e : TypeId} {v : Value} {xs : List Value} (hb : w.heap.size ≤ base) (h : w'.ownsRow base e size v n xs) : Mem w0 S (As.own w0.heap.size e size v n xs :: L) w' := by
 have hw := M.fr.size
 refine M.push hf _ (SR h (by omega)) (fun g hg => ?_)
 obtain ⟨h1, h2⟩ := LP h g hg
 exact ⟨by omega, h2⟩
theorem blkOwn (M : Mem w0 AB L w) (i : Nat) {g t size n : Nat} {cs : List Value} (hi : L[i]? = some (As.blk g t cs)) (hn : cs.length = n * size) (hm : n ≤ maxLen) : Mem w0 AB (L.set i (As.own w0.heap.size t size (.slice (some ⟨g, 0, none⟩) n n) n cs)) w := by
 have hb := M.blk i hi
 have hg : w0.heap.size ≤ g := by
  rcases (M.lt i _ hi g (by simp [As.blk])).2 with h | h
  ·exact h
  ·exact h.elim
 refine M.upd i hi Fr.refl _ ?_ (fun g' hg' => .inl (by simpa [As.own, As.blk, Value.ownBlock, eq_comm] using hg'))
 exact ⟨hn, .inr ⟨g, n, cs.toArray, rfl, hg, hb, Nat.le_refl _, hm, by simpa using hn, by simp [← hn]⟩⟩
theorem ownLen (M : Mem w0 S L w) (i : Nat) {base e size n : Nat} {v : Value} {xs : List Value} (hi : L[i]? = some (As.own base e size v n xs)) : n ≤ 9223372036854775807 := by
 rcases (M.own i hi).2 with ⟨_, h0⟩ | ⟨g, cap, cur, _, _, _, hc, hm, _⟩
 ·omega
 ·unfold maxLen at hm; omega
theorem rdOwn (M : Mem w0 S L w) (i : Nat) {base e size n c : Nat} {A : Option Addr} {xs : List Value} (hi : L[i]? = some (As.own base e size (.slice A n c) n xs)) : Rd w A (n * size) xs := NE (M.own i hi)
theorem rdBlk (M : Mem w0 S L w) (i : Nat) {g t m : Nat} {cs : List Value} (hi : L[i]? = some (As.blk g t cs)) (hm : cs.length = m) : Rd w (some ⟨g, 0, none⟩) m cs := Rd.ofBlk (M.blk i hi) hm
end Mem
section
variable {P : Program} {Q : Exit → Act → World → Prop} {n : Nat} {e : Env} {w w0 : World} {S : Nat → Prop} {L : List As} {ops : Array Oper} {o : Oper} {rest : List Oper}
theorem AE {l : List Oper} {d : Nat} {b : Bool} (hb : e.get d = some (.bool b)) (h1 : b = true → SxL P ops Q n l ((d, .bool true) :: e) w) (h2 : b = false → SxL P ops Q n l ((d, .bool false) :: e) w) : SxL P ops Q n l e w := .mk fun a ha => by
 have key : ∀ c, b = c → Agr n ((d, .bool c) :: e) a := fun c hc => ⟨ha.size, ha.defers, fun k v hk => by
  unfold Env.get at hk
  split at hk
  ·rename_i hb'
   obtain rfl : d = k := Nat.eq_of_beq_eq_true hb'
   simp only [Option.some.injEq] at hk
   rw [← hk, ← hc]; exact ha.get d _ hb
  ·exact ha.get k v hk⟩
 cases b
 ·exact (h2 rfl).run a (key false rfl)
 ·exact (h1 rfl).run a (key true rfl)
theorem GH {q : Act → Prop} {l : List Oper} {d : Nat} {b : Bool} (hb : e.get d = some (.bool b)) (h1 : b = true → SxS P ops w q n l ((d, .bool true) :: e)) (h2 : b = false → SxS P ops w q n l ((d, .bool false) :: e)) : SxS P ops w q n l e := .mk fun a ha => by
 have key : ∀ c, b = c → Agr n ((d, .bool c) :: e) a := fun c hc => ⟨ha.size, ha.defers, fun k v hk => by
  unfold Env.get at hk
  split at hk
  ·rename_i hb'
   obtain rfl : d = k := Nat.eq_of_beq_eq_true hb'
   simp only [Option.some.injEq] at hk
   rw [← hk, ← hc]; exact ha.get d _ hb
  ·exact ha.get k v hk⟩
 cases b
 ·exact (h2 rfl).run a (key false rfl)
 ·exact (h1 rfl).run a (key true rfl)
theorem AT {l : List Oper} (cut : Nat) (r : Env) (F : World → Prop) (h : ∀ w', F w' → SxL P ops Q n (l.drop cut) r w') (k : (∀ e' w', F w' → r.le e' → SxL P ops Q n (l.drop cut) e' w') → SxL P ops Q n l e w) : SxL P ops Q n l e w :=
 k fun _ w' hF hl => gB hl (h w' hF)
theorem M9 {q : Act → Prop} {l : List Oper} (cut : Nat) (r : Env) (h : SxS P ops w q n (l.drop cut) r) (k : (∀ e', r.le e' → SxS P ops w q n (l.drop cut) e') → SxS P ops w q n l e) : SxS P ops w q n l e :=
 k fun _ hl => .mk fun a ha => h.run a (ha.weak hl)
theorem PB {c : Code} {K : Act → World → Prop} (r : Env) (F : World → Prop) (h : ∀ w', F w' → QX (Exit.then K Q) .normal n r w') (k : (∀ e' w', F w' → r.le e' → QX (Exit.then K Q) .normal n e' w') → Sx P c (Exit.then K Q) n e w) : Sx P c (Exit.then K Q) n e w :=
 k fun _ w' hF hl => U1 hl (h w' hF)
theorem EQ (M : Mem w0 S L w) (i : Nat) {d : Nat} (hw : Wn ops e o) (hd : o.dst = some d) (hn : Nat.blt d n = true) {s x : Operand} {t base el size bytes len m c : Nat} {z v : Value} {xs news : List Value} {A : Option Addr}
 (ho : o.op = .call { callee := .builtin .append, args := #[s, x], argTypes := #[t, t] }) (hs : ev e s = some v) (hx : ev e x = some (.slice A m c)) (hi : L[i]? = some (As.own base el size v len xs)) (hr : Rd w A (m * size) news)
 (ht : P.underlying t = some (.slice el)) (hinf : (P.info? el).map (fun i => (i.zero, i.size, i.bytes)) = some (some z, size, bytes)) (hzs : z.cells.size = size) (hpos : 0 < size) (h1 : ∀ u ∈ news, u.oneCell' = true) (hb : w0.heap.size ≤ base) (hb' : base ≤ w0.heap.size) (hsm : (len + m) * bytes ≤ 140737488355328) (h63 : len + m ≤ maxLen) {len' : Nat} {xs' : List Value} (hl' : len + m = len') (hx' : xs ++ news = xs')
 (k : ∀ A' c' w', Mem w0 S (L.set i (As.own base el size (.slice A' len' c') len' xs')) w' → SxL P ops Q n rest ((d, .slice A' len' c') :: e) w') : SxL P ops Q n (o :: rest) e w := by
 subst hl'; subst hx'
 have hw0 := M.fr.size
 have hown := M.own i hi
 refine CI (some d) hw hd hn (fun ρ hρ => DU s x t ho base el z size bytes ht hinf hzs hpos v len xs (hρ _ _ hs) hown A m c news (hρ _ _ hx) hr h1 h63 hsm (by omega)) ?_
 rintro v' w1 ⟨h1, h2, h3⟩
 obtain ⟨A', c', rfl, _⟩ := E3 h1
 refine k A' c' w1 (M.upd i hi ?_ _ h1 ?_)
 ·refine ⟨h2.os, h2.tape, h2.output, h2.size, fun g hg hn => h2.block g hg ?_⟩
  intro e
  exact hn (by simp [As.own, ← e])
 ·intro g hg
  rcases h3 with h | h
  ·left; simpa [As.own, h] using hg
  ·right
   have hg' : g = w.heap.size := by simpa [As.own, h, eq_comm] using hg
   have := (LP h1 g hg).2
   omega
theorem F1 (M : Mem w0 S L w) {d : Nat} (hw : Wn ops e o) (hd : o.dst = some d) (hn : Nat.blt d n = true) {t len el size : Nat} {parts : List (Nat × Operand)} {ps : List (Nat × Value)} (vs cs : List Value) {z : Value} (ho : o.op = .buildSlice t len parts.toArray) (hp : evp e parts = some ps) (hps : ps = (vs.zipIdx 0).map fun x => (x.2, x.1)) (hlen : vs.length = len)
 (hu : P.underlying t = some (.slice el)) (hi : (P.info? el).map (fun i => (i.zero, i.size)) = some (some z, size)) (hpos : Nat.blt 0 (len * size) = true) (hsm : Nat.ble (len * size) 16777216 = true) (hv : ∀ v ∈ vs, v.cells.size = size) (hcs : (vs.map fun v => v.cells.toList).flatten = cs)
 (k : ∀ g w', w.heap.size ≤ g → Mem w0 S (As.blk g el cs :: L) w' → SxL P ops Q n rest ((d, .slice (some ⟨g, 0, none⟩) len len) :: e) w') : SxL P ops Q n (o :: rest) e w := by
 subst hcs
 refine CI (some d) hw hd hn (fun ρ hρ => E1 vs z hρ ho hp hps hlen hu hi (AZ hpos) (Nat.le_of_ble_eq_true hsm) hv) ?_
 rintro _ w1 ⟨g, rfl, h1, h2, hb, hf⟩
 exact k g w1 h1 (M.push hf _ hb (fun g' hg' => by simp only [As.blk, List.mem_singleton] at hg'; subst hg'; exact ⟨h1, h2⟩))
end
section
variable {P : Program} {e : Env} {w : World} {o : Oper}
theorem CH {t t' : Nat} {k : IntKind} {a b : Int} {x y : Operand} (ho : o.op = .binOp .lss t x y t') (hx : ev e x = some (.int k a)) (hy : ev e y = some (.int k b)) : Y P e o w (.bool (decide (a < b))) := fun ρ h => by
 unfold execOp; simp [ho, h _ _ hx, h _ _ hy, eqGuard_at_int, binOp_lss]
theorem I2 {t t' : Nat} {k : IntKind} {a b : Int} {x y : Operand} (ho : o.op = .binOp .leq t x y t') (hx : ev e x = some (.int k a)) (hy : ev e y = some (.int k b)) : Y P e o w (.bool (decide (a ≤ b))) := fun ρ h => by
 unfold execOp; simp [ho, h _ _ hx, h _ _ hy, eqGuard_at_int, binOp_leq]
theorem FR {t t' : Nat} {k : IntKind} {a b : Int} {x y : Operand} (ho : o.op = .binOp .gtr t x y t') (hx : ev e x = some (.int k a)) (hy : ev e y = some (.int k b)) : Y P e o w (.bool (decide (b < a))) := fun ρ h => by
 unfold execOp; simp [ho, h _ _ hx, h _ _ hy, eqGuard_at_int, binOp_gtr]
theorem EP {t t' : Nat} {k : IntKind} {a b : Int} {x y : Operand} (ho : o.op = .binOp .geq t x y t') (hx : ev e x = some (.int k a)) (hy : ev e y = some (.int k b)) : Y P e o w (.bool (decide (b ≤ a))) := fun ρ h => by
 unfold execOp; simp [ho, h _ _ hx, h _ _ hy, eqGuard_at_int, binOp_geq]
theorem B9 {t t' : Nat} {k : IntKind} {a b : Int} {x y : Operand} (ho : o.op = .binOp .eql t x y t') (hx : ev e x = some (.int k a)) (hy : ev e y = some (.int k b)) : Y P e o w (.bool (decide (a = b))) := fun ρ h => by
 unfold execOp; simp only [ho, h _ _ hx, h _ _ hy, eqGuard_at_int, binOp_eql, Sem.run_bind, Sem.run_pure, Result.andThen_ok]; by_cases hab : a = b <;> simp [hab]
theorem CX {t t' : Nat} {k : IntKind} {a b : Int} {x y : Operand} (ho : o.op = .binOp .neq t x y t') (hx : ev e x = some (.int k a)) (hy : ev e y = some (.int k b)) : Y P e o w (.bool (!decide (a = b))) := fun ρ h => by
 unfold execOp; simp only [ho, h _ _ hx, h _ _ hy, eqGuard_at_int, binOp_neq, Sem.run_bind, Sem.run_pure, Result.andThen_ok]; by_cases hab : a = b <;> simp [hab]
theorem BW {t g off len cap sz el : Nat} (j : Nat) {k : IntKind} {x i : Operand} {A : Option Addr} (hA : A = some ⟨g, off, none⟩) (ho : o.op = .indexAddr t x i) (hx : ev e x = some (.slice A len cap)) (hi : ev e i = some (.int k (j : Int))) (ht : BT P t = some (el, sz)) (h0 : j < len) :
 Y P e o w (.pointer (some ⟨g, off + j * sz, none⟩)) := by subst hA; exact V8 ho hx hi ht h0
end
section
variable {P : Program} {Q : Exit → Act → World → Prop} {n f t : Nat} {e : Env} {w w0 : World} {S : Nat → Prop} {L L' : List As} {ops : Array Oper} {o : Oper} {listed : Array Bool} {c : Code} {I : World → Prop}
theorem MB {α β : Type} (r : α → β → Env) (F : α → β → World → Prop) (h : ∀ x y w', F x y w' → QX Q .normal n (r x y) w') (k : (∀ x y e' w', F x y w' → (r x y).le e' → QX Q .normal n e' w') → Sx P c Q n e w) : Sx P c Q n e w := k fun x y _ w' hF hl => U1 hl (h x y w' hF)
theorem Q3 {α β γ δ : Type} (r : α → β → γ → δ → Env) (F : α → β → γ → δ → World → Prop) (h : ∀ x y z u w', F x y z u w' → QX Q .normal n (r x y z u) w') (k : (∀ x y z u e' w', F x y z u w' → (r x y z u).le e' → QX Q .normal n e' w') → Sx P c Q n e w) : Sx P c Q n e w := k fun x y z u _ w' hF hl => U1 hl (h x y z u w' hF)
theorem DA {g : Nat} {ty : TypeId} {cs : List Value} {w w' : World} (h1 : w.heap.size ≤ g) (h2 : g < w'.heap.size) : ∀ g' ∈ (As.blk g ty cs).fp, w.heap.size ≤ g' ∧ g' < w'.heap.size := fun g' hg' => by
 simp only [As.blk, List.mem_singleton] at hg'; subst hg'; exact ⟨h1, h2⟩
theorem K8 {g : Nat} {K : List (List UInt8 × Value)} {w w' : World} (h1 : w.heap.size ≤ g) (h2 : g < w'.heap.size) : ∀ g' ∈ (As.mp g K).fp, w.heap.size ≤ g' ∧ g' < w'.heap.size := fun g' hg' => by
 simp only [As.mp, List.mem_singleton] at hg'; subst hg'; exact ⟨h1, h2⟩
theorem Mem.putB (M : Mem w0 S L w) (i : Nat) {g ty : Nat} {cs cs' : List Value} {w' : World} (hi : L[i]? = some (As.blk g ty cs)) (hb : Blk w' g ty cs') (hf : Fr (fun k => k = g) w w') : Mem w0 S (L.set i (As.blk g ty cs')) w' :=
 M.upd i hi (Z4 hf) (As.blk g ty cs') hb (fun _ hg' => .inl hg')
end
section
variable {P : Program} {e : Env} {w : World} {o : Oper}
theorem ZB {t : Nat} {x j : Operand} {l : List UInt8} {k' : IntKind} {b : Nat} (ho : o.op = .slice t x none (some j) none) (hx : ev e x = some (str l)) (hj : ev e j = some (.int k' (b : Int))) (ht : P.underlying t = some .string) (hb : b ≤ l.length) : Y P e o w (str (l.take b)) := fun ρ h => by
 have hs : (ByteArray.mk l.toArray).size = l.length := by show l.toArray.size = _; simp
 unfold execOp
 simp [ho, h _ _ hx, h _ _ hj, str, Instr.sliceAt, Instr.slice, run_underlying ht, Instr.sliceBounds, Instr.sliceBound, asIntOf, hs, hb, Lib.extract_eq]
theorem DE {t kt el : TypeId} {x i : Operand} {g : Nat} {k : List UInt8} {L : List (List UInt8 × Value)} {z v : Value} {b : Bool} (ho : o.op = .lookup t x i true) (hx : ev e x = some (.map (some g))) (hi : ev e i = some (str k)) (hu : P.underlying t = some (.map kt el)) (hd : P.underlying kt = some .string)
 (hz : (P.info? el).map (·.zero) = some (some z)) (hM : Mp w g L) (hv : (CE L k).getD z = v) (hb : (CE L k).isSome = b) : Y P e o w (.tuple #[v, .bool b]) := by
 subst hv; subst hb
 exact V6 (ok := true) ho hx hi hu hd hz hM
theorem C2 {t kt el : TypeId} {x i : Operand} {g : Nat} {k : List UInt8} {L : List (List UInt8 × Value)} {z v : Value} (ho : o.op = .lookup t x i false) (hx : ev e x = some (.map (some g))) (hi : ev e i = some (str k)) (hu : P.underlying t = some (.map kt el)) (hd : P.underlying kt = some .string)
 (hz : (P.info? el).map (·.zero) = some (some z)) (hM : Mp w g L) (hv : (CE L k).getD z = v) : Y P e o w v := by
 subst hv
 exact V6 (ok := false) ho hx hi hu hd hz hM
theorem p9 {t t' : TypeId} {x y : Operand} {b c : UInt8} (ho : o.op = .binOp .or t x y t') (hx : ev e x = some (.int .u8 (b.toNat : Int))) (hy : ev e y = some (.int .u8 (c.toNat : Int))) : Y P e o w (.int .u8 ((b ||| c).toNat : Int)) := fun ρ h => by
 have hk : Op.intBits .or .u8 (b.toNat : Int) (c.toNat : Int) = pure (.int .u8 ((b ||| c).toNat : Int)) := by
  unfold Op.intBits
  have h1 : BitVec.ofInt (IntKind.u8).bits (b.toNat : Int) = b.toBitVec := by
   apply BitVec.eq_of_toNat_eq; simp [IntKind.bits]
  have h2 : BitVec.ofInt (IntKind.u8).bits (c.toNat : Int) = c.toBitVec := by
   apply BitVec.eq_of_toNat_eq; simp [IntKind.bits]
  simp only [h1, h2]
  have h3 : ((b.toBitVec ||| c.toBitVec : BitVec 8).toNat : Int) = ((b ||| c).toNat : Int) := rfl
  have h4 : (IntKind.u8).wrap ((b ||| c).toNat : Int) = ((b ||| c).toNat : Int) := by
   have := (b ||| c).toNat_lt
   rw [UInt8.toNat_or] at this
   simp [IntKind.wrap, IntKind.bits, IntKind.signed]; omega
  show (pure (.int .u8 ((IntKind.u8).wrap ((b.toBitVec ||| c.toBitVec : BitVec 8).toNat : Int))) : Sem Value) = _
  rw [h3, h4]
 unfold execOp
 simp [ho, h _ _ hx, h _ _ hy, eqGuard_at_int, Go.binOp, hk]
theorem pT {t t' : TypeId} {x y : Operand} {a b : Nat} (ho : o.op = .call { callee := .builtin .min, args := #[x, y], argTypes := #[t, t'] }) (hx : ev e x = some (.int .i64 (a : Int))) (hy : ev e y = some (.int .i64 (b : Int))) : Y P e o w (.int .i64 ((min a b : Nat) : Int)) := fun ρ h => by
 unfold execOp
 have hab : (if (b : Int) < (a : Int) then (b : Int) else (a : Int)) = ((min a b : Nat) : Int) := by split <;> omega
 simp only [ho, h _ _ hx, h _ _ hy, resolve, invoke, builtin, Builtin.min_, Builtin.min2, List.map_toArray, List.map_cons, List.map_nil, List.foldlM_cons, List.foldlM_nil, Sem.run_bind, Sem.run_pure, Result.andThen_ok, hab]
end
end
open Tryz
section
structure Vl where
 kind : UInt8
 int : Int
 bool : Bool
 text : List UInt8
def Vl.cells (v : Vl) : List Value := [bv v.kind, .int .i64 v.int, .bool v.bool, str v.text]
def Vl.val (v : Vl) : Value := .agg v.cells.toArray
def Vl.same (a b : Vl) : Bool := decide ((a.kind.toNat : Int) = b.kind.toNat) && (decide (a.int = b.int) && ((a.bool == b.bool) && decide (a.text = b.text)))
theorem Vl.cells_one (v : Vl) : ∀ u ∈ v.cells, u.oneCell' = true := by
 intro u hu
 simp only [Vl.cells, List.mem_cons, List.not_mem_nil, or_false] at hu
 rcases hu with rfl | rfl | rfl | rfl <;> rfl
def zeroVl : Vl := ⟨0, 0, false, []⟩
theorem LH : (prog.info? 67).map (·.zero) = some (some zeroVl.val) := by kernel_rfl
theorem EG : (prog.info? 67).map (·.size) = some 4 := by kernel_rfl
theorem U6 (n : Int) : prog.built 67 [(0, .int .u8 1), (1, .int .i64 n)] = some (Vl.cells ⟨1, n, false, []⟩).toArray := by kernel_rfl
theorem VF (b : Bool) : prog.built 67 [(0, .int .u8 2), (2, .bool b)] = some (Vl.cells ⟨2, 0, b, []⟩).toArray := by kernel_rfl
theorem V9 (l : List UInt8) : prog.built 67 [(0, .int .u8 3), (3, str l)] = some (Vl.cells ⟨3, 0, false, l⟩).toArray := by kernel_rfl
section
variable {P : Program} {e : Env} {w : World} {n : Nat}
theorem EA {fn : Func} {R : Ending → World → Prop} {t ty g m : Nat} {d : TypeDesc} {xs : List Value} (hr : fn.results = #[.cell t ty]) (hv : e.get t = some (.pointer (some ⟨g, 0, none⟩))) (hrd : Rd w (some ⟨g, 0, none⟩) m xs) (hu : P.underlying ty = some d) (hd : d.isRow = true) (hi : (P.info? ty).map (·.size) = some m)
 (h : R (.returned (.agg xs.toArray)) w) : QX (bodyPost P fn R) .ret n e w := .mk fun a ha => by
 have hc : w.rangeAt g 0 xs := fun j v hv => by
  have hj : 0 < m := by have := (List.getElem?_eq_some_iff.1 hv).1; have := hrd.1; omega
  obtain ⟨b', off', e, hc⟩ := hrd.2 hj
  injection e with e; injection e with e1 e2 _; subst e1; subst e2
  exact hc j v hv
 have hrun := run_loadVar_mid (P := P) w g 0 ty xs d hc hu hd (by rw [hrd.1]; exact hi)
 have : (results fn a.tmps).run P w = .ok (.agg xs.toArray) w := by simp [results, hr, ha.get t _ hv, asAddr, hrun]
 exact ⟨ha.defers, _, this, h⟩
end
theorem dE (i : Int) (w : World) : Calls prog 114 #[.int .i64 i] w fun e w' => e = .returned (Vl.val ⟨1, i, false, []⟩) ∧ Fr0 w w' := by
 refine AK (vs := [_]) func114 rfl ntmps114 rfl (A4 (A0 (CI (some 2) (A9 rfl) rfl rfl (fun ρ hρ => BX 67 rfl _ _ LH rfl) ?_)))
 rintro _ w1 ⟨g, rfl, hg1, hg2, hb, hf⟩
 refine A1 (A2 (A4 (A0 (yb rfl (ya rfl (BO rfl rfl (U6 i)) (CI none (A9 rfl) rfl rfl (fun ρ hρ => BP 67 (.tmp 2) (.tmp 4) rfl g 0 67 _ (Vl.cells ⟨1, i, false, []⟩) (hρ _ _ rfl) (hρ _ _ rfl) hb EG (by show 0 + 4 ≤ 4; omega) (Vl.cells_one _)) ?_))))))
 rintro _ w2 ⟨rfl, hb2, hf2⟩
 rw [PC zeroVl.cells (Vl.cells ⟨1, i, false, []⟩) rfl] at hb2
 exact A1 (A2 (AD (EA rfl rfl (Rd.ofBlk hb2 rfl) underlying67 rfl EG ⟨rfl, hf.step hf2 (fun k hk e => by omega)⟩)))
theorem fR (i : Bool) (w : World) : Calls prog 115 #[.bool i] w fun e w' => e = .returned (Vl.val ⟨2, 0, i, []⟩) ∧ Fr0 w w' := by
 refine AK (vs := [_]) func115 rfl ntmps115 rfl (A4 (A0 (CI (some 2) (A9 rfl) rfl rfl (fun ρ hρ => BX 67 rfl _ _ LH rfl) ?_)))
 rintro _ w1 ⟨g, rfl, hg1, hg2, hb, hf⟩
 refine A1 (A2 (A4 (A0 (yb rfl (ya rfl (BO rfl rfl (VF i)) (CI none (A9 rfl) rfl rfl (fun ρ hρ => BP 67 (.tmp 2) (.tmp 4) rfl g 0 67 _ (Vl.cells ⟨2, 0, i, []⟩) (hρ _ _ rfl) (hρ _ _ rfl) hb EG (by show 0 + 4 ≤ 4; omega) (Vl.cells_one _)) ?_))))))
 rintro _ w2 ⟨rfl, hb2, hf2⟩
 rw [PC zeroVl.cells (Vl.cells ⟨2, 0, i, []⟩) rfl] at hb2
 exact A1 (A2 (AD (EA rfl rfl (Rd.ofBlk hb2 rfl) underlying67 rfl EG ⟨rfl, hf.step hf2 (fun k hk e => by omega)⟩)))
theorem fG (i : List UInt8) (w : World) : Calls prog 116 #[str i] w fun e w' => e = .returned (Vl.val ⟨3, 0, false, i⟩) ∧ Fr0 w w' := by
 refine AK (vs := [_]) func116 rfl ntmps116 rfl (A4 (A0 (CI (some 2) (A9 rfl) rfl rfl (fun ρ hρ => BX 67 rfl _ _ LH rfl) ?_)))
 rintro _ w1 ⟨g, rfl, hg1, hg2, hb, hf⟩
 refine A1 (A2 (A4 (A0 (yb rfl (ya rfl (BO rfl rfl (V9 i)) (CI none (A9 rfl) rfl rfl (fun ρ hρ => BP 67 (.tmp 2) (.tmp 4) rfl g 0 67 _ (Vl.cells ⟨3, 0, false, i⟩) (hρ _ _ rfl) (hρ _ _ rfl) hb EG (by show 0 + 4 ≤ 4; omega) (Vl.cells_one _)) ?_))))))
 rintro _ w2 ⟨rfl, hb2, hf2⟩
 rw [PC zeroVl.cells (Vl.cells ⟨3, 0, false, i⟩) rfl] at hb2
 exact A1 (A2 (AD (EA rfl rfl (Rd.ofBlk hb2 rfl) underlying67 rfl EG ⟨rfl, hf.step hf2 (fun k hk e => by omega)⟩)))
theorem OB : prog.eqGuardType prog.depth 67 = false := by kernel_rfl
theorem PV : prog.stoodInHeld 67 = false := by kernel_rfl
theorem M3 : prog.underlying 67 = some (.struct (prog.fieldsOf 67)) := by kernel_rfl
theorem B8 {P : Program} {w : World} {f : Field} {fs : List Field} {d : Nat} {xs ys : Array Value} {a b : Value} {r : Bool} (hn : f.name ≠ "_") (ha : (part f.type xs f.offset).run P w = .ok a w) (hb : (part f.type ys f.offset).run P w = .ok b w)
 (hr : (Op.equalIn d f.type a b).run P w = .ok r w) : (Op.eqFields d xs ys (f :: fs)).run P w = if r then (Op.eqFields d xs ys fs).run P w else .ok false w := by
 simp only [Op.eqFields, if_pos hn, Sem.run_bind, ha, hb, hr, Result.andThen_ok]
 cases r <;> simp
theorem B4 {P : Program} {w : World} {t : TypeId} {xs : Array Value} {off : Nat} {v : Value} (ha : (isAgg t).run P w = .ok false w) (hx : xs[off]? = some v) : (part t xs off).run P w = .ok v w := by simp [part, ha, hx]
theorem XL {e : Env} {w : World} {o : Oper} {t' : Nat} {x y : Operand} {a b : Vl} (ho : o.op = .binOp .eql 67 x y t') (hx : ev e x = some a.val) (hy : ev e y = some b.val) : Y prog e o w (.bool (a.same b)) := fun ρ h => by
 have h1 : ρ x = .agg a.cells.toArray := h _ _ hx
 have h2 : ρ y = .agg b.cells.toArray := h _ _ hy
 have hg := run_eqGuard_agg (P := prog) w .eql 67 x y a.cells.toArray b.cells.toArray OB
 have hrun : (Op.equalIn 10000 67 (.agg a.cells.toArray) (.agg b.cells.toArray)).run prog w = .ok (a.same b) w := by
  rw [run_equalIn_struct w 9999 67 _ _ M3 PV]
  have hl : (prog.fieldsOf 67).toList = (match prog.underlying 67 with | some (.struct fs) => fs.toList | _ => []) := by unfold Program.fieldsOf; rw [underlying67]
  rw [hl, underlying67]
  simp only
  rw [B8 (a := .int .u8 (a.kind.toNat : Int)) (b := .int .u8 (b.kind.toNat : Int)) (by decide) (B4 (isAgg5 w) rfl) (B4 (isAgg5 w) rfl) (run_equalIn_int w 9998 5 _ _ _ _ underlying5),
   B8 (a := .int .i64 a.int) (b := .int .i64 b.int) (by decide) (B4 (isAgg2 w) rfl) (B4 (isAgg2 w) rfl) (run_equalIn_int w 9998 2 _ _ _ _ underlying2),
   B8 (a := .bool a.bool) (b := .bool b.bool) (by decide) (B4 (isAgg4 w) rfl) (B4 (isAgg4 w) rfl) (run_equalIn_bool' w 9998 4 _ _ underlying4),
   B8 (a := str a.text) (b := str b.text) (by decide) (B4 (isAgg9 w) rfl) (B4 (isAgg9 w) rfl) (run_equalIn_string w 9998 9 _ _ underlying9)]
  have ht : ((⟨a.text.toArray⟩ : ByteArray).toList == (⟨b.text.toArray⟩ : ByteArray).toList) = decide (a.text = b.text) := by
   rw [ByteArray.toList_eq, ByteArray.toList_eq]
   by_cases h : a.text = b.text <;> simp [h]
  rw [ht]
  simp only [Op.eqFields, Sem.run_pure]
  unfold Vl.same
  by_cases h1 : (a.kind.toNat : Int) = b.kind.toNat <;> by_cases h2 : a.int = b.int <;> by_cases h3 : a.bool = b.bool <;> by_cases h4 : a.text = b.text <;> simp [h1, h2, h3, h4]
 unfold execOp
 simp only [ho, h1, h2, Sem.run_bind, hg, Result.andThen_ok, run_eql_struct, hrun]
 rfl
end
def EW (c : UInt8) : Bool := (97 ≤ c.toNat && c.toNat ≤ 122) || (65 ≤ c.toNat && c.toNat ≤ 90)
def K7 (c : UInt8) : Bool := (48 ≤ c.toNat && c.toNat ≤ 57) || c.toNat == 45 || c.toNat == 95 || c.toNat == 46
def I9 : Nat → List UInt8 → Bool
 | _, [] => true
 | i, c :: l => (EW c || (K7 c && i != 0)) && I9 (i + 1) l
def BU (l : List UInt8) : Bool := decide (1 ≤ l.length) && decide (l.length ≤ 32) && I9 0 l
section
structure Bd where
 name : List UInt8
 v : Vl
def Bd.cells (b : Bd) : List Value := str b.name :: b.v.cells
def sS (l : List Bd) : List (List Value) := l.map Bd.cells
def jP (l : List Bd) : List Value := (sS l).flatten
structure ElD (w : World) (b off : Nat) (x : Bd) : Prop where
 name : Cell w.heap b (off + 0) (str x.name)
 kind : Cell w.heap b (off + 1 + 0) (.int .u8 (x.v.kind.toNat : Int))
 val : Rd w (some ⟨b, off + 1, none⟩) 4 x.v.cells
 all : Rd w (some ⟨b, off, none⟩) 5 x.cells
theorem Bd.cells_one (b : Bd) : ∀ u ∈ b.cells, u.oneCell' = true := by
 intro u hu
 simp only [Bd.cells, Vl.cells, List.mem_cons, List.not_mem_nil, or_false] at hu
 rcases hu with rfl | rfl | rfl | rfl | rfl <;> rfl
section
variable {P : Program} {e : Env} {w : World} {n : Nat}
theorem G3 {fn : Func} {R : Ending → World → Prop} {t ty g m u : Nat} {v : Value} {d : TypeDesc} {xs : List Value} (hr : fn.results = #[.cell t ty, .tmp u]) (hv : e.get t = some (.pointer (some ⟨g, 0, none⟩))) (hrd : Rd w (some ⟨g, 0, none⟩) m xs) (hu : P.underlying ty = some d) (hd : d.isRow = true) (hi : (P.info? ty).map (·.size) = some m)
 (hv' : e.get u = some v) (h : R (.returned (.tuple #[.agg xs.toArray, v])) w) : QX (bodyPost P fn R) .ret n e w := .mk fun a ha => by
 have hc : w.rangeAt g 0 xs := fun j v hv => by
  have hj : 0 < m := by have := (List.getElem?_eq_some_iff.1 hv).1; have := hrd.1; omega
  obtain ⟨b', off', e, hc⟩ := hrd.2 hj
  injection e with e; injection e with e1 e2 _; subst e1; subst e2
  exact hc j v hv
 have hrun := run_loadVar_mid (P := P) w g 0 ty xs d hc hu hd (by rw [hrd.1]; exact hi)
 have : (results fn a.tmps).run P w = .ok (.tuple #[.agg xs.toArray, v]) w := by simp [results, hr, ha.get t _ hv, ha.get u _ hv', asAddr, hrun]
 exact ⟨ha.defers, _, this, h⟩
theorem K3 {fn : Func} {R : Ending → World → Prop} {t ty g m u u2 : Nat} {v v2 : Value} {d : TypeDesc} {xs : List Value} (hr : fn.results = #[.cell t ty, .tmp u, .tmp u2]) (hv : e.get t = some (.pointer (some ⟨g, 0, none⟩))) (hrd : Rd w (some ⟨g, 0, none⟩) m xs) (hu : P.underlying ty = some d) (hd : d.isRow = true) (hi : (P.info? ty).map (·.size) = some m)
 (hv' : e.get u = some v) (hv2 : e.get u2 = some v2) (h : R (.returned (.tuple #[.agg xs.toArray, v, v2])) w) : QX (bodyPost P fn R) .ret n e w := .mk fun a ha => by
 have hc : w.rangeAt g 0 xs := fun j v hv => by
  have hj : 0 < m := by have := (List.getElem?_eq_some_iff.1 hv).1; have := hrd.1; omega
  obtain ⟨b', off', e, hc⟩ := hrd.2 hj
  injection e with e; injection e with e1 e2 _; subst e1; subst e2
  exact hc j v hv
 have hrun := run_loadVar_mid (P := P) w g 0 ty xs d hc hu hd (by rw [hrd.1]; exact hi)
 have : (results fn a.tmps).run P w = .ok (.tuple #[.agg xs.toArray, v, v2]) w := by simp [results, hr, ha.get t _ hv, ha.get u _ hv', ha.get u2 _ hv2, asAddr, hrun]
 exact ⟨ha.defers, _, this, h⟩
end
structure BdOk (l : List Bd) : Prop where
 len : (l.length : Int) < 4611686018427387904
 name : ∀ x ∈ l, (x.name.length : Int) < 4611686018427387904
 text : ∀ x ∈ l, (x.v.text.length : Int) < 4611686018427387904
end
structure El where
 id : List UInt8
 nm : List UInt8
 kind : UInt8
 inn : List UInt8
 dflt : List UInt8
 att : List UInt8
 ev : UInt8
 ref : List UInt8
 key : List UInt8
 ticks : Int
 tries : Int
def El.cells (x : El) : List Value := [str x.id, str x.nm, .int .u8 (x.kind.toNat : Int), str x.inn, str x.dflt, str x.att, .int .u8 (x.ev.toNat : Int), str x.ref, str x.key, .int .i64 x.ticks, .int .i64 x.tries]
theorem El.cells_one (x : El) : ∀ u ∈ x.cells, u.oneCell' = true := AW rfl
theorem El.len (x : El) : x.cells.length = 11 := rfl
def zeroEl : El := ⟨[], [], 0, [], [], [], 0, [], [], 0, 0⟩
structure Fl where
 id : List UInt8
 frm : List UInt8
 tg : List UInt8
 cond : List UInt8
def Fl.cells (x : Fl) : List Value := [str x.id, str x.frm, str x.tg, str x.cond]
theorem Fl.cells_one (x : Fl) : ∀ u ∈ x.cells, u.oneCell' = true := AW rfl
theorem Fl.len (x : Fl) : x.cells.length = 4 := rfl
def zeroFl : Fl := ⟨[], [], [], []⟩
theorem Bd.len (x : Bd) : x.cells.length = 5 := rfl
structure Md where
 id : List UInt8
 nm : List UInt8
 vars : List Bd
 els : List El
 fls : List Fl
structure MdA where
 V : Option Addr
 vc : Nat
 E : Option Addr
 ec : Nat
 F : Option Addr
 fc : Nat
def Md.cells (m : Md) (a : MdA) : List Value := [str m.id, str m.nm, .slice a.V m.vars.length a.vc, .slice a.E m.els.length a.ec, .slice a.F m.fls.length a.fc]
structure MdIn (w : World) (m : Md) (a : MdA) : Prop where
 vars : Rd w a.V (m.vars.length * 5) (AR Bd.cells m.vars)
 els : Rd w a.E (m.els.length * 11) (AR El.cells m.els)
 fls : Rd w a.F (m.fls.length * 4) (AR Fl.cells m.fls)
theorem MdIn.fr0 {w w' : World} {m : Md} {a : MdA} (h : MdIn w m a) (hf : Fr0 w w') : MdIn w' m a := ⟨h.vars.fr0 hf, h.els.fr0 hf, h.fls.fr0 hf⟩
structure ElOk (x : El) : Prop where
 id : (x.id.length : Int) < 4611686018427387904
 nm : (x.nm.length : Int) < 4611686018427387904
 inn : (x.inn.length : Int) < 4611686018427387904
 dflt : (x.dflt.length : Int) < 4611686018427387904
 att : (x.att.length : Int) < 4611686018427387904
 ref : (x.ref.length : Int) < 4611686018427387904
 key : (x.key.length : Int) < 4611686018427387904
structure FlOk (x : Fl) : Prop where
 id : (x.id.length : Int) < 4611686018427387904
 frm : (x.frm.length : Int) < 4611686018427387904
 tg : (x.tg.length : Int) < 4611686018427387904
 cond : (x.cond.length : Int) < 4611686018427387904
structure MdOk (m : Md) : Prop where
 id : (m.id.length : Int) < 4611686018427387904
 nm : (m.nm.length : Int) < 4611686018427387904
 vars : BdOk m.vars
 nels : m.els.length ≤ 200
 nfls : m.fls.length ≤ 400
 nvars : m.vars.length ≤ 200
 els : ∀ x ∈ m.els, ElOk x
 fls : ∀ x ∈ m.fls, FlOk x
theorem AY : (prog.info? 62).map (·.zero) = some (some (.agg zeroEl.cells.toArray)) := by kernel_rfl
theorem AU : (prog.info? 62).map (·.size) = some 11 := by kernel_rfl
theorem CB : (prog.info? 65).map (·.size) = some 4 := by kernel_rfl
theorem EF : (prog.info? 65).map (·.zero) = some (some (.agg zeroFl.cells.toArray)) := by kernel_rfl
theorem BL : (prog.info? 26).map (·.size) = some 5 := by kernel_rfl
theorem IN : (prog.info? 95).map (·.size) = some 5 := by kernel_rfl
theorem D2 : (prog.info? 67).map (·.size) = some 4 := by kernel_rfl
theorem D5 : (prog.info? 9).map (fun i => (i.zero, i.size)) = some (some (str []), 1) := by kernel_rfl
theorem CU : (prog.info? 9).map (fun i => (i.zero, i.size, i.bytes)) = some (some (str []), 1, 16) := by kernel_rfl
structure PredJ {α : Type} (P : Program) (f : FuncId) (cs : List Value) (av : α → Value) (l : List α) (p : Nat → α → Bool) (S : Nat → Prop) (J : Nat → World → Prop) (w : World) : Prop where
 fn : ∀ (us : Array Value) (w : World), (callFunc f us).run P w = .ok (.enter f us) w
 call : ∀ (i : Nat) (x : α) (w1 : World), l[i]? = some x → Fr S w w1 → J i w1 → Calls P f (av x :: cs).toArray w1 fun e w2 => e = .returned (.bool (p i x)) ∧ J (i + 1) w2 ∧ Fr S w1 w2
 st : ∀ (i : Nat) (w1 w2 : World), Fr0 w1 w2 → J i w1 → J i w2
 old : ∀ g, S g → g < w.heap.size
def ixJ {α : Type} (p : Nat → α → Bool) : Nat → List α → Int
 | _, [] => -1
 | i, x :: r => if p i x = true then (i : Int) else ixJ p (i + 1) r
def ixN {α : Type} (p : Nat → α → Bool) : Nat → List α → Nat
 | i, [] => i
 | i, x :: r => if p i x = true then i + 1 else ixN p (i + 1) r
theorem JN {α : Type} (p : α → Bool) : ∀ (l : List α) (i : Nat), decide (0 ≤ ixJ (fun _ => p) i l) = l.any p
 | [], i => by simp [ixJ]
 | x :: r, i => by
  rw [ixJ, List.any_cons]
  by_cases h : p x = true
  ·rw [if_pos h, h]; simp
  ·rw [if_neg h, JN p r (i + 1)]; simp [h]
def ffN {α : Type} (p : Nat → α → Bool) : Nat → List α → Option α
 | _, [] => none
 | i, x :: r => if p i x = true then ffN p (i + 1) r else some x
theorem UI {α : Type} (p : Nat → α → Bool) : ∀ (l : List α) (i : Nat), (ixJ (fun i x => !(p i x)) i l = -1 ∧ ffN p i l = none) ∨ ∃ j x, ixJ (fun i x => !(p i x)) i l = ((i + j : Nat) : Int) ∧ l[j]? = some x ∧ ffN p i l = some x
 | [], i => .inl ⟨rfl, rfl⟩
 | x :: r, i => by
  by_cases h : p i x = true
  ·rw [ixJ, if_neg (by simp [h]), ffN, if_pos h]
   rcases UI p r (i + 1) with h1 | ⟨j, y, h1, h2, h3⟩
   ·exact .inl h1
   ·right; exact ⟨j + 1, y, by rw [h1]; congr 1; omega, h2, h3⟩
  ·right; exact ⟨0, x, by rw [ixJ, if_pos (by simp [h])]; rfl, rfl, by rw [ffN, if_neg h]⟩
theorem Mem.one {w : World} {g t : Nat} {cs : List Value} (h : Blk w g t cs) : Mem w (fun k => k = g) [As.blk g t cs] w where
 fr := Fr.refl
 ok i a hi := by
  cases i with
  | zero => simp only [List.getElem?_cons_zero, Option.some.injEq] at hi; subst hi; exact h
  | succ i => simp at hi
 lt i a hi g' hg' := by
  cases i with
  | zero =>
   simp only [List.getElem?_cons_zero, Option.some.injEq] at hi; subst hi
   simp only [As.blk, List.mem_singleton] at hg'; subst hg'
   exact ⟨h.lt, .inr rfl⟩
  | succ i => simp at hi
 apart i j a b hi hj hne := by
  cases i with
  | zero =>
   cases j with
   | zero => exact absurd rfl hne
   | succ j => simp at hj
  | succ i => simp at hi
theorem AM : (prog.info? 70).map (·.size) = some 7 := by kernel_rfl
theorem UK {α : Type} (cells : α → List Value) (hk : ∀ x, (cells x).length = 11) (A : Option Addr) (c : Nat) (l : List α) (hl : l.length ≤ 4611686018427387904) (f : FuncId) (cs : List Value) (p : Nat → α → Bool) (S : Nat → Prop) (J : Nat → World → Prop) (w : World) (hP : PredJ prog f cs (fun x => .agg (cells x).toArray) l p S J w) (hR : ∀ w1, Fr S w w1 → Rd w1 A (l.length * 11) (AR cells l)) (hJ : J 0 w) :
 Calls prog 21 #[.slice A l.length c, .func (.func f) #[] cs.toArray] w fun e w' => e = .returned (.int .i64 (ixJ p 0 l)) ∧ J (ixN p 0 l) w' ∧ Fr S w w' := by
 refine AK (vs := [_, _]) func21 rfl ntmps21 rfl ?_
 have M : Mem w S [] w := Mem.nil w
 refine A4 (A0 (yb rfl (A1 (A2 (A4 (A4 (A0 (yb rfl (ya rfl (CY rfl rfl (sl rfl)) (yb rfl (A1 (A2 (AV (CM (fun e wr mz => ∃ (i : Nat), e = [(0, .slice A l.length c), (1, .func (.func f) #[] cs.toArray), (7, .int .i64 ((l.length : Nat) : Int)), (8, .int .i64 ((i : Nat) : Int))] ∧ Mem w S [] wr ∧ (i ≤ l.length) ∧ (J i wr) ∧ (ixJ p 0 l = ixJ p i (l.drop i)) ∧ (ixN p 0 l = ixN p i (l.drop i)) ∧ mz = l.length - i) ⟨0, rfl, M, Nat.zero_le _, hJ, rfl, rfl, rfl⟩ ⟨rfl, rfl, rfl, rfl, trivial⟩ ?_))))))))))))))
 rintro _ w1 _ ⟨i, rfl, M, hi, hJ, hr, hn, rfl⟩
 refine A4 (A0 (ya rfl (CH rfl rfl rfl) (A1 (A2 (A4 (AQ (b := (decide (((i : Nat) : Int) < ((l.length : Nat) : Int)))) rfl (fun h9 => ?_) (fun h9 => ?_)))))))
 ·have h9p := (odt h9)
  refine AL (A2 (A4 (AV (A4 (A0 (yb rfl (yb rfl (A1 (A2 (A4 (A0 (yb rfl (yb rfl (yb rfl ?_))))))))))))))
  obtain ⟨x, hx⟩ := DY (l := l) (i := i) (by omega)
  obtain ⟨b_x, o_x, hA_x⟩ := CL (k := 11) (by omega) (hR _ M.fr) hx
  refine ya rfl (BW i hA_x rfl rfl rfl (sl rfl) (by omega)) (ya rfl (AN rfl rfl (DK hk (hR _ M.fr) hA_x hx) underlying62 rfl AU) (cl 16 rfl (C0 rfl rfl rfl hP.fn) (hP.call i x _ hx M.fr hJ) ?_))
  rintro _ w9 ⟨rfl, hJ, hf9⟩
  refine ⟨_, rfl, ?_⟩
  have M : Mem w S [] w9 := Mem.ofFr (M.fr.trans hf9)
  refine A1 (A2 (AQ (b := (p i x)) rfl (fun h16 => ?_) (fun h16 => ?_)))
  ·exact A4 (A0 (yb rfl (yb rfl (A1 (A2 (AD (AJ (AA (AA (AJ (AA (AH rfl rfl ⟨by rw [hr, BG hx, ixJ, if_pos h16], by rw [hn, BG hx, ixN, if_pos h16]; exact hJ, M.fr⟩))))))))))))
  ·refine AL (AC (A2 (A0 (ya rfl (CQ rfl rfl rfl (by omega)) (yb rfl (A1 (BM [(0, .slice A l.length c), (1, .func (.func f) #[] cs.toArray), (7, .int .i64 ((l.length : Nat) : Int)), (8, .int .i64 (((i + 1) : Nat) : Int))] (l.length - (i + 1)) ⟨i + 1, rfl, M, ?_, ?_, ?_, ?_, rfl⟩ (by first | omega | (simp <;> omega)) ⟨rfl, rfl, rfl, rfl, trivial⟩)))))))
   ·omega
   ·exact hJ
   ·rw [hr, BG hx, ixJ, if_neg (BA h16)]
   ·rw [hn, BG hx, ixN, if_neg (BA h16)]
 ·have h9p := (odf h9)
  refine CD (AI (AI (BB (A2 (A4 (A0 (yb rfl (A1 (A2 (AD (AH rfl rfl ?_)))))))))))
  obtain rfl : i = l.length := by omega
  exact ⟨by rw [hr, List.drop_length]; rfl, by rw [hn, List.drop_length]; exact hJ, M.fr⟩
theorem kU {α : Type} (cells : α → List Value) (hk : ∀ x, (cells x).length = 11) (A : Option Addr) (c : Nat) (l : List α) (hl : l.length ≤ 4611686018427387904) (f : FuncId) (cs : List Value) (p : Nat → α → Bool) (S : Nat → Prop) (J : Nat → World → Prop) (w : World) (hP : PredJ prog f cs (fun x => .agg (cells x).toArray) l p S J w) (hR : ∀ w1, Fr S w w1 → Rd w1 A (l.length * 11) (AR cells l)) (hJ : J 0 w) :
 Calls prog 94 #[.slice A l.length c, .func (.func f) #[] cs.toArray] w fun e w' => e = .returned (.bool (decide (0 ≤ ixJ p 0 l))) ∧ J (ixN p 0 l) w' ∧ Fr S w w' := by
 refine AK (vs := [_, _]) func94 rfl ntmps94 rfl ?_
 have M : Mem w S [] w := Mem.nil w
 refine A4 (A0 (yb rfl (A1 (A2 (A4 (A0 (yb rfl (yb rfl (cl 7 rfl (AF rfl rfl call21) (UK cells hk A c l hl f cs p S J _ hP hR hJ) ?_)))))))))
 rintro _ w9 ⟨rfl, hJ, hf9⟩
 refine ⟨_, rfl, ?_⟩
 have M : Mem w S [] w9 := Mem.ofFr hf9
 exact ya rfl (EP rfl rfl rfl) (yb rfl (A1 (A2 (AD (AH rfl rfl ⟨rfl, hJ, M.fr⟩)))))
theorem aS {α : Type} (cells : α → List Value) (hk : ∀ x, (cells x).length = 4) (A : Option Addr) (c : Nat) (l : List α) (hl : l.length ≤ 4611686018427387904) (f : FuncId) (cs : List Value) (p : Nat → α → Bool) (S : Nat → Prop) (J : Nat → World → Prop) (w : World) (hP : PredJ prog f cs (fun x => .agg (cells x).toArray) l p S J w) (hR : ∀ w1, Fr S w w1 → Rd w1 A (l.length * 4) (AR cells l)) (hJ : J 0 w) :
 Calls prog 129 #[.slice A l.length c, .func (.func f) #[] cs.toArray] w fun e w' => e = .returned (.int .i64 (ixJ p 0 l)) ∧ J (ixN p 0 l) w' ∧ Fr S w w' := by
 refine AK (vs := [_, _]) func129 rfl ntmps129 rfl ?_
 have M : Mem w S [] w := Mem.nil w
 refine A4 (A0 (yb rfl (A1 (A2 (A4 (A4 (A0 (yb rfl (ya rfl (CY rfl rfl (sl rfl)) (yb rfl (A1 (A2 (AV (CM (fun e wr mz => ∃ (i : Nat), e = [(0, .slice A l.length c), (1, .func (.func f) #[] cs.toArray), (7, .int .i64 ((l.length : Nat) : Int)), (8, .int .i64 ((i : Nat) : Int))] ∧ Mem w S [] wr ∧ (i ≤ l.length) ∧ (J i wr) ∧ (ixJ p 0 l = ixJ p i (l.drop i)) ∧ (ixN p 0 l = ixN p i (l.drop i)) ∧ mz = l.length - i) ⟨0, rfl, M, Nat.zero_le _, hJ, rfl, rfl, rfl⟩ ⟨rfl, rfl, rfl, rfl, trivial⟩ ?_))))))))))))))
 rintro _ w1 _ ⟨i, rfl, M, hi, hJ, hr, hn, rfl⟩
 refine A4 (A0 (ya rfl (CH rfl rfl rfl) (A1 (A2 (A4 (AQ (b := (decide (((i : Nat) : Int) < ((l.length : Nat) : Int)))) rfl (fun h9 => ?_) (fun h9 => ?_)))))))
 ·have h9p := (odt h9)
  refine AL (A2 (A4 (AV (A4 (A0 (yb rfl (yb rfl (A1 (A2 (A4 (A0 (yb rfl (yb rfl (yb rfl ?_))))))))))))))
  obtain ⟨x, hx⟩ := DY (l := l) (i := i) (by omega)
  obtain ⟨b_x, o_x, hA_x⟩ := CL (k := 4) (by omega) (hR _ M.fr) hx
  refine ya rfl (BW i hA_x rfl rfl rfl (sl rfl) (by omega)) (ya rfl (AN rfl rfl (DK hk (hR _ M.fr) hA_x hx) underlying65 rfl CB) (cl 16 rfl (C0 rfl rfl rfl hP.fn) (hP.call i x _ hx M.fr hJ) ?_))
  rintro _ w9 ⟨rfl, hJ, hf9⟩
  refine ⟨_, rfl, ?_⟩
  have M : Mem w S [] w9 := Mem.ofFr (M.fr.trans hf9)
  refine A1 (A2 (AQ (b := (p i x)) rfl (fun h16 => ?_) (fun h16 => ?_)))
  ·exact A4 (A0 (yb rfl (yb rfl (A1 (A2 (AD (AJ (AA (AA (AJ (AA (AH rfl rfl ⟨by rw [hr, BG hx, ixJ, if_pos h16], by rw [hn, BG hx, ixN, if_pos h16]; exact hJ, M.fr⟩))))))))))))
  ·refine AL (AC (A2 (A0 (ya rfl (CQ rfl rfl rfl (by omega)) (yb rfl (A1 (BM [(0, .slice A l.length c), (1, .func (.func f) #[] cs.toArray), (7, .int .i64 ((l.length : Nat) : Int)), (8, .int .i64 (((i + 1) : Nat) : Int))] (l.length - (i + 1)) ⟨i + 1, rfl, M, ?_, ?_, ?_, ?_, rfl⟩ (by first | omega | (simp <;> omega)) ⟨rfl, rfl, rfl, rfl, trivial⟩)))))))
   ·omega
   ·exact hJ
   ·rw [hr, BG hx, ixJ, if_neg (BA h16)]
   ·rw [hn, BG hx, ixN, if_neg (BA h16)]
 ·have h9p := (odf h9)
  refine CD (AI (AI (BB (A2 (A4 (A0 (yb rfl (A1 (A2 (AD (AH rfl rfl ?_)))))))))))
  obtain rfl : i = l.length := by omega
  exact ⟨by rw [hr, List.drop_length]; rfl, by rw [hn, List.drop_length]; exact hJ, M.fr⟩
theorem kT {α : Type} (cells : α → List Value) (hk : ∀ x, (cells x).length = 4) (A : Option Addr) (c : Nat) (l : List α) (hl : l.length ≤ 4611686018427387904) (f : FuncId) (cs : List Value) (p : Nat → α → Bool) (S : Nat → Prop) (J : Nat → World → Prop) (w : World) (hP : PredJ prog f cs (fun x => .agg (cells x).toArray) l p S J w) (hR : ∀ w1, Fr S w w1 → Rd w1 A (l.length * 4) (AR cells l)) (hJ : J 0 w) :
 Calls prog 84 #[.slice A l.length c, .func (.func f) #[] cs.toArray] w fun e w' => e = .returned (.bool (decide (0 ≤ ixJ p 0 l))) ∧ J (ixN p 0 l) w' ∧ Fr S w w' := by
 refine AK (vs := [_, _]) func84 rfl ntmps84 rfl ?_
 have M : Mem w S [] w := Mem.nil w
 refine A4 (A0 (yb rfl (A1 (A2 (A4 (A0 (yb rfl (yb rfl (cl 7 rfl (AF rfl rfl call129) (aS cells hk A c l hl f cs p S J _ hP hR hJ) ?_)))))))))
 rintro _ w9 ⟨rfl, hJ, hf9⟩
 refine ⟨_, rfl, ?_⟩
 have M : Mem w S [] w9 := Mem.ofFr hf9
 exact ya rfl (EP rfl rfl rfl) (yb rfl (A1 (A2 (AD (AH rfl rfl ⟨rfl, hJ, M.fr⟩)))))
theorem PJ {α : Type} (cells : α → List Value) (hk : ∀ x, (cells x).length = 5) (A : Option Addr) (c : Nat) (l : List α) (hl : l.length ≤ 4611686018427387904) (f : FuncId) (cs : List Value) (p : Nat → α → Bool) (S : Nat → Prop) (J : Nat → World → Prop) (w : World) (hP : PredJ prog f cs (fun x => .agg (cells x).toArray) l p S J w) (hR : ∀ w1, Fr S w w1 → Rd w1 A (l.length * 5) (AR cells l)) (hJ : J 0 w) :
 Calls prog 112 #[.slice A l.length c, .func (.func f) #[] cs.toArray] w fun e w' => e = .returned (.int .i64 (ixJ p 0 l)) ∧ J (ixN p 0 l) w' ∧ Fr S w w' := by
 refine AK (vs := [_, _]) func112 rfl ntmps112 rfl ?_
 have M : Mem w S [] w := Mem.nil w
 refine A4 (A0 (yb rfl (A1 (A2 (A4 (A4 (A0 (yb rfl (ya rfl (CY rfl rfl (sl rfl)) (yb rfl (A1 (A2 (AV (CM (fun e wr mz => ∃ (i : Nat), e = [(0, .slice A l.length c), (1, .func (.func f) #[] cs.toArray), (7, .int .i64 ((l.length : Nat) : Int)), (8, .int .i64 ((i : Nat) : Int))] ∧ Mem w S [] wr ∧ (i ≤ l.length) ∧ (J i wr) ∧ (ixJ p 0 l = ixJ p i (l.drop i)) ∧ (ixN p 0 l = ixN p i (l.drop i)) ∧ mz = l.length - i) ⟨0, rfl, M, Nat.zero_le _, hJ, rfl, rfl, rfl⟩ ⟨rfl, rfl, rfl, rfl, trivial⟩ ?_))))))))))))))
 rintro _ w1 _ ⟨i, rfl, M, hi, hJ, hr, hn, rfl⟩
 refine A4 (A0 (ya rfl (CH rfl rfl rfl) (A1 (A2 (A4 (AQ (b := (decide (((i : Nat) : Int) < ((l.length : Nat) : Int)))) rfl (fun h9 => ?_) (fun h9 => ?_)))))))
 ·have h9p := (odt h9)
  refine AL (A2 (A4 (AV (A4 (A0 (yb rfl (yb rfl (A1 (A2 (A4 (A0 (yb rfl (yb rfl (yb rfl ?_))))))))))))))
  obtain ⟨x, hx⟩ := DY (l := l) (i := i) (by omega)
  obtain ⟨b_x, o_x, hA_x⟩ := CL (k := 5) (by omega) (hR _ M.fr) hx
  refine ya rfl (BW i hA_x rfl rfl rfl (sl rfl) (by omega)) (ya rfl (AN rfl rfl (DK hk (hR _ M.fr) hA_x hx) underlying95 rfl IN) (cl 16 rfl (C0 rfl rfl rfl hP.fn) (hP.call i x _ hx M.fr hJ) ?_))
  rintro _ w9 ⟨rfl, hJ, hf9⟩
  refine ⟨_, rfl, ?_⟩
  have M : Mem w S [] w9 := Mem.ofFr (M.fr.trans hf9)
  refine A1 (A2 (AQ (b := (p i x)) rfl (fun h16 => ?_) (fun h16 => ?_)))
  ·exact A4 (A0 (yb rfl (yb rfl (A1 (A2 (AD (AJ (AA (AA (AJ (AA (AH rfl rfl ⟨by rw [hr, BG hx, ixJ, if_pos h16], by rw [hn, BG hx, ixN, if_pos h16]; exact hJ, M.fr⟩))))))))))))
  ·refine AL (AC (A2 (A0 (ya rfl (CQ rfl rfl rfl (by omega)) (yb rfl (A1 (BM [(0, .slice A l.length c), (1, .func (.func f) #[] cs.toArray), (7, .int .i64 ((l.length : Nat) : Int)), (8, .int .i64 (((i + 1) : Nat) : Int))] (l.length - (i + 1)) ⟨i + 1, rfl, M, ?_, ?_, ?_, ?_, rfl⟩ (by first | omega | (simp <;> omega)) ⟨rfl, rfl, rfl, rfl, trivial⟩)))))))
   ·omega
   ·exact hJ
   ·rw [hr, BG hx, ixJ, if_neg (BA h16)]
   ·rw [hn, BG hx, ixN, if_neg (BA h16)]
 ·have h9p := (odf h9)
  refine CD (AI (AI (BB (A2 (A4 (A0 (yb rfl (A1 (A2 (AD (AH rfl rfl ?_)))))))))))
  obtain rfl : i = l.length := by omega
  exact ⟨by rw [hr, List.drop_length]; rfl, by rw [hn, List.drop_length]; exact hJ, M.fr⟩
theorem kV {α : Type} (cells : α → List Value) (hk : ∀ x, (cells x).length = 5) (A : Option Addr) (c : Nat) (l : List α) (hl : l.length ≤ 4611686018427387904) (f : FuncId) (cs : List Value) (p : Nat → α → Bool) (S : Nat → Prop) (J : Nat → World → Prop) (w : World) (hP : PredJ prog f cs (fun x => .agg (cells x).toArray) l p S J w) (hR : ∀ w1, Fr S w w1 → Rd w1 A (l.length * 5) (AR cells l)) (hJ : J 0 w) :
 Calls prog 98 #[.slice A l.length c, .func (.func f) #[] cs.toArray] w fun e w' => e = .returned (.bool (decide (0 ≤ ixJ p 0 l))) ∧ J (ixN p 0 l) w' ∧ Fr S w w' := by
 refine AK (vs := [_, _]) func98 rfl ntmps98 rfl ?_
 have M : Mem w S [] w := Mem.nil w
 refine A4 (A0 (yb rfl (A1 (A2 (A4 (A0 (yb rfl (yb rfl (cl 7 rfl (AF rfl rfl call112) (PJ cells hk A c l hl f cs p S J _ hP hR hJ) ?_)))))))))
 rintro _ w9 ⟨rfl, hJ, hf9⟩
 refine ⟨_, rfl, ?_⟩
 have M : Mem w S [] w9 := Mem.ofFr hf9
 exact ya rfl (EP rfl rfl rfl) (yb rfl (A1 (A2 (AD (AH rfl rfl ⟨rfl, hJ, M.fr⟩)))))
theorem o6 {α : Type} (cells : α → List Value) (hk : ∀ x, (cells x).length = 7) (A : Option Addr) (c : Nat) (l : List α) (hl : l.length ≤ 4611686018427387904) (f : FuncId) (cs : List Value) (p : Nat → α → Bool) (S : Nat → Prop) (J : Nat → World → Prop) (w : World) (hP : PredJ prog f cs (fun x => .agg (cells x).toArray) l p S J w) (hR : ∀ w1, Fr S w w1 → Rd w1 A (l.length * 7) (AR cells l)) (hJ : J 0 w) :
 Calls prog 191 #[.slice A l.length c, .func (.func f) #[] cs.toArray] w fun e w' => e = .returned (.int .i64 (ixJ p 0 l)) ∧ J (ixN p 0 l) w' ∧ Fr S w w' := by
 refine AK (vs := [_, _]) func191 rfl ntmps191 rfl ?_
 have M : Mem w S [] w := Mem.nil w
 refine A4 (A0 (yb rfl (A1 (A2 (A4 (A4 (A0 (yb rfl (ya rfl (CY rfl rfl (sl rfl)) (yb rfl (A1 (A2 (AV (CM (fun e wr mz => ∃ (i : Nat), e = [(0, .slice A l.length c), (1, .func (.func f) #[] cs.toArray), (7, .int .i64 ((l.length : Nat) : Int)), (8, .int .i64 ((i : Nat) : Int))] ∧ Mem w S [] wr ∧ (i ≤ l.length) ∧ (J i wr) ∧ (ixJ p 0 l = ixJ p i (l.drop i)) ∧ (ixN p 0 l = ixN p i (l.drop i)) ∧ mz = l.length - i) ⟨0, rfl, M, Nat.zero_le _, hJ, rfl, rfl, rfl⟩ ⟨rfl, rfl, rfl, rfl, trivial⟩ ?_))))))))))))))
 rintro _ w1 _ ⟨i, rfl, M, hi, hJ, hr, hn, rfl⟩
 refine A4 (A0 (ya rfl (CH rfl rfl rfl) (A1 (A2 (A4 (AQ (b := (decide (((i : Nat) : Int) < ((l.length : Nat) : Int)))) rfl (fun h9 => ?_) (fun h9 => ?_)))))))
 ·have h9p := (odt h9)
  refine AL (A2 (A4 (AV (A4 (A0 (yb rfl (yb rfl (A1 (A2 (A4 (A0 (yb rfl (yb rfl (yb rfl ?_))))))))))))))
  obtain ⟨x, hx⟩ := DY (l := l) (i := i) (by omega)
  obtain ⟨b_x, o_x, hA_x⟩ := CL (k := 7) (by omega) (hR _ M.fr) hx
  refine ya rfl (BW i hA_x rfl rfl rfl (sl rfl) (by omega)) (ya rfl (AN rfl rfl (DK hk (hR _ M.fr) hA_x hx) underlying70 rfl AM) (cl 16 rfl (C0 rfl rfl rfl hP.fn) (hP.call i x _ hx M.fr hJ) ?_))
  rintro _ w9 ⟨rfl, hJ, hf9⟩
  refine ⟨_, rfl, ?_⟩
  have M : Mem w S [] w9 := Mem.ofFr (M.fr.trans hf9)
  refine A1 (A2 (AQ (b := (p i x)) rfl (fun h16 => ?_) (fun h16 => ?_)))
  ·exact A4 (A0 (yb rfl (yb rfl (A1 (A2 (AD (AJ (AA (AA (AJ (AA (AH rfl rfl ⟨by rw [hr, BG hx, ixJ, if_pos h16], by rw [hn, BG hx, ixN, if_pos h16]; exact hJ, M.fr⟩))))))))))))
  ·refine AL (AC (A2 (A0 (ya rfl (CQ rfl rfl rfl (by omega)) (yb rfl (A1 (BM [(0, .slice A l.length c), (1, .func (.func f) #[] cs.toArray), (7, .int .i64 ((l.length : Nat) : Int)), (8, .int .i64 (((i + 1) : Nat) : Int))] (l.length - (i + 1)) ⟨i + 1, rfl, M, ?_, ?_, ?_, ?_, rfl⟩ (by first | omega | (simp <;> omega)) ⟨rfl, rfl, rfl, rfl, trivial⟩)))))))
   ·omega
   ·exact hJ
   ·rw [hr, BG hx, ixJ, if_neg (BA h16)]
   ·rw [hn, BG hx, ixN, if_neg (BA h16)]
 ·have h9p := (odf h9)
  refine CD (AI (AI (BB (A2 (A4 (A0 (yb rfl (A1 (A2 (AD (AH rfl rfl ?_)))))))))))
  obtain rfl : i = l.length := by omega
  exact ⟨by rw [hr, List.drop_length]; rfl, by rw [hn, List.drop_length]; exact hJ, M.fr⟩
theorem kS {α : Type} (cells : α → List Value) (hk : ∀ x, (cells x).length = 7) (A : Option Addr) (c : Nat) (l : List α) (hl : l.length ≤ 4611686018427387904) (f : FuncId) (cs : List Value) (p : Nat → α → Bool) (S : Nat → Prop) (J : Nat → World → Prop) (w : World) (hP : PredJ prog f cs (fun x => .agg (cells x).toArray) l p S J w) (hR : ∀ w1, Fr S w w1 → Rd w1 A (l.length * 7) (AR cells l)) (hJ : J 0 w) :
 Calls prog 173 #[.slice A l.length c, .func (.func f) #[] cs.toArray] w fun e w' => e = .returned (.bool (decide (0 ≤ ixJ p 0 l))) ∧ J (ixN p 0 l) w' ∧ Fr S w w' := by
 refine AK (vs := [_, _]) func173 rfl ntmps173 rfl ?_
 have M : Mem w S [] w := Mem.nil w
 refine A4 (A0 (yb rfl (A1 (A2 (A4 (A0 (yb rfl (yb rfl (cl 7 rfl (AF rfl rfl call191) (o6 cells hk A c l hl f cs p S J _ hP hR hJ) ?_)))))))))
 rintro _ w9 ⟨rfl, hJ, hf9⟩
 refine ⟨_, rfl, ?_⟩
 have M : Mem w S [] w9 := Mem.ofFr hf9
 exact ya rfl (EP rfl rfl rfl) (yb rfl (A1 (A2 (AD (AH rfl rfl ⟨rfl, hJ, M.fr⟩)))))
theorem jC (A : Option Addr) (c : Nat) (l : List (List UInt8)) (hl : l.length ≤ 4611686018427387904) (f : FuncId) (cs : List Value) (p : Nat → (List UInt8) → Bool) (S : Nat → Prop) (J : Nat → World → Prop) (w : World) (hP : PredJ prog f cs str l p S J w) (hR : ∀ w1, Fr S w w1 → Rd w1 A (l.length * 1) (AR C4 l)) (hJ : J 0 w) :
 Calls prog 123 #[.slice A l.length c, .func (.func f) #[] cs.toArray] w fun e w' => e = .returned (.int .i64 (ixJ p 0 l)) ∧ J (ixN p 0 l) w' ∧ Fr S w w' := by
 refine AK (vs := [_, _]) func123 rfl ntmps123 rfl ?_
 have M : Mem w S [] w := Mem.nil w
 refine A4 (A0 (yb rfl (A1 (A2 (A4 (A4 (A0 (yb rfl (ya rfl (CY rfl rfl (sl rfl)) (yb rfl (A1 (A2 (AV (CM (fun e wr mz => ∃ (i : Nat), e = [(0, .slice A l.length c), (1, .func (.func f) #[] cs.toArray), (7, .int .i64 ((l.length : Nat) : Int)), (8, .int .i64 ((i : Nat) : Int))] ∧ Mem w S [] wr ∧ (i ≤ l.length) ∧ (J i wr) ∧ (ixJ p 0 l = ixJ p i (l.drop i)) ∧ (ixN p 0 l = ixN p i (l.drop i)) ∧ mz = l.length - i) ⟨0, rfl, M, Nat.zero_le _, hJ, rfl, rfl, rfl⟩ ⟨rfl, rfl, rfl, rfl, trivial⟩ ?_))))))))))))))
 rintro _ w1 _ ⟨i, rfl, M, hi, hJ, hr, hn, rfl⟩
 refine A4 (A0 (ya rfl (CH rfl rfl rfl) (A1 (A2 (A4 (AQ (b := (decide (((i : Nat) : Int) < ((l.length : Nat) : Int)))) rfl (fun h9 => ?_) (fun h9 => ?_)))))))
 ·have h9p := (odt h9)
  refine AL (A2 (A4 (AV (A4 (A0 (yb rfl (yb rfl (A1 (A2 (A4 (A0 (yb rfl (yb rfl (yb rfl ?_))))))))))))))
  obtain ⟨x, hx⟩ := DY (l := l) (i := i) (by omega)
  obtain ⟨b_x, o_x, hA_x⟩ := CL (k := 1) (by omega) (hR _ M.fr) hx
  refine ya rfl (BW i hA_x rfl rfl rfl (sl rfl) (by omega)) (yl rfl rfl (G1 FW (hR _ M.fr) hA_x hx 0 rfl) (cl 16 rfl (C0 rfl rfl rfl hP.fn) (hP.call i x _ hx M.fr hJ) ?_))
  rintro _ w9 ⟨rfl, hJ, hf9⟩
  refine ⟨_, rfl, ?_⟩
  have M : Mem w S [] w9 := Mem.ofFr (M.fr.trans hf9)
  refine A1 (A2 (AQ (b := (p i x)) rfl (fun h16 => ?_) (fun h16 => ?_)))
  ·exact A4 (A0 (yb rfl (yb rfl (A1 (A2 (AD (AJ (AA (AA (AJ (AA (AH rfl rfl ⟨by rw [hr, BG hx, ixJ, if_pos h16], by rw [hn, BG hx, ixN, if_pos h16]; exact hJ, M.fr⟩))))))))))))
  ·refine AL (AC (A2 (A0 (ya rfl (CQ rfl rfl rfl (by omega)) (yb rfl (A1 (BM [(0, .slice A l.length c), (1, .func (.func f) #[] cs.toArray), (7, .int .i64 ((l.length : Nat) : Int)), (8, .int .i64 (((i + 1) : Nat) : Int))] (l.length - (i + 1)) ⟨i + 1, rfl, M, ?_, ?_, ?_, ?_, rfl⟩ (by first | omega | (simp <;> omega)) ⟨rfl, rfl, rfl, rfl, trivial⟩)))))))
   ·omega
   ·exact hJ
   ·rw [hr, BG hx, ixJ, if_neg (BA h16)]
   ·rw [hn, BG hx, ixN, if_neg (BA h16)]
 ·have h9p := (odf h9)
  refine CD (AI (AI (BB (A2 (A4 (A0 (yb rfl (A1 (A2 (AD (AH rfl rfl ?_)))))))))))
  obtain rfl : i = l.length := by omega
  exact ⟨by rw [hr, List.drop_length]; rfl, by rw [hn, List.drop_length]; exact hJ, M.fr⟩
section
section
variable {P : Program} {ops : Array Oper} {Q : Exit → Act → World → Prop} {S : World → Prop} {t n f : Nat} {listed : Array Bool} {e : Env} {w : World}
theorem CZ {o : Oper} {d : Nat} {v : Value} (i : Nat) (hr : Region.ready .any ops listed = [i]) (ho : ops[i]? = some o) (hw : Wn ops e o) (hd : o.dst = some d) (hn : Nat.blt d n = true) (hy : Y P e o w v) (hS : S w)
 (k : SxO P ops Q t S n f (listed.setIfInBounds i true) ((d, v) :: e) w) : SxO P ops Q t S n (f + 1) listed e w :=
 B3 i (some d) hr ho hw hd hn (R := fun u w' => u = v ∧ w' = w) (fun ρ hρ => ⟨v, w, .inl (hy ρ hρ), rfl, rfl⟩) fun u w' ⟨h1, h2⟩ => by subst h1; subst h2; exact ⟨fun _ => hS, k⟩
theorem F8 {o : Oper} {j d d' : Nat} {b c : Bool} (i : Nat) (hr : Region.ready .any ops listed = [i]) (ho : ops[i]? = some o) (h : o.guard = some (j, b)) (hj : (ops[j]?).bind (·.dst) = some d) (hb : e.get d = some (.bool c)) (hne : (c == b) = false) (hd : o.dst = some d') (hn : Nat.blt d' n = true) (hS : S w)
 (k : SxO P ops Q t S n f (listed.setIfInBounds i true) ((d', undef) :: e) w) : SxO P ops Q t S n (f + 1) listed e w := ⟨fun a ha => by
 have hw : Region.wanted o (yielded ops a.tmps) = false := by
  simp only [Region.wanted, h, yielded, hj, ha.get d _ hb, Option.bind_some]
  cases c <;> cases b <;> simp_all
 refine ⟨fun h0 => (by rw [hr] at h0; cases h0), fun j' hj' => ?_⟩
 rw [hr] at hj'
 obtain rfl : j' = i := by simpa using hj'
 unfold wpOp
 simp only [ho, hw, Bool.false_eq_true, if_false]
 rw [hd]
 exact ⟨fun _ => hS, k.run _ (ha.put (AZ hn) _)⟩⟩
end
end
section
def ZH (ops : Array Oper) (i t : Nat) : Bool := (List.range ops.size).all fun j => decide (j < t) || Region.waitsFor .any ops j i
section
variable {P : Program} {ops : Array Oper} {Q : Exit → Act → World → Prop} {S : World → Prop} {t : Nat}
theorem S2 {i : Nat} {oi : Oper} {v : Value} (hi : ops[i]? = some oi) (hsel : ∀ (j : Nat) (o : Oper) cs b, ops[j]? = some o → o.op ≠ .select cs b)
 (hQ : ∀ c a w, Q (.panic c) (a.put oi.dst v) w → Q (.panic c) a w) (hwait : ZH ops i t = true) :
 ∀ (fuel : Nat) (listed : Array Bool) (a : Act) (w : World),
  (∀ j oj, ops[j]? = some oj → j ≠ i → listed.getD j true = false → (∀ e ∈ oj.after, Region.binds .any e = true → e.on ≠ i) → oi.apart ops oj = true) →
  i ∈ Region.ready .any ops listed → YieldsIf P ops S oi v a → S w →
  I3 P ops Q t S fuel (listed.setIfInBounds i true) (a.put oi.dst v) w → I3 P ops Q t S (fuel + 1) listed a w := by
 intro fuel
 induction fuel with
 | zero =>
  intro listed a w _ hr hy hS H
  refine ⟨fun h => (by rw [h] at hr; cases hr), fun j hj => ?_⟩
  by_cases hji : j = i
  ·subst hji; exact hy.wpOp hi hS ⟨fun _ => hS, H⟩
  ·have := ready_mono hj hji
   rw [H.1] at this
   cases this
 | succ fuel ih =>
  intro listed a w hfree hr hy hS H
  refine ⟨fun h => (by rw [h] at hr; cases hr), fun j hj => ?_⟩
  by_cases hji : j = i
  ·subst hji; exact hy.wpOp hi hS ⟨fun _ => hS, H⟩
  ·have h1 := H.2 j (ready_mono hj hji)
   obtain ⟨hjun, oj, hoj, hall⟩ := mem_ready.1 hj
   have hnot : ∀ e ∈ oj.after, Region.binds .any e = true → e.on ≠ i := fun e he hb heq => by
    have h1 := hall e he hb
    have h0 := (mem_ready.1 hr).1
    rw [heq, getD_both h0] at h1
    cases h1
   have hjt : j < t := by
    have h2 := List.all_eq_true.1 hwait j (List.mem_range.2 (Array.getElem?_eq_some_iff.1 hoj).1)
    simp only [Bool.or_eq_true, decide_eq_true_eq] at h2
    rcases h2 with h2 | h2
    ·exact h2
    ·obtain ⟨o', ho', e, he, hb, hon⟩ := Region.waitsFor_spec h2
     rw [hoj] at ho'
     injection ho' with ho'
     subst ho'
     exact absurd hon (hnot e he hb)
   have h2 := wpOp_putIf hoj (hfree j oj hoj hji hjun hnot) (fun cs b => hsel i oi cs b hi) (fun cs b => hsel j oj cs b hoj) hQ hy h1
   have hfree' : ∀ k ok, ops[k]? = some ok → k ≠ i → (listed.setIfInBounds j true).getD k true = false →
    (∀ e ∈ ok.after, Region.binds .any e = true → e.on ≠ i) → oi.apart ops ok = true := fun k ok hk hki hun hno => by
    refine hfree k ok hk hki ?_ hno
    by_cases hjk : j = k
    ·subst hjk; exact hjun
    ·rw [getD_set_ne true hjk] at hun; exact hun
   refine wpOp_mono (fun a' w' h3 => ⟨h3.2.1, ih (listed.setIfInBounds j true) a' w' hfree' (ready_mono hr (Ne.symm hji)) h3.1 (h3.2.1 hjt) ?_⟩) h2
   rw [Array.setIfInBounds_comm _ _ hji]
   exact h3.2.2
variable {n f : Nat} {listed : Array Bool} {e : Env} {w : World}
theorem LK {o : Oper} {d : Nat} {v : Value} (i : Nat) (hs : Region.noSelect ops = true) (hQ : ∀ c (a : Act) t v w, Q (.panic c) (a.put t v) w → Q (.panic c) a w) (hwait : ZH ops i t = true)
 (hf : Region.free .any ops listed i = true) (hr : (Region.ready .any ops listed).contains i = true) (ho : ops[i]? = some o) (hw : Wn ops e o) (hd : o.dst = some d) (hn : Nat.blt d n = true) (hS : S w) (hy : ∀ w', S w' → Y P e o w' v)
 (k : SxO P ops Q t S n f (listed.setIfInBounds i true) ((d, v) :: e) w) : SxO P ops Q t S n (f + 1) listed e w := ⟨fun a ha =>
 S2 ho (Region.noSelect_spec hs) (fun c a w => hQ c a _ _ w) hwait f listed a w (Region.free_spec ho hf) (by simpa using hr) (.inl ⟨hw n a ha, fun w' hw' => hy w' hw' _ ha.eval⟩) hS (by
  rw [hd]; exact k.run _ (ha.put (AZ hn) v))⟩
end
end
section
theorem J3 (k : List UInt8) (u v : Value) : ∀ L, CV (CV L k u) k v = CV L k v
 | [] => by simp [CV]
 | (k1, v1) :: r => by
  rw [CV, CV]
  by_cases h : k = k1
  ·rw [if_pos h, if_pos h, CV, if_pos rfl]
  ·rw [if_neg h, if_neg h, CV, if_neg h, J3 k u v r]
theorem SW {k : List UInt8} {v : Value} : ∀ {L : List (List UInt8 × Value)}, CE L k = some v → CV L k v = L
 | [], h => by cases h
 | (k1, v1) :: r, h => by
  rw [CE] at h
  rw [CV]
  by_cases hk : k = k1
  ·rw [if_pos hk] at h ⊢; injection h with h; rw [hk, h]
  ·rw [if_neg hk] at h ⊢; rw [SW h]
def V5 (es : List MapEntry) (cl : Nat) : Prop := (∀ en ∈ es, en.born < cl) ∧ ∀ (i j : Nat) (a b : MapEntry), es[i]? = some a → es[j]? = some b → a.born = b.born → i = j
def MpB (w : World) (g : Nat) (L : List (List UInt8 × Value)) : Prop := ∃ (es : Array MapEntry) (clock : Nat), w.heap[g]? = some (.map es clock) ∧ es.toList.map (fun e => (e.key, e.val)) = L.map (fun p => (str p.1, p.2)) ∧ V5 es.toList clock
theorem MpB.mp {w : World} {g : Nat} {L : List (List UInt8 × Value)} (h : MpB w g L) : Mp w g L := by
 obtain ⟨es, cl, h1, h2, _⟩ := h; exact ⟨es, cl, h1, h2⟩
theorem MpB.keep {w w' : World} {g : Nat} {L : List (List UInt8 × Value)} (hk : g < w.heap.size → w'.heap[g]? = w.heap[g]?) (h : MpB w g L) : MpB w' g L := by
 obtain ⟨es, cl, h1, h2⟩ := h
 exact ⟨es, cl, (hk (Array.getElem?_eq_some_iff.1 h1).1).trans h1, h2⟩
def EntAt (w : World) (g : Nat) (L : List (List UInt8 × Value)) (k : List UInt8) (b : Nat) : Prop := ∃ (es : Array MapEntry) (clock i : Nat) (en : MapEntry), w.heap[g]? = some (.map es clock) ∧ es.toList.map (fun e => (e.key, e.val)) = L.map (fun p => (str p.1, p.2)) ∧ V5 es.toList clock ∧
 es.toList[i]? = some en ∧ en.born = b ∧ ∀ v, CV L k v = L.set i (k, v)
theorem EntAt.keep {w w' : World} {g b : Nat} {L : List (List UInt8 × Value)} {k : List UInt8} (hk : g < w.heap.size → w'.heap[g]? = w.heap[g]?) (h : EntAt w g L k b) : EntAt w' g L k b := by
 obtain ⟨es, cl, i, en, h1, h2⟩ := h
 exact ⟨es, cl, i, en, (hk (Array.getElem?_eq_some_iff.1 h1).1).trans h1, h2⟩
section
variable {P : Program} {w : World} {o : Oper}
theorem J0 {ρ : Operand → Value} {t kt el : TypeId} {mp x : Operand} {g : Nat} {k : List UInt8} {L : List (List UInt8 × Value)} {z : Value} (ho : o.op = .mapEntry t mp x) (hm : ρ mp = .map (some g)) (hi : ρ x = str k) (hu : P.underlying t = some (.map kt el)) (hd : P.underlying kt = some .string) (hz : (P.info? el).map (·.zero) = some (some z))
 (hM : MpB w g L) : G8 P ρ o w fun u w' => ∃ b : Nat, u = .tuple #[(CE L k).getD z, .int .i64 (b : Int)] ∧ Fr (fun b => b = g) w w' ∧ EntAt w' g (CV L k ((CE L k).getD z)) k b := by
 obtain ⟨es, clock, hb, hes, hB1, hB2⟩ := hM
 obtain ⟨inf, hinf, hinz⟩ := Option.map_eq_some_iff.1 hz
 have hlt : g < w.heap.size := (Array.getElem?_eq_some_iff.1 hb).1
 have hlen : es.toList.length = L.length := by have := congrArg List.length hes; simpa using this
 have hbits : Instr.sameBits 10000 (str k) (str k) = true := by
  unfold str
  simp [Instr.sameBits, TY]
 have fin : ∀ (es' : Array MapEntry) (clock' i : Nat) (en : MapEntry) (u : Value) (L' : List (List UInt8 × Value)), (Instr.mapEntry t (.map (some g)) (str k)).run P w = .ok (.tuple #[u, .int .i64 (en.born : Int)]) { w with heap := w.heap.setIfInBounds g (.map es' clock') } → u = (CE L k).getD z → L' = CV L k ((CE L k).getD z) →
  es'.toList.map (fun e => (e.key, e.val)) = L'.map (fun p => (str p.1, p.2)) → V5 es'.toList clock' → es'.toList[i]? = some en → (∀ v, CV L' k v = L'.set i (k, v)) →
  G8 P ρ o w fun u w' => ∃ b : Nat, u = .tuple #[(CE L k).getD z, .int .i64 (b : Int)] ∧ Fr (fun b => b = g) w w' ∧ EntAt w' g (CV L k ((CE L k).getD z)) k b := fun es' clock' i en u L' hrun hu' hL' hes' hB hen hput => by
  subst hu'; subst hL'
  refine ⟨_, { w with heap := w.heap.setIfInBounds g (.map es' clock') }, .inl ?_, en.born, rfl, ⟨rfl, rfl, rfl, by simp, fun r _ hn => by simp [Array.getElem?_setIfInBounds_ne (Ne.symm hn)]⟩, es', clock', i, en, by simp [hlt], hes', hB, hen, rfl, hput⟩
  unfold execOp
  simp only [ho, hm, hi, Sem.run_bind, hrun, Result.andThen_ok]
  rfl
 rcases MT k L es.toList 0 hes with ⟨a1, a2, a3⟩ | ⟨j, v0, a1, a2, a3, a4, a5⟩
 ·refine fin (es.push { key := str k, val := z, born := clock }) (clock + 1) L.length { key := str k, val := z, born := clock } z (L ++ [(k, z)]) ?_ (by rw [a1]; rfl) (by rw [a1, a3]; rfl) (by simp [hes]) ⟨?_, ?_⟩ (by rw [Array.toList_push, ← hlen, List.getElem?_append_right (Nat.le_refl _)]; simp) ?_
  ·unfold Instr.mapEntry
   simp only [Sem.run_bind, run_underlying hu, Result.andThen_ok, HY hb, G0 hd, FK hd a2]
   have hzv : (zeroValue el).run P w = .ok z w := by simp [zeroValue, typeInfo, hinf, hinz]
   simp only [hzv, Result.andThen_ok]
   unfold setObj goInt
   simp only [Sem.run, hb]
   rfl
  ·intro en hen
   rw [Array.toList_push, List.mem_append] at hen
   rcases hen with hen | hen
   ·have := hB1 en hen; omega
   ·obtain rfl := List.mem_singleton.1 hen; exact Nat.lt_succ_self _
  ·intro i j a b ha hb' hab
   rw [Array.toList_push] at ha hb'
   have cs : ∀ (i : Nat) (a : MapEntry), (es.toList ++ [{ key := str k, val := z, born := clock }])[i]? = some a → es.toList[i]? = some a ∨ (i = es.toList.length ∧ a.born = clock) := fun i a h => by
    rcases Nat.lt_or_ge i es.toList.length with hi' | hi'
    ·rw [List.getElem?_append_left hi'] at h; exact .inl h
    ·rw [List.getElem?_append_right hi'] at h
     have h0 : i - es.toList.length = 0 := by
      rcases Nat.eq_zero_or_pos (i - es.toList.length) with h0 | h0
      ·exact h0
      ·rw [List.getElem?_eq_none (by simp only [List.length_cons, List.length_nil]; omega)] at h; cases h
     rw [h0] at h
     simp only [List.getElem?_cons_zero, Option.some.injEq] at h
     exact .inr ⟨by omega, by rw [← h]⟩
   rcases cs i a ha with h1 | ⟨h1, h2⟩ <;> rcases cs j b hb' with h3 | ⟨h3, h4⟩
   ·exact hB2 i j a b h1 h3 hab
   ·have := hB1 a (List.mem_of_getElem? h1); omega
   ·have := hB1 b (List.mem_of_getElem? h3); omega
   ·omega
  ·intro v
   have h1 : L ++ [(k, z)] = CV L k z := by rw [a3]
   rw [h1, J3, a3]
   simp
 ·rw [Nat.zero_add] at a2
  obtain ⟨en, hen⟩ : ∃ en, es[j]? = some en := ⟨_, Array.getElem?_eq_getElem (by simp at hlen; omega)⟩
  have hen' : es.toList[j]? = some en := by simpa using hen
  have hkey : en.key = str k := by
   have h1 := congrArg (·[j]?) hes
   simp only [List.getElem?_map] at h1
   rw [hen'] at h1
   cases hL : L[j]? with
   | none => rw [hL] at h1; cases h1
   | some p =>
    rw [hL] at h1 a4
    simp only [Option.map_some, Option.some.injEq, Prod.mk.injEq] at h1 a4
    rw [h1.1, a4]
  have hmod : (es.modify j fun e => { e with key := str k }).toList = es.toList := by
   apply List.ext_getElem?
   intro i
   rw [Array.toList_modify, List.getElem?_modify]
   by_cases hij : j = i
   ·subst hij
    rw [hen']
    simp only [if_true, Option.map_eq_map, Option.map_some, Option.some.injEq]
    rw [← hkey]
   ·cases es.toList[i]? <;> simp [hij]
  refine fin (es.modify j fun e => { e with key := str k }) clock j en v0 L ?_ (by rw [a1]; rfl) (by rw [a1]; exact (SW a1).symm) (by rw [hmod]; exact hes) (by rw [hmod]; exact ⟨hB1, hB2⟩) (by rw [hmod]; exact hen') (fun v => by rw [a5])
  have hold : ((es[j]?).map (·.key)).getD (str k) = str k := by rw [hen]; exact hkey
  have hbn : ((es[j]?).map (fun x => (x.born : Int))).getD 0 = (en.born : Int) := by rw [hen]; rfl
  unfold Instr.mapEntry
  simp only [Sem.run_bind, run_underlying hu, Result.andThen_ok, HY hb, G0 hd, FK hd a2, hold, hbn, Instr.keyThatStays, hbits, if_true, Sem.run_pure]
  unfold setObj goInt
  simp only [Sem.run, hb]
  rfl
theorem UR {es : List MapEntry} {cl i : Nat} {en : MapEntry} (hB : V5 es cl) (hen : es[i]? = some en) : es.findIdx? (fun e => (e.born : Int) == (en.born : Int)) = some i := by
 have hi : i < es.length := (List.getElem?_eq_some_iff.1 hen).1
 rw [List.findIdx?_eq_some_iff_getElem]
 refine ⟨hi, ?_, ?_⟩
 ·have : es[i] = en := (List.getElem?_eq_some_iff.1 hen).2
  simp [this]
 ·intro j hj
  have hj' : j < es.length := by omega
  have : ¬ (es[j].born : Int) = (en.born : Int) := fun e => by
   have := hB.2 j i es[j] en (List.getElem?_eq_getElem hj') hen (by omega)
   omega
  simp [this]
theorem HH {ρ : Operand → Value} {t : TypeId} {mp s x : Operand} {g b : Nat} {k : List UInt8} {v : Value} {L : List (List UInt8 × Value)} (ho : o.op = .entryStore t mp s x) (hm : ρ mp = .map (some g)) (hs : ρ s = .int .i64 (b : Int)) (hx : ρ x = v)
 (hE : EntAt w g L k b) : G8 P ρ o w fun u w' => u = undef ∧ Fr (fun b => b = g) w w' ∧ MpB w' g (CV L k v) := by
 obtain ⟨es, clock, i, en, hb, hes, hB, hen, rfl, hput⟩ := hE
 have hlt : g < w.heap.size := (Array.getElem?_eq_some_iff.1 hb).1
 have hlen : es.toList.length = L.length := by have := congrArg List.length hes; simpa using this
 have hfi : es.findIdx? (fun e => (e.born : Int) == (en.born : Int)) = some i := by
  obtain ⟨l⟩ := es
  simpa using UR hB hen
 have hrun : (Instr.entryStore t (.map (some g)) (.int .i64 (en.born : Int)) v).run P w = .ok () { w with heap := w.heap.setIfInBounds g (.map (es.modify i fun e => { e with val := v }) clock) } := by
  unfold Instr.entryStore
  simp only [Sem.run_bind, Sem.run_pure, Result.andThen_ok, HY hb, asInt, asIntOf, hfi]
  unfold setObj
  simp only [Sem.run, hb]
 have hnew : ∀ q : Nat, (es.modify i fun e => { e with val := v }).toList[q]? = (es.toList[q]?).map (fun e => if i = q then { e with val := v } else e) := fun q => by
  rw [Array.toList_modify, List.getElem?_modify]
  by_cases hiq : i = q
  ·simp only [hiq, if_true]; cases es.toList[q]? <;> rfl
  ·simp only [if_neg hiq]; cases es.toList[q]? <;> rfl
 refine ⟨undef, { w with heap := w.heap.setIfInBounds g (.map (es.modify i fun e => { e with val := v }) clock) }, .inr ⟨?_, rfl⟩, rfl, ⟨rfl, rfl, rfl, by simp, fun r _ hn => by simp [Array.getElem?_setIfInBounds_ne (Ne.symm hn)]⟩, es.modify i fun e => { e with val := v }, clock, by simp [hlt], ?_, ?_, ?_⟩
 ·unfold execOp
  simp only [ho, hm, hs, hx, Sem.run_bind, hrun, Result.andThen_ok]
  rfl
 ·have hk : en.key = str k := by
   have h1 := congrArg (·[i]?) hes
   simp only [List.getElem?_map, hen] at h1
   have h2 := hput ((L[i]?).map (·.2) |>.getD v)
   have h3 := hput undef
   have hi : i < L.length := by have := (List.getElem?_eq_some_iff.1 hen).1; omega
   have h4 : CE (L.set i (k, undef)) k = some undef := by rw [← h3, FM, if_pos rfl]
   cases hL : L[i]? with
   | none => rw [List.getElem?_eq_getElem hi] at hL; cases hL
   | some p =>
    rw [hL] at h1
    simp only [Option.map_some, Option.some.injEq, Prod.mk.injEq] at h1
    rw [h1.1]
    have h5 : ∀ (M : List (List UInt8 × Value)) (q : Nat) (p : List UInt8 × Value), M[q]? = some p → (∀ u, CV M k u = M.set q (k, u)) → p.1 = k := by
     intro M
     induction M with
     | nil => intro q p h; simp at h
     | cons a r ih =>
      intro q p h hu
      obtain ⟨a1, a2⟩ := a
      cases q with
      | zero =>
       simp only [List.getElem?_cons_zero, Option.some.injEq] at h; subst h
       have := hu a2
       rw [CV] at this
       by_cases hka : k = a1
       ·exact hka.symm
       ·rw [if_neg hka] at this
        simp only [List.set_cons_zero, List.cons.injEq, Prod.mk.injEq] at this
        exact this.1.1
      | succ q =>
       have h6 := hu
       have hka : ¬ k = a1 := fun e => by
        have := hu undef
        rw [CV, if_pos e] at this
        simp only [List.set_cons_succ, List.cons.injEq, Prod.mk.injEq] at this
        have h7 := hu (.bool true)
        rw [CV, if_pos e] at h7
        simp only [List.set_cons_succ, List.cons.injEq, Prod.mk.injEq] at h7
        have h8 := this.1.2.trans h7.1.2.symm
        cases h8
       refine ih q p (by simpa using h) (fun u => ?_)
       have := hu u
       rw [CV, if_neg hka] at this
       simpa using this
    rw [h5 L i p hL hput]
  rw [hput]
  apply List.ext_getElem?
  intro q
  have h1 := congrArg (·[q]?) hes
  simp only [List.getElem?_map] at h1
  rw [List.getElem?_map, hnew, List.getElem?_map, List.getElem?_set]
  by_cases hiq : i = q
  ·subst hiq
   have hi : i < L.length := by have := (List.getElem?_eq_some_iff.1 hen).1; omega
   simp [hen, hi, hk]
  ·simp only [if_neg hiq]
   rw [← h1]
   cases es.toList[q]? <;> rfl
 ·intro a ha
  obtain ⟨q, hq⟩ := List.getElem?_of_mem ha
  rw [hnew] at hq
  obtain ⟨a', ha', rfl⟩ := Option.map_eq_some_iff.1 hq
  have := hB.1 a' (List.mem_of_getElem? ha')
  split <;> exact this
 ·intro p q a b' ha hb' hab
  rw [hnew] at ha hb'
  obtain ⟨a', ha', rfl⟩ := Option.map_eq_some_iff.1 ha
  obtain ⟨b'', hb'', rfl⟩ := Option.map_eq_some_iff.1 hb'
  refine hB.2 p q a' b'' ha' hb'' ?_
  have e1 : (if i = p then { a' with val := v } else a').born = a'.born := by split <;> rfl
  have e2 : (if i = q then { b'' with val := v } else b'').born = b''.born := by split <;> rfl
  rw [e1, e2] at hab; exact hab
end
end
section
def EB (L : List (List UInt8 × Value)) (k : List UInt8) : Value := (CE L k).getD (.slice none 0 0)
theorem IA (L : List (List UInt8 × Value)) (k k' : List UInt8) (v : Value) : EB (CV L k v) k' = if k' = k then v else EB L k' := by
 unfold EB
 rw [FM]
 split <;> rfl
theorem VZ {w w' : World} {base size n : Nat} {e : TypeId} {v : Value} {xs : List Value} (h : w.ownsRow base e size v n xs) (hk : ∀ b, v.ownBlock = some b → b < w.heap.size → w'.heap[b]? = w.heap[b]?) : w'.ownsRow base e size v n xs := by
 refine ⟨h.1, ?_⟩
 rcases h.2 with hh | ⟨g, cap, cur, rfl, hb, hg, r⟩
 ·exact .inl hh
 ·exact .inr ⟨g, cap, cur, rfl, hb, (hk g rfl (Array.getElem?_eq_some_iff.1 hg).1).trans hg, r⟩
structure Fam {α : Type} (w : World) (base : Nat) (e : TypeId) (size : Nat) (cells : α → List Value) (g : Nat) (L : List (List UInt8 × Value)) (rows : List UInt8 → List α) (bad : List UInt8 → Prop) (F : List Nat) : Prop where
 map : Mp w g L
 gF : ¬ g ∈ F
 row : ∀ k, ¬ bad k → w.ownsRow base e size (EB L k) (rows k).length (AR cells (rows k)) ∧ ∀ b, (EB L k).ownBlock = some b → b ∈ F
 apart : ∀ k k' b, ¬ bad k → ¬ bad k' → (EB L k).ownBlock = some b → (EB L k').ownBlock = some b → k = k'
section
variable {α : Type} {w w' w0 : World} {base size g : Nat} {e : TypeId} {cells : α → List Value} {L : List (List UInt8 × Value)} {rows : List UInt8 → List α} {bad : List UInt8 → Prop} {F : List Nat} {S : Nat → Prop} {Ls : List As}
theorem Fam.keep (hk : ∀ b ∈ g :: F, b < w.heap.size → w'.heap[b]? = w.heap[b]?) (h : Fam w base e size cells g L rows bad F) : Fam w' base e size cells g L rows bad F := by
 obtain ⟨⟨es, cl, h1, h2⟩, hg, hr, ha⟩ := h
 exact ⟨⟨es, cl, (hk g (by simp) (Array.getElem?_eq_some_iff.1 h1).1).trans h1, h2⟩, hg, fun k hb => ⟨VZ (hr k hb).1 (fun b hb' hl => hk b (List.mem_cons_of_mem _ ((hr k hb).2 b hb')) hl), (hr k hb).2⟩, ha⟩
def As.fam {α : Type} (base : Nat) (e : TypeId) (size : Nat) (cells : α → List Value) (g : Nat) (L : List (List UInt8 × Value)) (rows : List UInt8 → List α) (bad : List UInt8 → Prop) (F : List Nat) : As :=
 ⟨g :: F, fun w => Fam w base e size cells g L rows bad F, fun h hb => hb.keep h⟩
theorem Fam.new (hm : Mp w g []) (base : Nat) (e : TypeId) (size : Nat) (cells : α → List Value) : Fam w base e size cells g [] (fun _ => []) (fun _ => False) [] :=
 ⟨hm, by simp, fun k _ => ⟨⟨by simp [AR], .inl ⟨by simp [EB, CE], rfl⟩⟩, fun b hb => by simp [EB, CE, Value.ownBlock] at hb⟩, fun k k' b _ _ hb => by simp [EB, CE, Value.ownBlock] at hb⟩
theorem Mem.split2 {a b c : As} (M : Mem w0 S (c :: Ls) w) (ha : a.ok w) (hb : b.ok w) (hfa : ∀ x ∈ a.fp, x ∈ c.fp) (hfb : ∀ x ∈ b.fp, x ∈ c.fp) (hab : ∀ x ∈ a.fp, x ∉ b.fp) : Mem w0 S (a :: b :: Ls) w := by
 have rest : ∀ (i : Nat) (d : As), (a :: b :: Ls)[i + 2]? = some d → (c :: Ls)[i + 1]? = some d := fun i d h => h
 refine ⟨M.fr, ?_, ?_, ?_⟩
 ·intro i d hi
  match i with
  | 0 => simp only [List.getElem?_cons_zero, Option.some.injEq] at hi; subst hi; exact ha
  | 1 => simp only [List.getElem?_cons_succ, List.getElem?_cons_zero, Option.some.injEq] at hi; subst hi; exact hb
  | i + 2 => exact M.ok (i + 1) d (rest i d hi)
 ·intro i d hi x hx
  match i with
  | 0 => simp only [List.getElem?_cons_zero, Option.some.injEq] at hi; subst hi; exact M.lt 0 c rfl x (hfa x hx)
  | 1 => simp only [List.getElem?_cons_succ, List.getElem?_cons_zero, Option.some.injEq] at hi; subst hi; exact M.lt 0 c rfl x (hfb x hx)
  | i + 2 => exact M.lt (i + 1) d (rest i d hi) x hx
 ·intro i j d d' hi hj hne x hx hx'
  match i, j with
  | 0, 0 => exact hne rfl
  | 1, 1 => exact hne rfl
  | 0, 1 =>
   simp only [List.getElem?_cons_succ, List.getElem?_cons_zero, Option.some.injEq] at hi hj; subst hi; subst hj
   exact hab x hx hx'
  | 1, 0 =>
   simp only [List.getElem?_cons_succ, List.getElem?_cons_zero, Option.some.injEq] at hi hj; subst hi; subst hj
   exact hab x hx' hx
  | 0, j + 2 =>
   simp only [List.getElem?_cons_zero, Option.some.injEq] at hi; subst hi
   exact M.apart 0 (j + 1) c d' rfl (rest j d' hj) (by omega) x (hfa x hx) hx'
  | 1, j + 2 =>
   simp only [List.getElem?_cons_succ, List.getElem?_cons_zero, Option.some.injEq] at hi; subst hi
   exact M.apart 0 (j + 1) c d' rfl (rest j d' hj) (by omega) x (hfb x hx) hx'
  | i + 2, 0 =>
   simp only [List.getElem?_cons_zero, Option.some.injEq] at hj; subst hj
   exact M.apart (i + 1) 0 d c (rest i d hi) rfl (by omega) x hx (hfa x hx')
  | i + 2, 1 =>
   simp only [List.getElem?_cons_succ, List.getElem?_cons_zero, Option.some.injEq] at hj; subst hj
   exact M.apart (i + 1) 0 d c (rest i d hi) rfl (by omega) x hx (hfb x hx')
  | i + 2, j + 2 => exact M.apart (i + 1) (j + 1) d d' (rest i d hi) (rest j d' hj) (by omega) x hx hx'
theorem Mem.joinFam {a b : As} (M : Mem w0 S (a :: b :: Ls) w) (c : As) (hok : c.ok w) (hfp : ∀ x ∈ c.fp, x ∈ a.fp ∨ x ∈ b.fp) : Mem w0 S (c :: Ls) w := by
 have rest : ∀ (i : Nat) (d : As), (c :: Ls)[i + 1]? = some d → (a :: b :: Ls)[i + 2]? = some d := fun i d h => h
 have fp : ∀ k, k ∈ c.fp → ∃ (i : Nat) (d : As), i < 2 ∧ (a :: b :: Ls)[i]? = some d ∧ k ∈ d.fp := fun k hk => by
  rcases hfp k hk with h | h
  ·exact ⟨0, _, by decide, rfl, h⟩
  ·exact ⟨1, _, by decide, rfl, h⟩
 refine ⟨M.fr, ?_, ?_, ?_⟩
 ·intro i d hi
  cases i with
  | zero => simp only [List.getElem?_cons_zero, Option.some.injEq] at hi; subst hi; exact hok
  | succ i => exact M.ok (i + 2) d (rest i d hi)
 ·intro i d hi k hk
  cases i with
  | zero =>
   simp only [List.getElem?_cons_zero, Option.some.injEq] at hi; subst hi
   obtain ⟨j, f, _, h1, h2⟩ := fp k hk
   exact M.lt j f h1 k h2
  | succ i => exact M.lt (i + 2) d (rest i d hi) k hk
 ·intro i j d f hi hj hne k hk hk'
  cases i with
  | zero =>
   cases j with
   | zero => exact hne rfl
   | succ j =>
    simp only [List.getElem?_cons_zero, Option.some.injEq] at hi; subst hi
    obtain ⟨q, d', hq, h1, h2⟩ := fp k hk
    exact M.apart q (j + 2) d' f h1 (rest j f hj) (by omega) k h2 hk'
  | succ i =>
   cases j with
   | zero =>
    simp only [List.getElem?_cons_zero, Option.some.injEq] at hj; subst hj
    obtain ⟨q, d', hq, h1, h2⟩ := fp k hk'
    exact M.apart (i + 2) q d d' (rest i d hi) h1 (by omega) k hk h2
   | succ j => exact M.apart (i + 2) (j + 2) d f (rest i d hi) (rest j f hj) (by omega) k hk hk'
theorem Mem.famTake (M : Mem w0 S (As.fam base e size cells g L rows (fun _ => False) F :: Ls) w) (k0 : List UInt8) : ∃ A C F', EB L k0 = .slice A (rows k0).length C ∧ Mem w0 S (As.own base e size (.slice A (rows k0).length C) (rows k0).length (AR cells (rows k0)) :: As.fam base e size cells g L rows (fun k => k = k0) F' :: Ls) w := by
 have h : Fam w base e size cells g L rows (fun _ => False) F := M.ok 0 _ rfl
 obtain ⟨ho, hF⟩ := h.row k0 (fun hh => hh)
 obtain ⟨A, C, hv, _⟩ := E3 ho
 refine ⟨A, C, F.filter (fun b => !(decide ((EB L k0).ownBlock = some b))), hv, ?_⟩
 rw [hv] at ho
 refine M.split2 ho (show Fam w base e size cells g L rows (fun k => k = k0) _ from ⟨h.map, fun hh => h.gF (List.mem_filter.1 hh).1, fun k hk => ⟨(h.row k (fun hh => hh)).1, fun b hb => List.mem_filter.2 ⟨(h.row k (fun hh => hh)).2 b hb, ?_⟩⟩, fun k k' b _ _ hb hb' => h.apart k k' b (fun hh => hh) (fun hh => hh) hb hb'⟩) ?_ ?_ ?_
 ·simp only [Bool.not_eq_true', decide_eq_false_iff_not]
  exact fun hb' => hk (h.apart k k0 b (fun hh => hh) (fun hh => hh) hb hb')
 ·intro x hx
  have hx' : (EB L k0).ownBlock = some x := by rw [hv]; simpa [As.own] using hx
  exact List.mem_cons_of_mem _ (hF x hx')
 ·intro x hx
  rcases List.mem_cons.1 hx with rfl | hx
  ·exact List.mem_cons_self
  ·exact List.mem_cons_of_mem _ (List.mem_filter.1 hx).1
 ·intro x hx hx'
  have h1 : (EB L k0).ownBlock = some x := by rw [hv]; simpa [As.own] using hx
  rcases List.mem_cons.1 hx' with rfl | hx'
  ·exact h.gF (hF x h1)
  ·have := (List.mem_filter.1 hx').2
   simp [h1] at this
theorem Mem.famPut {k0 : List UInt8} {A : Option Addr} {n C : Nat} {row' : List α} (M : Mem w0 S (As.own base e size (.slice A n C) n (AR cells row') :: As.fam base e size cells g L rows (fun k => k = k0) F :: Ls) w) (hv : EB L k0 = .slice A n C) (hn : n = row'.length) (rows' : List UInt8 → List α) (h0 : rows' k0 = row') (h1 : ∀ k, k ≠ k0 → rows' k = rows k) :
 ∃ F', Mem w0 S (As.fam base e size cells g L rows' (fun _ => False) F' :: Ls) w := by
 have h : Fam w base e size cells g L rows (fun k => k = k0) F := M.ok 1 _ rfl
 have ho := M.own 0 rfl
 have hap : ∀ b, (EB L k0).ownBlock = some b → ¬ b ∈ g :: F := fun b hb => by
  rw [hv] at hb
  exact M.apart 0 1 _ _ rfl rfl (by decide) b (by simp [As.own, hb])
 refine ⟨(EB L k0).ownBlock.toList ++ F, M.joinFam _ (show Fam w base e size cells g L rows' (fun _ => False) _ from ⟨h.map, ?_, ?_, ?_⟩) ?_⟩
 ·intro hh
  rcases List.mem_append.1 hh with hh | hh
  ·exact hap g (by simpa using hh) List.mem_cons_self
  ·exact h.gF hh
 ·intro k _
  by_cases hk : k = k0
  ·subst hk
   rw [h0, hv, ← hn]
   exact ⟨ho, fun b hb => List.mem_append_left _ (by simpa using hb)⟩
  ·rw [h1 k hk]
   exact ⟨(h.row k hk).1, fun b hb => List.mem_append_right _ ((h.row k hk).2 b hb)⟩
 ·intro k k' b _ _ hb hb'
  by_cases hk : k = k0
  ·by_cases hk' : k' = k0
   ·rw [hk, hk']
   ·subst hk; exact absurd (List.mem_cons_of_mem _ ((h.row k' hk').2 b hb')) (hap b hb)
  ·by_cases hk' : k' = k0
   ·subst hk'; exact absurd (List.mem_cons_of_mem _ ((h.row k hk).2 b hb)) (hap b hb')
   ·exact h.apart k k' b hk hk' hb hb'
 ·intro x hx
  rcases List.mem_cons.1 (show x ∈ g :: ((EB L k0).ownBlock.toList ++ F) from hx) with rfl | hx
  ·exact .inr List.mem_cons_self
  ·rcases List.mem_append.1 hx with hx | hx
   ·left; rw [hv] at hx; simpa [As.own] using hx
   ·exact .inr (List.mem_cons_of_mem _ hx)
theorem Mem.putFam {k0 : List UInt8} {v : Value} (M : Mem w0 S Ls w) (i : Nat) (hi : Ls[i]? = some (As.fam base e size cells g L rows (fun k => k = k0) F)) (hf : Fr (fun b => b = g) w w') (hb : Mp w' g (CV L k0 v)) : Mem w0 S (Ls.set i (As.fam base e size cells g (CV L k0 v) rows (fun k => k = k0) F)) w' := by
 have h : Fam w base e size cells g L rows (fun k => k = k0) F := M.ok i _ hi
 refine M.upd i hi (hf.mono fun k _ e => by rw [e]; exact List.mem_cons_self) _ (show Fam w' base e size cells g (CV L k0 v) rows (fun k => k = k0) F from ⟨hb, h.gF, fun k hk => ?_, fun k k' b hk hk' h1 h2 => ?_⟩) (fun g' hg' => .inl hg')
 ·rw [IA, if_neg hk]
  exact ⟨VZ (h.row k hk).1 (fun b hb' hl => hf.block b hl (fun hh => h.gF (hh ▸ (h.row k hk).2 b hb'))), (h.row k hk).2⟩
 ·rw [IA, if_neg hk] at h1
  rw [IA, if_neg hk'] at h2
  exact h.apart k k' b hk hk' h1 h2
theorem Mem.famMp (M : Mem w0 S Ls w) (i : Nat) (hi : Ls[i]? = some (As.fam base e size cells g L rows bad F)) : Mp w g L := Fam.map (M.ok i _ hi)
end
end
open Go.ChangeShapes Go.WideShapes Go.ChangeAt Go.RowKit Go.Deep
section
section
variable {H : Type} {enc : TypeId × Value → H} {P : Program} {w : World}
def bQ (enc : TypeId × Value → H) (P : Program) (w : World) (t : TypeId) (r : List Value) (d : DataW H) : Prop := ∃ n p, DataW.trod enc P w 0 (fun _ => true) true n t r = some (d, p)
theorem QB {t e sz len cap fuel : Nat} {A : Option Addr} {x : DataW H × List MemPlace} (ht : P.underlying t = some (.slice e)) (hc : P.cellsOf e = sz) (hpos : 0 < sz)
 (h : DataW.trod enc P w 0 (fun _ => true) true fuel t [.slice A len cap] = some x) :
 ∃ (rows : List (List Value)) (D : List (DataW H)), rows.length = len ∧ D.length = len ∧ All sz rows ∧ Rd w A (len * sz) rows.flatten ∧ len ≤ cap ∧ cap ≤ maxLen ∧ (A = none → cap = 0) ∧
  (∀ (i : Nat) (r : List Value), rows[i]? = some r → ∃ d, D[i]? = some d ∧ bQ enc P w e r d) ∧ ((x.1 = .nil ∧ len = 0 ∧ cap = 0) ∨ ∃ sp, x.1 = .slice D sp ∧ sp.length = cap - len) := by
 rcases open_slice ht h with ⟨hcs, rfl⟩ | ⟨a, len', cap', m, n, D, Pl, hcs, _, hl, hm, hmm, rfl, hx⟩
 ·simp only [List.cons.injEq, Value.slice.injEq, and_true] at hcs
  obtain ⟨rfl, rfl, rfl⟩ := hcs
  exact ⟨[], [], rfl, rfl, All.nil, by rw [Nat.zero_mul]; exact Rd.nil, Nat.le_refl _, Nat.zero_le _, fun _ => rfl, fun i r hr => by simp at hr, .inl ⟨rfl, rfl, rfl⟩⟩
 ·simp only [List.cons.injEq, Value.slice.injEq, and_true] at hcs
  obtain ⟨rfl, rfl, rfl⟩ := hcs
  simp only [if_true] at hmm
  subst hmm
  obtain ⟨C, hC⟩ := choose_lt (α := List Value) (p := fun i cs => w.cells? 0 (a.add (i * P.cellsOf e)) (P.cellsOf e) = some cs ∧ DataW.trod enc P w 0 (fun _ => true) true n e cs = some (D i, Pl i)) (fun i hi => hx i hi)
  rw [hc] at hC
  have hrow : ∀ i, i < len → (C i).length = sz := fun i hi => (World.cells?_some (hC i (by omega)).1).2.1
  have hall : All sz ((List.range len).map C) := by
   intro r hr
   obtain ⟨i, hi, rfl⟩ := List.mem_map.1 hr
   exact hrow i (List.mem_range.1 hi)
  refine ⟨(List.range len).map C, (List.range len).map D, by simp, by simp, hall, ⟨by rw [OQ hall]; simp, fun h0 => ?_⟩, hl, hm, by simp, ?_, .inr ⟨_, rfl, by simp⟩⟩
  ·have hlen : 0 < len := Nat.pos_of_mul_pos_right h0
   obtain ⟨b, off, sp⟩ := a
   have hsp : sp = none := by
    have h1 := (World.cells?_some (hC 0 (by omega)).1).2.2 0 hpos
    have h2 := (World.cells?_some (hC 0 (by omega)).1).2.1
    rw [List.getElem?_eq_getElem (by omega)] at h1
    cases sp with
    | none => rfl
    | some s =>
     exfalso
     simp only [Nat.zero_mul, Addr.add, if_true, World.cell?] at h1
     split at h1 <;> simp at h1
   subst hsp
   refine ⟨b, off, rfl, fun j u hu => ?_⟩
   have hj : j < len * sz := by have := (List.getElem?_eq_some_iff.1 hu).1; rw [OQ hall] at this; simpa using this
   have hi : j / sz < len := Nat.div_lt_of_lt_mul (by rw [Nat.mul_comm]; exact hj)
   have hjm : j % sz < sz := Nat.mod_lt _ hpos
   have hat := aW hall (i := j / sz) (x := C (j / sz)) (by rw [List.getElem?_map, List.getElem?_range hi]; rfl)
   have hcell := (World.cells?_some (hC (j / sz) (by omega)).1).2.2 (j % sz) hjm
   rw [← hat, List.getElem?_take_of_lt hjm, List.getElem?_drop] at hcell
   have e1 : j / sz * sz + j % sz = j := by rw [Nat.mul_comm]; exact Nat.div_add_mod j sz
   rw [e1, hu, Addr.add_mid, Addr.add_mid, Nat.add_assoc, e1] at hcell
   exact hcell
  ·intro i r hr
   have hi : i < len := by have := (List.getElem?_eq_some_iff.1 hr).1; simpa using this
   rw [List.getElem?_map, List.getElem?_range hi] at hr
   simp only [Option.map_some, Option.some.injEq] at hr
   subst hr
   exact ⟨D i, by rw [List.getElem?_map, List.getElem?_range hi]; rfl, n, _, (hC i (by omega)).2⟩
theorem ZJ {n : Int} (h : (Lit.int .u8 n).wf = true) : Value.int .u8 n = bv (UInt8.ofNat n.toNat) := by
 have hb := bounds_u8 h
 unfold bv
 congr 1
 rw [UInt8.toNat_ofNat']
 omega
end
end
theorem VA {H : Type} {enc : TypeId × Value → H} {C : Checked} {os : Os} {f : FuncId} {fn : Func} {s : OpenSpec} {conds : List PathCond} {apart : Bool} {laid : List (String × DataW Unit)} (modest : Bool) (w0 : World) (args : Array Value) (hos : w0.os = os)
 (hv : (w0.forCall (fun _ _ => 0) ⟨#[], args, []⟩).variablesZipB C.prog = true)
 (hr : ((w0.forCall (fun _ _ => 0) ⟨#[], args, []⟩).heap.toList.drop C.prog.globals.size).take ((begin C.prog (fun _ _ => 0) default).world.heap.size - C.prog.globals.size) =
  (begin C.prog (fun _ _ => 0) default).world.heap.toList.drop C.prog.globals.size)
 (hok : Input.okWideB C.prog (w0.forCall (fun _ _ => 0) ⟨#[], args, []⟩) f ⟨#[], args, []⟩ = true)
 (hrow : s.preRow enc C.prog fn conds apart laid (w0.forCall (fun _ _ => 0) ⟨#[], args, []⟩).memory args) :
 ∃ (w : World) (tape : Tape) (i : Input), w.os = os ∧ (w.forCall tape i).Shaped C.prog ∧ i.vars = [] ∧ Input.okWide C.prog (w.forCall tape i) .any w.heap.size f i ∧
  s.preRow enc C.prog fn conds apart laid (w.forCall tape i).memory i.args ∧ ({ modest := modest } : Assume).holds C.prog (lone (Frame.enter C.prog f i.args .normal) [] (w.forCall tape i)) :=
 ⟨w0, fun _ _ => 0, ⟨#[], args, []⟩, hos, World.shaped_of_ZipB hv hr, (Input.okWide_of_okWideB (base := 0) hok).1, (Input.okWide_of_okWideB hok).2, hrow, by
  simp only [Assume.holds]
  exact ⟨by simp, by simp, fun _ => Modest.zero, by simp, by simp⟩⟩
open Go.RowKit Go.Shelf
def tU : Ren := ⟨fun n => if n = 196 then 145 else 162,
 fun n => if n = 0 then 0 else if n = 3 then 3 else if n = 4 then 4 else if n = 5 then 5 else if n = 9 then 9 else if n = 12 then 12 else if n = 46 then 213 else if n = 53 then 229 else if n = 119 then 175 else if n = 138 then 211 else 212,
 fun n => if n = 3 then 0 else 1⟩
theorem sQ : Lays.n196 prog tU where
 mixed := DT
 f196 := by kernel_rfl
 f259 := by kernel_rfl
 t0 := underlying0
 a0 := isAgg0
 z0 := sizeOf0
 v0 := zeroValue0
 t3 := underlying3
 a3 := isAgg3
 z3 := sizeOf3
 v3 := zeroValue3
 t4 := underlying4
 a4 := isAgg4
 z4 := sizeOf4
 v4 := zeroValue4
 t5 := underlying5
 a5 := isAgg5
 z5 := sizeOf5
 v5 := zeroValue5
 t9 := underlying9
 a9 := isAgg9
 z9 := sizeOf9
 v9 := zeroValue9
 t12 := underlying12
 a12 := isAgg12
 z12 := sizeOf12
 v12 := zeroValue12
 t46 := underlying213
 a46 := isAgg213
 z46 := sizeOf213
 v46 := zeroValue213
 t53 := underlying229
 a53 := isAgg229
 z53 := sizeOf229
 v53 := zeroValue229
 t119 := underlying175
 a119 := isAgg175
 z119 := sizeOf175
 t138 := underlying211
 a138 := isAgg211
 z138 := sizeOf211
 v138 := zeroValue211
 t139 := underlying212
 a139 := isAgg212
 z139 := sizeOf212
 v139 := zeroValue212
 g3 := by kernel_rfl
 g4 := by kernel_rfl
theorem YQ : (firstZ.map fun z => Value.int .u8 z) = (List.range 256).map fun c => Value.int .u8 (Go.Lib.firstT c : Int) := by kernel_rfl
theorem VS : (pairsZ.flatMap fun z => [Value.int .u8 z.1, Value.int .u8 z.2]) = (List.range 32).map fun j => Value.int .u8 (if j % 2 = 0 then (Go.Lib.accLo (j / 2) : Int) else (Go.Lib.accHi (j / 2) : Int)) := by kernel_rfl
theorem Laid.tabs {w : World} (h : Laid w utfL) : Go.Lib.Utf8Tabs 0 1 w := by
 obtain ⟨el, fz, h1⟩ := h _ (List.mem_cons_self)
 obtain ⟨el', fz', h2⟩ := h _ (List.mem_cons_of_mem _ List.mem_cons_self)
 simp only at h1 h2
 rw [YQ] at h1
 rw [VS] at h2
 refine ⟨fun c hc => ?_, fun i hi => ⟨?_, ?_⟩⟩
 ·simp [World.cell?, h1, hc]
 ·have e1 : 2 * i % 2 = 0 := by omega
  have e2 : 2 * i / 2 = i := by omega
  have e3 : 2 * i < 32 := by omega
  simp [World.cell?, h2, e1, e2, e3]
 ·have e1 : (2 * i + 1) % 2 = 1 := by omega
  have e2 : (2 * i + 1) / 2 = i := by omega
  have e3 : 2 * i + 1 < 32 := by omega
  simp [World.cell?, h2, e1, e2, e3]
theorem Laid.fr {w w' : World} {L : List (Nat × List Value)} (h : Laid w L) (hf : Fr0 w w') : Laid w' L := fun p hp => by
 obtain ⟨el, fz, h1⟩ := h p hp
 exact ⟨el, fz, (hf.block _ (Array.getElem?_eq_some_iff.1 h1).1 (fun hh => hh)).trans h1⟩
theorem Fr0.of_below {w w' : World} (h : Below w.heap.size w w') : Fr0 w w' := ⟨h.os, h.tape, h.output, h.size, fun k hk _ => h.block k hk⟩
theorem fL (l : List UInt8) (w : World) (hm : (l.length : Int) < 4611686018427387904) (hT : Laid w utfL) : Calls prog 145 #[str l] w fun e w' => e = .returned (.bool (utf l)) ∧ Fr0 w w' := by
 have hs : (ByteArray.mk l.toArray).size = l.length := by show l.toArray.size = _; simp
 have h := Any.utf8_ValidString sQ ⟨l.toArray⟩ w (by omega) hT.tabs
 refine h.mono fun e w' ⟨he, hb⟩ => ⟨?_, Fr0.of_below hb⟩
 rw [he]
 have : (ByteArray.mk l.toArray).data.toList = l := rfl
 rw [this, XP l.length l (Nat.le_refl _)]
theorem JG (l : List UInt8) (w : World) (hm : (l.length : Int) < 4611686018427387904) (hT : Laid w utfL) : Calls prog 117 #[str l] w fun e w' => e = .returned (.bool (utf l)) ∧ Fr0 w w' := by
 refine AK (vs := [_]) func117 rfl ntmps117 rfl (A4 (A0 (yb rfl (A1 (A2 (A4 (A0 (yb rfl (CC (some 4) (by first | exact A9 rfl | exact B7 rfl rfl rfl) rfl rfl (AF rfl rfl call145) (fL l _ hm hT) ?_)))))))))
 rintro _ w1 ⟨rfl, hf1⟩
 exact ⟨_, rfl, yb rfl (A1 (A2 (AD (AH rfl rfl ⟨rfl, hf1⟩))))⟩
def vOk (v : Vl) : Bool := if v.kind = 1 then (!v.bool && decide (v.text = [])) else if v.kind = 2 then (decide (v.int = 0) && decide (v.text = [])) else if v.kind = 3 then (decide (v.int = 0) && (!v.bool && (decide (v.text.length ≤ 1024) && utf v.text))) else false
def chk (v : Vl) : Int := if vOk v then 0 else 1
theorem kY {v : Vl} (h : vOk v = true) : chk v = 0 := by unfold chk; rw [h]; rfl
theorem TK {v : Vl} (h : vOk v = false) : chk v = 1 := by unfold chk; rw [h]; rfl
theorem UH {k : UInt8} {n : Nat} (h : k ≠ UInt8.ofNat n) : (k.toNat : Int) ≠ n := fun e => h (by
 have : k.toNat = n := by omega
 rw [← this]; simp)
theorem J1 (v : Vl) (w : World) (hm : (v.text.length : Int) < 4611686018427387904) (hT : Laid w utfL) : Calls prog 60 #[v.val] w fun e w' => e = .returned (.int .i64 (chk v)) ∧ Fr0 w w' := by
 refine AK (vs := [_]) func60 rfl ntmps60 rfl (A4 (A0 (CI (some 1) (A9 rfl) rfl rfl (fun ρ hρ => WZ 67 (.tmp 0) rfl v.cells (by rw [hρ _ _ rfl]; rfl)) ?_)))
 rintro _ w1 ⟨g, rfl, hg1, hg2, hb, hf⟩
 have c0 : Cell w1.heap g 0 (.int .u8 (v.kind.toNat : Int)) := hb.c 0 rfl
 have c1 : Cell w1.heap g 1 (.int .i64 v.int) := hb.c 1 rfl
 have c2 : Cell w1.heap g 2 (.bool v.bool) := hb.c 2 rfl
 have c3 : Cell w1.heap g 3 (str v.text) := hb.c 3 rfl
 have hrd : Rd w1 (some ⟨g, 0, none⟩) 4 v.cells := Rd.ofBlk hb rfl
 have hk := v.kind.toNat_lt
 by_cases k1 : v.kind = 1
 ·have k1' : (v.kind.toNat : Int) = 1 := by rw [k1]; rfl
  refine yb rfl (A1 (A2 (A4 (A0 (yb rfl (A1 (A2 (A4 (A4 (A0 (yb rfl (yl rfl rfl (by assumption) (A1 (A2 (AV ?_)))))))))))))))
  refine A4 (A0 (ya rfl (KH rfl rfl rfl (by omega)) (yb rfl (A1 (A2 (DQ rfl (D8 5 (fun w' => Rd w' (some ⟨g, 0, none⟩) 4 v.cells ∧ Cell w'.heap g 1 (.int .i64 v.int)) DT ?_)))))))
  have HS : Rd w1.drew (some ⟨g, 0, none⟩) 4 v.cells ∧ Cell w1.drew.heap g 1 (.int .i64 v.int) := ⟨hrd, c1⟩
  refine oa 0 3 rfl rfl HS (fun w' hS' => AN rfl rfl hS'.1 underlying67 rfl EG) (oa 1 3 rfl rfl HS (fun w' hS' => yp rfl) (oa 2 3 rfl rfl HS (fun w' hS' => CO rfl rfl (sc rfl) (by obtain ⟨s1, s2⟩ := hS'; assumption)) (D0 3 (some 11) (by kernel_rfl) rfl (A9 rfl) rfl rfl (AF rfl rfl call114) (dE v.int _) ?_)))
  rintro _ w2 ⟨rfl, hf2⟩
  have HS : Rd w2 (some ⟨g, 0, none⟩) 4 v.cells ∧ Cell w2.heap g 1 (.int .i64 v.int) := ⟨hrd.fr0 hf2.ofDrew, c1.fr hf2.ofDrew (fun hh => hh)⟩
  refine ⟨_, rfl, fun _ => HS, ?_⟩
  refine CZ 4 (by kernel_rfl) rfl (A9 rfl) rfl rfl (XL rfl rfl rfl) HS (MA 5 (by kernel_rfl) rfl rfl (by kernel_rfl) ?_)
  have hsm : v.same ⟨1, v.int, false, []⟩ = vOk v := by
   unfold Vl.same vOk
   rw [if_pos k1, k1]
   cases v.bool <;> simp
  refine yb rfl (A1 (AC (A2 (A4 (A4 (A0 (yb rfl (yb rfl (A1 (A2 ?_))))))))))
  rw [hsm]
  cases hv : vOk v with
  | true =>
   exact DB rfl (AL (A2 (A4 (A0 (yb rfl (A1 (A2 (AD (AH rfl rfl ⟨by rw [kY hv], hf.trans hf2.ofDrew⟩)))))))))
  | false =>
   exact DQ rfl (A4 (A0 (yb rfl (A1 (A2 (AD (AA (AH rfl rfl ⟨by rw [TK hv], hf.trans hf2.ofDrew⟩))))))))
 by_cases k2 : v.kind = 2
 ·have k1' : (v.kind.toNat : Int) ≠ 1 := by rw [k2]; decide
  have k2' : (v.kind.toNat : Int) = 2 := by rw [k2]; rfl
  refine yb rfl (A1 (A2 (A4 (A0 (yb rfl (A1 (A2 (A4 (A4 (A0 (yb rfl (yl rfl rfl (by assumption) (A1 (A2 (AV ?_)))))))))))))))
  refine A4 (A0 (ya rfl (GO rfl rfl rfl (by omega)) (yb rfl (A1 (A2 (DB rfl (A4 (A0 (ya rfl (KH rfl rfl rfl (by omega)) (yb rfl (A1 (A2 (DQ rfl (D8 5 (fun w' => Rd w' (some ⟨g, 0, none⟩) 4 v.cells ∧ Cell w'.heap g 2 (.bool v.bool)) DT ?_))))))))))))))
  have HS : Rd w1.drew (some ⟨g, 0, none⟩) 4 v.cells ∧ Cell w1.drew.heap g 2 (.bool v.bool) := ⟨hrd, c2⟩
  refine oa 0 3 rfl rfl HS (fun w' hS' => AN rfl rfl hS'.1 underlying67 rfl EG) (oa 1 3 rfl rfl HS (fun w' hS' => yp rfl) (oa 2 3 rfl rfl HS (fun w' hS' => CO rfl rfl (sc rfl) (by obtain ⟨s1, s2⟩ := hS'; assumption)) (D0 3 (some 18) (by kernel_rfl) rfl (A9 rfl) rfl rfl (AF rfl rfl call115) (fR v.bool _) ?_)))
  rintro _ w2 ⟨rfl, hf2⟩
  have HS : Rd w2 (some ⟨g, 0, none⟩) 4 v.cells ∧ Cell w2.heap g 2 (.bool v.bool) := ⟨hrd.fr0 hf2.ofDrew, c2.fr hf2.ofDrew (fun hh => hh)⟩
  refine ⟨_, rfl, fun _ => HS, ?_⟩
  refine CZ 4 (by kernel_rfl) rfl (A9 rfl) rfl rfl (XL rfl rfl rfl) HS (MA 5 (by kernel_rfl) rfl rfl (by kernel_rfl) ?_)
  have hsm : v.same ⟨2, 0, v.bool, []⟩ = vOk v := by
   unfold Vl.same vOk
   rw [if_neg k1, if_pos k2, k2]
   simp
  refine yb rfl (A1 (AC (A2 (A4 (A4 (A0 (yb rfl (yb rfl (A1 (A2 ?_))))))))))
  rw [hsm]
  cases hv : vOk v with
  | true =>
   exact DB rfl (AL (A2 (A4 (A0 (yb rfl (A1 (A2 (AD (AH rfl rfl ⟨by rw [kY hv], hf.trans hf2.ofDrew⟩)))))))))
  | false =>
   exact DQ rfl (A4 (A0 (yb rfl (A1 (A2 (AD (AA (AH rfl rfl ⟨by rw [TK hv], hf.trans hf2.ofDrew⟩))))))))
 have k1' : (v.kind.toNat : Int) ≠ 1 := UH (n := 1) k1
 have k2' : (v.kind.toNat : Int) ≠ 2 := UH (n := 2) k2
 by_cases k3 : v.kind = 3
 ·have k3' : (v.kind.toNat : Int) = 3 := by rw [k3]; rfl
  refine yb rfl (A1 (A2 (A4 (A0 (yb rfl (A1 (A2 (A4 (A4 (A0 (yb rfl (yl rfl rfl (by assumption) (A1 (A2 (AV ?_)))))))))))))))
  refine A4 (A0 (ya rfl (GO rfl rfl rfl (by omega)) (yb rfl (A1 (A2 (DB rfl (A4 (A0 (ya rfl (GO rfl rfl rfl (by omega)) (yb rfl (A1 (A2 (DB rfl (A4 (A0 ?_)))))))))))))))
  refine ya rfl (KH rfl rfl rfl (by omega)) (yb rfl (A1 (A2 (DQ rfl (D8 16 (fun w' => Rd w' (some ⟨g, 0, none⟩) 4 v.cells ∧ Cell w'.heap g 3 (str v.text)) DT ?_)))))
  have HS : Rd w1.drew (some ⟨g, 0, none⟩) 4 v.cells ∧ Cell w1.drew.heap g 3 (str v.text) := ⟨hrd, c3⟩
  refine oa 0 3 rfl rfl HS (fun w' hS' => AN rfl rfl hS'.1 underlying67 rfl EG) (oa 1 3 rfl rfl HS (fun w' hS' => yp rfl) (oa 2 3 rfl rfl HS (fun w' hS' => CO rfl rfl (sc rfl) (by obtain ⟨s1, s2⟩ := hS'; assumption)) (D0 3 (some 25) (by kernel_rfl) rfl (A9 rfl) rfl rfl (AF rfl rfl call116) (fG v.text _) ?_)))
  rintro _ w2 ⟨rfl, hf2⟩
  have c3' : Cell w2.heap g 3 (str v.text) := c3.fr hf2.ofDrew (fun hh => hh)
  have HS : Rd w2 (some ⟨g, 0, none⟩) 4 v.cells ∧ Cell w2.heap g 3 (str v.text) := ⟨hrd.fr0 hf2.ofDrew, c3'⟩
  refine ⟨_, rfl, fun _ => HS, ?_⟩
  have hw2 : Fr0 w w2 := hf.trans hf2.ofDrew
  have hsm : v.same ⟨3, 0, false, v.text⟩ = (decide (v.int = 0) && !v.bool) := by
   unfold Vl.same
   rw [k3]
   cases v.bool <;> simp
  have hvk : vOk v = ((decide (v.int = 0) && !v.bool) && (decide (v.text.length ≤ 1024) && utf v.text)) := by
   unfold vOk
   rw [if_neg k1, if_neg k2, if_pos k3, Bool.and_assoc]
  refine CZ 4 (by kernel_rfl) rfl (A9 rfl) rfl rfl (XL rfl rfl rfl) HS ?_
  rw [hsm]
  cases ha : (decide (v.int = 0) && !v.bool) with
  | false =>
   have hv : vOk v = false := by rw [hvk, ha]; rfl
   refine CZ 5 (by kernel_rfl) rfl (A9 rfl) rfl rfl (yp rfl) HS (F8 6 (by kernel_rfl) rfl rfl rfl rfl rfl rfl rfl HS (F8 7 (by kernel_rfl) rfl rfl rfl rfl rfl rfl rfl HS (F8 8 (by kernel_rfl) rfl rfl rfl rfl rfl rfl rfl HS (F8 9 (by kernel_rfl) rfl rfl rfl rfl rfl rfl rfl HS (CZ 10 (by kernel_rfl) rfl (A9 rfl) rfl rfl (yp rfl) HS (CZ 11 (by kernel_rfl) rfl (A9 rfl) rfl rfl (yp rfl) HS (F8 12 (by kernel_rfl) rfl rfl rfl rfl rfl rfl rfl HS (F8 13 (by kernel_rfl) rfl rfl rfl rfl rfl rfl rfl HS (F8 14 (by kernel_rfl) rfl rfl rfl rfl rfl rfl rfl HS (CZ 15 (by kernel_rfl) rfl (A9 rfl) rfl rfl (yp rfl) HS (MA 16 (by kernel_rfl) rfl rfl (by kernel_rfl) (yb rfl (A1 (AC (A2 ?_)))))))))))))))
   refine A4 (A4 (A0 (yb rfl (yb rfl (A1 (A2 (DQ rfl (A4 (A0 (yb rfl (A1 (A2 (AD (AA (AH rfl rfl ?_)))))))))))))))
   exact ⟨by rw [TK hv], hw2⟩
  | true =>
   by_cases hl : v.text.length ≤ 1024
   ·skip
    refine CZ 5 (by kernel_rfl) rfl (A9 rfl) rfl rfl (yp rfl) HS (CZ 6 (by kernel_rfl) rfl (B7 rfl rfl rfl) rfl rfl (yp rfl) HS (CZ 7 (by kernel_rfl) rfl (B7 rfl rfl rfl) rfl rfl (CO rfl rfl (sc rfl) (by assumption)) HS (CZ 8 (by kernel_rfl) rfl (B7 rfl rfl rfl) rfl rfl (EO rfl rfl underlying9) HS (CZ 9 (by kernel_rfl) rfl (B7 rfl rfl rfl) rfl rfl (lQ rfl rfl rfl (by omega)) HS (CZ 10 (by kernel_rfl) rfl (A9 rfl) rfl rfl (yp rfl) HS (CZ 11 (by kernel_rfl) rfl (A9 rfl) rfl rfl (yp rfl) HS (CZ 12 (by kernel_rfl) rfl (B7 rfl rfl rfl) rfl rfl (yp rfl) HS (CZ 13 (by kernel_rfl) rfl (B7 rfl rfl rfl) rfl rfl (CO rfl rfl (sc rfl) (by assumption)) HS (D0 14 (some 36) (by kernel_rfl) rfl (B7 rfl rfl rfl) rfl rfl (AF rfl rfl call117) (JG v.text _ hm (hT.fr hw2)) ?_)))))))))
    rintro _ w3 ⟨rfl, hf3⟩
    have HS : Rd w3 (some ⟨g, 0, none⟩) 4 v.cells ∧ Cell w3.heap g 3 (str v.text) := ⟨(hrd.fr0 hf2.ofDrew).fr0 hf3, c3'.fr hf3 (fun hh => hh)⟩
    refine ⟨_, rfl, fun _ => HS, ?_⟩
    have hv : vOk v = utf v.text := by rw [hvk, ha]; simp [hl]
    rw [← hv]
    refine CZ 15 (by kernel_rfl) rfl (A9 rfl) rfl rfl (yp rfl) HS (MA 16 (by kernel_rfl) rfl rfl (by kernel_rfl) (yb rfl (A1 (AC (A2 (A4 (A4 (A0 (yb rfl (yb rfl (A1 (A2 ?_))))))))))))
    cases hq : vOk v with
    | true =>
     exact DB rfl (AL (A2 (A4 (A0 (yb rfl (A1 (A2 (AD (AH rfl rfl ⟨by rw [kY hq], hw2.trans hf3⟩)))))))))
    | false =>
     exact DQ rfl (A4 (A0 (yb rfl (A1 (A2 (AD (AA (AH rfl rfl ⟨by rw [TK hq], hw2.trans hf3⟩))))))))
   ·have hv : vOk v = false := by rw [hvk, ha]; simp [hl]
    refine CZ 5 (by kernel_rfl) rfl (A9 rfl) rfl rfl (yp rfl) HS (CZ 6 (by kernel_rfl) rfl (B7 rfl rfl rfl) rfl rfl (yp rfl) HS (CZ 7 (by kernel_rfl) rfl (B7 rfl rfl rfl) rfl rfl (CO rfl rfl (sc rfl) (by assumption)) HS (CZ 8 (by kernel_rfl) rfl (B7 rfl rfl rfl) rfl rfl (EO rfl rfl underlying9) HS (CZ 9 (by kernel_rfl) rfl (B7 rfl rfl rfl) rfl rfl (lR rfl rfl rfl (by omega)) HS (CZ 10 (by kernel_rfl) rfl (A9 rfl) rfl rfl (yp rfl) HS (CZ 11 (by kernel_rfl) rfl (A9 rfl) rfl rfl (yp rfl) HS (F8 12 (by kernel_rfl) rfl rfl rfl rfl rfl rfl rfl HS (F8 13 (by kernel_rfl) rfl rfl rfl rfl rfl rfl rfl HS (F8 14 (by kernel_rfl) rfl rfl rfl rfl rfl rfl rfl HS (CZ 15 (by kernel_rfl) rfl (A9 rfl) rfl rfl (yp rfl) HS (MA 16 (by kernel_rfl) rfl rfl (by kernel_rfl) (yb rfl (A1 (AC (A2 ?_)))))))))))))))
    refine A4 (A4 (A0 (yb rfl (yb rfl (A1 (A2 (DQ rfl (A4 (A0 (yb rfl (A1 (A2 (AD (AA (AH rfl rfl ?_)))))))))))))))
    exact ⟨by rw [TK hv], hw2⟩
 ·have k3' : (v.kind.toNat : Int) ≠ 3 := UH (n := 3) k3
  have hv : vOk v = false := by unfold vOk; rw [if_neg k1, if_neg k2, if_neg k3]
  refine yb rfl (A1 (A2 (A4 (A0 (yb rfl (A1 (A2 (A4 (A4 (A0 (yb rfl (yl rfl rfl (by assumption) (A1 (A2 (AV ?_)))))))))))))))
  refine A4 (A0 (ya rfl (GO rfl rfl rfl (by omega)) (yb rfl (A1 (A2 (DB rfl (A4 (A0 (ya rfl (GO rfl rfl rfl (by omega)) (yb rfl (A1 (A2 (DB rfl (A4 (A0 ?_)))))))))))))))
  refine ya rfl (GO rfl rfl rfl (by omega)) (yb rfl (A1 (A2 (DB rfl (AL (AC (A2 (A4 (A4 (A0 (yb rfl (yb rfl (A1 (A2 (DQ rfl ?_)))))))))))))))
  exact A4 (A0 (yb rfl (A1 (A2 (AD (AA (AH rfl rfl ⟨by rw [TK hv], hf⟩)))))))
end Go.Proofs.YtadgfojhjnkliaaGreatDoor
