/- Lemmas that the last text rests on. Condition: each says its own. -/
import Derived.Test.YtaheakjfkpkefaaGreatDoorYb1
import Derived.Test.YtaheakjfkpkefaaGreatDoorProg
set_option maxHeartbeats 16000000
set_option maxRecDepth 100000
namespace Go.Proofs.YtaheakjfkpkefaaGreatDoor
open Go.RowKit
section
def AB {α : Type} (cells : α → List Value) (l : List α) : List Value := (l.map cells).flatten
theorem I9 {α : Type} {cells : α → List Value} {k : Nat} (hk : ∀ x, (cells x).length = k) (l : List α) : (AB cells l).length = l.length * k := by
 unfold AB
 rw [LD (m := k) (fun r hr => by obtain ⟨x, _, rfl⟩ := List.mem_map.1 hr; exact hk x)]
 simp
theorem kI {α : Type} {cells : α → List Value} {k : Nat} (hk : ∀ x, (cells x).length = k) {l : List α} {i j : Nat} {x : α} {u : Value} (hx : l[i]? = some x) (hj : (cells x)[j]? = some u) : (AB cells l)[i * k + j]? = some u := by
 have h1 := V0 (m := k) (l := l.map cells) (fun r hr => by obtain ⟨x, _, rfl⟩ := List.mem_map.1 hr; exact hk x) (i := i) (x := cells x) (by rw [List.getElem?_map, hx]; rfl)
 have hjk : j < k := by have := (List.getElem?_eq_some_iff.1 hj).1; rw [hk] at this; exact this
 have h2 : (((l.map cells).flatten.drop (i * k)).take k)[j]? = (cells x)[j]? := congrArg (·[j]?) h1
 rw [List.getElem?_take_of_lt hjk, List.getElem?_drop, hj] at h2
 exact h2
theorem AT {α : Type} (cells : α → List Value) (a b : List α) : AB cells (a ++ b) = AB cells a ++ AB cells b := by simp [AB]
theorem B7 {w : World} {α : Type} {cells : α → List Value} {A : Option Addr} {k : Nat} (hk0 : 0 < k) {l : List α} {i : Nat} {x : α} (h : Rd w A (l.length * k) (AB cells l)) (hx : l[i]? = some x) : ∃ b off, A = some ⟨b, off, none⟩ := by
 have hi := (List.getElem?_eq_some_iff.1 hx).1
 obtain ⟨b, off, e, _⟩ := h.2 (Nat.mul_pos (by omega) hk0)
 exact ⟨b, off, e⟩
theorem E5 {w : World} {α : Type} {cells : α → List Value} {A : Option Addr} {k : Nat} (hk : ∀ x, (cells x).length = k) {l : List α} {i : Nat} {x : α} (h : Rd w A (l.length * k) (AB cells l)) {b off : Nat} (hA : A = some ⟨b, off, none⟩) (hx : l[i]? = some x) (j : Nat) {u : Value} (hj : (cells x)[j]? = some u) : Cell w.heap b (off + i * k + j) u := by
 have h1 := kI hk hx hj
 have hlt := (List.getElem?_eq_some_iff.1 h1).1
 rw [h.1] at hlt
 obtain ⟨b', off', e, hc⟩ := h.2 (by omega)
 rw [hA] at e; injection e with e; injection e with e1 e2 _; subst e1; subst e2
 rw [Nat.add_assoc]
 exact Cell.of (hc _ u h1)
theorem BB {w : World} {α : Type} {cells : α → List Value} {A : Option Addr} {k : Nat} (hk : ∀ x, (cells x).length = k) {l : List α} {i : Nat} {x : α} (h : Rd w A (l.length * k) (AB cells l)) {b off : Nat} (hA : A = some ⟨b, off, none⟩) (hx : l[i]? = some x) : Rd w (some ⟨b, off + i * k, none⟩) k (cells x) :=
 ⟨hk x, fun _ => ⟨b, off + i * k, rfl, fun j _ hu => (E5 hk h hA hx j hu).get w rfl⟩⟩
theorem BZ {α : Type} {l : List α} {i : Nat} (h : i < l.length) : ∃ x, l[i]? = some x := ⟨_, List.getElem?_eq_getElem h⟩
theorem B0 {α : Type} {l : List α} {i : Nat} {x : α} (hx : l[i]? = some x) : l.drop i = x :: l.drop (i + 1) := by
 have hlt := (List.getElem?_eq_some_iff.1 hx).1
 rw [List.drop_eq_getElem_cons hlt]
 congr 1
 rw [List.getElem?_eq_getElem hlt] at hx
 exact Option.some.inj hx
theorem AJ {α : Type} {l : List α} {i : Nat} {x : α} (hx : l[i]? = some x) : l.take (i + 1) = l.take i ++ [x] := by
 rw [List.take_add_one, hx]; rfl
def BK (s : List UInt8) : List Value := [str s]
theorem FD (s : List UInt8) : (BK s).length = 1 := rfl
theorem sV {b : Bool} (h : b = false) : ¬ (b = true) := by rw [h]; decide
theorem BY {b : Bool} (h : (!b) = true) : b = false := by cases b <;> simp_all
theorem BJ {b : Bool} (h : (!b) = false) : b = true := by cases b <;> simp_all
theorem BX {a b : Bool} (h : (a && b) = true) : a = true ∧ b = true := by cases a <;> cases b <;> simp_all
theorem DA {a b : Bool} (h : (a && b) = false) : a = false ∨ b = false := by cases a <;> cases b <;> simp_all
theorem E6 {a b : Bool} (h : (a || b) = true) : a = true ∨ b = true := by cases a <;> cases b <;> simp_all
theorem BT {a b : Bool} (h : (a || b) = false) : a = false ∧ b = false := by cases a <;> cases b <;> simp_all
theorem GO (s : List UInt8) : ∀ u ∈ BK s, u.oneCell' = true := by intro u hu; simp only [BK, List.mem_singleton] at hu; subst hu; rfl
theorem D8 {α : Type} {cells : α → List Value} (h : ∀ x, ∀ u ∈ cells x, u.oneCell' = true) {l : List α} : ∀ u ∈ AB cells l, u.oneCell' = true := by
 intro u hu
 obtain ⟨r, hr, hu⟩ := List.mem_flatten.1 hu
 obtain ⟨x, _, rfl⟩ := List.mem_map.1 hr
 exact h x u hu
theorem D0 {a b : Nat} (h : Nat.ble a b = true) : a ≤ b := Nat.le_of_ble_eq_true h
theorem UI {w : World} {α : Type} {cells : α → List Value} {A : Option Addr} {k : Nat} (hk : ∀ x, (cells x).length = k) {l : List α} {i : Nat} {x : α} (h : Rd w A (l.length * k) (AB cells l)) {b off : Nat} (hA : A = some ⟨b, off, none⟩) (hx : l[i]? = some x) (j m : Nat) {ys : List Value} (hys : ((cells x).drop j).take m = ys) (hm : ys.length = m) : Rd w (some ⟨b, off + i * k + j, none⟩) m ys :=
 ⟨hm, fun _ => ⟨b, off + i * k + j, rfl, fun q u hu => by
  subst hys
  have hq : q < m := by have := (List.getElem?_eq_some_iff.1 hu).1; omega
  rw [List.getElem?_take_of_lt hq, List.getElem?_drop] at hu
  rw [Nat.add_assoc]
  exact (E5 hk h hA hx (j + q) hu).get w rfl⟩⟩
theorem DK {w : World} {g : Nat} {t : TypeId} {cs : List Value} (h : Blk w g t cs) (off m : Nat) {ys : List Value} (hys : (cs.drop off).take m = ys) (hm : ys.length = m) : Rd w (some ⟨g, off, none⟩) m ys :=
 ⟨hm, fun _ => ⟨g, off, rfl, fun q u hu => by
  subst hys
  have hq : q < m := by have := (List.getElem?_eq_some_iff.1 hu).1; omega
  rw [List.getElem?_take_of_lt hq, List.getElem?_drop] at hu
  exact (h.cell (off + q)).trans hu⟩⟩
def YD (l : List Value) : Bool := l.all (·.oneCell')
theorem BG {l : List Value} (h : YD l = true) : ∀ u ∈ l, u.oneCell' = true := fun u hu => List.all_eq_true.1 h u hu
theorem MT {w : World} {base size n : Nat} {e : TypeId} {v : Value} {xs : List Value} (h : w.ownsRow base e size v n xs) : ∀ g ∈ v.ownBlock.toList, base ≤ g ∧ g < w.heap.size := fun g hg => by
 obtain ⟨h1, h2⟩ := h.lt g (by simpa using hg)
 exact ⟨h1, h2⟩
theorem CC {w : World} {base size : Nat} {e : TypeId} {v : Value} {n : Nat} {xs : List Value} (h : w.ownsRow base e size v n xs) : ∃ A cap, v = .slice A n cap ∧ n ≤ cap := by
 rcases h.2 with ⟨rfl, h0⟩ | ⟨g, cap, cur, rfl, hb, hg, hc, hm, hs, ht⟩
 ·subst h0; exact ⟨none, 0, rfl, Nat.le_refl _⟩
 ·exact ⟨some ⟨g, 0, none⟩, cap, rfl, hc⟩
theorem K7 {w : World} {base size : Nat} {e : TypeId} {A : Option Addr} {c n : Nat} {xs : List Value} (h : w.ownsRow base e size (.slice A n c) n xs) : Rd w A (n * size) xs := by
 refine ⟨h.1, fun hn => ?_⟩
 rcases h.2 with ⟨hv, h0⟩ | ⟨g, cap, cur, hv, _⟩
 ·subst h0; omega
 ·injection hv with hA
  subst hA
  refine ⟨g, 0, rfl, fun j u hu => ?_⟩
  have := h.cells (g := g) rfl j u hu
  rwa [Addr.add_mid] at this
namespace Mem
variable {w0 w w' : World} {S : Nat → Prop} {L : List As}
theorem nilOwn (M : Mem w0 S L w) (e : TypeId) (size : Nat) : Mem w0 S (As.own w0.heap.size e size (.slice none 0 0) 0 [] :: L) w := by
 refine M.push Fr.refl _ ?_ (fun g hg => by simp [As.own, Value.ownBlock] at hg)
 exact ⟨by simp, .inl ⟨rfl, rfl⟩⟩
theorem pushOwn (M : Mem w0 S L w) (hf : Fr0 w w') {base size n : Nat} {e : TypeId} {v : Value} {xs : List Value} (hb : w.heap.size ≤ base) (h : w'.ownsRow base e size v n xs) : Mem w0 S (As.own w0.heap.size e size v n xs :: L) w' := by
 have hw := M.fr.size
 refine M.push hf _ (JN h (by omega)) (fun g hg => ?_)
 obtain ⟨h1, h2⟩ := MT h g hg
 exact ⟨by omega, h2⟩
theorem blkOwn (M : Mem w0 AM L w) (i : Nat) {g t size n : Nat} {cs : List Value} (hi : L[i]? = some (As.blk g t cs)) (hn : cs.length = n * size) (hm : n ≤ maxLen) : Mem w0 AM (L.set i (As.own w0.heap.size t size (.slice (some ⟨g, 0, none⟩) n n) n cs)) w := by
 have hb := M.blk i hi
 have hg : w0.heap.size ≤ g := by
  rcases (M.lt i _ hi g (by simp [As.blk])).2 with h | h
  ·exact h
  ·exact h.elim
 refine M.upd i hi Fr.refl _ ?_ (fun g' hg' => .inl (by simpa [As.own, As.blk, Value.ownBlock, eq_comm] using hg'))
 exact ⟨hn, .inr ⟨g, n, cs.toArray, rfl, hg, hb, Nat.le_refl _, hm, by simpa using hn, by simp [← hn]⟩⟩
theorem ownLen (M : Mem w0 S L w) (i : Nat) {base e size n : Nat} {v : Value} {xs : List Value} (hi : L[i]? = some (As.own base e size v n xs)) : n ≤ 9223372036854775807 := by
 rcases (M.own i hi).2 with ⟨_, h0⟩ | ⟨g, cap, cur, _, _, _, hc, hm, _⟩
 ·omega
 ·unfold maxLen at hm; omega
theorem rdOwn (M : Mem w0 S L w) (i : Nat) {base e size n c : Nat} {A : Option Addr} {xs : List Value} (hi : L[i]? = some (As.own base e size (.slice A n c) n xs)) : Rd w A (n * size) xs := K7 (M.own i hi)
theorem rdBlk (M : Mem w0 S L w) (i : Nat) {g t m : Nat} {cs : List Value} (hi : L[i]? = some (As.blk g t cs)) (hm : cs.length = m) : Rd w (some ⟨g, 0, none⟩) m cs := Rd.ofBlk (M.blk i hi) hm
end Mem
section
variable {P : Program} {Q : Exit → Act → World → Prop} {n : Nat} {e : Env} {w w0 : World} {S : Nat → Prop} {L : List As} {ops : Array Oper} {o : Oper} {rest : List Oper}
theorem AD {l : List Oper} {d : Nat} {b : Bool} (hb : e.get d = some (.bool b)) (h1 : b = true → SxL P ops Q n l ((d, .bool true) :: e) w) (h2 : b = false → SxL P ops Q n l ((d, .bool false) :: e) w) : SxL P ops Q n l e w := .mk fun a ha => by
 have key : ∀ c, b = c → Agr n ((d, .bool c) :: e) a := fun c hc => ⟨ha.size, ha.defers, fun k v hk => by
  unfold Env.get at hk
  split at hk
  ·rename_i hb'
   obtain rfl : d = k := Nat.eq_of_beq_eq_true hb'
   simp only [Option.some.injEq] at hk
   rw [← hk, ← hc]; exact ha.get d _ hb
  ·exact ha.get k v hk⟩
 cases b
 ·exact (h2 rfl).run a (key false rfl)
 ·exact (h1 rfl).run a (key true rfl)
theorem D6 {q : Act → Prop} {l : List Oper} {d : Nat} {b : Bool} (hb : e.get d = some (.bool b)) (h1 : b = true → SxS P ops w q n l ((d, .bool true) :: e)) (h2 : b = false → SxS P ops w q n l ((d, .bool false) :: e)) : SxS P ops w q n l e := .mk fun a ha => by
 have key : ∀ c, b = c → Agr n ((d, .bool c) :: e) a := fun c hc => ⟨ha.size, ha.defers, fun k v hk => by
  unfold Env.get at hk
  split at hk
  ·rename_i hb'
   obtain rfl : d = k := Nat.eq_of_beq_eq_true hb'
   simp only [Option.some.injEq] at hk
   rw [← hk, ← hc]; exact ha.get d _ hb
  ·exact ha.get k v hk⟩
 cases b
 ·exact (h2 rfl).run a (key false rfl)
 ·exact (h1 rfl).run a (key true rfl)
theorem K3 {l : List Oper} (cut : Nat) (r : Env) (F : World → Prop) (h : ∀ w', F w' → SxL P ops Q n (l.drop cut) r w') (k : (∀ e' w', F w' → r.le e' → SxL P ops Q n (l.drop cut) e' w') → SxL P ops Q n l e w) : SxL P ops Q n l e w :=
 k fun _ w' hF hl => fX hl (h w' hF)
theorem mR {q : Act → Prop} {l : List Oper} (cut : Nat) (r : Env) (h : SxS P ops w q n (l.drop cut) r) (k : (∀ e', r.le e' → SxS P ops w q n (l.drop cut) e') → SxS P ops w q n l e) : SxS P ops w q n l e :=
 k fun _ hl => .mk fun a ha => h.run a (ha.weak hl)
theorem LU {c : Code} {K : Act → World → Prop} (r : Env) (F : World → Prop) (h : ∀ w', F w' → QX (Exit.then K Q) .normal n r w') (k : (∀ e' w', F w' → r.le e' → QX (Exit.then K Q) .normal n e' w') → Sx P c (Exit.then K Q) n e w) : Sx P c (Exit.then K Q) n e w :=
 k fun _ w' hF hl => NX hl (h w' hF)
theorem DC (M : Mem w0 S L w) (i : Nat) {d : Nat} (hw : Wn ops e o) (hd : o.dst = some d) (hn : Nat.blt d n = true) {s x : Operand} {t base el size bytes len m c : Nat} {z v : Value} {xs news : List Value} {A : Option Addr}
 (ho : o.op = .call { callee := .builtin .append, args := #[s, x], argTypes := #[t, t] }) (hs : ev e s = some v) (hx : ev e x = some (.slice A m c)) (hi : L[i]? = some (As.own base el size v len xs)) (hr : Rd w A (m * size) news)
 (ht : P.underlying t = some (.slice el)) (hinf : (P.info? el).map (fun i => (i.zero, i.size, i.bytes)) = some (some z, size, bytes)) (hzs : z.cells.size = size) (hpos : 0 < size) (h1 : ∀ u ∈ news, u.oneCell' = true) (hb : w0.heap.size ≤ base) (hb' : base ≤ w0.heap.size) (hsm : (len + m) * bytes ≤ 140737488355328) (h63 : len + m ≤ maxLen) {len' : Nat} {xs' : List Value} (hl' : len + m = len') (hx' : xs ++ news = xs')
 (k : ∀ A' c' w', Mem w0 S (L.set i (As.own base el size (.slice A' len' c') len' xs')) w' → SxL P ops Q n rest ((d, .slice A' len' c') :: e) w') : SxL P ops Q n (o :: rest) e w := by
 subst hl'; subst hx'
 have hw0 := M.fr.size
 have hown := M.own i hi
 refine sxl_does (some d) hw hd hn (fun ρ hρ => BV s x t ho base el z size bytes ht hinf hzs hpos v len xs (hρ _ _ hs) hown A m c news (hρ _ _ hx) hr h1 h63 hsm (by omega)) ?_
 rintro v' w1 ⟨h1, h2, h3⟩
 obtain ⟨A', c', rfl, _⟩ := CC h1
 refine k A' c' w1 (M.upd i hi ?_ _ h1 ?_)
 ·refine ⟨h2.os, h2.tape, h2.output, h2.size, fun g hg hn => h2.block g hg ?_⟩
  intro e
  exact hn (by simp [As.own, ← e])
 ·intro g hg
  rcases h3 with h | h
  ·left; simpa [As.own, h] using hg
  ·right
   have hg' : g = w.heap.size := by simpa [As.own, h, eq_comm] using hg
   have := (MT h1 g hg).2
   omega
theorem CU (M : Mem w0 S L w) {d : Nat} (hw : Wn ops e o) (hd : o.dst = some d) (hn : Nat.blt d n = true) {t len el size : Nat} {parts : List (Nat × Operand)} {ps : List (Nat × Value)} (vs cs : List Value) {z : Value} (ho : o.op = .buildSlice t len parts.toArray) (hp : evp e parts = some ps) (hps : ps = (vs.zipIdx 0).map fun x => (x.2, x.1)) (hlen : vs.length = len)
 (hu : P.underlying t = some (.slice el)) (hi : (P.info? el).map (fun i => (i.zero, i.size)) = some (some z, size)) (hpos : Nat.blt 0 (len * size) = true) (hsm : Nat.ble (len * size) 16777216 = true) (hv : ∀ v ∈ vs, v.cells.size = size) (hcs : (vs.map fun v => v.cells.toList).flatten = cs)
 (k : ∀ g w', w.heap.size ≤ g → Mem w0 S (As.blk g el cs :: L) w' → SxL P ops Q n rest ((d, .slice (some ⟨g, 0, none⟩) len len) :: e) w') : SxL P ops Q n (o :: rest) e w := by
 subst hcs
 refine sxl_does (some d) hw hd hn (fun ρ hρ => CM vs z hρ ho hp hps hlen hu hi (BR hpos) (Nat.le_of_ble_eq_true hsm) hv) ?_
 rintro _ w1 ⟨g, rfl, h1, h2, hb, hf⟩
 exact k g w1 h1 (M.push hf _ hb (fun g' hg' => by simp only [As.blk, List.mem_singleton] at hg'; subst hg'; exact ⟨h1, h2⟩))
end
section
variable {P : Program} {e : Env} {w : World} {o : Oper}
theorem EQ {t t' : Nat} {k : IntKind} {a b : Int} {x y : Operand} (ho : o.op = .binOp .lss t x y t') (hx : ev e x = some (.int k a)) (hy : ev e y = some (.int k b)) : Y P e o w (.bool (decide (a < b))) := fun ρ h => by
 unfold execOp; simp [ho, h _ _ hx, h _ _ hy, eqGuard_at_int, binOp_lss]
theorem G8 {t t' : Nat} {k : IntKind} {a b : Int} {x y : Operand} (ho : o.op = .binOp .leq t x y t') (hx : ev e x = some (.int k a)) (hy : ev e y = some (.int k b)) : Y P e o w (.bool (decide (a ≤ b))) := fun ρ h => by
 unfold execOp; simp [ho, h _ _ hx, h _ _ hy, eqGuard_at_int, binOp_leq]
theorem G9 {t t' : Nat} {k : IntKind} {a b : Int} {x y : Operand} (ho : o.op = .binOp .gtr t x y t') (hx : ev e x = some (.int k a)) (hy : ev e y = some (.int k b)) : Y P e o w (.bool (decide (b < a))) := fun ρ h => by
 unfold execOp; simp [ho, h _ _ hx, h _ _ hy, eqGuard_at_int, binOp_gtr]
theorem GK {t t' : Nat} {k : IntKind} {a b : Int} {x y : Operand} (ho : o.op = .binOp .geq t x y t') (hx : ev e x = some (.int k a)) (hy : ev e y = some (.int k b)) : Y P e o w (.bool (decide (b ≤ a))) := fun ρ h => by
 unfold execOp; simp [ho, h _ _ hx, h _ _ hy, eqGuard_at_int, binOp_geq]
theorem BO {t t' : Nat} {k : IntKind} {a b : Int} {x y : Operand} (ho : o.op = .binOp .eql t x y t') (hx : ev e x = some (.int k a)) (hy : ev e y = some (.int k b)) : Y P e o w (.bool (decide (a = b))) := fun ρ h => by
 unfold execOp; simp only [ho, h _ _ hx, h _ _ hy, eqGuard_at_int, binOp_eql, Sem.run_bind, Sem.run_pure, Result.andThen_ok]; by_cases hab : a = b <;> simp [hab]
theorem E1 {t t' : Nat} {k : IntKind} {a b : Int} {x y : Operand} (ho : o.op = .binOp .neq t x y t') (hx : ev e x = some (.int k a)) (hy : ev e y = some (.int k b)) : Y P e o w (.bool (!decide (a = b))) := fun ρ h => by
 unfold execOp; simp only [ho, h _ _ hx, h _ _ hy, eqGuard_at_int, binOp_neq, Sem.run_bind, Sem.run_pure, Result.andThen_ok]; by_cases hab : a = b <;> simp [hab]
theorem AP {t g off len cap sz el : Nat} (j : Nat) {k : IntKind} {x i : Operand} {A : Option Addr} (hA : A = some ⟨g, off, none⟩) (ho : o.op = .indexAddr t x i) (hx : ev e x = some (.slice A len cap)) (hi : ev e i = some (.int k (j : Int))) (ht : CZ P t = some (el, sz)) (h0 : j < len) :
 Y P e o w (.pointer (some ⟨g, off + j * sz, none⟩)) := by subst hA; exact KT ho hx hi ht h0
end
section
variable {P : Program} {Q : Exit → Act → World → Prop} {n f t : Nat} {e : Env} {w w0 : World} {S : Nat → Prop} {L L' : List As} {ops : Array Oper} {o : Oper} {listed : Array Bool} {c : Code} {I : World → Prop}
theorem NO (r : Env) (F : World → Prop) (h : ∀ w', F w' → QX Q .normal n r w') (k : (∀ e' w', F w' → r.le e' → QX Q .normal n e' w') → Sx P c Q n e w) : Sx P c Q n e w := k fun _ w' hF hl => NX hl (h w' hF)
theorem NN {α β : Type} (r : α → β → Env) (F : α → β → World → Prop) (h : ∀ x y w', F x y w' → QX Q .normal n (r x y) w') (k : (∀ x y e' w', F x y w' → (r x y).le e' → QX Q .normal n e' w') → Sx P c Q n e w) : Sx P c Q n e w := k fun x y _ w' hF hl => NX hl (h x y w' hF)
theorem gK {α β γ : Type} (r : α → β → γ → Env) (F : α → β → γ → World → Prop) (h : ∀ x y z w', F x y z w' → QX Q .normal n (r x y z) w') (k : (∀ x y z e' w', F x y z w' → (r x y z).le e' → QX Q .normal n e' w') → Sx P c Q n e w) : Sx P c Q n e w := k fun x y z _ w' hF hl => NX hl (h x y z w' hF)
theorem R0 {α β γ δ : Type} (r : α → β → γ → δ → Env) (F : α → β → γ → δ → World → Prop) (h : ∀ x y z u w', F x y z u w' → QX Q .normal n (r x y z u) w') (k : (∀ x y z u e' w', F x y z u w' → (r x y z u).le e' → QX Q .normal n e' w') → Sx P c Q n e w) : Sx P c Q n e w := k fun x y z u _ w' hF hl => NX hl (h x y z u w' hF)
theorem DF {g : Nat} {ty : TypeId} {cs : List Value} {w w' : World} (h1 : w.heap.size ≤ g) (h2 : g < w'.heap.size) : ∀ g' ∈ (As.blk g ty cs).fp, w.heap.size ≤ g' ∧ g' < w'.heap.size := fun g' hg' => by
 simp only [As.blk, List.mem_singleton] at hg'; subst hg'; exact ⟨h1, h2⟩
theorem L5 {g : Nat} {K : List (List UInt8 × Value)} {w w' : World} (h1 : w.heap.size ≤ g) (h2 : g < w'.heap.size) : ∀ g' ∈ (As.mp g K).fp, w.heap.size ≤ g' ∧ g' < w'.heap.size := fun g' hg' => by
 simp only [As.mp, List.mem_singleton] at hg'; subst hg'; exact ⟨h1, h2⟩
theorem Mem.putB (M : Mem w0 S L w) (i : Nat) {g ty : Nat} {cs cs' : List Value} {w' : World} (hi : L[i]? = some (As.blk g ty cs)) (hb : Blk w' g ty cs') (hf : Fr (fun k => k = g) w w') : Mem w0 S (L.set i (As.blk g ty cs')) w' :=
 M.upd i hi (Z1 hf) (As.blk g ty cs') hb (fun _ hg' => .inl hg')
end
section
variable {P : Program} {e : Env} {w : World} {o : Oper}
theorem Z5 {t : Nat} {x j : Operand} {l : List UInt8} {k' : IntKind} {b : Nat} (ho : o.op = .slice t x none (some j) none) (hx : ev e x = some (str l)) (hj : ev e j = some (.int k' (b : Int))) (ht : P.underlying t = some .string) (hb : b ≤ l.length) : Y P e o w (str (l.take b)) := fun ρ h => by
 have hs : (ByteArray.mk l.toArray).size = l.length := by show l.toArray.size = _; simp
 unfold execOp
 simp [ho, h _ _ hx, h _ _ hj, str, Instr.sliceAt, Instr.slice, run_underlying ht, Instr.sliceBounds, Instr.sliceBound, asIntOf, hs, hb, Lib.extract_eq]
theorem DI {t kt el : TypeId} {x i : Operand} {g : Nat} {k : List UInt8} {L : List (List UInt8 × Value)} {z v : Value} {b : Bool} (ho : o.op = .lookup t x i true) (hx : ev e x = some (.map (some g))) (hi : ev e i = some (str k)) (hu : P.underlying t = some (.map kt el)) (hd : P.underlying kt = some .string)
 (hz : (P.info? el).map (·.zero) = some (some z)) (hM : Mp w g L) (hv : (BP L k).getD z = v) (hb : (BP L k).isSome = b) : Y P e o w (.tuple #[v, .bool b]) := by
 subst hv; subst hb
 exact NC (ok := true) ho hx hi hu hd hz hM
theorem BD {t kt el : TypeId} {x i : Operand} {g : Nat} {k : List UInt8} {L : List (List UInt8 × Value)} {z v : Value} (ho : o.op = .lookup t x i false) (hx : ev e x = some (.map (some g))) (hi : ev e i = some (str k)) (hu : P.underlying t = some (.map kt el)) (hd : P.underlying kt = some .string)
 (hz : (P.info? el).map (·.zero) = some (some z)) (hM : Mp w g L) (hv : (BP L k).getD z = v) : Y P e o w v := by
 subst hv
 exact NC (ok := false) ho hx hi hu hd hz hM
theorem pO {t t' : TypeId} {x y : Operand} {b c : UInt8} (ho : o.op = .binOp .or t x y t') (hx : ev e x = some (.int .u8 (b.toNat : Int))) (hy : ev e y = some (.int .u8 (c.toNat : Int))) : Y P e o w (.int .u8 ((b ||| c).toNat : Int)) := fun ρ h => by
 have hk : Op.intBits .or .u8 (b.toNat : Int) (c.toNat : Int) = pure (.int .u8 ((b ||| c).toNat : Int)) := by
  unfold Op.intBits
  have h1 : BitVec.ofInt (IntKind.u8).bits (b.toNat : Int) = b.toBitVec := by
   apply BitVec.eq_of_toNat_eq; simp [IntKind.bits]
  have h2 : BitVec.ofInt (IntKind.u8).bits (c.toNat : Int) = c.toBitVec := by
   apply BitVec.eq_of_toNat_eq; simp [IntKind.bits]
  simp only [h1, h2]
  have h3 : ((b.toBitVec ||| c.toBitVec : BitVec 8).toNat : Int) = ((b ||| c).toNat : Int) := rfl
  have h4 : (IntKind.u8).wrap ((b ||| c).toNat : Int) = ((b ||| c).toNat : Int) := by
   have := (b ||| c).toNat_lt
   rw [UInt8.toNat_or] at this
   simp [IntKind.wrap, IntKind.bits, IntKind.signed]; omega
  show (pure (.int .u8 ((IntKind.u8).wrap ((b.toBitVec ||| c.toBitVec : BitVec 8).toNat : Int))) : Sem Value) = _
  rw [h3, h4]
 unfold execOp
 simp [ho, h _ _ hx, h _ _ hy, eqGuard_at_int, Go.binOp, hk]
theorem qE {t t' : TypeId} {x y : Operand} {a b : Nat} (ho : o.op = .call { callee := .builtin .min, args := #[x, y], argTypes := #[t, t'] }) (hx : ev e x = some (.int .i64 (a : Int))) (hy : ev e y = some (.int .i64 (b : Int))) : Y P e o w (.int .i64 ((min a b : Nat) : Int)) := fun ρ h => by
 unfold execOp
 have hab : (if (b : Int) < (a : Int) then (b : Int) else (a : Int)) = ((min a b : Nat) : Int) := by split <;> omega
 simp only [ho, h _ _ hx, h _ _ hy, resolve, invoke, builtin, Builtin.min_, Builtin.min2, List.map_toArray, List.map_cons, List.map_nil, List.foldlM_cons, List.foldlM_nil, Sem.run_bind, Sem.run_pure, Result.andThen_ok, hab]
end
end
section
section
variable {P : Program} {ops : Array Oper} {Q : Exit → Act → World → Prop} {S : World → Prop} {t n f : Nat} {listed : Array Bool} {e : Env} {w : World}
theorem D7 {d : Nat} {b : Bool} (hb : e.get d = some (.bool b)) (h1 : b = true → SxO P ops Q t S n f listed ((d, .bool true) :: e) w) (h2 : b = false → SxO P ops Q t S n f listed ((d, .bool false) :: e) w) : SxO P ops Q t S n f listed e w := .mk fun a ha => by
 have key : ∀ c, b = c → Agr n ((d, .bool c) :: e) a := fun c hc => ⟨ha.size, ha.defers, fun k v hk => by
  unfold Env.get at hk
  split at hk
  ·rename_i hb'
   obtain rfl : d = k := Nat.eq_of_beq_eq_true hb'
   simp only [Option.some.injEq] at hk
   rw [← hk, ← hc]; exact ha.get d _ hb
  ·exact ha.get k v hk⟩
 cases b
 ·exact (h2 rfl).run a (key false rfl)
 ·exact (h1 rfl).run a (key true rfl)
theorem ZH {o : Oper} {d d0 j : Nat} {b c : Bool} (i h : Nat) (hs : Region.noSelect ops = true) (hQ : ∀ c (a : Act) t v w, Q (.panic c) (a.put t v) w → Q (.panic c) a w) (hwait : GL ops h t = true) (hih : Nat.blt i h = true)
 (hf : Region.free .any ops listed i = true) (hr : (Region.ready .any ops listed).contains i = true) (ho : ops[i]? = some o) (hg : o.guard = some (j, b)) (hj : (ops[j]?).bind (·.dst) = some d0) (hb : e.get d0 = some (.bool c)) (hne : (c == b) = false) (hd : o.dst = some d) (hn : Nat.blt d n = true) (hS : S w)
 (k : SxO P ops Q t S n f (listed.setIfInBounds i true) ((d, undef) :: e) w) : SxO P ops Q t S n (f + 1) listed e w := ⟨fun a ha => by
 have hw : Region.wanted o (yielded ops a.tmps) = false := by
  simp only [Region.wanted, hg, yielded, hj, ha.get d0 _ hb, Option.bind_some]
  cases c <;> cases b <;> simp_all
 refine JZ (v := undef) ho (Region.noSelect_spec hs) (fun c a w => hQ c a _ _ w) hwait (BR hih) f listed a w (Region.free_spec ho hf) (by simpa using hr) (.inr ⟨hw, rfl⟩) hS ?_
 rw [hd]; exact k.run _ (ha.put (BR hn) undef)⟩
theorem oo1 {o : Oper} {d d0 j : Nat} {b c : Bool} (i h : Nat) (ho : ops[i]? = some o) (hg : o.guard = some (j, b)) (hj : (ops[j]?).bind (·.dst) = some d0) (hb : e.get d0 = some (.bool c)) (hne : (c == b) = false) (hd : o.dst = some d) (hn : Nat.blt d n = true) (hS : S w) (k : SxO P ops Q t S n f (listed.setIfInBounds i true) ((d, undef) :: e) w) (hs : Region.noSelect ops = true := by kernel_rfl) (hQ : ∀ c (a : Act) t v w, Q (.panic c) (a.put t v) w → Q (.panic c) a w := by exact fun c a t v w h => by cases t <;> exact h) (hwait : GL ops h t = true := by kernel_rfl) (hih : Nat.blt i h = true := by exact rfl) (hf : Region.free .any ops listed i = true := by kernel_rfl) (hr : (Region.ready .any ops listed).contains i = true := by kernel_rfl) : SxO P ops Q t S n (f + 1) listed e w :=
 ZH i h hs hQ hwait hih hf hr ho hg hj hb hne hd hn hS k
end
end
open Tryz
section
def foL : List (Nat × Nat × Nat) := [(26, 0, 0), (26, 1, 1), (26, 2, 2), (33, 0, 0), (33, 1, 1), (33, 2, 2), (33, 3, 3), (33, 4, 4), (36, 0, 0), (36, 1, 1), (38, 0, 0), (38, 1, 1), (38, 2, 2), (50, 0, 0), (56, 0, 0), (56, 1, 1), (56, 2, 2), (56, 3, 3), (56, 4, 4), (56, 5, 5), (56, 6, 6), (56, 7, 7), (56, 8, 8), (62, 0, 0), (62, 1, 1), (62, 2, 2), (62, 3, 3), (62, 4, 4), (64, 0, 0), (64, 1, 5), (72, 0, 0), (72, 1, 1), (72, 2, 2), (72, 3, 3), (72, 4, 4), (90, 0, 0), (90, 1, 5), (90, 2, 6), (90, 3, 7), (90, 4, 8), (90, 5, 9), (95, 0, 0), (95, 1, 1), (95, 2, 2), (95, 3, 3), (95, 4, 4), (95, 5, 5), (95, 6, 6), (95, 7, 7), (95, 8, 8), (95, 9, 9), (95, 10, 10), (100, 0, 0), (100, 1, 1), (100, 2, 2), (100, 3, 3), (103, 0, 0), (103, 1, 1), (109, 0, 0), (109, 1, 1), (109, 2, 2), (109, 3, 3), (112, 0, 0), (112, 1, 1), (112, 2, 5), (112, 3, 6), (119, 0, 0), (119, 1, 1), (137, 0, 0), (137, 1, 1), (137, 2, 2), (137, 3, 3), (137, 4, 4), (137, 5, 5), (139, 0, 0), (139, 1, 1), (139, 2, 2), (139, 3, 3), (139, 4, 4), (166, 0, 0), (166, 1, 7), (166, 2, 8), (166, 3, 9), (168, 0, 0), (168, 1, 1), (168, 2, 2), (168, 3, 12), (168, 4, 13), (174, 0, 0), (174, 1, 1), (199, 0, 0), (199, 1, 5), (199, 2, 6), (199, 3, 7), (246, 0, 0), (246, 1, 1), (262, 0, 0), (262, 1, 1), (316, 0, 0), (316, 1, 1), (316, 2, 2)]
def scL : List Nat := [2, 3, 4, 5, 9, 12, 21, 22, 23, 24, 29, 31, 34, 44, 45, 48, 51, 59, 60, 69, 75, 76, 79, 85, 86, 87, 88, 92, 97, 110, 116, 120, 124, 126, 134, 135, 140, 147, 154, 155, 158, 159, 163, 164, 169, 170, 172, 180, 190, 197, 202, 203, 205, 207, 209, 212, 218, 236, 238, 240, 243, 244, 256, 264, 270, 276, 287, 291, 300, 312, 313, 318, 322, 349]
def slL : List (Nat × Nat × Nat) := [(22, 64, 10), (23, 26, 4), (24, 103, 5), (29, 36, 6), (31, 56, 9), (45, 38, 3), (48, 9, 1), (59, 95, 11), (60, 109, 4), (76, 3, 1), (110, 112, 7), (116, 119, 10), (120, 72, 5), (135, 139, 5), (158, 159, 1), (244, 5, 1), (349, 100, 4)]
def arL : List (Nat × Nat × Nat × Nat) := [(195, 256, 5, 1), (210, 2, 3, 1), (232, 256, 4, 1), (263, 16, 262, 2), (344, 24, 5, 1), (351, 20, 276, 1), (352, 65, 5, 1), (357, 32, 5, 1), (358, 64, 5, 1)]
def ptL : List (Nat × Nat) := [(34, 90), (134, 137), (155, 199), (164, 168), (236, 232), (243, 246), (270, 5), (312, 316), (322, 3)]
def MW : List (Nat × Nat × Nat) → Nat → Nat → Option Nat
 | [], _, _ => none
 | (a, b, k) :: l, s, f => match Nat.beq a s with
  | true => match Nat.beq b f with
   | true => some k
   | false => MW l s f
  | false => MW l s f
def Q3 : List Nat → Nat → Bool
 | [], _ => false
 | a :: l, t => match Nat.beq a t with
  | true => true
  | false => Q3 l t
def dQ : List (Nat × Nat × Nat) → Nat → Option (Nat × Nat)
 | [], _ => none
 | (a, p) :: l, t => match Nat.beq a t with
  | true => some p
  | false => dQ l t
def kC : List (Nat × Nat) → Nat → Option Nat
 | [], _ => none
 | (a, p) :: l, t => match Nat.beq a t with
  | true => some p
  | false => kC l t
theorem WY : ∀ (l : List (Nat × Nat)) {t : Nat} {p : Nat}, kC l t = some p → (t, p) ∈ l
 | [], _, _, h => by simp [kC] at h
 | (a, q) :: l, t, p, h => by
  unfold kC at h
  split at h
  ·rename_i h1; obtain rfl := Nat.eq_of_beq_eq_true h1; simp only [Option.some.injEq] at h; subst h; simp
  ·exact List.mem_cons_of_mem _ (WY l h)
def kB : List (Nat × Nat × Nat × Nat) → Nat → Option (Nat × Nat × Nat)
 | [], _ => none
 | (a, p) :: l, t => match Nat.beq a t with
  | true => some p
  | false => kB l t
theorem RS : ∀ (l : List (Nat × Nat × Nat)) {s f k : Nat}, MW l s f = some k → (s, f, k) ∈ l
 | [], _, _, _, h => by simp [MW] at h
 | (a, b, c) :: l, s, f, k, h => by
  unfold MW at h
  split at h
  ·rename_i h1
   split at h
   ·rename_i h2
    obtain rfl := Nat.eq_of_beq_eq_true h1; obtain rfl := Nat.eq_of_beq_eq_true h2
    simp only [Option.some.injEq] at h; subst h; simp
   ·exact List.mem_cons_of_mem _ (RS l h)
  ·exact List.mem_cons_of_mem _ (RS l h)
theorem WV : ∀ (l : List Nat) {t : Nat}, Q3 l t = true → t ∈ l
 | [], _, h => by simp [Q3] at h
 | a :: l, t, h => by
  unfold Q3 at h
  split at h
  ·rename_i h1; obtain rfl := Nat.eq_of_beq_eq_true h1; simp
  ·exact List.mem_cons_of_mem _ (WV l h)
theorem WX : ∀ (l : List (Nat × Nat × Nat)) {t : Nat} {p : Nat × Nat}, dQ l t = some p → (t, p) ∈ l
 | [], _, _, h => by simp [dQ] at h
 | (a, q) :: l, t, p, h => by
  unfold dQ at h
  split at h
  ·rename_i h1; obtain rfl := Nat.eq_of_beq_eq_true h1; simp only [Option.some.injEq] at h; subst h; simp
  ·exact List.mem_cons_of_mem _ (WX l h)
theorem WW : ∀ (l : List (Nat × Nat × Nat × Nat)) {t : Nat} {p : Nat × Nat × Nat}, kB l t = some p → (t, p) ∈ l
 | [], _, _, h => by simp [kB] at h
 | (a, q) :: l, t, p, h => by
  unfold kB at h
  split at h
  ·rename_i h1; obtain rfl := Nat.eq_of_beq_eq_true h1; simp only [Option.some.injEq] at h; subst h; simp
  ·exact List.mem_cons_of_mem _ (WW l h)
theorem rS : foL.all (fun x => LG prog x.1 x.2.1 == some x.2.2) = true := by kernel_rfl
theorem qR : scL.all (fun x => IF prog x) = true := by kernel_rfl
theorem qQ : slL.all (fun x => CZ prog x.1 == some x.2) = true := by kernel_rfl
theorem sE : arL.all (fun x => M7 prog x.1 == some x.2) = true := by kernel_rfl
theorem qV : ptL.all (fun x => LW prog x.1 == some x.2) = true := by kernel_rfl
theorem CL : prog.follows .mixedOrders = true := by kernel_rfl
theorem pt {t el : Nat} (h : kC ptL t = some el) : LW prog t = some el := by
 have := List.all_eq_true.1 qV _ (WY _ h); simpa using this
theorem fo {s f k : Nat} (h : MW foL s f = some k) : LG prog s f = some k := by
 have := List.all_eq_true.1 rS _ (RS _ h); simpa using this
theorem yp {e : Env} {o : Oper} {w : World} {v : Value} (h : IH (MW foL) e o.op = some v) : Y prog e o w v := qC (fun _ _ _ h => fo h) h
theorem yb {n : Nat} {Q : Exit → Act → World → Prop} {e : Env} {w : World} {ops : Array Oper} {o : Oper} {rest : List Oper} {d : Nat} {v : Value} (h : (o.guard, o.dst, Nat.blt d n, IH (MW foL) e o.op) = (none, some d, true, some v)) (k : SxL prog ops Q n rest ((d, v) :: e) w) : SxL prog ops Q n (o :: rest) e w :=
 sxl_y (wn_none (Prod.mk.inj h).1) (Prod.mk.inj (Prod.mk.inj h).2).1 (Prod.mk.inj (Prod.mk.inj (Prod.mk.inj h).2).2).1 (yp (Prod.mk.inj (Prod.mk.inj (Prod.mk.inj h).2).2).2) k
theorem sc {t : Nat} (h : Q3 scL t = true) : IF prog t = true := List.all_eq_true.1 qR _ (WV _ h)
theorem yl {n : Nat} {Q : Exit → Act → World → Prop} {e : Env} {w : World} {ops : Array Oper} {o : Oper} {rest : List Oper} {d t g off : Nat} {x : Operand} {v : Value} (h : (o.guard, o.dst, Nat.blt d n, o.op) = (none, some d, true, .load t x)) (hx : (ev e x, Q3 scL t) = (some (.pointer (some ⟨g, off, none⟩)), true)) (hc : Cell w.heap g off v) (k : SxL prog ops Q n rest ((d, v) :: e) w) : SxL prog ops Q n (o :: rest) e w := by
 simp only [Prod.mk.injEq] at h hx
 exact sxl_y (wn_none h.1) h.2.1 h.2.2.1 (B9 h.2.2.2 hx.1 (sc hx.2) hc) k
theorem ym {n : Nat} {Q : Exit → Act → World → Prop} {e : Env} {w : World} {ops : Array Oper} {o : Oper} {rest : List Oper} {j d' d t g off : Nat} {b : Bool} {x : Operand} {v : Value} (h : (o.guard, (ops[j]?).bind (·.dst), e.get d', o.dst, Nat.blt d n, o.op) = (some (j, b), some d', some (.bool b), some d, true, .load t x)) (hx : (ev e x, Q3 scL t) = (some (.pointer (some ⟨g, off, none⟩)), true)) (hc : Cell w.heap g off v) (k : SxL prog ops Q n rest ((d, v) :: e) w) : SxL prog ops Q n (o :: rest) e w := by
 simp only [Prod.mk.injEq] at h hx
 exact sxl_y (wn_on h.1 h.2.1 h.2.2.1) h.2.2.2.1 h.2.2.2.2.1 (B9 h.2.2.2.2.2 hx.1 (sc hx.2) hc) k
theorem oc {ops : Array Oper} {Q : Exit → Act → World → Prop} {S : World → Prop} {t n f : Nat} {listed : Array Bool} {e : Env} {w : World} {o : Oper} {d : Nat} {v : Value} (i h : Nat) (ho : ops[i]? = some o) (hd : (o.guard, o.dst, Nat.blt d n, IH (MW foL) e o.op) = (none, some d, true, some v)) (hS : S w) (k : SxO prog ops Q t S n f (listed.setIfInBounds i true) ((d, v) :: e) w) (hs : Region.noSelect ops = true := by kernel_rfl) (hQ : ∀ c (a : Act) t v w, Q (.panic c) (a.put t v) w → Q (.panic c) a w := by exact fun c a t v w h => by cases t <;> exact h) (hwait : GL ops h t = true := by kernel_rfl) (hih : Nat.blt i h = true := by exact rfl) (hf : Region.free .any ops listed i = true := by kernel_rfl) (hr : (Region.ready .any ops listed).contains i = true := by kernel_rfl) : SxO prog ops Q t S n (f + 1) listed e w := by
 simp only [Prod.mk.injEq] at hd
 exact ZG i h hs hQ hwait hih hf hr ho (wn_none hd.1) hd.2.1 hd.2.2.1 hS (fun _ _ => yp hd.2.2.2) k
theorem sa {P : Program} {ops : Array Oper} {q : Act → Prop} {n : Nat} {e : Env} {w : World} {o : Oper} {rest : List Oper} {d : Nat} {v : Value} (h : (o.guard, o.dst, Nat.blt d n) = (none, some d, true)) (hy : Y P e o w v) (k : SxS P ops w q n rest ((d, v) :: e)) : SxS P ops w q n (o :: rest) e := by
 simp only [Prod.mk.injEq] at h
 exact VV (wn_none h.1) h.2.1 h.2.2 hy k
theorem sb {ops : Array Oper} {q : Act → Prop} {n : Nat} {e : Env} {w : World} {o : Oper} {rest : List Oper} {d : Nat} {v : Value} (h : (o.guard, o.dst, Nat.blt d n, IH (MW foL) e o.op) = (none, some d, true, some v)) (k : SxS prog ops w q n rest ((d, v) :: e)) : SxS prog ops w q n (o :: rest) e := by
 simp only [Prod.mk.injEq] at h
 exact VV (wn_none h.1) h.2.1 h.2.2.1 (yp h.2.2.2) k
theorem sd {ops : Array Oper} {q : Act → Prop} {n : Nat} {e : Env} {w : World} {o : Oper} {rest : List Oper} {d t g off : Nat} {x : Operand} {v : Value} (h : (o.guard, o.dst, Nat.blt d n, o.op) = (none, some d, true, .load t x)) (hx : (ev e x, Q3 scL t) = (some (.pointer (some ⟨g, off, none⟩)), true)) (hc : Cell w.heap g off v) (k : SxS prog ops w q n rest ((d, v) :: e)) : SxS prog ops w q n (o :: rest) e := by
 simp only [Prod.mk.injEq] at h hx
 exact VV (wn_none h.1) h.2.1 h.2.2.1 (B9 h.2.2.2 hx.1 (sc hx.2) hc) k
theorem ol {ops : Array Oper} {Q : Exit → Act → World → Prop} {S : World → Prop} {t n f : Nat} {listed : Array Bool} {e : Env} {w : World} {o : Oper} {d t1 g off : Nat} {x : Operand} {v : Value} (i h : Nat) (ho : ops[i]? = some o) (hd : (o.guard, o.dst, Nat.blt d n, o.op) = (none, some d, true, .load t1 x)) (hx : (ev e x, Q3 scL t1) = (some (.pointer (some ⟨g, off, none⟩)), true)) (hS : S w) (hy : ∀ w', S w' → Cell w'.heap g off v) (k : SxO prog ops Q t S n f (listed.setIfInBounds i true) ((d, v) :: e) w) (hs : Region.noSelect ops = true := by kernel_rfl) (hQ : ∀ c (a : Act) t v w, Q (.panic c) (a.put t v) w → Q (.panic c) a w := by exact fun c a t v w h => by cases t <;> exact h) (hwait : GL ops h t = true := by kernel_rfl) (hih : Nat.blt i h = true := by exact rfl) (hf : Region.free .any ops listed i = true := by kernel_rfl) (hr : (Region.ready .any ops listed).contains i = true := by kernel_rfl) : SxO prog ops Q t S n (f + 1) listed e w := by
 simp only [Prod.mk.injEq] at hd hx
 exact ZG i h hs hQ hwait hih hf hr ho (wn_none hd.1) hd.2.1 hd.2.2.1 hS (fun w' hw' => B9 hd.2.2.2 hx.1 (sc hx.2) (hy w' hw')) k
theorem sl {t el sz : Nat} (h : dQ slL t = some (el, sz)) : CZ prog t = some (el, sz) := by
 have := List.all_eq_true.1 qQ _ (WX _ h); simpa using this
theorem ar {t n el sz : Nat} (h : kB arL t = some (n, el, sz)) : M7 prog t = some (n, el, sz) := by
 have := List.all_eq_true.1 sE _ (WW _ h); simpa using this
section
variable {P : Program} {Q : Exit → Act → World → Prop} {n f t : Nat} {e : Env} {w w0 : World} {S : World → Prop} {U : Nat → Prop} {L : List As} {ops : Array Oper} {o : Oper} {rest : List Oper} {listed : Array Bool} {x y : Operand} {g d ty m tb : Nat} {cs new xs zs : List Value} {v : Value} {k : IntKind} {a b : Int}
inductive Kp (e : Env) : List Nat → Env → Env → Prop
 | nil {r : Env} : Kp e [] r r
 | cons {k : Nat} {v : Value} {ks : List Nat} {r r' : Env} (h : e.get k = some v) (t : Kp e ks ((k, v) :: r) r') : Kp e (k :: ks) r r'
theorem flp {c : Code} (ks : List Nat) {z : Env} (I : Env → Env → World → Nat → Prop) {m0 : Nat} {e0 : Env} (h0 : I z e0 w m0) (k : ∀ e w m, I z e w m → Sx P c (Exit.then (Again (I z) n m) Q) n e w) (hk : Kp e ks [] z := by repeat (first | exact Kp.nil | (apply Kp.cons; exact rfl))) (hl : e0.le e := by repeat (first | exact trivial | refine ⟨rfl, ?_⟩)) : Sx P (Code.loop c) Q n e w := let _ := hk; sx_loop (I z) h0 hl k
theorem MX {c : Code} (M : Mem w0 U L w) (ks : List Nat) {z : Env} (I : Env → (World → Prop) → Env → World → Nat → Prop) {m0 : Nat} {e0 : Env} (h0 : I z (Mem w0 U L) e0 w m0) (k : ∀ e w m, I z (Mem w0 U L) e w m → Sx P c (Exit.then (Again (I z (Mem w0 U L)) n m) Q) n e w) (hk : Kp e ks [] z := by repeat (first | exact Kp.nil | (apply Kp.cons; exact rfl))) (hl : e0.le e := by repeat (first | exact trivial | refine ⟨rfl, ?_⟩)) : Sx P (Code.loop c) Q n e w := let _ := hk; let _ := M; sx_loop (I z (Mem w0 U L)) h0 hl k
theorem fag {I : Env → World → Nat → Prop} {m : Nat} {r : Env} {m' : Nat} (hI : I r w m') (hm : m' < m := by first | omega | (simp <;> omega)) (hl : r.le e := by repeat (first | exact trivial | refine ⟨rfl, ?_⟩)) : QX (Exit.then (Again I n m) Q) .normal n e w := qx_again r m' hI hm hl
theorem fvm {l : List Oper} (M : Mem w0 U L w) (cut : Nat) (ks : List Nat) (nw : Env) {r : Env} (h : ∀ w', Mem w0 U L w' → SxL P ops Q n (l.drop cut) r w') (k : (∀ {e' w'}, Mem w0 U L w' → (hl : r.le e' := by repeat (first | exact trivial | refine ⟨rfl, ?_⟩)) → SxL P ops Q n (l.drop cut) e' w') → SxL P ops Q n l e w) (hk : Kp e ks nw r := by repeat (first | exact Kp.nil | (apply Kp.cons; exact rfl))) : SxL P ops Q n l e w := let _ := M; let _ := hk; K3 cut r (Mem w0 U L) h fun k' => k fun {_ _} h1 h2 => k' _ _ h1 h2
theorem fvs {q : Act → Prop} {l : List Oper} (cut : Nat) (ks : List Nat) (nw : Env) {r : Env} (h : SxS P ops w q n (l.drop cut) r) (k : (∀ e', r.le e' → SxS P ops w q n (l.drop cut) e') → SxS P ops w q n l e) (hk : Kp e ks nw r := by repeat (first | exact Kp.nil | (apply Kp.cons; exact rfl))) : SxS P ops w q n l e := let _ := hk; mR cut r h k
theorem fon {t1 : Nat} (M : Mem w0 U L w) (i d : Nat) (ho : ops[i]? = some o) (hd : (o.guard, o.dst, Nat.blt d n, o.op) = (none, some d, true, .alloc t1)) (hz : (P.info? t1).map (·.zero) = some (some (.agg zs.toArray))) (k : ∀ g w', w.heap.size ≤ g → Mem w0 U (As.blk g t1 zs :: L) w' → SxO P ops Q t S n f (listed.setIfInBounds i true) ((d, .pointer (some ⟨g, 0, none⟩)) :: e) w') (hr : Region.ready .any ops listed = [i] := by kernel_rfl) (hS : ∀ w', Mem w0 U L w' → S w' := by exact fun _ h => h) : SxO P ops Q t S n (f + 1) listed e w := by
 simp only [Prod.mk.injEq] at hd
 refine AR i (some d) hr ho (wn_none hd.1) hd.2.1 hd.2.2.1 (fun ρ hρ => BW t1 hd.2.2.2 _ zs hz rfl) ?_
 rintro _ w1 ⟨g, rfl, h1, h2, hb, hf⟩
 exact ⟨fun _ => hS _ (M.step hf), k g w1 h1 (M.push hf _ hb (DF h1 h2))⟩
theorem fop (M : Mem w0 U L w) (i j : Nat) (ho : ops[i]? = some o) (hd : (o.guard, o.dst, o.op) = (none, none, .store ty x y)) (hx : (ev e x, ev e y, L[j]?) = (some (.pointer (some ⟨g, 0, none⟩)), some (.agg new.toArray), some (As.blk g tb cs))) (hi : (P.info? ty).map (·.size) = some m) (hm : (new.length, cs.length, YD new) = (m, m, true)) (hS : ∀ {w'}, Mem w0 U (L.set j (As.blk g tb new)) w' → S w') (k : ∀ w', Mem w0 U (L.set j (As.blk g tb new)) w' → SxO P ops Q t S n f (listed.setIfInBounds i true) e w') (hr : Region.ready .any ops listed = [i] := by kernel_rfl) : SxO P ops Q t S n (f + 1) listed e w := by
 simp only [Prod.mk.injEq] at hd hx hm
 obtain ⟨hm1, hm2, h1⟩ := hm
 subst hm1
 refine AR i none hr ho (wn_none hd.1) hd.2.1 rfl (fun ρ hρ => BH ty x y hd.2.2 g 0 tb cs new (hρ _ _ hx.1) (hρ _ _ hx.2.1) (M.blk j hx.2.2) hi (by omega) (BG h1)) ?_
 rintro _ w1 ⟨rfl, hb, hf⟩
 rw [FR _ _ hm2.symm] at hb
 have M' := M.putB j hx.2.2 hb hf
 exact ⟨fun _ => hS M', k w1 M'⟩
theorem fo1 (i : Nat) (ho : ops[i]? = some o) (hd : (o.guard, o.dst, Nat.blt d n) = (none, some d, true)) (hy : Y P e o w v) (k : SxO P ops Q t S n f (listed.setIfInBounds i true) ((d, v) :: e) w) (hr : Region.ready .any ops listed = [i] := by kernel_rfl) (hS : i < t → S w := by exact fun h => absurd h (by decide)) : SxO P ops Q t S n (f + 1) listed e w := by
 simp only [Prod.mk.injEq] at hd
 exact AR i (some d) hr ho (wn_none hd.1) hd.2.1 hd.2.2 (R := fun u w' => u = v ∧ w' = w) (fun ρ hρ => ⟨v, w, .inl (hy ρ hρ), rfl, rfl⟩) fun u w' ⟨h1, h2⟩ => by subst h1; subst h2; exact ⟨hS, k⟩
theorem fdn (k : QX Q .normal n e w) (hr : Region.ready .any ops listed = [] := by kernel_rfl) : SxO P ops Q t S n f listed e w := ID hr k
theorem DO {c : TypeDesc} (M : Mem w0 U L w) (j : Nat) (h : (o.guard, o.dst, Nat.blt d n, o.op) = (none, some d, true, .load ty x)) (hx : (ev e x, L[j]?) = (some (.pointer (some ⟨g, 0, none⟩)), some (As.blk g tb xs))) (hu : P.underlying ty = some c) (hi : (P.info? ty).map (·.size) = some m) (hr : (c.isRow, xs.length) = (true, m)) (k : SxL P ops Q n rest ((d, .agg xs.toArray) :: e) w) : SxL P ops Q n (o :: rest) e w := by
 simp only [Prod.mk.injEq] at h hx hr
 exact sxl_y (wn_none h.1) h.2.1 h.2.2.1 (AH h.2.2.2 hx.1 (M.rdBlk j hx.2 hr.2) hu hr.1 hi) k
theorem C2 (M : Mem w0 U L w) (j : Nat) (hd : (o.guard, o.dst, o.op) = (none, none, .store ty x y)) (hx : (ev e x, ev e y, L[j]?) = (some (.pointer (some ⟨g, 0, none⟩)), some (.agg new.toArray), some (As.blk g tb cs))) (hi : (P.info? ty).map (·.size) = some m) (hm : (new.length, cs.length, YD new) = (m, m, true)) (k : ∀ w', Mem w0 U (L.set j (As.blk g tb new)) w' → SxL P ops Q n rest e w') : SxL P ops Q n (o :: rest) e w := by
 simp only [Prod.mk.injEq] at hd hx hm
 obtain ⟨hm1, hm2, h1⟩ := hm
 exact GN M j (wn_none hd.1) hd.2.1 hd.2.2 hx.1 hx.2.1 hx.2.2 hi hm1 (by omega) (BG h1) (FR _ _ (by omega)) k
theorem gp1 {off : Nat} (M : Mem w0 U L w) (j : Nat) (hd : (o.guard, o.dst, o.op) = (none, none, .store ty x y)) (hx : (ev e x, ev e y, L[j]?) = (some (.pointer (some ⟨g, off, none⟩)), some v, some (As.blk g tb cs))) (hv : (v.cells, v.oneCell', Nat.blt off cs.length) = (#[v], true, true)) (hi : (P.info? ty).map (·.size) = some 1) (k : ∀ w', Mem w0 U (L.set j (As.blk g tb (cs.set off v))) w' → SxL P ops Q n rest e w') : SxL P ops Q n (o :: rest) e w := by
 simp only [Prod.mk.injEq] at hd hx hv
 exact CF M j (wn_none hd.1) hd.2.1 hd.2.2 hx.1 hx.2.1 hx.2.2 hv.1 hv.2.1 hi (BR hv.2.2) rfl k
theorem DD (M : Mem w0 U L w) (h : (o.guard, o.dst, Nat.blt d n, o.op) = (none, some d, true, .box ty x)) (hx : ev e x = some (.agg cs.toArray)) (k : ∀ g w', w.heap.size ≤ g → Mem w0 U (As.blk g ty cs :: L) w' → SxL P ops Q n rest ((d, .pointer (some ⟨g, 0, none⟩)) :: e) w') : SxL P ops Q n (o :: rest) e w := by
 simp only [Prod.mk.injEq] at h
 exact DB M (wn_none h.1) h.2.1 h.2.2.1 ty h.2.2.2 hx cs rfl k
theorem CO (M : Mem w0 U L w) (h : (o.guard, o.dst, Nat.blt d n, o.op) = (none, some d, true, .alloc ty)) (hz : (P.info? ty).map (·.zero) = some (some (.agg zs.toArray))) (k : ∀ g w', w.heap.size ≤ g → Mem w0 U (As.blk g ty zs :: L) w' → SxL P ops Q n rest ((d, .pointer (some ⟨g, 0, none⟩)) :: e) w') : SxL P ops Q n (o :: rest) e w := by
 simp only [Prod.mk.injEq] at h
 exact E4 M (wn_none h.1) h.2.1 h.2.2.1 ty h.2.2.2 zs hz rfl k
theorem DV {F : FuncId} {xs : List Operand} {vs : List Value} {ts : Array TypeId} (M : Mem w0 U L w) (d : Nat) (h : (o.guard, o.dst, IO n (some d), o.op) = (none, some d, true, .call { callee := .value (.func F), args := xs.toArray, argTypes := ts })) (hx : evs e xs = some vs) (hc : ∀ (us : Array Value) (w : World), (callFunc F us).run P w = .ok (.enter F us) w) (hC : Calls P F vs.toArray w fun x w' => x = .returned v ∧ Fr0 w w') (k : ∀ w', Mem w0 U L w' → SxL P ops Q n rest ((d, v) :: e) w') : SxL P ops Q n (o :: rest) e w := by
 simp only [Prod.mk.injEq] at h
 exact MC M d (by simp only [h.1, h.2.1, h.2.2.1]) (AE h.2.2.2 hx hc) hC k
theorem tT {F : FuncId} {xs : List Operand} {vs : List Value} {ts : Array TypeId} {R : Ending → World → Prop} (d : Nat) (h : (o.guard, o.dst, IO n (some d), o.op) = (none, some d, true, .call { callee := .value (.func F), args := xs.toArray, argTypes := ts })) (hx : evs e xs = some vs) (hc : ∀ (us : Array Value) (w : World), (callFunc F us).run P w = .ok (.enter F us) w) (hC : Calls P F vs.toArray w R) (k : ∀ x w', R x w' → ∃ v, x = .returned v ∧ SxL P ops Q n rest (e.ins (some d) v) w') : SxL P ops Q n (o :: rest) e w := by
 simp only [Prod.mk.injEq] at h
 exact sxl_call (some d) (wn_none h.1) h.2.1 h.2.2.1 (AE h.2.2.2 hx hc) hC k
theorem BM {t t' : Nat} (h : (o.guard, o.dst, Nat.blt d n, o.op) = (none, some d, true, .binOp .lss t x y t')) (hx : (ev e x, ev e y) = (some (.int k a), some (.int k b))) (q : SxL P ops Q n rest ((d, .bool (decide (a < b))) :: e) w) : SxL P ops Q n (o :: rest) e w := by
 simp only [Prod.mk.injEq] at h hx
 exact sxl_y (wn_none h.1) h.2.1 h.2.2.1 (EQ h.2.2.2 hx.1 hx.2) q
theorem PR {t t' : Nat} (h : (o.guard, o.dst, Nat.blt d n, o.op) = (none, some d, true, .binOp .leq t x y t')) (hx : (ev e x, ev e y) = (some (.int k a), some (.int k b))) (q : SxL P ops Q n rest ((d, .bool (decide (a ≤ b))) :: e) w) : SxL P ops Q n (o :: rest) e w := by
 simp only [Prod.mk.injEq] at h hx
 exact sxl_y (wn_none h.1) h.2.1 h.2.2.1 (G8 h.2.2.2 hx.1 hx.2) q
theorem O8 {t t' : Nat} (h : (o.guard, o.dst, Nat.blt d n, o.op) = (none, some d, true, .binOp .gtr t x y t')) (hx : (ev e x, ev e y) = (some (.int k a), some (.int k b))) (q : SxL P ops Q n rest ((d, .bool (decide (b < a))) :: e) w) : SxL P ops Q n (o :: rest) e w := by
 simp only [Prod.mk.injEq] at h hx
 exact sxl_y (wn_none h.1) h.2.1 h.2.2.1 (G9 h.2.2.2 hx.1 hx.2) q
theorem J2 {t t' : Nat} (h : (o.guard, o.dst, Nat.blt d n, o.op) = (none, some d, true, .binOp .geq t x y t')) (hx : (ev e x, ev e y) = (some (.int k a), some (.int k b))) (q : SxL P ops Q n rest ((d, .bool (decide (b ≤ a))) :: e) w) : SxL P ops Q n (o :: rest) e w := by
 simp only [Prod.mk.injEq] at h hx
 exact sxl_y (wn_none h.1) h.2.1 h.2.2.1 (GK h.2.2.2 hx.1 hx.2) q
theorem C7 {t t' : Nat} (h : (o.guard, o.dst, Nat.blt d n, o.op) = (none, some d, true, .binOp .eql t x y t')) (hx : (ev e x, ev e y) = (some (.int k a), some (.int k b))) (q : SxL P ops Q n rest ((d, .bool (decide (a = b))) :: e) w) : SxL P ops Q n (o :: rest) e w := by
 simp only [Prod.mk.injEq] at h hx
 exact sxl_y (wn_none h.1) h.2.1 h.2.2.1 (BO h.2.2.2 hx.1 hx.2) q
theorem FT {t t' : Nat} (h : (o.guard, o.dst, Nat.blt d n, o.op) = (none, some d, true, .binOp .neq t x y t')) (hx : (ev e x, ev e y) = (some (.int k a), some (.int k b))) (q : SxL P ops Q n rest ((d, .bool (!decide (a = b))) :: e) w) : SxL P ops Q n (o :: rest) e w := by
 simp only [Prod.mk.injEq] at h hx
 exact sxl_y (wn_none h.1) h.2.1 h.2.2.1 (E1 h.2.2.2 hx.1 hx.2) q
theorem gyq {j d' : Nat} {b : Bool} (h : (o.guard, (ops[j]?).bind (·.dst), e.get d', o.dst, Nat.blt d n, IH (MW foL) e o.op) = (some (j, b), some d', some (.bool b), some d, true, some v)) (k : SxL prog ops Q n rest ((d, v) :: e) w) : SxL prog ops Q n (o :: rest) e w := by
 simp only [Prod.mk.injEq] at h
 exact sxl_y (wn_on h.1 h.2.1 h.2.2.1) h.2.2.2.1 h.2.2.2.2.1 (yp h.2.2.2.2.2) k
theorem gsg {q : Act → Prop} {j d' : Nat} {b : Bool} (h : (o.guard, (ops[j]?).bind (·.dst), e.get d', o.dst, Nat.blt d n) = (some (j, b), some d', some (.bool b), some d, true)) (hy : Y P e o w v) (k : SxS P ops w q n rest ((d, v) :: e)) : SxS P ops w q n (o :: rest) e := by
 simp only [Prod.mk.injEq] at h
 exact VV (wn_on h.1 h.2.1 h.2.2.1) h.2.2.2.1 h.2.2.2.2 hy k
theorem B2 {off : Nat} (M : Mem w0 U L w) (i : Nat) (h : (o.guard, o.dst, Nat.blt d n, o.op) = (none, some d, true, .load ty x)) (hx : (ev e x, Q3 scL ty, L[i]?) = (some (.pointer (some ⟨g, off, none⟩)), true, some (As.blk g tb cs))) (hu : cs[off]? = some v) (k : SxL prog ops Q n rest ((d, v) :: e) w) : SxL prog ops Q n (o :: rest) e w := by
 simp only [Prod.mk.injEq] at h hx
 exact sxl_y (wn_none h.1) h.2.1 h.2.2.1 (B9 h.2.2.2 hx.1 (sc hx.2.1) (M.cell i hx.2.2 hu)) k
theorem C3 {off j d' : Nat} {b : Bool} (M : Mem w0 U L w) (i : Nat) (h : (o.guard, (ops[j]?).bind (·.dst), e.get d', o.dst, Nat.blt d n, o.op) = (some (j, b), some d', some (.bool b), some d, true, .load ty x)) (hx : (ev e x, Q3 scL ty, L[i]?) = (some (.pointer (some ⟨g, off, none⟩)), true, some (As.blk g tb cs))) (hu : cs[off]? = some v) (k : SxL prog ops Q n rest ((d, v) :: e) w) : SxL prog ops Q n (o :: rest) e w := by
 simp only [Prod.mk.injEq] at h hx
 exact sxl_y (wn_on h.1 h.2.1 h.2.2.1) h.2.2.2.1 h.2.2.2.2.1 (B9 h.2.2.2.2.2 hx.1 (sc hx.2.1) (M.cell i hx.2.2 hu)) k
theorem GZ {off : Nat} {q : Act → Prop} (M : Mem w0 U L w) (i : Nat) (h : (o.guard, o.dst, Nat.blt d n, o.op) = (none, some d, true, .load ty x)) (hx : (ev e x, Q3 scL ty, L[i]?) = (some (.pointer (some ⟨g, off, none⟩)), true, some (As.blk g tb cs))) (hu : cs[off]? = some v) (k : SxS prog ops w q n rest ((d, v) :: e)) : SxS prog ops w q n (o :: rest) e := by
 simp only [Prod.mk.injEq] at h hx
 exact VV (wn_none h.1) h.2.1 h.2.2.1 (B9 h.2.2.2 hx.1 (sc hx.2.1) (M.cell i hx.2.2 hu)) k
def r5 (ops : Array Oper) (e : Env) (i n : Nat) : Option Nat := match ops[i]? with
 | some o => match o.guard, o.dst with
  | some (j, b), some d => match (ops[j]?).bind (·.dst) with
   | some d0 => match e.get d0, Nat.blt d n with
    | some (.bool c), true => match c == b with
     | true => none
     | false => some d
    | _, _ => none
   | none => none
  | _, _ => none
 | none => none
theorem cM {i : Nat} (h : r5 ops e i n = some d) : ∃ o j b d0 c, ops[i]? = some o ∧ o.guard = some (j, b) ∧ (ops[j]?).bind (·.dst) = some d0 ∧ e.get d0 = some (.bool c) ∧ (c == b) = false ∧ o.dst = some d ∧ Nat.blt d n = true := by
 unfold r5 at h
 split at h
 ·rename_i o ho
  split at h
  ·rename_i j b d1 hg hd
   split at h
   ·rename_i d0 h0
    split at h
    ·rename_i c hc hn
     split at h
     ·cases h
     ·rename_i hcb
      obtain rfl : d1 = d := Option.some.inj h
      exact ⟨o, j, b, d0, c, ho, hg, h0, hc, hcb, hd, hn⟩
    ·cases h
   ·cases h
  ·cases h
 ·cases h
theorem B5 (i h : Nat) (hd : r5 ops e i n = some d) (hS : S w) (k : SxO P ops Q t S n f (listed.setIfInBounds i true) ((d, undef) :: e) w) (hs : Region.noSelect ops = true := by kernel_rfl) (hQ : ∀ c (a : Act) t v w, Q (.panic c) (a.put t v) w → Q (.panic c) a w := by exact fun c a t v w h => by cases t <;> exact h) (hwait : GL ops h t = true := by kernel_rfl) (hih : Nat.blt i h = true := by exact rfl) (hf : Region.free .any ops listed i = true := by kernel_rfl) (hr : (Region.ready .any ops listed).contains i = true := by kernel_rfl) : SxO P ops Q t S n (f + 1) listed e w := by
 obtain ⟨o, j, b, d0, c, ho, hg, h0, hc, hcb, hd, hn⟩ := cM hd
 exact ZH i h hs hQ hwait hih hf hr ho hg h0 hc hcb hd hn hS k
theorem fW {o : Oper} {d d0 j : Nat} {b : Bool} (i h : Nat) (hs : Region.noSelect ops = true) (hQ : ∀ c (a : Act) t v w, Q (.panic c) (a.put t v) w → Q (.panic c) a w) (hwait : GL ops h t = true) (hih : Nat.blt i h = true) (hf : Region.free .any ops listed i = true) (hr : (Region.ready .any ops listed).contains i = true) (ho : ops[i]? = some o) (hg : o.guard = some (j, b)) (hj : (ops[j]?).bind (·.dst) = some d0) (hb : e.get d0 = some undef) (hd : o.dst = some d) (hn : Nat.blt d n = true) (hS : S w)
 (k : SxO P ops Q t S n f (listed.setIfInBounds i true) ((d, undef) :: e) w) : SxO P ops Q t S n (f + 1) listed e w := ⟨fun a ha => by
 have hw : Region.wanted o (yielded ops a.tmps) = false := by
  simp [Region.wanted, hg, yielded, hj, ha.get d0 _ hb, undef]
 refine JZ (v := undef) ho (Region.noSelect_spec hs) (fun c a w => hQ c a _ _ w) hwait (BR hih) f listed a w (Region.free_spec ho hf) (by simpa using hr) (.inr ⟨hw, rfl⟩) hS ?_
 rw [hd]; exact k.run _ (ha.put (BR hn) undef)⟩
theorem DU {d0 j : Nat} {b : Bool} (i h : Nat) (ho : ops[i]? = some o) (hd : (o.guard, (ops[j]?).bind (·.dst), e.get d0, o.dst, Nat.blt d n) = (some (j, b), some d0, some undef, some d, true)) (hS : S w) (k : SxO P ops Q t S n f (listed.setIfInBounds i true) ((d, undef) :: e) w) (hs : Region.noSelect ops = true := by kernel_rfl) (hQ : ∀ c (a : Act) t v w, Q (.panic c) (a.put t v) w → Q (.panic c) a w := by exact fun c a t v w h => by cases t <;> exact h) (hwait : GL ops h t = true := by kernel_rfl) (hih : Nat.blt i h = true := by exact rfl) (hf : Region.free .any ops listed i = true := by kernel_rfl) (hr : (Region.ready .any ops listed).contains i = true := by kernel_rfl) : SxO P ops Q t S n (f + 1) listed e w := by
 simp only [Prod.mk.injEq] at hd
 exact fW i h hs hQ hwait hih hf hr ho hd.1 hd.2.1 hd.2.2.1 hd.2.2.2.1 hd.2.2.2.2 hS k
theorem BL {F : FuncId} {fn : Func} {c : Code} {vs : List Value} {R : Ending → World → Prop} (hf : P.funcs[F]? = some fn) (hn : fn.ntmps = n) (hb : (fn.body, Nat.ble vs.length n) = (some c, true)) (h : Mem w AM [] w → Sx P c (bodyPost P fn R) n (N8 0 vs) w) : Calls P F vs.toArray w R := by
 simp only [Prod.mk.injEq] at hb
 exact sx_enter hf hb.1 hn hb.2 (h (Mem.nil w))
theorem gr1 {fn : Func} {R : Ending → World → Prop} {t : Nat} (hr : (fn.results, e.get t) = (#[.tmp t], some v)) (h : R (.returned v) w) : QX (bodyPost P fn R) .ret n e w := by
 simp only [Prod.mk.injEq] at hr
 exact qx_ret1 hr.1 hr.2 h
theorem gnr (h : QX Q .ret n e w) {Q' : Exit → Act → World → Prop} : SxL P ops (Exit.then (Code.ret.wp P Q) Q') n [] e w := sxl_nil (qx_seq (sx_ret h))
theorem I6 {id : Nat} {l : List Oper} (M : Mem w0 U L w) (t : Nat) (hm : P.follows .mixedOrders = true) (k : Mem w0 U L w.drew → SxO P l.toArray Q t (fun w' => Mem w0 U L w') n l.length (Array.replicate l.length false) e w.drew) : Sx P (Code.region id l.toArray true) Q n e w := EG t _ hm (k M.drew)
theorem DP {c el sz : Nat} {A : Option Addr} (h : (o.guard, o.dst, Nat.blt d n, o.op) = (none, some d, true, .call { callee := .builtin .len, args := #[x], argTypes := #[ty] })) (hx : (ev e x, dQ slL ty) = (some (.slice A m c), some (el, sz))) (q : SxL prog ops Q n rest ((d, .int .i64 (m : Int)) :: e) w) : SxL prog ops Q n (o :: rest) e w := by
 simp only [Prod.mk.injEq] at h hx
 exact sxl_y (wn_none h.1) h.2.1 h.2.2.1 (F5 h.2.2.2 hx.1 (sl hx.2)) q
theorem C1 {t' : Nat} (h : (o.guard, o.dst, Nat.blt d n, o.op) = (none, some d, true, .binOp .add t x y t')) (hx : (ev e x, ev e y) = (some (.int .i64 a), some (.int .i64 b))) (q : SxL P ops Q n rest ((d, .int .i64 (a + b)) :: e) w) (hb : -9223372036854775808 ≤ a + b ∧ a + b ≤ 9223372036854775807 := by omega) : SxL P ops Q n (o :: rest) e w := by
 simp only [Prod.mk.injEq] at h hx
 exact sxl_y (wn_none h.1) h.2.1 h.2.2.1 (GD h.2.2.2 hx.1 hx.2 hb) q
theorem AS {α : Type} {b : Bool} {x y : α} (h : b = false) : (if b = true then x else y) = y := if_neg (sV h)
theorem AG {y : Code} {Q' : Exit → Act → World → Prop} (h : (o.guard, o.dst, Nat.blt d n, IH (MW foL) e o.op) = (none, some d, true, some v)) (k : Sx prog y Q n ((d, v) :: e) w) : SxL prog ops (Exit.then (y.wp prog Q) Q') n [o] e w := yb h (nq k)
theorem AC {id : Nat} {y : Code} (h : (o.guard, o.dst, Nat.blt d n, IH (MW foL) e o.op) = (none, some d, true, some v)) (k : SxL prog (o :: rest).toArray (Exit.then (y.wp prog Q) Q) n rest ((d, v) :: e) w) : Sx prog (Code.seq (Code.region id (o :: rest).toArray false) y) Q n e w := srg (yb h k)
theorem AV {o' : Oper} {d' : Nat} {v' : Value} (h : (o.guard, o.dst, Nat.blt d n, IH (MW foL) e o.op) = (none, some d, true, some v)) (h' : (o'.guard, o'.dst, Nat.blt d' n, IH (MW foL) ((d, v) :: e) o'.op) = (none, some d', true, some v')) (k : SxL prog ops Q n rest ((d', v') :: (d, v) :: e) w) : SxL prog ops Q n (o :: o' :: rest) e w := yb h (yb h' k)
theorem EF {id : Nat} {l : List Oper} {y : Code} {Q' : Exit → Act → World → Prop} (h : SxL P l.toArray (Exit.then (y.wp P Q) Q) n l e w) : SxL P ops (Exit.then ((Code.seq (Code.region id l.toArray false) y).wp P Q) Q') n [] e w := nq (srg h)
theorem A0 {p : Prop} (h : p := by omega) : p := h
theorem CX {p : Prop} (h : p := by first | omega | (simp; omega) | (simp <;> omega)) : p := h
theorem gkr {p : Prop} (h : p := by kernel_rfl) : p := h
theorem AU {p : Prop} (h : p := by decide) : p := h
end
end
end Go.Proofs.YtaheakjfkpkefaaGreatDoor
