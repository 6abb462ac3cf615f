/- Lemmas that the last text rests on. Condition: each says its own. -/
import Derived.Test.YtjaocmocdhckaaaGreatDoorZb1
import Derived.Lib.LaidTab
import Derived.ChangeSame
import Derived.Test.YtjaocmocdhckaaaGreatDoorProg
import Derived.Stop.LaidErr
import Derived.MakeChecks
import GoSem.PinnedTables
import Derived.Lib.ValidLaws
set_option maxHeartbeats 16000000
set_option maxRecDepth 100000
namespace Go.Proofs.YtjaocmocdhckaaaGreatDoor
open Go.RowKit
section
def AH {α : Type} (cells : α → List Value) (l : List α) : List Value := (l.map cells).flatten
theorem J3 {α : Type} {cells : α → List Value} {k : Nat} (hk : ∀ x, (cells x).length = k) (l : List α) : (AH cells l).length = l.length * k := by
 unfold AH
 rw [MC (m := k) (fun r hr => by obtain ⟨x, _, rfl⟩ := List.mem_map.1 hr; exact hk x)]
 simp
theorem jE {α : Type} {cells : α → List Value} {k : Nat} (hk : ∀ x, (cells x).length = k) {l : List α} {i j : Nat} {x : α} {u : Value} (hx : l[i]? = some x) (hj : (cells x)[j]? = some u) : (AH cells l)[i * k + j]? = some u := by
 have h1 := ZZ (m := k) (l := l.map cells) (fun r hr => by obtain ⟨x, _, rfl⟩ := List.mem_map.1 hr; exact hk x) (i := i) (x := cells x) (by rw [List.getElem?_map, hx]; rfl)
 have hjk : j < k := by have := (List.getElem?_eq_some_iff.1 hj).1; rw [hk] at this; exact this
 have h2 : (((l.map cells).flatten.drop (i * k)).take k)[j]? = (cells x)[j]? := congrArg (·[j]?) h1
 rw [List.getElem?_take_of_lt hjk, List.getElem?_drop, hj] at h2
 exact h2
theorem C1 {α : Type} (cells : α → List Value) (a b : List α) : AH cells (a ++ b) = AH cells a ++ AH cells b := by simp [AH]
theorem BI {w : World} {α : Type} {cells : α → List Value} {A : Option Addr} {k : Nat} (hk0 : 0 < k) {l : List α} {i : Nat} {x : α} (h : Rd w A (l.length * k) (AH cells l)) (hx : l[i]? = some x) : ∃ b off, A = some ⟨b, off, none⟩ := by
 have hi := (List.getElem?_eq_some_iff.1 hx).1
 obtain ⟨b, off, e, _⟩ := h.2 (Nat.mul_pos (by omega) hk0)
 exact ⟨b, off, e⟩
theorem DQ {w : World} {α : Type} {cells : α → List Value} {A : Option Addr} {k : Nat} (hk : ∀ x, (cells x).length = k) {l : List α} {i : Nat} {x : α} (h : Rd w A (l.length * k) (AH cells l)) {b off : Nat} (hA : A = some ⟨b, off, none⟩) (hx : l[i]? = some x) (j : Nat) {u : Value} (hj : (cells x)[j]? = some u) : Cell w.heap b (off + i * k + j) u := by
 have h1 := jE hk hx hj
 have hlt := (List.getElem?_eq_some_iff.1 h1).1
 rw [h.1] at hlt
 obtain ⟨b', off', e, hc⟩ := h.2 (by omega)
 rw [hA] at e; injection e with e; injection e with e1 e2 _; subst e1; subst e2
 rw [Nat.add_assoc]
 exact Cell.of (hc _ u h1)
theorem BV {w : World} {α : Type} {cells : α → List Value} {A : Option Addr} {k : Nat} (hk : ∀ x, (cells x).length = k) {l : List α} {i : Nat} {x : α} (h : Rd w A (l.length * k) (AH cells l)) {b off : Nat} (hA : A = some ⟨b, off, none⟩) (hx : l[i]? = some x) : Rd w (some ⟨b, off + i * k, none⟩) k (cells x) :=
 ⟨hk x, fun _ => ⟨b, off + i * k, rfl, fun j _ hu => (DQ hk h hA hx j hu).get w rfl⟩⟩
theorem CC {α : Type} {l : List α} {i : Nat} (h : i < l.length) : ∃ x, l[i]? = some x := ⟨_, List.getElem?_eq_getElem h⟩
theorem B7 {α : Type} {l : List α} {i : Nat} {x : α} (hx : l[i]? = some x) : l.drop i = x :: l.drop (i + 1) := by
 have hlt := (List.getElem?_eq_some_iff.1 hx).1
 rw [List.drop_eq_getElem_cons hlt]
 congr 1
 rw [List.getElem?_eq_getElem hlt] at hx
 exact Option.some.inj hx
theorem B4 {α : Type} {l : List α} {i : Nat} {x : α} (hx : l[i]? = some x) : l.take (i + 1) = l.take i ++ [x] := by
 rw [List.take_add_one, hx]; rfl
def BY (s : List UInt8) : List Value := [str s]
def NQ (i : Int) : List Value := [.int .i64 i]
theorem E0 (s : List UInt8) : (BY s).length = 1 := rfl
theorem WN (s : Int) : (NQ s).length = 1 := rfl
theorem I2 {b : Bool} (h : b = false) : ¬ (b = true) := by rw [h]; decide
theorem CK {b : Bool} (h : (!b) = true) : b = false := by cases b <;> simp_all
theorem BQ {b : Bool} (h : (!b) = false) : b = true := by cases b <;> simp_all
theorem CL {a b : Bool} (h : (a && b) = true) : a = true ∧ b = true := by cases a <;> cases b <;> simp_all
theorem DT {a b : Bool} (h : (a && b) = false) : a = false ∨ b = false := by cases a <;> cases b <;> simp_all
theorem EO {a b : Bool} (h : (a || b) = true) : a = true ∨ b = true := by cases a <;> cases b <;> simp_all
theorem CP {a b : Bool} (h : (a || b) = false) : a = false ∧ b = false := by cases a <;> cases b <;> simp_all
theorem HP (s : List UInt8) : ∀ u ∈ BY s, u.oneCell' = true := by intro u hu; simp only [BY, List.mem_singleton] at hu; subst hu; rfl
theorem EJ {α : Type} {cells : α → List Value} (h : ∀ x, ∀ u ∈ cells x, u.oneCell' = true) {l : List α} : ∀ u ∈ AH cells l, u.oneCell' = true := by
 intro u hu
 obtain ⟨r, hr, hu⟩ := List.mem_flatten.1 hu
 obtain ⟨x, _, rfl⟩ := List.mem_map.1 hr
 exact h x u hu
theorem BS {a b : Nat} (h : Nat.ble a b = true) : a ≤ b := Nat.le_of_ble_eq_true h
theorem UJ {w : World} {α : Type} {cells : α → List Value} {A : Option Addr} {k : Nat} (hk : ∀ x, (cells x).length = k) {l : List α} {i : Nat} {x : α} (h : Rd w A (l.length * k) (AH cells l)) {b off : Nat} (hA : A = some ⟨b, off, none⟩) (hx : l[i]? = some x) (j m : Nat) {ys : List Value} (hys : ((cells x).drop j).take m = ys) (hm : ys.length = m) : Rd w (some ⟨b, off + i * k + j, none⟩) m ys :=
 ⟨hm, fun _ => ⟨b, off + i * k + j, rfl, fun q u hu => by
  subst hys
  have hq : q < m := by have := (List.getElem?_eq_some_iff.1 hu).1; omega
  rw [List.getElem?_take_of_lt hq, List.getElem?_drop] at hu
  rw [Nat.add_assoc]
  exact (DQ hk h hA hx (j + q) hu).get w rfl⟩⟩
theorem FS {w : World} {g : Nat} {t : TypeId} {cs : List Value} (h : Blk w g t cs) (off m : Nat) {ys : List Value} (hys : (cs.drop off).take m = ys) (hm : ys.length = m) : Rd w (some ⟨g, off, none⟩) m ys :=
 ⟨hm, fun _ => ⟨g, off, rfl, fun q u hu => by
  subst hys
  have hq : q < m := by have := (List.getElem?_eq_some_iff.1 hu).1; omega
  rw [List.getElem?_take_of_lt hq, List.getElem?_drop] at hu
  exact (h.cell (off + q)).trans hu⟩⟩
def YB (l : List Value) : Bool := l.all (·.oneCell')
theorem BP {l : List Value} (h : YB l = true) : ∀ u ∈ l, u.oneCell' = true := fun u hu => List.all_eq_true.1 h u hu
theorem NN {w : World} {base size n : Nat} {e : TypeId} {v : Value} {xs : List Value} (h : w.ownsRow base e size v n xs) : ∀ g ∈ v.ownBlock.toList, base ≤ g ∧ g < w.heap.size := fun g hg => by
 obtain ⟨h1, h2⟩ := h.lt g (by simpa using hg)
 exact ⟨h1, h2⟩
theorem E8 {w : World} {base size : Nat} {e : TypeId} {v : Value} {n : Nat} {xs : List Value} (h : w.ownsRow base e size v n xs) : ∃ A cap, v = .slice A n cap ∧ n ≤ cap := by
 rcases h.2 with ⟨rfl, h0⟩ | ⟨g, cap, cur, rfl, hb, hg, hc, hm, hs, ht⟩
 ·subst h0; exact ⟨none, 0, rfl, Nat.le_refl _⟩
 ·exact ⟨some ⟨g, 0, none⟩, cap, rfl, hc⟩
theorem NM {w : World} {base size : Nat} {e : TypeId} {A : Option Addr} {c n : Nat} {xs : List Value} (h : w.ownsRow base e size (.slice A n c) n xs) : Rd w A (n * size) xs := by
 refine ⟨h.1, fun hn => ?_⟩
 rcases h.2 with ⟨hv, h0⟩ | ⟨g, cap, cur, hv, _⟩
 ·subst h0; omega
 ·injection hv with hA
  subst hA
  refine ⟨g, 0, rfl, fun j u hu => ?_⟩
  have := h.cells (g := g) rfl j u hu
  rwa [Addr.add_mid] at this
namespace Mem
variable {w0 w w' : World} {S : Nat → Prop} {L : List As}
theorem nilOwn (M : Mem w0 S L w) (e : TypeId) (size : Nat) : Mem w0 S (As.own w0.heap.size e size (.slice none 0 0) 0 [] :: L) w := by
 refine M.push Fr.refl _ ?_ (fun g hg => by simp [As.own, Value.ownBlock] at hg)
 exact ⟨by simp, .inl ⟨rfl, rfl⟩⟩
theorem pushOwn (M : Mem w0 S L w) (hf : Fr0 w w') {base size n : Nat} {e : TypeId} {v : Value} {xs : List Value} (hb : w.heap.size ≤ base) (h : w'.ownsRow base e size v n xs) : Mem w0 S (As.own w0.heap.size e size v n xs :: L) w' := by
 have hw := M.fr.size
 refine M.push hf _ (K8 h (by omega)) (fun g hg => ?_)
 obtain ⟨h1, h2⟩ := NN h g hg
 exact ⟨by omega, h2⟩
theorem blkOwn (M : Mem w0 B0 L w) (i : Nat) {g t size n : Nat} {cs : List Value} (hi : L[i]? = some (As.blk g t cs)) (hn : cs.length = n * size) (hm : n ≤ maxLen) : Mem w0 B0 (L.set i (As.own w0.heap.size t size (.slice (some ⟨g, 0, none⟩) n n) n cs)) w := by
 have hb := M.blk i hi
 have hg : w0.heap.size ≤ g := by
  rcases (M.lt i _ hi g (by simp [As.blk])).2 with h | h
  ·exact h
  ·exact h.elim
 refine M.upd i hi Fr.refl _ ?_ (fun g' hg' => .inl (by simpa [As.own, As.blk, Value.ownBlock, eq_comm] using hg'))
 exact ⟨hn, .inr ⟨g, n, cs.toArray, rfl, hg, hb, Nat.le_refl _, hm, by simpa using hn, by simp [← hn]⟩⟩
theorem ownLen (M : Mem w0 S L w) (i : Nat) {base e size n : Nat} {v : Value} {xs : List Value} (hi : L[i]? = some (As.own base e size v n xs)) : n ≤ 9223372036854775807 := by
 rcases (M.own i hi).2 with ⟨_, h0⟩ | ⟨g, cap, cur, _, _, _, hc, hm, _⟩
 ·omega
 ·unfold maxLen at hm; omega
theorem rdOwn (M : Mem w0 S L w) (i : Nat) {base e size n c : Nat} {A : Option Addr} {xs : List Value} (hi : L[i]? = some (As.own base e size (.slice A n c) n xs)) : Rd w A (n * size) xs := NM (M.own i hi)
theorem rdBlk (M : Mem w0 S L w) (i : Nat) {g t m : Nat} {cs : List Value} (hi : L[i]? = some (As.blk g t cs)) (hm : cs.length = m) : Rd w (some ⟨g, 0, none⟩) m cs := Rd.ofBlk (M.blk i hi) hm
end Mem
section
variable {P : Program} {Q : Exit → Act → World → Prop} {n : Nat} {e : Env} {w w0 : World} {S : Nat → Prop} {L : List As} {ops : Array Oper} {o : Oper} {rest : List Oper}
theorem AO {l : List Oper} {d : Nat} {b : Bool} (hb : e.get d = some (.bool b)) (h1 : b = true → SxL P ops Q n l ((d, .bool true) :: e) w) (h2 : b = false → SxL P ops Q n l ((d, .bool false) :: e) w) : SxL P ops Q n l e w := .mk fun a ha => by
 have key : ∀ c, b = c → Agr n ((d, .bool c) :: e) a := fun c hc => ⟨ha.size, ha.defers, fun k v hk => by
  unfold Env.get at hk
  split at hk
  ·rename_i hb'
   obtain rfl : d = k := Nat.eq_of_beq_eq_true hb'
   simp only [Option.some.injEq] at hk
   rw [← hk, ← hc]; exact ha.get d _ hb
  ·exact ha.get k v hk⟩
 cases b
 ·exact (h2 rfl).run a (key false rfl)
 ·exact (h1 rfl).run a (key true rfl)
theorem DU {q : Act → Prop} {l : List Oper} {d : Nat} {b : Bool} (hb : e.get d = some (.bool b)) (h1 : b = true → SxS P ops w q n l ((d, .bool true) :: e)) (h2 : b = false → SxS P ops w q n l ((d, .bool false) :: e)) : SxS P ops w q n l e := .mk fun a ha => by
 have key : ∀ c, b = c → Agr n ((d, .bool c) :: e) a := fun c hc => ⟨ha.size, ha.defers, fun k v hk => by
  unfold Env.get at hk
  split at hk
  ·rename_i hb'
   obtain rfl : d = k := Nat.eq_of_beq_eq_true hb'
   simp only [Option.some.injEq] at hk
   rw [← hk, ← hc]; exact ha.get d _ hb
  ·exact ha.get k v hk⟩
 cases b
 ·exact (h2 rfl).run a (key false rfl)
 ·exact (h1 rfl).run a (key true rfl)
theorem DI {l : List Oper} (cut : Nat) (r : Env) (F : World → Prop) (h : ∀ w', F w' → SxL P ops Q n (l.drop cut) r w') (k : (∀ e' w', F w' → r.le e' → SxL P ops Q n (l.drop cut) e' w') → SxL P ops Q n l e w) : SxL P ops Q n l e w :=
 k fun _ w' hF hl => fE hl (h w' hF)
theorem m4 {q : Act → Prop} {l : List Oper} (cut : Nat) (r : Env) (h : SxS P ops w q n (l.drop cut) r) (k : (∀ e', r.le e' → SxS P ops w q n (l.drop cut) e') → SxS P ops w q n l e) : SxS P ops w q n l e :=
 k fun _ hl => .mk fun a ha => h.run a (ha.weak hl)
theorem JP {c : Code} {K : Act → World → Prop} (r : Env) (F : World → Prop) (h : ∀ w', F w' → QX (Exit.then K Q) .normal n r w') (k : (∀ e' w', F w' → r.le e' → QX (Exit.then K Q) .normal n e' w') → Sx P c (Exit.then K Q) n e w) : Sx P c (Exit.then K Q) n e w :=
 k fun _ w' hF hl => OM hl (h w' hF)
theorem EH (M : Mem w0 S L w) (i : Nat) {d : Nat} (hw : Wn ops e o) (hd : o.dst = some d) (hn : Nat.blt d n = true) {s x : Operand} {t base el size bytes len m c : Nat} {z v : Value} {xs news : List Value} {A : Option Addr}
 (ho : o.op = .call { callee := .builtin .append, args := #[s, x], argTypes := #[t, t] }) (hs : ev e s = some v) (hx : ev e x = some (.slice A m c)) (hi : L[i]? = some (As.own base el size v len xs)) (hr : Rd w A (m * size) news)
 (ht : P.underlying t = some (.slice el)) (hinf : (P.info? el).map (fun i => (i.zero, i.size, i.bytes)) = some (some z, size, bytes)) (hzs : z.cells.size = size) (hpos : 0 < size) (h1 : ∀ u ∈ news, u.oneCell' = true) (hb : w0.heap.size ≤ base) (hb' : base ≤ w0.heap.size) (hsm : (len + m) * bytes ≤ 140737488355328) (h63 : len + m ≤ maxLen) {len' : Nat} {xs' : List Value} (hl' : len + m = len') (hx' : xs ++ news = xs')
 (k : ∀ A' c' w', Mem w0 S (L.set i (As.own base el size (.slice A' len' c') len' xs')) w' → SxL P ops Q n rest ((d, .slice A' len' c') :: e) w') : SxL P ops Q n (o :: rest) e w := by
 subst hl'; subst hx'
 have hw0 := M.fr.size
 have hown := M.own i hi
 refine CH (some d) hw hd hn (fun ρ hρ => DL s x t ho base el z size bytes ht hinf hzs hpos v len xs (hρ _ _ hs) hown A m c news (hρ _ _ hx) hr h1 h63 hsm (by omega)) ?_
 rintro v' w1 ⟨h1, h2, h3⟩
 obtain ⟨A', c', rfl, _⟩ := E8 h1
 refine k A' c' w1 (M.upd i hi ?_ _ h1 ?_)
 ·refine ⟨h2.os, h2.tape, h2.output, h2.size, fun g hg hn => h2.block g hg ?_⟩
  intro e
  exact hn (by simp [As.own, ← e])
 ·intro g hg
  rcases h3 with h | h
  ·left; simpa [As.own, h] using hg
  ·right
   have hg' : g = w.heap.size := by simpa [As.own, h, eq_comm] using hg
   have := (NN h1 g hg).2
   omega
theorem DF (M : Mem w0 S L w) {d : Nat} (hw : Wn ops e o) (hd : o.dst = some d) (hn : Nat.blt d n = true) {t len el size : Nat} {parts : List (Nat × Operand)} {ps : List (Nat × Value)} (vs cs : List Value) {z : Value} (ho : o.op = .buildSlice t len parts.toArray) (hp : evp e parts = some ps) (hps : ps = (vs.zipIdx 0).map fun x => (x.2, x.1)) (hlen : vs.length = len)
 (hu : P.underlying t = some (.slice el)) (hi : (P.info? el).map (fun i => (i.zero, i.size)) = some (some z, size)) (hpos : Nat.blt 0 (len * size) = true) (hsm : Nat.ble (len * size) 16777216 = true) (hv : ∀ v ∈ vs, v.cells.size = size) (hcs : (vs.map fun v => v.cells.toList).flatten = cs)
 (k : ∀ g w', w.heap.size ≤ g → Mem w0 S (As.blk g el cs :: L) w' → SxL P ops Q n rest ((d, .slice (some ⟨g, 0, none⟩) len len) :: e) w') : SxL P ops Q n (o :: rest) e w := by
 subst hcs
 refine CH (some d) hw hd hn (fun ρ hρ => DR vs z hρ ho hp hps hlen hu hi (CO hpos) (Nat.le_of_ble_eq_true hsm) hv) ?_
 rintro _ w1 ⟨g, rfl, h1, h2, hb, hf⟩
 exact k g w1 h1 (M.push hf _ hb (fun g' hg' => by simp only [As.blk, List.mem_singleton] at hg'; subst hg'; exact ⟨h1, h2⟩))
end
section
variable {P : Program} {e : Env} {w : World} {o : Oper}
theorem ED {t t' : Nat} {k : IntKind} {a b : Int} {x y : Operand} (ho : o.op = .binOp .lss t x y t') (hx : ev e x = some (.int k a)) (hy : ev e y = some (.int k b)) : Y P e o w (.bool (decide (a < b))) := fun ρ h => by
 unfold execOp; simp [ho, h _ _ hx, h _ _ hy, eqGuard_at_int, binOp_lss]
theorem GP {t t' : Nat} {k : IntKind} {a b : Int} {x y : Operand} (ho : o.op = .binOp .leq t x y t') (hx : ev e x = some (.int k a)) (hy : ev e y = some (.int k b)) : Y P e o w (.bool (decide (a ≤ b))) := fun ρ h => by
 unfold execOp; simp [ho, h _ _ hx, h _ _ hy, eqGuard_at_int, binOp_leq]
theorem GC {t t' : Nat} {k : IntKind} {a b : Int} {x y : Operand} (ho : o.op = .binOp .gtr t x y t') (hx : ev e x = some (.int k a)) (hy : ev e y = some (.int k b)) : Y P e o w (.bool (decide (b < a))) := fun ρ h => by
 unfold execOp; simp [ho, h _ _ hx, h _ _ hy, eqGuard_at_int, binOp_gtr]
theorem FQ {t t' : Nat} {k : IntKind} {a b : Int} {x y : Operand} (ho : o.op = .binOp .geq t x y t') (hx : ev e x = some (.int k a)) (hy : ev e y = some (.int k b)) : Y P e o w (.bool (decide (b ≤ a))) := fun ρ h => by
 unfold execOp; simp [ho, h _ _ hx, h _ _ hy, eqGuard_at_int, binOp_geq]
theorem BZ {t t' : Nat} {k : IntKind} {a b : Int} {x y : Operand} (ho : o.op = .binOp .eql t x y t') (hx : ev e x = some (.int k a)) (hy : ev e y = some (.int k b)) : Y P e o w (.bool (decide (a = b))) := fun ρ h => by
 unfold execOp; simp only [ho, h _ _ hx, h _ _ hy, eqGuard_at_int, binOp_eql, Sem.run_bind, Sem.run_pure, Result.andThen_ok]; by_cases hab : a = b <;> simp [hab]
theorem E4 {t t' : Nat} {k : IntKind} {a b : Int} {x y : Operand} (ho : o.op = .binOp .neq t x y t') (hx : ev e x = some (.int k a)) (hy : ev e y = some (.int k b)) : Y P e o w (.bool (!decide (a = b))) := fun ρ h => by
 unfold execOp; simp only [ho, h _ _ hx, h _ _ hy, eqGuard_at_int, binOp_neq, Sem.run_bind, Sem.run_pure, Result.andThen_ok]; by_cases hab : a = b <;> simp [hab]
theorem B1 {t g off len cap sz el : Nat} (j : Nat) {k : IntKind} {x i : Operand} {A : Option Addr} (hA : A = some ⟨g, off, none⟩) (ho : o.op = .indexAddr t x i) (hx : ev e x = some (.slice A len cap)) (hi : ev e i = some (.int k (j : Int))) (ht : DY P t = some (el, sz)) (h0 : j < len) :
 Y P e o w (.pointer (some ⟨g, off + j * sz, none⟩)) := by subst hA; exact VI ho hx hi ht h0
end
section
variable {P : Program} {Q : Exit → Act → World → Prop} {n f t : Nat} {e : Env} {w w0 : World} {S : Nat → Prop} {L L' : List As} {ops : Array Oper} {o : Oper} {listed : Array Bool} {c : Code} {I : World → Prop}
theorem OE (r : Env) (F : World → Prop) (h : ∀ w', F w' → QX Q .normal n r w') (k : (∀ e' w', F w' → r.le e' → QX Q .normal n e' w') → Sx P c Q n e w) : Sx P c Q n e w := k fun _ w' hF hl => OM hl (h w' hF)
theorem fK {α : Type} (r : α → Env) (F : α → World → Prop) (h : ∀ x w', F x w' → QX Q .normal n (r x) w') (k : (∀ x e' w', F x w' → (r x).le e' → QX Q .normal n e' w') → Sx P c Q n e w) : Sx P c Q n e w := k fun x _ w' hF hl => OM hl (h x w' hF)
theorem OD {α β : Type} (r : α → β → Env) (F : α → β → World → Prop) (h : ∀ x y w', F x y w' → QX Q .normal n (r x y) w') (k : (∀ x y e' w', F x y w' → (r x y).le e' → QX Q .normal n e' w') → Sx P c Q n e w) : Sx P c Q n e w := k fun x y _ w' hF hl => OM hl (h x y w' hF)
theorem RD {α β γ δ : Type} (r : α → β → γ → δ → Env) (F : α → β → γ → δ → World → Prop) (h : ∀ x y z u w', F x y z u w' → QX Q .normal n (r x y z u) w') (k : (∀ x y z u e' w', F x y z u w' → (r x y z u).le e' → QX Q .normal n e' w') → Sx P c Q n e w) : Sx P c Q n e w := k fun x y z u _ w' hF hl => OM hl (h x y z u w' hF)
theorem EB {g : Nat} {ty : TypeId} {cs : List Value} {w w' : World} (h1 : w.heap.size ≤ g) (h2 : g < w'.heap.size) : ∀ g' ∈ (As.blk g ty cs).fp, w.heap.size ≤ g' ∧ g' < w'.heap.size := fun g' hg' => by
 simp only [As.blk, List.mem_singleton] at hg'; subst hg'; exact ⟨h1, h2⟩
theorem M7 {g : Nat} {K : List (List UInt8 × Value)} {w w' : World} (h1 : w.heap.size ≤ g) (h2 : g < w'.heap.size) : ∀ g' ∈ (As.mp g K).fp, w.heap.size ≤ g' ∧ g' < w'.heap.size := fun g' hg' => by
 simp only [As.mp, List.mem_singleton] at hg'; subst hg'; exact ⟨h1, h2⟩
theorem Mem.putB (M : Mem w0 S L w) (i : Nat) {g ty : Nat} {cs cs' : List Value} {w' : World} (hi : L[i]? = some (As.blk g ty cs)) (hb : Blk w' g ty cs') (hf : Fr (fun k => k = g) w w') : Mem w0 S (L.set i (As.blk g ty cs')) w' :=
 M.upd i hi (YX hf) (As.blk g ty cs') hb (fun _ hg' => .inl hg')
end
section
variable {P : Program} {e : Env} {w : World} {o : Oper}
theorem YZ {t : Nat} {x j : Operand} {l : List UInt8} {k' : IntKind} {b : Nat} (ho : o.op = .slice t x none (some j) none) (hx : ev e x = some (str l)) (hj : ev e j = some (.int k' (b : Int))) (ht : P.underlying t = some .string) (hb : b ≤ l.length) : Y P e o w (str (l.take b)) := fun ρ h => by
 have hs : (ByteArray.mk l.toArray).size = l.length := by show l.toArray.size = _; simp
 unfold execOp
 simp [ho, h _ _ hx, h _ _ hj, str, Instr.sliceAt, Instr.slice, run_underlying ht, Instr.sliceBounds, Instr.sliceBound, asIntOf, hs, hb, Lib.extract_eq]
theorem E6 {t kt el : TypeId} {x i : Operand} {g : Nat} {k : List UInt8} {L : List (List UInt8 × Value)} {z v : Value} {b : Bool} (ho : o.op = .lookup t x i true) (hx : ev e x = some (.map (some g))) (hi : ev e i = some (str k)) (hu : P.underlying t = some (.map kt el)) (hd : P.underlying kt = some .string)
 (hz : (P.info? el).map (·.zero) = some (some z)) (hM : Mp w g L) (hv : (CU L k).getD z = v) (hb : (CU L k).isSome = b) : Y P e o w (.tuple #[v, .bool b]) := by
 subst hv; subst hb
 exact VG (ok := true) ho hx hi hu hd hz hM
theorem BT {t kt el : TypeId} {x i : Operand} {g : Nat} {k : List UInt8} {L : List (List UInt8 × Value)} {z v : Value} (ho : o.op = .lookup t x i false) (hx : ev e x = some (.map (some g))) (hi : ev e i = some (str k)) (hu : P.underlying t = some (.map kt el)) (hd : P.underlying kt = some .string)
 (hz : (P.info? el).map (·.zero) = some (some z)) (hM : Mp w g L) (hv : (CU L k).getD z = v) : Y P e o w v := by
 subst hv
 exact VG (ok := false) ho hx hi hu hd hz hM
theorem oR {t t' : TypeId} {x y : Operand} {b c : UInt8} (ho : o.op = .binOp .or t x y t') (hx : ev e x = some (.int .u8 (b.toNat : Int))) (hy : ev e y = some (.int .u8 (c.toNat : Int))) : Y P e o w (.int .u8 ((b ||| c).toNat : Int)) := fun ρ h => by
 have hk : Op.intBits .or .u8 (b.toNat : Int) (c.toNat : Int) = pure (.int .u8 ((b ||| c).toNat : Int)) := by
  unfold Op.intBits
  have h1 : BitVec.ofInt (IntKind.u8).bits (b.toNat : Int) = b.toBitVec := by
   apply BitVec.eq_of_toNat_eq; simp [IntKind.bits]
  have h2 : BitVec.ofInt (IntKind.u8).bits (c.toNat : Int) = c.toBitVec := by
   apply BitVec.eq_of_toNat_eq; simp [IntKind.bits]
  simp only [h1, h2]
  have h3 : ((b.toBitVec ||| c.toBitVec : BitVec 8).toNat : Int) = ((b ||| c).toNat : Int) := rfl
  have h4 : (IntKind.u8).wrap ((b ||| c).toNat : Int) = ((b ||| c).toNat : Int) := by
   have := (b ||| c).toNat_lt
   rw [UInt8.toNat_or] at this
   simp [IntKind.wrap, IntKind.bits, IntKind.signed]; omega
  show (pure (.int .u8 ((IntKind.u8).wrap ((b.toBitVec ||| c.toBitVec : BitVec 8).toNat : Int))) : Sem Value) = _
  rw [h3, h4]
 unfold execOp
 simp [ho, h _ _ hx, h _ _ hy, eqGuard_at_int, Go.binOp, hk]
theorem pD {t t' : TypeId} {x y : Operand} {a b : Nat} (ho : o.op = .call { callee := .builtin .min, args := #[x, y], argTypes := #[t, t'] }) (hx : ev e x = some (.int .i64 (a : Int))) (hy : ev e y = some (.int .i64 (b : Int))) : Y P e o w (.int .i64 ((min a b : Nat) : Int)) := fun ρ h => by
 unfold execOp
 have hab : (if (b : Int) < (a : Int) then (b : Int) else (a : Int)) = ((min a b : Nat) : Int) := by split <;> omega
 simp only [ho, h _ _ hx, h _ _ hy, resolve, invoke, builtin, Builtin.min_, Builtin.min2, List.map_toArray, List.map_cons, List.map_nil, List.foldlM_cons, List.foldlM_nil, Sem.run_bind, Sem.run_pure, Result.andThen_ok, hab]
end
end
section
section
variable {P : Program} {ops : Array Oper} {Q : Exit → Act → World → Prop} {S : World → Prop} {t n f : Nat} {listed : Array Bool} {e : Env} {w : World}
theorem EK {d : Nat} {b : Bool} (hb : e.get d = some (.bool b)) (h1 : b = true → SxO P ops Q t S n f listed ((d, .bool true) :: e) w) (h2 : b = false → SxO P ops Q t S n f listed ((d, .bool false) :: e) w) : SxO P ops Q t S n f listed e w := .mk fun a ha => by
 have key : ∀ c, b = c → Agr n ((d, .bool c) :: e) a := fun c hc => ⟨ha.size, ha.defers, fun k v hk => by
  unfold Env.get at hk
  split at hk
  ·rename_i hb'
   obtain rfl : d = k := Nat.eq_of_beq_eq_true hb'
   simp only [Option.some.injEq] at hk
   rw [← hk, ← hc]; exact ha.get d _ hb
  ·exact ha.get k v hk⟩
 cases b
 ·exact (h2 rfl).run a (key false rfl)
 ·exact (h1 rfl).run a (key true rfl)
theorem ZE {o : Oper} {d d0 j : Nat} {b c : Bool} (i h : Nat) (hs : Region.noSelect ops = true) (hQ : ∀ c (a : Act) t v w, Q (.panic c) (a.put t v) w → Q (.panic c) a w) (hwait : HN ops h t = true) (hih : Nat.blt i h = true)
 (hf : Region.free .any ops listed i = true) (hr : (Region.ready .any ops listed).contains i = true) (ho : ops[i]? = some o) (hg : o.guard = some (j, b)) (hj : (ops[j]?).bind (·.dst) = some d0) (hb : e.get d0 = some (.bool c)) (hne : (c == b) = false) (hd : o.dst = some d) (hn : Nat.blt d n = true) (hS : S w)
 (k : SxO P ops Q t S n f (listed.setIfInBounds i true) ((d, undef) :: e) w) : SxO P ops Q t S n (f + 1) listed e w := ⟨fun a ha => by
 have hw : Region.wanted o (yielded ops a.tmps) = false := by
  simp only [Region.wanted, hg, yielded, hj, ha.get d0 _ hb, Option.bind_some]
  cases c <;> cases b <;> simp_all
 refine KO (v := undef) ho (Region.noSelect_spec hs) (fun c a w => hQ c a _ _ w) hwait (CO hih) f listed a w (Region.free_spec ho hf) (by simpa using hr) (.inr ⟨hw, rfl⟩) hS ?_
 rw [hd]; exact k.run _ (ha.put (CO hn) undef)⟩
theorem oo1 {o : Oper} {d d0 j : Nat} {b c : Bool} (i h : Nat) (ho : ops[i]? = some o) (hg : o.guard = some (j, b)) (hj : (ops[j]?).bind (·.dst) = some d0) (hb : e.get d0 = some (.bool c)) (hne : (c == b) = false) (hd : o.dst = some d) (hn : Nat.blt d n = true) (hS : S w) (k : SxO P ops Q t S n f (listed.setIfInBounds i true) ((d, undef) :: e) w) (hs : Region.noSelect ops = true := by kernel_rfl) (hQ : ∀ c (a : Act) t v w, Q (.panic c) (a.put t v) w → Q (.panic c) a w := by exact fun c a t v w h => by cases t <;> exact h) (hwait : HN ops h t = true := by kernel_rfl) (hih : Nat.blt i h = true := by exact rfl) (hf : Region.free .any ops listed i = true := by kernel_rfl) (hr : (Region.ready .any ops listed).contains i = true := by kernel_rfl) : SxO P ops Q t S n (f + 1) listed e w :=
 ZE i h hs hQ hwait hih hf hr ho hg hj hb hne hd hn hS k
end
end
open Go.RowKit Go.ChangeShapes
def Laid (w : World) (L : List (Nat × List Value)) : Prop := ∀ p ∈ L, ∃ el fz, w.heap[p.1]? = some (.cells p.2.toArray el fz)
theorem RF {P : Program} {w : World} {name : String} {g : Nat} {cs : Array Value} (hg : P.globalNamed name = some g) (h : w.var? P name = some cs) : ∃ el fz, w.heap[g]? = some (.cells cs el fz) := by
 unfold World.var? at h
 rw [hg] at h
 simp only [Option.bind_some] at h
 split at h
 ·rename_i row el fz hrow
  injection h with h; subst h
  exact ⟨el, fz, hrow⟩
 ·cases h
theorem SE {H : Type} {enc : TypeId × Value → H} {P : Program} {w : World} {base : Nat} {sp : Nat → Bool} {held : Bool} {fuel : Nat} {t e : TypeId} {n : Nat} {k : IntKind} {f0 f1 : Field} {cs : List Value} {zs : List (Int × Int)} {p : List MemPlace}
 (ht : P.underlying t = some (.array n e)) (he : P.underlying e = some (.struct #[f0, f1])) (hb0 : P.underlying f0.type = some (.int k)) (hb1 : P.underlying f1.type = some (.int k)) (ho : f0.offset = 0 ∧ f1.offset = 1) (hc0 : P.cellsOf f0.type = 1) (hc1 : P.cellsOf f1.type = 1)
 (hce : P.cellsOf e = 2) (hct : P.cellsOf t = n * 2)
 (h : DataW.trod enc P w base sp held fuel t cs = some (.agg (zs.map fun z => .agg [.lit (.int k z.1), .lit (.int k z.2)]), p)) : cs = zs.flatMap fun z => [Value.int k z.1, Value.int k z.2] := by
 cases fuel with
 | zero => simp [DataW.trod] at h
 | succ fuel =>
  simp only [DataW.trod, ht, hce, hct] at h
  split at h
  ·rename_i hl
   obtain ⟨xs, hm, hx⟩ := Option.map_eq_some_iff.1 h
   have hxs : xs.map (·.1) = zs.map fun z => (DataW.agg [.lit (.int k z.1), .lit (.int k z.2)] : DataW H) := by
    have := congrArg Prod.fst hx
    simpa using this
   have hxl : xs.length = n := by simpa using Go.Lib.mapM_length hm
   have hzl : zs.length = n := by
    have := congrArg List.length hxs
    simp at this
    omega
   have hpair : ∀ i z, zs[i]? = some z → cs[2 * i]? = some (.int k z.1) ∧ cs[2 * i + 1]? = some (.int k z.2) := fun i z hz => by
    have hi : i < n := by have := (List.getElem?_eq_some_iff.1 hz).1; omega
    obtain ⟨x, hxi, hf⟩ := Go.Lib.mapM_at hm i i (by simp [hi])
    obtain ⟨y0, y1, m, hx2, _, g0, g1⟩ := trod_struct2 he hf
    rw [ho.1, hc0] at g0
    rw [ho.2, hc1] at g1
    obtain ⟨a, ha, rfl, _⟩ := DataW.trod_int hb0 g0
    obtain ⟨c, hc, rfl, _⟩ := DataW.trod_int hb1 g1
    have h2 : (xs.map (·.1))[i]? = some (DataW.agg [.lit (.int k a), .lit (.int k c)]) := by rw [List.getElem?_map, hxi, hx2]; rfl
    rw [hxs, List.getElem?_map, hz] at h2
    simp only [Option.map_some, Option.some.injEq, DataW.agg.injEq, List.cons.injEq, DataW.lit.injEq, Lit.int.injEq, true_and, and_true] at h2
    obtain ⟨rfl, rfl⟩ := h2
    have q0 := congrArg (·[0]?) ha
    have q1 := congrArg (·[0]?) hc
    simp [List.getElem?_drop] at q0 q1
    rw [Nat.mul_comm] at q0 q1
    exact ⟨q0, q1⟩
   have hlen : (zs.flatMap fun z => [Value.int k z.1, Value.int k z.2]).length = n * 2 := by
    rw [← hzl]; clear hpair hxs hl hm h hx hzl
    induction zs with
    | nil => rfl
    | cons z zs ih => simp only [List.flatMap_cons, List.length_append, ih, List.length_cons, List.length_nil]; omega
   have hget : ∀ (zs : List (Int × Int)) (i : Nat) z, zs[i]? = some z → (zs.flatMap fun z => [Value.int k z.1, Value.int k z.2])[2 * i]? = some (.int k z.1) ∧ (zs.flatMap fun z => [Value.int k z.1, Value.int k z.2])[2 * i + 1]? = some (.int k z.2) := by
    intro zs
    induction zs with
    | nil => intro i z hz; simp at hz
    | cons y zs ih =>
     intro i z hz
     cases i with
     | zero => simp only [List.getElem?_cons_zero, Option.some.injEq] at hz; subst hz; exact ⟨rfl, rfl⟩
     | succ i =>
      have := ih i z (by simpa using hz)
      simp only [List.flatMap_cons]
      rw [List.getElem?_append_right (by simp; omega), List.getElem?_append_right (by simp; omega)]
      simpa [show 2 * (i + 1) - 2 = 2 * i by omega, show 2 * (i + 1) + 1 - 2 = 2 * i + 1 by omega] using this
   apply List.ext_getElem?
   intro j
   by_cases hj : j < n * 2
   ·obtain ⟨z, hz⟩ : ∃ z, zs[j / 2]? = some z := ⟨_, List.getElem?_eq_getElem (by omega)⟩
    have a := hpair _ _ hz
    have c := hget zs _ _ hz
    rcases Nat.mod_two_eq_zero_or_one j with hm2 | hm2
    ·have : j = 2 * (j / 2) := by omega
     rw [this, a.1, c.1]
    ·have : j = 2 * (j / 2) + 1 := by omega
     rw [this, a.2, c.2]
   ·rw [List.getElem?_eq_none (by omega), List.getElem?_eq_none (by omega)]
  ·cases h
open Tryz
def foL : List (Nat × Nat × Nat) := [(26, 0, 0), (26, 1, 1), (26, 2, 2), (26, 3, 3), (26, 4, 4), (29, 0, 0), (29, 1, 1), (29, 2, 2), (29, 3, 3), (29, 4, 4), (38, 0, 0), (38, 1, 5), (38, 2, 6), (43, 0, 0), (43, 1, 1), (43, 2, 2), (43, 3, 3), (43, 4, 4), (43, 5, 5), (43, 6, 6), (43, 7, 7), (43, 8, 8), (45, 0, 0), (45, 1, 1), (45, 2, 2), (45, 3, 3), (47, 0, 0), (47, 1, 1), (54, 0, 0), (54, 3, 3), (54, 4, 4), (67, 0, 0), (67, 1, 5), (67, 2, 6), (67, 3, 7), (67, 4, 8), (67, 5, 9), (69, 0, 0), (69, 1, 1), (69, 2, 2), (69, 3, 3), (69, 4, 4), (69, 5, 5), (69, 6, 6), (69, 7, 7), (69, 8, 8), (69, 9, 9), (69, 10, 10), (72, 0, 0), (72, 1, 1), (72, 2, 2), (72, 3, 3), (75, 0, 0), (75, 1, 1), (75, 2, 5), (75, 3, 6), (108, 0, 0), (108, 1, 7), (108, 2, 8), (108, 3, 9), (110, 0, 0), (110, 1, 1), (110, 2, 2), (110, 3, 12), (110, 4, 13), (116, 0, 0), (116, 1, 1), (124, 0, 0), (124, 1, 1), (124, 2, 2), (124, 3, 3), (124, 4, 4), (124, 5, 5), (126, 0, 0), (126, 1, 1), (126, 2, 2), (126, 3, 3), (126, 4, 4), (142, 0, 0), (142, 1, 5), (142, 2, 6), (142, 3, 7), (198, 0, 0), (198, 1, 1), (223, 0, 0), (223, 1, 1), (274, 0, 0), (274, 1, 1), (274, 2, 2)]
def scL : List Nat := [2, 3, 4, 5, 9, 12, 21, 22, 23, 24, 27, 32, 33, 36, 50, 62, 63, 64, 65, 73, 79, 86, 89, 94, 95, 98, 99, 105, 106, 111, 112, 114, 121, 122, 127, 133, 140, 145, 146, 148, 150, 152, 155, 161, 170, 188, 190, 192, 195, 196, 204, 210, 215, 217, 225, 231, 237, 256, 265, 270, 271, 276, 280, 306]
def slL : List (Nat × Nat × Nat) := [(22, 47, 5), (23, 69, 11), (24, 72, 4), (27, 43, 9), (36, 9, 1), (50, 54, 5), (73, 75, 7), (98, 99, 1), (122, 126, 5), (196, 5, 1), (215, 3, 1), (306, 45, 4)]
def arL : List (Nat × Nat × Nat × Nat) := [(153, 2, 3, 1), (176, 256, 5, 1), (184, 256, 4, 1), (224, 16, 223, 2), (291, 24, 5, 1), (303, 20, 231, 1), (304, 65, 5, 1), (310, 32, 5, 1), (311, 64, 5, 1)]
def ptL : List (Nat × Nat) := [(32, 67), (95, 142), (106, 110), (121, 124), (188, 184), (195, 198), (210, 5), (270, 274), (280, 3)]
def NR : List (Nat × Nat × Nat) → Nat → Nat → Option Nat
 | [], _, _ => none
 | (a, b, k) :: l, s, f => match Nat.beq a s with
  | true => match Nat.beq b f with
   | true => some k
   | false => NR l s f
  | false => NR l s f
def QK : List Nat → Nat → Bool
 | [], _ => false
 | a :: l, t => match Nat.beq a t with
  | true => true
  | false => QK l t
def j6 : List (Nat × Nat × Nat) → Nat → Option (Nat × Nat)
 | [], _ => none
 | (a, p) :: l, t => match Nat.beq a t with
  | true => some p
  | false => j6 l t
def j7 : List (Nat × Nat) → Nat → Option Nat
 | [], _ => none
 | (a, p) :: l, t => match Nat.beq a t with
  | true => some p
  | false => j7 l t
theorem WU : ∀ (l : List (Nat × Nat)) {t : Nat} {p : Nat}, j7 l t = some p → (t, p) ∈ l
 | [], _, _, h => by simp [j7] at h
 | (a, q) :: l, t, p, h => by
  unfold j7 at h
  split at h
  ·rename_i h1; obtain rfl := Nat.eq_of_beq_eq_true h1; simp only [Option.some.injEq] at h; subst h; simp
  ·exact List.mem_cons_of_mem _ (WU l h)
def j5 : List (Nat × Nat × Nat × Nat) → Nat → Option (Nat × Nat × Nat)
 | [], _ => none
 | (a, p) :: l, t => match Nat.beq a t with
  | true => some p
  | false => j5 l t
theorem RV : ∀ (l : List (Nat × Nat × Nat)) {s f k : Nat}, NR l s f = some k → (s, f, k) ∈ l
 | [], _, _, _, h => by simp [NR] at h
 | (a, b, c) :: l, s, f, k, h => by
  unfold NR at h
  split at h
  ·rename_i h1
   split at h
   ·rename_i h2
    obtain rfl := Nat.eq_of_beq_eq_true h1; obtain rfl := Nat.eq_of_beq_eq_true h2
    simp only [Option.some.injEq] at h; subst h; simp
   ·exact List.mem_cons_of_mem _ (RV l h)
  ·exact List.mem_cons_of_mem _ (RV l h)
theorem WR : ∀ (l : List Nat) {t : Nat}, QK l t = true → t ∈ l
 | [], _, h => by simp [QK] at h
 | a :: l, t, h => by
  unfold QK at h
  split at h
  ·rename_i h1; obtain rfl := Nat.eq_of_beq_eq_true h1; simp
  ·exact List.mem_cons_of_mem _ (WR l h)
theorem WT : ∀ (l : List (Nat × Nat × Nat)) {t : Nat} {p : Nat × Nat}, j6 l t = some p → (t, p) ∈ l
 | [], _, _, h => by simp [j6] at h
 | (a, q) :: l, t, p, h => by
  unfold j6 at h
  split at h
  ·rename_i h1; obtain rfl := Nat.eq_of_beq_eq_true h1; simp only [Option.some.injEq] at h; subst h; simp
  ·exact List.mem_cons_of_mem _ (WT l h)
theorem WS : ∀ (l : List (Nat × Nat × Nat × Nat)) {t : Nat} {p : Nat × Nat × Nat}, j5 l t = some p → (t, p) ∈ l
 | [], _, _, h => by simp [j5] at h
 | (a, q) :: l, t, p, h => by
  unfold j5 at h
  split at h
  ·rename_i h1; obtain rfl := Nat.eq_of_beq_eq_true h1; simp only [Option.some.injEq] at h; subst h; simp
  ·exact List.mem_cons_of_mem _ (WS l h)
theorem qS : foL.all (fun x => MD prog x.1 x.2.1 == some x.2.2) = true := by kernel_rfl
theorem pT : scL.all (fun x => OH prog x) = true := by kernel_rfl
theorem pS : slL.all (fun x => DY prog x.1 == some x.2) = true := by kernel_rfl
theorem rA : arL.all (fun x => MX prog x.1 == some x.2) = true := by kernel_rfl
theorem pZ : ptL.all (fun x => MP prog x.1 == some x.2) = true := by kernel_rfl
theorem CZ : prog.follows .mixedOrders = true := by kernel_rfl
theorem pt {t el : Nat} (h : j7 ptL t = some el) : MP prog t = some el := by
 have := List.all_eq_true.1 pZ _ (WU _ h); simpa using this
theorem fo {s f k : Nat} (h : NR foL s f = some k) : MD prog s f = some k := by
 have := List.all_eq_true.1 qS _ (RV _ h); simpa using this
theorem yp {e : Env} {o : Oper} {w : World} {v : Value} (h : JA (NR foL) e o.op = some v) : Y prog e o w v := p9 (fun _ _ _ h => fo h) h
theorem yb {n : Nat} {Q : Exit → Act → World → Prop} {e : Env} {w : World} {ops : Array Oper} {o : Oper} {rest : List Oper} {d : Nat} {v : Value} (h : (o.guard, o.dst, Nat.blt d n, JA (NR foL) e o.op) = (none, some d, true, some v)) (k : SxL prog ops Q n rest ((d, v) :: e) w) : SxL prog ops Q n (o :: rest) e w :=
 J7 (AA (Prod.mk.inj h).1) (Prod.mk.inj (Prod.mk.inj h).2).1 (Prod.mk.inj (Prod.mk.inj (Prod.mk.inj h).2).2).1 (yp (Prod.mk.inj (Prod.mk.inj (Prod.mk.inj h).2).2).2) k
theorem sc {t : Nat} (h : QK scL t = true) : OH prog t = true := List.all_eq_true.1 pT _ (WR _ h)
theorem yl {n : Nat} {Q : Exit → Act → World → Prop} {e : Env} {w : World} {ops : Array Oper} {o : Oper} {rest : List Oper} {d t g off : Nat} {x : Operand} {v : Value} (h : (o.guard, o.dst, Nat.blt d n, o.op) = (none, some d, true, .load t x)) (hx : (ev e x, QK scL t) = (some (.pointer (some ⟨g, off, none⟩)), true)) (hc : Cell w.heap g off v) (k : SxL prog ops Q n rest ((d, v) :: e) w) : SxL prog ops Q n (o :: rest) e w := by
 simp only [Prod.mk.injEq] at h hx
 exact J7 (AA h.1) h.2.1 h.2.2.1 (BW h.2.2.2 hx.1 (sc hx.2) hc) k
theorem ym {n : Nat} {Q : Exit → Act → World → Prop} {e : Env} {w : World} {ops : Array Oper} {o : Oper} {rest : List Oper} {j d' d t g off : Nat} {b : Bool} {x : Operand} {v : Value} (h : (o.guard, (ops[j]?).bind (·.dst), e.get d', o.dst, Nat.blt d n, o.op) = (some (j, b), some d', some (.bool b), some d, true, .load t x)) (hx : (ev e x, QK scL t) = (some (.pointer (some ⟨g, off, none⟩)), true)) (hc : Cell w.heap g off v) (k : SxL prog ops Q n rest ((d, v) :: e) w) : SxL prog ops Q n (o :: rest) e w := by
 simp only [Prod.mk.injEq] at h hx
 exact J7 (BG h.1 h.2.1 h.2.2.1) h.2.2.2.1 h.2.2.2.2.1 (BW h.2.2.2.2.2 hx.1 (sc hx.2) hc) k
theorem oc {ops : Array Oper} {Q : Exit → Act → World → Prop} {S : World → Prop} {t n f : Nat} {listed : Array Bool} {e : Env} {w : World} {o : Oper} {d : Nat} {v : Value} (i h : Nat) (ho : ops[i]? = some o) (hd : (o.guard, o.dst, Nat.blt d n, JA (NR foL) e o.op) = (none, some d, true, some v)) (hS : S w) (k : SxO prog ops Q t S n f (listed.setIfInBounds i true) ((d, v) :: e) w) (hs : Region.noSelect ops = true := by kernel_rfl) (hQ : ∀ c (a : Act) t v w, Q (.panic c) (a.put t v) w → Q (.panic c) a w := by exact fun c a t v w h => by cases t <;> exact h) (hwait : HN ops h t = true := by kernel_rfl) (hih : Nat.blt i h = true := by exact rfl) (hf : Region.free .any ops listed i = true := by kernel_rfl) (hr : (Region.ready .any ops listed).contains i = true := by kernel_rfl) : SxO prog ops Q t S n (f + 1) listed e w := by
 simp only [Prod.mk.injEq] at hd
 exact ZD i h hs hQ hwait hih hf hr ho (AA hd.1) hd.2.1 hd.2.2.1 hS (fun _ _ => yp hd.2.2.2) k
theorem sa {P : Program} {ops : Array Oper} {q : Act → Prop} {n : Nat} {e : Env} {w : World} {o : Oper} {rest : List Oper} {d : Nat} {v : Value} (h : (o.guard, o.dst, Nat.blt d n) = (none, some d, true)) (hy : Y P e o w v) (k : SxS P ops w q n rest ((d, v) :: e)) : SxS P ops w q n (o :: rest) e := by
 simp only [Prod.mk.injEq] at h
 exact VY (AA h.1) h.2.1 h.2.2 hy k
theorem sb {ops : Array Oper} {q : Act → Prop} {n : Nat} {e : Env} {w : World} {o : Oper} {rest : List Oper} {d : Nat} {v : Value} (h : (o.guard, o.dst, Nat.blt d n, JA (NR foL) e o.op) = (none, some d, true, some v)) (k : SxS prog ops w q n rest ((d, v) :: e)) : SxS prog ops w q n (o :: rest) e := by
 simp only [Prod.mk.injEq] at h
 exact VY (AA h.1) h.2.1 h.2.2.1 (yp h.2.2.2) k
theorem sd {ops : Array Oper} {q : Act → Prop} {n : Nat} {e : Env} {w : World} {o : Oper} {rest : List Oper} {d t g off : Nat} {x : Operand} {v : Value} (h : (o.guard, o.dst, Nat.blt d n, o.op) = (none, some d, true, .load t x)) (hx : (ev e x, QK scL t) = (some (.pointer (some ⟨g, off, none⟩)), true)) (hc : Cell w.heap g off v) (k : SxS prog ops w q n rest ((d, v) :: e)) : SxS prog ops w q n (o :: rest) e := by
 simp only [Prod.mk.injEq] at h hx
 exact VY (AA h.1) h.2.1 h.2.2.1 (BW h.2.2.2 hx.1 (sc hx.2) hc) k
theorem ol {ops : Array Oper} {Q : Exit → Act → World → Prop} {S : World → Prop} {t n f : Nat} {listed : Array Bool} {e : Env} {w : World} {o : Oper} {d t1 g off : Nat} {x : Operand} {v : Value} (i h : Nat) (ho : ops[i]? = some o) (hd : (o.guard, o.dst, Nat.blt d n, o.op) = (none, some d, true, .load t1 x)) (hx : (ev e x, QK scL t1) = (some (.pointer (some ⟨g, off, none⟩)), true)) (hS : S w) (hy : ∀ w', S w' → Cell w'.heap g off v) (k : SxO prog ops Q t S n f (listed.setIfInBounds i true) ((d, v) :: e) w) (hs : Region.noSelect ops = true := by kernel_rfl) (hQ : ∀ c (a : Act) t v w, Q (.panic c) (a.put t v) w → Q (.panic c) a w := by exact fun c a t v w h => by cases t <;> exact h) (hwait : HN ops h t = true := by kernel_rfl) (hih : Nat.blt i h = true := by exact rfl) (hf : Region.free .any ops listed i = true := by kernel_rfl) (hr : (Region.ready .any ops listed).contains i = true := by kernel_rfl) : SxO prog ops Q t S n (f + 1) listed e w := by
 simp only [Prod.mk.injEq] at hd hx
 exact ZD i h hs hQ hwait hih hf hr ho (AA hd.1) hd.2.1 hd.2.2.1 hS (fun w' hw' => BW hd.2.2.2 hx.1 (sc hx.2) (hy w' hw')) k
theorem sl {t el sz : Nat} (h : j6 slL t = some (el, sz)) : DY prog t = some (el, sz) := by
 have := List.all_eq_true.1 pS _ (WT _ h); simpa using this
theorem ar {t n el sz : Nat} (h : j5 arL t = some (n, el, sz)) : MX prog t = some (n, el, sz) := by
 have := List.all_eq_true.1 rA _ (WS _ h); simpa using this
def pairsZ : List (Int × Int) := [(128, 191), (160, 191), (128, 159), (144, 191), (128, 143), (0, 0), (0, 0), (0, 0), (0, 0), (0, 0), (0, 0), (0, 0), (0, 0), (0, 0), (0, 0), (0, 0)]
def q7 : DataW Unit := .agg (pairsZ.map fun z => .agg [.lit (.int .u8 z.1), .lit (.int .u8 z.2)])
def firstZ : List Int := Go.Pinned.utf8FirstZ.map fun n => Int.ofNat n
def utfL : List (Nat × List Value) := [(0, firstZ.map fun z => Value.int .u8 z), (1, pairsZ.flatMap fun z => [Value.int .u8 z.1, Value.int .u8 z.2])]
theorem OX {P : Program} {W : World} : ∀ {l : List (String × DataW Unit)} {ps : List MemPlace}, DataW.LaidVars P W l ps → ∀ {n : String} {d : DataW Unit}, (n, d) ∈ l →
 ∃ g t cs fuel p, P.globalNamed n = some g ∧ (P.globals[g]?).map (·.type) = some t ∧ W.var? P n = some cs ∧ DataW.trod (fun _ => ()) P W 0 (fun _ => true) false fuel t cs.toList = some (d, p)
 | [], _, _, _, _, h => by cases h
 | (n', d') :: r, ps, hv, n, d, h => by
  obtain ⟨g, t, cs, fuel, p, q, h1, h2, h3, h4, h5, _⟩ := hv
  rcases List.mem_cons.1 h with he | h
  ·injection he with e1 e2; subst e1; subst e2
   exact ⟨g, t, cs, fuel, p, h1, h2, h3, h4⟩
  ·exact OX h5 h
theorem jJ : Go.Pinned.utf8First = Go.Lib.tabData .u8 firstZ := by kernel_rfl
theorem first_named : prog.globalNamed "unicode/utf8.first" = some 0 := by kernel_rfl
theorem ranges_named : prog.globalNamed "unicode/utf8.acceptRanges" = some 1 := by kernel_rfl
theorem eR {l : List (String × DataW Unit)} {W : World} (hL : laidMet prog l W) (h1 : ("unicode/utf8.first", Go.Pinned.utf8First) ∈ l) (h2 : ("unicode/utf8.acceptRanges", q7) ∈ l) : Laid W utfL := by
 obtain ⟨ps, hv, _, _⟩ := hL
 intro p hp
 rcases List.mem_cons.1 hp with rfl | hp
 ·obtain ⟨g, t, cs, fuel, q, e1, e2, e3, e4⟩ := OX hv h1
  obtain rfl := Option.some.inj (first_named.symm.trans e1)
  obtain rfl := Option.some.inj ((show (prog.globals[0]?).map (·.type) = some 176 by kernel_rfl).symm.trans e2)
  rw [jJ] at e4
  have e5 := Go.Lib.cells_of_tab underlying176 underlying5 (by kernel_rfl) (by kernel_rfl) e4
  have := RF first_named e3
  rw [← Array.toArray_toList (xs := cs), e5] at this
  exact this
 ·obtain rfl := List.mem_singleton.1 hp
  obtain ⟨g, t, cs, fuel, q, e1, e2, e3, e4⟩ := OX hv h2
  obtain rfl := Option.some.inj (ranges_named.symm.trans e1)
  obtain rfl := Option.some.inj ((show (prog.globals[1]?).map (·.type) = some 224 by kernel_rfl).symm.trans e2)
  have e5 := SE underlying224 underlying223 underlying5 underlying5 ⟨rfl, rfl⟩ (by kernel_rfl) (by kernel_rfl) (by kernel_rfl) (by kernel_rfl) e4
  have := RF ranges_named e3
  rw [← Array.toArray_toList (xs := cs), e5] at this
  exact this
def XB (b : UInt8) : Bool := decide (128 ≤ b.toNat) && decide (b.toNat ≤ 191)
def lo2 (a : UInt8) : Nat := if a.toNat = 224 then 160 else if a.toNat = 240 then 144 else 128
def hi2 (a : UInt8) : Nat := if a.toNat = 237 then 159 else if a.toNat = 244 then 143 else 191
def mid (a b : UInt8) : Bool := decide (lo2 a ≤ b.toNat) && decide (b.toNat ≤ hi2 a)
def u2 (a : UInt8) : List UInt8 → Nat
 | b :: _ => if mid a b then 2 else 0
 | [] => 0
def u3 (a : UInt8) : List UInt8 → Nat
 | b :: c :: _ => if mid a b && XB c then 3 else 0
 | _ => 0
def u4 (a : UInt8) : List UInt8 → Nat
 | b :: c :: d :: _ => if mid a b && XB c && XB d then 4 else 0
 | _ => 0
def Q3 (a : UInt8) (r : List UInt8) : Nat := if a.toNat < 128 then 1 else if a.toNat < 194 then 0 else if a.toNat < 224 then u2 a r else if a.toNat < 240 then u3 a r else if a.toNat < 245 then u4 a r else 0
def LK : List UInt8 → Nat
 | [] => 0
 | a :: r => Q3 a r
theorem J1 (a : UInt8) (r : List UInt8) : LK (a :: r) = Q3 a r := rfl
def bD : Nat → List UInt8 → Bool
 | 0, l => l.isEmpty
 | n + 1, l => l.isEmpty || (LK l != 0 && bD n (l.drop (LK l)))
def utf (l : List UInt8) : Bool := bD l.length l
theorem TB : ∀ (n m : Nat) (l : List UInt8), l.length ≤ n → l.length ≤ m → bD n l = bD m l
 | 0, 0, _, _, _ => rfl
 | 0, m + 1, l, h, _ => by
  have : l = [] := List.eq_nil_of_length_eq_zero (by omega)
  subst this; rfl
 | n + 1, 0, l, _, h => by
  have : l = [] := List.eq_nil_of_length_eq_zero (by omega)
  subst this; rfl
 | n + 1, m + 1, l, h1, h2 => by
  unfold bD
  by_cases h0 : LK l = 0
  ·simp [h0]
  ·rw [TB n m (l.drop (LK l)) (by rw [List.length_drop]; omega) (by rw [List.length_drop]; omega)]
theorem VR (l : List UInt8) (h : l ≠ []) : utf l = (LK l != 0 && utf (l.drop (LK l))) := by
 unfold utf
 obtain ⟨a, r, rfl⟩ := List.exists_cons_of_ne_nil h
 rw [List.length_cons]
 conv => lhs; unfold bD
 by_cases h0 : LK (a :: r) = 0
 ·simp [h0]
 ·rw [TB r.length _ _ (by rw [List.length_drop, List.length_cons]; omega) (Nat.le_refl _)]
  simp
theorem pI (l : List UInt8) (n : Nat) (hn : n ≠ 0) (h0 : LK l = n) : utf l = utf (l.drop n) := by
 have h : l ≠ [] := fun e => by subst e; exact hn h0.symm
 rw [VR l h, h0]
 simp [hn]
open Go.Lib
theorem YS (a : UInt8) (r : List UInt8) (h : 128 ≤ a.toNat) :
 checkN (a :: r).length ((a :: r).getD 1 0).toNat ((a :: r).getD 2 0).toNat ((a :: r).getD 3 0).toNat (firstT a.toNat % 8) (accLo (firstT a.toNat / 16)) (accHi (firstT a.toNat / 16)) = if LK (a :: r) = 0 then none else some (LK (a :: r)) := by
 have ha := a.toNat_lt
 by_cases c0 : a.toNat < 194
 ·have hu : LK (a :: r) = 0 := by rw [J1, Q3, if_neg (by omega), if_pos c0]
  rw [hu, if_pos rfl]
  simp [firstT, checkN, show ¬ a.toNat < 128 by omega, c0]
 have fin2 : ∀ x lo hi, firstT a.toNat = x → x % 8 = 2 → accLo (x / 16) = lo → accHi (x / 16) = hi → lo = lo2 a → hi = hi2 a → checkN (a :: r).length ((a :: r).getD 1 0).toNat ((a :: r).getD 2 0).toNat ((a :: r).getD 3 0).toNat (firstT a.toNat % 8) (accLo (firstT a.toNat / 16)) (accHi (firstT a.toNat / 16)) = if u2 a r = 0 then none else some (u2 a r) := by
  intro x lo hi e1 e2 e3 e4 e5 e6
  rw [e1, e2, e3, e4]
  unfold checkN
  rw [if_pos rfl]
  match r with
  | [] => simp [u2]
  | b :: r =>
   have : mid a b = decide (lo ≤ b.toNat ∧ b.toNat ≤ hi) := by rw [e5, e6]; simp [mid]
   rw [u2, this]
   by_cases hb : lo ≤ b.toNat ∧ b.toNat ≤ hi
   ·simp [hb]
   ·simp only [hb]; simp <;> omega
 have fin3 : ∀ x lo hi, firstT a.toNat = x → x % 8 = 3 → accLo (x / 16) = lo → accHi (x / 16) = hi → lo = lo2 a → hi = hi2 a → checkN (a :: r).length ((a :: r).getD 1 0).toNat ((a :: r).getD 2 0).toNat ((a :: r).getD 3 0).toNat (firstT a.toNat % 8) (accLo (firstT a.toNat / 16)) (accHi (firstT a.toNat / 16)) = if u3 a r = 0 then none else some (u3 a r) := by
  intro x lo hi e1 e2 e3 e4 e5 e6
  rw [e1, e2, e3, e4]
  unfold checkN
  rw [if_neg (by omega), if_pos rfl]
  match r with
  | [] => simp [u3]
  | [b] => simp [u3]
  | b :: c :: r =>
   have : (mid a b && XB c) = decide (lo ≤ b.toNat ∧ b.toNat ≤ hi ∧ 128 ≤ c.toNat ∧ c.toNat ≤ 191) := by
    rw [e5, e6, Bool.eq_iff_iff]; unfold mid XB; constructor <;> intro h <;> simp at h ⊢ <;> omega
   rw [u3, this]
   by_cases hb : lo ≤ b.toNat ∧ b.toNat ≤ hi ∧ 128 ≤ c.toNat ∧ c.toNat ≤ 191
   ·simp [hb]
   ·simp only [hb]; simp <;> omega
 have fin4 : ∀ x lo hi, firstT a.toNat = x → x % 8 = 4 → accLo (x / 16) = lo → accHi (x / 16) = hi → lo = lo2 a → hi = hi2 a → checkN (a :: r).length ((a :: r).getD 1 0).toNat ((a :: r).getD 2 0).toNat ((a :: r).getD 3 0).toNat (firstT a.toNat % 8) (accLo (firstT a.toNat / 16)) (accHi (firstT a.toNat / 16)) = if u4 a r = 0 then none else some (u4 a r) := by
  intro x lo hi e1 e2 e3 e4 e5 e6
  rw [e1, e2, e3, e4]
  unfold checkN
  rw [if_neg (by omega), if_neg (by omega), if_pos rfl]
  match r with
  | [] => simp [u4]
  | [b] => simp [u4]
  | [b, c] => simp [u4]
  | b :: c :: d :: r =>
   have : (mid a b && XB c && XB d) = decide (lo ≤ b.toNat ∧ b.toNat ≤ hi ∧ 128 ≤ c.toNat ∧ c.toNat ≤ 191 ∧ 128 ≤ d.toNat ∧ d.toNat ≤ 191) := by
    rw [e5, e6, Bool.eq_iff_iff]; unfold mid XB; constructor <;> intro h <;> simp at h ⊢ <;> omega
   rw [u4, this]
   by_cases hb : lo ≤ b.toNat ∧ b.toNat ≤ hi ∧ 128 ≤ c.toNat ∧ c.toNat ≤ 191 ∧ 128 ≤ d.toNat ∧ d.toNat ≤ 191
   ·simp [hb]
   ·simp only [hb]; simp <;> omega
 by_cases c1 : a.toNat < 224
 ·rw [show LK (a :: r) = u2 a r by rw [J1, Q3, if_neg (by omega), if_neg c0, if_pos c1]]
  exact fin2 2 128 191 (by simp [firstT, show ¬ a.toNat < 128 by omega, c0, c1]) rfl rfl rfl (by unfold lo2; rw [if_neg (by omega), if_neg (by omega)]) (by unfold hi2; rw [if_neg (by omega), if_neg (by omega)])
 by_cases c5 : a.toNat < 240
 ·rw [show LK (a :: r) = u3 a r by rw [J1, Q3, if_neg (by omega), if_neg c0, if_neg c1, if_pos c5]]
  by_cases c2 : a.toNat = 224
  ·exact fin3 19 160 191 (by rw [c2]; rfl) rfl rfl rfl (by unfold lo2; rw [if_pos c2]) (by unfold hi2; rw [if_neg (by omega), if_neg (by omega)])
  by_cases c4 : a.toNat = 237
  ·exact fin3 35 128 159 (by rw [c4]; rfl) rfl rfl rfl (by unfold lo2; rw [if_neg (by omega), if_neg (by omega)]) (by unfold hi2; rw [if_pos c4])
  ·refine fin3 3 128 191 ?_ rfl rfl rfl (by unfold lo2; rw [if_neg (by omega), if_neg (by omega)]) (by unfold hi2; rw [if_neg (by omega), if_neg (by omega)])
   by_cases c3 : a.toNat < 237
   ·simp [firstT, show ¬ a.toNat < 128 by omega, c0, c1, c2, c3]
   ·simp [firstT, show ¬ a.toNat < 128 by omega, c0, c1, c2, c3, c4, c5]
 by_cases c9 : a.toNat < 245
 ·rw [show LK (a :: r) = u4 a r by rw [J1, Q3, if_neg (by omega), if_neg c0, if_neg c1, if_neg c5, if_pos c9]]
  by_cases c6 : a.toNat = 240
  ·exact fin4 52 144 191 (by rw [c6]; rfl) rfl rfl rfl (by unfold lo2; rw [if_neg (by omega), if_pos c6]) (by unfold hi2; rw [if_neg (by omega), if_neg (by omega)])
  by_cases c8 : a.toNat = 244
  ·exact fin4 68 128 143 (by rw [c8]; rfl) rfl rfl rfl (by unfold lo2; rw [if_neg (by omega), if_neg (by omega)]) (by unfold hi2; rw [if_neg (by omega), if_pos c8])
  ·exact fin4 4 128 191 (by simp [firstT, show ¬ a.toNat < 128 by omega, c0, c1, show ¬ a.toNat = 224 by omega, show ¬ a.toNat < 237 by omega, show ¬ a.toNat = 237 by omega, c5, c6, show a.toNat < 244 by omega]) rfl rfl rfl (by unfold lo2; rw [if_neg (by omega), if_neg (by omega)]) (by unfold hi2; rw [if_neg (by omega), if_neg (by omega)])
 ·rw [show LK (a :: r) = 0 by rw [J1, Q3, if_neg (by omega), if_neg c0, if_neg c1, if_neg c5, if_neg c9], if_pos rfl]
  simp [firstT, checkN, show ¬ a.toNat < 128 by omega, c0, c1, show ¬ a.toNat = 224 by omega, show ¬ a.toNat < 237 by omega, show ¬ a.toNat = 237 by omega, c5, show ¬ a.toNat = 240 by omega, show ¬ a.toNat < 244 by omega, show ¬ a.toNat = 244 by omega]
theorem XW : ∀ (n : Nat) (l : List UInt8), l.length ≤ n → validD l = utf l
 | 0, l, h => by
  obtain rfl : l = [] := List.eq_nil_of_length_eq_zero (by omega)
  rfl
 | n + 1, [], _ => rfl
 | n + 1, a :: r, h => by
  rw [List.length_cons] at h
  by_cases c : a.toNat < 128
  ·rw [validD_cons a r c, pI (a :: r) 1 (by omega) (by rw [J1, Q3, if_pos c])]
   exact XW n r (by omega)
  ·rw [validD_lead (a :: r) (by simp) (by show 128 ≤ a.toNat; omega)]
   have := YS a r (by omega)
   simp only [List.getD_cons_zero] at this ⊢
   rw [this, VR (a :: r) (by simp)]
   by_cases c0 : LK (a :: r) = 0
   ·rw [if_pos c0, c0]; rfl
   ·rw [if_neg c0]
    rw [show (LK (a :: r) != 0) = true by simp [c0], Bool.true_and]
    exact XW n _ (by rw [List.length_drop, List.length_cons]; omega)
section
section
variable {P : Program} {e : Env} {w : World} {n : Nat}
theorem FB {fn : Func} {R : Ending → World → Prop} {t ty g m : Nat} {d : TypeDesc} {xs : List Value} (hr : fn.results = #[.cell t ty]) (hv : e.get t = some (.pointer (some ⟨g, 0, none⟩))) (hrd : Rd w (some ⟨g, 0, none⟩) m xs) (hu : P.underlying ty = some d) (hd : d.isRow = true) (hi : (P.info? ty).map (·.size) = some m)
 (h : R (.returned (.agg xs.toArray)) w) : QX (bodyPost P fn R) .ret n e w := .mk fun a ha => by
 have hc : w.rangeAt g 0 xs := fun j v hv => by
  have hj : 0 < m := by have := (List.getElem?_eq_some_iff.1 hv).1; have := hrd.1; omega
  obtain ⟨b', off', e, hc⟩ := hrd.2 hj
  injection e with e; injection e with e1 e2 _; subst e1; subst e2
  exact hc j v hv
 have hrun := run_loadVar_mid (P := P) w g 0 ty xs d hc hu hd (by rw [hrd.1]; exact hi)
 have : (results fn a.tmps).run P w = .ok (.agg xs.toArray) w := by simp [results, hr, ha.get t _ hv, asAddr, hrun]
 exact ⟨ha.defers, _, this, h⟩
end
def tabN (n : Nat) : Nat := if (decide (65 ≤ n) && decide (n ≤ 90)) || (decide (97 ≤ n) && decide (n ≤ 122)) then 2 else if ((decide (48 ≤ n) && decide (n ≤ 57)) || n == 45 || n == 95 || n == 46) then 1 else 0
def tabL : List Value := (List.range 256).map fun n => .int .u8 (tabN n : Int)
def sG : Value := .agg tabL.toArray
def tbF (f : Nat → Nat) : List Value := (List.range 256).map fun n => .int .u8 (f n : Int)
theorem IC (f : Nat → Nat) : (tbF f).length = 256 := by unfold tbF; rw [List.length_map, List.length_range]
theorem m2 (f : Nat → Nat) : ∀ u ∈ tbF f, u.oneCell' = true := by
 intro u hu
 obtain ⟨n, _, rfl⟩ := List.mem_map.1 hu
 rfl
theorem PC {f g : Nat → Nat} (h : ∀ n, n < 256 → f n = g n) : tbF f = tbF g := by
 unfold tbF
 exact List.map_congr_left fun n hn => by rw [h n (List.mem_range.1 hn)]
theorem PB {f : Nat → Nat} {k c off : Nat} (ho : off = k) : (tbF f).set off (.int .u8 (c : Int)) = tbF fun n => if n = k then c else f n := by
 subst ho
 apply List.ext_getElem?
 intro n
 rw [List.getElem?_set]
 unfold tbF
 by_cases h : off = n
 ·subst h
  by_cases hl : off < 256
  ·simp [hl]
  ·simp [hl]
 ·rw [if_neg h]
  by_cases hl : n < 256
  ·have hn : ¬ n = off := fun e => h e.symm
   simp [hl, hn]
  ·simp [hl]
def tb1 (i n : Nat) : Nat := if (97 ≤ n ∧ n < 97 + i) ∨ (65 ≤ n ∧ n < 65 + i) then 2 else 0
def tb2 (j n : Nat) : Nat := if 48 ≤ n ∧ n < 48 + j then 1 else tb1 26 n
theorem f7 {i : Nat} : tbF (fun n => if n = (((65 + i : Nat) : Int) : Int).toNat then 2 else (fun n => if n = (((97 + i : Nat) : Int) : Int).toNat then 2 else (tb1 i) n) n) = tbF (tb1 (i + 1)) := PC fun n _ => by
 unfold tb1
 simp only [Int.toNat_natCast]
 repeat' split
 all_goals first
  | rfl
  | (exfalso; omega)
theorem f6 {j : Nat} : tbF (fun n => if n = (((48 + j : Nat) : Int) : Int).toNat then 1 else (tb2 j) n) = tbF (tb2 (j + 1)) := PC fun n _ => by
 unfold tb2
 simp only [Int.toNat_natCast]
 repeat' split
 all_goals first
  | rfl
  | (exfalso; omega)
theorem sF : tbF (tb1 26) = tbF (tb2 0) := PC fun n _ => by
 unfold tb2
 rw [if_neg (by omega)]
theorem f8 : tbF (fun n => if n = (46 : Int).toNat then 1 else (fun n => if n = (95 : Int).toNat then 1 else (fun n => if n = (45 : Int).toNat then 1 else (tb2 10) n) n) n) = tabL := by kernel_rfl
theorem m1 : (prog.info? 176).map (·.zero) = some (some (.agg (tbF (tb1 0)).toArray)) := by kernel_rfl
theorem TF : (prog.info? 5).map (·.size) = some 1 := by kernel_rfl
theorem UC : (prog.info? 176).map (·.size) = some 256 := by kernel_rfl
theorem Y1 (w : World) :
 Calls prog 125 #[] w fun e w' => e = .returned sG ∧ Fr0 w w' := by
 refine BE (vs := []) func125 rfl ntmps125 rfl ?_
 have M := NP w
 refine srg (DJ M (AA rfl) rfl rfl 176 rfl (tbF (tb1 0)) m1 rfl fun g0 w1 hg0 M => nq (AF (srg (yb rfl (nq (AS (G0 (fun e wr mz => ∃ (i : Nat), e = [(0, .pointer (some ⟨g0, 0, none⟩)), (3, .int .i64 ((i : Nat) : Int))] ∧ Mem w B0 [As.blk g0 176 (tbF (tb1 i))] wr ∧ (i ≤ 26) ∧ mz = 26 - i) ⟨0, rfl, M, Nat.zero_le _, rfl⟩ ⟨rfl, rfl, trivial⟩ ?_)))))))
 rintro _ w2 _ ⟨i, rfl, M, hi, rfl⟩
 refine srg (ya rfl (ED rfl rfl rfl) (nq (AF (AL (b := (decide (((i : Nat) : Int) < (26 : Int)))) rfl (fun h4 => ?_) (fun h4 => ?_)))))
 ·have h4p := (odt h4)
  refine AI (AD (AF (AS (srg (yb rfl (yb rfl (nq (AK (yb rfl (ya rfl (BO rfl rfl rfl (by omega)) (yb rfl (ya rfl (BO rfl rfl rfl (by omega)) (ya rfl (FG rfl rfl rfl (ar rfl) (by omega)) ?_)))))))))))))
  refine D0 (cs' := tbF (fun n => if n = (((97 + i : Nat) : Int) : Int).toNat then 2 else (tb1 i) n)) M 0 (AA rfl) rfl rfl rfl rfl rfl rfl rfl TF (by rw [IC]; omega) (PB (by omega)) fun w3 M => ya rfl (FG rfl rfl rfl (ar rfl) (by omega)) (D0 (cs' := tbF (fun n => if n = (((65 + i : Nat) : Int) : Int).toNat then 2 else (fun n => if n = (((97 + i : Nat) : Int) : Int).toNat then 2 else (tb1 i) n) n)) M 0 (AA rfl) rfl rfl rfl rfl rfl rfl rfl TF (by rw [IC]; omega) (PB (by omega)) fun w4 M => AR (AE (AD (AK (ya rfl (BO rfl rfl rfl (by omega)) (yb rfl (AR ?_)))))))
  rw [f7] at M
  refine FH [(0, .pointer (some ⟨g0, 0, none⟩)), (3, .int .i64 (((i + 1) : Nat) : Int))] (26 - (i + 1)) ⟨i + 1, rfl, M, ?_, rfl⟩ (by first | omega | (simp only [List.length_append, List.length_cons, List.length_nil]; omega)) ⟨rfl, rfl, trivial⟩
  ·omega
 ·have h4p := (odf h4)
  refine BF (AG (AG ?_))
  obtain rfl : i = 26 := by omega
  rw [sF] at M
  refine AV (AD (AF (srg (yb rfl (nq (AS (G0 (fun e wr mz => ∃ (j : Nat), e = [(0, .pointer (some ⟨g0, 0, none⟩)), (13, .int .i64 ((j : Nat) : Int))] ∧ Mem w B0 [As.blk g0 176 (tbF (tb2 j))] wr ∧ (j ≤ 10) ∧ mz = 10 - j) ⟨0, rfl, M, Nat.zero_le _, rfl⟩ ⟨rfl, rfl, trivial⟩ ?_)))))))
  rintro _ w5 _ ⟨j, rfl, M, hj, rfl⟩
  refine srg (ya rfl (ED rfl rfl rfl) (nq (AF (AL (b := (decide (((j : Nat) : Int) < (10 : Int)))) rfl (fun h14 => ?_) (fun h14 => ?_)))))
  ·have h14p := (odt h14)
   refine AI (AD (AF (AS (srg (yb rfl (yb rfl (nq (AK (yb rfl (ya rfl (BO rfl rfl rfl (by omega)) (ya rfl (FG rfl rfl rfl (ar rfl) (by omega)) (D0 (cs' := tbF (fun n => if n = (((48 + j : Nat) : Int) : Int).toNat then 1 else (tb2 j) n)) M 0 (AA rfl) rfl rfl rfl rfl rfl rfl rfl TF (by rw [IC]; omega) (PB (by omega)) fun w6 M => ?_))))))))))))
   refine AR (AE (AD (AK (ya rfl (BO rfl rfl rfl (by omega)) (yb rfl (AR ?_))))))
   rw [f6] at M
   refine FH [(0, .pointer (some ⟨g0, 0, none⟩)), (13, .int .i64 (((j + 1) : Nat) : Int))] (10 - (j + 1)) ⟨j + 1, rfl, M, ?_, rfl⟩ (by first | omega | (simp only [List.length_append, List.length_cons, List.length_nil]; omega)) ⟨rfl, rfl, trivial⟩
   ·omega
  ·have h14p := (odf h14)
   refine BF (AG (AG ?_))
   obtain rfl : j = 10 := by omega
   refine AV (AD (srg (ya rfl (FG rfl rfl rfl (ar rfl) (by omega)) (D0 (cs' := tbF (fun n => if n = (45 : Int).toNat then 1 else (tb2 10) n)) M 0 (AA rfl) rfl rfl rfl rfl rfl rfl rfl TF (by rw [IC]; omega) (PB (by omega)) fun w7 M => ya rfl (FG rfl rfl rfl (ar rfl) (by omega)) (D0 (cs' := tbF (fun n => if n = (95 : Int).toNat then 1 else (fun n => if n = (45 : Int).toNat then 1 else (tb2 10) n) n)) M 0 (AA rfl) rfl rfl rfl rfl rfl rfl rfl TF (by rw [IC]; omega) (PB (by omega)) fun w8 M => ya rfl (FG rfl rfl rfl (ar rfl) (by omega)) (D0 (cs' := tbF (fun n => if n = (46 : Int).toNat then 1 else (fun n => if n = (95 : Int).toNat then 1 else (fun n => if n = (45 : Int).toNat then 1 else (tb2 10) n) n) n)) M 0 (AA rfl) rfl rfl rfl rfl rfl rfl rfl TF (by rw [IC]; omega) (PB (by omega)) fun w9 M => nq (AF ?_)))))))
   exact AK (ya rfl (AU (xs := tbF (fun n => if n = (46 : Int).toNat then 1 else (fun n => if n = (95 : Int).toNat then 1 else (fun n => if n = (45 : Int).toNat then 1 else (tb2 10) n) n) n)) rfl rfl (M.rdBlk 0 rfl (IC _)) underlying176 rfl UC) (D7 (cs' := (tbF (fun n => if n = (46 : Int).toNat then 1 else (fun n => if n = (95 : Int).toNat then 1 else (fun n => if n = (45 : Int).toNat then 1 else (tb2 10) n) n) n))) M 0 (AA rfl) rfl rfl rfl rfl rfl UC (IC _) (by rw [IC]; decide) (m2 _) (KV _ _ rfl) fun w10 M => nq (BN (FB rfl rfl (M.rdBlk 0 rfl (IC _)) underlying176 rfl UC ⟨by rw [f8]; rfl, M.fr⟩))))
end
structure Vl where
 kind : UInt8
 int : Int
 bool : Bool
 text : List UInt8
def Vl.cells (v : Vl) : List Value := [bv v.kind, .int .i64 v.int, .bool v.bool, str v.text]
def Vl.val (v : Vl) : Value := .agg v.cells.toArray
def Vl.same (a b : Vl) : Bool := decide ((a.kind.toNat : Int) = b.kind.toNat) && (decide (a.int = b.int) && ((a.bool == b.bool) && decide (a.text = b.text)))
theorem Vl.cells_one (v : Vl) : ∀ u ∈ v.cells, u.oneCell' = true := by
 intro u hu
 simp only [Vl.cells, List.mem_cons, List.not_mem_nil, or_false] at hu
 rcases hu with rfl | rfl | rfl | rfl <;> rfl
def zeroVl : Vl := ⟨0, 0, false, []⟩
theorem NG : (prog.info? 45).map (·.zero) = some (some zeroVl.val) := by kernel_rfl
theorem FW : (prog.info? 45).map (·.size) = some 4 := by kernel_rfl
theorem UP (n : Int) : prog.built 45 [(0, .int .u8 1), (1, .int .i64 n)] = some (Vl.cells ⟨1, n, false, []⟩).toArray := by kernel_rfl
theorem VT (b : Bool) : prog.built 45 [(0, .int .u8 2), (2, .bool b)] = some (Vl.cells ⟨2, 0, b, []⟩).toArray := by kernel_rfl
theorem VK (l : List UInt8) : prog.built 45 [(0, .int .u8 3), (3, str l)] = some (Vl.cells ⟨3, 0, false, l⟩).toArray := by kernel_rfl
theorem PH (i : Int) (w : World) : Calls prog 120 #[.int .i64 i] w fun e w' => e = .returned (Vl.val ⟨1, i, false, []⟩) ∧ Fr0 w w' := by
 refine BE (vs := [_]) func120 rfl ntmps120 rfl (srg (CH (some 2) (AA rfl) rfl rfl (fun ρ hρ => D9 45 rfl _ _ NG rfl) ?_))
 rintro _ w1 ⟨g, rfl, hg1, hg2, hb, hf⟩
 refine nq (srg (yb rfl (ya rfl (BA rfl rfl (UP i)) (CH none (AA rfl) rfl rfl (fun ρ hρ => C2 45 (.tmp 2) (.tmp 4) rfl g 0 45 _ (Vl.cells ⟨1, i, false, []⟩) (hρ _ _ rfl) (hρ _ _ rfl) hb FW (by show 0 + 4 ≤ 4; omega) (Vl.cells_one _)) ?_))))
 rintro _ w2 ⟨rfl, hb2, hf2⟩
 rw [KV zeroVl.cells (Vl.cells ⟨1, i, false, []⟩) rfl] at hb2
 exact nq (BN (FB rfl rfl (Rd.ofBlk hb2 rfl) underlying45 rfl FW ⟨rfl, hf.step hf2 (fun k hk e => by omega)⟩))
theorem O9 (i : Bool) (w : World) : Calls prog 121 #[.bool i] w fun e w' => e = .returned (Vl.val ⟨2, 0, i, []⟩) ∧ Fr0 w w' := by
 refine BE (vs := [_]) func121 rfl ntmps121 rfl (srg (CH (some 2) (AA rfl) rfl rfl (fun ρ hρ => D9 45 rfl _ _ NG rfl) ?_))
 rintro _ w1 ⟨g, rfl, hg1, hg2, hb, hf⟩
 refine nq (srg (yb rfl (ya rfl (BA rfl rfl (VT i)) (CH none (AA rfl) rfl rfl (fun ρ hρ => C2 45 (.tmp 2) (.tmp 4) rfl g 0 45 _ (Vl.cells ⟨2, 0, i, []⟩) (hρ _ _ rfl) (hρ _ _ rfl) hb FW (by show 0 + 4 ≤ 4; omega) (Vl.cells_one _)) ?_))))
 rintro _ w2 ⟨rfl, hb2, hf2⟩
 rw [KV zeroVl.cells (Vl.cells ⟨2, 0, i, []⟩) rfl] at hb2
 exact nq (BN (FB rfl rfl (Rd.ofBlk hb2 rfl) underlying45 rfl FW ⟨rfl, hf.step hf2 (fun k hk e => by omega)⟩))
theorem VJ (i : List UInt8) (w : World) : Calls prog 122 #[str i] w fun e w' => e = .returned (Vl.val ⟨3, 0, false, i⟩) ∧ Fr0 w w' := by
 refine BE (vs := [_]) func122 rfl ntmps122 rfl (srg (CH (some 2) (AA rfl) rfl rfl (fun ρ hρ => D9 45 rfl _ _ NG rfl) ?_))
 rintro _ w1 ⟨g, rfl, hg1, hg2, hb, hf⟩
 refine nq (srg (yb rfl (ya rfl (BA rfl rfl (VK i)) (CH none (AA rfl) rfl rfl (fun ρ hρ => C2 45 (.tmp 2) (.tmp 4) rfl g 0 45 _ (Vl.cells ⟨3, 0, false, i⟩) (hρ _ _ rfl) (hρ _ _ rfl) hb FW (by show 0 + 4 ≤ 4; omega) (Vl.cells_one _)) ?_))))
 rintro _ w2 ⟨rfl, hb2, hf2⟩
 rw [KV zeroVl.cells (Vl.cells ⟨3, 0, false, i⟩) rfl] at hb2
 exact nq (BN (FB rfl rfl (Rd.ofBlk hb2 rfl) underlying45 rfl FW ⟨rfl, hf.step hf2 (fun k hk e => by omega)⟩))
theorem Q2 : prog.eqGuardType prog.depth 45 = false := by kernel_rfl
theorem R5 : prog.stoodInHeld 45 = false := by kernel_rfl
theorem O5 : prog.underlying 45 = some (.struct (prog.fieldsOf 45)) := by kernel_rfl
theorem BL {P : Program} {w : World} {f : Field} {fs : List Field} {d : Nat} {xs ys : Array Value} {a b : Value} {r : Bool} (hn : f.name ≠ "_") (ha : (part f.type xs f.offset).run P w = .ok a w) (hb : (part f.type ys f.offset).run P w = .ok b w)
 (hr : (Op.equalIn d f.type a b).run P w = .ok r w) : (Op.eqFields d xs ys (f :: fs)).run P w = if r then (Op.eqFields d xs ys fs).run P w else .ok false w := by
 simp only [Op.eqFields, if_pos hn, Sem.run_bind, ha, hb, hr, Result.andThen_ok]
 cases r <;> simp
theorem BH {P : Program} {w : World} {t : TypeId} {xs : Array Value} {off : Nat} {v : Value} (ha : (isAgg t).run P w = .ok false w) (hx : xs[off]? = some v) : (part t xs off).run P w = .ok v w := by simp [part, ha, hx]
theorem U7 {e : Env} {w : World} {o : Oper} {t' : Nat} {x y : Operand} {a b : Vl} (ho : o.op = .binOp .eql 45 x y t') (hx : ev e x = some a.val) (hy : ev e y = some b.val) : Y prog e o w (.bool (a.same b)) := fun ρ h => by
 have h1 : ρ x = .agg a.cells.toArray := h _ _ hx
 have h2 : ρ y = .agg b.cells.toArray := h _ _ hy
 have hg := run_eqGuard_agg (P := prog) w .eql 45 x y a.cells.toArray b.cells.toArray Q2
 have hrun : (Op.equalIn 10000 45 (.agg a.cells.toArray) (.agg b.cells.toArray)).run prog w = .ok (a.same b) w := by
  rw [run_equalIn_struct w 9999 45 _ _ O5 R5]
  have hl : (prog.fieldsOf 45).toList = (match prog.underlying 45 with | some (.struct fs) => fs.toList | _ => []) := by unfold Program.fieldsOf; rw [underlying45]
  rw [hl, underlying45]
  simp only
  rw [BL (a := .int .u8 (a.kind.toNat : Int)) (b := .int .u8 (b.kind.toNat : Int)) (by decide) (BH (isAgg5 w) rfl) (BH (isAgg5 w) rfl) (run_equalIn_int w 9998 5 _ _ _ _ underlying5),
   BL (a := .int .i64 a.int) (b := .int .i64 b.int) (by decide) (BH (isAgg2 w) rfl) (BH (isAgg2 w) rfl) (run_equalIn_int w 9998 2 _ _ _ _ underlying2),
   BL (a := .bool a.bool) (b := .bool b.bool) (by decide) (BH (isAgg4 w) rfl) (BH (isAgg4 w) rfl) (run_equalIn_bool' w 9998 4 _ _ underlying4),
   BL (a := str a.text) (b := str b.text) (by decide) (BH (isAgg9 w) rfl) (BH (isAgg9 w) rfl) (run_equalIn_string w 9998 9 _ _ underlying9)]
  have ht : ((⟨a.text.toArray⟩ : ByteArray).toList == (⟨b.text.toArray⟩ : ByteArray).toList) = decide (a.text = b.text) := by
   rw [ByteArray.toList_eq, ByteArray.toList_eq]
   by_cases h : a.text = b.text <;> simp [h]
  rw [ht]
  simp only [Op.eqFields, Sem.run_pure]
  unfold Vl.same
  by_cases h1 : (a.kind.toNat : Int) = b.kind.toNat <;> by_cases h2 : a.int = b.int <;> by_cases h3 : a.bool = b.bool <;> by_cases h4 : a.text = b.text <;> simp [h1, h2, h3, h4]
 unfold execOp
 simp only [ho, h1, h2, Sem.run_bind, hg, Result.andThen_ok, run_eql_struct, hrun]
 rfl
def GF (c : UInt8) : Bool := (97 ≤ c.toNat && c.toNat ≤ 122) || (65 ≤ c.toNat && c.toNat ≤ 90)
def LY (c : UInt8) : Bool := (48 ≤ c.toNat && c.toNat ≤ 57) || c.toNat == 45 || c.toNat == 95 || c.toNat == 46
def JD : Nat → List UInt8 → Bool
 | _, [] => true
 | i, c :: l => (GF c || (LY c && i != 0)) && JD (i + 1) l
def CT (l : List UInt8) : Bool := decide (1 ≤ l.length) && decide (l.length ≤ 32) && JD 0 l
section
structure Bd where
 name : List UInt8
 v : Vl
def Bd.cells (b : Bd) : List Value := str b.name :: b.v.cells
def rL (l : List Bd) : List (List Value) := l.map Bd.cells
def rY (l : List Bd) : List Value := (rL l).flatten
structure ElD (w : World) (b off : Nat) (x : Bd) : Prop where
 name : Cell w.heap b (off + 0) (str x.name)
 kind : Cell w.heap b (off + 1 + 0) (.int .u8 (x.v.kind.toNat : Int))
 val : Rd w (some ⟨b, off + 1, none⟩) 4 x.v.cells
 all : Rd w (some ⟨b, off, none⟩) 5 x.cells
theorem Bd.cells_one (b : Bd) : ∀ u ∈ b.cells, u.oneCell' = true := by
 intro u hu
 simp only [Bd.cells, Vl.cells, List.mem_cons, List.not_mem_nil, or_false] at hu
 rcases hu with rfl | rfl | rfl | rfl | rfl <;> rfl
def zeroBd : Bd := ⟨[], zeroVl⟩
section
variable {P : Program} {e : Env} {w : World} {n : Nat}
theorem B9 {fn : Func} {R : Ending → World → Prop} {t ty g m u : Nat} {v : Value} {d : TypeDesc} {xs : List Value} (hr : fn.results = #[.cell t ty, .tmp u]) (hv : e.get t = some (.pointer (some ⟨g, 0, none⟩))) (hrd : Rd w (some ⟨g, 0, none⟩) m xs) (hu : P.underlying ty = some d) (hd : d.isRow = true) (hi : (P.info? ty).map (·.size) = some m)
 (hv' : e.get u = some v) (h : R (.returned (.tuple #[.agg xs.toArray, v])) w) : QX (bodyPost P fn R) .ret n e w := .mk fun a ha => by
 have hc : w.rangeAt g 0 xs := fun j v hv => by
  have hj : 0 < m := by have := (List.getElem?_eq_some_iff.1 hv).1; have := hrd.1; omega
  obtain ⟨b', off', e, hc⟩ := hrd.2 hj
  injection e with e; injection e with e1 e2 _; subst e1; subst e2
  exact hc j v hv
 have hrun := run_loadVar_mid (P := P) w g 0 ty xs d hc hu hd (by rw [hrd.1]; exact hi)
 have : (results fn a.tmps).run P w = .ok (.tuple #[.agg xs.toArray, v]) w := by simp [results, hr, ha.get t _ hv, ha.get u _ hv', asAddr, hrun]
 exact ⟨ha.defers, _, this, h⟩
theorem LX {fn : Func} {R : Ending → World → Prop} {t ty g m u u2 : Nat} {v v2 : Value} {d : TypeDesc} {xs : List Value} (hr : fn.results = #[.cell t ty, .tmp u, .tmp u2]) (hv : e.get t = some (.pointer (some ⟨g, 0, none⟩))) (hrd : Rd w (some ⟨g, 0, none⟩) m xs) (hu : P.underlying ty = some d) (hd : d.isRow = true) (hi : (P.info? ty).map (·.size) = some m)
 (hv' : e.get u = some v) (hv2 : e.get u2 = some v2) (h : R (.returned (.tuple #[.agg xs.toArray, v, v2])) w) : QX (bodyPost P fn R) .ret n e w := .mk fun a ha => by
 have hc : w.rangeAt g 0 xs := fun j v hv => by
  have hj : 0 < m := by have := (List.getElem?_eq_some_iff.1 hv).1; have := hrd.1; omega
  obtain ⟨b', off', e, hc⟩ := hrd.2 hj
  injection e with e; injection e with e1 e2 _; subst e1; subst e2
  exact hc j v hv
 have hrun := run_loadVar_mid (P := P) w g 0 ty xs d hc hu hd (by rw [hrd.1]; exact hi)
 have : (results fn a.tmps).run P w = .ok (.tuple #[.agg xs.toArray, v, v2]) w := by simp [results, hr, ha.get t _ hv, ha.get u _ hv', ha.get u2 _ hv2, asAddr, hrun]
 exact ⟨ha.defers, _, this, h⟩
end
structure BdOk (l : List Bd) : Prop where
 len : (l.length : Int) < 4611686018427387904
 name : ∀ x ∈ l, (x.name.length : Int) < 4611686018427387904
 text : ∀ x ∈ l, (x.v.text.length : Int) < 4611686018427387904
end
structure El where
 id : List UInt8
 nm : List UInt8
 kind : UInt8
 inn : List UInt8
 dflt : List UInt8
 att : List UInt8
 ev : UInt8
 ref : List UInt8
 key : List UInt8
 ticks : Int
 tries : Int
def El.cells (x : El) : List Value := [str x.id, str x.nm, .int .u8 (x.kind.toNat : Int), str x.inn, str x.dflt, str x.att, .int .u8 (x.ev.toNat : Int), str x.ref, str x.key, .int .i64 x.ticks, .int .i64 x.tries]
theorem El.cells_one (x : El) : ∀ u ∈ x.cells, u.oneCell' = true := BP rfl
theorem El.len (x : El) : x.cells.length = 11 := rfl
def zeroEl : El := ⟨[], [], 0, [], [], [], 0, [], [], 0, 0⟩
structure Fl where
 id : List UInt8
 frm : List UInt8
 tg : List UInt8
 cond : List UInt8
def Fl.cells (x : Fl) : List Value := [str x.id, str x.frm, str x.tg, str x.cond]
theorem Fl.cells_one (x : Fl) : ∀ u ∈ x.cells, u.oneCell' = true := BP rfl
theorem Fl.len (x : Fl) : x.cells.length = 4 := rfl
def zeroFl : Fl := ⟨[], [], [], []⟩
theorem Bd.len (x : Bd) : x.cells.length = 5 := rfl
theorem Vl.len (x : Vl) : x.cells.length = 4 := rfl
structure Md where
 id : List UInt8
 nm : List UInt8
 vars : List Bd
 els : List El
 fls : List Fl
structure MdA where
 V : Option Addr
 vc : Nat
 E : Option Addr
 ec : Nat
 F : Option Addr
 fc : Nat
def Md.cells (m : Md) (a : MdA) : List Value := [str m.id, str m.nm, .slice a.V m.vars.length a.vc, .slice a.E m.els.length a.ec, .slice a.F m.fls.length a.fc]
structure MdIn (w : World) (m : Md) (a : MdA) : Prop where
 vars : Rd w a.V (m.vars.length * 5) (AH Bd.cells m.vars)
 els : Rd w a.E (m.els.length * 11) (AH El.cells m.els)
 fls : Rd w a.F (m.fls.length * 4) (AH Fl.cells m.fls)
theorem MdIn.fr0 {w w' : World} {m : Md} {a : MdA} (h : MdIn w m a) (hf : Fr0 w w') : MdIn w' m a := ⟨h.vars.fr0 hf, h.els.fr0 hf, h.fls.fr0 hf⟩
structure ElOk (x : El) : Prop where
 id : (x.id.length : Int) < 4611686018427387904
 nm : (x.nm.length : Int) < 4611686018427387904
 inn : (x.inn.length : Int) < 4611686018427387904
 dflt : (x.dflt.length : Int) < 4611686018427387904
 att : (x.att.length : Int) < 4611686018427387904
 ref : (x.ref.length : Int) < 4611686018427387904
 key : (x.key.length : Int) < 4611686018427387904
structure FlOk (x : Fl) : Prop where
 id : (x.id.length : Int) < 4611686018427387904
 frm : (x.frm.length : Int) < 4611686018427387904
 tg : (x.tg.length : Int) < 4611686018427387904
 cond : (x.cond.length : Int) < 4611686018427387904
structure MdOk (m : Md) : Prop where
 id : (m.id.length : Int) < 4611686018427387904
 nm : (m.nm.length : Int) < 4611686018427387904
 vars : BdOk m.vars
 nels : m.els.length ≤ 200
 nfls : m.fls.length ≤ 400
 nvars : m.vars.length ≤ 200
 els : ∀ x ∈ m.els, ElOk x
 fls : ∀ x ∈ m.fls, FlOk x
theorem B6 : (prog.info? 69).map (·.zero) = some (some (.agg zeroEl.cells.toArray)) := by kernel_rfl
theorem B2 : (prog.info? 69).map (·.size) = some 11 := by kernel_rfl
theorem D3 : (prog.info? 72).map (·.size) = some 4 := by kernel_rfl
theorem FF : (prog.info? 72).map (·.zero) = some (some (.agg zeroFl.cells.toArray)) := by kernel_rfl
theorem C0 : (prog.info? 26).map (·.size) = some 5 := by kernel_rfl
theorem Q0 : (prog.info? 47).map (·.zero) = some (some (.agg zeroBd.cells.toArray)) := by kernel_rfl
theorem EY : (prog.info? 47).map (·.size) = some 5 := by kernel_rfl
theorem AC : (prog.info? 45).map (·.size) = some 4 := by kernel_rfl
theorem D1 : (prog.info? 9).map (fun i => (i.zero, i.size)) = some (some (str []), 1) := by kernel_rfl
theorem DG : (prog.info? 9).map (fun i => (i.zero, i.size, i.bytes)) = some (some (str []), 1, 16) := by kernel_rfl
structure PredJ {α : Type} (P : Program) (f : FuncId) (cs : List Value) (av : α → Value) (l : List α) (p : Nat → α → Bool) (S : Nat → Prop) (J : Nat → World → Prop) (w : World) : Prop where
 fn : ∀ (us : Array Value) (w : World), (callFunc f us).run P w = .ok (.enter f us) w
 call : ∀ (i : Nat) (x : α) (w1 : World), l[i]? = some x → Fr S w w1 → J i w1 → Calls P f (av x :: cs).toArray w1 fun e w2 => e = .returned (.bool (p i x)) ∧ J (i + 1) w2 ∧ Fr S w1 w2
 st : ∀ (i : Nat) (w1 w2 : World), Fr0 w1 w2 → J i w1 → J i w2
 old : ∀ g, S g → g < w.heap.size
def ixJ {α : Type} (p : Nat → α → Bool) : Nat → List α → Int
 | _, [] => -1
 | i, x :: r => if p i x = true then (i : Int) else ixJ p (i + 1) r
def ixN {α : Type} (p : Nat → α → Bool) : Nat → List α → Nat
 | i, [] => i
 | i, x :: r => if p i x = true then i + 1 else ixN p (i + 1) r
theorem JS {α : Type} (p : α → Bool) : ∀ (l : List α) (i : Nat), decide (0 ≤ ixJ (fun _ => p) i l) = l.any p
 | [], i => by simp [ixJ]
 | x :: r, i => by
  rw [ixJ, List.any_cons]
  by_cases h : p x = true
  ·rw [if_pos h, h]; simp
  ·rw [if_neg h, JS p r (i + 1)]; simp [h]
theorem ZV {α : Type} (p : Nat → α → Bool) : ∀ (l : List α) (i : Nat), ixJ p i l = -1 ∨ ∃ j x, ixJ p i l = ((i + j : Nat) : Int) ∧ l[j]? = some x ∧ p (i + j) x = true
 | [], i => .inl rfl
 | x :: r, i => by
  by_cases h : p i x = true
  ·right; exact ⟨0, x, by rw [ixJ, if_pos h]; rfl, rfl, h⟩
  ·rw [ixJ, if_neg h]
   rcases ZV p r (i + 1) with h1 | ⟨j, y, h1, h2, h3⟩
   ·exact .inl h1
   ·right; exact ⟨j + 1, y, by rw [h1]; congr 1; omega, h2, by rw [show i + (j + 1) = i + 1 + j by omega]; exact h3⟩
def ffN {α : Type} (p : Nat → α → Bool) : Nat → List α → Option α
 | _, [] => none
 | i, x :: r => if p i x = true then ffN p (i + 1) r else some x
theorem UT {α : Type} (p : Nat → α → Bool) : ∀ (l : List α) (i : Nat), (ixJ (fun i x => !(p i x)) i l = -1 ∧ ffN p i l = none) ∨ ∃ j x, ixJ (fun i x => !(p i x)) i l = ((i + j : Nat) : Int) ∧ l[j]? = some x ∧ ffN p i l = some x
 | [], i => .inl ⟨rfl, rfl⟩
 | x :: r, i => by
  by_cases h : p i x = true
  ·rw [ixJ, if_neg (by simp [h]), ffN, if_pos h]
   rcases UT p r (i + 1) with h1 | ⟨j, y, h1, h2, h3⟩
   ·exact .inl h1
   ·right; exact ⟨j + 1, y, by rw [h1]; congr 1; omega, h2, h3⟩
  ·right; exact ⟨0, x, by rw [ixJ, if_pos (by simp [h])]; rfl, rfl, by rw [ffN, if_neg h]⟩
theorem Mem.one {w : World} {g t : Nat} {cs : List Value} (h : Blk w g t cs) : Mem w (fun k => k = g) [As.blk g t cs] w where
 fr := Fr.refl
 ok i a hi := by
  cases i with
  | zero => simp only [List.getElem?_cons_zero, Option.some.injEq] at hi; subst hi; exact h
  | succ i => simp at hi
 lt i a hi g' hg' := by
  cases i with
  | zero =>
   simp only [List.getElem?_cons_zero, Option.some.injEq] at hi; subst hi
   simp only [As.blk, List.mem_singleton] at hg'; subst hg'
   exact ⟨h.lt, .inr rfl⟩
  | succ i => simp at hi
 apart i j a b hi hj hne := by
  cases i with
  | zero =>
   cases j with
   | zero => exact absurd rfl hne
   | succ j => simp at hj
  | succ i => simp at hi
theorem AZ : (prog.info? 75).map (·.size) = some 7 := by kernel_rfl
theorem QQ {α : Type} (cells : α → List Value) (hk : ∀ x, (cells x).length = 11) (A : Option Addr) (c : Nat) (l : List α) (hl : l.length ≤ 4611686018427387904) (f : FuncId) (cs : List Value) (p : Nat → α → Bool) (S : Nat → Prop) (J : Nat → World → Prop) (w : World) (hP : PredJ prog f cs (fun x => .agg (cells x).toArray) l p S J w) (hR : ∀ w1, Fr S w w1 → Rd w1 A (l.length * 11) (AH cells l)) (hJ : J 0 w) :
 Calls prog 33 #[.slice A l.length c, .func (.func f) #[] cs.toArray] w fun e w' => e = .returned (.int .i64 (ixJ p 0 l)) ∧ J (ixN p 0 l) w' ∧ Fr S w w' := by
 refine BE (vs := [_, _]) func33 rfl ntmps33 rfl ?_
 have M : Mem w S [] w := Mem.nil w
 refine srg (yb rfl (nq (AF (srg (yb rfl (ya rfl (C3 rfl rfl (sl rfl)) (yb rfl (nq (AS (G0 (fun e wr mz => ∃ (i : Nat), e = [(0, .slice A l.length c), (1, .func (.func f) #[] cs.toArray), (7, .int .i64 ((l.length : Nat) : Int)), (8, .int .i64 ((i : Nat) : Int))] ∧ Mem w S [] wr ∧ (i ≤ l.length) ∧ (J i wr) ∧ (ixJ p 0 l = ixJ p i (l.drop i)) ∧ (ixN p 0 l = ixN p i (l.drop i)) ∧ mz = l.length - i) ⟨0, rfl, M, Nat.zero_le _, hJ, rfl, rfl, rfl⟩ ⟨rfl, rfl, rfl, rfl, trivial⟩ ?_))))))))))
 rintro _ w1 _ ⟨i, rfl, M, hi, hJ, hr, hn, rfl⟩
 refine srg (ya rfl (ED rfl rfl rfl) (nq (AF (AL (b := (decide (((i : Nat) : Int) < ((l.length : Nat) : Int)))) rfl (fun h9 => ?_) (fun h9 => ?_)))))
 ·have h9p := (odt h9)
  refine AI (AD (AF (AS (srg (yb rfl (yb rfl (nq (srg (yb rfl (yb rfl (yb rfl ?_)))))))))))
  obtain ⟨x, hx⟩ := CC (l := l) (i := i) (by omega)
  obtain ⟨b_x, o_x, hA_x⟩ := BI (k := 11) (by omega) (hR _ M.fr) hx
  refine ya rfl (B1 i hA_x rfl rfl rfl (sl rfl) (by omega)) (ya rfl (AU rfl rfl (BV hk (hR _ M.fr) hA_x hx) underlying69 rfl B2) (B3 (some 16) (AA rfl) rfl rfl (BX rfl rfl rfl hP.fn) (hP.call i x _ hx M.fr hJ) ?_))
  rintro _ w9 ⟨rfl, hJ, hf9⟩
  refine ⟨_, rfl, ?_⟩
  have M : Mem w S [] w9 := Mem.ofFr (M.fr.trans hf9)
  refine nq (AL (b := (p i x)) rfl (fun h16 => ?_) (fun h16 => ?_))
  ·exact srg (yb rfl (yb rfl (nq (BN (AN (AB (AB (AN (AB (CQ rfl rfl ⟨by rw [hr, B7 hx, ixJ, if_pos h16], by rw [hn, B7 hx, ixN, if_pos h16]; exact hJ, M.fr⟩))))))))))
  ·refine AI ?_
   refine AE ?_
   refine AD ?_
   refine AK ?_
   refine ya rfl (BO rfl rfl rfl (by omega)) ?_
   refine yb rfl ?_
   refine AR ?_
   refine FH [(0, .slice A l.length c), (1, .func (.func f) #[] cs.toArray), (7, .int .i64 ((l.length : Nat) : Int)), (8, .int .i64 (((i + 1) : Nat) : Int))] (l.length - (i + 1)) ⟨i + 1, rfl, M, ?_, ?_, ?_, ?_, rfl⟩ (by first | omega | (simp only [List.length_append, List.length_cons, List.length_nil]; omega)) ⟨rfl, rfl, rfl, rfl, trivial⟩
   ·omega
   ·exact hJ
   ·rw [hr, B7 hx, ixJ, if_neg (I2 h16)]
   ·rw [hn, B7 hx, ixN, if_neg (I2 h16)]
 ·have h9p := (odf h9)
  refine BF (AG (AG (AV (AD (srg (yb rfl (nq (BN (CQ rfl rfl ?_)))))))))
  obtain rfl : i = l.length := by omega
  exact ⟨by rw [hr, List.drop_length]; rfl, by rw [hn, List.drop_length]; exact hJ, M.fr⟩
theorem kC {α : Type} (cells : α → List Value) (hk : ∀ x, (cells x).length = 11) (A : Option Addr) (c : Nat) (l : List α) (hl : l.length ≤ 4611686018427387904) (f : FuncId) (cs : List Value) (p : Nat → α → Bool) (S : Nat → Prop) (J : Nat → World → Prop) (w : World) (hP : PredJ prog f cs (fun x => .agg (cells x).toArray) l p S J w) (hR : ∀ w1, Fr S w w1 → Rd w1 A (l.length * 11) (AH cells l)) (hJ : J 0 w) :
 Calls prog 97 #[.slice A l.length c, .func (.func f) #[] cs.toArray] w fun e w' => e = .returned (.bool (decide (0 ≤ ixJ p 0 l))) ∧ J (ixN p 0 l) w' ∧ Fr S w w' := by
 refine BE (vs := [_, _]) func97 rfl ntmps97 rfl ?_
 have M : Mem w S [] w := Mem.nil w
 refine srg (yb rfl (nq (srg (yb rfl (yb rfl (B3 (some 7) (AA rfl) rfl rfl (AP rfl rfl call33) (QQ cells hk A c l hl f cs p S J _ hP hR hJ) ?_))))))
 rintro _ w9 ⟨rfl, hJ, hf9⟩
 refine ⟨_, rfl, ?_⟩
 have M : Mem w S [] w9 := Mem.ofFr hf9
 exact ya rfl (FQ rfl rfl rfl) (yb rfl (nq (BN (CQ rfl rfl ⟨rfl, hJ, M.fr⟩))))
theorem ZY {α : Type} (cells : α → List Value) (hk : ∀ x, (cells x).length = 4) (A : Option Addr) (c : Nat) (l : List α) (hl : l.length ≤ 4611686018427387904) (f : FuncId) (cs : List Value) (p : Nat → α → Bool) (S : Nat → Prop) (J : Nat → World → Prop) (w : World) (hP : PredJ prog f cs (fun x => .agg (cells x).toArray) l p S J w) (hR : ∀ w1, Fr S w w1 → Rd w1 A (l.length * 4) (AH cells l)) (hJ : J 0 w) :
 Calls prog 131 #[.slice A l.length c, .func (.func f) #[] cs.toArray] w fun e w' => e = .returned (.int .i64 (ixJ p 0 l)) ∧ J (ixN p 0 l) w' ∧ Fr S w w' := by
 refine BE (vs := [_, _]) func131 rfl ntmps131 rfl ?_
 have M : Mem w S [] w := Mem.nil w
 refine srg (yb rfl (nq (AF (srg (yb rfl (ya rfl (C3 rfl rfl (sl rfl)) (yb rfl (nq (AS (G0 (fun e wr mz => ∃ (i : Nat), e = [(0, .slice A l.length c), (1, .func (.func f) #[] cs.toArray), (7, .int .i64 ((l.length : Nat) : Int)), (8, .int .i64 ((i : Nat) : Int))] ∧ Mem w S [] wr ∧ (i ≤ l.length) ∧ (J i wr) ∧ (ixJ p 0 l = ixJ p i (l.drop i)) ∧ (ixN p 0 l = ixN p i (l.drop i)) ∧ mz = l.length - i) ⟨0, rfl, M, Nat.zero_le _, hJ, rfl, rfl, rfl⟩ ⟨rfl, rfl, rfl, rfl, trivial⟩ ?_))))))))))
 rintro _ w1 _ ⟨i, rfl, M, hi, hJ, hr, hn, rfl⟩
 refine srg (ya rfl (ED rfl rfl rfl) (nq (AF (AL (b := (decide (((i : Nat) : Int) < ((l.length : Nat) : Int)))) rfl (fun h9 => ?_) (fun h9 => ?_)))))
 ·have h9p := (odt h9)
  refine AI (AD (AF (AS (srg (yb rfl (yb rfl (nq (srg (yb rfl (yb rfl (yb rfl ?_)))))))))))
  obtain ⟨x, hx⟩ := CC (l := l) (i := i) (by omega)
  obtain ⟨b_x, o_x, hA_x⟩ := BI (k := 4) (by omega) (hR _ M.fr) hx
  refine ya rfl (B1 i hA_x rfl rfl rfl (sl rfl) (by omega)) (ya rfl (AU rfl rfl (BV hk (hR _ M.fr) hA_x hx) underlying72 rfl D3) (B3 (some 16) (AA rfl) rfl rfl (BX rfl rfl rfl hP.fn) (hP.call i x _ hx M.fr hJ) ?_))
  rintro _ w9 ⟨rfl, hJ, hf9⟩
  refine ⟨_, rfl, ?_⟩
  have M : Mem w S [] w9 := Mem.ofFr (M.fr.trans hf9)
  refine nq (AL (b := (p i x)) rfl (fun h16 => ?_) (fun h16 => ?_))
  ·exact srg (yb rfl (yb rfl (nq (BN (AN (AB (AB (AN (AB (CQ rfl rfl ⟨by rw [hr, B7 hx, ixJ, if_pos h16], by rw [hn, B7 hx, ixN, if_pos h16]; exact hJ, M.fr⟩))))))))))
  ·refine AI ?_
   refine AE ?_
   refine AD ?_
   refine AK ?_
   refine ya rfl (BO rfl rfl rfl (by omega)) ?_
   refine yb rfl ?_
   refine AR ?_
   refine FH [(0, .slice A l.length c), (1, .func (.func f) #[] cs.toArray), (7, .int .i64 ((l.length : Nat) : Int)), (8, .int .i64 (((i + 1) : Nat) : Int))] (l.length - (i + 1)) ⟨i + 1, rfl, M, ?_, ?_, ?_, ?_, rfl⟩ (by first | omega | (simp only [List.length_append, List.length_cons, List.length_nil]; omega)) ⟨rfl, rfl, rfl, rfl, trivial⟩
   ·omega
   ·exact hJ
   ·rw [hr, B7 hx, ixJ, if_neg (I2 h16)]
   ·rw [hn, B7 hx, ixN, if_neg (I2 h16)]
 ·have h9p := (odf h9)
  refine BF (AG (AG (AV (AD (srg (yb rfl (nq (BN (CQ rfl rfl ?_)))))))))
  obtain rfl : i = l.length := by omega
  exact ⟨by rw [hr, List.drop_length]; rfl, by rw [hn, List.drop_length]; exact hJ, M.fr⟩
theorem kB {α : Type} (cells : α → List Value) (hk : ∀ x, (cells x).length = 4) (A : Option Addr) (c : Nat) (l : List α) (hl : l.length ≤ 4611686018427387904) (f : FuncId) (cs : List Value) (p : Nat → α → Bool) (S : Nat → Prop) (J : Nat → World → Prop) (w : World) (hP : PredJ prog f cs (fun x => .agg (cells x).toArray) l p S J w) (hR : ∀ w1, Fr S w w1 → Rd w1 A (l.length * 4) (AH cells l)) (hJ : J 0 w) :
 Calls prog 87 #[.slice A l.length c, .func (.func f) #[] cs.toArray] w fun e w' => e = .returned (.bool (decide (0 ≤ ixJ p 0 l))) ∧ J (ixN p 0 l) w' ∧ Fr S w w' := by
 refine BE (vs := [_, _]) func87 rfl ntmps87 rfl ?_
 have M : Mem w S [] w := Mem.nil w
 refine srg (yb rfl (nq (srg (yb rfl (yb rfl (B3 (some 7) (AA rfl) rfl rfl (AP rfl rfl call131) (ZY cells hk A c l hl f cs p S J _ hP hR hJ) ?_))))))
 rintro _ w9 ⟨rfl, hJ, hf9⟩
 refine ⟨_, rfl, ?_⟩
 have M : Mem w S [] w9 := Mem.ofFr hf9
 exact ya rfl (FQ rfl rfl rfl) (yb rfl (nq (BN (CQ rfl rfl ⟨rfl, hJ, M.fr⟩))))
theorem QR {α : Type} (cells : α → List Value) (hk : ∀ x, (cells x).length = 5) (A : Option Addr) (c : Nat) (l : List α) (hl : l.length ≤ 4611686018427387904) (f : FuncId) (cs : List Value) (p : Nat → α → Bool) (S : Nat → Prop) (J : Nat → World → Prop) (w : World) (hP : PredJ prog f cs (fun x => .agg (cells x).toArray) l p S J w) (hR : ∀ w1, Fr S w w1 → Rd w1 A (l.length * 5) (AH cells l)) (hJ : J 0 w) :
 Calls prog 126 #[.slice A l.length c, .func (.func f) #[] cs.toArray] w fun e w' => e = .returned (.int .i64 (ixJ p 0 l)) ∧ J (ixN p 0 l) w' ∧ Fr S w w' := by
 refine BE (vs := [_, _]) func126 rfl ntmps126 rfl ?_
 have M : Mem w S [] w := Mem.nil w
 refine srg (yb rfl (nq (AF (srg (yb rfl (ya rfl (C3 rfl rfl (sl rfl)) (yb rfl (nq (AS (G0 (fun e wr mz => ∃ (i : Nat), e = [(0, .slice A l.length c), (1, .func (.func f) #[] cs.toArray), (7, .int .i64 ((l.length : Nat) : Int)), (8, .int .i64 ((i : Nat) : Int))] ∧ Mem w S [] wr ∧ (i ≤ l.length) ∧ (J i wr) ∧ (ixJ p 0 l = ixJ p i (l.drop i)) ∧ (ixN p 0 l = ixN p i (l.drop i)) ∧ mz = l.length - i) ⟨0, rfl, M, Nat.zero_le _, hJ, rfl, rfl, rfl⟩ ⟨rfl, rfl, rfl, rfl, trivial⟩ ?_))))))))))
 rintro _ w1 _ ⟨i, rfl, M, hi, hJ, hr, hn, rfl⟩
 refine srg (ya rfl (ED rfl rfl rfl) (nq (AF (AL (b := (decide (((i : Nat) : Int) < ((l.length : Nat) : Int)))) rfl (fun h9 => ?_) (fun h9 => ?_)))))
 ·have h9p := (odt h9)
  refine AI (AD (AF (AS (srg (yb rfl (yb rfl (nq (srg (yb rfl (yb rfl (yb rfl ?_)))))))))))
  obtain ⟨x, hx⟩ := CC (l := l) (i := i) (by omega)
  obtain ⟨b_x, o_x, hA_x⟩ := BI (k := 5) (by omega) (hR _ M.fr) hx
  refine ya rfl (B1 i hA_x rfl rfl rfl (sl rfl) (by omega)) (ya rfl (AU rfl rfl (BV hk (hR _ M.fr) hA_x hx) underlying47 rfl EY) (B3 (some 16) (AA rfl) rfl rfl (BX rfl rfl rfl hP.fn) (hP.call i x _ hx M.fr hJ) ?_))
  rintro _ w9 ⟨rfl, hJ, hf9⟩
  refine ⟨_, rfl, ?_⟩
  have M : Mem w S [] w9 := Mem.ofFr (M.fr.trans hf9)
  refine nq (AL (b := (p i x)) rfl (fun h16 => ?_) (fun h16 => ?_))
  ·exact srg (yb rfl (yb rfl (nq (BN (AN (AB (AB (AN (AB (CQ rfl rfl ⟨by rw [hr, B7 hx, ixJ, if_pos h16], by rw [hn, B7 hx, ixN, if_pos h16]; exact hJ, M.fr⟩))))))))))
  ·refine AI ?_
   refine AE ?_
   refine AD ?_
   refine AK ?_
   refine ya rfl (BO rfl rfl rfl (by omega)) ?_
   refine yb rfl ?_
   refine AR ?_
   refine FH [(0, .slice A l.length c), (1, .func (.func f) #[] cs.toArray), (7, .int .i64 ((l.length : Nat) : Int)), (8, .int .i64 (((i + 1) : Nat) : Int))] (l.length - (i + 1)) ⟨i + 1, rfl, M, ?_, ?_, ?_, ?_, rfl⟩ (by first | omega | (simp only [List.length_append, List.length_cons, List.length_nil]; omega)) ⟨rfl, rfl, rfl, rfl, trivial⟩
   ·omega
   ·exact hJ
   ·rw [hr, B7 hx, ixJ, if_neg (I2 h16)]
   ·rw [hn, B7 hx, ixN, if_neg (I2 h16)]
 ·have h9p := (odf h9)
  refine BF (AG (AG (AV (AD (srg (yb rfl (nq (BN (CQ rfl rfl ?_)))))))))
  obtain rfl : i = l.length := by omega
  exact ⟨by rw [hr, List.drop_length]; rfl, by rw [hn, List.drop_length]; exact hJ, M.fr⟩
theorem kD {α : Type} (cells : α → List Value) (hk : ∀ x, (cells x).length = 5) (A : Option Addr) (c : Nat) (l : List α) (hl : l.length ≤ 4611686018427387904) (f : FuncId) (cs : List Value) (p : Nat → α → Bool) (S : Nat → Prop) (J : Nat → World → Prop) (w : World) (hP : PredJ prog f cs (fun x => .agg (cells x).toArray) l p S J w) (hR : ∀ w1, Fr S w w1 → Rd w1 A (l.length * 5) (AH cells l)) (hJ : J 0 w) :
 Calls prog 101 #[.slice A l.length c, .func (.func f) #[] cs.toArray] w fun e w' => e = .returned (.bool (decide (0 ≤ ixJ p 0 l))) ∧ J (ixN p 0 l) w' ∧ Fr S w w' := by
 refine BE (vs := [_, _]) func101 rfl ntmps101 rfl ?_
 have M : Mem w S [] w := Mem.nil w
 refine srg (yb rfl (nq (srg (yb rfl (yb rfl (B3 (some 7) (AA rfl) rfl rfl (AP rfl rfl call126) (QR cells hk A c l hl f cs p S J _ hP hR hJ) ?_))))))
 rintro _ w9 ⟨rfl, hJ, hf9⟩
 refine ⟨_, rfl, ?_⟩
 have M : Mem w S [] w9 := Mem.ofFr hf9
 exact ya rfl (FQ rfl rfl rfl) (yb rfl (nq (BN (CQ rfl rfl ⟨rfl, hJ, M.fr⟩))))
theorem nV {α : Type} (cells : α → List Value) (hk : ∀ x, (cells x).length = 7) (A : Option Addr) (c : Nat) (l : List α) (hl : l.length ≤ 4611686018427387904) (f : FuncId) (cs : List Value) (p : Nat → α → Bool) (S : Nat → Prop) (J : Nat → World → Prop) (w : World) (hP : PredJ prog f cs (fun x => .agg (cells x).toArray) l p S J w) (hR : ∀ w1, Fr S w w1 → Rd w1 A (l.length * 7) (AH cells l)) (hJ : J 0 w) :
 Calls prog 193 #[.slice A l.length c, .func (.func f) #[] cs.toArray] w fun e w' => e = .returned (.int .i64 (ixJ p 0 l)) ∧ J (ixN p 0 l) w' ∧ Fr S w w' := by
 refine BE (vs := [_, _]) func193 rfl ntmps193 rfl ?_
 have M : Mem w S [] w := Mem.nil w
 refine srg (yb rfl (nq (AF (srg (yb rfl (ya rfl (C3 rfl rfl (sl rfl)) (yb rfl (nq (AS (G0 (fun e wr mz => ∃ (i : Nat), e = [(0, .slice A l.length c), (1, .func (.func f) #[] cs.toArray), (7, .int .i64 ((l.length : Nat) : Int)), (8, .int .i64 ((i : Nat) : Int))] ∧ Mem w S [] wr ∧ (i ≤ l.length) ∧ (J i wr) ∧ (ixJ p 0 l = ixJ p i (l.drop i)) ∧ (ixN p 0 l = ixN p i (l.drop i)) ∧ mz = l.length - i) ⟨0, rfl, M, Nat.zero_le _, hJ, rfl, rfl, rfl⟩ ⟨rfl, rfl, rfl, rfl, trivial⟩ ?_))))))))))
 rintro _ w1 _ ⟨i, rfl, M, hi, hJ, hr, hn, rfl⟩
 refine srg (ya rfl (ED rfl rfl rfl) (nq (AF (AL (b := (decide (((i : Nat) : Int) < ((l.length : Nat) : Int)))) rfl (fun h9 => ?_) (fun h9 => ?_)))))
 ·have h9p := (odt h9)
  refine AI (AD (AF (AS (srg (yb rfl (yb rfl (nq (srg (yb rfl (yb rfl (yb rfl ?_)))))))))))
  obtain ⟨x, hx⟩ := CC (l := l) (i := i) (by omega)
  obtain ⟨b_x, o_x, hA_x⟩ := BI (k := 7) (by omega) (hR _ M.fr) hx
  refine ya rfl (B1 i hA_x rfl rfl rfl (sl rfl) (by omega)) (ya rfl (AU rfl rfl (BV hk (hR _ M.fr) hA_x hx) underlying75 rfl AZ) (B3 (some 16) (AA rfl) rfl rfl (BX rfl rfl rfl hP.fn) (hP.call i x _ hx M.fr hJ) ?_))
  rintro _ w9 ⟨rfl, hJ, hf9⟩
  refine ⟨_, rfl, ?_⟩
  have M : Mem w S [] w9 := Mem.ofFr (M.fr.trans hf9)
  refine nq (AL (b := (p i x)) rfl (fun h16 => ?_) (fun h16 => ?_))
  ·exact srg (yb rfl (yb rfl (nq (BN (AN (AB (AB (AN (AB (CQ rfl rfl ⟨by rw [hr, B7 hx, ixJ, if_pos h16], by rw [hn, B7 hx, ixN, if_pos h16]; exact hJ, M.fr⟩))))))))))
  ·refine AI ?_
   refine AE ?_
   refine AD ?_
   refine AK ?_
   refine ya rfl (BO rfl rfl rfl (by omega)) ?_
   refine yb rfl ?_
   refine AR ?_
   refine FH [(0, .slice A l.length c), (1, .func (.func f) #[] cs.toArray), (7, .int .i64 ((l.length : Nat) : Int)), (8, .int .i64 (((i + 1) : Nat) : Int))] (l.length - (i + 1)) ⟨i + 1, rfl, M, ?_, ?_, ?_, ?_, rfl⟩ (by first | omega | (simp only [List.length_append, List.length_cons, List.length_nil]; omega)) ⟨rfl, rfl, rfl, rfl, trivial⟩
   ·omega
   ·exact hJ
   ·rw [hr, B7 hx, ixJ, if_neg (I2 h16)]
   ·rw [hn, B7 hx, ixN, if_neg (I2 h16)]
 ·have h9p := (odf h9)
  refine BF (AG (AG (AV (AD (srg (yb rfl (nq (BN (CQ rfl rfl ?_)))))))))
  obtain rfl : i = l.length := by omega
  exact ⟨by rw [hr, List.drop_length]; rfl, by rw [hn, List.drop_length]; exact hJ, M.fr⟩
theorem kA {α : Type} (cells : α → List Value) (hk : ∀ x, (cells x).length = 7) (A : Option Addr) (c : Nat) (l : List α) (hl : l.length ≤ 4611686018427387904) (f : FuncId) (cs : List Value) (p : Nat → α → Bool) (S : Nat → Prop) (J : Nat → World → Prop) (w : World) (hP : PredJ prog f cs (fun x => .agg (cells x).toArray) l p S J w) (hR : ∀ w1, Fr S w w1 → Rd w1 A (l.length * 7) (AH cells l)) (hJ : J 0 w) :
 Calls prog 175 #[.slice A l.length c, .func (.func f) #[] cs.toArray] w fun e w' => e = .returned (.bool (decide (0 ≤ ixJ p 0 l))) ∧ J (ixN p 0 l) w' ∧ Fr S w w' := by
 refine BE (vs := [_, _]) func175 rfl ntmps175 rfl ?_
 have M : Mem w S [] w := Mem.nil w
 refine srg (yb rfl (nq (srg (yb rfl (yb rfl (B3 (some 7) (AA rfl) rfl rfl (AP rfl rfl call193) (nV cells hk A c l hl f cs p S J _ hP hR hJ) ?_))))))
 rintro _ w9 ⟨rfl, hJ, hf9⟩
 refine ⟨_, rfl, ?_⟩
 have M : Mem w S [] w9 := Mem.ofFr hf9
 exact ya rfl (FQ rfl rfl rfl) (yb rfl (nq (BN (CQ rfl rfl ⟨rfl, hJ, M.fr⟩))))
theorem WQ (A : Option Addr) (c : Nat) (l : List (List UInt8)) (hl : l.length ≤ 4611686018427387904) (f : FuncId) (cs : List Value) (p : Nat → (List UInt8) → Bool) (S : Nat → Prop) (J : Nat → World → Prop) (w : World) (hP : PredJ prog f cs str l p S J w) (hR : ∀ w1, Fr S w w1 → Rd w1 A (l.length * 1) (AH BY l)) (hJ : J 0 w) :
 Calls prog 68 #[.slice A l.length c, .func (.func f) #[] cs.toArray] w fun e w' => e = .returned (.int .i64 (ixJ p 0 l)) ∧ J (ixN p 0 l) w' ∧ Fr S w w' := by
 refine BE (vs := [_, _]) func68 rfl ntmps68 rfl ?_
 have M : Mem w S [] w := Mem.nil w
 refine srg (yb rfl (nq (AF (srg (yb rfl (ya rfl (C3 rfl rfl (sl rfl)) (yb rfl (nq (AS (G0 (fun e wr mz => ∃ (i : Nat), e = [(0, .slice A l.length c), (1, .func (.func f) #[] cs.toArray), (7, .int .i64 ((l.length : Nat) : Int)), (8, .int .i64 ((i : Nat) : Int))] ∧ Mem w S [] wr ∧ (i ≤ l.length) ∧ (J i wr) ∧ (ixJ p 0 l = ixJ p i (l.drop i)) ∧ (ixN p 0 l = ixN p i (l.drop i)) ∧ mz = l.length - i) ⟨0, rfl, M, Nat.zero_le _, hJ, rfl, rfl, rfl⟩ ⟨rfl, rfl, rfl, rfl, trivial⟩ ?_))))))))))
 rintro _ w1 _ ⟨i, rfl, M, hi, hJ, hr, hn, rfl⟩
 refine srg (ya rfl (ED rfl rfl rfl) (nq (AF (AL (b := (decide (((i : Nat) : Int) < ((l.length : Nat) : Int)))) rfl (fun h9 => ?_) (fun h9 => ?_)))))
 ·have h9p := (odt h9)
  refine AI (AD (AF (AS (srg (yb rfl (yb rfl (nq (srg (yb rfl (yb rfl (yb rfl ?_)))))))))))
  obtain ⟨x, hx⟩ := CC (l := l) (i := i) (by omega)
  obtain ⟨b_x, o_x, hA_x⟩ := BI (k := 1) (by omega) (hR _ M.fr) hx
  refine ya rfl (B1 i hA_x rfl rfl rfl (sl rfl) (by omega)) (yl rfl rfl (DQ E0 (hR _ M.fr) hA_x hx 0 rfl) (B3 (some 16) (AA rfl) rfl rfl (BX rfl rfl rfl hP.fn) (hP.call i x _ hx M.fr hJ) ?_))
  rintro _ w9 ⟨rfl, hJ, hf9⟩
  refine ⟨_, rfl, ?_⟩
  have M : Mem w S [] w9 := Mem.ofFr (M.fr.trans hf9)
  refine nq (AL (b := (p i x)) rfl (fun h16 => ?_) (fun h16 => ?_))
  ·exact srg (yb rfl (yb rfl (nq (BN (AN (AB (AB (AN (AB (CQ rfl rfl ⟨by rw [hr, B7 hx, ixJ, if_pos h16], by rw [hn, B7 hx, ixN, if_pos h16]; exact hJ, M.fr⟩))))))))))
  ·refine AI ?_
   refine AE ?_
   refine AD ?_
   refine AK ?_
   refine ya rfl (BO rfl rfl rfl (by omega)) ?_
   refine yb rfl ?_
   refine AR ?_
   refine FH [(0, .slice A l.length c), (1, .func (.func f) #[] cs.toArray), (7, .int .i64 ((l.length : Nat) : Int)), (8, .int .i64 (((i + 1) : Nat) : Int))] (l.length - (i + 1)) ⟨i + 1, rfl, M, ?_, ?_, ?_, ?_, rfl⟩ (by first | omega | (simp only [List.length_append, List.length_cons, List.length_nil]; omega)) ⟨rfl, rfl, rfl, rfl, trivial⟩
   ·omega
   ·exact hJ
   ·rw [hr, B7 hx, ixJ, if_neg (I2 h16)]
   ·rw [hn, B7 hx, ixN, if_neg (I2 h16)]
 ·have h9p := (odf h9)
  refine BF (AG (AG (AV (AD (srg (yb rfl (nq (BN (CQ rfl rfl ?_)))))))))
  obtain rfl : i = l.length := by omega
  exact ⟨by rw [hr, List.drop_length]; rfl, by rw [hn, List.drop_length]; exact hJ, M.fr⟩
section
section
variable {P : Program} {ops : Array Oper} {Q : Exit → Act → World → Prop} {S : World → Prop} {t n f : Nat} {listed : Array Bool} {e : Env} {w : World}
theorem DW {o : Oper} {d : Nat} {v : Value} (i : Nat) (hr : Region.ready .any ops listed = [i]) (ho : ops[i]? = some o) (hw : Wn ops e o) (hd : o.dst = some d) (hn : Nat.blt d n = true) (hy : Y P e o w v) (hS : S w)
 (k : SxO P ops Q t S n f (listed.setIfInBounds i true) ((d, v) :: e) w) : SxO P ops Q t S n (f + 1) listed e w :=
 BB i (some d) hr ho hw hd hn (R := fun u w' => u = v ∧ w' = w) (fun ρ hρ => ⟨v, w, .inl (hy ρ hρ), rfl, rfl⟩) fun u w' ⟨h1, h2⟩ => by subst h1; subst h2; exact ⟨fun _ => hS, k⟩
theorem GU {o : Oper} {j d d' : Nat} {b c : Bool} (i : Nat) (hr : Region.ready .any ops listed = [i]) (ho : ops[i]? = some o) (h : o.guard = some (j, b)) (hj : (ops[j]?).bind (·.dst) = some d) (hb : e.get d = some (.bool c)) (hne : (c == b) = false) (hd : o.dst = some d') (hn : Nat.blt d' n = true) (hS : S w)
 (k : SxO P ops Q t S n f (listed.setIfInBounds i true) ((d', undef) :: e) w) : SxO P ops Q t S n (f + 1) listed e w := ⟨fun a ha => by
 have hw : Region.wanted o (yielded ops a.tmps) = false := by
  simp only [Region.wanted, h, yielded, hj, ha.get d _ hb, Option.bind_some]
  cases c <;> cases b <;> simp_all
 refine ⟨fun h0 => (by rw [hr] at h0; cases h0), fun j' hj' => ?_⟩
 rw [hr] at hj'
 obtain rfl : j' = i := by simpa using hj'
 unfold wpOp
 simp only [ho, hw, Bool.false_eq_true, if_false]
 rw [hd]
 exact ⟨fun _ => hS, k.run _ (ha.put (CO hn) _)⟩⟩
end
end
section
def Z5 (ops : Array Oper) (i t : Nat) : Bool := (List.range ops.size).all fun j => decide (j < t) || Region.waitsFor .any ops j i
section
variable {P : Program} {ops : Array Oper} {Q : Exit → Act → World → Prop} {S : World → Prop} {t : Nat}
theorem SQ {i : Nat} {oi : Oper} {v : Value} (hi : ops[i]? = some oi) (hsel : ∀ (j : Nat) (o : Oper) cs b, ops[j]? = some o → o.op ≠ .select cs b)
 (hQ : ∀ c a w, Q (.panic c) (a.put oi.dst v) w → Q (.panic c) a w) (hwait : Z5 ops i t = true) :
 ∀ (fuel : Nat) (listed : Array Bool) (a : Act) (w : World),
  (∀ j oj, ops[j]? = some oj → j ≠ i → listed.getD j true = false → (∀ e ∈ oj.after, Region.binds .any e = true → e.on ≠ i) → oi.apart ops oj = true) →
  i ∈ Region.ready .any ops listed → YieldsIf P ops S oi v a → S w →
  IN P ops Q t S fuel (listed.setIfInBounds i true) (a.put oi.dst v) w → IN P ops Q t S (fuel + 1) listed a w := by
 intro fuel
 induction fuel with
 | zero =>
  intro listed a w _ hr hy hS H
  refine ⟨fun h => (by rw [h] at hr; cases hr), fun j hj => ?_⟩
  by_cases hji : j = i
  ·subst hji; exact hy.wpOp hi hS ⟨fun _ => hS, H⟩
  ·have := ready_mono hj hji
   rw [H.1] at this
   cases this
 | succ fuel ih =>
  intro listed a w hfree hr hy hS H
  refine ⟨fun h => (by rw [h] at hr; cases hr), fun j hj => ?_⟩
  by_cases hji : j = i
  ·subst hji; exact hy.wpOp hi hS ⟨fun _ => hS, H⟩
  ·have h1 := H.2 j (ready_mono hj hji)
   obtain ⟨hjun, oj, hoj, hall⟩ := mem_ready.1 hj
   have hnot : ∀ e ∈ oj.after, Region.binds .any e = true → e.on ≠ i := fun e he hb heq => by
    have h1 := hall e he hb
    have h0 := (mem_ready.1 hr).1
    rw [heq, getD_both h0] at h1
    cases h1
   have hjt : j < t := by
    have h2 := List.all_eq_true.1 hwait j (List.mem_range.2 (Array.getElem?_eq_some_iff.1 hoj).1)
    simp only [Bool.or_eq_true, decide_eq_true_eq] at h2
    rcases h2 with h2 | h2
    ·exact h2
    ·obtain ⟨o', ho', e, he, hb, hon⟩ := Region.waitsFor_spec h2
     rw [hoj] at ho'
     injection ho' with ho'
     subst ho'
     exact absurd hon (hnot e he hb)
   have h2 := wpOp_putIf hoj (hfree j oj hoj hji hjun hnot) (fun cs b => hsel i oi cs b hi) (fun cs b => hsel j oj cs b hoj) hQ hy h1
   have hfree' : ∀ k ok, ops[k]? = some ok → k ≠ i → (listed.setIfInBounds j true).getD k true = false →
    (∀ e ∈ ok.after, Region.binds .any e = true → e.on ≠ i) → oi.apart ops ok = true := fun k ok hk hki hun hno => by
    refine hfree k ok hk hki ?_ hno
    by_cases hjk : j = k
    ·subst hjk; exact hjun
    ·rw [getD_set_ne true hjk] at hun; exact hun
   refine wpOp_mono (fun a' w' h3 => ⟨h3.2.1, ih (listed.setIfInBounds j true) a' w' hfree' (ready_mono hr (Ne.symm hji)) h3.1 (h3.2.1 hjt) ?_⟩) h2
   rw [Array.setIfInBounds_comm _ _ hji]
   exact h3.2.2
variable {n f : Nat} {listed : Array Bool} {e : Env} {w : World}
theorem HD {o : Oper} {d : Nat} {v : Value} (i : Nat) (hs : Region.noSelect ops = true) (hQ : ∀ c (a : Act) t v w, Q (.panic c) (a.put t v) w → Q (.panic c) a w) (hwait : Z5 ops i t = true)
 (hf : Region.free .any ops listed i = true) (hr : (Region.ready .any ops listed).contains i = true) (ho : ops[i]? = some o) (hw : Wn ops e o) (hd : o.dst = some d) (hn : Nat.blt d n = true) (hS : S w) (hy : ∀ w', S w' → Y P e o w' v)
 (k : SxO P ops Q t S n f (listed.setIfInBounds i true) ((d, v) :: e) w) : SxO P ops Q t S n (f + 1) listed e w := ⟨fun a ha =>
 SQ ho (Region.noSelect_spec hs) (fun c a w => hQ c a _ _ w) hwait f listed a w (Region.free_spec ho hf) (by simpa using hr) (.inl ⟨hw n a ha, fun w' hw' => hy w' hw' _ ha.eval⟩) hS (by
  rw [hd]; exact k.run _ (ha.put (CO hn) v))⟩
end
end
end Go.Proofs.YtjaocmocdhckaaaGreatDoor
