/- The machine that runs closed code: texts and bytes are turned, lengths, copy, append. Over any program. No condition. -/
import Derived.Test.YthdlljlcffokbaaDoorZb5
import Derived.Lib.Strings
import Derived.Lib.ConvBytes
import Derived.Test.YthdlljlcffokbaaDoorZb1
import Derived.Laws.BytesString
import Derived.Laws.MakeOwn
import Derived.Deep.AppendSrc
import Derived.Laws.AppendOwn
namespace Go.Proofs.YthdlljlcffokbaaDoor
open Go.RowKit

abbrev RegF := Array Oper → ContF
noncomputable def cSeq (a b : ContF) : ContF := fun e h nx => @Out.rec (fun _ => Out) .bad b .ext .ret (a e h nx)
noncomputable def cCond (G : Nat) (x : Operand) (a b : ContF) : ContF := fun e h nx =>
  match evO G e x with
  | some (.bool t) => bo t (a e h nx) (b e h nx)
  | _ => .bad
noncomputable def cBlock (id : Nat) (a : ContF) : ContF := fun e h nx =>
  @Out.rec (fun _ => Out) .bad .nrm (fun id' e' h' nx' => bo (Nat.beq id' id) (.nrm e' h' nx') (.ext id' e' h' nx')) .ret (a e h nx)
noncomputable def cBad : ContF := fun _ _ _ => .bad
/-- A range over a function: its record is laid, the function is called with the record's yield, the pending jump is taken up. -/
noncomputable def mRangeF (P : Program) (G n : Nat) (call : CallF) (g : Operand) (ps : Array Nat) (asg body : Code) : ContF := fun e h nx =>
  match evO G e g with
  | some (.func (.func f) ⟨xs⟩ ⟨cs⟩) => bo (callB P f) (putS h nx (.loop 0 n e ps.toList asg body none) (fun h => natS (nx + 1) (fun nx' =>
      @OR.rec (fun _ => Out) .bad (fun _ h2 nx2 => match h2.get nx with
        | some (.loop st n' e' ps' asg' body' pend) => bo (Nat.beq st 1) .bad (putS h2 nx (.loop 3 n' e' ps' asg' body' pend) (fun h3 => match pend with
          | none => .nrm e h3 nx2
          | some none => .ret e h3 nx2
          | some (some id) => .ext id e h3 nx2))
        | _ => .bad) (call f (xs ++ ([.func (.yield nx) ⟨[]⟩ ⟨[]⟩] ++ cs)) h nx')))) .bad
  | _ => .bad
/-- A statement. dr: a region that draws its order. rg: may there be a range over a function (not within a round)? -/
noncomputable def mCode (P : Program) (G n fuel : Nat) (call : CallF) (dr : RegF) (rg : Bool) (c : Code) : ContF :=
  @Code.rec (fun _ => ContF) .nrm (fun _ ops draw => bo draw (dr ops) (mOps P G n call ops ops.toList)) (fun _ _ a b => cSeq a b) (fun x _ _ a b => cCond G x a b) (fun id _ a => cBlock id a) (fun _ a => mLoop a fuel)
    (fun g ps asg body _ _ => bo rg (mRangeF P G n call g ps asg body) cBad) .ext (fun _ a => a) (fun _ => .nrm) (fun _ => cBad) .ret (fun _ => cBad) c
noncomputable def mRes (P : Program) (e : Tb Value) (h : Hp) (l : List ResultVar) : Option (List Value) :=
  List.rec (motive := fun _ => Option (List Value)) (some []) (fun r _ ih => match (match r with | .tmp t => e.get t | .cell a t => (match mLoad P h 0 t (e.get a) with | .ok v _ _ => some v | .bad => none)), ih with
    | some v, some vs => some (v :: vs)
    | _, _ => none) l
def mRet : List Value → Value
  | [v] => v
  | l => .tuple ⟨l⟩
/-- What a body's end comes to. -/
noncomputable def mEnd (P : Program) (fn : Func) (r : Out) : OR :=
  @Out.rec (fun _ => OR) .bad (fun _ h nx => bo fn.results.toList.isEmpty (.ok (mRet []) h nx) .bad) (fun _ _ _ _ => .bad) (fun e h nx => oo (mRes P e h fn.results.toList) .bad (fun vs => .ok (mRet vs) h nx)) r
/-- A call, by its body. -/
noncomputable def mBody (P : Program) (G fuel : Nat) (dr : CallF → Nat → RegF) (call : CallF) : CallF := fun f args h nx =>
  oo (P.funcs[f]?) .bad (fun fn => oo fn.body .bad (fun c => bo (Nat.ble args.length fn.ntmps) (mEnd P fn (mCode P G fn.ntmps fuel call (dr call fn.ntmps) true c (Tb.of args) h nx)) .bad))
/-- What a round is handed, in its slots. -/
noncomputable def putL (n : Nat) (ps : List Nat) : List Value → Tb Value → Option (Tb Value) :=
  @List.rec Nat (fun _ => List Value → Tb Value → Option (Tb Value)) (fun vs e => match vs with | [] => some e | _ => none) (fun d _ ih vs e => match vs with
    | v :: vs => bo (Nat.blt d n) (valS v (fun v => putS e d v (fun e => ih vs e))) none
    | [] => none) ps
/-- A round has been left. -/
noncomputable def rndEnd (l : Nat) (st : Nat) (pend : Option (Option Nat)) (b : Bool) (h : Hp) (nx : Nat) : OR :=
  match h.get l with
  | some (.loop _ n e ps asg body _) => putS h l (.loop st n e ps asg body pend) (fun h => .ok (.bool b) h nx)
  | _ => .bad
/-- A round. -/
noncomputable def mRound (P : Program) (G fuel : Nat) (dr : CallF → Nat → RegF) (call : CallF) (l : Nat) (args : List Value) (h : Hp) (nx : Nat) : OR :=
  match h.get l with
  | some (.loop 0 n e ps asg body _) => oo (putL n ps args e) .bad (fun e1 =>
      @Out.rec (fun _ => OR) .bad (fun e2 h2 nx2 => match h2.get l with
        | some (.loop 0 n' e' ps' asg' body' pend') => putS h2 l (.loop 1 n' e' ps' asg' body' pend') (fun h2 =>
            @Out.rec (fun _ => OR) .bad (fun _ h3 nx3 => rndEnd l 0 none true h3 nx3) (fun id _ h3 nx3 => rndEnd l 2 (some (some id)) false h3 nx3) (fun _ h3 nx3 => rndEnd l 2 (some none) false h3 nx3)
              (mCode P G n fuel call (dr call n) false body e2 h2 nx2))
        | _ => .bad) (fun _ _ _ _ => .bad) (fun _ _ _ => .bad) (mCode P G n fuel call (dr call n) false asg e1 h nx))
  | _ => .bad
/-- Calls, d deep. base: what is known of some already. -/
noncomputable def mCalls (P : Program) (G fuel : Nat) (dr : CallF → Nat → RegF) (base : CallF) (d : Nat) : CallF :=
  @Nat.rec (fun _ => CallF) (fun f args h nx => bo (Nat.blt f P.funcs.size) (base f args h nx) .bad) (fun _ ih f args h nx =>
    bo (Nat.blt f P.funcs.size) (@OR.rec (fun _ => OR) (mBody P G fuel dr ih f args h nx) .ok (base f args h nx)) (natS (Nat.sub f P.funcs.size) (fun l => mRound P G fuel dr ih l args h nx))) d
end Go.Proofs.YthdlljlcffokbaaDoor
namespace Go.Proofs.YthdlljlcffokbaaDoor
open Go.RowKit

namespace VR
variable {σ : Sg} {u : Value}
theorem scal_inv {v : Value} (hs : scal v = true) (h : VR σ v u) : u = v := by
  cases h with
  | sc _ _ _ => rfl
  | _ => cases hs
theorem ptr_inv {id off : Nat} (h : VR σ (.pointer (some ⟨id, off, none⟩)) u) : ∃ L, σ id = some L ∧ u = .pointer (some ⟨L.blk, L.base + off, none⟩) := by
  cases h with
  | sc _ hs _ => cases hs
  | ptr h _ => exact ⟨_, h, rfl⟩
theorem sl_inv {id off n c : Nat} (h : VR σ (.slice (some ⟨id, off, none⟩) n c) u) : ∃ L, σ id = some L ∧ u = .slice (some ⟨L.blk, L.base + off, none⟩) n c := by
  cases h with
  | sc _ hs _ => cases hs
  | sl h _ => exact ⟨_, h, rfl⟩
theorem slo_inv {id off n z : Nat} (h : VR σ (.slice (some ⟨id, off, some z⟩) n 0) u) : ∃ L c', σ id = some L ∧ n ≤ c' ∧ L.base + off + c' * z = L.size ∧ (0 : Nat) = 0 ∧ u = .slice (some ⟨L.blk, L.base + off, none⟩) n c' := by
  cases h with
  | sc _ hs _ => cases hs
  | slo h h1 h2 _ => exact ⟨_, _, h, h1, h2, rfl, rfl⟩
theorem slice_any {id off n c : Nat} {sp : Option Nat} (h : VR σ (.slice (some ⟨id, off, sp⟩) n c) u) : ∃ L A c', σ id = some L ∧ u = .slice (some ⟨L.blk, A, none⟩) n c' ∧ (A = L.base + off ∨ n = 0) := by
  cases h with
  | sc _ hs _ => cases hs
  | sl h _ => exact ⟨_, _, _, h, rfl, .inl rfl⟩
  | slo h h1 h2 _ => exact ⟨_, _, _, h, rfl, .inl rfl⟩
  | sle h h1 _ => exact ⟨_, _, _, h, rfl, .inr rfl⟩
theorem slice_inv {id off n c : Nat} {sp : Option Nat} (h : VR σ (.slice (some ⟨id, off, sp⟩) n c) u) (hn : 0 < n) : ∃ L c', σ id = some L ∧ u = .slice (some ⟨L.blk, L.base + off, none⟩) n c' := by
  obtain ⟨L, A, c', h1, rfl, rfl | h2⟩ := h.slice_any
  · exact ⟨L, c', h1, rfl⟩
  · omega
theorem map_inv {id : Nat} (h : VR σ (.map (some id)) u) : ∃ L, σ id = some L ∧ u = .map (some L.blk) := by
  cases h with
  | sc _ hs _ => cases hs
  | map h _ => exact ⟨_, h, rfl⟩
theorem agg_inv {xs : List Value} (h : VR σ (.agg ⟨xs⟩) u) : ∃ ys, u = .agg ⟨ys⟩ ∧ VRs σ xs ys := by
  cases h with
  | sc _ hs _ => cases hs
  | agg h _ => exact ⟨_, rfl, h⟩
theorem tuple_inv {xs : List Value} (h : VR σ (.tuple ⟨xs⟩) u) : ∃ ys, u = .tuple ⟨ys⟩ ∧ VRs σ xs ys := by
  cases h with
  | sc _ hs _ => cases hs
  | tuple h _ => exact ⟨_, rfl, h⟩
theorem func_inv {f : FuncId} {xs xs' : List Value} (h : VR σ (.func (.func f) ⟨xs⟩ ⟨xs'⟩) u) : ∃ ys ys', u = .func (.func f) ⟨ys⟩ ⟨ys'⟩ ∧ VRs σ xs ys ∧ VRs σ xs' ys' := by
  cases h with
  | sc _ hs _ => cases hs
  | func f h h' _ => exact ⟨_, _, rfl, h, h'⟩
theorem yld_inv {id : Nat} (h : VR σ (.func (.yield id) ⟨[]⟩ ⟨[]⟩) u) : ∃ L, σ id = some L ∧ u = .func (.yield L.blk) ⟨[]⟩ ⟨[]⟩ := by
  cases h with
  | sc _ hs _ => cases hs
  | yld h _ => exact ⟨_, h, rfl⟩
theorem eq_of_flat {v : Value} (hf : flat v = true) (h : VR σ v u) : u = v := by
  have := VRs.eq_of_flat 100000 hf h
  injection this
theorem of_flat {v : Value} (hf : flat v = true) : VR σ v v := flatN_ok 100000 hf
theorem int {k : IntKind} {n : Int} : VR σ (.int k n) (.int k n) := .sc _ rfl .nil
theorem bool {b : Bool} : VR σ (.bool b) (.bool b) := .sc _ rfl .nil
theorem str {s : ByteArray} : VR σ (.string s) (.string s) := .sc _ rfl .nil
theorem undef : VR σ undef undef := .tuple (xs := []) (ys := []) .nil .nil
end VR
section
variable {P : Program} {G : Nat} {σ : Sg} {nx : Nat} {w : World}
/-- What a block of cells says. -/
theorem MR.cells {h : Hf} (m : MR G σ h nx w) {id elem n k : Nat} {c : Tb Value} {L : Loc} (hb : h id = some (.cells elem n k c)) (hL : σ id = some L) :
    ∃ (row : Array Value) (fz : Nat × Nat), w.heap[L.blk]? = some (.cells row elem fz) ∧ row.size = L.size ∧ L.base + n ≤ L.size ∧ (∀ i, (c.get i).isSome = true ↔ i < n) ∧
      (∀ i v, c.get i = some v → ∃ u, row[L.base + i]? = some u ∧ VR σ v u) ∧ (k ≠ 2 → ∀ i, i < L.size → w.frozen? ⟨L.blk, i, none⟩ = false) ∧ (k ≠ 2 → fz.1 = fz.2 ∨ L.size ≤ fz.1) := by
  obtain ⟨L', h1, h2⟩ := m.blk id _ hb
  rw [hL] at h1; injection h1 with h1; subst h1
  obtain ⟨row, fz, h3, h4, h5, h6, h7, h8⟩ := h2
  refine ⟨row, fz, h3, h4, h5, h6, h7, fun hk i hi => ?_, h8⟩
  simp only [World.frozen?, h3, Bool.and_eq_false_iff, decide_eq_false_iff_not]
  rcases h8 hk with h9 | h9 <;> omega
theorem MR.cell {h : Hf} (m : MR G σ h nx w) {id elem n k off : Nat} {c : Tb Value} {L : Loc} {v : Value} (hb : h id = some (.cells elem n k c)) (hL : σ id = some L) (hv : c.get off = some v) :
    ∃ u, w.cell? ⟨L.blk, L.base + off, none⟩ = some u ∧ VR σ v u := by
  obtain ⟨row, fz, h1, _, _, _, h5, _, _⟩ := m.cells hb hL
  obtain ⟨u, hu, hr⟩ := h5 off v hv
  exact ⟨u, by rw [cell_of_row w L.blk _ row elem fz h1]; exact hu, hr⟩
theorem ldN_succ (c : Tb Value) (n off : Nat) : ldN c (n + 1) off = oo (c.get off) none (fun v => oo (ldN c n (off + 1)) none (fun l => some (v :: l))) := rfl
theorem MR.ldN {h : Hf} (m : MR G σ h nx w) {id elem n k : Nat} {c : Tb Value} {L : Loc} (hb : h id = some (.cells elem n k c)) (hL : σ id = some L) : ∀ (j off : Nat) {l : List Value}, ldN c j off = some l →
    ∃ us, VRs σ l us ∧ us.length = j ∧ w.rangeAt L.blk (L.base + off) us
  | 0, off, l, hl => by
    have : l = [] := by injection hl with hl; exact hl.symm
    subst this
    exact ⟨[], .nil, rfl, fun j v hv => by simp at hv⟩
  | j + 1, off, l, hl => by
    rw [ldN_succ] at hl
    obtain ⟨v, hv, hl⟩ := oo_inv hl (by simp)
    obtain ⟨l', hl', hl⟩ := oo_inv hl (by simp)
    injection hl with hl; subst hl
    obtain ⟨u, hu, hr⟩ := m.cell hb hL hv
    obtain ⟨us, h1, h2, h3⟩ := m.ldN hb hL j (off + 1) hl'
    refine ⟨u :: us, .cons hr h1, by simp [h2], fun i x hx => ?_⟩
    cases i with
    | zero => simp only [List.getElem?_cons_zero, Option.some.injEq] at hx; subst hx; simpa using hu
    | succ i =>
      have := h3 i x (by simpa using hx)
      rwa [show L.base + off + (i + 1) = L.base + (off + 1) + i by omega]
theorem ldN_length (c : Tb Value) : ∀ (j off : Nat) {l : List Value}, ldN c j off = some l → l.length = j
  | 0, off, l, hl => by injection hl with hl; subst hl; rfl
  | j + 1, off, l, hl => by
    rw [ldN_succ] at hl
    obtain ⟨v, hv, hl⟩ := oo_inv hl (by simp)
    obtain ⟨l', hl', hl⟩ := oo_inv hl (by simp)
    injection hl with hl; subst hl
    simp [ldN_length c j _ hl']
theorem ldN_get (c : Tb Value) : ∀ (j off : Nat) {l : List Value}, ldN c j off = some l → ∀ i, i < j → c.get (off + i) = l[i]?
  | 0, off, l, hl => fun i hi => by omega
  | j + 1, off, l, hl => fun i hi => by
    rw [ldN_succ] at hl
    obtain ⟨v, hv, hl⟩ := oo_inv hl (by simp)
    obtain ⟨l', hl', hl⟩ := oo_inv hl (by simp)
    injection hl with hl; subst hl
    cases i with
    | zero => simpa using hv
    | succ i =>
      have := ldN_get c j (off + 1) hl' i (by omega)
      rw [show off + (i + 1) = off + 1 + i by omega, this]; simp

theorem stN_cons (v : Value) (vs : List Value) (c : Tb Value) (off : Nat) : stN (v :: vs) c off = stN vs (c.put off v) (off + 1) := rfl
theorem stN_get : ∀ (vs : List Value) (c : Tb Value) (off i : Nat), (stN vs c off).get i = if off ≤ i ∧ i < off + vs.length then vs[i - off]? else c.get i
  | [], c, off, i => by
    show c.get i = _
    rw [if_neg (by simp)]
  | v :: vs, c, off, i => by
    rw [stN_cons, stN_get vs (c.put off v) (off + 1) i, Tb.get_put]
    by_cases h1 : i = off
    · subst h1
      rw [if_neg (by omega), if_pos rfl, if_pos (by simp)]; simp
    · by_cases h2 : off + 1 ≤ i ∧ i < off + 1 + vs.length
      · rw [if_pos h2, if_pos (by simp; omega), show i - off = (i - (off + 1)) + 1 by omega]; simp
      · rw [if_neg h2, if_neg h1, if_neg (by simp; omega)]

/-- A row with some cells written. -/
def rowPut (row : Array Value) : Nat → List Value → Array Value
  | _, [] => row
  | o, v :: r => rowPut (row.setIfInBounds o v) (o + 1) r
theorem rowPut_size : ∀ (vs : List Value) (row : Array Value) (o : Nat), (rowPut row o vs).size = row.size
  | [], _, _ => rfl
  | v :: r, row, o => by rw [rowPut, rowPut_size r]; simp
theorem rowPut_get : ∀ (vs : List Value) (row : Array Value) (o i : Nat), o + vs.length ≤ row.size → (rowPut row o vs)[i]? = if o ≤ i ∧ i < o + vs.length then vs[i - o]? else row[i]?
  | [], row, o, i, _ => by rw [if_neg (by simp)]; rfl
  | v :: r, row, o, i, hl => by
    simp only [List.length_cons] at hl
    rw [rowPut, rowPut_get r _ (o + 1) i (by simp; omega)]
    by_cases h1 : i = o
    · subst h1
      rw [if_neg (by omega), if_pos (by simp), Array.getElem?_setIfInBounds_self_of_lt (by omega)]; simp
    · rw [Array.getElem?_setIfInBounds_ne (Ne.symm h1)]
      by_cases h2 : o + 1 ≤ i ∧ i < o + 1 + r.length
      · rw [if_pos h2, if_pos (by simp; omega), show i - o = (i - (o + 1)) + 1 by omega]; simp
      · rw [if_neg h2, if_neg (by simp; omega)]
theorem setCells_row (b : Nat) : ∀ (vs : List Value) (o : Nat) (w : World) (row : Array Value) (el : TypeId) (fz : Nat × Nat), w.heap[b]? = some (.cells row el fz) → (w.setCells b o vs).heap[b]? = some (.cells (rowPut row o vs) el fz)
  | [], _, _, _, _, _, h => h
  | v :: r, o, w, row, el, fz, h => by
    rw [World.setCells, rowPut]
    exact setCells_row b r (o + 1) _ _ el fz (by simp [World.setCell, Array.getElem?_modify, h])
theorem setCells_size (b : Nat) : ∀ (vs : List Value) (o : Nat) (w : World), (w.setCells b o vs).heap.size = w.heap.size
  | [], _, _ => rfl
  | v :: r, o, w => by rw [World.setCells, setCells_size b r]; simp [World.setCell]
theorem setCells_other (b : Nat) : ∀ (vs : List Value) (o : Nat) (w : World) (r : Nat), r ≠ b → (w.setCells b o vs).heap[r]? = w.heap[r]?
  | [], _, _, _, _ => rfl
  | v :: vs, o, w, r, h => by rw [World.setCells, setCells_other b vs _ _ r h]; exact Below.heap_setCell _ _ _ _ h
theorem setCells_rest (b : Nat) : ∀ (vs : List Value) (o : Nat) (w : World), (w.setCells b o vs).os = w.os ∧ (w.setCells b o vs).tape = w.tape ∧ (w.setCells b o vs).output = w.output
  | [], _, _ => ⟨rfl, rfl, rfl⟩
  | v :: vs, o, w => by
    obtain ⟨h1, h2, h3⟩ := setCells_rest b vs (o + 1) (w.setCell ⟨b, o, none⟩ v)
    exact ⟨h1, h2, h3⟩

/-- A block is changed in place. -/
theorem MR.upd {h : Hf} (m : MR G σ h nx w) {id : Nat} {L : Loc} {B B' : Bl} (hb : h id = some B) (hL : σ id = some L) {w' : World} (hbr : BR σ L w' B')
    (hrest : w'.os = w.os ∧ w'.tape = w.tape ∧ w'.output = w.output) (hsize : w'.heap.size = w.heap.size) (hother : ∀ r, r ≠ L.blk → w'.heap[r]? = w.heap[r]?) (hro : ¬ B.ro := by simp [Bl.ro]) :
    Tr G σ h nx w σ (fun i => if i = id then some B' else h i) nx w' where
  le := Nat.le_refl _
  ext := Sg.le.refl σ
  old _ _ := rfl
  mr := by
    have hsome : ∀ i, (if i = id then some B' else h i).isSome = true → (h i).isSome = true := fun i hi => by
      by_cases e : i = id
      · subst e; simp [hb]
      · rwa [if_neg e] at hi
    refine ⟨fun i B'' hi => ?_, fun i i' L1 L2 h1 h2 h3 h4 h5 => m.sep i i' L1 L2 (hsome i h1) (hsome i' h2) h3 h4 h5, m.free, m.glob, m.gle⟩
    by_cases e : i = id
    · subst e
      rw [if_pos rfl] at hi; injection hi with hi; subst hi
      exact ⟨L, hL, hbr⟩
    · rw [if_neg e] at hi
      obtain ⟨L1, h1, h2⟩ := m.blk i B'' hi
      refine ⟨L1, h1, h2.keep (Sg.le.refl σ) (hother _ fun e2 => e (m.sep i id L1 L (by simp [hi]) (by simp [hb]) h1 hL e2))⟩
  os := hrest.1
  tape := hrest.2.1
  output := hrest.2.2
  size := by rw [hsize]; exact Nat.le_refl _
  fr r _ hn := hother r fun e => hn id L (by simp [hb]) hL e.symm
  src i L' hi hs := .inr ⟨i, L', by
    by_cases e : i = id
    · subst e; simp [hb]
    · simpa [if_neg e] using hi, hs, rfl⟩
  dom i _ hn := by
    by_cases e : i = id
    · subst e; rw [hb] at hn; cases hn
    · rw [if_neg e]; exact hn
  qt r _ hq := by
    have hne : r ≠ L.blk := fun e => hro (hq id L B hb hL e.symm)
    refine ⟨hother r hne, fun i L1 B1 (h1 : (if i = id then some B' else h i) = some B1) h2 h3 => ?_⟩
    by_cases e : i = id
    · subst e
      rw [hL] at h2; injection h2 with h2; subst h2
      exact absurd h3.symm hne
    · rw [if_neg e] at h1; exact hq i L1 B1 h1 h2 h3
theorem Tb.put_fun {α : Type} (t : Tb α) (k : Nat) (v : α) : (t.put k v).get = fun i => if i = k then some v else t.get i := funext fun i => t.get_put k v i
theorem wr_inv {h h' : Hp} {id off : Nat} {vs : List Value} (hw : wrCells h id off vs = some h') : ∃ el n k c, h.get id = some (.cells el n k c) ∧ off + vs.length ≤ n ∧ k = 0 ∧ vs.all (·.oneCell') = true ∧ h' = h.put id (.cells el n k (stN vs c off)) := by
  unfold wrCells at hw
  simp only [stS_eq, putS_eq] at hw
  split at hw
  · rename_i el n k c hb
    obtain ⟨h1, h2⟩ := bo_inv hw (by simp)
    simp only [Bool.and_eq_true] at h1
    injection h2 with h2
    exact ⟨el, n, k, c, hb, Nat.le_of_ble_eq_true h1.1, Nat.eq_of_beq_eq_true h1.2.1, h1.2.2, h2.symm⟩
  · cases hw
/-- Cells are written. -/
theorem MR.write {h h' : Hp} (m : MR G σ h.get nx w) {id off : Nat} {L : Loc} {vs us : List Value} (hw : wrCells h id off vs = some h') (hL : σ id = some L) (hv : VRs σ vs us) :
    (storeCells ⟨L.blk, L.base + off, none⟩ us).run P w = .ok () (w.setCells L.blk (L.base + off) us) ∧ Tr G σ h.get nx w σ h'.get nx (w.setCells L.blk (L.base + off) us) := by
  obtain ⟨el, n, k, c, hb, hle, rfl, hone, rfl⟩ := wr_inv hw
  obtain ⟨row, fz, h1, h2, h3, h4, h5, h6, h7⟩ := m.cells hb hL
  have hlen := hv.len
  constructor
  · refine run_storeCells_cells (P := P) L.blk (L.base + off) us 0 w (fun j hj => ?_) (fun j hj => h6 (by simp) _ (by omega)) (hv.one hone)
    rw [cell_of_row w L.blk _ row el fz h1, Array.getElem?_eq_getElem (by omega)]; rfl
  · rw [Tb.put_fun]
    refine m.upd hb hL ⟨rowPut row (L.base + off) us, fz, setCells_row _ _ _ _ _ _ _ h1, by rw [rowPut_size, h2], h3, fun i => ?_, fun i v hi => ?_, fun _ => h7 (by simp)⟩ (setCells_rest _ _ _ _) (setCells_size _ _ _ _) (fun r hr => setCells_other _ _ _ _ r hr)
    · rw [stN_get, ← h4 i]
      by_cases hc : off ≤ i ∧ i < off + vs.length
      · rw [if_pos hc]
        have h9 : (c.get i).isSome = true := (h4 i).2 (by omega)
        have h8 : (vs[i - off]?).isSome = true := by rw [List.getElem?_eq_getElem (by omega)]; rfl
        rw [h9, h8]
      · rw [if_neg hc]
    · rw [stN_get] at hi
      rw [rowPut_get _ _ _ _ (by omega)]
      by_cases hc : off ≤ i ∧ i < off + vs.length
      · rw [if_pos hc] at hi
        rw [if_pos (by omega), show L.base + i - (L.base + off) = i - off by omega]
        exact hv.get hi
      · rw [if_neg hc] at hi
        rw [if_neg (by omega)]
        exact h5 i v hi
/-- A new block. -/
theorem MR.new {h : Hf} (m : MR G σ h nx w) {w' : World} (L : Loc) (B : Bl) (hL : L.blk = w.heap.size) (hrest : w'.os = w.os ∧ w'.tape = w.tape ∧ w'.output = w.output) (hsize : w'.heap.size = w.heap.size + 1) (hold : ∀ r, r < w.heap.size → w'.heap[r]? = w.heap[r]?)
    (hbr : ∀ σ' : Sg, σ.le σ' → BR σ' L w' B) :
    Tr G σ h nx w (fun i => if i = nx then some L else σ i) (fun i => if i = nx then some B else h i) (nx + 1) w' := by
  have hle : σ.le (fun i => if i = nx then some L else σ i) := fun i L' hi => by
    by_cases e : i = nx
    · subst e; rw [m.free i (Nat.le_refl _)] at hi; cases hi
    · simp only [if_neg e]; exact hi
  have hlt : ∀ i B' L', h i = some B' → σ i = some L' → L'.blk < w.heap.size := fun i B' L' h1 h2 => by
    obtain ⟨L1, h3, h4⟩ := m.blk i B' h1
    rw [h2] at h3; injection h3 with h3; subst h3
    exact h4.lt
  refine ⟨by omega, hle, fun i hi => by rw [if_neg (by omega)], ⟨fun i B' hi => ?_, fun i i' L1 L2 h1 h2 h3 h4 h5 => ?_, fun i hi => ?_, fun g hg => ?_, by have := m.gle; omega⟩, hrest.1, hrest.2.1, hrest.2.2, by omega, fun r hr _ => hold r hr, fun i L' hi hs => ?_, fun i hi hn => by rw [if_neg (by omega)]; exact hn, fun r hr hq => ⟨hold r hr, fun i L1 B1 (h1 : (if i = nx then some B else h i) = some B1) (h2 : (if i = nx then some L else σ i) = some L1) h3 => by
    by_cases e : i = nx
    · rw [if_pos e] at h2; injection h2 with h2; subst h2; omega
    · rw [if_neg e] at h1 h2; exact hq i L1 B1 h1 h2 h3⟩⟩
  · by_cases e : i = nx
    · subst e
      rw [if_pos rfl] at hi; injection hi with hi; subst hi
      exact ⟨L, by rw [if_pos rfl], hbr _ hle⟩
    · rw [if_neg e] at hi
      obtain ⟨L1, h1, h2⟩ := m.blk i B' hi
      exact ⟨L1, by rw [if_neg e]; exact h1, h2.keep hle (hold _ h2.lt)⟩
  · by_cases e : i = nx <;> by_cases e' : i' = nx
    · rw [e, e']
    · rw [if_pos e] at h3; injection h3 with h3; subst h3
      rw [if_neg e'] at h4 h2
      obtain ⟨B2, hB2⟩ := Option.isSome_iff_exists.1 h2
      have := hlt i' B2 L2 hB2 h4
      omega
    · rw [if_pos e'] at h4; injection h4 with h4; subst h4
      rw [if_neg e] at h3 h1
      obtain ⟨B1, hB1⟩ := Option.isSome_iff_exists.1 h1
      have := hlt i B1 L1 hB1 h3
      omega
    · rw [if_neg e] at h3 h1; rw [if_neg e'] at h4 h2
      exact m.sep i i' L1 L2 h1 h2 h3 h4 h5
  · rw [if_neg (by omega)]; exact m.free i (by omega)
  · rw [if_neg (by have := m.gle; omega)]; exact m.glob g hg
  · by_cases e : i = nx
    · rw [if_pos e] at hs; injection hs with hs; subst hs
      exact .inl (by omega)
    · rw [if_neg e] at hi hs
      exact .inr ⟨i, L', hi, hs, rfl⟩
/-- A block that was laid meanwhile gets a number. -/
theorem MR.adopt {h : Hf} (m : MR G σ h nx w) {w' : World} (L : Loc) (B : Bl) (hL : w.heap.size ≤ L.blk) (hrest : w'.os = w.os ∧ w'.tape = w.tape ∧ w'.output = w.output) (hsize : w.heap.size ≤ w'.heap.size) (hold : ∀ r, r < w.heap.size → w'.heap[r]? = w.heap[r]?)
    (hbr : ∀ σ' : Sg, σ.le σ' → BR σ' L w' B) :
    Tr G σ h nx w (fun i => if i = nx then some L else σ i) (fun i => if i = nx then some B else h i) (nx + 1) w' := by
  have hle : σ.le (fun i => if i = nx then some L else σ i) := fun i L' hi => by
    by_cases e : i = nx
    · subst e; rw [m.free i (Nat.le_refl _)] at hi; cases hi
    · simp only [if_neg e]; exact hi
  have hlt : ∀ i B' L', h i = some B' → σ i = some L' → L'.blk < w.heap.size := fun i B' L' h1 h2 => by
    obtain ⟨L1, h3, h4⟩ := m.blk i B' h1
    rw [h2] at h3; injection h3 with h3; subst h3
    exact h4.lt
  refine ⟨by omega, hle, fun i hi => by rw [if_neg (by omega)], ⟨fun i B' hi => ?_, fun i i' L1 L2 h1 h2 h3 h4 h5 => ?_, fun i hi => ?_, fun g hg => ?_, by have := m.gle; omega⟩, hrest.1, hrest.2.1, hrest.2.2, by omega, fun r hr _ => hold r hr, fun i L' hi hs => ?_, fun i hi hn => by rw [if_neg (by omega)]; exact hn, fun r hr hq => ⟨hold r hr, fun i L1 B1 (h1 : (if i = nx then some B else h i) = some B1) (h2 : (if i = nx then some L else σ i) = some L1) h3 => by
    by_cases e : i = nx
    · rw [if_pos e] at h2; injection h2 with h2; subst h2; omega
    · rw [if_neg e] at h1 h2; exact hq i L1 B1 h1 h2 h3⟩⟩
  · by_cases e : i = nx
    · subst e
      rw [if_pos rfl] at hi; injection hi with hi; subst hi
      exact ⟨L, by rw [if_pos rfl], hbr _ hle⟩
    · rw [if_neg e] at hi
      obtain ⟨L1, h1, h2⟩ := m.blk i B' hi
      exact ⟨L1, by rw [if_neg e]; exact h1, h2.keep hle (hold _ h2.lt)⟩
  · by_cases e : i = nx <;> by_cases e' : i' = nx
    · rw [e, e']
    · rw [if_pos e] at h3; injection h3 with h3; subst h3
      rw [if_neg e'] at h4 h2
      obtain ⟨B2, hB2⟩ := Option.isSome_iff_exists.1 h2
      have := hlt i' B2 L2 hB2 h4
      omega
    · rw [if_pos e'] at h4; injection h4 with h4; subst h4
      rw [if_neg e] at h3 h1
      obtain ⟨B1, hB1⟩ := Option.isSome_iff_exists.1 h1
      have := hlt i B1 L1 hB1 h3
      omega
    · rw [if_neg e] at h3 h1; rw [if_neg e'] at h4 h2
      exact m.sep i i' L1 L2 h1 h2 h3 h4 h5
  · rw [if_neg (by omega)]; exact m.free i (by omega)
  · rw [if_neg (by have := m.gle; omega)]; exact m.glob g hg
  · by_cases e : i = nx
    · rw [if_pos e] at hs; injection hs with hs; subst hs
      exact .inl (by omega)
    · rw [if_neg e] at hi hs
      exact .inr ⟨i, L', hi, hs, rfl⟩
/-- A new row of cells, of which the first ones are known. -/
theorem MR.newRowIn {h : Hp} (m : MR G σ h.get nx w) {w' : World} (el : TypeId) (c : Tb Value) {cs us : List Value} {row : Array Value} {fz : Nat × Nat} (hv : VRs σ cs us) (hc : ∀ i, c.get i = cs[i]?)
    (hb : w'.heap[w.heap.size]? = some (.cells row el fz)) (hrow : ∀ (i : Nat) u, us[i]? = some u → row[i]? = some u) (hle : us.length ≤ row.size) (hfz : fz.1 = fz.2 ∨ row.size ≤ fz.1)
    (hrest : w'.os = w.os ∧ w'.tape = w.tape ∧ w'.output = w.output) (hsize : w'.heap.size = w.heap.size + 1) (hold : ∀ r, r < w.heap.size → w'.heap[r]? = w.heap[r]?) :
    ∃ σ', σ' nx = some ⟨w.heap.size, 0, row.size⟩ ∧ σ.le σ' ∧ Tr G σ h.get nx w σ' (h.put nx (.cells el cs.length 0 c)).get (nx + 1) w' := by
  have hlen := hv.len
  have := m.new (w' := w') ⟨w.heap.size, 0, row.size⟩ (.cells el cs.length 0 c) rfl hrest hsize hold (fun σ' hs => ⟨row, fz, hb, rfl, by simp [hlen, hle], fun i => by
    rw [hc]; simp, fun i v hi => by
    rw [hc] at hi
    obtain ⟨u, hu, hr⟩ := hv.get hi
    exact ⟨u, by rw [Nat.zero_add]; exact hrow i u hu, hr.mono hs⟩, fun _ => hfz⟩)
  rw [Tb.put_fun]
  exact ⟨_, by simp, this.ext, this⟩
end
end Go.Proofs.YthdlljlcffokbaaDoor
namespace Go.Proofs.YthdlljlcffokbaaDoor
open Go.RowKit

/-- The operands stand for the model's. -/
def OE (σ : Sg) (G : Nat) (e : Tb Value) (ρ : Operand → Value) : Prop := ∀ x v, evO G e x = some v → VR σ v (ρ x)
/-- What the machine does at this operation stands for what the model does. -/
def Good (P : Program) (G : Nat) (o : Oper) (e : Tb Value) (h : Hp) (nx : Nat) (v : Value) (h' : Hp) (nx' : Nat) : Prop :=
  ∀ σ w ρ, OE σ G e ρ → MR G σ h.get nx w → Does P ρ o w fun u w' => ∃ σ', VR σ' v u ∧ Tr G σ h.get nx w σ' h'.get nx' w'
theorem OE.list {σ : Sg} {G : Nat} {e : Tb Value} {ρ : Operand → Value} (oe : OE σ G e ρ) : ∀ {l : List Operand} {vs : List Value}, evL G e l = some vs → VRs σ vs (l.map ρ)
  | [], vs, h => by injection h with h; subst h; exact .nil
  | x :: l, vs, h => by
    change oo (evO G e x) none (fun v => oo (evL G e l) none (fun vs => some (v :: vs))) = some vs at h
    obtain ⟨v, hv, h⟩ := oo_inv h (by simp)
    obtain ⟨us, hu, h⟩ := oo_inv h (by simp)
    injection h with h; subst h
    exact .cons (oe x v hv) (oe.list hu)
theorem OE.parts {σ : Sg} {G : Nat} {e : Tb Value} {ρ : Operand → Value} (oe : OE σ G e ρ) : ∀ {l : List (Nat × Operand)} {vs : List (Nat × Value)}, evP G e l = some vs → vs.map (·.1) = l.map (·.1) ∧ VRs σ (vs.map (·.2)) (l.map fun p => ρ p.2)
  | [], vs, h => by injection h with h; subst h; exact ⟨rfl, .nil⟩
  | x :: l, vs, h => by
    change oo (evO G e x.2) none (fun v => oo (evP G e l) none (fun vs => some ((x.1, v) :: vs))) = some vs at h
    obtain ⟨v, hv, h⟩ := oo_inv h (by simp)
    obtain ⟨us, hu, h⟩ := oo_inv h (by simp)
    injection h with h; subst h
    obtain ⟨h1, h2⟩ := oe.parts hu
    exact ⟨by simp [h1], .cons (oe x.2 v hv) h2⟩
theorem ok_inj {v v' : Value} {h h' : Hp} {nx nx' : Nat} (e : OR.ok v h nx = OR.ok v' h' nx') : v = v' ∧ h = h' ∧ nx = nx' := by injection e with a b c; exact ⟨a, b, c⟩

section
variable {P : Program} {G : Nat} {o : Oper} {e : Tb Value} {h h' : Hp} {nx nx' : Nat} {v : Value}
theorem good_pure (hp : ∀ σ w ρ, OE σ G e ρ → MR G σ h.get nx w → ∃ u, VR σ v u ∧ (execOp ρ o).run P w = .ok (.value u) w) : Good P G o e h nx v h nx := fun σ w ρ oe m =>
  let ⟨u, hu, hr⟩ := hp σ w ρ oe m
  ⟨u, w, .inl hr, σ, hu, Tr.refl m⟩
theorem move_good {x : Operand} (ho : o.op = .move x ∨ o.op = .assign x) (hm : mMove h nx (evO G e x) = .ok v h' nx') : Good P G o e h nx v h' nx' := by
  obtain ⟨v', hv, hm⟩ := oo_inv hm (by simp)
  obtain ⟨rfl, rfl, rfl⟩ := ok_inj hm
  refine good_pure fun σ w ρ oe m => ⟨ρ x, oe x _ hv, ?_⟩
  rcases ho with ho | ho <;> · unfold execOp; simp only [ho]; rfl
theorem pick_good {c x y : Operand} (ho : o.op = .pick c x y) (hm : mPick h nx (evO G e c) (evO G e x) (evO G e y) = .ok v h' nx') : Good P G o e h nx v h' nx' := by
  unfold mPick at hm
  split at hm
  · rename_i b a a' h1 h2 h3
    obtain ⟨rfl, rfl, rfl⟩ := ok_inj hm
    refine good_pure fun σ w ρ oe m => ?_
    have hc := (oe c _ h1).scal_inv rfl
    cases b with
    | true => exact ⟨ρ x, oe x _ h2, by unfold execOp; simp [ho, hc, asBool]⟩
    | false => exact ⟨ρ y, oe y _ h3, by unfold execOp; simp [ho, hc, asBool]⟩
  · cases hm
theorem nil_good {x : Operand} (ho : o.op = .nilCheck x) (hm : mNil h nx (evO G e x) = .ok v h' nx') : Good P G o e h nx v h' nx' := by
  unfold mNil at hm
  split at hm
  · rename_i a h1
    obtain ⟨rfl, rfl, rfl⟩ := ok_inj hm
    refine good_pure fun σ w ρ oe m => ⟨ρ x, oe x _ h1, ?_⟩
    have hx := oe x _ h1
    obtain ⟨id, off, sp⟩ := a
    cases sp with
    | some z =>
      generalize ρ x = u at hx
      cases hx with
      | sc _ hs _ => cases hs
    | none =>
      obtain ⟨L, _, hu⟩ := hx.ptr_inv
      unfold execOp; simp [ho, hu]
  · rename_i f a b h1
    obtain ⟨rfl, rfl, rfl⟩ := ok_inj hm
    refine good_pure fun σ w ρ oe m => ⟨ρ x, oe x _ h1, ?_⟩
    obtain ⟨ys, ys', hu, _⟩ := VR.func_inv (xs := a.toList) (xs' := b.toList) (oe x _ h1)
    unfold execOp; simp [ho, hu]
  · cases hm
theorem extract_good {x : Operand} {i : Nat} (ho : o.op = .extract x i) (hm : mExtract h nx i (evO G e x) = .ok v h' nx') : Good P G o e h nx v h' nx' := by
  unfold mExtract at hm
  split at hm
  · rename_i vs h1
    split at hm
    · rename_i v' h2
      obtain ⟨rfl, rfl, rfl⟩ := ok_inj hm
      refine good_pure fun σ w ρ oe m => ?_
      obtain ⟨ys, hu, hr⟩ := (oe x _ h1).tuple_inv
      obtain ⟨y, hy, hvy⟩ := hr.get h2
      exact ⟨y, hvy, by unfold execOp; simp [ho, hu, Instr.extract, hy]⟩
    · cases hm
  · cases hm
theorem func_good {f : Fn} {xs ys : Array Operand} (ho : o.op = .makeFunc f xs ys) (hm : mFunc h nx f (evL G e xs.toList) (evL G e ys.toList) = .ok v h' nx') : Good P G o e h nx v h' nx' := by
  unfold mFunc at hm
  split at hm
  · rename_i us vs h1 h2
    split at hm
    · rename_i f'
      obtain ⟨rfl, rfl, rfl⟩ := ok_inj hm
      refine good_pure fun σ w ρ oe m => ⟨.func (.func f') (xs.map ρ) (ys.map ρ), ?_, by unfold execOp; simp [ho, Instr.makeFunc]⟩
      have e1 : xs.map ρ = ⟨xs.toList.map ρ⟩ := by apply Array.ext'; simp
      have e2 : ys.map ρ = ⟨ys.toList.map ρ⟩ := by apply Array.ext'; simp
      rw [e1, e2]
      exact .func _ (oe.list h1) (oe.list h2) .nil
    · cases hm
  · cases hm
theorem iface_good {t : TypeId} {x : Operand} (ho : o.op = .makeInterface t x) (hm : mIface P h nx t (evO G e x) = .ok v h' nx') : Good P G o e h nx v h' nx' := by
  unfold mIface at hm
  split at hm
  · rename_i v' h1
    split at hm
    · cases hm
    · rename_i d hd hu
      obtain ⟨rfl, rfl, rfl⟩ := ok_inj hm
      refine good_pure fun σ w ρ oe m => ⟨.iface t (ρ x), .iface t (oe x _ h1) .nil, ?_⟩
      unfold execOp
      simp only [ho, Instr.makeInterface, Sem.run_bind, run_underlying hu, Result.andThen_ok]
      cases d <;> first | rfl | (exfalso; exact hd _ rfl)
    · cases hm
  · cases hm
theorem sizeTy_info {t n : Nat} (hs : sizeTy P t = some n) : ∃ i, P.info? t = some i ∧ i.size = n := by
  unfold sizeTy at hs
  cases hi : P.info? t with
  | none => simp [hi] at hs
  | some i => exact ⟨i, rfl, by simpa [hi] using hs⟩
theorem run_isAgg {t : TypeId} {r : Option Nat} (hr : rowSz P t = some r) (w : World) : (isAgg t).run P w = .ok r.isSome w ∧ ∀ n, r = some n → ∃ i, P.info? t = some i ∧ i.size = n := by
  unfold rowSz at hr
  unfold isAgg
  rw [Sem.run_bind]
  split at hr
  · rename_i fs hu
    obtain ⟨i, hi, rfl⟩ := Option.map_eq_some_iff.1 hr
    exact ⟨by rw [run_underlying hu w]; rfl, fun n hn => ⟨i, hi, by injection hn⟩⟩
  · rename_i n el hu
    obtain ⟨i, hi, rfl⟩ := Option.map_eq_some_iff.1 hr
    exact ⟨by rw [run_underlying hu w]; rfl, fun n hn => ⟨i, hi, by injection hn⟩⟩
  · rename_i d hd hd' hu
    injection hr with hr; subst hr
    refine ⟨?_, fun n hn => by cases hn⟩
    rw [run_underlying hu w]
    cases d <;> first | rfl | (exfalso; exact hd _ rfl) | (exfalso; exact hd' _ _ rfl)
  · cases hr
theorem rangeAt_loadCells {w : World} {b o : Nat} {us : List Value} (hc : w.rangeAt b o us) : (loadCells ⟨b, o, none⟩ us.length).run P w = .ok us.toArray w :=
  run_loadCells_list (P := P) w ⟨b, o, none⟩ us (fun j v hv => by rw [Addr.add_mid]; exact hc j v hv)
theorem load_good {t : TypeId} {a : Operand} (ho : o.op = .load t a) (hm : mLoad P h nx t (evO G e a) = .ok v h' nx') : Good P G o e h nx v h' nx' := by
  unfold mLoad at hm
  split at hm
  · rename_i id off h1
    split at hm
    · rename_i el n k c hb
      split at hm
      · rename_i hr
        split at hm
        · rename_i v' hv
          obtain ⟨rfl, rfl, rfl⟩ := ok_inj hm
          refine good_pure fun σ w ρ oe m => ?_
          obtain ⟨L, hL, hu⟩ := (oe a _ h1).ptr_inv
          obtain ⟨u, hc, hvu⟩ := m.cell hb hL hv
          refine ⟨u, hvu, ?_⟩
          unfold execOp
          simp only [ho, hu, Instr.loadAt, Instr.sureAddr, Sem.run_bind, Sem.run_pure, Result.andThen_ok, loadVar, (run_isAgg hr w).1, Option.isSome_none, Bool.false_eq_true, if_false]
          simp [hc]
        · cases hm
      · rename_i m hr
        split at hm
        · rename_i l hl
          obtain ⟨rfl, rfl, rfl⟩ := ok_inj hm
          refine good_pure fun σ w ρ oe mr => ?_
          obtain ⟨L, hL, hu⟩ := (oe a _ h1).ptr_inv
          obtain ⟨us, h2, h3, h4⟩ := mr.ldN hb hL m off hl
          refine ⟨.agg ⟨us⟩, .agg h2 .nil, ?_⟩
          obtain ⟨i, hi, hs⟩ := (run_isAgg hr w).2 m rfl
          have hcells := rangeAt_loadCells (P := P) h4
          rw [h3] at hcells
          unfold execOp
          simp [ho, hu, Instr.loadAt, Instr.sureAddr, loadVar, (run_isAgg hr w).1, sizeOf, typeInfo, hi, hs, hcells]
        · cases hm
      · cases hm
    · cases hm
  · cases hm
theorem store_good {t : TypeId} {a x : Operand} (ho : o.op = .store t a x) (hm : mStore P h nx t (evO G e a) (evO G e x) = .ok v h' nx') : Good P G o e h nx v h' nx' := by
  unfold mStore at hm
  split at hm
  · rename_i id off v' h1 h2
    split at hm
    · rename_i n hn
      obtain ⟨hlen, hm⟩ := bo_inv hm (by simp)
      split at hm
      · rename_i h2' hw
        obtain ⟨rfl, rfl, rfl⟩ := ok_inj hm
        intro σ w ρ oe m
        obtain ⟨L, hL, hu⟩ := (oe a _ h1).ptr_inv
        have hc := (oe x _ h2).cells
        obtain ⟨hrun, htr⟩ := m.write (P := P) hw hL hc
        obtain ⟨i, hi, hs⟩ := sizeTy_info hn
        have hsz : (ρ x).cells.size = i.size := by
          rw [hs, ← Nat.eq_of_beq_eq_true hlen, hc.len]; simp
        refine ⟨undef, _, .inr ⟨?_, rfl⟩, σ, VR.undef, htr⟩
        unfold execOp
        simp [ho, hu, Instr.storeAt, Instr.sureAddr, storeVar, sizeOf, typeInfo, hi, hsz, hrun]
      · cases hm
    · cases hm
  · cases hm
theorem zeroTy_info {t : TypeId} {z : Value} (hz : zeroTy P t = some z) : ∃ i, P.info? t = some i ∧ i.zero = some z ∧ flat z = true := by
  unfold zeroTy at hz
  split at hz
  · rename_i i hi
    split at hz
    · rename_i z' hz'
      obtain ⟨h1, h2⟩ := bo_inv hz (by simp)
      injection h2 with h2; subst h2
      exact ⟨i, hi, hz', h1⟩
    · cases hz
  · cases hz
theorem newB_inv {B : Bl} {u : Value} (hm : newB h nx B u = .ok v h' nx') : v = u ∧ h' = h.put nx B ∧ nx' = nx + 1 := by
  unfold newB at hm
  rw [blS_eq, putS_eq, natS_eq] at hm
  obtain ⟨rfl, rfl, rfl⟩ := ok_inj hm
  exact ⟨rfl, rfl, rfl⟩
/-- A new row of cells, all known. -/
theorem MR.newRow {σ : Sg} {w : World} (m : MR G σ h.get nx w) (el : TypeId) (c : Tb Value) {cs us : List Value} (hv : VRs σ cs us) (hc : ∀ i, c.get i = cs[i]?) :
    ∃ σ', σ' nx = some ⟨w.heap.size, 0, us.length⟩ ∧ σ.le σ' ∧ Tr G σ h.get nx w σ' (h.put nx (.cells el cs.length 0 c)).get (nx + 1) (w.alloc (.cells us.toArray el)) := by
  have := m.newRowIn (w' := w.alloc (.cells us.toArray el)) el c hv hc (heap_alloc_new w _) (fun i u hu => by simpa using hu) (by simp) (.inl rfl) ⟨rfl, rfl, rfl⟩ (by simp) (fun r hr => Below.heap_alloc w _ r hr)
  simpa using this
theorem alloc_good {el : TypeId} (ho : o.op = .alloc el) (hm : mAlloc P h nx el = .ok v h' nx') : Good P G o e h nx v h' nx' := by
  unfold mAlloc at hm
  split at hm
  · rename_i z hz
    obtain ⟨rfl, rfl, rfl⟩ := newB_inv hm
    obtain ⟨i, hi, hiz, hf⟩ := zeroTy_info hz
    intro σ w ρ oe m
    obtain ⟨σ', h1, h2, h3⟩ := m.newRow el (Tb.of z.cells.toList) ((VR.of_flat (σ := σ) hf).cells) (fun i => Tb.get_of _ i)
    refine ⟨.pointer (some ⟨w.heap.size, 0, none⟩), _, .inl ?_, σ', .ptr (L := ⟨w.heap.size, 0, _⟩) h1 .nil, h3⟩
    unfold execOp
    simp [ho, Instr.alloc, zeroValue, typeInfo, hi, hiz, newVar, newRow]
  · cases hm
theorem box_good {el : TypeId} {x : Operand} (ho : o.op = .box el x) (hm : mBox h nx el (evO G e x) = .ok v h' nx') : Good P G o e h nx v h' nx' := by
  unfold mBox at hm
  split at hm
  · rename_i v' h1
    obtain ⟨rfl, rfl, rfl⟩ := newB_inv hm
    intro σ w ρ oe m
    obtain ⟨σ', h2, h3, h4⟩ := m.newRow el (Tb.of v'.cells.toList) (oe x _ h1).cells (fun i => Tb.get_of _ i)
    refine ⟨.pointer (some ⟨w.heap.size, 0, none⟩), _, .inl ?_, σ', .ptr (L := ⟨w.heap.size, 0, _⟩) h2 .nil, h4⟩
    unfold execOp
    simp [ho, Instr.box, newVar, newRow]
  · cases hm
theorem pureRun_ok {α : Type} : ∀ (s : Sem α) {a : α}, pureRun P s = some a → ∀ w, s.run P w = .ok a w := by
  intro s
  induction s with
  | pure a => intro b hb w; injection hb with hb; subst hb; rfl
  | program k ih => intro b hb w; exact ih P hb w
  | mark m k ih => intro b hb w; exact ih hb w
  | _ => intro b hb; cases hb
theorem allFlat_ok {σ : Sg} {ρ : Operand → Value} (oe : OE σ G e ρ) : ∀ {l : List Operand}, allFlat G e l = true → ∀ x ∈ l, ρ x = (evO G e x).getD undef
  | [], _ => by simp
  | y :: l, hl => by
    change (match evO G e y with | some v => bo (flat v) (allFlat G e l) false | none => false) = true at hl
    split at hl
    · rename_i v hv
      obtain ⟨h1, h2⟩ := bo_inv hl (by simp)
      intro x hx
      rcases List.mem_cons.1 hx with rfl | hx
      · rw [hv]; exact (oe _ _ hv).eq_of_flat h1
      · exact allFlat_ok oe h2 x hx
    · cases hl
theorem flat_good (hsel : ∀ cs b, o.op ≠ .select cs b) (hm : mFlat P G e h nx o = .ok v h' nx') : Good P G o e h nx v h' nx' := by
  obtain ⟨h1, hm⟩ := bo_inv hm (by simp)
  split at hm
  · rename_i v' hp
    obtain ⟨h2, hm⟩ := bo_inv hm (by simp)
    obtain ⟨rfl, rfl, rfl⟩ := ok_inj hm
    refine good_pure fun σ w ρ oe m => ⟨_, VR.of_flat h2, ?_⟩
    rw [execOp_congr o hsel (fun x hx => allFlat_ok oe h1 x (by simpa using hx))]
    exact pureRun_ok _ hp w
  · cases hm
theorem fieldAddr_good {s f : Nat} {x : Operand} (ho : o.op = .fieldAddr s x f) (hm : mFieldAddr P h nx s f (evO G e x) = .ok v h' nx') : Good P G o e h nx v h' nx' := by
  unfold mFieldAddr at hm
  split at hm
  · rename_i id off h1
    split at hm
    · rename_i k hk
      obtain ⟨rfl, rfl, rfl⟩ := ok_inj hm
      refine good_pure fun σ w ρ oe m => ?_
      obtain ⟨L, hL, hu⟩ := (oe x _ h1).ptr_inv
      refine ⟨.pointer (some ⟨L.blk, L.base + off + k, none⟩), by rw [Nat.add_assoc]; exact .ptr hL .nil, ?_⟩
      unfold fieldOff at hk
      split at hk
      · rename_i fs hus
        split at hk
        · rename_i fd hfd
          split at hk
          · rename_i i hi
            split at hk
            · cases hk
            · rename_i hz
              simp only [Option.some.injEq] at hk
              subst hk
              unfold execOp
              simp [ho, hu, Instr.fieldAt, run_underlying hus, hfd, Instr.sureAddr, fieldPlace, sizeOf, typeInfo, hi, hz, Addr.add_mid]
          · cases hk
        · cases hk
      · cases hk
    · cases hm
  · cases hm
end
end Go.Proofs.YthdlljlcffokbaaDoor
namespace Go.Proofs.YthdlljlcffokbaaDoor
open Go.RowKit

section
variable {P : Program} {G : Nat} {o : Oper} {e : Tb Value} {h h' : Hp} {nx nx' : Nat} {v : Value}
theorem partL_run {σ : Sg} {t off : Nat} {r : Option Nat} {cs us : List Value} (hr : rowSz P t = some r) (hv : VRs σ cs us) (hp : partL cs off r = some v) (w : World) : ∃ u, VR σ v u ∧ (part t ⟨us⟩ off).run P w = .ok u w := by
  obtain ⟨h1, h2⟩ := run_isAgg hr w
  cases r with
  | none =>
    obtain ⟨u, hu, hvu⟩ := hv.get hp
    refine ⟨u, hvu, ?_⟩
    unfold part
    simp only [Sem.run_bind, h1, Result.andThen_ok, Option.isSome_none, Bool.false_eq_true, if_false]
    simp [hu]
  | some n =>
    injection hp with hp; subst hp
    obtain ⟨i, hi, hs⟩ := h2 n rfl
    refine ⟨.agg ⟨(us.drop off).take n⟩, .agg ((hv.drop off).take n) .nil, ?_⟩
    unfold part
    simp [h1, sizeOf, typeInfo, hi, hs]
theorem field_good {s f : Nat} {x : Operand} (ho : o.op = .field s x f) (hm : mField P h nx s f (evO G e x) = .ok v h' nx') : Good P G o e h nx v h' nx' := by
  unfold mField at hm
  split at hm
  · rename_i cs h1
    split at hm
    · rename_i off r hp
      split at hm
      · rename_i v' hv
        obtain ⟨rfl, rfl, rfl⟩ := ok_inj hm
        unfold fieldPl at hp
        split at hp
        · rename_i fs hus
          split at hp
          · rename_i fd hfd
            obtain ⟨r', hr, hp⟩ := Option.map_eq_some_iff.1 hp
            injection hp with e1 e2; subst e1; subst e2
            refine good_pure fun σ w ρ oe m => ?_
            obtain ⟨ys, hu, hr'⟩ := (oe x _ h1).agg_inv
            obtain ⟨u, hvu, hrun⟩ := partL_run hr hr' hv w
            exact ⟨u, hvu, by unfold execOp; simp [ho, hu, Instr.field, run_underlying hus, hfd, asAgg, hrun]⟩
          · cases hp
        · cases hp
      · cases hm
    · cases hm
  · cases hm
theorem slEl {t el s : Nat} (ht : sliceElem P t = some (el, s)) : P.underlying t = some (.slice el) ∧ ∃ i, P.info? el = some i ∧ i.size = s := by
  unfold sliceElem at ht
  split at ht
  · rename_i el' hu
    split at ht
    · rename_i i hi
      simp only [Option.some.injEq, Prod.mk.injEq] at ht
      obtain ⟨rfl, rfl⟩ := ht
      exact ⟨hu, i, hi, rfl⟩
    · cases ht
  · cases ht
theorem arEl {t n el s : Nat} (ht : arrElem P t = some (n, el, s)) : P.underlying t = some (.array n el) ∧ ∃ i, P.info? el = some i ∧ i.size = s := by
  unfold arrElem at ht
  split at ht
  · rename_i el' n' hu
    split at ht
    · rename_i i hi
      simp only [Option.some.injEq, Prod.mk.injEq] at ht
      obtain ⟨rfl, rfl, rfl⟩ := ht
      exact ⟨hu, i, hi, rfl⟩
    · cases ht
  · cases ht
theorem indexAddr_good {t : Nat} {x i : Operand} (ho : o.op = .indexAddr t x i) (hm : mIndexAddr P h nx t (evO G e x) (evO G e i) = .ok v h' nx') : Good P G o e h nx v h' nx' := by
  unfold mIndexAddr at hm
  split at hm
  · rename_i id off sp len cap k m h1 h2
    split at hm
    · rename_i el s ht
      obtain ⟨hlt, hm⟩ := bo_inv hm (by simp)
      obtain ⟨rfl, rfl, rfl⟩ := ok_inj hm
      have hlt := blt_lt hlt
      obtain ⟨hus, i', hi', hs⟩ := slEl ht
      refine good_pure fun σ w ρ oe m' => ?_
      obtain ⟨L, c', hL, hu⟩ := (oe x _ h1).slice_inv (by omega)
      have hi := (oe i _ h2).scal_inv rfl
      refine ⟨.pointer (some ⟨L.blk, L.base + off + m * s, none⟩), by rw [Nat.add_assoc]; exact .ptr hL .nil, ?_⟩
      have h0 : (0 : Int) ≤ Int.ofNat m ∧ Int.ofNat m < (len : Int) := ⟨by simp, by simpa using hlt⟩
      unfold execOp
      simp [ho, hu, hi, Instr.indexAt, asIntOf, run_underlying hus, hlt, sizeOf, typeInfo, hi', hs, Addr.add_mid]
    · cases hm
  · rename_i id off k m h1 h2
    split at hm
    · rename_i len el s ht
      obtain ⟨hlt, hm⟩ := bo_inv hm (by simp)
      obtain ⟨rfl, rfl, rfl⟩ := ok_inj hm
      have hlt := blt_lt hlt
      obtain ⟨hus, i', hi', hs⟩ := arEl ht
      refine good_pure fun σ w ρ oe m' => ?_
      obtain ⟨L, hL, hu⟩ := (oe x _ h1).ptr_inv
      have hi := (oe i _ h2).scal_inv rfl
      refine ⟨.pointer (some ⟨L.blk, L.base + off + m * s, none⟩), by rw [Nat.add_assoc]; exact .ptr hL .nil, ?_⟩
      unfold execOp
      simp [ho, hu, hi, Instr.indexAt, asIntOf, run_underlying hus, Instr.sureAddr, hlt, sizeOf, typeInfo, hi', hs, Addr.add_mid]
    · cases hm
  · cases hm
theorem index_good {t : Nat} {x i : Operand} (ho : o.op = .index t x i) (hm : mIndex P h nx t (evO G e x) (evO G e i) = .ok v h' nx') : Good P G o e h nx v h' nx' := by
  unfold mIndex at hm
  split at hm
  · rename_i cs k m h1 h2
    split at hm
    · rename_i len el s ht
      split at hm
      · rename_i r hr
        obtain ⟨hlt, hm⟩ := bo_inv hm (by simp)
        split at hm
        · rename_i v' hv
          obtain ⟨rfl, rfl, rfl⟩ := ok_inj hm
          have hlt := blt_lt hlt
          obtain ⟨hus, i', hi', hs⟩ := arEl ht
          refine good_pure fun σ w ρ oe m' => ?_
          obtain ⟨ys, hu, hr'⟩ := (oe x _ h1).agg_inv
          have hi := (oe i _ h2).scal_inv rfl
          obtain ⟨u, hvu, hrun⟩ := partL_run hr hr' hv w
          refine ⟨u, hvu, ?_⟩
          unfold execOp
          simp [ho, hu, hi, Instr.index, asIntOf, run_underlying hus, hlt, sizeOf, typeInfo, hi', hs, hrun]
        · cases hm
      · cases hm
    · cases hm
  · rename_i s k m h1 h2
    split at hm
    · rename_i hus
      split at hm
      · rename_i b hb
        obtain ⟨rfl, rfl, rfl⟩ := ok_inj hm
        refine good_pure fun σ w ρ oe m' => ?_
        have hu := (oe x _ h1).scal_inv rfl
        have hi := (oe i _ h2).scal_inv rfl
        refine ⟨.int .u8 (.ofNat b.toNat), VR.int, ?_⟩
        have hs : s[m]? = some b := by
          obtain ⟨d⟩ := s
          have hl := (List.getElem?_eq_some_iff.1 hb).1
          have he := (List.getElem?_eq_some_iff.1 hb).2
          rw [getElem?_pos (ByteArray.mk d) m (by show m < d.size; simpa using hl)]
          congr 1
        unfold execOp
        simp [ho, hu, hi, Instr.index, asIntOf, run_underlying hus, hs]
      · cases hm
    · cases hm
  · cases hm
theorem arr_good {t : Nat} {x : Operand} (ho : o.op = .sliceToArrayPointer t x) (hm : mArr P h nx t (evO G e x) = .ok v h' nx') : Good P G o e h nx v h' nx' := by
  unfold mArr at hm
  split at hm
  · rename_i id off sp len cap h1
    split at hm
    · rename_i n el s ht
      obtain ⟨hle, hm⟩ := bo_inv hm (by simp)
      obtain ⟨rfl, rfl, rfl⟩ := ok_inj hm
      simp only [Bool.and_eq_true] at hle
      have hpos := blt_lt hle.2
      have hle := Nat.le_of_ble_eq_true hle.1
      obtain ⟨hus, _⟩ := arEl ht
      refine good_pure fun σ w ρ oe m' => ?_
      obtain ⟨L, c', hL, hu⟩ := (oe x _ h1).slice_inv hpos
      refine ⟨_, .ptr hL .nil, ?_⟩
      unfold execOp
      simp [ho, hu, Instr.arrayAt, run_underlying hus, Nat.not_lt.2 hle]
    · cases hm
  · cases hm
/-- The bounds of a slice. -/
theorem bnd {σ : Sg} {ρ : Operand → Value} (oe : OE σ G e ρ) {lo : Option Operand} {d l : Nat} (hb : bndO d (lo.map (evO G e)) = some l) : (lo = none ∧ l = d) ∨ ∃ x k, lo = some x ∧ ρ x = .int k (.ofNat l) := by
  unfold bndO at hb
  split at hb
  · rename_i hl
    injection hb with hb
    cases lo with
    | none => exact .inl ⟨rfl, hb.symm⟩
    | some x => cases hl
  · rename_i k m hl
    injection hb with hb; subst hb
    cases lo with
    | none => cases hl
    | some x => exact .inr ⟨x, k, rfl, by simp only [Option.map_some, Option.some.injEq] at hl; exact (oe x _ hl).scal_inv rfl⟩
  · cases hb
theorem run_bound (w : World) (k : IntKind) (m y : Nat) (code : BoundsCode) (hle : m ≤ y) : (Instr.sliceBound (.int k (m : Int)) y code).run P w = .ok m w := by
  simp [Instr.sliceBound, asIntOf, hle]
theorem run_bounds {σ : Sg} {ρ : Operand → Value} (oe : OE σ G e ρ) (w : World) (isSlice : Bool) {lo hi mx : Option Operand} {len cap l u m : Nat} (hl : bndO 0 (lo.map (evO G e)) = some l) (hu : bndO len (hi.map (evO G e)) = some u) (hm : bndO cap (mx.map (evO G e)) = some m)
    (h1 : l ≤ u) (h2 : hi.isSome = true → u ≤ m) (h3 : m ≤ cap) (h4 : hi.isSome = true ∨ mx = none) : (Instr.sliceBounds isSlice len cap (lo.map ρ) (hi.map ρ) (mx.map ρ)).run P w = .ok (l, u, m) w := by
  unfold Instr.sliceBounds
  rcases bnd oe hl with ⟨rfl, rfl⟩ | ⟨x, k, rfl, hx⟩ <;> rcases bnd oe hu with ⟨rfl, rfl⟩ | ⟨y, k', rfl, hy⟩ <;> rcases bnd oe hm with ⟨rfl, rfl⟩ | ⟨z, k'', rfl, hz⟩ <;>
    simp_all [run_bound]
theorem map_nil {lo : Option Operand} (hl : lo.map (evO G e) = none) : lo = none := by cases lo <;> simp_all
theorem slice_good {t : Nat} {x : Operand} {lo hi mx : Option Operand} (ho : o.op = .slice t x lo hi mx) (hm : mSlice P h nx t (evO G e x) (lo.map (evO G e)) (hi.map (evO G e)) (mx.map (evO G e)) = .ok v h' nx') : Good P G o e h nx v h' nx' := by
  unfold mSlice at hm
  split at hm
  · rename_i s h1
    split at hm
    · rename_i l u hus hmx hl hu
      obtain ⟨hc, hm⟩ := bo_inv hm (by simp)
      simp only [Bool.and_eq_true] at hc
      have hc1 := Nat.le_of_ble_eq_true hc.1
      have hc2 := Nat.le_of_ble_eq_true hc.2
      obtain ⟨rfl, rfl, rfl⟩ := ok_inj hm
      have hmx := map_nil hmx
      subst hmx
      refine good_pure fun σ w ρ oe m' => ?_
      have hx := (oe x _ h1).scal_inv rfl
      have hsz : s.size = s.data.toList.length := by obtain ⟨d⟩ := s; rfl
      have hb := run_bounds (P := P) oe w false (mx := none) (cap := s.size) (len := s.size) hl (by rw [hsz]; exact hu) rfl hc1 (fun _ => by rw [hsz]; exact hc2) (Nat.le_refl _) (.inr rfl)
      refine ⟨_, VR.str, ?_⟩
      unfold execOp
      simp only [Option.map_none] at hb
      simp [ho, hx, Instr.sliceAt, Instr.slice, run_underlying hus, hb, Lib.extract_eq]
    · cases hm
  · rename_i id off len cap h1
    split at hm
    · rename_i el s l u m ht hl hu hmm
      obtain ⟨hc, hm⟩ := bo_inv hm (by simp)
      simp only [Bool.and_eq_true, Bool.or_eq_true] at hc
      have hc1 := Nat.le_of_ble_eq_true hc.1
      have hc2 := Nat.le_of_ble_eq_true hc.2.1
      have hc3 := Nat.le_of_ble_eq_true hc.2.2.1
      obtain ⟨rfl, rfl, rfl⟩ := ok_inj hm
      obtain ⟨hus, i', hi', hs⟩ := slEl ht
      refine good_pure fun σ w ρ oe m' => ?_
      obtain ⟨L, hL, hx⟩ := (oe x _ h1).sl_inv
      have hb := run_bounds (P := P) oe w true hl hu hmm hc1 (fun _ => hc2) hc3 (by
        rcases hc.2.2.2 with h5 | h5
        · left; cases hi <;> simp_all
        · right; cases mx <;> simp_all)
      refine ⟨.slice (some ⟨L.blk, L.base + bo (Nat.beq m l) off (off + l * s), none⟩) (u - l) (m - l), .sl hL .nil, ?_⟩
      unfold execOp
      by_cases hml : m = l
      · subst hml
        have : Nat.beq m m = true := by simp
        simp [ho, hx, Instr.sliceAt, Instr.slice, run_underlying hus, hb, sizeOf, typeInfo, hi', bo_true]
      · have : Nat.beq m l = false := by cases hbq : Nat.beq m l with | false => rfl | true => exact absurd (Nat.eq_of_beq_eq_true hbq) hml
        rw [this, bo_false]
        simp [ho, hx, Instr.sliceAt, Instr.slice, run_underlying hus, hb, sizeOf, typeInfo, hi', hs, hml, Addr.add_mid, Nat.add_assoc]
    · cases hm
  · rename_i id off z len h1
    split at hm
    · rename_i el s l u ht hl hu hmx
      cases hc : (Nat.ble l u && (Nat.ble u len && Nat.beq s z)) with
      | false =>
        rw [hc, bo_false] at hm
        unfold mSlKnown at hm
        split at hm
        · rename_i el0 m0 k0 c0 hb0
          obtain ⟨hc, hm⟩ := bo_inv hm (by simp)
          simp only [Bool.and_eq_true] at hc
          have hlu := blt_lt hc.1
          have hum := Nat.le_of_ble_eq_true hc.2.1
          have hz0 := blt_lt hc.2.2.1
          have hsz := Nat.eq_of_beq_eq_true hc.2.2.2
          obtain ⟨rfl, rfl, rfl⟩ := ok_inj hm
          have hmx := map_nil hmx
          subst hmx
          obtain ⟨hus, i', hi', hs⟩ := slEl ht
          subst hsz
          refine good_pure fun σ w ρ oe m' => ?_
          obtain ⟨L, c', hL, hle, hroom, _, hx⟩ := (oe x _ h1).slo_inv
          obtain ⟨row, fz, hr1, hr2, hr3, _⟩ := m'.cells hb0 hL
          have huc : u ≤ c' := by
            have : u * s ≤ c' * s := by omega
            exact Nat.le_of_mul_le_mul_right this hz0
          have hb := run_bounds (P := P) oe w true (mx := none) (cap := c') hl hu rfl (by omega) (fun _ => by omega) (Nat.le_refl _) (.inr rfl)
          simp only [Option.map_none] at hb
          refine ⟨.slice (some ⟨L.blk, L.base + (off + l * s), none⟩) (u - l) (c' - l), .slo (c := c' - l) hL (by omega) ?_ .nil, ?_⟩
          · have : c' * s = l * s + (c' - l) * s := by rw [← Nat.add_mul]; congr 1; omega
            omega
          · unfold execOp
            have hml : ¬ c' = l := by omega
            simp [ho, hx, Instr.sliceAt, Instr.slice, run_underlying hus, hb, sizeOf, typeInfo, hi', hs, hml, Addr.add_mid, Nat.add_assoc]
        · cases hm
      | true =>
      rw [hc, bo_true] at hm
      simp only [Bool.and_eq_true] at hc
      have hc1 := Nat.le_of_ble_eq_true hc.1
      have hc2 := Nat.le_of_ble_eq_true hc.2.1
      have hc3 := Nat.eq_of_beq_eq_true hc.2.2
      have hmx := map_nil hmx
      subst hmx
      obtain ⟨hus, i', hi', hs⟩ := slEl ht
      subst hc3
      cases hq : (Nat.beq l 0 || Nat.blt l len) with
      | true =>
        rw [hq, bo_true] at hm
        obtain ⟨rfl, rfl, rfl⟩ := ok_inj hm
        refine good_pure fun σ w ρ oe m' => ?_
        obtain ⟨L, c', hL, hle, hroom, _, hx⟩ := (oe x _ h1).slo_inv
        have hb := run_bounds (P := P) oe w true (mx := none) (cap := c') hl hu rfl hc1 (fun _ => by omega) (Nat.le_refl _) (.inr rfl)
        simp only [Option.map_none] at hb
        have hlc : l = 0 ∨ l < c' := by
          rcases Bool.or_eq_true_iff.1 hq with h5 | h5
          · exact .inl (Nat.eq_of_beq_eq_true h5)
          · have := blt_lt h5; exact .inr (by omega)
        refine ⟨.slice (some ⟨L.blk, L.base + (off + l * s), none⟩) (u - l) (c' - l), .slo (c := c' - l) hL (by omega) ?_ .nil, ?_⟩
        · have : c' * s = l * s + (c' - l) * s := by rw [← Nat.add_mul]; congr 1; omega
          omega
        · unfold execOp
          rcases hlc with rfl | hlc
          · by_cases h0 : c' = 0
            · subst h0
              simp [ho, hx, Instr.sliceAt, Instr.slice, run_underlying hus, hb, sizeOf, typeInfo, hi']
            · simp [ho, hx, Instr.sliceAt, Instr.slice, run_underlying hus, hb, sizeOf, typeInfo, hi', h0, Addr.add_mid]
          · have hml : ¬ c' = l := by omega
            simp [ho, hx, Instr.sliceAt, Instr.slice, run_underlying hus, hb, sizeOf, typeInfo, hi', hs, hml, Addr.add_mid, Nat.add_assoc]
      | false =>
        rw [hq, bo_false] at hm
        obtain ⟨rfl, rfl, rfl⟩ := ok_inj hm
        have hl0 : l ≠ 0 := fun hh => by subst hh; simp at hq
        have hll : len ≤ l := by
          rcases Nat.lt_or_ge l len with h5 | h5
          · have := Nat.ble_eq_true_of_le h5
            rw [show Nat.blt l len = true from this, Bool.or_true] at hq; cases hq
          · exact h5
        refine good_pure fun σ w ρ oe m' => ?_
        obtain ⟨L, c', hL, hle, hroom, _, hx⟩ := (oe x _ h1).slo_inv
        have hb := run_bounds (P := P) oe w true (mx := none) (cap := c') hl hu rfl hc1 (fun _ => by omega) (Nat.le_refl _) (.inr rfl)
        simp only [Option.map_none] at hb
        have hul : u - l = 0 := by omega
        by_cases hml : c' = l
        · refine ⟨.slice (some ⟨L.blk, L.base + off, none⟩) 0 0, .sle hL (.inl rfl) .nil, ?_⟩
          unfold execOp
          subst hml
          simp [ho, hx, Instr.sliceAt, Instr.slice, run_underlying hus, hb, sizeOf, typeInfo, hi', hs, hul]
        · refine ⟨.slice (some ⟨L.blk, L.base + (off + l * s), none⟩) 0 (c' - l), .sle hL (.inr ⟨rfl, ?_⟩) .nil, ?_⟩
          · have : c' * s = l * s + (c' - l) * s := by rw [← Nat.add_mul]; congr 1; omega
            omega
          · unfold execOp
            simp [ho, hx, Instr.sliceAt, Instr.slice, run_underlying hus, hb, sizeOf, typeInfo, hi', hs, hml, Addr.add_mid, Nat.add_assoc, hul]
    · rename_i el s l u mo ht hl hu hmx
      split at hm
      · rename_i m hmm0
        obtain ⟨hc, hm⟩ := bo_inv hm (by simp)
        simp only [Bool.and_eq_true] at hc
        have hc1 := Nat.le_of_ble_eq_true hc.1
        have hc2 := Nat.le_of_ble_eq_true hc.2.1
        have hc3 := Nat.le_of_ble_eq_true hc.2.2.1
        obtain ⟨rfl, rfl, rfl⟩ := ok_inj hm
        obtain ⟨hus, i', hi', hs⟩ := slEl ht
        refine good_pure fun σ w ρ oe m' => ?_
        obtain ⟨L, c', hL, hle, hroom, _, hx⟩ := (oe x _ h1).slo_inv
        have hmm : bndO c' (mx.map (evO G e)) = some m := by
          rw [hmx]
          unfold bndO at hmm0 ⊢
          split at hmm0
          · rename_i hh; cases hh
          · exact hmm0
          · cases hmm0
        have hb := run_bounds (P := P) oe w true hl hu hmm hc1 (fun _ => hc2) (by omega) (.inl (by
          have := hc.2.2.2
          cases hi <;> simp_all))
        refine ⟨.slice (some ⟨L.blk, L.base + bo (Nat.beq m l) off (off + l * s), none⟩) (u - l) (m - l), .sl hL .nil, ?_⟩
        unfold execOp
        by_cases hml : m = l
        · subst hml
          have : Nat.beq m m = true := by simp
          simp [ho, hx, Instr.sliceAt, Instr.slice, run_underlying hus, hb, sizeOf, typeInfo, hi', bo_true]
        · have : Nat.beq m l = false := by cases hbq : Nat.beq m l with | false => rfl | true => exact absurd (Nat.eq_of_beq_eq_true hbq) hml
          rw [this, bo_false]
          simp [ho, hx, Instr.sliceAt, Instr.slice, run_underlying hus, hb, sizeOf, typeInfo, hi', hs, hml, Addr.add_mid, Nat.add_assoc]
      · cases hm
    · cases hm
  · rename_i id off z h1
    split at hm
    · rename_i p ht hl hu hmm
      obtain ⟨el, s⟩ := p
      obtain ⟨hc, hm⟩ := bo_inv hm (by simp)
      obtain ⟨rfl, rfl, rfl⟩ := ok_inj hm
      obtain ⟨hus, i', hi', hs⟩ := slEl ht
      refine good_pure fun σ w ρ oe m' => ?_
      have hv := oe x _ h1
      obtain ⟨L, A, c', hL, hx, _⟩ := hv.slice_any
      have h4 : hi.isSome = true ∨ mx = none := by
        rcases Bool.or_eq_true_iff.1 hc with h5 | h5
        · left; cases hi <;> simp_all
        · right; cases mx <;> simp_all
      cases hmx : mx with
      | none =>
        subst hmx
        have hb := run_bounds (P := P) oe w true (mx := none) (cap := c') hl hu rfl (Nat.le_refl 0) (fun _ => Nat.zero_le _) (Nat.le_refl _) (.inr rfl)
        simp only [Option.map_none] at hb
        refine ⟨.slice (some ⟨L.blk, A, none⟩) 0 c', by rw [← hx]; exact hv, ?_⟩
        unfold execOp
        by_cases h0 : c' = 0
        · subst h0
          simp [ho, hx, Instr.sliceAt, Instr.slice, run_underlying hus, hb, sizeOf, typeInfo, hi']
        · simp [ho, hx, Instr.sliceAt, Instr.slice, run_underlying hus, hb, sizeOf, typeInfo, hi', h0, Addr.add_mid]
      | some mo =>
        have hmm' : bndO c' (mx.map (evO G e)) = some 0 := by
          rw [hmx] at hmm ⊢
          simp only [Option.map_some] at hmm ⊢
          generalize evO G e mo = q at hmm ⊢
          unfold bndO at hmm ⊢
          split at hmm
          · rename_i hh; cases hh
          · exact hmm
          · cases hmm
        have hb := run_bounds (P := P) oe w true hl hu hmm' (Nat.le_refl 0) (fun _ => Nat.le_refl 0) (Nat.zero_le _) h4
        rw [hmx] at hb
        refine ⟨.slice (some ⟨L.blk, A, none⟩) 0 0, .sle hL (.inl rfl) .nil, ?_⟩
        unfold execOp
        simp only [Option.map_some] at hb
        simp [ho, hx, hmx, Instr.sliceAt, Instr.slice, run_underlying hus, hb, sizeOf, typeInfo, hi']
    · cases hm
  · rename_i h1
    split at hm
    · rename_i p ht hl hu hmm
      obtain ⟨el, s⟩ := p
      obtain ⟨hc, hm⟩ := bo_inv hm (by simp)
      obtain ⟨rfl, rfl, rfl⟩ := ok_inj hm
      obtain ⟨hus, i', hi', hs⟩ := slEl ht
      refine good_pure fun σ w ρ oe m' => ?_
      have hx := (oe x _ h1).scal_inv rfl
      have hb := run_bounds (P := P) oe w true hl hu hmm (Nat.le_refl _) (fun _ => Nat.le_refl _) (Nat.le_refl _) (by
        rcases Bool.or_eq_true_iff.1 hc with h5 | h5
        · left; cases hi <;> simp_all
        · right; cases mx <;> simp_all)
      refine ⟨.slice none 0 0, .sc _ rfl .nil, ?_⟩
      unfold execOp
      simp [ho, hx, Instr.sliceAt, Instr.slice, run_underlying hus, hb, sizeOf, typeInfo, hi']
    · cases hm
  · rename_i id off h1
    split at hm
    · rename_i n el s l ht hl hmx
      split at hm
      · rename_i u hu
        obtain ⟨hc, hm⟩ := bo_inv hm (by simp)
        simp only [Bool.and_eq_true] at hc
        have hc1 := Nat.le_of_ble_eq_true hc.1
        have hc2 := Nat.le_of_ble_eq_true hc.2
        obtain ⟨rfl, rfl, rfl⟩ := ok_inj hm
        have hmx := map_nil hmx
        subst hmx
        obtain ⟨hus, i', hi', hs⟩ := arEl ht
        refine good_pure fun σ w ρ oe m' => ?_
        obtain ⟨L, hL, hx⟩ := (oe x _ h1).ptr_inv
        have hb := run_bounds (P := P) oe w false (mx := none) (cap := n) hl hu rfl hc1 (fun _ => hc2) (Nat.le_refl _) (.inr rfl)
        simp only [Option.map_none] at hb
        refine ⟨.slice (some ⟨L.blk, L.base + bo (Nat.beq n l) off (off + l * s), none⟩) (u - l) (n - l), .sl hL .nil, ?_⟩
        unfold execOp
        by_cases hml : n = l
        · subst hml
          have : Nat.beq n n = true := by simp
          simp [ho, hx, Instr.sliceAt, run_underlying hus, Instr.sureAddr, hb, sizeOf, typeInfo, hi', bo_true]
        · have : Nat.beq n l = false := by cases hbq : Nat.beq n l with | false => rfl | true => exact absurd (Nat.eq_of_beq_eq_true hbq) hml
          rw [this, bo_false]
          simp [ho, hx, Instr.sliceAt, run_underlying hus, Instr.sureAddr, hb, sizeOf, typeInfo, hi', hs, hml, Addr.add_mid, Nat.add_assoc]
      · cases hm
    · cases hm
  · cases hm
end
end Go.Proofs.YthdlljlcffokbaaDoor
namespace Go.Proofs.YthdlljlcffokbaaDoor
open Go.RowKit

theorem ikn_inj {k k' : IntKind} (h : Nat.beq (ikn k) (ikn k') = true) : k = k' := by
  have := Nat.eq_of_beq_eq_true h
  cases k <;> cases k' <;> first | rfl | cases this
theorem wr_ok (k : IntKind) (n : Int) : wr k n = k.wrap n := by
  cases n with
  | ofNat m =>
    show bo (Nat.blt m (ikLim k)) (Int.ofNat m) (bo k.signed (k.wrap (Int.ofNat m)) (.ofNat (Nat.mod m (ikLim k)))) = _
    cases hb : Nat.blt m (ikLim k) with
    | false => cases k <;> rfl
    | true =>
      have := blt_lt hb
      rw [bo_true]
      have h1 : Int.ofNat m = (m : Int) := rfl
      rw [h1]
      cases k <;> simp only [ikLim] at this <;> symm
      · exact IntWalk.i8_in _ (by omega)
      · exact IntWalk.i16_in _ (by omega)
      · exact IntWalk.i32_in _ (by omega)
      · exact IntWalk.i64_in _ (by omega)
      · exact IntWalk.u8_in _ (by omega)
      · exact IntWalk.u16_in _ (by omega)
      · exact IntWalk.u32_in _ (by omega)
      · exact IntWalk.u64_in _ (by omega)
  | negSucc m =>
    show bo (k.signed && Nat.blt m (ikLim k)) (Int.negSucc m) (k.wrap (Int.negSucc m)) = _
    cases hb : (k.signed && Nat.blt m (ikLim k)) with
    | false => rfl
    | true =>
      simp only [Bool.and_eq_true] at hb
      have := blt_lt hb.2
      have hs := hb.1
      rw [bo_true]
      cases k <;> simp only [ikLim] at this <;> symm
      · exact IntWalk.i8_in _ (by omega)
      · exact IntWalk.i16_in _ (by omega)
      · exact IntWalk.i32_in _ (by omega)
      · exact IntWalk.i64_in _ (by omega)
      all_goals cases hs
theorem iEq_ok (a b : Int) : iEq a b = (a == b) := by
  cases a <;> cases b <;> simp only [iEq]
  · rename_i m n
    cases hb : Nat.beq m n with
    | true => have := Nat.eq_of_beq_eq_true hb; subst this; simp
    | false => have : m ≠ n := fun e => by subst e; simp at hb
               symm; simp; omega
  · symm; simp
  · symm; simp
  · rename_i m n
    cases hb : Nat.beq m n with
    | true => have := Nat.eq_of_beq_eq_true hb; subst this; simp
    | false => have : m ≠ n := fun e => by subst e; simp at hb
               symm; simp; omega
theorem blt_dec (m n : Nat) : Nat.blt m n = decide (m < n) := by
  cases hb : Nat.blt m n with
  | true => have := blt_lt hb; simp [this]
  | false => have : ¬ m < n := fun h => by
               have := Nat.ble_eq_true_of_le (show m + 1 ≤ n by omega)
               unfold Nat.blt at hb; rw [this] at hb; cases hb
             simp [this]
theorem iLt_ok (a b : Int) : iLt a b = decide (a < b) := by
  cases a <;> cases b <;> simp only [iLt, blt_dec]
  · rename_i m n; simp
  · rename_i m n; symm; simp; omega
  · rename_i m n; symm; simp; omega
  · rename_i m n
    by_cases hh : n < m
    · simp only [hh, decide_true]; symm; simp; omega
    · simp only [hh, decide_false]; symm; simp; omega
theorem byEq_ok : ∀ a b : List UInt8, byEq a b = (a == b)
  | [], [] => rfl
  | [], b :: y => rfl
  | a :: x, [] => rfl
  | a :: x, b :: y => by
    unfold byEq
    cases hb : Nat.beq a.toNat b.toNat with
    | true =>
      have hab : a = b := UInt8.toNat_inj.1 (Nat.eq_of_beq_eq_true hb)
      rw [bo_true, byEq_ok x y]; subst hab; simp
    | false =>
      have hab : a ≠ b := fun e => by subst e; simp at hb
      rw [bo_false]; symm; simp [hab]
theorem byLt_ok : ∀ a b : List UInt8, byLt a b = Op.bytesLess a b
  | [], [] => rfl
  | [], b :: y => rfl
  | a :: x, [] => rfl
  | a :: x, b :: y => by
    unfold byLt Op.bytesLess
    rw [blt_dec]
    by_cases hlt : a.toNat < b.toNat
    · have : a < b := UInt8.lt_iff_toNat_lt.2 hlt
      simp [hlt, this, bo_true]
    · have h1 : ¬ a < b := fun hh => hlt (UInt8.lt_iff_toNat_lt.1 hh)
      cases hb : Nat.beq a.toNat b.toNat with
      | true =>
        have hab : a = b := UInt8.toNat_inj.1 (Nat.eq_of_beq_eq_true hb)
        subst hab
        simp [bo_false, bo_true, byLt_ok x y]
      | false =>
        have hab : a ≠ b := fun e => by subst e; simp at hb
        simp [hlt, h1, hab, bo_false]
theorem bytesLess_tri : ∀ a b : List UInt8, (!Op.bytesLess b a) = (Op.bytesLess a b || a == b)
  | [], [] => rfl
  | [], b :: y => rfl
  | a :: x, [] => rfl
  | a :: x, b :: y => by
    unfold Op.bytesLess
    have ih := bytesLess_tri x y
    by_cases h1 : a = b
    · subst h1
      have : ¬ a < a := UInt8.lt_irrefl a
      simpa [this] using ih
    · have h2 : b ≠ a := fun e => h1 e.symm
      by_cases h3 : a < b
      · have : ¬ b < a := UInt8.lt_asymm h3
        simp [h2, h3, this]
      · have : b < a := by
          rcases Nat.lt_trichotomy a.toNat b.toNat with h4 | h4 | h4
          · exact absurd (UInt8.lt_iff_toNat_lt.2 h4) h3
          · exact absurd (UInt8.toNat_inj.1 h4) h1
          · exact UInt8.lt_iff_toNat_lt.2 h4
        simp [h1, h3, this]

section
variable {P : Program} {G : Nat} {o : Oper} {e : Tb Value} {h h' : Hp} {nx nx' : Nat} {v : Value}
theorem not_select_bin {op : BinOp} {t t' : TypeId} {x y : Operand} (ho : o.op = .binOp op t x y t') : ∀ cs b, o.op ≠ .select cs b := fun cs b hh => by rw [ho] at hh; cases hh
theorem run_equal_nil {t el : Nat} {w : World} (hu : P.underlying t = some (.pointer el)) (a : Option Addr) : (Op.equal t (.pointer none) (.pointer a)).run P w = .ok a.isNone w := by
  unfold Op.equal Op.maxDepth Op.equalIn
  cases a <;> simp [run_underlying hu]
theorem eqNil_ok {σ : Sg} {t : TypeId} {a b u u' : Value} {r : Bool} (hr : eqNil P t a b = some r) (ha : VR σ a u) (hb : VR σ b u') (w : World) : (Op.equal t u u').run P w = .ok r w ∧ (∀ op x y, eqGuard op t x y u u' = pure ()) ∧ (binOp .eql t u u' = do pure (.bool (← Op.equal t u u'))) ∧ (binOp .neq t u u' = do pure (.bool (!(← Op.equal t u u')))) := by
  unfold eqNil at hr
  split at hr
  · rename_i a
    obtain ⟨el, hel, rfl⟩ := Option.map_eq_some_iff.1 hr
    have hu := ptrElem_ok hel
    have hb := hb.scal_inv rfl
    subst hb
    cases a with
    | none =>
      have := ha.scal_inv rfl; subst this
      exact ⟨run_equal_ptr hu _, fun op x y => eqGuard_at_pointer .., rfl, rfl⟩
    | some a =>
      obtain ⟨id, off, sp⟩ := a
      cases sp with
      | some z => cases ha with | sc _ hs _ => cases hs
      | none =>
        obtain ⟨L, _, rfl⟩ := ha.ptr_inv
        exact ⟨run_equal_ptr hu _, fun op x y => eqGuard_at_pointer .., rfl, rfl⟩
  · rename_i a _
    obtain ⟨el, hel, rfl⟩ := Option.map_eq_some_iff.1 hr
    have hu := ptrElem_ok hel
    have ha := ha.scal_inv rfl
    subst ha
    cases a with
    | none =>
      have := hb.scal_inv rfl; subst this
      exact ⟨run_equal_nil hu _, fun op x y => eqGuard_at_pointer .., rfl, rfl⟩
    | some a =>
      obtain ⟨id, off, sp⟩ := a
      cases sp with
      | some z => cases hb with | sc _ hs _ => cases hs
      | none =>
        obtain ⟨L, _, rfl⟩ := hb.ptr_inv
        exact ⟨run_equal_nil hu _, fun op x y => eqGuard_at_pointer .., rfl, rfl⟩
  · rename_i a i b j
    split at hr
    · rename_i el hel
      split at hr
      · rename_i n hn
        obtain ⟨hab, hr⟩ := bo_inv hr (by simp)
        injection hr with hr; subst hr
        have hab := Nat.eq_of_beq_eq_true hab
        subst hab
        have hu := ptrElem_ok hel
        obtain ⟨L, hL, rfl⟩ := ha.ptr_inv
        obtain ⟨L', hL', rfl⟩ := hb.ptr_inv
        rw [hL] at hL'; injection hL' with hL'; subst hL'
        obtain ⟨inf, hi, hs⟩ := sizeTy_info hn
        refine ⟨?_, fun op x y => eqGuard_at_pointer .., rfl, rfl⟩
        have hbq : (({ block := L.blk, off := L.base + i, spot := none } : Addr) == { block := L.blk, off := L.base + j, spot := none }) = Nat.beq i j := by
          cases hij : Nat.beq i j with
          | true => have := Nat.eq_of_beq_eq_true hij; subst this; simp
          | false => have : i ≠ j := fun e => by subst e; simp at hij
                     rw [beq_eq_false_iff_ne]; intro hh; injection hh with _ h2 _; omega
        unfold Op.equal Op.maxDepth Op.equalIn
        simp [run_underlying hu, sizeOf, typeInfo, hi, hs, sameAddr, hbq]
      · cases hr
    · cases hr
  · rename_i a _ _ _ _
    obtain ⟨p, hel, rfl⟩ := Option.map_eq_some_iff.1 hr
    obtain ⟨el, s⟩ := p
    obtain ⟨hu, _⟩ := slEl hel
    have hb := hb.scal_inv rfl
    subst hb
    cases a with
    | none =>
      have := ha.scal_inv rfl; subst this
      refine ⟨?_, fun op x y => eqGuard_at_slice .., rfl, rfl⟩
      unfold Op.equal Op.maxDepth Op.equalIn
      simp [run_underlying hu]
    | some a =>
      obtain ⟨id, off, sp⟩ := a
      obtain ⟨L, A, c', hL, rfl, _⟩ := ha.slice_any
      refine ⟨?_, fun op x y => eqGuard_at_slice .., rfl, rfl⟩
      unfold Op.equal Op.maxDepth Op.equalIn
      simp [run_underlying hu]
  · rename_i a
    split at hr
    · rename_i k el hu
      injection hr with hr; subst hr
      have hb := hb.scal_inv rfl
      subst hb
      cases a with
      | none =>
        have := ha.scal_inv rfl; subst this
        refine ⟨?_, fun op x y => eqGuard_at_map .., rfl, rfl⟩
        unfold Op.equal Op.maxDepth Op.equalIn
        simp [run_underlying hu]
      | some id =>
        obtain ⟨L, hL, rfl⟩ := ha.map_inv
        refine ⟨?_, fun op x y => eqGuard_at_map .., rfl, rfl⟩
        unfold Op.equal Op.maxDepth Op.equalIn
        simp [run_underlying hu]
    · cases hr
  · rename_i f xs ys
    split at hr
    · rename_i ps rs va hu
      injection hr with hr; subst hr
      have hb := hb.scal_inv rfl
      subst hb
      cases ha with
      | sc _ hs _ => cases hs
      | func f _ _ _ =>
        refine ⟨?_, fun op x y => eqGuard_at_func .., rfl, rfl⟩
        unfold Op.equal Op.maxDepth Op.equalIn
        simp [run_underlying hu]
      | yld _ _ =>
        refine ⟨?_, fun op x y => eqGuard_at_func .., rfl, rfl⟩
        unfold Op.equal Op.maxDepth Op.equalIn
        simp [run_underlying hu]
    · cases hr
  · split at hr
    · rename_i ps rs va hu
      injection hr with hr; subst hr
      have ha := ha.scal_inv rfl
      have hb := hb.scal_inv rfl
      subst ha; subst hb
      refine ⟨?_, fun op x y => eqGuard_at_nilFunc .., rfl, rfl⟩
      unfold Op.equal Op.maxDepth Op.equalIn
      simp [run_underlying hu]
    · cases hr
  · cases hr
theorem not_lt_dec (a b : Int) : (!decide (b < a)) = decide (a ≤ b) := by
  by_cases hh : b < a
  · have : ¬ a ≤ b := by omega
    simp [hh]
  · have : a ≤ b := by omega
    simp [this]
/-- Bits of numbers that are not negative. -/
theorem ofInt_nat (n m : Nat) : BitVec.ofInt n (Int.ofNat m) = BitVec.ofNat n m := by
  show BitVec.ofInt n (m : Int) = _
  simp
theorem ikLim_le (k : IntKind) : ikLim k ≤ 2 ^ k.bits := by cases k <;> decide
theorem ikLim_pow (k : IntKind) : ∃ e, ikLim k = 2 ^ e := by
  cases k
  · exact ⟨7, rfl⟩
  · exact ⟨15, rfl⟩
  · exact ⟨31, rfl⟩
  · exact ⟨63, rfl⟩
  · exact ⟨8, rfl⟩
  · exact ⟨16, rfl⟩
  · exact ⟨32, rfl⟩
  · exact ⟨64, rfl⟩
theorem wrap_small (k : IntKind) (m : Nat) (h : m < ikLim k) : k.wrap (m : Int) = Int.ofNat m := by
  rw [← wr_ok]
  show bo (Nat.blt m (ikLim k)) (Int.ofNat m) _ = _
  rw [blt_dec]
  simp [h, bo]
theorem bits_run {k : IntKind} {a b r : Nat} {op : BinOp} (ha : a < ikLim k) (hb : b < ikLim k) (hop : (op = .and ∧ r = a &&& b) ∨ (op = .or ∧ r = a ||| b) ∨ (op = .xor ∧ r = a ^^^ b)) : Op.intBits op k (Int.ofNat a) (Int.ofNat b) = pure (.int k (Int.ofNat r)) := by
  obtain ⟨e, he⟩ := ikLim_pow k
  have hl := ikLim_le k
  have h1 : a % 2 ^ k.bits = a := Nat.mod_eq_of_lt (by omega)
  have h2 : b % 2 ^ k.bits = b := Nat.mod_eq_of_lt (by omega)
  rcases hop with ⟨rfl, rfl⟩ | ⟨rfl, rfl⟩ | ⟨rfl, rfl⟩
  · have : a &&& b < ikLim k := Nat.lt_of_le_of_lt Nat.and_le_left ha
    unfold Op.intBits
    simp only [ofInt_nat, BitVec.toNat_and, BitVec.toNat_ofNat, h1, h2, wrap_small k _ this]
  · have : a ||| b < ikLim k := by rw [he] at ha hb ⊢; exact Nat.or_lt_two_pow ha hb
    unfold Op.intBits
    simp only [ofInt_nat, BitVec.toNat_or, BitVec.toNat_ofNat, h1, h2, wrap_small k _ this]
  · have : a ^^^ b < ikLim k := by rw [he] at ha hb ⊢; exact Nat.xor_lt_two_pow ha hb
    unfold Op.intBits
    simp only [ofInt_nat, BitVec.toNat_xor, BitVec.toNat_ofNat, h1, h2, wrap_small k _ this]
theorem quo_run {k : IntKind} {a b : Nat} (ha : a < ikLim k) (hb : 0 < b) : Op.intDiv .quo k (Int.ofNat a) (Int.ofNat b) = pure (.int k (Int.ofNat (a / b))) := by
  have h0 : ¬ Int.ofNat b = 0 := fun hh => by injection hh with hh; omega
  have h1 : Int.tdiv (Int.ofNat a) (Int.ofNat b) = ((a / b : Nat) : Int) := rfl
  have h2 : a / b < ikLim k := Nat.lt_of_le_of_lt (Nat.div_le_self a b) ha
  unfold Op.intDiv
  rw [if_neg h0]
  simp only [h1, wrap_small k _ h2]
theorem rem_run {k : IntKind} {a b : Nat} (hb : 0 < b) : Op.intDiv .rem k (Int.ofNat a) (Int.ofNat b) = pure (.int k (Int.ofNat (a % b))) := by
  have h0 : ¬ Int.ofNat b = 0 := fun hh => by injection hh with hh; omega
  unfold Op.intDiv
  rw [if_neg h0]
  rfl
theorem fast_ok {op : BinOp} {k : IntKind} {a b : Int} (t : TypeId) (hop : op = .and ∨ op = .or ∨ op = .xor ∨ op = .quo ∨ op = .rem) (hv : intOp op k a b = some v) : (∀ σ, VR σ v v) ∧ binOp op t (.int k a) (.int k b) = pure v := by
  have two : ∀ {f : Nat → Nat → Option Value}, (match a, b with | .ofNat a, .ofNat b => f a b | _, _ => none) = some v → ∃ m n, a = .ofNat m ∧ b = .ofNat n ∧ f m n = some v := fun {f} h => by
    cases a with
    | negSucc => cases h
    | ofNat m => cases b with
      | negSucc => cases h
      | ofNat n => exact ⟨m, n, rfl, rfl, h⟩
  have fin : ∀ r : Nat, v = .int k (.ofNat r) → ∀ σ, VR σ v v := fun r h σ => by subst h; exact VR.int
  rcases hop with rfl | rfl | rfl | rfl | rfl
  · obtain ⟨m, n, rfl, rfl, h⟩ := two (f := fun a b => bo (Nat.blt a (ikLim k) && Nat.blt b (ikLim k)) (some (.int k (.ofNat (Nat.land a b)))) none) (by cases a <;> cases b <;> exact hv)
    obtain ⟨h1, h2⟩ := bo_inv h (by simp)
    simp only [Bool.and_eq_true] at h1
    injection h2 with h2
    exact ⟨fin _ h2.symm, by rw [binOp_and, bits_run (blt_lt h1.1) (blt_lt h1.2) (.inl ⟨rfl, rfl⟩), ← h2]; rfl⟩
  · obtain ⟨m, n, rfl, rfl, h⟩ := two (f := fun a b => bo (Nat.blt a (ikLim k) && Nat.blt b (ikLim k)) (some (.int k (.ofNat (Nat.lor a b)))) none) (by cases a <;> cases b <;> exact hv)
    obtain ⟨h1, h2⟩ := bo_inv h (by simp)
    simp only [Bool.and_eq_true] at h1
    injection h2 with h2
    exact ⟨fin _ h2.symm, by rw [binOp_or, bits_run (blt_lt h1.1) (blt_lt h1.2) (.inr (.inl ⟨rfl, rfl⟩)), ← h2]; rfl⟩
  · obtain ⟨m, n, rfl, rfl, h⟩ := two (f := fun a b => bo (Nat.blt a (ikLim k) && Nat.blt b (ikLim k)) (some (.int k (.ofNat (Nat.xor a b)))) none) (by cases a <;> cases b <;> exact hv)
    obtain ⟨h1, h2⟩ := bo_inv h (by simp)
    simp only [Bool.and_eq_true] at h1
    injection h2 with h2
    exact ⟨fin _ h2.symm, by rw [binOp_xor, bits_run (blt_lt h1.1) (blt_lt h1.2) (.inr (.inr ⟨rfl, rfl⟩)), ← h2]; rfl⟩
  · obtain ⟨m, n, rfl, rfl, h⟩ := two (f := fun a b => bo (Nat.blt a (ikLim k) && Nat.blt 0 b) (some (.int k (.ofNat (Nat.div a b)))) none) (by cases a <;> cases b <;> exact hv)
    obtain ⟨h1, h2⟩ := bo_inv h (by simp)
    simp only [Bool.and_eq_true] at h1
    injection h2 with h2
    exact ⟨fin _ h2.symm, by rw [binOp_quo, quo_run (blt_lt h1.1) (blt_lt h1.2), ← h2]; rfl⟩
  · obtain ⟨m, n, rfl, rfl, h⟩ := two (f := fun a b => bo (Nat.blt 0 b) (some (.int k (.ofNat (Nat.mod a b)))) none) (by cases a <;> cases b <;> exact hv)
    obtain ⟨h1, h2⟩ := bo_inv h (by simp)
    injection h2 with h2
    exact ⟨fin _ h2.symm, by rw [binOp_rem, rem_run (blt_lt h1), ← h2]; rfl⟩
/-- A shift of a number that is not negative. -/
theorem shOp_ok {op : BinOp} {k k' : IntKind} {a b : Int} (t : TypeId) (hv : shOp op k a b = some v) : (∀ σ, VR σ v v) ∧ binOp op t (.int k a) (.int k' b) = pure v := by
  have hb : k.bits = ikBits k := by cases k <;> rfl
  have fin : ∀ r : Int, v = .int k r → ∀ σ, VR σ v v := fun r h σ => by subst h; exact VR.int
  unfold shOp at hv
  split at hv
  · split at hv
    · rename_i m n
      obtain ⟨h1, h2⟩ := bo_inv hv (by simp)
      have h1 := Nat.le_of_ble_eq_true h1
      injection h2 with h2
      refine ⟨fin _ h2.symm, ?_⟩
      have hn : min (Int.ofNat n).toNat k.bits = n := by rw [hb]; exact Nat.min_eq_left h1
      have h0 : ¬ Int.ofNat n < 0 := Int.not_lt.2 (Int.natCast_nonneg n)
      have he : (Int.ofNat m * 2 ^ n : Int) = Int.ofNat (m * 2 ^ n) := by
        show (m : Int) * 2 ^ n = ((m * 2 ^ n : Nat) : Int)
        simp
      rw [binOp_shl, ← h2, wr_ok]
      unfold Op.shift
      rw [if_neg h0]
      simp only [hn, he]
      rfl
    · cases hv
  · split at hv
    · rename_i m n
      obtain ⟨h1, h2⟩ := bo_inv hv (by simp)
      have h1 := Nat.le_of_ble_eq_true h1
      injection h2 with h2
      refine ⟨fin _ h2.symm, ?_⟩
      have hn : min (Int.ofNat n).toNat k.bits = n := by rw [hb]; exact Nat.min_eq_left h1
      have h0 : ¬ Int.ofNat n < 0 := Int.not_lt.2 (Int.natCast_nonneg n)
      have he : Int.fdiv (Int.ofNat m) (2 ^ n) = Int.ofNat (m / 2 ^ n) := by
        show Int.fdiv (m : Int) (2 ^ n) = ((m / 2 ^ n : Nat) : Int)
        rw [show (2 ^ n : Int) = ((2 ^ n : Nat) : Int) by simp, Int.ofNat_fdiv]
      rw [binOp_shr, ← h2]
      unfold Op.shift
      rw [if_neg h0]
      simp only [hn, he]
      rfl
    · cases hv
  · cases hv
theorem intOp_ok {op : BinOp} {k : IntKind} {a b : Int} {t t' : TypeId} {x y : Operand} (ho : o.op = .binOp op t x y t') (hv : intOp op k a b = some v) {ρ : Operand → Value} (hx : ρ x = .int k a) (hy : ρ y = .int k b) (w : World) :
    (∀ σ, VR σ v v) ∧ (execOp ρ o).run P w = .ok (.value v) w := by
  have fast : (op = .and ∨ op = .or ∨ op = .xor ∨ op = .quo ∨ op = .rem) → (∀ σ, VR σ v v) ∧ (execOp ρ o).run P w = .ok (.value v) w := fun hop => by
    obtain ⟨h1, h3⟩ := fast_ok t hop hv
    refine ⟨h1, ?_⟩
    unfold execOp
    simp only [ho, hx, hy, eqGuard_at_int, h3, pure_bind]
    rfl
  unfold intOp at hv
  split at hv
  all_goals first
    | (refine fast ?_; simp; done)
    | (injection hv with hv; subst hv
       refine ⟨fun σ => .sc _ rfl .nil, ?_⟩
       unfold execOp
       simp only [ho, hx, hy, eqGuard_at_int, pure_bind, binOp_add, binOp_sub, binOp_mul, binOp_eql, binOp_neq, binOp_lss, binOp_leq, binOp_gtr, binOp_geq, Op.intArith, wr_ok, iEq_ok, iLt_ok, not_lt_dec]
       rfl)
    | cases hv
theorem bs_leq (t : TypeId) (a b : ByteArray) : binOp .leq t (.string a) (.string b) = pure (.bool (Op.bytesLess a.toList b.toList || a.toList == b.toList)) := by simp [binOp, Op.stringOp]
theorem bs_gtr (t : TypeId) (a b : ByteArray) : binOp .gtr t (.string a) (.string b) = pure (.bool !(Op.bytesLess a.toList b.toList || a.toList == b.toList)) := by simp [binOp, Op.stringOp]
theorem bs_geq (t : TypeId) (a b : ByteArray) : binOp .geq t (.string a) (.string b) = pure (.bool !(Op.bytesLess a.toList b.toList)) := by simp [binOp, Op.stringOp]
theorem strOp_ok {op : BinOp} {a b : ByteArray} {t t' : TypeId} {x y : Operand} (ho : o.op = .binOp op t x y t') (hv : strOp op a.data.toList b.data.toList = some v) {ρ : Operand → Value} (hx : ρ x = .string a) (hy : ρ y = .string b) (w : World) :
    (∀ σ, VR σ v v) ∧ (execOp ρ o).run P w = .ok (.value v) w := by
  have e1 : byEq a.data.toList b.data.toList = (a.toList == b.toList) := by rw [byEq_ok, Lib.toList_data, Lib.toList_data]
  have e2 : byLt a.data.toList b.data.toList = Op.bytesLess a.toList b.toList := by rw [byLt_ok, Lib.toList_data, Lib.toList_data]
  have e3 : (!byLt b.data.toList a.data.toList) = (Op.bytesLess a.toList b.toList || a.toList == b.toList) := by rw [byLt_ok, bytesLess_tri, Lib.toList_data, Lib.toList_data]
  have e4 : byLt b.data.toList a.data.toList = !(Op.bytesLess a.toList b.toList || a.toList == b.toList) := by rw [← e3]; simp
  unfold strOp at hv
  split at hv
  · obtain ⟨hle, hv⟩ := bo_inv hv (by simp)
    injection hv with hv; subst hv
    have hle := Nat.le_of_ble_eq_true hle
    refine ⟨fun σ => .sc _ rfl .nil, ?_⟩
    have h1 : a.size = a.data.toList.length := by obtain ⟨d⟩ := a; rfl
    have h2 : b.size = b.data.toList.length := by obtain ⟨d⟩ := b; rfl
    have h3 : ¬ (((a.size + b.size : Nat) : Int) > IntKind.i64.max) := by
      have : IntKind.i64.max = 9223372036854775807 := rfl
      rw [this]; omega
    have h4 : a ++ b = (⟨⟨a.data.toList ++ b.data.toList⟩⟩ : ByteArray) := by
      obtain ⟨⟨d⟩⟩ := a; obtain ⟨⟨d'⟩⟩ := b
      apply ByteArray.ext; simp
    unfold execOp
    simp only [ho, hx, hy, eqGuard_at_string, pure_bind, binOp_string_add, Op.stringOp, if_neg h3, h4]
    rfl
  · injection hv with hv; subst hv
    exact ⟨fun σ => .sc _ rfl .nil, by unfold execOp; simp only [ho, hx, hy, eqGuard_at_string, pure_bind, binOp_string_eql, e1]; rfl⟩
  · injection hv with hv; subst hv
    exact ⟨fun σ => .sc _ rfl .nil, by unfold execOp; simp only [ho, hx, hy, eqGuard_at_string, pure_bind, binOp_string_neq, e1]; rfl⟩
  · injection hv with hv; subst hv
    exact ⟨fun σ => .sc _ rfl .nil, by unfold execOp; simp only [ho, hx, hy, eqGuard_at_string, pure_bind, binOp_string_lss, e2]; rfl⟩
  · injection hv with hv; subst hv
    exact ⟨fun σ => .sc _ rfl .nil, by unfold execOp; simp only [ho, hx, hy, eqGuard_at_string, pure_bind, bs_leq, e3]; rfl⟩
  · injection hv with hv; subst hv
    exact ⟨fun σ => .sc _ rfl .nil, by unfold execOp; simp only [ho, hx, hy, eqGuard_at_string, pure_bind, bs_gtr, e4]; rfl⟩
  · injection hv with hv; subst hv
    exact ⟨fun σ => .sc _ rfl .nil, by unfold execOp; simp only [ho, hx, hy, eqGuard_at_string, pure_bind, bs_geq, e2]; rfl⟩
  · cases hv
theorem binAny_good {op : BinOp} {t t' : TypeId} {x y : Operand} {a b : Value} (ho : o.op = .binOp op t x y t') (ha : evO G e x = some a) (hb : evO G e y = some b) (hm : binAny a b P G e h nx o op t = .ok v h' nx') : Good P G o e h nx v h' nx' := by
  unfold binAny at hm
  split at hm
  · cases hq : eqNil P t a b with
    | none => rw [hq] at hm; exact flat_good (not_select_bin ho) hm
    | some r =>
      rw [hq, oo_some] at hm
      obtain ⟨rfl, rfl, rfl⟩ := ok_inj hm
      refine good_pure fun σ w ρ oe m => ?_
      obtain ⟨h1, h2, h3, h4⟩ := eqNil_ok hq (oe x _ ha) (oe y _ hb) w
      refine ⟨.bool r, VR.bool, ?_⟩
      unfold execOp
      simp only [ho, h2, pure_bind, h3]
      simp [h1]
  · cases hq : eqNil P t a b with
    | none => rw [hq] at hm; exact flat_good (not_select_bin ho) hm
    | some r =>
      rw [hq, oo_some] at hm
      obtain ⟨rfl, rfl, rfl⟩ := ok_inj hm
      refine good_pure fun σ w ρ oe m => ?_
      obtain ⟨h1, h2, h3, h4⟩ := eqNil_ok hq (oe x _ ha) (oe y _ hb) w
      refine ⟨.bool (!r), VR.bool, ?_⟩
      unfold execOp
      simp only [ho, h2, pure_bind, h4]
      simp [h1]
  · exact flat_good (not_select_bin ho) hm
theorem bin_good {op : BinOp} {t t' : TypeId} {x y : Operand} (ho : o.op = .binOp op t x y t') (hm : mBin P G e h nx o op t (evO G e x) (evO G e y) = .ok v h' nx') : Good P G o e h nx v h' nx' := by
  obtain ⟨a, ha, hm⟩ := oo_inv hm (by simp)
  obtain ⟨b, hb, hm⟩ := oo_inv hm (by simp)
  cases a with
  | int k n =>
    change binInt k n b P G e h nx o op t = _ at hm
    cases b with
    | int k' n' =>
      change bo (Nat.beq (ikn k) (ikn k')) (oo (intOp op k n n') (oo (shOp op k n n') (mFlat P G e h nx o) (fun v => .ok v h nx)) (fun v => .ok v h nx)) (oo (shOp op k n n') (mFlat P G e h nx o) (fun v => .ok v h nx)) = _ at hm
      have sh : oo (shOp op k n n') (mFlat P G e h nx o) (fun v => .ok v h nx) = .ok v h' nx' → Good P G o e h nx v h' nx' := fun hm => by
        cases hv : shOp op k n n' with
        | none => rw [hv] at hm; exact flat_good (not_select_bin ho) hm
        | some v' =>
          rw [hv, oo_some] at hm
          obtain ⟨rfl, rfl, rfl⟩ := ok_inj hm
          refine good_pure fun σ w ρ oe m => ?_
          obtain ⟨h1, h3⟩ := shOp_ok (k' := k') t hv
          refine ⟨_, h1 σ, ?_⟩
          unfold execOp
          simp only [ho, (oe x _ ha).scal_inv rfl, (oe y _ hb).scal_inv rfl, eqGuard_at_int, h3, pure_bind]
          rfl
      cases hk : Nat.beq (ikn k) (ikn k') with
      | false => rw [hk] at hm; exact sh hm
      | true =>
        have := ikn_inj hk; subst this
        rw [hk, bo_true] at hm
        cases hv : intOp op k n n' with
        | none => rw [hv] at hm; exact sh hm
        | some v' =>
          rw [hv, oo_some] at hm
          obtain ⟨rfl, rfl, rfl⟩ := ok_inj hm
          refine good_pure fun σ w ρ oe m => ?_
          obtain ⟨h1, h2⟩ := intOp_ok (P := P) ho hv ((oe x _ ha).scal_inv rfl) ((oe y _ hb).scal_inv rfl) w
          exact ⟨_, h1 σ, h2⟩
    | _ => exact flat_good (not_select_bin ho) hm
  | string s =>
    change binStr s b P G e h nx o op t = _ at hm
    cases b with
    | string s' =>
      obtain ⟨v', hv, hm⟩ := oo_inv (x := strOp op s.data.toList s'.data.toList) hm (by simp)
      obtain ⟨rfl, rfl, rfl⟩ := ok_inj hm
      refine good_pure fun σ w ρ oe m => ?_
      obtain ⟨h1, h2⟩ := strOp_ok (P := P) ho hv ((oe x _ ha).scal_inv rfl) ((oe y _ hb).scal_inv rfl) w
      exact ⟨_, h1 σ, h2⟩
    | _ => cases hm
  | _ => exact binAny_good ho ha hb hm
end
end Go.Proofs.YthdlljlcffokbaaDoor
namespace Go.Proofs.YthdlljlcffokbaaDoor
open Go.RowKit

section
variable {P : Program} {G : Nat} {o : Oper} {e : Tb Value} {h h' : Hp} {nx nx' : Nat} {v : Value}
theorem VRs.put {σ : Sg} {cs us xs ys : List Value} (off : Nat) (hc : VRs σ cs us) (hx : VRs σ xs ys) : VRs σ (Go.Proofs.YthdlljlcffokbaaDoor.put cs off xs) (Go.Proofs.YthdlljlcffokbaaDoor.put us off ys) := by
  unfold Go.Proofs.YthdlljlcffokbaaDoor.put
  rw [hx.len]
  exact (hc.take off).append (hx.append (hc.drop (off + ys.length)))
theorem fillL_ok {σ : Sg} {place : Nat → Option (Nat × Nat)} : ∀ {ps qs : List (Nat × Value)} {cs cs' us : List Value}, fillL place cs ps = some cs' → VRs σ cs us → ps.map (·.1) = qs.map (·.1) → VRs σ (ps.map (·.2)) (qs.map (·.2)) →
    ∃ us', Instr.fill place us.toArray qs = some us'.toArray ∧ VRs σ cs' us'
  | [], qs, cs, cs', us, hf, hc, h1, h2 => by
    injection hf with hf; subst hf
    obtain rfl : qs = [] := by cases qs <;> simp_all
    exact ⟨us, rfl, hc⟩
  | (i, v) :: ps, [], cs, cs', us, hf, hc, h1, h2 => by cases h1
  | (i, v) :: ps, (j, u) :: qs, cs, cs', us, hf, hc, h1, h2 => by
    simp only [List.map_cons, List.cons.injEq] at h1 h2
    obtain ⟨rfl, h1⟩ := h1
    obtain ⟨y, vs', h3, h4, h5⟩ := h2.inv
    injection h3 with h3 h6; subst h3; subst h6
    unfold fillL at hf
    split at hf
    · cases hf
    · rename_i off size hp
      obtain ⟨hb, hf⟩ := bo_inv hf (by simp)
      simp only [Bool.and_eq_true] at hb
      have hsz := Nat.eq_of_beq_eq_true hb.1
      have hle := Nat.le_of_ble_eq_true hb.2
      have hcl := h4.cells.len
      rw [fill_cons place us i off u u.cells.toList qs (by simp) (by rw [hp, ← hsz, hcl]) (by rw [← hcl, ← hc.len]; exact hle)]
      exact fillL_ok hf (hc.put off h4.cells) h1 h5
theorem placesL_ok : ∀ {fs : List Field} {pl : List (Nat × Nat)}, placesL P fs = some pl → fs.mapM (fun f => (P.info? f.type).map fun i => (f.offset, i.size)) = some pl
  | [], pl, hp => by injection hp with hp; subst hp; rfl
  | f :: r, pl, hp => by
    unfold placesL at hp
    split at hp
    · rename_i i l hi hl
      injection hp with hp; subst hp
      simp [List.mapM_cons, hi, placesL_ok hl]
    · cases hp
theorem parts_eq {ρ : Operand → Value} {ps : Array (Nat × Operand)} : (ps.map fun (i, x) => (i, ρ x)).toList = ps.toList.map fun p => (p.1, ρ p.2) := by simp
theorem build_good {t : TypeId} {ps : Array (Nat × Operand)} (ho : o.op = .build t ps) (hm : mBuild P h nx t (evP G e ps.toList) = .ok v h' nx') : Good P G o e h nx v h' nx' := by
  unfold mBuild at hm
  split at hm
  · rename_i qs hq
    have key : ∀ z cs (place : Nat → Option (Nat × Nat)), zeroTy P t = some z → fillL place z.cells.toList qs = some cs → (∀ ws, Instr.fill place z.cells ws = P.built t ws) → .ok (.agg ⟨cs⟩) h nx = OR.ok v h' nx' → Good P G o e h nx v h' nx' := by
      intro z cs place hz hf hb hm
      obtain ⟨rfl, rfl, rfl⟩ := ok_inj hm
      refine good_pure fun σ w ρ oe m => ?_
      obtain ⟨h1, h2⟩ := oe.parts hq
      obtain ⟨i, hi, hiz, hfl⟩ := zeroTy_info hz
      have e1 : (ps.toList.map fun p => (p.1, ρ p.2)).map (·.1) = ps.toList.map (·.1) := by rw [List.map_map]; rfl
      have e2 : (ps.toList.map fun p => (p.1, ρ p.2)).map (·.2) = ps.toList.map fun p => ρ p.2 := by rw [List.map_map]; rfl
      obtain ⟨us', h3, h4⟩ := fillL_ok (σ := σ) (qs := ps.toList.map fun p => (p.1, ρ p.2)) hf ((VR.of_flat (σ := σ) hfl).cells) (by rw [e1]; exact h1) (by rw [e2]; exact h2)
      refine ⟨.agg ⟨us'⟩, .agg h4 .nil, ?_⟩
      have hz2 : z.cells.toList.toArray = z.cells := by simp
      rw [hz2, hb] at h3
      have hr := run_build (P := P) w t (ps.map fun (i, x) => (i, ρ x)) us'.toArray (by rw [parts_eq]; exact h3)
      unfold execOp
      simp only [ho, Sem.run_bind, hr, Result.andThen_ok]
      rfl
    split at hm
    · rename_i z fs hz hu
      split at hm
      · rename_i pl hp
        split at hm
        · rename_i cs hf
          obtain ⟨i, hi, hiz, _⟩ := zeroTy_info hz
          refine key z cs _ hz hf (fun ws => ?_) hm
          unfold Program.built
          simp only [hi, hu, hiz, placesL_ok hp]
          congr 1; funext j; simp
        · cases hm
      · cases hm
    · rename_i z n el hz hu
      split at hm
      · rename_i s hs
        split at hm
        · rename_i cs hf
          obtain ⟨i, hi, hiz, _⟩ := zeroTy_info hz
          obtain ⟨j, hj, hjs⟩ := sizeTy_info hs
          subst hjs
          refine key z cs _ hz hf (fun ws => ?_) hm
          unfold Program.built
          simp only [hi, hu, hiz, hj]
        · cases hm
      · cases hm
    · cases hm
  · cases hm
theorem zerosN_succ (l : List Value) (n : Nat) : zerosN l (n + 1) = l ++ zerosN l n := rfl
theorem zerosN_length (l : List Value) : ∀ n, (zerosN l n).length = n * l.length
  | 0 => by rw [Nat.zero_mul]; rfl
  | n + 1 => by rw [zerosN_succ, List.length_append, zerosN_length l n, Nat.add_mul]; omega
theorem zerosN_get (l : List Value) (hl : 0 < l.length) : ∀ (n i : Nat), i < n * l.length → (zerosN l n)[i]? = l[i % l.length]?
  | 0, i, hi => by omega
  | n + 1, i, hi => by
    rw [zerosN_succ]
    rw [Nat.add_mul] at hi
    by_cases h1 : i < l.length
    · rw [List.getElem?_append_left h1, Nat.mod_eq_of_lt h1]
    · rw [List.getElem?_append_right (by omega), zerosN_get l hl n _ (by omega)]
      congr 1
      rw [← Nat.sub_add_cancel (Nat.le_of_not_lt h1), Nat.add_mod_right, Nat.add_sub_cancel]
theorem made_eq (z : Array Value) (n : Nat) (hz : 0 < z.size) : (Array.range (n * z.size)).map (z[· % z.size]!) = (zerosN z.toList n).toArray := by
  apply Array.ext_getElem?
  intro i
  have hl : 0 < z.toList.length := by simpa using hz
  by_cases hi : i < n * z.size
  · have hm : i % z.size < z.size := Nat.mod_lt _ hz
    have e1 : (zerosN z.toList n).toArray[i]? = (zerosN z.toList n)[i]? := by simp
    rw [e1, zerosN_get z.toList hl n i (by simpa using hi)]
    simp [hi, hm]
  · have e1 : (zerosN z.toList n).toArray[i]? = (zerosN z.toList n)[i]? := by simp
    rw [Array.getElem?_eq_none (by simp; omega), e1, List.getElem?_eq_none (by rw [zerosN_length]; simp; omega)]
theorem VRs.zeros {σ : Sg} {l us : List Value} (hv : VRs σ l us) : ∀ n, VRs σ (zerosN l n) (zerosN us n)
  | 0 => .nil
  | n + 1 => by rw [zerosN_succ, zerosN_succ]; exact hv.append (hv.zeros n)
theorem buildSlice_good {t : TypeId} {len : Nat} {ps : Array (Nat × Operand)} (ho : o.op = .buildSlice t len ps) (hm : mBuildSlice P h nx t len (evP G e ps.toList) = .ok v h' nx') : Good P G o e h nx v h' nx' := by
  unfold mBuildSlice at hm
  split at hm
  · rename_i qs hq
    split at hm
    · rename_i el s ht
      split at hm
      · rename_i z hz
        obtain ⟨hc, hm⟩ := bo_inv hm (by simp)
        simp only [Bool.and_eq_true] at hc
        have hzs := Nat.eq_of_beq_eq_true hc.1
        have hpos := blt_lt hc.2.1
        have hsm := Nat.le_of_ble_eq_true hc.2.2
        split at hm
        · rename_i cs hf
          obtain ⟨rfl, rfl, rfl⟩ := newB_inv hm
          obtain ⟨hu, ie, hie, hies⟩ := slEl ht
          obtain ⟨i, hi, hiz, hfl⟩ := zeroTy_info hz
          rw [hie] at hi; injection hi with hi; subst hi
          subst hies
          intro σ w ρ oe m
          obtain ⟨h1, h2⟩ := oe.parts hq
          have e1 : (ps.toList.map fun p => (p.1, ρ p.2)).map (·.1) = ps.toList.map (·.1) := by rw [List.map_map]; rfl
          have e2 : (ps.toList.map fun p => (p.1, ρ p.2)).map (·.2) = ps.toList.map fun p => ρ p.2 := by rw [List.map_map]; rfl
          obtain ⟨us', h3, h4⟩ := fillL_ok (σ := σ) (qs := ps.toList.map fun p => (p.1, ρ p.2)) hf (((VR.of_flat (σ := σ) hfl).cells).zeros len) (by rw [e1]; exact h1) (by rw [e2]; exact h2)
          obtain ⟨σ', h5, h6, h7⟩ := m.newRow el (Tb.of cs) h4 (fun i => Tb.get_of _ i)
          have hzs' : z.cells.size = ie.size := by simpa using hzs
          by_cases h0 : len = 0
          · subst h0
            refine ⟨.slice (some ⟨w.heap.size, 0, none⟩) 0 0, _, .inl ?_, σ', .sl (L := ⟨w.heap.size, 0, _⟩) h5 .nil, h7⟩
            have e3 : Instr.fill (fun i => some (i * ie.size, ie.size)) #[] (ps.toList.map fun p => (p.1, ρ p.2)) = some us'.toArray := h3
            unfold execOp
            simp only [ho, Instr.buildSlice, Sem.run_bind, run_underlying hu, Result.andThen_ok, sizeOf, typeInfo]
            simp [hie, e3, newRow, show Array.range 0 = #[] from rfl]
          · have hr := run_buildSlice (P := P) w t el len (ps.map fun (i, x) => (i, ρ x)) us'.toArray ie z hu hie hiz (by omega) (Nat.ne_of_gt (Nat.mul_pos (Nat.pos_of_ne_zero h0) hpos)) (by
              rw [parts_eq, ← hzs', made_eq _ _ (by omega), hzs']; exact h3)
            refine ⟨.slice (some ⟨w.heap.size, 0, none⟩) len len, _, .inl ?_, σ', .sl (L := ⟨w.heap.size, 0, _⟩) h5 .nil, h7⟩
            unfold execOp
            simp only [ho, Sem.run_bind, hr, Result.andThen_ok]
            rfl
        · cases hm
      · cases hm
    · cases hm
  · cases hm
theorem makeSlice_good {t : TypeId} {l c : Operand} (ho : o.op = .makeSlice t l c) (hm : mMakeSlice P h nx t (evO G e l) (evO G e c) = .ok v h' nx') : Good P G o e h nx v h' nx' := by
  unfold mMakeSlice at hm
  split at hm
  · rename_i n k h1 h2
    split at hm
    · rename_i el s ht
      split at hm
      · rename_i z i hz hi
        obtain ⟨hc, hm⟩ := bo_inv hm (by simp)
        simp only [Bool.and_eq_true] at hc
        have hzs := Nat.eq_of_beq_eq_true hc.1
        have hpos := blt_lt hc.2.1
        have hnk := Nat.le_of_ble_eq_true hc.2.2.1
        have hsm := Nat.le_of_ble_eq_true hc.2.2.2.1
        have hby := Nat.le_of_ble_eq_true hc.2.2.2.2
        obtain ⟨rfl, rfl, rfl⟩ := newB_inv hm
        obtain ⟨hu, ie, hie, hies⟩ := slEl ht
        rw [hi] at hie; injection hie with hie; subst hie
        subst hies
        obtain ⟨i', hi', hiz, hfl⟩ := zeroTy_info hz
        rw [hi] at hi'; injection hi' with hi'; subst hi'
        intro σ w ρ oe m
        have hzs' : z.cells.size = i.size := by simpa using hzs
        have hlen : (zerosN z.cells.toList k).length = k * i.size := by rw [zerosN_length]; simp [hzs']
        obtain ⟨σ', h5, h6, h7⟩ := m.newRow el (match z.cells.toList with | [v] => Tb.repN v k k | l => Tb.of (zerosN l k)) (((VR.of_flat (σ := σ) hfl).cells).zeros k) (fun j => by
          split
          · rename_i x hx
            rw [Tb.get_repN, hx]
            have : ∀ n, zerosN [x] n = List.replicate n x := fun n => by
              induction n with
              | zero => rfl
              | succ n ih => rw [zerosN_succ, ih]; rfl
            rw [this]
          · rw [Tb.get_of])
        rw [hlen] at h7
        have hbytes : (i.bytes : Int) * (k : Int) ≤ 281474976710656 := by
          have : i.bytes * k ≤ 16777216 * 16777216 := Nat.mul_le_mul hby hsm
          have h9 : ((i.bytes * k : Nat) : Int) ≤ ((16777216 * 16777216 : Nat) : Int) := Int.ofNat_le.2 this
          simpa using h9
        have hrun := run_make (P := P) w t el i z hu hi hiz .i64 .i64 (n : Int) (k : Int) (by omega) (by omega) hbytes (by omega)
        have hmade : madeCells z.cells ((k : Int).toNat * i.size) = (zerosN z.cells.toList k).toArray := by
          rw [← hzs']; exact made_eq z.cells k (by omega)
        rw [hmade] at hrun
        refine ⟨.slice (some ⟨w.heap.size, 0, none⟩) n k, _, .inl ?_, σ', .sl (L := ⟨w.heap.size, 0, _⟩) h5 .nil, h7⟩
        have hl := (oe l _ h1).scal_inv rfl
        have hcc := (oe c _ h2).scal_inv rfl
        unfold execOp
        simp only [ho, hl, hcc, Sem.run_bind]
        have e1 : Int.ofNat n = (n : Int) := rfl
        have e2 : Int.ofNat k = (k : Int) := rfl
        rw [e1, e2, hrun]
        rfl
      · cases hm
    · cases hm
  · cases hm
end
end Go.Proofs.YthdlljlcffokbaaDoor
namespace Go.Proofs.YthdlljlcffokbaaDoor
open Go.RowKit

section
variable {P : Program} {G : Nat} {o : Oper} {e : Tb Value} {h h' : Hp} {nx nx' : Nat} {v : Value}
theorem arr2 {α : Type} {a : Array α} {x y : α} (h : a.toList = [x, y]) : a = #[x, y] := by apply Array.ext'; simpa using h
theorem arr1 {α : Type} {a : Array α} {x : α} (h : a.toList = [x]) : a = #[x] := by apply Array.ext'; simpa using h
theorem byOf_ok : ∀ {l : List Value} {bs : List UInt8}, byOf l = some bs → ∃ ns : List Nat, l = ns.map (fun n => Value.int .u8 (.ofNat n)) ∧ bs = ns.map UInt8.ofNat
  | [], bs, hb => by injection hb with hb; subst hb; exact ⟨[], rfl, rfl⟩
  | x :: l, bs, hb => by
    unfold byOf at hb
    split at hb
    · rename_i hnil; cases hnil
    · rename_i n r heq
      injection heq with h1 h2; subst h1; subst h2
      split at hb
      · rename_i l' hl
        injection hb with hb; subst hb
        obtain ⟨ns, h3, h4⟩ := byOf_ok hl
        exact ⟨n :: ns, by rw [h3]; rfl, by rw [h4]; rfl⟩
      · cases hb
    · cases hb
theorem scals_eq {σ : Sg} : ∀ {l us : List Value}, (∀ x ∈ l, scal x = true) → VRs σ l us → us = l
  | [], us, _, hv => hv.inv_nil
  | x :: l, us, hs, hv => by
    obtain ⟨y, vs', rfl, h1, h2⟩ := hv.inv
    rw [h1.scal_inv (hs x (by simp)), scals_eq (fun x hx => hs x (by simp [hx])) h2]
theorem foldl_push : ∀ (ns : List Nat) (r : ByteArray), (ns.map (Int.ofNat)).foldl (fun r n => r.push (UInt8.ofNat n.toNat)) r = ⟨⟨r.data.toList ++ ns.map UInt8.ofNat⟩⟩
  | [], r => by obtain ⟨⟨d⟩⟩ := r; simp
  | n :: ns, r => by
    rw [List.map_cons, List.foldl_cons, foldl_push ns]
    obtain ⟨⟨d⟩⟩ := r
    simp
theorem conv_good {s d : TypeId} {x : Operand} (ho : o.op = .convert s d x) (hm : mConv P G e h nx o s d (evO G e x) = .ok v h' nx') : Good P G o e h nx v h' nx' := by
  have hsel : ∀ cs b, o.op ≠ .select cs b := fun cs b hh => by rw [ho] at hh; cases hh
  unfold mConv at hm
  split at hm
  · rename_i k n h1
    split at hm
    · rename_i k' hd
      split at hm
      · rename_i ds hs
        obtain ⟨rfl, rfl, rfl⟩ := ok_inj hm
        refine good_pure fun σ w ρ oe m => ⟨_, VR.int, ?_⟩
        have hx := (oe x _ h1).scal_inv rfl
        unfold execOp
        simp [ho, hx, convert, run_underlying hs, run_underlying hd, Conv.intToInt, wr_ok]
      · cases hm
    · exact flat_good hsel hm
  · rename_i b h1
    split at hm
    · rename_i el hs hd
      split at hm
      · rename_i hel
        obtain ⟨rfl, rfl, rfl⟩ := newB_inv hm
        intro σ w ρ oe m
        have hx := (oe x _ h1).scal_inv rfl
        have hrun := Lib.run_convert_string_bytes (P := P) w s d el b hs hd hel
        have hsz : b.size = b.data.toList.length := by obtain ⟨dd⟩ := b; rfl
        have hge := grownCap_ge w b.size 0 el
        have hcs : (Lib.bytesCells w el b).size = grownCap w b.size 0 el := by
          unfold Lib.bytesCells
          rw [Array.size_append, Array.size_map, Array.size_replicate]
          have : b.data.size = b.size := by obtain ⟨dd⟩ := b; rfl
          omega
        obtain ⟨σ', h5, h6, h7⟩ := m.newRowIn (w' := Lib.bytesWorld w el b) (cs := b.data.toList.map fun x => Value.int .u8 (.ofNat x.toNat)) (us := b.data.toList.map fun x => Value.int .u8 (.ofNat x.toNat)) el (Tb.of (b.data.toList.map fun x => Value.int .u8 (.ofNat x.toNat)))
          (VRs.of_get rfl fun i x hx => ⟨x, hx, by
            obtain ⟨y, _, rfl⟩ := List.mem_map.1 (List.mem_of_getElem? hx)
            exact VR.int⟩) (fun i => Tb.get_of _ i) (Lib.bytesWorld_at_new w el b) (fun i u hu => by
            have hi := (List.getElem?_eq_some_iff.1 hu).1
            rw [List.length_map] at hi
            unfold Lib.bytesCells
            rw [Array.getElem?_append_left (by rw [Array.size_map]; simpa using hi)]
            rw [List.getElem?_map] at hu
            simpa using hu) (by rw [List.length_map, hcs, ← hsz]; exact hge) (.inr (Nat.le_refl _)) ⟨rfl, rfl, rfl⟩ (Lib.bytesWorld_size w el b) (fun r hr => Lib.bytesWorld_at_old w el b r hr)
        rw [hcs] at h5
        rw [List.length_map] at h7
        refine ⟨.slice (some ⟨w.heap.size, 0, none⟩) b.size (grownCap w b.size 0 el), _, .inl ?_, σ', ?_, h7⟩
        · unfold execOp
          simp only [ho, hx, Sem.run_bind, hrun, Result.andThen_ok]
          rfl
        · rw [← hsz]
          exact .slo (L := ⟨w.heap.size, 0, grownCap w b.size 0 el⟩) h5 hge (by simp) .nil
      · cases hm
    · exact flat_good hsel hm
  · rename_i h1
    split at hm
    · rename_i el sz hs hd
      split at hm
      · rename_i hel
        obtain ⟨rfl, rfl, rfl⟩ := ok_inj hm
        obtain ⟨hu, _⟩ := slEl hs
        refine good_pure fun σ w ρ oe m => ⟨_, VR.str, ?_⟩
        have hx := (oe x _ h1).scal_inv rfl
        unfold execOp
        simp [ho, hx, convert, run_underlying hu, run_underlying hd, run_underlying hel, Conv.bytesToString]
        rfl
      · cases hm
    · cases hm
  · rename_i id off sp len cap h1
    split at hm
    · rename_i hsd
      split at hm
      · rename_i el sz bel n k c hs hb
        split at hm
        · rename_i hel
          obtain ⟨hk, hm⟩ := bo_inv hm (by simp)
          have hk := Nat.eq_of_beq_eq_true hk
          subst hk
          obtain ⟨rfl, rfl, rfl⟩ := ok_inj hm
          have hsd := Nat.eq_of_beq_eq_true hsd
          subst hsd
          obtain ⟨hu, _⟩ := slEl hs
          intro σ w ρ oe m
          obtain ⟨L, A, c', hL, hx, _⟩ := (oe x _ h1).slice_any
          obtain ⟨row, fz, r1, r2, r3, r4, r5, r6, r7⟩ := m.cells hb hL
          have hsh : w.shape? L.blk = some (bel, row.size) := by unfold World.shape?; rw [r1]
          have hrun : (convert s s (ρ x)).run P w = .ok (ρ x) (w.freeze ⟨L.blk, row.size, none⟩ 1) := by
            rw [hx]
            simp [convert, run_underlying hu, run_underlying hel, markStringish, hsh, Result.andThen]
          have hfb : (w.freeze ⟨L.blk, row.size, none⟩ 1).heap[L.blk]? = some (.cells row bel (if fz.1 == fz.2 then (row.size, row.size + 1) else (min fz.1 row.size, max fz.2 (row.size + 1)))) := by
            obtain ⟨lo, hi⟩ := fz
            simp [World.freeze, Array.getElem?_modify, r1]
          refine ⟨ρ x, w.freeze ⟨L.blk, row.size, none⟩ 1, .inl ?_, σ, oe x _ h1, ?_⟩
          · unfold execOp
            simp only [ho, Sem.run_bind, hrun, Result.andThen_ok]
            rfl
          · have ht := m.upd (B' := .cells bel n 0 c) (w' := w.freeze ⟨L.blk, row.size, none⟩ 1) hb hL ⟨row, _, hfb, r2, r3, r4, r5, fun _ => by
              cases hq : (fz.1 == fz.2) with
              | true => right; simp [r2]
              | false =>
                right
                have := r7 (by simp)
                rcases this with h9 | h9
                · rw [h9] at hq; simp at hq
                · simp; omega⟩ ⟨rfl, rfl, rfl⟩ (by simp [World.freeze]) (fun r hr => by
                  simp [World.freeze, Array.getElem?_modify, Ne.symm hr])
            have hfun : (fun i => if i = id then some (Bl.cells bel n 0 c) else h.get i) = h.get := by
              funext i
              by_cases e : i = id
              · subst e; rw [if_pos rfl, hb]
              · rw [if_neg e]
            rw [hfun] at ht
            exact ht
        · cases hm
      · cases hm
    · split at hm
      case h_2 => cases hm
      rename_i el sz bel n k c hs hd hb
      split at hm
      · rename_i l hel hl
        split at hm
        · rename_i bs hbs
          obtain ⟨rfl, rfl, rfl⟩ := ok_inj hm
          obtain ⟨hu, _⟩ := slEl hs
          refine good_pure fun σ w ρ oe m => ⟨_, VR.str, ?_⟩
          obtain ⟨L, A, c', hL, hx, hA⟩ := (oe x _ h1).slice_any
          obtain ⟨us, h2, h3, h4⟩ := m.ldN hb hL len off hl
          have h4 : w.rangeAt L.blk A us := by
            rcases hA with rfl | rfl
            · exact h4
            · obtain rfl : us = [] := List.eq_nil_of_length_eq_zero h3
              intro j u hu; simp at hu
          obtain ⟨ns, rfl, rfl⟩ := byOf_ok hbs
          have hus := scals_eq (fun x hx => by obtain ⟨y, _, rfl⟩ := List.mem_map.1 hx; rfl) h2
          subst hus
          have hload := rangeAt_loadCells (P := P) h4
          rw [h3] at hload
          have hrun := run_bytesToString (P := P) w ⟨L.blk, A, none⟩ len c' (ns.map Int.ofNat) (by rw [hload]; simp)
          rw [foldl_push] at hrun
          unfold execOp
          simp [ho, hx, convert, run_underlying hu, run_underlying hd, run_underlying hel, hrun]
        · cases hm
      · cases hm
  · exact flat_good hsel hm
theorem run_getMap {w : World} {r clock : Nat} {es : Array MapEntry} (hb : w.heap[r]? = some (.map es clock)) : (Go.getObj r).run P w = .ok (.map es clock) w := by
  unfold Go.getObj
  simp only [Sem.run, hb]
theorem len_good {t : TypeId} {x : Operand} (ho : o.op = .call { callee := .builtin .len, args := #[x], argTypes := #[t] }) (hm : mLen P h nx t (evO G e x) = .ok v h' nx') : Good P G o e h nx v h' nx' := by
  unfold mLen at hm
  split at hm
  · rename_i a n c h1
    split at hm
    · rename_i p ht
      obtain ⟨el, s⟩ := p
      obtain ⟨rfl, rfl, rfl⟩ := ok_inj hm
      obtain ⟨hu, _⟩ := slEl ht
      refine good_pure fun σ w ρ oe m => ⟨_, VR.int, ?_⟩
      have hx := oe x _ h1
      cases a with
      | none =>
        have hx := hx.scal_inv rfl
        unfold execOp
        simp [ho, hx, resolve, invoke, builtin, Builtin.len_, run_underlying hu, goInt]
      | some a =>
        obtain ⟨id, off, sp⟩ := a
        obtain ⟨L, A, c', hL, hx, _⟩ := hx.slice_any
        unfold execOp
        simp [ho, hx, resolve, invoke, builtin, Builtin.len_, run_underlying hu, goInt]
    · cases hm
  · rename_i s h1
    split at hm
    · rename_i hu
      obtain ⟨rfl, rfl, rfl⟩ := ok_inj hm
      refine good_pure fun σ w ρ oe m => ⟨_, VR.int, ?_⟩
      have hx := (oe x _ h1).scal_inv rfl
      unfold execOp
      simp [ho, hx, resolve, invoke, builtin, Builtin.len_, run_underlying hu, goInt]
    · cases hm
  · rename_i h1
    split at hm
    · rename_i k el hu
      obtain ⟨rfl, rfl, rfl⟩ := ok_inj hm
      refine good_pure fun σ w ρ oe m => ⟨_, VR.int, ?_⟩
      have hx := (oe x _ h1).scal_inv rfl
      unfold execOp
      simp [ho, hx, resolve, invoke, builtin, Builtin.len_, run_underlying hu, goInt]
    · cases hm
  · rename_i id h1
    split at hm
    · rename_i k el clock bs l hu hb
      obtain ⟨rfl, rfl, rfl⟩ := ok_inj hm
      refine good_pure fun σ w ρ oe m => ⟨_, VR.int, ?_⟩
      obtain ⟨L, hL, hx⟩ := (oe x _ h1).map_inv
      obtain ⟨L', hL', es, h2, h3, h4, h5⟩ := m.blk id _ hb
      rw [hL] at hL'; injection hL' with hL'; subst hL'
      have hlen : es.size = l.length := by have h9 := h3.len; rw [List.length_map, List.length_map, Array.length_toList] at h9; exact h9.symm
      have hg := run_getMap (P := P) h2
      have hrun : (Builtin.len_ #[t] o.type #[.map (some L.blk)]).run P w = .ok (.int .i64 (l.length : Int)) w := by
        unfold Builtin.len_
        simp only [List.getElem?_toArray, List.getElem?_cons_zero, Sem.run_bind, run_underlying hu, Result.andThen_ok, hg, hlen, goInt]
        rfl
      unfold execOp
      simp [ho, hx, resolve, invoke, builtin, hrun]
    · cases hm
  · rename_i x' h0 h01 h02 h03 h1
    split at hm
    · rename_i n el hu
      obtain ⟨rfl, rfl, rfl⟩ := ok_inj hm
      refine good_pure fun σ w ρ oe m => ⟨_, VR.int, ?_⟩
      unfold execOp
      simp [ho, resolve, invoke, builtin, Builtin.len_, run_underlying hu, goInt]
    · cases hm
  · cases hm
theorem copy_none {s n0 : Nat} {x : Value} {cs : List Value} (hs : srcCells h s (n0.min 0) x = some cs) : cs = [] := by
  rw [show n0.min 0 = 0 from Nat.min_eq_right (Nat.zero_le n0)] at hs
  unfold srcCells at hs
  split at hs
  · injection (bo_inv hs (by simp)).2 with hs; exact hs.symm
  · obtain ⟨_, hs⟩ := bo_inv hs (by simp)
    split at hs
    · have := ldN_length _ _ _ hs; exact List.eq_nil_of_length_eq_zero (by simpa using this)
    · injection (bo_inv hs (by simp)).2 with hs; exact hs.symm
  · injection (bo_inv hs (by simp)).2 with hs; subst hs; simp
  · cases hs
/-- What is appended or copied. -/
theorem src_ok {σ : Sg} {w : World} {s n : Nat} {x u : Value} {cs : List Value} (m : MR G σ h.get nx w) (hs : srcCells h s n x = some cs) (hx : VR σ x u) :
    ∃ us, VRs σ cs us ∧ us.length = cs.length ∧ (Builtin.firstCells s n u).run P w = .ok us.toArray w ∧ (Builtin.firstCells s n u).run P w.drew = .ok us.toArray w.drew ∧ ∀ k, lenV x = some k → (n = k → cs.length = n * s) ∧ ∀ w', (Builtin.lenOf u).run P w' = .ok k w' := by
  unfold srcCells at hs
  split at hs
  · rename_i l c
    obtain ⟨hn, hs⟩ := bo_inv hs (by simp)
    injection hs with hs; subst hs
    have hn := Nat.eq_of_beq_eq_true hn; subst hn
    have := hx.scal_inv rfl; subst this
    refine ⟨[], .nil, rfl, rfl, rfl, fun k hk => ?_⟩
    injection hk with hk; subst hk
    exact ⟨fun _ => by simp, fun _ => rfl⟩
  · rename_i id off sp l c
    obtain ⟨hnl, hs⟩ := bo_inv hs (by simp)
    have hnl := Nat.le_of_ble_eq_true hnl
    obtain ⟨L, A, c', hL, hu, hA⟩ := hx.slice_any
    subst hu
    split at hs
    · rename_i el m' k tb hb
      obtain ⟨us, h2, h3, h4⟩ := m.ldN hb hL (n * s) off hs
      have h4 : w.rangeAt L.blk A us := by
        rcases hA with rfl | rfl
        · exact h4
        · obtain rfl : n = 0 := by omega
          obtain rfl : us = [] := List.eq_nil_of_length_eq_zero (by simpa using h3)
          intro j u hu; simp at hu
      have hcells : ∀ w' : World, w'.heap = w.heap → (Builtin.firstCells s n (.slice (some ⟨L.blk, A, none⟩) l c')).run P w' = .ok us.toArray w' := fun w' hw' =>
        run_firstCells_some w' s n _ l c' us h3 (fun j u hu => by
          rw [Addr.add_mid, World.cell?_of_block (w := w) (by rw [hw'])]; exact h4 j u hu)
      refine ⟨us, h2, h2.len.symm, hcells w rfl, hcells w.drew rfl, fun k hk => ?_⟩
      injection hk with hk; subst hk
      exact ⟨fun _ => ldN_length _ _ _ hs, fun _ => rfl⟩
    · obtain ⟨hn, hs⟩ := bo_inv hs (by simp)
      injection hs with hs; subst hs
      have hn := Nat.eq_of_beq_eq_true hn; subst hn
      refine ⟨[], .nil, rfl, ?_, ?_, fun k hk => ?_⟩
      · exact run_firstCells_some w s 0 _ l c' [] (by simp) (by simp)
      · exact run_firstCells_some w.drew s 0 _ l c' [] (by simp) (by simp)
      · injection hk with hk; subst hk
        exact ⟨fun _ => by simp, fun _ => rfl⟩
  · rename_i b
    obtain ⟨hs1, hs⟩ := bo_inv hs (by simp)
    have hs1 := Nat.eq_of_beq_eq_true hs1; subst hs1
    injection hs with hs; subst hs
    have := hx.scal_inv rfl; subst this
    have hsz : b.size = b.data.toList.length := by obtain ⟨d⟩ := b; rfl
    have hf : ∀ w' : World, (Builtin.firstCells 1 n (.string b)).run P w' = .ok ((b.data.toList.take n).map fun x => Value.int .u8 (.ofNat x.toNat)).toArray w' := fun w' => by
      have : (b.extract 0 n).data.map (fun b => Value.int .u8 b.toNat) = ((b.data.toList.take n).map fun x => Value.int .u8 (.ofNat x.toNat)).toArray := by
        apply Array.ext'
        rw [Array.toList_map, Lib.extract_data]
        simp
      simp only [Builtin.firstCells, this]
      rfl
    refine ⟨_, VRs.of_get rfl fun i x hx => ⟨x, hx, ?_⟩, rfl, hf w, hf w.drew, fun k hk => ?_⟩
    · obtain ⟨y, _, rfl⟩ := List.mem_map.1 (List.mem_of_getElem? hx)
      exact VR.int
    · injection hk with hk; subst hk
      refine ⟨fun hn => by subst hn; simp, fun w' => ?_⟩
      simp only [Builtin.lenOf, hsz]; rfl
  · cases hs
theorem clear_good {x : Operand} {t : TypeId} (ho : o.op = .call { callee := .builtin .clear, args := #[x], argTypes := #[t] }) (hm : mClear P h nx t (evO G e x) = .ok v h' nx') : Good P G o e h nx v h' nx' := by
  unfold mClear at hm
  split at hm
  · rename_i id off sp n c h1
    split at hm
    · rename_i el s ht
      split at hm
      · rename_i z hz
        obtain ⟨hc, hm⟩ := bo_inv hm (by simp)
        simp only [Bool.and_eq_true] at hc
        have hn := blt_lt hc.1
        have hzl := blt_lt hc.2
        split at hm
        · rename_i h2' hw
          obtain ⟨rfl, rfl, rfl⟩ := ok_inj hm
          obtain ⟨hu, i, hi, his⟩ := slEl ht
          obtain ⟨i2, hi2, hiz, hfl⟩ := zeroTy_info hz
          intro σ w ρ oe m
          obtain ⟨L, c', hL, hd⟩ := (oe x _ h1).slice_inv hn
          obtain ⟨hrun, htr⟩ := m.write (P := P) hw hL (((VR.of_flat (σ := σ) hfl).cells).zeros n)
          have hzc : (Builtin.zeroCells z.cells n).toList = zerosN z.cells.toList n := by
            unfold Builtin.zeroCells
            rw [made_eq _ _ (by simpa using hzl)]
          obtain ⟨n', rfl⟩ : ∃ n', n = n' + 1 := ⟨n - 1, by omega⟩
          refine ⟨.tuple ⟨[]⟩, _, .inl ?_, σ, .tuple .nil .nil, htr⟩
          unfold execOp
          simp [ho, hd, resolve, invoke, builtin, Builtin.clear_, run_underlying hu, zeroValue, typeInfo, hi2, hiz, hzc, hrun]
        · cases hm
      · cases hm
    · cases hm
  · cases hm
theorem copy_good {d x : Operand} {t t' : TypeId} (ho : o.op = .call { callee := .builtin .copy, args := #[d, x], argTypes := #[t, t'] }) (hm : mCopy P h nx t (evO G e d) (evO G e x) = .ok v h' nx') : Good P G o e h nx v h' nx' := by
  unfold mCopy at hm
  split at hm
  · rename_i a dl dc x' h1 h2
    split at hm
    · rename_i el s n0 ht hl
      split at hm
      · rename_i vs hs
        have hmin : bo (Nat.ble n0 dl) n0 dl = Nat.min n0 dl := by
          cases hb : Nat.ble n0 dl with
          | true => rw [bo_true]; exact (Nat.min_eq_left (Nat.le_of_ble_eq_true hb)).symm
          | false =>
            rw [bo_false]
            have : ¬ n0 ≤ dl := fun hh => by rw [Nat.ble_eq_true_of_le hh] at hb; cases hb
            exact (Nat.min_eq_right (by omega)).symm
        rw [hmin] at hm hs
        obtain ⟨hu, i, hi, his⟩ := slEl ht
        subst his
        have fin : ∀ (σ : Sg) (w w' : World) (ρ : Operand → Value) (base : Option Addr) (c : Nat) (us : List Value), ρ d = .slice base dl c → (Builtin.lenOf (ρ x)).run P w = .ok n0 w → (Builtin.firstCells i.size (Nat.min n0 dl) (ρ x)).run P w = .ok us.toArray w →
            (∀ a, base = some a → (storeCells a us).run P w = .ok () w') → (base = none → w' = w) → (execOp ρ o).run P w = .ok (.value (.int .i64 (.ofNat (Nat.min n0 dl)))) w' := by
          intro σ w w' ρ base c us hd hl hf hst hn
          unfold execOp
          cases base with
          | none =>
            rw [hn rfl]
            simp [ho, hd, resolve, invoke, builtin, Builtin.copy_, run_underlying hu, hl, sizeOf, typeInfo, hi, hf, goInt]
          | some a => simp [ho, hd, resolve, invoke, builtin, Builtin.copy_, run_underlying hu, hl, sizeOf, typeInfo, hi, hf, hst a rfl, goInt]
        split at hm
        · rename_i id off sp
          cases hempty : vs.isEmpty with
          | true =>
            rw [hempty, bo_true] at hm
            obtain ⟨rfl, rfl, rfl⟩ := ok_inj hm
            refine good_pure fun σ w ρ oe m => ⟨_, VR.int, ?_⟩
            obtain ⟨L, A, c', hL, hd, _⟩ := (oe d _ h1).slice_any
            obtain ⟨us, h3, h4, h5, h6, h7⟩ := src_ok (P := P) m hs (oe x _ h2)
            have : us = [] := List.eq_nil_of_length_eq_zero (by rw [h4]; simpa using hempty)
            subst this
            exact fin σ w w ρ _ c' [] hd ((h7 n0 hl).2 w) h5 (fun a _ => rfl) (fun _ => rfl)
          | false =>
            rw [hempty, bo_false] at hm
            split at hm
            · rename_i h2' hw
              obtain ⟨rfl, rfl, rfl⟩ := ok_inj hm
              intro σ w ρ oe m
              obtain ⟨us, h3, h4, h5, h6, h7⟩ := src_ok (P := P) m hs (oe x _ h2)
              obtain ⟨L, c', hL, hd⟩ := (oe d _ h1).slice_inv (by
                rcases Nat.eq_zero_or_pos dl with h0 | h0
                · subst h0
                  exfalso
                  have hz := copy_none hs
                  rw [hz] at hempty; cases hempty
                · exact h0)
              obtain ⟨hrun, htr⟩ := m.write (P := P) hw hL h3
              exact ⟨_, _, .inl (fin σ w _ ρ _ c' us hd ((h7 n0 hl).2 w) h5 (fun a ha => by injection ha with ha; subst ha; exact hrun) (fun hh => by cases hh)), σ, VR.int, htr⟩
            · cases hm
        · obtain ⟨hempty, hm⟩ := bo_inv hm (by simp)
          obtain ⟨rfl, rfl, rfl⟩ := ok_inj hm
          refine good_pure fun σ w ρ oe m => ⟨_, VR.int, ?_⟩
          have hd := (oe d _ h1).scal_inv rfl
          obtain ⟨us, h3, h4, h5, h6, h7⟩ := src_ok (P := P) m hs (oe x _ h2)
          exact fin σ w w ρ _ _ us hd ((h7 n0 hl).2 w) h5 (fun a ha => by cases ha) (fun _ => rfl)
      · cases hm
    · cases hm
  · cases hm
end
end Go.Proofs.YthdlljlcffokbaaDoor
