/- A walk of a function by an environment: what is known of its slots, as a list. Over any program. No condition. -/
import Derived.Test.YtklciidffdnglaaDoorBase5
import Derived.StillTail
namespace Go.Proofs.YtklciidffdnglaaDoor
open Go.RowKit

theorem Fr.ofDrew {S : Nat → Prop} {w w' : World} (h : Fr S w.drew w') : Fr S w w' := ⟨h.os, h.tape, h.output, h.size, h.block⟩
theorem blt_lt {a b : Nat} (h : Nat.blt a b = true) : a < b := Nat.le_of_ble_eq_true h
abbrev Env := List (Nat × Value)
def Env.get : Env → Nat → Option Value
  | [], _ => none
  | (k, v) :: e, n => match Nat.beq k n with
    | true => some v
    | false => Env.get e n
/-- The frame is as the environment says. -/
structure Agr (n : Nat) (e : Env) (a : Act) : Prop where
  size : a.tmps.size = n
  defers : a.defers = []
  get : ∀ k v, e.get k = some v → a.tmps[k]? = some v
def ev (e : Env) : Operand → Option Value
  | .tmp t => e.get t
  | .const v => some v
  | .global g => some (.pointer (some ⟨g, 0, none⟩))
  | .func f => some (.func (.func f) #[] #[])
def evs (e : Env) : List Operand → Option (List Value)
  | [] => some []
  | x :: xs => match ev e x, evs e xs with
    | some v, some vs => some (v :: vs)
    | _, _ => none
/-- The operands read as the environment says. -/
def Ag (e : Env) (ρ : Operand → Value) : Prop := ∀ x v, ev e x = some v → ρ x = v
theorem Agr.eval {n : Nat} {e : Env} {a : Act} (h : Agr n e a) : Ag e a.eval := by
  intro x v hx
  cases x with
  | tmp t => have := h.get t v hx; simp [Act.eval, this]
  | const u => simpa [ev, Act.eval] using hx
  | global g => simpa [ev, Act.eval] using hx
  | func f => simpa [ev, Act.eval] using hx
theorem Ag.all {e : Env} {ρ : Operand → Value} (h : Ag e ρ) : ∀ {xs : List Operand} {vs : List Value}, evs e xs = some vs → xs.map ρ = vs
  | [], vs, hx => by simp [evs] at hx; simp [hx]
  | x :: xs, vs, hx => by
    unfold evs at hx
    cases h1 : ev e x with
    | none => simp [h1] at hx
    | some v =>
      cases h2 : evs e xs with
      | none => simp [h1, h2] at hx
      | some us =>
        simp only [h1, h2, Option.some.injEq] at hx
        subst hx
        rw [List.map_cons, h x v h1, h.all h2]
theorem Agr.put {n : Nat} {e : Env} {a : Act} (h : Agr n e a) {d : Nat} (hd : d < n) (v : Value) : Agr n ((d, v) :: e) (a.put (some d) v) where
  size := by simp [Act.put, h.size]
  defers := by simpa [Act.put] using h.defers
  get := by
    intro k u hk
    unfold Env.get at hk
    simp only [Act.put]
    split at hk
    · rename_i hb
      obtain rfl : d = k := Nat.eq_of_beq_eq_true hb
      simp only [Option.some.injEq] at hk
      subst hk
      have : d < a.tmps.size := by rw [h.size]; exact hd
      simp [this]
    · rename_i hb
      have hne : d ≠ k := fun e => by subst e; simp at hb
      rw [Array.getElem?_setIfInBounds_ne hne]
      exact h.get k u hk
/-- The environment with what an operation yields. -/
def Env.ins (e : Env) : Option Tmp → Value → Env
  | some d, v => (d, v) :: e
  | none, _ => e
def dstOk (n : Nat) : Option Tmp → Bool
  | some d => Nat.blt d n
  | none => true
theorem Agr.ins {n : Nat} {e : Env} {a : Act} (h : Agr n e a) {d : Option Tmp} (hd : dstOk n d = true) (v : Value) : Agr n (e.ins d v) (a.put d v) := by
  cases d with
  | none => exact h
  | some d => exact h.put (blt_lt hd) v
def Env.le : Env → Env → Prop
  | [], _ => True
  | (k, v) :: r, e => e.get k = some v ∧ Env.le r e
theorem Env.le_get {r e : Env} (h : r.le e) : ∀ k v, r.get k = some v → e.get k = some v := by
  induction r with
  | nil => intro k v hk; simp [Env.get] at hk
  | cons p r ih =>
    obtain ⟨k0, v0⟩ := p
    intro k v hk
    unfold Env.get at hk
    split at hk
    · rename_i hb
      obtain rfl : k0 = k := Nat.eq_of_beq_eq_true hb
      simp only [Option.some.injEq] at hk
      subst hk
      exact h.1
    · exact ih h.2 k v hk
theorem Agr.weak {n : Nat} {e r : Env} {a : Act} (h : Agr n e a) (hl : r.le e) : Agr n r a := ⟨h.size, h.defers, fun k v hk => h.get k v (Env.le_get hl k v hk)⟩

structure Sx (P : Program) (c : Code) (Q : Exit → Act → World → Prop) (n : Nat) (e : Env) (w : World) : Prop where
  run : ∀ a, Agr n e a → c.wp P Q a w
structure SxL (P : Program) (ops : Array Oper) (Q : Exit → Act → World → Prop) (n : Nat) (l : List Oper) (e : Env) (w : World) : Prop where
  run : ∀ a, Agr n e a → wpList P ops Q l a w
structure QX (Q : Exit → Act → World → Prop) (x : Exit) (n : Nat) (e : Env) (w : World) : Prop where
  run : ∀ a, Agr n e a → Q x a w
/-- The reading part of a region that draws its order; q: what follows it. -/
structure SxS (P : Program) (ops : Array Oper) (w : World) (q : Act → Prop) (n : Nat) (l : List Oper) (e : Env) : Prop where
  run : ∀ a, Agr n e a → wpStill P ops w q l a

section
variable {P : Program} {Q : Exit → Act → World → Prop} {n : Nat} {e : Env} {w : World}
theorem sx_seq {x y : Code} (h : Sx P x (Exit.then (y.wp P Q) Q) n e w) : Sx P (Code.seq x y) Q n e w := ⟨fun a ha => wp_seq (h.run a ha)⟩
theorem sx_block {id : Nat} {c : Code} (h : Sx P c (Exit.inBlock id Q) n e w) : Sx P (Code.block id c) Q n e w := ⟨fun a ha => wp_block (h.run a ha)⟩
theorem sx_skip (h : QX Q .normal n e w) : Sx P Code.skip Q n e w := ⟨fun a ha => wp_skip (h.run a ha)⟩
theorem sx_exit {id : Nat} (h : QX Q (.exit id) n e w) : Sx P (Code.exit id) Q n e w := ⟨fun a ha => wp_exit (h.run a ha)⟩
theorem sx_ret (h : QX Q .ret n e w) : Sx P Code.ret Q n e w := ⟨fun a ha => wp_ret (h.run a ha)⟩
theorem sx_true {c : Operand} {x y : Code} (hc : ev e c = some (.bool true)) (h : Sx P x Q n e w) : Sx P (Code.cond c x y) Q n e w := ⟨fun a ha => wp_cond_true (ha.eval _ _ hc) (h.run a ha)⟩
theorem sx_false {c : Operand} {x y : Code} (hc : ev e c = some (.bool false)) (h : Sx P y Q n e w) : Sx P (Code.cond c x y) Q n e w := ⟨fun a ha => wp_cond_false (ha.eval _ _ hc) (h.run a ha)⟩
theorem sx_region {id : Nat} {l : List Oper} (h : SxL P l.toArray Q n l e w) : Sx P (Code.region id l.toArray false) Q n e w := ⟨fun a ha => wp_region_lit (h.run a ha)⟩
theorem sx_still {id : Nat} {l : List Oper} (hm : P.follows .mixedOrders = true) (hB : Region.lexB .any l.toArray = true)
    (h : SxS P l.toArray w.drew (fun a' => Q .normal a' w.drew) n l e) : Sx P (Code.region id l.toArray true) Q n e w := ⟨fun a ha => wp_region_still_lit hm hB (h.run a ha)⟩
theorem sx_tail {id : Nat} {l : List Oper} (k : Nat) (hm : P.follows .mixedOrders = true) (hB : Region.lexTailB .any l.toArray k = true)
    (h : SxS P l.toArray w.drew (fun a' => wpList P l.toArray Q (l.drop k) a' w.drew) n (l.take k) e) : Sx P (Code.region id l.toArray true) Q n e w := ⟨fun a ha => wp_region_still_tail k hm hB (h.run a ha)⟩
theorem sxs_end {ops : Array Oper} (h : QX Q .normal n e w) : SxS P ops w (fun a' => Q .normal a' w) n [] e := ⟨fun a ha => wpStill_nil (h.run a ha)⟩
theorem sxs_tail {ops : Array Oper} {l : List Oper} (h : SxL P ops Q n l e w) : SxS P ops w (fun a' => wpList P ops Q l a' w) n [] e := ⟨fun a ha => wpStill_nil (h.run a ha)⟩
theorem sxl_nil {ops : Array Oper} (h : QX Q .normal n e w) : SxL P ops Q n [] e w := ⟨fun a ha => wpList_nil (h.run a ha)⟩
theorem qx_seq {y : Code} {Q' : Exit → Act → World → Prop} (h : Sx P y Q n e w) : QX (Exit.then (y.wp P Q) Q') .normal n e w := ⟨fun a ha => h.run a ha⟩
theorem qx_then_exit {K : Act → World → Prop} {id : Nat} (h : QX Q (.exit id) n e w) : QX (Exit.then K Q) (.exit id) n e w := ⟨fun a ha => h.run a ha⟩
theorem qx_then_ret {K : Act → World → Prop} (h : QX Q .ret n e w) : QX (Exit.then K Q) .ret n e w := ⟨fun a ha => h.run a ha⟩
theorem qx_block_normal {id : Nat} (h : QX Q .normal n e w) : QX (Exit.inBlock id Q) .normal n e w := ⟨fun a ha => h.run a ha⟩
theorem qx_block_ret {id : Nat} (h : QX Q .ret n e w) : QX (Exit.inBlock id Q) .ret n e w := ⟨fun a ha => h.run a ha⟩
theorem qx_block_hit {id : Nat} (h : QX Q .normal n e w) : QX (Exit.inBlock id Q) (.exit id) n e w := .mk fun a ha => by simp only [Exit.inBlock, if_true]; exact h.run a ha
theorem qx_block_miss {id id' : Nat} (hne : Nat.beq id' id = false) (h : QX Q (.exit id') n e w) : QX (Exit.inBlock id Q) (.exit id') n e w := .mk fun a ha => by
  have : id' ≠ id := fun he => by subst he; simp at hne
  simp only [Exit.inBlock, this, if_false]; exact h.run a ha
theorem sx_weak {c : Code} {r : Env} (hl : r.le e) (h : Sx P c Q n r w) : Sx P c Q n e w := ⟨fun a ha => h.run a (ha.weak hl)⟩
theorem sxl_weak {ops : Array Oper} {l : List Oper} {r : Env} (hl : r.le e) (h : SxL P ops Q n l r w) : SxL P ops Q n l e w := ⟨fun a ha => h.run a (ha.weak hl)⟩

/-- An operation is run. -/
def Wn (ops : Array Oper) (e : Env) (o : Oper) : Prop := ∀ n a, Agr n e a → Region.wanted o (yielded ops a.tmps) = true
theorem wn_none {ops : Array Oper} {o : Oper} (h : o.guard = none) : Wn ops e o := fun _ a _ => by simp [Region.wanted, h]
theorem wn_on {ops : Array Oper} {o : Oper} {j d : Nat} {b : Bool} (h : o.guard = some (j, b)) (hj : (ops[j]?).bind (·.dst) = some d) (hb : e.get d = some (.bool b)) : Wn ops e o := fun _ a ha => by
  simp [Region.wanted, h, yielded, hj, ha.get d _ hb]
/-- Skipped. -/
theorem sxl_off {ops : Array Oper} {o : Oper} {rest : List Oper} {j d d' : Nat} {b c : Bool} (h : o.guard = some (j, b)) (hj : (ops[j]?).bind (·.dst) = some d) (hb : e.get d = some (.bool c)) (hne : (c == b) = false) (hd : o.dst = some d') (hn : Nat.blt d' n = true)
    (k : SxL P ops Q n rest ((d', undef) :: e) w) : SxL P ops Q n (o :: rest) e w := .mk fun a ha => by
  have hw : Region.wanted o (yielded ops a.tmps) = false := by
    simp only [Region.wanted, h, yielded, hj, ha.get d _ hb, Option.bind_some]
    cases c <;> cases b <;> simp_all
  unfold wpList
  rw [if_neg (by simp [hw]), hd]
  exact k.run _ (ha.put (blt_lt hn) _)
theorem sxs_off {ops : Array Oper} {q : Act → Prop} {o : Oper} {rest : List Oper} {j d d' : Nat} {b c : Bool} (h : o.guard = some (j, b)) (hj : (ops[j]?).bind (·.dst) = some d) (hb : e.get d = some (.bool c)) (hne : (c == b) = false) (hd : o.dst = some d') (hn : Nat.blt d' n = true)
    (k : SxS P ops w q n rest ((d', undef) :: e)) : SxS P ops w q n (o :: rest) e := .mk fun a ha => by
  have hw : Region.wanted o (yielded ops a.tmps) = false := by
    simp only [Region.wanted, h, yielded, hj, ha.get d _ hb, Option.bind_some]
    cases c <;> cases b <;> simp_all
  unfold wpStill
  rw [if_neg (by simp [hw]), hd]
  exact k.run _ (ha.put (blt_lt hn) _)
/-- Skipped, since what it hangs on was skipped. -/
theorem sxl_offU {ops : Array Oper} {o : Oper} {rest : List Oper} {j d d' : Nat} {b : Bool} (h : o.guard = some (j, b)) (hj : (ops[j]?).bind (·.dst) = some d) (hb : e.get d = some undef) (hd : o.dst = some d') (hn : Nat.blt d' n = true)
    (k : SxL P ops Q n rest ((d', undef) :: e) w) : SxL P ops Q n (o :: rest) e w := .mk fun a ha => by
  have hw : Region.wanted o (yielded ops a.tmps) = false := by
    simp [Region.wanted, h, yielded, hj, ha.get d _ hb, undef]
  unfold wpList
  rw [if_neg (by simp [hw]), hd]
  exact k.run _ (ha.put (blt_lt hn) _)
theorem sxs_offU {ops : Array Oper} {q : Act → Prop} {o : Oper} {rest : List Oper} {j d d' : Nat} {b : Bool} (h : o.guard = some (j, b)) (hj : (ops[j]?).bind (·.dst) = some d) (hb : e.get d = some undef) (hd : o.dst = some d') (hn : Nat.blt d' n = true)
    (k : SxS P ops w q n rest ((d', undef) :: e)) : SxS P ops w q n (o :: rest) e := .mk fun a ha => by
  have hw : Region.wanted o (yielded ops a.tmps) = false := by
    simp [Region.wanted, h, yielded, hj, ha.get d _ hb, undef]
  unfold wpStill
  rw [if_neg (by simp [hw]), hd]
  exact k.run _ (ha.put (blt_lt hn) _)

/-- In this environment and world the operation yields v and leaves the world. -/
def Y (P : Program) (e : Env) (o : Oper) (w : World) (v : Value) : Prop := ∀ ρ, Ag e ρ → (execOp ρ o).run P w = .ok (.value v) w
theorem sxl_y {ops : Array Oper} {o : Oper} {rest : List Oper} {d : Nat} {v : Value} (hw : Wn ops e o) (hd : o.dst = some d) (hn : Nat.blt d n = true) (hy : Y P e o w v)
    (k : SxL P ops Q n rest ((d, v) :: e) w) : SxL P ops Q n (o :: rest) e w := .mk fun a ha => by
  unfold wpList
  rw [if_pos (hw n a ha)]
  refine .inl ?_
  unfold Oper.wp
  rw [hy _ ha.eval, Oper.upon_value, hd]
  exact k.run _ (ha.put (blt_lt hn) _)
theorem sxs_y {ops : Array Oper} {q : Act → Prop} {o : Oper} {rest : List Oper} {d : Nat} {v : Value} (hw : Wn ops e o) (hd : o.dst = some d) (hn : Nat.blt d n = true) (hy : Y P e o w v)
    (k : SxS P ops w q n rest ((d, v) :: e)) : SxS P ops w q n (o :: rest) e := .mk fun a ha => by
  unfold wpStill
  rw [if_pos (hw n a ha)]
  unfold Oper.still
  rw [hy _ ha.eval, Oper.stillUpon_value, hd]
  exact k.run _ (ha.put (blt_lt hn) _)
/-- The operation comes to what R knows. -/
theorem sxl_does {ops : Array Oper} {o : Oper} {rest : List Oper} {R : Value → World → Prop} (d : Option Tmp) (hw : Wn ops e o) (hd : o.dst = d) (hn : dstOk n d = true) (hy : ∀ ρ, Ag e ρ → Does P ρ o w R)
    (k : ∀ v w', R v w' → SxL P ops Q n rest (e.ins d v) w') : SxL P ops Q n (o :: rest) e w := .mk fun a ha => by
  unfold wpList
  rw [if_pos (hw n a ha)]
  refine .inl ((hy _ ha.eval).wp fun v w' hR => ?_)
  rw [hd]
  exact (k v w' hR).run _ (ha.ins hn v)
/-- A call. -/
def YC (P : Program) (e : Env) (o : Oper) (w : World) (f : FuncId) (args : Array Value) : Prop := ∀ ρ, Ag e ρ → (execOp ρ o).run P w = .ok (.enter f args) w
theorem sxl_call {ops : Array Oper} {o : Oper} {rest : List Oper} {f : FuncId} {args : Array Value} {R : Ending → World → Prop} (d : Option Tmp) (hw : Wn ops e o) (hd : o.dst = d) (hn : dstOk n d = true) (hy : YC P e o w f args) (hc : Calls P f args w R)
    (k : ∀ x w', R x w' → ∃ v, x = .returned v ∧ SxL P ops Q n rest (e.ins d v) w') : SxL P ops Q n (o :: rest) e w := .mk fun a ha => by
  unfold wpList
  rw [if_pos (hw n a ha)]
  refine .inl ?_
  unfold Oper.wp
  rw [hy _ ha.eval, Oper.upon_enter]
  refine hc.mono fun x w' hR => ?_
  obtain ⟨v, rfl, h⟩ := k x w' hR
  simp only [hd]
  exact h.run _ (ha.ins hn v)
/-- A call that leaves the world, in the reading part. -/
theorem sxs_call {ops : Array Oper} {q : Act → Prop} {o : Oper} {rest : List Oper} {f : FuncId} {args : Array Value} {d : Nat} {v : Value} (hw : Wn ops e o) (hd : o.dst = some d) (hn : Nat.blt d n = true) (hy : YC P e o w f args) (hc : Calls P f args w fun x w' => x = .returned v ∧ w = w')
    (k : SxS P ops w q n rest ((d, v) :: e)) : SxS P ops w q n (o :: rest) e := .mk fun a ha => by
  unfold wpStill
  rw [if_pos (hw n a ha)]
  unfold Oper.still
  rw [hy _ ha.eval]
  simp only [Oper.stillUpon, true_and]
  refine ⟨v, hc.mono fun x w' h => ⟨h.1, h.2.symm⟩, ?_⟩
  rw [hd]
  exact k.run _ (ha.put (blt_lt hn) _)

/-- What is passed, in the slots. -/
def argEnv : Nat → List Value → Env
  | _, [] => []
  | i, v :: vs => (i, v) :: argEnv (i + 1) vs
theorem argEnv_get : ∀ (vs : List Value) (i k : Nat) (v : Value), (argEnv i vs).get k = some v → i ≤ k ∧ vs[k - i]? = some v
  | [], _, _, _, h => by simp [argEnv, Env.get] at h
  | u :: vs, i, k, v, h => by
    unfold argEnv Env.get at h
    split at h
    · rename_i hb
      obtain rfl : i = k := Nat.eq_of_beq_eq_true hb
      simp only [Option.some.injEq] at h
      subst h
      simp
    · obtain ⟨h1, h2⟩ := argEnv_get vs (i + 1) k v h
      refine ⟨by omega, ?_⟩
      rw [show k - i = (k - (i + 1)) + 1 by omega, List.getElem?_cons_succ]
      exact h2
theorem sx_enter {f : FuncId} {fn : Func} {c : Code} {vs : List Value} {R : Ending → World → Prop} (hf : P.funcs[f]? = some fn) (hb : fn.body = some c) (hn : fn.ntmps = n) (hl : Nat.ble vs.length n = true)
    (h : Sx P c (bodyPost P fn R) n (argEnv 0 vs) w) : Calls P f vs.toArray w R := by
  refine calls_of_wp hf hb (h.run _ ⟨?_, rfl, ?_⟩)
  · have : vs.length ≤ n := Nat.le_of_ble_eq_true hl
    simp [hn]; omega
  · intro k v hk
    obtain ⟨_, h2⟩ := argEnv_get vs 0 k v hk
    rw [Nat.sub_zero] at h2
    have hlt : k < vs.length := (List.getElem?_eq_some_iff.1 h2).1
    rw [Array.getElem?_append_left (by simpa using hlt)]
    simpa using h2
theorem qx_ret0 {fn : Func} {R : Ending → World → Prop} {x : Exit} (hx : x = .ret ∨ x = .normal) (hr : fn.results = #[]) (h : R (.returned (.tuple #[])) w) : QX (bodyPost P fn R) x n e w := .mk fun a ha => by
  have : (results fn a.tmps).run P w = .ok (.tuple #[]) w := by simp [results, hr]
  rcases hx with rfl | rfl <;> exact ⟨ha.defers, _, this, h⟩
theorem qx_ret1 {fn : Func} {R : Ending → World → Prop} {t : Nat} {v : Value} (hr : fn.results = #[.tmp t]) (hv : e.get t = some v) (h : R (.returned v) w) : QX (bodyPost P fn R) .ret n e w := .mk fun a ha => by
  have : (results fn a.tmps).run P w = .ok v w := by simp [results, hr, ha.get t v hv]
  exact ⟨ha.defers, _, this, h⟩
theorem qx_ret2 {fn : Func} {R : Ending → World → Prop} {t u : Nat} {v v' : Value} (hr : fn.results = #[.tmp t, .tmp u]) (hv : e.get t = some v) (hv' : e.get u = some v') (h : R (.returned (.tuple #[v, v'])) w) : QX (bodyPost P fn R) .ret n e w := .mk fun a ha => by
  have : (results fn a.tmps).run P w = .ok (.tuple #[v, v']) w := by simp [results, hr, ha.get t v hv, ha.get u v' hv']
  exact ⟨ha.defers, _, this, h⟩
theorem qx_ret3 {fn : Func} {R : Ending → World → Prop} {t u s : Nat} {v v' v'' : Value} (hr : fn.results = #[.tmp t, .tmp u, .tmp s]) (hv : e.get t = some v) (hv' : e.get u = some v') (hv'' : e.get s = some v'') (h : R (.returned (.tuple #[v, v', v''])) w) : QX (bodyPost P fn R) .ret n e w := .mk fun a ha => by
  have : (results fn a.tmps).run P w = .ok (.tuple #[v, v', v'']) w := by simp [results, hr, ha.get t v hv, ha.get u v' hv', ha.get s v'' hv'']
  exact ⟨ha.defers, _, this, h⟩

theorem least (p : Nat → Prop) (h : ∃ m, p m) : ∃ m, p m ∧ ∀ k, p k → m ≤ k := by
  obtain ⟨m, hm⟩ := h
  induction m using Nat.strongRecOn with
  | _ m ih =>
    by_cases hs : ∃ k, k < m ∧ p k
    · obtain ⟨k, hk, hp⟩ := hs; exact ih k hk hp
    · exact ⟨m, hm, fun k hp => Nat.le_of_not_lt fun hlt => hs ⟨k, hlt, hp⟩⟩
/-- What a round must come to. -/
def Again (I : Env → World → Nat → Prop) (n m : Nat) (a : Act) (w : World) : Prop := ∃ e m', I e w m' ∧ m' < m ∧ Agr n e a
theorem sx_loop {c : Code} (I : Env → World → Nat → Prop) {m0 : Nat} {e0 : Env} (h0 : I e0 w m0) (hl : e0.le e)
    (round : ∀ e w m, I e w m → Sx P c (Exit.then (Again I n m) Q) n e w) : Sx P (Code.loop c) Q n e w := by
  refine ⟨fun a ha => ?_⟩
  have hp : ∀ a w, (∃ e m, I e w m ∧ Agr n e a) → ∃ m, (∃ e, I e w m ∧ Agr n e a) ∧ ∀ k, (∃ e, I e w k ∧ Agr n e a) → m ≤ k :=
    fun a w ⟨e, m, h⟩ => least _ ⟨m, e, h⟩
  classical
  let μ : Act → World → Nat := fun a w => if h : ∃ e m, I e w m ∧ Agr n e a then (hp a w h).choose else 0
  have hμ : ∀ a w e m, I e w m → Agr n e a → μ a w ≤ m ∧ ∃ e', I e' w (μ a w) ∧ Agr n e' a := by
    intro a w e m hI hA
    have hex : ∃ e m, I e w m ∧ Agr n e a := ⟨e, m, hI, hA⟩
    have hs := (hp a w hex).choose_spec
    have : μ a w = (hp a w hex).choose := dif_pos hex
    rw [this]
    exact ⟨hs.2 m ⟨e, hI, hA⟩, hs.1⟩
  refine wp_loop (fun a w => ∃ e m, I e w m ∧ Agr n e a) μ ⟨e0, m0, h0, ha.weak hl⟩ ?_
  rintro a w ⟨e, m, hI, hA⟩
  obtain ⟨hle, e', hI', hA'⟩ := hμ a w e m hI hA
  refine wp_mono ((round e' w (μ a w) hI').run a hA') ?_
  intro x a' w' hx
  cases x with
  | normal =>
    obtain ⟨e'', m'', h1, h2, h3⟩ := hx
    exact ⟨⟨e'', m'', h1, h3⟩, Nat.lt_of_le_of_lt (hμ a' w' e'' m'' h1 h3).1 h2⟩
  | exit id => exact hx
  | goto l => exact hx
  | ret => exact hx
  | panic ch => exact hx
  | outgrown => exact hx
theorem qx_again {I : Env → World → Nat → Prop} {m : Nat} (r : Env) (m' : Nat) (hI : I r w m') (hm : m' < m) (hl : r.le e) : QX (Exit.then (Again I n m) Q) .normal n e w := ⟨fun _ ha => ⟨r, m', hI, hm, ha.weak hl⟩⟩
end
end Go.Proofs.YtklciidffdnglaaDoor
