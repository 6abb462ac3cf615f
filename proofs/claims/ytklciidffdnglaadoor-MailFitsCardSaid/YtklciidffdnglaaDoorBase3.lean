/- Two rows of bytes compared; regions that draw their order over a family of worlds. No condition. -/
import Derived.Test.YtklciidffdnglaaDoorBase2
import Derived.Deep.QuietTactic
import Derived.BigQuiet
import Derived.Laws.StructEq
namespace Go.Proofs.YtklciidffdnglaaDoor
open Go.RowKit

theorem bv_inj {a b : UInt8} (h : bv a = bv b) : a = b := by
  unfold bv at h
  injection h with _ h
  exact UInt8.toNat_inj.1 (by omega)
theorem bvs_inj {a b : List UInt8} (h : bvs a = bvs b) : a = b := by
  unfold bvs at h
  exact (List.map_inj_right (fun _ _ => bv_inj)).1 h

section
variable {P : Program} (w : World)
theorem run_part8 (e : TypeId) (he : P.underlying e = some (.int .u8)) (a : List UInt8) (i : Nat) (h : i < a.length) :
    (part e (bvs a).toArray i).run P w = .ok (.int .u8 (a[i].toNat : Int)) w := by
  have hagg : (isAgg e).run P w = .ok false w := by
    unfold isAgg; rw [Sem.run_bind, run_underlying he w]; rfl
  unfold part
  rw [Sem.run_bind, hagg]
  simp [bvs, h, bv]

theorem run_equalIn_bytes (d : Nat) (t e : TypeId) (n : Nat) (ht : P.underlying t = some (.array n e)) (he : P.underlying e = some (.int .u8)) (hsz : (P.info? e).map (·.size) = some 1)
    (a b : List UInt8) (ha : a.length = n) (hb : b.length = n) :
    (Op.equalIn (d + 2) t (.agg (bvs a).toArray) (.agg (bvs b).toArray)).run P w = .ok (a == b) w := by
  have hs : (sizeOf e).run P w = .ok 1 w := by
    cases hq : P.info? e with
    | none => simp [hq] at hsz
    | some i =>
      have h1 : i.size = 1 := by simpa [hq] using hsz
      simp [sizeOf, typeInfo, hq, h1]
  have key : ∀ (m k : Nat), k + m = n → (forIn (m := Sem) (List.range' k m) ((none, ()) : Option Bool × Unit) (fun i _ => do
      if (!(← Op.equalIn (d + 1) e (← part e (bvs a).toArray (i * 1)) (← part e (bvs b).toArray (i * 1)))) = true then pure (ForInStep.done (some false, ()))
      else pure (ForInStep.yield (none, ())))).run P w = .ok (if a.drop k = b.drop k then (none, ()) else (some false, ())) w := by
    intro m
    induction m with
    | zero => intro k hk; simp [List.drop_of_length_le (show a.length ≤ k by omega), List.drop_of_length_le (show b.length ≤ k by omega)]
    | succ m ih =>
      intro k hk
      have hka : k < a.length := by omega
      have hkb : k < b.length := by omega
      rw [List.range'_succ, List.forIn_cons]
      simp only [Nat.mul_one, Sem.run_bind, run_part8 w e he a k hka, run_part8 w e he b k hkb, Result.andThen_ok, run_equalIn_int w d e .u8 .u8 _ _ he]
      by_cases hc : a[k] = b[k]
      · rw [List.drop_eq_getElem_cons hka, List.drop_eq_getElem_cons hkb, hc]
        simp only [beq_self_eq_true, Bool.not_true, Bool.false_eq_true, if_false, Sem.run_pure, Result.andThen_ok, List.cons.injEq, true_and]
        have := ih (k + 1) (by omega)
        simp only [Nat.mul_one] at this
        exact this
      · have hne : ((a[k].toNat : Int) == (b[k].toNat : Int)) = false := by
          rw [beq_eq_false_iff_ne]; intro h; exact hc (UInt8.toNat_inj.1 (by omega))
        have hd : ¬ a.drop k = b.drop k := by
          rw [List.drop_eq_getElem_cons hka, List.drop_eq_getElem_cons hkb]
          intro h; injection h with h _; exact hc h
        simp [hne, hd]
  have := key n 0 (by omega)
  simp only [List.drop_zero] at this
  unfold Op.equalIn
  simp only [Sem.run_bind, run_underlying ht, Result.andThen_ok, hs, Std.Legacy.Range.forIn_eq_forIn_range', Std.Legacy.Range.size, Nat.sub_zero, Nat.add_sub_cancel, Nat.div_one]
  rw [this]
  by_cases h : a = b
  · simp [h]
  · have : (a == b) = false := by simpa using h
    simp [h]
end

theorem run_arrayAt {P : Program} (w : World) (arr e : TypeId) (n : Nat) (hu : P.underlying arr = some (.array n e)) (A : Option Addr) (len cap : Nat) (h : n ≤ len) :
    (Instr.arrayAt arr (.slice A len cap)).run P w = .ok (.pointer A) w := by
  simp [Instr.arrayAt, run_underlying hu, Nat.not_lt.2 h]
/-- A row is loaded out of a slice's memory. -/
theorem exec_loadRd {P : Program} {ρ : Operand → Value} {o : Oper} {w : World} (ty : TypeId) (x : Operand) (ho : o.op = .load ty x) (b off n : Nat) (xs : List Value) (d : TypeDesc)
    (hx : ρ x = .pointer (some ⟨b, off, none⟩)) (hr : Rd w (some ⟨b, off, none⟩) n xs) (hu : P.underlying ty = some d) (hd : d.isRow = true) (hi : (P.info? ty).map (·.size) = some n) :
    (execOp ρ o).run P w = .ok (.value (.agg xs.toArray)) w := by
  have hc : w.rangeAt b off xs := fun j v hv => by
    have hj : 0 < n := by have := (List.getElem?_eq_some_iff.1 hv).1; have := hr.1; omega
    obtain ⟨b', off', e, hc⟩ := hr.2 hj
    injection e with e; injection e with e1 e2 _; subst e1; subst e2
    exact hc j v hv
  have hrun := run_loadVar_mid (P := P) w b off ty xs d hc hu hd (by rw [hr.1]; exact hi)
  unfold execOp
  simp only [ho, hx, Instr.loadAt, Instr.sureAddr, Sem.run_bind, Sem.run_pure, Result.andThen_ok, hrun]

/-- A region that draws its order, every operation quiet in a family of worlds. -/
theorem wp_region_fam {P : Program} {X : Type} (F : X → World) {id : Nat} {Q : Exit → Act → World → Prop} {a : Act} {w : World} {l : List Oper}
    (hm : P.follows .mixedOrders = true) (hB : Region.lexB .any l.toArray = true) (x0 : X) (hx0 : w.drew = F x0)
    (h : wpQuiet P l.toArray (fun w' => ∃ x, w' = F x) (fun a' => ∀ w', (∃ x, w' = F x) → Q .normal a' w') l a) : (Code.region id l.toArray true).wp P Q a w :=
  wp_region_quiet (C := fun w' => ∃ x, w' = F x) hm hB ⟨x0, hx0⟩ (by simpa using h)

/-- The worlds in which old memory stands, as a family. -/
theorem family0 (w w1 : World) (h : Fr0 w w1) : ∃ (X : Type) (F : X → World), Nonempty X ∧ (∀ x, Fr0 w (F x)) ∧ (∀ w', Fr0 w w' → ∃ y, w' = F y) ∧ ∃ x0, w1.drew = F x0 :=
  ⟨{w' : World // Fr0 w w'}, Subtype.val, ⟨⟨w1, h⟩⟩, fun x => x.2, fun w' h' => ⟨⟨w', h'⟩, rfl⟩, ⟨⟨w1.drew, h.drew⟩, rfl⟩⟩

/-- An operation that comes to one value in every world of the family. -/
theorem wpQuiet_val {P : Program} {X : Type} {F : X → World} {ops : Array Oper} {Q : Act → Prop} {a : Act} {o : Oper} {rest : List Oper} {v : Value} (hw : Region.wanted o (yielded ops a.tmps) = true)
    (h : ∀ x, (execOp a.eval o).run P (F x) = .ok (.value v) (F x)) (k : wpQuiet P ops (fun w' => ∃ x, w' = F x) Q rest (a.put o.dst v)) : wpQuiet P ops (fun w' => ∃ x, w' = F x) Q (o :: rest) a := by
  unfold wpQuiet
  rw [if_pos hw]
  refine ⟨v, ?_, k⟩
  rintro w ⟨x, rfl⟩
  unfold Oper.quietAt
  rw [h x]
  exact ⟨rfl, rfl⟩
theorem wpQuiet_call {P : Program} {X : Type} {F : X → World} {ops : Array Oper} {Q : Act → Prop} {a : Act} {o : Oper} {rest : List Oper} {v : Value} {f : FuncId} {args : Array Value} (hw : Region.wanted o (yielded ops a.tmps) = true)
    (h : ∀ x, (execOp a.eval o).run P (F x) = .ok (.enter f args) (F x)) (hc : ∀ x, Calls P f args (F x) fun e w' => e = .returned v ∧ ∃ y, w' = F y)
    (k : wpQuiet P ops (fun w' => ∃ x, w' = F x) Q rest (a.put o.dst v)) : wpQuiet P ops (fun w' => ∃ x, w' = F x) Q (o :: rest) a := by
  unfold wpQuiet
  rw [if_pos hw]
  refine ⟨v, ?_, k⟩
  rintro w ⟨x, rfl⟩
  unfold Oper.quietAt
  rw [h x]
  exact ⟨rfl, hc x⟩
theorem wpQuiet_off {P : Program} {C : World → Prop} {ops : Array Oper} {Q : Act → Prop} {a : Act} {o : Oper} {rest : List Oper} (hw : Region.wanted o (yielded ops a.tmps) = false)
    (k : wpQuiet P ops C Q rest (a.put o.dst undef)) : wpQuiet P ops C Q (o :: rest) a := by
  unfold wpQuiet
  rw [if_neg (by simp [hw])]
  exact k
end Go.Proofs.YtklciidffdnglaaDoor
