/- More operations: an empty slice that is built. Over any program. No condition. -/
import Derived.Test.YtklciidffdnglaaDoorSx2
namespace Go.Proofs.YtklciidffdnglaaDoor
open Go.RowKit
section
variable {P : Program} {Q : Exit → Act → World → Prop} {n : Nat} {e : Env} {w : World}
theorem qx_weak {x : Exit} {r : Env} (hl : r.le e) (h : QX Q x n r w) : QX Q x n e w := ⟨fun a ha => h.run a (ha.weak hl)⟩
/-- Several ways come to one exit: what follows it is walked once. -/
theorem sx_fork {c : Code} {K : Act → World → Prop} (id : Nat) (r : Env) (h : QX Q (.exit id) n r w) (k : (∀ e, r.le e → QX Q (.exit id) n e w) → Sx P c (Exit.then K Q) n e w) : Sx P c (Exit.then K Q) n e w := k fun _ hl => qx_weak hl h
/-- .. with whatever worlds. -/
theorem sx_via {ι : Type} {c : Code} (id : Nat) (F : ι → World → Prop) (E : ι → Env) (h : ∀ x w', F x w' → QX Q (.exit id) n (E x) w') (k : (∀ x w' e, F x w' → (E x).le e → QX Q (.exit id) n e w') → Sx P c Q n e w) : Sx P c Q n e w := k fun x w' _ hF hl => qx_weak hl (h x w' hF)
/-- .. what follows a part. -/
theorem sx_then_via {ι : Type} {c y : Code} {Q' : Exit → Act → World → Prop} (F : ι → World → Prop) (E : ι → Env) (h : ∀ x w', F x w' → Sx P y Q n (E x) w') (k : (∀ x w' e, F x w' → (E x).le e → QX (Exit.then (y.wp P Q) Q') .normal n e w') → Sx P c (Exit.then (y.wp P Q) Q') n e w) : Sx P c (Exit.then (y.wp P Q) Q') n e w :=
  k fun x w' _ hF hl => qx_seq (sx_weak hl (h x w' hF))
/-- In a region that draws its order. -/
theorem sxo_via {ι : Type} {ops : Array Oper} {S : World → Prop} {t f : Nat} {listed : Array Bool} (f' : Nat) (listed' : Array Bool) (F : ι → World → Prop) (E : ι → Env) (h : ∀ x w', F x w' → SxO P ops Q t S n f' listed' (E x) w')
    (k : (∀ x w' e l, F x w' → (E x).le e → l = listed' → SxO P ops Q t S n f' l e w') → SxO P ops Q t S n f listed e w) : SxO P ops Q t S n f listed e w := k fun x w' _ _ hF hl el => sxo_listed el (sxo_weak hl (h x w' hF))
end
section
variable {P : Program} {e : Env} {w : World} {o : Oper}
/-- x[lo:] of a slice. -/
theorem y_sliceFrom {t len cap sz el : Nat} {A : Option Addr} {m : Int} {k : IntKind} {x i : Operand} (ho : o.op = .slice t x (some i) none none) (hx : ev e x = some (.slice A len cap)) (hi : ev e i = some (.int k m)) (ht : sliceElem P t = some (el, sz)) (h0 : 0 ≤ m ∧ m ≤ len) :
    Y P e o w (.slice (if cap = m.toNat then A else A.map (·.add (m.toNat * sz))) (len - m.toNat) (cap - m.toNat)) := fun ρ h => by
  unfold sliceElem at ht
  split at ht
  · rename_i el' hu
    split at ht
    · rename_i i' hi'
      simp only [Option.some.injEq, Prod.mk.injEq] at ht
      obtain ⟨rfl, rfl⟩ := ht
      unfold execOp
      simp [ho, h _ _ hx, h _ _ hi, Instr.sliceAt, Instr.slice, run_underlying hu, Instr.sliceBounds, Instr.sliceBound, asIntOf, h0.1, h0.2, sizeOf, typeInfo, hi']
    · cases ht
  · cases ht
theorem rd_two {g off : Nat} {x y : Value} (h0 : Cell w.heap g (off + 0) x) (h1 : Cell w.heap g (off + 1) y) : Rd w (some ⟨g, off, none⟩) 2 [x, y] := ⟨rfl, fun _ => ⟨g, off, rfl, fun j u hu => by
  match j, hu with
  | 0, hu => simp only [List.getElem?_cons_zero, Option.some.injEq] at hu; subst hu; exact h0.get w rfl
  | 1, hu => simp only [List.getElem?_cons_succ, List.getElem?_cons_zero, Option.some.injEq] at hu; subst hu; exact h1.get w rfl⟩⟩
theorem Rd.takeN {A : Option Addr} {n : Nat} {xs : List Value} (h : Rd w A n xs) {k : Nat} (hk : k ≤ n) : Rd w A k (xs.take k) := by
  refine ⟨by rw [List.length_take, h.1]; omega, fun h0 => ?_⟩
  obtain ⟨b, off, e, hc⟩ := h.2 (by omega)
  exact ⟨b, off, e, fun j u hu => hc j u (by
    rw [List.getElem?_take] at hu
    split at hu
    · exact hu
    · cases hu)⟩
end
section
variable {P : Program} {ρ : Operand → Value} {w : World} {o : Oper}
/-- []T{}: a new row without cells. -/
theorem does_slice0 (t e size : Nat) (ho : o.op = .buildSlice t 0 #[]) (hu : P.underlying t = some (.slice e)) (hi : (P.info? e).map (·.size) = some size) :
    Does P ρ o w fun v w' => ∃ g, v = .slice (some ⟨g, 0, none⟩) 0 0 ∧ w.heap.size ≤ g ∧ g < w'.heap.size ∧ Blk w' g e [] ∧ Fr0 w w' ∧ ∀ base, base ≤ w.heap.size → w'.ownsRow base e size v 0 [] := by
  cases hq : P.info? e with
  | none => simp [hq] at hi
  | some i =>
    have hr : (Instr.buildSlice t 0 #[]).run P w = .ok (.slice (some ⟨w.heap.size, 0, none⟩) 0 0) (w.alloc (.cells #[] e)) := by
      simp [Instr.buildSlice, run_underlying hu, sizeOf, typeInfo, hq, newRow, Instr.fill]
      rw [show Array.range 0 = #[] from by apply Array.eq_empty_of_size_eq_zero; simp, List.map_toArray, List.map_nil]
    refine ⟨_, w.alloc (.cells #[] e), .inl ?_, w.heap.size, rfl, Nat.le_refl _, by simp, Blk.new w e [], Fr.refl.alloc _, fun base hb => ownN_base (ownN_new0 w e size) hb⟩
    unfold execOp
    simp only [ho, Sem.run_bind]
    rw [List.map_toArray, List.map_nil, hr]
    rfl
end
end Go.Proofs.YtklciidffdnglaaDoor
