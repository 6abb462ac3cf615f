/- More operations: an empty slice that is built. Over any program. No condition. -/
import Derived.Test.YtbfeailalhddgaaSx2
namespace Go.Proofs.Ytbfeailalhddgaa
open Go.RowKit
section
variable {P : Program} {Q : Exit → Act → World → Prop} {n : Nat} {e : Env} {w : World}
theorem qx_weak {x : Exit} {r : Env} (hl : r.le e) (h : QX Q x n r w) : QX Q x n e w := ⟨fun a ha => h.run a (ha.weak hl)⟩
/-- Several ways come to one exit: what follows it is walked once. -/
theorem sx_fork {c : Code} {K : Act → World → Prop} (id : Nat) (r : Env) (h : QX Q (.exit id) n r w) (k : (∀ e, r.le e → QX Q (.exit id) n e w) → Sx P c (Exit.then K Q) n e w) : Sx P c (Exit.then K Q) n e w := k fun _ hl => qx_weak hl h
end
section
variable {P : Program} {ρ : Operand → Value} {w : World} {o : Oper}
/-- []T{}: a new row without cells. -/
theorem does_slice0 (t e size : Nat) (ho : o.op = .buildSlice t 0 #[]) (hu : P.underlying t = some (.slice e)) (hi : (P.info? e).map (·.size) = some size) :
    Does P ρ o w fun v w' => ∃ g, v = .slice (some ⟨g, 0, none⟩) 0 0 ∧ w.heap.size ≤ g ∧ g < w'.heap.size ∧ Blk w' g e [] ∧ Fr0 w w' ∧ ∀ base, base ≤ w.heap.size → w'.ownsRow base e size v 0 [] := by
  cases hq : P.info? e with
  | none => simp [hq] at hi
  | some i =>
    have hr : (Instr.buildSlice t 0 #[]).run P w = .ok (.slice (some ⟨w.heap.size, 0, none⟩) 0 0) (w.alloc (.cells #[] e)) := by
      simp [Instr.buildSlice, run_underlying hu, sizeOf, typeInfo, hq, newRow, Instr.fill]
      rw [show Array.range 0 = #[] from by apply Array.eq_empty_of_size_eq_zero; simp, List.map_toArray, List.map_nil]
    refine ⟨_, w.alloc (.cells #[] e), .inl ?_, w.heap.size, rfl, Nat.le_refl _, by simp, Blk.new w e [], Fr.refl.alloc _, fun base hb => ownN_base (ownN_new0 w e size) hb⟩
    unfold execOp
    simp only [ho, Sem.run_bind]
    rw [List.map_toArray, List.map_nil, hr]
    rfl
end
end Go.Proofs.Ytbfeailalhddgaa
