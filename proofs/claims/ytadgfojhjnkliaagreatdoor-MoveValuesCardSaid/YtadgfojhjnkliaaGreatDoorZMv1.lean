/- Copies of a model's rows (slices.Clone): printed by gw/mv1.py. Condition: none. -/
import Derived.Test.YtadgfojhjnkliaaGreatDoorZRu11
import Derived.Test.YtadgfojhjnkliaaGreatDoorZb5
import Derived.Lib.SliceRun
set_option maxHeartbeats 16000000
set_option maxRecDepth 100000
namespace Go.Proofs.YtadgfojhjnkliaaGreatDoor
open Go.RowKit
theorem PO {P : Program} {e : Env} {w : World} {o : Oper} {t t' el : Nat} {x : Operand} {A : Option Addr} {n c : Nat} (ho : o.op = .binOp .eql t x (.const (.slice none 0 0)) t') (hx : ev e x = some (.slice A n c)) (hu : P.underlying t = some (.slice el)) : Y P e o w (.bool A.isNone) := fun ρ h => by
 have h2 : ρ (.const (.slice none 0 0)) = .slice none 0 0 := h _ _ rfl
 unfold execOp
 simp [ho, h _ _ hx, h2, eqGuard, Lib.run_eql_slice_nil w t el A n c 0 0 hu]
theorem TY {α : Type} {w : World} {A : Option Addr} {k : Nat} {cells : α → List Value} {l : List α} (h : Rd w A (l.length * k) (AS cells l)) (hk : 0 < k) (hA : A.isNone = true) : l = [] := by
 rcases Nat.eq_zero_or_pos l.length with h0 | h0
 ·exact List.length_eq_zero_iff.1 h0
 ·obtain ⟨b, off, e, _⟩ := h.2 (Nat.mul_pos h0 hk)
  rw [e] at hA; cases hA
theorem S7 : (Tryz.prog.info? 95).map (fun i => (i.zero, i.size, i.bytes)) = some (some (.agg #[str [], .int .u8 0, .int .i64 0, .bool false, str []]), 5, 56) := by kernel_rfl
theorem NT : (Tryz.prog.info? 62).map (fun i => (i.zero, i.size, i.bytes)) = some (some (.agg #[str [], str [], .int .u8 0, str [], str [], str [], .int .u8 0, str [], str [], .int .i64 0, .int .i64 0]), 11, 144) := by kernel_rfl
theorem oM (A : Option Addr) (c : Nat) (l : List Bd) (w : World) (hl : l.length ≤ 1048576) (hR : Rd w A (l.length * 5) (AS Bd.cells l)) :
 Calls Tryz.prog 40 #[.slice A l.length c] w fun e w' => ∃ A' c', e = .returned (.slice A' l.length c') ∧ w'.ownsRow w.heap.size 95 5 (.slice A' l.length c') l.length (AS Bd.cells l) ∧ Fr0 w w' := by
 refine AL (vs := [_]) Tryz.func40 rfl Tryz.ntmps40 rfl ?_
 have M := CM w
 refine A9 (A0 (yb rfl (A1 (A2 (A9 (A9 (A0 (yb rfl (ya rfl (PO rfl rfl Tryz.underlying22) (A1 (A2 (AR (b := (A.isNone)) rfl (fun h4 => ?_) (fun h4 => ?_)))))))))))))
 ·refine A9 (A0 (yb rfl (A1 (A2 (AE (AA (AI rfl rfl ?_)))))))
  obtain rfl := TY hR (by decide) h4
  exact ⟨none, 0, rfl, World.ownsRow_nil _ _ _ _, M.fr⟩
 ·refine AM (A2 (A9 (A0 (CK (some 5) (A4 rfl) rfl rfl (fun ρ hρ => KD 22 95 5 rfl Tryz.underlying22 IN) ?_))))
  rintro _ w1 ⟨g5, rfl, hg5, _, _, hfw1, ho5⟩
  have M := M.pushOwn hfw1 (Nat.le_refl _) (ho5 _ (Nat.le_refl _))
  exact yb rfl (EQ (len' := l.length) (xs' := AS Bd.cells l) M 0 (A4 rfl) rfl rfl rfl rfl rfl rfl (hR.fr0 M.fr) Tryz.underlying22 S7 rfl (by decide) (EL Bd.cells_one) (Nat.le_refl _) (Nat.le_refl _) (by first | omega | (simp only [List.length_append, List.length_cons, List.length_nil]; omega)) (by unfold maxLen; first | omega | (simp only [List.length_append, List.length_cons, List.length_nil]; omega)) (by simp) (by simp [AS]) fun A7 c7 w2 M => yb rfl (A1 (A2 (AE (AI rfl rfl ⟨_, _, rfl, M.own 0 rfl, M.fr⟩)))))
theorem oL (A : Option Addr) (c : Nat) (l : List El) (w : World) (hl : l.length ≤ 1048576) (hR : Rd w A (l.length * 11) (AS El.cells l)) :
 Calls Tryz.prog 41 #[.slice A l.length c] w fun e w' => ∃ A' c', e = .returned (.slice A' l.length c') ∧ w'.ownsRow w.heap.size 62 11 (.slice A' l.length c') l.length (AS El.cells l) ∧ Fr0 w w' := by
 refine AL (vs := [_]) Tryz.func41 rfl Tryz.ntmps41 rfl ?_
 have M := CM w
 refine A9 (A0 (yb rfl (A1 (A2 (A9 (A9 (A0 (yb rfl (ya rfl (PO rfl rfl Tryz.underlying23) (A1 (A2 (AR (b := (A.isNone)) rfl (fun h4 => ?_) (fun h4 => ?_)))))))))))))
 ·refine A9 (A0 (yb rfl (A1 (A2 (AE (AA (AI rfl rfl ?_)))))))
  obtain rfl := TY hR (by decide) h4
  exact ⟨none, 0, rfl, World.ownsRow_nil _ _ _ _, M.fr⟩
 ·refine AM (A2 (A9 (A0 (CK (some 5) (A4 rfl) rfl rfl (fun ρ hρ => KD 23 62 11 rfl Tryz.underlying23 AY) ?_))))
  rintro _ w1 ⟨g5, rfl, hg5, _, _, hfw1, ho5⟩
  have M := M.pushOwn hfw1 (Nat.le_refl _) (ho5 _ (Nat.le_refl _))
  exact yb rfl (EQ (len' := l.length) (xs' := AS El.cells l) M 0 (A4 rfl) rfl rfl rfl rfl rfl rfl (hR.fr0 M.fr) Tryz.underlying23 NT rfl (by decide) (EL El.cells_one) (Nat.le_refl _) (Nat.le_refl _) (by first | omega | (simp only [List.length_append, List.length_cons, List.length_nil]; omega)) (by unfold maxLen; first | omega | (simp only [List.length_append, List.length_cons, List.length_nil]; omega)) (by simp) (by simp [AS]) fun A7 c7 w2 M => yb rfl (A1 (A2 (AE (AI rfl rfl ⟨_, _, rfl, M.own 0 rfl, M.fr⟩)))))
theorem oK (A : Option Addr) (c : Nat) (l : List Fl) (w : World) (hl : l.length ≤ 1048576) (hR : Rd w A (l.length * 4) (AS Fl.cells l)) :
 Calls Tryz.prog 42 #[.slice A l.length c] w fun e w' => ∃ A' c', e = .returned (.slice A' l.length c') ∧ w'.ownsRow w.heap.size 65 4 (.slice A' l.length c') l.length (AS Fl.cells l) ∧ Fr0 w w' := by
 refine AL (vs := [_]) Tryz.func42 rfl Tryz.ntmps42 rfl ?_
 have M := CM w
 refine A9 (A0 (yb rfl (A1 (A2 (A9 (A9 (A0 (yb rfl (ya rfl (PO rfl rfl Tryz.underlying24) (A1 (A2 (AR (b := (A.isNone)) rfl (fun h4 => ?_) (fun h4 => ?_)))))))))))))
 ·refine A9 (A0 (yb rfl (A1 (A2 (AE (AA (AI rfl rfl ?_)))))))
  obtain rfl := TY hR (by decide) h4
  exact ⟨none, 0, rfl, World.ownsRow_nil _ _ _ _, M.fr⟩
 ·refine AM (A2 (A9 (A0 (CK (some 5) (A4 rfl) rfl rfl (fun ρ hρ => KD 24 65 4 rfl Tryz.underlying24 CE) ?_))))
  rintro _ w1 ⟨g5, rfl, hg5, _, _, hfw1, ho5⟩
  have M := M.pushOwn hfw1 (Nat.le_refl _) (ho5 _ (Nat.le_refl _))
  exact yb rfl (EQ (len' := l.length) (xs' := AS Fl.cells l) M 0 (A4 rfl) rfl rfl rfl rfl rfl rfl (hR.fr0 M.fr) Tryz.underlying24 IY rfl (by decide) (EL Fl.cells_one) (Nat.le_refl _) (Nat.le_refl _) (by first | omega | (simp only [List.length_append, List.length_cons, List.length_nil]; omega)) (by unfold maxLen; first | omega | (simp only [List.length_append, List.length_cons, List.length_nil]; omega)) (by simp) (by simp [AS]) fun A7 c7 w2 M => yb rfl (A1 (A2 (AE (AI rfl rfl ⟨_, _, rfl, M.own 0 rfl, M.fr⟩)))))
end Go.Proofs.YtadgfojhjnkliaaGreatDoor
