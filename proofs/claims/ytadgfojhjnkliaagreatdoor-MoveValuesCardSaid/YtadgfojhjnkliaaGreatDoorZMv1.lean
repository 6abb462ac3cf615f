/- Lemmas that the last text rests on. Condition: each says its own. -/
import Derived.Test.YtadgfojhjnkliaaGreatDoorZRu11
import Derived.Lib.SliceRun
set_option maxHeartbeats 16000000
set_option maxRecDepth 100000
namespace Go.Proofs.YtadgfojhjnkliaaGreatDoor
open Go.RowKit
open Tryz
theorem PR {P : Program} {e : Env} {w : World} {o : Oper} {t t' el : Nat} {x : Operand} {A : Option Addr} {n c : Nat} (ho : o.op = .binOp .eql t x (.const (.slice none 0 0)) t') (hx : ev e x = some (.slice A n c)) (hu : P.underlying t = some (.slice el)) : Y P e o w (.bool A.isNone) := fun ρ h => by
 have h2 : ρ (.const (.slice none 0 0)) = .slice none 0 0 := h _ _ rfl
 unfold execOp
 simp [ho, h _ _ hx, h2, eqGuard, Lib.run_eql_slice_nil w t el A n c 0 0 hu]
theorem U0 {α : Type} {w : World} {A : Option Addr} {k : Nat} {cells : α → List Value} {l : List α} (h : Rd w A (l.length * k) (AR cells l)) (hk : 0 < k) (hA : A.isNone = true) : l = [] := by
 rcases Nat.eq_zero_or_pos l.length with h0 | h0
 ·exact List.length_eq_zero_iff.1 h0
 ·obtain ⟨b, off, e, _⟩ := h.2 (Nat.mul_pos h0 hk)
  rw [e] at hA; cases hA
theorem S8 : (prog.info? 95).map (fun i => (i.zero, i.size, i.bytes)) = some (some (.agg #[str [], .int .u8 0, .int .i64 0, .bool false, str []]), 5, 56) := by kernel_rfl
theorem NW : (prog.info? 62).map (fun i => (i.zero, i.size, i.bytes)) = some (some (.agg #[str [], str [], .int .u8 0, str [], str [], str [], .int .u8 0, str [], str [], .int .i64 0, .int .i64 0]), 11, 144) := by kernel_rfl
theorem oN (A : Option Addr) (c : Nat) (l : List Bd) (w : World) (hl : l.length ≤ 1048576) (hR : Rd w A (l.length * 5) (AR Bd.cells l)) :
 Calls prog 40 #[.slice A l.length c] w fun e w' => ∃ A' c', e = .returned (.slice A' l.length c') ∧ w'.ownsRow w.heap.size 95 5 (.slice A' l.length c') l.length (AR Bd.cells l) ∧ Fr0 w w' := by
 refine AK (vs := [_]) func40 rfl ntmps40 rfl ?_
 have M := CK w
 refine A4 (A0 (yb rfl (A1 (A2 (A4 (A4 (A0 (yb rfl (ya rfl (PR rfl rfl underlying22) (A1 (A2 (AQ (b := (A.isNone)) rfl (fun h4 => ?_) (fun h4 => ?_)))))))))))))
 ·refine A4 (A0 (yb rfl (A1 (A2 (AD (AA (AH rfl rfl ?_)))))))
  obtain rfl := U0 hR (by decide) h4
  exact ⟨none, 0, rfl, World.ownsRow_nil _ _ _ _, M.fr⟩
 ·refine AL (A2 (A4 (A0 (CI (some 5) (A9 rfl) rfl rfl (fun ρ hρ => KE 22 95 5 rfl underlying22 IN) ?_))))
  rintro _ w1 ⟨g5, rfl, hg5, _, _, hfw1, ho5⟩
  have M := M.pushOwn hfw1 (Nat.le_refl _) (ho5 _ (Nat.le_refl _))
  exact yb rfl (EQ (len' := l.length) (xs' := AR Bd.cells l) M 0 (A9 rfl) rfl rfl rfl rfl rfl rfl (hR.fr0 M.fr) underlying22 S8 rfl (by decide) (EL Bd.cells_one) (Nat.le_refl _) (Nat.le_refl _) (by first | omega | (simp <;> omega)) (by unfold maxLen; first | omega | (simp only [List.length_append, List.length_cons, List.length_nil]; omega)) (by simp) (by simp [AR]) fun A7 c7 w2 M => yb rfl (A1 (A2 (AD (AH rfl rfl ⟨_, _, rfl, M.own 0 rfl, M.fr⟩)))))
theorem oM (A : Option Addr) (c : Nat) (l : List El) (w : World) (hl : l.length ≤ 1048576) (hR : Rd w A (l.length * 11) (AR El.cells l)) :
 Calls prog 41 #[.slice A l.length c] w fun e w' => ∃ A' c', e = .returned (.slice A' l.length c') ∧ w'.ownsRow w.heap.size 62 11 (.slice A' l.length c') l.length (AR El.cells l) ∧ Fr0 w w' := by
 refine AK (vs := [_]) func41 rfl ntmps41 rfl ?_
 have M := CK w
 refine A4 (A0 (yb rfl (A1 (A2 (A4 (A4 (A0 (yb rfl (ya rfl (PR rfl rfl underlying23) (A1 (A2 (AQ (b := (A.isNone)) rfl (fun h4 => ?_) (fun h4 => ?_)))))))))))))
 ·refine A4 (A0 (yb rfl (A1 (A2 (AD (AA (AH rfl rfl ?_)))))))
  obtain rfl := U0 hR (by decide) h4
  exact ⟨none, 0, rfl, World.ownsRow_nil _ _ _ _, M.fr⟩
 ·refine AL (A2 (A4 (A0 (CI (some 5) (A9 rfl) rfl rfl (fun ρ hρ => KE 23 62 11 rfl underlying23 AU) ?_))))
  rintro _ w1 ⟨g5, rfl, hg5, _, _, hfw1, ho5⟩
  have M := M.pushOwn hfw1 (Nat.le_refl _) (ho5 _ (Nat.le_refl _))
  exact yb rfl (EQ (len' := l.length) (xs' := AR El.cells l) M 0 (A9 rfl) rfl rfl rfl rfl rfl rfl (hR.fr0 M.fr) underlying23 NW rfl (by decide) (EL El.cells_one) (Nat.le_refl _) (Nat.le_refl _) (by first | omega | (simp <;> omega)) (by unfold maxLen; first | omega | (simp only [List.length_append, List.length_cons, List.length_nil]; omega)) (by simp) (by simp [AR]) fun A7 c7 w2 M => yb rfl (A1 (A2 (AD (AH rfl rfl ⟨_, _, rfl, M.own 0 rfl, M.fr⟩)))))
theorem oL (A : Option Addr) (c : Nat) (l : List Fl) (w : World) (hl : l.length ≤ 1048576) (hR : Rd w A (l.length * 4) (AR Fl.cells l)) :
 Calls prog 42 #[.slice A l.length c] w fun e w' => ∃ A' c', e = .returned (.slice A' l.length c') ∧ w'.ownsRow w.heap.size 65 4 (.slice A' l.length c') l.length (AR Fl.cells l) ∧ Fr0 w w' := by
 refine AK (vs := [_]) func42 rfl ntmps42 rfl ?_
 have M := CK w
 refine A4 (A0 (yb rfl (A1 (A2 (A4 (A4 (A0 (yb rfl (ya rfl (PR rfl rfl underlying24) (A1 (A2 (AQ (b := (A.isNone)) rfl (fun h4 => ?_) (fun h4 => ?_)))))))))))))
 ·refine A4 (A0 (yb rfl (A1 (A2 (AD (AA (AH rfl rfl ?_)))))))
  obtain rfl := U0 hR (by decide) h4
  exact ⟨none, 0, rfl, World.ownsRow_nil _ _ _ _, M.fr⟩
 ·refine AL (A2 (A4 (A0 (CI (some 5) (A9 rfl) rfl rfl (fun ρ hρ => KE 24 65 4 rfl underlying24 CB) ?_))))
  rintro _ w1 ⟨g5, rfl, hg5, _, _, hfw1, ho5⟩
  have M := M.pushOwn hfw1 (Nat.le_refl _) (ho5 _ (Nat.le_refl _))
  exact yb rfl (EQ (len' := l.length) (xs' := AR Fl.cells l) M 0 (A9 rfl) rfl rfl rfl rfl rfl rfl (hR.fr0 M.fr) underlying24 IY rfl (by decide) (EL Fl.cells_one) (Nat.le_refl _) (Nat.le_refl _) (by first | omega | (simp <;> omega)) (by unfold maxLen; first | omega | (simp only [List.length_append, List.length_cons, List.length_nil]; omega)) (by simp) (by simp [AR]) fun A7 c7 w2 M => yb rfl (A1 (A2 (AD (AH rfl rfl ⟨_, _, rfl, M.own 0 rfl, M.fr⟩)))))
end Go.Proofs.YtadgfojhjnkliaaGreatDoor
