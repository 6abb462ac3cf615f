/- Lemmas that the last text rests on. Condition: each says its own. -/
import Derived.Test.YtaheakjfkpkefaaGreatDoorYRu11
import Derived.Lib.SliceRun
import Derived.Test.YtaheakjfkpkefaaGreatDoorYb6
set_option maxHeartbeats 16000000
set_option maxRecDepth 100000
namespace Go.Proofs.YtaheakjfkpkefaaGreatDoor
open Go.RowKit
open Tryz
theorem ND {P : Program} {e : Env} {w : World} {o : Oper} {t t' el : Nat} {x : Operand} {A : Option Addr} {n c : Nat} (ho : o.op = .binOp .eql t x (.const (.slice none 0 0)) t') (hx : ev e x = some (.slice A n c)) (hu : P.underlying t = some (.slice el)) : Y P e o w (.bool A.isNone) := fun ρ h => by
 have h2 : ρ (.const (.slice none 0 0)) = .slice none 0 0 := h _ _ rfl
 unfold execOp
 simp [ho, h _ _ hx, h2, eqGuard, Lib.run_eql_slice_nil w t el A n c 0 0 hu]
theorem QB {α : Type} {w : World} {A : Option Addr} {k : Nat} {cells : α → List Value} {l : List α} (h : Rd w A (l.length * k) (AB cells l)) (hk : 0 < k) (hA : A.isNone = true) : l = [] := by
 rcases Nat.eq_zero_or_pos l.length with h0 | h0
 ·exact List.length_eq_zero_iff.1 h0
 ·obtain ⟨b, off, e, _⟩ := h.2 (Nat.mul_pos h0 hk)
  rw [e] at hA; cases hA
theorem MM : (prog.info? 103).map (fun i => (i.zero, i.size, i.bytes)) = some (some (.agg #[str [], .int .u8 0, AA 0, .bool false, str []]), 5, 56) := by kernel_rfl
theorem P1 : (prog.info? 95).map (fun i => (i.zero, i.size, i.bytes)) = some (some (.agg #[str [], str [], .int .u8 0, str [], str [], str [], .int .u8 0, str [], str [], AA 0, AA 0]), 11, 144) := by kernel_rfl
theorem aQ (A : Option Addr) (c : Nat) (l : List Bd) (w : World) (hl : l.length ≤ 1048576) (hR : Rd w A (l.length * 5) (AB Bd.cells l)) :
 Calls prog 56 #[.slice A l.length c] w fun e w' => ∃ A' c', e = .returned (.slice A' l.length c') ∧ w'.ownsRow w.heap.size 103 5 (.slice A' l.length c') l.length (AB Bd.cells l) ∧ Fr0 w w' := by
 refine BL func56 ntmps56 rfl fun M => srg (AG rfl (sx_seq (AC rfl (ya rfl (ND rfl rfl underlying24) (nq (AF rfl (fun h4 => ?_) (fun h4 => ?_)))))))
 ·refine AC rfl (gnr (qx_then_ret (gr1 rfl ?_)))
  obtain rfl := QB hR AU h4
  exact ⟨none, 0, rfl, World.ownsRow_nil _ _ _ _, M.fr⟩
 ·refine sx_skip (qx_seq (srg (sxl_does (some 5) (wn_none rfl) rfl rfl (fun ρ hρ => GH 24 103 5 rfl underlying24 DZ) ?_)))
  rintro _ w1 ⟨g5, rfl, hg5, _, _, hfw1, ho5⟩
  have M := M.pushOwn hfw1 (Nat.le_refl _) (ho5 _ (Nat.le_refl _))
  exact yb rfl (DC (len' := l.length) (xs' := AB Bd.cells l) M 0 (wn_none rfl) rfl rfl rfl rfl rfl rfl (hR.fr0 M.fr) underlying24 MM rfl AU (D8 Bd.cells_one) (Nat.le_refl _) (Nat.le_refl _) CX (by unfold maxLen; first | omega | (simp only [List.length_append, List.length_cons, List.length_nil]; omega)) (by simp) (by simp [AB]) fun A7 c7 w2 M => yb rfl (gnr (gr1 rfl ⟨_, _, rfl, M.own 0 rfl, M.fr⟩)))
theorem pA (A : Option Addr) (c : Nat) (l : List El) (w : World) (hl : l.length ≤ 1048576) (hR : Rd w A (l.length * 11) (AB El.cells l)) :
 Calls prog 75 #[.slice A l.length c] w fun e w' => ∃ A' c', e = .returned (.slice A' l.length c') ∧ w'.ownsRow w.heap.size 95 11 (.slice A' l.length c') l.length (AB El.cells l) ∧ Fr0 w w' := by
 refine BL func75 ntmps75 rfl fun M => srg (AG rfl (sx_seq (AC rfl (ya rfl (ND rfl rfl underlying59) (nq (AF rfl (fun h4 => ?_) (fun h4 => ?_)))))))
 ·refine AC rfl (gnr (qx_then_ret (gr1 rfl ?_)))
  obtain rfl := QB hR AU h4
  exact ⟨none, 0, rfl, World.ownsRow_nil _ _ _ _, M.fr⟩
 ·refine sx_skip (qx_seq (srg (sxl_does (some 5) (wn_none rfl) rfl rfl (fun ρ hρ => GH 59 95 11 rfl underlying59 AK) ?_)))
  rintro _ w1 ⟨g5, rfl, hg5, _, _, hfw1, ho5⟩
  have M := M.pushOwn hfw1 (Nat.le_refl _) (ho5 _ (Nat.le_refl _))
  exact yb rfl (DC (len' := l.length) (xs' := AB El.cells l) M 0 (wn_none rfl) rfl rfl rfl rfl rfl rfl (hR.fr0 M.fr) underlying59 P1 rfl AU (D8 El.cells_one) (Nat.le_refl _) (Nat.le_refl _) CX (by unfold maxLen; first | omega | (simp only [List.length_append, List.length_cons, List.length_nil]; omega)) (by simp) (by simp [AB]) fun A7 c7 w2 M => yb rfl (gnr (gr1 rfl ⟨_, _, rfl, M.own 0 rfl, M.fr⟩)))
theorem p9 (A : Option Addr) (c : Nat) (l : List Fl) (w : World) (hl : l.length ≤ 1048576) (hR : Rd w A (l.length * 4) (AB Fl.cells l)) :
 Calls prog 76 #[.slice A l.length c] w fun e w' => ∃ A' c', e = .returned (.slice A' l.length c') ∧ w'.ownsRow w.heap.size 109 4 (.slice A' l.length c') l.length (AB Fl.cells l) ∧ Fr0 w w' := by
 refine BL func76 ntmps76 rfl fun M => srg (AG rfl (sx_seq (AC rfl (ya rfl (ND rfl rfl underlying60) (nq (AF rfl (fun h4 => ?_) (fun h4 => ?_)))))))
 ·refine AC rfl (gnr (qx_then_ret (gr1 rfl ?_)))
  obtain rfl := QB hR AU h4
  exact ⟨none, 0, rfl, World.ownsRow_nil _ _ _ _, M.fr⟩
 ·refine sx_skip (qx_seq (srg (sxl_does (some 5) (wn_none rfl) rfl rfl (fun ρ hρ => GH 60 109 4 rfl underlying60 C4) ?_)))
  rintro _ w1 ⟨g5, rfl, hg5, _, _, hfw1, ho5⟩
  have M := M.pushOwn hfw1 (Nat.le_refl _) (ho5 _ (Nat.le_refl _))
  exact yb rfl (DC (len' := l.length) (xs' := AB Fl.cells l) M 0 (wn_none rfl) rfl rfl rfl rfl rfl rfl (hR.fr0 M.fr) underlying60 JD rfl AU (D8 Fl.cells_one) (Nat.le_refl _) (Nat.le_refl _) CX (by unfold maxLen; first | omega | (simp only [List.length_append, List.length_cons, List.length_nil]; omega)) (by simp) (by simp [AB]) fun A7 c7 w2 M => yb rfl (gnr (gr1 rfl ⟨_, _, rfl, M.own 0 rfl, M.fr⟩)))
structure MdN (w : World) (m : Md) (a : MdA) (F : List Nat) : Prop where
 md : MdIn w m a
 V : ∀ b off p, a.V = some ⟨b, off, p⟩ → b ∈ F
 E : ∀ b off p, a.E = some ⟨b, off, p⟩ → b ∈ F
 L : ∀ b off p, a.F = some ⟨b, off, p⟩ → b ∈ F
theorem MdN.keep {w w' : World} {m : Md} {a : MdA} {F : List Nat} (hk : ∀ g ∈ F, g < w.heap.size → w'.heap[g]? = w.heap[g]?) (h : MdN w m a F) : MdN w' m a F :=
 ⟨⟨GR h.md.vars hk h.V, GR h.md.els hk h.E, GR h.md.fls hk h.L⟩, h.V, h.E, h.L⟩
def As.mdp (m : Md) (a : MdA) (F : List Nat) : As := ⟨F, fun w => MdN w m a F, fun h hb => hb.keep h⟩
theorem fJ {m : Md} {w w' : World} {A5 A8 A11 : Option Addr} {c5 c8 c11 : Nat} {Ls : List As}
 (M : Mem w AM (As.own w.heap.size 103 5 (.slice A5 m.vars.length c5) m.vars.length (AB Bd.cells m.vars) :: As.own w.heap.size 95 11 (.slice A8 m.els.length c8) m.els.length (AB El.cells m.els) :: As.own w.heap.size 109 4 (.slice A11 m.fls.length c11) m.fls.length (AB Fl.cells m.fls) :: Ls) w') :
 ∃ a' F, Ending.returned (.agg (List.toArray [str m.id, str m.nm, .slice A5 m.vars.length c5, .slice A8 m.els.length c8, .slice A11 m.fls.length c11])) = .returned (.agg (Md.cells m a').toArray) ∧ MdN w' m a' F ∧ (∀ g ∈ F, w.heap.size ≤ g ∧ g < w'.heap.size) ∧ Fr0 w w' := by
 refine ⟨⟨A5, c5, A8, c8, A11, c11⟩, (Value.slice A5 m.vars.length c5).ownBlock.toList ++ ((Value.slice A8 m.els.length c8).ownBlock.toList ++ (Value.slice A11 m.fls.length c11).ownBlock.toList), rfl, ⟨⟨K7 (M.own 0 rfl), K7 (M.own 1 rfl), K7 (M.own 2 rfl)⟩, ?_, ?_, ?_⟩, ?_, M.fr⟩
 ·intro b off p h; simp only at h; subst h; simp [Value.ownBlock]
 ·intro b off p h; simp only at h; subst h; simp [Value.ownBlock]
 ·intro b off p h; simp only at h; subst h; simp [Value.ownBlock]
 ·intro g hg
  rcases List.mem_append.1 hg with hg | hg
  ·exact M.new0 0 rfl g hg
  ·rcases List.mem_append.1 hg with hg | hg
   ·exact M.new0 1 rfl g hg
   ·exact M.new0 2 rfl g hg
theorem GM : (prog.info? 24).map (·.size) = some 1 := by kernel_rfl
theorem NK : (prog.info? 59).map (·.size) = some 1 := by kernel_rfl
theorem QW : (prog.info? 60).map (·.size) = some 1 := by kernel_rfl
theorem zr_api_Model : (prog.info? 62).map (·.zero) = some (some (.agg #[str [], str [], .slice none 0 0, .slice none 0 0, .slice none 0 0])) := by kernel_rfl
theorem ZC (m : Md) (a : MdA) (w : World) (ho : MdOk m) (hM : MdIn w m a) :
 Calls prog 39 #[.agg (Md.cells m a).toArray] w fun e w' => ∃ a' F, e = .returned (.agg (Md.cells m a').toArray) ∧ MdN w' m a' F ∧ (∀ g ∈ F, w.heap.size ≤ g ∧ g < w'.heap.size) ∧ Fr0 w w' := by
 refine BL func39 ntmps39 rfl fun M => srg (DD M rfl rfl fun g1 w1 hg1 M => CO M rfl zr_api_Model fun g2 w2 hg2 M => nq (sx_seq (I6 M 10 CL fun M => GB 0 gkr (fun c a t v w h => by cases t <;> exact h) gkr gkr gkr rfl (wn_none rfl) rfl rfl M (fun _ M => yp rfl) (GB 1 gkr (fun c a t v w h => by cases t <;> exact h) gkr gkr gkr rfl (wn_none rfl) rfl rfl M (fun _ M => B9 rfl rfl (sc rfl) (M.cell 1 rfl rfl)) (GB 3 gkr (fun c a t v w h => by cases t <;> exact h) gkr gkr gkr rfl (wn_none rfl) rfl rfl M (fun _ M => yp rfl) (GB 4 gkr (fun c a t v w h => by cases t <;> exact h) gkr gkr gkr rfl (wn_none rfl) rfl rfl M (fun _ M => B9 rfl rfl (sc rfl) (M.cell 1 rfl rfl)) (GB 6 gkr (fun c a t v w h => by cases t <;> exact h) gkr gkr gkr rfl (wn_none rfl) rfl rfl M (fun _ M => yp rfl) ?_)))))))
 refine GB 7 gkr (fun c a t v w h => by cases t <;> exact h) gkr gkr gkr rfl (wn_none rfl) rfl rfl M (fun _ M => B9 rfl rfl (sc rfl) (M.cell 1 rfl rfl)) (C5 2 (some 5) gkr rfl (wn_none rfl) rfl rfl (AE rfl rfl call56) (aQ a.V a.vc m.vars _ (by have := ho.nvars; omega) (hM.vars.fr0 M.fr)) ?_)
 rintro _ w3 ⟨A5, c5, rfl, how3, hfw3⟩
 refine ⟨_, rfl, fun _ => M.step hfw3, ?_⟩
 have M := M.pushOwn hfw3 (Nat.le_refl _) how3
 have hL5 := M.ownLen 0 rfl
 refine GB 9 gkr (fun c a t v w h => by cases t <;> exact h) gkr gkr gkr rfl (wn_none rfl) rfl rfl (M.drop 1) (fun _ M => yp rfl) (C5 5 (some 8) gkr rfl (wn_none rfl) rfl rfl (AE rfl rfl call75) (pA a.E a.ec m.els _ (by have := ho.nels; omega) (hM.els.fr0 M.fr)) ?_)
 rintro _ w4 ⟨A8, c8, rfl, how4, hfw4⟩
 refine ⟨_, rfl, fun _ => (M.drop 1).step hfw4, ?_⟩
 have M := M.pushOwn hfw4 (Nat.le_refl _) how4
 have hL8 := M.ownLen 0 rfl
 refine C5 8 (some 11) gkr rfl (wn_none rfl) rfl rfl (AE rfl rfl call76) (p9 a.F a.fc m.fls _ (by have := ho.nfls; omega) (hM.fls.fr0 M.fr)) ?_
 rintro _ w5 ⟨A11, c11, rfl, how5, hfw5⟩
 refine ⟨_, rfl, fun _ => (M.drop 2).step hfw5, ?_⟩
 have M := M.pushOwn hfw5 (Nat.le_refl _) how5
 have hL11 := M.ownLen 0 rfl
 refine AR 10 none gkr rfl (wn_none rfl) rfl rfl (fun ρ hρ => CQ 24 _ _ rfl g1 2 62 _ (.slice A5 m.vars.length c5) (hρ _ _ rfl) (hρ _ _ rfl) rfl (M.blk 4 rfl) GM (BR rfl) rfl) ?_
 rintro _ w6 ⟨rfl, hbw6, hfw6⟩
 replace M : Mem w AM (List.set _ 4 (As.blk g1 62 [str m.id, str m.nm, .slice A5 m.vars.length c5, .slice a.E m.els.length a.ec, .slice a.F m.fls.length a.fc])) w6 := M.putB 4 rfl hbw6 hfw6
 refine ⟨fun h => absurd h AU, fo1 11 rfl rfl (yp rfl) (AR 12 none gkr rfl (wn_none rfl) rfl rfl (fun ρ hρ => CQ 59 _ _ rfl g1 3 62 _ (.slice A8 m.els.length c8) (hρ _ _ rfl) (hρ _ _ rfl) rfl (M.blk 4 rfl) NK (BR rfl) rfl) ?_)⟩
 rintro _ w7 ⟨rfl, hbw7, hfw7⟩
 replace M : Mem w AM (List.set _ 4 (As.blk g1 62 [str m.id, str m.nm, .slice A5 m.vars.length c5, .slice A8 m.els.length c8, .slice a.F m.fls.length a.fc])) w7 := M.putB 4 rfl hbw7 hfw7
 refine ⟨fun h => absurd h AU, fo1 13 rfl rfl (yp rfl) (AR 14 none gkr rfl (wn_none rfl) rfl rfl (fun ρ hρ => CQ 60 _ _ rfl g1 4 62 _ (.slice A11 m.fls.length c11) (hρ _ _ rfl) (hρ _ _ rfl) rfl (M.blk 4 rfl) QW (BR rfl) rfl) ?_)⟩
 rintro _ w8 ⟨rfl, hbw8, hfw8⟩
 replace M : Mem w AM (List.set _ 4 (As.blk g1 62 [str m.id, str m.nm, .slice A5 m.vars.length c5, .slice A8 m.els.length c8, .slice A11 m.fls.length c11])) w8 := M.putB 4 rfl hbw8 hfw8
 exact ⟨fun h => absurd h AU, fdn (qx_seq (srg (DO M 4 rfl rfl underlying62 B6 rfl (C2 M 3 rfl rfl B6 rfl fun w9 M => gnr (DQ rfl rfl (M.rdBlk 3 rfl rfl) underlying62 rfl B6 (fJ (M.pk [2, 1, 0])))))))⟩
end Go.Proofs.YtaheakjfkpkefaaGreatDoor
