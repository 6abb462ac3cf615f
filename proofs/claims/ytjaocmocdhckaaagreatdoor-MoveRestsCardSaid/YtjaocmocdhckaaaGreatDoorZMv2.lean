/- Lemmas that the last text rests on. Condition: each says its own. -/
import Derived.Test.YtjaocmocdhckaaaGreatDoorZRu11
import Derived.Lib.SliceRun
import Derived.Test.YtjaocmocdhckaaaGreatDoorZb6
set_option maxHeartbeats 16000000
set_option maxRecDepth 100000
namespace Go.Proofs.YtjaocmocdhckaaaGreatDoor
open Go.RowKit
open Tryz
theorem LP {P : Program} {e : Env} {w : World} {o : Oper} {t t' el : Nat} {x : Operand} {A : Option Addr} {n c : Nat} (ho : o.op = .binOp .eql t x (.const (.slice none 0 0)) t') (hx : ev e x = some (.slice A n c)) (hu : P.underlying t = some (.slice el)) : Y P e o w (.bool A.isNone) := fun ρ h => by
 have h2 : ρ (.const (.slice none 0 0)) = .slice none 0 0 := h _ _ rfl
 unfold execOp
 simp [ho, h _ _ hx, h2, eqGuard, Lib.run_eql_slice_nil w t el A n c 0 0 hu]
theorem OL {α : Type} {w : World} {A : Option Addr} {k : Nat} {cells : α → List Value} {l : List α} (h : Rd w A (l.length * k) (AH cells l)) (hk : 0 < k) (hA : A.isNone = true) : l = [] := by
 rcases Nat.eq_zero_or_pos l.length with h0 | h0
 ·exact List.length_eq_zero_iff.1 h0
 ·obtain ⟨b, off, e, _⟩ := h.2 (Nat.mul_pos h0 hk)
  rw [e] at hA; cases hA
theorem SY : (prog.info? 47).map (fun i => (i.zero, i.size, i.bytes)) = some (some (.agg #[str [], .int .u8 0, AJ 0, .bool false, str []]), 5, 56) := by kernel_rfl
theorem PN : (prog.info? 69).map (fun i => (i.zero, i.size, i.bytes)) = some (some (.agg #[str [], str [], .int .u8 0, str [], str [], str [], .int .u8 0, str [], str [], AJ 0, AJ 0]), 11, 144) := by kernel_rfl
theorem aL (A : Option Addr) (c : Nat) (l : List Bd) (w : World) (hl : l.length ≤ 1048576) (hR : Rd w A (l.length * 5) (AH Bd.cells l)) :
 Calls prog 45 #[.slice A l.length c] w fun e w' => ∃ A' c', e = .returned (.slice A' l.length c') ∧ w'.ownsRow w.heap.size 47 5 (.slice A' l.length c') l.length (AH Bd.cells l) ∧ Fr0 w w' := by
 refine C5 func45 ntmps45 rfl fun M => srg (AY rfl (AF (AQ rfl (ya rfl (LP rfl rfl underlying22) (nq (AL rfl (fun h4 => ?_) (fun h4 => ?_)))))))
 ·refine AQ rfl (gnr (AB (gr1 rfl ?_)))
  obtain rfl := OL hR BU h4
  exact ⟨none, 0, rfl, World.ownsRow_nil _ _ _ _, M.fr⟩
 ·refine AI (AD (srg (CH (some 5) (AA rfl) rfl rfl (fun ρ hρ => IM 22 47 5 rfl underlying22 EY) ?_)))
  rintro _ w1 ⟨g5, rfl, hg5, _, _, hfw1, ho5⟩
  have M := M.pushOwn hfw1 (Nat.le_refl _) (ho5 _ (Nat.le_refl _))
  exact yb rfl (EH (len' := l.length) (xs' := AH Bd.cells l) M 0 (AA rfl) rfl rfl rfl rfl rfl rfl (hR.fr0 M.fr) underlying22 SY rfl BU (EJ Bd.cells_one) (Nat.le_refl _) (Nat.le_refl _) CX (by unfold maxLen; first | omega | (simp only [List.length_append, List.length_cons, List.length_nil]; omega)) (by simp) (by simp [AH]) fun A7 c7 w2 M => yb rfl (gnr (gr1 rfl ⟨_, _, rfl, M.own 0 rfl, M.fr⟩)))
theorem oB (A : Option Addr) (c : Nat) (l : List El) (w : World) (hl : l.length ≤ 1048576) (hR : Rd w A (l.length * 11) (AH El.cells l)) :
 Calls prog 46 #[.slice A l.length c] w fun e w' => ∃ A' c', e = .returned (.slice A' l.length c') ∧ w'.ownsRow w.heap.size 69 11 (.slice A' l.length c') l.length (AH El.cells l) ∧ Fr0 w w' := by
 refine C5 func46 ntmps46 rfl fun M => srg (AY rfl (AF (AQ rfl (ya rfl (LP rfl rfl underlying23) (nq (AL rfl (fun h4 => ?_) (fun h4 => ?_)))))))
 ·refine AQ rfl (gnr (AB (gr1 rfl ?_)))
  obtain rfl := OL hR BU h4
  exact ⟨none, 0, rfl, World.ownsRow_nil _ _ _ _, M.fr⟩
 ·refine AI (AD (srg (CH (some 5) (AA rfl) rfl rfl (fun ρ hρ => IM 23 69 11 rfl underlying23 B2) ?_)))
  rintro _ w1 ⟨g5, rfl, hg5, _, _, hfw1, ho5⟩
  have M := M.pushOwn hfw1 (Nat.le_refl _) (ho5 _ (Nat.le_refl _))
  exact yb rfl (EH (len' := l.length) (xs' := AH El.cells l) M 0 (AA rfl) rfl rfl rfl rfl rfl rfl (hR.fr0 M.fr) underlying23 PN rfl BU (EJ El.cells_one) (Nat.le_refl _) (Nat.le_refl _) CX (by unfold maxLen; first | omega | (simp only [List.length_append, List.length_cons, List.length_nil]; omega)) (by simp) (by simp [AH]) fun A7 c7 w2 M => yb rfl (gnr (gr1 rfl ⟨_, _, rfl, M.own 0 rfl, M.fr⟩)))
theorem o9 (A : Option Addr) (c : Nat) (l : List Fl) (w : World) (hl : l.length ≤ 1048576) (hR : Rd w A (l.length * 4) (AH Fl.cells l)) :
 Calls prog 47 #[.slice A l.length c] w fun e w' => ∃ A' c', e = .returned (.slice A' l.length c') ∧ w'.ownsRow w.heap.size 72 4 (.slice A' l.length c') l.length (AH Fl.cells l) ∧ Fr0 w w' := by
 refine C5 func47 ntmps47 rfl fun M => srg (AY rfl (AF (AQ rfl (ya rfl (LP rfl rfl underlying24) (nq (AL rfl (fun h4 => ?_) (fun h4 => ?_)))))))
 ·refine AQ rfl (gnr (AB (gr1 rfl ?_)))
  obtain rfl := OL hR BU h4
  exact ⟨none, 0, rfl, World.ownsRow_nil _ _ _ _, M.fr⟩
 ·refine AI (AD (srg (CH (some 5) (AA rfl) rfl rfl (fun ρ hρ => IM 24 72 4 rfl underlying24 D3) ?_)))
  rintro _ w1 ⟨g5, rfl, hg5, _, _, hfw1, ho5⟩
  have M := M.pushOwn hfw1 (Nat.le_refl _) (ho5 _ (Nat.le_refl _))
  exact yb rfl (EH (len' := l.length) (xs' := AH Fl.cells l) M 0 (AA rfl) rfl rfl rfl rfl rfl rfl (hR.fr0 M.fr) underlying24 K1 rfl BU (EJ Fl.cells_one) (Nat.le_refl _) (Nat.le_refl _) CX (by unfold maxLen; first | omega | (simp only [List.length_append, List.length_cons, List.length_nil]; omega)) (by simp) (by simp [AH]) fun A7 c7 w2 M => yb rfl (gnr (gr1 rfl ⟨_, _, rfl, M.own 0 rfl, M.fr⟩)))
structure MdN (w : World) (m : Md) (a : MdA) (F : List Nat) : Prop where
 md : MdIn w m a
 V : ∀ b off p, a.V = some ⟨b, off, p⟩ → b ∈ F
 E : ∀ b off p, a.E = some ⟨b, off, p⟩ → b ∈ F
 L : ∀ b off p, a.F = some ⟨b, off, p⟩ → b ∈ F
theorem MdN.keep {w w' : World} {m : Md} {a : MdA} {F : List Nat} (hk : ∀ g ∈ F, g < w.heap.size → w'.heap[g]? = w.heap[g]?) (h : MdN w m a F) : MdN w' m a F :=
 ⟨⟨HV h.md.vars hk h.V, HV h.md.els hk h.E, HV h.md.fls hk h.L⟩, h.V, h.E, h.L⟩
def As.mdp (m : Md) (a : MdA) (F : List Nat) : As := ⟨F, fun w => MdN w m a F, fun h hb => hb.keep h⟩
theorem eU {m : Md} {w w' : World} {A5 A8 A11 : Option Addr} {c5 c8 c11 : Nat} {Ls : List As}
 (M : Mem w B0 (As.own w.heap.size 47 5 (.slice A5 m.vars.length c5) m.vars.length (AH Bd.cells m.vars) :: As.own w.heap.size 69 11 (.slice A8 m.els.length c8) m.els.length (AH El.cells m.els) :: As.own w.heap.size 72 4 (.slice A11 m.fls.length c11) m.fls.length (AH Fl.cells m.fls) :: Ls) w') :
 ∃ a' F, Ending.returned (.agg (List.toArray [str m.id, str m.nm, .slice A5 m.vars.length c5, .slice A8 m.els.length c8, .slice A11 m.fls.length c11])) = .returned (.agg (Md.cells m a').toArray) ∧ MdN w' m a' F ∧ (∀ g ∈ F, w.heap.size ≤ g ∧ g < w'.heap.size) ∧ Fr0 w w' := by
 refine ⟨⟨A5, c5, A8, c8, A11, c11⟩, (Value.slice A5 m.vars.length c5).ownBlock.toList ++ ((Value.slice A8 m.els.length c8).ownBlock.toList ++ (Value.slice A11 m.fls.length c11).ownBlock.toList), rfl, ⟨⟨NM (M.own 0 rfl), NM (M.own 1 rfl), NM (M.own 2 rfl)⟩, ?_, ?_, ?_⟩, ?_, M.fr⟩
 ·intro b off p h; simp only at h; subst h; simp [Value.ownBlock]
 ·intro b off p h; simp only at h; subst h; simp [Value.ownBlock]
 ·intro b off p h; simp only at h; subst h; simp [Value.ownBlock]
 ·intro g hg
  rcases List.mem_append.1 hg with hg | hg
  ·exact M.new0 0 rfl g hg
  ·rcases List.mem_append.1 hg with hg | hg
   ·exact M.new0 1 rfl g hg
   ·exact M.new0 2 rfl g hg
theorem LT : (prog.info? 22).map (·.size) = some 1 := by kernel_rfl
theorem OA : (prog.info? 23).map (·.size) = some 1 := by kernel_rfl
theorem RA : (prog.info? 24).map (·.size) = some 1 := by kernel_rfl
theorem zr_api_Model : (prog.info? 26).map (·.zero) = some (some (.agg #[str [], str [], .slice none 0 0, .slice none 0 0, .slice none 0 0])) := by kernel_rfl
theorem lY (m : Md) (a : MdA) (w : World) (ho : MdOk m) (hM : MdIn w m a) :
 Calls prog 16 #[.agg (Md.cells m a).toArray] w fun e w' => ∃ a' F, e = .returned (.agg (Md.cells m a').toArray) ∧ MdN w' m a' F ∧ (∀ g ∈ F, w.heap.size ≤ g ∧ g < w'.heap.size) ∧ Fr0 w w' := by
 refine C5 func16 ntmps16 rfl fun M => srg (CR M rfl rfl fun g1 w1 hg1 M => DC M rfl zr_api_Model fun g2 w2 hg2 M => nq (AF (CV 10 (fun w' => Mem w B0 [As.blk g2 26 [str [], str [], .slice none 0 0, .slice none 0 0, .slice none 0 0], As.blk g1 26 (Md.cells m a)] w') CZ ?_)))
 have M := M.drew
 refine HD 0 gkr (fun c a t v w h => by cases t <;> exact h) gkr gkr gkr rfl (AA rfl) rfl rfl M (fun _ M => yp rfl) (HD 1 gkr (fun c a t v w h => by cases t <;> exact h) gkr gkr gkr rfl (AA rfl) rfl rfl M (fun _ M => BW rfl rfl (sc rfl) (M.cell 1 rfl rfl)) (HD 3 gkr (fun c a t v w h => by cases t <;> exact h) gkr gkr gkr rfl (AA rfl) rfl rfl M (fun _ M => yp rfl) (HD 4 gkr (fun c a t v w h => by cases t <;> exact h) gkr gkr gkr rfl (AA rfl) rfl rfl M (fun _ M => BW rfl rfl (sc rfl) (M.cell 1 rfl rfl)) (HD 6 gkr (fun c a t v w h => by cases t <;> exact h) gkr gkr gkr rfl (AA rfl) rfl rfl M (fun _ M => yp rfl) (HD 7 gkr (fun c a t v w h => by cases t <;> exact h) gkr gkr gkr rfl (AA rfl) rfl rfl M (fun _ M => BW rfl rfl (sc rfl) (M.cell 1 rfl rfl)) (C7 2 (some 5) gkr rfl (AA rfl) rfl rfl (AP rfl rfl call45) (aL a.V a.vc m.vars _ (by have := ho.nvars; omega) (hM.vars.fr0 M.fr)) ?_))))))
 rintro _ w3 ⟨A5, c5, rfl, how3, hfw3⟩
 refine ⟨_, rfl, fun _ => M.step hfw3, ?_⟩
 have M := M.pushOwn hfw3 (Nat.le_refl _) how3
 have hL5 := M.ownLen 0 rfl
 refine HD 9 gkr (fun c a t v w h => by cases t <;> exact h) gkr gkr gkr rfl (AA rfl) rfl rfl (M.drop 1) (fun _ M => yp rfl) (C7 5 (some 8) gkr rfl (AA rfl) rfl rfl (AP rfl rfl call46) (oB a.E a.ec m.els _ (by have := ho.nels; omega) (hM.els.fr0 M.fr)) ?_)
 rintro _ w4 ⟨A8, c8, rfl, how4, hfw4⟩
 refine ⟨_, rfl, fun _ => (M.drop 1).step hfw4, ?_⟩
 have M := M.pushOwn hfw4 (Nat.le_refl _) how4
 have hL8 := M.ownLen 0 rfl
 refine C7 8 (some 11) gkr rfl (AA rfl) rfl rfl (AP rfl rfl call47) (o9 a.F a.fc m.fls _ (by have := ho.nfls; omega) (hM.fls.fr0 M.fr)) ?_
 rintro _ w5 ⟨A11, c11, rfl, how5, hfw5⟩
 refine ⟨_, rfl, fun _ => (M.drop 2).step hfw5, ?_⟩
 have M := M.pushOwn hfw5 (Nat.le_refl _) how5
 have hL11 := M.ownLen 0 rfl
 refine BB 10 none gkr rfl (AA rfl) rfl rfl (fun ρ hρ => E9 22 _ _ rfl g1 2 26 _ (.slice A5 m.vars.length c5) (hρ _ _ rfl) (hρ _ _ rfl) rfl (M.blk 4 rfl) LT (CO rfl) rfl) ?_
 rintro _ w6 ⟨rfl, hbw6, hfw6⟩
 replace M : Mem w B0 (List.set _ 4 (As.blk g1 26 [str m.id, str m.nm, .slice A5 m.vars.length c5, .slice a.E m.els.length a.ec, .slice a.F m.fls.length a.fc])) w6 := M.putB 4 rfl hbw6 hfw6
 refine ⟨fun h => absurd h BU, fo1 11 rfl rfl (yp rfl) (BB 12 none gkr rfl (AA rfl) rfl rfl (fun ρ hρ => E9 23 _ _ rfl g1 3 26 _ (.slice A8 m.els.length c8) (hρ _ _ rfl) (hρ _ _ rfl) rfl (M.blk 4 rfl) OA (CO rfl) rfl) ?_)⟩
 rintro _ w7 ⟨rfl, hbw7, hfw7⟩
 replace M : Mem w B0 (List.set _ 4 (As.blk g1 26 [str m.id, str m.nm, .slice A5 m.vars.length c5, .slice A8 m.els.length c8, .slice a.F m.fls.length a.fc])) w7 := M.putB 4 rfl hbw7 hfw7
 refine ⟨fun h => absurd h BU, fo1 13 rfl rfl (yp rfl) (BB 14 none gkr rfl (AA rfl) rfl rfl (fun ρ hρ => E9 24 _ _ rfl g1 4 26 _ (.slice A11 m.fls.length c11) (hρ _ _ rfl) (hρ _ _ rfl) rfl (M.blk 4 rfl) RA (CO rfl) rfl) ?_)⟩
 rintro _ w8 ⟨rfl, hbw8, hfw8⟩
 replace M : Mem w B0 (List.set _ 4 (As.blk g1 26 [str m.id, str m.nm, .slice A5 m.vars.length c5, .slice A8 m.els.length c8, .slice A11 m.fls.length c11])) w8 := M.putB 4 rfl hbw8 hfw8
 exact ⟨fun h => absurd h BU, fdn (AD (srg (CW M 4 rfl rfl underlying26 C0 rfl (C4 M 3 rfl rfl C0 rfl fun w9 M => gnr (FB rfl rfl (M.rdBlk 3 rfl rfl) underlying26 rfl C0 (eU (M.pk [2, 1, 0])))))))⟩
end Go.Proofs.YtjaocmocdhckaaaGreatDoor
