/- Lemmas that the last text rests on. Condition: each says its own. -/
import Derived.Test.YtadgfojhjnkliaaGreatDoorZMv1
import Derived.Test.YtadgfojhjnkliaaGreatDoorZb9
set_option maxHeartbeats 16000000
set_option maxRecDepth 100000
namespace Go.Proofs.YtadgfojhjnkliaaGreatDoor
open Go.RowKit
open Tryz
structure MdN (w : World) (m : Md) (a : MdA) (F : List Nat) : Prop where
 md : MdIn w m a
 V : ∀ b off p, a.V = some ⟨b, off, p⟩ → b ∈ F
 E : ∀ b off p, a.E = some ⟨b, off, p⟩ → b ∈ F
 L : ∀ b off p, a.F = some ⟨b, off, p⟩ → b ∈ F
theorem MdN.keep {w w' : World} {m : Md} {a : MdA} {F : List Nat} (hk : ∀ g ∈ F, g < w.heap.size → w'.heap[g]? = w.heap[g]?) (h : MdN w m a F) : MdN w' m a F :=
 ⟨⟨GS h.md.vars hk h.V, GS h.md.els hk h.E, GS h.md.fls hk h.L⟩, h.V, h.E, h.L⟩
def As.mdp (m : Md) (a : MdA) (F : List Nat) : As := ⟨F, fun w => MdN w m a F, fun h hb => hb.keep h⟩
theorem fQ {m : Md} {w w' : World} {A5 A8 A11 : Option Addr} {c5 c8 c11 : Nat} {Ls : List As}
 (M : Mem w AB (As.own w.heap.size 95 5 (.slice A5 m.vars.length c5) m.vars.length (AR Bd.cells m.vars) :: As.own w.heap.size 62 11 (.slice A8 m.els.length c8) m.els.length (AR El.cells m.els) :: As.own w.heap.size 65 4 (.slice A11 m.fls.length c11) m.fls.length (AR Fl.cells m.fls) :: Ls) w') :
 ∃ a' F, Ending.returned (.agg (List.toArray [str m.id, str m.nm, .slice A5 m.vars.length c5, .slice A8 m.els.length c8, .slice A11 m.fls.length c11])) = .returned (.agg (Md.cells m a').toArray) ∧ MdN w' m a' F ∧ (∀ g ∈ F, w.heap.size ≤ g ∧ g < w'.heap.size) ∧ Fr0 w w' := by
 refine ⟨⟨A5, c5, A8, c8, A11, c11⟩, (Value.slice A5 m.vars.length c5).ownBlock.toList ++ ((Value.slice A8 m.els.length c8).ownBlock.toList ++ (Value.slice A11 m.fls.length c11).ownBlock.toList), rfl, ⟨⟨NE (M.own 0 rfl), NE (M.own 1 rfl), NE (M.own 2 rfl)⟩, ?_, ?_, ?_⟩, ?_, M.fr⟩
 ·intro b off p h; simp only at h; subst h; simp [Value.ownBlock]
 ·intro b off p h; simp only at h; subst h; simp [Value.ownBlock]
 ·intro b off p h; simp only at h; subst h; simp [Value.ownBlock]
 ·intro g hg
  rcases List.mem_append.1 hg with hg | hg
  ·exact M.new0 0 rfl g hg
  ·rcases List.mem_append.1 hg with hg | hg
   ·exact M.new0 1 rfl g hg
   ·exact M.new0 2 rfl g hg
theorem Q0 : (prog.info? 22).map (·.size) = some 1 := by kernel_rfl
theorem M6 : (prog.info? 23).map (·.size) = some 1 := by kernel_rfl
theorem PZ : (prog.info? 24).map (·.size) = some 1 := by kernel_rfl
theorem zr_api_Model : (prog.info? 26).map (·.zero) = some (some (.agg #[str [], str [], .slice none 0 0, .slice none 0 0, .slice none 0 0])) := by kernel_rfl
theorem mG (m : Md) (a : MdA) (w : World) (ho : MdOk m) (hM : MdIn w m a) :
 Calls prog 13 #[.agg (Md.cells m a).toArray] w fun e w' => ∃ a' F, e = .returned (.agg (Md.cells m a').toArray) ∧ MdN w' m a' F ∧ (∀ g ∈ F, w.heap.size ≤ g ∧ g < w'.heap.size) ∧ Fr0 w w' := by
 refine AK (vs := [_]) func13 rfl ntmps13 rfl ?_
 have M := CK w
 refine A4 (A0 (BD M (A9 rfl) rfl rfl 26 rfl rfl (Md.cells m a) rfl fun g1 w1 hg1 M => BI M (A9 rfl) rfl rfl 26 rfl [str [], str [], .slice none 0 0, .slice none 0 0, .slice none 0 0] zr_api_Model rfl fun g2 w2 hg2 M => A1 (A2 (A4 (D8 10 (fun w' => Mem w AB [As.blk g2 26 [str [], str [], .slice none 0 0, .slice none 0 0, .slice none 0 0], As.blk g1 26 (Md.cells m a)] w') DT ?_)))))
 have M := M.drew
 refine LK 0 (by kernel_rfl) (fun c a t v w h => by cases t <;> exact h) (by kernel_rfl) (by kernel_rfl) (by kernel_rfl) rfl (A9 rfl) rfl rfl M (fun _ M => yp rfl) (LK 1 (by kernel_rfl) (fun c a t v w h => by cases t <;> exact h) (by kernel_rfl) (by kernel_rfl) (by kernel_rfl) rfl (A9 rfl) rfl rfl M (fun _ M => CO rfl rfl (sc rfl) (M.cell 1 rfl rfl)) (LK 3 (by kernel_rfl) (fun c a t v w h => by cases t <;> exact h) (by kernel_rfl) (by kernel_rfl) (by kernel_rfl) rfl (A9 rfl) rfl rfl M (fun _ M => yp rfl) (LK 4 (by kernel_rfl) (fun c a t v w h => by cases t <;> exact h) (by kernel_rfl) (by kernel_rfl) (by kernel_rfl) rfl (A9 rfl) rfl rfl M (fun _ M => CO rfl rfl (sc rfl) (M.cell 1 rfl rfl)) (LK 6 (by kernel_rfl) (fun c a t v w h => by cases t <;> exact h) (by kernel_rfl) (by kernel_rfl) (by kernel_rfl) rfl (A9 rfl) rfl rfl M (fun _ M => yp rfl) (LK 7 (by kernel_rfl) (fun c a t v w h => by cases t <;> exact h) (by kernel_rfl) (by kernel_rfl) (by kernel_rfl) rfl (A9 rfl) rfl rfl M (fun _ M => CO rfl rfl (sc rfl) (M.cell 1 rfl rfl)) (D0 2 (some 5) (by kernel_rfl) rfl (A9 rfl) rfl rfl (AF rfl rfl call40) (oN a.V a.vc m.vars _ (by have := ho.nvars; omega) (hM.vars.fr0 M.fr)) ?_))))))
 rintro _ w3 ⟨A5, c5, rfl, how3, hfw3⟩
 refine ⟨_, rfl, fun _ => M.step hfw3, ?_⟩
 have M := M.pushOwn hfw3 (Nat.le_refl _) how3
 have hL5 := M.ownLen 0 rfl
 refine LK 9 (by kernel_rfl) (fun c a t v w h => by cases t <;> exact h) (by kernel_rfl) (by kernel_rfl) (by kernel_rfl) rfl (A9 rfl) rfl rfl (M.drop 1) (fun _ M => yp rfl) (D0 5 (some 8) (by kernel_rfl) rfl (A9 rfl) rfl rfl (AF rfl rfl call41) (oM a.E a.ec m.els _ (by have := ho.nels; omega) (hM.els.fr0 M.fr)) ?_)
 rintro _ w4 ⟨A8, c8, rfl, how4, hfw4⟩
 refine ⟨_, rfl, fun _ => (M.drop 1).step hfw4, ?_⟩
 have M := M.pushOwn hfw4 (Nat.le_refl _) how4
 have hL8 := M.ownLen 0 rfl
 refine D0 8 (some 11) (by kernel_rfl) rfl (A9 rfl) rfl rfl (AF rfl rfl call42) (oL a.F a.fc m.fls _ (by have := ho.nfls; omega) (hM.fls.fr0 M.fr)) ?_
 rintro _ w5 ⟨A11, c11, rfl, how5, hfw5⟩
 refine ⟨_, rfl, fun _ => (M.drop 2).step hfw5, ?_⟩
 have M := M.pushOwn hfw5 (Nat.le_refl _) how5
 have hL11 := M.ownLen 0 rfl
 refine B3 10 none (by kernel_rfl) rfl (A9 rfl) rfl rfl (fun ρ hρ => DZ 22 _ _ rfl g1 2 26 _ (.slice A5 m.vars.length c5) (hρ _ _ rfl) (hρ _ _ rfl) rfl (M.blk 4 rfl) Q0 (AZ rfl) rfl) ?_
 rintro _ w6 ⟨rfl, hbw6, hfw6⟩
 replace M : Mem w AB (List.set _ 4 (As.blk g1 26 [str m.id, str m.nm, .slice A5 m.vars.length c5, .slice a.E m.els.length a.ec, .slice a.F m.fls.length a.fc])) w6 := M.putB 4 rfl hbw6 hfw6
 refine ⟨fun h => absurd h (by decide), ZO 11 (by kernel_rfl) rfl (A9 rfl) rfl rfl (yp rfl) (fun h => absurd h (by decide)) (B3 12 none (by kernel_rfl) rfl (A9 rfl) rfl rfl (fun ρ hρ => DZ 23 _ _ rfl g1 3 26 _ (.slice A8 m.els.length c8) (hρ _ _ rfl) (hρ _ _ rfl) rfl (M.blk 4 rfl) M6 (AZ rfl) rfl) ?_)⟩
 rintro _ w7 ⟨rfl, hbw7, hfw7⟩
 replace M : Mem w AB (List.set _ 4 (As.blk g1 26 [str m.id, str m.nm, .slice A5 m.vars.length c5, .slice A8 m.els.length c8, .slice a.F m.fls.length a.fc])) w7 := M.putB 4 rfl hbw7 hfw7
 refine ⟨fun h => absurd h (by decide), ZO 13 (by kernel_rfl) rfl (A9 rfl) rfl rfl (yp rfl) (fun h => absurd h (by decide)) (B3 14 none (by kernel_rfl) rfl (A9 rfl) rfl rfl (fun ρ hρ => DZ 24 _ _ rfl g1 4 26 _ (.slice A11 m.fls.length c11) (hρ _ _ rfl) (hρ _ _ rfl) rfl (M.blk 4 rfl) PZ (AZ rfl) rfl) ?_)⟩
 rintro _ w8 ⟨rfl, hbw8, hfw8⟩
 replace M : Mem w AB (List.set _ 4 (As.blk g1 26 [str m.id, str m.nm, .slice A5 m.vars.length c5, .slice A8 m.els.length c8, .slice A11 m.fls.length c11])) w8 := M.putB 4 rfl hbw8 hfw8
 exact ⟨fun h => absurd h (by decide), BJ (by kernel_rfl) (A2 (A4 (A0 (ya rfl (AN (xs := [str m.id, str m.nm, .slice A5 m.vars.length c5, .slice A8 m.els.length c8, .slice A11 m.fls.length c11]) rfl rfl (M.rdBlk 4 rfl rfl) underlying26 rfl BL) (B5 (cs' := [str m.id, str m.nm, .slice A5 m.vars.length c5, .slice A8 m.els.length c8, .slice A11 m.fls.length c11]) M 3 (A9 rfl) rfl rfl rfl rfl rfl BL rfl (AP rfl) (AW rfl) rfl fun w9 M => A1 (A2 (AD (EA rfl rfl (M.rdBlk 3 rfl rfl) underlying26 rfl BL (fQ (M.pk [2, 1, 0]))))))))))⟩
end Go.Proofs.YtadgfojhjnkliaaGreatDoor
