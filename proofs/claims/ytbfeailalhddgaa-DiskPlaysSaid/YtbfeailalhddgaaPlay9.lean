/- DiskPlays: the law's helper do, a theorem for each kind of step. -/
import Derived.Test.YtbfeailalhddgaaPlay8
namespace Go.Proofs.Ytbfeailalhddgaa
open Go.RowKit

theorem FuOr.pair {w0 w w' : World} {L L' : DL} {R : RL} {s s' : DS} (t : FuOr w w' L L' s s') (h : Pair w0 w L R s s) : Pair w0 w' L' R s' s := by
  cases t with
  | fu t => exact h.fuse t
  | no hf e es => subst e; subst es; exact h.fr0 hf
theorem FuOr.fr {w w' : World} {L L' : DL} {s s' : DS} (t : FuOr w w' L L' s s') : Fr (fun b => b = L.gd) w w' := by
  cases t with
  | fu t => exact t.fr
  | no hf e es => exact hf.of0
theorem FuOr.off {w w' : World} {L L' : DL} {R : RL} {s s' : DS} {g : Nat} (t : FuOr w w' L L' s s') (o : Off L R s g) (hg : g < w.heap.size) : Off L' R s' g := by
  cases t with
  | fu t => exact o.fuse hg t
  | no hf e es => subst e; subst es; exact o
set_option maxHeartbeats 8000000 in
theorem do_4 (p : St) (w0 w : World) (L : DL) (R : RL) (s : DS) (h : Pair w0 w L R s s) (co : s.dead = false → Coh s) (hp0 : p.Ok w0) (_hwm : s.waits.length ≤ 80) (_hdm : s.done ≤ 1000) (_hat : -9223372036854775808 ≤ p.at_ ∧ p.at_ ≤ 9223372036854775807) (hkind : p.kind = 4) :
    Calls Try.prog 22 #[.agg p.cells.toArray, .pointer (some ⟨L.gd, 0, none⟩), .pointer (some ⟨R.gd, 0, none⟩)] w (DoPost w0 s) := by
  refine sx_enter (vs := [_, _, _]) Try.func22 rfl Try.ntmps22 rfl ?_
  refine sx_seq ?_
  refine sx_region ?_
  refine sxl_does (some 3) (wn_none rfl) rfl rfl (fun ρ hρ => does_box 54 (.tmp 0) rfl p.cells (by rw [hρ _ _ rfl]; rfl)) ?_
  rintro _ w1 ⟨g3, rfl, hg3, hg3', hb1, hf1⟩
  refine sxl_y (wn_none rfl) rfl rfl (yp rfl) ?_
  refine sxl_y (wn_none rfl) rfl rfl (yp rfl) ?_
  refine sxl_y (wn_none rfl) rfl rfl (yp rfl) ?_
  refine sxl_nil ?_
  refine qx_seq ?_
  refine sx_seq ?_
  refine sx_region ?_
  refine sxl_does (some 29) (wn_none rfl) rfl rfl (fun ρ hρ => does_slice0 23 4 1 rfl Try.underlying23 (by kernel_rfl)) ?_
  rintro _ w2 ⟨g2, rfl, hg2, hg2', -, hf2, ho2⟩
  have hz1 := hf1.size
  have hz0 := h.fr.size
  have ho2 := ho2 w.heap.size (by omega)
  have hb2 := hb1.fr0 hf2
  have d4 : Cell w2.heap g3 4 (.slice p.kA p.keep.length p.kc) := hb2.c 4 rfl
  have hF2 := hf1.then0 hf2
  have hmin := min_nat p.keep.length 100
  have hkl := hp0.kl
  have hkm := hp0.km
  refine sxl_y (wn_none rfl) rfl rfl (yp rfl) ?_
  refine sxl_y (wn_none rfl) rfl rfl (y_load rfl rfl (sc rfl) (by assumption)) ?_
  refine sxl_y (wn_none rfl) rfl rfl (yp rfl) ?_
  refine sxl_y (wn_none rfl) rfl rfl (y_load rfl rfl (sc rfl) (by assumption)) ?_
  refine sxl_y (wn_none rfl) rfl rfl (y_len rfl rfl (sl rfl)) ?_
  refine sxl_y (wn_none rfl) rfl rfl (y_min rfl rfl rfl) ?_
  refine sxl_y (wn_none rfl) rfl rfl (y_sliceTo rfl rfl rfl (sl rfl) (by omega)) ?_
  rw [show (100 : Int) = ((100 : Nat) : Int) from rfl, hmin]
  have ht : (boolsV p.keep).take (min p.keep.length 100) = boolsV (p.keep.take 100) := by
    unfold boolsV
    rw [← List.map_take]
    congr 1
    rcases Nat.le_total p.keep.length 100 with hh | hh
    · rw [Nat.min_eq_left hh, List.take_of_length_le (Nat.le_refl _), List.take_of_length_le hh]
    · rw [Nat.min_eq_right hh]
  refine sxl_does (some 37) (wn_none rfl) rfl rfl (fun ρ hρ => does_append (.tmp 29) (.tmp 36) 23 rfl w.heap.size 4 (.bool false) 1 Try.underlying23 (by kernel_rfl) rfl _ 0 [] (hρ _ _ rfl) ho2 p.kA (min p.keep.length 100) p.kc (boolsV (p.keep.take 100)) (hρ _ _ rfl) (by
    have := ((hp0.fr0 (h.fr.then0 hF2)).k.takeN (k := min p.keep.length 100) (Nat.min_le_left _ _))
    rwa [ht] at this) (bools_one _) (by unfold maxLen; omega) (by omega) hF2.size) ?_
  rintro v3 w3 ⟨ho3, hg3v, hv3⟩
  rw [Nat.zero_add, List.nil_append] at ho3
  have hl3 : min p.keep.length 100 = (p.keep.take 100).length := by rw [List.length_take, Nat.min_comm]
  rw [hl3] at ho3
  have hF3 : Fr0 w w3 := hF2.app ho2 (Nat.le_refl _) hg3v
  have hf23 : Fr (fun k => k = g2) w2 w3 := Fr.grown (S := fun k => k = g2) Fr.refl hg3v (fun k e _ => by injection e with e; exact e.symm)
  have hb3 := hb2.fr hf23 (by omega)
  have P3 := h.fr0 hF3
  have hp3 := hp0.fr0 P3.fr
  obtain ⟨kA3, kc3, rfl, hkN⟩ := own_form0 ho3
  clear ho2 hg3v hv3 hf23 hb2 hb1 d4 hF2 hmin ht
  have k0 : Cell w3.heap g3 0 (.int .i64 p.kind) := hb3.c 0 rfl
  have k1 : Cell w3.heap g3 1 (.int .i64 p.at_) := hb3.c 1 rfl
  have k4 : Cell w3.heap g3 4 (.slice p.kA p.keep.length p.kc) := hb3.c 4 rfl
  have k5 : Cell w3.heap g3 5 (.int .i64 p.torn) := hb3.c 5 rfl
  have k6 : Cell w3.heap g3 6 (.int .i64 p.cut) := hb3.c 6 rfl
  have hz3 := hF3.size
  have hl100 : (p.keep.take 100).length ≤ 100 := by rw [List.length_take]; omega
  obtain ⟨s', code, fd, fr, co', hw', hd'⟩ := both_fuse p.at_ (p.keep.take 100) p.torn p.cut s co (by omega) (by omega)
  have og3 : Off L R s g3 := h.new hg3
  have hoffk : ∀ g, (Value.slice kA3 (p.keep.take 100).length kc3).ownBlock = some g → Off L R s g := fun g hg => h.new ((ho3.lt g hg).1)
  refine sxl_y (wn_none rfl) rfl rfl (yp rfl) ?_
  refine sxl_nil ?_
  refine qx_seq ?_
  refine sx_seq ?_
  refine sx_seq ?_
  refine sx_region ?_
  refine sxl_y (wn_none rfl) rfl rfl (yp rfl) ?_
  refine sxl_y (wn_none rfl) rfl rfl (y_load rfl rfl (sc rfl) (by assumption)) ?_
  refine sxl_nil ?_
  refine qx_seq ?_
  refine sx_block ?_
  refine sx_seq ?_
  refine sx_region ?_
  refine sxl_y (wn_none rfl) rfl rfl (y_eql_f rfl rfl rfl (by omega)) ?_
  refine sxl_y (wn_none rfl) rfl rfl (yp rfl) ?_
  refine sxl_nil ?_
  refine qx_seq ?_
  refine sx_false rfl ?_
  refine sx_seq ?_
  refine sx_region ?_
  refine sxl_y (wn_none rfl) rfl rfl (y_eql_f rfl rfl rfl (by omega)) ?_
  refine sxl_y (wn_none rfl) rfl rfl (yp rfl) ?_
  refine sxl_nil ?_
  refine qx_seq ?_
  refine sx_false rfl ?_
  refine sx_seq ?_
  refine sx_region ?_
  refine sxl_y (wn_none rfl) rfl rfl (y_eql_f rfl rfl rfl (by omega)) ?_
  refine sxl_y (wn_none rfl) rfl rfl (yp rfl) ?_
  refine sxl_nil ?_
  refine qx_seq ?_
  refine sx_false rfl ?_
  refine sx_seq ?_
  refine sx_region ?_
  refine sxl_y (wn_none rfl) rfl rfl (y_eql_f rfl rfl rfl (by omega)) ?_
  refine sxl_y (wn_none rfl) rfl rfl (yp rfl) ?_
  refine sxl_nil ?_
  refine qx_seq ?_
  refine sx_false rfl ?_
  refine sx_seq ?_
  refine sx_region ?_
  refine sxl_y (wn_none rfl) rfl rfl (y_eql_t rfl rfl rfl (by omega)) ?_
  refine sxl_y (wn_none rfl) rfl rfl (yp rfl) ?_
  refine sxl_nil ?_
  refine qx_seq ?_
  refine sx_true rfl ?_
  refine sx_seq ?_
  refine sx_region ?_
  refine sxl_y (wn_none rfl) rfl rfl (yp rfl) ?_
  refine sxl_y (wn_none rfl) rfl rfl (yp rfl) ?_
  refine sxl_y (wn_none rfl) rfl rfl (y_load rfl rfl (sc rfl) (by assumption)) ?_
  refine sxl_y (wn_none rfl) rfl rfl (yp rfl) ?_
  refine sxl_y (wn_none rfl) rfl rfl (y_load rfl rfl (sc rfl) (by assumption)) ?_
  refine sxl_y (wn_none rfl) rfl rfl (y_build (cells := #[.slice kA3 (p.keep.take 100).length kc3, .int .i64 p.torn, .int .i64 p.cut]) rfl rfl (by kernel_rfl)) ?_
  refine sxl_does (some 20) (wn_none rfl) rfl rfl (fun ρ hρ => does_alloc 25 rfl (.agg #[.slice none 0 0, .int .i64 0, .int .i64 0]) [.slice none 0 0, .int .i64 0, .int .i64 0] (by kernel_rfl) rfl) ?_
  rintro _ w4 ⟨g20, rfl, hg20, hg20', hb20, hf4⟩
  refine sxl_does none (wn_none rfl) rfl rfl (fun ρ hρ => does_store 25 (.tmp 20) (.tmp 161) rfl g20 0 25 _ [.slice kA3 (p.keep.take 100).length kc3, .int .i64 p.torn, .int .i64 p.cut] (hρ _ _ rfl) (hρ _ _ rfl) hb20 plan_size (by simp) (by intro u hu; simp only [List.mem_cons, List.not_mem_nil, or_false] at hu; rcases hu with rfl | rfl | rfl <;> rfl)) ?_
  rintro _ w5 ⟨rfl, hb5, hf5⟩
  have hb5 : Blk w5 g20 25 [.slice kA3 (p.keep.take 100).length kc3, .int .i64 p.torn, .int .i64 p.cut] := hb5
  have hF5 : Fr0 w3 w5 := hf4.step hf5 (fun b hb e => by omega)
  have P5 := P3.fr0 hF5
  have ho5 := ownN_fr ho3 hF5 (fun _ _ hh => hh)
  have hb35 := hb3.fr0 hF5
  have og20 : Off L R s g20 := P3.new hg20
  have hz5 := hF5.size
  refine sxl_nil ?_
  refine qx_seq ?_
  refine sx_seq ?_
  refine sx_any 19 (fun w' => Cell w'.heap g3 1 (.int .i64 p.at_) ∧ Cell w'.heap g3 5 (.int .i64 p.torn) ∧ Cell w'.heap g3 6 (.int .i64 p.cut) ∧ Blk w' g20 25 [.slice kA3 (p.keep.take 100).length kc3, .int .i64 p.torn, .int .i64 p.cut]) hmix ?_
  have HSm : ∀ w', Blk w' g3 54 p.cells → Blk w' g20 25 [.slice kA3 (p.keep.take 100).length kc3, .int .i64 p.torn, .int .i64 p.cut] → Cell w'.heap g3 1 (.int .i64 p.at_) ∧ Cell w'.heap g3 5 (.int .i64 p.torn) ∧ Cell w'.heap g3 6 (.int .i64 p.cut) ∧ Blk w' g20 25 [.slice kA3 (p.keep.take 100).length kc3, .int .i64 p.torn, .int .i64 p.cut] := fun w' hb hb' => ⟨hb.c 1 rfl, hb.c 5 rfl, hb.c 6 rfl, hb'⟩
  have HS := HSm w5.drew hb35.drew hb5.drew
  have P5d := P5.fr0 (w' := w5.drew) Fr.refl.drew
  have ho5d : w5.drew.ownsRow w.heap.size 4 1 (.slice kA3 (p.keep.take 100).length kc3) (p.keep.take 100).length (boolsV (p.keep.take 100)) := ho5
  refine sxo_via (ι := DL × Nat) 5 #[true, true, true, true, true, true, true, true, true, true, false, true, true, true, true, false, false, false, false]
    (fun x w' => Pair w0 w' x.1 R s' s ∧ x.1.gd = L.gd ∧ w'.ownsRow w5.heap.size 4 1 (.slice (some ⟨x.2, 0, none⟩) 0 0) 0 [] ∧ w'.ownsRow w.heap.size 4 1 (.slice kA3 (p.keep.take 100).length kc3) (p.keep.take 100).length (boolsV (p.keep.take 100)) ∧ (∀ g, (Value.slice kA3 (p.keep.take 100).length kc3).ownBlock = some g → Off x.1 R s' g) ∧ Blk w' g3 54 p.cells ∧ Blk w' g20 25 [.slice kA3 (p.keep.take 100).length kc3, .int .i64 p.torn, .int .i64 p.cut] ∧ Off x.1 R s' x.2 ∧ w5.heap.size ≤ w'.heap.size)
    (fun x => [(166, .int .i64 code), (170, .slice (some ⟨x.2, 0, none⟩) 0 0), (167, .pointer (some ⟨R.gd, 0, none⟩)), (169, .int .i64 p.at_), (171, .slice kA3 (p.keep.take 100).length kc3), (174, .int .i64 p.torn), (176, .int .i64 p.cut), (9, .slice kA3 (p.keep.take 100).length kc3), (1, .pointer (some ⟨L.gd, 0, none⟩)), (2, .pointer (some ⟨R.gd, 0, none⟩))]) ?_ ?_
  rotate_left
  · intro fin
    refine sxo_y 0 19 (by kernel_rfl) (fun c a t v w h => by cases t <;> exact h) (by kernel_rfl) rfl (by kernel_rfl) (by kernel_rfl) rfl (wn_none rfl) rfl rfl HS (fun w' hS' => yp rfl) ?_
    refine sxo_y 1 19 (by kernel_rfl) (fun c a t v w h => by cases t <;> exact h) (by kernel_rfl) rfl (by kernel_rfl) (by kernel_rfl) rfl (wn_none rfl) rfl rfl HS (fun w' hS' => yp rfl) ?_
    refine sxo_y 2 19 (by kernel_rfl) (fun c a t v w h => by cases t <;> exact h) (by kernel_rfl) rfl (by kernel_rfl) (by kernel_rfl) rfl (wn_none rfl) rfl rfl HS (fun w' hS' => y_load rfl rfl (sc rfl) (by obtain ⟨s1, s2, s3, s4⟩ := hS'; assumption)) ?_
    refine sxo_y 3 19 (by kernel_rfl) (fun c a t v w h => by cases t <;> exact h) (by kernel_rfl) rfl (by kernel_rfl) (by kernel_rfl) rfl (wn_none rfl) rfl rfl HS (fun w' hS' => y_loadB rfl rfl hS'.2.2.2 Try.underlying25 rfl plan_size (by simp)) ?_
    refine sxo_y 5 19 (by kernel_rfl) (fun c a t v w h => by cases t <;> exact h) (by kernel_rfl) rfl (by kernel_rfl) (by kernel_rfl) rfl (wn_none rfl) rfl rfl HS (fun w' hS' => yp rfl) ?_
    refine sxo_y 6 19 (by kernel_rfl) (fun c a t v w h => by cases t <;> exact h) (by kernel_rfl) rfl (by kernel_rfl) (by kernel_rfl) rfl (wn_none rfl) rfl rfl HS (fun w' hS' => yp rfl) ?_
    refine sxo_y 7 19 (by kernel_rfl) (fun c a t v w h => by cases t <;> exact h) (by kernel_rfl) rfl (by kernel_rfl) (by kernel_rfl) rfl (wn_none rfl) rfl rfl HS (fun w' hS' => y_load rfl rfl (sc rfl) (by obtain ⟨s1, s2, s3, s4⟩ := hS'; assumption)) ?_
    refine sxo_y 9 19 (by kernel_rfl) (fun c a t v w h => by cases t <;> exact h) (by kernel_rfl) rfl (by kernel_rfl) (by kernel_rfl) rfl (wn_none rfl) rfl rfl HS (fun w' hS' => yp rfl) ?_
    refine sxo_y 11 19 (by kernel_rfl) (fun c a t v w h => by cases t <;> exact h) (by kernel_rfl) rfl (by kernel_rfl) (by kernel_rfl) rfl (wn_none rfl) rfl rfl HS (fun w' hS' => yp rfl) ?_
    refine sxo_y 12 19 (by kernel_rfl) (fun c a t v w h => by cases t <;> exact h) (by kernel_rfl) rfl (by kernel_rfl) (by kernel_rfl) rfl (wn_none rfl) rfl rfl HS (fun w' hS' => y_load rfl rfl (sc rfl) (by obtain ⟨s1, s2, s3, s4⟩ := hS'; assumption)) ?_
    refine sxo_y 13 19 (by kernel_rfl) (fun c a t v w h => by cases t <;> exact h) (by kernel_rfl) rfl (by kernel_rfl) (by kernel_rfl) rfl (wn_none rfl) rfl rfl HS (fun w' hS' => yp rfl) ?_
    refine sxo_y 14 19 (by kernel_rfl) (fun c a t v w h => by cases t <;> exact h) (by kernel_rfl) rfl (by kernel_rfl) (by kernel_rfl) rfl (wn_none rfl) rfl rfl HS (fun w' hS' => y_load rfl rfl (sc rfl) (by obtain ⟨s1, s2, s3, s4⟩ := hS'; assumption)) ?_
    refine sxo_all (rs := [4, 8]) (by kernel_rfl) (by simp) ?_
    intro i hi
    obtain rfl | rfl : i = 4 ∨ i = 8 := by simpa using hi
    · refine op_call (some 166) rfl (wn_none rfl) rfl rfl (yc_call rfl rfl Try.call18) (fd w5.drew L kA3 kc3 P5d.d (Rd.of_own ho5d) hkN) ?_
      rintro _ w6 ⟨L6, rfl, t6, eg⟩
      have P6 := t6.pair P5d
      have hb36 := hb35.drew.fr t6.fr (fun e => og3.l (.inl e))
      have hb206 := hb5.drew.fr t6.fr (fun e => og20.l (.inl e))
      refine ⟨_, rfl, fun _ => HSm _ hb36 hb206, ?_⟩
      refine sxo_does 8 (some 170) (by kernel_rfl) rfl (wn_none rfl) rfl rfl (fun ρ hρ => does_slice0 23 4 1 rfl Try.underlying23 (by kernel_rfl)) ?_
      rintro _ w7 ⟨g7, rfl, hg7, hg7', -, hf7, ho7⟩
      have hz6 : w5.heap.size ≤ w6.heap.size := t6.fr.size
      refine ⟨fun _ => HSm _ (hb36.fr0 hf7) (hb206.fr0 hf7), ?_⟩
      have ho6 := ownN_fr ho5d t6.fr (fun k hk e => (hoffk k hk).l (.inl e))
      exact fin (L6, g7) w7 _ _ ⟨P6.fr0 hf7, eg, ho7 _ hz6, ownN_fr ho6 hf7 (fun _ _ hh => hh), fun g hg => t6.off (hoffk g hg) ((ho5.lt g hg).2), hb36.fr0 hf7, hb206.fr0 hf7, P6.new hg7, Nat.le_trans hz6 hf7.size⟩ ⟨rfl, rfl, rfl, rfl, rfl, rfl, rfl, rfl, rfl, rfl, trivial⟩ (by kernel_rfl)
    · refine op_does' (some 170) rfl (wn_none rfl) rfl rfl (fun ρ hρ => does_slice0 23 4 1 rfl Try.underlying23 (by kernel_rfl)) ?_
      rintro _ w6 ⟨g7, rfl, hg7, hg7', -, hf6, ho7⟩
      have hg7 : w5.heap.size ≤ g7 := hg7
      have P6 := P5d.fr0 hf6
      have hb36 := hb35.drew.fr0 hf6
      have hb206 := hb5.drew.fr0 hf6
      refine ⟨fun _ => HSm _ hb36 hb206, ?_⟩
      have ho6 := ownN_fr ho5d hf6 (fun _ _ hh => hh)
      refine sxo_call 4 (some 166) (by kernel_rfl) rfl (wn_none rfl) rfl rfl (yc_call rfl rfl Try.call18) (fd w6 L kA3 kc3 P6.d (Rd.of_own ho6) hkN) ?_
      rintro _ w7 ⟨L7, rfl, t7, eg⟩
      have P7 := t7.pair P6
      have hb37 := hb36.fr t7.fr (fun e => og3.l (.inl e))
      have hb207 := hb206.fr t7.fr (fun e => og20.l (.inl e))
      have og7 : Off L R s g7 := P5d.new hg7
      refine ⟨_, rfl, fun _ => HSm _ hb37 hb207, ?_⟩
      have hz6 : w5.heap.size ≤ w6.heap.size := hf6.size
      exact fin (L7, g7) w7 _ _ ⟨P7, eg, ownN_fr (ho7 _ (Nat.le_refl _)) t7.fr (fun k hk e => og7.l (.inl (by injection hk with hk; have hk : g7 = k := hk; omega))), ownN_fr ho6 t7.fr (fun k hk e => (hoffk k hk).l (.inl e)), fun g hg => t7.off (hoffk g hg) (by have := (ho5.lt g hg).2; omega), hb37, hb207, t7.off og7 hg7', Nat.le_trans hz6 t7.fr.size⟩ ⟨rfl, rfl, rfl, rfl, rfl, rfl, rfl, rfl, rfl, rfl, trivial⟩ (by kernel_rfl)
  rintro ⟨L6, g8⟩ w6 ⟨P6, eg, ho8, hok, hoff6, hb36, hb206, og8, hz56⟩
  have ho8 : w6.ownsRow w5.heap.size 4 1 (.slice (some ⟨g8, 0, none⟩) 0 0) 0 [] := ho8
  have P6 : Pair w0 w6 L6 R s' s := P6
  have eg : L6.gd = L.gd := eg
  have hg8g := (ho8.lt g8 rfl)
  have hgk : ∀ k, (Value.slice kA3 (p.keep.take 100).length kc3).ownBlock = some k → ¬ k = g8 := fun k hk e => by have := (ho5.lt k hk).2; omega
  refine sxo_does 10 (some 172) (by kernel_rfl) rfl (wn_none rfl) rfl rfl (fun ρ hρ => does_append (.tmp 170) (.tmp 171) 23 rfl w5.heap.size 4 (.bool false) 1 Try.underlying23 (by kernel_rfl) rfl _ 0 [] (hρ _ _ rfl) ho8 kA3 (p.keep.take 100).length kc3 (boolsV (p.keep.take 100)) (hρ _ _ rfl) (Rd.of_own hok) (bools_one _) (by unfold maxLen; omega) (by omega) hz56) ?_
  rintro v9 w9 ⟨ho9, hg9, hv9⟩
  rw [Nat.zero_add, List.nil_append] at ho9
  have hf9 : Fr (fun k => k = g8) w6 w9 := Fr.grown (S := fun k => k = g8) Fr.refl hg9 (fun k e _ => by injection e with e; exact e.symm)
  have P9 := P6.off og8 (by omega) hf9
  have hg3l := hb35.lt
  have hg20l := hb5.lt
  have hb39 := hb36.fr hf9 (by omega)
  have hb209 := hb206.fr hf9 (by omega)
  have HS := HSm _ hb39 hb209
  refine ⟨fun _ => HS, ?_⟩
  obtain ⟨A9, c9, rfl, hN9⟩ := own_form0 ho9
  refine sxo_y 15 19 (by kernel_rfl) (fun c a t v w h => by cases t <;> exact h) (by kernel_rfl) rfl (by kernel_rfl) (by kernel_rfl) rfl (wn_none rfl) rfl rfl HS (fun w' hS' => y_build (cells := #[.slice A9 (p.keep.take 100).length c9, .int .i64 p.torn, .int .i64 p.cut]) rfl rfl (by kernel_rfl)) ?_
  obtain ⟨_, _, e9, _, _, hr9, hA9⟩ := own_form ho9
  injection e9 with e1 _ e2
  subst e1; subst e2
  refine sxo_call 16 (some 178) (by kernel_rfl) rfl (wn_none rfl) rfl rfl (yc_call rfl rfl Try.call37) (fr w9 R A9 c9 P9.r hr9 (fun _ b off e hb => (P5d.new (hA9 b off e).1).o hb)) ?_
  rintro _ w10 ⟨R10, rfl, t10⟩
  have P10 := P9.stepR t10
  have hb310 := hb39.fr t10.fr og3.o
  have hb2010 := hb209.fr t10.fr og20.o
  have HS := HSm _ hb310 hb2010
  refine ⟨_, rfl, fun _ => HS, ?_⟩
  refine sxo_y 17 19 (by kernel_rfl) (fun c a t v w h => by cases t <;> exact h) (by kernel_rfl) rfl (by kernel_rfl) (by kernel_rfl) rfl (wn_none rfl) rfl rfl HS (fun w' hS' => y_eql_t rfl rfl rfl (by omega)) ?_
  refine sxo_y 18 19 (by kernel_rfl) (fun c a t v w h => by cases t <;> exact h) (by kernel_rfl) rfl (by kernel_rfl) (by kernel_rfl) rfl (wn_none rfl) rfl rfl HS (fun w' hS' => yp rfl) ?_
  refine sxo_done (by kernel_rfl) ?_
  have hz9 := hf9.size
  have hok10 : w10.ownsRow w.heap.size 4 1 (.slice kA3 (p.keep.take 100).length kc3) (p.keep.take 100).length (boolsV (p.keep.take 100)) := ownN_fr (ownN_fr hok hf9 hgk) t10.fr (fun k hk => (hoffk k hk).o)
  have hoff10 : ∀ g, (Value.slice kA3 (p.keep.take 100).length kc3).ownBlock = some g → Off L6 R10 s' g := fun g hg => (hoff6 g hg).stepR (by have := (ho5.lt g hg).2; omega) t10
  rw [← eg, ← t10.gd]
  refine qx_seq ?_
  refine sx_seq ?_
  refine sx_seq ?_
  refine sx_region ?_
  refine sxl_y (wn_none rfl) rfl rfl (yp rfl) ?_
  refine sxl_nil ?_
  refine qx_seq ?_
  refine sx_block ?_
  refine sx_loop (fun e wr m => ∃ (k : Nat) (ks : List Bool), e = [(22, .int .i64 (k : Int)), (9, .slice kA3 (p.keep.take 100).length kc3), (21, .bool true), (1, .pointer (some ⟨L6.gd, 0, none⟩)), (2, .pointer (some ⟨R10.gd, 0, none⟩))] ∧ k ≤ (p.keep.take 100).length ∧ ks.length = (p.keep.take 100).length ∧ wr.ownsRow w.heap.size 4 1 (.slice kA3 (p.keep.take 100).length kc3) (p.keep.take 100).length (boolsV ks) ∧ Pair w0 wr L6 R10 s' s' ∧ m = (p.keep.take 100).length - k) ⟨0, p.keep.take 100, rfl, Nat.zero_le _, rfl, hok10, P10, rfl⟩ ⟨rfl, rfl, rfl, rfl, rfl, trivial⟩ ?_
  rintro _ wr _ ⟨k, ks, rfl, hk, hks, ho, P, rfl⟩
  by_cases hlt : k < (p.keep.take 100).length
  · obtain ⟨g, cap, rest, ev, hgb, hcp, hcm, hbg, hlen⟩ := ownN_blk ho (by omega)
    injection ev with e1 _ e2
    subst e1; subst e2
    have hkk : ks[k]? = some ks[k] := List.getElem?_eq_getElem (by omega)
    have ck : Cell wr.heap g (0 + k * 1) (.bool ks[k]) := hbg.c _ (by rw [Nat.zero_add, Nat.mul_one, List.getElem?_append_left (by rw [boolsV_length]; omega), boolsV, List.getElem?_map, hkk]; rfl)
    refine sx_seq ?_
    refine sx_seq ?_
    refine sx_region ?_
    refine sxl_y (wn_none rfl) rfl rfl (yp rfl) ?_
    refine sxl_y (wn_none rfl) rfl rfl (yp rfl) ?_
    refine sxl_y (wn_none rfl) rfl rfl (y_len rfl rfl (sl rfl)) ?_
    refine sxl_y (wn_none rfl) rfl rfl (y_lss_t rfl rfl rfl (by omega)) ?_
    refine sxl_nil ?_
    refine qx_seq ?_
    refine sx_true rfl ?_
    refine sx_skip ?_
    refine qx_seq ?_
    refine sx_seq ?_
    refine sx_block ?_
    refine sx_region ?_
    refine sxl_y (wn_none rfl) rfl rfl (yp rfl) ?_
    refine sxl_y (wn_none rfl) rfl rfl (yp rfl) ?_
    refine sxl_y (wn_none rfl) rfl rfl (yp rfl) ?_
    refine sxl_y (wn_none rfl) rfl rfl (yp rfl) ?_
    refine sxl_y (wn_none rfl) rfl rfl (y_indexN rfl rfl rfl (sl rfl) (by omega)) ?_
    refine sxl_y (wn_none rfl) rfl rfl (y_load rfl rfl (sc rfl) (by assumption)) ?_
    refine sxl_y (wn_none rfl) rfl rfl (yp rfl) ?_
    refine sxl_y (wn_none rfl) rfl rfl (y_indexN rfl rfl rfl (sl rfl) (by omega)) ?_
    refine sxl_does none (wn_none rfl) rfl rfl (fun ρ hρ => does_store1 4 (.tmp 193) (.tmp 192) rfl g k 4 _ (.bool (!ks[k])) (by rw [hρ _ _ rfl]; simp) (hρ _ _ rfl) rfl hbg (by kernel_rfl) (by rw [List.length_append, boolsV_length]; omega) rfl) ?_
    rintro _ w8 ⟨rfl, hb8, hf8⟩
    rw [List.set_append_left _ _ (by rw [boolsV_length]; omega), boolsV_set] at hb8
    have P8 := P.off (hoff10 g rfl) (by omega) hf8
    have o8 : w8.ownsRow w.heap.size 4 1 (.slice (some ⟨g, 0, none⟩) (p.keep.take 100).length kc3) (p.keep.take 100).length (boolsV (ks.set k (!ks[k]))) := ownN_of_blk hb8 hgb hcp hcm (by rw [← hlen, List.length_append, List.length_append, boolsV_length, boolsV_length, List.length_set]) (by rw [boolsV_length, List.length_set]; omega)
    refine sxl_nil ?_
    refine qx_block_normal ?_
    refine qx_seq ?_
    refine sx_region ?_
    refine sxl_y (wn_none rfl) rfl rfl (yp rfl) ?_
    refine sxl_y (wn_none rfl) rfl rfl (y_add rfl rfl rfl (by omega)) ?_
    refine sxl_y (wn_none rfl) rfl rfl (yp rfl) ?_
    refine sxl_nil ?_
    exact qx_again [(22, .int .i64 ((k + 1 : Nat) : Int)), (9, .slice (some ⟨g, 0, none⟩) (p.keep.take 100).length kc3), (21, .bool true), (1, .pointer (some ⟨L6.gd, 0, none⟩)), (2, .pointer (some ⟨R10.gd, 0, none⟩))] ((p.keep.take 100).length - (k + 1)) ⟨k + 1, ks.set k (!ks[k]), rfl, hlt, by rw [List.length_set]; exact hks, o8, P8, rfl⟩ (by omega) ⟨rfl, rfl, rfl, rfl, rfl, trivial⟩
  · refine sx_seq ?_
    refine sx_seq ?_
    refine sx_region ?_
    refine sxl_y (wn_none rfl) rfl rfl (yp rfl) ?_
    refine sxl_y (wn_none rfl) rfl rfl (yp rfl) ?_
    refine sxl_y (wn_none rfl) rfl rfl (y_len rfl rfl (sl rfl)) ?_
    refine sxl_y (wn_none rfl) rfl rfl (y_lss_f rfl rfl rfl (by omega)) ?_
    refine sxl_nil ?_
    refine qx_seq ?_
    refine sx_false rfl ?_
    refine sx_exit ?_
    refine qx_then_exit ?_
    refine qx_then_exit ?_
    refine qx_block_hit ?_
    refine qx_seq ?_
    refine sx_seq ?_
    refine sx_region ?_
    refine sxl_y (wn_none rfl) rfl rfl (yp rfl) ?_
    refine sxl_y (wn_none rfl) rfl rfl (yp rfl) ?_
    refine sxl_y (wn_none rfl) rfl rfl (yp rfl) ?_
    refine sxl_y (wn_none rfl) rfl rfl (yp rfl) ?_
    refine sxl_y (wn_none rfl) rfl rfl (yp rfl) ?_
    refine sxl_y (wn_none rfl) rfl rfl (yp rfl) ?_
    refine sxl_nil ?_
    refine qx_seq ?_
    refine sx_ret ?_
    refine qx_block_ret ?_
    refine qx_then_ret ?_
    refine qx_ret3 rfl rfl rfl rfl ?_
    exact ⟨L6, R10, s', rfl, P, co', hw', hd'⟩
end Go.Proofs.Ytbfeailalhddgaa
