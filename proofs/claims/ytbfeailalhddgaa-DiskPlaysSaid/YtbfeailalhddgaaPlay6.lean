/- DiskPlays: the law's helper do, a theorem for each kind of step. -/
import Derived.Test.YtbfeailalhddgaaPlay5
namespace Go.Proofs.Ytbfeailalhddgaa
open Go.RowKit

set_option maxHeartbeats 8000000 in
theorem do_3 (p : St) (w0 w : World) (L : DL) (R : RL) (s : DS) (h : Pair w0 w L R s s) (co : s.dead = false → Coh s) (hp0 : p.Ok w0) (hwm : s.waits.length ≤ 80) (_hdm : s.done ≤ 1000) (_hat : -9223372036854775808 ≤ p.at_ ∧ p.at_ ≤ 9223372036854775807) (hkind : p.kind = 3) :
    Calls Try.prog 22 #[.agg p.cells.toArray, .pointer (some ⟨L.gd, 0, none⟩), .pointer (some ⟨R.gd, 0, none⟩)] w (DoPost w0 s) := by
  refine sx_enter (vs := [_, _, _]) Try.func22 rfl Try.ntmps22 rfl ?_
  refine sx_seq ?_
  refine sx_region ?_
  refine sxl_does (some 3) (wn_none rfl) rfl rfl (fun ρ hρ => does_box 54 (.tmp 0) rfl p.cells (by rw [hρ _ _ rfl]; rfl)) ?_
  rintro _ w1 ⟨g3, rfl, hg3, hg3', hb1, hf1⟩
  refine sxl_y (wn_none rfl) rfl rfl (yp rfl) ?_
  refine sxl_y (wn_none rfl) rfl rfl (yp rfl) ?_
  refine sxl_y (wn_none rfl) rfl rfl (yp rfl) ?_
  refine sxl_nil ?_
  refine qx_seq ?_
  refine sx_seq ?_
  refine sx_region ?_
  refine sxl_does (some 29) (wn_none rfl) rfl rfl (fun ρ hρ => does_slice0 23 4 1 rfl Try.underlying23 (by kernel_rfl)) ?_
  rintro _ w2 ⟨g2, rfl, hg2, hg2', -, hf2, ho2⟩
  have hz1 := hf1.size
  have hz0 := h.fr.size
  have ho2 := ho2 w.heap.size (by omega)
  have hb2 := hb1.fr0 hf2
  have d4 : Cell w2.heap g3 4 (.slice p.kA p.keep.length p.kc) := hb2.c 4 rfl
  have hF2 := hf1.then0 hf2
  have hmin := min_nat p.keep.length 100
  have hkl := hp0.kl
  have hkm := hp0.km
  refine sxl_y (wn_none rfl) rfl rfl (yp rfl) ?_
  refine sxl_y (wn_none rfl) rfl rfl (y_load rfl rfl (sc rfl) (by assumption)) ?_
  refine sxl_y (wn_none rfl) rfl rfl (yp rfl) ?_
  refine sxl_y (wn_none rfl) rfl rfl (y_load rfl rfl (sc rfl) (by assumption)) ?_
  refine sxl_y (wn_none rfl) rfl rfl (y_len rfl rfl (sl rfl)) ?_
  refine sxl_y (wn_none rfl) rfl rfl (y_min rfl rfl rfl) ?_
  refine sxl_y (wn_none rfl) rfl rfl (y_sliceTo rfl rfl rfl (sl rfl) (by omega)) ?_
  rw [show (100 : Int) = ((100 : Nat) : Int) from rfl, hmin]
  have ht : (boolsV p.keep).take (min p.keep.length 100) = boolsV (p.keep.take 100) := by
    unfold boolsV
    rw [← List.map_take]
    congr 1
    rcases Nat.le_total p.keep.length 100 with hh | hh
    · rw [Nat.min_eq_left hh, List.take_of_length_le (Nat.le_refl _), List.take_of_length_le hh]
    · rw [Nat.min_eq_right hh]
  refine sxl_does (some 37) (wn_none rfl) rfl rfl (fun ρ hρ => does_append (.tmp 29) (.tmp 36) 23 rfl w.heap.size 4 (.bool false) 1 Try.underlying23 (by kernel_rfl) rfl _ 0 [] (hρ _ _ rfl) ho2 p.kA (min p.keep.length 100) p.kc (boolsV (p.keep.take 100)) (hρ _ _ rfl) (by
    have := ((hp0.fr0 (h.fr.then0 hF2)).k.takeN (k := min p.keep.length 100) (Nat.min_le_left _ _))
    rwa [ht] at this) (bools_one _) (by unfold maxLen; omega) (by omega) hF2.size) ?_
  rintro v3 w3 ⟨ho3, hg3v, hv3⟩
  rw [Nat.zero_add, List.nil_append] at ho3
  have hl3 : min p.keep.length 100 = (p.keep.take 100).length := by rw [List.length_take, Nat.min_comm]
  rw [hl3] at ho3
  have hF3 : Fr0 w w3 := hF2.app ho2 (Nat.le_refl _) hg3v
  have hf23 : Fr (fun k => k = g2) w2 w3 := Fr.grown (S := fun k => k = g2) Fr.refl hg3v (fun k e _ => by injection e with e; exact e.symm)
  have hb3 := hb2.fr hf23 (by omega)
  have P3 := h.fr0 hF3
  have hp3 := hp0.fr0 P3.fr
  obtain ⟨kA3, kc3, rfl, hkN⟩ := own_form0 ho3
  clear ho2 hg3v hv3 hf23 hb2 hb1 d4 hF2 hmin ht
  have k0 : Cell w3.heap g3 0 (.int .i64 p.kind) := hb3.c 0 rfl
  have k1 : Cell w3.heap g3 1 (.int .i64 p.at_) := hb3.c 1 rfl
  have k4 : Cell w3.heap g3 4 (.slice p.kA p.keep.length p.kc) := hb3.c 4 rfl
  have k5 : Cell w3.heap g3 5 (.int .i64 p.torn) := hb3.c 5 rfl
  have k6 : Cell w3.heap g3 6 (.int .i64 p.cut) := hb3.c 6 rfl
  have hz3 := hF3.size
  obtain ⟨s', code, fd, fr, co', hke, hw', hd'⟩ := both_crash p.keep p.torn p.cut s co (by omega)
  obtain ⟨_, _, ek, _, hkr, hkb, _⟩ := ownN_form ho3
  injection ek with e1 _ e2
  subst e1; subst e2
  have og3 : Off L R s g3 := h.new hg3
  have hg3l := hb3.lt
  refine sxl_y (wn_none rfl) rfl rfl (yp rfl) ?_
  refine sxl_nil ?_
  refine qx_seq ?_
  refine sx_seq ?_
  refine sx_seq ?_
  refine sx_region ?_
  refine sxl_y (wn_none rfl) rfl rfl (yp rfl) ?_
  refine sxl_y (wn_none rfl) rfl rfl (y_load rfl rfl (sc rfl) (by assumption)) ?_
  refine sxl_nil ?_
  refine qx_seq ?_
  refine sx_block ?_
  refine sx_seq ?_
  refine sx_region ?_
  refine sxl_y (wn_none rfl) rfl rfl (y_eql_f rfl rfl rfl (by omega)) ?_
  refine sxl_y (wn_none rfl) rfl rfl (yp rfl) ?_
  refine sxl_nil ?_
  refine qx_seq ?_
  refine sx_false rfl ?_
  refine sx_seq ?_
  refine sx_region ?_
  refine sxl_y (wn_none rfl) rfl rfl (y_eql_f rfl rfl rfl (by omega)) ?_
  refine sxl_y (wn_none rfl) rfl rfl (yp rfl) ?_
  refine sxl_nil ?_
  refine qx_seq ?_
  refine sx_false rfl ?_
  refine sx_seq ?_
  refine sx_region ?_
  refine sxl_y (wn_none rfl) rfl rfl (y_eql_f rfl rfl rfl (by omega)) ?_
  refine sxl_y (wn_none rfl) rfl rfl (yp rfl) ?_
  refine sxl_nil ?_
  refine qx_seq ?_
  refine sx_false rfl ?_
  refine sx_seq ?_
  refine sx_region ?_
  refine sxl_y (wn_none rfl) rfl rfl (y_eql_t rfl rfl rfl (by omega)) ?_
  refine sxl_y (wn_none rfl) rfl rfl (yp rfl) ?_
  refine sxl_nil ?_
  refine qx_seq ?_
  refine sx_true rfl ?_
  refine sx_seq ?_
  refine sx_any 23 (fun w' => Cell w'.heap g3 4 (.slice p.kA p.keep.length p.kc) ∧ Cell w'.heap g3 5 (.int .i64 p.torn) ∧ Cell w'.heap g3 6 (.int .i64 p.cut)) hmix ?_
  have HS : Cell w3.drew.heap g3 4 (.slice p.kA p.keep.length p.kc) ∧ Cell w3.drew.heap g3 5 (.int .i64 p.torn) ∧ Cell w3.drew.heap g3 6 (.int .i64 p.cut) := ⟨k4, k5, k6⟩
  refine sxo_y 0 23 (by kernel_rfl) (fun c a t v w h => by cases t <;> exact h) (by kernel_rfl) rfl (by kernel_rfl) (by kernel_rfl) rfl (wn_none rfl) rfl rfl HS (fun w' hS' => yp rfl) ?_
  refine sxo_y 1 23 (by kernel_rfl) (fun c a t v w h => by cases t <;> exact h) (by kernel_rfl) rfl (by kernel_rfl) (by kernel_rfl) rfl (wn_none rfl) rfl rfl HS (fun w' hS' => yp rfl) ?_
  refine sxo_y 2 23 (by kernel_rfl) (fun c a t v w h => by cases t <;> exact h) (by kernel_rfl) rfl (by kernel_rfl) (by kernel_rfl) rfl (wn_none rfl) rfl rfl HS (fun w' hS' => yp rfl) ?_
  refine sxo_y 3 23 (by kernel_rfl) (fun c a t v w h => by cases t <;> exact h) (by kernel_rfl) rfl (by kernel_rfl) (by kernel_rfl) rfl (wn_none rfl) rfl rfl HS (fun w' hS' => yp rfl) ?_
  refine sxo_y 4 23 (by kernel_rfl) (fun c a t v w h => by cases t <;> exact h) (by kernel_rfl) rfl (by kernel_rfl) (by kernel_rfl) rfl (wn_none rfl) rfl rfl HS (fun w' hS' => yp rfl) ?_
  refine sxo_y 5 23 (by kernel_rfl) (fun c a t v w h => by cases t <;> exact h) (by kernel_rfl) rfl (by kernel_rfl) (by kernel_rfl) rfl (wn_none rfl) rfl rfl HS (fun w' hS' => y_load rfl rfl (sc rfl) (by obtain ⟨s1, s2, s3⟩ := hS'; assumption)) ?_
  refine sxo_y 6 23 (by kernel_rfl) (fun c a t v w h => by cases t <;> exact h) (by kernel_rfl) rfl (by kernel_rfl) (by kernel_rfl) rfl (wn_none rfl) rfl rfl HS (fun w' hS' => yp rfl) ?_
  refine sxo_y 7 23 (by kernel_rfl) (fun c a t v w h => by cases t <;> exact h) (by kernel_rfl) rfl (by kernel_rfl) (by kernel_rfl) rfl (wn_none rfl) rfl rfl HS (fun w' hS' => y_load rfl rfl (sc rfl) (by obtain ⟨s1, s2, s3⟩ := hS'; assumption)) ?_
  refine sxo_y 8 23 (by kernel_rfl) (fun c a t v w h => by cases t <;> exact h) (by kernel_rfl) rfl (by kernel_rfl) (by kernel_rfl) rfl (wn_none rfl) rfl rfl HS (fun w' hS' => y_build (cells := #[.slice kA3 (p.keep.take 100).length kc3, .int .i64 p.torn, .int .i64 p.cut]) rfl rfl (by kernel_rfl)) ?_
  refine sxo_y 10 23 (by kernel_rfl) (fun c a t v w h => by cases t <;> exact h) (by kernel_rfl) rfl (by kernel_rfl) (by kernel_rfl) rfl (wn_none rfl) rfl rfl HS (fun w' hS' => yp rfl) ?_
  refine sxo_y 11 23 (by kernel_rfl) (fun c a t v w h => by cases t <;> exact h) (by kernel_rfl) rfl (by kernel_rfl) (by kernel_rfl) rfl (wn_none rfl) rfl rfl HS (fun w' hS' => yp rfl) ?_
  refine sxo_y 12 23 (by kernel_rfl) (fun c a t v w h => by cases t <;> exact h) (by kernel_rfl) rfl (by kernel_rfl) (by kernel_rfl) rfl (wn_none rfl) rfl rfl HS (fun w' hS' => y_load rfl rfl (sc rfl) (by obtain ⟨s1, s2, s3⟩ := hS'; assumption)) ?_
  refine sxo_y 13 23 (by kernel_rfl) (fun c a t v w h => by cases t <;> exact h) (by kernel_rfl) rfl (by kernel_rfl) (by kernel_rfl) rfl (wn_none rfl) rfl rfl HS (fun w' hS' => yp rfl) ?_
  refine sxo_y 14 23 (by kernel_rfl) (fun c a t v w h => by cases t <;> exact h) (by kernel_rfl) rfl (by kernel_rfl) (by kernel_rfl) rfl (wn_none rfl) rfl rfl HS (fun w' hS' => y_load rfl rfl (sc rfl) (by obtain ⟨s1, s2, s3⟩ := hS'; assumption)) ?_
  refine sxo_y 15 23 (by kernel_rfl) (fun c a t v w h => by cases t <;> exact h) (by kernel_rfl) rfl (by kernel_rfl) (by kernel_rfl) rfl (wn_none rfl) rfl rfl HS (fun w' hS' => yp rfl) ?_
  refine sxo_y 16 23 (by kernel_rfl) (fun c a t v w h => by cases t <;> exact h) (by kernel_rfl) rfl (by kernel_rfl) (by kernel_rfl) rfl (wn_none rfl) rfl rfl HS (fun w' hS' => y_load rfl rfl (sc rfl) (by obtain ⟨s1, s2, s3⟩ := hS'; assumption)) ?_
  refine sxo_y 17 23 (by kernel_rfl) (fun c a t v w h => by cases t <;> exact h) (by kernel_rfl) rfl (by kernel_rfl) (by kernel_rfl) rfl (wn_none rfl) rfl rfl HS (fun w' hS' => y_build (cells := #[.slice p.kA p.keep.length p.kc, .int .i64 p.torn, .int .i64 p.cut]) rfl rfl (by kernel_rfl)) ?_
  have P3d := P3.fr0 (w' := w3.drew) Fr.refl.drew
  refine sxo_call 9 (some 143) (by kernel_rfl) rfl (wn_none rfl) rfl rfl (yc_call rfl rfl Try.call12) (fd w3.drew L kA3 kc3 P3d.d (by simpa using hkr.fr0 (w' := w3.drew) Fr.refl.drew) (fun _ b off e hb => (h.new (hkb b off e).1).l hb)) ?_
  rintro _ w4 ⟨L4, rfl, t4⟩
  have P4 := P3d.stepD t4 hke
  have HS4 : Cell w4.heap g3 4 (.slice p.kA p.keep.length p.kc) ∧ Cell w4.heap g3 5 (.int .i64 p.torn) ∧ Cell w4.heap g3 6 (.int .i64 p.cut) := ⟨HS.1.fr t4.fr og3.l, HS.2.1.fr t4.fr og3.l, HS.2.2.fr t4.fr og3.l⟩
  refine ⟨_, rfl, fun _ => HS4, ?_⟩
  refine sxo_call 18 (some 152) (by kernel_rfl) rfl (wn_none rfl) rfl rfl (yc_call rfl rfl Try.call36) (fr w4 R p.kA p.kc P4.r (hp0.fr0 P4.fr).k (fun hq b off e hb => by have := hp0.k.lt hq b off e; have := P4.oge b hb; omega)) ?_
  rintro _ w5 ⟨R5, rfl, t5⟩
  have P5 := P4.stepR t5
  have HS : Cell w5.heap g3 4 (.slice p.kA p.keep.length p.kc) ∧ Cell w5.heap g3 5 (.int .i64 p.torn) ∧ Cell w5.heap g3 6 (.int .i64 p.cut) := ⟨HS4.1.fr t5.fr og3.o, HS4.2.1.fr t5.fr og3.o, HS4.2.2.fr t5.fr og3.o⟩
  refine ⟨_, rfl, fun _ => HS, ?_⟩
  refine sxo_y 20 23 (by kernel_rfl) (fun c a t v w h => by cases t <;> exact h) (by kernel_rfl) rfl (by kernel_rfl) (by kernel_rfl) rfl (wn_none rfl) rfl rfl HS (fun w' hS' => yp rfl) ?_
  refine sxo_y 21 23 (by kernel_rfl) (fun c a t v w h => by cases t <;> exact h) (by kernel_rfl) rfl (by kernel_rfl) (by kernel_rfl) rfl (wn_none rfl) rfl rfl HS (fun w' hS' => yp rfl) ?_
  refine sxo_y 19 23 (by kernel_rfl) (fun c a t v w h => by cases t <;> exact h) (by kernel_rfl) rfl (by kernel_rfl) (by kernel_rfl) rfl (wn_none rfl) rfl rfl HS (fun w' hS' => y_eql_t rfl rfl rfl (by omega)) ?_
  refine sxo_y 22 23 (by kernel_rfl) (fun c a t v w h => by cases t <;> exact h) (by kernel_rfl) rfl (by kernel_rfl) (by kernel_rfl) rfl (wn_none rfl) rfl rfl HS (fun w' hS' => yp rfl) ?_
  refine sxo_done (by kernel_rfl) ?_
  rw [← t4.gd, ← t5.gd]
  refine qx_seq ?_
  refine sx_ret ?_
  refine qx_block_ret ?_
  refine qx_then_ret ?_
  refine qx_ret3 rfl rfl rfl rfl ?_
  exact ⟨L4, R5, s', rfl, P5, co', hw', hd'⟩
set_option maxHeartbeats 8000000 in
theorem do_5 (p : St) (w0 w : World) (L : DL) (R : RL) (s : DS) (h : Pair w0 w L R s s) (co : s.dead = false → Coh s) (hp0 : p.Ok w0) (hwm : s.waits.length ≤ 80) (_hdm : s.done ≤ 1000) (_hat : -9223372036854775808 ≤ p.at_ ∧ p.at_ ≤ 9223372036854775807) (hkind : p.kind = 5) :
    Calls Try.prog 22 #[.agg p.cells.toArray, .pointer (some ⟨L.gd, 0, none⟩), .pointer (some ⟨R.gd, 0, none⟩)] w (DoPost w0 s) := by
  refine sx_enter (vs := [_, _, _]) Try.func22 rfl Try.ntmps22 rfl ?_
  refine sx_seq ?_
  refine sx_region ?_
  refine sxl_does (some 3) (wn_none rfl) rfl rfl (fun ρ hρ => does_box 54 (.tmp 0) rfl p.cells (by rw [hρ _ _ rfl]; rfl)) ?_
  rintro _ w1 ⟨g3, rfl, hg3, hg3', hb1, hf1⟩
  refine sxl_y (wn_none rfl) rfl rfl (yp rfl) ?_
  refine sxl_y (wn_none rfl) rfl rfl (yp rfl) ?_
  refine sxl_y (wn_none rfl) rfl rfl (yp rfl) ?_
  refine sxl_nil ?_
  refine qx_seq ?_
  refine sx_seq ?_
  refine sx_region ?_
  refine sxl_does (some 29) (wn_none rfl) rfl rfl (fun ρ hρ => does_slice0 23 4 1 rfl Try.underlying23 (by kernel_rfl)) ?_
  rintro _ w2 ⟨g2, rfl, hg2, hg2', -, hf2, ho2⟩
  have hz1 := hf1.size
  have hz0 := h.fr.size
  have ho2 := ho2 w.heap.size (by omega)
  have hb2 := hb1.fr0 hf2
  have d4 : Cell w2.heap g3 4 (.slice p.kA p.keep.length p.kc) := hb2.c 4 rfl
  have hF2 := hf1.then0 hf2
  have hmin := min_nat p.keep.length 100
  have hkl := hp0.kl
  have hkm := hp0.km
  refine sxl_y (wn_none rfl) rfl rfl (yp rfl) ?_
  refine sxl_y (wn_none rfl) rfl rfl (y_load rfl rfl (sc rfl) (by assumption)) ?_
  refine sxl_y (wn_none rfl) rfl rfl (yp rfl) ?_
  refine sxl_y (wn_none rfl) rfl rfl (y_load rfl rfl (sc rfl) (by assumption)) ?_
  refine sxl_y (wn_none rfl) rfl rfl (y_len rfl rfl (sl rfl)) ?_
  refine sxl_y (wn_none rfl) rfl rfl (y_min rfl rfl rfl) ?_
  refine sxl_y (wn_none rfl) rfl rfl (y_sliceTo rfl rfl rfl (sl rfl) (by omega)) ?_
  rw [show (100 : Int) = ((100 : Nat) : Int) from rfl, hmin]
  have ht : (boolsV p.keep).take (min p.keep.length 100) = boolsV (p.keep.take 100) := by
    unfold boolsV
    rw [← List.map_take]
    congr 1
    rcases Nat.le_total p.keep.length 100 with hh | hh
    · rw [Nat.min_eq_left hh, List.take_of_length_le (Nat.le_refl _), List.take_of_length_le hh]
    · rw [Nat.min_eq_right hh]
  refine sxl_does (some 37) (wn_none rfl) rfl rfl (fun ρ hρ => does_append (.tmp 29) (.tmp 36) 23 rfl w.heap.size 4 (.bool false) 1 Try.underlying23 (by kernel_rfl) rfl _ 0 [] (hρ _ _ rfl) ho2 p.kA (min p.keep.length 100) p.kc (boolsV (p.keep.take 100)) (hρ _ _ rfl) (by
    have := ((hp0.fr0 (h.fr.then0 hF2)).k.takeN (k := min p.keep.length 100) (Nat.min_le_left _ _))
    rwa [ht] at this) (bools_one _) (by unfold maxLen; omega) (by omega) hF2.size) ?_
  rintro v3 w3 ⟨ho3, hg3v, hv3⟩
  rw [Nat.zero_add, List.nil_append] at ho3
  have hl3 : min p.keep.length 100 = (p.keep.take 100).length := by rw [List.length_take, Nat.min_comm]
  rw [hl3] at ho3
  have hF3 : Fr0 w w3 := hF2.app ho2 (Nat.le_refl _) hg3v
  have hf23 : Fr (fun k => k = g2) w2 w3 := Fr.grown (S := fun k => k = g2) Fr.refl hg3v (fun k e _ => by injection e with e; exact e.symm)
  have hb3 := hb2.fr hf23 (by omega)
  have P3 := h.fr0 hF3
  have hp3 := hp0.fr0 P3.fr
  obtain ⟨kA3, kc3, rfl, hkN⟩ := own_form0 ho3
  clear ho2 hg3v hv3 hf23 hb2 hb1 d4 hF2 hmin ht
  have k0 : Cell w3.heap g3 0 (.int .i64 p.kind) := hb3.c 0 rfl
  have k1 : Cell w3.heap g3 1 (.int .i64 p.at_) := hb3.c 1 rfl
  have k4 : Cell w3.heap g3 4 (.slice p.kA p.keep.length p.kc) := hb3.c 4 rfl
  have k5 : Cell w3.heap g3 5 (.int .i64 p.torn) := hb3.c 5 rfl
  have k6 : Cell w3.heap g3 6 (.int .i64 p.cut) := hb3.c 6 rfl
  have hz3 := hF3.size
  cases hd : s.dead with
  | false =>
    refine sxl_y (wn_none rfl) rfl rfl (yp rfl) ?_
    refine sxl_nil ?_
    refine qx_seq ?_
    refine sx_seq ?_
    refine sx_seq ?_
    refine sx_region ?_
    refine sxl_y (wn_none rfl) rfl rfl (yp rfl) ?_
    refine sxl_y (wn_none rfl) rfl rfl (y_load rfl rfl (sc rfl) (by assumption)) ?_
    refine sxl_nil ?_
    refine qx_seq ?_
    refine sx_block ?_
    refine sx_seq ?_
    refine sx_region ?_
    refine sxl_y (wn_none rfl) rfl rfl (y_eql_f rfl rfl rfl (by omega)) ?_
    refine sxl_y (wn_none rfl) rfl rfl (yp rfl) ?_
    refine sxl_nil ?_
    refine qx_seq ?_
    refine sx_false rfl ?_
    refine sx_seq ?_
    refine sx_region ?_
    refine sxl_y (wn_none rfl) rfl rfl (y_eql_f rfl rfl rfl (by omega)) ?_
    refine sxl_y (wn_none rfl) rfl rfl (yp rfl) ?_
    refine sxl_nil ?_
    refine qx_seq ?_
    refine sx_false rfl ?_
    refine sx_seq ?_
    refine sx_region ?_
    refine sxl_y (wn_none rfl) rfl rfl (y_eql_f rfl rfl rfl (by omega)) ?_
    refine sxl_y (wn_none rfl) rfl rfl (yp rfl) ?_
    refine sxl_nil ?_
    refine qx_seq ?_
    refine sx_false rfl ?_
    refine sx_seq ?_
    refine sx_region ?_
    refine sxl_y (wn_none rfl) rfl rfl (y_eql_f rfl rfl rfl (by omega)) ?_
    refine sxl_y (wn_none rfl) rfl rfl (yp rfl) ?_
    refine sxl_nil ?_
    refine qx_seq ?_
    refine sx_false rfl ?_
    refine sx_seq ?_
    refine sx_region ?_
    refine sxl_y (wn_none rfl) rfl rfl (y_eql_f rfl rfl rfl (by omega)) ?_
    refine sxl_y (wn_none rfl) rfl rfl (yp rfl) ?_
    refine sxl_nil ?_
    refine qx_seq ?_
    refine sx_false rfl ?_
    refine sx_seq ?_
    refine sx_region ?_
    refine sxl_y (wn_none rfl) rfl rfl (y_eql_t rfl rfl rfl (by omega)) ?_
    refine sxl_y (wn_none rfl) rfl rfl (yp rfl) ?_
    refine sxl_nil ?_
    refine qx_seq ?_
    refine sx_true rfl ?_
    refine sx_seq ?_
    refine sx_region ?_
    refine sxl_y (wn_none rfl) rfl rfl (yp rfl) ?_
    refine sxl_pure (wn_none rfl) rfl rfl (yc_call rfl rfl Try.call14) (reopen_live w3 L s P3.d hd) ?_
    refine sxl_y (wn_none rfl) rfl rfl (yp rfl) ?_
    refine sxl_y (wn_none rfl) rfl rfl (yp rfl) ?_
    refine sxl_y (wn_none rfl) rfl rfl (yp rfl) ?_
    refine sxl_y (wn_none rfl) rfl rfl (yp rfl) ?_
    refine sxl_y (wn_none rfl) rfl rfl (yp rfl) ?_
    refine sxl_nil ?_
    refine qx_seq ?_
    refine sx_seq ?_
    refine sx_region ?_
    refine sxl_y (wn_none rfl) rfl rfl (yp rfl) ?_
    refine sxl_pure (wn_none rfl) rfl rfl (yc_call rfl rfl Try.call38) (rreopen_live w3 R s P3.r hd) ?_
    refine sxl_y (wn_none rfl) rfl rfl (yp rfl) ?_
    refine sxl_y (wn_none rfl) rfl rfl (yp rfl) ?_
    refine sxl_y (wn_none rfl) rfl rfl (yp rfl) ?_
    refine sxl_y (wn_none rfl) rfl rfl (yp rfl) ?_
    refine sxl_y (wn_none rfl) rfl rfl (yp rfl) ?_
    refine sxl_nil ?_
    refine qx_seq ?_
    refine sx_seq ?_
    refine sx_seq ?_
    refine sx_region ?_
    refine sxl_y (wn_none rfl) rfl rfl (yp rfl) ?_
    refine sxl_y (wn_none rfl) rfl rfl (yp rfl) ?_
    refine sxl_y (wn_none rfl) rfl rfl (y_neq_f rfl rfl rfl (by omega)) ?_
    refine sxl_y (wn_none rfl) rfl rfl (yp rfl) ?_
    refine sxl_y (wn_on rfl rfl rfl) rfl rfl (yp rfl) ?_
    refine sxl_y (wn_on rfl rfl rfl) rfl rfl (y_eqlNil rfl rfl rfl (pt rfl)) ?_
    refine sxl_y (wn_on rfl rfl rfl) rfl rfl (yp rfl) ?_
    refine sxl_y (wn_on rfl rfl rfl) rfl rfl (y_eqlNil rfl rfl rfl (pt rfl)) ?_
    refine sxl_y (wn_on rfl rfl rfl) rfl rfl (y_neqBool rfl rfl rfl Try.underlying4) ?_
    refine sxl_y (wn_none rfl) rfl rfl (yp rfl) ?_
    refine sxl_y (wn_none rfl) rfl rfl (yp rfl) ?_
    refine sxl_y (wn_on rfl rfl rfl) rfl rfl (yp rfl) ?_
    refine sxl_y (wn_on rfl rfl rfl) rfl rfl (yp rfl) ?_
    refine sxl_call (some 222) (by first | exact wn_none rfl | exact wn_on rfl rfl rfl) rfl rfl (yc_call rfl rfl Try.call23) (told_ok w3 L R s P3.d P3.r co (by omega)) ?_
    rintro _ w4 ⟨rfl, hf4⟩
    refine ⟨_, rfl, ?_⟩
    refine sxl_y (wn_on rfl rfl rfl) rfl rfl (yp rfl) ?_
    refine sxl_y (wn_none rfl) rfl rfl (yp rfl) ?_
    refine sxl_nil ?_
    refine qx_seq ?_
    refine sx_false rfl ?_
    refine sx_skip ?_
    refine qx_seq ?_
    refine sx_seq ?_
    refine sx_seq ?_
    refine sx_region ?_
    refine sxl_y (wn_none rfl) rfl rfl (yp rfl) ?_
    refine sxl_y (wn_none rfl) rfl rfl (y_neq_t rfl rfl rfl (by omega)) ?_
    refine sxl_nil ?_
    refine qx_seq ?_
    refine sx_true rfl ?_
    refine sx_seq ?_
    refine sx_region ?_
    refine sxl_y (wn_none rfl) rfl rfl (yp rfl) ?_
    refine sxl_y (wn_none rfl) rfl rfl (yp rfl) ?_
    refine sxl_y (wn_none rfl) rfl rfl (yp rfl) ?_
    refine sxl_y (wn_none rfl) rfl rfl (yp rfl) ?_
    refine sxl_y (wn_none rfl) rfl rfl (yp rfl) ?_
    refine sxl_nil ?_
    refine qx_seq ?_
    refine sx_ret ?_
    refine qx_then_ret ?_
    refine qx_block_ret ?_
    refine qx_then_ret ?_
    refine qx_ret3 rfl rfl rfl rfl ?_
    exact ⟨L, R, s, rfl, P3.fr0 hf4, co, by omega, by omega⟩
  | true =>
    refine sxl_y (wn_none rfl) rfl rfl (yp rfl) ?_
    refine sxl_nil ?_
    refine qx_seq ?_
    refine sx_seq ?_
    refine sx_seq ?_
    refine sx_region ?_
    refine sxl_y (wn_none rfl) rfl rfl (yp rfl) ?_
    refine sxl_y (wn_none rfl) rfl rfl (y_load rfl rfl (sc rfl) (by assumption)) ?_
    refine sxl_nil ?_
    refine qx_seq ?_
    refine sx_block ?_
    refine sx_seq ?_
    refine sx_region ?_
    refine sxl_y (wn_none rfl) rfl rfl (y_eql_f rfl rfl rfl (by omega)) ?_
    refine sxl_y (wn_none rfl) rfl rfl (yp rfl) ?_
    refine sxl_nil ?_
    refine qx_seq ?_
    refine sx_false rfl ?_
    refine sx_seq ?_
    refine sx_region ?_
    refine sxl_y (wn_none rfl) rfl rfl (y_eql_f rfl rfl rfl (by omega)) ?_
    refine sxl_y (wn_none rfl) rfl rfl (yp rfl) ?_
    refine sxl_nil ?_
    refine qx_seq ?_
    refine sx_false rfl ?_
    refine sx_seq ?_
    refine sx_region ?_
    refine sxl_y (wn_none rfl) rfl rfl (y_eql_f rfl rfl rfl (by omega)) ?_
    refine sxl_y (wn_none rfl) rfl rfl (yp rfl) ?_
    refine sxl_nil ?_
    refine qx_seq ?_
    refine sx_false rfl ?_
    refine sx_seq ?_
    refine sx_region ?_
    refine sxl_y (wn_none rfl) rfl rfl (y_eql_f rfl rfl rfl (by omega)) ?_
    refine sxl_y (wn_none rfl) rfl rfl (yp rfl) ?_
    refine sxl_nil ?_
    refine qx_seq ?_
    refine sx_false rfl ?_
    refine sx_seq ?_
    refine sx_region ?_
    refine sxl_y (wn_none rfl) rfl rfl (y_eql_f rfl rfl rfl (by omega)) ?_
    refine sxl_y (wn_none rfl) rfl rfl (yp rfl) ?_
    refine sxl_nil ?_
    refine qx_seq ?_
    refine sx_false rfl ?_
    refine sx_seq ?_
    refine sx_region ?_
    refine sxl_y (wn_none rfl) rfl rfl (y_eql_t rfl rfl rfl (by omega)) ?_
    refine sxl_y (wn_none rfl) rfl rfl (yp rfl) ?_
    refine sxl_nil ?_
    refine qx_seq ?_
    refine sx_true rfl ?_
    refine sx_seq ?_
    refine sx_region ?_
    refine sxl_y (wn_none rfl) rfl rfl (yp rfl) ?_
    refine sxl_call (some 201) (by first | exact wn_none rfl | exact wn_on rfl rfl rfl) rfl rfl (yc_call rfl rfl Try.call14) (reopen_ok w3 L s P3.d hd) ?_
    rintro _ w4 ⟨L4, rfl, h4, hL4, hf4⟩
    refine ⟨_, rfl, ?_⟩
    refine sxl_y (wn_none rfl) rfl rfl (yp rfl) ?_
    refine sxl_y (wn_none rfl) rfl rfl (yp rfl) ?_
    refine sxl_y (wn_none rfl) rfl rfl (yp rfl) ?_
    refine sxl_y (wn_none rfl) rfl rfl (yp rfl) ?_
    refine sxl_y (wn_none rfl) rfl rfl (yp rfl) ?_
    refine sxl_nil ?_
    refine qx_seq ?_
    refine sx_seq ?_
    refine sx_region ?_
    refine sxl_y (wn_none rfl) rfl rfl (yp rfl) ?_
    refine sxl_call (some 206) (by first | exact wn_none rfl | exact wn_on rfl rfl rfl) rfl rfl (yc_call rfl rfl Try.call38) (rreopen_ok w4 R s (P3.fr0 hf4).r hd) ?_
    rintro _ w5 ⟨R5, rfl, h5, hR5, hR5', hf5⟩
    refine ⟨_, rfl, ?_⟩
    refine sxl_y (wn_none rfl) rfl rfl (yp rfl) ?_
    refine sxl_y (wn_none rfl) rfl rfl (yp rfl) ?_
    refine sxl_y (wn_none rfl) rfl rfl (yp rfl) ?_
    refine sxl_y (wn_none rfl) rfl rfl (yp rfl) ?_
    refine sxl_y (wn_none rfl) rfl rfl (yp rfl) ?_
    refine sxl_nil ?_
    refine qx_seq ?_
    refine sx_seq ?_
    refine sx_seq ?_
    refine sx_region ?_
    refine sxl_y (wn_none rfl) rfl rfl (yp rfl) ?_
    refine sxl_y (wn_none rfl) rfl rfl (yp rfl) ?_
    refine sxl_y (wn_none rfl) rfl rfl (y_neq_f rfl rfl rfl (by omega)) ?_
    refine sxl_y (wn_none rfl) rfl rfl (yp rfl) ?_
    refine sxl_y (wn_on rfl rfl rfl) rfl rfl (yp rfl) ?_
    refine sxl_y (wn_on rfl rfl rfl) rfl rfl (y_eqlNil rfl rfl rfl (pt rfl)) ?_
    refine sxl_y (wn_on rfl rfl rfl) rfl rfl (yp rfl) ?_
    refine sxl_y (wn_on rfl rfl rfl) rfl rfl (y_eqlNil rfl rfl rfl (pt rfl)) ?_
    refine sxl_y (wn_on rfl rfl rfl) rfl rfl (y_neqBool rfl rfl rfl Try.underlying4) ?_
    refine sxl_y (wn_none rfl) rfl rfl (yp rfl) ?_
    refine sxl_y (wn_none rfl) rfl rfl (yp rfl) ?_
    refine sxl_y (wn_on rfl rfl rfl) rfl rfl (yp rfl) ?_
    refine sxl_y (wn_on rfl rfl rfl) rfl rfl (yp rfl) ?_
    have P5 := (P3.fr0 hf4).fr0 hf5
    refine sxl_call (some 222) (by first | exact wn_none rfl | exact wn_on rfl rfl rfl) rfl rfl (yc_call rfl rfl Try.call23) (told_ok w5 L R s P5.d P5.r co (by omega)) ?_
    rintro _ w6 ⟨rfl, hf6⟩
    refine ⟨_, rfl, ?_⟩
    refine sxl_y (wn_on rfl rfl rfl) rfl rfl (yp rfl) ?_
    refine sxl_y (wn_none rfl) rfl rfl (yp rfl) ?_
    refine sxl_nil ?_
    refine qx_seq ?_
    refine sx_false rfl ?_
    refine sx_skip ?_
    refine qx_seq ?_
    refine sx_seq ?_
    refine sx_seq ?_
    refine sx_region ?_
    refine sxl_y (wn_none rfl) rfl rfl (yp rfl) ?_
    refine sxl_y (wn_none rfl) rfl rfl (y_neq_f rfl rfl rfl (by omega)) ?_
    refine sxl_nil ?_
    refine qx_seq ?_
    refine sx_false rfl ?_
    refine sx_skip ?_
    refine qx_seq ?_
    refine sx_seq ?_
    refine sx_region ?_
    refine sxl_y (wn_none rfl) rfl rfl (yp rfl) ?_
    refine sxl_y (wn_none rfl) rfl rfl (yp rfl) ?_
    refine sxl_y (wn_none rfl) rfl rfl (yp rfl) ?_
    refine sxl_y (wn_none rfl) rfl rfl (yp rfl) ?_
    refine sxl_y (wn_none rfl) rfl rfl (yp rfl) ?_
    refine sxl_nil ?_
    refine qx_seq ?_
    refine sx_ret ?_
    refine qx_block_ret ?_
    refine qx_then_ret ?_
    refine qx_ret3 rfl rfl rfl rfl ?_
    have hz4 := hf4.size
    exact ⟨L4, R5, s.reopen, rfl, ⟨P5.fr.then0 hf6, (h4.fr0 hf5).fr0 hf6, h5.fr0 hf6, fun b hb => by have := hL4 b hb; omega, fun b hb => by have := hR5 b hb; omega, fun hq => absurd hq (by simp [DS.reopen])⟩, fun _ => coh_plain rfl rfl, by simp [DS.reopen], by simp [DS.reopen]⟩
end Go.Proofs.Ytbfeailalhddgaa
