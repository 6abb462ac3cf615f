/- DiskPlays: the law's helper do, a theorem for each kind of step. -/
import Derived.Test.YtbfeailalhddgaaPlay7
namespace Go.Proofs.Ytbfeailalhddgaa
open Go.RowKit

/-- Another disk's step leaves a pair as it is. -/
theorem Pair.other {w0 w w' : World} {L La L' : DL} {R : RL} {s sd sd' : DS} (h : Pair w0 w La R s s) (hd : DkAt w L sd) (t : DkTo w w' L L' sd') (hge : ∀ b, L.blocks b → w0.heap.size ≤ b) (ap : ∀ b, L.blocks b → ¬ La.blocks b) (hk : 0 < s.keep.length → ∀ b off, La.kA = some ⟨b, off, none⟩ → ¬ L.blocks b) : Pair w0 w' La R s s where
  fr := h.fr.step t.fr (fun b hb hh => by have := hge b hh; omega)
  d := h.d.fr t.fr (fun b hb hh => ap b hh hb) hk
  r := h.r.fr t.fr (fun b hb hh => by obtain ⟨ty, cs, hc, ht⟩ := hd.ty hh; exact h.r.onot hc (by rcases ht with rfl | rfl | rfl <;> decide) hb) (fun b hb hh => by obtain ⟨ty, cs, hc, ht⟩ := hd.ty hh; exact h.r.rnot hc (by rcases ht with rfl | rfl | rfl <;> decide) hb)
  dge := h.dge
  oge := h.oge
  kn := h.kn
theorem ap_to {w w' : World} {L La L' : DL} {sd' s : DS} (t : DkTo w w' L L' sd') (h : DkAt w La s) (ap : ∀ b, L.blocks b → ¬ La.blocks b) : ∀ b, L'.blocks b → ¬ La.blocks b := fun b hb ha => by
  rcases t.bl b hb with hb | hb
  · exact ap b hb ha
  · have := h.lt ha; omega
set_option maxHeartbeats 8000000 in
theorem do_7 (p : St) (w0 w : World) (L : DL) (R : RL) (s : DS) (h : Pair w0 w L R s s) (co : s.dead = false → Coh s) (hp0 : p.Ok w0) (hwm : s.waits.length ≤ 80) (_hdm : s.done ≤ 1000) (_hat : -9223372036854775808 ≤ p.at_ ∧ p.at_ ≤ 9223372036854775807) (hkind : p.kind = 7) :
    Calls Try.prog 22 #[.agg p.cells.toArray, .pointer (some ⟨L.gd, 0, none⟩), .pointer (some ⟨R.gd, 0, none⟩)] w (DoPost w0 s) := by
  refine sx_enter (vs := [_, _, _]) Try.func22 rfl Try.ntmps22 rfl ?_
  refine sx_seq ?_
  refine sx_region ?_
  refine sxl_does (some 3) (wn_none rfl) rfl rfl (fun ρ hρ => does_box 54 (.tmp 0) rfl p.cells (by rw [hρ _ _ rfl]; rfl)) ?_
  rintro _ w1 ⟨g3, rfl, hg3, hg3', hb1, hf1⟩
  refine sxl_y (wn_none rfl) rfl rfl (yp rfl) ?_
  refine sxl_y (wn_none rfl) rfl rfl (yp rfl) ?_
  refine sxl_y (wn_none rfl) rfl rfl (yp rfl) ?_
  refine sxl_nil ?_
  refine qx_seq ?_
  refine sx_seq ?_
  refine sx_region ?_
  refine sxl_does (some 29) (wn_none rfl) rfl rfl (fun ρ hρ => does_slice0 23 4 1 rfl Try.underlying23 (by kernel_rfl)) ?_
  rintro _ w2 ⟨g2, rfl, hg2, hg2', -, hf2, ho2⟩
  have hz1 := hf1.size
  have hz0 := h.fr.size
  have ho2 := ho2 w.heap.size (by omega)
  have hb2 := hb1.fr0 hf2
  have d4 : Cell w2.heap g3 4 (.slice p.kA p.keep.length p.kc) := hb2.c 4 rfl
  have hF2 := hf1.then0 hf2
  have hmin := min_nat p.keep.length 100
  have hkl := hp0.kl
  have hkm := hp0.km
  refine sxl_y (wn_none rfl) rfl rfl (yp rfl) ?_
  refine sxl_y (wn_none rfl) rfl rfl (y_load rfl rfl (sc rfl) (by assumption)) ?_
  refine sxl_y (wn_none rfl) rfl rfl (yp rfl) ?_
  refine sxl_y (wn_none rfl) rfl rfl (y_load rfl rfl (sc rfl) (by assumption)) ?_
  refine sxl_y (wn_none rfl) rfl rfl (y_len rfl rfl (sl rfl)) ?_
  refine sxl_y (wn_none rfl) rfl rfl (y_min rfl rfl rfl) ?_
  refine sxl_y (wn_none rfl) rfl rfl (y_sliceTo rfl rfl rfl (sl rfl) (by omega)) ?_
  rw [show (100 : Int) = ((100 : Nat) : Int) from rfl, hmin]
  have ht : (boolsV p.keep).take (min p.keep.length 100) = boolsV (p.keep.take 100) := by
    unfold boolsV
    rw [← List.map_take]
    congr 1
    rcases Nat.le_total p.keep.length 100 with hh | hh
    · rw [Nat.min_eq_left hh, List.take_of_length_le (Nat.le_refl _), List.take_of_length_le hh]
    · rw [Nat.min_eq_right hh]
  refine sxl_does (some 37) (wn_none rfl) rfl rfl (fun ρ hρ => does_append (.tmp 29) (.tmp 36) 23 rfl w.heap.size 4 (.bool false) 1 Try.underlying23 (by kernel_rfl) rfl _ 0 [] (hρ _ _ rfl) ho2 p.kA (min p.keep.length 100) p.kc (boolsV (p.keep.take 100)) (hρ _ _ rfl) (by
    have := ((hp0.fr0 (h.fr.then0 hF2)).k.takeN (k := min p.keep.length 100) (Nat.min_le_left _ _))
    rwa [ht] at this) (bools_one _) (by unfold maxLen; omega) (by omega) hF2.size) ?_
  rintro v3 w3 ⟨ho3, hg3v, hv3⟩
  rw [Nat.zero_add, List.nil_append] at ho3
  have hl3 : min p.keep.length 100 = (p.keep.take 100).length := by rw [List.length_take, Nat.min_comm]
  rw [hl3] at ho3
  have hF3 : Fr0 w w3 := hF2.app ho2 (Nat.le_refl _) hg3v
  have hf23 : Fr (fun k => k = g2) w2 w3 := Fr.grown (S := fun k => k = g2) Fr.refl hg3v (fun k e _ => by injection e with e; exact e.symm)
  have hb3 := hb2.fr hf23 (by omega)
  have P3 := h.fr0 hF3
  have hp3 := hp0.fr0 P3.fr
  obtain ⟨kA3, kc3, rfl, hkN⟩ := own_form0 ho3
  clear ho2 hg3v hv3 hf23 hb2 hb1 d4 hF2 hmin ht
  have k0 : Cell w3.heap g3 0 (.int .i64 p.kind) := hb3.c 0 rfl
  have k1 : Cell w3.heap g3 1 (.int .i64 p.at_) := hb3.c 1 rfl
  have k4 : Cell w3.heap g3 4 (.slice p.kA p.keep.length p.kc) := hb3.c 4 rfl
  have k5 : Cell w3.heap g3 5 (.int .i64 p.torn) := hb3.c 5 rfl
  have k6 : Cell w3.heap g3 6 (.int .i64 p.cut) := hb3.c 6 rfl
  have hz3 := hF3.size
  refine sxl_y (wn_none rfl) rfl rfl (yp rfl) ?_
  refine sxl_nil ?_
  refine qx_seq ?_
  refine sx_seq ?_
  refine sx_seq ?_
  refine sx_region ?_
  refine sxl_y (wn_none rfl) rfl rfl (yp rfl) ?_
  refine sxl_y (wn_none rfl) rfl rfl (y_load rfl rfl (sc rfl) (by assumption)) ?_
  refine sxl_nil ?_
  refine qx_seq ?_
  refine sx_block ?_
  refine sx_seq ?_
  refine sx_region ?_
  refine sxl_y (wn_none rfl) rfl rfl (y_eql_f rfl rfl rfl (by omega)) ?_
  refine sxl_y (wn_none rfl) rfl rfl (yp rfl) ?_
  refine sxl_nil ?_
  refine qx_seq ?_
  refine sx_false rfl ?_
  refine sx_seq ?_
  refine sx_region ?_
  refine sxl_y (wn_none rfl) rfl rfl (y_eql_f rfl rfl rfl (by omega)) ?_
  refine sxl_y (wn_none rfl) rfl rfl (yp rfl) ?_
  refine sxl_nil ?_
  refine qx_seq ?_
  refine sx_false rfl ?_
  refine sx_seq ?_
  refine sx_region ?_
  refine sxl_y (wn_none rfl) rfl rfl (y_eql_f rfl rfl rfl (by omega)) ?_
  refine sxl_y (wn_none rfl) rfl rfl (yp rfl) ?_
  refine sxl_nil ?_
  refine qx_seq ?_
  refine sx_false rfl ?_
  refine sx_seq ?_
  refine sx_region ?_
  refine sxl_y (wn_none rfl) rfl rfl (y_eql_f rfl rfl rfl (by omega)) ?_
  refine sxl_y (wn_none rfl) rfl rfl (yp rfl) ?_
  refine sxl_nil ?_
  refine qx_seq ?_
  refine sx_false rfl ?_
  refine sx_seq ?_
  refine sx_region ?_
  refine sxl_y (wn_none rfl) rfl rfl (y_eql_f rfl rfl rfl (by omega)) ?_
  refine sxl_y (wn_none rfl) rfl rfl (yp rfl) ?_
  refine sxl_nil ?_
  refine qx_seq ?_
  refine sx_false rfl ?_
  refine sx_seq ?_
  refine sx_region ?_
  refine sxl_y (wn_none rfl) rfl rfl (y_eql_f rfl rfl rfl (by omega)) ?_
  refine sxl_y (wn_none rfl) rfl rfl (yp rfl) ?_
  refine sxl_nil ?_
  refine qx_seq ?_
  refine sx_false rfl ?_
  refine sx_skip ?_
  refine qx_block_normal ?_
  refine qx_seq ?_
  refine sx_seq ?_
  refine sx_region ?_
  refine sxl_y (wn_none rfl) rfl rfl (yp rfl) ?_
  refine sxl_call (some 234) (by first | exact wn_none rfl | exact wn_on rfl rfl rfl) rfl rfl (yc_call rfl rfl Try.call24) (copy_ok w3 L s P3.d (by omega)) ?_
  rintro _ w4 ⟨La, rfl, h4, hL4, hkA4, hf4⟩
  refine ⟨_, rfl, ?_⟩
  refine sxl_y (wn_none rfl) rfl rfl (yp rfl) ?_
  refine sxl_call (some 236) (by first | exact wn_none rfl | exact wn_on rfl rfl rfl) rfl rfl (yc_call rfl rfl Try.call39) (rcopy_ok w4 R s (P3.fr0 hf4).r (by omega)) ?_
  rintro _ w5 ⟨Rb, rfl, h5, hR5, hR5', hf5⟩
  refine ⟨_, rfl, ?_⟩
  have P5 := (P3.fr0 hf4).fr0 hf5
  have hz4 := hf4.size
  have Pc5 : Pair w0 w5 La Rb s s := ⟨P5.fr, h4.fr0 hf5, h5, fun b hb => by have := hL4 b hb; omega, fun b hb => by have := hR5 b hb; omega, fun hq b off e hb => by rw [hkA4] at e; have := P3.d.hk.lt hq b off e; have := hR5 b hb; omega⟩
  have ap5 : ∀ b, L.blocks b → ¬ La.blocks b := fun b hb ha => by have := P3.d.lt hb; have := hL4 b ha; omega
  refine sxl_y (wn_none rfl) rfl rfl (yp rfl) ?_
  refine sxl_y (wn_none rfl) rfl rfl (yp rfl) ?_
  refine sxl_nil ?_
  refine qx_seq ?_
  refine sx_seq ?_
  refine sx_seq ?_
  refine sx_region ?_
  refine sxl_y (wn_none rfl) rfl rfl (yp rfl) ?_
  refine sxl_y (wn_none rfl) rfl rfl (y_eqlNil rfl rfl rfl (pt rfl)) ?_
  refine sxl_y (wn_none rfl) rfl rfl (yp rfl) ?_
  refine sxl_y (wn_on rfl rfl rfl) rfl rfl (yp rfl) ?_
  refine sxl_y (wn_on rfl rfl rfl) rfl rfl (yp rfl) ?_
  refine sxl_call (some 242) (by first | exact wn_none rfl | exact wn_on rfl rfl rfl) rfl rfl (yc_call rfl rfl Try.call23) (told_ok w5 La Rb s Pc5.d Pc5.r co (by omega)) ?_
  rintro _ w6 ⟨rfl, hf6⟩
  refine ⟨_, rfl, ?_⟩
  have k0' : Cell w6.heap g3 0 (.int .i64 p.kind) := ((k0.fr hf4 (fun hh => hh)).fr hf5 (fun hh => hh)).fr hf6 (fun hh => hh)
  have P6 := P5.fr0 hf6
  have Pc6 := Pc5.fr0 hf6
  obtain ⟨s1, code, fd, -, co1, hke, hw1, hd1⟩ := both_write 0 zsec s h.d.wf co (by omega) (by omega)
  refine sxl_y (wn_on rfl rfl rfl) rfl rfl (yp rfl) ?_
  refine sxl_y (wn_none rfl) rfl rfl (yp rfl) ?_
  refine sxl_nil ?_
  refine qx_seq ?_
  refine sx_false rfl ?_
  refine sx_skip ?_
  refine qx_seq ?_
  refine sx_seq ?_
  refine sx_seq ?_
  refine sx_region ?_
  refine sxl_y (wn_none rfl) rfl rfl (yp rfl) ?_
  refine sxl_y (wn_none rfl) rfl rfl (y_load rfl rfl (sc rfl) (by assumption)) ?_
  refine sxl_y (wn_none rfl) rfl rfl (y_eql_t rfl rfl rfl (by omega)) ?_
  refine sxl_nil ?_
  refine qx_seq ?_
  refine sx_true rfl ?_
  refine sx_seq ?_
  refine sx_region ?_
  refine sxl_y (wn_none rfl) rfl rfl (yp rfl) ?_
  refine sxl_does (some 251) (wn_none rfl) rfl rfl (fun ρ hρ => does_make1 32 _ _ rfl 5 (.int .u8 0) 1 128 Try.underlying32 (by kernel_rfl) rfl (hρ _ _ rfl) (hρ _ _ rfl) (by omega) (by omega)) ?_
  rintro _ w7 ⟨g7, rfl, hg7, hg7', hb7, hf7⟩
  rw [zsec_made] at hb7
  have hr7 : Rd w7 (some ⟨g7, 0, none⟩) zsec.length (bvs zsec) := Rd.ofBlk hb7 (by rw [bvs_length])
  have P7 := P6.fr0 hf7
  have Pc7 := Pc6.fr0 hf7
  refine sxl_call (some 252) (by first | exact wn_none rfl | exact wn_on rfl rfl rfl) rfl rfl (yc_call rfl rfl Try.call9) (fd w7 L (some ⟨g7, 0, none⟩) 128 P7.d hr7 (fun g off e hb => by injection e with e; injection e with e1; subst e1; exact (P6.new hg7).l hb)) ?_
  rintro _ w8 ⟨L8, rfl, t8⟩
  refine ⟨_, rfl, ?_⟩
  have Pc8 := Pc7.other P7.d t8 P7.dge ap5 (fun hq b off e hb => P7.d.kn hq b off (by rw [← hkA4]; exact e) hb)
  have P8 := P7.stepD t8 hke
  have ap8 := ap_to t8 Pc7.d ap5
  obtain ⟨s2, code2, fd2, -, -, hke2, -, -⟩ := both_flush s1 P8.d.wf co1 (by omega) (by omega)
  rw [← t8.gd]
  refine sxl_nil ?_
  refine qx_seq ?_
  refine sx_seq ?_
  refine sx_region ?_
  refine sxl_y (wn_none rfl) rfl rfl (yp rfl) ?_
  refine sxl_call (some 254) (by first | exact wn_none rfl | exact wn_on rfl rfl rfl) rfl rfl (yc_call rfl rfl Try.call11) (fd2 w8 L8 P8.d) ?_
  rintro _ w9 ⟨L9, rfl, t9⟩
  refine ⟨_, rfl, ?_⟩
  have Pc9 := Pc8.other P8.d t9 P8.dge ap8 (fun hq b off e hb => P8.d.kn (by rw [hke]; exact hq) b off (by rw [t8.kA, ← hkA4]; exact e) hb)
  refine sxl_nil ?_
  refine qx_seq ?_
  refine sx_seq ?_
  refine sx_region ?_
  refine sxl_y (wn_none rfl) rfl rfl (yp rfl) ?_
  refine sxl_y (wn_none rfl) rfl rfl (yp rfl) ?_
  refine sxl_y (wn_none rfl) rfl rfl (yp rfl) ?_
  refine sxl_y (wn_none rfl) rfl rfl (yp rfl) ?_
  refine sxl_y (wn_none rfl) rfl rfl (yp rfl) ?_
  refine sxl_nil ?_
  refine qx_seq ?_
  refine sx_ret ?_
  refine qx_then_ret ?_
  refine qx_ret3 rfl rfl rfl rfl ?_
  exact ⟨La, Rb, s, rfl, Pc9, co, by omega, by omega⟩
set_option maxHeartbeats 8000000 in
theorem do_6 (p : St) (w0 w : World) (L : DL) (R : RL) (s : DS) (h : Pair w0 w L R s s) (co : s.dead = false → Coh s) (hp0 : p.Ok w0) (hwm : s.waits.length ≤ 80) (_hdm : s.done ≤ 1000) (_hat : -9223372036854775808 ≤ p.at_ ∧ p.at_ ≤ 9223372036854775807) (hkind : p.kind ≠ 0 ∧ p.kind ≠ 1 ∧ p.kind ≠ 2 ∧ p.kind ≠ 3 ∧ p.kind ≠ 4 ∧ p.kind ≠ 5 ∧ p.kind ≠ 7) :
    Calls Try.prog 22 #[.agg p.cells.toArray, .pointer (some ⟨L.gd, 0, none⟩), .pointer (some ⟨R.gd, 0, none⟩)] w (DoPost w0 s) := by
  refine sx_enter (vs := [_, _, _]) Try.func22 rfl Try.ntmps22 rfl ?_
  refine sx_seq ?_
  refine sx_region ?_
  refine sxl_does (some 3) (wn_none rfl) rfl rfl (fun ρ hρ => does_box 54 (.tmp 0) rfl p.cells (by rw [hρ _ _ rfl]; rfl)) ?_
  rintro _ w1 ⟨g3, rfl, hg3, hg3', hb1, hf1⟩
  refine sxl_y (wn_none rfl) rfl rfl (yp rfl) ?_
  refine sxl_y (wn_none rfl) rfl rfl (yp rfl) ?_
  refine sxl_y (wn_none rfl) rfl rfl (yp rfl) ?_
  refine sxl_nil ?_
  refine qx_seq ?_
  refine sx_seq ?_
  refine sx_region ?_
  refine sxl_does (some 29) (wn_none rfl) rfl rfl (fun ρ hρ => does_slice0 23 4 1 rfl Try.underlying23 (by kernel_rfl)) ?_
  rintro _ w2 ⟨g2, rfl, hg2, hg2', -, hf2, ho2⟩
  have hz1 := hf1.size
  have hz0 := h.fr.size
  have ho2 := ho2 w.heap.size (by omega)
  have hb2 := hb1.fr0 hf2
  have d4 : Cell w2.heap g3 4 (.slice p.kA p.keep.length p.kc) := hb2.c 4 rfl
  have hF2 := hf1.then0 hf2
  have hmin := min_nat p.keep.length 100
  have hkl := hp0.kl
  have hkm := hp0.km
  refine sxl_y (wn_none rfl) rfl rfl (yp rfl) ?_
  refine sxl_y (wn_none rfl) rfl rfl (y_load rfl rfl (sc rfl) (by assumption)) ?_
  refine sxl_y (wn_none rfl) rfl rfl (yp rfl) ?_
  refine sxl_y (wn_none rfl) rfl rfl (y_load rfl rfl (sc rfl) (by assumption)) ?_
  refine sxl_y (wn_none rfl) rfl rfl (y_len rfl rfl (sl rfl)) ?_
  refine sxl_y (wn_none rfl) rfl rfl (y_min rfl rfl rfl) ?_
  refine sxl_y (wn_none rfl) rfl rfl (y_sliceTo rfl rfl rfl (sl rfl) (by omega)) ?_
  rw [show (100 : Int) = ((100 : Nat) : Int) from rfl, hmin]
  have ht : (boolsV p.keep).take (min p.keep.length 100) = boolsV (p.keep.take 100) := by
    unfold boolsV
    rw [← List.map_take]
    congr 1
    rcases Nat.le_total p.keep.length 100 with hh | hh
    · rw [Nat.min_eq_left hh, List.take_of_length_le (Nat.le_refl _), List.take_of_length_le hh]
    · rw [Nat.min_eq_right hh]
  refine sxl_does (some 37) (wn_none rfl) rfl rfl (fun ρ hρ => does_append (.tmp 29) (.tmp 36) 23 rfl w.heap.size 4 (.bool false) 1 Try.underlying23 (by kernel_rfl) rfl _ 0 [] (hρ _ _ rfl) ho2 p.kA (min p.keep.length 100) p.kc (boolsV (p.keep.take 100)) (hρ _ _ rfl) (by
    have := ((hp0.fr0 (h.fr.then0 hF2)).k.takeN (k := min p.keep.length 100) (Nat.min_le_left _ _))
    rwa [ht] at this) (bools_one _) (by unfold maxLen; omega) (by omega) hF2.size) ?_
  rintro v3 w3 ⟨ho3, hg3v, hv3⟩
  rw [Nat.zero_add, List.nil_append] at ho3
  have hl3 : min p.keep.length 100 = (p.keep.take 100).length := by rw [List.length_take, Nat.min_comm]
  rw [hl3] at ho3
  have hF3 : Fr0 w w3 := hF2.app ho2 (Nat.le_refl _) hg3v
  have hf23 : Fr (fun k => k = g2) w2 w3 := Fr.grown (S := fun k => k = g2) Fr.refl hg3v (fun k e _ => by injection e with e; exact e.symm)
  have hb3 := hb2.fr hf23 (by omega)
  have P3 := h.fr0 hF3
  have hp3 := hp0.fr0 P3.fr
  obtain ⟨kA3, kc3, rfl, hkN⟩ := own_form0 ho3
  clear ho2 hg3v hv3 hf23 hb2 hb1 d4 hF2 hmin ht
  have k0 : Cell w3.heap g3 0 (.int .i64 p.kind) := hb3.c 0 rfl
  have k1 : Cell w3.heap g3 1 (.int .i64 p.at_) := hb3.c 1 rfl
  have k4 : Cell w3.heap g3 4 (.slice p.kA p.keep.length p.kc) := hb3.c 4 rfl
  have k5 : Cell w3.heap g3 5 (.int .i64 p.torn) := hb3.c 5 rfl
  have k6 : Cell w3.heap g3 6 (.int .i64 p.cut) := hb3.c 6 rfl
  have hz3 := hF3.size
  refine sxl_y (wn_none rfl) rfl rfl (yp rfl) ?_
  refine sxl_nil ?_
  refine qx_seq ?_
  refine sx_seq ?_
  refine sx_seq ?_
  refine sx_region ?_
  refine sxl_y (wn_none rfl) rfl rfl (yp rfl) ?_
  refine sxl_y (wn_none rfl) rfl rfl (y_load rfl rfl (sc rfl) (by assumption)) ?_
  refine sxl_nil ?_
  refine qx_seq ?_
  refine sx_block ?_
  refine sx_seq ?_
  refine sx_region ?_
  refine sxl_y (wn_none rfl) rfl rfl (y_eql_f rfl rfl rfl (by omega)) ?_
  refine sxl_y (wn_none rfl) rfl rfl (yp rfl) ?_
  refine sxl_nil ?_
  refine qx_seq ?_
  refine sx_false rfl ?_
  refine sx_seq ?_
  refine sx_region ?_
  refine sxl_y (wn_none rfl) rfl rfl (y_eql_f rfl rfl rfl (by omega)) ?_
  refine sxl_y (wn_none rfl) rfl rfl (yp rfl) ?_
  refine sxl_nil ?_
  refine qx_seq ?_
  refine sx_false rfl ?_
  refine sx_seq ?_
  refine sx_region ?_
  refine sxl_y (wn_none rfl) rfl rfl (y_eql_f rfl rfl rfl (by omega)) ?_
  refine sxl_y (wn_none rfl) rfl rfl (yp rfl) ?_
  refine sxl_nil ?_
  refine qx_seq ?_
  refine sx_false rfl ?_
  refine sx_seq ?_
  refine sx_region ?_
  refine sxl_y (wn_none rfl) rfl rfl (y_eql_f rfl rfl rfl (by omega)) ?_
  refine sxl_y (wn_none rfl) rfl rfl (yp rfl) ?_
  refine sxl_nil ?_
  refine qx_seq ?_
  refine sx_false rfl ?_
  refine sx_seq ?_
  refine sx_region ?_
  refine sxl_y (wn_none rfl) rfl rfl (y_eql_f rfl rfl rfl (by omega)) ?_
  refine sxl_y (wn_none rfl) rfl rfl (yp rfl) ?_
  refine sxl_nil ?_
  refine qx_seq ?_
  refine sx_false rfl ?_
  refine sx_seq ?_
  refine sx_region ?_
  refine sxl_y (wn_none rfl) rfl rfl (y_eql_f rfl rfl rfl (by omega)) ?_
  refine sxl_y (wn_none rfl) rfl rfl (yp rfl) ?_
  refine sxl_nil ?_
  refine qx_seq ?_
  refine sx_false rfl ?_
  refine sx_skip ?_
  refine qx_block_normal ?_
  refine qx_seq ?_
  refine sx_seq ?_
  refine sx_region ?_
  refine sxl_y (wn_none rfl) rfl rfl (yp rfl) ?_
  refine sxl_call (some 234) (by first | exact wn_none rfl | exact wn_on rfl rfl rfl) rfl rfl (yc_call rfl rfl Try.call24) (copy_ok w3 L s P3.d (by omega)) ?_
  rintro _ w4 ⟨La, rfl, h4, hL4, hkA4, hf4⟩
  refine ⟨_, rfl, ?_⟩
  refine sxl_y (wn_none rfl) rfl rfl (yp rfl) ?_
  refine sxl_call (some 236) (by first | exact wn_none rfl | exact wn_on rfl rfl rfl) rfl rfl (yc_call rfl rfl Try.call39) (rcopy_ok w4 R s (P3.fr0 hf4).r (by omega)) ?_
  rintro _ w5 ⟨Rb, rfl, h5, hR5, hR5', hf5⟩
  refine ⟨_, rfl, ?_⟩
  have P5 := (P3.fr0 hf4).fr0 hf5
  have hz4 := hf4.size
  have Pc5 : Pair w0 w5 La Rb s s := ⟨P5.fr, h4.fr0 hf5, h5, fun b hb => by have := hL4 b hb; omega, fun b hb => by have := hR5 b hb; omega, fun hq b off e hb => by rw [hkA4] at e; have := P3.d.hk.lt hq b off e; have := hR5 b hb; omega⟩
  have ap5 : ∀ b, L.blocks b → ¬ La.blocks b := fun b hb ha => by have := P3.d.lt hb; have := hL4 b ha; omega
  refine sxl_y (wn_none rfl) rfl rfl (yp rfl) ?_
  refine sxl_y (wn_none rfl) rfl rfl (yp rfl) ?_
  refine sxl_nil ?_
  refine qx_seq ?_
  refine sx_seq ?_
  refine sx_seq ?_
  refine sx_region ?_
  refine sxl_y (wn_none rfl) rfl rfl (yp rfl) ?_
  refine sxl_y (wn_none rfl) rfl rfl (y_eqlNil rfl rfl rfl (pt rfl)) ?_
  refine sxl_y (wn_none rfl) rfl rfl (yp rfl) ?_
  refine sxl_y (wn_on rfl rfl rfl) rfl rfl (yp rfl) ?_
  refine sxl_y (wn_on rfl rfl rfl) rfl rfl (yp rfl) ?_
  refine sxl_call (some 242) (by first | exact wn_none rfl | exact wn_on rfl rfl rfl) rfl rfl (yc_call rfl rfl Try.call23) (told_ok w5 La Rb s Pc5.d Pc5.r co (by omega)) ?_
  rintro _ w6 ⟨rfl, hf6⟩
  refine ⟨_, rfl, ?_⟩
  have k0' : Cell w6.heap g3 0 (.int .i64 p.kind) := ((k0.fr hf4 (fun hh => hh)).fr hf5 (fun hh => hh)).fr hf6 (fun hh => hh)
  have P6 := P5.fr0 hf6
  have Pc6 := Pc5.fr0 hf6
  obtain ⟨s1, code, fd, -, co1, hke, hw1, hd1⟩ := both_write 0 zsec s h.d.wf co (by omega) (by omega)
  refine sxl_y (wn_on rfl rfl rfl) rfl rfl (yp rfl) ?_
  refine sxl_y (wn_none rfl) rfl rfl (yp rfl) ?_
  refine sxl_nil ?_
  refine qx_seq ?_
  refine sx_false rfl ?_
  refine sx_skip ?_
  refine qx_seq ?_
  refine sx_seq ?_
  refine sx_seq ?_
  refine sx_region ?_
  refine sxl_y (wn_none rfl) rfl rfl (yp rfl) ?_
  refine sxl_y (wn_none rfl) rfl rfl (y_load rfl rfl (sc rfl) (by assumption)) ?_
  refine sxl_y (wn_none rfl) rfl rfl (y_eql_f rfl rfl rfl (by omega)) ?_
  refine sxl_nil ?_
  refine qx_seq ?_
  refine sx_false rfl ?_
  refine sx_skip ?_
  refine qx_seq ?_
  refine sx_seq ?_
  refine sx_region ?_
  refine sxl_y (wn_none rfl) rfl rfl (yp rfl) ?_
  refine sxl_does (some 258) (wn_none rfl) rfl rfl (fun ρ hρ => does_make1 32 _ _ rfl 5 (.int .u8 0) 1 128 Try.underlying32 (by kernel_rfl) rfl (hρ _ _ rfl) (hρ _ _ rfl) (by omega) (by omega)) ?_
  rintro _ w7 ⟨g7, rfl, hg7, hg7', hb7, hf7⟩
  rw [zsec_made] at hb7
  have hr7 : Rd w7 (some ⟨g7, 0, none⟩) zsec.length (bvs zsec) := Rd.ofBlk hb7 (by rw [bvs_length])
  have P7 := P6.fr0 hf7
  have Pc7 := Pc6.fr0 hf7
  have ap5' : ∀ b, La.blocks b → ¬ L.blocks b := fun b hb ha => ap5 b ha hb
  refine sxl_call (some 259) (by first | exact wn_none rfl | exact wn_on rfl rfl rfl) rfl rfl (yc_call rfl rfl Try.call9) (fd w7 La (some ⟨g7, 0, none⟩) 128 Pc7.d hr7 (fun g off e hb => by injection e with e; injection e with e1; subst e1; exact (Pc6.new hg7).l hb)) ?_
  rintro _ w8 ⟨L8, rfl, t8⟩
  refine ⟨_, rfl, ?_⟩
  have P8 := P7.other Pc7.d t8 Pc7.dge ap5' (fun hq b off e hb => Pc7.d.kn hq b off (by rw [hkA4]; exact e) hb)
  have Pc8 := Pc7.stepD t8 hke
  have ap8 := ap_to t8 P7.d ap5'
  obtain ⟨s2, code2, fd2, -, -, hke2, -, -⟩ := both_crash [true] (-1) 0 s1 co1 (by omega)
  rw [← t8.gd]
  refine sxl_nil ?_
  refine qx_seq ?_
  refine sx_seq ?_
  refine sx_region ?_
  refine sxl_y (wn_none rfl) rfl rfl (yp rfl) ?_
  refine sxl_does (some 261) (wn_none rfl) rfl rfl (fun ρ hρ => does_slice (size := 1) [.bool true] (.bool false) hρ rfl rfl rfl rfl Try.underlying23 (by kernel_rfl) (by decide) (by decide) (by intro v hv; obtain rfl : v = _ := (by simpa using hv); rfl)) ?_
  rintro _ w9 ⟨g9, rfl, hg9, hg9', hb9, hf9⟩
  have hb9 : Blk w9 g9 4 [.bool true] := by simpa [Value.cells] using hb9
  have P9 := P8.fr0 hf9
  have Pc9 := Pc8.fr0 hf9
  refine sxl_y (wn_none rfl) rfl rfl (y_build (cells := #[.slice (some ⟨g9, 0, none⟩) 1 1, .int .i64 (-1), .int .i64 0]) rfl rfl (by kernel_rfl)) ?_
  refine sxl_call (some 263) (by first | exact wn_none rfl | exact wn_on rfl rfl rfl) rfl rfl (yc_call rfl rfl Try.call12) (fd2 w9 L8 (some ⟨g9, 0, none⟩) 1 Pc9.d (Rd.ofBlk hb9 rfl) (fun _ b off e hb => by injection e with e; injection e with e1; subst e1; exact (Pc8.new hg9).l hb)) ?_
  rintro _ w10 ⟨L10, rfl, t10⟩
  refine ⟨_, rfl, ?_⟩
  have P10 := P9.other Pc9.d t10 Pc9.dge ap8 (fun hq b off e hb => Pc9.d.kn (by rw [hke]; exact hq) b off (by rw [t8.kA, hkA4]; exact e) hb)
  refine sxl_nil ?_
  refine qx_seq ?_
  refine sx_seq ?_
  refine sx_region ?_
  refine sxl_y (wn_none rfl) rfl rfl (yp rfl) ?_
  refine sxl_y (wn_none rfl) rfl rfl (yp rfl) ?_
  refine sxl_y (wn_none rfl) rfl rfl (yp rfl) ?_
  refine sxl_y (wn_none rfl) rfl rfl (yp rfl) ?_
  refine sxl_y (wn_none rfl) rfl rfl (yp rfl) ?_
  refine sxl_nil ?_
  refine qx_seq ?_
  refine sx_ret ?_
  refine qx_ret3 rfl rfl rfl rfl ?_
  exact ⟨L, R, s, rfl, P10, co, by omega, by omega⟩
end Go.Proofs.Ytbfeailalhddgaa
