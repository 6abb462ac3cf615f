/- DiskPlays: the law's helper do, a theorem for each kind of step. -/
import Derived.Test.YtbfeailalhddgaaPlay6
namespace Go.Proofs.Ytbfeailalhddgaa
open Go.RowKit

set_option maxHeartbeats 8000000 in
theorem do_1 (p : St) (w0 w : World) (L : DL) (R : RL) (s : DS) (h : Pair w0 w L R s s) (co : s.dead = false → Coh s) (hp0 : p.Ok w0) (hwm : s.waits.length ≤ 80) (_hdm : s.done ≤ 1000) (_hat : -9223372036854775808 ≤ p.at_ ∧ p.at_ ≤ 9223372036854775807) (hkind : p.kind = 1) :
    Calls Try.prog 22 #[.agg p.cells.toArray, .pointer (some ⟨L.gd, 0, none⟩), .pointer (some ⟨R.gd, 0, none⟩)] w (DoPost w0 s) := by
  refine sx_enter (vs := [_, _, _]) Try.func22 rfl Try.ntmps22 rfl ?_
  refine sx_seq ?_
  refine sx_region ?_
  refine sxl_does (some 3) (wn_none rfl) rfl rfl (fun ρ hρ => does_box 54 (.tmp 0) rfl p.cells (by rw [hρ _ _ rfl]; rfl)) ?_
  rintro _ w1 ⟨g3, rfl, hg3, hg3', hb1, hf1⟩
  refine sxl_y (wn_none rfl) rfl rfl (yp rfl) ?_
  refine sxl_y (wn_none rfl) rfl rfl (yp rfl) ?_
  refine sxl_y (wn_none rfl) rfl rfl (yp rfl) ?_
  refine sxl_nil ?_
  refine qx_seq ?_
  refine sx_seq ?_
  refine sx_region ?_
  refine sxl_does (some 29) (wn_none rfl) rfl rfl (fun ρ hρ => does_slice0 23 4 1 rfl Try.underlying23 (by kernel_rfl)) ?_
  rintro _ w2 ⟨g2, rfl, hg2, hg2', -, hf2, ho2⟩
  have hz1 := hf1.size
  have hz0 := h.fr.size
  have ho2 := ho2 w.heap.size (by omega)
  have hb2 := hb1.fr0 hf2
  have d4 : Cell w2.heap g3 4 (.slice p.kA p.keep.length p.kc) := hb2.c 4 rfl
  have hF2 := hf1.then0 hf2
  have hmin := min_nat p.keep.length 100
  have hkl := hp0.kl
  have hkm := hp0.km
  refine sxl_y (wn_none rfl) rfl rfl (yp rfl) ?_
  refine sxl_y (wn_none rfl) rfl rfl (y_load rfl rfl (sc rfl) (by assumption)) ?_
  refine sxl_y (wn_none rfl) rfl rfl (yp rfl) ?_
  refine sxl_y (wn_none rfl) rfl rfl (y_load rfl rfl (sc rfl) (by assumption)) ?_
  refine sxl_y (wn_none rfl) rfl rfl (y_len rfl rfl (sl rfl)) ?_
  refine sxl_y (wn_none rfl) rfl rfl (y_min rfl rfl rfl) ?_
  refine sxl_y (wn_none rfl) rfl rfl (y_sliceTo rfl rfl rfl (sl rfl) (by omega)) ?_
  rw [show (100 : Int) = ((100 : Nat) : Int) from rfl, hmin]
  have ht : (boolsV p.keep).take (min p.keep.length 100) = boolsV (p.keep.take 100) := by
    unfold boolsV
    rw [← List.map_take]
    congr 1
    rcases Nat.le_total p.keep.length 100 with hh | hh
    · rw [Nat.min_eq_left hh, List.take_of_length_le (Nat.le_refl _), List.take_of_length_le hh]
    · rw [Nat.min_eq_right hh]
  refine sxl_does (some 37) (wn_none rfl) rfl rfl (fun ρ hρ => does_append (.tmp 29) (.tmp 36) 23 rfl w.heap.size 4 (.bool false) 1 Try.underlying23 (by kernel_rfl) rfl _ 0 [] (hρ _ _ rfl) ho2 p.kA (min p.keep.length 100) p.kc (boolsV (p.keep.take 100)) (hρ _ _ rfl) (by
    have := ((hp0.fr0 (h.fr.then0 hF2)).k.takeN (k := min p.keep.length 100) (Nat.min_le_left _ _))
    rwa [ht] at this) (bools_one _) (by unfold maxLen; omega) (by omega) hF2.size) ?_
  rintro v3 w3 ⟨ho3, hg3v, hv3⟩
  rw [Nat.zero_add, List.nil_append] at ho3
  have hl3 : min p.keep.length 100 = (p.keep.take 100).length := by rw [List.length_take, Nat.min_comm]
  rw [hl3] at ho3
  have hF3 : Fr0 w w3 := hF2.app ho2 (Nat.le_refl _) hg3v
  have hf23 : Fr (fun k => k = g2) w2 w3 := Fr.grown (S := fun k => k = g2) Fr.refl hg3v (fun k e _ => by injection e with e; exact e.symm)
  have hb3 := hb2.fr hf23 (by omega)
  have P3 := h.fr0 hF3
  have hp3 := hp0.fr0 P3.fr
  obtain ⟨kA3, kc3, rfl, hkN⟩ := own_form0 ho3
  clear ho2 hg3v hv3 hf23 hb2 hb1 d4 hF2 hmin ht
  have k0 : Cell w3.heap g3 0 (.int .i64 p.kind) := hb3.c 0 rfl
  have k1 : Cell w3.heap g3 1 (.int .i64 p.at_) := hb3.c 1 rfl
  have k4 : Cell w3.heap g3 4 (.slice p.kA p.keep.length p.kc) := hb3.c 4 rfl
  have k5 : Cell w3.heap g3 5 (.int .i64 p.torn) := hb3.c 5 rfl
  have k6 : Cell w3.heap g3 6 (.int .i64 p.cut) := hb3.c 6 rfl
  have hz3 := hF3.size
  obtain ⟨s', code, fd, fr, co', hke, hw', hd'⟩ := both_write p.at_ (secOf p) s h.d.wf co (by omega) (by omega)
  have og3 : Off L R s g3 := h.new hg3
  have hsl := secOf_length p
  refine sxl_y (wn_none rfl) rfl rfl (yp rfl) ?_
  refine sxl_nil ?_
  refine qx_seq ?_
  refine sx_seq ?_
  refine sx_seq ?_
  refine sx_region ?_
  refine sxl_y (wn_none rfl) rfl rfl (yp rfl) ?_
  refine sxl_y (wn_none rfl) rfl rfl (y_load rfl rfl (sc rfl) (by assumption)) ?_
  refine sxl_nil ?_
  refine qx_seq ?_
  refine sx_block ?_
  refine sx_seq ?_
  refine sx_region ?_
  refine sxl_y (wn_none rfl) rfl rfl (y_eql_f rfl rfl rfl (by omega)) ?_
  refine sxl_y (wn_none rfl) rfl rfl (yp rfl) ?_
  refine sxl_nil ?_
  refine qx_seq ?_
  refine sx_false rfl ?_
  refine sx_seq ?_
  refine sx_region ?_
  refine sxl_y (wn_none rfl) rfl rfl (y_eql_t rfl rfl rfl (by omega)) ?_
  refine sxl_y (wn_none rfl) rfl rfl (yp rfl) ?_
  refine sxl_nil ?_
  refine qx_seq ?_
  refine sx_true rfl ?_
  refine sx_seq ?_
  refine sx_region ?_
  refine sxl_y (wn_none rfl) rfl rfl (y_loadB rfl rfl hb3 Try.underlying54 rfl step_size (by simp [St.cells])) ?_
  refine sxl_call (some 90) (by first | exact wn_none rfl | exact wn_on rfl rfl rfl) rfl rfl (yc_call rfl rfl Try.call33) (sector_ok p w3 hp3) ?_
  rintro _ w4 ⟨A4, c4, rfl, ho4, hf4⟩
  refine ⟨_, rfl, ?_⟩
  have P4 := P3.fr0 hf4
  have hb4 := hb3.fr0 hf4
  have hoff : ∀ g, (Value.slice A4 (secOf p).length c4).ownBlock = some g → Off L R s g := fun g hg => P3.new ((ho4.lt g hg).1)
  obtain ⟨_, _, e4, _, _, hr4, hA4⟩ := own_form ho4
  injection e4 with e1 _ e2
  subst e1; subst e2
  refine sxl_y (wn_none rfl) rfl rfl (yp rfl) ?_
  refine sxl_nil ?_
  refine qx_seq ?_
  refine sx_seq ?_
  refine sx_any 13 (fun w' => Blk w' g3 54 p.cells ∧ Cell w'.heap g3 1 (.int .i64 p.at_)) hmix ?_
  have HSm : ∀ w', Blk w' g3 54 p.cells → Blk w' g3 54 p.cells ∧ Cell w'.heap g3 1 (.int .i64 p.at_) := fun w' hb => ⟨hb, hb.c 1 rfl⟩
  have HS := HSm w4.drew hb4.drew
  refine sxo_y 0 13 (by kernel_rfl) (fun c a t v w h => by cases t <;> exact h) (by kernel_rfl) rfl (by kernel_rfl) (by kernel_rfl) rfl (wn_none rfl) rfl rfl HS (fun w' hS' => yp rfl) ?_
  refine sxo_y 1 13 (by kernel_rfl) (fun c a t v w h => by cases t <;> exact h) (by kernel_rfl) rfl (by kernel_rfl) (by kernel_rfl) rfl (wn_none rfl) rfl rfl HS (fun w' hS' => yp rfl) ?_
  refine sxo_y 2 13 (by kernel_rfl) (fun c a t v w h => by cases t <;> exact h) (by kernel_rfl) rfl (by kernel_rfl) (by kernel_rfl) rfl (wn_none rfl) rfl rfl HS (fun w' hS' => y_load rfl rfl (sc rfl) (by obtain ⟨s1, s2⟩ := hS'; assumption)) ?_
  refine sxo_y 3 13 (by kernel_rfl) (fun c a t v w h => by cases t <;> exact h) (by kernel_rfl) rfl (by kernel_rfl) (by kernel_rfl) rfl (wn_none rfl) rfl rfl HS (fun w' hS' => yp rfl) ?_
  refine sxo_y 5 13 (by kernel_rfl) (fun c a t v w h => by cases t <;> exact h) (by kernel_rfl) rfl (by kernel_rfl) (by kernel_rfl) rfl (wn_none rfl) rfl rfl HS (fun w' hS' => yp rfl) ?_
  refine sxo_y 6 13 (by kernel_rfl) (fun c a t v w h => by cases t <;> exact h) (by kernel_rfl) rfl (by kernel_rfl) (by kernel_rfl) rfl (wn_none rfl) rfl rfl HS (fun w' hS' => yp rfl) ?_
  refine sxo_y 7 13 (by kernel_rfl) (fun c a t v w h => by cases t <;> exact h) (by kernel_rfl) rfl (by kernel_rfl) (by kernel_rfl) rfl (wn_none rfl) rfl rfl HS (fun w' hS' => y_load rfl rfl (sc rfl) (by obtain ⟨s1, s2⟩ := hS'; assumption)) ?_
  refine sxo_y 8 13 (by kernel_rfl) (fun c a t v w h => by cases t <;> exact h) (by kernel_rfl) rfl (by kernel_rfl) (by kernel_rfl) rfl (wn_none rfl) rfl rfl HS (fun w' hS' => y_loadB rfl rfl hS'.1 Try.underlying54 rfl step_size (by simp [St.cells])) ?_
  have P4d := P4.fr0 (w' := w4.drew) Fr.refl.drew
  refine sxo_call 4 (some 95) (by kernel_rfl) rfl (wn_none rfl) rfl rfl (yc_call rfl rfl Try.call9) (fd w4.drew L A4 c4 P4d.d (hr4.fr0 (w' := w4.drew) Fr.refl.drew) (fun g off e hb => (P3.new (hA4 g off e).1).l hb)) ?_
  rintro _ w5 ⟨L5, rfl, t5⟩
  have P5 := P4d.stepD t5 hke
  have hb5 := hb4.drew.fr t5.fr og3.l
  refine ⟨_, rfl, fun _ => HSm _ hb5, ?_⟩
  refine sxo_call 9 (some 100) (by kernel_rfl) rfl (wn_none rfl) rfl rfl (yc_call rfl rfl Try.call33) (sector_ok p w5 (hp0.fr0 P5.fr)) ?_
  rintro _ w6 ⟨A6, c6, rfl, ho6, hf6⟩
  have P6 := P5.fr0 hf6
  have hb6 := hb5.fr0 hf6
  refine ⟨_, rfl, fun _ => HSm _ hb6, ?_⟩
  obtain ⟨_, _, e6, _, _, hr6, hA6⟩ := own_form ho6
  injection e6 with e1 _ e2
  subst e1; subst e2
  refine sxo_call 10 (some 101) (by kernel_rfl) rfl (wn_none rfl) rfl rfl (yc_call rfl rfl Try.call34) (fr w6 R A6 c6 P6.r hr6 (fun g off e hb => (P5.new (hA6 g off e).1).o hb)) ?_
  rintro _ w7 ⟨R7, rfl, t7⟩
  have P7 := P6.stepR t7
  have hb7 := hb6.fr t7.fr og3.o
  have HS := HSm _ hb7
  refine ⟨_, rfl, fun _ => HS, ?_⟩
  refine sxo_y 11 13 (by kernel_rfl) (fun c a t v w h => by cases t <;> exact h) (by kernel_rfl) rfl (by kernel_rfl) (by kernel_rfl) rfl (wn_none rfl) rfl rfl HS (fun w' hS' => yp rfl) ?_
  refine sxo_y 12 13 (by kernel_rfl) (fun c a t v w h => by cases t <;> exact h) (by kernel_rfl) rfl (by kernel_rfl) (by kernel_rfl) rfl (wn_none rfl) rfl rfl HS (fun w' hS' => yp rfl) ?_
  refine sxo_done (by kernel_rfl) ?_
  have hz4 : w4.heap.size ≤ w6.heap.size := Nat.le_trans t5.fr.size hf6.size
  have hoff7 : ∀ g, (Value.slice A4 (secOf p).length c4).ownBlock = some g → Off L5 R7 s' g := fun g hg =>
    ((hoff g hg).stepD (w := w4.drew) ((ho4.lt g hg).2) t5 hke).stepR (by have := (ho4.lt g hg).2; omega) t7
  have ho7 : w7.ownsRow w3.heap.size 5 1 (.slice A4 (secOf p).length c4) (secOf p).length (bvs (secOf p)) :=
    ownN_fr (ownN_fr (ownN_fr (ownN_fr ho4 (w' := w4.drew) (S := Nowhere) Fr.refl.drew (fun _ _ hh => hh)) t5.fr (fun k hk => (hoff k hk).l)) hf6 (fun _ _ hh => hh)) t7.fr (fun k hk => (hoff k hk).o)
  refine qx_seq ?_
  refine sx_seq ?_
  refine sx_region ?_
  refine sxl_y (wn_none rfl) rfl rfl (yp rfl) ?_
  refine sxl_y (wn_none rfl) rfl rfl (y_loadB rfl rfl hb7 Try.underlying54 rfl step_size (by simp [St.cells])) ?_
  refine sxl_call (some 104) (by first | exact wn_none rfl | exact wn_on rfl rfl rfl) rfl rfl (yc_call rfl rfl Try.call33) (sector_ok p w7 (hp0.fr0 P7.fr)) ?_
  rintro _ w8 ⟨A8, c8, rfl, ho8, hf8⟩
  refine ⟨_, rfl, ?_⟩
  refine sxl_call (some 105) (by first | exact wn_none rfl | exact wn_on rfl rfl rfl) rfl rfl (yc_call rfl rfl Try.call19) (bytes_ok A4 A8 (secOf p).length (secOf p).length c4 c8 (secOf p) (secOf p) w8 ((Rd.of_own ho7).fr0 hf8) (Rd.of_own ho8) (by omega) (by omega)) ?_
  rintro _ w9 ⟨rfl, hf9⟩
  refine ⟨_, rfl, ?_⟩
  rw [decide_eq_true rfl]
  have P9 := (P7.fr0 hf8).fr0 hf9
  have ho9 := ownN_fr (ownN_fr ho7 hf8 (fun _ _ hh => hh)) hf9 (fun _ _ hh => hh)
  rw [← t5.gd, ← t7.gd]
  refine sxl_y (wn_none rfl) rfl rfl (yp rfl) ?_
  refine sxl_nil ?_
  refine qx_seq ?_
  refine sx_seq ?_
  refine sx_seq ?_
  refine sx_region ?_
  refine sxl_y (wn_none rfl) rfl rfl (yp rfl) ?_
  refine sxl_nil ?_
  refine qx_seq ?_
  refine sx_block ?_
  refine sx_loop (fun e wr m => ∃ (k : Nat) (xs : List UInt8), e = [(19, .int .i64 (k : Int)), (15, .slice A4 (secOf p).length c4), (16, .int .i64 code), (17, .int .i64 code), (18, .bool true), (1, .pointer (some ⟨L5.gd, 0, none⟩)), (2, .pointer (some ⟨R7.gd, 0, none⟩))] ∧ k ≤ (secOf p).length ∧ xs.length = (secOf p).length ∧ wr.ownsRow w3.heap.size 5 1 (.slice A4 (secOf p).length c4) (secOf p).length (bvs xs) ∧ Pair w0 wr L5 R7 s' s' ∧ m = (secOf p).length - k) ⟨0, secOf p, rfl, Nat.zero_le _, rfl, ho9, P9, rfl⟩ ⟨rfl, rfl, rfl, rfl, rfl, rfl, rfl, trivial⟩ ?_
  rintro _ wr _ ⟨k, xs, rfl, hk, hxs, ho, P, rfl⟩
  by_cases hlt : k < (secOf p).length
  · obtain ⟨g, cap, rest, ev, hgb, hcp, hcm, hbg, hlen⟩ := ownN_blk ho (by omega)
    injection ev with e1 _ e2
    subst e1; subst e2
    refine sx_seq ?_
    refine sx_seq ?_
    refine sx_region ?_
    refine sxl_y (wn_none rfl) rfl rfl (yp rfl) ?_
    refine sxl_y (wn_none rfl) rfl rfl (yp rfl) ?_
    refine sxl_y (wn_none rfl) rfl rfl (y_len rfl rfl (sl rfl)) ?_
    refine sxl_y (wn_none rfl) rfl rfl (y_lss_t rfl rfl rfl (by omega)) ?_
    refine sxl_nil ?_
    refine qx_seq ?_
    refine sx_true rfl ?_
    refine sx_skip ?_
    refine qx_seq ?_
    refine sx_seq ?_
    refine sx_block ?_
    refine sx_region ?_
    refine sxl_y (wn_none rfl) rfl rfl (yp rfl) ?_
    refine sxl_y (wn_none rfl) rfl rfl (yp rfl) ?_
    refine sxl_y (wn_none rfl) rfl rfl (y_indexN rfl rfl rfl (sl rfl) (by omega)) ?_
    refine sxl_does none (wn_none rfl) rfl rfl (fun ρ hρ => does_store1 5 (.tmp 114) (.const (.int .u8 221)) rfl g k 5 _ (bv 221) (by rw [hρ _ _ rfl]; simp) (hρ _ _ rfl) rfl hbg (by kernel_rfl) (by rw [List.length_append, bvs_length]; omega) rfl) ?_
    rintro _ w8 ⟨rfl, hb8, hf8⟩
    have e8 : (bvs xs ++ rest).set k (bv 221) = bvs (xs.set k 221) ++ rest := by rw [List.set_append_left _ _ (by rw [bvs_length]; omega)]; unfold bvs; rw [List.map_set]
    rw [e8] at hb8
    have P8 := P.off (hoff7 g rfl) (by omega) hf8
    have o8 : w8.ownsRow w3.heap.size 5 1 (.slice (some ⟨g, 0, none⟩) (secOf p).length c4) (secOf p).length (bvs (xs.set k 221)) := ownN_of_blk hb8 hgb hcp hcm (by rw [← hlen, List.length_append, List.length_append, bvs_length, bvs_length, List.length_set]) (by rw [bvs_length, List.length_set]; omega)
    refine sxl_nil ?_
    refine qx_block_normal ?_
    refine qx_seq ?_
    refine sx_region ?_
    refine sxl_y (wn_none rfl) rfl rfl (yp rfl) ?_
    refine sxl_y (wn_none rfl) rfl rfl (y_add rfl rfl rfl (by omega)) ?_
    refine sxl_y (wn_none rfl) rfl rfl (yp rfl) ?_
    refine sxl_nil ?_
    exact qx_again [(19, .int .i64 ((k + 1 : Nat) : Int)), (15, .slice (some ⟨g, 0, none⟩) (secOf p).length c4), (16, .int .i64 code), (17, .int .i64 code), (18, .bool true), (1, .pointer (some ⟨L5.gd, 0, none⟩)), (2, .pointer (some ⟨R7.gd, 0, none⟩))] ((secOf p).length - (k + 1)) ⟨k + 1, xs.set k 221, rfl, hlt, by rw [List.length_set]; exact hxs, o8, P8, rfl⟩ (by omega) ⟨rfl, rfl, rfl, rfl, rfl, rfl, rfl, trivial⟩
  · refine sx_seq ?_
    refine sx_seq ?_
    refine sx_region ?_
    refine sxl_y (wn_none rfl) rfl rfl (yp rfl) ?_
    refine sxl_y (wn_none rfl) rfl rfl (yp rfl) ?_
    refine sxl_y (wn_none rfl) rfl rfl (y_len rfl rfl (sl rfl)) ?_
    refine sxl_y (wn_none rfl) rfl rfl (y_lss_f rfl rfl rfl (by omega)) ?_
    refine sxl_nil ?_
    refine qx_seq ?_
    refine sx_false rfl ?_
    refine sx_exit ?_
    refine qx_then_exit ?_
    refine qx_then_exit ?_
    refine qx_block_hit ?_
    refine qx_seq ?_
    refine sx_seq ?_
    refine sx_region ?_
    refine sxl_y (wn_none rfl) rfl rfl (yp rfl) ?_
    refine sxl_y (wn_none rfl) rfl rfl (yp rfl) ?_
    refine sxl_y (wn_none rfl) rfl rfl (yp rfl) ?_
    refine sxl_y (wn_none rfl) rfl rfl (yp rfl) ?_
    refine sxl_y (wn_none rfl) rfl rfl (y_eql_t rfl rfl rfl (by omega)) ?_
    refine sxl_y (wn_none rfl) rfl rfl (yp rfl) ?_
    refine sxl_y (wn_on rfl rfl rfl) rfl rfl (yp rfl) ?_
    refine sxl_y (wn_none rfl) rfl rfl (yp rfl) ?_
    refine sxl_y (wn_none rfl) rfl rfl (yp rfl) ?_
    refine sxl_y (wn_none rfl) rfl rfl (yp rfl) ?_
    refine sxl_y (wn_none rfl) rfl rfl (yp rfl) ?_
    refine sxl_nil ?_
    refine qx_seq ?_
    refine sx_ret ?_
    refine qx_block_ret ?_
    refine qx_then_ret ?_
    refine qx_ret3 rfl rfl rfl rfl ?_
    exact ⟨L5, R7, s', rfl, P, co', hw', hd'⟩
end Go.Proofs.Ytbfeailalhddgaa
