/- DiskPlays: the law's helper do, a theorem for each kind of step. -/
import Derived.Test.YtbfeailalhddgaaPlay3
namespace Go.Proofs.Ytbfeailalhddgaa
open Go.RowKit

def DoPost (w0 : World) (s : DS) (e : Ending) (w' : World) : Prop :=
  ∃ L' R' s', e = .returned (.tuple #[.pointer (some ⟨L'.gd, 0, none⟩), .pointer (some ⟨R'.gd, 0, none⟩), .bool true]) ∧ Pair w0 w' L' R' s' s' ∧ (s'.dead = false → Coh s') ∧ s'.waits.length ≤ s.waits.length + 1 ∧ s'.done ≤ s.done + 1
set_option maxHeartbeats 8000000 in
theorem do_0 (p : St) (w0 w : World) (L : DL) (R : RL) (s : DS) (h : Pair w0 w L R s s) (co : s.dead = false → Coh s) (hp0 : p.Ok w0) (hwm : s.waits.length ≤ 80) (_hdm : s.done ≤ 1000) (_hat : -9223372036854775808 ≤ p.at_ ∧ p.at_ ≤ 9223372036854775807) (hkind : p.kind = 0) :
    Calls Try.prog 22 #[.agg p.cells.toArray, .pointer (some ⟨L.gd, 0, none⟩), .pointer (some ⟨R.gd, 0, none⟩)] w (DoPost w0 s) := by
  refine sx_enter (vs := [_, _, _]) Try.func22 rfl Try.ntmps22 rfl ?_
  refine sx_seq ?_
  refine sx_region ?_
  refine sxl_does (some 3) (wn_none rfl) rfl rfl (fun ρ hρ => does_box 54 (.tmp 0) rfl p.cells (by rw [hρ _ _ rfl]; rfl)) ?_
  rintro _ w1 ⟨g3, rfl, hg3, hg3', hb1, hf1⟩
  refine sxl_y (wn_none rfl) rfl rfl (yp rfl) ?_
  refine sxl_y (wn_none rfl) rfl rfl (yp rfl) ?_
  refine sxl_y (wn_none rfl) rfl rfl (yp rfl) ?_
  refine sxl_nil ?_
  refine qx_seq ?_
  refine sx_seq ?_
  refine sx_region ?_
  refine sxl_does (some 29) (wn_none rfl) rfl rfl (fun ρ hρ => does_slice0 23 4 1 rfl Try.underlying23 (by kernel_rfl)) ?_
  rintro _ w2 ⟨g2, rfl, hg2, hg2', -, hf2, ho2⟩
  have hz1 := hf1.size
  have hz0 := h.fr.size
  have ho2 := ho2 w.heap.size (by omega)
  have hb2 := hb1.fr0 hf2
  have d4 : Cell w2.heap g3 4 (.slice p.kA p.keep.length p.kc) := hb2.c 4 rfl
  have hF2 := hf1.then0 hf2
  have hmin := min_nat p.keep.length 100
  have hkl := hp0.kl
  have hkm := hp0.km
  refine sxl_y (wn_none rfl) rfl rfl (yp rfl) ?_
  refine sxl_y (wn_none rfl) rfl rfl (y_load rfl rfl (sc rfl) (by assumption)) ?_
  refine sxl_y (wn_none rfl) rfl rfl (yp rfl) ?_
  refine sxl_y (wn_none rfl) rfl rfl (y_load rfl rfl (sc rfl) (by assumption)) ?_
  refine sxl_y (wn_none rfl) rfl rfl (y_len rfl rfl (sl rfl)) ?_
  refine sxl_y (wn_none rfl) rfl rfl (y_min rfl rfl rfl) ?_
  refine sxl_y (wn_none rfl) rfl rfl (y_sliceTo rfl rfl rfl (sl rfl) (by omega)) ?_
  rw [show (100 : Int) = ((100 : Nat) : Int) from rfl, hmin]
  have ht : (boolsV p.keep).take (min p.keep.length 100) = boolsV (p.keep.take 100) := by
    unfold boolsV
    rw [← List.map_take]
    congr 1
    rcases Nat.le_total p.keep.length 100 with hh | hh
    · rw [Nat.min_eq_left hh, List.take_of_length_le (Nat.le_refl _), List.take_of_length_le hh]
    · rw [Nat.min_eq_right hh]
  refine sxl_does (some 37) (wn_none rfl) rfl rfl (fun ρ hρ => does_append (.tmp 29) (.tmp 36) 23 rfl w.heap.size 4 (.bool false) 1 Try.underlying23 (by kernel_rfl) rfl _ 0 [] (hρ _ _ rfl) ho2 p.kA (min p.keep.length 100) p.kc (boolsV (p.keep.take 100)) (hρ _ _ rfl) (by
    have := ((hp0.fr0 (h.fr.then0 hF2)).k.takeN (k := min p.keep.length 100) (Nat.min_le_left _ _))
    rwa [ht] at this) (bools_one _) (by unfold maxLen; omega) (by omega) hF2.size) ?_
  rintro v3 w3 ⟨ho3, hg3v, hv3⟩
  rw [Nat.zero_add, List.nil_append] at ho3
  have hl3 : min p.keep.length 100 = (p.keep.take 100).length := by rw [List.length_take, Nat.min_comm]
  rw [hl3] at ho3
  have hF3 : Fr0 w w3 := hF2.app ho2 (Nat.le_refl _) hg3v
  have hf23 : Fr (fun k => k = g2) w2 w3 := Fr.grown (S := fun k => k = g2) Fr.refl hg3v (fun k e _ => by injection e with e; exact e.symm)
  have hb3 := hb2.fr hf23 (by omega)
  have P3 := h.fr0 hF3
  have hp3 := hp0.fr0 P3.fr
  obtain ⟨kA3, kc3, rfl, hkN⟩ := own_form0 ho3
  clear ho2 hg3v hv3 hf23 hb2 hb1 d4 hF2 hmin ht
  have k0 : Cell w3.heap g3 0 (.int .i64 p.kind) := hb3.c 0 rfl
  have k1 : Cell w3.heap g3 1 (.int .i64 p.at_) := hb3.c 1 rfl
  have k4 : Cell w3.heap g3 4 (.slice p.kA p.keep.length p.kc) := hb3.c 4 rfl
  have k5 : Cell w3.heap g3 5 (.int .i64 p.torn) := hb3.c 5 rfl
  have k6 : Cell w3.heap g3 6 (.int .i64 p.cut) := hb3.c 6 rfl
  have hz3 := hF3.size
  obtain ⟨bs, code, hbl, rd, rr⟩ := both_read p.at_ s h.d.wf co (by omega)
  refine sxl_y (wn_none rfl) rfl rfl (yp rfl) ?_
  refine sxl_nil ?_
  refine qx_seq ?_
  refine sx_seq ?_
  refine sx_seq ?_
  refine sx_region ?_
  refine sxl_y (wn_none rfl) rfl rfl (yp rfl) ?_
  refine sxl_y (wn_none rfl) rfl rfl (y_load rfl rfl (sc rfl) (by assumption)) ?_
  refine sxl_nil ?_
  refine qx_seq ?_
  refine sx_block ?_
  refine sx_seq ?_
  refine sx_region ?_
  refine sxl_y (wn_none rfl) rfl rfl (y_eql_t rfl rfl rfl (by omega)) ?_
  refine sxl_y (wn_none rfl) rfl rfl (yp rfl) ?_
  refine sxl_nil ?_
  refine qx_seq ?_
  refine sx_true rfl ?_
  refine sx_seq ?_
  refine sx_region ?_
  refine sxl_y (wn_none rfl) rfl rfl (yp rfl) ?_
  refine sxl_y (wn_none rfl) rfl rfl (yp rfl) ?_
  refine sxl_y (wn_none rfl) rfl rfl (y_load rfl rfl (sc rfl) (by assumption)) ?_
  refine sxl_call (some 46) (by first | exact wn_none rfl | exact wn_on rfl rfl rfl) rfl rfl (yc_call rfl rfl Try.call17) (rd w3 L P3.d) ?_
  rintro _ w4 ⟨⟨v4, rfl, ho4⟩, hf4⟩
  refine ⟨_, rfl, ?_⟩
  have k1' := k1.fr hf4 (fun hh => hh)
  refine sxl_y (wn_none rfl) rfl rfl (yp rfl) ?_
  refine sxl_y (wn_none rfl) rfl rfl (yp rfl) ?_
  refine sxl_y (wn_none rfl) rfl rfl (yp rfl) ?_
  refine sxl_y (wn_none rfl) rfl rfl (yp rfl) ?_
  refine sxl_y (wn_none rfl) rfl rfl (yp rfl) ?_
  refine sxl_nil ?_
  refine qx_seq ?_
  refine sx_seq ?_
  refine sx_region ?_
  refine sxl_y (wn_none rfl) rfl rfl (yp rfl) ?_
  refine sxl_y (wn_none rfl) rfl rfl (yp rfl) ?_
  refine sxl_y (wn_none rfl) rfl rfl (y_load rfl rfl (sc rfl) (by assumption)) ?_
  refine sxl_call (some 53) (by first | exact wn_none rfl | exact wn_on rfl rfl rfl) rfl rfl (yc_call rfl rfl Try.call32) (rr w4 R (P3.fr0 hf4).r) ?_
  rintro _ w5 ⟨⟨v5, rfl, ho5⟩, hf5⟩
  refine ⟨_, rfl, ?_⟩
  obtain ⟨A4, c4, rfl, _, hr4, _, _⟩ := ownN_form ho4
  obtain ⟨A5, c5, rfl, _, hr5, _, _⟩ := ownN_form ho5
  refine sxl_y (wn_none rfl) rfl rfl (yp rfl) ?_
  refine sxl_y (wn_none rfl) rfl rfl (yp rfl) ?_
  refine sxl_y (wn_none rfl) rfl rfl (yp rfl) ?_
  refine sxl_y (wn_none rfl) rfl rfl (yp rfl) ?_
  refine sxl_y (wn_none rfl) rfl rfl (yp rfl) ?_
  refine sxl_nil ?_
  refine qx_seq ?_
  refine sx_seq ?_
  refine sx_seq ?_
  refine sx_region ?_
  refine sxl_y (wn_none rfl) rfl rfl (yp rfl) ?_
  refine sxl_y (wn_none rfl) rfl rfl (yp rfl) ?_
  refine sxl_y (wn_none rfl) rfl rfl (y_neq_f rfl rfl rfl (by omega)) ?_
  refine sxl_y (wn_none rfl) rfl rfl (yp rfl) ?_
  refine sxl_y (wn_on rfl rfl rfl) rfl rfl (yp rfl) ?_
  refine sxl_y (wn_on rfl rfl rfl) rfl rfl (yp rfl) ?_
  refine sxl_call (some 62) (by first | exact wn_none rfl | exact wn_on rfl rfl rfl) rfl rfl (yc_call rfl rfl Try.call19) (bytes_ok A4 A5 bs.length bs.length c4 c5 bs bs w5 (by simpa using hr4.fr0 hf5) (by simpa using hr5) (by omega) (by omega)) ?_
  rintro _ w6 ⟨rfl, hf6⟩
  refine ⟨_, rfl, ?_⟩
  rw [decide_eq_true rfl]
  have hF6 := (hf4.then0 hf5).then0 hf6
  have P6 := P3.fr0 hF6
  have ho6 := ownN_fr (ownN_fr ho4 hf5 (fun _ _ hh => hh)) hf6 (fun _ _ hh => hh)
  have hoff : ∀ g, (Value.slice A4 bs.length c4).ownBlock = some g → Off L R s g := fun g hg => P3.new ((ho4.lt g hg).1)
  refine sxl_y (wn_on rfl rfl rfl) rfl rfl (yp rfl) ?_
  refine sxl_y (wn_none rfl) rfl rfl (yp rfl) ?_
  refine sxl_nil ?_
  refine qx_seq ?_
  refine sx_false rfl ?_
  refine sx_skip ?_
  refine qx_seq ?_
  refine sx_seq ?_
  refine sx_seq ?_
  refine sx_region ?_
  refine sxl_y (wn_none rfl) rfl rfl (yp rfl) ?_
  refine sxl_nil ?_
  refine qx_seq ?_
  refine sx_block ?_
  refine sx_loop (fun e wr m => ∃ (k : Nat) (xs : List UInt8), e = [(14, .int .i64 (k : Int)), (10, .slice A4 bs.length c4), (12, .slice A5 bs.length c5), (1, .pointer (some ⟨L.gd, 0, none⟩)), (2, .pointer (some ⟨R.gd, 0, none⟩))] ∧ k ≤ bs.length ∧ xs.length = bs.length ∧ wr.ownsRow w3.heap.size 5 1 (.slice A4 bs.length c4) bs.length (bvs xs) ∧ Pair w0 wr L R s s ∧ m = bs.length - k) ⟨0, bs, rfl, Nat.zero_le _, rfl, ho6, P6, rfl⟩ ⟨rfl, rfl, rfl, rfl, rfl, trivial⟩ ?_
  rintro _ wr _ ⟨k, xs, rfl, hk, hxs, ho, P, rfl⟩
  by_cases hlt : k < bs.length
  · obtain ⟨g, cap, rest, ev, hgb, hcp, hcm, hbg, hlen⟩ := ownN_blk ho (by omega)
    injection ev with e1 _ e2
    subst e1; subst e2
    refine sx_seq ?_
    refine sx_seq ?_
    refine sx_region ?_
    refine sxl_y (wn_none rfl) rfl rfl (yp rfl) ?_
    refine sxl_y (wn_none rfl) rfl rfl (yp rfl) ?_
    refine sxl_y (wn_none rfl) rfl rfl (y_len rfl rfl (sl rfl)) ?_
    refine sxl_y (wn_none rfl) rfl rfl (y_lss_t rfl rfl rfl (by omega)) ?_
    refine sxl_nil ?_
    refine qx_seq ?_
    refine sx_true rfl ?_
    refine sx_skip ?_
    refine qx_seq ?_
    refine sx_seq ?_
    refine sx_block ?_
    refine sx_region ?_
    refine sxl_y (wn_none rfl) rfl rfl (yp rfl) ?_
    refine sxl_y (wn_none rfl) rfl rfl (yp rfl) ?_
    refine sxl_y (wn_none rfl) rfl rfl (y_indexN rfl rfl rfl (sl rfl) (by omega)) ?_
    refine sxl_does none (wn_none rfl) rfl rfl (fun ρ hρ => does_store1 5 (.tmp 75) (.const (.int .u8 238)) rfl g k 5 _ (bv 238) (by rw [hρ _ _ rfl]; simp) (hρ _ _ rfl) rfl hbg (by kernel_rfl) (by rw [List.length_append, bvs_length]; omega) rfl) ?_
    rintro _ w8 ⟨rfl, hb8, hf8⟩
    have e8 : (bvs xs ++ rest).set k (bv 238) = bvs (xs.set k 238) ++ rest := by rw [List.set_append_left _ _ (by rw [bvs_length]; omega)]; unfold bvs; rw [List.map_set]
    rw [e8] at hb8
    have P8 := P.off (hoff g rfl) (by omega) hf8
    have o8 : w8.ownsRow w3.heap.size 5 1 (.slice (some ⟨g, 0, none⟩) bs.length c4) bs.length (bvs (xs.set k 238)) := ownN_of_blk hb8 hgb hcp hcm (by rw [← hlen, List.length_append, List.length_append, bvs_length, bvs_length, List.length_set]) (by rw [bvs_length, List.length_set]; omega)
    refine sxl_nil ?_
    refine qx_block_normal ?_
    refine qx_seq ?_
    refine sx_region ?_
    refine sxl_y (wn_none rfl) rfl rfl (yp rfl) ?_
    refine sxl_y (wn_none rfl) rfl rfl (y_add rfl rfl rfl (by omega)) ?_
    refine sxl_y (wn_none rfl) rfl rfl (yp rfl) ?_
    refine sxl_nil ?_
    exact qx_again [(14, .int .i64 ((k + 1 : Nat) : Int)), (10, .slice (some ⟨g, 0, none⟩) bs.length c4), (12, .slice A5 bs.length c5), (1, .pointer (some ⟨L.gd, 0, none⟩)), (2, .pointer (some ⟨R.gd, 0, none⟩))] (bs.length - (k + 1)) ⟨k + 1, xs.set k 238, rfl, hlt, by rw [List.length_set]; exact hxs, o8, P8, rfl⟩ (by omega) ⟨rfl, rfl, rfl, rfl, rfl, trivial⟩
  · refine sx_seq ?_
    refine sx_seq ?_
    refine sx_region ?_
    refine sxl_y (wn_none rfl) rfl rfl (yp rfl) ?_
    refine sxl_y (wn_none rfl) rfl rfl (yp rfl) ?_
    refine sxl_y (wn_none rfl) rfl rfl (y_len rfl rfl (sl rfl)) ?_
    refine sxl_y (wn_none rfl) rfl rfl (y_lss_f rfl rfl rfl (by omega)) ?_
    refine sxl_nil ?_
    refine qx_seq ?_
    refine sx_false rfl ?_
    refine sx_exit ?_
    refine qx_then_exit ?_
    refine qx_then_exit ?_
    refine qx_block_hit ?_
    refine qx_seq ?_
    refine sx_seq ?_
    refine sx_region ?_
    refine sxl_y (wn_none rfl) rfl rfl (yp rfl) ?_
    refine sxl_does (some 77) (wn_none rfl) rfl rfl (fun ρ hρ => does_slice (size := 1) [.int .u8 1, .int .u8 2, .int .u8 3] (.int .u8 0) hρ rfl rfl rfl rfl Try.underlying32 (by kernel_rfl) (by decide) (by decide) (by intro v hv; simp only [List.mem_cons, List.not_mem_nil, or_false] at hv; rcases hv with rfl | rfl | rfl <;> rfl)) ?_
    rintro _ w8 ⟨g8, rfl, hg8, hg8', hb8, hf8⟩
    have hb8 : Blk w8 g8 5 [.int .u8 1, .int .u8 2, .int .u8 3] := by simpa [Value.cells] using hb8
    have ho8 := ownN_fr ho hf8 (fun _ _ hh => hh)
    have P8 := P.fr0 hf8
    refine sxl_does (some 78) (wn_none rfl) rfl rfl (fun ρ hρ => does_append (.tmp 76) (.tmp 77) 32 rfl 0 5 (.int .u8 0) 1 Try.underlying32 info_u8 rfl _ bs.length (bvs xs) (hρ _ _ rfl) (own_base ho8 (Nat.zero_le _)) (some ⟨g8, 0, none⟩) 3 3 [.int .u8 1, .int .u8 2, .int .u8 3] (hρ _ _ rfl) (Rd.ofBlk hb8 rfl) (by intro u hu; simp only [List.mem_cons, List.not_mem_nil, or_false] at hu; rcases hu with rfl | rfl | rfl <;> rfl) (by unfold maxLen; omega) (by omega) (Nat.zero_le _)) ?_
    rintro v9 w9 ⟨ho9, hg9, hv9⟩
    have P9 := P8.app ho8 hoff (by omega) hg9
    obtain ⟨A9, c9, rfl, _⟩ := own_form0 ho9
    refine sxl_y (wn_none rfl) rfl rfl (yp rfl) ?_
    refine sxl_nil ?_
    refine qx_seq ?_
    refine sx_seq ?_
    refine sx_region ?_
    refine sxl_y (wn_none rfl) rfl rfl (yp rfl) ?_
    refine sxl_y (wn_none rfl) rfl rfl (yp rfl) ?_
    refine sxl_y (wn_none rfl) rfl rfl (yp rfl) ?_
    refine sxl_y (wn_none rfl) rfl rfl (y_len rfl rfl (sl rfl)) ?_
    refine sxl_y (wn_none rfl) rfl rfl (yp rfl) ?_
    refine sxl_y (wn_none rfl) rfl rfl (y_len rfl rfl (sl rfl)) ?_
    refine sxl_y (wn_none rfl) rfl rfl (y_add rfl rfl rfl (by omega)) ?_
    refine sxl_y (wn_none rfl) rfl rfl (y_eql_t rfl rfl rfl (by omega)) ?_
    refine sxl_y (wn_none rfl) rfl rfl (yp rfl) ?_
    refine sxl_y (wn_none rfl) rfl rfl (yp rfl) ?_
    refine sxl_y (wn_none rfl) rfl rfl (yp rfl) ?_
    refine sxl_nil ?_
    refine qx_seq ?_
    refine sx_ret ?_
    refine qx_block_ret ?_
    refine qx_then_ret ?_
    refine qx_ret3 rfl rfl rfl rfl ?_
    exact ⟨L, R, s, rfl, P9, co, by omega, by omega⟩
set_option maxHeartbeats 8000000 in
theorem do_2 (p : St) (w0 w : World) (L : DL) (R : RL) (s : DS) (h : Pair w0 w L R s s) (co : s.dead = false → Coh s) (hp0 : p.Ok w0) (hwm : s.waits.length ≤ 80) (_hdm : s.done ≤ 1000) (_hat : -9223372036854775808 ≤ p.at_ ∧ p.at_ ≤ 9223372036854775807) (hkind : p.kind = 2) :
    Calls Try.prog 22 #[.agg p.cells.toArray, .pointer (some ⟨L.gd, 0, none⟩), .pointer (some ⟨R.gd, 0, none⟩)] w (DoPost w0 s) := by
  refine sx_enter (vs := [_, _, _]) Try.func22 rfl Try.ntmps22 rfl ?_
  refine sx_seq ?_
  refine sx_region ?_
  refine sxl_does (some 3) (wn_none rfl) rfl rfl (fun ρ hρ => does_box 54 (.tmp 0) rfl p.cells (by rw [hρ _ _ rfl]; rfl)) ?_
  rintro _ w1 ⟨g3, rfl, hg3, hg3', hb1, hf1⟩
  refine sxl_y (wn_none rfl) rfl rfl (yp rfl) ?_
  refine sxl_y (wn_none rfl) rfl rfl (yp rfl) ?_
  refine sxl_y (wn_none rfl) rfl rfl (yp rfl) ?_
  refine sxl_nil ?_
  refine qx_seq ?_
  refine sx_seq ?_
  refine sx_region ?_
  refine sxl_does (some 29) (wn_none rfl) rfl rfl (fun ρ hρ => does_slice0 23 4 1 rfl Try.underlying23 (by kernel_rfl)) ?_
  rintro _ w2 ⟨g2, rfl, hg2, hg2', -, hf2, ho2⟩
  have hz1 := hf1.size
  have hz0 := h.fr.size
  have ho2 := ho2 w.heap.size (by omega)
  have hb2 := hb1.fr0 hf2
  have d4 : Cell w2.heap g3 4 (.slice p.kA p.keep.length p.kc) := hb2.c 4 rfl
  have hF2 := hf1.then0 hf2
  have hmin := min_nat p.keep.length 100
  have hkl := hp0.kl
  have hkm := hp0.km
  refine sxl_y (wn_none rfl) rfl rfl (yp rfl) ?_
  refine sxl_y (wn_none rfl) rfl rfl (y_load rfl rfl (sc rfl) (by assumption)) ?_
  refine sxl_y (wn_none rfl) rfl rfl (yp rfl) ?_
  refine sxl_y (wn_none rfl) rfl rfl (y_load rfl rfl (sc rfl) (by assumption)) ?_
  refine sxl_y (wn_none rfl) rfl rfl (y_len rfl rfl (sl rfl)) ?_
  refine sxl_y (wn_none rfl) rfl rfl (y_min rfl rfl rfl) ?_
  refine sxl_y (wn_none rfl) rfl rfl (y_sliceTo rfl rfl rfl (sl rfl) (by omega)) ?_
  rw [show (100 : Int) = ((100 : Nat) : Int) from rfl, hmin]
  have ht : (boolsV p.keep).take (min p.keep.length 100) = boolsV (p.keep.take 100) := by
    unfold boolsV
    rw [← List.map_take]
    congr 1
    rcases Nat.le_total p.keep.length 100 with hh | hh
    · rw [Nat.min_eq_left hh, List.take_of_length_le (Nat.le_refl _), List.take_of_length_le hh]
    · rw [Nat.min_eq_right hh]
  refine sxl_does (some 37) (wn_none rfl) rfl rfl (fun ρ hρ => does_append (.tmp 29) (.tmp 36) 23 rfl w.heap.size 4 (.bool false) 1 Try.underlying23 (by kernel_rfl) rfl _ 0 [] (hρ _ _ rfl) ho2 p.kA (min p.keep.length 100) p.kc (boolsV (p.keep.take 100)) (hρ _ _ rfl) (by
    have := ((hp0.fr0 (h.fr.then0 hF2)).k.takeN (k := min p.keep.length 100) (Nat.min_le_left _ _))
    rwa [ht] at this) (bools_one _) (by unfold maxLen; omega) (by omega) hF2.size) ?_
  rintro v3 w3 ⟨ho3, hg3v, hv3⟩
  rw [Nat.zero_add, List.nil_append] at ho3
  have hl3 : min p.keep.length 100 = (p.keep.take 100).length := by rw [List.length_take, Nat.min_comm]
  rw [hl3] at ho3
  have hF3 : Fr0 w w3 := hF2.app ho2 (Nat.le_refl _) hg3v
  have hf23 : Fr (fun k => k = g2) w2 w3 := Fr.grown (S := fun k => k = g2) Fr.refl hg3v (fun k e _ => by injection e with e; exact e.symm)
  have hb3 := hb2.fr hf23 (by omega)
  have P3 := h.fr0 hF3
  have hp3 := hp0.fr0 P3.fr
  obtain ⟨kA3, kc3, rfl, hkN⟩ := own_form0 ho3
  clear ho2 hg3v hv3 hf23 hb2 hb1 d4 hF2 hmin ht
  have k0 : Cell w3.heap g3 0 (.int .i64 p.kind) := hb3.c 0 rfl
  have k1 : Cell w3.heap g3 1 (.int .i64 p.at_) := hb3.c 1 rfl
  have k4 : Cell w3.heap g3 4 (.slice p.kA p.keep.length p.kc) := hb3.c 4 rfl
  have k5 : Cell w3.heap g3 5 (.int .i64 p.torn) := hb3.c 5 rfl
  have k6 : Cell w3.heap g3 6 (.int .i64 p.cut) := hb3.c 6 rfl
  have hz3 := hF3.size
  obtain ⟨s', code, fd, fr, co', hke, hw', hd'⟩ := both_flush s h.d.wf co (by omega) (by omega)
  refine sxl_y (wn_none rfl) rfl rfl (yp rfl) ?_
  refine sxl_nil ?_
  refine qx_seq ?_
  refine sx_seq ?_
  refine sx_seq ?_
  refine sx_region ?_
  refine sxl_y (wn_none rfl) rfl rfl (yp rfl) ?_
  refine sxl_y (wn_none rfl) rfl rfl (y_load rfl rfl (sc rfl) (by assumption)) ?_
  refine sxl_nil ?_
  refine qx_seq ?_
  refine sx_block ?_
  refine sx_seq ?_
  refine sx_region ?_
  refine sxl_y (wn_none rfl) rfl rfl (y_eql_f rfl rfl rfl (by omega)) ?_
  refine sxl_y (wn_none rfl) rfl rfl (yp rfl) ?_
  refine sxl_nil ?_
  refine qx_seq ?_
  refine sx_false rfl ?_
  refine sx_seq ?_
  refine sx_region ?_
  refine sxl_y (wn_none rfl) rfl rfl (y_eql_f rfl rfl rfl (by omega)) ?_
  refine sxl_y (wn_none rfl) rfl rfl (yp rfl) ?_
  refine sxl_nil ?_
  refine qx_seq ?_
  refine sx_false rfl ?_
  refine sx_seq ?_
  refine sx_region ?_
  refine sxl_y (wn_none rfl) rfl rfl (y_eql_t rfl rfl rfl (by omega)) ?_
  refine sxl_y (wn_none rfl) rfl rfl (yp rfl) ?_
  refine sxl_nil ?_
  refine qx_seq ?_
  refine sx_true rfl ?_
  refine sx_seq ?_
  refine sx_region ?_
  refine sxl_y (wn_none rfl) rfl rfl (yp rfl) ?_
  refine sxl_y (wn_none rfl) rfl rfl (yp rfl) ?_
  refine sxl_y (wn_none rfl) rfl rfl (yp rfl) ?_
  refine sxl_call (some 128) (by first | exact wn_none rfl | exact wn_on rfl rfl rfl) rfl rfl (yc_call rfl rfl Try.call11) (fd w3 L P3.d) ?_
  rintro _ w4 ⟨L4, rfl, t4⟩
  refine ⟨_, rfl, ?_⟩
  have P4 := P3.stepD t4 hke
  refine sxl_y (wn_none rfl) rfl rfl (yp rfl) ?_
  refine sxl_call (some 130) (by first | exact wn_none rfl | exact wn_on rfl rfl rfl) rfl rfl (yc_call rfl rfl Try.call35) (fr w4 R P4.r) ?_
  rintro _ w5 ⟨R5, rfl, t5⟩
  refine ⟨_, rfl, ?_⟩
  have P5 := P4.stepR t5
  rw [← t4.gd, ← t5.gd]
  refine sxl_y (wn_none rfl) rfl rfl (y_eql_t rfl rfl rfl (by omega)) ?_
  refine sxl_y (wn_none rfl) rfl rfl (yp rfl) ?_
  refine sxl_y (wn_none rfl) rfl rfl (yp rfl) ?_
  refine sxl_y (wn_none rfl) rfl rfl (yp rfl) ?_
  refine sxl_nil ?_
  refine qx_seq ?_
  refine sx_ret ?_
  refine qx_block_ret ?_
  refine qx_then_ret ?_
  refine qx_ret3 rfl rfl rfl rfl ?_
  exact ⟨L4, R5, s', rfl, P5, co', hw', hd'⟩
end Go.Proofs.Ytbfeailalhddgaa
