/- DiskPlays: the law's helper told. -/
import Derived.Test.YtbfeailalhddgaaPlay1
namespace Go.Proofs.Ytbfeailalhddgaa
open Go.RowKit

def Coh (s : DS) : Prop := ∀ (i : Nat) (b : List UInt8), s.shows[i]? = some b → Shown s i b
set_option maxHeartbeats 4000000 in
theorem told_dead (w : World) (L : DL) (R : RL) (s : DS) (h : DkAt w L s) (r : RkAt w R s) (hd : s.dead = true) : Calls Try.prog 23 #[.pointer (some ⟨L.gd, 0, none⟩), .pointer (some ⟨R.gd, 0, none⟩)] w fun e w' => e = .returned (.bool true) ∧ Fr0 w w' := by
  obtain ⟨lA, lc, el, -, -, -, -⟩ := ownN_form h.hl
  obtain ⟨wA, wc, ew, -, -, -, -⟩ := ownN_form h.hw
  have h1 : DkAt w.drew L s := h.fr0 Fr.refl.drew
  have r1 : RkAt w.drew R s := r.fr0 Fr.refl.drew
  have q2 := r1.c2
  have q3 := r1.c3
  rw [hd] at q3
  refine sx_enter (vs := [_, _]) Try.func23 rfl Try.ntmps23 rfl ?_
  refine sx_seq ?_
  refine sx_region ?_
  refine sxl_y (wn_none rfl) rfl rfl (yp rfl) ?_
  refine sxl_nil ?_
  refine qx_seq ?_
  refine sx_seq ?_
  refine sx_seq ?_
  refine sx_still hmix (by kernel_rfl) ?_
  refine sxs_y (wn_none rfl) rfl rfl (yp rfl) ?_
  refine sxs_call (wn_none rfl) rfl rfl (yc_call rfl rfl Try.call20) (len_any w.drew L.gd lA s.lasts.length lc (by rw [h1.c0, el])) ?_
  refine sxs_y (wn_none rfl) rfl rfl (yp rfl) ?_
  refine sxs_call (wn_none rfl) rfl rfl (yc_call rfl rfl Try.call40) (rlen_ok w.drew R s r1) ?_
  refine sxs_y (wn_none rfl) rfl rfl (y_neq_f rfl rfl rfl (by omega)) ?_
  refine sxs_y (wn_none rfl) rfl rfl (yp rfl) ?_
  refine sxs_y (wn_on rfl rfl rfl) rfl rfl (yp rfl) ?_
  refine sxs_call (wn_on rfl rfl rfl) rfl rfl (yc_call rfl rfl Try.call15) (waits_any w.drew L.gd wA s.waits.length wc (by rw [h1.c2, ew])) ?_
  refine sxs_y (wn_on rfl rfl rfl) rfl rfl (yp rfl) ?_
  refine sxs_call (wn_on rfl rfl rfl) rfl rfl (yc_call rfl rfl Try.call41) (rwaits_ok w.drew R s r1) ?_
  refine sxs_y (wn_on rfl rfl rfl) rfl rfl (y_neq_f rfl rfl rfl (by omega)) ?_
  refine sxs_y (wn_none rfl) rfl rfl (yp rfl) ?_
  refine sxs_y (wn_none rfl) rfl rfl (yp rfl) ?_
  refine sxs_y (wn_on rfl rfl rfl) rfl rfl (yp rfl) ?_
  refine sxs_call (wn_on rfl rfl rfl) rfl rfl (yc_call rfl rfl Try.call16) (done_any w.drew L.gd s.done h1.c3) ?_
  refine sxs_y (wn_on rfl rfl rfl) rfl rfl (yp rfl) ?_
  refine sxs_y (wn_on rfl rfl rfl) rfl rfl (yp rfl) ?_
  refine sxs_y (wn_on rfl rfl rfl) rfl rfl (yp rfl) ?_
  refine sxs_y (wn_on rfl rfl rfl) rfl rfl (y_load rfl rfl (sc rfl) (by assumption)) ?_
  refine sxs_y (wn_on rfl rfl rfl) rfl rfl (y_neq_f rfl rfl rfl (by omega)) ?_
  refine sxs_y (wn_none rfl) rfl rfl (yp rfl) ?_
  refine sxs_y (wn_none rfl) rfl rfl (yp rfl) ?_
  refine sxs_y (wn_on rfl rfl rfl) rfl rfl (yp rfl) ?_
  refine sxs_call (wn_on rfl rfl rfl) rfl rfl (yc_call rfl rfl Try.call13) (dead_any w.drew L.gd true (by rw [← hd]; exact h1.c4)) ?_
  refine sxs_y (wn_on rfl rfl rfl) rfl rfl (yp rfl) ?_
  refine sxs_y (wn_on rfl rfl rfl) rfl rfl (yp rfl) ?_
  refine sxs_y (wn_on rfl rfl rfl) rfl rfl (yp rfl) ?_
  refine sxs_y (wn_on rfl rfl rfl) rfl rfl (y_load rfl rfl (sc rfl) (by assumption)) ?_
  refine sxs_y (wn_on rfl rfl rfl) rfl rfl (y_neqBool rfl rfl rfl Try.underlying4) ?_
  refine sxs_y (wn_none rfl) rfl rfl (yp rfl) ?_
  refine sxs_end ?_
  refine qx_seq ?_
  refine sx_false rfl ?_
  refine sx_skip ?_
  refine qx_seq ?_
  refine sx_seq ?_
  refine sx_seq ?_
  refine sx_region ?_
  refine sxl_y (wn_none rfl) rfl rfl (yp rfl) ?_
  refine sxl_nil ?_
  refine qx_seq ?_
  refine sx_block ?_
  refine sx_loop (fun e wr m => ∃ (k : Nat), e = [(5, .int .i64 ((k : Int) - 1)), (0, .pointer (some ⟨L.gd, 0, none⟩)), (1, .pointer (some ⟨R.gd, 0, none⟩))] ∧ k ≤ 41 ∧ Fr0 w wr ∧ m = 41 - k) ⟨0, rfl, by omega, Fr.refl.drew, rfl⟩ ⟨rfl, rfl, rfl, trivial⟩ ?_
  rintro _ wr _ ⟨k, rfl, hk, hf, rfl⟩
  by_cases hc : (k : Int) - 1 ≤ (s.lasts.length : Int) ∧ (k : Int) - 1 < 40
  · refine sx_seq ?_
    refine sx_seq ?_
    refine sx_region ?_
    refine sxl_y (wn_none rfl) rfl rfl (yp rfl) ?_
    refine sxl_y (wn_none rfl) rfl rfl (yp rfl) ?_
    refine sxl_pure (wn_none rfl) rfl rfl (yc_call rfl rfl Try.call40) (rlen_ok wr R s (r.fr0 hf)) ?_
    refine sxl_y (wn_none rfl) rfl rfl (y_leq_t rfl rfl rfl (by omega)) ?_
    refine sxl_y (wn_none rfl) rfl rfl (yp rfl) ?_
    refine sxl_y (wn_on rfl rfl rfl) rfl rfl (yp rfl) ?_
    refine sxl_y (wn_on rfl rfl rfl) rfl rfl (y_lss_t rfl rfl rfl (by omega)) ?_
    refine sxl_y (wn_none rfl) rfl rfl (yp rfl) ?_
    refine sxl_nil ?_
    refine qx_seq ?_
    refine sx_true rfl ?_
    refine sx_skip ?_
    refine qx_seq ?_
    refine sx_seq ?_
    refine sx_block ?_
    refine sx_seq ?_
    refine sx_region ?_
    refine sxl_y (wn_none rfl) rfl rfl (yp rfl) ?_
    refine sxl_y (wn_none rfl) rfl rfl (yp rfl) ?_
    refine sxl_pure (wn_none rfl) rfl rfl (yc_call rfl rfl Try.call17) (read_dead _ L.gd wr (by rw [← hd]; exact (h.fr0 hf).c4)) ?_
    refine sxl_y (wn_none rfl) rfl rfl (yp rfl) ?_
    refine sxl_y (wn_none rfl) rfl rfl (yp rfl) ?_
    refine sxl_y (wn_none rfl) rfl rfl (yp rfl) ?_
    refine sxl_y (wn_none rfl) rfl rfl (yp rfl) ?_
    refine sxl_y (wn_none rfl) rfl rfl (yp rfl) ?_
    refine sxl_nil ?_
    refine qx_seq ?_
    refine sx_seq ?_
    refine sx_region ?_
    refine sxl_y (wn_none rfl) rfl rfl (yp rfl) ?_
    refine sxl_y (wn_none rfl) rfl rfl (yp rfl) ?_
    refine sxl_pure (wn_none rfl) rfl rfl (yc_call rfl rfl Try.call32) (rread_dead _ wr R s (r.fr0 hf) hd) ?_
    refine sxl_y (wn_none rfl) rfl rfl (yp rfl) ?_
    refine sxl_y (wn_none rfl) rfl rfl (yp rfl) ?_
    refine sxl_y (wn_none rfl) rfl rfl (yp rfl) ?_
    refine sxl_y (wn_none rfl) rfl rfl (yp rfl) ?_
    refine sxl_y (wn_none rfl) rfl rfl (yp rfl) ?_
    refine sxl_nil ?_
    refine qx_seq ?_
    refine sx_seq ?_
    refine sx_region ?_
    refine sxl_y (wn_none rfl) rfl rfl (yp rfl) ?_
    refine sxl_y (wn_none rfl) rfl rfl (yp rfl) ?_
    refine sxl_y (wn_none rfl) rfl rfl (y_neq_f rfl rfl rfl (by omega)) ?_
    refine sxl_y (wn_none rfl) rfl rfl (yp rfl) ?_
    refine sxl_y (wn_on rfl rfl rfl) rfl rfl (yp rfl) ?_
    refine sxl_y (wn_on rfl rfl rfl) rfl rfl (yp rfl) ?_
    refine sxl_call (some 68) (by first | exact wn_none rfl | exact wn_on rfl rfl rfl) rfl rfl (yc_call rfl rfl Try.call19) (bytes_ok none none 0 0 0 0 [] [] wr Rd.nil Rd.nil (by omega) (by omega)) ?_
    rintro _ w9 ⟨rfl, hf9⟩
    refine ⟨_, rfl, ?_⟩
    rw [decide_eq_true rfl]
    refine sxl_y (wn_on rfl rfl rfl) rfl rfl (yp rfl) ?_
    refine sxl_y (wn_none rfl) rfl rfl (yp rfl) ?_
    refine sxl_nil ?_
    refine qx_seq ?_
    refine sx_false rfl ?_
    refine sx_skip ?_
    refine qx_block_normal ?_
    refine qx_seq ?_
    refine sx_region ?_
    refine sxl_y (wn_none rfl) rfl rfl (yp rfl) ?_
    refine sxl_y (wn_none rfl) rfl rfl (y_add rfl rfl rfl (by omega)) ?_
    refine sxl_y (wn_none rfl) rfl rfl (yp rfl) ?_
    refine sxl_nil ?_
    exact qx_again [(5, .int .i64 (((k + 1 : Nat) : Int) - 1)), (0, .pointer (some ⟨L.gd, 0, none⟩)), (1, .pointer (some ⟨R.gd, 0, none⟩))] (41 - (k + 1)) ⟨k + 1, rfl, by omega, hf.then0 hf9, rfl⟩ (by omega) ⟨by simp only [Env.get]; congr 2; omega, rfl, rfl, trivial⟩
  · by_cases hc1 : (k : Int) - 1 ≤ (s.lasts.length : Int)
    · refine sx_seq ?_
      refine sx_seq ?_
      refine sx_region ?_
      refine sxl_y (wn_none rfl) rfl rfl (yp rfl) ?_
      refine sxl_y (wn_none rfl) rfl rfl (yp rfl) ?_
      refine sxl_pure (wn_none rfl) rfl rfl (yc_call rfl rfl Try.call40) (rlen_ok wr R s (r.fr0 hf)) ?_
      refine sxl_y (wn_none rfl) rfl rfl (y_leq_t rfl rfl rfl (by omega)) ?_
      refine sxl_y (wn_none rfl) rfl rfl (yp rfl) ?_
      refine sxl_y (wn_on rfl rfl rfl) rfl rfl (yp rfl) ?_
      refine sxl_y (wn_on rfl rfl rfl) rfl rfl (y_lss_f rfl rfl rfl (by omega)) ?_
      refine sxl_y (wn_none rfl) rfl rfl (yp rfl) ?_
      refine sxl_nil ?_
      refine qx_seq ?_
      refine sx_false rfl ?_
      refine sx_exit ?_
      refine qx_then_exit ?_
      refine qx_then_exit ?_
      refine qx_block_hit ?_
      refine qx_seq ?_
      refine sx_seq ?_
      refine sx_region ?_
      refine sxl_y (wn_none rfl) rfl rfl (yp rfl) ?_
      refine sxl_nil ?_
      refine qx_seq ?_
      refine sx_ret ?_
      refine qx_ret1 rfl rfl ?_
      exact ⟨rfl, hf⟩
    · refine sx_seq ?_
      refine sx_seq ?_
      refine sx_region ?_
      refine sxl_y (wn_none rfl) rfl rfl (yp rfl) ?_
      refine sxl_y (wn_none rfl) rfl rfl (yp rfl) ?_
      refine sxl_pure (wn_none rfl) rfl rfl (yc_call rfl rfl Try.call40) (rlen_ok wr R s (r.fr0 hf)) ?_
      refine sxl_y (wn_none rfl) rfl rfl (y_leq_f rfl rfl rfl (by omega)) ?_
      refine sxl_y (wn_none rfl) rfl rfl (yp rfl) ?_
      refine sxl_off rfl rfl rfl rfl rfl rfl ?_
      refine sxl_off rfl rfl rfl rfl rfl rfl ?_
      refine sxl_y (wn_none rfl) rfl rfl (yp rfl) ?_
      refine sxl_nil ?_
      refine qx_seq ?_
      refine sx_false rfl ?_
      refine sx_exit ?_
      refine qx_then_exit ?_
      refine qx_then_exit ?_
      refine qx_block_hit ?_
      refine qx_seq ?_
      refine sx_seq ?_
      refine sx_region ?_
      refine sxl_y (wn_none rfl) rfl rfl (yp rfl) ?_
      refine sxl_nil ?_
      refine qx_seq ?_
      refine sx_ret ?_
      refine qx_ret1 rfl rfl ?_
      exact ⟨rfl, hf⟩
set_option maxHeartbeats 4000000 in
theorem told_live (w : World) (L : DL) (R : RL) (s : DS) (h : DkAt w L s) (r : RkAt w R s) (hd : s.dead = false) (co : Coh s) (hwm : s.waits.length ≤ 1073741824) : Calls Try.prog 23 #[.pointer (some ⟨L.gd, 0, none⟩), .pointer (some ⟨R.gd, 0, none⟩)] w fun e w' => e = .returned (.bool true) ∧ Fr0 w w' := by
  obtain ⟨lA, lc, el, -, -, -, -⟩ := ownN_form h.hl
  obtain ⟨wA, wc, ew, -, -, -, -⟩ := ownN_form h.hw
  have h1 : DkAt w.drew L s := h.fr0 Fr.refl.drew
  have r1 : RkAt w.drew R s := r.fr0 Fr.refl.drew
  have q2 := r1.c2
  have q3 := r1.c3
  rw [hd] at q3
  refine sx_enter (vs := [_, _]) Try.func23 rfl Try.ntmps23 rfl ?_
  refine sx_seq ?_
  refine sx_region ?_
  refine sxl_y (wn_none rfl) rfl rfl (yp rfl) ?_
  refine sxl_nil ?_
  refine qx_seq ?_
  refine sx_seq ?_
  refine sx_seq ?_
  refine sx_still hmix (by kernel_rfl) ?_
  refine sxs_y (wn_none rfl) rfl rfl (yp rfl) ?_
  refine sxs_call (wn_none rfl) rfl rfl (yc_call rfl rfl Try.call20) (len_any w.drew L.gd lA s.lasts.length lc (by rw [h1.c0, el])) ?_
  refine sxs_y (wn_none rfl) rfl rfl (yp rfl) ?_
  refine sxs_call (wn_none rfl) rfl rfl (yc_call rfl rfl Try.call40) (rlen_ok w.drew R s r1) ?_
  refine sxs_y (wn_none rfl) rfl rfl (y_neq_f rfl rfl rfl (by omega)) ?_
  refine sxs_y (wn_none rfl) rfl rfl (yp rfl) ?_
  refine sxs_y (wn_on rfl rfl rfl) rfl rfl (yp rfl) ?_
  refine sxs_call (wn_on rfl rfl rfl) rfl rfl (yc_call rfl rfl Try.call15) (waits_any w.drew L.gd wA s.waits.length wc (by rw [h1.c2, ew])) ?_
  refine sxs_y (wn_on rfl rfl rfl) rfl rfl (yp rfl) ?_
  refine sxs_call (wn_on rfl rfl rfl) rfl rfl (yc_call rfl rfl Try.call41) (rwaits_ok w.drew R s r1) ?_
  refine sxs_y (wn_on rfl rfl rfl) rfl rfl (y_neq_f rfl rfl rfl (by omega)) ?_
  refine sxs_y (wn_none rfl) rfl rfl (yp rfl) ?_
  refine sxs_y (wn_none rfl) rfl rfl (yp rfl) ?_
  refine sxs_y (wn_on rfl rfl rfl) rfl rfl (yp rfl) ?_
  refine sxs_call (wn_on rfl rfl rfl) rfl rfl (yc_call rfl rfl Try.call16) (done_any w.drew L.gd s.done h1.c3) ?_
  refine sxs_y (wn_on rfl rfl rfl) rfl rfl (yp rfl) ?_
  refine sxs_y (wn_on rfl rfl rfl) rfl rfl (yp rfl) ?_
  refine sxs_y (wn_on rfl rfl rfl) rfl rfl (yp rfl) ?_
  refine sxs_y (wn_on rfl rfl rfl) rfl rfl (y_load rfl rfl (sc rfl) (by assumption)) ?_
  refine sxs_y (wn_on rfl rfl rfl) rfl rfl (y_neq_f rfl rfl rfl (by omega)) ?_
  refine sxs_y (wn_none rfl) rfl rfl (yp rfl) ?_
  refine sxs_y (wn_none rfl) rfl rfl (yp rfl) ?_
  refine sxs_y (wn_on rfl rfl rfl) rfl rfl (yp rfl) ?_
  refine sxs_call (wn_on rfl rfl rfl) rfl rfl (yc_call rfl rfl Try.call13) (dead_any w.drew L.gd false (by rw [← hd]; exact h1.c4)) ?_
  refine sxs_y (wn_on rfl rfl rfl) rfl rfl (yp rfl) ?_
  refine sxs_y (wn_on rfl rfl rfl) rfl rfl (yp rfl) ?_
  refine sxs_y (wn_on rfl rfl rfl) rfl rfl (yp rfl) ?_
  refine sxs_y (wn_on rfl rfl rfl) rfl rfl (y_load rfl rfl (sc rfl) (by assumption)) ?_
  refine sxs_y (wn_on rfl rfl rfl) rfl rfl (y_neqBool rfl rfl rfl Try.underlying4) ?_
  refine sxs_y (wn_none rfl) rfl rfl (yp rfl) ?_
  refine sxs_end ?_
  refine qx_seq ?_
  refine sx_false rfl ?_
  refine sx_skip ?_
  refine qx_seq ?_
  refine sx_seq ?_
  refine sx_seq ?_
  refine sx_region ?_
  refine sxl_y (wn_none rfl) rfl rfl (yp rfl) ?_
  refine sxl_nil ?_
  refine qx_seq ?_
  refine sx_block ?_
  refine sx_loop (fun e wr m => ∃ (k : Nat), e = [(5, .int .i64 ((k : Int) - 1)), (0, .pointer (some ⟨L.gd, 0, none⟩)), (1, .pointer (some ⟨R.gd, 0, none⟩))] ∧ k ≤ 41 ∧ Fr0 w wr ∧ m = 41 - k) ⟨0, rfl, by omega, Fr.refl.drew, rfl⟩ ⟨rfl, rfl, rfl, trivial⟩ ?_
  rintro _ wr _ ⟨k, rfl, hk, hf, rfl⟩
  by_cases hc : (k : Int) - 1 ≤ (s.lasts.length : Int) ∧ (k : Int) - 1 < 40
  · by_cases hin : 1 ≤ k ∧ k ≤ s.lasts.length
    · obtain ⟨b, hb⟩ : ∃ b, s.shows[k - 1]? = some b := ⟨_, List.getElem?_eq_getElem (by rw [h.wf.sl]; omega)⟩
      have ek : (k : Int) - 1 = ((k - 1 : Nat) : Int) := by omega
      rw [ek]
      refine sx_seq ?_
      refine sx_seq ?_
      refine sx_region ?_
      refine sxl_y (wn_none rfl) rfl rfl (yp rfl) ?_
      refine sxl_y (wn_none rfl) rfl rfl (yp rfl) ?_
      refine sxl_pure (wn_none rfl) rfl rfl (yc_call rfl rfl Try.call40) (rlen_ok wr R s (r.fr0 hf)) ?_
      refine sxl_y (wn_none rfl) rfl rfl (y_leq_t rfl rfl rfl (by omega)) ?_
      refine sxl_y (wn_none rfl) rfl rfl (yp rfl) ?_
      refine sxl_y (wn_on rfl rfl rfl) rfl rfl (yp rfl) ?_
      refine sxl_y (wn_on rfl rfl rfl) rfl rfl (y_lss_t rfl rfl rfl (by omega)) ?_
      refine sxl_y (wn_none rfl) rfl rfl (yp rfl) ?_
      refine sxl_nil ?_
      refine qx_seq ?_
      refine sx_true rfl ?_
      refine sx_skip ?_
      refine qx_seq ?_
      refine sx_seq ?_
      refine sx_block ?_
      refine sx_seq ?_
      refine sx_region ?_
      refine sxl_y (wn_none rfl) rfl rfl (yp rfl) ?_
      refine sxl_y (wn_none rfl) rfl rfl (yp rfl) ?_
      refine sxl_call (some 53) (by first | exact wn_none rfl | exact wn_on rfl rfl rfl) rfl rfl (yc_call rfl rfl Try.call17) (read_ok (k - 1) wr L s b (h.fr0 hf) hd hb) ?_
      rintro _ w7 ⟨⟨v7, rfl, ho7⟩, hf7⟩
      refine ⟨_, rfl, ?_⟩
      refine sxl_y (wn_none rfl) rfl rfl (yp rfl) ?_
      refine sxl_y (wn_none rfl) rfl rfl (yp rfl) ?_
      refine sxl_y (wn_none rfl) rfl rfl (yp rfl) ?_
      refine sxl_y (wn_none rfl) rfl rfl (yp rfl) ?_
      refine sxl_y (wn_none rfl) rfl rfl (yp rfl) ?_
      refine sxl_nil ?_
      refine qx_seq ?_
      refine sx_seq ?_
      refine sx_region ?_
      refine sxl_y (wn_none rfl) rfl rfl (yp rfl) ?_
      refine sxl_y (wn_none rfl) rfl rfl (yp rfl) ?_
      refine sxl_call (some 59) (by first | exact wn_none rfl | exact wn_on rfl rfl rfl) rfl rfl (yc_call rfl rfl Try.call32) (rread_ok (k - 1) w7 R s b ((r.fr0 hf).fr0 hf7) hd (by omega) (co _ _ hb) hwm) ?_
      rintro _ w8 ⟨⟨v8, rfl, ho8⟩, hf8⟩
      refine ⟨_, rfl, ?_⟩
      obtain ⟨A7, c7, rfl, -, hr7, -, -⟩ := ownN_form ho7
      obtain ⟨A8, c8, rfl, -, hr8, -, -⟩ := ownN_form ho8
      refine sxl_y (wn_none rfl) rfl rfl (yp rfl) ?_
      refine sxl_y (wn_none rfl) rfl rfl (yp rfl) ?_
      refine sxl_y (wn_none rfl) rfl rfl (yp rfl) ?_
      refine sxl_y (wn_none rfl) rfl rfl (yp rfl) ?_
      refine sxl_y (wn_none rfl) rfl rfl (yp rfl) ?_
      refine sxl_nil ?_
      refine qx_seq ?_
      refine sx_seq ?_
      refine sx_region ?_
      refine sxl_y (wn_none rfl) rfl rfl (yp rfl) ?_
      refine sxl_y (wn_none rfl) rfl rfl (yp rfl) ?_
      refine sxl_y (wn_none rfl) rfl rfl (y_neq_f rfl rfl rfl (by omega)) ?_
      refine sxl_y (wn_none rfl) rfl rfl (yp rfl) ?_
      refine sxl_y (wn_on rfl rfl rfl) rfl rfl (yp rfl) ?_
      refine sxl_y (wn_on rfl rfl rfl) rfl rfl (yp rfl) ?_
      refine sxl_call (some 68) (by first | exact wn_none rfl | exact wn_on rfl rfl rfl) rfl rfl (yc_call rfl rfl Try.call19) (bytes_ok A7 A8 128 128 c7 c8 b b w8 (hr7.fr0 hf8) hr8 (by omega) (by omega)) ?_
      rintro _ w9 ⟨rfl, hf9⟩
      refine ⟨_, rfl, ?_⟩
      rw [decide_eq_true rfl]
      refine sxl_y (wn_on rfl rfl rfl) rfl rfl (yp rfl) ?_
      refine sxl_y (wn_none rfl) rfl rfl (yp rfl) ?_
      refine sxl_nil ?_
      refine qx_seq ?_
      refine sx_false rfl ?_
      refine sx_skip ?_
      refine qx_block_normal ?_
      refine qx_seq ?_
      refine sx_region ?_
      refine sxl_y (wn_none rfl) rfl rfl (yp rfl) ?_
      refine sxl_y (wn_none rfl) rfl rfl (y_add rfl rfl rfl (by omega)) ?_
      refine sxl_y (wn_none rfl) rfl rfl (yp rfl) ?_
      refine sxl_nil ?_
      exact qx_again [(5, .int .i64 (((k + 1 : Nat) : Int) - 1)), (0, .pointer (some ⟨L.gd, 0, none⟩)), (1, .pointer (some ⟨R.gd, 0, none⟩))] (41 - (k + 1)) ⟨k + 1, rfl, by omega, ((hf.then0 hf7).then0 hf8).then0 hf9, rfl⟩ (by omega) ⟨by simp only [Env.get]; congr 2; omega, rfl, rfl, trivial⟩
    · refine sx_seq ?_
      refine sx_seq ?_
      refine sx_region ?_
      refine sxl_y (wn_none rfl) rfl rfl (yp rfl) ?_
      refine sxl_y (wn_none rfl) rfl rfl (yp rfl) ?_
      refine sxl_pure (wn_none rfl) rfl rfl (yc_call rfl rfl Try.call40) (rlen_ok wr R s (r.fr0 hf)) ?_
      refine sxl_y (wn_none rfl) rfl rfl (y_leq_t rfl rfl rfl (by omega)) ?_
      refine sxl_y (wn_none rfl) rfl rfl (yp rfl) ?_
      refine sxl_y (wn_on rfl rfl rfl) rfl rfl (yp rfl) ?_
      refine sxl_y (wn_on rfl rfl rfl) rfl rfl (y_lss_t rfl rfl rfl (by omega)) ?_
      refine sxl_y (wn_none rfl) rfl rfl (yp rfl) ?_
      refine sxl_nil ?_
      refine qx_seq ?_
      refine sx_true rfl ?_
      refine sx_skip ?_
      refine qx_seq ?_
      refine sx_seq ?_
      refine sx_block ?_
      refine sx_seq ?_
      refine sx_region ?_
      refine sxl_y (wn_none rfl) rfl rfl (yp rfl) ?_
      refine sxl_y (wn_none rfl) rfl rfl (yp rfl) ?_
      refine sxl_pure (wn_none rfl) rfl rfl (yc_call rfl rfl Try.call17) (read_arg _ L.gd lA s.lasts.length lc wr (by rw [← hd]; exact (h.fr0 hf).c4) (by rw [(h.fr0 hf).c0, el]) (by omega)) ?_
      refine sxl_y (wn_none rfl) rfl rfl (yp rfl) ?_
      refine sxl_y (wn_none rfl) rfl rfl (yp rfl) ?_
      refine sxl_y (wn_none rfl) rfl rfl (yp rfl) ?_
      refine sxl_y (wn_none rfl) rfl rfl (yp rfl) ?_
      refine sxl_y (wn_none rfl) rfl rfl (yp rfl) ?_
      refine sxl_nil ?_
      refine qx_seq ?_
      refine sx_seq ?_
      refine sx_region ?_
      refine sxl_y (wn_none rfl) rfl rfl (yp rfl) ?_
      refine sxl_y (wn_none rfl) rfl rfl (yp rfl) ?_
      refine sxl_pure (wn_none rfl) rfl rfl (yc_call rfl rfl Try.call32) (rread_arg _ wr R s (r.fr0 hf) hd (by omega)) ?_
      refine sxl_y (wn_none rfl) rfl rfl (yp rfl) ?_
      refine sxl_y (wn_none rfl) rfl rfl (yp rfl) ?_
      refine sxl_y (wn_none rfl) rfl rfl (yp rfl) ?_
      refine sxl_y (wn_none rfl) rfl rfl (yp rfl) ?_
      refine sxl_y (wn_none rfl) rfl rfl (yp rfl) ?_
      refine sxl_nil ?_
      refine qx_seq ?_
      refine sx_seq ?_
      refine sx_region ?_
      refine sxl_y (wn_none rfl) rfl rfl (yp rfl) ?_
      refine sxl_y (wn_none rfl) rfl rfl (yp rfl) ?_
      refine sxl_y (wn_none rfl) rfl rfl (y_neq_f rfl rfl rfl (by omega)) ?_
      refine sxl_y (wn_none rfl) rfl rfl (yp rfl) ?_
      refine sxl_y (wn_on rfl rfl rfl) rfl rfl (yp rfl) ?_
      refine sxl_y (wn_on rfl rfl rfl) rfl rfl (yp rfl) ?_
      refine sxl_call (some 68) (by first | exact wn_none rfl | exact wn_on rfl rfl rfl) rfl rfl (yc_call rfl rfl Try.call19) (bytes_ok none none 0 0 0 0 [] [] wr Rd.nil Rd.nil (by omega) (by omega)) ?_
      rintro _ w9 ⟨rfl, hf9⟩
      refine ⟨_, rfl, ?_⟩
      rw [decide_eq_true rfl]
      refine sxl_y (wn_on rfl rfl rfl) rfl rfl (yp rfl) ?_
      refine sxl_y (wn_none rfl) rfl rfl (yp rfl) ?_
      refine sxl_nil ?_
      refine qx_seq ?_
      refine sx_false rfl ?_
      refine sx_skip ?_
      refine qx_block_normal ?_
      refine qx_seq ?_
      refine sx_region ?_
      refine sxl_y (wn_none rfl) rfl rfl (yp rfl) ?_
      refine sxl_y (wn_none rfl) rfl rfl (y_add rfl rfl rfl (by omega)) ?_
      refine sxl_y (wn_none rfl) rfl rfl (yp rfl) ?_
      refine sxl_nil ?_
      exact qx_again [(5, .int .i64 (((k + 1 : Nat) : Int) - 1)), (0, .pointer (some ⟨L.gd, 0, none⟩)), (1, .pointer (some ⟨R.gd, 0, none⟩))] (41 - (k + 1)) ⟨k + 1, rfl, by omega, hf.then0 hf9, rfl⟩ (by omega) ⟨by simp only [Env.get]; congr 2; omega, rfl, rfl, trivial⟩
  · by_cases hc1 : (k : Int) - 1 ≤ (s.lasts.length : Int)
    · refine sx_seq ?_
      refine sx_seq ?_
      refine sx_region ?_
      refine sxl_y (wn_none rfl) rfl rfl (yp rfl) ?_
      refine sxl_y (wn_none rfl) rfl rfl (yp rfl) ?_
      refine sxl_pure (wn_none rfl) rfl rfl (yc_call rfl rfl Try.call40) (rlen_ok wr R s (r.fr0 hf)) ?_
      refine sxl_y (wn_none rfl) rfl rfl (y_leq_t rfl rfl rfl (by omega)) ?_
      refine sxl_y (wn_none rfl) rfl rfl (yp rfl) ?_
      refine sxl_y (wn_on rfl rfl rfl) rfl rfl (yp rfl) ?_
      refine sxl_y (wn_on rfl rfl rfl) rfl rfl (y_lss_f rfl rfl rfl (by omega)) ?_
      refine sxl_y (wn_none rfl) rfl rfl (yp rfl) ?_
      refine sxl_nil ?_
      refine qx_seq ?_
      refine sx_false rfl ?_
      refine sx_exit ?_
      refine qx_then_exit ?_
      refine qx_then_exit ?_
      refine qx_block_hit ?_
      refine qx_seq ?_
      refine sx_seq ?_
      refine sx_region ?_
      refine sxl_y (wn_none rfl) rfl rfl (yp rfl) ?_
      refine sxl_nil ?_
      refine qx_seq ?_
      refine sx_ret ?_
      refine qx_ret1 rfl rfl ?_
      exact ⟨rfl, hf⟩
    · refine sx_seq ?_
      refine sx_seq ?_
      refine sx_region ?_
      refine sxl_y (wn_none rfl) rfl rfl (yp rfl) ?_
      refine sxl_y (wn_none rfl) rfl rfl (yp rfl) ?_
      refine sxl_pure (wn_none rfl) rfl rfl (yc_call rfl rfl Try.call40) (rlen_ok wr R s (r.fr0 hf)) ?_
      refine sxl_y (wn_none rfl) rfl rfl (y_leq_f rfl rfl rfl (by omega)) ?_
      refine sxl_y (wn_none rfl) rfl rfl (yp rfl) ?_
      refine sxl_off rfl rfl rfl rfl rfl rfl ?_
      refine sxl_off rfl rfl rfl rfl rfl rfl ?_
      refine sxl_y (wn_none rfl) rfl rfl (yp rfl) ?_
      refine sxl_nil ?_
      refine qx_seq ?_
      refine sx_false rfl ?_
      refine sx_exit ?_
      refine qx_then_exit ?_
      refine qx_then_exit ?_
      refine qx_block_hit ?_
      refine qx_seq ?_
      refine sx_seq ?_
      refine sx_region ?_
      refine sxl_y (wn_none rfl) rfl rfl (yp rfl) ?_
      refine sxl_nil ?_
      refine qx_seq ?_
      refine sx_ret ?_
      refine qx_ret1 rfl rfl ?_
      exact ⟨rfl, hf⟩
theorem told_ok (w : World) (L : DL) (R : RL) (s : DS) (h : DkAt w L s) (r : RkAt w R s) (co : s.dead = false → Coh s) (hwm : s.waits.length ≤ 1073741824) : Calls Try.prog 23 #[.pointer (some ⟨L.gd, 0, none⟩), .pointer (some ⟨R.gd, 0, none⟩)] w fun e w' => e = .returned (.bool true) ∧ Fr0 w w' := by
  cases hd : s.dead with
  | true => exact told_dead w L R s h r hd
  | false => exact told_live w L R s h r hd (co hd) hwm
end Go.Proofs.Ytbfeailalhddgaa
