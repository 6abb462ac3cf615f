/- The law's helper awake. -/
import Derived.Test.YtbfeailalhddgaaDiskLaw2
namespace Go.Proofs.Ytbfeailalhddgaa
open Go.RowKit

/-- A disk that was made since w0. -/
structure Has (w0 w : World) (L : DL) (s : DS) : Prop where
  fr : Fr0 w0 w
  dk : DkAt w L s
  ge : ∀ b, L.blocks b → w0.heap.size ≤ b
theorem Has.to {w0 w w' : World} {L L' : DL} {s s' : DS} (h : Has w0 w L s) (h' : DkTo w w' L L' s') : Has w0 w' L' s' where
  fr := h.fr.step h'.fr (fun b hb hh => by have := h.ge b hh; omega)
  dk := h'.dk
  ge := fun b hb => by
    have := h.fr.size
    rcases h'.bl b hb with hb | hb
    · exact h.ge b hb
    · omega
theorem Has.fr0 {w0 w w' : World} {L : DL} {s : DS} (h : Has w0 w L s) (hf : Fr0 w w') : Has w0 w' L s := ⟨h.fr.then0 hf, h.dk.fr0 hf, h.ge⟩
theorem rep_len (c : UInt8) : (List.replicate 128 c).length = 128 := List.length_replicate
theorem rd_full {w : World} {g : Nat} {c : UInt8} (h : Blk w g 5 (bvs (List.replicate 128 c))) : Rd w (some ⟨g, 0, none⟩) 128 (bvs (List.replicate 128 c)) := Rd.ofBlk h (by rw [bvs_length, rep_len])
/-- A sector full of c is written. -/
theorem write_full {w0 w w' : World} {L : DL} {s : DS} (h : Has w0 w L s) (hf : Fr0 w w') (i : Nat) (c : UInt8) (g : Nat) (hg : w.heap.size ≤ g) (hb : Blk w' g 5 (bvs (List.replicate 128 c))) (hd : s.dead = false) (hi : i < s.lasts.length) (hwm : s.waits.length ≤ 1073741824) (hdm : s.done ≤ 1073741824) :
    Calls Try.prog 9 #[.pointer (some ⟨L.gd, 0, none⟩), .int .i64 (i : Int), .slice (some ⟨g, 0, none⟩) 128 128] w' fun e w'' => ∃ L', e = .returned (.int .i64 (s.writes i (List.replicate 128 c)).2) ∧ DkTo w' w'' L L' (s.writes i (List.replicate 128 c)).1 ∧ Has w0 w'' L' (s.writes i (List.replicate 128 c)).1 := by
  refine (write_ok i (List.replicate 128 c) (some ⟨g, 0, none⟩) 128 w' L s (h.dk.fr0 hf) hd hi (rep_len c) (rd_full hb) ?_ hwm hdm).mono ?_
  · intro g' off e hh
    injection e with e; injection e with e
    have := h.dk.lt hh
    omega
  · rintro e w'' ⟨L', rfl, h'⟩
    exact ⟨L', rfl, h', (h.fr0 hf).to h'⟩
def awakeS : DS := (((((((newDS 2).put 0 (List.replicate 128 97)).more).flush).put 0 (List.replicate 128 98)).more).crash [] (-1) 0).reopen
theorem awakeS_read : awakeS.shows[0]? = some (List.replicate 128 97) := by
  simp [awakeS, DS.reopen, DS.crash, DS.put, DS.more, DS.flush, newDS, flushAll, crashFrom, crashOne]
set_option maxHeartbeats 4000000 in
theorem awake_ok (w : World) : Calls Try.prog 8 #[] w fun e w' => e = .returned (.bool true) ∧ Fr0 w w' := by
  refine sx_enter (vs := []) Try.func8 rfl Try.ntmps8 rfl ?_
  refine sx_seq ?_
  refine sx_region ?_
  refine sxl_y (wn_none rfl) rfl rfl (yp rfl) ?_
  refine sxl_nil ?_
  refine qx_seq ?_
  refine sx_seq ?_
  refine sx_region ?_
  refine sxl_call (some 6) (by first | exact wn_none rfl | exact wn_on rfl rfl rfl) rfl rfl (yc_call rfl rfl Try.call7) (new_ok 2 w (by omega) (by omega)) ?_
  rintro _ w1 ⟨L1, rfl, h1, hL1, hf1⟩
  refine ⟨_, rfl, ?_⟩
  have H1 : Has w w1 L1 (newDS 2) := ⟨hf1, h1, hL1⟩
  refine sxl_y (wn_none rfl) rfl rfl (yp rfl) ?_
  refine sxl_y (wn_none rfl) rfl rfl (yp rfl) ?_
  refine sxl_y (wn_none rfl) rfl rfl (yp rfl) ?_
  refine sxl_y (wn_none rfl) rfl rfl (yp rfl) ?_
  refine sxl_y (wn_none rfl) rfl rfl (yp rfl) ?_
  refine sxl_nil ?_
  refine qx_seq ?_
  refine sx_seq ?_
  refine sx_seq ?_
  refine sx_region ?_
  refine sxl_y (wn_none rfl) rfl rfl (yp rfl) ?_
  refine sxl_y (wn_none rfl) rfl rfl (y_neq_f rfl rfl rfl (by omega)) ?_
  refine sxl_y (wn_none rfl) rfl rfl (yp rfl) ?_
  refine sxl_y (wn_on rfl rfl rfl) rfl rfl (yp rfl) ?_
  refine sxl_call (some 13) (by first | exact wn_none rfl | exact wn_on rfl rfl rfl) rfl rfl (yc_call rfl rfl Try.call10) (full_ok 97 w1) ?_
  rintro _ w2 ⟨g2, rfl, hg2, hb2, hf2⟩
  refine ⟨_, rfl, ?_⟩
  refine sxl_call (some 14) (by first | exact wn_none rfl | exact wn_on rfl rfl rfl) rfl rfl (yc_call rfl rfl Try.call9) (write_full H1 hf2 0 97 g2 hg2 hb2 rfl (by rw [newDS_len]; omega) (Nat.zero_le _) (Nat.zero_le _)) ?_
  rintro _ w3 ⟨L3, rfl, h3, H3⟩
  refine ⟨_, rfl, ?_⟩
  rw [writes_plain _ rfl] at h3 H3 ⊢
  rw [← h3.gd]
  refine sxl_y (wn_on rfl rfl rfl) rfl rfl (y_neq_f rfl rfl rfl (by omega)) ?_
  refine sxl_y (wn_none rfl) rfl rfl (yp rfl) ?_
  refine sxl_y (wn_none rfl) rfl rfl (yp rfl) ?_
  refine sxl_y (wn_on rfl rfl rfl) rfl rfl (yp rfl) ?_
  refine sxl_call (some 19) (by first | exact wn_none rfl | exact wn_on rfl rfl rfl) rfl rfl (yc_call rfl rfl Try.call11) (flush_ok w3 L3 _ H3.dk rfl (by decide)) ?_
  rintro _ w4 ⟨L4, rfl, h4⟩
  refine ⟨_, rfl, ?_⟩
  have H4 := H3.to h4
  rw [flushes_plain _ rfl] at h4 H4 ⊢
  rw [← h4.gd]
  refine sxl_y (wn_on rfl rfl rfl) rfl rfl (y_neq_f rfl rfl rfl (by omega)) ?_
  refine sxl_y (wn_none rfl) rfl rfl (yp rfl) ?_
  refine sxl_y (wn_none rfl) rfl rfl (yp rfl) ?_
  refine sxl_y (wn_on rfl rfl rfl) rfl rfl (yp rfl) ?_
  refine sxl_call (some 24) (by first | exact wn_none rfl | exact wn_on rfl rfl rfl) rfl rfl (yc_call rfl rfl Try.call10) (full_ok 98 w4) ?_
  rintro _ w5 ⟨g5, rfl, hg5, hb5, hf5⟩
  refine ⟨_, rfl, ?_⟩
  refine sxl_call (some 25) (by first | exact wn_none rfl | exact wn_on rfl rfl rfl) rfl rfl (yc_call rfl rfl Try.call9) (write_full H4 hf5 0 98 g5 hg5 hb5 rfl (by show 0 < (flushAll _ _).length; rw [flushAll_length]; show 0 < (newDS 2).lasts.length; rw [newDS_len]; omega) (Nat.zero_le _) (by decide)) ?_
  rintro _ w6 ⟨L6, rfl, h6, H6⟩
  refine ⟨_, rfl, ?_⟩
  rw [writes_plain _ rfl] at h6 H6 ⊢
  rw [← h6.gd]
  refine sxl_y (wn_on rfl rfl rfl) rfl rfl (y_neq_f rfl rfl rfl (by omega)) ?_
  refine sxl_y (wn_none rfl) rfl rfl (yp rfl) ?_
  refine sxl_y (wn_none rfl) rfl rfl (yp rfl) ?_
  refine sxl_y (wn_on rfl rfl rfl) rfl rfl (yp rfl) ?_
  refine sxl_y (wn_on rfl rfl rfl) rfl rfl (y_build (cells := #[.slice none 0 0, .int .i64 (-1), .int .i64 0]) rfl rfl (by kernel_rfl)) ?_
  refine sxl_call (some 31) (by first | exact wn_none rfl | exact wn_on rfl rfl rfl) rfl rfl (yc_call rfl rfl Try.call12) (crashC_ok none 0 [] (-1) 0 w6 L6 _ H6.dk rfl Rd.nil (fun hh => absurd hh (by simp)) (by omega)) ?_
  rintro _ w7 ⟨L7, rfl, h7⟩
  refine ⟨_, rfl, ?_⟩
  have H7 := H6.to h7
  rw [← h7.gd]
  refine sxl_y (wn_on rfl rfl rfl) rfl rfl (y_neq_f rfl rfl rfl (by omega)) ?_
  refine sxl_y (wn_none rfl) rfl rfl (yp rfl) ?_
  refine sxl_nil ?_
  refine qx_seq ?_
  refine sx_false rfl ?_
  refine sx_skip ?_
  refine qx_seq ?_
  refine sx_seq ?_
  refine sx_region ?_
  refine sxl_y (wn_none rfl) rfl rfl (yp rfl) ?_
  refine sxl_call (some 36) (by first | exact wn_none rfl | exact wn_on rfl rfl rfl) rfl rfl (yc_call rfl rfl Try.call14) (reopen_ok w7 L7 _ H7.dk rfl) ?_
  rintro _ w8 ⟨L8, rfl, h8, hL8, hf8⟩
  refine ⟨_, rfl, ?_⟩
  refine sxl_y (wn_none rfl) rfl rfl (yp rfl) ?_
  refine sxl_y (wn_none rfl) rfl rfl (yp rfl) ?_
  refine sxl_y (wn_none rfl) rfl rfl (yp rfl) ?_
  refine sxl_y (wn_none rfl) rfl rfl (yp rfl) ?_
  refine sxl_y (wn_none rfl) rfl rfl (yp rfl) ?_
  refine sxl_nil ?_
  refine qx_seq ?_
  refine sx_seq ?_
  refine sx_seq ?_
  refine sx_region ?_
  refine sxl_y (wn_none rfl) rfl rfl (yp rfl) ?_
  refine sxl_y (wn_none rfl) rfl rfl (y_neq_f rfl rfl rfl (by omega)) ?_
  refine sxl_nil ?_
  refine qx_seq ?_
  refine sx_false rfl ?_
  refine sx_skip ?_
  refine qx_seq ?_
  refine sx_seq ?_
  refine sx_region ?_
  refine sxl_y (wn_none rfl) rfl rfl (yp rfl) ?_
  refine sxl_call (some 43) (by first | exact wn_none rfl | exact wn_on rfl rfl rfl) rfl rfl (yc_call rfl rfl Try.call17) (read_ok 0 w8 L8 _ (List.replicate 128 97) h8 rfl awakeS_read) ?_
  rintro _ w9 ⟨⟨v, rfl, ho⟩, hf9⟩
  refine ⟨_, rfl, ?_⟩
  refine sxl_y (wn_none rfl) rfl rfl (yp rfl) ?_
  refine sxl_y (wn_none rfl) rfl rfl (yp rfl) ?_
  refine sxl_y (wn_none rfl) rfl rfl (yp rfl) ?_
  refine sxl_y (wn_none rfl) rfl rfl (yp rfl) ?_
  refine sxl_y (wn_none rfl) rfl rfl (yp rfl) ?_
  refine sxl_nil ?_
  refine qx_seq ?_
  refine sx_seq ?_
  refine sx_region ?_
  refine sxl_y (wn_none rfl) rfl rfl (yp rfl) ?_
  refine sxl_y (wn_none rfl) rfl rfl (y_eql_t rfl rfl rfl (by omega)) ?_
  refine sxl_y (wn_none rfl) rfl rfl (yp rfl) ?_
  refine sxl_y (wn_on rfl rfl rfl) rfl rfl (yp rfl) ?_
  refine sxl_call (some 50) (by first | exact wn_none rfl | exact wn_on rfl rfl rfl) rfl rfl (yc_call rfl rfl Try.call10) (full_ok 97 w9) ?_
  rintro _ w10 ⟨g10, rfl, hg10, hb10, hf10⟩
  refine ⟨_, rfl, ?_⟩
  obtain ⟨A, c, rfl, _, hr, _⟩ := ownN_form ho
  refine sxl_call (some 51) (by first | exact wn_none rfl | exact wn_on rfl rfl rfl) rfl rfl (yc_call rfl rfl Try.call19) (bytes_ok A _ 128 128 c 128 (List.replicate 128 97) (List.replicate 128 97) w10 (hr.fr0 hf10) (rd_full hb10) (by omega) (by omega)) ?_
  rintro _ w11 ⟨rfl, hf11⟩
  refine ⟨_, rfl, ?_⟩
  rw [decide_eq_true rfl]
  refine sxl_y (wn_none rfl) rfl rfl (yp rfl) ?_
  refine sxl_y (wn_none rfl) rfl rfl (yp rfl) ?_
  refine sxl_nil ?_
  refine qx_seq ?_
  refine sx_ret ?_
  refine qx_ret1 rfl rfl ?_
  exact ⟨rfl, (((H7.fr.then0 hf8).then0 hf9).then0 hf10).then0 hf11⟩
end Go.Proofs.Ytbfeailalhddgaa
