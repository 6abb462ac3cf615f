/- The law DiskNames, walked. -/
import Derived.Test.YtbfeailalhddgaaDisk12
import Derived.Test.YtbfeailalhddgaaSx2
import Derived.Below
namespace Go.Proofs.Ytbfeailalhddgaa
open Go.RowKit

theorem newDS_len (n : Nat) : (newDS n).lasts.length = n := by simp [newDS]
theorem writes_plain (s : DS) (h : s.fset = false) (i : Nat) (b : List UInt8) : s.writes i b = ((s.put i b).more, 0) := by simp [DS.writes, DS.due, DS.burnt, h]
theorem flushes_plain (s : DS) (h : s.fset = false) : s.flushes = (s.flush, 0) := by simp [DS.flushes, DS.due, DS.burnt, h]
theorem zsec_made : List.replicate 128 (Value.int .u8 0) = bvs zsec := zsec_bvs.symm

set_option maxHeartbeats 4000000 in
theorem diskNames_walk (w : World) : Calls Try.prog 6 #[] w fun e w' => e = .returned (.bool true) ∧ Fr0 w w' := by
  refine sx_enter (vs := []) Try.func6 rfl Try.ntmps6 rfl ?_
  refine sx_seq ?_
  refine sx_region ?_
  refine sxl_y (wn_none rfl) rfl rfl (yp rfl) ?_
  refine sxl_nil ?_
  refine qx_seq ?_
  refine sx_seq ?_
  refine sx_region ?_
  refine sxl_y (wn_none rfl) rfl rfl (yp rfl) ?_
  refine sxl_nil ?_
  refine qx_seq ?_
  refine sx_seq ?_
  refine sx_region ?_
  refine sxl_y (wn_none rfl) rfl rfl (yp rfl) ?_
  refine sxl_pure (wn_none rfl) rfl rfl (yc_call rfl rfl Try.call17) (read_nil _ _) ?_
  refine sxl_y (wn_none rfl) rfl rfl (yp rfl) ?_
  refine sxl_y (wn_none rfl) rfl rfl (yp rfl) ?_
  refine sxl_y (wn_none rfl) rfl rfl (yp rfl) ?_
  refine sxl_y (wn_none rfl) rfl rfl (yp rfl) ?_
  refine sxl_y (wn_none rfl) rfl rfl (yp rfl) ?_
  refine sxl_nil ?_
  refine qx_seq ?_
  refine sx_seq ?_
  refine sx_region ?_
  refine sxl_y (wn_none rfl) rfl rfl (yp rfl) ?_
  refine sxl_pure (wn_none rfl) rfl rfl (yc_call rfl rfl Try.call14) (reopen_nil _) ?_
  refine sxl_y (wn_none rfl) rfl rfl (yp rfl) ?_
  refine sxl_y (wn_none rfl) rfl rfl (yp rfl) ?_
  refine sxl_y (wn_none rfl) rfl rfl (yp rfl) ?_
  refine sxl_y (wn_none rfl) rfl rfl (yp rfl) ?_
  refine sxl_y (wn_none rfl) rfl rfl (yp rfl) ?_
  refine sxl_nil ?_
  refine qx_seq ?_
  refine sx_seq ?_
  refine sx_region ?_
  refine sxl_call (some 24) (by first | exact wn_none rfl | exact wn_on rfl rfl rfl) rfl rfl (yc_call rfl rfl Try.call7) (new_ok 65536 w (by omega) (by omega)) ?_
  rintro _ w1 ⟨L, rfl, h1, hL1, hf1⟩
  refine ⟨_, rfl, ?_⟩
  refine sxl_y (wn_none rfl) rfl rfl (yp rfl) ?_
  refine sxl_y (wn_none rfl) rfl rfl (yp rfl) ?_
  refine sxl_y (wn_none rfl) rfl rfl (yp rfl) ?_
  refine sxl_y (wn_none rfl) rfl rfl (yp rfl) ?_
  refine sxl_y (wn_none rfl) rfl rfl (yp rfl) ?_
  refine sxl_nil ?_
  refine qx_seq ?_
  refine sx_seq ?_
  refine sx_region ?_
  refine sxl_call (some 28) (by first | exact wn_none rfl | exact wn_on rfl rfl rfl) rfl rfl (yc_call rfl rfl Try.call7) (new_arg 65537 w1 (by omega)) ?_
  rintro _ _ ⟨rfl, rfl⟩
  refine ⟨_, rfl, ?_⟩
  refine sxl_y (wn_none rfl) rfl rfl (yp rfl) ?_
  refine sxl_y (wn_none rfl) rfl rfl (yp rfl) ?_
  refine sxl_y (wn_none rfl) rfl rfl (yp rfl) ?_
  refine sxl_y (wn_none rfl) rfl rfl (yp rfl) ?_
  refine sxl_y (wn_none rfl) rfl rfl (yp rfl) ?_
  refine sxl_nil ?_
  refine qx_seq ?_
  refine sx_seq ?_
  refine sx_seq ?_
  refine sx_region ?_
  refine sxl_y (wn_none rfl) rfl rfl (yp rfl) ?_
  refine sxl_y (wn_none rfl) rfl rfl (y_neq_f rfl rfl rfl (by omega)) ?_
  refine sxl_nil ?_
  refine qx_seq ?_
  refine sx_false rfl ?_
  refine sx_skip ?_
  refine qx_seq ?_
  refine sx_seq ?_
  refine sx_region ?_
  refine sxl_y (wn_none rfl) rfl rfl (yp rfl) ?_
  refine sxl_does (some 34) (wn_none rfl) rfl rfl (fun ρ hρ => does_make1 32 _ _ rfl 5 (.int .u8 0) 1 128 Try.underlying32 (by kernel_rfl) rfl (hρ _ _ rfl) (hρ _ _ rfl) (by omega) (by omega)) ?_
  rintro _ w2 ⟨g, rfl, hg, hg', hb2, hf2⟩
  rw [zsec_made] at hb2
  have h2 := h1.fr0 hf2
  have hrd : Rd w2 (some ⟨g, 0, none⟩) 128 (bvs zsec) := Rd.ofBlk hb2 (by rw [bvs_length, zsec_length])
  refine sxl_call (some 35) (by first | exact wn_none rfl | exact wn_on rfl rfl rfl) rfl rfl (yc_call rfl rfl Try.call9) (write_ok 65535 zsec _ 128 w2 L (newDS 65536) h2 rfl (by rw [newDS_len]; omega) zsec_length hrd (fun g' off e hb => by injection e with e; injection e with e; have := h1.lt hb; omega) (Nat.zero_le _) (Nat.zero_le _)) ?_
  rintro _ w3 ⟨L3, rfl, h3⟩
  refine ⟨_, rfl, ?_⟩
  rw [writes_plain _ rfl] at h3 ⊢
  have e3 : (((newDS 65536).put 65535 zsec).more).dead = false := rfl
  have hk3 : Rd w3 none ([] : List Bool).length (boolsV []) := Rd.nil
  revert h3 e3
  generalize ((newDS 65536).put 65535 zsec).more = s3
  intro h3 e3
  have h3 := h3
  refine sxl_y (wn_none rfl) rfl rfl (yp rfl) ?_
  refine sxl_nil ?_
  refine qx_seq ?_
  refine sx_seq ?_
  refine sx_region ?_
  refine sxl_y (wn_none rfl) rfl rfl (yp rfl) ?_
  refine sxl_y (wn_none rfl) rfl rfl (y_build (cells := #[.slice none 0 0, .int .i64 0, .int .i64 129]) rfl rfl (by kernel_rfl)) ?_
  rw [← h3.gd]
  refine sxl_call (some 38) (by first | exact wn_none rfl | exact wn_on rfl rfl rfl) rfl rfl (yc_call rfl rfl Try.call12) (crashC_arg _ _ _ w3 L3 s3 h3.dk e3 (by omega)) ?_
  rintro _ w4 ⟨rfl, hf4⟩
  refine ⟨_, rfl, ?_⟩
  have h4 := h3.dk.fr0 hf4
  refine sxl_y (wn_none rfl) rfl rfl (yp rfl) ?_
  refine sxl_nil ?_
  refine qx_seq ?_
  refine sx_seq ?_
  refine sx_region ?_
  refine sxl_y (wn_none rfl) rfl rfl (yp rfl) ?_
  refine sxl_y (wn_none rfl) rfl rfl (y_build (cells := #[.slice none 0 0, .int .i64 0, .int .i64 128]) rfl rfl (by kernel_rfl)) ?_
  refine sxl_call (some 41) (by first | exact wn_none rfl | exact wn_on rfl rfl rfl) rfl rfl (yc_call rfl rfl Try.call12) (crashC_ok none 0 [] 0 128 w4 L3 s3 h4 e3 Rd.nil (fun hh => absurd hh (by simp)) (by omega)) ?_
  rintro _ w5 ⟨L5, rfl, h5⟩
  refine ⟨_, rfl, ?_⟩
  refine sxl_y (wn_none rfl) rfl rfl (yp rfl) ?_
  refine sxl_nil ?_
  refine qx_seq ?_
  refine sx_seq ?_
  refine sx_region ?_
  refine sxl_y (wn_none rfl) rfl rfl (yp rfl) ?_
  refine sxl_y (wn_none rfl) rfl rfl (y_eql_t rfl rfl rfl (by omega)) ?_
  refine sxl_y (wn_none rfl) rfl rfl (yp rfl) ?_
  refine sxl_y (wn_on rfl rfl rfl) rfl rfl (yp rfl) ?_
  refine sxl_y (wn_on rfl rfl rfl) rfl rfl (y_eql_t rfl rfl rfl (by omega)) ?_
  refine sxl_y (wn_none rfl) rfl rfl (yp rfl) ?_
  refine sxl_y (wn_none rfl) rfl rfl (yp rfl) ?_
  refine sxl_y (wn_on rfl rfl rfl) rfl rfl (yp rfl) ?_
  refine sxl_pure (wn_on rfl rfl rfl) rfl rfl (yc_call rfl rfl Try.call9) (write_nil _ _ _) ?_
  refine sxl_y (wn_on rfl rfl rfl) rfl rfl (y_eql_t rfl rfl rfl (by omega)) ?_
  refine sxl_y (wn_none rfl) rfl rfl (yp rfl) ?_
  refine sxl_y (wn_none rfl) rfl rfl (yp rfl) ?_
  refine sxl_y (wn_on rfl rfl rfl) rfl rfl (yp rfl) ?_
  refine sxl_pure (wn_on rfl rfl rfl) rfl rfl (yc_call rfl rfl Try.call11) (flush_nil _) ?_
  refine sxl_y (wn_on rfl rfl rfl) rfl rfl (y_eql_t rfl rfl rfl (by omega)) ?_
  refine sxl_y (wn_none rfl) rfl rfl (yp rfl) ?_
  refine sxl_y (wn_none rfl) rfl rfl (yp rfl) ?_
  refine sxl_y (wn_on rfl rfl rfl) rfl rfl (yp rfl) ?_
  refine sxl_y (wn_on rfl rfl rfl) rfl rfl (y_build (cells := #[.slice none 0 0, .int .i64 0, .int .i64 0]) rfl rfl (by kernel_rfl)) ?_
  refine sxl_call (some 61) (by first | exact wn_none rfl | exact wn_on rfl rfl rfl) rfl rfl (yc_call rfl rfl Try.call12) (crashC_nil _ _ _ w5) ?_
  rintro _ w6 ⟨rfl, hf6⟩
  refine ⟨_, rfl, ?_⟩
  refine sxl_y (wn_on rfl rfl rfl) rfl rfl (y_eql_t rfl rfl rfl (by omega)) ?_
  refine sxl_y (wn_none rfl) rfl rfl (yp rfl) ?_
  refine sxl_y (wn_none rfl) rfl rfl (yp rfl) ?_
  refine sxl_y (wn_on rfl rfl rfl) rfl rfl (yp rfl) ?_
  refine sxl_y (wn_on rfl rfl rfl) rfl rfl (y_build (cells := #[.slice none 0 0, .int .i64 0, .int .i64 0]) rfl rfl (by kernel_rfl)) ?_
  refine sxl_call (some 67) (by first | exact wn_none rfl | exact wn_on rfl rfl rfl) rfl rfl (yc_call rfl rfl Try.call18) (fuse_nil _ _ _ _ w6) ?_
  rintro _ w7 ⟨rfl, hf7⟩
  refine ⟨_, rfl, ?_⟩
  refine sxl_y (wn_on rfl rfl rfl) rfl rfl (y_eql_t rfl rfl rfl (by omega)) ?_
  refine sxl_y (wn_none rfl) rfl rfl (yp rfl) ?_
  refine sxl_y (wn_none rfl) rfl rfl (yp rfl) ?_
  refine sxl_y (wn_on rfl rfl rfl) rfl rfl (yp rfl) ?_
  refine sxl_pure (wn_on rfl rfl rfl) rfl rfl (yc_call rfl rfl Try.call20) (len_nil _) ?_
  refine sxl_y (wn_on rfl rfl rfl) rfl rfl (y_eql_t rfl rfl rfl (by omega)) ?_
  refine sxl_y (wn_none rfl) rfl rfl (yp rfl) ?_
  refine sxl_y (wn_none rfl) rfl rfl (yp rfl) ?_
  refine sxl_y (wn_on rfl rfl rfl) rfl rfl (yp rfl) ?_
  refine sxl_pure (wn_on rfl rfl rfl) rfl rfl (yc_call rfl rfl Try.call15) (waits_nil _) ?_
  refine sxl_y (wn_on rfl rfl rfl) rfl rfl (y_eql_t rfl rfl rfl (by omega)) ?_
  refine sxl_y (wn_none rfl) rfl rfl (yp rfl) ?_
  refine sxl_y (wn_none rfl) rfl rfl (yp rfl) ?_
  refine sxl_y (wn_on rfl rfl rfl) rfl rfl (yp rfl) ?_
  refine sxl_pure (wn_on rfl rfl rfl) rfl rfl (yc_call rfl rfl Try.call16) (done_nil _) ?_
  refine sxl_y (wn_on rfl rfl rfl) rfl rfl (y_eql_t rfl rfl rfl (by omega)) ?_
  refine sxl_y (wn_none rfl) rfl rfl (yp rfl) ?_
  refine sxl_y (wn_none rfl) rfl rfl (yp rfl) ?_
  refine sxl_y (wn_on rfl rfl rfl) rfl rfl (yp rfl) ?_
  refine sxl_pure (wn_on rfl rfl rfl) rfl rfl (yc_call rfl rfl Try.call13) (dead_nil _) ?_
  refine sxl_y (wn_on rfl rfl rfl) rfl rfl (yp rfl) ?_
  refine sxl_y (wn_none rfl) rfl rfl (yp rfl) ?_
  refine sxl_y (wn_none rfl) rfl rfl (yp rfl) ?_
  refine sxl_y (wn_on rfl rfl rfl) rfl rfl (yp rfl) ?_
  refine sxl_pure (wn_on rfl rfl rfl) rfl rfl (yc_call rfl rfl Try.call24) (copy_nil _) ?_
  refine sxl_y (wn_on rfl rfl rfl) rfl rfl (y_eqlNil rfl rfl rfl (pt rfl)) ?_
  refine sxl_y (wn_none rfl) rfl rfl (yp rfl) ?_
  refine sxl_y (wn_none rfl) rfl rfl (yp rfl) ?_
  refine sxl_y (wn_on rfl rfl rfl) rfl rfl (yp rfl) ?_
  refine sxl_y (wn_on rfl rfl rfl) rfl rfl (y_eql_t rfl rfl rfl (by omega)) ?_
  refine sxl_y (wn_none rfl) rfl rfl (yp rfl) ?_
  refine sxl_y (wn_none rfl) rfl rfl (yp rfl) ?_
  refine sxl_y (wn_on rfl rfl rfl) rfl rfl (yp rfl) ?_
  refine sxl_y (wn_on rfl rfl rfl) rfl rfl (y_eql_t rfl rfl rfl (by omega)) ?_
  refine sxl_y (wn_none rfl) rfl rfl (yp rfl) ?_
  refine sxl_y (wn_none rfl) rfl rfl (yp rfl) ?_
  refine sxl_y (wn_on rfl rfl rfl) rfl rfl (yp rfl) ?_
  refine sxl_y (wn_on rfl rfl rfl) rfl rfl (y_eql_t rfl rfl rfl (by omega)) ?_
  refine sxl_y (wn_none rfl) rfl rfl (yp rfl) ?_
  refine sxl_y (wn_none rfl) rfl rfl (yp rfl) ?_
  refine sxl_y (wn_on rfl rfl rfl) rfl rfl (yp rfl) ?_
  refine sxl_y (wn_on rfl rfl rfl) rfl rfl (y_eql_t rfl rfl rfl (by omega)) ?_
  refine sxl_y (wn_none rfl) rfl rfl (yp rfl) ?_
  refine sxl_y (wn_none rfl) rfl rfl (yp rfl) ?_
  refine sxl_y (wn_none rfl) rfl rfl (yp rfl) ?_
  refine sxl_y (wn_none rfl) rfl rfl (yp rfl) ?_
  refine sxl_nil ?_
  refine qx_seq ?_
  refine sx_ret ?_
  refine qx_ret1 rfl rfl ?_
  refine ⟨rfl, ?_⟩
  have hs1 := hf1.size
  have hs2 := hf2.size
  have hs3 := h3.fr.size
  have hs4 := hf4.size
  have hF : Fr0 w w3 := (hf1.then0 hf2).step h3.fr (fun b hb hh => by have := hL1 b hh; omega)
  have hF5 : Fr0 w w5 := (hF.then0 hf4).step h5.fr (fun b hb hh => by
    rcases h3.bl b hh with hh | hh
    · have := hL1 b hh; omega
    · omega)
  exact (hF5.then0 hf6).then0 hf7
end Go.Proofs.Ytbfeailalhddgaa
