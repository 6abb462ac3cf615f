/- The document's disk: New, Read. -/
import Derived.Test.YtbfeailalhddgaaRef1
namespace Go.Proofs.Ytbfeailalhddgaa
open Go.RowKit

theorem info_bytes : (Try.prog.info? 32).map (fun i => (i.zero, i.size, i.bytes)) = some (some (.slice none 0 0), 1, 24) := by kernel_rfl
theorem info_u8 : (Try.prog.info? 5).map (fun i => (i.zero, i.size, i.bytes)) = some (some (.int .u8 0), 1, 1) := by kernel_rfl
theorem own_zsec {w : World} {g : Nat} (h : Blk w g 5 (List.replicate 128 (.int .u8 0))) : w.ownsRow 0 5 1 (.slice (some ⟨g, 0, none⟩) 128 128) 128 (bvs zsec) := by
  rw [zsec_bvs]
  have := own_of_blk (base := 0) h (Nat.zero_le _) (by simp [maxLen]) 128 (by simp)
  simpa using this
/-- A row of one new slice value. -/
theorem rd_one {w : World} {g : Nat} {t : TypeId} {v : Value} (h : Blk w g t [v]) : Rd w (some ⟨g, 0, none⟩) 1 [v] := Rd.ofBlk h rfl
set_option maxHeartbeats 4000000 in
theorem rnew_ok (n : Nat) (w : World) (h1 : 1 ≤ n) (h2 : n ≤ 65536) : Calls Try.prog 21 #[.int .i64 (n : Int)] w fun e w' => ∃ R, e = .returned (.tuple #[.pointer (some ⟨R.gd, 0, none⟩), .int .i64 0]) ∧ RkAt w' R (newDS n) ∧ (∀ b, R.own b → w.heap.size ≤ b) ∧ (∀ b, R.ro b → w.heap.size ≤ b) ∧ Fr0 w w' := by
  refine sx_enter (vs := [_]) Try.func21 rfl Try.ntmps21 rfl ?_
  refine sx_seq ?_
  refine sx_region ?_
  refine sxl_y (wn_none rfl) rfl rfl (yp rfl) ?_
  refine sxl_y (wn_none rfl) rfl rfl (yp rfl) ?_
  refine sxl_nil ?_
  refine qx_seq ?_
  refine sx_seq ?_
  refine sx_seq ?_
  refine sx_region ?_
  refine sxl_y (wn_none rfl) rfl rfl (yp rfl) ?_
  refine sxl_y (wn_none rfl) rfl rfl (y_lss_f rfl rfl rfl (by omega)) ?_
  refine sxl_y (wn_none rfl) rfl rfl (yp rfl) ?_
  refine sxl_y (wn_on rfl rfl rfl) rfl rfl (yp rfl) ?_
  refine sxl_y (wn_on rfl rfl rfl) rfl rfl (y_gtr_f rfl rfl rfl (by omega)) ?_
  refine sxl_y (wn_none rfl) rfl rfl (yp rfl) ?_
  refine sxl_nil ?_
  refine qx_seq ?_
  refine sx_false rfl ?_
  refine sx_skip ?_
  refine qx_seq ?_
  refine sx_seq ?_
  refine sx_region ?_
  refine sxl_y (wn_none rfl) rfl rfl (y_build (cells := #[.slice none 0 0, .slice none 0 0, .int .i64 0, .bool false, .bool false, .int .i64 0, .slice none 0 0, .int .i64 0, .int .i64 0]) rfl rfl (by kernel_rfl)) ?_
  refine sxl_does (some 13) (wn_none rfl) rfl rfl (fun ρ hρ => does_box 76 (.tmp 12) rfl [.slice none 0 0, .slice none 0 0, .int .i64 0, .bool false, .bool false, .int .i64 0, .slice none 0 0, .int .i64 0, .int .i64 0] (by rw [hρ _ _ rfl]; rfl)) ?_
  rintro _ w1 ⟨gd, rfl, hgd, hgd', hb1, hf1⟩
  refine sxl_y (wn_none rfl) rfl rfl (yp rfl) ?_
  refine sxl_nil ?_
  refine qx_seq ?_
  refine sx_seq ?_
  refine sx_seq ?_
  refine sx_region ?_
  refine sxl_y (wn_none rfl) rfl rfl (yp rfl) ?_
  refine sxl_nil ?_
  refine qx_seq ?_
  refine sx_block ?_
  refine sx_loop (fun e wr m => ∃ (i : Nat) (vl : Value) (sv : List Value), e = [(5, .int .i64 (i : Int)), (4, .pointer (some ⟨gd, 0, none⟩)), (0, .int .i64 (n : Int))] ∧ i ≤ n ∧ Blk wr gd 76 [vl, .slice none 0 0, .int .i64 0, .bool false, .bool false, .int .i64 0, .slice none 0 0, .int .i64 0, .int .i64 0] ∧ wr.ownsRow w.heap.size 32 1 vl i sv ∧ Secs wr sv (List.replicate i zsec) ∧ (∀ v ∈ sv, ∀ b, v.ownBlock = some b → w.heap.size ≤ b) ∧ Fr0 w wr ∧ m = n - i) ⟨0, .slice none 0 0, [], rfl, Nat.zero_le _, hb1, World.ownsRow_nil .., ⟨rfl, fun i v b hv => by simp at hv⟩, (fun v hv => by cases hv), hf1, rfl⟩ ⟨rfl, rfl, rfl, trivial⟩ ?_
  clear hb1 hf1 hgd'
  rintro _ wr _ ⟨i, vl, sv, rfl, hi, hb, hl, hs, hge, hf, rfl⟩
  by_cases hlt : i < n
  · have c0 : Cell wr.heap gd 0 vl := hb.c 0 rfl
    refine sx_seq ?_
    refine sx_seq ?_
    refine sx_region ?_
    refine sxl_y (wn_none rfl) rfl rfl (yp rfl) ?_
    refine sxl_y (wn_none rfl) rfl rfl (yp rfl) ?_
    refine sxl_y (wn_none rfl) rfl rfl (y_lss_t rfl rfl rfl (by omega)) ?_
    refine sxl_nil ?_
    refine qx_seq ?_
    refine sx_true rfl ?_
    refine sx_skip ?_
    refine qx_seq ?_
    refine sx_seq ?_
    refine sx_block ?_
    refine sx_any 8 (fun w' => Cell w'.heap gd 0 vl ∧ True) hmix ?_
    have HS : Cell wr.drew.heap gd 0 vl ∧ True := ⟨c0, trivial⟩
    refine sxo_y 0 8 (by kernel_rfl) (fun c a t v w h => by cases t <;> exact h) (by kernel_rfl) rfl (by kernel_rfl) (by kernel_rfl) rfl (wn_none rfl) rfl rfl HS (fun w' hS' => yp rfl) ?_
    refine sxo_y 1 8 (by kernel_rfl) (fun c a t v w h => by cases t <;> exact h) (by kernel_rfl) rfl (by kernel_rfl) (by kernel_rfl) rfl (wn_none rfl) rfl rfl HS (fun w' hS' => yp rfl) ?_
    refine sxo_y 2 8 (by kernel_rfl) (fun c a t v w h => by cases t <;> exact h) (by kernel_rfl) rfl (by kernel_rfl) (by kernel_rfl) rfl (wn_none rfl) rfl rfl HS (fun w' hS' => yp rfl) ?_
    refine sxo_y 3 8 (by kernel_rfl) (fun c a t v w h => by cases t <;> exact h) (by kernel_rfl) rfl (by kernel_rfl) (by kernel_rfl) rfl (wn_none rfl) rfl rfl HS (fun w' hS' => yp rfl) ?_
    refine sxo_y 4 8 (by kernel_rfl) (fun c a t v w h => by cases t <;> exact h) (by kernel_rfl) rfl (by kernel_rfl) (by kernel_rfl) rfl (wn_none rfl) rfl rfl HS (fun w' hS' => y_load rfl rfl (sc rfl) (by obtain ⟨s1, s2⟩ := hS'; assumption)) ?_
    refine sxo_does 5 (some 24) (by kernel_rfl) rfl (wn_none rfl) rfl rfl (fun ρ hρ => does_make1 32 _ _ rfl 5 (.int .u8 0) 1 128 Try.underlying32 (by kernel_rfl) rfl (hρ _ _ rfl) (hρ _ _ rfl) (by omega) (by omega)) ?_
    rintro _ w2 ⟨g2, rfl, hg2, hg2', hb2, hf2⟩
    have hf2 := hf2.ofDrew
    have hg2 : wr.heap.size ≤ g2 := hg2
    refine ⟨fun _ => ⟨c0.fr hf2 (fun hh => hh), trivial⟩, ?_⟩
    refine sxo_does 6 (some 25) (by kernel_rfl) rfl (wn_none rfl) rfl rfl (fun ρ hρ => does_slice (size := 1) [.slice (some ⟨g2, 0, none⟩) 128 128] (.slice none 0 0) hρ rfl rfl rfl rfl Try.underlying72 (by kernel_rfl) (by decide) (by decide) (by intro v hv; obtain rfl : v = _ := (by simpa using hv); rfl)) ?_
    rintro _ w3 ⟨g3, rfl, hg3, hg3', hb3, hf3⟩
    have hb3 : Blk w3 g3 32 [.slice (some ⟨g2, 0, none⟩) 128 128] := by simpa [Value.cells] using hb3
    have hF3 := hf2.then0 hf3
    refine ⟨fun _ => ⟨c0.fr hF3 (fun hh => hh), trivial⟩, ?_⟩
    have hl3 := ownN_fr hl hF3 (fun _ _ hh => hh)
    refine sxo_does 7 (some 26) (by kernel_rfl) rfl (wn_none rfl) rfl rfl (fun ρ hρ => does_append (.tmp 23) (.tmp 25) 72 rfl w.heap.size 32 (.slice none 0 0) 24 Try.underlying72 info_bytes rfl vl i sv (hρ _ _ rfl) hl3 (some ⟨g3, 0, none⟩) 1 1 [.slice (some ⟨g2, 0, none⟩) 128 128] (hρ _ _ rfl) (rd_one hb3) (by intro u hu; obtain rfl : u = _ := (by simpa using hu); rfl) (by unfold maxLen; omega) (by omega) (hf.then0 hF3).size) ?_
    rintro v4 w4 ⟨ho4, hg4, hv4⟩
    have hf4 : Fr (fun k => vl.ownBlock = some k) w3 w4 := Fr.grown (S := fun k => vl.ownBlock = some k) Fr.refl hg4 (fun k e _ => e)
    have hgdv : ¬ vl.ownBlock = some gd := own_off hl hb (by decide)
    have hc4 := (c0.fr hF3 (fun hh => hh)).fr hf4 hgdv
    refine ⟨fun _ => ⟨hc4, trivial⟩, ?_⟩
    refine sxo_seq 8 (by kernel_rfl) rfl rfl (by kernel_rfl) ?_
    refine sxl_y (wn_none rfl) rfl rfl (yp rfl) ?_
    refine sxl_y (wn_none rfl) rfl rfl (yp rfl) ?_
    have hb4 := (hb.fr0 hF3).fr hf4 hgdv
    refine sxl_does none (wn_none rfl) rfl rfl (fun ρ hρ => does_store1 72 (.tmp 28) (.tmp 26) rfl gd 0 76 _ v4 (hρ _ _ rfl) (hρ _ _ rfl) (own_cells ho4) hb4 (by kernel_rfl) (by simp) (own_one ho4)) ?_
    rintro _ w5 ⟨rfl, hb5, hf5⟩
    refine sxl_nil ?_
    refine qx_block_normal ?_
    refine qx_seq ?_
    refine sx_region ?_
    refine sxl_y (wn_none rfl) rfl rfl (yp rfl) ?_
    refine sxl_y (wn_none rfl) rfl rfl (y_add rfl rfl rfl (by omega)) ?_
    refine sxl_y (wn_none rfl) rfl rfl (yp rfl) ?_
    refine sxl_nil ?_
    have hz2 := hf2.size
    have hz3 := hf3.size
    have hz := hf.size
    have hgdl := hb.lt
    have hF4 : Fr0 w w4 := (hf.then0 hF3).app hl3 (Nat.le_refl _) hg4
    have o2 : w3.ownsRow 0 5 1 (.slice (some ⟨g2, 0, none⟩) 128 128) 128 (bvs zsec) := ownN_fr (own_zsec hb2) hf3 (fun _ _ hh => hh)
    have hS3 : Secs w3 (sv ++ [.slice (some ⟨g2, 0, none⟩) 128 128]) (List.replicate (i + 1) zsec) := by
      rw [List.replicate_succ']; exact (hs.fr0 hF3).snoc o2
    have hS5 : Secs w5 (sv ++ [.slice (some ⟨g2, 0, none⟩) 128 128]) (List.replicate (i + 1) zsec) := by
      refine (hS3.fr hf4 ?_).fr hf5 ?_
      · intro v hv b hb' e
        obtain ⟨_, cs, hc⟩ := hS3.lt hv hb'
        exact own_off hl3 hc (by decide) e
      · intro v hv b hb' e
        obtain ⟨_, cs, hc⟩ := hS3.lt hv hb'
        subst e
        exact Blk.ne hc (hb.fr0 hF3) (by decide) rfl
    exact qx_again [(5, .int .i64 ((i + 1 : Nat) : Int)), (4, .pointer (some ⟨gd, 0, none⟩)), (0, .int .i64 (n : Int))] (n - (i + 1)) ⟨i + 1, v4, sv ++ [.slice (some ⟨g2, 0, none⟩) 128 128], rfl, hlt, hb5, ownN_fr ho4 hf5 (fun k hk e => by subst e; exact own_off ho4 hb4 (by decide) hk), hS5, (fun v hv b hb' => by
      rcases List.mem_append.1 hv with h' | h'
      · exact hge v h' b hb'
      · obtain rfl : v = _ := by simpa using h'
        injection hb' with hb'
        have : g2 = b := hb'
        omega), hF4.step hf5 (fun b hb' e => by omega), rfl⟩ (by omega) ⟨rfl, rfl, rfl, trivial⟩
  · obtain rfl : i = n := by omega
    refine sx_seq ?_
    refine sx_seq ?_
    refine sx_region ?_
    refine sxl_y (wn_none rfl) rfl rfl (yp rfl) ?_
    refine sxl_y (wn_none rfl) rfl rfl (yp rfl) ?_
    refine sxl_y (wn_none rfl) rfl rfl (y_lss_f rfl rfl rfl (by omega)) ?_
    refine sxl_nil ?_
    refine qx_seq ?_
    refine sx_false rfl ?_
    refine sx_exit ?_
    refine qx_then_exit ?_
    refine qx_then_exit ?_
    refine qx_block_hit ?_
    refine qx_seq ?_
    refine sx_seq ?_
    refine sx_region ?_
    refine sxl_y (wn_none rfl) rfl rfl (yp rfl) ?_
    refine sxl_y (wn_none rfl) rfl rfl (yp rfl) ?_
    refine sxl_y (wn_none rfl) rfl rfl (yp rfl) ?_
    refine sxl_nil ?_
    refine qx_seq ?_
    refine sx_ret ?_
    refine qx_ret2 rfl rfl rfl ?_
    refine ⟨⟨gd, vl, .slice none 0 0, .slice none 0 0, sv, []⟩, rfl, ⟨newDS_wf i h1 h2, hb, ?_, hs, World.ownsRow_nil .., rfl, ⟨rfl, fun i v b hv => by simp at hv⟩, World.ownsRow_nil ..⟩, ?_, ?_, hf⟩
    · rw [newDS_len]; exact own_base hl (Nat.zero_le _)
    · rintro b (rfl | hb' | hb')
      · exact hgd
      · exact (hl.lt b hb').1
      · cases hb'
    · rintro b (⟨v, hv, hb'⟩ | ⟨p, hp, _⟩ | hb')
      · exact hge v hv b hb'
      · cases hp
      · cases hb'
end Go.Proofs.Ytbfeailalhddgaa
