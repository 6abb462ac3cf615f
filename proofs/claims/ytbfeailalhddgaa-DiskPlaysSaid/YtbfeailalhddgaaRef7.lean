/- The document's disk: Reopen, Copy. -/
import Derived.Test.YtbfeailalhddgaaRef6
namespace Go.Proofs.Ytbfeailalhddgaa
open Go.RowKit

set_option maxHeartbeats 8000000 in
theorem rreopen_ok (w : World) (R : RL) (s : DS) (h : RkAt w R s) (hd : s.dead = true) : Calls Try.prog 38 #[.pointer (some ⟨R.gd, 0, none⟩)] w fun e w' => ∃ R', e = .returned (.tuple #[.pointer (some ⟨R'.gd, 0, none⟩), .int .i64 0]) ∧ RkAt w' R' s.reopen ∧ (∀ b, R'.own b → w.heap.size ≤ b) ∧ (∀ b, R'.ro b → w.heap.size ≤ b) ∧ Fr0 w w' := by
  have c3 := h.c3
  rw [hd] at c3
  refine sx_enter (vs := [_]) Try.func38 rfl Try.ntmps38 rfl ?_
  refine sx_seq ?_
  refine sx_region ?_
  refine sxl_y (wn_none rfl) rfl rfl (yp rfl) ?_
  refine sxl_y (wn_none rfl) rfl rfl (yp rfl) ?_
  refine sxl_nil ?_
  refine qx_seq ?_
  refine sx_seq ?_
  refine sx_seq ?_
  refine sx_region ?_
  refine sxl_y (wn_none rfl) rfl rfl (yp rfl) ?_
  refine sxl_y (wn_none rfl) rfl rfl (yp rfl) ?_
  refine sxl_y (wn_none rfl) rfl rfl (yp rfl) ?_
  refine sxl_y (wn_none rfl) rfl rfl (y_load rfl rfl (sc rfl) (by assumption)) ?_
  refine sxl_y (wn_none rfl) rfl rfl (yp rfl) ?_
  refine sxl_nil ?_
  refine qx_seq ?_
  refine sx_false rfl ?_
  refine sx_skip ?_
  refine qx_seq ?_
  refine sx_seq ?_
  refine sx_region ?_
  refine sxl_y (wn_none rfl) rfl rfl (y_build (cells := #[.slice none 0 0, .slice none 0 0, .int .i64 0, .bool false, .bool false, .int .i64 0, .slice none 0 0, .int .i64 0, .int .i64 0]) rfl rfl (by kernel_rfl)) ?_
  refine sxl_does (some 12) (wn_none rfl) rfl rfl (fun ρ hρ => does_box 76 (.tmp 11) rfl [.slice none 0 0, .slice none 0 0, .int .i64 0, .bool false, .bool false, .int .i64 0, .slice none 0 0, .int .i64 0, .int .i64 0] (by rw [hρ _ _ rfl]; rfl)) ?_
  rintro _ w1 ⟨gx, rfl, hgx, hgx', hb1, hf1⟩
  refine sxl_y (wn_none rfl) rfl rfl (yp rfl) ?_
  refine sxl_nil ?_
  refine qx_seq ?_
  refine sx_seq ?_
  refine sx_seq ?_
  refine sx_region ?_
  refine sxl_y (wn_none rfl) rfl rfl (yp rfl) ?_
  refine sxl_nil ?_
  refine qx_seq ?_
  refine sx_block ?_
  refine sx_loop (fun e wr m => ∃ (i : Nat) (vx : Value) (sv : List Value), e = [(5, .int .i64 (i : Int)), (4, .pointer (some ⟨gx, 0, none⟩)), (0, .pointer (some ⟨R.gd, 0, none⟩))] ∧ i ≤ s.lasts.length ∧ Blk wr gx 76 (vx :: [.slice none 0 0, .int .i64 0, .bool false, .bool false, .int .i64 0, .slice none 0 0, .int .i64 0, .int .i64 0]) ∧ wr.ownsRow w.heap.size 32 1 vx i sv ∧ Secs wr sv (s.lasts.take i) ∧ (∀ v ∈ sv, ∀ b, v.ownBlock = some b → w.heap.size ≤ b) ∧ Fr0 w wr ∧ m = s.lasts.length - i) ⟨0, .slice none 0 0, [], rfl, Nat.zero_le _, hb1, World.ownsRow_nil .., ⟨rfl, fun i v b hv => by simp at hv⟩, (fun v hv => by cases hv), hf1, rfl⟩ ⟨rfl, rfl, rfl, trivial⟩ ?_
  clear hb1 hf1
  rintro _ wr _ ⟨i, vx, sv, rfl, hi, hb, hl, hs, hge, hf, rfl⟩
  obtain ⟨lA, lc, el, _⟩ := h.vl
  have c0l := (h.fr0 hf).c0
  rw [el] at c0l
  have hle := h.wf.le
  by_cases hlt : i < s.lasts.length
  · obtain ⟨gl, cl, lv, lb, el', hlc, hlb, hlv, hlo⟩ := (h.fr0 hf).lcell hlt
    rw [el] at el'
    injection el' with e1 _ e2
    subst e1; subst e2
    obtain ⟨vA, vc, rfl, _⟩ := own_form0 hlo
    have cx : Cell wr.heap gx 0 vx := hb.c 0 rfl
    refine sx_seq ?_
    refine sx_seq ?_
    refine sx_region ?_
    refine sxl_y (wn_none rfl) rfl rfl (yp rfl) ?_
    refine sxl_y (wn_none rfl) rfl rfl (yp rfl) ?_
    refine sxl_y (wn_none rfl) rfl rfl (yp rfl) ?_
    refine sxl_y (wn_none rfl) rfl rfl (yp rfl) ?_
    refine sxl_y (wn_none rfl) rfl rfl (y_load rfl rfl (sc rfl) (by assumption)) ?_
    refine sxl_y (wn_none rfl) rfl rfl (y_len rfl rfl (sl rfl)) ?_
    refine sxl_y (wn_none rfl) rfl rfl (y_lss_t rfl rfl rfl (by omega)) ?_
    refine sxl_nil ?_
    refine qx_seq ?_
    refine sx_true rfl ?_
    refine sx_skip ?_
    refine qx_seq ?_
    refine sx_seq ?_
    refine sx_block ?_
    refine sx_any 16 (fun w' => Cell w'.heap gx 0 vx ∧ Cell w'.heap R.gd 0 (.slice (some ⟨gl, 0, none⟩) s.lasts.length lc) ∧ Cell w'.heap gl (0 + i * 1) (.slice vA 128 vc)) hmix ?_
    have HSf : ∀ w', Fr0 wr w' → Cell w'.heap gx 0 vx ∧ Cell w'.heap R.gd 0 (.slice (some ⟨gl, 0, none⟩) s.lasts.length lc) ∧ Cell w'.heap gl (0 + i * 1) (.slice vA 128 vc) := fun w' hf => ⟨cx.fr hf (fun hh => hh), c0l.fr hf (fun hh => hh), hlc.fr hf (fun hh => hh)⟩
    have HS := HSf wr.drew Fr.refl.drew
    refine sxo_y 0 16 (by kernel_rfl) (fun c a t v w h => by cases t <;> exact h) (by kernel_rfl) rfl (by kernel_rfl) (by kernel_rfl) rfl (wn_none rfl) rfl rfl HS (fun w' hS' => yp rfl) ?_
    refine sxo_y 1 16 (by kernel_rfl) (fun c a t v w h => by cases t <;> exact h) (by kernel_rfl) rfl (by kernel_rfl) (by kernel_rfl) rfl (wn_none rfl) rfl rfl HS (fun w' hS' => yp rfl) ?_
    refine sxo_y 2 16 (by kernel_rfl) (fun c a t v w h => by cases t <;> exact h) (by kernel_rfl) rfl (by kernel_rfl) (by kernel_rfl) rfl (wn_none rfl) rfl rfl HS (fun w' hS' => yp rfl) ?_
    refine sxo_y 3 16 (by kernel_rfl) (fun c a t v w h => by cases t <;> exact h) (by kernel_rfl) rfl (by kernel_rfl) (by kernel_rfl) rfl (wn_none rfl) rfl rfl HS (fun w' hS' => yp rfl) ?_
    refine sxo_y 4 16 (by kernel_rfl) (fun c a t v w h => by cases t <;> exact h) (by kernel_rfl) rfl (by kernel_rfl) (by kernel_rfl) rfl (wn_none rfl) rfl rfl HS (fun w' hS' => y_load rfl rfl (sc rfl) (by obtain ⟨s1, s2, s3⟩ := hS'; assumption)) ?_
    refine sxo_y 6 16 (by kernel_rfl) (fun c a t v w h => by cases t <;> exact h) (by kernel_rfl) rfl (by kernel_rfl) (by kernel_rfl) rfl (wn_none rfl) rfl rfl HS (fun w' hS' => yp rfl) ?_
    refine sxo_y 7 16 (by kernel_rfl) (fun c a t v w h => by cases t <;> exact h) (by kernel_rfl) rfl (by kernel_rfl) (by kernel_rfl) rfl (wn_none rfl) rfl rfl HS (fun w' hS' => yp rfl) ?_
    refine sxo_y 8 16 (by kernel_rfl) (fun c a t v w h => by cases t <;> exact h) (by kernel_rfl) rfl (by kernel_rfl) (by kernel_rfl) rfl (wn_none rfl) rfl rfl HS (fun w' hS' => yp rfl) ?_
    refine sxo_y 9 16 (by kernel_rfl) (fun c a t v w h => by cases t <;> exact h) (by kernel_rfl) rfl (by kernel_rfl) (by kernel_rfl) rfl (wn_none rfl) rfl rfl HS (fun w' hS' => y_load rfl rfl (sc rfl) (by obtain ⟨s1, s2, s3⟩ := hS'; assumption)) ?_
    refine sxo_y 10 16 (by kernel_rfl) (fun c a t v w h => by cases t <;> exact h) (by kernel_rfl) rfl (by kernel_rfl) (by kernel_rfl) rfl (wn_none rfl) rfl rfl HS (fun w' hS' => yp rfl) ?_
    refine sxo_y 11 16 (by kernel_rfl) (fun c a t v w h => by cases t <;> exact h) (by kernel_rfl) rfl (by kernel_rfl) (by kernel_rfl) rfl (wn_none rfl) rfl rfl HS (fun w' hS' => y_indexN rfl rfl rfl (sl rfl) (by omega)) ?_
    refine sxo_y 12 16 (by kernel_rfl) (fun c a t v w h => by cases t <;> exact h) (by kernel_rfl) rfl (by kernel_rfl) (by kernel_rfl) rfl (wn_none rfl) rfl rfl HS (fun w' hS' => y_load rfl rfl (sc rfl) (by obtain ⟨s1, s2, s3⟩ := hS'; assumption)) ?_
    refine sxo_does 5 (some 27) (by kernel_rfl) rfl (wn_none rfl) rfl rfl (fun ρ hρ => does_slice0 32 5 1 rfl Try.underlying32 (by kernel_rfl)) ?_
    rintro _ w2 ⟨g2, rfl, hg2, hg2', -, hf2, ho2⟩
    have hf2 := hf2.ofDrew
    have ho2 := ho2 wr.heap.size (Nat.le_refl _)
    refine ⟨fun _ => HSf _ hf2, ?_⟩
    refine sxo_does 13 (some 35) (by kernel_rfl) rfl (wn_none rfl) rfl rfl (fun ρ hρ => does_append (.tmp 27) (.tmp 34) 32 rfl wr.heap.size 5 (.int .u8 0) 1 Try.underlying32 info_u8 rfl _ 0 [] (hρ _ _ rfl) ho2 vA 128 vc (bvs lb) (hρ _ _ rfl) ((Rd.of_own hlo).fr0 hf2) (bvs_one _) (by unfold maxLen; omega) (by omega) hf2.size) ?_
    rintro v3 w3 ⟨ho3, hg3, hv3⟩
    rw [Nat.zero_add, List.nil_append] at ho3
    have hF3 : Fr0 wr w3 := hf2.app ho2 (Nat.le_refl _) hg3
    refine ⟨fun _ => HSf _ hF3, ?_⟩
    obtain ⟨A3, c3', rfl, hN3⟩ := own_form0 ho3
    refine sxo_does 14 (some 36) (by kernel_rfl) rfl (wn_none rfl) rfl rfl (fun ρ hρ => does_slice (size := 1) [.slice A3 128 c3'] (.slice none 0 0) hρ rfl rfl rfl rfl Try.underlying72 (by kernel_rfl) (by decide) (by decide) (by intro v hv; obtain rfl : v = _ := (by simpa using hv); rfl)) ?_
    rintro _ w4 ⟨g4, rfl, hg4, hg4', hb4, hf4⟩
    have hb4 : Blk w4 g4 32 [.slice A3 128 c3'] := by simpa [Value.cells] using hb4
    have hF4 := hF3.then0 hf4
    refine ⟨fun _ => HSf _ hF4, ?_⟩
    have hl4 := ownN_fr hl hF4 (fun _ _ hh => hh)
    refine sxo_does 15 (some 37) (by kernel_rfl) rfl (wn_none rfl) rfl rfl (fun ρ hρ => does_append (.tmp 26) (.tmp 36) 72 rfl w.heap.size 32 (.slice none 0 0) 24 Try.underlying72 info_bytes rfl vx i sv (hρ _ _ rfl) hl4 (some ⟨g4, 0, none⟩) 1 1 [.slice A3 128 c3'] (hρ _ _ rfl) (rd_one hb4) (by intro u hu; obtain rfl : u = _ := (by simpa using hu); rfl) (by unfold maxLen; omega) (by omega) (hf.then0 hF4).size) ?_
    rintro v5 w5 ⟨ho5, hg5, hv5⟩
    have hf5 : Fr (fun k => vx.ownBlock = some k) w4 w5 := Fr.grown (S := fun k => vx.ownBlock = some k) Fr.refl hg5 (fun k e _ => e)
    have hgxv : ¬ vx.ownBlock = some gx := own_off hl hb (by decide)
    have hF5 : Fr0 w w5 := (hf.then0 hF4).app hl4 (Nat.le_refl _) hg5
    have hcx5 := (HSf _ hF4).1.fr hf5 hgxv
    have hgdl := h.hd.lt
    have hgll := h.olt (b := gl) (.inr (.inl (by rw [el]; rfl)))
    have hvxn : ∀ k, vx.ownBlock = some k → w.heap.size ≤ k := fun k hk => (hl.lt k hk).1
    refine ⟨fun _ => ⟨hcx5, (HSf _ hF4).2.1.fr hf5 (fun e => by have := hvxn _ e; omega), (HSf _ hF4).2.2.fr hf5 (fun e => by have := hvxn _ e; omega)⟩, ?_⟩
    refine sxo_seq 16 (by kernel_rfl) rfl rfl (by kernel_rfl) ?_
    refine sxl_y (wn_none rfl) rfl rfl (yp rfl) ?_
    refine sxl_y (wn_none rfl) rfl rfl (yp rfl) ?_
    have hb5 := (hb.fr0 hF4).fr hf5 hgxv
    refine sxl_does none (wn_none rfl) rfl rfl (fun ρ hρ => does_store1 72 (.tmp 39) (.tmp 37) rfl gx 0 76 _ v5 (hρ _ _ rfl) (hρ _ _ rfl) (own_cells ho5) hb5 (by kernel_rfl) (by simp) (own_one ho5)) ?_
    rintro _ w6 ⟨rfl, hb6, hf6⟩
    refine sxl_nil ?_
    refine qx_block_normal ?_
    refine qx_seq ?_
    refine sx_region ?_
    refine sxl_y (wn_none rfl) rfl rfl (yp rfl) ?_
    refine sxl_y (wn_none rfl) rfl rfl (y_add rfl rfl rfl (by omega)) ?_
    refine sxl_y (wn_none rfl) rfl rfl (yp rfl) ?_
    refine sxl_nil ?_
    have hz := hf.size
    have hz3 := hF3.size
    have hz4 := hf4.size
    have hS4 : Secs w4 (sv ++ [.slice A3 128 c3']) (s.lasts.take (i + 1)) := by
      rw [List.take_succ_eq_append_getElem hlt]
      rw [List.getElem?_eq_getElem hlt] at hlb
      obtain rfl : s.lasts[i] = lb := by simpa using hlb
      exact (hs.fr0 hF4).snoc (ownN_fr (own_base ho3 (Nat.zero_le _)) hf4 (fun _ _ hh => hh))
    have hS6 : Secs w6 (sv ++ [.slice A3 128 c3']) (s.lasts.take (i + 1)) := by
      refine (hS4.fr hf5 ?_).fr hf6 ?_
      · intro v hv b hb' e
        obtain ⟨_, cs, hc⟩ := hS4.lt hv hb'
        exact own_off hl4 hc (by decide) e
      · intro v hv b hb' e
        obtain ⟨_, cs, hc⟩ := hS4.lt hv hb'
        subst e
        exact Blk.ne hc (hb.fr0 hF4) (by decide) rfl
    exact qx_again [(5, .int .i64 ((i + 1 : Nat) : Int)), (4, .pointer (some ⟨gx, 0, none⟩)), (0, .pointer (some ⟨R.gd, 0, none⟩))] (s.lasts.length - (i + 1)) ⟨i + 1, v5, sv ++ [.slice A3 128 c3'], rfl, hlt, hb6, ownN_fr ho5 hf6 (fun k hk e => by subst e; exact own_off ho5 hb5 (by decide) hk), hS6, (fun v hv b hb' => by
      rcases List.mem_append.1 hv with h' | h'
      · exact hge v h' b hb'
      · obtain rfl : v = _ := by simpa using h'
        have := (ho3.lt b hb').1
        omega), hF5.step hf6 (fun b hb' e => by omega), rfl⟩ (by omega) ⟨rfl, rfl, rfl, trivial⟩
  obtain rfl : i = s.lasts.length := by omega
  rw [List.take_length] at hs
  refine sx_seq ?_
  refine sx_seq ?_
  refine sx_region ?_
  refine sxl_y (wn_none rfl) rfl rfl (yp rfl) ?_
  refine sxl_y (wn_none rfl) rfl rfl (yp rfl) ?_
  refine sxl_y (wn_none rfl) rfl rfl (yp rfl) ?_
  refine sxl_y (wn_none rfl) rfl rfl (yp rfl) ?_
  refine sxl_y (wn_none rfl) rfl rfl (y_load rfl rfl (sc rfl) (by assumption)) ?_
  refine sxl_y (wn_none rfl) rfl rfl (y_len rfl rfl (sl rfl)) ?_
  refine sxl_y (wn_none rfl) rfl rfl (y_lss_f rfl rfl rfl (by omega)) ?_
  refine sxl_nil ?_
  refine qx_seq ?_
  refine sx_false rfl ?_
  refine sx_exit ?_
  refine qx_then_exit ?_
  refine qx_then_exit ?_
  refine qx_block_hit ?_
  refine qx_seq ?_
  refine sx_seq ?_
  refine sx_region ?_
  refine sxl_y (wn_none rfl) rfl rfl (yp rfl) ?_
  refine sxl_y (wn_none rfl) rfl rfl (yp rfl) ?_
  refine sxl_y (wn_none rfl) rfl rfl (yp rfl) ?_
  refine sxl_nil ?_
  refine qx_seq ?_
  refine sx_ret ?_
  refine qx_ret2 rfl rfl rfl ?_
  refine ⟨⟨gx, vx, .slice none 0 0, .slice none 0 0, sv, []⟩, rfl, ⟨DS.reopen_wf h.wf, hb, own_base hl (Nat.zero_le _), hs, World.ownsRow_nil .., rfl, ⟨rfl, fun i v b hv => by simp at hv⟩, World.ownsRow_nil ..⟩, ?_, ?_, hf⟩
  · rintro b (rfl | hb' | hb')
    · exact hgx
    · exact (hl.lt b hb').1
    · cases hb'
  · rintro b (⟨v, hv, hb'⟩ | ⟨p, hp, _⟩ | hb')
    · exact hge v hv b hb'
    · cases hp
    · cases hb'

theorem rdisk_zero : (Try.prog.info? 76).map (·.zero) = some (some (.agg #[.slice none 0 0, .slice none 0 0, .int .i64 0, .bool false, .bool false, .int .i64 0, .slice none 0 0, .int .i64 0, .int .i64 0])) := by kernel_rfl
set_option maxHeartbeats 8000000 in
theorem rcopy_ok (w : World) (R : RL) (s : DS) (h : RkAt w R s) (hwm : s.waits.length ≤ 1073741824) : Calls Try.prog 39 #[.pointer (some ⟨R.gd, 0, none⟩)] w fun e w' => ∃ R', e = .returned (.pointer (some ⟨R'.gd, 0, none⟩)) ∧ RkAt w' R' s ∧ (∀ b, R'.own b → w.heap.size ≤ b) ∧ (∀ b, R'.ro b → R.ro b ∨ w.heap.size ≤ b) ∧ Fr0 w w' := by
  have c2 := h.c2
  have c3 := h.c3
  have c4 := h.c4
  have c5 := h.c5
  obtain ⟨kA, kc, ek, -, -, -⟩ := h.kform
  refine sx_enter (vs := [_]) Try.func39 rfl Try.ntmps39 rfl ?_
  refine sx_seq ?_
  refine sx_region ?_
  refine sxl_y (wn_none rfl) rfl rfl (yp rfl) ?_
  refine sxl_nil ?_
  refine qx_seq ?_
  refine sx_seq ?_
  refine sx_tail 21 hmix (by kernel_rfl) ?_
  have hhd := h.hd
  rw [ek] at hhd
  refine sxs_y (wn_none rfl) rfl rfl (yp rfl) ?_
  refine sxs_y (wn_none rfl) rfl rfl (yp rfl) ?_
  refine sxs_y (wn_none rfl) rfl rfl (yp rfl) ?_
  refine sxs_y (wn_none rfl) rfl rfl (y_load rfl rfl (sc rfl) (by assumption)) ?_
  refine sxs_y (wn_none rfl) rfl rfl (yp rfl) ?_
  refine sxs_y (wn_none rfl) rfl rfl (yp rfl) ?_
  refine sxs_y (wn_none rfl) rfl rfl (yp rfl) ?_
  refine sxs_y (wn_none rfl) rfl rfl (y_load rfl rfl (sc rfl) (by assumption)) ?_
  refine sxs_y (wn_none rfl) rfl rfl (yp rfl) ?_
  refine sxs_y (wn_none rfl) rfl rfl (yp rfl) ?_
  refine sxs_y (wn_none rfl) rfl rfl (yp rfl) ?_
  refine sxs_y (wn_none rfl) rfl rfl (y_load rfl rfl (sc rfl) (by assumption)) ?_
  refine sxs_y (wn_none rfl) rfl rfl (yp rfl) ?_
  refine sxs_y (wn_none rfl) rfl rfl (yp rfl) ?_
  refine sxs_y (wn_none rfl) rfl rfl (yp rfl) ?_
  refine sxs_y (wn_none rfl) rfl rfl (y_load rfl rfl (sc rfl) (by assumption)) ?_
  refine sxs_y (wn_none rfl) rfl rfl (yp rfl) ?_
  refine sxs_y (wn_none rfl) rfl rfl (yp rfl) ?_
  refine sxs_y (wn_none rfl) rfl rfl (yp rfl) ?_
  refine sxs_y (wn_none rfl) rfl rfl (y_loadB rfl rfl hhd.drew Try.underlying74 rfl rplan_size (by simp)) ?_
  refine sxs_y (wn_none rfl) rfl rfl (y_build (cells := #[.slice none 0 0, .slice none 0 0, .int .i64 (s.done : Int), .bool s.dead, .bool s.fset, .int .i64 (s.left : Int), .slice kA s.keep.length kc, .int .i64 s.torn, .int .i64 (s.cut : Int)]) rfl rfl (by kernel_rfl)) ?_
  refine sxs_tail ?_
  refine sxl_does (some 26) (wn_none rfl) rfl rfl (fun ρ hρ => does_box 76 (.tmp 25) rfl [.slice none 0 0, .slice none 0 0, .int .i64 (s.done : Int), .bool s.dead, .bool s.fset, .int .i64 (s.left : Int), .slice kA s.keep.length kc, .int .i64 s.torn, .int .i64 (s.cut : Int)] (by rw [hρ _ _ rfl]; rfl)) ?_
  rintro _ w1 ⟨gx, rfl, hgx, hgx', hb1, hf1⟩
  have hf1 := hf1.ofDrew
  have hgx : w.heap.size ≤ gx := hgx
  refine sxl_y (wn_none rfl) rfl rfl (yp rfl) ?_
  refine sxl_nil ?_
  refine qx_seq ?_
  refine sx_seq ?_
  refine sx_seq ?_
  refine sx_region ?_
  refine sxl_y (wn_none rfl) rfl rfl (yp rfl) ?_
  refine sxl_nil ?_
  refine qx_seq ?_
  refine sx_block ?_
  refine sx_loop (fun e wr m => ∃ (i : Nat) (vx : Value) (sv : List Value), e = [(4, .int .i64 (i : Int)), (3, .pointer (some ⟨gx, 0, none⟩)), (0, .pointer (some ⟨R.gd, 0, none⟩))] ∧ i ≤ s.lasts.length ∧ Blk wr gx 76 (vx :: [.slice none 0 0, .int .i64 (s.done : Int), .bool s.dead, .bool s.fset, .int .i64 (s.left : Int), .slice kA s.keep.length kc, .int .i64 s.torn, .int .i64 (s.cut : Int)]) ∧ wr.ownsRow w.heap.size 32 1 vx i sv ∧ Secs wr sv (s.lasts.take i) ∧ (∀ v ∈ sv, ∀ b, v.ownBlock = some b → w.heap.size ≤ b) ∧ Fr0 w wr ∧ m = s.lasts.length - i) ⟨0, .slice none 0 0, [], rfl, Nat.zero_le _, hb1, World.ownsRow_nil .., ⟨rfl, fun i v b hv => by simp at hv⟩, (fun v hv => by cases hv), hf1, rfl⟩ ⟨rfl, rfl, rfl, trivial⟩ ?_
  clear hb1 hf1
  rintro _ wr _ ⟨i, vx, sv, rfl, hi, hb, hl, hs, hge, hf, rfl⟩
  obtain ⟨lA, lc, el, _⟩ := h.vl
  have c0l := (h.fr0 hf).c0
  rw [el] at c0l
  have hle := h.wf.le
  by_cases hlt : i < s.lasts.length
  · obtain ⟨gl, cl, lv, lb, el', hlc, hlb, hlv, hlo⟩ := (h.fr0 hf).lcell hlt
    rw [el] at el'
    injection el' with e1 _ e2
    subst e1; subst e2
    obtain ⟨vA, vc, rfl, _⟩ := own_form0 hlo
    have cx : Cell wr.heap gx 0 vx := hb.c 0 rfl
    refine sx_seq ?_
    refine sx_seq ?_
    refine sx_region ?_
    refine sxl_y (wn_none rfl) rfl rfl (yp rfl) ?_
    refine sxl_y (wn_none rfl) rfl rfl (yp rfl) ?_
    refine sxl_y (wn_none rfl) rfl rfl (yp rfl) ?_
    refine sxl_y (wn_none rfl) rfl rfl (yp rfl) ?_
    refine sxl_y (wn_none rfl) rfl rfl (y_load rfl rfl (sc rfl) (by assumption)) ?_
    refine sxl_y (wn_none rfl) rfl rfl (y_len rfl rfl (sl rfl)) ?_
    refine sxl_y (wn_none rfl) rfl rfl (y_lss_t rfl rfl rfl (by omega)) ?_
    refine sxl_nil ?_
    refine qx_seq ?_
    refine sx_true rfl ?_
    refine sx_skip ?_
    refine qx_seq ?_
    refine sx_seq ?_
    refine sx_block ?_
    refine sx_any 16 (fun w' => Cell w'.heap gx 0 vx ∧ Cell w'.heap R.gd 0 (.slice (some ⟨gl, 0, none⟩) s.lasts.length lc) ∧ Cell w'.heap gl (0 + i * 1) (.slice vA 128 vc)) hmix ?_
    have HSf : ∀ w', Fr0 wr w' → Cell w'.heap gx 0 vx ∧ Cell w'.heap R.gd 0 (.slice (some ⟨gl, 0, none⟩) s.lasts.length lc) ∧ Cell w'.heap gl (0 + i * 1) (.slice vA 128 vc) := fun w' hf => ⟨cx.fr hf (fun hh => hh), c0l.fr hf (fun hh => hh), hlc.fr hf (fun hh => hh)⟩
    have HS := HSf wr.drew Fr.refl.drew
    refine sxo_y 0 16 (by kernel_rfl) (fun c a t v w h => by cases t <;> exact h) (by kernel_rfl) rfl (by kernel_rfl) (by kernel_rfl) rfl (wn_none rfl) rfl rfl HS (fun w' hS' => yp rfl) ?_
    refine sxo_y 1 16 (by kernel_rfl) (fun c a t v w h => by cases t <;> exact h) (by kernel_rfl) rfl (by kernel_rfl) (by kernel_rfl) rfl (wn_none rfl) rfl rfl HS (fun w' hS' => yp rfl) ?_
    refine sxo_y 2 16 (by kernel_rfl) (fun c a t v w h => by cases t <;> exact h) (by kernel_rfl) rfl (by kernel_rfl) (by kernel_rfl) rfl (wn_none rfl) rfl rfl HS (fun w' hS' => yp rfl) ?_
    refine sxo_y 3 16 (by kernel_rfl) (fun c a t v w h => by cases t <;> exact h) (by kernel_rfl) rfl (by kernel_rfl) (by kernel_rfl) rfl (wn_none rfl) rfl rfl HS (fun w' hS' => yp rfl) ?_
    refine sxo_y 4 16 (by kernel_rfl) (fun c a t v w h => by cases t <;> exact h) (by kernel_rfl) rfl (by kernel_rfl) (by kernel_rfl) rfl (wn_none rfl) rfl rfl HS (fun w' hS' => y_load rfl rfl (sc rfl) (by obtain ⟨s1, s2, s3⟩ := hS'; assumption)) ?_
    refine sxo_y 6 16 (by kernel_rfl) (fun c a t v w h => by cases t <;> exact h) (by kernel_rfl) rfl (by kernel_rfl) (by kernel_rfl) rfl (wn_none rfl) rfl rfl HS (fun w' hS' => yp rfl) ?_
    refine sxo_y 7 16 (by kernel_rfl) (fun c a t v w h => by cases t <;> exact h) (by kernel_rfl) rfl (by kernel_rfl) (by kernel_rfl) rfl (wn_none rfl) rfl rfl HS (fun w' hS' => yp rfl) ?_
    refine sxo_y 8 16 (by kernel_rfl) (fun c a t v w h => by cases t <;> exact h) (by kernel_rfl) rfl (by kernel_rfl) (by kernel_rfl) rfl (wn_none rfl) rfl rfl HS (fun w' hS' => yp rfl) ?_
    refine sxo_y 9 16 (by kernel_rfl) (fun c a t v w h => by cases t <;> exact h) (by kernel_rfl) rfl (by kernel_rfl) (by kernel_rfl) rfl (wn_none rfl) rfl rfl HS (fun w' hS' => y_load rfl rfl (sc rfl) (by obtain ⟨s1, s2, s3⟩ := hS'; assumption)) ?_
    refine sxo_y 10 16 (by kernel_rfl) (fun c a t v w h => by cases t <;> exact h) (by kernel_rfl) rfl (by kernel_rfl) (by kernel_rfl) rfl (wn_none rfl) rfl rfl HS (fun w' hS' => yp rfl) ?_
    refine sxo_y 11 16 (by kernel_rfl) (fun c a t v w h => by cases t <;> exact h) (by kernel_rfl) rfl (by kernel_rfl) (by kernel_rfl) rfl (wn_none rfl) rfl rfl HS (fun w' hS' => y_indexN rfl rfl rfl (sl rfl) (by omega)) ?_
    refine sxo_y 12 16 (by kernel_rfl) (fun c a t v w h => by cases t <;> exact h) (by kernel_rfl) rfl (by kernel_rfl) (by kernel_rfl) rfl (wn_none rfl) rfl rfl HS (fun w' hS' => y_load rfl rfl (sc rfl) (by obtain ⟨s1, s2, s3⟩ := hS'; assumption)) ?_
    refine sxo_does 5 (some 41) (by kernel_rfl) rfl (wn_none rfl) rfl rfl (fun ρ hρ => does_slice0 32 5 1 rfl Try.underlying32 (by kernel_rfl)) ?_
    rintro _ w2 ⟨g2, rfl, hg2, hg2', -, hf2, ho2⟩
    have hf2 := hf2.ofDrew
    have ho2 := ho2 wr.heap.size (Nat.le_refl _)
    refine ⟨fun _ => HSf _ hf2, ?_⟩
    refine sxo_does 13 (some 49) (by kernel_rfl) rfl (wn_none rfl) rfl rfl (fun ρ hρ => does_append (.tmp 41) (.tmp 48) 32 rfl wr.heap.size 5 (.int .u8 0) 1 Try.underlying32 info_u8 rfl _ 0 [] (hρ _ _ rfl) ho2 vA 128 vc (bvs lb) (hρ _ _ rfl) ((Rd.of_own hlo).fr0 hf2) (bvs_one _) (by unfold maxLen; omega) (by omega) hf2.size) ?_
    rintro v3 w3 ⟨ho3, hg3, hv3⟩
    rw [Nat.zero_add, List.nil_append] at ho3
    have hF3 : Fr0 wr w3 := hf2.app ho2 (Nat.le_refl _) hg3
    refine ⟨fun _ => HSf _ hF3, ?_⟩
    obtain ⟨A3, c3', rfl, hN3⟩ := own_form0 ho3
    refine sxo_does 14 (some 50) (by kernel_rfl) rfl (wn_none rfl) rfl rfl (fun ρ hρ => does_slice (size := 1) [.slice A3 128 c3'] (.slice none 0 0) hρ rfl rfl rfl rfl Try.underlying72 (by kernel_rfl) (by decide) (by decide) (by intro v hv; obtain rfl : v = _ := (by simpa using hv); rfl)) ?_
    rintro _ w4 ⟨g4, rfl, hg4, hg4', hb4, hf4⟩
    have hb4 : Blk w4 g4 32 [.slice A3 128 c3'] := by simpa [Value.cells] using hb4
    have hF4 := hF3.then0 hf4
    refine ⟨fun _ => HSf _ hF4, ?_⟩
    have hl4 := ownN_fr hl hF4 (fun _ _ hh => hh)
    refine sxo_does 15 (some 51) (by kernel_rfl) rfl (wn_none rfl) rfl rfl (fun ρ hρ => does_append (.tmp 40) (.tmp 50) 72 rfl w.heap.size 32 (.slice none 0 0) 24 Try.underlying72 info_bytes rfl vx i sv (hρ _ _ rfl) hl4 (some ⟨g4, 0, none⟩) 1 1 [.slice A3 128 c3'] (hρ _ _ rfl) (rd_one hb4) (by intro u hu; obtain rfl : u = _ := (by simpa using hu); rfl) (by unfold maxLen; omega) (by omega) (hf.then0 hF4).size) ?_
    rintro v5 w5 ⟨ho5, hg5, hv5⟩
    have hf5 : Fr (fun k => vx.ownBlock = some k) w4 w5 := Fr.grown (S := fun k => vx.ownBlock = some k) Fr.refl hg5 (fun k e _ => e)
    have hgxv : ¬ vx.ownBlock = some gx := own_off hl hb (by decide)
    have hF5 : Fr0 w w5 := (hf.then0 hF4).app hl4 (Nat.le_refl _) hg5
    have hcx5 := (HSf _ hF4).1.fr hf5 hgxv
    have hgdl := h.hd.lt
    have hgll := h.olt (b := gl) (.inr (.inl (by rw [el]; rfl)))
    have hvxn : ∀ k, vx.ownBlock = some k → w.heap.size ≤ k := fun k hk => (hl.lt k hk).1
    refine ⟨fun _ => ⟨hcx5, (HSf _ hF4).2.1.fr hf5 (fun e => by have := hvxn _ e; omega), (HSf _ hF4).2.2.fr hf5 (fun e => by have := hvxn _ e; omega)⟩, ?_⟩
    refine sxo_seq 16 (by kernel_rfl) rfl rfl (by kernel_rfl) ?_
    refine sxl_y (wn_none rfl) rfl rfl (yp rfl) ?_
    refine sxl_y (wn_none rfl) rfl rfl (yp rfl) ?_
    have hb5 := (hb.fr0 hF4).fr hf5 hgxv
    refine sxl_does none (wn_none rfl) rfl rfl (fun ρ hρ => does_store1 72 (.tmp 53) (.tmp 51) rfl gx 0 76 _ v5 (hρ _ _ rfl) (hρ _ _ rfl) (own_cells ho5) hb5 (by kernel_rfl) (by simp) (own_one ho5)) ?_
    rintro _ w6 ⟨rfl, hb6, hf6⟩
    refine sxl_nil ?_
    refine qx_block_normal ?_
    refine qx_seq ?_
    refine sx_region ?_
    refine sxl_y (wn_none rfl) rfl rfl (yp rfl) ?_
    refine sxl_y (wn_none rfl) rfl rfl (y_add rfl rfl rfl (by omega)) ?_
    refine sxl_y (wn_none rfl) rfl rfl (yp rfl) ?_
    refine sxl_nil ?_
    have hz := hf.size
    have hz3 := hF3.size
    have hz4 := hf4.size
    have hS4 : Secs w4 (sv ++ [.slice A3 128 c3']) (s.lasts.take (i + 1)) := by
      rw [List.take_succ_eq_append_getElem hlt]
      rw [List.getElem?_eq_getElem hlt] at hlb
      obtain rfl : s.lasts[i] = lb := by simpa using hlb
      exact (hs.fr0 hF4).snoc (ownN_fr (own_base ho3 (Nat.zero_le _)) hf4 (fun _ _ hh => hh))
    have hS6 : Secs w6 (sv ++ [.slice A3 128 c3']) (s.lasts.take (i + 1)) := by
      refine (hS4.fr hf5 ?_).fr hf6 ?_
      · intro v hv b hb' e
        obtain ⟨_, cs, hc⟩ := hS4.lt hv hb'
        exact own_off hl4 hc (by decide) e
      · intro v hv b hb' e
        obtain ⟨_, cs, hc⟩ := hS4.lt hv hb'
        subst e
        exact Blk.ne hc (hb.fr0 hF4) (by decide) rfl
    exact qx_again [(4, .int .i64 ((i + 1 : Nat) : Int)), (3, .pointer (some ⟨gx, 0, none⟩)), (0, .pointer (some ⟨R.gd, 0, none⟩))] (s.lasts.length - (i + 1)) ⟨i + 1, v5, sv ++ [.slice A3 128 c3'], rfl, hlt, hb6, ownN_fr ho5 hf6 (fun k hk e => by subst e; exact own_off ho5 hb5 (by decide) hk), hS6, (fun v hv b hb' => by
      rcases List.mem_append.1 hv with h' | h'
      · exact hge v h' b hb'
      · obtain rfl : v = _ := by simpa using h'
        have := (ho3.lt b hb').1
        omega), hF5.step hf6 (fun b hb' e => by omega), rfl⟩ (by omega) ⟨rfl, rfl, rfl, trivial⟩
  obtain rfl : i = s.lasts.length := by omega
  rw [List.take_length] at hs
  obtain ⟨wA, wc, ew, -, hwr, -, -⟩ := ownN_form h.hw
  have cw := (h.fr0 hf).c1
  rw [ew] at cw
  have cx1 : Cell wr.heap gx 1 (.slice none 0 0) := hb.c 1 rfl
  refine sx_seq ?_
  refine sx_seq ?_
  refine sx_region ?_
  refine sxl_y (wn_none rfl) rfl rfl (yp rfl) ?_
  refine sxl_y (wn_none rfl) rfl rfl (yp rfl) ?_
  refine sxl_y (wn_none rfl) rfl rfl (yp rfl) ?_
  refine sxl_y (wn_none rfl) rfl rfl (yp rfl) ?_
  refine sxl_y (wn_none rfl) rfl rfl (y_load rfl rfl (sc rfl) (by assumption)) ?_
  refine sxl_y (wn_none rfl) rfl rfl (y_len rfl rfl (sl rfl)) ?_
  refine sxl_y (wn_none rfl) rfl rfl (y_lss_f rfl rfl rfl (by omega)) ?_
  refine sxl_nil ?_
  refine qx_seq ?_
  refine sx_false rfl ?_
  refine sx_exit ?_
  refine qx_then_exit ?_
  refine qx_then_exit ?_
  refine qx_block_hit ?_
  refine qx_seq ?_
  refine sx_seq ?_
  refine sx_any 10 (fun w' => Cell w'.heap gx 1 (.slice none 0 0) ∧ Cell w'.heap R.gd 1 (.slice wA s.waits.length wc)) hmix ?_
  have HSf : ∀ w', Fr0 wr w' → Cell w'.heap gx 1 (.slice none 0 0) ∧ Cell w'.heap R.gd 1 (.slice wA s.waits.length wc) := fun w' hf => ⟨cx1.fr hf (fun hh => hh), cw.fr hf (fun hh => hh)⟩
  have HS := HSf wr.drew Fr.refl.drew
  refine sxo_y 0 10 (by kernel_rfl) (fun c a t v w h => by cases t <;> exact h) (by kernel_rfl) rfl (by kernel_rfl) (by kernel_rfl) rfl (wn_none rfl) rfl rfl HS (fun w' hS' => yp rfl) ?_
  refine sxo_y 1 10 (by kernel_rfl) (fun c a t v w h => by cases t <;> exact h) (by kernel_rfl) rfl (by kernel_rfl) (by kernel_rfl) rfl (wn_none rfl) rfl rfl HS (fun w' hS' => yp rfl) ?_
  refine sxo_y 2 10 (by kernel_rfl) (fun c a t v w h => by cases t <;> exact h) (by kernel_rfl) rfl (by kernel_rfl) (by kernel_rfl) rfl (wn_none rfl) rfl rfl HS (fun w' hS' => yp rfl) ?_
  refine sxo_y 3 10 (by kernel_rfl) (fun c a t v w h => by cases t <;> exact h) (by kernel_rfl) rfl (by kernel_rfl) (by kernel_rfl) rfl (wn_none rfl) rfl rfl HS (fun w' hS' => yp rfl) ?_
  refine sxo_y 4 10 (by kernel_rfl) (fun c a t v w h => by cases t <;> exact h) (by kernel_rfl) rfl (by kernel_rfl) (by kernel_rfl) rfl (wn_none rfl) rfl rfl HS (fun w' hS' => y_load rfl rfl (sc rfl) (by obtain ⟨s1, s2⟩ := hS'; assumption)) ?_
  refine sxo_y 5 10 (by kernel_rfl) (fun c a t v w h => by cases t <;> exact h) (by kernel_rfl) rfl (by kernel_rfl) (by kernel_rfl) rfl (wn_none rfl) rfl rfl HS (fun w' hS' => yp rfl) ?_
  refine sxo_y 6 10 (by kernel_rfl) (fun c a t v w h => by cases t <;> exact h) (by kernel_rfl) rfl (by kernel_rfl) (by kernel_rfl) rfl (wn_none rfl) rfl rfl HS (fun w' hS' => yp rfl) ?_
  refine sxo_y 7 10 (by kernel_rfl) (fun c a t v w h => by cases t <;> exact h) (by kernel_rfl) rfl (by kernel_rfl) (by kernel_rfl) rfl (wn_none rfl) rfl rfl HS (fun w' hS' => yp rfl) ?_
  refine sxo_y 8 10 (by kernel_rfl) (fun c a t v w h => by cases t <;> exact h) (by kernel_rfl) rfl (by kernel_rfl) (by kernel_rfl) rfl (wn_none rfl) rfl rfl HS (fun w' hS' => y_load rfl rfl (sc rfl) (by obtain ⟨s1, s2⟩ := hS'; assumption)) ?_
  have hone : ∀ u ∈ flatR R.wv, u.oneCell' = true := by
    intro u hu
    obtain ⟨cs, hcs, hu⟩ := List.mem_flatten.1 hu
    obtain ⟨p, hp, rfl⟩ := List.mem_map.1 hcs
    simp only [rrow, List.mem_cons, List.not_mem_nil, or_false] at hu
    rcases hu with rfl | rfl
    · rfl
    · exact h.hv.one p.2 (List.mem_map.2 ⟨p, hp, rfl⟩)
  refine sxo_does 9 (some 63) (by kernel_rfl) rfl (wn_none rfl) rfl rfl (fun ρ hρ => does_appendN (.tmp 58) (.tmp 62) 73 rfl w.heap.size 85 _ 2 32 Try.underlying73 info_rwrite (by kernel_rfl) (by omega) (.slice none 0 0) 0 [] (hρ _ _ rfl) (World.ownsRow_nil ..) wA s.waits.length wc (flatR R.wv) (hρ _ _ rfl) (hwr.fr0 (hf.drew)) hone (by unfold maxLen; omega) (by omega) hf.size) ?_
  rintro v2 w2 ⟨ho2, hg2, hv2⟩
  rw [Nat.zero_add, List.nil_append] at ho2
  have hf2 : Fr0 wr w2 := Fr.ofDrew (Fr.grown (S := Nowhere) Fr.refl hg2 (fun k e _ => by cases e))
  refine ⟨fun _ => HSf _ hf2, ?_⟩
  refine sxo_seq 10 (by kernel_rfl) rfl rfl (by kernel_rfl) ?_
  refine sxl_y (wn_none rfl) rfl rfl (yp rfl) ?_
  refine sxl_y (wn_none rfl) rfl rfl (yp rfl) ?_
  have hb2 := hb.fr0 hf2
  refine sxl_does none (wn_none rfl) rfl rfl (fun ρ hρ => does_store1 73 (.tmp 65) (.tmp 63) rfl gx 1 76 _ v2 (hρ _ _ rfl) (hρ _ _ rfl) (own_cells ho2) hb2 (by kernel_rfl) (by simp) (own_one ho2)) ?_
  rintro _ w3 ⟨rfl, hb3, hf3⟩
  refine sxl_nil ?_
  refine qx_seq ?_
  refine sx_seq ?_
  refine sx_region ?_
  refine sxl_y (wn_none rfl) rfl rfl (yp rfl) ?_
  refine sxl_y (wn_none rfl) rfl rfl (yp rfl) ?_
  refine sxl_nil ?_
  refine qx_seq ?_
  refine sx_ret ?_
  refine qx_ret1 rfl rfl ?_
  have hf23 : Fr (fun b => b = gx) wr w3 := hf2.of0.step hf3 (fun b _ e => e)
  have hF : Fr0 w w3 := hf.step hf23 (fun b hb' e => by omega)
  refine ⟨⟨gx, vx, v2, .slice kA s.keep.length kc, sv, R.wv⟩, rfl, ⟨h.wf, hb3, ?_, ?_, ?_, h.ha, h.hv.fr0 hF, ?_⟩, ?_, ?_, hF⟩
  · exact ownN_fr (own_base hl (Nat.zero_le _)) hf23 (fun k hk e => own_off hl hb (by decide) (e ▸ hk))
  · exact hs.fr hf23 (fun v hv b hb' e => by
      obtain ⟨_, cs, hc⟩ := hs.lt hv hb'
      subst e
      exact Blk.ne hc hb (by decide) rfl)
  · exact ownN_fr (ownN_base ho2 (Nat.zero_le _)) hf3 (fun k hk e => own_off ho2 hb2 (by decide) (e ▸ hk))
  · exact ownN_fr (ek ▸ h.hk) hF (fun _ _ hh => hh)
  · rintro b (rfl | hb' | hb')
    · exact hgx
    · exact (hl.lt b hb').1
    · exact (ho2.lt b hb').1
  · rintro b (⟨v, hv, hb'⟩ | ⟨p, hp, hb'⟩ | hb')
    · exact .inr (hge v hv b hb')
    · exact .inl (.inr (.inl ⟨p, hp, hb'⟩))
    · exact .inl (.inr (.inr (by rw [ek]; exact hb')))
end Go.Proofs.Ytbfeailalhddgaa
