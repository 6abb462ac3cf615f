/- Contracts of a disk's Flush, Crash, Fuse. -/
import Derived.Test.YtbfeailalhddgaaDisk9
namespace Go.Proofs.Ytbfeailalhddgaa
open Go.RowKit

theorem flush_nil (w : World) : Calls Try.prog 11 #[.pointer none] w fun e w' => e = .returned (.int .i64 2) ∧ w = w' := by
  refine sx_enter (vs := [_]) Try.func11 rfl Try.ntmps11 rfl ?_
  refine sx_seq ?_
  refine sx_region ?_
  refine sxl_y (wn_none rfl) rfl rfl (yp rfl) ?_
  refine sxl_nil ?_
  refine qx_seq ?_
  refine sx_seq ?_
  refine sx_seq ?_
  refine sx_region ?_
  refine sxl_y (wn_none rfl) rfl rfl (yp rfl) ?_
  refine sxl_call (some 7) (wn_none rfl) rfl rfl (yc_call rfl rfl Try.call25) (alive_nil w) ?_
  rintro _ _ ⟨rfl, rfl⟩
  refine ⟨_, rfl, ?_⟩
  refine sxl_y (wn_none rfl) rfl rfl (yp rfl) ?_
  refine sxl_nil ?_
  refine qx_seq ?_
  refine sx_seq ?_
  refine sx_region ?_
  refine sxl_y (wn_none rfl) rfl rfl (yp rfl) ?_
  refine sxl_y (wn_none rfl) rfl rfl (y_neq_t rfl rfl rfl (by omega)) ?_
  refine sxl_nil ?_
  refine qx_seq ?_
  refine sx_true rfl ?_
  refine sx_seq ?_
  refine sx_region ?_
  refine sxl_y (wn_none rfl) rfl rfl (yp rfl) ?_
  refine sxl_y (wn_none rfl) rfl rfl (yp rfl) ?_
  refine sxl_nil ?_
  refine qx_seq ?_
  refine sx_ret ?_
  refine qx_then_ret ?_
  refine qx_ret1 rfl rfl ?_
  exact ⟨rfl, rfl⟩
theorem flush_dead (w : World) (L : DL) (s : DS) (h : DkAt w L s) (hd : s.dead = true) : Calls Try.prog 11 #[.pointer (some ⟨L.gd, 0, none⟩)] w fun e w' => e = .returned (.int .i64 20) ∧ w = w' := by
  refine sx_enter (vs := [_]) Try.func11 rfl Try.ntmps11 rfl ?_
  refine sx_seq ?_
  refine sx_region ?_
  refine sxl_y (wn_none rfl) rfl rfl (yp rfl) ?_
  refine sxl_nil ?_
  refine qx_seq ?_
  refine sx_seq ?_
  refine sx_seq ?_
  refine sx_region ?_
  refine sxl_y (wn_none rfl) rfl rfl (yp rfl) ?_
  refine sxl_call (some 7) (wn_none rfl) rfl rfl (yc_call rfl rfl Try.call25) (alive_dead w L s h hd) ?_
  rintro _ _ ⟨rfl, rfl⟩
  refine ⟨_, rfl, ?_⟩
  refine sxl_y (wn_none rfl) rfl rfl (yp rfl) ?_
  refine sxl_nil ?_
  refine qx_seq ?_
  refine sx_seq ?_
  refine sx_region ?_
  refine sxl_y (wn_none rfl) rfl rfl (yp rfl) ?_
  refine sxl_y (wn_none rfl) rfl rfl (y_neq_t rfl rfl rfl (by omega)) ?_
  refine sxl_nil ?_
  refine qx_seq ?_
  refine sx_true rfl ?_
  refine sx_seq ?_
  refine sx_region ?_
  refine sxl_y (wn_none rfl) rfl rfl (yp rfl) ?_
  refine sxl_y (wn_none rfl) rfl rfl (yp rfl) ?_
  refine sxl_nil ?_
  refine qx_seq ?_
  refine sx_ret ?_
  refine qx_then_ret ?_
  refine qx_ret1 rfl rfl ?_
  exact ⟨rfl, rfl⟩
set_option maxHeartbeats 4000000 in
theorem flush_ok (w : World) (L : DL) (s : DS) (h : DkAt w L s) (hd : s.dead = false) (hdm : s.done ≤ 1073741824) :
    Calls Try.prog 11 #[.pointer (some ⟨L.gd, 0, none⟩)] w fun e w' => ∃ L', e = .returned (.int .i64 s.flushes.2) ∧ DkTo w w' L L' s.flushes.1 := by
  refine sx_enter (vs := [_]) Try.func11 rfl Try.ntmps11 rfl ?_
  refine sx_seq ?_
  refine sx_region ?_
  refine sxl_y (wn_none rfl) rfl rfl (yp rfl) ?_
  refine sxl_nil ?_
  refine qx_seq ?_
  refine sx_seq ?_
  refine sx_seq ?_
  refine sx_region ?_
  refine sxl_y (wn_none rfl) rfl rfl (yp rfl) ?_
  refine sxl_call (some 7) (wn_none rfl) rfl rfl (yc_call rfl rfl Try.call25) (alive_ok w L s h hd) ?_
  rintro _ _ ⟨rfl, rfl⟩
  refine ⟨_, rfl, ?_⟩
  refine sxl_y (wn_none rfl) rfl rfl (yp rfl) ?_
  refine sxl_nil ?_
  refine qx_seq ?_
  refine sx_seq ?_
  refine sx_region ?_
  refine sxl_y (wn_none rfl) rfl rfl (yp rfl) ?_
  refine sxl_y (wn_none rfl) rfl rfl (y_neq_f rfl rfl rfl (by omega)) ?_
  refine sxl_nil ?_
  refine qx_seq ?_
  refine sx_false rfl ?_
  refine sx_skip ?_
  refine qx_seq ?_
  refine sx_seq ?_
  refine sx_seq ?_
  refine sx_region ?_
  refine sxl_y (wn_none rfl) rfl rfl (yp rfl) ?_
  refine sxl_call (some 12) (wn_none rfl) rfl rfl (yc_call rfl rfl Try.call26) (burns_any w L s h) ?_
  rintro _ w1 ⟨rfl, h1⟩
  refine ⟨_, rfl, ?_⟩
  have hd1 := h1.dk
  by_cases hdue : s.due = true
  · rw [hdue]
    rw [DS.burnt_due hdue] at hd1 h1
    refine sxl_nil ?_
    refine qx_seq ?_
    refine sx_true rfl ?_
    refine sx_seq ?_
    refine sx_region ?_
    refine sxl_y (wn_none rfl) rfl rfl (yp rfl) ?_
    refine sxl_y (wn_none rfl) rfl rfl (yp rfl) ?_
    refine sxl_y (wn_none rfl) rfl rfl (yp rfl) ?_
    refine sxl_y (wn_none rfl) rfl rfl (yp rfl) ?_
    refine sxl_y (wn_none rfl) rfl rfl (yp rfl) ?_
    refine sxl_y (wn_none rfl) rfl rfl (y_loadB rfl rfl hd1.hd Try.underlying25 rfl plan_size (by simp [DS.cells])) ?_
    refine sxl_call (some 19) (wn_none rfl) rfl rfl (yc_call rfl rfl Try.call27) (crash_any w1 L s hd1 L.kA L.kc s.keep s.torn s.cut hd1.hk hd1.kn hd1.wf.cut) ?_
    rintro _ w6 ⟨rfl, h6, hf6⟩
    refine ⟨_, rfl, ?_⟩
    refine sxl_nil ?_
    refine qx_seq ?_
    refine sx_seq ?_
    refine sx_region ?_
    refine sxl_y (wn_none rfl) rfl rfl (yp rfl) ?_
    refine sxl_nil ?_
    refine qx_seq ?_
    refine sx_ret ?_
    refine qx_then_ret ?_
    refine qx_ret1 rfl rfl ?_
    have e : s.flushes = (s.crash s.keep s.torn s.cut, 20) := by unfold DS.flushes; rw [if_pos hdue]
    rw [e]
    exact ⟨_, rfl, h1.crash h6 hf6⟩
  have hdue : s.due = false := by simpa using hdue
  rw [hdue]
  have e : s.flushes = (s.burnt.flush, 0) := by unfold DS.flushes; rw [if_neg (by simp [hdue])]
  rw [e]
  have hsd : s.burnt.done = s.done := by unfold DS.burnt; split <;> rfl
  rw [← hsd] at hdm
  clear h e hsd hdue hd
  generalize s.burnt = s at *
  have h := hd1
  obtain ⟨gl, cl, rl, evl, _, hcl, hcm, hbl, hll⟩ := ownN_blk h.hl h.wf.pos
  obtain ⟨wA, wc, evw, hwc, hwr, _, _⟩ := ownN_form h.hw
  have hgl : L.vl.ownBlock = some gl := by rw [evl]; rfl
  have hgl1 := h.l_gd hgl
  have hgl2 := h.hd.lt
  have hgl3 := (h.hl.lt gl hgl).2
  have hpos := h.wf.pos
  have hle := h.wf.le
  have hwlen := flatW_length (fun y hy => (h.wf.aw y hy).2)
  have q2 : Cell w1.heap L.gd 2 (.slice wA s.waits.length wc) := h.hd.c 2 (by rw [← evw]; rfl)
  refine sxl_nil ?_
  refine qx_seq ?_
  refine sx_false rfl ?_
  refine sx_skip ?_
  refine qx_seq ?_
  refine sx_seq ?_
  refine sx_seq ?_
  refine sx_region ?_
  refine sxl_y (wn_none rfl) rfl rfl (yp rfl) ?_
  refine sxl_y (wn_none rfl) rfl rfl (yp rfl) ?_
  refine sxl_y (wn_none rfl) rfl rfl (yp rfl) ?_
  refine sxl_y (wn_none rfl) rfl rfl (y_load rfl rfl (sc rfl) (by assumption)) ?_
  refine sxl_y (wn_none rfl) rfl rfl (y_len rfl rfl (sl rfl)) ?_
  refine sxl_y (wn_none rfl) rfl rfl (yp rfl) ?_
  refine sxl_nil ?_
  refine qx_seq ?_
  refine sx_block ?_
  refine sx_loop (fun e wr m => ∃ (k : Nat) (l : List (List UInt8)), e = [(25, .int .i64 (k : Int)), (0, .pointer (some ⟨L.gd, 0, none⟩)), (23, .slice wA s.waits.length wc), (24, .int .i64 (s.waits.length : Int))]
      ∧ k ≤ s.waits.length ∧ Blk wr gl 65 (flatB l ++ rl) ∧ All 128 l ∧ l.length = s.lasts.length ∧ flushAll (s.waits.drop k) l = flushAll s.waits s.lasts ∧ Fr (fun b => b = gl) w1 wr ∧ m = s.waits.length - k)
    ⟨0, s.lasts, rfl, Nat.zero_le _, hbl, h.wf.al, rfl, rfl, Fr.refl, rfl⟩ ⟨rfl, rfl, rfl, rfl, trivial⟩ ?_
  rintro _ wr _ ⟨k, l, rfl, hkw, hb, hal, hln, hcr, hfr, rfl⟩
  have hzr := hfr.size
  by_cases hlt : k < s.waits.length
  · obtain ⟨x, hx⟩ : ∃ x, s.waits[k]? = some x := ⟨_, List.getElem?_eq_getElem hlt⟩
    obtain ⟨hx1, hx2⟩ := h.wf.aw x (List.mem_of_getElem? hx)
    obtain ⟨gw, cw, rw', evw', _, hwc1, hwc2, hbw, _⟩ := ownN_blk h.hw (by omega)
    unfold maxLen at hwc2
    have hgwl := h.w_l (b := gw) (by rw [evw']; rfl) hgl
    have hgw := hbw.lt
    rw [evw'] at evw
    injection evw with e1 _ e2
    subst e1 e2
    have hwx : (wcells x).length = 129 := by simp [wcells, bvs_length, hx2]
    have hk1 : (k + 1) * 129 ≤ s.waits.length * 129 := Nat.mul_le_mul_right _ hlt
    have hld : ((flatW s.waits ++ rw').drop (k * 129)).take 129 = wcells x := by
      rw [List.drop_append_of_le_length (by rw [hwlen]; omega), List.take_append_of_le_length (by rw [List.length_drop, hwlen]; omega)]
      exact flatW_at (fun y hy => (h.wf.aw y hy).2) hx
    have hbw2 := hbw.fr hfr hgwl
    refine sx_seq ?_
    refine sx_region ?_
    refine sxl_y (wn_none rfl) rfl rfl (y_lss_t rfl rfl rfl (by omega)) ?_
    refine sxl_nil ?_
    refine qx_seq ?_
    refine sx_seq ?_
    refine sx_true rfl ?_
    refine sx_skip ?_
    refine qx_seq ?_
    refine sx_seq ?_
    refine sx_block ?_
    refine sx_seq ?_
    refine sx_region ?_
    refine sxl_y (wn_none rfl) rfl rfl (y_indexN rfl rfl rfl (sl rfl) (by omega)) ?_
    refine sxl_does (some 28) (wn_none rfl) rfl rfl (fun ρ hρ => does_load 67 (.tmp 27) rfl gw (k * 129) 129 67 (flatW s.waits ++ rw') _ (by rw [hρ _ _ rfl, Nat.zero_add]) hbw2 Try.underlying67 rfl size_write (by rw [List.length_append, hwlen]; omega)) ?_
    rintro _ _ ⟨rfl, rfl⟩
    rw [hld]
    refine sxl_does (some 5) (wn_none rfl) rfl rfl (fun ρ hρ => does_alloc 67 rfl _ (wcells (0, zsec)) (zero_write) rfl) ?_
    rintro _ w5 ⟨g6, rfl, h6, h6', hb6, hf6⟩
    refine sxl_does none (wn_none rfl) rfl rfl (fun ρ hρ => does_store 67 (.tmp 5) (.tmp 28) rfl g6 0 67 (wcells (0, zsec)) (wcells x) (hρ _ _ rfl) (hρ _ _ rfl) hb6 (by rw [hwx]; exact size_write) (by rw [hwx]; exact Nat.le_refl _) (wcells_one x)) ?_
    rintro _ w6 ⟨rfl, hb6', hf6'⟩
    rw [put_all _ _ (by rw [hwx]; rfl)] at hb6'
    have hf : Fr (fun b => b = g6) wr w6 := (Fr.of0 hf6 : Fr (fun b => b = g6) wr w5).trans hf6'
    have hd6 := (h.hd.fr hfr (by omega)).fr hf (by have := h.hd.lt; omega)
    have c00 : Cell w6.heap L.gd 0 (.slice (some ⟨gl, 0, none⟩) s.lasts.length cl) := hd6.c 0 (by rw [← evl]; rfl)
    have c60 : Cell w6.heap g6 0 (.int .i64 (x.1 : Int)) := hb6'.c 0 rfl
    have hb6l := hb.fr hf (by omega)
    have hfl := flatB_length hal
    have hx1' : (x.1 + 1) * 128 ≤ l.length * 128 := Nat.mul_le_mul_right _ (by omega)
    have hdrop : s.waits.drop k = x :: s.waits.drop (k + 1) := by
      rw [List.drop_eq_getElem_cons hlt]; congr 1; exact (List.getElem?_eq_some_iff.1 hx).2
    rw [hdrop, flushAll] at hcr
    have hl65 : (((wcells x).drop 1).take 128) = bvs x.2 := by
      have : (bvs x.2).length ≤ 128 := by rw [bvs_length, hx2]; exact Nat.le_refl _
      simpa [wcells] using List.take_of_length_le this
    refine sxl_nil ?_
    refine qx_seq ?_
    refine sx_tail 9 hmix (by kernel_rfl) ?_
    refine sxs_y (wn_none rfl) rfl rfl (yp rfl) ?_
    refine sxs_y (wn_none rfl) rfl rfl (yp rfl) ?_
    refine sxs_y (wn_none rfl) rfl rfl (yp rfl) ?_
    refine sxs_y (wn_none rfl) rfl rfl (y_load rfl rfl (sc rfl) (by assumption)) ?_
    refine sxs_y (wn_none rfl) rfl rfl (yp rfl) ?_
    refine sxs_y (wn_none rfl) rfl rfl (y_load rfl rfl (sc rfl) (by assumption)) ?_
    refine sxs_y (wn_none rfl) rfl rfl (yp rfl) ?_
    refine sxs_y (wn_none rfl) rfl rfl (y_loadB rfl rfl hb6'.drew Try.underlying65 rfl size_sec (by rw [hwx]; exact Nat.le_refl _)) ?_
    refine sxs_y (wn_none rfl) rfl rfl (y_indexN rfl rfl rfl (sl rfl) (by omega)) ?_
    refine sxs_tail ?_
    refine sxl_does none (wn_none rfl) rfl rfl (fun ρ hρ => does_store 65 (.tmp 37) (.tmp 36) rfl gl (x.1 * 128) 65 (flatB l ++ rl) (bvs x.2) (by rw [hρ _ _ rfl, Nat.zero_add]) (by rw [hρ _ _ rfl]; exact congrArg (fun z : List Value => Value.agg z.toArray) hl65) hb6l.drew (by rw [bvs_length, hx2]; exact size_sec) (by rw [List.length_append, hfl, bvs_length, hx2]; omega) (bvs_one _)) ?_
    rintro _ w7 ⟨rfl, hb7, hf7⟩
    rw [put_front _ _ _ _ (by rw [bvs_length, hx2, hfl]; omega), flatB_put hal (by omega) _ hx2] at hb7
    refine sxl_nil ?_
    refine qx_block_normal ?_
    refine qx_seq ?_
    refine sx_region ?_
    refine sxl_y (wn_none rfl) rfl rfl (y_add rfl rfl rfl (by omega)) ?_
    refine sxl_y (wn_none rfl) rfl rfl (yp rfl) ?_
    refine sxl_nil ?_
    refine qx_again [(25, .int .i64 ((k + 1 : Nat) : Int)), (0, .pointer (some ⟨L.gd, 0, none⟩)), (23, .slice (some ⟨gw, 0, none⟩) s.waits.length cw), (24, .int .i64 (s.waits.length : Int))] (s.waits.length - (k + 1)) ?_ ?_ ?_
    · exact ⟨k + 1, _, rfl, by omega, hb7, hal.set _ hx2, by rw [List.length_set]; omega, hcr, ((hfr.then0 hf6).step hf6' (fun b hb e => by omega)).step hf7.ofDrew (fun _ _ hh => hh), rfl⟩
    · omega
    · exact ⟨rfl, rfl, rfl, rfl, trivial⟩
  · obtain rfl : k = s.waits.length := by omega
    have hdr := h.hd.fr hfr (by omega)
    refine sx_seq ?_
    refine sx_region ?_
    refine sxl_y (wn_none rfl) rfl rfl (y_lss_f rfl rfl rfl (by omega)) ?_
    refine sxl_nil ?_
    refine qx_seq ?_
    refine sx_seq ?_
    refine sx_false rfl ?_
    refine sx_exit ?_
    refine qx_then_exit ?_
    refine qx_then_exit ?_
    refine qx_block_hit ?_
    refine qx_seq ?_
    refine sx_seq ?_
    refine sx_region ?_
    refine sxl_y (wn_none rfl) rfl rfl (yp rfl) ?_
    refine sxl_y (wn_none rfl) rfl rfl (yp rfl) ?_
    refine sxl_y (wn_none rfl) rfl rfl (yp rfl) ?_
    refine sxl_does none (wn_none rfl) rfl rfl (fun ρ hρ => does_store1 59 (.tmp 41) _ rfl L.gd 2 63 _ _ (hρ _ _ rfl) (hρ _ _ rfl) rfl hdr (by kernel_rfl) (by simp [DS.cells]) rfl) ?_
    rintro _ w8 ⟨rfl, hb8, hf8⟩
    have c3 : Cell w8.heap L.gd 3 (.int .i64 (s.done : Int)) := hb8.c 3 rfl
    refine sxl_nil ?_
    refine qx_seq ?_
    refine sx_seq ?_
    refine sx_region ?_
    refine sxl_y (wn_none rfl) rfl rfl (yp rfl) ?_
    refine sxl_y (wn_none rfl) rfl rfl (yp rfl) ?_
    refine sxl_y (wn_none rfl) rfl rfl (yp rfl) ?_
    refine sxl_y (wn_none rfl) rfl rfl (y_load rfl rfl (sc rfl) (by assumption)) ?_
    refine sxl_y (wn_none rfl) rfl rfl (y_add rfl rfl rfl (by omega)) ?_
    refine sxl_y (wn_none rfl) rfl rfl (yp rfl) ?_
    refine sxl_y (wn_none rfl) rfl rfl (yp rfl) ?_
    refine sxl_does none (wn_none rfl) rfl rfl (fun ρ hρ => does_store1 3 (.tmp 48) (.tmp 46) rfl L.gd 3 63 _ (.int .i64 ((s.done + 1 : Nat) : Int)) (hρ _ _ rfl) (hρ _ _ rfl) rfl hb8 (by kernel_rfl) (by simp [DS.cells]) rfl) ?_
    rintro _ w9 ⟨rfl, hb9, hf9⟩
    refine sxl_nil ?_
    refine qx_seq ?_
    refine sx_seq ?_
    refine sx_region ?_
    refine sxl_y (wn_none rfl) rfl rfl (yp rfl) ?_
    refine sxl_nil ?_
    refine qx_seq ?_
    refine sx_ret ?_
    refine qx_ret1 rfl rfl ?_
    rw [List.drop_length, flushAll] at hcr
    have hcl' : s.flush.lasts.length = s.lasts.length := flushAll_length ..
    have hcl2 : s.flush.lasts = l := hcr.symm
    have hf19 : Fr (fun b => b = gl ∨ b = L.gd) w1 w9 := (((hfr.mono (fun _ _ e => .inl e)).step hf8 (fun _ _ e => .inr e)).step hf9 (fun _ _ e => .inr e))
    have hbl9 := (hb.fr hf8 (by omega)).fr hf9 (by omega)
    refine ⟨{ L with vw := .slice none 0 0 }, rfl, h1.trans ⟨⟨DS.flush_wf h.wf, hb9, ?_, ?_, World.ownsRow_nil _ _ _ _, ?_, h.ne, ?_⟩, rfl, hf19.mono ?_, ?_, rfl⟩⟩
    · show w9.ownsRow 0 65 128 L.vl s.flush.lasts.length (flatB s.flush.lasts)
      rw [hcl', hcl2, evl]
      exact ownN_of_blk hbl9 (Nat.zero_le _) hcl hcm (by rw [← hll, List.length_append, List.length_append, flatB_length hal, flatB_length h.wf.al, hln]) (by rw [flatB_length hal, hln])
    · show w9.ownsRow 0 65 128 L.vs s.flush.lasts.length (flatB s.shows)
      rw [hcl']
      exact ownN_fr h.hs hf19 (fun b hb' e => by
        rcases e with e | e
        · exact h.l_s hgl hb' e.symm
        · exact h.s_gd hb' e)
    · exact h.hk.fr hf19 (fun hp b off e e' => h.kn hp b off e (by
        rcases e' with rfl | rfl
        · exact .inr (.inl hgl)
        · exact .inl rfl))
    · intro hp b off e hb
      refine h.kn hp b off e ?_
      rcases hb with hb | hb | hb | hb
      · exact .inl hb
      · exact .inr (.inl hb)
      · exact .inr (.inr (.inl hb))
      · cases hb
    · rintro b _ (rfl | rfl)
      · exact .inr (.inl hgl)
      · exact .inl rfl
    · intro b hb
      rcases hb with hb | hb | hb | hb
      · exact .inl (.inl hb)
      · exact .inl (.inr (.inl hb))
      · exact .inl (.inr (.inr (.inl hb)))
      · cases hb
end Go.Proofs.Ytbfeailalhddgaa
