/- Contracts of a disk's Reopen and Copy. -/
import Derived.Test.YtbfeailalhddgaaDisk11
namespace Go.Proofs.Ytbfeailalhddgaa
open Go.RowKit

theorem reopen_nil (w : World) : Calls Try.prog 14 #[.pointer none] w fun e w' => e = .returned (.tuple #[.pointer none, .int .i64 2]) ∧ w = w' := by
  refine sx_enter (vs := [_]) Try.func14 rfl Try.ntmps14 rfl ?_
  refine sx_seq ?_
  refine sx_region ?_
  refine sxl_y (wn_none rfl) rfl rfl (yp rfl) ?_
  refine sxl_y (wn_none rfl) rfl rfl (yp rfl) ?_
  refine sxl_nil ?_
  refine qx_seq ?_
  refine sx_seq ?_
  refine sx_block ?_
  refine sx_seq ?_
  refine sx_region ?_
  refine sxl_y (wn_none rfl) rfl rfl (yp rfl) ?_
  refine sxl_y (wn_none rfl) rfl rfl (y_eqlNil rfl rfl rfl (pt rfl)) ?_
  refine sxl_y (wn_none rfl) rfl rfl (yp rfl) ?_
  refine sxl_nil ?_
  refine qx_seq ?_
  refine sx_true rfl ?_
  refine sx_seq ?_
  refine sx_region ?_
  refine sxl_y (wn_none rfl) rfl rfl (yp rfl) ?_
  refine sxl_y (wn_none rfl) rfl rfl (yp rfl) ?_
  refine sxl_nil ?_
  refine qx_seq ?_
  refine sx_ret ?_
  refine qx_block_ret ?_
  refine qx_then_ret ?_
  refine qx_ret2 rfl rfl rfl ?_
  exact ⟨rfl, rfl⟩
theorem reopen_live (w : World) (L : DL) (s : DS) (h : DkAt w L s) (hd : s.dead = false) : Calls Try.prog 14 #[.pointer (some ⟨L.gd, 0, none⟩)] w fun e w' => e = .returned (.tuple #[.pointer none, .int .i64 250]) ∧ w = w' := by
  have c4 : Cell w.heap L.gd 4 (.bool false) := h.hd.c 4 (by rw [← hd]; rfl)
  refine sx_enter (vs := [_]) Try.func14 rfl Try.ntmps14 rfl ?_
  refine sx_seq ?_
  refine sx_region ?_
  refine sxl_y (wn_none rfl) rfl rfl (yp rfl) ?_
  refine sxl_y (wn_none rfl) rfl rfl (yp rfl) ?_
  refine sxl_nil ?_
  refine qx_seq ?_
  refine sx_seq ?_
  refine sx_block ?_
  refine sx_seq ?_
  refine sx_region ?_
  refine sxl_y (wn_none rfl) rfl rfl (yp rfl) ?_
  refine sxl_y (wn_none rfl) rfl rfl (y_eqlNil rfl rfl rfl (pt rfl)) ?_
  refine sxl_y (wn_none rfl) rfl rfl (yp rfl) ?_
  refine sxl_nil ?_
  refine qx_seq ?_
  refine sx_false rfl ?_
  refine sx_seq ?_
  refine sx_region ?_
  refine sxl_y (wn_none rfl) rfl rfl (yp rfl) ?_
  refine sxl_y (wn_none rfl) rfl rfl (yp rfl) ?_
  refine sxl_y (wn_none rfl) rfl rfl (yp rfl) ?_
  refine sxl_y (wn_none rfl) rfl rfl (y_load rfl rfl (sc rfl) (by assumption)) ?_
  refine sxl_y (wn_none rfl) rfl rfl (yp rfl) ?_
  refine sxl_y (wn_none rfl) rfl rfl (yp rfl) ?_
  refine sxl_nil ?_
  refine qx_seq ?_
  refine sx_true rfl ?_
  refine sx_seq ?_
  refine sx_region ?_
  refine sxl_y (wn_none rfl) rfl rfl (yp rfl) ?_
  refine sxl_y (wn_none rfl) rfl rfl (yp rfl) ?_
  refine sxl_nil ?_
  refine qx_seq ?_
  refine sx_ret ?_
  refine qx_block_ret ?_
  refine qx_then_ret ?_
  refine qx_ret2 rfl rfl rfl ?_
  exact ⟨rfl, rfl⟩
def DS.reopen (s : DS) : DS := { lasts := s.lasts, shows := s.lasts, waits := [], done := 0, dead := false, fset := false, left := 0, keep := [], torn := 0, cut := 0 }
theorem DS.reopen_wf {s : DS} (h : s.Wf) : s.reopen.Wf := ⟨h.pos, h.le, rfl, h.al, h.al, (by simp [DS.reopen]), Nat.zero_le _, (by simp [DS.reopen])⟩
theorem flatB_one (l : List (List UInt8)) : ∀ u ∈ flatB l, u.oneCell' = true := bvs_one _
theorem flatW_one (l : List (Nat × List UInt8)) : ∀ u ∈ flatW l, u.oneCell' = true := by
  intro u hu
  obtain ⟨cs, hcs, hu⟩ := List.mem_flatten.1 hu
  obtain ⟨x, _, rfl⟩ := List.mem_map.1 hcs
  exact wcells_one x u hu
theorem own_block_ne {w : World} {base size n : Nat} {e : TypeId} {v : Value} {xs : List Value} (h : w.ownsRow base e size v n xs) (hn : 0 < n) : ∃ g, v.ownBlock = some g ∧ base ≤ g ∧ g < w.heap.size := by
  obtain ⟨g, cap, _, rfl, hb, _, _, hbl, _⟩ := ownN_blk h hn
  exact ⟨g, rfl, hb, hbl.lt⟩
theorem reopen_ok (w : World) (L : DL) (s : DS) (h : DkAt w L s) (hd : s.dead = true) :
    Calls Try.prog 14 #[.pointer (some ⟨L.gd, 0, none⟩)] w fun e w' => ∃ L', e = .returned (.tuple #[.pointer (some ⟨L'.gd, 0, none⟩), .int .i64 0]) ∧ DkAt w' L' s.reopen ∧ (∀ b, L'.blocks b → w.heap.size ≤ b) ∧ Fr0 w w' := by
  have c4 : Cell w.heap L.gd 4 (.bool true) := h.hd.c 4 (by rw [← hd]; rfl)
  obtain ⟨lA, lc, evl, hlc, hrl, _, hlN⟩ := ownN_form h.hl
  have c0 : Cell w.heap L.gd 0 (.slice lA s.lasts.length lc) := h.hd.c 0 (by rw [← evl]; rfl)
  have hpos := h.wf.pos
  have hle := h.wf.le
  have hlN := hlN (by omega)
  refine sx_enter (vs := [_]) Try.func14 rfl Try.ntmps14 rfl ?_
  refine sx_seq ?_
  refine sx_region ?_
  refine sxl_y (wn_none rfl) rfl rfl (yp rfl) ?_
  refine sxl_y (wn_none rfl) rfl rfl (yp rfl) ?_
  refine sxl_nil ?_
  refine qx_seq ?_
  refine sx_seq ?_
  refine sx_block ?_
  refine sx_seq ?_
  refine sx_region ?_
  refine sxl_y (wn_none rfl) rfl rfl (yp rfl) ?_
  refine sxl_y (wn_none rfl) rfl rfl (y_eqlNil rfl rfl rfl (pt rfl)) ?_
  refine sxl_y (wn_none rfl) rfl rfl (yp rfl) ?_
  refine sxl_nil ?_
  refine qx_seq ?_
  refine sx_false rfl ?_
  refine sx_seq ?_
  refine sx_region ?_
  refine sxl_y (wn_none rfl) rfl rfl (yp rfl) ?_
  refine sxl_y (wn_none rfl) rfl rfl (yp rfl) ?_
  refine sxl_y (wn_none rfl) rfl rfl (yp rfl) ?_
  refine sxl_y (wn_none rfl) rfl rfl (y_load rfl rfl (sc rfl) (by assumption)) ?_
  refine sxl_y (wn_none rfl) rfl rfl (yp rfl) ?_
  refine sxl_y (wn_none rfl) rfl rfl (yp rfl) ?_
  refine sxl_nil ?_
  refine qx_seq ?_
  refine sx_false rfl ?_
  refine sx_skip ?_
  refine qx_block_normal ?_
  refine qx_seq ?_
  refine sx_seq ?_
  refine sx_any 14 (fun w' => Cell w'.heap L.gd 0 (.slice lA s.lasts.length lc) ∧ True) hmix ?_
  have HS : Cell w.drew.heap L.gd 0 (.slice lA s.lasts.length lc) ∧ True := ⟨c0, trivial⟩
  refine sxo_y 0 14 (by kernel_rfl) (fun c a t v w h => by cases t <;> exact h) (by kernel_rfl) rfl (by kernel_rfl) (by kernel_rfl) rfl (wn_none rfl) rfl rfl HS (fun w' hS' => yp rfl) ?_
  refine sxo_y 1 14 (by kernel_rfl) (fun c a t v w h => by cases t <;> exact h) (by kernel_rfl) rfl (by kernel_rfl) (by kernel_rfl) rfl (wn_none rfl) rfl rfl HS (fun w' hS' => yp rfl) ?_
  refine sxo_y 2 14 (by kernel_rfl) (fun c a t v w h => by cases t <;> exact h) (by kernel_rfl) rfl (by kernel_rfl) (by kernel_rfl) rfl (wn_none rfl) rfl rfl HS (fun w' hS' => yp rfl) ?_
  refine sxo_y 3 14 (by kernel_rfl) (fun c a t v w h => by cases t <;> exact h) (by kernel_rfl) rfl (by kernel_rfl) (by kernel_rfl) rfl (wn_none rfl) rfl rfl HS (fun w' hS' => y_load rfl rfl (sc rfl) (by obtain ⟨s1, s2⟩ := hS'; assumption)) ?_
  refine sxo_y 5 14 (by kernel_rfl) (fun c a t v w h => by cases t <;> exact h) (by kernel_rfl) rfl (by kernel_rfl) (by kernel_rfl) rfl (wn_none rfl) rfl rfl HS (fun w' hS' => yp rfl) ?_
  refine sxo_y 6 14 (by kernel_rfl) (fun c a t v w h => by cases t <;> exact h) (by kernel_rfl) rfl (by kernel_rfl) (by kernel_rfl) rfl (wn_none rfl) rfl rfl HS (fun w' hS' => yp rfl) ?_
  refine sxo_y 7 14 (by kernel_rfl) (fun c a t v w h => by cases t <;> exact h) (by kernel_rfl) rfl (by kernel_rfl) (by kernel_rfl) rfl (wn_none rfl) rfl rfl HS (fun w' hS' => yp rfl) ?_
  refine sxo_y 8 14 (by kernel_rfl) (fun c a t v w h => by cases t <;> exact h) (by kernel_rfl) rfl (by kernel_rfl) (by kernel_rfl) rfl (wn_none rfl) rfl rfl HS (fun w' hS' => y_load rfl rfl (sc rfl) (by obtain ⟨s1, s2⟩ := hS'; assumption)) ?_
  have hcl := fun (W : World) (hf : Fr0 w W) => cloneSec lA s.lasts.length lc (flatB s.lasts) W (by omega) (hrl.fr0 hf) (flatB_one _) (fun e => absurd e hlN)
  refine sxo_call 4 (some 17) (by kernel_rfl) rfl (wn_none rfl) rfl rfl (yc_call rfl rfl Try.call29) (hcl w.drew (Fr.refl.drew)) ?_
  rintro _ w1 ⟨v1, rfl, ho1, hf1⟩
  have hf1 := hf1.ofDrew
  refine ⟨_, rfl, fun _ => ⟨c0.fr hf1 (fun hh => hh), trivial⟩, ?_⟩
  refine sxo_call 9 (some 22) (by kernel_rfl) rfl (wn_none rfl) rfl rfl (yc_call rfl rfl Try.call29) (hcl w1 hf1) ?_
  rintro _ w2 ⟨v2, rfl, ho2, hf2⟩
  have HS : Cell w2.heap L.gd 0 (.slice lA s.lasts.length lc) ∧ True := ⟨(c0.fr hf1 (fun hh => hh)).fr hf2 (fun hh => hh), trivial⟩
  refine ⟨_, rfl, fun _ => HS, ?_⟩
  obtain ⟨g1, hg1, hg1', hg1''⟩ := own_block_ne ho1 hpos
  obtain ⟨g2, hg2, hg2', hg2''⟩ := own_block_ne ho2 hpos
  obtain ⟨A1, cp1, rfl, _⟩ := ownN_form ho1
  obtain ⟨A2, cp2, rfl, _⟩ := ownN_form ho2
  refine sxo_y 10 14 (by kernel_rfl) (fun c a t v w h => by cases t <;> exact h) (by kernel_rfl) rfl (by kernel_rfl) (by kernel_rfl) rfl (wn_none rfl) rfl rfl HS (fun w' hS' => y_build (cells := #[.slice A1 s.lasts.length cp1, .slice A2 s.lasts.length cp2, .slice none 0 0, .int .i64 0, .bool false, .bool false, .int .i64 0, .slice none 0 0, .int .i64 0, .int .i64 0]) rfl rfl (by kernel_rfl)) ?_
  refine sxo_does 11 (some 24) (by kernel_rfl) rfl (wn_none rfl) rfl rfl (fun ρ hρ => does_box 63 (.tmp 23) rfl [.slice A1 s.lasts.length cp1, .slice A2 s.lasts.length cp2, .slice none 0 0, .int .i64 0, .bool false, .bool false, .int .i64 0, .slice none 0 0, .int .i64 0, .int .i64 0] (by rw [hρ _ _ rfl]; rfl)) ?_
  rintro _ w3 ⟨gd, rfl, h3, h3', hb3, hf3⟩
  have HS : Cell w3.heap L.gd 0 (.slice lA s.lasts.length lc) ∧ True := ⟨HS.1.fr hf3 (fun hh => hh), trivial⟩
  refine ⟨fun _ => HS, ?_⟩
  refine sxo_y 12 14 (by kernel_rfl) (fun c a t v w h => by cases t <;> exact h) (by kernel_rfl) rfl (by kernel_rfl) (by kernel_rfl) rfl (wn_none rfl) rfl rfl HS (fun w' hS' => yp rfl) ?_
  refine sxo_y 13 14 (by kernel_rfl) (fun c a t v w h => by cases t <;> exact h) (by kernel_rfl) rfl (by kernel_rfl) (by kernel_rfl) rfl (wn_none rfl) rfl rfl HS (fun w' hS' => yp rfl) ?_
  refine sxo_done (by kernel_rfl) ?_
  refine qx_seq ?_
  refine sx_ret ?_
  refine qx_ret2 rfl rfl rfl ?_
  have hz1 := hf1.size
  have hz2 := hf2.size
  have hz2' : w1.heap.size ≤ g2 := hg2'
  have hz1' : w.heap.size ≤ g1 := hg1'
  refine ⟨⟨gd, .slice A1 s.lasts.length cp1, .slice A2 s.lasts.length cp2, .slice none 0 0, none, 0⟩, rfl, ⟨DS.reopen_wf h.wf, hb3, ?_, ?_, World.ownsRow_nil _ _ _ _, Rd.nil, ?_, ?_⟩, ?_, (hf1.then0 hf2).then0 hf3⟩
  · exact ownN_base (ownN_fr (ownN_fr ho1 hf2 (fun _ _ hh => hh)) hf3 (fun _ _ hh => hh)) (Nat.zero_le _)
  · exact ownN_base (ownN_fr ho2 hf3 (fun _ _ hh => hh)) (Nat.zero_le _)
  · show Value.ownBlock _ ≠ Value.ownBlock _
    rw [hg1, hg2]
    intro e; injection e with e; omega
  · intro hp; exact absurd hp (by simp [DS.reopen])
  · intro b hb
    rcases hb with hb | hb | hb | hb
    · have hb : b = gd := hb
      omega
    · have hb : Value.ownBlock (.slice A1 s.lasts.length cp1) = some b := hb
      rw [hg1] at hb; injection hb with hb; omega
    · have hb : Value.ownBlock (.slice A2 s.lasts.length cp2) = some b := hb
      rw [hg2] at hb; injection hb with hb; omega
    · cases hb
theorem copy_nil (w : World) : Calls Try.prog 24 #[.pointer none] w fun e w' => e = .returned (.pointer none) ∧ w = w' := by
  refine sx_enter (vs := [_]) Try.func24 rfl Try.ntmps24 rfl ?_
  refine sx_seq ?_
  refine sx_region ?_
  refine sxl_y (wn_none rfl) rfl rfl (yp rfl) ?_
  refine sxl_nil ?_
  refine qx_seq ?_
  refine sx_seq ?_
  refine sx_seq ?_
  refine sx_region ?_
  refine sxl_y (wn_none rfl) rfl rfl (yp rfl) ?_
  refine sxl_y (wn_none rfl) rfl rfl (y_eqlNil rfl rfl rfl (pt rfl)) ?_
  refine sxl_nil ?_
  refine qx_seq ?_
  refine sx_true rfl ?_
  refine sx_seq ?_
  refine sx_region ?_
  refine sxl_y (wn_none rfl) rfl rfl (yp rfl) ?_
  refine sxl_nil ?_
  refine qx_seq ?_
  refine sx_ret ?_
  refine qx_then_ret ?_
  refine qx_ret1 rfl rfl ?_
  exact ⟨rfl, rfl⟩
theorem disk_size : (Try.prog.info? 63).map (·.size) = some 10 := by kernel_rfl
def zeroDisk : List Value := [.slice none 0 0, .slice none 0 0, .slice none 0 0, .int .i64 0, .bool false, .bool false, .int .i64 0, .slice none 0 0, .int .i64 0, .int .i64 0]
theorem disk_zero : (Try.prog.info? 63).map (·.zero) = some (some (.agg zeroDisk.toArray)) := by kernel_rfl
theorem cells_one {w : World} {L : DL} {s : DS} (h : DkAt w L s) : ∀ u ∈ s.cells L, u.oneCell' = true := by
  intro u hu
  simp only [DS.cells, List.mem_cons, List.not_mem_nil, or_false] at hu
  rcases hu with rfl | rfl | rfl | rfl | rfl | rfl | rfl | rfl | rfl | rfl
  · exact own_one h.hl
  · exact own_one h.hs
  · exact own_one h.hw
  all_goals rfl
set_option maxHeartbeats 4000000 in
theorem copy_ok (w : World) (L : DL) (s : DS) (h : DkAt w L s) (hwm : s.waits.length ≤ 1073741824) :
    Calls Try.prog 24 #[.pointer (some ⟨L.gd, 0, none⟩)] w fun e w' => ∃ L', e = .returned (.pointer (some ⟨L'.gd, 0, none⟩)) ∧ DkAt w' L' s ∧ (∀ b, L'.blocks b → w.heap.size ≤ b) ∧ L'.kA = L.kA ∧ Fr0 w w' := by
  obtain ⟨lA, lc, evl, hlc, hrl, _, hlN⟩ := ownN_form h.hl
  obtain ⟨sA, sc', evs, hsc, hrs, _, hsN⟩ := ownN_form h.hs
  obtain ⟨wA, wc, evw, hwc, hrw, _, hwN⟩ := ownN_form h.hw
  have hpos := h.wf.pos
  have hle := h.wf.le
  have hlN := hlN (by omega)
  have hsN := hsN (by omega)
  have hwN : wA = none → wc = 0 := by
    intro e
    have h2 := h.hw.2
    rw [evw, e] at h2
    rcases h2 with ⟨h2, _⟩ | ⟨g, cap, cur, h2, _⟩
    · injection h2
    · injection h2 with h2; cases h2
  refine sx_enter (vs := [_]) Try.func24 rfl Try.ntmps24 rfl ?_
  refine sx_seq ?_
  refine sx_region ?_
  refine sxl_y (wn_none rfl) rfl rfl (yp rfl) ?_
  refine sxl_nil ?_
  refine qx_seq ?_
  refine sx_seq ?_
  refine sx_seq ?_
  refine sx_region ?_
  refine sxl_y (wn_none rfl) rfl rfl (yp rfl) ?_
  refine sxl_y (wn_none rfl) rfl rfl (y_eqlNil rfl rfl rfl (pt rfl)) ?_
  refine sxl_nil ?_
  refine qx_seq ?_
  refine sx_false rfl ?_
  refine sx_skip ?_
  refine qx_seq ?_
  refine sx_seq ?_
  refine sx_region ?_
  refine sxl_y (wn_none rfl) rfl rfl (yp rfl) ?_
  refine sxl_y (wn_none rfl) rfl rfl (yp rfl) ?_
  refine sxl_y (wn_none rfl) rfl rfl (y_loadB rfl rfl h.hd Try.underlying63 rfl disk_size (Nat.le_refl _)) ?_
  refine sxl_does (some 3) (wn_none rfl) rfl rfl (fun ρ hρ => does_alloc 63 rfl _ zeroDisk disk_zero rfl) ?_
  rintro _ w1 ⟨gx, rfl, hx1, hx1', hbx, hf1⟩
  refine sxl_does none (wn_none rfl) rfl rfl (fun ρ hρ => does_store 63 (.tmp 3) (.tmp 8) rfl gx 0 63 zeroDisk (s.cells L) (hρ _ _ rfl) (hρ _ _ rfl) hbx disk_size (Nat.le_refl _) (cells_one h)) ?_
  rintro _ w2 ⟨rfl, hb2, hf2⟩
  have ep : put zeroDisk 0 (s.cells L) = s.cells L := put_all _ _ rfl
  rw [ep] at hb2
  have hgl := h.hd.lt
  have hf02 : Fr0 w w2 := hf1.step hf2 (fun b hb e => by omega)
  have h2 := h.fr0 hf02
  have c0 : Cell w2.heap L.gd 0 (.slice lA s.lasts.length lc) := h2.hd.c 0 (by rw [← evl]; rfl)
  have c1 : Cell w2.heap L.gd 1 (.slice sA s.lasts.length sc') := h2.hd.c 1 (by rw [← evs]; rfl)
  have c2 : Cell w2.heap L.gd 2 (.slice wA s.waits.length wc) := h2.hd.c 2 (by rw [← evw]; rfl)
  refine sxl_nil ?_
  refine qx_seq ?_
  refine sx_seq ?_
  refine sx_any 21 (fun w' => Cell w'.heap L.gd 0 (.slice lA s.lasts.length lc) ∧ Cell w'.heap L.gd 1 (.slice sA s.lasts.length sc') ∧ Cell w'.heap L.gd 2 (.slice wA s.waits.length wc)) hmix ?_
  have HS : Cell w2.drew.heap L.gd 0 (.slice lA s.lasts.length lc) ∧ Cell w2.drew.heap L.gd 1 (.slice sA s.lasts.length sc') ∧ Cell w2.drew.heap L.gd 2 (.slice wA s.waits.length wc) := ⟨c0, c1, c2⟩
  refine sxo_y 0 21 (by kernel_rfl) (fun c a t v w h => by cases t <;> exact h) (by kernel_rfl) rfl (by kernel_rfl) (by kernel_rfl) rfl (wn_none rfl) rfl rfl HS (fun w' hS' => yp rfl) ?_
  refine sxo_y 1 21 (by kernel_rfl) (fun c a t v w h => by cases t <;> exact h) (by kernel_rfl) rfl (by kernel_rfl) (by kernel_rfl) rfl (wn_none rfl) rfl rfl HS (fun w' hS' => yp rfl) ?_
  refine sxo_y 2 21 (by kernel_rfl) (fun c a t v w h => by cases t <;> exact h) (by kernel_rfl) rfl (by kernel_rfl) (by kernel_rfl) rfl (wn_none rfl) rfl rfl HS (fun w' hS' => yp rfl) ?_
  refine sxo_y 3 21 (by kernel_rfl) (fun c a t v w h => by cases t <;> exact h) (by kernel_rfl) rfl (by kernel_rfl) (by kernel_rfl) rfl (wn_none rfl) rfl rfl HS (fun w' hS' => y_load rfl rfl (sc rfl) (by obtain ⟨s1, s2, s3⟩ := hS'; assumption)) ?_
  refine sxo_y 5 21 (by kernel_rfl) (fun c a t v w h => by cases t <;> exact h) (by kernel_rfl) rfl (by kernel_rfl) (by kernel_rfl) rfl (wn_none rfl) rfl rfl HS (fun w' hS' => yp rfl) ?_
  refine sxo_y 6 21 (by kernel_rfl) (fun c a t v w h => by cases t <;> exact h) (by kernel_rfl) rfl (by kernel_rfl) (by kernel_rfl) rfl (wn_none rfl) rfl rfl HS (fun w' hS' => yp rfl) ?_
  refine sxo_y 7 21 (by kernel_rfl) (fun c a t v w h => by cases t <;> exact h) (by kernel_rfl) rfl (by kernel_rfl) (by kernel_rfl) rfl (wn_none rfl) rfl rfl HS (fun w' hS' => yp rfl) ?_
  refine sxo_y 8 21 (by kernel_rfl) (fun c a t v w h => by cases t <;> exact h) (by kernel_rfl) rfl (by kernel_rfl) (by kernel_rfl) rfl (wn_none rfl) rfl rfl HS (fun w' hS' => y_load rfl rfl (sc rfl) (by obtain ⟨s1, s2, s3⟩ := hS'; assumption)) ?_
  refine sxo_y 10 21 (by kernel_rfl) (fun c a t v w h => by cases t <;> exact h) (by kernel_rfl) rfl (by kernel_rfl) (by kernel_rfl) rfl (wn_none rfl) rfl rfl HS (fun w' hS' => yp rfl) ?_
  refine sxo_y 11 21 (by kernel_rfl) (fun c a t v w h => by cases t <;> exact h) (by kernel_rfl) rfl (by kernel_rfl) (by kernel_rfl) rfl (wn_none rfl) rfl rfl HS (fun w' hS' => yp rfl) ?_
  refine sxo_y 12 21 (by kernel_rfl) (fun c a t v w h => by cases t <;> exact h) (by kernel_rfl) rfl (by kernel_rfl) (by kernel_rfl) rfl (wn_none rfl) rfl rfl HS (fun w' hS' => yp rfl) ?_
  refine sxo_y 13 21 (by kernel_rfl) (fun c a t v w h => by cases t <;> exact h) (by kernel_rfl) rfl (by kernel_rfl) (by kernel_rfl) rfl (wn_none rfl) rfl rfl HS (fun w' hS' => y_load rfl rfl (sc rfl) (by obtain ⟨s1, s2, s3⟩ := hS'; assumption)) ?_
  refine sxo_call 4 (some 13) (by kernel_rfl) rfl (wn_none rfl) rfl rfl (yc_call rfl rfl Try.call29) (cloneSec lA s.lasts.length lc (flatB s.lasts) w2.drew (by omega) (hrl.fr0 hf02.drew) (flatB_one _) (fun e => absurd e hlN)) ?_
  rintro _ w3 ⟨v1, rfl, ho1, hf3⟩
  have hf3 := hf3.ofDrew
  have nn : ∀ b, ¬ Nowhere b := fun _ hh => hh
  refine ⟨_, rfl, fun _ => ⟨c0.fr hf3 (nn _), c1.fr hf3 (nn _), c2.fr hf3 (nn _)⟩, ?_⟩
  refine sxo_call 9 (some 18) (by kernel_rfl) rfl (wn_none rfl) rfl rfl (yc_call rfl rfl Try.call29) (cloneSec sA s.lasts.length sc' (flatB s.shows) w3 (by omega) (hrs.fr0 (hf02.then0 hf3)) (flatB_one _) (fun e => absurd e hsN)) ?_
  rintro _ w4 ⟨v2, rfl, ho2, hf4⟩
  have hf34 := hf3.then0 hf4
  refine ⟨_, rfl, fun _ => ⟨c0.fr hf34 (nn _), c1.fr hf34 (nn _), c2.fr hf34 (nn _)⟩, ?_⟩
  refine sxo_call 14 (some 23) (by kernel_rfl) rfl (wn_none rfl) rfl rfl (yc_call rfl rfl Try.call42) (cloneW wA s.waits.length wc (flatW s.waits) w4 hwm (hrw.fr0 (hf02.then0 hf34)) (flatW_one _) hwN) ?_
  rintro _ w5 ⟨v3, rfl, ho3, hf5⟩
  have hf35 := hf34.then0 hf5
  have HS : Cell w5.heap L.gd 0 (.slice lA s.lasts.length lc) ∧ Cell w5.heap L.gd 1 (.slice sA s.lasts.length sc') ∧ Cell w5.heap L.gd 2 (.slice wA s.waits.length wc) := ⟨c0.fr hf35 (nn _), c1.fr hf35 (nn _), c2.fr hf35 (nn _)⟩
  refine ⟨_, rfl, fun _ => HS, ?_⟩
  obtain ⟨g1, hg1, hg1', hg1''⟩ := own_block_ne ho1 hpos
  obtain ⟨g2, hg2, hg2', hg2''⟩ := own_block_ne ho2 hpos
  have hz3 := hf3.size
  have hz4 := hf4.size
  have hz5 := hf5.size
  have hz1 := hf1.size
  have hz2 := hf2.size
  have hg1' : w2.heap.size ≤ g1 := hg1'
  have hg2' : w3.heap.size ≤ g2 := hg2'
  have hx1 : w.heap.size ≤ gx := hx1
  have hne : L.gd ≠ gx := by omega
  have hb5 := hb2.fr hf35 (nn _)
  have hgx : gx < w2.heap.size := hb2.lt
  refine sxo_y 15 21 (by kernel_rfl) (fun c a t v w h => by cases t <;> exact h) (by kernel_rfl) rfl (by kernel_rfl) (by kernel_rfl) rfl (wn_none rfl) rfl rfl HS (fun w' hS' => yp rfl) ?_
  refine sxo_does 16 none (by kernel_rfl) rfl (wn_none rfl) rfl rfl (fun ρ hρ => does_store1 58 (.tmp 24) (.tmp 13) rfl gx 0 63 (s.cells L) v1 (hρ _ _ rfl) (hρ _ _ rfl) (own_cells ho1) hb5 (by kernel_rfl) (by simp [DS.cells]) (own_one ho1)) ?_
  rintro _ w6 ⟨rfl, hb6, hf6⟩
  have HS : Cell w6.heap L.gd 0 (.slice lA s.lasts.length lc) ∧ Cell w6.heap L.gd 1 (.slice sA s.lasts.length sc') ∧ Cell w6.heap L.gd 2 (.slice wA s.waits.length wc) := ⟨HS.1.fr hf6 hne, HS.2.1.fr hf6 hne, HS.2.2.fr hf6 hne⟩
  refine ⟨fun _ => HS, ?_⟩
  refine sxo_y 17 21 (by kernel_rfl) (fun c a t v w h => by cases t <;> exact h) (by kernel_rfl) rfl (by kernel_rfl) (by kernel_rfl) rfl (wn_none rfl) rfl rfl HS (fun w' hS' => yp rfl) ?_
  refine sxo_does 18 none (by kernel_rfl) rfl (wn_none rfl) rfl rfl (fun ρ hρ => does_store1 58 (.tmp 25) (.tmp 18) rfl gx 1 63 _ v2 (hρ _ _ rfl) (hρ _ _ rfl) (own_cells ho2) hb6 (by kernel_rfl) (by simp [DS.cells]) (own_one ho2)) ?_
  rintro _ w7 ⟨rfl, hb7, hf7⟩
  have HS : Cell w7.heap L.gd 0 (.slice lA s.lasts.length lc) ∧ Cell w7.heap L.gd 1 (.slice sA s.lasts.length sc') ∧ Cell w7.heap L.gd 2 (.slice wA s.waits.length wc) := ⟨HS.1.fr hf7 hne, HS.2.1.fr hf7 hne, HS.2.2.fr hf7 hne⟩
  refine ⟨fun _ => HS, ?_⟩
  refine sxo_y 19 21 (by kernel_rfl) (fun c a t v w h => by cases t <;> exact h) (by kernel_rfl) rfl (by kernel_rfl) (by kernel_rfl) rfl (wn_none rfl) rfl rfl HS (fun w' hS' => yp rfl) ?_
  refine sxo_does 20 none (by kernel_rfl) rfl (wn_none rfl) rfl rfl (fun ρ hρ => does_store1 59 (.tmp 26) (.tmp 23) rfl gx 2 63 _ v3 (hρ _ _ rfl) (hρ _ _ rfl) (own_cells ho3) hb7 (by kernel_rfl) (by simp [DS.cells]) (own_one ho3)) ?_
  rintro _ w8 ⟨rfl, hb8, hf8⟩
  have HS : Cell w8.heap L.gd 0 (.slice lA s.lasts.length lc) ∧ Cell w8.heap L.gd 1 (.slice sA s.lasts.length sc') ∧ Cell w8.heap L.gd 2 (.slice wA s.waits.length wc) := ⟨HS.1.fr hf8 hne, HS.2.1.fr hf8 hne, HS.2.2.fr hf8 hne⟩
  refine ⟨fun _ => HS, ?_⟩
  refine sxo_done (by kernel_rfl) ?_
  refine qx_seq ?_
  refine sx_seq ?_
  refine sx_region ?_
  refine sxl_y (wn_none rfl) rfl rfl (yp rfl) ?_
  refine sxl_nil ?_
  refine qx_seq ?_
  refine sx_ret ?_
  refine qx_ret1 rfl rfl ?_
  have hF : Fr (fun k => k = gx) w5 w8 := (hf6.trans hf7).trans hf8
  have hgo : ∀ k, w2.heap.size ≤ k → ¬ k = gx := fun k hk e => by omega
  have hg3 : ∀ k, v3.ownBlock = some k → w2.heap.size ≤ k := fun k hk => by have := (ho3.lt k hk).1; omega
  refine ⟨⟨gx, v1, v2, v3, L.kA, L.kc⟩, rfl, ⟨h.wf, hb8, ?_, ?_, ?_, ?_, ?_, ?_⟩, ?_, rfl, ?_⟩
  · refine ownN_base (ownN_fr (ownN_fr (ownN_fr ho1 hf4 (fun _ _ hh => hh)) hf5 (fun _ _ hh => hh)) hF ?_) (Nat.zero_le _)
    intro k hk; rw [hg1] at hk; injection hk with hk; omega
  · refine ownN_base (ownN_fr (ownN_fr ho2 hf5 (fun _ _ hh => hh)) hF ?_) (Nat.zero_le _)
    intro k hk; rw [hg2] at hk; injection hk with hk; omega
  · exact ownN_base (ownN_fr ho3 hF (fun k hk => hgo k (hg3 k hk))) (Nat.zero_le _)
  · exact (h.hk.fr0 (hf02.then0 hf35)).fr hF (fun hp b off e hh => by have := h.hk.lt hp b off e; omega)
  · show v1.ownBlock ≠ v2.ownBlock
    rw [hg1, hg2]; intro e; injection e with e; omega
  · intro hp b off e hb
    have hlt := h.hk.lt hp b off e
    rcases hb with hb | hb | hb | hb
    · have hb : b = gx := hb
      omega
    · have hb : v1.ownBlock = some b := hb
      rw [hg1] at hb; injection hb with hb; omega
    · have hb : v2.ownBlock = some b := hb
      rw [hg2] at hb; injection hb with hb; omega
    · have := hg3 b hb; omega
  · intro b hb
    rcases hb with hb | hb | hb | hb
    · have hb : b = gx := hb
      omega
    · have hb : v1.ownBlock = some b := hb
      rw [hg1] at hb; injection hb with hb; omega
    · have hb : v2.ownBlock = some b := hb
      rw [hg2] at hb; injection hb with hb; omega
    · have := hg3 b hb; omega
  · exact (hf02.then0 hf35).step hF (fun b hb e => by omega)
end Go.Proofs.Ytbfeailalhddgaa
