/- Contract of a disk's crash. -/
import Derived.Test.YtbfeailalhddgaaDisk6
import Derived.Test.YtbfeailalhddgaaTab
namespace Go.Proofs.Ytbfeailalhddgaa
open Go.RowKit

theorem flatW_length {l : List (Nat × List UInt8)} (h : ∀ x ∈ l, x.2.length = 128) : (flatW l).length = l.length * 129 := by
  unfold flatW
  rw [flat_length (m := 129) (l := l.map wcells) (fun y hy => by obtain ⟨x, hx, rfl⟩ := List.mem_map.1 hy; simp [wcells, bvs_length, h x hx]), List.length_map]
theorem flatW_at {l : List (Nat × List UInt8)} (h : ∀ x ∈ l, x.2.length = 128) {k : Nat} {x : Nat × List UInt8} (hx : l[k]? = some x) : ((flatW l).drop (k * 129)).take 129 = wcells x := by
  unfold flatW
  exact flat_at (m := 129) (l := l.map wcells) (fun y hy => by obtain ⟨x, hx, rfl⟩ := List.mem_map.1 hy; simp [wcells, bvs_length, h x hx]) (by rw [List.getElem?_map, hx]; rfl)
theorem size_write : (Try.prog.info? 67).map (·.size) = some 129 := by kernel_rfl
theorem zero_write : (Try.prog.info? 67).map (·.zero) = some (some (.agg (wcells (0, zsec)).toArray)) := by kernel_rfl
theorem wcells_one (x : Nat × List UInt8) : ∀ u ∈ wcells x, u.oneCell' = true := by
  intro u hu
  rcases List.mem_cons.1 hu with rfl | h
  · rfl
  · exact bvs_one _ u h
theorem plan_size : (Try.prog.info? 25).map (·.size) = some 3 := by kernel_rfl

theorem put_front (a r xs : List Value) (off : Nat) (h : off + xs.length ≤ a.length) : put (a ++ r) off xs = put a off xs ++ r := by
  unfold put
  rw [List.take_append_of_le_length (by omega), List.drop_append_of_le_length h, List.append_assoc, List.append_assoc]
theorem put_more (cs xs ys : List Value) (off : Nat) (h : (cs.drop (off + xs.length)).take ys.length = ys) : put cs off (xs ++ ys) = put cs off xs := by
  have e : ys ++ cs.drop (off + xs.length + ys.length) = cs.drop (off + xs.length) := by
    rw [← List.drop_drop]
    conv => lhs; lhs; rw [← h]
    exact List.take_append_drop _ _
  unfold put
  rw [List.append_assoc, List.length_append, ← Nat.add_assoc, e]
theorem flatB_part {l : List (List UInt8)} (h : All 128 l) {i : Nat} {old t : List UInt8} (hi : l[i]? = some old) (ht : t.length ≤ 128) :
    put (flatB l) (i * 128) (bvs t) = flatB (l.set i (t ++ old.drop t.length)) := by
  have ho := h.at hi
  rw [← flatB_put h (List.getElem?_eq_some_iff.1 hi).1 _ (by simp; omega), bvs_append]
  refine (put_more _ _ _ _ ?_).symm
  have := flatB_at h hi
  rw [← List.drop_drop, bvs_length, bvs_length, List.length_drop, ho]
  have e : bvs (old.drop t.length) = (bvs old).drop t.length := by simp [bvs]
  rw [e, ← this, List.drop_take]

set_option maxHeartbeats 4000000 in
theorem crash_any (w : World) (L : DL) (s : DS) (h : DkAt w L s) (A : Option Addr) (c : Nat) (keep : List Bool) (torn : Int) (cut : Nat) (hk : Rd w A keep.length (boolsV keep)) (hkn : 0 < keep.length → ∀ b off, A = some ⟨b, off, none⟩ → ¬ L.blocks b) (hcut : cut ≤ 128) :
    Calls Try.prog 27 #[.pointer (some ⟨L.gd, 0, none⟩), .agg #[.slice A keep.length c, .int .i64 torn, .int .i64 (cut : Int)]] w fun e w' =>
      e = .returned (.tuple #[]) ∧ DkAt w' { L with vw := .slice none 0 0 } (s.crash keep torn cut) ∧ Fr L.blocks w w' := by
  obtain ⟨gl, cl, rl, evl, _, hcl, hcm, hbl, hll⟩ := ownN_blk h.hl h.wf.pos
  obtain ⟨wA, wc, evw, hwc, hwr, _, _⟩ := ownN_form h.hw
  have hgl : L.vl.ownBlock = some gl := by rw [evl]; rfl
  have hgl1 := h.l_gd hgl
  have hgl2 := h.hd.lt
  have hgl3 := (h.hl.lt gl hgl).2
  have hpos := h.wf.pos
  have hle := h.wf.le
  have hwlen := flatW_length (fun y hy => (h.wf.aw y hy).2)
  refine sx_enter (vs := [_, _]) Try.func27 rfl Try.ntmps27 rfl ?_
  refine sx_seq ?_
  refine sx_region ?_
  refine sxl_does (some 3) (wn_none rfl) rfl rfl (fun ρ hρ => does_box 25 (.tmp 1) rfl [.slice A keep.length c, .int .i64 torn, .int .i64 (cut : Int)] (by rw [hρ _ _ rfl]; rfl)) ?_
  rintro _ w1 ⟨g3, rfl, h3, h3', hb1, hf1⟩
  have hz1 := hf1.size
  have q2 : Cell w1.heap L.gd 2 (.slice wA s.waits.length wc) := by
    have := h.hd.fr0 hf1
    exact this.c 2 (by rw [← evw]; rfl)
  refine sxl_nil ?_
  refine qx_seq ?_
  refine sx_seq ?_
  refine sx_region ?_
  refine sxl_y (wn_none rfl) rfl rfl (y_func rfl rfl rfl) ?_
  refine sxl_y (wn_none rfl) rfl rfl (yp rfl) ?_
  refine sxl_nil ?_
  refine qx_seq ?_
  refine sx_seq ?_
  refine sx_seq ?_
  refine sx_region ?_
  refine sxl_y (wn_none rfl) rfl rfl (yp rfl) ?_
  refine sxl_y (wn_none rfl) rfl rfl (yp rfl) ?_
  refine sxl_y (wn_none rfl) rfl rfl (yp rfl) ?_
  refine sxl_y (wn_none rfl) rfl rfl (y_load rfl rfl (sc rfl) (by assumption)) ?_
  refine sxl_y (wn_none rfl) rfl rfl (y_len rfl rfl (sl rfl)) ?_
  refine sxl_y (wn_none rfl) rfl rfl (yp rfl) ?_
  refine sxl_nil ?_
  refine qx_seq ?_
  refine sx_block ?_
  refine sx_loop (fun e wr m => ∃ (k : Nat) (l : List (List UInt8)), e = [(13, .int .i64 (k : Int)), (0, .pointer (some ⟨L.gd, 0, none⟩)), (3, .pointer (some ⟨g3, 0, none⟩)), (4, .func (.func 43) #[] #[.pointer (some ⟨g3, 0, none⟩)]), (11, .slice wA s.waits.length wc), (12, .int .i64 (s.waits.length : Int))]
      ∧ k ≤ s.waits.length ∧ Blk wr gl 65 (flatB l ++ rl) ∧ All 128 l ∧ l.length = s.lasts.length ∧ crashFrom keep torn cut k (s.waits.drop k) l = crashFrom keep torn cut 0 s.waits s.lasts ∧ Fr (fun b => b = gl) w1 wr ∧ m = s.waits.length - k)
    ⟨0, s.lasts, rfl, Nat.zero_le _, hbl.fr0 hf1, h.wf.al, rfl, rfl, Fr.refl, rfl⟩ ⟨rfl, rfl, rfl, rfl, rfl, rfl, trivial⟩ ?_
  rintro _ wr _ ⟨k, l, rfl, hkw, hb, hal, hln, hcr, hfr, rfl⟩
  have hzr := hfr.size
  by_cases hlt : k < s.waits.length
  · obtain ⟨x, hx⟩ : ∃ x, s.waits[k]? = some x := ⟨_, List.getElem?_eq_getElem hlt⟩
    obtain ⟨hx1, hx2⟩ := h.wf.aw x (List.mem_of_getElem? hx)
    obtain ⟨gw, cw, rw', evw', _, hwc1, hwc2, hbw, _⟩ := ownN_blk h.hw (by omega)
    unfold maxLen at hwc2
    have hgwl := h.w_l (b := gw) (by rw [evw']; rfl) hgl
    have hgw := hbw.lt
    rw [evw'] at evw
    injection evw with e1 _ e2
    subst e1 e2
    have hwx : (wcells x).length = 129 := by simp [wcells, bvs_length, hx2]
    have hk1 : (k + 1) * 129 ≤ s.waits.length * 129 := Nat.mul_le_mul_right _ hlt
    have hld : ((flatW s.waits ++ rw').drop (k * 129)).take 129 = wcells x := by
      rw [List.drop_append_of_le_length (by rw [hwlen]; omega), List.take_append_of_le_length (by rw [List.length_drop, hwlen]; omega)]
      exact flatW_at (fun y hy => (h.wf.aw y hy).2) hx
    have hbw2 := (hbw.fr0 hf1).fr hfr hgwl
    refine sx_seq ?_
    refine sx_region ?_
    refine sxl_y (wn_none rfl) rfl rfl (y_lss_t rfl rfl rfl (by omega)) ?_
    refine sxl_nil ?_
    refine qx_seq ?_
    refine sx_seq ?_
    refine sx_true rfl ?_
    refine sx_skip ?_
    refine qx_seq ?_
    refine sx_seq ?_
    refine sx_block ?_
    refine sx_seq ?_
    refine sx_region ?_
    refine sxl_y (wn_none rfl) rfl rfl (yp rfl) ?_
    refine sxl_y (wn_none rfl) rfl rfl (y_indexN rfl rfl rfl (sl rfl) (by omega)) ?_
    refine sxl_does (some 17) (wn_none rfl) rfl rfl (fun ρ hρ => does_load 67 (.tmp 16) rfl gw (k * 129) 129 67 (flatW s.waits ++ rw') _ (by rw [hρ _ _ rfl, Nat.zero_add]) hbw2 Try.underlying67 rfl size_write (by rw [List.length_append, hwlen]; omega)) ?_
    rintro _ _ ⟨rfl, rfl⟩
    rw [hld]
    refine sxl_does (some 6) (wn_none rfl) rfl rfl (fun ρ hρ => does_alloc 67 rfl _ (wcells (0, zsec)) (zero_write) rfl) ?_
    rintro _ w5 ⟨g6, rfl, h6, h6', hb6, hf6⟩
    refine sxl_y (wn_none rfl) rfl rfl (yp rfl) ?_
    refine sxl_does none (wn_none rfl) rfl rfl (fun ρ hρ => does_store 67 (.tmp 6) (.tmp 17) rfl g6 0 67 (wcells (0, zsec)) (wcells x) (hρ _ _ rfl) (hρ _ _ rfl) hb6 (by rw [hwx]; exact size_write) (by rw [hwx]; exact Nat.le_refl _) (wcells_one x)) ?_
    rintro _ w6 ⟨rfl, hb6', hf6'⟩
    rw [put_all _ _ (by rw [hwx]; rfl)] at hb6'
    have hf : Fr (fun b => b = g6) wr w6 := (Fr.of0 hf6 : Fr (fun b => b = g6) wr w5).trans hf6'
    have hp6 := ((hb1.fr hfr (by omega)).fr hf (by omega))
    have c31 : Cell w6.heap g3 1 (.int .i64 torn) := hp6.c 1 rfl
    have c32 : Cell w6.heap g3 2 (.int .i64 (cut : Int)) := hp6.c 2 rfl
    have hd6 := ((h.hd.fr0 hf1).fr hfr (by omega)).fr hf (by have := h.hd.lt; omega)
    have c00 : Cell w6.heap L.gd 0 (.slice (some ⟨gl, 0, none⟩) s.lasts.length cl) := hd6.c 0 (by rw [← evl]; rfl)
    have c60 : Cell w6.heap g6 0 (.int .i64 (x.1 : Int)) := hb6'.c 0 rfl
    have hb6l := hb.fr hf (by omega)
    obtain ⟨old, hold⟩ : ∃ old, l[x.1]? = some old := ⟨_, List.getElem?_eq_getElem (by omega)⟩
    have hlold : l.getD x.1 [] = old := by rw [List.getD_eq_getElem?_getD, hold]; rfl
    have hfl := flatB_length hal
    have hx1' : (x.1 + 1) * 128 ≤ l.length * 128 := Nat.mul_le_mul_right _ (by omega)
    have hdrop : s.waits.drop k = x :: s.waits.drop (k + 1) := by
      rw [List.drop_eq_getElem_cons hlt]; congr 1; exact (List.getElem?_eq_some_iff.1 hx).2
    rw [hdrop, crashFrom] at hcr
    have hl' := crashOne_length keep torn cut k x l
    have hal' : All 128 (crashOne keep torn cut k x l) := crashOne_all hal (by omega) hcut
    have fin : ∀ w7, Blk w7 gl 65 (flatB (crashOne keep torn cut k x l) ++ rl) → Fr (fun b => b = gl) w6 w7 → Fr (fun b => b = gl) w1 w7 := fun w7 _ hf7 =>
      ((hfr.then0 hf6).step hf6' (fun b hb e => by omega)).step hf7 (fun _ _ hh => hh)
    by_cases ht : (k : Int) = torn
    · refine sxl_nil ?_
      refine qx_seq ?_
      refine sx_block ?_
      refine sx_seq ?_
      refine sx_region ?_
      refine sxl_y (wn_none rfl) rfl rfl (yp rfl) ?_
      refine sxl_y (wn_none rfl) rfl rfl (yp rfl) ?_
      refine sxl_y (wn_none rfl) rfl rfl (y_load rfl rfl (sc rfl) (by assumption)) ?_
      refine sxl_y (wn_none rfl) rfl rfl (y_eql_t rfl rfl rfl (by omega)) ?_
      refine sxl_y (wn_none rfl) rfl rfl (yp rfl) ?_
      refine sxl_nil ?_
      refine qx_seq ?_
      refine sx_true rfl ?_
      refine sx_tail 14 hmix (by kernel_rfl) ?_
      refine sxs_y (wn_none rfl) rfl rfl (yp rfl) ?_
      refine sxs_y (wn_none rfl) rfl rfl (yp rfl) ?_
      refine sxs_y (wn_none rfl) rfl rfl (yp rfl) ?_
      refine sxs_y (wn_none rfl) rfl rfl (y_load rfl rfl (sc rfl) (by assumption)) ?_
      refine sxs_y (wn_none rfl) rfl rfl (yp rfl) ?_
      refine sxs_y (wn_none rfl) rfl rfl (y_load rfl rfl (sc rfl) (by assumption)) ?_
      refine sxs_y (wn_none rfl) rfl rfl (y_indexN rfl rfl rfl (sl rfl) (by omega)) ?_
      refine sxs_y (wn_none rfl) rfl rfl (yp rfl) ?_
      refine sxs_y (wn_none rfl) rfl rfl (y_load rfl rfl (sc rfl) (by assumption)) ?_
      refine sxs_y (wn_none rfl) rfl rfl (y_sliceArr rfl rfl rfl (ar rfl) (by omega)) ?_
      refine sxs_y (wn_none rfl) rfl rfl (yp rfl) ?_
      refine sxs_y (wn_none rfl) rfl rfl (yp rfl) ?_
      refine sxs_y (wn_none rfl) rfl rfl (y_load rfl rfl (sc rfl) (by assumption)) ?_
      refine sxs_y (wn_none rfl) rfl rfl (y_sliceArr rfl rfl rfl (ar rfl) (by omega)) ?_
      refine sxs_tail ?_
      refine sxl_does (some 37) (wn_none rfl) rfl rfl (fun ρ hρ => does_copy (.tmp 32) (.tmp 36) 32 32 rfl 5 Try.underlying32 size_byte gl (x.1 * 128) cut 128 (some ⟨g6, 1, none⟩) cut 128 (by rw [hρ _ _ rfl, Nat.zero_add]; rfl) (by rw [hρ _ _ rfl]; rfl) 65 (flatB l ++ rl) (bvs (x.2.take cut)) hb6l.drew
        (by have := Rd.of_blk hb6' 1 (n := cut) (by rw [hwx]; omega)
            have e : ((wcells x).drop 1).take cut = bvs (x.2.take cut) := by simp [wcells, bvs]
            rw [e] at this; exact this) (Nat.le_refl _) (by rw [List.length_append, hfl]; omega) (bvs_one _)) ?_
      rintro _ w7 ⟨rfl, hb7, hf7⟩
      have htl : (x.2.take cut).length = cut := by simp [hx2]; omega
      rw [put_front _ _ _ _ (by rw [bvs_length, htl, hfl]; omega), flatB_part hal hold (by omega), htl] at hb7
      have he : l.set x.1 (x.2.take cut ++ old.drop cut) = crashOne keep torn cut k x l := by unfold crashOne; rw [if_pos ht, hlold]
      rw [he] at hb7
      refine sxl_nil ?_
      refine qx_block_normal ?_
      refine qx_block_normal ?_
      refine qx_seq ?_
      refine sx_region ?_
      refine sxl_y (wn_none rfl) rfl rfl (y_add rfl rfl rfl (by omega)) ?_
      refine sxl_y (wn_none rfl) rfl rfl (yp rfl) ?_
      refine sxl_nil ?_
      refine qx_again [(13, .int .i64 ((k + 1 : Nat) : Int)), (0, .pointer (some ⟨L.gd, 0, none⟩)), (3, .pointer (some ⟨g3, 0, none⟩)), (4, .func (.func 43) #[] #[.pointer (some ⟨g3, 0, none⟩)]), (11, .slice (some ⟨gw, 0, none⟩) s.waits.length cw), (12, .int .i64 (s.waits.length : Int))] (s.waits.length - (k + 1)) ?_ ?_ ?_
      · exact ⟨k + 1, _, rfl, by omega, hb7, hal', by omega, hcr, fin w7 hb7 hf7.ofDrew, rfl⟩
      · omega
      · exact ⟨rfl, rfl, rfl, rfl, rfl, rfl, trivial⟩
    · refine sxl_nil ?_
      refine qx_seq ?_
      refine sx_block ?_
      refine sx_seq ?_
      refine sx_region ?_
      refine sxl_y (wn_none rfl) rfl rfl (yp rfl) ?_
      refine sxl_y (wn_none rfl) rfl rfl (yp rfl) ?_
      refine sxl_y (wn_none rfl) rfl rfl (y_load rfl rfl (sc rfl) (by assumption)) ?_
      refine sxl_y (wn_none rfl) rfl rfl (y_eql_f rfl rfl rfl (by omega)) ?_
      refine sxl_y (wn_none rfl) rfl rfl (yp rfl) ?_
      refine sxl_nil ?_
      refine qx_seq ?_
      refine sx_false rfl ?_
      refine sx_seq ?_
      refine sx_region ?_
      refine sxl_y (wn_none rfl) rfl rfl (yp rfl) ?_
      refine sxl_y (wn_none rfl) rfl rfl (yp rfl) ?_
      refine sxl_call (some 41) (wn_none rfl) rfl rfl (yc_value rfl rfl rfl Try.call43) (kept_any k g3 A c keep _ _ w6 hp6 (((hk.fr0 hf1).fr hfr (fun hp b off e e' => hkn hp b off e (by subst e'; exact .inr (.inl hgl)))).fr hf (fun hp b off e e' => by have := hk.lt hp b off e; omega))) ?_
      rintro _ _ ⟨rfl, rfl⟩
      refine ⟨_, rfl, ?_⟩
      by_cases hkk : keep.getD k false = true
      · rw [hkk]
        have he : l.set x.1 x.2 = crashOne keep torn cut k x l := by unfold crashOne; rw [if_neg ht, if_pos hkk]
        refine sxl_y (wn_none rfl) rfl rfl (yp rfl) ?_
        refine sxl_nil ?_
        refine qx_seq ?_
        refine sx_true rfl ?_
        have hl65 : (((wcells x).drop 1).take 128) = bvs x.2 := by
          have : (bvs x.2).length ≤ 128 := by rw [bvs_length, hx2]; exact Nat.le_refl _
          simpa [wcells] using List.take_of_length_le this
        refine sx_tail 9 hmix (by kernel_rfl) ?_
        refine sxs_y (wn_none rfl) rfl rfl (yp rfl) ?_
        refine sxs_y (wn_none rfl) rfl rfl (yp rfl) ?_
        refine sxs_y (wn_none rfl) rfl rfl (yp rfl) ?_
        refine sxs_y (wn_none rfl) rfl rfl (y_load rfl rfl (sc rfl) (by assumption)) ?_
        refine sxs_y (wn_none rfl) rfl rfl (yp rfl) ?_
        refine sxs_y (wn_none rfl) rfl rfl (y_load rfl rfl (sc rfl) (by assumption)) ?_
        refine sxs_y (wn_none rfl) rfl rfl (yp rfl) ?_
        refine sxs_y (wn_none rfl) rfl rfl (y_loadB rfl rfl hb6'.drew Try.underlying65 rfl size_sec (by rw [hwx]; exact Nat.le_refl _)) ?_
        refine sxs_y (wn_none rfl) rfl rfl (y_indexN rfl rfl rfl (sl rfl) (by omega)) ?_
        refine sxs_tail ?_
        refine sxl_does none (wn_none rfl) rfl rfl (fun ρ hρ => does_store 65 (.tmp 50) (.tmp 49) rfl gl (x.1 * 128) 65 (flatB l ++ rl) (bvs x.2) (by rw [hρ _ _ rfl, Nat.zero_add]) (by rw [hρ _ _ rfl]; exact congrArg (fun z : List Value => Value.agg z.toArray) hl65) hb6l.drew (by rw [bvs_length, hx2]; exact size_sec) (by rw [List.length_append, hfl, bvs_length, hx2]; omega) (bvs_one _)) ?_
        rintro _ w7 ⟨rfl, hb7, hf7⟩
        rw [put_front _ _ _ _ (by rw [bvs_length, hx2, hfl]; omega), flatB_put hal (by omega) _ hx2, he] at hb7
        refine sxl_nil ?_
        refine qx_block_normal ?_
        refine qx_block_normal ?_
        refine qx_seq ?_
        refine sx_region ?_
        refine sxl_y (wn_none rfl) rfl rfl (y_add rfl rfl rfl (by omega)) ?_
        refine sxl_y (wn_none rfl) rfl rfl (yp rfl) ?_
        refine sxl_nil ?_
        refine qx_again [(13, .int .i64 ((k + 1 : Nat) : Int)), (0, .pointer (some ⟨L.gd, 0, none⟩)), (3, .pointer (some ⟨g3, 0, none⟩)), (4, .func (.func 43) #[] #[.pointer (some ⟨g3, 0, none⟩)]), (11, .slice (some ⟨gw, 0, none⟩) s.waits.length cw), (12, .int .i64 (s.waits.length : Int))] (s.waits.length - (k + 1)) ?_ ?_ ?_
        · exact ⟨k + 1, _, rfl, by omega, hb7, hal', by omega, hcr, fin w7 hb7 hf7.ofDrew, rfl⟩
        · omega
        · exact ⟨rfl, rfl, rfl, rfl, rfl, rfl, trivial⟩
      · have hkf : keep.getD k false = false := by simpa using hkk
        rw [hkf]
        have he : l = crashOne keep torn cut k x l := by unfold crashOne; rw [if_neg ht, if_neg hkk]
        refine sxl_y (wn_none rfl) rfl rfl (yp rfl) ?_
        refine sxl_nil ?_
        refine qx_seq ?_
        refine sx_false rfl ?_
        refine sx_skip ?_
        refine qx_block_normal ?_
        refine qx_block_normal ?_
        refine qx_seq ?_
        refine sx_region ?_
        refine sxl_y (wn_none rfl) rfl rfl (y_add rfl rfl rfl (by omega)) ?_
        refine sxl_y (wn_none rfl) rfl rfl (yp rfl) ?_
        refine sxl_nil ?_
        refine qx_again [(13, .int .i64 ((k + 1 : Nat) : Int)), (0, .pointer (some ⟨L.gd, 0, none⟩)), (3, .pointer (some ⟨g3, 0, none⟩)), (4, .func (.func 43) #[] #[.pointer (some ⟨g3, 0, none⟩)]), (11, .slice (some ⟨gw, 0, none⟩) s.waits.length cw), (12, .int .i64 (s.waits.length : Int))] (s.waits.length - (k + 1)) ?_ ?_ ?_
        · exact ⟨k + 1, _, rfl, by omega, by rw [← he]; exact hb6l, hal', by omega, hcr, fin w6 (by rw [← he]; exact hb6l) Fr.refl, rfl⟩
        · omega
        · exact ⟨rfl, rfl, rfl, rfl, rfl, rfl, trivial⟩
  · obtain rfl : k = s.waits.length := by omega
    have hdr := (h.hd.fr0 hf1).fr hfr (by omega)
    refine sx_seq ?_
    refine sx_region ?_
    refine sxl_y (wn_none rfl) rfl rfl (y_lss_f rfl rfl rfl (by omega)) ?_
    refine sxl_nil ?_
    refine qx_seq ?_
    refine sx_seq ?_
    refine sx_false rfl ?_
    refine sx_exit ?_
    refine qx_then_exit ?_
    refine qx_then_exit ?_
    refine qx_block_hit ?_
    refine qx_seq ?_
    refine sx_region ?_
    refine sxl_y (wn_none rfl) rfl rfl (yp rfl) ?_
    refine sxl_y (wn_none rfl) rfl rfl (yp rfl) ?_
    refine sxl_y (wn_none rfl) rfl rfl (yp rfl) ?_
    refine sxl_y (wn_none rfl) rfl rfl (yp rfl) ?_
    refine sxl_does none (wn_none rfl) rfl rfl (fun ρ hρ => does_store1 59 (.tmp 55) _ rfl L.gd 2 63 _ _ (hρ _ _ rfl) (hρ _ _ rfl) rfl hdr (by kernel_rfl) (by simp [DS.cells]) rfl) ?_
    rintro _ w8 ⟨rfl, hb8, hf8⟩
    refine sxl_y (wn_none rfl) rfl rfl (yp rfl) ?_
    refine sxl_y (wn_none rfl) rfl rfl (yp rfl) ?_
    refine sxl_does none (wn_none rfl) rfl rfl (fun ρ hρ => does_store1 4 (.tmp 57) _ rfl L.gd 4 63 _ _ (hρ _ _ rfl) (hρ _ _ rfl) rfl hb8 (by kernel_rfl) (by simp [DS.cells]) rfl) ?_
    rintro _ w9 ⟨rfl, hb9, hf9⟩
    refine sxl_nil ?_
    refine qx_ret0 (Or.inr rfl) rfl ?_
    rw [List.drop_length, crashFrom] at hcr
    have hcl' : (s.crash keep torn cut).lasts.length = s.lasts.length := crashFrom_length ..
    have hcl2 : (s.crash keep torn cut).lasts = l := hcr.symm
    have hf19 : Fr (fun b => b = gl ∨ b = L.gd) w w9 := ((((Fr.of0 hf1).step hfr (fun _ _ e => .inl e)).step hf8 (fun _ _ e => .inr e)).step hf9 (fun _ _ e => .inr e))
    have hbl9 := (hb.fr hf8 (by omega)).fr hf9 (by omega)
    refine ⟨rfl, ⟨DS.crash_wf h.wf hcut, hb9, ?_, ?_, World.ownsRow_nil _ _ _ _, ?_, h.ne, ?_⟩, hf19.mono ?_⟩
    · show w9.ownsRow 0 65 128 L.vl (s.crash keep torn cut).lasts.length (flatB (s.crash keep torn cut).lasts)
      rw [hcl', hcl2, evl]
      exact ownN_of_blk hbl9 (Nat.zero_le _) hcl hcm (by rw [← hll, List.length_append, List.length_append, flatB_length hal, flatB_length h.wf.al, hln]) (by rw [flatB_length hal, hln])
    · show w9.ownsRow 0 65 128 L.vs (s.crash keep torn cut).lasts.length (flatB s.shows)
      rw [hcl']
      exact ownN_fr h.hs hf19 (fun b hb' e => by
        rcases e with e | e
        · exact h.l_s hgl hb' e.symm
        · exact h.s_gd hb' e)
    · exact h.hk.fr hf19 (fun hp b off e e' => h.kn hp b off e (by
        rcases e' with rfl | rfl
        · exact .inr (.inl hgl)
        · exact .inl rfl))
    · intro hp b off e hb
      refine h.kn hp b off e ?_
      rcases hb with hb | hb | hb | hb
      · exact .inl hb
      · exact .inr (.inl hb)
      · exact .inr (.inr (.inl hb))
      · cases hb
    · rintro b _ (rfl | rfl)
      · exact .inr (.inl hgl)
      · exact .inl rfl
end Go.Proofs.Ytbfeailalhddgaa
