/- A disk's pages are found. No condition. -/
import Derived.Test.YthdlljlcffokbaaDoorZPgr12
namespace Go.Proofs.YthdlljlcffokbaaDoor
open Go.RowKit

def nxtM (c m : Int × Int) : Int × Int := if c.1 < m.1 then m else c
noncomputable def DS.metaA (s : DS) (k : Nat) : Int × Int := metaOf (s.lasts.length / 4) (decA k (s.page k))
/-- The newest of the first j metas. -/
noncomputable def DS.best (s : DS) : Nat → Int × Int
  | 0 => (-1, 0)
  | j + 1 => nxtM (s.best j) (s.metaA j)
def usedAll (n : Nat) : Int → Int := fun k => if 2 ≤ k ∧ k < (n : Int) then 1 else 0
section
variable {w : World} {Q : PL} {p : PS} {s : DS}
theorem open_small (L : DL) (h : DkAt w L s) (hd : s.dead = false) (hn : s.lasts.length < 12) : Calls Tryd.prog 19 #[.pointer (some ⟨L.gd, 0, none⟩)] w fun e w' => e = .returned (.tuple #[.pointer none, .int .i64 0, .int .i64 1]) ∧ w = w' := by
  refine sx_enter (vs := [_]) Tryd.func19 rfl Tryd.ntmps19 rfl ?_
  refine sx_seq ?_
  refine sx_region ?_
  iterate 3 refine sxl_y (wn_none rfl) rfl rfl (yp rfl) ?_
  refine sxl_nil ?_
  refine qx_seq ?_
  refine sx_seq ?_
  refine sx_region ?_
  refine sxl_y (wn_none rfl) rfl rfl (yp rfl) ?_
  refine sxl_pure (wn_none rfl) rfl rfl (yc_call rfl rfl Tryd.call31) (pagesOf_small L h hd hn) ?_
  iterate 5 refine sxl_y (wn_none rfl) rfl rfl (yp rfl) ?_
  refine sxl_nil ?_
  refine qx_seq ?_
  refine sx_seq ?_
  refine sx_seq ?_
  refine sx_region ?_
  refine sxl_y (wn_none rfl) rfl rfl (yp rfl) ?_
  refine sxl_y (wn_none rfl) rfl rfl (y_neq_t rfl rfl rfl (by omega)) ?_
  refine sxl_nil ?_
  refine qx_seq ?_
  refine sx_true rfl ?_
  refine sx_seq ?_
  refine sx_region ?_
  iterate 4 refine sxl_y (wn_none rfl) rfl rfl (yp rfl) ?_
  refine sxl_nil ?_
  refine qx_seq ?_
  refine sx_ret ?_
  refine qx_then_ret ?_
  refine qx_ret3 rfl rfl rfl rfl ?_
  exact ⟨rfl, rfl⟩
theorem format_small (L : DL) (h : DkAt w L s) (hd : s.dead = false) (hn : s.lasts.length < 12) : Calls Tryd.prog 8 #[.pointer (some ⟨L.gd, 0, none⟩)] w fun e w' => e = .returned (.tuple #[.pointer none, .int .i64 1]) ∧ w = w' := by
  refine sx_enter (vs := [_]) Tryd.func8 rfl Tryd.ntmps8 rfl ?_
  refine sx_seq ?_
  refine sx_region ?_
  iterate 2 refine sxl_y (wn_none rfl) rfl rfl (yp rfl) ?_
  refine sxl_nil ?_
  refine qx_seq ?_
  refine sx_seq ?_
  refine sx_region ?_
  refine sxl_y (wn_none rfl) rfl rfl (yp rfl) ?_
  refine sxl_pure (wn_none rfl) rfl rfl (yc_call rfl rfl Tryd.call31) (pagesOf_small L h hd hn) ?_
  iterate 5 refine sxl_y (wn_none rfl) rfl rfl (yp rfl) ?_
  refine sxl_nil ?_
  refine qx_seq ?_
  refine sx_seq ?_
  refine sx_seq ?_
  refine sx_region ?_
  refine sxl_y (wn_none rfl) rfl rfl (yp rfl) ?_
  refine sxl_y (wn_none rfl) rfl rfl (y_neq_t rfl rfl rfl (by omega)) ?_
  refine sxl_nil ?_
  refine qx_seq ?_
  refine sx_true rfl ?_
  refine sx_seq ?_
  refine sx_region ?_
  iterate 3 refine sxl_y (wn_none rfl) rfl rfl (yp rfl) ?_
  refine sxl_nil ?_
  refine qx_seq ?_
  refine sx_ret ?_
  refine qx_then_ret ?_
  refine qx_ret2 rfl rfl rfl ?_
  exact ⟨rfl, rfl⟩
set_option maxHeartbeats 16000000 in
theorem open_any (L : DL) (h : DkAt w L s) (hd : s.dead = false) (hn : 12 ≤ s.lasts.length) :
    Calls Tryd.prog 19 #[.pointer (some ⟨L.gd, 0, none⟩)] w fun e w' => Fr0 w w' ∧ (((s.best 2).1 < 0 ∧ e = .returned (.tuple #[.pointer none, .int .i64 0, .int .i64 40])) ∨
      (0 ≤ (s.best 2).1 ∧ ∃ Q, e = .returned (.tuple #[.pointer (some ⟨Q.gp, 0, none⟩), .int .i64 (s.best 2).2, .int .i64 0]) ∧ PgNew w w' L Q ⟨s.lasts.length / 4, (s.best 2).1, (s.best 2).2, usedAll (s.lasts.length / 4), false⟩ s)) := by
  have hle := h.wf.le
  refine sx_enter (vs := [_]) Tryd.func19 rfl Tryd.ntmps19 rfl ?_
  refine sx_seq ?_
  refine sx_region ?_
  iterate 3 refine sxl_y (wn_none rfl) rfl rfl (yp rfl) ?_
  refine sxl_nil ?_
  refine qx_seq ?_
  refine sx_seq ?_
  refine sx_region ?_
  refine sxl_y (wn_none rfl) rfl rfl (yp rfl) ?_
  refine sxl_pure (wn_none rfl) rfl rfl (yc_call rfl rfl Tryd.call31) (pagesOf_ok L h hd hn) ?_
  iterate 5 refine sxl_y (wn_none rfl) rfl rfl (yp rfl) ?_
  refine sxl_nil ?_
  refine qx_seq ?_
  refine sx_seq ?_
  refine sx_seq ?_
  refine sx_region ?_
  refine sxl_y (wn_none rfl) rfl rfl (yp rfl) ?_
  refine sxl_y (wn_none rfl) rfl rfl (y_neq_f rfl rfl rfl (by omega)) ?_
  refine sxl_nil ?_
  refine qx_seq ?_
  refine sx_false rfl ?_
  refine sx_skip ?_
  refine qx_seq ?_
  refine sx_seq ?_
  refine sx_region ?_
  iterate 2 refine sxl_y (wn_none rfl) rfl rfl (yp rfl) ?_
  refine sxl_does (some 23) (wn_none rfl) rfl rfl (fun ρ hρ => does_mapS rfl) ?_
  rintro _ w1 ⟨gm, rfl, hm1, hm2, hM, hf1⟩
  refine sxl_y (wn_none rfl) rfl rfl (y_build rfl rfl (pager_built L.gd gm (s.lasts.length / 4) (-1))) ?_
  refine sxl_does (some 25) (wn_none rfl) rfl rfl (fun ρ hρ => does_box 82 (.tmp 24) rfl (PS.cells ⟨s.lasts.length / 4, -1, 0, fun _ => 0, false⟩ L.gd gm) (by rw [hρ _ _ rfl]; rfl)) ?_
  rintro _ w2 ⟨gp, rfl, hp1, hp2, hbp, hf2⟩
  have hz1 := hf1.size
  have hnew : PgNew w w2 L ⟨gp, gm, L⟩ ⟨s.lasts.length / 4, -1, 0, fun _ => 0, false⟩ s := .mk0 h (hf1.trans hf2) (by omega) hm1 hbp (hM.fr hf2 (fun hh => hh))
  generalize hN : s.lasts.length / 4 = N at hnew
  refine sxl_y (wn_none rfl) rfl rfl (yp rfl) ?_
  refine sxl_nil ?_
  refine qx_seq ?_
  refine sx_seq ?_
  refine sx_region ?_
  refine sxl_y (wn_none rfl) rfl rfl (yp rfl) ?_
  refine sxl_y (wn_none rfl) rfl rfl (y_func rfl rfl rfl) ?_
  refine sxl_y (wn_none rfl) rfl rfl (yp rfl) ?_
  refine sxl_nil ?_
  refine qx_seq ?_
  refine sx_seq ?_
  refine sx_seq ?_
  refine sx_region ?_
  refine sxl_y (wn_none rfl) rfl rfl (yp rfl) ?_
  refine sxl_nil ?_
  refine qx_seq ?_
  refine sx_block ?_
  refine sx_loop (fun e wr m => ∃ (j : Nat), e = [(28, .int .i64 (j : Int)), (8, .func (.func 43) [.pointer (some ⟨gp, 0, none⟩)].toArray #[]), (7, .pointer (some ⟨gp, 0, none⟩)), (5, .int .i64 (N : Int)), (0, .pointer (some ⟨L.gd, 0, none⟩))] ∧ j ≤ 2 ∧ PgTo w2 wr ⟨gp, gm, L⟩ ⟨gp, gm, L⟩ ⟨N, (s.best j).1, (s.best j).2, fun _ => 0, false⟩ s ∧ Fr (fun b => b = gp) w2 wr ∧ m = 2 - j)
    ⟨0, rfl, Nat.zero_le _, .refl hnew.pg Fr.refl, Fr.refl, rfl⟩ ⟨rfl, rfl, rfl, rfl, rfl, trivial⟩ ?_
  rintro _ wr _ ⟨j, rfl, hj, hto, hfr, rfl⟩
  have c2 := hto.pg.c2
  have hdk : DkAt wr L s := hto.pg.dk
  by_cases hlt : j < 2
  · have hmeta := meta_ok hto.pg hd j (by omega) (by show N ≤ _; omega)
    have hm : metaOf N (decA j (s.page j)) = s.metaA j := by unfold DS.metaA; rw [hN]
    have hmeta : Calls Tryd.prog 43 #[.pointer (some ⟨gp, 0, none⟩), .int .i64 (j : Int)] wr fun e w' => e = .returned (.tuple #[.int .i64 (s.metaA j).1, .int .i64 (s.metaA j).2]) ∧ Fr0 wr w' := by rw [← hm]; exact hmeta
    have hstep : s.best (j + 1) = nxtM (s.best j) (s.metaA j) := rfl
    generalize s.metaA j = mt at hmeta hstep
    generalize s.best j = bs at hto c2 hstep
    refine sx_seq ?_
    refine sx_region ?_
    refine sxl_y (wn_none rfl) rfl rfl (y_lss_t rfl rfl rfl (by omega)) ?_
    refine sxl_nil ?_
    refine qx_seq ?_
    refine sx_seq ?_
    refine sx_true rfl ?_
    refine sx_skip ?_
    refine qx_seq ?_
    refine sx_seq ?_
    refine sx_block ?_
    refine sx_seq ?_
    refine sx_region ?_
    iterate 2 refine sxl_y (wn_none rfl) rfl rfl (yp rfl) ?_
    refine sxl_nil ?_
    refine qx_seq ?_
    refine sx_seq ?_
    refine sx_region ?_
    iterate 2 refine sxl_y (wn_none rfl) rfl rfl (yp rfl) ?_
    refine sxl_call (some 34) (wn_none rfl) rfl rfl (yc_bound (us := [.pointer (some ⟨gp, 0, none⟩)]) rfl rfl rfl Tryd.call43) hmeta ?_
    rintro _ w3 ⟨rfl, hf3⟩
    refine ⟨_, rfl, ?_⟩
    have hto3 := hto.then0 hf3
    have c2 : Cell w3.heap gp 2 (.int .i64 bs.1) := c2.fr hf3 (fun hh => hh)
    by_cases hgt : bs.1 < mt.1
    · have hn : nxtM bs mt = mt := by unfold nxtM; rw [if_pos hgt]
      iterate 5 refine sxl_y (wn_none rfl) rfl rfl (yp rfl) ?_
      refine sxl_nil ?_
      refine qx_seq ?_
      refine sx_seq ?_
      refine sx_region ?_
      iterate 4 refine sxl_y (wn_none rfl) rfl rfl (yp rfl) ?_
      refine sxl_y (wn_none rfl) rfl rfl (y_load rfl rfl (sc rfl) (by assumption)) ?_
      refine sxl_y (wn_none rfl) rfl rfl (y_gtr_t rfl rfl rfl (by omega)) ?_
      refine sxl_nil ?_
      refine qx_seq ?_
      refine sx_true rfl ?_
      refine sx_region ?_
      iterate 6 refine sxl_y (wn_none rfl) rfl rfl (yp rfl) ?_
      refine sxl_does none (wn_none rfl) rfl rfl (fun ρ hρ => does_store1 3 (.tmp 48) _ rfl gp 2 82 _ (.int .i64 mt.1) (hρ _ _ rfl) (hρ _ _ rfl) rfl hto3.pg.hd (by kernel_rfl) (by simp [PS.cells]) rfl) ?_
      rintro _ w4 ⟨rfl, hb4, hf4⟩
      iterate 2 refine sxl_y (wn_none rfl) rfl rfl (yp rfl) ?_
      refine sxl_does none (wn_none rfl) rfl rfl (fun ρ hρ => does_store1 3 (.tmp 50) _ rfl gp 3 82 _ (.int .i64 mt.2) (hρ _ _ rfl) (hρ _ _ rfl) rfl hb4 (by kernel_rfl) (by simp [PS.cells]) rfl) ?_
      rintro _ w5 ⟨rfl, hb5, hf5⟩
      have hto5 : PgTo w2 w5 ⟨gp, gm, L⟩ ⟨gp, gm, L⟩ ⟨N, mt.1, mt.2, fun _ => 0, false⟩ s := hto3.trans (.own hto3.pg (hf4.trans hf5) hb5 rfl)
      refine sxl_nil ?_
      refine qx_block_normal ?_
      refine qx_seq ?_
      refine sx_region ?_
      refine sxl_y (wn_none rfl) rfl rfl (y_add rfl rfl rfl (by omega)) ?_
      refine sxl_y (wn_none rfl) rfl rfl (yp rfl) ?_
      refine sxl_nil ?_
      exact qx_again [(28, .int .i64 ((j + 1 : Nat) : Int)), (8, .func (.func 43) [.pointer (some ⟨gp, 0, none⟩)].toArray #[]), (7, .pointer (some ⟨gp, 0, none⟩)), (5, .int .i64 (N : Int)), (0, .pointer (some ⟨L.gd, 0, none⟩))] (2 - (j + 1)) ⟨j + 1, rfl, hlt, by rw [hstep, hn]; exact hto5, (hfr.then0 hf3).trans (hf4.trans hf5), rfl⟩ (by omega) ⟨rfl, rfl, rfl, rfl, rfl, trivial⟩
    · have hn : nxtM bs mt = bs := by unfold nxtM; rw [if_neg hgt]
      iterate 5 refine sxl_y (wn_none rfl) rfl rfl (yp rfl) ?_
      refine sxl_nil ?_
      refine qx_seq ?_
      refine sx_seq ?_
      refine sx_region ?_
      iterate 4 refine sxl_y (wn_none rfl) rfl rfl (yp rfl) ?_
      refine sxl_y (wn_none rfl) rfl rfl (y_load rfl rfl (sc rfl) (by assumption)) ?_
      refine sxl_y (wn_none rfl) rfl rfl (y_gtr_f rfl rfl rfl (by omega)) ?_
      refine sxl_nil ?_
      refine qx_seq ?_
      refine sx_false rfl ?_
      refine sx_skip ?_
      refine qx_block_normal ?_
      refine qx_seq ?_
      refine sx_region ?_
      refine sxl_y (wn_none rfl) rfl rfl (y_add rfl rfl rfl (by omega)) ?_
      refine sxl_y (wn_none rfl) rfl rfl (yp rfl) ?_
      refine sxl_nil ?_
      exact qx_again [(28, .int .i64 ((j + 1 : Nat) : Int)), (8, .func (.func 43) [.pointer (some ⟨gp, 0, none⟩)].toArray #[]), (7, .pointer (some ⟨gp, 0, none⟩)), (5, .int .i64 (N : Int)), (0, .pointer (some ⟨L.gd, 0, none⟩))] (2 - (j + 1)) ⟨j + 1, rfl, hlt, by rw [hstep, hn]; exact hto3, hfr.then0 hf3, rfl⟩ (by omega) ⟨rfl, rfl, rfl, rfl, rfl, trivial⟩
  obtain rfl : j = 2 := by omega
  have hf0r : Fr0 w wr := (hf1.trans hf2).step hfr (fun b hb e => by omega)
  by_cases hneg : (s.best 2).1 < 0
  · refine sx_seq ?_
    refine sx_region ?_
    refine sxl_y (wn_none rfl) rfl rfl (y_lss_f rfl rfl rfl (by omega)) ?_
    refine sxl_nil ?_
    refine qx_seq ?_
    refine sx_seq ?_
    refine sx_false rfl ?_
    refine sx_exit ?_
    refine qx_then_exit ?_
    refine qx_then_exit ?_
    refine qx_block_hit ?_
    refine qx_seq ?_
    refine sx_seq ?_
    refine sx_seq ?_
    refine sx_region ?_
    iterate 3 refine sxl_y (wn_none rfl) rfl rfl (yp rfl) ?_
    refine sxl_y (wn_none rfl) rfl rfl (y_load rfl rfl (sc rfl) (by assumption)) ?_
    refine sxl_y (wn_none rfl) rfl rfl (y_lss_t rfl rfl rfl (by omega)) ?_
    refine sxl_nil ?_
    refine qx_seq ?_
    refine sx_true rfl ?_
    refine sx_seq ?_
    refine sx_region ?_
    iterate 3 refine sxl_y (wn_none rfl) rfl rfl (yp rfl) ?_
    refine sxl_nil ?_
    refine qx_seq ?_
    refine sx_ret ?_
    refine qx_then_ret ?_
    refine qx_ret3 rfl rfl rfl rfl ?_
    exact ⟨hf0r, .inl ⟨hneg, rfl⟩⟩
  have hz2 := hf2.size
  have hgne : gp ≠ gm := hto.pg.ne
  refine sx_seq ?_
  refine sx_region ?_
  refine sxl_y (wn_none rfl) rfl rfl (y_lss_f rfl rfl rfl (by omega)) ?_
  refine sxl_nil ?_
  refine qx_seq ?_
  refine sx_seq ?_
  refine sx_false rfl ?_
  refine sx_exit ?_
  refine qx_then_exit ?_
  refine qx_then_exit ?_
  refine qx_block_hit ?_
  refine qx_seq ?_
  refine sx_seq ?_
  refine sx_seq ?_
  refine sx_region ?_
  iterate 3 refine sxl_y (wn_none rfl) rfl rfl (yp rfl) ?_
  refine sxl_y (wn_none rfl) rfl rfl (y_load rfl rfl (sc rfl) (by assumption)) ?_
  refine sxl_y (wn_none rfl) rfl rfl (y_lss_f rfl rfl rfl (by omega)) ?_
  refine sxl_nil ?_
  refine qx_seq ?_
  refine sx_false rfl ?_
  refine sx_skip ?_
  refine qx_seq ?_
  refine sx_seq ?_
  refine sx_seq ?_
  refine sx_region ?_
  refine sxl_y (wn_none rfl) rfl rfl (yp rfl) ?_
  refine sxl_nil ?_
  refine qx_seq ?_
  refine sx_block ?_
  refine sx_loop (fun e wr' m => ∃ (i : Nat) (st : Int → Int), e = [(12, .int .i64 (i : Int)), (7, .pointer (some ⟨gp, 0, none⟩)), (5, .int .i64 (N : Int))] ∧ 2 ≤ i ∧ i ≤ N ∧ PgTo w2 wr' ⟨gp, gm, L⟩ ⟨gp, gm, L⟩ ⟨N, (s.best 2).1, (s.best 2).2, st, false⟩ s ∧ (∀ k, st k = usedAll i k) ∧ Fr (fun b => b = gm) wr wr' ∧ m = N - i)
    ⟨2, _, rfl, Nat.le_refl _, by omega, hto, (fun k => by unfold usedAll; rw [if_neg (by omega)]), Fr.refl, rfl⟩ ⟨rfl, rfl, rfl, trivial⟩ ?_
  rintro _ w6 _ ⟨i, st, rfl, hi2, hiN, hto6, hst, hf6, rfl⟩
  have c4 : Cell w6.heap gp 4 (.map (some gm)) := hto6.pg.c4
  have c3 : Cell w6.heap gp 3 (.int .i64 (s.best 2).2) := hto6.pg.c3
  by_cases hlt : i < N
  · refine sx_seq ?_
    refine sx_seq ?_
    refine sx_region ?_
    iterate 2 refine sxl_y (wn_none rfl) rfl rfl (yp rfl) ?_
    refine sxl_y (wn_none rfl) rfl rfl (y_lss_t rfl rfl rfl (by omega)) ?_
    refine sxl_nil ?_
    refine qx_seq ?_
    refine sx_true rfl ?_
    refine sx_skip ?_
    refine qx_seq ?_
    refine sx_seq ?_
    refine sx_block ?_
    refine sx_region ?_
    iterate 3 refine sxl_y (wn_none rfl) rfl rfl (yp rfl) ?_
    refine sxl_y (wn_none rfl) rfl rfl (y_load rfl rfl (sc rfl) (by assumption)) ?_
    refine sxl_y (wn_none rfl) rfl rfl (yp rfl) ?_
    refine sxl_does none (wn_none rfl) rfl rfl (fun ρ hρ => does_stt (k := (i : Int)) (v := 1) rfl (hρ _ _ rfl) (hρ _ _ rfl) (hρ _ _ rfl) hto6.pg.hm) ?_
    rintro _ w7 ⟨rfl, hf7, hm7⟩
    refine sxl_nil ?_
    refine qx_block_normal ?_
    refine qx_seq ?_
    refine sx_region ?_
    refine sxl_y (wn_none rfl) rfl rfl (yp rfl) ?_
    refine sxl_y (wn_none rfl) rfl rfl (y_add rfl rfl rfl (by omega)) ?_
    refine sxl_y (wn_none rfl) rfl rfl (yp rfl) ?_
    refine sxl_nil ?_
    exact qx_again [(12, .int .i64 ((i + 1 : Nat) : Int)), (7, .pointer (some ⟨gp, 0, none⟩)), (5, .int .i64 (N : Int))] (N - (i + 1)) ⟨i + 1, _, rfl, by omega, hlt, hto6.trans (.map hto6.pg hf7 hm7), (fun k => by
      show updS st i 1 k = _
      have := hst k
      unfold updS usedAll at *
      by_cases e : k = (i : Int)
      · rw [if_pos e, if_pos (by omega)]
      · rw [if_neg e, this]
        by_cases e2 : 2 ≤ k ∧ k < (i : Int)
        · rw [if_pos e2, if_pos (by omega)]
        · rw [if_neg e2, if_neg (by omega)]), hf6.trans hf7, rfl⟩ (by omega) ⟨rfl, rfl, rfl, trivial⟩
  · obtain rfl : i = N := by omega
    obtain rfl : st = usedAll i := funext hst
    refine sx_seq ?_
    refine sx_seq ?_
    refine sx_region ?_
    iterate 2 refine sxl_y (wn_none rfl) rfl rfl (yp rfl) ?_
    refine sxl_y (wn_none rfl) rfl rfl (y_lss_f rfl rfl rfl (by omega)) ?_
    refine sxl_nil ?_
    refine qx_seq ?_
    refine sx_false rfl ?_
    refine sx_exit ?_
    refine qx_then_exit ?_
    refine qx_then_exit ?_
    refine qx_block_hit ?_
    refine qx_seq ?_
    refine sx_seq ?_
    refine sx_still hmix (by kernel_rfl) ?_
    have c3 := c3.fr (Fr.refl.drew : Fr0 w6 w6.drew) (fun hh => hh)
    iterate 4 refine sxs_y (wn_none rfl) rfl rfl (yp rfl) ?_
    refine sxs_y (wn_none rfl) rfl rfl (y_load rfl rfl (sc rfl) (by assumption)) ?_
    iterate 3 refine sxs_y (wn_none rfl) rfl rfl (yp rfl) ?_
    refine sxs_end ?_
    refine qx_seq ?_
    refine sx_ret ?_
    refine qx_ret3 rfl rfl rfl rfl ?_
    have hfin : PgNew w w6.drew L ⟨gp, gm, L⟩ ⟨i, (s.best 2).1, (s.best 2).2, usedAll i, false⟩ s := hnew.then (by show _ ≤ gp; omega) hm1 (hto6.then0 Fr.refl.drew)
    exact ⟨(hf0r.step hf6 (fun b hb e => by omega)).drew, .inr ⟨by omega, ⟨gp, gm, L⟩, rfl, hfin⟩⟩
end
end Go.Proofs.YthdlljlcffokbaaDoor
