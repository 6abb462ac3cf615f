/- A pager writes a page that was taken; it commits. No condition. -/
import Derived.Test.YthdlljlcffokbaaDoorZb3
namespace Go.Proofs.YthdlljlcffokbaaDoor
open Go.RowKit

/-- How many of the first n pages from the second on are free. -/
def freeUpto (st : Int → Int) : Nat → Nat
  | 0 => 0
  | n + 1 => if 2 ≤ n ∧ st (n : Int) = 0 then freeUpto st n + 1 else freeUpto st n
theorem freeUpto_le (st : Int → Int) : ∀ n, freeUpto st n ≤ n
  | 0 => Nat.le_refl _
  | n + 1 => by have := freeUpto_le st n; unfold freeUpto; split <;> omega
def PS.free (p : PS) : Nat := freeUpto p.st p.pages
/-- The first free page from n on, in k places. -/
def firstFree (st : Int → Int) : Nat → Nat → Option Nat
  | 0, _ => none
  | k + 1, n => if st (n : Int) = 0 then some n else firstFree st k (n + 1)
def PS.next (p : PS) : Option Nat := firstFree p.st (p.pages - 2) 2
def turnOf (took drop v : Int) : Int := if v = 2 ∨ v = 3 then took else if v = 4 then drop else v
section
variable {w : World} {Q : PL} {p : PS} {s : DS}
set_option maxHeartbeats 1000000 in
theorem free_ok (h : PgAt w Q p s) (hp : p.pages ≤ 100000) : Calls Tryd.prog 22 #[.pointer (some ⟨Q.gp, 0, none⟩)] w fun e w' => e = .returned (.int .i64 (p.free : Int)) ∧ w = w' := by
  have c1 := h.c1
  have c4 := h.c4
  refine sx_enter (vs := [_]) Tryd.func22 rfl Tryd.ntmps22 rfl ?_
  refine sx_seq ?_
  refine sx_region ?_
  refine sxl_y (wn_none rfl) rfl rfl (yp rfl) ?_
  refine sxl_nil ?_
  refine qx_seq ?_
  refine sx_seq ?_
  refine sx_seq ?_
  refine sx_region ?_
  refine sxl_y (wn_none rfl) rfl rfl (yp rfl) ?_
  refine sxl_y (wn_none rfl) rfl rfl (y_eqlNil rfl rfl rfl (pt rfl)) ?_
  refine sxl_nil ?_
  refine qx_seq ?_
  refine sx_false rfl ?_
  refine sx_skip ?_
  refine qx_seq ?_
  refine sx_seq ?_
  refine sx_region ?_
  refine sxl_y (wn_none rfl) rfl rfl (yp rfl) ?_
  refine sxl_nil ?_
  refine qx_seq ?_
  refine sx_seq ?_
  refine sx_seq ?_
  refine sx_region ?_
  refine sxl_y (wn_none rfl) rfl rfl (yp rfl) ?_
  refine sxl_nil ?_
  refine qx_seq ?_
  refine sx_block ?_
  refine sx_loop (fun e wr m => ∃ (i : Nat), e = [(4, .int .i64 (i : Int)), (3, .int .i64 (freeUpto p.st i : Int)), (0, .pointer (some ⟨Q.gp, 0, none⟩))] ∧ w = wr ∧ 2 ≤ i ∧ (i ≤ p.pages ∨ i = 2) ∧ m = p.pages - i) ⟨2, rfl, rfl, Nat.le_refl _, .inr rfl, rfl⟩ ⟨rfl, rfl, rfl, trivial⟩ ?_
  rintro _ _ _ ⟨i, rfl, rfl, h2, hi, rfl⟩
  have hfu := freeUpto_le p.st i
  by_cases hlt : i < p.pages
  · have hstep : freeUpto p.st (i + 1) = if p.st (i : Int) = 0 then freeUpto p.st i + 1 else freeUpto p.st i := by
      conv => lhs; unfold freeUpto
      by_cases hz : p.st (i : Int) = 0 <;> simp [hz, h2]
    by_cases hz : p.st (i : Int) = 0
    · rw [if_pos hz] at hstep
      refine sx_seq ?_
      refine sx_seq ?_
      refine sx_region ?_
      iterate 4 refine sxl_y (wn_none rfl) rfl rfl (yp rfl) ?_
      refine sxl_y (wn_none rfl) rfl rfl (y_load rfl rfl (sc rfl) (by assumption)) ?_
      refine sxl_y (wn_none rfl) rfl rfl (y_lss_t rfl rfl rfl (by omega)) ?_
      refine sxl_nil ?_
      refine qx_seq ?_
      refine sx_true rfl ?_
      refine sx_skip ?_
      refine qx_seq ?_
      refine sx_seq ?_
      refine sx_block ?_
      refine sx_seq ?_
      refine sx_region ?_
      iterate 3 refine sxl_y (wn_none rfl) rfl rfl (yp rfl) ?_
      refine sxl_y (wn_none rfl) rfl rfl (y_load rfl rfl (sc rfl) (by assumption)) ?_
      refine sxl_y (wn_none rfl) rfl rfl (yp rfl) ?_
      refine sxl_y (wn_none rfl) rfl rfl (y_stt rfl rfl rfl h.hm) ?_
      refine sxl_y (wn_none rfl) rfl rfl (y_eql_t rfl rfl rfl (by omega)) ?_
      refine sxl_nil ?_
      refine qx_seq ?_
      refine sx_true rfl ?_
      refine sx_region ?_
      refine sxl_y (wn_none rfl) rfl rfl (yp rfl) ?_
      refine sxl_y (wn_none rfl) rfl rfl (y_add rfl rfl rfl (by omega)) ?_
      refine sxl_y (wn_none rfl) rfl rfl (yp rfl) ?_
      refine sxl_nil ?_
      refine qx_block_normal ?_
      refine qx_seq ?_
      refine sx_region ?_
      refine sxl_y (wn_none rfl) rfl rfl (yp rfl) ?_
      refine sxl_y (wn_none rfl) rfl rfl (y_add rfl rfl rfl (by omega)) ?_
      refine sxl_y (wn_none rfl) rfl rfl (yp rfl) ?_
      refine sxl_nil ?_
      exact qx_again [(4, .int .i64 ((i + 1 : Nat) : Int)), (3, .int .i64 (freeUpto p.st (i + 1) : Int)), (0, .pointer (some ⟨Q.gp, 0, none⟩))] (p.pages - (i + 1)) ⟨i + 1, rfl, rfl, by omega, .inl (by omega), rfl⟩ (by omega) ⟨rfl, by rw [hstep]; rfl, rfl, trivial⟩
    · rw [if_neg hz] at hstep
      refine sx_seq ?_
      refine sx_seq ?_
      refine sx_region ?_
      iterate 4 refine sxl_y (wn_none rfl) rfl rfl (yp rfl) ?_
      refine sxl_y (wn_none rfl) rfl rfl (y_load rfl rfl (sc rfl) (by assumption)) ?_
      refine sxl_y (wn_none rfl) rfl rfl (y_lss_t rfl rfl rfl (by omega)) ?_
      refine sxl_nil ?_
      refine qx_seq ?_
      refine sx_true rfl ?_
      refine sx_skip ?_
      refine qx_seq ?_
      refine sx_seq ?_
      refine sx_block ?_
      refine sx_seq ?_
      refine sx_region ?_
      iterate 3 refine sxl_y (wn_none rfl) rfl rfl (yp rfl) ?_
      refine sxl_y (wn_none rfl) rfl rfl (y_load rfl rfl (sc rfl) (by assumption)) ?_
      refine sxl_y (wn_none rfl) rfl rfl (yp rfl) ?_
      refine sxl_y (wn_none rfl) rfl rfl (y_stt rfl rfl rfl h.hm) ?_
      refine sxl_y (wn_none rfl) rfl rfl (y_eql_f rfl rfl rfl (by omega)) ?_
      refine sxl_nil ?_
      refine qx_seq ?_
      refine sx_false rfl ?_
      refine sx_skip ?_
      refine qx_block_normal ?_
      refine qx_seq ?_
      refine sx_region ?_
      refine sxl_y (wn_none rfl) rfl rfl (yp rfl) ?_
      refine sxl_y (wn_none rfl) rfl rfl (y_add rfl rfl rfl (by omega)) ?_
      refine sxl_y (wn_none rfl) rfl rfl (yp rfl) ?_
      refine sxl_nil ?_
      exact qx_again [(4, .int .i64 ((i + 1 : Nat) : Int)), (3, .int .i64 (freeUpto p.st (i + 1) : Int)), (0, .pointer (some ⟨Q.gp, 0, none⟩))] (p.pages - (i + 1)) ⟨i + 1, rfl, rfl, by omega, .inl (by omega), rfl⟩ (by omega) ⟨rfl, by rw [hstep]; rfl, rfl, trivial⟩
  · have hfin : p.free = freeUpto p.st i := by
      unfold PS.free
      rcases hi with hi | rfl
      · rw [show p.pages = i by omega]
      · have e : ∀ n, n ≤ 2 → freeUpto p.st n = 0 := by
          intro n hn
          match n, hn with
          | 0, _ => rfl
          | 1, _ => simp [freeUpto]
          | 2, _ => simp [freeUpto]
        rw [e _ (by omega), e _ (by omega)]
    refine sx_seq ?_
    refine sx_seq ?_
    refine sx_region ?_
    iterate 4 refine sxl_y (wn_none rfl) rfl rfl (yp rfl) ?_
    refine sxl_y (wn_none rfl) rfl rfl (y_load rfl rfl (sc rfl) (by assumption)) ?_
    refine sxl_y (wn_none rfl) rfl rfl (y_lss_f rfl rfl rfl (by omega)) ?_
    refine sxl_nil ?_
    refine qx_seq ?_
    refine sx_false rfl ?_
    refine sx_exit ?_
    refine qx_then_exit ?_
    refine qx_then_exit ?_
    refine qx_block_hit ?_
    refine qx_seq ?_
    refine sx_seq ?_
    refine sx_region ?_
    iterate 2 refine sxl_y (wn_none rfl) rfl rfl (yp rfl) ?_
    refine sxl_nil ?_
    refine qx_seq ?_
    refine sx_ret ?_
    refine qx_ret1 rfl rfl ?_
    exact ⟨by rw [hfin], rfl⟩
set_option maxHeartbeats 1000000 in
theorem alloc_dead (h : PgAt w Q p s) (hg : p.gone s = true) : Calls Tryd.prog 12 #[.pointer (some ⟨Q.gp, 0, none⟩)] w fun e w' => e = .returned (.tuple #[.int .i64 0, .int .i64 20]) ∧ w = w' := by
  refine sx_enter (vs := [_]) Tryd.func12 rfl Tryd.ntmps12 rfl ?_
  refine sx_seq ?_
  refine sx_region ?_
  iterate 2 refine sxl_y (wn_none rfl) rfl rfl (yp rfl) ?_
  refine sxl_nil ?_
  refine qx_seq ?_
  refine sx_seq ?_
  refine sx_seq ?_
  refine sx_region ?_
  refine sxl_y (wn_none rfl) rfl rfl (yp rfl) ?_
  refine sxl_pure (wn_none rfl) rfl rfl (yc_call rfl rfl Tryd.call38) (palive_t h hg) ?_
  refine sxl_y (wn_none rfl) rfl rfl (yp rfl) ?_
  refine sxl_nil ?_
  refine qx_seq ?_
  refine sx_seq ?_
  refine sx_region ?_
  refine sxl_y (wn_none rfl) rfl rfl (yp rfl) ?_
  refine sxl_y (wn_none rfl) rfl rfl (y_neq_t rfl rfl rfl (by omega)) ?_
  refine sxl_nil ?_
  refine qx_seq ?_
  refine sx_true rfl ?_
  refine sx_seq ?_
  refine sx_region ?_
  iterate 3 refine sxl_y (wn_none rfl) rfl rfl (yp rfl) ?_
  refine sxl_nil ?_
  refine qx_seq ?_
  refine sx_ret ?_
  refine qx_then_ret ?_
  refine qx_ret2 rfl rfl rfl ?_
  exact ⟨rfl, rfl⟩
set_option maxHeartbeats 1000000 in
theorem alloc_some (h : PgAt w Q p s) (hg : p.gone s = false) (hp : p.pages ≤ 100000) {j : Nat} (hj : p.next = some j) : Calls Tryd.prog 12 #[.pointer (some ⟨Q.gp, 0, none⟩)] w fun e w' => e = .returned (.tuple #[.int .i64 (j : Int), .int .i64 0]) ∧ PgTo w w' Q Q { p with st := updS p.st j 2 } s := by
  have c1 := h.c1
  have c4 := h.c4
  refine sx_enter (vs := [_]) Tryd.func12 rfl Tryd.ntmps12 rfl ?_
  refine sx_seq ?_
  refine sx_region ?_
  iterate 2 refine sxl_y (wn_none rfl) rfl rfl (yp rfl) ?_
  refine sxl_nil ?_
  refine qx_seq ?_
  refine sx_seq ?_
  refine sx_seq ?_
  refine sx_region ?_
  refine sxl_y (wn_none rfl) rfl rfl (yp rfl) ?_
  refine sxl_pure (wn_none rfl) rfl rfl (yc_call rfl rfl Tryd.call38) (palive_f h hg) ?_
  refine sxl_y (wn_none rfl) rfl rfl (yp rfl) ?_
  refine sxl_nil ?_
  refine qx_seq ?_
  refine sx_seq ?_
  refine sx_region ?_
  refine sxl_y (wn_none rfl) rfl rfl (yp rfl) ?_
  refine sxl_y (wn_none rfl) rfl rfl (y_neq_f rfl rfl rfl (by omega)) ?_
  refine sxl_nil ?_
  refine qx_seq ?_
  refine sx_false rfl ?_
  refine sx_skip ?_
  refine qx_seq ?_
  refine sx_seq ?_
  refine sx_seq ?_
  refine sx_region ?_
  refine sxl_y (wn_none rfl) rfl rfl (yp rfl) ?_
  refine sxl_nil ?_
  refine qx_seq ?_
  refine sx_block ?_
  refine sx_loop (fun e wr m => ∃ (i : Nat), e = [(5, .int .i64 (i : Int)), (0, .pointer (some ⟨Q.gp, 0, none⟩))] ∧ w = wr ∧ 2 ≤ i ∧ firstFree p.st (p.pages - i) i = some j ∧ m = p.pages - i) ⟨2, rfl, rfl, Nat.le_refl _, hj, rfl⟩ ⟨rfl, rfl, trivial⟩ ?_
  rintro _ _ _ ⟨i, rfl, rfl, h2, hi, rfl⟩
  have hlt : i < p.pages := by
    cases hd : p.pages - i with
    | zero => rw [hd] at hi; cases hi
    | succ k => omega
  rw [show p.pages - i = (p.pages - (i + 1)) + 1 by omega] at hi
  unfold firstFree at hi
  by_cases hz : p.st (i : Int) = 0
  · rw [if_pos hz] at hi
    injection hi with hi
    subst hi
    refine sx_seq ?_
    refine sx_seq ?_
    refine sx_region ?_
    iterate 4 refine sxl_y (wn_none rfl) rfl rfl (yp rfl) ?_
    refine sxl_y (wn_none rfl) rfl rfl (y_load rfl rfl (sc rfl) (by assumption)) ?_
    refine sxl_y (wn_none rfl) rfl rfl (y_lss_t rfl rfl rfl (by omega)) ?_
    refine sxl_nil ?_
    refine qx_seq ?_
    refine sx_true rfl ?_
    refine sx_skip ?_
    refine qx_seq ?_
    refine sx_seq ?_
    refine sx_block ?_
    refine sx_seq ?_
    refine sx_region ?_
    iterate 3 refine sxl_y (wn_none rfl) rfl rfl (yp rfl) ?_
    refine sxl_y (wn_none rfl) rfl rfl (y_load rfl rfl (sc rfl) (by assumption)) ?_
    refine sxl_y (wn_none rfl) rfl rfl (yp rfl) ?_
    refine sxl_y (wn_none rfl) rfl rfl (y_stt rfl rfl rfl h.hm) ?_
    refine sxl_y (wn_none rfl) rfl rfl (y_eql_t rfl rfl rfl (by omega)) ?_
    refine sxl_nil ?_
    refine qx_seq ?_
    refine sx_true rfl ?_
    refine sx_seq ?_
    refine sx_region ?_
    iterate 3 refine sxl_y (wn_none rfl) rfl rfl (yp rfl) ?_
    refine sxl_y (wn_none rfl) rfl rfl (y_load rfl rfl (sc rfl) (by assumption)) ?_
    refine sxl_y (wn_none rfl) rfl rfl (yp rfl) ?_
    refine sxl_does none (wn_none rfl) rfl rfl (fun ρ hρ => does_stt (k := (i : Int)) (v := 2) rfl (hρ _ _ rfl) (hρ _ _ rfl) (hρ _ _ rfl) h.hm) ?_
    rintro _ w1 ⟨rfl, hf1, hm1⟩
    refine sxl_nil ?_
    refine qx_seq ?_
    refine sx_seq ?_
    refine sx_region ?_
    iterate 3 refine sxl_y (wn_none rfl) rfl rfl (yp rfl) ?_
    refine sxl_nil ?_
    refine qx_seq ?_
    refine sx_ret ?_
    refine qx_block_ret ?_
    refine qx_then_ret ?_
    refine qx_then_ret ?_
    refine qx_block_ret ?_
    refine qx_then_ret ?_
    refine qx_ret2 rfl rfl rfl ?_
    exact ⟨rfl, .map h hf1 hm1⟩
  · rw [if_neg hz] at hi
    refine sx_seq ?_
    refine sx_seq ?_
    refine sx_region ?_
    iterate 4 refine sxl_y (wn_none rfl) rfl rfl (yp rfl) ?_
    refine sxl_y (wn_none rfl) rfl rfl (y_load rfl rfl (sc rfl) (by assumption)) ?_
    refine sxl_y (wn_none rfl) rfl rfl (y_lss_t rfl rfl rfl (by omega)) ?_
    refine sxl_nil ?_
    refine qx_seq ?_
    refine sx_true rfl ?_
    refine sx_skip ?_
    refine qx_seq ?_
    refine sx_seq ?_
    refine sx_block ?_
    refine sx_seq ?_
    refine sx_region ?_
    iterate 3 refine sxl_y (wn_none rfl) rfl rfl (yp rfl) ?_
    refine sxl_y (wn_none rfl) rfl rfl (y_load rfl rfl (sc rfl) (by assumption)) ?_
    refine sxl_y (wn_none rfl) rfl rfl (yp rfl) ?_
    refine sxl_y (wn_none rfl) rfl rfl (y_stt rfl rfl rfl h.hm) ?_
    refine sxl_y (wn_none rfl) rfl rfl (y_eql_f rfl rfl rfl (by omega)) ?_
    refine sxl_nil ?_
    refine qx_seq ?_
    refine sx_false rfl ?_
    refine sx_skip ?_
    refine qx_block_normal ?_
    refine qx_seq ?_
    refine sx_region ?_
    refine sxl_y (wn_none rfl) rfl rfl (yp rfl) ?_
    refine sxl_y (wn_none rfl) rfl rfl (y_add rfl rfl rfl (by omega)) ?_
    refine sxl_y (wn_none rfl) rfl rfl (yp rfl) ?_
    refine sxl_nil ?_
    exact qx_again [(5, .int .i64 ((i + 1 : Nat) : Int)), (0, .pointer (some ⟨Q.gp, 0, none⟩))] (p.pages - (i + 1)) ⟨i + 1, rfl, rfl, by omega, hi, rfl⟩ (by omega) ⟨rfl, rfl, trivial⟩
set_option maxHeartbeats 1000000 in
theorem alloc_none (h : PgAt w Q p s) (hg : p.gone s = false) (hp : p.pages ≤ 100000) (hj : p.next = none) : Calls Tryd.prog 12 #[.pointer (some ⟨Q.gp, 0, none⟩)] w fun e w' => e = .returned (.tuple #[.int .i64 0, .int .i64 3]) ∧ w = w' := by
  have c1 := h.c1
  have c4 := h.c4
  refine sx_enter (vs := [_]) Tryd.func12 rfl Tryd.ntmps12 rfl ?_
  refine sx_seq ?_
  refine sx_region ?_
  iterate 2 refine sxl_y (wn_none rfl) rfl rfl (yp rfl) ?_
  refine sxl_nil ?_
  refine qx_seq ?_
  refine sx_seq ?_
  refine sx_seq ?_
  refine sx_region ?_
  refine sxl_y (wn_none rfl) rfl rfl (yp rfl) ?_
  refine sxl_pure (wn_none rfl) rfl rfl (yc_call rfl rfl Tryd.call38) (palive_f h hg) ?_
  refine sxl_y (wn_none rfl) rfl rfl (yp rfl) ?_
  refine sxl_nil ?_
  refine qx_seq ?_
  refine sx_seq ?_
  refine sx_region ?_
  refine sxl_y (wn_none rfl) rfl rfl (yp rfl) ?_
  refine sxl_y (wn_none rfl) rfl rfl (y_neq_f rfl rfl rfl (by omega)) ?_
  refine sxl_nil ?_
  refine qx_seq ?_
  refine sx_false rfl ?_
  refine sx_skip ?_
  refine qx_seq ?_
  refine sx_seq ?_
  refine sx_seq ?_
  refine sx_region ?_
  refine sxl_y (wn_none rfl) rfl rfl (yp rfl) ?_
  refine sxl_nil ?_
  refine qx_seq ?_
  refine sx_block ?_
  refine sx_loop (fun e wr m => ∃ (i : Nat), e = [(5, .int .i64 (i : Int)), (0, .pointer (some ⟨Q.gp, 0, none⟩))] ∧ w = wr ∧ 2 ≤ i ∧ firstFree p.st (p.pages - i) i = none ∧ m = p.pages - i) ⟨2, rfl, rfl, Nat.le_refl _, hj, rfl⟩ ⟨rfl, rfl, trivial⟩ ?_
  rintro _ _ _ ⟨i, rfl, rfl, h2, hi, rfl⟩
  by_cases hlt : i < p.pages
  · rw [show p.pages - i = (p.pages - (i + 1)) + 1 by omega] at hi
    unfold firstFree at hi
    by_cases hz : p.st (i : Int) = 0
    · rw [if_pos hz] at hi
      cases hi
    · rw [if_neg hz] at hi
      refine sx_seq ?_
      refine sx_seq ?_
      refine sx_region ?_
      iterate 4 refine sxl_y (wn_none rfl) rfl rfl (yp rfl) ?_
      refine sxl_y (wn_none rfl) rfl rfl (y_load rfl rfl (sc rfl) (by assumption)) ?_
      refine sxl_y (wn_none rfl) rfl rfl (y_lss_t rfl rfl rfl (by omega)) ?_
      refine sxl_nil ?_
      refine qx_seq ?_
      refine sx_true rfl ?_
      refine sx_skip ?_
      refine qx_seq ?_
      refine sx_seq ?_
      refine sx_block ?_
      refine sx_seq ?_
      refine sx_region ?_
      iterate 3 refine sxl_y (wn_none rfl) rfl rfl (yp rfl) ?_
      refine sxl_y (wn_none rfl) rfl rfl (y_load rfl rfl (sc rfl) (by assumption)) ?_
      refine sxl_y (wn_none rfl) rfl rfl (yp rfl) ?_
      refine sxl_y (wn_none rfl) rfl rfl (y_stt rfl rfl rfl h.hm) ?_
      refine sxl_y (wn_none rfl) rfl rfl (y_eql_f rfl rfl rfl (by omega)) ?_
      refine sxl_nil ?_
      refine qx_seq ?_
      refine sx_false rfl ?_
      refine sx_skip ?_
      refine qx_block_normal ?_
      refine qx_seq ?_
      refine sx_region ?_
      refine sxl_y (wn_none rfl) rfl rfl (yp rfl) ?_
      refine sxl_y (wn_none rfl) rfl rfl (y_add rfl rfl rfl (by omega)) ?_
      refine sxl_y (wn_none rfl) rfl rfl (yp rfl) ?_
      refine sxl_nil ?_
      exact qx_again [(5, .int .i64 ((i + 1 : Nat) : Int)), (0, .pointer (some ⟨Q.gp, 0, none⟩))] (p.pages - (i + 1)) ⟨i + 1, rfl, rfl, by omega, hi, rfl⟩ (by omega) ⟨rfl, rfl, trivial⟩
  · refine sx_seq ?_
    refine sx_seq ?_
    refine sx_region ?_
    iterate 4 refine sxl_y (wn_none rfl) rfl rfl (yp rfl) ?_
    refine sxl_y (wn_none rfl) rfl rfl (y_load rfl rfl (sc rfl) (by assumption)) ?_
    refine sxl_y (wn_none rfl) rfl rfl (y_lss_f rfl rfl rfl (by omega)) ?_
    refine sxl_nil ?_
    refine qx_seq ?_
    refine sx_false rfl ?_
    refine sx_exit ?_
    refine qx_then_exit ?_
    refine qx_then_exit ?_
    refine qx_block_hit ?_
    refine qx_seq ?_
    refine sx_seq ?_
    refine sx_region ?_
    iterate 2 refine sxl_y (wn_none rfl) rfl rfl (yp rfl) ?_
    refine sxl_nil ?_
    refine qx_seq ?_
    refine sx_ret ?_
    refine qx_ret2 rfl rfl rfl ?_
    exact ⟨rfl, rfl⟩
/-- What Drop answers, and how the pages stand behind it. -/
def PS.drop (p : PS) (s : DS) (n : Int) : PS × Int :=
  if (p.at_ s n).2 ≠ 0 then (p, (p.at_ s n).2) else if p.st n = 0 ∨ p.st n = 4 then (p, 250) else if p.st n = 1 then ({ p with st := updS p.st n 4 }, 0) else ({ p with st := updS p.st n 0 }, 0)
theorem at_ok {n : Int} (h : (p.at_ s n).2 = 0) : p.at_ s n = (p.st n, 0) ∧ p.gone s = false ∧ 2 ≤ n ∧ n < p.pages := by
  unfold PS.at_ at h ⊢
  cases hg : p.gone s with
  | true => rw [hg] at h; cases h
  | false =>
    rw [hg] at h
    rw [if_neg (by decide)] at h ⊢
    by_cases hn : n < 2 ∨ (p.pages : Int) ≤ n
    · rw [if_pos hn] at h; cases h
    · rw [if_neg hn]; exact ⟨rfl, rfl, by omega, by omega⟩
set_option maxHeartbeats 1000000 in
theorem drop_any (h : PgAt w Q p s) (n : Int) : Calls Tryd.prog 11 #[.pointer (some ⟨Q.gp, 0, none⟩), .int .i64 n] w fun e w' => e = .returned (.int .i64 (p.drop s n).2) ∧ PgTo w w' Q Q (p.drop s n).1 s := by
  have c4 := h.c4
  unfold PS.drop
  by_cases ha : (p.at_ s n).2 = 0
  case neg =>
    rw [if_pos ha]
    refine sx_enter (vs := [_, _]) Tryd.func11 rfl Tryd.ntmps11 rfl ?_
    refine sx_seq ?_
    refine sx_region ?_
    refine sxl_y (wn_none rfl) rfl rfl (yp rfl) ?_
    refine sxl_nil ?_
    refine qx_seq ?_
    refine sx_seq ?_
    refine sx_region ?_
    iterate 2 refine sxl_y (wn_none rfl) rfl rfl (yp rfl) ?_
    refine sxl_pure (wn_none rfl) rfl rfl (yc_call rfl rfl Tryd.call37) (at_any h n) ?_
    iterate 5 refine sxl_y (wn_none rfl) rfl rfl (yp rfl) ?_
    refine sxl_nil ?_
    refine qx_seq ?_
    refine sx_seq ?_
    refine sx_block ?_
    refine sx_seq ?_
    refine sx_region ?_
    refine sxl_y (wn_none rfl) rfl rfl (yp rfl) ?_
    refine sxl_y (wn_none rfl) rfl rfl (y_neq_t rfl rfl rfl (by omega)) ?_
    refine sxl_y (wn_none rfl) rfl rfl (yp rfl) ?_
    refine sxl_nil ?_
    refine qx_seq ?_
    refine sx_true rfl ?_
    refine sx_seq ?_
    refine sx_region ?_
    iterate 2 refine sxl_y (wn_none rfl) rfl rfl (yp rfl) ?_
    refine sxl_nil ?_
    refine qx_seq ?_
    refine sx_ret ?_
    refine qx_block_ret ?_
    refine qx_then_ret ?_
    refine qx_ret1 rfl rfl ?_
    exact ⟨rfl, .refl h Fr.refl⟩
  rw [if_neg (fun e => e ha)]
  obtain ⟨ea, _⟩ := at_ok ha
  have hat := at_any h n
  rw [ea] at hat
  refine sx_enter (vs := [_, _]) Tryd.func11 rfl Tryd.ntmps11 rfl ?_
  by_cases h0 : p.st n = 0
  · rw [if_pos (.inl h0)]
    refine sx_seq ?_
    refine sx_region ?_
    refine sxl_y (wn_none rfl) rfl rfl (yp rfl) ?_
    refine sxl_nil ?_
    refine qx_seq ?_
    refine sx_seq ?_
    refine sx_region ?_
    iterate 2 refine sxl_y (wn_none rfl) rfl rfl (yp rfl) ?_
    refine sxl_pure (wn_none rfl) rfl rfl (yc_call rfl rfl Tryd.call37) (hat) ?_
    iterate 5 refine sxl_y (wn_none rfl) rfl rfl (yp rfl) ?_
    refine sxl_nil ?_
    refine qx_seq ?_
    refine sx_seq ?_
    refine sx_block ?_
    refine sx_seq ?_
    refine sx_region ?_
    refine sxl_y (wn_none rfl) rfl rfl (yp rfl) ?_
    refine sxl_y (wn_none rfl) rfl rfl (y_neq_f rfl rfl rfl (by omega)) ?_
    refine sxl_y (wn_none rfl) rfl rfl (yp rfl) ?_
    refine sxl_nil ?_
    refine qx_seq ?_
    refine sx_false rfl ?_
    refine sx_seq ?_
    refine sx_region ?_
    refine sxl_y (wn_none rfl) rfl rfl (yp rfl) ?_
    refine sxl_y (wn_none rfl) rfl rfl (y_eql_t rfl rfl rfl (by omega)) ?_
    refine sxl_y (wn_none rfl) rfl rfl (yp rfl) ?_
    refine sxl_off rfl rfl rfl rfl rfl rfl ?_
    refine sxl_off rfl rfl rfl rfl rfl rfl ?_
    iterate 2 refine sxl_y (wn_none rfl) rfl rfl (yp rfl) ?_
    refine sxl_nil ?_
    refine qx_seq ?_
    refine sx_true rfl ?_
    refine sx_seq ?_
    refine sx_region ?_
    refine sxl_y (wn_none rfl) rfl rfl (yp rfl) ?_
    refine sxl_nil ?_
    refine qx_seq ?_
    refine sx_ret ?_
    refine qx_block_ret ?_
    refine qx_then_ret ?_
    refine qx_ret1 rfl rfl ?_
    exact ⟨rfl, .refl h Fr.refl⟩
  by_cases h4 : p.st n = 4
  · rw [if_pos (.inr h4)]
    refine sx_seq ?_
    refine sx_region ?_
    refine sxl_y (wn_none rfl) rfl rfl (yp rfl) ?_
    refine sxl_nil ?_
    refine qx_seq ?_
    refine sx_seq ?_
    refine sx_region ?_
    iterate 2 refine sxl_y (wn_none rfl) rfl rfl (yp rfl) ?_
    refine sxl_pure (wn_none rfl) rfl rfl (yc_call rfl rfl Tryd.call37) (hat) ?_
    iterate 5 refine sxl_y (wn_none rfl) rfl rfl (yp rfl) ?_
    refine sxl_nil ?_
    refine qx_seq ?_
    refine sx_seq ?_
    refine sx_block ?_
    refine sx_seq ?_
    refine sx_region ?_
    refine sxl_y (wn_none rfl) rfl rfl (yp rfl) ?_
    refine sxl_y (wn_none rfl) rfl rfl (y_neq_f rfl rfl rfl (by omega)) ?_
    refine sxl_y (wn_none rfl) rfl rfl (yp rfl) ?_
    refine sxl_nil ?_
    refine qx_seq ?_
    refine sx_false rfl ?_
    refine sx_seq ?_
    refine sx_region ?_
    refine sxl_y (wn_none rfl) rfl rfl (yp rfl) ?_
    refine sxl_y (wn_none rfl) rfl rfl (y_eql_f rfl rfl rfl (by omega)) ?_
    refine sxl_y (wn_none rfl) rfl rfl (yp rfl) ?_
    refine sxl_y (wn_on rfl rfl rfl) rfl rfl (yp rfl) ?_
    refine sxl_y (wn_on rfl rfl rfl) rfl rfl (y_eql_t rfl rfl rfl (by omega)) ?_
    iterate 2 refine sxl_y (wn_none rfl) rfl rfl (yp rfl) ?_
    refine sxl_nil ?_
    refine qx_seq ?_
    refine sx_true rfl ?_
    refine sx_seq ?_
    refine sx_region ?_
    refine sxl_y (wn_none rfl) rfl rfl (yp rfl) ?_
    refine sxl_nil ?_
    refine qx_seq ?_
    refine sx_ret ?_
    refine qx_block_ret ?_
    refine qx_then_ret ?_
    refine qx_ret1 rfl rfl ?_
    exact ⟨rfl, .refl h Fr.refl⟩
  rw [if_neg (by omega)]
  by_cases h1 : p.st n = 1
  · rw [if_pos h1]
    refine sx_seq ?_
    refine sx_region ?_
    refine sxl_y (wn_none rfl) rfl rfl (yp rfl) ?_
    refine sxl_nil ?_
    refine qx_seq ?_
    refine sx_seq ?_
    refine sx_region ?_
    iterate 2 refine sxl_y (wn_none rfl) rfl rfl (yp rfl) ?_
    refine sxl_pure (wn_none rfl) rfl rfl (yc_call rfl rfl Tryd.call37) (hat) ?_
    iterate 5 refine sxl_y (wn_none rfl) rfl rfl (yp rfl) ?_
    refine sxl_nil ?_
    refine qx_seq ?_
    refine sx_seq ?_
    refine sx_block ?_
    refine sx_seq ?_
    refine sx_region ?_
    refine sxl_y (wn_none rfl) rfl rfl (yp rfl) ?_
    refine sxl_y (wn_none rfl) rfl rfl (y_neq_f rfl rfl rfl (by omega)) ?_
    refine sxl_y (wn_none rfl) rfl rfl (yp rfl) ?_
    refine sxl_nil ?_
    refine qx_seq ?_
    refine sx_false rfl ?_
    refine sx_seq ?_
    refine sx_region ?_
    refine sxl_y (wn_none rfl) rfl rfl (yp rfl) ?_
    refine sxl_y (wn_none rfl) rfl rfl (y_eql_f rfl rfl rfl (by omega)) ?_
    refine sxl_y (wn_none rfl) rfl rfl (yp rfl) ?_
    refine sxl_y (wn_on rfl rfl rfl) rfl rfl (yp rfl) ?_
    refine sxl_y (wn_on rfl rfl rfl) rfl rfl (y_eql_f rfl rfl rfl (by omega)) ?_
    iterate 2 refine sxl_y (wn_none rfl) rfl rfl (yp rfl) ?_
    refine sxl_nil ?_
    refine qx_seq ?_
    refine sx_false rfl ?_
    refine sx_seq ?_
    refine sx_region ?_
    refine sxl_y (wn_none rfl) rfl rfl (yp rfl) ?_
    refine sxl_y (wn_none rfl) rfl rfl (y_eql_t rfl rfl rfl (by omega)) ?_
    refine sxl_y (wn_none rfl) rfl rfl (yp rfl) ?_
    refine sxl_nil ?_
    refine qx_seq ?_
    refine sx_true rfl ?_
    refine sx_region ?_
    iterate 3 refine sxl_y (wn_none rfl) rfl rfl (yp rfl) ?_
    refine sxl_y (wn_none rfl) rfl rfl (y_load rfl rfl (sc rfl) (by assumption)) ?_
    refine sxl_y (wn_none rfl) rfl rfl (yp rfl) ?_
    refine sxl_does none (wn_none rfl) rfl rfl (fun ρ hρ => does_stt (k := n) (v := 4) rfl (hρ _ _ rfl) (hρ _ _ rfl) (hρ _ _ rfl) h.hm) ?_
    rintro _ w1 ⟨rfl, hf1, hm1⟩
    refine sxl_nil ?_
    refine qx_block_normal ?_
    refine qx_seq ?_
    refine sx_seq ?_
    refine sx_region ?_
    refine sxl_y (wn_none rfl) rfl rfl (yp rfl) ?_
    refine sxl_nil ?_
    refine qx_seq ?_
    refine sx_ret ?_
    refine qx_ret1 rfl rfl ?_
    exact ⟨rfl, .map h hf1 hm1⟩
  · rw [if_neg h1]
    refine sx_seq ?_
    refine sx_region ?_
    refine sxl_y (wn_none rfl) rfl rfl (yp rfl) ?_
    refine sxl_nil ?_
    refine qx_seq ?_
    refine sx_seq ?_
    refine sx_region ?_
    iterate 2 refine sxl_y (wn_none rfl) rfl rfl (yp rfl) ?_
    refine sxl_pure (wn_none rfl) rfl rfl (yc_call rfl rfl Tryd.call37) (hat) ?_
    iterate 5 refine sxl_y (wn_none rfl) rfl rfl (yp rfl) ?_
    refine sxl_nil ?_
    refine qx_seq ?_
    refine sx_seq ?_
    refine sx_block ?_
    refine sx_seq ?_
    refine sx_region ?_
    refine sxl_y (wn_none rfl) rfl rfl (yp rfl) ?_
    refine sxl_y (wn_none rfl) rfl rfl (y_neq_f rfl rfl rfl (by omega)) ?_
    refine sxl_y (wn_none rfl) rfl rfl (yp rfl) ?_
    refine sxl_nil ?_
    refine qx_seq ?_
    refine sx_false rfl ?_
    refine sx_seq ?_
    refine sx_region ?_
    refine sxl_y (wn_none rfl) rfl rfl (yp rfl) ?_
    refine sxl_y (wn_none rfl) rfl rfl (y_eql_f rfl rfl rfl (by omega)) ?_
    refine sxl_y (wn_none rfl) rfl rfl (yp rfl) ?_
    refine sxl_y (wn_on rfl rfl rfl) rfl rfl (yp rfl) ?_
    refine sxl_y (wn_on rfl rfl rfl) rfl rfl (y_eql_f rfl rfl rfl (by omega)) ?_
    iterate 2 refine sxl_y (wn_none rfl) rfl rfl (yp rfl) ?_
    refine sxl_nil ?_
    refine qx_seq ?_
    refine sx_false rfl ?_
    refine sx_seq ?_
    refine sx_region ?_
    refine sxl_y (wn_none rfl) rfl rfl (yp rfl) ?_
    refine sxl_y (wn_none rfl) rfl rfl (y_eql_f rfl rfl rfl (by omega)) ?_
    refine sxl_y (wn_none rfl) rfl rfl (yp rfl) ?_
    refine sxl_nil ?_
    refine qx_seq ?_
    refine sx_false rfl ?_
    refine sx_region ?_
    iterate 3 refine sxl_y (wn_none rfl) rfl rfl (yp rfl) ?_
    refine sxl_y (wn_none rfl) rfl rfl (y_load rfl rfl (sc rfl) (by assumption)) ?_
    refine sxl_y (wn_none rfl) rfl rfl (yp rfl) ?_
    refine sxl_does none (wn_none rfl) rfl rfl (fun ρ hρ => does_stt (k := n) (v := 0) rfl (hρ _ _ rfl) (hρ _ _ rfl) (hρ _ _ rfl) h.hm) ?_
    rintro _ w1 ⟨rfl, hf1, hm1⟩
    refine sxl_nil ?_
    refine qx_block_normal ?_
    refine qx_seq ?_
    refine sx_seq ?_
    refine sx_region ?_
    refine sxl_y (wn_none rfl) rfl rfl (yp rfl) ?_
    refine sxl_nil ?_
    refine qx_seq ?_
    refine sx_ret ?_
    refine qx_ret1 rfl rfl ?_
    exact ⟨rfl, .map h hf1 hm1⟩
end
end Go.Proofs.YthdlljlcffokbaaDoor
namespace Go.Proofs.YthdlljlcffokbaaDoor
open Go.RowKit

theorem turnOf_zero (took drop : Int) : turnOf took drop 0 = 0 := by simp [turnOf]
def iv (l : List Int) : List Value := l.map ik
theorem iv_len (l : List Int) : (iv l).length = l.length := List.length_map ..
theorem rd_int {w : World} {A : Option Addr} {l : List Int} (hr : Rd w A l.length (iv l)) {i : Nat} {n : Int} (hx : l[i]? = some n) : ∃ b off, A = some ⟨b, off, none⟩ ∧ Cell w.heap b (off + i * 1) (.int .i64 n) := by
  have hi := (List.getElem?_eq_some_iff.1 hx).1
  obtain ⟨b, off, e, hc⟩ := hr.2 (by omega)
  refine ⟨b, off, e, Cell.of ?_⟩
  rw [Nat.mul_one]
  exact hc i _ (by unfold iv; rw [List.getElem?_map, hx]; rfl)
section
variable {w : World} {Q : PL} {p : PS} {s : DS}
set_option maxHeartbeats 4000000 in
theorem turn_ok (took drop : Int) (h : PgAt w Q p s) : Calls Tryd.prog 40 #[.pointer (some ⟨Q.gp, 0, none⟩), .int .i64 took, .int .i64 drop] w fun e w' => e = .returned (.tuple #[]) ∧ PgTo w w' Q Q { p with st := fun k => turnOf took drop (p.st k) } s := by
  have c4 := h.c4
  obtain ⟨f, hM, hs⟩ := h.hm
  have hlt := hM.lt
  refine sx_enter (vs := [_, _, _]) Tryd.func40 rfl Tryd.ntmps40 rfl ?_
  refine sx_seq ?_
  refine sx_region ?_
  iterate 3 refine sxl_y (wn_none rfl) rfl rfl (yp rfl) ?_
  refine sxl_y (wn_none rfl) rfl rfl (y_load rfl rfl (sc rfl) (by assumption)) ?_
  refine sxl_does (some 12) (wn_none rfl) rfl rfl (fun ρ hρ => does_rangeI rfl (hρ _ _ rfl) Tryd.underlying80 hM) ?_
  rintro _ w1 ⟨r, n, rfl, hr1, hr2, hR, hf1⟩
  have c4 := c4.fr hf1 (fun hh => hh)
  refine sxl_nil ?_
  refine qx_seq ?_
  refine sx_block ?_
  refine sx_loop (fun e wr m => ∃ (g : Int → Option Int) (todo : Int → Bool) (n' : Nat), e = [(12, .pointer (some ⟨r, 0, none⟩)), (2, .int .i64 drop), (1, .int .i64 took), (0, .pointer (some ⟨Q.gp, 0, none⟩))] ∧ MiR wr Q.gm r (fun k => (g k).map ik) todo n' ∧ (∀ k, g k = if todo k then f k else (f k).map (turnOf took drop)) ∧ Fr (fun b => b = Q.gm ∨ b = r) w1 wr ∧ m = n')
    ⟨f, _, n, rfl, hR, (fun k => by cases hk : f k <;> simp), Fr.refl, rfl⟩ ⟨rfl, rfl, rfl, rfl, trivial⟩ ?_
  rintro _ wr _ ⟨g, todo, n', rfl, hR, hg, hfr, rfl⟩
  have c4 : Cell wr.heap Q.gp 4 (.map (some Q.gm)) := c4.fr hfr (by have := h.ne; have := h.hd.lt; omega)
  refine sx_seq ?_
  refine sx_region ?_
  refine sxl_does (some 13) (wn_none rfl) rfl rfl (fun ρ hρ => does_nextI rfl (hρ _ _ rfl) hR) ?_
  rintro _ w2 (⟨rfl, rfl, h0, hall⟩ | ⟨k, u, n2, rfl, hk, htk, hn2, hR2, hC, hf2, hsz⟩)
  · refine sxl_y (wn_none rfl) rfl rfl (yp rfl) ?_
    refine sxl_nil ?_
    refine qx_seq ?_
    refine sx_seq ?_
    refine sx_false rfl ?_
    refine sx_exit ?_
    refine qx_then_exit ?_
    refine qx_then_exit ?_
    refine qx_block_hit ?_
    refine qx_ret0 (Or.inr rfl) rfl ?_
    have hf0 : Fr (fun b => b = Q.gm) w w2 := (Fr.of0 hf1).step hfr (fun b hb e => by
      rcases e with e | e
      · exact e
      · omega)
    refine ⟨rfl, .map h hf0 ⟨g, hR.mi, fun k => ?_⟩⟩
    show turnOf took drop (p.st k) = _
    rw [hs k, hg k, hall k]
    cases f k with
    | none => exact turnOf_zero _ _
    | some v => rfl
  · have hgk := hg k
    rw [htk] at hgk
    obtain ⟨x, hx, rfl⟩ : ∃ x, g k = some x ∧ ik x = u := by
      cases hgk' : g k with
      | none => rw [hgk'] at hk; cases hk
      | some x => rw [hgk'] at hk; injection hk with hk; exact ⟨x, rfl, hk⟩
    have hfx : f k = some x := by rw [← hx, hgk]; rfl
    have c4 : Cell w2.heap Q.gp 4 (.map (some Q.gm)) := c4.fr hf2 (by have := h.hd.lt; omega)
    have hfr2 : Fr (fun b => b = Q.gm ∨ b = r) w1 w2 := hfr.step hf2 (fun b _ e => .inr e)
    have hC' : MiC w2 r k (.int .i64 x) := hC
    have again : ∀ (w3 : World) (v : Int), turnOf took drop x = v → MiR w3 Q.gm r (upd (fun k => (g k).map ik) k (ik v)) (fun y => todo y && !decide (y = k)) n2 → Fr (fun b => b = Q.gm) w2 w3 →
        ∃ (g' : Int → Option Int) (todo' : Int → Bool) (n3 : Nat), [(12, Value.pointer (some ⟨r, 0, none⟩)), (2, .int .i64 drop), (1, .int .i64 took), (0, .pointer (some ⟨Q.gp, 0, none⟩))] = [(12, Value.pointer (some ⟨r, 0, none⟩)), (2, .int .i64 drop), (1, .int .i64 took), (0, .pointer (some ⟨Q.gp, 0, none⟩))] ∧ MiR w3 Q.gm r (fun k => (g' k).map ik) todo' n3 ∧ (∀ k, g' k = if todo' k then f k else (f k).map (turnOf took drop)) ∧ Fr (fun b => b = Q.gm ∨ b = r) w1 w3 ∧ n2 = n3 := by
      intro w3 v hv hR3 hf3
      refine ⟨fun y => if y = k then some v else g y, _, n2, rfl, by rw [← upd_map]; exact hR3, fun y => ?_, hfr2.step hf3 (fun b _ e => .inl e), rfl⟩
      by_cases hy : y = k
      · subst hy
        simp [hfx, hv]
      · simp [hy, hg y]
    have hsame : ∀ v, turnOf took drop x = x → v = x → MiR w2 Q.gm r (upd (fun k => (g k).map ik) k (ik v)) (fun y => todo y && !decide (y = k)) n2 := by
      rintro v _ rfl
      have : upd (fun k => (g k).map ik) k (ik v) = fun k => (g k).map ik := by
        rw [upd_map]
        funext y
        by_cases hy : y = k
        · subst hy; simp [hx]
        · simp [hy]
      rw [this]; exact hR2
    have hthere : (fun k => (g k).map ik) k ≠ none := by show (g k).map ik ≠ none; rw [hx]; intro e; cases e
    by_cases h2 : x = 2
    · refine sxl_y (wn_none rfl) rfl rfl (yp rfl) ?_
      refine sxl_nil ?_
      refine qx_seq ?_
      refine sx_seq ?_
      refine sx_true rfl ?_
      refine sx_skip ?_
      refine qx_seq ?_
      refine sx_block ?_
      refine sx_seq ?_
      refine sx_region ?_
      refine sxl_y (wn_none rfl) rfl rfl (y_entryI rfl rfl hC') ?_
      iterate 4 refine sxl_y (wn_none rfl) rfl rfl (yp rfl) ?_
      refine sxl_nil ?_
      refine qx_seq ?_
      refine sx_seq ?_
      refine sx_region ?_
      refine sxl_y (wn_none rfl) rfl rfl (yp rfl) ?_
      refine sxl_nil ?_
      refine qx_seq ?_
      refine sx_block ?_
      refine sx_seq ?_
      refine sx_seq ?_
      refine sx_region ?_
      refine sxl_y (wn_none rfl) rfl rfl (y_eql_t rfl rfl rfl (by omega)) ?_
      refine sxl_y (wn_none rfl) rfl rfl (yp rfl) ?_
      refine sxl_nil ?_
      refine qx_seq ?_
      refine sx_true rfl ?_
      refine sx_skip ?_
      refine qx_seq ?_
      refine sx_true rfl ?_
      refine sx_region ?_
      iterate 3 refine sxl_y (wn_none rfl) rfl rfl (yp rfl) ?_
      refine sxl_y (wn_none rfl) rfl rfl (y_load rfl rfl (sc rfl) (by assumption)) ?_
      iterate 2 refine sxl_y (wn_none rfl) rfl rfl (yp rfl) ?_
      refine sxl_does none (wn_none rfl) rfl rfl (fun ρ hρ => does_updR (v := .int .i64 took) rfl (hρ _ _ rfl) (hρ _ _ rfl) (hρ _ _ rfl) Tryd.underlying80 Tryd.underlying3 hR2 hthere) ?_
      rintro _ w3 ⟨rfl, hf3, hR3⟩
      refine sxl_nil ?_
      refine qx_block_normal ?_
      refine qx_block_normal ?_
      exact qx_again [(12, .pointer (some ⟨r, 0, none⟩)), (2, .int .i64 drop), (1, .int .i64 took), (0, .pointer (some ⟨Q.gp, 0, none⟩))] n2 (again w3 took (by simp [turnOf, h2]) hR3 hf3) hn2 ⟨rfl, rfl, rfl, rfl, trivial⟩
    by_cases h3 : x = 3
    · refine sxl_y (wn_none rfl) rfl rfl (yp rfl) ?_
      refine sxl_nil ?_
      refine qx_seq ?_
      refine sx_seq ?_
      refine sx_true rfl ?_
      refine sx_skip ?_
      refine qx_seq ?_
      refine sx_block ?_
      refine sx_seq ?_
      refine sx_region ?_
      refine sxl_y (wn_none rfl) rfl rfl (y_entryI rfl rfl hC') ?_
      iterate 4 refine sxl_y (wn_none rfl) rfl rfl (yp rfl) ?_
      refine sxl_nil ?_
      refine qx_seq ?_
      refine sx_seq ?_
      refine sx_region ?_
      refine sxl_y (wn_none rfl) rfl rfl (yp rfl) ?_
      refine sxl_nil ?_
      refine qx_seq ?_
      refine sx_block ?_
      refine sx_seq ?_
      refine sx_seq ?_
      refine sx_region ?_
      refine sxl_y (wn_none rfl) rfl rfl (y_eql_f rfl rfl rfl (by omega)) ?_
      refine sxl_y (wn_none rfl) rfl rfl (yp rfl) ?_
      refine sxl_nil ?_
      refine qx_seq ?_
      refine sx_false rfl ?_
      refine sx_region ?_
      refine sxl_y (wn_none rfl) rfl rfl (y_eql_t rfl rfl rfl (by omega)) ?_
      refine sxl_y (wn_none rfl) rfl rfl (yp rfl) ?_
      refine sxl_nil ?_
      refine qx_seq ?_
      refine sx_true rfl ?_
      refine sx_region ?_
      iterate 3 refine sxl_y (wn_none rfl) rfl rfl (yp rfl) ?_
      refine sxl_y (wn_none rfl) rfl rfl (y_load rfl rfl (sc rfl) (by assumption)) ?_
      iterate 2 refine sxl_y (wn_none rfl) rfl rfl (yp rfl) ?_
      refine sxl_does none (wn_none rfl) rfl rfl (fun ρ hρ => does_updR (v := .int .i64 took) rfl (hρ _ _ rfl) (hρ _ _ rfl) (hρ _ _ rfl) Tryd.underlying80 Tryd.underlying3 hR2 hthere) ?_
      rintro _ w3 ⟨rfl, hf3, hR3⟩
      refine sxl_nil ?_
      refine qx_block_normal ?_
      refine qx_block_normal ?_
      exact qx_again [(12, .pointer (some ⟨r, 0, none⟩)), (2, .int .i64 drop), (1, .int .i64 took), (0, .pointer (some ⟨Q.gp, 0, none⟩))] n2 (again w3 took (by simp [turnOf, h3]) hR3 hf3) hn2 ⟨rfl, rfl, rfl, rfl, trivial⟩
    by_cases h4 : x = 4
    · refine sxl_y (wn_none rfl) rfl rfl (yp rfl) ?_
      refine sxl_nil ?_
      refine qx_seq ?_
      refine sx_seq ?_
      refine sx_true rfl ?_
      refine sx_skip ?_
      refine qx_seq ?_
      refine sx_block ?_
      refine sx_seq ?_
      refine sx_region ?_
      refine sxl_y (wn_none rfl) rfl rfl (y_entryI rfl rfl hC') ?_
      iterate 4 refine sxl_y (wn_none rfl) rfl rfl (yp rfl) ?_
      refine sxl_nil ?_
      refine qx_seq ?_
      refine sx_seq ?_
      refine sx_region ?_
      refine sxl_y (wn_none rfl) rfl rfl (yp rfl) ?_
      refine sxl_nil ?_
      refine qx_seq ?_
      refine sx_block ?_
      refine sx_seq ?_
      refine sx_seq ?_
      refine sx_region ?_
      refine sxl_y (wn_none rfl) rfl rfl (y_eql_f rfl rfl rfl (by omega)) ?_
      refine sxl_y (wn_none rfl) rfl rfl (yp rfl) ?_
      refine sxl_nil ?_
      refine qx_seq ?_
      refine sx_false rfl ?_
      refine sx_region ?_
      refine sxl_y (wn_none rfl) rfl rfl (y_eql_f rfl rfl rfl (by omega)) ?_
      refine sxl_y (wn_none rfl) rfl rfl (yp rfl) ?_
      refine sxl_nil ?_
      refine qx_seq ?_
      refine sx_false rfl ?_
      refine sx_seq ?_
      refine sx_region ?_
      refine sxl_y (wn_none rfl) rfl rfl (y_eql_t rfl rfl rfl (by omega)) ?_
      refine sxl_y (wn_none rfl) rfl rfl (yp rfl) ?_
      refine sxl_nil ?_
      refine qx_seq ?_
      refine sx_true rfl ?_
      refine sx_region ?_
      iterate 3 refine sxl_y (wn_none rfl) rfl rfl (yp rfl) ?_
      refine sxl_y (wn_none rfl) rfl rfl (y_load rfl rfl (sc rfl) (by assumption)) ?_
      iterate 2 refine sxl_y (wn_none rfl) rfl rfl (yp rfl) ?_
      refine sxl_does none (wn_none rfl) rfl rfl (fun ρ hρ => does_updR (v := .int .i64 drop) rfl (hρ _ _ rfl) (hρ _ _ rfl) (hρ _ _ rfl) Tryd.underlying80 Tryd.underlying3 hR2 hthere) ?_
      rintro _ w3 ⟨rfl, hf3, hR3⟩
      refine sxl_nil ?_
      refine qx_block_normal ?_
      refine qx_block_normal ?_
      exact qx_again [(12, .pointer (some ⟨r, 0, none⟩)), (2, .int .i64 drop), (1, .int .i64 took), (0, .pointer (some ⟨Q.gp, 0, none⟩))] n2 (again w3 drop (by simp [turnOf, h4]) hR3 hf3) hn2 ⟨rfl, rfl, rfl, rfl, trivial⟩
    · refine sxl_y (wn_none rfl) rfl rfl (yp rfl) ?_
      refine sxl_nil ?_
      refine qx_seq ?_
      refine sx_seq ?_
      refine sx_true rfl ?_
      refine sx_skip ?_
      refine qx_seq ?_
      refine sx_block ?_
      refine sx_seq ?_
      refine sx_region ?_
      refine sxl_y (wn_none rfl) rfl rfl (y_entryI rfl rfl hC') ?_
      iterate 4 refine sxl_y (wn_none rfl) rfl rfl (yp rfl) ?_
      refine sxl_nil ?_
      refine qx_seq ?_
      refine sx_seq ?_
      refine sx_region ?_
      refine sxl_y (wn_none rfl) rfl rfl (yp rfl) ?_
      refine sxl_nil ?_
      refine qx_seq ?_
      refine sx_block ?_
      refine sx_seq ?_
      refine sx_seq ?_
      refine sx_region ?_
      refine sxl_y (wn_none rfl) rfl rfl (y_eql_f rfl rfl rfl (by omega)) ?_
      refine sxl_y (wn_none rfl) rfl rfl (yp rfl) ?_
      refine sxl_nil ?_
      refine qx_seq ?_
      refine sx_false rfl ?_
      refine sx_region ?_
      refine sxl_y (wn_none rfl) rfl rfl (y_eql_f rfl rfl rfl (by omega)) ?_
      refine sxl_y (wn_none rfl) rfl rfl (yp rfl) ?_
      refine sxl_nil ?_
      refine qx_seq ?_
      refine sx_false rfl ?_
      refine sx_seq ?_
      refine sx_region ?_
      refine sxl_y (wn_none rfl) rfl rfl (y_eql_f rfl rfl rfl (by omega)) ?_
      refine sxl_y (wn_none rfl) rfl rfl (yp rfl) ?_
      refine sxl_nil ?_
      refine qx_seq ?_
      refine sx_false rfl ?_
      refine sx_skip ?_
      refine qx_block_normal ?_
      refine qx_block_normal ?_
      have ht : turnOf took drop x = x := by unfold turnOf; rw [if_neg (by omega), if_neg h4]
      exact qx_again [(12, .pointer (some ⟨r, 0, none⟩)), (2, .int .i64 drop), (1, .int .i64 took), (0, .pointer (some ⟨Q.gp, 0, none⟩))] n2 (again w2 x ht (hsame x ht rfl) Fr.refl) hn2 ⟨rfl, rfl, rfl, rfl, trivial⟩
theorem abort_f (h : PgAt w Q p s) (hg : p.gone s = false) : Calls Tryd.prog 15 #[.pointer (some ⟨Q.gp, 0, none⟩)] w fun e w' => e = .returned (.int .i64 0) ∧ PgTo w w' Q Q { p with st := fun k => turnOf 0 1 (p.st k) } s := by
  refine sx_enter (vs := [_]) Tryd.func15 rfl Tryd.ntmps15 rfl ?_
  refine sx_seq ?_
  refine sx_region ?_
  refine sxl_y (wn_none rfl) rfl rfl (yp rfl) ?_
  refine sxl_nil ?_
  refine qx_seq ?_
  refine sx_seq ?_
  refine sx_seq ?_
  refine sx_region ?_
  refine sxl_y (wn_none rfl) rfl rfl (yp rfl) ?_
  refine sxl_pure (wn_none rfl) rfl rfl (yc_call rfl rfl Tryd.call38) (palive_f h hg) ?_
  refine sxl_y (wn_none rfl) rfl rfl (yp rfl) ?_
  refine sxl_nil ?_
  refine qx_seq ?_
  refine sx_seq ?_
  refine sx_region ?_
  refine sxl_y (wn_none rfl) rfl rfl (yp rfl) ?_
  refine sxl_y (wn_none rfl) rfl rfl (y_neq_f rfl rfl rfl (by omega)) ?_
  refine sxl_nil ?_
  refine qx_seq ?_
  refine sx_false rfl ?_
  refine sx_skip ?_
  refine qx_seq ?_
  refine sx_seq ?_
  refine sx_region ?_
  refine sxl_y (wn_none rfl) rfl rfl (yp rfl) ?_
  refine sxl_call (some 10) (by first | exact wn_none rfl | exact wn_on rfl rfl rfl) rfl rfl (yc_call rfl rfl Tryd.call40) (turn_ok 0 1 h) ?_
  rintro _ w1 ⟨rfl, h1⟩
  refine ⟨_, rfl, ?_⟩
  refine sxl_nil ?_
  refine qx_seq ?_
  refine sx_seq ?_
  refine sx_region ?_
  refine sxl_y (wn_none rfl) rfl rfl (yp rfl) ?_
  refine sxl_nil ?_
  refine qx_seq ?_
  refine sx_ret ?_
  refine qx_ret1 rfl rfl ?_
  exact ⟨rfl, h1⟩
end
end Go.Proofs.YthdlljlcffokbaaDoor
namespace Go.Proofs.YthdlljlcffokbaaDoor
open Go.RowKit

theorem pager_built (g gm n : Nat) (k : Int) : Tryd.prog.built 82 [(0, .pointer (some ⟨g, 0, none⟩)), (1, .int .i64 (n : Int)), (2, .int .i64 k), (4, .map (some gm))] = some (PS.cells ⟨n, k, 0, fun _ => 0, false⟩ g gm).toArray := by kernel_rfl
theorem int_info : (Tryd.prog.info? 3).map (fun i => (i.zero, i.size)) = some (some (.int .i64 0), 1) := by kernel_rfl
/-- A pager that is new on a disk that was there. -/
structure PgNew (w w' : World) (L : DL) (Q : PL) (p : PS) (s : DS) : Prop where
  pg : PgAt w' Q p s
  gd : Q.L.gd = L.gd
  fr : Fr L.blocks w w'
  bl : ∀ b, Q.blocks b → L.blocks b ∨ w.heap.size ≤ b
  kA : Q.L.kA = L.kA
theorem PgNew.then {w w1 w' : World} {L : DL} {Q Q' : PL} {p p' : PS} {s s' : DS} (h : PgNew w w1 L Q p s) (hgp : w.heap.size ≤ Q.gp) (hgm : w.heap.size ≤ Q.gm) (h' : PgTo w1 w' Q Q' p' s') : PgNew w w' L Q' p' s' where
  pg := h'.pg
  gd := h'.gd.trans h.gd
  fr := h.fr.step h'.fr (fun b hb hl => by
    rcases hl with rfl | rfl | hl
    · omega
    · omega
    · exact (h.bl b (.inr (.inr hl))).resolve_right (by omega))
  bl := fun b hb => by
    rcases h'.bl b hb with hb | hb
    · exact h.bl b hb
    · exact .inr (Nat.le_trans h.fr.size hb)
  kA := h'.kA.trans h.kA
theorem DkAt.keep_lt {w : World} {L : DL} {s : DS} (h : DkAt w L s) (hk : 0 < s.keep.length) : ∀ b off, L.kA = some ⟨b, off, none⟩ → b < w.heap.size := by
  rintro b off e
  obtain ⟨b', off', e', hc⟩ := h.hk.2 hk
  rw [e] at e'
  injection e' with e'; injection e' with e1 e2 _; subst e1; subst e2
  have hlen : 0 < (boolsV s.keep).length := by simpa [boolsV] using hk
  exact World.block_lt_of_cell? w _ (hc 0 _ (List.getElem?_eq_getElem hlen))
/-- A new pager's block and map. -/
theorem PgNew.mk0 {w w' : World} {L : DL} {s : DS} {p : PS} {gp gm : Nat} (h : DkAt w L s) (hf : Fr0 w w') (h1 : w.heap.size ≤ gp) (h2 : w.heap.size ≤ gm) (hb : Blk w' gp 82 (p.cells L.gd gm)) (hm : Stt w' gm p.st) : PgNew w w' L ⟨gp, gm, L⟩ p s where
  pg := ⟨h.fr0 hf, hb, hm, fun hk b off e => by have := h.keep_lt hk b off e; show b ≠ gp; omega⟩
  gd := rfl
  fr := Fr.of0 hf
  bl := by
    rintro b (hb | hb | hb)
    · exact .inr (by have hb : b = gp := hb; omega)
    · exact .inr (by have hb : b = gm := hb; omega)
    · exact .inl hb
  kA := rfl
def DS.fmt1 (s : DS) : DS := (s.wrPage 1 (pageOf 1 (metaB 0 0))).1
def DS.fmt2 (s : DS) : DS := (s.fmt1.wrPage 0 (pageOf 0 (metaB 1 0))).1
def DS.fmt (s : DS) : DS := s.fmt2.flushes.1
theorem DS.burnt_fset {s : DS} (h : s.fset = false) : s.burnt = s ∧ s.due = false := by
  unfold DS.burnt DS.due; rw [h]; exact ⟨rfl, rfl⟩
/-- Without a fuse all goes well. -/
theorem DS.wrUpto_safe (s : DS) (n : Nat) (b : List UInt8) (h : s.fset = false) : ∀ k, (s.wrUpto n b k).2 = true ∧ (s.wrUpto n b k).1.fset = false
  | 0 => ⟨rfl, h⟩
  | k + 1 => by
    obtain ⟨h1, h2⟩ := DS.wrUpto_safe s n b h k
    obtain ⟨e1, e2⟩ := DS.burnt_fset h2
    rw [DS.wrUpto, if_pos h1]
    rcases (s.wrUpto n b k).1.writes_res (n * 4 + k) (sec b k) with ⟨e, _, e'⟩ | ⟨_, e, _⟩
    · rw [e, e', e1]; exact ⟨rfl, h2⟩
    · rw [e2] at e; cases e
section
variable {w : World} {Q : PL} {p : PS} {s : DS}
set_option maxHeartbeats 8000000 in
theorem format_ok (L : DL) (h : DkAt w L s) (hd : s.dead = false) (hfs : s.fset = false) (hn : 12 ≤ s.lasts.length) (hw : s.waits.length ≤ 900000) (hdn : s.done ≤ 900000) :
    Calls Tryd.prog 8 #[.pointer (some ⟨L.gd, 0, none⟩)] w fun e w' => ∃ Q, e = .returned (.tuple #[.pointer (some ⟨Q.gp, 0, none⟩), .int .i64 0]) ∧ PgNew w w' L Q ⟨s.lasts.length / 4, 1, 0, fun _ => 0, false⟩ s.fmt := by
  have hle := h.wf.le
  refine sx_enter (vs := [_]) Tryd.func8 rfl Tryd.ntmps8 rfl ?_
  refine sx_seq ?_
  refine sx_region ?_
  iterate 2 refine sxl_y (wn_none rfl) rfl rfl (yp rfl) ?_
  refine sxl_nil ?_
  refine qx_seq ?_
  refine sx_seq ?_
  refine sx_region ?_
  refine sxl_y (wn_none rfl) rfl rfl (yp rfl) ?_
  refine sxl_pure (wn_none rfl) rfl rfl (yc_call rfl rfl Tryd.call31) (pagesOf_ok L h hd hn) ?_
  iterate 5 refine sxl_y (wn_none rfl) rfl rfl (yp rfl) ?_
  refine sxl_nil ?_
  refine qx_seq ?_
  refine sx_seq ?_
  refine sx_seq ?_
  refine sx_region ?_
  refine sxl_y (wn_none rfl) rfl rfl (yp rfl) ?_
  refine sxl_y (wn_none rfl) rfl rfl (y_neq_f rfl rfl rfl (by omega)) ?_
  refine sxl_nil ?_
  refine qx_seq ?_
  refine sx_false rfl ?_
  refine sx_skip ?_
  refine qx_seq ?_
  refine sx_seq ?_
  refine sx_region ?_
  iterate 2 refine sxl_y (wn_none rfl) rfl rfl (yp rfl) ?_
  refine sxl_does (some 21) (wn_none rfl) rfl rfl (fun ρ hρ => does_mapS rfl) ?_
  rintro _ w1 ⟨gm, rfl, hm1, hm2, hM, hf1⟩
  refine sxl_y (wn_none rfl) rfl rfl (y_build rfl rfl (pager_built L.gd gm (s.lasts.length / 4) 1)) ?_
  refine sxl_does (some 23) (wn_none rfl) rfl rfl (fun ρ hρ => does_box 82 (.tmp 22) rfl (PS.cells ⟨s.lasts.length / 4, 1, 0, fun _ => 0, false⟩ L.gd gm) (by rw [hρ _ _ rfl]; rfl)) ?_
  rintro _ w2 ⟨gp, rfl, hp1, hp2, hbp, hf2⟩
  have hz1 := hf1.size
  have hnew : PgNew w w2 L ⟨gp, gm, L⟩ ⟨s.lasts.length / 4, 1, 0, fun _ => 0, false⟩ s := .mk0 h (hf1.trans hf2) (by omega) hm1 hbp (hM.fr hf2 (fun hh => hh))
  refine sxl_y (wn_none rfl) rfl rfl (yp rfl) ?_
  refine sxl_nil ?_
  refine qx_seq ?_
  refine sx_seq ?_
  refine sx_seq ?_
  refine sx_region ?_
  refine sxl_does (some 24) (wn_none rfl) rfl rfl (fun ρ hρ => does_slice [.int .i64 1, .int .i64 0] (.int .i64 0) hρ rfl rfl rfl rfl Tryd.underlying55 int_info (by decide) (by decide) (by decide)) ?_
  rintro _ w3 ⟨gs, rfl, hs1, hs2, hbs, hf3⟩
  have hbs : Blk w3 gs 3 [.int .i64 1, .int .i64 0] := hbs
  have hz2 := hf2.size
  have hs3 : PgTo w2 w3 ⟨gp, gm, L⟩ ⟨gp, gm, L⟩ ⟨s.lasts.length / 4, 1, 0, fun _ => 0, false⟩ s := .refl hnew.pg hf3
  obtain ⟨ok1, fs1⟩ := DS.wrUpto_safe s 1 (pageOf 1 (metaB 0 0)) hfs 4
  obtain ⟨hd1, hw1, hdn1⟩ := s.wrUpto_ok 1 (pageOf 1 (metaB 0 0)) hd 4 ok1
  have hl1 := s.wrUpto_len 1 (pageOf 1 (metaB 0 0)) 4
  obtain ⟨ok2, fs2⟩ := DS.wrUpto_safe s.fmt1 0 (pageOf 0 (metaB 1 0)) fs1 4
  obtain ⟨hd2, hw2, hdn2⟩ := s.fmt1.wrUpto_ok 0 (pageOf 0 (metaB 1 0)) hd1 4 ok2
  have hdn1 : s.fmt1.done = s.done + 4 := hdn1
  have hdn2 : s.fmt2.done = s.fmt1.done + 4 := hdn2
  have hw1 : s.fmt1.waits.length = s.waits.length + 4 := hw1
  have hl1 : s.fmt1.lasts.length = s.lasts.length := hl1
  have ok1 : (s.wrPage 1 (pageOf 1 (metaB 0 0))).2 = true := ok1
  have ok2 : (s.fmt1.wrPage 0 (pageOf 0 (metaB 1 0))).2 = true := ok2
  refine sxl_y (wn_none rfl) rfl rfl (y_len rfl rfl (sl rfl)) ?_
  refine sxl_y (wn_none rfl) rfl rfl (yp rfl) ?_
  refine sxl_nil ?_
  refine qx_seq ?_
  refine sx_block ?_
  refine sx_loop (fun e wr m => ∃ (j : Nat) (Qj : PL), e = [(26, .int .i64 (j : Int)), (25, .int .i64 2), (24, .slice (some ⟨gs, 0, none⟩) 2 2), (6, .pointer (some ⟨gp, 0, none⟩))] ∧ j ≤ 2 ∧ PgTo w3 wr ⟨gp, gm, L⟩ Qj ⟨s.lasts.length / 4, 1, 0, fun _ => 0, false⟩ (if j = 0 then s else if j = 1 then s.fmt1 else s.fmt2) ∧ Blk wr gs 3 [.int .i64 1, .int .i64 0] ∧ m = 2 - j)
    ⟨0, _, rfl, Nat.zero_le _, .refl hs3.pg Fr.refl, hbs, rfl⟩ ⟨rfl, rfl, rfl, rfl, trivial⟩ ?_
  rintro _ wr _ ⟨j, Qj, rfl, hj, hto, hbs, rfl⟩
  have hgs : ¬ Qj.blocks gs := fun hb => by
    rcases hto.bl gs hb with hb | hb
    · have := hnew.pg.lt hb; omega
    · omega
  have hgp : Qj.gp = gp := hto.gp
  have ep : ∀ ok : Bool, ok = true → (⟨s.lasts.length / 4, 1, 0, fun _ => 0, false || !ok⟩ : PS) = ⟨s.lasts.length / 4, 1, 0, fun _ => 0, false⟩ := by rintro ok rfl; rfl
  by_cases hj0 : j = 0
  · subst hj0
    have hpg : PgAt wr Qj ⟨s.lasts.length / 4, 1, 0, fun _ => 0, false⟩ s := hto.pg
    have ce : Cell wr.heap gs (0 + 0 * 1) (.int .i64 1) := hbs.c 0 rfl
    have hput := put_ok hpg hd 1 0 0 (by omega) (by omega) (by omega)
    rw [hgp, ok1, if_pos rfl] at hput
    refine sx_seq ?_
    refine sx_region ?_
    refine sxl_y (wn_none rfl) rfl rfl (y_lss_t rfl rfl rfl (by omega)) ?_
    refine sxl_nil ?_
    refine qx_seq ?_
    refine sx_seq ?_
    refine sx_true rfl ?_
    refine sx_skip ?_
    refine qx_seq ?_
    refine sx_seq ?_
    refine sx_block ?_
    refine sx_seq ?_
    refine sx_region ?_
    refine sxl_y (wn_none rfl) rfl rfl (y_indexN rfl rfl rfl (sl rfl) (by omega)) ?_
    refine sxl_y (wn_none rfl) rfl rfl (y_load rfl rfl (sc rfl) (by assumption)) ?_
    refine sxl_y (wn_none rfl) rfl rfl (yp rfl) ?_
    refine sxl_nil ?_
    refine qx_seq ?_
    refine sx_seq ?_
    refine sx_region ?_
    iterate 3 refine sxl_y (wn_none rfl) rfl rfl (yp rfl) ?_
    refine sxl_y (wn_none rfl) rfl rfl (y_sub rfl rfl rfl (by omega)) ?_
    refine sxl_call (some 34) (by first | exact wn_none rfl | exact wn_on rfl rfl rfl) rfl rfl (yc_call rfl rfl Tryd.call32) (hput) ?_
    rintro _ w4 ⟨Q', rfl, hto4⟩
    refine ⟨_, rfl, ?_⟩
    refine sxl_y (wn_none rfl) rfl rfl (yp rfl) ?_
    refine sxl_nil ?_
    refine qx_seq ?_
    refine sx_seq ?_
    refine sx_region ?_
    refine sxl_y (wn_none rfl) rfl rfl (yp rfl) ?_
    refine sxl_y (wn_none rfl) rfl rfl (y_neq_f rfl rfl rfl (by omega)) ?_
    refine sxl_nil ?_
    refine qx_seq ?_
    refine sx_false rfl ?_
    refine sx_skip ?_
    refine qx_block_normal ?_
    refine qx_seq ?_
    refine sx_region ?_
    refine sxl_y (wn_none rfl) rfl rfl (y_add rfl rfl rfl (by omega)) ?_
    refine sxl_y (wn_none rfl) rfl rfl (yp rfl) ?_
    refine sxl_nil ?_
    rw [ep _ rfl] at hto4
    exact qx_again [(26, .int .i64 ((1 : Nat) : Int)), (25, .int .i64 2), (24, .slice (some ⟨gs, 0, none⟩) 2 2), (6, .pointer (some ⟨gp, 0, none⟩))] 1 ⟨1, Q', rfl, by omega, hto.trans hto4, hbs.fr hto4.fr hgs, rfl⟩ (by omega) ⟨rfl, rfl, rfl, rfl, trivial⟩
  by_cases hj1 : j = 1
  · subst hj1
    have hpg : PgAt wr Qj ⟨s.lasts.length / 4, 1, 0, fun _ => 0, false⟩ s.fmt1 := hto.pg
    have ce : Cell wr.heap gs (0 + 1 * 1) (.int .i64 0) := hbs.c 1 rfl
    have hput := put_ok hpg hd1 0 1 0 (by omega) (by omega) (by omega)
    rw [hgp, ok2, if_pos rfl] at hput
    refine sx_seq ?_
    refine sx_region ?_
    refine sxl_y (wn_none rfl) rfl rfl (y_lss_t rfl rfl rfl (by omega)) ?_
    refine sxl_nil ?_
    refine qx_seq ?_
    refine sx_seq ?_
    refine sx_true rfl ?_
    refine sx_skip ?_
    refine qx_seq ?_
    refine sx_seq ?_
    refine sx_block ?_
    refine sx_seq ?_
    refine sx_region ?_
    refine sxl_y (wn_none rfl) rfl rfl (y_indexN rfl rfl rfl (sl rfl) (by omega)) ?_
    refine sxl_y (wn_none rfl) rfl rfl (y_load rfl rfl (sc rfl) (by assumption)) ?_
    refine sxl_y (wn_none rfl) rfl rfl (yp rfl) ?_
    refine sxl_nil ?_
    refine qx_seq ?_
    refine sx_seq ?_
    refine sx_region ?_
    iterate 3 refine sxl_y (wn_none rfl) rfl rfl (yp rfl) ?_
    refine sxl_y (wn_none rfl) rfl rfl (y_sub rfl rfl rfl (by omega)) ?_
    refine sxl_call (some 34) (by first | exact wn_none rfl | exact wn_on rfl rfl rfl) rfl rfl (yc_call rfl rfl Tryd.call32) (hput) ?_
    rintro _ w4 ⟨Q', rfl, hto4⟩
    refine ⟨_, rfl, ?_⟩
    refine sxl_y (wn_none rfl) rfl rfl (yp rfl) ?_
    refine sxl_nil ?_
    refine qx_seq ?_
    refine sx_seq ?_
    refine sx_region ?_
    refine sxl_y (wn_none rfl) rfl rfl (yp rfl) ?_
    refine sxl_y (wn_none rfl) rfl rfl (y_neq_f rfl rfl rfl (by omega)) ?_
    refine sxl_nil ?_
    refine qx_seq ?_
    refine sx_false rfl ?_
    refine sx_skip ?_
    refine qx_block_normal ?_
    refine qx_seq ?_
    refine sx_region ?_
    refine sxl_y (wn_none rfl) rfl rfl (y_add rfl rfl rfl (by omega)) ?_
    refine sxl_y (wn_none rfl) rfl rfl (yp rfl) ?_
    refine sxl_nil ?_
    rw [ep _ rfl] at hto4
    exact qx_again [(26, .int .i64 ((2 : Nat) : Int)), (25, .int .i64 2), (24, .slice (some ⟨gs, 0, none⟩) 2 2), (6, .pointer (some ⟨gp, 0, none⟩))] 0 ⟨2, Q', rfl, by omega, hto.trans hto4, hbs.fr hto4.fr hgs, rfl⟩ (by omega) ⟨rfl, rfl, rfl, rfl, trivial⟩
  have hj2 : j = 2 := by omega
  subst hj2
  have hpg : PgAt wr Qj ⟨s.lasts.length / 4, 1, 0, fun _ => 0, false⟩ s.fmt2 := hto.pg
  have fs2 : s.fmt2.fset = false := fs2
  have hfl := pflush_ok hpg hd2 (by omega)
  have hfl0 : s.fmt2.flushes.2 = 0 := by unfold DS.flushes; rw [if_neg (by rw [(DS.burnt_fset fs2).2]; decide)]
  rw [hgp, hfl0] at hfl
  refine sx_seq ?_
  refine sx_region ?_
  refine sxl_y (wn_none rfl) rfl rfl (y_lss_f rfl rfl rfl (by omega)) ?_
  refine sxl_nil ?_
  refine qx_seq ?_
  refine sx_seq ?_
  refine sx_false rfl ?_
  refine sx_exit ?_
  refine qx_then_exit ?_
  refine qx_then_exit ?_
  refine qx_block_hit ?_
  refine qx_seq ?_
  refine sx_seq ?_
  refine sx_seq ?_
  refine sx_region ?_
  refine sxl_y (wn_none rfl) rfl rfl (yp rfl) ?_
  refine sxl_call (some 40) (by first | exact wn_none rfl | exact wn_on rfl rfl rfl) rfl rfl (yc_call rfl rfl Tryd.call33) (hfl) ?_
  rintro _ w5 ⟨Q5, rfl, hto5⟩
  refine ⟨_, rfl, ?_⟩
  have hgp5 : Q5.gp = gp := hto5.gp.trans hgp
  refine sxl_y (wn_none rfl) rfl rfl (yp rfl) ?_
  refine sxl_nil ?_
  refine qx_seq ?_
  refine sx_seq ?_
  refine sx_region ?_
  refine sxl_y (wn_none rfl) rfl rfl (yp rfl) ?_
  refine sxl_y (wn_none rfl) rfl rfl (y_neq_f rfl rfl rfl (by omega)) ?_
  refine sxl_nil ?_
  refine qx_seq ?_
  refine sx_false rfl ?_
  refine sx_skip ?_
  refine qx_seq ?_
  refine sx_seq ?_
  refine sx_region ?_
  iterate 3 refine sxl_y (wn_none rfl) rfl rfl (yp rfl) ?_
  refine sxl_nil ?_
  refine qx_seq ?_
  refine sx_ret ?_
  refine qx_ret2 rfl rfl rfl ?_
  exact ⟨Q5, by rw [hgp5], hnew.then (by show _ ≤ gp; omega) hm1 ((hs3.trans hto).trans hto5)⟩
end
end Go.Proofs.YthdlljlcffokbaaDoor
namespace Go.Proofs.YthdlljlcffokbaaDoor
open Go.RowKit

/-- What may be committed as a root. -/
def PS.rootChk (p : PS) (s : DS) (root : Nat) : Int := if root = 0 then 0 else if (p.at_ s root).2 ≠ 0 then (p.at_ s root).2 else if p.st root ≠ 1 ∧ p.st root ≠ 3 then 250 else 0
/-- What a commit does to the disk. -/
def DS.commit (s : DS) (n : Nat) (page : List UInt8) : DS × Bool :=
  if s.flushes.2 ≠ 0 then (s.flushes.1, false) else if (s.flushes.1.wrPage n page).2 then ((s.flushes.1.wrPage n page).1.flushes.1, decide ((s.flushes.1.wrPage n page).1.flushes.2 = 0)) else ((s.flushes.1.wrPage n page).1, false)
def PS.wrChk (p : PS) (s : DS) (n : Int) (len : Nat) : Int := if (p.at_ s n).2 ≠ 0 then (p.at_ s n).2 else if 502 < len then 1 else if p.st n ≠ 2 ∧ p.st n ≠ 3 then 250 else 0
theorem DS.flushes_res (s : DS) : (s.flushes.2 = 0 ∧ s.due = false ∧ s.flushes.1 = s.burnt.flush) ∨ (s.flushes.2 = 20 ∧ s.due = true ∧ s.flushes.1 = s.crash s.keep s.torn s.cut) := by
  unfold DS.flushes
  cases h : s.due
  · exact .inl ⟨rfl, rfl, rfl⟩
  · exact .inr ⟨rfl, rfl, rfl⟩
theorem DS.flush_facts {s : DS} (h : s.flushes.2 = 0) : s.flushes.1.dead = s.dead ∧ s.flushes.1.waits = [] ∧ s.flushes.1.done = s.done + 1 ∧ s.flushes.1.lasts.length = s.lasts.length := by
  rcases s.flushes_res with ⟨_, _, e⟩ | ⟨e, _, _⟩
  · rw [e]
    obtain ⟨e1, _, e3, e4, e5, _⟩ := s.burnt_eq
    refine ⟨e5, rfl, ?_, ?_⟩
    · show s.burnt.done + 1 = _; rw [e4]
    · show (flushAll s.burnt.waits s.burnt.lasts).length = _
      rw [flushAll_length, e1]
  · rw [e] at h; cases h
section
variable {w : World} {Q : PL} {p : PS} {s : DS}
set_option maxHeartbeats 4000000 in
theorem pWrite_no (h : PgAt w Q p s) (n : Int) (A : Option Addr) (len cap : Nat) (hlen : len ≤ 1000000) (hc : p.wrChk s n len ≠ 0) :
    Calls Tryd.prog 14 #[.pointer (some ⟨Q.gp, 0, none⟩), .int .i64 n, .slice A len cap] w fun e w' => e = .returned (.int .i64 (p.wrChk s n len)) ∧ w = w' := by
  have hat := at_any h n
  unfold PS.wrChk at hc ⊢
  by_cases ha : (p.at_ s n).2 = 0
  case neg =>
    rw [if_pos ha]
    refine sx_enter (vs := [_, _, _]) Tryd.func14 rfl Tryd.ntmps14 rfl ?_
    refine sx_seq ?_
    refine sx_region ?_
    refine sxl_y (wn_none rfl) rfl rfl (yp rfl) ?_
    refine sxl_nil ?_
    refine qx_seq ?_
    refine sx_seq ?_
    refine sx_region ?_
    iterate 2 refine sxl_y (wn_none rfl) rfl rfl (yp rfl) ?_
    refine sxl_pure (wn_none rfl) rfl rfl (yc_call rfl rfl Tryd.call37) (hat) ?_
    iterate 5 refine sxl_y (wn_none rfl) rfl rfl (yp rfl) ?_
    refine sxl_nil ?_
    refine qx_seq ?_
    refine sx_seq ?_
    refine sx_block ?_
    refine sx_seq ?_
    refine sx_region ?_
    refine sxl_y (wn_none rfl) rfl rfl (yp rfl) ?_
    refine sxl_y (wn_none rfl) rfl rfl (y_neq_t rfl rfl rfl (by omega)) ?_
    refine sxl_y (wn_none rfl) rfl rfl (yp rfl) ?_
    refine sxl_nil ?_
    refine qx_seq ?_
    refine sx_true rfl ?_
    refine sx_seq ?_
    refine sx_region ?_
    iterate 2 refine sxl_y (wn_none rfl) rfl rfl (yp rfl) ?_
    refine sxl_nil ?_
    refine qx_seq ?_
    refine sx_ret ?_
    refine qx_block_ret ?_
    refine qx_then_ret ?_
    refine qx_ret1 rfl rfl ?_
    exact ⟨rfl, rfl⟩
  obtain ⟨ea, _⟩ := at_ok ha
  rw [ea] at hat
  rw [if_neg (fun e => e ha)] at hc ⊢
  by_cases hl : 502 < len
  · rw [if_pos hl]
    refine sx_enter (vs := [_, _, _]) Tryd.func14 rfl Tryd.ntmps14 rfl ?_
    refine sx_seq ?_
    refine sx_region ?_
    refine sxl_y (wn_none rfl) rfl rfl (yp rfl) ?_
    refine sxl_nil ?_
    refine qx_seq ?_
    refine sx_seq ?_
    refine sx_region ?_
    iterate 2 refine sxl_y (wn_none rfl) rfl rfl (yp rfl) ?_
    refine sxl_pure (wn_none rfl) rfl rfl (yc_call rfl rfl Tryd.call37) (hat) ?_
    iterate 5 refine sxl_y (wn_none rfl) rfl rfl (yp rfl) ?_
    refine sxl_nil ?_
    refine qx_seq ?_
    refine sx_seq ?_
    refine sx_block ?_
    refine sx_seq ?_
    refine sx_region ?_
    refine sxl_y (wn_none rfl) rfl rfl (yp rfl) ?_
    refine sxl_y (wn_none rfl) rfl rfl (y_neq_f rfl rfl rfl (by omega)) ?_
    refine sxl_y (wn_none rfl) rfl rfl (yp rfl) ?_
    refine sxl_nil ?_
    refine qx_seq ?_
    refine sx_false rfl ?_
    refine sx_seq ?_
    refine sx_region ?_
    refine sxl_y (wn_none rfl) rfl rfl (yp rfl) ?_
    refine sxl_y (wn_none rfl) rfl rfl (y_len rfl rfl (sl rfl)) ?_
    refine sxl_y (wn_none rfl) rfl rfl (y_gtr_t rfl rfl rfl (by omega)) ?_
    refine sxl_y (wn_none rfl) rfl rfl (yp rfl) ?_
    refine sxl_nil ?_
    refine qx_seq ?_
    refine sx_true rfl ?_
    refine sx_seq ?_
    refine sx_region ?_
    refine sxl_y (wn_none rfl) rfl rfl (yp rfl) ?_
    refine sxl_nil ?_
    refine qx_seq ?_
    refine sx_ret ?_
    refine qx_block_ret ?_
    refine qx_then_ret ?_
    refine qx_ret1 rfl rfl ?_
    exact ⟨rfl, rfl⟩
  rw [if_neg hl] at hc ⊢
  by_cases hs : p.st n ≠ 2 ∧ p.st n ≠ 3
  · obtain ⟨h2, h3⟩ := hs
    rw [if_pos ⟨h2, h3⟩]
    refine sx_enter (vs := [_, _, _]) Tryd.func14 rfl Tryd.ntmps14 rfl ?_
    refine sx_seq ?_
    refine sx_region ?_
    refine sxl_y (wn_none rfl) rfl rfl (yp rfl) ?_
    refine sxl_nil ?_
    refine qx_seq ?_
    refine sx_seq ?_
    refine sx_region ?_
    iterate 2 refine sxl_y (wn_none rfl) rfl rfl (yp rfl) ?_
    refine sxl_pure (wn_none rfl) rfl rfl (yc_call rfl rfl Tryd.call37) (hat) ?_
    iterate 5 refine sxl_y (wn_none rfl) rfl rfl (yp rfl) ?_
    refine sxl_nil ?_
    refine qx_seq ?_
    refine sx_seq ?_
    refine sx_block ?_
    refine sx_seq ?_
    refine sx_region ?_
    refine sxl_y (wn_none rfl) rfl rfl (yp rfl) ?_
    refine sxl_y (wn_none rfl) rfl rfl (y_neq_f rfl rfl rfl (by omega)) ?_
    refine sxl_y (wn_none rfl) rfl rfl (yp rfl) ?_
    refine sxl_nil ?_
    refine qx_seq ?_
    refine sx_false rfl ?_
    refine sx_seq ?_
    refine sx_region ?_
    refine sxl_y (wn_none rfl) rfl rfl (yp rfl) ?_
    refine sxl_y (wn_none rfl) rfl rfl (y_len rfl rfl (sl rfl)) ?_
    refine sxl_y (wn_none rfl) rfl rfl (y_gtr_f rfl rfl rfl (by omega)) ?_
    refine sxl_y (wn_none rfl) rfl rfl (yp rfl) ?_
    refine sxl_nil ?_
    refine qx_seq ?_
    refine sx_false rfl ?_
    refine sx_seq ?_
    refine sx_region ?_
    refine sxl_y (wn_none rfl) rfl rfl (yp rfl) ?_
    refine sxl_y (wn_none rfl) rfl rfl (y_neq_t rfl rfl rfl (by omega)) ?_
    refine sxl_y (wn_none rfl) rfl rfl (yp rfl) ?_
    refine sxl_y (wn_on rfl rfl rfl) rfl rfl (yp rfl) ?_
    refine sxl_y (wn_on rfl rfl rfl) rfl rfl (y_neq_t rfl rfl rfl (by omega)) ?_
    iterate 2 refine sxl_y (wn_none rfl) rfl rfl (yp rfl) ?_
    refine sxl_nil ?_
    refine qx_seq ?_
    refine sx_true rfl ?_
    refine sx_seq ?_
    refine sx_region ?_
    refine sxl_y (wn_none rfl) rfl rfl (yp rfl) ?_
    refine sxl_nil ?_
    refine qx_seq ?_
    refine sx_ret ?_
    refine qx_block_ret ?_
    refine qx_then_ret ?_
    refine qx_ret1 rfl rfl ?_
    exact ⟨rfl, rfl⟩
  · rw [if_neg hs] at hc; exact absurd rfl hc
set_option maxHeartbeats 4000000 in
theorem pWrite_ok (h : PgAt w Q p s) (n : Nat) (A : Option Addr) (len cap : Nat) (l : List UInt8) (hc : p.wrChk s n len = 0) (hr : Rd w A len (bvs l)) (hpg : p.pages * 4 ≤ s.lasts.length) (hw : s.waits.length ≤ 1000000) (hdn : s.done ≤ 1000000) :
    Calls Tryd.prog 14 #[.pointer (some ⟨Q.gp, 0, none⟩), .int .i64 (n : Int), .slice A len cap] w fun e w' => ∃ Q', e = .returned (.int .i64 (if (s.wrPage n (pageOf n l)).2 then 0 else 20)) ∧ PgTo w w' Q Q' { p with st := updS p.st n 3, dead := p.dead || !(s.wrPage n (pageOf n l)).2 } (s.wrPage n (pageOf n l)).1 := by
  have c4 := h.c4
  have hat := at_any h n
  unfold PS.wrChk at hc
  have ha : (p.at_ s n).2 = 0 := by
    by_cases ha : (p.at_ s n).2 = 0
    · exact ha
    · rw [if_pos ha] at hc; exact hc
  obtain ⟨ea, hg, hn2, hn⟩ := at_ok ha
  rw [ea] at hat
  rw [if_neg (fun e => e ha)] at hc
  have hl : ¬ 502 < len := fun e => by rw [if_pos e] at hc; cases hc
  rw [if_neg hl] at hc
  have hst : p.st n = 2 ∨ p.st n = 3 := by
    by_cases h2 : p.st n = 2
    · exact .inl h2
    by_cases h3 : p.st n = 3
    · exact .inr h3
    · rw [if_pos ⟨h2, h3⟩] at hc; cases hc
  have hd : s.dead = false := by unfold PS.gone at hg; simp at hg; exact hg.2
  have hrest : ∀ w1, Fr (fun b => b = Q.gm) w w1 → Stt w1 Q.gm (updS p.st n 3) → Calls Tryd.prog 39 #[.pointer (some ⟨Q.gp, 0, none⟩), .int .i64 (n : Int), .slice A len cap] w1 fun e w' => ∃ Q', e = .returned (.int .i64 (if (s.wrPage n (pageOf n l)).2 then 0 else 20)) ∧ PgTo w w' Q Q' { p with st := updS p.st n 3, dead := p.dead || !(s.wrPage n (pageOf n l)).2 } (s.wrPage n (pageOf n l)).1 := fun w1 hf1 hm1 => by
    have hp1 : PgTo w w1 Q Q { p with st := updS p.st n 3 } s := .map h hf1 hm1
    have hr1 : Rd w1 A len (bvs l) := hr.fr hf1 (fun hlt b off e e' => by
      subst e'
      obtain ⟨b', off', e1, hcell⟩ := hr.2 hlt
      rw [e] at e1; injection e1 with e1; injection e1 with e1 e2 _; subst e1; subst e2
      have h0 : 0 < (bvs l).length := by rw [hr.1]; exact hlt
      have := hcell 0 _ (List.getElem?_eq_getElem h0)
      obtain ⟨f, ⟨es, cl, hm, _⟩, _⟩ := h.hm
      simp [World.cell?, hm] at this)
    exact (pwrite_ok hp1.pg hd n A len cap l (by omega) (by omega) hr1 hw hdn).mono fun e w' ⟨Q', e1, h1⟩ => ⟨Q', e1, hp1.trans h1⟩
  rcases hst with h2 | h3
  · skip
    refine sx_enter (vs := [_, _, _]) Tryd.func14 rfl Tryd.ntmps14 rfl ?_
    refine sx_seq ?_
    refine sx_region ?_
    refine sxl_y (wn_none rfl) rfl rfl (yp rfl) ?_
    refine sxl_nil ?_
    refine qx_seq ?_
    refine sx_seq ?_
    refine sx_region ?_
    iterate 2 refine sxl_y (wn_none rfl) rfl rfl (yp rfl) ?_
    refine sxl_pure (wn_none rfl) rfl rfl (yc_call rfl rfl Tryd.call37) (hat) ?_
    iterate 5 refine sxl_y (wn_none rfl) rfl rfl (yp rfl) ?_
    refine sxl_nil ?_
    refine qx_seq ?_
    refine sx_seq ?_
    refine sx_block ?_
    refine sx_seq ?_
    refine sx_region ?_
    refine sxl_y (wn_none rfl) rfl rfl (yp rfl) ?_
    refine sxl_y (wn_none rfl) rfl rfl (y_neq_f rfl rfl rfl (by omega)) ?_
    refine sxl_y (wn_none rfl) rfl rfl (yp rfl) ?_
    refine sxl_nil ?_
    refine qx_seq ?_
    refine sx_false rfl ?_
    refine sx_seq ?_
    refine sx_region ?_
    refine sxl_y (wn_none rfl) rfl rfl (yp rfl) ?_
    refine sxl_y (wn_none rfl) rfl rfl (y_len rfl rfl (sl rfl)) ?_
    refine sxl_y (wn_none rfl) rfl rfl (y_gtr_f rfl rfl rfl (by omega)) ?_
    refine sxl_y (wn_none rfl) rfl rfl (yp rfl) ?_
    refine sxl_nil ?_
    refine qx_seq ?_
    refine sx_false rfl ?_
    refine sx_seq ?_
    refine sx_region ?_
    refine sxl_y (wn_none rfl) rfl rfl (yp rfl) ?_
    refine sxl_y (wn_none rfl) rfl rfl (y_neq_f rfl rfl rfl (by omega)) ?_
    refine sxl_y (wn_none rfl) rfl rfl (yp rfl) ?_
    refine sxl_off rfl rfl rfl rfl rfl rfl ?_
    refine sxl_off rfl rfl rfl rfl rfl rfl ?_
    iterate 2 refine sxl_y (wn_none rfl) rfl rfl (yp rfl) ?_
    refine sxl_nil ?_
    refine qx_seq ?_
    refine sx_false rfl ?_
    refine sx_skip ?_
    refine qx_block_normal ?_
    refine qx_seq ?_
    refine sx_seq ?_
    refine sx_region ?_
    iterate 3 refine sxl_y (wn_none rfl) rfl rfl (yp rfl) ?_
    refine sxl_y (wn_none rfl) rfl rfl (y_load rfl rfl (sc rfl) (by assumption)) ?_
    refine sxl_y (wn_none rfl) rfl rfl (yp rfl) ?_
    refine sxl_does none (wn_none rfl) rfl rfl (fun ρ hρ => does_stt (k := n) (v := 3) rfl (hρ _ _ rfl) (hρ _ _ rfl) (hρ _ _ rfl) h.hm) ?_
    rintro _ w1 ⟨rfl, hf1, hm1⟩
    refine sxl_nil ?_
    refine qx_seq ?_
    refine sx_seq ?_
    refine sx_region ?_
    iterate 3 refine sxl_y (wn_none rfl) rfl rfl (yp rfl) ?_
    refine sxl_call (some 38) (by first | exact wn_none rfl | exact wn_on rfl rfl rfl) rfl rfl (yc_call rfl rfl Tryd.call39) (hrest w1 hf1 hm1) ?_
    rintro _ w2 ⟨Q', rfl, hto⟩
    refine ⟨_, rfl, ?_⟩
    refine sxl_y (wn_none rfl) rfl rfl (yp rfl) ?_
    refine sxl_nil ?_
    refine qx_seq ?_
    refine sx_ret ?_
    refine qx_ret1 rfl rfl ?_
    exact ⟨Q', rfl, hto⟩
  · skip
    refine sx_enter (vs := [_, _, _]) Tryd.func14 rfl Tryd.ntmps14 rfl ?_
    refine sx_seq ?_
    refine sx_region ?_
    refine sxl_y (wn_none rfl) rfl rfl (yp rfl) ?_
    refine sxl_nil ?_
    refine qx_seq ?_
    refine sx_seq ?_
    refine sx_region ?_
    iterate 2 refine sxl_y (wn_none rfl) rfl rfl (yp rfl) ?_
    refine sxl_pure (wn_none rfl) rfl rfl (yc_call rfl rfl Tryd.call37) (hat) ?_
    iterate 5 refine sxl_y (wn_none rfl) rfl rfl (yp rfl) ?_
    refine sxl_nil ?_
    refine qx_seq ?_
    refine sx_seq ?_
    refine sx_block ?_
    refine sx_seq ?_
    refine sx_region ?_
    refine sxl_y (wn_none rfl) rfl rfl (yp rfl) ?_
    refine sxl_y (wn_none rfl) rfl rfl (y_neq_f rfl rfl rfl (by omega)) ?_
    refine sxl_y (wn_none rfl) rfl rfl (yp rfl) ?_
    refine sxl_nil ?_
    refine qx_seq ?_
    refine sx_false rfl ?_
    refine sx_seq ?_
    refine sx_region ?_
    refine sxl_y (wn_none rfl) rfl rfl (yp rfl) ?_
    refine sxl_y (wn_none rfl) rfl rfl (y_len rfl rfl (sl rfl)) ?_
    refine sxl_y (wn_none rfl) rfl rfl (y_gtr_f rfl rfl rfl (by omega)) ?_
    refine sxl_y (wn_none rfl) rfl rfl (yp rfl) ?_
    refine sxl_nil ?_
    refine qx_seq ?_
    refine sx_false rfl ?_
    refine sx_seq ?_
    refine sx_region ?_
    refine sxl_y (wn_none rfl) rfl rfl (yp rfl) ?_
    refine sxl_y (wn_none rfl) rfl rfl (y_neq_t rfl rfl rfl (by omega)) ?_
    refine sxl_y (wn_none rfl) rfl rfl (yp rfl) ?_
    refine sxl_y (wn_on rfl rfl rfl) rfl rfl (yp rfl) ?_
    refine sxl_y (wn_on rfl rfl rfl) rfl rfl (y_neq_f rfl rfl rfl (by omega)) ?_
    iterate 2 refine sxl_y (wn_none rfl) rfl rfl (yp rfl) ?_
    refine sxl_nil ?_
    refine qx_seq ?_
    refine sx_false rfl ?_
    refine sx_skip ?_
    refine qx_block_normal ?_
    refine qx_seq ?_
    refine sx_seq ?_
    refine sx_region ?_
    iterate 3 refine sxl_y (wn_none rfl) rfl rfl (yp rfl) ?_
    refine sxl_y (wn_none rfl) rfl rfl (y_load rfl rfl (sc rfl) (by assumption)) ?_
    refine sxl_y (wn_none rfl) rfl rfl (yp rfl) ?_
    refine sxl_does none (wn_none rfl) rfl rfl (fun ρ hρ => does_stt (k := n) (v := 3) rfl (hρ _ _ rfl) (hρ _ _ rfl) (hρ _ _ rfl) h.hm) ?_
    rintro _ w1 ⟨rfl, hf1, hm1⟩
    refine sxl_nil ?_
    refine qx_seq ?_
    refine sx_seq ?_
    refine sx_region ?_
    iterate 3 refine sxl_y (wn_none rfl) rfl rfl (yp rfl) ?_
    refine sxl_call (some 38) (by first | exact wn_none rfl | exact wn_on rfl rfl rfl) rfl rfl (yc_call rfl rfl Tryd.call39) (hrest w1 hf1 hm1) ?_
    rintro _ w2 ⟨Q', rfl, hto⟩
    refine ⟨_, rfl, ?_⟩
    refine sxl_y (wn_none rfl) rfl rfl (yp rfl) ?_
    refine sxl_nil ?_
    refine qx_seq ?_
    refine sx_ret ?_
    refine qx_ret1 rfl rfl ?_
    exact ⟨Q', rfl, hto⟩
set_option maxHeartbeats 4000000 in
theorem commit_no (h : PgAt w Q p s) (root : Int) (hg : p.gone s = false) (hr0 : root ≠ 0) (hc : (p.at_ s root).2 ≠ 0 ∨ (p.st root ≠ 1 ∧ p.st root ≠ 3)) : Calls Tryd.prog 16 #[.pointer (some ⟨Q.gp, 0, none⟩), .int .i64 root] w fun e w' => e = .returned (.int .i64 (if (p.at_ s root).2 ≠ 0 then (p.at_ s root).2 else 250)) ∧ w = w' := by
  have hat := at_any h root
  by_cases ha : (p.at_ s root).2 = 0
  case neg =>
    rw [if_pos ha]
    refine sx_enter (vs := [_, _]) Tryd.func16 rfl Tryd.ntmps16 rfl ?_
    refine sx_seq ?_
    refine sx_region ?_
    refine sxl_y (wn_none rfl) rfl rfl (yp rfl) ?_
    refine sxl_nil ?_
    refine qx_seq ?_
    refine sx_seq ?_
    refine sx_seq ?_
    refine sx_region ?_
    refine sxl_y (wn_none rfl) rfl rfl (yp rfl) ?_
    refine sxl_pure (wn_none rfl) rfl rfl (yc_call rfl rfl Tryd.call38) (palive_f h hg) ?_
    refine sxl_y (wn_none rfl) rfl rfl (yp rfl) ?_
    refine sxl_nil ?_
    refine qx_seq ?_
    refine sx_seq ?_
    refine sx_region ?_
    refine sxl_y (wn_none rfl) rfl rfl (yp rfl) ?_
    refine sxl_y (wn_none rfl) rfl rfl (y_neq_f rfl rfl rfl (by omega)) ?_
    refine sxl_nil ?_
    refine qx_seq ?_
    refine sx_false rfl ?_
    refine sx_skip ?_
    refine qx_seq ?_
    refine sx_seq ?_
    refine sx_seq ?_
    refine sx_region ?_
    refine sxl_y (wn_none rfl) rfl rfl (yp rfl) ?_
    refine sxl_y (wn_none rfl) rfl rfl (y_neq_t rfl rfl rfl (by omega)) ?_
    refine sxl_nil ?_
    refine qx_seq ?_
    refine sx_true rfl ?_
    refine sx_seq ?_
    refine sx_region ?_
    iterate 2 refine sxl_y (wn_none rfl) rfl rfl (yp rfl) ?_
    refine sxl_pure (wn_none rfl) rfl rfl (yc_call rfl rfl Tryd.call37) (hat) ?_
    iterate 5 refine sxl_y (wn_none rfl) rfl rfl (yp rfl) ?_
    refine sxl_nil ?_
    refine qx_seq ?_
    refine sx_block ?_
    refine sx_seq ?_
    refine sx_region ?_
    refine sxl_y (wn_none rfl) rfl rfl (yp rfl) ?_
    refine sxl_y (wn_none rfl) rfl rfl (y_neq_t rfl rfl rfl (by omega)) ?_
    refine sxl_y (wn_none rfl) rfl rfl (yp rfl) ?_
    refine sxl_nil ?_
    refine qx_seq ?_
    refine sx_true rfl ?_
    refine sx_seq ?_
    refine sx_region ?_
    iterate 2 refine sxl_y (wn_none rfl) rfl rfl (yp rfl) ?_
    refine sxl_nil ?_
    refine qx_seq ?_
    refine sx_ret ?_
    refine qx_block_ret ?_
    refine qx_then_ret ?_
    refine qx_ret1 rfl rfl ?_
    exact ⟨rfl, rfl⟩
  obtain ⟨ea, _⟩ := at_ok ha
  rw [if_neg (fun e => e ha)]
  obtain ⟨h1, h3⟩ := hc.resolve_left (fun e => e ha)
  rw [ea] at hat
  refine sx_enter (vs := [_, _]) Tryd.func16 rfl Tryd.ntmps16 rfl ?_
  refine sx_seq ?_
  refine sx_region ?_
  refine sxl_y (wn_none rfl) rfl rfl (yp rfl) ?_
  refine sxl_nil ?_
  refine qx_seq ?_
  refine sx_seq ?_
  refine sx_seq ?_
  refine sx_region ?_
  refine sxl_y (wn_none rfl) rfl rfl (yp rfl) ?_
  refine sxl_pure (wn_none rfl) rfl rfl (yc_call rfl rfl Tryd.call38) (palive_f h hg) ?_
  refine sxl_y (wn_none rfl) rfl rfl (yp rfl) ?_
  refine sxl_nil ?_
  refine qx_seq ?_
  refine sx_seq ?_
  refine sx_region ?_
  refine sxl_y (wn_none rfl) rfl rfl (yp rfl) ?_
  refine sxl_y (wn_none rfl) rfl rfl (y_neq_f rfl rfl rfl (by omega)) ?_
  refine sxl_nil ?_
  refine qx_seq ?_
  refine sx_false rfl ?_
  refine sx_skip ?_
  refine qx_seq ?_
  refine sx_seq ?_
  refine sx_seq ?_
  refine sx_region ?_
  refine sxl_y (wn_none rfl) rfl rfl (yp rfl) ?_
  refine sxl_y (wn_none rfl) rfl rfl (y_neq_t rfl rfl rfl (by omega)) ?_
  refine sxl_nil ?_
  refine qx_seq ?_
  refine sx_true rfl ?_
  refine sx_seq ?_
  refine sx_region ?_
  iterate 2 refine sxl_y (wn_none rfl) rfl rfl (yp rfl) ?_
  refine sxl_pure (wn_none rfl) rfl rfl (yc_call rfl rfl Tryd.call37) (hat) ?_
  iterate 5 refine sxl_y (wn_none rfl) rfl rfl (yp rfl) ?_
  refine sxl_nil ?_
  refine qx_seq ?_
  refine sx_block ?_
  refine sx_seq ?_
  refine sx_region ?_
  refine sxl_y (wn_none rfl) rfl rfl (yp rfl) ?_
  refine sxl_y (wn_none rfl) rfl rfl (y_neq_f rfl rfl rfl (by omega)) ?_
  refine sxl_y (wn_none rfl) rfl rfl (yp rfl) ?_
  refine sxl_nil ?_
  refine qx_seq ?_
  refine sx_false rfl ?_
  refine sx_seq ?_
  refine sx_region ?_
  refine sxl_y (wn_none rfl) rfl rfl (yp rfl) ?_
  refine sxl_y (wn_none rfl) rfl rfl (y_neq_t rfl rfl rfl (by omega)) ?_
  refine sxl_y (wn_none rfl) rfl rfl (yp rfl) ?_
  refine sxl_y (wn_on rfl rfl rfl) rfl rfl (yp rfl) ?_
  refine sxl_y (wn_on rfl rfl rfl) rfl rfl (y_neq_t rfl rfl rfl (by omega)) ?_
  iterate 2 refine sxl_y (wn_none rfl) rfl rfl (yp rfl) ?_
  refine sxl_nil ?_
  refine qx_seq ?_
  refine sx_true rfl ?_
  refine sx_seq ?_
  refine sx_region ?_
  refine sxl_y (wn_none rfl) rfl rfl (yp rfl) ?_
  refine sxl_nil ?_
  refine qx_seq ?_
  refine sx_ret ?_
  refine qx_block_ret ?_
  refine qx_then_ret ?_
  refine qx_ret1 rfl rfl ?_
  exact ⟨rfl, rfl⟩
/-- What a commit leaves of the pager. -/
def PS.commit (p : PS) (root : Nat) : PS := { p with seq := p.seq + 1, root := root, st := fun k => turnOf 1 0 (p.st k) }
set_option maxHeartbeats 16000000 in
theorem commit_ok (h : PgAt w Q p s) (q root : Nat) (hg : p.gone s = false) (hq : p.seq = q) (hq2 : q ≤ 1000000) (hc : root = 0 ∨ ((p.at_ s root).2 = 0 ∧ (p.st root = 1 ∨ p.st root = 3))) (hpg : p.pages * 4 ≤ s.lasts.length) (hp3 : 3 ≤ p.pages) (hdn : s.done ≤ 900000) :
    Calls Tryd.prog 16 #[.pointer (some ⟨Q.gp, 0, none⟩), .int .i64 (root : Int)] w fun e w' => ∃ Q', e = .returned (.int .i64 (if (s.commit ((q + 1) % 2) (pageOf ((q + 1) % 2) (metaB (q + 1) root))).2 then 0 else 20)) ∧
      PgTo w w' Q Q' (if (s.commit ((q + 1) % 2) (pageOf ((q + 1) % 2) (metaB (q + 1) root))).2 then p.commit root else { p with dead := true }) (s.commit ((q + 1) % 2) (pageOf ((q + 1) % 2) (metaB (q + 1) root))).1 := by
  have hd : s.dead = false := by unfold PS.gone at hg; simp at hg; exact hg.2
  have hpd : p.dead = false := by unfold PS.gone at hg; simp at hg; exact hg.1
  rcases hc with h0 | ⟨ha, hst⟩
  · skip
    refine sx_enter (vs := [_, _]) Tryd.func16 rfl Tryd.ntmps16 rfl ?_
    refine sx_seq ?_
    refine sx_region ?_
    refine sxl_y (wn_none rfl) rfl rfl (yp rfl) ?_
    refine sxl_nil ?_
    refine qx_seq ?_
    refine sx_seq ?_
    refine sx_seq ?_
    refine sx_region ?_
    refine sxl_y (wn_none rfl) rfl rfl (yp rfl) ?_
    refine sxl_pure (wn_none rfl) rfl rfl (yc_call rfl rfl Tryd.call38) (palive_f h hg) ?_
    refine sxl_y (wn_none rfl) rfl rfl (yp rfl) ?_
    refine sxl_nil ?_
    refine qx_seq ?_
    refine sx_seq ?_
    refine sx_region ?_
    refine sxl_y (wn_none rfl) rfl rfl (yp rfl) ?_
    refine sxl_y (wn_none rfl) rfl rfl (y_neq_f rfl rfl rfl (by omega)) ?_
    refine sxl_nil ?_
    refine qx_seq ?_
    refine sx_false rfl ?_
    refine sx_skip ?_
    refine qx_seq ?_
    refine sx_seq ?_
    refine sx_seq ?_
    refine sx_region ?_
    refine sxl_y (wn_none rfl) rfl rfl (yp rfl) ?_
    refine sxl_y (wn_none rfl) rfl rfl (y_neq_f rfl rfl rfl (by omega)) ?_
    refine sxl_nil ?_
    refine qx_seq ?_
    refine sx_false rfl ?_
    refine sx_skip ?_
    refine qx_seq ?_
    refine sx_seq ?_
    refine sx_seq ?_
    refine sx_region ?_
    refine sxl_y (wn_none rfl) rfl rfl (yp rfl) ?_
    refine sxl_call (some 36) (by first | exact wn_none rfl | exact wn_on rfl rfl rfl) rfl rfl (yc_call rfl rfl Tryd.call33) (pflush_ok h hd (by omega)) ?_
    rintro _ w1 ⟨Q1, rfl, hto1⟩
    refine ⟨_, rfl, ?_⟩
    rcases s.flushes_res with ⟨f0, _, _⟩ | ⟨f0, _, _⟩
    case inr =>
      have hres : s.commit ((q + 1) % 2) (pageOf ((q + 1) % 2) (metaB (q + 1) root)) = (s.flushes.1, false) := by unfold DS.commit; rw [if_pos (by rw [f0]; decide)]
      rw [f0] at hto1
      rw [f0]
      refine sxl_y (wn_none rfl) rfl rfl (yp rfl) ?_
      refine sxl_nil ?_
      refine qx_seq ?_
      refine sx_seq ?_
      refine sx_region ?_
      refine sxl_y (wn_none rfl) rfl rfl (yp rfl) ?_
      refine sxl_y (wn_none rfl) rfl rfl (y_neq_t rfl rfl rfl (by omega)) ?_
      refine sxl_nil ?_
      refine qx_seq ?_
      refine sx_true rfl ?_
      refine sx_seq ?_
      refine sx_region ?_
      iterate 2 refine sxl_y (wn_none rfl) rfl rfl (yp rfl) ?_
      refine sxl_nil ?_
      refine qx_seq ?_
      refine sx_ret ?_
      refine qx_then_ret ?_
      refine qx_ret1 rfl rfl ?_
      refine ⟨Q1, by rw [hres]; rfl, ?_⟩
      rw [hres]
      have ep : ({ p with dead := p.dead || decide ((20 : Int) ≠ 0) } : PS) = { p with dead := true } := by cases p.dead <;> rfl
      rw [ep] at hto1
      exact hto1
    obtain ⟨fd, fw, fdn, fl⟩ := DS.flush_facts f0
    have ep1 : ({ p with dead := p.dead || decide (s.flushes.2 ≠ 0) } : PS) = p := by rw [f0]; cases p with | mk a b c d e => cases e <;> rfl
    rw [ep1] at hto1
    rw [f0]
    have hgp1 : Q1.gp = Q.gp := hto1.gp
    have c21 : Cell w1.heap Q.gp 2 (.int .i64 p.seq) := by rw [← hgp1]; exact hto1.pg.c2
    rw [hq] at c21
    refine sxl_y (wn_none rfl) rfl rfl (yp rfl) ?_
    refine sxl_nil ?_
    refine qx_seq ?_
    refine sx_seq ?_
    refine sx_region ?_
    refine sxl_y (wn_none rfl) rfl rfl (yp rfl) ?_
    refine sxl_y (wn_none rfl) rfl rfl (y_neq_f rfl rfl rfl (by omega)) ?_
    refine sxl_nil ?_
    refine qx_seq ?_
    refine sx_false rfl ?_
    refine sx_skip ?_
    refine qx_seq ?_
    refine sx_seq ?_
    refine sx_seq ?_
    refine sx_tail 13 hmix (by kernel_rfl) ?_
    iterate 4 refine sxs_y (wn_none rfl) rfl rfl (yp rfl) ?_
    refine sxs_y (wn_none rfl) rfl rfl (y_load rfl rfl (sc rfl) (by assumption)) ?_
    refine sxs_y (wn_none rfl) rfl rfl (y_add rfl rfl rfl (by omega)) ?_
    refine sxs_y (wn_none rfl) rfl rfl (y_rem rfl rfl rfl (by omega) (by omega)) ?_
    iterate 3 refine sxs_y (wn_none rfl) rfl rfl (yp rfl) ?_
    refine sxs_y (wn_none rfl) rfl rfl (y_load rfl rfl (sc rfl) (by assumption)) ?_
    refine sxs_y (wn_none rfl) rfl rfl (y_add rfl rfl rfl (by omega)) ?_
    refine sxs_y (wn_none rfl) rfl rfl (yp rfl) ?_
    refine sxs_tail ?_
    have hput := put_ok (hto1.pg.fr0 (Fr.refl.drew : Fr0 w1 w1.drew)) (fd.trans hd) ((q + 1) % 2) (q + 1) root (by rw [fl]; omega) (by rw [fw]; exact Nat.zero_le _) (by omega)
    rw [hgp1] at hput
    have hres1 : s.commit ((q + 1) % 2) (pageOf ((q + 1) % 2) (metaB (q + 1) root)) = if (s.flushes.1.wrPage ((q + 1) % 2) (pageOf ((q + 1) % 2) (metaB (q + 1) root))).2 then ((s.flushes.1.wrPage ((q + 1) % 2) (pageOf ((q + 1) % 2) (metaB (q + 1) root))).1.flushes.1, decide ((s.flushes.1.wrPage ((q + 1) % 2) (pageOf ((q + 1) % 2) (metaB (q + 1) root))).1.flushes.2 = 0)) else ((s.flushes.1.wrPage ((q + 1) % 2) (pageOf ((q + 1) % 2) (metaB (q + 1) root))).1, false) := by
      unfold DS.commit; rw [if_neg (by rw [f0]; decide)]
    have hwok := s.flushes.1.wrUpto_ok ((q + 1) % 2) (pageOf ((q + 1) % 2) (metaB (q + 1) root)) (fd.trans hd) 4
    change (s.flushes.1.wrPage ((q + 1) % 2) (pageOf ((q + 1) % 2) (metaB (q + 1) root))).2 = true → (s.flushes.1.wrPage ((q + 1) % 2) (pageOf ((q + 1) % 2) (metaB (q + 1) root))).1.dead = false ∧ (s.flushes.1.wrPage ((q + 1) % 2) (pageOf ((q + 1) % 2) (metaB (q + 1) root))).1.waits.length = s.flushes.1.waits.length + 4 ∧ (s.flushes.1.wrPage ((q + 1) % 2) (pageOf ((q + 1) % 2) (metaB (q + 1) root))).1.done = s.flushes.1.done + 4 at hwok
    generalize s.flushes.1.wrPage ((q + 1) % 2) (pageOf ((q + 1) % 2) (metaB (q + 1) root)) = wp at hput hres1 hwok
    refine sxl_call (some 53) (wn_none rfl) rfl rfl (yc_call rfl rfl Tryd.call32) hput ?_
    rintro _ w2 ⟨Q2, rfl, hto2⟩
    refine ⟨_, rfl, ?_⟩
    have hto2' := (hto1.then0 (Fr.refl.drew : Fr0 w1 w1.drew)).trans hto2
    have hgp2 : Q2.gp = Q.gp := hto2'.gp
    cases hw2 : wp.2 with
    | false =>
      rw [hw2] at hres1 hto2'
      rw [if_neg (show ¬ (false = true) by decide)]
      rw [if_neg (show ¬ (false = true) by decide)] at hres1
      refine sxl_y (wn_none rfl) rfl rfl (yp rfl) ?_
      refine sxl_nil ?_
      refine qx_seq ?_
      refine sx_seq ?_
      refine sx_region ?_
      refine sxl_y (wn_none rfl) rfl rfl (yp rfl) ?_
      refine sxl_y (wn_none rfl) rfl rfl (y_neq_t rfl rfl rfl (by omega)) ?_
      refine sxl_nil ?_
      refine qx_seq ?_
      refine sx_true rfl ?_
      refine sx_seq ?_
      refine sx_region ?_
      iterate 2 refine sxl_y (wn_none rfl) rfl rfl (yp rfl) ?_
      refine sxl_nil ?_
      refine qx_seq ?_
      refine sx_ret ?_
      refine qx_then_ret ?_
      refine qx_ret1 rfl rfl ?_
      refine ⟨Q2, by rw [hres1]; rfl, ?_⟩
      rw [hres1]
      have ep : ({ p with dead := p.dead || !false } : PS) = { p with dead := true } := by cases p.dead <;> rfl
      rw [ep] at hto2'
      exact hto2'
    | true =>
      rw [hw2] at hres1 hto2'
      rw [if_pos rfl]
      rw [if_pos rfl] at hres1
      obtain ⟨gd, gw, gdn⟩ := hwok hw2
      have ep2 : ({ p with dead := p.dead || !true } : PS) = p := by cases p with | mk a b c d e => cases e <;> rfl
      rw [ep2] at hto2'
      have hfl := pflush_ok hto2'.pg gd (by omega)
      rw [hgp2] at hfl
      refine sxl_y (wn_none rfl) rfl rfl (yp rfl) ?_
      refine sxl_nil ?_
      refine qx_seq ?_
      refine sx_seq ?_
      refine sx_region ?_
      refine sxl_y (wn_none rfl) rfl rfl (yp rfl) ?_
      refine sxl_y (wn_none rfl) rfl rfl (y_neq_f rfl rfl rfl (by omega)) ?_
      refine sxl_nil ?_
      refine qx_seq ?_
      refine sx_false rfl ?_
      refine sx_skip ?_
      refine qx_seq ?_
      refine sx_seq ?_
      refine sx_seq ?_
      refine sx_region ?_
      refine sxl_y (wn_none rfl) rfl rfl (yp rfl) ?_
      refine sxl_call (some 58) (by first | exact wn_none rfl | exact wn_on rfl rfl rfl) rfl rfl (yc_call rfl rfl Tryd.call33) (hfl) ?_
      rintro _ w3 ⟨Q3, rfl, hto3⟩
      refine ⟨_, rfl, ?_⟩
      have hto3' := hto2'.trans hto3
      have hgp3 : Q3.gp = Q.gp := hto3'.gp
      rcases wp.1.flushes_res with ⟨k0, _, _⟩ | ⟨k0, _, _⟩
      case inr =>
        rw [k0] at hres1 hto3'
        rw [k0]
        refine sxl_y (wn_none rfl) rfl rfl (yp rfl) ?_
        refine sxl_nil ?_
        refine qx_seq ?_
        refine sx_seq ?_
        refine sx_region ?_
        refine sxl_y (wn_none rfl) rfl rfl (yp rfl) ?_
        refine sxl_y (wn_none rfl) rfl rfl (y_neq_t rfl rfl rfl (by omega)) ?_
        refine sxl_nil ?_
        refine qx_seq ?_
        refine sx_true rfl ?_
        refine sx_seq ?_
        refine sx_region ?_
        iterate 2 refine sxl_y (wn_none rfl) rfl rfl (yp rfl) ?_
        refine sxl_nil ?_
        refine qx_seq ?_
        refine sx_ret ?_
        refine qx_then_ret ?_
        refine qx_ret1 rfl rfl ?_
        refine ⟨Q3, by rw [hres1]; rfl, ?_⟩
        rw [hres1]
        have ep : ({ p with dead := p.dead || decide ((20 : Int) ≠ 0) } : PS) = { p with dead := true } := by cases p.dead <;> rfl
        rw [ep] at hto3'
        exact hto3'
      rw [k0] at hres1 hto3'
      rw [k0]
      have ep3 : ({ p with dead := p.dead || decide ((0 : Int) ≠ 0) } : PS) = p := by cases p with | mk a b c d e => cases e <;> rfl
      rw [ep3] at hto3'
      have c23 : Cell w3.heap Q.gp 2 (.int .i64 p.seq) := by rw [← hgp3]; exact hto3'.pg.c2
      rw [hq] at c23
      have hd3 : Blk w3 Q.gp 82 (p.cells Q3.L.gd Q3.gm) := by rw [← hgp3]; exact hto3'.pg.hd
      refine sxl_y (wn_none rfl) rfl rfl (yp rfl) ?_
      refine sxl_nil ?_
      refine qx_seq ?_
      refine sx_seq ?_
      refine sx_region ?_
      refine sxl_y (wn_none rfl) rfl rfl (yp rfl) ?_
      refine sxl_y (wn_none rfl) rfl rfl (y_neq_f rfl rfl rfl (by omega)) ?_
      refine sxl_nil ?_
      refine qx_seq ?_
      refine sx_false rfl ?_
      refine sx_skip ?_
      refine qx_seq ?_
      refine sx_seq ?_
      refine sx_region ?_
      iterate 5 refine sxl_y (wn_none rfl) rfl rfl (yp rfl) ?_
      refine sxl_y (wn_none rfl) rfl rfl (y_load rfl rfl (sc rfl) (by assumption)) ?_
      refine sxl_y (wn_none rfl) rfl rfl (y_add rfl rfl rfl (by omega)) ?_
      iterate 3 refine sxl_y (wn_none rfl) rfl rfl (yp rfl) ?_
      refine sxl_does none (wn_none rfl) rfl rfl (fun ρ hρ => does_store1 3 (.tmp 71) _ rfl Q.gp 2 82 _ (.int .i64 ((q : Int) + 1)) (hρ _ _ rfl) (hρ _ _ rfl) rfl hd3 (by kernel_rfl) (by simp [PS.cells]) rfl) ?_
      rintro _ w4 ⟨rfl, hb4, hf4⟩
      iterate 2 refine sxl_y (wn_none rfl) rfl rfl (yp rfl) ?_
      refine sxl_does none (wn_none rfl) rfl rfl (fun ρ hρ => does_store1 3 (.tmp 73) _ rfl Q.gp 3 82 _ (.int .i64 (root : Int)) (hρ _ _ rfl) (hρ _ _ rfl) rfl hb4 (by kernel_rfl) (by simp [PS.cells]) rfl) ?_
      rintro _ w5 ⟨rfl, hb5, hf5⟩
      have hto5 : PgTo w w5 Q Q3 { p with seq := p.seq + 1, root := root } wp.1.flushes.1 := hto3'.trans (.own hto3'.pg (by show Fr (fun b => b = Q3.gp) _ _; rw [hgp3]; exact hf4.trans hf5) (by show Blk _ Q3.gp _ (PS.cells ⟨_, p.seq + 1, _, _, _⟩ _ _); rw [hgp3, hq]; exact hb5) rfl)
      have htu := turn_ok 1 0 hto5.pg
      rw [hgp3] at htu
      refine sxl_nil ?_
      refine qx_seq ?_
      refine sx_seq ?_
      refine sx_region ?_
      refine sxl_y (wn_none rfl) rfl rfl (yp rfl) ?_
      refine sxl_call (some 75) (by first | exact wn_none rfl | exact wn_on rfl rfl rfl) rfl rfl (yc_call rfl rfl Tryd.call40) (htu) ?_
      rintro _ w6 ⟨rfl, hto6⟩
      refine ⟨_, rfl, ?_⟩
      refine sxl_nil ?_
      refine qx_seq ?_
      refine sx_seq ?_
      refine sx_region ?_
      refine sxl_y (wn_none rfl) rfl rfl (yp rfl) ?_
      refine sxl_nil ?_
      refine qx_seq ?_
      refine sx_ret ?_
      refine qx_ret1 rfl rfl ?_
      refine ⟨Q3, by rw [hres1]; rfl, ?_⟩
      rw [hres1]
      exact hto5.trans hto6
  obtain ⟨ea, _, hr2, _⟩ := at_ok ha
  have hat := at_any h root
  rw [ea] at hat
  rcases hst with hs1 | hs3
  · skip
    refine sx_enter (vs := [_, _]) Tryd.func16 rfl Tryd.ntmps16 rfl ?_
    refine sx_seq ?_
    refine sx_region ?_
    refine sxl_y (wn_none rfl) rfl rfl (yp rfl) ?_
    refine sxl_nil ?_
    refine qx_seq ?_
    refine sx_seq ?_
    refine sx_seq ?_
    refine sx_region ?_
    refine sxl_y (wn_none rfl) rfl rfl (yp rfl) ?_
    refine sxl_pure (wn_none rfl) rfl rfl (yc_call rfl rfl Tryd.call38) (palive_f h hg) ?_
    refine sxl_y (wn_none rfl) rfl rfl (yp rfl) ?_
    refine sxl_nil ?_
    refine qx_seq ?_
    refine sx_seq ?_
    refine sx_region ?_
    refine sxl_y (wn_none rfl) rfl rfl (yp rfl) ?_
    refine sxl_y (wn_none rfl) rfl rfl (y_neq_f rfl rfl rfl (by omega)) ?_
    refine sxl_nil ?_
    refine qx_seq ?_
    refine sx_false rfl ?_
    refine sx_skip ?_
    refine qx_seq ?_
    refine sx_seq ?_
    refine sx_seq ?_
    refine sx_region ?_
    refine sxl_y (wn_none rfl) rfl rfl (yp rfl) ?_
    refine sxl_y (wn_none rfl) rfl rfl (y_neq_t rfl rfl rfl (by omega)) ?_
    refine sxl_nil ?_
    refine qx_seq ?_
    refine sx_true rfl ?_
    refine sx_seq ?_
    refine sx_region ?_
    iterate 2 refine sxl_y (wn_none rfl) rfl rfl (yp rfl) ?_
    refine sxl_pure (wn_none rfl) rfl rfl (yc_call rfl rfl Tryd.call37) (hat) ?_
    iterate 5 refine sxl_y (wn_none rfl) rfl rfl (yp rfl) ?_
    refine sxl_nil ?_
    refine qx_seq ?_
    refine sx_block ?_
    refine sx_seq ?_
    refine sx_region ?_
    refine sxl_y (wn_none rfl) rfl rfl (yp rfl) ?_
    refine sxl_y (wn_none rfl) rfl rfl (y_neq_f rfl rfl rfl (by omega)) ?_
    refine sxl_y (wn_none rfl) rfl rfl (yp rfl) ?_
    refine sxl_nil ?_
    refine qx_seq ?_
    refine sx_false rfl ?_
    refine sx_seq ?_
    refine sx_region ?_
    refine sxl_y (wn_none rfl) rfl rfl (yp rfl) ?_
    refine sxl_y (wn_none rfl) rfl rfl (y_neq_f rfl rfl rfl (by omega)) ?_
    refine sxl_y (wn_none rfl) rfl rfl (yp rfl) ?_
    refine sxl_off rfl rfl rfl rfl rfl rfl ?_
    refine sxl_off rfl rfl rfl rfl rfl rfl ?_
    iterate 2 refine sxl_y (wn_none rfl) rfl rfl (yp rfl) ?_
    refine sxl_nil ?_
    refine qx_seq ?_
    refine sx_false rfl ?_
    refine sx_skip ?_
    refine qx_block_normal ?_
    refine qx_seq ?_
    refine sx_seq ?_
    refine sx_seq ?_
    refine sx_region ?_
    refine sxl_y (wn_none rfl) rfl rfl (yp rfl) ?_
    refine sxl_call (some 36) (by first | exact wn_none rfl | exact wn_on rfl rfl rfl) rfl rfl (yc_call rfl rfl Tryd.call33) (pflush_ok h hd (by omega)) ?_
    rintro _ w1 ⟨Q1, rfl, hto1⟩
    refine ⟨_, rfl, ?_⟩
    rcases s.flushes_res with ⟨f0, _, _⟩ | ⟨f0, _, _⟩
    case inr =>
      have hres : s.commit ((q + 1) % 2) (pageOf ((q + 1) % 2) (metaB (q + 1) root)) = (s.flushes.1, false) := by unfold DS.commit; rw [if_pos (by rw [f0]; decide)]
      rw [f0] at hto1
      rw [f0]
      refine sxl_y (wn_none rfl) rfl rfl (yp rfl) ?_
      refine sxl_nil ?_
      refine qx_seq ?_
      refine sx_seq ?_
      refine sx_region ?_
      refine sxl_y (wn_none rfl) rfl rfl (yp rfl) ?_
      refine sxl_y (wn_none rfl) rfl rfl (y_neq_t rfl rfl rfl (by omega)) ?_
      refine sxl_nil ?_
      refine qx_seq ?_
      refine sx_true rfl ?_
      refine sx_seq ?_
      refine sx_region ?_
      iterate 2 refine sxl_y (wn_none rfl) rfl rfl (yp rfl) ?_
      refine sxl_nil ?_
      refine qx_seq ?_
      refine sx_ret ?_
      refine qx_then_ret ?_
      refine qx_ret1 rfl rfl ?_
      refine ⟨Q1, by rw [hres]; rfl, ?_⟩
      rw [hres]
      have ep : ({ p with dead := p.dead || decide ((20 : Int) ≠ 0) } : PS) = { p with dead := true } := by cases p.dead <;> rfl
      rw [ep] at hto1
      exact hto1
    obtain ⟨fd, fw, fdn, fl⟩ := DS.flush_facts f0
    have ep1 : ({ p with dead := p.dead || decide (s.flushes.2 ≠ 0) } : PS) = p := by rw [f0]; cases p with | mk a b c d e => cases e <;> rfl
    rw [ep1] at hto1
    rw [f0]
    have hgp1 : Q1.gp = Q.gp := hto1.gp
    have c21 : Cell w1.heap Q.gp 2 (.int .i64 p.seq) := by rw [← hgp1]; exact hto1.pg.c2
    rw [hq] at c21
    refine sxl_y (wn_none rfl) rfl rfl (yp rfl) ?_
    refine sxl_nil ?_
    refine qx_seq ?_
    refine sx_seq ?_
    refine sx_region ?_
    refine sxl_y (wn_none rfl) rfl rfl (yp rfl) ?_
    refine sxl_y (wn_none rfl) rfl rfl (y_neq_f rfl rfl rfl (by omega)) ?_
    refine sxl_nil ?_
    refine qx_seq ?_
    refine sx_false rfl ?_
    refine sx_skip ?_
    refine qx_seq ?_
    refine sx_seq ?_
    refine sx_seq ?_
    refine sx_tail 13 hmix (by kernel_rfl) ?_
    iterate 4 refine sxs_y (wn_none rfl) rfl rfl (yp rfl) ?_
    refine sxs_y (wn_none rfl) rfl rfl (y_load rfl rfl (sc rfl) (by assumption)) ?_
    refine sxs_y (wn_none rfl) rfl rfl (y_add rfl rfl rfl (by omega)) ?_
    refine sxs_y (wn_none rfl) rfl rfl (y_rem rfl rfl rfl (by omega) (by omega)) ?_
    iterate 3 refine sxs_y (wn_none rfl) rfl rfl (yp rfl) ?_
    refine sxs_y (wn_none rfl) rfl rfl (y_load rfl rfl (sc rfl) (by assumption)) ?_
    refine sxs_y (wn_none rfl) rfl rfl (y_add rfl rfl rfl (by omega)) ?_
    refine sxs_y (wn_none rfl) rfl rfl (yp rfl) ?_
    refine sxs_tail ?_
    have hput := put_ok (hto1.pg.fr0 (Fr.refl.drew : Fr0 w1 w1.drew)) (fd.trans hd) ((q + 1) % 2) (q + 1) root (by rw [fl]; omega) (by rw [fw]; exact Nat.zero_le _) (by omega)
    rw [hgp1] at hput
    have hres1 : s.commit ((q + 1) % 2) (pageOf ((q + 1) % 2) (metaB (q + 1) root)) = if (s.flushes.1.wrPage ((q + 1) % 2) (pageOf ((q + 1) % 2) (metaB (q + 1) root))).2 then ((s.flushes.1.wrPage ((q + 1) % 2) (pageOf ((q + 1) % 2) (metaB (q + 1) root))).1.flushes.1, decide ((s.flushes.1.wrPage ((q + 1) % 2) (pageOf ((q + 1) % 2) (metaB (q + 1) root))).1.flushes.2 = 0)) else ((s.flushes.1.wrPage ((q + 1) % 2) (pageOf ((q + 1) % 2) (metaB (q + 1) root))).1, false) := by
      unfold DS.commit; rw [if_neg (by rw [f0]; decide)]
    have hwok := s.flushes.1.wrUpto_ok ((q + 1) % 2) (pageOf ((q + 1) % 2) (metaB (q + 1) root)) (fd.trans hd) 4
    change (s.flushes.1.wrPage ((q + 1) % 2) (pageOf ((q + 1) % 2) (metaB (q + 1) root))).2 = true → (s.flushes.1.wrPage ((q + 1) % 2) (pageOf ((q + 1) % 2) (metaB (q + 1) root))).1.dead = false ∧ (s.flushes.1.wrPage ((q + 1) % 2) (pageOf ((q + 1) % 2) (metaB (q + 1) root))).1.waits.length = s.flushes.1.waits.length + 4 ∧ (s.flushes.1.wrPage ((q + 1) % 2) (pageOf ((q + 1) % 2) (metaB (q + 1) root))).1.done = s.flushes.1.done + 4 at hwok
    generalize s.flushes.1.wrPage ((q + 1) % 2) (pageOf ((q + 1) % 2) (metaB (q + 1) root)) = wp at hput hres1 hwok
    refine sxl_call (some 53) (wn_none rfl) rfl rfl (yc_call rfl rfl Tryd.call32) hput ?_
    rintro _ w2 ⟨Q2, rfl, hto2⟩
    refine ⟨_, rfl, ?_⟩
    have hto2' := (hto1.then0 (Fr.refl.drew : Fr0 w1 w1.drew)).trans hto2
    have hgp2 : Q2.gp = Q.gp := hto2'.gp
    cases hw2 : wp.2 with
    | false =>
      rw [hw2] at hres1 hto2'
      rw [if_neg (show ¬ (false = true) by decide)]
      rw [if_neg (show ¬ (false = true) by decide)] at hres1
      refine sxl_y (wn_none rfl) rfl rfl (yp rfl) ?_
      refine sxl_nil ?_
      refine qx_seq ?_
      refine sx_seq ?_
      refine sx_region ?_
      refine sxl_y (wn_none rfl) rfl rfl (yp rfl) ?_
      refine sxl_y (wn_none rfl) rfl rfl (y_neq_t rfl rfl rfl (by omega)) ?_
      refine sxl_nil ?_
      refine qx_seq ?_
      refine sx_true rfl ?_
      refine sx_seq ?_
      refine sx_region ?_
      iterate 2 refine sxl_y (wn_none rfl) rfl rfl (yp rfl) ?_
      refine sxl_nil ?_
      refine qx_seq ?_
      refine sx_ret ?_
      refine qx_then_ret ?_
      refine qx_ret1 rfl rfl ?_
      refine ⟨Q2, by rw [hres1]; rfl, ?_⟩
      rw [hres1]
      have ep : ({ p with dead := p.dead || !false } : PS) = { p with dead := true } := by cases p.dead <;> rfl
      rw [ep] at hto2'
      exact hto2'
    | true =>
      rw [hw2] at hres1 hto2'
      rw [if_pos rfl]
      rw [if_pos rfl] at hres1
      obtain ⟨gd, gw, gdn⟩ := hwok hw2
      have ep2 : ({ p with dead := p.dead || !true } : PS) = p := by cases p with | mk a b c d e => cases e <;> rfl
      rw [ep2] at hto2'
      have hfl := pflush_ok hto2'.pg gd (by omega)
      rw [hgp2] at hfl
      refine sxl_y (wn_none rfl) rfl rfl (yp rfl) ?_
      refine sxl_nil ?_
      refine qx_seq ?_
      refine sx_seq ?_
      refine sx_region ?_
      refine sxl_y (wn_none rfl) rfl rfl (yp rfl) ?_
      refine sxl_y (wn_none rfl) rfl rfl (y_neq_f rfl rfl rfl (by omega)) ?_
      refine sxl_nil ?_
      refine qx_seq ?_
      refine sx_false rfl ?_
      refine sx_skip ?_
      refine qx_seq ?_
      refine sx_seq ?_
      refine sx_seq ?_
      refine sx_region ?_
      refine sxl_y (wn_none rfl) rfl rfl (yp rfl) ?_
      refine sxl_call (some 58) (by first | exact wn_none rfl | exact wn_on rfl rfl rfl) rfl rfl (yc_call rfl rfl Tryd.call33) (hfl) ?_
      rintro _ w3 ⟨Q3, rfl, hto3⟩
      refine ⟨_, rfl, ?_⟩
      have hto3' := hto2'.trans hto3
      have hgp3 : Q3.gp = Q.gp := hto3'.gp
      rcases wp.1.flushes_res with ⟨k0, _, _⟩ | ⟨k0, _, _⟩
      case inr =>
        rw [k0] at hres1 hto3'
        rw [k0]
        refine sxl_y (wn_none rfl) rfl rfl (yp rfl) ?_
        refine sxl_nil ?_
        refine qx_seq ?_
        refine sx_seq ?_
        refine sx_region ?_
        refine sxl_y (wn_none rfl) rfl rfl (yp rfl) ?_
        refine sxl_y (wn_none rfl) rfl rfl (y_neq_t rfl rfl rfl (by omega)) ?_
        refine sxl_nil ?_
        refine qx_seq ?_
        refine sx_true rfl ?_
        refine sx_seq ?_
        refine sx_region ?_
        iterate 2 refine sxl_y (wn_none rfl) rfl rfl (yp rfl) ?_
        refine sxl_nil ?_
        refine qx_seq ?_
        refine sx_ret ?_
        refine qx_then_ret ?_
        refine qx_ret1 rfl rfl ?_
        refine ⟨Q3, by rw [hres1]; rfl, ?_⟩
        rw [hres1]
        have ep : ({ p with dead := p.dead || decide ((20 : Int) ≠ 0) } : PS) = { p with dead := true } := by cases p.dead <;> rfl
        rw [ep] at hto3'
        exact hto3'
      rw [k0] at hres1 hto3'
      rw [k0]
      have ep3 : ({ p with dead := p.dead || decide ((0 : Int) ≠ 0) } : PS) = p := by cases p with | mk a b c d e => cases e <;> rfl
      rw [ep3] at hto3'
      have c23 : Cell w3.heap Q.gp 2 (.int .i64 p.seq) := by rw [← hgp3]; exact hto3'.pg.c2
      rw [hq] at c23
      have hd3 : Blk w3 Q.gp 82 (p.cells Q3.L.gd Q3.gm) := by rw [← hgp3]; exact hto3'.pg.hd
      refine sxl_y (wn_none rfl) rfl rfl (yp rfl) ?_
      refine sxl_nil ?_
      refine qx_seq ?_
      refine sx_seq ?_
      refine sx_region ?_
      refine sxl_y (wn_none rfl) rfl rfl (yp rfl) ?_
      refine sxl_y (wn_none rfl) rfl rfl (y_neq_f rfl rfl rfl (by omega)) ?_
      refine sxl_nil ?_
      refine qx_seq ?_
      refine sx_false rfl ?_
      refine sx_skip ?_
      refine qx_seq ?_
      refine sx_seq ?_
      refine sx_region ?_
      iterate 5 refine sxl_y (wn_none rfl) rfl rfl (yp rfl) ?_
      refine sxl_y (wn_none rfl) rfl rfl (y_load rfl rfl (sc rfl) (by assumption)) ?_
      refine sxl_y (wn_none rfl) rfl rfl (y_add rfl rfl rfl (by omega)) ?_
      iterate 3 refine sxl_y (wn_none rfl) rfl rfl (yp rfl) ?_
      refine sxl_does none (wn_none rfl) rfl rfl (fun ρ hρ => does_store1 3 (.tmp 71) _ rfl Q.gp 2 82 _ (.int .i64 ((q : Int) + 1)) (hρ _ _ rfl) (hρ _ _ rfl) rfl hd3 (by kernel_rfl) (by simp [PS.cells]) rfl) ?_
      rintro _ w4 ⟨rfl, hb4, hf4⟩
      iterate 2 refine sxl_y (wn_none rfl) rfl rfl (yp rfl) ?_
      refine sxl_does none (wn_none rfl) rfl rfl (fun ρ hρ => does_store1 3 (.tmp 73) _ rfl Q.gp 3 82 _ (.int .i64 (root : Int)) (hρ _ _ rfl) (hρ _ _ rfl) rfl hb4 (by kernel_rfl) (by simp [PS.cells]) rfl) ?_
      rintro _ w5 ⟨rfl, hb5, hf5⟩
      have hto5 : PgTo w w5 Q Q3 { p with seq := p.seq + 1, root := root } wp.1.flushes.1 := hto3'.trans (.own hto3'.pg (by show Fr (fun b => b = Q3.gp) _ _; rw [hgp3]; exact hf4.trans hf5) (by show Blk _ Q3.gp _ (PS.cells ⟨_, p.seq + 1, _, _, _⟩ _ _); rw [hgp3, hq]; exact hb5) rfl)
      have htu := turn_ok 1 0 hto5.pg
      rw [hgp3] at htu
      refine sxl_nil ?_
      refine qx_seq ?_
      refine sx_seq ?_
      refine sx_region ?_
      refine sxl_y (wn_none rfl) rfl rfl (yp rfl) ?_
      refine sxl_call (some 75) (by first | exact wn_none rfl | exact wn_on rfl rfl rfl) rfl rfl (yc_call rfl rfl Tryd.call40) (htu) ?_
      rintro _ w6 ⟨rfl, hto6⟩
      refine ⟨_, rfl, ?_⟩
      refine sxl_nil ?_
      refine qx_seq ?_
      refine sx_seq ?_
      refine sx_region ?_
      refine sxl_y (wn_none rfl) rfl rfl (yp rfl) ?_
      refine sxl_nil ?_
      refine qx_seq ?_
      refine sx_ret ?_
      refine qx_ret1 rfl rfl ?_
      refine ⟨Q3, by rw [hres1]; rfl, ?_⟩
      rw [hres1]
      exact hto5.trans hto6
  · skip
    refine sx_enter (vs := [_, _]) Tryd.func16 rfl Tryd.ntmps16 rfl ?_
    refine sx_seq ?_
    refine sx_region ?_
    refine sxl_y (wn_none rfl) rfl rfl (yp rfl) ?_
    refine sxl_nil ?_
    refine qx_seq ?_
    refine sx_seq ?_
    refine sx_seq ?_
    refine sx_region ?_
    refine sxl_y (wn_none rfl) rfl rfl (yp rfl) ?_
    refine sxl_pure (wn_none rfl) rfl rfl (yc_call rfl rfl Tryd.call38) (palive_f h hg) ?_
    refine sxl_y (wn_none rfl) rfl rfl (yp rfl) ?_
    refine sxl_nil ?_
    refine qx_seq ?_
    refine sx_seq ?_
    refine sx_region ?_
    refine sxl_y (wn_none rfl) rfl rfl (yp rfl) ?_
    refine sxl_y (wn_none rfl) rfl rfl (y_neq_f rfl rfl rfl (by omega)) ?_
    refine sxl_nil ?_
    refine qx_seq ?_
    refine sx_false rfl ?_
    refine sx_skip ?_
    refine qx_seq ?_
    refine sx_seq ?_
    refine sx_seq ?_
    refine sx_region ?_
    refine sxl_y (wn_none rfl) rfl rfl (yp rfl) ?_
    refine sxl_y (wn_none rfl) rfl rfl (y_neq_t rfl rfl rfl (by omega)) ?_
    refine sxl_nil ?_
    refine qx_seq ?_
    refine sx_true rfl ?_
    refine sx_seq ?_
    refine sx_region ?_
    iterate 2 refine sxl_y (wn_none rfl) rfl rfl (yp rfl) ?_
    refine sxl_pure (wn_none rfl) rfl rfl (yc_call rfl rfl Tryd.call37) (hat) ?_
    iterate 5 refine sxl_y (wn_none rfl) rfl rfl (yp rfl) ?_
    refine sxl_nil ?_
    refine qx_seq ?_
    refine sx_block ?_
    refine sx_seq ?_
    refine sx_region ?_
    refine sxl_y (wn_none rfl) rfl rfl (yp rfl) ?_
    refine sxl_y (wn_none rfl) rfl rfl (y_neq_f rfl rfl rfl (by omega)) ?_
    refine sxl_y (wn_none rfl) rfl rfl (yp rfl) ?_
    refine sxl_nil ?_
    refine qx_seq ?_
    refine sx_false rfl ?_
    refine sx_seq ?_
    refine sx_region ?_
    refine sxl_y (wn_none rfl) rfl rfl (yp rfl) ?_
    refine sxl_y (wn_none rfl) rfl rfl (y_neq_t rfl rfl rfl (by omega)) ?_
    refine sxl_y (wn_none rfl) rfl rfl (yp rfl) ?_
    refine sxl_y (wn_on rfl rfl rfl) rfl rfl (yp rfl) ?_
    refine sxl_y (wn_on rfl rfl rfl) rfl rfl (y_neq_f rfl rfl rfl (by omega)) ?_
    iterate 2 refine sxl_y (wn_none rfl) rfl rfl (yp rfl) ?_
    refine sxl_nil ?_
    refine qx_seq ?_
    refine sx_false rfl ?_
    refine sx_skip ?_
    refine qx_block_normal ?_
    refine qx_seq ?_
    refine sx_seq ?_
    refine sx_seq ?_
    refine sx_region ?_
    refine sxl_y (wn_none rfl) rfl rfl (yp rfl) ?_
    refine sxl_call (some 36) (by first | exact wn_none rfl | exact wn_on rfl rfl rfl) rfl rfl (yc_call rfl rfl Tryd.call33) (pflush_ok h hd (by omega)) ?_
    rintro _ w1 ⟨Q1, rfl, hto1⟩
    refine ⟨_, rfl, ?_⟩
    rcases s.flushes_res with ⟨f0, _, _⟩ | ⟨f0, _, _⟩
    case inr =>
      have hres : s.commit ((q + 1) % 2) (pageOf ((q + 1) % 2) (metaB (q + 1) root)) = (s.flushes.1, false) := by unfold DS.commit; rw [if_pos (by rw [f0]; decide)]
      rw [f0] at hto1
      rw [f0]
      refine sxl_y (wn_none rfl) rfl rfl (yp rfl) ?_
      refine sxl_nil ?_
      refine qx_seq ?_
      refine sx_seq ?_
      refine sx_region ?_
      refine sxl_y (wn_none rfl) rfl rfl (yp rfl) ?_
      refine sxl_y (wn_none rfl) rfl rfl (y_neq_t rfl rfl rfl (by omega)) ?_
      refine sxl_nil ?_
      refine qx_seq ?_
      refine sx_true rfl ?_
      refine sx_seq ?_
      refine sx_region ?_
      iterate 2 refine sxl_y (wn_none rfl) rfl rfl (yp rfl) ?_
      refine sxl_nil ?_
      refine qx_seq ?_
      refine sx_ret ?_
      refine qx_then_ret ?_
      refine qx_ret1 rfl rfl ?_
      refine ⟨Q1, by rw [hres]; rfl, ?_⟩
      rw [hres]
      have ep : ({ p with dead := p.dead || decide ((20 : Int) ≠ 0) } : PS) = { p with dead := true } := by cases p.dead <;> rfl
      rw [ep] at hto1
      exact hto1
    obtain ⟨fd, fw, fdn, fl⟩ := DS.flush_facts f0
    have ep1 : ({ p with dead := p.dead || decide (s.flushes.2 ≠ 0) } : PS) = p := by rw [f0]; cases p with | mk a b c d e => cases e <;> rfl
    rw [ep1] at hto1
    rw [f0]
    have hgp1 : Q1.gp = Q.gp := hto1.gp
    have c21 : Cell w1.heap Q.gp 2 (.int .i64 p.seq) := by rw [← hgp1]; exact hto1.pg.c2
    rw [hq] at c21
    refine sxl_y (wn_none rfl) rfl rfl (yp rfl) ?_
    refine sxl_nil ?_
    refine qx_seq ?_
    refine sx_seq ?_
    refine sx_region ?_
    refine sxl_y (wn_none rfl) rfl rfl (yp rfl) ?_
    refine sxl_y (wn_none rfl) rfl rfl (y_neq_f rfl rfl rfl (by omega)) ?_
    refine sxl_nil ?_
    refine qx_seq ?_
    refine sx_false rfl ?_
    refine sx_skip ?_
    refine qx_seq ?_
    refine sx_seq ?_
    refine sx_seq ?_
    refine sx_tail 13 hmix (by kernel_rfl) ?_
    iterate 4 refine sxs_y (wn_none rfl) rfl rfl (yp rfl) ?_
    refine sxs_y (wn_none rfl) rfl rfl (y_load rfl rfl (sc rfl) (by assumption)) ?_
    refine sxs_y (wn_none rfl) rfl rfl (y_add rfl rfl rfl (by omega)) ?_
    refine sxs_y (wn_none rfl) rfl rfl (y_rem rfl rfl rfl (by omega) (by omega)) ?_
    iterate 3 refine sxs_y (wn_none rfl) rfl rfl (yp rfl) ?_
    refine sxs_y (wn_none rfl) rfl rfl (y_load rfl rfl (sc rfl) (by assumption)) ?_
    refine sxs_y (wn_none rfl) rfl rfl (y_add rfl rfl rfl (by omega)) ?_
    refine sxs_y (wn_none rfl) rfl rfl (yp rfl) ?_
    refine sxs_tail ?_
    have hput := put_ok (hto1.pg.fr0 (Fr.refl.drew : Fr0 w1 w1.drew)) (fd.trans hd) ((q + 1) % 2) (q + 1) root (by rw [fl]; omega) (by rw [fw]; exact Nat.zero_le _) (by omega)
    rw [hgp1] at hput
    have hres1 : s.commit ((q + 1) % 2) (pageOf ((q + 1) % 2) (metaB (q + 1) root)) = if (s.flushes.1.wrPage ((q + 1) % 2) (pageOf ((q + 1) % 2) (metaB (q + 1) root))).2 then ((s.flushes.1.wrPage ((q + 1) % 2) (pageOf ((q + 1) % 2) (metaB (q + 1) root))).1.flushes.1, decide ((s.flushes.1.wrPage ((q + 1) % 2) (pageOf ((q + 1) % 2) (metaB (q + 1) root))).1.flushes.2 = 0)) else ((s.flushes.1.wrPage ((q + 1) % 2) (pageOf ((q + 1) % 2) (metaB (q + 1) root))).1, false) := by
      unfold DS.commit; rw [if_neg (by rw [f0]; decide)]
    have hwok := s.flushes.1.wrUpto_ok ((q + 1) % 2) (pageOf ((q + 1) % 2) (metaB (q + 1) root)) (fd.trans hd) 4
    change (s.flushes.1.wrPage ((q + 1) % 2) (pageOf ((q + 1) % 2) (metaB (q + 1) root))).2 = true → (s.flushes.1.wrPage ((q + 1) % 2) (pageOf ((q + 1) % 2) (metaB (q + 1) root))).1.dead = false ∧ (s.flushes.1.wrPage ((q + 1) % 2) (pageOf ((q + 1) % 2) (metaB (q + 1) root))).1.waits.length = s.flushes.1.waits.length + 4 ∧ (s.flushes.1.wrPage ((q + 1) % 2) (pageOf ((q + 1) % 2) (metaB (q + 1) root))).1.done = s.flushes.1.done + 4 at hwok
    generalize s.flushes.1.wrPage ((q + 1) % 2) (pageOf ((q + 1) % 2) (metaB (q + 1) root)) = wp at hput hres1 hwok
    refine sxl_call (some 53) (wn_none rfl) rfl rfl (yc_call rfl rfl Tryd.call32) hput ?_
    rintro _ w2 ⟨Q2, rfl, hto2⟩
    refine ⟨_, rfl, ?_⟩
    have hto2' := (hto1.then0 (Fr.refl.drew : Fr0 w1 w1.drew)).trans hto2
    have hgp2 : Q2.gp = Q.gp := hto2'.gp
    cases hw2 : wp.2 with
    | false =>
      rw [hw2] at hres1 hto2'
      rw [if_neg (show ¬ (false = true) by decide)]
      rw [if_neg (show ¬ (false = true) by decide)] at hres1
      refine sxl_y (wn_none rfl) rfl rfl (yp rfl) ?_
      refine sxl_nil ?_
      refine qx_seq ?_
      refine sx_seq ?_
      refine sx_region ?_
      refine sxl_y (wn_none rfl) rfl rfl (yp rfl) ?_
      refine sxl_y (wn_none rfl) rfl rfl (y_neq_t rfl rfl rfl (by omega)) ?_
      refine sxl_nil ?_
      refine qx_seq ?_
      refine sx_true rfl ?_
      refine sx_seq ?_
      refine sx_region ?_
      iterate 2 refine sxl_y (wn_none rfl) rfl rfl (yp rfl) ?_
      refine sxl_nil ?_
      refine qx_seq ?_
      refine sx_ret ?_
      refine qx_then_ret ?_
      refine qx_ret1 rfl rfl ?_
      refine ⟨Q2, by rw [hres1]; rfl, ?_⟩
      rw [hres1]
      have ep : ({ p with dead := p.dead || !false } : PS) = { p with dead := true } := by cases p.dead <;> rfl
      rw [ep] at hto2'
      exact hto2'
    | true =>
      rw [hw2] at hres1 hto2'
      rw [if_pos rfl]
      rw [if_pos rfl] at hres1
      obtain ⟨gd, gw, gdn⟩ := hwok hw2
      have ep2 : ({ p with dead := p.dead || !true } : PS) = p := by cases p with | mk a b c d e => cases e <;> rfl
      rw [ep2] at hto2'
      have hfl := pflush_ok hto2'.pg gd (by omega)
      rw [hgp2] at hfl
      refine sxl_y (wn_none rfl) rfl rfl (yp rfl) ?_
      refine sxl_nil ?_
      refine qx_seq ?_
      refine sx_seq ?_
      refine sx_region ?_
      refine sxl_y (wn_none rfl) rfl rfl (yp rfl) ?_
      refine sxl_y (wn_none rfl) rfl rfl (y_neq_f rfl rfl rfl (by omega)) ?_
      refine sxl_nil ?_
      refine qx_seq ?_
      refine sx_false rfl ?_
      refine sx_skip ?_
      refine qx_seq ?_
      refine sx_seq ?_
      refine sx_seq ?_
      refine sx_region ?_
      refine sxl_y (wn_none rfl) rfl rfl (yp rfl) ?_
      refine sxl_call (some 58) (by first | exact wn_none rfl | exact wn_on rfl rfl rfl) rfl rfl (yc_call rfl rfl Tryd.call33) (hfl) ?_
      rintro _ w3 ⟨Q3, rfl, hto3⟩
      refine ⟨_, rfl, ?_⟩
      have hto3' := hto2'.trans hto3
      have hgp3 : Q3.gp = Q.gp := hto3'.gp
      rcases wp.1.flushes_res with ⟨k0, _, _⟩ | ⟨k0, _, _⟩
      case inr =>
        rw [k0] at hres1 hto3'
        rw [k0]
        refine sxl_y (wn_none rfl) rfl rfl (yp rfl) ?_
        refine sxl_nil ?_
        refine qx_seq ?_
        refine sx_seq ?_
        refine sx_region ?_
        refine sxl_y (wn_none rfl) rfl rfl (yp rfl) ?_
        refine sxl_y (wn_none rfl) rfl rfl (y_neq_t rfl rfl rfl (by omega)) ?_
        refine sxl_nil ?_
        refine qx_seq ?_
        refine sx_true rfl ?_
        refine sx_seq ?_
        refine sx_region ?_
        iterate 2 refine sxl_y (wn_none rfl) rfl rfl (yp rfl) ?_
        refine sxl_nil ?_
        refine qx_seq ?_
        refine sx_ret ?_
        refine qx_then_ret ?_
        refine qx_ret1 rfl rfl ?_
        refine ⟨Q3, by rw [hres1]; rfl, ?_⟩
        rw [hres1]
        have ep : ({ p with dead := p.dead || decide ((20 : Int) ≠ 0) } : PS) = { p with dead := true } := by cases p.dead <;> rfl
        rw [ep] at hto3'
        exact hto3'
      rw [k0] at hres1 hto3'
      rw [k0]
      have ep3 : ({ p with dead := p.dead || decide ((0 : Int) ≠ 0) } : PS) = p := by cases p with | mk a b c d e => cases e <;> rfl
      rw [ep3] at hto3'
      have c23 : Cell w3.heap Q.gp 2 (.int .i64 p.seq) := by rw [← hgp3]; exact hto3'.pg.c2
      rw [hq] at c23
      have hd3 : Blk w3 Q.gp 82 (p.cells Q3.L.gd Q3.gm) := by rw [← hgp3]; exact hto3'.pg.hd
      refine sxl_y (wn_none rfl) rfl rfl (yp rfl) ?_
      refine sxl_nil ?_
      refine qx_seq ?_
      refine sx_seq ?_
      refine sx_region ?_
      refine sxl_y (wn_none rfl) rfl rfl (yp rfl) ?_
      refine sxl_y (wn_none rfl) rfl rfl (y_neq_f rfl rfl rfl (by omega)) ?_
      refine sxl_nil ?_
      refine qx_seq ?_
      refine sx_false rfl ?_
      refine sx_skip ?_
      refine qx_seq ?_
      refine sx_seq ?_
      refine sx_region ?_
      iterate 5 refine sxl_y (wn_none rfl) rfl rfl (yp rfl) ?_
      refine sxl_y (wn_none rfl) rfl rfl (y_load rfl rfl (sc rfl) (by assumption)) ?_
      refine sxl_y (wn_none rfl) rfl rfl (y_add rfl rfl rfl (by omega)) ?_
      iterate 3 refine sxl_y (wn_none rfl) rfl rfl (yp rfl) ?_
      refine sxl_does none (wn_none rfl) rfl rfl (fun ρ hρ => does_store1 3 (.tmp 71) _ rfl Q.gp 2 82 _ (.int .i64 ((q : Int) + 1)) (hρ _ _ rfl) (hρ _ _ rfl) rfl hd3 (by kernel_rfl) (by simp [PS.cells]) rfl) ?_
      rintro _ w4 ⟨rfl, hb4, hf4⟩
      iterate 2 refine sxl_y (wn_none rfl) rfl rfl (yp rfl) ?_
      refine sxl_does none (wn_none rfl) rfl rfl (fun ρ hρ => does_store1 3 (.tmp 73) _ rfl Q.gp 3 82 _ (.int .i64 (root : Int)) (hρ _ _ rfl) (hρ _ _ rfl) rfl hb4 (by kernel_rfl) (by simp [PS.cells]) rfl) ?_
      rintro _ w5 ⟨rfl, hb5, hf5⟩
      have hto5 : PgTo w w5 Q Q3 { p with seq := p.seq + 1, root := root } wp.1.flushes.1 := hto3'.trans (.own hto3'.pg (by show Fr (fun b => b = Q3.gp) _ _; rw [hgp3]; exact hf4.trans hf5) (by show Blk _ Q3.gp _ (PS.cells ⟨_, p.seq + 1, _, _, _⟩ _ _); rw [hgp3, hq]; exact hb5) rfl)
      have htu := turn_ok 1 0 hto5.pg
      rw [hgp3] at htu
      refine sxl_nil ?_
      refine qx_seq ?_
      refine sx_seq ?_
      refine sx_region ?_
      refine sxl_y (wn_none rfl) rfl rfl (yp rfl) ?_
      refine sxl_call (some 75) (by first | exact wn_none rfl | exact wn_on rfl rfl rfl) rfl rfl (yc_call rfl rfl Tryd.call40) (htu) ?_
      rintro _ w6 ⟨rfl, hto6⟩
      refine ⟨_, rfl, ?_⟩
      refine sxl_nil ?_
      refine qx_seq ?_
      refine sx_seq ?_
      refine sx_region ?_
      refine sxl_y (wn_none rfl) rfl rfl (yp rfl) ?_
      refine sxl_nil ?_
      refine qx_seq ?_
      refine sx_ret ?_
      refine qx_ret1 rfl rfl ?_
      refine ⟨Q3, by rw [hres1]; rfl, ?_⟩
      rw [hres1]
      exact hto5.trans hto6
end
end Go.Proofs.YthdlljlcffokbaaDoor
