/- Contracts of a disk's Crash and Fuse. -/
import Derived.Test.YtbfeailalhddgaaDisk10
namespace Go.Proofs.Ytbfeailalhddgaa
open Go.RowKit

theorem may_t (v : Value) (torn : Int) (cut : Nat) (w : World) (h : cut ≤ 128) : Calls Try.prog 28 #[.agg #[v, .int .i64 torn, .int .i64 (cut : Int)]] w fun e w' => e = .returned (.bool true) ∧ Fr0 w w' :=
  (may_any v torn (cut : Int) w).mono fun e w' he => ⟨by rw [he.1, decide_eq_true (by omega)], he.2⟩
theorem may_f (v : Value) (torn cut : Int) (w : World) (h : ¬ (0 ≤ cut ∧ cut ≤ 128)) : Calls Try.prog 28 #[.agg #[v, .int .i64 torn, .int .i64 cut]] w fun e w' => e = .returned (.bool false) ∧ Fr0 w w' :=
  (may_any v torn cut w).mono fun e w' he => ⟨by rw [he.1, decide_eq_false h], he.2⟩

theorem crashC_nil (v : Value) (torn cut : Int) (w : World) : Calls Try.prog 12 #[.pointer none, .agg #[v, .int .i64 torn, .int .i64 cut]] w fun e w' => e = .returned (.int .i64 2) ∧ Fr0 w w' := by
  refine sx_enter (vs := [_, _]) Try.func12 rfl Try.ntmps12 rfl ?_
  refine sx_seq ?_
  refine sx_region ?_
  refine sxl_does (some 3) (wn_none rfl) rfl rfl (fun ρ hρ => does_box 25 (.tmp 1) rfl [v, .int .i64 torn, .int .i64 cut] (by rw [hρ _ _ rfl]; rfl)) ?_
  rintro _ w1 ⟨g3, rfl, h3, h3', hb1, hf1⟩
  refine sxl_y (wn_none rfl) rfl rfl (yp rfl) ?_
  refine sxl_nil ?_
  refine qx_seq ?_
  refine sx_seq ?_
  refine sx_seq ?_
  refine sx_region ?_
  refine sxl_y (wn_none rfl) rfl rfl (yp rfl) ?_
  refine sxl_call (some 7) (wn_none rfl) rfl rfl (yc_call rfl rfl Try.call25) (alive_nil w1) ?_
  rintro _ _ ⟨rfl, rfl⟩
  refine ⟨_, rfl, ?_⟩
  refine sxl_y (wn_none rfl) rfl rfl (yp rfl) ?_
  refine sxl_nil ?_
  refine qx_seq ?_
  refine sx_seq ?_
  refine sx_region ?_
  refine sxl_y (wn_none rfl) rfl rfl (yp rfl) ?_
  refine sxl_y (wn_none rfl) rfl rfl (y_neq_t rfl rfl rfl (by omega)) ?_
  refine sxl_nil ?_
  refine qx_seq ?_
  refine sx_true rfl ?_
  refine sx_seq ?_
  refine sx_region ?_
  refine sxl_y (wn_none rfl) rfl rfl (yp rfl) ?_
  refine sxl_y (wn_none rfl) rfl rfl (yp rfl) ?_
  refine sxl_nil ?_
  refine qx_seq ?_
  refine sx_ret ?_
  refine qx_then_ret ?_
  refine qx_ret1 rfl rfl ?_
  exact ⟨rfl, hf1⟩
theorem crashC_dead (v : Value) (torn cut : Int) (w : World) (L : DL) (s : DS) (h : DkAt w L s) (hd : s.dead = true) : Calls Try.prog 12 #[.pointer (some ⟨L.gd, 0, none⟩), .agg #[v, .int .i64 torn, .int .i64 cut]] w fun e w' => e = .returned (.int .i64 20) ∧ Fr0 w w' := by
  refine sx_enter (vs := [_, _]) Try.func12 rfl Try.ntmps12 rfl ?_
  refine sx_seq ?_
  refine sx_region ?_
  refine sxl_does (some 3) (wn_none rfl) rfl rfl (fun ρ hρ => does_box 25 (.tmp 1) rfl [v, .int .i64 torn, .int .i64 cut] (by rw [hρ _ _ rfl]; rfl)) ?_
  rintro _ w1 ⟨g3, rfl, h3, h3', hb1, hf1⟩
  refine sxl_y (wn_none rfl) rfl rfl (yp rfl) ?_
  refine sxl_nil ?_
  refine qx_seq ?_
  refine sx_seq ?_
  refine sx_seq ?_
  refine sx_region ?_
  refine sxl_y (wn_none rfl) rfl rfl (yp rfl) ?_
  refine sxl_call (some 7) (wn_none rfl) rfl rfl (yc_call rfl rfl Try.call25) (alive_dead w1 L s (h.fr0 hf1) hd) ?_
  rintro _ _ ⟨rfl, rfl⟩
  refine ⟨_, rfl, ?_⟩
  refine sxl_y (wn_none rfl) rfl rfl (yp rfl) ?_
  refine sxl_nil ?_
  refine qx_seq ?_
  refine sx_seq ?_
  refine sx_region ?_
  refine sxl_y (wn_none rfl) rfl rfl (yp rfl) ?_
  refine sxl_y (wn_none rfl) rfl rfl (y_neq_t rfl rfl rfl (by omega)) ?_
  refine sxl_nil ?_
  refine qx_seq ?_
  refine sx_true rfl ?_
  refine sx_seq ?_
  refine sx_region ?_
  refine sxl_y (wn_none rfl) rfl rfl (yp rfl) ?_
  refine sxl_y (wn_none rfl) rfl rfl (yp rfl) ?_
  refine sxl_nil ?_
  refine qx_seq ?_
  refine sx_ret ?_
  refine qx_then_ret ?_
  refine qx_ret1 rfl rfl ?_
  exact ⟨rfl, hf1⟩
theorem crashC_arg (v : Value) (torn cut : Int) (w : World) (L : DL) (s : DS) (h : DkAt w L s) (hd : s.dead = false) (hc : ¬ (0 ≤ cut ∧ cut ≤ 128)) :
    Calls Try.prog 12 #[.pointer (some ⟨L.gd, 0, none⟩), .agg #[v, .int .i64 torn, .int .i64 cut]] w fun e w' => e = .returned (.int .i64 1) ∧ Fr0 w w' := by
  refine sx_enter (vs := [_, _]) Try.func12 rfl Try.ntmps12 rfl ?_
  refine sx_seq ?_
  refine sx_region ?_
  refine sxl_does (some 3) (wn_none rfl) rfl rfl (fun ρ hρ => does_box 25 (.tmp 1) rfl [v, .int .i64 torn, .int .i64 cut] (by rw [hρ _ _ rfl]; rfl)) ?_
  rintro _ w1 ⟨g3, rfl, h3, h3', hb1, hf1⟩
  refine sxl_y (wn_none rfl) rfl rfl (yp rfl) ?_
  refine sxl_nil ?_
  refine qx_seq ?_
  refine sx_seq ?_
  refine sx_seq ?_
  refine sx_region ?_
  refine sxl_y (wn_none rfl) rfl rfl (yp rfl) ?_
  refine sxl_call (some 7) (wn_none rfl) rfl rfl (yc_call rfl rfl Try.call25) (alive_ok w1 L s (h.fr0 hf1) hd) ?_
  rintro _ _ ⟨rfl, rfl⟩
  refine ⟨_, rfl, ?_⟩
  refine sxl_y (wn_none rfl) rfl rfl (yp rfl) ?_
  refine sxl_nil ?_
  refine qx_seq ?_
  refine sx_seq ?_
  refine sx_region ?_
  refine sxl_y (wn_none rfl) rfl rfl (yp rfl) ?_
  refine sxl_y (wn_none rfl) rfl rfl (y_neq_f rfl rfl rfl (by omega)) ?_
  refine sxl_nil ?_
  refine qx_seq ?_
  refine sx_false rfl ?_
  refine sx_skip ?_
  refine qx_seq ?_
  refine sx_seq ?_
  refine sx_seq ?_
  refine sx_region ?_
  refine sxl_y (wn_none rfl) rfl rfl (y_loadB rfl rfl hb1 Try.underlying25 rfl plan_size (Nat.le_refl _)) ?_
  refine sxl_call (some 12) (wn_none rfl) rfl rfl (yc_call rfl rfl Try.call28) (may_f v torn cut w1 hc) ?_
  rintro _ w2 ⟨rfl, hf2⟩
  refine ⟨_, rfl, ?_⟩
  refine sxl_y (wn_none rfl) rfl rfl (yp rfl) ?_
  refine sxl_nil ?_
  refine qx_seq ?_
  refine sx_true rfl ?_
  refine sx_seq ?_
  refine sx_region ?_
  refine sxl_y (wn_none rfl) rfl rfl (yp rfl) ?_
  refine sxl_nil ?_
  refine qx_seq ?_
  refine sx_ret ?_
  refine qx_then_ret ?_
  refine qx_ret1 rfl rfl ?_
  exact ⟨rfl, hf1.then0 hf2⟩
theorem crashC_ok (A : Option Addr) (c : Nat) (keep : List Bool) (torn : Int) (cut : Nat) (w : World) (L : DL) (s : DS) (h : DkAt w L s) (hd : s.dead = false) (hk : Rd w A keep.length (boolsV keep)) (hkn : 0 < keep.length → ∀ b off, A = some ⟨b, off, none⟩ → ¬ L.blocks b) (hcut : cut ≤ 128) :
    Calls Try.prog 12 #[.pointer (some ⟨L.gd, 0, none⟩), .agg #[.slice A keep.length c, .int .i64 torn, .int .i64 (cut : Int)]] w fun e w' => ∃ L', e = .returned (.int .i64 0) ∧ DkTo w w' L L' (s.crash keep torn cut) := by
  refine sx_enter (vs := [_, _]) Try.func12 rfl Try.ntmps12 rfl ?_
  refine sx_seq ?_
  refine sx_region ?_
  refine sxl_does (some 3) (wn_none rfl) rfl rfl (fun ρ hρ => does_box 25 (.tmp 1) rfl [.slice A keep.length c, .int .i64 torn, .int .i64 (cut : Int)] (by rw [hρ _ _ rfl]; rfl)) ?_
  rintro _ w1 ⟨g3, rfl, h3, h3', hb1, hf1⟩
  refine sxl_y (wn_none rfl) rfl rfl (yp rfl) ?_
  refine sxl_nil ?_
  refine qx_seq ?_
  refine sx_seq ?_
  refine sx_seq ?_
  refine sx_region ?_
  refine sxl_y (wn_none rfl) rfl rfl (yp rfl) ?_
  refine sxl_call (some 7) (wn_none rfl) rfl rfl (yc_call rfl rfl Try.call25) (alive_ok w1 L s (h.fr0 hf1) hd) ?_
  rintro _ _ ⟨rfl, rfl⟩
  refine ⟨_, rfl, ?_⟩
  refine sxl_y (wn_none rfl) rfl rfl (yp rfl) ?_
  refine sxl_nil ?_
  refine qx_seq ?_
  refine sx_seq ?_
  refine sx_region ?_
  refine sxl_y (wn_none rfl) rfl rfl (yp rfl) ?_
  refine sxl_y (wn_none rfl) rfl rfl (y_neq_f rfl rfl rfl (by omega)) ?_
  refine sxl_nil ?_
  refine qx_seq ?_
  refine sx_false rfl ?_
  refine sx_skip ?_
  refine qx_seq ?_
  refine sx_seq ?_
  refine sx_seq ?_
  refine sx_region ?_
  refine sxl_y (wn_none rfl) rfl rfl (y_loadB rfl rfl hb1 Try.underlying25 rfl plan_size (Nat.le_refl _)) ?_
  refine sxl_call (some 12) (wn_none rfl) rfl rfl (yc_call rfl rfl Try.call28) (may_t _ torn cut w1 hcut) ?_
  rintro _ w2 ⟨rfl, hf2⟩
  refine ⟨_, rfl, ?_⟩
  have hb2 := hb1.fr0 hf2
  refine sxl_y (wn_none rfl) rfl rfl (yp rfl) ?_
  refine sxl_nil ?_
  refine qx_seq ?_
  refine sx_false rfl ?_
  refine sx_skip ?_
  refine qx_seq ?_
  refine sx_seq ?_
  refine sx_region ?_
  refine sxl_y (wn_none rfl) rfl rfl (yp rfl) ?_
  refine sxl_y (wn_none rfl) rfl rfl (y_loadB rfl rfl hb2 Try.underlying25 rfl plan_size (Nat.le_refl _)) ?_
  have hf := hf1.then0 hf2
  refine sxl_call (some 16) (wn_none rfl) rfl rfl (yc_call rfl rfl Try.call27) (crash_any w2 L s (h.fr0 hf) A c keep torn cut (hk.fr0 hf) hkn hcut) ?_
  rintro _ w6 ⟨rfl, h6, hf6⟩
  refine ⟨_, rfl, ?_⟩
  refine sxl_nil ?_
  refine qx_seq ?_
  refine sx_seq ?_
  refine sx_region ?_
  refine sxl_y (wn_none rfl) rfl rfl (yp rfl) ?_
  refine sxl_nil ?_
  refine qx_seq ?_
  refine sx_ret ?_
  refine qx_ret1 rfl rfl ?_
  exact ⟨_, rfl, DkTo.crash ⟨h.fr0 hf, rfl, Fr.of0 hf, fun b hb => .inl hb, rfl⟩ h6 hf6⟩

def DS.fuse (s : DS) (k : Nat) (keep : List Bool) (torn : Int) (cut : Nat) : DS := { s with fset := true, left := k, keep := keep, torn := torn, cut := cut }
theorem fuse_nil (k : Int) (v : Value) (torn cut : Int) (w : World) : Calls Try.prog 18 #[.pointer none, .int .i64 k, .agg #[v, .int .i64 torn, .int .i64 cut]] w fun e w' => e = .returned (.int .i64 2) ∧ Fr0 w w' := by
  refine sx_enter (vs := [_, _, _]) Try.func18 rfl Try.ntmps18 rfl ?_
  refine sx_seq ?_
  refine sx_region ?_
  refine sxl_does (some 5) (wn_none rfl) rfl rfl (fun ρ hρ => does_box 25 (.tmp 2) rfl [v, .int .i64 torn, .int .i64 cut] (by rw [hρ _ _ rfl]; rfl)) ?_
  rintro _ w1 ⟨g3, rfl, h3, h3', hb1, hf1⟩
  refine sxl_y (wn_none rfl) rfl rfl (yp rfl) ?_
  refine sxl_nil ?_
  refine qx_seq ?_
  refine sx_seq ?_
  refine sx_seq ?_
  refine sx_region ?_
  refine sxl_y (wn_none rfl) rfl rfl (yp rfl) ?_
  refine sxl_call (some 9) (wn_none rfl) rfl rfl (yc_call rfl rfl Try.call25) (alive_nil w1) ?_
  rintro _ _ ⟨rfl, rfl⟩
  refine ⟨_, rfl, ?_⟩
  refine sxl_y (wn_none rfl) rfl rfl (yp rfl) ?_
  refine sxl_nil ?_
  refine qx_seq ?_
  refine sx_seq ?_
  refine sx_region ?_
  refine sxl_y (wn_none rfl) rfl rfl (yp rfl) ?_
  refine sxl_y (wn_none rfl) rfl rfl (y_neq_t rfl rfl rfl (by omega)) ?_
  refine sxl_nil ?_
  refine qx_seq ?_
  refine sx_true rfl ?_
  refine sx_seq ?_
  refine sx_region ?_
  refine sxl_y (wn_none rfl) rfl rfl (yp rfl) ?_
  refine sxl_y (wn_none rfl) rfl rfl (yp rfl) ?_
  refine sxl_nil ?_
  refine qx_seq ?_
  refine sx_ret ?_
  refine qx_then_ret ?_
  refine qx_ret1 rfl rfl ?_
  exact ⟨rfl, hf1⟩
theorem fuse_dead (k : Int) (v : Value) (torn cut : Int) (w : World) (L : DL) (s : DS) (h : DkAt w L s) (hd : s.dead = true) : Calls Try.prog 18 #[.pointer (some ⟨L.gd, 0, none⟩), .int .i64 k, .agg #[v, .int .i64 torn, .int .i64 cut]] w fun e w' => e = .returned (.int .i64 20) ∧ Fr0 w w' := by
  refine sx_enter (vs := [_, _, _]) Try.func18 rfl Try.ntmps18 rfl ?_
  refine sx_seq ?_
  refine sx_region ?_
  refine sxl_does (some 5) (wn_none rfl) rfl rfl (fun ρ hρ => does_box 25 (.tmp 2) rfl [v, .int .i64 torn, .int .i64 cut] (by rw [hρ _ _ rfl]; rfl)) ?_
  rintro _ w1 ⟨g3, rfl, h3, h3', hb1, hf1⟩
  refine sxl_y (wn_none rfl) rfl rfl (yp rfl) ?_
  refine sxl_nil ?_
  refine qx_seq ?_
  refine sx_seq ?_
  refine sx_seq ?_
  refine sx_region ?_
  refine sxl_y (wn_none rfl) rfl rfl (yp rfl) ?_
  refine sxl_call (some 9) (wn_none rfl) rfl rfl (yc_call rfl rfl Try.call25) (alive_dead w1 L s (h.fr0 hf1) hd) ?_
  rintro _ _ ⟨rfl, rfl⟩
  refine ⟨_, rfl, ?_⟩
  refine sxl_y (wn_none rfl) rfl rfl (yp rfl) ?_
  refine sxl_nil ?_
  refine qx_seq ?_
  refine sx_seq ?_
  refine sx_region ?_
  refine sxl_y (wn_none rfl) rfl rfl (yp rfl) ?_
  refine sxl_y (wn_none rfl) rfl rfl (y_neq_t rfl rfl rfl (by omega)) ?_
  refine sxl_nil ?_
  refine qx_seq ?_
  refine sx_true rfl ?_
  refine sx_seq ?_
  refine sx_region ?_
  refine sxl_y (wn_none rfl) rfl rfl (yp rfl) ?_
  refine sxl_y (wn_none rfl) rfl rfl (yp rfl) ?_
  refine sxl_nil ?_
  refine qx_seq ?_
  refine sx_ret ?_
  refine qx_then_ret ?_
  refine qx_ret1 rfl rfl ?_
  exact ⟨rfl, hf1⟩
theorem fuse_arg (k : Int) (v : Value) (torn cut : Int) (w : World) (L : DL) (s : DS) (h : DkAt w L s) (hd : s.dead = false) (hc : ¬ (0 ≤ cut ∧ cut ≤ 128) ∨ k < 0) :
    Calls Try.prog 18 #[.pointer (some ⟨L.gd, 0, none⟩), .int .i64 k, .agg #[v, .int .i64 torn, .int .i64 cut]] w fun e w' => e = .returned (.int .i64 1) ∧ Fr0 w w' := by
  refine sx_enter (vs := [_, _, _]) Try.func18 rfl Try.ntmps18 rfl ?_
  refine sx_seq ?_
  refine sx_region ?_
  refine sxl_does (some 5) (wn_none rfl) rfl rfl (fun ρ hρ => does_box 25 (.tmp 2) rfl [v, .int .i64 torn, .int .i64 cut] (by rw [hρ _ _ rfl]; rfl)) ?_
  rintro _ w1 ⟨g3, rfl, h3, h3', hb1, hf1⟩
  refine sxl_y (wn_none rfl) rfl rfl (yp rfl) ?_
  refine sxl_nil ?_
  refine qx_seq ?_
  refine sx_seq ?_
  refine sx_seq ?_
  refine sx_region ?_
  refine sxl_y (wn_none rfl) rfl rfl (yp rfl) ?_
  refine sxl_call (some 9) (wn_none rfl) rfl rfl (yc_call rfl rfl Try.call25) (alive_ok w1 L s (h.fr0 hf1) hd) ?_
  rintro _ _ ⟨rfl, rfl⟩
  refine ⟨_, rfl, ?_⟩
  refine sxl_y (wn_none rfl) rfl rfl (yp rfl) ?_
  refine sxl_nil ?_
  refine qx_seq ?_
  refine sx_seq ?_
  refine sx_region ?_
  refine sxl_y (wn_none rfl) rfl rfl (yp rfl) ?_
  refine sxl_y (wn_none rfl) rfl rfl (y_neq_f rfl rfl rfl (by omega)) ?_
  refine sxl_nil ?_
  refine qx_seq ?_
  refine sx_false rfl ?_
  refine sx_skip ?_
  refine qx_seq ?_
  refine sx_seq ?_
  refine sx_seq ?_
  refine sx_region ?_
  refine sxl_y (wn_none rfl) rfl rfl (y_loadB rfl rfl hb1 Try.underlying25 rfl plan_size (Nat.le_refl _)) ?_
  by_cases hc1 : 0 ≤ cut ∧ cut ≤ 128
  · have hk : k < 0 := hc.resolve_left (fun h => h hc1)
    obtain ⟨c, rfl⟩ := Int.eq_ofNat_of_zero_le hc1.1
    refine sxl_call (some 14) (wn_none rfl) rfl rfl (yc_call rfl rfl Try.call28) (may_t v torn c w1 (by omega)) ?_
    rintro _ w2 ⟨rfl, hf2⟩
    refine ⟨_, rfl, ?_⟩
    refine sxl_y (wn_none rfl) rfl rfl (yp rfl) ?_
    refine sxl_y (wn_none rfl) rfl rfl (yp rfl) ?_
    refine sxl_y (wn_on rfl rfl rfl) rfl rfl (yp rfl) ?_
    refine sxl_y (wn_on rfl rfl rfl) rfl rfl (y_lss_t rfl rfl rfl (by omega)) ?_
    refine sxl_y (wn_none rfl) rfl rfl (yp rfl) ?_
    refine sxl_nil ?_
    refine qx_seq ?_
    refine sx_true rfl ?_
    refine sx_seq ?_
    refine sx_region ?_
    refine sxl_y (wn_none rfl) rfl rfl (yp rfl) ?_
    refine sxl_nil ?_
    refine qx_seq ?_
    refine sx_ret ?_
    refine qx_then_ret ?_
    refine qx_ret1 rfl rfl ?_
    exact ⟨rfl, hf1.then0 hf2⟩
  · refine sxl_call (some 14) (wn_none rfl) rfl rfl (yc_call rfl rfl Try.call28) (may_f v torn cut w1 hc1) ?_
    rintro _ w2 ⟨rfl, hf2⟩
    refine ⟨_, rfl, ?_⟩
    refine sxl_y (wn_none rfl) rfl rfl (yp rfl) ?_
    refine sxl_y (wn_none rfl) rfl rfl (yp rfl) ?_
    refine sxl_off rfl rfl rfl rfl rfl rfl ?_
    refine sxl_off rfl rfl rfl rfl rfl rfl ?_
    refine sxl_y (wn_none rfl) rfl rfl (yp rfl) ?_
    refine sxl_nil ?_
    refine qx_seq ?_
    refine sx_true rfl ?_
    refine sx_seq ?_
    refine sx_region ?_
    refine sxl_y (wn_none rfl) rfl rfl (yp rfl) ?_
    refine sxl_nil ?_
    refine qx_seq ?_
    refine sx_ret ?_
    refine qx_then_ret ?_
    refine qx_ret1 rfl rfl ?_
    exact ⟨rfl, hf1.then0 hf2⟩
/-- What a fuse leaves. -/
structure FuTo (w w' : World) (L L' : DL) (s' : DS) : Prop where
  dk : DkAt w' L' s'
  gd : L'.gd = L.gd
  vl : L'.vl = L.vl
  vs : L'.vs = L.vs
  vw : L'.vw = L.vw
  fr : Fr (fun b => b = L.gd) w w'
  kA : ∀ b off, L'.kA = some ⟨b, off, none⟩ → w.heap.size ≤ b
theorem bools_one (l : List Bool) : ∀ u ∈ boolsV l, u.oneCell' = true := by
  intro u hu
  obtain ⟨c, _, rfl⟩ := List.mem_map.1 hu
  rfl
theorem fuse_size : (Try.prog.info? 61).map (·.size) = some 5 := by kernel_rfl
theorem fuse_ok (k : Nat) (A : Option Addr) (c : Nat) (keep : List Bool) (torn : Int) (cut : Nat) (w : World) (L : DL) (s : DS) (h : DkAt w L s) (hd : s.dead = false) (hk : Rd w A keep.length (boolsV keep)) (hN : A = none → c = 0) (hkm : keep.length ≤ 140737488351232) (hcut : cut ≤ 128) (hkl : (k : Int) < 9223372036854775808) :
    Calls Try.prog 18 #[.pointer (some ⟨L.gd, 0, none⟩), .int .i64 (k : Int), .agg #[.slice A keep.length c, .int .i64 torn, .int .i64 (cut : Int)]] w fun e w' => ∃ L', e = .returned (.int .i64 0) ∧ FuTo w w' L L' (s.fuse k keep torn cut) := by
  refine sx_enter (vs := [_, _, _]) Try.func18 rfl Try.ntmps18 rfl ?_
  refine sx_seq ?_
  refine sx_region ?_
  refine sxl_does (some 5) (wn_none rfl) rfl rfl (fun ρ hρ => does_box 25 (.tmp 2) rfl [.slice A keep.length c, .int .i64 torn, .int .i64 (cut : Int)] (by rw [hρ _ _ rfl]; rfl)) ?_
  rintro _ w1 ⟨g3, rfl, h3, h3', hb1, hf1⟩
  refine sxl_y (wn_none rfl) rfl rfl (yp rfl) ?_
  refine sxl_nil ?_
  refine qx_seq ?_
  refine sx_seq ?_
  refine sx_seq ?_
  refine sx_region ?_
  refine sxl_y (wn_none rfl) rfl rfl (yp rfl) ?_
  refine sxl_call (some 9) (wn_none rfl) rfl rfl (yc_call rfl rfl Try.call25) (alive_ok w1 L s (h.fr0 hf1) hd) ?_
  rintro _ _ ⟨rfl, rfl⟩
  refine ⟨_, rfl, ?_⟩
  refine sxl_y (wn_none rfl) rfl rfl (yp rfl) ?_
  refine sxl_nil ?_
  refine qx_seq ?_
  refine sx_seq ?_
  refine sx_region ?_
  refine sxl_y (wn_none rfl) rfl rfl (yp rfl) ?_
  refine sxl_y (wn_none rfl) rfl rfl (y_neq_f rfl rfl rfl (by omega)) ?_
  refine sxl_nil ?_
  refine qx_seq ?_
  refine sx_false rfl ?_
  refine sx_skip ?_
  refine qx_seq ?_
  refine sx_seq ?_
  refine sx_seq ?_
  refine sx_region ?_
  refine sxl_y (wn_none rfl) rfl rfl (y_loadB rfl rfl hb1 Try.underlying25 rfl plan_size (Nat.le_refl _)) ?_
  refine sxl_call (some 14) (wn_none rfl) rfl rfl (yc_call rfl rfl Try.call28) (may_t _ torn cut w1 hcut) ?_
  rintro _ w2 ⟨rfl, hf2⟩
  refine ⟨_, rfl, ?_⟩
  have hb2 := hb1.fr0 hf2
  have hz1 := hf1.size
  have hz2 := hf2.size
  have c0 : Cell w2.heap g3 0 (.slice A keep.length c) := hb2.c 0 rfl
  have hf12 := hf1.then0 hf2
  refine sxl_y (wn_none rfl) rfl rfl (yp rfl) ?_
  refine sxl_y (wn_none rfl) rfl rfl (yp rfl) ?_
  refine sxl_y (wn_on rfl rfl rfl) rfl rfl (yp rfl) ?_
  refine sxl_y (wn_on rfl rfl rfl) rfl rfl (y_lss_f rfl rfl rfl (by omega)) ?_
  refine sxl_y (wn_none rfl) rfl rfl (yp rfl) ?_
  refine sxl_nil ?_
  refine qx_seq ?_
  refine sx_false rfl ?_
  refine sx_skip ?_
  refine qx_seq ?_
  refine sx_seq ?_
  refine sx_region ?_
  refine sxl_y (wn_none rfl) rfl rfl (yp rfl) ?_
  refine sxl_y (wn_none rfl) rfl rfl (y_load rfl rfl (sc rfl) (by assumption)) ?_
  refine sxl_call (some 22) (wn_none rfl) rfl rfl (yc_call rfl rfl Try.call31) (cloneBool A keep.length c (boolsV keep) w2 hkm (by rw [Nat.mul_one]; exact hk.fr0 hf12) (bools_one _) hN) ?_
  rintro _ w3 ⟨v, rfl, ho3, hf3⟩
  refine ⟨_, rfl, ?_⟩
  obtain ⟨A', c', rfl, _, hcm, hrd3, hA'⟩ := own_form ho3
  have hb3 := hb2.fr0 hf3
  have hz3 := hf3.size
  refine sxl_y (wn_none rfl) rfl rfl (yp rfl) ?_
  refine sxl_does none (wn_none rfl) rfl rfl (fun ρ hρ => does_store1 23 (.tmp 23) (.tmp 22) rfl g3 0 25 _ _ (hρ _ _ rfl) (hρ _ _ rfl) rfl hb3 (by kernel_rfl) (by simp) rfl) ?_
  rintro _ w4 ⟨rfl, hb4, hf4⟩
  have hd4 := (((h.hd.fr0 hf12).fr0 hf3).fr hf4 (by have := h.hd.lt; omega))
  have hgl := h.hd.lt
  refine sxl_nil ?_
  refine qx_seq ?_
  refine sx_seq ?_
  refine sx_region ?_
  refine sxl_y (wn_none rfl) rfl rfl (yp rfl) ?_
  refine sxl_y (wn_none rfl) rfl rfl (yp rfl) ?_
  refine sxl_y (wn_none rfl) rfl rfl (y_loadB rfl rfl hb4 Try.underlying25 rfl plan_size (Nat.le_refl _)) ?_
  refine sxl_y (wn_none rfl) rfl rfl (y_build (cells := #[.bool true, .int .i64 (k : Int), .slice A' keep.length c', .int .i64 torn, .int .i64 (cut : Int)]) rfl rfl (by kernel_rfl)) ?_
  refine sxl_y (wn_none rfl) rfl rfl (yp rfl) ?_
  refine sxl_y (wn_none rfl) rfl rfl (yp rfl) ?_
  refine sxl_does none (wn_none rfl) rfl rfl (fun ρ hρ => does_store 61 (.tmp 29) (.tmp 27) rfl L.gd 5 63 (s.cells L) [.bool true, .int .i64 (k : Int), .slice A' keep.length c', .int .i64 torn, .int .i64 (cut : Int)] (hρ _ _ rfl) (hρ _ _ rfl) hd4 fuse_size (by simp [DS.cells]) (by intro u hu; simp only [List.mem_cons, List.not_mem_nil, or_false] at hu; rcases hu with rfl | rfl | rfl | rfl | rfl <;> rfl)) ?_
  rintro _ w5 ⟨rfl, hb5, hf5⟩
  refine sxl_nil ?_
  refine qx_seq ?_
  refine sx_seq ?_
  refine sx_region ?_
  refine sxl_y (wn_none rfl) rfl rfl (yp rfl) ?_
  refine sxl_nil ?_
  refine qx_seq ?_
  refine sx_ret ?_
  refine qx_ret1 rfl rfl ?_
  have hf05 : Fr (fun b => b = L.gd) w w5 := ((Fr.of0 (hf12.then0 hf3)).step hf4 (fun b hb e => by omega)).step hf5 (fun _ _ e => e)
  refine ⟨{ L with kA := A', kc := c' }, rfl, ⟨⟨?_, hb5, ?_, ?_, ?_, ?_, h.ne, ?_⟩, rfl, rfl, rfl, rfl, hf05, ?_⟩⟩
  · exact ⟨h.wf.pos, h.wf.le, h.wf.sl, h.wf.al, h.wf.ash, h.wf.aw, hcut, hkl⟩
  · exact ownN_fr h.hl hf05 (fun _ e => h.l_gd e)
  · exact ownN_fr h.hs hf05 (fun _ e => h.s_gd e)
  · exact ownN_fr h.hw hf05 (fun _ e => h.w_gd e)
  · exact (hrd3.fr hf4 (fun hp b off e e' => by have := (hA' b off e).1; omega)).fr hf5 (fun hp b off e e' => by have := (hA' b off e).1; omega)
  · intro hp b off e hbl
    have h1 := (hA' b off e).1
    have h2 := h.lt (b := b) hbl
    omega
  · intro b off e
    have h1 := (hA' b off e).1
    omega
end Go.Proofs.Ytbfeailalhddgaa
