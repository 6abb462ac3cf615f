/- The document's disk: Write, Flush. -/
import Derived.Test.YtbfeailalhddgaaRef4
namespace Go.Proofs.Ytbfeailalhddgaa
open Go.RowKit

theorem info_rwrite : (Try.prog.info? 85).map (fun i => (i.zero, i.size, i.bytes)) = some (some (.agg #[.int .i64 0, .slice none 0 0]), 2, 32) := by kernel_rfl
theorem rwrite_dead (i : Int) (v : Value) (w : World) (R : RL) (s : DS) (h : RkAt w R s) (hd : s.dead = true) : Calls Try.prog 34 #[.pointer (some ⟨R.gd, 0, none⟩), .int .i64 i, v] w fun e w' => e = .returned (.int .i64 20) ∧ w = w' := by
  have c3 := h.c3
  rw [hd] at c3
  refine sx_enter (vs := [_, _, _]) Try.func34 rfl Try.ntmps34 rfl ?_
  refine sx_seq ?_
  refine sx_region ?_
  refine sxl_y (wn_none rfl) rfl rfl (yp rfl) ?_
  refine sxl_nil ?_
  refine qx_seq ?_
  refine sx_seq ?_
  refine sx_seq ?_
  refine sx_region ?_
  refine sxl_y (wn_none rfl) rfl rfl (yp rfl) ?_
  refine sxl_y (wn_none rfl) rfl rfl (yp rfl) ?_
  refine sxl_y (wn_none rfl) rfl rfl (yp rfl) ?_
  refine sxl_y (wn_none rfl) rfl rfl (y_load rfl rfl (sc rfl) (by assumption)) ?_
  refine sxl_nil ?_
  refine qx_seq ?_
  refine sx_true rfl ?_
  refine sx_seq ?_
  refine sx_region ?_
  refine sxl_y (wn_none rfl) rfl rfl (yp rfl) ?_
  refine sxl_nil ?_
  refine qx_seq ?_
  refine sx_ret ?_
  refine qx_then_ret ?_
  refine qx_ret1 rfl rfl ?_
  exact ⟨rfl, rfl⟩
theorem rwrite_arg (i : Int) (A : Option Addr) (len cap : Nat) (w : World) (R : RL) (s : DS) (h : RkAt w R s) (hd : s.dead = false) (hbad : i < 0 ∨ (s.lasts.length : Int) ≤ i ∨ len ≠ 128) : Calls Try.prog 34 #[.pointer (some ⟨R.gd, 0, none⟩), .int .i64 i, .slice A len cap] w fun e w' => e = .returned (.int .i64 1) ∧ w = w' := by
  have c3 := h.c3
  rw [hd] at c3
  obtain ⟨lA, lc, e, _⟩ := h.vl
  have c0 := h.c0
  rw [e] at c0
  refine sx_enter (vs := [_, _, _]) Try.func34 rfl Try.ntmps34 rfl ?_
  by_cases h0 : i < 0
  · refine sx_seq ?_
    refine sx_region ?_
    refine sxl_y (wn_none rfl) rfl rfl (yp rfl) ?_
    refine sxl_nil ?_
    refine qx_seq ?_
    refine sx_seq ?_
    refine sx_seq ?_
    refine sx_region ?_
    refine sxl_y (wn_none rfl) rfl rfl (yp rfl) ?_
    refine sxl_y (wn_none rfl) rfl rfl (yp rfl) ?_
    refine sxl_y (wn_none rfl) rfl rfl (yp rfl) ?_
    refine sxl_y (wn_none rfl) rfl rfl (y_load rfl rfl (sc rfl) (by assumption)) ?_
    refine sxl_nil ?_
    refine qx_seq ?_
    refine sx_false rfl ?_
    refine sx_skip ?_
    refine qx_seq ?_
    refine sx_seq ?_
    refine sx_seq ?_
    refine sx_region ?_
    refine sxl_y (wn_none rfl) rfl rfl (yp rfl) ?_
    refine sxl_y (wn_none rfl) rfl rfl (y_lss_t rfl rfl rfl (by omega)) ?_
    refine sxl_y (wn_none rfl) rfl rfl (yp rfl) ?_
    refine sxl_off rfl rfl rfl rfl rfl rfl ?_
    refine sxl_off rfl rfl rfl rfl rfl rfl ?_
    refine sxl_off rfl rfl rfl rfl rfl rfl ?_
    refine sxl_off rfl rfl rfl rfl rfl rfl ?_
    refine sxl_off rfl rfl rfl rfl rfl rfl ?_
    refine sxl_off rfl rfl rfl rfl rfl rfl ?_
    refine sxl_off rfl rfl rfl rfl rfl rfl ?_
    refine sxl_y (wn_none rfl) rfl rfl (yp rfl) ?_
    refine sxl_y (wn_none rfl) rfl rfl (yp rfl) ?_
    refine sxl_off rfl rfl rfl rfl rfl rfl ?_
    refine sxl_off rfl rfl rfl rfl rfl rfl ?_
    refine sxl_off rfl rfl rfl rfl rfl rfl ?_
    refine sxl_y (wn_none rfl) rfl rfl (yp rfl) ?_
    refine sxl_nil ?_
    refine qx_seq ?_
    refine sx_true rfl ?_
    refine sx_seq ?_
    refine sx_region ?_
    refine sxl_y (wn_none rfl) rfl rfl (yp rfl) ?_
    refine sxl_nil ?_
    refine qx_seq ?_
    refine sx_ret ?_
    refine qx_then_ret ?_
    refine qx_ret1 rfl rfl ?_
    exact ⟨rfl, rfl⟩
  · by_cases h1 : (s.lasts.length : Int) ≤ i
    · refine sx_seq ?_
      refine sx_region ?_
      refine sxl_y (wn_none rfl) rfl rfl (yp rfl) ?_
      refine sxl_nil ?_
      refine qx_seq ?_
      refine sx_seq ?_
      refine sx_seq ?_
      refine sx_region ?_
      refine sxl_y (wn_none rfl) rfl rfl (yp rfl) ?_
      refine sxl_y (wn_none rfl) rfl rfl (yp rfl) ?_
      refine sxl_y (wn_none rfl) rfl rfl (yp rfl) ?_
      refine sxl_y (wn_none rfl) rfl rfl (y_load rfl rfl (sc rfl) (by assumption)) ?_
      refine sxl_nil ?_
      refine qx_seq ?_
      refine sx_false rfl ?_
      refine sx_skip ?_
      refine qx_seq ?_
      refine sx_seq ?_
      refine sx_seq ?_
      refine sx_region ?_
      refine sxl_y (wn_none rfl) rfl rfl (yp rfl) ?_
      refine sxl_y (wn_none rfl) rfl rfl (y_lss_f rfl rfl rfl (by omega)) ?_
      refine sxl_y (wn_none rfl) rfl rfl (yp rfl) ?_
      refine sxl_y (wn_on rfl rfl rfl) rfl rfl (yp rfl) ?_
      refine sxl_y (wn_on rfl rfl rfl) rfl rfl (yp rfl) ?_
      refine sxl_y (wn_on rfl rfl rfl) rfl rfl (yp rfl) ?_
      refine sxl_y (wn_on rfl rfl rfl) rfl rfl (yp rfl) ?_
      refine sxl_y (wn_on rfl rfl rfl) rfl rfl (y_load rfl rfl (sc rfl) (by assumption)) ?_
      refine sxl_y (wn_on rfl rfl rfl) rfl rfl (y_len rfl rfl (sl rfl)) ?_
      refine sxl_y (wn_on rfl rfl rfl) rfl rfl (y_geq_t rfl rfl rfl (by omega)) ?_
      refine sxl_y (wn_none rfl) rfl rfl (yp rfl) ?_
      refine sxl_y (wn_none rfl) rfl rfl (yp rfl) ?_
      refine sxl_off rfl rfl rfl rfl rfl rfl ?_
      refine sxl_off rfl rfl rfl rfl rfl rfl ?_
      refine sxl_off rfl rfl rfl rfl rfl rfl ?_
      refine sxl_y (wn_none rfl) rfl rfl (yp rfl) ?_
      refine sxl_nil ?_
      refine qx_seq ?_
      refine sx_true rfl ?_
      refine sx_seq ?_
      refine sx_region ?_
      refine sxl_y (wn_none rfl) rfl rfl (yp rfl) ?_
      refine sxl_nil ?_
      refine qx_seq ?_
      refine sx_ret ?_
      refine qx_then_ret ?_
      refine qx_ret1 rfl rfl ?_
      exact ⟨rfl, rfl⟩
    · refine sx_seq ?_
      refine sx_region ?_
      refine sxl_y (wn_none rfl) rfl rfl (yp rfl) ?_
      refine sxl_nil ?_
      refine qx_seq ?_
      refine sx_seq ?_
      refine sx_seq ?_
      refine sx_region ?_
      refine sxl_y (wn_none rfl) rfl rfl (yp rfl) ?_
      refine sxl_y (wn_none rfl) rfl rfl (yp rfl) ?_
      refine sxl_y (wn_none rfl) rfl rfl (yp rfl) ?_
      refine sxl_y (wn_none rfl) rfl rfl (y_load rfl rfl (sc rfl) (by assumption)) ?_
      refine sxl_nil ?_
      refine qx_seq ?_
      refine sx_false rfl ?_
      refine sx_skip ?_
      refine qx_seq ?_
      refine sx_seq ?_
      refine sx_seq ?_
      refine sx_region ?_
      refine sxl_y (wn_none rfl) rfl rfl (yp rfl) ?_
      refine sxl_y (wn_none rfl) rfl rfl (y_lss_f rfl rfl rfl (by omega)) ?_
      refine sxl_y (wn_none rfl) rfl rfl (yp rfl) ?_
      refine sxl_y (wn_on rfl rfl rfl) rfl rfl (yp rfl) ?_
      refine sxl_y (wn_on rfl rfl rfl) rfl rfl (yp rfl) ?_
      refine sxl_y (wn_on rfl rfl rfl) rfl rfl (yp rfl) ?_
      refine sxl_y (wn_on rfl rfl rfl) rfl rfl (yp rfl) ?_
      refine sxl_y (wn_on rfl rfl rfl) rfl rfl (y_load rfl rfl (sc rfl) (by assumption)) ?_
      refine sxl_y (wn_on rfl rfl rfl) rfl rfl (y_len rfl rfl (sl rfl)) ?_
      refine sxl_y (wn_on rfl rfl rfl) rfl rfl (y_geq_f rfl rfl rfl (by omega)) ?_
      refine sxl_y (wn_none rfl) rfl rfl (yp rfl) ?_
      refine sxl_y (wn_none rfl) rfl rfl (yp rfl) ?_
      refine sxl_y (wn_on rfl rfl rfl) rfl rfl (yp rfl) ?_
      refine sxl_y (wn_on rfl rfl rfl) rfl rfl (y_len rfl rfl (sl rfl)) ?_
      refine sxl_y (wn_on rfl rfl rfl) rfl rfl (y_neq_t rfl rfl rfl (by omega)) ?_
      refine sxl_y (wn_none rfl) rfl rfl (yp rfl) ?_
      refine sxl_nil ?_
      refine qx_seq ?_
      refine sx_true rfl ?_
      refine sx_seq ?_
      refine sx_region ?_
      refine sxl_y (wn_none rfl) rfl rfl (yp rfl) ?_
      refine sxl_nil ?_
      refine qx_seq ?_
      refine sx_ret ?_
      refine qx_then_ret ?_
      refine qx_ret1 rfl rfl ?_
      exact ⟨rfl, rfl⟩
theorem RkAt.kform {w : World} {R : RL} {s : DS} (h : RkAt w R s) : ∃ A c, R.kv = .slice A s.keep.length c ∧ Rd w A s.keep.length (boolsV s.keep) ∧ (∀ b off, A = some ⟨b, off, none⟩ → R.kv.ownBlock = some b) ∧ (A = none → c = 0) := by
  rcases h.hk.2 with ⟨e, h0⟩ | ⟨g, cap, cur, e, _⟩
  · have hk : s.keep = [] := List.eq_nil_of_length_eq_zero h0
    exact ⟨none, 0, by rw [e, h0], by rw [hk]; exact Rd.nil, (fun b off e' => by cases e'), fun _ => rfl⟩
  · exact ⟨_, cap, e, Rd.of_own (e ▸ h.hk), (fun b off e' => by injection e' with e'; injection e' with e1 _ _; subst e1; rw [e]; rfl), fun e' => by cases e'⟩
/-- The crash that the disk's own plan says. -/
theorem rcrash_own {w : World} {R : RL} {s : DS} (h : RkAt w R s) (hd : s.dead = false) (hwm : s.waits.length ≤ 1073741824) :
    Calls Try.prog 36 #[.pointer (some ⟨R.gd, 0, none⟩), .agg #[R.kv, .int .i64 s.torn, .int .i64 (s.cut : Int)]] w fun e w' => ∃ R', e = .returned (.int .i64 0) ∧ RkTo w w' R R' (s.crash s.keep s.torn s.cut) := by
  obtain ⟨A, c, e, hr, hA, _⟩ := h.kform
  rw [e]
  refine rcrash_ok A c s.keep s.torn s.cut w R s h hd hr (fun _ b off e' hb => ?_) h.wf.cut hwm
  obtain ⟨cs, hc⟩ := own_ty h.hk (hA b off e')
  exact h.onot hc (by decide) hb
theorem own_one' {w : World} {base size n : Nat} {e : TypeId} {v : Value} {xs : List Value} (h : w.ownsRow base e size v n xs) : v.cells.size = 1 := by rw [own_cells h]; rfl
set_option maxHeartbeats 8000000 in
theorem rwrite_ok (i : Nat) (b : List UInt8) (A : Option Addr) (cap : Nat) (w : World) (R : RL) (s : DS) (h : RkAt w R s) (hd : s.dead = false) (hi : i < s.lasts.length) (hb : b.length = 128) (hr : Rd w A 128 (bvs b)) (hnb : ∀ g off, A = some ⟨g, off, none⟩ → ¬ R.own g) (hwm : s.waits.length ≤ 1073741823) (hdm : s.done ≤ 1073741824) :
    Calls Try.prog 34 #[.pointer (some ⟨R.gd, 0, none⟩), .int .i64 (i : Int), .slice A 128 cap] w fun e w' => ∃ R', e = .returned (.int .i64 (s.writes i b).2) ∧ RkTo w w' R R' (s.writes i b).1 := by
  have c3 := h.c3
  rw [hd] at c3
  obtain ⟨lA, lc, el, _⟩ := h.vl
  have c0 := h.c0
  rw [el] at c0
  refine sx_enter (vs := [_, _, _]) Try.func34 rfl Try.ntmps34 rfl ?_
  refine sx_seq ?_
  refine sx_region ?_
  refine sxl_y (wn_none rfl) rfl rfl (yp rfl) ?_
  refine sxl_nil ?_
  refine qx_seq ?_
  refine sx_seq ?_
  refine sx_seq ?_
  refine sx_region ?_
  refine sxl_y (wn_none rfl) rfl rfl (yp rfl) ?_
  refine sxl_y (wn_none rfl) rfl rfl (yp rfl) ?_
  refine sxl_y (wn_none rfl) rfl rfl (yp rfl) ?_
  refine sxl_y (wn_none rfl) rfl rfl (y_load rfl rfl (sc rfl) (by assumption)) ?_
  refine sxl_nil ?_
  refine qx_seq ?_
  refine sx_false rfl ?_
  refine sx_skip ?_
  refine qx_seq ?_
  refine sx_seq ?_
  refine sx_seq ?_
  refine sx_region ?_
  refine sxl_y (wn_none rfl) rfl rfl (yp rfl) ?_
  refine sxl_y (wn_none rfl) rfl rfl (y_lss_f rfl rfl rfl (by omega)) ?_
  refine sxl_y (wn_none rfl) rfl rfl (yp rfl) ?_
  refine sxl_y (wn_on rfl rfl rfl) rfl rfl (yp rfl) ?_
  refine sxl_y (wn_on rfl rfl rfl) rfl rfl (yp rfl) ?_
  refine sxl_y (wn_on rfl rfl rfl) rfl rfl (yp rfl) ?_
  refine sxl_y (wn_on rfl rfl rfl) rfl rfl (yp rfl) ?_
  refine sxl_y (wn_on rfl rfl rfl) rfl rfl (y_load rfl rfl (sc rfl) (by assumption)) ?_
  refine sxl_y (wn_on rfl rfl rfl) rfl rfl (y_len rfl rfl (sl rfl)) ?_
  refine sxl_y (wn_on rfl rfl rfl) rfl rfl (y_geq_f rfl rfl rfl (by omega)) ?_
  refine sxl_y (wn_none rfl) rfl rfl (yp rfl) ?_
  refine sxl_y (wn_none rfl) rfl rfl (yp rfl) ?_
  refine sxl_y (wn_on rfl rfl rfl) rfl rfl (yp rfl) ?_
  refine sxl_y (wn_on rfl rfl rfl) rfl rfl (y_len rfl rfl (sl rfl)) ?_
  refine sxl_y (wn_on rfl rfl rfl) rfl rfl (y_neq_f rfl rfl rfl (by omega)) ?_
  refine sxl_y (wn_none rfl) rfl rfl (yp rfl) ?_
  refine sxl_nil ?_
  refine qx_seq ?_
  refine sx_false rfl ?_
  refine sx_skip ?_
  refine qx_seq ?_
  refine sx_seq ?_
  refine sx_region ?_
  refine sxl_y (wn_none rfl) rfl rfl (yp rfl) ?_
  refine sxl_call (some 29) (by first | exact wn_none rfl | exact wn_on rfl rfl rfl) rfl rfl (yc_call rfl rfl Try.call44) (due_ok w R s h) ?_
  rintro _ w1 ⟨rfl, h1⟩
  refine ⟨_, rfl, ?_⟩
  have hr1 := hr.fr h1.fr (fun _ b' o' e => hnb b' o' e)
  have hsl : s.burnt.lasts = s.lasts := by unfold DS.burnt; split <;> rfl
  have hsw : s.burnt.waits = s.waits := by unfold DS.burnt; split <;> rfl
  have hsd : s.burnt.done = s.done := by unfold DS.burnt; split <;> rfl
  have hsde : s.burnt.dead = s.dead := by unfold DS.burnt; split <;> rfl
  generalize hs1 : s.burnt = s1 at *
  have hR1 := h1.rk
  have cw1 := hR1.c1
  have hw1 := hR1.hw
  have hwn : ¬ R.vw.ownBlock = some R.gd := own_off hw1 hR1.hd (by decide)
  refine sxl_y (wn_none rfl) rfl rfl (yp rfl) ?_
  refine sxl_nil ?_
  refine qx_seq ?_
  refine sx_seq ?_
  refine sx_any 12 (fun w' => Cell w'.heap R.gd 1 R.vw ∧ True) hmix ?_
  have HS : Cell w1.drew.heap R.gd 1 R.vw ∧ True := ⟨cw1, trivial⟩
  refine sxo_y 0 12 (by kernel_rfl) (fun c a t v w h => by cases t <;> exact h) (by kernel_rfl) rfl (by kernel_rfl) (by kernel_rfl) rfl (wn_none rfl) rfl rfl HS (fun w' hS' => yp rfl) ?_
  refine sxo_y 1 12 (by kernel_rfl) (fun c a t v w h => by cases t <;> exact h) (by kernel_rfl) rfl (by kernel_rfl) (by kernel_rfl) rfl (wn_none rfl) rfl rfl HS (fun w' hS' => yp rfl) ?_
  refine sxo_y 2 12 (by kernel_rfl) (fun c a t v w h => by cases t <;> exact h) (by kernel_rfl) rfl (by kernel_rfl) (by kernel_rfl) rfl (wn_none rfl) rfl rfl HS (fun w' hS' => yp rfl) ?_
  refine sxo_y 3 12 (by kernel_rfl) (fun c a t v w h => by cases t <;> exact h) (by kernel_rfl) rfl (by kernel_rfl) (by kernel_rfl) rfl (wn_none rfl) rfl rfl HS (fun w' hS' => yp rfl) ?_
  refine sxo_y 4 12 (by kernel_rfl) (fun c a t v w h => by cases t <;> exact h) (by kernel_rfl) rfl (by kernel_rfl) (by kernel_rfl) rfl (wn_none rfl) rfl rfl HS (fun w' hS' => y_load rfl rfl (sc rfl) (by obtain ⟨s1, s2⟩ := hS'; assumption)) ?_
  refine sxo_y 5 12 (by kernel_rfl) (fun c a t v w h => by cases t <;> exact h) (by kernel_rfl) rfl (by kernel_rfl) (by kernel_rfl) rfl (wn_none rfl) rfl rfl HS (fun w' hS' => yp rfl) ?_
  refine sxo_y 7 12 (by kernel_rfl) (fun c a t v w h => by cases t <;> exact h) (by kernel_rfl) rfl (by kernel_rfl) (by kernel_rfl) rfl (wn_none rfl) rfl rfl HS (fun w' hS' => yp rfl) ?_
  refine sxo_does 6 (some 36) (by kernel_rfl) rfl (wn_none rfl) rfl rfl (fun ρ hρ => does_slice0 32 5 1 rfl Try.underlying32 (by kernel_rfl)) ?_
  rintro _ w2 ⟨g2, rfl, hg2, hg2', -, hf2, ho2⟩
  have hf2 := hf2.ofDrew
  have ho2 := ho2 w1.heap.size (Nat.le_refl _)
  refine ⟨fun _ => ⟨cw1.fr hf2 (fun hh => hh), trivial⟩, ?_⟩
  refine sxo_does 8 (some 38) (by kernel_rfl) rfl (wn_none rfl) rfl rfl (fun ρ hρ => does_append (.tmp 36) (.tmp 37) 32 rfl w1.heap.size 5 (.int .u8 0) 1 Try.underlying32 info_u8 rfl _ 0 [] (hρ _ _ rfl) ho2 A 128 cap (bvs b) (hρ _ _ rfl) (hr1.fr0 hf2) (bvs_one _) (by unfold maxLen; omega) (by omega) hf2.size) ?_
  rintro v3 w3 ⟨ho3, hg3, hv3⟩
  rw [Nat.zero_add, List.nil_append] at ho3
  have hF3 : Fr0 w1 w3 := hf2.app ho2 (Nat.le_refl _) hg3
  have HS3 : Cell w3.heap R.gd 1 R.vw ∧ True := ⟨cw1.fr hF3 (fun hh => hh), trivial⟩
  refine ⟨fun _ => HS3, ?_⟩
  obtain ⟨A3, c3', rfl, hN3⟩ := own_form0 ho3
  refine sxo_y 9 12 (by kernel_rfl) (fun c a t v w h => by cases t <;> exact h) (by kernel_rfl) rfl (by kernel_rfl) (by kernel_rfl) rfl (wn_none rfl) rfl rfl HS3 (fun w' hS' => y_build (cells := #[.int .i64 (i : Int), .slice A3 128 c3']) rfl rfl (by kernel_rfl)) ?_
  refine sxo_does 10 (some 40) (by kernel_rfl) rfl (wn_none rfl) rfl rfl (fun ρ hρ => does_slice (size := 2) [.agg #[.int .i64 (i : Int), .slice A3 128 c3']] (.agg #[.int .i64 0, .slice none 0 0]) hρ rfl rfl rfl rfl Try.underlying73 (by kernel_rfl) (by decide) (by decide) (by intro v hv; obtain rfl : v = _ := (by simpa using hv); rfl)) ?_
  rintro _ w4 ⟨g4, rfl, hg4, hg4', hb4, hf4⟩
  have hb4 : Blk w4 g4 85 (rrow (i, .slice A3 128 c3')) := by simpa [Value.cells, rrow] using hb4
  have hF4 := hF3.then0 hf4
  refine ⟨fun _ => ⟨cw1.fr hF4 (fun hh => hh), trivial⟩, ?_⟩
  have hw4 := ownN_fr hw1 hF4 (fun _ _ hh => hh)
  refine sxo_does 11 (some 41) (by kernel_rfl) rfl (wn_none rfl) rfl rfl (fun ρ hρ => does_appendN (.tmp 34) (.tmp 40) 73 rfl 0 85 _ 2 32 Try.underlying73 info_rwrite (by kernel_rfl) (by omega) R.vw s1.waits.length (flatR R.wv) (hρ _ _ rfl) hw4 (some ⟨g4, 0, none⟩) 1 1 (rrow (i, .slice A3 128 c3')) (hρ _ _ rfl)
    (Rd.ofBlk hb4 rfl) (by intro u hu; simp only [rrow, List.mem_cons, List.not_mem_nil, or_false] at hu; rcases hu with rfl | rfl <;> rfl) (by unfold maxLen; rw [hsw]; omega) (by rw [hsw]; omega) (Nat.zero_le _)) ?_
  rintro v5 w5 ⟨ho5, hg5, hv5⟩
  have hf5 : Fr (fun k => R.vw.ownBlock = some k) w4 w5 := Fr.grown (S := fun k => R.vw.ownBlock = some k) Fr.refl hg5 (fun k e _ => e)
  refine ⟨fun _ => ⟨(cw1.fr hF4 (fun hh => hh)).fr hf5 hwn, trivial⟩, ?_⟩
  refine sxo_seq 12 (by kernel_rfl) rfl rfl (by kernel_rfl) ?_
  have hd5 := (hR1.hd.fr0 hF4).fr hf5 hwn
  refine sxl_y (wn_none rfl) rfl rfl (yp rfl) ?_
  refine sxl_y (wn_none rfl) rfl rfl (yp rfl) ?_
  refine sxl_does none (wn_none rfl) rfl rfl (fun ρ hρ => does_store1 73 (.tmp 43) (.tmp 41) rfl R.gd 1 76 _ v5 (hρ _ _ rfl) (hρ _ _ rfl) (own_cells ho5) hd5 (by kernel_rfl) (by simp) (own_one ho5)) ?_
  rintro _ w6 ⟨rfl, hb6, hf6⟩
  have hF46 : Fr (fun k => R.vw.ownBlock = some k ∨ k = R.gd) w1 w6 := ((Fr.of0 hF4).step hf5 (fun _ _ e => .inl e)).step hf6 (fun _ _ e => .inr e)
  have hro : ∀ b, R.ro b → ¬ (R.vw.ownBlock = some b ∨ b = R.gd) := by
    rintro b' hb' (e | e)
    · obtain ⟨t, cs, hc, ht⟩ := hR1.rty hb'
      exact own_off hw1 hc (by rcases ht with rfl | rfl <;> decide) e
    · subst e; exact hR1.rnot hR1.hd (by decide) hb'
  have hz3 := hF3.size
  have hz4 := hf4.size
  have o6 : w6.ownsRow 0 5 1 (.slice A3 128 c3') 128 (bvs b) := by
    refine ownN_fr (ownN_fr (ownN_fr (own_base ho3 (Nat.zero_le _)) hf4 (fun _ _ hh => hh)) hf5 (fun k hk e => ?_)) hf6 (fun k hk e => ?_)
    · have := (ho3.lt k hk).1; have := (hw1.lt k e).2; omega
    · subst e; have := (ho3.lt _ hk).1; have := hR1.hd.lt; omega
  have hto : RkTo w w6 R { R with vw := v5, wv := R.wv ++ [(i, .slice A3 128 c3')] } (s1.put i b) := by
    refine h1.trans ⟨⟨DS.put_wf hR1.wf (by rw [hsl]; exact hi) hb, hb6, ?_, ?_, ?_, ?_, ?_, ?_⟩, rfl, hF46.mono ?_, ?_, ?_⟩
    · refine ownN_fr hR1.hl hF46 (fun k hk e => ?_)
      obtain ⟨cs, hc⟩ := own_ty hR1.hl hk
      rcases e with e | e
      · exact own_off hw1 hc (by decide) e
      · subst e; exact Blk.ne hc hR1.hd (by decide) rfl
    · exact hR1.hs.fr hF46 (fun v hv b' hb' => hro b' (.inl ⟨v, hv, hb'⟩))
    · have e1 : (s1.put i b).waits.length = s1.waits.length + 1 := by simp [DS.put]
      rw [e1, flatR_snoc]
      exact ownN_fr ho5 hf6 (fun k hk e => by subst e; exact own_off ho5 hd5 (by decide) hk)
    · show (R.wv ++ [_]).map _ = (s1.waits ++ [_]).map _
      rw [List.map_append, List.map_append, hR1.ha]; rfl
    · show Secs w6 ((R.wv ++ [_]).map _) ((s1.waits ++ [_]).map _)
      rw [List.map_append, List.map_append]
      exact Secs.snoc (hR1.hv.fr hF46 (fun v hv b' hb' => by obtain ⟨p, hp, rfl⟩ := List.mem_map.1 hv; exact hro b' (.inr (.inl ⟨p, hp, hb'⟩)))) o6
    · exact ownN_fr hR1.hk hF46 (fun k hk => hro k (.inr (.inr hk)))
    · rintro k _ (e | e)
      · exact .inr (.inr e)
      · exact .inl e
    · rintro k (hk | hk | hk)
      · exact .inl (.inl hk)
      · exact .inl (.inr (.inl hk))
      · rcases hv5 with e | e
        · left; right; right; rw [← e]; exact hk
        · right; have hk : v5.ownBlock = some k := hk; rw [e] at hk; injection hk with hk; omega
    · rintro k (⟨v, hv, hk⟩ | ⟨p, hp, hk⟩ | hk)
      · exact .inl (.inl ⟨v, hv, hk⟩)
      · rcases List.mem_append.1 hp with h' | h'
        · exact .inl (.inr (.inl ⟨p, h', hk⟩))
        · obtain rfl : p = _ := by simpa using h'
          right; exact (ho3.lt k hk).1
      · exact .inl (.inr (.inr hk))
  clear hb6 hd5 ho5 hw4 hb4 o6 hro hF46 hw1 cw1 HS HS3 c0 c3
  have hR6 := hto.rk
  by_cases hdue : s.due = true
  · rw [hdue]
    obtain rfl : s = s1 := by rw [← hs1, DS.burnt_due hdue]
    refine sxl_nil ?_
    refine qx_seq ?_
    refine sx_seq ?_
    refine sx_seq ?_
    refine sx_region ?_
    refine sxl_y (wn_none rfl) rfl rfl (yp rfl) ?_
    refine sxl_nil ?_
    refine qx_seq ?_
    refine sx_true rfl ?_
    refine sx_seq ?_
    refine sx_region ?_
    refine sxl_y (wn_none rfl) rfl rfl (yp rfl) ?_
    refine sxl_y (wn_none rfl) rfl rfl (yp rfl) ?_
    refine sxl_y (wn_none rfl) rfl rfl (yp rfl) ?_
    refine sxl_y (wn_none rfl) rfl rfl (yp rfl) ?_
    refine sxl_y (wn_none rfl) rfl rfl (y_loadB rfl rfl hR6.hd Try.underlying74 rfl rplan_size (by simp)) ?_
    refine sxl_call (some 50) (by first | exact wn_none rfl | exact wn_on rfl rfl rfl) rfl rfl (yc_call rfl rfl Try.call36) (rcrash_own (R := { R with vw := v5, wv := R.wv ++ [(i, .slice A3 128 c3')] }) hR6 hd (by simp only [DS.put, List.length_append, List.length_cons, List.length_nil]; omega)) ?_
    rintro _ w7 ⟨R7, rfl, h7⟩
    refine ⟨_, rfl, ?_⟩
    refine sxl_nil ?_
    refine qx_seq ?_
    refine sx_seq ?_
    refine sx_region ?_
    refine sxl_y (wn_none rfl) rfl rfl (yp rfl) ?_
    refine sxl_nil ?_
    refine qx_seq ?_
    refine sx_ret ?_
    refine qx_then_ret ?_
    refine qx_ret1 rfl rfl ?_
    have e : s.writes i b = ((s.put i b).crash s.keep s.torn s.cut, 20) := by unfold DS.writes; rw [if_pos hdue, DS.burnt_due hdue]
    rw [e]
    exact ⟨_, rfl, hto.trans h7⟩
  · have hdue : s.due = false := by simpa using hdue
    rw [hdue]
    have k2 : Cell w6.heap R.gd 2 (.int .i64 (s1.done : Int)) := hR6.c2
    have hdm1 : s1.done ≤ 1073741824 := by omega
    refine sxl_nil ?_
    refine qx_seq ?_
    refine sx_seq ?_
    refine sx_seq ?_
    refine sx_region ?_
    refine sxl_y (wn_none rfl) rfl rfl (yp rfl) ?_
    refine sxl_nil ?_
    refine qx_seq ?_
    refine sx_false rfl ?_
    refine sx_skip ?_
    refine qx_seq ?_
    refine sx_seq ?_
    refine sx_region ?_
    refine sxl_y (wn_none rfl) rfl rfl (yp rfl) ?_
    refine sxl_y (wn_none rfl) rfl rfl (yp rfl) ?_
    refine sxl_y (wn_none rfl) rfl rfl (yp rfl) ?_
    refine sxl_y (wn_none rfl) rfl rfl (y_load rfl rfl (sc rfl) (by assumption)) ?_
    refine sxl_y (wn_none rfl) rfl rfl (y_add rfl rfl rfl (by omega)) ?_
    refine sxl_y (wn_none rfl) rfl rfl (yp rfl) ?_
    refine sxl_y (wn_none rfl) rfl rfl (yp rfl) ?_
    refine sxl_does none (wn_none rfl) rfl rfl (fun ρ hρ => does_store1 3 (.tmp 57) (.tmp 55) rfl R.gd 2 76 _ (.int .i64 ((s1.done + 1 : Nat) : Int)) (hρ _ _ rfl) (hρ _ _ rfl) rfl hR6.hd (by kernel_rfl) (by simp) rfl) ?_
    rintro _ w7 ⟨rfl, hb7, hf7⟩
    refine sxl_nil ?_
    refine qx_seq ?_
    refine sx_seq ?_
    refine sx_region ?_
    refine sxl_y (wn_none rfl) rfl rfl (yp rfl) ?_
    refine sxl_nil ?_
    refine qx_seq ?_
    refine sx_ret ?_
    refine qx_ret1 rfl rfl ?_
    have e : s.writes i b = ((s1.put i b).more, 0) := by unfold DS.writes; rw [if_neg (by simp [hdue]), hs1]
    rw [e]
    exact ⟨_, rfl, hto.trans (hR6.upd (DS.more_wf hR6.wf) hb7 hf7 rfl rfl rfl)⟩
theorem rflush_dead (w : World) (R : RL) (s : DS) (h : RkAt w R s) (hd : s.dead = true) : Calls Try.prog 35 #[.pointer (some ⟨R.gd, 0, none⟩)] w fun e w' => e = .returned (.int .i64 20) ∧ w = w' := by
  have c3 := h.c3
  rw [hd] at c3
  refine sx_enter (vs := [_]) Try.func35 rfl Try.ntmps35 rfl ?_
  refine sx_seq ?_
  refine sx_region ?_
  refine sxl_y (wn_none rfl) rfl rfl (yp rfl) ?_
  refine sxl_nil ?_
  refine qx_seq ?_
  refine sx_seq ?_
  refine sx_seq ?_
  refine sx_region ?_
  refine sxl_y (wn_none rfl) rfl rfl (yp rfl) ?_
  refine sxl_y (wn_none rfl) rfl rfl (yp rfl) ?_
  refine sxl_y (wn_none rfl) rfl rfl (yp rfl) ?_
  refine sxl_y (wn_none rfl) rfl rfl (y_load rfl rfl (sc rfl) (by assumption)) ?_
  refine sxl_nil ?_
  refine qx_seq ?_
  refine sx_true rfl ?_
  refine sx_seq ?_
  refine sx_region ?_
  refine sxl_y (wn_none rfl) rfl rfl (yp rfl) ?_
  refine sxl_nil ?_
  refine qx_seq ?_
  refine sx_ret ?_
  refine qx_then_ret ?_
  refine qx_ret1 rfl rfl ?_
  exact ⟨rfl, rfl⟩
set_option maxHeartbeats 8000000 in
theorem rflush_ok (w : World) (R : RL) (s : DS) (h : RkAt w R s) (hd : s.dead = false) (hwm : s.waits.length ≤ 1073741823) (hdm : s.done ≤ 1073741824) :
    Calls Try.prog 35 #[.pointer (some ⟨R.gd, 0, none⟩)] w fun e w' => ∃ R', e = .returned (.int .i64 s.flushes.2) ∧ RkTo w w' R R' s.flushes.1 := by
  have c3 := h.c3
  rw [hd] at c3
  refine sx_enter (vs := [_]) Try.func35 rfl Try.ntmps35 rfl ?_
  refine sx_seq ?_
  refine sx_region ?_
  refine sxl_y (wn_none rfl) rfl rfl (yp rfl) ?_
  refine sxl_nil ?_
  refine qx_seq ?_
  refine sx_seq ?_
  refine sx_seq ?_
  refine sx_region ?_
  refine sxl_y (wn_none rfl) rfl rfl (yp rfl) ?_
  refine sxl_y (wn_none rfl) rfl rfl (yp rfl) ?_
  refine sxl_y (wn_none rfl) rfl rfl (yp rfl) ?_
  refine sxl_y (wn_none rfl) rfl rfl (y_load rfl rfl (sc rfl) (by assumption)) ?_
  refine sxl_nil ?_
  refine qx_seq ?_
  refine sx_false rfl ?_
  refine sx_skip ?_
  refine qx_seq ?_
  refine sx_seq ?_
  refine sx_seq ?_
  refine sx_region ?_
  refine sxl_y (wn_none rfl) rfl rfl (yp rfl) ?_
  refine sxl_call (some 9) (by first | exact wn_none rfl | exact wn_on rfl rfl rfl) rfl rfl (yc_call rfl rfl Try.call44) (due_ok w R s h) ?_
  rintro _ w1 ⟨rfl, h1⟩
  refine ⟨_, rfl, ?_⟩
  by_cases hdue : s.due = true
  · rw [hdue]
    rw [DS.burnt_due hdue] at h1
    have hR1 := h1.rk
    refine sxl_nil ?_
    refine qx_seq ?_
    refine sx_true rfl ?_
    refine sx_seq ?_
    refine sx_region ?_
    refine sxl_y (wn_none rfl) rfl rfl (yp rfl) ?_
    refine sxl_y (wn_none rfl) rfl rfl (yp rfl) ?_
    refine sxl_y (wn_none rfl) rfl rfl (yp rfl) ?_
    refine sxl_y (wn_none rfl) rfl rfl (yp rfl) ?_
    refine sxl_y (wn_none rfl) rfl rfl (y_loadB rfl rfl hR1.hd Try.underlying74 rfl rplan_size (by simp)) ?_
    refine sxl_call (some 15) (by first | exact wn_none rfl | exact wn_on rfl rfl rfl) rfl rfl (yc_call rfl rfl Try.call36) (rcrash_own hR1 hd (by omega)) ?_
    rintro _ w7 ⟨R7, rfl, h7⟩
    refine ⟨_, rfl, ?_⟩
    refine sxl_nil ?_
    refine qx_seq ?_
    refine sx_seq ?_
    refine sx_region ?_
    refine sxl_y (wn_none rfl) rfl rfl (yp rfl) ?_
    refine sxl_nil ?_
    refine qx_seq ?_
    refine sx_ret ?_
    refine qx_then_ret ?_
    refine qx_ret1 rfl rfl ?_
    have e : s.flushes = (s.crash s.keep s.torn s.cut, 20) := by unfold DS.flushes; rw [if_pos hdue]
    rw [e]
    exact ⟨_, rfl, h1.trans h7⟩
  · have hdue : s.due = false := by simpa using hdue
    rw [hdue]
    have e : s.flushes = (s.burnt.flush, 0) := by unfold DS.flushes; rw [if_neg (by simp [hdue])]
    rw [e]
    have hsw : s.burnt.waits = s.waits := by unfold DS.burnt; split <;> rfl
    have hsd : s.burnt.done = s.done := by unfold DS.burnt; split <;> rfl
    have hR1 := h1.rk
    generalize hs1 : s.burnt = s1 at *
    obtain ⟨wA, wc, ew⟩ := hR1.vw
    refine sxl_nil ?_
    refine qx_seq ?_
    refine sx_false rfl ?_
    refine sx_skip ?_
    refine qx_seq ?_
    refine sx_seq ?_
    refine sx_seq ?_
    refine sx_region ?_
    refine sxl_y (wn_none rfl) rfl rfl (yp rfl) ?_
    refine sxl_nil ?_
    refine qx_seq ?_
    refine sx_block ?_
    refine sx_loop (fun e wr m => ∃ (k : Nat) (sv : List Value) (l : List (List UInt8)), e = [(3, .int .i64 (k : Int)), (0, .pointer (some ⟨R.gd, 0, none⟩))] ∧ k ≤ s1.waits.length ∧ RkAt wr { R with sv := sv } { s1 with lasts := l } ∧ l.length = s1.lasts.length ∧ flushAll (s1.waits.drop k) l = flushAll s1.waits s1.lasts ∧ Fr R.own w1 wr ∧ (∀ v ∈ sv, ∀ b, v.ownBlock = some b → R.ro b ∨ w1.heap.size ≤ b) ∧ m = s1.waits.length - k) ⟨0, R.sv, s1.lasts, rfl, Nat.zero_le _, hR1, rfl, rfl, Fr.refl, (fun v hv b hb => .inl (.inl ⟨v, hv, hb⟩)), rfl⟩ ⟨rfl, rfl, trivial⟩ ?_
    rintro _ wr _ ⟨k, sv, l, rfl, hk', hR, hll, hfl, hfr, hro, rfl⟩
    have c1 := hR.c1
    have c1 : Cell wr.heap R.gd 1 (.slice wA s1.waits.length wc) := by rw [← ew]; exact c1
    have hwm1 : s1.waits.length ≤ 1073741823 := by rw [hsw]; exact hwm
    by_cases hlt : k < s1.waits.length
    · obtain ⟨bw, ow, cw, at_, v, bs, e1, k0, k1, hx, hy, ho⟩ := hR.wcell (k := k) hlt
      have e1 : R.vw = _ := e1
      rw [ew] at e1
      injection e1 with e1 _ e2
      subst e1; subst e2
      have hx : s1.waits[k]? = some (at_, bs) := hx
      have hat : at_ < s1.lasts.length := (hR1.wf.aw _ (List.mem_of_getElem? hx)).1
      have hbs : bs.length = 128 := (hR1.wf.aw _ (List.mem_of_getElem? hx)).2
      have hdrop : s1.waits.drop k = (at_, bs) :: s1.waits.drop (k + 1) := by
        rw [List.drop_eq_getElem_cons hlt]
        congr 1
        rw [List.getElem?_eq_getElem hlt] at hx
        exact Option.some.inj hx
      rw [hdrop, flushAll] at hfl
      obtain ⟨gl, cl, rest, el, _, hcl, hml, hbl, hlenl⟩ := ownN_blk hR.hl hR.wf.pos
      have el : R.vl = .slice (some ⟨gl, 0, none⟩) l.length cl := el
      have hbl : Blk wr gl 32 (sv ++ rest) := hbl
      have c0 := hR.c0
      have c0 : Cell wr.heap R.gd 0 (.slice (some ⟨gl, 0, none⟩) l.length cl) := by rw [← el]; exact c0
      have hsvl : sv.length = l.length := hR.hs.len
      have hatl : at_ < l.length := by omega
      have hglo : R.own gl := .inr (.inl (by rw [el]; rfl))
      refine sx_seq ?_
      refine sx_seq ?_
      refine sx_region ?_
      refine sxl_y (wn_none rfl) rfl rfl (yp rfl) ?_
      refine sxl_y (wn_none rfl) rfl rfl (yp rfl) ?_
      refine sxl_y (wn_none rfl) rfl rfl (yp rfl) ?_
      refine sxl_y (wn_none rfl) rfl rfl (yp rfl) ?_
      refine sxl_y (wn_none rfl) rfl rfl (y_load rfl rfl (sc rfl) (by assumption)) ?_
      refine sxl_y (wn_none rfl) rfl rfl (y_len rfl rfl (sl rfl)) ?_
      refine sxl_y (wn_none rfl) rfl rfl (y_lss_t rfl rfl rfl (by omega)) ?_
      refine sxl_nil ?_
      refine qx_seq ?_
      refine sx_true rfl ?_
      refine sx_skip ?_
      refine qx_seq ?_
      refine sx_seq ?_
      refine sx_block ?_
      refine sx_tail 21 hmix (by kernel_rfl) ?_
      refine sxs_y (wn_none rfl) rfl rfl (yp rfl) ?_
      refine sxs_y (wn_none rfl) rfl rfl (yp rfl) ?_
      refine sxs_y (wn_none rfl) rfl rfl (yp rfl) ?_
      refine sxs_y (wn_none rfl) rfl rfl (y_load rfl rfl (sc rfl) (by assumption)) ?_
      refine sxs_y (wn_none rfl) rfl rfl (yp rfl) ?_
      refine sxs_y (wn_none rfl) rfl rfl (yp rfl) ?_
      refine sxs_y (wn_none rfl) rfl rfl (yp rfl) ?_
      refine sxs_y (wn_none rfl) rfl rfl (y_load rfl rfl (sc rfl) (by assumption)) ?_
      refine sxs_y (wn_none rfl) rfl rfl (yp rfl) ?_
      refine sxs_y (wn_none rfl) rfl rfl (y_indexN rfl rfl rfl (sl rfl) (by omega)) ?_
      refine sxs_y (wn_none rfl) rfl rfl (yp rfl) ?_
      refine sxs_y (wn_none rfl) rfl rfl (y_load rfl rfl (sc rfl) (by assumption)) ?_
      refine sxs_y (wn_none rfl) rfl rfl (yp rfl) ?_
      refine sxs_y (wn_none rfl) rfl rfl (yp rfl) ?_
      refine sxs_y (wn_none rfl) rfl rfl (yp rfl) ?_
      refine sxs_y (wn_none rfl) rfl rfl (y_load rfl rfl (sc rfl) (by assumption)) ?_
      refine sxs_y (wn_none rfl) rfl rfl (yp rfl) ?_
      refine sxs_y (wn_none rfl) rfl rfl (y_indexN rfl rfl rfl (sl rfl) (by omega)) ?_
      refine sxs_y (wn_none rfl) rfl rfl (yp rfl) ?_
      refine sxs_y (wn_none rfl) rfl rfl (y_load rfl rfl (sc rfl) (by assumption)) ?_
      refine sxs_y (wn_none rfl) rfl rfl (y_indexN rfl rfl rfl (sl rfl) (by omega)) ?_
      refine sxs_tail ?_
      refine sxl_does none (wn_none rfl) rfl rfl (fun ρ hρ => does_store1 32 (.tmp 45) (.tmp 44) rfl gl at_ 32 _ v (by rw [hρ _ _ rfl]; simp) (hρ _ _ rfl) (own_cells ho) hbl.drew (by kernel_rfl) (by rw [List.length_append]; omega) (own_one ho)) ?_
      rintro _ w7 ⟨rfl, hb7, hf7⟩
      have hf7 := hf7.ofDrew
      have hR7 := hR.setSec (b := bs) el hbl hlenl hcl hml hb7 hatl hf7 ho hbs
      refine sxl_nil ?_
      refine qx_block_normal ?_
      refine qx_seq ?_
      refine sx_region ?_
      refine sxl_y (wn_none rfl) rfl rfl (yp rfl) ?_
      refine sxl_y (wn_none rfl) rfl rfl (y_add rfl rfl rfl (by omega)) ?_
      refine sxl_y (wn_none rfl) rfl rfl (yp rfl) ?_
      refine sxl_nil ?_
      exact qx_again [(3, .int .i64 ((k + 1 : Nat) : Int)), (0, .pointer (some ⟨R.gd, 0, none⟩))] (s1.waits.length - (k + 1)) ⟨k + 1, sv.set at_ v, l.set at_ bs, rfl, hlt, hR7, by rw [List.length_set]; exact hll, hfl, hfr.step hf7 (fun b _ e => e ▸ hglo), (fun u hu b hb => by
        rcases List.mem_or_eq_of_mem_set hu with h' | h'
        · exact hro u h' b hb
        · subst h'
          exact .inl (.inr (.inl ⟨_, List.mem_of_getElem? hy, hb⟩))), rfl⟩ (by omega) ⟨rfl, rfl, trivial⟩
    · obtain rfl : k = s1.waits.length := by omega
      rw [List.drop_length, flushAll] at hfl
      subst hfl
      refine sx_seq ?_
      refine sx_seq ?_
      refine sx_region ?_
      refine sxl_y (wn_none rfl) rfl rfl (yp rfl) ?_
      refine sxl_y (wn_none rfl) rfl rfl (yp rfl) ?_
      refine sxl_y (wn_none rfl) rfl rfl (yp rfl) ?_
      refine sxl_y (wn_none rfl) rfl rfl (yp rfl) ?_
      refine sxl_y (wn_none rfl) rfl rfl (y_load rfl rfl (sc rfl) (by assumption)) ?_
      refine sxl_y (wn_none rfl) rfl rfl (y_len rfl rfl (sl rfl)) ?_
      refine sxl_y (wn_none rfl) rfl rfl (y_lss_f rfl rfl rfl (by omega)) ?_
      refine sxl_nil ?_
      refine qx_seq ?_
      refine sx_false rfl ?_
      refine sx_exit ?_
      refine qx_then_exit ?_
      refine qx_then_exit ?_
      refine qx_block_hit ?_
      refine qx_seq ?_
      refine sx_seq ?_
      refine sx_region ?_
      refine sxl_y (wn_none rfl) rfl rfl (yp rfl) ?_
      refine sxl_y (wn_none rfl) rfl rfl (yp rfl) ?_
      refine sxl_y (wn_none rfl) rfl rfl (yp rfl) ?_
      refine sxl_does none (wn_none rfl) rfl rfl (fun ρ hρ => does_store1 73 (.tmp 48) (.const (.slice none 0 0)) rfl R.gd 1 76 _ (.slice none 0 0) (hρ _ _ rfl) (hρ _ _ rfl) rfl hR.hd (by kernel_rfl) (by simp) rfl) ?_
      rintro _ w2 ⟨rfl, hb2, hf2⟩
      have k2 : Cell w2.heap R.gd 2 (.int .i64 (s1.done : Int)) := hb2.c 2 rfl
      have hdm1 : s1.done ≤ 1073741824 := by omega
      refine sxl_nil ?_
      refine qx_seq ?_
      refine sx_seq ?_
      refine sx_region ?_
      refine sxl_y (wn_none rfl) rfl rfl (yp rfl) ?_
      refine sxl_y (wn_none rfl) rfl rfl (yp rfl) ?_
      refine sxl_y (wn_none rfl) rfl rfl (yp rfl) ?_
      refine sxl_y (wn_none rfl) rfl rfl (y_load rfl rfl (sc rfl) (by assumption)) ?_
      refine sxl_y (wn_none rfl) rfl rfl (y_add rfl rfl rfl (by omega)) ?_
      refine sxl_y (wn_none rfl) rfl rfl (yp rfl) ?_
      refine sxl_y (wn_none rfl) rfl rfl (yp rfl) ?_
      refine sxl_does none (wn_none rfl) rfl rfl (fun ρ hρ => does_store1 3 (.tmp 55) (.tmp 53) rfl R.gd 2 76 _ (.int .i64 ((s1.done + 1 : Nat) : Int)) (hρ _ _ rfl) (hρ _ _ rfl) rfl hb2 (by kernel_rfl) (by simp) rfl) ?_
      rintro _ w3 ⟨rfl, hb4, hf4⟩
      refine sxl_nil ?_
      refine qx_seq ?_
      refine sx_seq ?_
      refine sx_region ?_
      refine sxl_y (wn_none rfl) rfl rfl (yp rfl) ?_
      refine sxl_nil ?_
      refine qx_seq ?_
      refine sx_ret ?_
      refine qx_ret1 rfl rfl ?_
      have hf24 : Fr (fun b => b = R.gd) wr w3 := hf2.trans hf4
      have n1 : ∀ b, RL.ro { R with sv := sv } b → ¬ b = R.gd := fun b hb e => by subst e; exact hR.rnot hR.hd (by decide) hb
      refine ⟨{ R with sv := sv, vw := .slice none 0 0, wv := [] }, rfl, h1.trans ⟨⟨DS.flush_wf hR1.wf, hb4, ?_, ?_, World.ownsRow_nil .., rfl, ⟨rfl, fun i v b hv => by simp at hv⟩, ?_⟩, rfl, ?_, ?_, ?_⟩⟩
      · exact ownN_fr hR.hl hf24 (fun k hk e => own_off hR.hl hR.hd (by decide) (e ▸ hk))
      · exact hR.hs.fr hf24 (fun v hv b hb => n1 b (.inl ⟨v, hv, hb⟩))
      · exact ownN_fr hR.hk hf24 (fun k hk => n1 k (.inr (.inr hk)))
      · exact hfr.step hf24 (fun b _ e => .inl e)
      · rintro b (hb | hb | hb)
        · exact .inl (.inl hb)
        · exact .inl (.inr (.inl hb))
        · cases hb
      · rintro b (⟨v, hv, hb⟩ | ⟨p, hp, _⟩ | hb)
        · exact hro v hv b hb
        · cases hp
        · exact .inl (.inr (.inr hb))
end Go.Proofs.Ytbfeailalhddgaa
