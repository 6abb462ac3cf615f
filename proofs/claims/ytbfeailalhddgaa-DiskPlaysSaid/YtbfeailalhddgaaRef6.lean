/- The document's disk: Fuse, Reopen. -/
import Derived.Test.YtbfeailalhddgaaRef5
namespace Go.Proofs.Ytbfeailalhddgaa
open Go.RowKit

theorem rfuse_dead (k : Int) (v : Value) (torn cut : Int) (w : World) (R : RL) (s : DS) (h : RkAt w R s) (hd : s.dead = true) : Calls Try.prog 37 #[.pointer (some ⟨R.gd, 0, none⟩), .int .i64 k, .agg #[v, .int .i64 torn, .int .i64 cut]] w fun e w' => e = .returned (.int .i64 20) ∧ Fr0 w w' := by
  refine sx_enter (vs := [_, _, _]) Try.func37 rfl Try.ntmps37 rfl ?_
  refine sx_seq ?_
  refine sx_region ?_
  refine sxl_does (some 5) (wn_none rfl) rfl rfl (fun ρ hρ => does_box 74 (.tmp 2) rfl [v, .int .i64 torn, .int .i64 cut] (by rw [hρ _ _ rfl]; rfl)) ?_
  rintro _ w1 ⟨g3, rfl, hg3, hg3', hb1, hf1⟩
  have c3 := (h.fr0 hf1).c3
  rw [hd] at c3
  refine sxl_y (wn_none rfl) rfl rfl (yp rfl) ?_
  refine sxl_nil ?_
  refine qx_seq ?_
  refine sx_seq ?_
  refine sx_seq ?_
  refine sx_region ?_
  refine sxl_y (wn_none rfl) rfl rfl (yp rfl) ?_
  refine sxl_y (wn_none rfl) rfl rfl (yp rfl) ?_
  refine sxl_y (wn_none rfl) rfl rfl (yp rfl) ?_
  refine sxl_y (wn_none rfl) rfl rfl (y_load rfl rfl (sc rfl) (by assumption)) ?_
  refine sxl_nil ?_
  refine qx_seq ?_
  refine sx_true rfl ?_
  refine sx_seq ?_
  refine sx_region ?_
  refine sxl_y (wn_none rfl) rfl rfl (yp rfl) ?_
  refine sxl_nil ?_
  refine qx_seq ?_
  refine sx_ret ?_
  refine qx_then_ret ?_
  refine qx_ret1 rfl rfl ?_
  exact ⟨rfl, hf1⟩
theorem rfuse_arg (k : Int) (v : Value) (torn cut : Int) (w : World) (R : RL) (s : DS) (h : RkAt w R s) (hd : s.dead = false) (hc : ¬ (0 ≤ cut ∧ cut ≤ 128) ∨ k < 0) : Calls Try.prog 37 #[.pointer (some ⟨R.gd, 0, none⟩), .int .i64 k, .agg #[v, .int .i64 torn, .int .i64 cut]] w fun e w' => e = .returned (.int .i64 1) ∧ Fr0 w w' := by
  refine sx_enter (vs := [_, _, _]) Try.func37 rfl Try.ntmps37 rfl ?_
  refine sx_seq ?_
  refine sx_region ?_
  refine sxl_does (some 5) (wn_none rfl) rfl rfl (fun ρ hρ => does_box 74 (.tmp 2) rfl [v, .int .i64 torn, .int .i64 cut] (by rw [hρ _ _ rfl]; rfl)) ?_
  rintro _ w1 ⟨g3, rfl, hg3, hg3', hb1, hf1⟩
  have c3 := (h.fr0 hf1).c3
  rw [hd] at c3
  have p2 : Cell w1.heap g3 2 (.int .i64 cut) := hb1.c 2 rfl
  by_cases h0 : cut < 0
  · refine sxl_y (wn_none rfl) rfl rfl (yp rfl) ?_
    refine sxl_nil ?_
    refine qx_seq ?_
    refine sx_seq ?_
    refine sx_seq ?_
    refine sx_region ?_
    refine sxl_y (wn_none rfl) rfl rfl (yp rfl) ?_
    refine sxl_y (wn_none rfl) rfl rfl (yp rfl) ?_
    refine sxl_y (wn_none rfl) rfl rfl (yp rfl) ?_
    refine sxl_y (wn_none rfl) rfl rfl (y_load rfl rfl (sc rfl) (by assumption)) ?_
    refine sxl_nil ?_
    refine qx_seq ?_
    refine sx_false rfl ?_
    refine sx_skip ?_
    refine qx_seq ?_
    refine sx_seq ?_
    refine sx_seq ?_
    refine sx_region ?_
    refine sxl_y (wn_none rfl) rfl rfl (yp rfl) ?_
    refine sxl_y (wn_none rfl) rfl rfl (y_load rfl rfl (sc rfl) (by assumption)) ?_
    refine sxl_y (wn_none rfl) rfl rfl (y_lss_t rfl rfl rfl (by omega)) ?_
    refine sxl_y (wn_none rfl) rfl rfl (yp rfl) ?_
    refine sxl_off rfl rfl rfl rfl rfl rfl ?_
    refine sxl_off rfl rfl rfl rfl rfl rfl ?_
    refine sxl_off rfl rfl rfl rfl rfl rfl ?_
    refine sxl_y (wn_none rfl) rfl rfl (yp rfl) ?_
    refine sxl_y (wn_none rfl) rfl rfl (yp rfl) ?_
    refine sxl_off rfl rfl rfl rfl rfl rfl ?_
    refine sxl_off rfl rfl rfl rfl rfl rfl ?_
    refine sxl_y (wn_none rfl) rfl rfl (yp rfl) ?_
    refine sxl_nil ?_
    refine qx_seq ?_
    refine sx_true rfl ?_
    refine sx_seq ?_
    refine sx_region ?_
    refine sxl_y (wn_none rfl) rfl rfl (yp rfl) ?_
    refine sxl_nil ?_
    refine qx_seq ?_
    refine sx_ret ?_
    refine qx_then_ret ?_
    refine qx_ret1 rfl rfl ?_
    exact ⟨rfl, hf1⟩
  · by_cases h1 : 128 < cut
    · refine sxl_y (wn_none rfl) rfl rfl (yp rfl) ?_
      refine sxl_nil ?_
      refine qx_seq ?_
      refine sx_seq ?_
      refine sx_seq ?_
      refine sx_region ?_
      refine sxl_y (wn_none rfl) rfl rfl (yp rfl) ?_
      refine sxl_y (wn_none rfl) rfl rfl (yp rfl) ?_
      refine sxl_y (wn_none rfl) rfl rfl (yp rfl) ?_
      refine sxl_y (wn_none rfl) rfl rfl (y_load rfl rfl (sc rfl) (by assumption)) ?_
      refine sxl_nil ?_
      refine qx_seq ?_
      refine sx_false rfl ?_
      refine sx_skip ?_
      refine qx_seq ?_
      refine sx_seq ?_
      refine sx_seq ?_
      refine sx_region ?_
      refine sxl_y (wn_none rfl) rfl rfl (yp rfl) ?_
      refine sxl_y (wn_none rfl) rfl rfl (y_load rfl rfl (sc rfl) (by assumption)) ?_
      refine sxl_y (wn_none rfl) rfl rfl (y_lss_f rfl rfl rfl (by omega)) ?_
      refine sxl_y (wn_none rfl) rfl rfl (yp rfl) ?_
      refine sxl_y (wn_on rfl rfl rfl) rfl rfl (yp rfl) ?_
      refine sxl_y (wn_on rfl rfl rfl) rfl rfl (y_load rfl rfl (sc rfl) (by assumption)) ?_
      refine sxl_y (wn_on rfl rfl rfl) rfl rfl (y_gtr_t rfl rfl rfl (by omega)) ?_
      refine sxl_y (wn_none rfl) rfl rfl (yp rfl) ?_
      refine sxl_y (wn_none rfl) rfl rfl (yp rfl) ?_
      refine sxl_off rfl rfl rfl rfl rfl rfl ?_
      refine sxl_off rfl rfl rfl rfl rfl rfl ?_
      refine sxl_y (wn_none rfl) rfl rfl (yp rfl) ?_
      refine sxl_nil ?_
      refine qx_seq ?_
      refine sx_true rfl ?_
      refine sx_seq ?_
      refine sx_region ?_
      refine sxl_y (wn_none rfl) rfl rfl (yp rfl) ?_
      refine sxl_nil ?_
      refine qx_seq ?_
      refine sx_ret ?_
      refine qx_then_ret ?_
      refine qx_ret1 rfl rfl ?_
      exact ⟨rfl, hf1⟩
    · refine sxl_y (wn_none rfl) rfl rfl (yp rfl) ?_
      refine sxl_nil ?_
      refine qx_seq ?_
      refine sx_seq ?_
      refine sx_seq ?_
      refine sx_region ?_
      refine sxl_y (wn_none rfl) rfl rfl (yp rfl) ?_
      refine sxl_y (wn_none rfl) rfl rfl (yp rfl) ?_
      refine sxl_y (wn_none rfl) rfl rfl (yp rfl) ?_
      refine sxl_y (wn_none rfl) rfl rfl (y_load rfl rfl (sc rfl) (by assumption)) ?_
      refine sxl_nil ?_
      refine qx_seq ?_
      refine sx_false rfl ?_
      refine sx_skip ?_
      refine qx_seq ?_
      refine sx_seq ?_
      refine sx_seq ?_
      refine sx_region ?_
      refine sxl_y (wn_none rfl) rfl rfl (yp rfl) ?_
      refine sxl_y (wn_none rfl) rfl rfl (y_load rfl rfl (sc rfl) (by assumption)) ?_
      refine sxl_y (wn_none rfl) rfl rfl (y_lss_f rfl rfl rfl (by omega)) ?_
      refine sxl_y (wn_none rfl) rfl rfl (yp rfl) ?_
      refine sxl_y (wn_on rfl rfl rfl) rfl rfl (yp rfl) ?_
      refine sxl_y (wn_on rfl rfl rfl) rfl rfl (y_load rfl rfl (sc rfl) (by assumption)) ?_
      refine sxl_y (wn_on rfl rfl rfl) rfl rfl (y_gtr_f rfl rfl rfl (by omega)) ?_
      refine sxl_y (wn_none rfl) rfl rfl (yp rfl) ?_
      refine sxl_y (wn_none rfl) rfl rfl (yp rfl) ?_
      refine sxl_y (wn_on rfl rfl rfl) rfl rfl (yp rfl) ?_
      refine sxl_y (wn_on rfl rfl rfl) rfl rfl (y_lss_t rfl rfl rfl (by omega)) ?_
      refine sxl_y (wn_none rfl) rfl rfl (yp rfl) ?_
      refine sxl_nil ?_
      refine qx_seq ?_
      refine sx_true rfl ?_
      refine sx_seq ?_
      refine sx_region ?_
      refine sxl_y (wn_none rfl) rfl rfl (yp rfl) ?_
      refine sxl_nil ?_
      refine qx_seq ?_
      refine sx_ret ?_
      refine qx_then_ret ?_
      refine qx_ret1 rfl rfl ?_
      exact ⟨rfl, hf1⟩
set_option maxHeartbeats 8000000 in
theorem rfuse_ok (k : Nat) (A : Option Addr) (c : Nat) (keep : List Bool) (torn : Int) (cut : Nat) (w : World) (R : RL) (s : DS) (h : RkAt w R s) (hd : s.dead = false) (hk : Rd w A keep.length (boolsV keep)) (hkn : 0 < keep.length → ∀ b off, A = some ⟨b, off, none⟩ → ¬ R.own b) (hkm : keep.length ≤ 140737488351232) (hcut : cut ≤ 128) (hkl : (k : Int) < 9223372036854775808) :
    Calls Try.prog 37 #[.pointer (some ⟨R.gd, 0, none⟩), .int .i64 (k : Int), .agg #[.slice A keep.length c, .int .i64 torn, .int .i64 (cut : Int)]] w fun e w' => ∃ R', e = .returned (.int .i64 0) ∧ RkTo w w' R R' (s.fuse k keep torn cut) := by
  refine sx_enter (vs := [_, _, _]) Try.func37 rfl Try.ntmps37 rfl ?_
  refine sx_seq ?_
  refine sx_region ?_
  refine sxl_does (some 5) (wn_none rfl) rfl rfl (fun ρ hρ => does_box 74 (.tmp 2) rfl [.slice A keep.length c, .int .i64 torn, .int .i64 (cut : Int)] (by rw [hρ _ _ rfl]; rfl)) ?_
  rintro _ w1 ⟨g3, rfl, hg3, hg3', hb1, hf1⟩
  have hR1 := h.fr0 hf1
  have c3 := hR1.c3
  rw [hd] at c3
  have p2 : Cell w1.heap g3 2 (.int .i64 (cut : Int)) := hb1.c 2 rfl
  refine sxl_y (wn_none rfl) rfl rfl (yp rfl) ?_
  refine sxl_nil ?_
  refine qx_seq ?_
  refine sx_seq ?_
  refine sx_seq ?_
  refine sx_region ?_
  refine sxl_y (wn_none rfl) rfl rfl (yp rfl) ?_
  refine sxl_y (wn_none rfl) rfl rfl (yp rfl) ?_
  refine sxl_y (wn_none rfl) rfl rfl (yp rfl) ?_
  refine sxl_y (wn_none rfl) rfl rfl (y_load rfl rfl (sc rfl) (by assumption)) ?_
  refine sxl_nil ?_
  refine qx_seq ?_
  refine sx_false rfl ?_
  refine sx_skip ?_
  refine qx_seq ?_
  refine sx_seq ?_
  refine sx_seq ?_
  refine sx_region ?_
  refine sxl_y (wn_none rfl) rfl rfl (yp rfl) ?_
  refine sxl_y (wn_none rfl) rfl rfl (y_load rfl rfl (sc rfl) (by assumption)) ?_
  refine sxl_y (wn_none rfl) rfl rfl (y_lss_f rfl rfl rfl (by omega)) ?_
  refine sxl_y (wn_none rfl) rfl rfl (yp rfl) ?_
  refine sxl_y (wn_on rfl rfl rfl) rfl rfl (yp rfl) ?_
  refine sxl_y (wn_on rfl rfl rfl) rfl rfl (y_load rfl rfl (sc rfl) (by assumption)) ?_
  refine sxl_y (wn_on rfl rfl rfl) rfl rfl (y_gtr_f rfl rfl rfl (by omega)) ?_
  refine sxl_y (wn_none rfl) rfl rfl (yp rfl) ?_
  refine sxl_y (wn_none rfl) rfl rfl (yp rfl) ?_
  refine sxl_y (wn_on rfl rfl rfl) rfl rfl (yp rfl) ?_
  refine sxl_y (wn_on rfl rfl rfl) rfl rfl (y_lss_f rfl rfl rfl (by omega)) ?_
  refine sxl_y (wn_none rfl) rfl rfl (yp rfl) ?_
  refine sxl_nil ?_
  refine qx_seq ?_
  refine sx_false rfl ?_
  refine sx_skip ?_
  refine qx_seq ?_
  refine sx_seq ?_
  refine sx_region ?_
  refine sxl_y (wn_none rfl) rfl rfl (yp rfl) ?_
  refine sxl_y (wn_none rfl) rfl rfl (yp rfl) ?_
  refine sxl_y (wn_none rfl) rfl rfl (yp rfl) ?_
  refine sxl_does none (wn_none rfl) rfl rfl (fun ρ hρ => does_store1 4 (.tmp 25) (.const (.bool true)) rfl R.gd 4 76 _ (.bool true) (hρ _ _ rfl) (hρ _ _ rfl) rfl hR1.hd (by kernel_rfl) (by simp) rfl) ?_
  rintro _ w2 ⟨rfl, hb2, hf2⟩
  refine sxl_nil ?_
  refine qx_seq ?_
  refine sx_seq ?_
  refine sx_region ?_
  refine sxl_y (wn_none rfl) rfl rfl (yp rfl) ?_
  refine sxl_y (wn_none rfl) rfl rfl (yp rfl) ?_
  refine sxl_y (wn_none rfl) rfl rfl (yp rfl) ?_
  refine sxl_y (wn_none rfl) rfl rfl (yp rfl) ?_
  refine sxl_does none (wn_none rfl) rfl rfl (fun ρ hρ => does_store1 3 (.tmp 29) (.tmp 27) rfl R.gd 5 76 _ (.int .i64 (k : Int)) (hρ _ _ rfl) (hρ _ _ rfl) rfl hb2 (by kernel_rfl) (by simp) rfl) ?_
  rintro _ w3 ⟨rfl, hb3, hf3⟩
  have hz1 := hf1.size
  have hgdl := h.hd.lt
  have hf13 : Fr (fun b => b = R.gd) w1 w3 := hf2.trans hf3
  have hF3 : Fr R.own w w3 := hf1.of0.step hf13 (fun b _ e => .inl e)
  have hb13 := hb1.fr hf13 (by omega)
  have p0 : Cell w3.heap g3 0 (.slice A keep.length c) := hb13.c 0 rfl
  have p1 : Cell w3.heap g3 1 (.int .i64 torn) := hb13.c 1 rfl
  have p2 : Cell w3.heap g3 2 (.int .i64 (cut : Int)) := hb13.c 2 rfl
  have hk3 := hk.fr hF3 hkn
  have hz13 := hf13.size
  refine sxl_nil ?_
  refine qx_seq ?_
  refine sx_seq ?_
  refine sx_any 10 (fun w' => Cell w'.heap g3 0 (.slice A keep.length c) ∧ Cell w'.heap g3 1 (.int .i64 torn) ∧ Cell w'.heap g3 2 (.int .i64 (cut : Int))) hmix ?_
  have HSf : ∀ w', Fr0 w3 w' → Cell w'.heap g3 0 (.slice A keep.length c) ∧ Cell w'.heap g3 1 (.int .i64 torn) ∧ Cell w'.heap g3 2 (.int .i64 (cut : Int)) := fun w' hf => ⟨p0.fr hf (fun hh => hh), p1.fr hf (fun hh => hh), p2.fr hf (fun hh => hh)⟩
  have HS := HSf w3.drew Fr.refl.drew
  refine sxo_y 0 10 (by kernel_rfl) (fun c a t v w h => by cases t <;> exact h) (by kernel_rfl) rfl (by kernel_rfl) (by kernel_rfl) rfl (wn_none rfl) rfl rfl HS (fun w' hS' => yp rfl) ?_
  refine sxo_y 2 10 (by kernel_rfl) (fun c a t v w h => by cases t <;> exact h) (by kernel_rfl) rfl (by kernel_rfl) (by kernel_rfl) rfl (wn_none rfl) rfl rfl HS (fun w' hS' => yp rfl) ?_
  refine sxo_y 3 10 (by kernel_rfl) (fun c a t v w h => by cases t <;> exact h) (by kernel_rfl) rfl (by kernel_rfl) (by kernel_rfl) rfl (wn_none rfl) rfl rfl HS (fun w' hS' => y_load rfl rfl (sc rfl) (by obtain ⟨s1, s2, s3⟩ := hS'; assumption)) ?_
  refine sxo_y 5 10 (by kernel_rfl) (fun c a t v w h => by cases t <;> exact h) (by kernel_rfl) rfl (by kernel_rfl) (by kernel_rfl) rfl (wn_none rfl) rfl rfl HS (fun w' hS' => yp rfl) ?_
  refine sxo_y 6 10 (by kernel_rfl) (fun c a t v w h => by cases t <;> exact h) (by kernel_rfl) rfl (by kernel_rfl) (by kernel_rfl) rfl (wn_none rfl) rfl rfl HS (fun w' hS' => y_load rfl rfl (sc rfl) (by obtain ⟨s1, s2, s3⟩ := hS'; assumption)) ?_
  refine sxo_y 7 10 (by kernel_rfl) (fun c a t v w h => by cases t <;> exact h) (by kernel_rfl) rfl (by kernel_rfl) (by kernel_rfl) rfl (wn_none rfl) rfl rfl HS (fun w' hS' => yp rfl) ?_
  refine sxo_y 8 10 (by kernel_rfl) (fun c a t v w h => by cases t <;> exact h) (by kernel_rfl) rfl (by kernel_rfl) (by kernel_rfl) rfl (wn_none rfl) rfl rfl HS (fun w' hS' => y_load rfl rfl (sc rfl) (by obtain ⟨s1, s2, s3⟩ := hS'; assumption)) ?_
  refine sxo_does 1 (some 31) (by kernel_rfl) rfl (wn_none rfl) rfl rfl (fun ρ hρ => does_slice0 23 4 1 rfl Try.underlying23 (by kernel_rfl)) ?_
  rintro _ w4 ⟨g4, rfl, hg4, hg4', -, hf4, ho4⟩
  have hf4 := hf4.ofDrew
  have ho4 := ho4 w3.heap.size (Nat.le_refl _)
  refine ⟨fun _ => HSf _ hf4, ?_⟩
  refine sxo_does 4 (some 34) (by kernel_rfl) rfl (wn_none rfl) rfl rfl (fun ρ hρ => does_append (.tmp 31) (.tmp 33) 23 rfl w3.heap.size 4 (.bool false) 1 Try.underlying23 (by kernel_rfl) rfl _ 0 [] (hρ _ _ rfl) ho4 A keep.length c (boolsV keep) (hρ _ _ rfl) (hk3.fr0 hf4) (bools_one _) (by unfold maxLen; omega) (by omega) hf4.size) ?_
  rintro v5 w5 ⟨ho5, hg5, hv5⟩
  rw [Nat.zero_add, List.nil_append] at ho5
  have hF5 : Fr0 w3 w5 := hf4.app ho4 (Nat.le_refl _) hg5
  refine ⟨fun _ => HSf _ hF5, ?_⟩
  obtain ⟨A5, c5, rfl, hN5⟩ := own_form0 ho5
  refine sxo_y 9 10 (by kernel_rfl) (fun c a t v w h => by cases t <;> exact h) (by kernel_rfl) rfl (by kernel_rfl) (by kernel_rfl) rfl (wn_none rfl) rfl rfl (HSf _ hF5) (fun w' hS' => y_build (cells := #[.slice A5 keep.length c5, .int .i64 torn, .int .i64 (cut : Int)]) rfl rfl (by kernel_rfl)) ?_
  refine sxo_seq 10 (by kernel_rfl) rfl rfl (by kernel_rfl) ?_
  refine sxl_y (wn_none rfl) rfl rfl (yp rfl) ?_
  refine sxl_y (wn_none rfl) rfl rfl (yp rfl) ?_
  refine sxl_does none (wn_none rfl) rfl rfl (fun ρ hρ => does_store 74 (.tmp 41) (.tmp 39) rfl R.gd 6 76 _ [.slice A5 keep.length c5, .int .i64 torn, .int .i64 (cut : Int)] (hρ _ _ rfl) (hρ _ _ rfl) (hb3.fr0 hF5) rplan_size (by simp) (by intro u hu; simp only [List.mem_cons, List.not_mem_nil, or_false] at hu; rcases hu with rfl | rfl | rfl <;> rfl)) ?_
  rintro _ w6 ⟨rfl, hb6, hf6⟩
  refine sxl_nil ?_
  refine qx_seq ?_
  refine sx_seq ?_
  refine sx_region ?_
  refine sxl_y (wn_none rfl) rfl rfl (yp rfl) ?_
  refine sxl_nil ?_
  refine qx_seq ?_
  refine sx_ret ?_
  refine qx_ret1 rfl rfl ?_
  have hF16 : Fr (fun b => b = R.gd) w1 w6 := (hf13.then0 hF5).step hf6 (fun b _ e => e)
  have n1 : ∀ b, R.ro b → ¬ b = R.gd := fun b hb e => by subst e; exact hR1.rnot hR1.hd (by decide) hb
  refine ⟨{ R with kv := .slice A5 keep.length c5 }, rfl, ⟨⟨⟨h.wf.pos, h.wf.le, h.wf.sl, h.wf.al, h.wf.ash, h.wf.aw, hcut, hkl⟩, hb6, ?_, ?_, ?_, h.ha, ?_, ?_⟩, rfl, hf1.of0.step hF16 (fun b _ e => .inl e), fun b hb => .inl hb, ?_⟩⟩
  · exact ownN_fr hR1.hl hF16 (fun k hk e => own_off hR1.hl hR1.hd (by decide) (e ▸ hk))
  · exact hR1.hs.fr hF16 (fun v hv b hb => n1 b (.inl ⟨v, hv, hb⟩))
  · exact ownN_fr hR1.hw hF16 (fun k hk e => own_off hR1.hw hR1.hd (by decide) (e ▸ hk))
  · exact hR1.hv.fr hF16 (fun v hv b hb => by obtain ⟨p, hp, rfl⟩ := List.mem_map.1 hv; exact n1 b (.inr (.inl ⟨p, hp, hb⟩)))
  · exact ownN_fr (own_base ho5 (Nat.zero_le _)) hf6 (fun k hk e => by have := (ho5.lt k hk).1; omega)
  · rintro b (hb | hb | hb)
    · exact .inl (.inl hb)
    · exact .inl (.inr (.inl hb))
    · right; have := (ho5.lt b hb).1; omega
theorem rreopen_live (w : World) (R : RL) (s : DS) (h : RkAt w R s) (hd : s.dead = false) : Calls Try.prog 38 #[.pointer (some ⟨R.gd, 0, none⟩)] w fun e w' => e = .returned (.tuple #[.pointer none, .int .i64 250]) ∧ w = w' := by
  have c3 := h.c3
  rw [hd] at c3
  refine sx_enter (vs := [_]) Try.func38 rfl Try.ntmps38 rfl ?_
  refine sx_seq ?_
  refine sx_region ?_
  refine sxl_y (wn_none rfl) rfl rfl (yp rfl) ?_
  refine sxl_y (wn_none rfl) rfl rfl (yp rfl) ?_
  refine sxl_nil ?_
  refine qx_seq ?_
  refine sx_seq ?_
  refine sx_seq ?_
  refine sx_region ?_
  refine sxl_y (wn_none rfl) rfl rfl (yp rfl) ?_
  refine sxl_y (wn_none rfl) rfl rfl (yp rfl) ?_
  refine sxl_y (wn_none rfl) rfl rfl (yp rfl) ?_
  refine sxl_y (wn_none rfl) rfl rfl (y_load rfl rfl (sc rfl) (by assumption)) ?_
  refine sxl_y (wn_none rfl) rfl rfl (yp rfl) ?_
  refine sxl_nil ?_
  refine qx_seq ?_
  refine sx_true rfl ?_
  refine sx_seq ?_
  refine sx_region ?_
  refine sxl_y (wn_none rfl) rfl rfl (yp rfl) ?_
  refine sxl_y (wn_none rfl) rfl rfl (yp rfl) ?_
  refine sxl_nil ?_
  refine qx_seq ?_
  refine sx_ret ?_
  refine qx_then_ret ?_
  refine qx_ret2 rfl rfl rfl ?_
  exact ⟨rfl, rfl⟩
end Go.Proofs.Ytbfeailalhddgaa
