/- The law DiskFuses, walked. -/
import Derived.Test.YtbfeailalhddgaaDiskLaw7
namespace Go.Proofs.Ytbfeailalhddgaa
open Go.RowKit

set_option maxHeartbeats 4000000 in
theorem diskFuses_walk (A : Option Addr) (c : Nat) (l : List Put) (k : Int) (kA : Option Addr) (kc : Nat) (keep : List Bool) (torn cut : Int) (w : World) (hl : Rd w A (l.length * 3) (flatP l)) (hk : Rd w kA keep.length (boolsV keep)) (hkm : keep.length ≤ 140737488351232) :
    Calls Try.prog 4 #[.slice A l.length c, .int .i64 k, .agg #[.slice kA keep.length kc, .int .i64 torn, .int .i64 cut]] w fun e w' => e = .returned (.bool true) ∧ Fr0 w w' := by
  refine sx_enter (vs := [_, _, _]) Try.func4 rfl Try.ntmps4 rfl ?_
  refine sx_seq ?_
  refine sx_region ?_
  refine sxl_does (some 5) (wn_none rfl) rfl rfl (fun ρ hρ => does_box 25 (.tmp 2) rfl [.slice kA keep.length kc, .int .i64 torn, .int .i64 cut] (by rw [hρ _ _ rfl]; rfl)) ?_
  rintro _ w1 ⟨g5, rfl, hg5, hg5', hb5, hf1⟩
  have p0 : Cell w1.heap g5 0 (.slice kA keep.length kc) := hb5.c 0 rfl
  have p1 : Cell w1.heap g5 1 (.int .i64 torn) := hb5.c 1 rfl
  have p2 : Cell w1.heap g5 2 (.int .i64 cut) := hb5.c 2 rfl
  by_cases hc0 : cut < 0
  · refine sxl_y (wn_none rfl) rfl rfl (yp rfl) ?_
    refine sxl_nil ?_
    refine qx_seq ?_
    refine sx_seq ?_
    refine sx_seq ?_
    refine sx_region ?_
    refine sxl_y (wn_none rfl) rfl rfl (yp rfl) ?_
    refine sxl_y (wn_none rfl) rfl rfl (y_load rfl rfl (sc rfl) (by assumption)) ?_
    refine sxl_y (wn_none rfl) rfl rfl (y_lss_t rfl rfl rfl (by omega)) ?_
    refine sxl_y (wn_none rfl) rfl rfl (yp rfl) ?_
    refine sxl_off rfl rfl rfl rfl rfl rfl ?_
    refine sxl_off rfl rfl rfl rfl rfl rfl ?_
    refine sxl_off rfl rfl rfl rfl rfl rfl ?_
    refine sxl_y (wn_none rfl) rfl rfl (yp rfl) ?_
    refine sxl_y (wn_none rfl) rfl rfl (yp rfl) ?_
    refine sxl_off rfl rfl rfl rfl rfl rfl ?_
    refine sxl_off rfl rfl rfl rfl rfl rfl ?_
    refine sxl_y (wn_none rfl) rfl rfl (yp rfl) ?_
    refine sxl_nil ?_
    refine qx_seq ?_
    refine sx_true rfl ?_
    refine sx_seq ?_
    refine sx_region ?_
    refine sxl_call (some 35) (by first | exact wn_none rfl | exact wn_on rfl rfl rfl) rfl rfl (yc_call rfl rfl Try.call8) (awake_ok w1) ?_
    rintro _ w2 ⟨rfl, hf2⟩
    refine ⟨_, rfl, ?_⟩
    refine sxl_y (wn_none rfl) rfl rfl (yp rfl) ?_
    refine sxl_nil ?_
    refine qx_seq ?_
    refine sx_ret ?_
    refine qx_then_ret ?_
    refine qx_ret1 rfl rfl ?_
    exact ⟨rfl, hf1.then0 hf2⟩
  by_cases hc1 : 128 < cut
  · refine sxl_y (wn_none rfl) rfl rfl (yp rfl) ?_
    refine sxl_nil ?_
    refine qx_seq ?_
    refine sx_seq ?_
    refine sx_seq ?_
    refine sx_region ?_
    refine sxl_y (wn_none rfl) rfl rfl (yp rfl) ?_
    refine sxl_y (wn_none rfl) rfl rfl (y_load rfl rfl (sc rfl) (by assumption)) ?_
    refine sxl_y (wn_none rfl) rfl rfl (y_lss_f rfl rfl rfl (by omega)) ?_
    refine sxl_y (wn_none rfl) rfl rfl (yp rfl) ?_
    refine sxl_y (wn_on rfl rfl rfl) rfl rfl (yp rfl) ?_
    refine sxl_y (wn_on rfl rfl rfl) rfl rfl (y_load rfl rfl (sc rfl) (by assumption)) ?_
    refine sxl_y (wn_on rfl rfl rfl) rfl rfl (y_gtr_t rfl rfl rfl (by omega)) ?_
    refine sxl_y (wn_none rfl) rfl rfl (yp rfl) ?_
    refine sxl_y (wn_none rfl) rfl rfl (yp rfl) ?_
    refine sxl_off rfl rfl rfl rfl rfl rfl ?_
    refine sxl_off rfl rfl rfl rfl rfl rfl ?_
    refine sxl_y (wn_none rfl) rfl rfl (yp rfl) ?_
    refine sxl_nil ?_
    refine qx_seq ?_
    refine sx_true rfl ?_
    refine sx_seq ?_
    refine sx_region ?_
    refine sxl_call (some 35) (by first | exact wn_none rfl | exact wn_on rfl rfl rfl) rfl rfl (yc_call rfl rfl Try.call8) (awake_ok w1) ?_
    rintro _ w2 ⟨rfl, hf2⟩
    refine ⟨_, rfl, ?_⟩
    refine sxl_y (wn_none rfl) rfl rfl (yp rfl) ?_
    refine sxl_nil ?_
    refine qx_seq ?_
    refine sx_ret ?_
    refine qx_then_ret ?_
    refine qx_ret1 rfl rfl ?_
    exact ⟨rfl, hf1.then0 hf2⟩
  obtain ⟨cn, rfl⟩ : ∃ cn : Nat, cut = (cn : Int) := ⟨cut.toNat, by omega⟩
  have hcn : cn ≤ 128 := by omega
  refine sxl_y (wn_none rfl) rfl rfl (yp rfl) ?_
  refine sxl_nil ?_
  refine qx_seq ?_
  refine sx_seq ?_
  refine sx_seq ?_
  refine sx_region ?_
  refine sxl_y (wn_none rfl) rfl rfl (yp rfl) ?_
  refine sxl_y (wn_none rfl) rfl rfl (y_load rfl rfl (sc rfl) (by assumption)) ?_
  refine sxl_y (wn_none rfl) rfl rfl (y_lss_f rfl rfl rfl (by omega)) ?_
  refine sxl_y (wn_none rfl) rfl rfl (yp rfl) ?_
  refine sxl_y (wn_on rfl rfl rfl) rfl rfl (yp rfl) ?_
  refine sxl_y (wn_on rfl rfl rfl) rfl rfl (y_load rfl rfl (sc rfl) (by assumption)) ?_
  refine sxl_y (wn_on rfl rfl rfl) rfl rfl (y_gtr_f rfl rfl rfl (by omega)) ?_
  refine sxl_y (wn_none rfl) rfl rfl (yp rfl) ?_
  refine sxl_y (wn_none rfl) rfl rfl (yp rfl) ?_
  refine sxl_call (some 32) (by first | exact wn_none rfl | exact wn_on rfl rfl rfl) rfl rfl (yc_call rfl rfl Try.call8) (awake_ok w1) ?_
  rintro _ w2 ⟨rfl, hf2⟩
  refine ⟨_, rfl, ?_⟩
  refine sxl_y (wn_on rfl rfl rfl) rfl rfl (yp rfl) ?_
  refine sxl_y (wn_none rfl) rfl rfl (yp rfl) ?_
  refine sxl_nil ?_
  refine qx_seq ?_
  refine sx_false rfl ?_
  refine sx_skip ?_
  refine qx_seq ?_
  refine sx_seq ?_
  refine sx_region ?_
  refine sxl_call (some 37) (by first | exact wn_none rfl | exact wn_on rfl rfl rfl) rfl rfl (yc_call rfl rfl Try.call7) (new_ok 7 w2 (by omega) (by omega)) ?_
  rintro _ w3 ⟨Ld, rfl, h3, hL3, hf3⟩
  refine ⟨_, rfl, ?_⟩
  refine sxl_y (wn_none rfl) rfl rfl (yp rfl) ?_
  refine sxl_y (wn_none rfl) rfl rfl (yp rfl) ?_
  refine sxl_y (wn_none rfl) rfl rfl (yp rfl) ?_
  refine sxl_y (wn_none rfl) rfl rfl (yp rfl) ?_
  refine sxl_y (wn_none rfl) rfl rfl (yp rfl) ?_
  refine sxl_nil ?_
  refine qx_seq ?_
  refine sx_seq ?_
  refine sx_region ?_
  refine sxl_call (some 41) (by first | exact wn_none rfl | exact wn_on rfl rfl rfl) rfl rfl (yc_call rfl rfl Try.call7) (new_ok 7 w3 (by omega) (by omega)) ?_
  rintro _ w4 ⟨Lx, rfl, h4, hL4, hf4⟩
  refine ⟨_, rfl, ?_⟩
  obtain ⟨m, hm⟩ := wrap_u64_nat k
  refine sxl_y (wn_none rfl) rfl rfl (yp rfl) ?_
  refine sxl_y (wn_none rfl) rfl rfl (yp rfl) ?_
  refine sxl_y (wn_none rfl) rfl rfl (yp rfl) ?_
  refine sxl_y (wn_none rfl) rfl rfl (yp rfl) ?_
  refine sxl_y (wn_none rfl) rfl rfl (yp rfl) ?_
  refine sxl_nil ?_
  refine qx_seq ?_
  refine sx_seq ?_
  refine sx_seq ?_
  refine sx_region ?_
  refine sxl_y (wn_none rfl) rfl rfl (yp rfl) ?_
  refine sxl_y (wn_none rfl) rfl rfl (y_neq_f rfl rfl rfl (by omega)) ?_
  refine sxl_y (wn_none rfl) rfl rfl (yp rfl) ?_
  refine sxl_y (wn_on rfl rfl rfl) rfl rfl (yp rfl) ?_
  refine sxl_y (wn_on rfl rfl rfl) rfl rfl (y_neq_f rfl rfl rfl (by omega)) ?_
  refine sxl_y (wn_none rfl) rfl rfl (yp rfl) ?_
  refine sxl_nil ?_
  refine qx_seq ?_
  refine sx_false rfl ?_
  refine sx_skip ?_
  refine qx_seq ?_
  refine sx_seq ?_
  refine sx_region ?_
  refine sxl_y (wn_none rfl) rfl rfl (yp rfl) ?_
  refine sxl_y (wn_none rfl) rfl rfl (y_convInt rfl rfl Try.underlying3 Try.underlying26 hm) ?_
  refine sxl_y (wn_none rfl) rfl rfl (y_rem rfl rfl rfl (by omega) (by omega)) ?_
  refine sxl_y (wn_none rfl) rfl rfl (y_convInt rfl rfl Try.underlying26 Try.underlying3 (IntWalk.i64_in ((m : Int) % 100) ⟨by omega, by omega⟩)) ?_
  refine sxl_y (wn_none rfl) rfl rfl (yp rfl) ?_
  refine sxl_nil ?_
  refine qx_seq ?_
  refine sx_seq ?_
  obtain ⟨K, hK⟩ : ∃ K : Nat, K = m % 100 := ⟨_, rfl⟩
  have eK : (m : Int) % 100 = (K : Int) := by omega
  have hK1 : K < 100 := by omega
  rw [eK]
  clear hK eK hm p0 p1 p2
  have hb5 := ((hb5.fr0 hf2).fr0 hf3).fr0 hf4
  have p0 : Cell w4.heap g5 0 (.slice kA keep.length kc) := hb5.c 0 rfl
  have p1 : Cell w4.heap g5 1 (.int .i64 torn) := hb5.c 1 rfl
  have p2 : Cell w4.heap g5 2 (.int .i64 (cn : Int)) := hb5.c 2 rfl
  have hF4 : Fr0 w w4 := ((hf1.then0 hf2).then0 hf3).then0 hf4
  have hz1 := hf1.size
  have hz2 := hf2.size
  have hz3 := hf3.size
  have hz4 := hf4.size
  have T4 : Two w w4 Ld Lx (newDS 7) (newDS 7) := ⟨⟨hF4, h3.fr0 hf4, fun b hb => by have := hL3 b hb; omega⟩, ⟨hF4, h4, fun b hb => by have := hL4 b hb; omega⟩, fun b hb hx => by have := h3.lt hb; have := hL4 b hx; omega, fun hp => absurd hp (by simp [newDS]), rfl⟩
  have hlx : (newDS 7).lasts.length = 7 := newDS_len 7
  refine sx_any 10 (fun w' => Cell w'.heap g5 0 (.slice kA keep.length kc) ∧ Cell w'.heap g5 1 (.int .i64 torn) ∧ Cell w'.heap g5 2 (.int .i64 (cn : Int))) hmix ?_
  have HSf : ∀ w', Fr0 w4 w' → Cell w'.heap g5 0 (.slice kA keep.length kc) ∧ Cell w'.heap g5 1 (.int .i64 torn) ∧ Cell w'.heap g5 2 (.int .i64 (cn : Int)) := fun w' hf => ⟨p0.fr hf (fun hh => hh), p1.fr hf (fun hh => hh), p2.fr hf (fun hh => hh)⟩
  have HS := HSf w4.drew Fr.refl.drew
  refine sxo_via (ι := Value × Nat) 1 #[true, true, true, true, true, true, true, true, true, true, false] (fun x w' => w'.ownsRow w.heap.size 4 1 x.1 keep.length (boolsV keep) ∧ Blk w' x.2 25 [.slice none 0 0, .int .i64 0, .int .i64 0] ∧ Fr0 w4 w' ∧ w4.heap.size ≤ x.2)
    (fun x => [(62, .agg #[x.1, .int .i64 torn, .int .i64 (cn : Int)]), (11, .pointer (some ⟨x.2, 0, none⟩)), (0, .slice A l.length c), (1, .int .i64 (K : Int)), (5, .pointer (some ⟨g5, 0, none⟩)), (7, .pointer (some ⟨Ld.gd, 0, none⟩)), (9, .pointer (some ⟨Lx.gd, 0, none⟩))]) ?_ ?_
  rotate_left
  · intro fin
    refine sxo_y 1 10 (by kernel_rfl) (fun c a t v w h => by cases t <;> exact h) (by kernel_rfl) rfl (by kernel_rfl) (by kernel_rfl) rfl (wn_none rfl) rfl rfl HS (fun w' hS' => yp rfl) ?_
    refine sxo_y 2 10 (by kernel_rfl) (fun c a t v w h => by cases t <;> exact h) (by kernel_rfl) rfl (by kernel_rfl) (by kernel_rfl) rfl (wn_none rfl) rfl rfl HS (fun w' hS' => y_load rfl rfl (sc rfl) (by obtain ⟨s1, s2, s3⟩ := hS'; assumption)) ?_
    refine sxo_y 4 10 (by kernel_rfl) (fun c a t v w h => by cases t <;> exact h) (by kernel_rfl) rfl (by kernel_rfl) (by kernel_rfl) rfl (wn_none rfl) rfl rfl HS (fun w' hS' => yp rfl) ?_
    refine sxo_y 5 10 (by kernel_rfl) (fun c a t v w h => by cases t <;> exact h) (by kernel_rfl) rfl (by kernel_rfl) (by kernel_rfl) rfl (wn_none rfl) rfl rfl HS (fun w' hS' => y_load rfl rfl (sc rfl) (by obtain ⟨s1, s2, s3⟩ := hS'; assumption)) ?_
    refine sxo_y 6 10 (by kernel_rfl) (fun c a t v w h => by cases t <;> exact h) (by kernel_rfl) rfl (by kernel_rfl) (by kernel_rfl) rfl (wn_none rfl) rfl rfl HS (fun w' hS' => yp rfl) ?_
    refine sxo_y 7 10 (by kernel_rfl) (fun c a t v w h => by cases t <;> exact h) (by kernel_rfl) rfl (by kernel_rfl) (by kernel_rfl) rfl (wn_none rfl) rfl rfl HS (fun w' hS' => y_load rfl rfl (sc rfl) (by obtain ⟨s1, s2, s3⟩ := hS'; assumption)) ?_
    refine sxo_all (rs := [0, 9]) (by kernel_rfl) (by simp) ?_
    intro i hi
    obtain rfl | rfl : i = 0 ∨ i = 9 := by simpa using hi
    · refine op_does' (some 54) rfl (wn_none rfl) rfl rfl (fun ρ hρ => does_slice0 23 4 1 rfl Try.underlying23 (by kernel_rfl)) ?_
      rintro _ w5 ⟨g, rfl, hg, hg', -, hf5, ho5⟩
      have hf5 := hf5.ofDrew
      refine ⟨fun _ => HSf _ hf5, ?_⟩
      have ho5 := ho5 w.heap.size (by show w.heap.size ≤ w4.heap.size; omega)
      refine sxo_all (rs := [3, 9]) (by kernel_rfl) (by simp) ?_
      intro i hi
      obtain rfl | rfl : i = 3 ∨ i = 9 := by simpa using hi
      · refine op_does' (some 57) rfl (wn_none rfl) rfl rfl (fun ρ hρ => does_append (.tmp 54) (.tmp 56) 23 rfl w.heap.size 4 (.bool false) 1 Try.underlying23 (by kernel_rfl) rfl _ 0 [] (hρ _ _ rfl) ho5 kA keep.length kc (boolsV keep) (hρ _ _ rfl) (hk.fr0 (hF4.then0 hf5)) (bools_one _) (by unfold maxLen; omega) (by omega) (hF4.then0 hf5).size) ?_
        rintro v6 w6 ⟨ho6, hg6, hv6⟩
        rw [Nat.zero_add, List.nil_append] at ho6
        have hf6 : Fr0 w4 w6 := hf5.grown hg6 (fun k e hlt => by injection e with e; have : g = k := e; have : w4.heap.size ≤ g := hg; omega)
        obtain ⟨A6, c6, rfl, hN6⟩ := own_form0 ho6
        refine ⟨fun _ => HSf _ hf6, ?_⟩
        refine sxo_y 8 10 (by kernel_rfl) (fun c a t v w h => by cases t <;> exact h) (by kernel_rfl) rfl (by kernel_rfl) (by kernel_rfl) rfl (wn_none rfl) rfl rfl (HSf _ hf6) (fun w' hS' => y_build (cells := #[.slice A6 keep.length c6, .int .i64 torn, .int .i64 (cn : Int)]) rfl rfl (by kernel_rfl)) ?_
        refine sxo_does 9 (some 11) (by kernel_rfl) rfl (wn_none rfl) rfl rfl (fun ρ hρ => does_alloc 25 rfl (.agg #[.slice none 0 0, .int .i64 0, .int .i64 0]) [.slice none 0 0, .int .i64 0, .int .i64 0] (by kernel_rfl) rfl) ?_
        rintro _ w7 ⟨g7, rfl, hg7, hg7', hb7, hf7⟩
        refine ⟨fun _ => HSf _ (hf6.then0 hf7), ?_⟩
        exact fin (.slice A6 keep.length c6, g7) w7 _ _ ⟨ownN_fr ho6 hf7 (fun _ _ hh => hh), hb7, hf6.then0 hf7, by have := hf6.size; show w4.heap.size ≤ g7; omega⟩ ⟨rfl, rfl, rfl, rfl, rfl, rfl, rfl, trivial⟩ (by kernel_rfl)
      · refine op_does' (some 11) rfl (wn_none rfl) rfl rfl (fun ρ hρ => does_alloc 25 rfl (.agg #[.slice none 0 0, .int .i64 0, .int .i64 0]) [.slice none 0 0, .int .i64 0, .int .i64 0] (by kernel_rfl) rfl) ?_
        rintro _ w6 ⟨g7, rfl, hg7, hg7', hb7, hf6⟩
        have hF6 := hf5.then0 hf6
        have ho6 := ownN_fr ho5 hf6 (fun _ _ hh => hh)
        refine ⟨fun _ => HSf _ hF6, ?_⟩
        refine sxo_does 3 (some 57) (by kernel_rfl) rfl (wn_none rfl) rfl rfl (fun ρ hρ => does_append (.tmp 54) (.tmp 56) 23 rfl w.heap.size 4 (.bool false) 1 Try.underlying23 (by kernel_rfl) rfl _ 0 [] (hρ _ _ rfl) ho6 kA keep.length kc (boolsV keep) (hρ _ _ rfl) (hk.fr0 (hF4.then0 hF6)) (bools_one _) (by unfold maxLen; omega) (by omega) (hF4.then0 hF6).size) ?_
        rintro v8 w8 ⟨ho8, hg8, hv8⟩
        rw [Nat.zero_add, List.nil_append] at ho8
        have hf8 : Fr0 w4 w8 := hF6.grown hg8 (fun k e hlt => by injection e with e; have : g = k := e; have : w4.heap.size ≤ g := hg; omega)
        have hb8 : Blk w8 g7 25 _ := hb7.fr (Fr.grown (S := fun k => some k = some g) Fr.refl hg8 (fun k e _ => e.symm)) (fun e => by injection e with e; omega)
        obtain ⟨A8, c8, rfl, hN8⟩ := own_form0 ho8
        refine ⟨fun _ => HSf _ hf8, ?_⟩
        refine sxo_y 8 10 (by kernel_rfl) (fun c a t v w h => by cases t <;> exact h) (by kernel_rfl) rfl (by kernel_rfl) (by kernel_rfl) rfl (wn_none rfl) rfl rfl (HSf _ hf8) (fun w' hS' => y_build (cells := #[.slice A8 keep.length c8, .int .i64 torn, .int .i64 (cn : Int)]) rfl rfl (by kernel_rfl)) ?_
        exact fin (.slice A8 keep.length c8, g7) w8 _ _ ⟨ho8, hb8, hf8, by have := hf5.size; show w4.heap.size ≤ g7; omega⟩ ⟨rfl, rfl, rfl, rfl, rfl, rfl, rfl, trivial⟩ (by kernel_rfl)
    · refine op_does' (some 11) rfl (wn_none rfl) rfl rfl (fun ρ hρ => does_alloc 25 rfl (.agg #[.slice none 0 0, .int .i64 0, .int .i64 0]) [.slice none 0 0, .int .i64 0, .int .i64 0] (by kernel_rfl) rfl) ?_
      rintro _ w5 ⟨g7, rfl, hg7, hg7', hb7, hf5⟩
      have hf5 := hf5.ofDrew
      have hg7 : w4.heap.size ≤ g7 := hg7
      refine ⟨fun _ => HSf _ hf5, ?_⟩
      refine sxo_does 0 (some 54) (by kernel_rfl) rfl (wn_none rfl) rfl rfl (fun ρ hρ => does_slice0 23 4 1 rfl Try.underlying23 (by kernel_rfl)) ?_
      rintro _ w6 ⟨g, rfl, hg, hg', -, hf6, ho6⟩
      have hF6 := hf5.then0 hf6
      have hz5 := hf5.size
      have ho6 := ho6 w.heap.size (by omega)
      refine ⟨fun _ => HSf _ hF6, ?_⟩
      refine sxo_does 3 (some 57) (by kernel_rfl) rfl (wn_none rfl) rfl rfl (fun ρ hρ => does_append (.tmp 54) (.tmp 56) 23 rfl w.heap.size 4 (.bool false) 1 Try.underlying23 (by kernel_rfl) rfl _ 0 [] (hρ _ _ rfl) ho6 kA keep.length kc (boolsV keep) (hρ _ _ rfl) (hk.fr0 (hF4.then0 hF6)) (bools_one _) (by unfold maxLen; omega) (by omega) (hF4.then0 hF6).size) ?_
      rintro v8 w8 ⟨ho8, hg8, hv8⟩
      rw [Nat.zero_add, List.nil_append] at ho8
      have hf8 : Fr0 w4 w8 := hF6.grown hg8 (fun k e hlt => by injection e with e; have : g = k := e; omega)
      have hb8 : Blk w8 g7 25 _ := (hb7.fr0 hf6).fr (Fr.grown (S := fun k => some k = some g) Fr.refl hg8 (fun k e _ => e.symm)) (fun e => by injection e with e; omega)
      obtain ⟨A8, c8, rfl, hN8⟩ := own_form0 ho8
      refine ⟨fun _ => HSf _ hf8, ?_⟩
      refine sxo_y 8 10 (by kernel_rfl) (fun c a t v w h => by cases t <;> exact h) (by kernel_rfl) rfl (by kernel_rfl) (by kernel_rfl) rfl (wn_none rfl) rfl rfl (HSf _ hf8) (fun w' hS' => y_build (cells := #[.slice A8 keep.length c8, .int .i64 torn, .int .i64 (cn : Int)]) rfl rfl (by kernel_rfl)) ?_
      exact fin (.slice A8 keep.length c8, g7) w8 _ _ ⟨ho8, hb8, hf8, by show w4.heap.size ≤ g7; omega⟩ ⟨rfl, rfl, rfl, rfl, rfl, rfl, rfl, trivial⟩ (by kernel_rfl)
  rintro ⟨v, g11⟩ w5 ⟨ho5, hb11, hf5, hg11⟩
  have ho5 : w5.ownsRow w.heap.size 4 1 v keep.length (boolsV keep) := ho5
  obtain ⟨A5, c5, rfl, hN5⟩ := own_form0 ho5
  refine sxo_does 10 none (by kernel_rfl) rfl (wn_none rfl) rfl rfl (fun ρ hρ => does_store 25 (.tmp 11) (.tmp 62) rfl g11 0 25 _ [.slice A5 keep.length c5, .int .i64 torn, .int .i64 (cn : Int)] (hρ _ _ rfl) (hρ _ _ rfl) hb11 (by kernel_rfl) (by simp) (by intro u hu; simp only [List.mem_cons, List.not_mem_nil, or_false] at hu; rcases hu with rfl | rfl | rfl <;> rfl)) ?_
  rintro _ w6 ⟨rfl, hb6, hf6⟩
  refine ⟨fun h => absurd h (by omega), ?_⟩
  refine sxo_done (by kernel_rfl) ?_
  have hb6 : Blk w6 g11 25 [.slice A5 keep.length c5, .int .i64 torn, .int .i64 (cn : Int)] := hb6
  have hg11 : w4.heap.size ≤ g11 := hg11
  have T5 := T4.fr0 hf5
  have T6 := T5.off hb11 (by decide) (by omega) hf6 (fun hp => absurd hp (by simp [newDS]))
  have ho6 := ownN_fr ho5 hf6 (fun k hk e => own_off ho5 hb11 (by decide) (e ▸ hk))
  have q5 : Blk w6 g5 25 [.slice kA keep.length kc, .int .i64 torn, .int .i64 (cn : Int)] := (hb5.fr0 hf5).fr hf6 (fun e => by have := hb5.lt; omega)
  refine qx_seq ?_
  refine sx_seq ?_
  refine sx_seq ?_
  refine sx_region ?_
  refine sxl_y (wn_none rfl) rfl rfl (yp rfl) ?_
  refine sxl_y (wn_none rfl) rfl rfl (yp rfl) ?_
  refine sxl_y (wn_none rfl) rfl rfl (y_loadB rfl rfl hb6 Try.underlying25 rfl plan_size (by simp)) ?_
  have hr6 := Rd.of_own ho6
  refine sxl_call (some 66) (by first | exact wn_none rfl | exact wn_on rfl rfl rfl) rfl rfl (yc_call rfl rfl Try.call18) (fuse_ok K A5 c5 keep torn cn w6 Ld (newDS 7) T6.d.dk rfl hr6 hN5 hkm hcn (by omega)) ?_
  rintro _ w7 ⟨L7, rfl, h7⟩
  refine ⟨_, rfl, ?_⟩
  have T7 := T6.fuse h7
  rw [← h7.gd]
  have hz6 := hf6.size
  have hgA : ∀ b, (Value.slice A5 keep.length c5).ownBlock = some b → b < w6.heap.size := fun b hb => (ho6.lt b hb).2
  have hkA7 := h7.kA
  have hg11n : g11 ≠ Ld.gd := fun e => T6.d.dk.notin hb6 (by decide) (.inl e)
  have hb7 := hb6.fr h7.fr hg11n
  have q7 := q5.fr h7.fr (fun e => T6.d.dk.notin q5 (by decide) (.inl e))
  have ho7 := ownN_fr ho6 h7.fr (fun k hk e => by obtain ⟨cs, hc⟩ := own_ty ho6 hk; exact T6.d.dk.notin hc (by decide) (.inl e))
  have tw : Twin K keep torn cn 0 ((newDS 7).fuse K keep torn cn) (newDS 7) := ⟨rfl, rfl, rfl, rfl, Nat.zero_le _, newDS_len 7⟩
  clear hb5 hb11 hf5 hb6 T4 T5 T6 ho5 ho6 hr6 hf6 h3 h4 hL3 hL4 HSf HS q5 hf1 hf2 hf3 hf4
  refine sxl_y (wn_none rfl) rfl rfl (y_neq_f rfl rfl rfl (by omega)) ?_
  refine sxl_nil ?_
  refine qx_seq ?_
  refine sx_false rfl ?_
  refine sx_skip ?_
  refine qx_seq ?_
  refine sx_seq ?_
  refine sx_seq ?_
  refine sx_region ?_
  refine sxl_y (wn_none rfl) rfl rfl (yp rfl) ?_
  refine sxl_nil ?_
  refine qx_seq ?_
  refine sx_block ?_
  refine sx_loop (fun e wr m => ∃ (k : Nat) (ks : List Bool), e = [(12, .int .i64 (k : Int)), (11, .pointer (some ⟨g11, 0, none⟩)), (0, .slice A l.length c), (1, .int .i64 (K : Int)), (5, .pointer (some ⟨g5, 0, none⟩)), (7, .pointer (some ⟨L7.gd, 0, none⟩)), (9, .pointer (some ⟨Lx.gd, 0, none⟩))] ∧ k ≤ keep.length ∧ ks.length = keep.length ∧ Two w wr L7 Lx ((newDS 7).fuse K keep torn cn) (newDS 7) ∧ Blk wr g11 25 [.slice A5 keep.length c5, .int .i64 torn, .int .i64 (cn : Int)] ∧ Blk wr g5 25 [.slice kA keep.length kc, .int .i64 torn, .int .i64 (cn : Int)] ∧ wr.ownsRow w.heap.size 4 1 (.slice A5 keep.length c5) keep.length (boolsV ks) ∧ m = keep.length - k) ⟨0, keep, rfl, Nat.zero_le _, rfl, T7, hb7, q7, ho7, rfl⟩ ⟨rfl, rfl, rfl, rfl, rfl, rfl, rfl, trivial⟩ ?_
  clear T7 hb7 q7 ho7
  rintro _ wr _ ⟨k, ks, rfl, hk', hks, T, hb, q, ho, rfl⟩
  have c0 : Cell wr.heap g11 0 (.slice A5 keep.length c5) := hb.c 0 rfl
  by_cases hlt : k < keep.length
  · obtain ⟨g12, cap, rest, ev, hg12, _, _, hb12, hlen⟩ := ownN_blk ho (by omega)
    injection ev with ev1 _ ev2
    subst ev1; subst ev2
    have hkk : ks[k]? = some ks[k] := List.getElem?_eq_getElem (by omega)
    have ck : Cell wr.heap g12 (0 + k * 1) (.bool ks[k]) := hb12.c _ (by rw [Nat.zero_add, Nat.mul_one, List.getElem?_append_left (by rw [boolsV_length]; omega), boolsV, List.getElem?_map, hkk]; rfl)
    refine sx_seq ?_
    refine sx_seq ?_
    refine sx_region ?_
    refine sxl_y (wn_none rfl) rfl rfl (yp rfl) ?_
    refine sxl_y (wn_none rfl) rfl rfl (yp rfl) ?_
    refine sxl_y (wn_none rfl) rfl rfl (y_load rfl rfl (sc rfl) (by assumption)) ?_
    refine sxl_y (wn_none rfl) rfl rfl (y_len rfl rfl (sl rfl)) ?_
    refine sxl_y (wn_none rfl) rfl rfl (y_lss_t rfl rfl rfl (by omega)) ?_
    refine sxl_nil ?_
    refine qx_seq ?_
    refine sx_true rfl ?_
    refine sx_skip ?_
    refine qx_seq ?_
    refine sx_seq ?_
    refine sx_block ?_
    refine sx_tail 10 hmix (by kernel_rfl) ?_
    refine sxs_y (wn_none rfl) rfl rfl (yp rfl) ?_
    refine sxs_y (wn_none rfl) rfl rfl (y_load rfl rfl (sc rfl) (by assumption)) ?_
    refine sxs_y (wn_none rfl) rfl rfl (yp rfl) ?_
    refine sxs_y (wn_none rfl) rfl rfl (yp rfl) ?_
    refine sxs_y (wn_none rfl) rfl rfl (y_load rfl rfl (sc rfl) (by assumption)) ?_
    refine sxs_y (wn_none rfl) rfl rfl (yp rfl) ?_
    refine sxs_y (wn_none rfl) rfl rfl (y_indexN rfl rfl rfl (sl rfl) (by omega)) ?_
    refine sxs_y (wn_none rfl) rfl rfl (y_load rfl rfl (sc rfl) (by assumption)) ?_
    refine sxs_y (wn_none rfl) rfl rfl (yp rfl) ?_
    refine sxs_y (wn_none rfl) rfl rfl (y_indexN rfl rfl rfl (sl rfl) (by omega)) ?_
    refine sxs_tail ?_
    refine sxl_does none (wn_none rfl) rfl rfl (fun ρ hρ => does_store1 4 (.tmp 84) (.tmp 83) rfl g12 k 4 _ (.bool (!ks[k])) (by rw [hρ _ _ rfl]; simp) (hρ _ _ rfl) rfl hb12.drew (by kernel_rfl) (by rw [List.length_append, boolsV_length]; omega) rfl) ?_
    rintro _ w8 ⟨rfl, hb8, hf8⟩
    rw [List.set_append_left _ _ (by rw [boolsV_length]; omega), boolsV_set] at hb8
    have hf8 := hf8.ofDrew
    have T8 := T.off hb12 (by decide) hg12 hf8 (fun hp b off e e' => by have := hkA7 b off e; have := hgA g12 rfl; omega)
    have o8 : w8.ownsRow w.heap.size 4 1 (.slice (some ⟨g12, 0, none⟩) keep.length c5) keep.length (boolsV (ks.set k (!ks[k]))) := ownN_of_blk hb8 hg12 (by omega) (by omega) (by rw [← hlen, List.length_append, List.length_append, boolsV_length, boolsV_length, List.length_set]) (by rw [boolsV_length, List.length_set]; omega)
    refine sxl_nil ?_
    refine qx_block_normal ?_
    refine qx_seq ?_
    refine sx_region ?_
    refine sxl_y (wn_none rfl) rfl rfl (yp rfl) ?_
    refine sxl_y (wn_none rfl) rfl rfl (y_add rfl rfl rfl (by omega)) ?_
    refine sxl_y (wn_none rfl) rfl rfl (yp rfl) ?_
    refine sxl_nil ?_
    exact qx_again [(12, .int .i64 ((k + 1 : Nat) : Int)), (11, .pointer (some ⟨g11, 0, none⟩)), (0, .slice A l.length c), (1, .int .i64 (K : Int)), (5, .pointer (some ⟨g5, 0, none⟩)), (7, .pointer (some ⟨L7.gd, 0, none⟩)), (9, .pointer (some ⟨Lx.gd, 0, none⟩))] (keep.length - (k + 1)) ⟨k + 1, ks.set k (!ks[k]), rfl, hlt, by rw [List.length_set]; exact hks, T8, hb.fr hf8 (fun e => Blk.ne hb hb12 (by decide) e), q.fr hf8 (fun e => Blk.ne q hb12 (by decide) e), o8, rfl⟩ (by omega) ⟨rfl, rfl, rfl, rfl, rfl, rfl, rfl, trivial⟩
  refine sx_seq ?_
  refine sx_seq ?_
  refine sx_region ?_
  refine sxl_y (wn_none rfl) rfl rfl (yp rfl) ?_
  refine sxl_y (wn_none rfl) rfl rfl (yp rfl) ?_
  refine sxl_y (wn_none rfl) rfl rfl (y_load rfl rfl (sc rfl) (by assumption)) ?_
  refine sxl_y (wn_none rfl) rfl rfl (y_len rfl rfl (sl rfl)) ?_
  refine sxl_y (wn_none rfl) rfl rfl (y_lss_f rfl rfl rfl (by omega)) ?_
  refine sxl_nil ?_
  refine qx_seq ?_
  refine sx_false rfl ?_
  refine sx_exit ?_
  refine qx_then_exit ?_
  refine qx_then_exit ?_
  refine qx_block_hit ?_
  refine qx_seq ?_
  refine sx_seq ?_
  refine sx_region ?_
  refine sxl_y (wn_none rfl) rfl rfl (yp rfl) ?_
  refine sxl_nil ?_
  refine qx_seq ?_
  refine sx_seq ?_
  refine sx_seq ?_
  refine sx_region ?_
  refine sxl_y (wn_none rfl) rfl rfl (yp rfl) ?_
  refine sxl_nil ?_
  refine qx_seq ?_
  refine sx_block ?_
  clear ho hb c0 hgA hkA7 hg11n
  refine sx_via (ι := DL × DL × DS × DS) 2 (fun x w' => Two w w' x.1 x.2.1 x.2.2.1 x.2.2.2 ∧ Same x.2.2.1 x.2.2.2) (fun x => [(7, .pointer (some ⟨x.1.gd, 0, none⟩)), (9, .pointer (some ⟨x.2.1.gd, 0, none⟩))]) ?_ ?_
  rotate_left
  · intro fin
    refine sx_loop (fun e wr m => ∃ (i dn : Nat) (Ld Lx : DL) (sd sx : DS), e = [(14, .int .i64 (i : Int)), (13, .int .i64 (dn : Int)), (0, .slice A l.length c), (1, .int .i64 (K : Int)), (5, .pointer (some ⟨g5, 0, none⟩)), (7, .pointer (some ⟨Ld.gd, 0, none⟩)), (9, .pointer (some ⟨Lx.gd, 0, none⟩))] ∧ i ≤ 60 ∧ dn ≤ 2 * i ∧ Two w wr Ld Lx sd sx ∧ Twin K keep torn cn dn sd sx ∧ sx.done ≤ 2 * i ∧ sx.waits.length ≤ i ∧ Blk wr g5 25 [.slice kA keep.length kc, .int .i64 torn, .int .i64 (cn : Int)] ∧ m = 60 - i) ⟨0, 0, L7, Lx, _, _, rfl, by omega, by omega, T, tw, Nat.zero_le _, Nat.zero_le _, q, rfl⟩ ⟨rfl, rfl, rfl, rfl, rfl, rfl, rfl, trivial⟩ ?_
    clear T q tw
    rintro _ wr _ ⟨i, dn, Ld, Lx, sd, sx, rfl, hi, hdn, T, tw, hdo, hwa, q, rfl⟩
    by_cases hlt : i < l.length ∧ i < 60
    · obtain ⟨⟨pa, pw, pf⟩, hp⟩ : ∃ p, l[i]? = some p := ⟨_, List.getElem?_eq_getElem hlt.1⟩
      obtain ⟨ab, aoff, rfl, ca0, cw0, cf0⟩ := put_cells hl hp
      have ca := ca0.fr T.d.fr (fun hh => hh)
      have cw := cw0.fr T.d.fr (fun hh => hh)
      have hpa := pa.toNat_lt
      obtain ⟨a7, ha7⟩ : ∃ a7 : Nat, (a7 : Int) = (pa.toNat : Int) % 7 := ⟨pa.toNat % 7, by omega⟩
      refine sx_seq ?_
      refine sx_seq ?_
      refine sx_region ?_
      refine sxl_y (wn_none rfl) rfl rfl (yp rfl) ?_
      refine sxl_y (wn_none rfl) rfl rfl (yp rfl) ?_
      refine sxl_y (wn_none rfl) rfl rfl (y_len rfl rfl (sl rfl)) ?_
      refine sxl_y (wn_none rfl) rfl rfl (y_lss_t rfl rfl rfl (by omega)) ?_
      refine sxl_y (wn_none rfl) rfl rfl (yp rfl) ?_
      refine sxl_y (wn_on rfl rfl rfl) rfl rfl (yp rfl) ?_
      refine sxl_y (wn_on rfl rfl rfl) rfl rfl (y_lss_t rfl rfl rfl (by omega)) ?_
      refine sxl_y (wn_none rfl) rfl rfl (yp rfl) ?_
      refine sxl_nil ?_
      refine qx_seq ?_
      refine sx_true rfl ?_
      refine sx_skip ?_
      refine qx_seq ?_
      refine sx_seq ?_
      refine sx_block ?_
      refine sx_seq ?_
      refine sx_region ?_
      refine sxl_y (wn_none rfl) rfl rfl (yp rfl) ?_
      refine sxl_y (wn_none rfl) rfl rfl (yp rfl) ?_
      refine sxl_y (wn_none rfl) rfl rfl (y_indexN rfl rfl rfl (sl rfl) (by omega)) ?_
      refine sxl_y (wn_none rfl) rfl rfl (yp rfl) ?_
      refine sxl_y (wn_none rfl) rfl rfl (y_load rfl rfl (sc rfl) (by assumption)) ?_
      refine sxl_y (wn_none rfl) rfl rfl (y_convInt rfl rfl Try.underlying5 Try.underlying3 (IntWalk.i64_in (pa.toNat : Int) ⟨by omega, by omega⟩)) ?_
      refine sxl_y (wn_none rfl) rfl rfl (y_rem rfl rfl rfl (by omega) (by omega)) ?_
      refine sxl_y (wn_none rfl) rfl rfl (yp rfl) ?_
      refine sxl_nil ?_
      refine qx_seq ?_
      refine sx_seq ?_
      rw [← ha7]
      have ha8 : a7 < 7 := by omega
      refine sx_any 20 (fun w' => Cell w'.heap ab (aoff + i * 3 + 1) (.int .u8 (pw.toNat : Int)) ∧ True) hmix ?_
      have HSf : ∀ w', Fr0 w w' → Cell w'.heap ab (aoff + i * 3 + 1) (.int .u8 (pw.toNat : Int)) ∧ True := fun w' hf => ⟨cw0.fr hf (fun hh => hh), trivial⟩
      have HS := HSf wr.drew T.d.fr.drew
      refine sxo_y 0 20 (by kernel_rfl) (fun c a t v w h => by cases t <;> exact h) (by kernel_rfl) rfl (by kernel_rfl) (by kernel_rfl) rfl (wn_none rfl) rfl rfl HS (fun w' hS' => yp rfl) ?_
      refine sxo_y 1 20 (by kernel_rfl) (fun c a t v w h => by cases t <;> exact h) (by kernel_rfl) rfl (by kernel_rfl) (by kernel_rfl) rfl (wn_none rfl) rfl rfl HS (fun w' hS' => yp rfl) ?_
      refine sxo_y 2 20 (by kernel_rfl) (fun c a t v w h => by cases t <;> exact h) (by kernel_rfl) rfl (by kernel_rfl) (by kernel_rfl) rfl (wn_none rfl) rfl rfl HS (fun w' hS' => yp rfl) ?_
      refine sxo_y 3 20 (by kernel_rfl) (fun c a t v w h => by cases t <;> exact h) (by kernel_rfl) rfl (by kernel_rfl) (by kernel_rfl) rfl (wn_none rfl) rfl rfl HS (fun w' hS' => yp rfl) ?_
      refine sxo_y 4 20 (by kernel_rfl) (fun c a t v w h => by cases t <;> exact h) (by kernel_rfl) rfl (by kernel_rfl) (by kernel_rfl) rfl (wn_none rfl) rfl rfl HS (fun w' hS' => y_indexN rfl rfl rfl (sl rfl) (by omega)) ?_
      refine sxo_y 5 20 (by kernel_rfl) (fun c a t v w h => by cases t <;> exact h) (by kernel_rfl) rfl (by kernel_rfl) (by kernel_rfl) rfl (wn_none rfl) rfl rfl HS (fun w' hS' => yp rfl) ?_
      refine sxo_y 6 20 (by kernel_rfl) (fun c a t v w h => by cases t <;> exact h) (by kernel_rfl) rfl (by kernel_rfl) (by kernel_rfl) rfl (wn_none rfl) rfl rfl HS (fun w' hS' => y_load rfl rfl (sc rfl) (by obtain ⟨s1, s2⟩ := hS'; assumption)) ?_
      refine sxo_y 9 20 (by kernel_rfl) (fun c a t v w h => by cases t <;> exact h) (by kernel_rfl) rfl (by kernel_rfl) (by kernel_rfl) rfl (wn_none rfl) rfl rfl HS (fun w' hS' => yp rfl) ?_
      refine sxo_y 10 20 (by kernel_rfl) (fun c a t v w h => by cases t <;> exact h) (by kernel_rfl) rfl (by kernel_rfl) (by kernel_rfl) rfl (wn_none rfl) rfl rfl HS (fun w' hS' => yp rfl) ?_
      refine sxo_y 11 20 (by kernel_rfl) (fun c a t v w h => by cases t <;> exact h) (by kernel_rfl) rfl (by kernel_rfl) (by kernel_rfl) rfl (wn_none rfl) rfl rfl HS (fun w' hS' => yp rfl) ?_
      refine sxo_y 12 20 (by kernel_rfl) (fun c a t v w h => by cases t <;> exact h) (by kernel_rfl) rfl (by kernel_rfl) (by kernel_rfl) rfl (wn_none rfl) rfl rfl HS (fun w' hS' => yp rfl) ?_
      refine sxo_y 13 20 (by kernel_rfl) (fun c a t v w h => by cases t <;> exact h) (by kernel_rfl) rfl (by kernel_rfl) (by kernel_rfl) rfl (wn_none rfl) rfl rfl HS (fun w' hS' => y_indexN rfl rfl rfl (sl rfl) (by omega)) ?_
      refine sxo_y 14 20 (by kernel_rfl) (fun c a t v w h => by cases t <;> exact h) (by kernel_rfl) rfl (by kernel_rfl) (by kernel_rfl) rfl (wn_none rfl) rfl rfl HS (fun w' hS' => yp rfl) ?_
      refine sxo_y 15 20 (by kernel_rfl) (fun c a t v w h => by cases t <;> exact h) (by kernel_rfl) rfl (by kernel_rfl) (by kernel_rfl) rfl (wn_none rfl) rfl rfl HS (fun w' hS' => y_load rfl rfl (sc rfl) (by obtain ⟨s1, s2⟩ := hS'; assumption)) ?_
      refine sxo_call 7 (some 109) (by kernel_rfl) rfl (wn_none rfl) rfl rfl (yc_call rfl rfl Try.call10) (full_ok pw wr.drew) ?_
      rintro _ w6 ⟨g6, rfl, hg6, hb6, hf6⟩
      have hf6 := hf6.ofDrew
      refine ⟨_, rfl, fun _ => HSf _ (T.d.fr.then0 hf6), ?_⟩
      refine sxo_call 8 (some 110) (by kernel_rfl) rfl (wn_none rfl) rfl rfl (yc_call rfl rfl Try.call9) (write_full T.d hf6 a7 pw g6 hg6 hb6 tw.ddead (by rw [tw.dlen]; exact ha8) (by rw [tw.dwaits]; omega) (by rw [tw.ddone]; omega)) ?_
      rintro _ w7 ⟨L7, rfl, h7, H7⟩
      have hkd : (sd.writes a7 (List.replicate 128 pw)).1.keep = sd.keep := by
        unfold DS.writes DS.burnt; split <;> split <;> rfl
      have T7 := (T.fr0 hf6).stepD h7 hkd
      refine ⟨_, rfl, fun _ => HSf _ T7.d.fr, ?_⟩
      refine sxo_call 16 (some 118) (by kernel_rfl) rfl (wn_none rfl) rfl rfl (yc_call rfl rfl Try.call10) (full_ok pw w7) ?_
      rintro _ w8 ⟨g8, rfl, hg8, hb8, hf8⟩
      refine ⟨_, rfl, fun _ => HSf _ (T7.d.fr.then0 hf8), ?_⟩
      refine sxo_call 17 (some 119) (by kernel_rfl) rfl (wn_none rfl) rfl rfl (yc_call rfl rfl Try.call9) (write_full T7.x hf8 a7 pw g8 hg8 hb8 tw.dead (by rw [tw.len]; exact ha8) (by omega) (by omega)) ?_
      rintro _ w9 ⟨L9, rfl, h9, H9⟩
      have hkx : (sx.writes a7 (List.replicate 128 pw)).1.keep = [] := by rw [writes_plain _ tw.fset]; exact tw.keep
      have T9 := (T7.fr0 hf8).stepX h9 hkx
      refine ⟨_, rfl, fun _ => HSf _ T9.d.fr, ?_⟩
      have HS := HSf _ T9.d.fr
      refine sxo_y 18 20 (by kernel_rfl) (fun c a t v w h => by cases t <;> exact h) (by kernel_rfl) rfl (by kernel_rfl) (by kernel_rfl) rfl (wn_none rfl) rfl rfl HS (fun w' hS' => yp rfl) ?_
      refine sxo_y 19 20 (by kernel_rfl) (fun c a t v w h => by cases t <;> exact h) (by kernel_rfl) rfl (by kernel_rfl) (by kernel_rfl) rfl (wn_none rfl) rfl rfl HS (fun w' hS' => yp rfl) ?_
      refine sxo_done (by kernel_rfl) ?_
      rw [← h7.gd, ← h9.gd]
      have q9 := (((q.fr0 hf6).fr h7.fr (T.d.dk.notin q (by decide))).fr0 hf8).fr h9.fr (fun hh => T7.x.dk.notin (q.fr (hf6.of0.step h7.fr (fun _ _ e => e)) (T.d.dk.notin q (by decide))) (by decide) hh)
      have cf := cf0.fr T9.d.fr (fun hh => hh)
      by_cases hdk : dn = K
      · subst hdk
        obtain ⟨e1, e2, x1, x2, x3, x4, sm⟩ := tw.write_eq a7 (List.replicate 128 pw)
        rw [e1, e2]
        refine qx_seq ?_
        refine sx_seq ?_
        refine sx_seq ?_
        refine sx_region ?_
        refine sxl_y (wn_none rfl) rfl rfl (yp rfl) ?_
        refine sxl_y (wn_none rfl) rfl rfl (yp rfl) ?_
        refine sxl_y (wn_none rfl) rfl rfl (y_eql_t rfl rfl rfl (by omega)) ?_
        refine sxl_y (wn_none rfl) rfl rfl (yp rfl) ?_
        refine sxl_y (wn_on rfl rfl rfl) rfl rfl (yp rfl) ?_
        refine sxl_y (wn_on rfl rfl rfl) rfl rfl (y_eql_t rfl rfl rfl (by omega)) ?_
        refine sxl_y (wn_none rfl) rfl rfl (yp rfl) ?_
        refine sxl_nil ?_
        refine qx_seq ?_
        refine sx_true rfl ?_
        refine sx_seq ?_
        refine sx_region ?_
        refine sxl_y (wn_none rfl) rfl rfl (yp rfl) ?_
        refine sxl_y (wn_none rfl) rfl rfl (y_loadB rfl rfl q9 Try.underlying25 rfl plan_size (by simp)) ?_
        refine sxl_call (some 129) (by first | exact wn_none rfl | exact wn_on rfl rfl rfl) rfl rfl (yc_call rfl rfl Try.call12) (crashC_ok kA kc keep torn cn w9 L9 _ T9.x.dk x1 (hk.fr0 T9.d.fr) (fun hp b off e hb => by have := hk.lt hp b off e; have := T9.x.ge b hb; omega) hcn) ?_
        rintro _ w10 ⟨L10, rfl, h10⟩
        refine ⟨_, rfl, ?_⟩
        rw [← h10.gd]
        have T10 := T9.stepX h10 x2
        refine sxl_y (wn_none rfl) rfl rfl (yp rfl) ?_
        refine sxl_nil ?_
        refine qx_seq ?_
        refine sx_seq ?_
        refine sx_seq ?_
        refine sx_region ?_
        refine sxl_y (wn_none rfl) rfl rfl (yp rfl) ?_
        refine sxl_y (wn_none rfl) rfl rfl (y_neq_f rfl rfl rfl (by omega)) ?_
        refine sxl_y (wn_none rfl) rfl rfl (yp rfl) ?_
        refine sxl_y (wn_on rfl rfl rfl) rfl rfl (yp rfl) ?_
        refine sxl_y (wn_on rfl rfl rfl) rfl rfl (y_neq_f rfl rfl rfl (by omega)) ?_
        refine sxl_y (wn_none rfl) rfl rfl (yp rfl) ?_
        refine sxl_y (wn_none rfl) rfl rfl (yp rfl) ?_
        refine sxl_y (wn_on rfl rfl rfl) rfl rfl (yp rfl) ?_
        refine sxl_call (some 138) (by first | exact wn_none rfl | exact wn_on rfl rfl rfl) rfl rfl (yc_call rfl rfl Try.call13) (dead_any w10 L7.gd true (by rw [← x4]; exact T10.d.dk.c4)) ?_
        rintro _ _ ⟨rfl, rfl⟩
        refine ⟨_, rfl, ?_⟩
        refine sxl_y (wn_on rfl rfl rfl) rfl rfl (yp rfl) ?_
        refine sxl_y (wn_none rfl) rfl rfl (yp rfl) ?_
        refine sxl_nil ?_
        refine qx_seq ?_
        refine sx_false rfl ?_
        refine sx_skip ?_
        refine qx_seq ?_
        refine sx_exit ?_
        refine qx_then_exit ?_
        refine qx_block_miss rfl ?_
        refine qx_then_exit ?_
        refine qx_then_exit ?_
        exact fin (_, _, _, _) _ _ ⟨T10, sm⟩ ⟨rfl, rfl, trivial⟩
      · obtain ⟨e1, e2, tw9, hd9, hw9⟩ := tw.write_lt (by have := tw.le; omega) a7 (List.replicate 128 pw)
        rw [e1, e2]
        cases pf
        · refine qx_seq ?_
          refine sx_seq ?_
          refine sx_seq ?_
          refine sx_region ?_
          refine sxl_y (wn_none rfl) rfl rfl (yp rfl) ?_
          refine sxl_y (wn_none rfl) rfl rfl (yp rfl) ?_
          refine sxl_y (wn_none rfl) rfl rfl (y_eql_f rfl rfl rfl (by omega)) ?_
          refine sxl_y (wn_none rfl) rfl rfl (yp rfl) ?_
          refine sxl_off rfl rfl rfl rfl rfl rfl ?_
          refine sxl_off rfl rfl rfl rfl rfl rfl ?_
          refine sxl_y (wn_none rfl) rfl rfl (yp rfl) ?_
          refine sxl_nil ?_
          refine qx_seq ?_
          refine sx_false rfl ?_
          refine sx_skip ?_
          refine qx_seq ?_
          refine sx_seq ?_
          refine sx_region ?_
          refine sxl_y (wn_none rfl) rfl rfl (yp rfl) ?_
          refine sxl_y (wn_none rfl) rfl rfl (y_add rfl rfl rfl (by omega)) ?_
          refine sxl_y (wn_none rfl) rfl rfl (yp rfl) ?_
          refine sxl_nil ?_
          refine qx_seq ?_
          refine sx_seq ?_
          refine sx_seq ?_
          refine sx_region ?_
          refine sxl_y (wn_none rfl) rfl rfl (yp rfl) ?_
          refine sxl_y (wn_none rfl) rfl rfl (y_neq_f rfl rfl rfl (by omega)) ?_
          refine sxl_y (wn_none rfl) rfl rfl (yp rfl) ?_
          refine sxl_y (wn_on rfl rfl rfl) rfl rfl (yp rfl) ?_
          refine sxl_y (wn_on rfl rfl rfl) rfl rfl (y_neq_f rfl rfl rfl (by omega)) ?_
          refine sxl_y (wn_none rfl) rfl rfl (yp rfl) ?_
          refine sxl_nil ?_
          refine qx_seq ?_
          refine sx_false rfl ?_
          refine sx_skip ?_
          refine qx_seq ?_
          refine sx_seq ?_
          refine sx_seq ?_
          refine sx_region ?_
          refine sxl_y (wn_none rfl) rfl rfl (yp rfl) ?_
          refine sxl_y (wn_none rfl) rfl rfl (yp rfl) ?_
          refine sxl_y (wn_none rfl) rfl rfl (y_indexN rfl rfl rfl (sl rfl) (by omega)) ?_
          refine sxl_y (wn_none rfl) rfl rfl (yp rfl) ?_
          refine sxl_y (wn_none rfl) rfl rfl (y_load rfl rfl (sc rfl) (by assumption)) ?_
          refine sxl_y (wn_none rfl) rfl rfl (yp rfl) ?_
          refine sxl_nil ?_
          refine qx_seq ?_
          refine sx_true rfl ?_
          refine sx_exit ?_
          refine qx_then_exit ?_
          refine qx_block_hit ?_
          refine qx_seq ?_
          refine sx_region ?_
          refine sxl_y (wn_none rfl) rfl rfl (yp rfl) ?_
          refine sxl_y (wn_none rfl) rfl rfl (y_add rfl rfl rfl (by omega)) ?_
          refine sxl_y (wn_none rfl) rfl rfl (yp rfl) ?_
          refine sxl_nil ?_
          exact qx_again [(14, .int .i64 ((i + 1 : Nat) : Int)), (13, .int .i64 ((dn + 1 : Nat) : Int)), (0, .slice (some ⟨ab, aoff, none⟩) l.length c), (1, .int .i64 (K : Int)), (5, .pointer (some ⟨g5, 0, none⟩)), (7, .pointer (some ⟨L7.gd, 0, none⟩)), (9, .pointer (some ⟨L9.gd, 0, none⟩))] (60 - (i + 1)) ⟨i + 1, dn + 1, L7, L9, _, _, rfl, by omega, by omega, T9, tw9, by omega, by omega, q9, rfl⟩ (by omega) ⟨rfl, rfl, rfl, rfl, rfl, rfl, rfl, trivial⟩
        · by_cases hdk2 : dn + 1 = K
          · subst hdk2
            obtain ⟨f1, f2, f3, sm⟩ := tw9.flush_eq
            refine qx_seq ?_
            refine sx_seq ?_
            refine sx_seq ?_
            refine sx_region ?_
            refine sxl_y (wn_none rfl) rfl rfl (yp rfl) ?_
            refine sxl_y (wn_none rfl) rfl rfl (yp rfl) ?_
            refine sxl_y (wn_none rfl) rfl rfl (y_eql_f rfl rfl rfl (by omega)) ?_
            refine sxl_y (wn_none rfl) rfl rfl (yp rfl) ?_
            refine sxl_off rfl rfl rfl rfl rfl rfl ?_
            refine sxl_off rfl rfl rfl rfl rfl rfl ?_
            refine sxl_y (wn_none rfl) rfl rfl (yp rfl) ?_
            refine sxl_nil ?_
            refine qx_seq ?_
            refine sx_false rfl ?_
            refine sx_skip ?_
            refine qx_seq ?_
            refine sx_seq ?_
            refine sx_region ?_
            refine sxl_y (wn_none rfl) rfl rfl (yp rfl) ?_
            refine sxl_y (wn_none rfl) rfl rfl (y_add rfl rfl rfl (by omega)) ?_
            refine sxl_y (wn_none rfl) rfl rfl (yp rfl) ?_
            refine sxl_nil ?_
            refine qx_seq ?_
            refine sx_seq ?_
            refine sx_seq ?_
            refine sx_region ?_
            refine sxl_y (wn_none rfl) rfl rfl (yp rfl) ?_
            refine sxl_y (wn_none rfl) rfl rfl (y_neq_f rfl rfl rfl (by omega)) ?_
            refine sxl_y (wn_none rfl) rfl rfl (yp rfl) ?_
            refine sxl_y (wn_on rfl rfl rfl) rfl rfl (yp rfl) ?_
            refine sxl_y (wn_on rfl rfl rfl) rfl rfl (y_neq_f rfl rfl rfl (by omega)) ?_
            refine sxl_y (wn_none rfl) rfl rfl (yp rfl) ?_
            refine sxl_nil ?_
            refine qx_seq ?_
            refine sx_false rfl ?_
            refine sx_skip ?_
            refine qx_seq ?_
            refine sx_seq ?_
            refine sx_seq ?_
            refine sx_region ?_
            refine sxl_y (wn_none rfl) rfl rfl (yp rfl) ?_
            refine sxl_y (wn_none rfl) rfl rfl (yp rfl) ?_
            refine sxl_y (wn_none rfl) rfl rfl (y_indexN rfl rfl rfl (sl rfl) (by omega)) ?_
            refine sxl_y (wn_none rfl) rfl rfl (yp rfl) ?_
            refine sxl_y (wn_none rfl) rfl rfl (y_load rfl rfl (sc rfl) (by assumption)) ?_
            refine sxl_y (wn_none rfl) rfl rfl (yp rfl) ?_
            refine sxl_nil ?_
            refine qx_seq ?_
            refine sx_false rfl ?_
            refine sx_skip ?_
            refine qx_seq ?_
            refine sx_seq ?_
            refine sx_seq ?_
            refine sx_region ?_
            refine sxl_y (wn_none rfl) rfl rfl (yp rfl) ?_
            refine sxl_y (wn_none rfl) rfl rfl (yp rfl) ?_
            refine sxl_y (wn_none rfl) rfl rfl (y_eql_t rfl rfl rfl (by omega)) ?_
            refine sxl_nil ?_
            refine qx_seq ?_
            refine sx_true rfl ?_
            refine sx_seq ?_
            refine sx_seq ?_
            refine sx_region ?_
            refine sxl_y (wn_none rfl) rfl rfl (yp rfl) ?_
            refine sxl_y (wn_none rfl) rfl rfl (y_loadB rfl rfl q9 Try.underlying25 rfl plan_size (by simp)) ?_
            refine sxl_call (some 160) (by first | exact wn_none rfl | exact wn_on rfl rfl rfl) rfl rfl (yc_call rfl rfl Try.call12) (crashC_ok kA kc keep torn cn w9 L9 _ T9.x.dk tw9.dead (hk.fr0 T9.d.fr) (fun hp b off e hb => by have := hk.lt hp b off e; have := T9.x.ge b hb; omega) hcn) ?_
            rintro _ w10 ⟨L10, rfl, h10⟩
            refine ⟨_, rfl, ?_⟩
            rw [← h10.gd]
            have T10 := T9.stepX h10 tw9.keep
            refine sxl_y (wn_none rfl) rfl rfl (y_neq_f rfl rfl rfl (by omega)) ?_
            refine sxl_y (wn_none rfl) rfl rfl (yp rfl) ?_
            refine sxl_y (wn_on rfl rfl rfl) rfl rfl (yp rfl) ?_
            refine sxl_call (some 164) (by first | exact wn_none rfl | exact wn_on rfl rfl rfl) rfl rfl (yc_call rfl rfl Try.call11) (flush_ok w10 L7 _ T10.d.dk tw9.ddead (by rw [tw9.ddone, hd9]; omega)) ?_
            rintro _ w11 ⟨L11, rfl, h11⟩
            refine ⟨_, rfl, ?_⟩
            rw [f1]
            rw [← h11.gd]
            have T11 := T10.stepD h11 (by rw [f3, tw9.dkeep])
            refine sxl_y (wn_on rfl rfl rfl) rfl rfl (y_neq_f rfl rfl rfl (by omega)) ?_
            refine sxl_y (wn_none rfl) rfl rfl (yp rfl) ?_
            refine sxl_y (wn_none rfl) rfl rfl (yp rfl) ?_
            refine sxl_y (wn_on rfl rfl rfl) rfl rfl (yp rfl) ?_
            refine sxl_call (some 169) (by first | exact wn_none rfl | exact wn_on rfl rfl rfl) rfl rfl (yc_call rfl rfl Try.call13) (dead_any w11 L11.gd true (by rw [← f2]; exact T11.d.dk.c4)) ?_
            rintro _ _ ⟨rfl, rfl⟩
            refine ⟨_, rfl, ?_⟩
            refine sxl_y (wn_on rfl rfl rfl) rfl rfl (yp rfl) ?_
            refine sxl_y (wn_none rfl) rfl rfl (yp rfl) ?_
            refine sxl_nil ?_
            refine qx_seq ?_
            refine sx_false rfl ?_
            refine sx_skip ?_
            refine qx_seq ?_
            refine sx_exit ?_
            refine qx_then_exit ?_
            refine qx_block_miss rfl ?_
            refine qx_then_exit ?_
            refine qx_then_exit ?_
            exact fin (_, _, _, _) _ _ ⟨T11, sm⟩ ⟨rfl, rfl, trivial⟩
          · obtain ⟨f1, f2, tw11, hd11, hw11⟩ := tw9.flush_lt (by have := tw9.le; omega)
            refine qx_seq ?_
            refine sx_seq ?_
            refine sx_seq ?_
            refine sx_region ?_
            refine sxl_y (wn_none rfl) rfl rfl (yp rfl) ?_
            refine sxl_y (wn_none rfl) rfl rfl (yp rfl) ?_
            refine sxl_y (wn_none rfl) rfl rfl (y_eql_f rfl rfl rfl (by omega)) ?_
            refine sxl_y (wn_none rfl) rfl rfl (yp rfl) ?_
            refine sxl_off rfl rfl rfl rfl rfl rfl ?_
            refine sxl_off rfl rfl rfl rfl rfl rfl ?_
            refine sxl_y (wn_none rfl) rfl rfl (yp rfl) ?_
            refine sxl_nil ?_
            refine qx_seq ?_
            refine sx_false rfl ?_
            refine sx_skip ?_
            refine qx_seq ?_
            refine sx_seq ?_
            refine sx_region ?_
            refine sxl_y (wn_none rfl) rfl rfl (yp rfl) ?_
            refine sxl_y (wn_none rfl) rfl rfl (y_add rfl rfl rfl (by omega)) ?_
            refine sxl_y (wn_none rfl) rfl rfl (yp rfl) ?_
            refine sxl_nil ?_
            refine qx_seq ?_
            refine sx_seq ?_
            refine sx_seq ?_
            refine sx_region ?_
            refine sxl_y (wn_none rfl) rfl rfl (yp rfl) ?_
            refine sxl_y (wn_none rfl) rfl rfl (y_neq_f rfl rfl rfl (by omega)) ?_
            refine sxl_y (wn_none rfl) rfl rfl (yp rfl) ?_
            refine sxl_y (wn_on rfl rfl rfl) rfl rfl (yp rfl) ?_
            refine sxl_y (wn_on rfl rfl rfl) rfl rfl (y_neq_f rfl rfl rfl (by omega)) ?_
            refine sxl_y (wn_none rfl) rfl rfl (yp rfl) ?_
            refine sxl_nil ?_
            refine qx_seq ?_
            refine sx_false rfl ?_
            refine sx_skip ?_
            refine qx_seq ?_
            refine sx_seq ?_
            refine sx_seq ?_
            refine sx_region ?_
            refine sxl_y (wn_none rfl) rfl rfl (yp rfl) ?_
            refine sxl_y (wn_none rfl) rfl rfl (yp rfl) ?_
            refine sxl_y (wn_none rfl) rfl rfl (y_indexN rfl rfl rfl (sl rfl) (by omega)) ?_
            refine sxl_y (wn_none rfl) rfl rfl (yp rfl) ?_
            refine sxl_y (wn_none rfl) rfl rfl (y_load rfl rfl (sc rfl) (by assumption)) ?_
            refine sxl_y (wn_none rfl) rfl rfl (yp rfl) ?_
            refine sxl_nil ?_
            refine qx_seq ?_
            refine sx_false rfl ?_
            refine sx_skip ?_
            refine qx_seq ?_
            refine sx_seq ?_
            refine sx_seq ?_
            refine sx_region ?_
            refine sxl_y (wn_none rfl) rfl rfl (yp rfl) ?_
            refine sxl_y (wn_none rfl) rfl rfl (yp rfl) ?_
            refine sxl_y (wn_none rfl) rfl rfl (y_eql_f rfl rfl rfl (by omega)) ?_
            refine sxl_nil ?_
            refine qx_seq ?_
            refine sx_false rfl ?_
            refine sx_skip ?_
            refine qx_seq ?_
            refine sx_seq ?_
            refine sx_region ?_
            refine sxl_y (wn_none rfl) rfl rfl (yp rfl) ?_
            refine sxl_y (wn_none rfl) rfl rfl (y_add rfl rfl rfl (by omega)) ?_
            refine sxl_y (wn_none rfl) rfl rfl (yp rfl) ?_
            refine sxl_nil ?_
            refine qx_seq ?_
            refine sx_seq ?_
            refine sx_region ?_
            refine sxl_y (wn_none rfl) rfl rfl (yp rfl) ?_
            refine sxl_call (some 175) (by first | exact wn_none rfl | exact wn_on rfl rfl rfl) rfl rfl (yc_call rfl rfl Try.call11) (flush_ok w9 L7 _ T9.d.dk tw9.ddead (by rw [tw9.ddone, hd9]; omega)) ?_
            rintro _ w10 ⟨L10, rfl, h10⟩
            refine ⟨_, rfl, ?_⟩
            rw [f1]
            rw [← h10.gd]
            have T10 := T9.stepD h10 (by rw [tw11.dkeep, tw9.dkeep])
            refine sxl_y (wn_none rfl) rfl rfl (y_neq_f rfl rfl rfl (by omega)) ?_
            refine sxl_y (wn_none rfl) rfl rfl (yp rfl) ?_
            refine sxl_y (wn_on rfl rfl rfl) rfl rfl (yp rfl) ?_
            refine sxl_call (some 179) (by first | exact wn_none rfl | exact wn_on rfl rfl rfl) rfl rfl (yc_call rfl rfl Try.call11) (flush_ok w10 L9 _ T10.x.dk tw9.dead (by rw [hd9]; omega)) ?_
            rintro _ w11 ⟨L11, rfl, h11⟩
            refine ⟨_, rfl, ?_⟩
            rw [f2]
            rw [← h11.gd]
            have T11 := T10.stepX h11 tw11.keep
            have q10 := q9.fr h10.fr (T9.d.dk.notin q9 (by decide))
            have q11 := q10.fr h11.fr (T10.x.dk.notin q10 (by decide))
            refine sxl_y (wn_on rfl rfl rfl) rfl rfl (y_neq_f rfl rfl rfl (by omega)) ?_
            refine sxl_y (wn_none rfl) rfl rfl (yp rfl) ?_
            refine sxl_nil ?_
            refine qx_seq ?_
            refine sx_false rfl ?_
            refine sx_skip ?_
            refine qx_block_normal ?_
            refine qx_seq ?_
            refine sx_region ?_
            refine sxl_y (wn_none rfl) rfl rfl (yp rfl) ?_
            refine sxl_y (wn_none rfl) rfl rfl (y_add rfl rfl rfl (by omega)) ?_
            refine sxl_y (wn_none rfl) rfl rfl (yp rfl) ?_
            refine sxl_nil ?_
            exact qx_again [(14, .int .i64 ((i + 1 : Nat) : Int)), (13, .int .i64 ((dn + 1 + 1 : Nat) : Int)), (0, .slice (some ⟨ab, aoff, none⟩) l.length c), (1, .int .i64 (K : Int)), (5, .pointer (some ⟨g5, 0, none⟩)), (7, .pointer (some ⟨L10.gd, 0, none⟩)), (9, .pointer (some ⟨L11.gd, 0, none⟩))] (60 - (i + 1)) ⟨i + 1, dn + 1 + 1, L10, L11, _, _, rfl, by omega, by omega, T11, tw11, by omega, by omega, q11, rfl⟩ (by omega) ⟨rfl, rfl, rfl, rfl, rfl, rfl, rfl, trivial⟩
    · by_cases hlt' : i < l.length
      · refine sx_seq ?_
        refine sx_seq ?_
        refine sx_region ?_
        refine sxl_y (wn_none rfl) rfl rfl (yp rfl) ?_
        refine sxl_y (wn_none rfl) rfl rfl (yp rfl) ?_
        refine sxl_y (wn_none rfl) rfl rfl (y_len rfl rfl (sl rfl)) ?_
        refine sxl_y (wn_none rfl) rfl rfl (y_lss_t rfl rfl rfl (by omega)) ?_
        refine sxl_y (wn_none rfl) rfl rfl (yp rfl) ?_
        refine sxl_y (wn_on rfl rfl rfl) rfl rfl (yp rfl) ?_
        refine sxl_y (wn_on rfl rfl rfl) rfl rfl (y_lss_f rfl rfl rfl (by omega)) ?_
        refine sxl_y (wn_none rfl) rfl rfl (yp rfl) ?_
        refine sxl_nil ?_
        refine qx_seq ?_
        refine sx_false rfl ?_
        refine sx_exit ?_
        refine qx_then_exit ?_
        refine qx_then_exit ?_
        exact fin (_, _, _, _) _ _ ⟨T, tw.same⟩ ⟨rfl, rfl, trivial⟩
      · refine sx_seq ?_
        refine sx_seq ?_
        refine sx_region ?_
        refine sxl_y (wn_none rfl) rfl rfl (yp rfl) ?_
        refine sxl_y (wn_none rfl) rfl rfl (yp rfl) ?_
        refine sxl_y (wn_none rfl) rfl rfl (y_len rfl rfl (sl rfl)) ?_
        refine sxl_y (wn_none rfl) rfl rfl (y_lss_f rfl rfl rfl (by omega)) ?_
        refine sxl_y (wn_none rfl) rfl rfl (yp rfl) ?_
        refine sxl_off rfl rfl rfl rfl rfl rfl ?_
        refine sxl_off rfl rfl rfl rfl rfl rfl ?_
        refine sxl_y (wn_none rfl) rfl rfl (yp rfl) ?_
        refine sxl_nil ?_
        refine qx_seq ?_
        refine sx_false rfl ?_
        refine sx_exit ?_
        refine qx_then_exit ?_
        refine qx_then_exit ?_
        exact fin (_, _, _, _) _ _ ⟨T, tw.same⟩ ⟨rfl, rfl, trivial⟩
  clear T q tw
  rintro ⟨Ld, Lx, sd, sx⟩ w5 ⟨T, sm⟩
  have hdd := T.d.dk.c4
  have hdx := T.x.dk.c4
  obtain ⟨Aw, cw, ew, -, -, -, -⟩ := ownN_form T.d.dk.hw
  obtain ⟨Ax, cx, ex, -, -, -, -⟩ := ownN_form T.x.dk.hw
  have sm : Same sd sx := sm
  refine qx_block_hit ?_
  refine qx_seq ?_
  refine sx_seq ?_
  refine sx_seq ?_
  refine sx_region ?_
  refine sxl_y (wn_none rfl) rfl rfl (yp rfl) ?_
  refine sxl_call (some 183) (by first | exact wn_none rfl | exact wn_on rfl rfl rfl) rfl rfl (yc_call rfl rfl Try.call13) (dead_any w5 Ld.gd sd.dead hdd) ?_
  rintro _ _ ⟨rfl, rfl⟩
  refine ⟨_, rfl, ?_⟩
  refine sxl_y (wn_none rfl) rfl rfl (yp rfl) ?_
  refine sxl_call (some 185) (by first | exact wn_none rfl | exact wn_on rfl rfl rfl) rfl rfl (yc_call rfl rfl Try.call13) (dead_any w5 Lx.gd sx.dead hdx) ?_
  rintro _ _ ⟨rfl, rfl⟩
  refine ⟨_, rfl, ?_⟩
  refine sxl_y (wn_none rfl) rfl rfl (y_neqBool rfl rfl rfl Try.underlying4) ?_
  rw [sm.dead, beq_self_eq_true]
  refine sxl_y (wn_none rfl) rfl rfl (yp rfl) ?_
  refine sxl_y (wn_on rfl rfl rfl) rfl rfl (yp rfl) ?_
  refine sxl_call (some 189) (by first | exact wn_none rfl | exact wn_on rfl rfl rfl) rfl rfl (yc_call rfl rfl Try.call15) (waits_any w5 Ld.gd Aw sd.waits.length cw (by rw [T.d.dk.c2, ew])) ?_
  rintro _ _ ⟨rfl, rfl⟩
  refine ⟨_, rfl, ?_⟩
  refine sxl_y (wn_on rfl rfl rfl) rfl rfl (yp rfl) ?_
  refine sxl_call (some 191) (by first | exact wn_none rfl | exact wn_on rfl rfl rfl) rfl rfl (yc_call rfl rfl Try.call15) (waits_any w5 Lx.gd Ax sx.waits.length cx (by rw [T.x.dk.c2, ex])) ?_
  rintro _ _ ⟨rfl, rfl⟩
  refine ⟨_, rfl, ?_⟩
  have hwe := sm.waits
  refine sxl_y (wn_on rfl rfl rfl) rfl rfl (y_neq_f rfl rfl rfl (by omega)) ?_
  refine sxl_y (wn_none rfl) rfl rfl (yp rfl) ?_
  refine sxl_nil ?_
  refine qx_seq ?_
  refine sx_false rfl ?_
  refine sx_skip ?_
  refine qx_seq ?_
  refine sx_seq ?_
  refine sx_seq ?_
  refine sx_region ?_
  refine sxl_y (wn_none rfl) rfl rfl (yp rfl) ?_
  refine sxl_call (some 195) (by first | exact wn_none rfl | exact wn_on rfl rfl rfl) rfl rfl (yc_call rfl rfl Try.call13) (dead_any w5 Ld.gd sx.dead (by rw [← sm.dead]; exact hdd)) ?_
  rintro _ _ ⟨rfl, rfl⟩
  refine ⟨_, rfl, ?_⟩
  refine sxl_nil ?_
  refine qx_seq ?_
  refine sx_then_via (ι := DL × DL × DS × DS) (fun x w' => Fr0 w w' ∧ DkAt w' x.1 x.2.2.1 ∧ DkAt w' x.2.1 x.2.2.2 ∧ x.2.2.1.dead = false ∧ x.2.2.2.dead = false ∧ x.2.2.1.shows = x.2.2.2.shows ∧ x.2.2.2.lasts.length = 7) (fun x => [(7, .pointer (some ⟨x.1.gd, 0, none⟩)), (9, .pointer (some ⟨x.2.1.gd, 0, none⟩))]) ?_ ?_
  rotate_left
  · intro fin
    cases hx : sx.dead with
    | false =>
      refine sx_false rfl ?_
      refine sx_skip ?_
      exact fin (_, _, _, _) _ _ ⟨T.d.fr, T.d.dk, T.x.dk, sm.dead.trans hx, hx, sm.sh (sm.dead.trans hx), sm.len⟩ ⟨rfl, rfl, trivial⟩
    | true =>
      refine sx_true rfl ?_
      refine sx_seq ?_
      refine sx_region ?_
      refine sxl_y (wn_none rfl) rfl rfl (yp rfl) ?_
      refine sxl_call (some 198) (by first | exact wn_none rfl | exact wn_on rfl rfl rfl) rfl rfl (yc_call rfl rfl Try.call14) (reopen_ok w5 Ld sd T.d.dk (sm.dead.trans hx)) ?_
      rintro _ w6 ⟨L6, rfl, h6, -, hf6⟩
      refine ⟨_, rfl, ?_⟩
      refine sxl_y (wn_none rfl) rfl rfl (yp rfl) ?_
      refine sxl_y (wn_none rfl) rfl rfl (yp rfl) ?_
      refine sxl_y (wn_none rfl) rfl rfl (yp rfl) ?_
      refine sxl_y (wn_none rfl) rfl rfl (yp rfl) ?_
      refine sxl_y (wn_none rfl) rfl rfl (yp rfl) ?_
      refine sxl_nil ?_
      refine qx_seq ?_
      refine sx_seq ?_
      refine sx_region ?_
      refine sxl_y (wn_none rfl) rfl rfl (yp rfl) ?_
      refine sxl_call (some 203) (by first | exact wn_none rfl | exact wn_on rfl rfl rfl) rfl rfl (yc_call rfl rfl Try.call14) (reopen_ok w6 Lx sx (T.x.dk.fr0 hf6) hx) ?_
      rintro _ w7 ⟨L7, rfl, h7, -, hf7⟩
      refine ⟨_, rfl, ?_⟩
      refine sxl_y (wn_none rfl) rfl rfl (yp rfl) ?_
      refine sxl_y (wn_none rfl) rfl rfl (yp rfl) ?_
      refine sxl_y (wn_none rfl) rfl rfl (yp rfl) ?_
      refine sxl_y (wn_none rfl) rfl rfl (yp rfl) ?_
      refine sxl_y (wn_none rfl) rfl rfl (yp rfl) ?_
      refine sxl_nil ?_
      refine qx_seq ?_
      refine sx_seq ?_
      refine sx_region ?_
      refine sxl_y (wn_none rfl) rfl rfl (yp rfl) ?_
      refine sxl_y (wn_none rfl) rfl rfl (y_neq_f rfl rfl rfl (by omega)) ?_
      refine sxl_y (wn_none rfl) rfl rfl (yp rfl) ?_
      refine sxl_y (wn_on rfl rfl rfl) rfl rfl (yp rfl) ?_
      refine sxl_y (wn_on rfl rfl rfl) rfl rfl (y_neq_f rfl rfl rfl (by omega)) ?_
      refine sxl_y (wn_none rfl) rfl rfl (yp rfl) ?_
      refine sxl_nil ?_
      refine qx_seq ?_
      refine sx_false rfl ?_
      refine sx_skip ?_
      exact fin (_, _, _, _) _ _ ⟨(T.d.fr.then0 hf6).then0 hf7, h6.fr0 hf7, h7, rfl, rfl, sm.ld (sm.dead.trans hx), sm.len⟩ ⟨rfl, rfl, trivial⟩
  clear hdd hdx ew ex sm hwe T
  rintro ⟨Ld, Lx, sd, sx⟩ w6 ⟨hF, hd, hx, h1, h2, h3, h4⟩
  refine sx_seq ?_
  refine sx_seq ?_
  refine sx_region ?_
  refine sxl_y (wn_none rfl) rfl rfl (yp rfl) ?_
  refine sxl_nil ?_
  refine qx_seq ?_
  refine sx_block ?_
  refine sx_loop (fun e wr m => ∃ (j : Nat), e = [(18, .int .i64 (j : Int)), (7, .pointer (some ⟨Ld.gd, 0, none⟩)), (9, .pointer (some ⟨Lx.gd, 0, none⟩))] ∧ j ≤ 7 ∧ Fr0 w6 wr ∧ m = 7 - j) ⟨0, rfl, Nat.zero_le _, Fr.refl, rfl⟩ ⟨rfl, rfl, rfl, trivial⟩ ?_
  rintro _ wr _ ⟨j, rfl, hj, hfr, rfl⟩
  by_cases hj7 : j < 7
  · obtain ⟨b, hb⟩ : ∃ b, sx.shows[j]? = some b := ⟨_, List.getElem?_eq_getElem (by rw [hx.wf.sl, h4]; exact hj7)⟩
    refine sx_seq ?_
    refine sx_seq ?_
    refine sx_region ?_
    refine sxl_y (wn_none rfl) rfl rfl (yp rfl) ?_
    refine sxl_y (wn_none rfl) rfl rfl (y_lss_t rfl rfl rfl (by omega)) ?_
    refine sxl_nil ?_
    refine qx_seq ?_
    refine sx_true rfl ?_
    refine sx_skip ?_
    refine qx_seq ?_
    refine sx_seq ?_
    refine sx_block ?_
    refine sx_seq ?_
    refine sx_region ?_
    refine sxl_y (wn_none rfl) rfl rfl (yp rfl) ?_
    refine sxl_y (wn_none rfl) rfl rfl (yp rfl) ?_
    refine sxl_call (some 219) (by first | exact wn_none rfl | exact wn_on rfl rfl rfl) rfl rfl (yc_call rfl rfl Try.call17) (read_ok j wr Ld sd b (hd.fr0 hfr) h1 (by rw [h3]; exact hb)) ?_
    rintro _ w7 ⟨⟨v7, rfl, ho7⟩, hf7⟩
    refine ⟨_, rfl, ?_⟩
    refine sxl_y (wn_none rfl) rfl rfl (yp rfl) ?_
    refine sxl_y (wn_none rfl) rfl rfl (yp rfl) ?_
    refine sxl_y (wn_none rfl) rfl rfl (yp rfl) ?_
    refine sxl_y (wn_none rfl) rfl rfl (yp rfl) ?_
    refine sxl_y (wn_none rfl) rfl rfl (yp rfl) ?_
    refine sxl_nil ?_
    refine qx_seq ?_
    refine sx_seq ?_
    refine sx_region ?_
    refine sxl_y (wn_none rfl) rfl rfl (yp rfl) ?_
    refine sxl_y (wn_none rfl) rfl rfl (yp rfl) ?_
    refine sxl_call (some 225) (by first | exact wn_none rfl | exact wn_on rfl rfl rfl) rfl rfl (yc_call rfl rfl Try.call17) (read_ok j w7 Lx sx b ((hx.fr0 hfr).fr0 hf7) h2 hb) ?_
    rintro _ w8 ⟨⟨v8, rfl, ho8⟩, hf8⟩
    refine ⟨_, rfl, ?_⟩
    obtain ⟨A7, c7, rfl, -, hr7, -, -⟩ := ownN_form ho7
    obtain ⟨A8, c8, rfl, -, hr8, -, -⟩ := ownN_form ho8
    refine sxl_y (wn_none rfl) rfl rfl (yp rfl) ?_
    refine sxl_y (wn_none rfl) rfl rfl (yp rfl) ?_
    refine sxl_y (wn_none rfl) rfl rfl (yp rfl) ?_
    refine sxl_y (wn_none rfl) rfl rfl (yp rfl) ?_
    refine sxl_y (wn_none rfl) rfl rfl (yp rfl) ?_
    refine sxl_nil ?_
    refine qx_seq ?_
    refine sx_seq ?_
    refine sx_region ?_
    refine sxl_y (wn_none rfl) rfl rfl (yp rfl) ?_
    refine sxl_y (wn_none rfl) rfl rfl (y_neq_f rfl rfl rfl (by omega)) ?_
    refine sxl_y (wn_none rfl) rfl rfl (yp rfl) ?_
    refine sxl_y (wn_on rfl rfl rfl) rfl rfl (yp rfl) ?_
    refine sxl_y (wn_on rfl rfl rfl) rfl rfl (y_neq_f rfl rfl rfl (by omega)) ?_
    refine sxl_y (wn_none rfl) rfl rfl (yp rfl) ?_
    refine sxl_y (wn_none rfl) rfl rfl (yp rfl) ?_
    refine sxl_y (wn_on rfl rfl rfl) rfl rfl (yp rfl) ?_
    refine sxl_y (wn_on rfl rfl rfl) rfl rfl (yp rfl) ?_
    refine sxl_call (some 237) (by first | exact wn_none rfl | exact wn_on rfl rfl rfl) rfl rfl (yc_call rfl rfl Try.call19) (bytes_ok A7 A8 128 128 c7 c8 b b w8 (hr7.fr0 hf8) hr8 (by omega) (by omega)) ?_
    rintro _ w9 ⟨rfl, hf9⟩
    refine ⟨_, rfl, ?_⟩
    rw [decide_eq_true rfl]
    refine sxl_y (wn_on rfl rfl rfl) rfl rfl (yp rfl) ?_
    refine sxl_y (wn_none rfl) rfl rfl (yp rfl) ?_
    refine sxl_nil ?_
    refine qx_seq ?_
    refine sx_false rfl ?_
    refine sx_skip ?_
    refine qx_block_normal ?_
    refine qx_seq ?_
    refine sx_region ?_
    refine sxl_y (wn_none rfl) rfl rfl (yp rfl) ?_
    refine sxl_y (wn_none rfl) rfl rfl (y_add rfl rfl rfl (by omega)) ?_
    refine sxl_y (wn_none rfl) rfl rfl (yp rfl) ?_
    refine sxl_nil ?_
    exact qx_again [(18, .int .i64 ((j + 1 : Nat) : Int)), (7, .pointer (some ⟨Ld.gd, 0, none⟩)), (9, .pointer (some ⟨Lx.gd, 0, none⟩))] (7 - (j + 1)) ⟨j + 1, rfl, hj7, ((hfr.then0 hf7).then0 hf8).then0 hf9, rfl⟩ (by omega) ⟨rfl, rfl, rfl, trivial⟩
  · refine sx_seq ?_
    refine sx_seq ?_
    refine sx_region ?_
    refine sxl_y (wn_none rfl) rfl rfl (yp rfl) ?_
    refine sxl_y (wn_none rfl) rfl rfl (y_lss_f rfl rfl rfl (by omega)) ?_
    refine sxl_nil ?_
    refine qx_seq ?_
    refine sx_false rfl ?_
    refine sx_exit ?_
    refine qx_then_exit ?_
    refine qx_then_exit ?_
    refine qx_block_hit ?_
    refine qx_seq ?_
    refine sx_seq ?_
    refine sx_region ?_
    refine sxl_y (wn_none rfl) rfl rfl (yp rfl) ?_
    refine sxl_nil ?_
    refine qx_seq ?_
    refine sx_ret ?_
    refine qx_ret1 rfl rfl ?_
    exact ⟨rfl, hF.then0 hfr⟩
end Go.Proofs.Ytbfeailalhddgaa
