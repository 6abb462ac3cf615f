/- The document's pager is opened. No condition. -/
import Derived.Test.YthdlljlcffokbaaDoorZRf4
namespace Go.Proofs.YthdlljlcffokbaaDoor
open Go.RowKit

theorem does_stF {w : World} {o : Oper} {ρ : Operand → Value} {a b : Operand} {R : RP} {x : RX} {k : Nat} {v : Int} (ho : o.op = .store 3 a b) (ha : ρ a = .pointer (some ⟨R.gs, 0 + k * 1, none⟩)) (hb : ρ b = .int .i64 v) (h : RfAt w R x) (hk : k < x.st.length) :
    Does Tryd.prog ρ o w fun u w' => u = undef ∧ RfTo w w' R { x with st := x.st.set k v } ∧ Fr (fun b => b = R.gs) w w' := by
  refine (does_store1 3 a b ho R.gs (0 + k * 1) 3 _ (.int .i64 v) ha hb rfl h.hs (by kernel_rfl) (by rw [iv_len]; omega) rfl).mono fun u w' ⟨h1, h2, h3⟩ => ⟨h1, ?_, h3⟩
  rw [Nat.zero_add, Nat.mul_one] at h2
  exact .setSt h h3 h2
set_option maxHeartbeats 16000000 in
theorem ropen_ok {w : World} {gd gw n : Nat} {f : Pgs} {s0 s1 r0 r1 : Int} (h : RdAt w gd gw n f s0 s1 r0 r1) (hn : 3 ≤ n) (hn2 : n ≤ 100000) (hs0 : 0 ≤ s0) (hs1 : 0 ≤ s1) :
    Calls Tryd.prog 51 #[.pointer (some ⟨gd, 0, none⟩)] w fun e w' => ∃ gp gs st, e = .returned (.tuple #[.pointer (some ⟨gp, 0, none⟩), .int .i64 (if s0 < s1 then r1 else r0), .int .i64 0]) ∧ st.length = n ∧ (∀ k : Nat, 2 ≤ k → k < n → lst st (k : Int) = 1) ∧ RfAt w' ⟨gp, gd, gs, gw⟩ ⟨f, s0, s1, r0, r1, if s0 < s1 then s1 else s0, if s0 < s1 then r1 else r0, st⟩ ∧ w.heap.size ≤ gp ∧ w.heap.size ≤ gs ∧ Fr0 w w' := by
  have HS0 : ∀ w', Fr0 w w' → Cell w'.heap gd 0 (.int .i64 (n : Int)) ∧ Cell w'.heap gd 2 (.int .i64 s0) ∧ Cell w'.heap gd 3 (.int .i64 s1) ∧ Cell w'.heap gd 4 (.int .i64 r0) ∧ Cell w'.heap gd 5 (.int .i64 r1) ∧ True := fun w' hf => ⟨(h.hd.c 0 rfl).fr hf (fun hh => hh), (h.hd.c 2 rfl).fr hf (fun hh => hh), (h.hd.c 3 rfl).fr hf (fun hh => hh), (h.hd.c 4 rfl).fr hf (fun hh => hh), (h.hd.c 5 rfl).fr hf (fun hh => hh), trivial⟩
  obtain ⟨d0, d2, d3, d4, d5, _⟩ := HS0 w Fr.refl
  obtain ⟨e0, e2, e3, e4, e5, _⟩ := HS0 w.drew Fr.refl.drew
  have fin : ∀ (sq rt : Int) (w1 : World) (gs gp : Nat), Fr0 w w1 → w.heap.size ≤ gs → w.heap.size ≤ gp → Blk w1 gs 3 (List.replicate n (.int .i64 0)) → Blk w1 gp 97 [.pointer (some ⟨gd, 0, none⟩), .slice (some ⟨gs, 0, none⟩) n n, .int .i64 sq, .int .i64 rt] → RfAt w1 ⟨gp, gd, gs, gw⟩ ⟨f, s0, s1, r0, r1, sq, rt, List.replicate n 0⟩ := fun sq rt w1 gs gp hf _ _ hb hp => by
    refine ⟨?_, ?_, ?_, h.hw.fr hf (fun hh => hh)⟩
    · show Blk w1 gp _ [_, .slice _ (List.replicate n (0 : Int)).length (List.replicate n (0 : Int)).length, _, _]
      rw [List.length_replicate]; exact hp
    · show Blk w1 gd _ [.int .i64 ((List.replicate n (0 : Int)).length : Int), _, _, _, _, _]
      rw [List.length_replicate]; exact h.hd.fr0 hf
    · show Blk w1 gs _ (iv (List.replicate n 0))
      unfold iv; rw [List.map_replicate]; exact hb
  by_cases hlt : s0 < s1
  · rw [if_pos hlt, if_pos hlt]
    refine sx_enter (vs := [_]) Tryd.func51 rfl Tryd.ntmps51 rfl ?_
    refine sx_seq ?_
    refine sx_region ?_
    iterate 3 refine sxl_y (wn_none rfl) rfl rfl (yp rfl) ?_
    refine sxl_nil ?_
    refine qx_seq ?_
    refine sx_seq ?_
    refine sx_seq ?_
    refine sx_region ?_
    iterate 3 refine sxl_y (wn_none rfl) rfl rfl (yp rfl) ?_
    refine sxl_y (wn_none rfl) rfl rfl (y_load rfl rfl (sc rfl) (by assumption)) ?_
    refine sxl_y (wn_none rfl) rfl rfl (y_lss_f rfl rfl rfl (by omega)) ?_
    refine sxl_nil ?_
    refine qx_seq ?_
    refine sx_false rfl ?_
    refine sx_skip ?_
    refine qx_seq ?_
    refine sx_seq ?_
    refine sx_region ?_
    refine sxl_y (wn_none rfl) rfl rfl (yp rfl) ?_
    refine sxl_nil ?_
    refine qx_seq ?_
    refine sx_seq ?_
    refine sx_seq ?_
    refine sx_still hmix (by kernel_rfl) ?_
    iterate 3 refine sxs_y (wn_none rfl) rfl rfl (yp rfl) ?_
    refine sxs_y (wn_none rfl) rfl rfl (y_indexA rfl rfl rfl (ar rfl) (by omega)) ?_
    refine sxs_y (wn_none rfl) rfl rfl (y_load rfl rfl (sc rfl) (by assumption)) ?_
    iterate 3 refine sxs_y (wn_none rfl) rfl rfl (yp rfl) ?_
    refine sxs_y (wn_none rfl) rfl rfl (y_indexA rfl rfl rfl (ar rfl) (by omega)) ?_
    refine sxs_y (wn_none rfl) rfl rfl (y_load rfl rfl (sc rfl) (by assumption)) ?_
    refine sxs_y (wn_none rfl) rfl rfl (y_gtr_t rfl rfl rfl (by omega)) ?_
    refine sxs_end ?_
    refine qx_seq ?_
    refine sx_true rfl ?_
    refine sx_region ?_
    refine sxl_y (wn_none rfl) rfl rfl (yp rfl) ?_
    refine sxl_nil ?_
    refine qx_seq ?_
    refine sx_seq ?_
    refine sx_seq ?_
    refine sx_region ?_
    iterate 4 refine sxl_y (wn_none rfl) rfl rfl (yp rfl) ?_
    refine sxl_y (wn_none rfl) rfl rfl (y_indexA rfl rfl rfl (ar rfl) (by omega)) ?_
    refine sxl_y (wn_none rfl) rfl rfl (y_load rfl rfl (sc rfl) (by assumption)) ?_
    refine sxl_y (wn_none rfl) rfl rfl (y_lss_f rfl rfl rfl (by omega)) ?_
    refine sxl_nil ?_
    refine qx_seq ?_
    refine sx_false rfl ?_
    refine sx_skip ?_
    refine qx_seq ?_
    refine sx_seq ?_
    refine sx_any 21 (fun w' => Cell w'.heap gd 0 (.int .i64 (n : Int)) ∧ Cell w'.heap gd 2 (.int .i64 s0) ∧ Cell w'.heap gd 3 (.int .i64 s1) ∧ Cell w'.heap gd 4 (.int .i64 r0) ∧ Cell w'.heap gd 5 (.int .i64 r1) ∧ True) hmix ?_
    have HS := HS0 w.drew.drew Fr.refl.drew.drew
    refine sxo_y 0 21 (by kernel_rfl) (fun c a t v w h => by cases t <;> exact h) (by kernel_rfl) rfl (by kernel_rfl) (by kernel_rfl) rfl (wn_none rfl) rfl rfl HS (fun w' hS' => yp rfl) ?_
    refine sxo_y 1 21 (by kernel_rfl) (fun c a t v w h => by cases t <;> exact h) (by kernel_rfl) rfl (by kernel_rfl) (by kernel_rfl) rfl (wn_none rfl) rfl rfl HS (fun w' hS' => yp rfl) ?_
    refine sxo_y 2 21 (by kernel_rfl) (fun c a t v w h => by cases t <;> exact h) (by kernel_rfl) rfl (by kernel_rfl) (by kernel_rfl) rfl (wn_none rfl) rfl rfl HS (fun w' hS' => yp rfl) ?_
    refine sxo_y 3 21 (by kernel_rfl) (fun c a t v w h => by cases t <;> exact h) (by kernel_rfl) rfl (by kernel_rfl) (by kernel_rfl) rfl (wn_none rfl) rfl rfl HS (fun w' hS' => yp rfl) ?_
    refine sxo_y 4 21 (by kernel_rfl) (fun c a t v w h => by cases t <;> exact h) (by kernel_rfl) rfl (by kernel_rfl) (by kernel_rfl) rfl (wn_none rfl) rfl rfl HS (fun w' hS' => y_load rfl rfl (sc rfl) (by obtain ⟨q1, q2, q3, q4, q5, q6⟩ := hS'; assumption)) ?_
    refine sxo_y 6 21 (by kernel_rfl) (fun c a t v w h => by cases t <;> exact h) (by kernel_rfl) rfl (by kernel_rfl) (by kernel_rfl) rfl (wn_none rfl) rfl rfl HS (fun w' hS' => yp rfl) ?_
    refine sxo_y 7 21 (by kernel_rfl) (fun c a t v w h => by cases t <;> exact h) (by kernel_rfl) rfl (by kernel_rfl) (by kernel_rfl) rfl (wn_none rfl) rfl rfl HS (fun w' hS' => yp rfl) ?_
    refine sxo_y 8 21 (by kernel_rfl) (fun c a t v w h => by cases t <;> exact h) (by kernel_rfl) rfl (by kernel_rfl) (by kernel_rfl) rfl (wn_none rfl) rfl rfl HS (fun w' hS' => yp rfl) ?_
    refine sxo_y 9 21 (by kernel_rfl) (fun c a t v w h => by cases t <;> exact h) (by kernel_rfl) rfl (by kernel_rfl) (by kernel_rfl) rfl (wn_none rfl) rfl rfl HS (fun w' hS' => yp rfl) ?_
    refine sxo_y 10 21 (by kernel_rfl) (fun c a t v w h => by cases t <;> exact h) (by kernel_rfl) rfl (by kernel_rfl) (by kernel_rfl) rfl (wn_none rfl) rfl rfl HS (fun w' hS' => y_indexA rfl rfl rfl (ar rfl) (by omega)) ?_
    refine sxo_y 11 21 (by kernel_rfl) (fun c a t v w h => by cases t <;> exact h) (by kernel_rfl) rfl (by kernel_rfl) (by kernel_rfl) rfl (wn_none rfl) rfl rfl HS (fun w' hS' => y_load rfl rfl (sc rfl) (by obtain ⟨q1, q2, q3, q4, q5, q6⟩ := hS'; assumption)) ?_
    refine sxo_y 12 21 (by kernel_rfl) (fun c a t v w h => by cases t <;> exact h) (by kernel_rfl) rfl (by kernel_rfl) (by kernel_rfl) rfl (wn_none rfl) rfl rfl HS (fun w' hS' => yp rfl) ?_
    refine sxo_y 13 21 (by kernel_rfl) (fun c a t v w h => by cases t <;> exact h) (by kernel_rfl) rfl (by kernel_rfl) (by kernel_rfl) rfl (wn_none rfl) rfl rfl HS (fun w' hS' => yp rfl) ?_
    refine sxo_y 14 21 (by kernel_rfl) (fun c a t v w h => by cases t <;> exact h) (by kernel_rfl) rfl (by kernel_rfl) (by kernel_rfl) rfl (wn_none rfl) rfl rfl HS (fun w' hS' => yp rfl) ?_
    refine sxo_y 15 21 (by kernel_rfl) (fun c a t v w h => by cases t <;> exact h) (by kernel_rfl) rfl (by kernel_rfl) (by kernel_rfl) rfl (wn_none rfl) rfl rfl HS (fun w' hS' => yp rfl) ?_
    refine sxo_y 16 21 (by kernel_rfl) (fun c a t v w h => by cases t <;> exact h) (by kernel_rfl) rfl (by kernel_rfl) (by kernel_rfl) rfl (wn_none rfl) rfl rfl HS (fun w' hS' => y_indexA rfl rfl rfl (ar rfl) (by omega)) ?_
    refine sxo_y 17 21 (by kernel_rfl) (fun c a t v w h => by cases t <;> exact h) (by kernel_rfl) rfl (by kernel_rfl) (by kernel_rfl) rfl (wn_none rfl) rfl rfl HS (fun w' hS' => y_load rfl rfl (sc rfl) (by obtain ⟨q1, q2, q3, q4, q5, q6⟩ := hS'; assumption)) ?_
    refine sxo_does 5 (some 36) (by kernel_rfl) rfl (wn_none rfl) rfl rfl (fun ρ hρ => does_make1 55 (.tmp 35) (.tmp 35) rfl 3 (.int .i64 0) 8 n Tryd.underlying55 info_int1 rfl (hρ _ _ rfl) (hρ _ _ rfl) (by omega) (by omega)) ?_
    rintro _ w1 ⟨gs, rfl, hg1, hg2, hb1, hf1⟩
    have hf01 : Fr0 w w1 := (Fr.refl.drew.drew : Fr0 w w.drew.drew).trans hf1
    have HS := HS0 w1 hf01
    refine ⟨fun _ => HS, ?_⟩
    refine sxo_y 18 21 (by kernel_rfl) (fun c a t v w h => by cases t <;> exact h) (by kernel_rfl) rfl (by kernel_rfl) (by kernel_rfl) rfl (wn_none rfl) rfl rfl HS (fun w' hS' => y_build rfl rfl (rpager_built4 gd gs n s1 r1)) ?_
    refine sxo_does 19 (some 50) (by kernel_rfl) rfl (wn_none rfl) rfl rfl (fun ρ hρ => does_box 97 (.tmp 49) rfl [.pointer (some ⟨gd, 0, none⟩), .slice (some ⟨gs, 0, none⟩) n n, .int .i64 s1, .int .i64 r1] (by rw [hρ _ _ rfl]; rfl)) ?_
    rintro _ w2 ⟨gp, rfl, hp1, hp2, hb2, hf2⟩
    have hf02 := hf01.trans hf2
    have HS := HS0 w2 hf02
    refine ⟨fun _ => HS, ?_⟩
    refine sxo_y 20 21 (by kernel_rfl) (fun c a t v w h => by cases t <;> exact h) (by kernel_rfl) rfl (by kernel_rfl) (by kernel_rfl) rfl (wn_none rfl) rfl rfl HS (fun w' hS' => yp rfl) ?_
    refine sxo_done (by kernel_rfl) ?_
    have hz : w.heap.size ≤ w1.heap.size := hf01.size
    have hgs : w.heap.size ≤ gs := hg1
    have hgp : w.heap.size ≤ gp := by omega
    have hx := fin s1 r1 w2 gs gp hf02 hgs hgp (hb1.fr0 hf2) hb2
    refine qx_seq ?_
    refine sx_seq ?_
    refine sx_seq ?_
    refine sx_region ?_
    refine sxl_y (wn_none rfl) rfl rfl (yp rfl) ?_
    refine sxl_nil ?_
    refine qx_seq ?_
    refine sx_block ?_
    refine sx_loop (fun e wr m => ∃ (i : Nat) (st' : List Int), e = [(7, .int .i64 (i : Int)), (6, .pointer (some ⟨gp, 0, none⟩)), (0, .pointer (some ⟨gd, 0, none⟩))] ∧ 2 ≤ i ∧ i ≤ n ∧ st'.length = n ∧ (∀ k : Nat, 2 ≤ k → k < i → lst st' (k : Int) = 1) ∧ RfTo w2 wr ⟨gp, gd, gs, gw⟩ ⟨f, s0, s1, r0, r1, s1, r1, st'⟩ ∧ Fr (fun b => b = gs) w2 wr ∧ m = n - i)
      ⟨2, _, rfl, Nat.le_refl _, by omega, List.length_replicate, (fun k h1 h2 => by omega), .refl hx, Fr.refl, rfl⟩ ⟨rfl, rfl, rfl, trivial⟩ ?_
    rintro _ wr _ ⟨i, st', rfl, h2, hi, hln, hone, hto, hfs, rfl⟩
    have c1 : Cell wr.heap gp 1 (.slice (some ⟨gs, 0, none⟩) st'.length st'.length) := hto.at_.c1
    have d0 : Cell wr.heap gd 0 (.int .i64 (st'.length : Int)) := hto.at_.d0
    rw [hln] at c1 d0
    by_cases hil : i < n
    · have hil' : i < st'.length := by omega
      refine sx_seq ?_
      refine sx_seq ?_
      refine sx_region ?_
      iterate 4 refine sxl_y (wn_none rfl) rfl rfl (yp rfl) ?_
      refine sxl_y (wn_none rfl) rfl rfl (y_load rfl rfl (sc rfl) (by assumption)) ?_
      refine sxl_y (wn_none rfl) rfl rfl (y_lss_t rfl rfl rfl (by omega)) ?_
      refine sxl_nil ?_
      refine qx_seq ?_
      refine sx_true rfl ?_
      refine sx_skip ?_
      refine qx_seq ?_
      refine sx_seq ?_
      refine sx_block ?_
      refine sx_region ?_
      iterate 3 refine sxl_y (wn_none rfl) rfl rfl (yp rfl) ?_
      refine sxl_y (wn_none rfl) rfl rfl (y_load rfl rfl (sc rfl) (by assumption)) ?_
      refine sxl_y (wn_none rfl) rfl rfl (yp rfl) ?_
      refine sxl_y (wn_none rfl) rfl rfl (y_indexN rfl rfl rfl (sl rfl) (by omega)) ?_
      refine sxl_does none (wn_none rfl) rfl rfl (fun ρ hρ => does_stF (k := i) (v := 1) rfl (hρ _ _ rfl) (hρ _ _ rfl) hto.at_ hil') ?_
      rintro _ w3 ⟨rfl, h3, hf3⟩
      refine sxl_nil ?_
      refine qx_block_normal ?_
      refine qx_seq ?_
      refine sx_region ?_
      refine sxl_y (wn_none rfl) rfl rfl (yp rfl) ?_
      refine sxl_y (wn_none rfl) rfl rfl (y_add rfl rfl rfl (by omega)) ?_
      refine sxl_y (wn_none rfl) rfl rfl (yp rfl) ?_
      refine sxl_nil ?_
      exact qx_again [(7, .int .i64 ((i + 1 : Nat) : Int)), (6, .pointer (some ⟨gp, 0, none⟩)), (0, .pointer (some ⟨gd, 0, none⟩))] (n - (i + 1)) ⟨i + 1, _, rfl, by omega, hil, by rw [List.length_set]; exact hln, (fun k hk1 hk2 => by
        rw [lst_set hil']
        unfold updS
        by_cases e : (k : Int) = (i : Int)
        · rw [if_pos e]
        · rw [if_neg e]; exact hone k hk1 (by omega)), hto.trans h3, hfs.trans hf3, rfl⟩ (by omega) ⟨rfl, rfl, rfl, trivial⟩
    · obtain rfl : i = n := by omega
      have c3 : Cell wr.heap gp 3 (.int .i64 r1) := hto.at_.c3
      have c3 := c3.fr (Fr.refl.drew : Fr0 wr wr.drew) (fun hh => hh)
      refine sx_seq ?_
      refine sx_seq ?_
      refine sx_region ?_
      iterate 4 refine sxl_y (wn_none rfl) rfl rfl (yp rfl) ?_
      refine sxl_y (wn_none rfl) rfl rfl (y_load rfl rfl (sc rfl) (by assumption)) ?_
      refine sxl_y (wn_none rfl) rfl rfl (y_lss_f rfl rfl rfl (by omega)) ?_
      refine sxl_nil ?_
      refine qx_seq ?_
      refine sx_false rfl ?_
      refine sx_exit ?_
      refine qx_then_exit ?_
      refine qx_then_exit ?_
      refine qx_block_hit ?_
      refine qx_seq ?_
      refine sx_seq ?_
      refine sx_still hmix (by kernel_rfl) ?_
      iterate 4 refine sxs_y (wn_none rfl) rfl rfl (yp rfl) ?_
      refine sxs_y (wn_none rfl) rfl rfl (y_load rfl rfl (sc rfl) (by assumption)) ?_
      iterate 3 refine sxs_y (wn_none rfl) rfl rfl (yp rfl) ?_
      refine sxs_end ?_
      refine qx_seq ?_
      refine sx_ret ?_
      refine qx_ret3 rfl rfl rfl rfl ?_
      have hfl : Fr0 w wr := hf02.step hfs (fun b hb e => by omega)
      exact ⟨gp, gs, st', rfl, hln, hone, hto.at_.fr0 Fr.refl.drew, hgp, hgs, hfl.drew⟩
  · rw [if_neg hlt, if_neg hlt]
    refine sx_enter (vs := [_]) Tryd.func51 rfl Tryd.ntmps51 rfl ?_
    refine sx_seq ?_
    refine sx_region ?_
    iterate 3 refine sxl_y (wn_none rfl) rfl rfl (yp rfl) ?_
    refine sxl_nil ?_
    refine qx_seq ?_
    refine sx_seq ?_
    refine sx_seq ?_
    refine sx_region ?_
    iterate 3 refine sxl_y (wn_none rfl) rfl rfl (yp rfl) ?_
    refine sxl_y (wn_none rfl) rfl rfl (y_load rfl rfl (sc rfl) (by assumption)) ?_
    refine sxl_y (wn_none rfl) rfl rfl (y_lss_f rfl rfl rfl (by omega)) ?_
    refine sxl_nil ?_
    refine qx_seq ?_
    refine sx_false rfl ?_
    refine sx_skip ?_
    refine qx_seq ?_
    refine sx_seq ?_
    refine sx_region ?_
    refine sxl_y (wn_none rfl) rfl rfl (yp rfl) ?_
    refine sxl_nil ?_
    refine qx_seq ?_
    refine sx_seq ?_
    refine sx_seq ?_
    refine sx_still hmix (by kernel_rfl) ?_
    iterate 3 refine sxs_y (wn_none rfl) rfl rfl (yp rfl) ?_
    refine sxs_y (wn_none rfl) rfl rfl (y_indexA rfl rfl rfl (ar rfl) (by omega)) ?_
    refine sxs_y (wn_none rfl) rfl rfl (y_load rfl rfl (sc rfl) (by assumption)) ?_
    iterate 3 refine sxs_y (wn_none rfl) rfl rfl (yp rfl) ?_
    refine sxs_y (wn_none rfl) rfl rfl (y_indexA rfl rfl rfl (ar rfl) (by omega)) ?_
    refine sxs_y (wn_none rfl) rfl rfl (y_load rfl rfl (sc rfl) (by assumption)) ?_
    refine sxs_y (wn_none rfl) rfl rfl (y_gtr_f rfl rfl rfl (by omega)) ?_
    refine sxs_end ?_
    refine qx_seq ?_
    refine sx_false rfl ?_
    refine sx_skip ?_
    refine qx_seq ?_
    refine sx_seq ?_
    refine sx_seq ?_
    refine sx_region ?_
    iterate 4 refine sxl_y (wn_none rfl) rfl rfl (yp rfl) ?_
    refine sxl_y (wn_none rfl) rfl rfl (y_indexA rfl rfl rfl (ar rfl) (by omega)) ?_
    refine sxl_y (wn_none rfl) rfl rfl (y_load rfl rfl (sc rfl) (by assumption)) ?_
    refine sxl_y (wn_none rfl) rfl rfl (y_lss_f rfl rfl rfl (by omega)) ?_
    refine sxl_nil ?_
    refine qx_seq ?_
    refine sx_false rfl ?_
    refine sx_skip ?_
    refine qx_seq ?_
    refine sx_seq ?_
    refine sx_any 21 (fun w' => Cell w'.heap gd 0 (.int .i64 (n : Int)) ∧ Cell w'.heap gd 2 (.int .i64 s0) ∧ Cell w'.heap gd 3 (.int .i64 s1) ∧ Cell w'.heap gd 4 (.int .i64 r0) ∧ Cell w'.heap gd 5 (.int .i64 r1) ∧ True) hmix ?_
    have HS := HS0 w.drew.drew Fr.refl.drew.drew
    refine sxo_y 0 21 (by kernel_rfl) (fun c a t v w h => by cases t <;> exact h) (by kernel_rfl) rfl (by kernel_rfl) (by kernel_rfl) rfl (wn_none rfl) rfl rfl HS (fun w' hS' => yp rfl) ?_
    refine sxo_y 1 21 (by kernel_rfl) (fun c a t v w h => by cases t <;> exact h) (by kernel_rfl) rfl (by kernel_rfl) (by kernel_rfl) rfl (wn_none rfl) rfl rfl HS (fun w' hS' => yp rfl) ?_
    refine sxo_y 2 21 (by kernel_rfl) (fun c a t v w h => by cases t <;> exact h) (by kernel_rfl) rfl (by kernel_rfl) (by kernel_rfl) rfl (wn_none rfl) rfl rfl HS (fun w' hS' => yp rfl) ?_
    refine sxo_y 3 21 (by kernel_rfl) (fun c a t v w h => by cases t <;> exact h) (by kernel_rfl) rfl (by kernel_rfl) (by kernel_rfl) rfl (wn_none rfl) rfl rfl HS (fun w' hS' => yp rfl) ?_
    refine sxo_y 4 21 (by kernel_rfl) (fun c a t v w h => by cases t <;> exact h) (by kernel_rfl) rfl (by kernel_rfl) (by kernel_rfl) rfl (wn_none rfl) rfl rfl HS (fun w' hS' => y_load rfl rfl (sc rfl) (by obtain ⟨q1, q2, q3, q4, q5, q6⟩ := hS'; assumption)) ?_
    refine sxo_y 6 21 (by kernel_rfl) (fun c a t v w h => by cases t <;> exact h) (by kernel_rfl) rfl (by kernel_rfl) (by kernel_rfl) rfl (wn_none rfl) rfl rfl HS (fun w' hS' => yp rfl) ?_
    refine sxo_y 7 21 (by kernel_rfl) (fun c a t v w h => by cases t <;> exact h) (by kernel_rfl) rfl (by kernel_rfl) (by kernel_rfl) rfl (wn_none rfl) rfl rfl HS (fun w' hS' => yp rfl) ?_
    refine sxo_y 8 21 (by kernel_rfl) (fun c a t v w h => by cases t <;> exact h) (by kernel_rfl) rfl (by kernel_rfl) (by kernel_rfl) rfl (wn_none rfl) rfl rfl HS (fun w' hS' => yp rfl) ?_
    refine sxo_y 9 21 (by kernel_rfl) (fun c a t v w h => by cases t <;> exact h) (by kernel_rfl) rfl (by kernel_rfl) (by kernel_rfl) rfl (wn_none rfl) rfl rfl HS (fun w' hS' => yp rfl) ?_
    refine sxo_y 10 21 (by kernel_rfl) (fun c a t v w h => by cases t <;> exact h) (by kernel_rfl) rfl (by kernel_rfl) (by kernel_rfl) rfl (wn_none rfl) rfl rfl HS (fun w' hS' => y_indexA rfl rfl rfl (ar rfl) (by omega)) ?_
    refine sxo_y 11 21 (by kernel_rfl) (fun c a t v w h => by cases t <;> exact h) (by kernel_rfl) rfl (by kernel_rfl) (by kernel_rfl) rfl (wn_none rfl) rfl rfl HS (fun w' hS' => y_load rfl rfl (sc rfl) (by obtain ⟨q1, q2, q3, q4, q5, q6⟩ := hS'; assumption)) ?_
    refine sxo_y 12 21 (by kernel_rfl) (fun c a t v w h => by cases t <;> exact h) (by kernel_rfl) rfl (by kernel_rfl) (by kernel_rfl) rfl (wn_none rfl) rfl rfl HS (fun w' hS' => yp rfl) ?_
    refine sxo_y 13 21 (by kernel_rfl) (fun c a t v w h => by cases t <;> exact h) (by kernel_rfl) rfl (by kernel_rfl) (by kernel_rfl) rfl (wn_none rfl) rfl rfl HS (fun w' hS' => yp rfl) ?_
    refine sxo_y 14 21 (by kernel_rfl) (fun c a t v w h => by cases t <;> exact h) (by kernel_rfl) rfl (by kernel_rfl) (by kernel_rfl) rfl (wn_none rfl) rfl rfl HS (fun w' hS' => yp rfl) ?_
    refine sxo_y 15 21 (by kernel_rfl) (fun c a t v w h => by cases t <;> exact h) (by kernel_rfl) rfl (by kernel_rfl) (by kernel_rfl) rfl (wn_none rfl) rfl rfl HS (fun w' hS' => yp rfl) ?_
    refine sxo_y 16 21 (by kernel_rfl) (fun c a t v w h => by cases t <;> exact h) (by kernel_rfl) rfl (by kernel_rfl) (by kernel_rfl) rfl (wn_none rfl) rfl rfl HS (fun w' hS' => y_indexA rfl rfl rfl (ar rfl) (by omega)) ?_
    refine sxo_y 17 21 (by kernel_rfl) (fun c a t v w h => by cases t <;> exact h) (by kernel_rfl) rfl (by kernel_rfl) (by kernel_rfl) rfl (wn_none rfl) rfl rfl HS (fun w' hS' => y_load rfl rfl (sc rfl) (by obtain ⟨q1, q2, q3, q4, q5, q6⟩ := hS'; assumption)) ?_
    refine sxo_does 5 (some 36) (by kernel_rfl) rfl (wn_none rfl) rfl rfl (fun ρ hρ => does_make1 55 (.tmp 35) (.tmp 35) rfl 3 (.int .i64 0) 8 n Tryd.underlying55 info_int1 rfl (hρ _ _ rfl) (hρ _ _ rfl) (by omega) (by omega)) ?_
    rintro _ w1 ⟨gs, rfl, hg1, hg2, hb1, hf1⟩
    have hf01 : Fr0 w w1 := (Fr.refl.drew.drew : Fr0 w w.drew.drew).trans hf1
    have HS := HS0 w1 hf01
    refine ⟨fun _ => HS, ?_⟩
    refine sxo_y 18 21 (by kernel_rfl) (fun c a t v w h => by cases t <;> exact h) (by kernel_rfl) rfl (by kernel_rfl) (by kernel_rfl) rfl (wn_none rfl) rfl rfl HS (fun w' hS' => y_build rfl rfl (rpager_built4 gd gs n s0 r0)) ?_
    refine sxo_does 19 (some 50) (by kernel_rfl) rfl (wn_none rfl) rfl rfl (fun ρ hρ => does_box 97 (.tmp 49) rfl [.pointer (some ⟨gd, 0, none⟩), .slice (some ⟨gs, 0, none⟩) n n, .int .i64 s0, .int .i64 r0] (by rw [hρ _ _ rfl]; rfl)) ?_
    rintro _ w2 ⟨gp, rfl, hp1, hp2, hb2, hf2⟩
    have hf02 := hf01.trans hf2
    have HS := HS0 w2 hf02
    refine ⟨fun _ => HS, ?_⟩
    refine sxo_y 20 21 (by kernel_rfl) (fun c a t v w h => by cases t <;> exact h) (by kernel_rfl) rfl (by kernel_rfl) (by kernel_rfl) rfl (wn_none rfl) rfl rfl HS (fun w' hS' => yp rfl) ?_
    refine sxo_done (by kernel_rfl) ?_
    have hz : w.heap.size ≤ w1.heap.size := hf01.size
    have hgs : w.heap.size ≤ gs := hg1
    have hgp : w.heap.size ≤ gp := by omega
    have hx := fin s0 r0 w2 gs gp hf02 hgs hgp (hb1.fr0 hf2) hb2
    refine qx_seq ?_
    refine sx_seq ?_
    refine sx_seq ?_
    refine sx_region ?_
    refine sxl_y (wn_none rfl) rfl rfl (yp rfl) ?_
    refine sxl_nil ?_
    refine qx_seq ?_
    refine sx_block ?_
    refine sx_loop (fun e wr m => ∃ (i : Nat) (st' : List Int), e = [(7, .int .i64 (i : Int)), (6, .pointer (some ⟨gp, 0, none⟩)), (0, .pointer (some ⟨gd, 0, none⟩))] ∧ 2 ≤ i ∧ i ≤ n ∧ st'.length = n ∧ (∀ k : Nat, 2 ≤ k → k < i → lst st' (k : Int) = 1) ∧ RfTo w2 wr ⟨gp, gd, gs, gw⟩ ⟨f, s0, s1, r0, r1, s0, r0, st'⟩ ∧ Fr (fun b => b = gs) w2 wr ∧ m = n - i)
      ⟨2, _, rfl, Nat.le_refl _, by omega, List.length_replicate, (fun k h1 h2 => by omega), .refl hx, Fr.refl, rfl⟩ ⟨rfl, rfl, rfl, trivial⟩ ?_
    rintro _ wr _ ⟨i, st', rfl, h2, hi, hln, hone, hto, hfs, rfl⟩
    have c1 : Cell wr.heap gp 1 (.slice (some ⟨gs, 0, none⟩) st'.length st'.length) := hto.at_.c1
    have d0 : Cell wr.heap gd 0 (.int .i64 (st'.length : Int)) := hto.at_.d0
    rw [hln] at c1 d0
    by_cases hil : i < n
    · have hil' : i < st'.length := by omega
      refine sx_seq ?_
      refine sx_seq ?_
      refine sx_region ?_
      iterate 4 refine sxl_y (wn_none rfl) rfl rfl (yp rfl) ?_
      refine sxl_y (wn_none rfl) rfl rfl (y_load rfl rfl (sc rfl) (by assumption)) ?_
      refine sxl_y (wn_none rfl) rfl rfl (y_lss_t rfl rfl rfl (by omega)) ?_
      refine sxl_nil ?_
      refine qx_seq ?_
      refine sx_true rfl ?_
      refine sx_skip ?_
      refine qx_seq ?_
      refine sx_seq ?_
      refine sx_block ?_
      refine sx_region ?_
      iterate 3 refine sxl_y (wn_none rfl) rfl rfl (yp rfl) ?_
      refine sxl_y (wn_none rfl) rfl rfl (y_load rfl rfl (sc rfl) (by assumption)) ?_
      refine sxl_y (wn_none rfl) rfl rfl (yp rfl) ?_
      refine sxl_y (wn_none rfl) rfl rfl (y_indexN rfl rfl rfl (sl rfl) (by omega)) ?_
      refine sxl_does none (wn_none rfl) rfl rfl (fun ρ hρ => does_stF (k := i) (v := 1) rfl (hρ _ _ rfl) (hρ _ _ rfl) hto.at_ hil') ?_
      rintro _ w3 ⟨rfl, h3, hf3⟩
      refine sxl_nil ?_
      refine qx_block_normal ?_
      refine qx_seq ?_
      refine sx_region ?_
      refine sxl_y (wn_none rfl) rfl rfl (yp rfl) ?_
      refine sxl_y (wn_none rfl) rfl rfl (y_add rfl rfl rfl (by omega)) ?_
      refine sxl_y (wn_none rfl) rfl rfl (yp rfl) ?_
      refine sxl_nil ?_
      exact qx_again [(7, .int .i64 ((i + 1 : Nat) : Int)), (6, .pointer (some ⟨gp, 0, none⟩)), (0, .pointer (some ⟨gd, 0, none⟩))] (n - (i + 1)) ⟨i + 1, _, rfl, by omega, hil, by rw [List.length_set]; exact hln, (fun k hk1 hk2 => by
        rw [lst_set hil']
        unfold updS
        by_cases e : (k : Int) = (i : Int)
        · rw [if_pos e]
        · rw [if_neg e]; exact hone k hk1 (by omega)), hto.trans h3, hfs.trans hf3, rfl⟩ (by omega) ⟨rfl, rfl, rfl, trivial⟩
    · obtain rfl : i = n := by omega
      have c3 : Cell wr.heap gp 3 (.int .i64 r0) := hto.at_.c3
      have c3 := c3.fr (Fr.refl.drew : Fr0 wr wr.drew) (fun hh => hh)
      refine sx_seq ?_
      refine sx_seq ?_
      refine sx_region ?_
      iterate 4 refine sxl_y (wn_none rfl) rfl rfl (yp rfl) ?_
      refine sxl_y (wn_none rfl) rfl rfl (y_load rfl rfl (sc rfl) (by assumption)) ?_
      refine sxl_y (wn_none rfl) rfl rfl (y_lss_f rfl rfl rfl (by omega)) ?_
      refine sxl_nil ?_
      refine qx_seq ?_
      refine sx_false rfl ?_
      refine sx_exit ?_
      refine qx_then_exit ?_
      refine qx_then_exit ?_
      refine qx_block_hit ?_
      refine qx_seq ?_
      refine sx_seq ?_
      refine sx_still hmix (by kernel_rfl) ?_
      iterate 4 refine sxs_y (wn_none rfl) rfl rfl (yp rfl) ?_
      refine sxs_y (wn_none rfl) rfl rfl (y_load rfl rfl (sc rfl) (by assumption)) ?_
      iterate 3 refine sxs_y (wn_none rfl) rfl rfl (yp rfl) ?_
      refine sxs_end ?_
      refine qx_seq ?_
      refine sx_ret ?_
      refine qx_ret3 rfl rfl rfl rfl ?_
      have hfl : Fr0 w wr := hf02.step hfs (fun b hb e => by omega)
      exact ⟨gp, gs, st', rfl, hln, hone, hto.at_.fr0 Fr.refl.drew, hgp, hgs, hfl.drew⟩
end Go.Proofs.YthdlljlcffokbaaDoor
