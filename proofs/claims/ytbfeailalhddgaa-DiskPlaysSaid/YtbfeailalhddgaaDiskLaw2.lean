/- The law's helpers full and bytes. -/
import Derived.Test.YtbfeailalhddgaaDiskLaw1
namespace Go.Proofs.Ytbfeailalhddgaa
open Go.RowKit

theorem bvs_rep (n : Nat) (c : UInt8) : bvs (List.replicate n c) = List.replicate n (bv c) := by unfold bvs; rw [List.map_replicate]
theorem rep_step (k : Nat) (x y : Value) (h : k < 128) : (List.replicate k x ++ List.replicate (128 - k) y).set k x = List.replicate (k + 1) x ++ List.replicate (128 - (k + 1)) y := by
  obtain ⟨m, hm⟩ : ∃ m, 128 - k = m + 1 := ⟨127 - k, by omega⟩
  rw [hm, List.set_append_right _ _ (by simp), List.length_replicate, Nat.sub_self, List.replicate_succ, List.set_cons_zero, List.replicate_succ', List.append_assoc, show 128 - (k + 1) = m by omega]
  rfl
set_option maxHeartbeats 4000000 in
theorem full_ok (c : UInt8) (w : World) : Calls Try.prog 10 #[bv c] w fun e w' => ∃ g, e = .returned (.slice (some ⟨g, 0, none⟩) 128 128) ∧ w.heap.size ≤ g ∧ Blk w' g 5 (bvs (List.replicate 128 c)) ∧ Fr0 w w' := by
  refine sx_enter (vs := [_]) Try.func10 rfl Try.ntmps10 rfl ?_
  refine sx_seq ?_
  refine sx_region ?_
  refine sxl_y (wn_none rfl) rfl rfl (yp rfl) ?_
  refine sxl_nil ?_
  refine qx_seq ?_
  refine sx_seq ?_
  refine sx_region ?_
  refine sxl_does (some 5) (wn_none rfl) rfl rfl (fun ρ hρ => does_make1 32 _ _ rfl 5 (.int .u8 0) 1 128 Try.underlying32 (by kernel_rfl) rfl (hρ _ _ rfl) (hρ _ _ rfl) (by omega) (by omega)) ?_
  rintro _ w2 ⟨g, rfl, hg, hg', hb2, hf2⟩
  refine sxl_y (wn_none rfl) rfl rfl (yp rfl) ?_
  refine sxl_nil ?_
  refine qx_seq ?_
  refine sx_seq ?_
  refine sx_seq ?_
  refine sx_region ?_
  refine sxl_y (wn_none rfl) rfl rfl (yp rfl) ?_
  refine sxl_nil ?_
  refine qx_seq ?_
  refine sx_block ?_
  refine sx_loop (fun e wr m => ∃ (k : Nat), e = [(4, .int .i64 (k : Int)), (0, bv c), (3, .slice (some ⟨g, 0, none⟩) 128 128)] ∧ k ≤ 128 ∧ Blk wr g 5 (List.replicate k (bv c) ++ List.replicate (128 - k) (.int .u8 0)) ∧ Fr0 w wr ∧ m = 128 - k) ⟨0, rfl, Nat.zero_le _, hb2, hf2, rfl⟩ ⟨rfl, rfl, rfl, trivial⟩ ?_
  rintro _ wr _ ⟨k, rfl, hk, hb, hf, rfl⟩
  by_cases hlt : k < 128
  · refine sx_seq ?_
    refine sx_seq ?_
    refine sx_region ?_
    refine sxl_y (wn_none rfl) rfl rfl (yp rfl) ?_
    refine sxl_y (wn_none rfl) rfl rfl (y_lss_t rfl rfl rfl (by omega)) ?_
    refine sxl_nil ?_
    refine qx_seq ?_
    refine sx_true rfl ?_
    refine sx_skip ?_
    refine qx_seq ?_
    refine sx_seq ?_
    refine sx_block ?_
    refine sx_region ?_
    refine sxl_y (wn_none rfl) rfl rfl (yp rfl) ?_
    refine sxl_y (wn_none rfl) rfl rfl (yp rfl) ?_
    refine sxl_y (wn_none rfl) rfl rfl (yp rfl) ?_
    refine sxl_y (wn_none rfl) rfl rfl (y_indexN rfl rfl rfl (sl rfl) (by omega)) ?_
    refine sxl_does none (wn_none rfl) rfl rfl (fun ρ hρ => does_store1 5 (.tmp 13) (.tmp 12) rfl g k 5 _ (bv c) (by rw [hρ _ _ rfl]; simp) (hρ _ _ rfl) rfl hb (by kernel_rfl) (by simp; omega) rfl) ?_
    rintro _ w3 ⟨rfl, hb3, hf3⟩
    rw [rep_step k _ _ hlt] at hb3
    refine sxl_nil ?_
    refine qx_block_normal ?_
    refine qx_seq ?_
    refine sx_region ?_
    refine sxl_y (wn_none rfl) rfl rfl (yp rfl) ?_
    refine sxl_y (wn_none rfl) rfl rfl (y_add rfl rfl rfl (by omega)) ?_
    refine sxl_y (wn_none rfl) rfl rfl (yp rfl) ?_
    refine sxl_nil ?_
    refine qx_again [(4, .int .i64 ((k + 1 : Nat) : Int)), (0, bv c), (3, .slice (some ⟨g, 0, none⟩) 128 128)] (128 - (k + 1)) ?_ ?_ ?_
    · exact ⟨k + 1, rfl, hlt, hb3, hf.step hf3 (fun b hb' e => by omega), rfl⟩
    · omega
    · exact ⟨by simp [Env.get], rfl, rfl, trivial⟩
  · obtain rfl : k = 128 := by omega
    refine sx_seq ?_
    refine sx_seq ?_
    refine sx_region ?_
    refine sxl_y (wn_none rfl) rfl rfl (yp rfl) ?_
    refine sxl_y (wn_none rfl) rfl rfl (y_lss_f rfl rfl rfl (by omega)) ?_
    refine sxl_nil ?_
    refine qx_seq ?_
    refine sx_false rfl ?_
    refine sx_exit ?_
    refine qx_then_exit ?_
    refine qx_then_exit ?_
    refine qx_block_hit ?_
    refine qx_seq ?_
    refine sx_seq ?_
    refine sx_region ?_
    refine sxl_y (wn_none rfl) rfl rfl (yp rfl) ?_
    refine sxl_y (wn_none rfl) rfl rfl (yp rfl) ?_
    refine sxl_nil ?_
    refine qx_seq ?_
    refine sx_ret ?_
    refine qx_ret1 rfl rfl ?_
    refine ⟨g, rfl, hg, ?_, hf⟩
    rw [bvs_rep]
    simpa using hb
set_option maxHeartbeats 4000000 in
theorem bytes_ok (A B : Option Addr) (la lb ca cb : Nat) (xs ys : List UInt8) (w : World) (ha : Rd w A la (bvs xs)) (hb : Rd w B lb (bvs ys)) (hm : la < 4611686018427387904) (hm' : lb < 4611686018427387904) :
    Calls Try.prog 19 #[.slice A la ca, .slice B lb cb] w fun e w' => e = .returned (.bool (decide (xs = ys))) ∧ Fr0 w w' := by
  have hla : xs.length = la := by rw [← ha.1, bvs_length]
  have hlb : ys.length = lb := by rw [← hb.1, bvs_length]
  refine sx_enter (vs := [_, _]) Try.func19 rfl Try.ntmps19 rfl ?_
  by_cases hne : la ≠ lb
  · refine sx_seq ?_
    refine sx_region ?_
    refine sxl_y (wn_none rfl) rfl rfl (yp rfl) ?_
    refine sxl_nil ?_
    refine qx_seq ?_
    refine sx_seq ?_
    refine sx_seq ?_
    refine sx_region ?_
    refine sxl_y (wn_none rfl) rfl rfl (yp rfl) ?_
    refine sxl_y (wn_none rfl) rfl rfl (y_len rfl rfl (sl rfl)) ?_
    refine sxl_y (wn_none rfl) rfl rfl (yp rfl) ?_
    refine sxl_y (wn_none rfl) rfl rfl (y_len rfl rfl (sl rfl)) ?_
    refine sxl_y (wn_none rfl) rfl rfl (y_neq_t rfl rfl rfl (by omega)) ?_
    refine sxl_nil ?_
    refine qx_seq ?_
    refine sx_true rfl ?_
    refine sx_seq ?_
    refine sx_region ?_
    refine sxl_y (wn_none rfl) rfl rfl (yp rfl) ?_
    refine sxl_nil ?_
    refine qx_seq ?_
    refine sx_ret ?_
    refine qx_then_ret ?_
    refine qx_ret1 rfl rfl ?_
    refine ⟨?_, Fr.refl⟩
    rw [decide_eq_false (fun e => hne (by rw [← hla, ← hlb, e]))]
  obtain rfl : la = lb := Decidable.not_not.1 hne
  refine sx_seq ?_
  refine sx_region ?_
  refine sxl_y (wn_none rfl) rfl rfl (yp rfl) ?_
  refine sxl_nil ?_
  refine qx_seq ?_
  refine sx_seq ?_
  refine sx_seq ?_
  refine sx_region ?_
  refine sxl_y (wn_none rfl) rfl rfl (yp rfl) ?_
  refine sxl_y (wn_none rfl) rfl rfl (y_len rfl rfl (sl rfl)) ?_
  refine sxl_y (wn_none rfl) rfl rfl (yp rfl) ?_
  refine sxl_y (wn_none rfl) rfl rfl (y_len rfl rfl (sl rfl)) ?_
  refine sxl_y (wn_none rfl) rfl rfl (y_neq_f rfl rfl rfl (by omega)) ?_
  refine sxl_nil ?_
  refine qx_seq ?_
  refine sx_false rfl ?_
  refine sx_skip ?_
  refine qx_seq ?_
  refine sx_seq ?_
  refine sx_seq ?_
  refine sx_region ?_
  refine sxl_y (wn_none rfl) rfl rfl (yp rfl) ?_
  refine sxl_nil ?_
  refine qx_seq ?_
  refine sx_block ?_
  refine sx_loop (fun e wr m => ∃ (k : Nat), e = [(5, .int .i64 (k : Int)), (0, .slice A la ca), (1, .slice B la cb)] ∧ k ≤ la ∧ xs.take k = ys.take k ∧ Fr0 w wr ∧ m = la - k) ⟨0, rfl, Nat.zero_le _, rfl, Fr.refl, rfl⟩ ⟨rfl, rfl, rfl, trivial⟩ ?_
  rintro _ wr _ ⟨k, rfl, hk, hp, hf, rfl⟩
  by_cases hlt : k < la
  · obtain ⟨b1, o1, rfl, u1, hu1, hc1⟩ := (ha.fr0 hf).at_ hlt
    obtain ⟨b2, o2, rfl, u2, hu2, hc2⟩ := (hb.fr0 hf).at_ hlt
    have hx : xs[k]? = some xs[k] := List.getElem?_eq_getElem (by omega)
    have hy : ys[k]? = some ys[k] := List.getElem?_eq_getElem (by omega)
    rw [bvs_getElem?, hx] at hu1
    rw [bvs_getElem?, hy] at hu2
    obtain rfl : bv xs[k] = u1 := by simpa using hu1
    obtain rfl : bv ys[k] = u2 := by simpa using hu2
    have c1 : Cell wr.heap b1 (o1 + k * 1) (.int .u8 (xs[k].toNat : Int)) := by rw [Nat.mul_one]; exact Cell.of hc1
    have c2 : Cell wr.heap b2 (o2 + k * 1) (.int .u8 (ys[k].toNat : Int)) := by rw [Nat.mul_one]; exact Cell.of hc2
    have tk : ∀ zs : List UInt8, (h : k < zs.length) → zs.take (k + 1) = zs.take k ++ [zs[k]] := fun zs h => List.take_succ_eq_append_getElem h
    by_cases he : (xs[k].toNat : Int) = (ys[k].toNat : Int)
    · refine sx_seq ?_
      refine sx_seq ?_
      refine sx_region ?_
      refine sxl_y (wn_none rfl) rfl rfl (yp rfl) ?_
      refine sxl_y (wn_none rfl) rfl rfl (yp rfl) ?_
      refine sxl_y (wn_none rfl) rfl rfl (y_len rfl rfl (sl rfl)) ?_
      refine sxl_y (wn_none rfl) rfl rfl (y_lss_t rfl rfl rfl (by omega)) ?_
      refine sxl_nil ?_
      refine qx_seq ?_
      refine sx_true rfl ?_
      refine sx_skip ?_
      refine qx_seq ?_
      refine sx_seq ?_
      refine sx_block ?_
      refine sx_seq ?_
      refine sx_still hmix (by kernel_rfl) ?_
      refine sxs_y (wn_none rfl) rfl rfl (yp rfl) ?_
      refine sxs_y (wn_none rfl) rfl rfl (yp rfl) ?_
      refine sxs_y (wn_none rfl) rfl rfl (y_indexN rfl rfl rfl (sl rfl) (by omega)) ?_
      refine sxs_y (wn_none rfl) rfl rfl (y_load rfl rfl (sc rfl) (by assumption)) ?_
      refine sxs_y (wn_none rfl) rfl rfl (yp rfl) ?_
      refine sxs_y (wn_none rfl) rfl rfl (yp rfl) ?_
      refine sxs_y (wn_none rfl) rfl rfl (y_indexN rfl rfl rfl (sl rfl) (by omega)) ?_
      refine sxs_y (wn_none rfl) rfl rfl (y_load rfl rfl (sc rfl) (by assumption)) ?_
      refine sxs_y (wn_none rfl) rfl rfl (y_neq_f rfl rfl rfl (by omega)) ?_
      refine sxs_end ?_
      refine qx_seq ?_
      refine sx_false rfl ?_
      refine sx_skip ?_
      refine qx_block_normal ?_
      refine qx_seq ?_
      refine sx_region ?_
      refine sxl_y (wn_none rfl) rfl rfl (yp rfl) ?_
      refine sxl_y (wn_none rfl) rfl rfl (y_add rfl rfl rfl (by omega)) ?_
      refine sxl_y (wn_none rfl) rfl rfl (yp rfl) ?_
      refine sxl_nil ?_
      have he' : xs[k] = ys[k] := UInt8.toNat_inj.1 (by omega)
      refine qx_again [(5, .int .i64 ((k + 1 : Nat) : Int)), (0, .slice (some ⟨b1, o1, none⟩) la ca), (1, .slice (some ⟨b2, o2, none⟩) la cb)] (la - (k + 1)) ?_ ?_ ?_
      · refine ⟨k + 1, rfl, hlt, ?_, hf.drew, rfl⟩
        rw [tk xs (by omega), tk ys (by omega), hp, he']
      · omega
      · exact ⟨by simp [Env.get], rfl, rfl, trivial⟩
    · refine sx_seq ?_
      refine sx_seq ?_
      refine sx_region ?_
      refine sxl_y (wn_none rfl) rfl rfl (yp rfl) ?_
      refine sxl_y (wn_none rfl) rfl rfl (yp rfl) ?_
      refine sxl_y (wn_none rfl) rfl rfl (y_len rfl rfl (sl rfl)) ?_
      refine sxl_y (wn_none rfl) rfl rfl (y_lss_t rfl rfl rfl (by omega)) ?_
      refine sxl_nil ?_
      refine qx_seq ?_
      refine sx_true rfl ?_
      refine sx_skip ?_
      refine qx_seq ?_
      refine sx_seq ?_
      refine sx_block ?_
      refine sx_seq ?_
      refine sx_still hmix (by kernel_rfl) ?_
      refine sxs_y (wn_none rfl) rfl rfl (yp rfl) ?_
      refine sxs_y (wn_none rfl) rfl rfl (yp rfl) ?_
      refine sxs_y (wn_none rfl) rfl rfl (y_indexN rfl rfl rfl (sl rfl) (by omega)) ?_
      refine sxs_y (wn_none rfl) rfl rfl (y_load rfl rfl (sc rfl) (by assumption)) ?_
      refine sxs_y (wn_none rfl) rfl rfl (yp rfl) ?_
      refine sxs_y (wn_none rfl) rfl rfl (yp rfl) ?_
      refine sxs_y (wn_none rfl) rfl rfl (y_indexN rfl rfl rfl (sl rfl) (by omega)) ?_
      refine sxs_y (wn_none rfl) rfl rfl (y_load rfl rfl (sc rfl) (by assumption)) ?_
      refine sxs_y (wn_none rfl) rfl rfl (y_neq_t rfl rfl rfl (by omega)) ?_
      refine sxs_end ?_
      refine qx_seq ?_
      refine sx_true rfl ?_
      refine sx_seq ?_
      refine sx_region ?_
      refine sxl_y (wn_none rfl) rfl rfl (yp rfl) ?_
      refine sxl_nil ?_
      refine qx_seq ?_
      refine sx_ret ?_
      refine qx_block_ret ?_
      refine qx_then_ret ?_
      refine qx_then_ret ?_
      refine qx_block_ret ?_
      refine qx_then_ret ?_
      refine qx_ret1 rfl rfl ?_
      refine ⟨?_, hf.drew⟩
      rw [decide_eq_false (fun e => he (by subst e; rfl))]
  · obtain rfl : k = la := by omega
    refine sx_seq ?_
    refine sx_seq ?_
    refine sx_region ?_
    refine sxl_y (wn_none rfl) rfl rfl (yp rfl) ?_
    refine sxl_y (wn_none rfl) rfl rfl (yp rfl) ?_
    refine sxl_y (wn_none rfl) rfl rfl (y_len rfl rfl (sl rfl)) ?_
    refine sxl_y (wn_none rfl) rfl rfl (y_lss_f rfl rfl rfl (by omega)) ?_
    refine sxl_nil ?_
    refine qx_seq ?_
    refine sx_false rfl ?_
    refine sx_exit ?_
    refine qx_then_exit ?_
    refine qx_then_exit ?_
    refine qx_block_hit ?_
    refine qx_seq ?_
    refine sx_seq ?_
    refine sx_region ?_
    refine sxl_y (wn_none rfl) rfl rfl (yp rfl) ?_
    refine sxl_nil ?_
    refine qx_seq ?_
    refine sx_ret ?_
    refine qx_ret1 rfl rfl ?_
    refine ⟨?_, hf⟩
    rw [List.take_of_length_le (by omega), List.take_of_length_le (by omega)] at hp
    rw [decide_eq_true hp]
end Go.Proofs.Ytbfeailalhddgaa
