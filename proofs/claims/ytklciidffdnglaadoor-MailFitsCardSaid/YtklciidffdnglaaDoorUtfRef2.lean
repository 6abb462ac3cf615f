/- The document's UTF-8: tollgateref01.UTF8. -/
import Derived.Test.YtklciidffdnglaaDoorUtfRef
namespace Go.Proofs.YtklciidffdnglaaDoor
open Go.RowKit

set_option maxHeartbeats 8000000 in
theorem utf8Ref_ok (l : List UInt8) (w : World) (hm : (l.length : Int) < 4611686018427387904) : Calls Tryd.prog 20 #[str l] w fun e w' => e = .returned (.bool (utf l)) ∧ Fr0 w w' := by
  refine sx_enter (vs := [_]) Tryd.func20 rfl Tryd.ntmps20 rfl ?_
  refine sx_seq ?_
  refine sx_region ?_
  refine sxl_y (wn_none rfl) rfl rfl (yp rfl) ?_
  refine sxl_nil ?_
  refine qx_seq ?_
  refine sx_seq ?_
  refine sx_region ?_
  refine sxl_y (wn_none rfl) rfl rfl (yp rfl) ?_
  refine sxl_nil ?_
  refine qx_seq ?_
  refine sx_seq ?_
  refine sx_block ?_
  refine sx_loop (e0 := [(3, .int .i64 0), (0, str l)]) (fun e wr m => ∃ (i : Nat), e = [(3, .int .i64 (i : Int)), (0, str l)] ∧ Fr0 w wr ∧ i ≤ l.length ∧ utf l = utf (l.drop i) ∧ m = l.length - i) ⟨0, rfl, Fr.refl, Nat.zero_le _, rfl, rfl⟩ ⟨rfl, rfl, trivial⟩ ?_
  rintro _ wr _ ⟨i, rfl, hf, hi, hu, rfl⟩
  by_cases hlt : i < l.length
  · obtain ⟨a, r, hd⟩ : ∃ a r, l.drop i = a :: r := ⟨_, _, List.drop_eq_getElem_cons hlt⟩
    have hau := at_ulen a r
    refine sx_seq ?_
    refine sx_seq ?_
    refine sx_region ?_
    refine sxl_y (wn_none rfl) rfl rfl (yp rfl) ?_
    refine sxl_y (wn_none rfl) rfl rfl (yp rfl) ?_
    refine sxl_y (wn_none rfl) rfl rfl (y_slen rfl rfl Tryd.underlying9) ?_
    refine sxl_y (wn_none rfl) rfl rfl (y_lss_t rfl rfl rfl (by omega)) ?_
    refine sxl_nil ?_
    refine qx_seq ?_
    refine sx_true rfl ?_
    refine sx_skip ?_
    refine qx_seq ?_
    refine sx_block ?_
    refine sx_seq ?_
    refine sx_region ?_
    refine sxl_y (wn_none rfl) rfl rfl (yp rfl) ?_
    refine sxl_y (wn_none rfl) rfl rfl (yp rfl) ?_
    refine sxl_call (some 14) (by first | exact wn_none rfl | exact wn_on rfl rfl rfl) rfl rfl (yc_call rfl rfl Tryd.call22) (at_ok l i a r hd hm _) ?_
    rintro _ w1 ⟨⟨cc, rfl⟩, hf1⟩
    refine ⟨_, rfl, ?_⟩
    cases hok : atOk a r with
    | false =>
      have hres : utf l = false := by rw [hu, hd, utf_bad (a :: r) (by simp) (hau.2 hok)]
      refine sxl_y (wn_none rfl) rfl rfl (yp rfl) ?_
      refine sxl_y (wn_none rfl) rfl rfl (yp rfl) ?_
      refine sxl_y (wn_none rfl) rfl rfl (yp rfl) ?_
      refine sxl_y (wn_none rfl) rfl rfl (yp rfl) ?_
      refine sxl_y (wn_none rfl) rfl rfl (yp rfl) ?_
      refine sxl_y (wn_none rfl) rfl rfl (yp rfl) ?_
      refine sxl_y (wn_none rfl) rfl rfl (yp rfl) ?_
      refine sxl_nil ?_
      refine qx_seq ?_
      refine sx_seq ?_
      refine sx_seq ?_
      refine sx_region ?_
      refine sxl_y (wn_none rfl) rfl rfl (yp rfl) ?_
      refine sxl_y (wn_none rfl) rfl rfl (yp rfl) ?_
      refine sxl_nil ?_
      refine qx_seq ?_
      refine sx_true rfl ?_
      refine sx_seq ?_
      refine sx_region ?_
      refine sxl_y (wn_none rfl) rfl rfl (yp rfl) ?_
      refine sxl_nil ?_
      refine qx_seq ?_
      refine sx_ret ?_
      refine qx_then_ret ?_
      refine qx_block_ret ?_
      refine qx_then_ret ?_
      refine qx_block_ret ?_
      refine qx_then_ret ?_
      refine qx_ret1 rfl rfl ?_
      exact ⟨by rw [hres], hf.trans hf1⟩
    | true =>
      have hul := hau.1 hok
      have hnn := nOf_le a
      have hle := ulen_le (a :: r)
      have hsum : i + nOf a ≤ l.length := by
        have h1 := congrArg List.length hd
        rw [List.length_drop] at h1
        rw [hul] at hle
        omega
      have hstep : utf l = utf (l.drop (i + nOf a)) := by rw [hu, hd, utf_go (a :: r) (nOf a) (by omega) hul, ← hd, List.drop_drop]
      rw [if_pos rfl]
      refine sxl_y (wn_none rfl) rfl rfl (yp rfl) ?_
      refine sxl_y (wn_none rfl) rfl rfl (yp rfl) ?_
      refine sxl_y (wn_none rfl) rfl rfl (yp rfl) ?_
      refine sxl_y (wn_none rfl) rfl rfl (yp rfl) ?_
      refine sxl_y (wn_none rfl) rfl rfl (yp rfl) ?_
      refine sxl_y (wn_none rfl) rfl rfl (yp rfl) ?_
      refine sxl_y (wn_none rfl) rfl rfl (yp rfl) ?_
      refine sxl_nil ?_
      refine qx_seq ?_
      refine sx_seq ?_
      refine sx_seq ?_
      refine sx_region ?_
      refine sxl_y (wn_none rfl) rfl rfl (yp rfl) ?_
      refine sxl_y (wn_none rfl) rfl rfl (yp rfl) ?_
      refine sxl_nil ?_
      refine qx_seq ?_
      refine sx_false rfl ?_
      refine sx_skip ?_
      refine qx_seq ?_
      refine sx_region ?_
      refine sxl_y (wn_none rfl) rfl rfl (yp rfl) ?_
      refine sxl_y (wn_none rfl) rfl rfl (yp rfl) ?_
      refine sxl_y (wn_none rfl) rfl rfl (y_add rfl rfl rfl (by omega)) ?_
      refine sxl_y (wn_none rfl) rfl rfl (yp rfl) ?_
      refine sxl_nil ?_
      refine qx_block_normal ?_
      exact qx_again [(3, .int .i64 ((i + nOf a : Nat) : Int)), (0, str l)] (l.length - (i + nOf a)) ⟨i + nOf a, rfl, hf.trans hf1, by omega, hstep, rfl⟩ (by omega) ⟨rfl, rfl, trivial⟩
  · obtain rfl : i = l.length := by omega
    have hres : utf l = true := by rw [hu, List.drop_length]; rfl
    refine sx_seq ?_
    refine sx_seq ?_
    refine sx_region ?_
    refine sxl_y (wn_none rfl) rfl rfl (yp rfl) ?_
    refine sxl_y (wn_none rfl) rfl rfl (yp rfl) ?_
    refine sxl_y (wn_none rfl) rfl rfl (y_slen rfl rfl Tryd.underlying9) ?_
    refine sxl_y (wn_none rfl) rfl rfl (y_lss_f rfl rfl rfl (by omega)) ?_
    refine sxl_nil ?_
    refine qx_seq ?_
    refine sx_false rfl ?_
    refine sx_exit ?_
    refine qx_then_exit ?_
    refine qx_then_exit ?_
    refine qx_block_hit ?_
    refine qx_seq ?_
    refine sx_seq ?_
    refine sx_region ?_
    refine sxl_y (wn_none rfl) rfl rfl (yp rfl) ?_
    refine sxl_nil ?_
    refine qx_seq ?_
    refine sx_ret ?_
    refine qx_ret1 rfl rfl ?_
    exact ⟨by rw [hres], hf⟩
end Go.Proofs.YtklciidffdnglaaDoor
