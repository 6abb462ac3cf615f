/- value.Check and tollgateref09.Check. Condition: the tables of unicode/utf8 are as they are laid. -/
import Derived.Test.YtklciidffdnglaaDoorValue
import Derived.Test.YtklciidffdnglaaDoorValid
import Derived.Test.YtklciidffdnglaaDoorUtfRef2
import Derived.Test.YtklciidffdnglaaDoorSxOne
namespace Go.Proofs.YtklciidffdnglaaDoor
open Go.RowKit

def vOk (v : Vl) : Bool := if v.kind = 1 then (!v.bool && decide (v.text = [])) else if v.kind = 2 then (decide (v.int = 0) && decide (v.text = [])) else if v.kind = 3 then (decide (v.int = 0) && (!v.bool && (decide (v.text.length ≤ 1024) && utf v.text))) else false
def chk (v : Vl) : Int := if vOk v then 0 else 1
theorem chk_t {v : Vl} (h : vOk v = true) : chk v = 0 := by unfold chk; rw [h]; rfl
theorem chk_f {v : Vl} (h : vOk v = false) : chk v = 1 := by unfold chk; rw [h]; rfl
theorem kind_ne {k : UInt8} {n : Nat} (h : k ≠ UInt8.ofNat n) : (k.toNat : Int) ≠ n := fun e => h (by
  have : k.toNat = n := by omega
  rw [← this]; simp)
set_option maxHeartbeats 8000000 in
theorem vCheck_ok (v : Vl) (w : World) (hm : (v.text.length : Int) < 4611686018427387904) (hT : Laid w utfL) : Calls Tryd.prog 11 #[v.val] w fun e w' => e = .returned (.int .i64 (chk v)) ∧ Fr0 w w' := by
  refine sx_enter (vs := [_]) Tryd.func11 rfl Tryd.ntmps11 rfl ?_
  refine sx_seq ?_
  refine sx_region ?_
  refine sxl_does (some 1) (wn_none rfl) rfl rfl (fun ρ hρ => does_box 36 (.tmp 0) rfl v.cells (by rw [hρ _ _ rfl]; rfl)) ?_
  rintro _ w1 ⟨g, rfl, hg1, hg2, hb, hf⟩
  have c0 : Cell w1.heap g 0 (.int .u8 (v.kind.toNat : Int)) := hb.c 0 rfl
  have c1 : Cell w1.heap g 1 (.int .i64 v.int) := hb.c 1 rfl
  have c2 : Cell w1.heap g 2 (.bool v.bool) := hb.c 2 rfl
  have c3 : Cell w1.heap g 3 (str v.text) := hb.c 3 rfl
  have hrd : Rd w1 (some ⟨g, 0, none⟩) 4 v.cells := Rd.ofBlk hb rfl
  have hk := v.kind.toNat_lt
  by_cases k1 : v.kind = 1
  · have k1' : (v.kind.toNat : Int) = 1 := by rw [k1]; rfl
    refine sxl_y (wn_none rfl) rfl rfl (yp rfl) ?_
    refine sxl_nil ?_
    refine qx_seq ?_
    refine sx_seq ?_
    refine sx_region ?_
    refine sxl_y (wn_none rfl) rfl rfl (yp rfl) ?_
    refine sxl_nil ?_
    refine qx_seq ?_
    refine sx_seq ?_
    refine sx_seq ?_
    refine sx_region ?_
    refine sxl_y (wn_none rfl) rfl rfl (yp rfl) ?_
    refine sxl_y (wn_none rfl) rfl rfl (y_load rfl rfl (sc rfl) (by assumption)) ?_
    refine sxl_nil ?_
    refine qx_seq ?_
    refine sx_block ?_
    refine sx_seq ?_
    refine sx_region ?_
    refine sxl_y (wn_none rfl) rfl rfl (y_eql_t rfl rfl rfl (by omega)) ?_
    refine sxl_y (wn_none rfl) rfl rfl (yp rfl) ?_
    refine sxl_nil ?_
    refine qx_seq ?_
    refine sx_true rfl ?_
    refine sx_any 5 (fun w' => Rd w' (some ⟨g, 0, none⟩) 4 v.cells ∧ Cell w'.heap g 1 (.int .i64 v.int)) hmix ?_
    have HS : Rd w1.drew (some ⟨g, 0, none⟩) 4 v.cells ∧ Cell w1.drew.heap g 1 (.int .i64 v.int) := ⟨hrd, c1⟩
    refine sxo_y 0 3 (by kernel_rfl) (fun c a t v w h => by cases t <;> exact h) (by kernel_rfl) rfl (by kernel_rfl) (by kernel_rfl) rfl (wn_none rfl) rfl rfl HS (fun w' hS' => y_loadRd rfl rfl hS'.1 Tryd.underlying36 rfl value_size) ?_
    refine sxo_y 1 3 (by kernel_rfl) (fun c a t v w h => by cases t <;> exact h) (by kernel_rfl) rfl (by kernel_rfl) (by kernel_rfl) rfl (wn_none rfl) rfl rfl HS (fun w' hS' => yp rfl) ?_
    refine sxo_y 2 3 (by kernel_rfl) (fun c a t v w h => by cases t <;> exact h) (by kernel_rfl) rfl (by kernel_rfl) (by kernel_rfl) rfl (wn_none rfl) rfl rfl HS (fun w' hS' => y_load rfl rfl (sc rfl) (by obtain ⟨s1, s2⟩ := hS'; assumption)) ?_
    refine sxo_call 3 (some 11) (by kernel_rfl) rfl (wn_none rfl) rfl rfl (yc_call rfl rfl Tryd.call16) (number_ok v.int _) ?_
    rintro _ w2 ⟨rfl, hf2⟩
    have HS : Rd w2 (some ⟨g, 0, none⟩) 4 v.cells ∧ Cell w2.heap g 1 (.int .i64 v.int) := ⟨hrd.fr0 hf2.ofDrew, c1.fr hf2.ofDrew (fun hh => hh)⟩
    refine ⟨_, rfl, fun _ => HS, ?_⟩
    refine sxo_y1 4 (by kernel_rfl) rfl (wn_none rfl) rfl rfl (y_eqVl rfl rfl rfl) HS ?_
    refine sxo_seq 5 (by kernel_rfl) rfl rfl (by kernel_rfl) ?_
    have hsm : v.same ⟨1, v.int, false, []⟩ = vOk v := by
      unfold Vl.same vOk
      rw [if_pos k1, k1]
      cases v.bool <;> simp
    refine sxl_y (wn_none rfl) rfl rfl (yp rfl) ?_
    refine sxl_nil ?_
    refine qx_block_normal ?_
    refine qx_seq ?_
    refine sx_seq ?_
    refine sx_seq ?_
    refine sx_region ?_
    refine sxl_y (wn_none rfl) rfl rfl (yp rfl) ?_
    refine sxl_y (wn_none rfl) rfl rfl (yp rfl) ?_
    refine sxl_nil ?_
    refine qx_seq ?_
    rw [hsm]
    cases hv : vOk v with
    | true =>
      refine sx_false rfl ?_
      refine sx_skip ?_
      refine qx_seq ?_
      refine sx_seq ?_
      refine sx_region ?_
      refine sxl_y (wn_none rfl) rfl rfl (yp rfl) ?_
      refine sxl_nil ?_
      refine qx_seq ?_
      refine sx_ret ?_
      refine qx_ret1 rfl rfl ?_
      exact ⟨by rw [chk_t hv], hf.trans hf2.ofDrew⟩
    | false =>
      refine sx_true rfl ?_
      refine sx_seq ?_
      refine sx_region ?_
      refine sxl_y (wn_none rfl) rfl rfl (yp rfl) ?_
      refine sxl_nil ?_
      refine qx_seq ?_
      refine sx_ret ?_
      refine qx_then_ret ?_
      refine qx_ret1 rfl rfl ?_
      exact ⟨by rw [chk_f hv], hf.trans hf2.ofDrew⟩
  by_cases k2 : v.kind = 2
  · have k1' : (v.kind.toNat : Int) ≠ 1 := by rw [k2]; decide
    have k2' : (v.kind.toNat : Int) = 2 := by rw [k2]; rfl
    refine sxl_y (wn_none rfl) rfl rfl (yp rfl) ?_
    refine sxl_nil ?_
    refine qx_seq ?_
    refine sx_seq ?_
    refine sx_region ?_
    refine sxl_y (wn_none rfl) rfl rfl (yp rfl) ?_
    refine sxl_nil ?_
    refine qx_seq ?_
    refine sx_seq ?_
    refine sx_seq ?_
    refine sx_region ?_
    refine sxl_y (wn_none rfl) rfl rfl (yp rfl) ?_
    refine sxl_y (wn_none rfl) rfl rfl (y_load rfl rfl (sc rfl) (by assumption)) ?_
    refine sxl_nil ?_
    refine qx_seq ?_
    refine sx_block ?_
    refine sx_seq ?_
    refine sx_region ?_
    refine sxl_y (wn_none rfl) rfl rfl (y_eql_f rfl rfl rfl (by omega)) ?_
    refine sxl_y (wn_none rfl) rfl rfl (yp rfl) ?_
    refine sxl_nil ?_
    refine qx_seq ?_
    refine sx_false rfl ?_
    refine sx_seq ?_
    refine sx_region ?_
    refine sxl_y (wn_none rfl) rfl rfl (y_eql_t rfl rfl rfl (by omega)) ?_
    refine sxl_y (wn_none rfl) rfl rfl (yp rfl) ?_
    refine sxl_nil ?_
    refine qx_seq ?_
    refine sx_true rfl ?_
    refine sx_any 5 (fun w' => Rd w' (some ⟨g, 0, none⟩) 4 v.cells ∧ Cell w'.heap g 2 (.bool v.bool)) hmix ?_
    have HS : Rd w1.drew (some ⟨g, 0, none⟩) 4 v.cells ∧ Cell w1.drew.heap g 2 (.bool v.bool) := ⟨hrd, c2⟩
    refine sxo_y 0 3 (by kernel_rfl) (fun c a t v w h => by cases t <;> exact h) (by kernel_rfl) rfl (by kernel_rfl) (by kernel_rfl) rfl (wn_none rfl) rfl rfl HS (fun w' hS' => y_loadRd rfl rfl hS'.1 Tryd.underlying36 rfl value_size) ?_
    refine sxo_y 1 3 (by kernel_rfl) (fun c a t v w h => by cases t <;> exact h) (by kernel_rfl) rfl (by kernel_rfl) (by kernel_rfl) rfl (wn_none rfl) rfl rfl HS (fun w' hS' => yp rfl) ?_
    refine sxo_y 2 3 (by kernel_rfl) (fun c a t v w h => by cases t <;> exact h) (by kernel_rfl) rfl (by kernel_rfl) (by kernel_rfl) rfl (wn_none rfl) rfl rfl HS (fun w' hS' => y_load rfl rfl (sc rfl) (by obtain ⟨s1, s2⟩ := hS'; assumption)) ?_
    refine sxo_call 3 (some 18) (by kernel_rfl) rfl (wn_none rfl) rfl rfl (yc_call rfl rfl Tryd.call17) (truth_ok v.bool _) ?_
    rintro _ w2 ⟨rfl, hf2⟩
    have HS : Rd w2 (some ⟨g, 0, none⟩) 4 v.cells ∧ Cell w2.heap g 2 (.bool v.bool) := ⟨hrd.fr0 hf2.ofDrew, c2.fr hf2.ofDrew (fun hh => hh)⟩
    refine ⟨_, rfl, fun _ => HS, ?_⟩
    refine sxo_y1 4 (by kernel_rfl) rfl (wn_none rfl) rfl rfl (y_eqVl rfl rfl rfl) HS ?_
    refine sxo_seq 5 (by kernel_rfl) rfl rfl (by kernel_rfl) ?_
    have hsm : v.same ⟨2, 0, v.bool, []⟩ = vOk v := by
      unfold Vl.same vOk
      rw [if_neg k1, if_pos k2, k2]
      simp
    refine sxl_y (wn_none rfl) rfl rfl (yp rfl) ?_
    refine sxl_nil ?_
    refine qx_block_normal ?_
    refine qx_seq ?_
    refine sx_seq ?_
    refine sx_seq ?_
    refine sx_region ?_
    refine sxl_y (wn_none rfl) rfl rfl (yp rfl) ?_
    refine sxl_y (wn_none rfl) rfl rfl (yp rfl) ?_
    refine sxl_nil ?_
    refine qx_seq ?_
    rw [hsm]
    cases hv : vOk v with
    | true =>
      refine sx_false rfl ?_
      refine sx_skip ?_
      refine qx_seq ?_
      refine sx_seq ?_
      refine sx_region ?_
      refine sxl_y (wn_none rfl) rfl rfl (yp rfl) ?_
      refine sxl_nil ?_
      refine qx_seq ?_
      refine sx_ret ?_
      refine qx_ret1 rfl rfl ?_
      exact ⟨by rw [chk_t hv], hf.trans hf2.ofDrew⟩
    | false =>
      refine sx_true rfl ?_
      refine sx_seq ?_
      refine sx_region ?_
      refine sxl_y (wn_none rfl) rfl rfl (yp rfl) ?_
      refine sxl_nil ?_
      refine qx_seq ?_
      refine sx_ret ?_
      refine qx_then_ret ?_
      refine qx_ret1 rfl rfl ?_
      exact ⟨by rw [chk_f hv], hf.trans hf2.ofDrew⟩
  have k1' : (v.kind.toNat : Int) ≠ 1 := kind_ne (n := 1) k1
  have k2' : (v.kind.toNat : Int) ≠ 2 := kind_ne (n := 2) k2
  by_cases k3 : v.kind = 3
  · have k3' : (v.kind.toNat : Int) = 3 := by rw [k3]; rfl
    refine sxl_y (wn_none rfl) rfl rfl (yp rfl) ?_
    refine sxl_nil ?_
    refine qx_seq ?_
    refine sx_seq ?_
    refine sx_region ?_
    refine sxl_y (wn_none rfl) rfl rfl (yp rfl) ?_
    refine sxl_nil ?_
    refine qx_seq ?_
    refine sx_seq ?_
    refine sx_seq ?_
    refine sx_region ?_
    refine sxl_y (wn_none rfl) rfl rfl (yp rfl) ?_
    refine sxl_y (wn_none rfl) rfl rfl (y_load rfl rfl (sc rfl) (by assumption)) ?_
    refine sxl_nil ?_
    refine qx_seq ?_
    refine sx_block ?_
    refine sx_seq ?_
    refine sx_region ?_
    refine sxl_y (wn_none rfl) rfl rfl (y_eql_f rfl rfl rfl (by omega)) ?_
    refine sxl_y (wn_none rfl) rfl rfl (yp rfl) ?_
    refine sxl_nil ?_
    refine qx_seq ?_
    refine sx_false rfl ?_
    refine sx_seq ?_
    refine sx_region ?_
    refine sxl_y (wn_none rfl) rfl rfl (y_eql_f rfl rfl rfl (by omega)) ?_
    refine sxl_y (wn_none rfl) rfl rfl (yp rfl) ?_
    refine sxl_nil ?_
    refine qx_seq ?_
    refine sx_false rfl ?_
    refine sx_seq ?_
    refine sx_region ?_
    refine sxl_y (wn_none rfl) rfl rfl (y_eql_t rfl rfl rfl (by omega)) ?_
    refine sxl_y (wn_none rfl) rfl rfl (yp rfl) ?_
    refine sxl_nil ?_
    refine qx_seq ?_
    refine sx_true rfl ?_
    refine sx_any 16 (fun w' => Rd w' (some ⟨g, 0, none⟩) 4 v.cells ∧ Cell w'.heap g 3 (str v.text)) hmix ?_
    have HS : Rd w1.drew (some ⟨g, 0, none⟩) 4 v.cells ∧ Cell w1.drew.heap g 3 (str v.text) := ⟨hrd, c3⟩
    refine sxo_y 0 3 (by kernel_rfl) (fun c a t v w h => by cases t <;> exact h) (by kernel_rfl) rfl (by kernel_rfl) (by kernel_rfl) rfl (wn_none rfl) rfl rfl HS (fun w' hS' => y_loadRd rfl rfl hS'.1 Tryd.underlying36 rfl value_size) ?_
    refine sxo_y 1 3 (by kernel_rfl) (fun c a t v w h => by cases t <;> exact h) (by kernel_rfl) rfl (by kernel_rfl) (by kernel_rfl) rfl (wn_none rfl) rfl rfl HS (fun w' hS' => yp rfl) ?_
    refine sxo_y 2 3 (by kernel_rfl) (fun c a t v w h => by cases t <;> exact h) (by kernel_rfl) rfl (by kernel_rfl) (by kernel_rfl) rfl (wn_none rfl) rfl rfl HS (fun w' hS' => y_load rfl rfl (sc rfl) (by obtain ⟨s1, s2⟩ := hS'; assumption)) ?_
    refine sxo_call 3 (some 25) (by kernel_rfl) rfl (wn_none rfl) rfl rfl (yc_call rfl rfl Tryd.call18) (words_ok v.text _) ?_
    rintro _ w2 ⟨rfl, hf2⟩
    have c3' : Cell w2.heap g 3 (str v.text) := c3.fr hf2.ofDrew (fun hh => hh)
    have HS : Rd w2 (some ⟨g, 0, none⟩) 4 v.cells ∧ Cell w2.heap g 3 (str v.text) := ⟨hrd.fr0 hf2.ofDrew, c3'⟩
    refine ⟨_, rfl, fun _ => HS, ?_⟩
    have hw2 : Fr0 w w2 := hf.trans hf2.ofDrew
    have hsm : v.same ⟨3, 0, false, v.text⟩ = (decide (v.int = 0) && !v.bool) := by
      unfold Vl.same
      rw [k3]
      cases v.bool <;> simp
    have hvk : vOk v = ((decide (v.int = 0) && !v.bool) && (decide (v.text.length ≤ 1024) && utf v.text)) := by
      unfold vOk
      rw [if_neg k1, if_neg k2, if_pos k3, Bool.and_assoc]
    refine sxo_y1 4 (by kernel_rfl) rfl (wn_none rfl) rfl rfl (y_eqVl rfl rfl rfl) HS ?_
    rw [hsm]
    cases ha : (decide (v.int = 0) && !v.bool) with
    | false =>
      have hv : vOk v = false := by rw [hvk, ha]; rfl
      refine sxo_y1 5 (by kernel_rfl) rfl (wn_none rfl) rfl rfl (yp rfl) HS ?_
      refine sxo_off1 6 (by kernel_rfl) rfl rfl rfl rfl rfl rfl rfl HS ?_
      refine sxo_off1 7 (by kernel_rfl) rfl rfl rfl rfl rfl rfl rfl HS ?_
      refine sxo_off1 8 (by kernel_rfl) rfl rfl rfl rfl rfl rfl rfl HS ?_
      refine sxo_off1 9 (by kernel_rfl) rfl rfl rfl rfl rfl rfl rfl HS ?_
      refine sxo_y1 10 (by kernel_rfl) rfl (wn_none rfl) rfl rfl (yp rfl) HS ?_
      refine sxo_y1 11 (by kernel_rfl) rfl (wn_none rfl) rfl rfl (yp rfl) HS ?_
      refine sxo_off1 12 (by kernel_rfl) rfl rfl rfl rfl rfl rfl rfl HS ?_
      refine sxo_off1 13 (by kernel_rfl) rfl rfl rfl rfl rfl rfl rfl HS ?_
      refine sxo_off1 14 (by kernel_rfl) rfl rfl rfl rfl rfl rfl rfl HS ?_
      refine sxo_y1 15 (by kernel_rfl) rfl (wn_none rfl) rfl rfl (yp rfl) HS ?_
      refine sxo_seq 16 (by kernel_rfl) rfl rfl (by kernel_rfl) ?_
      refine sxl_y (wn_none rfl) rfl rfl (yp rfl) ?_
      refine sxl_nil ?_
      refine qx_block_normal ?_
      refine qx_seq ?_
      refine sx_seq ?_
      refine sx_seq ?_
      refine sx_region ?_
      refine sxl_y (wn_none rfl) rfl rfl (yp rfl) ?_
      refine sxl_y (wn_none rfl) rfl rfl (yp rfl) ?_
      refine sxl_nil ?_
      refine qx_seq ?_
      refine sx_true rfl ?_
      refine sx_seq ?_
      refine sx_region ?_
      refine sxl_y (wn_none rfl) rfl rfl (yp rfl) ?_
      refine sxl_nil ?_
      refine qx_seq ?_
      refine sx_ret ?_
      refine qx_then_ret ?_
      refine qx_ret1 rfl rfl ?_
      exact ⟨by rw [chk_f hv], hw2⟩
    | true =>
      by_cases hl : v.text.length ≤ 1024
      · skip
        refine sxo_y1 5 (by kernel_rfl) rfl (wn_none rfl) rfl rfl (yp rfl) HS ?_
        refine sxo_y1 6 (by kernel_rfl) rfl (wn_on rfl rfl rfl) rfl rfl (yp rfl) HS ?_
        refine sxo_y1 7 (by kernel_rfl) rfl (wn_on rfl rfl rfl) rfl rfl (y_load rfl rfl (sc rfl) (by assumption)) HS ?_
        refine sxo_y1 8 (by kernel_rfl) rfl (wn_on rfl rfl rfl) rfl rfl (y_slen rfl rfl Tryd.underlying9) HS ?_
        refine sxo_y1 9 (by kernel_rfl) rfl (wn_on rfl rfl rfl) rfl rfl (y_leq_t rfl rfl rfl (by omega)) HS ?_
        refine sxo_y1 10 (by kernel_rfl) rfl (wn_none rfl) rfl rfl (yp rfl) HS ?_
        refine sxo_y1 11 (by kernel_rfl) rfl (wn_none rfl) rfl rfl (yp rfl) HS ?_
        refine sxo_y1 12 (by kernel_rfl) rfl (wn_on rfl rfl rfl) rfl rfl (yp rfl) HS ?_
        refine sxo_y1 13 (by kernel_rfl) rfl (wn_on rfl rfl rfl) rfl rfl (y_load rfl rfl (sc rfl) (by assumption)) HS ?_
        refine sxo_call 14 (some 36) (by kernel_rfl) rfl (wn_on rfl rfl rfl) rfl rfl (yc_call rfl rfl Tryd.call19) (wordUtf_ok v.text _ hm (hT.fr hw2)) ?_
        rintro _ w3 ⟨rfl, hf3⟩
        have HS : Rd w3 (some ⟨g, 0, none⟩) 4 v.cells ∧ Cell w3.heap g 3 (str v.text) := ⟨(hrd.fr0 hf2.ofDrew).fr0 hf3, c3'.fr hf3 (fun hh => hh)⟩
        refine ⟨_, rfl, fun _ => HS, ?_⟩
        have hv : vOk v = utf v.text := by rw [hvk, ha]; simp [hl]
        rw [← hv]
        refine sxo_y1 15 (by kernel_rfl) rfl (wn_none rfl) rfl rfl (yp rfl) HS ?_
        refine sxo_seq 16 (by kernel_rfl) rfl rfl (by kernel_rfl) ?_
        refine sxl_y (wn_none rfl) rfl rfl (yp rfl) ?_
        refine sxl_nil ?_
        refine qx_block_normal ?_
        refine qx_seq ?_
        refine sx_seq ?_
        refine sx_seq ?_
        refine sx_region ?_
        refine sxl_y (wn_none rfl) rfl rfl (yp rfl) ?_
        refine sxl_y (wn_none rfl) rfl rfl (yp rfl) ?_
        refine sxl_nil ?_
        refine qx_seq ?_
        cases hq : vOk v with
        | true =>
          refine sx_false rfl ?_
          refine sx_skip ?_
          refine qx_seq ?_
          refine sx_seq ?_
          refine sx_region ?_
          refine sxl_y (wn_none rfl) rfl rfl (yp rfl) ?_
          refine sxl_nil ?_
          refine qx_seq ?_
          refine sx_ret ?_
          refine qx_ret1 rfl rfl ?_
          exact ⟨by rw [chk_t hq], hw2.trans hf3⟩
        | false =>
          refine sx_true rfl ?_
          refine sx_seq ?_
          refine sx_region ?_
          refine sxl_y (wn_none rfl) rfl rfl (yp rfl) ?_
          refine sxl_nil ?_
          refine qx_seq ?_
          refine sx_ret ?_
          refine qx_then_ret ?_
          refine qx_ret1 rfl rfl ?_
          exact ⟨by rw [chk_f hq], hw2.trans hf3⟩
      · have hv : vOk v = false := by rw [hvk, ha]; simp [hl]
        refine sxo_y1 5 (by kernel_rfl) rfl (wn_none rfl) rfl rfl (yp rfl) HS ?_
        refine sxo_y1 6 (by kernel_rfl) rfl (wn_on rfl rfl rfl) rfl rfl (yp rfl) HS ?_
        refine sxo_y1 7 (by kernel_rfl) rfl (wn_on rfl rfl rfl) rfl rfl (y_load rfl rfl (sc rfl) (by assumption)) HS ?_
        refine sxo_y1 8 (by kernel_rfl) rfl (wn_on rfl rfl rfl) rfl rfl (y_slen rfl rfl Tryd.underlying9) HS ?_
        refine sxo_y1 9 (by kernel_rfl) rfl (wn_on rfl rfl rfl) rfl rfl (y_leq_f rfl rfl rfl (by omega)) HS ?_
        refine sxo_y1 10 (by kernel_rfl) rfl (wn_none rfl) rfl rfl (yp rfl) HS ?_
        refine sxo_y1 11 (by kernel_rfl) rfl (wn_none rfl) rfl rfl (yp rfl) HS ?_
        refine sxo_off1 12 (by kernel_rfl) rfl rfl rfl rfl rfl rfl rfl HS ?_
        refine sxo_off1 13 (by kernel_rfl) rfl rfl rfl rfl rfl rfl rfl HS ?_
        refine sxo_off1 14 (by kernel_rfl) rfl rfl rfl rfl rfl rfl rfl HS ?_
        refine sxo_y1 15 (by kernel_rfl) rfl (wn_none rfl) rfl rfl (yp rfl) HS ?_
        refine sxo_seq 16 (by kernel_rfl) rfl rfl (by kernel_rfl) ?_
        refine sxl_y (wn_none rfl) rfl rfl (yp rfl) ?_
        refine sxl_nil ?_
        refine qx_block_normal ?_
        refine qx_seq ?_
        refine sx_seq ?_
        refine sx_seq ?_
        refine sx_region ?_
        refine sxl_y (wn_none rfl) rfl rfl (yp rfl) ?_
        refine sxl_y (wn_none rfl) rfl rfl (yp rfl) ?_
        refine sxl_nil ?_
        refine qx_seq ?_
        refine sx_true rfl ?_
        refine sx_seq ?_
        refine sx_region ?_
        refine sxl_y (wn_none rfl) rfl rfl (yp rfl) ?_
        refine sxl_nil ?_
        refine qx_seq ?_
        refine sx_ret ?_
        refine qx_then_ret ?_
        refine qx_ret1 rfl rfl ?_
        exact ⟨by rw [chk_f hv], hw2⟩
  · have k3' : (v.kind.toNat : Int) ≠ 3 := kind_ne (n := 3) k3
    have hv : vOk v = false := by unfold vOk; rw [if_neg k1, if_neg k2, if_neg k3]
    refine sxl_y (wn_none rfl) rfl rfl (yp rfl) ?_
    refine sxl_nil ?_
    refine qx_seq ?_
    refine sx_seq ?_
    refine sx_region ?_
    refine sxl_y (wn_none rfl) rfl rfl (yp rfl) ?_
    refine sxl_nil ?_
    refine qx_seq ?_
    refine sx_seq ?_
    refine sx_seq ?_
    refine sx_region ?_
    refine sxl_y (wn_none rfl) rfl rfl (yp rfl) ?_
    refine sxl_y (wn_none rfl) rfl rfl (y_load rfl rfl (sc rfl) (by assumption)) ?_
    refine sxl_nil ?_
    refine qx_seq ?_
    refine sx_block ?_
    refine sx_seq ?_
    refine sx_region ?_
    refine sxl_y (wn_none rfl) rfl rfl (y_eql_f rfl rfl rfl (by omega)) ?_
    refine sxl_y (wn_none rfl) rfl rfl (yp rfl) ?_
    refine sxl_nil ?_
    refine qx_seq ?_
    refine sx_false rfl ?_
    refine sx_seq ?_
    refine sx_region ?_
    refine sxl_y (wn_none rfl) rfl rfl (y_eql_f rfl rfl rfl (by omega)) ?_
    refine sxl_y (wn_none rfl) rfl rfl (yp rfl) ?_
    refine sxl_nil ?_
    refine qx_seq ?_
    refine sx_false rfl ?_
    refine sx_seq ?_
    refine sx_region ?_
    refine sxl_y (wn_none rfl) rfl rfl (y_eql_f rfl rfl rfl (by omega)) ?_
    refine sxl_y (wn_none rfl) rfl rfl (yp rfl) ?_
    refine sxl_nil ?_
    refine qx_seq ?_
    refine sx_false rfl ?_
    refine sx_skip ?_
    refine qx_block_normal ?_
    refine qx_seq ?_
    refine sx_seq ?_
    refine sx_seq ?_
    refine sx_region ?_
    refine sxl_y (wn_none rfl) rfl rfl (yp rfl) ?_
    refine sxl_y (wn_none rfl) rfl rfl (yp rfl) ?_
    refine sxl_nil ?_
    refine qx_seq ?_
    refine sx_true rfl ?_
    refine sx_seq ?_
    refine sx_region ?_
    refine sxl_y (wn_none rfl) rfl rfl (yp rfl) ?_
    refine sxl_nil ?_
    refine qx_seq ?_
    refine sx_ret ?_
    refine qx_then_ret ?_
    refine qx_ret1 rfl rfl ?_
    exact ⟨by rw [chk_f hv], hf⟩
set_option maxHeartbeats 8000000 in
theorem rCheck_ok (v : Vl) (w : World) (hm : (v.text.length : Int) < 4611686018427387904) : Calls Tryd.prog 14 #[v.val] w fun e w' => e = .returned (.int .i64 (chk v)) ∧ Fr0 w w' := by
  refine sx_enter (vs := [_]) Tryd.func14 rfl Tryd.ntmps14 rfl ?_
  refine sx_seq ?_
  refine sx_region ?_
  refine sxl_does (some 1) (wn_none rfl) rfl rfl (fun ρ hρ => does_box 36 (.tmp 0) rfl v.cells (by rw [hρ _ _ rfl]; rfl)) ?_
  rintro _ w1 ⟨g, rfl, hg1, hg2, hb, hf⟩
  have c0 : Cell w1.heap g 0 (.int .u8 (v.kind.toNat : Int)) := hb.c 0 rfl
  have c1 : Cell w1.heap g 1 (.int .i64 v.int) := hb.c 1 rfl
  have c2 : Cell w1.heap g 2 (.bool v.bool) := hb.c 2 rfl
  have c3 : Cell w1.heap g 3 (str v.text) := hb.c 3 rfl
  have hk := v.kind.toNat_lt
  by_cases k1 : v.kind = 1
  · have k1' : (v.kind.toNat : Int) = 1 := by rw [k1]; rfl
    have hvk : vOk v = (!v.bool && decide (v.text = [])) := by unfold vOk; rw [if_pos k1]
    cases hbq : v.bool with
    | true =>
      rw [hbq] at c2
      have hv : vOk v = false := by rw [hvk, hbq]; rfl
      refine sxl_y (wn_none rfl) rfl rfl (yp rfl) ?_
      refine sxl_nil ?_
      refine qx_seq ?_
      refine sx_seq ?_
      refine sx_seq ?_
      refine sx_region ?_
      refine sxl_y (wn_none rfl) rfl rfl (yp rfl) ?_
      refine sxl_y (wn_none rfl) rfl rfl (y_load rfl rfl (sc rfl) (by assumption)) ?_
      refine sxl_nil ?_
      refine qx_seq ?_
      refine sx_block ?_
      refine sx_seq ?_
      refine sx_region ?_
      refine sxl_y (wn_none rfl) rfl rfl (y_eql_t rfl rfl rfl (by omega)) ?_
      refine sxl_y (wn_none rfl) rfl rfl (yp rfl) ?_
      refine sxl_nil ?_
      refine qx_seq ?_
      refine sx_true rfl ?_
      refine sx_seq ?_
      refine sx_region ?_
      refine sxl_y (wn_none rfl) rfl rfl (yp rfl) ?_
      refine sxl_y (wn_none rfl) rfl rfl (y_load rfl rfl (sc rfl) (by assumption)) ?_
      refine sxl_y (wn_none rfl) rfl rfl (yp rfl) ?_
      refine sxl_y (wn_none rfl) rfl rfl (yp rfl) ?_
      refine sxl_off rfl rfl rfl rfl rfl rfl ?_
      refine sxl_off rfl rfl rfl rfl rfl rfl ?_
      refine sxl_off rfl rfl rfl rfl rfl rfl ?_
      refine sxl_y (wn_none rfl) rfl rfl (yp rfl) ?_
      refine sxl_nil ?_
      refine qx_seq ?_
      refine sx_false rfl ?_
      refine sx_skip ?_
      refine qx_block_normal ?_
      refine qx_seq ?_
      refine sx_seq ?_
      refine sx_region ?_
      refine sxl_y (wn_none rfl) rfl rfl (yp rfl) ?_
      refine sxl_nil ?_
      refine qx_seq ?_
      refine sx_ret ?_
      refine qx_ret1 rfl rfl ?_
      exact ⟨by rw [chk_f hv], hf⟩
    | false =>
      rw [hbq] at c2
      have hv : vOk v = decide (v.text = []) := by rw [hvk, hbq]; rfl
      refine sxl_y (wn_none rfl) rfl rfl (yp rfl) ?_
      refine sxl_nil ?_
      refine qx_seq ?_
      refine sx_seq ?_
      refine sx_seq ?_
      refine sx_region ?_
      refine sxl_y (wn_none rfl) rfl rfl (yp rfl) ?_
      refine sxl_y (wn_none rfl) rfl rfl (y_load rfl rfl (sc rfl) (by assumption)) ?_
      refine sxl_nil ?_
      refine qx_seq ?_
      refine sx_block ?_
      refine sx_seq ?_
      refine sx_region ?_
      refine sxl_y (wn_none rfl) rfl rfl (y_eql_t rfl rfl rfl (by omega)) ?_
      refine sxl_y (wn_none rfl) rfl rfl (yp rfl) ?_
      refine sxl_nil ?_
      refine qx_seq ?_
      refine sx_true rfl ?_
      refine sx_seq ?_
      refine sx_region ?_
      refine sxl_y (wn_none rfl) rfl rfl (yp rfl) ?_
      refine sxl_y (wn_none rfl) rfl rfl (y_load rfl rfl (sc rfl) (by assumption)) ?_
      refine sxl_y (wn_none rfl) rfl rfl (yp rfl) ?_
      refine sxl_y (wn_none rfl) rfl rfl (yp rfl) ?_
      refine sxl_y (wn_on rfl rfl rfl) rfl rfl (yp rfl) ?_
      refine sxl_y (wn_on rfl rfl rfl) rfl rfl (y_load rfl rfl (sc rfl) (by assumption)) ?_
      refine sxl_y (wn_on rfl rfl rfl) rfl rfl (y_seql (b := []) rfl rfl rfl) ?_
      refine sxl_y (wn_none rfl) rfl rfl (yp rfl) ?_
      refine sxl_nil ?_
      refine qx_seq ?_
      rw [← hv]
      cases hq : vOk v with
      | true =>
        refine sx_true rfl ?_
        refine sx_seq ?_
        refine sx_region ?_
        refine sxl_y (wn_none rfl) rfl rfl (yp rfl) ?_
        refine sxl_nil ?_
        refine qx_seq ?_
        refine sx_ret ?_
        refine qx_block_ret ?_
        refine qx_then_ret ?_
        refine qx_ret1 rfl rfl ?_
        exact ⟨by rw [chk_t hq], hf⟩
      | false =>
        refine sx_false rfl ?_
        refine sx_skip ?_
        refine qx_block_normal ?_
        refine qx_seq ?_
        refine sx_seq ?_
        refine sx_region ?_
        refine sxl_y (wn_none rfl) rfl rfl (yp rfl) ?_
        refine sxl_nil ?_
        refine qx_seq ?_
        refine sx_ret ?_
        refine qx_ret1 rfl rfl ?_
        exact ⟨by rw [chk_f hq], hf⟩
  by_cases k2 : v.kind = 2
  · have k1' : (v.kind.toNat : Int) ≠ 1 := by rw [k2]; decide
    have k2' : (v.kind.toNat : Int) = 2 := by rw [k2]; rfl
    have hvk : vOk v = (decide (v.int = 0) && decide (v.text = [])) := by unfold vOk; rw [if_neg k1, if_pos k2]
    by_cases hi : v.int = 0
    · have hv : vOk v = decide (v.text = []) := by rw [hvk]; simp [hi]
      refine sxl_y (wn_none rfl) rfl rfl (yp rfl) ?_
      refine sxl_nil ?_
      refine qx_seq ?_
      refine sx_seq ?_
      refine sx_seq ?_
      refine sx_region ?_
      refine sxl_y (wn_none rfl) rfl rfl (yp rfl) ?_
      refine sxl_y (wn_none rfl) rfl rfl (y_load rfl rfl (sc rfl) (by assumption)) ?_
      refine sxl_nil ?_
      refine qx_seq ?_
      refine sx_block ?_
      refine sx_seq ?_
      refine sx_region ?_
      refine sxl_y (wn_none rfl) rfl rfl (y_eql_f rfl rfl rfl (by omega)) ?_
      refine sxl_y (wn_none rfl) rfl rfl (yp rfl) ?_
      refine sxl_nil ?_
      refine qx_seq ?_
      refine sx_false rfl ?_
      refine sx_seq ?_
      refine sx_region ?_
      refine sxl_y (wn_none rfl) rfl rfl (y_eql_t rfl rfl rfl (by omega)) ?_
      refine sxl_y (wn_none rfl) rfl rfl (yp rfl) ?_
      refine sxl_nil ?_
      refine qx_seq ?_
      refine sx_true rfl ?_
      refine sx_seq ?_
      refine sx_region ?_
      refine sxl_y (wn_none rfl) rfl rfl (yp rfl) ?_
      refine sxl_y (wn_none rfl) rfl rfl (y_load rfl rfl (sc rfl) (by assumption)) ?_
      refine sxl_y (wn_none rfl) rfl rfl (y_eql_t rfl rfl rfl (by omega)) ?_
      refine sxl_y (wn_none rfl) rfl rfl (yp rfl) ?_
      refine sxl_y (wn_on rfl rfl rfl) rfl rfl (yp rfl) ?_
      refine sxl_y (wn_on rfl rfl rfl) rfl rfl (y_load rfl rfl (sc rfl) (by assumption)) ?_
      refine sxl_y (wn_on rfl rfl rfl) rfl rfl (y_seql (b := []) rfl rfl rfl) ?_
      refine sxl_y (wn_none rfl) rfl rfl (yp rfl) ?_
      refine sxl_nil ?_
      refine qx_seq ?_
      rw [← hv]
      cases hq : vOk v with
      | true =>
        refine sx_true rfl ?_
        refine sx_seq ?_
        refine sx_region ?_
        refine sxl_y (wn_none rfl) rfl rfl (yp rfl) ?_
        refine sxl_nil ?_
        refine qx_seq ?_
        refine sx_ret ?_
        refine qx_block_ret ?_
        refine qx_then_ret ?_
        refine qx_ret1 rfl rfl ?_
        exact ⟨by rw [chk_t hq], hf⟩
      | false =>
        refine sx_false rfl ?_
        refine sx_skip ?_
        refine qx_block_normal ?_
        refine qx_seq ?_
        refine sx_seq ?_
        refine sx_region ?_
        refine sxl_y (wn_none rfl) rfl rfl (yp rfl) ?_
        refine sxl_nil ?_
        refine qx_seq ?_
        refine sx_ret ?_
        refine qx_ret1 rfl rfl ?_
        exact ⟨by rw [chk_f hq], hf⟩
    · have hv : vOk v = false := by rw [hvk]; simp [hi]
      refine sxl_y (wn_none rfl) rfl rfl (yp rfl) ?_
      refine sxl_nil ?_
      refine qx_seq ?_
      refine sx_seq ?_
      refine sx_seq ?_
      refine sx_region ?_
      refine sxl_y (wn_none rfl) rfl rfl (yp rfl) ?_
      refine sxl_y (wn_none rfl) rfl rfl (y_load rfl rfl (sc rfl) (by assumption)) ?_
      refine sxl_nil ?_
      refine qx_seq ?_
      refine sx_block ?_
      refine sx_seq ?_
      refine sx_region ?_
      refine sxl_y (wn_none rfl) rfl rfl (y_eql_f rfl rfl rfl (by omega)) ?_
      refine sxl_y (wn_none rfl) rfl rfl (yp rfl) ?_
      refine sxl_nil ?_
      refine qx_seq ?_
      refine sx_false rfl ?_
      refine sx_seq ?_
      refine sx_region ?_
      refine sxl_y (wn_none rfl) rfl rfl (y_eql_t rfl rfl rfl (by omega)) ?_
      refine sxl_y (wn_none rfl) rfl rfl (yp rfl) ?_
      refine sxl_nil ?_
      refine qx_seq ?_
      refine sx_true rfl ?_
      refine sx_seq ?_
      refine sx_region ?_
      refine sxl_y (wn_none rfl) rfl rfl (yp rfl) ?_
      refine sxl_y (wn_none rfl) rfl rfl (y_load rfl rfl (sc rfl) (by assumption)) ?_
      refine sxl_y (wn_none rfl) rfl rfl (y_eql_f rfl rfl rfl (by omega)) ?_
      refine sxl_y (wn_none rfl) rfl rfl (yp rfl) ?_
      refine sxl_off rfl rfl rfl rfl rfl rfl ?_
      refine sxl_off rfl rfl rfl rfl rfl rfl ?_
      refine sxl_off rfl rfl rfl rfl rfl rfl ?_
      refine sxl_y (wn_none rfl) rfl rfl (yp rfl) ?_
      refine sxl_nil ?_
      refine qx_seq ?_
      refine sx_false rfl ?_
      refine sx_skip ?_
      refine qx_block_normal ?_
      refine qx_seq ?_
      refine sx_seq ?_
      refine sx_region ?_
      refine sxl_y (wn_none rfl) rfl rfl (yp rfl) ?_
      refine sxl_nil ?_
      refine qx_seq ?_
      refine sx_ret ?_
      refine qx_ret1 rfl rfl ?_
      exact ⟨by rw [chk_f hv], hf⟩
  have k1' : (v.kind.toNat : Int) ≠ 1 := kind_ne (n := 1) k1
  have k2' : (v.kind.toNat : Int) ≠ 2 := kind_ne (n := 2) k2
  by_cases k3 : v.kind = 3
  · have k3' : (v.kind.toNat : Int) = 3 := by rw [k3]; rfl
    have hvk : vOk v = (decide (v.int = 0) && (!v.bool && (decide (v.text.length ≤ 1024) && utf v.text))) := by unfold vOk; rw [if_neg k1, if_neg k2, if_pos k3]
    by_cases hi : v.int = 0
    · cases hbq : v.bool with
      | true =>
        rw [hbq] at c2
        have hv : vOk v = false := by rw [hvk, hbq]; simp
        refine sxl_y (wn_none rfl) rfl rfl (yp rfl) ?_
        refine sxl_nil ?_
        refine qx_seq ?_
        refine sx_seq ?_
        refine sx_seq ?_
        refine sx_region ?_
        refine sxl_y (wn_none rfl) rfl rfl (yp rfl) ?_
        refine sxl_y (wn_none rfl) rfl rfl (y_load rfl rfl (sc rfl) (by assumption)) ?_
        refine sxl_nil ?_
        refine qx_seq ?_
        refine sx_block ?_
        refine sx_seq ?_
        refine sx_region ?_
        refine sxl_y (wn_none rfl) rfl rfl (y_eql_f rfl rfl rfl (by omega)) ?_
        refine sxl_y (wn_none rfl) rfl rfl (yp rfl) ?_
        refine sxl_nil ?_
        refine qx_seq ?_
        refine sx_false rfl ?_
        refine sx_seq ?_
        refine sx_region ?_
        refine sxl_y (wn_none rfl) rfl rfl (y_eql_f rfl rfl rfl (by omega)) ?_
        refine sxl_y (wn_none rfl) rfl rfl (yp rfl) ?_
        refine sxl_nil ?_
        refine qx_seq ?_
        refine sx_false rfl ?_
        refine sx_seq ?_
        refine sx_region ?_
        refine sxl_y (wn_none rfl) rfl rfl (y_eql_t rfl rfl rfl (by omega)) ?_
        refine sxl_y (wn_none rfl) rfl rfl (yp rfl) ?_
        refine sxl_nil ?_
        refine qx_seq ?_
        refine sx_true rfl ?_
        refine sx_seq ?_
        refine sx_region ?_
        refine sxl_y (wn_none rfl) rfl rfl (yp rfl) ?_
        refine sxl_y (wn_none rfl) rfl rfl (y_load rfl rfl (sc rfl) (by assumption)) ?_
        refine sxl_y (wn_none rfl) rfl rfl (y_eql_t rfl rfl rfl (by omega)) ?_
        refine sxl_y (wn_none rfl) rfl rfl (yp rfl) ?_
        refine sxl_y (wn_on rfl rfl rfl) rfl rfl (yp rfl) ?_
        refine sxl_y (wn_on rfl rfl rfl) rfl rfl (y_load rfl rfl (sc rfl) (by assumption)) ?_
        refine sxl_y (wn_on rfl rfl rfl) rfl rfl (yp rfl) ?_
        refine sxl_y (wn_none rfl) rfl rfl (yp rfl) ?_
        refine sxl_y (wn_none rfl) rfl rfl (yp rfl) ?_
        refine sxl_off rfl rfl rfl rfl rfl rfl ?_
        refine sxl_off rfl rfl rfl rfl rfl rfl ?_
        refine sxl_off rfl rfl rfl rfl rfl rfl ?_
        refine sxl_off rfl rfl rfl rfl rfl rfl ?_
        refine sxl_y (wn_none rfl) rfl rfl (yp rfl) ?_
        refine sxl_y (wn_none rfl) rfl rfl (yp rfl) ?_
        refine sxl_off rfl rfl rfl rfl rfl rfl ?_
        refine sxl_off rfl rfl rfl rfl rfl rfl ?_
        refine sxl_off rfl rfl rfl rfl rfl rfl ?_
        refine sxl_y (wn_none rfl) rfl rfl (yp rfl) ?_
        refine sxl_nil ?_
        refine qx_seq ?_
        refine sx_false rfl ?_
        refine sx_skip ?_
        refine qx_block_normal ?_
        refine qx_seq ?_
        refine sx_seq ?_
        refine sx_region ?_
        refine sxl_y (wn_none rfl) rfl rfl (yp rfl) ?_
        refine sxl_nil ?_
        refine qx_seq ?_
        refine sx_ret ?_
        refine qx_ret1 rfl rfl ?_
        exact ⟨by rw [chk_f hv], hf⟩
      | false =>
        rw [hbq] at c2
        by_cases hl : v.text.length ≤ 1024
        · have hv : vOk v = utf v.text := by rw [hvk, hbq]; simp [hi, hl]
          refine sxl_y (wn_none rfl) rfl rfl (yp rfl) ?_
          refine sxl_nil ?_
          refine qx_seq ?_
          refine sx_seq ?_
          refine sx_seq ?_
          refine sx_region ?_
          refine sxl_y (wn_none rfl) rfl rfl (yp rfl) ?_
          refine sxl_y (wn_none rfl) rfl rfl (y_load rfl rfl (sc rfl) (by assumption)) ?_
          refine sxl_nil ?_
          refine qx_seq ?_
          refine sx_block ?_
          refine sx_seq ?_
          refine sx_region ?_
          refine sxl_y (wn_none rfl) rfl rfl (y_eql_f rfl rfl rfl (by omega)) ?_
          refine sxl_y (wn_none rfl) rfl rfl (yp rfl) ?_
          refine sxl_nil ?_
          refine qx_seq ?_
          refine sx_false rfl ?_
          refine sx_seq ?_
          refine sx_region ?_
          refine sxl_y (wn_none rfl) rfl rfl (y_eql_f rfl rfl rfl (by omega)) ?_
          refine sxl_y (wn_none rfl) rfl rfl (yp rfl) ?_
          refine sxl_nil ?_
          refine qx_seq ?_
          refine sx_false rfl ?_
          refine sx_seq ?_
          refine sx_region ?_
          refine sxl_y (wn_none rfl) rfl rfl (y_eql_t rfl rfl rfl (by omega)) ?_
          refine sxl_y (wn_none rfl) rfl rfl (yp rfl) ?_
          refine sxl_nil ?_
          refine qx_seq ?_
          refine sx_true rfl ?_
          refine sx_seq ?_
          refine sx_region ?_
          refine sxl_y (wn_none rfl) rfl rfl (yp rfl) ?_
          refine sxl_y (wn_none rfl) rfl rfl (y_load rfl rfl (sc rfl) (by assumption)) ?_
          refine sxl_y (wn_none rfl) rfl rfl (y_eql_t rfl rfl rfl (by omega)) ?_
          refine sxl_y (wn_none rfl) rfl rfl (yp rfl) ?_
          refine sxl_y (wn_on rfl rfl rfl) rfl rfl (yp rfl) ?_
          refine sxl_y (wn_on rfl rfl rfl) rfl rfl (y_load rfl rfl (sc rfl) (by assumption)) ?_
          refine sxl_y (wn_on rfl rfl rfl) rfl rfl (yp rfl) ?_
          refine sxl_y (wn_none rfl) rfl rfl (yp rfl) ?_
          refine sxl_y (wn_none rfl) rfl rfl (yp rfl) ?_
          refine sxl_y (wn_on rfl rfl rfl) rfl rfl (yp rfl) ?_
          refine sxl_y (wn_on rfl rfl rfl) rfl rfl (y_load rfl rfl (sc rfl) (by assumption)) ?_
          refine sxl_y (wn_on rfl rfl rfl) rfl rfl (y_slen rfl rfl Tryd.underlying9) ?_
          refine sxl_y (wn_on rfl rfl rfl) rfl rfl (y_leq_t rfl rfl rfl (by omega)) ?_
          refine sxl_y (wn_none rfl) rfl rfl (yp rfl) ?_
          refine sxl_y (wn_none rfl) rfl rfl (yp rfl) ?_
          refine sxl_y (wn_on rfl rfl rfl) rfl rfl (yp rfl) ?_
          refine sxl_y (wn_on rfl rfl rfl) rfl rfl (y_load rfl rfl (sc rfl) (by assumption)) ?_
          refine sxl_call (some 44) (by first | exact wn_none rfl | exact wn_on rfl rfl rfl) rfl rfl (yc_call rfl rfl Tryd.call20) (utf8Ref_ok v.text _ hm) ?_
          rintro _ w3 ⟨rfl, hf3⟩
          refine ⟨_, rfl, ?_⟩
          rw [← hv]
          refine sxl_y (wn_none rfl) rfl rfl (yp rfl) ?_
          refine sxl_nil ?_
          refine qx_seq ?_
          cases hq : vOk v with
          | true =>
            refine sx_true rfl ?_
            refine sx_seq ?_
            refine sx_region ?_
            refine sxl_y (wn_none rfl) rfl rfl (yp rfl) ?_
            refine sxl_nil ?_
            refine qx_seq ?_
            refine sx_ret ?_
            refine qx_block_ret ?_
            refine qx_then_ret ?_
            refine qx_ret1 rfl rfl ?_
            exact ⟨by rw [chk_t hq], hf.trans hf3⟩
          | false =>
            refine sx_false rfl ?_
            refine sx_skip ?_
            refine qx_block_normal ?_
            refine qx_seq ?_
            refine sx_seq ?_
            refine sx_region ?_
            refine sxl_y (wn_none rfl) rfl rfl (yp rfl) ?_
            refine sxl_nil ?_
            refine qx_seq ?_
            refine sx_ret ?_
            refine qx_ret1 rfl rfl ?_
            exact ⟨by rw [chk_f hq], hf.trans hf3⟩
        · have hv : vOk v = false := by rw [hvk]; simp [hl]
          refine sxl_y (wn_none rfl) rfl rfl (yp rfl) ?_
          refine sxl_nil ?_
          refine qx_seq ?_
          refine sx_seq ?_
          refine sx_seq ?_
          refine sx_region ?_
          refine sxl_y (wn_none rfl) rfl rfl (yp rfl) ?_
          refine sxl_y (wn_none rfl) rfl rfl (y_load rfl rfl (sc rfl) (by assumption)) ?_
          refine sxl_nil ?_
          refine qx_seq ?_
          refine sx_block ?_
          refine sx_seq ?_
          refine sx_region ?_
          refine sxl_y (wn_none rfl) rfl rfl (y_eql_f rfl rfl rfl (by omega)) ?_
          refine sxl_y (wn_none rfl) rfl rfl (yp rfl) ?_
          refine sxl_nil ?_
          refine qx_seq ?_
          refine sx_false rfl ?_
          refine sx_seq ?_
          refine sx_region ?_
          refine sxl_y (wn_none rfl) rfl rfl (y_eql_f rfl rfl rfl (by omega)) ?_
          refine sxl_y (wn_none rfl) rfl rfl (yp rfl) ?_
          refine sxl_nil ?_
          refine qx_seq ?_
          refine sx_false rfl ?_
          refine sx_seq ?_
          refine sx_region ?_
          refine sxl_y (wn_none rfl) rfl rfl (y_eql_t rfl rfl rfl (by omega)) ?_
          refine sxl_y (wn_none rfl) rfl rfl (yp rfl) ?_
          refine sxl_nil ?_
          refine qx_seq ?_
          refine sx_true rfl ?_
          refine sx_seq ?_
          refine sx_region ?_
          refine sxl_y (wn_none rfl) rfl rfl (yp rfl) ?_
          refine sxl_y (wn_none rfl) rfl rfl (y_load rfl rfl (sc rfl) (by assumption)) ?_
          refine sxl_y (wn_none rfl) rfl rfl (y_eql_t rfl rfl rfl (by omega)) ?_
          refine sxl_y (wn_none rfl) rfl rfl (yp rfl) ?_
          refine sxl_y (wn_on rfl rfl rfl) rfl rfl (yp rfl) ?_
          refine sxl_y (wn_on rfl rfl rfl) rfl rfl (y_load rfl rfl (sc rfl) (by assumption)) ?_
          refine sxl_y (wn_on rfl rfl rfl) rfl rfl (yp rfl) ?_
          refine sxl_y (wn_none rfl) rfl rfl (yp rfl) ?_
          refine sxl_y (wn_none rfl) rfl rfl (yp rfl) ?_
          refine sxl_y (wn_on rfl rfl rfl) rfl rfl (yp rfl) ?_
          refine sxl_y (wn_on rfl rfl rfl) rfl rfl (y_load rfl rfl (sc rfl) (by assumption)) ?_
          refine sxl_y (wn_on rfl rfl rfl) rfl rfl (y_slen rfl rfl Tryd.underlying9) ?_
          refine sxl_y (wn_on rfl rfl rfl) rfl rfl (y_leq_f rfl rfl rfl (by omega)) ?_
          refine sxl_y (wn_none rfl) rfl rfl (yp rfl) ?_
          refine sxl_y (wn_none rfl) rfl rfl (yp rfl) ?_
          refine sxl_off rfl rfl rfl rfl rfl rfl ?_
          refine sxl_off rfl rfl rfl rfl rfl rfl ?_
          refine sxl_off rfl rfl rfl rfl rfl rfl ?_
          refine sxl_y (wn_none rfl) rfl rfl (yp rfl) ?_
          refine sxl_nil ?_
          refine qx_seq ?_
          refine sx_false rfl ?_
          refine sx_skip ?_
          refine qx_block_normal ?_
          refine qx_seq ?_
          refine sx_seq ?_
          refine sx_region ?_
          refine sxl_y (wn_none rfl) rfl rfl (yp rfl) ?_
          refine sxl_nil ?_
          refine qx_seq ?_
          refine sx_ret ?_
          refine qx_ret1 rfl rfl ?_
          exact ⟨by rw [chk_f hv], hf⟩
    · have hv : vOk v = false := by rw [hvk]; simp [hi]
      refine sxl_y (wn_none rfl) rfl rfl (yp rfl) ?_
      refine sxl_nil ?_
      refine qx_seq ?_
      refine sx_seq ?_
      refine sx_seq ?_
      refine sx_region ?_
      refine sxl_y (wn_none rfl) rfl rfl (yp rfl) ?_
      refine sxl_y (wn_none rfl) rfl rfl (y_load rfl rfl (sc rfl) (by assumption)) ?_
      refine sxl_nil ?_
      refine qx_seq ?_
      refine sx_block ?_
      refine sx_seq ?_
      refine sx_region ?_
      refine sxl_y (wn_none rfl) rfl rfl (y_eql_f rfl rfl rfl (by omega)) ?_
      refine sxl_y (wn_none rfl) rfl rfl (yp rfl) ?_
      refine sxl_nil ?_
      refine qx_seq ?_
      refine sx_false rfl ?_
      refine sx_seq ?_
      refine sx_region ?_
      refine sxl_y (wn_none rfl) rfl rfl (y_eql_f rfl rfl rfl (by omega)) ?_
      refine sxl_y (wn_none rfl) rfl rfl (yp rfl) ?_
      refine sxl_nil ?_
      refine qx_seq ?_
      refine sx_false rfl ?_
      refine sx_seq ?_
      refine sx_region ?_
      refine sxl_y (wn_none rfl) rfl rfl (y_eql_t rfl rfl rfl (by omega)) ?_
      refine sxl_y (wn_none rfl) rfl rfl (yp rfl) ?_
      refine sxl_nil ?_
      refine qx_seq ?_
      refine sx_true rfl ?_
      refine sx_seq ?_
      refine sx_region ?_
      refine sxl_y (wn_none rfl) rfl rfl (yp rfl) ?_
      refine sxl_y (wn_none rfl) rfl rfl (y_load rfl rfl (sc rfl) (by assumption)) ?_
      refine sxl_y (wn_none rfl) rfl rfl (y_eql_f rfl rfl rfl (by omega)) ?_
      refine sxl_y (wn_none rfl) rfl rfl (yp rfl) ?_
      refine sxl_off rfl rfl rfl rfl rfl rfl ?_
      refine sxl_off rfl rfl rfl rfl rfl rfl ?_
      refine sxl_off rfl rfl rfl rfl rfl rfl ?_
      refine sxl_y (wn_none rfl) rfl rfl (yp rfl) ?_
      refine sxl_y (wn_none rfl) rfl rfl (yp rfl) ?_
      refine sxl_off rfl rfl rfl rfl rfl rfl ?_
      refine sxl_off rfl rfl rfl rfl rfl rfl ?_
      refine sxl_off rfl rfl rfl rfl rfl rfl ?_
      refine sxl_off rfl rfl rfl rfl rfl rfl ?_
      refine sxl_y (wn_none rfl) rfl rfl (yp rfl) ?_
      refine sxl_y (wn_none rfl) rfl rfl (yp rfl) ?_
      refine sxl_off rfl rfl rfl rfl rfl rfl ?_
      refine sxl_off rfl rfl rfl rfl rfl rfl ?_
      refine sxl_off rfl rfl rfl rfl rfl rfl ?_
      refine sxl_y (wn_none rfl) rfl rfl (yp rfl) ?_
      refine sxl_nil ?_
      refine qx_seq ?_
      refine sx_false rfl ?_
      refine sx_skip ?_
      refine qx_block_normal ?_
      refine qx_seq ?_
      refine sx_seq ?_
      refine sx_region ?_
      refine sxl_y (wn_none rfl) rfl rfl (yp rfl) ?_
      refine sxl_nil ?_
      refine qx_seq ?_
      refine sx_ret ?_
      refine qx_ret1 rfl rfl ?_
      exact ⟨by rw [chk_f hv], hf⟩
  · have k3' : (v.kind.toNat : Int) ≠ 3 := kind_ne (n := 3) k3
    have hv : vOk v = false := by unfold vOk; rw [if_neg k1, if_neg k2, if_neg k3]
    refine sxl_y (wn_none rfl) rfl rfl (yp rfl) ?_
    refine sxl_nil ?_
    refine qx_seq ?_
    refine sx_seq ?_
    refine sx_seq ?_
    refine sx_region ?_
    refine sxl_y (wn_none rfl) rfl rfl (yp rfl) ?_
    refine sxl_y (wn_none rfl) rfl rfl (y_load rfl rfl (sc rfl) (by assumption)) ?_
    refine sxl_nil ?_
    refine qx_seq ?_
    refine sx_block ?_
    refine sx_seq ?_
    refine sx_region ?_
    refine sxl_y (wn_none rfl) rfl rfl (y_eql_f rfl rfl rfl (by omega)) ?_
    refine sxl_y (wn_none rfl) rfl rfl (yp rfl) ?_
    refine sxl_nil ?_
    refine qx_seq ?_
    refine sx_false rfl ?_
    refine sx_seq ?_
    refine sx_region ?_
    refine sxl_y (wn_none rfl) rfl rfl (y_eql_f rfl rfl rfl (by omega)) ?_
    refine sxl_y (wn_none rfl) rfl rfl (yp rfl) ?_
    refine sxl_nil ?_
    refine qx_seq ?_
    refine sx_false rfl ?_
    refine sx_seq ?_
    refine sx_region ?_
    refine sxl_y (wn_none rfl) rfl rfl (y_eql_f rfl rfl rfl (by omega)) ?_
    refine sxl_y (wn_none rfl) rfl rfl (yp rfl) ?_
    refine sxl_nil ?_
    refine qx_seq ?_
    refine sx_false rfl ?_
    refine sx_skip ?_
    refine qx_block_normal ?_
    refine qx_seq ?_
    refine sx_seq ?_
    refine sx_region ?_
    refine sxl_y (wn_none rfl) rfl rfl (yp rfl) ?_
    refine sxl_nil ?_
    refine qx_seq ?_
    refine sx_ret ?_
    refine qx_ret1 rfl rfl ?_
    exact ⟨by rw [chk_f hv], hf⟩
end Go.Proofs.YtklciidffdnglaaDoor
