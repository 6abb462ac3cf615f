/- MailFits: names. -/
import Derived.Test.YtklciidffdnglaaDoorStrOps
import Derived.Test.YtklciidffdnglaaDoorTab
namespace Go.Proofs.YtklciidffdnglaaDoor
open Go.RowKit

def letter (c : UInt8) : Bool := (97 ≤ c.toNat && c.toNat ≤ 122) || (65 ≤ c.toNat && c.toNat ≤ 90)
def other (c : UInt8) : Bool := (48 ≤ c.toNat && c.toNat ≤ 57) || c.toNat == 45 || c.toNat == 95 || c.toNat == 46
def nameFrom : Nat → List UInt8 → Bool
  | _, [] => true
  | i, c :: l => (letter c || (other c && i != 0)) && nameFrom (i + 1) l
def nameOk (l : List UInt8) : Bool := decide (1 ≤ l.length) && decide (l.length ≤ 32) && nameFrom 0 l
/-- The kinds of a byte. -/
theorem kinds (c : Nat) (h : c < 256) : c ≤ 44 ∨ c = 45 ∨ c = 46 ∨ c = 47 ∨ (48 ≤ c ∧ c ≤ 57) ∨ (58 ≤ c ∧ c ≤ 64) ∨ (65 ≤ c ∧ c ≤ 90) ∨ (91 ≤ c ∧ c ≤ 94) ∨ c = 95 ∨ c = 96 ∨ (97 ≤ c ∧ c ≤ 122) ∨ (123 ≤ c) := by omega
set_option maxHeartbeats 8000000 in
theorem refName_ok (l : List UInt8) (w : World) (hm : (l.length : Int) < 9223372036854775807) : Calls Tryd.prog 13 #[str l] w fun e w' => e = .returned (.bool (nameOk l)) ∧ w = w' := by
  refine sx_enter (vs := [_]) Tryd.func13 rfl Tryd.ntmps13 rfl ?_
  by_cases h0 : l.length < 1
  · refine sx_seq ?_
    refine sx_region ?_
    refine sxl_y (wn_none rfl) rfl rfl (yp rfl) ?_
    refine sxl_nil ?_
    refine qx_seq ?_
    refine sx_seq ?_
    refine sx_seq ?_
    refine sx_region ?_
    refine sxl_y (wn_none rfl) rfl rfl (yp rfl) ?_
    refine sxl_y (wn_none rfl) rfl rfl (y_slen rfl rfl Tryd.underlying9) ?_
    refine sxl_y (wn_none rfl) rfl rfl (y_lss_t rfl rfl rfl (by omega)) ?_
    refine sxl_y (wn_none rfl) rfl rfl (yp rfl) ?_
    refine sxl_off rfl rfl rfl rfl rfl rfl ?_
    refine sxl_off rfl rfl rfl rfl rfl rfl ?_
    refine sxl_off rfl rfl rfl rfl rfl rfl ?_
    refine sxl_y (wn_none rfl) rfl rfl (yp rfl) ?_
    refine sxl_nil ?_
    refine qx_seq ?_
    refine sx_true rfl ?_
    refine sx_seq ?_
    refine sx_region ?_
    refine sxl_y (wn_none rfl) rfl rfl (yp rfl) ?_
    refine sxl_nil ?_
    refine qx_seq ?_
    refine sx_ret ?_
    refine qx_then_ret ?_
    refine qx_ret1 rfl rfl ?_
    exact ⟨by simp [nameOk, show ¬ 1 ≤ l.length by omega], rfl⟩
  by_cases h1 : 32 < l.length
  · refine sx_seq ?_
    refine sx_region ?_
    refine sxl_y (wn_none rfl) rfl rfl (yp rfl) ?_
    refine sxl_nil ?_
    refine qx_seq ?_
    refine sx_seq ?_
    refine sx_seq ?_
    refine sx_region ?_
    refine sxl_y (wn_none rfl) rfl rfl (yp rfl) ?_
    refine sxl_y (wn_none rfl) rfl rfl (y_slen rfl rfl Tryd.underlying9) ?_
    refine sxl_y (wn_none rfl) rfl rfl (y_lss_f rfl rfl rfl (by omega)) ?_
    refine sxl_y (wn_none rfl) rfl rfl (yp rfl) ?_
    refine sxl_y (wn_on rfl rfl rfl) rfl rfl (yp rfl) ?_
    refine sxl_y (wn_on rfl rfl rfl) rfl rfl (y_slen rfl rfl Tryd.underlying9) ?_
    refine sxl_y (wn_on rfl rfl rfl) rfl rfl (y_gtr_t rfl rfl rfl (by omega)) ?_
    refine sxl_y (wn_none rfl) rfl rfl (yp rfl) ?_
    refine sxl_nil ?_
    refine qx_seq ?_
    refine sx_true rfl ?_
    refine sx_seq ?_
    refine sx_region ?_
    refine sxl_y (wn_none rfl) rfl rfl (yp rfl) ?_
    refine sxl_nil ?_
    refine qx_seq ?_
    refine sx_ret ?_
    refine qx_then_ret ?_
    refine qx_ret1 rfl rfl ?_
    exact ⟨by simp [nameOk, show ¬ l.length ≤ 32 by omega], rfl⟩
  refine sx_seq ?_
  refine sx_region ?_
  refine sxl_y (wn_none rfl) rfl rfl (yp rfl) ?_
  refine sxl_nil ?_
  refine qx_seq ?_
  refine sx_seq ?_
  refine sx_seq ?_
  refine sx_region ?_
  refine sxl_y (wn_none rfl) rfl rfl (yp rfl) ?_
  refine sxl_y (wn_none rfl) rfl rfl (y_slen rfl rfl Tryd.underlying9) ?_
  refine sxl_y (wn_none rfl) rfl rfl (y_lss_f rfl rfl rfl (by omega)) ?_
  refine sxl_y (wn_none rfl) rfl rfl (yp rfl) ?_
  refine sxl_y (wn_on rfl rfl rfl) rfl rfl (yp rfl) ?_
  refine sxl_y (wn_on rfl rfl rfl) rfl rfl (y_slen rfl rfl Tryd.underlying9) ?_
  refine sxl_y (wn_on rfl rfl rfl) rfl rfl (y_gtr_f rfl rfl rfl (by omega)) ?_
  refine sxl_y (wn_none rfl) rfl rfl (yp rfl) ?_
  refine sxl_nil ?_
  refine qx_seq ?_
  refine sx_false rfl ?_
  refine sx_skip ?_
  refine qx_seq ?_
  refine sx_seq ?_
  refine sx_seq ?_
  refine sx_region ?_
  refine sxl_y (wn_none rfl) rfl rfl (yp rfl) ?_
  refine sxl_nil ?_
  refine qx_seq ?_
  refine sx_block ?_
  have hno : nameOk l = nameFrom 0 l := by simp [nameOk, show 1 ≤ l.length by omega, show l.length ≤ 32 by omega]
  refine sx_loop (fun e wr m => ∃ (i : Nat), e = [(3, .int .i64 (i : Int)), (0, str l)] ∧ w = wr ∧ i ≤ l.length ∧ nameFrom 0 l = nameFrom i (l.drop i) ∧ m = l.length - i) ⟨0, rfl, rfl, Nat.zero_le _, rfl, rfl⟩ ⟨rfl, rfl, trivial⟩ ?_
  rintro _ _ _ ⟨i, rfl, rfl, hi, hn, rfl⟩
  by_cases hlt : i < l.length
  · obtain ⟨c, hc⟩ : ∃ c, l[i]? = some c := ⟨_, List.getElem?_eq_getElem hlt⟩
    have hdr : l.drop i = c :: l.drop (i + 1) := by
      rw [List.drop_eq_getElem_cons hlt]
      congr 1
      rw [List.getElem?_eq_getElem hlt] at hc
      exact Option.some.inj hc
    have hstep : nameFrom 0 l = ((letter c || (other c && i != 0)) && nameFrom (i + 1) (l.drop (i + 1))) := by rw [hn, hdr, nameFrom]
    have h256 := c.toNat_lt
    rcases kinds c.toNat h256 with hk | hk | hk | hk | hk | hk | hk | hk | hk | hk | hk | hk
    · have hL : letter c = false := by unfold letter; simp; omega
      have hO : other c = false := by unfold other; simp; omega
      refine sx_seq ?_
      refine sx_seq ?_
      refine sx_region ?_
      refine sxl_y (wn_none rfl) rfl rfl (yp rfl) ?_
      refine sxl_y (wn_none rfl) rfl rfl (yp rfl) ?_
      refine sxl_y (wn_none rfl) rfl rfl (y_slen rfl rfl Tryd.underlying9) ?_
      refine sxl_y (wn_none rfl) rfl rfl (y_lss_t rfl rfl rfl (by omega)) ?_
      refine sxl_nil ?_
      refine qx_seq ?_
      refine sx_true rfl ?_
      refine sx_skip ?_
      refine qx_seq ?_
      refine sx_seq ?_
      refine sx_block ?_
      refine sx_seq ?_
      refine sx_region ?_
      refine sxl_y (wn_none rfl) rfl rfl (yp rfl) ?_
      refine sxl_y (wn_none rfl) rfl rfl (yp rfl) ?_
      refine sxl_y (wn_none rfl) rfl rfl (y_sindex rfl rfl rfl Tryd.underlying9 hc) ?_
      refine sxl_y (wn_none rfl) rfl rfl (yp rfl) ?_
      refine sxl_nil ?_
      refine qx_seq ?_
      refine sx_seq ?_
      refine sx_region ?_
      refine sxl_y (wn_none rfl) rfl rfl (yp rfl) ?_
      refine sxl_y (wn_none rfl) rfl rfl (y_geq_f rfl rfl rfl (by omega)) ?_
      refine sxl_y (wn_none rfl) rfl rfl (yp rfl) ?_
      refine sxl_off rfl rfl rfl rfl rfl rfl ?_
      refine sxl_off rfl rfl rfl rfl rfl rfl ?_
      refine sxl_y (wn_none rfl) rfl rfl (yp rfl) ?_
      refine sxl_y (wn_none rfl) rfl rfl (yp rfl) ?_
      refine sxl_y (wn_on rfl rfl rfl) rfl rfl (yp rfl) ?_
      refine sxl_y (wn_on rfl rfl rfl) rfl rfl (y_geq_f rfl rfl rfl (by omega)) ?_
      refine sxl_y (wn_on rfl rfl rfl) rfl rfl (yp rfl) ?_
      refine sxl_off rfl rfl rfl rfl rfl rfl ?_
      refine sxl_off rfl rfl rfl rfl rfl rfl ?_
      refine sxl_y (wn_on rfl rfl rfl) rfl rfl (yp rfl) ?_
      refine sxl_y (wn_none rfl) rfl rfl (yp rfl) ?_
      refine sxl_y (wn_none rfl) rfl rfl (yp rfl) ?_
      refine sxl_nil ?_
      refine qx_seq ?_
      refine sx_seq ?_
      refine sx_region ?_
      refine sxl_y (wn_none rfl) rfl rfl (yp rfl) ?_
      refine sxl_y (wn_none rfl) rfl rfl (y_geq_f rfl rfl rfl (by omega)) ?_
      refine sxl_y (wn_none rfl) rfl rfl (yp rfl) ?_
      refine sxl_off rfl rfl rfl rfl rfl rfl ?_
      refine sxl_off rfl rfl rfl rfl rfl rfl ?_
      refine sxl_y (wn_none rfl) rfl rfl (yp rfl) ?_
      refine sxl_y (wn_none rfl) rfl rfl (yp rfl) ?_
      refine sxl_y (wn_on rfl rfl rfl) rfl rfl (yp rfl) ?_
      refine sxl_y (wn_on rfl rfl rfl) rfl rfl (y_eql_f rfl rfl rfl (by omega)) ?_
      refine sxl_y (wn_none rfl) rfl rfl (yp rfl) ?_
      refine sxl_y (wn_none rfl) rfl rfl (yp rfl) ?_
      refine sxl_y (wn_on rfl rfl rfl) rfl rfl (yp rfl) ?_
      refine sxl_y (wn_on rfl rfl rfl) rfl rfl (y_eql_f rfl rfl rfl (by omega)) ?_
      refine sxl_y (wn_none rfl) rfl rfl (yp rfl) ?_
      refine sxl_y (wn_none rfl) rfl rfl (yp rfl) ?_
      refine sxl_y (wn_on rfl rfl rfl) rfl rfl (yp rfl) ?_
      refine sxl_y (wn_on rfl rfl rfl) rfl rfl (y_eql_f rfl rfl rfl (by omega)) ?_
      refine sxl_y (wn_none rfl) rfl rfl (yp rfl) ?_
      refine sxl_y (wn_none rfl) rfl rfl (yp rfl) ?_
      refine sxl_nil ?_
      refine qx_seq ?_
      refine sx_seq ?_
      refine sx_region ?_
      refine sxl_y (wn_none rfl) rfl rfl (yp rfl) ?_
      refine sxl_y (wn_none rfl) rfl rfl (yp rfl) ?_
      refine sxl_y (wn_none rfl) rfl rfl (yp rfl) ?_
      refine sxl_y (wn_on rfl rfl rfl) rfl rfl (yp rfl) ?_
      refine sxl_y (wn_on rfl rfl rfl) rfl rfl (yp rfl) ?_
      refine sxl_y (wn_on rfl rfl rfl) rfl rfl (yp rfl) ?_
      refine sxl_off rfl rfl rfl rfl rfl rfl ?_
      refine sxl_off rfl rfl rfl rfl rfl rfl ?_
      refine sxl_y (wn_on rfl rfl rfl) rfl rfl (yp rfl) ?_
      refine sxl_y (wn_none rfl) rfl rfl (yp rfl) ?_
      refine sxl_nil ?_
      refine qx_seq ?_
      refine sx_true rfl ?_
      refine sx_seq ?_
      refine sx_region ?_
      refine sxl_y (wn_none rfl) rfl rfl (yp rfl) ?_
      refine sxl_nil ?_
      refine qx_seq ?_
      refine sx_ret ?_
      refine qx_block_ret ?_
      refine qx_then_ret ?_
      refine qx_then_ret ?_
      refine qx_block_ret ?_
      refine qx_then_ret ?_
      refine qx_ret1 rfl rfl ?_
      exact ⟨by rw [hno, hstep]; simp [hL, hO], rfl⟩
    · have hL : letter c = false := by unfold letter; simp; omega
      have hO : other c = true := by unfold other; simp; omega
      by_cases hi0 : i = 0
      · refine sx_seq ?_
        refine sx_seq ?_
        refine sx_region ?_
        refine sxl_y (wn_none rfl) rfl rfl (yp rfl) ?_
        refine sxl_y (wn_none rfl) rfl rfl (yp rfl) ?_
        refine sxl_y (wn_none rfl) rfl rfl (y_slen rfl rfl Tryd.underlying9) ?_
        refine sxl_y (wn_none rfl) rfl rfl (y_lss_t rfl rfl rfl (by omega)) ?_
        refine sxl_nil ?_
        refine qx_seq ?_
        refine sx_true rfl ?_
        refine sx_skip ?_
        refine qx_seq ?_
        refine sx_seq ?_
        refine sx_block ?_
        refine sx_seq ?_
        refine sx_region ?_
        refine sxl_y (wn_none rfl) rfl rfl (yp rfl) ?_
        refine sxl_y (wn_none rfl) rfl rfl (yp rfl) ?_
        refine sxl_y (wn_none rfl) rfl rfl (y_sindex rfl rfl rfl Tryd.underlying9 hc) ?_
        refine sxl_y (wn_none rfl) rfl rfl (yp rfl) ?_
        refine sxl_nil ?_
        refine qx_seq ?_
        refine sx_seq ?_
        refine sx_region ?_
        refine sxl_y (wn_none rfl) rfl rfl (yp rfl) ?_
        refine sxl_y (wn_none rfl) rfl rfl (y_geq_f rfl rfl rfl (by omega)) ?_
        refine sxl_y (wn_none rfl) rfl rfl (yp rfl) ?_
        refine sxl_off rfl rfl rfl rfl rfl rfl ?_
        refine sxl_off rfl rfl rfl rfl rfl rfl ?_
        refine sxl_y (wn_none rfl) rfl rfl (yp rfl) ?_
        refine sxl_y (wn_none rfl) rfl rfl (yp rfl) ?_
        refine sxl_y (wn_on rfl rfl rfl) rfl rfl (yp rfl) ?_
        refine sxl_y (wn_on rfl rfl rfl) rfl rfl (y_geq_f rfl rfl rfl (by omega)) ?_
        refine sxl_y (wn_on rfl rfl rfl) rfl rfl (yp rfl) ?_
        refine sxl_off rfl rfl rfl rfl rfl rfl ?_
        refine sxl_off rfl rfl rfl rfl rfl rfl ?_
        refine sxl_y (wn_on rfl rfl rfl) rfl rfl (yp rfl) ?_
        refine sxl_y (wn_none rfl) rfl rfl (yp rfl) ?_
        refine sxl_y (wn_none rfl) rfl rfl (yp rfl) ?_
        refine sxl_nil ?_
        refine qx_seq ?_
        refine sx_seq ?_
        refine sx_region ?_
        refine sxl_y (wn_none rfl) rfl rfl (yp rfl) ?_
        refine sxl_y (wn_none rfl) rfl rfl (y_geq_f rfl rfl rfl (by omega)) ?_
        refine sxl_y (wn_none rfl) rfl rfl (yp rfl) ?_
        refine sxl_off rfl rfl rfl rfl rfl rfl ?_
        refine sxl_off rfl rfl rfl rfl rfl rfl ?_
        refine sxl_y (wn_none rfl) rfl rfl (yp rfl) ?_
        refine sxl_y (wn_none rfl) rfl rfl (yp rfl) ?_
        refine sxl_y (wn_on rfl rfl rfl) rfl rfl (yp rfl) ?_
        refine sxl_y (wn_on rfl rfl rfl) rfl rfl (y_eql_t rfl rfl rfl (by omega)) ?_
        refine sxl_y (wn_none rfl) rfl rfl (yp rfl) ?_
        refine sxl_y (wn_none rfl) rfl rfl (yp rfl) ?_
        refine sxl_off rfl rfl rfl rfl rfl rfl ?_
        refine sxl_off rfl rfl rfl rfl rfl rfl ?_
        refine sxl_y (wn_none rfl) rfl rfl (yp rfl) ?_
        refine sxl_y (wn_none rfl) rfl rfl (yp rfl) ?_
        refine sxl_off rfl rfl rfl rfl rfl rfl ?_
        refine sxl_off rfl rfl rfl rfl rfl rfl ?_
        refine sxl_y (wn_none rfl) rfl rfl (yp rfl) ?_
        refine sxl_y (wn_none rfl) rfl rfl (yp rfl) ?_
        refine sxl_nil ?_
        refine qx_seq ?_
        refine sx_seq ?_
        refine sx_region ?_
        refine sxl_y (wn_none rfl) rfl rfl (yp rfl) ?_
        refine sxl_y (wn_none rfl) rfl rfl (yp rfl) ?_
        refine sxl_y (wn_none rfl) rfl rfl (yp rfl) ?_
        refine sxl_y (wn_on rfl rfl rfl) rfl rfl (yp rfl) ?_
        refine sxl_y (wn_on rfl rfl rfl) rfl rfl (yp rfl) ?_
        refine sxl_y (wn_on rfl rfl rfl) rfl rfl (yp rfl) ?_
        refine sxl_y (wn_on rfl rfl rfl) rfl rfl (yp rfl) ?_
        refine sxl_y (wn_on rfl rfl rfl) rfl rfl (y_eql_t rfl rfl rfl (by omega)) ?_
        refine sxl_y (wn_on rfl rfl rfl) rfl rfl (yp rfl) ?_
        refine sxl_y (wn_none rfl) rfl rfl (yp rfl) ?_
        refine sxl_nil ?_
        refine qx_seq ?_
        refine sx_true rfl ?_
        refine sx_seq ?_
        refine sx_region ?_
        refine sxl_y (wn_none rfl) rfl rfl (yp rfl) ?_
        refine sxl_nil ?_
        refine qx_seq ?_
        refine sx_ret ?_
        refine qx_block_ret ?_
        refine qx_then_ret ?_
        refine qx_then_ret ?_
        refine qx_block_ret ?_
        refine qx_then_ret ?_
        refine qx_ret1 rfl rfl ?_
        exact ⟨by rw [hno, hstep]; simp [hL, hO, hi0], rfl⟩
      · refine sx_seq ?_
        refine sx_seq ?_
        refine sx_region ?_
        refine sxl_y (wn_none rfl) rfl rfl (yp rfl) ?_
        refine sxl_y (wn_none rfl) rfl rfl (yp rfl) ?_
        refine sxl_y (wn_none rfl) rfl rfl (y_slen rfl rfl Tryd.underlying9) ?_
        refine sxl_y (wn_none rfl) rfl rfl (y_lss_t rfl rfl rfl (by omega)) ?_
        refine sxl_nil ?_
        refine qx_seq ?_
        refine sx_true rfl ?_
        refine sx_skip ?_
        refine qx_seq ?_
        refine sx_seq ?_
        refine sx_block ?_
        refine sx_seq ?_
        refine sx_region ?_
        refine sxl_y (wn_none rfl) rfl rfl (yp rfl) ?_
        refine sxl_y (wn_none rfl) rfl rfl (yp rfl) ?_
        refine sxl_y (wn_none rfl) rfl rfl (y_sindex rfl rfl rfl Tryd.underlying9 hc) ?_
        refine sxl_y (wn_none rfl) rfl rfl (yp rfl) ?_
        refine sxl_nil ?_
        refine qx_seq ?_
        refine sx_seq ?_
        refine sx_region ?_
        refine sxl_y (wn_none rfl) rfl rfl (yp rfl) ?_
        refine sxl_y (wn_none rfl) rfl rfl (y_geq_f rfl rfl rfl (by omega)) ?_
        refine sxl_y (wn_none rfl) rfl rfl (yp rfl) ?_
        refine sxl_off rfl rfl rfl rfl rfl rfl ?_
        refine sxl_off rfl rfl rfl rfl rfl rfl ?_
        refine sxl_y (wn_none rfl) rfl rfl (yp rfl) ?_
        refine sxl_y (wn_none rfl) rfl rfl (yp rfl) ?_
        refine sxl_y (wn_on rfl rfl rfl) rfl rfl (yp rfl) ?_
        refine sxl_y (wn_on rfl rfl rfl) rfl rfl (y_geq_f rfl rfl rfl (by omega)) ?_
        refine sxl_y (wn_on rfl rfl rfl) rfl rfl (yp rfl) ?_
        refine sxl_off rfl rfl rfl rfl rfl rfl ?_
        refine sxl_off rfl rfl rfl rfl rfl rfl ?_
        refine sxl_y (wn_on rfl rfl rfl) rfl rfl (yp rfl) ?_
        refine sxl_y (wn_none rfl) rfl rfl (yp rfl) ?_
        refine sxl_y (wn_none rfl) rfl rfl (yp rfl) ?_
        refine sxl_nil ?_
        refine qx_seq ?_
        refine sx_seq ?_
        refine sx_region ?_
        refine sxl_y (wn_none rfl) rfl rfl (yp rfl) ?_
        refine sxl_y (wn_none rfl) rfl rfl (y_geq_f rfl rfl rfl (by omega)) ?_
        refine sxl_y (wn_none rfl) rfl rfl (yp rfl) ?_
        refine sxl_off rfl rfl rfl rfl rfl rfl ?_
        refine sxl_off rfl rfl rfl rfl rfl rfl ?_
        refine sxl_y (wn_none rfl) rfl rfl (yp rfl) ?_
        refine sxl_y (wn_none rfl) rfl rfl (yp rfl) ?_
        refine sxl_y (wn_on rfl rfl rfl) rfl rfl (yp rfl) ?_
        refine sxl_y (wn_on rfl rfl rfl) rfl rfl (y_eql_t rfl rfl rfl (by omega)) ?_
        refine sxl_y (wn_none rfl) rfl rfl (yp rfl) ?_
        refine sxl_y (wn_none rfl) rfl rfl (yp rfl) ?_
        refine sxl_off rfl rfl rfl rfl rfl rfl ?_
        refine sxl_off rfl rfl rfl rfl rfl rfl ?_
        refine sxl_y (wn_none rfl) rfl rfl (yp rfl) ?_
        refine sxl_y (wn_none rfl) rfl rfl (yp rfl) ?_
        refine sxl_off rfl rfl rfl rfl rfl rfl ?_
        refine sxl_off rfl rfl rfl rfl rfl rfl ?_
        refine sxl_y (wn_none rfl) rfl rfl (yp rfl) ?_
        refine sxl_y (wn_none rfl) rfl rfl (yp rfl) ?_
        refine sxl_nil ?_
        refine qx_seq ?_
        refine sx_seq ?_
        refine sx_region ?_
        refine sxl_y (wn_none rfl) rfl rfl (yp rfl) ?_
        refine sxl_y (wn_none rfl) rfl rfl (yp rfl) ?_
        refine sxl_y (wn_none rfl) rfl rfl (yp rfl) ?_
        refine sxl_y (wn_on rfl rfl rfl) rfl rfl (yp rfl) ?_
        refine sxl_y (wn_on rfl rfl rfl) rfl rfl (yp rfl) ?_
        refine sxl_y (wn_on rfl rfl rfl) rfl rfl (yp rfl) ?_
        refine sxl_y (wn_on rfl rfl rfl) rfl rfl (yp rfl) ?_
        refine sxl_y (wn_on rfl rfl rfl) rfl rfl (y_eql_f rfl rfl rfl (by omega)) ?_
        refine sxl_y (wn_on rfl rfl rfl) rfl rfl (yp rfl) ?_
        refine sxl_y (wn_none rfl) rfl rfl (yp rfl) ?_
        refine sxl_nil ?_
        refine qx_seq ?_
        refine sx_false rfl ?_
        refine sx_skip ?_
        refine qx_block_normal ?_
        refine qx_seq ?_
        refine sx_region ?_
        refine sxl_y (wn_none rfl) rfl rfl (yp rfl) ?_
        refine sxl_y (wn_none rfl) rfl rfl (y_add rfl rfl rfl (by omega)) ?_
        refine sxl_y (wn_none rfl) rfl rfl (yp rfl) ?_
        refine sxl_nil ?_
        exact qx_again [(3, .int .i64 ((i + 1 : Nat) : Int)), (0, str l)] (l.length - (i + 1)) ⟨i + 1, rfl, rfl, by omega, by rw [hstep]; simp [hL, hO, hi0], rfl⟩ (by omega) ⟨rfl, rfl, trivial⟩
    · have hL : letter c = false := by unfold letter; simp; omega
      have hO : other c = true := by unfold other; simp; omega
      by_cases hi0 : i = 0
      · refine sx_seq ?_
        refine sx_seq ?_
        refine sx_region ?_
        refine sxl_y (wn_none rfl) rfl rfl (yp rfl) ?_
        refine sxl_y (wn_none rfl) rfl rfl (yp rfl) ?_
        refine sxl_y (wn_none rfl) rfl rfl (y_slen rfl rfl Tryd.underlying9) ?_
        refine sxl_y (wn_none rfl) rfl rfl (y_lss_t rfl rfl rfl (by omega)) ?_
        refine sxl_nil ?_
        refine qx_seq ?_
        refine sx_true rfl ?_
        refine sx_skip ?_
        refine qx_seq ?_
        refine sx_seq ?_
        refine sx_block ?_
        refine sx_seq ?_
        refine sx_region ?_
        refine sxl_y (wn_none rfl) rfl rfl (yp rfl) ?_
        refine sxl_y (wn_none rfl) rfl rfl (yp rfl) ?_
        refine sxl_y (wn_none rfl) rfl rfl (y_sindex rfl rfl rfl Tryd.underlying9 hc) ?_
        refine sxl_y (wn_none rfl) rfl rfl (yp rfl) ?_
        refine sxl_nil ?_
        refine qx_seq ?_
        refine sx_seq ?_
        refine sx_region ?_
        refine sxl_y (wn_none rfl) rfl rfl (yp rfl) ?_
        refine sxl_y (wn_none rfl) rfl rfl (y_geq_f rfl rfl rfl (by omega)) ?_
        refine sxl_y (wn_none rfl) rfl rfl (yp rfl) ?_
        refine sxl_off rfl rfl rfl rfl rfl rfl ?_
        refine sxl_off rfl rfl rfl rfl rfl rfl ?_
        refine sxl_y (wn_none rfl) rfl rfl (yp rfl) ?_
        refine sxl_y (wn_none rfl) rfl rfl (yp rfl) ?_
        refine sxl_y (wn_on rfl rfl rfl) rfl rfl (yp rfl) ?_
        refine sxl_y (wn_on rfl rfl rfl) rfl rfl (y_geq_f rfl rfl rfl (by omega)) ?_
        refine sxl_y (wn_on rfl rfl rfl) rfl rfl (yp rfl) ?_
        refine sxl_off rfl rfl rfl rfl rfl rfl ?_
        refine sxl_off rfl rfl rfl rfl rfl rfl ?_
        refine sxl_y (wn_on rfl rfl rfl) rfl rfl (yp rfl) ?_
        refine sxl_y (wn_none rfl) rfl rfl (yp rfl) ?_
        refine sxl_y (wn_none rfl) rfl rfl (yp rfl) ?_
        refine sxl_nil ?_
        refine qx_seq ?_
        refine sx_seq ?_
        refine sx_region ?_
        refine sxl_y (wn_none rfl) rfl rfl (yp rfl) ?_
        refine sxl_y (wn_none rfl) rfl rfl (y_geq_f rfl rfl rfl (by omega)) ?_
        refine sxl_y (wn_none rfl) rfl rfl (yp rfl) ?_
        refine sxl_off rfl rfl rfl rfl rfl rfl ?_
        refine sxl_off rfl rfl rfl rfl rfl rfl ?_
        refine sxl_y (wn_none rfl) rfl rfl (yp rfl) ?_
        refine sxl_y (wn_none rfl) rfl rfl (yp rfl) ?_
        refine sxl_y (wn_on rfl rfl rfl) rfl rfl (yp rfl) ?_
        refine sxl_y (wn_on rfl rfl rfl) rfl rfl (y_eql_f rfl rfl rfl (by omega)) ?_
        refine sxl_y (wn_none rfl) rfl rfl (yp rfl) ?_
        refine sxl_y (wn_none rfl) rfl rfl (yp rfl) ?_
        refine sxl_y (wn_on rfl rfl rfl) rfl rfl (yp rfl) ?_
        refine sxl_y (wn_on rfl rfl rfl) rfl rfl (y_eql_f rfl rfl rfl (by omega)) ?_
        refine sxl_y (wn_none rfl) rfl rfl (yp rfl) ?_
        refine sxl_y (wn_none rfl) rfl rfl (yp rfl) ?_
        refine sxl_y (wn_on rfl rfl rfl) rfl rfl (yp rfl) ?_
        refine sxl_y (wn_on rfl rfl rfl) rfl rfl (y_eql_t rfl rfl rfl (by omega)) ?_
        refine sxl_y (wn_none rfl) rfl rfl (yp rfl) ?_
        refine sxl_y (wn_none rfl) rfl rfl (yp rfl) ?_
        refine sxl_nil ?_
        refine qx_seq ?_
        refine sx_seq ?_
        refine sx_region ?_
        refine sxl_y (wn_none rfl) rfl rfl (yp rfl) ?_
        refine sxl_y (wn_none rfl) rfl rfl (yp rfl) ?_
        refine sxl_y (wn_none rfl) rfl rfl (yp rfl) ?_
        refine sxl_y (wn_on rfl rfl rfl) rfl rfl (yp rfl) ?_
        refine sxl_y (wn_on rfl rfl rfl) rfl rfl (yp rfl) ?_
        refine sxl_y (wn_on rfl rfl rfl) rfl rfl (yp rfl) ?_
        refine sxl_y (wn_on rfl rfl rfl) rfl rfl (yp rfl) ?_
        refine sxl_y (wn_on rfl rfl rfl) rfl rfl (y_eql_t rfl rfl rfl (by omega)) ?_
        refine sxl_y (wn_on rfl rfl rfl) rfl rfl (yp rfl) ?_
        refine sxl_y (wn_none rfl) rfl rfl (yp rfl) ?_
        refine sxl_nil ?_
        refine qx_seq ?_
        refine sx_true rfl ?_
        refine sx_seq ?_
        refine sx_region ?_
        refine sxl_y (wn_none rfl) rfl rfl (yp rfl) ?_
        refine sxl_nil ?_
        refine qx_seq ?_
        refine sx_ret ?_
        refine qx_block_ret ?_
        refine qx_then_ret ?_
        refine qx_then_ret ?_
        refine qx_block_ret ?_
        refine qx_then_ret ?_
        refine qx_ret1 rfl rfl ?_
        exact ⟨by rw [hno, hstep]; simp [hL, hO, hi0], rfl⟩
      · refine sx_seq ?_
        refine sx_seq ?_
        refine sx_region ?_
        refine sxl_y (wn_none rfl) rfl rfl (yp rfl) ?_
        refine sxl_y (wn_none rfl) rfl rfl (yp rfl) ?_
        refine sxl_y (wn_none rfl) rfl rfl (y_slen rfl rfl Tryd.underlying9) ?_
        refine sxl_y (wn_none rfl) rfl rfl (y_lss_t rfl rfl rfl (by omega)) ?_
        refine sxl_nil ?_
        refine qx_seq ?_
        refine sx_true rfl ?_
        refine sx_skip ?_
        refine qx_seq ?_
        refine sx_seq ?_
        refine sx_block ?_
        refine sx_seq ?_
        refine sx_region ?_
        refine sxl_y (wn_none rfl) rfl rfl (yp rfl) ?_
        refine sxl_y (wn_none rfl) rfl rfl (yp rfl) ?_
        refine sxl_y (wn_none rfl) rfl rfl (y_sindex rfl rfl rfl Tryd.underlying9 hc) ?_
        refine sxl_y (wn_none rfl) rfl rfl (yp rfl) ?_
        refine sxl_nil ?_
        refine qx_seq ?_
        refine sx_seq ?_
        refine sx_region ?_
        refine sxl_y (wn_none rfl) rfl rfl (yp rfl) ?_
        refine sxl_y (wn_none rfl) rfl rfl (y_geq_f rfl rfl rfl (by omega)) ?_
        refine sxl_y (wn_none rfl) rfl rfl (yp rfl) ?_
        refine sxl_off rfl rfl rfl rfl rfl rfl ?_
        refine sxl_off rfl rfl rfl rfl rfl rfl ?_
        refine sxl_y (wn_none rfl) rfl rfl (yp rfl) ?_
        refine sxl_y (wn_none rfl) rfl rfl (yp rfl) ?_
        refine sxl_y (wn_on rfl rfl rfl) rfl rfl (yp rfl) ?_
        refine sxl_y (wn_on rfl rfl rfl) rfl rfl (y_geq_f rfl rfl rfl (by omega)) ?_
        refine sxl_y (wn_on rfl rfl rfl) rfl rfl (yp rfl) ?_
        refine sxl_off rfl rfl rfl rfl rfl rfl ?_
        refine sxl_off rfl rfl rfl rfl rfl rfl ?_
        refine sxl_y (wn_on rfl rfl rfl) rfl rfl (yp rfl) ?_
        refine sxl_y (wn_none rfl) rfl rfl (yp rfl) ?_
        refine sxl_y (wn_none rfl) rfl rfl (yp rfl) ?_
        refine sxl_nil ?_
        refine qx_seq ?_
        refine sx_seq ?_
        refine sx_region ?_
        refine sxl_y (wn_none rfl) rfl rfl (yp rfl) ?_
        refine sxl_y (wn_none rfl) rfl rfl (y_geq_f rfl rfl rfl (by omega)) ?_
        refine sxl_y (wn_none rfl) rfl rfl (yp rfl) ?_
        refine sxl_off rfl rfl rfl rfl rfl rfl ?_
        refine sxl_off rfl rfl rfl rfl rfl rfl ?_
        refine sxl_y (wn_none rfl) rfl rfl (yp rfl) ?_
        refine sxl_y (wn_none rfl) rfl rfl (yp rfl) ?_
        refine sxl_y (wn_on rfl rfl rfl) rfl rfl (yp rfl) ?_
        refine sxl_y (wn_on rfl rfl rfl) rfl rfl (y_eql_f rfl rfl rfl (by omega)) ?_
        refine sxl_y (wn_none rfl) rfl rfl (yp rfl) ?_
        refine sxl_y (wn_none rfl) rfl rfl (yp rfl) ?_
        refine sxl_y (wn_on rfl rfl rfl) rfl rfl (yp rfl) ?_
        refine sxl_y (wn_on rfl rfl rfl) rfl rfl (y_eql_f rfl rfl rfl (by omega)) ?_
        refine sxl_y (wn_none rfl) rfl rfl (yp rfl) ?_
        refine sxl_y (wn_none rfl) rfl rfl (yp rfl) ?_
        refine sxl_y (wn_on rfl rfl rfl) rfl rfl (yp rfl) ?_
        refine sxl_y (wn_on rfl rfl rfl) rfl rfl (y_eql_t rfl rfl rfl (by omega)) ?_
        refine sxl_y (wn_none rfl) rfl rfl (yp rfl) ?_
        refine sxl_y (wn_none rfl) rfl rfl (yp rfl) ?_
        refine sxl_nil ?_
        refine qx_seq ?_
        refine sx_seq ?_
        refine sx_region ?_
        refine sxl_y (wn_none rfl) rfl rfl (yp rfl) ?_
        refine sxl_y (wn_none rfl) rfl rfl (yp rfl) ?_
        refine sxl_y (wn_none rfl) rfl rfl (yp rfl) ?_
        refine sxl_y (wn_on rfl rfl rfl) rfl rfl (yp rfl) ?_
        refine sxl_y (wn_on rfl rfl rfl) rfl rfl (yp rfl) ?_
        refine sxl_y (wn_on rfl rfl rfl) rfl rfl (yp rfl) ?_
        refine sxl_y (wn_on rfl rfl rfl) rfl rfl (yp rfl) ?_
        refine sxl_y (wn_on rfl rfl rfl) rfl rfl (y_eql_f rfl rfl rfl (by omega)) ?_
        refine sxl_y (wn_on rfl rfl rfl) rfl rfl (yp rfl) ?_
        refine sxl_y (wn_none rfl) rfl rfl (yp rfl) ?_
        refine sxl_nil ?_
        refine qx_seq ?_
        refine sx_false rfl ?_
        refine sx_skip ?_
        refine qx_block_normal ?_
        refine qx_seq ?_
        refine sx_region ?_
        refine sxl_y (wn_none rfl) rfl rfl (yp rfl) ?_
        refine sxl_y (wn_none rfl) rfl rfl (y_add rfl rfl rfl (by omega)) ?_
        refine sxl_y (wn_none rfl) rfl rfl (yp rfl) ?_
        refine sxl_nil ?_
        exact qx_again [(3, .int .i64 ((i + 1 : Nat) : Int)), (0, str l)] (l.length - (i + 1)) ⟨i + 1, rfl, rfl, by omega, by rw [hstep]; simp [hL, hO, hi0], rfl⟩ (by omega) ⟨rfl, rfl, trivial⟩
    · have hL : letter c = false := by unfold letter; simp; omega
      have hO : other c = false := by unfold other; simp; omega
      refine sx_seq ?_
      refine sx_seq ?_
      refine sx_region ?_
      refine sxl_y (wn_none rfl) rfl rfl (yp rfl) ?_
      refine sxl_y (wn_none rfl) rfl rfl (yp rfl) ?_
      refine sxl_y (wn_none rfl) rfl rfl (y_slen rfl rfl Tryd.underlying9) ?_
      refine sxl_y (wn_none rfl) rfl rfl (y_lss_t rfl rfl rfl (by omega)) ?_
      refine sxl_nil ?_
      refine qx_seq ?_
      refine sx_true rfl ?_
      refine sx_skip ?_
      refine qx_seq ?_
      refine sx_seq ?_
      refine sx_block ?_
      refine sx_seq ?_
      refine sx_region ?_
      refine sxl_y (wn_none rfl) rfl rfl (yp rfl) ?_
      refine sxl_y (wn_none rfl) rfl rfl (yp rfl) ?_
      refine sxl_y (wn_none rfl) rfl rfl (y_sindex rfl rfl rfl Tryd.underlying9 hc) ?_
      refine sxl_y (wn_none rfl) rfl rfl (yp rfl) ?_
      refine sxl_nil ?_
      refine qx_seq ?_
      refine sx_seq ?_
      refine sx_region ?_
      refine sxl_y (wn_none rfl) rfl rfl (yp rfl) ?_
      refine sxl_y (wn_none rfl) rfl rfl (y_geq_f rfl rfl rfl (by omega)) ?_
      refine sxl_y (wn_none rfl) rfl rfl (yp rfl) ?_
      refine sxl_off rfl rfl rfl rfl rfl rfl ?_
      refine sxl_off rfl rfl rfl rfl rfl rfl ?_
      refine sxl_y (wn_none rfl) rfl rfl (yp rfl) ?_
      refine sxl_y (wn_none rfl) rfl rfl (yp rfl) ?_
      refine sxl_y (wn_on rfl rfl rfl) rfl rfl (yp rfl) ?_
      refine sxl_y (wn_on rfl rfl rfl) rfl rfl (y_geq_f rfl rfl rfl (by omega)) ?_
      refine sxl_y (wn_on rfl rfl rfl) rfl rfl (yp rfl) ?_
      refine sxl_off rfl rfl rfl rfl rfl rfl ?_
      refine sxl_off rfl rfl rfl rfl rfl rfl ?_
      refine sxl_y (wn_on rfl rfl rfl) rfl rfl (yp rfl) ?_
      refine sxl_y (wn_none rfl) rfl rfl (yp rfl) ?_
      refine sxl_y (wn_none rfl) rfl rfl (yp rfl) ?_
      refine sxl_nil ?_
      refine qx_seq ?_
      refine sx_seq ?_
      refine sx_region ?_
      refine sxl_y (wn_none rfl) rfl rfl (yp rfl) ?_
      refine sxl_y (wn_none rfl) rfl rfl (y_geq_f rfl rfl rfl (by omega)) ?_
      refine sxl_y (wn_none rfl) rfl rfl (yp rfl) ?_
      refine sxl_off rfl rfl rfl rfl rfl rfl ?_
      refine sxl_off rfl rfl rfl rfl rfl rfl ?_
      refine sxl_y (wn_none rfl) rfl rfl (yp rfl) ?_
      refine sxl_y (wn_none rfl) rfl rfl (yp rfl) ?_
      refine sxl_y (wn_on rfl rfl rfl) rfl rfl (yp rfl) ?_
      refine sxl_y (wn_on rfl rfl rfl) rfl rfl (y_eql_f rfl rfl rfl (by omega)) ?_
      refine sxl_y (wn_none rfl) rfl rfl (yp rfl) ?_
      refine sxl_y (wn_none rfl) rfl rfl (yp rfl) ?_
      refine sxl_y (wn_on rfl rfl rfl) rfl rfl (yp rfl) ?_
      refine sxl_y (wn_on rfl rfl rfl) rfl rfl (y_eql_f rfl rfl rfl (by omega)) ?_
      refine sxl_y (wn_none rfl) rfl rfl (yp rfl) ?_
      refine sxl_y (wn_none rfl) rfl rfl (yp rfl) ?_
      refine sxl_y (wn_on rfl rfl rfl) rfl rfl (yp rfl) ?_
      refine sxl_y (wn_on rfl rfl rfl) rfl rfl (y_eql_f rfl rfl rfl (by omega)) ?_
      refine sxl_y (wn_none rfl) rfl rfl (yp rfl) ?_
      refine sxl_y (wn_none rfl) rfl rfl (yp rfl) ?_
      refine sxl_nil ?_
      refine qx_seq ?_
      refine sx_seq ?_
      refine sx_region ?_
      refine sxl_y (wn_none rfl) rfl rfl (yp rfl) ?_
      refine sxl_y (wn_none rfl) rfl rfl (yp rfl) ?_
      refine sxl_y (wn_none rfl) rfl rfl (yp rfl) ?_
      refine sxl_y (wn_on rfl rfl rfl) rfl rfl (yp rfl) ?_
      refine sxl_y (wn_on rfl rfl rfl) rfl rfl (yp rfl) ?_
      refine sxl_y (wn_on rfl rfl rfl) rfl rfl (yp rfl) ?_
      refine sxl_off rfl rfl rfl rfl rfl rfl ?_
      refine sxl_off rfl rfl rfl rfl rfl rfl ?_
      refine sxl_y (wn_on rfl rfl rfl) rfl rfl (yp rfl) ?_
      refine sxl_y (wn_none rfl) rfl rfl (yp rfl) ?_
      refine sxl_nil ?_
      refine qx_seq ?_
      refine sx_true rfl ?_
      refine sx_seq ?_
      refine sx_region ?_
      refine sxl_y (wn_none rfl) rfl rfl (yp rfl) ?_
      refine sxl_nil ?_
      refine qx_seq ?_
      refine sx_ret ?_
      refine qx_block_ret ?_
      refine qx_then_ret ?_
      refine qx_then_ret ?_
      refine qx_block_ret ?_
      refine qx_then_ret ?_
      refine qx_ret1 rfl rfl ?_
      exact ⟨by rw [hno, hstep]; simp [hL, hO], rfl⟩
    · have hL : letter c = false := by unfold letter; simp; omega
      have hO : other c = true := by unfold other; simp; omega
      by_cases hi0 : i = 0
      · refine sx_seq ?_
        refine sx_seq ?_
        refine sx_region ?_
        refine sxl_y (wn_none rfl) rfl rfl (yp rfl) ?_
        refine sxl_y (wn_none rfl) rfl rfl (yp rfl) ?_
        refine sxl_y (wn_none rfl) rfl rfl (y_slen rfl rfl Tryd.underlying9) ?_
        refine sxl_y (wn_none rfl) rfl rfl (y_lss_t rfl rfl rfl (by omega)) ?_
        refine sxl_nil ?_
        refine qx_seq ?_
        refine sx_true rfl ?_
        refine sx_skip ?_
        refine qx_seq ?_
        refine sx_seq ?_
        refine sx_block ?_
        refine sx_seq ?_
        refine sx_region ?_
        refine sxl_y (wn_none rfl) rfl rfl (yp rfl) ?_
        refine sxl_y (wn_none rfl) rfl rfl (yp rfl) ?_
        refine sxl_y (wn_none rfl) rfl rfl (y_sindex rfl rfl rfl Tryd.underlying9 hc) ?_
        refine sxl_y (wn_none rfl) rfl rfl (yp rfl) ?_
        refine sxl_nil ?_
        refine qx_seq ?_
        refine sx_seq ?_
        refine sx_region ?_
        refine sxl_y (wn_none rfl) rfl rfl (yp rfl) ?_
        refine sxl_y (wn_none rfl) rfl rfl (y_geq_f rfl rfl rfl (by omega)) ?_
        refine sxl_y (wn_none rfl) rfl rfl (yp rfl) ?_
        refine sxl_off rfl rfl rfl rfl rfl rfl ?_
        refine sxl_off rfl rfl rfl rfl rfl rfl ?_
        refine sxl_y (wn_none rfl) rfl rfl (yp rfl) ?_
        refine sxl_y (wn_none rfl) rfl rfl (yp rfl) ?_
        refine sxl_y (wn_on rfl rfl rfl) rfl rfl (yp rfl) ?_
        refine sxl_y (wn_on rfl rfl rfl) rfl rfl (y_geq_f rfl rfl rfl (by omega)) ?_
        refine sxl_y (wn_on rfl rfl rfl) rfl rfl (yp rfl) ?_
        refine sxl_off rfl rfl rfl rfl rfl rfl ?_
        refine sxl_off rfl rfl rfl rfl rfl rfl ?_
        refine sxl_y (wn_on rfl rfl rfl) rfl rfl (yp rfl) ?_
        refine sxl_y (wn_none rfl) rfl rfl (yp rfl) ?_
        refine sxl_y (wn_none rfl) rfl rfl (yp rfl) ?_
        refine sxl_nil ?_
        refine qx_seq ?_
        refine sx_seq ?_
        refine sx_region ?_
        refine sxl_y (wn_none rfl) rfl rfl (yp rfl) ?_
        refine sxl_y (wn_none rfl) rfl rfl (y_geq_t rfl rfl rfl (by omega)) ?_
        refine sxl_y (wn_none rfl) rfl rfl (yp rfl) ?_
        refine sxl_y (wn_on rfl rfl rfl) rfl rfl (yp rfl) ?_
        refine sxl_y (wn_on rfl rfl rfl) rfl rfl (y_leq_t rfl rfl rfl (by omega)) ?_
        refine sxl_y (wn_none rfl) rfl rfl (yp rfl) ?_
        refine sxl_y (wn_none rfl) rfl rfl (yp rfl) ?_
        refine sxl_off rfl rfl rfl rfl rfl rfl ?_
        refine sxl_off rfl rfl rfl rfl rfl rfl ?_
        refine sxl_y (wn_none rfl) rfl rfl (yp rfl) ?_
        refine sxl_y (wn_none rfl) rfl rfl (yp rfl) ?_
        refine sxl_off rfl rfl rfl rfl rfl rfl ?_
        refine sxl_off rfl rfl rfl rfl rfl rfl ?_
        refine sxl_y (wn_none rfl) rfl rfl (yp rfl) ?_
        refine sxl_y (wn_none rfl) rfl rfl (yp rfl) ?_
        refine sxl_off rfl rfl rfl rfl rfl rfl ?_
        refine sxl_off rfl rfl rfl rfl rfl rfl ?_
        refine sxl_y (wn_none rfl) rfl rfl (yp rfl) ?_
        refine sxl_y (wn_none rfl) rfl rfl (yp rfl) ?_
        refine sxl_nil ?_
        refine qx_seq ?_
        refine sx_seq ?_
        refine sx_region ?_
        refine sxl_y (wn_none rfl) rfl rfl (yp rfl) ?_
        refine sxl_y (wn_none rfl) rfl rfl (yp rfl) ?_
        refine sxl_y (wn_none rfl) rfl rfl (yp rfl) ?_
        refine sxl_y (wn_on rfl rfl rfl) rfl rfl (yp rfl) ?_
        refine sxl_y (wn_on rfl rfl rfl) rfl rfl (yp rfl) ?_
        refine sxl_y (wn_on rfl rfl rfl) rfl rfl (yp rfl) ?_
        refine sxl_y (wn_on rfl rfl rfl) rfl rfl (yp rfl) ?_
        refine sxl_y (wn_on rfl rfl rfl) rfl rfl (y_eql_t rfl rfl rfl (by omega)) ?_
        refine sxl_y (wn_on rfl rfl rfl) rfl rfl (yp rfl) ?_
        refine sxl_y (wn_none rfl) rfl rfl (yp rfl) ?_
        refine sxl_nil ?_
        refine qx_seq ?_
        refine sx_true rfl ?_
        refine sx_seq ?_
        refine sx_region ?_
        refine sxl_y (wn_none rfl) rfl rfl (yp rfl) ?_
        refine sxl_nil ?_
        refine qx_seq ?_
        refine sx_ret ?_
        refine qx_block_ret ?_
        refine qx_then_ret ?_
        refine qx_then_ret ?_
        refine qx_block_ret ?_
        refine qx_then_ret ?_
        refine qx_ret1 rfl rfl ?_
        exact ⟨by rw [hno, hstep]; simp [hL, hO, hi0], rfl⟩
      · refine sx_seq ?_
        refine sx_seq ?_
        refine sx_region ?_
        refine sxl_y (wn_none rfl) rfl rfl (yp rfl) ?_
        refine sxl_y (wn_none rfl) rfl rfl (yp rfl) ?_
        refine sxl_y (wn_none rfl) rfl rfl (y_slen rfl rfl Tryd.underlying9) ?_
        refine sxl_y (wn_none rfl) rfl rfl (y_lss_t rfl rfl rfl (by omega)) ?_
        refine sxl_nil ?_
        refine qx_seq ?_
        refine sx_true rfl ?_
        refine sx_skip ?_
        refine qx_seq ?_
        refine sx_seq ?_
        refine sx_block ?_
        refine sx_seq ?_
        refine sx_region ?_
        refine sxl_y (wn_none rfl) rfl rfl (yp rfl) ?_
        refine sxl_y (wn_none rfl) rfl rfl (yp rfl) ?_
        refine sxl_y (wn_none rfl) rfl rfl (y_sindex rfl rfl rfl Tryd.underlying9 hc) ?_
        refine sxl_y (wn_none rfl) rfl rfl (yp rfl) ?_
        refine sxl_nil ?_
        refine qx_seq ?_
        refine sx_seq ?_
        refine sx_region ?_
        refine sxl_y (wn_none rfl) rfl rfl (yp rfl) ?_
        refine sxl_y (wn_none rfl) rfl rfl (y_geq_f rfl rfl rfl (by omega)) ?_
        refine sxl_y (wn_none rfl) rfl rfl (yp rfl) ?_
        refine sxl_off rfl rfl rfl rfl rfl rfl ?_
        refine sxl_off rfl rfl rfl rfl rfl rfl ?_
        refine sxl_y (wn_none rfl) rfl rfl (yp rfl) ?_
        refine sxl_y (wn_none rfl) rfl rfl (yp rfl) ?_
        refine sxl_y (wn_on rfl rfl rfl) rfl rfl (yp rfl) ?_
        refine sxl_y (wn_on rfl rfl rfl) rfl rfl (y_geq_f rfl rfl rfl (by omega)) ?_
        refine sxl_y (wn_on rfl rfl rfl) rfl rfl (yp rfl) ?_
        refine sxl_off rfl rfl rfl rfl rfl rfl ?_
        refine sxl_off rfl rfl rfl rfl rfl rfl ?_
        refine sxl_y (wn_on rfl rfl rfl) rfl rfl (yp rfl) ?_
        refine sxl_y (wn_none rfl) rfl rfl (yp rfl) ?_
        refine sxl_y (wn_none rfl) rfl rfl (yp rfl) ?_
        refine sxl_nil ?_
        refine qx_seq ?_
        refine sx_seq ?_
        refine sx_region ?_
        refine sxl_y (wn_none rfl) rfl rfl (yp rfl) ?_
        refine sxl_y (wn_none rfl) rfl rfl (y_geq_t rfl rfl rfl (by omega)) ?_
        refine sxl_y (wn_none rfl) rfl rfl (yp rfl) ?_
        refine sxl_y (wn_on rfl rfl rfl) rfl rfl (yp rfl) ?_
        refine sxl_y (wn_on rfl rfl rfl) rfl rfl (y_leq_t rfl rfl rfl (by omega)) ?_
        refine sxl_y (wn_none rfl) rfl rfl (yp rfl) ?_
        refine sxl_y (wn_none rfl) rfl rfl (yp rfl) ?_
        refine sxl_off rfl rfl rfl rfl rfl rfl ?_
        refine sxl_off rfl rfl rfl rfl rfl rfl ?_
        refine sxl_y (wn_none rfl) rfl rfl (yp rfl) ?_
        refine sxl_y (wn_none rfl) rfl rfl (yp rfl) ?_
        refine sxl_off rfl rfl rfl rfl rfl rfl ?_
        refine sxl_off rfl rfl rfl rfl rfl rfl ?_
        refine sxl_y (wn_none rfl) rfl rfl (yp rfl) ?_
        refine sxl_y (wn_none rfl) rfl rfl (yp rfl) ?_
        refine sxl_off rfl rfl rfl rfl rfl rfl ?_
        refine sxl_off rfl rfl rfl rfl rfl rfl ?_
        refine sxl_y (wn_none rfl) rfl rfl (yp rfl) ?_
        refine sxl_y (wn_none rfl) rfl rfl (yp rfl) ?_
        refine sxl_nil ?_
        refine qx_seq ?_
        refine sx_seq ?_
        refine sx_region ?_
        refine sxl_y (wn_none rfl) rfl rfl (yp rfl) ?_
        refine sxl_y (wn_none rfl) rfl rfl (yp rfl) ?_
        refine sxl_y (wn_none rfl) rfl rfl (yp rfl) ?_
        refine sxl_y (wn_on rfl rfl rfl) rfl rfl (yp rfl) ?_
        refine sxl_y (wn_on rfl rfl rfl) rfl rfl (yp rfl) ?_
        refine sxl_y (wn_on rfl rfl rfl) rfl rfl (yp rfl) ?_
        refine sxl_y (wn_on rfl rfl rfl) rfl rfl (yp rfl) ?_
        refine sxl_y (wn_on rfl rfl rfl) rfl rfl (y_eql_f rfl rfl rfl (by omega)) ?_
        refine sxl_y (wn_on rfl rfl rfl) rfl rfl (yp rfl) ?_
        refine sxl_y (wn_none rfl) rfl rfl (yp rfl) ?_
        refine sxl_nil ?_
        refine qx_seq ?_
        refine sx_false rfl ?_
        refine sx_skip ?_
        refine qx_block_normal ?_
        refine qx_seq ?_
        refine sx_region ?_
        refine sxl_y (wn_none rfl) rfl rfl (yp rfl) ?_
        refine sxl_y (wn_none rfl) rfl rfl (y_add rfl rfl rfl (by omega)) ?_
        refine sxl_y (wn_none rfl) rfl rfl (yp rfl) ?_
        refine sxl_nil ?_
        exact qx_again [(3, .int .i64 ((i + 1 : Nat) : Int)), (0, str l)] (l.length - (i + 1)) ⟨i + 1, rfl, rfl, by omega, by rw [hstep]; simp [hL, hO, hi0], rfl⟩ (by omega) ⟨rfl, rfl, trivial⟩
    · have hL : letter c = false := by unfold letter; simp; omega
      have hO : other c = false := by unfold other; simp; omega
      refine sx_seq ?_
      refine sx_seq ?_
      refine sx_region ?_
      refine sxl_y (wn_none rfl) rfl rfl (yp rfl) ?_
      refine sxl_y (wn_none rfl) rfl rfl (yp rfl) ?_
      refine sxl_y (wn_none rfl) rfl rfl (y_slen rfl rfl Tryd.underlying9) ?_
      refine sxl_y (wn_none rfl) rfl rfl (y_lss_t rfl rfl rfl (by omega)) ?_
      refine sxl_nil ?_
      refine qx_seq ?_
      refine sx_true rfl ?_
      refine sx_skip ?_
      refine qx_seq ?_
      refine sx_seq ?_
      refine sx_block ?_
      refine sx_seq ?_
      refine sx_region ?_
      refine sxl_y (wn_none rfl) rfl rfl (yp rfl) ?_
      refine sxl_y (wn_none rfl) rfl rfl (yp rfl) ?_
      refine sxl_y (wn_none rfl) rfl rfl (y_sindex rfl rfl rfl Tryd.underlying9 hc) ?_
      refine sxl_y (wn_none rfl) rfl rfl (yp rfl) ?_
      refine sxl_nil ?_
      refine qx_seq ?_
      refine sx_seq ?_
      refine sx_region ?_
      refine sxl_y (wn_none rfl) rfl rfl (yp rfl) ?_
      refine sxl_y (wn_none rfl) rfl rfl (y_geq_f rfl rfl rfl (by omega)) ?_
      refine sxl_y (wn_none rfl) rfl rfl (yp rfl) ?_
      refine sxl_off rfl rfl rfl rfl rfl rfl ?_
      refine sxl_off rfl rfl rfl rfl rfl rfl ?_
      refine sxl_y (wn_none rfl) rfl rfl (yp rfl) ?_
      refine sxl_y (wn_none rfl) rfl rfl (yp rfl) ?_
      refine sxl_y (wn_on rfl rfl rfl) rfl rfl (yp rfl) ?_
      refine sxl_y (wn_on rfl rfl rfl) rfl rfl (y_geq_f rfl rfl rfl (by omega)) ?_
      refine sxl_y (wn_on rfl rfl rfl) rfl rfl (yp rfl) ?_
      refine sxl_off rfl rfl rfl rfl rfl rfl ?_
      refine sxl_off rfl rfl rfl rfl rfl rfl ?_
      refine sxl_y (wn_on rfl rfl rfl) rfl rfl (yp rfl) ?_
      refine sxl_y (wn_none rfl) rfl rfl (yp rfl) ?_
      refine sxl_y (wn_none rfl) rfl rfl (yp rfl) ?_
      refine sxl_nil ?_
      refine qx_seq ?_
      refine sx_seq ?_
      refine sx_region ?_
      refine sxl_y (wn_none rfl) rfl rfl (yp rfl) ?_
      refine sxl_y (wn_none rfl) rfl rfl (y_geq_t rfl rfl rfl (by omega)) ?_
      refine sxl_y (wn_none rfl) rfl rfl (yp rfl) ?_
      refine sxl_y (wn_on rfl rfl rfl) rfl rfl (yp rfl) ?_
      refine sxl_y (wn_on rfl rfl rfl) rfl rfl (y_leq_f rfl rfl rfl (by omega)) ?_
      refine sxl_y (wn_none rfl) rfl rfl (yp rfl) ?_
      refine sxl_y (wn_none rfl) rfl rfl (yp rfl) ?_
      refine sxl_y (wn_on rfl rfl rfl) rfl rfl (yp rfl) ?_
      refine sxl_y (wn_on rfl rfl rfl) rfl rfl (y_eql_f rfl rfl rfl (by omega)) ?_
      refine sxl_y (wn_none rfl) rfl rfl (yp rfl) ?_
      refine sxl_y (wn_none rfl) rfl rfl (yp rfl) ?_
      refine sxl_y (wn_on rfl rfl rfl) rfl rfl (yp rfl) ?_
      refine sxl_y (wn_on rfl rfl rfl) rfl rfl (y_eql_f rfl rfl rfl (by omega)) ?_
      refine sxl_y (wn_none rfl) rfl rfl (yp rfl) ?_
      refine sxl_y (wn_none rfl) rfl rfl (yp rfl) ?_
      refine sxl_y (wn_on rfl rfl rfl) rfl rfl (yp rfl) ?_
      refine sxl_y (wn_on rfl rfl rfl) rfl rfl (y_eql_f rfl rfl rfl (by omega)) ?_
      refine sxl_y (wn_none rfl) rfl rfl (yp rfl) ?_
      refine sxl_y (wn_none rfl) rfl rfl (yp rfl) ?_
      refine sxl_nil ?_
      refine qx_seq ?_
      refine sx_seq ?_
      refine sx_region ?_
      refine sxl_y (wn_none rfl) rfl rfl (yp rfl) ?_
      refine sxl_y (wn_none rfl) rfl rfl (yp rfl) ?_
      refine sxl_y (wn_none rfl) rfl rfl (yp rfl) ?_
      refine sxl_y (wn_on rfl rfl rfl) rfl rfl (yp rfl) ?_
      refine sxl_y (wn_on rfl rfl rfl) rfl rfl (yp rfl) ?_
      refine sxl_y (wn_on rfl rfl rfl) rfl rfl (yp rfl) ?_
      refine sxl_off rfl rfl rfl rfl rfl rfl ?_
      refine sxl_off rfl rfl rfl rfl rfl rfl ?_
      refine sxl_y (wn_on rfl rfl rfl) rfl rfl (yp rfl) ?_
      refine sxl_y (wn_none rfl) rfl rfl (yp rfl) ?_
      refine sxl_nil ?_
      refine qx_seq ?_
      refine sx_true rfl ?_
      refine sx_seq ?_
      refine sx_region ?_
      refine sxl_y (wn_none rfl) rfl rfl (yp rfl) ?_
      refine sxl_nil ?_
      refine qx_seq ?_
      refine sx_ret ?_
      refine qx_block_ret ?_
      refine qx_then_ret ?_
      refine qx_then_ret ?_
      refine qx_block_ret ?_
      refine qx_then_ret ?_
      refine qx_ret1 rfl rfl ?_
      exact ⟨by rw [hno, hstep]; simp [hL, hO], rfl⟩
    · have hL : letter c = true := by unfold letter; simp; omega
      refine sx_seq ?_
      refine sx_seq ?_
      refine sx_region ?_
      refine sxl_y (wn_none rfl) rfl rfl (yp rfl) ?_
      refine sxl_y (wn_none rfl) rfl rfl (yp rfl) ?_
      refine sxl_y (wn_none rfl) rfl rfl (y_slen rfl rfl Tryd.underlying9) ?_
      refine sxl_y (wn_none rfl) rfl rfl (y_lss_t rfl rfl rfl (by omega)) ?_
      refine sxl_nil ?_
      refine qx_seq ?_
      refine sx_true rfl ?_
      refine sx_skip ?_
      refine qx_seq ?_
      refine sx_seq ?_
      refine sx_block ?_
      refine sx_seq ?_
      refine sx_region ?_
      refine sxl_y (wn_none rfl) rfl rfl (yp rfl) ?_
      refine sxl_y (wn_none rfl) rfl rfl (yp rfl) ?_
      refine sxl_y (wn_none rfl) rfl rfl (y_sindex rfl rfl rfl Tryd.underlying9 hc) ?_
      refine sxl_y (wn_none rfl) rfl rfl (yp rfl) ?_
      refine sxl_nil ?_
      refine qx_seq ?_
      refine sx_seq ?_
      refine sx_region ?_
      refine sxl_y (wn_none rfl) rfl rfl (yp rfl) ?_
      refine sxl_y (wn_none rfl) rfl rfl (y_geq_f rfl rfl rfl (by omega)) ?_
      refine sxl_y (wn_none rfl) rfl rfl (yp rfl) ?_
      refine sxl_off rfl rfl rfl rfl rfl rfl ?_
      refine sxl_off rfl rfl rfl rfl rfl rfl ?_
      refine sxl_y (wn_none rfl) rfl rfl (yp rfl) ?_
      refine sxl_y (wn_none rfl) rfl rfl (yp rfl) ?_
      refine sxl_y (wn_on rfl rfl rfl) rfl rfl (yp rfl) ?_
      refine sxl_y (wn_on rfl rfl rfl) rfl rfl (y_geq_t rfl rfl rfl (by omega)) ?_
      refine sxl_y (wn_on rfl rfl rfl) rfl rfl (yp rfl) ?_
      refine sxl_y (wn_on rfl rfl rfl) rfl rfl (yp rfl) ?_
      refine sxl_y (wn_on rfl rfl rfl) rfl rfl (y_leq_t rfl rfl rfl (by omega)) ?_
      refine sxl_y (wn_on rfl rfl rfl) rfl rfl (yp rfl) ?_
      refine sxl_y (wn_none rfl) rfl rfl (yp rfl) ?_
      refine sxl_y (wn_none rfl) rfl rfl (yp rfl) ?_
      refine sxl_nil ?_
      refine qx_seq ?_
      refine sx_seq ?_
      refine sx_region ?_
      refine sxl_y (wn_none rfl) rfl rfl (yp rfl) ?_
      refine sxl_y (wn_none rfl) rfl rfl (y_geq_t rfl rfl rfl (by omega)) ?_
      refine sxl_y (wn_none rfl) rfl rfl (yp rfl) ?_
      refine sxl_y (wn_on rfl rfl rfl) rfl rfl (yp rfl) ?_
      refine sxl_y (wn_on rfl rfl rfl) rfl rfl (y_leq_f rfl rfl rfl (by omega)) ?_
      refine sxl_y (wn_none rfl) rfl rfl (yp rfl) ?_
      refine sxl_y (wn_none rfl) rfl rfl (yp rfl) ?_
      refine sxl_y (wn_on rfl rfl rfl) rfl rfl (yp rfl) ?_
      refine sxl_y (wn_on rfl rfl rfl) rfl rfl (y_eql_f rfl rfl rfl (by omega)) ?_
      refine sxl_y (wn_none rfl) rfl rfl (yp rfl) ?_
      refine sxl_y (wn_none rfl) rfl rfl (yp rfl) ?_
      refine sxl_y (wn_on rfl rfl rfl) rfl rfl (yp rfl) ?_
      refine sxl_y (wn_on rfl rfl rfl) rfl rfl (y_eql_f rfl rfl rfl (by omega)) ?_
      refine sxl_y (wn_none rfl) rfl rfl (yp rfl) ?_
      refine sxl_y (wn_none rfl) rfl rfl (yp rfl) ?_
      refine sxl_y (wn_on rfl rfl rfl) rfl rfl (yp rfl) ?_
      refine sxl_y (wn_on rfl rfl rfl) rfl rfl (y_eql_f rfl rfl rfl (by omega)) ?_
      refine sxl_y (wn_none rfl) rfl rfl (yp rfl) ?_
      refine sxl_y (wn_none rfl) rfl rfl (yp rfl) ?_
      refine sxl_nil ?_
      refine qx_seq ?_
      refine sx_seq ?_
      refine sx_region ?_
      refine sxl_y (wn_none rfl) rfl rfl (yp rfl) ?_
      refine sxl_y (wn_none rfl) rfl rfl (yp rfl) ?_
      refine sxl_y (wn_none rfl) rfl rfl (yp rfl) ?_
      refine sxl_off rfl rfl rfl rfl rfl rfl ?_
      refine sxl_off rfl rfl rfl rfl rfl rfl ?_
      refine sxl_off rfl rfl rfl rfl rfl rfl ?_
      refine sxl_offU rfl rfl rfl rfl rfl ?_
      refine sxl_offU rfl rfl rfl rfl rfl ?_
      refine sxl_off rfl rfl rfl rfl rfl rfl ?_
      refine sxl_y (wn_none rfl) rfl rfl (yp rfl) ?_
      refine sxl_nil ?_
      refine qx_seq ?_
      refine sx_false rfl ?_
      refine sx_skip ?_
      refine qx_block_normal ?_
      refine qx_seq ?_
      refine sx_region ?_
      refine sxl_y (wn_none rfl) rfl rfl (yp rfl) ?_
      refine sxl_y (wn_none rfl) rfl rfl (y_add rfl rfl rfl (by omega)) ?_
      refine sxl_y (wn_none rfl) rfl rfl (yp rfl) ?_
      refine sxl_nil ?_
      exact qx_again [(3, .int .i64 ((i + 1 : Nat) : Int)), (0, str l)] (l.length - (i + 1)) ⟨i + 1, rfl, rfl, by omega, by rw [hstep]; simp [hL], rfl⟩ (by omega) ⟨rfl, rfl, trivial⟩
    · have hL : letter c = false := by unfold letter; simp; omega
      have hO : other c = false := by unfold other; simp; omega
      refine sx_seq ?_
      refine sx_seq ?_
      refine sx_region ?_
      refine sxl_y (wn_none rfl) rfl rfl (yp rfl) ?_
      refine sxl_y (wn_none rfl) rfl rfl (yp rfl) ?_
      refine sxl_y (wn_none rfl) rfl rfl (y_slen rfl rfl Tryd.underlying9) ?_
      refine sxl_y (wn_none rfl) rfl rfl (y_lss_t rfl rfl rfl (by omega)) ?_
      refine sxl_nil ?_
      refine qx_seq ?_
      refine sx_true rfl ?_
      refine sx_skip ?_
      refine qx_seq ?_
      refine sx_seq ?_
      refine sx_block ?_
      refine sx_seq ?_
      refine sx_region ?_
      refine sxl_y (wn_none rfl) rfl rfl (yp rfl) ?_
      refine sxl_y (wn_none rfl) rfl rfl (yp rfl) ?_
      refine sxl_y (wn_none rfl) rfl rfl (y_sindex rfl rfl rfl Tryd.underlying9 hc) ?_
      refine sxl_y (wn_none rfl) rfl rfl (yp rfl) ?_
      refine sxl_nil ?_
      refine qx_seq ?_
      refine sx_seq ?_
      refine sx_region ?_
      refine sxl_y (wn_none rfl) rfl rfl (yp rfl) ?_
      refine sxl_y (wn_none rfl) rfl rfl (y_geq_f rfl rfl rfl (by omega)) ?_
      refine sxl_y (wn_none rfl) rfl rfl (yp rfl) ?_
      refine sxl_off rfl rfl rfl rfl rfl rfl ?_
      refine sxl_off rfl rfl rfl rfl rfl rfl ?_
      refine sxl_y (wn_none rfl) rfl rfl (yp rfl) ?_
      refine sxl_y (wn_none rfl) rfl rfl (yp rfl) ?_
      refine sxl_y (wn_on rfl rfl rfl) rfl rfl (yp rfl) ?_
      refine sxl_y (wn_on rfl rfl rfl) rfl rfl (y_geq_t rfl rfl rfl (by omega)) ?_
      refine sxl_y (wn_on rfl rfl rfl) rfl rfl (yp rfl) ?_
      refine sxl_y (wn_on rfl rfl rfl) rfl rfl (yp rfl) ?_
      refine sxl_y (wn_on rfl rfl rfl) rfl rfl (y_leq_f rfl rfl rfl (by omega)) ?_
      refine sxl_y (wn_on rfl rfl rfl) rfl rfl (yp rfl) ?_
      refine sxl_y (wn_none rfl) rfl rfl (yp rfl) ?_
      refine sxl_y (wn_none rfl) rfl rfl (yp rfl) ?_
      refine sxl_nil ?_
      refine qx_seq ?_
      refine sx_seq ?_
      refine sx_region ?_
      refine sxl_y (wn_none rfl) rfl rfl (yp rfl) ?_
      refine sxl_y (wn_none rfl) rfl rfl (y_geq_t rfl rfl rfl (by omega)) ?_
      refine sxl_y (wn_none rfl) rfl rfl (yp rfl) ?_
      refine sxl_y (wn_on rfl rfl rfl) rfl rfl (yp rfl) ?_
      refine sxl_y (wn_on rfl rfl rfl) rfl rfl (y_leq_f rfl rfl rfl (by omega)) ?_
      refine sxl_y (wn_none rfl) rfl rfl (yp rfl) ?_
      refine sxl_y (wn_none rfl) rfl rfl (yp rfl) ?_
      refine sxl_y (wn_on rfl rfl rfl) rfl rfl (yp rfl) ?_
      refine sxl_y (wn_on rfl rfl rfl) rfl rfl (y_eql_f rfl rfl rfl (by omega)) ?_
      refine sxl_y (wn_none rfl) rfl rfl (yp rfl) ?_
      refine sxl_y (wn_none rfl) rfl rfl (yp rfl) ?_
      refine sxl_y (wn_on rfl rfl rfl) rfl rfl (yp rfl) ?_
      refine sxl_y (wn_on rfl rfl rfl) rfl rfl (y_eql_f rfl rfl rfl (by omega)) ?_
      refine sxl_y (wn_none rfl) rfl rfl (yp rfl) ?_
      refine sxl_y (wn_none rfl) rfl rfl (yp rfl) ?_
      refine sxl_y (wn_on rfl rfl rfl) rfl rfl (yp rfl) ?_
      refine sxl_y (wn_on rfl rfl rfl) rfl rfl (y_eql_f rfl rfl rfl (by omega)) ?_
      refine sxl_y (wn_none rfl) rfl rfl (yp rfl) ?_
      refine sxl_y (wn_none rfl) rfl rfl (yp rfl) ?_
      refine sxl_nil ?_
      refine qx_seq ?_
      refine sx_seq ?_
      refine sx_region ?_
      refine sxl_y (wn_none rfl) rfl rfl (yp rfl) ?_
      refine sxl_y (wn_none rfl) rfl rfl (yp rfl) ?_
      refine sxl_y (wn_none rfl) rfl rfl (yp rfl) ?_
      refine sxl_y (wn_on rfl rfl rfl) rfl rfl (yp rfl) ?_
      refine sxl_y (wn_on rfl rfl rfl) rfl rfl (yp rfl) ?_
      refine sxl_y (wn_on rfl rfl rfl) rfl rfl (yp rfl) ?_
      refine sxl_off rfl rfl rfl rfl rfl rfl ?_
      refine sxl_off rfl rfl rfl rfl rfl rfl ?_
      refine sxl_y (wn_on rfl rfl rfl) rfl rfl (yp rfl) ?_
      refine sxl_y (wn_none rfl) rfl rfl (yp rfl) ?_
      refine sxl_nil ?_
      refine qx_seq ?_
      refine sx_true rfl ?_
      refine sx_seq ?_
      refine sx_region ?_
      refine sxl_y (wn_none rfl) rfl rfl (yp rfl) ?_
      refine sxl_nil ?_
      refine qx_seq ?_
      refine sx_ret ?_
      refine qx_block_ret ?_
      refine qx_then_ret ?_
      refine qx_then_ret ?_
      refine qx_block_ret ?_
      refine qx_then_ret ?_
      refine qx_ret1 rfl rfl ?_
      exact ⟨by rw [hno, hstep]; simp [hL, hO], rfl⟩
    · have hL : letter c = false := by unfold letter; simp; omega
      have hO : other c = true := by unfold other; simp; omega
      by_cases hi0 : i = 0
      · refine sx_seq ?_
        refine sx_seq ?_
        refine sx_region ?_
        refine sxl_y (wn_none rfl) rfl rfl (yp rfl) ?_
        refine sxl_y (wn_none rfl) rfl rfl (yp rfl) ?_
        refine sxl_y (wn_none rfl) rfl rfl (y_slen rfl rfl Tryd.underlying9) ?_
        refine sxl_y (wn_none rfl) rfl rfl (y_lss_t rfl rfl rfl (by omega)) ?_
        refine sxl_nil ?_
        refine qx_seq ?_
        refine sx_true rfl ?_
        refine sx_skip ?_
        refine qx_seq ?_
        refine sx_seq ?_
        refine sx_block ?_
        refine sx_seq ?_
        refine sx_region ?_
        refine sxl_y (wn_none rfl) rfl rfl (yp rfl) ?_
        refine sxl_y (wn_none rfl) rfl rfl (yp rfl) ?_
        refine sxl_y (wn_none rfl) rfl rfl (y_sindex rfl rfl rfl Tryd.underlying9 hc) ?_
        refine sxl_y (wn_none rfl) rfl rfl (yp rfl) ?_
        refine sxl_nil ?_
        refine qx_seq ?_
        refine sx_seq ?_
        refine sx_region ?_
        refine sxl_y (wn_none rfl) rfl rfl (yp rfl) ?_
        refine sxl_y (wn_none rfl) rfl rfl (y_geq_f rfl rfl rfl (by omega)) ?_
        refine sxl_y (wn_none rfl) rfl rfl (yp rfl) ?_
        refine sxl_off rfl rfl rfl rfl rfl rfl ?_
        refine sxl_off rfl rfl rfl rfl rfl rfl ?_
        refine sxl_y (wn_none rfl) rfl rfl (yp rfl) ?_
        refine sxl_y (wn_none rfl) rfl rfl (yp rfl) ?_
        refine sxl_y (wn_on rfl rfl rfl) rfl rfl (yp rfl) ?_
        refine sxl_y (wn_on rfl rfl rfl) rfl rfl (y_geq_t rfl rfl rfl (by omega)) ?_
        refine sxl_y (wn_on rfl rfl rfl) rfl rfl (yp rfl) ?_
        refine sxl_y (wn_on rfl rfl rfl) rfl rfl (yp rfl) ?_
        refine sxl_y (wn_on rfl rfl rfl) rfl rfl (y_leq_f rfl rfl rfl (by omega)) ?_
        refine sxl_y (wn_on rfl rfl rfl) rfl rfl (yp rfl) ?_
        refine sxl_y (wn_none rfl) rfl rfl (yp rfl) ?_
        refine sxl_y (wn_none rfl) rfl rfl (yp rfl) ?_
        refine sxl_nil ?_
        refine qx_seq ?_
        refine sx_seq ?_
        refine sx_region ?_
        refine sxl_y (wn_none rfl) rfl rfl (yp rfl) ?_
        refine sxl_y (wn_none rfl) rfl rfl (y_geq_t rfl rfl rfl (by omega)) ?_
        refine sxl_y (wn_none rfl) rfl rfl (yp rfl) ?_
        refine sxl_y (wn_on rfl rfl rfl) rfl rfl (yp rfl) ?_
        refine sxl_y (wn_on rfl rfl rfl) rfl rfl (y_leq_f rfl rfl rfl (by omega)) ?_
        refine sxl_y (wn_none rfl) rfl rfl (yp rfl) ?_
        refine sxl_y (wn_none rfl) rfl rfl (yp rfl) ?_
        refine sxl_y (wn_on rfl rfl rfl) rfl rfl (yp rfl) ?_
        refine sxl_y (wn_on rfl rfl rfl) rfl rfl (y_eql_f rfl rfl rfl (by omega)) ?_
        refine sxl_y (wn_none rfl) rfl rfl (yp rfl) ?_
        refine sxl_y (wn_none rfl) rfl rfl (yp rfl) ?_
        refine sxl_y (wn_on rfl rfl rfl) rfl rfl (yp rfl) ?_
        refine sxl_y (wn_on rfl rfl rfl) rfl rfl (y_eql_t rfl rfl rfl (by omega)) ?_
        refine sxl_y (wn_none rfl) rfl rfl (yp rfl) ?_
        refine sxl_y (wn_none rfl) rfl rfl (yp rfl) ?_
        refine sxl_off rfl rfl rfl rfl rfl rfl ?_
        refine sxl_off rfl rfl rfl rfl rfl rfl ?_
        refine sxl_y (wn_none rfl) rfl rfl (yp rfl) ?_
        refine sxl_y (wn_none rfl) rfl rfl (yp rfl) ?_
        refine sxl_nil ?_
        refine qx_seq ?_
        refine sx_seq ?_
        refine sx_region ?_
        refine sxl_y (wn_none rfl) rfl rfl (yp rfl) ?_
        refine sxl_y (wn_none rfl) rfl rfl (yp rfl) ?_
        refine sxl_y (wn_none rfl) rfl rfl (yp rfl) ?_
        refine sxl_y (wn_on rfl rfl rfl) rfl rfl (yp rfl) ?_
        refine sxl_y (wn_on rfl rfl rfl) rfl rfl (yp rfl) ?_
        refine sxl_y (wn_on rfl rfl rfl) rfl rfl (yp rfl) ?_
        refine sxl_y (wn_on rfl rfl rfl) rfl rfl (yp rfl) ?_
        refine sxl_y (wn_on rfl rfl rfl) rfl rfl (y_eql_t rfl rfl rfl (by omega)) ?_
        refine sxl_y (wn_on rfl rfl rfl) rfl rfl (yp rfl) ?_
        refine sxl_y (wn_none rfl) rfl rfl (yp rfl) ?_
        refine sxl_nil ?_
        refine qx_seq ?_
        refine sx_true rfl ?_
        refine sx_seq ?_
        refine sx_region ?_
        refine sxl_y (wn_none rfl) rfl rfl (yp rfl) ?_
        refine sxl_nil ?_
        refine qx_seq ?_
        refine sx_ret ?_
        refine qx_block_ret ?_
        refine qx_then_ret ?_
        refine qx_then_ret ?_
        refine qx_block_ret ?_
        refine qx_then_ret ?_
        refine qx_ret1 rfl rfl ?_
        exact ⟨by rw [hno, hstep]; simp [hL, hO, hi0], rfl⟩
      · refine sx_seq ?_
        refine sx_seq ?_
        refine sx_region ?_
        refine sxl_y (wn_none rfl) rfl rfl (yp rfl) ?_
        refine sxl_y (wn_none rfl) rfl rfl (yp rfl) ?_
        refine sxl_y (wn_none rfl) rfl rfl (y_slen rfl rfl Tryd.underlying9) ?_
        refine sxl_y (wn_none rfl) rfl rfl (y_lss_t rfl rfl rfl (by omega)) ?_
        refine sxl_nil ?_
        refine qx_seq ?_
        refine sx_true rfl ?_
        refine sx_skip ?_
        refine qx_seq ?_
        refine sx_seq ?_
        refine sx_block ?_
        refine sx_seq ?_
        refine sx_region ?_
        refine sxl_y (wn_none rfl) rfl rfl (yp rfl) ?_
        refine sxl_y (wn_none rfl) rfl rfl (yp rfl) ?_
        refine sxl_y (wn_none rfl) rfl rfl (y_sindex rfl rfl rfl Tryd.underlying9 hc) ?_
        refine sxl_y (wn_none rfl) rfl rfl (yp rfl) ?_
        refine sxl_nil ?_
        refine qx_seq ?_
        refine sx_seq ?_
        refine sx_region ?_
        refine sxl_y (wn_none rfl) rfl rfl (yp rfl) ?_
        refine sxl_y (wn_none rfl) rfl rfl (y_geq_f rfl rfl rfl (by omega)) ?_
        refine sxl_y (wn_none rfl) rfl rfl (yp rfl) ?_
        refine sxl_off rfl rfl rfl rfl rfl rfl ?_
        refine sxl_off rfl rfl rfl rfl rfl rfl ?_
        refine sxl_y (wn_none rfl) rfl rfl (yp rfl) ?_
        refine sxl_y (wn_none rfl) rfl rfl (yp rfl) ?_
        refine sxl_y (wn_on rfl rfl rfl) rfl rfl (yp rfl) ?_
        refine sxl_y (wn_on rfl rfl rfl) rfl rfl (y_geq_t rfl rfl rfl (by omega)) ?_
        refine sxl_y (wn_on rfl rfl rfl) rfl rfl (yp rfl) ?_
        refine sxl_y (wn_on rfl rfl rfl) rfl rfl (yp rfl) ?_
        refine sxl_y (wn_on rfl rfl rfl) rfl rfl (y_leq_f rfl rfl rfl (by omega)) ?_
        refine sxl_y (wn_on rfl rfl rfl) rfl rfl (yp rfl) ?_
        refine sxl_y (wn_none rfl) rfl rfl (yp rfl) ?_
        refine sxl_y (wn_none rfl) rfl rfl (yp rfl) ?_
        refine sxl_nil ?_
        refine qx_seq ?_
        refine sx_seq ?_
        refine sx_region ?_
        refine sxl_y (wn_none rfl) rfl rfl (yp rfl) ?_
        refine sxl_y (wn_none rfl) rfl rfl (y_geq_t rfl rfl rfl (by omega)) ?_
        refine sxl_y (wn_none rfl) rfl rfl (yp rfl) ?_
        refine sxl_y (wn_on rfl rfl rfl) rfl rfl (yp rfl) ?_
        refine sxl_y (wn_on rfl rfl rfl) rfl rfl (y_leq_f rfl rfl rfl (by omega)) ?_
        refine sxl_y (wn_none rfl) rfl rfl (yp rfl) ?_
        refine sxl_y (wn_none rfl) rfl rfl (yp rfl) ?_
        refine sxl_y (wn_on rfl rfl rfl) rfl rfl (yp rfl) ?_
        refine sxl_y (wn_on rfl rfl rfl) rfl rfl (y_eql_f rfl rfl rfl (by omega)) ?_
        refine sxl_y (wn_none rfl) rfl rfl (yp rfl) ?_
        refine sxl_y (wn_none rfl) rfl rfl (yp rfl) ?_
        refine sxl_y (wn_on rfl rfl rfl) rfl rfl (yp rfl) ?_
        refine sxl_y (wn_on rfl rfl rfl) rfl rfl (y_eql_t rfl rfl rfl (by omega)) ?_
        refine sxl_y (wn_none rfl) rfl rfl (yp rfl) ?_
        refine sxl_y (wn_none rfl) rfl rfl (yp rfl) ?_
        refine sxl_off rfl rfl rfl rfl rfl rfl ?_
        refine sxl_off rfl rfl rfl rfl rfl rfl ?_
        refine sxl_y (wn_none rfl) rfl rfl (yp rfl) ?_
        refine sxl_y (wn_none rfl) rfl rfl (yp rfl) ?_
        refine sxl_nil ?_
        refine qx_seq ?_
        refine sx_seq ?_
        refine sx_region ?_
        refine sxl_y (wn_none rfl) rfl rfl (yp rfl) ?_
        refine sxl_y (wn_none rfl) rfl rfl (yp rfl) ?_
        refine sxl_y (wn_none rfl) rfl rfl (yp rfl) ?_
        refine sxl_y (wn_on rfl rfl rfl) rfl rfl (yp rfl) ?_
        refine sxl_y (wn_on rfl rfl rfl) rfl rfl (yp rfl) ?_
        refine sxl_y (wn_on rfl rfl rfl) rfl rfl (yp rfl) ?_
        refine sxl_y (wn_on rfl rfl rfl) rfl rfl (yp rfl) ?_
        refine sxl_y (wn_on rfl rfl rfl) rfl rfl (y_eql_f rfl rfl rfl (by omega)) ?_
        refine sxl_y (wn_on rfl rfl rfl) rfl rfl (yp rfl) ?_
        refine sxl_y (wn_none rfl) rfl rfl (yp rfl) ?_
        refine sxl_nil ?_
        refine qx_seq ?_
        refine sx_false rfl ?_
        refine sx_skip ?_
        refine qx_block_normal ?_
        refine qx_seq ?_
        refine sx_region ?_
        refine sxl_y (wn_none rfl) rfl rfl (yp rfl) ?_
        refine sxl_y (wn_none rfl) rfl rfl (y_add rfl rfl rfl (by omega)) ?_
        refine sxl_y (wn_none rfl) rfl rfl (yp rfl) ?_
        refine sxl_nil ?_
        exact qx_again [(3, .int .i64 ((i + 1 : Nat) : Int)), (0, str l)] (l.length - (i + 1)) ⟨i + 1, rfl, rfl, by omega, by rw [hstep]; simp [hL, hO, hi0], rfl⟩ (by omega) ⟨rfl, rfl, trivial⟩
    · have hL : letter c = false := by unfold letter; simp; omega
      have hO : other c = false := by unfold other; simp; omega
      refine sx_seq ?_
      refine sx_seq ?_
      refine sx_region ?_
      refine sxl_y (wn_none rfl) rfl rfl (yp rfl) ?_
      refine sxl_y (wn_none rfl) rfl rfl (yp rfl) ?_
      refine sxl_y (wn_none rfl) rfl rfl (y_slen rfl rfl Tryd.underlying9) ?_
      refine sxl_y (wn_none rfl) rfl rfl (y_lss_t rfl rfl rfl (by omega)) ?_
      refine sxl_nil ?_
      refine qx_seq ?_
      refine sx_true rfl ?_
      refine sx_skip ?_
      refine qx_seq ?_
      refine sx_seq ?_
      refine sx_block ?_
      refine sx_seq ?_
      refine sx_region ?_
      refine sxl_y (wn_none rfl) rfl rfl (yp rfl) ?_
      refine sxl_y (wn_none rfl) rfl rfl (yp rfl) ?_
      refine sxl_y (wn_none rfl) rfl rfl (y_sindex rfl rfl rfl Tryd.underlying9 hc) ?_
      refine sxl_y (wn_none rfl) rfl rfl (yp rfl) ?_
      refine sxl_nil ?_
      refine qx_seq ?_
      refine sx_seq ?_
      refine sx_region ?_
      refine sxl_y (wn_none rfl) rfl rfl (yp rfl) ?_
      refine sxl_y (wn_none rfl) rfl rfl (y_geq_f rfl rfl rfl (by omega)) ?_
      refine sxl_y (wn_none rfl) rfl rfl (yp rfl) ?_
      refine sxl_off rfl rfl rfl rfl rfl rfl ?_
      refine sxl_off rfl rfl rfl rfl rfl rfl ?_
      refine sxl_y (wn_none rfl) rfl rfl (yp rfl) ?_
      refine sxl_y (wn_none rfl) rfl rfl (yp rfl) ?_
      refine sxl_y (wn_on rfl rfl rfl) rfl rfl (yp rfl) ?_
      refine sxl_y (wn_on rfl rfl rfl) rfl rfl (y_geq_t rfl rfl rfl (by omega)) ?_
      refine sxl_y (wn_on rfl rfl rfl) rfl rfl (yp rfl) ?_
      refine sxl_y (wn_on rfl rfl rfl) rfl rfl (yp rfl) ?_
      refine sxl_y (wn_on rfl rfl rfl) rfl rfl (y_leq_f rfl rfl rfl (by omega)) ?_
      refine sxl_y (wn_on rfl rfl rfl) rfl rfl (yp rfl) ?_
      refine sxl_y (wn_none rfl) rfl rfl (yp rfl) ?_
      refine sxl_y (wn_none rfl) rfl rfl (yp rfl) ?_
      refine sxl_nil ?_
      refine qx_seq ?_
      refine sx_seq ?_
      refine sx_region ?_
      refine sxl_y (wn_none rfl) rfl rfl (yp rfl) ?_
      refine sxl_y (wn_none rfl) rfl rfl (y_geq_t rfl rfl rfl (by omega)) ?_
      refine sxl_y (wn_none rfl) rfl rfl (yp rfl) ?_
      refine sxl_y (wn_on rfl rfl rfl) rfl rfl (yp rfl) ?_
      refine sxl_y (wn_on rfl rfl rfl) rfl rfl (y_leq_f rfl rfl rfl (by omega)) ?_
      refine sxl_y (wn_none rfl) rfl rfl (yp rfl) ?_
      refine sxl_y (wn_none rfl) rfl rfl (yp rfl) ?_
      refine sxl_y (wn_on rfl rfl rfl) rfl rfl (yp rfl) ?_
      refine sxl_y (wn_on rfl rfl rfl) rfl rfl (y_eql_f rfl rfl rfl (by omega)) ?_
      refine sxl_y (wn_none rfl) rfl rfl (yp rfl) ?_
      refine sxl_y (wn_none rfl) rfl rfl (yp rfl) ?_
      refine sxl_y (wn_on rfl rfl rfl) rfl rfl (yp rfl) ?_
      refine sxl_y (wn_on rfl rfl rfl) rfl rfl (y_eql_f rfl rfl rfl (by omega)) ?_
      refine sxl_y (wn_none rfl) rfl rfl (yp rfl) ?_
      refine sxl_y (wn_none rfl) rfl rfl (yp rfl) ?_
      refine sxl_y (wn_on rfl rfl rfl) rfl rfl (yp rfl) ?_
      refine sxl_y (wn_on rfl rfl rfl) rfl rfl (y_eql_f rfl rfl rfl (by omega)) ?_
      refine sxl_y (wn_none rfl) rfl rfl (yp rfl) ?_
      refine sxl_y (wn_none rfl) rfl rfl (yp rfl) ?_
      refine sxl_nil ?_
      refine qx_seq ?_
      refine sx_seq ?_
      refine sx_region ?_
      refine sxl_y (wn_none rfl) rfl rfl (yp rfl) ?_
      refine sxl_y (wn_none rfl) rfl rfl (yp rfl) ?_
      refine sxl_y (wn_none rfl) rfl rfl (yp rfl) ?_
      refine sxl_y (wn_on rfl rfl rfl) rfl rfl (yp rfl) ?_
      refine sxl_y (wn_on rfl rfl rfl) rfl rfl (yp rfl) ?_
      refine sxl_y (wn_on rfl rfl rfl) rfl rfl (yp rfl) ?_
      refine sxl_off rfl rfl rfl rfl rfl rfl ?_
      refine sxl_off rfl rfl rfl rfl rfl rfl ?_
      refine sxl_y (wn_on rfl rfl rfl) rfl rfl (yp rfl) ?_
      refine sxl_y (wn_none rfl) rfl rfl (yp rfl) ?_
      refine sxl_nil ?_
      refine qx_seq ?_
      refine sx_true rfl ?_
      refine sx_seq ?_
      refine sx_region ?_
      refine sxl_y (wn_none rfl) rfl rfl (yp rfl) ?_
      refine sxl_nil ?_
      refine qx_seq ?_
      refine sx_ret ?_
      refine qx_block_ret ?_
      refine qx_then_ret ?_
      refine qx_then_ret ?_
      refine qx_block_ret ?_
      refine qx_then_ret ?_
      refine qx_ret1 rfl rfl ?_
      exact ⟨by rw [hno, hstep]; simp [hL, hO], rfl⟩
    · have hL : letter c = true := by unfold letter; simp; omega
      refine sx_seq ?_
      refine sx_seq ?_
      refine sx_region ?_
      refine sxl_y (wn_none rfl) rfl rfl (yp rfl) ?_
      refine sxl_y (wn_none rfl) rfl rfl (yp rfl) ?_
      refine sxl_y (wn_none rfl) rfl rfl (y_slen rfl rfl Tryd.underlying9) ?_
      refine sxl_y (wn_none rfl) rfl rfl (y_lss_t rfl rfl rfl (by omega)) ?_
      refine sxl_nil ?_
      refine qx_seq ?_
      refine sx_true rfl ?_
      refine sx_skip ?_
      refine qx_seq ?_
      refine sx_seq ?_
      refine sx_block ?_
      refine sx_seq ?_
      refine sx_region ?_
      refine sxl_y (wn_none rfl) rfl rfl (yp rfl) ?_
      refine sxl_y (wn_none rfl) rfl rfl (yp rfl) ?_
      refine sxl_y (wn_none rfl) rfl rfl (y_sindex rfl rfl rfl Tryd.underlying9 hc) ?_
      refine sxl_y (wn_none rfl) rfl rfl (yp rfl) ?_
      refine sxl_nil ?_
      refine qx_seq ?_
      refine sx_seq ?_
      refine sx_region ?_
      refine sxl_y (wn_none rfl) rfl rfl (yp rfl) ?_
      refine sxl_y (wn_none rfl) rfl rfl (y_geq_t rfl rfl rfl (by omega)) ?_
      refine sxl_y (wn_none rfl) rfl rfl (yp rfl) ?_
      refine sxl_y (wn_on rfl rfl rfl) rfl rfl (yp rfl) ?_
      refine sxl_y (wn_on rfl rfl rfl) rfl rfl (y_leq_t rfl rfl rfl (by omega)) ?_
      refine sxl_y (wn_none rfl) rfl rfl (yp rfl) ?_
      refine sxl_y (wn_none rfl) rfl rfl (yp rfl) ?_
      refine sxl_off rfl rfl rfl rfl rfl rfl ?_
      refine sxl_off rfl rfl rfl rfl rfl rfl ?_
      refine sxl_off rfl rfl rfl rfl rfl rfl ?_
      refine sxl_offU rfl rfl rfl rfl rfl ?_
      refine sxl_offU rfl rfl rfl rfl rfl ?_
      refine sxl_off rfl rfl rfl rfl rfl rfl ?_
      refine sxl_y (wn_none rfl) rfl rfl (yp rfl) ?_
      refine sxl_y (wn_none rfl) rfl rfl (yp rfl) ?_
      refine sxl_nil ?_
      refine qx_seq ?_
      refine sx_seq ?_
      refine sx_region ?_
      refine sxl_y (wn_none rfl) rfl rfl (yp rfl) ?_
      refine sxl_y (wn_none rfl) rfl rfl (y_geq_t rfl rfl rfl (by omega)) ?_
      refine sxl_y (wn_none rfl) rfl rfl (yp rfl) ?_
      refine sxl_y (wn_on rfl rfl rfl) rfl rfl (yp rfl) ?_
      refine sxl_y (wn_on rfl rfl rfl) rfl rfl (y_leq_f rfl rfl rfl (by omega)) ?_
      refine sxl_y (wn_none rfl) rfl rfl (yp rfl) ?_
      refine sxl_y (wn_none rfl) rfl rfl (yp rfl) ?_
      refine sxl_y (wn_on rfl rfl rfl) rfl rfl (yp rfl) ?_
      refine sxl_y (wn_on rfl rfl rfl) rfl rfl (y_eql_f rfl rfl rfl (by omega)) ?_
      refine sxl_y (wn_none rfl) rfl rfl (yp rfl) ?_
      refine sxl_y (wn_none rfl) rfl rfl (yp rfl) ?_
      refine sxl_y (wn_on rfl rfl rfl) rfl rfl (yp rfl) ?_
      refine sxl_y (wn_on rfl rfl rfl) rfl rfl (y_eql_f rfl rfl rfl (by omega)) ?_
      refine sxl_y (wn_none rfl) rfl rfl (yp rfl) ?_
      refine sxl_y (wn_none rfl) rfl rfl (yp rfl) ?_
      refine sxl_y (wn_on rfl rfl rfl) rfl rfl (yp rfl) ?_
      refine sxl_y (wn_on rfl rfl rfl) rfl rfl (y_eql_f rfl rfl rfl (by omega)) ?_
      refine sxl_y (wn_none rfl) rfl rfl (yp rfl) ?_
      refine sxl_y (wn_none rfl) rfl rfl (yp rfl) ?_
      refine sxl_nil ?_
      refine qx_seq ?_
      refine sx_seq ?_
      refine sx_region ?_
      refine sxl_y (wn_none rfl) rfl rfl (yp rfl) ?_
      refine sxl_y (wn_none rfl) rfl rfl (yp rfl) ?_
      refine sxl_y (wn_none rfl) rfl rfl (yp rfl) ?_
      refine sxl_off rfl rfl rfl rfl rfl rfl ?_
      refine sxl_off rfl rfl rfl rfl rfl rfl ?_
      refine sxl_off rfl rfl rfl rfl rfl rfl ?_
      refine sxl_offU rfl rfl rfl rfl rfl ?_
      refine sxl_offU rfl rfl rfl rfl rfl ?_
      refine sxl_off rfl rfl rfl rfl rfl rfl ?_
      refine sxl_y (wn_none rfl) rfl rfl (yp rfl) ?_
      refine sxl_nil ?_
      refine qx_seq ?_
      refine sx_false rfl ?_
      refine sx_skip ?_
      refine qx_block_normal ?_
      refine qx_seq ?_
      refine sx_region ?_
      refine sxl_y (wn_none rfl) rfl rfl (yp rfl) ?_
      refine sxl_y (wn_none rfl) rfl rfl (y_add rfl rfl rfl (by omega)) ?_
      refine sxl_y (wn_none rfl) rfl rfl (yp rfl) ?_
      refine sxl_nil ?_
      exact qx_again [(3, .int .i64 ((i + 1 : Nat) : Int)), (0, str l)] (l.length - (i + 1)) ⟨i + 1, rfl, rfl, by omega, by rw [hstep]; simp [hL], rfl⟩ (by omega) ⟨rfl, rfl, trivial⟩
    · have hL : letter c = false := by unfold letter; simp; omega
      have hO : other c = false := by unfold other; simp; omega
      refine sx_seq ?_
      refine sx_seq ?_
      refine sx_region ?_
      refine sxl_y (wn_none rfl) rfl rfl (yp rfl) ?_
      refine sxl_y (wn_none rfl) rfl rfl (yp rfl) ?_
      refine sxl_y (wn_none rfl) rfl rfl (y_slen rfl rfl Tryd.underlying9) ?_
      refine sxl_y (wn_none rfl) rfl rfl (y_lss_t rfl rfl rfl (by omega)) ?_
      refine sxl_nil ?_
      refine qx_seq ?_
      refine sx_true rfl ?_
      refine sx_skip ?_
      refine qx_seq ?_
      refine sx_seq ?_
      refine sx_block ?_
      refine sx_seq ?_
      refine sx_region ?_
      refine sxl_y (wn_none rfl) rfl rfl (yp rfl) ?_
      refine sxl_y (wn_none rfl) rfl rfl (yp rfl) ?_
      refine sxl_y (wn_none rfl) rfl rfl (y_sindex rfl rfl rfl Tryd.underlying9 hc) ?_
      refine sxl_y (wn_none rfl) rfl rfl (yp rfl) ?_
      refine sxl_nil ?_
      refine qx_seq ?_
      refine sx_seq ?_
      refine sx_region ?_
      refine sxl_y (wn_none rfl) rfl rfl (yp rfl) ?_
      refine sxl_y (wn_none rfl) rfl rfl (y_geq_t rfl rfl rfl (by omega)) ?_
      refine sxl_y (wn_none rfl) rfl rfl (yp rfl) ?_
      refine sxl_y (wn_on rfl rfl rfl) rfl rfl (yp rfl) ?_
      refine sxl_y (wn_on rfl rfl rfl) rfl rfl (y_leq_f rfl rfl rfl (by omega)) ?_
      refine sxl_y (wn_none rfl) rfl rfl (yp rfl) ?_
      refine sxl_y (wn_none rfl) rfl rfl (yp rfl) ?_
      refine sxl_y (wn_on rfl rfl rfl) rfl rfl (yp rfl) ?_
      refine sxl_y (wn_on rfl rfl rfl) rfl rfl (y_geq_t rfl rfl rfl (by omega)) ?_
      refine sxl_y (wn_on rfl rfl rfl) rfl rfl (yp rfl) ?_
      refine sxl_y (wn_on rfl rfl rfl) rfl rfl (yp rfl) ?_
      refine sxl_y (wn_on rfl rfl rfl) rfl rfl (y_leq_f rfl rfl rfl (by omega)) ?_
      refine sxl_y (wn_on rfl rfl rfl) rfl rfl (yp rfl) ?_
      refine sxl_y (wn_none rfl) rfl rfl (yp rfl) ?_
      refine sxl_y (wn_none rfl) rfl rfl (yp rfl) ?_
      refine sxl_nil ?_
      refine qx_seq ?_
      refine sx_seq ?_
      refine sx_region ?_
      refine sxl_y (wn_none rfl) rfl rfl (yp rfl) ?_
      refine sxl_y (wn_none rfl) rfl rfl (y_geq_t rfl rfl rfl (by omega)) ?_
      refine sxl_y (wn_none rfl) rfl rfl (yp rfl) ?_
      refine sxl_y (wn_on rfl rfl rfl) rfl rfl (yp rfl) ?_
      refine sxl_y (wn_on rfl rfl rfl) rfl rfl (y_leq_f rfl rfl rfl (by omega)) ?_
      refine sxl_y (wn_none rfl) rfl rfl (yp rfl) ?_
      refine sxl_y (wn_none rfl) rfl rfl (yp rfl) ?_
      refine sxl_y (wn_on rfl rfl rfl) rfl rfl (yp rfl) ?_
      refine sxl_y (wn_on rfl rfl rfl) rfl rfl (y_eql_f rfl rfl rfl (by omega)) ?_
      refine sxl_y (wn_none rfl) rfl rfl (yp rfl) ?_
      refine sxl_y (wn_none rfl) rfl rfl (yp rfl) ?_
      refine sxl_y (wn_on rfl rfl rfl) rfl rfl (yp rfl) ?_
      refine sxl_y (wn_on rfl rfl rfl) rfl rfl (y_eql_f rfl rfl rfl (by omega)) ?_
      refine sxl_y (wn_none rfl) rfl rfl (yp rfl) ?_
      refine sxl_y (wn_none rfl) rfl rfl (yp rfl) ?_
      refine sxl_y (wn_on rfl rfl rfl) rfl rfl (yp rfl) ?_
      refine sxl_y (wn_on rfl rfl rfl) rfl rfl (y_eql_f rfl rfl rfl (by omega)) ?_
      refine sxl_y (wn_none rfl) rfl rfl (yp rfl) ?_
      refine sxl_y (wn_none rfl) rfl rfl (yp rfl) ?_
      refine sxl_nil ?_
      refine qx_seq ?_
      refine sx_seq ?_
      refine sx_region ?_
      refine sxl_y (wn_none rfl) rfl rfl (yp rfl) ?_
      refine sxl_y (wn_none rfl) rfl rfl (yp rfl) ?_
      refine sxl_y (wn_none rfl) rfl rfl (yp rfl) ?_
      refine sxl_y (wn_on rfl rfl rfl) rfl rfl (yp rfl) ?_
      refine sxl_y (wn_on rfl rfl rfl) rfl rfl (yp rfl) ?_
      refine sxl_y (wn_on rfl rfl rfl) rfl rfl (yp rfl) ?_
      refine sxl_off rfl rfl rfl rfl rfl rfl ?_
      refine sxl_off rfl rfl rfl rfl rfl rfl ?_
      refine sxl_y (wn_on rfl rfl rfl) rfl rfl (yp rfl) ?_
      refine sxl_y (wn_none rfl) rfl rfl (yp rfl) ?_
      refine sxl_nil ?_
      refine qx_seq ?_
      refine sx_true rfl ?_
      refine sx_seq ?_
      refine sx_region ?_
      refine sxl_y (wn_none rfl) rfl rfl (yp rfl) ?_
      refine sxl_nil ?_
      refine qx_seq ?_
      refine sx_ret ?_
      refine qx_block_ret ?_
      refine qx_then_ret ?_
      refine qx_then_ret ?_
      refine qx_block_ret ?_
      refine qx_then_ret ?_
      refine qx_ret1 rfl rfl ?_
      exact ⟨by rw [hno, hstep]; simp [hL, hO], rfl⟩
  · obtain rfl : i = l.length := by omega
    refine sx_seq ?_
    refine sx_seq ?_
    refine sx_region ?_
    refine sxl_y (wn_none rfl) rfl rfl (yp rfl) ?_
    refine sxl_y (wn_none rfl) rfl rfl (yp rfl) ?_
    refine sxl_y (wn_none rfl) rfl rfl (y_slen rfl rfl Tryd.underlying9) ?_
    refine sxl_y (wn_none rfl) rfl rfl (y_lss_f rfl rfl rfl (by omega)) ?_
    refine sxl_nil ?_
    refine qx_seq ?_
    refine sx_false rfl ?_
    refine sx_exit ?_
    refine qx_then_exit ?_
    refine qx_then_exit ?_
    refine qx_block_hit ?_
    refine qx_seq ?_
    refine sx_seq ?_
    refine sx_region ?_
    refine sxl_y (wn_none rfl) rfl rfl (yp rfl) ?_
    refine sxl_nil ?_
    refine qx_seq ?_
    refine sx_ret ?_
    refine qx_ret1 rfl rfl ?_
    exact ⟨by rw [hno, hn, List.drop_length, nameFrom], rfl⟩
end Go.Proofs.YtklciidffdnglaaDoor
