/- word.Name: what may be a name, by its table. -/
import Derived.Test.YtklciidffdnglaaDoorMail1
import Derived.Test.YtklciidffdnglaaDoorKv
namespace Go.Proofs.YtklciidffdnglaaDoor
open Go.RowKit

/-- The table of names. -/
def tabN (n : Nat) : Nat := if (decide (65 ≤ n) && decide (n ≤ 90)) || (decide (97 ≤ n) && decide (n ≤ 122)) then 2 else if ((decide (48 ≤ n) && decide (n ≤ 57)) || n == 45 || n == 95 || n == 46) then 1 else 0
def tabL : List Value := (List.range 256).map fun n => .int .u8 (tabN n : Int)
theorem tabV_eq : tabV = .agg tabL.toArray := by kernel_rfl
theorem tabL_len : tabL.length = 256 := by unfold tabL; simp
theorem tabL_one : ∀ u ∈ tabL, u.oneCell' = true := by
  intro u hu
  obtain ⟨n, _, rfl⟩ := List.mem_map.1 hu
  rfl
theorem tabL_at {n : Nat} (h : n < 256) : tabL[n]? = some (.int .u8 (tabN n : Int)) := by unfold tabL; simp [h]
theorem tabN_of (c : UInt8) : tabN c.toNat = if letter c then 2 else if other c then 1 else 0 := by
  have h1 : (((decide (65 ≤ c.toNat) && decide (c.toNat ≤ 90)) || (decide (97 ≤ c.toNat) && decide (c.toNat ≤ 122))) = letter c) := by
    unfold letter; rw [Bool.or_comm]
  unfold tabN
  rw [h1]
  rfl
def zeroT : List Value := List.replicate 256 (.int .u8 0)
theorem table_zero : (Tryd.prog.info? 46).map (·.zero) = some (some (.agg zeroT.toArray)) := by kernel_rfl
theorem table_size : (Tryd.prog.info? 46).map (·.size) = some 256 := by kernel_rfl
def bytesOk (l : List UInt8) : Bool := l.all fun c => letter c || other c
theorem nameFrom_all : ∀ (i : Nat) (l : List UInt8), i ≠ 0 → nameFrom i l = bytesOk l
  | _, [], _ => rfl
  | i, c :: l, h => by
    rw [nameFrom, nameFrom_all (i + 1) l (by omega), show (i != 0) = true by simp [h], Bool.and_true]
    rfl
theorem nameFrom_zero (c : UInt8) (l : List UInt8) : nameFrom 0 (c :: l) = (letter c && bytesOk (c :: l)) := by
  rw [nameFrom, nameFrom_all 1 l (by omega)]
  show ((letter c || (other c && (0 != 0))) && bytesOk l) = (letter c && ((letter c || other c) && bytesOk l))
  cases letter c <;> cases other c <;> simp
theorem zeroT_len : zeroT.length = 256 := by unfold zeroT; rw [List.length_replicate]
set_option maxHeartbeats 8000000 in
theorem wordName_ok (l : List UInt8) (w : World) (hm : (l.length : Int) < 4611686018427387904) : Calls Tryd.prog 10 #[str l] w fun e w' => e = .returned (.bool (nameOk l)) ∧ Fr0 w w' := by
  refine sx_enter (vs := [_]) Tryd.func10 rfl Tryd.ntmps10 rfl ?_
  by_cases h0 : l.length = 0
  · have hno : nameOk l = false := by unfold nameOk; simp; omega
    refine sx_seq ?_
    refine sx_region ?_
    refine sxl_y (wn_none rfl) rfl rfl (yp rfl) ?_
    refine sxl_nil ?_
    refine qx_seq ?_
    refine sx_seq ?_
    refine sx_seq ?_
    refine sx_region ?_
    refine sxl_y (wn_none rfl) rfl rfl (yp rfl) ?_
    refine sxl_y (wn_none rfl) rfl rfl (y_slen rfl rfl Tryd.underlying9) ?_
    refine sxl_y (wn_none rfl) rfl rfl (y_eql_t rfl rfl rfl (by omega)) ?_
    refine sxl_y (wn_none rfl) rfl rfl (yp rfl) ?_
    refine sxl_off rfl rfl rfl rfl rfl rfl ?_
    refine sxl_off rfl rfl rfl rfl rfl rfl ?_
    refine sxl_off rfl rfl rfl rfl rfl rfl ?_
    refine sxl_y (wn_none rfl) rfl rfl (yp rfl) ?_
    refine sxl_nil ?_
    refine qx_seq ?_
    refine sx_true rfl ?_
    refine sx_seq ?_
    refine sx_region ?_
    refine sxl_y (wn_none rfl) rfl rfl (yp rfl) ?_
    refine sxl_nil ?_
    refine qx_seq ?_
    refine sx_ret ?_
    refine qx_then_ret ?_
    refine qx_ret1 rfl rfl ?_
    exact ⟨by rw [hno], Fr.refl⟩
  by_cases h1 : 32 < l.length
  · have hno : nameOk l = false := by unfold nameOk; simp; omega
    refine sx_seq ?_
    refine sx_region ?_
    refine sxl_y (wn_none rfl) rfl rfl (yp rfl) ?_
    refine sxl_nil ?_
    refine qx_seq ?_
    refine sx_seq ?_
    refine sx_seq ?_
    refine sx_region ?_
    refine sxl_y (wn_none rfl) rfl rfl (yp rfl) ?_
    refine sxl_y (wn_none rfl) rfl rfl (y_slen rfl rfl Tryd.underlying9) ?_
    refine sxl_y (wn_none rfl) rfl rfl (y_eql_f rfl rfl rfl (by omega)) ?_
    refine sxl_y (wn_none rfl) rfl rfl (yp rfl) ?_
    refine sxl_y (wn_on rfl rfl rfl) rfl rfl (yp rfl) ?_
    refine sxl_y (wn_on rfl rfl rfl) rfl rfl (y_slen rfl rfl Tryd.underlying9) ?_
    refine sxl_y (wn_on rfl rfl rfl) rfl rfl (y_gtr_t rfl rfl rfl (by omega)) ?_
    refine sxl_y (wn_none rfl) rfl rfl (yp rfl) ?_
    refine sxl_nil ?_
    refine qx_seq ?_
    refine sx_true rfl ?_
    refine sx_seq ?_
    refine sx_region ?_
    refine sxl_y (wn_none rfl) rfl rfl (yp rfl) ?_
    refine sxl_nil ?_
    refine qx_seq ?_
    refine sx_ret ?_
    refine qx_then_ret ?_
    refine qx_ret1 rfl rfl ?_
    exact ⟨by rw [hno], Fr.refl⟩
  obtain ⟨c0, r0, hl⟩ : ∃ c0 r0, l = c0 :: r0 := List.exists_cons_of_ne_nil (by intro e; rw [e] at h0; exact h0 rfl)
  have hno : nameOk l = (letter c0 && bytesOk l) := by
    have : nameFrom 0 l = (letter c0 && bytesOk l) := by rw [hl]; exact nameFrom_zero c0 r0
    unfold nameOk; rw [this]; simp [show 1 ≤ l.length by omega, show l.length ≤ 32 by omega]
  have hc0 : l[0]? = some c0 := by rw [hl]; rfl
  refine sx_seq ?_
  refine sx_region ?_
  refine sxl_y (wn_none rfl) rfl rfl (yp rfl) ?_
  refine sxl_nil ?_
  refine qx_seq ?_
  refine sx_seq ?_
  refine sx_seq ?_
  refine sx_region ?_
  refine sxl_y (wn_none rfl) rfl rfl (yp rfl) ?_
  refine sxl_y (wn_none rfl) rfl rfl (y_slen rfl rfl Tryd.underlying9) ?_
  refine sxl_y (wn_none rfl) rfl rfl (y_eql_f rfl rfl rfl (by omega)) ?_
  refine sxl_y (wn_none rfl) rfl rfl (yp rfl) ?_
  refine sxl_y (wn_on rfl rfl rfl) rfl rfl (yp rfl) ?_
  refine sxl_y (wn_on rfl rfl rfl) rfl rfl (y_slen rfl rfl Tryd.underlying9) ?_
  refine sxl_y (wn_on rfl rfl rfl) rfl rfl (y_gtr_f rfl rfl rfl (by omega)) ?_
  refine sxl_y (wn_none rfl) rfl rfl (yp rfl) ?_
  refine sxl_nil ?_
  refine qx_seq ?_
  refine sx_false rfl ?_
  refine sx_skip ?_
  refine qx_seq ?_
  refine sx_seq ?_
  refine sx_region ?_
  refine sxl_call (some 13) (by first | exact wn_none rfl | exact wn_on rfl rfl rfl) rfl rfl (yc_call rfl rfl Tryd.call15) (tab_calls _) ?_
  rintro _ w1 ⟨rfl, hf1⟩
  refine ⟨_, rfl, ?_⟩
  refine sxl_does (some 3) (wn_none rfl) rfl rfl (fun ρ hρ => does_alloc 46 rfl _ zeroT table_zero rfl) ?_
  rintro _ w2 ⟨g, rfl, hg1, hg2, hb, hf2⟩
  refine sxl_does none (wn_none rfl) rfl rfl (fun ρ hρ => does_store 46 (.tmp 3) (.tmp 13) rfl g 0 46 _ tabL (hρ _ _ rfl) ((hρ _ _ rfl).trans tabV_eq) hb (by rw [tabL_len]; exact table_size) (by rw [tabL_len, zeroT_len]; omega) tabL_one) ?_
  rintro _ w3 ⟨rfl, hb3, hf3⟩
  rw [put_all zeroT tabL (by rw [tabL_len, zeroT_len])] at hb3
  have hf : Fr0 w w3 := (hf1.trans hf2).step hf3 (fun k hk e => by have := hf1.size; omega)
  refine sxl_nil ?_
  refine qx_seq ?_
  refine sx_seq ?_
  refine sx_seq ?_
  refine sx_region ?_
  refine sxl_y (wn_none rfl) rfl rfl (yp rfl) ?_
  refine sxl_y (wn_none rfl) rfl rfl (y_slen rfl rfl Tryd.underlying9) ?_
  refine sxl_y (wn_none rfl) rfl rfl (yp rfl) ?_
  refine sxl_nil ?_
  refine qx_seq ?_
  refine sx_block ?_
  have tcell : ∀ c : UInt8, Cell w3.heap g (0 + ((c.toNat : Int)).toNat * 1) (.int .u8 (tabN c.toNat : Int)) := fun c => by
    have := hb3.c c.toNat (tabL_at c.toNat_lt)
    simpa using this
  refine sx_loop (fun e wr m => ∃ (i : Nat), e = [(16, .int .i64 (i : Int)), (15, .int .i64 (l.length : Int)), (3, .pointer (some ⟨g, 0, none⟩)), (0, str l)] ∧ w3 = wr ∧ i ≤ l.length ∧ bytesOk (l.take i) = true ∧ m = l.length - i) ⟨0, rfl, rfl, Nat.zero_le _, rfl, rfl⟩ ⟨rfl, rfl, rfl, rfl, trivial⟩ ?_
  rintro _ _ _ ⟨i, rfl, rfl, hi, hok, rfl⟩
  by_cases hlt : i < l.length
  · obtain ⟨c, hc⟩ : ∃ c, l[i]? = some c := ⟨_, List.getElem?_eq_getElem hlt⟩
    have h256 := c.toNat_lt
    have ct := tcell c
    have hsplit : l = l.take i ++ c :: l.drop (i + 1) := by
      have h1 : l.drop i = c :: l.drop (i + 1) := by
        rw [List.drop_eq_getElem_cons hlt]
        congr 1
        rw [List.getElem?_eq_getElem hlt] at hc
        exact Option.some.inj hc
      rw [← h1, List.take_append_drop]
    have htab := tabN_of c
    by_cases hz : tabN c.toNat = 0
    · have hbad : bytesOk l = false := by
        rw [hz] at htab
        have h3 : letter c = false := by cases hq : letter c with | false => rfl | true => rw [hq] at htab; simp at htab
        have h4 : other c = false := by cases hq : other c with | false => rfl | true => rw [h3, hq] at htab; simp at htab
        rw [hsplit]; unfold bytesOk; simp [h3, h4]
      refine sx_seq ?_
      refine sx_region ?_
      refine sxl_y (wn_none rfl) rfl rfl (y_lss_t rfl rfl rfl (by omega)) ?_
      refine sxl_nil ?_
      refine qx_seq ?_
      refine sx_seq ?_
      refine sx_true rfl ?_
      refine sx_skip ?_
      refine qx_seq ?_
      refine sx_seq ?_
      refine sx_block ?_
      refine sx_seq ?_
      refine sx_region ?_
      refine sxl_y (wn_none rfl) rfl rfl (yp rfl) ?_
      refine sxl_y (wn_none rfl) rfl rfl (yp rfl) ?_
      refine sxl_nil ?_
      refine qx_seq ?_
      refine sx_seq ?_
      refine sx_region ?_
      refine sxl_y (wn_none rfl) rfl rfl (yp rfl) ?_
      refine sxl_y (wn_none rfl) rfl rfl (yp rfl) ?_
      refine sxl_y (wn_none rfl) rfl rfl (y_sindex rfl rfl rfl Tryd.underlying9 hc) ?_
      refine sxl_y (wn_none rfl) rfl rfl (y_indexA rfl rfl rfl (ar rfl) (by omega)) ?_
      refine sxl_y (wn_none rfl) rfl rfl (y_load rfl rfl (sc rfl) (by assumption)) ?_
      refine sxl_y (wn_none rfl) rfl rfl (y_eql_t rfl rfl rfl (by omega)) ?_
      refine sxl_nil ?_
      refine qx_seq ?_
      refine sx_true rfl ?_
      refine sx_seq ?_
      refine sx_region ?_
      refine sxl_y (wn_none rfl) rfl rfl (yp rfl) ?_
      refine sxl_nil ?_
      refine qx_seq ?_
      refine sx_ret ?_
      refine qx_block_ret ?_
      refine qx_then_ret ?_
      refine qx_then_ret ?_
      refine qx_block_ret ?_
      refine qx_then_ret ?_
      refine qx_ret1 rfl rfl ?_
      exact ⟨by rw [hno, hbad, Bool.and_false], hf⟩
    · have hstep : bytesOk (l.take (i + 1)) = true := by
        have h3 : (letter c || other c) = true := by
          cases hq : letter c with
          | true => rfl
          | false => cases hq2 : other c with
            | true => rfl
            | false => rw [hq, hq2] at htab; simp at htab; omega
        rw [List.take_add_one, hc]
        unfold bytesOk at hok ⊢
        rw [List.all_append, hok]
        simpa using h3
      refine sx_seq ?_
      refine sx_region ?_
      refine sxl_y (wn_none rfl) rfl rfl (y_lss_t rfl rfl rfl (by omega)) ?_
      refine sxl_nil ?_
      refine qx_seq ?_
      refine sx_seq ?_
      refine sx_true rfl ?_
      refine sx_skip ?_
      refine qx_seq ?_
      refine sx_seq ?_
      refine sx_block ?_
      refine sx_seq ?_
      refine sx_region ?_
      refine sxl_y (wn_none rfl) rfl rfl (yp rfl) ?_
      refine sxl_y (wn_none rfl) rfl rfl (yp rfl) ?_
      refine sxl_nil ?_
      refine qx_seq ?_
      refine sx_seq ?_
      refine sx_region ?_
      refine sxl_y (wn_none rfl) rfl rfl (yp rfl) ?_
      refine sxl_y (wn_none rfl) rfl rfl (yp rfl) ?_
      refine sxl_y (wn_none rfl) rfl rfl (y_sindex rfl rfl rfl Tryd.underlying9 hc) ?_
      refine sxl_y (wn_none rfl) rfl rfl (y_indexA rfl rfl rfl (ar rfl) (by omega)) ?_
      refine sxl_y (wn_none rfl) rfl rfl (y_load rfl rfl (sc rfl) (by assumption)) ?_
      refine sxl_y (wn_none rfl) rfl rfl (y_eql_f rfl rfl rfl (by omega)) ?_
      refine sxl_nil ?_
      refine qx_seq ?_
      refine sx_false rfl ?_
      refine sx_skip ?_
      refine qx_block_normal ?_
      refine qx_seq ?_
      refine sx_region ?_
      refine sxl_y (wn_none rfl) rfl rfl (y_add rfl rfl rfl (by omega)) ?_
      refine sxl_y (wn_none rfl) rfl rfl (yp rfl) ?_
      refine sxl_nil ?_
      exact qx_again [(16, .int .i64 ((i + 1 : Nat) : Int)), (15, .int .i64 (l.length : Int)), (3, .pointer (some ⟨g, 0, none⟩)), (0, str l)] (l.length - (i + 1)) ⟨i + 1, rfl, rfl, by omega, hstep, rfl⟩ (by omega) ⟨rfl, rfl, rfl, rfl, trivial⟩
  · obtain rfl : i = l.length := by omega
    rw [List.take_length] at hok
    have h256 := c0.toNat_lt
    have ct := tcell c0
    have htab := tabN_of c0
    cases hlet : letter c0 with
    | true =>
      rw [hlet] at htab
      have h2 : tabN c0.toNat = 2 := htab
      refine sx_seq ?_
      refine sx_region ?_
      refine sxl_y (wn_none rfl) rfl rfl (y_lss_f rfl rfl rfl (by omega)) ?_
      refine sxl_nil ?_
      refine qx_seq ?_
      refine sx_seq ?_
      refine sx_false rfl ?_
      refine sx_exit ?_
      refine qx_then_exit ?_
      refine qx_then_exit ?_
      refine qx_block_hit ?_
      refine qx_seq ?_
      refine sx_seq ?_
      refine sx_region ?_
      refine sxl_y (wn_none rfl) rfl rfl (yp rfl) ?_
      refine sxl_y (wn_none rfl) rfl rfl (y_sindex (m := 0) rfl rfl rfl Tryd.underlying9 hc0) ?_
      refine sxl_y (wn_none rfl) rfl rfl (y_indexA rfl rfl rfl (ar rfl) (by omega)) ?_
      refine sxl_y (wn_none rfl) rfl rfl (y_load rfl rfl (sc rfl) (by assumption)) ?_
      refine sxl_y (wn_none rfl) rfl rfl (y_eql_t rfl rfl rfl (by omega)) ?_
      refine sxl_y (wn_none rfl) rfl rfl (yp rfl) ?_
      refine sxl_nil ?_
      refine qx_seq ?_
      refine sx_ret ?_
      refine qx_ret1 rfl rfl ?_
      exact ⟨by rw [hno, hlet, hok]; rfl, hf⟩
    | false =>
      rw [hlet] at htab
      have h2 : tabN c0.toNat ≠ 2 := by rw [htab]; cases other c0 <;> simp
      refine sx_seq ?_
      refine sx_region ?_
      refine sxl_y (wn_none rfl) rfl rfl (y_lss_f rfl rfl rfl (by omega)) ?_
      refine sxl_nil ?_
      refine qx_seq ?_
      refine sx_seq ?_
      refine sx_false rfl ?_
      refine sx_exit ?_
      refine qx_then_exit ?_
      refine qx_then_exit ?_
      refine qx_block_hit ?_
      refine qx_seq ?_
      refine sx_seq ?_
      refine sx_region ?_
      refine sxl_y (wn_none rfl) rfl rfl (yp rfl) ?_
      refine sxl_y (wn_none rfl) rfl rfl (y_sindex (m := 0) rfl rfl rfl Tryd.underlying9 hc0) ?_
      refine sxl_y (wn_none rfl) rfl rfl (y_indexA rfl rfl rfl (ar rfl) (by omega)) ?_
      refine sxl_y (wn_none rfl) rfl rfl (y_load rfl rfl (sc rfl) (by assumption)) ?_
      refine sxl_y (wn_none rfl) rfl rfl (y_eql_f rfl rfl rfl (by omega)) ?_
      refine sxl_y (wn_none rfl) rfl rfl (yp rfl) ?_
      refine sxl_nil ?_
      refine qx_seq ?_
      refine sx_ret ?_
      refine qx_ret1 rfl rfl ?_
      exact ⟨by rw [hno, hlet]; rfl, hf⟩
end Go.Proofs.YtklciidffdnglaaDoor
