/- The document's pager takes, drops, writes, reads, undoes. No condition. -/
import Derived.Test.YthdlljlcffokbaaDoorZRf1
namespace Go.Proofs.YthdlljlcffokbaaDoor
open Go.RowKit

theorem does_st {w : World} {o : Oper} {ρ : Operand → Value} {a b : Operand} {R : RP} {x : RX} {k : Nat} {v : Int} (ho : o.op = .store 3 a b) (ha : ρ a = .pointer (some ⟨R.gs, 0 + k * 1, none⟩)) (hb : ρ b = .int .i64 v) (h : RfAt w R x) (hk : k < x.st.length) :
    Does Tryd.prog ρ o w fun u w' => u = undef ∧ RfTo w w' R { x with st := x.st.set k v } := by
  refine (does_store1 3 a b ho R.gs (0 + k * 1) 3 _ (.int .i64 v) ha hb rfl h.hs (by kernel_rfl) (by rw [iv_len]; omega) rfl).mono fun u w' ⟨h1, h2, h3⟩ => ⟨h1, ?_⟩
  rw [Nat.zero_add, Nat.mul_one] at h2
  exact .setSt h h3 h2
section
variable {w : World} {R : RP} {x : RX}
set_option maxHeartbeats 4000000 in
theorem ralloc_some (h : RfAt w R x) (hs : x.st.length ≤ 100000) {j : Nat} (hj : firstFree (lst x.st) (x.st.length - 2) 2 = some j) : Calls Tryd.prog 45 #[.pointer (some ⟨R.gp, 0, none⟩)] w fun e w' => e = .returned (.tuple #[.int .i64 (j : Int), .int .i64 0]) ∧ RfTo w w' R { x with st := x.st.set j 2 } := by
  have c1 := h.c1
  refine sx_enter (vs := [_]) Tryd.func45 rfl Tryd.ntmps45 rfl ?_
  refine sx_seq ?_
  refine sx_region ?_
  iterate 2 refine sxl_y (wn_none rfl) rfl rfl (yp rfl) ?_
  refine sxl_nil ?_
  refine qx_seq ?_
  refine sx_seq ?_
  refine sx_seq ?_
  refine sx_region ?_
  refine sxl_y (wn_none rfl) rfl rfl (yp rfl) ?_
  refine sxl_nil ?_
  refine qx_seq ?_
  refine sx_block ?_
  refine sx_loop (fun e wr m => ∃ (i : Nat), e = [(4, .int .i64 (i : Int)), (0, .pointer (some ⟨R.gp, 0, none⟩))] ∧ w = wr ∧ 2 ≤ i ∧ firstFree (lst x.st) (x.st.length - i) i = some j ∧ m = x.st.length - i) ⟨2, rfl, rfl, Nat.le_refl _, hj, rfl⟩ ⟨rfl, rfl, trivial⟩ ?_
  rintro _ _ _ ⟨i, rfl, rfl, h2, hi, rfl⟩
  have hlt : i < x.st.length := by
    cases hd : x.st.length - i with
    | zero => rw [hd] at hi; cases hi
    | succ k => omega
  rw [show x.st.length - i = (x.st.length - (i + 1)) + 1 by omega] at hi
  unfold firstFree at hi
  obtain ⟨v, hv⟩ : ∃ v, x.st[i]? = some v := ⟨_, List.getElem?_eq_getElem hlt⟩
  have ce := h.cs hv
  rw [lst_at hv] at hi
  by_cases hz : v = 0
  · rw [if_pos hz] at hi
    injection hi with hi
    subst hi
    refine sx_seq ?_
    refine sx_seq ?_
    refine sx_region ?_
    iterate 4 refine sxl_y (wn_none rfl) rfl rfl (yp rfl) ?_
    refine sxl_y (wn_none rfl) rfl rfl (y_load rfl rfl (sc rfl) (by assumption)) ?_
    refine sxl_y (wn_none rfl) rfl rfl (y_len rfl rfl (sl rfl)) ?_
    refine sxl_y (wn_none rfl) rfl rfl (y_lss_t rfl rfl rfl (by omega)) ?_
    refine sxl_nil ?_
    refine qx_seq ?_
    refine sx_true rfl ?_
    refine sx_skip ?_
    refine qx_seq ?_
    refine sx_seq ?_
    refine sx_block ?_
    refine sx_seq ?_
    refine sx_region ?_
    iterate 3 refine sxl_y (wn_none rfl) rfl rfl (yp rfl) ?_
    refine sxl_y (wn_none rfl) rfl rfl (y_load rfl rfl (sc rfl) (by assumption)) ?_
    refine sxl_y (wn_none rfl) rfl rfl (yp rfl) ?_
    refine sxl_y (wn_none rfl) rfl rfl (y_indexN rfl rfl rfl (sl rfl) (by omega)) ?_
    refine sxl_y (wn_none rfl) rfl rfl (y_load rfl rfl (sc rfl) (by assumption)) ?_
    refine sxl_y (wn_none rfl) rfl rfl (y_eql_t rfl rfl rfl (by omega)) ?_
    refine sxl_nil ?_
    refine qx_seq ?_
    refine sx_true rfl ?_
    refine sx_seq ?_
    refine sx_region ?_
    iterate 3 refine sxl_y (wn_none rfl) rfl rfl (yp rfl) ?_
    refine sxl_y (wn_none rfl) rfl rfl (y_load rfl rfl (sc rfl) (by assumption)) ?_
    refine sxl_y (wn_none rfl) rfl rfl (yp rfl) ?_
    refine sxl_y (wn_none rfl) rfl rfl (y_indexN rfl rfl rfl (sl rfl) (by omega)) ?_
    refine sxl_does none (wn_none rfl) rfl rfl (fun ρ hρ => does_st (k := i) (v := 2) rfl (hρ _ _ rfl) (hρ _ _ rfl) h hlt) ?_
    rintro _ w1 ⟨rfl, hto⟩
    refine sxl_nil ?_
    refine qx_seq ?_
    refine sx_seq ?_
    refine sx_region ?_
    iterate 3 refine sxl_y (wn_none rfl) rfl rfl (yp rfl) ?_
    refine sxl_nil ?_
    refine qx_seq ?_
    refine sx_ret ?_
    refine qx_block_ret ?_
    refine qx_then_ret ?_
    refine qx_then_ret ?_
    refine qx_block_ret ?_
    refine qx_then_ret ?_
    refine qx_ret2 rfl rfl rfl ?_
    exact ⟨rfl, hto⟩
  · rw [if_neg hz] at hi
    refine sx_seq ?_
    refine sx_seq ?_
    refine sx_region ?_
    iterate 4 refine sxl_y (wn_none rfl) rfl rfl (yp rfl) ?_
    refine sxl_y (wn_none rfl) rfl rfl (y_load rfl rfl (sc rfl) (by assumption)) ?_
    refine sxl_y (wn_none rfl) rfl rfl (y_len rfl rfl (sl rfl)) ?_
    refine sxl_y (wn_none rfl) rfl rfl (y_lss_t rfl rfl rfl (by omega)) ?_
    refine sxl_nil ?_
    refine qx_seq ?_
    refine sx_true rfl ?_
    refine sx_skip ?_
    refine qx_seq ?_
    refine sx_seq ?_
    refine sx_block ?_
    refine sx_seq ?_
    refine sx_region ?_
    iterate 3 refine sxl_y (wn_none rfl) rfl rfl (yp rfl) ?_
    refine sxl_y (wn_none rfl) rfl rfl (y_load rfl rfl (sc rfl) (by assumption)) ?_
    refine sxl_y (wn_none rfl) rfl rfl (yp rfl) ?_
    refine sxl_y (wn_none rfl) rfl rfl (y_indexN rfl rfl rfl (sl rfl) (by omega)) ?_
    refine sxl_y (wn_none rfl) rfl rfl (y_load rfl rfl (sc rfl) (by assumption)) ?_
    refine sxl_y (wn_none rfl) rfl rfl (y_eql_f rfl rfl rfl (by omega)) ?_
    refine sxl_nil ?_
    refine qx_seq ?_
    refine sx_false rfl ?_
    refine sx_skip ?_
    refine qx_block_normal ?_
    refine qx_seq ?_
    refine sx_region ?_
    refine sxl_y (wn_none rfl) rfl rfl (yp rfl) ?_
    refine sxl_y (wn_none rfl) rfl rfl (y_add rfl rfl rfl (by omega)) ?_
    refine sxl_y (wn_none rfl) rfl rfl (yp rfl) ?_
    refine sxl_nil ?_
    exact qx_again [(4, .int .i64 ((i + 1 : Nat) : Int)), (0, .pointer (some ⟨R.gp, 0, none⟩))] (x.st.length - (i + 1)) ⟨i + 1, rfl, rfl, by omega, hi, rfl⟩ (by omega) ⟨rfl, rfl, trivial⟩
set_option maxHeartbeats 4000000 in
theorem ralloc_none (h : RfAt w R x) (hs : x.st.length ≤ 100000) (hj : firstFree (lst x.st) (x.st.length - 2) 2 = none) : Calls Tryd.prog 45 #[.pointer (some ⟨R.gp, 0, none⟩)] w fun e w' => e = .returned (.tuple #[.int .i64 0, .int .i64 3]) ∧ w = w' := by
  have c1 := h.c1
  refine sx_enter (vs := [_]) Tryd.func45 rfl Tryd.ntmps45 rfl ?_
  refine sx_seq ?_
  refine sx_region ?_
  iterate 2 refine sxl_y (wn_none rfl) rfl rfl (yp rfl) ?_
  refine sxl_nil ?_
  refine qx_seq ?_
  refine sx_seq ?_
  refine sx_seq ?_
  refine sx_region ?_
  refine sxl_y (wn_none rfl) rfl rfl (yp rfl) ?_
  refine sxl_nil ?_
  refine qx_seq ?_
  refine sx_block ?_
  refine sx_loop (fun e wr m => ∃ (i : Nat), e = [(4, .int .i64 (i : Int)), (0, .pointer (some ⟨R.gp, 0, none⟩))] ∧ w = wr ∧ 2 ≤ i ∧ firstFree (lst x.st) (x.st.length - i) i = none ∧ m = x.st.length - i) ⟨2, rfl, rfl, Nat.le_refl _, hj, rfl⟩ ⟨rfl, rfl, trivial⟩ ?_
  rintro _ _ _ ⟨i, rfl, rfl, h2, hi, rfl⟩
  by_cases hlt : i < x.st.length
  · rw [show x.st.length - i = (x.st.length - (i + 1)) + 1 by omega] at hi
    unfold firstFree at hi
    obtain ⟨v, hv⟩ : ∃ v, x.st[i]? = some v := ⟨_, List.getElem?_eq_getElem hlt⟩
    have ce := h.cs hv
    rw [lst_at hv] at hi
    by_cases hz : v = 0
    · rw [if_pos hz] at hi; cases hi
    · rw [if_neg hz] at hi
      refine sx_seq ?_
      refine sx_seq ?_
      refine sx_region ?_
      iterate 4 refine sxl_y (wn_none rfl) rfl rfl (yp rfl) ?_
      refine sxl_y (wn_none rfl) rfl rfl (y_load rfl rfl (sc rfl) (by assumption)) ?_
      refine sxl_y (wn_none rfl) rfl rfl (y_len rfl rfl (sl rfl)) ?_
      refine sxl_y (wn_none rfl) rfl rfl (y_lss_t rfl rfl rfl (by omega)) ?_
      refine sxl_nil ?_
      refine qx_seq ?_
      refine sx_true rfl ?_
      refine sx_skip ?_
      refine qx_seq ?_
      refine sx_seq ?_
      refine sx_block ?_
      refine sx_seq ?_
      refine sx_region ?_
      iterate 3 refine sxl_y (wn_none rfl) rfl rfl (yp rfl) ?_
      refine sxl_y (wn_none rfl) rfl rfl (y_load rfl rfl (sc rfl) (by assumption)) ?_
      refine sxl_y (wn_none rfl) rfl rfl (yp rfl) ?_
      refine sxl_y (wn_none rfl) rfl rfl (y_indexN rfl rfl rfl (sl rfl) (by omega)) ?_
      refine sxl_y (wn_none rfl) rfl rfl (y_load rfl rfl (sc rfl) (by assumption)) ?_
      refine sxl_y (wn_none rfl) rfl rfl (y_eql_f rfl rfl rfl (by omega)) ?_
      refine sxl_nil ?_
      refine qx_seq ?_
      refine sx_false rfl ?_
      refine sx_skip ?_
      refine qx_block_normal ?_
      refine qx_seq ?_
      refine sx_region ?_
      refine sxl_y (wn_none rfl) rfl rfl (yp rfl) ?_
      refine sxl_y (wn_none rfl) rfl rfl (y_add rfl rfl rfl (by omega)) ?_
      refine sxl_y (wn_none rfl) rfl rfl (yp rfl) ?_
      refine sxl_nil ?_
      exact qx_again [(4, .int .i64 ((i + 1 : Nat) : Int)), (0, .pointer (some ⟨R.gp, 0, none⟩))] (x.st.length - (i + 1)) ⟨i + 1, rfl, rfl, by omega, hi, rfl⟩ (by omega) ⟨rfl, rfl, trivial⟩
  · refine sx_seq ?_
    refine sx_seq ?_
    refine sx_region ?_
    iterate 4 refine sxl_y (wn_none rfl) rfl rfl (yp rfl) ?_
    refine sxl_y (wn_none rfl) rfl rfl (y_load rfl rfl (sc rfl) (by assumption)) ?_
    refine sxl_y (wn_none rfl) rfl rfl (y_len rfl rfl (sl rfl)) ?_
    refine sxl_y (wn_none rfl) rfl rfl (y_lss_f rfl rfl rfl (by omega)) ?_
    refine sxl_nil ?_
    refine qx_seq ?_
    refine sx_false rfl ?_
    refine sx_exit ?_
    refine qx_then_exit ?_
    refine qx_then_exit ?_
    refine qx_block_hit ?_
    refine qx_seq ?_
    refine sx_seq ?_
    refine sx_region ?_
    iterate 2 refine sxl_y (wn_none rfl) rfl rfl (yp rfl) ?_
    refine sxl_nil ?_
    refine qx_seq ?_
    refine sx_ret ?_
    refine qx_ret2 rfl rfl rfl ?_
    exact ⟨rfl, rfl⟩
/-- What the document's Drop does. -/
def RX.drop (x : RX) (n : Int) : RX × Int :=
  if n < 2 ∨ (x.st.length : Int) ≤ n then (x, 1) else if lst x.st n = 0 ∨ lst x.st n = 4 then (x, 250) else if lst x.st n = 1 then ({ x with st := x.st.set n.toNat 4 }, 0) else ({ x with st := x.st.set n.toNat 0 }, 0)
set_option maxHeartbeats 4000000 in
theorem rdrop_any (h : RfAt w R x) (n : Int) : Calls Tryd.prog 47 #[.pointer (some ⟨R.gp, 0, none⟩), .int .i64 n] w fun e w' => e = .returned (.int .i64 (x.drop n).2) ∧ RfTo w w' R (x.drop n).1 := by
  have c1 := h.c1
  unfold RX.drop
  by_cases hn : n < 2 ∨ (x.st.length : Int) ≤ n
  · rw [if_pos hn]
    refine sx_enter (vs := [_, _]) Tryd.func47 rfl Tryd.ntmps47 rfl ?_
    refine sx_seq ?_
    refine sx_region ?_
    refine sxl_y (wn_none rfl) rfl rfl (yp rfl) ?_
    refine sxl_nil ?_
    refine qx_seq ?_
    refine sx_seq ?_
    refine sx_seq ?_
    refine sx_region ?_
    iterate 2 refine sxl_y (wn_none rfl) rfl rfl (yp rfl) ?_
    refine sxl_pure (wn_none rfl) rfl rfl (yc_call rfl rfl Tryd.call44) (rpage_f h hn) ?_
    refine sxl_y (wn_none rfl) rfl rfl (yp rfl) ?_
    refine sxl_nil ?_
    refine qx_seq ?_
    refine sx_true rfl ?_
    refine sx_seq ?_
    refine sx_region ?_
    refine sxl_y (wn_none rfl) rfl rfl (yp rfl) ?_
    refine sxl_nil ?_
    refine qx_seq ?_
    refine sx_ret ?_
    refine qx_then_ret ?_
    refine qx_ret1 rfl rfl ?_
    exact ⟨rfl, .refl h⟩
  rw [if_neg hn]
  obtain ⟨k, rfl⟩ : ∃ k : Nat, n = (k : Int) := ⟨n.toNat, by omega⟩
  have hlt : k < x.st.length := by omega
  obtain ⟨v, hv⟩ : ∃ v, x.st[k]? = some v := ⟨_, List.getElem?_eq_getElem hlt⟩
  have ce := h.cs hv
  rw [lst_at hv, Int.toNat_natCast]
  have hpt := rpage_t h (n := (k : Int)) (by omega) (by omega)
  by_cases h0 : v = 0
  · rw [if_pos (.inl h0)]
    refine sx_enter (vs := [_, _]) Tryd.func47 rfl Tryd.ntmps47 rfl ?_
    refine sx_seq ?_
    refine sx_region ?_
    refine sxl_y (wn_none rfl) rfl rfl (yp rfl) ?_
    refine sxl_nil ?_
    refine qx_seq ?_
    refine sx_seq ?_
    refine sx_seq ?_
    refine sx_region ?_
    iterate 2 refine sxl_y (wn_none rfl) rfl rfl (yp rfl) ?_
    refine sxl_pure (wn_none rfl) rfl rfl (yc_call rfl rfl Tryd.call44) (hpt) ?_
    refine sxl_y (wn_none rfl) rfl rfl (yp rfl) ?_
    refine sxl_nil ?_
    refine qx_seq ?_
    refine sx_false rfl ?_
    refine sx_skip ?_
    refine qx_seq ?_
    refine sx_seq ?_
    refine sx_seq ?_
    refine sx_region ?_
    iterate 3 refine sxl_y (wn_none rfl) rfl rfl (yp rfl) ?_
    refine sxl_y (wn_none rfl) rfl rfl (y_load rfl rfl (sc rfl) (by assumption)) ?_
    refine sxl_y (wn_none rfl) rfl rfl (yp rfl) ?_
    refine sxl_y (wn_none rfl) rfl rfl (y_indexN rfl rfl rfl (sl rfl) (by omega)) ?_
    refine sxl_y (wn_none rfl) rfl rfl (y_load rfl rfl (sc rfl) (by assumption)) ?_
    refine sxl_nil ?_
    refine qx_seq ?_
    refine sx_block ?_
    refine sx_seq ?_
    refine sx_seq ?_
    refine sx_region ?_
    refine sxl_y (wn_none rfl) rfl rfl (y_eql_t rfl rfl rfl (by omega)) ?_
    refine sxl_y (wn_none rfl) rfl rfl (yp rfl) ?_
    refine sxl_nil ?_
    refine qx_seq ?_
    refine sx_true rfl ?_
    refine sx_skip ?_
    refine qx_seq ?_
    refine sx_true rfl ?_
    refine sx_seq ?_
    refine sx_region ?_
    refine sxl_y (wn_none rfl) rfl rfl (yp rfl) ?_
    refine sxl_nil ?_
    refine qx_seq ?_
    refine sx_ret ?_
    refine qx_block_ret ?_
    refine qx_then_ret ?_
    refine qx_ret1 rfl rfl ?_
    exact ⟨rfl, .refl h⟩
  by_cases h4 : v = 4
  · rw [if_pos (.inr h4)]
    refine sx_enter (vs := [_, _]) Tryd.func47 rfl Tryd.ntmps47 rfl ?_
    refine sx_seq ?_
    refine sx_region ?_
    refine sxl_y (wn_none rfl) rfl rfl (yp rfl) ?_
    refine sxl_nil ?_
    refine qx_seq ?_
    refine sx_seq ?_
    refine sx_seq ?_
    refine sx_region ?_
    iterate 2 refine sxl_y (wn_none rfl) rfl rfl (yp rfl) ?_
    refine sxl_pure (wn_none rfl) rfl rfl (yc_call rfl rfl Tryd.call44) (hpt) ?_
    refine sxl_y (wn_none rfl) rfl rfl (yp rfl) ?_
    refine sxl_nil ?_
    refine qx_seq ?_
    refine sx_false rfl ?_
    refine sx_skip ?_
    refine qx_seq ?_
    refine sx_seq ?_
    refine sx_seq ?_
    refine sx_region ?_
    iterate 3 refine sxl_y (wn_none rfl) rfl rfl (yp rfl) ?_
    refine sxl_y (wn_none rfl) rfl rfl (y_load rfl rfl (sc rfl) (by assumption)) ?_
    refine sxl_y (wn_none rfl) rfl rfl (yp rfl) ?_
    refine sxl_y (wn_none rfl) rfl rfl (y_indexN rfl rfl rfl (sl rfl) (by omega)) ?_
    refine sxl_y (wn_none rfl) rfl rfl (y_load rfl rfl (sc rfl) (by assumption)) ?_
    refine sxl_nil ?_
    refine qx_seq ?_
    refine sx_block ?_
    refine sx_seq ?_
    refine sx_seq ?_
    refine sx_region ?_
    refine sxl_y (wn_none rfl) rfl rfl (y_eql_f rfl rfl rfl (by omega)) ?_
    refine sxl_y (wn_none rfl) rfl rfl (yp rfl) ?_
    refine sxl_nil ?_
    refine qx_seq ?_
    refine sx_false rfl ?_
    refine sx_region ?_
    refine sxl_y (wn_none rfl) rfl rfl (y_eql_t rfl rfl rfl (by omega)) ?_
    refine sxl_y (wn_none rfl) rfl rfl (yp rfl) ?_
    refine sxl_nil ?_
    refine qx_seq ?_
    refine sx_true rfl ?_
    refine sx_seq ?_
    refine sx_region ?_
    refine sxl_y (wn_none rfl) rfl rfl (yp rfl) ?_
    refine sxl_nil ?_
    refine qx_seq ?_
    refine sx_ret ?_
    refine qx_block_ret ?_
    refine qx_then_ret ?_
    refine qx_ret1 rfl rfl ?_
    exact ⟨rfl, .refl h⟩
  rw [if_neg (by omega)]
  by_cases h1 : v = 1
  · rw [if_pos h1]
    refine sx_enter (vs := [_, _]) Tryd.func47 rfl Tryd.ntmps47 rfl ?_
    refine sx_seq ?_
    refine sx_region ?_
    refine sxl_y (wn_none rfl) rfl rfl (yp rfl) ?_
    refine sxl_nil ?_
    refine qx_seq ?_
    refine sx_seq ?_
    refine sx_seq ?_
    refine sx_region ?_
    iterate 2 refine sxl_y (wn_none rfl) rfl rfl (yp rfl) ?_
    refine sxl_pure (wn_none rfl) rfl rfl (yc_call rfl rfl Tryd.call44) (hpt) ?_
    refine sxl_y (wn_none rfl) rfl rfl (yp rfl) ?_
    refine sxl_nil ?_
    refine qx_seq ?_
    refine sx_false rfl ?_
    refine sx_skip ?_
    refine qx_seq ?_
    refine sx_seq ?_
    refine sx_seq ?_
    refine sx_region ?_
    iterate 3 refine sxl_y (wn_none rfl) rfl rfl (yp rfl) ?_
    refine sxl_y (wn_none rfl) rfl rfl (y_load rfl rfl (sc rfl) (by assumption)) ?_
    refine sxl_y (wn_none rfl) rfl rfl (yp rfl) ?_
    refine sxl_y (wn_none rfl) rfl rfl (y_indexN rfl rfl rfl (sl rfl) (by omega)) ?_
    refine sxl_y (wn_none rfl) rfl rfl (y_load rfl rfl (sc rfl) (by assumption)) ?_
    refine sxl_nil ?_
    refine qx_seq ?_
    refine sx_block ?_
    refine sx_seq ?_
    refine sx_seq ?_
    refine sx_region ?_
    refine sxl_y (wn_none rfl) rfl rfl (y_eql_f rfl rfl rfl (by omega)) ?_
    refine sxl_y (wn_none rfl) rfl rfl (yp rfl) ?_
    refine sxl_nil ?_
    refine qx_seq ?_
    refine sx_false rfl ?_
    refine sx_region ?_
    refine sxl_y (wn_none rfl) rfl rfl (y_eql_f rfl rfl rfl (by omega)) ?_
    refine sxl_y (wn_none rfl) rfl rfl (yp rfl) ?_
    refine sxl_nil ?_
    refine qx_seq ?_
    refine sx_false rfl ?_
    refine sx_seq ?_
    refine sx_region ?_
    refine sxl_y (wn_none rfl) rfl rfl (y_eql_t rfl rfl rfl (by omega)) ?_
    refine sxl_y (wn_none rfl) rfl rfl (yp rfl) ?_
    refine sxl_nil ?_
    refine qx_seq ?_
    refine sx_true rfl ?_
    refine sx_region ?_
    iterate 3 refine sxl_y (wn_none rfl) rfl rfl (yp rfl) ?_
    refine sxl_y (wn_none rfl) rfl rfl (y_load rfl rfl (sc rfl) (by assumption)) ?_
    refine sxl_y (wn_none rfl) rfl rfl (yp rfl) ?_
    refine sxl_y (wn_none rfl) rfl rfl (y_indexN rfl rfl rfl (sl rfl) (by omega)) ?_
    refine sxl_does none (wn_none rfl) rfl rfl (fun ρ hρ => does_st (k := k) (v := 4) rfl (hρ _ _ rfl) (hρ _ _ rfl) h hlt) ?_
    rintro _ w1 ⟨rfl, hto⟩
    refine sxl_nil ?_
    refine qx_block_normal ?_
    refine qx_seq ?_
    refine sx_seq ?_
    refine sx_region ?_
    refine sxl_y (wn_none rfl) rfl rfl (yp rfl) ?_
    refine sxl_nil ?_
    refine qx_seq ?_
    refine sx_ret ?_
    refine qx_ret1 rfl rfl ?_
    exact ⟨rfl, hto⟩
  · rw [if_neg h1]
    refine sx_enter (vs := [_, _]) Tryd.func47 rfl Tryd.ntmps47 rfl ?_
    refine sx_seq ?_
    refine sx_region ?_
    refine sxl_y (wn_none rfl) rfl rfl (yp rfl) ?_
    refine sxl_nil ?_
    refine qx_seq ?_
    refine sx_seq ?_
    refine sx_seq ?_
    refine sx_region ?_
    iterate 2 refine sxl_y (wn_none rfl) rfl rfl (yp rfl) ?_
    refine sxl_pure (wn_none rfl) rfl rfl (yc_call rfl rfl Tryd.call44) (hpt) ?_
    refine sxl_y (wn_none rfl) rfl rfl (yp rfl) ?_
    refine sxl_nil ?_
    refine qx_seq ?_
    refine sx_false rfl ?_
    refine sx_skip ?_
    refine qx_seq ?_
    refine sx_seq ?_
    refine sx_seq ?_
    refine sx_region ?_
    iterate 3 refine sxl_y (wn_none rfl) rfl rfl (yp rfl) ?_
    refine sxl_y (wn_none rfl) rfl rfl (y_load rfl rfl (sc rfl) (by assumption)) ?_
    refine sxl_y (wn_none rfl) rfl rfl (yp rfl) ?_
    refine sxl_y (wn_none rfl) rfl rfl (y_indexN rfl rfl rfl (sl rfl) (by omega)) ?_
    refine sxl_y (wn_none rfl) rfl rfl (y_load rfl rfl (sc rfl) (by assumption)) ?_
    refine sxl_nil ?_
    refine qx_seq ?_
    refine sx_block ?_
    refine sx_seq ?_
    refine sx_seq ?_
    refine sx_region ?_
    refine sxl_y (wn_none rfl) rfl rfl (y_eql_f rfl rfl rfl (by omega)) ?_
    refine sxl_y (wn_none rfl) rfl rfl (yp rfl) ?_
    refine sxl_nil ?_
    refine qx_seq ?_
    refine sx_false rfl ?_
    refine sx_region ?_
    refine sxl_y (wn_none rfl) rfl rfl (y_eql_f rfl rfl rfl (by omega)) ?_
    refine sxl_y (wn_none rfl) rfl rfl (yp rfl) ?_
    refine sxl_nil ?_
    refine qx_seq ?_
    refine sx_false rfl ?_
    refine sx_seq ?_
    refine sx_region ?_
    refine sxl_y (wn_none rfl) rfl rfl (y_eql_f rfl rfl rfl (by omega)) ?_
    refine sxl_y (wn_none rfl) rfl rfl (yp rfl) ?_
    refine sxl_nil ?_
    refine qx_seq ?_
    refine sx_false rfl ?_
    refine sx_region ?_
    iterate 3 refine sxl_y (wn_none rfl) rfl rfl (yp rfl) ?_
    refine sxl_y (wn_none rfl) rfl rfl (y_load rfl rfl (sc rfl) (by assumption)) ?_
    refine sxl_y (wn_none rfl) rfl rfl (yp rfl) ?_
    refine sxl_y (wn_none rfl) rfl rfl (y_indexN rfl rfl rfl (sl rfl) (by omega)) ?_
    refine sxl_does none (wn_none rfl) rfl rfl (fun ρ hρ => does_st (k := k) (v := 0) rfl (hρ _ _ rfl) (hρ _ _ rfl) h hlt) ?_
    rintro _ w1 ⟨rfl, hto⟩
    refine sxl_nil ?_
    refine qx_block_normal ?_
    refine qx_seq ?_
    refine sx_seq ?_
    refine sx_region ?_
    refine sxl_y (wn_none rfl) rfl rfl (yp rfl) ?_
    refine sxl_nil ?_
    refine qx_seq ?_
    refine sx_ret ?_
    refine qx_ret1 rfl rfl ?_
    exact ⟨rfl, hto⟩
/-- What the document's Write does. -/
def RX.write (x : RX) (n : Int) (b : List UInt8) : RX × Int :=
  if (n < 2 ∨ (x.st.length : Int) ≤ n) ∨ 502 < b.length then (x, 1) else if lst x.st n ≠ 2 ∧ lst x.st n ≠ 3 then (x, 250) else ({ x with st := x.st.set n.toNat 3, wrote := updP x.wrote n b }, 0)
set_option maxHeartbeats 4000000 in
theorem rwrite_any (h : RfAt w R x) (n : Int) (b : List UInt8) (hb : b.length ≤ 1000000) : Calls Tryd.prog 46 #[.pointer (some ⟨R.gp, 0, none⟩), .int .i64 n, str b, .int .i64 502] w fun e w' => e = .returned (.int .i64 (x.write n b).2) ∧ RfTo w w' R (x.write n b).1 := by
  have c0 := h.c0
  have c1 := h.c1
  unfold RX.write
  by_cases hn : n < 2 ∨ (x.st.length : Int) ≤ n
  · rw [if_pos (.inl hn)]
    refine sx_enter (vs := [_, _, _, _]) Tryd.func46 rfl Tryd.ntmps46 rfl ?_
    refine sx_seq ?_
    refine sx_region ?_
    refine sxl_y (wn_none rfl) rfl rfl (yp rfl) ?_
    refine sxl_nil ?_
    refine qx_seq ?_
    refine sx_seq ?_
    refine sx_seq ?_
    refine sx_region ?_
    iterate 2 refine sxl_y (wn_none rfl) rfl rfl (yp rfl) ?_
    refine sxl_pure (wn_none rfl) rfl rfl (yc_call rfl rfl Tryd.call44) (rpage_f h hn) ?_
    iterate 2 refine sxl_y (wn_none rfl) rfl rfl (yp rfl) ?_
    refine sxl_off rfl rfl rfl rfl rfl rfl ?_
    refine sxl_off rfl rfl rfl rfl rfl rfl ?_
    refine sxl_off rfl rfl rfl rfl rfl rfl ?_
    refine sxl_off rfl rfl rfl rfl rfl rfl ?_
    refine sxl_y (wn_none rfl) rfl rfl (yp rfl) ?_
    refine sxl_nil ?_
    refine qx_seq ?_
    refine sx_true rfl ?_
    refine sx_seq ?_
    refine sx_region ?_
    refine sxl_y (wn_none rfl) rfl rfl (yp rfl) ?_
    refine sxl_nil ?_
    refine qx_seq ?_
    refine sx_ret ?_
    refine qx_then_ret ?_
    refine qx_ret1 rfl rfl ?_
    exact ⟨rfl, .refl h⟩
  obtain ⟨k, rfl⟩ : ∃ k : Nat, n = (k : Int) := ⟨n.toNat, by omega⟩
  have hlt : k < x.st.length := by omega
  have hpt := rpage_t h (n := (k : Int)) (by omega) (by omega)
  by_cases hl : 502 < b.length
  · rw [if_pos (.inr hl)]
    refine sx_enter (vs := [_, _, _, _]) Tryd.func46 rfl Tryd.ntmps46 rfl ?_
    refine sx_seq ?_
    refine sx_region ?_
    refine sxl_y (wn_none rfl) rfl rfl (yp rfl) ?_
    refine sxl_nil ?_
    refine qx_seq ?_
    refine sx_seq ?_
    refine sx_seq ?_
    refine sx_region ?_
    iterate 2 refine sxl_y (wn_none rfl) rfl rfl (yp rfl) ?_
    refine sxl_pure (wn_none rfl) rfl rfl (yc_call rfl rfl Tryd.call44) (hpt) ?_
    iterate 2 refine sxl_y (wn_none rfl) rfl rfl (yp rfl) ?_
    refine sxl_y (wn_on rfl rfl rfl) rfl rfl (yp rfl) ?_
    refine sxl_y (wn_on rfl rfl rfl) rfl rfl (y_slen rfl rfl Tryd.underlying9) ?_
    refine sxl_y (wn_on rfl rfl rfl) rfl rfl (yp rfl) ?_
    refine sxl_y (wn_on rfl rfl rfl) rfl rfl (y_gtr_t rfl rfl rfl (by omega)) ?_
    refine sxl_y (wn_none rfl) rfl rfl (yp rfl) ?_
    refine sxl_nil ?_
    refine qx_seq ?_
    refine sx_true rfl ?_
    refine sx_seq ?_
    refine sx_region ?_
    refine sxl_y (wn_none rfl) rfl rfl (yp rfl) ?_
    refine sxl_nil ?_
    refine qx_seq ?_
    refine sx_ret ?_
    refine qx_then_ret ?_
    refine qx_ret1 rfl rfl ?_
    exact ⟨rfl, .refl h⟩
  rw [if_neg (by omega)]
  obtain ⟨v, hv⟩ : ∃ v, x.st[k]? = some v := ⟨_, List.getElem?_eq_getElem hlt⟩
  have ce := h.cs hv
  rw [lst_at hv, Int.toNat_natCast]
  have rest : ∀ w1, RfTo w w1 R { x with st := x.st.set k 3 } → Cell w1.heap R.gp 0 (.pointer (some ⟨R.gd, 0, none⟩)) ∧ Cell w1.heap R.gd 1 (.map (some R.gw)) := fun w1 h1 => ⟨h1.at_.c0, h1.at_.d1⟩
  have fin : ∀ w1 w2, RfTo w w1 R { x with st := x.st.set k 3 } → Fr (fun b => b = R.gw) w1 w2 → Mi w2 R.gw (upd (strs x.wrote) (k : Int) (str b)) → RfTo w w2 R { x with st := x.st.set k 3, wrote := updP x.wrote (k : Int) b } := fun w1 w2 h1 hf hm => by
    rw [strs_upd] at hm
    refine h1.trans ⟨⟨h1.at_.hp.fr hf h1.at_.n4, h1.at_.hd.fr hf h1.at_.n5, h1.at_.hs.fr hf h1.at_.n6, hm⟩, hf.mono (fun _ _ e => .inr (.inr (.inr e)))⟩
  by_cases h2 : v = 2
  · rw [if_neg (by omega)]
    refine sx_enter (vs := [_, _, _, _]) Tryd.func46 rfl Tryd.ntmps46 rfl ?_
    refine sx_seq ?_
    refine sx_region ?_
    refine sxl_y (wn_none rfl) rfl rfl (yp rfl) ?_
    refine sxl_nil ?_
    refine qx_seq ?_
    refine sx_seq ?_
    refine sx_seq ?_
    refine sx_region ?_
    iterate 2 refine sxl_y (wn_none rfl) rfl rfl (yp rfl) ?_
    refine sxl_pure (wn_none rfl) rfl rfl (yc_call rfl rfl Tryd.call44) (hpt) ?_
    iterate 2 refine sxl_y (wn_none rfl) rfl rfl (yp rfl) ?_
    refine sxl_y (wn_on rfl rfl rfl) rfl rfl (yp rfl) ?_
    refine sxl_y (wn_on rfl rfl rfl) rfl rfl (y_slen rfl rfl Tryd.underlying9) ?_
    refine sxl_y (wn_on rfl rfl rfl) rfl rfl (yp rfl) ?_
    refine sxl_y (wn_on rfl rfl rfl) rfl rfl (y_gtr_f rfl rfl rfl (by omega)) ?_
    refine sxl_y (wn_none rfl) rfl rfl (yp rfl) ?_
    refine sxl_nil ?_
    refine qx_seq ?_
    refine sx_false rfl ?_
    refine sx_skip ?_
    refine qx_seq ?_
    refine sx_seq ?_
    refine sx_seq ?_
    refine sx_region ?_
    iterate 3 refine sxl_y (wn_none rfl) rfl rfl (yp rfl) ?_
    refine sxl_y (wn_none rfl) rfl rfl (y_load rfl rfl (sc rfl) (by assumption)) ?_
    refine sxl_y (wn_none rfl) rfl rfl (yp rfl) ?_
    refine sxl_y (wn_none rfl) rfl rfl (y_indexN rfl rfl rfl (sl rfl) (by omega)) ?_
    refine sxl_y (wn_none rfl) rfl rfl (y_load rfl rfl (sc rfl) (by assumption)) ?_
    refine sxl_y (wn_none rfl) rfl rfl (y_neq_f rfl rfl rfl (by omega)) ?_
    refine sxl_y (wn_none rfl) rfl rfl (yp rfl) ?_
    refine sxl_off rfl rfl rfl rfl rfl rfl ?_
    refine sxl_off rfl rfl rfl rfl rfl rfl ?_
    refine sxl_off rfl rfl rfl rfl rfl rfl ?_
    refine sxl_off rfl rfl rfl rfl rfl rfl ?_
    refine sxl_off rfl rfl rfl rfl rfl rfl ?_
    refine sxl_off rfl rfl rfl rfl rfl rfl ?_
    refine sxl_off rfl rfl rfl rfl rfl rfl ?_
    refine sxl_off rfl rfl rfl rfl rfl rfl ?_
    refine sxl_y (wn_none rfl) rfl rfl (yp rfl) ?_
    refine sxl_nil ?_
    refine qx_seq ?_
    refine sx_false rfl ?_
    refine sx_skip ?_
    refine qx_seq ?_
    refine sx_seq ?_
    refine sx_region ?_
    iterate 3 refine sxl_y (wn_none rfl) rfl rfl (yp rfl) ?_
    refine sxl_y (wn_none rfl) rfl rfl (y_load rfl rfl (sc rfl) (by assumption)) ?_
    refine sxl_y (wn_none rfl) rfl rfl (yp rfl) ?_
    refine sxl_y (wn_none rfl) rfl rfl (y_indexN rfl rfl rfl (sl rfl) (by omega)) ?_
    refine sxl_does none (wn_none rfl) rfl rfl (fun ρ hρ => does_st (k := k) (v := 3) rfl (hρ _ _ rfl) (hρ _ _ rfl) h hlt) ?_
    rintro _ w1 ⟨rfl, hto⟩
    obtain ⟨c01, d11⟩ := rest w1 hto
    refine sxl_nil ?_
    refine qx_seq ?_
    refine sx_seq ?_
    refine sx_region ?_
    iterate 3 refine sxl_y (wn_none rfl) rfl rfl (yp rfl) ?_
    refine sxl_y (wn_none rfl) rfl rfl (y_load rfl rfl (sc rfl) (by assumption)) ?_
    iterate 2 refine sxl_y (wn_none rfl) rfl rfl (yp rfl) ?_
    refine sxl_y (wn_none rfl) rfl rfl (y_load rfl rfl (sc rfl) (by assumption)) ?_
    iterate 2 refine sxl_y (wn_none rfl) rfl rfl (yp rfl) ?_
    refine sxl_does none (wn_none rfl) rfl rfl (fun ρ hρ => does_updI (k := (k : Int)) (v := str b) rfl (hρ _ _ rfl) (hρ _ _ rfl) (hρ _ _ rfl) Tryd.underlying36 Tryd.underlying3 hto.at_.hw) ?_
    rintro _ w2 ⟨rfl, hf2, hm2⟩
    refine sxl_nil ?_
    refine qx_seq ?_
    refine sx_seq ?_
    refine sx_region ?_
    refine sxl_y (wn_none rfl) rfl rfl (yp rfl) ?_
    refine sxl_nil ?_
    refine qx_seq ?_
    refine sx_ret ?_
    refine qx_ret1 rfl rfl ?_
    exact ⟨rfl, fin w1 w2 hto hf2 hm2⟩
  by_cases h3 : v = 3
  · rw [if_neg (by omega)]
    refine sx_enter (vs := [_, _, _, _]) Tryd.func46 rfl Tryd.ntmps46 rfl ?_
    refine sx_seq ?_
    refine sx_region ?_
    refine sxl_y (wn_none rfl) rfl rfl (yp rfl) ?_
    refine sxl_nil ?_
    refine qx_seq ?_
    refine sx_seq ?_
    refine sx_seq ?_
    refine sx_region ?_
    iterate 2 refine sxl_y (wn_none rfl) rfl rfl (yp rfl) ?_
    refine sxl_pure (wn_none rfl) rfl rfl (yc_call rfl rfl Tryd.call44) (hpt) ?_
    iterate 2 refine sxl_y (wn_none rfl) rfl rfl (yp rfl) ?_
    refine sxl_y (wn_on rfl rfl rfl) rfl rfl (yp rfl) ?_
    refine sxl_y (wn_on rfl rfl rfl) rfl rfl (y_slen rfl rfl Tryd.underlying9) ?_
    refine sxl_y (wn_on rfl rfl rfl) rfl rfl (yp rfl) ?_
    refine sxl_y (wn_on rfl rfl rfl) rfl rfl (y_gtr_f rfl rfl rfl (by omega)) ?_
    refine sxl_y (wn_none rfl) rfl rfl (yp rfl) ?_
    refine sxl_nil ?_
    refine qx_seq ?_
    refine sx_false rfl ?_
    refine sx_skip ?_
    refine qx_seq ?_
    refine sx_seq ?_
    refine sx_seq ?_
    refine sx_region ?_
    iterate 3 refine sxl_y (wn_none rfl) rfl rfl (yp rfl) ?_
    refine sxl_y (wn_none rfl) rfl rfl (y_load rfl rfl (sc rfl) (by assumption)) ?_
    refine sxl_y (wn_none rfl) rfl rfl (yp rfl) ?_
    refine sxl_y (wn_none rfl) rfl rfl (y_indexN rfl rfl rfl (sl rfl) (by omega)) ?_
    refine sxl_y (wn_none rfl) rfl rfl (y_load rfl rfl (sc rfl) (by assumption)) ?_
    refine sxl_y (wn_none rfl) rfl rfl (y_neq_t rfl rfl rfl (by omega)) ?_
    refine sxl_y (wn_none rfl) rfl rfl (yp rfl) ?_
    refine sxl_y (wn_on rfl rfl rfl) rfl rfl (yp rfl) ?_
    refine sxl_y (wn_on rfl rfl rfl) rfl rfl (yp rfl) ?_
    refine sxl_y (wn_on rfl rfl rfl) rfl rfl (yp rfl) ?_
    refine sxl_y (wn_on rfl rfl rfl) rfl rfl (y_load rfl rfl (sc rfl) (by assumption)) ?_
    refine sxl_y (wn_on rfl rfl rfl) rfl rfl (yp rfl) ?_
    refine sxl_y (wn_on rfl rfl rfl) rfl rfl (y_indexN rfl rfl rfl (sl rfl) (by omega)) ?_
    refine sxl_y (wn_on rfl rfl rfl) rfl rfl (y_load rfl rfl (sc rfl) (by assumption)) ?_
    refine sxl_y (wn_on rfl rfl rfl) rfl rfl (y_neq_f rfl rfl rfl (by omega)) ?_
    refine sxl_y (wn_none rfl) rfl rfl (yp rfl) ?_
    refine sxl_nil ?_
    refine qx_seq ?_
    refine sx_false rfl ?_
    refine sx_skip ?_
    refine qx_seq ?_
    refine sx_seq ?_
    refine sx_region ?_
    iterate 3 refine sxl_y (wn_none rfl) rfl rfl (yp rfl) ?_
    refine sxl_y (wn_none rfl) rfl rfl (y_load rfl rfl (sc rfl) (by assumption)) ?_
    refine sxl_y (wn_none rfl) rfl rfl (yp rfl) ?_
    refine sxl_y (wn_none rfl) rfl rfl (y_indexN rfl rfl rfl (sl rfl) (by omega)) ?_
    refine sxl_does none (wn_none rfl) rfl rfl (fun ρ hρ => does_st (k := k) (v := 3) rfl (hρ _ _ rfl) (hρ _ _ rfl) h hlt) ?_
    rintro _ w1 ⟨rfl, hto⟩
    obtain ⟨c01, d11⟩ := rest w1 hto
    refine sxl_nil ?_
    refine qx_seq ?_
    refine sx_seq ?_
    refine sx_region ?_
    iterate 3 refine sxl_y (wn_none rfl) rfl rfl (yp rfl) ?_
    refine sxl_y (wn_none rfl) rfl rfl (y_load rfl rfl (sc rfl) (by assumption)) ?_
    iterate 2 refine sxl_y (wn_none rfl) rfl rfl (yp rfl) ?_
    refine sxl_y (wn_none rfl) rfl rfl (y_load rfl rfl (sc rfl) (by assumption)) ?_
    iterate 2 refine sxl_y (wn_none rfl) rfl rfl (yp rfl) ?_
    refine sxl_does none (wn_none rfl) rfl rfl (fun ρ hρ => does_updI (k := (k : Int)) (v := str b) rfl (hρ _ _ rfl) (hρ _ _ rfl) (hρ _ _ rfl) Tryd.underlying36 Tryd.underlying3 hto.at_.hw) ?_
    rintro _ w2 ⟨rfl, hf2, hm2⟩
    refine sxl_nil ?_
    refine qx_seq ?_
    refine sx_seq ?_
    refine sx_region ?_
    refine sxl_y (wn_none rfl) rfl rfl (yp rfl) ?_
    refine sxl_nil ?_
    refine qx_seq ?_
    refine sx_ret ?_
    refine qx_ret1 rfl rfl ?_
    exact ⟨rfl, fin w1 w2 hto hf2 hm2⟩
  · rw [if_pos ⟨h2, h3⟩]
    clear rest fin
    refine sx_enter (vs := [_, _, _, _]) Tryd.func46 rfl Tryd.ntmps46 rfl ?_
    refine sx_seq ?_
    refine sx_region ?_
    refine sxl_y (wn_none rfl) rfl rfl (yp rfl) ?_
    refine sxl_nil ?_
    refine qx_seq ?_
    refine sx_seq ?_
    refine sx_seq ?_
    refine sx_region ?_
    iterate 2 refine sxl_y (wn_none rfl) rfl rfl (yp rfl) ?_
    refine sxl_pure (wn_none rfl) rfl rfl (yc_call rfl rfl Tryd.call44) (hpt) ?_
    iterate 2 refine sxl_y (wn_none rfl) rfl rfl (yp rfl) ?_
    refine sxl_y (wn_on rfl rfl rfl) rfl rfl (yp rfl) ?_
    refine sxl_y (wn_on rfl rfl rfl) rfl rfl (y_slen rfl rfl Tryd.underlying9) ?_
    refine sxl_y (wn_on rfl rfl rfl) rfl rfl (yp rfl) ?_
    refine sxl_y (wn_on rfl rfl rfl) rfl rfl (y_gtr_f rfl rfl rfl (by omega)) ?_
    refine sxl_y (wn_none rfl) rfl rfl (yp rfl) ?_
    refine sxl_nil ?_
    refine qx_seq ?_
    refine sx_false rfl ?_
    refine sx_skip ?_
    refine qx_seq ?_
    refine sx_seq ?_
    refine sx_seq ?_
    refine sx_region ?_
    iterate 3 refine sxl_y (wn_none rfl) rfl rfl (yp rfl) ?_
    refine sxl_y (wn_none rfl) rfl rfl (y_load rfl rfl (sc rfl) (by assumption)) ?_
    refine sxl_y (wn_none rfl) rfl rfl (yp rfl) ?_
    refine sxl_y (wn_none rfl) rfl rfl (y_indexN rfl rfl rfl (sl rfl) (by omega)) ?_
    refine sxl_y (wn_none rfl) rfl rfl (y_load rfl rfl (sc rfl) (by assumption)) ?_
    refine sxl_y (wn_none rfl) rfl rfl (y_neq_t rfl rfl rfl (by omega)) ?_
    refine sxl_y (wn_none rfl) rfl rfl (yp rfl) ?_
    refine sxl_y (wn_on rfl rfl rfl) rfl rfl (yp rfl) ?_
    refine sxl_y (wn_on rfl rfl rfl) rfl rfl (yp rfl) ?_
    refine sxl_y (wn_on rfl rfl rfl) rfl rfl (yp rfl) ?_
    refine sxl_y (wn_on rfl rfl rfl) rfl rfl (y_load rfl rfl (sc rfl) (by assumption)) ?_
    refine sxl_y (wn_on rfl rfl rfl) rfl rfl (yp rfl) ?_
    refine sxl_y (wn_on rfl rfl rfl) rfl rfl (y_indexN rfl rfl rfl (sl rfl) (by omega)) ?_
    refine sxl_y (wn_on rfl rfl rfl) rfl rfl (y_load rfl rfl (sc rfl) (by assumption)) ?_
    refine sxl_y (wn_on rfl rfl rfl) rfl rfl (y_neq_t rfl rfl rfl (by omega)) ?_
    refine sxl_y (wn_none rfl) rfl rfl (yp rfl) ?_
    refine sxl_nil ?_
    refine qx_seq ?_
    refine sx_true rfl ?_
    refine sx_seq ?_
    refine sx_region ?_
    refine sxl_y (wn_none rfl) rfl rfl (yp rfl) ?_
    refine sxl_nil ?_
    refine qx_seq ?_
    refine sx_ret ?_
    refine qx_then_ret ?_
    refine qx_ret1 rfl rfl ?_
    exact ⟨rfl, .refl h⟩
/-- What the document's Read answers. -/
def RX.read (x : RX) (n : Int) : List UInt8 × Int :=
  if n < 2 ∨ (x.st.length : Int) ≤ n then ([], 1) else if lst x.st n = 0 then ([], 250) else if lst x.st n = 2 then ([], 5) else match x.wrote n with
    | none => ([], 30)
    | some t => (t, 0)
set_option maxHeartbeats 4000000 in
theorem rread_any (h : RfAt w R x) (n : Int) : Calls Tryd.prog 49 #[.pointer (some ⟨R.gp, 0, none⟩), .int .i64 n] w fun e w' => e = .returned (.tuple #[str (x.read n).1, .int .i64 (x.read n).2]) ∧ w = w' := by
  have c0 := h.c0
  have c1 := h.c1
  have d1 := h.d1
  unfold RX.read
  by_cases hn : n < 2 ∨ (x.st.length : Int) ≤ n
  · rw [if_pos hn]
    refine sx_enter (vs := [_, _]) Tryd.func49 rfl Tryd.ntmps49 rfl ?_
    refine sx_seq ?_
    refine sx_region ?_
    iterate 2 refine sxl_y (wn_none rfl) rfl rfl (yp rfl) ?_
    refine sxl_nil ?_
    refine qx_seq ?_
    refine sx_seq ?_
    refine sx_seq ?_
    refine sx_region ?_
    iterate 2 refine sxl_y (wn_none rfl) rfl rfl (yp rfl) ?_
    refine sxl_pure (wn_none rfl) rfl rfl (yc_call rfl rfl Tryd.call44) (rpage_f h hn) ?_
    refine sxl_y (wn_none rfl) rfl rfl (yp rfl) ?_
    refine sxl_nil ?_
    refine qx_seq ?_
    refine sx_true rfl ?_
    refine sx_seq ?_
    refine sx_region ?_
    iterate 2 refine sxl_y (wn_none rfl) rfl rfl (yp rfl) ?_
    refine sxl_nil ?_
    refine qx_seq ?_
    refine sx_ret ?_
    refine qx_then_ret ?_
    refine qx_ret2 rfl rfl rfl ?_
    exact ⟨rfl, rfl⟩
  rw [if_neg hn]
  obtain ⟨k, rfl⟩ : ∃ k : Nat, n = (k : Int) := ⟨n.toNat, by omega⟩
  have hlt : k < x.st.length := by omega
  have hpt := rpage_t h (n := (k : Int)) (by omega) (by omega)
  obtain ⟨v, hv⟩ : ∃ v, x.st[k]? = some v := ⟨_, List.getElem?_eq_getElem hlt⟩
  have ce := h.cs hv
  rw [lst_at hv]
  by_cases h0 : v = 0
  · rw [if_pos h0]
    refine sx_enter (vs := [_, _]) Tryd.func49 rfl Tryd.ntmps49 rfl ?_
    refine sx_seq ?_
    refine sx_region ?_
    iterate 2 refine sxl_y (wn_none rfl) rfl rfl (yp rfl) ?_
    refine sxl_nil ?_
    refine qx_seq ?_
    refine sx_seq ?_
    refine sx_seq ?_
    refine sx_region ?_
    iterate 2 refine sxl_y (wn_none rfl) rfl rfl (yp rfl) ?_
    refine sxl_pure (wn_none rfl) rfl rfl (yc_call rfl rfl Tryd.call44) (hpt) ?_
    refine sxl_y (wn_none rfl) rfl rfl (yp rfl) ?_
    refine sxl_nil ?_
    refine qx_seq ?_
    refine sx_false rfl ?_
    refine sx_skip ?_
    refine qx_seq ?_
    refine sx_seq ?_
    refine sx_seq ?_
    refine sx_region ?_
    iterate 3 refine sxl_y (wn_none rfl) rfl rfl (yp rfl) ?_
    refine sxl_y (wn_none rfl) rfl rfl (y_load rfl rfl (sc rfl) (by assumption)) ?_
    refine sxl_y (wn_none rfl) rfl rfl (yp rfl) ?_
    refine sxl_y (wn_none rfl) rfl rfl (y_indexN rfl rfl rfl (sl rfl) (by omega)) ?_
    refine sxl_y (wn_none rfl) rfl rfl (y_load rfl rfl (sc rfl) (by assumption)) ?_
    refine sxl_nil ?_
    refine qx_seq ?_
    refine sx_block ?_
    refine sx_seq ?_
    refine sx_region ?_
    refine sxl_y (wn_none rfl) rfl rfl (y_eql_t rfl rfl rfl (by omega)) ?_
    refine sxl_y (wn_none rfl) rfl rfl (yp rfl) ?_
    refine sxl_nil ?_
    refine qx_seq ?_
    refine sx_true rfl ?_
    refine sx_seq ?_
    refine sx_region ?_
    iterate 2 refine sxl_y (wn_none rfl) rfl rfl (yp rfl) ?_
    refine sxl_nil ?_
    refine qx_seq ?_
    refine sx_ret ?_
    refine qx_block_ret ?_
    refine qx_then_ret ?_
    refine qx_ret2 rfl rfl rfl ?_
    exact ⟨rfl, rfl⟩
  rw [if_neg h0]
  by_cases h2 : v = 2
  · rw [if_pos h2]
    refine sx_enter (vs := [_, _]) Tryd.func49 rfl Tryd.ntmps49 rfl ?_
    refine sx_seq ?_
    refine sx_region ?_
    iterate 2 refine sxl_y (wn_none rfl) rfl rfl (yp rfl) ?_
    refine sxl_nil ?_
    refine qx_seq ?_
    refine sx_seq ?_
    refine sx_seq ?_
    refine sx_region ?_
    iterate 2 refine sxl_y (wn_none rfl) rfl rfl (yp rfl) ?_
    refine sxl_pure (wn_none rfl) rfl rfl (yc_call rfl rfl Tryd.call44) (hpt) ?_
    refine sxl_y (wn_none rfl) rfl rfl (yp rfl) ?_
    refine sxl_nil ?_
    refine qx_seq ?_
    refine sx_false rfl ?_
    refine sx_skip ?_
    refine qx_seq ?_
    refine sx_seq ?_
    refine sx_seq ?_
    refine sx_region ?_
    iterate 3 refine sxl_y (wn_none rfl) rfl rfl (yp rfl) ?_
    refine sxl_y (wn_none rfl) rfl rfl (y_load rfl rfl (sc rfl) (by assumption)) ?_
    refine sxl_y (wn_none rfl) rfl rfl (yp rfl) ?_
    refine sxl_y (wn_none rfl) rfl rfl (y_indexN rfl rfl rfl (sl rfl) (by omega)) ?_
    refine sxl_y (wn_none rfl) rfl rfl (y_load rfl rfl (sc rfl) (by assumption)) ?_
    refine sxl_nil ?_
    refine qx_seq ?_
    refine sx_block ?_
    refine sx_seq ?_
    refine sx_region ?_
    refine sxl_y (wn_none rfl) rfl rfl (y_eql_f rfl rfl rfl (by omega)) ?_
    refine sxl_y (wn_none rfl) rfl rfl (yp rfl) ?_
    refine sxl_nil ?_
    refine qx_seq ?_
    refine sx_false rfl ?_
    refine sx_seq ?_
    refine sx_region ?_
    refine sxl_y (wn_none rfl) rfl rfl (y_eql_t rfl rfl rfl (by omega)) ?_
    refine sxl_y (wn_none rfl) rfl rfl (yp rfl) ?_
    refine sxl_nil ?_
    refine qx_seq ?_
    refine sx_true rfl ?_
    refine sx_seq ?_
    refine sx_region ?_
    iterate 2 refine sxl_y (wn_none rfl) rfl rfl (yp rfl) ?_
    refine sxl_nil ?_
    refine qx_seq ?_
    refine sx_ret ?_
    refine qx_block_ret ?_
    refine qx_then_ret ?_
    refine qx_ret2 rfl rfl rfl ?_
    exact ⟨rfl, rfl⟩
  rw [if_neg h2]
  cases hw : x.wrote (k : Int) with
  | none =>
    refine sx_enter (vs := [_, _]) Tryd.func49 rfl Tryd.ntmps49 rfl ?_
    refine sx_seq ?_
    refine sx_region ?_
    iterate 2 refine sxl_y (wn_none rfl) rfl rfl (yp rfl) ?_
    refine sxl_nil ?_
    refine qx_seq ?_
    refine sx_seq ?_
    refine sx_seq ?_
    refine sx_region ?_
    iterate 2 refine sxl_y (wn_none rfl) rfl rfl (yp rfl) ?_
    refine sxl_pure (wn_none rfl) rfl rfl (yc_call rfl rfl Tryd.call44) (hpt) ?_
    refine sxl_y (wn_none rfl) rfl rfl (yp rfl) ?_
    refine sxl_nil ?_
    refine qx_seq ?_
    refine sx_false rfl ?_
    refine sx_skip ?_
    refine qx_seq ?_
    refine sx_seq ?_
    refine sx_seq ?_
    refine sx_region ?_
    iterate 3 refine sxl_y (wn_none rfl) rfl rfl (yp rfl) ?_
    refine sxl_y (wn_none rfl) rfl rfl (y_load rfl rfl (sc rfl) (by assumption)) ?_
    refine sxl_y (wn_none rfl) rfl rfl (yp rfl) ?_
    refine sxl_y (wn_none rfl) rfl rfl (y_indexN rfl rfl rfl (sl rfl) (by omega)) ?_
    refine sxl_y (wn_none rfl) rfl rfl (y_load rfl rfl (sc rfl) (by assumption)) ?_
    refine sxl_nil ?_
    refine qx_seq ?_
    refine sx_block ?_
    refine sx_seq ?_
    refine sx_region ?_
    refine sxl_y (wn_none rfl) rfl rfl (y_eql_f rfl rfl rfl (by omega)) ?_
    refine sxl_y (wn_none rfl) rfl rfl (yp rfl) ?_
    refine sxl_nil ?_
    refine qx_seq ?_
    refine sx_false rfl ?_
    refine sx_seq ?_
    refine sx_region ?_
    refine sxl_y (wn_none rfl) rfl rfl (y_eql_f rfl rfl rfl (by omega)) ?_
    refine sxl_y (wn_none rfl) rfl rfl (yp rfl) ?_
    refine sxl_nil ?_
    refine qx_seq ?_
    refine sx_false rfl ?_
    refine sx_skip ?_
    refine qx_block_normal ?_
    refine qx_seq ?_
    refine sx_seq ?_
    refine sx_region ?_
    iterate 3 refine sxl_y (wn_none rfl) rfl rfl (yp rfl) ?_
    refine sxl_y (wn_none rfl) rfl rfl (y_load rfl rfl (sc rfl) (by assumption)) ?_
    iterate 2 refine sxl_y (wn_none rfl) rfl rfl (yp rfl) ?_
    refine sxl_y (wn_none rfl) rfl rfl (y_load rfl rfl (sc rfl) (by assumption)) ?_
    refine sxl_y (wn_none rfl) rfl rfl (yp rfl) ?_
    refine sxl_y (wn_none rfl) rfl rfl (y_lookS_no rfl rfl rfl h.hw hw) ?_
    iterate 5 refine sxl_y (wn_none rfl) rfl rfl (yp rfl) ?_
    refine sxl_nil ?_
    refine qx_seq ?_
    refine sx_seq ?_
    refine sx_seq ?_
    refine sx_region ?_
    iterate 2 refine sxl_y (wn_none rfl) rfl rfl (yp rfl) ?_
    refine sxl_nil ?_
    refine qx_seq ?_
    refine sx_true rfl ?_
    refine sx_seq ?_
    refine sx_region ?_
    iterate 2 refine sxl_y (wn_none rfl) rfl rfl (yp rfl) ?_
    refine sxl_nil ?_
    refine qx_seq ?_
    refine sx_ret ?_
    refine qx_then_ret ?_
    refine qx_ret2 rfl rfl rfl ?_
    exact ⟨rfl, rfl⟩
  | some t =>
    refine sx_enter (vs := [_, _]) Tryd.func49 rfl Tryd.ntmps49 rfl ?_
    refine sx_seq ?_
    refine sx_region ?_
    iterate 2 refine sxl_y (wn_none rfl) rfl rfl (yp rfl) ?_
    refine sxl_nil ?_
    refine qx_seq ?_
    refine sx_seq ?_
    refine sx_seq ?_
    refine sx_region ?_
    iterate 2 refine sxl_y (wn_none rfl) rfl rfl (yp rfl) ?_
    refine sxl_pure (wn_none rfl) rfl rfl (yc_call rfl rfl Tryd.call44) (hpt) ?_
    refine sxl_y (wn_none rfl) rfl rfl (yp rfl) ?_
    refine sxl_nil ?_
    refine qx_seq ?_
    refine sx_false rfl ?_
    refine sx_skip ?_
    refine qx_seq ?_
    refine sx_seq ?_
    refine sx_seq ?_
    refine sx_region ?_
    iterate 3 refine sxl_y (wn_none rfl) rfl rfl (yp rfl) ?_
    refine sxl_y (wn_none rfl) rfl rfl (y_load rfl rfl (sc rfl) (by assumption)) ?_
    refine sxl_y (wn_none rfl) rfl rfl (yp rfl) ?_
    refine sxl_y (wn_none rfl) rfl rfl (y_indexN rfl rfl rfl (sl rfl) (by omega)) ?_
    refine sxl_y (wn_none rfl) rfl rfl (y_load rfl rfl (sc rfl) (by assumption)) ?_
    refine sxl_nil ?_
    refine qx_seq ?_
    refine sx_block ?_
    refine sx_seq ?_
    refine sx_region ?_
    refine sxl_y (wn_none rfl) rfl rfl (y_eql_f rfl rfl rfl (by omega)) ?_
    refine sxl_y (wn_none rfl) rfl rfl (yp rfl) ?_
    refine sxl_nil ?_
    refine qx_seq ?_
    refine sx_false rfl ?_
    refine sx_seq ?_
    refine sx_region ?_
    refine sxl_y (wn_none rfl) rfl rfl (y_eql_f rfl rfl rfl (by omega)) ?_
    refine sxl_y (wn_none rfl) rfl rfl (yp rfl) ?_
    refine sxl_nil ?_
    refine qx_seq ?_
    refine sx_false rfl ?_
    refine sx_skip ?_
    refine qx_block_normal ?_
    refine qx_seq ?_
    refine sx_seq ?_
    refine sx_region ?_
    iterate 3 refine sxl_y (wn_none rfl) rfl rfl (yp rfl) ?_
    refine sxl_y (wn_none rfl) rfl rfl (y_load rfl rfl (sc rfl) (by assumption)) ?_
    iterate 2 refine sxl_y (wn_none rfl) rfl rfl (yp rfl) ?_
    refine sxl_y (wn_none rfl) rfl rfl (y_load rfl rfl (sc rfl) (by assumption)) ?_
    refine sxl_y (wn_none rfl) rfl rfl (yp rfl) ?_
    refine sxl_y (wn_none rfl) rfl rfl (y_lookS_ok rfl rfl rfl h.hw hw) ?_
    iterate 5 refine sxl_y (wn_none rfl) rfl rfl (yp rfl) ?_
    refine sxl_nil ?_
    refine qx_seq ?_
    refine sx_seq ?_
    refine sx_seq ?_
    refine sx_region ?_
    iterate 2 refine sxl_y (wn_none rfl) rfl rfl (yp rfl) ?_
    refine sxl_nil ?_
    refine qx_seq ?_
    refine sx_false rfl ?_
    refine sx_skip ?_
    refine qx_seq ?_
    refine sx_seq ?_
    refine sx_region ?_
    iterate 3 refine sxl_y (wn_none rfl) rfl rfl (yp rfl) ?_
    refine sxl_nil ?_
    refine qx_seq ?_
    refine sx_ret ?_
    refine qx_ret2 rfl rfl rfl ?_
    exact ⟨rfl, rfl⟩
/-- The pages' states, turned. -/
def Turned (took drop : Int) (st st' : List Int) : Prop := st'.length = st.length ∧ ∀ k : Nat, 2 ≤ k → k < st.length → lst st' (k : Int) = turnOf took drop (lst st (k : Int))
set_option maxHeartbeats 8000000 in
theorem rabort_ok (h : RfAt w R x) (hs : x.st.length ≤ 100000) (hs2 : 2 ≤ x.st.length) : Calls Tryd.prog 48 #[.pointer (some ⟨R.gp, 0, none⟩)] w fun e w' => ∃ st', e = .returned (.tuple #[]) ∧ Turned 0 1 x.st st' ∧ RfTo w w' R { x with st := st' } := by
  refine sx_enter (vs := [_]) Tryd.func48 rfl Tryd.ntmps48 rfl ?_
  refine sx_seq ?_
  refine sx_region ?_
  refine sxl_y (wn_none rfl) rfl rfl (yp rfl) ?_
  refine sxl_nil ?_
  refine qx_seq ?_
  refine sx_block ?_
  refine sx_loop (fun e wr m => ∃ (i : Nat) (st' : List Int), e = [(2, .int .i64 (i : Int)), (0, .pointer (some ⟨R.gp, 0, none⟩))] ∧ 2 ≤ i ∧ i ≤ x.st.length ∧ st'.length = x.st.length ∧ (∀ k : Nat, 2 ≤ k → k < i → lst st' (k : Int) = turnOf 0 1 (lst x.st (k : Int))) ∧ (∀ k : Nat, i ≤ k → lst st' (k : Int) = lst x.st (k : Int)) ∧ RfTo w wr R { x with st := st' } ∧ m = x.st.length - i)
    ⟨2, x.st, rfl, Nat.le_refl _, hs2, rfl, (fun k h1 h2 => by omega), (fun k _ => rfl), .refl h, rfl⟩ ⟨rfl, rfl, trivial⟩ ?_
  rintro _ wr _ ⟨i, st', rfl, h2, hi, hln, hdone, hrest, hto, rfl⟩
  have c1 : Cell wr.heap R.gp 1 (.slice (some ⟨R.gs, 0, none⟩) st'.length st'.length) := hto.at_.c1
  by_cases hlt : i < x.st.length
  · have hlt' : i < st'.length := by omega
    obtain ⟨v, hv⟩ : ∃ v, st'[i]? = some v := ⟨_, List.getElem?_eq_getElem hlt'⟩
    have ce : Cell wr.heap R.gs (0 + i * 1) (.int .i64 v) := hto.at_.cs hv
    have hlv : lst x.st (i : Int) = v := by rw [← hrest i (Nat.le_refl _)]; exact lst_at hv
    have again : ∀ (w1 : World) (u : Int), turnOf 0 1 v = u → RfTo wr w1 R { x with st := st'.set i u } → ∃ (i' : Nat) (st'' : List Int), [(2, Value.int .i64 ((i + 1 : Nat) : Int)), (0, .pointer (some ⟨R.gp, 0, none⟩))] = [(2, Value.int .i64 (i' : Int)), (0, .pointer (some ⟨R.gp, 0, none⟩))] ∧ 2 ≤ i' ∧ i' ≤ x.st.length ∧ st''.length = x.st.length ∧ (∀ k : Nat, 2 ≤ k → k < i' → lst st'' (k : Int) = turnOf 0 1 (lst x.st (k : Int))) ∧ (∀ k : Nat, i' ≤ k → lst st'' (k : Int) = lst x.st (k : Int)) ∧ RfTo w w1 R { x with st := st'' } ∧ x.st.length - (i + 1) = x.st.length - i' := fun w1 u hu h1 => by
      refine ⟨i + 1, _, rfl, by omega, hlt, by rw [List.length_set]; exact hln, fun k hk1 hk2 => ?_, fun k hk => ?_, hto.trans h1, rfl⟩
      · rw [lst_set hlt']
        unfold updS
        by_cases e : (k : Int) = (i : Int)
        · rw [if_pos e, e, hlv, hu]
        · rw [if_neg e]; exact hdone k hk1 (by omega)
      · rw [lst_set hlt']
        unfold updS
        rw [if_neg (by omega)]; exact hrest k (by omega)
    by_cases e2 : v = 2
    · refine sx_seq ?_
      refine sx_seq ?_
      refine sx_region ?_
      iterate 4 refine sxl_y (wn_none rfl) rfl rfl (yp rfl) ?_
      refine sxl_y (wn_none rfl) rfl rfl (y_load rfl rfl (sc rfl) (by assumption)) ?_
      refine sxl_y (wn_none rfl) rfl rfl (y_len rfl rfl (sl rfl)) ?_
      refine sxl_y (wn_none rfl) rfl rfl (y_lss_t rfl rfl rfl (by omega)) ?_
      refine sxl_nil ?_
      refine qx_seq ?_
      refine sx_true rfl ?_
      refine sx_skip ?_
      refine qx_seq ?_
      refine sx_seq ?_
      refine sx_block ?_
      refine sx_seq ?_
      refine sx_region ?_
      iterate 3 refine sxl_y (wn_none rfl) rfl rfl (yp rfl) ?_
      refine sxl_y (wn_none rfl) rfl rfl (y_load rfl rfl (sc rfl) (by assumption)) ?_
      refine sxl_y (wn_none rfl) rfl rfl (yp rfl) ?_
      refine sxl_y (wn_none rfl) rfl rfl (y_indexN rfl rfl rfl (sl rfl) (by omega)) ?_
      refine sxl_y (wn_none rfl) rfl rfl (y_load rfl rfl (sc rfl) (by assumption)) ?_
      refine sxl_nil ?_
      refine qx_seq ?_
      refine sx_block ?_
      refine sx_seq ?_
      refine sx_seq ?_
      refine sx_region ?_
      refine sxl_y (wn_none rfl) rfl rfl (y_eql_t rfl rfl rfl (by omega)) ?_
      refine sxl_y (wn_none rfl) rfl rfl (yp rfl) ?_
      refine sxl_nil ?_
      refine qx_seq ?_
      refine sx_true rfl ?_
      refine sx_skip ?_
      refine qx_seq ?_
      refine sx_true rfl ?_
      refine sx_region ?_
      iterate 3 refine sxl_y (wn_none rfl) rfl rfl (yp rfl) ?_
      refine sxl_y (wn_none rfl) rfl rfl (y_load rfl rfl (sc rfl) (by assumption)) ?_
      refine sxl_y (wn_none rfl) rfl rfl (yp rfl) ?_
      refine sxl_y (wn_none rfl) rfl rfl (y_indexN rfl rfl rfl (sl rfl) (by omega)) ?_
      refine sxl_does none (wn_none rfl) rfl rfl (fun ρ hρ => does_st (k := i) (v := 0) rfl (hρ _ _ rfl) (hρ _ _ rfl) hto.at_ hlt') ?_
      rintro _ w1 ⟨rfl, h1⟩
      refine sxl_nil ?_
      refine qx_block_normal ?_
      refine qx_block_normal ?_
      refine qx_seq ?_
      refine sx_region ?_
      refine sxl_y (wn_none rfl) rfl rfl (yp rfl) ?_
      refine sxl_y (wn_none rfl) rfl rfl (y_add rfl rfl rfl (by omega)) ?_
      refine sxl_y (wn_none rfl) rfl rfl (yp rfl) ?_
      refine sxl_nil ?_
      exact qx_again [(2, .int .i64 ((i + 1 : Nat) : Int)), (0, .pointer (some ⟨R.gp, 0, none⟩))] (x.st.length - (i + 1)) (again w1 0 (by rw [e2]; rfl) h1) (by omega) ⟨rfl, rfl, trivial⟩
    by_cases e3 : v = 3
    · refine sx_seq ?_
      refine sx_seq ?_
      refine sx_region ?_
      iterate 4 refine sxl_y (wn_none rfl) rfl rfl (yp rfl) ?_
      refine sxl_y (wn_none rfl) rfl rfl (y_load rfl rfl (sc rfl) (by assumption)) ?_
      refine sxl_y (wn_none rfl) rfl rfl (y_len rfl rfl (sl rfl)) ?_
      refine sxl_y (wn_none rfl) rfl rfl (y_lss_t rfl rfl rfl (by omega)) ?_
      refine sxl_nil ?_
      refine qx_seq ?_
      refine sx_true rfl ?_
      refine sx_skip ?_
      refine qx_seq ?_
      refine sx_seq ?_
      refine sx_block ?_
      refine sx_seq ?_
      refine sx_region ?_
      iterate 3 refine sxl_y (wn_none rfl) rfl rfl (yp rfl) ?_
      refine sxl_y (wn_none rfl) rfl rfl (y_load rfl rfl (sc rfl) (by assumption)) ?_
      refine sxl_y (wn_none rfl) rfl rfl (yp rfl) ?_
      refine sxl_y (wn_none rfl) rfl rfl (y_indexN rfl rfl rfl (sl rfl) (by omega)) ?_
      refine sxl_y (wn_none rfl) rfl rfl (y_load rfl rfl (sc rfl) (by assumption)) ?_
      refine sxl_nil ?_
      refine qx_seq ?_
      refine sx_block ?_
      refine sx_seq ?_
      refine sx_seq ?_
      refine sx_region ?_
      refine sxl_y (wn_none rfl) rfl rfl (y_eql_f rfl rfl rfl (by omega)) ?_
      refine sxl_y (wn_none rfl) rfl rfl (yp rfl) ?_
      refine sxl_nil ?_
      refine qx_seq ?_
      refine sx_false rfl ?_
      refine sx_region ?_
      refine sxl_y (wn_none rfl) rfl rfl (y_eql_t rfl rfl rfl (by omega)) ?_
      refine sxl_y (wn_none rfl) rfl rfl (yp rfl) ?_
      refine sxl_nil ?_
      refine qx_seq ?_
      refine sx_true rfl ?_
      refine sx_region ?_
      iterate 3 refine sxl_y (wn_none rfl) rfl rfl (yp rfl) ?_
      refine sxl_y (wn_none rfl) rfl rfl (y_load rfl rfl (sc rfl) (by assumption)) ?_
      refine sxl_y (wn_none rfl) rfl rfl (yp rfl) ?_
      refine sxl_y (wn_none rfl) rfl rfl (y_indexN rfl rfl rfl (sl rfl) (by omega)) ?_
      refine sxl_does none (wn_none rfl) rfl rfl (fun ρ hρ => does_st (k := i) (v := 0) rfl (hρ _ _ rfl) (hρ _ _ rfl) hto.at_ hlt') ?_
      rintro _ w1 ⟨rfl, h1⟩
      refine sxl_nil ?_
      refine qx_block_normal ?_
      refine qx_block_normal ?_
      refine qx_seq ?_
      refine sx_region ?_
      refine sxl_y (wn_none rfl) rfl rfl (yp rfl) ?_
      refine sxl_y (wn_none rfl) rfl rfl (y_add rfl rfl rfl (by omega)) ?_
      refine sxl_y (wn_none rfl) rfl rfl (yp rfl) ?_
      refine sxl_nil ?_
      exact qx_again [(2, .int .i64 ((i + 1 : Nat) : Int)), (0, .pointer (some ⟨R.gp, 0, none⟩))] (x.st.length - (i + 1)) (again w1 0 (by rw [e3]; rfl) h1) (by omega) ⟨rfl, rfl, trivial⟩
    by_cases e4 : v = 4
    · refine sx_seq ?_
      refine sx_seq ?_
      refine sx_region ?_
      iterate 4 refine sxl_y (wn_none rfl) rfl rfl (yp rfl) ?_
      refine sxl_y (wn_none rfl) rfl rfl (y_load rfl rfl (sc rfl) (by assumption)) ?_
      refine sxl_y (wn_none rfl) rfl rfl (y_len rfl rfl (sl rfl)) ?_
      refine sxl_y (wn_none rfl) rfl rfl (y_lss_t rfl rfl rfl (by omega)) ?_
      refine sxl_nil ?_
      refine qx_seq ?_
      refine sx_true rfl ?_
      refine sx_skip ?_
      refine qx_seq ?_
      refine sx_seq ?_
      refine sx_block ?_
      refine sx_seq ?_
      refine sx_region ?_
      iterate 3 refine sxl_y (wn_none rfl) rfl rfl (yp rfl) ?_
      refine sxl_y (wn_none rfl) rfl rfl (y_load rfl rfl (sc rfl) (by assumption)) ?_
      refine sxl_y (wn_none rfl) rfl rfl (yp rfl) ?_
      refine sxl_y (wn_none rfl) rfl rfl (y_indexN rfl rfl rfl (sl rfl) (by omega)) ?_
      refine sxl_y (wn_none rfl) rfl rfl (y_load rfl rfl (sc rfl) (by assumption)) ?_
      refine sxl_nil ?_
      refine qx_seq ?_
      refine sx_block ?_
      refine sx_seq ?_
      refine sx_seq ?_
      refine sx_region ?_
      refine sxl_y (wn_none rfl) rfl rfl (y_eql_f rfl rfl rfl (by omega)) ?_
      refine sxl_y (wn_none rfl) rfl rfl (yp rfl) ?_
      refine sxl_nil ?_
      refine qx_seq ?_
      refine sx_false rfl ?_
      refine sx_region ?_
      refine sxl_y (wn_none rfl) rfl rfl (y_eql_f rfl rfl rfl (by omega)) ?_
      refine sxl_y (wn_none rfl) rfl rfl (yp rfl) ?_
      refine sxl_nil ?_
      refine qx_seq ?_
      refine sx_false rfl ?_
      refine sx_seq ?_
      refine sx_region ?_
      refine sxl_y (wn_none rfl) rfl rfl (y_eql_t rfl rfl rfl (by omega)) ?_
      refine sxl_y (wn_none rfl) rfl rfl (yp rfl) ?_
      refine sxl_nil ?_
      refine qx_seq ?_
      refine sx_true rfl ?_
      refine sx_region ?_
      iterate 3 refine sxl_y (wn_none rfl) rfl rfl (yp rfl) ?_
      refine sxl_y (wn_none rfl) rfl rfl (y_load rfl rfl (sc rfl) (by assumption)) ?_
      refine sxl_y (wn_none rfl) rfl rfl (yp rfl) ?_
      refine sxl_y (wn_none rfl) rfl rfl (y_indexN rfl rfl rfl (sl rfl) (by omega)) ?_
      refine sxl_does none (wn_none rfl) rfl rfl (fun ρ hρ => does_st (k := i) (v := 1) rfl (hρ _ _ rfl) (hρ _ _ rfl) hto.at_ hlt') ?_
      rintro _ w1 ⟨rfl, h1⟩
      refine sxl_nil ?_
      refine qx_block_normal ?_
      refine qx_block_normal ?_
      refine qx_seq ?_
      refine sx_region ?_
      refine sxl_y (wn_none rfl) rfl rfl (yp rfl) ?_
      refine sxl_y (wn_none rfl) rfl rfl (y_add rfl rfl rfl (by omega)) ?_
      refine sxl_y (wn_none rfl) rfl rfl (yp rfl) ?_
      refine sxl_nil ?_
      exact qx_again [(2, .int .i64 ((i + 1 : Nat) : Int)), (0, .pointer (some ⟨R.gp, 0, none⟩))] (x.st.length - (i + 1)) (again w1 1 (by rw [e4]; rfl) h1) (by omega) ⟨rfl, rfl, trivial⟩
    · have hsame : st'.set i v = st' := by
        apply List.ext_getElem?
        intro j
        by_cases e : i = j
        · subst e; rw [List.getElem?_set_self hlt', hv]
        · rw [List.getElem?_set_ne e]
      have hself : RfTo wr wr R { x with st := st'.set i v } := by rw [hsame]; exact .refl hto.at_
      have htn : turnOf 0 1 v = v := by unfold turnOf; rw [if_neg (by omega), if_neg e4]
      refine sx_seq ?_
      refine sx_seq ?_
      refine sx_region ?_
      iterate 4 refine sxl_y (wn_none rfl) rfl rfl (yp rfl) ?_
      refine sxl_y (wn_none rfl) rfl rfl (y_load rfl rfl (sc rfl) (by assumption)) ?_
      refine sxl_y (wn_none rfl) rfl rfl (y_len rfl rfl (sl rfl)) ?_
      refine sxl_y (wn_none rfl) rfl rfl (y_lss_t rfl rfl rfl (by omega)) ?_
      refine sxl_nil ?_
      refine qx_seq ?_
      refine sx_true rfl ?_
      refine sx_skip ?_
      refine qx_seq ?_
      refine sx_seq ?_
      refine sx_block ?_
      refine sx_seq ?_
      refine sx_region ?_
      iterate 3 refine sxl_y (wn_none rfl) rfl rfl (yp rfl) ?_
      refine sxl_y (wn_none rfl) rfl rfl (y_load rfl rfl (sc rfl) (by assumption)) ?_
      refine sxl_y (wn_none rfl) rfl rfl (yp rfl) ?_
      refine sxl_y (wn_none rfl) rfl rfl (y_indexN rfl rfl rfl (sl rfl) (by omega)) ?_
      refine sxl_y (wn_none rfl) rfl rfl (y_load rfl rfl (sc rfl) (by assumption)) ?_
      refine sxl_nil ?_
      refine qx_seq ?_
      refine sx_block ?_
      refine sx_seq ?_
      refine sx_seq ?_
      refine sx_region ?_
      refine sxl_y (wn_none rfl) rfl rfl (y_eql_f rfl rfl rfl (by omega)) ?_
      refine sxl_y (wn_none rfl) rfl rfl (yp rfl) ?_
      refine sxl_nil ?_
      refine qx_seq ?_
      refine sx_false rfl ?_
      refine sx_region ?_
      refine sxl_y (wn_none rfl) rfl rfl (y_eql_f rfl rfl rfl (by omega)) ?_
      refine sxl_y (wn_none rfl) rfl rfl (yp rfl) ?_
      refine sxl_nil ?_
      refine qx_seq ?_
      refine sx_false rfl ?_
      refine sx_seq ?_
      refine sx_region ?_
      refine sxl_y (wn_none rfl) rfl rfl (y_eql_f rfl rfl rfl (by omega)) ?_
      refine sxl_y (wn_none rfl) rfl rfl (yp rfl) ?_
      refine sxl_nil ?_
      refine qx_seq ?_
      refine sx_false rfl ?_
      refine sx_skip ?_
      refine qx_block_normal ?_
      refine qx_block_normal ?_
      refine qx_seq ?_
      refine sx_region ?_
      refine sxl_y (wn_none rfl) rfl rfl (yp rfl) ?_
      refine sxl_y (wn_none rfl) rfl rfl (y_add rfl rfl rfl (by omega)) ?_
      refine sxl_y (wn_none rfl) rfl rfl (yp rfl) ?_
      refine sxl_nil ?_
      exact qx_again [(2, .int .i64 ((i + 1 : Nat) : Int)), (0, .pointer (some ⟨R.gp, 0, none⟩))] (x.st.length - (i + 1)) (again wr v htn hself) (by omega) ⟨rfl, rfl, trivial⟩
  · obtain rfl : i = x.st.length := by omega
    refine sx_seq ?_
    refine sx_seq ?_
    refine sx_region ?_
    iterate 4 refine sxl_y (wn_none rfl) rfl rfl (yp rfl) ?_
    refine sxl_y (wn_none rfl) rfl rfl (y_load rfl rfl (sc rfl) (by assumption)) ?_
    refine sxl_y (wn_none rfl) rfl rfl (y_len rfl rfl (sl rfl)) ?_
    refine sxl_y (wn_none rfl) rfl rfl (y_lss_f rfl rfl rfl (by omega)) ?_
    refine sxl_nil ?_
    refine qx_seq ?_
    refine sx_false rfl ?_
    refine sx_exit ?_
    refine qx_then_exit ?_
    refine qx_then_exit ?_
    refine qx_block_hit ?_
    refine qx_ret0 (Or.inr rfl) rfl ?_
    exact ⟨st', rfl, ⟨hln, hdone⟩, hto⟩
end
end Go.Proofs.YthdlljlcffokbaaDoor
