/- CheckBinds, of the program and of the document. Condition: the tables of unicode/utf8 are as they are laid. -/
import Derived.Test.YtklciidffdnglaaDoorBind
import Derived.Test.YtklciidffdnglaaDoorCheck
import Derived.Test.YtklciidffdnglaaDoorName
import Derived.Test.YtklciidffdnglaaDoorMap
namespace Go.Proofs.YtklciidffdnglaaDoor
open Go.RowKit

def namesD (l : List Bd) : List (List UInt8) := l.map (·.name)
/-- Binds are looked at one by one; seen: the names so far. -/
def cbFrom : List (List UInt8) → List Bd → Int
  | _, [] => 0
  | seen, x :: r => if (nameOk x.name && vOk x.v) = false then 1 else if x.name ∈ seen then 6 else cbFrom (seen ++ [x.name]) r
structure BdOk (l : List Bd) : Prop where
  len : (l.length : Int) < 4611686018427387904
  name : ∀ x ∈ l, (x.name.length : Int) < 4611686018427387904
  text : ∀ x ∈ l, (x.v.text.length : Int) < 4611686018427387904
theorem drop_at {l : List Bd} {i : Nat} {x : Bd} (hx : l[i]? = some x) : l.drop i = x :: l.drop (i + 1) := by
  have hlt := (List.getElem?_eq_some_iff.1 hx).1
  rw [List.drop_eq_getElem_cons hlt]
  congr 1
  rw [List.getElem?_eq_getElem hlt] at hx
  exact Option.some.inj hx
theorem names_take {l : List Bd} {i : Nat} {x : Bd} (hx : l[i]? = some x) : namesD (l.take (i + 1)) = namesD (l.take i) ++ [x.name] := by
  unfold namesD
  rw [List.take_add_one, hx]
  simp
set_option maxHeartbeats 16000000 in
theorem rBinds_ok (A : Option Addr) (c : Nat) (l : List Bd) (w : World) (hl : BdOk l) (hr : Rd w A (l.length * 5) (flatD l)) :
    Calls Tryd.prog 8 #[.slice A l.length c] w fun e w' => e = .returned (.int .i64 (cbFrom [] l)) ∧ Fr0 w w' := by
  have hlen := hl.len
  refine sx_enter (vs := [_]) Tryd.func8 rfl Tryd.ntmps8 rfl ?_
  refine sx_seq ?_
  refine sx_region ?_
  refine sxl_y (wn_none rfl) rfl rfl (yp rfl) ?_
  refine sxl_nil ?_
  refine qx_seq ?_
  refine sx_seq ?_
  refine sx_seq ?_
  refine sx_region ?_
  refine sxl_y (wn_none rfl) rfl rfl (yp rfl) ?_
  refine sxl_nil ?_
  refine qx_seq ?_
  refine sx_block ?_
  refine sx_loop (e0 := [(3, .int .i64 0), (0, .slice A l.length c)]) (fun e wr m => ∃ (i : Nat), e = [(3, .int .i64 (i : Int)), (0, .slice A l.length c)] ∧ Fr0 w wr ∧ i ≤ l.length ∧ cbFrom [] l = cbFrom (namesD (l.take i)) (l.drop i) ∧ m = l.length - i) ⟨0, rfl, Fr.refl, Nat.zero_le _, rfl, rfl⟩ ⟨rfl, rfl, trivial⟩ ?_
  rintro _ wr _ ⟨i, rfl, hf, hi, hcb, rfl⟩
  by_cases hlt : i < l.length
  · obtain ⟨x, hx⟩ : ∃ x, l[i]? = some x := ⟨_, List.getElem?_eq_getElem hlt⟩
    have hxl : x ∈ l := List.mem_of_getElem? hx
    obtain ⟨b, off, rfl, el⟩ := rd_bind (hr.fr0 hf) hx
    have e0 := el.name
    rw [drop_at hx, cbFrom] at hcb
    refine sx_seq ?_
    refine sx_seq ?_
    refine sx_region ?_
    refine sxl_y (wn_none rfl) rfl rfl (yp rfl) ?_
    refine sxl_y (wn_none rfl) rfl rfl (yp rfl) ?_
    refine sxl_y (wn_none rfl) rfl rfl (y_len rfl rfl (sl rfl)) ?_
    refine sxl_y (wn_none rfl) rfl rfl (y_lss_t rfl rfl rfl (by omega)) ?_
    refine sxl_nil ?_
    refine qx_seq ?_
    refine sx_true rfl ?_
    refine sx_skip ?_
    refine qx_seq ?_
    refine sx_seq ?_
    refine sx_block ?_
    refine sx_seq ?_
    refine sx_seq ?_
    refine sx_region ?_
    refine sxl_y (wn_none rfl) rfl rfl (yp rfl) ?_
    refine sxl_y (wn_none rfl) rfl rfl (yp rfl) ?_
    refine sxl_y (wn_none rfl) rfl rfl (y_indexN rfl rfl rfl (sl rfl) (by omega)) ?_
    refine sxl_y (wn_none rfl) rfl rfl (yp rfl) ?_
    refine sxl_y (wn_none rfl) rfl rfl (y_load rfl rfl (sc rfl) (by assumption)) ?_
    refine sxl_call (some 16) (by first | exact wn_none rfl | exact wn_on rfl rfl rfl) rfl rfl (yc_call rfl rfl Tryd.call13) (refName_ok x.name _ (by have := hl.name x hxl; omega)) ?_
    rintro _ w1 ⟨rfl, rfl⟩
    refine ⟨_, rfl, ?_⟩
    cases hn : nameOk x.name with
    | false =>
      have hres : cbFrom [] l = 1 := by rw [hcb, hn]; rfl
      refine sxl_y (wn_none rfl) rfl rfl (yp rfl) ?_
      refine sxl_y (wn_none rfl) rfl rfl (yp rfl) ?_
      refine sxl_off rfl rfl rfl rfl rfl rfl ?_
      refine sxl_off rfl rfl rfl rfl rfl rfl ?_
      refine sxl_off rfl rfl rfl rfl rfl rfl ?_
      refine sxl_off rfl rfl rfl rfl rfl rfl ?_
      refine sxl_off rfl rfl rfl rfl rfl rfl ?_
      refine sxl_off rfl rfl rfl rfl rfl rfl ?_
      refine sxl_off rfl rfl rfl rfl rfl rfl ?_
      refine sxl_y (wn_none rfl) rfl rfl (yp rfl) ?_
      refine sxl_nil ?_
      refine qx_seq ?_
      refine sx_true rfl ?_
      refine sx_seq ?_
      refine sx_region ?_
      refine sxl_y (wn_none rfl) rfl rfl (yp rfl) ?_
      refine sxl_nil ?_
      refine qx_seq ?_
      refine sx_ret ?_
      refine qx_then_ret ?_
      refine qx_block_ret ?_
      refine qx_then_ret ?_
      refine qx_then_ret ?_
      refine qx_block_ret ?_
      refine qx_then_ret ?_
      refine qx_ret1 rfl rfl ?_
      exact ⟨by rw [hres], hf⟩
    | true =>
      refine sxl_y (wn_none rfl) rfl rfl (yp rfl) ?_
      refine sxl_y (wn_none rfl) rfl rfl (yp rfl) ?_
      refine sxl_y (wn_on rfl rfl rfl) rfl rfl (yp rfl) ?_
      refine sxl_y (wn_on rfl rfl rfl) rfl rfl (yp rfl) ?_
      refine sxl_y (wn_on rfl rfl rfl) rfl rfl (y_indexN rfl rfl rfl (sl rfl) (by omega)) ?_
      refine sxl_y (wn_on rfl rfl rfl) rfl rfl (yp rfl) ?_
      refine sxl_y (wn_on rfl rfl rfl) rfl rfl (y_loadRd rfl rfl el.val Tryd.underlying36 rfl value_size) ?_
      refine sxl_call (some 24) (by first | exact wn_none rfl | exact wn_on rfl rfl rfl) rfl rfl (yc_call rfl rfl Tryd.call14) (rCheck_ok x.v _ (hl.text x hxl)) ?_
      rintro _ w1 ⟨rfl, hf1⟩
      refine ⟨_, rfl, ?_⟩
      have hf2 := hf.trans hf1
      cases hv : vOk x.v with
      | false =>
        have hres : cbFrom [] l = 1 := by rw [hcb, hn, hv]; rfl
        rw [chk_f hv]
        refine sxl_y (wn_on rfl rfl rfl) rfl rfl (y_neq_t rfl rfl rfl (by omega)) ?_
        refine sxl_y (wn_none rfl) rfl rfl (yp rfl) ?_
        refine sxl_nil ?_
        refine qx_seq ?_
        refine sx_true rfl ?_
        refine sx_seq ?_
        refine sx_region ?_
        refine sxl_y (wn_none rfl) rfl rfl (yp rfl) ?_
        refine sxl_nil ?_
        refine qx_seq ?_
        refine sx_ret ?_
        refine qx_then_ret ?_
        refine qx_block_ret ?_
        refine qx_then_ret ?_
        refine qx_then_ret ?_
        refine qx_block_ret ?_
        refine qx_then_ret ?_
        refine qx_ret1 rfl rfl ?_
        exact ⟨by rw [hres], hf2⟩
      | true =>
        rw [hn, hv] at hcb
        simp only [Bool.and_self, Bool.true_eq_false, if_false] at hcb
        rw [chk_t hv]
        refine sxl_y (wn_on rfl rfl rfl) rfl rfl (y_neq_f rfl rfl rfl (by omega)) ?_
        refine sxl_y (wn_none rfl) rfl rfl (yp rfl) ?_
        refine sxl_nil ?_
        refine qx_seq ?_
        refine sx_false rfl ?_
        refine sx_skip ?_
        refine qx_seq ?_
        refine sx_seq ?_
        refine sx_region ?_
        refine sxl_y (wn_none rfl) rfl rfl (yp rfl) ?_
        refine sxl_nil ?_
        refine qx_seq ?_
        refine sx_block ?_
        refine sx_loop (e0 := [(4, .int .i64 0), (3, .int .i64 (i : Int)), (0, .slice (some ⟨b, off, none⟩) l.length c)]) (fun e wr m => ∃ (k : Nat), e = [(4, .int .i64 (k : Int)), (3, .int .i64 (i : Int)), (0, .slice (some ⟨b, off, none⟩) l.length c)] ∧ Fr0 w wr ∧ k ≤ i ∧ (x.name ∉ namesD (l.take k)) ∧ m = i - k) ⟨0, rfl, hf2, Nat.zero_le _, by simp [namesD], rfl⟩ ⟨rfl, rfl, rfl, trivial⟩ ?_
        rintro _ wr2 _ ⟨k, rfl, hf3, hk, hnot, rfl⟩
        by_cases hki : k < i
        · obtain ⟨y, hy⟩ : ∃ y, l[k]? = some y := ⟨_, List.getElem?_eq_getElem (by omega)⟩
          obtain ⟨b1, off1, hA, el2⟩ := rd_bind (hr.fr0 hf3) hx
          injection hA with hA; injection hA with hA1 hA2 _; subst hA1; subst hA2
          obtain ⟨b2, off2, hA, el3⟩ := rd_bind (hr.fr0 hf3) hy
          injection hA with hA; injection hA with hA1 hA2 _; subst hA1; subst hA2
          have e1' : Cell wr2.drew.heap b (off + i * 5 + 0) (str x.name) := el2.name
          have e2' : Cell wr2.drew.heap b (off + k * 5 + 0) (str y.name) := el3.name
          by_cases hyx : y.name = x.name
          · have hin : x.name ∈ namesD (l.take i) := by
              unfold namesD
              refine List.mem_map.2 ⟨y, ?_, hyx⟩
              exact List.mem_of_getElem? (i := k) (by rw [List.getElem?_take_of_lt hki]; exact hy)
            rw [if_pos hin] at hcb
            have hdk : decide (y.name = x.name) = true := by simp [hyx]
            refine sx_seq ?_
            refine sx_seq ?_
            refine sx_region ?_
            refine sxl_y (wn_none rfl) rfl rfl (yp rfl) ?_
            refine sxl_y (wn_none rfl) rfl rfl (yp rfl) ?_
            refine sxl_y (wn_none rfl) rfl rfl (y_lss_t rfl rfl rfl (by omega)) ?_
            refine sxl_nil ?_
            refine qx_seq ?_
            refine sx_true rfl ?_
            refine sx_skip ?_
            refine qx_seq ?_
            refine sx_seq ?_
            refine sx_block ?_
            refine sx_seq ?_
            refine sx_still hmix (by kernel_rfl) ?_
            refine sxs_y (wn_none rfl) rfl rfl (yp rfl) ?_
            refine sxs_y (wn_none rfl) rfl rfl (yp rfl) ?_
            refine sxs_y (wn_none rfl) rfl rfl (y_indexN rfl rfl rfl (sl rfl) (by omega)) ?_
            refine sxs_y (wn_none rfl) rfl rfl (yp rfl) ?_
            refine sxs_y (wn_none rfl) rfl rfl (y_load rfl rfl (sc rfl) (by assumption)) ?_
            refine sxs_y (wn_none rfl) rfl rfl (yp rfl) ?_
            refine sxs_y (wn_none rfl) rfl rfl (yp rfl) ?_
            refine sxs_y (wn_none rfl) rfl rfl (y_indexN rfl rfl rfl (sl rfl) (by omega)) ?_
            refine sxs_y (wn_none rfl) rfl rfl (yp rfl) ?_
            refine sxs_y (wn_none rfl) rfl rfl (y_load rfl rfl (sc rfl) (by assumption)) ?_
            refine sxs_y (wn_none rfl) rfl rfl (y_seql rfl rfl rfl) ?_
            refine sxs_end ?_
            refine qx_seq ?_
            rw [hdk]
            refine sx_true rfl ?_
            refine sx_seq ?_
            refine sx_region ?_
            refine sxl_y (wn_none rfl) rfl rfl (yp rfl) ?_
            refine sxl_nil ?_
            refine qx_seq ?_
            refine sx_ret ?_
            refine qx_block_ret ?_
            refine qx_then_ret ?_
            refine qx_then_ret ?_
            refine qx_block_ret ?_
            refine qx_block_ret ?_
            refine qx_then_ret ?_
            refine qx_then_ret ?_
            refine qx_block_ret ?_
            refine qx_then_ret ?_
            refine qx_ret1 rfl rfl ?_
            exact ⟨by rw [hcb], hf3.drew⟩
          · have hnot2 : x.name ∉ namesD (l.take (k + 1)) := by
              rw [names_take hy]
              simp only [List.mem_append, List.mem_singleton, not_or]
              exact ⟨hnot, fun e => hyx e.symm⟩
            have hdk : decide (y.name = x.name) = false := by simp [hyx]
            refine sx_seq ?_
            refine sx_seq ?_
            refine sx_region ?_
            refine sxl_y (wn_none rfl) rfl rfl (yp rfl) ?_
            refine sxl_y (wn_none rfl) rfl rfl (yp rfl) ?_
            refine sxl_y (wn_none rfl) rfl rfl (y_lss_t rfl rfl rfl (by omega)) ?_
            refine sxl_nil ?_
            refine qx_seq ?_
            refine sx_true rfl ?_
            refine sx_skip ?_
            refine qx_seq ?_
            refine sx_seq ?_
            refine sx_block ?_
            refine sx_seq ?_
            refine sx_still hmix (by kernel_rfl) ?_
            refine sxs_y (wn_none rfl) rfl rfl (yp rfl) ?_
            refine sxs_y (wn_none rfl) rfl rfl (yp rfl) ?_
            refine sxs_y (wn_none rfl) rfl rfl (y_indexN rfl rfl rfl (sl rfl) (by omega)) ?_
            refine sxs_y (wn_none rfl) rfl rfl (yp rfl) ?_
            refine sxs_y (wn_none rfl) rfl rfl (y_load rfl rfl (sc rfl) (by assumption)) ?_
            refine sxs_y (wn_none rfl) rfl rfl (yp rfl) ?_
            refine sxs_y (wn_none rfl) rfl rfl (yp rfl) ?_
            refine sxs_y (wn_none rfl) rfl rfl (y_indexN rfl rfl rfl (sl rfl) (by omega)) ?_
            refine sxs_y (wn_none rfl) rfl rfl (yp rfl) ?_
            refine sxs_y (wn_none rfl) rfl rfl (y_load rfl rfl (sc rfl) (by assumption)) ?_
            refine sxs_y (wn_none rfl) rfl rfl (y_seql rfl rfl rfl) ?_
            refine sxs_end ?_
            refine qx_seq ?_
            rw [hdk]
            refine sx_false rfl ?_
            refine sx_skip ?_
            refine qx_block_normal ?_
            refine qx_seq ?_
            refine sx_region ?_
            refine sxl_y (wn_none rfl) rfl rfl (yp rfl) ?_
            refine sxl_y (wn_none rfl) rfl rfl (y_add rfl rfl rfl (by omega)) ?_
            refine sxl_y (wn_none rfl) rfl rfl (yp rfl) ?_
            refine sxl_nil ?_
            exact qx_again [(4, .int .i64 ((k + 1 : Nat) : Int)), (3, .int .i64 (i : Int)), (0, .slice (some ⟨b, off, none⟩) l.length c)] (i - (k + 1)) ⟨k + 1, rfl, hf3.drew, by omega, hnot2, rfl⟩ (by omega) ⟨rfl, rfl, rfl, trivial⟩
        · obtain rfl : k = i := by omega
          rw [if_neg hnot] at hcb
          refine sx_seq ?_
          refine sx_seq ?_
          refine sx_region ?_
          refine sxl_y (wn_none rfl) rfl rfl (yp rfl) ?_
          refine sxl_y (wn_none rfl) rfl rfl (yp rfl) ?_
          refine sxl_y (wn_none rfl) rfl rfl (y_lss_f rfl rfl rfl (by omega)) ?_
          refine sxl_nil ?_
          refine qx_seq ?_
          refine sx_false rfl ?_
          refine sx_exit ?_
          refine qx_then_exit ?_
          refine qx_then_exit ?_
          refine qx_block_hit ?_
          refine qx_block_normal ?_
          refine qx_seq ?_
          refine sx_region ?_
          refine sxl_y (wn_none rfl) rfl rfl (yp rfl) ?_
          refine sxl_y (wn_none rfl) rfl rfl (y_add rfl rfl rfl (by omega)) ?_
          refine sxl_y (wn_none rfl) rfl rfl (yp rfl) ?_
          refine sxl_nil ?_
          exact qx_again [(3, .int .i64 ((k + 1 : Nat) : Int)), (0, .slice (some ⟨b, off, none⟩) l.length c)] (l.length - (k + 1)) ⟨k + 1, rfl, hf3, by omega, by rw [hcb, names_take hx], rfl⟩ (by omega) ⟨rfl, rfl, trivial⟩
  · obtain rfl : i = l.length := by omega
    rw [List.drop_length] at hcb
    refine sx_seq ?_
    refine sx_seq ?_
    refine sx_region ?_
    refine sxl_y (wn_none rfl) rfl rfl (yp rfl) ?_
    refine sxl_y (wn_none rfl) rfl rfl (yp rfl) ?_
    refine sxl_y (wn_none rfl) rfl rfl (y_len rfl rfl (sl rfl)) ?_
    refine sxl_y (wn_none rfl) rfl rfl (y_lss_f rfl rfl rfl (by omega)) ?_
    refine sxl_nil ?_
    refine qx_seq ?_
    refine sx_false rfl ?_
    refine sx_exit ?_
    refine qx_then_exit ?_
    refine qx_then_exit ?_
    refine qx_block_hit ?_
    refine qx_seq ?_
    refine sx_seq ?_
    refine sx_region ?_
    refine sxl_y (wn_none rfl) rfl rfl (yp rfl) ?_
    refine sxl_nil ?_
    refine qx_seq ?_
    refine sx_ret ?_
    refine qx_ret1 rfl rfl ?_
    exact ⟨by rw [hcb]; rfl, hf⟩
theorem mput_seen {L : List (List UInt8 × Value)} {S : List (List UInt8)} (h : ∀ k, (mget L k).getD (.bool false) = .bool (decide (k ∈ S))) (x : List UInt8) : ∀ k, (mget (mput L x (.bool true)) k).getD (.bool false) = .bool (decide (k ∈ S ++ [x])) := fun k => by
  rw [mget_mput]
  by_cases e : k = x
  · simp [e]
  · rw [if_neg e, h k]; simp [e]
theorem bool_zero : (Tryd.prog.info? 4).map (·.zero) = some (some (.bool false)) := by kernel_rfl
set_option maxHeartbeats 16000000 in
theorem vBinds_ok (A : Option Addr) (c : Nat) (l : List Bd) (w : World) (hl : BdOk l) (hr : Rd w A (l.length * 5) (flatD l)) (hT : Laid w utfL) :
    Calls Tryd.prog 6 #[.slice A l.length c] w fun e w' => e = .returned (.int .i64 (cbFrom [] l)) ∧ Fr0 w w' := by
  have hlen := hl.len
  refine sx_enter (vs := [_]) Tryd.func6 rfl Tryd.ntmps6 rfl ?_
  refine sx_seq ?_
  refine sx_region ?_
  refine sxl_y (wn_none rfl) rfl rfl (yp rfl) ?_
  refine sxl_nil ?_
  refine qx_seq ?_
  refine sx_seq ?_
  refine sx_region ?_
  refine sxl_does (some 6) (wn_none rfl) rfl rfl (fun ρ hρ => does_mapE rfl) ?_
  rintro _ w1 ⟨mp, rfl, hmp1, hmp2, hM0, hf0⟩
  refine sxl_y (wn_none rfl) rfl rfl (yp rfl) ?_
  refine sxl_nil ?_
  refine qx_seq ?_
  refine sx_seq ?_
  refine sx_seq ?_
  refine sx_region ?_
  refine sxl_y (wn_none rfl) rfl rfl (yp rfl) ?_
  refine sxl_y (wn_none rfl) rfl rfl (y_len rfl rfl (sl rfl)) ?_
  refine sxl_y (wn_none rfl) rfl rfl (yp rfl) ?_
  refine sxl_nil ?_
  refine qx_seq ?_
  refine sx_block ?_
  refine sx_loop (e0 := [(9, .int .i64 0), (8, .int .i64 (l.length : Int)), (7, .slice A l.length c), (3, .map (some mp))]) (fun e wr m => ∃ (i : Nat) (L : List (List UInt8 × Value)), e = [(9, .int .i64 (i : Int)), (8, .int .i64 (l.length : Int)), (7, .slice A l.length c), (3, .map (some mp))] ∧ Fr0 w wr ∧ Mp wr mp L ∧ (∀ k, (mget L k).getD (.bool false) = .bool (decide (k ∈ namesD (l.take i)))) ∧ i ≤ l.length ∧ cbFrom [] l = cbFrom (namesD (l.take i)) (l.drop i) ∧ m = l.length - i) ⟨0, [], rfl, hf0, hM0, fun k => by simp [mget, namesD], Nat.zero_le _, rfl, rfl⟩ ⟨rfl, rfl, rfl, rfl, trivial⟩ ?_
  rintro _ wr _ ⟨i, L, rfl, hf, hM, hseen, hi, hcb, rfl⟩
  by_cases hlt : i < l.length
  · obtain ⟨x, hx⟩ : ∃ x, l[i]? = some x := ⟨_, List.getElem?_eq_getElem hlt⟩
    have hxl : x ∈ l := List.mem_of_getElem? hx
    obtain ⟨b, off, rfl, el⟩ := rd_bind (hr.fr0 hf) hx
    rw [drop_at hx, cbFrom] at hcb
    refine sx_seq ?_
    refine sx_region ?_
    refine sxl_y (wn_none rfl) rfl rfl (y_lss_t rfl rfl rfl (by omega)) ?_
    refine sxl_nil ?_
    refine qx_seq ?_
    refine sx_seq ?_
    refine sx_true rfl ?_
    refine sx_skip ?_
    refine qx_seq ?_
    refine sx_seq ?_
    refine sx_block ?_
    refine sx_seq ?_
    refine sx_region ?_
    refine sxl_y (wn_none rfl) rfl rfl (y_indexN rfl rfl rfl (sl rfl) (by omega)) ?_
    refine sxl_y (wn_none rfl) rfl rfl (y_loadRd rfl rfl el.all Tryd.underlying38 rfl bind_size) ?_
    refine sxl_does (some 5) (wn_none rfl) rfl rfl (fun ρ hρ => does_alloc 38 rfl _ _ bind_zero rfl) ?_
    rintro _ w2 ⟨g, rfl, hg1, hg2, hb, hf2⟩
    refine sxl_does none (wn_none rfl) rfl rfl (fun ρ hρ => does_store 38 (.tmp 5) (.tmp 12) rfl g 0 38 _ x.cells (hρ _ _ rfl) (hρ _ _ rfl) hb bind_size (by show 0 + 5 ≤ 5; omega) (Bd.cells_one _)) ?_
    rintro _ w3 ⟨rfl, hb3, hf3⟩
    rw [put_all zeroBd.cells x.cells rfl] at hb3
    have hwr := hf.size
    have hfa : Fr0 wr w3 := hf2.step hf3 (fun k hk e => by omega)
    have hf' : Fr0 w w3 := hf.trans hfa
    have hM' := hM.fr hfa (fun hh => hh)
    have el3 := blk_bind hb3
    have e0 := el3.name
    refine sxl_nil ?_
    refine qx_seq ?_
    refine sx_seq ?_
    refine sx_block ?_
    refine sx_seq ?_
    refine sx_region ?_
    refine sxl_y (wn_none rfl) rfl rfl (yp rfl) ?_
    refine sxl_y (wn_none rfl) rfl rfl (y_load rfl rfl (sc rfl) (by assumption)) ?_
    refine sxl_call (some 16) (by first | exact wn_none rfl | exact wn_on rfl rfl rfl) rfl rfl (yc_call rfl rfl Tryd.call10) (wordName_ok x.name _ (hl.name x hxl)) ?_
    rintro _ w4 ⟨rfl, hf4⟩
    refine ⟨_, rfl, ?_⟩
    have hf4' := hf'.trans hf4
    cases hn : nameOk x.name with
    | false =>
      have hres : cbFrom [] l = 1 := by rw [hcb, hn]; rfl
      refine sxl_y (wn_none rfl) rfl rfl (yp rfl) ?_
      refine sxl_y (wn_none rfl) rfl rfl (yp rfl) ?_
      refine sxl_off rfl rfl rfl rfl rfl rfl ?_
      refine sxl_off rfl rfl rfl rfl rfl rfl ?_
      refine sxl_off rfl rfl rfl rfl rfl rfl ?_
      refine sxl_off rfl rfl rfl rfl rfl rfl ?_
      refine sxl_y (wn_none rfl) rfl rfl (yp rfl) ?_
      refine sxl_y (wn_none rfl) rfl rfl (yp rfl) ?_
      refine sxl_nil ?_
      refine qx_seq ?_
      refine sx_true rfl ?_
      refine sx_seq ?_
      refine sx_region ?_
      refine sxl_y (wn_none rfl) rfl rfl (yp rfl) ?_
      refine sxl_nil ?_
      refine qx_seq ?_
      refine sx_ret ?_
      refine qx_block_ret ?_
      refine qx_then_ret ?_
      refine qx_block_ret ?_
      refine qx_then_ret ?_
      refine qx_then_ret ?_
      refine qx_block_ret ?_
      refine qx_then_ret ?_
      refine qx_ret1 rfl rfl ?_
      exact ⟨by rw [hres], hf4'⟩
    | true =>
      have el4 := blk_bind (hb3.fr0 hf4)
      refine sxl_y (wn_none rfl) rfl rfl (yp rfl) ?_
      refine sxl_y (wn_none rfl) rfl rfl (yp rfl) ?_
      refine sxl_y (wn_on rfl rfl rfl) rfl rfl (yp rfl) ?_
      refine sxl_y (wn_on rfl rfl rfl) rfl rfl (y_loadRd rfl rfl el4.val Tryd.underlying36 rfl value_size) ?_
      refine sxl_call (some 21) (by first | exact wn_none rfl | exact wn_on rfl rfl rfl) rfl rfl (yc_call rfl rfl Tryd.call11) (vCheck_ok x.v _ (hl.text x hxl) (hT.fr hf4')) ?_
      rintro _ w5 ⟨rfl, hf5⟩
      refine ⟨_, rfl, ?_⟩
      have hf5' := hf4'.trans hf5
      have hM5 := (hM'.fr hf4 (fun hh => hh)).fr hf5 (fun hh => hh)
      have el5 := blk_bind ((hb3.fr0 hf4).fr0 hf5)
      have e5 := el5.name
      cases hv : vOk x.v with
      | false =>
        have hres : cbFrom [] l = 1 := by rw [hcb, hn, hv]; rfl
        rw [chk_f hv]
        refine sxl_y (wn_on rfl rfl rfl) rfl rfl (y_neq_t rfl rfl rfl (by omega)) ?_
        refine sxl_y (wn_none rfl) rfl rfl (yp rfl) ?_
        refine sxl_y (wn_none rfl) rfl rfl (yp rfl) ?_
        refine sxl_nil ?_
        refine qx_seq ?_
        refine sx_true rfl ?_
        refine sx_seq ?_
        refine sx_region ?_
        refine sxl_y (wn_none rfl) rfl rfl (yp rfl) ?_
        refine sxl_nil ?_
        refine qx_seq ?_
        refine sx_ret ?_
        refine qx_block_ret ?_
        refine qx_then_ret ?_
        refine qx_block_ret ?_
        refine qx_then_ret ?_
        refine qx_then_ret ?_
        refine qx_block_ret ?_
        refine qx_then_ret ?_
        refine qx_ret1 rfl rfl ?_
        exact ⟨by rw [hres], hf5'⟩
      | true =>
        rw [hn, hv] at hcb
        simp only [Bool.and_self, Bool.true_eq_false, if_false] at hcb
        rw [chk_t hv]
        refine sxl_y (wn_on rfl rfl rfl) rfl rfl (y_neq_f rfl rfl rfl (by omega)) ?_
        refine sxl_y (wn_none rfl) rfl rfl (yp rfl) ?_
        refine sxl_y (wn_none rfl) rfl rfl (yp rfl) ?_
        refine sxl_nil ?_
        refine qx_seq ?_
        refine sx_false rfl ?_
        refine sx_seq ?_
        refine sx_region ?_
        refine sxl_y (wn_none rfl) rfl rfl (yp rfl) ?_
        refine sxl_y (wn_none rfl) rfl rfl (yp rfl) ?_
        refine sxl_y (wn_none rfl) rfl rfl (y_load rfl rfl (sc rfl) (by assumption)) ?_
        refine sxl_y (wn_none rfl) rfl rfl (y_lookup (ok := false) rfl rfl rfl Tryd.underlying42 Tryd.underlying9 bool_zero hM5) ?_
        refine sxl_y (wn_none rfl) rfl rfl (yp rfl) ?_
        refine sxl_nil ?_
        refine qx_seq ?_
        rw [show (if (false : Bool) = true then Value.tuple #[(mget L x.name).getD (.bool false), .bool (mget L x.name).isSome] else (mget L x.name).getD (.bool false)) = .bool (decide (x.name ∈ namesD (l.take i))) from hseen x.name]
        by_cases hin : x.name ∈ namesD (l.take i)
        · rw [show decide (x.name ∈ namesD (l.take i)) = true by simp [hin]]
          rw [if_pos hin] at hcb
          refine sx_true rfl ?_
          refine sx_seq ?_
          refine sx_region ?_
          refine sxl_y (wn_none rfl) rfl rfl (yp rfl) ?_
          refine sxl_nil ?_
          refine qx_seq ?_
          refine sx_ret ?_
          refine qx_block_ret ?_
          refine qx_then_ret ?_
          refine qx_block_ret ?_
          refine qx_then_ret ?_
          refine qx_then_ret ?_
          refine qx_block_ret ?_
          refine qx_then_ret ?_
          refine qx_ret1 rfl rfl ?_
          exact ⟨by rw [hcb], hf5'⟩
        · rw [show decide (x.name ∈ namesD (l.take i)) = false by simp [hin]]
          rw [if_neg hin] at hcb
          refine sx_false rfl ?_
          refine sx_skip ?_
          refine qx_block_normal ?_
          refine qx_seq ?_
          refine sx_region ?_
          refine sxl_y (wn_none rfl) rfl rfl (yp rfl) ?_
          refine sxl_y (wn_none rfl) rfl rfl (yp rfl) ?_
          refine sxl_y (wn_none rfl) rfl rfl (y_load rfl rfl (sc rfl) (by assumption)) ?_
          refine sxl_does none (wn_none rfl) rfl rfl (fun ρ hρ => does_mapUpdate (v := .bool true) rfl (hρ _ _ rfl) (hρ _ _ rfl) (hρ _ _ rfl) Tryd.underlying42 Tryd.underlying9 hM5) ?_
          rintro _ w6 ⟨rfl, hf6, hM6⟩
          refine sxl_nil ?_
          refine qx_block_normal ?_
          refine qx_seq ?_
          refine sx_region ?_
          refine sxl_y (wn_none rfl) rfl rfl (y_add rfl rfl rfl (by omega)) ?_
          refine sxl_y (wn_none rfl) rfl rfl (yp rfl) ?_
          refine sxl_nil ?_
          exact qx_again [(9, .int .i64 ((i + 1 : Nat) : Int)), (8, .int .i64 (l.length : Int)), (7, .slice (some ⟨b, off, none⟩) l.length c), (3, .map (some mp))] (l.length - (i + 1)) ⟨i + 1, _, rfl, hf5'.step hf6 (fun k hk e => by omega), hM6, by rw [names_take hx]; exact mput_seen hseen x.name, by omega, by rw [hcb, names_take hx], rfl⟩ (by omega) ⟨rfl, rfl, rfl, rfl, trivial⟩
  · obtain rfl : i = l.length := by omega
    rw [List.drop_length] at hcb
    refine sx_seq ?_
    refine sx_region ?_
    refine sxl_y (wn_none rfl) rfl rfl (y_lss_f rfl rfl rfl (by omega)) ?_
    refine sxl_nil ?_
    refine qx_seq ?_
    refine sx_seq ?_
    refine sx_false rfl ?_
    refine sx_exit ?_
    refine qx_then_exit ?_
    refine qx_then_exit ?_
    refine qx_block_hit ?_
    refine qx_seq ?_
    refine sx_seq ?_
    refine sx_region ?_
    refine sxl_y (wn_none rfl) rfl rfl (yp rfl) ?_
    refine sxl_nil ?_
    refine qx_seq ?_
    refine sx_ret ?_
    refine qx_ret1 rfl rfl ?_
    exact ⟨by rw [hcb]; rfl, hf⟩
end Go.Proofs.YtklciidffdnglaaDoor
