/- The document's pager: which pages are used; a commit. No condition. -/
import Derived.Test.YthdlljlcffokbaaDoorZRf2
import Derived.Test.YthdlljlcffokbaaDoorZb1
namespace Go.Proofs.YthdlljlcffokbaaDoor
open Go.RowKit

theorem info_bool1 : (Tryd.prog.info? 4).map (fun i => (i.zero, i.size, i.bytes)) = some (some (.bool false), 1, 1) := by kernel_rfl
theorem info_int1 : (Tryd.prog.info? 3).map (fun i => (i.zero, i.size, i.bytes)) = some (some (.int .i64 0), 1, 8) := by kernel_rfl
/-- Which numbers stand in a list, as a row of bools. -/
def seenL (n : Nat) (l : List Int) : List Bool := (List.range n).map fun (k : Nat) => decide ((k : Int) ∈ l)
theorem seenL_len (n : Nat) (l : List Int) : (seenL n l).length = n := by simp [seenL]
theorem seenL_at {n k : Nat} (l : List Int) (h : k < n) : (seenL n l)[k]? = some (decide ((k : Int) ∈ l)) := by simp [seenL, h]
theorem seenL_nil (n : Nat) : boolsV (seenL n []) = List.replicate n (.bool false) := by
  unfold boolsV seenL
  rw [List.map_map]
  apply List.ext_getElem?
  intro i
  rw [List.getElem?_map, List.getElem?_replicate]
  by_cases h : i < n
  · rw [List.getElem?_range h, if_pos h]; rfl
  · rw [List.getElem?_eq_none (by rw [List.length_range]; omega), if_neg h]; rfl
theorem seenL_set {n k : Nat} (l : List Int) (h : k < n) : (boolsV (seenL n l)).set k (.bool true) = boolsV (seenL n (l ++ [(k : Int)])) := by
  apply List.ext_getElem?
  intro i
  by_cases e : k = i
  · subst e
    rw [List.getElem?_set_self (by simp [boolsV, seenL_len, h])]
    unfold boolsV
    rw [List.getElem?_map, seenL_at _ h]
    simp
  · rw [List.getElem?_set_ne e]
    unfold boolsV
    rw [List.getElem?_map, List.getElem?_map]
    by_cases hi : i < n
    · rw [seenL_at _ hi, seenL_at _ hi]
      have : ((i : Int) ∈ l ++ [(k : Int)]) ↔ (i : Int) ∈ l := by
        simp only [List.mem_append, List.mem_singleton]
        constructor
        · rintro (h | h)
          · exact h
          · omega
        · exact .inl
      simp [this]
    · rw [List.getElem?_eq_none (by rw [seenL_len]; omega), List.getElem?_eq_none (by rw [seenL_len]; omega)]
/-- What the document's Use answers. -/
def RUse (x : RX) (l : List Int) (a : Int) (st' : List Int) : Prop :=
  ((∃ k : Nat, 2 ≤ k ∧ k < x.st.length ∧ 1 < lst x.st (k : Int)) ∧ a = 250 ∧ st' = x.st) ∨ (∀ k : Nat, 2 ≤ k → k < x.st.length → lst x.st (k : Int) ≤ 1) ∧
    (((∃ n ∈ l, n < 2 ∨ (x.st.length : Int) ≤ n) ∧ a = 1 ∧ st' = x.st) ∨ (∀ n ∈ l, 2 ≤ n ∧ n < (x.st.length : Int)) ∧
      ((¬ l.Nodup ∧ a = 6 ∧ st' = x.st) ∨ (l.Nodup ∧ a = 0 ∧ st'.length = x.st.length ∧ ∀ k : Nat, 2 ≤ k → k < x.st.length → lst st' (k : Int) = usedOf l (k : Int))))
section
variable {w : World} {R : RP} {x : RX}
set_option maxHeartbeats 32000000 in
theorem ruse_any (h : RfAt w R x) (hs : x.st.length ≤ 100000) (hs2 : 2 ≤ x.st.length) (A : Option Addr) (l : List Int) (c : Nat) (hr : Rd w A l.length (iv l)) (hl : l.length ≤ 1000000) :
    Calls Tryd.prog 50 #[.pointer (some ⟨R.gp, 0, none⟩), .slice A l.length c] w fun e w' => ∃ a st', e = .returned (.int .i64 a) ∧ RUse x l a st' ∧ RfTo w w' R { x with st := st' } := by
  have c1 := h.c1
  refine sx_enter (vs := [_, _]) Tryd.func50 rfl Tryd.ntmps50 rfl ?_
  refine sx_seq ?_
  refine sx_region ?_
  refine sxl_y (wn_none rfl) rfl rfl (yp rfl) ?_
  refine sxl_nil ?_
  refine qx_seq ?_
  refine sx_seq ?_
  refine sx_seq ?_
  refine sx_region ?_
  refine sxl_y (wn_none rfl) rfl rfl (yp rfl) ?_
  refine sxl_nil ?_
  refine qx_seq ?_
  refine sx_block ?_
  refine sx_loop (fun e wr m => ∃ (i : Nat), e = [(5, .int .i64 (i : Int)), (0, .pointer (some ⟨R.gp, 0, none⟩)), (1, .slice A l.length c)] ∧ w = wr ∧ 2 ≤ i ∧ i ≤ x.st.length ∧ (∀ k : Nat, 2 ≤ k → k < i → lst x.st (k : Int) ≤ 1) ∧ m = x.st.length - i)
    ⟨2, rfl, rfl, Nat.le_refl _, hs2, (fun k h1 h2 => by omega), rfl⟩ ⟨rfl, rfl, rfl, trivial⟩ ?_
  rintro _ _ _ ⟨i, rfl, rfl, h2, hi, hle, rfl⟩
  by_cases hlt : i < x.st.length
  · obtain ⟨v, hv⟩ : ∃ v, x.st[i]? = some v := ⟨_, List.getElem?_eq_getElem hlt⟩
    have ce := h.cs hv
    have hlv := lst_at hv
    by_cases h1 : 1 < v
    · refine sx_seq ?_
      refine sx_seq ?_
      refine sx_region ?_
      iterate 4 refine sxl_y (wn_none rfl) rfl rfl (yp rfl) ?_
      refine sxl_y (wn_none rfl) rfl rfl (y_load rfl rfl (sc rfl) (by assumption)) ?_
      refine sxl_y (wn_none rfl) rfl rfl (y_len rfl rfl (sl rfl)) ?_
      refine sxl_y (wn_none rfl) rfl rfl (y_lss_t rfl rfl rfl (by omega)) ?_
      refine sxl_nil ?_
      refine qx_seq ?_
      refine sx_true rfl ?_
      refine sx_skip ?_
      refine qx_seq ?_
      refine sx_seq ?_
      refine sx_block ?_
      refine sx_seq ?_
      refine sx_region ?_
      iterate 3 refine sxl_y (wn_none rfl) rfl rfl (yp rfl) ?_
      refine sxl_y (wn_none rfl) rfl rfl (y_load rfl rfl (sc rfl) (by assumption)) ?_
      refine sxl_y (wn_none rfl) rfl rfl (yp rfl) ?_
      refine sxl_y (wn_none rfl) rfl rfl (y_indexN rfl rfl rfl (sl rfl) (by omega)) ?_
      refine sxl_y (wn_none rfl) rfl rfl (y_load rfl rfl (sc rfl) (by assumption)) ?_
      refine sxl_y (wn_none rfl) rfl rfl (y_gtr_t rfl rfl rfl (by omega)) ?_
      refine sxl_nil ?_
      refine qx_seq ?_
      refine sx_true rfl ?_
      refine sx_seq ?_
      refine sx_region ?_
      refine sxl_y (wn_none rfl) rfl rfl (yp rfl) ?_
      refine sxl_nil ?_
      refine qx_seq ?_
      refine sx_ret ?_
      refine qx_block_ret ?_
      refine qx_then_ret ?_
      refine qx_then_ret ?_
      refine qx_block_ret ?_
      refine qx_then_ret ?_
      refine qx_ret1 rfl rfl ?_
      exact ⟨250, x.st, rfl, .inl ⟨⟨i, h2, hlt, by omega⟩, rfl, rfl⟩, .refl h⟩
    · refine sx_seq ?_
      refine sx_seq ?_
      refine sx_region ?_
      iterate 4 refine sxl_y (wn_none rfl) rfl rfl (yp rfl) ?_
      refine sxl_y (wn_none rfl) rfl rfl (y_load rfl rfl (sc rfl) (by assumption)) ?_
      refine sxl_y (wn_none rfl) rfl rfl (y_len rfl rfl (sl rfl)) ?_
      refine sxl_y (wn_none rfl) rfl rfl (y_lss_t rfl rfl rfl (by omega)) ?_
      refine sxl_nil ?_
      refine qx_seq ?_
      refine sx_true rfl ?_
      refine sx_skip ?_
      refine qx_seq ?_
      refine sx_seq ?_
      refine sx_block ?_
      refine sx_seq ?_
      refine sx_region ?_
      iterate 3 refine sxl_y (wn_none rfl) rfl rfl (yp rfl) ?_
      refine sxl_y (wn_none rfl) rfl rfl (y_load rfl rfl (sc rfl) (by assumption)) ?_
      refine sxl_y (wn_none rfl) rfl rfl (yp rfl) ?_
      refine sxl_y (wn_none rfl) rfl rfl (y_indexN rfl rfl rfl (sl rfl) (by omega)) ?_
      refine sxl_y (wn_none rfl) rfl rfl (y_load rfl rfl (sc rfl) (by assumption)) ?_
      refine sxl_y (wn_none rfl) rfl rfl (y_gtr_f rfl rfl rfl (by omega)) ?_
      refine sxl_nil ?_
      refine qx_seq ?_
      refine sx_false rfl ?_
      refine sx_skip ?_
      refine qx_block_normal ?_
      refine qx_seq ?_
      refine sx_region ?_
      refine sxl_y (wn_none rfl) rfl rfl (yp rfl) ?_
      refine sxl_y (wn_none rfl) rfl rfl (y_add rfl rfl rfl (by omega)) ?_
      refine sxl_y (wn_none rfl) rfl rfl (yp rfl) ?_
      refine sxl_nil ?_
      exact qx_again [(5, .int .i64 ((i + 1 : Nat) : Int)), (0, .pointer (some ⟨R.gp, 0, none⟩)), (1, .slice A l.length c)] (x.st.length - (i + 1)) ⟨i + 1, rfl, rfl, by omega, hlt, (fun k hk1 hk2 => by
        by_cases e : k = i
        · subst e; omega
        · exact hle k hk1 (by omega)), rfl⟩ (by omega) ⟨rfl, rfl, rfl, trivial⟩
  obtain rfl : i = x.st.length := by omega
  have hle1 : ∀ k : Nat, 2 ≤ k → k < x.st.length → lst x.st (k : Int) ≤ 1 := hle
  refine sx_seq ?_
  refine sx_seq ?_
  refine sx_region ?_
  iterate 4 refine sxl_y (wn_none rfl) rfl rfl (yp rfl) ?_
  refine sxl_y (wn_none rfl) rfl rfl (y_load rfl rfl (sc rfl) (by assumption)) ?_
  refine sxl_y (wn_none rfl) rfl rfl (y_len rfl rfl (sl rfl)) ?_
  refine sxl_y (wn_none rfl) rfl rfl (y_lss_f rfl rfl rfl (by omega)) ?_
  refine sxl_nil ?_
  refine qx_seq ?_
  refine sx_false rfl ?_
  refine sx_exit ?_
  refine qx_then_exit ?_
  refine qx_then_exit ?_
  refine qx_block_hit ?_
  refine qx_seq ?_
  refine sx_seq ?_
  refine sx_region ?_
  iterate 3 refine sxl_y (wn_none rfl) rfl rfl (yp rfl) ?_
  refine sxl_y (wn_none rfl) rfl rfl (y_load rfl rfl (sc rfl) (by assumption)) ?_
  refine sxl_y (wn_none rfl) rfl rfl (y_len rfl rfl (sl rfl)) ?_
  refine sxl_does (some 32) (wn_none rfl) rfl rfl (fun ρ hρ => does_make1 23 (.tmp 31) (.tmp 31) rfl 4 (.bool false) 1 x.st.length Tryd.underlying23 info_bool1 rfl (hρ _ _ rfl) (hρ _ _ rfl) (by omega) (by omega)) ?_
  rintro _ w1 ⟨g6, rfl, hg1, hg2, hb1, hf1⟩
  rw [← seenL_nil] at hb1
  have hgR : ¬ R.blocks g6 := fun hb => by have := h.lt hb; omega
  refine sxl_y (wn_none rfl) rfl rfl (yp rfl) ?_
  refine sxl_nil ?_
  refine qx_seq ?_
  refine sx_seq ?_
  refine sx_region ?_
  refine sxl_y (wn_none rfl) rfl rfl (yp rfl) ?_
  refine sxl_nil ?_
  refine qx_seq ?_
  refine sx_seq ?_
  refine sx_seq ?_
  refine sx_region ?_
  refine sxl_y (wn_none rfl) rfl rfl (yp rfl) ?_
  refine sxl_nil ?_
  refine qx_seq ?_
  refine sx_block ?_
  refine sx_loop (fun e wr m => ∃ (i : Nat) (tw : Bool), e = [(8, .int .i64 (i : Int)), (7, .bool tw), (6, .slice (some ⟨g6, 0, none⟩) x.st.length x.st.length), (0, .pointer (some ⟨R.gp, 0, none⟩)), (1, .slice A l.length c)] ∧ i ≤ l.length ∧ Blk wr g6 4 (boolsV (seenL x.st.length (l.take i))) ∧ (tw = false ↔ (l.take i).Nodup) ∧ (∀ n ∈ l.take i, 2 ≤ n ∧ n < (x.st.length : Int)) ∧ Fr (fun b => b = g6) w1 wr ∧ m = l.length - i)
    ⟨0, false, rfl, Nat.zero_le _, by rw [List.take_zero]; exact hb1, by simp, by simp, Fr.refl, rfl⟩ ⟨rfl, rfl, rfl, rfl, rfl, trivial⟩ ?_
  rintro _ wr _ ⟨i, tw, rfl, hi, hb, htw, hin, hfr, rfl⟩
  have hf0r : Fr0 w wr := hf1.step hfr (fun b hb e => by omega)
  have hr' := h.fr0 hf0r
  by_cases hlt : i < l.length
  · obtain ⟨n, hx⟩ : ∃ n, l[i]? = some n := ⟨_, List.getElem?_eq_getElem hlt⟩
    obtain ⟨b, off, rfl, ce⟩ := rd_int (hr.fr0 hf0r) hx
    have hts := take_snoc hx
    have hmem : n ∈ l := List.mem_of_getElem? hx
    by_cases hrange : n < 2 ∨ (x.st.length : Int) ≤ n
    · refine sx_seq ?_
      refine sx_seq ?_
      refine sx_region ?_
      iterate 2 refine sxl_y (wn_none rfl) rfl rfl (yp rfl) ?_
      refine sxl_y (wn_none rfl) rfl rfl (y_len rfl rfl (sl rfl)) ?_
      refine sxl_y (wn_none rfl) rfl rfl (y_lss_t rfl rfl rfl (by omega)) ?_
      refine sxl_nil ?_
      refine qx_seq ?_
      refine sx_true rfl ?_
      refine sx_skip ?_
      refine qx_seq ?_
      refine sx_seq ?_
      refine sx_block ?_
      refine sx_seq ?_
      refine sx_seq ?_
      refine sx_region ?_
      iterate 3 refine sxl_y (wn_none rfl) rfl rfl (yp rfl) ?_
      refine sxl_y (wn_none rfl) rfl rfl (y_indexN rfl rfl rfl (sl rfl) (by omega)) ?_
      refine sxl_y (wn_none rfl) rfl rfl (y_load rfl rfl (sc rfl) (by assumption)) ?_
      refine sxl_pure (wn_none rfl) rfl rfl (yc_call rfl rfl Tryd.call44) (rpage_f hr' hrange) ?_
      refine sxl_y (wn_none rfl) rfl rfl (yp rfl) ?_
      refine sxl_nil ?_
      refine qx_seq ?_
      refine sx_true rfl ?_
      refine sx_seq ?_
      refine sx_region ?_
      refine sxl_y (wn_none rfl) rfl rfl (yp rfl) ?_
      refine sxl_nil ?_
      refine qx_seq ?_
      refine sx_ret ?_
      refine qx_then_ret ?_
      refine qx_block_ret ?_
      refine qx_then_ret ?_
      refine qx_then_ret ?_
      refine qx_block_ret ?_
      refine qx_then_ret ?_
      refine qx_ret1 rfl rfl ?_
      exact ⟨1, x.st, rfl, .inr ⟨hle1, .inl ⟨⟨n, hmem, hrange⟩, rfl, rfl⟩⟩, hr', Fr.of0 hf0r⟩
    obtain ⟨k, rfl⟩ : ∃ k : Nat, n = (k : Int) := ⟨n.toNat, by omega⟩
    have hpt := rpage_t hr' (n := (k : Int)) (by omega) (by omega)
    have hkl : k < x.st.length := by omega
    have cb : Cell wr.heap g6 (0 + k * 1) (.bool (decide ((k : Int) ∈ l.take i))) := hb.c _ (by unfold boolsV; rw [Nat.zero_add, Nat.mul_one, List.getElem?_map, seenL_at _ hkl]; rfl)
    have hbl : b ≠ g6 := by
      have := World.block_lt_of_cell? w _ ((rd_int hr hx).choose_spec.choose_spec.2.get w rfl)
      obtain ⟨b', o', e', ce'⟩ := rd_int hr hx
      injection e' with e'; injection e' with e1 _ _
      have := World.block_lt_of_cell? w _ (ce'.get w rfl)
      have h3 : b' < w.heap.size := this
      omega
    have fin : ∀ (tw' : Bool) (w3 : World), (tw' = false ↔ (l.take (i + 1)).Nodup) → Fr (fun b => b = g6) wr w3 → Blk w3 g6 4 ((boolsV (seenL x.st.length (l.take i))).set k (.bool true)) → ∃ (i' : Nat) (tw'' : Bool), [(8, Value.int .i64 ((i + 1 : Nat) : Int)), (7, .bool tw'), (6, .slice (some ⟨g6, 0, none⟩) x.st.length x.st.length), (0, .pointer (some ⟨R.gp, 0, none⟩)), (1, .slice (some ⟨b, off, none⟩) l.length c)] = [(8, Value.int .i64 (i' : Int)), (7, .bool tw''), (6, .slice (some ⟨g6, 0, none⟩) x.st.length x.st.length), (0, .pointer (some ⟨R.gp, 0, none⟩)), (1, .slice (some ⟨b, off, none⟩) l.length c)] ∧ i' ≤ l.length ∧ Blk w3 g6 4 (boolsV (seenL x.st.length (l.take i'))) ∧ (tw'' = false ↔ (l.take i').Nodup) ∧ (∀ n ∈ l.take i', 2 ≤ n ∧ n < (x.st.length : Int)) ∧ Fr (fun b => b = g6) w1 w3 ∧ l.length - (i + 1) = l.length - i' := fun tw' w3 ht hf hb3 => by
      refine ⟨i + 1, tw', rfl, hlt, ?_, ht, ?_, hfr.trans hf, rfl⟩
      · rw [hts, ← seenL_set _ hkl]; exact hb3
      · intro m hm
        rw [hts] at hm
        rcases List.mem_append.1 hm with hm | hm
        · exact hin m hm
        · obtain rfl : m = (k : Int) := by simpa using hm
          omega
    have ce3 : ∀ w3, Fr (fun b => b = g6) wr w3 → Cell w3.heap b (off + i * 1) (.int .i64 (k : Int)) := fun w3 hf => ce.fr hf hbl
    cases tw with
    | true =>
      refine sx_seq ?_
      refine sx_seq ?_
      refine sx_region ?_
      iterate 2 refine sxl_y (wn_none rfl) rfl rfl (yp rfl) ?_
      refine sxl_y (wn_none rfl) rfl rfl (y_len rfl rfl (sl rfl)) ?_
      refine sxl_y (wn_none rfl) rfl rfl (y_lss_t rfl rfl rfl (by omega)) ?_
      refine sxl_nil ?_
      refine qx_seq ?_
      refine sx_true rfl ?_
      refine sx_skip ?_
      refine qx_seq ?_
      refine sx_seq ?_
      refine sx_block ?_
      refine sx_seq ?_
      refine sx_seq ?_
      refine sx_region ?_
      iterate 3 refine sxl_y (wn_none rfl) rfl rfl (yp rfl) ?_
      refine sxl_y (wn_none rfl) rfl rfl (y_indexN rfl rfl rfl (sl rfl) (by omega)) ?_
      refine sxl_y (wn_none rfl) rfl rfl (y_load rfl rfl (sc rfl) (by assumption)) ?_
      refine sxl_pure (wn_none rfl) rfl rfl (yc_call rfl rfl Tryd.call44) (hpt) ?_
      refine sxl_y (wn_none rfl) rfl rfl (yp rfl) ?_
      refine sxl_nil ?_
      refine qx_seq ?_
      refine sx_false rfl ?_
      refine sx_skip ?_
      refine qx_seq ?_
      refine sx_seq ?_
      refine sx_region ?_
      iterate 2 refine sxl_y (wn_none rfl) rfl rfl (yp rfl) ?_
      refine sxl_off rfl rfl rfl rfl rfl rfl ?_
      refine sxl_off rfl rfl rfl rfl rfl rfl ?_
      refine sxl_off rfl rfl rfl rfl rfl rfl ?_
      refine sxl_off rfl rfl rfl rfl rfl rfl ?_
      refine sxl_off rfl rfl rfl rfl rfl rfl ?_
      refine sxl_off rfl rfl rfl rfl rfl rfl ?_
      refine sxl_off rfl rfl rfl rfl rfl rfl ?_
      iterate 2 refine sxl_y (wn_none rfl) rfl rfl (yp rfl) ?_
      refine sxl_nil ?_
      refine qx_seq ?_
      refine sx_region ?_
      iterate 3 refine sxl_y (wn_none rfl) rfl rfl (yp rfl) ?_
      refine sxl_y (wn_none rfl) rfl rfl (y_indexN rfl rfl rfl (sl rfl) (by omega)) ?_
      refine sxl_y (wn_none rfl) rfl rfl (y_load rfl rfl (sc rfl) (by assumption)) ?_
      refine sxl_y (wn_none rfl) rfl rfl (y_indexN rfl rfl rfl (sl rfl) (by omega)) ?_
      refine sxl_does none (wn_none rfl) rfl rfl (fun ρ hρ => does_store1 4 (.tmp 61) _ rfl g6 (0 + k * 1) 4 _ (.bool true) (hρ _ _ rfl) (hρ _ _ rfl) rfl hb (by kernel_rfl) (by simp [boolsV, seenL_len]; omega) rfl) ?_
      rintro _ w3 ⟨rfl, hb3, hf3⟩
      rw [Nat.zero_add, Nat.mul_one] at hb3
      refine sxl_nil ?_
      refine qx_block_normal ?_
      refine qx_seq ?_
      refine sx_region ?_
      refine sxl_y (wn_none rfl) rfl rfl (yp rfl) ?_
      refine sxl_y (wn_none rfl) rfl rfl (y_add rfl rfl rfl (by omega)) ?_
      refine sxl_y (wn_none rfl) rfl rfl (yp rfl) ?_
      refine sxl_nil ?_
      exact qx_again [(8, Value.int .i64 ((i + 1 : Nat) : Int)), (7, .bool true), (6, .slice (some ⟨g6, 0, none⟩) x.st.length x.st.length), (0, .pointer (some ⟨R.gp, 0, none⟩)), (1, .slice (some ⟨b, off, none⟩) l.length c)] (l.length - (i + 1)) (fin true w3 (by
        rw [hts, nodup_snoc]
        constructor
        · intro e; cases e
        · intro e; have := htw.2 e.1; cases this) hf3 hb3) (by omega) ⟨rfl, rfl, rfl, rfl, rfl, trivial⟩
    | false =>
      by_cases hm : (k : Int) ∈ l.take i
      · rw [decide_eq_true hm] at cb
        refine sx_seq ?_
        refine sx_seq ?_
        refine sx_region ?_
        iterate 2 refine sxl_y (wn_none rfl) rfl rfl (yp rfl) ?_
        refine sxl_y (wn_none rfl) rfl rfl (y_len rfl rfl (sl rfl)) ?_
        refine sxl_y (wn_none rfl) rfl rfl (y_lss_t rfl rfl rfl (by omega)) ?_
        refine sxl_nil ?_
        refine qx_seq ?_
        refine sx_true rfl ?_
        refine sx_skip ?_
        refine qx_seq ?_
        refine sx_seq ?_
        refine sx_block ?_
        refine sx_seq ?_
        refine sx_seq ?_
        refine sx_region ?_
        iterate 3 refine sxl_y (wn_none rfl) rfl rfl (yp rfl) ?_
        refine sxl_y (wn_none rfl) rfl rfl (y_indexN rfl rfl rfl (sl rfl) (by omega)) ?_
        refine sxl_y (wn_none rfl) rfl rfl (y_load rfl rfl (sc rfl) (by assumption)) ?_
        refine sxl_pure (wn_none rfl) rfl rfl (yc_call rfl rfl Tryd.call44) (hpt) ?_
        refine sxl_y (wn_none rfl) rfl rfl (yp rfl) ?_
        refine sxl_nil ?_
        refine qx_seq ?_
        refine sx_false rfl ?_
        refine sx_skip ?_
        refine qx_seq ?_
        refine sx_seq ?_
        refine sx_region ?_
        iterate 2 refine sxl_y (wn_none rfl) rfl rfl (yp rfl) ?_
        refine sxl_y (wn_on rfl rfl rfl) rfl rfl (yp rfl) ?_
        refine sxl_y (wn_on rfl rfl rfl) rfl rfl (yp rfl) ?_
        refine sxl_y (wn_on rfl rfl rfl) rfl rfl (yp rfl) ?_
        refine sxl_y (wn_on rfl rfl rfl) rfl rfl (y_indexN rfl rfl rfl (sl rfl) (by omega)) ?_
        refine sxl_y (wn_on rfl rfl rfl) rfl rfl (y_load rfl rfl (sc rfl) (by assumption)) ?_
        refine sxl_y (wn_on rfl rfl rfl) rfl rfl (y_indexN rfl rfl rfl (sl rfl) (by omega)) ?_
        refine sxl_y (wn_on rfl rfl rfl) rfl rfl (y_load rfl rfl (sc rfl) (by assumption)) ?_
        iterate 2 refine sxl_y (wn_none rfl) rfl rfl (yp rfl) ?_
        refine sxl_nil ?_
        refine qx_seq ?_
        refine sx_region ?_
        iterate 3 refine sxl_y (wn_none rfl) rfl rfl (yp rfl) ?_
        refine sxl_y (wn_none rfl) rfl rfl (y_indexN rfl rfl rfl (sl rfl) (by omega)) ?_
        refine sxl_y (wn_none rfl) rfl rfl (y_load rfl rfl (sc rfl) (by assumption)) ?_
        refine sxl_y (wn_none rfl) rfl rfl (y_indexN rfl rfl rfl (sl rfl) (by omega)) ?_
        refine sxl_does none (wn_none rfl) rfl rfl (fun ρ hρ => does_store1 4 (.tmp 61) _ rfl g6 (0 + k * 1) 4 _ (.bool true) (hρ _ _ rfl) (hρ _ _ rfl) rfl hb (by kernel_rfl) (by simp [boolsV, seenL_len]; omega) rfl) ?_
        rintro _ w3 ⟨rfl, hb3, hf3⟩
        rw [Nat.zero_add, Nat.mul_one] at hb3
        refine sxl_nil ?_
        refine qx_block_normal ?_
        refine qx_seq ?_
        refine sx_region ?_
        refine sxl_y (wn_none rfl) rfl rfl (yp rfl) ?_
        refine sxl_y (wn_none rfl) rfl rfl (y_add rfl rfl rfl (by omega)) ?_
        refine sxl_y (wn_none rfl) rfl rfl (yp rfl) ?_
        refine sxl_nil ?_
        exact qx_again [(8, Value.int .i64 ((i + 1 : Nat) : Int)), (7, .bool true), (6, .slice (some ⟨g6, 0, none⟩) x.st.length x.st.length), (0, .pointer (some ⟨R.gp, 0, none⟩)), (1, .slice (some ⟨b, off, none⟩) l.length c)] (l.length - (i + 1)) (fin true w3 (by
          rw [hts, nodup_snoc]
          constructor
          · intro e; cases e
          · intro e; exact absurd hm e.2) hf3 hb3) (by omega) ⟨rfl, rfl, rfl, rfl, rfl, trivial⟩
      · rw [decide_eq_false hm] at cb
        refine sx_seq ?_
        refine sx_seq ?_
        refine sx_region ?_
        iterate 2 refine sxl_y (wn_none rfl) rfl rfl (yp rfl) ?_
        refine sxl_y (wn_none rfl) rfl rfl (y_len rfl rfl (sl rfl)) ?_
        refine sxl_y (wn_none rfl) rfl rfl (y_lss_t rfl rfl rfl (by omega)) ?_
        refine sxl_nil ?_
        refine qx_seq ?_
        refine sx_true rfl ?_
        refine sx_skip ?_
        refine qx_seq ?_
        refine sx_seq ?_
        refine sx_block ?_
        refine sx_seq ?_
        refine sx_seq ?_
        refine sx_region ?_
        iterate 3 refine sxl_y (wn_none rfl) rfl rfl (yp rfl) ?_
        refine sxl_y (wn_none rfl) rfl rfl (y_indexN rfl rfl rfl (sl rfl) (by omega)) ?_
        refine sxl_y (wn_none rfl) rfl rfl (y_load rfl rfl (sc rfl) (by assumption)) ?_
        refine sxl_pure (wn_none rfl) rfl rfl (yc_call rfl rfl Tryd.call44) (hpt) ?_
        refine sxl_y (wn_none rfl) rfl rfl (yp rfl) ?_
        refine sxl_nil ?_
        refine qx_seq ?_
        refine sx_false rfl ?_
        refine sx_skip ?_
        refine qx_seq ?_
        refine sx_seq ?_
        refine sx_region ?_
        iterate 2 refine sxl_y (wn_none rfl) rfl rfl (yp rfl) ?_
        refine sxl_y (wn_on rfl rfl rfl) rfl rfl (yp rfl) ?_
        refine sxl_y (wn_on rfl rfl rfl) rfl rfl (yp rfl) ?_
        refine sxl_y (wn_on rfl rfl rfl) rfl rfl (yp rfl) ?_
        refine sxl_y (wn_on rfl rfl rfl) rfl rfl (y_indexN rfl rfl rfl (sl rfl) (by omega)) ?_
        refine sxl_y (wn_on rfl rfl rfl) rfl rfl (y_load rfl rfl (sc rfl) (by assumption)) ?_
        refine sxl_y (wn_on rfl rfl rfl) rfl rfl (y_indexN rfl rfl rfl (sl rfl) (by omega)) ?_
        refine sxl_y (wn_on rfl rfl rfl) rfl rfl (y_load rfl rfl (sc rfl) (by assumption)) ?_
        iterate 2 refine sxl_y (wn_none rfl) rfl rfl (yp rfl) ?_
        refine sxl_nil ?_
        refine qx_seq ?_
        refine sx_region ?_
        iterate 3 refine sxl_y (wn_none rfl) rfl rfl (yp rfl) ?_
        refine sxl_y (wn_none rfl) rfl rfl (y_indexN rfl rfl rfl (sl rfl) (by omega)) ?_
        refine sxl_y (wn_none rfl) rfl rfl (y_load rfl rfl (sc rfl) (by assumption)) ?_
        refine sxl_y (wn_none rfl) rfl rfl (y_indexN rfl rfl rfl (sl rfl) (by omega)) ?_
        refine sxl_does none (wn_none rfl) rfl rfl (fun ρ hρ => does_store1 4 (.tmp 61) _ rfl g6 (0 + k * 1) 4 _ (.bool true) (hρ _ _ rfl) (hρ _ _ rfl) rfl hb (by kernel_rfl) (by simp [boolsV, seenL_len]; omega) rfl) ?_
        rintro _ w3 ⟨rfl, hb3, hf3⟩
        rw [Nat.zero_add, Nat.mul_one] at hb3
        refine sxl_nil ?_
        refine qx_block_normal ?_
        refine qx_seq ?_
        refine sx_region ?_
        refine sxl_y (wn_none rfl) rfl rfl (yp rfl) ?_
        refine sxl_y (wn_none rfl) rfl rfl (y_add rfl rfl rfl (by omega)) ?_
        refine sxl_y (wn_none rfl) rfl rfl (yp rfl) ?_
        refine sxl_nil ?_
        exact qx_again [(8, Value.int .i64 ((i + 1 : Nat) : Int)), (7, .bool false), (6, .slice (some ⟨g6, 0, none⟩) x.st.length x.st.length), (0, .pointer (some ⟨R.gp, 0, none⟩)), (1, .slice (some ⟨b, off, none⟩) l.length c)] (l.length - (i + 1)) (fin false w3 (by
          rw [hts, nodup_snoc]
          exact ⟨fun _ => ⟨htw.1 rfl, hm⟩, fun _ => rfl⟩) hf3 hb3) (by omega) ⟨rfl, rfl, rfl, rfl, rfl, trivial⟩
  obtain rfl : i = l.length := by omega
  rw [List.take_length] at htw hin hb
  have hin' : ∀ n ∈ l, 2 ≤ n ∧ n < (x.st.length : Int) := hin
  cases tw with
  | true =>
    refine sx_seq ?_
    refine sx_seq ?_
    refine sx_region ?_
    iterate 2 refine sxl_y (wn_none rfl) rfl rfl (yp rfl) ?_
    refine sxl_y (wn_none rfl) rfl rfl (y_len rfl rfl (sl rfl)) ?_
    refine sxl_y (wn_none rfl) rfl rfl (y_lss_f rfl rfl rfl (by omega)) ?_
    refine sxl_nil ?_
    refine qx_seq ?_
    refine sx_false rfl ?_
    refine sx_exit ?_
    refine qx_then_exit ?_
    refine qx_then_exit ?_
    refine qx_block_hit ?_
    refine qx_seq ?_
    refine sx_seq ?_
    refine sx_seq ?_
    refine sx_region ?_
    refine sxl_y (wn_none rfl) rfl rfl (yp rfl) ?_
    refine sxl_nil ?_
    refine qx_seq ?_
    refine sx_true rfl ?_
    refine sx_seq ?_
    refine sx_region ?_
    refine sxl_y (wn_none rfl) rfl rfl (yp rfl) ?_
    refine sxl_nil ?_
    refine qx_seq ?_
    refine sx_ret ?_
    refine qx_then_ret ?_
    refine qx_ret1 rfl rfl ?_
    exact ⟨6, x.st, rfl, .inr ⟨hle1, .inr ⟨hin', .inl ⟨fun hn => by (have := htw.2 hn; cases this), rfl, rfl⟩⟩⟩, hr', Fr.of0 hf0r⟩
  | false =>
    have hnd := htw.1 rfl
    refine sx_seq ?_
    refine sx_seq ?_
    refine sx_region ?_
    iterate 2 refine sxl_y (wn_none rfl) rfl rfl (yp rfl) ?_
    refine sxl_y (wn_none rfl) rfl rfl (y_len rfl rfl (sl rfl)) ?_
    refine sxl_y (wn_none rfl) rfl rfl (y_lss_f rfl rfl rfl (by omega)) ?_
    refine sxl_nil ?_
    refine qx_seq ?_
    refine sx_false rfl ?_
    refine sx_exit ?_
    refine qx_then_exit ?_
    refine qx_then_exit ?_
    refine qx_block_hit ?_
    refine qx_seq ?_
    refine sx_seq ?_
    refine sx_seq ?_
    refine sx_region ?_
    refine sxl_y (wn_none rfl) rfl rfl (yp rfl) ?_
    refine sxl_nil ?_
    refine qx_seq ?_
    refine sx_false rfl ?_
    refine sx_skip ?_
    refine qx_seq ?_
    refine sx_seq ?_
    refine sx_seq ?_
    refine sx_region ?_
    refine sxl_y (wn_none rfl) rfl rfl (yp rfl) ?_
    refine sxl_nil ?_
    refine qx_seq ?_
    refine sx_block ?_
    refine sx_loop (fun e wr' m => ∃ (i : Nat) (st' : List Int), e = [(9, .int .i64 (i : Int)), (6, .slice (some ⟨g6, 0, none⟩) x.st.length x.st.length), (0, .pointer (some ⟨R.gp, 0, none⟩))] ∧ 2 ≤ i ∧ i ≤ x.st.length ∧ st'.length = x.st.length ∧ (∀ k : Nat, 2 ≤ k → k < i → lst st' (k : Int) = usedOf l (k : Int)) ∧ RfTo wr wr' R { x with st := st' } ∧ m = x.st.length - i)
      ⟨2, x.st, rfl, Nat.le_refl _, hs2, rfl, (fun k h1 h2 => by omega), .refl hr', rfl⟩ ⟨rfl, rfl, rfl, trivial⟩ ?_
    rintro _ w4 _ ⟨i, st', rfl, h2, hi, hln, hus, hto, rfl⟩
    have c1 : Cell w4.heap R.gp 1 (.slice (some ⟨R.gs, 0, none⟩) st'.length st'.length) := hto.at_.c1
    by_cases hlt : i < x.st.length
    · have hlt' : i < st'.length := by omega
      have cb : Cell wr.heap g6 (0 + i * 1) (.bool (decide ((i : Int) ∈ l))) := hb.c _ (by unfold boolsV; rw [Nat.zero_add, Nat.mul_one, List.getElem?_map, seenL_at _ hlt]; rfl)
      refine sx_seq ?_
      refine sx_seq ?_
      refine sx_region ?_
      iterate 4 refine sxl_y (wn_none rfl) rfl rfl (yp rfl) ?_
      refine sxl_y (wn_none rfl) rfl rfl (y_load rfl rfl (sc rfl) (by assumption)) ?_
      refine sxl_y (wn_none rfl) rfl rfl (y_len rfl rfl (sl rfl)) ?_
      refine sxl_y (wn_none rfl) rfl rfl (y_lss_t rfl rfl rfl (by omega)) ?_
      refine sxl_nil ?_
      refine qx_seq ?_
      refine sx_true rfl ?_
      refine sx_skip ?_
      refine qx_seq ?_
      refine sx_seq ?_
      refine sx_block ?_
      refine sx_seq ?_
      refine sx_region ?_
      iterate 3 refine sxl_y (wn_none rfl) rfl rfl (yp rfl) ?_
      refine sxl_y (wn_none rfl) rfl rfl (y_load rfl rfl (sc rfl) (by assumption)) ?_
      refine sxl_y (wn_none rfl) rfl rfl (yp rfl) ?_
      refine sxl_y (wn_none rfl) rfl rfl (y_indexN rfl rfl rfl (sl rfl) (by omega)) ?_
      refine sxl_does none (wn_none rfl) rfl rfl (fun ρ hρ => does_st (k := i) (v := 0) rfl (hρ _ _ rfl) (hρ _ _ rfl) hto.at_ hlt') ?_
      rintro _ w5 ⟨rfl, h5⟩
      have hto5 := hto.trans h5
      have cb5 := cb.fr hto5.fr hgR
      have fin : ∀ (st2 : List Int) (u : Int) (w6 : World), st2 = st'.set i u → u = usedOf l (i : Int) → RfTo wr w6 R { x with st := st2 } → ∃ (i' : Nat) (st'' : List Int), [(9, Value.int .i64 ((i + 1 : Nat) : Int)), (6, .slice (some ⟨g6, 0, none⟩) x.st.length x.st.length), (0, .pointer (some ⟨R.gp, 0, none⟩))] = [(9, Value.int .i64 (i' : Int)), (6, .slice (some ⟨g6, 0, none⟩) x.st.length x.st.length), (0, .pointer (some ⟨R.gp, 0, none⟩))] ∧ 2 ≤ i' ∧ i' ≤ x.st.length ∧ st''.length = x.st.length ∧ (∀ k : Nat, 2 ≤ k → k < i' → lst st'' (k : Int) = usedOf l (k : Int)) ∧ RfTo wr w6 R { x with st := st'' } ∧ x.st.length - (i + 1) = x.st.length - i' := fun st2 u w6 e2 hu h6 => by
        subst e2
        refine ⟨i + 1, _, rfl, by omega, hlt, by rw [List.length_set]; exact hln, fun k hk1 hk2 => ?_, h6, rfl⟩
        rw [lst_set hlt']
        unfold updS
        by_cases e : (k : Int) = (i : Int)
        · rw [if_pos e, e, hu]
        · rw [if_neg e]; exact hus k hk1 (by omega)
      by_cases hm : (i : Int) ∈ l
      · rw [decide_eq_true hm] at cb5
        have c15 : Cell w5.heap R.gp 1 (.slice (some ⟨R.gs, 0, none⟩) (st'.set i 0).length (st'.set i 0).length) := h5.at_.c1
        rw [List.length_set] at c15
        refine sxl_nil ?_
        refine qx_seq ?_
        refine sx_seq ?_
        refine sx_region ?_
        iterate 2 refine sxl_y (wn_none rfl) rfl rfl (yp rfl) ?_
        refine sxl_y (wn_none rfl) rfl rfl (y_indexN rfl rfl rfl (sl rfl) (by omega)) ?_
        refine sxl_y (wn_none rfl) rfl rfl (y_load rfl rfl (sc rfl) (by assumption)) ?_
        refine sxl_nil ?_
        refine qx_seq ?_
        refine sx_true rfl ?_
        refine sx_region ?_
        iterate 3 refine sxl_y (wn_none rfl) rfl rfl (yp rfl) ?_
        refine sxl_y (wn_none rfl) rfl rfl (y_load rfl rfl (sc rfl) (by assumption)) ?_
        refine sxl_y (wn_none rfl) rfl rfl (yp rfl) ?_
        refine sxl_y (wn_none rfl) rfl rfl (y_indexN rfl rfl rfl (sl rfl) (by omega)) ?_
        refine sxl_does none (wn_none rfl) rfl rfl (fun ρ hρ => does_st (k := i) (v := 1) rfl (hρ _ _ rfl) (hρ _ _ rfl) h5.at_ (by rw [List.length_set]; exact hlt')) ?_
        rintro _ w6 ⟨rfl, h6⟩
        refine sxl_nil ?_
        refine qx_block_normal ?_
        refine qx_seq ?_
        refine sx_region ?_
        refine sxl_y (wn_none rfl) rfl rfl (yp rfl) ?_
        refine sxl_y (wn_none rfl) rfl rfl (y_add rfl rfl rfl (by omega)) ?_
        refine sxl_y (wn_none rfl) rfl rfl (yp rfl) ?_
        refine sxl_nil ?_
        exact qx_again [(9, Value.int .i64 ((i + 1 : Nat) : Int)), (6, .slice (some ⟨g6, 0, none⟩) x.st.length x.st.length), (0, .pointer (some ⟨R.gp, 0, none⟩))] (x.st.length - (i + 1)) (fin ((st'.set i 0).set i 1) 1 w6 (List.set_set ..) (by unfold usedOf; rw [if_pos hm]) (hto5.trans h6)) (by omega) ⟨rfl, rfl, rfl, trivial⟩
      · rw [decide_eq_false hm] at cb5
        refine sxl_nil ?_
        refine qx_seq ?_
        refine sx_seq ?_
        refine sx_region ?_
        iterate 2 refine sxl_y (wn_none rfl) rfl rfl (yp rfl) ?_
        refine sxl_y (wn_none rfl) rfl rfl (y_indexN rfl rfl rfl (sl rfl) (by omega)) ?_
        refine sxl_y (wn_none rfl) rfl rfl (y_load rfl rfl (sc rfl) (by assumption)) ?_
        refine sxl_nil ?_
        refine qx_seq ?_
        refine sx_false rfl ?_
        refine sx_skip ?_
        refine qx_block_normal ?_
        refine qx_seq ?_
        refine sx_region ?_
        refine sxl_y (wn_none rfl) rfl rfl (yp rfl) ?_
        refine sxl_y (wn_none rfl) rfl rfl (y_add rfl rfl rfl (by omega)) ?_
        refine sxl_y (wn_none rfl) rfl rfl (yp rfl) ?_
        refine sxl_nil ?_
        exact qx_again [(9, Value.int .i64 ((i + 1 : Nat) : Int)), (6, .slice (some ⟨g6, 0, none⟩) x.st.length x.st.length), (0, .pointer (some ⟨R.gp, 0, none⟩))] (x.st.length - (i + 1)) (fin (st'.set i 0) 0 w5 rfl (by unfold usedOf; rw [if_neg hm]) hto5) (by omega) ⟨rfl, rfl, rfl, trivial⟩
    · obtain rfl : i = x.st.length := by omega
      refine sx_seq ?_
      refine sx_seq ?_
      refine sx_region ?_
      iterate 4 refine sxl_y (wn_none rfl) rfl rfl (yp rfl) ?_
      refine sxl_y (wn_none rfl) rfl rfl (y_load rfl rfl (sc rfl) (by assumption)) ?_
      refine sxl_y (wn_none rfl) rfl rfl (y_len rfl rfl (sl rfl)) ?_
      refine sxl_y (wn_none rfl) rfl rfl (y_lss_f rfl rfl rfl (by omega)) ?_
      refine sxl_nil ?_
      refine qx_seq ?_
      refine sx_false rfl ?_
      refine sx_exit ?_
      refine qx_then_exit ?_
      refine qx_then_exit ?_
      refine qx_block_hit ?_
      refine qx_seq ?_
      refine sx_seq ?_
      refine sx_region ?_
      refine sxl_y (wn_none rfl) rfl rfl (yp rfl) ?_
      refine sxl_nil ?_
      refine qx_seq ?_
      refine sx_ret ?_
      refine qx_ret1 rfl rfl ?_
      exact ⟨0, st', rfl, .inr ⟨hle1, .inr ⟨hin', .inr ⟨hnd, rfl, hln, hus⟩⟩⟩, hto.at_, (Fr.of0 hf0r : Fr R.blocks w wr).trans hto.fr⟩
end
end Go.Proofs.YthdlljlcffokbaaDoor
