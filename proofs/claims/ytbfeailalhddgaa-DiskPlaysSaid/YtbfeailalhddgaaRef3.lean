/- The document's disk: Read. -/
import Derived.Test.YtbfeailalhddgaaRef2
namespace Go.Proofs.Ytbfeailalhddgaa
open Go.RowKit

/-- b is what sector i shows: the last that waits for it, or what lasts. -/
def Shown (s : DS) (i : Nat) (b : List UInt8) : Prop :=
  (∃ k, s.waits[k]? = some (i, b) ∧ ∀ (j : Nat) (x : Nat × List UInt8), k < j → s.waits[j]? = some x → x.1 ≠ i) ∨ ((∀ (j : Nat) (x : Nat × List UInt8), s.waits[j]? = some x → x.1 ≠ i) ∧ s.lasts[i]? = some b)
theorem rread_dead (i : Int) (w : World) (R : RL) (s : DS) (h : RkAt w R s) (hd : s.dead = true) : Calls Try.prog 32 #[.pointer (some ⟨R.gd, 0, none⟩), .int .i64 i] w fun e w' => e = .returned (.tuple #[.slice none 0 0, .int .i64 20]) ∧ w = w' := by
  have c3 := h.c3
  rw [hd] at c3
  refine sx_enter (vs := [_, _]) Try.func32 rfl Try.ntmps32 rfl ?_
  refine sx_seq ?_
  refine sx_region ?_
  refine sxl_y (wn_none rfl) rfl rfl (yp rfl) ?_
  refine sxl_y (wn_none rfl) rfl rfl (yp rfl) ?_
  refine sxl_nil ?_
  refine qx_seq ?_
  refine sx_seq ?_
  refine sx_seq ?_
  refine sx_region ?_
  refine sxl_y (wn_none rfl) rfl rfl (yp rfl) ?_
  refine sxl_y (wn_none rfl) rfl rfl (yp rfl) ?_
  refine sxl_y (wn_none rfl) rfl rfl (yp rfl) ?_
  refine sxl_y (wn_none rfl) rfl rfl (y_load rfl rfl (sc rfl) (by assumption)) ?_
  refine sxl_nil ?_
  refine qx_seq ?_
  refine sx_true rfl ?_
  refine sx_seq ?_
  refine sx_region ?_
  refine sxl_y (wn_none rfl) rfl rfl (yp rfl) ?_
  refine sxl_y (wn_none rfl) rfl rfl (yp rfl) ?_
  refine sxl_nil ?_
  refine qx_seq ?_
  refine sx_ret ?_
  refine qx_then_ret ?_
  refine qx_ret2 rfl rfl rfl ?_
  exact ⟨rfl, rfl⟩
theorem rread_arg (i : Int) (w : World) (R : RL) (s : DS) (h : RkAt w R s) (hd : s.dead = false) (hi : i < 0 ∨ (s.lasts.length : Int) ≤ i) : Calls Try.prog 32 #[.pointer (some ⟨R.gd, 0, none⟩), .int .i64 i] w fun e w' => e = .returned (.tuple #[.slice none 0 0, .int .i64 1]) ∧ w = w' := by
  have c3 := h.c3
  rw [hd] at c3
  obtain ⟨A, c, e, _⟩ := h.vl
  have c0 := h.c0
  rw [e] at c0
  refine sx_enter (vs := [_, _]) Try.func32 rfl Try.ntmps32 rfl ?_
  by_cases h0 : i < 0
  · refine sx_seq ?_
    refine sx_region ?_
    refine sxl_y (wn_none rfl) rfl rfl (yp rfl) ?_
    refine sxl_y (wn_none rfl) rfl rfl (yp rfl) ?_
    refine sxl_nil ?_
    refine qx_seq ?_
    refine sx_seq ?_
    refine sx_seq ?_
    refine sx_region ?_
    refine sxl_y (wn_none rfl) rfl rfl (yp rfl) ?_
    refine sxl_y (wn_none rfl) rfl rfl (yp rfl) ?_
    refine sxl_y (wn_none rfl) rfl rfl (yp rfl) ?_
    refine sxl_y (wn_none rfl) rfl rfl (y_load rfl rfl (sc rfl) (by assumption)) ?_
    refine sxl_nil ?_
    refine qx_seq ?_
    refine sx_false rfl ?_
    refine sx_skip ?_
    refine qx_seq ?_
    refine sx_seq ?_
    refine sx_seq ?_
    refine sx_region ?_
    refine sxl_y (wn_none rfl) rfl rfl (yp rfl) ?_
    refine sxl_y (wn_none rfl) rfl rfl (y_lss_t rfl rfl rfl (by omega)) ?_
    refine sxl_y (wn_none rfl) rfl rfl (yp rfl) ?_
    refine sxl_off rfl rfl rfl rfl rfl rfl ?_
    refine sxl_off rfl rfl rfl rfl rfl rfl ?_
    refine sxl_off rfl rfl rfl rfl rfl rfl ?_
    refine sxl_off rfl rfl rfl rfl rfl rfl ?_
    refine sxl_off rfl rfl rfl rfl rfl rfl ?_
    refine sxl_off rfl rfl rfl rfl rfl rfl ?_
    refine sxl_off rfl rfl rfl rfl rfl rfl ?_
    refine sxl_y (wn_none rfl) rfl rfl (yp rfl) ?_
    refine sxl_nil ?_
    refine qx_seq ?_
    refine sx_true rfl ?_
    refine sx_seq ?_
    refine sx_region ?_
    refine sxl_y (wn_none rfl) rfl rfl (yp rfl) ?_
    refine sxl_y (wn_none rfl) rfl rfl (yp rfl) ?_
    refine sxl_nil ?_
    refine qx_seq ?_
    refine sx_ret ?_
    refine qx_then_ret ?_
    refine qx_ret2 rfl rfl rfl ?_
    exact ⟨rfl, rfl⟩
  · refine sx_seq ?_
    refine sx_region ?_
    refine sxl_y (wn_none rfl) rfl rfl (yp rfl) ?_
    refine sxl_y (wn_none rfl) rfl rfl (yp rfl) ?_
    refine sxl_nil ?_
    refine qx_seq ?_
    refine sx_seq ?_
    refine sx_seq ?_
    refine sx_region ?_
    refine sxl_y (wn_none rfl) rfl rfl (yp rfl) ?_
    refine sxl_y (wn_none rfl) rfl rfl (yp rfl) ?_
    refine sxl_y (wn_none rfl) rfl rfl (yp rfl) ?_
    refine sxl_y (wn_none rfl) rfl rfl (y_load rfl rfl (sc rfl) (by assumption)) ?_
    refine sxl_nil ?_
    refine qx_seq ?_
    refine sx_false rfl ?_
    refine sx_skip ?_
    refine qx_seq ?_
    refine sx_seq ?_
    refine sx_seq ?_
    refine sx_region ?_
    refine sxl_y (wn_none rfl) rfl rfl (yp rfl) ?_
    refine sxl_y (wn_none rfl) rfl rfl (y_lss_f rfl rfl rfl (by omega)) ?_
    refine sxl_y (wn_none rfl) rfl rfl (yp rfl) ?_
    refine sxl_y (wn_on rfl rfl rfl) rfl rfl (yp rfl) ?_
    refine sxl_y (wn_on rfl rfl rfl) rfl rfl (yp rfl) ?_
    refine sxl_y (wn_on rfl rfl rfl) rfl rfl (yp rfl) ?_
    refine sxl_y (wn_on rfl rfl rfl) rfl rfl (yp rfl) ?_
    refine sxl_y (wn_on rfl rfl rfl) rfl rfl (y_load rfl rfl (sc rfl) (by assumption)) ?_
    refine sxl_y (wn_on rfl rfl rfl) rfl rfl (y_len rfl rfl (sl rfl)) ?_
    refine sxl_y (wn_on rfl rfl rfl) rfl rfl (y_geq_t rfl rfl rfl (by omega)) ?_
    refine sxl_y (wn_none rfl) rfl rfl (yp rfl) ?_
    refine sxl_nil ?_
    refine qx_seq ?_
    refine sx_true rfl ?_
    refine sx_seq ?_
    refine sx_region ?_
    refine sxl_y (wn_none rfl) rfl rfl (yp rfl) ?_
    refine sxl_y (wn_none rfl) rfl rfl (yp rfl) ?_
    refine sxl_nil ?_
    refine qx_seq ?_
    refine sx_ret ?_
    refine qx_then_ret ?_
    refine qx_ret2 rfl rfl rfl ?_
    exact ⟨rfl, rfl⟩
/-- What waits, in memory. -/
theorem RkAt.wcell {w : World} {R : RL} {s : DS} (h : RkAt w R s) {k : Nat} (hk : k < s.waits.length) : ∃ (b off c at_ : Nat) (v : Value) (bs : List UInt8), R.vw = .slice (some ⟨b, off, none⟩) s.waits.length c ∧ Cell w.heap b (off + k * 2 + 0) (.int .i64 (at_ : Int)) ∧ Cell w.heap b (off + k * 2 + 1) v ∧ s.waits[k]? = some (at_, bs) ∧ R.wv[k]? = some (at_, v) ∧ w.ownsRow 0 5 1 v 128 (bvs bs) := by
  obtain ⟨A, c, e, _, hr, _, _⟩ := ownN_form h.hw
  have hlen : R.wv.length = s.waits.length := by have := congrArg List.length h.ha; simpa using this
  obtain ⟨⟨a, bs⟩, hx⟩ : ∃ x, s.waits[k]? = some x := ⟨_, List.getElem?_eq_getElem hk⟩
  obtain ⟨⟨a', v⟩, hy⟩ : ∃ y, R.wv[k]? = some y := ⟨_, List.getElem?_eq_getElem (by omega)⟩
  have ea : a' = a := by
    have := congrArg (·[k]?) h.ha
    simp only [List.getElem?_map, hx, hy] at this
    simpa using this
  subst ea
  have hn : 0 < s.waits.length * 2 := by omega
  obtain ⟨b, off, rfl, _⟩ := hr.2 hn
  have hk' : (R.wv.map rrow)[k]? = some (rrow (a', v)) := by rw [List.getElem?_map, hy]; rfl
  exact ⟨b, off, c, a', v, bs, e, rd_at hr (all_rrow _) hk' rfl, rd_at hr (all_rrow _) hk' rfl, hx, hy, h.hv.at_ k v bs (by rw [List.getElem?_map, hy]; rfl) (by rw [List.getElem?_map, hx]; rfl)⟩
/-- What lasts, in memory. -/
theorem RkAt.lcell {w : World} {R : RL} {s : DS} (h : RkAt w R s) {i : Nat} (hi : i < s.lasts.length) : ∃ g c v bs, R.vl = .slice (some ⟨g, 0, none⟩) s.lasts.length c ∧ Cell w.heap g (0 + i * 1) v ∧ s.lasts[i]? = some bs ∧ R.sv[i]? = some v ∧ w.ownsRow 0 5 1 v 128 (bvs bs) := by
  obtain ⟨A, c, e, hA⟩ := h.vl
  obtain ⟨g, rfl⟩ := hA (by omega)
  have hr := Rd.of_own (e ▸ h.hl)
  have hlen := h.hs.len
  obtain ⟨v, hv⟩ : ∃ v, R.sv[i]? = some v := ⟨_, List.getElem?_eq_getElem (by omega)⟩
  obtain ⟨b, hb⟩ : ∃ b, s.lasts[i]? = some b := ⟨_, List.getElem?_eq_getElem hi⟩
  refine ⟨g, c, v, b, e, ?_, hb, hv, h.hs.at_ i v b hv hb⟩
  obtain ⟨b', off, e', hc⟩ := hr.2 (by omega)
  injection e' with e'; injection e' with e1 e2 _
  subst e1; subst e2
  rw [Nat.mul_one]
  exact Cell.of (hc i v hv)
set_option maxHeartbeats 4000000 in
theorem rread_ok (i : Nat) (w : World) (R : RL) (s : DS) (b : List UInt8) (h : RkAt w R s) (hd : s.dead = false) (hi : i < s.lasts.length) (hb : Shown s i b) (hwm : s.waits.length ≤ 1073741824) :
    Calls Try.prog 32 #[.pointer (some ⟨R.gd, 0, none⟩), .int .i64 (i : Int)] w fun e w' => (∃ v, e = .returned (.tuple #[v, .int .i64 0]) ∧ w'.ownsRow w.heap.size 5 1 v 128 (bvs b)) ∧ Fr0 w w' := by
  have c3 := h.c3
  rw [hd] at c3
  obtain ⟨gl, cl, lv, lb, el, hlc, hlb, hlv, hlo⟩ := h.lcell hi
  have c0 := h.c0
  rw [el] at c0
  obtain ⟨wA, wc, ew⟩ := h.vw
  have c1 := h.c1
  rw [ew] at c1
  refine sx_enter (vs := [_, _]) Try.func32 rfl Try.ntmps32 rfl ?_
  refine sx_seq ?_
  refine sx_region ?_
  refine sxl_y (wn_none rfl) rfl rfl (yp rfl) ?_
  refine sxl_y (wn_none rfl) rfl rfl (yp rfl) ?_
  refine sxl_nil ?_
  refine qx_seq ?_
  refine sx_seq ?_
  refine sx_seq ?_
  refine sx_region ?_
  refine sxl_y (wn_none rfl) rfl rfl (yp rfl) ?_
  refine sxl_y (wn_none rfl) rfl rfl (yp rfl) ?_
  refine sxl_y (wn_none rfl) rfl rfl (yp rfl) ?_
  refine sxl_y (wn_none rfl) rfl rfl (y_load rfl rfl (sc rfl) (by assumption)) ?_
  refine sxl_nil ?_
  refine qx_seq ?_
  refine sx_false rfl ?_
  refine sx_skip ?_
  refine qx_seq ?_
  refine sx_seq ?_
  refine sx_seq ?_
  refine sx_region ?_
  refine sxl_y (wn_none rfl) rfl rfl (yp rfl) ?_
  refine sxl_y (wn_none rfl) rfl rfl (y_lss_f rfl rfl rfl (by omega)) ?_
  refine sxl_y (wn_none rfl) rfl rfl (yp rfl) ?_
  refine sxl_y (wn_on rfl rfl rfl) rfl rfl (yp rfl) ?_
  refine sxl_y (wn_on rfl rfl rfl) rfl rfl (yp rfl) ?_
  refine sxl_y (wn_on rfl rfl rfl) rfl rfl (yp rfl) ?_
  refine sxl_y (wn_on rfl rfl rfl) rfl rfl (yp rfl) ?_
  refine sxl_y (wn_on rfl rfl rfl) rfl rfl (y_load rfl rfl (sc rfl) (by assumption)) ?_
  refine sxl_y (wn_on rfl rfl rfl) rfl rfl (y_len rfl rfl (sl rfl)) ?_
  refine sxl_y (wn_on rfl rfl rfl) rfl rfl (y_geq_f rfl rfl rfl (by omega)) ?_
  refine sxl_y (wn_none rfl) rfl rfl (yp rfl) ?_
  refine sxl_nil ?_
  refine qx_seq ?_
  refine sx_false rfl ?_
  refine sx_skip ?_
  refine qx_seq ?_
  refine sx_seq ?_
  refine sx_seq ?_
  refine sx_region ?_
  refine sxl_y (wn_none rfl) rfl rfl (yp rfl) ?_
  refine sxl_y (wn_none rfl) rfl rfl (yp rfl) ?_
  refine sxl_y (wn_none rfl) rfl rfl (yp rfl) ?_
  refine sxl_y (wn_none rfl) rfl rfl (y_load rfl rfl (sc rfl) (by assumption)) ?_
  refine sxl_y (wn_none rfl) rfl rfl (y_len rfl rfl (sl rfl)) ?_
  refine sxl_y (wn_none rfl) rfl rfl (y_sub rfl rfl rfl (by omega)) ?_
  refine sxl_y (wn_none rfl) rfl rfl (yp rfl) ?_
  refine sxl_nil ?_
  refine qx_seq ?_
  refine sx_block ?_
  refine sx_loop (fun e wr m => ∃ (k : Nat), e = [(6, .int .i64 ((k : Int) - 1)), (1, .int .i64 (i : Int)), (0, .pointer (some ⟨R.gd, 0, none⟩))] ∧ w = wr ∧ k ≤ s.waits.length ∧ (∀ (j : Nat) (x : Nat × List UInt8), k ≤ j → s.waits[j]? = some x → x.1 ≠ i) ∧ m = k + 0) ⟨s.waits.length, rfl, rfl, Nat.le_refl _, fun j x hj hx => by have := (List.getElem?_eq_some_iff.1 hx).1; omega, rfl⟩ ⟨rfl, rfl, rfl, trivial⟩ ?_
  rintro _ _ m ⟨k, rfl, rfl, hk, hno, hm⟩
  cases k with
  | succ k =>
    obtain ⟨bw, ow, cw, at_, v, bs, e1, k0, k1, hx, hy, ho⟩ := h.wcell (k := k) (by omega)
    rw [ew] at e1
    injection e1 with e1 _ e2
    subst e1; subst e2
    have ek : (((k + 1 : Nat) : Int) - 1) = (k : Int) := by omega
    rw [ek]
    by_cases he : (at_ : Int) = (i : Int)
    · obtain rfl : at_ = i := by omega
      have hbe : bs = b := by
        rcases hb with ⟨k', h1, h2⟩ | ⟨h1, _⟩
        · have hkk : k' = k := by
            rcases Nat.lt_trichotomy k' k with hlt | rfl | hgt
            · exact absurd rfl (h2 k (at_, bs) hlt hx)
            · rfl
            · exact absurd rfl (hno k' (at_, b) hgt h1)
          subst hkk
          rw [hx] at h1
          simpa using h1
        · exact absurd rfl (h1 k (at_, bs) hx)
      subst hbe
      refine sx_seq ?_
      refine sx_seq ?_
      refine sx_region ?_
      refine sxl_y (wn_none rfl) rfl rfl (yp rfl) ?_
      refine sxl_y (wn_none rfl) rfl rfl (y_geq_t rfl rfl rfl (by omega)) ?_
      refine sxl_nil ?_
      refine qx_seq ?_
      refine sx_true rfl ?_
      refine sx_skip ?_
      refine qx_seq ?_
      refine sx_seq ?_
      refine sx_block ?_
      refine sx_seq ?_
      refine sx_region ?_
      refine sxl_y (wn_none rfl) rfl rfl (yp rfl) ?_
      refine sxl_y (wn_none rfl) rfl rfl (yp rfl) ?_
      refine sxl_y (wn_none rfl) rfl rfl (yp rfl) ?_
      refine sxl_y (wn_none rfl) rfl rfl (y_load rfl rfl (sc rfl) (by assumption)) ?_
      refine sxl_y (wn_none rfl) rfl rfl (yp rfl) ?_
      refine sxl_y (wn_none rfl) rfl rfl (y_indexN rfl rfl rfl (sl rfl) (by omega)) ?_
      refine sxl_y (wn_none rfl) rfl rfl (yp rfl) ?_
      refine sxl_y (wn_none rfl) rfl rfl (y_load rfl rfl (sc rfl) (by assumption)) ?_
      refine sxl_y (wn_none rfl) rfl rfl (yp rfl) ?_
      refine sxl_y (wn_none rfl) rfl rfl (y_eql_t rfl rfl rfl (by omega)) ?_
      refine sxl_nil ?_
      refine qx_seq ?_
      refine sx_true rfl ?_
      refine sx_seq ?_
      refine sx_region ?_
      refine sxl_does (some 42) (wn_none rfl) rfl rfl (fun ρ hρ => does_slice0 32 5 1 rfl Try.underlying32 (by kernel_rfl)) ?_
      rintro _ w2 ⟨g2, rfl, hg2, hg2', -, hf2, ho2⟩
      have ho2 := ho2 _ (Nat.le_refl _)
      have c1' := c1.fr hf2 (fun hh => hh)
      have k1' := k1.fr hf2 (fun hh => hh)
      obtain ⟨vA, vc, rfl, _⟩ := own_form0 ho
      refine sxl_y (wn_none rfl) rfl rfl (yp rfl) ?_
      refine sxl_y (wn_none rfl) rfl rfl (yp rfl) ?_
      refine sxl_y (wn_none rfl) rfl rfl (yp rfl) ?_
      refine sxl_y (wn_none rfl) rfl rfl (y_load rfl rfl (sc rfl) (by assumption)) ?_
      refine sxl_y (wn_none rfl) rfl rfl (yp rfl) ?_
      refine sxl_y (wn_none rfl) rfl rfl (y_indexN rfl rfl rfl (sl rfl) (by omega)) ?_
      refine sxl_y (wn_none rfl) rfl rfl (yp rfl) ?_
      refine sxl_y (wn_none rfl) rfl rfl (y_load rfl rfl (sc rfl) (by assumption)) ?_
      refine sxl_does (some 51) (wn_none rfl) rfl rfl (fun ρ hρ => does_append (.tmp 42) (.tmp 50) 32 rfl _ 5 (.int .u8 0) 1 Try.underlying32 info_u8 rfl _ 0 [] (hρ _ _ rfl) ho2 vA 128 vc (bvs bs) (hρ _ _ rfl) ((Rd.of_own ho).fr0 hf2) (bvs_one _) (by unfold maxLen; omega) (by omega) hf2.size) ?_
      rintro v3 w3 ⟨ho3, hg3, hv3⟩
      refine sxl_y (wn_none rfl) rfl rfl (yp rfl) ?_
      refine sxl_y (wn_none rfl) rfl rfl (yp rfl) ?_
      refine sxl_nil ?_
      refine qx_seq ?_
      refine sx_ret ?_
      refine qx_block_ret ?_
      refine qx_then_ret ?_
      refine qx_then_ret ?_
      refine qx_block_ret ?_
      refine qx_then_ret ?_
      refine qx_ret2 rfl rfl rfl ?_
      exact ⟨⟨_, rfl, ho3⟩, hf2.app ho2 (Nat.le_refl _) hg3⟩
    · refine sx_seq ?_
      refine sx_seq ?_
      refine sx_region ?_
      refine sxl_y (wn_none rfl) rfl rfl (yp rfl) ?_
      refine sxl_y (wn_none rfl) rfl rfl (y_geq_t rfl rfl rfl (by omega)) ?_
      refine sxl_nil ?_
      refine qx_seq ?_
      refine sx_true rfl ?_
      refine sx_skip ?_
      refine qx_seq ?_
      refine sx_seq ?_
      refine sx_block ?_
      refine sx_seq ?_
      refine sx_region ?_
      refine sxl_y (wn_none rfl) rfl rfl (yp rfl) ?_
      refine sxl_y (wn_none rfl) rfl rfl (yp rfl) ?_
      refine sxl_y (wn_none rfl) rfl rfl (yp rfl) ?_
      refine sxl_y (wn_none rfl) rfl rfl (y_load rfl rfl (sc rfl) (by assumption)) ?_
      refine sxl_y (wn_none rfl) rfl rfl (yp rfl) ?_
      refine sxl_y (wn_none rfl) rfl rfl (y_indexN rfl rfl rfl (sl rfl) (by omega)) ?_
      refine sxl_y (wn_none rfl) rfl rfl (yp rfl) ?_
      refine sxl_y (wn_none rfl) rfl rfl (y_load rfl rfl (sc rfl) (by assumption)) ?_
      refine sxl_y (wn_none rfl) rfl rfl (yp rfl) ?_
      refine sxl_y (wn_none rfl) rfl rfl (y_eql_f rfl rfl rfl (by omega)) ?_
      refine sxl_nil ?_
      refine qx_seq ?_
      refine sx_false rfl ?_
      refine sx_skip ?_
      refine qx_block_normal ?_
      refine qx_seq ?_
      refine sx_region ?_
      refine sxl_y (wn_none rfl) rfl rfl (yp rfl) ?_
      refine sxl_y (wn_none rfl) rfl rfl (y_sub rfl rfl rfl (by omega)) ?_
      refine sxl_y (wn_none rfl) rfl rfl (yp rfl) ?_
      refine sxl_nil ?_
      refine qx_again [(6, .int .i64 ((k : Int) - 1)), (1, .int .i64 (i : Int)), (0, .pointer (some ⟨R.gd, 0, none⟩))] (k + 0) ⟨k, rfl, rfl, by omega, ?_, rfl⟩ (by omega) ⟨rfl, rfl, rfl, trivial⟩
      intro j x hj hx'
      by_cases hjk : j = k
      · subst hjk
        rw [hx] at hx'
        simp only [Option.some.injEq] at hx'
        subst hx'
        exact fun e => he (by show (at_ : Int) = _; rw [show at_ = i from e])
      · exact hno j x (by omega) hx'
  | zero =>
    have hbe : lb = b := by
      rcases hb with ⟨k', h1, h2⟩ | ⟨_, h1⟩
      · exact absurd rfl (hno k' _ (Nat.zero_le _) h1)
      · rw [hlb] at h1; simpa using h1
    subst hbe
    refine sx_seq ?_
    refine sx_seq ?_
    refine sx_region ?_
    refine sxl_y (wn_none rfl) rfl rfl (yp rfl) ?_
    refine sxl_y (wn_none rfl) rfl rfl (y_geq_f rfl rfl rfl (by omega)) ?_
    refine sxl_nil ?_
    refine qx_seq ?_
    refine sx_false rfl ?_
    refine sx_exit ?_
    refine qx_then_exit ?_
    refine qx_then_exit ?_
    refine qx_block_hit ?_
    refine qx_seq ?_
    refine sx_seq ?_
    refine sx_region ?_
    refine sxl_does (some 52) (wn_none rfl) rfl rfl (fun ρ hρ => does_slice0 32 5 1 rfl Try.underlying32 (by kernel_rfl)) ?_
    rintro _ w2 ⟨g2, rfl, hg2, hg2', -, hf2, ho2⟩
    have ho2 := ho2 _ (Nat.le_refl _)
    have c0' := c0.fr hf2 (fun hh => hh)
    have k1' := hlc.fr hf2 (fun hh => hh)
    obtain ⟨vA, vc, rfl, _⟩ := own_form0 hlo
    refine sxl_y (wn_none rfl) rfl rfl (yp rfl) ?_
    refine sxl_y (wn_none rfl) rfl rfl (yp rfl) ?_
    refine sxl_y (wn_none rfl) rfl rfl (yp rfl) ?_
    refine sxl_y (wn_none rfl) rfl rfl (y_load rfl rfl (sc rfl) (by assumption)) ?_
    refine sxl_y (wn_none rfl) rfl rfl (yp rfl) ?_
    refine sxl_y (wn_none rfl) rfl rfl (y_indexN rfl rfl rfl (sl rfl) (by omega)) ?_
    refine sxl_y (wn_none rfl) rfl rfl (y_load rfl rfl (sc rfl) (by assumption)) ?_
    refine sxl_does (some 60) (wn_none rfl) rfl rfl (fun ρ hρ => does_append (.tmp 52) (.tmp 59) 32 rfl _ 5 (.int .u8 0) 1 Try.underlying32 info_u8 rfl _ 0 [] (hρ _ _ rfl) ho2 vA 128 vc (bvs lb) (hρ _ _ rfl) ((Rd.of_own hlo).fr0 hf2) (bvs_one _) (by unfold maxLen; omega) (by omega) hf2.size) ?_
    rintro v3 w3 ⟨ho3, hg3, hv3⟩
    refine sxl_y (wn_none rfl) rfl rfl (yp rfl) ?_
    refine sxl_y (wn_none rfl) rfl rfl (yp rfl) ?_
    refine sxl_nil ?_
    refine qx_seq ?_
    refine sx_ret ?_
    refine qx_ret2 rfl rfl rfl ?_
    exact ⟨⟨_, rfl, ho3⟩, hf2.app ho2 (Nat.le_refl _) hg3⟩
end Go.Proofs.Ytbfeailalhddgaa
