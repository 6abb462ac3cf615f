/- The law DiskLasts, walked. -/
import Derived.Test.YtbfeailalhddgaaDiskLaw5
import Derived.Test.YtbfeailalhddgaaSx3
namespace Go.Proofs.Ytbfeailalhddgaa
open Go.RowKit

set_option maxHeartbeats 4000000 in
theorem diskLasts_walk (n : Int) (A : Option Addr) (c : Nat) (l : List Put) (kA : Option Addr) (kc : Nat) (keep : List Bool) (torn cut : Int) (w : World) (hl : Rd w A (l.length * 3) (flatP l)) (hk : Rd w kA keep.length (boolsV keep)) :
    Calls Try.prog 3 #[.int .i64 n, .slice A l.length c, .agg #[.slice kA keep.length kc, .int .i64 torn, .int .i64 cut]] w fun e w' => e = .returned (.bool true) ∧ Fr0 w w' := by
  refine sx_enter (vs := [_, _, _]) Try.func3 rfl Try.ntmps3 rfl ?_
  refine sx_seq ?_
  refine sx_region ?_
  refine sxl_does (some 5) (wn_none rfl) rfl rfl (fun ρ hρ => does_box 25 (.tmp 2) rfl [.slice kA keep.length kc, .int .i64 torn, .int .i64 cut] (by rw [hρ _ _ rfl]; rfl)) ?_
  rintro _ w1 ⟨g5, rfl, hg5, hg5', hb5, hf1⟩
  obtain ⟨m, hm⟩ := wrap_u64_nat n
  refine sxl_y (wn_none rfl) rfl rfl (yp rfl) ?_
  refine sxl_nil ?_
  refine qx_seq ?_
  refine sx_seq ?_
  refine sx_region ?_
  refine sxl_y (wn_none rfl) rfl rfl (yp rfl) ?_
  refine sxl_y (wn_none rfl) rfl rfl (y_convInt rfl rfl Try.underlying3 Try.underlying26 hm) ?_
  refine sxl_y (wn_none rfl) rfl rfl (y_rem rfl rfl rfl (by omega) (by omega)) ?_
  refine sxl_y (wn_none rfl) rfl rfl (y_convInt rfl rfl Try.underlying26 Try.underlying3 (IntWalk.i64_in ((m : Int) % 20) ⟨by omega, by omega⟩)) ?_
  refine sxl_y (wn_none rfl) rfl rfl (y_add rfl rfl rfl (by omega)) ?_
  refine sxl_y (wn_none rfl) rfl rfl (yp rfl) ?_
  refine sxl_nil ?_
  refine qx_seq ?_
  refine sx_seq ?_
  refine sx_region ?_
  refine sxl_y (wn_none rfl) rfl rfl (yp rfl) ?_
  obtain ⟨N, hN⟩ : ∃ N : Nat, N = 1 + m % 20 := ⟨_, rfl⟩
  have eN : 1 + (m : Int) % 20 = (N : Int) := by omega
  have hN1 : 1 ≤ N ∧ N ≤ 20 := by omega
  rw [eN]
  clear hN eN hm
  refine sxl_call (some 31) (by first | exact wn_none rfl | exact wn_on rfl rfl rfl) rfl rfl (yc_call rfl rfl Try.call7) (new_ok N w1 (by omega) (by omega)) ?_
  rintro _ w2 ⟨L, rfl, h2, hL2, hf2⟩
  refine ⟨_, rfl, ?_⟩
  refine sxl_y (wn_none rfl) rfl rfl (yp rfl) ?_
  refine sxl_y (wn_none rfl) rfl rfl (yp rfl) ?_
  refine sxl_y (wn_none rfl) rfl rfl (yp rfl) ?_
  refine sxl_y (wn_none rfl) rfl rfl (yp rfl) ?_
  refine sxl_y (wn_none rfl) rfl rfl (yp rfl) ?_
  refine sxl_nil ?_
  refine qx_seq ?_
  refine sx_seq ?_
  refine sx_seq ?_
  refine sx_region ?_
  refine sxl_y (wn_none rfl) rfl rfl (yp rfl) ?_
  refine sxl_y (wn_none rfl) rfl rfl (y_neq_f rfl rfl rfl (by omega)) ?_
  refine sxl_y (wn_none rfl) rfl rfl (yp rfl) ?_
  refine sxl_call (some 37) (by first | exact wn_none rfl | exact wn_on rfl rfl rfl) rfl rfl (yc_call rfl rfl Try.call8) (awake_ok w2) ?_
  rintro _ w3 ⟨rfl, hf3⟩
  refine ⟨_, rfl, ?_⟩
  refine sxl_y (wn_on rfl rfl rfl) rfl rfl (yp rfl) ?_
  refine sxl_y (wn_none rfl) rfl rfl (yp rfl) ?_
  refine sxl_nil ?_
  refine qx_seq ?_
  refine sx_false rfl ?_
  refine sx_skip ?_
  refine qx_seq ?_
  refine sx_seq ?_
  refine sx_region ?_
  refine sxl_y (wn_none rfl) rfl rfl (yp rfl) ?_
  refine sxl_does (some 41) (wn_none rfl) rfl rfl (fun ρ hρ => does_make1 32 _ _ rfl 5 (.int .u8 0) 1 N Try.underlying32 (by kernel_rfl) rfl (hρ _ _ rfl) (hρ _ _ rfl) (by omega) (by omega)) ?_
  rintro _ w4 ⟨g9, rfl, hg9, hg9', hb9, hf4⟩
  refine sxl_does (some 42) (wn_none rfl) rfl rfl (fun ρ hρ => does_slice0 22 34 3 rfl Try.underlying22 (by kernel_rfl)) ?_
  rintro _ w5 ⟨g10, rfl, hg10, hg10', -, hf5, ho5⟩
  have hz1 := hf1.size
  have hz2 := hf2.size
  have hz3 := hf3.size
  have hz4 := hf4.size
  have hz5 := hf5.size
  have hF4 : Fr0 w1 w4 := (hf2.then0 hf3).then0 hf4
  have I5 : LI w w5 g5 g9 (.slice (some ⟨g10, 0, none⟩) 0 0) L (newDS N) [.slice kA keep.length kc, .int .i64 torn, .int .i64 cut] (List.replicate N 0) [] :=
    ⟨⟨(hf1.then0 hF4).then0 hf5, ((h2.fr0 hf3).fr0 hf4).fr0 hf5, fun b hb => by have := hL2 b hb; omega⟩, (hb5.fr0 hF4).fr0 hf5, by rw [bvs_rep]; exact hb9.fr0 hf5, ho5 _ (by omega), hg5, by omega, rfl⟩
  clear hb5 hb9 ho5 h2 hL2 hF4 hf1 hf2 hf3 hf4 hf5 hz1 hz2 hz3 hz4 hz5 hg10 hg10' hg9 hg9' hg5 hg5'
  refine sxl_y (wn_none rfl) rfl rfl (yp rfl) ?_
  refine sxl_y (wn_none rfl) rfl rfl (yp rfl) ?_
  refine sxl_nil ?_
  refine qx_seq ?_
  refine sx_seq ?_
  refine sx_seq ?_
  refine sx_region ?_
  refine sxl_y (wn_none rfl) rfl rfl (yp rfl) ?_
  refine sxl_nil ?_
  refine qx_seq ?_
  refine sx_block ?_
  refine sx_loop (fun e wr m => ∃ (i : Nat) (v10 : Value) (L : DL) (s : DS) (lb : List UInt8) (wt : List Wt), e = [(11, .int .i64 (i : Int)), (10, v10), (0, .int .i64 (N : Int)), (1, .slice A l.length c), (5, .pointer (some ⟨g5, 0, none⟩)), (7, .pointer (some ⟨L.gd, 0, none⟩)), (9, .slice (some ⟨g9, 0, none⟩) N N)] ∧ i ≤ 60 ∧ LI w wr g5 g9 v10 L s [.slice kA keep.length kc, .int .i64 torn, .int .i64 cut] lb wt ∧ Lasts N i lb wt s ∧ m = 60 - i) ⟨0, _, L, _, _, _, rfl, by omega, I5, Lasts.new N, rfl⟩ ⟨rfl, rfl, rfl, rfl, rfl, rfl, rfl, trivial⟩ ?_
  clear I5
  rintro _ wr _ ⟨i, v10, L, s, lb, wt, rfl, hi, hI, hS, rfl⟩
  obtain ⟨A10, c10, rfl, hc10, hr10, _, _⟩ := ownN_form hI.wt
  by_cases hlt : i < l.length ∧ i < 60
  · obtain ⟨⟨pa, pw, pf⟩, hp⟩ : ∃ p, l[i]? = some p := ⟨_, List.getElem?_eq_getElem hlt.1⟩
    obtain ⟨ab, aoff, rfl, ca0, cw0, cf0⟩ := put_cells hl hp
    have ca := ca0.fr hI.has.fr (fun hh => hh)
    have cw := cw0.fr hI.has.fr (fun hh => hh)
    have hpa := pa.toNat_lt
    have hmod : (pa.toNat : Int) % (N : Int) < N := Int.emod_lt_of_pos _ (by omega)
    have hmod0 : 0 ≤ (pa.toNat : Int) % (N : Int) := Int.emod_nonneg _ (by omega)
    have hsl : s.lasts.length = N := by rw [hS.ls, List.length_map, hS.len]
    obtain ⟨q, hq⟩ : ∃ q : UInt8, (q.toNat : Int) = (pa.toNat : Int) % (N : Int) := ⟨UInt8.ofNat (pa.toNat % N), by
      rw [UInt8.toNat_ofNat']
      have := Nat.mod_lt pa.toNat (show 0 < N by omega)
      rw [Nat.mod_eq_of_lt (by omega)]
      rfl⟩
    refine sx_seq ?_
    refine sx_seq ?_
    refine sx_region ?_
    refine sxl_y (wn_none rfl) rfl rfl (yp rfl) ?_
    refine sxl_y (wn_none rfl) rfl rfl (yp rfl) ?_
    refine sxl_y (wn_none rfl) rfl rfl (y_len rfl rfl (sl rfl)) ?_
    refine sxl_y (wn_none rfl) rfl rfl (y_lss_t rfl rfl rfl (by omega)) ?_
    refine sxl_y (wn_none rfl) rfl rfl (yp rfl) ?_
    refine sxl_y (wn_on rfl rfl rfl) rfl rfl (yp rfl) ?_
    refine sxl_y (wn_on rfl rfl rfl) rfl rfl (y_lss_t rfl rfl rfl (by omega)) ?_
    refine sxl_y (wn_none rfl) rfl rfl (yp rfl) ?_
    refine sxl_nil ?_
    refine qx_seq ?_
    refine sx_true rfl ?_
    refine sx_skip ?_
    refine qx_seq ?_
    refine sx_seq ?_
    refine sx_block ?_
    refine sx_seq ?_
    refine sx_region ?_
    refine sxl_y (wn_none rfl) rfl rfl (yp rfl) ?_
    refine sxl_y (wn_none rfl) rfl rfl (yp rfl) ?_
    refine sxl_y (wn_none rfl) rfl rfl (y_indexN rfl rfl rfl (sl rfl) (by omega)) ?_
    refine sxl_y (wn_none rfl) rfl rfl (yp rfl) ?_
    refine sxl_y (wn_none rfl) rfl rfl (y_load rfl rfl (sc rfl) (by assumption)) ?_
    refine sxl_y (wn_none rfl) rfl rfl (y_convInt rfl rfl Try.underlying5 Try.underlying3 (IntWalk.i64_in (pa.toNat : Int) ⟨by omega, by omega⟩)) ?_
    refine sxl_y (wn_none rfl) rfl rfl (yp rfl) ?_
    refine sxl_y (wn_none rfl) rfl rfl (y_rem rfl rfl rfl (by omega) (by omega)) ?_
    refine sxl_y (wn_none rfl) rfl rfl (yp rfl) ?_
    refine sxl_nil ?_
    refine qx_seq ?_
    refine sx_seq ?_
    refine sx_seq ?_
    refine sx_region ?_
    refine sxl_y (wn_none rfl) rfl rfl (yp rfl) ?_
    refine sxl_y (wn_none rfl) rfl rfl (yp rfl) ?_
    refine sxl_y (wn_none rfl) rfl rfl (yp rfl) ?_
    refine sxl_y (wn_none rfl) rfl rfl (yp rfl) ?_
    refine sxl_y (wn_none rfl) rfl rfl (y_indexN rfl rfl rfl (sl rfl) (by omega)) ?_
    refine sxl_y (wn_none rfl) rfl rfl (yp rfl) ?_
    refine sxl_y (wn_none rfl) rfl rfl (y_load rfl rfl (sc rfl) (by assumption)) ?_
    refine sxl_call (some 68) (by first | exact wn_none rfl | exact wn_on rfl rfl rfl) rfl rfl (yc_call rfl rfl Try.call10) (full_ok pw wr) ?_
    rintro _ w6 ⟨g6, rfl, hg6, hb6, hf6⟩
    refine ⟨_, rfl, ?_⟩
    rw [← hq]
    refine sxl_call (some 69) (by first | exact wn_none rfl | exact wn_on rfl rfl rfl) rfl rfl (yc_call rfl rfl Try.call9) (write_full hI.has hf6 q.toNat pw g6 hg6 hb6 hS.dead (by omega) (by rw [hS.ws, List.length_map]; have := hS.wl; omega) (by have := hS.done; omega)) ?_
    rintro _ w7 ⟨L7, rfl, h7, H7⟩
    refine ⟨_, rfl, ?_⟩
    rw [writes_plain _ hS.fset] at h7 H7 ⊢
    rw [← h7.gd]
    have I7 := (hI.fr0 hf6).disk h7 hI.kp
    have cw := cw0.fr I7.has.fr (fun hh => hh)
    have cf := cf0.fr I7.has.fr (fun hh => hh)
    refine sxl_y (wn_none rfl) rfl rfl (y_neq_f rfl rfl rfl (by omega)) ?_
    refine sxl_nil ?_
    refine qx_seq ?_
    refine sx_false rfl ?_
    refine sx_skip ?_
    refine qx_seq ?_
    refine sx_seq ?_
    refine sx_region ?_
    refine sxl_y (wn_none rfl) rfl rfl (yp rfl) ?_
    refine sxl_y (wn_none rfl) rfl rfl (yp rfl) ?_
    refine sxl_y (wn_none rfl) rfl rfl (y_convInt rfl rfl Try.underlying3 Try.underlying5 (u8_in (q.toNat : Int) ⟨by omega, by omega⟩)) ?_
    refine sxl_y (wn_none rfl) rfl rfl (yp rfl) ?_
    refine sxl_y (wn_none rfl) rfl rfl (yp rfl) ?_
    refine sxl_y (wn_none rfl) rfl rfl (y_indexN rfl rfl rfl (sl rfl) (by omega)) ?_
    refine sxl_y (wn_none rfl) rfl rfl (yp rfl) ?_
    refine sxl_y (wn_none rfl) rfl rfl (y_load rfl rfl (sc rfl) (by assumption)) ?_
    refine sxl_y (wn_none rfl) rfl rfl (y_build (cells := (prow (q, pw, false)).toArray) rfl rfl (by kernel_rfl)) ?_
    refine sxl_does (some 80) (wn_none rfl) rfl rfl (fun ρ hρ => does_slice (size := 3) [.agg (prow (q, pw, false)).toArray] (.agg (prow (0, 0, false)).toArray) hρ rfl rfl rfl rfl Try.underlying22 (by kernel_rfl) (by decide) (by decide) (by intro v hv; obtain rfl : v = _ := (by simpa using hv); rfl)) ?_
    rintro _ w8 ⟨g8, rfl, hg8, hg8', hb8, hf8⟩
    have hb8 : Blk w8 g8 34 (prow (q, pw, false)) := by simpa [Value.cells] using hb8
    have I8 := I7.fr0 hf8
    refine sxl_does (some 81) (wn_none rfl) rfl rfl (fun ρ hρ => does_appendN (.tmp 71) (.tmp 80) 22 rfl w.heap.size 34 _ 3 3 Try.underlying22 put_info (by kernel_rfl) (by omega) _ wt.length (flatP (wt.map wput)) (hρ _ _ rfl) I8.wt (some ⟨g8, 0, none⟩) 1 1 (prow (q, pw, false)) (hρ _ _ rfl)
      (rd_prow w8 g8 _ hb8) (by intro u hu; simp only [prow, List.mem_cons, List.not_mem_nil, or_false] at hu; rcases hu with rfl | rfl | rfl <;> rfl) (by unfold maxLen; have := hS.wl; omega) (by have := hS.wl; omega) I8.has.fr.size) ?_
    rintro v9 w9 ⟨ho9, hg9, hv9⟩
    have I9 := I8.app (p := (q, pw)) hg9 ho9
    have cf := cf0.fr I9.has.fr (fun hh => hh)
    have hw9 : ((s.put q.toNat (List.replicate 128 pw)).more).waits = (wt ++ [(q, pw)]).map wfull := by
      rw [List.map_append]; show s.waits ++ _ = _; rw [hS.ws]; rfl
    have hat : ∀ p ∈ wt ++ [(q, pw)], p.1.toNat < N := by
      intro p hp
      rcases List.mem_append.1 hp with h' | h'
      · exact hS.at_ p h'
      · obtain rfl : p = (q, pw) := by simpa using h'
        show q.toNat < N
        omega
    have hS9 : Lasts N (i + 1) lb (wt ++ [(q, pw)]) ((s.put q.toNat (List.replicate 128 pw)).more) :=
      ⟨hS.ls, hw9, hS.dead, hS.fset, hS.len, hat, by show s.done + 1 ≤ _; have := hS.done; omega, by rw [List.length_append]; have := hS.wl; simp; omega⟩
    cases pf
    · refine sxl_y (wn_none rfl) rfl rfl (yp rfl) ?_
      refine sxl_nil ?_
      refine qx_seq ?_
      refine sx_seq ?_
      refine sx_region ?_
      refine sxl_y (wn_none rfl) rfl rfl (yp rfl) ?_
      refine sxl_y (wn_none rfl) rfl rfl (yp rfl) ?_
      refine sxl_y (wn_none rfl) rfl rfl (y_indexN rfl rfl rfl (sl rfl) (by omega)) ?_
      refine sxl_y (wn_none rfl) rfl rfl (yp rfl) ?_
      refine sxl_y (wn_none rfl) rfl rfl (y_load rfl rfl (sc rfl) (by assumption)) ?_
      refine sxl_nil ?_
      refine qx_seq ?_
      refine sx_false rfl ?_
      refine sx_skip ?_
      refine qx_block_normal ?_
      refine qx_seq ?_
      refine sx_region ?_
      refine sxl_y (wn_none rfl) rfl rfl (yp rfl) ?_
      refine sxl_y (wn_none rfl) rfl rfl (y_add rfl rfl rfl (by omega)) ?_
      refine sxl_y (wn_none rfl) rfl rfl (yp rfl) ?_
      refine sxl_nil ?_
      exact qx_again [(11, .int .i64 ((i + 1 : Nat) : Int)), (10, v9), (0, .int .i64 (N : Int)), (1, .slice (some ⟨ab, aoff, none⟩) l.length c), (5, .pointer (some ⟨g5, 0, none⟩)), (7, .pointer (some ⟨L7.gd, 0, none⟩)), (9, .slice (some ⟨g9, 0, none⟩) N N)] (60 - (i + 1)) ⟨i + 1, v9, L7, _, _, _, rfl, by omega, I9, hS9, rfl⟩ (by omega) ⟨rfl, rfl, rfl, rfl, rfl, rfl, rfl, trivial⟩
    · obtain ⟨A9, c9, rfl, hc9, hr9, _, _⟩ := ownN_form I9.wt
      refine sxl_y (wn_none rfl) rfl rfl (yp rfl) ?_
      refine sxl_nil ?_
      refine qx_seq ?_
      refine sx_seq ?_
      refine sx_region ?_
      refine sxl_y (wn_none rfl) rfl rfl (yp rfl) ?_
      refine sxl_y (wn_none rfl) rfl rfl (yp rfl) ?_
      refine sxl_y (wn_none rfl) rfl rfl (y_indexN rfl rfl rfl (sl rfl) (by omega)) ?_
      refine sxl_y (wn_none rfl) rfl rfl (yp rfl) ?_
      refine sxl_y (wn_none rfl) rfl rfl (y_load rfl rfl (sc rfl) (by assumption)) ?_
      refine sxl_nil ?_
      refine qx_seq ?_
      refine sx_true rfl ?_
      refine sx_seq ?_
      refine sx_seq ?_
      refine sx_region ?_
      refine sxl_y (wn_none rfl) rfl rfl (yp rfl) ?_
      refine sxl_call (some 88) (by first | exact wn_none rfl | exact wn_on rfl rfl rfl) rfl rfl (yc_call rfl rfl Try.call11) (flush_ok w9 L7 _ I9.has.dk hS9.dead (Nat.le_trans hS9.done (by omega))) ?_
      rintro _ w10 ⟨L10, rfl, h10⟩
      refine ⟨_, rfl, ?_⟩
      rw [flushes_plain _ hS9.fset] at h10 ⊢
      rw [← h10.gd]
      have I10 := I9.disk h10 I9.kp
      refine sxl_y (wn_none rfl) rfl rfl (y_neq_f rfl rfl rfl (by omega)) ?_
      refine sxl_nil ?_
      refine qx_seq ?_
      refine sx_false rfl ?_
      refine sx_skip ?_
      refine qx_seq ?_
      refine sx_seq ?_
      refine sx_seq ?_
      refine sx_region ?_
      refine sxl_y (wn_none rfl) rfl rfl (yp rfl) ?_
      refine sxl_nil ?_
      refine qx_seq ?_
      refine sx_block ?_
      refine sx_loop (fun e wr m => ∃ (k : Nat), e = [(13, .int .i64 (k : Int)), (11, .int .i64 (i : Int)), (10, .slice A9 (wt ++ [(q, pw)]).length c9), (0, .int .i64 (N : Int)), (1, .slice (some ⟨ab, aoff, none⟩) l.length c), (5, .pointer (some ⟨g5, 0, none⟩)), (7, .pointer (some ⟨L10.gd, 0, none⟩)), (9, .slice (some ⟨g9, 0, none⟩) N N)] ∧ k ≤ (wt ++ [(q, pw)]).length ∧ LI w wr g5 g9 (.slice A9 (wt ++ [(q, pw)]).length c9) L10 ((s.put q.toNat (List.replicate 128 pw)).more).flush [.slice kA keep.length kc, .int .i64 torn, .int .i64 cut] (setAll ((wt ++ [(q, pw)]).take k) lb) (wt ++ [(q, pw)]) ∧ m = (wt ++ [(q, pw)]).length - k) ⟨0, rfl, Nat.zero_le _, I10, rfl⟩ ⟨rfl, rfl, rfl, rfl, rfl, rfl, rfl, rfl, trivial⟩ ?_
      clear I10 I9 I8 I7 hI hr9 hr10
      have hwl := hS9.wl
      rintro _ wr _ ⟨k, rfl, hk, I, rfl⟩
      by_cases hlt2 : k < (wt ++ [(q, pw)]).length
      · obtain ⟨⟨qa, qb⟩, hq'⟩ : ∃ p, (wt ++ [(q, pw)])[k]? = some p := ⟨_, List.getElem?_eq_getElem hlt2⟩
        have hqN : qa.toNat < N := hat _ (List.mem_of_getElem? hq')
        obtain ⟨_, _, e9, _, hrk, _, _⟩ := ownN_form I.wt
        injection e9 with e9; subst e9
        obtain ⟨b9, o9, rfl, k1, k2, -⟩ := put_cells hrk (show ((wt ++ [(q, pw)]).map wput)[k]? = some (wput (qa, qb)) by rw [List.getElem?_map, hq']; rfl)
        have k1 : Cell wr.heap b9 (o9 + k * 3 + 0) (.int .u8 (qa.toNat : Int)) := k1
        have k2 : Cell wr.heap b9 (o9 + k * 3 + 1) (.int .u8 (qb.toNat : Int)) := k2
        have hlbl : (setAll ((wt ++ [(q, pw)]).take k) lb).length = N := by rw [setAll_length, hS.len]
        have hbl := I.lb
        refine sx_seq ?_
        refine sx_seq ?_
        refine sx_region ?_
        refine sxl_y (wn_none rfl) rfl rfl (yp rfl) ?_
        refine sxl_y (wn_none rfl) rfl rfl (yp rfl) ?_
        refine sxl_y (wn_none rfl) rfl rfl (y_len rfl rfl (sl rfl)) ?_
        refine sxl_y (wn_none rfl) rfl rfl (y_lss_t rfl rfl rfl (by omega)) ?_
        refine sxl_nil ?_
        refine qx_seq ?_
        refine sx_true rfl ?_
        refine sx_skip ?_
        refine qx_seq ?_
        refine sx_seq ?_
        refine sx_block ?_
        refine sx_tail 12 hmix (by kernel_rfl) ?_
        refine sxs_y (wn_none rfl) rfl rfl (yp rfl) ?_
        refine sxs_y (wn_none rfl) rfl rfl (yp rfl) ?_
        refine sxs_y (wn_none rfl) rfl rfl (yp rfl) ?_
        refine sxs_y (wn_none rfl) rfl rfl (y_indexN rfl rfl rfl (sl rfl) (by omega)) ?_
        refine sxs_y (wn_none rfl) rfl rfl (yp rfl) ?_
        refine sxs_y (wn_none rfl) rfl rfl (y_load rfl rfl (sc rfl) (by assumption)) ?_
        refine sxs_y (wn_none rfl) rfl rfl (yp rfl) ?_
        refine sxs_y (wn_none rfl) rfl rfl (yp rfl) ?_
        refine sxs_y (wn_none rfl) rfl rfl (y_indexN rfl rfl rfl (sl rfl) (by omega)) ?_
        refine sxs_y (wn_none rfl) rfl rfl (yp rfl) ?_
        refine sxs_y (wn_none rfl) rfl rfl (y_load rfl rfl (sc rfl) (by assumption)) ?_
        refine sxs_y (wn_none rfl) rfl rfl (y_indexN rfl rfl rfl (sl rfl) (by omega)) ?_
        refine sxs_tail ?_
        refine sxl_does none (wn_none rfl) rfl rfl (fun ρ hρ => does_store1 5 (.tmp 107) (.tmp 106) rfl g9 qa.toNat 5 _ (bv qb) (by rw [hρ _ _ rfl]; simp) (hρ _ _ rfl) rfl hbl.drew (by kernel_rfl) (by rw [bvs_length, hlbl]; exact hqN) rfl) ?_
        rintro _ w12 ⟨rfl, hb12, hf12⟩
        have e12 : (bvs (setAll ((wt ++ [(q, pw)]).take k) lb)).set qa.toNat (bv qb) = bvs (setAll ((wt ++ [(q, pw)]).take (k + 1)) lb) := by
          rw [← setAll_take _ _ _ _ hq']; unfold bvs; rw [List.map_set]
        rw [e12] at hb12
        have I12 := I.set hb12 hf12.ofDrew
        refine sxl_nil ?_
        refine qx_block_normal ?_
        refine qx_seq ?_
        refine sx_region ?_
        refine sxl_y (wn_none rfl) rfl rfl (yp rfl) ?_
        refine sxl_y (wn_none rfl) rfl rfl (y_add rfl rfl rfl (by omega)) ?_
        refine sxl_y (wn_none rfl) rfl rfl (yp rfl) ?_
        refine sxl_nil ?_
        exact qx_again [(13, .int .i64 ((k + 1 : Nat) : Int)), (11, .int .i64 (i : Int)), (10, .slice (some ⟨b9, o9, none⟩) (wt ++ [(q, pw)]).length c9), (0, .int .i64 (N : Int)), (1, .slice (some ⟨ab, aoff, none⟩) l.length c), (5, .pointer (some ⟨g5, 0, none⟩)), (7, .pointer (some ⟨L10.gd, 0, none⟩)), (9, .slice (some ⟨g9, 0, none⟩) N N)] ((wt ++ [(q, pw)]).length - (k + 1)) ⟨k + 1, rfl, hlt2, I12, rfl⟩ (by omega) ⟨rfl, rfl, rfl, rfl, rfl, rfl, rfl, rfl, trivial⟩
      · refine sx_seq ?_
        refine sx_seq ?_
        refine sx_region ?_
        refine sxl_y (wn_none rfl) rfl rfl (yp rfl) ?_
        refine sxl_y (wn_none rfl) rfl rfl (yp rfl) ?_
        refine sxl_y (wn_none rfl) rfl rfl (y_len rfl rfl (sl rfl)) ?_
        refine sxl_y (wn_none rfl) rfl rfl (y_lss_f rfl rfl rfl (by omega)) ?_
        refine sxl_nil ?_
        refine qx_seq ?_
        refine sx_false rfl ?_
        refine sx_exit ?_
        refine qx_then_exit ?_
        refine qx_then_exit ?_
        refine qx_block_hit ?_
        refine qx_seq ?_
        refine sx_region ?_
        refine sxl_y (wn_none rfl) rfl rfl (yp rfl) ?_
        refine sxl_nil ?_
        refine qx_block_normal ?_
        refine qx_seq ?_
        refine sx_region ?_
        refine sxl_y (wn_none rfl) rfl rfl (yp rfl) ?_
        refine sxl_y (wn_none rfl) rfl rfl (y_add rfl rfl rfl (by omega)) ?_
        refine sxl_y (wn_none rfl) rfl rfl (yp rfl) ?_
        refine sxl_nil ?_
        obtain rfl : k = (wt ++ [(q, pw)]).length := by omega
        rw [List.take_length] at I
        have hS13 : Lasts N (i + 1) (setAll (wt ++ [(q, pw)]) lb) [] ((s.put q.toNat (List.replicate 128 pw)).more).flush :=
          ⟨by show flushAll _ _ = _; rw [hw9, hS9.ls, flush_full], rfl, hS.dead, hS.fset, by rw [setAll_length, hS.len], (fun _ h => by cases h), by show s.done + 1 + 1 ≤ _; have := hS.done; omega, Nat.zero_le _⟩
        exact qx_again [(11, .int .i64 ((i + 1 : Nat) : Int)), (10, .slice none 0 0), (0, .int .i64 (N : Int)), (1, .slice (some ⟨ab, aoff, none⟩) l.length c), (5, .pointer (some ⟨g5, 0, none⟩)), (7, .pointer (some ⟨L10.gd, 0, none⟩)), (9, .slice (some ⟨g9, 0, none⟩) N N)] (60 - (i + 1)) ⟨i + 1, _, L10, _, _, _, rfl, by omega, I.drop, hS13, rfl⟩ (by omega) ⟨rfl, rfl, rfl, rfl, rfl, rfl, rfl, trivial⟩
  · clear hl
    refine sx_fork 0 [(10, .slice A10 wt.length c10), (0, .int .i64 (N : Int)), (5, .pointer (some ⟨g5, 0, none⟩)), (7, .pointer (some ⟨L.gd, 0, none⟩)), (9, .slice (some ⟨g9, 0, none⟩) N N)] ?_ ?_
    rotate_left
    · intro main
      by_cases hlt' : i < l.length
      · refine sx_seq ?_
        refine sx_seq ?_
        refine sx_region ?_
        refine sxl_y (wn_none rfl) rfl rfl (yp rfl) ?_
        refine sxl_y (wn_none rfl) rfl rfl (yp rfl) ?_
        refine sxl_y (wn_none rfl) rfl rfl (y_len rfl rfl (sl rfl)) ?_
        refine sxl_y (wn_none rfl) rfl rfl (y_lss_t rfl rfl rfl (by omega)) ?_
        refine sxl_y (wn_none rfl) rfl rfl (yp rfl) ?_
        refine sxl_y (wn_on rfl rfl rfl) rfl rfl (yp rfl) ?_
        refine sxl_y (wn_on rfl rfl rfl) rfl rfl (y_lss_f rfl rfl rfl (by omega)) ?_
        refine sxl_y (wn_none rfl) rfl rfl (yp rfl) ?_
        refine sxl_nil ?_
        refine qx_seq ?_
        refine sx_false rfl ?_
        refine sx_exit ?_
        refine qx_then_exit ?_
        refine qx_then_exit ?_
        exact main _ ⟨rfl, rfl, rfl, rfl, rfl, trivial⟩
      · refine sx_seq ?_
        refine sx_seq ?_
        refine sx_region ?_
        refine sxl_y (wn_none rfl) rfl rfl (yp rfl) ?_
        refine sxl_y (wn_none rfl) rfl rfl (yp rfl) ?_
        refine sxl_y (wn_none rfl) rfl rfl (y_len rfl rfl (sl rfl)) ?_
        refine sxl_y (wn_none rfl) rfl rfl (y_lss_f rfl rfl rfl (by omega)) ?_
        refine sxl_y (wn_none rfl) rfl rfl (yp rfl) ?_
        refine sxl_off rfl rfl rfl rfl rfl rfl ?_
        refine sxl_off rfl rfl rfl rfl rfl rfl ?_
        refine sxl_y (wn_none rfl) rfl rfl (yp rfl) ?_
        refine sxl_nil ?_
        refine qx_seq ?_
        refine sx_false rfl ?_
        refine sx_exit ?_
        refine qx_then_exit ?_
        refine qx_then_exit ?_
        exact main _ ⟨rfl, rfl, rfl, rfl, rfl, trivial⟩
    have p0 : Cell wr.heap g5 0 (.slice kA keep.length kc) := hI.pl.c 0 rfl
    have p1 : Cell wr.heap g5 1 (.int .i64 torn) := hI.pl.c 1 rfl
    have p2 : Cell wr.heap g5 2 (.int .i64 cut) := hI.pl.c 2 rfl
    by_cases hc0 : cut < 0
    · refine qx_block_hit ?_
      refine qx_seq ?_
      refine sx_seq ?_
      refine sx_seq ?_
      refine sx_region ?_
      refine sxl_y (wn_none rfl) rfl rfl (yp rfl) ?_
      refine sxl_y (wn_none rfl) rfl rfl (y_load rfl rfl (sc rfl) (by assumption)) ?_
      refine sxl_y (wn_none rfl) rfl rfl (y_lss_t rfl rfl rfl (by omega)) ?_
      refine sxl_y (wn_none rfl) rfl rfl (yp rfl) ?_
      refine sxl_off rfl rfl rfl rfl rfl rfl ?_
      refine sxl_off rfl rfl rfl rfl rfl rfl ?_
      refine sxl_off rfl rfl rfl rfl rfl rfl ?_
      refine sxl_y (wn_none rfl) rfl rfl (yp rfl) ?_
      refine sxl_nil ?_
      refine qx_seq ?_
      refine sx_true rfl ?_
      refine sx_seq ?_
      refine sx_region ?_
      refine sxl_y (wn_none rfl) rfl rfl (yp rfl) ?_
      refine sxl_y (wn_none rfl) rfl rfl (y_loadB rfl rfl hI.pl Try.underlying25 rfl plan_size (by simp)) ?_
      refine sxl_call (some 118) (by first | exact wn_none rfl | exact wn_on rfl rfl rfl) rfl rfl (yc_call rfl rfl Try.call12) (crashC_arg _ torn cut wr L s hI.has.dk hS.dead (by omega)) ?_
      rintro _ w6 ⟨rfl, hf6⟩
      refine ⟨_, rfl, ?_⟩
      refine sxl_y (wn_none rfl) rfl rfl (y_eql_t rfl rfl rfl (by omega)) ?_
      refine sxl_y (wn_none rfl) rfl rfl (yp rfl) ?_
      refine sxl_y (wn_on rfl rfl rfl) rfl rfl (yp rfl) ?_
      refine sxl_call (some 122) (by first | exact wn_none rfl | exact wn_on rfl rfl rfl) rfl rfl (yc_call rfl rfl Try.call13) (dead_any w6 L.gd false (by rw [← hS.dead]; exact (hI.has.dk.fr0 hf6).c4)) ?_
      rintro _ _ ⟨rfl, rfl⟩
      refine ⟨_, rfl, ?_⟩
      refine sxl_y (wn_on rfl rfl rfl) rfl rfl (yp rfl) ?_
      refine sxl_y (wn_none rfl) rfl rfl (yp rfl) ?_
      refine sxl_y (wn_none rfl) rfl rfl (yp rfl) ?_
      refine sxl_nil ?_
      refine qx_seq ?_
      refine sx_ret ?_
      refine qx_then_ret ?_
      refine qx_ret1 rfl rfl ?_
      exact ⟨rfl, hI.has.fr.then0 hf6⟩
    · by_cases hc1 : 128 < cut
      · refine qx_block_hit ?_
        refine qx_seq ?_
        refine sx_seq ?_
        refine sx_seq ?_
        refine sx_region ?_
        refine sxl_y (wn_none rfl) rfl rfl (yp rfl) ?_
        refine sxl_y (wn_none rfl) rfl rfl (y_load rfl rfl (sc rfl) (by assumption)) ?_
        refine sxl_y (wn_none rfl) rfl rfl (y_lss_f rfl rfl rfl (by omega)) ?_
        refine sxl_y (wn_none rfl) rfl rfl (yp rfl) ?_
        refine sxl_y (wn_on rfl rfl rfl) rfl rfl (yp rfl) ?_
        refine sxl_y (wn_on rfl rfl rfl) rfl rfl (y_load rfl rfl (sc rfl) (by assumption)) ?_
        refine sxl_y (wn_on rfl rfl rfl) rfl rfl (y_gtr_t rfl rfl rfl (by omega)) ?_
        refine sxl_y (wn_none rfl) rfl rfl (yp rfl) ?_
        refine sxl_nil ?_
        refine qx_seq ?_
        refine sx_true rfl ?_
        refine sx_seq ?_
        refine sx_region ?_
        refine sxl_y (wn_none rfl) rfl rfl (yp rfl) ?_
        refine sxl_y (wn_none rfl) rfl rfl (y_loadB rfl rfl hI.pl Try.underlying25 rfl plan_size (by simp)) ?_
        refine sxl_call (some 118) (by first | exact wn_none rfl | exact wn_on rfl rfl rfl) rfl rfl (yc_call rfl rfl Try.call12) (crashC_arg _ torn cut wr L s hI.has.dk hS.dead (by omega)) ?_
        rintro _ w6 ⟨rfl, hf6⟩
        refine ⟨_, rfl, ?_⟩
        refine sxl_y (wn_none rfl) rfl rfl (y_eql_t rfl rfl rfl (by omega)) ?_
        refine sxl_y (wn_none rfl) rfl rfl (yp rfl) ?_
        refine sxl_y (wn_on rfl rfl rfl) rfl rfl (yp rfl) ?_
        refine sxl_call (some 122) (by first | exact wn_none rfl | exact wn_on rfl rfl rfl) rfl rfl (yc_call rfl rfl Try.call13) (dead_any w6 L.gd false (by rw [← hS.dead]; exact (hI.has.dk.fr0 hf6).c4)) ?_
        rintro _ _ ⟨rfl, rfl⟩
        refine ⟨_, rfl, ?_⟩
        refine sxl_y (wn_on rfl rfl rfl) rfl rfl (yp rfl) ?_
        refine sxl_y (wn_none rfl) rfl rfl (yp rfl) ?_
        refine sxl_y (wn_none rfl) rfl rfl (yp rfl) ?_
        refine sxl_nil ?_
        refine qx_seq ?_
        refine sx_ret ?_
        refine qx_then_ret ?_
        refine qx_ret1 rfl rfl ?_
        exact ⟨rfl, hI.has.fr.then0 hf6⟩
      · obtain ⟨cn, rfl⟩ : ∃ cn : Nat, cut = (cn : Int) := ⟨cut.toNat, by omega⟩
        have hcn : cn ≤ 128 := by omega
        refine qx_block_hit ?_
        refine qx_seq ?_
        refine sx_seq ?_
        refine sx_seq ?_
        refine sx_region ?_
        refine sxl_y (wn_none rfl) rfl rfl (yp rfl) ?_
        refine sxl_y (wn_none rfl) rfl rfl (y_load rfl rfl (sc rfl) (by assumption)) ?_
        refine sxl_y (wn_none rfl) rfl rfl (y_lss_f rfl rfl rfl (by omega)) ?_
        refine sxl_y (wn_none rfl) rfl rfl (yp rfl) ?_
        refine sxl_y (wn_on rfl rfl rfl) rfl rfl (yp rfl) ?_
        refine sxl_y (wn_on rfl rfl rfl) rfl rfl (y_load rfl rfl (sc rfl) (by assumption)) ?_
        refine sxl_y (wn_on rfl rfl rfl) rfl rfl (y_gtr_f rfl rfl rfl (by omega)) ?_
        refine sxl_y (wn_none rfl) rfl rfl (yp rfl) ?_
        refine sxl_nil ?_
        refine qx_seq ?_
        refine sx_false rfl ?_
        refine sx_skip ?_
        refine qx_seq ?_
        refine sx_seq ?_
        refine sx_seq ?_
        refine sx_region ?_
        refine sxl_y (wn_none rfl) rfl rfl (yp rfl) ?_
        refine sxl_y (wn_none rfl) rfl rfl (y_loadB rfl rfl hI.pl Try.underlying25 rfl plan_size (by simp)) ?_
        refine sxl_call (some 127) (by first | exact wn_none rfl | exact wn_on rfl rfl rfl) rfl rfl (yc_call rfl rfl Try.call12) (crashC_ok kA kc keep torn cn wr L s hI.has.dk hS.dead (hk.fr0 hI.has.fr) (fun hp b off e hb => by have := hk.lt hp b off e; have := hI.has.ge b hb; omega) (by omega)) ?_
        rintro _ w6 ⟨L6, rfl, h6⟩
        refine ⟨_, rfl, ?_⟩
        rw [← h6.gd]
        have I6 := hI.disk h6 hI.kp
        refine sxl_y (wn_none rfl) rfl rfl (y_neq_f rfl rfl rfl (by omega)) ?_
        refine sxl_y (wn_none rfl) rfl rfl (yp rfl) ?_
        refine sxl_y (wn_on rfl rfl rfl) rfl rfl (yp rfl) ?_
        refine sxl_call (some 131) (by first | exact wn_none rfl | exact wn_on rfl rfl rfl) rfl rfl (yc_call rfl rfl Try.call13) (dead_any w6 L6.gd true I6.has.dk.c4) ?_
        rintro _ _ ⟨rfl, rfl⟩
        refine ⟨_, rfl, ?_⟩
        refine sxl_y (wn_on rfl rfl rfl) rfl rfl (yp rfl) ?_
        refine sxl_y (wn_none rfl) rfl rfl (yp rfl) ?_
        refine sxl_y (wn_none rfl) rfl rfl (yp rfl) ?_
        refine sxl_y (wn_on rfl rfl rfl) rfl rfl (yp rfl) ?_
        refine sxl_call (some 136) (by first | exact wn_none rfl | exact wn_on rfl rfl rfl) rfl rfl (yc_call rfl rfl Try.call11) (flush_dead w6 L6 _ I6.has.dk rfl) ?_
        rintro _ _ ⟨rfl, rfl⟩
        refine ⟨_, rfl, ?_⟩
        refine sxl_y (wn_on rfl rfl rfl) rfl rfl (y_neq_f rfl rfl rfl (by omega)) ?_
        refine sxl_y (wn_none rfl) rfl rfl (yp rfl) ?_
        refine sxl_nil ?_
        refine qx_seq ?_
        refine sx_false rfl ?_
        refine sx_skip ?_
        refine qx_seq ?_
        refine sx_seq ?_
        refine sx_region ?_
        refine sxl_y (wn_none rfl) rfl rfl (yp rfl) ?_
        refine sxl_call (some 141) (by first | exact wn_none rfl | exact wn_on rfl rfl rfl) rfl rfl (yc_call rfl rfl Try.call14) (reopen_ok w6 L6 _ I6.has.dk rfl) ?_
        rintro _ w7 ⟨L7, rfl, h7, -, hf7⟩
        refine ⟨_, rfl, ?_⟩
        obtain ⟨A7, c7, e7, -, -, -, -⟩ := ownN_form h7.hw
        refine sxl_y (wn_none rfl) rfl rfl (yp rfl) ?_
        refine sxl_y (wn_none rfl) rfl rfl (yp rfl) ?_
        refine sxl_y (wn_none rfl) rfl rfl (yp rfl) ?_
        refine sxl_y (wn_none rfl) rfl rfl (yp rfl) ?_
        refine sxl_y (wn_none rfl) rfl rfl (yp rfl) ?_
        refine sxl_nil ?_
        refine qx_seq ?_
        refine sx_seq ?_
        refine sx_seq ?_
        refine sx_region ?_
        refine sxl_y (wn_none rfl) rfl rfl (yp rfl) ?_
        refine sxl_y (wn_none rfl) rfl rfl (y_neq_f rfl rfl rfl (by omega)) ?_
        refine sxl_y (wn_none rfl) rfl rfl (yp rfl) ?_
        refine sxl_y (wn_on rfl rfl rfl) rfl rfl (yp rfl) ?_
        refine sxl_call (some 148) (by first | exact wn_none rfl | exact wn_on rfl rfl rfl) rfl rfl (yc_call rfl rfl Try.call15) (waits_any w7 L7.gd A7 0 c7 (by rw [h7.c2, e7]; rfl)) ?_
        rintro _ _ ⟨rfl, rfl⟩
        refine ⟨_, rfl, ?_⟩
        refine sxl_y (wn_on rfl rfl rfl) rfl rfl (y_neq_f rfl rfl rfl (by omega)) ?_
        refine sxl_y (wn_none rfl) rfl rfl (yp rfl) ?_
        refine sxl_y (wn_none rfl) rfl rfl (yp rfl) ?_
        refine sxl_y (wn_on rfl rfl rfl) rfl rfl (yp rfl) ?_
        refine sxl_call (some 153) (by first | exact wn_none rfl | exact wn_on rfl rfl rfl) rfl rfl (yc_call rfl rfl Try.call16) (done_any w7 L7.gd 0 h7.c3) ?_
        rintro _ _ ⟨rfl, rfl⟩
        refine ⟨_, rfl, ?_⟩
        refine sxl_y (wn_on rfl rfl rfl) rfl rfl (y_neq_f rfl rfl rfl (by omega)) ?_
        refine sxl_y (wn_none rfl) rfl rfl (yp rfl) ?_
        refine sxl_y (wn_none rfl) rfl rfl (yp rfl) ?_
        refine sxl_y (wn_on rfl rfl rfl) rfl rfl (yp rfl) ?_
        refine sxl_call (some 158) (by first | exact wn_none rfl | exact wn_on rfl rfl rfl) rfl rfl (yc_call rfl rfl Try.call13) (dead_any w7 L7.gd false h7.c4) ?_
        rintro _ _ ⟨rfl, rfl⟩
        refine ⟨_, rfl, ?_⟩
        have I7 := I6.fr0 hf7
        clear hI I6 e7 p0 p1 p2
        refine sxl_y (wn_none rfl) rfl rfl (yp rfl) ?_
        refine sxl_nil ?_
        refine qx_seq ?_
        refine sx_false rfl ?_
        refine sx_skip ?_
        refine qx_seq ?_
        refine sx_seq ?_
        refine sx_seq ?_
        refine sx_region ?_
        refine sxl_y (wn_none rfl) rfl rfl (yp rfl) ?_
        refine sxl_nil ?_
        refine qx_seq ?_
        refine sx_block ?_
        refine sx_loop (fun e wr m => ∃ (j : Nat), e = [(15, .int .i64 (j : Int)), (14, .pointer (some ⟨L7.gd, 0, none⟩)), (10, .slice A10 wt.length c10), (0, .int .i64 (N : Int)), (5, .pointer (some ⟨g5, 0, none⟩)), (9, .slice (some ⟨g9, 0, none⟩) N N)] ∧ j ≤ N ∧ Fr0 w7 wr ∧ m = N - j) ⟨0, rfl, Nat.zero_le _, Fr.refl, rfl⟩ ⟨rfl, rfl, rfl, rfl, rfl, rfl, trivial⟩ ?_
        rintro _ wr _ ⟨j, rfl, hj, hfr, rfl⟩
        by_cases hjN : j < N
        · obtain ⟨c0, hlbj⟩ : ∃ c0, lb[j]? = some c0 := ⟨_, List.getElem?_eq_getElem (by rw [hS.len]; exact hjN)⟩
          obtain ⟨hTc, hT⟩ := crash_tr keep torn cn j hcn wt 0 (lb.map full) ⟨0, c0, c0⟩ (Nat.zero_le _) (fun _ => rfl) (by rw [List.getElem?_map, hlbj]; rfl)
          generalize hTe : trFrom keep torn cn j 0 wt ⟨0, c0, c0⟩ = T at hTc hT
          have hread : ((s.crash keep torn cn).reopen).shows[j]? = some (mix T.cut T.head T.tail) := by
            show (crashFrom keep torn cn 0 s.waits s.lasts)[j]? = _
            rw [hS.ws, hS.ls]; exact hT
          refine sx_seq ?_
          refine sx_seq ?_
          refine sx_region ?_
          refine sxl_y (wn_none rfl) rfl rfl (yp rfl) ?_
          refine sxl_y (wn_none rfl) rfl rfl (yp rfl) ?_
          refine sxl_y (wn_none rfl) rfl rfl (y_lss_t rfl rfl rfl (by omega)) ?_
          refine sxl_nil ?_
          refine qx_seq ?_
          refine sx_true rfl ?_
          refine sx_skip ?_
          refine qx_seq ?_
          refine sx_seq ?_
          refine sx_block ?_
          refine sx_seq ?_
          refine sx_region ?_
          refine sxl_y (wn_none rfl) rfl rfl (yp rfl) ?_
          refine sxl_y (wn_none rfl) rfl rfl (yp rfl) ?_
          refine sxl_call (some 168) (by first | exact wn_none rfl | exact wn_on rfl rfl rfl) rfl rfl (yc_call rfl rfl Try.call17) (read_ok j wr L7 _ (mix T.cut T.head T.tail) (h7.fr0 hfr) rfl hread) ?_
          rintro _ w8 ⟨⟨v16, rfl, ho16⟩, hf8⟩
          refine ⟨_, rfl, ?_⟩
          obtain ⟨A16, c16, rfl, _, hr16, _, hN16⟩ := ownN_form ho16
          have I8 := (I7.fr0 hfr).fr0 hf8
          have hF8 := hfr.then0 hf8
          have k9 : Cell w8.heap g9 (0 + j * 1) (.int .u8 (c0.toNat : Int)) := I8.lb.c _ (by rw [Nat.zero_add, Nat.mul_one, bvs_getElem?, hlbj]; rfl)
          have hwl := hS.wl
          refine sxl_y (wn_none rfl) rfl rfl (yp rfl) ?_
          refine sxl_y (wn_none rfl) rfl rfl (yp rfl) ?_
          refine sxl_y (wn_none rfl) rfl rfl (yp rfl) ?_
          refine sxl_y (wn_none rfl) rfl rfl (yp rfl) ?_
          refine sxl_y (wn_none rfl) rfl rfl (yp rfl) ?_
          refine sxl_nil ?_
          refine qx_seq ?_
          refine sx_seq ?_
          refine sx_seq ?_
          refine sx_region ?_
          refine sxl_y (wn_none rfl) rfl rfl (yp rfl) ?_
          refine sxl_y (wn_none rfl) rfl rfl (y_neq_f rfl rfl rfl (by omega)) ?_
          refine sxl_y (wn_none rfl) rfl rfl (yp rfl) ?_
          refine sxl_y (wn_on rfl rfl rfl) rfl rfl (yp rfl) ?_
          refine sxl_y (wn_on rfl rfl rfl) rfl rfl (y_len rfl rfl (sl rfl)) ?_
          refine sxl_y (wn_on rfl rfl rfl) rfl rfl (y_neq_f rfl rfl rfl (by omega)) ?_
          refine sxl_y (wn_none rfl) rfl rfl (yp rfl) ?_
          refine sxl_nil ?_
          refine qx_seq ?_
          refine sx_false rfl ?_
          refine sx_skip ?_
          refine qx_seq ?_
          refine sx_seq ?_
          refine sx_still hmix (by kernel_rfl) ?_
          refine sxs_y (wn_none rfl) rfl rfl (yp rfl) ?_
          refine sxs_y (wn_none rfl) rfl rfl (yp rfl) ?_
          refine sxs_y (wn_none rfl) rfl rfl (y_indexN rfl rfl rfl (sl rfl) (by omega)) ?_
          refine sxs_y (wn_none rfl) rfl rfl (y_load rfl rfl (sc rfl) (by assumption)) ?_
          refine sxs_y (wn_none rfl) rfl rfl (yp rfl) ?_
          refine sxs_y (wn_none rfl) rfl rfl (yp rfl) ?_
          refine sxs_y (wn_none rfl) rfl rfl (y_indexN rfl rfl rfl (sl rfl) (by omega)) ?_
          refine sxs_y (wn_none rfl) rfl rfl (y_load rfl rfl (sc rfl) (by assumption)) ?_
          refine sxs_y (wn_none rfl) rfl rfl (yp rfl) ?_
          refine sxs_y (wn_none rfl) rfl rfl (yp rfl) ?_
          refine sxs_end ?_
          refine qx_seq ?_
          refine sx_seq ?_
          refine sx_region ?_
          refine sxl_y (wn_none rfl) rfl rfl (yp rfl) ?_
          refine sxl_nil ?_
          refine qx_seq ?_
          refine sx_seq ?_
          refine sx_seq ?_
          refine sx_region ?_
          refine sxl_y (wn_none rfl) rfl rfl (yp rfl) ?_
          refine sxl_nil ?_
          refine qx_seq ?_
          refine sx_block ?_
          refine sx_loop (fun e wr m => ∃ (k : Nat) (x : Tr), e = [(21, .int .i64 (k : Int)), (18, .int .u8 (x.head.toNat : Int)), (19, .int .u8 (x.tail.toNat : Int)), (20, .int .i64 (x.cut : Int)), (16, .slice A16 128 c16), (15, .int .i64 (j : Int)), (14, .pointer (some ⟨L7.gd, 0, none⟩)), (10, .slice A10 wt.length c10), (0, .int .i64 (N : Int)), (5, .pointer (some ⟨g5, 0, none⟩)), (9, .slice (some ⟨g9, 0, none⟩) N N)] ∧ k ≤ wt.length ∧ trFrom keep torn cn j k (wt.drop k) x = T ∧ Fr0 w8 wr ∧ m = wt.length - k) ⟨0, ⟨0, c0, c0⟩, rfl, Nat.zero_le _, hTe, Fr.refl.drew, rfl⟩ ⟨rfl, rfl, rfl, rfl, rfl, rfl, rfl, rfl, rfl, rfl, rfl, trivial⟩ ?_
          rintro _ wr _ ⟨k, x, rfl, hkw, hx, hfx, rfl⟩
          have I9 := I8.fr0 hfx
          by_cases hlt3 : k < wt.length
          · obtain ⟨⟨qa, qb⟩, hq'⟩ : ∃ p, wt[k]? = some p := ⟨_, List.getElem?_eq_getElem hlt3⟩
            have hqN : qa.toNat < N := hS.at_ _ (List.mem_of_getElem? hq')
            have hdr : wt.drop k = (qa, qb) :: wt.drop (k + 1) := by
              rw [List.drop_eq_getElem_cons hlt3]
              congr 1
              rw [List.getElem?_eq_getElem hlt3] at hq'
              exact Option.some.inj hq'
            rw [hdr, trFrom] at hx
            obtain ⟨_, _, e9, _, hrk, _, _⟩ := ownN_form I9.wt
            injection e9 with e9; subst e9
            obtain ⟨b9, o9, rfl, k1, k2, -⟩ := put_cells hrk (show (wt.map wput)[k]? = some (wput (qa, qb)) by rw [List.getElem?_map, hq']; rfl)
            have k1 : Cell wr.heap b9 (o9 + k * 3 + 0) (.int .u8 (qa.toNat : Int)) := k1
            have k2 : Cell wr.heap b9 (o9 + k * 3 + 1) (.int .u8 (qb.toNat : Int)) := k2
            have p0 : Cell wr.heap g5 0 (.slice kA keep.length kc) := I9.pl.c 0 rfl
            have p1 : Cell wr.heap g5 1 (.int .i64 torn) := I9.pl.c 1 rfl
            have p2 : Cell wr.heap g5 2 (.int .i64 (cn : Int)) := I9.pl.c 2 rfl
            by_cases hqj : qa.toNat = j
            · by_cases hkt : (k : Int) = torn
              · refine sx_seq ?_
                refine sx_seq ?_
                refine sx_region ?_
                refine sxl_y (wn_none rfl) rfl rfl (yp rfl) ?_
                refine sxl_y (wn_none rfl) rfl rfl (yp rfl) ?_
                refine sxl_y (wn_none rfl) rfl rfl (y_len rfl rfl (sl rfl)) ?_
                refine sxl_y (wn_none rfl) rfl rfl (y_lss_t rfl rfl rfl (by omega)) ?_
                refine sxl_nil ?_
                refine qx_seq ?_
                refine sx_true rfl ?_
                refine sx_skip ?_
                refine qx_seq ?_
                refine sx_seq ?_
                refine sx_block ?_
                refine sx_seq ?_
                refine sx_seq ?_
                refine sx_region ?_
                refine sxl_y (wn_none rfl) rfl rfl (yp rfl) ?_
                refine sxl_y (wn_none rfl) rfl rfl (yp rfl) ?_
                refine sxl_y (wn_none rfl) rfl rfl (y_indexN rfl rfl rfl (sl rfl) (by omega)) ?_
                refine sxl_y (wn_none rfl) rfl rfl (yp rfl) ?_
                refine sxl_y (wn_none rfl) rfl rfl (y_load rfl rfl (sc rfl) (by assumption)) ?_
                refine sxl_y (wn_none rfl) rfl rfl (y_convInt rfl rfl Try.underlying5 Try.underlying3 (IntWalk.i64_in (qa.toNat : Int) ⟨by omega, by omega⟩)) ?_
                refine sxl_y (wn_none rfl) rfl rfl (yp rfl) ?_
                refine sxl_y (wn_none rfl) rfl rfl (y_neq_f rfl rfl rfl (by omega)) ?_
                refine sxl_nil ?_
                refine qx_seq ?_
                refine sx_false rfl ?_
                refine sx_skip ?_
                refine qx_seq ?_
                refine sx_seq ?_
                refine sx_region ?_
                refine sxl_y (wn_none rfl) rfl rfl (yp rfl) ?_
                refine sxl_y (wn_none rfl) rfl rfl (yp rfl) ?_
                refine sxl_y (wn_none rfl) rfl rfl (y_load rfl rfl (sc rfl) (by assumption)) ?_
                refine sxl_y (wn_none rfl) rfl rfl (y_eql_t rfl rfl rfl (by omega)) ?_
                refine sxl_nil ?_
                refine qx_seq ?_
                refine sx_true rfl ?_
                refine sx_still hmix (by kernel_rfl) ?_
                refine sxs_y (wn_none rfl) rfl rfl (yp rfl) ?_
                refine sxs_y (wn_none rfl) rfl rfl (y_load rfl rfl (sc rfl) (by assumption)) ?_
                refine sxs_y (wn_none rfl) rfl rfl (yp rfl) ?_
                refine sxs_y (wn_none rfl) rfl rfl (yp rfl) ?_
                refine sxs_y (wn_none rfl) rfl rfl (y_indexN rfl rfl rfl (sl rfl) (by omega)) ?_
                refine sxs_y (wn_none rfl) rfl rfl (yp rfl) ?_
                refine sxs_y (wn_none rfl) rfl rfl (y_load rfl rfl (sc rfl) (by assumption)) ?_
                refine sxs_y (wn_none rfl) rfl rfl (yp rfl) ?_
                refine sxs_y (wn_none rfl) rfl rfl (yp rfl) ?_
                refine sxs_end ?_
                refine qx_block_normal ?_
                refine qx_seq ?_
                refine sx_region ?_
                refine sxl_y (wn_none rfl) rfl rfl (yp rfl) ?_
                refine sxl_y (wn_none rfl) rfl rfl (y_add rfl rfl rfl (by omega)) ?_
                refine sxl_y (wn_none rfl) rfl rfl (yp rfl) ?_
                refine sxl_nil ?_
                refine qx_again [(21, .int .i64 ((k + 1 : Nat) : Int)), (18, .int .u8 (qb.toNat : Int)), (19, .int .u8 (x.tail.toNat : Int)), (20, .int .i64 (cn : Int)), (16, .slice A16 128 c16), (15, .int .i64 (j : Int)), (14, .pointer (some ⟨L7.gd, 0, none⟩)), (10, .slice (some ⟨b9, o9, none⟩) wt.length c10), (0, .int .i64 (N : Int)), (5, .pointer (some ⟨g5, 0, none⟩)), (9, .slice (some ⟨g9, 0, none⟩) N N)] (wt.length - (k + 1)) ⟨k + 1, ⟨cn, qb, x.tail⟩, rfl, hlt3, ?_, hfx.drew, rfl⟩ (by omega) ⟨rfl, rfl, rfl, rfl, rfl, rfl, rfl, rfl, rfl, rfl, rfl, trivial⟩
                have e : trOne keep torn cn j k (qa, qb) x = ⟨cn, qb, x.tail⟩ := by unfold trOne; rw [if_neg (by simpa using hqj), if_pos hkt]
                rw [← e]; exact hx
              · by_cases hkk : k < keep.length
                · obtain ⟨kb, ko, rfl, u, hu, hcu⟩ := ((hk.fr0 I9.has.fr)).at_ hkk
                  have kc1 := Cell.of hcu
                  rw [boolsV, List.getElem?_map, List.getElem?_eq_getElem hkk] at hu
                  obtain rfl : Value.bool keep[k] = u := by simpa using hu
                  have hkd : keep.getD k false = keep[k] := by rw [List.getD_eq_getElem?_getD, List.getElem?_eq_getElem hkk]; rfl
                  have kc1 : Cell wr.heap kb (ko + k * 1) (.bool keep[k]) := by rw [Nat.mul_one]; exact kc1
                  cases hkv : keep[k] with
                  | true =>
                    rw [hkv] at kc1
                    refine sx_seq ?_
                    refine sx_seq ?_
                    refine sx_region ?_
                    refine sxl_y (wn_none rfl) rfl rfl (yp rfl) ?_
                    refine sxl_y (wn_none rfl) rfl rfl (yp rfl) ?_
                    refine sxl_y (wn_none rfl) rfl rfl (y_len rfl rfl (sl rfl)) ?_
                    refine sxl_y (wn_none rfl) rfl rfl (y_lss_t rfl rfl rfl (by omega)) ?_
                    refine sxl_nil ?_
                    refine qx_seq ?_
                    refine sx_true rfl ?_
                    refine sx_skip ?_
                    refine qx_seq ?_
                    refine sx_seq ?_
                    refine sx_block ?_
                    refine sx_seq ?_
                    refine sx_seq ?_
                    refine sx_region ?_
                    refine sxl_y (wn_none rfl) rfl rfl (yp rfl) ?_
                    refine sxl_y (wn_none rfl) rfl rfl (yp rfl) ?_
                    refine sxl_y (wn_none rfl) rfl rfl (y_indexN rfl rfl rfl (sl rfl) (by omega)) ?_
                    refine sxl_y (wn_none rfl) rfl rfl (yp rfl) ?_
                    refine sxl_y (wn_none rfl) rfl rfl (y_load rfl rfl (sc rfl) (by assumption)) ?_
                    refine sxl_y (wn_none rfl) rfl rfl (y_convInt rfl rfl Try.underlying5 Try.underlying3 (IntWalk.i64_in (qa.toNat : Int) ⟨by omega, by omega⟩)) ?_
                    refine sxl_y (wn_none rfl) rfl rfl (yp rfl) ?_
                    refine sxl_y (wn_none rfl) rfl rfl (y_neq_f rfl rfl rfl (by omega)) ?_
                    refine sxl_nil ?_
                    refine qx_seq ?_
                    refine sx_false rfl ?_
                    refine sx_skip ?_
                    refine qx_seq ?_
                    refine sx_seq ?_
                    refine sx_region ?_
                    refine sxl_y (wn_none rfl) rfl rfl (yp rfl) ?_
                    refine sxl_y (wn_none rfl) rfl rfl (yp rfl) ?_
                    refine sxl_y (wn_none rfl) rfl rfl (y_load rfl rfl (sc rfl) (by assumption)) ?_
                    refine sxl_y (wn_none rfl) rfl rfl (y_eql_f rfl rfl rfl (by omega)) ?_
                    refine sxl_nil ?_
                    refine qx_seq ?_
                    refine sx_false rfl ?_
                    refine sx_seq ?_
                    refine sx_region ?_
                    refine sxl_y (wn_none rfl) rfl rfl (yp rfl) ?_
                    refine sxl_y (wn_none rfl) rfl rfl (yp rfl) ?_
                    refine sxl_y (wn_none rfl) rfl rfl (y_load rfl rfl (sc rfl) (by assumption)) ?_
                    refine sxl_y (wn_none rfl) rfl rfl (y_len rfl rfl (sl rfl)) ?_
                    refine sxl_y (wn_none rfl) rfl rfl (y_lss_t rfl rfl rfl (by omega)) ?_
                    refine sxl_y (wn_none rfl) rfl rfl (yp rfl) ?_
                    refine sxl_y (wn_on rfl rfl rfl) rfl rfl (yp rfl) ?_
                    refine sxl_y (wn_on rfl rfl rfl) rfl rfl (y_load rfl rfl (sc rfl) (by assumption)) ?_
                    refine sxl_y (wn_on rfl rfl rfl) rfl rfl (yp rfl) ?_
                    refine sxl_y (wn_on rfl rfl rfl) rfl rfl (y_indexN rfl rfl rfl (sl rfl) (by omega)) ?_
                    refine sxl_y (wn_on rfl rfl rfl) rfl rfl (y_load rfl rfl (sc rfl) (by assumption)) ?_
                    refine sxl_y (wn_none rfl) rfl rfl (yp rfl) ?_
                    refine sxl_nil ?_
                    refine qx_seq ?_
                    refine sx_true rfl ?_
                    refine sx_still hmix (by kernel_rfl) ?_
                    refine sxs_y (wn_none rfl) rfl rfl (yp rfl) ?_
                    refine sxs_y (wn_none rfl) rfl rfl (yp rfl) ?_
                    refine sxs_y (wn_none rfl) rfl rfl (y_indexN rfl rfl rfl (sl rfl) (by omega)) ?_
                    refine sxs_y (wn_none rfl) rfl rfl (yp rfl) ?_
                    refine sxs_y (wn_none rfl) rfl rfl (y_load rfl rfl (sc rfl) (by assumption)) ?_
                    refine sxs_y (wn_none rfl) rfl rfl (yp rfl) ?_
                    refine sxs_y (wn_none rfl) rfl rfl (yp rfl) ?_
                    refine sxs_y (wn_none rfl) rfl rfl (y_indexN rfl rfl rfl (sl rfl) (by omega)) ?_
                    refine sxs_y (wn_none rfl) rfl rfl (yp rfl) ?_
                    refine sxs_y (wn_none rfl) rfl rfl (y_load rfl rfl (sc rfl) (by assumption)) ?_
                    refine sxs_y (wn_none rfl) rfl rfl (yp rfl) ?_
                    refine sxs_y (wn_none rfl) rfl rfl (yp rfl) ?_
                    refine sxs_y (wn_none rfl) rfl rfl (yp rfl) ?_
                    refine sxs_end ?_
                    refine qx_block_normal ?_
                    refine qx_seq ?_
                    refine sx_region ?_
                    refine sxl_y (wn_none rfl) rfl rfl (yp rfl) ?_
                    refine sxl_y (wn_none rfl) rfl rfl (y_add rfl rfl rfl (by omega)) ?_
                    refine sxl_y (wn_none rfl) rfl rfl (yp rfl) ?_
                    refine sxl_nil ?_
                    refine qx_again [(21, .int .i64 ((k + 1 : Nat) : Int)), (18, .int .u8 (qb.toNat : Int)), (19, .int .u8 (qb.toNat : Int)), (20, .int .i64 ((0 : Nat) : Int)), (16, .slice A16 128 c16), (15, .int .i64 (j : Int)), (14, .pointer (some ⟨L7.gd, 0, none⟩)), (10, .slice (some ⟨b9, o9, none⟩) wt.length c10), (0, .int .i64 (N : Int)), (5, .pointer (some ⟨g5, 0, none⟩)), (9, .slice (some ⟨g9, 0, none⟩) N N)] (wt.length - (k + 1)) ⟨k + 1, ⟨0, qb, qb⟩, rfl, hlt3, ?_, hfx.drew, rfl⟩ (by omega) ⟨rfl, rfl, rfl, rfl, rfl, rfl, rfl, rfl, rfl, rfl, rfl, trivial⟩
                    have e : trOne keep torn cn j k (qa, qb) x = ⟨0, qb, qb⟩ := by unfold trOne; rw [if_neg (by simpa using hqj), if_neg hkt, if_pos (by rw [hkd, hkv])]
                    rw [← e]; exact hx
                  | false =>
                    rw [hkv] at kc1
                    refine sx_seq ?_
                    refine sx_seq ?_
                    refine sx_region ?_
                    refine sxl_y (wn_none rfl) rfl rfl (yp rfl) ?_
                    refine sxl_y (wn_none rfl) rfl rfl (yp rfl) ?_
                    refine sxl_y (wn_none rfl) rfl rfl (y_len rfl rfl (sl rfl)) ?_
                    refine sxl_y (wn_none rfl) rfl rfl (y_lss_t rfl rfl rfl (by omega)) ?_
                    refine sxl_nil ?_
                    refine qx_seq ?_
                    refine sx_true rfl ?_
                    refine sx_skip ?_
                    refine qx_seq ?_
                    refine sx_seq ?_
                    refine sx_block ?_
                    refine sx_seq ?_
                    refine sx_seq ?_
                    refine sx_region ?_
                    refine sxl_y (wn_none rfl) rfl rfl (yp rfl) ?_
                    refine sxl_y (wn_none rfl) rfl rfl (yp rfl) ?_
                    refine sxl_y (wn_none rfl) rfl rfl (y_indexN rfl rfl rfl (sl rfl) (by omega)) ?_
                    refine sxl_y (wn_none rfl) rfl rfl (yp rfl) ?_
                    refine sxl_y (wn_none rfl) rfl rfl (y_load rfl rfl (sc rfl) (by assumption)) ?_
                    refine sxl_y (wn_none rfl) rfl rfl (y_convInt rfl rfl Try.underlying5 Try.underlying3 (IntWalk.i64_in (qa.toNat : Int) ⟨by omega, by omega⟩)) ?_
                    refine sxl_y (wn_none rfl) rfl rfl (yp rfl) ?_
                    refine sxl_y (wn_none rfl) rfl rfl (y_neq_f rfl rfl rfl (by omega)) ?_
                    refine sxl_nil ?_
                    refine qx_seq ?_
                    refine sx_false rfl ?_
                    refine sx_skip ?_
                    refine qx_seq ?_
                    refine sx_seq ?_
                    refine sx_region ?_
                    refine sxl_y (wn_none rfl) rfl rfl (yp rfl) ?_
                    refine sxl_y (wn_none rfl) rfl rfl (yp rfl) ?_
                    refine sxl_y (wn_none rfl) rfl rfl (y_load rfl rfl (sc rfl) (by assumption)) ?_
                    refine sxl_y (wn_none rfl) rfl rfl (y_eql_f rfl rfl rfl (by omega)) ?_
                    refine sxl_nil ?_
                    refine qx_seq ?_
                    refine sx_false rfl ?_
                    refine sx_seq ?_
                    refine sx_region ?_
                    refine sxl_y (wn_none rfl) rfl rfl (yp rfl) ?_
                    refine sxl_y (wn_none rfl) rfl rfl (yp rfl) ?_
                    refine sxl_y (wn_none rfl) rfl rfl (y_load rfl rfl (sc rfl) (by assumption)) ?_
                    refine sxl_y (wn_none rfl) rfl rfl (y_len rfl rfl (sl rfl)) ?_
                    refine sxl_y (wn_none rfl) rfl rfl (y_lss_t rfl rfl rfl (by omega)) ?_
                    refine sxl_y (wn_none rfl) rfl rfl (yp rfl) ?_
                    refine sxl_y (wn_on rfl rfl rfl) rfl rfl (yp rfl) ?_
                    refine sxl_y (wn_on rfl rfl rfl) rfl rfl (y_load rfl rfl (sc rfl) (by assumption)) ?_
                    refine sxl_y (wn_on rfl rfl rfl) rfl rfl (yp rfl) ?_
                    refine sxl_y (wn_on rfl rfl rfl) rfl rfl (y_indexN rfl rfl rfl (sl rfl) (by omega)) ?_
                    refine sxl_y (wn_on rfl rfl rfl) rfl rfl (y_load rfl rfl (sc rfl) (by assumption)) ?_
                    refine sxl_y (wn_none rfl) rfl rfl (yp rfl) ?_
                    refine sxl_nil ?_
                    refine qx_seq ?_
                    refine sx_false rfl ?_
                    refine sx_skip ?_
                    refine qx_block_normal ?_
                    refine qx_seq ?_
                    refine sx_region ?_
                    refine sxl_y (wn_none rfl) rfl rfl (yp rfl) ?_
                    refine sxl_y (wn_none rfl) rfl rfl (y_add rfl rfl rfl (by omega)) ?_
                    refine sxl_y (wn_none rfl) rfl rfl (yp rfl) ?_
                    refine sxl_nil ?_
                    refine qx_again [(21, .int .i64 ((k + 1 : Nat) : Int)), (18, .int .u8 (x.head.toNat : Int)), (19, .int .u8 (x.tail.toNat : Int)), (20, .int .i64 (x.cut : Int)), (16, .slice A16 128 c16), (15, .int .i64 (j : Int)), (14, .pointer (some ⟨L7.gd, 0, none⟩)), (10, .slice (some ⟨b9, o9, none⟩) wt.length c10), (0, .int .i64 (N : Int)), (5, .pointer (some ⟨g5, 0, none⟩)), (9, .slice (some ⟨g9, 0, none⟩) N N)] (wt.length - (k + 1)) ⟨k + 1, x, rfl, hlt3, ?_, hfx, rfl⟩ (by omega) ⟨rfl, rfl, rfl, rfl, rfl, rfl, rfl, rfl, rfl, rfl, rfl, trivial⟩
                    have e : trOne keep torn cn j k (qa, qb) x = x := by unfold trOne; rw [if_neg (by simpa using hqj), if_neg hkt, if_neg (by rw [hkd, hkv]; decide)]
                    rw [← e]; exact hx
                · refine sx_seq ?_
                  refine sx_seq ?_
                  refine sx_region ?_
                  refine sxl_y (wn_none rfl) rfl rfl (yp rfl) ?_
                  refine sxl_y (wn_none rfl) rfl rfl (yp rfl) ?_
                  refine sxl_y (wn_none rfl) rfl rfl (y_len rfl rfl (sl rfl)) ?_
                  refine sxl_y (wn_none rfl) rfl rfl (y_lss_t rfl rfl rfl (by omega)) ?_
                  refine sxl_nil ?_
                  refine qx_seq ?_
                  refine sx_true rfl ?_
                  refine sx_skip ?_
                  refine qx_seq ?_
                  refine sx_seq ?_
                  refine sx_block ?_
                  refine sx_seq ?_
                  refine sx_seq ?_
                  refine sx_region ?_
                  refine sxl_y (wn_none rfl) rfl rfl (yp rfl) ?_
                  refine sxl_y (wn_none rfl) rfl rfl (yp rfl) ?_
                  refine sxl_y (wn_none rfl) rfl rfl (y_indexN rfl rfl rfl (sl rfl) (by omega)) ?_
                  refine sxl_y (wn_none rfl) rfl rfl (yp rfl) ?_
                  refine sxl_y (wn_none rfl) rfl rfl (y_load rfl rfl (sc rfl) (by assumption)) ?_
                  refine sxl_y (wn_none rfl) rfl rfl (y_convInt rfl rfl Try.underlying5 Try.underlying3 (IntWalk.i64_in (qa.toNat : Int) ⟨by omega, by omega⟩)) ?_
                  refine sxl_y (wn_none rfl) rfl rfl (yp rfl) ?_
                  refine sxl_y (wn_none rfl) rfl rfl (y_neq_f rfl rfl rfl (by omega)) ?_
                  refine sxl_nil ?_
                  refine qx_seq ?_
                  refine sx_false rfl ?_
                  refine sx_skip ?_
                  refine qx_seq ?_
                  refine sx_seq ?_
                  refine sx_region ?_
                  refine sxl_y (wn_none rfl) rfl rfl (yp rfl) ?_
                  refine sxl_y (wn_none rfl) rfl rfl (yp rfl) ?_
                  refine sxl_y (wn_none rfl) rfl rfl (y_load rfl rfl (sc rfl) (by assumption)) ?_
                  refine sxl_y (wn_none rfl) rfl rfl (y_eql_f rfl rfl rfl (by omega)) ?_
                  refine sxl_nil ?_
                  refine qx_seq ?_
                  refine sx_false rfl ?_
                  refine sx_seq ?_
                  refine sx_region ?_
                  refine sxl_y (wn_none rfl) rfl rfl (yp rfl) ?_
                  refine sxl_y (wn_none rfl) rfl rfl (yp rfl) ?_
                  refine sxl_y (wn_none rfl) rfl rfl (y_load rfl rfl (sc rfl) (by assumption)) ?_
                  refine sxl_y (wn_none rfl) rfl rfl (y_len rfl rfl (sl rfl)) ?_
                  refine sxl_y (wn_none rfl) rfl rfl (y_lss_f rfl rfl rfl (by omega)) ?_
                  refine sxl_y (wn_none rfl) rfl rfl (yp rfl) ?_
                  refine sxl_off rfl rfl rfl rfl rfl rfl ?_
                  refine sxl_off rfl rfl rfl rfl rfl rfl ?_
                  refine sxl_off rfl rfl rfl rfl rfl rfl ?_
                  refine sxl_off rfl rfl rfl rfl rfl rfl ?_
                  refine sxl_off rfl rfl rfl rfl rfl rfl ?_
                  refine sxl_y (wn_none rfl) rfl rfl (yp rfl) ?_
                  refine sxl_nil ?_
                  refine qx_seq ?_
                  refine sx_false rfl ?_
                  refine sx_skip ?_
                  refine qx_block_normal ?_
                  refine qx_seq ?_
                  refine sx_region ?_
                  refine sxl_y (wn_none rfl) rfl rfl (yp rfl) ?_
                  refine sxl_y (wn_none rfl) rfl rfl (y_add rfl rfl rfl (by omega)) ?_
                  refine sxl_y (wn_none rfl) rfl rfl (yp rfl) ?_
                  refine sxl_nil ?_
                  refine qx_again [(21, .int .i64 ((k + 1 : Nat) : Int)), (18, .int .u8 (x.head.toNat : Int)), (19, .int .u8 (x.tail.toNat : Int)), (20, .int .i64 (x.cut : Int)), (16, .slice A16 128 c16), (15, .int .i64 (j : Int)), (14, .pointer (some ⟨L7.gd, 0, none⟩)), (10, .slice (some ⟨b9, o9, none⟩) wt.length c10), (0, .int .i64 (N : Int)), (5, .pointer (some ⟨g5, 0, none⟩)), (9, .slice (some ⟨g9, 0, none⟩) N N)] (wt.length - (k + 1)) ⟨k + 1, x, rfl, hlt3, ?_, hfx, rfl⟩ (by omega) ⟨rfl, rfl, rfl, rfl, rfl, rfl, rfl, rfl, rfl, rfl, rfl, trivial⟩
                  have hkd : keep.getD k false = false := by rw [List.getD_eq_getElem?_getD, List.getElem?_eq_none (by omega)]; rfl
                  have e : trOne keep torn cn j k (qa, qb) x = x := by unfold trOne; rw [if_neg (by simpa using hqj), if_neg hkt, if_neg (by rw [hkd]; decide)]
                  rw [← e]; exact hx
            · refine sx_seq ?_
              refine sx_seq ?_
              refine sx_region ?_
              refine sxl_y (wn_none rfl) rfl rfl (yp rfl) ?_
              refine sxl_y (wn_none rfl) rfl rfl (yp rfl) ?_
              refine sxl_y (wn_none rfl) rfl rfl (y_len rfl rfl (sl rfl)) ?_
              refine sxl_y (wn_none rfl) rfl rfl (y_lss_t rfl rfl rfl (by omega)) ?_
              refine sxl_nil ?_
              refine qx_seq ?_
              refine sx_true rfl ?_
              refine sx_skip ?_
              refine qx_seq ?_
              refine sx_seq ?_
              refine sx_block ?_
              refine sx_seq ?_
              refine sx_seq ?_
              refine sx_region ?_
              refine sxl_y (wn_none rfl) rfl rfl (yp rfl) ?_
              refine sxl_y (wn_none rfl) rfl rfl (yp rfl) ?_
              refine sxl_y (wn_none rfl) rfl rfl (y_indexN rfl rfl rfl (sl rfl) (by omega)) ?_
              refine sxl_y (wn_none rfl) rfl rfl (yp rfl) ?_
              refine sxl_y (wn_none rfl) rfl rfl (y_load rfl rfl (sc rfl) (by assumption)) ?_
              refine sxl_y (wn_none rfl) rfl rfl (y_convInt rfl rfl Try.underlying5 Try.underlying3 (IntWalk.i64_in (qa.toNat : Int) ⟨by omega, by omega⟩)) ?_
              refine sxl_y (wn_none rfl) rfl rfl (yp rfl) ?_
              refine sxl_y (wn_none rfl) rfl rfl (y_neq_t rfl rfl rfl (by omega)) ?_
              refine sxl_nil ?_
              refine qx_seq ?_
              refine sx_true rfl ?_
              refine sx_exit ?_
              refine qx_then_exit ?_
              refine qx_block_hit ?_
              refine qx_seq ?_
              refine sx_region ?_
              refine sxl_y (wn_none rfl) rfl rfl (yp rfl) ?_
              refine sxl_y (wn_none rfl) rfl rfl (y_add rfl rfl rfl (by omega)) ?_
              refine sxl_y (wn_none rfl) rfl rfl (yp rfl) ?_
              refine sxl_nil ?_
              refine qx_again [(21, .int .i64 ((k + 1 : Nat) : Int)), (18, .int .u8 (x.head.toNat : Int)), (19, .int .u8 (x.tail.toNat : Int)), (20, .int .i64 (x.cut : Int)), (16, .slice A16 128 c16), (15, .int .i64 (j : Int)), (14, .pointer (some ⟨L7.gd, 0, none⟩)), (10, .slice (some ⟨b9, o9, none⟩) wt.length c10), (0, .int .i64 (N : Int)), (5, .pointer (some ⟨g5, 0, none⟩)), (9, .slice (some ⟨g9, 0, none⟩) N N)] (wt.length - (k + 1)) ⟨k + 1, x, rfl, hlt3, ?_, hfx, rfl⟩ (by omega) ⟨rfl, rfl, rfl, rfl, rfl, rfl, rfl, rfl, rfl, rfl, rfl, trivial⟩
              have e : trOne keep torn cn j k (qa, qb) x = x := by unfold trOne; rw [if_pos (by simpa using hqj)]
              rw [← e]; exact hx
          · obtain rfl : k = wt.length := by omega
            rw [List.drop_length, trFrom] at hx
            subst hx
            obtain ⟨b16, o16, rfl⟩ := (hr16.fr0 hfx).some (by omega)
            refine sx_seq ?_
            refine sx_seq ?_
            refine sx_region ?_
            refine sxl_y (wn_none rfl) rfl rfl (yp rfl) ?_
            refine sxl_y (wn_none rfl) rfl rfl (yp rfl) ?_
            refine sxl_y (wn_none rfl) rfl rfl (y_len rfl rfl (sl rfl)) ?_
            refine sxl_y (wn_none rfl) rfl rfl (y_lss_f rfl rfl rfl (by omega)) ?_
            refine sxl_nil ?_
            refine qx_seq ?_
            refine sx_false rfl ?_
            refine sx_exit ?_
            refine qx_then_exit ?_
            refine qx_then_exit ?_
            refine qx_block_hit ?_
            refine qx_seq ?_
            refine sx_seq ?_
            refine sx_region ?_
            refine sxl_y (wn_none rfl) rfl rfl (yp rfl) ?_
            refine sxl_nil ?_
            refine qx_seq ?_
            refine sx_block ?_
            refine sx_loop (fun e wr m => ∃ (k : Nat), e = [(22, .int .i64 (k : Int)), (18, .int .u8 (x.head.toNat : Int)), (19, .int .u8 (x.tail.toNat : Int)), (20, .int .i64 (x.cut : Int)), (16, .slice (some ⟨b16, o16, none⟩) 128 c16), (15, .int .i64 (j : Int)), (14, .pointer (some ⟨L7.gd, 0, none⟩)), (10, .slice A10 wt.length c10), (0, .int .i64 (N : Int)), (5, .pointer (some ⟨g5, 0, none⟩)), (9, .slice (some ⟨g9, 0, none⟩) N N)] ∧ k ≤ 128 ∧ Fr0 w8 wr ∧ m = 128 - k) ⟨0, rfl, Nat.zero_le _, hfx, rfl⟩ ⟨rfl, rfl, rfl, rfl, rfl, rfl, rfl, rfl, rfl, rfl, rfl, trivial⟩ ?_
            rintro _ wr _ ⟨k, rfl, hk8, hfy, rfl⟩
            by_cases hlt4 : k < 128
            · obtain ⟨b', o', e', u, hu, hcu⟩ := (hr16.fr0 hfy).at_ (k := k) (by omega)
              injection e' with e'; injection e' with e1 e2 _; subst e1; subst e2
              rw [bvs_getElem?, mix_at _ _ _ hTc k hlt4] at hu
              have hcu := Cell.of hcu
              by_cases hkc : k < x.cut
              · rw [if_pos hkc] at hu
                obtain rfl : bv x.head = u := by simpa using hu
                have hcu : Cell wr.heap b16 (o16 + k * 1) (.int .u8 (x.head.toNat : Int)) := by rw [Nat.mul_one]; exact hcu
                refine sx_seq ?_
                refine sx_seq ?_
                refine sx_region ?_
                refine sxl_y (wn_none rfl) rfl rfl (yp rfl) ?_
                refine sxl_y (wn_none rfl) rfl rfl (y_lss_t rfl rfl rfl (by omega)) ?_
                refine sxl_nil ?_
                refine qx_seq ?_
                refine sx_true rfl ?_
                refine sx_skip ?_
                refine qx_seq ?_
                refine sx_seq ?_
                refine sx_block ?_
                refine sx_seq ?_
                refine sx_region ?_
                refine sxl_y (wn_none rfl) rfl rfl (yp rfl) ?_
                refine sxl_y (wn_none rfl) rfl rfl (yp rfl) ?_
                refine sxl_nil ?_
                refine qx_seq ?_
                refine sx_seq ?_
                refine sx_seq ?_
                refine sx_region ?_
                refine sxl_y (wn_none rfl) rfl rfl (yp rfl) ?_
                refine sxl_y (wn_none rfl) rfl rfl (yp rfl) ?_
                refine sxl_y (wn_none rfl) rfl rfl (y_lss_t rfl rfl rfl (by omega)) ?_
                refine sxl_nil ?_
                refine qx_seq ?_
                refine sx_true rfl ?_
                refine sx_region ?_
                refine sxl_y (wn_none rfl) rfl rfl (yp rfl) ?_
                refine sxl_y (wn_none rfl) rfl rfl (yp rfl) ?_
                refine sxl_nil ?_
                refine qx_seq ?_
                refine sx_seq ?_
                refine sx_region ?_
                refine sxl_y (wn_none rfl) rfl rfl (yp rfl) ?_
                refine sxl_y (wn_none rfl) rfl rfl (yp rfl) ?_
                refine sxl_y (wn_none rfl) rfl rfl (y_indexN rfl rfl rfl (sl rfl) (by omega)) ?_
                refine sxl_y (wn_none rfl) rfl rfl (y_load rfl rfl (sc rfl) (by assumption)) ?_
                refine sxl_y (wn_none rfl) rfl rfl (yp rfl) ?_
                refine sxl_y (wn_none rfl) rfl rfl (y_neq_f rfl rfl rfl (by omega)) ?_
                refine sxl_nil ?_
                refine qx_seq ?_
                refine sx_false rfl ?_
                refine sx_skip ?_
                refine qx_block_normal ?_
                refine qx_seq ?_
                refine sx_region ?_
                refine sxl_y (wn_none rfl) rfl rfl (yp rfl) ?_
                refine sxl_y (wn_none rfl) rfl rfl (y_add rfl rfl rfl (by omega)) ?_
                refine sxl_y (wn_none rfl) rfl rfl (yp rfl) ?_
                refine sxl_nil ?_
                exact qx_again [(22, .int .i64 ((k + 1 : Nat) : Int)), (18, .int .u8 (x.head.toNat : Int)), (19, .int .u8 (x.tail.toNat : Int)), (20, .int .i64 (x.cut : Int)), (16, .slice (some ⟨b16, o16, none⟩) 128 c16), (15, .int .i64 (j : Int)), (14, .pointer (some ⟨L7.gd, 0, none⟩)), (10, .slice A10 wt.length c10), (0, .int .i64 (N : Int)), (5, .pointer (some ⟨g5, 0, none⟩)), (9, .slice (some ⟨g9, 0, none⟩) N N)] (128 - (k + 1)) ⟨k + 1, rfl, hlt4, hfy, rfl⟩ (by omega) ⟨rfl, rfl, rfl, rfl, rfl, rfl, rfl, rfl, rfl, rfl, rfl, trivial⟩
              · rw [if_neg hkc] at hu
                obtain rfl : bv x.tail = u := by simpa using hu
                have hcu : Cell wr.heap b16 (o16 + k * 1) (.int .u8 (x.tail.toNat : Int)) := by rw [Nat.mul_one]; exact hcu
                refine sx_seq ?_
                refine sx_seq ?_
                refine sx_region ?_
                refine sxl_y (wn_none rfl) rfl rfl (yp rfl) ?_
                refine sxl_y (wn_none rfl) rfl rfl (y_lss_t rfl rfl rfl (by omega)) ?_
                refine sxl_nil ?_
                refine qx_seq ?_
                refine sx_true rfl ?_
                refine sx_skip ?_
                refine qx_seq ?_
                refine sx_seq ?_
                refine sx_block ?_
                refine sx_seq ?_
                refine sx_region ?_
                refine sxl_y (wn_none rfl) rfl rfl (yp rfl) ?_
                refine sxl_y (wn_none rfl) rfl rfl (yp rfl) ?_
                refine sxl_nil ?_
                refine qx_seq ?_
                refine sx_seq ?_
                refine sx_seq ?_
                refine sx_region ?_
                refine sxl_y (wn_none rfl) rfl rfl (yp rfl) ?_
                refine sxl_y (wn_none rfl) rfl rfl (yp rfl) ?_
                refine sxl_y (wn_none rfl) rfl rfl (y_lss_f rfl rfl rfl (by omega)) ?_
                refine sxl_nil ?_
                refine qx_seq ?_
                refine sx_false rfl ?_
                refine sx_skip ?_
                refine qx_seq ?_
                refine sx_seq ?_
                refine sx_region ?_
                refine sxl_y (wn_none rfl) rfl rfl (yp rfl) ?_
                refine sxl_y (wn_none rfl) rfl rfl (yp rfl) ?_
                refine sxl_y (wn_none rfl) rfl rfl (y_indexN rfl rfl rfl (sl rfl) (by omega)) ?_
                refine sxl_y (wn_none rfl) rfl rfl (y_load rfl rfl (sc rfl) (by assumption)) ?_
                refine sxl_y (wn_none rfl) rfl rfl (yp rfl) ?_
                refine sxl_y (wn_none rfl) rfl rfl (y_neq_f rfl rfl rfl (by omega)) ?_
                refine sxl_nil ?_
                refine qx_seq ?_
                refine sx_false rfl ?_
                refine sx_skip ?_
                refine qx_block_normal ?_
                refine qx_seq ?_
                refine sx_region ?_
                refine sxl_y (wn_none rfl) rfl rfl (yp rfl) ?_
                refine sxl_y (wn_none rfl) rfl rfl (y_add rfl rfl rfl (by omega)) ?_
                refine sxl_y (wn_none rfl) rfl rfl (yp rfl) ?_
                refine sxl_nil ?_
                exact qx_again [(22, .int .i64 ((k + 1 : Nat) : Int)), (18, .int .u8 (x.head.toNat : Int)), (19, .int .u8 (x.tail.toNat : Int)), (20, .int .i64 (x.cut : Int)), (16, .slice (some ⟨b16, o16, none⟩) 128 c16), (15, .int .i64 (j : Int)), (14, .pointer (some ⟨L7.gd, 0, none⟩)), (10, .slice A10 wt.length c10), (0, .int .i64 (N : Int)), (5, .pointer (some ⟨g5, 0, none⟩)), (9, .slice (some ⟨g9, 0, none⟩) N N)] (128 - (k + 1)) ⟨k + 1, rfl, hlt4, hfy, rfl⟩ (by omega) ⟨rfl, rfl, rfl, rfl, rfl, rfl, rfl, rfl, rfl, rfl, rfl, trivial⟩
            · refine sx_seq ?_
              refine sx_seq ?_
              refine sx_region ?_
              refine sxl_y (wn_none rfl) rfl rfl (yp rfl) ?_
              refine sxl_y (wn_none rfl) rfl rfl (y_lss_f rfl rfl rfl (by omega)) ?_
              refine sxl_nil ?_
              refine qx_seq ?_
              refine sx_false rfl ?_
              refine sx_exit ?_
              refine qx_then_exit ?_
              refine qx_then_exit ?_
              refine qx_block_hit ?_
              refine qx_block_normal ?_
              refine qx_seq ?_
              refine sx_region ?_
              refine sxl_y (wn_none rfl) rfl rfl (yp rfl) ?_
              refine sxl_y (wn_none rfl) rfl rfl (y_add rfl rfl rfl (by omega)) ?_
              refine sxl_y (wn_none rfl) rfl rfl (yp rfl) ?_
              refine sxl_nil ?_
              exact qx_again [(15, .int .i64 ((j + 1 : Nat) : Int)), (14, .pointer (some ⟨L7.gd, 0, none⟩)), (10, .slice A10 wt.length c10), (0, .int .i64 (N : Int)), (5, .pointer (some ⟨g5, 0, none⟩)), (9, .slice (some ⟨g9, 0, none⟩) N N)] (N - (j + 1)) ⟨j + 1, rfl, hjN, hF8.then0 hfy, rfl⟩ (by omega) ⟨rfl, rfl, rfl, rfl, rfl, rfl, trivial⟩
        · refine sx_seq ?_
          refine sx_seq ?_
          refine sx_region ?_
          refine sxl_y (wn_none rfl) rfl rfl (yp rfl) ?_
          refine sxl_y (wn_none rfl) rfl rfl (yp rfl) ?_
          refine sxl_y (wn_none rfl) rfl rfl (y_lss_f rfl rfl rfl (by omega)) ?_
          refine sxl_nil ?_
          refine qx_seq ?_
          refine sx_false rfl ?_
          refine sx_exit ?_
          refine qx_then_exit ?_
          refine qx_then_exit ?_
          refine qx_block_hit ?_
          refine qx_seq ?_
          refine sx_seq ?_
          refine sx_region ?_
          refine sxl_y (wn_none rfl) rfl rfl (yp rfl) ?_
          refine sxl_nil ?_
          refine qx_seq ?_
          refine sx_ret ?_
          refine qx_ret1 rfl rfl ?_
          exact ⟨rfl, I7.has.fr.then0 hfr⟩
end Go.Proofs.Ytbfeailalhddgaa
