/- Contract of a disk's Write. -/
import Derived.Test.YtbfeailalhddgaaDisk8
import Derived.Test.YtbfeailalhddgaaSxBuild
namespace Go.Proofs.Ytbfeailalhddgaa
open Go.RowKit

theorem alive_ok (w : World) (L : DL) (s : DS) (h : DkAt w L s) (hd : s.dead = false) : Calls Try.prog 25 #[.pointer (some ⟨L.gd, 0, none⟩)] w fun e w' => e = .returned (.int .i64 0) ∧ w = w' :=
  (alive_any w L.gd false (by rw [← hd]; exact h.c4)).mono fun _ _ h => ⟨h.1, h.2⟩
theorem alive_dead (w : World) (L : DL) (s : DS) (h : DkAt w L s) (hd : s.dead = true) : Calls Try.prog 25 #[.pointer (some ⟨L.gd, 0, none⟩)] w fun e w' => e = .returned (.int .i64 20) ∧ w = w' :=
  (alive_any w L.gd true (by rw [← hd]; exact h.c4)).mono fun _ _ h => ⟨h.1, h.2⟩
theorem write_nil (i : Int) (v : Value) (w : World) : Calls Try.prog 9 #[.pointer none, .int .i64 i, v] w fun e w' => e = .returned (.int .i64 2) ∧ w = w' := by
  refine sx_enter (vs := [_, _, _]) Try.func9 rfl Try.ntmps9 rfl ?_
  refine sx_seq ?_
  refine sx_region ?_
  refine sxl_y (wn_none rfl) rfl rfl (yp rfl) ?_
  refine sxl_nil ?_
  refine qx_seq ?_
  refine sx_seq ?_
  refine sx_seq ?_
  refine sx_region ?_
  refine sxl_y (wn_none rfl) rfl rfl (yp rfl) ?_
  refine sxl_call (some 10) (wn_none rfl) rfl rfl (yc_call rfl rfl Try.call25) (alive_nil w) ?_
  rintro _ _ ⟨rfl, rfl⟩
  refine ⟨_, rfl, ?_⟩
  refine sxl_y (wn_none rfl) rfl rfl (yp rfl) ?_
  refine sxl_nil ?_
  refine qx_seq ?_
  refine sx_seq ?_
  refine sx_region ?_
  refine sxl_y (wn_none rfl) rfl rfl (yp rfl) ?_
  refine sxl_y (wn_none rfl) rfl rfl (y_neq_t rfl rfl rfl (by omega)) ?_
  refine sxl_nil ?_
  refine qx_seq ?_
  refine sx_true rfl ?_
  refine sx_seq ?_
  refine sx_region ?_
  refine sxl_y (wn_none rfl) rfl rfl (yp rfl) ?_
  refine sxl_y (wn_none rfl) rfl rfl (yp rfl) ?_
  refine sxl_nil ?_
  refine qx_seq ?_
  refine sx_ret ?_
  refine qx_then_ret ?_
  refine qx_ret1 rfl rfl ?_
  exact ⟨rfl, rfl⟩
theorem write_dead (i : Int) (v : Value) (w : World) (L : DL) (s : DS) (h : DkAt w L s) (hd : s.dead = true) : Calls Try.prog 9 #[.pointer (some ⟨L.gd, 0, none⟩), .int .i64 i, v] w fun e w' => e = .returned (.int .i64 20) ∧ w = w' := by
  refine sx_enter (vs := [_, _, _]) Try.func9 rfl Try.ntmps9 rfl ?_
  refine sx_seq ?_
  refine sx_region ?_
  refine sxl_y (wn_none rfl) rfl rfl (yp rfl) ?_
  refine sxl_nil ?_
  refine qx_seq ?_
  refine sx_seq ?_
  refine sx_seq ?_
  refine sx_region ?_
  refine sxl_y (wn_none rfl) rfl rfl (yp rfl) ?_
  refine sxl_call (some 10) (wn_none rfl) rfl rfl (yc_call rfl rfl Try.call25) (alive_dead w L s h hd) ?_
  rintro _ _ ⟨rfl, rfl⟩
  refine ⟨_, rfl, ?_⟩
  refine sxl_y (wn_none rfl) rfl rfl (yp rfl) ?_
  refine sxl_nil ?_
  refine qx_seq ?_
  refine sx_seq ?_
  refine sx_region ?_
  refine sxl_y (wn_none rfl) rfl rfl (yp rfl) ?_
  refine sxl_y (wn_none rfl) rfl rfl (y_neq_t rfl rfl rfl (by omega)) ?_
  refine sxl_nil ?_
  refine qx_seq ?_
  refine sx_true rfl ?_
  refine sx_seq ?_
  refine sx_region ?_
  refine sxl_y (wn_none rfl) rfl rfl (yp rfl) ?_
  refine sxl_y (wn_none rfl) rfl rfl (yp rfl) ?_
  refine sxl_nil ?_
  refine qx_seq ?_
  refine sx_ret ?_
  refine qx_then_ret ?_
  refine qx_ret1 rfl rfl ?_
  exact ⟨rfl, rfl⟩
theorem write_arg (i : Int) (A : Option Addr) (len cap : Nat) (w : World) (L : DL) (s : DS) (h : DkAt w L s) (hd : s.dead = false) (hbad : i < 0 ∨ (s.lasts.length : Int) ≤ i ∨ len ≠ 128) :
    Calls Try.prog 9 #[.pointer (some ⟨L.gd, 0, none⟩), .int .i64 i, .slice A len cap] w fun e w' => e = .returned (.int .i64 1) ∧ w = w' := by
  obtain ⟨lA, lc, evl, _, _, _⟩ := ownN_form h.hl
  have c0 : Cell w.heap L.gd 0 (.slice lA s.lasts.length lc) := h.hd.c 0 (by rw [← evl]; rfl)
  refine sx_enter (vs := [_, _, _]) Try.func9 rfl Try.ntmps9 rfl ?_
  refine sx_seq ?_
  refine sx_region ?_
  refine sxl_y (wn_none rfl) rfl rfl (yp rfl) ?_
  refine sxl_nil ?_
  refine qx_seq ?_
  refine sx_seq ?_
  refine sx_seq ?_
  refine sx_region ?_
  refine sxl_y (wn_none rfl) rfl rfl (yp rfl) ?_
  refine sxl_call (some 10) (wn_none rfl) rfl rfl (yc_call rfl rfl Try.call25) (alive_ok w L s h hd) ?_
  rintro _ _ ⟨rfl, rfl⟩
  refine ⟨_, rfl, ?_⟩
  by_cases h1 : i < 0
  · refine sxl_y (wn_none rfl) rfl rfl (yp rfl) ?_
    refine sxl_nil ?_
    refine qx_seq ?_
    refine sx_seq ?_
    refine sx_region ?_
    refine sxl_y (wn_none rfl) rfl rfl (yp rfl) ?_
    refine sxl_y (wn_none rfl) rfl rfl (y_neq_f rfl rfl rfl (by omega)) ?_
    refine sxl_nil ?_
    refine qx_seq ?_
    refine sx_false rfl ?_
    refine sx_skip ?_
    refine qx_seq ?_
    refine sx_seq ?_
    refine sx_seq ?_
    refine sx_region ?_
    refine sxl_y (wn_none rfl) rfl rfl (yp rfl) ?_
    refine sxl_y (wn_none rfl) rfl rfl (y_lss_t rfl rfl rfl (by omega)) ?_
    refine sxl_y (wn_none rfl) rfl rfl (yp rfl) ?_
    refine sxl_off rfl rfl rfl rfl rfl rfl ?_
    refine sxl_off rfl rfl rfl rfl rfl rfl ?_
    refine sxl_off rfl rfl rfl rfl rfl rfl ?_
    refine sxl_off rfl rfl rfl rfl rfl rfl ?_
    refine sxl_off rfl rfl rfl rfl rfl rfl ?_
    refine sxl_off rfl rfl rfl rfl rfl rfl ?_
    refine sxl_off rfl rfl rfl rfl rfl rfl ?_
    refine sxl_y (wn_none rfl) rfl rfl (yp rfl) ?_
    refine sxl_y (wn_none rfl) rfl rfl (yp rfl) ?_
    refine sxl_off rfl rfl rfl rfl rfl rfl ?_
    refine sxl_off rfl rfl rfl rfl rfl rfl ?_
    refine sxl_off rfl rfl rfl rfl rfl rfl ?_
    refine sxl_y (wn_none rfl) rfl rfl (yp rfl) ?_
    refine sxl_nil ?_
    refine qx_seq ?_
    refine sx_true rfl ?_
    refine sx_seq ?_
    refine sx_region ?_
    refine sxl_y (wn_none rfl) rfl rfl (yp rfl) ?_
    refine sxl_nil ?_
    refine qx_seq ?_
    refine sx_ret ?_
    refine qx_then_ret ?_
    refine qx_ret1 rfl rfl ?_
    exact ⟨rfl, rfl⟩
  · by_cases h2 : (s.lasts.length : Int) ≤ i
    · refine sxl_y (wn_none rfl) rfl rfl (yp rfl) ?_
      refine sxl_nil ?_
      refine qx_seq ?_
      refine sx_seq ?_
      refine sx_region ?_
      refine sxl_y (wn_none rfl) rfl rfl (yp rfl) ?_
      refine sxl_y (wn_none rfl) rfl rfl (y_neq_f rfl rfl rfl (by omega)) ?_
      refine sxl_nil ?_
      refine qx_seq ?_
      refine sx_false rfl ?_
      refine sx_skip ?_
      refine qx_seq ?_
      refine sx_seq ?_
      refine sx_seq ?_
      refine sx_region ?_
      refine sxl_y (wn_none rfl) rfl rfl (yp rfl) ?_
      refine sxl_y (wn_none rfl) rfl rfl (y_lss_f rfl rfl rfl (by omega)) ?_
      refine sxl_y (wn_none rfl) rfl rfl (yp rfl) ?_
      refine sxl_y (wn_on rfl rfl rfl) rfl rfl (yp rfl) ?_
      refine sxl_y (wn_on rfl rfl rfl) rfl rfl (yp rfl) ?_
      refine sxl_y (wn_on rfl rfl rfl) rfl rfl (yp rfl) ?_
      refine sxl_y (wn_on rfl rfl rfl) rfl rfl (yp rfl) ?_
      refine sxl_y (wn_on rfl rfl rfl) rfl rfl (y_load rfl rfl (sc rfl) (by assumption)) ?_
      refine sxl_y (wn_on rfl rfl rfl) rfl rfl (y_len rfl rfl (sl rfl)) ?_
      refine sxl_y (wn_on rfl rfl rfl) rfl rfl (y_geq_t rfl rfl rfl (by omega)) ?_
      refine sxl_y (wn_none rfl) rfl rfl (yp rfl) ?_
      refine sxl_y (wn_none rfl) rfl rfl (yp rfl) ?_
      refine sxl_off rfl rfl rfl rfl rfl rfl ?_
      refine sxl_off rfl rfl rfl rfl rfl rfl ?_
      refine sxl_off rfl rfl rfl rfl rfl rfl ?_
      refine sxl_y (wn_none rfl) rfl rfl (yp rfl) ?_
      refine sxl_nil ?_
      refine qx_seq ?_
      refine sx_true rfl ?_
      refine sx_seq ?_
      refine sx_region ?_
      refine sxl_y (wn_none rfl) rfl rfl (yp rfl) ?_
      refine sxl_nil ?_
      refine qx_seq ?_
      refine sx_ret ?_
      refine qx_then_ret ?_
      refine qx_ret1 rfl rfl ?_
      exact ⟨rfl, rfl⟩
    · have h3 : len ≠ 128 := by omega
      refine sxl_y (wn_none rfl) rfl rfl (yp rfl) ?_
      refine sxl_nil ?_
      refine qx_seq ?_
      refine sx_seq ?_
      refine sx_region ?_
      refine sxl_y (wn_none rfl) rfl rfl (yp rfl) ?_
      refine sxl_y (wn_none rfl) rfl rfl (y_neq_f rfl rfl rfl (by omega)) ?_
      refine sxl_nil ?_
      refine qx_seq ?_
      refine sx_false rfl ?_
      refine sx_skip ?_
      refine qx_seq ?_
      refine sx_seq ?_
      refine sx_seq ?_
      refine sx_region ?_
      refine sxl_y (wn_none rfl) rfl rfl (yp rfl) ?_
      refine sxl_y (wn_none rfl) rfl rfl (y_lss_f rfl rfl rfl (by omega)) ?_
      refine sxl_y (wn_none rfl) rfl rfl (yp rfl) ?_
      refine sxl_y (wn_on rfl rfl rfl) rfl rfl (yp rfl) ?_
      refine sxl_y (wn_on rfl rfl rfl) rfl rfl (yp rfl) ?_
      refine sxl_y (wn_on rfl rfl rfl) rfl rfl (yp rfl) ?_
      refine sxl_y (wn_on rfl rfl rfl) rfl rfl (yp rfl) ?_
      refine sxl_y (wn_on rfl rfl rfl) rfl rfl (y_load rfl rfl (sc rfl) (by assumption)) ?_
      refine sxl_y (wn_on rfl rfl rfl) rfl rfl (y_len rfl rfl (sl rfl)) ?_
      refine sxl_y (wn_on rfl rfl rfl) rfl rfl (y_geq_f rfl rfl rfl (by omega)) ?_
      refine sxl_y (wn_none rfl) rfl rfl (yp rfl) ?_
      refine sxl_y (wn_none rfl) rfl rfl (yp rfl) ?_
      refine sxl_y (wn_on rfl rfl rfl) rfl rfl (yp rfl) ?_
      refine sxl_y (wn_on rfl rfl rfl) rfl rfl (y_len rfl rfl (sl rfl)) ?_
      refine sxl_y (wn_on rfl rfl rfl) rfl rfl (y_neq_t rfl rfl rfl (by omega)) ?_
      refine sxl_y (wn_none rfl) rfl rfl (yp rfl) ?_
      refine sxl_nil ?_
      refine qx_seq ?_
      refine sx_true rfl ?_
      refine sx_seq ?_
      refine sx_region ?_
      refine sxl_y (wn_none rfl) rfl rfl (yp rfl) ?_
      refine sxl_nil ?_
      refine qx_seq ?_
      refine sx_ret ?_
      refine qx_then_ret ?_
      refine qx_ret1 rfl rfl ?_
      exact ⟨rfl, rfl⟩

theorem flatW_snoc (l : List (Nat × List UInt8)) (x : Nat × List UInt8) : flatW (l ++ [x]) = flatW l ++ wcells x := by simp [flatW]
theorem put_two (Z bs : List Value) (x : Value) (h : Z.length = 1 + bs.length) : put (put Z 0 [x]) 1 bs = x :: bs := by
  unfold put
  have : (Z.drop 1).drop bs.length = [] := List.drop_of_length_le (by rw [List.length_drop]; omega)
  simp only [List.take_zero, List.nil_append, List.length_cons, List.length_nil, Nat.zero_add, List.cons_append, List.take_succ_cons]
  rw [show 1 + bs.length = bs.length + 1 by omega, List.drop_succ_cons, this]
  simp
theorem built_write (i : Nat) (b : List UInt8) (hb : b.length = 128) : Try.prog.built 67 [(0, .int .i64 (i : Int)), (1, .agg (bvs b).toArray)] = some (wcells (i, b)).toArray := by
  have h0 : Try.prog.built 67 [(0, .int .i64 (i : Int)), (1, .agg (bvs b).toArray)] = Instr.fill (#[(0, 1), (1, 128)][·]?) (wcells (0, zsec)).toArray [(0, .int .i64 (i : Int)), (1, .agg (bvs b).toArray)] := by kernel_rfl
  have hl : (bvs b).length = 128 := by rw [bvs_length, hb]
  have hz : (wcells (0, zsec)).length = 129 := by
    unfold wcells; rw [List.length_cons, bvs_length, zsec_length]
  generalize wcells (0, zsec) = Z at *
  have hp1 : (put Z 0 [.int .i64 (i : Int)]).length = 129 := by rw [put_length _ _ _ (by simp [hz]), hz]
  rw [h0, fill_cons _ _ 0 0 _ [.int .i64 (i : Int)] _ rfl rfl (by simp [hz]), fill_cons _ _ 1 1 _ (bvs b) _ rfl (by rw [hl]; rfl) (by rw [hp1, hl]; decide), put_two Z (bvs b) _ (by omega)]
  rfl
theorem Rd.some {w : World} {A : Option Addr} {n : Nat} {xs : List Value} (h : Rd w A n xs) (hn : 0 < n) : ∃ b off, A = .some ⟨b, off, none⟩ := by
  obtain ⟨b, off, e, _⟩ := h.2 hn
  exact ⟨b, off, e⟩
theorem own_cells {w : World} {base size n : Nat} {e : TypeId} {v : Value} {xs : List Value} (h : w.ownsRow base e size v n xs) : v.cells = #[v] := by
  rcases h.2 with ⟨rfl, _⟩ | ⟨g, cap, cur, rfl, _⟩ <;> rfl
theorem own_one {w : World} {base size n : Nat} {e : TypeId} {v : Value} {xs : List Value} (h : w.ownsRow base e size v n xs) : v.oneCell' = true := by
  rcases h.2 with ⟨rfl, _⟩ | ⟨g, cap, cur, rfl, _⟩ <;> rfl
set_option maxHeartbeats 4000000 in
/-- From behind 'burns' on. -/
theorem write_ok (i : Nat) (b : List UInt8) (A : Option Addr) (cap : Nat) (w : World) (L : DL) (s : DS) (h : DkAt w L s) (hd : s.dead = false) (hi : i < s.lasts.length) (hb : b.length = 128) (hr : Rd w A 128 (bvs b))
    (hnb : ∀ g off, A = some ⟨g, off, none⟩ → ¬ L.blocks g) (hwm : s.waits.length ≤ 1073741824) (hdm : s.done ≤ 1073741824) :
    Calls Try.prog 9 #[.pointer (some ⟨L.gd, 0, none⟩), .int .i64 (i : Int), .slice A 128 cap] w fun e w' => ∃ L', e = .returned (.int .i64 (s.writes i b).2) ∧ DkTo w w' L L' (s.writes i b).1 := by
  obtain ⟨ab, aoff, rfl⟩ := hr.some (by omega)
  have hnb := hnb ab aoff rfl
  obtain ⟨lA, lc, evl, hlc, _, _⟩ := ownN_form h.hl
  have c0 : Cell w.heap L.gd 0 (.slice lA s.lasts.length lc) := h.hd.c 0 (by rw [← evl]; rfl)
  refine sx_enter (vs := [_, _, _]) Try.func9 rfl Try.ntmps9 rfl ?_
  refine sx_seq ?_
  refine sx_region ?_
  refine sxl_y (wn_none rfl) rfl rfl (yp rfl) ?_
  refine sxl_nil ?_
  refine qx_seq ?_
  refine sx_seq ?_
  refine sx_seq ?_
  refine sx_region ?_
  refine sxl_y (wn_none rfl) rfl rfl (yp rfl) ?_
  refine sxl_call (some 10) (wn_none rfl) rfl rfl (yc_call rfl rfl Try.call25) (alive_ok w L s h hd) ?_
  rintro _ _ ⟨rfl, rfl⟩
  refine ⟨_, rfl, ?_⟩
  refine sxl_y (wn_none rfl) rfl rfl (yp rfl) ?_
  refine sxl_nil ?_
  refine qx_seq ?_
  refine sx_seq ?_
  refine sx_region ?_
  refine sxl_y (wn_none rfl) rfl rfl (yp rfl) ?_
  refine sxl_y (wn_none rfl) rfl rfl (y_neq_f rfl rfl rfl (by omega)) ?_
  refine sxl_nil ?_
  refine qx_seq ?_
  refine sx_false rfl ?_
  refine sx_skip ?_
  refine qx_seq ?_
  refine sx_seq ?_
  refine sx_seq ?_
  refine sx_region ?_
  refine sxl_y (wn_none rfl) rfl rfl (yp rfl) ?_
  refine sxl_y (wn_none rfl) rfl rfl (y_lss_f rfl rfl rfl (by omega)) ?_
  refine sxl_y (wn_none rfl) rfl rfl (yp rfl) ?_
  refine sxl_y (wn_on rfl rfl rfl) rfl rfl (yp rfl) ?_
  refine sxl_y (wn_on rfl rfl rfl) rfl rfl (yp rfl) ?_
  refine sxl_y (wn_on rfl rfl rfl) rfl rfl (yp rfl) ?_
  refine sxl_y (wn_on rfl rfl rfl) rfl rfl (yp rfl) ?_
  refine sxl_y (wn_on rfl rfl rfl) rfl rfl (y_load rfl rfl (sc rfl) (by assumption)) ?_
  refine sxl_y (wn_on rfl rfl rfl) rfl rfl (y_len rfl rfl (sl rfl)) ?_
  refine sxl_y (wn_on rfl rfl rfl) rfl rfl (y_geq_f rfl rfl rfl (by omega)) ?_
  refine sxl_y (wn_none rfl) rfl rfl (yp rfl) ?_
  refine sxl_y (wn_none rfl) rfl rfl (yp rfl) ?_
  refine sxl_y (wn_on rfl rfl rfl) rfl rfl (yp rfl) ?_
  refine sxl_y (wn_on rfl rfl rfl) rfl rfl (y_len rfl rfl (sl rfl)) ?_
  refine sxl_y (wn_on rfl rfl rfl) rfl rfl (y_neq_f rfl rfl rfl (by omega)) ?_
  refine sxl_y (wn_none rfl) rfl rfl (yp rfl) ?_
  refine sxl_nil ?_
  refine qx_seq ?_
  refine sx_false rfl ?_
  refine sx_skip ?_
  refine qx_seq ?_
  refine sx_seq ?_
  refine sx_region ?_
  refine sxl_y (wn_none rfl) rfl rfl (yp rfl) ?_
  refine sxl_call (some 31) (wn_none rfl) rfl rfl (yc_call rfl rfl Try.call26) (burns_any w L s h) ?_
  rintro _ w1 ⟨rfl, h1⟩
  refine ⟨_, rfl, ?_⟩
  have hd1 := h1.dk
  have hr1 := hr.fr h1.fr (fun _ b' o' e => by injection e with e; injection e with e1 _ _; subst e1; exact hnb)
  have hsl : s.burnt.lasts = s.lasts := by unfold DS.burnt; split <;> rfl
  have hsw : s.burnt.waits = s.waits := by unfold DS.burnt; split <;> rfl
  have hss : s.burnt.shows = s.shows := by unfold DS.burnt; split <;> rfl
  have hsd : s.burnt.done = s.done := by unfold DS.burnt; split <;> rfl
  generalize hs1 : s.burnt = s1 at *
  obtain ⟨vA, vc, evw, hvc, _, _⟩ := ownN_form hd1.hw
  have c2 : Cell w1.heap L.gd 2 (.slice vA s1.waits.length vc) := hd1.hd.c 2 (by rw [← evw]; rfl)
  refine sxl_y (wn_none rfl) rfl rfl (yp rfl) ?_
  refine sxl_nil ?_
  refine qx_seq ?_
  refine sx_seq ?_
  refine sx_any 12 (fun w' => Cell w'.heap L.gd 2 (.slice vA s1.waits.length vc) ∧ Rd w' (some ⟨ab, aoff, none⟩) 128 (bvs b)) hmix ?_
  have HS : Cell w1.drew.heap L.gd 2 (.slice vA s1.waits.length vc) ∧ Rd w1.drew (some ⟨ab, aoff, none⟩) 128 (bvs b) := ⟨c2, hr1⟩
  refine sxo_y 0 10 (by kernel_rfl) (fun c a t v w h => by cases t <;> exact h) (by kernel_rfl) rfl (by kernel_rfl) (by kernel_rfl) rfl (wn_none rfl) rfl rfl HS (fun w' hS' => yp rfl) ?_
  refine sxo_y 1 10 (by kernel_rfl) (fun c a t v w h => by cases t <;> exact h) (by kernel_rfl) rfl (by kernel_rfl) (by kernel_rfl) rfl (wn_none rfl) rfl rfl HS (fun w' hS' => yp rfl) ?_
  refine sxo_y 2 10 (by kernel_rfl) (fun c a t v w h => by cases t <;> exact h) (by kernel_rfl) rfl (by kernel_rfl) (by kernel_rfl) rfl (wn_none rfl) rfl rfl HS (fun w' hS' => yp rfl) ?_
  refine sxo_y 3 10 (by kernel_rfl) (fun c a t v w h => by cases t <;> exact h) (by kernel_rfl) rfl (by kernel_rfl) (by kernel_rfl) rfl (wn_none rfl) rfl rfl HS (fun w' hS' => yp rfl) ?_
  refine sxo_y 4 10 (by kernel_rfl) (fun c a t v w h => by cases t <;> exact h) (by kernel_rfl) rfl (by kernel_rfl) (by kernel_rfl) rfl (wn_none rfl) rfl rfl HS (fun w' hS' => y_load rfl rfl (sc rfl) (by obtain ⟨s1, s2⟩ := hS'; assumption)) ?_
  refine sxo_y 5 10 (by kernel_rfl) (fun c a t v w h => by cases t <;> exact h) (by kernel_rfl) rfl (by kernel_rfl) (by kernel_rfl) rfl (wn_none rfl) rfl rfl HS (fun w' hS' => yp rfl) ?_
  refine sxo_y 6 10 (by kernel_rfl) (fun c a t v w h => by cases t <;> exact h) (by kernel_rfl) rfl (by kernel_rfl) (by kernel_rfl) rfl (wn_none rfl) rfl rfl HS (fun w' hS' => yp rfl) ?_
  refine sxo_y 7 10 (by kernel_rfl) (fun c a t v w h => by cases t <;> exact h) (by kernel_rfl) rfl (by kernel_rfl) (by kernel_rfl) rfl (wn_none rfl) rfl rfl HS (fun w' hS' => y_arrayAt rfl rfl (ar rfl) (by omega)) ?_
  refine sxo_y 8 10 (by kernel_rfl) (fun c a t v w h => by cases t <;> exact h) (by kernel_rfl) rfl (by kernel_rfl) (by kernel_rfl) rfl (wn_none rfl) rfl rfl HS (fun w' hS' => y_loadRd rfl rfl hS'.2 Try.underlying65 rfl size_sec) ?_
  refine sxo_y 9 10 (by kernel_rfl) (fun c a t v w h => by cases t <;> exact h) (by kernel_rfl) rfl (by kernel_rfl) (by kernel_rfl) rfl (wn_none rfl) rfl rfl HS (fun w' hS' => y_build rfl rfl (built_write i b hb)) ?_
  have hwb : (wcells (i, b)).length = 129 := by unfold wcells; rw [List.length_cons, bvs_length, hb]
  refine sxo_does 10 (some 42) (by kernel_rfl) rfl (wn_none rfl) rfl rfl (fun ρ hρ => does_slice (size := 129) [.agg (wcells (i, b)).toArray] (.agg (wcells (0, zsec)).toArray) hρ rfl rfl rfl rfl Try.underlying59 (by kernel_rfl) (by decide) (by decide) (by intro v hv; obtain rfl : v = _ := (by simpa using hv); simp [Value.cells, hwb])) ?_
  rintro _ w2 ⟨g2, rfl, hg2, hg2', hb2, hf2⟩
  have hb2 : Blk w2 g2 67 (wcells (i, b)) := by simpa [Value.cells] using hb2
  refine ⟨fun _ => ⟨c2.fr hf2.ofDrew (fun hh => hh), hr1.fr0 hf2.ofDrew⟩, ?_⟩
  have hd2 := hd1.fr0 hf2.ofDrew
  have hlw := flatW_length (fun y hy => (hd1.wf.aw y hy).2)
  refine sxo_does 11 (some 43) (by kernel_rfl) rfl (wn_none rfl) rfl rfl (fun ρ hρ => does_appendN (.tmp 36) (.tmp 42) 59 rfl 0 67 _ 129 136 Try.underlying59 write_info (by kernel_rfl) (by omega) L.vw s1.waits.length (flatW s1.waits) (by rw [hρ _ _ rfl, evw]) hd2.hw (some ⟨g2, 0, none⟩) 1 1 (wcells (i, b)) (hρ _ _ rfl)
    (by have := Rd.of_blk hb2 0 (n := 129) (by omega); rwa [List.drop_zero, List.take_of_length_le (by omega)] at this) (wcells_one _) (by unfold maxLen; rw [hsw]; omega) (by rw [hsw]; omega) (Nat.zero_le _)) ?_
  rintro v3 w3 ⟨ho3, hg3, hv3⟩
  have hf3 : Fr (fun k => L.vw.ownBlock = some k) w2 w3 := Fr.grown (S := fun k => L.vw.ownBlock = some k) Fr.refl hg3 (fun k e _ => e)
  have hrr : Rd w3 (some ⟨ab, aoff, none⟩) 128 (bvs b) := (hr1.fr0 hf2.ofDrew).fr hf3 (fun _ b' o' e e' => by injection e with e; injection e with e1 _ _; subst e1; exact hnb (.inr (.inr (.inr e'))))
  refine ⟨fun _ => ⟨(c2.fr hf2.ofDrew (fun hh => hh)).fr hf3 (fun e => hd1.w_gd e rfl), hrr⟩, ?_⟩
  refine sxo_seq 12 (by kernel_rfl) rfl rfl (by kernel_rfl) ?_
  refine sxl_y (wn_none rfl) rfl rfl (yp rfl) ?_
  refine sxl_y (wn_none rfl) rfl rfl (yp rfl) ?_
  have hd3 := hd2.hd.fr hf3 (fun e => hd1.w_gd e rfl)
  refine sxl_does none (wn_none rfl) rfl rfl (fun ρ hρ => does_store1 59 (.tmp 45) (.tmp 43) rfl L.gd 2 63 _ v3 (hρ _ _ rfl) (hρ _ _ rfl) (own_cells ho3) hd3 (by kernel_rfl) (by simp [DS.cells]) (own_one ho3)) ?_
  rintro _ w4 ⟨rfl, hb4, hf4⟩
  obtain ⟨gs, cs, rs, evs, _, hcs, hcsm, hbs, hls⟩ := ownN_blk hd1.hs hd1.wf.pos
  have hgs : L.vs.ownBlock = some gs := by rw [evs]; rfl
  have hgsd := hd1.s_gd hgs
  have hgsw : ¬ L.vw.ownBlock = some gs := fun e => hd1.w_s e hgs rfl
  have c1 : Cell w4.heap L.gd 1 (.slice (some ⟨gs, 0, none⟩) s1.lasts.length cs) := hb4.c 1 (by rw [← evs]; rfl)
  have hr4 := hrr.fr hf4 (fun _ b' o' e e' => by injection e with e; injection e with e1 _ _; subst e1; exact hnb (.inl e'))
  have hbs4 := ((hbs.fr0 hf2.ofDrew).fr hf3 hgsw).fr hf4 hgsd
  have hfs := flatB_length hd1.wf.ash
  rw [hd1.wf.sl] at hfs
  rw [← hsl] at hi
  have hi1 : (i + 1) * 128 ≤ s1.lasts.length * 128 := Nat.mul_le_mul_right _ hi
  refine sxl_nil ?_
  refine qx_seq ?_
  refine sx_seq ?_
  refine sx_tail 9 hmix (by kernel_rfl) ?_
  refine sxs_y (wn_none rfl) rfl rfl (yp rfl) ?_
  refine sxs_y (wn_none rfl) rfl rfl (yp rfl) ?_
  refine sxs_y (wn_none rfl) rfl rfl (yp rfl) ?_
  refine sxs_y (wn_none rfl) rfl rfl (y_load rfl rfl (sc rfl) (by assumption)) ?_
  refine sxs_y (wn_none rfl) rfl rfl (yp rfl) ?_
  refine sxs_y (wn_none rfl) rfl rfl (yp rfl) ?_
  refine sxs_y (wn_none rfl) rfl rfl (y_arrayAt rfl rfl (ar rfl) (by omega)) ?_
  refine sxs_y (wn_none rfl) rfl rfl (y_loadRd rfl rfl hr4.drew Try.underlying65 rfl size_sec) ?_
  refine sxs_y (wn_none rfl) rfl rfl (y_indexN rfl rfl rfl (sl rfl) (by omega)) ?_
  refine sxs_tail ?_
  refine sxl_does none (wn_none rfl) rfl rfl (fun ρ hρ => does_store 65 (.tmp 54) (.tmp 53) rfl gs (i * 128) 65 (flatB s1.shows ++ rs) (bvs b) (by rw [hρ _ _ rfl, Nat.zero_add]) (hρ _ _ rfl) hbs4.drew (by rw [bvs_length, hb]; exact size_sec) (by rw [List.length_append, hfs, bvs_length, hb]; omega) (bvs_one _)) ?_
  rintro _ w5 ⟨rfl, hb5, hf5⟩
  rw [put_front _ _ _ _ (by rw [bvs_length, hb, hfs]; omega), flatB_put hd1.wf.ash (by rw [hd1.wf.sl]; exact hi) _ hb] at hb5
  have hf5 := hf5.ofDrew
  have hv3' : ∀ k, v3.ownBlock = some k → L.vw.ownBlock = some k ∨ w2.heap.size ≤ k := fun k e => by
    rcases hv3 with h' | h'
    · left; rw [← h']; exact e
    · right; rw [h'] at e; injection e with e; omega
  have hz2 := hf2.ofDrew.size
  have hgdl := hd1.hd.lt
  have hgsl := hbs.lt
  have hf15 : Fr (fun k => L.vw.ownBlock = some k ∨ k = L.gd ∨ k = gs) w1 w5 :=
    (((Fr.of0 hf2.ofDrew).step hf3 (fun _ _ e => .inl e)).step hf4 (fun _ _ e => .inr (.inl e))).step hf5 (fun _ _ e => .inr (.inr e))
  have hto : DkTo w w5 L { L with vw := v3 } (s1.put i b) := by
    refine h1.trans ⟨⟨DS.put_wf hd1.wf hi hb, ?_, ?_, ?_, ?_, ?_, hd1.ne, ?_⟩, rfl, hf15.mono ?_, ?_, rfl⟩
    · exact hb4.fr hf5 (fun e => hgsd e.symm)
    · exact ownN_fr hd1.hl hf15 (fun k hk e => by
        rcases e with e | e | e
        · exact hd1.w_l e hk rfl
        · exact hd1.l_gd hk e
        · exact hd1.l_s hk hgs e)
    · show w5.ownsRow 0 65 128 L.vs s1.lasts.length (flatB (s1.shows.set i b))
      rw [evs]
      exact ownN_of_blk hb5 (Nat.zero_le _) hcs hcsm (by rw [← hls, List.length_append, List.length_append, flatB_length (hd1.wf.ash.set i hb), List.length_set, hfs, hd1.wf.sl]) (by rw [flatB_length (hd1.wf.ash.set i hb), List.length_set, hd1.wf.sl])
    · have e1 : (s1.put i b).waits.length = s1.waits.length + 1 := by simp [DS.put]
      have e2 : flatW (s1.put i b).waits = flatW s1.waits ++ wcells (i, b) := flatW_snoc _ _
      rw [e1, e2]
      refine ownN_fr (ownN_fr ho3 hf4 (fun k hk e => ?_)) hf5 (fun k hk e => ?_)
      · rcases hv3' k hk with e' | e'
        · exact hd1.w_gd e' e
        · omega
      · rcases hv3' k hk with e' | e'
        · exact hd1.w_s e' hgs e
        · omega
    · exact hd1.hk.fr hf15 (fun hp b' off e e' => hd1.kn hp b' off e (by
        rcases e' with e' | e' | e'
        · exact .inr (.inr (.inr e'))
        · exact .inl e'
        · subst e'; exact .inr (.inr (.inl hgs))))
    · intro hp b' off e hbl
      rcases hbl with hbl | hbl | hbl | hbl
      · exact hd1.kn hp b' off e (.inl hbl)
      · exact hd1.kn hp b' off e (.inr (.inl hbl))
      · exact hd1.kn hp b' off e (.inr (.inr (.inl hbl)))
      · rcases hv3' b' hbl with e' | e'
        · exact hd1.kn hp b' off e (.inr (.inr (.inr e')))
        · have := hd1.hk.lt hp b' off e; omega
    · intro k _ e
      rcases e with e | e | e
      · exact .inr (.inr (.inr e))
      · exact .inl e
      · subst e; exact .inr (.inr (.inl hgs))
    · intro k hk
      rcases hk with hk | hk | hk | hk
      · exact .inl (.inl hk)
      · exact .inl (.inr (.inl hk))
      · exact .inl (.inr (.inr (.inl hk)))
      · rcases hv3' k hk with e' | e'
        · exact .inl (.inr (.inr (.inr e')))
        · right; omega
  clear hb5 hb4 hbs4 hr4 hrr ho3 hd3 hd2 hb2 c1 c2 hbs hls hd1 hf15
  have hd5 := hto.dk
  by_cases hdue : s.due = true
  · rw [hdue]
    obtain rfl : s = s1 := by rw [← hs1, DS.burnt_due hdue]
    refine sxl_nil ?_
    refine qx_seq ?_
    refine sx_seq ?_
    refine sx_seq ?_
    refine sx_region ?_
    refine sxl_y (wn_none rfl) rfl rfl (yp rfl) ?_
    refine sxl_nil ?_
    refine qx_seq ?_
    refine sx_true rfl ?_
    refine sx_seq ?_
    refine sx_region ?_
    refine sxl_y (wn_none rfl) rfl rfl (yp rfl) ?_
    refine sxl_y (wn_none rfl) rfl rfl (yp rfl) ?_
    refine sxl_y (wn_none rfl) rfl rfl (yp rfl) ?_
    refine sxl_y (wn_none rfl) rfl rfl (yp rfl) ?_
    refine sxl_y (wn_none rfl) rfl rfl (yp rfl) ?_
    refine sxl_y (wn_none rfl) rfl rfl (y_loadB rfl rfl hd5.hd Try.underlying25 rfl plan_size (by simp [DS.cells])) ?_
    refine sxl_call (some 62) (wn_none rfl) rfl rfl (yc_call rfl rfl Try.call27) (crash_any w5 { L with vw := v3 } (s.put i b) hd5 L.kA L.kc s.keep s.torn s.cut hd5.hk hd5.kn hd5.wf.cut) ?_
    rintro _ w6 ⟨rfl, h6, hf6⟩
    refine ⟨_, rfl, ?_⟩
    refine sxl_nil ?_
    refine qx_seq ?_
    refine sx_seq ?_
    refine sx_region ?_
    refine sxl_y (wn_none rfl) rfl rfl (yp rfl) ?_
    refine sxl_nil ?_
    refine qx_seq ?_
    refine sx_ret ?_
    refine qx_then_ret ?_
    refine qx_ret1 rfl rfl ?_
    have e : s.writes i b = ((s.put i b).crash s.keep s.torn s.cut, 20) := by unfold DS.writes; rw [if_pos hdue, DS.burnt_due hdue]
    rw [e]
    exact ⟨_, rfl, hto.crash h6 hf6⟩
  · have hdue : s.due = false := by simpa using hdue
    rw [hdue]
    have c3 : Cell w5.heap L.gd 3 (.int .i64 (s1.done : Int)) := hd5.hd.c 3 rfl
    have hdm1 : s1.done ≤ 1073741824 := by omega
    refine sxl_nil ?_
    refine qx_seq ?_
    refine sx_seq ?_
    refine sx_seq ?_
    refine sx_region ?_
    refine sxl_y (wn_none rfl) rfl rfl (yp rfl) ?_
    refine sxl_nil ?_
    refine qx_seq ?_
    refine sx_false rfl ?_
    refine sx_skip ?_
    refine qx_seq ?_
    refine sx_seq ?_
    refine sx_region ?_
    refine sxl_y (wn_none rfl) rfl rfl (yp rfl) ?_
    refine sxl_y (wn_none rfl) rfl rfl (yp rfl) ?_
    refine sxl_y (wn_none rfl) rfl rfl (yp rfl) ?_
    refine sxl_y (wn_none rfl) rfl rfl (y_load rfl rfl (sc rfl) (by assumption)) ?_
    refine sxl_y (wn_none rfl) rfl rfl (y_add rfl rfl rfl (by omega)) ?_
    refine sxl_y (wn_none rfl) rfl rfl (yp rfl) ?_
    refine sxl_y (wn_none rfl) rfl rfl (yp rfl) ?_
    refine sxl_does none (wn_none rfl) rfl rfl (fun ρ hρ => does_store1 3 (.tmp 69) (.tmp 67) rfl L.gd 3 63 _ (.int .i64 ((s1.done + 1 : Nat) : Int)) (hρ _ _ rfl) (hρ _ _ rfl) rfl hd5.hd (by kernel_rfl) (by simp [DS.cells]) rfl) ?_
    rintro _ w6 ⟨rfl, hb6, hf6⟩
    refine sxl_nil ?_
    refine qx_seq ?_
    refine sx_seq ?_
    refine sx_region ?_
    refine sxl_y (wn_none rfl) rfl rfl (yp rfl) ?_
    refine sxl_nil ?_
    refine qx_seq ?_
    refine sx_ret ?_
    refine qx_ret1 rfl rfl ?_
    have e : s.writes i b = ((s1.put i b).more, 0) := by unfold DS.writes; rw [if_neg (by simp [hdue]), hs1]
    rw [e]
    exact ⟨_, rfl, hto.trans (hd5.upd (DS.more_wf hd5.wf) hb6 hf6 rfl rfl rfl rfl)⟩
end Go.Proofs.Ytbfeailalhddgaa
