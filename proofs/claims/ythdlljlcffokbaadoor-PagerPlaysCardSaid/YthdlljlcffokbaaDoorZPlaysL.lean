/- The law PagerPlays, walked. No condition. -/
import Derived.Test.YthdlljlcffokbaaDoorZRf8
import Derived.Test.YthdlljlcffokbaaDoorZb8
namespace Go.Proofs.YthdlljlcffokbaaDoor
open Go.RowKit

/-- A step that came in. -/
structure Stp where
  kd : Int
  n : Int
  dt : List UInt8
  A : Option Addr
  c : Nat
  l : List Int
def Stp.row (t : Stp) : List Value := [.int .i64 t.kd, .int .i64 t.n, str t.dt, .slice t.A t.l.length t.c]
def stps (l : List Stp) : List Value := (l.map Stp.row).flatten
theorem all_stp (l : List Stp) : All 4 (l.map Stp.row) := by
  intro r hr
  obtain ⟨t, _, rfl⟩ := List.mem_map.1 hr
  rfl
theorem stp_rd {w : World} {A : Option Addr} {l : List Stp} {i : Nat} {t : Stp} (h : Rd w A (l.length * 4) (stps l)) (hi : l[i]? = some t) : ∃ b off, A = some ⟨b, off, none⟩ ∧ Rd w (some ⟨b, off + i * 4, none⟩) 4 t.row := by
  have hk' : (l.map Stp.row)[i]? = some t.row := by rw [List.getElem?_map, hi]; rfl
  have hl := (List.getElem?_eq_some_iff.1 hi).1
  obtain ⟨b, off, rfl, hc⟩ := h.2 (by omega)
  refine ⟨b, off, rfl, rfl, fun _ => ⟨b, off + i * 4, rfl, fun j u hu => ?_⟩⟩
  have hj : j < 4 := by have := (List.getElem?_eq_some_iff.1 hu).1; simpa [Stp.row] using this
  have hf := flat_at (all_stp l) hk'
  rw [← hf, List.getElem?_take_of_lt hj, List.getElem?_drop] at hu
  rw [Nat.add_assoc]
  exact hc _ u hu
theorem rd_cell {w : World} {b off n : Nat} {xs : List Value} (h : Rd w (some ⟨b, off, none⟩) n xs) {j : Nat} {v : Value} (hj : xs[j]? = some v) : Cell w.heap b (off + j) v := by
  have hn : 0 < n := by rw [← h.1]; have := (List.getElem?_eq_some_iff.1 hj).1; omega
  obtain ⟨b', off', e, hc⟩ := h.2 hn
  injection e with e; injection e with e1 e2 _; subst e1; subst e2
  exact Cell.of (hc j v hj)
theorem wrapV (a : Int) : ∃ U : Nat, IntKind.u64.wrap a = (U : Int) ∧ U < 18446744073709551616 :=
  ⟨(IntKind.u64.wrap a).toNat, by rw [IntKind.wrap_u64]; omega, by rw [IntKind.wrap_u64]; omega⟩
theorem step_size : (Tryd.prog.info? 66).map (·.size) = some 4 := by kernel_rfl
theorem step_zero : (Tryd.prog.info? 66).map (·.zero) = some (some (.agg #[.int .i64 0, .int .i64 0, str [], .slice none 0 0])) := by kernel_rfl
section
variable {w0 w w' : World} {Q : PL} {p : PS} {s : DS} {R : RP} {x : RX} {N B : Nat}
theorem do_any (h : Pw w0 w Q p s R x) (sm : Sm N B p s x) (hB : B < 100) (kd : Int) (h3 : kd ≠ 3) (n : Int) (dt : List UInt8) (A : Option Addr) (c : Nat) (l : List Int) (hdl : dt.length ≤ 2000) (hr : Rd w A l.length (iv l)) (hl : l.length ≤ 100) (hold : 0 < l.length → ∀ b off, A = some ⟨b, off, none⟩ → ¬ (Q.blocks b ∨ R.blocks b)) :
    Calls Tryd.prog 28 #[.agg #[.int .i64 kd, .int .i64 n, str dt, .slice A l.length c], .pointer (some ⟨Q.L.gd, 0, none⟩), .pointer (some ⟨Q.gp, 0, none⟩), .pointer (some ⟨R.gp, 0, none⟩)] w fun e w' => DoA w0 w' N B Q R e := by
  by_cases z0 : kd = 0
  · subst z0; exact do_0 h sm hB n dt A c l
  by_cases z1 : kd = 1
  · subst z1; exact do_1 h sm hB n dt A c l hdl
  by_cases z2 : kd = 2
  · subst z2; exact do_2 h sm hB n dt A c l
  by_cases z4 : kd = 4
  · subst z4; exact do_4 h sm hB n dt A c l
  by_cases z5 : kd = 5
  · subst z5; exact do_5 h sm hB n dt A c l
  by_cases z6 : kd = 6
  · subst z6; exact do_6 h sm hB n dt A c l hr hl hold
  by_cases z7 : kd = 7
  · subst z7; exact do_7 h sm hB n dt A c l
  exact do_8 h sm hB kd z0 z1 z2 z4 z5 z6 z7 n dt A c l
/-- Both commit. -/
theorem commit_both (sm : Sm N B p s x) (hB : B < 100) (n : Int) : ∃ (p' : PS) (s' : DS) (x' : RX) (cd : Int),
    (∀ W, PgAt W Q p s → Calls Tryd.prog 16 #[.pointer (some ⟨Q.gp, 0, none⟩), .int .i64 n] W fun e W' => ∃ Q', e = .returned (.int .i64 cd) ∧ PgTo W W' Q Q' p' s') ∧
    (∀ W, RfAt W R x → Calls Tryd.prog 26 #[.pointer (some ⟨R.gp, 0, none⟩), .int .i64 n] W fun e W' => ∃ st', e = .returned (.int .i64 cd) ∧ RfTo W W' R { x' with st := st' } ∧ Sm N (B + 1) p' s' { x' with st := st' }) ∧ s'.keep = [] ∧ (cd = 0 → s'.waits = []) := by
  have h22 := sm.n22
  have hn3 := sm.n3
  have hxl := sm.xlen
  have hpc := sm.pages
  obtain ⟨q, hq, hqb⟩ := sm.sq
  have hat : p.at_ s n = if n < 2 ∨ (N : Int) ≤ n then (0, 1) else (p.st n, 0) := by
    unfold PS.at_
    rw [sm.gone, if_neg (show ¬ (false = true) by decide), sm.pages]
  by_cases hok : n = 0 ∨ (2 ≤ n ∧ n < N ∧ (p.st n = 1 ∨ p.st n = 3))
  · obtain ⟨k, rfl⟩ : ∃ k : Nat, n = (k : Int) := ⟨n.toNat, by omega⟩
    have hroot : RootOk N k := by
      rcases hok with e | ⟨h1, h2, _⟩
      · exact .inl (by omega)
      · exact .inr ⟨by omega, by omega⟩
    have hsq : p.seq = (q : Int) := by rw [sm.seq, hq]
    have hcom := fun (st' : List Int) (ht : Turned 1 0 x.st st') => sm.commit hB hq hroot ht
    have hlen0 : Turned 1 0 x.st (x.st.map (turnOf 1 0)) := ⟨List.length_map .., fun i h1 h2 => by
      rw [lst_nat, lst_nat, List.getElem?_map]
      cases x.st[i]? with
      | none => exact (turnOf_zero 1 0).symm
      | some v => rfl⟩
    obtain ⟨c1, c2, _⟩ := hcom _ hlen0
    refine ⟨p.commit k, _, { x.meta ((q + 1) % 2) ((q + 1 : Nat) : Int) (k : Int) with seq := ((q + 1 : Nat) : Int), root := (k : Int) }, 0, fun W hW => ?_, fun W hW => ?_, (hcom _ hlen0).2.2.keep, fun _ => c2⟩
    · have := commit_ok hW q k sm.gone hsq (by have := sm.b; omega) (by
        rcases hok with e | ⟨h1, h2, h3⟩
        · exact .inl (by omega)
        · refine .inr ⟨by rw [hat, if_neg (by omega)], h3⟩) sm.room (by omega) (by have := sm.done; have := sm.b; omega)
      rw [c1, if_pos rfl, if_pos rfl] at this
      exact this
    · refine (rcommit_ok hW q k hq (by have := sm.b; omega) (by omega) (by omega) (by
        rcases hok with e | ⟨h1, h2, h3⟩
        · exact .inl (by omega)
        · refine .inr ⟨by omega, by omega, ?_⟩
          rw [← sm.st k (by omega) (by omega)]; exact h3)).mono fun e W' ⟨st', he, ht, hto⟩ => ⟨st', he, hto, (hcom st' ht).2.2⟩
  · have h0 : n ≠ 0 := fun e => hok (.inl e)
    have hno : (n < 2 ∨ (N : Int) ≤ n) ∨ (p.st n ≠ 1 ∧ p.st n ≠ 3) := by
      by_cases hr : n < 2 ∨ (N : Int) ≤ n
      · exact .inl hr
      · right
        constructor
        · intro e; exact hok (.inr ⟨by omega, by omega, .inl e⟩)
        · intro e; exact hok (.inr ⟨by omega, by omega, .inr e⟩)
    refine ⟨p, s, x, if n < 2 ∨ (N : Int) ≤ n then 1 else 250, fun W hW => ?_, fun W hW => ?_, sm.keep, fun e => by split at e <;> cases e⟩
    · have := commit_no hW n sm.gone h0 (by
        rcases hno with h | h
        · left; rw [hat, if_pos h]; decide
        · exact .inr h)
      have hcd : (if (p.at_ s n).2 ≠ 0 then (p.at_ s n).2 else 250) = if n < 2 ∨ (N : Int) ≤ n then 1 else 250 := by
        rw [hat]
        by_cases hr : n < 2 ∨ (N : Int) ≤ n
        · rw [if_pos hr, if_pos hr, if_pos (by decide)]
        · rw [if_neg hr, if_neg hr, if_neg (show ¬ (0 : Int) ≠ 0 by decide)]
      rw [hcd] at this
      exact this.mono fun e W' ⟨he, hw⟩ => ⟨Q, he, by subst hw; exact .refl hW Fr.refl⟩
    · have := rcommit_no hW n h0 (by
        rw [hxl]
        rcases hno with h | ⟨h1, h2⟩
        · exact .inl h
        · by_cases hr : n < 2 ∨ (N : Int) ≤ n
          · exact .inl hr
          · right
            obtain ⟨k, rfl⟩ : ∃ k : Nat, n = (k : Int) := ⟨n.toNat, by omega⟩
            rw [← sm.st k (by omega) (by omega)]; exact ⟨h1, h2⟩)
      rw [hxl] at this
      exact this.mono fun e W' ⟨he, hw⟩ => ⟨x.st, he, by subst hw; exact .refl hW, sm.mono (Nat.le_succ _) hB⟩
end
theorem fresh_page {n m : Nat} (h : m * 4 + 4 ≤ n) : PgIs (newDS n).shows m zpage := fun k hk => by
  show (List.replicate n zsec)[m * 4 + k]? = _
  rw [List.getElem?_replicate, if_pos (by omega)]
  congr 1
  unfold sec zpage zsec
  rw [List.drop_replicate, List.take_replicate]
  congr 1; omega
theorem fresh_best {n : Nat} (h : 12 ≤ n) (_h2 : n ≤ 90) : ((newDS n).best 2).1 < 0 := by
  have m : ∀ k, k < 2 → (newDS n).metaA k = (-1, 0) := fun k hk => by
    unfold DS.metaA
    rw [DS.page_of (fresh_page (by omega)) (by unfold zpage; exact List.length_replicate), decA_no (zpage_no (by omega))]
    unfold metaOf
    rw [if_pos (.inl (by decide))]
  rw [best2, m 0 (by decide), m 1 (by decide)]
  decide
theorem fresh_sm {n : Nat} (h : 12 ≤ n) (h2 : n ≤ 90) : Sm (n / 4) 1 ⟨(newDS n).lasts.length / 4, 1, 0, fun _ => 0, false⟩ (newDS n).fmt ⟨fun _ => none, 1, 0, 0, 0, 1, 0, List.replicate (n / 4) 0⟩ := by
  have hl : (newDS n).lasts.length = n := by simp [newDS]
  have hls : (newDS n).shows.length = n := by simp [newDS]
  obtain ⟨f1, f2, f3, f4, f5, f6, f7, f8, f9, f10, f11⟩ := fmt_facts (s := newDS n) rfl rfl rfl (by rw [hls]; exact h)
  have hll : (newDS n).fmt.lasts.length = n := by rw [f5, f6, hls]
  exact {
    n3 := by omega, n22 := by omega, pages := by rw [hl], dead := rfl, ddead := f1, fset := f2, keep := f3, syn := f4
    ln := by rw [hll]
    lens := by rw [f5]
    xlen := List.length_replicate
    seq := rfl, root := rfl
    st := fun k h1 h2 => by
      show (0 : Int) = lst (List.replicate (n / 4) 0) (k : Int)
      rw [lst_nat, List.getElem?_replicate]; split <;> rfl
    out := fun _ _ => rfl
    ms := ⟨1, 0, 0, 0, rfl, rfl, rfl, rfl, by decide, by decide, .inl rfl, .inl rfl, f9, f10⟩
    wr := fun m h1 h2 => .inr ⟨rfl, f11 h1 (fresh_page (by omega))⟩
    sq := ⟨1, rfl, by decide⟩
    b := by decide
    waits := by rw [f7]; exact Nat.zero_le _
    done := by rw [f8]; show 0 + 9 ≤ 30; decide }
set_option maxHeartbeats 64000000 in
theorem plays_walk (a : Int) (A : Option Addr) (c : Nat) (l : List Stp) (w : World) (hl : Rd w A (l.length * 4) (stps l)) (hls : ∀ t ∈ l, Rd w t.A t.l.length (iv t.l)) :
    Calls Tryd.prog 5 #[.int .i64 a, .slice A l.length c] w fun e w' => e = .returned (.bool true) ∧ Fr0 w w' := by
  obtain ⟨U, hU, hU2⟩ := wrapV a
  obtain ⟨K, hK⟩ : ∃ K, K = U % 90 := ⟨_, rfl⟩
  have hKw : IntKind.i64.wrap (K : Int) = (K : Int) := by rw [IntKind.wrap_i64]; omega
  have e90 : ((90 : Nat) : Int) = 90 := rfl
  obtain ⟨n, hn⟩ : ∃ n, n = 1 + K := ⟨_, rfl⟩
  have hn1 : 1 ≤ n := by omega
  have hn90 : n ≤ 90 := by omega
  refine sx_enter (vs := [_, _]) Tryd.func5 rfl Tryd.ntmps5 rfl ?_
  refine sx_seq ?_
  refine sx_region ?_
  refine sxl_y (wn_none rfl) rfl rfl (yp rfl) ?_
  refine sxl_nil ?_
  refine qx_seq ?_
  refine sx_seq ?_
  refine sx_region ?_
  refine sxl_y (wn_none rfl) rfl rfl (yp rfl) ?_
  refine sxl_y (wn_none rfl) rfl rfl (y_convInt rfl rfl Tryd.underlying3 Tryd.underlying35 hU) ?_
  refine sxl_y (wn_none rfl) rfl rfl (y_remV (b := 90) rfl rfl rfl (by decide) hK.symm) ?_
  refine sxl_y (wn_none rfl) rfl rfl (y_convInt rfl rfl Tryd.underlying35 Tryd.underlying3 hKw) ?_
  refine sxl_y (wn_none rfl) rfl rfl (y_add rfl rfl rfl (by omega)) ?_
  refine sxl_y (wn_none rfl) rfl rfl (yp rfl) ?_
  refine sxl_nil ?_
  refine qx_seq ?_
  refine sx_seq ?_
  refine sx_region ?_
  refine sxl_y (wn_none rfl) rfl rfl (yp rfl) ?_
  rw [show ((1 : Int) + (K : Int)) = (n : Int) from by omega]
  refine sxl_call (some 24) (by first | exact wn_none rfl | exact wn_on rfl rfl rfl) rfl rfl (yc_call rfl rfl Tryd.call7) (new_ok n w hn1 (by omega)) ?_
  rintro _ w1 ⟨L, rfl, hdk, hLn, hf1⟩
  refine ⟨_, rfl, ?_⟩
  have hlen : (newDS n).lasts.length = n := by simp [newDS]
  by_cases hsm : n < 12
  · refine sxl_y (wn_none rfl) rfl rfl (yp rfl) ?_
    iterate 4 refine sxl_y (wn_none rfl) rfl rfl (yp rfl) ?_
    refine sxl_nil ?_
    refine qx_seq ?_
    refine sx_seq ?_
    refine sx_seq ?_
    refine sx_region ?_
    refine sxl_y (wn_none rfl) rfl rfl (yp rfl) ?_
    refine sxl_y (wn_none rfl) rfl rfl (y_neq_f rfl rfl rfl (by omega)) ?_
    refine sxl_nil ?_
    refine qx_seq ?_
    refine sx_false rfl ?_
    refine sx_skip ?_
    refine qx_seq ?_
    refine sx_seq ?_
    refine sx_region ?_
    refine sxl_y (wn_none rfl) rfl rfl (yp rfl) ?_
    refine sxl_pure (wn_none rfl) rfl rfl (yc_call rfl rfl Tryd.call19) (open_small L hdk rfl (by rw [hlen]; exact hsm)) ?_
    iterate 5 refine sxl_y (wn_none rfl) rfl rfl (yp rfl) ?_
    refine sxl_nil ?_
    refine qx_seq ?_
    refine sx_seq ?_
    refine sx_region ?_
    refine sxl_y (wn_none rfl) rfl rfl (yp rfl) ?_
    refine sxl_pure (wn_none rfl) rfl rfl (yc_call rfl rfl Tryd.call8) (format_small L hdk rfl (by rw [hlen]; exact hsm)) ?_
    iterate 5 refine sxl_y (wn_none rfl) rfl rfl (yp rfl) ?_
    refine sxl_nil ?_
    refine qx_seq ?_
    refine sx_seq ?_
    refine sx_seq ?_
    refine sx_region ?_
    refine sxl_y (wn_none rfl) rfl rfl (yp rfl) ?_
    refine sxl_y (wn_none rfl) rfl rfl (y_lss_t rfl rfl rfl (by omega)) ?_
    refine sxl_nil ?_
    refine qx_seq ?_
    refine sx_true rfl ?_
    refine sx_seq ?_
    refine sx_region ?_
    refine sxl_y (wn_none rfl) rfl rfl (yp rfl) ?_
    refine sxl_y (wn_none rfl) rfl rfl (y_eql_t rfl rfl rfl (by omega)) ?_
    refine sxl_y (wn_none rfl) rfl rfl (yp rfl) ?_
    refine sxl_y (wn_on rfl rfl rfl) rfl rfl (yp rfl) ?_
    refine sxl_y (wn_on rfl rfl rfl) rfl rfl (y_eql_t rfl rfl rfl (by omega)) ?_
    iterate 2 refine sxl_y (wn_none rfl) rfl rfl (yp rfl) ?_
    refine sxl_y (wn_on rfl rfl rfl) rfl rfl (yp rfl) ?_
    refine sxl_y (wn_on rfl rfl rfl) rfl rfl (y_eqlNil rfl rfl rfl (pt rfl)) ?_
    iterate 2 refine sxl_y (wn_none rfl) rfl rfl (yp rfl) ?_
    refine sxl_call (some 53) (wn_on rfl rfl rfl) rfl rfl (yc_call rfl rfl Tryd.call6) (awake_calls w1) ?_
    rintro _ w2 ⟨rfl, hf2⟩
    refine ⟨_, rfl, ?_⟩
    iterate 2 refine sxl_y (wn_none rfl) rfl rfl (yp rfl) ?_
    refine sxl_nil ?_
    refine qx_seq ?_
    refine sx_ret ?_
    refine qx_then_ret ?_
    refine qx_ret1 rfl rfl ?_
    exact ⟨rfl, hf1.trans hf2⟩
  have h12 : 12 ≤ n := by omega
  iterate 5 refine sxl_y (wn_none rfl) rfl rfl (yp rfl) ?_
  refine sxl_nil ?_
  refine qx_seq ?_
  refine sx_seq ?_
  refine sx_seq ?_
  refine sx_region ?_
  refine sxl_y (wn_none rfl) rfl rfl (yp rfl) ?_
  refine sxl_y (wn_none rfl) rfl rfl (y_neq_f rfl rfl rfl (by omega)) ?_
  refine sxl_nil ?_
  refine qx_seq ?_
  refine sx_false rfl ?_
  refine sx_skip ?_
  refine qx_seq ?_
  refine sx_seq ?_
  refine sx_region ?_
  refine sxl_y (wn_none rfl) rfl rfl (yp rfl) ?_
  refine sxl_call (some 31) (wn_none rfl) rfl rfl (yc_call rfl rfl Tryd.call19) (open_any L hdk rfl (by rw [hlen]; exact h12)) ?_
  rintro y w2 ⟨hf2, hop⟩
  obtain rfl : y = .returned (.tuple #[.pointer none, .int .i64 0, .int .i64 40]) := by
    rcases hop with ⟨_, h⟩ | ⟨h, _⟩
    · exact h
    · have := fresh_best h12 hn90; omega
  refine ⟨_, rfl, ?_⟩
  clear hop
  iterate 5 refine sxl_y (wn_none rfl) rfl rfl (yp rfl) ?_
  refine sxl_nil ?_
  refine qx_seq ?_
  refine sx_seq ?_
  refine sx_region ?_
  refine sxl_y (wn_none rfl) rfl rfl (yp rfl) ?_
  refine sxl_call (some 37) (by first | exact wn_none rfl | exact wn_on rfl rfl rfl) rfl rfl (yc_call rfl rfl Tryd.call8) (format_ok L (hdk.fr0 hf2) rfl rfl (by rw [hlen]; exact h12) (by simp [newDS]) (by simp [newDS])) ?_
  rintro _ w3 ⟨Q, rfl, hnew⟩
  refine ⟨_, rfl, ?_⟩
  have hgd := hnew.gd
  have hz1 := hf1.size
  have hz2 := hf2.size
  have hz3 := hnew.fr.size
  have hf03 : Fr0 w w3 := (hf1.trans hf2).step hnew.fr (fun b hb e => by have := hLn b e; omega)
  have hownQ : ∀ b, Q.blocks b → w.heap.size ≤ b := fun b hb => by
    rcases hnew.bl b hb with hb | hb
    · exact hLn b hb
    · omega
  obtain ⟨N, hN⟩ : ∃ N, N = n / 4 := ⟨_, rfl⟩
  have sm0 := fresh_sm h12 hn90
  rw [← hN] at sm0
  have hq4 : ((n : Int) / 4) = (N : Int) := by omega
  iterate 5 refine sxl_y (wn_none rfl) rfl rfl (yp rfl) ?_
  refine sxl_nil ?_
  refine qx_seq ?_
  refine sx_seq ?_
  refine sx_seq ?_
  refine sx_region ?_
  refine sxl_y (wn_none rfl) rfl rfl (yp rfl) ?_
  refine sxl_y (wn_none rfl) rfl rfl (y_lss_f rfl rfl rfl (by omega)) ?_
  refine sxl_nil ?_
  refine qx_seq ?_
  refine sx_false rfl ?_
  refine sx_skip ?_
  refine qx_seq ?_
  refine sx_seq ?_
  refine sx_seq ?_
  refine sx_region ?_
  refine sxl_y (wn_none rfl) rfl rfl (yp rfl) ?_
  refine sxl_y (wn_none rfl) rfl rfl (y_neq_f rfl rfl rfl (by omega)) ?_
  refine sxl_y (wn_none rfl) rfl rfl (yp rfl) ?_
  refine sxl_y (wn_on rfl rfl rfl) rfl rfl (yp rfl) ?_
  refine sxl_y (wn_on rfl rfl rfl) rfl rfl (y_neq_f rfl rfl rfl (by omega)) ?_
  iterate 2 refine sxl_y (wn_none rfl) rfl rfl (yp rfl) ?_
  refine sxl_y (wn_on rfl rfl rfl) rfl rfl (yp rfl) ?_
  refine sxl_y (wn_on rfl rfl rfl) rfl rfl (y_eqlNil rfl rfl rfl (pt rfl)) ?_
  refine sxl_y (wn_none rfl) rfl rfl (yp rfl) ?_
  refine sxl_nil ?_
  refine qx_seq ?_
  refine sx_false rfl ?_
  refine sx_skip ?_
  refine qx_seq ?_
  refine sx_seq ?_
  refine sx_region ?_
  refine sxl_y (wn_none rfl) rfl rfl (yp rfl) ?_
  refine sxl_y (wn_none rfl) rfl rfl (y_quo rfl rfl rfl (by omega) (by omega)) ?_
  rw [hq4]
  refine sxl_call (some 68) (by first | exact wn_none rfl | exact wn_on rfl rfl rfl) rfl rfl (yc_call rfl rfl Tryd.call25) (rnew_ok N w3) ?_
  rintro _ w4 ⟨gd, gw, rfl, hrd, hgd4, hgw4, hf4⟩
  refine ⟨_, rfl, ?_⟩
  refine sxl_call (some 69) (by first | exact wn_none rfl | exact wn_on rfl rfl rfl) rfl rfl (yc_call rfl rfl Tryd.call24) (rformat_ok hrd (by omega) (by omega)) ?_
  rintro _ w5 ⟨gp, gs, rfl, hrf, hgp5, hgs5, hf5⟩
  refine ⟨_, rfl, ?_⟩
  have hz4 := hf4.size
  have hz5 := hf5.size
  have hltQ : ∀ b, Q.blocks b → b < w3.heap.size := fun b hb => hnew.pg.lt hb
  have hpw : Pw w w5 Q ⟨(newDS n).lasts.length / 4, 1, 0, fun _ => 0, false⟩ (newDS n).fmt ⟨gp, gd, gs, gw⟩ ⟨fun _ => none, 1, 0, 0, 0, 1, 0, List.replicate N 0⟩ := by
    refine ⟨(hnew.pg.fr0 hf4).frS hf5 (fun b hb e => by have := hltQ b hb; omega) sm0.keep, hrf, fun b hb hq => ?_, hownQ, fun b hb => ?_, (hf03.trans hf4).step hf5 (fun b hb e => by omega)⟩
    · have := hltQ b hq
      rcases hb with hb | hb | hb | hb
      · have hb : b = gp := hb; omega
      · have hb : b = gd := hb; omega
      · have hb : b = gs := hb; omega
      · have hb : b = gw := hb; omega
    · rcases hb with hb | hb | hb | hb
      · have hb : b = gp := hb; omega
      · have hb : b = gd := hb; omega
      · have hb : b = gs := hb; omega
      · have hb : b = gw := hb; omega
  generalize (⟨(newDS n).lasts.length / 4, 1, 0, fun _ => 0, false⟩ : PS) = p0 at sm0 hpw
  generalize (newDS n).fmt = s0 at sm0 hpw
  generalize (⟨fun _ => none, 1, 0, 0, 0, 1, 0, List.replicate N 0⟩ : RX) = x0 at sm0 hpw
  generalize L.gd = gdk at hgd
  clear hnew hdk hLn hrd hrf hltQ hownQ hf1 hf2 hf4 hf5 hf03
  iterate 5 refine sxl_y (wn_none rfl) rfl rfl (yp rfl) ?_
  refine sxl_nil ?_
  refine qx_seq ?_
  refine sx_seq ?_
  refine sx_seq ?_
  refine sx_region ?_
  refine sxl_y (wn_none rfl) rfl rfl (yp rfl) ?_
  refine sxl_nil ?_
  refine qx_seq ?_
  refine sx_block ?_
  refine sx_loop (fun e wr m => ∃ (i : Nat) (Q' : PL) (p : PS) (s : DS) (R : RP) (x : RX), e = [(11, .int .i64 (i : Int)), (7, .pointer (some ⟨Q'.gp, 0, none⟩)), (9, .pointer (some ⟨gp, 0, none⟩)), (5, .pointer (some ⟨gdk, 0, none⟩)), (1, .slice A l.length c)] ∧ i ≤ 80 ∧ i ≤ l.length ∧ Pw w wr Q' p s R x ∧ Sm N (1 + i) p s x ∧ Q'.L.gd = gdk ∧ R.gp = gp ∧ m = 80 - i)
    ⟨0, Q, p0, s0, _, x0, rfl, Nat.zero_le _, Nat.zero_le _, hpw, sm0, hgd, rfl, rfl⟩ ⟨rfl, rfl, rfl, rfl, rfl, trivial⟩ ?_
  clear hpw sm0 hgd
  rintro _ wr _ ⟨i, Q1, p, s, R, x, rfl, hi80, hil, hpw, sm, hgd, hgp, rfl⟩
  by_cases hgo : i < l.length ∧ i < 80
  case neg =>
    by_cases h1 : i < l.length
    · have h2 : ¬ i < 80 := fun e => hgo ⟨h1, e⟩
      refine sx_seq ?_
      refine sx_seq ?_
      refine sx_region ?_
      iterate 2 refine sxl_y (wn_none rfl) rfl rfl (yp rfl) ?_
      refine sxl_y (wn_none rfl) rfl rfl (y_len rfl rfl (sl rfl)) ?_
      refine sxl_y (wn_none rfl) rfl rfl (y_lss_t rfl rfl rfl (by omega)) ?_
      refine sxl_y (wn_none rfl) rfl rfl (yp rfl) ?_
      refine sxl_y (wn_on rfl rfl rfl) rfl rfl (yp rfl) ?_
      refine sxl_y (wn_on rfl rfl rfl) rfl rfl (y_lss_f rfl rfl rfl (by omega)) ?_
      refine sxl_y (wn_none rfl) rfl rfl (yp rfl) ?_
      refine sxl_nil ?_
      refine qx_seq ?_
      refine sx_false rfl ?_
      refine sx_exit ?_
      refine qx_then_exit ?_
      refine qx_then_exit ?_
      refine qx_block_hit ?_
      refine qx_seq ?_
      refine sx_seq ?_
      refine sx_region ?_
      refine sxl_call (some 141) (by first | exact wn_none rfl | exact wn_on rfl rfl rfl) rfl rfl (yc_call rfl rfl Tryd.call6) (awake_calls wr) ?_
      rintro _ w9 ⟨rfl, hf9⟩
      refine ⟨_, rfl, ?_⟩
      refine sxl_y (wn_none rfl) rfl rfl (yp rfl) ?_
      refine sxl_nil ?_
      refine qx_seq ?_
      refine sx_ret ?_
      refine qx_ret1 rfl rfl ?_
      exact ⟨rfl, hpw.fr.trans hf9⟩
    · refine sx_seq ?_
      refine sx_seq ?_
      refine sx_region ?_
      iterate 2 refine sxl_y (wn_none rfl) rfl rfl (yp rfl) ?_
      refine sxl_y (wn_none rfl) rfl rfl (y_len rfl rfl (sl rfl)) ?_
      refine sxl_y (wn_none rfl) rfl rfl (y_lss_f rfl rfl rfl (by omega)) ?_
      refine sxl_y (wn_none rfl) rfl rfl (yp rfl) ?_
      refine sxl_off rfl rfl rfl rfl rfl rfl ?_
      refine sxl_off rfl rfl rfl rfl rfl rfl ?_
      refine sxl_y (wn_none rfl) rfl rfl (yp rfl) ?_
      refine sxl_nil ?_
      refine qx_seq ?_
      refine sx_false rfl ?_
      refine sx_exit ?_
      refine qx_then_exit ?_
      refine qx_then_exit ?_
      refine qx_block_hit ?_
      refine qx_seq ?_
      refine sx_seq ?_
      refine sx_region ?_
      refine sxl_call (some 141) (by first | exact wn_none rfl | exact wn_on rfl rfl rfl) rfl rfl (yc_call rfl rfl Tryd.call6) (awake_calls wr) ?_
      rintro _ w9 ⟨rfl, hf9⟩
      refine ⟨_, rfl, ?_⟩
      refine sxl_y (wn_none rfl) rfl rfl (yp rfl) ?_
      refine sxl_nil ?_
      refine qx_seq ?_
      refine sx_ret ?_
      refine qx_ret1 rfl rfl ?_
      exact ⟨rfl, hpw.fr.trans hf9⟩
  obtain ⟨hlt, h80⟩ := hgo
  obtain ⟨t, ht⟩ : ∃ t, l[i]? = some t := ⟨_, List.getElem?_eq_getElem hlt⟩
  have htm := List.mem_of_getElem? ht
  obtain ⟨b, o, rfl, hrow⟩ := stp_rd hl ht
  have hrow := hrow.fr0 hpw.fr
  have r2 : Cell wr.heap b (o + i * 4 + 2) (str t.dt) := rd_cell hrow rfl
  have r3 : Cell wr.heap b (o + i * 4 + 3) (.slice t.A t.l.length t.c) := rd_cell hrow rfl
  by_cases hdl : 2000 < t.dt.length
  · refine sx_seq ?_
    refine sx_seq ?_
    refine sx_region ?_
    iterate 2 refine sxl_y (wn_none rfl) rfl rfl (yp rfl) ?_
    refine sxl_y (wn_none rfl) rfl rfl (y_len rfl rfl (sl rfl)) ?_
    refine sxl_y (wn_none rfl) rfl rfl (y_lss_t rfl rfl rfl (by omega)) ?_
    refine sxl_y (wn_none rfl) rfl rfl (yp rfl) ?_
    refine sxl_y (wn_on rfl rfl rfl) rfl rfl (yp rfl) ?_
    refine sxl_y (wn_on rfl rfl rfl) rfl rfl (y_lss_t rfl rfl rfl (by omega)) ?_
    refine sxl_y (wn_none rfl) rfl rfl (yp rfl) ?_
    refine sxl_nil ?_
    refine qx_seq ?_
    refine sx_true rfl ?_
    refine sx_skip ?_
    refine qx_seq ?_
    refine sx_seq ?_
    refine sx_block ?_
    refine sx_seq ?_
    refine sx_seq ?_
    refine sx_region ?_
    iterate 2 refine sxl_y (wn_none rfl) rfl rfl (yp rfl) ?_
    refine sxl_y (wn_none rfl) rfl rfl (y_indexN rfl rfl rfl (sl rfl) (by omega)) ?_
    refine sxl_y (wn_none rfl) rfl rfl (yp rfl) ?_
    refine sxl_y (wn_none rfl) rfl rfl (y_load rfl rfl (sc rfl) (by assumption)) ?_
    refine sxl_y (wn_none rfl) rfl rfl (y_slen rfl rfl Tryd.underlying9) ?_
    refine sxl_y (wn_none rfl) rfl rfl (y_gtr_t rfl rfl rfl (by omega)) ?_
    refine sxl_y (wn_none rfl) rfl rfl (yp rfl) ?_
    refine sxl_off rfl rfl rfl rfl rfl rfl ?_
    refine sxl_off rfl rfl rfl rfl rfl rfl ?_
    refine sxl_off rfl rfl rfl rfl rfl rfl ?_
    refine sxl_off rfl rfl rfl rfl rfl rfl ?_
    refine sxl_off rfl rfl rfl rfl rfl rfl ?_
    refine sxl_off rfl rfl rfl rfl rfl rfl ?_
    refine sxl_off rfl rfl rfl rfl rfl rfl ?_
    refine sxl_y (wn_none rfl) rfl rfl (yp rfl) ?_
    refine sxl_nil ?_
    refine qx_seq ?_
    refine sx_true rfl ?_
    refine sx_seq ?_
    refine sx_region ?_
    refine sxl_call (some 98) (by first | exact wn_none rfl | exact wn_on rfl rfl rfl) rfl rfl (yc_call rfl rfl Tryd.call6) (awake_calls wr) ?_
    rintro _ w9 ⟨rfl, hf9⟩
    refine ⟨_, rfl, ?_⟩
    refine sxl_y (wn_none rfl) rfl rfl (yp rfl) ?_
    refine sxl_nil ?_
    refine qx_seq ?_
    refine sx_ret ?_
    refine qx_then_ret ?_
    refine qx_block_ret ?_
    refine qx_then_ret ?_
    refine qx_then_ret ?_
    refine qx_block_ret ?_
    refine qx_then_ret ?_
    refine qx_ret1 rfl rfl ?_
    exact ⟨rfl, hpw.fr.trans hf9⟩
  by_cases hll : 100 < t.l.length
  · refine sx_seq ?_
    refine sx_seq ?_
    refine sx_region ?_
    iterate 2 refine sxl_y (wn_none rfl) rfl rfl (yp rfl) ?_
    refine sxl_y (wn_none rfl) rfl rfl (y_len rfl rfl (sl rfl)) ?_
    refine sxl_y (wn_none rfl) rfl rfl (y_lss_t rfl rfl rfl (by omega)) ?_
    refine sxl_y (wn_none rfl) rfl rfl (yp rfl) ?_
    refine sxl_y (wn_on rfl rfl rfl) rfl rfl (yp rfl) ?_
    refine sxl_y (wn_on rfl rfl rfl) rfl rfl (y_lss_t rfl rfl rfl (by omega)) ?_
    refine sxl_y (wn_none rfl) rfl rfl (yp rfl) ?_
    refine sxl_nil ?_
    refine qx_seq ?_
    refine sx_true rfl ?_
    refine sx_skip ?_
    refine qx_seq ?_
    refine sx_seq ?_
    refine sx_block ?_
    refine sx_seq ?_
    refine sx_seq ?_
    refine sx_region ?_
    iterate 2 refine sxl_y (wn_none rfl) rfl rfl (yp rfl) ?_
    refine sxl_y (wn_none rfl) rfl rfl (y_indexN rfl rfl rfl (sl rfl) (by omega)) ?_
    refine sxl_y (wn_none rfl) rfl rfl (yp rfl) ?_
    refine sxl_y (wn_none rfl) rfl rfl (y_load rfl rfl (sc rfl) (by assumption)) ?_
    refine sxl_y (wn_none rfl) rfl rfl (y_slen rfl rfl Tryd.underlying9) ?_
    refine sxl_y (wn_none rfl) rfl rfl (y_gtr_f rfl rfl rfl (by omega)) ?_
    refine sxl_y (wn_none rfl) rfl rfl (yp rfl) ?_
    refine sxl_y (wn_on rfl rfl rfl) rfl rfl (yp rfl) ?_
    refine sxl_y (wn_on rfl rfl rfl) rfl rfl (yp rfl) ?_
    refine sxl_y (wn_on rfl rfl rfl) rfl rfl (y_indexN rfl rfl rfl (sl rfl) (by omega)) ?_
    refine sxl_y (wn_on rfl rfl rfl) rfl rfl (yp rfl) ?_
    refine sxl_y (wn_on rfl rfl rfl) rfl rfl (y_load rfl rfl (sc rfl) (by assumption)) ?_
    refine sxl_y (wn_on rfl rfl rfl) rfl rfl (y_len rfl rfl (sl rfl)) ?_
    refine sxl_y (wn_on rfl rfl rfl) rfl rfl (y_gtr_t rfl rfl rfl (by omega)) ?_
    refine sxl_y (wn_none rfl) rfl rfl (yp rfl) ?_
    refine sxl_nil ?_
    refine qx_seq ?_
    refine sx_true rfl ?_
    refine sx_seq ?_
    refine sx_region ?_
    refine sxl_call (some 98) (by first | exact wn_none rfl | exact wn_on rfl rfl rfl) rfl rfl (yc_call rfl rfl Tryd.call6) (awake_calls wr) ?_
    rintro _ w9 ⟨rfl, hf9⟩
    refine ⟨_, rfl, ?_⟩
    refine sxl_y (wn_none rfl) rfl rfl (yp rfl) ?_
    refine sxl_nil ?_
    refine qx_seq ?_
    refine sx_ret ?_
    refine qx_then_ret ?_
    refine qx_block_ret ?_
    refine qx_then_ret ?_
    refine qx_then_ret ?_
    refine qx_block_ret ?_
    refine qx_then_ret ?_
    refine qx_ret1 rfl rfl ?_
    exact ⟨rfl, hpw.fr.trans hf9⟩
  have hB : 1 + i < 100 := by omega
  refine sx_seq ?_
  refine sx_seq ?_
  refine sx_region ?_
  iterate 2 refine sxl_y (wn_none rfl) rfl rfl (yp rfl) ?_
  refine sxl_y (wn_none rfl) rfl rfl (y_len rfl rfl (sl rfl)) ?_
  refine sxl_y (wn_none rfl) rfl rfl (y_lss_t rfl rfl rfl (by omega)) ?_
  refine sxl_y (wn_none rfl) rfl rfl (yp rfl) ?_
  refine sxl_y (wn_on rfl rfl rfl) rfl rfl (yp rfl) ?_
  refine sxl_y (wn_on rfl rfl rfl) rfl rfl (y_lss_t rfl rfl rfl (by omega)) ?_
  refine sxl_y (wn_none rfl) rfl rfl (yp rfl) ?_
  refine sxl_nil ?_
  refine qx_seq ?_
  refine sx_true rfl ?_
  refine sx_skip ?_
  refine qx_seq ?_
  refine sx_seq ?_
  refine sx_block ?_
  refine sx_seq ?_
  refine sx_seq ?_
  refine sx_region ?_
  iterate 2 refine sxl_y (wn_none rfl) rfl rfl (yp rfl) ?_
  refine sxl_y (wn_none rfl) rfl rfl (y_indexN rfl rfl rfl (sl rfl) (by omega)) ?_
  refine sxl_y (wn_none rfl) rfl rfl (yp rfl) ?_
  refine sxl_y (wn_none rfl) rfl rfl (y_load rfl rfl (sc rfl) (by assumption)) ?_
  refine sxl_y (wn_none rfl) rfl rfl (y_slen rfl rfl Tryd.underlying9) ?_
  refine sxl_y (wn_none rfl) rfl rfl (y_gtr_f rfl rfl rfl (by omega)) ?_
  refine sxl_y (wn_none rfl) rfl rfl (yp rfl) ?_
  refine sxl_y (wn_on rfl rfl rfl) rfl rfl (yp rfl) ?_
  refine sxl_y (wn_on rfl rfl rfl) rfl rfl (yp rfl) ?_
  refine sxl_y (wn_on rfl rfl rfl) rfl rfl (y_indexN rfl rfl rfl (sl rfl) (by omega)) ?_
  refine sxl_y (wn_on rfl rfl rfl) rfl rfl (yp rfl) ?_
  refine sxl_y (wn_on rfl rfl rfl) rfl rfl (y_load rfl rfl (sc rfl) (by assumption)) ?_
  refine sxl_y (wn_on rfl rfl rfl) rfl rfl (y_len rfl rfl (sl rfl)) ?_
  refine sxl_y (wn_on rfl rfl rfl) rfl rfl (y_gtr_f rfl rfl rfl (by omega)) ?_
  refine sxl_y (wn_none rfl) rfl rfl (yp rfl) ?_
  refine sxl_nil ?_
  refine qx_seq ?_
  refine sx_false rfl ?_
  refine sx_skip ?_
  refine qx_seq ?_
  refine sx_seq ?_
  refine sx_region ?_
  iterate 2 refine sxl_y (wn_none rfl) rfl rfl (yp rfl) ?_
  refine sxl_y (wn_none rfl) rfl rfl (y_indexN rfl rfl rfl (sl rfl) (by omega)) ?_
  refine sxl_y (wn_none rfl) rfl rfl (y_loadRd rfl rfl hrow Tryd.underlying66 rfl step_size) ?_
  refine sxl_does (some 12) (wn_none rfl) rfl rfl (fun ρ hρ => does_alloc 66 rfl _ [.int .i64 0, .int .i64 0, str [], .slice none 0 0] step_zero rfl) ?_
  rintro _ w1 ⟨g, rfl, hg1, hg2, hb1, hf1⟩
  refine sxl_does none (wn_none rfl) rfl rfl (fun ρ hρ => does_store 66 (.tmp 12) (.tmp 102) rfl g 0 66 _ t.row (hρ _ _ rfl) (hρ _ _ rfl) hb1 (by rw [step_size]; rfl) (by simp [Stp.row]) (by simp [Stp.row, Value.oneCell', str])) ?_
  rintro _ w2 ⟨rfl, hb2, hf2⟩
  have hb2 : Blk w2 g 66 t.row := by
    have e : put [.int .i64 0, .int .i64 0, str [], .slice none 0 0] 0 t.row = t.row := put_all _ _ rfl
    rw [e] at hb2; exact hb2
  have hz1 := hf1.size
  have hf12 : Fr (fun b' => wr.heap.size ≤ b') wr w2 := (Fr.of0 hf1).step hf2 (fun b' _ e => by omega)
  have h2 : Pw w w2 Q1 p s R x := hpw.frS hf12 (fun b' hb' e => by omega) sm.keep
  have k0 : Cell w2.heap g 0 (.int .i64 t.kd) := hb2.c 0 rfl
  have k1 : Cell w2.heap g 1 (.int .i64 t.n) := hb2.c 1 rfl
  have hgQ : ∀ b', Q1.blocks b' → b' ≠ g := fun b' hb e => by have := hpw.pg.lt hb; omega
  have hgR : ∀ b', R.blocks b' → b' ≠ g := fun b' hb e => by have := hpw.rf.lt hb; omega
  by_cases h3 : t.kd = 3
  · rw [h3] at k0
    obtain ⟨p', s', x', cd, hcp, hcx, hk', hw'⟩ := commit_both (Q := Q1) (R := R) sm hB t.n
    rw [hgp] at hcx
    refine sxl_nil ?_
    refine qx_seq ?_
    refine sx_seq ?_
    refine sx_seq ?_
    refine sx_region ?_
    refine sxl_y (wn_none rfl) rfl rfl (yp rfl) ?_
    refine sxl_y (wn_none rfl) rfl rfl (y_load rfl rfl (sc rfl) (by assumption)) ?_
    refine sxl_y (wn_none rfl) rfl rfl (y_eql_t rfl rfl rfl (by omega)) ?_
    refine sxl_nil ?_
    refine qx_seq ?_
    refine sx_true rfl ?_
    refine sx_seq ?_
    refine sx_any 10 (fun w' => Cell w'.heap g 1 (.int .i64 t.n) ∧ True) hmix ?_
    have HS : Cell w2.drew.heap g 1 (.int .i64 t.n) ∧ True := ⟨k1, trivial⟩
    refine sxo_y 0 10 (by kernel_rfl) (fun c a t v w h => by cases t <;> exact h) (by kernel_rfl) rfl (by kernel_rfl) (by kernel_rfl) rfl (wn_none rfl) rfl rfl HS (fun w' hS' => yp rfl) ?_
    refine sxo_y 1 10 (by kernel_rfl) (fun c a t v w h => by cases t <;> exact h) (by kernel_rfl) rfl (by kernel_rfl) (by kernel_rfl) rfl (wn_none rfl) rfl rfl HS (fun w' hS' => yp rfl) ?_
    refine sxo_y 2 10 (by kernel_rfl) (fun c a t v w h => by cases t <;> exact h) (by kernel_rfl) rfl (by kernel_rfl) (by kernel_rfl) rfl (wn_none rfl) rfl rfl HS (fun w' hS' => y_load rfl rfl (sc rfl) (by obtain ⟨q1, q2⟩ := hS'; assumption)) ?_
    refine sxo_y 4 10 (by kernel_rfl) (fun c a t v w h => by cases t <;> exact h) (by kernel_rfl) rfl (by kernel_rfl) (by kernel_rfl) rfl (wn_none rfl) rfl rfl HS (fun w' hS' => yp rfl) ?_
    refine sxo_y 5 10 (by kernel_rfl) (fun c a t v w h => by cases t <;> exact h) (by kernel_rfl) rfl (by kernel_rfl) (by kernel_rfl) rfl (wn_none rfl) rfl rfl HS (fun w' hS' => yp rfl) ?_
    refine sxo_y 6 10 (by kernel_rfl) (fun c a t v w h => by cases t <;> exact h) (by kernel_rfl) rfl (by kernel_rfl) (by kernel_rfl) rfl (wn_none rfl) rfl rfl HS (fun w' hS' => y_load rfl rfl (sc rfl) (by obtain ⟨q1, q2⟩ := hS'; assumption)) ?_
    have h2d := h2.fr0 (Fr.refl.drew : Fr0 w2 w2.drew)
    refine sxo_call 3 (some 109) (by kernel_rfl) rfl (wn_none rfl) rfl rfl (yc_call rfl rfl Tryd.call16) (hcp w2.drew h2d.pg) ?_
    rintro _ w3 ⟨Q3, rfl, hto⟩
    have h3' := h2d.toQ hto
    have HS : Cell w3.heap g 1 (.int .i64 t.n) ∧ True := ⟨HS.1.fr hto.fr (fun hq => hgQ g hq rfl), trivial⟩
    refine ⟨_, rfl, fun _ => HS, ?_⟩
    refine sxo_call 7 (some 113) (by kernel_rfl) rfl (wn_none rfl) rfl rfl (yc_call rfl rfl Tryd.call26) (hcx w3 h3'.rf) ?_
    rintro _ w4 ⟨st', rfl, hrt, sm4⟩
    have h4 := h3'.toR hrt hk'
    have HS : Cell w4.heap g 1 (.int .i64 t.n) ∧ True := ⟨HS.1.fr hrt.fr (fun hq => hgR g hq rfl), trivial⟩
    refine ⟨_, rfl, fun _ => HS, ?_⟩
    refine sxo_y 8 10 (by kernel_rfl) (fun c a t v w h => by cases t <;> exact h) (by kernel_rfl) rfl (by kernel_rfl) (by kernel_rfl) rfl (wn_none rfl) rfl rfl HS (fun w' hS' => yp rfl) ?_
    refine sxo_y 9 10 (by kernel_rfl) (fun c a t v w h => by cases t <;> exact h) (by kernel_rfl) rfl (by kernel_rfl) (by kernel_rfl) rfl (wn_none rfl) rfl rfl HS (fun w' hS' => yp rfl) ?_
    refine sxo_done (by kernel_rfl) ?_
    have hgp3 : Q3.gp = Q1.gp := hto.gp
    have hgd3 : Q3.L.gd = gdk := hto.gd.trans hgd
    have sm4 : Sm N (1 + (i + 1)) p' s' { x' with st := st' } := by rw [← Nat.add_assoc]; exact sm4
    have htold := told_ok h4 sm4
    rw [hgp, hgp3] at htold
    obtain ⟨Aw, cw, ew, _, _, _, _⟩ := ownN_form h4.pg.dk.hw
    have hwait := waits_any w4 Q3.L.gd Aw s'.waits.length cw (by rw [h4.pg.dk.c2, ew])
    rw [hgd3] at hwait
    by_cases hcd : cd = 0
    · subst hcd
      rw [hw' rfl] at hwait
      have hwait : Calls Tryd.prog 27 #[.pointer (some ⟨gdk, 0, none⟩)] w4 fun e w' => e = .returned (.int .i64 0) ∧ w4 = w' := hwait
      refine qx_seq ?_
      refine sx_seq ?_
      refine sx_region ?_
      iterate 2 refine sxl_y (wn_none rfl) rfl rfl (yp rfl) ?_
      refine sxl_y (wn_none rfl) rfl rfl (y_neq_f rfl rfl rfl (by omega)) ?_
      refine sxl_y (wn_none rfl) rfl rfl (yp rfl) ?_
      refine sxl_y (wn_on rfl rfl rfl) rfl rfl (yp rfl) ?_
      refine sxl_y (wn_on rfl rfl rfl) rfl rfl (y_eql_t rfl rfl rfl (by omega)) ?_
      refine sxl_y (wn_on rfl rfl rfl) rfl rfl (yp rfl) ?_
      refine sxl_y (wn_on rfl rfl rfl) rfl rfl (yp rfl) ?_
      refine sxl_pure (wn_on rfl rfl rfl) rfl rfl (yc_call rfl rfl Tryd.call27) (hwait) ?_
      refine sxl_y (wn_on rfl rfl rfl) rfl rfl (y_neq_f rfl rfl rfl (by omega)) ?_
      refine sxl_y (wn_on rfl rfl rfl) rfl rfl (yp rfl) ?_
      refine sxl_y (wn_none rfl) rfl rfl (yp rfl) ?_
      refine sxl_nil ?_
      refine qx_seq ?_
      refine sx_false rfl ?_
      refine sx_skip ?_
      refine qx_seq ?_
      refine sx_seq ?_
      refine sx_region ?_
      iterate 2 refine sxl_y (wn_none rfl) rfl rfl (yp rfl) ?_
      refine sxl_call (some 139) (by first | exact wn_none rfl | exact wn_on rfl rfl rfl) rfl rfl (yc_call rfl rfl Tryd.call29) (htold) ?_
      rintro _ w5 ⟨rfl, hf5⟩
      refine ⟨_, rfl, ?_⟩
      refine sxl_y (wn_none rfl) rfl rfl (yp rfl) ?_
      refine sxl_nil ?_
      refine qx_seq ?_
      refine sx_false rfl ?_
      refine sx_skip ?_
      refine qx_block_normal ?_
      refine qx_seq ?_
      refine sx_region ?_
      refine sxl_y (wn_none rfl) rfl rfl (yp rfl) ?_
      refine sxl_y (wn_none rfl) rfl rfl (y_add rfl rfl rfl (by omega)) ?_
      refine sxl_y (wn_none rfl) rfl rfl (yp rfl) ?_
      refine sxl_nil ?_
      rw [← hgp3]
      exact qx_again [(11, .int .i64 ((i + 1 : Nat) : Int)), (7, .pointer (some ⟨Q3.gp, 0, none⟩)), (9, .pointer (some ⟨gp, 0, none⟩)), (5, .pointer (some ⟨gdk, 0, none⟩)), (1, .slice (some ⟨b, o, none⟩) l.length c)] (80 - (i + 1)) ⟨i + 1, Q3, p', s', R, _, rfl, by omega, hlt, h4.fr0 hf5, sm4, hgd3, hgp, rfl⟩ (by omega) ⟨rfl, rfl, rfl, rfl, rfl, trivial⟩
    · refine qx_seq ?_
      refine sx_seq ?_
      refine sx_region ?_
      iterate 2 refine sxl_y (wn_none rfl) rfl rfl (yp rfl) ?_
      refine sxl_y (wn_none rfl) rfl rfl (y_neq_f rfl rfl rfl (by omega)) ?_
      refine sxl_y (wn_none rfl) rfl rfl (yp rfl) ?_
      refine sxl_y (wn_on rfl rfl rfl) rfl rfl (yp rfl) ?_
      refine sxl_y (wn_on rfl rfl rfl) rfl rfl (y_eql_f rfl rfl rfl (by omega)) ?_
      refine sxl_y (wn_on rfl rfl rfl) rfl rfl (yp rfl) ?_
      refine sxl_off rfl rfl rfl rfl rfl rfl ?_
      refine sxl_off rfl rfl rfl rfl rfl rfl ?_
      refine sxl_off rfl rfl rfl rfl rfl rfl ?_
      refine sxl_y (wn_on rfl rfl rfl) rfl rfl (yp rfl) ?_
      refine sxl_y (wn_none rfl) rfl rfl (yp rfl) ?_
      refine sxl_nil ?_
      refine qx_seq ?_
      refine sx_false rfl ?_
      refine sx_skip ?_
      refine qx_seq ?_
      refine sx_seq ?_
      refine sx_region ?_
      iterate 2 refine sxl_y (wn_none rfl) rfl rfl (yp rfl) ?_
      refine sxl_call (some 139) (by first | exact wn_none rfl | exact wn_on rfl rfl rfl) rfl rfl (yc_call rfl rfl Tryd.call29) (htold) ?_
      rintro _ w5 ⟨rfl, hf5⟩
      refine ⟨_, rfl, ?_⟩
      refine sxl_y (wn_none rfl) rfl rfl (yp rfl) ?_
      refine sxl_nil ?_
      refine qx_seq ?_
      refine sx_false rfl ?_
      refine sx_skip ?_
      refine qx_block_normal ?_
      refine qx_seq ?_
      refine sx_region ?_
      refine sxl_y (wn_none rfl) rfl rfl (yp rfl) ?_
      refine sxl_y (wn_none rfl) rfl rfl (y_add rfl rfl rfl (by omega)) ?_
      refine sxl_y (wn_none rfl) rfl rfl (yp rfl) ?_
      refine sxl_nil ?_
      rw [← hgp3]
      exact qx_again [(11, .int .i64 ((i + 1 : Nat) : Int)), (7, .pointer (some ⟨Q3.gp, 0, none⟩)), (9, .pointer (some ⟨gp, 0, none⟩)), (5, .pointer (some ⟨gdk, 0, none⟩)), (1, .slice (some ⟨b, o, none⟩) l.length c)] (80 - (i + 1)) ⟨i + 1, Q3, p', s', R, _, rfl, by omega, hlt, h4.fr0 hf5, sm4, hgd3, hgp, rfl⟩ (by omega) ⟨rfl, rfl, rfl, rfl, rfl, trivial⟩
  · have hdo := do_any h2 sm hB t.kd h3 t.n t.dt t.A t.c t.l (by omega) ((hls t htm).fr0 h2.fr) (by omega) (fun h0 b' off e hb => by
      have h5 := (hls t htm).lt h0 b' off e
      rcases hb with hb | hb
      · have := h2.ownQ b' hb; omega
      · have := h2.ownR b' hb; omega)
    rw [hgd, hgp] at hdo
    refine sxl_nil ?_
    refine qx_seq ?_
    refine sx_seq ?_
    refine sx_seq ?_
    refine sx_region ?_
    refine sxl_y (wn_none rfl) rfl rfl (yp rfl) ?_
    refine sxl_y (wn_none rfl) rfl rfl (y_load rfl rfl (sc rfl) (by assumption)) ?_
    refine sxl_y (wn_none rfl) rfl rfl (y_eql_f rfl rfl rfl (by omega)) ?_
    refine sxl_nil ?_
    refine qx_seq ?_
    refine sx_false rfl ?_
    refine sx_seq ?_
    refine sx_region ?_
    refine sxl_y (wn_none rfl) rfl rfl (y_loadB rfl rfl hb2 Tryd.underlying66 rfl step_size (Nat.le_refl _)) ?_
    iterate 3 refine sxl_y (wn_none rfl) rfl rfl (yp rfl) ?_
    refine sxl_call (some 131) (by first | exact wn_none rfl | exact wn_on rfl rfl rfl) rfl rfl (yc_call rfl rfl Tryd.call28) (hdo) ?_
    rintro _ w3 ⟨Q3, p', s', R3, x', rfl, h4, sm4, hgd3, hgp3⟩
    refine ⟨_, rfl, ?_⟩
    have hgd3 : Q3.L.gd = gdk := hgd3.trans hgd
    have hgp3 : R3.gp = gp := hgp3.trans hgp
    have sm4 : Sm N (1 + (i + 1)) p' s' x' := by rw [← Nat.add_assoc]; exact sm4
    have htold := told_ok h4 sm4
    rw [hgp3] at htold
    iterate 5 refine sxl_y (wn_none rfl) rfl rfl (yp rfl) ?_
    refine sxl_nil ?_
    refine qx_seq ?_
    refine sx_seq ?_
    refine sx_seq ?_
    refine sx_region ?_
    iterate 2 refine sxl_y (wn_none rfl) rfl rfl (yp rfl) ?_
    refine sxl_nil ?_
    refine qx_seq ?_
    refine sx_false rfl ?_
    refine sx_skip ?_
    refine qx_seq ?_
    refine sx_region ?_
    iterate 2 refine sxl_y (wn_none rfl) rfl rfl (yp rfl) ?_
    refine sxl_nil ?_
    refine qx_seq ?_
    refine sx_seq ?_
    refine sx_region ?_
    iterate 2 refine sxl_y (wn_none rfl) rfl rfl (yp rfl) ?_
    refine sxl_call (some 139) (by first | exact wn_none rfl | exact wn_on rfl rfl rfl) rfl rfl (yc_call rfl rfl Tryd.call29) (htold) ?_
    rintro _ w5 ⟨rfl, hf5⟩
    refine ⟨_, rfl, ?_⟩
    refine sxl_y (wn_none rfl) rfl rfl (yp rfl) ?_
    refine sxl_nil ?_
    refine qx_seq ?_
    refine sx_false rfl ?_
    refine sx_skip ?_
    refine qx_block_normal ?_
    refine qx_seq ?_
    refine sx_region ?_
    refine sxl_y (wn_none rfl) rfl rfl (yp rfl) ?_
    refine sxl_y (wn_none rfl) rfl rfl (y_add rfl rfl rfl (by omega)) ?_
    refine sxl_y (wn_none rfl) rfl rfl (yp rfl) ?_
    refine sxl_nil ?_
    exact qx_again [(11, .int .i64 ((i + 1 : Nat) : Int)), (7, .pointer (some ⟨Q3.gp, 0, none⟩)), (9, .pointer (some ⟨gp, 0, none⟩)), (5, .pointer (some ⟨gdk, 0, none⟩)), (1, .slice (some ⟨b, o, none⟩) l.length c)] (80 - (i + 1)) ⟨i + 1, Q3, p', s', R3, x', rfl, by omega, hlt, h4.fr0 hf5, sm4, hgd3, hgp3, rfl⟩ (by omega) ⟨rfl, rfl, rfl, rfl, rfl, trivial⟩
end Go.Proofs.YthdlljlcffokbaaDoor
