/- The document's pager: new, formatted, committed, opened. No condition. -/
import Derived.Test.YthdlljlcffokbaaDoorZRf3
import Derived.Test.YthdlljlcffokbaaDoorZb1
namespace Go.Proofs.YthdlljlcffokbaaDoor
open Go.RowKit

section
variable {P : Program} {e : Env} {w : World} {o : Oper}
theorem y_remV {t t' : Nat} {k : IntKind} {a b c : Nat} {x y : Operand} (ho : o.op = .binOp .rem t x y t') (hx : ev e x = some (.int k (a : Int))) (hy : ev e y = some (.int k (b : Int))) (hb : 0 < b) (hc : a % b = c) : Y P e o w (.int k (c : Int)) := by
  have := y_rem (P := P) (w := w) ho hx hy (by omega) (by omega)
  rw [show ((a : Int) % (b : Int)) = ((a % b : Nat) : Int) from by omega, hc] at this
  exact this
end
theorem two_built (a b : Int) : Tryd.prog.built 93 [(0, .int .i64 a), (1, .int .i64 b)] = some #[.int .i64 a, .int .i64 b] := by kernel_rfl
theorem rdisk_built (n gw : Nat) : Tryd.prog.built 95 [(0, .int .i64 (n : Int)), (1, .map (some gw)), (2, .agg #[.int .i64 (-1), .int .i64 (-1)])] = some #[.int .i64 (n : Int), .map (some gw), .int .i64 (-1), .int .i64 (-1), .int .i64 0, .int .i64 0] := by kernel_rfl
theorem rpager_built3 (gd gs n : Nat) : Tryd.prog.built 97 [(0, .pointer (some ⟨gd, 0, none⟩)), (1, .slice (some ⟨gs, 0, none⟩) n n), (2, .int .i64 1)] = some #[.pointer (some ⟨gd, 0, none⟩), .slice (some ⟨gs, 0, none⟩) n n, .int .i64 1, .int .i64 0] := by kernel_rfl
theorem rpager_built4 (gd gs n : Nat) (a b : Int) : Tryd.prog.built 97 [(0, .pointer (some ⟨gd, 0, none⟩)), (1, .slice (some ⟨gs, 0, none⟩) n n), (2, .int .i64 a), (3, .int .i64 b)] = some #[.pointer (some ⟨gd, 0, none⟩), .slice (some ⟨gs, 0, none⟩) n n, .int .i64 a, .int .i64 b] := by kernel_rfl
theorem two_size : (Tryd.prog.info? 93).map (·.size) = some 2 := by kernel_rfl
/-- The document's disk alone. -/
structure RdAt (w : World) (gd gw n : Nat) (f : Pgs) (s0 s1 r0 r1 : Int) : Prop where
  hd : Blk w gd 95 [.int .i64 (n : Int), .map (some gw), .int .i64 s0, .int .i64 s1, .int .i64 r0, .int .i64 r1]
  hw : Mi w gw (strs f)
theorem RfAt.disk {w : World} {R : RP} {x : RX} (h : RfAt w R x) : RdAt w R.gd R.gw x.st.length x.wrote x.s0 x.s1 x.r0 x.r1 := ⟨h.hd, h.hw⟩
theorem blk_mi' {w : World} {g g' : Nat} {t : TypeId} {cs : List Value} {f : Int → Option Value} (h : Blk w g t cs) (h' : Mi w g' f) : g ≠ g' := by
  rintro rfl
  obtain ⟨es, cl, hm, _⟩ := h'
  unfold Blk at h
  rw [hm] at h
  cases h
set_option maxHeartbeats 2000000 in
theorem rnew_ok (n : Nat) (w : World) : Calls Tryd.prog 25 #[.int .i64 (n : Int)] w fun e w' => ∃ gd gw, e = .returned (.pointer (some ⟨gd, 0, none⟩)) ∧ RdAt w' gd gw n (fun _ => none) (-1) (-1) 0 0 ∧ w.heap.size ≤ gd ∧ w.heap.size ≤ gw ∧ Fr0 w w' := by
  refine sx_enter (vs := [_]) Tryd.func25 rfl Tryd.ntmps25 rfl ?_
  refine sx_seq ?_
  refine sx_region ?_
  refine sxl_y (wn_none rfl) rfl rfl (yp rfl) ?_
  refine sxl_nil ?_
  refine qx_seq ?_
  refine sx_seq ?_
  refine sx_region ?_
  refine sxl_y (wn_none rfl) rfl rfl (yp rfl) ?_
  refine sxl_does (some 4) (wn_none rfl) rfl rfl (fun ρ hρ => does_mapI rfl) ?_
  rintro _ w1 ⟨gw, rfl, h1, h2, hM, hf1⟩
  refine sxl_y (wn_none rfl) rfl rfl (y_build rfl rfl (two_built (-1) (-1))) ?_
  refine sxl_y (wn_none rfl) rfl rfl (y_build rfl rfl (rdisk_built n gw)) ?_
  refine sxl_does (some 7) (wn_none rfl) rfl rfl (fun ρ hρ => does_box 95 (.tmp 6) rfl [.int .i64 (n : Int), .map (some gw), .int .i64 (-1), .int .i64 (-1), .int .i64 0, .int .i64 0] (by rw [hρ _ _ rfl]; rfl)) ?_
  rintro _ w2 ⟨gd, rfl, h3, h4, hb2, hf2⟩
  have hz1 := hf1.size
  refine sxl_y (wn_none rfl) rfl rfl (yp rfl) ?_
  refine sxl_nil ?_
  refine qx_seq ?_
  refine sx_ret ?_
  refine qx_ret1 rfl rfl ?_
  exact ⟨gd, gw, rfl, ⟨hb2, hM.fr hf2 (fun hh => hh)⟩, by omega, h1, hf1.trans hf2⟩
set_option maxHeartbeats 4000000 in
theorem rformat_ok {w : World} {gd gw n : Nat} {f : Pgs} {s0 s1 r0 r1 : Int} (h : RdAt w gd gw n f s0 s1 r0 r1) (hn : 3 ≤ n) (hn2 : n ≤ 100000) :
    Calls Tryd.prog 24 #[.pointer (some ⟨gd, 0, none⟩)] w fun e w' => ∃ gp gs, e = .returned (.tuple #[.pointer (some ⟨gp, 0, none⟩), .int .i64 0]) ∧ RfAt w' ⟨gp, gd, gs, gw⟩ ⟨f, 1, 0, 0, 0, 1, 0, List.replicate n 0⟩ ∧ w.heap.size ≤ gp ∧ w.heap.size ≤ gs ∧ Fr (fun b => b = gd) w w' := by
  have d0 : Cell w.heap gd 0 (.int .i64 (n : Int)) := h.hd.c 0 rfl
  have hgw : gd ≠ gw := blk_mi' h.hd h.hw
  refine sx_enter (vs := [_]) Tryd.func24 rfl Tryd.ntmps24 rfl ?_
  refine sx_seq ?_
  refine sx_region ?_
  iterate 2 refine sxl_y (wn_none rfl) rfl rfl (yp rfl) ?_
  refine sxl_nil ?_
  refine qx_seq ?_
  refine sx_seq ?_
  refine sx_seq ?_
  refine sx_region ?_
  iterate 3 refine sxl_y (wn_none rfl) rfl rfl (yp rfl) ?_
  refine sxl_y (wn_none rfl) rfl rfl (y_load rfl rfl (sc rfl) (by assumption)) ?_
  refine sxl_y (wn_none rfl) rfl rfl (y_lss_f rfl rfl rfl (by omega)) ?_
  refine sxl_nil ?_
  refine qx_seq ?_
  refine sx_false rfl ?_
  refine sx_skip ?_
  refine qx_seq ?_
  refine sx_seq ?_
  refine sx_region ?_
  refine sxl_y (wn_none rfl) rfl rfl (yp rfl) ?_
  refine sxl_y (wn_none rfl) rfl rfl (y_build rfl rfl (two_built 1 0)) ?_
  iterate 2 refine sxl_y (wn_none rfl) rfl rfl (yp rfl) ?_
  refine sxl_does none (wn_none rfl) rfl rfl (fun ρ hρ => does_store 93 (.tmp 12) (.tmp 10) rfl gd (0 + 2) 95 _ [.int .i64 1, .int .i64 0] (hρ _ _ rfl) (hρ _ _ rfl) h.hd (by rw [two_size]; rfl) (by simp) (by simp [Value.oneCell'])) ?_
  rintro _ w1 ⟨rfl, hb1, hf1⟩
  refine sxl_nil ?_
  refine qx_seq ?_
  refine sx_seq ?_
  refine sx_region ?_
  refine sxl_y (wn_none rfl) rfl rfl (yp rfl) ?_
  refine sxl_y (wn_none rfl) rfl rfl (y_build rfl rfl (two_built 0 0)) ?_
  iterate 2 refine sxl_y (wn_none rfl) rfl rfl (yp rfl) ?_
  refine sxl_does none (wn_none rfl) rfl rfl (fun ρ hρ => does_store 93 (.tmp 16) (.tmp 14) rfl gd (0 + 4) 95 _ [.int .i64 0, .int .i64 0] (hρ _ _ rfl) (hρ _ _ rfl) hb1 (by rw [two_size]; rfl) (by simp [put]) (by simp [Value.oneCell'])) ?_
  rintro _ w2 ⟨rfl, hb2, hf2⟩
  have hb2 : Blk w2 gd 95 [.int .i64 (n : Int), .map (some gw), .int .i64 1, .int .i64 0, .int .i64 0, .int .i64 0] := hb2
  have d0 : Cell w2.heap gd 0 (.int .i64 (n : Int)) := hb2.c 0 rfl
  refine sxl_nil ?_
  refine qx_seq ?_
  refine sx_seq ?_
  refine sx_region ?_
  iterate 4 refine sxl_y (wn_none rfl) rfl rfl (yp rfl) ?_
  refine sxl_y (wn_none rfl) rfl rfl (y_load rfl rfl (sc rfl) (by assumption)) ?_
  refine sxl_does (some 22) (wn_none rfl) rfl rfl (fun ρ hρ => does_make1 55 (.tmp 21) (.tmp 21) rfl 3 (.int .i64 0) 8 n Tryd.underlying55 info_int1 rfl (hρ _ _ rfl) (hρ _ _ rfl) (by omega) (by omega)) ?_
  rintro _ w3 ⟨gs, rfl, hg1, hg2, hb3, hf3⟩
  refine sxl_y (wn_none rfl) rfl rfl (y_build rfl rfl (rpager_built3 gd gs n)) ?_
  refine sxl_does (some 24) (wn_none rfl) rfl rfl (fun ρ hρ => does_box 97 (.tmp 23) rfl [.pointer (some ⟨gd, 0, none⟩), .slice (some ⟨gs, 0, none⟩) n n, .int .i64 1, .int .i64 0] (by rw [hρ _ _ rfl]; rfl)) ?_
  rintro _ w4 ⟨gp, rfl, hp1, hp2, hb4, hf4⟩
  have hz1 := hf1.size
  have hz2 := hf2.size
  have hz3 := hf3.size
  iterate 2 refine sxl_y (wn_none rfl) rfl rfl (yp rfl) ?_
  refine sxl_nil ?_
  refine qx_seq ?_
  refine sx_ret ?_
  refine qx_ret2 rfl rfl rfl ?_
  refine ⟨gp, gs, rfl, ⟨?_, ?_, ?_, ?_⟩, by omega, by omega, ((hf1.trans hf2).then0 hf3).then0 hf4⟩
  · show Blk w4 gp _ [_, .slice _ (List.replicate n (0 : Int)).length (List.replicate n (0 : Int)).length, _, _]
    rw [List.length_replicate]; exact hb4
  · show Blk w4 gd _ [.int .i64 ((List.replicate n (0 : Int)).length : Int), _, _, _, _, _]
    rw [List.length_replicate]; exact (hb2.fr0 hf3).fr0 hf4
  · show Blk w4 gs _ (iv (List.replicate n 0))
    unfold iv; rw [List.map_replicate]; exact hb3.fr0 hf4
  · exact (((h.hw.fr hf1 (fun e => hgw e.symm)).fr hf2 (fun e => hgw e.symm)).fr hf3 (fun hh => hh)).fr hf4 (fun hh => hh)
section
variable {w w' : World} {R : RP} {x x' : RX}
theorem RfTo.setP (h : RfAt w R x) (hf : Fr (fun b => b = R.gp) w w') (hb : Blk w' R.gp 97 (x'.pcells R.gd R.gs)) (hst : x'.st = x.st) (hw : x'.wrote = x.wrote) (hd : x'.s0 = x.s0 ∧ x'.s1 = x.s1 ∧ x'.r0 = x.r0 ∧ x'.r1 = x.r1) : RfTo w w' R x' := by
  obtain ⟨d1, d2, d3, d4⟩ := hd
  refine ⟨⟨hb, ?_, ?_, ?_⟩, hf.mono (fun _ _ e => .inl e)⟩
  · have := h.hd.fr hf (fun e => h.n1 e.symm)
    unfold RX.dcells at this ⊢
    rw [hst, d1, d2, d3, d4]; exact this
  · rw [hst]; exact h.hs.fr hf (fun e => h.n2 e.symm)
  · rw [hw]; exact h.hw.fr hf (fun e => h.n4 e.symm)
theorem RfTo.setD (h : RfAt w R x) (hf : Fr (fun b => b = R.gd) w w') (hb : Blk w' R.gd 95 (x'.dcells x.st.length R.gw)) (hst : x'.st = x.st) (hw : x'.wrote = x.wrote) (hd : x'.seq = x.seq ∧ x'.root = x.root) : RfTo w w' R x' := by
  obtain ⟨d1, d2⟩ := hd
  refine ⟨⟨?_, by rw [hst]; exact hb, ?_, ?_⟩, hf.mono (fun _ _ e => .inr (.inl e))⟩
  · have := h.hp.fr hf h.n1
    unfold RX.pcells at this ⊢
    rw [hst, d1, d2]; exact this
  · rw [hst]; exact h.hs.fr hf (fun e => h.n3 e.symm)
  · rw [hw]; exact h.hw.fr hf (fun e => h.n5 e.symm)
end
section
variable {P : Program} {Q : Exit → Act → World → Prop} {n : Nat} {e : Env} {w : World}
/-- Several ways come behind three parts: what follows is walked once. -/
theorem sx_cut3 {a b c d : Code} (r : Env) (h : Sx P d Q n r w) (k : (∀ e, r.le e → Sx P d Q n e w) → Sx P (.seq a (.seq b (.seq c d))) Q n e w) : Sx P (.seq a (.seq b (.seq c d))) Q n e w := k fun _ hl => sx_weak hl h
end
/-- A meta's number was written, in the document's words. -/
def RX.metaS (x : RX) (c : Nat) (sq : Int) : RX := if c = 0 then { x with s0 := sq } else { x with s1 := sq }
/-- A meta was written, in the document's words. -/
def RX.meta (x : RX) (c : Nat) (sq r : Int) : RX := if c = 0 then { x with s0 := sq, r0 := r } else { x with s1 := sq, r1 := r }
section
variable {w : World} {R : RP} {x : RX}
set_option maxHeartbeats 4000000 in
theorem rcommit_no (h : RfAt w R x) (root : Int) (h0 : root ≠ 0) (hc : (root < 2 ∨ (x.st.length : Int) ≤ root) ∨ (lst x.st root ≠ 1 ∧ lst x.st root ≠ 3)) :
    Calls Tryd.prog 26 #[.pointer (some ⟨R.gp, 0, none⟩), .int .i64 root] w fun e w' => e = .returned (.int .i64 (if root < 2 ∨ (x.st.length : Int) ≤ root then 1 else 250)) ∧ w = w' := by
  have c1 := h.c1
  by_cases hn : root < 2 ∨ (x.st.length : Int) ≤ root
  · rw [if_pos hn]
    refine sx_enter (vs := [_, _]) Tryd.func26 rfl Tryd.ntmps26 rfl ?_
    refine sx_seq ?_
    refine sx_region ?_
    refine sxl_y (wn_none rfl) rfl rfl (yp rfl) ?_
    refine sxl_nil ?_
    refine qx_seq ?_
    refine sx_seq ?_
    refine sx_seq ?_
    refine sx_region ?_
    refine sxl_y (wn_none rfl) rfl rfl (yp rfl) ?_
    refine sxl_y (wn_none rfl) rfl rfl (y_neq_t rfl rfl rfl (by omega)) ?_
    refine sxl_y (wn_none rfl) rfl rfl (yp rfl) ?_
    refine sxl_y (wn_on rfl rfl rfl) rfl rfl (yp rfl) ?_
    refine sxl_y (wn_on rfl rfl rfl) rfl rfl (yp rfl) ?_
    refine sxl_pure (wn_on rfl rfl rfl) rfl rfl (yc_call rfl rfl Tryd.call44) (rpage_f h hn) ?_
    refine sxl_y (wn_on rfl rfl rfl) rfl rfl (yp rfl) ?_
    refine sxl_y (wn_none rfl) rfl rfl (yp rfl) ?_
    refine sxl_nil ?_
    refine qx_seq ?_
    refine sx_true rfl ?_
    refine sx_seq ?_
    refine sx_region ?_
    refine sxl_y (wn_none rfl) rfl rfl (yp rfl) ?_
    refine sxl_nil ?_
    refine qx_seq ?_
    refine sx_ret ?_
    refine qx_then_ret ?_
    refine qx_ret1 rfl rfl ?_
    exact ⟨rfl, rfl⟩
  rw [if_neg hn]
  obtain ⟨h1, h3⟩ := hc.resolve_left hn
  obtain ⟨k, rfl⟩ : ∃ k : Nat, root = (k : Int) := ⟨root.toNat, by omega⟩
  have hlt : k < x.st.length := by omega
  have hpt := rpage_t h (n := (k : Int)) (by omega) (by omega)
  obtain ⟨v, hv⟩ : ∃ v, x.st[k]? = some v := ⟨_, List.getElem?_eq_getElem hlt⟩
  have ce := h.cs hv
  rw [lst_at hv] at h1 h3
  refine sx_enter (vs := [_, _]) Tryd.func26 rfl Tryd.ntmps26 rfl ?_
  refine sx_seq ?_
  refine sx_region ?_
  refine sxl_y (wn_none rfl) rfl rfl (yp rfl) ?_
  refine sxl_nil ?_
  refine qx_seq ?_
  refine sx_seq ?_
  refine sx_seq ?_
  refine sx_region ?_
  refine sxl_y (wn_none rfl) rfl rfl (yp rfl) ?_
  refine sxl_y (wn_none rfl) rfl rfl (y_neq_t rfl rfl rfl (by omega)) ?_
  refine sxl_y (wn_none rfl) rfl rfl (yp rfl) ?_
  refine sxl_y (wn_on rfl rfl rfl) rfl rfl (yp rfl) ?_
  refine sxl_y (wn_on rfl rfl rfl) rfl rfl (yp rfl) ?_
  refine sxl_pure (wn_on rfl rfl rfl) rfl rfl (yc_call rfl rfl Tryd.call44) (hpt) ?_
  refine sxl_y (wn_on rfl rfl rfl) rfl rfl (yp rfl) ?_
  refine sxl_y (wn_none rfl) rfl rfl (yp rfl) ?_
  refine sxl_nil ?_
  refine qx_seq ?_
  refine sx_false rfl ?_
  refine sx_skip ?_
  refine qx_seq ?_
  refine sx_seq ?_
  refine sx_seq ?_
  refine sx_region ?_
  refine sxl_y (wn_none rfl) rfl rfl (yp rfl) ?_
  refine sxl_y (wn_none rfl) rfl rfl (y_neq_t rfl rfl rfl (by omega)) ?_
  refine sxl_y (wn_none rfl) rfl rfl (yp rfl) ?_
  refine sxl_y (wn_on rfl rfl rfl) rfl rfl (yp rfl) ?_
  refine sxl_y (wn_on rfl rfl rfl) rfl rfl (yp rfl) ?_
  refine sxl_y (wn_on rfl rfl rfl) rfl rfl (yp rfl) ?_
  refine sxl_y (wn_on rfl rfl rfl) rfl rfl (y_load rfl rfl (sc rfl) (by assumption)) ?_
  refine sxl_y (wn_on rfl rfl rfl) rfl rfl (yp rfl) ?_
  refine sxl_y (wn_on rfl rfl rfl) rfl rfl (y_indexN rfl rfl rfl (sl rfl) (by omega)) ?_
  refine sxl_y (wn_on rfl rfl rfl) rfl rfl (y_load rfl rfl (sc rfl) (by assumption)) ?_
  refine sxl_y (wn_on rfl rfl rfl) rfl rfl (y_neq_t rfl rfl rfl (by omega)) ?_
  iterate 2 refine sxl_y (wn_none rfl) rfl rfl (yp rfl) ?_
  refine sxl_y (wn_on rfl rfl rfl) rfl rfl (yp rfl) ?_
  refine sxl_y (wn_on rfl rfl rfl) rfl rfl (yp rfl) ?_
  refine sxl_y (wn_on rfl rfl rfl) rfl rfl (yp rfl) ?_
  refine sxl_y (wn_on rfl rfl rfl) rfl rfl (y_load rfl rfl (sc rfl) (by assumption)) ?_
  refine sxl_y (wn_on rfl rfl rfl) rfl rfl (yp rfl) ?_
  refine sxl_y (wn_on rfl rfl rfl) rfl rfl (y_indexN rfl rfl rfl (sl rfl) (by omega)) ?_
  refine sxl_y (wn_on rfl rfl rfl) rfl rfl (y_load rfl rfl (sc rfl) (by assumption)) ?_
  refine sxl_y (wn_on rfl rfl rfl) rfl rfl (y_neq_t rfl rfl rfl (by omega)) ?_
  refine sxl_y (wn_none rfl) rfl rfl (yp rfl) ?_
  refine sxl_nil ?_
  refine qx_seq ?_
  refine sx_true rfl ?_
  refine sx_seq ?_
  refine sx_region ?_
  refine sxl_y (wn_none rfl) rfl rfl (yp rfl) ?_
  refine sxl_nil ?_
  refine qx_seq ?_
  refine sx_ret ?_
  refine qx_then_ret ?_
  refine qx_ret1 rfl rfl ?_
  exact ⟨rfl, rfl⟩
set_option maxHeartbeats 32000000 in
theorem rcommit_ok (h : RfAt w R x) (q root : Nat) (hq : x.seq = q) (hq2 : q ≤ 1000000) (hs : x.st.length ≤ 100000) (hs2 : 2 ≤ x.st.length) (hc : root = 0 ∨ (2 ≤ root ∧ root < x.st.length ∧ (lst x.st (root : Int) = 1 ∨ lst x.st (root : Int) = 3))) :
    Calls Tryd.prog 26 #[.pointer (some ⟨R.gp, 0, none⟩), .int .i64 (root : Int)] w fun e w' => ∃ st', e = .returned (.int .i64 0) ∧ Turned 1 0 x.st st' ∧ RfTo w w' R { x.meta ((q + 1) % 2) ((q + 1 : Nat) : Int) (root : Int) with seq := ((q + 1 : Nat) : Int), root := (root : Int), st := st' } := by
  have c1 := h.c1
  have c2 := h.c2
  rw [hq] at c2
  obtain ⟨cc, hcc⟩ : ∃ cc, (q + 1) % 2 = cc := ⟨_, rfl⟩
  have hcc2 : cc < 2 := by rw [← hcc]; exact Nat.mod_lt _ (by decide)
  rw [hcc]
  have e2 : ((2 : Nat) : Int) = 2 := rfl
  refine sx_enter (vs := [_, _]) Tryd.func26 rfl Tryd.ntmps26 rfl ?_
  refine sx_cut3 [(0, .pointer (some ⟨R.gp, 0, none⟩)), (1, .int .i64 (root : Int))] ?_ ?_
  rotate_left
  · intro main
    rcases hc with rfl | ⟨h1, h3, h4⟩
    · refine sx_seq ?_
      refine sx_region ?_
      refine sxl_y (wn_none rfl) rfl rfl (yp rfl) ?_
      refine sxl_nil ?_
      refine qx_seq ?_
      refine sx_seq ?_
      refine sx_seq ?_
      refine sx_region ?_
      refine sxl_y (wn_none rfl) rfl rfl (yp rfl) ?_
      refine sxl_y (wn_none rfl) rfl rfl (y_neq_f rfl rfl rfl (by omega)) ?_
      refine sxl_y (wn_none rfl) rfl rfl (yp rfl) ?_
      refine sxl_off rfl rfl rfl rfl rfl rfl ?_
      refine sxl_off rfl rfl rfl rfl rfl rfl ?_
      refine sxl_off rfl rfl rfl rfl rfl rfl ?_
      refine sxl_off rfl rfl rfl rfl rfl rfl ?_
      refine sxl_y (wn_none rfl) rfl rfl (yp rfl) ?_
      refine sxl_nil ?_
      refine qx_seq ?_
      refine sx_false rfl ?_
      refine sx_skip ?_
      refine qx_seq ?_
      refine sx_seq ?_
      refine sx_seq ?_
      refine sx_region ?_
      refine sxl_y (wn_none rfl) rfl rfl (yp rfl) ?_
      refine sxl_y (wn_none rfl) rfl rfl (y_neq_f rfl rfl rfl (by omega)) ?_
      refine sxl_y (wn_none rfl) rfl rfl (yp rfl) ?_
      refine sxl_off rfl rfl rfl rfl rfl rfl ?_
      refine sxl_off rfl rfl rfl rfl rfl rfl ?_
      refine sxl_off rfl rfl rfl rfl rfl rfl ?_
      refine sxl_off rfl rfl rfl rfl rfl rfl ?_
      refine sxl_off rfl rfl rfl rfl rfl rfl ?_
      refine sxl_off rfl rfl rfl rfl rfl rfl ?_
      refine sxl_off rfl rfl rfl rfl rfl rfl ?_
      refine sxl_off rfl rfl rfl rfl rfl rfl ?_
      iterate 2 refine sxl_y (wn_none rfl) rfl rfl (yp rfl) ?_
      refine sxl_off rfl rfl rfl rfl rfl rfl ?_
      refine sxl_off rfl rfl rfl rfl rfl rfl ?_
      refine sxl_off rfl rfl rfl rfl rfl rfl ?_
      refine sxl_off rfl rfl rfl rfl rfl rfl ?_
      refine sxl_off rfl rfl rfl rfl rfl rfl ?_
      refine sxl_off rfl rfl rfl rfl rfl rfl ?_
      refine sxl_off rfl rfl rfl rfl rfl rfl ?_
      refine sxl_off rfl rfl rfl rfl rfl rfl ?_
      refine sxl_y (wn_none rfl) rfl rfl (yp rfl) ?_
      refine sxl_nil ?_
      refine qx_seq ?_
      refine sx_false rfl ?_
      refine sx_skip ?_
      refine qx_seq ?_
      exact main _ ⟨rfl, rfl, trivial⟩
    obtain ⟨v, hv⟩ : ∃ v, x.st[root]? = some v := ⟨_, List.getElem?_eq_getElem h3⟩
    have ce := h.cs hv
    have hpt := rpage_t h (n := (root : Int)) (by omega) (by omega)
    rw [lst_at hv] at h4
    rcases h4 with h4 | h4
    · refine sx_seq ?_
      refine sx_region ?_
      refine sxl_y (wn_none rfl) rfl rfl (yp rfl) ?_
      refine sxl_nil ?_
      refine qx_seq ?_
      refine sx_seq ?_
      refine sx_seq ?_
      refine sx_region ?_
      refine sxl_y (wn_none rfl) rfl rfl (yp rfl) ?_
      refine sxl_y (wn_none rfl) rfl rfl (y_neq_t rfl rfl rfl (by omega)) ?_
      refine sxl_y (wn_none rfl) rfl rfl (yp rfl) ?_
      refine sxl_y (wn_on rfl rfl rfl) rfl rfl (yp rfl) ?_
      refine sxl_y (wn_on rfl rfl rfl) rfl rfl (yp rfl) ?_
      refine sxl_pure (wn_on rfl rfl rfl) rfl rfl (yc_call rfl rfl Tryd.call44) (hpt) ?_
      refine sxl_y (wn_on rfl rfl rfl) rfl rfl (yp rfl) ?_
      refine sxl_y (wn_none rfl) rfl rfl (yp rfl) ?_
      refine sxl_nil ?_
      refine qx_seq ?_
      refine sx_false rfl ?_
      refine sx_skip ?_
      refine qx_seq ?_
      refine sx_seq ?_
      refine sx_seq ?_
      refine sx_region ?_
      refine sxl_y (wn_none rfl) rfl rfl (yp rfl) ?_
      refine sxl_y (wn_none rfl) rfl rfl (y_neq_t rfl rfl rfl (by omega)) ?_
      refine sxl_y (wn_none rfl) rfl rfl (yp rfl) ?_
      refine sxl_y (wn_on rfl rfl rfl) rfl rfl (yp rfl) ?_
      refine sxl_y (wn_on rfl rfl rfl) rfl rfl (yp rfl) ?_
      refine sxl_y (wn_on rfl rfl rfl) rfl rfl (yp rfl) ?_
      refine sxl_y (wn_on rfl rfl rfl) rfl rfl (y_load rfl rfl (sc rfl) (by assumption)) ?_
      refine sxl_y (wn_on rfl rfl rfl) rfl rfl (yp rfl) ?_
      refine sxl_y (wn_on rfl rfl rfl) rfl rfl (y_indexN rfl rfl rfl (sl rfl) (by omega)) ?_
      refine sxl_y (wn_on rfl rfl rfl) rfl rfl (y_load rfl rfl (sc rfl) (by assumption)) ?_
      refine sxl_y (wn_on rfl rfl rfl) rfl rfl (y_neq_f rfl rfl rfl (by omega)) ?_
      iterate 2 refine sxl_y (wn_none rfl) rfl rfl (yp rfl) ?_
      refine sxl_off rfl rfl rfl rfl rfl rfl ?_
      refine sxl_off rfl rfl rfl rfl rfl rfl ?_
      refine sxl_off rfl rfl rfl rfl rfl rfl ?_
      refine sxl_off rfl rfl rfl rfl rfl rfl ?_
      refine sxl_off rfl rfl rfl rfl rfl rfl ?_
      refine sxl_off rfl rfl rfl rfl rfl rfl ?_
      refine sxl_off rfl rfl rfl rfl rfl rfl ?_
      refine sxl_off rfl rfl rfl rfl rfl rfl ?_
      refine sxl_y (wn_none rfl) rfl rfl (yp rfl) ?_
      refine sxl_nil ?_
      refine qx_seq ?_
      refine sx_false rfl ?_
      refine sx_skip ?_
      refine qx_seq ?_
      exact main _ ⟨rfl, rfl, trivial⟩
    · refine sx_seq ?_
      refine sx_region ?_
      refine sxl_y (wn_none rfl) rfl rfl (yp rfl) ?_
      refine sxl_nil ?_
      refine qx_seq ?_
      refine sx_seq ?_
      refine sx_seq ?_
      refine sx_region ?_
      refine sxl_y (wn_none rfl) rfl rfl (yp rfl) ?_
      refine sxl_y (wn_none rfl) rfl rfl (y_neq_t rfl rfl rfl (by omega)) ?_
      refine sxl_y (wn_none rfl) rfl rfl (yp rfl) ?_
      refine sxl_y (wn_on rfl rfl rfl) rfl rfl (yp rfl) ?_
      refine sxl_y (wn_on rfl rfl rfl) rfl rfl (yp rfl) ?_
      refine sxl_pure (wn_on rfl rfl rfl) rfl rfl (yc_call rfl rfl Tryd.call44) (hpt) ?_
      refine sxl_y (wn_on rfl rfl rfl) rfl rfl (yp rfl) ?_
      refine sxl_y (wn_none rfl) rfl rfl (yp rfl) ?_
      refine sxl_nil ?_
      refine qx_seq ?_
      refine sx_false rfl ?_
      refine sx_skip ?_
      refine qx_seq ?_
      refine sx_seq ?_
      refine sx_seq ?_
      refine sx_region ?_
      refine sxl_y (wn_none rfl) rfl rfl (yp rfl) ?_
      refine sxl_y (wn_none rfl) rfl rfl (y_neq_t rfl rfl rfl (by omega)) ?_
      refine sxl_y (wn_none rfl) rfl rfl (yp rfl) ?_
      refine sxl_y (wn_on rfl rfl rfl) rfl rfl (yp rfl) ?_
      refine sxl_y (wn_on rfl rfl rfl) rfl rfl (yp rfl) ?_
      refine sxl_y (wn_on rfl rfl rfl) rfl rfl (yp rfl) ?_
      refine sxl_y (wn_on rfl rfl rfl) rfl rfl (y_load rfl rfl (sc rfl) (by assumption)) ?_
      refine sxl_y (wn_on rfl rfl rfl) rfl rfl (yp rfl) ?_
      refine sxl_y (wn_on rfl rfl rfl) rfl rfl (y_indexN rfl rfl rfl (sl rfl) (by omega)) ?_
      refine sxl_y (wn_on rfl rfl rfl) rfl rfl (y_load rfl rfl (sc rfl) (by assumption)) ?_
      refine sxl_y (wn_on rfl rfl rfl) rfl rfl (y_neq_t rfl rfl rfl (by omega)) ?_
      iterate 2 refine sxl_y (wn_none rfl) rfl rfl (yp rfl) ?_
      refine sxl_y (wn_on rfl rfl rfl) rfl rfl (yp rfl) ?_
      refine sxl_y (wn_on rfl rfl rfl) rfl rfl (yp rfl) ?_
      refine sxl_y (wn_on rfl rfl rfl) rfl rfl (yp rfl) ?_
      refine sxl_y (wn_on rfl rfl rfl) rfl rfl (y_load rfl rfl (sc rfl) (by assumption)) ?_
      refine sxl_y (wn_on rfl rfl rfl) rfl rfl (yp rfl) ?_
      refine sxl_y (wn_on rfl rfl rfl) rfl rfl (y_indexN rfl rfl rfl (sl rfl) (by omega)) ?_
      refine sxl_y (wn_on rfl rfl rfl) rfl rfl (y_load rfl rfl (sc rfl) (by assumption)) ?_
      refine sxl_y (wn_on rfl rfl rfl) rfl rfl (y_neq_f rfl rfl rfl (by omega)) ?_
      refine sxl_y (wn_none rfl) rfl rfl (yp rfl) ?_
      refine sxl_nil ?_
      refine qx_seq ?_
      refine sx_false rfl ?_
      refine sx_skip ?_
      refine qx_seq ?_
      exact main _ ⟨rfl, rfl, trivial⟩
  refine sx_seq ?_
  refine sx_region ?_
  iterate 3 refine sxl_y (wn_none rfl) rfl rfl (yp rfl) ?_
  refine sxl_y (wn_none rfl) rfl rfl (y_load rfl rfl (sc rfl) (by assumption)) ?_
  refine sxl_y (wn_none rfl) rfl rfl (y_add rfl rfl rfl (by omega)) ?_
  iterate 2 refine sxl_y (wn_none rfl) rfl rfl (yp rfl) ?_
  refine sxl_does none (wn_none rfl) rfl rfl (fun ρ hρ => does_store1 3 (.tmp 42) _ rfl R.gp 2 97 _ (.int .i64 ((q : Int) + 1)) (hρ _ _ rfl) (hρ _ _ rfl) rfl h.hp (by kernel_rfl) (by simp [RX.pcells]) rfl) ?_
  rintro _ w1 ⟨rfl, hb1, hf1⟩
  refine sxl_nil ?_
  refine qx_seq ?_
  refine sx_seq ?_
  refine sx_region ?_
  iterate 4 refine sxl_y (wn_none rfl) rfl rfl (yp rfl) ?_
  refine sxl_does none (wn_none rfl) rfl rfl (fun ρ hρ => does_store1 3 (.tmp 46) _ rfl R.gp 3 97 _ (.int .i64 (root : Int)) (hρ _ _ rfl) (hρ _ _ rfl) rfl hb1 (by kernel_rfl) (by simp [RX.pcells]) rfl) ?_
  rintro _ w2 ⟨rfl, hb2, hf2⟩
  have hto2 : RfTo w w2 R { x with seq := ((q + 1 : Nat) : Int), root := (root : Int) } := .setP h (hf1.trans hf2) hb2 rfl rfl ⟨rfl, rfl, rfl, rfl⟩
  have c02 : Cell w2.heap R.gp 0 (.pointer (some ⟨R.gd, 0, none⟩)) := hto2.at_.c0
  have c22 : Cell w2.heap R.gp 2 (.int .i64 ((q + 1 : Nat) : Int)) := hto2.at_.c2
  refine sxl_nil ?_
  refine qx_seq ?_
  refine sx_seq ?_
  refine sx_tail 16 hmix (by kernel_rfl) ?_
  have c02 := c02.fr (Fr.refl.drew : Fr0 w2 w2.drew) (fun hh => hh)
  have c22 := c22.fr (Fr.refl.drew : Fr0 w2 w2.drew) (fun hh => hh)
  iterate 3 refine sxs_y (wn_none rfl) rfl rfl (yp rfl) ?_
  refine sxs_y (wn_none rfl) rfl rfl (y_load rfl rfl (sc rfl) (by assumption)) ?_
  iterate 3 refine sxs_y (wn_none rfl) rfl rfl (yp rfl) ?_
  refine sxs_y (wn_none rfl) rfl rfl (y_load rfl rfl (sc rfl) (by assumption)) ?_
  refine sxs_y (wn_none rfl) rfl rfl (y_remV (b := 2) rfl rfl rfl (by decide) hcc) ?_
  iterate 3 refine sxs_y (wn_none rfl) rfl rfl (yp rfl) ?_
  refine sxs_y (wn_none rfl) rfl rfl (y_load rfl rfl (sc rfl) (by assumption)) ?_
  iterate 2 refine sxs_y (wn_none rfl) rfl rfl (yp rfl) ?_
  refine sxs_y (wn_none rfl) rfl rfl (y_indexA rfl rfl rfl (ar rfl) (by omega)) ?_
  refine sxs_tail ?_
  have hto2 : RfTo w w2.drew R { x with seq := ((q + 1 : Nat) : Int), root := (root : Int) } := ⟨hto2.at_.fr0 Fr.refl.drew, hto2.fr.then0 Fr.refl.drew⟩
  refine sxl_does none (wn_none rfl) rfl rfl (fun ρ hρ => does_store1 3 (.tmp 62) _ rfl R.gd (0 + 2 + cc * 1) 95 _ (.int .i64 ((q + 1 : Nat) : Int)) (hρ _ _ rfl) (hρ _ _ rfl) rfl hto2.at_.hd (by kernel_rfl) (by simp [RX.dcells]; omega) rfl) ?_
  rintro _ w3 ⟨rfl, hb3, hf3⟩
  have hto3 : RfTo w w3 R { x.metaS cc ((q + 1 : Nat) : Int) with seq := ((q + 1 : Nat) : Int), root := (root : Int) } := hto2.trans (.setD hto2.at_ hf3 (by
    rcases (show cc = 0 ∨ cc = 1 by omega) with rfl | rfl
    · exact hb3
    · exact hb3) (by unfold RX.metaS; split <;> rfl) (by unfold RX.metaS; split <;> rfl) ⟨rfl, rfl⟩)
  have c03 : Cell w3.heap R.gp 0 (.pointer (some ⟨R.gd, 0, none⟩)) := hto3.at_.c0
  have c23 : Cell w3.heap R.gp 2 (.int .i64 ((q + 1 : Nat) : Int)) := hto3.at_.c2
  refine sxl_nil ?_
  refine qx_seq ?_
  refine sx_seq ?_
  refine sx_tail 13 hmix (by kernel_rfl) ?_
  have c03 := c03.fr (Fr.refl.drew : Fr0 w3 w3.drew) (fun hh => hh)
  have c23 := c23.fr (Fr.refl.drew : Fr0 w3 w3.drew) (fun hh => hh)
  iterate 3 refine sxs_y (wn_none rfl) rfl rfl (yp rfl) ?_
  refine sxs_y (wn_none rfl) rfl rfl (y_load rfl rfl (sc rfl) (by assumption)) ?_
  iterate 3 refine sxs_y (wn_none rfl) rfl rfl (yp rfl) ?_
  refine sxs_y (wn_none rfl) rfl rfl (y_load rfl rfl (sc rfl) (by assumption)) ?_
  refine sxs_y (wn_none rfl) rfl rfl (y_remV (b := 2) rfl rfl rfl (by decide) hcc) ?_
  iterate 3 refine sxs_y (wn_none rfl) rfl rfl (yp rfl) ?_
  refine sxs_y (wn_none rfl) rfl rfl (y_indexA rfl rfl rfl (ar rfl) (by omega)) ?_
  refine sxs_tail ?_
  have hto3 : RfTo w w3.drew R { x.metaS cc ((q + 1 : Nat) : Int) with seq := ((q + 1 : Nat) : Int), root := (root : Int) } := ⟨hto3.at_.fr0 Fr.refl.drew, hto3.fr.then0 Fr.refl.drew⟩
  refine sxl_does none (wn_none rfl) rfl rfl (fun ρ hρ => does_store1 3 (.tmp 75) _ rfl R.gd (0 + 4 + cc * 1) 95 _ (.int .i64 (root : Int)) (hρ _ _ rfl) (hρ _ _ rfl) rfl hto3.at_.hd (by kernel_rfl) (by simp [RX.dcells]; omega) rfl) ?_
  rintro _ w4 ⟨rfl, hb4, hf4⟩
  have hto4 : RfTo w w4 R { x.meta cc ((q + 1 : Nat) : Int) (root : Int) with seq := ((q + 1 : Nat) : Int), root := (root : Int), st := x.st } := hto3.trans (.setD hto3.at_ hf4 (by
    rcases (show cc = 0 ∨ cc = 1 by omega) with rfl | rfl
    · exact hb4
    · exact hb4) (by unfold RX.metaS; split <;> rfl) (by unfold RX.metaS RX.meta; split <;> rfl) ⟨rfl, rfl⟩)
  generalize x.meta cc ((q + 1 : Nat) : Int) (root : Int) = y at hto4
  clear hto2 hto3 hb1 hb2 hb3 hb4 c02 c22 c03 c23
  refine sxl_nil ?_
  refine qx_seq ?_
  refine sx_seq ?_
  refine sx_seq ?_
  refine sx_region ?_
  refine sxl_y (wn_none rfl) rfl rfl (yp rfl) ?_
  refine sxl_nil ?_
  refine qx_seq ?_
  refine sx_block ?_
  refine sx_loop (fun e wr m => ∃ (i : Nat) (st' : List Int), e = [(5, .int .i64 (i : Int)), (0, .pointer (some ⟨R.gp, 0, none⟩))] ∧ 2 ≤ i ∧ i ≤ x.st.length ∧ st'.length = x.st.length ∧ (∀ k : Nat, 2 ≤ k → k < i → lst st' (k : Int) = turnOf 1 0 (lst x.st (k : Int))) ∧ (∀ k : Nat, i ≤ k → lst st' (k : Int) = lst x.st (k : Int)) ∧ RfTo w wr R { y with seq := ((q + 1 : Nat) : Int), root := (root : Int), st := st' } ∧ m = x.st.length - i)
    ⟨2, x.st, rfl, Nat.le_refl _, hs2, rfl, (fun k h1 h2 => by omega), (fun k _ => rfl), hto4, rfl⟩ ⟨rfl, rfl, trivial⟩ ?_
  rintro _ wr _ ⟨i, st', rfl, h2, hi, hln, hdone, hrest, hto, rfl⟩
  have c1 : Cell wr.heap R.gp 1 (.slice (some ⟨R.gs, 0, none⟩) st'.length st'.length) := hto.at_.c1
  by_cases hlt : i < x.st.length
  · have hlt' : i < st'.length := by omega
    obtain ⟨v, hv⟩ : ∃ v, st'[i]? = some v := ⟨_, List.getElem?_eq_getElem hlt'⟩
    have ce : Cell wr.heap R.gs (0 + i * 1) (.int .i64 v) := hto.at_.cs hv
    have hlv : lst x.st (i : Int) = v := by rw [← hrest i (Nat.le_refl _)]; exact lst_at hv
    have again : ∀ (w1 : World) (u : Int), turnOf 1 0 v = u → RfTo wr w1 R { y with seq := ((q + 1 : Nat) : Int), root := (root : Int), st := st'.set i u } → ∃ (i' : Nat) (st'' : List Int), [(5, Value.int .i64 ((i + 1 : Nat) : Int)), (0, .pointer (some ⟨R.gp, 0, none⟩))] = [(5, Value.int .i64 (i' : Int)), (0, .pointer (some ⟨R.gp, 0, none⟩))] ∧ 2 ≤ i' ∧ i' ≤ x.st.length ∧ st''.length = x.st.length ∧ (∀ k : Nat, 2 ≤ k → k < i' → lst st'' (k : Int) = turnOf 1 0 (lst x.st (k : Int))) ∧ (∀ k : Nat, i' ≤ k → lst st'' (k : Int) = lst x.st (k : Int)) ∧ RfTo w w1 R { y with seq := ((q + 1 : Nat) : Int), root := (root : Int), st := st'' } ∧ x.st.length - (i + 1) = x.st.length - i' := fun w1 u hu h1 => by
      refine ⟨i + 1, _, rfl, by omega, hlt, by rw [List.length_set]; exact hln, fun k hk1 hk2 => ?_, fun k hk => ?_, hto.trans h1, rfl⟩
      · rw [lst_set hlt']
        unfold updS
        by_cases e : (k : Int) = (i : Int)
        · rw [if_pos e, e, hlv, hu]
        · rw [if_neg e]; exact hdone k hk1 (by omega)
      · rw [lst_set hlt']
        unfold updS
        rw [if_neg (by omega)]; exact hrest k (by omega)
    by_cases e2 : v = 2
    · refine sx_seq ?_
      refine sx_seq ?_
      refine sx_region ?_
      iterate 4 refine sxl_y (wn_none rfl) rfl rfl (yp rfl) ?_
      refine sxl_y (wn_none rfl) rfl rfl (y_load rfl rfl (sc rfl) (by assumption)) ?_
      refine sxl_y (wn_none rfl) rfl rfl (y_len rfl rfl (sl rfl)) ?_
      refine sxl_y (wn_none rfl) rfl rfl (y_lss_t rfl rfl rfl (by omega)) ?_
      refine sxl_nil ?_
      refine qx_seq ?_
      refine sx_true rfl ?_
      refine sx_skip ?_
      refine qx_seq ?_
      refine sx_seq ?_
      refine sx_block ?_
      refine sx_seq ?_
      refine sx_region ?_
      iterate 3 refine sxl_y (wn_none rfl) rfl rfl (yp rfl) ?_
      refine sxl_y (wn_none rfl) rfl rfl (y_load rfl rfl (sc rfl) (by assumption)) ?_
      refine sxl_y (wn_none rfl) rfl rfl (yp rfl) ?_
      refine sxl_y (wn_none rfl) rfl rfl (y_indexN rfl rfl rfl (sl rfl) (by omega)) ?_
      refine sxl_y (wn_none rfl) rfl rfl (y_load rfl rfl (sc rfl) (by assumption)) ?_
      refine sxl_nil ?_
      refine qx_seq ?_
      refine sx_block ?_
      refine sx_seq ?_
      refine sx_seq ?_
      refine sx_region ?_
      refine sxl_y (wn_none rfl) rfl rfl (y_eql_t rfl rfl rfl (by omega)) ?_
      refine sxl_y (wn_none rfl) rfl rfl (yp rfl) ?_
      refine sxl_nil ?_
      refine qx_seq ?_
      refine sx_true rfl ?_
      refine sx_skip ?_
      refine qx_seq ?_
      refine sx_true rfl ?_
      refine sx_region ?_
      iterate 3 refine sxl_y (wn_none rfl) rfl rfl (yp rfl) ?_
      refine sxl_y (wn_none rfl) rfl rfl (y_load rfl rfl (sc rfl) (by assumption)) ?_
      refine sxl_y (wn_none rfl) rfl rfl (yp rfl) ?_
      refine sxl_y (wn_none rfl) rfl rfl (y_indexN rfl rfl rfl (sl rfl) (by omega)) ?_
      refine sxl_does none (wn_none rfl) rfl rfl (fun ρ hρ => does_st (k := i) (v := 1) rfl (hρ _ _ rfl) (hρ _ _ rfl) hto.at_ hlt') ?_
      rintro _ w1 ⟨rfl, h1⟩
      refine sxl_nil ?_
      refine qx_block_normal ?_
      refine qx_block_normal ?_
      refine qx_seq ?_
      refine sx_region ?_
      refine sxl_y (wn_none rfl) rfl rfl (yp rfl) ?_
      refine sxl_y (wn_none rfl) rfl rfl (y_add rfl rfl rfl (by omega)) ?_
      refine sxl_y (wn_none rfl) rfl rfl (yp rfl) ?_
      refine sxl_nil ?_
      exact qx_again [(5, .int .i64 ((i + 1 : Nat) : Int)), (0, .pointer (some ⟨R.gp, 0, none⟩))] (x.st.length - (i + 1)) (again w1 1 (by rw [e2]; rfl) h1) (by omega) ⟨rfl, rfl, trivial⟩
    by_cases e3 : v = 3
    · refine sx_seq ?_
      refine sx_seq ?_
      refine sx_region ?_
      iterate 4 refine sxl_y (wn_none rfl) rfl rfl (yp rfl) ?_
      refine sxl_y (wn_none rfl) rfl rfl (y_load rfl rfl (sc rfl) (by assumption)) ?_
      refine sxl_y (wn_none rfl) rfl rfl (y_len rfl rfl (sl rfl)) ?_
      refine sxl_y (wn_none rfl) rfl rfl (y_lss_t rfl rfl rfl (by omega)) ?_
      refine sxl_nil ?_
      refine qx_seq ?_
      refine sx_true rfl ?_
      refine sx_skip ?_
      refine qx_seq ?_
      refine sx_seq ?_
      refine sx_block ?_
      refine sx_seq ?_
      refine sx_region ?_
      iterate 3 refine sxl_y (wn_none rfl) rfl rfl (yp rfl) ?_
      refine sxl_y (wn_none rfl) rfl rfl (y_load rfl rfl (sc rfl) (by assumption)) ?_
      refine sxl_y (wn_none rfl) rfl rfl (yp rfl) ?_
      refine sxl_y (wn_none rfl) rfl rfl (y_indexN rfl rfl rfl (sl rfl) (by omega)) ?_
      refine sxl_y (wn_none rfl) rfl rfl (y_load rfl rfl (sc rfl) (by assumption)) ?_
      refine sxl_nil ?_
      refine qx_seq ?_
      refine sx_block ?_
      refine sx_seq ?_
      refine sx_seq ?_
      refine sx_region ?_
      refine sxl_y (wn_none rfl) rfl rfl (y_eql_f rfl rfl rfl (by omega)) ?_
      refine sxl_y (wn_none rfl) rfl rfl (yp rfl) ?_
      refine sxl_nil ?_
      refine qx_seq ?_
      refine sx_false rfl ?_
      refine sx_region ?_
      refine sxl_y (wn_none rfl) rfl rfl (y_eql_t rfl rfl rfl (by omega)) ?_
      refine sxl_y (wn_none rfl) rfl rfl (yp rfl) ?_
      refine sxl_nil ?_
      refine qx_seq ?_
      refine sx_true rfl ?_
      refine sx_region ?_
      iterate 3 refine sxl_y (wn_none rfl) rfl rfl (yp rfl) ?_
      refine sxl_y (wn_none rfl) rfl rfl (y_load rfl rfl (sc rfl) (by assumption)) ?_
      refine sxl_y (wn_none rfl) rfl rfl (yp rfl) ?_
      refine sxl_y (wn_none rfl) rfl rfl (y_indexN rfl rfl rfl (sl rfl) (by omega)) ?_
      refine sxl_does none (wn_none rfl) rfl rfl (fun ρ hρ => does_st (k := i) (v := 1) rfl (hρ _ _ rfl) (hρ _ _ rfl) hto.at_ hlt') ?_
      rintro _ w1 ⟨rfl, h1⟩
      refine sxl_nil ?_
      refine qx_block_normal ?_
      refine qx_block_normal ?_
      refine qx_seq ?_
      refine sx_region ?_
      refine sxl_y (wn_none rfl) rfl rfl (yp rfl) ?_
      refine sxl_y (wn_none rfl) rfl rfl (y_add rfl rfl rfl (by omega)) ?_
      refine sxl_y (wn_none rfl) rfl rfl (yp rfl) ?_
      refine sxl_nil ?_
      exact qx_again [(5, .int .i64 ((i + 1 : Nat) : Int)), (0, .pointer (some ⟨R.gp, 0, none⟩))] (x.st.length - (i + 1)) (again w1 1 (by rw [e3]; rfl) h1) (by omega) ⟨rfl, rfl, trivial⟩
    by_cases e4 : v = 4
    · refine sx_seq ?_
      refine sx_seq ?_
      refine sx_region ?_
      iterate 4 refine sxl_y (wn_none rfl) rfl rfl (yp rfl) ?_
      refine sxl_y (wn_none rfl) rfl rfl (y_load rfl rfl (sc rfl) (by assumption)) ?_
      refine sxl_y (wn_none rfl) rfl rfl (y_len rfl rfl (sl rfl)) ?_
      refine sxl_y (wn_none rfl) rfl rfl (y_lss_t rfl rfl rfl (by omega)) ?_
      refine sxl_nil ?_
      refine qx_seq ?_
      refine sx_true rfl ?_
      refine sx_skip ?_
      refine qx_seq ?_
      refine sx_seq ?_
      refine sx_block ?_
      refine sx_seq ?_
      refine sx_region ?_
      iterate 3 refine sxl_y (wn_none rfl) rfl rfl (yp rfl) ?_
      refine sxl_y (wn_none rfl) rfl rfl (y_load rfl rfl (sc rfl) (by assumption)) ?_
      refine sxl_y (wn_none rfl) rfl rfl (yp rfl) ?_
      refine sxl_y (wn_none rfl) rfl rfl (y_indexN rfl rfl rfl (sl rfl) (by omega)) ?_
      refine sxl_y (wn_none rfl) rfl rfl (y_load rfl rfl (sc rfl) (by assumption)) ?_
      refine sxl_nil ?_
      refine qx_seq ?_
      refine sx_block ?_
      refine sx_seq ?_
      refine sx_seq ?_
      refine sx_region ?_
      refine sxl_y (wn_none rfl) rfl rfl (y_eql_f rfl rfl rfl (by omega)) ?_
      refine sxl_y (wn_none rfl) rfl rfl (yp rfl) ?_
      refine sxl_nil ?_
      refine qx_seq ?_
      refine sx_false rfl ?_
      refine sx_region ?_
      refine sxl_y (wn_none rfl) rfl rfl (y_eql_f rfl rfl rfl (by omega)) ?_
      refine sxl_y (wn_none rfl) rfl rfl (yp rfl) ?_
      refine sxl_nil ?_
      refine qx_seq ?_
      refine sx_false rfl ?_
      refine sx_seq ?_
      refine sx_region ?_
      refine sxl_y (wn_none rfl) rfl rfl (y_eql_t rfl rfl rfl (by omega)) ?_
      refine sxl_y (wn_none rfl) rfl rfl (yp rfl) ?_
      refine sxl_nil ?_
      refine qx_seq ?_
      refine sx_true rfl ?_
      refine sx_region ?_
      iterate 3 refine sxl_y (wn_none rfl) rfl rfl (yp rfl) ?_
      refine sxl_y (wn_none rfl) rfl rfl (y_load rfl rfl (sc rfl) (by assumption)) ?_
      refine sxl_y (wn_none rfl) rfl rfl (yp rfl) ?_
      refine sxl_y (wn_none rfl) rfl rfl (y_indexN rfl rfl rfl (sl rfl) (by omega)) ?_
      refine sxl_does none (wn_none rfl) rfl rfl (fun ρ hρ => does_st (k := i) (v := 0) rfl (hρ _ _ rfl) (hρ _ _ rfl) hto.at_ hlt') ?_
      rintro _ w1 ⟨rfl, h1⟩
      refine sxl_nil ?_
      refine qx_block_normal ?_
      refine qx_block_normal ?_
      refine qx_seq ?_
      refine sx_region ?_
      refine sxl_y (wn_none rfl) rfl rfl (yp rfl) ?_
      refine sxl_y (wn_none rfl) rfl rfl (y_add rfl rfl rfl (by omega)) ?_
      refine sxl_y (wn_none rfl) rfl rfl (yp rfl) ?_
      refine sxl_nil ?_
      exact qx_again [(5, .int .i64 ((i + 1 : Nat) : Int)), (0, .pointer (some ⟨R.gp, 0, none⟩))] (x.st.length - (i + 1)) (again w1 0 (by rw [e4]; rfl) h1) (by omega) ⟨rfl, rfl, trivial⟩
    · have hsame : st'.set i v = st' := by
        apply List.ext_getElem?
        intro j
        by_cases e : i = j
        · subst e; rw [List.getElem?_set_self hlt', hv]
        · rw [List.getElem?_set_ne e]
      have hself : RfTo wr wr R { y with seq := ((q + 1 : Nat) : Int), root := (root : Int), st := st'.set i v } := by rw [hsame]; exact .refl hto.at_
      have htn : turnOf 1 0 v = v := by unfold turnOf; rw [if_neg (by omega), if_neg e4]
      refine sx_seq ?_
      refine sx_seq ?_
      refine sx_region ?_
      iterate 4 refine sxl_y (wn_none rfl) rfl rfl (yp rfl) ?_
      refine sxl_y (wn_none rfl) rfl rfl (y_load rfl rfl (sc rfl) (by assumption)) ?_
      refine sxl_y (wn_none rfl) rfl rfl (y_len rfl rfl (sl rfl)) ?_
      refine sxl_y (wn_none rfl) rfl rfl (y_lss_t rfl rfl rfl (by omega)) ?_
      refine sxl_nil ?_
      refine qx_seq ?_
      refine sx_true rfl ?_
      refine sx_skip ?_
      refine qx_seq ?_
      refine sx_seq ?_
      refine sx_block ?_
      refine sx_seq ?_
      refine sx_region ?_
      iterate 3 refine sxl_y (wn_none rfl) rfl rfl (yp rfl) ?_
      refine sxl_y (wn_none rfl) rfl rfl (y_load rfl rfl (sc rfl) (by assumption)) ?_
      refine sxl_y (wn_none rfl) rfl rfl (yp rfl) ?_
      refine sxl_y (wn_none rfl) rfl rfl (y_indexN rfl rfl rfl (sl rfl) (by omega)) ?_
      refine sxl_y (wn_none rfl) rfl rfl (y_load rfl rfl (sc rfl) (by assumption)) ?_
      refine sxl_nil ?_
      refine qx_seq ?_
      refine sx_block ?_
      refine sx_seq ?_
      refine sx_seq ?_
      refine sx_region ?_
      refine sxl_y (wn_none rfl) rfl rfl (y_eql_f rfl rfl rfl (by omega)) ?_
      refine sxl_y (wn_none rfl) rfl rfl (yp rfl) ?_
      refine sxl_nil ?_
      refine qx_seq ?_
      refine sx_false rfl ?_
      refine sx_region ?_
      refine sxl_y (wn_none rfl) rfl rfl (y_eql_f rfl rfl rfl (by omega)) ?_
      refine sxl_y (wn_none rfl) rfl rfl (yp rfl) ?_
      refine sxl_nil ?_
      refine qx_seq ?_
      refine sx_false rfl ?_
      refine sx_seq ?_
      refine sx_region ?_
      refine sxl_y (wn_none rfl) rfl rfl (y_eql_f rfl rfl rfl (by omega)) ?_
      refine sxl_y (wn_none rfl) rfl rfl (yp rfl) ?_
      refine sxl_nil ?_
      refine qx_seq ?_
      refine sx_false rfl ?_
      refine sx_skip ?_
      refine qx_block_normal ?_
      refine qx_block_normal ?_
      refine qx_seq ?_
      refine sx_region ?_
      refine sxl_y (wn_none rfl) rfl rfl (yp rfl) ?_
      refine sxl_y (wn_none rfl) rfl rfl (y_add rfl rfl rfl (by omega)) ?_
      refine sxl_y (wn_none rfl) rfl rfl (yp rfl) ?_
      refine sxl_nil ?_
      exact qx_again [(5, .int .i64 ((i + 1 : Nat) : Int)), (0, .pointer (some ⟨R.gp, 0, none⟩))] (x.st.length - (i + 1)) (again wr v htn hself) (by omega) ⟨rfl, rfl, trivial⟩
  · obtain rfl : i = x.st.length := by omega
    refine sx_seq ?_
    refine sx_seq ?_
    refine sx_region ?_
    iterate 4 refine sxl_y (wn_none rfl) rfl rfl (yp rfl) ?_
    refine sxl_y (wn_none rfl) rfl rfl (y_load rfl rfl (sc rfl) (by assumption)) ?_
    refine sxl_y (wn_none rfl) rfl rfl (y_len rfl rfl (sl rfl)) ?_
    refine sxl_y (wn_none rfl) rfl rfl (y_lss_f rfl rfl rfl (by omega)) ?_
    refine sxl_nil ?_
    refine qx_seq ?_
    refine sx_false rfl ?_
    refine sx_exit ?_
    refine qx_then_exit ?_
    refine qx_then_exit ?_
    refine qx_block_hit ?_
    refine qx_seq ?_
    refine sx_seq ?_
    refine sx_region ?_
    refine sxl_y (wn_none rfl) rfl rfl (yp rfl) ?_
    refine sxl_nil ?_
    refine qx_seq ?_
    refine sx_ret ?_
    refine qx_ret1 rfl rfl ?_
    exact ⟨st', rfl, ⟨hln, hdone⟩, hto⟩
end
end Go.Proofs.YthdlljlcffokbaaDoor
