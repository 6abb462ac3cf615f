/- The document's pager in memory; what reads it alone. No condition. -/
import Derived.Test.YthdlljlcffokbaaDoorZCr4
import Derived.Test.YthdlljlcffokbaaDoorZApart0
namespace Go.Proofs.YthdlljlcffokbaaDoor
open Go.RowKit

/-- The document's disk and pager, plainly. -/
structure RX where
  wrote : Pgs
  s0 : Int
  s1 : Int
  r0 : Int
  r1 : Int
  seq : Int
  root : Int
  st : List Int
/-- Where it lies. -/
structure RP where
  gp : Nat
  gd : Nat
  gs : Nat
  gw : Nat
def RP.blocks (R : RP) (b : Nat) : Prop := b = R.gp ∨ b = R.gd ∨ b = R.gs ∨ b = R.gw
def RX.dcells (x : RX) (n gw : Nat) : List Value := [.int .i64 (n : Int), .map (some gw), .int .i64 x.s0, .int .i64 x.s1, .int .i64 x.r0, .int .i64 x.r1]
def RX.pcells (x : RX) (gd gs : Nat) : List Value := [.pointer (some ⟨gd, 0, none⟩), .slice (some ⟨gs, 0, none⟩) x.st.length x.st.length, .int .i64 x.seq, .int .i64 x.root]
structure RfAt (w : World) (R : RP) (x : RX) : Prop where
  hp : Blk w R.gp 97 (x.pcells R.gd R.gs)
  hd : Blk w R.gd 95 (x.dcells x.st.length R.gw)
  hs : Blk w R.gs 3 (iv x.st)
  hw : Mi w R.gw (strs x.wrote)
def lst (st : List Int) : Int → Int := fun k => if 0 ≤ k then (st[k.toNat]?).getD 0 else 0
theorem lst_nat (st : List Int) (k : Nat) : lst st (k : Int) = (st[k]?).getD 0 := by unfold lst; rw [if_pos (by omega)]; rfl
theorem lst_at {st : List Int} {k : Nat} {v : Int} (h : st[k]? = some v) : lst st (k : Int) = v := by rw [lst_nat, h]; rfl
theorem lst_set {st : List Int} {k : Nat} (h : k < st.length) (v : Int) : lst (st.set k v) = updS (lst st) (k : Int) v := by
  funext i
  unfold updS
  by_cases e : i = (k : Int)
  · subst e
    rw [if_pos rfl, lst_nat, List.getElem?_set_self h]; rfl
  · rw [if_neg e]
    unfold lst
    by_cases h0 : 0 ≤ i
    · rw [if_pos h0, if_pos h0, List.getElem?_set_ne (by omega)]
    · rw [if_neg h0, if_neg h0]
section
variable {w w' : World} {R : RP} {x x' : RX}
theorem RfAt.fr {S : Nat → Prop} (h : RfAt w R x) (hf : Fr S w w') (hn : ∀ b, R.blocks b → ¬ S b) : RfAt w' R x := ⟨h.hp.fr hf (hn _ (.inl rfl)), h.hd.fr hf (hn _ (.inr (.inl rfl))), h.hs.fr hf (hn _ (.inr (.inr (.inl rfl)))), h.hw.fr hf (hn _ (.inr (.inr (.inr rfl))))⟩
theorem RfAt.fr0 (h : RfAt w R x) (hf : Fr0 w w') : RfAt w' R x := h.fr hf (fun _ _ hh => hh)
theorem RfAt.lt (h : RfAt w R x) {b : Nat} (hb : R.blocks b) : b < w.heap.size := by
  rcases hb with rfl | rfl | rfl | rfl
  · exact h.hp.lt
  · exact h.hd.lt
  · exact h.hs.lt
  · exact h.hw.lt
theorem RfAt.c0 (h : RfAt w R x) : Cell w.heap R.gp 0 (.pointer (some ⟨R.gd, 0, none⟩)) := h.hp.c 0 rfl
theorem RfAt.c1 (h : RfAt w R x) : Cell w.heap R.gp 1 (.slice (some ⟨R.gs, 0, none⟩) x.st.length x.st.length) := h.hp.c 1 rfl
theorem RfAt.c2 (h : RfAt w R x) : Cell w.heap R.gp 2 (.int .i64 x.seq) := h.hp.c 2 rfl
theorem RfAt.c3 (h : RfAt w R x) : Cell w.heap R.gp 3 (.int .i64 x.root) := h.hp.c 3 rfl
theorem RfAt.d0 (h : RfAt w R x) : Cell w.heap R.gd 0 (.int .i64 (x.st.length : Int)) := h.hd.c 0 rfl
theorem RfAt.d1 (h : RfAt w R x) : Cell w.heap R.gd 1 (.map (some R.gw)) := h.hd.c 1 rfl
theorem RfAt.d2 (h : RfAt w R x) : Cell w.heap R.gd 2 (.int .i64 x.s0) := h.hd.c 2 rfl
theorem RfAt.d3 (h : RfAt w R x) : Cell w.heap R.gd 3 (.int .i64 x.s1) := h.hd.c 3 rfl
theorem RfAt.d4 (h : RfAt w R x) : Cell w.heap R.gd 4 (.int .i64 x.r0) := h.hd.c 4 rfl
theorem RfAt.d5 (h : RfAt w R x) : Cell w.heap R.gd 5 (.int .i64 x.r1) := h.hd.c 5 rfl
theorem RfAt.cs (h : RfAt w R x) {k : Nat} {v : Int} (hk : x.st[k]? = some v) : Cell w.heap R.gs (0 + k * 1) (.int .i64 v) := h.hs.c _ (by unfold iv; rw [Nat.zero_add, Nat.mul_one, List.getElem?_map, hk]; rfl)
theorem RfAt.n1 (h : RfAt w R x) : R.gp ≠ R.gd := h.hp.ne h.hd (by decide)
theorem RfAt.n2 (h : RfAt w R x) : R.gp ≠ R.gs := h.hp.ne h.hs (by decide)
theorem RfAt.n3 (h : RfAt w R x) : R.gd ≠ R.gs := h.hd.ne h.hs (by decide)
theorem RfAt.n4 (h : RfAt w R x) : R.gp ≠ R.gw := fun e => by
  obtain ⟨es, cl, hm, _⟩ := h.hw
  have := h.hp; unfold Blk at this; rw [e, hm] at this; cases this
theorem RfAt.n5 (h : RfAt w R x) : R.gd ≠ R.gw := fun e => by
  obtain ⟨es, cl, hm, _⟩ := h.hw
  have := h.hd; unfold Blk at this; rw [e, hm] at this; cases this
theorem RfAt.n6 (h : RfAt w R x) : R.gs ≠ R.gw := fun e => by
  obtain ⟨es, cl, hm, _⟩ := h.hw
  have := h.hs; unfold Blk at this; rw [e, hm] at this; cases this
/-- One page's state was written. -/
theorem RfAt.setSt (h : RfAt w R x) {k : Nat} {v : Int} (hf : Fr (fun b => b = R.gs) w w') (hb : Blk w' R.gs 3 ((iv x.st).set k (.int .i64 v))) : RfAt w' R { x with st := x.st.set k v } where
  hp := by
    have := h.hp.fr hf h.n2
    show Blk w' R.gp _ [_, .slice _ (x.st.set k v).length (x.st.set k v).length, _, _]
    rw [List.length_set]; exact this
  hd := by
    have := h.hd.fr hf h.n3
    show Blk w' R.gd _ [.int .i64 ((x.st.set k v).length : Int), _, _, _, _, _]
    rw [List.length_set]; exact this
  hs := by
    show Blk w' R.gs _ (iv (x.st.set k v))
    unfold iv; rw [List.map_set]; exact hb
  hw := h.hw.fr hf (fun e => h.n6 e.symm)
/-- A step of the document's pager. -/
structure RfTo (w w' : World) (R : RP) (x' : RX) : Prop where
  at_ : RfAt w' R x'
  fr : Fr R.blocks w w'
theorem RfTo.refl (h : RfAt w R x) : RfTo w w R x := ⟨h, Fr.refl⟩
theorem RfTo.trans {w1 : World} {x1 : RX} (h : RfTo w w1 R x1) (h' : RfTo w1 w' R x') : RfTo w w' R x' := ⟨h'.at_, h.fr.trans h'.fr⟩
theorem RfTo.setSt (h : RfAt w R x) {k : Nat} {v : Int} (hf : Fr (fun b => b = R.gs) w w') (hb : Blk w' R.gs 3 ((iv x.st).set k (.int .i64 v))) : RfTo w w' R { x with st := x.st.set k v } := ⟨h.setSt hf hb, hf.mono (fun _ _ e => .inr (.inr (.inl e)))⟩
set_option maxHeartbeats 2000000 in
theorem rpage_t (h : RfAt w R x) {n : Int} (h2 : 2 ≤ n) (hn : n < x.st.length) : Calls Tryd.prog 44 #[.pointer (some ⟨R.gp, 0, none⟩), .int .i64 n] w fun e w' => e = .returned (.bool true) ∧ w = w' := by
  have c1 := h.c1
  refine sx_enter (vs := [_, _]) Tryd.func44 rfl Tryd.ntmps44 rfl ?_
  refine sx_seq ?_
  refine sx_region ?_
  refine sxl_y (wn_none rfl) rfl rfl (yp rfl) ?_
  refine sxl_nil ?_
  refine qx_seq ?_
  refine sx_seq ?_
  refine sx_region ?_
  refine sxl_y (wn_none rfl) rfl rfl (yp rfl) ?_
  refine sxl_y (wn_none rfl) rfl rfl (y_geq_t rfl rfl rfl (by omega)) ?_
  refine sxl_y (wn_none rfl) rfl rfl (yp rfl) ?_
  refine sxl_y (wn_on rfl rfl rfl) rfl rfl (yp rfl) ?_
  refine sxl_y (wn_on rfl rfl rfl) rfl rfl (yp rfl) ?_
  refine sxl_y (wn_on rfl rfl rfl) rfl rfl (yp rfl) ?_
  refine sxl_y (wn_on rfl rfl rfl) rfl rfl (yp rfl) ?_
  refine sxl_y (wn_on rfl rfl rfl) rfl rfl (y_load rfl rfl (sc rfl) (by assumption)) ?_
  refine sxl_y (wn_on rfl rfl rfl) rfl rfl (y_len rfl rfl (sl rfl)) ?_
  refine sxl_y (wn_on rfl rfl rfl) rfl rfl (y_lss_t rfl rfl rfl (by omega)) ?_
  iterate 2 refine sxl_y (wn_none rfl) rfl rfl (yp rfl) ?_
  refine sxl_nil ?_
  refine qx_seq ?_
  refine sx_ret ?_
  refine qx_ret1 rfl rfl ?_
  exact ⟨rfl, rfl⟩
set_option maxHeartbeats 2000000 in
theorem rpage_f (h : RfAt w R x) {n : Int} (hn : n < 2 ∨ (x.st.length : Int) ≤ n) : Calls Tryd.prog 44 #[.pointer (some ⟨R.gp, 0, none⟩), .int .i64 n] w fun e w' => e = .returned (.bool false) ∧ w = w' := by
  have c1 := h.c1
  by_cases h2 : n < 2
  · clear hn
    refine sx_enter (vs := [_, _]) Tryd.func44 rfl Tryd.ntmps44 rfl ?_
    refine sx_seq ?_
    refine sx_region ?_
    refine sxl_y (wn_none rfl) rfl rfl (yp rfl) ?_
    refine sxl_nil ?_
    refine qx_seq ?_
    refine sx_seq ?_
    refine sx_region ?_
    refine sxl_y (wn_none rfl) rfl rfl (yp rfl) ?_
    refine sxl_y (wn_none rfl) rfl rfl (y_geq_f rfl rfl rfl (by omega)) ?_
    refine sxl_y (wn_none rfl) rfl rfl (yp rfl) ?_
    refine sxl_off rfl rfl rfl rfl rfl rfl ?_
    refine sxl_off rfl rfl rfl rfl rfl rfl ?_
    refine sxl_off rfl rfl rfl rfl rfl rfl ?_
    refine sxl_off rfl rfl rfl rfl rfl rfl ?_
    refine sxl_off rfl rfl rfl rfl rfl rfl ?_
    refine sxl_off rfl rfl rfl rfl rfl rfl ?_
    refine sxl_off rfl rfl rfl rfl rfl rfl ?_
    iterate 2 refine sxl_y (wn_none rfl) rfl rfl (yp rfl) ?_
    refine sxl_nil ?_
    refine qx_seq ?_
    refine sx_ret ?_
    refine qx_ret1 rfl rfl ?_
    exact ⟨rfl, rfl⟩
  · have hn' : (x.st.length : Int) ≤ n := hn.resolve_left h2
    clear hn
    refine sx_enter (vs := [_, _]) Tryd.func44 rfl Tryd.ntmps44 rfl ?_
    refine sx_seq ?_
    refine sx_region ?_
    refine sxl_y (wn_none rfl) rfl rfl (yp rfl) ?_
    refine sxl_nil ?_
    refine qx_seq ?_
    refine sx_seq ?_
    refine sx_region ?_
    refine sxl_y (wn_none rfl) rfl rfl (yp rfl) ?_
    refine sxl_y (wn_none rfl) rfl rfl (y_geq_t rfl rfl rfl (by omega)) ?_
    refine sxl_y (wn_none rfl) rfl rfl (yp rfl) ?_
    refine sxl_y (wn_on rfl rfl rfl) rfl rfl (yp rfl) ?_
    refine sxl_y (wn_on rfl rfl rfl) rfl rfl (yp rfl) ?_
    refine sxl_y (wn_on rfl rfl rfl) rfl rfl (yp rfl) ?_
    refine sxl_y (wn_on rfl rfl rfl) rfl rfl (yp rfl) ?_
    refine sxl_y (wn_on rfl rfl rfl) rfl rfl (y_load rfl rfl (sc rfl) (by assumption)) ?_
    refine sxl_y (wn_on rfl rfl rfl) rfl rfl (y_len rfl rfl (sl rfl)) ?_
    refine sxl_y (wn_on rfl rfl rfl) rfl rfl (y_lss_f rfl rfl rfl (by omega)) ?_
    iterate 2 refine sxl_y (wn_none rfl) rfl rfl (yp rfl) ?_
    refine sxl_nil ?_
    refine qx_seq ?_
    refine sx_ret ?_
    refine qx_ret1 rfl rfl ?_
    exact ⟨rfl, rfl⟩
set_option maxHeartbeats 2000000 in
theorem rfree_ok (h : RfAt w R x) (hn : 2 ≤ x.st.length) (hs : x.st.length ≤ 100000) : Calls Tryd.prog 53 #[.pointer (some ⟨R.gp, 0, none⟩)] w fun e w' => e = .returned (.int .i64 (freeUpto (lst x.st) x.st.length : Int)) ∧ w = w' := by
  have c1 := h.c1
  refine sx_enter (vs := [_]) Tryd.func53 rfl Tryd.ntmps53 rfl ?_
  refine sx_seq ?_
  refine sx_region ?_
  refine sxl_y (wn_none rfl) rfl rfl (yp rfl) ?_
  refine sxl_nil ?_
  refine qx_seq ?_
  refine sx_seq ?_
  refine sx_region ?_
  refine sxl_y (wn_none rfl) rfl rfl (yp rfl) ?_
  refine sxl_nil ?_
  refine qx_seq ?_
  refine sx_seq ?_
  refine sx_seq ?_
  refine sx_region ?_
  refine sxl_y (wn_none rfl) rfl rfl (yp rfl) ?_
  refine sxl_nil ?_
  refine qx_seq ?_
  refine sx_block ?_
  refine sx_loop (fun e wr m => ∃ (i : Nat), e = [(4, .int .i64 (i : Int)), (3, .int .i64 (freeUpto (lst x.st) i : Int)), (0, .pointer (some ⟨R.gp, 0, none⟩))] ∧ w = wr ∧ 2 ≤ i ∧ i ≤ x.st.length ∧ m = x.st.length - i)
    ⟨2, rfl, rfl, Nat.le_refl _, hn, rfl⟩ ⟨rfl, rfl, rfl, trivial⟩ ?_
  rintro _ _ _ ⟨i, rfl, rfl, h2, hi, rfl⟩
  have hfu := freeUpto_le (lst x.st) i
  by_cases hlt : i < x.st.length
  · obtain ⟨v, hv⟩ : ∃ v, x.st[i]? = some v := ⟨_, List.getElem?_eq_getElem hlt⟩
    have ce := h.cs hv
    have hlv := lst_at hv
    have hstep : freeUpto (lst x.st) (i + 1) = if v = 0 then freeUpto (lst x.st) i + 1 else freeUpto (lst x.st) i := by
      conv => lhs; unfold freeUpto
      rw [hlv]
      by_cases hz : v = 0 <;> simp [hz, h2]
    by_cases hz : v = 0
    · rw [if_pos hz] at hstep
      refine sx_seq ?_
      refine sx_seq ?_
      refine sx_region ?_
      iterate 4 refine sxl_y (wn_none rfl) rfl rfl (yp rfl) ?_
      refine sxl_y (wn_none rfl) rfl rfl (y_load rfl rfl (sc rfl) (by assumption)) ?_
      refine sxl_y (wn_none rfl) rfl rfl (y_len rfl rfl (sl rfl)) ?_
      refine sxl_y (wn_none rfl) rfl rfl (y_lss_t rfl rfl rfl (by omega)) ?_
      refine sxl_nil ?_
      refine qx_seq ?_
      refine sx_true rfl ?_
      refine sx_skip ?_
      refine qx_seq ?_
      refine sx_seq ?_
      refine sx_block ?_
      refine sx_seq ?_
      refine sx_region ?_
      iterate 3 refine sxl_y (wn_none rfl) rfl rfl (yp rfl) ?_
      refine sxl_y (wn_none rfl) rfl rfl (y_load rfl rfl (sc rfl) (by assumption)) ?_
      refine sxl_y (wn_none rfl) rfl rfl (yp rfl) ?_
      refine sxl_y (wn_none rfl) rfl rfl (y_indexN rfl rfl rfl (sl rfl) (by omega)) ?_
      refine sxl_y (wn_none rfl) rfl rfl (y_load rfl rfl (sc rfl) (by assumption)) ?_
      refine sxl_y (wn_none rfl) rfl rfl (y_eql_t rfl rfl rfl (by omega)) ?_
      refine sxl_nil ?_
      refine qx_seq ?_
      refine sx_true rfl ?_
      refine sx_region ?_
      refine sxl_y (wn_none rfl) rfl rfl (yp rfl) ?_
      refine sxl_y (wn_none rfl) rfl rfl (y_add rfl rfl rfl (by omega)) ?_
      refine sxl_y (wn_none rfl) rfl rfl (yp rfl) ?_
      refine sxl_nil ?_
      refine qx_block_normal ?_
      refine qx_seq ?_
      refine sx_region ?_
      refine sxl_y (wn_none rfl) rfl rfl (yp rfl) ?_
      refine sxl_y (wn_none rfl) rfl rfl (y_add rfl rfl rfl (by omega)) ?_
      refine sxl_y (wn_none rfl) rfl rfl (yp rfl) ?_
      refine sxl_nil ?_
      exact qx_again [(4, .int .i64 ((i + 1 : Nat) : Int)), (3, .int .i64 (freeUpto (lst x.st) (i + 1) : Int)), (0, .pointer (some ⟨R.gp, 0, none⟩))] (x.st.length - (i + 1)) ⟨i + 1, rfl, rfl, by omega, hlt, rfl⟩ (by omega) ⟨rfl, by rw [hstep]; rfl, rfl, trivial⟩
    · rw [if_neg hz] at hstep
      refine sx_seq ?_
      refine sx_seq ?_
      refine sx_region ?_
      iterate 4 refine sxl_y (wn_none rfl) rfl rfl (yp rfl) ?_
      refine sxl_y (wn_none rfl) rfl rfl (y_load rfl rfl (sc rfl) (by assumption)) ?_
      refine sxl_y (wn_none rfl) rfl rfl (y_len rfl rfl (sl rfl)) ?_
      refine sxl_y (wn_none rfl) rfl rfl (y_lss_t rfl rfl rfl (by omega)) ?_
      refine sxl_nil ?_
      refine qx_seq ?_
      refine sx_true rfl ?_
      refine sx_skip ?_
      refine qx_seq ?_
      refine sx_seq ?_
      refine sx_block ?_
      refine sx_seq ?_
      refine sx_region ?_
      iterate 3 refine sxl_y (wn_none rfl) rfl rfl (yp rfl) ?_
      refine sxl_y (wn_none rfl) rfl rfl (y_load rfl rfl (sc rfl) (by assumption)) ?_
      refine sxl_y (wn_none rfl) rfl rfl (yp rfl) ?_
      refine sxl_y (wn_none rfl) rfl rfl (y_indexN rfl rfl rfl (sl rfl) (by omega)) ?_
      refine sxl_y (wn_none rfl) rfl rfl (y_load rfl rfl (sc rfl) (by assumption)) ?_
      refine sxl_y (wn_none rfl) rfl rfl (y_eql_f rfl rfl rfl (by omega)) ?_
      refine sxl_nil ?_
      refine qx_seq ?_
      refine sx_false rfl ?_
      refine sx_skip ?_
      refine qx_block_normal ?_
      refine qx_seq ?_
      refine sx_region ?_
      refine sxl_y (wn_none rfl) rfl rfl (yp rfl) ?_
      refine sxl_y (wn_none rfl) rfl rfl (y_add rfl rfl rfl (by omega)) ?_
      refine sxl_y (wn_none rfl) rfl rfl (yp rfl) ?_
      refine sxl_nil ?_
      exact qx_again [(4, .int .i64 ((i + 1 : Nat) : Int)), (3, .int .i64 (freeUpto (lst x.st) (i + 1) : Int)), (0, .pointer (some ⟨R.gp, 0, none⟩))] (x.st.length - (i + 1)) ⟨i + 1, rfl, rfl, by omega, hlt, rfl⟩ (by omega) ⟨rfl, by rw [hstep]; rfl, rfl, trivial⟩
  · obtain rfl : i = x.st.length := by omega
    refine sx_seq ?_
    refine sx_seq ?_
    refine sx_region ?_
    iterate 4 refine sxl_y (wn_none rfl) rfl rfl (yp rfl) ?_
    refine sxl_y (wn_none rfl) rfl rfl (y_load rfl rfl (sc rfl) (by assumption)) ?_
    refine sxl_y (wn_none rfl) rfl rfl (y_len rfl rfl (sl rfl)) ?_
    refine sxl_y (wn_none rfl) rfl rfl (y_lss_f rfl rfl rfl (by omega)) ?_
    refine sxl_nil ?_
    refine qx_seq ?_
    refine sx_false rfl ?_
    refine sx_exit ?_
    refine qx_then_exit ?_
    refine qx_then_exit ?_
    refine qx_block_hit ?_
    refine qx_seq ?_
    refine sx_seq ?_
    refine sx_region ?_
    iterate 2 refine sxl_y (wn_none rfl) rfl rfl (yp rfl) ?_
    refine sxl_nil ?_
    refine qx_seq ?_
    refine sx_ret ?_
    refine qx_ret1 rfl rfl ?_
    exact ⟨rfl, rfl⟩
end
end Go.Proofs.YthdlljlcffokbaaDoor
