/- A step is done to both: they stay alike. No condition. -/
import Derived.Test.YthdlljlcffokbaaDoorZRf7
namespace Go.Proofs.YthdlljlcffokbaaDoor
open Go.RowKit

/-- What a step comes to. -/
def DoA (w0 w' : World) (N B : Nat) (Q : PL) (R : RP) (e : Ending) : Prop := ∃ Q' p' s' R' x', e = .returned (.tuple #[.pointer (some ⟨Q'.gp, 0, none⟩), .bool true]) ∧ Pw w0 w' Q' p' s' R' x' ∧ Sm N (B + 1) p' s' x' ∧ Q'.L.gd = Q.L.gd ∧ R'.gp = R.gp
theorem does_strBF {P : Program} {w : World} {o : Oper} {ρ : Operand → Value} {x : Operand} {s d el : TypeId} {l : List UInt8} (ho : o.op = .convert s d x) (hx : ρ x = str l) (hs : P.underlying s = some .string) (hd : P.underlying d = some (.slice el)) (he : P.underlying el = some (.int .u8)) :
    Does P ρ o w fun v w' => ∃ g c cs, v = .slice (some ⟨g, 0, none⟩) l.length c ∧ w.heap.size ≤ g ∧ g < w'.heap.size ∧ w'.heap[g]? = some (.cells cs el (cs.size, cs.size + 1)) ∧ l.length ≤ cs.size ∧ Rd w' (some ⟨g, 0, none⟩) l.length (bvs l) ∧ Fr0 w w' := by
  have hsz : (ByteArray.mk l.toArray).size = l.length := by show l.toArray.size = _; simp
  have hrun := Lib.run_convert_string_bytes (P := P) w s d el ⟨l.toArray⟩ hs hd he
  have hrd : ∀ (j : Nat) (u : Value), (bvs l)[j]? = some u → (Lib.bytesWorld w el ⟨l.toArray⟩).cell? ⟨w.heap.size, 0 + j, none⟩ = some u := fun j u hu => by
    have hj : j < l.length := by have := (List.getElem?_eq_some_iff.1 hu).1; rwa [bvs_length] at this
    rw [Nat.zero_add, Lib.bytesWorld_cell w el _ j (by rw [hsz]; exact hj), ← hu, bvs_getElem?, List.getElem?_eq_getElem hj]
    simp [bv, List.getD, hj]
  have hnew := Lib.bytesWorld_at_new w el ⟨l.toArray⟩
  refine ⟨.slice (some ⟨w.heap.size, 0, none⟩) l.length (grownCap w l.length 0 el), Lib.bytesWorld w el ⟨l.toArray⟩, .inl ?_, w.heap.size, grownCap w l.length 0 el, _, rfl, Nat.le_refl _, ?_, hnew, ?_, ⟨bvs_length l, fun _ => ⟨_, _, rfl, hrd⟩⟩, ⟨rfl, rfl, rfl, ?_, fun k hk _ => Lib.bytesWorld_at_old w el _ k hk⟩⟩
  · unfold execOp
    simp only [ho, hx, str, Sem.run_bind, hrun, Result.andThen_ok]
    rw [hsz]; rfl
  · rw [Lib.bytesWorld_size]; omega
  · rcases Nat.eq_zero_or_pos l.length with h0 | h0
    · omega
    · have := hrd (l.length - 1) _ (List.getElem?_eq_getElem (by rw [bvs_length]; omega))
      rw [World.cell?, hnew] at this
      have h2 := (Array.getElem?_eq_some_iff.1 this).1
      show l.length ≤ (Lib.bytesCells w el ⟨l.toArray⟩).size
      have h3 : 0 + (l.length - 1) < (Lib.bytesCells w el ⟨l.toArray⟩).size := h2
      omega
  · rw [Lib.bytesWorld_size]; omega
/-- One cell is stored into a row whose marks are behind its end. -/
theorem does_store1F {P : Program} {w : World} {o : Oper} {ρ : Operand → Value} (ty : TypeId) (x y : Operand) (ho : o.op = .store ty x y) (g off : Nat) (t : TypeId) (cs : Array Value) (v : Value)
    (hx : ρ x = .pointer (some ⟨g, off, none⟩)) (hy : ρ y = v) (hv : v.cells = #[v]) (hb : w.heap[g]? = some (.cells cs t (cs.size, cs.size + 1)))
    (hi : (P.info? ty).map (·.size) = some 1) (hl : off < cs.size) (h1 : v.oneCell' = true) :
    Does P ρ o w fun u w' => u = undef ∧ (∃ cs', cs'.size = cs.size ∧ w'.heap[g]? = some (.cells cs' t (cs'.size, cs'.size + 1))) ∧ Fr (fun k => k = g) w w' := by
  have hcell : w.cell? ⟨g, off, none⟩ = some cs[off] := by simp [World.cell?, hb, hl]
  have hfro : w.frozen? ⟨g, off, none⟩ = false := by
    simp only [World.frozen?, hb, Bool.and_eq_false_iff, decide_eq_false_iff_not]
    left; omega
  have hadd : (⟨g, off, none⟩ : Addr).add 0 = ⟨g, off, none⟩ := by rw [Addr.add_mid, Nat.add_zero]
  have hst : (store (⟨g, off, none⟩ : Addr) v).run P w = .ok () (w.setRow g (cs.setIfInBounds off v)) := by
    rw [run_store P w _ v _ h1, hcell]
    simp [hfro, setCell_eq_setRow w g off cs t (cs.size, cs.size + 1) v hb]
  refine ⟨undef, w.setRow g (cs.setIfInBounds off v), .inr ⟨?_, rfl⟩, rfl, ⟨cs.setIfInBounds off v, by simp, ?_⟩, fr_setRow w g _⟩
  rotate_left
  · have := setRow_heap w g cs (cs.setIfInBounds off v) t (cs.size, cs.size + 1) hb
    rw [this]; simp
  · have hrun : (storeVar ty ⟨g, off, none⟩ v).run P w = .ok () (w.setRow g (cs.setIfInBounds off v)) := by
      cases hq : P.info? ty with
      | none => simp [hq] at hi
      | some i =>
        have hsz : i.size = 1 := by simpa [hq] using hi
        simp [storeVar, sizeOf, typeInfo, hq, hv, hsz, storeCells, hadd, hst]
    unfold execOp
    simp only [ho, hx, hy, Instr.storeAt, Instr.sureAddr, Sem.run_bind, Sem.run_pure, Result.andThen_ok, hrun]
theorem rpg_size : (Tryd.prog.info? 97).map (·.size) = some 4 := by kernel_rfl
section
variable {w0 w w' : World} {Q : PL} {p : PS} {s : DS} {R : RP} {x : RX} {N B : Nat}
set_option maxHeartbeats 16000000 in
theorem do_0 (h : Pw w0 w Q p s R x) (sm : Sm N B p s x) (hB : B < 100) (n : Int) (dt : List UInt8) (A : Option Addr) (c : Nat) (l : List Int) :
    Calls Tryd.prog 28 #[.agg #[.int .i64 0, .int .i64 n, str dt, .slice A l.length c], .pointer (some ⟨Q.L.gd, 0, none⟩), .pointer (some ⟨Q.gp, 0, none⟩), .pointer (some ⟨R.gp, 0, none⟩)] w fun e w' => DoA w0 w' N B Q R e := by
  have h22 := sm.n22
  have hlw := sm.waits
  have hld := sm.done
  have hpc := sm.pages
  have hxl := sm.xlen
  have hn3 := sm.n3
  refine sx_enter (vs := [_, _, _, _]) Tryd.func28 rfl Tryd.ntmps28 rfl ?_
  refine sx_seq ?_
  refine sx_region ?_
  refine sxl_does (some 4) (wn_none rfl) rfl rfl (fun ρ hρ => does_box 66 (.tmp 0) rfl [.int .i64 0, .int .i64 n, str dt, .slice A l.length c] (by rw [hρ _ _ rfl]; rfl)) ?_
  rintro _ w1 ⟨g4, rfl, hg1, hg2, hb1, hf1⟩
  have h1 := h.fr0 hf1
  have k0 : Cell w1.heap g4 0 (.int .i64 0) := hb1.c 0 rfl
  have k1 : Cell w1.heap g4 1 (.int .i64 n) := hb1.c 1 rfl
  have k2 : Cell w1.heap g4 2 (str dt) := hb1.c 2 rfl
  have k3 : Cell w1.heap g4 3 (.slice A l.length c) := hb1.c 3 rfl
  cases hj : p.next with
  | none =>
    have hj' := hj
    rw [sm.next] at hj'
    iterate 2 refine sxl_y (wn_none rfl) rfl rfl (yp rfl) ?_
    refine sxl_nil ?_
    refine qx_seq ?_
    refine sx_seq ?_
    refine sx_seq ?_
    refine sx_region ?_
    refine sxl_y (wn_none rfl) rfl rfl (yp rfl) ?_
    refine sxl_y (wn_none rfl) rfl rfl (y_load rfl rfl (sc rfl) (by assumption)) ?_
    refine sxl_nil ?_
    refine qx_seq ?_
    refine sx_block ?_
    refine sx_seq ?_
    refine sx_region ?_
    refine sxl_y (wn_none rfl) rfl rfl (y_eql_t rfl rfl rfl (by omega)) ?_
    refine sxl_y (wn_none rfl) rfl rfl (yp rfl) ?_
    refine sxl_nil ?_
    refine qx_seq ?_
    refine sx_true rfl ?_
    refine sx_seq ?_
    refine sx_region ?_
    refine sxl_y (wn_none rfl) rfl rfl (yp rfl) ?_
    refine sxl_pure (wn_none rfl) rfl rfl (yc_call rfl rfl Tryd.call12) (alloc_none h1.pg sm.gone (by omega) hj) ?_
    iterate 5 refine sxl_y (wn_none rfl) rfl rfl (yp rfl) ?_
    refine sxl_nil ?_
    refine qx_seq ?_
    refine sx_seq ?_
    refine sx_region ?_
    refine sxl_y (wn_none rfl) rfl rfl (yp rfl) ?_
    refine sxl_pure (wn_none rfl) rfl rfl (yc_call rfl rfl Tryd.call45) (ralloc_none h1.rf (by omega) hj') ?_
    iterate 5 refine sxl_y (wn_none rfl) rfl rfl (yp rfl) ?_
    refine sxl_nil ?_
    refine qx_seq ?_
    refine sx_seq ?_
    refine sx_region ?_
    iterate 3 refine sxl_y (wn_none rfl) rfl rfl (yp rfl) ?_
    refine sxl_y (wn_none rfl) rfl rfl (y_eql_t rfl rfl rfl (by omega)) ?_
    refine sxl_y (wn_none rfl) rfl rfl (yp rfl) ?_
    refine sxl_y (wn_on rfl rfl rfl) rfl rfl (yp rfl) ?_
    refine sxl_y (wn_on rfl rfl rfl) rfl rfl (yp rfl) ?_
    refine sxl_y (wn_on rfl rfl rfl) rfl rfl (y_eql_t rfl rfl rfl (by omega)) ?_
    iterate 3 refine sxl_y (wn_none rfl) rfl rfl (yp rfl) ?_
    refine sxl_nil ?_
    refine qx_seq ?_
    refine sx_ret ?_
    refine qx_block_ret ?_
    refine qx_then_ret ?_
    refine qx_ret2 rfl rfl rfl ?_
    exact ⟨Q, p, s, R, x, rfl, h1, sm.mono (Nat.le_succ _) hB, rfl, rfl⟩
  | some j =>
    have hj' := hj
    rw [sm.next] at hj'
    obtain ⟨j2, jN, _, _⟩ := firstFree_some _ _ _ hj'
    iterate 2 refine sxl_y (wn_none rfl) rfl rfl (yp rfl) ?_
    refine sxl_nil ?_
    refine qx_seq ?_
    refine sx_seq ?_
    refine sx_seq ?_
    refine sx_region ?_
    refine sxl_y (wn_none rfl) rfl rfl (yp rfl) ?_
    refine sxl_y (wn_none rfl) rfl rfl (y_load rfl rfl (sc rfl) (by assumption)) ?_
    refine sxl_nil ?_
    refine qx_seq ?_
    refine sx_block ?_
    refine sx_seq ?_
    refine sx_region ?_
    refine sxl_y (wn_none rfl) rfl rfl (y_eql_t rfl rfl rfl (by omega)) ?_
    refine sxl_y (wn_none rfl) rfl rfl (yp rfl) ?_
    refine sxl_nil ?_
    refine qx_seq ?_
    refine sx_true rfl ?_
    refine sx_seq ?_
    refine sx_region ?_
    refine sxl_y (wn_none rfl) rfl rfl (yp rfl) ?_
    refine sxl_call (some 43) (by first | exact wn_none rfl | exact wn_on rfl rfl rfl) rfl rfl (yc_call rfl rfl Tryd.call12) (alloc_some h1.pg sm.gone (by omega) hj) ?_
    rintro _ w2 ⟨rfl, hto⟩
    refine ⟨_, rfl, ?_⟩
    have h2 := h1.toQ hto
    iterate 5 refine sxl_y (wn_none rfl) rfl rfl (yp rfl) ?_
    refine sxl_nil ?_
    refine qx_seq ?_
    refine sx_seq ?_
    refine sx_region ?_
    refine sxl_y (wn_none rfl) rfl rfl (yp rfl) ?_
    refine sxl_call (some 48) (by first | exact wn_none rfl | exact wn_on rfl rfl rfl) rfl rfl (yc_call rfl rfl Tryd.call45) (ralloc_some h2.rf (by omega) hj') ?_
    rintro _ w3 ⟨rfl, hrt⟩
    refine ⟨_, rfl, ?_⟩
    have h3 := h2.toR hrt sm.keep
    iterate 5 refine sxl_y (wn_none rfl) rfl rfl (yp rfl) ?_
    refine sxl_nil ?_
    refine qx_seq ?_
    refine sx_seq ?_
    refine sx_region ?_
    iterate 3 refine sxl_y (wn_none rfl) rfl rfl (yp rfl) ?_
    refine sxl_y (wn_none rfl) rfl rfl (y_eql_t rfl rfl rfl (by omega)) ?_
    refine sxl_y (wn_none rfl) rfl rfl (yp rfl) ?_
    refine sxl_y (wn_on rfl rfl rfl) rfl rfl (yp rfl) ?_
    refine sxl_y (wn_on rfl rfl rfl) rfl rfl (yp rfl) ?_
    refine sxl_y (wn_on rfl rfl rfl) rfl rfl (y_eql_t rfl rfl rfl (by omega)) ?_
    iterate 3 refine sxl_y (wn_none rfl) rfl rfl (yp rfl) ?_
    refine sxl_nil ?_
    refine qx_seq ?_
    refine sx_ret ?_
    refine qx_block_ret ?_
    refine qx_then_ret ?_
    refine qx_ret2 rfl rfl rfl ?_
    exact ⟨Q, _, s, R, _, rfl, h3, (sm.setSt j2 (by omega) 2).mono (Nat.le_succ _) hB, rfl, rfl⟩
set_option maxHeartbeats 16000000 in
theorem do_2 (h : Pw w0 w Q p s R x) (sm : Sm N B p s x) (hB : B < 100) (n : Int) (dt : List UInt8) (A : Option Addr) (c : Nat) (l : List Int) :
    Calls Tryd.prog 28 #[.agg #[.int .i64 2, .int .i64 n, str dt, .slice A l.length c], .pointer (some ⟨Q.L.gd, 0, none⟩), .pointer (some ⟨Q.gp, 0, none⟩), .pointer (some ⟨R.gp, 0, none⟩)] w fun e w' => DoA w0 w' N B Q R e := by
  have h22 := sm.n22
  have hlw := sm.waits
  have hld := sm.done
  have hpc := sm.pages
  have hxl := sm.xlen
  have hn3 := sm.n3
  refine sx_enter (vs := [_, _, _, _]) Tryd.func28 rfl Tryd.ntmps28 rfl ?_
  refine sx_seq ?_
  refine sx_region ?_
  refine sxl_does (some 4) (wn_none rfl) rfl rfl (fun ρ hρ => does_box 66 (.tmp 0) rfl [.int .i64 2, .int .i64 n, str dt, .slice A l.length c] (by rw [hρ _ _ rfl]; rfl)) ?_
  rintro _ w1 ⟨g4, rfl, hg1, hg2, hb1, hf1⟩
  have h1 := h.fr0 hf1
  have k0 : Cell w1.heap g4 0 (.int .i64 2) := hb1.c 0 rfl
  have k1 : Cell w1.heap g4 1 (.int .i64 n) := hb1.c 1 rfl
  have k2 : Cell w1.heap g4 2 (str dt) := hb1.c 2 rfl
  have k3 : Cell w1.heap g4 3 (.slice A l.length c) := hb1.c 3 rfl
  obtain ⟨ec, sm2⟩ := sm.drop n
  iterate 2 refine sxl_y (wn_none rfl) rfl rfl (yp rfl) ?_
  refine sxl_nil ?_
  refine qx_seq ?_
  refine sx_seq ?_
  refine sx_seq ?_
  refine sx_region ?_
  refine sxl_y (wn_none rfl) rfl rfl (yp rfl) ?_
  refine sxl_y (wn_none rfl) rfl rfl (y_load rfl rfl (sc rfl) (by assumption)) ?_
  refine sxl_nil ?_
  refine qx_seq ?_
  refine sx_block ?_
  refine sx_seq ?_
  refine sx_region ?_
  refine sxl_y (wn_none rfl) rfl rfl (y_eql_f rfl rfl rfl (by omega)) ?_
  refine sxl_y (wn_none rfl) rfl rfl (yp rfl) ?_
  refine sxl_nil ?_
  refine qx_seq ?_
  refine sx_false rfl ?_
  refine sx_seq ?_
  refine sx_region ?_
  refine sxl_y (wn_none rfl) rfl rfl (y_eql_f rfl rfl rfl (by omega)) ?_
  refine sxl_y (wn_none rfl) rfl rfl (yp rfl) ?_
  refine sxl_nil ?_
  refine qx_seq ?_
  refine sx_false rfl ?_
  refine sx_seq ?_
  refine sx_region ?_
  refine sxl_y (wn_none rfl) rfl rfl (y_eql_t rfl rfl rfl (by omega)) ?_
  refine sxl_y (wn_none rfl) rfl rfl (yp rfl) ?_
  refine sxl_nil ?_
  refine qx_seq ?_
  refine sx_true rfl ?_
  refine sx_seq ?_
  refine sx_any 12 (fun w' => Cell w'.heap g4 1 (.int .i64 n) ∧ True) hmix ?_
  have HS : Cell w1.drew.heap g4 1 (.int .i64 n) ∧ True := ⟨k1, trivial⟩
  refine sxo_y 0 12 (by kernel_rfl) (fun c a t v w h => by cases t <;> exact h) (by kernel_rfl) rfl (by kernel_rfl) (by kernel_rfl) rfl (wn_none rfl) rfl rfl HS (fun w' hS' => yp rfl) ?_
  refine sxo_y 1 12 (by kernel_rfl) (fun c a t v w h => by cases t <;> exact h) (by kernel_rfl) rfl (by kernel_rfl) (by kernel_rfl) rfl (wn_none rfl) rfl rfl HS (fun w' hS' => yp rfl) ?_
  refine sxo_y 2 12 (by kernel_rfl) (fun c a t v w h => by cases t <;> exact h) (by kernel_rfl) rfl (by kernel_rfl) (by kernel_rfl) rfl (wn_none rfl) rfl rfl HS (fun w' hS' => yp rfl) ?_
  refine sxo_y 3 12 (by kernel_rfl) (fun c a t v w h => by cases t <;> exact h) (by kernel_rfl) rfl (by kernel_rfl) (by kernel_rfl) rfl (wn_none rfl) rfl rfl HS (fun w' hS' => y_load rfl rfl (sc rfl) (by obtain ⟨q1, q2⟩ := hS'; assumption)) ?_
  refine sxo_y 5 12 (by kernel_rfl) (fun c a t v w h => by cases t <;> exact h) (by kernel_rfl) rfl (by kernel_rfl) (by kernel_rfl) rfl (wn_none rfl) rfl rfl HS (fun w' hS' => yp rfl) ?_
  refine sxo_y 6 12 (by kernel_rfl) (fun c a t v w h => by cases t <;> exact h) (by kernel_rfl) rfl (by kernel_rfl) (by kernel_rfl) rfl (wn_none rfl) rfl rfl HS (fun w' hS' => yp rfl) ?_
  refine sxo_y 7 12 (by kernel_rfl) (fun c a t v w h => by cases t <;> exact h) (by kernel_rfl) rfl (by kernel_rfl) (by kernel_rfl) rfl (wn_none rfl) rfl rfl HS (fun w' hS' => y_load rfl rfl (sc rfl) (by obtain ⟨q1, q2⟩ := hS'; assumption)) ?_
  have h1d := h1.fr0 (Fr.refl.drew : Fr0 w1 w1.drew)
  refine sxo_call 4 (some 103) (by kernel_rfl) rfl (wn_none rfl) rfl rfl (yc_call rfl rfl Tryd.call11) (drop_any h1d.pg n) ?_
  rintro _ w2 ⟨rfl, hto⟩
  have h2 := h1d.toQ hto
  have HS : Cell w2.heap g4 1 (.int .i64 n) ∧ True := ⟨HS.1.fr hto.fr (fun hq => by have := h.pg.lt hq; omega), trivial⟩
  refine ⟨_, rfl, fun _ => HS, ?_⟩
  refine sxo_call 8 (some 107) (by kernel_rfl) rfl (wn_none rfl) rfl rfl (yc_call rfl rfl Tryd.call47) (rdrop_any h2.rf n) ?_
  rintro _ w3 ⟨rfl, hrt⟩
  have h3 := h2.toR hrt sm.keep
  have HS : Cell w3.heap g4 1 (.int .i64 n) ∧ True := ⟨HS.1.fr hrt.fr (fun hq => by have := h.rf.lt hq; omega), trivial⟩
  refine ⟨_, rfl, fun _ => HS, ?_⟩
  rw [ec]
  refine sxo_y 9 12 (by kernel_rfl) (fun c a t v w h => by cases t <;> exact h) (by kernel_rfl) rfl (by kernel_rfl) (by kernel_rfl) rfl (wn_none rfl) rfl rfl HS (fun w' hS' => y_eql_t rfl rfl rfl (by omega)) ?_
  refine sxo_y 10 12 (by kernel_rfl) (fun c a t v w h => by cases t <;> exact h) (by kernel_rfl) rfl (by kernel_rfl) (by kernel_rfl) rfl (wn_none rfl) rfl rfl HS (fun w' hS' => yp rfl) ?_
  refine sxo_y 11 12 (by kernel_rfl) (fun c a t v w h => by cases t <;> exact h) (by kernel_rfl) rfl (by kernel_rfl) (by kernel_rfl) rfl (wn_none rfl) rfl rfl HS (fun w' hS' => yp rfl) ?_
  refine sxo_done (by kernel_rfl) ?_
  refine qx_seq ?_
  refine sx_ret ?_
  refine qx_block_ret ?_
  refine qx_then_ret ?_
  refine qx_ret2 rfl rfl rfl ?_
  exact ⟨Q, _, s, R, _, rfl, h3, sm2.mono (Nat.le_succ _) hB, rfl, rfl⟩
set_option maxHeartbeats 16000000 in
theorem do_4 (h : Pw w0 w Q p s R x) (sm : Sm N B p s x) (hB : B < 100) (n : Int) (dt : List UInt8) (A : Option Addr) (c : Nat) (l : List Int) :
    Calls Tryd.prog 28 #[.agg #[.int .i64 4, .int .i64 n, str dt, .slice A l.length c], .pointer (some ⟨Q.L.gd, 0, none⟩), .pointer (some ⟨Q.gp, 0, none⟩), .pointer (some ⟨R.gp, 0, none⟩)] w fun e w' => DoA w0 w' N B Q R e := by
  have h22 := sm.n22
  have hlw := sm.waits
  have hld := sm.done
  have hpc := sm.pages
  have hxl := sm.xlen
  have hn3 := sm.n3
  refine sx_enter (vs := [_, _, _, _]) Tryd.func28 rfl Tryd.ntmps28 rfl ?_
  refine sx_seq ?_
  refine sx_region ?_
  refine sxl_does (some 4) (wn_none rfl) rfl rfl (fun ρ hρ => does_box 66 (.tmp 0) rfl [.int .i64 4, .int .i64 n, str dt, .slice A l.length c] (by rw [hρ _ _ rfl]; rfl)) ?_
  rintro _ w1 ⟨g4, rfl, hg1, hg2, hb1, hf1⟩
  have h1 := h.fr0 hf1
  have k0 : Cell w1.heap g4 0 (.int .i64 4) := hb1.c 0 rfl
  have k1 : Cell w1.heap g4 1 (.int .i64 n) := hb1.c 1 rfl
  have k2 : Cell w1.heap g4 2 (str dt) := hb1.c 2 rfl
  have k3 : Cell w1.heap g4 3 (.slice A l.length c) := hb1.c 3 rfl
  iterate 2 refine sxl_y (wn_none rfl) rfl rfl (yp rfl) ?_
  refine sxl_nil ?_
  refine qx_seq ?_
  refine sx_seq ?_
  refine sx_seq ?_
  refine sx_region ?_
  refine sxl_y (wn_none rfl) rfl rfl (yp rfl) ?_
  refine sxl_y (wn_none rfl) rfl rfl (y_load rfl rfl (sc rfl) (by assumption)) ?_
  refine sxl_nil ?_
  refine qx_seq ?_
  refine sx_block ?_
  refine sx_seq ?_
  refine sx_region ?_
  refine sxl_y (wn_none rfl) rfl rfl (y_eql_f rfl rfl rfl (by omega)) ?_
  refine sxl_y (wn_none rfl) rfl rfl (yp rfl) ?_
  refine sxl_nil ?_
  refine qx_seq ?_
  refine sx_false rfl ?_
  refine sx_seq ?_
  refine sx_region ?_
  refine sxl_y (wn_none rfl) rfl rfl (y_eql_f rfl rfl rfl (by omega)) ?_
  refine sxl_y (wn_none rfl) rfl rfl (yp rfl) ?_
  refine sxl_nil ?_
  refine qx_seq ?_
  refine sx_false rfl ?_
  refine sx_seq ?_
  refine sx_region ?_
  refine sxl_y (wn_none rfl) rfl rfl (y_eql_f rfl rfl rfl (by omega)) ?_
  refine sxl_y (wn_none rfl) rfl rfl (yp rfl) ?_
  refine sxl_nil ?_
  refine qx_seq ?_
  refine sx_false rfl ?_
  refine sx_seq ?_
  refine sx_region ?_
  refine sxl_y (wn_none rfl) rfl rfl (y_eql_t rfl rfl rfl (by omega)) ?_
  refine sxl_y (wn_none rfl) rfl rfl (yp rfl) ?_
  refine sxl_nil ?_
  refine qx_seq ?_
  refine sx_true rfl ?_
  refine sx_seq ?_
  refine sx_region ?_
  refine sxl_y (wn_none rfl) rfl rfl (yp rfl) ?_
  refine sxl_call (some 112) (by first | exact wn_none rfl | exact wn_on rfl rfl rfl) rfl rfl (yc_call rfl rfl Tryd.call15) (abort_f h1.pg sm.gone) ?_
  rintro _ w2 ⟨rfl, hto⟩
  refine ⟨_, rfl, ?_⟩
  have h2 := h1.toQ hto
  refine sxl_y (wn_none rfl) rfl rfl (yp rfl) ?_
  refine sxl_nil ?_
  refine qx_seq ?_
  refine sx_seq ?_
  refine sx_region ?_
  refine sxl_y (wn_none rfl) rfl rfl (yp rfl) ?_
  refine sxl_call (some 114) (by first | exact wn_none rfl | exact wn_on rfl rfl rfl) rfl rfl (yc_call rfl rfl Tryd.call48) (rabort_ok h2.rf (by omega) (by omega)) ?_
  rintro _ w3 ⟨st', rfl, htn, hrt⟩
  refine ⟨_, rfl, ?_⟩
  have h3 := h2.toR hrt sm.keep
  refine sxl_nil ?_
  refine qx_seq ?_
  refine sx_seq ?_
  refine sx_region ?_
  iterate 2 refine sxl_y (wn_none rfl) rfl rfl (yp rfl) ?_
  refine sxl_y (wn_none rfl) rfl rfl (y_eql_t rfl rfl rfl (by omega)) ?_
  iterate 2 refine sxl_y (wn_none rfl) rfl rfl (yp rfl) ?_
  refine sxl_nil ?_
  refine qx_seq ?_
  refine sx_ret ?_
  refine qx_block_ret ?_
  refine qx_then_ret ?_
  refine qx_ret2 rfl rfl rfl ?_
  exact ⟨Q, _, s, R, _, rfl, h3, (sm.turn htn).mono (Nat.le_succ _) hB, rfl, rfl⟩
set_option maxHeartbeats 16000000 in
theorem do_5 (h : Pw w0 w Q p s R x) (sm : Sm N B p s x) (hB : B < 100) (n : Int) (dt : List UInt8) (A : Option Addr) (c : Nat) (l : List Int) :
    Calls Tryd.prog 28 #[.agg #[.int .i64 5, .int .i64 n, str dt, .slice A l.length c], .pointer (some ⟨Q.L.gd, 0, none⟩), .pointer (some ⟨Q.gp, 0, none⟩), .pointer (some ⟨R.gp, 0, none⟩)] w fun e w' => DoA w0 w' N B Q R e := by
  have h22 := sm.n22
  have hlw := sm.waits
  have hld := sm.done
  have hpc := sm.pages
  have hxl := sm.xlen
  have hn3 := sm.n3
  refine sx_enter (vs := [_, _, _, _]) Tryd.func28 rfl Tryd.ntmps28 rfl ?_
  refine sx_seq ?_
  refine sx_region ?_
  refine sxl_does (some 4) (wn_none rfl) rfl rfl (fun ρ hρ => does_box 66 (.tmp 0) rfl [.int .i64 5, .int .i64 n, str dt, .slice A l.length c] (by rw [hρ _ _ rfl]; rfl)) ?_
  rintro _ w1 ⟨g4, rfl, hg1, hg2, hb1, hf1⟩
  have h1 := h.fr0 hf1
  have k0 : Cell w1.heap g4 0 (.int .i64 5) := hb1.c 0 rfl
  have k1 : Cell w1.heap g4 1 (.int .i64 n) := hb1.c 1 rfl
  have k2 : Cell w1.heap g4 2 (str dt) := hb1.c 2 rfl
  have k3 : Cell w1.heap g4 3 (.slice A l.length c) := hb1.c 3 rfl
  have hread := pRead_any h1.pg n sm.room
  rw [sm.read] at hread
  generalize hrx : x.read n = rx at hread
  iterate 2 refine sxl_y (wn_none rfl) rfl rfl (yp rfl) ?_
  refine sxl_nil ?_
  refine qx_seq ?_
  refine sx_seq ?_
  refine sx_seq ?_
  refine sx_region ?_
  refine sxl_y (wn_none rfl) rfl rfl (yp rfl) ?_
  refine sxl_y (wn_none rfl) rfl rfl (y_load rfl rfl (sc rfl) (by assumption)) ?_
  refine sxl_nil ?_
  refine qx_seq ?_
  refine sx_block ?_
  refine sx_seq ?_
  refine sx_region ?_
  refine sxl_y (wn_none rfl) rfl rfl (y_eql_f rfl rfl rfl (by omega)) ?_
  refine sxl_y (wn_none rfl) rfl rfl (yp rfl) ?_
  refine sxl_nil ?_
  refine qx_seq ?_
  refine sx_false rfl ?_
  refine sx_seq ?_
  refine sx_region ?_
  refine sxl_y (wn_none rfl) rfl rfl (y_eql_f rfl rfl rfl (by omega)) ?_
  refine sxl_y (wn_none rfl) rfl rfl (yp rfl) ?_
  refine sxl_nil ?_
  refine qx_seq ?_
  refine sx_false rfl ?_
  refine sx_seq ?_
  refine sx_region ?_
  refine sxl_y (wn_none rfl) rfl rfl (y_eql_f rfl rfl rfl (by omega)) ?_
  refine sxl_y (wn_none rfl) rfl rfl (yp rfl) ?_
  refine sxl_nil ?_
  refine qx_seq ?_
  refine sx_false rfl ?_
  refine sx_seq ?_
  refine sx_region ?_
  refine sxl_y (wn_none rfl) rfl rfl (y_eql_f rfl rfl rfl (by omega)) ?_
  refine sxl_y (wn_none rfl) rfl rfl (yp rfl) ?_
  refine sxl_nil ?_
  refine qx_seq ?_
  refine sx_false rfl ?_
  refine sx_seq ?_
  refine sx_region ?_
  refine sxl_y (wn_none rfl) rfl rfl (y_eql_t rfl rfl rfl (by omega)) ?_
  refine sxl_y (wn_none rfl) rfl rfl (yp rfl) ?_
  refine sxl_nil ?_
  refine qx_seq ?_
  refine sx_true rfl ?_
  refine sx_seq ?_
  refine sx_region ?_
  iterate 2 refine sxl_y (wn_none rfl) rfl rfl (yp rfl) ?_
  refine sxl_y (wn_none rfl) rfl rfl (y_load rfl rfl (sc rfl) (by assumption)) ?_
  refine sxl_call (some 124) (by first | exact wn_none rfl | exact wn_on rfl rfl rfl) rfl rfl (yc_call rfl rfl Tryd.call30) (hread) ?_
  rintro _ w2 ⟨v, rfl, ho, hf2⟩
  refine ⟨_, rfl, ?_⟩
  have h2 := h1.fr0 hf2
  have hrr := rread_any h2.rf n
  rw [hrx] at hrr
  have k1 := k1.fr hf2 (fun hh => hh)
  have ho : w2.ownsRow w1.heap.size 5 1 v rx.1.length (bvs rx.1) := ho
  obtain ⟨A', c', rfl, hcc, hcm, hrd, _⟩ := own_form ho
  have hcl := hcm
  unfold maxLen at hcl
  iterate 5 refine sxl_y (wn_none rfl) rfl rfl (yp rfl) ?_
  refine sxl_nil ?_
  refine qx_seq ?_
  refine sx_seq ?_
  refine sx_region ?_
  iterate 2 refine sxl_y (wn_none rfl) rfl rfl (yp rfl) ?_
  refine sxl_y (wn_none rfl) rfl rfl (y_load rfl rfl (sc rfl) (by assumption)) ?_
  refine sxl_pure (wn_none rfl) rfl rfl (yc_call rfl rfl Tryd.call49) (hrr) ?_
  iterate 5 refine sxl_y (wn_none rfl) rfl rfl (yp rfl) ?_
  refine sxl_nil ?_
  refine qx_seq ?_
  refine sx_seq ?_
  refine sx_region ?_
  iterate 2 refine sxl_y (wn_none rfl) rfl rfl (yp rfl) ?_
  refine sxl_y (wn_none rfl) rfl rfl (y_eql_t rfl rfl rfl (by omega)) ?_
  refine sxl_y (wn_none rfl) rfl rfl (yp rfl) ?_
  refine sxl_y (wn_on rfl rfl rfl) rfl rfl (yp rfl) ?_
  refine sxl_y (wn_on rfl rfl rfl) rfl rfl (y_bstr rfl rfl Tryd.underlying39 Tryd.underlying5 Tryd.underlying9 hrd) ?_
  refine sxl_y (wn_on rfl rfl rfl) rfl rfl (yp rfl) ?_
  refine sxl_y (wn_on rfl rfl rfl) rfl rfl (y_seql_t (b := rx.1) rfl rfl rfl rfl) ?_
  iterate 2 refine sxl_y (wn_none rfl) rfl rfl (yp rfl) ?_
  refine sxl_nil ?_
  refine qx_seq ?_
  refine sx_seq ?_
  refine sx_seq ?_
  refine sx_region ?_
  refine sxl_y (wn_none rfl) rfl rfl (yp rfl) ?_
  refine sxl_nil ?_
  refine qx_seq ?_
  refine sx_block ?_
  refine sx_loop (fun e wr m => ∃ (i : Nat) (ys : List Value), e = [(25, .int .i64 (i : Int)), (24, .bool true), (20, .slice A' rx.1.length c'), (2, .pointer (some ⟨Q.gp, 0, none⟩))] ∧ i ≤ rx.1.length ∧ wr.ownsRow w1.heap.size 5 1 (.slice A' rx.1.length c') rx.1.length ys ∧ Fr (fun b => w1.heap.size ≤ b) w1 wr ∧ m = rx.1.length - i)
    ⟨0, _, rfl, Nat.zero_le _, ho, Fr.of0 hf2, rfl⟩ ⟨rfl, rfl, rfl, rfl, trivial⟩ ?_
  rintro _ wr _ ⟨i, ys, rfl, hi, hown, hfr, rfl⟩
  by_cases hlt : i < rx.1.length
  · obtain ⟨g, cap, rest, ev, hg, hcap, hbk, hbl⟩ := own_blk hown (by omega)
    injection ev with ev1 _ ev2
    subst ev1; subst ev2
    have hyl : ys.length = rx.1.length := by have := hown.1; omega
    refine sx_seq ?_
    refine sx_seq ?_
    refine sx_region ?_
    iterate 2 refine sxl_y (wn_none rfl) rfl rfl (yp rfl) ?_
    refine sxl_y (wn_none rfl) rfl rfl (y_len rfl rfl (sl rfl)) ?_
    refine sxl_y (wn_none rfl) rfl rfl (y_lss_t rfl rfl rfl (by omega)) ?_
    refine sxl_nil ?_
    refine qx_seq ?_
    refine sx_true rfl ?_
    refine sx_skip ?_
    refine qx_seq ?_
    refine sx_seq ?_
    refine sx_block ?_
    refine sx_region ?_
    iterate 2 refine sxl_y (wn_none rfl) rfl rfl (yp rfl) ?_
    refine sxl_y (wn_none rfl) rfl rfl (y_indexN rfl rfl rfl (sl rfl) (by omega)) ?_
    refine sxl_does none (wn_none rfl) rfl rfl (fun ρ hρ => does_store1 5 (.tmp 151) _ rfl g (0 + i * 1) 5 _ (.int .u8 221) (hρ _ _ rfl) (hρ _ _ rfl) rfl hbk (by kernel_rfl) (by rw [List.length_append]; omega) rfl) ?_
    rintro _ w5 ⟨rfl, hb5, hf5⟩
    rw [Nat.zero_add, Nat.mul_one, List.set_append_left _ _ (by omega)] at hb5
    have ho5 : w5.ownsRow w1.heap.size 5 1 (.slice (some ⟨g, 0, none⟩) rx.1.length c') rx.1.length (ys.set i (.int .u8 221)) := ownN_of_blk hb5 hg hcc hcm (by rw [← Nat.mul_one c'] at hbl; rw [List.length_append, List.length_set, ← List.length_append]; exact hbl) (by rw [List.length_set]; omega)
    refine sxl_nil ?_
    refine qx_block_normal ?_
    refine qx_seq ?_
    refine sx_region ?_
    refine sxl_y (wn_none rfl) rfl rfl (yp rfl) ?_
    refine sxl_y (wn_none rfl) rfl rfl (y_add rfl rfl rfl (by omega)) ?_
    refine sxl_y (wn_none rfl) rfl rfl (yp rfl) ?_
    refine sxl_nil ?_
    exact qx_again [(25, .int .i64 ((i + 1 : Nat) : Int)), (24, .bool true), (20, .slice (some ⟨g, 0, none⟩) rx.1.length c'), (2, .pointer (some ⟨Q.gp, 0, none⟩))] (rx.1.length - (i + 1)) ⟨i + 1, _, rfl, hlt, ho5, hfr.step hf5 (fun b hb e => by omega), rfl⟩ (by omega) ⟨rfl, rfl, rfl, rfl, trivial⟩
  · refine sx_seq ?_
    refine sx_seq ?_
    refine sx_region ?_
    iterate 2 refine sxl_y (wn_none rfl) rfl rfl (yp rfl) ?_
    refine sxl_y (wn_none rfl) rfl rfl (y_len rfl rfl (sl rfl)) ?_
    refine sxl_y (wn_none rfl) rfl rfl (y_lss_f rfl rfl rfl (by omega)) ?_
    refine sxl_nil ?_
    refine qx_seq ?_
    refine sx_false rfl ?_
    refine sx_exit ?_
    refine qx_then_exit ?_
    refine qx_then_exit ?_
    refine qx_block_hit ?_
    refine qx_seq ?_
    refine sx_seq ?_
    refine sx_region ?_
    iterate 4 refine sxl_y (wn_none rfl) rfl rfl (yp rfl) ?_
    refine sxl_nil ?_
    refine qx_seq ?_
    refine sx_ret ?_
    refine qx_block_ret ?_
    refine qx_then_ret ?_
    refine qx_ret2 rfl rfl rfl ?_
    exact ⟨Q, p, s, R, x, rfl, h1.frS hfr (fun b hb => by omega) sm.keep, sm.mono (Nat.le_succ _) hB, rfl, rfl⟩
set_option maxHeartbeats 16000000 in
theorem do_6 (h : Pw w0 w Q p s R x) (sm : Sm N B p s x) (hB : B < 100) (n : Int) (dt : List UInt8) (A : Option Addr) (c : Nat) (l : List Int) (hr : Rd w A l.length (iv l)) (hl : l.length ≤ 100) (hold : 0 < l.length → ∀ b off, A = some ⟨b, off, none⟩ → ¬ (Q.blocks b ∨ R.blocks b)) :
    Calls Tryd.prog 28 #[.agg #[.int .i64 6, .int .i64 n, str dt, .slice A l.length c], .pointer (some ⟨Q.L.gd, 0, none⟩), .pointer (some ⟨Q.gp, 0, none⟩), .pointer (some ⟨R.gp, 0, none⟩)] w fun e w' => DoA w0 w' N B Q R e := by
  have h22 := sm.n22
  have hlw := sm.waits
  have hld := sm.done
  have hpc := sm.pages
  have hxl := sm.xlen
  have hn3 := sm.n3
  refine sx_enter (vs := [_, _, _, _]) Tryd.func28 rfl Tryd.ntmps28 rfl ?_
  refine sx_seq ?_
  refine sx_region ?_
  refine sxl_does (some 4) (wn_none rfl) rfl rfl (fun ρ hρ => does_box 66 (.tmp 0) rfl [.int .i64 6, .int .i64 n, str dt, .slice A l.length c] (by rw [hρ _ _ rfl]; rfl)) ?_
  rintro _ w1 ⟨g4, rfl, hg1, hg2, hb1, hf1⟩
  have h1 := h.fr0 hf1
  have k0 : Cell w1.heap g4 0 (.int .i64 6) := hb1.c 0 rfl
  have k1 : Cell w1.heap g4 1 (.int .i64 n) := hb1.c 1 rfl
  have k2 : Cell w1.heap g4 2 (str dt) := hb1.c 2 rfl
  have k3 : Cell w1.heap g4 3 (.slice A l.length c) := hb1.c 3 rfl
  iterate 2 refine sxl_y (wn_none rfl) rfl rfl (yp rfl) ?_
  refine sxl_nil ?_
  refine qx_seq ?_
  refine sx_seq ?_
  refine sx_seq ?_
  refine sx_region ?_
  refine sxl_y (wn_none rfl) rfl rfl (yp rfl) ?_
  refine sxl_y (wn_none rfl) rfl rfl (y_load rfl rfl (sc rfl) (by assumption)) ?_
  refine sxl_nil ?_
  refine qx_seq ?_
  refine sx_block ?_
  refine sx_seq ?_
  refine sx_region ?_
  refine sxl_y (wn_none rfl) rfl rfl (y_eql_f rfl rfl rfl (by omega)) ?_
  refine sxl_y (wn_none rfl) rfl rfl (yp rfl) ?_
  refine sxl_nil ?_
  refine qx_seq ?_
  refine sx_false rfl ?_
  refine sx_seq ?_
  refine sx_region ?_
  refine sxl_y (wn_none rfl) rfl rfl (y_eql_f rfl rfl rfl (by omega)) ?_
  refine sxl_y (wn_none rfl) rfl rfl (yp rfl) ?_
  refine sxl_nil ?_
  refine qx_seq ?_
  refine sx_false rfl ?_
  refine sx_seq ?_
  refine sx_region ?_
  refine sxl_y (wn_none rfl) rfl rfl (y_eql_f rfl rfl rfl (by omega)) ?_
  refine sxl_y (wn_none rfl) rfl rfl (yp rfl) ?_
  refine sxl_nil ?_
  refine qx_seq ?_
  refine sx_false rfl ?_
  refine sx_seq ?_
  refine sx_region ?_
  refine sxl_y (wn_none rfl) rfl rfl (y_eql_f rfl rfl rfl (by omega)) ?_
  refine sxl_y (wn_none rfl) rfl rfl (yp rfl) ?_
  refine sxl_nil ?_
  refine qx_seq ?_
  refine sx_false rfl ?_
  refine sx_seq ?_
  refine sx_region ?_
  refine sxl_y (wn_none rfl) rfl rfl (y_eql_f rfl rfl rfl (by omega)) ?_
  refine sxl_y (wn_none rfl) rfl rfl (yp rfl) ?_
  refine sxl_nil ?_
  refine qx_seq ?_
  refine sx_false rfl ?_
  refine sx_seq ?_
  refine sx_region ?_
  refine sxl_y (wn_none rfl) rfl rfl (y_eql_t rfl rfl rfl (by omega)) ?_
  refine sxl_y (wn_none rfl) rfl rfl (yp rfl) ?_
  refine sxl_nil ?_
  refine qx_seq ?_
  refine sx_true rfl ?_
  refine sx_seq ?_
  refine sx_region ?_
  refine sxl_does (some 156) (wn_none rfl) rfl rfl (fun ρ hρ => does_slice0 55 3 1 rfl Tryd.underlying55 (by kernel_rfl)) ?_
  rintro _ w2 ⟨gz, rfl, hz1, hz2, _, hf2, hown0⟩
  have hown := hown0 w1.heap.size (Nat.le_refl _)
  have hr2 := (hr.fr0 hf1).fr0 hf2
  have k3 := k3.fr hf2 (fun hh => hh)
  have hzz := hf2.size
  refine sxl_y (wn_none rfl) rfl rfl (yp rfl) ?_
  refine sxl_y (wn_none rfl) rfl rfl (y_load rfl rfl (sc rfl) (by assumption)) ?_
  refine sxl_does (some 159) (wn_none rfl) rfl rfl (fun ρ hρ => does_append (.tmp 156) (.tmp 158) 55 rfl w1.heap.size 3 (.int .i64 0) 8 Tryd.underlying55 info_int1 rfl _ 0 [] (hρ _ _ rfl) hown A l.length c (iv l) (hρ _ _ rfl) hr2 (by intro u hu; obtain ⟨y, _, rfl⟩ := List.mem_map.1 hu; rfl) (by unfold maxLen; omega) (by omega) (by omega)) ?_
  rintro v5 w3 ⟨ho5, hg5, _⟩
  rw [Nat.zero_add, List.nil_append] at ho5
  obtain ⟨A5, c5, rfl, _, _, hrd5, hnb5⟩ := own_form ho5
  have hf13 : Fr0 w1 w3 := hf2.step (Fr.refl.grown (S := fun b => w1.heap.size ≤ b) hg5 (fun k hk _ => (hown.lt k hk).1)) (fun b hb e => by omega)
  have h3 := h1.fr0 hf13
  have k3 : Cell w3.heap g4 3 (.slice A l.length c) := (hb1.c 3 rfl).fr hf13 (fun hh => hh)
  have hr3 := (hr.fr0 hf1).fr0 hf13
  have hA5 : ∀ b off, A5 = some ⟨b, off, none⟩ → b ≠ Q.gp := fun b off e e' => by
    have := (hnb5 b off e).1
    have := h1.pg.hd.lt
    omega
  refine sxl_y (wn_none rfl) rfl rfl (yp rfl) ?_
  refine sxl_nil ?_
  refine qx_seq ?_
  refine sx_seq ?_
  refine sx_any 11 (fun w' => Cell w'.heap g4 3 (.slice A l.length c) ∧ True) hmix ?_
  have HS : Cell w3.drew.heap g4 3 (.slice A l.length c) ∧ True := ⟨k3, trivial⟩
  refine sxo_y 0 11 (by kernel_rfl) (fun c a t v w h => by cases t <;> exact h) (by kernel_rfl) rfl (by kernel_rfl) (by kernel_rfl) rfl (wn_none rfl) rfl rfl HS (fun w' hS' => yp rfl) ?_
  refine sxo_y 1 11 (by kernel_rfl) (fun c a t v w h => by cases t <;> exact h) (by kernel_rfl) rfl (by kernel_rfl) (by kernel_rfl) rfl (wn_none rfl) rfl rfl HS (fun w' hS' => yp rfl) ?_
  refine sxo_y 2 11 (by kernel_rfl) (fun c a t v w h => by cases t <;> exact h) (by kernel_rfl) rfl (by kernel_rfl) (by kernel_rfl) rfl (wn_none rfl) rfl rfl HS (fun w' hS' => yp rfl) ?_
  refine sxo_y 4 11 (by kernel_rfl) (fun c a t v w h => by cases t <;> exact h) (by kernel_rfl) rfl (by kernel_rfl) (by kernel_rfl) rfl (wn_none rfl) rfl rfl HS (fun w' hS' => yp rfl) ?_
  refine sxo_y 5 11 (by kernel_rfl) (fun c a t v w h => by cases t <;> exact h) (by kernel_rfl) rfl (by kernel_rfl) (by kernel_rfl) rfl (wn_none rfl) rfl rfl HS (fun w' hS' => yp rfl) ?_
  refine sxo_y 6 11 (by kernel_rfl) (fun c a t v w h => by cases t <;> exact h) (by kernel_rfl) rfl (by kernel_rfl) (by kernel_rfl) rfl (wn_none rfl) rfl rfl HS (fun w' hS' => y_load rfl rfl (sc rfl) (by obtain ⟨q1, q2⟩ := hS'; assumption)) ?_
  have h3d := h3.fr0 (Fr.refl.drew : Fr0 w3 w3.drew)
  refine sxo_call 3 (some 163) (by kernel_rfl) rfl (wn_none rfl) rfl rfl (yc_call rfl rfl Tryd.call21) (use_any h3d.pg A5 l c5 (hrd5.fr0 Fr.refl.drew) (by omega) hA5) ?_
  rintro _ w4 ⟨a, Q', p', rfl, hua, hto⟩
  have h4 := h3d.toQ hto
  have HS : Cell w4.heap g4 3 (.slice A l.length c) ∧ True := ⟨HS.1.fr hto.fr (fun hq => by have := h.pg.lt hq; omega), trivial⟩
  refine ⟨_, rfl, fun _ => HS, ?_⟩
  have hr4 : Rd w4 A l.length (iv l) := (hr3.fr0 (Fr.refl.drew : Fr0 w3 w3.drew)).fr hto.fr (fun h0 b off e hq => hold h0 b off e (.inl hq))
  refine sxo_call 7 (some 167) (by kernel_rfl) rfl (wn_none rfl) rfl rfl (yc_call rfl rfl Tryd.call50) (ruse_any h4.rf (by omega) (by omega) A l c hr4 (by omega)) ?_
  rintro _ w5 ⟨a', st', rfl, hra, hrt⟩
  obtain ⟨ea, sm2⟩ := sm.use hua hra
  have h5 := h4.toR hrt sm.keep
  have HS : Cell w5.heap g4 3 (.slice A l.length c) ∧ True := ⟨HS.1.fr hrt.fr (fun hq => by have := h.rf.lt hq; omega), trivial⟩
  refine ⟨_, rfl, fun _ => HS, ?_⟩
  subst ea
  have hgp : Q'.gp = Q.gp := hto.gp
  rw [← hgp]
  refine sxo_y 8 11 (by kernel_rfl) (fun c a t v w h => by cases t <;> exact h) (by kernel_rfl) rfl (by kernel_rfl) (by kernel_rfl) rfl (wn_none rfl) rfl rfl HS (fun w' hS' => y_eql_t rfl rfl rfl (by omega)) ?_
  refine sxo_y 9 11 (by kernel_rfl) (fun c a t v w h => by cases t <;> exact h) (by kernel_rfl) rfl (by kernel_rfl) (by kernel_rfl) rfl (wn_none rfl) rfl rfl HS (fun w' hS' => yp rfl) ?_
  refine sxo_y 10 11 (by kernel_rfl) (fun c a t v w h => by cases t <;> exact h) (by kernel_rfl) rfl (by kernel_rfl) (by kernel_rfl) rfl (wn_none rfl) rfl rfl HS (fun w' hS' => yp rfl) ?_
  refine sxo_done (by kernel_rfl) ?_
  refine qx_seq ?_
  refine sx_ret ?_
  refine qx_block_ret ?_
  refine qx_then_ret ?_
  refine qx_ret2 rfl rfl rfl ?_
  exact ⟨Q', _, s, R, _, rfl, h5, sm2.mono (Nat.le_succ _) hB, hto.gd, rfl⟩
set_option maxHeartbeats 16000000 in
theorem do_7 (h : Pw w0 w Q p s R x) (sm : Sm N B p s x) (hB : B < 100) (n : Int) (dt : List UInt8) (A : Option Addr) (c : Nat) (l : List Int) :
    Calls Tryd.prog 28 #[.agg #[.int .i64 7, .int .i64 n, str dt, .slice A l.length c], .pointer (some ⟨Q.L.gd, 0, none⟩), .pointer (some ⟨Q.gp, 0, none⟩), .pointer (some ⟨R.gp, 0, none⟩)] w fun e w' => DoA w0 w' N B Q R e := by
  have h22 := sm.n22
  have hlw := sm.waits
  have hld := sm.done
  have hpc := sm.pages
  have hxl := sm.xlen
  have hn3 := sm.n3
  refine sx_enter (vs := [_, _, _, _]) Tryd.func28 rfl Tryd.ntmps28 rfl ?_
  refine sx_seq ?_
  refine sx_region ?_
  refine sxl_does (some 4) (wn_none rfl) rfl rfl (fun ρ hρ => does_box 66 (.tmp 0) rfl [.int .i64 7, .int .i64 n, str dt, .slice A l.length c] (by rw [hρ _ _ rfl]; rfl)) ?_
  rintro _ w1 ⟨g4, rfl, hg1, hg2, hb1, hf1⟩
  have h1 := h.fr0 hf1
  have k0 : Cell w1.heap g4 0 (.int .i64 7) := hb1.c 0 rfl
  have k1 : Cell w1.heap g4 1 (.int .i64 n) := hb1.c 1 rfl
  have k2 : Cell w1.heap g4 2 (str dt) := hb1.c 2 rfl
  have k3 : Cell w1.heap g4 3 (.slice A l.length c) := hb1.c 3 rfl
  obtain ⟨hbest, hs0, hs1⟩ := sm.best
  have hop := open_any Q.L h1.pg.dk sm.ddead (by have := sm.ln; omega)
  iterate 2 refine sxl_y (wn_none rfl) rfl rfl (yp rfl) ?_
  refine sxl_nil ?_
  refine qx_seq ?_
  refine sx_seq ?_
  refine sx_seq ?_
  refine sx_region ?_
  refine sxl_y (wn_none rfl) rfl rfl (yp rfl) ?_
  refine sxl_y (wn_none rfl) rfl rfl (y_load rfl rfl (sc rfl) (by assumption)) ?_
  refine sxl_nil ?_
  refine qx_seq ?_
  refine sx_block ?_
  refine sx_seq ?_
  refine sx_region ?_
  refine sxl_y (wn_none rfl) rfl rfl (y_eql_f rfl rfl rfl (by omega)) ?_
  refine sxl_y (wn_none rfl) rfl rfl (yp rfl) ?_
  refine sxl_nil ?_
  refine qx_seq ?_
  refine sx_false rfl ?_
  refine sx_seq ?_
  refine sx_region ?_
  refine sxl_y (wn_none rfl) rfl rfl (y_eql_f rfl rfl rfl (by omega)) ?_
  refine sxl_y (wn_none rfl) rfl rfl (yp rfl) ?_
  refine sxl_nil ?_
  refine qx_seq ?_
  refine sx_false rfl ?_
  refine sx_seq ?_
  refine sx_region ?_
  refine sxl_y (wn_none rfl) rfl rfl (y_eql_f rfl rfl rfl (by omega)) ?_
  refine sxl_y (wn_none rfl) rfl rfl (yp rfl) ?_
  refine sxl_nil ?_
  refine qx_seq ?_
  refine sx_false rfl ?_
  refine sx_seq ?_
  refine sx_region ?_
  refine sxl_y (wn_none rfl) rfl rfl (y_eql_f rfl rfl rfl (by omega)) ?_
  refine sxl_y (wn_none rfl) rfl rfl (yp rfl) ?_
  refine sxl_nil ?_
  refine qx_seq ?_
  refine sx_false rfl ?_
  refine sx_seq ?_
  refine sx_region ?_
  refine sxl_y (wn_none rfl) rfl rfl (y_eql_f rfl rfl rfl (by omega)) ?_
  refine sxl_y (wn_none rfl) rfl rfl (yp rfl) ?_
  refine sxl_nil ?_
  refine qx_seq ?_
  refine sx_false rfl ?_
  refine sx_seq ?_
  refine sx_region ?_
  refine sxl_y (wn_none rfl) rfl rfl (y_eql_f rfl rfl rfl (by omega)) ?_
  refine sxl_y (wn_none rfl) rfl rfl (yp rfl) ?_
  refine sxl_nil ?_
  refine qx_seq ?_
  refine sx_false rfl ?_
  refine sx_seq ?_
  refine sx_region ?_
  refine sxl_y (wn_none rfl) rfl rfl (y_eql_t rfl rfl rfl (by omega)) ?_
  refine sxl_y (wn_none rfl) rfl rfl (yp rfl) ?_
  refine sxl_nil ?_
  refine qx_seq ?_
  refine sx_true rfl ?_
  refine sx_seq ?_
  refine sx_region ?_
  refine sxl_y (wn_none rfl) rfl rfl (yp rfl) ?_
  refine sxl_call (some 173) (wn_none rfl) rfl rfl (yc_call rfl rfl Tryd.call19) hop ?_
  rintro y w2 ⟨hf2, hop2⟩
  obtain ⟨Q2, rfl, hnew⟩ : ∃ Q2, y = .returned (.tuple #[.pointer (some ⟨Q2.gp, 0, none⟩), .int .i64 (s.best 2).2, .int .i64 0]) ∧ PgNew w1 w2 Q.L Q2 ⟨s.lasts.length / 4, (s.best 2).1, (s.best 2).2, usedAll (s.lasts.length / 4), false⟩ s := by
    rcases hop2 with ⟨hh, _⟩ | ⟨_, hh⟩
    · rw [hbest] at hh
      exfalso
      split at hh
      · have hh : x.s1 < 0 := hh; omega
      · have hh : x.s0 < 0 := hh; omega
    · exact hh
  refine ⟨_, rfl, ?_⟩
  have h2 := h1.newQ hnew
  have hbr : (s.best 2).2 = if x.s0 < x.s1 then x.r1 else x.r0 := by rw [hbest]; split <;> rfl
  have r0 := h2.rf.c0
  have hro := ropen_ok h2.rf.disk (by omega) (by omega) hs0 hs1
  iterate 7 refine sxl_y (wn_none rfl) rfl rfl (yp rfl) ?_
  refine sxl_nil ?_
  refine qx_seq ?_
  refine sx_seq ?_
  refine sx_region ?_
  iterate 3 refine sxl_y (wn_none rfl) rfl rfl (yp rfl) ?_
  refine sxl_y (wn_none rfl) rfl rfl (y_load rfl rfl (sc rfl) (by assumption)) ?_
  refine sxl_call (some 182) (by first | exact wn_none rfl | exact wn_on rfl rfl rfl) rfl rfl (yc_call rfl rfl Tryd.call51) (hro) ?_
  rintro _ w3 ⟨gp', gs', st', rfl, hst1, hst2, hrf', hgp', hgs', hf3⟩
  refine ⟨_, rfl, ?_⟩
  rw [hxl] at hst1 hst2
  have hsm := sm.opened hst1 hst2
  rw [hbr]
  iterate 7 refine sxl_y (wn_none rfl) rfl rfl (yp rfl) ?_
  refine sxl_nil ?_
  refine qx_seq ?_
  refine sx_seq ?_
  refine sx_seq ?_
  refine sx_region ?_
  iterate 2 refine sxl_y (wn_none rfl) rfl rfl (yp rfl) ?_
  refine sxl_y (wn_none rfl) rfl rfl (y_neq_f rfl rfl rfl (by omega)) ?_
  refine sxl_y (wn_none rfl) rfl rfl (yp rfl) ?_
  refine sxl_y (wn_on rfl rfl rfl) rfl rfl (yp rfl) ?_
  refine sxl_y (wn_on rfl rfl rfl) rfl rfl (yp rfl) ?_
  refine sxl_y (wn_on rfl rfl rfl) rfl rfl (y_neq_f rfl rfl rfl (by omega)) ?_
  iterate 2 refine sxl_y (wn_none rfl) rfl rfl (yp rfl) ?_
  refine sxl_y (wn_on rfl rfl rfl) rfl rfl (yp rfl) ?_
  refine sxl_y (wn_on rfl rfl rfl) rfl rfl (y_eqlNil rfl rfl rfl (pt rfl)) ?_
  refine sxl_y (wn_on rfl rfl rfl) rfl rfl (yp rfl) ?_
  refine sxl_y (wn_on rfl rfl rfl) rfl rfl (y_eqlNil rfl rfl rfl (pt rfl)) ?_
  refine sxl_y (wn_on rfl rfl rfl) rfl rfl (y_neqBool rfl rfl rfl Tryd.underlying4) ?_
  refine sxl_y (wn_none rfl) rfl rfl (yp rfl) ?_
  refine sxl_nil ?_
  refine qx_seq ?_
  refine sx_false rfl ?_
  refine sx_skip ?_
  refine qx_seq ?_
  refine sx_seq ?_
  refine sx_seq ?_
  refine sx_region ?_
  refine sxl_y (wn_none rfl) rfl rfl (yp rfl) ?_
  refine sxl_y (wn_none rfl) rfl rfl (y_neq_f rfl rfl rfl (by omega)) ?_
  refine sxl_nil ?_
  refine qx_seq ?_
  refine sx_false rfl ?_
  refine sx_skip ?_
  refine qx_seq ?_
  refine sx_seq ?_
  refine sx_region ?_
  iterate 3 refine sxl_y (wn_none rfl) rfl rfl (yp rfl) ?_
  refine sxl_y (wn_none rfl) rfl rfl (y_loadB rfl rfl hrf'.hp Tryd.underlying97 rfl rpg_size (Nat.le_refl _)) ?_
  refine sxl_y (wn_none rfl) rfl rfl (yp rfl) ?_
  have hrf3 := h2.rf.fr0 hf3
  refine sxl_does none (wn_none rfl) rfl rfl (fun ρ hρ => does_store 97 (.tmp 209) (.tmp 208) rfl R.gp 0 97 _ (RX.pcells ⟨x.wrote, x.s0, x.s1, x.r0, x.r1, if x.s0 < x.s1 then x.s1 else x.s0, if x.s0 < x.s1 then x.r1 else x.r0, st'⟩ R.gd gs') (hρ _ _ rfl) (hρ _ _ rfl) hrf3.hp (by rw [rpg_size]; rfl) (by simp [RX.pcells]) (by simp [RX.pcells, Value.oneCell'])) ?_
  rintro _ w4 ⟨rfl, hb4, hf4⟩
  have hne : gs' ≠ R.gp := by have := h2.rf.lt (.inl rfl : R.blocks R.gp); omega
  have hx4 : RfAt w4 ⟨R.gp, R.gd, gs', R.gw⟩ ⟨x.wrote, x.s0, x.s1, x.r0, x.r1, if x.s0 < x.s1 then x.s1 else x.s0, if x.s0 < x.s1 then x.r1 else x.r0, st'⟩ := ⟨hb4, hrf'.hd.fr hf4 (fun e => h2.rf.n1 e.symm), hrf'.hs.fr hf4 hne, hrf'.hw.fr hf4 (fun e => h2.rf.n4 e.symm)⟩
  have h4 := h2.newR (R' := ⟨R.gp, R.gd, gs', R.gw⟩) hx4 ((Fr.of0 hf3 : Fr R.blocks w2 w3).trans (hf4.mono (fun _ _ e => .inl e))) (fun b hb => by
    rcases hb with hb | hb | hb | hb
    · exact .inl (.inl hb)
    · exact .inl (.inr (.inl hb))
    · have hb : b = gs' := hb
      exact .inr (by omega)
    · exact .inl (.inr (.inr (.inr hb)))) sm.keep
  refine sxl_nil ?_
  refine qx_seq ?_
  refine sx_seq ?_
  refine sx_region ?_
  iterate 3 refine sxl_y (wn_none rfl) rfl rfl (yp rfl) ?_
  refine sxl_nil ?_
  refine qx_seq ?_
  refine sx_ret ?_
  refine qx_block_ret ?_
  refine qx_then_ret ?_
  refine qx_ret2 rfl rfl rfl ?_
  exact ⟨Q2, _, s, ⟨R.gp, R.gd, gs', R.gw⟩, _, rfl, h4, hsm.mono (Nat.le_succ _) hB, hnew.gd, rfl⟩
set_option maxHeartbeats 16000000 in
theorem do_1 (h : Pw w0 w Q p s R x) (sm : Sm N B p s x) (hB : B < 100) (n : Int) (dt : List UInt8) (A : Option Addr) (c : Nat) (l : List Int) (hdl : dt.length ≤ 2000) :
    Calls Tryd.prog 28 #[.agg #[.int .i64 1, .int .i64 n, str dt, .slice A l.length c], .pointer (some ⟨Q.L.gd, 0, none⟩), .pointer (some ⟨Q.gp, 0, none⟩), .pointer (some ⟨R.gp, 0, none⟩)] w fun e w' => DoA w0 w' N B Q R e := by
  have h22 := sm.n22
  have hlw := sm.waits
  have hld := sm.done
  have hpc := sm.pages
  have hxl := sm.xlen
  have hn3 := sm.n3
  refine sx_enter (vs := [_, _, _, _]) Tryd.func28 rfl Tryd.ntmps28 rfl ?_
  refine sx_seq ?_
  refine sx_region ?_
  refine sxl_does (some 4) (wn_none rfl) rfl rfl (fun ρ hρ => does_box 66 (.tmp 0) rfl [.int .i64 1, .int .i64 n, str dt, .slice A l.length c] (by rw [hρ _ _ rfl]; rfl)) ?_
  rintro _ w1 ⟨g4, rfl, hg1, hg2, hb1, hf1⟩
  have h1 := h.fr0 hf1
  have k0 : Cell w1.heap g4 0 (.int .i64 1) := hb1.c 0 rfl
  have k1 : Cell w1.heap g4 1 (.int .i64 n) := hb1.c 1 rfl
  have k2 : Cell w1.heap g4 2 (str dt) := hb1.c 2 rfl
  have k3 : Cell w1.heap g4 3 (.slice A l.length c) := hb1.c 3 rfl
  iterate 2 refine sxl_y (wn_none rfl) rfl rfl (yp rfl) ?_
  refine sxl_nil ?_
  refine qx_seq ?_
  refine sx_seq ?_
  refine sx_seq ?_
  refine sx_region ?_
  refine sxl_y (wn_none rfl) rfl rfl (yp rfl) ?_
  refine sxl_y (wn_none rfl) rfl rfl (y_load rfl rfl (sc rfl) (by assumption)) ?_
  refine sxl_nil ?_
  refine qx_seq ?_
  refine sx_block ?_
  refine sx_seq ?_
  refine sx_region ?_
  refine sxl_y (wn_none rfl) rfl rfl (y_eql_f rfl rfl rfl (by omega)) ?_
  refine sxl_y (wn_none rfl) rfl rfl (yp rfl) ?_
  refine sxl_nil ?_
  refine qx_seq ?_
  refine sx_false rfl ?_
  refine sx_seq ?_
  refine sx_region ?_
  refine sxl_y (wn_none rfl) rfl rfl (y_eql_t rfl rfl rfl (by omega)) ?_
  refine sxl_y (wn_none rfl) rfl rfl (yp rfl) ?_
  refine sxl_nil ?_
  refine qx_seq ?_
  refine sx_true rfl ?_
  refine sx_seq ?_
  refine sx_region ?_
  refine sxl_y (wn_none rfl) rfl rfl (yp rfl) ?_
  refine sxl_y (wn_none rfl) rfl rfl (y_load rfl rfl (sc rfl) (by assumption)) ?_
  refine sxl_does (some 64) (wn_none rfl) rfl rfl (fun ρ hρ => does_strBF rfl (hρ _ _ rfl) Tryd.underlying9 Tryd.underlying39 Tryd.underlying5) ?_
  rintro _ w2 ⟨gb, cb, cs, rfl, hb1', hb2', hcells, hcsl, hrb, hf2⟩
  have h2 := h1.fr0 hf2
  have k1 := k1.fr hf2 (fun hh => hh)
  have k2 := k2.fr hf2 (fun hh => hh)
  have hg4z := hb1.lt
  -- both write
  have both : ∃ (p' : PS) (s' : DS) (x' : RX) (cd : Int), (∀ W, Pw w0 W Q p s R x → Rd W (some ⟨gb, 0, none⟩) dt.length (bvs dt) → Calls Tryd.prog 14 #[.pointer (some ⟨Q.gp, 0, none⟩), .int .i64 n, .slice (some ⟨gb, 0, none⟩) dt.length cb] W fun e W' => ∃ Q', e = .returned (.int .i64 cd) ∧ PgTo W W' Q Q' p' s') ∧ (∀ W, RfAt W R x → Calls Tryd.prog 46 #[.pointer (some ⟨R.gp, 0, none⟩), .int .i64 n, str dt, .int .i64 502] W fun e W' => e = .returned (.int .i64 cd) ∧ RfTo W W' R x') ∧ Sm N (B + 1) p' s' x' ∧ s'.keep = [] := by
    by_cases hc : p.wrChk s n dt.length = 0
    · obtain ⟨k, rfl⟩ : ∃ k : Nat, n = (k : Int) := by
        refine ⟨n.toNat, ?_⟩
        have := sm.chk n dt.length
        rw [hc] at this
        by_cases hn : n < 2 ∨ (N : Int) ≤ n
        · rw [if_pos hn] at this; cases this
        · omega
      obtain ⟨ok, e2, sm2⟩ := sm.wrOk hB dt hc
      refine ⟨_, _, _, 0, fun W hW hr => ?_, fun W hx => ?_, sm2, sm2.keep⟩
      · have := pWrite_ok hW.pg k (some ⟨gb, 0, none⟩) dt.length cb dt hc hr sm.room (by omega) (by omega)
        rw [ok, if_pos rfl] at this
        rw [ok]
        exact this
      · have := rwrite_any hx (k : Int) dt (by omega)
        rw [e2] at this
        exact this
    · obtain ⟨e1, e2⟩ := sm.wrNo n dt hc
      refine ⟨p, s, x, (x.write n dt).2, fun W hW hr => ?_, fun W hx => ?_, sm.mono (Nat.le_succ _) hB, sm.keep⟩
      · have := pWrite_no hW.pg n (some ⟨gb, 0, none⟩) dt.length cb (by omega) hc
        rw [e1] at this
        exact this.mono fun e W' ⟨he, hw⟩ => ⟨Q, he, by subst hw; exact .refl hW.pg Fr.refl⟩
      · have := rwrite_any hx n dt (by omega)
        rw [e2] at this
        exact this
  obtain ⟨p', s', x', cd, hwp, hwx, sm2, hk2⟩ := both
  refine sxl_y (wn_none rfl) rfl rfl (yp rfl) ?_
  refine sxl_nil ?_
  refine qx_seq ?_
  refine sx_seq ?_
  refine sx_any 13 (fun w' => Cell w'.heap g4 1 (.int .i64 n) ∧ Cell w'.heap g4 2 (str dt) ∧ True) hmix ?_
  have HS : Cell w2.drew.heap g4 1 (.int .i64 n) ∧ Cell w2.drew.heap g4 2 (str dt) ∧ True := ⟨k1, k2, trivial⟩
  refine sxo_y 0 13 (by kernel_rfl) (fun c a t v w h => by cases t <;> exact h) (by kernel_rfl) rfl (by kernel_rfl) (by kernel_rfl) rfl (wn_none rfl) rfl rfl HS (fun w' hS' => yp rfl) ?_
  refine sxo_y 1 13 (by kernel_rfl) (fun c a t v w h => by cases t <;> exact h) (by kernel_rfl) rfl (by kernel_rfl) (by kernel_rfl) rfl (wn_none rfl) rfl rfl HS (fun w' hS' => yp rfl) ?_
  refine sxo_y 2 13 (by kernel_rfl) (fun c a t v w h => by cases t <;> exact h) (by kernel_rfl) rfl (by kernel_rfl) (by kernel_rfl) rfl (wn_none rfl) rfl rfl HS (fun w' hS' => y_load rfl rfl (sc rfl) (by obtain ⟨q1, q2, q3⟩ := hS'; assumption)) ?_
  refine sxo_y 3 13 (by kernel_rfl) (fun c a t v w h => by cases t <;> exact h) (by kernel_rfl) rfl (by kernel_rfl) (by kernel_rfl) rfl (wn_none rfl) rfl rfl HS (fun w' hS' => yp rfl) ?_
  refine sxo_y 5 13 (by kernel_rfl) (fun c a t v w h => by cases t <;> exact h) (by kernel_rfl) rfl (by kernel_rfl) (by kernel_rfl) rfl (wn_none rfl) rfl rfl HS (fun w' hS' => yp rfl) ?_
  refine sxo_y 6 13 (by kernel_rfl) (fun c a t v w h => by cases t <;> exact h) (by kernel_rfl) rfl (by kernel_rfl) (by kernel_rfl) rfl (wn_none rfl) rfl rfl HS (fun w' hS' => yp rfl) ?_
  refine sxo_y 7 13 (by kernel_rfl) (fun c a t v w h => by cases t <;> exact h) (by kernel_rfl) rfl (by kernel_rfl) (by kernel_rfl) rfl (wn_none rfl) rfl rfl HS (fun w' hS' => y_load rfl rfl (sc rfl) (by obtain ⟨q1, q2, q3⟩ := hS'; assumption)) ?_
  refine sxo_y 8 13 (by kernel_rfl) (fun c a t v w h => by cases t <;> exact h) (by kernel_rfl) rfl (by kernel_rfl) (by kernel_rfl) rfl (wn_none rfl) rfl rfl HS (fun w' hS' => yp rfl) ?_
  refine sxo_y 9 13 (by kernel_rfl) (fun c a t v w h => by cases t <;> exact h) (by kernel_rfl) rfl (by kernel_rfl) (by kernel_rfl) rfl (wn_none rfl) rfl rfl HS (fun w' hS' => y_load rfl rfl (sc rfl) (by obtain ⟨q1, q2, q3⟩ := hS'; assumption)) ?_
  have h2d := h2.fr0 (Fr.refl.drew : Fr0 w2 w2.drew)
  refine sxo_call 4 (some 69) (by kernel_rfl) rfl (wn_none rfl) rfl rfl (yc_call rfl rfl Tryd.call14) (hwp w2.drew h2d (hrb.fr0 Fr.refl.drew)) ?_
  rintro _ w3 ⟨Q3, rfl, hto⟩
  have h3 := h2d.toQ hto
  have HS : Cell w3.heap g4 1 (.int .i64 n) ∧ Cell w3.heap g4 2 (str dt) ∧ True := ⟨HS.1.fr hto.fr (fun hq => by have := h.pg.lt hq; omega), HS.2.1.fr hto.fr (fun hq => by have := h.pg.lt hq; omega), trivial⟩
  have hnq : ¬ Q.blocks gb := fun hq => by have := h1.pg.lt hq; omega
  have hnr : ¬ R.blocks gb := fun hq => by have := h1.rf.lt hq; omega
  refine ⟨_, rfl, fun _ => HS, ?_⟩
  refine sxo_call 10 (some 75) (by kernel_rfl) rfl (wn_none rfl) rfl rfl (yc_call rfl rfl Tryd.call46) (hwx w3 h3.rf) ?_
  rintro _ w4 ⟨rfl, hrt⟩
  have h4 := h3.toR hrt hk2
  have HS : Cell w4.heap g4 1 (.int .i64 n) ∧ Cell w4.heap g4 2 (str dt) ∧ True := ⟨HS.1.fr hrt.fr (fun hq => by have := h.rf.lt hq; omega), HS.2.1.fr hrt.fr (fun hq => by have := h.rf.lt hq; omega), trivial⟩
  refine ⟨_, rfl, fun _ => HS, ?_⟩
  have hrb4 : Rd w4 (some ⟨gb, 0, none⟩) dt.length (bvs dt) := ((hrb.fr0 (Fr.refl.drew : Fr0 w2 w2.drew)).fr hto.fr (fun _ b off e => by injection e with e; injection e with e _ _; subst e; exact hnq)).fr hrt.fr (fun _ b off e => by injection e with e; injection e with e _ _; subst e; exact hnr)
  have hcells4 : w4.heap[gb]? = some (.cells cs 5 (cs.size, cs.size + 1)) := by
    have e1 := hto.fr.block gb (by show gb < w2.heap.size; omega) hnq
    have hz := hto.fr.size
    have e2 := hrt.fr.block gb (by have : w2.heap.size ≤ w3.heap.size := hz; omega) hnr
    rw [e2, e1]; exact hcells
  have hgp : Q3.gp = Q.gp := hto.gp
  refine sxo_y 11 13 (by kernel_rfl) (fun c a t v w h => by cases t <;> exact h) (by kernel_rfl) rfl (by kernel_rfl) (by kernel_rfl) rfl (wn_none rfl) rfl rfl HS (fun w' hS' => yp rfl) ?_
  refine sxo_y 12 13 (by kernel_rfl) (fun c a t v w h => by cases t <;> exact h) (by kernel_rfl) rfl (by kernel_rfl) (by kernel_rfl) rfl (wn_none rfl) rfl rfl HS (fun w' hS' => yp rfl) ?_
  refine sxo_done (by kernel_rfl) ?_
  obtain ⟨k1, k2, _⟩ := HS
  refine qx_seq ?_
  refine sx_seq ?_
  refine sx_region ?_
  refine sxl_y (wn_none rfl) rfl rfl (yp rfl) ?_
  refine sxl_y (wn_none rfl) rfl rfl (y_bstr rfl rfl Tryd.underlying39 Tryd.underlying5 Tryd.underlying9 hrb4) ?_
  refine sxl_y (wn_none rfl) rfl rfl (yp rfl) ?_
  refine sxl_y (wn_none rfl) rfl rfl (y_load rfl rfl (sc rfl) (by assumption)) ?_
  refine sxl_y (wn_none rfl) rfl rfl (y_seql_t (b := dt) rfl rfl rfl rfl) ?_
  refine sxl_y (wn_none rfl) rfl rfl (yp rfl) ?_
  refine sxl_nil ?_
  refine qx_seq ?_
  refine sx_seq ?_
  refine sx_seq ?_
  refine sx_region ?_
  refine sxl_y (wn_none rfl) rfl rfl (yp rfl) ?_
  refine sxl_nil ?_
  refine qx_seq ?_
  refine sx_block ?_
  refine sx_loop (fun e wr m => ∃ (i : Nat) (cs' : Array Value), e = [(18, .int .i64 (i : Int)), (17, .bool true), (16, .int .i64 cd), (15, .int .i64 cd), (14, .slice (some ⟨gb, 0, none⟩) dt.length cb), (2, .pointer (some ⟨Q.gp, 0, none⟩))] ∧ i ≤ dt.length ∧ cs'.size = cs.size ∧ wr.heap[gb]? = some (.cells cs' 5 (cs'.size, cs'.size + 1)) ∧ Fr (fun b => b = gb) w4 wr ∧ m = dt.length - i)
    ⟨0, cs, rfl, Nat.zero_le _, rfl, hcells4, Fr.refl, rfl⟩ ⟨rfl, rfl, rfl, rfl, rfl, rfl, trivial⟩ ?_
  rintro _ wr _ ⟨i, cs', rfl, hi, hsz, hck, hfr, rfl⟩
  by_cases hlt : i < dt.length
  · refine sx_seq ?_
    refine sx_seq ?_
    refine sx_region ?_
    iterate 2 refine sxl_y (wn_none rfl) rfl rfl (yp rfl) ?_
    refine sxl_y (wn_none rfl) rfl rfl (y_len rfl rfl (sl rfl)) ?_
    refine sxl_y (wn_none rfl) rfl rfl (y_lss_t rfl rfl rfl (by omega)) ?_
    refine sxl_nil ?_
    refine qx_seq ?_
    refine sx_true rfl ?_
    refine sx_skip ?_
    refine qx_seq ?_
    refine sx_seq ?_
    refine sx_block ?_
    refine sx_region ?_
    iterate 2 refine sxl_y (wn_none rfl) rfl rfl (yp rfl) ?_
    refine sxl_y (wn_none rfl) rfl rfl (y_indexN rfl rfl rfl (sl rfl) (by omega)) ?_
    refine sxl_does none (wn_none rfl) rfl rfl (fun ρ hρ => does_store1F 5 (.tmp 89) _ rfl gb (0 + i * 1) 5 cs' (.int .u8 238) (hρ _ _ rfl) (hρ _ _ rfl) rfl hck (by kernel_rfl) (by omega) rfl) ?_
    rintro _ w5 ⟨rfl, ⟨cs2, hs2, hck2⟩, hf5⟩
    refine sxl_nil ?_
    refine qx_block_normal ?_
    refine qx_seq ?_
    refine sx_region ?_
    refine sxl_y (wn_none rfl) rfl rfl (yp rfl) ?_
    refine sxl_y (wn_none rfl) rfl rfl (y_add rfl rfl rfl (by omega)) ?_
    refine sxl_y (wn_none rfl) rfl rfl (yp rfl) ?_
    refine sxl_nil ?_
    exact qx_again [(18, .int .i64 ((i + 1 : Nat) : Int)), (17, .bool true), (16, .int .i64 cd), (15, .int .i64 cd), (14, .slice (some ⟨gb, 0, none⟩) dt.length cb), (2, .pointer (some ⟨Q.gp, 0, none⟩))] (dt.length - (i + 1)) ⟨i + 1, cs2, rfl, hlt, hs2.trans hsz, hck2, hfr.trans hf5, rfl⟩ (by omega) ⟨rfl, rfl, rfl, rfl, rfl, rfl, trivial⟩
  · refine sx_seq ?_
    refine sx_seq ?_
    refine sx_region ?_
    iterate 2 refine sxl_y (wn_none rfl) rfl rfl (yp rfl) ?_
    refine sxl_y (wn_none rfl) rfl rfl (y_len rfl rfl (sl rfl)) ?_
    refine sxl_y (wn_none rfl) rfl rfl (y_lss_f rfl rfl rfl (by omega)) ?_
    refine sxl_nil ?_
    refine qx_seq ?_
    refine sx_false rfl ?_
    refine sx_exit ?_
    refine qx_then_exit ?_
    refine qx_then_exit ?_
    refine qx_block_hit ?_
    refine qx_seq ?_
    refine sx_seq ?_
    refine sx_region ?_
    iterate 3 refine sxl_y (wn_none rfl) rfl rfl (yp rfl) ?_
    refine sxl_y (wn_none rfl) rfl rfl (y_eql_t rfl rfl rfl (by omega)) ?_
    refine sxl_y (wn_none rfl) rfl rfl (yp rfl) ?_
    refine sxl_y (wn_on rfl rfl rfl) rfl rfl (yp rfl) ?_
    iterate 3 refine sxl_y (wn_none rfl) rfl rfl (yp rfl) ?_
    refine sxl_nil ?_
    refine qx_seq ?_
    refine sx_ret ?_
    refine qx_block_ret ?_
    refine qx_then_ret ?_
    refine qx_ret2 rfl rfl rfl ?_
    refine ⟨Q3, p', s', R, x', ?_, ?_, sm2, hto.gd, rfl⟩
    · rw [hgp]
    · have hq4 : ∀ b, Q3.blocks b → b ≠ gb := fun b hb e => by
        rcases hto.bl b hb with hq | hq
        · exact hnq (e ▸ hq)
        · have : w2.heap.size ≤ b := hq; omega
      exact ⟨h4.pg.frS hfr (fun b hb e => hq4 b hb e) hk2, h4.rf.fr hfr (fun b hb e => hnr (e ▸ hb)), h4.dis, h4.ownQ, h4.ownR, h4.fr.step hfr (fun b hb e => by have := h.fr.size; omega)⟩
set_option maxHeartbeats 16000000 in
theorem do_8 (h : Pw w0 w Q p s R x) (sm : Sm N B p s x) (hB : B < 100) (kd : Int) (z0 : kd ≠ 0) (z1 : kd ≠ 1) (z2 : kd ≠ 2) (z4 : kd ≠ 4) (z5 : kd ≠ 5) (z6 : kd ≠ 6) (z7 : kd ≠ 7) (n : Int) (dt : List UInt8) (A : Option Addr) (c : Nat) (l : List Int) :
    Calls Tryd.prog 28 #[.agg #[.int .i64 kd, .int .i64 n, str dt, .slice A l.length c], .pointer (some ⟨Q.L.gd, 0, none⟩), .pointer (some ⟨Q.gp, 0, none⟩), .pointer (some ⟨R.gp, 0, none⟩)] w fun e w' => DoA w0 w' N B Q R e := by
  have h22 := sm.n22
  have hlw := sm.waits
  have hld := sm.done
  have hpc := sm.pages
  have hxl := sm.xlen
  have hn3 := sm.n3
  refine sx_enter (vs := [_, _, _, _]) Tryd.func28 rfl Tryd.ntmps28 rfl ?_
  refine sx_seq ?_
  refine sx_region ?_
  refine sxl_does (some 4) (wn_none rfl) rfl rfl (fun ρ hρ => does_box 66 (.tmp 0) rfl [.int .i64 kd, .int .i64 n, str dt, .slice A l.length c] (by rw [hρ _ _ rfl]; rfl)) ?_
  rintro _ w1 ⟨g4, rfl, hg1, hg2, hb1, hf1⟩
  have h1 := h.fr0 hf1
  have k0 : Cell w1.heap g4 0 (.int .i64 kd) := hb1.c 0 rfl
  have k1 : Cell w1.heap g4 1 (.int .i64 n) := hb1.c 1 rfl
  have k2 : Cell w1.heap g4 2 (str dt) := hb1.c 2 rfl
  have k3 : Cell w1.heap g4 3 (.slice A l.length c) := hb1.c 3 rfl
  have hfm := format_ok Q.L h1.pg.dk sm.ddead sm.fset (by have := sm.ln; omega) (by omega) (by omega)
  iterate 2 refine sxl_y (wn_none rfl) rfl rfl (yp rfl) ?_
  refine sxl_nil ?_
  refine qx_seq ?_
  refine sx_seq ?_
  refine sx_seq ?_
  refine sx_region ?_
  refine sxl_y (wn_none rfl) rfl rfl (yp rfl) ?_
  refine sxl_y (wn_none rfl) rfl rfl (y_load rfl rfl (sc rfl) (by assumption)) ?_
  refine sxl_nil ?_
  refine qx_seq ?_
  refine sx_block ?_
  refine sx_seq ?_
  refine sx_region ?_
  refine sxl_y (wn_none rfl) rfl rfl (y_eql_f rfl rfl rfl (by omega)) ?_
  refine sxl_y (wn_none rfl) rfl rfl (yp rfl) ?_
  refine sxl_nil ?_
  refine qx_seq ?_
  refine sx_false rfl ?_
  refine sx_seq ?_
  refine sx_region ?_
  refine sxl_y (wn_none rfl) rfl rfl (y_eql_f rfl rfl rfl (by omega)) ?_
  refine sxl_y (wn_none rfl) rfl rfl (yp rfl) ?_
  refine sxl_nil ?_
  refine qx_seq ?_
  refine sx_false rfl ?_
  refine sx_seq ?_
  refine sx_region ?_
  refine sxl_y (wn_none rfl) rfl rfl (y_eql_f rfl rfl rfl (by omega)) ?_
  refine sxl_y (wn_none rfl) rfl rfl (yp rfl) ?_
  refine sxl_nil ?_
  refine qx_seq ?_
  refine sx_false rfl ?_
  refine sx_seq ?_
  refine sx_region ?_
  refine sxl_y (wn_none rfl) rfl rfl (y_eql_f rfl rfl rfl (by omega)) ?_
  refine sxl_y (wn_none rfl) rfl rfl (yp rfl) ?_
  refine sxl_nil ?_
  refine qx_seq ?_
  refine sx_false rfl ?_
  refine sx_seq ?_
  refine sx_region ?_
  refine sxl_y (wn_none rfl) rfl rfl (y_eql_f rfl rfl rfl (by omega)) ?_
  refine sxl_y (wn_none rfl) rfl rfl (yp rfl) ?_
  refine sxl_nil ?_
  refine qx_seq ?_
  refine sx_false rfl ?_
  refine sx_seq ?_
  refine sx_region ?_
  refine sxl_y (wn_none rfl) rfl rfl (y_eql_f rfl rfl rfl (by omega)) ?_
  refine sxl_y (wn_none rfl) rfl rfl (yp rfl) ?_
  refine sxl_nil ?_
  refine qx_seq ?_
  refine sx_false rfl ?_
  refine sx_seq ?_
  refine sx_region ?_
  refine sxl_y (wn_none rfl) rfl rfl (y_eql_f rfl rfl rfl (by omega)) ?_
  refine sxl_y (wn_none rfl) rfl rfl (yp rfl) ?_
  refine sxl_nil ?_
  refine qx_seq ?_
  refine sx_false rfl ?_
  refine sx_skip ?_
  refine qx_block_normal ?_
  refine qx_seq ?_
  refine sx_seq ?_
  refine sx_region ?_
  refine sxl_y (wn_none rfl) rfl rfl (yp rfl) ?_
  refine sxl_call (some 213) (wn_none rfl) rfl rfl (yc_call rfl rfl Tryd.call8) hfm ?_
  rintro _ w2 ⟨Q2, rfl, hnew⟩
  refine ⟨_, rfl, ?_⟩
  have h2 := h1.newQ hnew
  have hsm := sm.fmt hB
  have r0 := h2.rf.c0
  iterate 5 refine sxl_y (wn_none rfl) rfl rfl (yp rfl) ?_
  refine sxl_nil ?_
  refine qx_seq ?_
  refine sx_seq ?_
  refine sx_region ?_
  iterate 3 refine sxl_y (wn_none rfl) rfl rfl (yp rfl) ?_
  refine sxl_y (wn_none rfl) rfl rfl (y_load rfl rfl (sc rfl) (by assumption)) ?_
  refine sxl_call (some 221) (by first | exact wn_none rfl | exact wn_on rfl rfl rfl) rfl rfl (yc_call rfl rfl Tryd.call24) (rformat_ok h2.rf.disk (by omega) (by omega)) ?_
  rintro _ w3 ⟨gp', gs', rfl, hrf', hgp', hgs', hf3⟩
  refine ⟨_, rfl, ?_⟩
  iterate 5 refine sxl_y (wn_none rfl) rfl rfl (yp rfl) ?_
  refine sxl_nil ?_
  refine qx_seq ?_
  refine sx_seq ?_
  refine sx_seq ?_
  refine sx_region ?_
  iterate 2 refine sxl_y (wn_none rfl) rfl rfl (yp rfl) ?_
  refine sxl_y (wn_none rfl) rfl rfl (y_neq_f rfl rfl rfl (by omega)) ?_
  refine sxl_y (wn_none rfl) rfl rfl (yp rfl) ?_
  refine sxl_y (wn_on rfl rfl rfl) rfl rfl (yp rfl) ?_
  refine sxl_y (wn_on rfl rfl rfl) rfl rfl (y_eqlNil rfl rfl rfl (pt rfl)) ?_
  iterate 2 refine sxl_y (wn_none rfl) rfl rfl (yp rfl) ?_
  refine sxl_y (wn_on rfl rfl rfl) rfl rfl (yp rfl) ?_
  refine sxl_y (wn_on rfl rfl rfl) rfl rfl (y_eqlNil rfl rfl rfl (pt rfl)) ?_
  refine sxl_y (wn_none rfl) rfl rfl (yp rfl) ?_
  refine sxl_nil ?_
  refine qx_seq ?_
  refine sx_false rfl ?_
  refine sx_skip ?_
  refine qx_seq ?_
  refine sx_seq ?_
  refine sx_region ?_
  iterate 3 refine sxl_y (wn_none rfl) rfl rfl (yp rfl) ?_
  refine sxl_y (wn_none rfl) rfl rfl (y_loadB rfl rfl hrf'.hp Tryd.underlying97 rfl rpg_size (Nat.le_refl _)) ?_
  refine sxl_y (wn_none rfl) rfl rfl (yp rfl) ?_
  have hhp3 : Blk w3 R.gp 97 (x.pcells R.gd R.gs) := h2.rf.hp.fr hf3 h2.rf.n1
  refine sxl_does none (wn_none rfl) rfl rfl (fun ρ hρ => does_store 97 (.tmp 240) (.tmp 239) rfl R.gp 0 97 _ (RX.pcells ⟨x.wrote, 1, 0, 0, 0, 1, 0, List.replicate x.st.length 0⟩ R.gd gs') (hρ _ _ rfl) (hρ _ _ rfl) hhp3 (by rw [rpg_size]; rfl) (by simp [RX.pcells]) (by simp [RX.pcells, Value.oneCell'])) ?_
  rintro _ w4 ⟨rfl, hb4, hf4⟩
  have hne : gs' ≠ R.gp := by have := h2.rf.lt (.inl rfl : R.blocks R.gp); omega
  have hx4 : RfAt w4 ⟨R.gp, R.gd, gs', R.gw⟩ ⟨x.wrote, 1, 0, 0, 0, 1, 0, List.replicate x.st.length 0⟩ := ⟨hb4, hrf'.hd.fr hf4 (fun e => h2.rf.n1 e.symm), hrf'.hs.fr hf4 hne, hrf'.hw.fr hf4 (fun e => h2.rf.n4 e.symm)⟩
  have h4 := h2.newR (R' := ⟨R.gp, R.gd, gs', R.gw⟩) hx4 ((hf3.mono (fun _ _ e => .inr (.inl e)) : Fr R.blocks w2 w3).trans (hf4.mono (fun _ _ e => .inl e))) (fun b hb => by
    rcases hb with hb | hb | hb | hb
    · exact .inl (.inl hb)
    · exact .inl (.inr (.inl hb))
    · have hb : b = gs' := hb
      exact .inr (by omega)
    · exact .inl (.inr (.inr (.inr hb)))) hsm.keep
  refine sxl_nil ?_
  refine qx_seq ?_
  refine sx_seq ?_
  refine sx_region ?_
  iterate 3 refine sxl_y (wn_none rfl) rfl rfl (yp rfl) ?_
  refine sxl_nil ?_
  refine qx_seq ?_
  refine sx_ret ?_
  refine qx_ret2 rfl rfl rfl ?_
  exact ⟨Q2, _, _, ⟨R.gp, R.gd, gs', R.gw⟩, _, rfl, h4, hsm, hnew.gd, rfl⟩
end
end Go.Proofs.YthdlljlcffokbaaDoor
