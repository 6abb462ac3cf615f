/- slices.Backward over binds: what it makes, and what the function that it makes does with yield. -/
import Derived.Test.YtklciidffdnglaaDoorSf
import Derived.Test.YtklciidffdnglaaDoorBind
import Derived.Test.YtklciidffdnglaaDoorMap
namespace Go.Proofs.YtklciidffdnglaaDoor
open Go.RowKit

theorem Fr.putObj {S : Nat → Prop} {w w' : World} (h : Fr S w w') {lr : Nat} (o : Obj) (hl : w.heap.size ≤ lr) : Fr S w (w'.putObj lr o) :=
  ⟨h.os, h.tape, h.output, by rw [World.putObj_size]; exact h.size, fun k hk hn => (World.putObj_heap_other (by omega)).trans (h.block k hk hn)⟩
theorem Mp.putObj {w : World} {g lr : Nat} {L : List (List UInt8 × Value)} (h : Mp w g L) (o : Obj) (hne : g ≠ lr) : Mp (w.putObj lr o) g L := by
  obtain ⟨es, cl, h1, h2⟩ := h
  exact ⟨es, cl, (World.putObj_heap_other hne).trans h1, h2⟩
theorem Blk.putObj {w : World} {g lr : Nat} {t : TypeId} {cs : List Value} (h : Blk w g t cs) (o : Obj) (hne : g ≠ lr) : Blk (w.putObj lr o) g t cs := (World.putObj_heap_other hne).trans h
set_option maxHeartbeats 4000000 in
theorem backMk_ok (A : Option Addr) (n c : Nat) (w : World) : Calls Tryd.prog 7 #[.slice A n c] w fun e w' =>
    ∃ g, e = .returned (.func (.func 12) #[] #[.pointer (some ⟨g, 0, none⟩)]) ∧ w.heap.size ≤ g ∧ g < w'.heap.size ∧ Blk w' g 22 [.slice A n c] ∧ Fr0 w w' := by
  refine sx_enter (vs := [_]) Tryd.func7 rfl Tryd.ntmps7 rfl ?_
  refine sx_seq ?_
  refine sx_region ?_
  refine sxl_does (some 1) (wn_none rfl) rfl rfl (fun ρ hρ => does_box 22 (.tmp 0) rfl [.slice A n c] (by rw [hρ _ _ rfl]; rfl)) ?_
  rintro _ w1 ⟨g, rfl, hg1, hg2, hb, hf⟩
  refine sxl_y (wn_none rfl) rfl rfl (yp rfl) ?_
  refine sxl_nil ?_
  refine qx_seq ?_
  refine sx_seq ?_
  refine sx_region ?_
  refine sxl_y (wn_none rfl) rfl rfl (y_func (xs := []) (ys := [.tmp 1]) rfl rfl rfl) ?_
  refine sxl_y (wn_none rfl) rfl rfl (yp rfl) ?_
  refine sxl_nil ?_
  refine qx_seq ?_
  refine sx_ret ?_
  refine qx_ret1 rfl rfl ?_
  exact ⟨g, rfl, hg1, hg2, hb, hf⟩
namespace Sf
set_option maxHeartbeats 8000000 in
theorem back_ok (A : Option Addr) (c lr gb : Nat) (l : List Bd) (J : Nat → World → Prop) (hlen : (l.length : Int) < 4611686018427387904)
    (hcell : ∀ i w, J i w → Cell w.heap gb 0 (.slice A l.length c)) (hrd : ∀ i w, J i w → Rd w A (l.length * 5) (flatD l)) (hrec : ∀ i w, J i w → ∃ r, w.heap[lr]? = some (.loop r) ∧ r.params.size = 2)
    (hround : ∀ i x w r, l[i]? = some x → J (i + 1) w → w.heap[lr]? = some (.loop r) → RoundIn Fence.wide 2 Tryd.prog lr r.fn ((r.params.zip [Value.int .i64 (i : Int), x.val].toArray).foldl (fun tmps (t, a) => tmps.setIfInBounds t a) r.tmps) r.assign r.body w
      (fun e w' => e = .returned (.bool true) ∧ J i w')) (w : World) (h0 : J l.length w) :
    Calls Tryd.prog 12 #[.func (.yield lr) #[] #[], .pointer (some ⟨gb, 0, none⟩)] w fun e w' => e = .returned (.tuple #[]) ∧ J 0 w' := by
  refine sx_enter (vs := [_, _]) Tryd.func12 rfl Tryd.ntmps12 rfl ?_
  have c0 := hcell _ _ h0
  refine sx_seq ?_
  refine sx_region ?_
  refine sxl_y (wn_none rfl) rfl rfl (y_load rfl rfl (sc rfl) (by assumption)) ?_
  refine sxl_y (wn_none rfl) rfl rfl (y_len rfl rfl (sl rfl)) ?_
  refine sxl_y (wn_none rfl) rfl rfl (y_sub rfl rfl rfl (by omega)) ?_
  refine sxl_y (wn_none rfl) rfl rfl (yp rfl) ?_
  refine sxl_nil ?_
  refine qx_seq ?_
  refine sx_block ?_
  refine sx_loop (e0 := [(3, .int .i64 ((l.length : Int) - 1)), (0, .func (.yield lr) #[] #[]), (1, .pointer (some ⟨gb, 0, none⟩))]) (fun e wr m => ∃ (j : Nat), e = [(3, .int .i64 ((j : Int) - 1)), (0, .func (.yield lr) #[] #[]), (1, .pointer (some ⟨gb, 0, none⟩))] ∧ J j wr ∧ j ≤ l.length ∧ m = j) ⟨l.length, rfl, h0, Nat.le_refl _, rfl⟩ ⟨rfl, rfl, rfl, trivial⟩ ?_
  rintro _ wr m ⟨j, rfl, hJ, hj, hm⟩
  by_cases hj0 : j = 0
  · subst hj0
    refine sx_seq ?_
    refine sx_seq ?_
    refine sx_region ?_
    refine sxl_y (wn_none rfl) rfl rfl (yp rfl) ?_
    refine sxl_y (wn_none rfl) rfl rfl (y_geq_f rfl rfl rfl (by omega)) ?_
    refine sxl_nil ?_
    refine qx_seq ?_
    refine sx_false rfl ?_
    refine sx_exit ?_
    refine qx_then_exit ?_
    refine qx_then_exit ?_
    refine qx_block_hit ?_
    refine qx_ret0 (Or.inr rfl) rfl ?_
    exact ⟨rfl, hJ⟩
  · obtain ⟨i, rfl⟩ : ∃ i, j = i + 1 := ⟨j - 1, by omega⟩
    rw [show (((i + 1 : Nat) : Int) - 1) = (i : Int) by omega]
    have c1 := hcell _ _ hJ
    obtain ⟨x, hx⟩ : ∃ x, l[i]? = some x := ⟨_, List.getElem?_eq_getElem (by omega)⟩
    obtain ⟨b, off, rfl, el⟩ := rd_bind (hrd _ _ hJ) hx
    obtain ⟨r, hr, hps⟩ := hrec _ _ hJ
    refine sx_seq ?_
    refine sx_seq ?_
    refine sx_region ?_
    refine sxl_y (wn_none rfl) rfl rfl (yp rfl) ?_
    refine sxl_y (wn_none rfl) rfl rfl (y_geq_t rfl rfl rfl (by omega)) ?_
    refine sxl_nil ?_
    refine qx_seq ?_
    refine sx_true rfl ?_
    refine sx_skip ?_
    refine qx_seq ?_
    refine sx_seq ?_
    refine sx_block ?_
    refine sx_seq ?_
    refine sx_region ?_
    refine sxl_y (wn_none rfl) rfl rfl (yp rfl) ?_
    refine sxl_y (wn_none rfl) rfl rfl (yp rfl) ?_
    refine sxl_y (wn_none rfl) rfl rfl (y_load rfl rfl (sc rfl) (by assumption)) ?_
    refine sxl_y (wn_none rfl) rfl rfl (yp rfl) ?_
    refine sxl_y (wn_none rfl) rfl rfl (y_indexN rfl rfl rfl (sl rfl) (by omega)) ?_
    refine sxl_y (wn_none rfl) rfl rfl (y_loadRd rfl rfl el.all Tryd.underlying38 rfl bind_size) ?_
    refine sxl_round (some 17) (wn_none rfl) rfl rfl rfl rfl rfl hr (by rw [hps]; rfl) (hround i x _ r hx hJ hr) ?_
    rintro _ w2 ⟨rfl, hJ2⟩
    refine ⟨_, rfl, ?_⟩
    refine sxl_y (wn_none rfl) rfl rfl (yp rfl) ?_
    refine sxl_nil ?_
    refine qx_seq ?_
    refine sx_false rfl ?_
    refine sx_skip ?_
    refine qx_block_normal ?_
    refine qx_seq ?_
    refine sx_region ?_
    refine sxl_y (wn_none rfl) rfl rfl (yp rfl) ?_
    refine sxl_y (wn_none rfl) rfl rfl (y_sub rfl rfl rfl (by omega)) ?_
    refine sxl_y (wn_none rfl) rfl rfl (yp rfl) ?_
    refine sxl_nil ?_
    exact qx_again [(3, .int .i64 ((i : Int) - 1)), (0, .func (.yield lr) #[] #[]), (1, .pointer (some ⟨gb, 0, none⟩))] i ⟨i, rfl, hJ2, by omega, rfl⟩ (by omega) ⟨rfl, rfl, rfl, trivial⟩
end Sf
end Go.Proofs.YtklciidffdnglaaDoor
