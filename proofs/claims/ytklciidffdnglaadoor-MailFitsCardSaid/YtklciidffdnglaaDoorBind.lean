/- api.Bind in a slice; tollgateref09.Find. -/
import Derived.Test.YtklciidffdnglaaDoorValue
import Derived.Test.YtklciidffdnglaaDoorMail1
import Derived.Test.YtklciidffdnglaaDoorFlat
namespace Go.Proofs.YtklciidffdnglaaDoor
open Go.RowKit

structure Bd where
  name : List UInt8
  v : Vl
def Bd.cells (b : Bd) : List Value := str b.name :: b.v.cells
def Bd.val (b : Bd) : Value := .agg b.cells.toArray
def rowsD (l : List Bd) : List (List Value) := l.map Bd.cells
def flatD (l : List Bd) : List Value := (rowsD l).flatten
theorem rowsD_all (l : List Bd) : All 5 (rowsD l) := fun r hr => by
  obtain ⟨b, _, rfl⟩ := List.mem_map.1 hr
  rfl
theorem flatD_len (l : List Bd) : (flatD l).length = l.length * 5 := by
  unfold flatD; rw [flat_length (rowsD_all l)]; simp [rowsD]
theorem flatD_at {l : List Bd} {i : Nat} {x : Bd} (h : l[i]? = some x) {j : Nat} {u : Value} (hj : x.cells[j]? = some u) : (flatD l)[i * 5 + j]? = some u := by
  have h1 := flat_at (rowsD_all l) (i := i) (x := x.cells) (by unfold rowsD; rw [List.getElem?_map, h]; rfl)
  have hj5 : j < 5 := by have := (List.getElem?_eq_some_iff.1 hj).1; exact this
  have h2 : (((rowsD l).flatten.drop (i * 5)).take 5)[j]? = x.cells[j]? := congrArg (·[j]?) h1
  rw [List.getElem?_take_of_lt hj5, List.getElem?_drop, hj] at h2
  exact h2
/-- An element of a slice of binds. -/
structure ElD (w : World) (b off : Nat) (x : Bd) : Prop where
  name : Cell w.heap b (off + 0) (str x.name)
  kind : Cell w.heap b (off + 1 + 0) (.int .u8 (x.v.kind.toNat : Int))
  val : Rd w (some ⟨b, off + 1, none⟩) 4 x.v.cells
  all : Rd w (some ⟨b, off, none⟩) 5 x.cells
theorem ElD.of {w : World} {b off : Nat} {x : Bd} (h : ∀ (j : Nat) u, x.cells[j]? = some u → w.cell? ⟨b, off + j, none⟩ = some u) : ElD w b off x where
  name := Cell.of (h 0 _ rfl)
  kind := Cell.of (h 1 _ rfl)
  val := ⟨rfl, fun _ => ⟨b, off + 1, rfl, fun j u hu => by rw [Nat.add_assoc, Nat.add_comm 1 j]; exact h (j + 1) u hu⟩⟩
  all := ⟨rfl, fun _ => ⟨b, off, rfl, h⟩⟩
theorem rd_bind {w : World} {A : Option Addr} {l : List Bd} (hr : Rd w A (l.length * 5) (flatD l)) {i : Nat} {x : Bd} (hx : l[i]? = some x) : ∃ b off, A = some ⟨b, off, none⟩ ∧ ElD w b (off + i * 5) x := by
  have hi := (List.getElem?_eq_some_iff.1 hx).1
  obtain ⟨b, off, e, hc⟩ := hr.2 (by omega)
  exact ⟨b, off, e, ElD.of fun j u hu => by rw [Nat.add_assoc]; exact hc _ u (flatD_at hx hu)⟩
/-- A bind in a variable of its own. -/
theorem blk_bind {w : World} {g : Nat} {t : TypeId} {x : Bd} (h : Blk w g t x.cells) : ElD w g 0 x := ElD.of fun j u hu => by
  rw [Nat.zero_add]; exact (h.cell j).trans hu
theorem Bd.cells_one (b : Bd) : ∀ u ∈ b.cells, u.oneCell' = true := by
  intro u hu
  simp only [Bd.cells, Vl.cells, List.mem_cons, List.not_mem_nil, or_false] at hu
  rcases hu with rfl | rfl | rfl | rfl | rfl <;> rfl
def zeroBd : Bd := ⟨[], zeroVl⟩
theorem bind_zero : (Tryd.prog.info? 38).map (·.zero) = some (some zeroBd.val) := by kernel_rfl
theorem bind_size : (Tryd.prog.info? 38).map (·.size) = some 5 := by kernel_rfl
/-- The value of a name. -/
def bfind : List Bd → List UInt8 → Option Vl
  | [], _ => none
  | x :: r, k => if x.name = k then some x.v else bfind r k
section
variable {P : Program} {e : Env} {w : World} {n : Nat}
/-- A struct out of the cell in which it was made, and a value. -/
theorem qx_retC2 {fn : Func} {R : Ending → World → Prop} {t ty g m u : Nat} {v : Value} {d : TypeDesc} {xs : List Value} (hr : fn.results = #[.cell t ty, .tmp u]) (hv : e.get t = some (.pointer (some ⟨g, 0, none⟩))) (hrd : Rd w (some ⟨g, 0, none⟩) m xs) (hu : P.underlying ty = some d) (hd : d.isRow = true) (hi : (P.info? ty).map (·.size) = some m)
    (hv' : e.get u = some v) (h : R (.returned (.tuple #[.agg xs.toArray, v])) w) : QX (bodyPost P fn R) .ret n e w := .mk fun a ha => by
  have hc : w.rangeAt g 0 xs := fun j v hv => by
    have hj : 0 < m := by have := (List.getElem?_eq_some_iff.1 hv).1; have := hrd.1; omega
    obtain ⟨b', off', e, hc⟩ := hrd.2 hj
    injection e with e; injection e with e1 e2 _; subst e1; subst e2
    exact hc j v hv
  have hrun := run_loadVar_mid (P := P) w g 0 ty xs d hc hu hd (by rw [hrd.1]; exact hi)
  have : (results fn a.tmps).run P w = .ok (.tuple #[.agg xs.toArray, v]) w := by simp [results, hr, ha.get t _ hv, ha.get u _ hv', asAddr, hrun]
  exact ⟨ha.defers, _, this, h⟩
end
theorem value_built0 : Tryd.prog.built 36 [] = some zeroVl.cells.toArray := by kernel_rfl
set_option maxHeartbeats 8000000 in
theorem find_ok (A : Option Addr) (c : Nat) (l : List Bd) (k : List UInt8) (w : World) (hl : (l.length : Int) < 4611686018427387904) (hr : Rd w A (l.length * 5) (flatD l)) :
    Calls Tryd.prog 9 #[.slice A l.length c, str k] w fun e w' => e = .returned (.tuple #[Vl.val ((bfind l k).getD zeroVl), .bool (bfind l k).isSome]) ∧ Fr0 w w' := by
  refine sx_enter (vs := [_, _]) Tryd.func9 rfl Tryd.ntmps9 rfl ?_
  refine sx_seq ?_
  refine sx_region ?_
  refine sxl_does (some 4) (wn_none rfl) rfl rfl (fun ρ hρ => does_alloc 36 rfl _ _ value_zero rfl) ?_
  rintro _ w1 ⟨g, rfl, hg1, hg2, hb, hf⟩
  refine sxl_y (wn_none rfl) rfl rfl (yp rfl) ?_
  refine sxl_nil ?_
  refine qx_seq ?_
  refine sx_seq ?_
  refine sx_seq ?_
  refine sx_region ?_
  refine sxl_y (wn_none rfl) rfl rfl (yp rfl) ?_
  refine sxl_nil ?_
  refine qx_seq ?_
  refine sx_block ?_
  refine sx_loop (fun e wr m => ∃ (i : Nat), e = [(6, .int .i64 (i : Int)), (4, .pointer (some ⟨g, 0, none⟩)), (0, .slice A l.length c), (1, str k)] ∧ w1 = wr ∧ i ≤ l.length ∧ bfind l k = bfind (l.drop i) k ∧ m = l.length - i) ⟨0, rfl, rfl, Nat.zero_le _, rfl, rfl⟩ ⟨rfl, rfl, rfl, rfl, trivial⟩ ?_
  rintro _ _ _ ⟨i, rfl, rfl, hi, hfi, rfl⟩
  by_cases hlt : i < l.length
  · obtain ⟨x, hx⟩ : ∃ x, l[i]? = some x := ⟨_, List.getElem?_eq_getElem hlt⟩
    have hdr : l.drop i = x :: l.drop (i + 1) := by
      rw [List.drop_eq_getElem_cons hlt]
      congr 1
      rw [List.getElem?_eq_getElem hlt] at hx
      exact Option.some.inj hx
    obtain ⟨b, off, rfl, el⟩ := rd_bind (hr.fr0 hf) hx
    have e0 := el.name
    by_cases hk : x.name = k
    · have hfound : bfind l k = some x.v := by rw [hfi, hdr, bfind, if_pos hk]
      have hdk : decide (x.name = k) = true := by simp [hk]
      refine sx_seq ?_
      refine sx_seq ?_
      refine sx_region ?_
      refine sxl_y (wn_none rfl) rfl rfl (yp rfl) ?_
      refine sxl_y (wn_none rfl) rfl rfl (yp rfl) ?_
      refine sxl_y (wn_none rfl) rfl rfl (y_len rfl rfl (sl rfl)) ?_
      refine sxl_y (wn_none rfl) rfl rfl (y_lss_t rfl rfl rfl (by omega)) ?_
      refine sxl_nil ?_
      refine qx_seq ?_
      refine sx_true rfl ?_
      refine sx_skip ?_
      refine qx_seq ?_
      refine sx_seq ?_
      refine sx_block ?_
      refine sx_seq ?_
      refine sx_region ?_
      refine sxl_y (wn_none rfl) rfl rfl (yp rfl) ?_
      refine sxl_y (wn_none rfl) rfl rfl (yp rfl) ?_
      refine sxl_y (wn_none rfl) rfl rfl (y_indexN rfl rfl rfl (sl rfl) (by omega)) ?_
      refine sxl_y (wn_none rfl) rfl rfl (yp rfl) ?_
      refine sxl_y (wn_none rfl) rfl rfl (y_load rfl rfl (sc rfl) (by assumption)) ?_
      refine sxl_y (wn_none rfl) rfl rfl (yp rfl) ?_
      refine sxl_y (wn_none rfl) rfl rfl (y_seql rfl rfl rfl) ?_
      refine sxl_nil ?_
      refine qx_seq ?_
      rw [hdk]
      refine sx_true rfl ?_
      refine sx_seq ?_
      refine sx_region ?_
      refine sxl_y (wn_none rfl) rfl rfl (yp rfl) ?_
      refine sxl_y (wn_none rfl) rfl rfl (yp rfl) ?_
      refine sxl_y (wn_none rfl) rfl rfl (y_indexN rfl rfl rfl (sl rfl) (by omega)) ?_
      refine sxl_y (wn_none rfl) rfl rfl (yp rfl) ?_
      refine sxl_y (wn_none rfl) rfl rfl (y_loadRd rfl rfl el.val Tryd.underlying36 rfl value_size) ?_
      refine sxl_does none (wn_none rfl) rfl rfl (fun ρ hρ => does_store 36 (.tmp 4) (.tmp 24) rfl g 0 36 _ x.v.cells (hρ _ _ rfl) (hρ _ _ rfl) hb value_size (by show 0 + 4 ≤ 4; omega) (Vl.cells_one _)) ?_
      rintro _ w2 ⟨rfl, hb2, hf2⟩
      rw [put_all zeroVl.cells x.v.cells rfl] at hb2
      refine sxl_y (wn_none rfl) rfl rfl (yp rfl) ?_
      refine sxl_nil ?_
      refine qx_seq ?_
      refine sx_ret ?_
      refine qx_block_ret ?_
      refine qx_then_ret ?_
      refine qx_then_ret ?_
      refine qx_block_ret ?_
      refine qx_then_ret ?_
      refine qx_retC2 rfl rfl (Rd.ofBlk hb2 rfl) Tryd.underlying36 rfl value_size rfl ?_
      exact ⟨by rw [hfound]; rfl, hf.step hf2 (fun k hk e => by omega)⟩
    · have hnext : bfind l k = bfind (l.drop (i + 1)) k := by rw [hfi, hdr, bfind, if_neg hk]
      have hdk : decide (x.name = k) = false := by simp [hk]
      refine sx_seq ?_
      refine sx_seq ?_
      refine sx_region ?_
      refine sxl_y (wn_none rfl) rfl rfl (yp rfl) ?_
      refine sxl_y (wn_none rfl) rfl rfl (yp rfl) ?_
      refine sxl_y (wn_none rfl) rfl rfl (y_len rfl rfl (sl rfl)) ?_
      refine sxl_y (wn_none rfl) rfl rfl (y_lss_t rfl rfl rfl (by omega)) ?_
      refine sxl_nil ?_
      refine qx_seq ?_
      refine sx_true rfl ?_
      refine sx_skip ?_
      refine qx_seq ?_
      refine sx_seq ?_
      refine sx_block ?_
      refine sx_seq ?_
      refine sx_region ?_
      refine sxl_y (wn_none rfl) rfl rfl (yp rfl) ?_
      refine sxl_y (wn_none rfl) rfl rfl (yp rfl) ?_
      refine sxl_y (wn_none rfl) rfl rfl (y_indexN rfl rfl rfl (sl rfl) (by omega)) ?_
      refine sxl_y (wn_none rfl) rfl rfl (yp rfl) ?_
      refine sxl_y (wn_none rfl) rfl rfl (y_load rfl rfl (sc rfl) (by assumption)) ?_
      refine sxl_y (wn_none rfl) rfl rfl (yp rfl) ?_
      refine sxl_y (wn_none rfl) rfl rfl (y_seql rfl rfl rfl) ?_
      refine sxl_nil ?_
      refine qx_seq ?_
      rw [hdk]
      refine sx_false rfl ?_
      refine sx_skip ?_
      refine qx_block_normal ?_
      refine qx_seq ?_
      refine sx_region ?_
      refine sxl_y (wn_none rfl) rfl rfl (yp rfl) ?_
      refine sxl_y (wn_none rfl) rfl rfl (y_add rfl rfl rfl (by omega)) ?_
      refine sxl_y (wn_none rfl) rfl rfl (yp rfl) ?_
      refine sxl_nil ?_
      exact qx_again [(6, .int .i64 ((i + 1 : Nat) : Int)), (4, .pointer (some ⟨g, 0, none⟩)), (0, .slice (some ⟨b, off, none⟩) l.length c), (1, str k)] (l.length - (i + 1)) ⟨i + 1, rfl, rfl, by omega, hnext, rfl⟩ (by omega) ⟨rfl, rfl, rfl, rfl, trivial⟩
  · obtain rfl : i = l.length := by omega
    have hnone : bfind l k = none := by rw [hfi, List.drop_length]; rfl
    refine sx_seq ?_
    refine sx_seq ?_
    refine sx_region ?_
    refine sxl_y (wn_none rfl) rfl rfl (yp rfl) ?_
    refine sxl_y (wn_none rfl) rfl rfl (yp rfl) ?_
    refine sxl_y (wn_none rfl) rfl rfl (y_len rfl rfl (sl rfl)) ?_
    refine sxl_y (wn_none rfl) rfl rfl (y_lss_f rfl rfl rfl (by omega)) ?_
    refine sxl_nil ?_
    refine qx_seq ?_
    refine sx_false rfl ?_
    refine sx_exit ?_
    refine qx_then_exit ?_
    refine qx_then_exit ?_
    refine qx_block_hit ?_
    refine qx_seq ?_
    refine sx_seq ?_
    refine sx_region ?_
    refine sxl_y (wn_none rfl) rfl rfl (y_build rfl rfl value_built0) ?_
    refine sxl_does none (wn_none rfl) rfl rfl (fun ρ hρ => does_store 36 (.tmp 4) (.tmp 25) rfl g 0 36 _ zeroVl.cells (hρ _ _ rfl) (hρ _ _ rfl) hb value_size (by show 0 + 4 ≤ 4; omega) (Vl.cells_one _)) ?_
    rintro _ w2 ⟨rfl, hb2, hf2⟩
    rw [put_all zeroVl.cells zeroVl.cells rfl] at hb2
    refine sxl_y (wn_none rfl) rfl rfl (yp rfl) ?_
    refine sxl_nil ?_
    refine qx_seq ?_
    refine sx_ret ?_
    refine qx_retC2 rfl rfl (Rd.ofBlk hb2 rfl) Tryd.underlying36 rfl value_size rfl ?_
    exact ⟨by rw [hnone]; rfl, hf.step hf2 (fun k hk e => by omega)⟩
end Go.Proofs.YtklciidffdnglaaDoor
