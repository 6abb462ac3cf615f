/- api.Value: what makes one (value.Number, Truth, Words), and when two are the same. -/
import Derived.Test.YtklciidffdnglaaDoorStr2
import Derived.Test.YtklciidffdnglaaDoorTab
import Derived.Laws.StructEq
namespace Go.Proofs.YtklciidffdnglaaDoor
open Go.RowKit

structure Vl where
  kind : UInt8
  int : Int
  bool : Bool
  text : List UInt8
def Vl.cells (v : Vl) : List Value := [bv v.kind, .int .i64 v.int, .bool v.bool, str v.text]
def Vl.val (v : Vl) : Value := .agg v.cells.toArray
def Vl.same (a b : Vl) : Bool := decide ((a.kind.toNat : Int) = b.kind.toNat) && (decide (a.int = b.int) && ((a.bool == b.bool) && decide (a.text = b.text)))
theorem Vl.cells_one (v : Vl) : ∀ u ∈ v.cells, u.oneCell' = true := by
  intro u hu
  simp only [Vl.cells, List.mem_cons, List.not_mem_nil, or_false] at hu
  rcases hu with rfl | rfl | rfl | rfl <;> rfl
def zeroVl : Vl := ⟨0, 0, false, []⟩
theorem value_zero : (Tryd.prog.info? 36).map (·.zero) = some (some zeroVl.val) := by kernel_rfl
theorem value_size : (Tryd.prog.info? 36).map (·.size) = some 4 := by kernel_rfl
theorem number_built (n : Int) : Tryd.prog.built 36 [(0, .int .u8 1), (1, .int .i64 n)] = some (Vl.cells ⟨1, n, false, []⟩).toArray := by kernel_rfl
theorem truth_built (b : Bool) : Tryd.prog.built 36 [(0, .int .u8 2), (2, .bool b)] = some (Vl.cells ⟨2, 0, b, []⟩).toArray := by kernel_rfl
theorem words_built (l : List UInt8) : Tryd.prog.built 36 [(0, .int .u8 3), (3, str l)] = some (Vl.cells ⟨3, 0, false, l⟩).toArray := by kernel_rfl
section
variable {P : Program} {e : Env} {w : World} {n : Nat}
/-- A struct that is handed back out of the cell in which it was made. -/
theorem qx_retC {fn : Func} {R : Ending → World → Prop} {t ty g m : Nat} {d : TypeDesc} {xs : List Value} (hr : fn.results = #[.cell t ty]) (hv : e.get t = some (.pointer (some ⟨g, 0, none⟩))) (hrd : Rd w (some ⟨g, 0, none⟩) m xs) (hu : P.underlying ty = some d) (hd : d.isRow = true) (hi : (P.info? ty).map (·.size) = some m)
    (h : R (.returned (.agg xs.toArray)) w) : QX (bodyPost P fn R) .ret n e w := .mk fun a ha => by
  have hc : w.rangeAt g 0 xs := fun j v hv => by
    have hj : 0 < m := by have := (List.getElem?_eq_some_iff.1 hv).1; have := hrd.1; omega
    obtain ⟨b', off', e, hc⟩ := hrd.2 hj
    injection e with e; injection e with e1 e2 _; subst e1; subst e2
    exact hc j v hv
  have hrun := run_loadVar_mid (P := P) w g 0 ty xs d hc hu hd (by rw [hrd.1]; exact hi)
  have : (results fn a.tmps).run P w = .ok (.agg xs.toArray) w := by simp [results, hr, ha.get t _ hv, asAddr, hrun]
  exact ⟨ha.defers, _, this, h⟩
end
set_option maxHeartbeats 4000000 in
theorem number_ok (i : Int) (w : World) : Calls Tryd.prog 16 #[.int .i64 i] w fun e w' => e = .returned (Vl.val ⟨1, i, false, []⟩) ∧ Fr0 w w' := by
  refine sx_enter (vs := [_]) Tryd.func16 rfl Tryd.ntmps16 rfl ?_
  refine sx_seq ?_
  refine sx_region ?_
  refine sxl_does (some 2) (wn_none rfl) rfl rfl (fun ρ hρ => does_alloc 36 rfl _ _ value_zero rfl) ?_
  rintro _ w1 ⟨g, rfl, hg1, hg2, hb, hf⟩
  refine sxl_nil ?_
  refine qx_seq ?_
  refine sx_seq ?_
  refine sx_region ?_
  refine sxl_y (wn_none rfl) rfl rfl (yp rfl) ?_
  refine sxl_y (wn_none rfl) rfl rfl (y_build rfl rfl (number_built i)) ?_
  refine sxl_does none (wn_none rfl) rfl rfl (fun ρ hρ => does_store 36 (.tmp 2) (.tmp 4) rfl g 0 36 _ (Vl.cells ⟨1, i, false, []⟩) (hρ _ _ rfl) (hρ _ _ rfl) hb value_size (by show 0 + 4 ≤ 4; omega) (Vl.cells_one _)) ?_
  rintro _ w2 ⟨rfl, hb2, hf2⟩
  rw [put_all zeroVl.cells (Vl.cells ⟨1, i, false, []⟩) rfl] at hb2
  refine sxl_nil ?_
  refine qx_seq ?_
  refine sx_ret ?_
  refine qx_retC rfl rfl (Rd.ofBlk hb2 rfl) Tryd.underlying36 rfl value_size ?_
  exact ⟨rfl, hf.step hf2 (fun k hk e => by omega)⟩
set_option maxHeartbeats 4000000 in
theorem truth_ok (i : Bool) (w : World) : Calls Tryd.prog 17 #[.bool i] w fun e w' => e = .returned (Vl.val ⟨2, 0, i, []⟩) ∧ Fr0 w w' := by
  refine sx_enter (vs := [_]) Tryd.func17 rfl Tryd.ntmps17 rfl ?_
  refine sx_seq ?_
  refine sx_region ?_
  refine sxl_does (some 2) (wn_none rfl) rfl rfl (fun ρ hρ => does_alloc 36 rfl _ _ value_zero rfl) ?_
  rintro _ w1 ⟨g, rfl, hg1, hg2, hb, hf⟩
  refine sxl_nil ?_
  refine qx_seq ?_
  refine sx_seq ?_
  refine sx_region ?_
  refine sxl_y (wn_none rfl) rfl rfl (yp rfl) ?_
  refine sxl_y (wn_none rfl) rfl rfl (y_build rfl rfl (truth_built i)) ?_
  refine sxl_does none (wn_none rfl) rfl rfl (fun ρ hρ => does_store 36 (.tmp 2) (.tmp 4) rfl g 0 36 _ (Vl.cells ⟨2, 0, i, []⟩) (hρ _ _ rfl) (hρ _ _ rfl) hb value_size (by show 0 + 4 ≤ 4; omega) (Vl.cells_one _)) ?_
  rintro _ w2 ⟨rfl, hb2, hf2⟩
  rw [put_all zeroVl.cells (Vl.cells ⟨2, 0, i, []⟩) rfl] at hb2
  refine sxl_nil ?_
  refine qx_seq ?_
  refine sx_ret ?_
  refine qx_retC rfl rfl (Rd.ofBlk hb2 rfl) Tryd.underlying36 rfl value_size ?_
  exact ⟨rfl, hf.step hf2 (fun k hk e => by omega)⟩
set_option maxHeartbeats 4000000 in
theorem words_ok (i : List UInt8) (w : World) : Calls Tryd.prog 18 #[str i] w fun e w' => e = .returned (Vl.val ⟨3, 0, false, i⟩) ∧ Fr0 w w' := by
  refine sx_enter (vs := [_]) Tryd.func18 rfl Tryd.ntmps18 rfl ?_
  refine sx_seq ?_
  refine sx_region ?_
  refine sxl_does (some 2) (wn_none rfl) rfl rfl (fun ρ hρ => does_alloc 36 rfl _ _ value_zero rfl) ?_
  rintro _ w1 ⟨g, rfl, hg1, hg2, hb, hf⟩
  refine sxl_nil ?_
  refine qx_seq ?_
  refine sx_seq ?_
  refine sx_region ?_
  refine sxl_y (wn_none rfl) rfl rfl (yp rfl) ?_
  refine sxl_y (wn_none rfl) rfl rfl (y_build rfl rfl (words_built i)) ?_
  refine sxl_does none (wn_none rfl) rfl rfl (fun ρ hρ => does_store 36 (.tmp 2) (.tmp 4) rfl g 0 36 _ (Vl.cells ⟨3, 0, false, i⟩) (hρ _ _ rfl) (hρ _ _ rfl) hb value_size (by show 0 + 4 ≤ 4; omega) (Vl.cells_one _)) ?_
  rintro _ w2 ⟨rfl, hb2, hf2⟩
  rw [put_all zeroVl.cells (Vl.cells ⟨3, 0, false, i⟩) rfl] at hb2
  refine sxl_nil ?_
  refine qx_seq ?_
  refine sx_ret ?_
  refine qx_retC rfl rfl (Rd.ofBlk hb2 rfl) Tryd.underlying36 rfl value_size ?_
  exact ⟨rfl, hf.step hf2 (fun k hk e => by omega)⟩
theorem value_guard : Tryd.prog.eqGuardType Tryd.prog.depth 36 = false := by kernel_rfl
theorem value_held : Tryd.prog.stoodInHeld 36 = false := by kernel_rfl
theorem value_fields : Tryd.prog.underlying 36 = some (.struct (Tryd.prog.fieldsOf 36)) := by kernel_rfl
theorem eqFields_cons {P : Program} {w : World} {f : Field} {fs : List Field} {d : Nat} {xs ys : Array Value} {a b : Value} {r : Bool} (hn : f.name ≠ "_") (ha : (part f.type xs f.offset).run P w = .ok a w) (hb : (part f.type ys f.offset).run P w = .ok b w)
    (hr : (Op.equalIn d f.type a b).run P w = .ok r w) : (Op.eqFields d xs ys (f :: fs)).run P w = if r then (Op.eqFields d xs ys fs).run P w else .ok false w := by
  simp only [Op.eqFields, if_pos hn, Sem.run_bind, ha, hb, hr, Result.andThen_ok]
  cases r <;> simp
theorem run_part {P : Program} {w : World} {t : TypeId} {xs : Array Value} {off : Nat} {v : Value} (ha : (isAgg t).run P w = .ok false w) (hx : xs[off]? = some v) : (part t xs off).run P w = .ok v w := by simp [part, ha, hx]
theorem y_eqVl {e : Env} {w : World} {o : Oper} {t' : Nat} {x y : Operand} {a b : Vl} (ho : o.op = .binOp .eql 36 x y t') (hx : ev e x = some a.val) (hy : ev e y = some b.val) : Y Tryd.prog e o w (.bool (a.same b)) := fun ρ h => by
  have h1 : ρ x = .agg a.cells.toArray := h _ _ hx
  have h2 : ρ y = .agg b.cells.toArray := h _ _ hy
  have hg := run_eqGuard_agg (P := Tryd.prog) w .eql 36 x y a.cells.toArray b.cells.toArray value_guard
  have hrun : (Op.equalIn 10000 36 (.agg a.cells.toArray) (.agg b.cells.toArray)).run Tryd.prog w = .ok (a.same b) w := by
    rw [run_equalIn_struct w 9999 36 _ _ value_fields value_held]
    have hl : (Tryd.prog.fieldsOf 36).toList = (match Tryd.prog.underlying 36 with | some (.struct fs) => fs.toList | _ => []) := by unfold Program.fieldsOf; rw [Tryd.underlying36]
    rw [hl, Tryd.underlying36]
    simp only
    rw [eqFields_cons (a := .int .u8 (a.kind.toNat : Int)) (b := .int .u8 (b.kind.toNat : Int)) (by decide) (run_part (Tryd.isAgg5 w) rfl) (run_part (Tryd.isAgg5 w) rfl) (run_equalIn_int w 9998 5 _ _ _ _ Tryd.underlying5),
      eqFields_cons (a := .int .i64 a.int) (b := .int .i64 b.int) (by decide) (run_part (Tryd.isAgg2 w) rfl) (run_part (Tryd.isAgg2 w) rfl) (run_equalIn_int w 9998 2 _ _ _ _ Tryd.underlying2),
      eqFields_cons (a := .bool a.bool) (b := .bool b.bool) (by decide) (run_part (Tryd.isAgg4 w) rfl) (run_part (Tryd.isAgg4 w) rfl) (run_equalIn_bool' w 9998 4 _ _ Tryd.underlying4),
      eqFields_cons (a := str a.text) (b := str b.text) (by decide) (run_part (Tryd.isAgg9 w) rfl) (run_part (Tryd.isAgg9 w) rfl) (run_equalIn_string w 9998 9 _ _ Tryd.underlying9)]
    have ht : ((⟨a.text.toArray⟩ : ByteArray).toList == (⟨b.text.toArray⟩ : ByteArray).toList) = decide (a.text = b.text) := by
      rw [ByteArray.toList_eq, ByteArray.toList_eq]
      by_cases h : a.text = b.text <;> simp [h]
    rw [ht]
    simp only [Op.eqFields, Sem.run_pure]
    unfold Vl.same
    by_cases h1 : (a.kind.toNat : Int) = b.kind.toNat <;> by_cases h2 : a.int = b.int <;> by_cases h3 : a.bool = b.bool <;> by_cases h4 : a.text = b.text <;> simp [h1, h2, h3, h4]
  unfold execOp
  simp only [ho, h1, h2, Sem.run_bind, hg, Result.andThen_ok, run_eql_struct, hrun]
  rfl
end Go.Proofs.YtklciidffdnglaaDoor
