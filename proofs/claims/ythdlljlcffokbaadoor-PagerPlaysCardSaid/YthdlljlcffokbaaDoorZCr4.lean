/- An entry is taken out of a map; a text's bytes; payload; stands. No condition. -/
import Derived.Test.YthdlljlcffokbaaDoorZCr3
import Derived.Lib.ConvBytes
namespace Go.Proofs.YthdlljlcffokbaaDoor
open Go.RowKit

def del (f : Int → Option Value) (k : Int) : Int → Option Value := fun x => if x = k then none else f x
section
variable {P : Program} {w : World} {o : Oper}
end
/-- What payload tells. -/
def payl (c : UInt8) (n k : Nat) : List UInt8 := [c, UInt8.ofNat n, UInt8.ofNat k, c, c]
def strs (f : Pgs) : Int → Option Value := fun k => (f k).map str
section
variable {w : World} {Q : PL} {p : PS} {s : DS}
set_option maxHeartbeats 8000000 in
theorem stands_any (h : PgAt w Q p s) (hpg : p.pages * 4 ≤ s.lasts.length) (root r : Int) (m : Nat) (f : Pgs) (hm : Mi w m (strs f)) :
    Calls Tryd.prog 20 #[.pointer (some ⟨Q.gp, 0, none⟩), .int .i64 root, .agg #[.int .i64 r, .map (some m)]] w fun e w' => ∃ b, e = .returned (.bool b) ∧ Fr0 w w' ∧ (root = r → (∀ n t, f n = some t → p.readA s n = (0, t)) → b = true) := by
  refine sx_enter (vs := [_, _, _]) Tryd.func20 rfl Tryd.ntmps20 rfl ?_
  refine sx_seq ?_
  refine sx_region ?_
  refine sxl_does (some 5) (wn_none rfl) rfl rfl (fun ρ hρ => does_box 38 (.tmp 2) rfl [.int .i64 r, .map (some m)] (by rw [hρ _ _ rfl]; rfl)) ?_
  rintro _ w1 ⟨g5, rfl, hg1, hg2, hb1, hf1⟩
  have c0 : Cell w1.heap g5 0 (.int .i64 r) := hb1.c 0 rfl
  have c1 : Cell w1.heap g5 1 (.map (some m)) := hb1.c 1 rfl
  by_cases hr : root = r
  case neg =>
    refine sxl_y (wn_none rfl) rfl rfl (yp rfl) ?_
    refine sxl_nil ?_
    refine qx_seq ?_
    refine sx_seq ?_
    refine sx_seq ?_
    refine sx_region ?_
    iterate 2 refine sxl_y (wn_none rfl) rfl rfl (yp rfl) ?_
    refine sxl_y (wn_none rfl) rfl rfl (y_load rfl rfl (sc rfl) (by assumption)) ?_
    refine sxl_y (wn_none rfl) rfl rfl (y_neq_t rfl rfl rfl (by omega)) ?_
    refine sxl_nil ?_
    refine qx_seq ?_
    refine sx_true rfl ?_
    refine sx_seq ?_
    refine sx_region ?_
    refine sxl_y (wn_none rfl) rfl rfl (yp rfl) ?_
    refine sxl_nil ?_
    refine qx_seq ?_
    refine sx_ret ?_
    refine qx_then_ret ?_
    refine qx_ret1 rfl rfl ?_
    exact ⟨false, rfl, hf1, fun e => absurd e hr⟩
  subst hr
  have hlt := hm.lt
  refine sxl_y (wn_none rfl) rfl rfl (yp rfl) ?_
  refine sxl_nil ?_
  refine qx_seq ?_
  refine sx_seq ?_
  refine sx_seq ?_
  refine sx_region ?_
  iterate 2 refine sxl_y (wn_none rfl) rfl rfl (yp rfl) ?_
  refine sxl_y (wn_none rfl) rfl rfl (y_load rfl rfl (sc rfl) (by assumption)) ?_
  refine sxl_y (wn_none rfl) rfl rfl (y_neq_f rfl rfl rfl (by omega)) ?_
  refine sxl_nil ?_
  refine qx_seq ?_
  refine sx_false rfl ?_
  refine sx_skip ?_
  refine qx_seq ?_
  refine sx_seq ?_
  refine sx_seq ?_
  refine sx_region ?_
  refine sxl_y (wn_none rfl) rfl rfl (yp rfl) ?_
  refine sxl_y (wn_none rfl) rfl rfl (y_load rfl rfl (sc rfl) (by assumption)) ?_
  refine sxl_does (some 17) (wn_none rfl) rfl rfl (fun ρ hρ => does_rangeI rfl (hρ _ _ rfl) Tryd.underlying36 (hm.fr hf1 (fun hh => hh))) ?_
  rintro _ w2 ⟨r17, n, rfl, hr1, hr2, hR, hf2⟩
  have hf12 := hf1.trans hf2
  have hz1 := hf1.size
  refine sxl_nil ?_
  refine qx_seq ?_
  refine sx_block ?_
  refine sx_loop (fun e wr m' => ∃ (todo : Int → Bool) (n' : Nat), e = [(17, .pointer (some ⟨r17, 0, none⟩)), (0, .pointer (some ⟨Q.gp, 0, none⟩))] ∧ MiR wr m r17 (strs f) todo n' ∧ Fr (fun b => b = r17) w2 wr ∧ m' = n')
    ⟨_, n, rfl, hR, Fr.refl, rfl⟩ ⟨rfl, rfl, trivial⟩ ?_
  rintro _ wr _ ⟨todo, n', rfl, hR, hfr, rfl⟩
  refine sx_seq ?_
  refine sx_region ?_
  refine sxl_does (some 18) (wn_none rfl) rfl rfl (fun ρ hρ => does_nextI rfl (hρ _ _ rfl) hR) ?_
  rintro _ w3 (⟨rfl, rfl, h0, hall⟩ | ⟨k, u, n2, rfl, hk, htk, hn2, hR2, hC, hf3, hsz⟩)
  · refine sxl_y (wn_none rfl) rfl rfl (yp rfl) ?_
    refine sxl_nil ?_
    refine qx_seq ?_
    refine sx_seq ?_
    refine sx_false rfl ?_
    refine sx_exit ?_
    refine qx_then_exit ?_
    refine qx_then_exit ?_
    refine qx_block_hit ?_
    refine qx_seq ?_
    refine sx_seq ?_
    refine sx_region ?_
    refine sxl_y (wn_none rfl) rfl rfl (yp rfl) ?_
    refine sxl_nil ?_
    refine qx_seq ?_
    refine sx_ret ?_
    refine qx_ret1 rfl rfl ?_
    exact ⟨true, rfl, hf12.step hfr (fun b hb e => by omega), fun _ _ => rfl⟩
  obtain ⟨t, ht, rfl⟩ : ∃ t, f k = some t ∧ str t = u := by
    unfold strs at hk
    cases hfk : f k with
    | none => rw [hfk] at hk; cases hk
    | some t => rw [hfk] at hk; injection hk with hk; exact ⟨t, rfl, hk⟩
  have hf03 : Fr0 w w3 := (hf12.step hfr (fun b hb e => by omega)).step hf3 (fun b hb e => by omega)
  have hread := pRead_any (h.fr0 hf03) k hpg
  generalize hra : p.readA s k = ra at hread
  obtain ⟨e0, l⟩ := ra
  refine sxl_y (wn_none rfl) rfl rfl (yp rfl) ?_
  refine sxl_nil ?_
  refine qx_seq ?_
  refine sx_seq ?_
  refine sx_true rfl ?_
  refine sx_skip ?_
  refine qx_seq ?_
  refine sx_block ?_
  refine sx_seq ?_
  refine sx_region ?_
  refine sxl_y (wn_none rfl) rfl rfl (y_entryI rfl rfl hC) ?_
  iterate 4 refine sxl_y (wn_none rfl) rfl rfl (yp rfl) ?_
  refine sxl_nil ?_
  refine qx_seq ?_
  refine sx_seq ?_
  refine sx_region ?_
  iterate 2 refine sxl_y (wn_none rfl) rfl rfl (yp rfl) ?_
  refine sxl_call (some 26) (by first | exact wn_none rfl | exact wn_on rfl rfl rfl) rfl rfl (yc_call rfl rfl Tryd.call30) (hread) ?_
  rintro _ w4 ⟨v, rfl, ho, hf4⟩
  refine ⟨_, rfl, ?_⟩
  have hf04 := hf03.trans hf4
  have ho : w4.ownsRow w3.heap.size 5 1 v l.length (bvs l) := ho
  obtain ⟨A, c, rfl, _, _, hrd, _⟩ := own_form ho
  by_cases he : e0 = 0
  case neg =>
    iterate 5 refine sxl_y (wn_none rfl) rfl rfl (yp rfl) ?_
    refine sxl_nil ?_
    refine qx_seq ?_
    refine sx_seq ?_
    refine sx_region ?_
    refine sxl_y (wn_none rfl) rfl rfl (yp rfl) ?_
    refine sxl_y (wn_none rfl) rfl rfl (y_neq_t rfl rfl rfl (by omega)) ?_
    refine sxl_y (wn_none rfl) rfl rfl (yp rfl) ?_
    refine sxl_off rfl rfl rfl rfl rfl rfl ?_
    refine sxl_off rfl rfl rfl rfl rfl rfl ?_
    refine sxl_off rfl rfl rfl rfl rfl rfl ?_
    refine sxl_off rfl rfl rfl rfl rfl rfl ?_
    refine sxl_y (wn_none rfl) rfl rfl (yp rfl) ?_
    refine sxl_nil ?_
    refine qx_seq ?_
    refine sx_true rfl ?_
    refine sx_seq ?_
    refine sx_region ?_
    refine sxl_y (wn_none rfl) rfl rfl (yp rfl) ?_
    refine sxl_nil ?_
    refine qx_seq ?_
    refine sx_ret ?_
    refine qx_block_ret ?_
    refine qx_then_ret ?_
    refine qx_block_ret ?_
    refine qx_then_ret ?_
    refine qx_ret1 rfl rfl ?_
    exact ⟨false, rfl, hf04, fun _ hall => by
      have := hall k t ht
      rw [hra] at this
      injection this with h1 _
      exact absurd h1 he⟩
  subst he
  by_cases hlt' : l = t
  case neg =>
    iterate 5 refine sxl_y (wn_none rfl) rfl rfl (yp rfl) ?_
    refine sxl_nil ?_
    refine qx_seq ?_
    refine sx_seq ?_
    refine sx_region ?_
    refine sxl_y (wn_none rfl) rfl rfl (yp rfl) ?_
    refine sxl_y (wn_none rfl) rfl rfl (y_neq_f rfl rfl rfl (by omega)) ?_
    refine sxl_y (wn_none rfl) rfl rfl (yp rfl) ?_
    refine sxl_y (wn_on rfl rfl rfl) rfl rfl (yp rfl) ?_
    refine sxl_y (wn_on rfl rfl rfl) rfl rfl (y_bstr rfl rfl Tryd.underlying39 Tryd.underlying5 Tryd.underlying9 hrd) ?_
    refine sxl_y (wn_on rfl rfl rfl) rfl rfl (yp rfl) ?_
    refine sxl_y (wn_on rfl rfl rfl) rfl rfl (y_sneq_t (b := t) rfl rfl rfl hlt') ?_
    refine sxl_y (wn_none rfl) rfl rfl (yp rfl) ?_
    refine sxl_nil ?_
    refine qx_seq ?_
    refine sx_true rfl ?_
    refine sx_seq ?_
    refine sx_region ?_
    refine sxl_y (wn_none rfl) rfl rfl (yp rfl) ?_
    refine sxl_nil ?_
    refine qx_seq ?_
    refine sx_ret ?_
    refine qx_block_ret ?_
    refine qx_then_ret ?_
    refine qx_block_ret ?_
    refine qx_then_ret ?_
    refine qx_ret1 rfl rfl ?_
    exact ⟨false, rfl, hf04, fun _ hall => by
      have := hall k t ht
      rw [hra] at this
      injection this with _ h1
      exact absurd h1 hlt'⟩
  iterate 5 refine sxl_y (wn_none rfl) rfl rfl (yp rfl) ?_
  refine sxl_nil ?_
  refine qx_seq ?_
  refine sx_seq ?_
  refine sx_region ?_
  refine sxl_y (wn_none rfl) rfl rfl (yp rfl) ?_
  refine sxl_y (wn_none rfl) rfl rfl (y_neq_f rfl rfl rfl (by omega)) ?_
  refine sxl_y (wn_none rfl) rfl rfl (yp rfl) ?_
  refine sxl_y (wn_on rfl rfl rfl) rfl rfl (yp rfl) ?_
  refine sxl_y (wn_on rfl rfl rfl) rfl rfl (y_bstr rfl rfl Tryd.underlying39 Tryd.underlying5 Tryd.underlying9 hrd) ?_
  refine sxl_y (wn_on rfl rfl rfl) rfl rfl (yp rfl) ?_
  refine sxl_y (wn_on rfl rfl rfl) rfl rfl (y_sneq_f (b := t) rfl rfl rfl hlt') ?_
  refine sxl_y (wn_none rfl) rfl rfl (yp rfl) ?_
  refine sxl_nil ?_
  refine qx_seq ?_
  refine sx_false rfl ?_
  refine sx_skip ?_
  refine qx_block_normal ?_
  exact qx_again [(17, .pointer (some ⟨r17, 0, none⟩)), (0, .pointer (some ⟨Q.gp, 0, none⟩))] n2 ⟨_, n2, rfl, hR2.fr hf4 (fun hh => hh) (fun hh => hh), (hfr.trans hf3).then0 hf4, rfl⟩ hn2 ⟨rfl, rfl, trivial⟩
end
theorem str_zero : (Tryd.prog.info? 9).map (·.zero) = some (some (str [])) := by kernel_rfl
section
variable {e : Env} {w : World} {o : Oper} {x i : Operand} {g : Nat} {k : Int} {f : Pgs}
theorem y_lookS_ok (ho : o.op = .lookup 36 x i true) (hx : ev e x = some (.map (some g))) (hi : ev e i = some (.int .i64 k)) (h : Mi w g (strs f)) {t : List UInt8} (ht : f k = some t) : Y Tryd.prog e o w (.tuple #[str t, .bool true]) := by
  have := y_lookI (ok := true) ho hx hi Tryd.underlying36 Tryd.underlying3 str_zero h
  unfold strs at this
  rw [ht] at this
  exact this
theorem y_lookS_no (ho : o.op = .lookup 36 x i true) (hx : ev e x = some (.map (some g))) (hi : ev e i = some (.int .i64 k)) (h : Mi w g (strs f)) (ht : f k = none) : Y Tryd.prog e o w (.tuple #[str [], .bool false]) := by
  have := y_lookI (ok := true) ho hx hi Tryd.underlying36 Tryd.underlying3 str_zero h
  unfold strs at this
  rw [ht] at this
  exact this
theorem y_seql_t {P : Program} {y : Operand} {t t' : Nat} {a b : List UInt8} (ho : o.op = .binOp .eql t x y t') (hx : ev e x = some (str a)) (hy : ev e y = some (str b)) (h : a = b) : Y P e o w (.bool true) := by
  have := y_seql (P := P) (w := w) ho hx hy
  rw [decide_eq_true h] at this; exact this
end
def updP (f : Pgs) (k : Int) (t : List UInt8) : Pgs := fun x => if x = k then some t else f x
def delP (f : Pgs) (k : Int) : Pgs := fun x => if x = k then none else f x
theorem strs_upd (f : Pgs) (k : Int) (t : List UInt8) : upd (strs f) k (str t) = strs (updP f k t) := by
  funext x; unfold upd strs updP; split <;> rfl
end Go.Proofs.YthdlljlcffokbaaDoor
