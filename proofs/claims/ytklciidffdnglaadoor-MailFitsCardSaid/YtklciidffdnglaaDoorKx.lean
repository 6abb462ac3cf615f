/- Closed calls that read tables: package-level variables whose cells are known at the start. Over any program. No condition. -/
import Derived.Test.YtklciidffdnglaaDoorKq
import Derived.Lib.LaidTab
import Derived.ChangeSame
namespace Go.Proofs.YtklciidffdnglaaDoor
open Go.RowKit Go.ChangeShapes

/-- The places of the package-level variables. -/
def wSg (G : Nat) (w : World) : Sg := fun id => if id < G then some ⟨id, 0, match w.heap[id]? with | some (.cells row _ _) => row.size | _ => 0⟩ else none
/-- A memory in which tables are known. -/
noncomputable def tabsH (el : Nat → Nat) (L : List (Nat × List Value)) : Hp := @List.rec (Nat × List Value) (fun _ => Hp) .lf (fun p _ ih => Tb.put ih p.1 (.cells (el p.1) (lenL p.2) 2 (Tb.of p.2))) L
theorem tabsH_get {el : Nat → Nat} : ∀ {L : List (Nat × List Value)} {id : Nat} {B : Bl}, (tabsH el L).get id = some B → ∃ p ∈ L, p.1 = id ∧ B = .cells (el id) p.2.length 2 (Tb.of p.2)
  | [], id, B, h => by
    have h : (Tb.lf : Hp).get id = some B := h
    rw [Tb.get_lf] at h; cases h
  | p :: L, id, B, h => by
    have h : (Tb.put (tabsH el L) p.1 (.cells (el p.1) (lenL p.2) 2 (Tb.of p.2))).get id = some B := h
    rw [Tb.get_put] at h
    by_cases e : id = p.1
    · rw [if_pos e] at h; injection h with h
      exact ⟨p, by simp, e.symm, by rw [← h, lenL_eq, e]⟩
    · rw [if_neg e] at h
      obtain ⟨q, hq, h1, h2⟩ := tabsH_get h
      exact ⟨q, by simp [hq], h1, h2⟩
/-- The rows stand so. -/
def Laid (w : World) (L : List (Nat × List Value)) : Prop := ∀ p ∈ L, ∃ el fz, w.heap[p.1]? = some (.cells p.2.toArray el fz)
def elOf (w : World) (id : Nat) : Nat := match w.heap[id]? with | some (.cells _ el _) => el | _ => 0
theorem mr_tabs {G : Nat} {w : World} {L : List (Nat × List Value)} (hG : L.all (fun p => Nat.blt p.1 G && flatN 1000 p.2) = true) (hw : Laid w L) : MR G (wSg G w) (tabsH (elOf w) L).get G w where
  blk id B hb := by
    obtain ⟨p, hp, rfl, rfl⟩ := tabsH_get hb
    have h1 := List.all_eq_true.1 hG p hp
    simp only [Bool.and_eq_true] at h1
    obtain ⟨el, fz, hrow⟩ := hw p hp
    have hel : elOf w p.1 = el := by unfold elOf; rw [hrow]
    refine ⟨⟨p.1, 0, p.2.length⟩, by unfold wSg; rw [if_pos (blt_lt h1.1), hrow]; simp, ⟨p.2.toArray, fz, by rw [hel]; exact hrow, by simp, by simp, fun i => ?_, fun i v hv => ?_, fun h => absurd rfl h⟩⟩
    · rw [Tb.get_of]; simp
    · rw [Tb.get_of] at hv
      refine ⟨v, by simpa using hv, ?_⟩
      have h2 : VRs (wSg G w) p.2 p.2 := flatN_ok 1000 h1.2
      obtain ⟨u, hu, hr⟩ := h2.get hv
      rw [hv] at hu; injection hu with hu; subst hu
      exact hr
  sep id id' L1 L2 h1 h2 h3 h4 h5 := by
    unfold wSg at h3 h4
    split at h3
    · split at h4
      · injection h3 with h3; injection h4 with h4
        rw [← h3, ← h4] at h5; exact h5
      · cases h4
    · cases h3
  free id h := by unfold wSg; rw [if_neg (by omega)]
  glob j hj := ⟨_, by unfold wSg; rw [if_pos hj]⟩
  gle := Nat.le_refl _
/-- A closed call that the machine, with tables in its memory, brings to true returns true, and old memory stands. -/
theorem closed_tabs {P : Program} {G f : Nat} {call : CallF} (hc : CallsOk P G call) (hf : Nat.blt f P.funcs.size = true) {L : List (Nat × List Value)} (hG : L.all (fun p => Nat.blt p.1 G && flatN 1000 p.2) = true)
    (hr : ∀ el, okTrue (call f [] (tabsH el L) G) = true) (w : World) (hw : Laid w L) : Calls P f #[] w fun x w' => x = .returned (.bool true) ∧ Fr0 w w' := by
  obtain ⟨h', nx', h1⟩ := okTrue_inv (hr (elOf w))
  refine (hc.fn f [] _ G _ h' nx' (blt_lt hf) h1 _ w [] .nil (mr_tabs hG hw)).mono fun x w' ⟨σ', u, hx, hv, ht⟩ => ?_
  have := hv.scal_inv rfl
  subst this
  refine ⟨hx, ht.os, ht.tape, ht.output, ht.size, fun r hr _ => (ht.qt r hr fun id L1 B h _ _ => ?_).1⟩
  obtain ⟨p, hp, rfl, rfl⟩ := tabsH_get h
  rfl
theorem row_of_var {P : Program} {w : World} {name : String} {g : Nat} {cs : Array Value} (hg : P.globalNamed name = some g) (h : w.var? P name = some cs) : ∃ el fz, w.heap[g]? = some (.cells cs el fz) := by
  unfold World.var? at h
  rw [hg] at h
  simp only [Option.bind_some] at h
  split at h
  · rename_i row el fz hrow
    injection h with h; subst h
    exact ⟨el, fz, hrow⟩
  · cases h
/-- An array of pairs of numbers that reads as the table holds the table's numbers. -/
theorem cells_of_pairs {H : Type} {enc : TypeId × Value → H} {P : Program} {w : World} {base : Nat} {sp : Nat → Bool} {held : Bool} {fuel : Nat} {t e : TypeId} {n : Nat} {k : IntKind} {f0 f1 : Field} {cs : List Value} {zs : List (Int × Int)} {p : List MemPlace}
    (ht : P.underlying t = some (.array n e)) (he : P.underlying e = some (.struct #[f0, f1])) (hb0 : P.underlying f0.type = some (.int k)) (hb1 : P.underlying f1.type = some (.int k)) (ho : f0.offset = 0 ∧ f1.offset = 1) (hc0 : P.cellsOf f0.type = 1) (hc1 : P.cellsOf f1.type = 1)
    (hce : P.cellsOf e = 2) (hct : P.cellsOf t = n * 2)
    (h : DataW.trod enc P w base sp held fuel t cs = some (.agg (zs.map fun z => .agg [.lit (.int k z.1), .lit (.int k z.2)]), p)) : cs = zs.flatMap fun z => [Value.int k z.1, Value.int k z.2] := by
  cases fuel with
  | zero => simp [DataW.trod] at h
  | succ fuel =>
    simp only [DataW.trod, ht, hce, hct] at h
    split at h
    · rename_i hl
      obtain ⟨xs, hm, hx⟩ := Option.map_eq_some_iff.1 h
      have hxs : xs.map (·.1) = zs.map fun z => (DataW.agg [.lit (.int k z.1), .lit (.int k z.2)] : DataW H) := by
        have := congrArg Prod.fst hx
        simpa using this
      have hxl : xs.length = n := by simpa using Go.Lib.mapM_length hm
      have hzl : zs.length = n := by
        have := congrArg List.length hxs
        simp at this
        omega
      have hpair : ∀ i z, zs[i]? = some z → cs[2 * i]? = some (.int k z.1) ∧ cs[2 * i + 1]? = some (.int k z.2) := fun i z hz => by
        have hi : i < n := by have := (List.getElem?_eq_some_iff.1 hz).1; omega
        obtain ⟨x, hxi, hf⟩ := Go.Lib.mapM_at hm i i (by simp [hi])
        obtain ⟨y0, y1, m, hx2, _, g0, g1⟩ := trod_struct2 he hf
        rw [ho.1, hc0] at g0
        rw [ho.2, hc1] at g1
        obtain ⟨a, ha, rfl, _⟩ := DataW.trod_int hb0 g0
        obtain ⟨c, hc, rfl, _⟩ := DataW.trod_int hb1 g1
        have h2 : (xs.map (·.1))[i]? = some (DataW.agg [.lit (.int k a), .lit (.int k c)]) := by rw [List.getElem?_map, hxi, hx2]; rfl
        rw [hxs, List.getElem?_map, hz] at h2
        simp only [Option.map_some, Option.some.injEq, DataW.agg.injEq, List.cons.injEq, DataW.lit.injEq, Lit.int.injEq, true_and, and_true] at h2
        obtain ⟨rfl, rfl⟩ := h2
        have q0 := congrArg (·[0]?) ha
        have q1 := congrArg (·[0]?) hc
        simp [List.getElem?_drop] at q0 q1
        rw [Nat.mul_comm] at q0 q1
        exact ⟨q0, q1⟩
      have hlen : (zs.flatMap fun z => [Value.int k z.1, Value.int k z.2]).length = n * 2 := by
        rw [← hzl]; clear hpair hxs hl hm h hx hzl
        induction zs with
        | nil => rfl
        | cons z zs ih => simp only [List.flatMap_cons, List.length_append, ih, List.length_cons, List.length_nil]; omega
      have hget : ∀ (zs : List (Int × Int)) (i : Nat) z, zs[i]? = some z → (zs.flatMap fun z => [Value.int k z.1, Value.int k z.2])[2 * i]? = some (.int k z.1) ∧ (zs.flatMap fun z => [Value.int k z.1, Value.int k z.2])[2 * i + 1]? = some (.int k z.2) := by
        intro zs
        induction zs with
        | nil => intro i z hz; simp at hz
        | cons y zs ih =>
          intro i z hz
          cases i with
          | zero => simp only [List.getElem?_cons_zero, Option.some.injEq] at hz; subst hz; exact ⟨rfl, rfl⟩
          | succ i =>
            have := ih i z (by simpa using hz)
            simp only [List.flatMap_cons]
            rw [List.getElem?_append_right (by simp; omega), List.getElem?_append_right (by simp; omega)]
            simpa [show 2 * (i + 1) - 2 = 2 * i by omega, show 2 * (i + 1) + 1 - 2 = 2 * i + 1 by omega] using this
      apply List.ext_getElem?
      intro j
      by_cases hj : j < n * 2
      · obtain ⟨z, hz⟩ : ∃ z, zs[j / 2]? = some z := ⟨_, List.getElem?_eq_getElem (by omega)⟩
        have a := hpair _ _ hz
        have c := hget zs _ _ hz
        rcases Nat.mod_two_eq_zero_or_one j with hm2 | hm2
        · have : j = 2 * (j / 2) := by omega
          rw [this, a.1, c.1]
        · have : j = 2 * (j / 2) + 1 := by omega
          rw [this, a.2, c.2]
      · rw [List.getElem?_eq_none (by omega), List.getElem?_eq_none (by omega)]
    · cases h
end Go.Proofs.YtklciidffdnglaaDoor
