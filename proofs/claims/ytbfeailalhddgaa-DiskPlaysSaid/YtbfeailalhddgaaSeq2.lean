/- The same where two operations may come up in either order: both orders are walked to where they meet. No condition. -/
import Derived.Test.YtbfeailalhddgaaSeq
namespace Go.Proofs.Ytbfeailalhddgaa
open Go.RowKit

/-- From here on the order 'l' stands for every order. -/
def SeqOk (P : Program) (ops : Array Oper) (Q : Exit → Act → World → Prop) (S : World → Prop) (n : Nat) (listed : Array Bool) (a : Act) (w : World) : Prop := wpAnyH P .any ops Q S n listed a w

section
variable {P : Program} {ops : Array Oper} {Q : Exit → Act → World → Prop} {S : World → Prop}
theorem wp_region_ok {id : Nat} {l : List Oper} {a : Act} {w : World} (S : World → Prop) (hm : P.follows .mixedOrders = true) (h : SeqOk P l.toArray Q S l.length (Array.replicate l.length false) a w.drew) : (Code.region id l.toArray true).wp P Q a w := by
  refine wp_region_any hm (wpAny_of_held (S := S) _ _ _ _ ?_)
  simpa [SeqOk] using h
/-- An operation that yields one value in every world that S lets in. -/
theorem ok_take {n : Nat} {listed : Array Bool} {a : Act} {w : World} {o : Oper} (i : Nat) (d : Option Tmp) (v : Value) (hs : Region.noSelect ops = true) (hQ : ∀ c (a : Act) t v w, Q (.panic c) (a.put t v) w → Q (.panic c) a w)
    (hf : Region.free .any ops listed i = true) (hr : (Region.ready .any ops listed).contains i = true) (ho : ops[i]? = some o)
    (hd : o.dst = d) (hw : Region.wanted o (yielded ops a.tmps) = true) (hy : ∀ w, S w → (execOp a.eval o).run P w = .ok (.value v) w) (hS : S w)
    (h : SeqOk P ops Q S n (listed.setIfInBounds i true) (a.put d v) w) : SeqOk P ops Q S (n + 1) listed a w :=
  wpAnyH_first ho (Region.noSelect_spec hs) (fun c a w => hQ c a _ _ w) n listed a w (Region.free_spec ho hf) (by simpa using hr) (.inl ⟨hw, hy⟩) hS (by rw [hd]; exact h)
/-- The only operation that may come up. -/
theorem ok_does {n : Nat} {listed : Array Bool} {a : Act} {w : World} {R : Value → World → Prop} {o : Oper} (i : Nat) (d : Option Tmp) (hr : Region.ready .any ops listed = [i]) (ho : ops[i]? = some o)
    (hdst : o.dst = d) (hw : Region.wanted o (yielded ops a.tmps) = true) (hd : Does P a.eval o w R)
    (h : ∀ v w', R v w' → S w' ∧ SeqOk P ops Q S n (listed.setIfInBounds i true) (a.put d v) w') : SeqOk P ops Q S (n + 1) listed a w := by
  refine ⟨fun h0 => (by rw [hr] at h0; cases h0), fun j hj => ?_⟩
  rw [hr] at hj
  obtain rfl : j = i := by simpa using hj
  unfold wpOp
  simp only [ho, hw, if_true]
  refine .inl (hd.wp ?_)
  rw [hdst]
  exact h
/-- .. a call. -/
theorem ok_call {n : Nat} {listed : Array Bool} {a : Act} {w : World} {f : FuncId} {args : Array Value} {R : Ending → World → Prop} {o : Oper} (i : Nat) (d : Option Tmp) (hr : Region.ready .any ops listed = [i]) (ho : ops[i]? = some o)
    (hdst : o.dst = d) (hw : Region.wanted o (yielded ops a.tmps) = true) (hx : (execOp a.eval o).run P w = .ok (.enter f args) w) (hc : Calls P f args w R)
    (h : ∀ e w', R e w' → ∃ v, e = .returned v ∧ S w' ∧ SeqOk P ops Q S n (listed.setIfInBounds i true) (a.put d v) w') : SeqOk P ops Q S (n + 1) listed a w := by
  refine ⟨fun h0 => (by rw [hr] at h0; cases h0), fun j hj => ?_⟩
  rw [hr] at hj
  obtain rfl : j = i := by simpa using hj
  unfold wpOp
  simp only [ho, hw, if_true]
  refine .inl ?_
  unfold Oper.wp
  rw [hx]
  refine hc.mono fun e w' hR => ?_
  obtain ⟨v, rfl, h1, h2⟩ := h e w' hR
  rw [← hdst] at h2
  exact ⟨h1, h2⟩
/-- Two operations, either may come up. -/
theorem ok_two {n : Nat} {listed : Array Bool} {a : Act} {w : World} (i j : Nat) (hr : Region.ready .any ops listed = [i, j])
    (hi : wpOp P ops Q i (fun a' w' => S w' ∧ SeqOk P ops Q S n (listed.setIfInBounds i true) a' w') a w)
    (hj : wpOp P ops Q j (fun a' w' => S w' ∧ SeqOk P ops Q S n (listed.setIfInBounds j true) a' w') a w) : SeqOk P ops Q S (n + 1) listed a w := by
  refine ⟨fun h0 => (by rw [hr] at h0; cases h0), fun k hk => ?_⟩
  rw [hr] at hk
  rcases List.mem_cons.1 hk with rfl | hk
  · exact hi
  · obtain rfl : k = j := by simpa using hk
    exact hj
theorem op_does {a : Act} {w : World} {K : Act → World → Prop} {R : Value → World → Prop} {o : Oper} {i : Nat} (d : Option Tmp) (ho : ops[i]? = some o)
    (hdst : o.dst = d) (hw : Region.wanted o (yielded ops a.tmps) = true) (hd : Does P a.eval o w R) (h : ∀ v w', R v w' → K (a.put d v) w') : wpOp P ops Q i K a w := by
  unfold wpOp
  simp only [ho, hw, if_true]
  refine .inl (hd.wp ?_)
  rw [hdst]
  exact h
theorem put_swap (a : Act) {x y : Tmp} (hne : x ≠ y) (u v : Value) : (a.put (some x) u).put (some y) v = (a.put (some y) v).put (some x) u :=
  Act.put_comm a u v (fun d hd he => hne (by injection hd with hd; injection he with he; rw [hd, he]))
/-- Two operations that may come up in either order and come to the same, T: one walk behind them. -/
theorem ok_pair {n : Nat} {listed : Array Bool} {a : Act} {w : World} {oi oj : Oper} (i j : Nat) (di dj : Tmp) (hr : Region.ready .any ops listed = [i, j])
    (hri : Region.ready .any ops (listed.setIfInBounds i true) = [j]) (hrj : Region.ready .any ops (listed.setIfInBounds j true) = [i]) (hij : i ≠ j) (hne : di ≠ dj)
    (hoi : ops[i]? = some oi) (hoj : ops[j]? = some oj) (hdi : oi.dst = some di) (hdj : oj.dst = some dj) (hgi : oi.guard = none) (hgj : oj.guard = none)
    (T : Value → Value → World → Prop) (R1 R2 : Value → World → Prop)
    (h1 : Does P a.eval oi w R1) (h12 : ∀ v w', R1 v w' → S w' ∧ Does P (a.put (some di) v).eval oj w' (fun u w'' => T v u w''))
    (h2 : Does P a.eval oj w R2) (h21 : ∀ u w', R2 u w' → S w' ∧ Does P (a.put (some dj) u).eval oi w' (fun v w'' => T v u w''))
    (tail : ∀ v u w', T v u w' → S w' ∧ SeqOk P ops Q S n ((listed.setIfInBounds i true).setIfInBounds j true) ((a.put (some di) v).put (some dj) u) w') : SeqOk P ops Q S (n + 1 + 1) listed a w := by
  have wi : ∀ a : Act, Region.wanted oi (yielded ops a.tmps) = true := fun a => by simp [Region.wanted, hgi]
  have wj : ∀ a : Act, Region.wanted oj (yielded ops a.tmps) = true := fun a => by simp [Region.wanted, hgj]
  refine ok_two i j hr ?_ ?_
  · refine op_does (some di) hoi hdi (wi _) h1 fun v w' hR => ⟨(h12 v w' hR).1, ?_⟩
    exact ok_does j (some dj) hri hoj hdj (wj _) (h12 v w' hR).2 fun u w'' hT => tail v u w'' hT
  · refine op_does (some dj) hoj hdj (wj _) h2 fun u w' hR => ⟨(h21 u w' hR).1, ?_⟩
    refine ok_does i (some di) hrj hoi hdi (wi _) (h21 u w' hR).2 fun v w'' hT => ?_
    rw [put_swap a (fun h => hne h.symm) u v, Array.setIfInBounds_comm _ _ (fun h => hij h.symm)]
    exact tail v u w'' hT
theorem ok_done {n : Nat} {listed : Array Bool} {a : Act} {w : World} (hr : Region.ready .any ops listed = []) (h : Q .normal a w) : SeqOk P ops Q S n listed a w := wpAnyH_done hr h n
end
end Go.Proofs.Ytbfeailalhddgaa
