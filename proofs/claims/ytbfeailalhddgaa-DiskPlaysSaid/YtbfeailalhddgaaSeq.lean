/- A region that draws its order, walked in ONE order: each operation is the only one that may come up, or yields one value in every world that S lets in and may be taken first. No condition. -/
import Derived.Test.YtbfeailalhddgaaBase3
import Derived.OrdersHeld
namespace Go.Proofs.Ytbfeailalhddgaa
open Go.RowKit

def wpSeq (P : Program) (ops : Array Oper) (Q : Exit → Act → World → Prop) (S : World → Prop) : List Nat → Array Bool → Act → World → Prop
  | [], listed, a, w => Region.ready .any ops listed = [] ∧ Q .normal a w
  | i :: rest, listed, a, w =>
    (Region.ready .any ops listed = [i] ∧ wpOp P ops Q i (fun a' w' => S w' ∧ wpSeq P ops Q S rest (listed.setIfInBounds i true) a' w') a w) ∨
    (Region.free .any ops listed i = true ∧ (Region.ready .any ops listed).contains i = true ∧ ∃ o v, ops[i]? = some o ∧ YieldsIf P ops S o v a ∧ S w ∧ wpSeq P ops Q S rest (listed.setIfInBounds i true) (a.put o.dst v) w)

section
variable {P : Program} {ops : Array Oper} {Q : Exit → Act → World → Prop} {S : World → Prop}
theorem held_of_seq (hs : Region.noSelect ops = true) (hQ : ∀ c (a : Act) t v w, Q (.panic c) (a.put t v) w → Q (.panic c) a w) :
    ∀ (l : List Nat) (listed : Array Bool) (a : Act) (w : World), wpSeq P ops Q S l listed a w → wpAnyH P .any ops Q S l.length listed a w
  | [], _, _, _, h => h
  | i :: rest, listed, a, w, h => by
    rcases h with ⟨hr, h⟩ | ⟨hf, hr, o, v, ho, hy, hS, h⟩
    · refine ⟨fun h0 => (by rw [hr] at h0; cases h0), fun j hj => ?_⟩
      rw [hr] at hj
      obtain rfl : j = i := by simpa using hj
      exact wpOp_mono (fun a' w' h' => ⟨h'.1, held_of_seq hs hQ rest _ a' w' h'.2⟩) h
    · exact wpAnyH_first ho (Region.noSelect_spec hs) (fun c a w => hQ c a _ _ w) rest.length listed a w (Region.free_spec ho hf) (by simpa using hr) hy hS (held_of_seq hs hQ rest _ _ _ h)

theorem wp_region_seq {id : Nat} {l : List Oper} {a : Act} {w : World} (order : List Nat) (S : World → Prop) (hm : P.follows .mixedOrders = true) (hs : Region.noSelect l.toArray = true)
    (hlen : order.length = l.length) (hQ : ∀ c (a : Act) t v w, Q (.panic c) (a.put t v) w → Q (.panic c) a w)
    (h : wpSeq P l.toArray Q S order (Array.replicate l.length false) a w.drew) : (Code.region id l.toArray true).wp P Q a w := by
  refine wp_region_any hm (wpAny_of_held (S := S) _ _ _ _ ?_)
  have := held_of_seq hs hQ order _ _ _ h
  rw [hlen] at this
  simpa using this

/-- An operation that yields one value in every world that S lets in. 'd': where it goes. -/
theorem seq_take {i : Nat} {rest : List Nat} {listed : Array Bool} {a : Act} {w : World} {o : Oper} (d : Option Tmp) (v : Value) (hf : Region.free .any ops listed i = true) (hr : (Region.ready .any ops listed).contains i = true) (ho : ops[i]? = some o)
    (hd : o.dst = d) (hw : Region.wanted o (yielded ops a.tmps) = true) (hy : ∀ w, S w → (execOp a.eval o).run P w = .ok (.value v) w) (hS : S w)
    (h : wpSeq P ops Q S rest (listed.setIfInBounds i true) (a.put d v) w) : wpSeq P ops Q S (i :: rest) listed a w :=
  .inr ⟨hf, hr, o, v, ho, .inl ⟨hw, hy⟩, hS, by rw [hd]; exact h⟩
/-- An operation that is not wanted. -/
theorem seq_off {i : Nat} {rest : List Nat} {listed : Array Bool} {a : Act} {w : World} {o : Oper} (d : Option Tmp) (hf : Region.free .any ops listed i = true) (hr : (Region.ready .any ops listed).contains i = true) (ho : ops[i]? = some o)
    (hd : o.dst = d) (hw : Region.wanted o (yielded ops a.tmps) = false) (hS : S w)
    (h : wpSeq P ops Q S rest (listed.setIfInBounds i true) (a.put d undef) w) : wpSeq P ops Q S (i :: rest) listed a w :=
  .inr ⟨hf, hr, o, undef, ho, .inr ⟨hw, rfl⟩, hS, by rw [hd]; exact h⟩
/-- The only operation that may come up. -/
theorem seq_does {i : Nat} {rest : List Nat} {listed : Array Bool} {a : Act} {w : World} {R : Value → World → Prop} {o : Oper} (d : Option Tmp) (hr : Region.ready .any ops listed = [i]) (ho : ops[i]? = some o)
    (hdst : o.dst = d) (hw : Region.wanted o (yielded ops a.tmps) = true) (hd : Does P a.eval o w R)
    (h : ∀ v w', R v w' → S w' ∧ wpSeq P ops Q S rest (listed.setIfInBounds i true) (a.put d v) w') : wpSeq P ops Q S (i :: rest) listed a w := by
  refine .inl ⟨hr, ?_⟩
  unfold wpOp
  simp only [ho, hw, if_true]
  refine .inl (hd.wp ?_)
  rw [hdst]
  exact h
/-- .. a call. -/
theorem seq_call {i : Nat} {rest : List Nat} {listed : Array Bool} {a : Act} {w : World} {f : FuncId} {args : Array Value} {R : Ending → World → Prop} {o : Oper} (d : Option Tmp) (hr : Region.ready .any ops listed = [i]) (ho : ops[i]? = some o)
    (hdst : o.dst = d) (hw : Region.wanted o (yielded ops a.tmps) = true) (hx : (execOp a.eval o).run P w = .ok (.enter f args) w) (hc : Calls P f args w R)
    (h : ∀ e w', R e w' → ∃ v, e = .returned v ∧ S w' ∧ wpSeq P ops Q S rest (listed.setIfInBounds i true) (a.put d v) w') : wpSeq P ops Q S (i :: rest) listed a w := by
  refine .inl ⟨hr, ?_⟩
  unfold wpOp
  simp only [ho, hw, if_true]
  refine .inl ?_
  unfold Oper.wp
  rw [hx]
  refine hc.mono fun e w' hR => ?_
  obtain ⟨v, rfl, h1, h2⟩ := h e w' hR
  rw [← hdst] at h2
  exact ⟨h1, h2⟩
theorem seq_done {listed : Array Bool} {a : Act} {w : World} (hr : Region.ready .any ops listed = []) (h : Q .normal a w) : wpSeq P ops Q S [] listed a w := ⟨hr, h⟩
end
end Go.Proofs.Ytbfeailalhddgaa
