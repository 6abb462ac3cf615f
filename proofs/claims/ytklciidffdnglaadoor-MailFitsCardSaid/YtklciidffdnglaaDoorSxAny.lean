/- A region that draws its order, by the environment: S holds behind each of the first t operations; behind these no order matters. Over any program. No condition. -/
import Derived.Test.YtklciidffdnglaaDoorSxOps
import Derived.OrdersHeld
namespace Go.Proofs.YtklciidffdnglaaDoor
open Go.RowKit

def waitAll (ops : Array Oper) (h t : Nat) : Bool := (List.range ops.size).all fun j => decide (j < t) || (List.range h).all fun i => Region.waitsFor .any ops j i

def wpAnyG (P : Program) (ops : Array Oper) (Q : Exit → Act → World → Prop) (t : Nat) (S : World → Prop) : Nat → Array Bool → Act → World → Prop
  | 0, listed, a, w => Region.ready .any ops listed = [] ∧ Q .normal a w
  | fuel + 1, listed, a, w =>
    (Region.ready .any ops listed = [] → Q .normal a w) ∧
    ∀ i ∈ Region.ready .any ops listed, wpOp P ops Q i (fun a' w' => (i < t → S w') ∧ wpAnyG P ops Q t S fuel (listed.setIfInBounds i true) a' w') a w

section
variable {P : Program} {ops : Array Oper} {Q : Exit → Act → World → Prop} {S : World → Prop} {h t : Nat}
theorem wpAny_of_G : ∀ (fuel : Nat) (listed : Array Bool) (a : Act) (w : World), wpAnyG P ops Q t S fuel listed a w → wpAny P .any ops Q fuel listed a w
  | 0, _, _, _, h => h
  | fuel + 1, _, _, _, h => ⟨h.1, fun i hi => wpOp_mono (fun a' w' h' => wpAny_of_G fuel _ a' w' h'.2) (h.2 i hi)⟩

theorem wpAnyG_first {i : Nat} {oi : Oper} {v : Value} (hi : ops[i]? = some oi) (hsel : ∀ (j : Nat) (o : Oper) cs b, ops[j]? = some o → o.op ≠ .select cs b)
    (hQ : ∀ c a w, Q (.panic c) (a.put oi.dst v) w → Q (.panic c) a w) (hwait : waitAll ops h t = true) (hih : i < h) :
    ∀ (fuel : Nat) (listed : Array Bool) (a : Act) (w : World),
      (∀ j oj, ops[j]? = some oj → j ≠ i → listed.getD j true = false → (∀ e ∈ oj.after, Region.binds .any e = true → e.on ≠ i) → oi.apart ops oj = true) →
      i ∈ Region.ready .any ops listed → YieldsIf P ops S oi v a → S w →
      wpAnyG P ops Q t S fuel (listed.setIfInBounds i true) (a.put oi.dst v) w → wpAnyG P ops Q t S (fuel + 1) listed a w := by
  intro fuel
  induction fuel with
  | zero =>
    intro listed a w _ hr hy hS H
    refine ⟨fun h => (by rw [h] at hr; cases hr), fun j hj => ?_⟩
    by_cases hji : j = i
    · subst hji; exact hy.wpOp hi hS ⟨fun _ => hS, H⟩
    · have := ready_mono hj hji
      rw [H.1] at this
      cases this
  | succ fuel ih =>
    intro listed a w hfree hr hy hS H
    refine ⟨fun h => (by rw [h] at hr; cases hr), fun j hj => ?_⟩
    by_cases hji : j = i
    · subst hji; exact hy.wpOp hi hS ⟨fun _ => hS, H⟩
    · have h1 := H.2 j (ready_mono hj hji)
      obtain ⟨hjun, oj, hoj, hall⟩ := mem_ready.1 hj
      have hnot : ∀ e ∈ oj.after, Region.binds .any e = true → e.on ≠ i := fun e he hb heq => by
        have h1 := hall e he hb
        have h0 := (mem_ready.1 hr).1
        rw [heq, getD_both h0] at h1
        cases h1
      have hjt : j < t := by
        have h2 := List.all_eq_true.1 hwait j (List.mem_range.2 (Array.getElem?_eq_some_iff.1 hoj).1)
        simp only [Bool.or_eq_true, decide_eq_true_eq] at h2
        rcases h2 with h2 | h2
        · exact h2
        · obtain ⟨o', ho', e, he, hb, hon⟩ := Region.waitsFor_spec (List.all_eq_true.1 h2 i (List.mem_range.2 hih))
          rw [hoj] at ho'
          injection ho' with ho'
          subst ho'
          exact absurd hon (hnot e he hb)
      have h2 := wpOp_putIf hoj (hfree j oj hoj hji hjun hnot) (fun cs b => hsel i oi cs b hi) (fun cs b => hsel j oj cs b hoj) hQ hy h1
      have hfree' : ∀ k ok, ops[k]? = some ok → k ≠ i → (listed.setIfInBounds j true).getD k true = false →
          (∀ e ∈ ok.after, Region.binds .any e = true → e.on ≠ i) → oi.apart ops ok = true := fun k ok hk hki hun hno => by
        refine hfree k ok hk hki ?_ hno
        by_cases hjk : j = k
        · subst hjk; exact hjun
        · rw [getD_set_ne true hjk] at hun; exact hun
      refine wpOp_mono (fun a' w' h3 => ⟨h3.2.1, ih (listed.setIfInBounds j true) a' w' hfree' (ready_mono hr (Ne.symm hji)) h3.1 (h3.2.1 hjt) ?_⟩) h2
      rw [Array.setIfInBounds_comm _ _ hji]
      exact h3.2.2
theorem wpAnyG_of_any : ∀ (fuel : Nat) (listed : Array Bool) (a : Act) (w : World), (∀ i, i < t → listed.getD i true = true) → wpAny P .any ops Q fuel listed a w → wpAnyG P ops Q t S fuel listed a w
  | 0, _, _, _, _, h => h
  | fuel + 1, listed, _, _, hd, h => by
    refine ⟨h.1, fun i hi => wpOp_mono (fun a' w' h' => ?_) (h.2 i hi)⟩
    have hno : ¬ i < t := fun hit => by
      have h0 := (mem_ready.1 hi).1
      rw [hd i hit] at h0; cases h0
    refine ⟨fun hit => absurd hit hno, wpAnyG_of_any fuel _ a' w' (fun k hk => ?_) h'⟩
    rw [getD_set_ne true (fun e : i = k => hno (by omega))]; exact hd k hk

/-- The walk of such a region. f: how many are left. -/
structure SxO (P : Program) (ops : Array Oper) (Q : Exit → Act → World → Prop) (t : Nat) (S : World → Prop) (n f : Nat) (listed : Array Bool) (e : Env) (w : World) : Prop where
  run : ∀ a, Agr n e a → wpAnyG P ops Q t S f listed a w
variable {n f : Nat} {listed : Array Bool} {e : Env} {w : World}
/-- h: the operations before this number are taken first; t: from this number on all wait for those. -/
theorem sx_any {id : Nat} {l : List Oper} (t : Nat) (S : World → Prop) (hm : P.follows .mixedOrders = true) (k : SxO P l.toArray Q t S n l.length (Array.replicate l.length false) e w.drew) : Sx P (Code.region id l.toArray true) Q n e w := ⟨fun a ha => by
  refine wp_region_any hm (wpAny_of_G (t := t) (S := S) _ _ _ _ ?_)
  simpa using k.run a ha⟩
theorem sxo_y {o : Oper} {d : Nat} {v : Value} (i h : Nat) (hs : Region.noSelect ops = true) (hQ : ∀ c (a : Act) t v w, Q (.panic c) (a.put t v) w → Q (.panic c) a w) (hwait : waitAll ops h t = true) (hih : Nat.blt i h = true)
    (hf : Region.free .any ops listed i = true) (hr : (Region.ready .any ops listed).contains i = true) (ho : ops[i]? = some o) (hw : Wn ops e o) (hd : o.dst = some d) (hn : Nat.blt d n = true) (hS : S w) (hy : ∀ w', S w' → Y P e o w' v)
    (k : SxO P ops Q t S n f (listed.setIfInBounds i true) ((d, v) :: e) w) : SxO P ops Q t S n (f + 1) listed e w := ⟨fun a ha =>
  wpAnyG_first ho (Region.noSelect_spec hs) (fun c a w => hQ c a _ _ w) hwait (blt_lt hih) f listed a w (Region.free_spec ho hf) (by simpa using hr) (.inl ⟨hw n a ha, fun w' hw' => hy w' hw' _ ha.eval⟩) hS (by
    rw [hd]; exact k.run _ (ha.put (blt_lt hn) v))⟩
theorem sxo_does {o : Oper} {R : Value → World → Prop} (i : Nat) (d : Option Tmp) (hr : Region.ready .any ops listed = [i]) (ho : ops[i]? = some o) (hw : Wn ops e o) (hd : o.dst = d) (hn : dstOk n d = true) (hy : ∀ ρ, Ag e ρ → Does P ρ o w R)
    (k : ∀ v w', R v w' → (i < t → S w') ∧ SxO P ops Q t S n f (listed.setIfInBounds i true) (e.ins d v) w') : SxO P ops Q t S n (f + 1) listed e w := ⟨fun a ha => by
  refine ⟨fun h0 => (by rw [hr] at h0; cases h0), fun j hj => ?_⟩
  rw [hr] at hj
  obtain rfl : j = i := by simpa using hj
  unfold wpOp
  simp only [ho, hw n a ha, if_true]
  refine .inl ((hy _ ha.eval).wp fun v w' hR => ?_)
  rw [hd]
  obtain ⟨h1, h2⟩ := k v w' hR
  exact ⟨h1, h2.run _ (ha.ins hn v)⟩⟩
theorem sxo_call {o : Oper} {fn : FuncId} {args : Array Value} {R : Ending → World → Prop} (i : Nat) (d : Option Tmp) (hr : Region.ready .any ops listed = [i]) (ho : ops[i]? = some o) (hw : Wn ops e o) (hd : o.dst = d) (hn : dstOk n d = true) (hy : YC P e o w fn args) (hc : Calls P fn args w R)
    (k : ∀ x w', R x w' → ∃ v, x = .returned v ∧ (i < t → S w') ∧ SxO P ops Q t S n f (listed.setIfInBounds i true) (e.ins d v) w') : SxO P ops Q t S n (f + 1) listed e w := ⟨fun a ha => by
  refine ⟨fun h0 => (by rw [hr] at h0; cases h0), fun j hj => ?_⟩
  rw [hr] at hj
  obtain rfl : j = i := by simpa using hj
  unfold wpOp
  simp only [ho, hw n a ha, if_true]
  refine .inl ?_
  unfold Oper.wp
  rw [hy _ ha.eval, Oper.upon_enter]
  refine hc.mono fun x w' hR => ?_
  obtain ⟨v, rfl, h1, h2⟩ := k x w' hR
  simp only [hd]
  exact ⟨h1, h2.run _ (ha.ins hn v)⟩⟩
/-- One of several calls, whichever comes up. -/
theorem sxo_all {rs : List Nat} (hr : Region.ready .any ops listed = rs) (hne : rs ≠ [])
    (k : ∀ i ∈ rs, ∀ a, Agr n e a → wpOp P ops Q i (fun a' w' => (i < t → S w') ∧ wpAnyG P ops Q t S f (listed.setIfInBounds i true) a' w') a w) : SxO P ops Q t S n (f + 1) listed e w := ⟨fun a ha =>
  ⟨fun h0 => absurd (hr ▸ h0) hne, fun i hi => k i (hr ▸ hi) a ha⟩⟩
theorem op_call {o : Oper} {fn : FuncId} {args : Array Value} {R : Ending → World → Prop} {i : Nat} (d : Option Tmp) (ho : ops[i]? = some o) (hw : Wn ops e o) (hd : o.dst = d) (hn : dstOk n d = true) (hy : YC P e o w fn args) (hc : Calls P fn args w R)
    (k : ∀ x w', R x w' → ∃ v, x = .returned v ∧ (i < t → S w') ∧ SxO P ops Q t S n f (listed.setIfInBounds i true) (e.ins d v) w') : ∀ a, Agr n e a → wpOp P ops Q i (fun a' w' => (i < t → S w') ∧ wpAnyG P ops Q t S f (listed.setIfInBounds i true) a' w') a w := fun a ha => by
  unfold wpOp
  simp only [ho, hw n a ha, if_true]
  refine .inl ?_
  unfold Oper.wp
  rw [hy _ ha.eval, Oper.upon_enter]
  refine hc.mono fun x w' hR => ?_
  obtain ⟨v, rfl, h1, h2⟩ := k x w' hR
  simp only [hd]
  exact ⟨h1, h2.run _ (ha.ins hn v)⟩
theorem op_does' {o : Oper} {R : Value → World → Prop} {i : Nat} (d : Option Tmp) (ho : ops[i]? = some o) (hw : Wn ops e o) (hd : o.dst = d) (hn : dstOk n d = true) (hy : ∀ ρ, Ag e ρ → Does P ρ o w R)
    (k : ∀ v w', R v w' → (i < t → S w') ∧ SxO P ops Q t S n f (listed.setIfInBounds i true) (e.ins d v) w') : ∀ a, Agr n e a → wpOp P ops Q i (fun a' w' => (i < t → S w') ∧ wpAnyG P ops Q t S f (listed.setIfInBounds i true) a' w') a w := fun a ha => by
  unfold wpOp
  simp only [ho, hw n a ha, if_true]
  refine .inl ((hy _ ha.eval).wp fun v w' hR => ?_)
  rw [hd]
  obtain ⟨h1, h2⟩ := k v w' hR
  exact ⟨h1, h2.run _ (ha.ins hn v)⟩
theorem sxo_listed {listed' : Array Bool} (hl : listed = listed') (k : SxO P ops Q t S n f listed' e w) : SxO P ops Q t S n f listed e w := hl ▸ k
/-- All are done. -/
theorem sxo_done (hr : Region.ready .any ops listed = []) (k : QX Q .normal n e w) : SxO P ops Q t S n f listed e w := ⟨fun a ha => by
  cases f with
  | zero => exact ⟨hr, k.run a ha⟩
  | succ f => exact ⟨fun _ => k.run a ha, by rw [hr]; simp⟩⟩
def allListed (listed : Array Bool) (t : Nat) : Bool := (List.range t).all fun i => listed.getD i true
/-- The rest comes up in the text's order, and needs S no more. -/
theorem sxo_seq {l : List Oper} (j : Nat) (hl : allListed listed t = true) (hf : l.length = f) (hj : ops.toList.drop j = l) (hB : Region.seqB .any ops l.length j listed = true) (k : SxL P ops Q n l e w) : SxO P ops Q t S n f listed e w := ⟨fun a ha => by
  subst hf
  refine wpAnyG_of_any _ _ _ _ (fun i hi => List.all_eq_true.1 hl i (List.mem_range.2 hi)) (wpAny_of_seq (md := .any) l j listed a w (fun k => ?_) hB (k.run a ha))
  rw [← hj, List.getElem?_drop]; simp⟩
theorem sxo_weak {r : Env} (hl : r.le e) (k : SxO P ops Q t S n f listed r w) : SxO P ops Q t S n f listed e w := ⟨fun a ha => k.run a (ha.weak hl)⟩
end
end Go.Proofs.YtklciidffdnglaaDoor
