/- A region that draws its order, one operation ready at a time. Over any program. No condition. -/
import Derived.Test.YtklciidffdnglaaDoorSxAny
import Derived.Test.YtklciidffdnglaaDoorSx3
namespace Go.Proofs.YtklciidffdnglaaDoor
open Go.RowKit

section
variable {P : Program} {ops : Array Oper} {Q : Exit → Act → World → Prop} {S : World → Prop} {t n f : Nat} {listed : Array Bool} {e : Env} {w : World}
theorem sxo_y1 {o : Oper} {d : Nat} {v : Value} (i : Nat) (hr : Region.ready .any ops listed = [i]) (ho : ops[i]? = some o) (hw : Wn ops e o) (hd : o.dst = some d) (hn : Nat.blt d n = true) (hy : Y P e o w v) (hS : S w)
    (k : SxO P ops Q t S n f (listed.setIfInBounds i true) ((d, v) :: e) w) : SxO P ops Q t S n (f + 1) listed e w :=
  sxo_does i (some d) hr ho hw hd hn (R := fun u w' => u = v ∧ w' = w) (fun ρ hρ => ⟨v, w, .inl (hy ρ hρ), rfl, rfl⟩) fun u w' ⟨h1, h2⟩ => by subst h1; subst h2; exact ⟨fun _ => hS, k⟩
theorem sxo_off1 {o : Oper} {j d d' : Nat} {b c : Bool} (i : Nat) (hr : Region.ready .any ops listed = [i]) (ho : ops[i]? = some o) (h : o.guard = some (j, b)) (hj : (ops[j]?).bind (·.dst) = some d) (hb : e.get d = some (.bool c)) (hne : (c == b) = false) (hd : o.dst = some d') (hn : Nat.blt d' n = true) (hS : S w)
    (k : SxO P ops Q t S n f (listed.setIfInBounds i true) ((d', undef) :: e) w) : SxO P ops Q t S n (f + 1) listed e w := ⟨fun a ha => by
  have hw : Region.wanted o (yielded ops a.tmps) = false := by
    simp only [Region.wanted, h, yielded, hj, ha.get d _ hb, Option.bind_some]
    cases c <;> cases b <;> simp_all
  refine ⟨fun h0 => (by rw [hr] at h0; cases h0), fun j' hj' => ?_⟩
  rw [hr] at hj'
  obtain rfl : j' = i := by simpa using hj'
  unfold wpOp
  simp only [ho, hw, Bool.false_eq_true, if_false]
  rw [hd]
  exact ⟨fun _ => hS, k.run _ (ha.put (blt_lt hn) _)⟩⟩
end
end Go.Proofs.YtklciidffdnglaaDoor
