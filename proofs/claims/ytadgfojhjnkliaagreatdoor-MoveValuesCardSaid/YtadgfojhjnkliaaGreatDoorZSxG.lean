/- Lemmas that the last text rests on. Condition: each says its own. -/
import Derived.Test.YtadgfojhjnkliaaGreatDoorZb6
set_option maxHeartbeats 16000000
set_option maxRecDepth 100000
namespace Go.Proofs.YtadgfojhjnkliaaGreatDoor
open Go.RowKit
section
variable {P : Program} {ops : Array Oper} {Q : Exit → Act → World → Prop} {S : World → Prop} {t n f : Nat} {listed : Array Bool} {e : Env} {w : World}
theorem HX {d : Nat} {b : Bool} (hb : e.get d = some (.bool b)) (h1 : b = true → SxO P ops Q t S n f listed ((d, .bool true) :: e) w) (h2 : b = false → SxO P ops Q t S n f listed ((d, .bool false) :: e) w) : SxO P ops Q t S n f listed e w := .mk fun a ha => by
 have key : ∀ c, b = c → Agr n ((d, .bool c) :: e) a := fun c hc => ⟨ha.size, ha.defers, fun k v hk => by
  unfold Env.get at hk
  split at hk
  ·rename_i hb'
   obtain rfl : d = k := Nat.eq_of_beq_eq_true hb'
   simp only [Option.some.injEq] at hk
   rw [← hk, ← hc]; exact ha.get d _ hb
  ·exact ha.get k v hk⟩
 cases b
 ·exact (h2 rfl).run a (key false rfl)
 ·exact (h1 rfl).run a (key true rfl)
theorem mN {o : Oper} {d d0 j : Nat} {b c : Bool} (i h : Nat) (hs : Region.noSelect ops = true) (hQ : ∀ c (a : Act) t v w, Q (.panic c) (a.put t v) w → Q (.panic c) a w) (hwait : HL ops h t = true) (hih : Nat.blt i h = true)
 (hf : Region.free .any ops listed i = true) (hr : (Region.ready .any ops listed).contains i = true) (ho : ops[i]? = some o) (hg : o.guard = some (j, b)) (hj : (ops[j]?).bind (·.dst) = some d0) (hb : e.get d0 = some (.bool c)) (hne : (c == b) = false) (hd : o.dst = some d) (hn : Nat.blt d n = true) (hS : S w)
 (k : SxO P ops Q t S n f (listed.setIfInBounds i true) ((d, undef) :: e) w) : SxO P ops Q t S n (f + 1) listed e w := ⟨fun a ha => by
 have hw : Region.wanted o (yielded ops a.tmps) = false := by
  simp only [Region.wanted, hg, yielded, hj, ha.get d0 _ hb, Option.bind_some]
  cases c <;> cases b <;> simp_all
 refine JF (v := undef) ho (Region.noSelect_spec hs) (fun c a w => hQ c a _ _ w) hwait (AZ hih) f listed a w (Region.free_spec ho hf) (by simpa using hr) (.inr ⟨hw, rfl⟩) hS ?_
 rw [hd]; exact k.run _ (ha.put (AZ hn) undef)⟩
theorem oo1 {o : Oper} {d d0 j : Nat} {b c : Bool} (i h : Nat) (ho : ops[i]? = some o) (hg : o.guard = some (j, b)) (hj : (ops[j]?).bind (·.dst) = some d0) (hb : e.get d0 = some (.bool c)) (hne : (c == b) = false) (hd : o.dst = some d) (hn : Nat.blt d n = true) (hS : S w) (k : SxO P ops Q t S n f (listed.setIfInBounds i true) ((d, undef) :: e) w) (hs : Region.noSelect ops = true := by kernel_rfl) (hQ : ∀ c (a : Act) t v w, Q (.panic c) (a.put t v) w → Q (.panic c) a w := by exact fun c a t v w h => by cases t <;> exact h) (hwait : HL ops h t = true := by kernel_rfl) (hih : Nat.blt i h = true := by exact rfl) (hf : Region.free .any ops listed i = true := by kernel_rfl) (hr : (Region.ready .any ops listed).contains i = true := by kernel_rfl) : SxO P ops Q t S n (f + 1) listed e w :=
 mN i h hs hQ hwait hih hf hr ho hg hj hb hne hd hn hS k
end
end Go.Proofs.YtadgfojhjnkliaaGreatDoor
