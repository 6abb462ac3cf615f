/- Closed calls: what the machine reckons holds of the model. Over any program. No condition. -/
import Derived.Test.YtklciidffdnglaaDoorKp
namespace Go.Proofs.YtklciidffdnglaaDoor
open Go.RowKit

/-- It comes to true. -/
noncomputable def okTrue (r : OR) : Bool := @OR.rec (fun _ => Bool) false (fun v _ _ => match v with | .bool b => b | _ => false) r
theorem okTrue_inv {r : OR} (h : okTrue r = true) : ∃ h' nx', r = .ok (.bool true) h' nx' := by
  cases r with
  | bad => cases h
  | ok v h' nx' =>
    cases v with
    | bool b => cases b with
      | true => exact ⟨h', nx', rfl⟩
      | false => cases h
    | _ => cases h
/-- The places of the package-level variables. -/
def gSg (G : Nat) : Sg := fun id => if id < G then some ⟨id, 0, 0⟩ else none
theorem mr0 (G : Nat) (w : World) : MR G (gSg G) (Tb.lf : Hp).get G w :=
  ⟨fun id B h => by (rw [Tb.get_lf] at h; cases h), fun id id' L L' h => by (rw [Tb.get_lf] at h; cases h), fun id h => by unfold gSg; rw [if_neg (by omega)], fun g hg => ⟨0, by unfold gSg; rw [if_pos hg]⟩, Nat.le_refl _⟩
/-- A closed call that the machine brings to true returns true, and old memory stands. -/
theorem closed_ok {P : Program} {G f : Nat} {call : CallF} (hc : CallsOk P G call) (hf : Nat.blt f P.funcs.size = true) (hr : okTrue (call f [] .lf G) = true) (w : World) : Calls P f #[] w fun x w' => x = .returned (.bool true) ∧ Fr0 w w' := by
  obtain ⟨h', nx', h1⟩ := okTrue_inv hr
  refine (hc.fn f [] .lf G _ h' nx' (blt_lt hf) h1 (gSg G) w [] .nil (mr0 G w)).mono fun x w' ⟨σ', u, hx, hv, ht⟩ => ?_
  have := hv.scal_inv rfl
  subst this
  exact ⟨hx, ht.os, ht.tape, ht.output, ht.size, fun r hr _ => ht.fr r hr fun id L h => by (rw [Tb.get_lf] at h; cases h)⟩
/-- Where old memory stands, what is known of it stands. -/
theorem Tr.of_fr0 {G : Nat} {σ : Sg} {h : Hf} {nx : Nat} {w w' : World} (m : MR G σ h nx w) (hf : Fr0 w w') : Tr G σ h nx w σ h nx w' where
  le := Nat.le_refl _
  ext := Sg.le.refl σ
  old _ _ := rfl
  mr := ⟨fun id B hb => let ⟨L, h1, h2⟩ := m.blk id B hb; ⟨L, h1, h2.keep (Sg.le.refl σ) (hf.block L.blk h2.lt (fun hh => hh))⟩, m.sep, m.free, m.glob, m.gle⟩
  os := hf.os
  tape := hf.tape
  output := hf.output
  size := hf.size
  fr r hr _ := hf.block r hr (fun hh => hh)
  src id L hi hs := .inr ⟨id, L, hi, hs, rfl⟩
  dom _ _ h := h
  qt r hr hq := ⟨hf.block r hr (fun hh => hh), hq⟩
/-- A function of which it is known that it returns true; all others are left to another. -/
noncomputable def known (f : Nat) (rest : CallF) : CallF := fun f' args h nx =>
  bo (Nat.beq f' f) (bo args.isEmpty (.ok (.bool true) h nx) .bad) (rest f' args h nx)
theorem known_ok {P : Program} {G f : Nat} {rest : CallF} (hk : ∀ w, Calls P f #[] w fun x w' => x = .returned (.bool true) ∧ Fr0 w w') (hr : CallOk P G rest) : CallOk P G (known f rest) := by
  intro f' args h nx v h' nx' hm σ w us hv m
  have hm : bo (Nat.beq f' f) (bo args.isEmpty (OR.ok (.bool true) h nx) OR.bad) (rest f' args h nx) = OR.ok v h' nx' := hm
  cases hq : Nat.beq f' f with
  | false => rw [hq, bo_false] at hm; exact hr f' args h nx v h' nx' hm σ w us hv m
  | true =>
    rw [hq, bo_true] at hm
    obtain ⟨he, hm⟩ := bo_inv hm (by simp)
    obtain ⟨rfl, rfl, rfl⟩ := ok_inj hm
    obtain rfl := Nat.eq_of_beq_eq_true hq
    obtain rfl : args = [] := by simpa using he
    obtain rfl := hv.inv_nil
    refine (hk w).mono fun x w' ⟨hx, hf⟩ => ⟨σ, .bool true, hx, VR.bool, Tr.of_fr0 m hf⟩
noncomputable def noCall : CallF := fun _ _ _ _ => .bad
theorem noCall_ok {P : Program} {G : Nat} : CallOk P G noCall := none_ok
end Go.Proofs.YtklciidffdnglaaDoor
