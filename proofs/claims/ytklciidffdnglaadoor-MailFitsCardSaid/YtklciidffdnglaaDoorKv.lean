/- Closed calls that come to a known value; word.table. No condition. -/
import Derived.Test.YtklciidffdnglaaDoorKq
import Derived.Test.YtklciidffdnglaaDoorProg
import Derived.KernelRfl
namespace Go.Proofs.YtklciidffdnglaaDoor
open Go.RowKit

/-- It comes to this value. -/
noncomputable def okVal (v : Value) (r : OR) : Bool := @OR.rec (fun _ => Bool) false (fun u _ _ => veq u v) r
theorem closed_val {P : Program} {G f : Nat} {call : CallF} {v : Value} (hc : CallsOk P G call) (hf : Nat.blt f P.funcs.size = true) (hv : flat v = true) (hr : okVal v (call f [] .lf G) = true) (w : World) : Calls P f #[] w fun x w' => x = .returned v ∧ Fr0 w w' := by
  unfold okVal at hr
  cases hq : call f [] .lf G with
  | bad => rw [hq] at hr; cases hr
  | ok u h' nx' =>
    rw [hq] at hr
    have : u = v := veq_ok hr
    subst this
    refine (hc.fn f [] .lf G _ h' nx' (blt_lt hf) hq (gSg G) w [] .nil (mr0 G w)).mono fun x w' ⟨σ', u', hx, hvr, ht⟩ => ?_
    have := VR.eq_of_flat hv hvr
    subst this
    exact ⟨hx, ht.os, ht.tape, ht.output, ht.size, fun r hr _ => ht.fr r hr fun id L h => by (rw [Tb.get_lf] at h; cases h)⟩
/-- A function of which it is known that it returns this value; all others are left to another. -/
noncomputable def knownV (f : Nat) (v : Value) (rest : CallF) : CallF := fun f' args h nx =>
  bo (Nat.beq f' f) (bo args.isEmpty (.ok v h nx) .bad) (rest f' args h nx)
theorem knownV_ok {P : Program} {G f : Nat} {v : Value} {rest : CallF} (hv : flat v = true) (hk : ∀ w, Calls P f #[] w fun x w' => x = .returned v ∧ Fr0 w w') (hr : CallOk P G rest) : CallOk P G (knownV f v rest) := by
  intro f' args h nx v' h' nx' hm σ w us hvs m
  have hm : bo (Nat.beq f' f) (bo args.isEmpty (OR.ok v h nx) OR.bad) (rest f' args h nx) = OR.ok v' h' nx' := hm
  cases hq : Nat.beq f' f with
  | false => rw [hq, bo_false] at hm; exact hr f' args h nx v' h' nx' hm σ w us hvs m
  | true =>
    rw [hq, bo_true] at hm
    obtain ⟨he, hm⟩ := bo_inv hm (by simp)
    obtain ⟨rfl, rfl, rfl⟩ := ok_inj hm
    obtain rfl := Nat.eq_of_beq_eq_true hq
    obtain rfl : args = [] := by simpa using he
    obtain rfl := hvs.inv_nil
    refine (hk w).mono fun x w' ⟨hx, hf⟩ => ⟨σ, v, hx, VR.of_flat hv, Tr.of_fr0 m hf⟩
theorem mixed : Tryd.prog.follows .mixedOrders = true := by kernel_rfl
/-- What word.table returns. -/
def tabV : Value := .agg ⟨[.int .u8 (.ofNat 0), .int .u8 (.ofNat 0), .int .u8 (.ofNat 0), .int .u8 (.ofNat 0), .int .u8 (.ofNat 0), .int .u8 (.ofNat 0), .int .u8 (.ofNat 0), .int .u8 (.ofNat 0), .int .u8 (.ofNat 0), .int .u8 (.ofNat 0), .int .u8 (.ofNat 0), .int .u8 (.ofNat 0), .int .u8 (.ofNat 0), .int .u8 (.ofNat 0), .int .u8 (.ofNat 0), .int .u8 (.ofNat 0), .int .u8 (.ofNat 0), .int .u8 (.ofNat 0), .int .u8 (.ofNat 0), .int .u8 (.ofNat 0), .int .u8 (.ofNat 0), .int .u8 (.ofNat 0), .int .u8 (.ofNat 0), .int .u8 (.ofNat 0), .int .u8 (.ofNat 0), .int .u8 (.ofNat 0), .int .u8 (.ofNat 0), .int .u8 (.ofNat 0), .int .u8 (.ofNat 0), .int .u8 (.ofNat 0), .int .u8 (.ofNat 0), .int .u8 (.ofNat 0), .int .u8 (.ofNat 0), .int .u8 (.ofNat 0), .int .u8 (.ofNat 0), .int .u8 (.ofNat 0), .int .u8 (.ofNat 0), .int .u8 (.ofNat 0), .int .u8 (.ofNat 0), .int .u8 (.ofNat 0), .int .u8 (.ofNat 0), .int .u8 (.ofNat 0), .int .u8 (.ofNat 0), .int .u8 (.ofNat 0), .int .u8 (.ofNat 0), .int .u8 (.ofNat 1), .int .u8 (.ofNat 1), .int .u8 (.ofNat 0), .int .u8 (.ofNat 1), .int .u8 (.ofNat 1), .int .u8 (.ofNat 1), .int .u8 (.ofNat 1), .int .u8 (.ofNat 1), .int .u8 (.ofNat 1), .int .u8 (.ofNat 1), .int .u8 (.ofNat 1), .int .u8 (.ofNat 1), .int .u8 (.ofNat 1), .int .u8 (.ofNat 0), .int .u8 (.ofNat 0), .int .u8 (.ofNat 0), .int .u8 (.ofNat 0), .int .u8 (.ofNat 0), .int .u8 (.ofNat 0), .int .u8 (.ofNat 0), .int .u8 (.ofNat 2), .int .u8 (.ofNat 2), .int .u8 (.ofNat 2), .int .u8 (.ofNat 2), .int .u8 (.ofNat 2), .int .u8 (.ofNat 2), .int .u8 (.ofNat 2), .int .u8 (.ofNat 2), .int .u8 (.ofNat 2), .int .u8 (.ofNat 2), .int .u8 (.ofNat 2), .int .u8 (.ofNat 2), .int .u8 (.ofNat 2), .int .u8 (.ofNat 2), .int .u8 (.ofNat 2), .int .u8 (.ofNat 2), .int .u8 (.ofNat 2), .int .u8 (.ofNat 2), .int .u8 (.ofNat 2), .int .u8 (.ofNat 2), .int .u8 (.ofNat 2), .int .u8 (.ofNat 2), .int .u8 (.ofNat 2), .int .u8 (.ofNat 2), .int .u8 (.ofNat 2), .int .u8 (.ofNat 2), .int .u8 (.ofNat 0), .int .u8 (.ofNat 0), .int .u8 (.ofNat 0), .int .u8 (.ofNat 0), .int .u8 (.ofNat 1), .int .u8 (.ofNat 0), .int .u8 (.ofNat 2), .int .u8 (.ofNat 2), .int .u8 (.ofNat 2), .int .u8 (.ofNat 2), .int .u8 (.ofNat 2), .int .u8 (.ofNat 2), .int .u8 (.ofNat 2), .int .u8 (.ofNat 2), .int .u8 (.ofNat 2), .int .u8 (.ofNat 2), .int .u8 (.ofNat 2), .int .u8 (.ofNat 2), .int .u8 (.ofNat 2), .int .u8 (.ofNat 2), .int .u8 (.ofNat 2), .int .u8 (.ofNat 2), .int .u8 (.ofNat 2), .int .u8 (.ofNat 2), .int .u8 (.ofNat 2), .int .u8 (.ofNat 2), .int .u8 (.ofNat 2), .int .u8 (.ofNat 2), .int .u8 (.ofNat 2), .int .u8 (.ofNat 2), .int .u8 (.ofNat 2), .int .u8 (.ofNat 2), .int .u8 (.ofNat 0), .int .u8 (.ofNat 0), .int .u8 (.ofNat 0), .int .u8 (.ofNat 0), .int .u8 (.ofNat 0), .int .u8 (.ofNat 0), .int .u8 (.ofNat 0), .int .u8 (.ofNat 0), .int .u8 (.ofNat 0), .int .u8 (.ofNat 0), .int .u8 (.ofNat 0), .int .u8 (.ofNat 0), .int .u8 (.ofNat 0), .int .u8 (.ofNat 0), .int .u8 (.ofNat 0), .int .u8 (.ofNat 0), .int .u8 (.ofNat 0), .int .u8 (.ofNat 0), .int .u8 (.ofNat 0), .int .u8 (.ofNat 0), .int .u8 (.ofNat 0), .int .u8 (.ofNat 0), .int .u8 (.ofNat 0), .int .u8 (.ofNat 0), .int .u8 (.ofNat 0), .int .u8 (.ofNat 0), .int .u8 (.ofNat 0), .int .u8 (.ofNat 0), .int .u8 (.ofNat 0), .int .u8 (.ofNat 0), .int .u8 (.ofNat 0), .int .u8 (.ofNat 0), .int .u8 (.ofNat 0), .int .u8 (.ofNat 0), .int .u8 (.ofNat 0), .int .u8 (.ofNat 0), .int .u8 (.ofNat 0), .int .u8 (.ofNat 0), .int .u8 (.ofNat 0), .int .u8 (.ofNat 0), .int .u8 (.ofNat 0), .int .u8 (.ofNat 0), .int .u8 (.ofNat 0), .int .u8 (.ofNat 0), .int .u8 (.ofNat 0), .int .u8 (.ofNat 0), .int .u8 (.ofNat 0), .int .u8 (.ofNat 0), .int .u8 (.ofNat 0), .int .u8 (.ofNat 0), .int .u8 (.ofNat 0), .int .u8 (.ofNat 0), .int .u8 (.ofNat 0), .int .u8 (.ofNat 0), .int .u8 (.ofNat 0), .int .u8 (.ofNat 0), .int .u8 (.ofNat 0), .int .u8 (.ofNat 0), .int .u8 (.ofNat 0), .int .u8 (.ofNat 0), .int .u8 (.ofNat 0), .int .u8 (.ofNat 0), .int .u8 (.ofNat 0), .int .u8 (.ofNat 0), .int .u8 (.ofNat 0), .int .u8 (.ofNat 0), .int .u8 (.ofNat 0), .int .u8 (.ofNat 0), .int .u8 (.ofNat 0), .int .u8 (.ofNat 0), .int .u8 (.ofNat 0), .int .u8 (.ofNat 0), .int .u8 (.ofNat 0), .int .u8 (.ofNat 0), .int .u8 (.ofNat 0), .int .u8 (.ofNat 0), .int .u8 (.ofNat 0), .int .u8 (.ofNat 0), .int .u8 (.ofNat 0), .int .u8 (.ofNat 0), .int .u8 (.ofNat 0), .int .u8 (.ofNat 0), .int .u8 (.ofNat 0), .int .u8 (.ofNat 0), .int .u8 (.ofNat 0), .int .u8 (.ofNat 0), .int .u8 (.ofNat 0), .int .u8 (.ofNat 0), .int .u8 (.ofNat 0), .int .u8 (.ofNat 0), .int .u8 (.ofNat 0), .int .u8 (.ofNat 0), .int .u8 (.ofNat 0), .int .u8 (.ofNat 0), .int .u8 (.ofNat 0), .int .u8 (.ofNat 0), .int .u8 (.ofNat 0), .int .u8 (.ofNat 0), .int .u8 (.ofNat 0), .int .u8 (.ofNat 0), .int .u8 (.ofNat 0), .int .u8 (.ofNat 0), .int .u8 (.ofNat 0), .int .u8 (.ofNat 0), .int .u8 (.ofNat 0), .int .u8 (.ofNat 0), .int .u8 (.ofNat 0), .int .u8 (.ofNat 0), .int .u8 (.ofNat 0), .int .u8 (.ofNat 0), .int .u8 (.ofNat 0), .int .u8 (.ofNat 0), .int .u8 (.ofNat 0), .int .u8 (.ofNat 0), .int .u8 (.ofNat 0), .int .u8 (.ofNat 0), .int .u8 (.ofNat 0), .int .u8 (.ofNat 0), .int .u8 (.ofNat 0), .int .u8 (.ofNat 0), .int .u8 (.ofNat 0), .int .u8 (.ofNat 0), .int .u8 (.ofNat 0), .int .u8 (.ofNat 0), .int .u8 (.ofNat 0), .int .u8 (.ofNat 0), .int .u8 (.ofNat 0), .int .u8 (.ofNat 0), .int .u8 (.ofNat 0), .int .u8 (.ofNat 0), .int .u8 (.ofNat 0), .int .u8 (.ofNat 0), .int .u8 (.ofNat 0)]⟩
theorem tab_run : okVal tabV (mRun Tryd.prog Tryd.prog.globals.size 100000 noCall 60 15 [] .lf Tryd.prog.globals.size) = true := by kernel_rfl
theorem tab_flat : flat tabV = true := by kernel_rfl
theorem tab_calls (w : World) : Calls Tryd.prog 15 #[] w fun x w' => x = .returned tabV ∧ Fr0 w w' := closed_val (run_ok mixed noCall_ok) (by kernel_rfl) tab_flat tab_run w
noncomputable def tabK (rest : CallF) : CallF := knownV 15 tabV rest
theorem tabK_ok {rest : CallF} (hr : CallOk Tryd.prog Tryd.prog.globals.size rest) : CallOk Tryd.prog Tryd.prog.globals.size (tabK rest) := knownV_ok tab_flat tab_calls hr
end Go.Proofs.YtklciidffdnglaaDoor
