/- The machine that runs closed code in the kernel: statements and calls. Over any program. No condition. -/
import Derived.Test.YtcdmoboikochmaaGreatDoorKb
namespace Go.Proofs.YtcdmoboikochmaaGreatDoor
open Go.RowKit

abbrev RegF := Array Oper → ContF
noncomputable def cSeq (a b : ContF) : ContF := fun e h nx => @Out.rec (fun _ => Out) .bad b .ext .ret (a e h nx)
noncomputable def cCond (G : Nat) (x : Operand) (a b : ContF) : ContF := fun e h nx =>
  match evO G e x with
  | some (.bool t) => bo t (a e h nx) (b e h nx)
  | _ => .bad
noncomputable def cBlock (id : Nat) (a : ContF) : ContF := fun e h nx =>
  @Out.rec (fun _ => Out) .bad .nrm (fun id' e' h' nx' => bo (Nat.beq id' id) (.nrm e' h' nx') (.ext id' e' h' nx')) .ret (a e h nx)
noncomputable def cBad : ContF := fun _ _ _ => .bad
/-- A statement. dr: a region that draws its order. -/
noncomputable def mCode (P : Program) (G n fuel : Nat) (call : CallF) (dr : RegF) (c : Code) : ContF :=
  @Code.rec (fun _ => ContF) .nrm (fun _ ops draw => bo draw (dr ops) (mOps P G n call ops ops.toList)) (fun _ _ a b => cSeq a b) (fun x _ _ a b => cCond G x a b) (fun id _ a => cBlock id a) (fun _ a => mLoop a fuel)
    (fun _ _ _ _ _ _ => cBad) .ext (fun _ a => a) (fun _ => .nrm) (fun _ => cBad) .ret (fun _ => cBad) c
noncomputable def mRes (P : Program) (e : Tb Value) (h : Hp) (l : List ResultVar) : Option (List Value) :=
  List.rec (motive := fun _ => Option (List Value)) (some []) (fun r _ ih => match (match r with | .tmp t => e.get t | .cell a t => (match mLoad P h 0 t (e.get a) with | .ok v _ _ => some v | .bad => none)), ih with
    | some v, some vs => some (v :: vs)
    | _, _ => none) l
def mRet : List Value → Value
  | [v] => v
  | l => .tuple ⟨l⟩
/-- What a body's end comes to. -/
noncomputable def mEnd (P : Program) (fn : Func) (r : Out) : OR :=
  @Out.rec (fun _ => OR) .bad (fun _ h nx => bo fn.results.toList.isEmpty (.ok (mRet []) h nx) .bad) (fun _ _ _ _ => .bad) (fun e h nx => oo (mRes P e h fn.results.toList) .bad (fun vs => .ok (mRet vs) h nx)) r
/-- A call, by its body. -/
noncomputable def mBody (P : Program) (G fuel : Nat) (dr : CallF → Nat → RegF) (call : CallF) : CallF := fun f args h nx =>
  oo (P.funcs[f]?) .bad (fun fn => oo fn.body .bad (fun c => bo (Nat.ble args.length fn.ntmps) (mEnd P fn (mCode P G fn.ntmps fuel call (dr call fn.ntmps) c (Tb.of args) h nx)) .bad))
/-- Calls, d deep. base: what is known of some already. -/
noncomputable def mCalls (P : Program) (G fuel : Nat) (dr : CallF → Nat → RegF) (base : CallF) (d : Nat) : CallF :=
  @Nat.rec (fun _ => CallF) base (fun _ ih f args h nx => @OR.rec (fun _ => OR) (mBody P G fuel dr ih f args h nx) .ok (base f args h nx)) d
end Go.Proofs.YtcdmoboikochmaaGreatDoor
