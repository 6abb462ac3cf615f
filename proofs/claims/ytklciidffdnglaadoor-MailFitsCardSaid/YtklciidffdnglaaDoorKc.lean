/- The machine that runs closed code in the kernel: statements and calls. Over any program. No condition. -/
import Derived.Test.YtklciidffdnglaaDoorKb
namespace Go.Proofs.YtklciidffdnglaaDoor
open Go.RowKit

abbrev RegF := Array Oper → ContF
noncomputable def cSeq (a b : ContF) : ContF := fun e h nx => @Out.rec (fun _ => Out) .bad b .ext .ret (a e h nx)
noncomputable def cCond (G : Nat) (x : Operand) (a b : ContF) : ContF := fun e h nx =>
  match evO G e x with
  | some (.bool t) => bo t (a e h nx) (b e h nx)
  | _ => .bad
noncomputable def cBlock (id : Nat) (a : ContF) : ContF := fun e h nx =>
  @Out.rec (fun _ => Out) .bad .nrm (fun id' e' h' nx' => bo (Nat.beq id' id) (.nrm e' h' nx') (.ext id' e' h' nx')) .ret (a e h nx)
noncomputable def cBad : ContF := fun _ _ _ => .bad
/-- A range over a function: its record is laid, the function is called with the record's yield, the pending jump is taken up. -/
noncomputable def mRangeF (P : Program) (G n : Nat) (call : CallF) (g : Operand) (ps : Array Nat) (asg body : Code) : ContF := fun e h nx =>
  match evO G e g with
  | some (.func (.func f) ⟨xs⟩ ⟨cs⟩) => bo (callB P f) (putS h nx (.loop 0 n e ps.toList asg body none) (fun h => natS (nx + 1) (fun nx' =>
      @OR.rec (fun _ => Out) .bad (fun _ h2 nx2 => match h2.get nx with
        | some (.loop st n' e' ps' asg' body' pend) => bo (Nat.beq st 1) .bad (putS h2 nx (.loop 3 n' e' ps' asg' body' pend) (fun h3 => match pend with
          | none => .nrm e h3 nx2
          | some none => .ret e h3 nx2
          | some (some id) => .ext id e h3 nx2))
        | _ => .bad) (call f (xs ++ ([.func (.yield nx) ⟨[]⟩ ⟨[]⟩] ++ cs)) h nx')))) .bad
  | _ => .bad
/-- A statement. dr: a region that draws its order. rg: may there be a range over a function (not within a round)? -/
noncomputable def mCode (P : Program) (G n fuel : Nat) (call : CallF) (dr : RegF) (rg : Bool) (c : Code) : ContF :=
  @Code.rec (fun _ => ContF) .nrm (fun _ ops draw => bo draw (dr ops) (mOps P G n call ops ops.toList)) (fun _ _ a b => cSeq a b) (fun x _ _ a b => cCond G x a b) (fun id _ a => cBlock id a) (fun _ a => mLoop a fuel)
    (fun g ps asg body _ _ => bo rg (mRangeF P G n call g ps asg body) cBad) .ext (fun _ a => a) (fun _ => .nrm) (fun _ => cBad) .ret (fun _ => cBad) c
noncomputable def mRes (P : Program) (e : Tb Value) (h : Hp) (l : List ResultVar) : Option (List Value) :=
  List.rec (motive := fun _ => Option (List Value)) (some []) (fun r _ ih => match (match r with | .tmp t => e.get t | .cell a t => (match mLoad P h 0 t (e.get a) with | .ok v _ _ => some v | .bad => none)), ih with
    | some v, some vs => some (v :: vs)
    | _, _ => none) l
def mRet : List Value → Value
  | [v] => v
  | l => .tuple ⟨l⟩
/-- What a body's end comes to. -/
noncomputable def mEnd (P : Program) (fn : Func) (r : Out) : OR :=
  @Out.rec (fun _ => OR) .bad (fun _ h nx => bo fn.results.toList.isEmpty (.ok (mRet []) h nx) .bad) (fun _ _ _ _ => .bad) (fun e h nx => oo (mRes P e h fn.results.toList) .bad (fun vs => .ok (mRet vs) h nx)) r
/-- A call, by its body. -/
noncomputable def mBody (P : Program) (G fuel : Nat) (dr : CallF → Nat → RegF) (call : CallF) : CallF := fun f args h nx =>
  oo (P.funcs[f]?) .bad (fun fn => oo fn.body .bad (fun c => bo (Nat.ble args.length fn.ntmps) (mEnd P fn (mCode P G fn.ntmps fuel call (dr call fn.ntmps) true c (Tb.of args) h nx)) .bad))
/-- What a round is handed, in its slots. -/
noncomputable def putL (n : Nat) (ps : List Nat) : List Value → Tb Value → Option (Tb Value) :=
  @List.rec Nat (fun _ => List Value → Tb Value → Option (Tb Value)) (fun vs e => match vs with | [] => some e | _ => none) (fun d _ ih vs e => match vs with
    | v :: vs => bo (Nat.blt d n) (valS v (fun v => putS e d v (fun e => ih vs e))) none
    | [] => none) ps
/-- A round has been left. -/
noncomputable def rndEnd (l : Nat) (st : Nat) (pend : Option (Option Nat)) (b : Bool) (h : Hp) (nx : Nat) : OR :=
  match h.get l with
  | some (.loop _ n e ps asg body _) => putS h l (.loop st n e ps asg body pend) (fun h => .ok (.bool b) h nx)
  | _ => .bad
/-- A round. -/
noncomputable def mRound (P : Program) (G fuel : Nat) (dr : CallF → Nat → RegF) (call : CallF) (l : Nat) (args : List Value) (h : Hp) (nx : Nat) : OR :=
  match h.get l with
  | some (.loop 0 n e ps asg body _) => oo (putL n ps args e) .bad (fun e1 =>
      @Out.rec (fun _ => OR) .bad (fun e2 h2 nx2 => match h2.get l with
        | some (.loop 0 n' e' ps' asg' body' pend') => putS h2 l (.loop 1 n' e' ps' asg' body' pend') (fun h2 =>
            @Out.rec (fun _ => OR) .bad (fun _ h3 nx3 => rndEnd l 0 none true h3 nx3) (fun id _ h3 nx3 => rndEnd l 2 (some (some id)) false h3 nx3) (fun _ h3 nx3 => rndEnd l 2 (some none) false h3 nx3)
              (mCode P G n fuel call (dr call n) false body e2 h2 nx2))
        | _ => .bad) (fun _ _ _ _ => .bad) (fun _ _ _ => .bad) (mCode P G n fuel call (dr call n) false asg e1 h nx))
  | _ => .bad
/-- Calls, d deep. base: what is known of some already. -/
noncomputable def mCalls (P : Program) (G fuel : Nat) (dr : CallF → Nat → RegF) (base : CallF) (d : Nat) : CallF :=
  @Nat.rec (fun _ => CallF) (fun f args h nx => bo (Nat.blt f P.funcs.size) (base f args h nx) .bad) (fun _ ih f args h nx =>
    bo (Nat.blt f P.funcs.size) (@OR.rec (fun _ => OR) (mBody P G fuel dr ih f args h nx) .ok (base f args h nx)) (natS (Nat.sub f P.funcs.size) (fun l => mRound P G fuel dr ih l args h nx))) d
end Go.Proofs.YtklciidffdnglaaDoor
