/- Lemmas that the last text rests on. Condition: each says its own. -/
import Derived.Test.YtjaocmocdhckaaaGreatDoorZMv4
set_option maxHeartbeats 16000000
set_option maxRecDepth 100000
namespace Go.Proofs.YtjaocmocdhckaaaGreatDoor
open Go.RowKit
open Tryz
theorem d9 {P : Program} {e : Env} {w : World} {o : Oper} {t t' : Nat} {a b : Int} {x y : Operand} (ho : o.op = .binOp .add t x y t') (hx : ev e x = some (.int .i64 a)) (hy : ev e y = some (.int .i64 b)) : Y P e o w (.int .i64 ((IntKind.i64).wrap (a + b))) := fun ρ h => by
 unfold execOp; simp [ho, h _ _ hx, h _ _ hy, eqGuard_at_int, binOp_add, Op.intArith]
theorem CourseN.fr0 {w w' : World} {m : Md} {gc : Nat} {c : CrA} {F : List Nat} (h : CourseN w m gc c F) (hf : Fr0 w w') : CourseN w' m gc c F := h.keep (fun g _ hg => hf.block g hg (fun hh => hh))
structure Tk where
 id : Int
 loc : List UInt8
 on : List UInt8
 born : Int
 tries : Int
 worker : List UInt8
 until_ : Int
 inc : UInt8
 err : Int
structure Wt where
 via : List UInt8
 ev : UInt8
 nm : List UInt8
 key : List UInt8
 due : Int
def Tk.cells (t : Tk) : List Value := [.int .i64 t.id, str t.loc, str t.on, .int .i64 t.born, .int .i64 t.tries, str t.worker, .int .i64 t.until_, .int .u8 (t.inc.toNat : Int), .int .i64 t.err]
def Wt.cells (t : Wt) : List Value := [str t.via, .int .u8 (t.ev.toNat : Int), str t.nm, str t.key, .int .i64 t.due]
theorem Tk.len (t : Tk) : t.cells.length = 9 := rfl
theorem Wt.len (t : Wt) : t.cells.length = 5 := rfl
def LN (vars : List Bd) (name : List UInt8) : Option Vl := (ffN (fun (_ : Nat) (b : Bd) => !(decide (b.name = name))) 0 vars).map (·.v)
def GH (c : CrA) (via : List UInt8) (born : Int) (vars : List Bd) : Wt × Int :=
 if (decide (((c.atf via).ev.toNat : Int) = (1 : Int))) = true then (⟨via, (c.atf via).ev, (c.atf via).ref, [], (IntKind.i64).wrap (born + (c.atf via).ticks)⟩, 0)
 else if (decide (((c.atf via).ev.toNat : Int) = (2 : Int))) = true then
  (if (!((LN vars (c.atf via).key).isSome)) = true then (⟨[], 0, [], [], 0⟩, 100)
  else if (!decide ((((LN vars (c.atf via).key).getD zeroVl).kind.toNat : Int) = (3 : Int))) = true then (⟨[], 0, [], [], 0⟩, 90)
  else (⟨via, (c.atf via).ev, (c.atf via).ref, ((LN vars (c.atf via).key).getD zeroVl).text, 0⟩, 0))
 else (⟨via, (c.atf via).ev, (c.atf via).ref, [], 0⟩, 0)
theorem PJ  : prog.built 54 [] = some #[str [], .int .u8 0, str [], str [], .int .i64 0] := by kernel_rfl
theorem OF (a0 : List UInt8) (a1 : Int) (a2 : List UInt8) : prog.built 54 [(0, str a0), (1, .int .u8 a1), (2, str a2)] = some #[str a0, .int .u8 a1, str a2, str [], .int .i64 0] := by kernel_rfl
theorem D5 : (prog.info? 54).map (·.size) = some 5 := by kernel_rfl
theorem BN : (prog.info? 45).map (·.zero) = some (some (.agg #[.int .u8 0, .int .i64 0, .bool false, str []])) := by kernel_rfl
theorem KZ : (prog.info? 54).map (·.zero) = some (some (.agg #[str [], .int .u8 0, str [], str [], .int .i64 0])) := by kernel_rfl
theorem aF (g3 : Nat) (name : List UInt8) (x : Bd) (w : World) (hb : Blk w g3 9 [str name]) :
 Calls prog 127 #[.agg x.cells.toArray, pg g3] w fun e w' => e = .returned (.bool (decide (x.name = name))) ∧ Fr0 w w' := by
 refine C2 func127 ntmps127 rfl fun M => srg (CN M rfl rfl fun g2 w1 hg2 M => yb rfl (nq (srg (yb rfl (BA M 0 rfl rfl rfl (yl rfl rfl (Blk.c (hb.fr0 M.fr) 0 rfl) (ya rfl (D8 rfl rfl rfl) (yb rfl (AC ?_)))))))))
 exact AA (AI (gr1 rfl ⟨rfl, M.fr⟩))
theorem QE (A : Option Addr) (cv : Nat) (vars : List Bd) (name : List UInt8) (w : World) (hvl : vars.length ≤ 4611686018427387904) (hV : Rd w A (vars.length * 5) (AK Bd.cells vars)) :
 Calls prog 71 #[.slice A vars.length cv, str name] w fun e w' => e = .returned (.tuple #[.agg (((LN vars name).getD zeroVl).cells).toArray, .bool (LN vars name).isSome]) ∧ Fr0 w w' := by
 refine C2 func71 ntmps71 rfl fun M => srg (DX M (AF rfl) rfl rfl 9 rfl rfl ([str name]) rfl fun g3 w1 hg3 M => D6 M rfl BN fun g4 w2 hg4 M => yb rfl (nq (srg (yb rfl (ya rfl (D9 (us := []) (vs := [pg g3]) rfl rfl rfl) (cl 9 rfl (AQ rfl rfl call126) (Q2 Bd.cells Bd.len A cv vars hvl 127 [pg g3] (fun (_ : Nat) (b : Bd) => !(!(decide (b.name = name)))) AV (fun _ _ => True) _ (GI call127 (fun x _ w9 hf9 => (aF g3 name x w9 ((M.blk 1 rfl).fr0 hf9)).mono fun _ _ ⟨h1, h2⟩ => ⟨by rw [h1, Bool.not_not], h2⟩)) (fun _ hf9 => (hV.fr0 M.fr).fr0 hf9) trivial) ?_))))))
 rintro _ w3 ⟨rfl, _, hfw3⟩
 refine ⟨_, rfl, ?_⟩
 have M := M.step hfw3
 refine yb rfl (AC (AA (AD (AD (AB (yb rfl (CB rfl rfl (AC (AA (AN rfl (fun h11 => ?_) (fun h11 => ?_)))))))))))
 ·have h11p := (odt h11)
  have hff := N9 (p := (fun (_ : Nat) (b : Bd) => !(decide (b.name = name)))) h11p
  exact srg (ya rfl (B9 (parts := []) rfl rfl (C4)) (C1 M 0 rfl rfl AG rfl fun w4 M => yb rfl (nq (AI (AE (B8 rfl rfl (M.rdBlk 0 rfl rfl) underlying45 rfl AG rfl ⟨by rw [LN, hff]; rfl, M.fr⟩))))))
 ·have h11p := (odf h11)
  obtain ⟨j, x, hj, hx, hff⟩ := NA (p := (fun (_ : Nat) (b : Bd) => !(decide (b.name = name)))) h11p
  have hjl : j < vars.length := (List.getElem?_eq_some_iff.1 hx).1
  rw [hj]
  obtain ⟨b_x, o_x, hA_x⟩ := BI (k := 5) AO (hV.fr0 M.fr) hx
  refine AL (AA (srg (yb rfl (yb rfl (ya rfl (B1 j hA_x rfl rfl rfl (sl rfl) AO) (yb rfl (ya rfl (AT (xs := Vl.cells x.v) rfl rfl (lS Bd.len (hV.fr0 M.fr) hA_x hx 1 4 rfl rfl) underlying45 rfl AG) (C1 M 0 rfl rfl AG rfl fun w5 M => yb rfl (nq (AI (B8 rfl rfl (M.rdBlk 0 rfl rfl) underlying45 rfl AG rfl ?_)))))))))))
  exact ⟨by rw [LN, hff]; rfl, M.fr⟩
theorem kP (m : Md) (gc : Nat) (c : CrA) (F : List Nat) (via : List UInt8) (born : Int) (A : Option Addr) (cv : Nat) (vars : List Bd) (w : World) (hC : CourseN w m gc c F) (hvl : vars.length ≤ 4611686018427387904) (hV : Rd w A (vars.length * 5) (AK Bd.cells vars)) :
 Calls prog 32 #[pg gc, str via, .int .i64 born, .slice A vars.length cv] w fun e w' => e = .returned (.tuple #[.agg ((GH c via born vars).1.cells).toArray, .int .i64 (GH c via born vars).2]) ∧ Fr0 w w' := by
 refine C2 func32 ntmps32 rfl fun M => srg (D6 M rfl KZ fun g8 w1 hg8 M => yb rfl (nq (srg (yb rfl (yb rfl (yb rfl (yl rfl rfl (Blk.c ((hC.fr0 M.fr).blk) 5 rfl) (yb rfl (ya rfl (BP rfl rfl rfl underlying62 underlying9 B4 ((hC.fr0 M.fr).A) (hC.getA _)) ?_)))))))))
 refine D6 M rfl B4 fun g10 w2 hg10 M => C1 M 0 rfl rfl AZ rfl fun w3 M => nq (srg (yb rfl (yb rfl (BA M 0 rfl rfl rfl (yb rfl (BA M 0 rfl rfl rfl (ya rfl (B9 (parts := [(0, _), (1, _), (2, _)]) rfl rfl (OF _ _ _)) (D6 M rfl KZ fun g11 w4 hg11 M => ?_))))))))
 refine C1 M 0 rfl rfl D5 rfl fun w5 M => nq (AD (srg (yb rfl (BA M 1 rfl rfl rfl (nq (AR (srg (CI rfl rfl (yb rfl ?_)))))))))
 refine AC (AA (AN rfl (fun h28 => ?_) (fun h28 => ?_)))
 ·refine AB (yb rfl (yb rfl (BA M 1 rfl rfl rfl (ya rfl (d9 rfl rfl rfl) (yb rfl (gp1 M 0 rfl rfl rfl GM fun w6 M => AC (AH (AA (srg (CR M 0 rfl rfl underlying54 D5 rfl (C1 M 2 rfl rfl D5 rfl fun w7 M => ?_)))))))))))
  exact yb rfl (nq (AI (B8 rfl rfl (M.rdBlk 2 rfl rfl) underlying54 rfl D5 rfl ⟨by rw [GH, if_pos h28] <;> rfl, M.fr⟩)))
 ·refine AD (AB (CI rfl rfl (yb rfl (AC (AA (AN rfl (fun h35 => ?_) (fun h35 => ?_)))))))
  ·refine srg (yb rfl (yb rfl (BA M 1 rfl rfl rfl (D1 M 41 rfl rfl call71 (QE A cv vars ((c.atf via).key) _ hvl (hV.fr0 M.fr)) fun w8 M => yb rfl (yb rfl (yb rfl (D6 M rfl BN fun g12 w9 hg12 M => C1 M 0 rfl rfl AG rfl fun w10 M => yb rfl (nq ?_))))))))
   refine AD (AR (AD (AB (yb rfl (yb rfl (yb rfl (AC (AA (AN rfl (fun h44 => ?_) (fun h44 => ?_))))))))))
   ·exact srg (ya rfl (B9 (parts := []) rfl rfl (PJ)) (C1 M 3 rfl rfl D5 rfl fun w11 M => yb rfl (nq (AI (AM (AE (AM (AE (B8 rfl rfl (M.rdBlk 3 rfl rfl) underlying54 rfl D5 rfl ⟨by rw [GH, if_neg (AS h28), if_pos h35, if_pos h44] <;> rfl, M.fr⟩)))))))))
   ·refine AD (AB (yb rfl (BA M 0 rfl rfl rfl (D4 rfl rfl (yb rfl (AC (AA (AN rfl (fun h48 => ?_) (fun h48 => ?_)))))))))
    ·exact srg (ya rfl (B9 (parts := []) rfl rfl (PJ)) (C1 M 3 rfl rfl D5 rfl fun w12 M => yb rfl (nq (AI (AM (AE (AM (AE (B8 rfl rfl (M.rdBlk 3 rfl rfl) underlying54 rfl D5 rfl ⟨by rw [GH, if_neg (AS h28), if_pos h35, if_neg (AS h44), if_pos h48] <;> rfl, M.fr⟩)))))))))
    ·refine AL (AH (AA (AB (yb rfl (BA M 0 rfl rfl rfl (yb rfl (gp1 M 1 rfl rfl rfl G0 fun w13 M => AC (AH (AA (srg (ya rfl (AT (xs := [str via, .int .u8 ((c.atf via).ev.toNat : Int), str ((c.atf via).ref), str (((LN vars ((c.atf via).key)).getD zeroVl).text), .int .i64 0]) rfl rfl (M.rdBlk 1 rfl rfl) underlying54 rfl D5) (C1 M 3 rfl rfl D5 rfl ?_))))))))))))
     intro w14 M
     exact yb rfl (nq (AI (B8 rfl rfl (M.rdBlk 3 rfl rfl) underlying54 rfl D5 rfl ⟨by rw [GH, if_neg (AS h28), if_pos h35, if_neg (AS h44), if_neg (AS h48)] <;> rfl, M.fr⟩)))
  ·exact AL (AH (AA (srg (CR M 0 rfl rfl underlying54 D5 rfl (C1 M 2 rfl rfl D5 rfl fun w15 M => yb rfl (nq (AI (B8 rfl rfl (M.rdBlk 2 rfl rfl) underlying54 rfl D5 rfl ⟨by rw [GH, if_neg (AS h28), if_neg (AS h35)] <;> rfl, M.fr⟩))))))))
end Go.Proofs.YtjaocmocdhckaaaGreatDoor
