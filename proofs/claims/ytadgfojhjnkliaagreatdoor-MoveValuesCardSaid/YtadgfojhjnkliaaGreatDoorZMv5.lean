/- Lemmas that the last text rests on. Condition: each says its own. -/
import Derived.Test.YtadgfojhjnkliaaGreatDoorZMv4
set_option maxHeartbeats 16000000
set_option maxRecDepth 100000
namespace Go.Proofs.YtadgfojhjnkliaaGreatDoor
open Go.RowKit
open Tryz
theorem pW {P : Program} {e : Env} {w : World} {o : Oper} {t t' : Nat} {a b : Int} {x y : Operand} (ho : o.op = .binOp .add t x y t') (hx : ev e x = some (.int .i64 a)) (hy : ev e y = some (.int .i64 b)) : Y P e o w (.int .i64 ((IntKind.i64).wrap (a + b))) := fun ρ h => by
 unfold execOp; simp [ho, h _ _ hx, h _ _ hy, eqGuard_at_int, binOp_add, Op.intArith]
theorem CourseN.fr0 {w w' : World} {m : Md} {gc : Nat} {c : CrA} {F : List Nat} (h : CourseN w m gc c F) (hf : Fr0 w w') : CourseN w' m gc c F := h.keep (fun g _ hg => hf.block g hg (fun hh => hh))
structure Tk where
 id : Int
 loc : List UInt8
 on : List UInt8
 born : Int
 tries : Int
 worker : List UInt8
 until_ : Int
 inc : UInt8
 err : Int
structure Wt where
 via : List UInt8
 ev : UInt8
 nm : List UInt8
 key : List UInt8
 due : Int
def Tk.cells (t : Tk) : List Value := [.int .i64 t.id, str t.loc, str t.on, .int .i64 t.born, .int .i64 t.tries, str t.worker, .int .i64 t.until_, .int .u8 (t.inc.toNat : Int), .int .i64 t.err]
def Wt.cells (t : Wt) : List Value := [str t.via, .int .u8 (t.ev.toNat : Int), str t.nm, str t.key, .int .i64 t.due]
theorem Wt.len (t : Wt) : t.cells.length = 5 := rfl
def KD (vars : List Bd) (name : List UInt8) : Option Vl := (ffN (fun (_ : Nat) (b : Bd) => !(decide (b.name = name))) 0 vars).map (·.v)
def DL (c : CrA) (via : List UInt8) (born : Int) (vars : List Bd) : Wt × Int :=
 if (decide (((c.atf via).ev.toNat : Int) = (1 : Int))) = true then (⟨via, (c.atf via).ev, (c.atf via).ref, [], (IntKind.i64).wrap (born + (c.atf via).ticks)⟩, 0)
 else if (decide (((c.atf via).ev.toNat : Int) = (2 : Int))) = true then
  (if (!((KD vars (c.atf via).key).isSome)) = true then (⟨[], 0, [], [], 0⟩, 100)
  else if (!decide ((((KD vars (c.atf via).key).getD zeroVl).kind.toNat : Int) = (3 : Int))) = true then (⟨[], 0, [], [], 0⟩, 90)
  else (⟨via, (c.atf via).ev, (c.atf via).ref, ((KD vars (c.atf via).key).getD zeroVl).text, 0⟩, 0))
 else (⟨via, (c.atf via).ev, (c.atf via).ref, [], 0⟩, 0)
theorem OY  : prog.built 39 [] = some #[str [], .int .u8 0, str [], str [], .int .i64 0] := by kernel_rfl
theorem N4 (a0 : List UInt8) (a1 : Int) (a2 : List UInt8) : prog.built 39 [(0, str a0), (1, .int .u8 a1), (2, str a2)] = some #[str a0, .int .u8 a1, str a2, str [], .int .i64 0] := by kernel_rfl
theorem CJ : (prog.info? 39).map (·.size) = some 5 := by kernel_rfl
theorem LW : (prog.info? 67).map (·.zero) = some (some (.agg #[.int .u8 0, .int .i64 0, .bool false, str []])) := by kernel_rfl
theorem JX : (prog.info? 39).map (·.zero) = some (some (.agg #[str [], .int .u8 0, str [], str [], .int .i64 0])) := by kernel_rfl
theorem cD (g3 : Nat) (name : List UInt8) (x : Bd) (w : World) (hb : Blk w g3 9 [str name]) :
 Calls prog 113 #[.agg x.cells.toArray, pg g3] w fun e w' => e = .returned (.bool (decide (x.name = name))) ∧ Fr0 w w' := by
 refine AK (vs := [_, _]) func113 rfl ntmps113 rfl ?_
 have M := CK w
 refine A4 (A0 (BD M (A9 rfl) rfl rfl 95 rfl rfl (Bd.cells x) rfl fun g2 w1 hg2 M => yb rfl (A1 (A2 (A4 (A0 (yb rfl (yl rfl rfl (M.cell 0 rfl rfl) (yl rfl rfl (Blk.c (hb.fr0 M.fr) 0 rfl) (ya rfl (DG rfl rfl rfl) (yb rfl (A1 (A2 ?_)))))))))))))
 exact AD (AH rfl rfl ⟨rfl, M.fr⟩)
theorem fJ (A : Option Addr) (cv : Nat) (vars : List Bd) (name : List UInt8) (w : World) (hvl : vars.length ≤ 4611686018427387904) (hV : Rd w A (vars.length * 5) (AR Bd.cells vars)) :
 Calls prog 57 #[.slice A vars.length cv, str name] w fun e w' => e = .returned (.tuple #[.agg (((KD vars name).getD zeroVl).cells).toArray, .bool (KD vars name).isSome]) ∧ Fr0 w w' := by
 refine AK (vs := [_, _]) func57 rfl ntmps57 rfl ?_
 have M := CK w
 refine A4 (A0 (BD M (A9 rfl) rfl rfl 9 rfl rfl ([str name]) rfl fun g3 w1 hg3 M => BI M (A9 rfl) rfl rfl 67 rfl [.int .u8 0, .int .i64 0, .bool false, str []] LW rfl fun g4 w2 hg4 M => yb rfl (A1 (A2 (A4 (A0 (yb rfl (ya rfl (CT (us := []) (vs := [pg g3]) rfl rfl rfl) (cl 9 rfl (AF rfl rfl call112) (PJ Bd.cells Bd.len A cv vars hvl 113 [pg g3] (fun (_ : Nat) (b : Bd) => !(!(decide (b.name = name)))) AB (fun _ _ => True) _ (GE call113 (fun x _ w9 hf9 => (cD g3 name x w9 ((M.blk 1 rfl).fr0 hf9)).mono fun _ _ ⟨h1, h2⟩ => ⟨by rw [h1, Bool.not_not], h2⟩)) (fun _ hf9 => (hV.fr0 M.fr).fr0 hf9) trivial) ?_)))))))))
 rintro _ w3 ⟨rfl, _, hfw3⟩
 refine ⟨_, rfl, ?_⟩
 have M := M.step hfw3
 refine yb rfl (A1 (A2 (A4 (A4 (A0 (yb rfl (ya rfl (CH rfl rfl rfl) (A1 (A2 (AQ (b := (decide ((ixJ (fun (_ : Nat) (b : Bd) => !(!(decide (b.name = name)))) 0 vars) < (0 : Int)))) rfl (fun h11 => ?_) (fun h11 => ?_)))))))))))
 ·have h11p := (odt h11)
  have hff := LQ (p := (fun (_ : Nat) (b : Bd) => !(decide (b.name = name)))) h11p
  exact A4 (A0 (ya rfl (BO (parts := []) rfl rfl (N5)) (B5 (cs' := [.int .u8 0, .int .i64 0, .bool false, str []]) M 0 (A9 rfl) rfl rfl rfl rfl rfl D2 rfl (AP rfl) (AW rfl) rfl fun w4 M => yb rfl (A1 (A2 (AD (AA (G3 rfl rfl (M.rdBlk 0 rfl rfl) underlying67 rfl D2 rfl ⟨by rw [KD, hff]; rfl, M.fr⟩))))))))
 ·have h11p := (odf h11)
  obtain ⟨j, x, hj, hx, hff⟩ := LR (p := (fun (_ : Nat) (b : Bd) => !(decide (b.name = name)))) h11p
  have hjl : j < vars.length := (List.getElem?_eq_some_iff.1 hx).1
  rw [hj]
  obtain ⟨b_x, o_x, hA_x⟩ := CL (k := 5) (by omega) (hV.fr0 M.fr) hx
  refine AL (A2 (A4 (A0 (yb rfl (yb rfl (ya rfl (BW j hA_x rfl rfl rfl (sl rfl) (by omega)) (yb rfl (ya rfl (AN (xs := Vl.cells x.v) rfl rfl (n7 Bd.len (hV.fr0 M.fr) hA_x hx 1 4 rfl rfl) underlying67 rfl D2) (B5 (cs' := (Vl.cells x.v)) M 0 (A9 rfl) rfl rfl rfl rfl rfl D2 rfl (AP rfl) (AW rfl) rfl fun w5 M => yb rfl (A1 (A2 (AD (G3 rfl rfl (M.rdBlk 0 rfl rfl) underlying67 rfl D2 rfl ?_)))))))))))))
  exact ⟨by rw [KD, hff]; rfl, M.fr⟩
theorem lZ (m : Md) (gc : Nat) (c : CrA) (F : List Nat) (via : List UInt8) (born : Int) (A : Option Addr) (cv : Nat) (vars : List Bd) (w : World) (hC : CourseN w m gc c F) (hvl : vars.length ≤ 4611686018427387904) (hV : Rd w A (vars.length * 5) (AR Bd.cells vars)) :
 Calls prog 19 #[pg gc, str via, .int .i64 born, .slice A vars.length cv] w fun e w' => e = .returned (.tuple #[.agg ((DL c via born vars).1.cells).toArray, .int .i64 (DL c via born vars).2]) ∧ Fr0 w w' := by
 refine AK (vs := [_, _, _, _]) func19 rfl ntmps19 rfl ?_
 have M := CK w
 refine A4 (A0 (BI M (A9 rfl) rfl rfl 39 rfl [str [], .int .u8 0, str [], str [], .int .i64 0] JX rfl fun g8 w1 hg8 M => yb rfl (A1 (A2 (A4 (A0 (yb rfl (yb rfl (yb rfl (yl rfl rfl (Blk.c ((hC.fr0 M.fr).blk) 5 rfl) (yb rfl (ya rfl (C2 rfl rfl rfl underlying55 underlying9 AY ((hC.fr0 M.fr).A) (hC.getA _)) (BI M (A9 rfl) rfl rfl 62 rfl [str [], str [], .int .u8 0, str [], str [], str [], .int .u8 0, str [], str [], .int .i64 0, .int .i64 0] AY rfl ?_)))))))))))))
 intro g10 w2 hg10 M
 refine B5 (cs' := (El.cells (c.atf via))) M 0 (A9 rfl) rfl rfl rfl rfl rfl AU rfl (AP rfl) (AW rfl) rfl fun w3 M => A1 (A2 (A4 (A0 (yb rfl (yb rfl (yl rfl rfl (M.cell 0 rfl rfl) (yb rfl (yl rfl rfl (M.cell 0 rfl rfl) (ya rfl (BO (parts := [(0, _), (1, _), (2, _)]) rfl rfl (N4 _ _ _)) (BI M (A9 rfl) rfl rfl 39 rfl [str [], .int .u8 0, str [], str [], .int .i64 0] JX rfl fun g11 w4 hg11 M => B5 (cs' := [str via, .int .u8 ((c.atf via).ev.toNat : Int), str ((c.atf via).ref), str [], .int .i64 0]) M 0 (A9 rfl) rfl rfl rfl rfl rfl CJ rfl (AP rfl) (AW rfl) rfl fun w5 M => ?_))))))))))
 refine A1 (A2 (A4 (A4 (A0 (yb rfl (yl rfl rfl (M.cell 1 rfl rfl) (A1 (A2 (AV (A4 (A0 (ya rfl (B9 rfl rfl rfl) (yb rfl (A1 (A2 ?_)))))))))))))))
 refine AQ (b := (decide (((c.atf via).ev.toNat : Int) = (1 : Int)))) rfl (fun h28 => ?_) (fun h28 => ?_)
 ·have h28p := (odt h28)
  refine A0 (yb rfl (yb rfl (yl rfl rfl (M.cell 1 rfl rfl) (ya rfl (pW rfl rfl rfl) (yb rfl (BQ (cs' := [str via, .int .u8 ((c.atf via).ev.toNat : Int), str ((c.atf via).ref), str [], .int .i64 ((IntKind.i64).wrap (born + (c.atf via).ticks))]) M 0 (A9 rfl) rfl rfl rfl rfl rfl rfl rfl FT (AZ rfl) rfl fun w6 M => A1 (AC (A2 (A4 (A0 (ya rfl (AN (xs := [str via, .int .u8 ((c.atf via).ev.toNat : Int), str ((c.atf via).ref), str [], .int .i64 ((IntKind.i64).wrap (born + (c.atf via).ticks))]) rfl rfl (M.rdBlk 0 rfl rfl) underlying39 rfl CJ) (B5 (cs' := [str via, .int .u8 ((c.atf via).ev.toNat : Int), str ((c.atf via).ref), str [], .int .i64 ((IntKind.i64).wrap (born + (c.atf via).ticks))]) M 2 (A9 rfl) rfl rfl rfl rfl rfl CJ rfl (AP rfl) (AW rfl) rfl fun w7 M => ?_))))))))))))
  exact yb rfl (A1 (A2 (AD (G3 rfl rfl (M.rdBlk 2 rfl rfl) underlying39 rfl CJ rfl ⟨by rw [DL, if_pos h28] <;> rfl, M.fr⟩))))
 ·have h28p := (odf h28)
  refine A4 (A0 (ya rfl (B9 rfl rfl rfl) (yb rfl (A1 (A2 (AQ (b := (decide (((c.atf via).ev.toNat : Int) = (2 : Int)))) rfl (fun h35 => ?_) (fun h35 => ?_)))))))
  ·have h35p := (odt h35)
   refine A4 (A0 (yb rfl (yb rfl (yl rfl rfl (M.cell 1 rfl rfl) (cp M 41 rfl (AF rfl rfl call57) (fJ A cv vars ((c.atf via).key) _ hvl (hV.fr0 M.fr)) fun w8 M => yb rfl (yb rfl (yb rfl (BI M (A9 rfl) rfl rfl 67 rfl [.int .u8 0, .int .i64 0, .bool false, str []] LW rfl fun g12 w9 hg12 M => B5 (cs' := (Vl.cells ((KD vars ((c.atf via).key)).getD zeroVl))) M 0 (A9 rfl) rfl rfl rfl rfl rfl D2 rfl (AP rfl) (AW rfl) rfl fun w10 M => yb rfl (A1 (A2 ?_))))))))))
   refine A4 (AV (A4 (A0 (yb rfl (yb rfl (yb rfl (A1 (A2 (AQ (b := (!(KD vars ((c.atf via).key)).isSome)) rfl (fun h44 => ?_) (fun h44 => ?_))))))))))
   ·have h44p := (C1 h44)
    exact A4 (A0 (ya rfl (BO (parts := []) rfl rfl (OY)) (B5 (cs' := [str [], .int .u8 0, str [], str [], .int .i64 0]) M 3 (A9 rfl) rfl rfl rfl rfl rfl CJ rfl (AP rfl) (AW rfl) rfl fun w11 M => yb rfl (A1 (A2 (AD (AJ (AA (AJ (AA (G3 rfl rfl (M.rdBlk 3 rfl rfl) underlying39 rfl CJ rfl ⟨by rw [DL, if_neg (BA h28), if_pos h35, if_pos h44] <;> rfl, M.fr⟩)))))))))))
   ·have h44p := (C3 h44)
    refine A4 (A0 (yb rfl (yl rfl rfl (M.cell 0 rfl rfl) (ya rfl (CX rfl rfl rfl) (yb rfl (A1 (A2 (AQ (b := (!decide ((((KD vars ((c.atf via).key)).getD zeroVl).kind.toNat : Int) = (3 : Int)))) rfl (fun h48 => ?_) (fun h48 => ?_)))))))))
    ·have h48p := (odf (C1 h48))
     exact A4 (A0 (ya rfl (BO (parts := []) rfl rfl (OY)) (B5 (cs' := [str [], .int .u8 0, str [], str [], .int .i64 0]) M 3 (A9 rfl) rfl rfl rfl rfl rfl CJ rfl (AP rfl) (AW rfl) rfl fun w12 M => yb rfl (A1 (A2 (AD (AJ (AA (AJ (AA (G3 rfl rfl (M.rdBlk 3 rfl rfl) underlying39 rfl CJ rfl ⟨by rw [DL, if_neg (BA h28), if_pos h35, if_neg (BA h44), if_pos h48] <;> rfl, M.fr⟩)))))))))))
    ·have h48p := (odt (C3 h48))
     refine AL (AC (A2 (A0 (yb rfl (yl rfl rfl (M.cell 0 rfl rfl) (yb rfl (BQ (cs' := [str via, .int .u8 ((c.atf via).ev.toNat : Int), str ((c.atf via).ref), str (((KD vars ((c.atf via).key)).getD zeroVl).text), .int .i64 0]) M 1 (A9 rfl) rfl rfl rfl rfl rfl rfl rfl EM (AZ rfl) rfl fun w13 M => A1 (AC (A2 (A4 (A0 (ya rfl (AN (xs := [str via, .int .u8 ((c.atf via).ev.toNat : Int), str ((c.atf via).ref), str (((KD vars ((c.atf via).key)).getD zeroVl).text), .int .i64 0]) rfl rfl (M.rdBlk 1 rfl rfl) underlying39 rfl CJ) (B5 (cs' := [str via, .int .u8 ((c.atf via).ev.toNat : Int), str ((c.atf via).ref), str (((KD vars ((c.atf via).key)).getD zeroVl).text), .int .i64 0]) M 3 (A9 rfl) rfl rfl rfl rfl rfl CJ rfl (AP rfl) (AW rfl) rfl ?_)))))))))))))
     intro w14 M
     exact yb rfl (A1 (A2 (AD (G3 rfl rfl (M.rdBlk 3 rfl rfl) underlying39 rfl CJ rfl ⟨by rw [DL, if_neg (BA h28), if_pos h35, if_neg (BA h44), if_neg (BA h48)] <;> rfl, M.fr⟩))))
  ·have h35p := (odf h35)
   exact AL (AC (A2 (A4 (A0 (ya rfl (AN (xs := [str via, .int .u8 ((c.atf via).ev.toNat : Int), str ((c.atf via).ref), str [], .int .i64 0]) rfl rfl (M.rdBlk 0 rfl rfl) underlying39 rfl CJ) (B5 (cs' := [str via, .int .u8 ((c.atf via).ev.toNat : Int), str ((c.atf via).ref), str [], .int .i64 0]) M 2 (A9 rfl) rfl rfl rfl rfl rfl CJ rfl (AP rfl) (AW rfl) rfl fun w15 M => yb rfl (A1 (A2 (AD (G3 rfl rfl (M.rdBlk 2 rfl rfl) underlying39 rfl CJ rfl ⟨by rw [DL, if_neg (BA h28), if_neg (BA h35)] <;> rfl, M.fr⟩))))))))))
end Go.Proofs.YtadgfojhjnkliaaGreatDoor
