/- Lemmas that the last text rests on. Condition: each says its own. -/
import Derived.Test.YtaheakjfkpkefaaGreatDoorYMv4
set_option maxHeartbeats 16000000
set_option maxRecDepth 100000
namespace Go.Proofs.YtaheakjfkpkefaaGreatDoor
open Go.RowKit
open Tryz
theorem XP {P : Program} {e : Env} {w : World} {o : Oper} {t t' : Nat} {a b : Int} {x y : Operand} (ho : o.op = .binOp .add t x y t') (hx : ev e x = some (AA a)) (hy : ev e y = some (AA b)) : Y P e o w (AA ((IntKind.i64).wrap (a + b))) := fun ρ h => by
 unfold execOp; simp [ho, h _ _ hx, h _ _ hy, eqGuard_at_int, binOp_add, Op.intArith]
theorem CourseN.fr0 {w w' : World} {m : Md} {gc : Nat} {c : CrA} {F : List Nat} (h : CourseN w m gc c F) (hf : Fr0 w w') : CourseN w' m gc c F := h.keep (fun g _ hg => hf.block g hg (fun hh => hh))
structure Tk where
 id : Int
 loc : List UInt8
 on : List UInt8
 born : Int
 tries : Int
 worker : List UInt8
 until_ : Int
 inc : UInt8
 err : Int
structure Wt where
 via : List UInt8
 ev : UInt8
 nm : List UInt8
 key : List UInt8
 due : Int
def Tk.cells (t : Tk) : List Value := [.int .i64 t.id, str t.loc, str t.on, .int .i64 t.born, .int .i64 t.tries, str t.worker, .int .i64 t.until_, .int .u8 (t.inc.toNat : Int), .int .i64 t.err]
def Wt.cells (t : Wt) : List Value := [str t.via, .int .u8 (t.ev.toNat : Int), str t.nm, str t.key, .int .i64 t.due]
theorem Tk.len (t : Tk) : t.cells.length = 9 := rfl
theorem Wt.len (t : Wt) : t.cells.length = 5 := rfl
def RT (vars : List Bd) (name : List UInt8) : Option Vl := (ffN (fun (_ : Nat) (b : Bd) => !(decide (b.name = name))) 0 vars).map (·.v)
def HO (c : CrA) (via : List UInt8) (born : Int) (vars : List Bd) : Wt × Int :=
 if (decide (((c.atf via).ev.toNat : Int) = (1 : Int))) = true then (⟨via, (c.atf via).ev, (c.atf via).ref, [], (IntKind.i64).wrap (born + (c.atf via).ticks)⟩, 0)
 else if (decide (((c.atf via).ev.toNat : Int) = (2 : Int))) = true then
  (if (!((RT vars (c.atf via).key).isSome)) = true then (⟨[], 0, [], [], 0⟩, 100)
  else if (!decide ((((RT vars (c.atf via).key).getD zeroVl).kind.toNat : Int) = (3 : Int))) = true then (⟨[], 0, [], [], 0⟩, 90)
  else (⟨via, (c.atf via).ev, (c.atf via).ref, ((RT vars (c.atf via).key).getD zeroVl).text, 0⟩, 0))
 else (⟨via, (c.atf via).ev, (c.atf via).ref, [], 0⟩, 0)
theorem PW  : prog.built 72 [] = some #[str [], .int .u8 0, str [], str [], AA 0] := by kernel_rfl
theorem OH (a0 : List UInt8) (a1 : Int) (a2 : List UInt8) : prog.built 72 [(0, str a0), (1, .int .u8 a1), (2, str a2)] = some #[str a0, .int .u8 a1, str a2, str [], AA 0] := by kernel_rfl
theorem CA : (prog.info? 72).map (·.size) = some 5 := by kernel_rfl
theorem NA : (prog.info? 100).map (·.zero) = some (some (.agg #[.int .u8 0, AA 0, .bool false, str []])) := by kernel_rfl
theorem KS : (prog.info? 72).map (·.zero) = some (some (.agg #[str [], .int .u8 0, str [], str [], AA 0])) := by kernel_rfl
theorem bF (g3 : Nat) (name : List UInt8) (x : Bd) (w : World) (hb : Blk w g3 9 [str name]) :
 Calls prog 179 #[.agg x.cells.toArray, pg g3] w (BN w (.bool (decide (x.name = name)))) := by
 refine BL func179 ntmps179 rfl fun M => srg (DD M rfl rfl fun g2 w1 hg2 M => AG rfl (AC rfl (B2 M 0 rfl rfl rfl (yl rfl rfl (Blk.c (hb.fr0 M.fr) 0 rfl) (ya rfl (CS rfl rfl rfl) (yb rfl (sxl_nil ?_)))))))
 exact qx_seq (sx_ret (gr1 rfl ⟨rfl, M.fr⟩))
theorem fE (A : Option Addr) (cv : Nat) (vars : List Bd) (name : List UInt8) (w : World) (hvl : vars.length ≤ 4611686018427387904) (hV : Rd w A (vars.length * 5) (AB Bd.cells vars)) :
 Calls prog 149 #[.slice A vars.length cv, str name] w (BN w (.tuple #[.agg (((RT vars name).getD zeroVl).cells).toArray, .bool (RT vars name).isSome])) := by
 refine BL func149 ntmps149 rfl fun M => srg (DB M (wn_none rfl) rfl rfl 9 rfl rfl ([str name]) rfl fun g3 w1 hg3 M => CO M rfl NA fun g4 w2 hg4 M => AG rfl (AC rfl (ya rfl (CE (us := []) (vs := [pg g3]) rfl rfl rfl) (cl 9 rfl (AE rfl rfl call159) (QH Bd.cells Bd.len A cv vars hvl 179 [pg g3] (fun (_ : Nat) (b : Bd) => !(!(decide (b.name = name)))) AM (fun _ _ => True) _ (G3 call179 (fun x _ w9 hf9 => (bF g3 name x w9 ((M.blk 1 rfl).fr0 hf9)).mono fun _ _ ⟨h1, h2⟩ => ⟨by rw [h1, Bool.not_not], h2⟩)) (fun _ hf9 => (hV.fr0 M.fr).fr0 hf9) trivial) ?_))))
 rintro _ w3 ⟨rfl, _, hfw3⟩
 refine ⟨_, rfl, ?_⟩
 have M := M.step hfw3
 refine AG rfl (sx_seq (AC rfl (BM rfl rfl (nq (AF rfl (fun h11 => ?_) (fun h11 => ?_))))))
 ·have h11p := (odt h11)
  have hff := MZ (p := (fun (_ : Nat) (b : Bd) => !(decide (b.name = name)))) h11p
  exact srg (ya rfl (AY (parts := []) rfl rfl (OI)) (C2 M 0 rfl rfl CT rfl fun w4 M => yb rfl (gnr (qx_then_ret (E3 rfl rfl (M.rdBlk 0 rfl rfl) underlying100 rfl CT rfl ⟨by rw [RT, hff]; rfl, M.fr⟩)))))
 ·have h11p := (odf h11)
  obtain ⟨j, x, hj, hx, hff⟩ := N0 (p := (fun (_ : Nat) (b : Bd) => !(decide (b.name = name)))) h11p
  have hjl : j < vars.length := (List.getElem?_eq_some_iff.1 hx).1
  rw [hj]
  obtain ⟨b_x, o_x, hA_x⟩ := B7 (k := 5) A0 (hV.fr0 M.fr) hx
  refine sx_skip (qx_seq (AC rfl (yb rfl (ya rfl (AP j hA_x rfl rfl rfl (sl rfl) A0) (yb rfl (ya rfl (AH (xs := Vl.cells x.v) rfl rfl (UI Bd.len (hV.fr0 M.fr) hA_x hx 1 4 rfl rfl) underlying100 rfl CT) (C2 M 0 rfl rfl CT rfl fun w5 M => yb rfl (gnr (E3 rfl rfl (M.rdBlk 0 rfl rfl) underlying100 rfl CT rfl ?_)))))))))
  exact ⟨by rw [RT, hff]; rfl, M.fr⟩
theorem mF (m : Md) (gc : Nat) (c : CrA) (F : List Nat) (via : List UInt8) (born : Int) (A : Option Addr) (cv : Nat) (vars : List Bd) (w : World) (hC : CourseN w m gc c F) (hvl : vars.length ≤ 4611686018427387904) (hV : Rd w A (vars.length * 5) (AB Bd.cells vars)) :
 Calls prog 91 #[pg gc, str via, AA born, .slice A vars.length cv] w (BN w (.tuple #[.agg ((HO c via born vars).1.cells).toArray, AA (HO c via born vars).2])) := by
 refine BL func91 ntmps91 rfl fun M => srg (CO M rfl KS fun g8 w1 hg8 M => AG rfl (AC rfl (AV rfl rfl (yl rfl rfl (Blk.c ((hC.fr0 M.fr).blk) 5 rfl) (yb rfl (ya rfl (BD rfl rfl rfl underlying85 underlying9 AQ ((hC.fr0 M.fr).A) (hC.getA _)) ?_))))))
 refine CO M rfl AQ fun g10 w2 hg10 M => C2 M 0 rfl rfl AK rfl fun w3 M => nq (AC rfl (yb rfl (B2 M 0 rfl rfl rfl (yb rfl (B2 M 0 rfl rfl rfl (ya rfl (AY (parts := [(0, _), (1, _), (2, _)]) rfl rfl (OH _ _ _)) (CO M rfl KS fun g11 w4 hg11 M => ?_)))))))
 refine C2 M 0 rfl rfl CA rfl fun w5 M => nq (sx_seq (AC rfl (B2 M 1 rfl rfl rfl (nq (sx_block (srg (C7 rfl rfl (yb rfl ?_))))))))
 refine nq (AF rfl (fun h28 => ?_) (fun h28 => ?_))
 ·refine sx_region (AV rfl rfl (B2 M 1 rfl rfl rfl (ya rfl (XP rfl rfl rfl) (yb rfl (gp1 M 0 rfl rfl rfl FW fun w6 M => sxl_nil (qx_block_normal (qx_seq (srg (DO M 0 rfl rfl underlying72 CA rfl (C2 M 2 rfl rfl CA rfl fun w7 M => ?_))))))))))
  exact yb rfl (gnr (E3 rfl rfl (M.rdBlk 2 rfl rfl) underlying72 rfl CA rfl ⟨by rw [HO, if_pos h28] <;> rfl, M.fr⟩))
 ·refine srg (C7 rfl rfl (AG rfl (AF rfl (fun h35 => ?_) (fun h35 => ?_))))
  ·refine AC rfl (yb rfl (B2 M 1 rfl rfl rfl (DV M 41 rfl rfl call149 (fE A cv vars ((c.atf via).key) _ hvl (hV.fr0 M.fr)) fun w8 M => AV rfl rfl (yb rfl (CO M rfl NA fun g12 w9 hg12 M => C2 M 0 rfl rfl CT rfl fun w10 M => AG rfl ?_)))))
   refine sx_seq (sx_block (AC rfl (yb rfl (AG rfl (AF rfl (fun h44 => ?_) (fun h44 => ?_))))))
   ·exact srg (ya rfl (AY (parts := []) rfl rfl (PW)) (C2 M 3 rfl rfl CA rfl fun w11 M => yb rfl (gnr (qx_block_ret (qx_then_ret (qx_block_ret (qx_then_ret (E3 rfl rfl (M.rdBlk 3 rfl rfl) underlying72 rfl CA rfl ⟨by rw [HO, AS h28, if_pos h35, if_pos h44] <;> rfl, M.fr⟩))))))))
   ·refine AC rfl (B2 M 0 rfl rfl rfl (FT rfl rfl (AG rfl (AF rfl (fun h48 => ?_) (fun h48 => ?_)))))
    ·exact srg (ya rfl (AY (parts := []) rfl rfl (PW)) (C2 M 3 rfl rfl CA rfl fun w12 M => yb rfl (gnr (qx_block_ret (qx_then_ret (qx_block_ret (qx_then_ret (E3 rfl rfl (M.rdBlk 3 rfl rfl) underlying72 rfl CA rfl ⟨by rw [HO, AS h28, if_pos h35, AS h44, if_pos h48] <;> rfl, M.fr⟩))))))))
    ·refine sx_skip (qx_block_normal (qx_seq (sx_region (yb rfl (B2 M 0 rfl rfl rfl (yb rfl (gp1 M 1 rfl rfl rfl FN fun w13 M => sxl_nil (qx_block_normal (qx_seq (srg (ya rfl (AH (xs := [str via, .int .u8 ((c.atf via).ev.toNat : Int), str ((c.atf via).ref), str (((RT vars ((c.atf via).key)).getD zeroVl).text), AA 0]) rfl rfl (M.rdBlk 1 rfl rfl) underlying72 rfl CA) (C2 M 3 rfl rfl CA rfl ?_))))))))))))
     intro w14 M
     exact yb rfl (gnr (E3 rfl rfl (M.rdBlk 3 rfl rfl) underlying72 rfl CA rfl ⟨by rw [HO, AS h28, if_pos h35, AS h44, AS h48] <;> rfl, M.fr⟩))
  ·exact sx_skip (qx_block_normal (qx_seq (srg (DO M 0 rfl rfl underlying72 CA rfl (C2 M 2 rfl rfl CA rfl fun w15 M => yb rfl (gnr (E3 rfl rfl (M.rdBlk 2 rfl rfl) underlying72 rfl CA rfl ⟨by rw [HO, AS h28, AS h35] <;> rfl, M.fr⟩)))))))
end Go.Proofs.YtaheakjfkpkefaaGreatDoor
