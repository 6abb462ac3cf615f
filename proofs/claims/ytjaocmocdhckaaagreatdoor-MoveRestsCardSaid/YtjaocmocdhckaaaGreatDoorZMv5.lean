/- Lemmas that the last text rests on. Condition: each says its own. -/
import Derived.Test.YtjaocmocdhckaaaGreatDoorZMv4
set_option maxHeartbeats 16000000
set_option maxRecDepth 100000
namespace Go.Proofs.YtjaocmocdhckaaaGreatDoor
open Go.RowKit
open Tryz
theorem eE {P : Program} {e : Env} {w : World} {o : Oper} {t t' : Nat} {a b : Int} {x y : Operand} (ho : o.op = .binOp .add t x y t') (hx : ev e x = some (AJ a)) (hy : ev e y = some (AJ b)) : Y P e o w (AJ ((IntKind.i64).wrap (a + b))) := fun ρ h => by
 unfold execOp; simp [ho, h _ _ hx, h _ _ hy, eqGuard_at_int, binOp_add, Op.intArith]
theorem CourseN.fr0 {w w' : World} {m : Md} {gc : Nat} {c : CrA} {F : List Nat} (h : CourseN w m gc c F) (hf : Fr0 w w') : CourseN w' m gc c F := h.keep (fun g _ hg => hf.block g hg (fun hh => hh))
structure Tk where
 id : Int
 loc : List UInt8
 on : List UInt8
 born : Int
 tries : Int
 worker : List UInt8
 until_ : Int
 inc : UInt8
 err : Int
structure Wt where
 via : List UInt8
 ev : UInt8
 nm : List UInt8
 key : List UInt8
 due : Int
def Tk.cells (t : Tk) : List Value := [.int .i64 t.id, str t.loc, str t.on, .int .i64 t.born, .int .i64 t.tries, str t.worker, .int .i64 t.until_, .int .u8 (t.inc.toNat : Int), .int .i64 t.err]
def Wt.cells (t : Wt) : List Value := [str t.via, .int .u8 (t.ev.toNat : Int), str t.nm, str t.key, .int .i64 t.due]
theorem Tk.len (t : Tk) : t.cells.length = 9 := rfl
theorem Wt.len (t : Wt) : t.cells.length = 5 := rfl
def N3 (vars : List Bd) (name : List UInt8) : Option Vl := (ffN (fun (_ : Nat) (b : Bd) => !(decide (b.name = name))) 0 vars).map (·.v)
def IG (c : CrA) (via : List UInt8) (born : Int) (vars : List Bd) : Wt × Int :=
 if (decide (((c.atf via).ev.toNat : Int) = (1 : Int))) = true then (⟨via, (c.atf via).ev, (c.atf via).ref, [], (IntKind.i64).wrap (born + (c.atf via).ticks)⟩, 0)
 else if (decide (((c.atf via).ev.toNat : Int) = (2 : Int))) = true then
  (if (!((N3 vars (c.atf via).key).isSome)) = true then (⟨[], 0, [], [], 0⟩, 100)
  else if (!decide ((((N3 vars (c.atf via).key).getD zeroVl).kind.toNat : Int) = (3 : Int))) = true then (⟨[], 0, [], [], 0⟩, 90)
  else (⟨via, (c.atf via).ev, (c.atf via).ref, ((N3 vars (c.atf via).key).getD zeroVl).text, 0⟩, 0))
 else (⟨via, (c.atf via).ev, (c.atf via).ref, [], 0⟩, 0)
theorem QC  : prog.built 54 [] = some #[str [], .int .u8 0, str [], str [], AJ 0] := by kernel_rfl
theorem P8 (a0 : List UInt8) (a1 : Int) (a2 : List UInt8) : prog.built 54 [(0, str a0), (1, .int .u8 a1), (2, str a2)] = some #[str a0, .int .u8 a1, str a2, str [], AJ 0] := by kernel_rfl
theorem DB : (prog.info? 54).map (·.size) = some 5 := by kernel_rfl
theorem BR : (prog.info? 45).map (·.zero) = some (some (.agg #[.int .u8 0, AJ 0, .bool false, str []])) := by kernel_rfl
theorem LN : (prog.info? 54).map (·.zero) = some (some (.agg #[str [], .int .u8 0, str [], str [], AJ 0])) := by kernel_rfl
theorem bC (g3 : Nat) (name : List UInt8) (x : Bd) (w : World) (hb : Blk w g3 9 [str name]) :
 Calls prog 127 #[.agg x.cells.toArray, pg g3] w (CG w (.bool (decide (x.name = name)))) := by
 refine C5 func127 ntmps127 rfl fun M => srg (CR M rfl rfl fun g2 w1 hg2 M => AY rfl (AQ rfl (BC M 0 rfl rfl rfl (yl rfl rfl (Blk.c (hb.fr0 M.fr) 0 rfl) (ya rfl (DM rfl rfl rfl) (yb rfl (AR ?_)))))))
 exact AD (BN (gr1 rfl ⟨rfl, M.fr⟩))
theorem R2 (A : Option Addr) (cv : Nat) (vars : List Bd) (name : List UInt8) (w : World) (hvl : vars.length ≤ 4611686018427387904) (hV : Rd w A (vars.length * 5) (AH Bd.cells vars)) :
 Calls prog 71 #[.slice A vars.length cv, str name] w (CG w (.tuple #[.agg (((N3 vars name).getD zeroVl).cells).toArray, .bool (N3 vars name).isSome])) := by
 refine C5 func71 ntmps71 rfl fun M => srg (E3 M (AA rfl) rfl rfl 9 rfl rfl ([str name]) rfl fun g3 w1 hg3 M => DC M rfl BR fun g4 w2 hg4 M => AY rfl (AQ rfl (ya rfl (DE (us := []) (vs := [pg g3]) rfl rfl rfl) (cl 9 rfl (AP rfl rfl call126) (QR Bd.cells Bd.len A cv vars hvl 127 [pg g3] (fun (_ : Nat) (b : Bd) => !(!(decide (b.name = name)))) B0 (fun _ _ => True) _ (GN call127 (fun x _ w9 hf9 => (bC g3 name x w9 ((M.blk 1 rfl).fr0 hf9)).mono fun _ _ ⟨h1, h2⟩ => ⟨by rw [h1, Bool.not_not], h2⟩)) (fun _ hf9 => (hV.fr0 M.fr).fr0 hf9) trivial) ?_))))
 rintro _ w3 ⟨rfl, _, hfw3⟩
 refine ⟨_, rfl, ?_⟩
 have M := M.step hfw3
 refine AY rfl (AF (AQ rfl (CF rfl rfl (nq (AL rfl (fun h11 => ?_) (fun h11 => ?_))))))
 ·have h11p := (odt h11)
  have hff := NT (p := (fun (_ : Nat) (b : Bd) => !(decide (b.name = name)))) h11p
  exact srg (ya rfl (BA (parts := []) rfl rfl (C8)) (C4 M 0 rfl rfl AC rfl fun w4 M => yb rfl (gnr (AB (B9 rfl rfl (M.rdBlk 0 rfl rfl) underlying45 rfl AC rfl ⟨by rw [N3, hff]; rfl, M.fr⟩)))))
 ·have h11p := (odf h11)
  obtain ⟨j, x, hj, hx, hff⟩ := NU (p := (fun (_ : Nat) (b : Bd) => !(decide (b.name = name)))) h11p
  have hjl : j < vars.length := (List.getElem?_eq_some_iff.1 hx).1
  rw [hj]
  obtain ⟨b_x, o_x, hA_x⟩ := BI (k := 5) AM (hV.fr0 M.fr) hx
  refine AI (AD (AQ rfl (yb rfl (ya rfl (B1 j hA_x rfl rfl rfl (sl rfl) AM) (yb rfl (ya rfl (AU (xs := Vl.cells x.v) rfl rfl (UJ Bd.len (hV.fr0 M.fr) hA_x hx 1 4 rfl rfl) underlying45 rfl AC) (C4 M 0 rfl rfl AC rfl fun w5 M => yb rfl (gnr (B9 rfl rfl (M.rdBlk 0 rfl rfl) underlying45 rfl AC rfl ?_)))))))))
  exact ⟨by rw [N3, hff]; rfl, M.fr⟩
theorem lM (m : Md) (gc : Nat) (c : CrA) (F : List Nat) (via : List UInt8) (born : Int) (A : Option Addr) (cv : Nat) (vars : List Bd) (w : World) (hC : CourseN w m gc c F) (hvl : vars.length ≤ 4611686018427387904) (hV : Rd w A (vars.length * 5) (AH Bd.cells vars)) :
 Calls prog 32 #[pg gc, str via, AJ born, .slice A vars.length cv] w (CG w (.tuple #[.agg ((IG c via born vars).1.cells).toArray, AJ (IG c via born vars).2])) := by
 refine C5 func32 ntmps32 rfl fun M => srg (DC M rfl LN fun g8 w1 hg8 M => AY rfl (AQ rfl (BM rfl rfl (yl rfl rfl (Blk.c ((hC.fr0 M.fr).blk) 5 rfl) (yb rfl (ya rfl (BT rfl rfl rfl underlying62 underlying9 B6 ((hC.fr0 M.fr).A) (hC.getA _)) ?_))))))
 refine DC M rfl B6 fun g10 w2 hg10 M => C4 M 0 rfl rfl B2 rfl fun w3 M => nq (AQ rfl (yb rfl (BC M 0 rfl rfl rfl (yb rfl (BC M 0 rfl rfl rfl (ya rfl (BA (parts := [(0, _), (1, _), (2, _)]) rfl rfl (P8 _ _ _)) (DC M rfl LN fun g11 w4 hg11 M => ?_)))))))
 refine C4 M 0 rfl rfl DB rfl fun w5 M => nq (AF (AQ rfl (BC M 1 rfl rfl rfl (nq (AS (srg (CN rfl rfl (yb rfl ?_))))))))
 refine nq (AL rfl (fun h28 => ?_) (fun h28 => ?_))
 ·refine AK (BM rfl rfl (BC M 1 rfl rfl rfl (ya rfl (eE rfl rfl rfl) (yb rfl (gp1 M 0 rfl rfl rfl GQ fun w6 M => AR (AE (AD (srg (CW M 0 rfl rfl underlying54 DB rfl (C4 M 2 rfl rfl DB rfl fun w7 M => ?_))))))))))
  exact yb rfl (gnr (B9 rfl rfl (M.rdBlk 2 rfl rfl) underlying54 rfl DB rfl ⟨by rw [IG, if_pos h28] <;> rfl, M.fr⟩))
 ·refine srg (CN rfl rfl (AY rfl (AL rfl (fun h35 => ?_) (fun h35 => ?_))))
  ·refine AQ rfl (yb rfl (BC M 1 rfl rfl rfl (D4 M 41 rfl rfl call71 (R2 A cv vars ((c.atf via).key) _ hvl (hV.fr0 M.fr)) fun w8 M => BM rfl rfl (yb rfl (DC M rfl BR fun g12 w9 hg12 M => C4 M 0 rfl rfl AC rfl fun w10 M => AY rfl ?_)))))
   refine AF (AS (AQ rfl (yb rfl (AY rfl (AL rfl (fun h44 => ?_) (fun h44 => ?_))))))
   ·exact srg (ya rfl (BA (parts := []) rfl rfl (QC)) (C4 M 3 rfl rfl DB rfl fun w11 M => yb rfl (gnr (AN (AB (AN (AB (B9 rfl rfl (M.rdBlk 3 rfl rfl) underlying54 rfl DB rfl ⟨by rw [IG, AT h28, if_pos h35, if_pos h44] <;> rfl, M.fr⟩))))))))
   ·refine AQ rfl (BC M 0 rfl rfl rfl (DA rfl rfl (AY rfl (AL rfl (fun h48 => ?_) (fun h48 => ?_)))))
    ·exact srg (ya rfl (BA (parts := []) rfl rfl (QC)) (C4 M 3 rfl rfl DB rfl fun w12 M => yb rfl (gnr (AN (AB (AN (AB (B9 rfl rfl (M.rdBlk 3 rfl rfl) underlying54 rfl DB rfl ⟨by rw [IG, AT h28, if_pos h35, AT h44, if_pos h48] <;> rfl, M.fr⟩))))))))
    ·refine AI (AE (AD (AK (yb rfl (BC M 0 rfl rfl rfl (yb rfl (gp1 M 1 rfl rfl rfl G5 fun w13 M => AR (AE (AD (srg (ya rfl (AU (xs := [str via, .int .u8 ((c.atf via).ev.toNat : Int), str ((c.atf via).ref), str (((N3 vars ((c.atf via).key)).getD zeroVl).text), AJ 0]) rfl rfl (M.rdBlk 1 rfl rfl) underlying54 rfl DB) (C4 M 3 rfl rfl DB rfl ?_))))))))))))
     intro w14 M
     exact yb rfl (gnr (B9 rfl rfl (M.rdBlk 3 rfl rfl) underlying54 rfl DB rfl ⟨by rw [IG, AT h28, if_pos h35, AT h44, AT h48] <;> rfl, M.fr⟩))
  ·exact AI (AE (AD (srg (CW M 0 rfl rfl underlying54 DB rfl (C4 M 2 rfl rfl DB rfl fun w15 M => yb rfl (gnr (B9 rfl rfl (M.rdBlk 2 rfl rfl) underlying54 rfl DB rfl ⟨by rw [IG, AT h28, AT h35] <;> rfl, M.fr⟩)))))))
end Go.Proofs.YtjaocmocdhckaaaGreatDoor
