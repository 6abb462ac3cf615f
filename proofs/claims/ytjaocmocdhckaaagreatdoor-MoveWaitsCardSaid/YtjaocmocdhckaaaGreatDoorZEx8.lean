/- Lemmas that the last text rests on. Condition: each says its own. -/
import Derived.Test.YtjaocmocdhckaaaGreatDoorZb6
import Derived.Test.YtjaocmocdhckaaaGreatDoorZRu0
set_option maxHeartbeats 16000000
set_option maxRecDepth 100000
namespace Go.Proofs.YtjaocmocdhckaaaGreatDoor
open Go.RowKit
open Tryz
section
variable {P : Program} {ops : Array Oper} {Q : Exit → Act → World → Prop} {S : World → Prop} {t n f : Nat} {listed : Array Bool} {e : Env} {w : World}
end
theorem C4  : prog.built 45 [] = some #[.int .u8 0, .int .i64 0, .bool false, str []] := by kernel_rfl
def MR (op : UInt8) : Int := (if ((decide ((op.toNat : Int) < (1 : Int))) || (decide ((17 : Int) < (op.toNat : Int)))) = true then (-1) else (if (decide ((op.toNat : Int) ≤ (2 : Int))) = true then 0 else (if (decide ((op.toNat : Int) ≤ (4 : Int))) = true then 1 else 2)))
theorem mI (op : UInt8) (w : World) : Calls prog 174 #[.int .u8 (op.toNat : Int)] w fun e w' => e = .returned (.int .i64 (MR op)) ∧ Fr0 w w' := by
 refine C2 func174 ntmps174 rfl fun M => AD (AB (yb rfl (AC (AA (AD (AR (AD (AB (yb rfl (CB rfl rfl (yb rfl (fvm M 3 [0] [(9, .bool ((decide ((op.toNat : Int) < (1 : Int))) || (decide ((17 : Int) < (op.toNat : Int)))))] ?_ (fun k6 => ?_)))))))))))))
 ·intro w1 M
  refine yb rfl (AC (AA (AN rfl (fun h3 => ?_) (fun h3 => ?_))))
  ·have h3p := ((EJ h3).imp (fun z => (odt z)) (fun z => (odt z)))
   exact srg (yb rfl (nq (AI (AM (AE (gr1 rfl ⟨by rw [MR, if_pos h3], M.fr⟩))))))
  ·refine AD (AB (yb rfl (RA rfl rfl (yb rfl (AC (AA (AN rfl (fun h10 => ?_) (fun h10 => ?_))))))))
   ·exact srg (yb rfl (nq (AI (AM (AE (gr1 rfl ⟨by rw [MR, if_neg (AS h3), if_pos h10], M.fr⟩))))))
   ·refine AD (AB (yb rfl (RA rfl rfl (yb rfl (AC (AA (AN rfl (fun h13 => ?_) (fun h13 => ?_))))))))
    ·exact srg (yb rfl (nq (AI (AM (AE (gr1 rfl ⟨by rw [MR, if_neg (AS h3), if_neg (AS h10), if_pos h13], M.fr⟩))))))
    ·exact AL (AH (AA (srg (yb rfl (nq (AI (gr1 rfl ⟨by rw [MR, if_neg (AS h3), if_neg (AS h10), if_neg (AS h13)], M.fr⟩)))))))
 refine AP (d := 6) rfl (fun h6 => ?_) (fun h6 => ?_)
 ·exact yo rfl (yo rfl (yb rfl (k6 M ⟨rfl, (by rw [h6]; rfl), trivial⟩)))
 ·exact gyq rfl (yd rfl (G6 rfl rfl rfl) (yb rfl (k6 M ⟨rfl, (by rw [h6]; rfl), trivial⟩)))
def J2 (n : Xn) (k : Bool) : Bool := (if (!decide (((n.nk : Nat) : Int) = (MR n.op))) = true then false else (if (!decide ((n.op.toNat : Int) = (1 : Int))) = true then (if (!(n.vl.same zeroVl)) = true then false else (if (!decide ((n.op.toNat : Int) = (2 : Int))) = true then (if (!decide (n.nm = [])) = true then false else (if (((decide ((n.op.toNat : Int) = (1 : Int))) && ((!decide ((chk n.vl) = (0 : Int))) || (decide (n.vl.int < (0 : Int))))) || ((decide ((n.op.toNat : Int) = (2 : Int))) && ((!(CP n.nm)) || (JK n.nm)))) = true then false else (!k))) else (if (((decide ((n.op.toNat : Int) = (1 : Int))) && ((!decide ((chk n.vl) = (0 : Int))) || (decide (n.vl.int < (0 : Int))))) || ((decide ((n.op.toNat : Int) = (2 : Int))) && ((!(CP n.nm)) || (JK n.nm)))) = true then false else (!k)))) else (if (!decide ((n.op.toNat : Int) = (2 : Int))) = true then (if (!decide (n.nm = [])) = true then false else (if (((decide ((n.op.toNat : Int) = (1 : Int))) && ((!decide ((chk n.vl) = (0 : Int))) || (decide (n.vl.int < (0 : Int))))) || ((decide ((n.op.toNat : Int) = (2 : Int))) && ((!(CP n.nm)) || (JK n.nm)))) = true then false else (!k))) else (if (((decide ((n.op.toNat : Int) = (1 : Int))) && ((!decide ((chk n.vl) = (0 : Int))) || (decide (n.vl.int < (0 : Int))))) || ((decide ((n.op.toNat : Int) = (2 : Int))) && ((!(CP n.nm)) || (JK n.nm)))) = true then false else (!k)))))
theorem nI (n : Xn) (A : Option Addr) (k : Bool) (w : World) (hs : n.sm 1048576) (hU : Laid w utfL) (hC : ∀ W, Fr0 w W → Calls prog 175 #[.slice A n.nk n.nk, .func (.func 176) #[] #[]] W fun e W' => e = .returned (.bool k) ∧ Fr0 W W') :
 Calls prog 155 #[.agg (n.cells A).toArray] w fun e w' => e = .returned (.bool (J2 n k)) ∧ Fr0 w w' := by
 refine C2 func155 ntmps155 rfl fun M => srg (CN M rfl rfl fun g1 w1 hg1 M => yb rfl (nq (AD (AD (CO 28 (fun w' => Mem w AV [As.blk g1 75 (Xn.cells n A)] w') CU ?_)))))
 have M := M.drew
 refine oc 0 28 rfl rfl M (ol 1 28 rfl rfl rfl M (fun _ M => (M.cell 0 rfl rfl)) (oa 2 28 rfl rfl M (fun _ M => C7 rfl rfl (sl rfl)) (oc 3 28 rfl rfl M (ol 4 28 rfl rfl rfl M (fun _ M => (M.cell 0 rfl rfl)) (C0 5 (some 8) gkr rfl (AF rfl) rfl rfl (AQ rfl rfl call174) (mI _ _) ?_)))))
 rintro _ w2 ⟨rfl, hfw2⟩
 refine ⟨_, rfl, fun _ => M.step hfw2, ?_⟩
 have M := M.step hfw2
 refine oa 6 28 rfl rfl M (fun _ M => DC rfl rfl rfl) (oc 7 28 rfl rfl M (EH (d := 10) rfl (fun h10 => ?_) (fun h10 => ?_)))
 ·refine C5 8 28 rfl M (C5 9 28 rfl M (C5 10 28 rfl M (C5 11 28 rfl M (EM 12 28 rfl rfl M (EM 13 28 rfl rfl M (EM 14 28 rfl rfl M (EM 15 28 rfl rfl M (C5 16 28 rfl M (oc 17 28 rfl rfl M (oc 18 28 rfl rfl M (C5 19 28 rfl M (C5 20 28 rfl M (C5 21 28 rfl M (C5 22 28 rfl M (EM 23 28 rfl rfl M ?_)))))))))))))))
  exact EM 24 28 rfl rfl M (EM 25 28 rfl rfl M (C5 26 28 rfl M (oc 27 28 rfl rfl M (fdn (AA (EA rfl (srg (yb rfl (nq (AI (AE (gr1 rfl ⟨by rw [J2, if_pos h10], M.fr⟩))))))))))))
 ·have h10p := (odt (BM h10))
  refine ob 8 28 rfl (BD rfl rfl rfl) rfl rfl M (fun _ M => yp rfl) (ob 9 28 rfl (BD rfl rfl rfl) rfl rfl M (fun _ M => BU rfl rfl (sc rfl) (M.cell 0 rfl rfl)) (ob 10 28 rfl (BD rfl rfl rfl) rfl rfl M (fun _ M => DC rfl rfl rfl) (ob 11 28 rfl (BD rfl rfl rfl) rfl rfl M (fun _ M => yp rfl) (EH (d := 14) rfl (fun h14 => ?_) (fun h14 => ?_)))))
  ·have h14p := (odf (CE h14))
   refine ob 12 28 rfl (BD rfl rfl rfl) rfl rfl M (fun _ M => yp rfl) (ob 13 28 rfl (BD rfl rfl rfl) rfl rfl M (fun _ M => AT (xs := [.int .u8 (n.vl.kind.toNat : Int), .int .i64 n.vl.int, .bool n.vl.bool, str n.vl.text]) rfl rfl (FU (M.blk 0 rfl) 1 4 rfl rfl) underlying45 rfl AG) (ob 14 28 rfl (BD rfl rfl rfl) rfl rfl M (fun _ M => B9 (parts := []) rfl rfl (C4)) (ob 15 28 rfl (BD rfl rfl rfl) rfl rfl M (fun _ M => kE (a := n.vl) (b := zeroVl) rfl rfl rfl) (ob 16 28 rfl (BD rfl rfl rfl) rfl rfl M (fun _ M => yp rfl) (oc 17 28 rfl rfl M (oc 18 28 rfl rfl M (EH (d := 21) rfl (fun h21 => ?_) (fun h21 => ?_))))))))
   ·refine C5 19 28 rfl M (C5 20 28 rfl M (C5 21 28 rfl M (C5 22 28 rfl M (EM 23 28 rfl rfl M (EM 24 28 rfl rfl M (EM 25 28 rfl rfl M (C5 26 28 rfl M (oc 27 28 rfl rfl M (fdn (AA (EA rfl (srg (yb rfl (AC ?_))))))))))))))
    exact AA (AI (AE (gr1 rfl ⟨by rw [J2, if_neg (AS h10), if_pos h14, if_pos h21], M.fr⟩)))
   ·refine ob 19 28 rfl (BD rfl rfl rfl) rfl rfl M (fun _ M => yp rfl) (ob 20 28 rfl (BD rfl rfl rfl) rfl rfl M (fun _ M => BU rfl rfl (sc rfl) (M.cell 0 rfl rfl)) (ob 21 28 rfl (BD rfl rfl rfl) rfl rfl M (fun _ M => DC rfl rfl rfl) (ob 22 28 rfl (BD rfl rfl rfl) rfl rfl M (fun _ M => yp rfl) (EH (d := 25) rfl (fun h25 => ?_) (fun h25 => ?_)))))
    ·have h25p := (odf (CE h25))
     refine ob 23 28 rfl (BD rfl rfl rfl) rfl rfl M (fun _ M => yp rfl) (ob 24 28 rfl (BD rfl rfl rfl) rfl rfl M (fun _ M => BU rfl rfl (sc rfl) (M.cell 0 rfl rfl)) (ob 25 28 rfl (BD rfl rfl rfl) rfl rfl M (fun _ M => GK rfl rfl rfl) (ob 26 28 rfl (BD rfl rfl rfl) rfl rfl M (fun _ M => yp rfl) (oc 27 28 rfl rfl M (fdn (AA (AN rfl (fun h30 => ?_) (fun h30 => ?_))))))))
     ·exact srg (yb rfl (nq (AI (AE (gr1 rfl ⟨by rw [J2, if_neg (AS h10), if_pos h14, if_neg (AS h21), if_pos h25, if_pos h30], M.fr⟩)))))
     ·have h30p := (odt (BM h30))
      refine AL (AA (AD (AD (AB (yb rfl (BA M 0 rfl rfl rfl (CI rfl rfl (yb rfl (fvm M 11 [1] [(45, .bool ((decide ((n.op.toNat : Int) = (1 : Int))) && ((!decide ((chk n.vl) = (0 : Int))) || (decide (n.vl.int < (0 : Int))))))] ?_ (fun k34 => ?_))))))))))
      ·intro w3 M
       refine yb rfl (fvm M 15 [1] [(61, .bool (((decide ((n.op.toNat : Int) = (1 : Int))) && ((!decide ((chk n.vl) = (0 : Int))) || (decide (n.vl.int < (0 : Int))))) || ((decide ((n.op.toNat : Int) = (2 : Int))) && ((!(CP n.nm)) || (JK n.nm)))))] ?_ (fun k46 => ?_))
       ·intro w4 M
        refine AC (AA (AN rfl (fun h61 => ?_) (fun h61 => ?_)))
        ·have h61p := ((EJ h61).imp (fun z => (And.intro (odt (CF z).1) ((EJ (CF z).2).imp (fun z => (odf (CE z))) (fun z => (odt z))))) (fun z => (And.intro (odt (CF z).1) ((EJ (CF z).2).imp (fun z => (CE z)) (fun z => z)))))
         exact srg (yb rfl (nq (AI (AE (gr1 rfl ⟨by rw [J2, if_neg (AS h10), if_pos h14, if_neg (AS h21), if_pos h25, if_neg (AS h30), if_pos h61], M.fr⟩)))))
        ·have h61p := (And.intro ((DM (CL h61).1).imp (fun z => (odf z)) (fun z => (And.intro (odt (BM (CL z).1)) (odf (CL z).2)))) ((DM (CL h61).2).imp (fun z => (odf z)) (fun z => (And.intro (BM (CL z).1) (CL z).2))))
         exact AL (AA (srg (yb rfl (BA M 0 rfl rfl rfl (D1 M 64 rfl rfl call175 (hC _ M.fr) fun w5 M => yb rfl (yb rfl (nq (AI (gr1 rfl ⟨by rw [J2, if_neg (AS h10), if_pos h14, if_neg (AS h21), if_pos h25, if_neg (AS h30), if_neg (AS h61)], M.fr⟩)))))))))
       refine AP (d := 46) rfl (fun h46 => ?_) (fun h46 => ?_)
       ·iterate 4 refine yo rfl ?_
        iterate 9 refine BS rfl rfl rfl rfl rfl ?_
        exact yo rfl (yb rfl (k46 M ⟨rfl, (by rw [h46]; rfl), trivial⟩))
       ·refine gyq rfl (CH M 0 rfl rfl rfl (yd rfl (C3 rfl rfl rfl) (gyq rfl (fvm M 10 [46, 1] [(60, .bool ((decide ((n.op.toNat : Int) = (2 : Int))) && ((!(CP n.nm)) || (JK n.nm))))] ?_ (fun k50 => ?_)))))
        ·intro w6 M
         exact yb rfl (k46 M ⟨rfl, (by rw [h46]; rfl), trivial⟩)
        refine AP (d := 50) rfl (fun h50 => ?_) (fun h50 => ?_)
        ·refine gyq rfl (CH M 0 rfl rfl rfl (B0 (some 53) (BD rfl rfl rfl) rfl rfl (AQ rfl rfl call67) (EE n.nm _ (by have := n.sm_nm hs; omega)) ?_))
         rintro _ w7 ⟨rfl, hfw7⟩
         refine ⟨_, rfl, ?_⟩
         have M := M.step hfw7
         refine gyq rfl (gyq rfl (fvm M 4 [50, 46, 1] [(59, .bool ((!(CP n.nm)) || (JK n.nm)))] ?_ (fun k55 => ?_)))
         ·intro w8 M
          exact gyq rfl (k50 M ⟨rfl, rfl, (by rw [h50]; rfl), trivial⟩)
         refine AP (d := 55) rfl (fun h55 => ?_) (fun h55 => ?_)
         ·exact yo rfl (yo rfl (yo rfl (gyq rfl (k55 M ⟨rfl, rfl, rfl, (by rw [h55]; rfl), trivial⟩))))
         ·refine gyq rfl (CH M 0 rfl rfl rfl (B0 (some 58) (BD rfl rfl rfl) rfl rfl (AQ rfl rfl call143) (O8 n.nm _) ?_))
          rintro _ w9 ⟨rfl, hfw9⟩
          refine ⟨_, rfl, ?_⟩
          have M := M.step hfw9
          exact gyq rfl (k55 M ⟨rfl, rfl, rfl, (by rw [h55]; rfl), trivial⟩)
        ·iterate 5 refine yo rfl ?_
         exact BS rfl rfl rfl rfl rfl (BS rfl rfl rfl rfl rfl (BS rfl rfl rfl rfl rfl (yo rfl (gyq rfl (k50 M ⟨rfl, rfl, (by rw [h50]; rfl), trivial⟩)))))
      refine AP (d := 34) rfl (fun h34 => ?_) (fun h34 => ?_)
      ·refine gyq rfl (yd rfl (AT (xs := [.int .u8 (n.vl.kind.toNat : Int), .int .i64 n.vl.int, .bool n.vl.bool, str n.vl.text]) rfl rfl (FU (M.blk 0 rfl) 1 4 rfl rfl) underlying45 rfl AG) (B0 (some 37) (BD rfl rfl rfl) rfl rfl (AQ rfl rfl call65) (FH n.vl _ (by have := n.sm_vl hs; omega) (G9 hU M.fr)) ?_))
       rintro _ w10 ⟨rfl, hfw10⟩
       refine ⟨_, rfl, ?_⟩
       have M := M.step hfw10
       refine yd rfl (DC rfl rfl rfl) (gyq rfl (fvm M 5 [34, 1] [(44, .bool ((!decide ((chk n.vl) = (0 : Int))) || (decide (n.vl.int < (0 : Int)))))] ?_ (fun k39 => ?_)))
       ·intro w11 M
        exact yb rfl (k34 M ⟨rfl, (by rw [h34]; rfl), trivial⟩)
       refine AP (d := 39) rfl (fun h39 => ?_) (fun h39 => ?_)
       ·iterate 4 refine yo rfl ?_
        exact gyq rfl (k39 M ⟨rfl, rfl, (by rw [h39]; rfl), trivial⟩)
       ·exact gyq rfl (gyq rfl (CH M 0 rfl rfl rfl (yd rfl (E9 rfl rfl rfl) (gyq rfl (k39 M ⟨rfl, rfl, (by rw [h39]; rfl), trivial⟩)))))
      ·iterate 5 refine yo rfl ?_
       iterate 4 refine BS rfl rfl rfl rfl rfl ?_
       exact yo rfl (yb rfl (k34 M ⟨rfl, (by rw [h34]; rfl), trivial⟩))
    ·have h25p := (odt (BM h25))
     refine C5 23 28 rfl M (C5 24 28 rfl M (C5 25 28 rfl M (ob 26 28 rfl (BD rfl rfl rfl) rfl rfl M (fun _ M => yp rfl) (oc 27 28 rfl rfl M (fdn (AA (CK rfl (AL (AA (AD (srg (yb rfl (BA M 0 rfl rfl rfl (CI rfl rfl ?_))))))))))))))
     refine yb rfl (fvm M 11 [1] [(45, .bool ((decide ((n.op.toNat : Int) = (1 : Int))) && ((!decide ((chk n.vl) = (0 : Int))) || (decide (n.vl.int < (0 : Int))))))] ?_ (fun k34 => ?_))
     ·intro w12 M
      refine yb rfl (fvm M 15 [1] [(61, .bool (((decide ((n.op.toNat : Int) = (1 : Int))) && ((!decide ((chk n.vl) = (0 : Int))) || (decide (n.vl.int < (0 : Int))))) || ((decide ((n.op.toNat : Int) = (2 : Int))) && ((!(CP n.nm)) || (JK n.nm)))))] ?_ (fun k46 => ?_))
      ·intro w13 M
       refine AC (AA (AN rfl (fun h61 => ?_) (fun h61 => ?_)))
       ·have h61p := ((EJ h61).imp (fun z => (And.intro (odt (CF z).1) ((EJ (CF z).2).imp (fun z => (odf (CE z))) (fun z => (odt z))))) (fun z => (And.intro (odt (CF z).1) ((EJ (CF z).2).imp (fun z => (CE z)) (fun z => z)))))
        exact srg (yb rfl (nq (AI (AE (gr1 rfl ⟨by rw [J2, if_neg (AS h10), if_pos h14, if_neg (AS h21), if_neg (AS h25), if_pos h61], M.fr⟩)))))
       ·have h61p := (And.intro ((DM (CL h61).1).imp (fun z => (odf z)) (fun z => (And.intro (odt (BM (CL z).1)) (odf (CL z).2)))) ((DM (CL h61).2).imp (fun z => (odf z)) (fun z => (And.intro (BM (CL z).1) (CL z).2))))
        exact AL (AA (srg (yb rfl (BA M 0 rfl rfl rfl (D1 M 64 rfl rfl call175 (hC _ M.fr) fun w14 M => yb rfl (yb rfl (nq (AI (gr1 rfl ⟨by rw [J2, if_neg (AS h10), if_pos h14, if_neg (AS h21), if_neg (AS h25), if_neg (AS h61)], M.fr⟩)))))))))
      refine AP (d := 46) rfl (fun h46 => ?_) (fun h46 => ?_)
      ·iterate 4 refine yo rfl ?_
       iterate 9 refine BS rfl rfl rfl rfl rfl ?_
       exact yo rfl (yb rfl (k46 M ⟨rfl, (by rw [h46]; rfl), trivial⟩))
      ·refine gyq rfl (CH M 0 rfl rfl rfl (yd rfl (C3 rfl rfl rfl) (gyq rfl (fvm M 10 [46, 1] [(60, .bool ((decide ((n.op.toNat : Int) = (2 : Int))) && ((!(CP n.nm)) || (JK n.nm))))] ?_ (fun k50 => ?_)))))
       ·intro w15 M
        exact yb rfl (k46 M ⟨rfl, (by rw [h46]; rfl), trivial⟩)
       refine AP (d := 50) rfl (fun h50 => ?_) (fun h50 => ?_)
       ·refine gyq rfl (CH M 0 rfl rfl rfl (B0 (some 53) (BD rfl rfl rfl) rfl rfl (AQ rfl rfl call67) (EE n.nm _ (by have := n.sm_nm hs; omega)) ?_))
        rintro _ w16 ⟨rfl, hfw16⟩
        refine ⟨_, rfl, ?_⟩
        have M := M.step hfw16
        refine gyq rfl (gyq rfl (fvm M 4 [50, 46, 1] [(59, .bool ((!(CP n.nm)) || (JK n.nm)))] ?_ (fun k55 => ?_)))
        ·intro w17 M
         exact gyq rfl (k50 M ⟨rfl, rfl, (by rw [h50]; rfl), trivial⟩)
        refine AP (d := 55) rfl (fun h55 => ?_) (fun h55 => ?_)
        ·exact yo rfl (yo rfl (yo rfl (gyq rfl (k55 M ⟨rfl, rfl, rfl, (by rw [h55]; rfl), trivial⟩))))
        ·refine gyq rfl (CH M 0 rfl rfl rfl (B0 (some 58) (BD rfl rfl rfl) rfl rfl (AQ rfl rfl call143) (O8 n.nm _) ?_))
         rintro _ w18 ⟨rfl, hfw18⟩
         refine ⟨_, rfl, ?_⟩
         have M := M.step hfw18
         exact gyq rfl (k55 M ⟨rfl, rfl, rfl, (by rw [h55]; rfl), trivial⟩)
       ·iterate 5 refine yo rfl ?_
        exact BS rfl rfl rfl rfl rfl (BS rfl rfl rfl rfl rfl (BS rfl rfl rfl rfl rfl (yo rfl (gyq rfl (k50 M ⟨rfl, rfl, (by rw [h50]; rfl), trivial⟩)))))
     refine AP (d := 34) rfl (fun h34 => ?_) (fun h34 => ?_)
     ·refine gyq rfl (yd rfl (AT (xs := [.int .u8 (n.vl.kind.toNat : Int), .int .i64 n.vl.int, .bool n.vl.bool, str n.vl.text]) rfl rfl (FU (M.blk 0 rfl) 1 4 rfl rfl) underlying45 rfl AG) (B0 (some 37) (BD rfl rfl rfl) rfl rfl (AQ rfl rfl call65) (FH n.vl _ (by have := n.sm_vl hs; omega) (G9 hU M.fr)) ?_))
      rintro _ w19 ⟨rfl, hfw19⟩
      refine ⟨_, rfl, ?_⟩
      have M := M.step hfw19
      refine yd rfl (DC rfl rfl rfl) (gyq rfl (fvm M 5 [34, 1] [(44, .bool ((!decide ((chk n.vl) = (0 : Int))) || (decide (n.vl.int < (0 : Int)))))] ?_ (fun k39 => ?_)))
      ·intro w20 M
       exact yb rfl (k34 M ⟨rfl, (by rw [h34]; rfl), trivial⟩)
      refine AP (d := 39) rfl (fun h39 => ?_) (fun h39 => ?_)
      ·iterate 4 refine yo rfl ?_
       exact gyq rfl (k39 M ⟨rfl, rfl, (by rw [h39]; rfl), trivial⟩)
      ·exact gyq rfl (gyq rfl (CH M 0 rfl rfl rfl (yd rfl (E9 rfl rfl rfl) (gyq rfl (k39 M ⟨rfl, rfl, (by rw [h39]; rfl), trivial⟩)))))
     ·iterate 5 refine yo rfl ?_
      iterate 4 refine BS rfl rfl rfl rfl rfl ?_
      exact yo rfl (yb rfl (k34 M ⟨rfl, (by rw [h34]; rfl), trivial⟩))
  ·have h14p := (odt (BM h14))
   refine C5 12 28 rfl M (C5 13 28 rfl M (C5 14 28 rfl M (C5 15 28 rfl M (ob 16 28 rfl (BD rfl rfl rfl) rfl rfl M (fun _ M => yp rfl) (oc 17 28 rfl rfl M (oc 18 28 rfl rfl M (ob 19 28 rfl (BD rfl rfl rfl) rfl rfl M (fun _ M => yp rfl) (ob 20 28 rfl (BD rfl rfl rfl) rfl rfl M (fun _ M => BU rfl rfl (sc rfl) (M.cell 0 rfl rfl)) (ob 21 28 rfl (BD rfl rfl rfl) rfl rfl M (fun _ M => DC rfl rfl rfl) (ob 22 28 rfl (BD rfl rfl rfl) rfl rfl M (fun _ M => yp rfl) (EH (d := 25) rfl (fun h25 => ?_) (fun h25 => ?_))))))))))))
   ·have h25p := (odf (CE h25))
    refine ob 23 28 rfl (BD rfl rfl rfl) rfl rfl M (fun _ M => yp rfl) (ob 24 28 rfl (BD rfl rfl rfl) rfl rfl M (fun _ M => BU rfl rfl (sc rfl) (M.cell 0 rfl rfl)) (ob 25 28 rfl (BD rfl rfl rfl) rfl rfl M (fun _ M => GK rfl rfl rfl) (ob 26 28 rfl (BD rfl rfl rfl) rfl rfl M (fun _ M => yp rfl) (oc 27 28 rfl rfl M (fdn (AA (AN rfl (fun h30 => ?_) (fun h30 => ?_))))))))
    ·exact srg (yb rfl (nq (AI (AE (gr1 rfl ⟨by rw [J2, if_neg (AS h10), if_neg (AS h14), if_pos h25, if_pos h30], M.fr⟩)))))
    ·have h30p := (odt (BM h30))
     refine AL (AA (AD (AD (AB (yb rfl (BA M 0 rfl rfl rfl (CI rfl rfl (yb rfl (fvm M 11 [1] [(45, .bool ((decide ((n.op.toNat : Int) = (1 : Int))) && ((!decide ((chk n.vl) = (0 : Int))) || (decide (n.vl.int < (0 : Int))))))] ?_ (fun k34 => ?_))))))))))
     ·intro w21 M
      refine yb rfl (fvm M 15 [1] [(61, .bool (((decide ((n.op.toNat : Int) = (1 : Int))) && ((!decide ((chk n.vl) = (0 : Int))) || (decide (n.vl.int < (0 : Int))))) || ((decide ((n.op.toNat : Int) = (2 : Int))) && ((!(CP n.nm)) || (JK n.nm)))))] ?_ (fun k46 => ?_))
      ·intro w22 M
       refine AC (AA (AN rfl (fun h61 => ?_) (fun h61 => ?_)))
       ·have h61p := ((EJ h61).imp (fun z => (And.intro (odt (CF z).1) ((EJ (CF z).2).imp (fun z => (odf (CE z))) (fun z => (odt z))))) (fun z => (And.intro (odt (CF z).1) ((EJ (CF z).2).imp (fun z => (CE z)) (fun z => z)))))
        exact srg (yb rfl (nq (AI (AE (gr1 rfl ⟨by rw [J2, if_neg (AS h10), if_neg (AS h14), if_pos h25, if_neg (AS h30), if_pos h61], M.fr⟩)))))
       ·have h61p := (And.intro ((DM (CL h61).1).imp (fun z => (odf z)) (fun z => (And.intro (odt (BM (CL z).1)) (odf (CL z).2)))) ((DM (CL h61).2).imp (fun z => (odf z)) (fun z => (And.intro (BM (CL z).1) (CL z).2))))
        exact AL (AA (srg (yb rfl (BA M 0 rfl rfl rfl (D1 M 64 rfl rfl call175 (hC _ M.fr) fun w23 M => yb rfl (yb rfl (nq (AI (gr1 rfl ⟨by rw [J2, if_neg (AS h10), if_neg (AS h14), if_pos h25, if_neg (AS h30), if_neg (AS h61)], M.fr⟩)))))))))
      refine AP (d := 46) rfl (fun h46 => ?_) (fun h46 => ?_)
      ·iterate 4 refine yo rfl ?_
       iterate 9 refine BS rfl rfl rfl rfl rfl ?_
       exact yo rfl (yb rfl (k46 M ⟨rfl, (by rw [h46]; rfl), trivial⟩))
      ·refine gyq rfl (CH M 0 rfl rfl rfl (yd rfl (C3 rfl rfl rfl) (gyq rfl (fvm M 10 [46, 1] [(60, .bool ((decide ((n.op.toNat : Int) = (2 : Int))) && ((!(CP n.nm)) || (JK n.nm))))] ?_ (fun k50 => ?_)))))
       ·intro w24 M
        exact yb rfl (k46 M ⟨rfl, (by rw [h46]; rfl), trivial⟩)
       refine AP (d := 50) rfl (fun h50 => ?_) (fun h50 => ?_)
       ·refine gyq rfl (CH M 0 rfl rfl rfl (B0 (some 53) (BD rfl rfl rfl) rfl rfl (AQ rfl rfl call67) (EE n.nm _ (by have := n.sm_nm hs; omega)) ?_))
        rintro _ w25 ⟨rfl, hfw25⟩
        refine ⟨_, rfl, ?_⟩
        have M := M.step hfw25
        refine gyq rfl (gyq rfl (fvm M 4 [50, 46, 1] [(59, .bool ((!(CP n.nm)) || (JK n.nm)))] ?_ (fun k55 => ?_)))
        ·intro w26 M
         exact gyq rfl (k50 M ⟨rfl, rfl, (by rw [h50]; rfl), trivial⟩)
        refine AP (d := 55) rfl (fun h55 => ?_) (fun h55 => ?_)
        ·exact yo rfl (yo rfl (yo rfl (gyq rfl (k55 M ⟨rfl, rfl, rfl, (by rw [h55]; rfl), trivial⟩))))
        ·refine gyq rfl (CH M 0 rfl rfl rfl (B0 (some 58) (BD rfl rfl rfl) rfl rfl (AQ rfl rfl call143) (O8 n.nm _) ?_))
         rintro _ w27 ⟨rfl, hfw27⟩
         refine ⟨_, rfl, ?_⟩
         have M := M.step hfw27
         exact gyq rfl (k55 M ⟨rfl, rfl, rfl, (by rw [h55]; rfl), trivial⟩)
       ·iterate 5 refine yo rfl ?_
        exact BS rfl rfl rfl rfl rfl (BS rfl rfl rfl rfl rfl (BS rfl rfl rfl rfl rfl (yo rfl (gyq rfl (k50 M ⟨rfl, rfl, (by rw [h50]; rfl), trivial⟩)))))
     refine AP (d := 34) rfl (fun h34 => ?_) (fun h34 => ?_)
     ·refine gyq rfl (yd rfl (AT (xs := [.int .u8 (n.vl.kind.toNat : Int), .int .i64 n.vl.int, .bool n.vl.bool, str n.vl.text]) rfl rfl (FU (M.blk 0 rfl) 1 4 rfl rfl) underlying45 rfl AG) (B0 (some 37) (BD rfl rfl rfl) rfl rfl (AQ rfl rfl call65) (FH n.vl _ (by have := n.sm_vl hs; omega) (G9 hU M.fr)) ?_))
      rintro _ w28 ⟨rfl, hfw28⟩
      refine ⟨_, rfl, ?_⟩
      have M := M.step hfw28
      refine yd rfl (DC rfl rfl rfl) (gyq rfl (fvm M 5 [34, 1] [(44, .bool ((!decide ((chk n.vl) = (0 : Int))) || (decide (n.vl.int < (0 : Int)))))] ?_ (fun k39 => ?_)))
      ·intro w29 M
       exact yb rfl (k34 M ⟨rfl, (by rw [h34]; rfl), trivial⟩)
      refine AP (d := 39) rfl (fun h39 => ?_) (fun h39 => ?_)
      ·iterate 4 refine yo rfl ?_
       exact gyq rfl (k39 M ⟨rfl, rfl, (by rw [h39]; rfl), trivial⟩)
      ·exact gyq rfl (gyq rfl (CH M 0 rfl rfl rfl (yd rfl (E9 rfl rfl rfl) (gyq rfl (k39 M ⟨rfl, rfl, (by rw [h39]; rfl), trivial⟩)))))
     ·iterate 5 refine yo rfl ?_
      iterate 4 refine BS rfl rfl rfl rfl rfl ?_
      exact yo rfl (yb rfl (k34 M ⟨rfl, (by rw [h34]; rfl), trivial⟩))
   ·have h25p := (odt (BM h25))
    refine C5 23 28 rfl M (C5 24 28 rfl M (C5 25 28 rfl M (ob 26 28 rfl (BD rfl rfl rfl) rfl rfl M (fun _ M => yp rfl) (oc 27 28 rfl rfl M (fdn (AA (CK rfl (AL (AA (AD (srg (yb rfl (BA M 0 rfl rfl rfl (CI rfl rfl ?_))))))))))))))
    refine yb rfl (fvm M 11 [1] [(45, .bool ((decide ((n.op.toNat : Int) = (1 : Int))) && ((!decide ((chk n.vl) = (0 : Int))) || (decide (n.vl.int < (0 : Int))))))] ?_ (fun k34 => ?_))
    ·intro w30 M
     refine yb rfl (fvm M 15 [1] [(61, .bool (((decide ((n.op.toNat : Int) = (1 : Int))) && ((!decide ((chk n.vl) = (0 : Int))) || (decide (n.vl.int < (0 : Int))))) || ((decide ((n.op.toNat : Int) = (2 : Int))) && ((!(CP n.nm)) || (JK n.nm)))))] ?_ (fun k46 => ?_))
     ·intro w31 M
      refine AC (AA (AN rfl (fun h61 => ?_) (fun h61 => ?_)))
      ·have h61p := ((EJ h61).imp (fun z => (And.intro (odt (CF z).1) ((EJ (CF z).2).imp (fun z => (odf (CE z))) (fun z => (odt z))))) (fun z => (And.intro (odt (CF z).1) ((EJ (CF z).2).imp (fun z => (CE z)) (fun z => z)))))
       exact srg (yb rfl (nq (AI (AE (gr1 rfl ⟨by rw [J2, if_neg (AS h10), if_neg (AS h14), if_neg (AS h25), if_pos h61], M.fr⟩)))))
      ·have h61p := (And.intro ((DM (CL h61).1).imp (fun z => (odf z)) (fun z => (And.intro (odt (BM (CL z).1)) (odf (CL z).2)))) ((DM (CL h61).2).imp (fun z => (odf z)) (fun z => (And.intro (BM (CL z).1) (CL z).2))))
       exact AL (AA (srg (yb rfl (BA M 0 rfl rfl rfl (D1 M 64 rfl rfl call175 (hC _ M.fr) fun w32 M => yb rfl (yb rfl (nq (AI (gr1 rfl ⟨by rw [J2, if_neg (AS h10), if_neg (AS h14), if_neg (AS h25), if_neg (AS h61)], M.fr⟩)))))))))
     refine AP (d := 46) rfl (fun h46 => ?_) (fun h46 => ?_)
     ·iterate 4 refine yo rfl ?_
      iterate 9 refine BS rfl rfl rfl rfl rfl ?_
      exact yo rfl (yb rfl (k46 M ⟨rfl, (by rw [h46]; rfl), trivial⟩))
     ·refine gyq rfl (CH M 0 rfl rfl rfl (yd rfl (C3 rfl rfl rfl) (gyq rfl (fvm M 10 [46, 1] [(60, .bool ((decide ((n.op.toNat : Int) = (2 : Int))) && ((!(CP n.nm)) || (JK n.nm))))] ?_ (fun k50 => ?_)))))
      ·intro w33 M
       exact yb rfl (k46 M ⟨rfl, (by rw [h46]; rfl), trivial⟩)
      refine AP (d := 50) rfl (fun h50 => ?_) (fun h50 => ?_)
      ·refine gyq rfl (CH M 0 rfl rfl rfl (B0 (some 53) (BD rfl rfl rfl) rfl rfl (AQ rfl rfl call67) (EE n.nm _ (by have := n.sm_nm hs; omega)) ?_))
       rintro _ w34 ⟨rfl, hfw34⟩
       refine ⟨_, rfl, ?_⟩
       have M := M.step hfw34
       refine gyq rfl (gyq rfl (fvm M 4 [50, 46, 1] [(59, .bool ((!(CP n.nm)) || (JK n.nm)))] ?_ (fun k55 => ?_)))
       ·intro w35 M
        exact gyq rfl (k50 M ⟨rfl, rfl, (by rw [h50]; rfl), trivial⟩)
       refine AP (d := 55) rfl (fun h55 => ?_) (fun h55 => ?_)
       ·exact yo rfl (yo rfl (yo rfl (gyq rfl (k55 M ⟨rfl, rfl, rfl, (by rw [h55]; rfl), trivial⟩))))
       ·refine gyq rfl (CH M 0 rfl rfl rfl (B0 (some 58) (BD rfl rfl rfl) rfl rfl (AQ rfl rfl call143) (O8 n.nm _) ?_))
        rintro _ w36 ⟨rfl, hfw36⟩
        refine ⟨_, rfl, ?_⟩
        have M := M.step hfw36
        exact gyq rfl (k55 M ⟨rfl, rfl, rfl, (by rw [h55]; rfl), trivial⟩)
      ·iterate 5 refine yo rfl ?_
       exact BS rfl rfl rfl rfl rfl (BS rfl rfl rfl rfl rfl (BS rfl rfl rfl rfl rfl (yo rfl (gyq rfl (k50 M ⟨rfl, rfl, (by rw [h50]; rfl), trivial⟩)))))
    refine AP (d := 34) rfl (fun h34 => ?_) (fun h34 => ?_)
    ·refine gyq rfl (yd rfl (AT (xs := [.int .u8 (n.vl.kind.toNat : Int), .int .i64 n.vl.int, .bool n.vl.bool, str n.vl.text]) rfl rfl (FU (M.blk 0 rfl) 1 4 rfl rfl) underlying45 rfl AG) (B0 (some 37) (BD rfl rfl rfl) rfl rfl (AQ rfl rfl call65) (FH n.vl _ (by have := n.sm_vl hs; omega) (G9 hU M.fr)) ?_))
     rintro _ w37 ⟨rfl, hfw37⟩
     refine ⟨_, rfl, ?_⟩
     have M := M.step hfw37
     refine yd rfl (DC rfl rfl rfl) (gyq rfl (fvm M 5 [34, 1] [(44, .bool ((!decide ((chk n.vl) = (0 : Int))) || (decide (n.vl.int < (0 : Int)))))] ?_ (fun k39 => ?_)))
     ·intro w38 M
      exact yb rfl (k34 M ⟨rfl, (by rw [h34]; rfl), trivial⟩)
     refine AP (d := 39) rfl (fun h39 => ?_) (fun h39 => ?_)
     ·iterate 4 refine yo rfl ?_
      exact gyq rfl (k39 M ⟨rfl, rfl, (by rw [h39]; rfl), trivial⟩)
     ·exact gyq rfl (gyq rfl (CH M 0 rfl rfl rfl (yd rfl (E9 rfl rfl rfl) (gyq rfl (k39 M ⟨rfl, rfl, (by rw [h39]; rfl), trivial⟩)))))
    ·iterate 5 refine yo rfl ?_
     iterate 4 refine BS rfl rfl rfl rfl rfl ?_
     exact yo rfl (yb rfl (k34 M ⟨rfl, (by rw [h34]; rfl), trivial⟩))
theorem jM (q : Xn × Option Addr) (c : Bool) (w : World) (hq : ∀ W, Fr0 w W → Calls prog 155 #[.agg (q.1.cells q.2).toArray] W fun e W' => e = .returned (.bool c) ∧ Fr0 W W') :
 Calls prog 176 #[.agg (q.1.cells q.2).toArray] w fun e w' => e = .returned (.bool (!c)) ∧ Fr0 w w' := by
 refine C2 func176 ntmps176 rfl fun M => srg (CN M rfl rfl fun g1 w1 hg1 M => yb rfl (nq (srg (CR M 0 rfl rfl underlying75 AW rfl (D1 M 4 rfl rfl call155 (hq _ M.fr) fun w2 M => yb rfl (yb rfl (nq ?_)))))))
 exact AI (gr1 rfl ⟨rfl, M.fr⟩)
def chkX : Xn → Bool
 | .un o a => J2 (.un o a) (!chkX a)
 | .bin o a b => J2 (.bin o a b) (!chkX a || !chkX b)
 | .zero => J2 .zero false
 | .lit v => J2 (.lit v) false
 | .var s => J2 (.var s) false
theorem Q5 (n : Xn) : chkX n = J2 n (n.kids.any (fun a => !chkX a)) := by cases n <;> simp [chkX, Xn.kids]
theorem WL : ∀ (n : Xn) (A : Option Addr) (F : List Nat) (w : World), n.AtL 75 w A F → n.sm 1048576 → Laid w utfL → Calls prog 155 #[.agg (n.cells A).toArray] w fun e w' => e = .returned (.bool (chkX n)) ∧ Fr0 w w' := by
 refine Xn.ind fun n ih A F w hA hs hU => ?_
 rw [Q5]
 refine nI n A _ w hs hU (fun W hW => ?_)
 obtain ⟨L, hL, hk, hR, hq⟩ := (hA.fr0 hW).kids
 rw [← hk]
 refine (j5 ndC mC A L.length L (by have := n.nk_le; omega) 176 [] (fun _ q => !chkX q.1) AV (fun _ _ => True) W (GI call176 (fun q hq' w1 hf => ?_)) (fun _ hf => hR.fr0 hf) trivial).mono ?_
 ·obtain ⟨F', hF'⟩ := hq q hq'
  have hk' : q.1 ∈ n.kids := by rw [← hL]; exact List.mem_map_of_mem hq'
  exact jM q (chkX q.1) w1 (fun W' hW' => ih q.1 hk' q.2 F' W' (hF'.fr0 (hf.trans hW')) (Xn.sm_kid hs hk') (G9 hU (hW.trans (hf.trans hW'))))
 ·rintro e w' ⟨rfl, _, hf⟩
  refine ⟨?_, hf⟩
  rw [JB, ← hL, List.any_map]; rfl
end Go.Proofs.YtjaocmocdhckaaaGreatDoor
