/- Lemmas that the last text rests on. Condition: each says its own. -/
import Derived.Test.YtjaocmocdhckaaaGreatDoorZb6
import Derived.Test.YtjaocmocdhckaaaGreatDoorZRu0
set_option maxHeartbeats 16000000
set_option maxRecDepth 100000
namespace Go.Proofs.YtjaocmocdhckaaaGreatDoor
open Go.RowKit
open Tryz
section
variable {P : Program} {ops : Array Oper} {Q : Exit → Act → World → Prop} {S : World → Prop} {t n f : Nat} {listed : Array Bool} {e : Env} {w : World}
end
theorem C8  : prog.built 45 [] = some #[.int .u8 0, AJ 0, .bool false, str []] := by kernel_rfl
def NA (op : UInt8) : Int := (if ((decide ((op.toNat : Int) < (1 : Int))) || (decide ((17 : Int) < (op.toNat : Int)))) = true then (-1) else (if (decide ((op.toNat : Int) ≤ (2 : Int))) = true then 0 else (if (decide ((op.toNat : Int) ≤ (4 : Int))) = true then 1 else 2)))
theorem nG (op : UInt8) (w : World) : Calls prog 174 #[.int .u8 (op.toNat : Int)] w (CG w (AJ (NA op))) := by
 refine C5 func174 ntmps174 rfl fun M => srg (AY rfl (AF (AS (AQ rfl (CF rfl rfl (yb rfl (fvm M 3 [0] [(9, .bool ((decide ((op.toNat : Int) < (1 : Int))) || (decide ((17 : Int) < (op.toNat : Int)))))] ?_ (fun k6 => ?_))))))))
 ·intro w1 M
  refine AY rfl (AL rfl (fun h3 => ?_) (fun h3 => ?_))
  ·have h3p := ((EO h3).imp (fun z => (odt z)) (fun z => (odt z)))
   exact AQ rfl (gnr (AN (AB (gr1 rfl ⟨by rw [NA, if_pos h3], M.fr⟩))))
  ·refine AQ rfl (RW rfl rfl (AY rfl (AL rfl (fun h10 => ?_) (fun h10 => ?_))))
   ·exact AQ rfl (gnr (AN (AB (gr1 rfl ⟨by rw [NA, AT h3, if_pos h10], M.fr⟩))))
   ·refine AQ rfl (RW rfl rfl (AY rfl (AL rfl (fun h13 => ?_) (fun h13 => ?_))))
    ·exact AQ rfl (gnr (AN (AB (gr1 rfl ⟨by rw [NA, AT h3, AT h10, if_pos h13], M.fr⟩))))
    ·exact AI (AE (AD (AQ rfl (gnr (gr1 rfl ⟨by rw [NA, AT h3, AT h10, AT h13], M.fr⟩)))))
 refine AO (d := 6) rfl (fun h6 => ?_) (fun h6 => ?_)
 ·exact yo rfl (yo rfl (yb rfl (k6 M ⟨rfl, (by rw [h6]; rfl), trivial⟩)))
 ·exact gyq rfl (yd rfl (GC rfl rfl rfl) (yb rfl (k6 M ⟨rfl, (by rw [h6]; rfl), trivial⟩)))
def JG (n : Xn) (k : Bool) : Bool := (if (!decide (((n.nk : Nat) : Int) = (NA n.op))) = true then false else (if (!decide ((n.op.toNat : Int) = (1 : Int))) = true then (if (!(n.vl.same zeroVl)) = true then false else (if (!decide ((n.op.toNat : Int) = (2 : Int))) = true then (if (!decide (n.nm = [])) = true then false else (if (((decide ((n.op.toNat : Int) = (1 : Int))) && ((!decide ((chk n.vl) = (0 : Int))) || (decide (n.vl.int < (0 : Int))))) || ((decide ((n.op.toNat : Int) = (2 : Int))) && ((!(CT n.nm)) || (K0 n.nm)))) = true then false else (!k))) else (if (((decide ((n.op.toNat : Int) = (1 : Int))) && ((!decide ((chk n.vl) = (0 : Int))) || (decide (n.vl.int < (0 : Int))))) || ((decide ((n.op.toNat : Int) = (2 : Int))) && ((!(CT n.nm)) || (K0 n.nm)))) = true then false else (!k)))) else (if (!decide ((n.op.toNat : Int) = (2 : Int))) = true then (if (!decide (n.nm = [])) = true then false else (if (((decide ((n.op.toNat : Int) = (1 : Int))) && ((!decide ((chk n.vl) = (0 : Int))) || (decide (n.vl.int < (0 : Int))))) || ((decide ((n.op.toNat : Int) = (2 : Int))) && ((!(CT n.nm)) || (K0 n.nm)))) = true then false else (!k))) else (if (((decide ((n.op.toNat : Int) = (1 : Int))) && ((!decide ((chk n.vl) = (0 : Int))) || (decide (n.vl.int < (0 : Int))))) || ((decide ((n.op.toNat : Int) = (2 : Int))) && ((!(CT n.nm)) || (K0 n.nm)))) = true then false else (!k)))))
theorem oG (n : Xn) (A : Option Addr) (k : Bool) (w : World) (hs : n.sm 1048576) (hU : Laid w utfL) (hC : ∀ W, Fr0 w W → Calls prog 175 #[.slice A n.nk n.nk, .func (.func 176) #[] #[]] W fun e W' => e = .returned (.bool k) ∧ Fr0 W W') :
 Calls prog 155 #[.agg (n.cells A).toArray] w (CG w (.bool (JG n k))) := by
 refine C5 func155 ntmps155 rfl fun M => srg (CR M rfl rfl fun g1 w1 hg1 M => AY rfl (AF (AF (CV 28 (fun w' => Mem w B0 [As.blk g1 75 (Xn.cells n A)] w') CZ ?_))))
 have M := M.drew
 refine oc 0 28 rfl rfl M (ol 1 28 rfl rfl rfl M (fun _ M => (M.cell 0 rfl rfl)) (oa 2 28 rfl rfl M (fun _ M => C3 rfl rfl (sl rfl)) (oc 3 28 rfl rfl M (ol 4 28 rfl rfl rfl M (fun _ M => (M.cell 0 rfl rfl)) (C7 5 (some 8) gkr rfl (AA rfl) rfl rfl (AP rfl rfl call174) (nG _ _) ?_)))))
 rintro _ w2 ⟨rfl, hfw2⟩
 refine ⟨_, rfl, fun _ => M.step hfw2, ?_⟩
 have M := M.step hfw2
 refine oa 6 28 rfl rfl M (fun _ M => E4 rfl rfl rfl) (oc 7 28 rfl rfl M (EK (d := 10) rfl (fun h10 => ?_) (fun h10 => ?_)))
 ·refine C9 8 28 rfl M (C9 9 28 rfl M (C9 10 28 rfl M (C9 11 28 rfl M (EU 12 28 rfl rfl M (EU 13 28 rfl rfl M (EU 14 28 rfl rfl M (EU 15 28 rfl rfl M (C9 16 28 rfl M (oc 17 28 rfl rfl M (oc 18 28 rfl rfl M (C9 19 28 rfl M (C9 20 28 rfl M (C9 21 28 rfl M (C9 22 28 rfl M (EU 23 28 rfl rfl M ?_)))))))))))))))
  exact EU 24 28 rfl rfl M (EU 25 28 rfl rfl M (C9 26 28 rfl M (oc 27 28 rfl rfl M (fdn (AD (EL rfl (AQ rfl (gnr (AB (gr1 rfl ⟨by rw [JG, if_pos h10], M.fr⟩))))))))))
 ·have h10p := (odt (BQ h10))
  refine ob 8 28 rfl (BG rfl rfl rfl) rfl rfl M (fun _ M => yp rfl) (ob 9 28 rfl (BG rfl rfl rfl) rfl rfl M (fun _ M => BW rfl rfl (sc rfl) (M.cell 0 rfl rfl)) (ob 10 28 rfl (BG rfl rfl rfl) rfl rfl M (fun _ M => E4 rfl rfl rfl) (ob 11 28 rfl (BG rfl rfl rfl) rfl rfl M (fun _ M => yp rfl) (EK (d := 14) rfl (fun h14 => ?_) (fun h14 => ?_)))))
  ·have h14p := (odf (CK h14))
   refine ob 12 28 rfl (BG rfl rfl rfl) rfl rfl M (fun _ M => yp rfl) (ob 13 28 rfl (BG rfl rfl rfl) rfl rfl M (fun _ M => AU (xs := [.int .u8 (n.vl.kind.toNat : Int), AJ n.vl.int, .bool n.vl.bool, str n.vl.text]) rfl rfl (FS (M.blk 0 rfl) 1 4 rfl rfl) underlying45 rfl AC) (ob 14 28 rfl (BG rfl rfl rfl) rfl rfl M (fun _ M => BA (parts := []) rfl rfl (C8)) (ob 15 28 rfl (BG rfl rfl rfl) rfl rfl M (fun _ M => lB (a := n.vl) (b := zeroVl) rfl rfl rfl) (ob 16 28 rfl (BG rfl rfl rfl) rfl rfl M (fun _ M => yp rfl) (oc 17 28 rfl rfl M (oc 18 28 rfl rfl M (EK (d := 21) rfl (fun h21 => ?_) (fun h21 => ?_))))))))
   ·refine C9 19 28 rfl M (C9 20 28 rfl M (C9 21 28 rfl M (C9 22 28 rfl M (EU 23 28 rfl rfl M (EU 24 28 rfl rfl M (EU 25 28 rfl rfl M (C9 26 28 rfl M (oc 27 28 rfl rfl M (fdn (AD (EL rfl (AQ rfl (AR ?_)))))))))))))
    exact AD (BN (AB (gr1 rfl ⟨by rw [JG, AT h10, if_pos h14, if_pos h21], M.fr⟩)))
   ·refine ob 19 28 rfl (BG rfl rfl rfl) rfl rfl M (fun _ M => yp rfl) (ob 20 28 rfl (BG rfl rfl rfl) rfl rfl M (fun _ M => BW rfl rfl (sc rfl) (M.cell 0 rfl rfl)) (ob 21 28 rfl (BG rfl rfl rfl) rfl rfl M (fun _ M => E4 rfl rfl rfl) (ob 22 28 rfl (BG rfl rfl rfl) rfl rfl M (fun _ M => yp rfl) (EK (d := 25) rfl (fun h25 => ?_) (fun h25 => ?_)))))
    ·have h25p := (odf (CK h25))
     refine ob 23 28 rfl (BG rfl rfl rfl) rfl rfl M (fun _ M => yp rfl) (ob 24 28 rfl (BG rfl rfl rfl) rfl rfl M (fun _ M => BW rfl rfl (sc rfl) (M.cell 0 rfl rfl)) (ob 25 28 rfl (BG rfl rfl rfl) rfl rfl M (fun _ M => FP rfl rfl rfl) (ob 26 28 rfl (BG rfl rfl rfl) rfl rfl M (fun _ M => yp rfl) (oc 27 28 rfl rfl M (fdn (AD (AL rfl (fun h30 => ?_) (fun h30 => ?_))))))))
     ·exact AQ rfl (gnr (AB (gr1 rfl ⟨by rw [JG, AT h10, if_pos h14, AT h21, if_pos h25, if_pos h30], M.fr⟩)))
     ·have h30p := (odt (BQ h30))
      refine AI (AD (AF (AQ rfl (BC M 0 rfl rfl rfl (CN rfl rfl (yb rfl (fvm M 11 [1] [(45, .bool ((decide ((n.op.toNat : Int) = (1 : Int))) && ((!decide ((chk n.vl) = (0 : Int))) || (decide (n.vl.int < (0 : Int))))))] ?_ (fun k34 => ?_))))))))
      ·intro w3 M
       refine yb rfl (fvm M 15 [1] [(61, .bool (((decide ((n.op.toNat : Int) = (1 : Int))) && ((!decide ((chk n.vl) = (0 : Int))) || (decide (n.vl.int < (0 : Int))))) || ((decide ((n.op.toNat : Int) = (2 : Int))) && ((!(CT n.nm)) || (K0 n.nm)))))] ?_ (fun k46 => ?_))
       ·intro w4 M
        refine nq (AL rfl (fun h61 => ?_) (fun h61 => ?_))
        ·have h61p := ((EO h61).imp (fun z => (And.intro (odt (CL z).1) ((EO (CL z).2).imp (fun z => (odf (CK z))) (fun z => (odt z))))) (fun z => (And.intro (odt (CL z).1) ((EO (CL z).2).imp (fun z => (CK z)) (fun z => z)))))
         exact AQ rfl (gnr (AB (gr1 rfl ⟨by rw [JG, AT h10, if_pos h14, AT h21, if_pos h25, AT h30, if_pos h61], M.fr⟩)))
        ·have h61p := (And.intro ((DT (CP h61).1).imp (fun z => (odf z)) (fun z => (And.intro (odt (BQ (CP z).1)) (odf (CP z).2)))) ((DT (CP h61).2).imp (fun z => (odf z)) (fun z => (And.intro (BQ (CP z).1) (CP z).2))))
         exact AI (AD (AQ rfl (BC M 0 rfl rfl rfl (D4 M 64 rfl rfl call175 (hC _ M.fr) fun w5 M => BM rfl rfl (gnr (gr1 rfl ⟨by rw [JG, AT h10, if_pos h14, AT h21, if_pos h25, AT h30, AT h61], M.fr⟩))))))
       refine AO (d := 46) rfl (fun h46 => ?_) (fun h46 => ?_)
       ·iterate 4 refine yo rfl ?_
        iterate 9 refine CB rfl rfl rfl rfl rfl ?_
        exact yo rfl (yb rfl (k46 M ⟨rfl, (by rw [h46]; rfl), trivial⟩))
       ·refine gyq rfl (CJ M 0 rfl rfl rfl (yd rfl (BZ rfl rfl rfl) (gyq rfl (fvm M 10 [46, 1] [(60, .bool ((decide ((n.op.toNat : Int) = (2 : Int))) && ((!(CT n.nm)) || (K0 n.nm))))] ?_ (fun k50 => ?_)))))
        ·intro w6 M
         exact yb rfl (k46 M ⟨rfl, (by rw [h46]; rfl), trivial⟩)
        refine AO (d := 50) rfl (fun h50 => ?_) (fun h50 => ?_)
        ·refine gyq rfl (CJ M 0 rfl rfl rfl (B3 (some 53) (BG rfl rfl rfl) rfl rfl (AP rfl rfl call67) (EI n.nm _ (by have := n.sm_nm hs; omega)) ?_))
         rintro _ w7 ⟨rfl, hfw7⟩
         refine ⟨_, rfl, ?_⟩
         have M := M.step hfw7
         refine gyq rfl (gyq rfl (fvm M 4 [50, 46, 1] [(59, .bool ((!(CT n.nm)) || (K0 n.nm)))] ?_ (fun k55 => ?_)))
         ·intro w8 M
          exact gyq rfl (k50 M ⟨rfl, rfl, (by rw [h50]; rfl), trivial⟩)
         refine AO (d := 55) rfl (fun h55 => ?_) (fun h55 => ?_)
         ·exact yo rfl (yo rfl (yo rfl (gyq rfl (k55 M ⟨rfl, rfl, rfl, (by rw [h55]; rfl), trivial⟩))))
         ·refine gyq rfl (CJ M 0 rfl rfl rfl (B3 (some 58) (BG rfl rfl rfl) rfl rfl (AP rfl rfl call143) (OY n.nm _) ?_))
          rintro _ w9 ⟨rfl, hfw9⟩
          refine ⟨_, rfl, ?_⟩
          have M := M.step hfw9
          exact gyq rfl (k55 M ⟨rfl, rfl, rfl, (by rw [h55]; rfl), trivial⟩)
        ·iterate 5 refine yo rfl ?_
         exact CB rfl rfl rfl rfl rfl (CB rfl rfl rfl rfl rfl (CB rfl rfl rfl rfl rfl (yo rfl (gyq rfl (k50 M ⟨rfl, rfl, (by rw [h50]; rfl), trivial⟩)))))
      refine AO (d := 34) rfl (fun h34 => ?_) (fun h34 => ?_)
      ·refine gyq rfl (yd rfl (AU (xs := [.int .u8 (n.vl.kind.toNat : Int), AJ n.vl.int, .bool n.vl.bool, str n.vl.text]) rfl rfl (FS (M.blk 0 rfl) 1 4 rfl rfl) underlying45 rfl AC) (B3 (some 37) (BG rfl rfl rfl) rfl rfl (AP rfl rfl call65) (FR n.vl _ (by have := n.sm_vl hs; omega) (GG hU M.fr)) ?_))
       rintro _ w10 ⟨rfl, hfw10⟩
       refine ⟨_, rfl, ?_⟩
       have M := M.step hfw10
       refine yd rfl (E4 rfl rfl rfl) (gyq rfl (fvm M 5 [34, 1] [(44, .bool ((!decide ((chk n.vl) = (0 : Int))) || (decide (n.vl.int < (0 : Int)))))] ?_ (fun k39 => ?_)))
       ·intro w11 M
        exact yb rfl (k34 M ⟨rfl, (by rw [h34]; rfl), trivial⟩)
       refine AO (d := 39) rfl (fun h39 => ?_) (fun h39 => ?_)
       ·iterate 4 refine yo rfl ?_
        exact gyq rfl (k39 M ⟨rfl, rfl, (by rw [h39]; rfl), trivial⟩)
       ·exact gyq rfl (gyq rfl (CJ M 0 rfl rfl rfl (yd rfl (ED rfl rfl rfl) (gyq rfl (k39 M ⟨rfl, rfl, (by rw [h39]; rfl), trivial⟩)))))
      ·iterate 5 refine yo rfl ?_
       iterate 4 refine CB rfl rfl rfl rfl rfl ?_
       exact yo rfl (yb rfl (k34 M ⟨rfl, (by rw [h34]; rfl), trivial⟩))
    ·have h25p := (odt (BQ h25))
     refine C9 23 28 rfl M (C9 24 28 rfl M (C9 25 28 rfl M (ob 26 28 rfl (BG rfl rfl rfl) rfl rfl M (fun _ M => yp rfl) (oc 27 28 rfl rfl M (fdn (AD (D8 rfl (AI (AD (AF (AQ rfl (BC M 0 rfl rfl rfl (CN rfl rfl ?_)))))))))))))
     refine yb rfl (fvm M 11 [1] [(45, .bool ((decide ((n.op.toNat : Int) = (1 : Int))) && ((!decide ((chk n.vl) = (0 : Int))) || (decide (n.vl.int < (0 : Int))))))] ?_ (fun k34 => ?_))
     ·intro w12 M
      refine yb rfl (fvm M 15 [1] [(61, .bool (((decide ((n.op.toNat : Int) = (1 : Int))) && ((!decide ((chk n.vl) = (0 : Int))) || (decide (n.vl.int < (0 : Int))))) || ((decide ((n.op.toNat : Int) = (2 : Int))) && ((!(CT n.nm)) || (K0 n.nm)))))] ?_ (fun k46 => ?_))
      ·intro w13 M
       refine nq (AL rfl (fun h61 => ?_) (fun h61 => ?_))
       ·have h61p := ((EO h61).imp (fun z => (And.intro (odt (CL z).1) ((EO (CL z).2).imp (fun z => (odf (CK z))) (fun z => (odt z))))) (fun z => (And.intro (odt (CL z).1) ((EO (CL z).2).imp (fun z => (CK z)) (fun z => z)))))
        exact AQ rfl (gnr (AB (gr1 rfl ⟨by rw [JG, AT h10, if_pos h14, AT h21, AT h25, if_pos h61], M.fr⟩)))
       ·have h61p := (And.intro ((DT (CP h61).1).imp (fun z => (odf z)) (fun z => (And.intro (odt (BQ (CP z).1)) (odf (CP z).2)))) ((DT (CP h61).2).imp (fun z => (odf z)) (fun z => (And.intro (BQ (CP z).1) (CP z).2))))
        exact AI (AD (AQ rfl (BC M 0 rfl rfl rfl (D4 M 64 rfl rfl call175 (hC _ M.fr) fun w14 M => BM rfl rfl (gnr (gr1 rfl ⟨by rw [JG, AT h10, if_pos h14, AT h21, AT h25, AT h61], M.fr⟩))))))
      refine AO (d := 46) rfl (fun h46 => ?_) (fun h46 => ?_)
      ·iterate 4 refine yo rfl ?_
       iterate 9 refine CB rfl rfl rfl rfl rfl ?_
       exact yo rfl (yb rfl (k46 M ⟨rfl, (by rw [h46]; rfl), trivial⟩))
      ·refine gyq rfl (CJ M 0 rfl rfl rfl (yd rfl (BZ rfl rfl rfl) (gyq rfl (fvm M 10 [46, 1] [(60, .bool ((decide ((n.op.toNat : Int) = (2 : Int))) && ((!(CT n.nm)) || (K0 n.nm))))] ?_ (fun k50 => ?_)))))
       ·intro w15 M
        exact yb rfl (k46 M ⟨rfl, (by rw [h46]; rfl), trivial⟩)
       refine AO (d := 50) rfl (fun h50 => ?_) (fun h50 => ?_)
       ·refine gyq rfl (CJ M 0 rfl rfl rfl (B3 (some 53) (BG rfl rfl rfl) rfl rfl (AP rfl rfl call67) (EI n.nm _ (by have := n.sm_nm hs; omega)) ?_))
        rintro _ w16 ⟨rfl, hfw16⟩
        refine ⟨_, rfl, ?_⟩
        have M := M.step hfw16
        refine gyq rfl (gyq rfl (fvm M 4 [50, 46, 1] [(59, .bool ((!(CT n.nm)) || (K0 n.nm)))] ?_ (fun k55 => ?_)))
        ·intro w17 M
         exact gyq rfl (k50 M ⟨rfl, rfl, (by rw [h50]; rfl), trivial⟩)
        refine AO (d := 55) rfl (fun h55 => ?_) (fun h55 => ?_)
        ·exact yo rfl (yo rfl (yo rfl (gyq rfl (k55 M ⟨rfl, rfl, rfl, (by rw [h55]; rfl), trivial⟩))))
        ·refine gyq rfl (CJ M 0 rfl rfl rfl (B3 (some 58) (BG rfl rfl rfl) rfl rfl (AP rfl rfl call143) (OY n.nm _) ?_))
         rintro _ w18 ⟨rfl, hfw18⟩
         refine ⟨_, rfl, ?_⟩
         have M := M.step hfw18
         exact gyq rfl (k55 M ⟨rfl, rfl, rfl, (by rw [h55]; rfl), trivial⟩)
       ·iterate 5 refine yo rfl ?_
        exact CB rfl rfl rfl rfl rfl (CB rfl rfl rfl rfl rfl (CB rfl rfl rfl rfl rfl (yo rfl (gyq rfl (k50 M ⟨rfl, rfl, (by rw [h50]; rfl), trivial⟩)))))
     refine AO (d := 34) rfl (fun h34 => ?_) (fun h34 => ?_)
     ·refine gyq rfl (yd rfl (AU (xs := [.int .u8 (n.vl.kind.toNat : Int), AJ n.vl.int, .bool n.vl.bool, str n.vl.text]) rfl rfl (FS (M.blk 0 rfl) 1 4 rfl rfl) underlying45 rfl AC) (B3 (some 37) (BG rfl rfl rfl) rfl rfl (AP rfl rfl call65) (FR n.vl _ (by have := n.sm_vl hs; omega) (GG hU M.fr)) ?_))
      rintro _ w19 ⟨rfl, hfw19⟩
      refine ⟨_, rfl, ?_⟩
      have M := M.step hfw19
      refine yd rfl (E4 rfl rfl rfl) (gyq rfl (fvm M 5 [34, 1] [(44, .bool ((!decide ((chk n.vl) = (0 : Int))) || (decide (n.vl.int < (0 : Int)))))] ?_ (fun k39 => ?_)))
      ·intro w20 M
       exact yb rfl (k34 M ⟨rfl, (by rw [h34]; rfl), trivial⟩)
      refine AO (d := 39) rfl (fun h39 => ?_) (fun h39 => ?_)
      ·iterate 4 refine yo rfl ?_
       exact gyq rfl (k39 M ⟨rfl, rfl, (by rw [h39]; rfl), trivial⟩)
      ·exact gyq rfl (gyq rfl (CJ M 0 rfl rfl rfl (yd rfl (ED rfl rfl rfl) (gyq rfl (k39 M ⟨rfl, rfl, (by rw [h39]; rfl), trivial⟩)))))
     ·iterate 5 refine yo rfl ?_
      iterate 4 refine CB rfl rfl rfl rfl rfl ?_
      exact yo rfl (yb rfl (k34 M ⟨rfl, (by rw [h34]; rfl), trivial⟩))
  ·have h14p := (odt (BQ h14))
   refine C9 12 28 rfl M (C9 13 28 rfl M (C9 14 28 rfl M (C9 15 28 rfl M (ob 16 28 rfl (BG rfl rfl rfl) rfl rfl M (fun _ M => yp rfl) (oc 17 28 rfl rfl M (oc 18 28 rfl rfl M (ob 19 28 rfl (BG rfl rfl rfl) rfl rfl M (fun _ M => yp rfl) (ob 20 28 rfl (BG rfl rfl rfl) rfl rfl M (fun _ M => BW rfl rfl (sc rfl) (M.cell 0 rfl rfl)) (ob 21 28 rfl (BG rfl rfl rfl) rfl rfl M (fun _ M => E4 rfl rfl rfl) (ob 22 28 rfl (BG rfl rfl rfl) rfl rfl M (fun _ M => yp rfl) (EK (d := 25) rfl (fun h25 => ?_) (fun h25 => ?_))))))))))))
   ·have h25p := (odf (CK h25))
    refine ob 23 28 rfl (BG rfl rfl rfl) rfl rfl M (fun _ M => yp rfl) (ob 24 28 rfl (BG rfl rfl rfl) rfl rfl M (fun _ M => BW rfl rfl (sc rfl) (M.cell 0 rfl rfl)) (ob 25 28 rfl (BG rfl rfl rfl) rfl rfl M (fun _ M => FP rfl rfl rfl) (ob 26 28 rfl (BG rfl rfl rfl) rfl rfl M (fun _ M => yp rfl) (oc 27 28 rfl rfl M (fdn (AD (AL rfl (fun h30 => ?_) (fun h30 => ?_))))))))
    ·exact AQ rfl (gnr (AB (gr1 rfl ⟨by rw [JG, AT h10, AT h14, if_pos h25, if_pos h30], M.fr⟩)))
    ·have h30p := (odt (BQ h30))
     refine AI (AD (AF (AQ rfl (BC M 0 rfl rfl rfl (CN rfl rfl (yb rfl (fvm M 11 [1] [(45, .bool ((decide ((n.op.toNat : Int) = (1 : Int))) && ((!decide ((chk n.vl) = (0 : Int))) || (decide (n.vl.int < (0 : Int))))))] ?_ (fun k34 => ?_))))))))
     ·intro w21 M
      refine yb rfl (fvm M 15 [1] [(61, .bool (((decide ((n.op.toNat : Int) = (1 : Int))) && ((!decide ((chk n.vl) = (0 : Int))) || (decide (n.vl.int < (0 : Int))))) || ((decide ((n.op.toNat : Int) = (2 : Int))) && ((!(CT n.nm)) || (K0 n.nm)))))] ?_ (fun k46 => ?_))
      ·intro w22 M
       refine nq (AL rfl (fun h61 => ?_) (fun h61 => ?_))
       ·have h61p := ((EO h61).imp (fun z => (And.intro (odt (CL z).1) ((EO (CL z).2).imp (fun z => (odf (CK z))) (fun z => (odt z))))) (fun z => (And.intro (odt (CL z).1) ((EO (CL z).2).imp (fun z => (CK z)) (fun z => z)))))
        exact AQ rfl (gnr (AB (gr1 rfl ⟨by rw [JG, AT h10, AT h14, if_pos h25, AT h30, if_pos h61], M.fr⟩)))
       ·have h61p := (And.intro ((DT (CP h61).1).imp (fun z => (odf z)) (fun z => (And.intro (odt (BQ (CP z).1)) (odf (CP z).2)))) ((DT (CP h61).2).imp (fun z => (odf z)) (fun z => (And.intro (BQ (CP z).1) (CP z).2))))
        exact AI (AD (AQ rfl (BC M 0 rfl rfl rfl (D4 M 64 rfl rfl call175 (hC _ M.fr) fun w23 M => BM rfl rfl (gnr (gr1 rfl ⟨by rw [JG, AT h10, AT h14, if_pos h25, AT h30, AT h61], M.fr⟩))))))
      refine AO (d := 46) rfl (fun h46 => ?_) (fun h46 => ?_)
      ·iterate 4 refine yo rfl ?_
       iterate 9 refine CB rfl rfl rfl rfl rfl ?_
       exact yo rfl (yb rfl (k46 M ⟨rfl, (by rw [h46]; rfl), trivial⟩))
      ·refine gyq rfl (CJ M 0 rfl rfl rfl (yd rfl (BZ rfl rfl rfl) (gyq rfl (fvm M 10 [46, 1] [(60, .bool ((decide ((n.op.toNat : Int) = (2 : Int))) && ((!(CT n.nm)) || (K0 n.nm))))] ?_ (fun k50 => ?_)))))
       ·intro w24 M
        exact yb rfl (k46 M ⟨rfl, (by rw [h46]; rfl), trivial⟩)
       refine AO (d := 50) rfl (fun h50 => ?_) (fun h50 => ?_)
       ·refine gyq rfl (CJ M 0 rfl rfl rfl (B3 (some 53) (BG rfl rfl rfl) rfl rfl (AP rfl rfl call67) (EI n.nm _ (by have := n.sm_nm hs; omega)) ?_))
        rintro _ w25 ⟨rfl, hfw25⟩
        refine ⟨_, rfl, ?_⟩
        have M := M.step hfw25
        refine gyq rfl (gyq rfl (fvm M 4 [50, 46, 1] [(59, .bool ((!(CT n.nm)) || (K0 n.nm)))] ?_ (fun k55 => ?_)))
        ·intro w26 M
         exact gyq rfl (k50 M ⟨rfl, rfl, (by rw [h50]; rfl), trivial⟩)
        refine AO (d := 55) rfl (fun h55 => ?_) (fun h55 => ?_)
        ·exact yo rfl (yo rfl (yo rfl (gyq rfl (k55 M ⟨rfl, rfl, rfl, (by rw [h55]; rfl), trivial⟩))))
        ·refine gyq rfl (CJ M 0 rfl rfl rfl (B3 (some 58) (BG rfl rfl rfl) rfl rfl (AP rfl rfl call143) (OY n.nm _) ?_))
         rintro _ w27 ⟨rfl, hfw27⟩
         refine ⟨_, rfl, ?_⟩
         have M := M.step hfw27
         exact gyq rfl (k55 M ⟨rfl, rfl, rfl, (by rw [h55]; rfl), trivial⟩)
       ·iterate 5 refine yo rfl ?_
        exact CB rfl rfl rfl rfl rfl (CB rfl rfl rfl rfl rfl (CB rfl rfl rfl rfl rfl (yo rfl (gyq rfl (k50 M ⟨rfl, rfl, (by rw [h50]; rfl), trivial⟩)))))
     refine AO (d := 34) rfl (fun h34 => ?_) (fun h34 => ?_)
     ·refine gyq rfl (yd rfl (AU (xs := [.int .u8 (n.vl.kind.toNat : Int), AJ n.vl.int, .bool n.vl.bool, str n.vl.text]) rfl rfl (FS (M.blk 0 rfl) 1 4 rfl rfl) underlying45 rfl AC) (B3 (some 37) (BG rfl rfl rfl) rfl rfl (AP rfl rfl call65) (FR n.vl _ (by have := n.sm_vl hs; omega) (GG hU M.fr)) ?_))
      rintro _ w28 ⟨rfl, hfw28⟩
      refine ⟨_, rfl, ?_⟩
      have M := M.step hfw28
      refine yd rfl (E4 rfl rfl rfl) (gyq rfl (fvm M 5 [34, 1] [(44, .bool ((!decide ((chk n.vl) = (0 : Int))) || (decide (n.vl.int < (0 : Int)))))] ?_ (fun k39 => ?_)))
      ·intro w29 M
       exact yb rfl (k34 M ⟨rfl, (by rw [h34]; rfl), trivial⟩)
      refine AO (d := 39) rfl (fun h39 => ?_) (fun h39 => ?_)
      ·iterate 4 refine yo rfl ?_
       exact gyq rfl (k39 M ⟨rfl, rfl, (by rw [h39]; rfl), trivial⟩)
      ·exact gyq rfl (gyq rfl (CJ M 0 rfl rfl rfl (yd rfl (ED rfl rfl rfl) (gyq rfl (k39 M ⟨rfl, rfl, (by rw [h39]; rfl), trivial⟩)))))
     ·iterate 5 refine yo rfl ?_
      iterate 4 refine CB rfl rfl rfl rfl rfl ?_
      exact yo rfl (yb rfl (k34 M ⟨rfl, (by rw [h34]; rfl), trivial⟩))
   ·have h25p := (odt (BQ h25))
    refine C9 23 28 rfl M (C9 24 28 rfl M (C9 25 28 rfl M (ob 26 28 rfl (BG rfl rfl rfl) rfl rfl M (fun _ M => yp rfl) (oc 27 28 rfl rfl M (fdn (AD (D8 rfl (AI (AD (AF (AQ rfl (BC M 0 rfl rfl rfl (CN rfl rfl ?_)))))))))))))
    refine yb rfl (fvm M 11 [1] [(45, .bool ((decide ((n.op.toNat : Int) = (1 : Int))) && ((!decide ((chk n.vl) = (0 : Int))) || (decide (n.vl.int < (0 : Int))))))] ?_ (fun k34 => ?_))
    ·intro w30 M
     refine yb rfl (fvm M 15 [1] [(61, .bool (((decide ((n.op.toNat : Int) = (1 : Int))) && ((!decide ((chk n.vl) = (0 : Int))) || (decide (n.vl.int < (0 : Int))))) || ((decide ((n.op.toNat : Int) = (2 : Int))) && ((!(CT n.nm)) || (K0 n.nm)))))] ?_ (fun k46 => ?_))
     ·intro w31 M
      refine nq (AL rfl (fun h61 => ?_) (fun h61 => ?_))
      ·have h61p := ((EO h61).imp (fun z => (And.intro (odt (CL z).1) ((EO (CL z).2).imp (fun z => (odf (CK z))) (fun z => (odt z))))) (fun z => (And.intro (odt (CL z).1) ((EO (CL z).2).imp (fun z => (CK z)) (fun z => z)))))
       exact AQ rfl (gnr (AB (gr1 rfl ⟨by rw [JG, AT h10, AT h14, AT h25, if_pos h61], M.fr⟩)))
      ·have h61p := (And.intro ((DT (CP h61).1).imp (fun z => (odf z)) (fun z => (And.intro (odt (BQ (CP z).1)) (odf (CP z).2)))) ((DT (CP h61).2).imp (fun z => (odf z)) (fun z => (And.intro (BQ (CP z).1) (CP z).2))))
       exact AI (AD (AQ rfl (BC M 0 rfl rfl rfl (D4 M 64 rfl rfl call175 (hC _ M.fr) fun w32 M => BM rfl rfl (gnr (gr1 rfl ⟨by rw [JG, AT h10, AT h14, AT h25, AT h61], M.fr⟩))))))
     refine AO (d := 46) rfl (fun h46 => ?_) (fun h46 => ?_)
     ·iterate 4 refine yo rfl ?_
      iterate 9 refine CB rfl rfl rfl rfl rfl ?_
      exact yo rfl (yb rfl (k46 M ⟨rfl, (by rw [h46]; rfl), trivial⟩))
     ·refine gyq rfl (CJ M 0 rfl rfl rfl (yd rfl (BZ rfl rfl rfl) (gyq rfl (fvm M 10 [46, 1] [(60, .bool ((decide ((n.op.toNat : Int) = (2 : Int))) && ((!(CT n.nm)) || (K0 n.nm))))] ?_ (fun k50 => ?_)))))
      ·intro w33 M
       exact yb rfl (k46 M ⟨rfl, (by rw [h46]; rfl), trivial⟩)
      refine AO (d := 50) rfl (fun h50 => ?_) (fun h50 => ?_)
      ·refine gyq rfl (CJ M 0 rfl rfl rfl (B3 (some 53) (BG rfl rfl rfl) rfl rfl (AP rfl rfl call67) (EI n.nm _ (by have := n.sm_nm hs; omega)) ?_))
       rintro _ w34 ⟨rfl, hfw34⟩
       refine ⟨_, rfl, ?_⟩
       have M := M.step hfw34
       refine gyq rfl (gyq rfl (fvm M 4 [50, 46, 1] [(59, .bool ((!(CT n.nm)) || (K0 n.nm)))] ?_ (fun k55 => ?_)))
       ·intro w35 M
        exact gyq rfl (k50 M ⟨rfl, rfl, (by rw [h50]; rfl), trivial⟩)
       refine AO (d := 55) rfl (fun h55 => ?_) (fun h55 => ?_)
       ·exact yo rfl (yo rfl (yo rfl (gyq rfl (k55 M ⟨rfl, rfl, rfl, (by rw [h55]; rfl), trivial⟩))))
       ·refine gyq rfl (CJ M 0 rfl rfl rfl (B3 (some 58) (BG rfl rfl rfl) rfl rfl (AP rfl rfl call143) (OY n.nm _) ?_))
        rintro _ w36 ⟨rfl, hfw36⟩
        refine ⟨_, rfl, ?_⟩
        have M := M.step hfw36
        exact gyq rfl (k55 M ⟨rfl, rfl, rfl, (by rw [h55]; rfl), trivial⟩)
      ·iterate 5 refine yo rfl ?_
       exact CB rfl rfl rfl rfl rfl (CB rfl rfl rfl rfl rfl (CB rfl rfl rfl rfl rfl (yo rfl (gyq rfl (k50 M ⟨rfl, rfl, (by rw [h50]; rfl), trivial⟩)))))
    refine AO (d := 34) rfl (fun h34 => ?_) (fun h34 => ?_)
    ·refine gyq rfl (yd rfl (AU (xs := [.int .u8 (n.vl.kind.toNat : Int), AJ n.vl.int, .bool n.vl.bool, str n.vl.text]) rfl rfl (FS (M.blk 0 rfl) 1 4 rfl rfl) underlying45 rfl AC) (B3 (some 37) (BG rfl rfl rfl) rfl rfl (AP rfl rfl call65) (FR n.vl _ (by have := n.sm_vl hs; omega) (GG hU M.fr)) ?_))
     rintro _ w37 ⟨rfl, hfw37⟩
     refine ⟨_, rfl, ?_⟩
     have M := M.step hfw37
     refine yd rfl (E4 rfl rfl rfl) (gyq rfl (fvm M 5 [34, 1] [(44, .bool ((!decide ((chk n.vl) = (0 : Int))) || (decide (n.vl.int < (0 : Int)))))] ?_ (fun k39 => ?_)))
     ·intro w38 M
      exact yb rfl (k34 M ⟨rfl, (by rw [h34]; rfl), trivial⟩)
     refine AO (d := 39) rfl (fun h39 => ?_) (fun h39 => ?_)
     ·iterate 4 refine yo rfl ?_
      exact gyq rfl (k39 M ⟨rfl, rfl, (by rw [h39]; rfl), trivial⟩)
     ·exact gyq rfl (gyq rfl (CJ M 0 rfl rfl rfl (yd rfl (ED rfl rfl rfl) (gyq rfl (k39 M ⟨rfl, rfl, (by rw [h39]; rfl), trivial⟩)))))
    ·iterate 5 refine yo rfl ?_
     iterate 4 refine CB rfl rfl rfl rfl rfl ?_
     exact yo rfl (yb rfl (k34 M ⟨rfl, (by rw [h34]; rfl), trivial⟩))
theorem kO (q : Xn × Option Addr) (c : Bool) (w : World) (hq : ∀ W, Fr0 w W → Calls prog 155 #[.agg (q.1.cells q.2).toArray] W fun e W' => e = .returned (.bool c) ∧ Fr0 W W') :
 Calls prog 176 #[.agg (q.1.cells q.2).toArray] w (CG w (.bool (!c))) := by
 refine C5 func176 ntmps176 rfl fun M => srg (CR M rfl rfl fun g1 w1 hg1 M => AY rfl (srg (CW M 0 rfl rfl underlying75 AZ rfl (D4 M 4 rfl rfl call155 (hq _ M.fr) fun w2 M => yb rfl (AY rfl ?_)))))
 exact BN (gr1 rfl ⟨rfl, M.fr⟩)
def chkX : Xn → Bool
 | .un o a => JG (.un o a) (!chkX a)
 | .bin o a b => JG (.bin o a b) (!chkX a || !chkX b)
 | .zero => JG .zero false
 | .lit v => JG (.lit v) false
 | .var s => JG (.var s) false
theorem QU (n : Xn) : chkX n = JG n (n.kids.any (fun a => !chkX a)) := by cases n <;> simp [chkX, Xn.kids]
theorem XG : ∀ (n : Xn) (A : Option Addr) (F : List Nat) (w : World), n.AtL 75 w A F → n.sm 1048576 → Laid w utfL → Calls prog 155 #[.agg (n.cells A).toArray] w (CG w (.bool (chkX n))) := by
 refine Xn.ind fun n ih A F w hA hs hU => ?_
 rw [QU]
 refine oG n A _ w hs hU (fun W hW => ?_)
 obtain ⟨L, hL, hk, hR, hq⟩ := (hA.fr0 hW).kids
 rw [← hk]
 refine (kA ndC nA A L.length L (by have := n.nk_le; omega) 176 [] (fun _ q => !chkX q.1) B0 (fun _ _ => True) W (GN call176 (fun q hq' w1 hf => ?_)) (fun _ hf => hR.fr0 hf) trivial).mono ?_
 ·obtain ⟨F', hF'⟩ := hq q hq'
  have hk' : q.1 ∈ n.kids := by rw [← hL]; exact List.mem_map_of_mem hq'
  exact kO q (chkX q.1) w1 (fun W' hW' => ih q.1 hk' q.2 F' W' (hF'.fr0 (hf.trans hW')) (Xn.sm_kid hs hk') (GG hU (hW.trans (hf.trans hW'))))
 ·rintro e w' ⟨rfl, _, hf⟩
  refine ⟨?_, hf⟩
  rw [JS, ← hL, List.any_map]; rfl
end Go.Proofs.YtjaocmocdhckaaaGreatDoor
