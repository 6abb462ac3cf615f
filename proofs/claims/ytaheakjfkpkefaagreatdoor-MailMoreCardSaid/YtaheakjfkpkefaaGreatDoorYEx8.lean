/- Lemmas that the last text rests on. Condition: each says its own. -/
import Derived.Test.YtaheakjfkpkefaaGreatDoorYb6
import Derived.Test.YtaheakjfkpkefaaGreatDoorYRu1
set_option maxHeartbeats 16000000
set_option maxRecDepth 100000
namespace Go.Proofs.YtaheakjfkpkefaaGreatDoor
open Go.RowKit
open Tryz
section
variable {P : Program} {ops : Array Oper} {Q : Exit → Act → World → Prop} {S : World → Prop} {t n f : Nat} {listed : Array Bool} {e : Env} {w : World}
end
theorem OI  : prog.built 100 [] = some #[.int .u8 0, AA 0, .bool false, str []] := by kernel_rfl
def O5 (op : UInt8) : Int := (if ((decide ((op.toNat : Int) < (1 : Int))) || (decide ((17 : Int) < (op.toNat : Int)))) = true then (-1) else (if (decide ((op.toNat : Int) ≤ (2 : Int))) = true then 0 else (if (decide ((op.toNat : Int) ≤ (4 : Int))) = true then 1 else 2)))
theorem oB (op : UInt8) (w : World) : Calls prog 205 #[.int .u8 (op.toNat : Int)] w (BN w (AA (O5 op))) := by
 refine BL func205 ntmps205 rfl fun M => srg (AG rfl (sx_seq (sx_block (AC rfl (BM rfl rfl (yb rfl (fvm M 3 [0] [(9, .bool ((decide ((op.toNat : Int) < 1)) || (decide (17 < (op.toNat : Int)))))] ?_ (fun k6 => ?_))))))))
 ·intro w1 M
  refine AG rfl (AF rfl (fun h3 => ?_) (fun h3 => ?_))
  ·have h3p := ((E6 h3).imp (fun z => (odt z)) (fun z => (odt z)))
   exact AC rfl (gnr (qx_block_ret (qx_then_ret (gr1 rfl ⟨by rw [O5, if_pos h3], M.fr⟩))))
  ·refine AC rfl (PR rfl rfl (AG rfl (AF rfl (fun h10 => ?_) (fun h10 => ?_))))
   ·exact AC rfl (gnr (qx_block_ret (qx_then_ret (gr1 rfl ⟨by rw [O5, AS h3, if_pos h10], M.fr⟩))))
   ·refine AC rfl (PR rfl rfl (AG rfl (AF rfl (fun h13 => ?_) (fun h13 => ?_))))
    ·exact AC rfl (gnr (qx_block_ret (qx_then_ret (gr1 rfl ⟨by rw [O5, AS h3, AS h10, if_pos h13], M.fr⟩))))
    ·exact sx_skip (qx_block_normal (qx_seq (AC rfl (gnr (gr1 rfl ⟨by rw [O5, AS h3, AS h10, AS h13], M.fr⟩)))))
 refine AD (d := 6) rfl (fun h6 => ?_) (fun h6 => ?_)
 ·exact yo rfl (yo rfl (yb rfl (k6 M ⟨rfl, (by rw [h6]; rfl), trivial⟩)))
 ·exact gyq rfl (yd rfl (G9 rfl rfl rfl) (yb rfl (k6 M ⟨rfl, (by rw [h6]; rfl), trivial⟩)))
def IQ (n : Xn) (k : Bool) : Bool := (if (!decide (((n.nk : Nat) : Int) = (O5 n.op))) = true then false else (if (!decide ((n.op.toNat : Int) = (1 : Int))) = true then (if (!(n.vl.same zeroVl)) = true then false else (if (!decide ((n.op.toNat : Int) = (2 : Int))) = true then (if (!decide (n.nm = [])) = true then false else (if (((decide ((n.op.toNat : Int) = (1 : Int))) && ((!decide ((chk n.vl) = (0 : Int))) || (decide (n.vl.int < (0 : Int))))) || ((decide ((n.op.toNat : Int) = (2 : Int))) && ((!(BU n.nm)) || (JC n.nm)))) = true then false else (!k))) else (if (((decide ((n.op.toNat : Int) = (1 : Int))) && ((!decide ((chk n.vl) = (0 : Int))) || (decide (n.vl.int < (0 : Int))))) || ((decide ((n.op.toNat : Int) = (2 : Int))) && ((!(BU n.nm)) || (JC n.nm)))) = true then false else (!k)))) else (if (!decide ((n.op.toNat : Int) = (2 : Int))) = true then (if (!decide (n.nm = [])) = true then false else (if (((decide ((n.op.toNat : Int) = (1 : Int))) && ((!decide ((chk n.vl) = (0 : Int))) || (decide (n.vl.int < (0 : Int))))) || ((decide ((n.op.toNat : Int) = (2 : Int))) && ((!(BU n.nm)) || (JC n.nm)))) = true then false else (!k))) else (if (((decide ((n.op.toNat : Int) = (1 : Int))) && ((!decide ((chk n.vl) = (0 : Int))) || (decide (n.vl.int < (0 : Int))))) || ((decide ((n.op.toNat : Int) = (2 : Int))) && ((!(BU n.nm)) || (JC n.nm)))) = true then false else (!k)))))
theorem pD (n : Xn) (A : Option Addr) (k : Bool) (w : World) (hs : n.sm 1048576) (hU : Laid w utfL) (hC : ∀ W, Fr0 w W → Calls prog 206 #[.slice A n.nk n.nk, .func (.func 207) #[] #[]] W fun e W' => e = .returned (.bool k) ∧ Fr0 W W') :
 Calls prog 190 #[.agg (n.cells A).toArray] w (BN w (.bool (IQ n k))) := by
 refine BL func190 ntmps190 rfl fun M => srg (DD M rfl rfl fun g1 w1 hg1 M => AG rfl (sx_seq (sx_seq (I6 M 28 CL fun M => oc 0 28 rfl rfl M (ol 1 28 rfl rfl rfl M (fun _ M => (M.cell 0 rfl rfl)) (oa 2 28 rfl rfl M (fun _ M => F5 rfl rfl (sl rfl)) (oc 3 28 rfl rfl M (ol 4 28 rfl rfl rfl M (fun _ M => (M.cell 0 rfl rfl)) ?_))))))))
 refine C5 5 (some 8) gkr rfl (wn_none rfl) rfl rfl (AE rfl rfl call205) (oB _ _) ?_
 rintro _ w2 ⟨rfl, hfw2⟩
 refine ⟨_, rfl, fun _ => M.step hfw2, ?_⟩
 have M := M.step hfw2
 refine oa 6 28 rfl rfl M (fun _ M => E1 rfl rfl rfl) (oc 7 28 rfl rfl M (D7 (d := 10) rfl (fun h10 => ?_) (fun h10 => ?_)))
 ·refine B5 8 28 rfl M (B5 9 28 rfl M (B5 10 28 rfl M (B5 11 28 rfl M (DU 12 28 rfl rfl M (DU 13 28 rfl rfl M (DU 14 28 rfl rfl M (DU 15 28 rfl rfl M (B5 16 28 rfl M (oc 17 28 rfl rfl M (oc 18 28 rfl rfl M (B5 19 28 rfl M (B5 20 28 rfl M (B5 21 28 rfl M (B5 22 28 rfl M (DU 23 28 rfl rfl M ?_)))))))))))))))
  exact DU 24 28 rfl rfl M (DU 25 28 rfl rfl M (B5 26 28 rfl M (oc 27 28 rfl rfl M (fdn (qx_seq (sx_true rfl (AC rfl (gnr (qx_then_ret (gr1 rfl ⟨by rw [IQ, if_pos h10], M.fr⟩))))))))))
 ·have h10p := (odt (BJ h10))
  refine ob 8 28 rfl (wn_on rfl rfl rfl) rfl rfl M (fun _ M => yp rfl) (ob 9 28 rfl (wn_on rfl rfl rfl) rfl rfl M (fun _ M => B9 rfl rfl (sc rfl) (M.cell 0 rfl rfl)) (ob 10 28 rfl (wn_on rfl rfl rfl) rfl rfl M (fun _ M => E1 rfl rfl rfl) (ob 11 28 rfl (wn_on rfl rfl rfl) rfl rfl M (fun _ M => yp rfl) (D7 (d := 14) rfl (fun h14 => ?_) (fun h14 => ?_)))))
  ·have h14p := (odf (BY h14))
   refine ob 12 28 rfl (wn_on rfl rfl rfl) rfl rfl M (fun _ M => yp rfl) (ob 13 28 rfl (wn_on rfl rfl rfl) rfl rfl M (fun _ M => AH (xs := [.int .u8 (n.vl.kind.toNat : Int), AA n.vl.int, .bool n.vl.bool, str n.vl.text]) rfl rfl (DK (M.blk 0 rfl) 1 4 rfl rfl) underlying100 rfl CT) (ob 14 28 rfl (wn_on rfl rfl rfl) rfl rfl M (fun _ M => AY (parts := []) rfl rfl (OI)) (ob 15 28 rfl (wn_on rfl rfl rfl) rfl rfl M (fun _ M => m3 (a := n.vl) (b := zeroVl) rfl rfl rfl) (ob 16 28 rfl (wn_on rfl rfl rfl) rfl rfl M (fun _ M => yp rfl) (oc 17 28 rfl rfl M (oc 18 28 rfl rfl M (D7 (d := 21) rfl (fun h21 => ?_) (fun h21 => ?_))))))))
   ·refine B5 19 28 rfl M (B5 20 28 rfl M (B5 21 28 rfl M (B5 22 28 rfl M (DU 23 28 rfl rfl M (DU 24 28 rfl rfl M (DU 25 28 rfl rfl M (B5 26 28 rfl M (oc 27 28 rfl rfl M (fdn (qx_seq (sx_true rfl (AC rfl (sxl_nil ?_)))))))))))))
    exact qx_seq (sx_ret (qx_then_ret (gr1 rfl ⟨by rw [IQ, AS h10, if_pos h14, if_pos h21], M.fr⟩)))
   ·refine ob 19 28 rfl (wn_on rfl rfl rfl) rfl rfl M (fun _ M => yp rfl) (ob 20 28 rfl (wn_on rfl rfl rfl) rfl rfl M (fun _ M => B9 rfl rfl (sc rfl) (M.cell 0 rfl rfl)) (ob 21 28 rfl (wn_on rfl rfl rfl) rfl rfl M (fun _ M => E1 rfl rfl rfl) (ob 22 28 rfl (wn_on rfl rfl rfl) rfl rfl M (fun _ M => yp rfl) (D7 (d := 25) rfl (fun h25 => ?_) (fun h25 => ?_)))))
    ·have h25p := (odf (BY h25))
     refine ob 23 28 rfl (wn_on rfl rfl rfl) rfl rfl M (fun _ M => yp rfl) (ob 24 28 rfl (wn_on rfl rfl rfl) rfl rfl M (fun _ M => B9 rfl rfl (sc rfl) (M.cell 0 rfl rfl)) (ob 25 28 rfl (wn_on rfl rfl rfl) rfl rfl M (fun _ M => FV rfl rfl rfl) (ob 26 28 rfl (wn_on rfl rfl rfl) rfl rfl M (fun _ M => yp rfl) (oc 27 28 rfl rfl M (fdn (qx_seq (AF rfl (fun h30 => ?_) (fun h30 => ?_))))))))
     ·exact AC rfl (gnr (qx_then_ret (gr1 rfl ⟨by rw [IQ, AS h10, if_pos h14, AS h21, if_pos h25, if_pos h30], M.fr⟩)))
     ·have h30p := (odt (BJ h30))
      refine sx_skip (qx_seq (sx_seq (AC rfl (B2 M 0 rfl rfl rfl (C7 rfl rfl (yb rfl (fvm M 11 [1] [(45, .bool ((decide ((n.op.toNat : Int) = 1)) && ((!decide ((chk n.vl) = (0 : Int))) || (decide (n.vl.int < (0 : Int))))))] ?_ (fun k34 => ?_))))))))
      ·intro w3 M
       refine yb rfl (fvm M 15 [1] [(61, .bool (((decide ((n.op.toNat : Int) = 1)) && ((!decide ((chk n.vl) = (0 : Int))) || (decide (n.vl.int < (0 : Int))))) || ((decide ((n.op.toNat : Int) = 2)) && ((!(BU n.nm)) || (JC n.nm)))))] ?_ (fun k46 => ?_))
       ·intro w4 M
        refine nq (AF rfl (fun h61 => ?_) (fun h61 => ?_))
        ·have h61p := ((E6 h61).imp (fun z => (And.intro (odt (BX z).1) ((E6 (BX z).2).imp (fun z => (odf (BY z))) (fun z => (odt z))))) (fun z => (And.intro (odt (BX z).1) ((E6 (BX z).2).imp (fun z => (BY z)) (fun z => z)))))
         exact AC rfl (gnr (qx_then_ret (gr1 rfl ⟨by rw [IQ, AS h10, if_pos h14, AS h21, if_pos h25, AS h30, if_pos h61], M.fr⟩)))
        ·have h61p := (And.intro ((DA (BT h61).1).imp (fun z => (odf z)) (fun z => (And.intro (odt (BJ (BT z).1)) (odf (BT z).2)))) ((DA (BT h61).2).imp (fun z => (odf z)) (fun z => (And.intro (BJ (BT z).1) (BT z).2))))
         exact sx_skip (qx_seq (AC rfl (B2 M 0 rfl rfl rfl (DV M 64 rfl rfl call206 (hC _ M.fr) fun w5 M => AV rfl rfl (gnr (gr1 rfl ⟨by rw [IQ, AS h10, if_pos h14, AS h21, if_pos h25, AS h30, AS h61], M.fr⟩))))))
       refine AD (d := 46) rfl (fun h46 => ?_) (fun h46 => ?_)
       ·iterate 4 refine yo rfl ?_
        iterate 9 refine BE rfl rfl rfl rfl rfl ?_
        exact yo rfl (yb rfl (k46 M ⟨rfl, (by rw [h46]; rfl), trivial⟩))
       ·refine gyq rfl (C3 M 0 rfl rfl rfl (yd rfl (BO rfl rfl rfl) (gyq rfl (fvm M 10 [46, 1] [(60, .bool ((decide ((n.op.toNat : Int) = 2)) && ((!(BU n.nm)) || (JC n.nm))))] ?_ (fun k50 => ?_)))))
        ·intro w6 M
         exact yb rfl (k46 M ⟨rfl, (by rw [h46]; rfl), trivial⟩)
        refine AD (d := 50) rfl (fun h50 => ?_) (fun h50 => ?_)
        ·refine gyq rfl (C3 M 0 rfl rfl rfl (sxl_call (some 53) (wn_on rfl rfl rfl) rfl rfl (AE rfl rfl call61) (DJ n.nm _ (by have := n.sm_nm hs; omega)) ?_))
         rintro _ w7 ⟨rfl, hfw7⟩
         refine ⟨_, rfl, ?_⟩
         have M := M.step hfw7
         refine gyq rfl (gyq rfl (fvm M 4 [50, 46, 1] [(59, .bool ((!(BU n.nm)) || (JC n.nm)))] ?_ (fun k55 => ?_)))
         ·intro w8 M
          exact gyq rfl (k50 M ⟨rfl, rfl, (by rw [h50]; rfl), trivial⟩)
         refine AD (d := 55) rfl (fun h55 => ?_) (fun h55 => ?_)
         ·exact yo rfl (yo rfl (yo rfl (gyq rfl (k55 M ⟨rfl, rfl, rfl, (by rw [h55]; rfl), trivial⟩))))
         ·refine gyq rfl (C3 M 0 rfl rfl rfl (sxl_call (some 58) (wn_on rfl rfl rfl) rfl rfl (AE rfl rfl call174) (O6 n.nm _) ?_))
          rintro _ w9 ⟨rfl, hfw9⟩
          refine ⟨_, rfl, ?_⟩
          have M := M.step hfw9
          exact gyq rfl (k55 M ⟨rfl, rfl, rfl, (by rw [h55]; rfl), trivial⟩)
        ·iterate 5 refine yo rfl ?_
         exact BE rfl rfl rfl rfl rfl (BE rfl rfl rfl rfl rfl (BE rfl rfl rfl rfl rfl (yo rfl (gyq rfl (k50 M ⟨rfl, rfl, (by rw [h50]; rfl), trivial⟩)))))
      refine AD (d := 34) rfl (fun h34 => ?_) (fun h34 => ?_)
      ·refine gyq rfl (yd rfl (AH (xs := [.int .u8 (n.vl.kind.toNat : Int), AA n.vl.int, .bool n.vl.bool, str n.vl.text]) rfl rfl (DK (M.blk 0 rfl) 1 4 rfl rfl) underlying100 rfl CT) (sxl_call (some 37) (wn_on rfl rfl rfl) rfl rfl (AE rfl rfl call59) (HC n.vl _ (by have := n.sm_vl hs; omega) (FG hU M.fr)) ?_))
       rintro _ w10 ⟨rfl, hfw10⟩
       refine ⟨_, rfl, ?_⟩
       have M := M.step hfw10
       refine yd rfl (E1 rfl rfl rfl) (gyq rfl (fvm M 5 [34, 1] [(44, .bool ((!decide ((chk n.vl) = (0 : Int))) || (decide (n.vl.int < (0 : Int)))))] ?_ (fun k39 => ?_)))
       ·intro w11 M
        exact yb rfl (k34 M ⟨rfl, (by rw [h34]; rfl), trivial⟩)
       refine AD (d := 39) rfl (fun h39 => ?_) (fun h39 => ?_)
       ·iterate 4 refine yo rfl ?_
        exact gyq rfl (k39 M ⟨rfl, rfl, (by rw [h39]; rfl), trivial⟩)
       ·exact gyq rfl (gyq rfl (C3 M 0 rfl rfl rfl (yd rfl (EQ rfl rfl rfl) (gyq rfl (k39 M ⟨rfl, rfl, (by rw [h39]; rfl), trivial⟩)))))
      ·iterate 5 refine yo rfl ?_
       iterate 4 refine BE rfl rfl rfl rfl rfl ?_
       exact yo rfl (yb rfl (k34 M ⟨rfl, (by rw [h34]; rfl), trivial⟩))
    ·have h25p := (odt (BJ h25))
     refine B5 23 28 rfl M (B5 24 28 rfl M (B5 25 28 rfl M (ob 26 28 rfl (wn_on rfl rfl rfl) rfl rfl M (fun _ M => yp rfl) (oc 27 28 rfl rfl M (fdn (qx_seq (sx_false rfl (sx_skip (qx_seq (sx_seq (AC rfl (B2 M 0 rfl rfl rfl (C7 rfl rfl ?_)))))))))))))
     refine yb rfl (fvm M 11 [1] [(45, .bool ((decide ((n.op.toNat : Int) = 1)) && ((!decide ((chk n.vl) = (0 : Int))) || (decide (n.vl.int < (0 : Int))))))] ?_ (fun k34 => ?_))
     ·intro w12 M
      refine yb rfl (fvm M 15 [1] [(61, .bool (((decide ((n.op.toNat : Int) = 1)) && ((!decide ((chk n.vl) = (0 : Int))) || (decide (n.vl.int < (0 : Int))))) || ((decide ((n.op.toNat : Int) = 2)) && ((!(BU n.nm)) || (JC n.nm)))))] ?_ (fun k46 => ?_))
      ·intro w13 M
       refine nq (AF rfl (fun h61 => ?_) (fun h61 => ?_))
       ·have h61p := ((E6 h61).imp (fun z => (And.intro (odt (BX z).1) ((E6 (BX z).2).imp (fun z => (odf (BY z))) (fun z => (odt z))))) (fun z => (And.intro (odt (BX z).1) ((E6 (BX z).2).imp (fun z => (BY z)) (fun z => z)))))
        exact AC rfl (gnr (qx_then_ret (gr1 rfl ⟨by rw [IQ, AS h10, if_pos h14, AS h21, AS h25, if_pos h61], M.fr⟩)))
       ·have h61p := (And.intro ((DA (BT h61).1).imp (fun z => (odf z)) (fun z => (And.intro (odt (BJ (BT z).1)) (odf (BT z).2)))) ((DA (BT h61).2).imp (fun z => (odf z)) (fun z => (And.intro (BJ (BT z).1) (BT z).2))))
        exact sx_skip (qx_seq (AC rfl (B2 M 0 rfl rfl rfl (DV M 64 rfl rfl call206 (hC _ M.fr) fun w14 M => AV rfl rfl (gnr (gr1 rfl ⟨by rw [IQ, AS h10, if_pos h14, AS h21, AS h25, AS h61], M.fr⟩))))))
      refine AD (d := 46) rfl (fun h46 => ?_) (fun h46 => ?_)
      ·iterate 4 refine yo rfl ?_
       iterate 9 refine BE rfl rfl rfl rfl rfl ?_
       exact yo rfl (yb rfl (k46 M ⟨rfl, (by rw [h46]; rfl), trivial⟩))
      ·refine gyq rfl (C3 M 0 rfl rfl rfl (yd rfl (BO rfl rfl rfl) (gyq rfl (fvm M 10 [46, 1] [(60, .bool ((decide ((n.op.toNat : Int) = 2)) && ((!(BU n.nm)) || (JC n.nm))))] ?_ (fun k50 => ?_)))))
       ·intro w15 M
        exact yb rfl (k46 M ⟨rfl, (by rw [h46]; rfl), trivial⟩)
       refine AD (d := 50) rfl (fun h50 => ?_) (fun h50 => ?_)
       ·refine gyq rfl (C3 M 0 rfl rfl rfl (sxl_call (some 53) (wn_on rfl rfl rfl) rfl rfl (AE rfl rfl call61) (DJ n.nm _ (by have := n.sm_nm hs; omega)) ?_))
        rintro _ w16 ⟨rfl, hfw16⟩
        refine ⟨_, rfl, ?_⟩
        have M := M.step hfw16
        refine gyq rfl (gyq rfl (fvm M 4 [50, 46, 1] [(59, .bool ((!(BU n.nm)) || (JC n.nm)))] ?_ (fun k55 => ?_)))
        ·intro w17 M
         exact gyq rfl (k50 M ⟨rfl, rfl, (by rw [h50]; rfl), trivial⟩)
        refine AD (d := 55) rfl (fun h55 => ?_) (fun h55 => ?_)
        ·exact yo rfl (yo rfl (yo rfl (gyq rfl (k55 M ⟨rfl, rfl, rfl, (by rw [h55]; rfl), trivial⟩))))
        ·refine gyq rfl (C3 M 0 rfl rfl rfl (sxl_call (some 58) (wn_on rfl rfl rfl) rfl rfl (AE rfl rfl call174) (O6 n.nm _) ?_))
         rintro _ w18 ⟨rfl, hfw18⟩
         refine ⟨_, rfl, ?_⟩
         have M := M.step hfw18
         exact gyq rfl (k55 M ⟨rfl, rfl, rfl, (by rw [h55]; rfl), trivial⟩)
       ·iterate 5 refine yo rfl ?_
        exact BE rfl rfl rfl rfl rfl (BE rfl rfl rfl rfl rfl (BE rfl rfl rfl rfl rfl (yo rfl (gyq rfl (k50 M ⟨rfl, rfl, (by rw [h50]; rfl), trivial⟩)))))
     refine AD (d := 34) rfl (fun h34 => ?_) (fun h34 => ?_)
     ·refine gyq rfl (yd rfl (AH (xs := [.int .u8 (n.vl.kind.toNat : Int), AA n.vl.int, .bool n.vl.bool, str n.vl.text]) rfl rfl (DK (M.blk 0 rfl) 1 4 rfl rfl) underlying100 rfl CT) (sxl_call (some 37) (wn_on rfl rfl rfl) rfl rfl (AE rfl rfl call59) (HC n.vl _ (by have := n.sm_vl hs; omega) (FG hU M.fr)) ?_))
      rintro _ w19 ⟨rfl, hfw19⟩
      refine ⟨_, rfl, ?_⟩
      have M := M.step hfw19
      refine yd rfl (E1 rfl rfl rfl) (gyq rfl (fvm M 5 [34, 1] [(44, .bool ((!decide ((chk n.vl) = (0 : Int))) || (decide (n.vl.int < (0 : Int)))))] ?_ (fun k39 => ?_)))
      ·intro w20 M
       exact yb rfl (k34 M ⟨rfl, (by rw [h34]; rfl), trivial⟩)
      refine AD (d := 39) rfl (fun h39 => ?_) (fun h39 => ?_)
      ·iterate 4 refine yo rfl ?_
       exact gyq rfl (k39 M ⟨rfl, rfl, (by rw [h39]; rfl), trivial⟩)
      ·exact gyq rfl (gyq rfl (C3 M 0 rfl rfl rfl (yd rfl (EQ rfl rfl rfl) (gyq rfl (k39 M ⟨rfl, rfl, (by rw [h39]; rfl), trivial⟩)))))
     ·iterate 5 refine yo rfl ?_
      iterate 4 refine BE rfl rfl rfl rfl rfl ?_
      exact yo rfl (yb rfl (k34 M ⟨rfl, (by rw [h34]; rfl), trivial⟩))
  ·have h14p := (odt (BJ h14))
   refine B5 12 28 rfl M (B5 13 28 rfl M (B5 14 28 rfl M (B5 15 28 rfl M (ob 16 28 rfl (wn_on rfl rfl rfl) rfl rfl M (fun _ M => yp rfl) (oc 17 28 rfl rfl M (oc 18 28 rfl rfl M (ob 19 28 rfl (wn_on rfl rfl rfl) rfl rfl M (fun _ M => yp rfl) (ob 20 28 rfl (wn_on rfl rfl rfl) rfl rfl M (fun _ M => B9 rfl rfl (sc rfl) (M.cell 0 rfl rfl)) (ob 21 28 rfl (wn_on rfl rfl rfl) rfl rfl M (fun _ M => E1 rfl rfl rfl) (ob 22 28 rfl (wn_on rfl rfl rfl) rfl rfl M (fun _ M => yp rfl) (D7 (d := 25) rfl (fun h25 => ?_) (fun h25 => ?_))))))))))))
   ·have h25p := (odf (BY h25))
    refine ob 23 28 rfl (wn_on rfl rfl rfl) rfl rfl M (fun _ M => yp rfl) (ob 24 28 rfl (wn_on rfl rfl rfl) rfl rfl M (fun _ M => B9 rfl rfl (sc rfl) (M.cell 0 rfl rfl)) (ob 25 28 rfl (wn_on rfl rfl rfl) rfl rfl M (fun _ M => FV rfl rfl rfl) (ob 26 28 rfl (wn_on rfl rfl rfl) rfl rfl M (fun _ M => yp rfl) (oc 27 28 rfl rfl M (fdn (qx_seq (AF rfl (fun h30 => ?_) (fun h30 => ?_))))))))
    ·exact AC rfl (gnr (qx_then_ret (gr1 rfl ⟨by rw [IQ, AS h10, AS h14, if_pos h25, if_pos h30], M.fr⟩)))
    ·have h30p := (odt (BJ h30))
     refine sx_skip (qx_seq (sx_seq (AC rfl (B2 M 0 rfl rfl rfl (C7 rfl rfl (yb rfl (fvm M 11 [1] [(45, .bool ((decide ((n.op.toNat : Int) = 1)) && ((!decide ((chk n.vl) = (0 : Int))) || (decide (n.vl.int < (0 : Int))))))] ?_ (fun k34 => ?_))))))))
     ·intro w21 M
      refine yb rfl (fvm M 15 [1] [(61, .bool (((decide ((n.op.toNat : Int) = 1)) && ((!decide ((chk n.vl) = (0 : Int))) || (decide (n.vl.int < (0 : Int))))) || ((decide ((n.op.toNat : Int) = 2)) && ((!(BU n.nm)) || (JC n.nm)))))] ?_ (fun k46 => ?_))
      ·intro w22 M
       refine nq (AF rfl (fun h61 => ?_) (fun h61 => ?_))
       ·have h61p := ((E6 h61).imp (fun z => (And.intro (odt (BX z).1) ((E6 (BX z).2).imp (fun z => (odf (BY z))) (fun z => (odt z))))) (fun z => (And.intro (odt (BX z).1) ((E6 (BX z).2).imp (fun z => (BY z)) (fun z => z)))))
        exact AC rfl (gnr (qx_then_ret (gr1 rfl ⟨by rw [IQ, AS h10, AS h14, if_pos h25, AS h30, if_pos h61], M.fr⟩)))
       ·have h61p := (And.intro ((DA (BT h61).1).imp (fun z => (odf z)) (fun z => (And.intro (odt (BJ (BT z).1)) (odf (BT z).2)))) ((DA (BT h61).2).imp (fun z => (odf z)) (fun z => (And.intro (BJ (BT z).1) (BT z).2))))
        exact sx_skip (qx_seq (AC rfl (B2 M 0 rfl rfl rfl (DV M 64 rfl rfl call206 (hC _ M.fr) fun w23 M => AV rfl rfl (gnr (gr1 rfl ⟨by rw [IQ, AS h10, AS h14, if_pos h25, AS h30, AS h61], M.fr⟩))))))
      refine AD (d := 46) rfl (fun h46 => ?_) (fun h46 => ?_)
      ·iterate 4 refine yo rfl ?_
       iterate 9 refine BE rfl rfl rfl rfl rfl ?_
       exact yo rfl (yb rfl (k46 M ⟨rfl, (by rw [h46]; rfl), trivial⟩))
      ·refine gyq rfl (C3 M 0 rfl rfl rfl (yd rfl (BO rfl rfl rfl) (gyq rfl (fvm M 10 [46, 1] [(60, .bool ((decide ((n.op.toNat : Int) = 2)) && ((!(BU n.nm)) || (JC n.nm))))] ?_ (fun k50 => ?_)))))
       ·intro w24 M
        exact yb rfl (k46 M ⟨rfl, (by rw [h46]; rfl), trivial⟩)
       refine AD (d := 50) rfl (fun h50 => ?_) (fun h50 => ?_)
       ·refine gyq rfl (C3 M 0 rfl rfl rfl (sxl_call (some 53) (wn_on rfl rfl rfl) rfl rfl (AE rfl rfl call61) (DJ n.nm _ (by have := n.sm_nm hs; omega)) ?_))
        rintro _ w25 ⟨rfl, hfw25⟩
        refine ⟨_, rfl, ?_⟩
        have M := M.step hfw25
        refine gyq rfl (gyq rfl (fvm M 4 [50, 46, 1] [(59, .bool ((!(BU n.nm)) || (JC n.nm)))] ?_ (fun k55 => ?_)))
        ·intro w26 M
         exact gyq rfl (k50 M ⟨rfl, rfl, (by rw [h50]; rfl), trivial⟩)
        refine AD (d := 55) rfl (fun h55 => ?_) (fun h55 => ?_)
        ·exact yo rfl (yo rfl (yo rfl (gyq rfl (k55 M ⟨rfl, rfl, rfl, (by rw [h55]; rfl), trivial⟩))))
        ·refine gyq rfl (C3 M 0 rfl rfl rfl (sxl_call (some 58) (wn_on rfl rfl rfl) rfl rfl (AE rfl rfl call174) (O6 n.nm _) ?_))
         rintro _ w27 ⟨rfl, hfw27⟩
         refine ⟨_, rfl, ?_⟩
         have M := M.step hfw27
         exact gyq rfl (k55 M ⟨rfl, rfl, rfl, (by rw [h55]; rfl), trivial⟩)
       ·iterate 5 refine yo rfl ?_
        exact BE rfl rfl rfl rfl rfl (BE rfl rfl rfl rfl rfl (BE rfl rfl rfl rfl rfl (yo rfl (gyq rfl (k50 M ⟨rfl, rfl, (by rw [h50]; rfl), trivial⟩)))))
     refine AD (d := 34) rfl (fun h34 => ?_) (fun h34 => ?_)
     ·refine gyq rfl (yd rfl (AH (xs := [.int .u8 (n.vl.kind.toNat : Int), AA n.vl.int, .bool n.vl.bool, str n.vl.text]) rfl rfl (DK (M.blk 0 rfl) 1 4 rfl rfl) underlying100 rfl CT) (sxl_call (some 37) (wn_on rfl rfl rfl) rfl rfl (AE rfl rfl call59) (HC n.vl _ (by have := n.sm_vl hs; omega) (FG hU M.fr)) ?_))
      rintro _ w28 ⟨rfl, hfw28⟩
      refine ⟨_, rfl, ?_⟩
      have M := M.step hfw28
      refine yd rfl (E1 rfl rfl rfl) (gyq rfl (fvm M 5 [34, 1] [(44, .bool ((!decide ((chk n.vl) = (0 : Int))) || (decide (n.vl.int < (0 : Int)))))] ?_ (fun k39 => ?_)))
      ·intro w29 M
       exact yb rfl (k34 M ⟨rfl, (by rw [h34]; rfl), trivial⟩)
      refine AD (d := 39) rfl (fun h39 => ?_) (fun h39 => ?_)
      ·iterate 4 refine yo rfl ?_
       exact gyq rfl (k39 M ⟨rfl, rfl, (by rw [h39]; rfl), trivial⟩)
      ·exact gyq rfl (gyq rfl (C3 M 0 rfl rfl rfl (yd rfl (EQ rfl rfl rfl) (gyq rfl (k39 M ⟨rfl, rfl, (by rw [h39]; rfl), trivial⟩)))))
     ·iterate 5 refine yo rfl ?_
      iterate 4 refine BE rfl rfl rfl rfl rfl ?_
      exact yo rfl (yb rfl (k34 M ⟨rfl, (by rw [h34]; rfl), trivial⟩))
   ·have h25p := (odt (BJ h25))
    refine B5 23 28 rfl M (B5 24 28 rfl M (B5 25 28 rfl M (ob 26 28 rfl (wn_on rfl rfl rfl) rfl rfl M (fun _ M => yp rfl) (oc 27 28 rfl rfl M (fdn (qx_seq (sx_false rfl (sx_skip (qx_seq (sx_seq (AC rfl (B2 M 0 rfl rfl rfl (C7 rfl rfl ?_)))))))))))))
    refine yb rfl (fvm M 11 [1] [(45, .bool ((decide ((n.op.toNat : Int) = 1)) && ((!decide ((chk n.vl) = (0 : Int))) || (decide (n.vl.int < (0 : Int))))))] ?_ (fun k34 => ?_))
    ·intro w30 M
     refine yb rfl (fvm M 15 [1] [(61, .bool (((decide ((n.op.toNat : Int) = 1)) && ((!decide ((chk n.vl) = (0 : Int))) || (decide (n.vl.int < (0 : Int))))) || ((decide ((n.op.toNat : Int) = 2)) && ((!(BU n.nm)) || (JC n.nm)))))] ?_ (fun k46 => ?_))
     ·intro w31 M
      refine nq (AF rfl (fun h61 => ?_) (fun h61 => ?_))
      ·have h61p := ((E6 h61).imp (fun z => (And.intro (odt (BX z).1) ((E6 (BX z).2).imp (fun z => (odf (BY z))) (fun z => (odt z))))) (fun z => (And.intro (odt (BX z).1) ((E6 (BX z).2).imp (fun z => (BY z)) (fun z => z)))))
       exact AC rfl (gnr (qx_then_ret (gr1 rfl ⟨by rw [IQ, AS h10, AS h14, AS h25, if_pos h61], M.fr⟩)))
      ·have h61p := (And.intro ((DA (BT h61).1).imp (fun z => (odf z)) (fun z => (And.intro (odt (BJ (BT z).1)) (odf (BT z).2)))) ((DA (BT h61).2).imp (fun z => (odf z)) (fun z => (And.intro (BJ (BT z).1) (BT z).2))))
       exact sx_skip (qx_seq (AC rfl (B2 M 0 rfl rfl rfl (DV M 64 rfl rfl call206 (hC _ M.fr) fun w32 M => AV rfl rfl (gnr (gr1 rfl ⟨by rw [IQ, AS h10, AS h14, AS h25, AS h61], M.fr⟩))))))
     refine AD (d := 46) rfl (fun h46 => ?_) (fun h46 => ?_)
     ·iterate 4 refine yo rfl ?_
      iterate 9 refine BE rfl rfl rfl rfl rfl ?_
      exact yo rfl (yb rfl (k46 M ⟨rfl, (by rw [h46]; rfl), trivial⟩))
     ·refine gyq rfl (C3 M 0 rfl rfl rfl (yd rfl (BO rfl rfl rfl) (gyq rfl (fvm M 10 [46, 1] [(60, .bool ((decide ((n.op.toNat : Int) = 2)) && ((!(BU n.nm)) || (JC n.nm))))] ?_ (fun k50 => ?_)))))
      ·intro w33 M
       exact yb rfl (k46 M ⟨rfl, (by rw [h46]; rfl), trivial⟩)
      refine AD (d := 50) rfl (fun h50 => ?_) (fun h50 => ?_)
      ·refine gyq rfl (C3 M 0 rfl rfl rfl (sxl_call (some 53) (wn_on rfl rfl rfl) rfl rfl (AE rfl rfl call61) (DJ n.nm _ (by have := n.sm_nm hs; omega)) ?_))
       rintro _ w34 ⟨rfl, hfw34⟩
       refine ⟨_, rfl, ?_⟩
       have M := M.step hfw34
       refine gyq rfl (gyq rfl (fvm M 4 [50, 46, 1] [(59, .bool ((!(BU n.nm)) || (JC n.nm)))] ?_ (fun k55 => ?_)))
       ·intro w35 M
        exact gyq rfl (k50 M ⟨rfl, rfl, (by rw [h50]; rfl), trivial⟩)
       refine AD (d := 55) rfl (fun h55 => ?_) (fun h55 => ?_)
       ·exact yo rfl (yo rfl (yo rfl (gyq rfl (k55 M ⟨rfl, rfl, rfl, (by rw [h55]; rfl), trivial⟩))))
       ·refine gyq rfl (C3 M 0 rfl rfl rfl (sxl_call (some 58) (wn_on rfl rfl rfl) rfl rfl (AE rfl rfl call174) (O6 n.nm _) ?_))
        rintro _ w36 ⟨rfl, hfw36⟩
        refine ⟨_, rfl, ?_⟩
        have M := M.step hfw36
        exact gyq rfl (k55 M ⟨rfl, rfl, rfl, (by rw [h55]; rfl), trivial⟩)
      ·iterate 5 refine yo rfl ?_
       exact BE rfl rfl rfl rfl rfl (BE rfl rfl rfl rfl rfl (BE rfl rfl rfl rfl rfl (yo rfl (gyq rfl (k50 M ⟨rfl, rfl, (by rw [h50]; rfl), trivial⟩)))))
    refine AD (d := 34) rfl (fun h34 => ?_) (fun h34 => ?_)
    ·refine gyq rfl (yd rfl (AH (xs := [.int .u8 (n.vl.kind.toNat : Int), AA n.vl.int, .bool n.vl.bool, str n.vl.text]) rfl rfl (DK (M.blk 0 rfl) 1 4 rfl rfl) underlying100 rfl CT) (sxl_call (some 37) (wn_on rfl rfl rfl) rfl rfl (AE rfl rfl call59) (HC n.vl _ (by have := n.sm_vl hs; omega) (FG hU M.fr)) ?_))
     rintro _ w37 ⟨rfl, hfw37⟩
     refine ⟨_, rfl, ?_⟩
     have M := M.step hfw37
     refine yd rfl (E1 rfl rfl rfl) (gyq rfl (fvm M 5 [34, 1] [(44, .bool ((!decide ((chk n.vl) = (0 : Int))) || (decide (n.vl.int < (0 : Int)))))] ?_ (fun k39 => ?_)))
     ·intro w38 M
      exact yb rfl (k34 M ⟨rfl, (by rw [h34]; rfl), trivial⟩)
     refine AD (d := 39) rfl (fun h39 => ?_) (fun h39 => ?_)
     ·iterate 4 refine yo rfl ?_
      exact gyq rfl (k39 M ⟨rfl, rfl, (by rw [h39]; rfl), trivial⟩)
     ·exact gyq rfl (gyq rfl (C3 M 0 rfl rfl rfl (yd rfl (EQ rfl rfl rfl) (gyq rfl (k39 M ⟨rfl, rfl, (by rw [h39]; rfl), trivial⟩)))))
    ·iterate 5 refine yo rfl ?_
     iterate 4 refine BE rfl rfl rfl rfl rfl ?_
     exact yo rfl (yb rfl (k34 M ⟨rfl, (by rw [h34]; rfl), trivial⟩))
theorem lK (q : Xn × Option Addr) (c : Bool) (w : World) (hq : ∀ W, Fr0 w W → Calls prog 190 #[.agg (q.1.cells q.2).toArray] W fun e W' => e = .returned (.bool c) ∧ Fr0 W W') :
 Calls prog 207 #[.agg (q.1.cells q.2).toArray] w (BN w (.bool (!c))) := by
 refine BL func207 ntmps207 rfl fun M => srg (DD M rfl rfl fun g1 w1 hg1 M => AG rfl (srg (DO M 0 rfl rfl underlying112 AI rfl (DV M 4 rfl rfl call190 (hq _ M.fr) fun w2 M => yb rfl (AG rfl ?_)))))
 exact sx_ret (gr1 rfl ⟨rfl, M.fr⟩)
def chkX : Xn → Bool
 | .un o a => IQ (.un o a) (!chkX a)
 | .bin o a b => IQ (.bin o a b) (!chkX a || !chkX b)
 | .zero => IQ .zero false
 | .lit v => IQ (.lit v) false
 | .var s => IQ (.var s) false
theorem VB (n : Xn) : chkX n = IQ n (n.kids.any (fun a => !chkX a)) := by cases n <;> simp [chkX, Xn.kids]
theorem lI : ∀ (n : Xn) (A : Option Addr) (F : List Nat) (w : World), n.AtL 112 w A F → n.sm 1048576 → Laid w utfL → Calls prog 190 #[.agg (n.cells A).toArray] w (BN w (.bool (chkX n))) := by
 refine Xn.ind fun n ih A F w hA hs hU => ?_
 rw [VB]
 refine pD n A _ w hs hU (fun W hW => ?_)
 obtain ⟨L, hL, hk, hR, hq⟩ := (hA.fr0 hW).kids
 rw [← hk]
 refine (l6 ndC nZ A L.length L (by have := n.nk_le; omega) 207 [] (fun _ q => !chkX q.1) AM (fun _ _ => True) W (G3 call207 (fun q hq' w1 hf => ?_)) (fun _ hf => hR.fr0 hf) trivial).mono ?_
 ·obtain ⟨F', hF'⟩ := hq q hq'
  have hk' : q.1 ∈ n.kids := by rw [← hL]; exact List.mem_map_of_mem hq'
  exact lK q (chkX q.1) w1 (fun W' hW' => ih q.1 hk' q.2 F' W' (hF'.fr0 (hf.trans hW')) (Xn.sm_kid hs hk') (FG hU (hW.trans (hf.trans hW'))))
 ·rintro e w' ⟨rfl, _, hf⟩
  refine ⟨?_, hf⟩
  rw [J1, ← hL, List.any_map]; rfl
end Go.Proofs.YtaheakjfkpkefaaGreatDoor
