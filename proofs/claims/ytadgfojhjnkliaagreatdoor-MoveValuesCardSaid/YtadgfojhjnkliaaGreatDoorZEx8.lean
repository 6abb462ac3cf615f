/- Lemmas that the last text rests on. Condition: each says its own. -/
import Derived.Test.YtadgfojhjnkliaaGreatDoorZb9
import Derived.Test.YtadgfojhjnkliaaGreatDoorZRu0
import Derived.Test.YtadgfojhjnkliaaGreatDoorZSxG
set_option maxHeartbeats 16000000
set_option maxRecDepth 100000
namespace Go.Proofs.YtadgfojhjnkliaaGreatDoor
open Go.RowKit
open Tryz
section
variable {P : Program} {ops : Array Oper} {Q : Exit → Act → World → Prop} {S : World → Prop} {t n f : Nat} {listed : Array Bool} {e : Env} {w : World}
theorem F6 {o : Oper} {d d0 j : Nat} {b : Bool} (i h : Nat) (hs : Region.noSelect ops = true) (hQ : ∀ c (a : Act) t v w, Q (.panic c) (a.put t v) w → Q (.panic c) a w) (hwait : HL ops h t = true) (hih : Nat.blt i h = true)
 (hf : Region.free .any ops listed i = true) (hr : (Region.ready .any ops listed).contains i = true) (ho : ops[i]? = some o) (hg : o.guard = some (j, b)) (hj : (ops[j]?).bind (·.dst) = some d0) (hb : e.get d0 = some undef) (hd : o.dst = some d) (hn : Nat.blt d n = true) (hS : S w)
 (k : SxO P ops Q t S n f (listed.setIfInBounds i true) ((d, undef) :: e) w) : SxO P ops Q t S n (f + 1) listed e w := ⟨fun a ha => by
 have hw : Region.wanted o (yielded ops a.tmps) = false := by
  simp [Region.wanted, hg, yielded, hj, ha.get d0 _ hb, undef]
 refine JF (v := undef) ho (Region.noSelect_spec hs) (fun c a w => hQ c a _ _ w) hwait (AZ hih) f listed a w (Region.free_spec ho hf) (by simpa using hr) (.inr ⟨hw, rfl⟩) hS ?_
 rw [hd]; exact k.run _ (ha.put (AZ hn) undef)⟩
end
theorem N5  : prog.built 67 [] = some #[.int .u8 0, .int .i64 0, .bool false, str []] := by kernel_rfl
def KY (op : UInt8) : Int := (if ((decide ((op.toNat : Int) < (1 : Int))) || (decide ((17 : Int) < (op.toNat : Int)))) = true then (-1) else (if (decide ((op.toNat : Int) ≤ (2 : Int))) = true then 0 else (if (decide ((op.toNat : Int) ≤ (4 : Int))) = true then 1 else 2)))
theorem nZ (op : UInt8) (w : World) : Calls prog 172 #[.int .u8 (op.toNat : Int)] w fun e w' => e = .returned (.int .i64 (KY op)) ∧ Fr0 w w' := by
 refine AK (vs := [_]) func172 rfl ntmps172 rfl ?_
 have M := CK w
 refine A4 (A0 (yb rfl (A1 (A2 (A4 (AV (A4 (A0 (yb rfl (ya rfl (CH rfl rfl rfl) (yb rfl (AT 3 [(0, .int .u8 (op.toNat : Int)), (9, .bool ((decide ((op.toNat : Int) < (1 : Int))) || (decide ((17 : Int) < (op.toNat : Int)))))] (fun w' => Mem w AB [] w') ?_ (fun k6 => ?_)))))))))))))
 ·intro w1 M
  refine yb rfl (A1 (A2 (AQ (b := ((decide ((op.toNat : Int) < (1 : Int))) || (decide ((17 : Int) < (op.toNat : Int))))) rfl (fun h3 => ?_) (fun h3 => ?_))))
  ·have h3p := ((EK h3).imp (fun z => (odt z)) (fun z => (odt z)))
   exact A4 (A0 (yb rfl (A1 (A2 (AD (AJ (AA (AH rfl rfl ⟨by rw [KY, if_pos h3], M.fr⟩))))))))
  ·have h3p := (And.intro (odf (CA h3).1) (odf (CA h3).2))
   refine A4 (A0 (yb rfl (ya rfl (I2 rfl rfl rfl) (yb rfl (A1 (A2 (AQ (b := (decide ((op.toNat : Int) ≤ (2 : Int)))) rfl (fun h10 => ?_) (fun h10 => ?_))))))))
   ·have h10p := (odt h10)
    exact A4 (A0 (yb rfl (A1 (A2 (AD (AJ (AA (AH rfl rfl ⟨by rw [KY, if_neg (BA h3), if_pos h10], M.fr⟩))))))))
   ·have h10p := (odf h10)
    refine A4 (A0 (yb rfl (ya rfl (I2 rfl rfl rfl) (yb rfl (A1 (A2 (AQ (b := (decide ((op.toNat : Int) ≤ (4 : Int)))) rfl (fun h13 => ?_) (fun h13 => ?_))))))))
    ·have h13p := (odt h13)
     exact A4 (A0 (yb rfl (A1 (A2 (AD (AJ (AA (AH rfl rfl ⟨by rw [KY, if_neg (BA h3), if_neg (BA h10), if_pos h13], M.fr⟩))))))))
    ·have h13p := (odf h13)
     exact AL (AC (A2 (A4 (A0 (yb rfl (A1 (A2 (AD (AH rfl rfl ⟨by rw [KY, if_neg (BA h3), if_neg (BA h10), if_neg (BA h13)], M.fr⟩)))))))))
 refine AE (d := 6) (b := (decide ((op.toNat : Int) < (1 : Int)))) rfl (fun h6 => ?_) (fun h6 => ?_)
 ·exact yo rfl (yo rfl (yb rfl (k6 _ _ M ⟨rfl, (by rw [h6]; rfl), trivial⟩)))
 ·exact yd rfl (yp rfl) (yd rfl (FR rfl rfl rfl) (yb rfl (k6 _ _ M ⟨rfl, (by rw [h6]; rfl), trivial⟩)))
def IG (n : Xn) (k : Bool) : Bool := (if (!decide (((n.nk : Nat) : Int) = (KY n.op))) = true then false else (if (!decide ((n.op.toNat : Int) = (1 : Int))) = true then (if (!(n.vl.same zeroVl)) = true then false else (if (!decide ((n.op.toNat : Int) = (2 : Int))) = true then (if (!decide (n.nm = [])) = true then false else (if (((decide ((n.op.toNat : Int) = (1 : Int))) && ((!decide ((chk n.vl) = (0 : Int))) || (decide (n.vl.int < (0 : Int))))) || ((decide ((n.op.toNat : Int) = (2 : Int))) && ((!(BU n.nm)) || (HF n.nm)))) = true then false else (!k))) else (if (((decide ((n.op.toNat : Int) = (1 : Int))) && ((!decide ((chk n.vl) = (0 : Int))) || (decide (n.vl.int < (0 : Int))))) || ((decide ((n.op.toNat : Int) = (2 : Int))) && ((!(BU n.nm)) || (HF n.nm)))) = true then false else (!k)))) else (if (!decide ((n.op.toNat : Int) = (2 : Int))) = true then (if (!decide (n.nm = [])) = true then false else (if (((decide ((n.op.toNat : Int) = (1 : Int))) && ((!decide ((chk n.vl) = (0 : Int))) || (decide (n.vl.int < (0 : Int))))) || ((decide ((n.op.toNat : Int) = (2 : Int))) && ((!(BU n.nm)) || (HF n.nm)))) = true then false else (!k))) else (if (((decide ((n.op.toNat : Int) = (1 : Int))) && ((!decide ((chk n.vl) = (0 : Int))) || (decide (n.vl.int < (0 : Int))))) || ((decide ((n.op.toNat : Int) = (2 : Int))) && ((!(BU n.nm)) || (HF n.nm)))) = true then false else (!k)))))
theorem oQ (n : Xn) (A : Option Addr) (k : Bool) (w : World) (hs : n.sm 1048576) (hU : Laid w utfL) (hC : ∀ W, Fr0 w W → Calls prog 173 #[.slice A n.nk n.nk, .func (.func 174) #[] #[]] W fun e W' => e = .returned (.bool k) ∧ Fr0 W W') :
 Calls prog 153 #[.agg (n.cells A).toArray] w fun e w' => e = .returned (.bool (IG n k)) ∧ Fr0 w w' := by
 refine AK (vs := [_]) func153 rfl ntmps153 rfl ?_
 have M := CK w
 refine A4 (A0 (BD M (A9 rfl) rfl rfl 70 rfl rfl (Xn.cells n A) rfl fun g1 w1 hg1 M => yb rfl (A1 (A2 (A4 (A4 (D8 28 (fun w' => Mem w AB [As.blk g1 70 (Xn.cells n A)] w') DT ?_)))))))
 have M := M.drew
 refine oc 0 28 rfl rfl M (ol 1 28 rfl rfl rfl M (fun _ M => (M.cell 0 rfl rfl)) (oa 2 28 rfl rfl M (fun _ M => CY rfl rfl (sl rfl)) (oc 3 28 rfl rfl M (ol 4 28 rfl rfl rfl M (fun _ M => (M.cell 0 rfl rfl)) (D0 5 (some 8) (by kernel_rfl) rfl (A9 rfl) rfl rfl (AF rfl rfl call172) (nZ _ _) ?_)))))
 rintro _ w2 ⟨rfl, hfw2⟩
 refine ⟨_, rfl, fun _ => M.step hfw2, ?_⟩
 have M := M.step hfw2
 refine oa 6 28 rfl rfl M (fun _ M => CX rfl rfl rfl) (oc 7 28 rfl rfl M (HX (d := 10) (b := (!decide (((n.nk : Nat) : Int) = (KY n.op)))) rfl (fun h10 => ?_) (fun h10 => ?_)))
 ·have h10p := (odf (C1 h10))
  refine oo1 8 28 rfl rfl rfl rfl rfl rfl rfl M (oo1 9 28 rfl rfl rfl rfl rfl rfl rfl M (oo1 10 28 rfl rfl rfl rfl rfl rfl rfl M (oo1 11 28 rfl rfl rfl rfl rfl rfl rfl M (F6 12 28 (by kernel_rfl) (fun c a t v w h => by cases t <;> exact h) (by kernel_rfl) rfl (by kernel_rfl) (by kernel_rfl) rfl rfl rfl rfl rfl rfl M (F6 13 28 (by kernel_rfl) (fun c a t v w h => by cases t <;> exact h) (by kernel_rfl) rfl (by kernel_rfl) (by kernel_rfl) rfl rfl rfl rfl rfl rfl M (F6 14 28 (by kernel_rfl) (fun c a t v w h => by cases t <;> exact h) (by kernel_rfl) rfl (by kernel_rfl) (by kernel_rfl) rfl rfl rfl rfl rfl rfl M (F6 15 28 (by kernel_rfl) (fun c a t v w h => by cases t <;> exact h) (by kernel_rfl) rfl (by kernel_rfl) (by kernel_rfl) rfl rfl rfl rfl rfl rfl M (oo1 16 28 rfl rfl rfl rfl rfl rfl rfl M (oc 17 28 rfl rfl M (oc 18 28 rfl rfl M (oo1 19 28 rfl rfl rfl rfl rfl rfl rfl M (oo1 20 28 rfl rfl rfl rfl rfl rfl rfl M (oo1 21 28 rfl rfl rfl rfl rfl rfl rfl M (oo1 22 28 rfl rfl rfl rfl rfl rfl rfl M (F6 23 28 (by kernel_rfl) (fun c a t v w h => by cases t <;> exact h) (by kernel_rfl) rfl (by kernel_rfl) (by kernel_rfl) rfl rfl rfl rfl rfl rfl M ?_)))))))))))))))
  exact F6 24 28 (by kernel_rfl) (fun c a t v w h => by cases t <;> exact h) (by kernel_rfl) rfl (by kernel_rfl) (by kernel_rfl) rfl rfl rfl rfl rfl rfl M (F6 25 28 (by kernel_rfl) (fun c a t v w h => by cases t <;> exact h) (by kernel_rfl) rfl (by kernel_rfl) (by kernel_rfl) rfl rfl rfl rfl rfl rfl M (oo1 26 28 rfl rfl rfl rfl rfl rfl rfl M (oc 27 28 rfl rfl M (BJ (by kernel_rfl) (A2 (DQ rfl (A4 (A0 (yb rfl (A1 (A2 (AD (AA (AH rfl rfl ⟨by rw [IG, if_pos h10], M.fr⟩))))))))))))))
 ·have h10p := (odt (C3 h10))
  refine ob 8 28 rfl (B7 rfl rfl rfl) rfl rfl M (fun _ M => yp rfl) (ob 9 28 rfl (B7 rfl rfl rfl) rfl rfl M (fun _ M => CO rfl rfl (sc rfl) (M.cell 0 rfl rfl)) (ob 10 28 rfl (B7 rfl rfl rfl) rfl rfl M (fun _ M => CX rfl rfl rfl) (ob 11 28 rfl (B7 rfl rfl rfl) rfl rfl M (fun _ M => yp rfl) (HX (d := 14) (b := (!decide ((n.op.toNat : Int) = (1 : Int)))) rfl (fun h14 => ?_) (fun h14 => ?_)))))
  ·have h14p := (odf (C1 h14))
   refine ob 12 28 rfl (B7 rfl rfl rfl) rfl rfl M (fun _ M => yp rfl) (ob 13 28 rfl (B7 rfl rfl rfl) rfl rfl M (fun _ M => AN (xs := [.int .u8 (n.vl.kind.toNat : Int), .int .i64 n.vl.int, .bool n.vl.bool, str n.vl.text]) rfl rfl (FD (M.blk 0 rfl) 1 4 rfl rfl) underlying67 rfl D2) (ob 14 28 rfl (B7 rfl rfl rfl) rfl rfl M (fun _ M => BO (parts := []) rfl rfl (N5)) (ob 15 28 rfl (B7 rfl rfl rfl) rfl rfl M (fun _ M => lP (a := n.vl) (b := zeroVl) rfl rfl rfl) (ob 16 28 rfl (B7 rfl rfl rfl) rfl rfl M (fun _ M => yp rfl) (oc 17 28 rfl rfl M (oc 18 28 rfl rfl M (HX (d := 21) (b := (!(n.vl.same zeroVl))) rfl (fun h21 => ?_) (fun h21 => ?_))))))))
   ·refine oo1 19 28 rfl rfl rfl rfl rfl rfl rfl M (oo1 20 28 rfl rfl rfl rfl rfl rfl rfl M (oo1 21 28 rfl rfl rfl rfl rfl rfl rfl M (oo1 22 28 rfl rfl rfl rfl rfl rfl rfl M (F6 23 28 (by kernel_rfl) (fun c a t v w h => by cases t <;> exact h) (by kernel_rfl) rfl (by kernel_rfl) (by kernel_rfl) rfl rfl rfl rfl rfl rfl M (F6 24 28 (by kernel_rfl) (fun c a t v w h => by cases t <;> exact h) (by kernel_rfl) rfl (by kernel_rfl) (by kernel_rfl) rfl rfl rfl rfl rfl rfl M (F6 25 28 (by kernel_rfl) (fun c a t v w h => by cases t <;> exact h) (by kernel_rfl) rfl (by kernel_rfl) (by kernel_rfl) rfl rfl rfl rfl rfl rfl M (oo1 26 28 rfl rfl rfl rfl rfl rfl rfl M (oc 27 28 rfl rfl M (BJ (by kernel_rfl) (A2 (DQ rfl (A4 (A0 (yb rfl (A1 ?_)))))))))))))))
    exact A2 (AD (AA (AH rfl rfl ⟨by rw [IG, if_neg (BA h10), if_pos h14, if_pos h21], M.fr⟩)))
   ·refine ob 19 28 rfl (B7 rfl rfl rfl) rfl rfl M (fun _ M => yp rfl) (ob 20 28 rfl (B7 rfl rfl rfl) rfl rfl M (fun _ M => CO rfl rfl (sc rfl) (M.cell 0 rfl rfl)) (ob 21 28 rfl (B7 rfl rfl rfl) rfl rfl M (fun _ M => CX rfl rfl rfl) (ob 22 28 rfl (B7 rfl rfl rfl) rfl rfl M (fun _ M => yp rfl) (HX (d := 25) (b := (!decide ((n.op.toNat : Int) = (2 : Int)))) rfl (fun h25 => ?_) (fun h25 => ?_)))))
    ·have h25p := (odf (C1 h25))
     refine ob 23 28 rfl (B7 rfl rfl rfl) rfl rfl M (fun _ M => yp rfl) (ob 24 28 rfl (B7 rfl rfl rfl) rfl rfl M (fun _ M => CO rfl rfl (sc rfl) (M.cell 0 rfl rfl)) (ob 25 28 rfl (B7 rfl rfl rfl) rfl rfl M (fun _ M => HD rfl rfl rfl) (ob 26 28 rfl (B7 rfl rfl rfl) rfl rfl M (fun _ M => yp rfl) (oc 27 28 rfl rfl M (BJ (by kernel_rfl) (A2 (AQ (b := (!decide (n.nm = []))) rfl (fun h30 => ?_) (fun h30 => ?_))))))))
     ·have h30p := (odf (C1 h30))
      exact A4 (A0 (yb rfl (A1 (A2 (AD (AA (AH rfl rfl ⟨by rw [IG, if_neg (BA h10), if_pos h14, if_neg (BA h21), if_pos h25, if_pos h30], M.fr⟩)))))))
     ·have h30p := (odt (C3 h30))
      refine AL (A2 (A4 (A4 (A0 (yb rfl (yl rfl rfl (M.cell 0 rfl rfl) (ya rfl (B9 rfl rfl rfl) (yb rfl (AT 11 [(1, pg g1), (45, .bool ((decide ((n.op.toNat : Int) = (1 : Int))) && ((!decide ((chk n.vl) = (0 : Int))) || (decide (n.vl.int < (0 : Int))))))] (fun w' => Mem w AB [As.blk g1 70 (Xn.cells n A)] w') ?_ (fun k34 => ?_))))))))))
      ·intro w3 M
       refine yb rfl (AT 15 [(1, pg g1), (61, .bool (((decide ((n.op.toNat : Int) = (1 : Int))) && ((!decide ((chk n.vl) = (0 : Int))) || (decide (n.vl.int < (0 : Int))))) || ((decide ((n.op.toNat : Int) = (2 : Int))) && ((!(BU n.nm)) || (HF n.nm)))))] (fun w' => Mem w AB [As.blk g1 70 (Xn.cells n A)] w') ?_ (fun k46 => ?_))
       ·intro w4 M
        refine A1 (A2 (AQ (b := (((decide ((n.op.toNat : Int) = (1 : Int))) && ((!decide ((chk n.vl) = (0 : Int))) || (decide (n.vl.int < (0 : Int))))) || ((decide ((n.op.toNat : Int) = (2 : Int))) && ((!(BU n.nm)) || (HF n.nm))))) rfl (fun h61 => ?_) (fun h61 => ?_)))
        ·have h61p := ((EK h61).imp (fun z => (And.intro (odt (C5 z).1) ((EK (C5 z).2).imp (fun z => (odf (C1 z))) (fun z => (odt z))))) (fun z => (And.intro (odt (C5 z).1) ((EK (C5 z).2).imp (fun z => (C1 z)) (fun z => z)))))
         exact A4 (A0 (yb rfl (A1 (A2 (AD (AA (AH rfl rfl ⟨by rw [IG, if_neg (BA h10), if_pos h14, if_neg (BA h21), if_pos h25, if_neg (BA h30), if_pos h61], M.fr⟩)))))))
        ·have h61p := (And.intro ((E9 (CA h61).1).imp (fun z => (odf z)) (fun z => (And.intro (odt (C3 (CA z).1)) (odf (CA z).2)))) ((E9 (CA h61).2).imp (fun z => (odf z)) (fun z => (And.intro (C3 (CA z).1) (CA z).2))))
         exact AL (A2 (A4 (A0 (yb rfl (yl rfl rfl (M.cell 0 rfl rfl) (cp M 64 rfl (AF rfl rfl call173) (hC _ M.fr) fun w5 M => yb rfl (yb rfl (A1 (A2 (AD (AH rfl rfl ⟨by rw [IG, if_neg (BA h10), if_pos h14, if_neg (BA h21), if_pos h25, if_neg (BA h30), if_neg (BA h61)], M.fr⟩)))))))))))
       refine AE (d := 46) (b := ((decide ((n.op.toNat : Int) = (1 : Int))) && ((!decide ((chk n.vl) = (0 : Int))) || (decide (n.vl.int < (0 : Int)))))) rfl (fun h46 => ?_) (fun h46 => ?_)
       ·iterate 4 refine yo rfl ?_
        iterate 9 refine BZ rfl rfl rfl rfl rfl ?_
        exact yo rfl (yb rfl (k46 _ _ M ⟨rfl, (by rw [h46]; rfl), trivial⟩))
       ·refine yd rfl (yp rfl) (ym rfl rfl (M.cell 0 rfl rfl) (yd rfl (B9 rfl rfl rfl) (yd rfl (yp rfl) (AT 10 [(1, pg g1), (46, .bool false), (60, .bool ((decide ((n.op.toNat : Int) = (2 : Int))) && ((!(BU n.nm)) || (HF n.nm))))] (fun w' => Mem w AB [As.blk g1 70 (Xn.cells n A)] w') ?_ (fun k50 => ?_)))))
        ·intro w6 M
         exact yb rfl (k46 _ _ M ⟨rfl, (by rw [h46]; rfl), trivial⟩)
        refine AE (d := 50) (b := (decide ((n.op.toNat : Int) = (2 : Int)))) rfl (fun h50 => ?_) (fun h50 => ?_)
        ·refine yd rfl (yp rfl) (ym rfl rfl (M.cell 0 rfl rfl) (CC (some 53) (B7 rfl rfl rfl) rfl rfl (AF rfl rfl call68) (DV n.nm _ (by have := n.sm_nm hs; omega)) ?_))
         rintro _ w7 ⟨rfl, hfw7⟩
         refine ⟨_, rfl, ?_⟩
         have M := M.step hfw7
         refine yd rfl (yp rfl) (yd rfl (yp rfl) (AT 4 [(1, pg g1), (46, .bool false), (50, .bool true), (59, .bool ((!(BU n.nm)) || (HF n.nm)))] (fun w' => Mem w AB [As.blk g1 70 (Xn.cells n A)] w') ?_ (fun k55 => ?_)))
         ·intro w8 M
          exact yd rfl (yp rfl) (k50 _ _ M ⟨rfl, rfl, (by rw [h50]; rfl), trivial⟩)
         refine AE (d := 55) (b := (!(BU n.nm))) rfl (fun h55 => ?_) (fun h55 => ?_)
         ·exact yo rfl (yo rfl (yo rfl (yd rfl (yp rfl) (k55 _ _ M ⟨rfl, rfl, rfl, (by rw [h55]; rfl), trivial⟩))))
         ·refine yd rfl (yp rfl) (ym rfl rfl (M.cell 0 rfl rfl) (CC (some 58) (B7 rfl rfl rfl) rfl rfl (AF rfl rfl call141) (MQ n.nm _) ?_))
          rintro _ w9 ⟨rfl, hfw9⟩
          refine ⟨_, rfl, ?_⟩
          have M := M.step hfw9
          exact yd rfl (yp rfl) (k55 _ _ M ⟨rfl, rfl, rfl, (by rw [h55]; rfl), trivial⟩)
        ·iterate 5 refine yo rfl ?_
         exact BZ rfl rfl rfl rfl rfl (BZ rfl rfl rfl rfl rfl (BZ rfl rfl rfl rfl rfl (yo rfl (yd rfl (yp rfl) (k50 _ _ M ⟨rfl, rfl, (by rw [h50]; rfl), trivial⟩)))))
      refine AE (d := 34) (b := (decide ((n.op.toNat : Int) = (1 : Int)))) rfl (fun h34 => ?_) (fun h34 => ?_)
      ·refine yd rfl (yp rfl) (yd rfl (AN (xs := [.int .u8 (n.vl.kind.toNat : Int), .int .i64 n.vl.int, .bool n.vl.bool, str n.vl.text]) rfl rfl (FD (M.blk 0 rfl) 1 4 rfl rfl) underlying67 rfl D2) (CC (some 37) (B7 rfl rfl rfl) rfl rfl (AF rfl rfl call60) (J1 n.vl _ (by have := n.sm_vl hs; omega) (EX hU M.fr)) ?_))
       rintro _ w10 ⟨rfl, hfw10⟩
       refine ⟨_, rfl, ?_⟩
       have M := M.step hfw10
       refine yd rfl (CX rfl rfl rfl) (yd rfl (yp rfl) (AT 5 [(1, pg g1), (34, .bool true), (44, .bool ((!decide ((chk n.vl) = (0 : Int))) || (decide (n.vl.int < (0 : Int)))))] (fun w' => Mem w AB [As.blk g1 70 (Xn.cells n A)] w') ?_ (fun k39 => ?_)))
       ·intro w11 M
        exact yb rfl (k34 _ _ M ⟨rfl, (by rw [h34]; rfl), trivial⟩)
       refine AE (d := 39) (b := (!decide ((chk n.vl) = (0 : Int)))) rfl (fun h39 => ?_) (fun h39 => ?_)
       ·iterate 4 refine yo rfl ?_
        exact yd rfl (yp rfl) (k39 _ _ M ⟨rfl, rfl, (by rw [h39]; rfl), trivial⟩)
       ·exact yd rfl (yp rfl) (yd rfl (yp rfl) (ym rfl rfl (M.cell 0 rfl rfl) (yd rfl (CH rfl rfl rfl) (yd rfl (yp rfl) (k39 _ _ M ⟨rfl, rfl, (by rw [h39]; rfl), trivial⟩)))))
      ·iterate 5 refine yo rfl ?_
       iterate 4 refine BZ rfl rfl rfl rfl rfl ?_
       exact yo rfl (yb rfl (k34 _ _ M ⟨rfl, (by rw [h34]; rfl), trivial⟩))
    ·have h25p := (odt (C3 h25))
     refine oo1 23 28 rfl rfl rfl rfl rfl rfl rfl M (oo1 24 28 rfl rfl rfl rfl rfl rfl rfl M (oo1 25 28 rfl rfl rfl rfl rfl rfl rfl M (ob 26 28 rfl (B7 rfl rfl rfl) rfl rfl M (fun _ M => yp rfl) (oc 27 28 rfl rfl M (BJ (by kernel_rfl) (A2 (DB rfl (AL (A2 (A4 (A4 (A0 (yb rfl (yl rfl rfl (M.cell 0 rfl rfl) (ya rfl (B9 rfl rfl rfl) ?_)))))))))))))))
     refine yb rfl (AT 11 [(1, pg g1), (45, .bool ((decide ((n.op.toNat : Int) = (1 : Int))) && ((!decide ((chk n.vl) = (0 : Int))) || (decide (n.vl.int < (0 : Int))))))] (fun w' => Mem w AB [As.blk g1 70 (Xn.cells n A)] w') ?_ (fun k34 => ?_))
     ·intro w12 M
      refine yb rfl (AT 15 [(1, pg g1), (61, .bool (((decide ((n.op.toNat : Int) = (1 : Int))) && ((!decide ((chk n.vl) = (0 : Int))) || (decide (n.vl.int < (0 : Int))))) || ((decide ((n.op.toNat : Int) = (2 : Int))) && ((!(BU n.nm)) || (HF n.nm)))))] (fun w' => Mem w AB [As.blk g1 70 (Xn.cells n A)] w') ?_ (fun k46 => ?_))
      ·intro w13 M
       refine A1 (A2 (AQ (b := (((decide ((n.op.toNat : Int) = (1 : Int))) && ((!decide ((chk n.vl) = (0 : Int))) || (decide (n.vl.int < (0 : Int))))) || ((decide ((n.op.toNat : Int) = (2 : Int))) && ((!(BU n.nm)) || (HF n.nm))))) rfl (fun h61 => ?_) (fun h61 => ?_)))
       ·have h61p := ((EK h61).imp (fun z => (And.intro (odt (C5 z).1) ((EK (C5 z).2).imp (fun z => (odf (C1 z))) (fun z => (odt z))))) (fun z => (And.intro (odt (C5 z).1) ((EK (C5 z).2).imp (fun z => (C1 z)) (fun z => z)))))
        exact A4 (A0 (yb rfl (A1 (A2 (AD (AA (AH rfl rfl ⟨by rw [IG, if_neg (BA h10), if_pos h14, if_neg (BA h21), if_neg (BA h25), if_pos h61], M.fr⟩)))))))
       ·have h61p := (And.intro ((E9 (CA h61).1).imp (fun z => (odf z)) (fun z => (And.intro (odt (C3 (CA z).1)) (odf (CA z).2)))) ((E9 (CA h61).2).imp (fun z => (odf z)) (fun z => (And.intro (C3 (CA z).1) (CA z).2))))
        exact AL (A2 (A4 (A0 (yb rfl (yl rfl rfl (M.cell 0 rfl rfl) (cp M 64 rfl (AF rfl rfl call173) (hC _ M.fr) fun w14 M => yb rfl (yb rfl (A1 (A2 (AD (AH rfl rfl ⟨by rw [IG, if_neg (BA h10), if_pos h14, if_neg (BA h21), if_neg (BA h25), if_neg (BA h61)], M.fr⟩)))))))))))
      refine AE (d := 46) (b := ((decide ((n.op.toNat : Int) = (1 : Int))) && ((!decide ((chk n.vl) = (0 : Int))) || (decide (n.vl.int < (0 : Int)))))) rfl (fun h46 => ?_) (fun h46 => ?_)
      ·iterate 4 refine yo rfl ?_
       iterate 9 refine BZ rfl rfl rfl rfl rfl ?_
       exact yo rfl (yb rfl (k46 _ _ M ⟨rfl, (by rw [h46]; rfl), trivial⟩))
      ·refine yd rfl (yp rfl) (ym rfl rfl (M.cell 0 rfl rfl) (yd rfl (B9 rfl rfl rfl) (yd rfl (yp rfl) (AT 10 [(1, pg g1), (46, .bool false), (60, .bool ((decide ((n.op.toNat : Int) = (2 : Int))) && ((!(BU n.nm)) || (HF n.nm))))] (fun w' => Mem w AB [As.blk g1 70 (Xn.cells n A)] w') ?_ (fun k50 => ?_)))))
       ·intro w15 M
        exact yb rfl (k46 _ _ M ⟨rfl, (by rw [h46]; rfl), trivial⟩)
       refine AE (d := 50) (b := (decide ((n.op.toNat : Int) = (2 : Int)))) rfl (fun h50 => ?_) (fun h50 => ?_)
       ·refine yd rfl (yp rfl) (ym rfl rfl (M.cell 0 rfl rfl) (CC (some 53) (B7 rfl rfl rfl) rfl rfl (AF rfl rfl call68) (DV n.nm _ (by have := n.sm_nm hs; omega)) ?_))
        rintro _ w16 ⟨rfl, hfw16⟩
        refine ⟨_, rfl, ?_⟩
        have M := M.step hfw16
        refine yd rfl (yp rfl) (yd rfl (yp rfl) (AT 4 [(1, pg g1), (46, .bool false), (50, .bool true), (59, .bool ((!(BU n.nm)) || (HF n.nm)))] (fun w' => Mem w AB [As.blk g1 70 (Xn.cells n A)] w') ?_ (fun k55 => ?_)))
        ·intro w17 M
         exact yd rfl (yp rfl) (k50 _ _ M ⟨rfl, rfl, (by rw [h50]; rfl), trivial⟩)
        refine AE (d := 55) (b := (!(BU n.nm))) rfl (fun h55 => ?_) (fun h55 => ?_)
        ·exact yo rfl (yo rfl (yo rfl (yd rfl (yp rfl) (k55 _ _ M ⟨rfl, rfl, rfl, (by rw [h55]; rfl), trivial⟩))))
        ·refine yd rfl (yp rfl) (ym rfl rfl (M.cell 0 rfl rfl) (CC (some 58) (B7 rfl rfl rfl) rfl rfl (AF rfl rfl call141) (MQ n.nm _) ?_))
         rintro _ w18 ⟨rfl, hfw18⟩
         refine ⟨_, rfl, ?_⟩
         have M := M.step hfw18
         exact yd rfl (yp rfl) (k55 _ _ M ⟨rfl, rfl, rfl, (by rw [h55]; rfl), trivial⟩)
       ·iterate 5 refine yo rfl ?_
        exact BZ rfl rfl rfl rfl rfl (BZ rfl rfl rfl rfl rfl (BZ rfl rfl rfl rfl rfl (yo rfl (yd rfl (yp rfl) (k50 _ _ M ⟨rfl, rfl, (by rw [h50]; rfl), trivial⟩)))))
     refine AE (d := 34) (b := (decide ((n.op.toNat : Int) = (1 : Int)))) rfl (fun h34 => ?_) (fun h34 => ?_)
     ·refine yd rfl (yp rfl) (yd rfl (AN (xs := [.int .u8 (n.vl.kind.toNat : Int), .int .i64 n.vl.int, .bool n.vl.bool, str n.vl.text]) rfl rfl (FD (M.blk 0 rfl) 1 4 rfl rfl) underlying67 rfl D2) (CC (some 37) (B7 rfl rfl rfl) rfl rfl (AF rfl rfl call60) (J1 n.vl _ (by have := n.sm_vl hs; omega) (EX hU M.fr)) ?_))
      rintro _ w19 ⟨rfl, hfw19⟩
      refine ⟨_, rfl, ?_⟩
      have M := M.step hfw19
      refine yd rfl (CX rfl rfl rfl) (yd rfl (yp rfl) (AT 5 [(1, pg g1), (34, .bool true), (44, .bool ((!decide ((chk n.vl) = (0 : Int))) || (decide (n.vl.int < (0 : Int)))))] (fun w' => Mem w AB [As.blk g1 70 (Xn.cells n A)] w') ?_ (fun k39 => ?_)))
      ·intro w20 M
       exact yb rfl (k34 _ _ M ⟨rfl, (by rw [h34]; rfl), trivial⟩)
      refine AE (d := 39) (b := (!decide ((chk n.vl) = (0 : Int)))) rfl (fun h39 => ?_) (fun h39 => ?_)
      ·iterate 4 refine yo rfl ?_
       exact yd rfl (yp rfl) (k39 _ _ M ⟨rfl, rfl, (by rw [h39]; rfl), trivial⟩)
      ·exact yd rfl (yp rfl) (yd rfl (yp rfl) (ym rfl rfl (M.cell 0 rfl rfl) (yd rfl (CH rfl rfl rfl) (yd rfl (yp rfl) (k39 _ _ M ⟨rfl, rfl, (by rw [h39]; rfl), trivial⟩)))))
     ·iterate 5 refine yo rfl ?_
      iterate 4 refine BZ rfl rfl rfl rfl rfl ?_
      exact yo rfl (yb rfl (k34 _ _ M ⟨rfl, (by rw [h34]; rfl), trivial⟩))
  ·have h14p := (odt (C3 h14))
   refine oo1 12 28 rfl rfl rfl rfl rfl rfl rfl M (oo1 13 28 rfl rfl rfl rfl rfl rfl rfl M (oo1 14 28 rfl rfl rfl rfl rfl rfl rfl M (oo1 15 28 rfl rfl rfl rfl rfl rfl rfl M (ob 16 28 rfl (B7 rfl rfl rfl) rfl rfl M (fun _ M => yp rfl) (oc 17 28 rfl rfl M (oc 18 28 rfl rfl M (ob 19 28 rfl (B7 rfl rfl rfl) rfl rfl M (fun _ M => yp rfl) (ob 20 28 rfl (B7 rfl rfl rfl) rfl rfl M (fun _ M => CO rfl rfl (sc rfl) (M.cell 0 rfl rfl)) (ob 21 28 rfl (B7 rfl rfl rfl) rfl rfl M (fun _ M => CX rfl rfl rfl) (ob 22 28 rfl (B7 rfl rfl rfl) rfl rfl M (fun _ M => yp rfl) (HX (d := 25) (b := (!decide ((n.op.toNat : Int) = (2 : Int)))) rfl (fun h25 => ?_) (fun h25 => ?_))))))))))))
   ·have h25p := (odf (C1 h25))
    refine ob 23 28 rfl (B7 rfl rfl rfl) rfl rfl M (fun _ M => yp rfl) (ob 24 28 rfl (B7 rfl rfl rfl) rfl rfl M (fun _ M => CO rfl rfl (sc rfl) (M.cell 0 rfl rfl)) (ob 25 28 rfl (B7 rfl rfl rfl) rfl rfl M (fun _ M => HD rfl rfl rfl) (ob 26 28 rfl (B7 rfl rfl rfl) rfl rfl M (fun _ M => yp rfl) (oc 27 28 rfl rfl M (BJ (by kernel_rfl) (A2 (AQ (b := (!decide (n.nm = []))) rfl (fun h30 => ?_) (fun h30 => ?_))))))))
    ·have h30p := (odf (C1 h30))
     exact A4 (A0 (yb rfl (A1 (A2 (AD (AA (AH rfl rfl ⟨by rw [IG, if_neg (BA h10), if_neg (BA h14), if_pos h25, if_pos h30], M.fr⟩)))))))
    ·have h30p := (odt (C3 h30))
     refine AL (A2 (A4 (A4 (A0 (yb rfl (yl rfl rfl (M.cell 0 rfl rfl) (ya rfl (B9 rfl rfl rfl) (yb rfl (AT 11 [(1, pg g1), (45, .bool ((decide ((n.op.toNat : Int) = (1 : Int))) && ((!decide ((chk n.vl) = (0 : Int))) || (decide (n.vl.int < (0 : Int))))))] (fun w' => Mem w AB [As.blk g1 70 (Xn.cells n A)] w') ?_ (fun k34 => ?_))))))))))
     ·intro w21 M
      refine yb rfl (AT 15 [(1, pg g1), (61, .bool (((decide ((n.op.toNat : Int) = (1 : Int))) && ((!decide ((chk n.vl) = (0 : Int))) || (decide (n.vl.int < (0 : Int))))) || ((decide ((n.op.toNat : Int) = (2 : Int))) && ((!(BU n.nm)) || (HF n.nm)))))] (fun w' => Mem w AB [As.blk g1 70 (Xn.cells n A)] w') ?_ (fun k46 => ?_))
      ·intro w22 M
       refine A1 (A2 (AQ (b := (((decide ((n.op.toNat : Int) = (1 : Int))) && ((!decide ((chk n.vl) = (0 : Int))) || (decide (n.vl.int < (0 : Int))))) || ((decide ((n.op.toNat : Int) = (2 : Int))) && ((!(BU n.nm)) || (HF n.nm))))) rfl (fun h61 => ?_) (fun h61 => ?_)))
       ·have h61p := ((EK h61).imp (fun z => (And.intro (odt (C5 z).1) ((EK (C5 z).2).imp (fun z => (odf (C1 z))) (fun z => (odt z))))) (fun z => (And.intro (odt (C5 z).1) ((EK (C5 z).2).imp (fun z => (C1 z)) (fun z => z)))))
        exact A4 (A0 (yb rfl (A1 (A2 (AD (AA (AH rfl rfl ⟨by rw [IG, if_neg (BA h10), if_neg (BA h14), if_pos h25, if_neg (BA h30), if_pos h61], M.fr⟩)))))))
       ·have h61p := (And.intro ((E9 (CA h61).1).imp (fun z => (odf z)) (fun z => (And.intro (odt (C3 (CA z).1)) (odf (CA z).2)))) ((E9 (CA h61).2).imp (fun z => (odf z)) (fun z => (And.intro (C3 (CA z).1) (CA z).2))))
        exact AL (A2 (A4 (A0 (yb rfl (yl rfl rfl (M.cell 0 rfl rfl) (cp M 64 rfl (AF rfl rfl call173) (hC _ M.fr) fun w23 M => yb rfl (yb rfl (A1 (A2 (AD (AH rfl rfl ⟨by rw [IG, if_neg (BA h10), if_neg (BA h14), if_pos h25, if_neg (BA h30), if_neg (BA h61)], M.fr⟩)))))))))))
      refine AE (d := 46) (b := ((decide ((n.op.toNat : Int) = (1 : Int))) && ((!decide ((chk n.vl) = (0 : Int))) || (decide (n.vl.int < (0 : Int)))))) rfl (fun h46 => ?_) (fun h46 => ?_)
      ·iterate 4 refine yo rfl ?_
       iterate 9 refine BZ rfl rfl rfl rfl rfl ?_
       exact yo rfl (yb rfl (k46 _ _ M ⟨rfl, (by rw [h46]; rfl), trivial⟩))
      ·refine yd rfl (yp rfl) (ym rfl rfl (M.cell 0 rfl rfl) (yd rfl (B9 rfl rfl rfl) (yd rfl (yp rfl) (AT 10 [(1, pg g1), (46, .bool false), (60, .bool ((decide ((n.op.toNat : Int) = (2 : Int))) && ((!(BU n.nm)) || (HF n.nm))))] (fun w' => Mem w AB [As.blk g1 70 (Xn.cells n A)] w') ?_ (fun k50 => ?_)))))
       ·intro w24 M
        exact yb rfl (k46 _ _ M ⟨rfl, (by rw [h46]; rfl), trivial⟩)
       refine AE (d := 50) (b := (decide ((n.op.toNat : Int) = (2 : Int)))) rfl (fun h50 => ?_) (fun h50 => ?_)
       ·refine yd rfl (yp rfl) (ym rfl rfl (M.cell 0 rfl rfl) (CC (some 53) (B7 rfl rfl rfl) rfl rfl (AF rfl rfl call68) (DV n.nm _ (by have := n.sm_nm hs; omega)) ?_))
        rintro _ w25 ⟨rfl, hfw25⟩
        refine ⟨_, rfl, ?_⟩
        have M := M.step hfw25
        refine yd rfl (yp rfl) (yd rfl (yp rfl) (AT 4 [(1, pg g1), (46, .bool false), (50, .bool true), (59, .bool ((!(BU n.nm)) || (HF n.nm)))] (fun w' => Mem w AB [As.blk g1 70 (Xn.cells n A)] w') ?_ (fun k55 => ?_)))
        ·intro w26 M
         exact yd rfl (yp rfl) (k50 _ _ M ⟨rfl, rfl, (by rw [h50]; rfl), trivial⟩)
        refine AE (d := 55) (b := (!(BU n.nm))) rfl (fun h55 => ?_) (fun h55 => ?_)
        ·exact yo rfl (yo rfl (yo rfl (yd rfl (yp rfl) (k55 _ _ M ⟨rfl, rfl, rfl, (by rw [h55]; rfl), trivial⟩))))
        ·refine yd rfl (yp rfl) (ym rfl rfl (M.cell 0 rfl rfl) (CC (some 58) (B7 rfl rfl rfl) rfl rfl (AF rfl rfl call141) (MQ n.nm _) ?_))
         rintro _ w27 ⟨rfl, hfw27⟩
         refine ⟨_, rfl, ?_⟩
         have M := M.step hfw27
         exact yd rfl (yp rfl) (k55 _ _ M ⟨rfl, rfl, rfl, (by rw [h55]; rfl), trivial⟩)
       ·iterate 5 refine yo rfl ?_
        exact BZ rfl rfl rfl rfl rfl (BZ rfl rfl rfl rfl rfl (BZ rfl rfl rfl rfl rfl (yo rfl (yd rfl (yp rfl) (k50 _ _ M ⟨rfl, rfl, (by rw [h50]; rfl), trivial⟩)))))
     refine AE (d := 34) (b := (decide ((n.op.toNat : Int) = (1 : Int)))) rfl (fun h34 => ?_) (fun h34 => ?_)
     ·refine yd rfl (yp rfl) (yd rfl (AN (xs := [.int .u8 (n.vl.kind.toNat : Int), .int .i64 n.vl.int, .bool n.vl.bool, str n.vl.text]) rfl rfl (FD (M.blk 0 rfl) 1 4 rfl rfl) underlying67 rfl D2) (CC (some 37) (B7 rfl rfl rfl) rfl rfl (AF rfl rfl call60) (J1 n.vl _ (by have := n.sm_vl hs; omega) (EX hU M.fr)) ?_))
      rintro _ w28 ⟨rfl, hfw28⟩
      refine ⟨_, rfl, ?_⟩
      have M := M.step hfw28
      refine yd rfl (CX rfl rfl rfl) (yd rfl (yp rfl) (AT 5 [(1, pg g1), (34, .bool true), (44, .bool ((!decide ((chk n.vl) = (0 : Int))) || (decide (n.vl.int < (0 : Int)))))] (fun w' => Mem w AB [As.blk g1 70 (Xn.cells n A)] w') ?_ (fun k39 => ?_)))
      ·intro w29 M
       exact yb rfl (k34 _ _ M ⟨rfl, (by rw [h34]; rfl), trivial⟩)
      refine AE (d := 39) (b := (!decide ((chk n.vl) = (0 : Int)))) rfl (fun h39 => ?_) (fun h39 => ?_)
      ·iterate 4 refine yo rfl ?_
       exact yd rfl (yp rfl) (k39 _ _ M ⟨rfl, rfl, (by rw [h39]; rfl), trivial⟩)
      ·exact yd rfl (yp rfl) (yd rfl (yp rfl) (ym rfl rfl (M.cell 0 rfl rfl) (yd rfl (CH rfl rfl rfl) (yd rfl (yp rfl) (k39 _ _ M ⟨rfl, rfl, (by rw [h39]; rfl), trivial⟩)))))
     ·iterate 5 refine yo rfl ?_
      iterate 4 refine BZ rfl rfl rfl rfl rfl ?_
      exact yo rfl (yb rfl (k34 _ _ M ⟨rfl, (by rw [h34]; rfl), trivial⟩))
   ·have h25p := (odt (C3 h25))
    refine oo1 23 28 rfl rfl rfl rfl rfl rfl rfl M (oo1 24 28 rfl rfl rfl rfl rfl rfl rfl M (oo1 25 28 rfl rfl rfl rfl rfl rfl rfl M (ob 26 28 rfl (B7 rfl rfl rfl) rfl rfl M (fun _ M => yp rfl) (oc 27 28 rfl rfl M (BJ (by kernel_rfl) (A2 (DB rfl (AL (A2 (A4 (A4 (A0 (yb rfl (yl rfl rfl (M.cell 0 rfl rfl) (ya rfl (B9 rfl rfl rfl) ?_)))))))))))))))
    refine yb rfl (AT 11 [(1, pg g1), (45, .bool ((decide ((n.op.toNat : Int) = (1 : Int))) && ((!decide ((chk n.vl) = (0 : Int))) || (decide (n.vl.int < (0 : Int))))))] (fun w' => Mem w AB [As.blk g1 70 (Xn.cells n A)] w') ?_ (fun k34 => ?_))
    ·intro w30 M
     refine yb rfl (AT 15 [(1, pg g1), (61, .bool (((decide ((n.op.toNat : Int) = (1 : Int))) && ((!decide ((chk n.vl) = (0 : Int))) || (decide (n.vl.int < (0 : Int))))) || ((decide ((n.op.toNat : Int) = (2 : Int))) && ((!(BU n.nm)) || (HF n.nm)))))] (fun w' => Mem w AB [As.blk g1 70 (Xn.cells n A)] w') ?_ (fun k46 => ?_))
     ·intro w31 M
      refine A1 (A2 (AQ (b := (((decide ((n.op.toNat : Int) = (1 : Int))) && ((!decide ((chk n.vl) = (0 : Int))) || (decide (n.vl.int < (0 : Int))))) || ((decide ((n.op.toNat : Int) = (2 : Int))) && ((!(BU n.nm)) || (HF n.nm))))) rfl (fun h61 => ?_) (fun h61 => ?_)))
      ·have h61p := ((EK h61).imp (fun z => (And.intro (odt (C5 z).1) ((EK (C5 z).2).imp (fun z => (odf (C1 z))) (fun z => (odt z))))) (fun z => (And.intro (odt (C5 z).1) ((EK (C5 z).2).imp (fun z => (C1 z)) (fun z => z)))))
       exact A4 (A0 (yb rfl (A1 (A2 (AD (AA (AH rfl rfl ⟨by rw [IG, if_neg (BA h10), if_neg (BA h14), if_neg (BA h25), if_pos h61], M.fr⟩)))))))
      ·have h61p := (And.intro ((E9 (CA h61).1).imp (fun z => (odf z)) (fun z => (And.intro (odt (C3 (CA z).1)) (odf (CA z).2)))) ((E9 (CA h61).2).imp (fun z => (odf z)) (fun z => (And.intro (C3 (CA z).1) (CA z).2))))
       exact AL (A2 (A4 (A0 (yb rfl (yl rfl rfl (M.cell 0 rfl rfl) (cp M 64 rfl (AF rfl rfl call173) (hC _ M.fr) fun w32 M => yb rfl (yb rfl (A1 (A2 (AD (AH rfl rfl ⟨by rw [IG, if_neg (BA h10), if_neg (BA h14), if_neg (BA h25), if_neg (BA h61)], M.fr⟩)))))))))))
     refine AE (d := 46) (b := ((decide ((n.op.toNat : Int) = (1 : Int))) && ((!decide ((chk n.vl) = (0 : Int))) || (decide (n.vl.int < (0 : Int)))))) rfl (fun h46 => ?_) (fun h46 => ?_)
     ·iterate 4 refine yo rfl ?_
      iterate 9 refine BZ rfl rfl rfl rfl rfl ?_
      exact yo rfl (yb rfl (k46 _ _ M ⟨rfl, (by rw [h46]; rfl), trivial⟩))
     ·refine yd rfl (yp rfl) (ym rfl rfl (M.cell 0 rfl rfl) (yd rfl (B9 rfl rfl rfl) (yd rfl (yp rfl) (AT 10 [(1, pg g1), (46, .bool false), (60, .bool ((decide ((n.op.toNat : Int) = (2 : Int))) && ((!(BU n.nm)) || (HF n.nm))))] (fun w' => Mem w AB [As.blk g1 70 (Xn.cells n A)] w') ?_ (fun k50 => ?_)))))
      ·intro w33 M
       exact yb rfl (k46 _ _ M ⟨rfl, (by rw [h46]; rfl), trivial⟩)
      refine AE (d := 50) (b := (decide ((n.op.toNat : Int) = (2 : Int)))) rfl (fun h50 => ?_) (fun h50 => ?_)
      ·refine yd rfl (yp rfl) (ym rfl rfl (M.cell 0 rfl rfl) (CC (some 53) (B7 rfl rfl rfl) rfl rfl (AF rfl rfl call68) (DV n.nm _ (by have := n.sm_nm hs; omega)) ?_))
       rintro _ w34 ⟨rfl, hfw34⟩
       refine ⟨_, rfl, ?_⟩
       have M := M.step hfw34
       refine yd rfl (yp rfl) (yd rfl (yp rfl) (AT 4 [(1, pg g1), (46, .bool false), (50, .bool true), (59, .bool ((!(BU n.nm)) || (HF n.nm)))] (fun w' => Mem w AB [As.blk g1 70 (Xn.cells n A)] w') ?_ (fun k55 => ?_)))
       ·intro w35 M
        exact yd rfl (yp rfl) (k50 _ _ M ⟨rfl, rfl, (by rw [h50]; rfl), trivial⟩)
       refine AE (d := 55) (b := (!(BU n.nm))) rfl (fun h55 => ?_) (fun h55 => ?_)
       ·exact yo rfl (yo rfl (yo rfl (yd rfl (yp rfl) (k55 _ _ M ⟨rfl, rfl, rfl, (by rw [h55]; rfl), trivial⟩))))
       ·refine yd rfl (yp rfl) (ym rfl rfl (M.cell 0 rfl rfl) (CC (some 58) (B7 rfl rfl rfl) rfl rfl (AF rfl rfl call141) (MQ n.nm _) ?_))
        rintro _ w36 ⟨rfl, hfw36⟩
        refine ⟨_, rfl, ?_⟩
        have M := M.step hfw36
        exact yd rfl (yp rfl) (k55 _ _ M ⟨rfl, rfl, rfl, (by rw [h55]; rfl), trivial⟩)
      ·iterate 5 refine yo rfl ?_
       exact BZ rfl rfl rfl rfl rfl (BZ rfl rfl rfl rfl rfl (BZ rfl rfl rfl rfl rfl (yo rfl (yd rfl (yp rfl) (k50 _ _ M ⟨rfl, rfl, (by rw [h50]; rfl), trivial⟩)))))
    refine AE (d := 34) (b := (decide ((n.op.toNat : Int) = (1 : Int)))) rfl (fun h34 => ?_) (fun h34 => ?_)
    ·refine yd rfl (yp rfl) (yd rfl (AN (xs := [.int .u8 (n.vl.kind.toNat : Int), .int .i64 n.vl.int, .bool n.vl.bool, str n.vl.text]) rfl rfl (FD (M.blk 0 rfl) 1 4 rfl rfl) underlying67 rfl D2) (CC (some 37) (B7 rfl rfl rfl) rfl rfl (AF rfl rfl call60) (J1 n.vl _ (by have := n.sm_vl hs; omega) (EX hU M.fr)) ?_))
     rintro _ w37 ⟨rfl, hfw37⟩
     refine ⟨_, rfl, ?_⟩
     have M := M.step hfw37
     refine yd rfl (CX rfl rfl rfl) (yd rfl (yp rfl) (AT 5 [(1, pg g1), (34, .bool true), (44, .bool ((!decide ((chk n.vl) = (0 : Int))) || (decide (n.vl.int < (0 : Int)))))] (fun w' => Mem w AB [As.blk g1 70 (Xn.cells n A)] w') ?_ (fun k39 => ?_)))
     ·intro w38 M
      exact yb rfl (k34 _ _ M ⟨rfl, (by rw [h34]; rfl), trivial⟩)
     refine AE (d := 39) (b := (!decide ((chk n.vl) = (0 : Int)))) rfl (fun h39 => ?_) (fun h39 => ?_)
     ·iterate 4 refine yo rfl ?_
      exact yd rfl (yp rfl) (k39 _ _ M ⟨rfl, rfl, (by rw [h39]; rfl), trivial⟩)
     ·exact yd rfl (yp rfl) (yd rfl (yp rfl) (ym rfl rfl (M.cell 0 rfl rfl) (yd rfl (CH rfl rfl rfl) (yd rfl (yp rfl) (k39 _ _ M ⟨rfl, rfl, (by rw [h39]; rfl), trivial⟩)))))
    ·iterate 5 refine yo rfl ?_
     iterate 4 refine BZ rfl rfl rfl rfl rfl ?_
     exact yo rfl (yb rfl (k34 _ _ M ⟨rfl, (by rw [h34]; rfl), trivial⟩))
theorem l5 (q : Xn × Option Addr) (c : Bool) (w : World) (hq : ∀ W, Fr0 w W → Calls prog 153 #[.agg (q.1.cells q.2).toArray] W fun e W' => e = .returned (.bool c) ∧ Fr0 W W') :
 Calls prog 174 #[.agg (q.1.cells q.2).toArray] w fun e w' => e = .returned (.bool (!c)) ∧ Fr0 w w' := by
 refine AK (vs := [_]) func174 rfl ntmps174 rfl ?_
 have M := CK w
 refine A4 (A0 (BD M (A9 rfl) rfl rfl 70 rfl rfl (Xn.cells q.1 q.2) rfl fun g1 w1 hg1 M => yb rfl (A1 (A2 (A4 (A0 (ya rfl (AN (xs := Xn.cells q.1 q.2) rfl rfl (M.rdBlk 0 rfl rfl) underlying70 rfl AM) (cp M 4 rfl (AF rfl rfl call153) (hq _ M.fr) fun w2 M => yb rfl (yb rfl (A1 (A2 (AD ?_))))))))))))
 exact AH rfl rfl ⟨rfl, M.fr⟩
def chkX : Xn → Bool
 | .un o a => IG (.un o a) (!chkX a)
 | .bin o a b => IG (.bin o a b) (!chkX a || !chkX b)
 | .zero => IG .zero false
 | .lit v => IG (.lit v) false
 | .var s => IG (.var s) false
theorem UX (n : Xn) : chkX n = IG n (n.kids.any (fun a => !chkX a)) := by cases n <;> simp [chkX, Xn.kids]
theorem l0 : ∀ (n : Xn) (A : Option Addr) (F : List Nat) (w : World), n.AtL 70 w A F → n.sm 1048576 → Laid w utfL → Calls prog 153 #[.agg (n.cells A).toArray] w fun e w' => e = .returned (.bool (chkX n)) ∧ Fr0 w w' := by
 refine Xn.ind fun n ih A F w hA hs hU => ?_
 rw [UX]
 refine oQ n A _ w hs hU (fun W hW => ?_)
 obtain ⟨L, hL, hk, hR, hq⟩ := (hA.fr0 hW).kids
 rw [← hk]
 refine (kS ndC nS A L.length L (by have := n.nk_le; omega) 174 [] (fun _ q => !chkX q.1) AB (fun _ _ => True) W (GE call174 (fun q hq' w1 hf => ?_)) (fun _ hf => hR.fr0 hf) trivial).mono ?_
 ·obtain ⟨F', hF'⟩ := hq q hq'
  have hk' : q.1 ∈ n.kids := by rw [← hL]; exact List.mem_map_of_mem hq'
  exact l5 q (chkX q.1) w1 (fun W' hW' => ih q.1 hk' q.2 F' W' (hF'.fr0 (hf.trans hW')) (Xn.sm_kid hs hk') (EX hU (hW.trans (hf.trans hW'))))
 ·rintro e w' ⟨rfl, _, hf⟩
  refine ⟨?_, hf⟩
  rw [JN, ← hL, List.any_map]; rfl
end Go.Proofs.YtadgfojhjnkliaaGreatDoor
