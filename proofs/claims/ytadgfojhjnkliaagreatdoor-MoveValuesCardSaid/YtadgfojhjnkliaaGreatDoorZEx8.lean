/- Check of a condition: printed by gw/ex8.py. Condition: the tables of unicode/utf8 are as they are laid. -/
import Derived.Test.YtadgfojhjnkliaaGreatDoorZb9
import Derived.Test.YtadgfojhjnkliaaGreatDoorZb6
import Derived.Test.YtadgfojhjnkliaaGreatDoorZRu0
import Derived.Test.YtadgfojhjnkliaaGreatDoorZSxG
set_option maxHeartbeats 16000000
set_option maxRecDepth 100000
namespace Go.Proofs.YtadgfojhjnkliaaGreatDoor
open Go.RowKit
section
variable {P : Program} {ops : Array Oper} {Q : Exit → Act → World → Prop} {S : World → Prop} {t n f : Nat} {listed : Array Bool} {e : Env} {w : World}
theorem F6 {o : Oper} {d d0 j : Nat} {b : Bool} (i h : Nat) (hs : Region.noSelect ops = true) (hQ : ∀ c (a : Act) t v w, Q (.panic c) (a.put t v) w → Q (.panic c) a w) (hwait : IL ops h t = true) (hih : Nat.blt i h = true)
 (hf : Region.free .any ops listed i = true) (hr : (Region.ready .any ops listed).contains i = true) (ho : ops[i]? = some o) (hg : o.guard = some (j, b)) (hj : (ops[j]?).bind (·.dst) = some d0) (hb : e.get d0 = some undef) (hd : o.dst = some d) (hn : Nat.blt d n = true) (hS : S w)
 (k : SxO P ops Q t S n f (listed.setIfInBounds i true) ((d, undef) :: e) w) : SxO P ops Q t S n (f + 1) listed e w := ⟨fun a ha => by
 have hw : Region.wanted o (yielded ops a.tmps) = false := by
  simp [Region.wanted, hg, yielded, hj, ha.get d0 _ hb, undef]
 refine JF (v := undef) ho (Region.noSelect_spec hs) (fun c a w => hQ c a _ _ w) hwait (B5 hih) f listed a w (Region.free_spec ho hf) (by simpa using hr) (.inr ⟨hw, rfl⟩) hS ?_
 rw [hd]; exact k.run _ (ha.put (B5 hn) undef)⟩
end
theorem N3  : Tryz.prog.built 67 [] = some #[.int .u8 0, .int .i64 0, .bool false, str []] := by kernel_rfl
def KX (op : UInt8) : Int := (if ((decide ((op.toNat : Int) < (1 : Int))) || (decide ((17 : Int) < (op.toNat : Int)))) = true then (-1) else (if (decide ((op.toNat : Int) ≤ (2 : Int))) = true then 0 else (if (decide ((op.toNat : Int) ≤ (4 : Int))) = true then 1 else 2)))
theorem nY (op : UInt8) (w : World) : Calls Tryz.prog 172 #[.int .u8 (op.toNat : Int)] w fun e w' => e = .returned (.int .i64 (KX op)) ∧ Fr0 w w' := by
 refine AL (vs := [_]) Tryz.func172 rfl Tryz.ntmps172 rfl ?_
 have M := CM w
 refine A9 (A0 (yb rfl (A1 (A2 (A9 (AZ (A9 (A0 (yb rfl (ya rfl (CJ rfl rfl rfl) (yb rfl (AV 3 [(0, .int .u8 (op.toNat : Int)), (9, .bool ((decide ((op.toNat : Int) < (1 : Int))) || (decide ((17 : Int) < (op.toNat : Int)))))] (fun w' => Mem w AB [] w') ?_ (fun k6 => ?_)))))))))))))
 ·intro w1 M
  refine yb rfl (A1 (A2 (AR (b := ((decide ((op.toNat : Int) < (1 : Int))) || (decide ((17 : Int) < (op.toNat : Int))))) rfl (fun h3 => ?_) (fun h3 => ?_))))
  ·have h3p := ((EK h3).imp (fun z => (of_decide_eq_true z)) (fun z => (of_decide_eq_true z)))
   exact A9 (A0 (yb rfl (A1 (A2 (AE (AK (AA (AI rfl rfl ⟨by rw [KX, if_pos h3], M.fr⟩))))))))
  ·have h3p := (And.intro (of_decide_eq_false (CD h3).1) (of_decide_eq_false (CD h3).2))
   refine A9 (A0 (yb rfl (ya rfl (I1 rfl rfl rfl) (yb rfl (A1 (A2 (AR (b := (decide ((op.toNat : Int) ≤ (2 : Int)))) rfl (fun h10 => ?_) (fun h10 => ?_))))))))
   ·have h10p := (of_decide_eq_true h10)
    exact A9 (A0 (yb rfl (A1 (A2 (AE (AK (AA (AI rfl rfl ⟨by rw [KX, if_neg (BD h3), if_pos h10], M.fr⟩))))))))
   ·have h10p := (of_decide_eq_false h10)
    refine A9 (A0 (yb rfl (ya rfl (I1 rfl rfl rfl) (yb rfl (A1 (A2 (AR (b := (decide ((op.toNat : Int) ≤ (4 : Int)))) rfl (fun h13 => ?_) (fun h13 => ?_))))))))
    ·have h13p := (of_decide_eq_true h13)
     exact A9 (A0 (yb rfl (A1 (A2 (AE (AK (AA (AI rfl rfl ⟨by rw [KX, if_neg (BD h3), if_neg (BD h10), if_pos h13], M.fr⟩))))))))
    ·have h13p := (of_decide_eq_false h13)
     exact AM (AD (A2 (A9 (A0 (yb rfl (A1 (A2 (AE (AI rfl rfl ⟨by rw [KX, if_neg (BD h3), if_neg (BD h10), if_neg (BD h13)], M.fr⟩)))))))))
 refine AF (d := 6) (b := (decide ((op.toNat : Int) < (1 : Int)))) rfl (fun h6 => ?_) (fun h6 => ?_)
 ·exact yo rfl (yo rfl (yb rfl (k6 _ _ M ⟨rfl, (by rw [h6]; rfl), trivial⟩)))
 ·exact yd rfl (yp rfl) (yd rfl (FR rfl rfl rfl) (yb rfl (k6 _ _ M ⟨rfl, (by rw [h6]; rfl), trivial⟩)))
def IF (n : Xn) (k : Bool) : Bool := (if (!decide (((n.nk : Nat) : Int) = (KX n.op))) = true then false else (if (!decide ((n.op.toNat : Int) = (1 : Int))) = true then (if (!(n.vl.same zeroVl)) = true then false else (if (!decide ((n.op.toNat : Int) = (2 : Int))) = true then (if (!decide (n.nm = [])) = true then false else (if (((decide ((n.op.toNat : Int) = (1 : Int))) && ((!decide ((chk n.vl) = (0 : Int))) || (decide (n.vl.int < (0 : Int))))) || ((decide ((n.op.toNat : Int) = (2 : Int))) && ((!(BX n.nm)) || (HF n.nm)))) = true then false else (!k))) else (if (((decide ((n.op.toNat : Int) = (1 : Int))) && ((!decide ((chk n.vl) = (0 : Int))) || (decide (n.vl.int < (0 : Int))))) || ((decide ((n.op.toNat : Int) = (2 : Int))) && ((!(BX n.nm)) || (HF n.nm)))) = true then false else (!k)))) else (if (!decide ((n.op.toNat : Int) = (2 : Int))) = true then (if (!decide (n.nm = [])) = true then false else (if (((decide ((n.op.toNat : Int) = (1 : Int))) && ((!decide ((chk n.vl) = (0 : Int))) || (decide (n.vl.int < (0 : Int))))) || ((decide ((n.op.toNat : Int) = (2 : Int))) && ((!(BX n.nm)) || (HF n.nm)))) = true then false else (!k))) else (if (((decide ((n.op.toNat : Int) = (1 : Int))) && ((!decide ((chk n.vl) = (0 : Int))) || (decide (n.vl.int < (0 : Int))))) || ((decide ((n.op.toNat : Int) = (2 : Int))) && ((!(BX n.nm)) || (HF n.nm)))) = true then false else (!k)))))
theorem oP (n : Xn) (A : Option Addr) (k : Bool) (w : World) (hs : n.sm 1048576) (hU : Laid w utfL) (hC : ∀ W, Fr0 w W → Calls Tryz.prog 173 #[.slice A n.nk n.nk, .func (.func 174) #[] #[]] W fun e W' => e = .returned (.bool k) ∧ Fr0 W W') :
 Calls Tryz.prog 153 #[.agg (n.cells A).toArray] w fun e w' => e = .returned (.bool (IF n k)) ∧ Fr0 w w' := by
 refine AL (vs := [_]) Tryz.func153 rfl Tryz.ntmps153 rfl ?_
 have M := CM w
 refine A9 (A0 (BG M (A4 rfl) rfl rfl 70 rfl rfl (Xn.cells n A) rfl fun g1 w1 hg1 M => yb rfl (A1 (A2 (A9 (A9 (D8 28 (fun w' => Mem w AB [As.blk g1 70 (Xn.cells n A)] w') DT ?_)))))))
 have M := M.drew
 refine oc 0 28 rfl rfl M (oa 1 28 rfl rfl M (fun _ M => AW rfl rfl (sc rfl) (M.cell 0 rfl rfl)) (oa 2 28 rfl rfl M (fun _ M => CY rfl rfl (sl rfl)) (oc 3 28 rfl rfl M (oa 4 28 rfl rfl M (fun _ M => AW rfl rfl (sc rfl) (M.cell 0 rfl rfl)) (D0 5 (some 8) (by kernel_rfl) rfl (A4 rfl) rfl rfl (AG rfl rfl Tryz.call172) (nY _ _) ?_)))))
 rintro _ w2 ⟨rfl, hfw2⟩
 refine ⟨_, rfl, fun _ => M.step hfw2, ?_⟩
 have M := M.step hfw2
 refine oa 6 28 rfl rfl M (fun _ M => CX rfl rfl rfl) (oc 7 28 rfl rfl M (HW (d := 10) (b := (!decide (((n.nk : Nat) : Int) = (KX n.op)))) rfl (fun h10 => ?_) (fun h10 => ?_)))
 ·have h10p := (of_decide_eq_false (C4 h10))
  refine oo1 8 28 rfl rfl rfl rfl rfl rfl rfl M (oo1 9 28 rfl rfl rfl rfl rfl rfl rfl M (oo1 10 28 rfl rfl rfl rfl rfl rfl rfl M (oo1 11 28 rfl rfl rfl rfl rfl rfl rfl M (F6 12 28 (by kernel_rfl) (fun c a t v w h => by cases t <;> exact h) (by kernel_rfl) rfl (by kernel_rfl) (by kernel_rfl) rfl rfl rfl rfl rfl rfl M (F6 13 28 (by kernel_rfl) (fun c a t v w h => by cases t <;> exact h) (by kernel_rfl) rfl (by kernel_rfl) (by kernel_rfl) rfl rfl rfl rfl rfl rfl M (F6 14 28 (by kernel_rfl) (fun c a t v w h => by cases t <;> exact h) (by kernel_rfl) rfl (by kernel_rfl) (by kernel_rfl) rfl rfl rfl rfl rfl rfl M (F6 15 28 (by kernel_rfl) (fun c a t v w h => by cases t <;> exact h) (by kernel_rfl) rfl (by kernel_rfl) (by kernel_rfl) rfl rfl rfl rfl rfl rfl M (oo1 16 28 rfl rfl rfl rfl rfl rfl rfl M (oc 17 28 rfl rfl M (oc 18 28 rfl rfl M (oo1 19 28 rfl rfl rfl rfl rfl rfl rfl M (oo1 20 28 rfl rfl rfl rfl rfl rfl rfl M (oo1 21 28 rfl rfl rfl rfl rfl rfl rfl M (oo1 22 28 rfl rfl rfl rfl rfl rfl rfl M (F6 23 28 (by kernel_rfl) (fun c a t v w h => by cases t <;> exact h) (by kernel_rfl) rfl (by kernel_rfl) (by kernel_rfl) rfl rfl rfl rfl rfl rfl M ?_)))))))))))))))
  exact F6 24 28 (by kernel_rfl) (fun c a t v w h => by cases t <;> exact h) (by kernel_rfl) rfl (by kernel_rfl) (by kernel_rfl) rfl rfl rfl rfl rfl rfl M (F6 25 28 (by kernel_rfl) (fun c a t v w h => by cases t <;> exact h) (by kernel_rfl) rfl (by kernel_rfl) (by kernel_rfl) rfl rfl rfl rfl rfl rfl M (oo1 26 28 rfl rfl rfl rfl rfl rfl rfl M (oc 27 28 rfl rfl M (BM (by kernel_rfl) (A2 (DQ rfl (A9 (A0 (yb rfl (A1 (A2 (AE (AA (AI rfl rfl ⟨by rw [IF, if_pos h10], M.fr⟩))))))))))))))
 ·have h10p := (of_decide_eq_true (C6 h10))
  refine ob 8 28 rfl (BA rfl rfl rfl) rfl rfl M (fun _ M => yp rfl) (ob 9 28 rfl (BA rfl rfl rfl) rfl rfl M (fun _ M => AW rfl rfl (sc rfl) (M.cell 0 rfl rfl)) (ob 10 28 rfl (BA rfl rfl rfl) rfl rfl M (fun _ M => CX rfl rfl rfl) (ob 11 28 rfl (BA rfl rfl rfl) rfl rfl M (fun _ M => yp rfl) (HW (d := 14) (b := (!decide ((n.op.toNat : Int) = (1 : Int)))) rfl (fun h14 => ?_) (fun h14 => ?_)))))
  ·have h14p := (of_decide_eq_false (C4 h14))
   refine ob 12 28 rfl (BA rfl rfl rfl) rfl rfl M (fun _ M => yp rfl) (ob 13 28 rfl (BA rfl rfl rfl) rfl rfl M (fun _ M => AO (xs := [.int .u8 (n.vl.kind.toNat : Int), .int .i64 n.vl.int, .bool n.vl.bool, str n.vl.text]) rfl rfl (FD (M.blk 0 rfl) 1 4 rfl rfl) Tryz.underlying67 rfl D2) (ob 14 28 rfl (BA rfl rfl rfl) rfl rfl M (fun _ M => BS (parts := []) rfl rfl (N3)) (ob 15 28 rfl (BA rfl rfl rfl) rfl rfl M (fun _ M => lO (a := n.vl) (b := zeroVl) rfl rfl rfl) (ob 16 28 rfl (BA rfl rfl rfl) rfl rfl M (fun _ M => yp rfl) (oc 17 28 rfl rfl M (oc 18 28 rfl rfl M (HW (d := 21) (b := (!(n.vl.same zeroVl))) rfl (fun h21 => ?_) (fun h21 => ?_))))))))
   ·refine oo1 19 28 rfl rfl rfl rfl rfl rfl rfl M (oo1 20 28 rfl rfl rfl rfl rfl rfl rfl M (oo1 21 28 rfl rfl rfl rfl rfl rfl rfl M (oo1 22 28 rfl rfl rfl rfl rfl rfl rfl M (F6 23 28 (by kernel_rfl) (fun c a t v w h => by cases t <;> exact h) (by kernel_rfl) rfl (by kernel_rfl) (by kernel_rfl) rfl rfl rfl rfl rfl rfl M (F6 24 28 (by kernel_rfl) (fun c a t v w h => by cases t <;> exact h) (by kernel_rfl) rfl (by kernel_rfl) (by kernel_rfl) rfl rfl rfl rfl rfl rfl M (F6 25 28 (by kernel_rfl) (fun c a t v w h => by cases t <;> exact h) (by kernel_rfl) rfl (by kernel_rfl) (by kernel_rfl) rfl rfl rfl rfl rfl rfl M (oo1 26 28 rfl rfl rfl rfl rfl rfl rfl M (oc 27 28 rfl rfl M (BM (by kernel_rfl) (A2 (DQ rfl (A9 (A0 (yb rfl (A1 ?_)))))))))))))))
    exact A2 (AE (AA (AI rfl rfl ⟨by rw [IF, if_neg (BD h10), if_pos h14, if_pos h21], M.fr⟩)))
   ·refine ob 19 28 rfl (BA rfl rfl rfl) rfl rfl M (fun _ M => yp rfl) (ob 20 28 rfl (BA rfl rfl rfl) rfl rfl M (fun _ M => AW rfl rfl (sc rfl) (M.cell 0 rfl rfl)) (ob 21 28 rfl (BA rfl rfl rfl) rfl rfl M (fun _ M => CX rfl rfl rfl) (ob 22 28 rfl (BA rfl rfl rfl) rfl rfl M (fun _ M => yp rfl) (HW (d := 25) (b := (!decide ((n.op.toNat : Int) = (2 : Int)))) rfl (fun h25 => ?_) (fun h25 => ?_)))))
    ·have h25p := (of_decide_eq_false (C4 h25))
     refine ob 23 28 rfl (BA rfl rfl rfl) rfl rfl M (fun _ M => yp rfl) (ob 24 28 rfl (BA rfl rfl rfl) rfl rfl M (fun _ M => AW rfl rfl (sc rfl) (M.cell 0 rfl rfl)) (ob 25 28 rfl (BA rfl rfl rfl) rfl rfl M (fun _ M => HD rfl rfl rfl) (ob 26 28 rfl (BA rfl rfl rfl) rfl rfl M (fun _ M => yp rfl) (oc 27 28 rfl rfl M (BM (by kernel_rfl) (A2 (AR (b := (!decide (n.nm = []))) rfl (fun h30 => ?_) (fun h30 => ?_))))))))
     ·have h30p := (of_decide_eq_false (C4 h30))
      exact A9 (A0 (yb rfl (A1 (A2 (AE (AA (AI rfl rfl ⟨by rw [IF, if_neg (BD h10), if_pos h14, if_neg (BD h21), if_pos h25, if_pos h30], M.fr⟩)))))))
     ·have h30p := (of_decide_eq_true (C6 h30))
      refine AM (A2 (A9 (A9 (A0 (yb rfl (yl rfl rfl (M.cell 0 rfl rfl) (ya rfl (BC rfl rfl rfl) (yb rfl (AV 11 [(1, .pointer (some ⟨g1, 0, none⟩)), (45, .bool ((decide ((n.op.toNat : Int) = (1 : Int))) && ((!decide ((chk n.vl) = (0 : Int))) || (decide (n.vl.int < (0 : Int))))))] (fun w' => Mem w AB [As.blk g1 70 (Xn.cells n A)] w') ?_ (fun k34 => ?_))))))))))
      ·intro w3 M
       refine yb rfl (AV 15 [(1, .pointer (some ⟨g1, 0, none⟩)), (61, .bool (((decide ((n.op.toNat : Int) = (1 : Int))) && ((!decide ((chk n.vl) = (0 : Int))) || (decide (n.vl.int < (0 : Int))))) || ((decide ((n.op.toNat : Int) = (2 : Int))) && ((!(BX n.nm)) || (HF n.nm)))))] (fun w' => Mem w AB [As.blk g1 70 (Xn.cells n A)] w') ?_ (fun k46 => ?_))
       ·intro w4 M
        refine A1 (A2 (AR (b := (((decide ((n.op.toNat : Int) = (1 : Int))) && ((!decide ((chk n.vl) = (0 : Int))) || (decide (n.vl.int < (0 : Int))))) || ((decide ((n.op.toNat : Int) = (2 : Int))) && ((!(BX n.nm)) || (HF n.nm))))) rfl (fun h61 => ?_) (fun h61 => ?_)))
        ·have h61p := ((EK h61).imp (fun z => (And.intro (of_decide_eq_true (C8 z).1) ((EK (C8 z).2).imp (fun z => (of_decide_eq_false (C4 z))) (fun z => (of_decide_eq_true z))))) (fun z => (And.intro (of_decide_eq_true (C8 z).1) ((EK (C8 z).2).imp (fun z => (C4 z)) (fun z => z)))))
         exact A9 (A0 (yb rfl (A1 (A2 (AE (AA (AI rfl rfl ⟨by rw [IF, if_neg (BD h10), if_pos h14, if_neg (BD h21), if_pos h25, if_neg (BD h30), if_pos h61], M.fr⟩)))))))
        ·have h61p := (And.intro ((E9 (CD h61).1).imp (fun z => (of_decide_eq_false z)) (fun z => (And.intro (of_decide_eq_true (C6 (CD z).1)) (of_decide_eq_false (CD z).2)))) ((E9 (CD h61).2).imp (fun z => (of_decide_eq_false z)) (fun z => (And.intro (C6 (CD z).1) (CD z).2))))
         refine AM (A2 (A9 (A0 (yb rfl (yl rfl rfl (M.cell 0 rfl rfl) (AC (some 64) (A4 rfl) rfl rfl (AG rfl rfl Tryz.call173) (hC _ M.fr) ?_))))))
         rintro _ w5 ⟨rfl, hfw5⟩
         refine ⟨_, rfl, ?_⟩
         have M := M.step hfw5
         exact yb rfl (yb rfl (A1 (A2 (AE (AI rfl rfl ⟨by rw [IF, if_neg (BD h10), if_pos h14, if_neg (BD h21), if_pos h25, if_neg (BD h30), if_neg (BD h61)], M.fr⟩)))))
       refine AF (d := 46) (b := ((decide ((n.op.toNat : Int) = (1 : Int))) && ((!decide ((chk n.vl) = (0 : Int))) || (decide (n.vl.int < (0 : Int)))))) rfl (fun h46 => ?_) (fun h46 => ?_)
       ·iterate 4 refine yo rfl ?_
        iterate 9 refine C2 rfl rfl rfl rfl rfl ?_
        exact yo rfl (yb rfl (k46 _ _ M ⟨rfl, (by rw [h46]; rfl), trivial⟩))
       ·refine yd rfl (yp rfl) (ym rfl rfl (M.cell 0 rfl rfl) (yd rfl (BC rfl rfl rfl) (yd rfl (yp rfl) (AV 10 [(1, .pointer (some ⟨g1, 0, none⟩)), (46, .bool false), (60, .bool ((decide ((n.op.toNat : Int) = (2 : Int))) && ((!(BX n.nm)) || (HF n.nm))))] (fun w' => Mem w AB [As.blk g1 70 (Xn.cells n A)] w') ?_ (fun k50 => ?_)))))
        ·intro w6 M
         exact yb rfl (k46 _ _ M ⟨rfl, (by rw [h46]; rfl), trivial⟩)
        refine AF (d := 50) (b := (decide ((n.op.toNat : Int) = (2 : Int)))) rfl (fun h50 => ?_) (fun h50 => ?_)
        ·refine yd rfl (yp rfl) (ym rfl rfl (M.cell 0 rfl rfl) (AC (some 53) (BA rfl rfl rfl) rfl rfl (AG rfl rfl Tryz.call68) (DV n.nm _ (by have := n.sm_nm hs; omega)) ?_))
         rintro _ w7 ⟨rfl, hfw7⟩
         refine ⟨_, rfl, ?_⟩
         have M := M.step hfw7
         refine yd rfl (yp rfl) (yd rfl (yp rfl) (AV 4 [(1, .pointer (some ⟨g1, 0, none⟩)), (46, .bool false), (50, .bool true), (59, .bool ((!(BX n.nm)) || (HF n.nm)))] (fun w' => Mem w AB [As.blk g1 70 (Xn.cells n A)] w') ?_ (fun k55 => ?_)))
         ·intro w8 M
          exact yd rfl (yp rfl) (k50 _ _ M ⟨rfl, rfl, (by rw [h50]; rfl), trivial⟩)
         refine AF (d := 55) (b := (!(BX n.nm))) rfl (fun h55 => ?_) (fun h55 => ?_)
         ·exact yo rfl (yo rfl (yo rfl (yd rfl (yp rfl) (k55 _ _ M ⟨rfl, rfl, rfl, (by rw [h55]; rfl), trivial⟩))))
         ·refine yd rfl (yp rfl) (ym rfl rfl (M.cell 0 rfl rfl) (AC (some 58) (BA rfl rfl rfl) rfl rfl (AG rfl rfl Tryz.call141) (MP n.nm _) ?_))
          rintro _ w9 ⟨rfl, hfw9⟩
          refine ⟨_, rfl, ?_⟩
          have M := M.step hfw9
          exact yd rfl (yp rfl) (k55 _ _ M ⟨rfl, rfl, rfl, (by rw [h55]; rfl), trivial⟩)
        ·iterate 5 refine yo rfl ?_
         exact C2 rfl rfl rfl rfl rfl (C2 rfl rfl rfl rfl rfl (C2 rfl rfl rfl rfl rfl (yo rfl (yd rfl (yp rfl) (k50 _ _ M ⟨rfl, rfl, (by rw [h50]; rfl), trivial⟩)))))
      refine AF (d := 34) (b := (decide ((n.op.toNat : Int) = (1 : Int)))) rfl (fun h34 => ?_) (fun h34 => ?_)
      ·refine yd rfl (yp rfl) (yd rfl (AO (xs := [.int .u8 (n.vl.kind.toNat : Int), .int .i64 n.vl.int, .bool n.vl.bool, str n.vl.text]) rfl rfl (FD (M.blk 0 rfl) 1 4 rfl rfl) Tryz.underlying67 rfl D2) (AC (some 37) (BA rfl rfl rfl) rfl rfl (AG rfl rfl Tryz.call60) (J1 n.vl _ (by have := n.sm_vl hs; omega) (EX hU M.fr)) ?_))
       rintro _ w10 ⟨rfl, hfw10⟩
       refine ⟨_, rfl, ?_⟩
       have M := M.step hfw10
       refine yd rfl (CX rfl rfl rfl) (yd rfl (yp rfl) (AV 5 [(1, .pointer (some ⟨g1, 0, none⟩)), (34, .bool true), (44, .bool ((!decide ((chk n.vl) = (0 : Int))) || (decide (n.vl.int < (0 : Int)))))] (fun w' => Mem w AB [As.blk g1 70 (Xn.cells n A)] w') ?_ (fun k39 => ?_)))
       ·intro w11 M
        exact yb rfl (k34 _ _ M ⟨rfl, (by rw [h34]; rfl), trivial⟩)
       refine AF (d := 39) (b := (!decide ((chk n.vl) = (0 : Int)))) rfl (fun h39 => ?_) (fun h39 => ?_)
       ·iterate 4 refine yo rfl ?_
        exact yd rfl (yp rfl) (k39 _ _ M ⟨rfl, rfl, (by rw [h39]; rfl), trivial⟩)
       ·exact yd rfl (yp rfl) (yd rfl (yp rfl) (ym rfl rfl (M.cell 0 rfl rfl) (yd rfl (CJ rfl rfl rfl) (yd rfl (yp rfl) (k39 _ _ M ⟨rfl, rfl, (by rw [h39]; rfl), trivial⟩)))))
      ·iterate 5 refine yo rfl ?_
       iterate 4 refine C2 rfl rfl rfl rfl rfl ?_
       exact yo rfl (yb rfl (k34 _ _ M ⟨rfl, (by rw [h34]; rfl), trivial⟩))
    ·have h25p := (of_decide_eq_true (C6 h25))
     refine oo1 23 28 rfl rfl rfl rfl rfl rfl rfl M (oo1 24 28 rfl rfl rfl rfl rfl rfl rfl M (oo1 25 28 rfl rfl rfl rfl rfl rfl rfl M (ob 26 28 rfl (BA rfl rfl rfl) rfl rfl M (fun _ M => yp rfl) (oc 27 28 rfl rfl M (BM (by kernel_rfl) (A2 (DB rfl (AM (A2 (A9 (A9 (A0 (yb rfl (yl rfl rfl (M.cell 0 rfl rfl) (ya rfl (BC rfl rfl rfl) ?_)))))))))))))))
     refine yb rfl (AV 11 [(1, .pointer (some ⟨g1, 0, none⟩)), (45, .bool ((decide ((n.op.toNat : Int) = (1 : Int))) && ((!decide ((chk n.vl) = (0 : Int))) || (decide (n.vl.int < (0 : Int))))))] (fun w' => Mem w AB [As.blk g1 70 (Xn.cells n A)] w') ?_ (fun k34 => ?_))
     ·intro w12 M
      refine yb rfl (AV 15 [(1, .pointer (some ⟨g1, 0, none⟩)), (61, .bool (((decide ((n.op.toNat : Int) = (1 : Int))) && ((!decide ((chk n.vl) = (0 : Int))) || (decide (n.vl.int < (0 : Int))))) || ((decide ((n.op.toNat : Int) = (2 : Int))) && ((!(BX n.nm)) || (HF n.nm)))))] (fun w' => Mem w AB [As.blk g1 70 (Xn.cells n A)] w') ?_ (fun k46 => ?_))
      ·intro w13 M
       refine A1 (A2 (AR (b := (((decide ((n.op.toNat : Int) = (1 : Int))) && ((!decide ((chk n.vl) = (0 : Int))) || (decide (n.vl.int < (0 : Int))))) || ((decide ((n.op.toNat : Int) = (2 : Int))) && ((!(BX n.nm)) || (HF n.nm))))) rfl (fun h61 => ?_) (fun h61 => ?_)))
       ·have h61p := ((EK h61).imp (fun z => (And.intro (of_decide_eq_true (C8 z).1) ((EK (C8 z).2).imp (fun z => (of_decide_eq_false (C4 z))) (fun z => (of_decide_eq_true z))))) (fun z => (And.intro (of_decide_eq_true (C8 z).1) ((EK (C8 z).2).imp (fun z => (C4 z)) (fun z => z)))))
        exact A9 (A0 (yb rfl (A1 (A2 (AE (AA (AI rfl rfl ⟨by rw [IF, if_neg (BD h10), if_pos h14, if_neg (BD h21), if_neg (BD h25), if_pos h61], M.fr⟩)))))))
       ·have h61p := (And.intro ((E9 (CD h61).1).imp (fun z => (of_decide_eq_false z)) (fun z => (And.intro (of_decide_eq_true (C6 (CD z).1)) (of_decide_eq_false (CD z).2)))) ((E9 (CD h61).2).imp (fun z => (of_decide_eq_false z)) (fun z => (And.intro (C6 (CD z).1) (CD z).2))))
        refine AM (A2 (A9 (A0 (yb rfl (yl rfl rfl (M.cell 0 rfl rfl) (AC (some 64) (A4 rfl) rfl rfl (AG rfl rfl Tryz.call173) (hC _ M.fr) ?_))))))
        rintro _ w14 ⟨rfl, hfw14⟩
        refine ⟨_, rfl, ?_⟩
        have M := M.step hfw14
        exact yb rfl (yb rfl (A1 (A2 (AE (AI rfl rfl ⟨by rw [IF, if_neg (BD h10), if_pos h14, if_neg (BD h21), if_neg (BD h25), if_neg (BD h61)], M.fr⟩)))))
      refine AF (d := 46) (b := ((decide ((n.op.toNat : Int) = (1 : Int))) && ((!decide ((chk n.vl) = (0 : Int))) || (decide (n.vl.int < (0 : Int)))))) rfl (fun h46 => ?_) (fun h46 => ?_)
      ·iterate 4 refine yo rfl ?_
       iterate 9 refine C2 rfl rfl rfl rfl rfl ?_
       exact yo rfl (yb rfl (k46 _ _ M ⟨rfl, (by rw [h46]; rfl), trivial⟩))
      ·refine yd rfl (yp rfl) (ym rfl rfl (M.cell 0 rfl rfl) (yd rfl (BC rfl rfl rfl) (yd rfl (yp rfl) (AV 10 [(1, .pointer (some ⟨g1, 0, none⟩)), (46, .bool false), (60, .bool ((decide ((n.op.toNat : Int) = (2 : Int))) && ((!(BX n.nm)) || (HF n.nm))))] (fun w' => Mem w AB [As.blk g1 70 (Xn.cells n A)] w') ?_ (fun k50 => ?_)))))
       ·intro w15 M
        exact yb rfl (k46 _ _ M ⟨rfl, (by rw [h46]; rfl), trivial⟩)
       refine AF (d := 50) (b := (decide ((n.op.toNat : Int) = (2 : Int)))) rfl (fun h50 => ?_) (fun h50 => ?_)
       ·refine yd rfl (yp rfl) (ym rfl rfl (M.cell 0 rfl rfl) (AC (some 53) (BA rfl rfl rfl) rfl rfl (AG rfl rfl Tryz.call68) (DV n.nm _ (by have := n.sm_nm hs; omega)) ?_))
        rintro _ w16 ⟨rfl, hfw16⟩
        refine ⟨_, rfl, ?_⟩
        have M := M.step hfw16
        refine yd rfl (yp rfl) (yd rfl (yp rfl) (AV 4 [(1, .pointer (some ⟨g1, 0, none⟩)), (46, .bool false), (50, .bool true), (59, .bool ((!(BX n.nm)) || (HF n.nm)))] (fun w' => Mem w AB [As.blk g1 70 (Xn.cells n A)] w') ?_ (fun k55 => ?_)))
        ·intro w17 M
         exact yd rfl (yp rfl) (k50 _ _ M ⟨rfl, rfl, (by rw [h50]; rfl), trivial⟩)
        refine AF (d := 55) (b := (!(BX n.nm))) rfl (fun h55 => ?_) (fun h55 => ?_)
        ·exact yo rfl (yo rfl (yo rfl (yd rfl (yp rfl) (k55 _ _ M ⟨rfl, rfl, rfl, (by rw [h55]; rfl), trivial⟩))))
        ·refine yd rfl (yp rfl) (ym rfl rfl (M.cell 0 rfl rfl) (AC (some 58) (BA rfl rfl rfl) rfl rfl (AG rfl rfl Tryz.call141) (MP n.nm _) ?_))
         rintro _ w18 ⟨rfl, hfw18⟩
         refine ⟨_, rfl, ?_⟩
         have M := M.step hfw18
         exact yd rfl (yp rfl) (k55 _ _ M ⟨rfl, rfl, rfl, (by rw [h55]; rfl), trivial⟩)
       ·iterate 5 refine yo rfl ?_
        exact C2 rfl rfl rfl rfl rfl (C2 rfl rfl rfl rfl rfl (C2 rfl rfl rfl rfl rfl (yo rfl (yd rfl (yp rfl) (k50 _ _ M ⟨rfl, rfl, (by rw [h50]; rfl), trivial⟩)))))
     refine AF (d := 34) (b := (decide ((n.op.toNat : Int) = (1 : Int)))) rfl (fun h34 => ?_) (fun h34 => ?_)
     ·refine yd rfl (yp rfl) (yd rfl (AO (xs := [.int .u8 (n.vl.kind.toNat : Int), .int .i64 n.vl.int, .bool n.vl.bool, str n.vl.text]) rfl rfl (FD (M.blk 0 rfl) 1 4 rfl rfl) Tryz.underlying67 rfl D2) (AC (some 37) (BA rfl rfl rfl) rfl rfl (AG rfl rfl Tryz.call60) (J1 n.vl _ (by have := n.sm_vl hs; omega) (EX hU M.fr)) ?_))
      rintro _ w19 ⟨rfl, hfw19⟩
      refine ⟨_, rfl, ?_⟩
      have M := M.step hfw19
      refine yd rfl (CX rfl rfl rfl) (yd rfl (yp rfl) (AV 5 [(1, .pointer (some ⟨g1, 0, none⟩)), (34, .bool true), (44, .bool ((!decide ((chk n.vl) = (0 : Int))) || (decide (n.vl.int < (0 : Int)))))] (fun w' => Mem w AB [As.blk g1 70 (Xn.cells n A)] w') ?_ (fun k39 => ?_)))
      ·intro w20 M
       exact yb rfl (k34 _ _ M ⟨rfl, (by rw [h34]; rfl), trivial⟩)
      refine AF (d := 39) (b := (!decide ((chk n.vl) = (0 : Int)))) rfl (fun h39 => ?_) (fun h39 => ?_)
      ·iterate 4 refine yo rfl ?_
       exact yd rfl (yp rfl) (k39 _ _ M ⟨rfl, rfl, (by rw [h39]; rfl), trivial⟩)
      ·exact yd rfl (yp rfl) (yd rfl (yp rfl) (ym rfl rfl (M.cell 0 rfl rfl) (yd rfl (CJ rfl rfl rfl) (yd rfl (yp rfl) (k39 _ _ M ⟨rfl, rfl, (by rw [h39]; rfl), trivial⟩)))))
     ·iterate 5 refine yo rfl ?_
      iterate 4 refine C2 rfl rfl rfl rfl rfl ?_
      exact yo rfl (yb rfl (k34 _ _ M ⟨rfl, (by rw [h34]; rfl), trivial⟩))
  ·have h14p := (of_decide_eq_true (C6 h14))
   refine oo1 12 28 rfl rfl rfl rfl rfl rfl rfl M (oo1 13 28 rfl rfl rfl rfl rfl rfl rfl M (oo1 14 28 rfl rfl rfl rfl rfl rfl rfl M (oo1 15 28 rfl rfl rfl rfl rfl rfl rfl M (ob 16 28 rfl (BA rfl rfl rfl) rfl rfl M (fun _ M => yp rfl) (oc 17 28 rfl rfl M (oc 18 28 rfl rfl M (ob 19 28 rfl (BA rfl rfl rfl) rfl rfl M (fun _ M => yp rfl) (ob 20 28 rfl (BA rfl rfl rfl) rfl rfl M (fun _ M => AW rfl rfl (sc rfl) (M.cell 0 rfl rfl)) (ob 21 28 rfl (BA rfl rfl rfl) rfl rfl M (fun _ M => CX rfl rfl rfl) (ob 22 28 rfl (BA rfl rfl rfl) rfl rfl M (fun _ M => yp rfl) (HW (d := 25) (b := (!decide ((n.op.toNat : Int) = (2 : Int)))) rfl (fun h25 => ?_) (fun h25 => ?_))))))))))))
   ·have h25p := (of_decide_eq_false (C4 h25))
    refine ob 23 28 rfl (BA rfl rfl rfl) rfl rfl M (fun _ M => yp rfl) (ob 24 28 rfl (BA rfl rfl rfl) rfl rfl M (fun _ M => AW rfl rfl (sc rfl) (M.cell 0 rfl rfl)) (ob 25 28 rfl (BA rfl rfl rfl) rfl rfl M (fun _ M => HD rfl rfl rfl) (ob 26 28 rfl (BA rfl rfl rfl) rfl rfl M (fun _ M => yp rfl) (oc 27 28 rfl rfl M (BM (by kernel_rfl) (A2 (AR (b := (!decide (n.nm = []))) rfl (fun h30 => ?_) (fun h30 => ?_))))))))
    ·have h30p := (of_decide_eq_false (C4 h30))
     exact A9 (A0 (yb rfl (A1 (A2 (AE (AA (AI rfl rfl ⟨by rw [IF, if_neg (BD h10), if_neg (BD h14), if_pos h25, if_pos h30], M.fr⟩)))))))
    ·have h30p := (of_decide_eq_true (C6 h30))
     refine AM (A2 (A9 (A9 (A0 (yb rfl (yl rfl rfl (M.cell 0 rfl rfl) (ya rfl (BC rfl rfl rfl) (yb rfl (AV 11 [(1, .pointer (some ⟨g1, 0, none⟩)), (45, .bool ((decide ((n.op.toNat : Int) = (1 : Int))) && ((!decide ((chk n.vl) = (0 : Int))) || (decide (n.vl.int < (0 : Int))))))] (fun w' => Mem w AB [As.blk g1 70 (Xn.cells n A)] w') ?_ (fun k34 => ?_))))))))))
     ·intro w21 M
      refine yb rfl (AV 15 [(1, .pointer (some ⟨g1, 0, none⟩)), (61, .bool (((decide ((n.op.toNat : Int) = (1 : Int))) && ((!decide ((chk n.vl) = (0 : Int))) || (decide (n.vl.int < (0 : Int))))) || ((decide ((n.op.toNat : Int) = (2 : Int))) && ((!(BX n.nm)) || (HF n.nm)))))] (fun w' => Mem w AB [As.blk g1 70 (Xn.cells n A)] w') ?_ (fun k46 => ?_))
      ·intro w22 M
       refine A1 (A2 (AR (b := (((decide ((n.op.toNat : Int) = (1 : Int))) && ((!decide ((chk n.vl) = (0 : Int))) || (decide (n.vl.int < (0 : Int))))) || ((decide ((n.op.toNat : Int) = (2 : Int))) && ((!(BX n.nm)) || (HF n.nm))))) rfl (fun h61 => ?_) (fun h61 => ?_)))
       ·have h61p := ((EK h61).imp (fun z => (And.intro (of_decide_eq_true (C8 z).1) ((EK (C8 z).2).imp (fun z => (of_decide_eq_false (C4 z))) (fun z => (of_decide_eq_true z))))) (fun z => (And.intro (of_decide_eq_true (C8 z).1) ((EK (C8 z).2).imp (fun z => (C4 z)) (fun z => z)))))
        exact A9 (A0 (yb rfl (A1 (A2 (AE (AA (AI rfl rfl ⟨by rw [IF, if_neg (BD h10), if_neg (BD h14), if_pos h25, if_neg (BD h30), if_pos h61], M.fr⟩)))))))
       ·have h61p := (And.intro ((E9 (CD h61).1).imp (fun z => (of_decide_eq_false z)) (fun z => (And.intro (of_decide_eq_true (C6 (CD z).1)) (of_decide_eq_false (CD z).2)))) ((E9 (CD h61).2).imp (fun z => (of_decide_eq_false z)) (fun z => (And.intro (C6 (CD z).1) (CD z).2))))
        refine AM (A2 (A9 (A0 (yb rfl (yl rfl rfl (M.cell 0 rfl rfl) (AC (some 64) (A4 rfl) rfl rfl (AG rfl rfl Tryz.call173) (hC _ M.fr) ?_))))))
        rintro _ w23 ⟨rfl, hfw23⟩
        refine ⟨_, rfl, ?_⟩
        have M := M.step hfw23
        exact yb rfl (yb rfl (A1 (A2 (AE (AI rfl rfl ⟨by rw [IF, if_neg (BD h10), if_neg (BD h14), if_pos h25, if_neg (BD h30), if_neg (BD h61)], M.fr⟩)))))
      refine AF (d := 46) (b := ((decide ((n.op.toNat : Int) = (1 : Int))) && ((!decide ((chk n.vl) = (0 : Int))) || (decide (n.vl.int < (0 : Int)))))) rfl (fun h46 => ?_) (fun h46 => ?_)
      ·iterate 4 refine yo rfl ?_
       iterate 9 refine C2 rfl rfl rfl rfl rfl ?_
       exact yo rfl (yb rfl (k46 _ _ M ⟨rfl, (by rw [h46]; rfl), trivial⟩))
      ·refine yd rfl (yp rfl) (ym rfl rfl (M.cell 0 rfl rfl) (yd rfl (BC rfl rfl rfl) (yd rfl (yp rfl) (AV 10 [(1, .pointer (some ⟨g1, 0, none⟩)), (46, .bool false), (60, .bool ((decide ((n.op.toNat : Int) = (2 : Int))) && ((!(BX n.nm)) || (HF n.nm))))] (fun w' => Mem w AB [As.blk g1 70 (Xn.cells n A)] w') ?_ (fun k50 => ?_)))))
       ·intro w24 M
        exact yb rfl (k46 _ _ M ⟨rfl, (by rw [h46]; rfl), trivial⟩)
       refine AF (d := 50) (b := (decide ((n.op.toNat : Int) = (2 : Int)))) rfl (fun h50 => ?_) (fun h50 => ?_)
       ·refine yd rfl (yp rfl) (ym rfl rfl (M.cell 0 rfl rfl) (AC (some 53) (BA rfl rfl rfl) rfl rfl (AG rfl rfl Tryz.call68) (DV n.nm _ (by have := n.sm_nm hs; omega)) ?_))
        rintro _ w25 ⟨rfl, hfw25⟩
        refine ⟨_, rfl, ?_⟩
        have M := M.step hfw25
        refine yd rfl (yp rfl) (yd rfl (yp rfl) (AV 4 [(1, .pointer (some ⟨g1, 0, none⟩)), (46, .bool false), (50, .bool true), (59, .bool ((!(BX n.nm)) || (HF n.nm)))] (fun w' => Mem w AB [As.blk g1 70 (Xn.cells n A)] w') ?_ (fun k55 => ?_)))
        ·intro w26 M
         exact yd rfl (yp rfl) (k50 _ _ M ⟨rfl, rfl, (by rw [h50]; rfl), trivial⟩)
        refine AF (d := 55) (b := (!(BX n.nm))) rfl (fun h55 => ?_) (fun h55 => ?_)
        ·exact yo rfl (yo rfl (yo rfl (yd rfl (yp rfl) (k55 _ _ M ⟨rfl, rfl, rfl, (by rw [h55]; rfl), trivial⟩))))
        ·refine yd rfl (yp rfl) (ym rfl rfl (M.cell 0 rfl rfl) (AC (some 58) (BA rfl rfl rfl) rfl rfl (AG rfl rfl Tryz.call141) (MP n.nm _) ?_))
         rintro _ w27 ⟨rfl, hfw27⟩
         refine ⟨_, rfl, ?_⟩
         have M := M.step hfw27
         exact yd rfl (yp rfl) (k55 _ _ M ⟨rfl, rfl, rfl, (by rw [h55]; rfl), trivial⟩)
       ·iterate 5 refine yo rfl ?_
        exact C2 rfl rfl rfl rfl rfl (C2 rfl rfl rfl rfl rfl (C2 rfl rfl rfl rfl rfl (yo rfl (yd rfl (yp rfl) (k50 _ _ M ⟨rfl, rfl, (by rw [h50]; rfl), trivial⟩)))))
     refine AF (d := 34) (b := (decide ((n.op.toNat : Int) = (1 : Int)))) rfl (fun h34 => ?_) (fun h34 => ?_)
     ·refine yd rfl (yp rfl) (yd rfl (AO (xs := [.int .u8 (n.vl.kind.toNat : Int), .int .i64 n.vl.int, .bool n.vl.bool, str n.vl.text]) rfl rfl (FD (M.blk 0 rfl) 1 4 rfl rfl) Tryz.underlying67 rfl D2) (AC (some 37) (BA rfl rfl rfl) rfl rfl (AG rfl rfl Tryz.call60) (J1 n.vl _ (by have := n.sm_vl hs; omega) (EX hU M.fr)) ?_))
      rintro _ w28 ⟨rfl, hfw28⟩
      refine ⟨_, rfl, ?_⟩
      have M := M.step hfw28
      refine yd rfl (CX rfl rfl rfl) (yd rfl (yp rfl) (AV 5 [(1, .pointer (some ⟨g1, 0, none⟩)), (34, .bool true), (44, .bool ((!decide ((chk n.vl) = (0 : Int))) || (decide (n.vl.int < (0 : Int)))))] (fun w' => Mem w AB [As.blk g1 70 (Xn.cells n A)] w') ?_ (fun k39 => ?_)))
      ·intro w29 M
       exact yb rfl (k34 _ _ M ⟨rfl, (by rw [h34]; rfl), trivial⟩)
      refine AF (d := 39) (b := (!decide ((chk n.vl) = (0 : Int)))) rfl (fun h39 => ?_) (fun h39 => ?_)
      ·iterate 4 refine yo rfl ?_
       exact yd rfl (yp rfl) (k39 _ _ M ⟨rfl, rfl, (by rw [h39]; rfl), trivial⟩)
      ·exact yd rfl (yp rfl) (yd rfl (yp rfl) (ym rfl rfl (M.cell 0 rfl rfl) (yd rfl (CJ rfl rfl rfl) (yd rfl (yp rfl) (k39 _ _ M ⟨rfl, rfl, (by rw [h39]; rfl), trivial⟩)))))
     ·iterate 5 refine yo rfl ?_
      iterate 4 refine C2 rfl rfl rfl rfl rfl ?_
      exact yo rfl (yb rfl (k34 _ _ M ⟨rfl, (by rw [h34]; rfl), trivial⟩))
   ·have h25p := (of_decide_eq_true (C6 h25))
    refine oo1 23 28 rfl rfl rfl rfl rfl rfl rfl M (oo1 24 28 rfl rfl rfl rfl rfl rfl rfl M (oo1 25 28 rfl rfl rfl rfl rfl rfl rfl M (ob 26 28 rfl (BA rfl rfl rfl) rfl rfl M (fun _ M => yp rfl) (oc 27 28 rfl rfl M (BM (by kernel_rfl) (A2 (DB rfl (AM (A2 (A9 (A9 (A0 (yb rfl (yl rfl rfl (M.cell 0 rfl rfl) (ya rfl (BC rfl rfl rfl) ?_)))))))))))))))
    refine yb rfl (AV 11 [(1, .pointer (some ⟨g1, 0, none⟩)), (45, .bool ((decide ((n.op.toNat : Int) = (1 : Int))) && ((!decide ((chk n.vl) = (0 : Int))) || (decide (n.vl.int < (0 : Int))))))] (fun w' => Mem w AB [As.blk g1 70 (Xn.cells n A)] w') ?_ (fun k34 => ?_))
    ·intro w30 M
     refine yb rfl (AV 15 [(1, .pointer (some ⟨g1, 0, none⟩)), (61, .bool (((decide ((n.op.toNat : Int) = (1 : Int))) && ((!decide ((chk n.vl) = (0 : Int))) || (decide (n.vl.int < (0 : Int))))) || ((decide ((n.op.toNat : Int) = (2 : Int))) && ((!(BX n.nm)) || (HF n.nm)))))] (fun w' => Mem w AB [As.blk g1 70 (Xn.cells n A)] w') ?_ (fun k46 => ?_))
     ·intro w31 M
      refine A1 (A2 (AR (b := (((decide ((n.op.toNat : Int) = (1 : Int))) && ((!decide ((chk n.vl) = (0 : Int))) || (decide (n.vl.int < (0 : Int))))) || ((decide ((n.op.toNat : Int) = (2 : Int))) && ((!(BX n.nm)) || (HF n.nm))))) rfl (fun h61 => ?_) (fun h61 => ?_)))
      ·have h61p := ((EK h61).imp (fun z => (And.intro (of_decide_eq_true (C8 z).1) ((EK (C8 z).2).imp (fun z => (of_decide_eq_false (C4 z))) (fun z => (of_decide_eq_true z))))) (fun z => (And.intro (of_decide_eq_true (C8 z).1) ((EK (C8 z).2).imp (fun z => (C4 z)) (fun z => z)))))
       exact A9 (A0 (yb rfl (A1 (A2 (AE (AA (AI rfl rfl ⟨by rw [IF, if_neg (BD h10), if_neg (BD h14), if_neg (BD h25), if_pos h61], M.fr⟩)))))))
      ·have h61p := (And.intro ((E9 (CD h61).1).imp (fun z => (of_decide_eq_false z)) (fun z => (And.intro (of_decide_eq_true (C6 (CD z).1)) (of_decide_eq_false (CD z).2)))) ((E9 (CD h61).2).imp (fun z => (of_decide_eq_false z)) (fun z => (And.intro (C6 (CD z).1) (CD z).2))))
       refine AM (A2 (A9 (A0 (yb rfl (yl rfl rfl (M.cell 0 rfl rfl) (AC (some 64) (A4 rfl) rfl rfl (AG rfl rfl Tryz.call173) (hC _ M.fr) ?_))))))
       rintro _ w32 ⟨rfl, hfw32⟩
       refine ⟨_, rfl, ?_⟩
       have M := M.step hfw32
       exact yb rfl (yb rfl (A1 (A2 (AE (AI rfl rfl ⟨by rw [IF, if_neg (BD h10), if_neg (BD h14), if_neg (BD h25), if_neg (BD h61)], M.fr⟩)))))
     refine AF (d := 46) (b := ((decide ((n.op.toNat : Int) = (1 : Int))) && ((!decide ((chk n.vl) = (0 : Int))) || (decide (n.vl.int < (0 : Int)))))) rfl (fun h46 => ?_) (fun h46 => ?_)
     ·iterate 4 refine yo rfl ?_
      iterate 9 refine C2 rfl rfl rfl rfl rfl ?_
      exact yo rfl (yb rfl (k46 _ _ M ⟨rfl, (by rw [h46]; rfl), trivial⟩))
     ·refine yd rfl (yp rfl) (ym rfl rfl (M.cell 0 rfl rfl) (yd rfl (BC rfl rfl rfl) (yd rfl (yp rfl) (AV 10 [(1, .pointer (some ⟨g1, 0, none⟩)), (46, .bool false), (60, .bool ((decide ((n.op.toNat : Int) = (2 : Int))) && ((!(BX n.nm)) || (HF n.nm))))] (fun w' => Mem w AB [As.blk g1 70 (Xn.cells n A)] w') ?_ (fun k50 => ?_)))))
      ·intro w33 M
       exact yb rfl (k46 _ _ M ⟨rfl, (by rw [h46]; rfl), trivial⟩)
      refine AF (d := 50) (b := (decide ((n.op.toNat : Int) = (2 : Int)))) rfl (fun h50 => ?_) (fun h50 => ?_)
      ·refine yd rfl (yp rfl) (ym rfl rfl (M.cell 0 rfl rfl) (AC (some 53) (BA rfl rfl rfl) rfl rfl (AG rfl rfl Tryz.call68) (DV n.nm _ (by have := n.sm_nm hs; omega)) ?_))
       rintro _ w34 ⟨rfl, hfw34⟩
       refine ⟨_, rfl, ?_⟩
       have M := M.step hfw34
       refine yd rfl (yp rfl) (yd rfl (yp rfl) (AV 4 [(1, .pointer (some ⟨g1, 0, none⟩)), (46, .bool false), (50, .bool true), (59, .bool ((!(BX n.nm)) || (HF n.nm)))] (fun w' => Mem w AB [As.blk g1 70 (Xn.cells n A)] w') ?_ (fun k55 => ?_)))
       ·intro w35 M
        exact yd rfl (yp rfl) (k50 _ _ M ⟨rfl, rfl, (by rw [h50]; rfl), trivial⟩)
       refine AF (d := 55) (b := (!(BX n.nm))) rfl (fun h55 => ?_) (fun h55 => ?_)
       ·exact yo rfl (yo rfl (yo rfl (yd rfl (yp rfl) (k55 _ _ M ⟨rfl, rfl, rfl, (by rw [h55]; rfl), trivial⟩))))
       ·refine yd rfl (yp rfl) (ym rfl rfl (M.cell 0 rfl rfl) (AC (some 58) (BA rfl rfl rfl) rfl rfl (AG rfl rfl Tryz.call141) (MP n.nm _) ?_))
        rintro _ w36 ⟨rfl, hfw36⟩
        refine ⟨_, rfl, ?_⟩
        have M := M.step hfw36
        exact yd rfl (yp rfl) (k55 _ _ M ⟨rfl, rfl, rfl, (by rw [h55]; rfl), trivial⟩)
      ·iterate 5 refine yo rfl ?_
       exact C2 rfl rfl rfl rfl rfl (C2 rfl rfl rfl rfl rfl (C2 rfl rfl rfl rfl rfl (yo rfl (yd rfl (yp rfl) (k50 _ _ M ⟨rfl, rfl, (by rw [h50]; rfl), trivial⟩)))))
    refine AF (d := 34) (b := (decide ((n.op.toNat : Int) = (1 : Int)))) rfl (fun h34 => ?_) (fun h34 => ?_)
    ·refine yd rfl (yp rfl) (yd rfl (AO (xs := [.int .u8 (n.vl.kind.toNat : Int), .int .i64 n.vl.int, .bool n.vl.bool, str n.vl.text]) rfl rfl (FD (M.blk 0 rfl) 1 4 rfl rfl) Tryz.underlying67 rfl D2) (AC (some 37) (BA rfl rfl rfl) rfl rfl (AG rfl rfl Tryz.call60) (J1 n.vl _ (by have := n.sm_vl hs; omega) (EX hU M.fr)) ?_))
     rintro _ w37 ⟨rfl, hfw37⟩
     refine ⟨_, rfl, ?_⟩
     have M := M.step hfw37
     refine yd rfl (CX rfl rfl rfl) (yd rfl (yp rfl) (AV 5 [(1, .pointer (some ⟨g1, 0, none⟩)), (34, .bool true), (44, .bool ((!decide ((chk n.vl) = (0 : Int))) || (decide (n.vl.int < (0 : Int)))))] (fun w' => Mem w AB [As.blk g1 70 (Xn.cells n A)] w') ?_ (fun k39 => ?_)))
     ·intro w38 M
      exact yb rfl (k34 _ _ M ⟨rfl, (by rw [h34]; rfl), trivial⟩)
     refine AF (d := 39) (b := (!decide ((chk n.vl) = (0 : Int)))) rfl (fun h39 => ?_) (fun h39 => ?_)
     ·iterate 4 refine yo rfl ?_
      exact yd rfl (yp rfl) (k39 _ _ M ⟨rfl, rfl, (by rw [h39]; rfl), trivial⟩)
     ·exact yd rfl (yp rfl) (yd rfl (yp rfl) (ym rfl rfl (M.cell 0 rfl rfl) (yd rfl (CJ rfl rfl rfl) (yd rfl (yp rfl) (k39 _ _ M ⟨rfl, rfl, (by rw [h39]; rfl), trivial⟩)))))
    ·iterate 5 refine yo rfl ?_
     iterate 4 refine C2 rfl rfl rfl rfl rfl ?_
     exact yo rfl (yb rfl (k34 _ _ M ⟨rfl, (by rw [h34]; rfl), trivial⟩))
theorem l0 (q : Xn × Option Addr) (c : Bool) (w : World) (hq : ∀ W, Fr0 w W → Calls Tryz.prog 153 #[.agg (q.1.cells q.2).toArray] W fun e W' => e = .returned (.bool c) ∧ Fr0 W W') :
 Calls Tryz.prog 174 #[.agg (q.1.cells q.2).toArray] w fun e w' => e = .returned (.bool (!c)) ∧ Fr0 w w' := by
 refine AL (vs := [_]) Tryz.func174 rfl Tryz.ntmps174 rfl ?_
 have M := CM w
 refine A9 (A0 (BG M (A4 rfl) rfl rfl 70 rfl rfl (Xn.cells q.1 q.2) rfl fun g1 w1 hg1 M => yb rfl (A1 (A2 (A9 (A0 (ya rfl (AO (xs := Xn.cells q.1 q.2) rfl rfl (M.rdBlk 0 rfl rfl) Tryz.underlying70 rfl AN) (AC (some 4) (A4 rfl) rfl rfl (AG rfl rfl Tryz.call153) (hq _ M.fr) ?_))))))))
 rintro _ w2 ⟨rfl, hfw2⟩
 refine ⟨_, rfl, ?_⟩
 have M := M.step hfw2
 exact yb rfl (yb rfl (A1 (A2 (AE (AI rfl rfl ⟨rfl, M.fr⟩)))))
def chkX : Xn → Bool
 | .un o a => IF (.un o a) (!chkX a)
 | .bin o a b => IF (.bin o a b) (!chkX a || !chkX b)
 | .zero => IF .zero false
 | .lit v => IF (.lit v) false
 | .var s => IF (.var s) false
theorem UV (n : Xn) : chkX n = IF n (n.kids.any (fun a => !chkX a)) := by cases n <;> simp [chkX, Xn.kids]
theorem kZ : ∀ (n : Xn) (A : Option Addr) (F : List Nat) (w : World), n.AtL 70 w A F → n.sm 1048576 → Laid w utfL → Calls Tryz.prog 153 #[.agg (n.cells A).toArray] w fun e w' => e = .returned (.bool (chkX n)) ∧ Fr0 w w' := by
 refine Xn.ind fun n ih A F w hA hs hU => ?_
 rw [UV]
 refine oP n A _ w hs hU (fun W hW => ?_)
 obtain ⟨L, hL, hk, hR, hq⟩ := (hA.fr0 hW).kids
 rw [← hk]
 refine (kR ndC nR A L.length L (by have := n.nk_le; omega) 174 [] (fun _ q => !chkX q.1) AB (fun _ _ => True) W (GE Tryz.call174 (fun q hq' w1 hf => ?_)) (fun _ hf => hR.fr0 hf) trivial).mono ?_
 ·obtain ⟨F', hF'⟩ := hq q hq'
  have hk' : q.1 ∈ n.kids := by rw [← hL]; exact List.mem_map_of_mem hq'
  exact l0 q (chkX q.1) w1 (fun W' hW' => ih q.1 hk' q.2 F' W' (hF'.fr0 (hf.trans hW')) (Xn.sm_kid hs hk') (EX hU (hW.trans (hf.trans hW'))))
 ·rintro e w' ⟨rfl, _, hf⟩
  refine ⟨?_, hf⟩
  rw [JM, ← hL, List.any_map]; rfl
end Go.Proofs.YtadgfojhjnkliaaGreatDoor
