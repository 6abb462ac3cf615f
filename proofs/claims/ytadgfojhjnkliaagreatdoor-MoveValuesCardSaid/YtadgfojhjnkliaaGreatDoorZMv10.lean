/- Lemmas that the last text rests on. Condition: each says its own. -/
import Derived.Test.YtadgfojhjnkliaaGreatDoorZMv9
import Derived.Test.YtadgfojhjnkliaaGreatDoorZMoveRun1
set_option maxHeartbeats 16000000
set_option maxRecDepth 100000
namespace Go.Proofs.YtadgfojhjnkliaaGreatDoor
open Go.RowKit
open Tryz
structure MdStr (m : Md) : Prop where
 id : (m.id.length : Int) < 4611686018427387904
 nm : (m.nm.length : Int) < 4611686018427387904
 vars : BdOk m.vars
 els : ∀ x ∈ m.els, ElOk x
 fls : ∀ x ∈ m.fls, FlOk x
def YJ (m : Md) : Bool := ((decide ((70 : Int) < ((m.els.length : Nat) : Int))) || (decide ((140 : Int) < ((m.fls.length : Nat) : Int)))) || (decide ((20 : Int) < ((m.vars.length : Nat) : Int)))
theorem MdStr.ok {m : Md} (h : MdStr m) (hl : YJ m = false) : MdOk m := by
 have h1 := odf (CA (CA hl).1).1
 have h2 := odf (CA (CA hl).1).2
 have h3 := odf (CA hl).2
 exact ⟨h.id, h.nm, h.vars, by omega, by omega, by omega, h.els, h.fls⟩
theorem pB {w : World} {A : Option Addr} {n k : Nat} {xs : List Value} (h : Rd w A n xs) (hn : n = k) : Rd w A k xs := hn ▸ h
theorem gT {l : List Wt} {i : Nat} {x : Wt} (hx : l[i]? = some x) : (l.set i x.clr)[i]? = some x.clr := by
 rw [List.getElem?_set_self (List.getElem?_eq_some_iff.1 hx).1]
theorem VM {l k : List Wt} {i : Nat} {x : Wt} (h : l.drop i = k.drop i) : (l.set i x).drop (i + 1) = k.drop (i + 1) := by
 rw [List.drop_set_of_lt (by omega)]
 have := congrArg (List.drop 1) h
 rwa [List.drop_drop, List.drop_drop] at this
theorem WW {l k : List Wt} {i : Nat} {x : Wt} (h : l.drop i = k.drop i) (hx : l[i]? = some x) : k[i]? = some x := by
 have := congrArg (fun z => z[0]?) h
 simp only [List.getElem?_drop, Nat.add_zero] at this
 rw [← this]; exact hx
theorem j4 (m : Md) (a : MdA) (w : World) :
 Calls prog 5 #[.agg (Md.cells m a).toArray] w fun e w' => e = .returned (.bool (YJ m)) ∧ Fr0 w w' := by
 refine AK (vs := [_]) func5 rfl ntmps5 rfl ?_
 have M := CK w
 refine A4 (A0 (BD M (A9 rfl) rfl rfl 26 rfl rfl (Md.cells m a) rfl fun g1 w1 hg1 M => yb rfl (A1 (A2 (A4 (A0 (yb rfl (yl rfl rfl (M.cell 0 rfl rfl) (ya rfl (CY rfl rfl (sl rfl)) (ya rfl (FR rfl rfl rfl) (yb rfl (AT 5 [(1, pg g1), (2, .bool false), (12, .bool ((decide ((70 : Int) < ((m.els.length : Nat) : Int))) || (decide ((140 : Int) < ((m.fls.length : Nat) : Int)))))] (fun w' => Mem w AB [As.blk g1 26 (Md.cells m a)] w') ?_ (fun k7 => ?_)))))))))))))
 ·intro w2 M
  refine yb rfl (AT 5 [(2, .bool false), (18, .bool (((decide ((70 : Int) < ((m.els.length : Nat) : Int))) || (decide ((140 : Int) < ((m.fls.length : Nat) : Int)))) || (decide ((20 : Int) < ((m.vars.length : Nat) : Int)))))] (fun w' => Mem w AB [As.blk g1 26 (Md.cells m a)] w') ?_ (fun k13 => ?_))
  ·intro w3 M
   exact yb rfl (A1 (A2 (AD (AH rfl rfl ⟨rfl, M.fr⟩))))
  refine AE (d := 13) (b := ((decide ((70 : Int) < ((m.els.length : Nat) : Int))) || (decide ((140 : Int) < ((m.fls.length : Nat) : Int))))) rfl (fun h13 => ?_) (fun h13 => ?_)
  ·iterate 4 refine yo rfl ?_
   exact yb rfl (k13 _ _ M ⟨rfl, (by rw [h13]; rfl), trivial⟩)
  ·exact yd rfl (yp rfl) (ym rfl rfl (M.cell 0 rfl rfl) (yd rfl (CY rfl rfl (sl rfl)) (yd rfl (FR rfl rfl rfl) (yb rfl (k13 _ _ M ⟨rfl, (by rw [h13]; rfl), trivial⟩)))))
 refine AE (d := 7) (b := (decide ((70 : Int) < ((m.els.length : Nat) : Int)))) rfl (fun h7 => ?_) (fun h7 => ?_)
 ·iterate 4 refine yo rfl ?_
  exact yb rfl (k7 _ _ M ⟨rfl, rfl, (by rw [h7]; rfl), trivial⟩)
 ·exact yd rfl (yp rfl) (ym rfl rfl (M.cell 0 rfl rfl) (yd rfl (CY rfl rfl (sl rfl)) (yd rfl (FR rfl rfl rfl) (yb rfl (k7 _ _ M ⟨rfl, rfl, (by rw [h7]; rfl), trivial⟩)))))
theorem P7 (m : Md) (a : MdA) (t : Tk) (A B : Option Addr) (ca cb : Nat) (va vb : List Bd) (w : World) (hs : MdStr m) (hM : MdIn w m a) (hY : Lay0 w) (hla : va.length ≤ 4611686018427387904) (hVa : Rd w A (va.length * 5) (AR Bd.cells va)) (hlb : vb.length ≤ 4611686018427387904) (hVb : Rd w B (vb.length * 5) (AR Bd.cells vb)) :
 Calls prog 3 #[.agg (Md.cells m a).toArray, .agg t.cells.toArray, .slice A va.length ca, .slice B vb.length cb] w fun e w' => e = .returned (.bool true) ∧ Fr0 w w' := by
 refine AK (vs := [_, _, _, _]) func3 rfl ntmps3 rfl ?_
 have M := CK w
 refine A4 (A0 (BD M (A9 rfl) rfl rfl 26 rfl rfl (Md.cells m a) rfl fun g4 w1 hg4 M => BD M (A9 rfl) rfl rfl 29 rfl rfl (Tk.cells t) rfl fun g5 w2 hg5 M => yb rfl (A1 (A2 (A4 (A4 (A0 (cp M 15 rfl (AF rfl rfl call4) (OA _) fun w3 M => yb rfl (yb rfl (yd rfl (AN (xs := Md.cells m a) rfl rfl (M.rdBlk 1 rfl rfl) underlying26 rfl BL) ?_))))))))))
 refine CC (some 19) (B7 rfl rfl rfl) rfl rfl (AF rfl rfl call5) (j4 m a _) ?_
 rintro _ w4 ⟨rfl, hfw4⟩
 refine ⟨_, rfl, ?_⟩
 have M := M.step hfw4
 refine yb rfl (A1 (A2 (AQ (b := (YJ m)) rfl (fun h20 => ?_) (fun h20 => ?_))))
 ·exact A4 (A0 (cp M 21 rfl (AF rfl rfl call4) (OA _) fun w5 M => yb rfl (A1 (A2 (AD (AA (AH rfl rfl ⟨rfl, M.fr⟩)))))))
 ·refine AL (A2 (A4 (A0 (ya rfl (AN (xs := Md.cells m a) rfl rfl (M.rdBlk 1 rfl rfl) underlying26 rfl BL) ?_))))
  have ho := hs.ok h20
  refine cl 24 rfl (AF rfl rfl call6) (nQ m a _ ho (hM.fr0 M.fr) (hY.fr0 M.fr)) ?_
  rintro _ w6 ⟨p, er, c, F, rfl, hcr, hcn, hnc, hfw6⟩
  refine ⟨_, rfl, ?_⟩
  have M := M.push hfw6 (As.crs m p er c F) hcr hnc
  iterate 5 refine yb rfl ?_
  refine A1 (A2 (A4 (A4 (A0 (yb rfl (ya rfl (CX rfl rfl rfl) (A1 (A2 (AQ (b := (!decide (er = (0 : Int)))) rfl (fun h28 => ?_) (fun h28 => ?_))))))))))
  ·have h28p := (odf (C1 h28))
   obtain rfl := hcn h28p
   exact A4 (A0 (yb rfl (ya rfl (LZ rfl rfl rfl (pt rfl)) (yb rfl (A1 (A2 (AD (AA (AH rfl rfl ⟨rfl, M.fr⟩)))))))))
  ·have h28p := (odt (C3 h28))
   obtain ⟨gc, rfl, _⟩ := (M.ok 0 _ rfl) h28p
   refine AL (A2 (A4 (A0 (yb rfl (yb rfl (ya rfl (AN (xs := Tk.cells t) rfl rfl (M.rdBlk 1 rfl rfl) underlying29 rfl C7) (cl 35 rfl (AF rfl rfl call7) (VD m gc c F t A ca va _ ho (M.crs 0 h28p rfl) hla (hVa.fr0 M.fr)) ?_)))))))
   rintro _ w7 ⟨A35, c35, rfl, how7, hfw7⟩
   refine ⟨_, rfl, ?_⟩
   have M := M.pushOwn hfw7 (Nat.le_refl _) how7
   have hL35 := M.ownLen 0 rfl
   iterate 5 refine yb rfl ?_
   refine A1 (A2 (A4 (A0 (yb rfl (yb rfl (ya rfl (AN (xs := Tk.cells t) rfl rfl (M.rdBlk 2 rfl rfl) underlying29 rfl C7) (cl 42 rfl (AF rfl rfl call7) (VD m gc c F t B cb vb _ ho (M.crs 1 h28p rfl) hlb (hVb.fr0 M.fr)) ?_)))))))
   rintro _ w8 ⟨A42, c42, rfl, how8, hfw8⟩
   refine ⟨_, rfl, ?_⟩
   have M := M.pushOwn hfw8 (Nat.le_refl _) how8
   have hL42 := M.ownLen 0 rfl
   iterate 5 refine yb rfl ?_
   refine A1 (A2 (A4 (A4 (A0 (yb rfl (ya rfl (CX rfl rfl rfl) (yb rfl (AT 3 [(10, .int .i64 ((BS m c t va).2)), (11, .slice A35 ((BS m c t va).1.length) c35), (12, .slice A42 ((BS m c t vb).1.length) c42), (13, .int .i64 ((BS m c t vb).2)), (50, .bool ((!decide ((BS m c t va).2 = (0 : Int))) || (!decide ((BS m c t vb).2 = (0 : Int)))))] (fun w' => Mem w AB [As.own w.heap.size 39 5 (.slice A42 (BS m c t vb).1.length c42) ((BS m c t vb).1.length) (AR Wt.cells (BS m c t vb).1), As.own w.heap.size 39 5 (.slice A35 (BS m c t va).1.length c35) ((BS m c t va).1.length) (AR Wt.cells (BS m c t va).1), As.crs m (some ⟨gc, 0, none⟩) er c F, As.blk g5 29 (Tk.cells t), As.blk g4 26 (Md.cells m a)] w') ?_ (fun k47 => ?_)))))))))
   ·intro w9 M
    refine A1 (A2 (AQ (b := ((!decide ((BS m c t va).2 = (0 : Int))) || (!decide ((BS m c t vb).2 = (0 : Int))))) rfl (fun h50 => ?_) (fun h50 => ?_)))
    ·have h50p := ((EK h50).imp (fun z => (odf (C1 z))) (fun z => (odf (C1 z))))
     exact A4 (A0 (yb rfl (ya rfl (B9 rfl rfl rfl) (yb rfl (ya rfl (B9 rfl rfl rfl) (ya rfl (bU rfl rfl rfl underlying4) (yb rfl (A1 (A2 (AD (AA (AH rfl rfl ⟨by rw [PU, PU]; simp, M.fr⟩))))))))))))
    ·have h50p := (And.intro (odt (C3 (CA h50).1)) (odt (C3 (CA h50).2)))
     have hcl := bZ h50p.1 h50p.2
     refine AL (A2 (A4 (A4 (A0 (yb rfl (ya rfl (CY rfl rfl (sl rfl)) (yb rfl (ya rfl (CY rfl rfl (sl rfl)) (ya rfl (CX rfl rfl rfl) (A1 (A2 (AQ (b := (!decide ((((BS m c t va).1.length : Nat) : Int) = (((BS m c t vb).1.length : Nat) : Int)))) rfl (fun h60 => ?_) (fun h60 => ?_)))))))))))))
     ·have h60p := (odf (C1 h60))
      exact A4 (A0 (yb rfl (A1 (A2 (AD (AA (AH rfl rfl (absurd (congrArg (fun z : Nat => (z : Int)) hcl.1) h60p))))))))
     ·have h60p := (odt (C3 h60))
      refine AL (A2 (A4 (A4 (A0 (yb rfl (A1 (A2 (AV (CM (fun e wr mz => ∃ (i : Nat) (X : List Wt) (Y : List Wt), e = [(11, .slice A35 ((BS m c t va).1.length) c35), (12, .slice A42 ((BS m c t vb).1.length) c42), (14, .int .i64 ((i : Nat) : Int))] ∧ Mem w AB [As.own w.heap.size 39 5 (.slice A42 (BS m c t vb).1.length c42) ((BS m c t vb).1.length) (AR Wt.cells Y), As.own w.heap.size 39 5 (.slice A35 (BS m c t va).1.length c35) ((BS m c t va).1.length) (AR Wt.cells X), As.crs m (some ⟨gc, 0, none⟩) er c F, As.blk g5 29 (Tk.cells t), As.blk g4 26 (Md.cells m a)] wr ∧ (i ≤ (BS m c t va).1.length) ∧ (X.length = (BS m c t va).1.length ∧ Y.length = (BS m c t vb).1.length) ∧ (X.drop i = (BS m c t va).1.drop i ∧ Y.drop i = (BS m c t vb).1.drop i) ∧ mz = (BS m c t va).1.length - i) ⟨0, (BS m c t va).1, (BS m c t vb).1, rfl, M, Nat.zero_le _, ⟨rfl, rfl⟩, ⟨rfl, rfl⟩, rfl⟩ ⟨rfl, rfl, rfl, trivial⟩ ?_)))))))))
      rintro _ w10 _ ⟨i, X, Y, rfl, M, hi, hXl, hXd, rfl⟩
      refine A4 (A4 (A0 (yb rfl (yb rfl (ya rfl (CY rfl rfl (sl rfl)) (ya rfl (CH rfl rfl rfl) (A1 (A2 (AQ (b := (decide (((i : Nat) : Int) < (((BS m c t va).1.length : Nat) : Int)))) rfl (fun h64 => ?_) (fun h64 => ?_))))))))))
      ·have h64p := (odt h64)
       have hyl : i < (BS m c t vb).1.length := by have := hcl.1; omega
       refine AL (A2 (A4 (AV (A4 (A0 (yb rfl (yb rfl ?_)))))))
       obtain ⟨g69, hA69⟩ := W1 (M.own 1 rfl) (by omega)
       refine ya rfl (BW i hA69 rfl rfl rfl (sl rfl) (by omega)) (yb rfl ?_)
       obtain ⟨x0, hx0⟩ := DY (l := X) (i := i) (by omega)
       refine VJ (xs' := AR Wt.cells (X.set i x0.clr)) M 1 (A9 rfl) rfl hA69 rfl rfl rfl rfl rfl rfl EM (by omega) (by rw [Nat.zero_add]; exact T7 hx0) fun w11 M => A1 (A2 (A4 (A0 (yb rfl (yb rfl ?_)))))
       obtain ⟨g73, hA73⟩ := W1 (M.own 0 rfl) (by omega)
       refine ya rfl (BW i hA73 rfl rfl rfl (sl rfl) (by omega)) (yb rfl ?_)
       obtain ⟨y0, hy0⟩ := DY (l := Y) (i := i) (by omega)
       refine VJ (xs' := AR Wt.cells (Y.set i y0.clr)) M 0 (A9 rfl) rfl hA73 rfl rfl rfl rfl rfl rfl EM (by omega) (by rw [Nat.zero_add]; exact T7 hy0) fun w12 M => A1 (A2 (A4 (GV DT (by kernel_rfl) ?_)))
       have M := M.drew
       refine sb rfl (sb rfl (sa rfl (BW i hA69 rfl rfl rfl (sl rfl) (by omega)) (sa rfl (AN (xs := Wt.cells x0.clr) rfl rfl (DK Wt.len (pB (M.rdOwn 1 rfl) (by rw [List.length_set]; omega)) hA69 (gT hx0)) underlying39 rfl CJ) (sb rfl (sb rfl (sa rfl (BW i hA73 rfl rfl rfl (sl rfl) (by omega)) (sa rfl (AN (xs := Wt.cells y0.clr) rfl rfl (DK Wt.len (pB (M.rdOwn 0 rfl) (by rw [List.length_set]; omega)) hA73 (gT hy0)) underlying39 rfl CJ) (sa rfl (lO (a := x0.clr) (b := y0.clr) rfl rfl rfl) (IP (A2 (AQ (b := (!(Wt.same x0.clr y0.clr))) rfl (fun h83 => ?_) (fun h83 => ?_))))))))))))
       ·have h83p := (C1 h83)
        refine A4 (A0 (yb rfl (A1 (A2 (AD (AJ (AA (AA (AJ (AA (AH rfl rfl ?_)))))))))))
        exfalso
        rw [hcl.2 i x0 y0 (WW hXd.1 hx0) (WW hXd.2 hy0), lW] at h83
        cases h83
       ·have h83p := (C3 h83)
        refine AL (AC (A2 (A0 (yb rfl (ya rfl (CQ rfl rfl rfl (by omega)) (yb rfl (A1 (BM [(11, .slice A35 ((BS m c t va).1.length) c35), (12, .slice A42 ((BS m c t vb).1.length) c42), (14, .int .i64 (((i + 1) : Nat) : Int))] ((BS m c t va).1.length - (i + 1)) ⟨i + 1, (X.set i x0.clr), (Y.set i y0.clr), rfl, M, ?_, ?_, ?_, rfl⟩ (by first | omega | (simp <;> omega)) ⟨rfl, rfl, rfl, trivial⟩))))))))
        ·omega
        ·exact ⟨by rw [List.length_set]; exact hXl.1, by rw [List.length_set]; exact hXl.2⟩
        ·exact ⟨VM hXd.1, VM hXd.2⟩
      ·have h64p := (odf h64)
       exact CD (AI (AI (BB (A2 (A4 (A0 (yb rfl (A1 (A2 (AD (AH rfl rfl ⟨rfl, M.fr⟩)))))))))))
   refine AE (d := 47) (b := (!decide ((BS m c t va).2 = (0 : Int)))) rfl (fun h47 => ?_) (fun h47 => ?_)
   ·exact yo rfl (yo rfl (yb rfl (k47 _ _ M ⟨rfl, rfl, rfl, rfl, (by rw [h47]; rfl), trivial⟩)))
   ·exact yd rfl (yp rfl) (yd rfl (CX rfl rfl rfl) (yb rfl (k47 _ _ M ⟨rfl, rfl, rfl, rfl, (by rw [h47]; rfl), trivial⟩)))
end Go.Proofs.YtadgfojhjnkliaaGreatDoor
