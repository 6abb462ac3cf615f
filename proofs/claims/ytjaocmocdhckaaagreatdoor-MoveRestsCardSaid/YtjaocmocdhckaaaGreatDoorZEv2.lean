/- Lemmas that the last text rests on. Condition: each says its own. -/
import Derived.Test.YtjaocmocdhckaaaGreatDoorZEv1
import Derived.Test.YtjaocmocdhckaaaGreatDoorZMpU
set_option maxHeartbeats 16000000
set_option maxRecDepth 100000
namespace Go.Proofs.YtjaocmocdhckaaaGreatDoor
open Go.RowKit
open Tryz
theorem MpU.fr0 {w w' : World} {g : Nat} {L : List (UInt8 × Value)} (h : MpU w g L) (hf : Fr0 w w') : MpU w' g L := h.fr hf (fun hh => hh)
theorem jM {α : Type} {p : Nat → α → Bool} : ∀ {l : List α} {i : Nat} {b : α}, ffN p i l = some b → b ∈ l
 | [], _, _, h => by cases h
 | x :: r, i, b, h => by
  unfold ffN at h
  split at h
  ·exact List.mem_cons_of_mem _ (jM h)
  ·injection h with h
   subst h
   exact List.mem_cons_self
theorem cV {vars : List Bd} (hok : BdOk vars) (k : List UInt8) : (((N3 vars k).getD zeroVl).text.length : Int) < 4611686018427387904 := by
 unfold N3
 cases hq : ffN (fun (_ : Nat) (b : Bd) => !(decide (b.name = k))) 0 vars with
 | none => decide
 | some b => exact hok.text b (jM hq)
theorem JN : (prog.info? 286).map (·.zero) = some (some (.nilFunc)) := by kernel_rfl
theorem VP (a b : Vl) (w : World) : Calls prog 10 #[.agg a.cells.toArray, .agg b.cells.toArray] w (CG w (.bool (a.same b))) := by
 refine C5 func10 ntmps10 rfl fun M => srg (CR M rfl rfl fun g2 w1 hg2 M => CR M rfl rfl fun g3 w2 hg3 M => AY rfl (srg (CW M 1 rfl rfl underlying45 AC rfl (CW M 0 rfl rfl underlying45 AC rfl (ya rfl (U7 (a := a) (b := b) rfl rfl rfl) (yb rfl ?_))))))
 exact gnr (gr1 rfl ⟨rfl, M.fr⟩)
def UB (b : Bool) (er : Int) : Vl × Int := (if (!decide (er = (0 : Int))) = true then ((⟨0, 0, false, []⟩ : Vl), er) else ((⟨2, 0, b, []⟩ : Vl), 0))
theorem TC (b : Bool) (er : Int) (w : World) : Calls prog 248 #[.bool b, AJ er] w (CG w (.tuple #[.agg (Vl.cells (UB b er).1).toArray, AJ (UB b er).2])) := by
 refine C5 func248 ntmps248 rfl fun M => srg (DC M rfl BR fun g4 w1 hg4 M => AY rfl (AF (AQ rfl (DA rfl rfl (nq (AL rfl (fun h7 => ?_) (fun h7 => ?_)))))))
 ·exact srg (ya rfl (BA (parts := []) rfl rfl (C8)) (yb rfl (C4 M 0 rfl rfl AC rfl fun w2 M => yb rfl (gnr (AB (B9 rfl rfl (M.rdBlk 0 rfl rfl) underlying45 rfl AC rfl ⟨by rw [UB, if_pos h7] <;> rfl, M.fr⟩))))))
 ·exact AI (AD (AQ rfl (D4 M 11 rfl rfl call121 (O9 b _) fun w3 M => C4 M 0 rfl rfl AC rfl fun w4 M => yb rfl (gnr (B9 rfl rfl (M.rdBlk 0 rfl rfl) underlying45 rfl AC rfl ⟨by rw [UB, AT h7] <;> rfl, M.fr⟩)))))
def S2 (a b : Vl) (want : Bool) : Vl × Int := (if (!decide ((a.kind.toNat : Int) = (b.kind.toNat : Int))) = true then ((⟨0, 0, false, []⟩ : Vl), 90) else (((UB ((Vl.same a b) == want) 0).1), (UB ((Vl.same a b) == want) 0).2))
theorem jS (a b : Vl) (want : Bool) (w : World) : Calls prog 230 #[.agg a.cells.toArray, .agg b.cells.toArray, .bool want] w (CG w (.tuple #[.agg (Vl.cells (S2 a b want).1).toArray, AJ (S2 a b want).2])) := by
 refine C5 func230 ntmps230 rfl fun M => srg (CR M rfl rfl fun g3 w1 hg3 M => CR M rfl rfl fun g4 w2 hg4 M => DC M rfl BR fun g6 w3 hg6 M => AY rfl (AF (AQ rfl ?_)))
 refine BC M 2 rfl rfl rfl (yb rfl (BC M 1 rfl rfl rfl (DA rfl rfl (nq (AL rfl (fun h12 => ?_) (fun h12 => ?_))))))
 ·exact srg (ya rfl (BA (parts := []) rfl rfl (C8)) (C4 M 0 rfl rfl AC rfl fun w4 M => yb rfl (gnr (AB (B9 rfl rfl (M.rdBlk 0 rfl rfl) underlying45 rfl AC rfl ⟨by rw [S2, if_pos h12] <;> rfl, M.fr⟩)))))
 ·refine AI (AD (srg (CW M 2 rfl rfl underlying45 AC rfl (CW M 1 rfl rfl underlying45 AC rfl (D4 M 16 rfl rfl call10 (VP a b _) fun w5 M => yb rfl (ya rfl (J0 rfl rfl rfl underlying4) (D4 M 19 rfl rfl call248 (TC ((Vl.same a b) == want) 0 _) fun w6 M => BM rfl rfl (C4 M 0 rfl rfl AC rfl fun w7 M => yb rfl (AR ?_)))))))))
  exact AD (BN (B9 rfl rfl (M.rdBlk 0 rfl rfl) underlying45 rfl AC rfl ⟨by rw [S2, AT h12] <;> rfl, M.fr⟩))
def N1 (a b : Vl) (want : Bool) : Vl × Int := (((UB ((JW a b).1 == want) ((JW a b).2)).1), (UB ((JW a b).1 == want) ((JW a b).2)).2)
theorem UQ (a b : Vl) (want : Bool) (w : World) (ha : a.text.length ≤ 1048576) (hb : b.text.length ≤ 1048576) (hY : Lay0 w) : Calls prog 233 #[.agg a.cells.toArray, .agg b.cells.toArray, .bool want] w (CG w (.tuple #[.agg (Vl.cells (N1 a b want).1).toArray, AJ (N1 a b want).2])) := by
 refine C5 func233 ntmps233 rfl fun M => srg (CR M rfl rfl fun g3 w1 hg3 M => CR M rfl rfl fun g4 w2 hg4 M => DC M rfl BR fun g6 w3 hg6 M => AY rfl (srg (CW M 2 rfl rfl underlying45 AC rfl (CW M 1 rfl rfl underlying45 AC rfl ?_))))
 refine D4 M 13 rfl rfl call249 (eK a b _ CX CX (hY.fr0 M.fr)) fun w4 M => ?_
 iterate 5 refine yb rfl ?_
 refine nq (AQ rfl (yb rfl (ya rfl (J0 rfl rfl rfl underlying4) (yb rfl (D4 M 20 rfl rfl call248 (TC ((JW a b).1 == want) ((JW a b).2) _) fun w5 M => BM rfl rfl (C4 M 0 rfl rfl AC rfl fun w6 M => AY rfl ?_))))))
 exact BN (B9 rfl rfl (M.rdBlk 0 rfl rfl) underlying45 rfl AC rfl ⟨by rw [N1] <;> rfl, M.fr⟩)
def YY (a b : Vl) : Vl × Int := (if ((!decide ((a.kind.toNat : Int) = (3 : Int))) || (!decide ((b.kind.toNat : Int) = (3 : Int)))) = true then (((R6 a b).1), (R6 a b).2) else (if (!decide ((chk (⟨3, 0, false, (a.text ++ b.text)⟩ : Vl)) = (0 : Int))) = true then ((⟨0, 0, false, []⟩ : Vl), 91) else ((⟨3, 0, false, (a.text ++ b.text)⟩ : Vl), 0)))
theorem rC (a b : Vl) (w : World) (ha : a.text.length ≤ 1048576) (hb : b.text.length ≤ 1048576) (hY : Lay0 w) : Calls prog 237 #[.agg a.cells.toArray, .agg b.cells.toArray] w (CG w (.tuple #[.agg (Vl.cells (YY a b).1).toArray, AJ (YY a b).2])) := by
 refine C5 func237 ntmps237 rfl fun M => srg (CR M rfl rfl fun g2 w1 hg2 M => CR M rfl rfl fun g3 w2 hg3 M => DC M rfl BR fun g4 w3 hg4 M => AY rfl (AF (AQ rfl ?_)))
 refine BC M 2 rfl rfl rfl (DA rfl rfl (yb rfl (fvm M 4 [4, 3, 2] [(14, .bool ((!decide ((a.kind.toNat : Int) = (3 : Int))) || (!decide ((b.kind.toNat : Int) = (3 : Int)))))] ?_ (fun k10 => ?_))))
 ·intro w4 M
  refine nq (AL rfl (fun h14 => ?_) (fun h14 => ?_))
  ·have h14p := ((EO h14).imp (fun z => (odf (CK z))) (fun z => (odf (CK z))))
   exact srg (CW M 2 rfl rfl underlying45 AC rfl (CW M 1 rfl rfl underlying45 AC rfl (D4 M 17 rfl rfl call250 (lS a b _ CX CX (hY.fr0 M.fr)) fun w5 M => BM rfl rfl (C4 M 0 rfl rfl AC rfl fun w6 M => yb rfl (gnr (AB (B9 rfl rfl (M.rdBlk 0 rfl rfl) underlying45 rfl AC rfl ⟨by rw [YY, if_pos h14] <;> rfl, M.fr⟩)))))))
  ·have h14p := (And.intro (odt (BQ (CP h14).1)) (odt (BQ (CP h14).2)))
   refine AI (AD (AQ rfl (BC M 2 rfl rfl rfl (yb rfl (BC M 1 rfl rfl rfl (ya rfl (GB rfl rfl rfl CX) (D4 M 25 rfl rfl call122 (VJ (a.text ++ b.text) _) fun w7 M => DC M rfl BR fun g6 w8 hg6 M => C4 M 0 rfl rfl AC rfl fun w9 M => nq ?_)))))))
   refine AF (srg (CW M 0 rfl rfl underlying45 AC rfl (D4 M 27 rfl rfl call65 (FR (⟨3, 0, false, (a.text ++ b.text)⟩ : Vl) _ (by simp; omega) (hY.fr0 M.fr).utf) fun w10 M => DA rfl rfl (nq (AL rfl (fun h28 => ?_) (fun h28 => ?_))))))
   ·exact srg (ya rfl (BA (parts := []) rfl rfl (C8)) (C4 M 1 rfl rfl AC rfl fun w11 M => yb rfl (gnr (AB (B9 rfl rfl (M.rdBlk 1 rfl rfl) underlying45 rfl AC rfl ⟨by rw [YY, AT h14, if_pos h28] <;> rfl, M.fr⟩)))))
   ·exact AI (AD (srg (CW M 0 rfl rfl underlying45 AC rfl (C4 M 1 rfl rfl AC rfl fun w12 M => yb rfl (gnr (B9 rfl rfl (M.rdBlk 1 rfl rfl) underlying45 rfl AC rfl ⟨by rw [YY, AT h14, AT h28] <;> rfl, M.fr⟩))))))
 refine AO (d := 10) rfl (fun h10 => ?_) (fun h10 => ?_)
 ·exact yo rfl (yo rfl (yo rfl (yb rfl (k10 M ⟨rfl, rfl, rfl, (by rw [h10]; rfl), trivial⟩))))
 ·exact gyq rfl (CJ M 1 rfl rfl rfl (yd rfl (E4 rfl rfl rfl) (yb rfl (k10 M ⟨rfl, rfl, rfl, (by rw [h10]; rfl), trivial⟩))))
theorem kV (a b : Vl) (w : World)  : Calls prog 229 #[.agg a.cells.toArray, .agg b.cells.toArray] w (CG w (.tuple #[.agg (Vl.cells (S2 a b true).1).toArray, AJ (S2 a b true).2])) := by
 refine C5 func229 ntmps229 rfl fun M => srg (CR M rfl rfl fun g2 w1 hg2 M => CR M rfl rfl fun g3 w2 hg3 M => DC M rfl BR fun g4 w3 hg4 M => AY rfl (srg (CW M 2 rfl rfl underlying45 AC rfl (CW M 1 rfl rfl underlying45 AC rfl ?_))))
 exact D4 M 8 rfl rfl call230 (jS a b true _) fun w4 M => BM rfl rfl (C4 M 0 rfl rfl AC rfl fun w5 M => yb rfl (gnr (B9 rfl rfl (M.rdBlk 0 rfl rfl) underlying45 rfl AC rfl ⟨rfl, M.fr⟩)))
theorem kU (a b : Vl) (w : World)  : Calls prog 231 #[.agg a.cells.toArray, .agg b.cells.toArray] w (CG w (.tuple #[.agg (Vl.cells (S2 a b false).1).toArray, AJ (S2 a b false).2])) := by
 refine C5 func231 ntmps231 rfl fun M => srg (CR M rfl rfl fun g2 w1 hg2 M => CR M rfl rfl fun g3 w2 hg3 M => DC M rfl BR fun g4 w3 hg4 M => AY rfl (srg (CW M 2 rfl rfl underlying45 AC rfl (CW M 1 rfl rfl underlying45 AC rfl ?_))))
 exact D4 M 8 rfl rfl call230 (jS a b false _) fun w4 M => BM rfl rfl (C4 M 0 rfl rfl AC rfl fun w5 M => yb rfl (gnr (B9 rfl rfl (M.rdBlk 0 rfl rfl) underlying45 rfl AC rfl ⟨rfl, M.fr⟩)))
theorem kT (a b : Vl) (w : World) (ha : a.text.length ≤ 1048576) (hb : b.text.length ≤ 1048576) (hY : Lay0 w) : Calls prog 232 #[.agg a.cells.toArray, .agg b.cells.toArray] w (CG w (.tuple #[.agg (Vl.cells (N1 a b true).1).toArray, AJ (N1 a b true).2])) := by
 refine C5 func232 ntmps232 rfl fun M => srg (CR M rfl rfl fun g2 w1 hg2 M => CR M rfl rfl fun g3 w2 hg3 M => DC M rfl BR fun g4 w3 hg4 M => AY rfl (srg (CW M 2 rfl rfl underlying45 AC rfl (CW M 1 rfl rfl underlying45 AC rfl ?_))))
 exact D4 M 8 rfl rfl call233 (UQ a b true _ CX CX (hY.fr0 M.fr)) fun w4 M => BM rfl rfl (C4 M 0 rfl rfl AC rfl fun w5 M => yb rfl (gnr (B9 rfl rfl (M.rdBlk 0 rfl rfl) underlying45 rfl AC rfl ⟨rfl, M.fr⟩)))
theorem kS (a b : Vl) (w : World) (ha : a.text.length ≤ 1048576) (hb : b.text.length ≤ 1048576) (hY : Lay0 w) : Calls prog 234 #[.agg a.cells.toArray, .agg b.cells.toArray] w (CG w (.tuple #[.agg (Vl.cells (N1 a b false).1).toArray, AJ (N1 a b false).2])) := by
 refine C5 func234 ntmps234 rfl fun M => srg (CR M rfl rfl fun g2 w1 hg2 M => CR M rfl rfl fun g3 w2 hg3 M => DC M rfl BR fun g4 w3 hg4 M => AY rfl (srg (CW M 2 rfl rfl underlying45 AC rfl (CW M 1 rfl rfl underlying45 AC rfl ?_))))
 exact D4 M 8 rfl rfl call233 (UQ a b false _ CX CX (hY.fr0 M.fr)) fun w4 M => BM rfl rfl (C4 M 0 rfl rfl AC rfl fun w5 M => yb rfl (gnr (B9 rfl rfl (M.rdBlk 0 rfl rfl) underlying45 rfl AC rfl ⟨rfl, M.fr⟩)))
theorem kR (a b : Vl) (w : World) (ha : a.text.length ≤ 1048576) (hb : b.text.length ≤ 1048576) (hY : Lay0 w) : Calls prog 235 #[.agg a.cells.toArray, .agg b.cells.toArray] w (CG w (.tuple #[.agg (Vl.cells (N1 b a true).1).toArray, AJ (N1 b a true).2])) := by
 refine C5 func235 ntmps235 rfl fun M => srg (CR M rfl rfl fun g2 w1 hg2 M => CR M rfl rfl fun g3 w2 hg3 M => DC M rfl BR fun g4 w3 hg4 M => AY rfl (srg (CW M 1 rfl rfl underlying45 AC rfl (CW M 2 rfl rfl underlying45 AC rfl ?_))))
 exact D4 M 8 rfl rfl call233 (UQ b a true _ CX CX (hY.fr0 M.fr)) fun w4 M => BM rfl rfl (C4 M 0 rfl rfl AC rfl fun w5 M => yb rfl (gnr (B9 rfl rfl (M.rdBlk 0 rfl rfl) underlying45 rfl AC rfl ⟨rfl, M.fr⟩)))
theorem kQ (a b : Vl) (w : World) (ha : a.text.length ≤ 1048576) (hb : b.text.length ≤ 1048576) (hY : Lay0 w) : Calls prog 236 #[.agg a.cells.toArray, .agg b.cells.toArray] w (CG w (.tuple #[.agg (Vl.cells (N1 b a false).1).toArray, AJ (N1 b a false).2])) := by
 refine C5 func236 ntmps236 rfl fun M => srg (CR M rfl rfl fun g2 w1 hg2 M => CR M rfl rfl fun g3 w2 hg3 M => DC M rfl BR fun g4 w3 hg4 M => AY rfl (srg (CW M 1 rfl rfl underlying45 AC rfl (CW M 2 rfl rfl underlying45 AC rfl ?_))))
 exact D4 M 8 rfl rfl call233 (UQ b a false _ CX CX (hY.fr0 M.fr)) fun w4 M => BM rfl rfl (C4 M 0 rfl rfl AC rfl fun w5 M => yb rfl (gnr (B9 rfl rfl (M.rdBlk 0 rfl rfl) underlying45 rfl AC rfl ⟨rfl, M.fr⟩)))
def MJ : List (UInt8 × Value) := [(7, .func (.func 229) #[] #[]), (8, .func (.func 231) #[] #[]), (9, .func (.func 232) #[] #[]), (12, .func (.func 234) #[] #[]), (11, .func (.func 235) #[] #[]), (10, .func (.func 236) #[] #[]), (13, .func (.func 237) #[] #[]), (14, .func (.func 238) #[] #[]), (15, .func (.func 239) #[] #[]), (16, .func (.func 240) #[] #[]), (17, .func (.func 241) #[] #[])]
def doP (k : UInt8) (a b : Vl) : Vl × Int := if k = 7 then S2 a b true else if k = 8 then S2 a b false else if k = 9 then N1 a b true else if k = 12 then N1 a b false else if k = 11 then N1 b a true else if k = 10 then N1 b a false else if k = 13 then YY a b else if k = 14 then L8 a b else if k = 15 then T9 a b else if k = 16 then R3 a b else if k = 17 then R1 a b else (zeroVl, 0)
theorem aG (k : UInt8) (h : (HK MJ k).isSome = true) : ∃ fd, (HK MJ k).getD .nilFunc = .func (.func fd) #[] #[] ∧ (∀ (ar : Array Value) (w : World), (callFunc fd ar).run prog w = .ok (.enter fd ar) w) ∧ ∀ (a b : Vl) (w : World), a.text.length ≤ 1048576 → b.text.length ≤ 1048576 → Lay0 w → Calls prog fd #[.agg a.cells.toArray, .agg b.cells.toArray] w (CG w (.tuple #[.agg (Vl.cells (doP k a b).1).toArray, AJ (doP k a b).2])) := by
 by_cases h7 : k = 7
 ·subst h7
  exact ⟨229, rfl, call229, fun a b w _ _ _ => kV a b w⟩
 by_cases h8 : k = 8
 ·subst h8
  exact ⟨231, rfl, call231, fun a b w _ _ _ => kU a b w⟩
 by_cases h9 : k = 9
 ·subst h9
  exact ⟨232, rfl, call232, fun a b w ha hb hY => kT a b w ha hb hY⟩
 by_cases h12 : k = 12
 ·subst h12
  exact ⟨234, rfl, call234, fun a b w ha hb hY => kS a b w ha hb hY⟩
 by_cases h11 : k = 11
 ·subst h11
  exact ⟨235, rfl, call235, fun a b w ha hb hY => kR a b w ha hb hY⟩
 by_cases h10 : k = 10
 ·subst h10
  exact ⟨236, rfl, call236, fun a b w ha hb hY => kQ a b w ha hb hY⟩
 by_cases h13 : k = 13
 ·subst h13
  exact ⟨237, rfl, call237, fun a b w ha hb hY => rC a b w ha hb hY⟩
 by_cases h14 : k = 14
 ·subst h14
  exact ⟨238, rfl, call238, fun a b w ha hb hY => Z6 a b w ha hb hY⟩
 by_cases h15 : k = 15
 ·subst h15
  exact ⟨239, rfl, call239, fun a b w ha hb hY => lO a b w ha hb hY⟩
 by_cases h16 : k = 16
 ·subst h16
  exact ⟨240, rfl, call240, fun a b w ha hb hY => lQ a b w ha hb hY⟩
 by_cases h17 : k = 17
 ·subst h17
  exact ⟨241, rfl, call241, fun a b w ha hb hY => lP a b w ha hb hY⟩
 simp [MJ, HK, h7, h8, h9, h12, h11, h10, h13, h14, h15, h16, h17] at h
theorem oH (w : World) : Calls prog 220 #[] w fun e w' => ∃ g, e = .returned (.map (some g)) ∧ MpU w' g MJ ∧ (w.heap.size ≤ g ∧ g < w'.heap.size) ∧ Fr0 w w' := by
 refine C5 func220 ntmps220 rfl fun M => srg (AY rfl (srg (VZ M (AA rfl) rfl rfl rfl fun g1 w1 hg1 M => EE M 0 (k := (7 : UInt8)) (AA rfl) rfl rfl rfl rfl rfl underlying271 underlying5 rfl fun w2 M => EE M 0 (k := (8 : UInt8)) (AA rfl) rfl rfl rfl rfl rfl underlying271 underlying5 rfl fun w3 M => EE M 0 (k := (9 : UInt8)) (AA rfl) rfl rfl rfl rfl rfl underlying271 underlying5 rfl fun w4 M => ?_)))
 refine EE M 0 (k := (12 : UInt8)) (AA rfl) rfl rfl rfl rfl rfl underlying271 underlying5 rfl fun w5 M => EE M 0 (k := (11 : UInt8)) (AA rfl) rfl rfl rfl rfl rfl underlying271 underlying5 rfl fun w6 M => EE M 0 (k := (10 : UInt8)) (AA rfl) rfl rfl rfl rfl rfl underlying271 underlying5 rfl fun w7 M => EE M 0 (k := (13 : UInt8)) (AA rfl) rfl rfl rfl rfl rfl underlying271 underlying5 rfl fun w8 M => EE M 0 (k := (14 : UInt8)) (AA rfl) rfl rfl rfl rfl rfl underlying271 underlying5 rfl fun w9 M => EE M 0 (k := (15 : UInt8)) (AA rfl) rfl rfl rfl rfl rfl underlying271 underlying5 rfl fun w10 M => EE M 0 (k := (16 : UInt8)) (AA rfl) rfl rfl rfl rfl rfl underlying271 underlying5 rfl fun w11 M => EE M 0 (k := (17 : UInt8)) (AA rfl) rfl rfl rfl rfl rfl underlying271 underlying5 rfl fun w12 M => ?_
 exact BM rfl rfl (gnr (gr1 rfl ⟨g1, rfl, (M.ok 0 _ rfl : MpU _ _ _), M.new0 0 rfl _ (by simp [As.mpU]), M.fr⟩))
theorem mW (k : List UInt8) (w : World) : Calls prog 205 #[str k] w (CG w (.tuple #[])) := by
 exact C5 func205 ntmps205 rfl fun M => AI (CM (Or.inr rfl) rfl ⟨rfl, M.fr⟩)
def evW (n : Xn) (vars : List Bd) (ra rb : Vl × Int) : Vl × Int := (if (decide ((n.op.toNat : Int) = (1 : Int))) = true then ((⟨n.vl.kind, n.vl.int, n.vl.bool, n.vl.text⟩ : Vl), 0) else (if (decide ((n.op.toNat : Int) = (2 : Int))) = true then (if (!(N3 vars n.nm).isSome) = true then ((⟨0, 0, false, []⟩ : Vl), 100) else (if (!decide ((chk ((N3 vars n.nm).getD zeroVl)) = (0 : Int))) = true then ((⟨0, 0, false, []⟩ : Vl), 1) else (((N3 vars n.nm).getD zeroVl), 0))) else (if (!decide (ra.2 = (0 : Int))) = true then ((⟨0, 0, false, []⟩ : Vl), ra.2) else (if (decide ((n.op.toNat : Int) = (4 : Int))) = true then (((L8 ⟨1, 0, false, []⟩ ra.1).1), (L8 ⟨1, 0, false, []⟩ ra.1).2) else (if (decide ((n.op.toNat : Int) = (3 : Int))) = true then (if (decide ((n.op.toNat : Int) = (3 : Int))) = true then (if (!decide ((ra.1.kind.toNat : Int) = (2 : Int))) = true then ((⟨0, 0, false, []⟩ : Vl), 90) else (if (decide ((n.op.toNat : Int) = (3 : Int))) = true then ((⟨2, 0, (!ra.1.bool), []⟩ : Vl), 0) else (if (ra.1.bool == (decide ((n.op.toNat : Int) = (6 : Int)))) = true then (ra.1, 0) else (if (!decide (rb.2 = (0 : Int))) = true then ((⟨0, 0, false, []⟩ : Vl), rb.2) else (if (HK MJ n.op).isSome = true then (((doP n.op ra.1 rb.1).1), (doP n.op ra.1 rb.1).2) else (if (!decide ((rb.1.kind.toNat : Int) = (2 : Int))) = true then ((⟨0, 0, false, []⟩ : Vl), 90) else (rb.1, 0))))))) else (if (!decide (rb.2 = (0 : Int))) = true then ((⟨0, 0, false, []⟩ : Vl), rb.2) else (if (HK MJ n.op).isSome = true then (((doP n.op ra.1 rb.1).1), (doP n.op ra.1 rb.1).2) else (if (!decide ((rb.1.kind.toNat : Int) = (2 : Int))) = true then ((⟨0, 0, false, []⟩ : Vl), 90) else (rb.1, 0))))) else (if ((decide ((n.op.toNat : Int) = (5 : Int))) || (decide ((n.op.toNat : Int) = (6 : Int)))) = true then (if (!decide ((ra.1.kind.toNat : Int) = (2 : Int))) = true then ((⟨0, 0, false, []⟩ : Vl), 90) else (if (decide ((n.op.toNat : Int) = (3 : Int))) = true then ((⟨2, 0, (!ra.1.bool), []⟩ : Vl), 0) else (if (ra.1.bool == (decide ((n.op.toNat : Int) = (6 : Int)))) = true then (ra.1, 0) else (if (!decide (rb.2 = (0 : Int))) = true then ((⟨0, 0, false, []⟩ : Vl), rb.2) else (if (HK MJ n.op).isSome = true then (((doP n.op ra.1 rb.1).1), (doP n.op ra.1 rb.1).2) else (if (!decide ((rb.1.kind.toNat : Int) = (2 : Int))) = true then ((⟨0, 0, false, []⟩ : Vl), 90) else (rb.1, 0))))))) else (if (!decide (rb.2 = (0 : Int))) = true then ((⟨0, 0, false, []⟩ : Vl), rb.2) else (if (HK MJ n.op).isSome = true then (((doP n.op ra.1 rb.1).1), (doP n.op ra.1 rb.1).2) else (if (!decide ((rb.1.kind.toNat : Int) = (2 : Int))) = true then ((⟨0, 0, false, []⟩ : Vl), 90) else (rb.1, 0))))))))))
theorem qU (n : Xn) (A : Option Addr) (gr gm : Nat) (V : Option Addr) (vc : Nat) (vars : List Bd) (L : List Xq) (ra rb : Vl × Int) (w : World) (hvl : vars.length ≤ 4611686018427387904) (hok : BdOk vars) (hV : Rd w V (vars.length * 5) (AH Bd.cells vars)) (hb : Blk w gr 274 [.slice V vars.length vc, .func (.func 205) #[] #[], .map (some gm)]) (hm : MpU w gm MJ) (hY : Lay0 w) (hR : Rd w A (L.length * 7) (AH Xq.cells L)) (hk1 : ¬ (n.op.toNat : Int) = 1 → ¬ (n.op.toNat : Int) = 2 → 0 < L.length) (hk2 : ¬ (n.op.toNat : Int) = 1 → ¬ (n.op.toNat : Int) = 2 → ¬ (n.op.toNat : Int) = 3 → ¬ (n.op.toNat : Int) = 4 → 1 < L.length) (hSa : ra.2 = 0 → ra.1.text.length ≤ 1048576) (hSb : rb.2 = 0 → rb.1.text.length ≤ 1048576)
 (hT0 : ∀ q, L[0]? = some q → ∀ W, Fr0 w W → Calls prog 221 #[pg gr, .agg (Xq.cells q).toArray] W fun e W' => e = .returned (.tuple #[.agg (Vl.cells ra.1).toArray, AJ ra.2]) ∧ Fr0 W W')
 (hT1 : ∀ q, L[1]? = some q → ∀ W, Fr0 w W → Calls prog 221 #[pg gr, .agg (Xq.cells q).toArray] W fun e W' => e = .returned (.tuple #[.agg (Vl.cells rb.1).toArray, AJ rb.2]) ∧ Fr0 W W') :
 Calls prog 221 #[pg gr, .agg (M6 n A L.length).toArray] w (CG w (.tuple #[.agg (Vl.cells (evW n vars ra rb).1).toArray, AJ (evW n vars ra rb).2])) := by
 have hfb := cV hok n.nm
 refine C5 func221 ntmps221 rfl fun M => srg (E3 M (AA rfl) rfl rfl 75 rfl rfl (M6 n A L.length) rfl fun g3 w1 hg3 M => DC M rfl BR fun g4 w2 hg4 M => AY rfl (AF (AQ rfl (BC M 1 rfl rfl rfl (AR ?_)))))
 refine AD (AS (srg (CN rfl rfl (AY rfl (AL rfl (fun h15 => ?_) (fun h15 => ?_))))))
 ·exact AQ rfl (ya rfl (AU (xs := [.int .u8 (n.vl.kind.toNat : Int), AJ n.vl.int, .bool n.vl.bool, str n.vl.text]) rfl rfl (FS (M.blk 1 rfl) 1 4 rfl rfl) underlying45 rfl AC) (C4 M 0 rfl rfl AC rfl fun w3 M => yb rfl (gnr (AN (AB (B9 rfl rfl (M.rdBlk 0 rfl rfl) underlying45 rfl AC rfl ⟨by rw [evW, if_pos h15] <;> rfl, M.fr⟩))))))
 ·have h15p := (odf h15)
  refine srg (CN rfl rfl (AY rfl (AL rfl (fun h19 => ?_) (fun h19 => ?_))))
  ·have h19p := (odt h19)
   refine AF (fK (fun (g6 : Nat) => [(0, pg gr), (3, pg g3), (4, pg g4), (6, pg g6), (7, .bool ((N3 vars n.nm).isSome))]) (fun (g6 : Nat) => fun w' => Mem w B0 [As.blk g6 45 (Vl.cells ((N3 vars n.nm).getD zeroVl)), As.blk g4 45 [.int .u8 0, AJ 0, .bool false, str []], As.blk g3 75 (M6 n A L.length)] w') ?_ (fun kr5 => ?_))
   ·intro g6 w4 M
    refine AD (AF (AS (AQ rfl (yb rfl (AY rfl (AL rfl (fun h31 => ?_) (fun h31 => ?_)))))))
    ·exact srg (ya rfl (BA (parts := []) rfl rfl (C8)) (C4 M 1 rfl rfl AC rfl fun w5 M => yb rfl (gnr (AN (AB (AN (AB (B9 rfl rfl (M.rdBlk 1 rfl rfl) underlying45 rfl AC rfl ⟨by rw [evW, AT h15, if_pos h19, if_pos h31] <;> rfl, M.fr⟩))))))))
    ·have h31p := (BQ h31)
     refine srg (CW M 0 rfl rfl underlying45 AC rfl (D4 M 37 rfl rfl call65 (FR ((N3 vars n.nm).getD zeroVl) _ AM (hY.fr0 M.fr).utf) fun w6 M => DA rfl rfl (AY rfl (AL rfl (fun h35 => ?_) (fun h35 => ?_)))))
     ·exact srg (ya rfl (BA (parts := []) rfl rfl (C8)) (C4 M 1 rfl rfl AC rfl fun w7 M => yb rfl (gnr (AN (AB (AN (AB (B9 rfl rfl (M.rdBlk 1 rfl rfl) underlying45 rfl AC rfl ⟨by rw [evW, AT h15, if_pos h19, AT h31, if_pos h35] <;> rfl, M.fr⟩))))))))
     ·refine AI (AE (AD (AF (DP 6 CZ gkr ?_))))
      have M := M.drew
      refine sb rfl (sb rfl (sb rfl (sd rfl rfl (Blk.c (hb.fr0 M.fr) 1 rfl) (sb rfl (FL M 2 rfl rfl rfl (CS (OZ M 46 rfl (BX rfl rfl rfl call205) (mW n.nm _) fun w8 M => N2 (CW M 0 rfl rfl underlying45 AC rfl (C4 M 1 rfl rfl AC rfl fun w9 M => yb rfl ?_)))))))))
      exact gnr (AN (AB (B9 rfl rfl (M.rdBlk 1 rfl rfl) underlying45 rfl AC rfl ⟨by rw [evW, AT h15, if_pos h19, AT h31, AT h35] <;> rfl, M.fr⟩)))
   refine CV 12 (fun w' => Mem w B0 [As.blk g4 45 [.int .u8 0, AJ 0, .bool false, str []], As.blk g3 75 (M6 n A L.length)] w') CZ ?_
   have M := M.drew
   refine oc 0 12 rfl rfl M (oc 1 12 rfl rfl M (oc 2 12 rfl rfl M (ol 3 12 rfl rfl rfl M (fun _ M => (Blk.c (hb.fr0 M.fr) 0 rfl)) (oc 4 12 rfl rfl M (ol 5 12 rfl rfl rfl M (fun _ M => (M.cell 1 rfl rfl)) (GX (rs := [6, 10]) gkr (by simp) fun iz hiz => ?_))))))
   simp only [List.mem_cons, List.not_mem_nil, or_false] at hiz
   rcases hiz with rfl | rfl
   ·refine JQ (some 28) rfl (AA rfl) rfl rfl (AP rfl rfl call71) (R2 V vc vars n.nm _ hvl (hV.fr0 M.fr)) ?_
    rintro _ w10 ⟨rfl, hfw10⟩
    refine ⟨_, rfl, fun _ => M.step hfw10, ?_⟩
    have M := M.step hfw10
    refine oc 7 12 rfl rfl M (oc 8 12 rfl rfl M (oc 9 12 rfl rfl M (BB 10 (some 6) gkr rfl (AA rfl) rfl rfl (fun ρ hρ => D9 45 rfl _ [.int .u8 0, AJ 0, .bool false, str []] BR rfl) ?_)))
    rintro _ w11 ⟨g6, rfl, hg6, hq6, hb6, hfw11⟩
    refine ⟨fun _ => M.step hfw11, ?_⟩
    have M := M.push hfw11 _ hb6 (EB hg6 hq6)
    replace M : Mem w B0 (As.blk g6 45 [.int .u8 0, AJ 0, .bool false, str []] :: _) w11 := M
    exact fop M 11 0 rfl rfl rfl AC rfl (·.drop 1) fun w12 M => fo1 12 rfl rfl (yp rfl) (fdn (kr5 g6 _ _ M ⟨rfl, rfl, rfl, rfl, rfl, trivial⟩))
   ·refine ET (some 6) rfl (AA rfl) rfl rfl (fun ρ hρ => D9 45 rfl _ [.int .u8 0, AJ 0, .bool false, str []] BR rfl) ?_
    rintro _ w13 ⟨g6, rfl, hg6, hq6, hb6, hfw13⟩
    refine ⟨fun _ => M.step hfw13, ?_⟩
    have M := M.push hfw13 _ hb6 (EB hg6 hq6)
    replace M : Mem w B0 (As.blk g6 45 [.int .u8 0, AJ 0, .bool false, str []] :: _) w13 := M
    refine C7 6 (some 28) gkr rfl (AA rfl) rfl rfl (AP rfl rfl call71) (R2 V vc vars n.nm _ hvl (hV.fr0 M.fr)) ?_
    rintro _ w14 ⟨rfl, hfw14⟩
    refine ⟨_, rfl, fun _ => (M.drop 1).step hfw14, ?_⟩
    have M := M.step hfw14
    exact oc 7 12 rfl rfl (M.drop 1) (oc 8 12 rfl rfl (M.drop 1) (oc 9 12 rfl rfl (M.drop 1) (fop M 11 0 rfl rfl rfl AC rfl (·.drop 1) fun w15 M => fo1 12 rfl rfl (yp rfl) (fdn (kr5 g6 _ _ M ⟨rfl, rfl, rfl, rfl, rfl, trivial⟩)))))
  ·have h19p := (odf h19)
   have hL0 := hk1 h15p h19p
   refine AI (AE (AD (AQ rfl (yb rfl (BC M 1 rfl rfl rfl ?_)))))
   obtain ⟨x, hx⟩ := CC (l := L) (i := 0) AM
   obtain ⟨b_x, o_x, hA_x⟩ := BI (k := 7) AM (hR.fr0 M.fr) hx
   refine ya rfl (B1 0 hA_x rfl rfl rfl (sl rfl) AM) (ya rfl (AU rfl rfl (BV Xq.len (hR.fr0 M.fr) hA_x hx) underlying75 rfl AZ) (D4 M 54 rfl rfl call221 (hT0 x hx _ M.fr) fun w16 M => BM rfl rfl (yb rfl (DC M rfl BR fun g8 w17 hg8 M => C4 M 0 rfl rfl AC rfl fun w18 M => AY rfl (AF (srg ?_))))))
   refine yb rfl (DA rfl rfl (nq (AL rfl (fun h58 => ?_) (fun h58 => ?_))))
   ·have haT := hSa
    exact srg (ya rfl (BA (parts := []) rfl rfl (C8)) (yb rfl (C4 M 1 rfl rfl AC rfl fun w19 M => yb rfl (gnr (AB (B9 rfl rfl (M.rdBlk 1 rfl rfl) underlying45 rfl AC rfl ⟨by rw [evW, AT h15, AT h19, if_pos h58] <;> rfl, M.fr⟩))))))
   ·have h58p := (odt (BQ h58))
    refine AI (AD (AF (AQ rfl (BC M 2 rfl rfl rfl (nq (AS (srg (CN rfl rfl (AY rfl ?_)))))))))
    refine AL rfl (fun h63 => ?_) (fun h63 => ?_)
    ·have h63p := (odt h63)
     exact srg (CW M 0 rfl rfl underlying45 AC rfl (D4 M 66 rfl rfl call242 (lN ra.1 _ AM (hY.fr0 M.fr)) fun w20 M => BM rfl rfl (C4 M 1 rfl rfl AC rfl fun w21 M => yb rfl (gnr (AN (AB (B9 rfl rfl (M.rdBlk 1 rfl rfl) underlying45 rfl AC rfl ⟨by rw [evW, AT h15, AT h19, AT h58, if_pos h63] <;> rfl, M.fr⟩)))))))
    ·have h63p := (odf h63)
     refine AF (srg (CN rfl rfl (AY rfl (AL rfl (fun h69 => ?_) (fun h69 => ?_)))))
     ·have h69p := (odt h69)
      refine AI (AD (AL rfl (fun h69b => ?_) (fun h69b => ?_)))
      ·have h69bp := (odt h69b)
       refine AF (AQ rfl (BC M 0 rfl rfl rfl (DA rfl rfl (nq (AL rfl (fun h75 => ?_) (fun h75 => ?_))))))
       ·exact srg (ya rfl (BA (parts := []) rfl rfl (C8)) (C4 M 1 rfl rfl AC rfl fun w22 M => yb rfl (gnr (AB (AN (AB (B9 rfl rfl (M.rdBlk 1 rfl rfl) underlying45 rfl AC rfl ⟨by rw [evW, AT h15, AT h19, AT h58, AT h63, if_pos h69, if_pos h69b, if_pos h75] <;> rfl, M.fr⟩)))))))
       ·have h75p := (odt (BQ h75))
        refine AI (AD (AF (AQ rfl (BC M 2 rfl rfl rfl (CN rfl rfl (nq (AL rfl (fun h79 => ?_) (fun h79 => ?_))))))))
        ·refine AQ rfl (BC M 0 rfl rfl rfl (yb rfl (D4 M 83 rfl rfl call121 (O9 (!ra.1.bool) _) fun w23 M => C4 M 1 rfl rfl AC rfl fun w24 M => yb rfl (gnr (AB (AN (AB (B9 rfl rfl (M.rdBlk 1 rfl rfl) underlying45 rfl AC rfl ?_))))))))
         exact ⟨by rw [evW, AT h15, AT h19, AT h58, AT h63, if_pos h69, if_pos h69b, AT h75, if_pos h79] <;> rfl, M.fr⟩
        ·have h79p := (odf h79)
         refine AI (AD (AQ rfl (BC M 0 rfl rfl rfl (yb rfl (BC M 2 rfl rfl rfl (CN rfl rfl (ya rfl (J0 rfl rfl rfl underlying4) (nq (AL rfl (fun h89 => ?_) (fun h89 => ?_))))))))))
         ·exact srg (CW M 0 rfl rfl underlying45 AC rfl (C4 M 1 rfl rfl AC rfl fun w25 M => yb rfl (gnr (AN (AB (B9 rfl rfl (M.rdBlk 1 rfl rfl) underlying45 rfl AC rfl ⟨by rw [evW, AT h15, AT h19, AT h58, AT h63, if_pos h69, if_pos h69b, AT h75, AT h79, if_pos h89] <;> rfl, M.fr⟩))))))
         ·have hL1 : 1 < L.length := hk2 h15p h19p h79p h63p
          refine AI (AE (AD (AQ rfl (yb rfl (BC M 2 rfl rfl rfl ?_)))))
          obtain ⟨y, hy⟩ := CC (l := L) (i := 1) AM
          obtain ⟨b_y, o_y, hA_y⟩ := BI (k := 7) AM (hR.fr0 M.fr) hy
          refine ya rfl (B1 1 hA_y rfl rfl rfl (sl rfl) AM) (ya rfl (AU rfl rfl (BV Xq.len (hR.fr0 M.fr) hA_y hy) underlying75 rfl AZ) (D4 M 97 rfl rfl call221 (hT1 y hy _ M.fr) fun w26 M => BM rfl rfl (yb rfl (DC M rfl BR fun g10 w27 hg10 M => C4 M 0 rfl rfl AC rfl fun w28 M => AY rfl (AF (srg ?_))))))
          refine yb rfl (DA rfl rfl (nq (AL rfl (fun h101 => ?_) (fun h101 => ?_))))
          ·exact srg (ya rfl (BA (parts := []) rfl rfl (C8)) (yb rfl (C4 M 2 rfl rfl AC rfl fun w29 M => yb rfl (gnr (AB (B9 rfl rfl (M.rdBlk 2 rfl rfl) underlying45 rfl AC rfl ⟨by rw [evW, AT h15, AT h19, AT h58, AT h63, if_pos h69, if_pos h69b, AT h75, AT h79, AT h89, if_pos h101] <;> rfl, M.fr⟩))))))
          ·have h101p := (odt (BQ h101))
           refine AI (AD (AF (ER CZ gkr ?_)))
           have M := M.drew
           refine sb rfl (sb rfl (sb rfl (sd rfl rfl (Blk.c (hb.fr0 M.fr) 2 rfl) (sb rfl (FL M 3 rfl rfl rfl (sa rfl (KN rfl rfl rfl underlying271 underlying5 JN (hm.fr0 M.fr)) ?_))))))
           iterate 5 refine sb rfl ?_
           refine FA (AD (AF (AS (AQ rfl (AY rfl (AL rfl (fun h114 => ?_) (fun h114 => ?_)))))))
           ·refine AQ rfl (CW M 1 rfl rfl underlying45 AC rfl (CW M 0 rfl rfl underlying45 AC rfl ?_))
            obtain ⟨fd, hfv, hfn, hfc⟩ := aG n.op h114
            have haT := hSa (by simpa using h58p)
            have hbT := hSb (by simpa using h101p)
            exact OZ M 119 rfl (BX rfl (congrArg some hfv) rfl hfn) (hfc ra.1 rb.1 _ haT hbT (hY.fr0 M.fr)) fun w30 M => BM rfl rfl (C4 M 2 rfl rfl AC rfl fun w31 M => yb rfl (gnr (AN (AB (B9 rfl rfl (M.rdBlk 2 rfl rfl) underlying45 rfl AC rfl ⟨by rw [evW, AT h15, AT h19, AT h58, AT h63, if_pos h69, if_pos h69b, AT h75, AT h79, AT h89, AT h101, if_pos h114] <;> rfl, M.fr⟩)))))
           ·refine AQ rfl (BC M 0 rfl rfl rfl (DA rfl rfl (AY rfl (AL rfl (fun h122 => ?_) (fun h122 => ?_)))))
            ·exact srg (ya rfl (BA (parts := []) rfl rfl (C8)) (C4 M 2 rfl rfl AC rfl fun w32 M => yb rfl (gnr (AN (AB (B9 rfl rfl (M.rdBlk 2 rfl rfl) underlying45 rfl AC rfl ⟨by rw [evW, AT h15, AT h19, AT h58, AT h63, if_pos h69, if_pos h69b, AT h75, AT h79, AT h89, AT h101, AT h114, if_pos h122] <;> rfl, M.fr⟩))))))
            ·exact AI (AE (AD (srg (CW M 0 rfl rfl underlying45 AC rfl (C4 M 2 rfl rfl AC rfl fun w33 M => yb rfl (gnr (B9 rfl rfl (M.rdBlk 2 rfl rfl) underlying45 rfl AC rfl ⟨by rw [evW, AT h15, AT h19, AT h58, AT h63, if_pos h69, if_pos h69b, AT h75, AT h79, AT h89, AT h101, AT h114, AT h122] <;> rfl, M.fr⟩)))))))
      ·have h69bp := (odf h69b)
       have hL1 : 1 < L.length := by rw [h69b] at h69; cases h69
       refine AI (AE (AD (AQ rfl (yb rfl (BC M 2 rfl rfl rfl ?_)))))
       obtain ⟨y, hy⟩ := CC (l := L) (i := 1) AM
       obtain ⟨b_y, o_y, hA_y⟩ := BI (k := 7) AM (hR.fr0 M.fr) hy
       refine ya rfl (B1 1 hA_y rfl rfl rfl (sl rfl) AM) (ya rfl (AU rfl rfl (BV Xq.len (hR.fr0 M.fr) hA_y hy) underlying75 rfl AZ) (D4 M 97 rfl rfl call221 (hT1 y hy _ M.fr) fun w34 M => BM rfl rfl (yb rfl (DC M rfl BR fun g10 w35 hg10 M => C4 M 0 rfl rfl AC rfl fun w36 M => AY rfl (AF (srg ?_))))))
       refine yb rfl (DA rfl rfl (nq (AL rfl (fun h101 => ?_) (fun h101 => ?_))))
       ·exact srg (ya rfl (BA (parts := []) rfl rfl (C8)) (yb rfl (C4 M 2 rfl rfl AC rfl fun w37 M => yb rfl (gnr (AB (B9 rfl rfl (M.rdBlk 2 rfl rfl) underlying45 rfl AC rfl ⟨by rw [evW, AT h15, AT h19, AT h58, AT h63, if_pos h69, AT h69b, if_pos h101] <;> rfl, M.fr⟩))))))
       ·have h101p := (odt (BQ h101))
        refine AI (AD (AF (ER CZ gkr ?_)))
        have M := M.drew
        refine sb rfl (sb rfl (sb rfl (sd rfl rfl (Blk.c (hb.fr0 M.fr) 2 rfl) (sb rfl (FL M 3 rfl rfl rfl (sa rfl (KN rfl rfl rfl underlying271 underlying5 JN (hm.fr0 M.fr)) ?_))))))
        iterate 5 refine sb rfl ?_
        refine FA (AD (AF (AS (AQ rfl (AY rfl (AL rfl (fun h114 => ?_) (fun h114 => ?_)))))))
        ·refine AQ rfl (CW M 1 rfl rfl underlying45 AC rfl (CW M 0 rfl rfl underlying45 AC rfl ?_))
         obtain ⟨fd, hfv, hfn, hfc⟩ := aG n.op h114
         have haT := hSa (by simpa using h58p)
         have hbT := hSb (by simpa using h101p)
         exact OZ M 119 rfl (BX rfl (congrArg some hfv) rfl hfn) (hfc ra.1 rb.1 _ haT hbT (hY.fr0 M.fr)) fun w38 M => BM rfl rfl (C4 M 2 rfl rfl AC rfl fun w39 M => yb rfl (gnr (AN (AB (B9 rfl rfl (M.rdBlk 2 rfl rfl) underlying45 rfl AC rfl ⟨by rw [evW, AT h15, AT h19, AT h58, AT h63, if_pos h69, AT h69b, AT h101, if_pos h114] <;> rfl, M.fr⟩)))))
        ·refine AQ rfl (BC M 0 rfl rfl rfl (DA rfl rfl (AY rfl (AL rfl (fun h122 => ?_) (fun h122 => ?_)))))
         ·exact srg (ya rfl (BA (parts := []) rfl rfl (C8)) (C4 M 2 rfl rfl AC rfl fun w40 M => yb rfl (gnr (AN (AB (B9 rfl rfl (M.rdBlk 2 rfl rfl) underlying45 rfl AC rfl ⟨by rw [evW, AT h15, AT h19, AT h58, AT h63, if_pos h69, AT h69b, AT h101, AT h114, if_pos h122] <;> rfl, M.fr⟩))))))
         ·exact AI (AE (AD (srg (CW M 0 rfl rfl underlying45 AC rfl (C4 M 2 rfl rfl AC rfl fun w41 M => yb rfl (gnr (B9 rfl rfl (M.rdBlk 2 rfl rfl) underlying45 rfl AC rfl ⟨by rw [evW, AT h15, AT h19, AT h58, AT h63, if_pos h69, AT h69b, AT h101, AT h114, AT h122] <;> rfl, M.fr⟩)))))))
     ·have h69p := (odf h69)
      refine srg (CN rfl rfl (AY rfl (JP [(0, pg gr), (3, pg g3), (4, pg g4), (8, pg g8), (69, .bool ((decide ((n.op.toNat : Int) = (5 : Int))) || (decide ((n.op.toNat : Int) = (6 : Int)))))] (fun w' => Mem w B0 [As.blk g8 45 (Vl.cells ra.1), As.blk g4 45 [.int .u8 0, AJ 0, .bool false, str []], As.blk g3 75 (M6 n A L.length)] w') ?_ (fun k69 => ?_))))
      ·intro w42 M
       refine AD (AL rfl (fun h69b => ?_) (fun h69b => ?_))
       ·have h69bp := ((EO h69b).imp (fun z => (odt z)) (fun z => (odt z)))
        refine AF (AQ rfl (BC M 0 rfl rfl rfl (DA rfl rfl (nq (AL rfl (fun h75 => ?_) (fun h75 => ?_))))))
        ·exact srg (ya rfl (BA (parts := []) rfl rfl (C8)) (C4 M 1 rfl rfl AC rfl fun w43 M => yb rfl (gnr (AB (AN (AB (B9 rfl rfl (M.rdBlk 1 rfl rfl) underlying45 rfl AC rfl ⟨by rw [evW, AT h15, AT h19, AT h58, AT h63, AT h69, if_pos h69b, if_pos h75] <;> rfl, M.fr⟩)))))))
        ·have h75p := (odt (BQ h75))
         refine AI (AD (AF (AQ rfl (BC M 2 rfl rfl rfl (CN rfl rfl (nq (AL rfl (fun h79 => ?_) (fun h79 => ?_))))))))
         ·refine AQ rfl (BC M 0 rfl rfl rfl (yb rfl (D4 M 83 rfl rfl call121 (O9 (!ra.1.bool) _) fun w44 M => C4 M 1 rfl rfl AC rfl fun w45 M => yb rfl (gnr (AB (AN (AB (B9 rfl rfl (M.rdBlk 1 rfl rfl) underlying45 rfl AC rfl ?_))))))))
          exact ⟨by rw [evW, AT h15, AT h19, AT h58, AT h63, AT h69, if_pos h69b, AT h75, if_pos h79] <;> rfl, M.fr⟩
         ·have h79p := (odf h79)
          refine AI (AD (AQ rfl (BC M 0 rfl rfl rfl (yb rfl (BC M 2 rfl rfl rfl (CN rfl rfl (ya rfl (J0 rfl rfl rfl underlying4) (nq (AL rfl (fun h89 => ?_) (fun h89 => ?_))))))))))
          ·exact srg (CW M 0 rfl rfl underlying45 AC rfl (C4 M 1 rfl rfl AC rfl fun w46 M => yb rfl (gnr (AN (AB (B9 rfl rfl (M.rdBlk 1 rfl rfl) underlying45 rfl AC rfl ⟨by rw [evW, AT h15, AT h19, AT h58, AT h63, AT h69, if_pos h69b, AT h75, AT h79, if_pos h89] <;> rfl, M.fr⟩))))))
          ·have hL1 : 1 < L.length := hk2 h15p h19p h79p h63p
           refine AI (AE (AD (AQ rfl (yb rfl (BC M 2 rfl rfl rfl ?_)))))
           obtain ⟨y, hy⟩ := CC (l := L) (i := 1) AM
           obtain ⟨b_y, o_y, hA_y⟩ := BI (k := 7) AM (hR.fr0 M.fr) hy
           refine ya rfl (B1 1 hA_y rfl rfl rfl (sl rfl) AM) (ya rfl (AU rfl rfl (BV Xq.len (hR.fr0 M.fr) hA_y hy) underlying75 rfl AZ) (D4 M 97 rfl rfl call221 (hT1 y hy _ M.fr) fun w47 M => BM rfl rfl (yb rfl (DC M rfl BR fun g10 w48 hg10 M => C4 M 0 rfl rfl AC rfl fun w49 M => AY rfl (AF (srg ?_))))))
           refine yb rfl (DA rfl rfl (nq (AL rfl (fun h101 => ?_) (fun h101 => ?_))))
           ·exact srg (ya rfl (BA (parts := []) rfl rfl (C8)) (yb rfl (C4 M 2 rfl rfl AC rfl fun w50 M => yb rfl (gnr (AB (B9 rfl rfl (M.rdBlk 2 rfl rfl) underlying45 rfl AC rfl ⟨by rw [evW, AT h15, AT h19, AT h58, AT h63, AT h69, if_pos h69b, AT h75, AT h79, AT h89, if_pos h101] <;> rfl, M.fr⟩))))))
           ·have h101p := (odt (BQ h101))
            refine AI (AD (AF (ER CZ gkr ?_)))
            have M := M.drew
            refine sb rfl (sb rfl (sb rfl (sd rfl rfl (Blk.c (hb.fr0 M.fr) 2 rfl) (sb rfl (FL M 3 rfl rfl rfl (sa rfl (KN rfl rfl rfl underlying271 underlying5 JN (hm.fr0 M.fr)) ?_))))))
            iterate 5 refine sb rfl ?_
            refine FA (AD (AF (AS (AQ rfl (AY rfl (AL rfl (fun h114 => ?_) (fun h114 => ?_)))))))
            ·refine AQ rfl (CW M 1 rfl rfl underlying45 AC rfl (CW M 0 rfl rfl underlying45 AC rfl ?_))
             obtain ⟨fd, hfv, hfn, hfc⟩ := aG n.op h114
             have haT := hSa (by simpa using h58p)
             have hbT := hSb (by simpa using h101p)
             exact OZ M 119 rfl (BX rfl (congrArg some hfv) rfl hfn) (hfc ra.1 rb.1 _ haT hbT (hY.fr0 M.fr)) fun w51 M => BM rfl rfl (C4 M 2 rfl rfl AC rfl fun w52 M => yb rfl (gnr (AN (AB (B9 rfl rfl (M.rdBlk 2 rfl rfl) underlying45 rfl AC rfl ⟨by rw [evW, AT h15, AT h19, AT h58, AT h63, AT h69, if_pos h69b, AT h75, AT h79, AT h89, AT h101, if_pos h114] <;> rfl, M.fr⟩)))))
            ·refine AQ rfl (BC M 0 rfl rfl rfl (DA rfl rfl (AY rfl (AL rfl (fun h122 => ?_) (fun h122 => ?_)))))
             ·exact srg (ya rfl (BA (parts := []) rfl rfl (C8)) (C4 M 2 rfl rfl AC rfl fun w53 M => yb rfl (gnr (AN (AB (B9 rfl rfl (M.rdBlk 2 rfl rfl) underlying45 rfl AC rfl ⟨by rw [evW, AT h15, AT h19, AT h58, AT h63, AT h69, if_pos h69b, AT h75, AT h79, AT h89, AT h101, AT h114, if_pos h122] <;> rfl, M.fr⟩))))))
             ·exact AI (AE (AD (srg (CW M 0 rfl rfl underlying45 AC rfl (C4 M 2 rfl rfl AC rfl fun w54 M => yb rfl (gnr (B9 rfl rfl (M.rdBlk 2 rfl rfl) underlying45 rfl AC rfl ⟨by rw [evW, AT h15, AT h19, AT h58, AT h63, AT h69, if_pos h69b, AT h75, AT h79, AT h89, AT h101, AT h114, AT h122] <;> rfl, M.fr⟩)))))))
       ·have h69bp := (And.intro (odf (CP h69b).1) (odf (CP h69b).2))
        have hL1 : 1 < L.length := hk2 h15p h19p h69p h63p
        refine AI (AE (AD (AQ rfl (yb rfl (BC M 2 rfl rfl rfl ?_)))))
        obtain ⟨y, hy⟩ := CC (l := L) (i := 1) AM
        obtain ⟨b_y, o_y, hA_y⟩ := BI (k := 7) AM (hR.fr0 M.fr) hy
        refine ya rfl (B1 1 hA_y rfl rfl rfl (sl rfl) AM) (ya rfl (AU rfl rfl (BV Xq.len (hR.fr0 M.fr) hA_y hy) underlying75 rfl AZ) (D4 M 97 rfl rfl call221 (hT1 y hy _ M.fr) fun w55 M => BM rfl rfl (yb rfl (DC M rfl BR fun g10 w56 hg10 M => C4 M 0 rfl rfl AC rfl fun w57 M => AY rfl (AF (srg ?_))))))
        refine yb rfl (DA rfl rfl (nq (AL rfl (fun h101 => ?_) (fun h101 => ?_))))
        ·exact srg (ya rfl (BA (parts := []) rfl rfl (C8)) (yb rfl (C4 M 2 rfl rfl AC rfl fun w58 M => yb rfl (gnr (AB (B9 rfl rfl (M.rdBlk 2 rfl rfl) underlying45 rfl AC rfl ⟨by rw [evW, AT h15, AT h19, AT h58, AT h63, AT h69, AT h69b, if_pos h101] <;> rfl, M.fr⟩))))))
        ·have h101p := (odt (BQ h101))
         refine AI (AD (AF (ER CZ gkr ?_)))
         have M := M.drew
         refine sb rfl (sb rfl (sb rfl (sd rfl rfl (Blk.c (hb.fr0 M.fr) 2 rfl) (sb rfl (FL M 3 rfl rfl rfl (sa rfl (KN rfl rfl rfl underlying271 underlying5 JN (hm.fr0 M.fr)) ?_))))))
         iterate 5 refine sb rfl ?_
         refine FA (AD (AF (AS (AQ rfl (AY rfl (AL rfl (fun h114 => ?_) (fun h114 => ?_)))))))
         ·refine AQ rfl (CW M 1 rfl rfl underlying45 AC rfl (CW M 0 rfl rfl underlying45 AC rfl ?_))
          obtain ⟨fd, hfv, hfn, hfc⟩ := aG n.op h114
          have haT := hSa (by simpa using h58p)
          have hbT := hSb (by simpa using h101p)
          exact OZ M 119 rfl (BX rfl (congrArg some hfv) rfl hfn) (hfc ra.1 rb.1 _ haT hbT (hY.fr0 M.fr)) fun w59 M => BM rfl rfl (C4 M 2 rfl rfl AC rfl fun w60 M => yb rfl (gnr (AN (AB (B9 rfl rfl (M.rdBlk 2 rfl rfl) underlying45 rfl AC rfl ⟨by rw [evW, AT h15, AT h19, AT h58, AT h63, AT h69, AT h69b, AT h101, if_pos h114] <;> rfl, M.fr⟩)))))
         ·refine AQ rfl (BC M 0 rfl rfl rfl (DA rfl rfl (AY rfl (AL rfl (fun h122 => ?_) (fun h122 => ?_)))))
          ·exact srg (ya rfl (BA (parts := []) rfl rfl (C8)) (C4 M 2 rfl rfl AC rfl fun w61 M => yb rfl (gnr (AN (AB (B9 rfl rfl (M.rdBlk 2 rfl rfl) underlying45 rfl AC rfl ⟨by rw [evW, AT h15, AT h19, AT h58, AT h63, AT h69, AT h69b, AT h101, AT h114, if_pos h122] <;> rfl, M.fr⟩))))))
          ·exact AI (AE (AD (srg (CW M 0 rfl rfl underlying45 AC rfl (C4 M 2 rfl rfl AC rfl fun w62 M => yb rfl (gnr (B9 rfl rfl (M.rdBlk 2 rfl rfl) underlying45 rfl AC rfl ⟨by rw [evW, AT h15, AT h19, AT h58, AT h63, AT h69, AT h69b, AT h101, AT h114, AT h122] <;> rfl, M.fr⟩)))))))
      refine AL rfl (fun h69b => ?_) (fun h69b => ?_)
      ·exact AI (k69 _ _ M ⟨rfl, rfl, rfl, rfl, (by rw [h69b]; rfl), trivial⟩)
      ·exact AK (CN rfl rfl (yb rfl (AR (k69 _ _ M ⟨rfl, rfl, rfl, rfl, (by rw [h69b]; rfl), trivial⟩))))
end Go.Proofs.YtjaocmocdhckaaaGreatDoor
