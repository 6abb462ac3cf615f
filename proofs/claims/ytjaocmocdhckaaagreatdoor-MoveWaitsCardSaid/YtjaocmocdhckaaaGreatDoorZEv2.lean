/- Lemmas that the last text rests on. Condition: each says its own. -/
import Derived.Test.YtjaocmocdhckaaaGreatDoorZEv1
import Derived.Test.YtjaocmocdhckaaaGreatDoorZMpU
set_option maxHeartbeats 16000000
set_option maxRecDepth 100000
namespace Go.Proofs.YtjaocmocdhckaaaGreatDoor
open Go.RowKit
open Tryz
theorem MpU.fr0 {w w' : World} {g : Nat} {L : List (UInt8 × Value)} (h : MpU w g L) (hf : Fr0 w w') : MpU w' g L := h.fr hf (fun hh => hh)
theorem iO {α : Type} {p : Nat → α → Bool} : ∀ {l : List α} {i : Nat} {b : α}, ffN p i l = some b → b ∈ l
 | [], _, _, h => by cases h
 | x :: r, i, b, h => by
  unfold ffN at h
  split at h
  ·exact List.mem_cons_of_mem _ (iO h)
  ·injection h with h
   subst h
   exact List.mem_cons_self
theorem bW {vars : List Bd} (hok : BdOk vars) (k : List UInt8) : (((LN vars k).getD zeroVl).text.length : Int) < 4611686018427387904 := by
 unfold LN
 cases hq : ffN (fun (_ : Nat) (b : Bd) => !(decide (b.name = k))) 0 vars with
 | none => decide
 | some b => exact hok.text b (iO hq)
theorem J8 : (prog.info? 286).map (·.zero) = some (some (.nilFunc)) := by kernel_rfl
theorem dD (a b : Vl) (w : World) : Calls prog 10 #[.agg a.cells.toArray, .agg b.cells.toArray] w fun e w' => e = .returned (.bool (a.same b)) ∧ Fr0 w w' := by
 refine C2 func10 ntmps10 rfl fun M => srg (CN M rfl rfl fun g2 w1 hg2 M => CN M rfl rfl fun g3 w2 hg3 M => yb rfl (nq (srg (CR M 1 rfl rfl underlying45 AG rfl (CR M 0 rfl rfl underlying45 AG rfl (ya rfl (TG (a := a) (b := b) rfl rfl rfl) (yb rfl ?_)))))))
 exact nq (AI (gr1 rfl ⟨rfl, M.fr⟩))
def TN (b : Bool) (er : Int) : Vl × Int := (if (!decide (er = (0 : Int))) = true then ((⟨0, 0, false, []⟩ : Vl), er) else ((⟨2, 0, b, []⟩ : Vl), 0))
theorem SK (b : Bool) (er : Int) (w : World) : Calls prog 248 #[.bool b, .int .i64 er] w fun e w' => e = .returned (.tuple #[.agg (Vl.cells (TN b er).1).toArray, .int .i64 (TN b er).2]) ∧ Fr0 w w' := by
 refine C2 func248 ntmps248 rfl fun M => AD (AB (D6 M rfl BN fun g4 w1 hg4 M => yb rfl (AC (AA (AD (AD (AB (yb rfl (D4 rfl rfl (AC (AA (AN rfl (fun h7 => ?_) (fun h7 => ?_)))))))))))))
 ·exact srg (ya rfl (B9 (parts := []) rfl rfl (C4)) (yb rfl (C1 M 0 rfl rfl AG rfl fun w2 M => yb rfl (nq (AI (AE (B8 rfl rfl (M.rdBlk 0 rfl rfl) underlying45 rfl AG rfl ⟨by rw [TN, if_pos h7] <;> rfl, M.fr⟩)))))))
 ·exact AL (AA (srg (yb rfl (D1 M 11 rfl rfl call121 (NN b _) fun w3 M => C1 M 0 rfl rfl AG rfl fun w4 M => yb rfl (nq (AI (B8 rfl rfl (M.rdBlk 0 rfl rfl) underlying45 rfl AG rfl ⟨by rw [TN, if_neg (AS h7)] <;> rfl, M.fr⟩)))))))
def RG (a b : Vl) (want : Bool) : Vl × Int := (if (!decide ((a.kind.toNat : Int) = (b.kind.toNat : Int))) = true then ((⟨0, 0, false, []⟩ : Vl), 90) else (((TN ((Vl.same a b) == want) 0).1), (TN ((Vl.same a b) == want) 0).2))
theorem iT (a b : Vl) (want : Bool) (w : World) : Calls prog 230 #[.agg a.cells.toArray, .agg b.cells.toArray, .bool want] w fun e w' => e = .returned (.tuple #[.agg (Vl.cells (RG a b want).1).toArray, .int .i64 (RG a b want).2]) ∧ Fr0 w w' := by
 refine C2 func230 ntmps230 rfl fun M => srg (CN M rfl rfl fun g3 w1 hg3 M => CN M rfl rfl fun g4 w2 hg4 M => D6 M rfl BN fun g6 w3 hg6 M => yb rfl (nq (AD (srg (yb rfl ?_)))))
 refine BA M 2 rfl rfl rfl (yb rfl (BA M 1 rfl rfl rfl (D4 rfl rfl (AC (AA (AN rfl (fun h12 => ?_) (fun h12 => ?_)))))))
 ·exact srg (ya rfl (B9 (parts := []) rfl rfl (C4)) (C1 M 0 rfl rfl AG rfl fun w4 M => yb rfl (nq (AI (AE (B8 rfl rfl (M.rdBlk 0 rfl rfl) underlying45 rfl AG rfl ⟨by rw [RG, if_pos h12] <;> rfl, M.fr⟩))))))
 ·refine AL (AA (srg (CR M 2 rfl rfl underlying45 AG rfl (CR M 1 rfl rfl underlying45 AG rfl (D1 M 16 rfl rfl call10 (dD a b _) fun w5 M => yb rfl (ya rfl (IP rfl rfl rfl underlying4) (D1 M 19 rfl rfl call248 (SK ((Vl.same a b) == want) 0 _) fun w6 M => yb rfl (yb rfl (C1 M 0 rfl rfl AG rfl fun w7 M => yb rfl (AC ?_))))))))))
  exact AA (AI (B8 rfl rfl (M.rdBlk 0 rfl rfl) underlying45 rfl AG rfl ⟨by rw [RG, if_neg (AS h12)] <;> rfl, M.fr⟩))
def MJ (a b : Vl) (want : Bool) : Vl × Int := (((TN ((JG a b).1 == want) ((JG a b).2)).1), (TN ((JG a b).1 == want) ((JG a b).2)).2)
theorem U0 (a b : Vl) (want : Bool) (w : World) (ha : a.text.length ≤ 1048576) (hb : b.text.length ≤ 1048576) (hY : Lay0 w) : Calls prog 233 #[.agg a.cells.toArray, .agg b.cells.toArray, .bool want] w fun e w' => e = .returned (.tuple #[.agg (Vl.cells (MJ a b want).1).toArray, .int .i64 (MJ a b want).2]) ∧ Fr0 w w' := by
 refine C2 func233 ntmps233 rfl fun M => srg (CN M rfl rfl fun g3 w1 hg3 M => CN M rfl rfl fun g4 w2 hg4 M => D6 M rfl BN fun g6 w3 hg6 M => yb rfl (nq (srg (CR M 2 rfl rfl underlying45 AG rfl (CR M 1 rfl rfl underlying45 AG rfl ?_)))))
 refine D1 M 13 rfl rfl call249 (dE a b _ (by first | omega | (simp only [List.length_nil]; omega)) (by first | omega | (simp only [List.length_nil]; omega)) (hY.fr0 M.fr)) fun w4 M => ?_
 iterate 5 refine yb rfl ?_
 refine nq (srg (yb rfl (yb rfl (ya rfl (IP rfl rfl rfl underlying4) (yb rfl (D1 M 20 rfl rfl call248 (SK ((JG a b).1 == want) ((JG a b).2) _) fun w5 M => yb rfl (yb rfl (C1 M 0 rfl rfl AG rfl fun w6 M => yb rfl (nq ?_)))))))))
 exact AI (B8 rfl rfl (M.rdBlk 0 rfl rfl) underlying45 rfl AG rfl ⟨by rw [MJ] <;> rfl, M.fr⟩)
def Y5 (a b : Vl) : Vl × Int := (if ((!decide ((a.kind.toNat : Int) = (3 : Int))) || (!decide ((b.kind.toNat : Int) = (3 : Int)))) = true then (((QI a b).1), (QI a b).2) else (if (!decide ((chk (⟨3, 0, false, (a.text ++ b.text)⟩ : Vl)) = (0 : Int))) = true then ((⟨0, 0, false, []⟩ : Vl), 91) else ((⟨3, 0, false, (a.text ++ b.text)⟩ : Vl), 0)))
theorem q8 (a b : Vl) (w : World) (ha : a.text.length ≤ 1048576) (hb : b.text.length ≤ 1048576) (hY : Lay0 w) : Calls prog 237 #[.agg a.cells.toArray, .agg b.cells.toArray] w fun e w' => e = .returned (.tuple #[.agg (Vl.cells (Y5 a b).1).toArray, .int .i64 (Y5 a b).2]) ∧ Fr0 w w' := by
 refine C2 func237 ntmps237 rfl fun M => srg (CN M rfl rfl fun g2 w1 hg2 M => CN M rfl rfl fun g3 w2 hg3 M => D6 M rfl BN fun g4 w3 hg4 M => yb rfl (nq (AD (srg (yb rfl ?_)))))
 refine BA M 2 rfl rfl rfl (D4 rfl rfl (yb rfl (fvm M 4 [4, 3, 2] [(14, .bool ((!decide ((a.kind.toNat : Int) = (3 : Int))) || (!decide ((b.kind.toNat : Int) = (3 : Int)))))] ?_ (fun k10 => ?_))))
 ·intro w4 M
  refine AC (AA (AN rfl (fun h14 => ?_) (fun h14 => ?_)))
  ·have h14p := ((EJ h14).imp (fun z => (odf (CE z))) (fun z => (odf (CE z))))
   exact srg (CR M 2 rfl rfl underlying45 AG rfl (CR M 1 rfl rfl underlying45 AG rfl (D1 M 17 rfl rfl call250 (kV a b _ (by first | omega | (simp only [List.length_nil]; omega)) (by first | omega | (simp only [List.length_nil]; omega)) (hY.fr0 M.fr)) fun w5 M => yb rfl (yb rfl (C1 M 0 rfl rfl AG rfl fun w6 M => yb rfl (nq (AI (AE (B8 rfl rfl (M.rdBlk 0 rfl rfl) underlying45 rfl AG rfl ⟨by rw [Y5, if_pos h14] <;> rfl, M.fr⟩)))))))))
  ·have h14p := (And.intro (odt (BM (CL h14).1)) (odt (BM (CL h14).2)))
   refine AL (AA (srg (yb rfl (BA M 2 rfl rfl rfl (yb rfl (BA M 1 rfl rfl rfl (ya rfl (FN rfl rfl rfl (by first | omega | (simp; omega))) (D1 M 25 rfl rfl call122 (UR (a.text ++ b.text) _) fun w7 M => D6 M rfl BN fun g6 w8 hg6 M => C1 M 0 rfl rfl AG rfl fun w9 M => nq ?_))))))))
   refine AD (AD (AB (CR M 0 rfl rfl underlying45 AG rfl (D1 M 27 rfl rfl call65 (FH (⟨3, 0, false, (a.text ++ b.text)⟩ : Vl) _ (by simp; omega) (hY.fr0 M.fr).utf) fun w10 M => D4 rfl rfl (AC (AA (AN rfl (fun h28 => ?_) (fun h28 => ?_))))))))
   ·exact srg (ya rfl (B9 (parts := []) rfl rfl (C4)) (C1 M 1 rfl rfl AG rfl fun w11 M => yb rfl (nq (AI (AE (B8 rfl rfl (M.rdBlk 1 rfl rfl) underlying45 rfl AG rfl ⟨by rw [Y5, if_neg (AS h14), if_pos h28] <;> rfl, M.fr⟩))))))
   ·exact AL (AA (srg (CR M 0 rfl rfl underlying45 AG rfl (C1 M 1 rfl rfl AG rfl fun w12 M => yb rfl (nq (AI (B8 rfl rfl (M.rdBlk 1 rfl rfl) underlying45 rfl AG rfl ⟨by rw [Y5, if_neg (AS h14), if_neg (AS h28)] <;> rfl, M.fr⟩)))))))
 refine AP (d := 10) rfl (fun h10 => ?_) (fun h10 => ?_)
 ·exact yo rfl (yo rfl (yo rfl (yb rfl (k10 M ⟨rfl, rfl, rfl, (by rw [h10]; rfl), trivial⟩))))
 ·exact gyq rfl (CH M 1 rfl rfl rfl (yd rfl (DC rfl rfl rfl) (yb rfl (k10 M ⟨rfl, rfl, rfl, (by rw [h10]; rfl), trivial⟩))))
theorem jT (a b : Vl) (w : World)  : Calls prog 229 #[.agg a.cells.toArray, .agg b.cells.toArray] w fun e w' => e = .returned (.tuple #[.agg (Vl.cells (RG a b true).1).toArray, .int .i64 (RG a b true).2]) ∧ Fr0 w w' := by
 refine C2 func229 ntmps229 rfl fun M => srg (CN M rfl rfl fun g2 w1 hg2 M => CN M rfl rfl fun g3 w2 hg3 M => D6 M rfl BN fun g4 w3 hg4 M => yb rfl (nq (srg (CR M 2 rfl rfl underlying45 AG rfl (CR M 1 rfl rfl underlying45 AG rfl ?_)))))
 exact D1 M 8 rfl rfl call230 (iT a b true _) fun w4 M => yb rfl (yb rfl (C1 M 0 rfl rfl AG rfl fun w5 M => yb rfl (nq (AI (B8 rfl rfl (M.rdBlk 0 rfl rfl) underlying45 rfl AG rfl ⟨rfl, M.fr⟩)))))
theorem jS (a b : Vl) (w : World)  : Calls prog 231 #[.agg a.cells.toArray, .agg b.cells.toArray] w fun e w' => e = .returned (.tuple #[.agg (Vl.cells (RG a b false).1).toArray, .int .i64 (RG a b false).2]) ∧ Fr0 w w' := by
 refine C2 func231 ntmps231 rfl fun M => srg (CN M rfl rfl fun g2 w1 hg2 M => CN M rfl rfl fun g3 w2 hg3 M => D6 M rfl BN fun g4 w3 hg4 M => yb rfl (nq (srg (CR M 2 rfl rfl underlying45 AG rfl (CR M 1 rfl rfl underlying45 AG rfl ?_)))))
 exact D1 M 8 rfl rfl call230 (iT a b false _) fun w4 M => yb rfl (yb rfl (C1 M 0 rfl rfl AG rfl fun w5 M => yb rfl (nq (AI (B8 rfl rfl (M.rdBlk 0 rfl rfl) underlying45 rfl AG rfl ⟨rfl, M.fr⟩)))))
theorem jR (a b : Vl) (w : World) (ha : a.text.length ≤ 1048576) (hb : b.text.length ≤ 1048576) (hY : Lay0 w) : Calls prog 232 #[.agg a.cells.toArray, .agg b.cells.toArray] w fun e w' => e = .returned (.tuple #[.agg (Vl.cells (MJ a b true).1).toArray, .int .i64 (MJ a b true).2]) ∧ Fr0 w w' := by
 refine C2 func232 ntmps232 rfl fun M => srg (CN M rfl rfl fun g2 w1 hg2 M => CN M rfl rfl fun g3 w2 hg3 M => D6 M rfl BN fun g4 w3 hg4 M => yb rfl (nq (srg (CR M 2 rfl rfl underlying45 AG rfl (CR M 1 rfl rfl underlying45 AG rfl ?_)))))
 exact D1 M 8 rfl rfl call233 (U0 a b true _ (by first | omega | (simp only [List.length_nil]; omega)) (by first | omega | (simp only [List.length_nil]; omega)) (hY.fr0 M.fr)) fun w4 M => yb rfl (yb rfl (C1 M 0 rfl rfl AG rfl fun w5 M => yb rfl (nq (AI (B8 rfl rfl (M.rdBlk 0 rfl rfl) underlying45 rfl AG rfl ⟨rfl, M.fr⟩)))))
theorem jQ (a b : Vl) (w : World) (ha : a.text.length ≤ 1048576) (hb : b.text.length ≤ 1048576) (hY : Lay0 w) : Calls prog 234 #[.agg a.cells.toArray, .agg b.cells.toArray] w fun e w' => e = .returned (.tuple #[.agg (Vl.cells (MJ a b false).1).toArray, .int .i64 (MJ a b false).2]) ∧ Fr0 w w' := by
 refine C2 func234 ntmps234 rfl fun M => srg (CN M rfl rfl fun g2 w1 hg2 M => CN M rfl rfl fun g3 w2 hg3 M => D6 M rfl BN fun g4 w3 hg4 M => yb rfl (nq (srg (CR M 2 rfl rfl underlying45 AG rfl (CR M 1 rfl rfl underlying45 AG rfl ?_)))))
 exact D1 M 8 rfl rfl call233 (U0 a b false _ (by first | omega | (simp only [List.length_nil]; omega)) (by first | omega | (simp only [List.length_nil]; omega)) (hY.fr0 M.fr)) fun w4 M => yb rfl (yb rfl (C1 M 0 rfl rfl AG rfl fun w5 M => yb rfl (nq (AI (B8 rfl rfl (M.rdBlk 0 rfl rfl) underlying45 rfl AG rfl ⟨rfl, M.fr⟩)))))
theorem jP (a b : Vl) (w : World) (ha : a.text.length ≤ 1048576) (hb : b.text.length ≤ 1048576) (hY : Lay0 w) : Calls prog 235 #[.agg a.cells.toArray, .agg b.cells.toArray] w fun e w' => e = .returned (.tuple #[.agg (Vl.cells (MJ b a true).1).toArray, .int .i64 (MJ b a true).2]) ∧ Fr0 w w' := by
 refine C2 func235 ntmps235 rfl fun M => srg (CN M rfl rfl fun g2 w1 hg2 M => CN M rfl rfl fun g3 w2 hg3 M => D6 M rfl BN fun g4 w3 hg4 M => yb rfl (nq (srg (CR M 1 rfl rfl underlying45 AG rfl (CR M 2 rfl rfl underlying45 AG rfl ?_)))))
 exact D1 M 8 rfl rfl call233 (U0 b a true _ (by first | omega | (simp only [List.length_nil]; omega)) (by first | omega | (simp only [List.length_nil]; omega)) (hY.fr0 M.fr)) fun w4 M => yb rfl (yb rfl (C1 M 0 rfl rfl AG rfl fun w5 M => yb rfl (nq (AI (B8 rfl rfl (M.rdBlk 0 rfl rfl) underlying45 rfl AG rfl ⟨rfl, M.fr⟩)))))
theorem jO (a b : Vl) (w : World) (ha : a.text.length ≤ 1048576) (hb : b.text.length ≤ 1048576) (hY : Lay0 w) : Calls prog 236 #[.agg a.cells.toArray, .agg b.cells.toArray] w fun e w' => e = .returned (.tuple #[.agg (Vl.cells (MJ b a false).1).toArray, .int .i64 (MJ b a false).2]) ∧ Fr0 w w' := by
 refine C2 func236 ntmps236 rfl fun M => srg (CN M rfl rfl fun g2 w1 hg2 M => CN M rfl rfl fun g3 w2 hg3 M => D6 M rfl BN fun g4 w3 hg4 M => yb rfl (nq (srg (CR M 1 rfl rfl underlying45 AG rfl (CR M 2 rfl rfl underlying45 AG rfl ?_)))))
 exact D1 M 8 rfl rfl call233 (U0 b a false _ (by first | omega | (simp only [List.length_nil]; omega)) (by first | omega | (simp only [List.length_nil]; omega)) (hY.fr0 M.fr)) fun w4 M => yb rfl (yb rfl (C1 M 0 rfl rfl AG rfl fun w5 M => yb rfl (nq (AI (B8 rfl rfl (M.rdBlk 0 rfl rfl) underlying45 rfl AG rfl ⟨rfl, M.fr⟩)))))
def LW : List (UInt8 × Value) := [(7, .func (.func 229) #[] #[]), (8, .func (.func 231) #[] #[]), (9, .func (.func 232) #[] #[]), (12, .func (.func 234) #[] #[]), (11, .func (.func 235) #[] #[]), (10, .func (.func 236) #[] #[]), (13, .func (.func 237) #[] #[]), (14, .func (.func 238) #[] #[]), (15, .func (.func 239) #[] #[]), (16, .func (.func 240) #[] #[]), (17, .func (.func 241) #[] #[])]
def doP (k : UInt8) (a b : Vl) : Vl × Int := if k = 7 then RG a b true else if k = 8 then RG a b false else if k = 9 then MJ a b true else if k = 12 then MJ a b false else if k = 11 then MJ b a true else if k = 10 then MJ b a false else if k = 13 then Y5 a b else if k = 14 then KR a b else if k = 15 then SI a b else if k = 16 then QF a b else if k = 17 then QD a b else (zeroVl, 0)
theorem ZH (k : UInt8) (h : (HE LW k).isSome = true) : ∃ fd, (HE LW k).getD .nilFunc = .func (.func fd) #[] #[] ∧ (∀ (ar : Array Value) (w : World), (callFunc fd ar).run prog w = .ok (.enter fd ar) w) ∧ ∀ (a b : Vl) (w : World), a.text.length ≤ 1048576 → b.text.length ≤ 1048576 → Lay0 w → Calls prog fd #[.agg a.cells.toArray, .agg b.cells.toArray] w fun e w' => e = .returned (.tuple #[.agg (Vl.cells (doP k a b).1).toArray, .int .i64 (doP k a b).2]) ∧ Fr0 w w' := by
 by_cases h7 : k = 7
 ·subst h7
  exact ⟨229, rfl, call229, fun a b w _ _ _ => jT a b w⟩
 by_cases h8 : k = 8
 ·subst h8
  exact ⟨231, rfl, call231, fun a b w _ _ _ => jS a b w⟩
 by_cases h9 : k = 9
 ·subst h9
  exact ⟨232, rfl, call232, fun a b w ha hb hY => jR a b w ha hb hY⟩
 by_cases h12 : k = 12
 ·subst h12
  exact ⟨234, rfl, call234, fun a b w ha hb hY => jQ a b w ha hb hY⟩
 by_cases h11 : k = 11
 ·subst h11
  exact ⟨235, rfl, call235, fun a b w ha hb hY => jP a b w ha hb hY⟩
 by_cases h10 : k = 10
 ·subst h10
  exact ⟨236, rfl, call236, fun a b w ha hb hY => jO a b w ha hb hY⟩
 by_cases h13 : k = 13
 ·subst h13
  exact ⟨237, rfl, call237, fun a b w ha hb hY => q8 a b w ha hb hY⟩
 by_cases h14 : k = 14
 ·subst h14
  exact ⟨238, rfl, call238, fun a b w ha hb hY => YG a b w ha hb hY⟩
 by_cases h15 : k = 15
 ·subst h15
  exact ⟨239, rfl, call239, fun a b w ha hb hY => kR a b w ha hb hY⟩
 by_cases h16 : k = 16
 ·subst h16
  exact ⟨240, rfl, call240, fun a b w ha hb hY => kT a b w ha hb hY⟩
 by_cases h17 : k = 17
 ·subst h17
  exact ⟨241, rfl, call241, fun a b w ha hb hY => kS a b w ha hb hY⟩
 simp [LW, HE, h7, h8, h9, h12, h11, h10, h13, h14, h15, h16, h17] at h
theorem nK (w : World) : Calls prog 220 #[] w fun e w' => ∃ g, e = .returned (.map (some g)) ∧ MpU w' g LW ∧ (w.heap.size ≤ g ∧ g < w'.heap.size) ∧ Fr0 w w' := by
 refine C2 func220 ntmps220 rfl fun M => srg (yb rfl (nq (srg (V8 M (AF rfl) rfl rfl rfl fun g1 w1 hg1 M => E5 M 0 (k := (7 : UInt8)) (AF rfl) rfl rfl rfl rfl rfl underlying271 underlying5 rfl fun w2 M => E5 M 0 (k := (8 : UInt8)) (AF rfl) rfl rfl rfl rfl rfl underlying271 underlying5 rfl fun w3 M => E5 M 0 (k := (9 : UInt8)) (AF rfl) rfl rfl rfl rfl rfl underlying271 underlying5 rfl fun w4 M => ?_))))
 refine E5 M 0 (k := (12 : UInt8)) (AF rfl) rfl rfl rfl rfl rfl underlying271 underlying5 rfl fun w5 M => E5 M 0 (k := (11 : UInt8)) (AF rfl) rfl rfl rfl rfl rfl underlying271 underlying5 rfl fun w6 M => E5 M 0 (k := (10 : UInt8)) (AF rfl) rfl rfl rfl rfl rfl underlying271 underlying5 rfl fun w7 M => E5 M 0 (k := (13 : UInt8)) (AF rfl) rfl rfl rfl rfl rfl underlying271 underlying5 rfl fun w8 M => E5 M 0 (k := (14 : UInt8)) (AF rfl) rfl rfl rfl rfl rfl underlying271 underlying5 rfl fun w9 M => E5 M 0 (k := (15 : UInt8)) (AF rfl) rfl rfl rfl rfl rfl underlying271 underlying5 rfl fun w10 M => E5 M 0 (k := (16 : UInt8)) (AF rfl) rfl rfl rfl rfl rfl underlying271 underlying5 rfl fun w11 M => E5 M 0 (k := (17 : UInt8)) (AF rfl) rfl rfl rfl rfl rfl underlying271 underlying5 rfl fun w12 M => ?_
 exact yb rfl (yb rfl (nq (AI (gr1 rfl ⟨g1, rfl, (M.ok 0 _ rfl : MpU _ _ _), M.new0 0 rfl _ (by simp [As.mpU]), M.fr⟩))))
theorem m4 (k : List UInt8) (w : World) : Calls prog 205 #[str k] w fun e w' => e = .returned (.tuple #[]) ∧ Fr0 w w' := by
 exact C2 func205 ntmps205 rfl fun M => AL (CG (Or.inr rfl) rfl ⟨rfl, M.fr⟩)
def evW (n : Xn) (vars : List Bd) (ra rb : Vl × Int) : Vl × Int := (if (decide ((n.op.toNat : Int) = (1 : Int))) = true then ((⟨n.vl.kind, n.vl.int, n.vl.bool, n.vl.text⟩ : Vl), 0) else (if (decide ((n.op.toNat : Int) = (2 : Int))) = true then (if (!(LN vars n.nm).isSome) = true then ((⟨0, 0, false, []⟩ : Vl), 100) else (if (!decide ((chk ((LN vars n.nm).getD zeroVl)) = (0 : Int))) = true then ((⟨0, 0, false, []⟩ : Vl), 1) else (((LN vars n.nm).getD zeroVl), 0))) else (if (!decide (ra.2 = (0 : Int))) = true then ((⟨0, 0, false, []⟩ : Vl), ra.2) else (if (decide ((n.op.toNat : Int) = (4 : Int))) = true then (((KR ⟨1, 0, false, []⟩ ra.1).1), (KR ⟨1, 0, false, []⟩ ra.1).2) else (if (decide ((n.op.toNat : Int) = (3 : Int))) = true then (if (decide ((n.op.toNat : Int) = (3 : Int))) = true then (if (!decide ((ra.1.kind.toNat : Int) = (2 : Int))) = true then ((⟨0, 0, false, []⟩ : Vl), 90) else (if (decide ((n.op.toNat : Int) = (3 : Int))) = true then ((⟨2, 0, (!ra.1.bool), []⟩ : Vl), 0) else (if (ra.1.bool == (decide ((n.op.toNat : Int) = (6 : Int)))) = true then (ra.1, 0) else (if (!decide (rb.2 = (0 : Int))) = true then ((⟨0, 0, false, []⟩ : Vl), rb.2) else (if (HE LW n.op).isSome = true then (((doP n.op ra.1 rb.1).1), (doP n.op ra.1 rb.1).2) else (if (!decide ((rb.1.kind.toNat : Int) = (2 : Int))) = true then ((⟨0, 0, false, []⟩ : Vl), 90) else (rb.1, 0))))))) else (if (!decide (rb.2 = (0 : Int))) = true then ((⟨0, 0, false, []⟩ : Vl), rb.2) else (if (HE LW n.op).isSome = true then (((doP n.op ra.1 rb.1).1), (doP n.op ra.1 rb.1).2) else (if (!decide ((rb.1.kind.toNat : Int) = (2 : Int))) = true then ((⟨0, 0, false, []⟩ : Vl), 90) else (rb.1, 0))))) else (if ((decide ((n.op.toNat : Int) = (5 : Int))) || (decide ((n.op.toNat : Int) = (6 : Int)))) = true then (if (!decide ((ra.1.kind.toNat : Int) = (2 : Int))) = true then ((⟨0, 0, false, []⟩ : Vl), 90) else (if (decide ((n.op.toNat : Int) = (3 : Int))) = true then ((⟨2, 0, (!ra.1.bool), []⟩ : Vl), 0) else (if (ra.1.bool == (decide ((n.op.toNat : Int) = (6 : Int)))) = true then (ra.1, 0) else (if (!decide (rb.2 = (0 : Int))) = true then ((⟨0, 0, false, []⟩ : Vl), rb.2) else (if (HE LW n.op).isSome = true then (((doP n.op ra.1 rb.1).1), (doP n.op ra.1 rb.1).2) else (if (!decide ((rb.1.kind.toNat : Int) = (2 : Int))) = true then ((⟨0, 0, false, []⟩ : Vl), 90) else (rb.1, 0))))))) else (if (!decide (rb.2 = (0 : Int))) = true then ((⟨0, 0, false, []⟩ : Vl), rb.2) else (if (HE LW n.op).isSome = true then (((doP n.op ra.1 rb.1).1), (doP n.op ra.1 rb.1).2) else (if (!decide ((rb.1.kind.toNat : Int) = (2 : Int))) = true then ((⟨0, 0, false, []⟩ : Vl), 90) else (rb.1, 0))))))))))
theorem pN (n : Xn) (A : Option Addr) (gr gm : Nat) (V : Option Addr) (vc : Nat) (vars : List Bd) (L : List Xq) (ra rb : Vl × Int) (w : World) (hvl : vars.length ≤ 4611686018427387904) (hok : BdOk vars) (hV : Rd w V (vars.length * 5) (AK Bd.cells vars)) (hb : Blk w gr 274 [.slice V vars.length vc, .func (.func 205) #[] #[], .map (some gm)]) (hm : MpU w gm LW) (hY : Lay0 w) (hR : Rd w A (L.length * 7) (AK Xq.cells L)) (hk1 : ¬ (n.op.toNat : Int) = 1 → ¬ (n.op.toNat : Int) = 2 → 0 < L.length) (hk2 : ¬ (n.op.toNat : Int) = 1 → ¬ (n.op.toNat : Int) = 2 → ¬ (n.op.toNat : Int) = 3 → ¬ (n.op.toNat : Int) = 4 → 1 < L.length) (hSa : ra.2 = 0 → ra.1.text.length ≤ 1048576) (hSb : rb.2 = 0 → rb.1.text.length ≤ 1048576)
 (hT0 : ∀ q, L[0]? = some q → ∀ W, Fr0 w W → Calls prog 221 #[pg gr, .agg (Xq.cells q).toArray] W fun e W' => e = .returned (.tuple #[.agg (Vl.cells ra.1).toArray, .int .i64 ra.2]) ∧ Fr0 W W')
 (hT1 : ∀ q, L[1]? = some q → ∀ W, Fr0 w W → Calls prog 221 #[pg gr, .agg (Xq.cells q).toArray] W fun e W' => e = .returned (.tuple #[.agg (Vl.cells rb.1).toArray, .int .i64 rb.2]) ∧ Fr0 W W') :
 Calls prog 221 #[pg gr, .agg (LH n A L.length).toArray] w fun e w' => e = .returned (.tuple #[.agg (Vl.cells (evW n vars ra rb).1).toArray, .int .i64 (evW n vars ra rb).2]) ∧ Fr0 w w' := by
 have hfb := bW hok n.nm
 refine C2 func221 ntmps221 rfl fun M => srg (DX M (AF rfl) rfl rfl 75 rfl rfl (LH n A L.length) rfl fun g3 w1 hg3 M => D6 M rfl BN fun g4 w2 hg4 M => yb rfl (nq (AD (srg (yb rfl (BA M 1 rfl rfl rfl (AC ?_)))))))
 refine AA (AR (AD (AB (CI rfl rfl (yb rfl (AC (AA (AN rfl (fun h15 => ?_) (fun h15 => ?_)))))))))
 ·exact srg (yb rfl (ya rfl (AT (xs := [.int .u8 (n.vl.kind.toNat : Int), .int .i64 n.vl.int, .bool n.vl.bool, str n.vl.text]) rfl rfl (FU (M.blk 1 rfl) 1 4 rfl rfl) underlying45 rfl AG) (C1 M 0 rfl rfl AG rfl fun w3 M => yb rfl (nq (AI (AM (AE (B8 rfl rfl (M.rdBlk 0 rfl rfl) underlying45 rfl AG rfl ⟨by rw [evW, if_pos h15] <;> rfl, M.fr⟩))))))))
 ·have h15p := (odf h15)
  refine AD (AB (CI rfl rfl (yb rfl (AC (AA (AN rfl (fun h19 => ?_) (fun h19 => ?_)))))))
  ·have h19p := (odt h19)
   refine AD (eJ (fun (g6 : Nat) => [(0, pg gr), (3, pg g3), (4, pg g4), (6, pg g6), (7, .bool ((LN vars n.nm).isSome))]) (fun (g6 : Nat) => fun w' => Mem w AV [As.blk g6 45 (Vl.cells ((LN vars n.nm).getD zeroVl)), As.blk g4 45 [.int .u8 0, .int .i64 0, .bool false, str []], As.blk g3 75 (LH n A L.length)] w') ?_ (fun kr5 => ?_))
   ·intro g6 w4 M
    refine AA (AD (AR (AD (AB (yb rfl (yb rfl (yb rfl (AC (AA (AN rfl (fun h31 => ?_) (fun h31 => ?_)))))))))))
    ·exact srg (ya rfl (B9 (parts := []) rfl rfl (C4)) (C1 M 1 rfl rfl AG rfl fun w5 M => yb rfl (nq (AI (AM (AE (AM (AE (B8 rfl rfl (M.rdBlk 1 rfl rfl) underlying45 rfl AG rfl ⟨by rw [evW, if_neg (AS h15), if_pos h19, if_pos h31] <;> rfl, M.fr⟩)))))))))
    ·have h31p := (BM h31)
     refine AD (AB (CR M 0 rfl rfl underlying45 AG rfl (D1 M 37 rfl rfl call65 (FH ((LN vars n.nm).getD zeroVl) _ AO (hY.fr0 M.fr).utf) fun w6 M => D4 rfl rfl (yb rfl (AC (AA (AN rfl (fun h35 => ?_) (fun h35 => ?_))))))))
     ·exact srg (ya rfl (B9 (parts := []) rfl rfl (C4)) (C1 M 1 rfl rfl AG rfl fun w7 M => yb rfl (nq (AI (AM (AE (AM (AE (B8 rfl rfl (M.rdBlk 1 rfl rfl) underlying45 rfl AG rfl ⟨by rw [evW, if_neg (AS h15), if_pos h19, if_neg (AS h31), if_pos h35] <;> rfl, M.fr⟩)))))))))
     ·refine AL (AH (AA (AD (DN 6 CU gkr ?_))))
      have M := M.drew
      refine sb rfl (sb rfl (sb rfl (sd rfl rfl (Blk.c (hb.fr0 M.fr) 1 rfl) (sb rfl (FK M 2 rfl rfl rfl (CS (O9 M 46 rfl (BV rfl rfl rfl call205) (m4 n.nm _) fun w8 M => nq (srg (CR M 0 rfl rfl underlying45 AG rfl (C1 M 1 rfl rfl AG rfl fun w9 M => yb rfl ?_))))))))))
      exact nq (AI (AM (AE (B8 rfl rfl (M.rdBlk 1 rfl rfl) underlying45 rfl AG rfl ⟨by rw [evW, if_neg (AS h15), if_pos h19, if_neg (AS h31), if_neg (AS h35)] <;> rfl, M.fr⟩))))
   refine CO 12 (fun w' => Mem w AV [As.blk g4 45 [.int .u8 0, .int .i64 0, .bool false, str []], As.blk g3 75 (LH n A L.length)] w') CU ?_
   have M := M.drew
   refine oc 0 12 rfl rfl M (oc 1 12 rfl rfl M (oc 2 12 rfl rfl M (ol 3 12 rfl rfl rfl M (fun _ M => (Blk.c (hb.fr0 M.fr) 0 rfl)) (oc 4 12 rfl rfl M (ol 5 12 rfl rfl rfl M (fun _ M => (M.cell 1 rfl rfl)) (GE (rs := [6, 10]) gkr (by simp) fun iz hiz => ?_))))))
   simp only [List.mem_cons, List.not_mem_nil, or_false] at hiz
   rcases hiz with rfl | rfl
   ·refine IN (some 28) rfl (AF rfl) rfl rfl (AQ rfl rfl call71) (QE V vc vars n.nm _ hvl (hV.fr0 M.fr)) ?_
    rintro _ w10 ⟨rfl, hfw10⟩
    refine ⟨_, rfl, fun _ => M.step hfw10, ?_⟩
    have M := M.step hfw10
    refine oc 7 12 rfl rfl M (oc 8 12 rfl rfl M (oc 9 12 rfl rfl M (B7 10 (some 6) gkr rfl (AF rfl) rfl rfl (fun ρ hρ => CX 45 rfl _ [.int .u8 0, .int .i64 0, .bool false, str []] BN rfl) ?_)))
    rintro _ w11 ⟨g6, rfl, hg6, hq6, hb6, hfw11⟩
    refine ⟨fun _ => M.step hfw11, ?_⟩
    have M := M.push hfw11 _ hb6 (DV hg6 hq6)
    replace M : Mem w AV (As.blk g6 45 [.int .u8 0, .int .i64 0, .bool false, str []] :: _) w11 := M
    exact fop M 11 0 rfl rfl rfl AG rfl (·.drop 1) fun w12 M => fo1 12 rfl rfl (yp rfl) (fdn (kr5 g6 _ _ M ⟨rfl, rfl, rfl, rfl, rfl, trivial⟩))
   ·refine EF (some 6) rfl (AF rfl) rfl rfl (fun ρ hρ => CX 45 rfl _ [.int .u8 0, .int .i64 0, .bool false, str []] BN rfl) ?_
    rintro _ w13 ⟨g6, rfl, hg6, hq6, hb6, hfw13⟩
    refine ⟨fun _ => M.step hfw13, ?_⟩
    have M := M.push hfw13 _ hb6 (DV hg6 hq6)
    replace M : Mem w AV (As.blk g6 45 [.int .u8 0, .int .i64 0, .bool false, str []] :: _) w13 := M
    refine C0 6 (some 28) gkr rfl (AF rfl) rfl rfl (AQ rfl rfl call71) (QE V vc vars n.nm _ hvl (hV.fr0 M.fr)) ?_
    rintro _ w14 ⟨rfl, hfw14⟩
    refine ⟨_, rfl, fun _ => (M.drop 1).step hfw14, ?_⟩
    have M := M.step hfw14
    exact oc 7 12 rfl rfl (M.drop 1) (oc 8 12 rfl rfl (M.drop 1) (oc 9 12 rfl rfl (M.drop 1) (fop M 11 0 rfl rfl rfl AG rfl (·.drop 1) fun w15 M => fo1 12 rfl rfl (yp rfl) (fdn (kr5 g6 _ _ M ⟨rfl, rfl, rfl, rfl, rfl, trivial⟩)))))
  ·have h19p := (odf h19)
   have hL0 := hk1 h15p h19p
   refine AL (AH (AA (srg (yb rfl (yb rfl (BA M 1 rfl rfl rfl ?_))))))
   obtain ⟨x, hx⟩ := CA (l := L) (i := 0) AO
   obtain ⟨b_x, o_x, hA_x⟩ := BI (k := 7) AO (hR.fr0 M.fr) hx
   refine ya rfl (B1 0 hA_x rfl rfl rfl (sl rfl) AO) (ya rfl (AT rfl rfl (BQ Xq.len (hR.fr0 M.fr) hA_x hx) underlying75 rfl AW) (D1 M 54 rfl rfl call221 (hT0 x hx _ M.fr) fun w16 M => yb rfl (yb rfl (yb rfl (D6 M rfl BN fun g8 w17 hg8 M => C1 M 0 rfl rfl AG rfl fun w18 M => yb rfl (nq (AD (srg ?_))))))))
   refine yb rfl (D4 rfl rfl (AC (AA (AN rfl (fun h58 => ?_) (fun h58 => ?_)))))
   ·have haT := hSa
    exact srg (ya rfl (B9 (parts := []) rfl rfl (C4)) (yb rfl (C1 M 1 rfl rfl AG rfl fun w19 M => yb rfl (nq (AI (AE (B8 rfl rfl (M.rdBlk 1 rfl rfl) underlying45 rfl AG rfl ⟨by rw [evW, if_neg (AS h15), if_neg (AS h19), if_pos h58] <;> rfl, M.fr⟩)))))))
   ·have h58p := (odt (BM h58))
    refine AL (AA (AD (srg (yb rfl (BA M 2 rfl rfl rfl (nq (AR (srg (CI rfl rfl (yb rfl (nq ?_)))))))))))
    refine AN rfl (fun h63 => ?_) (fun h63 => ?_)
    ·have h63p := (odt h63)
     exact srg (CR M 0 rfl rfl underlying45 AG rfl (D1 M 66 rfl rfl call242 (kQ ra.1 _ AO (hY.fr0 M.fr)) fun w20 M => yb rfl (yb rfl (C1 M 1 rfl rfl AG rfl fun w21 M => yb rfl (nq (AI (AM (AE (B8 rfl rfl (M.rdBlk 1 rfl rfl) underlying45 rfl AG rfl ⟨by rw [evW, if_neg (AS h15), if_neg (AS h19), if_neg (AS h58), if_pos h63] <;> rfl, M.fr⟩)))))))))
    ·have h63p := (odf h63)
     refine AD (AD (AB (CI rfl rfl (yb rfl (AC (AA (AN rfl (fun h69 => ?_) (fun h69 => ?_))))))))
     ·have h69p := (odt h69)
      refine AL (AA (AN rfl (fun h69b => ?_) (fun h69b => ?_)))
      ·have h69bp := (odt h69b)
       refine AD (AD (AB (yb rfl (BA M 0 rfl rfl rfl (D4 rfl rfl (AC (AA (AN rfl (fun h75 => ?_) (fun h75 => ?_)))))))))
       ·exact srg (ya rfl (B9 (parts := []) rfl rfl (C4)) (C1 M 1 rfl rfl AG rfl fun w22 M => yb rfl (nq (AI (AE (AM (AE (B8 rfl rfl (M.rdBlk 1 rfl rfl) underlying45 rfl AG rfl ⟨by rw [evW, if_neg (AS h15), if_neg (AS h19), if_neg (AS h58), if_neg (AS h63), if_pos h69, if_pos h69b, if_pos h75] <;> rfl, M.fr⟩))))))))
       ·have h75p := (odt (BM h75))
        refine AL (AA (AD (AD (AB (yb rfl (BA M 2 rfl rfl rfl (CI rfl rfl (AC (AA (AN rfl (fun h79 => ?_) (fun h79 => ?_)))))))))))
        ·refine srg (yb rfl (BA M 0 rfl rfl rfl (yb rfl (D1 M 83 rfl rfl call121 (NN (!ra.1.bool) _) fun w23 M => C1 M 1 rfl rfl AG rfl fun w24 M => yb rfl (nq (AI (AE (AM (AE (B8 rfl rfl (M.rdBlk 1 rfl rfl) underlying45 rfl AG rfl ?_))))))))))
         exact ⟨by rw [evW, if_neg (AS h15), if_neg (AS h19), if_neg (AS h58), if_neg (AS h63), if_pos h69, if_pos h69b, if_neg (AS h75), if_pos h79] <;> rfl, M.fr⟩
        ·have h79p := (odf h79)
         refine AL (AA (AD (AB (yb rfl (BA M 0 rfl rfl rfl (yb rfl (BA M 2 rfl rfl rfl (CI rfl rfl (ya rfl (IP rfl rfl rfl underlying4) (AC (AA (AN rfl (fun h89 => ?_) (fun h89 => ?_)))))))))))))
         ·exact srg (CR M 0 rfl rfl underlying45 AG rfl (C1 M 1 rfl rfl AG rfl fun w25 M => yb rfl (nq (AI (AM (AE (B8 rfl rfl (M.rdBlk 1 rfl rfl) underlying45 rfl AG rfl ⟨by rw [evW, if_neg (AS h15), if_neg (AS h19), if_neg (AS h58), if_neg (AS h63), if_pos h69, if_pos h69b, if_neg (AS h75), if_neg (AS h79), if_pos h89] <;> rfl, M.fr⟩)))))))
         ·have hL1 : 1 < L.length := hk2 h15p h19p h79p h63p
          refine AL (AH (AA (srg (yb rfl (yb rfl (BA M 2 rfl rfl rfl ?_))))))
          obtain ⟨y, hy⟩ := CA (l := L) (i := 1) AO
          obtain ⟨b_y, o_y, hA_y⟩ := BI (k := 7) AO (hR.fr0 M.fr) hy
          refine ya rfl (B1 1 hA_y rfl rfl rfl (sl rfl) AO) (ya rfl (AT rfl rfl (BQ Xq.len (hR.fr0 M.fr) hA_y hy) underlying75 rfl AW) (D1 M 97 rfl rfl call221 (hT1 y hy _ M.fr) fun w26 M => yb rfl (yb rfl (yb rfl (D6 M rfl BN fun g10 w27 hg10 M => C1 M 0 rfl rfl AG rfl fun w28 M => yb rfl (nq (AD (srg ?_))))))))
          refine yb rfl (D4 rfl rfl (AC (AA (AN rfl (fun h101 => ?_) (fun h101 => ?_)))))
          ·exact srg (ya rfl (B9 (parts := []) rfl rfl (C4)) (yb rfl (C1 M 2 rfl rfl AG rfl fun w29 M => yb rfl (nq (AI (AE (B8 rfl rfl (M.rdBlk 2 rfl rfl) underlying45 rfl AG rfl ⟨by rw [evW, if_neg (AS h15), if_neg (AS h19), if_neg (AS h58), if_neg (AS h63), if_pos h69, if_pos h69b, if_neg (AS h75), if_neg (AS h79), if_neg (AS h89), if_pos h101] <;> rfl, M.fr⟩)))))))
          ·have h101p := (odt (BM h101))
           refine AL (AA (AD (EU CU gkr ?_)))
           have M := M.drew
           refine sb rfl (sb rfl (sb rfl (sd rfl rfl (Blk.c (hb.fr0 M.fr) 2 rfl) (sb rfl (FK M 3 rfl rfl rfl (sa rfl (K7 rfl rfl rfl underlying271 underlying5 J8 (hm.fr0 M.fr)) ?_))))))
           iterate 5 refine sb rfl ?_
           refine FR (AA (AD (AR (AD (AB (yb rfl (yb rfl (AC (AA (AN rfl (fun h114 => ?_) (fun h114 => ?_)))))))))))
           ·refine srg (yb rfl (CR M 1 rfl rfl underlying45 AG rfl (CR M 0 rfl rfl underlying45 AG rfl ?_)))
            obtain ⟨fd, hfv, hfn, hfc⟩ := ZH n.op h114
            have haT := hSa (by simpa using h58p)
            have hbT := hSb (by simpa using h101p)
            exact O9 M 119 rfl (BV rfl (congrArg some hfv) rfl hfn) (hfc ra.1 rb.1 _ haT hbT (hY.fr0 M.fr)) fun w30 M => yb rfl (yb rfl (C1 M 2 rfl rfl AG rfl fun w31 M => yb rfl (nq (AI (AM (AE (B8 rfl rfl (M.rdBlk 2 rfl rfl) underlying45 rfl AG rfl ⟨by rw [evW, if_neg (AS h15), if_neg (AS h19), if_neg (AS h58), if_neg (AS h63), if_pos h69, if_pos h69b, if_neg (AS h75), if_neg (AS h79), if_neg (AS h89), if_neg (AS h101), if_pos h114] <;> rfl, M.fr⟩)))))))
           ·refine AD (AB (yb rfl (BA M 0 rfl rfl rfl (D4 rfl rfl (yb rfl (AC (AA (AN rfl (fun h122 => ?_) (fun h122 => ?_)))))))))
            ·exact srg (ya rfl (B9 (parts := []) rfl rfl (C4)) (C1 M 2 rfl rfl AG rfl fun w32 M => yb rfl (nq (AI (AM (AE (B8 rfl rfl (M.rdBlk 2 rfl rfl) underlying45 rfl AG rfl ⟨by rw [evW, if_neg (AS h15), if_neg (AS h19), if_neg (AS h58), if_neg (AS h63), if_pos h69, if_pos h69b, if_neg (AS h75), if_neg (AS h79), if_neg (AS h89), if_neg (AS h101), if_neg (AS h114), if_pos h122] <;> rfl, M.fr⟩)))))))
            ·exact AL (AH (AA (srg (CR M 0 rfl rfl underlying45 AG rfl (C1 M 2 rfl rfl AG rfl fun w33 M => yb rfl (nq (AI (B8 rfl rfl (M.rdBlk 2 rfl rfl) underlying45 rfl AG rfl ⟨by rw [evW, if_neg (AS h15), if_neg (AS h19), if_neg (AS h58), if_neg (AS h63), if_pos h69, if_pos h69b, if_neg (AS h75), if_neg (AS h79), if_neg (AS h89), if_neg (AS h101), if_neg (AS h114), if_neg (AS h122)] <;> rfl, M.fr⟩))))))))
      ·have h69bp := (odf h69b)
       have hL1 : 1 < L.length := by rw [h69b] at h69; cases h69
       refine AL (AH (AA (srg (yb rfl (yb rfl (BA M 2 rfl rfl rfl ?_))))))
       obtain ⟨y, hy⟩ := CA (l := L) (i := 1) AO
       obtain ⟨b_y, o_y, hA_y⟩ := BI (k := 7) AO (hR.fr0 M.fr) hy
       refine ya rfl (B1 1 hA_y rfl rfl rfl (sl rfl) AO) (ya rfl (AT rfl rfl (BQ Xq.len (hR.fr0 M.fr) hA_y hy) underlying75 rfl AW) (D1 M 97 rfl rfl call221 (hT1 y hy _ M.fr) fun w34 M => yb rfl (yb rfl (yb rfl (D6 M rfl BN fun g10 w35 hg10 M => C1 M 0 rfl rfl AG rfl fun w36 M => yb rfl (nq (AD (srg ?_))))))))
       refine yb rfl (D4 rfl rfl (AC (AA (AN rfl (fun h101 => ?_) (fun h101 => ?_)))))
       ·exact srg (ya rfl (B9 (parts := []) rfl rfl (C4)) (yb rfl (C1 M 2 rfl rfl AG rfl fun w37 M => yb rfl (nq (AI (AE (B8 rfl rfl (M.rdBlk 2 rfl rfl) underlying45 rfl AG rfl ⟨by rw [evW, if_neg (AS h15), if_neg (AS h19), if_neg (AS h58), if_neg (AS h63), if_pos h69, if_neg (AS h69b), if_pos h101] <;> rfl, M.fr⟩)))))))
       ·have h101p := (odt (BM h101))
        refine AL (AA (AD (EU CU gkr ?_)))
        have M := M.drew
        refine sb rfl (sb rfl (sb rfl (sd rfl rfl (Blk.c (hb.fr0 M.fr) 2 rfl) (sb rfl (FK M 3 rfl rfl rfl (sa rfl (K7 rfl rfl rfl underlying271 underlying5 J8 (hm.fr0 M.fr)) ?_))))))
        iterate 5 refine sb rfl ?_
        refine FR (AA (AD (AR (AD (AB (yb rfl (yb rfl (AC (AA (AN rfl (fun h114 => ?_) (fun h114 => ?_)))))))))))
        ·refine srg (yb rfl (CR M 1 rfl rfl underlying45 AG rfl (CR M 0 rfl rfl underlying45 AG rfl ?_)))
         obtain ⟨fd, hfv, hfn, hfc⟩ := ZH n.op h114
         have haT := hSa (by simpa using h58p)
         have hbT := hSb (by simpa using h101p)
         exact O9 M 119 rfl (BV rfl (congrArg some hfv) rfl hfn) (hfc ra.1 rb.1 _ haT hbT (hY.fr0 M.fr)) fun w38 M => yb rfl (yb rfl (C1 M 2 rfl rfl AG rfl fun w39 M => yb rfl (nq (AI (AM (AE (B8 rfl rfl (M.rdBlk 2 rfl rfl) underlying45 rfl AG rfl ⟨by rw [evW, if_neg (AS h15), if_neg (AS h19), if_neg (AS h58), if_neg (AS h63), if_pos h69, if_neg (AS h69b), if_neg (AS h101), if_pos h114] <;> rfl, M.fr⟩)))))))
        ·refine AD (AB (yb rfl (BA M 0 rfl rfl rfl (D4 rfl rfl (yb rfl (AC (AA (AN rfl (fun h122 => ?_) (fun h122 => ?_)))))))))
         ·exact srg (ya rfl (B9 (parts := []) rfl rfl (C4)) (C1 M 2 rfl rfl AG rfl fun w40 M => yb rfl (nq (AI (AM (AE (B8 rfl rfl (M.rdBlk 2 rfl rfl) underlying45 rfl AG rfl ⟨by rw [evW, if_neg (AS h15), if_neg (AS h19), if_neg (AS h58), if_neg (AS h63), if_pos h69, if_neg (AS h69b), if_neg (AS h101), if_neg (AS h114), if_pos h122] <;> rfl, M.fr⟩)))))))
         ·exact AL (AH (AA (srg (CR M 0 rfl rfl underlying45 AG rfl (C1 M 2 rfl rfl AG rfl fun w41 M => yb rfl (nq (AI (B8 rfl rfl (M.rdBlk 2 rfl rfl) underlying45 rfl AG rfl ⟨by rw [evW, if_neg (AS h15), if_neg (AS h19), if_neg (AS h58), if_neg (AS h63), if_pos h69, if_neg (AS h69b), if_neg (AS h101), if_neg (AS h114), if_neg (AS h122)] <;> rfl, M.fr⟩))))))))
     ·have h69p := (odf h69)
      refine AD (AB (CI rfl rfl (yb rfl (AC (AA (IK [(0, pg gr), (3, pg g3), (4, pg g4), (8, pg g8), (69, .bool ((decide ((n.op.toNat : Int) = (5 : Int))) || (decide ((n.op.toNat : Int) = (6 : Int)))))] (fun w' => Mem w AV [As.blk g8 45 (Vl.cells ra.1), As.blk g4 45 [.int .u8 0, .int .i64 0, .bool false, str []], As.blk g3 75 (LH n A L.length)] w') ?_ (fun k69 => ?_)))))))
      ·intro w42 M
       refine AA (AN rfl (fun h69b => ?_) (fun h69b => ?_))
       ·have h69bp := ((EJ h69b).imp (fun z => (odt z)) (fun z => (odt z)))
        refine AD (AD (AB (yb rfl (BA M 0 rfl rfl rfl (D4 rfl rfl (AC (AA (AN rfl (fun h75 => ?_) (fun h75 => ?_)))))))))
        ·exact srg (ya rfl (B9 (parts := []) rfl rfl (C4)) (C1 M 1 rfl rfl AG rfl fun w43 M => yb rfl (nq (AI (AE (AM (AE (B8 rfl rfl (M.rdBlk 1 rfl rfl) underlying45 rfl AG rfl ⟨by rw [evW, if_neg (AS h15), if_neg (AS h19), if_neg (AS h58), if_neg (AS h63), if_neg (AS h69), if_pos h69b, if_pos h75] <;> rfl, M.fr⟩))))))))
        ·have h75p := (odt (BM h75))
         refine AL (AA (AD (AD (AB (yb rfl (BA M 2 rfl rfl rfl (CI rfl rfl (AC (AA (AN rfl (fun h79 => ?_) (fun h79 => ?_)))))))))))
         ·refine srg (yb rfl (BA M 0 rfl rfl rfl (yb rfl (D1 M 83 rfl rfl call121 (NN (!ra.1.bool) _) fun w44 M => C1 M 1 rfl rfl AG rfl fun w45 M => yb rfl (nq (AI (AE (AM (AE (B8 rfl rfl (M.rdBlk 1 rfl rfl) underlying45 rfl AG rfl ?_))))))))))
          exact ⟨by rw [evW, if_neg (AS h15), if_neg (AS h19), if_neg (AS h58), if_neg (AS h63), if_neg (AS h69), if_pos h69b, if_neg (AS h75), if_pos h79] <;> rfl, M.fr⟩
         ·have h79p := (odf h79)
          refine AL (AA (AD (AB (yb rfl (BA M 0 rfl rfl rfl (yb rfl (BA M 2 rfl rfl rfl (CI rfl rfl (ya rfl (IP rfl rfl rfl underlying4) (AC (AA (AN rfl (fun h89 => ?_) (fun h89 => ?_)))))))))))))
          ·exact srg (CR M 0 rfl rfl underlying45 AG rfl (C1 M 1 rfl rfl AG rfl fun w46 M => yb rfl (nq (AI (AM (AE (B8 rfl rfl (M.rdBlk 1 rfl rfl) underlying45 rfl AG rfl ⟨by rw [evW, if_neg (AS h15), if_neg (AS h19), if_neg (AS h58), if_neg (AS h63), if_neg (AS h69), if_pos h69b, if_neg (AS h75), if_neg (AS h79), if_pos h89] <;> rfl, M.fr⟩)))))))
          ·have hL1 : 1 < L.length := hk2 h15p h19p h79p h63p
           refine AL (AH (AA (srg (yb rfl (yb rfl (BA M 2 rfl rfl rfl ?_))))))
           obtain ⟨y, hy⟩ := CA (l := L) (i := 1) AO
           obtain ⟨b_y, o_y, hA_y⟩ := BI (k := 7) AO (hR.fr0 M.fr) hy
           refine ya rfl (B1 1 hA_y rfl rfl rfl (sl rfl) AO) (ya rfl (AT rfl rfl (BQ Xq.len (hR.fr0 M.fr) hA_y hy) underlying75 rfl AW) (D1 M 97 rfl rfl call221 (hT1 y hy _ M.fr) fun w47 M => yb rfl (yb rfl (yb rfl (D6 M rfl BN fun g10 w48 hg10 M => C1 M 0 rfl rfl AG rfl fun w49 M => yb rfl (nq (AD (srg ?_))))))))
           refine yb rfl (D4 rfl rfl (AC (AA (AN rfl (fun h101 => ?_) (fun h101 => ?_)))))
           ·exact srg (ya rfl (B9 (parts := []) rfl rfl (C4)) (yb rfl (C1 M 2 rfl rfl AG rfl fun w50 M => yb rfl (nq (AI (AE (B8 rfl rfl (M.rdBlk 2 rfl rfl) underlying45 rfl AG rfl ⟨by rw [evW, if_neg (AS h15), if_neg (AS h19), if_neg (AS h58), if_neg (AS h63), if_neg (AS h69), if_pos h69b, if_neg (AS h75), if_neg (AS h79), if_neg (AS h89), if_pos h101] <;> rfl, M.fr⟩)))))))
           ·have h101p := (odt (BM h101))
            refine AL (AA (AD (EU CU gkr ?_)))
            have M := M.drew
            refine sb rfl (sb rfl (sb rfl (sd rfl rfl (Blk.c (hb.fr0 M.fr) 2 rfl) (sb rfl (FK M 3 rfl rfl rfl (sa rfl (K7 rfl rfl rfl underlying271 underlying5 J8 (hm.fr0 M.fr)) ?_))))))
            iterate 5 refine sb rfl ?_
            refine FR (AA (AD (AR (AD (AB (yb rfl (yb rfl (AC (AA (AN rfl (fun h114 => ?_) (fun h114 => ?_)))))))))))
            ·refine srg (yb rfl (CR M 1 rfl rfl underlying45 AG rfl (CR M 0 rfl rfl underlying45 AG rfl ?_)))
             obtain ⟨fd, hfv, hfn, hfc⟩ := ZH n.op h114
             have haT := hSa (by simpa using h58p)
             have hbT := hSb (by simpa using h101p)
             exact O9 M 119 rfl (BV rfl (congrArg some hfv) rfl hfn) (hfc ra.1 rb.1 _ haT hbT (hY.fr0 M.fr)) fun w51 M => yb rfl (yb rfl (C1 M 2 rfl rfl AG rfl fun w52 M => yb rfl (nq (AI (AM (AE (B8 rfl rfl (M.rdBlk 2 rfl rfl) underlying45 rfl AG rfl ⟨by rw [evW, if_neg (AS h15), if_neg (AS h19), if_neg (AS h58), if_neg (AS h63), if_neg (AS h69), if_pos h69b, if_neg (AS h75), if_neg (AS h79), if_neg (AS h89), if_neg (AS h101), if_pos h114] <;> rfl, M.fr⟩)))))))
            ·refine AD (AB (yb rfl (BA M 0 rfl rfl rfl (D4 rfl rfl (yb rfl (AC (AA (AN rfl (fun h122 => ?_) (fun h122 => ?_)))))))))
             ·exact srg (ya rfl (B9 (parts := []) rfl rfl (C4)) (C1 M 2 rfl rfl AG rfl fun w53 M => yb rfl (nq (AI (AM (AE (B8 rfl rfl (M.rdBlk 2 rfl rfl) underlying45 rfl AG rfl ⟨by rw [evW, if_neg (AS h15), if_neg (AS h19), if_neg (AS h58), if_neg (AS h63), if_neg (AS h69), if_pos h69b, if_neg (AS h75), if_neg (AS h79), if_neg (AS h89), if_neg (AS h101), if_neg (AS h114), if_pos h122] <;> rfl, M.fr⟩)))))))
             ·exact AL (AH (AA (srg (CR M 0 rfl rfl underlying45 AG rfl (C1 M 2 rfl rfl AG rfl fun w54 M => yb rfl (nq (AI (B8 rfl rfl (M.rdBlk 2 rfl rfl) underlying45 rfl AG rfl ⟨by rw [evW, if_neg (AS h15), if_neg (AS h19), if_neg (AS h58), if_neg (AS h63), if_neg (AS h69), if_pos h69b, if_neg (AS h75), if_neg (AS h79), if_neg (AS h89), if_neg (AS h101), if_neg (AS h114), if_neg (AS h122)] <;> rfl, M.fr⟩))))))))
       ·have h69bp := (And.intro (odf (CL h69b).1) (odf (CL h69b).2))
        have hL1 : 1 < L.length := hk2 h15p h19p h69p h63p
        refine AL (AH (AA (srg (yb rfl (yb rfl (BA M 2 rfl rfl rfl ?_))))))
        obtain ⟨y, hy⟩ := CA (l := L) (i := 1) AO
        obtain ⟨b_y, o_y, hA_y⟩ := BI (k := 7) AO (hR.fr0 M.fr) hy
        refine ya rfl (B1 1 hA_y rfl rfl rfl (sl rfl) AO) (ya rfl (AT rfl rfl (BQ Xq.len (hR.fr0 M.fr) hA_y hy) underlying75 rfl AW) (D1 M 97 rfl rfl call221 (hT1 y hy _ M.fr) fun w55 M => yb rfl (yb rfl (yb rfl (D6 M rfl BN fun g10 w56 hg10 M => C1 M 0 rfl rfl AG rfl fun w57 M => yb rfl (nq (AD (srg ?_))))))))
        refine yb rfl (D4 rfl rfl (AC (AA (AN rfl (fun h101 => ?_) (fun h101 => ?_)))))
        ·exact srg (ya rfl (B9 (parts := []) rfl rfl (C4)) (yb rfl (C1 M 2 rfl rfl AG rfl fun w58 M => yb rfl (nq (AI (AE (B8 rfl rfl (M.rdBlk 2 rfl rfl) underlying45 rfl AG rfl ⟨by rw [evW, if_neg (AS h15), if_neg (AS h19), if_neg (AS h58), if_neg (AS h63), if_neg (AS h69), if_neg (AS h69b), if_pos h101] <;> rfl, M.fr⟩)))))))
        ·have h101p := (odt (BM h101))
         refine AL (AA (AD (EU CU gkr ?_)))
         have M := M.drew
         refine sb rfl (sb rfl (sb rfl (sd rfl rfl (Blk.c (hb.fr0 M.fr) 2 rfl) (sb rfl (FK M 3 rfl rfl rfl (sa rfl (K7 rfl rfl rfl underlying271 underlying5 J8 (hm.fr0 M.fr)) ?_))))))
         iterate 5 refine sb rfl ?_
         refine FR (AA (AD (AR (AD (AB (yb rfl (yb rfl (AC (AA (AN rfl (fun h114 => ?_) (fun h114 => ?_)))))))))))
         ·refine srg (yb rfl (CR M 1 rfl rfl underlying45 AG rfl (CR M 0 rfl rfl underlying45 AG rfl ?_)))
          obtain ⟨fd, hfv, hfn, hfc⟩ := ZH n.op h114
          have haT := hSa (by simpa using h58p)
          have hbT := hSb (by simpa using h101p)
          exact O9 M 119 rfl (BV rfl (congrArg some hfv) rfl hfn) (hfc ra.1 rb.1 _ haT hbT (hY.fr0 M.fr)) fun w59 M => yb rfl (yb rfl (C1 M 2 rfl rfl AG rfl fun w60 M => yb rfl (nq (AI (AM (AE (B8 rfl rfl (M.rdBlk 2 rfl rfl) underlying45 rfl AG rfl ⟨by rw [evW, if_neg (AS h15), if_neg (AS h19), if_neg (AS h58), if_neg (AS h63), if_neg (AS h69), if_neg (AS h69b), if_neg (AS h101), if_pos h114] <;> rfl, M.fr⟩)))))))
         ·refine AD (AB (yb rfl (BA M 0 rfl rfl rfl (D4 rfl rfl (yb rfl (AC (AA (AN rfl (fun h122 => ?_) (fun h122 => ?_)))))))))
          ·exact srg (ya rfl (B9 (parts := []) rfl rfl (C4)) (C1 M 2 rfl rfl AG rfl fun w61 M => yb rfl (nq (AI (AM (AE (B8 rfl rfl (M.rdBlk 2 rfl rfl) underlying45 rfl AG rfl ⟨by rw [evW, if_neg (AS h15), if_neg (AS h19), if_neg (AS h58), if_neg (AS h63), if_neg (AS h69), if_neg (AS h69b), if_neg (AS h101), if_neg (AS h114), if_pos h122] <;> rfl, M.fr⟩)))))))
          ·exact AL (AH (AA (srg (CR M 0 rfl rfl underlying45 AG rfl (C1 M 2 rfl rfl AG rfl fun w62 M => yb rfl (nq (AI (B8 rfl rfl (M.rdBlk 2 rfl rfl) underlying45 rfl AG rfl ⟨by rw [evW, if_neg (AS h15), if_neg (AS h19), if_neg (AS h58), if_neg (AS h63), if_neg (AS h69), if_neg (AS h69b), if_neg (AS h101), if_neg (AS h114), if_neg (AS h122)] <;> rfl, M.fr⟩))))))))
      refine AN rfl (fun h69b => ?_) (fun h69b => ?_)
      ·exact AL (k69 _ _ M ⟨rfl, rfl, rfl, rfl, (by rw [h69b]; rfl), trivial⟩)
      ·exact AB (CI rfl rfl (yb rfl (AC (k69 _ _ M ⟨rfl, rfl, rfl, rfl, (by rw [h69b]; rfl), trivial⟩))))
end Go.Proofs.YtjaocmocdhckaaaGreatDoor
