/- Lemmas that the last text rests on. Condition: each says its own. -/
import Derived.Test.YtadgfojhjnkliaaGreatDoorZMv7
set_option maxHeartbeats 16000000
set_option maxRecDepth 100000
namespace Go.Proofs.YtadgfojhjnkliaaGreatDoor
open Go.RowKit
open Tryz
theorem WL {m : Md} (l : List (List UInt8)) : (l.flatMap (CS m)).length ≤ l.length * m.els.length := by
 induction l with
 | nil => simp
 | cons a r ih =>
  have := EH m a
  rw [List.flatMap_cons, List.length_append, List.length_cons, Nat.succ_mul]; omega
theorem cC {m : Md} {w : World} {gc : Nat} {c : CrA} {F : List Nat} (ho : MdOk m) (hC : CourseN w m gc c F) (t : Tk) : (DI m c t).length ≤ 20000 := by
 have h1 : (d6 c t).length ≤ 400 := by
  have := hC.lenO t.loc
  have := ho.nfls
  unfold d6
  repeat' split
  all_goals first
   | (rw [List.length_map]; omega)
   | simp
 have h2 := WL (m := m) ([t.loc] ++ AO m.els t.loc)
 have h3 := KG m.els t.loc
 have h4 : ([t.loc] ++ AO m.els t.loc).length ≤ 65 := by rw [List.length_append, List.length_cons, List.length_nil]; omega
 have h5 := Nat.mul_le_mul h4 ho.nels
 unfold DI
 split
 ·simp
 ·rw [List.length_append]; omega
def NB (c : CrA) (t : Tk) (vars : List Bd) : List (List UInt8) → Option Int
 | [] => none
 | k :: r => if (!decide ((DL c k t.born vars).2 = (0 : Int))) = true then some (DL c k t.born vars).2 else NB c t vars r
def BS (m : Md) (c : CrA) (t : Tk) (vars : List Bd) : List Wt × Int :=
 if (!(HE m c t)) = true then ([], 1)
 else match NB c t vars (DI m c t) with
  | some e => ([], e)
  | none => ((DI m c t).map (fun k => (DL c k t.born vars).1), 0)
theorem S7 : (prog.info? 39).map (fun i => (i.zero, i.size, i.bytes)) = some (some (.agg #[str [], .int .u8 0, str [], str [], .int .i64 0]), 5, 64) := by kernel_rfl
theorem UJ : (prog.info? 39).map (fun i => (i.zero, i.size)) = some (some (.agg #[str [], .int .u8 0, str [], str [], .int .i64 0]), 5) := by kernel_rfl
theorem VD (m : Md) (gc : Nat) (c : CrA) (F : List Nat) (t : Tk) (V : Option Addr) (cv : Nat) (vars : List Bd) (w : World) (ho : MdOk m) (hC : CourseN w m gc c F) (hvl : vars.length ≤ 4611686018427387904) (hV : Rd w V (vars.length * 5) (AR Bd.cells vars)) :
 Calls prog 7 #[pg gc, .slice V vars.length cv, .agg t.cells.toArray] w fun e w' => ∃ A c', e = .returned (.tuple #[.slice A (BS m c t vars).1.length c', .int .i64 (BS m c t vars).2]) ∧ w'.ownsRow w.heap.size 39 5 (.slice A (BS m c t vars).1.length c') (BS m c t vars).1.length (AR Wt.cells (BS m c t vars).1) ∧ Fr0 w w' := by
 have hvL := cC ho hC t
 refine AK (vs := [_, _, _]) func7 rfl ntmps7 rfl ?_
 have M := CK w
 refine A4 (A0 (BD M (A9 rfl) rfl rfl 29 rfl rfl (Tk.cells t) rfl fun g5 w1 hg5 M => yb rfl (yb rfl (A1 (A2 (A4 (A4 (A0 (yb rfl (ya rfl (LZ rfl rfl rfl (pt rfl)) (A1 (A2 (DB rfl ?_)))))))))))))
 refine AL (A2 (A4 (A4 (A0 (yb rfl (ya rfl (AN (xs := Tk.cells t) rfl rfl (M.rdBlk 0 rfl rfl) underlying29 rfl C7) (cp M 17 rfl (AF rfl rfl call17) (iG m gc c F t _ ho (hC.fr0 M.fr)) fun w2 M => yb rfl (A1 (A2 (AQ (b := (!(HE m c t))) rfl (fun h18 => ?_) (fun h18 => ?_)))))))))))
 ·have h18p := (C1 h18)
  refine A4 (A0 (yb rfl (yb rfl (A1 (A2 (AD (AA (BY rfl rfl rfl ?_))))))))
  have hwp : BS m c t vars = ([], 1) := if_pos h18
  rw [hwp]
  exact ⟨none, 0, rfl, World.ownsRow_nil _ _ _ _, M.fr⟩
 ·have h18p := (C3 h18)
  refine AL (A2 (A4 (A0 (yb rfl (A1 (A2 (A4 (A4 (A0 (yb rfl (ya rfl (AN (xs := Tk.cells t) rfl rfl (M.rdBlk 0 rfl rfl) underlying29 rfl C7) (cl 21 rfl (AF rfl rfl call18) (m6 m gc c F t _ ho (hC.fr0 M.fr)) ?_))))))))))))
  rintro _ w3 ⟨A21, c21, rfl, how3, hfw3⟩
  refine ⟨_, rfl, ?_⟩
  have M := M.pushOwn hfw3 (Nat.le_refl _) how3
  have hL21 := M.ownLen 0 rfl
  refine ya rfl (CY rfl rfl (sl rfl)) (yb rfl (A1 (A2 (AV ?_))))
  have M := M.nilOwn 39 5
  refine CM (fun e wr mz => ∃ (i : Nat) (acc : List Wt) (A8 : Option Addr) (c8 : Nat), e = [(0, pg gc), (1, .slice V vars.length cv), (5, pg g5), (8, .slice A8 acc.length c8), (21, .slice A21 ((DI m c t).length) c21), (22, .int .i64 (((DI m c t).length : Nat) : Int)), (23, .int .i64 ((i : Nat) : Int))] ∧ Mem w AB [As.own w.heap.size 39 5 (.slice A8 acc.length c8) acc.length (AR Wt.cells acc), As.own w.heap.size 9 1 (.slice A21 (DI m c t).length c21) ((DI m c t).length) (AR C4 (DI m c t)), As.blk g5 29 (Tk.cells t)] wr ∧ (i ≤ (DI m c t).length) ∧ (acc = ((DI m c t).take i).map (fun k => (DL c k t.born vars).1) ∧ acc.length = i) ∧ (NB c t vars (DI m c t) = NB c t vars ((DI m c t).drop i)) ∧ mz = (DI m c t).length - i) ⟨0, [], none, 0, rfl, M, Nat.zero_le _, ⟨rfl, rfl⟩, rfl, rfl⟩ ⟨rfl, rfl, rfl, rfl, rfl, rfl, rfl, trivial⟩ ?_
  rintro _ w4 _ ⟨i, acc, A8, c8, rfl, M, hi, hacc, hE, rfl⟩
  refine A4 (A0 (ya rfl (CH rfl rfl rfl) (A1 (A2 (A4 (AQ (b := (decide (((i : Nat) : Int) < (((DI m c t).length : Nat) : Int)))) rfl (fun h24 => ?_) (fun h24 => ?_)))))))
  ·have h24p := (odt h24)
   refine AL (A2 (A4 (AV (A4 (A0 ?_)))))
   obtain ⟨k, hk⟩ := DY (l := (DI m c t)) (i := i) (by omega)
   obtain ⟨b_k, o_k, hA_k⟩ := CL (k := 1) (by omega) (M.rdOwn 1 rfl) hk
   refine ya rfl (BW i hA_k rfl rfl rfl (sl rfl) (by omega)) (yl rfl rfl (G1 FW (M.rdOwn 1 rfl) hA_k hk 0 rfl) (yb rfl (A1 (A2 (A4 (A0 (yb rfl (yb rfl (yb rfl (yl rfl rfl (M.cell 2 rfl rfl) (yb rfl (cp M 33 rfl (AF rfl rfl call19) (lZ m gc c F k t.born V cv vars _ (hC.fr0 M.fr) hvl (hV.fr0 M.fr)) fun w5 M => yb rfl (yb rfl (yb rfl ?_))))))))))))))
   refine BI M (A9 rfl) rfl rfl 39 rfl [str [], .int .u8 0, str [], str [], .int .i64 0] JX rfl fun g11 w6 hg11 M => B5 (cs' := (Wt.cells ((DL c k t.born vars).1))) M 0 (A9 rfl) rfl rfl rfl rfl rfl CJ rfl (AP rfl) (AW rfl) rfl fun w7 M => yb rfl (A1 (A2 (A4 (A4 (A0 (yb rfl (ya rfl (CX rfl rfl rfl) (A1 (A2 (AQ (b := (!decide ((DL c k t.born vars).2 = (0 : Int)))) rfl (fun h37 => ?_) (fun h37 => ?_)))))))))))
   ·have h37p := (odf (C1 h37))
    refine A4 (A0 (yb rfl (yb rfl (yb rfl (A1 (A2 (AD (AA (AJ (AA (AA (AJ (AA (BY rfl rfl rfl ?_))))))))))))))
    have hwp : BS m c t vars = ([], (DL c k t.born vars).2) := by rw [BS, if_neg (BA h18), hE, BG hk, NB, if_pos h37]
    rw [hwp]
    exact ⟨none, 0, rfl, World.ownsRow_nil _ _ _ _, M.fr⟩
   ·have h37p := (odt (C3 h37))
    refine AL (A2 (A0 (yb rfl (ya rfl (AN (xs := Wt.cells ((DL c k t.born vars).1)) rfl rfl (M.rdBlk 0 rfl rfl) underlying39 rfl CJ) (F1 M (A9 rfl) rfl rfl [.agg (Wt.cells ((DL c k t.born vars).1)).toArray] (Wt.cells ((DL c k t.born vars).1)) rfl rfl rfl rfl underlying35 UJ rfl rfl (JL rfl) rfl fun g41 w8 hg41 M => EQ (len' := (acc ++ [((DL c k t.born vars).1)]).length) (xs' := AR Wt.cells (acc ++ [((DL c k t.born vars).1)])) M 2 (A9 rfl) rfl rfl rfl rfl rfl rfl (M.rdBlk 0 rfl rfl) underlying35 S7 rfl (by decide) (AW rfl) (Nat.le_refl _) (Nat.le_refl _) (by first | omega | (simp <;> omega)) (by unfold maxLen; first | omega | (simp only [List.length_append, List.length_cons, List.length_nil]; omega)) (by simp) (by first | exact (D3 _ _ _).symm | simp [AR]) fun A42 c42 w9 M => yb rfl (A1 (AC (A2 (A0 (ya rfl (CQ rfl rfl rfl (by omega)) (yb rfl ?_)))))))))))
    refine A1 (BM [(0, pg gc), (1, .slice V vars.length cv), (5, pg g5), (8, .slice A42 (acc ++ [((DL c k t.born vars).1)]).length c42), (21, .slice A21 ((DI m c t).length) c21), (22, .int .i64 (((DI m c t).length : Nat) : Int)), (23, .int .i64 (((i + 1) : Nat) : Int))] ((DI m c t).length - (i + 1)) ⟨i + 1, acc ++ [((DL c k t.born vars).1)], A42, c42, rfl, (M.pk [2, 3, 4]), ?_, ?_, ?_, rfl⟩ (by first | omega | (simp <;> omega)) ⟨rfl, rfl, rfl, rfl, rfl, rfl, rfl, trivial⟩)
    ·omega
    ·exact ⟨by rw [hacc.1, BH hk, List.map_append]; rfl, by rw [List.length_append, hacc.2]; rfl⟩
    ·rw [hE, BG hk, NB, if_neg (BA h37)]
  ·have h24p := (odf h24)
   refine CD (AI (AI ?_))
   have hiE : i = (DI m c t).length := by omega
   have hac := hacc.1
   rw [hiE, List.take_length] at hac
   have hLe : NB c t vars (DI m c t) = none := by rw [hE, hiE, List.drop_length]; rfl
   refine BB (A2 (A4 (A0 (yb rfl (yb rfl (yb rfl (A1 (A2 (AD (BY rfl rfl rfl ?_))))))))))
   have hwp : BS m c t vars = (acc, 0) := by rw [BS, if_neg (BA h18), hLe, hac]
   rw [hwp]
   exact ⟨_, _, rfl, M.own 0 rfl, M.fr⟩
end Go.Proofs.YtadgfojhjnkliaaGreatDoor
