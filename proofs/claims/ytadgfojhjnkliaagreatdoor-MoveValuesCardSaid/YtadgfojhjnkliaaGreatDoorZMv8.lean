/- What a token waits for (move.Waits): printed by gw/mv8.py. Condition: none. -/
import Derived.Test.YtadgfojhjnkliaaGreatDoorZMv7
set_option maxHeartbeats 16000000
set_option maxRecDepth 100000
namespace Go.Proofs.YtadgfojhjnkliaaGreatDoor
open Go.RowKit
theorem WJ {m : Md} (l : List (List UInt8)) : (l.flatMap (CS m)).length ≤ l.length * m.els.length := by
 induction l with
 | nil => simp
 | cons a r ih =>
  have := EH m a
  rw [List.flatMap_cons, List.length_append, List.length_cons, Nat.succ_mul]; omega
theorem cA {m : Md} {w : World} {gc : Nat} {c : CrA} {F : List Nat} (ho : MdOk m) (hC : CourseN w m gc c F) (t : Tk) : (DI m c t).length ≤ 20000 := by
 have h1 : (cY c t).length ≤ 400 := by
  have := hC.lenO t.loc
  have := ho.nfls
  unfold cY
  repeat' split
  all_goals first
   | (rw [List.length_map]; omega)
   | simp
 have h2 := WJ (m := m) ([t.loc] ++ AP m.els t.loc)
 have h3 := KF m.els t.loc
 have h4 : ([t.loc] ++ AP m.els t.loc).length ≤ 65 := by rw [List.length_append, List.length_cons, List.length_nil]; omega
 have h5 := Nat.mul_le_mul h4 ho.nels
 unfold DI
 split
 ·simp
 ·rw [List.length_append]; omega
def N9 (c : CrA) (t : Tk) (vars : List Bd) : List (List UInt8) → Option Int
 | [] => none
 | k :: r => if (!decide ((DL c k t.born vars).2 = (0 : Int))) = true then some (DL c k t.born vars).2 else N9 c t vars r
def BV (m : Md) (c : CrA) (t : Tk) (vars : List Bd) : List Wt × Int :=
 if (!(HE m c t)) = true then ([], 1)
 else match N9 c t vars (DI m c t) with
  | some e => ([], e)
  | none => ((DI m c t).map (fun k => (DL c k t.born vars).1), 0)
theorem S6 : (Tryz.prog.info? 39).map (fun i => (i.zero, i.size, i.bytes)) = some (some (.agg #[str [], .int .u8 0, str [], str [], .int .i64 0]), 5, 64) := by kernel_rfl
theorem UH : (Tryz.prog.info? 39).map (fun i => (i.zero, i.size)) = some (some (.agg #[str [], .int .u8 0, str [], str [], .int .i64 0]), 5) := by kernel_rfl
theorem VB (m : Md) (gc : Nat) (c : CrA) (F : List Nat) (t : Tk) (V : Option Addr) (cv : Nat) (vars : List Bd) (w : World) (ho : MdOk m) (hC : CourseN w m gc c F) (hvl : vars.length ≤ 4611686018427387904) (hV : Rd w V (vars.length * 5) (AS Bd.cells vars)) :
 Calls Tryz.prog 7 #[.pointer (some ⟨gc, 0, none⟩), .slice V vars.length cv, .agg t.cells.toArray] w fun e w' => ∃ A c', e = .returned (.tuple #[.slice A (BV m c t vars).1.length c', .int .i64 (BV m c t vars).2]) ∧ w'.ownsRow w.heap.size 39 5 (.slice A (BV m c t vars).1.length c') (BV m c t vars).1.length (AS Wt.cells (BV m c t vars).1) ∧ Fr0 w w' := by
 have hvL := cA ho hC t
 refine AL (vs := [_, _, _]) Tryz.func7 rfl Tryz.ntmps7 rfl ?_
 have M := CM w
 refine A9 (A0 (BG M (A4 rfl) rfl rfl 29 rfl rfl (Tk.cells t) rfl fun g5 w1 hg5 M => yb rfl (yb rfl (A1 (A2 (A9 (A9 (A0 (yb rfl (ya rfl (LY rfl rfl rfl (pt rfl)) (A1 (A2 (DB rfl ?_)))))))))))))
 refine AM (A2 (A9 (A9 (A0 (yb rfl (ya rfl (AO (xs := Tk.cells t) rfl rfl (M.rdBlk 0 rfl rfl) Tryz.underlying29 rfl CA) (AC (some 17) (A4 rfl) rfl rfl (AG rfl rfl Tryz.call17) (iF m gc c F t _ ho (hC.fr0 M.fr)) ?_)))))))
 rintro _ w2 ⟨rfl, hfw2⟩
 refine ⟨_, rfl, ?_⟩
 have M := M.step hfw2
 refine yb rfl (A1 (A2 (AR (b := (!(HE m c t))) rfl (fun h18 => ?_) (fun h18 => ?_))))
 ·have h18p := (C4 h18)
  refine A9 (A0 (yb rfl (yb rfl (A1 (A2 (AE (AA (C1 rfl rfl rfl ?_))))))))
  have hwp : BV m c t vars = ([], 1) := if_pos h18
  rw [hwp]
  exact ⟨none, 0, rfl, World.ownsRow_nil _ _ _ _, M.fr⟩
 ·have h18p := (C6 h18)
  refine AM (A2 (A9 (A0 (yb rfl (A1 (A2 (A9 (A9 (A0 (yb rfl (ya rfl (AO (xs := Tk.cells t) rfl rfl (M.rdBlk 0 rfl rfl) Tryz.underlying29 rfl CA) (AC (some 21) (A4 rfl) rfl rfl (AG rfl rfl Tryz.call18) (lZ m gc c F t _ ho (hC.fr0 M.fr)) ?_))))))))))))
  rintro _ w3 ⟨A21, c21, rfl, how3, hfw3⟩
  refine ⟨_, rfl, ?_⟩
  have M := M.pushOwn hfw3 (Nat.le_refl _) how3
  have hL21 := M.ownLen 0 rfl
  refine ya rfl (CY rfl rfl (sl rfl)) (yb rfl (A1 (A2 (AZ ?_))))
  have M := M.nilOwn 39 5
  refine CO (fun e wr mz => ∃ (i : Nat) (acc : List Wt) (A8 : Option Addr) (c8 : Nat), e = [(0, .pointer (some ⟨gc, 0, none⟩)), (1, .slice V vars.length cv), (5, .pointer (some ⟨g5, 0, none⟩)), (8, .slice A8 acc.length c8), (21, .slice A21 ((DI m c t).length) c21), (22, .int .i64 (((DI m c t).length : Nat) : Int)), (23, .int .i64 ((i : Nat) : Int))] ∧ Mem w AB [As.own w.heap.size 39 5 (.slice A8 acc.length c8) acc.length (AS Wt.cells acc), As.own w.heap.size 9 1 (.slice A21 (DI m c t).length c21) ((DI m c t).length) (AS C7 (DI m c t)), As.blk g5 29 (Tk.cells t)] wr ∧ (i ≤ (DI m c t).length) ∧ (acc = ((DI m c t).take i).map (fun k => (DL c k t.born vars).1) ∧ acc.length = i) ∧ (N9 c t vars (DI m c t) = N9 c t vars ((DI m c t).drop i)) ∧ mz = (DI m c t).length - i) ⟨0, [], none, 0, rfl, M, Nat.zero_le _, ⟨rfl, rfl⟩, rfl, rfl⟩ ⟨rfl, rfl, rfl, rfl, rfl, rfl, rfl, trivial⟩ ?_
  rintro _ w4 _ ⟨i, acc, A8, c8, rfl, M, hi, hacc, hE, rfl⟩
  refine A9 (A0 (ya rfl (CJ rfl rfl rfl) (A1 (A2 (A9 (AR (b := (decide (((i : Nat) : Int) < (((DI m c t).length : Nat) : Int)))) rfl (fun h24 => ?_) (fun h24 => ?_)))))))
  ·have h24p := (of_decide_eq_true h24)
   refine AM (A2 (A9 (AZ (A9 (A0 ?_)))))
   obtain ⟨k, hk⟩ := DY (l := (DI m c t)) (i := i) (by omega)
   obtain ⟨b_k, o_k, hA_k⟩ := CN (k := 1) (by omega) (M.rdOwn 1 rfl) hk
   refine ya rfl (BZ i hA_k rfl rfl rfl (sl rfl) (by omega)) (yl rfl rfl (G1 FW (M.rdOwn 1 rfl) hA_k hk 0 rfl) (yb rfl (A1 (A2 (A9 (A0 (yb rfl (yb rfl (yb rfl (yl rfl rfl (M.cell 2 rfl rfl) (yb rfl (AC (some 33) (A4 rfl) rfl rfl (AG rfl rfl Tryz.call19) (lY m gc c F k t.born V cv vars _ (hC.fr0 M.fr) hvl (hV.fr0 M.fr)) ?_))))))))))))
   rintro _ w5 ⟨rfl, hfw5⟩
   refine ⟨_, rfl, ?_⟩
   have M := M.step hfw5
   refine yb rfl (yb rfl (yb rfl (BL M (A4 rfl) rfl rfl 39 rfl [str [], .int .u8 0, str [], str [], .int .i64 0] JW rfl fun g11 w6 hg11 M => B8 (cs' := (Wt.cells ((DL c k t.born vars).1))) M 0 (A4 rfl) rfl rfl rfl rfl rfl CL rfl (AQ rfl) (B3 rfl) rfl fun w7 M => yb rfl (A1 (A2 (A9 (A9 (A0 (yb rfl (ya rfl (CX rfl rfl rfl) (A1 ?_)))))))))))
   refine A2 (AR (b := (!decide ((DL c k t.born vars).2 = (0 : Int)))) rfl (fun h37 => ?_) (fun h37 => ?_))
   ·have h37p := (of_decide_eq_false (C4 h37))
    refine A9 (A0 (yb rfl (yb rfl (yb rfl (A1 (A2 (AE (AA (AK (AA (AA (AK (AA (C1 rfl rfl rfl ?_))))))))))))))
    have hwp : BV m c t vars = ([], (DL c k t.born vars).2) := by rw [BV, if_neg (BD h18), hE, BJ hk, N9, if_pos h37]
    rw [hwp]
    exact ⟨none, 0, rfl, World.ownsRow_nil _ _ _ _, M.fr⟩
   ·have h37p := (of_decide_eq_true (C6 h37))
    refine AM (A2 (A0 (yb rfl (ya rfl (AO (xs := Wt.cells ((DL c k t.born vars).1)) rfl rfl (M.rdBlk 0 rfl rfl) Tryz.underlying39 rfl CL) (F1 M (A4 rfl) rfl rfl [.agg (Wt.cells ((DL c k t.born vars).1)).toArray] (Wt.cells ((DL c k t.born vars).1)) rfl rfl rfl rfl Tryz.underlying35 UH rfl rfl (by intro v hv; simp only [List.mem_cons, List.not_mem_nil, or_false] at hv; rcases hv with rfl <;> rfl) rfl fun g41 w8 hg41 M => EQ (len' := (acc ++ [((DL c k t.born vars).1)]).length) (xs' := AS Wt.cells (acc ++ [((DL c k t.born vars).1)])) M 2 (A4 rfl) rfl rfl rfl rfl rfl rfl (M.rdBlk 0 rfl rfl) Tryz.underlying35 S6 rfl (by decide) (B3 rfl) (Nat.le_refl _) (Nat.le_refl _) (by first | omega | (simp only [List.length_append, List.length_cons, List.length_nil]; omega)) (by unfold maxLen; first | omega | (simp only [List.length_append, List.length_cons, List.length_nil]; omega)) (by simp) (by first | exact (D3 _ _ _).symm | simp [AS]) fun A42 c42 w9 M => yb rfl (A1 (AD (A2 (A0 (ya rfl (CQ rfl rfl rfl (by omega)) (yb rfl ?_)))))))))))
    refine A1 (BP [(0, .pointer (some ⟨gc, 0, none⟩)), (1, .slice V vars.length cv), (5, .pointer (some ⟨g5, 0, none⟩)), (8, .slice A42 (acc ++ [((DL c k t.born vars).1)]).length c42), (21, .slice A21 ((DI m c t).length) c21), (22, .int .i64 (((DI m c t).length : Nat) : Int)), (23, .int .i64 (((i + 1) : Nat) : Int))] ((DI m c t).length - (i + 1)) ⟨i + 1, acc ++ [((DL c k t.born vars).1)], A42, c42, rfl, (M.pick [2, 3, 4] (by decide)), ?_, ?_, ?_, rfl⟩ (by first | omega | (simp only [List.length_append, List.length_cons, List.length_nil]; omega)) ⟨rfl, rfl, rfl, rfl, rfl, rfl, rfl, trivial⟩)
    ·omega
    ·exact ⟨by rw [hacc.1, BK hk, List.map_append]; rfl, by rw [List.length_append, hacc.2]; rfl⟩
    ·rw [hE, BJ hk, N9, if_neg (BD h37)]
  ·have h24p := (of_decide_eq_false h24)
   refine CF (AJ (AJ ?_))
   have hiE : i = (DI m c t).length := by omega
   have hac := hacc.1
   rw [hiE, List.take_length] at hac
   have hLe : N9 c t vars (DI m c t) = none := by rw [hE, hiE, List.drop_length]; rfl
   refine BE (A2 (A9 (A0 (yb rfl (yb rfl (yb rfl (A1 (A2 (AE (C1 rfl rfl rfl ?_))))))))))
   have hwp : BV m c t vars = (acc, 0) := by rw [BV, if_neg (BD h18), hLe, hac]
   rw [hwp]
   exact ⟨_, _, rfl, M.own 0 rfl, M.fr⟩
end Go.Proofs.YtadgfojhjnkliaaGreatDoor
