/- Lemmas that the last text rests on. Condition: each says its own. -/
import Derived.Test.YtaheakjfkpkefaaGreatDoorZMv7
set_option maxHeartbeats 16000000
set_option maxRecDepth 100000
namespace Go.Proofs.YtaheakjfkpkefaaGreatDoor
open Go.RowKit
open Tryz
theorem XC {m : Md} (l : List (List UInt8)) : (l.flatMap (CX m)).length ≤ l.length * m.els.length := by
 induction l with
 | nil => simp
 | cons a r ih =>
  have := EN m a
  rw [List.flatMap_cons, List.length_append, List.length_cons, Nat.succ_mul]; omega
theorem T5 {m : Md} {w : World} {gc : Nat} {c : CrA} {F : List Nat} (ho : MdOk m) (hC : CourseN w m gc c F) (t : Tk) : (DN m c t).length ≤ 20000 := by
 have h1 : (YL c t).length ≤ 400 := by
  have := hC.lenO t.loc
  have := ho.nfls
  unfold YL
  repeat' split
  all_goals first
   | (rw [List.length_map]; omega)
   | simp
 have h2 := XC (m := m) ([t.loc] ++ AO m.els t.loc)
 have h3 := LP m.els t.loc
 have h4 : ([t.loc] ++ AO m.els t.loc).length ≤ 65 := by rw [List.length_append, List.length_cons, List.length_nil]; omega
 have h5 := Nat.mul_le_mul h4 ho.nels
 unfold DN
 split
 ·simp
 ·rw [List.length_append]; omega
def U7 (c : CrA) (t : Tk) (vars : List Bd) : List (List UInt8) → Option Int
 | [] => none
 | k :: r => if (!decide ((FU c k t.born vars).2 = (0 : Int))) = true then some (FU c k t.born vars).2 else U7 c t vars r
def CN (m : Md) (c : CrA) (t : Tk) (vars : List Bd) : List Wt × Int :=
 if (!(GE m c t)) = true then ([], 1)
 else match U7 c t vars (DN m c t) with
  | some e => ([], e)
  | none => ((DN m c t).map (fun k => (FU c k t.born vars).1), 0)
theorem SX : (prog.info? 72).map (fun i => (i.zero, i.size, i.bytes)) = some (some (.agg #[str [], .int .u8 0, str [], str [], AA 0]), 5, 64) := by kernel_rfl
theorem UY : (prog.info? 72).map (fun i => (i.zero, i.size)) = some (some (.agg #[str [], .int .u8 0, str [], str [], AA 0]), 5) := by kernel_rfl
theorem gD (m : Md) (gc : Nat) (c : CrA) (F : List Nat) (t : Tk) (V : Option Addr) (cv : Nat) (vars : List Bd) (w : World) (ho : MdOk m) (hC : CourseN w m gc c F) (hvl : vars.length ≤ 4611686018427387904) (hV : Rd w V (vars.length * 5) (AB Bd.cells vars)) :
 Calls prog 45 #[pg gc, .slice V vars.length cv, .agg t.cells.toArray] w fun e w' => ∃ A c', e = .returned (.tuple #[.slice A (CN m c t vars).1.length c', AA (CN m c t vars).2]) ∧ w'.ownsRow w.heap.size 72 5 (.slice A (CN m c t vars).1.length c') (CN m c t vars).1.length (AB Wt.cells (CN m c t vars).1) ∧ Fr0 w w' := by
 have hvL := T5 ho hC t
 refine BK func45 ntmps45 rfl fun M => srg (D7 M rfl rfl fun g5 w1 hg5 M => yb rfl (AG rfl (sx_seq (AC rfl (ya rfl (IB rfl rfl rfl (pt rfl)) (nq ?_))))))
 refine sx_false rfl (sx_skip (qx_seq (sx_seq (AC rfl (DP M 0 rfl rfl underlying56 B3 rfl (DH M 17 rfl rfl call31 (RD m gc c F t _ ho (hC.fr0 M.fr)) fun w2 M => AG rfl (AF rfl (fun h18 => ?_) (fun h18 => ?_))))))))
 ·refine AC rfl (yb rfl (gnr (qx_then_ret (BR rfl rfl rfl ?_))))
  have hwp : CN m c t vars = ([], 1) := if_pos h18
  rw [hwp]
  exact ⟨none, 0, rfl, World.ownsRow_nil _ _ _ _, M.fr⟩
 ·have h18p := (BC h18)
  refine sx_skip (qx_seq (srg (AG rfl (sx_seq (AC rfl (DP M 0 rfl rfl underlying56 B3 rfl (cl 21 rfl (AE rfl rfl call52) (nD m gc c F t _ ho (hC.fr0 M.fr)) ?_)))))))
  rintro _ w3 ⟨A21, c21, rfl, how3, hfw3⟩
  refine ⟨_, rfl, ?_⟩
  have M := M.pushOwn hfw3 (Nat.le_refl _) how3
  have hL21 := M.ownLen 0 rfl
  refine DA rfl rfl (AG rfl (sx_block ?_))
  have M := M.nilOwn 72 5
  refine flp [22, 21, 5, 1, 0] (fun ze e wr mz => ∃ (i : Nat) (acc : List Wt) (A8 : Option Addr) (c8 : Nat), e = (8, .slice A8 acc.length c8) :: (23, AA (i : Int)) :: ze ∧ Mem w AP [As.own w.heap.size 72 5 (.slice A8 acc.length c8) acc.length (AB Wt.cells acc), As.own w.heap.size 9 1 (.slice A21 (DN m c t).length c21) ((DN m c t).length) (AB BJ (DN m c t)), As.blk g5 56 (Tk.cells t)] wr ∧ (i ≤ (DN m c t).length) ∧ (acc = ((DN m c t).take i).map (fun k => (FU c k t.born vars).1) ∧ acc.length = i) ∧ (U7 c t vars (DN m c t) = U7 c t vars ((DN m c t).drop i)) ∧ mz = (DN m c t).length - i) ⟨0, [], none, 0, rfl, M, Nat.zero_le _, ⟨rfl, rfl⟩, rfl, rfl⟩ ?_
  rintro _ w4 _ ⟨i, acc, A8, c8, rfl, M, hi, hacc, hE, rfl⟩
  refine srg (BH rfl rfl (nq (sx_seq (AF rfl (fun h24 => ?_) (fun h24 => ?_)))))
  ·have h24p := (odt h24)
   refine sx_skip (qx_seq (sx_seq (sx_block (srg ?_))))
   obtain ⟨k, hk⟩ := BN (l := (DN m c t)) (i := i) A0
   obtain ⟨b_k, o_k, hA_k⟩ := B8 (k := 1) A0 (M.rdOwn 1 rfl) hk
   refine ya rfl (AN i hA_k rfl rfl rfl (sl rfl) A0) (yl rfl rfl (CI FE (M.rdOwn 1 rfl) hA_k hk 0 rfl) (AG rfl (AC rfl (AT rfl rfl (AS M 2 rfl rfl rfl (yb rfl (DH M 33 rfl rfl call91 (nC m gc c F k t.born V cv vars _ (hC.fr0 M.fr) hvl (hV.fr0 M.fr)) fun w5 M => AT rfl rfl (yb rfl ?_))))))))
   refine CV M rfl KQ fun g11 w6 hg11 M => C1 M 0 rfl rfl C9 rfl fun w7 M => AG rfl (sx_seq (AC rfl (FA rfl rfl (nq (AF rfl (fun h37 => ?_) (fun h37 => ?_))))))
   ·refine AC rfl (AT rfl rfl (gnr (qx_then_ret (qx_block_ret (qx_then_ret (qx_then_ret (qx_block_ret (qx_then_ret (BR rfl rfl rfl ?_)))))))))
    have hwp : CN m c t vars = ([], (FU c k t.born vars).2) := by rw [CN, AR h18, hE, B2 hk, U7, if_pos h37]
    rw [hwp]
    exact ⟨none, 0, rfl, World.ownsRow_nil _ _ _ _, M.fr⟩
   ·have h37p := (odt (BC h37))
    refine sx_skip (qx_seq (sx_region (yb rfl (DP M 0 rfl rfl underlying72 C9 rfl (CT M (wn_none rfl) rfl rfl [.agg (Wt.cells ((FU c k t.born vars).1)).toArray] (Wt.cells ((FU c k t.born vars).1)) rfl rfl rfl rfl underlying120 UY rfl rfl (FR rfl) rfl fun g41 w8 hg41 M => D9 (len' := (acc ++ [((FU c k t.born vars).1)]).length) (xs' := AB Wt.cells (acc ++ [((FU c k t.born vars).1)])) M 2 (wn_none rfl) rfl rfl rfl rfl rfl rfl (M.rdBlk 0 rfl rfl) underlying120 SX rfl AY (CA rfl) (Nat.le_refl _) (Nat.le_refl _) D4 (by unfold maxLen; first | omega | (simp only [List.length_append, List.length_cons, List.length_nil]; omega)) (by simp) (by first | exact (AV _ _ _).symm | simp [AB]) fun A42 c42 w9 M => yb rfl (sxl_nil (qx_block_normal (qx_seq (sx_region (BT rfl rfl (yb rfl ?_)))))))))))
    refine sxl_nil (fag ⟨i + 1, acc ++ [((FU c k t.born vars).1)], A42, c42, rfl, (M.pk [2, 3, 4]), ?_, ?_, ?_, rfl⟩)
    ·omega
    ·exact ⟨by rw [hacc.1, AK hk, List.map_append]; rfl, by rw [List.length_append, hacc.2]; rfl⟩
    ·rw [hE, B2 hk, U7, AR h37]
  ·have h24p := (odf h24)
   refine sx_exit (qx_then_exit (qx_then_exit ?_))
   have hiE : i = (DN m c t).length := by omega
   have hac := hacc.1
   rw [hiE, List.take_length] at hac
   have hLe : U7 c t vars (DN m c t) = none := by rw [hE, hiE, List.drop_length]; rfl
   refine qx_block_hit (qx_seq (AC rfl (AT rfl rfl (gnr (BR rfl rfl rfl ?_)))))
   have hwp : CN m c t vars = (acc, 0) := by rw [CN, AR h18, hLe, hac]
   rw [hwp]
   exact ⟨_, _, rfl, M.own 0 rfl, M.fr⟩
def MU (t : Tk) (k : Int) : Bool := (((decide ((0 : Int) ≤ t.born)) && (decide (t.born ≤ k))) && (((decide (t.worker = [])) && (decide (t.until_ = (0 : Int)))) || (((BU t.worker) && (decide ((0 : Int) ≤ t.until_))) && (decide (t.until_ ≤ (k + (1048576 : Int)))))))
theorem VW (gc : Nat) (t : Tk) (k : Int) (w : World) (hw : (t.worker.length : Int) < 4611686018427387904) (hk : 0 ≤ k ∧ k ≤ 1099511627776) :
 Calls prog 32 #[pg gc, .agg t.cells.toArray, AA k] w (BM w (.bool (MU t k))) := by
 refine BK func32 ntmps32 rfl fun M => srg (D7 M rfl rfl fun g4 w1 hg4 M => AG rfl (AC rfl (AS M 0 rfl rfl rfl (ya rfl (CP rfl rfl rfl) (yb rfl (fvm M 4 [4, 2] [(15, .bool ((decide (t.worker = [])) && (decide (t.until_ = (0 : Int)))))] ?_ (fun k11 => ?_)))))))
 ·intro w2 M
  refine yb rfl (fvm M 16 [4, 2] [(32, .bool (((decide (t.worker = [])) && (decide (t.until_ = (0 : Int)))) || (((BU t.worker) && (decide ((0 : Int) ≤ t.until_))) && (decide (t.until_ ≤ (k + (1048576 : Int)))))))] ?_ (fun k16 => ?_))
  ·intro w3 M
   refine AG rfl (AC rfl (AS M 0 rfl rfl rfl (IX rfl rfl (yb rfl (fvm M 5 [7] [(41, .bool ((decide ((0 : Int) ≤ t.born)) && (decide (t.born ≤ k))))] ?_ (fun k36 => ?_))))))
   ·intro w4 M
    refine yb rfl (fvm M 2 [] [(44, .bool (((decide ((0 : Int) ≤ t.born)) && (decide (t.born ≤ k))) && (((decide (t.worker = [])) && (decide (t.until_ = (0 : Int)))) || (((BU t.worker) && (decide ((0 : Int) ≤ t.until_))) && (decide (t.until_ ≤ (k + (1048576 : Int))))))))] ?_ (fun k42 => ?_))
    ·intro w5 M
     exact yb rfl (gnr (gr1 rfl ⟨by rw [MU], M.fr⟩))
    refine AD (d := 42) rfl (fun h42 => ?_) (fun h42 => ?_)
    ·exact gyq rfl (yb rfl (k42 M ⟨(by rw [h42]; rfl), trivial⟩))
    ·exact yo rfl (yb rfl (k42 M ⟨(by rw [h42]; rfl), trivial⟩))
   refine AD (d := 36) rfl (fun h36 => ?_) (fun h36 => ?_)
   ·exact gyq rfl (C3 M 0 rfl rfl rfl (gyq rfl (yd rfl (GB rfl rfl rfl) (yb rfl (k36 M ⟨rfl, (by rw [h36]; rfl), trivial⟩)))))
   ·iterate 4 refine yo rfl ?_
    exact yb rfl (k36 M ⟨rfl, (by rw [h36]; rfl), trivial⟩)
  refine AD (d := 16) rfl (fun h16 => ?_) (fun h16 => ?_)
  ·iterate 4 refine yo rfl ?_
   refine BL rfl rfl rfl rfl rfl (BL rfl rfl rfl rfl rfl (BL rfl rfl rfl rfl rfl (yo rfl (yo rfl ?_))))
   iterate 5 refine BL rfl rfl rfl rfl rfl ?_
   exact yo rfl (yb rfl (k16 M ⟨rfl, rfl, (by rw [h16]; rfl), trivial⟩))
  ·refine gyq rfl (C3 M 0 rfl rfl rfl (sxl_call (some 19) (wn_on rfl rfl rfl) rfl rfl (AE rfl rfl call61) (DG _ _ (by first | assumption | omega)) ?_))
   rintro _ w6 ⟨rfl, hfw6⟩
   refine ⟨_, rfl, ?_⟩
   have M := M.step hfw6
   refine gyq rfl (fvm M 4 [16, 4, 2] [(24, .bool ((BU t.worker) && (decide ((0 : Int) ≤ t.until_))))] ?_ (fun k20 => ?_))
   ·intro w7 M
    refine gyq rfl (fvm M 6 [16, 4, 2] [(31, .bool (((BU t.worker) && (decide ((0 : Int) ≤ t.until_))) && (decide (t.until_ ≤ (k + (1048576 : Int))))))] ?_ (fun k25 => ?_))
    ·intro w8 M
     exact yb rfl (k16 M ⟨rfl, rfl, (by rw [h16]; rfl), trivial⟩)
    refine AD (d := 25) rfl (fun h25 => ?_) (fun h25 => ?_)
    ·exact gyq rfl (C3 M 0 rfl rfl rfl (gyq rfl (yd rfl (I0 rfl rfl rfl A0) (yd rfl (GB rfl rfl rfl) (gyq rfl (k25 M ⟨rfl, rfl, rfl, (by rw [h25]; rfl), trivial⟩))))))
    ·iterate 5 refine yo rfl ?_
     exact gyq rfl (k25 M ⟨rfl, rfl, rfl, (by rw [h25]; rfl), trivial⟩)
   refine AD (d := 20) rfl (fun h20 => ?_) (fun h20 => ?_)
   ·exact gyq rfl (C3 M 0 rfl rfl rfl (yd rfl (FY rfl rfl rfl) (gyq rfl (k20 M ⟨rfl, rfl, rfl, (by rw [h20]; rfl), trivial⟩))))
   ·exact yo rfl (yo rfl (yo rfl (gyq rfl (k20 M ⟨rfl, rfl, rfl, (by rw [h20]; rfl), trivial⟩))))
 refine AD (d := 11) rfl (fun h11 => ?_) (fun h11 => ?_)
 ·exact gyq rfl (C3 M 0 rfl rfl rfl (yd rfl (BW rfl rfl rfl) (yb rfl (k11 M ⟨rfl, rfl, (by rw [h11]; rfl), trivial⟩))))
 ·exact yo rfl (yo rfl (yo rfl (yb rfl (k11 M ⟨rfl, rfl, (by rw [h11]; rfl), trivial⟩))))
def U9 (a b : Bd) : Bool := (((decide (a.name = b.name)) && (decide ((a.v.kind.toNat : Int) = (b.v.kind.toNat : Int)))) && (decide ((chk a.v) = (0 : Int))))
theorem gM (a b : Bd) (w : World) (hb : (a.v.text.length : Int) < 4611686018427387904) (hY : Lay0 w) :
 Calls prog 58 #[.agg a.cells.toArray, .agg b.cells.toArray] w (BM w (.bool (U9 a b))) := by
 refine BK func58 ntmps58 rfl fun M => srg (D7 M rfl rfl fun g2 w1 hg2 M => D7 M rfl rfl fun g3 w2 hg3 M => AG rfl (AC rfl (AS M 1 rfl rfl rfl (yb rfl (AS M 0 rfl rfl rfl ?_)))))
 refine ya rfl (CP rfl rfl rfl) (yb rfl (fvm M 8 [4, 2] [(18, .bool ((decide (a.name = b.name)) && (decide ((a.v.kind.toNat : Int) = (b.v.kind.toNat : Int)))))] ?_ (fun k10 => ?_)))
 ·intro w3 M
  refine yb rfl (fvm M 5 [4] [(24, .bool (((decide (a.name = b.name)) && (decide ((a.v.kind.toNat : Int) = (b.v.kind.toNat : Int)))) && (decide ((chk a.v) = (0 : Int)))))] ?_ (fun k19 => ?_))
  ·intro w4 M
   exact yb rfl (gnr (gr1 rfl ⟨by rw [U9], M.fr⟩))
  refine AD (d := 19) rfl (fun h19 => ?_) (fun h19 => ?_)
  ·refine gyq rfl (yd rfl (AI (xs := [.int .u8 (a.v.kind.toNat : Int), AA a.v.int, .bool a.v.bool, str a.v.text]) rfl rfl (DT (M.blk 1 rfl) 1 4 rfl rfl) underlying100 rfl CS) (sxl_call (some 22) (wn_on rfl rfl rfl) rfl rfl (AE rfl rfl call59) (HB a.v _ hb (hY.fr0 M.fr).utf) ?_))
   rintro _ w5 ⟨rfl, hfw5⟩
   refine ⟨_, rfl, ?_⟩
   have M := M.step hfw5
   exact yd rfl (BW rfl rfl rfl) (yb rfl (k19 M ⟨rfl, (by rw [h19]; rfl), trivial⟩))
  ·iterate 4 refine yo rfl ?_
   exact yb rfl (k19 M ⟨rfl, (by rw [h19]; rfl), trivial⟩)
 refine AD (d := 10) rfl (fun h10 => ?_) (fun h10 => ?_)
 ·exact gyq rfl (gyq rfl (C3 M 1 rfl rfl rfl (gyq rfl (gyq rfl (C3 M 0 rfl rfl rfl (yd rfl (BW rfl rfl rfl) (yb rfl (k10 M ⟨rfl, rfl, (by rw [h10]; rfl), trivial⟩))))))))
 ·iterate 7 refine yo rfl ?_
  exact yb rfl (k10 M ⟨rfl, rfl, (by rw [h10]; rfl), trivial⟩)
def EP : List Bd → List Bd → Bool
 | [], [] => true
 | a :: r, b :: s => U9 a b && EP r s
 | _, _ => false
theorem OQ : ∀ {l k : List Bd}, l.length ≠ k.length → EP l k = false
 | [], [], h => absurd rfl h
 | [], _ :: _, _ => rfl
 | _ :: _, [], _ => rfl
 | a :: r, b :: s, h => by
  rw [EP, OQ (l := r) (k := s) (fun hh => h (by simp [hh])), Bool.and_false]
theorem q8 (l1 l2 : List Bd) (A B : Option Addr) (c d : Nat) (w : World) (hok : BdOk l1) (hA : Rd w A (l1.length * 5) (AB Bd.cells l1)) (hB : Rd w B (l2.length * 5) (AB Bd.cells l2)) (hY : Lay0 w) :
 Calls prog 57 #[.slice A l1.length c, .slice B l2.length d, .func (.func 58) #[] #[]] w (BM w (.bool (EP l1 l2))) := by
 have hl := hok.len
 refine BK func57 ntmps57 rfl fun M => srg (AG rfl (sx_seq (AC rfl (DA rfl rfl (yb rfl (DA rfl rfl (FA rfl rfl (nq ?_))))))))
 refine AF rfl (fun h14 => ?_) (fun h14 => ?_)
 ·have h14p := (odf (BO h14))
  exact AC rfl (gnr (qx_then_ret (gr1 rfl ⟨by rw [OQ A0], M.fr⟩)))
 ·have h14p := (odt (BC h14))
  refine sx_skip (qx_seq (sx_seq (AC rfl (DA rfl rfl (AG rfl (sx_block (KB M [16, 15, 2, 1] (fun ze zF e wr mz => ∃ (i : Nat), e = (17, AA (i : Int)) :: ze ∧ zF wr ∧ (i ≤ l1.length) ∧ (EP l1 l2 = EP (l1.drop i) (l2.drop i)) ∧ mz = l1.length - i) ⟨0, rfl, M, Nat.zero_le _, rfl, rfl⟩ ?_)))))))
  rintro _ w1 _ ⟨i, rfl, M, hi, hE, rfl⟩
  refine srg (BH rfl rfl (nq (sx_seq (AF rfl (fun h18 => ?_) (fun h18 => ?_)))))
  ·have h18p := (odt h18)
   refine sx_skip (qx_seq (sx_seq (sx_block (AC rfl ?_))))
   obtain ⟨x, hx⟩ := BN (l := l1) (i := i) A0
   obtain ⟨b_x, o_x, hA_x⟩ := B8 (k := 5) A0 (hA.fr0 M.fr) hx
   refine ya rfl (AN i hA_x rfl rfl rfl (sl rfl) A0) (ya rfl (AI rfl rfl (BD Bd.len (hA.fr0 M.fr) hA_x hx) underlying103 rfl DY) (CV M rfl PI fun g8 w2 hg8 M => yb rfl (C1 M 0 rfl rfl DY rfl fun w3 M => nq (AC rfl (yb rfl ?_)))))
   obtain ⟨y, hy⟩ := BN (l := l2) (i := i) A0
   obtain ⟨b_y, o_y, hA_y⟩ := B8 (k := 5) A0 (hB.fr0 M.fr) hy
   refine ya rfl (AN i hA_y rfl rfl rfl (sl rfl) A0) (ya rfl (AI rfl rfl (BD Bd.len (hB.fr0 M.fr) hA_y hy) underlying103 rfl DY) (CV M rfl PI fun g9 w4 hg9 M => C1 M 0 rfl rfl DY rfl fun w5 M => nq (AC rfl (DP M 1 rfl rfl underlying103 DY rfl (DP M 0 rfl rfl underlying103 DY rfl (ST M 29 rfl (BE rfl rfl rfl call58) (gM x y _ (hok.text x (List.mem_of_getElem? hx)) (hY.fr0 M.fr)) fun w6 M => yb rfl (sxl_nil ?_)))))))
   refine qx_seq (AF rfl (fun h30 => ?_) (fun h30 => ?_))
   ·exact AC rfl (gnr (qx_block_ret (qx_then_ret (qx_then_ret (qx_block_ret (qx_then_ret (gr1 rfl ⟨by rw [hE, B2 hx, B2 hy, EP, BO h30]; rfl, M.fr⟩)))))))
   ·have h30p := (BC h30)
    refine sx_skip (qx_block_normal (qx_seq (sx_region (BT rfl rfl (yb rfl (sxl_nil (fag ⟨i + 1, rfl, (M.pick [] AY), ?_, ?_, rfl⟩)))))))
    ·omega
    ·rw [hE, B2 hx, B2 hy, EP, BC h30]; rfl
  ·have h18p := (odf h18)
   refine sx_exit (qx_then_exit (qx_then_exit (qx_block_hit (qx_seq (AC rfl (gnr (gr1 rfl ?_)))))))
   obtain rfl : i = l1.length := by omega
   exact ⟨by rw [hE, List.drop_length, List.drop_of_length_le A0]; rfl, M.fr⟩
end Go.Proofs.YtaheakjfkpkefaaGreatDoor
