/- Lemmas that the last text rests on. Condition: each says its own. -/
import Derived.Test.YtaheakjfkpkefaaGreatDoorYMv7
set_option maxHeartbeats 16000000
set_option maxRecDepth 100000
namespace Go.Proofs.YtaheakjfkpkefaaGreatDoor
open Go.RowKit
open Tryz
theorem X1 {m : Md} (l : List (List UInt8)) : (l.flatMap (D1 m)).length ≤ l.length * m.els.length := by
 induction l with
 | nil => simp
 | cons a r ih =>
  have := EU m a
  rw [List.flatMap_cons, List.length_append, List.length_cons, Nat.succ_mul]; omega
theorem T3 {m : Md} {w : World} {gc : Nat} {c : CrA} {F : List Nat} (ho : MdOk m) (hC : CourseN w m gc c F) (t : Tk) : (EL m c t).length ≤ 20000 := by
 have h1 : (cE c t).length ≤ 400 := by
  have := hC.lenO t.loc
  have := ho.nfls
  unfold cE
  repeat' split
  all_goals first
   | (rw [List.length_map]; omega)
   | simp
 have h2 := X1 (m := m) ([t.loc] ++ AN m.els t.loc)
 have h3 := LR m.els t.loc
 have h4 : ([t.loc] ++ AN m.els t.loc).length ≤ 65 := by rw [List.length_append, List.length_cons, List.length_nil]; omega
 have h5 := Nat.mul_le_mul h4 ho.nels
 unfold EL
 split
 ·simp
 ·rw [List.length_append]; omega
def XQ (c : CrA) (t : Tk) (vars : List Bd) : List (List UInt8) → Option Int
 | [] => none
 | k :: r => if (!decide ((HO c k t.born vars).2 = (0 : Int))) = true then some (HO c k t.born vars).2 else XQ c t vars r
def D5 (m : Md) (c : CrA) (t : Tk) (vars : List Bd) : List Wt × Int :=
 if (!(JA m c t)) = true then ([], 1)
 else match XQ c t vars (EL m c t) with
  | some e => ([], e)
  | none => ((EL m c t).map (fun k => (HO c k t.born vars).1), 0)
theorem SV : (prog.info? 72).map (fun i => (i.zero, i.size, i.bytes)) = some (some (.agg #[str [], .int .u8 0, str [], str [], AA 0]), 5, 64) := by kernel_rfl
theorem UV : (prog.info? 72).map (fun i => (i.zero, i.size)) = some (some (.agg #[str [], .int .u8 0, str [], str [], AA 0]), 5) := by kernel_rfl
theorem fC (m : Md) (gc : Nat) (c : CrA) (F : List Nat) (t : Tk) (V : Option Addr) (cv : Nat) (vars : List Bd) (w : World) (ho : MdOk m) (hC : CourseN w m gc c F) (hvl : vars.length ≤ 4611686018427387904) (hV : Rd w V (vars.length * 5) (AB Bd.cells vars)) :
 Calls prog 45 #[pg gc, .slice V vars.length cv, .agg t.cells.toArray] w fun e w' => ∃ A c', e = .returned (.tuple #[.slice A (D5 m c t vars).1.length c', AA (D5 m c t vars).2]) ∧ w'.ownsRow w.heap.size 72 5 (.slice A (D5 m c t vars).1.length c') (D5 m c t vars).1.length (AB Wt.cells (D5 m c t vars).1) ∧ Fr0 w w' := by
 have hvL := T3 ho hC t
 refine BL func45 ntmps45 rfl fun M => srg (DD M rfl rfl fun g5 w1 hg5 M => yb rfl (AG rfl (sx_seq (AC rfl (ya rfl (IC rfl rfl rfl (pt rfl)) (nq ?_))))))
 refine sx_false rfl (sx_skip (qx_seq (sx_seq (AC rfl (DO M 0 rfl rfl underlying56 B1 rfl (DV M 17 rfl rfl call31 (R8 m gc c F t _ ho (hC.fr0 M.fr)) fun w2 M => AG rfl (AF rfl (fun h18 => ?_) (fun h18 => ?_))))))))
 ·refine AC rfl (yb rfl (gnr (qx_then_ret (BS rfl rfl rfl ?_))))
  have hwp : D5 m c t vars = ([], 1) := if_pos h18
  rw [hwp]
  exact ⟨none, 0, rfl, World.ownsRow_nil _ _ _ _, M.fr⟩
 ·have h18p := (BJ h18)
  refine sx_skip (qx_seq (srg (AG rfl (sx_seq (AC rfl (DO M 0 rfl rfl underlying56 B1 rfl (cl 21 rfl (AE rfl rfl call52) (mG m gc c F t _ ho (hC.fr0 M.fr)) ?_)))))))
  rintro _ w3 ⟨A21, c21, rfl, how3, hfw3⟩
  refine ⟨_, rfl, ?_⟩
  have M := M.pushOwn hfw3 (Nat.le_refl _) how3
  have hL21 := M.ownLen 0 rfl
  refine DP rfl rfl (AG rfl (sx_block ?_))
  have M := M.nilOwn 72 5
  refine flp [22, 21, 5, 1, 0] (fun ze e wr mz => ∃ (i : Nat) (acc : List Wt) (A8 : Option Addr) (c8 : Nat), e = (8, .slice A8 acc.length c8) :: (23, AA (i : Int)) :: ze ∧ Mem w AM [As.own w.heap.size 72 5 (.slice A8 acc.length c8) acc.length (AB Wt.cells acc), As.own w.heap.size 9 1 (.slice A21 (EL m c t).length c21) ((EL m c t).length) (AB BK (EL m c t)), As.blk g5 56 (Tk.cells t)] wr ∧ (i ≤ (EL m c t).length) ∧ (acc = ((EL m c t).take i).map (fun k => (HO c k t.born vars).1) ∧ acc.length = i) ∧ (XQ c t vars (EL m c t) = XQ c t vars ((EL m c t).drop i)) ∧ mz = (EL m c t).length - i) ⟨0, [], none, 0, rfl, M, Nat.zero_le _, ⟨rfl, rfl⟩, rfl, rfl⟩ ?_
  rintro _ w4 _ ⟨i, acc, A8, c8, rfl, M, hi, hacc, hE, rfl⟩
  refine srg (BM rfl rfl (nq (sx_seq (AF rfl (fun h24 => ?_) (fun h24 => ?_)))))
  ·have h24p := (odt h24)
   refine sx_skip (qx_seq (sx_seq (sx_block (srg ?_))))
   obtain ⟨k, hk⟩ := BZ (l := (EL m c t)) (i := i) A0
   obtain ⟨b_k, o_k, hA_k⟩ := B7 (k := 1) A0 (M.rdOwn 1 rfl) hk
   refine ya rfl (AP i hA_k rfl rfl rfl (sl rfl) A0) (yl rfl rfl (E5 FD (M.rdOwn 1 rfl) hA_k hk 0 rfl) (AG rfl (AC rfl (AV rfl rfl (B2 M 2 rfl rfl rfl (yb rfl (DV M 33 rfl rfl call91 (mF m gc c F k t.born V cv vars _ (hC.fr0 M.fr) hvl (hV.fr0 M.fr)) fun w5 M => AV rfl rfl (yb rfl ?_))))))))
   refine CO M rfl KS fun g11 w6 hg11 M => C2 M 0 rfl rfl CA rfl fun w7 M => AG rfl (sx_seq (AC rfl (FT rfl rfl (nq (AF rfl (fun h37 => ?_) (fun h37 => ?_))))))
   ·refine AC rfl (AV rfl rfl (gnr (qx_then_ret (qx_block_ret (qx_then_ret (qx_then_ret (qx_block_ret (qx_then_ret (BS rfl rfl rfl ?_)))))))))
    have hwp : D5 m c t vars = ([], (HO c k t.born vars).2) := by rw [D5, AS h18, hE, B0 hk, XQ, if_pos h37]
    rw [hwp]
    exact ⟨none, 0, rfl, World.ownsRow_nil _ _ _ _, M.fr⟩
   ·have h37p := (odt (BJ h37))
    refine sx_skip (qx_seq (sx_region (yb rfl (DO M 0 rfl rfl underlying72 CA rfl (CU M (wn_none rfl) rfl rfl [.agg (Wt.cells ((HO c k t.born vars).1)).toArray] (Wt.cells ((HO c k t.born vars).1)) rfl rfl rfl rfl underlying120 UV rfl rfl (EZ rfl) rfl fun g41 w8 hg41 M => DC (len' := (acc ++ [((HO c k t.born vars).1)]).length) (xs' := AB Wt.cells (acc ++ [((HO c k t.born vars).1)])) M 2 (wn_none rfl) rfl rfl rfl rfl rfl rfl (M.rdBlk 0 rfl rfl) underlying120 SV rfl AU (BG rfl) (Nat.le_refl _) (Nat.le_refl _) CX (by unfold maxLen; first | omega | (simp only [List.length_append, List.length_cons, List.length_nil]; omega)) (by simp) (by first | exact (AT _ _ _).symm | simp [AB]) fun A42 c42 w9 M => yb rfl (sxl_nil (qx_block_normal (qx_seq (sx_region (C1 rfl rfl (yb rfl ?_)))))))))))
    refine sxl_nil (fag ⟨i + 1, acc ++ [((HO c k t.born vars).1)], A42, c42, rfl, (M.pk [2, 3, 4]), ?_, ?_, ?_, rfl⟩)
    ·omega
    ·exact ⟨by rw [hacc.1, AJ hk, List.map_append]; rfl, by rw [List.length_append, hacc.2]; rfl⟩
    ·rw [hE, B0 hk, XQ, AS h37]
  ·have h24p := (odf h24)
   refine sx_exit (qx_then_exit (qx_then_exit ?_))
   have hiE : i = (EL m c t).length := by omega
   have hac := hacc.1
   rw [hiE, List.take_length] at hac
   have hLe : XQ c t vars (EL m c t) = none := by rw [hE, hiE, List.drop_length]; rfl
   refine qx_block_hit (qx_seq (AC rfl (AV rfl rfl (gnr (BS rfl rfl rfl ?_)))))
   have hwp : D5 m c t vars = (acc, 0) := by rw [D5, AS h18, hLe, hac]
   rw [hwp]
   exact ⟨_, _, rfl, M.own 0 rfl, M.fr⟩
def U9 (t : Tk) (k : Int) : Bool := (((decide ((0 : Int) ≤ t.born)) && (decide (t.born ≤ k))) && (((decide (t.worker = [])) && (decide (t.until_ = (0 : Int)))) || (((BU t.worker) && (decide ((0 : Int) ≤ t.until_))) && (decide (t.until_ ≤ (k + (1048576 : Int)))))))
theorem VS (gc : Nat) (t : Tk) (k : Int) (w : World) (hw : (t.worker.length : Int) < 4611686018427387904) (hk : 0 ≤ k ∧ k ≤ 1099511627776) :
 Calls prog 32 #[pg gc, .agg t.cells.toArray, AA k] w (BN w (.bool (U9 t k))) := by
 refine BL func32 ntmps32 rfl fun M => srg (DD M rfl rfl fun g4 w1 hg4 M => AG rfl (AC rfl (B2 M 0 rfl rfl rfl (ya rfl (CS rfl rfl rfl) (yb rfl (fvm M 4 [4, 2] [(15, .bool ((decide (t.worker = [])) && (decide (t.until_ = (0 : Int)))))] ?_ (fun k11 => ?_)))))))
 ·intro w2 M
  refine yb rfl (fvm M 16 [4, 2] [(32, .bool (((decide (t.worker = [])) && (decide (t.until_ = (0 : Int)))) || (((BU t.worker) && (decide ((0 : Int) ≤ t.until_))) && (decide (t.until_ ≤ (k + (1048576 : Int)))))))] ?_ (fun k16 => ?_))
  ·intro w3 M
   refine AG rfl (AC rfl (B2 M 0 rfl rfl rfl (J2 rfl rfl (yb rfl (fvm M 5 [7] [(41, .bool ((decide ((0 : Int) ≤ t.born)) && (decide (t.born ≤ k))))] ?_ (fun k36 => ?_))))))
   ·intro w4 M
    refine yb rfl (fvm M 2 [] [(44, .bool (((decide ((0 : Int) ≤ t.born)) && (decide (t.born ≤ k))) && (((decide (t.worker = [])) && (decide (t.until_ = (0 : Int)))) || (((BU t.worker) && (decide ((0 : Int) ≤ t.until_))) && (decide (t.until_ ≤ (k + (1048576 : Int))))))))] ?_ (fun k42 => ?_))
    ·intro w5 M
     exact yb rfl (gnr (gr1 rfl ⟨by rw [U9], M.fr⟩))
    refine AD (d := 42) rfl (fun h42 => ?_) (fun h42 => ?_)
    ·exact gyq rfl (yb rfl (k42 M ⟨(by rw [h42]; rfl), trivial⟩))
    ·exact yo rfl (yb rfl (k42 M ⟨(by rw [h42]; rfl), trivial⟩))
   refine AD (d := 36) rfl (fun h36 => ?_) (fun h36 => ?_)
   ·exact gyq rfl (C3 M 0 rfl rfl rfl (gyq rfl (yd rfl (G8 rfl rfl rfl) (yb rfl (k36 M ⟨rfl, (by rw [h36]; rfl), trivial⟩)))))
   ·iterate 4 refine yo rfl ?_
    exact yb rfl (k36 M ⟨rfl, (by rw [h36]; rfl), trivial⟩)
  refine AD (d := 16) rfl (fun h16 => ?_) (fun h16 => ?_)
  ·iterate 4 refine yo rfl ?_
   refine BE rfl rfl rfl rfl rfl (BE rfl rfl rfl rfl rfl (BE rfl rfl rfl rfl rfl (yo rfl (yo rfl ?_))))
   iterate 5 refine BE rfl rfl rfl rfl rfl ?_
   exact yo rfl (yb rfl (k16 M ⟨rfl, rfl, (by rw [h16]; rfl), trivial⟩))
  ·refine gyq rfl (C3 M 0 rfl rfl rfl (sxl_call (some 19) (wn_on rfl rfl rfl) rfl rfl (AE rfl rfl call61) (DJ _ _ (by first | assumption | omega)) ?_))
   rintro _ w6 ⟨rfl, hfw6⟩
   refine ⟨_, rfl, ?_⟩
   have M := M.step hfw6
   refine gyq rfl (fvm M 4 [16, 4, 2] [(24, .bool ((BU t.worker) && (decide ((0 : Int) ≤ t.until_))))] ?_ (fun k20 => ?_))
   ·intro w7 M
    refine gyq rfl (fvm M 6 [16, 4, 2] [(31, .bool (((BU t.worker) && (decide ((0 : Int) ≤ t.until_))) && (decide (t.until_ ≤ (k + (1048576 : Int))))))] ?_ (fun k25 => ?_))
    ·intro w8 M
     exact yb rfl (k16 M ⟨rfl, rfl, (by rw [h16]; rfl), trivial⟩)
    refine AD (d := 25) rfl (fun h25 => ?_) (fun h25 => ?_)
    ·exact gyq rfl (C3 M 0 rfl rfl rfl (gyq rfl (yd rfl (GD rfl rfl rfl A0) (yd rfl (G8 rfl rfl rfl) (gyq rfl (k25 M ⟨rfl, rfl, rfl, (by rw [h25]; rfl), trivial⟩))))))
    ·iterate 5 refine yo rfl ?_
     exact gyq rfl (k25 M ⟨rfl, rfl, rfl, (by rw [h25]; rfl), trivial⟩)
   refine AD (d := 20) rfl (fun h20 => ?_) (fun h20 => ?_)
   ·exact gyq rfl (C3 M 0 rfl rfl rfl (yd rfl (GK rfl rfl rfl) (gyq rfl (k20 M ⟨rfl, rfl, rfl, (by rw [h20]; rfl), trivial⟩))))
   ·exact yo rfl (yo rfl (yo rfl (gyq rfl (k20 M ⟨rfl, rfl, rfl, (by rw [h20]; rfl), trivial⟩))))
 refine AD (d := 11) rfl (fun h11 => ?_) (fun h11 => ?_)
 ·exact gyq rfl (C3 M 0 rfl rfl rfl (yd rfl (BO rfl rfl rfl) (yb rfl (k11 M ⟨rfl, rfl, (by rw [h11]; rfl), trivial⟩))))
 ·exact yo rfl (yo rfl (yo rfl (yb rfl (k11 M ⟨rfl, rfl, (by rw [h11]; rfl), trivial⟩))))
def XS (a b : Bd) : Bool := (((decide (a.name = b.name)) && (decide ((a.v.kind.toNat : Int) = (b.v.kind.toNat : Int)))) && (decide ((chk a.v) = (0 : Int))))
theorem fF (a b : Bd) (w : World) (hb : (a.v.text.length : Int) < 4611686018427387904) (hY : Lay0 w) :
 Calls prog 58 #[.agg a.cells.toArray, .agg b.cells.toArray] w (BN w (.bool (XS a b))) := by
 refine BL func58 ntmps58 rfl fun M => srg (DD M rfl rfl fun g2 w1 hg2 M => DD M rfl rfl fun g3 w2 hg3 M => AG rfl (AC rfl (B2 M 1 rfl rfl rfl (yb rfl (B2 M 0 rfl rfl rfl ?_)))))
 refine ya rfl (CS rfl rfl rfl) (yb rfl (fvm M 8 [4, 2] [(18, .bool ((decide (a.name = b.name)) && (decide ((a.v.kind.toNat : Int) = (b.v.kind.toNat : Int)))))] ?_ (fun k10 => ?_)))
 ·intro w3 M
  refine yb rfl (fvm M 5 [4] [(24, .bool (((decide (a.name = b.name)) && (decide ((a.v.kind.toNat : Int) = (b.v.kind.toNat : Int)))) && (decide ((chk a.v) = (0 : Int)))))] ?_ (fun k19 => ?_))
  ·intro w4 M
   exact yb rfl (gnr (gr1 rfl ⟨by rw [XS], M.fr⟩))
  refine AD (d := 19) rfl (fun h19 => ?_) (fun h19 => ?_)
  ·refine gyq rfl (yd rfl (AH (xs := [.int .u8 (a.v.kind.toNat : Int), AA a.v.int, .bool a.v.bool, str a.v.text]) rfl rfl (DK (M.blk 1 rfl) 1 4 rfl rfl) underlying100 rfl CT) (sxl_call (some 22) (wn_on rfl rfl rfl) rfl rfl (AE rfl rfl call59) (HC a.v _ hb (hY.fr0 M.fr).utf) ?_))
   rintro _ w5 ⟨rfl, hfw5⟩
   refine ⟨_, rfl, ?_⟩
   have M := M.step hfw5
   exact yd rfl (BO rfl rfl rfl) (yb rfl (k19 M ⟨rfl, (by rw [h19]; rfl), trivial⟩))
  ·iterate 4 refine yo rfl ?_
   exact yb rfl (k19 M ⟨rfl, (by rw [h19]; rfl), trivial⟩)
 refine AD (d := 10) rfl (fun h10 => ?_) (fun h10 => ?_)
 ·exact gyq rfl (gyq rfl (C3 M 1 rfl rfl rfl (gyq rfl (gyq rfl (C3 M 0 rfl rfl rfl (yd rfl (BO rfl rfl rfl) (yb rfl (k10 M ⟨rfl, rfl, (by rw [h10]; rfl), trivial⟩))))))))
 ·iterate 7 refine yo rfl ?_
  exact yb rfl (k10 M ⟨rfl, rfl, (by rw [h10]; rfl), trivial⟩)
def HP : List Bd → List Bd → Bool
 | [], [] => true
 | a :: r, b :: s => XS a b && HP r s
 | _, _ => false
theorem OP : ∀ {l k : List Bd}, l.length ≠ k.length → HP l k = false
 | [], [], h => absurd rfl h
 | [], _ :: _, _ => rfl
 | _ :: _, [], _ => rfl
 | a :: r, b :: s, h => by
  rw [HP, OP (l := r) (k := s) (fun hh => h (by simp [hh])), Bool.and_false]
theorem oU (l1 l2 : List Bd) (A B : Option Addr) (c d : Nat) (w : World) (hok : BdOk l1) (hA : Rd w A (l1.length * 5) (AB Bd.cells l1)) (hB : Rd w B (l2.length * 5) (AB Bd.cells l2)) (hY : Lay0 w) :
 Calls prog 57 #[.slice A l1.length c, .slice B l2.length d, .func (.func 58) #[] #[]] w (BN w (.bool (HP l1 l2))) := by
 have hl := hok.len
 refine BL func57 ntmps57 rfl fun M => srg (AG rfl (sx_seq (AC rfl (DP rfl rfl (yb rfl (DP rfl rfl (FT rfl rfl (nq ?_))))))))
 refine AF rfl (fun h14 => ?_) (fun h14 => ?_)
 ·have h14p := (odf (BY h14))
  exact AC rfl (gnr (qx_then_ret (gr1 rfl ⟨by rw [OP A0], M.fr⟩)))
 ·have h14p := (odt (BJ h14))
  refine sx_skip (qx_seq (sx_seq (AC rfl (DP rfl rfl (AG rfl (sx_block (MX M [16, 15, 2, 1] (fun ze zF e wr mz => ∃ (i : Nat), e = (17, AA (i : Int)) :: ze ∧ zF wr ∧ (i ≤ l1.length) ∧ (HP l1 l2 = HP (l1.drop i) (l2.drop i)) ∧ mz = l1.length - i) ⟨0, rfl, M, Nat.zero_le _, rfl, rfl⟩ ?_)))))))
  rintro _ w1 _ ⟨i, rfl, M, hi, hE, rfl⟩
  refine srg (BM rfl rfl (nq (sx_seq (AF rfl (fun h18 => ?_) (fun h18 => ?_)))))
  ·have h18p := (odt h18)
   refine sx_skip (qx_seq (sx_seq (sx_block (AC rfl ?_))))
   obtain ⟨x, hx⟩ := BZ (l := l1) (i := i) A0
   obtain ⟨b_x, o_x, hA_x⟩ := B7 (k := 5) A0 (hA.fr0 M.fr) hx
   refine ya rfl (AP i hA_x rfl rfl rfl (sl rfl) A0) (ya rfl (AH rfl rfl (BB Bd.len (hA.fr0 M.fr) hA_x hx) underlying103 rfl DZ) (CO M rfl PG fun g8 w2 hg8 M => yb rfl (C2 M 0 rfl rfl DZ rfl fun w3 M => nq (AC rfl (yb rfl ?_)))))
   obtain ⟨y, hy⟩ := BZ (l := l2) (i := i) A0
   obtain ⟨b_y, o_y, hA_y⟩ := B7 (k := 5) A0 (hB.fr0 M.fr) hy
   refine ya rfl (AP i hA_y rfl rfl rfl (sl rfl) A0) (ya rfl (AH rfl rfl (BB Bd.len (hB.fr0 M.fr) hA_y hy) underlying103 rfl DZ) (CO M rfl PG fun g9 w4 hg9 M => C2 M 0 rfl rfl DZ rfl fun w5 M => nq (AC rfl (DO M 1 rfl rfl underlying103 DZ rfl (DO M 0 rfl rfl underlying103 DZ rfl (MC M 29 rfl (BC rfl rfl rfl call58) (fF x y _ (hok.text x (List.mem_of_getElem? hx)) (hY.fr0 M.fr)) fun w6 M => yb rfl (sxl_nil ?_)))))))
   refine qx_seq (AF rfl (fun h30 => ?_) (fun h30 => ?_))
   ·exact AC rfl (gnr (qx_block_ret (qx_then_ret (qx_then_ret (qx_block_ret (qx_then_ret (gr1 rfl ⟨by rw [hE, B0 hx, B0 hy, HP, BY h30]; rfl, M.fr⟩)))))))
   ·have h30p := (BJ h30)
    refine sx_skip (qx_block_normal (qx_seq (sx_region (C1 rfl rfl (yb rfl (sxl_nil (fag ⟨i + 1, rfl, (M.pick [] AU), ?_, ?_, rfl⟩)))))))
    ·omega
    ·rw [hE, B0 hx, B0 hy, HP, BJ h30]; rfl
  ·have h18p := (odf h18)
   refine sx_exit (qx_then_exit (qx_then_exit (qx_block_hit (qx_seq (AC rfl (gnr (gr1 rfl ?_)))))))
   obtain rfl : i = l1.length := by omega
   exact ⟨by rw [hE, List.drop_length, List.drop_of_length_le A0]; rfl, M.fr⟩
end Go.Proofs.YtaheakjfkpkefaaGreatDoor
