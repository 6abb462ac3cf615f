/- Lemmas that the last text rests on. Condition: each says its own. -/
import Derived.Test.YtjaocmocdhckaaaGreatDoorZMv7
import Derived.ArgAppend
set_option maxHeartbeats 16000000
set_option maxRecDepth 100000
namespace Go.Proofs.YtjaocmocdhckaaaGreatDoor
open Go.RowKit
open Tryz
theorem WW {m : Md} (l : List (List UInt8)) : (l.flatMap (DS m)).length ≤ l.length * m.els.length := by
 induction l with
 | nil => simp
 | cons a r ih =>
  have := G2 m a
  rw [List.flatMap_cons, List.length_append, List.length_cons, Nat.succ_mul]; omega
theorem TA {m : Md} {w : World} {gc : Nat} {c : CrA} {F : List Nat} (ho : MdOk m) (hC : CourseN w m gc c F) (t : Tk) : (E7 m c t).length ≤ 20000 := by
 have h1 : (W6 c t).length ≤ 400 := by
  have := hC.lenO t.loc
  have := ho.nfls
  unfold W6
  repeat' split
  all_goals first
   | (rw [List.length_map]; omega)
   | simp
 have h2 := WW (m := m) ([t.loc] ++ B5 m.els t.loc)
 have h3 := ML m.els t.loc
 have h4 : ([t.loc] ++ B5 m.els t.loc).length ≤ 65 := by rw [List.length_append, List.length_cons, List.length_nil]; omega
 have h5 := Nat.mul_le_mul h4 ho.nels
 unfold E7
 split
 ·simp
 ·rw [List.length_append]; omega
def XU (c : CrA) (t : Tk) (vars : List Bd) : List (List UInt8) → Option Int
 | [] => none
 | k :: r => if (!decide ((IG c k t.born vars).2 = (0 : Int))) = true then some (IG c k t.born vars).2 else XU c t vars r
def J6 (m : Md) (c : CrA) (t : Tk) (vars : List Bd) : List Wt × Int :=
 if (!(E1 m c t)) = true then ([], 1)
 else match XU c t vars (E7 m c t) with
  | some e => ([], e)
  | none => ((E7 m c t).map (fun k => (IG c k t.born vars).1), 0)
theorem SX : (prog.info? 54).map (fun i => (i.zero, i.size, i.bytes)) = some (some (.agg #[str [], .int .u8 0, str [], str [], AJ 0]), 5, 64) := by kernel_rfl
theorem UV : (prog.info? 54).map (fun i => (i.zero, i.size)) = some (some (.agg #[str [], .int .u8 0, str [], str [], AJ 0]), 5) := by kernel_rfl
theorem eJ (m : Md) (gc : Nat) (c : CrA) (F : List Nat) (t : Tk) (V : Option Addr) (cv : Nat) (vars : List Bd) (w : World) (ho : MdOk m) (hC : CourseN w m gc c F) (hvl : vars.length ≤ 4611686018427387904) (hV : Rd w V (vars.length * 5) (AH Bd.cells vars)) :
 Calls prog 11 #[.pointer (some ⟨gc, 0, none⟩), .slice V vars.length cv, .agg t.cells.toArray] w fun e w' => ∃ A c', e = .returned (.tuple #[.slice A (J6 m c t vars).1.length c', AJ (J6 m c t vars).2]) ∧ w'.ownsRow w.heap.size 54 5 (.slice A (J6 m c t vars).1.length c') (J6 m c t vars).1.length (AH Wt.cells (J6 m c t vars).1) ∧ Fr0 w w' := by
 have hvL := TA ho hC t
 refine C5 func11 ntmps11 rfl fun M => srg (CR M rfl rfl fun g5 w1 hg5 M => yb rfl (AY rfl (AF (AQ rfl (ya rfl (J5 rfl rfl rfl (pt rfl)) (nq ?_))))))
 refine D8 rfl (AI (AD (AF (AQ rfl (CW M 0 rfl rfl underlying43 BD rfl (D4 M 17 rfl rfl call27 (RJ m gc c F t _ ho (hC.fr0 M.fr)) fun w2 M => AY rfl (AL rfl (fun h18 => ?_) (fun h18 => ?_))))))))
 ·refine AQ rfl (yb rfl (gnr (AB (CI rfl rfl rfl ?_))))
  have hwp : J6 m c t vars = ([], 1) := if_pos h18
  rw [hwp]
  exact ⟨none, 0, rfl, World.ownsRow_nil _ _ _ _, M.fr⟩
 ·have h18p := (BQ h18)
  refine AI (AD (srg (AY rfl (AF (AQ rfl (CW M 0 rfl rfl underlying43 BD rfl (cl 21 rfl (AP rfl rfl call31) (Z7 m gc c F t _ ho (hC.fr0 M.fr)) ?_)))))))
  rintro _ w3 ⟨A21, c21, rfl, how3, hfw3⟩
  refine ⟨_, rfl, ?_⟩
  have M := M.pushOwn hfw3 (Nat.le_refl _) how3
  have hL21 := M.ownLen 0 rfl
  refine ya rfl (C3 rfl rfl (sl rfl)) (AY rfl (AS ?_))
  have M := M.nilOwn 54 5
  refine flp [22, 21, 5, 1, 0] (fun ze e wr mz => ∃ (i : Nat) (acc : List Wt) (A8 : Option Addr) (c8 : Nat), e = (8, .slice A8 acc.length c8) :: (23, AJ ((i : Nat) : Int)) :: ze ∧ Mem w B0 [As.own w.heap.size 54 5 (.slice A8 acc.length c8) acc.length (AH Wt.cells acc), As.own w.heap.size 9 1 (.slice A21 (E7 m c t).length c21) ((E7 m c t).length) (AH BY (E7 m c t)), As.blk g5 43 (Tk.cells t)] wr ∧ (i ≤ (E7 m c t).length) ∧ (acc = ((E7 m c t).take i).map (fun k => (IG c k t.born vars).1) ∧ acc.length = i) ∧ (XU c t vars (E7 m c t) = XU c t vars ((E7 m c t).drop i)) ∧ mz = (E7 m c t).length - i) ⟨0, [], none, 0, rfl, M, Nat.zero_le _, ⟨rfl, rfl⟩, rfl, rfl⟩ ?_
  rintro _ w4 _ ⟨i, acc, A8, c8, rfl, M, hi, hacc, hE, rfl⟩
  refine srg (CF rfl rfl (nq (AF (AL rfl (fun h24 => ?_) (fun h24 => ?_)))))
  ·have h24p := (odt h24)
   refine AI (AD (AF (AS (srg ?_))))
   obtain ⟨k, hk⟩ := CC (l := (E7 m c t)) (i := i) AM
   obtain ⟨b_k, o_k, hA_k⟩ := BI (k := 1) AM (M.rdOwn 1 rfl) hk
   refine ya rfl (B1 i hA_k rfl rfl rfl (sl rfl) AM) (yl rfl rfl (DQ E0 (M.rdOwn 1 rfl) hA_k hk 0 rfl) (AY rfl (AQ rfl (BM rfl rfl (BC M 2 rfl rfl rfl (yb rfl (D4 M 33 rfl rfl call32 (lM m gc c F k t.born V cv vars _ (hC.fr0 M.fr) hvl (hV.fr0 M.fr)) fun w5 M => BM rfl rfl (yb rfl ?_))))))))
   refine DC M rfl LN fun g11 w6 hg11 M => C4 M 0 rfl rfl DB rfl fun w7 M => AY rfl (AF (AQ rfl (DA rfl rfl (nq (AL rfl (fun h37 => ?_) (fun h37 => ?_))))))
   ·refine AQ rfl (BM rfl rfl (gnr (AB (AN (AB (AB (AN (AB (CI rfl rfl rfl ?_)))))))))
    have hwp : J6 m c t vars = ([], (IG c k t.born vars).2) := by rw [J6, AT h18, hE, B7 hk, XU, if_pos h37]
    rw [hwp]
    exact ⟨none, 0, rfl, World.ownsRow_nil _ _ _ _, M.fr⟩
   ·have h37p := (odt (BQ h37))
    refine AI (AD (AK (yb rfl (CW M 0 rfl rfl underlying54 DB rfl (DF M (AA rfl) rfl rfl [.agg (Wt.cells ((IG c k t.born vars).1)).toArray] (Wt.cells ((IG c k t.born vars).1)) rfl rfl rfl rfl underlying50 UV rfl rfl (HE rfl) rfl fun g41 w8 hg41 M => EH (len' := (acc ++ [((IG c k t.born vars).1)]).length) (xs' := AH Wt.cells (acc ++ [((IG c k t.born vars).1)])) M 2 (AA rfl) rfl rfl rfl rfl rfl rfl (M.rdBlk 0 rfl rfl) underlying50 SX rfl BU (BP rfl) (Nat.le_refl _) (Nat.le_refl _) CX (by unfold maxLen; first | omega | (simp only [List.length_append, List.length_cons, List.length_nil]; omega)) (by simp) (by first | exact (C1 _ _ _).symm | simp [AH]) fun A42 c42 w9 M => yb rfl (AR (AE (AD (AK (ya rfl (BO rfl rfl rfl AM) (yb rfl ?_)))))))))))
    refine AR (fag ⟨i + 1, acc ++ [((IG c k t.born vars).1)], A42, c42, rfl, (M.pk [2, 3, 4]), ?_, ?_, ?_, rfl⟩)
    ·omega
    ·exact ⟨by rw [hacc.1, B4 hk, List.map_append]; rfl, by rw [List.length_append, hacc.2]; rfl⟩
    ·rw [hE, B7 hk, XU, AT h37]
  ·have h24p := (odf h24)
   refine BF (AG (AG ?_))
   have hiE : i = (E7 m c t).length := by omega
   have hac := hacc.1
   rw [hiE, List.take_length] at hac
   have hLe : XU c t vars (E7 m c t) = none := by rw [hE, hiE, List.drop_length]; rfl
   refine AV (AD (AQ rfl (BM rfl rfl (gnr (CI rfl rfl rfl ?_)))))
   have hwp : J6 m c t vars = (acc, 0) := by rw [J6, AT h18, hLe, hac]
   rw [hwp]
   exact ⟨_, _, rfl, M.own 0 rfl, M.fr⟩
def IO (t : Tk) (k : Int) : Bool := (((decide ((0 : Int) ≤ t.born)) && (decide (t.born ≤ k))) && (((decide (t.worker = [])) && (decide (t.until_ = (0 : Int)))) || (((CT t.worker) && (decide ((0 : Int) ≤ t.until_))) && (decide (t.until_ ≤ (k + (1048576 : Int)))))))
theorem VV (gc : Nat) (t : Tk) (k : Int) (w : World) (hw : (t.worker.length : Int) < 4611686018427387904) (hk : 0 ≤ k ∧ k ≤ 1099511627776) :
 Calls prog 28 #[.pointer (some ⟨gc, 0, none⟩), .agg t.cells.toArray, AJ k] w (CG w (.bool (IO t k))) := by
 refine C5 func28 ntmps28 rfl fun M => srg (CR M rfl rfl fun g4 w1 hg4 M => AY rfl (AQ rfl (BC M 0 rfl rfl rfl (ya rfl (DM rfl rfl rfl) (yb rfl (fvm M 4 [4, 2] [(15, .bool ((decide (t.worker = [])) && (decide (t.until_ = (0 : Int)))))] ?_ (fun k11 => ?_)))))))
 ·intro w2 M
  refine yb rfl (fvm M 16 [4, 2] [(32, .bool (((decide (t.worker = [])) && (decide (t.until_ = (0 : Int)))) || (((CT t.worker) && (decide ((0 : Int) ≤ t.until_))) && (decide (t.until_ ≤ (k + (1048576 : Int)))))))] ?_ (fun k16 => ?_))
  ·intro w3 M
   refine AY rfl (AQ rfl (BC M 0 rfl rfl rfl (RX rfl rfl (yb rfl (fvm M 5 [7] [(41, .bool ((decide ((0 : Int) ≤ t.born)) && (decide (t.born ≤ k))))] ?_ (fun k36 => ?_))))))
   ·intro w4 M
    refine yb rfl (fvm M 2 [] [(44, .bool (((decide ((0 : Int) ≤ t.born)) && (decide (t.born ≤ k))) && (((decide (t.worker = [])) && (decide (t.until_ = (0 : Int)))) || (((CT t.worker) && (decide ((0 : Int) ≤ t.until_))) && (decide (t.until_ ≤ (k + (1048576 : Int))))))))] ?_ (fun k42 => ?_))
    ·intro w5 M
     exact yb rfl (gnr (gr1 rfl ⟨by rw [IO], M.fr⟩))
    refine AO (d := 42) rfl (fun h42 => ?_) (fun h42 => ?_)
    ·exact gyq rfl (yb rfl (k42 M ⟨(by rw [h42]; rfl), trivial⟩))
    ·exact yo rfl (yb rfl (k42 M ⟨(by rw [h42]; rfl), trivial⟩))
   refine AO (d := 36) rfl (fun h36 => ?_) (fun h36 => ?_)
   ·exact gyq rfl (CJ M 0 rfl rfl rfl (gyq rfl (yd rfl (GP rfl rfl rfl) (yb rfl (k36 M ⟨rfl, (by rw [h36]; rfl), trivial⟩)))))
   ·iterate 4 refine yo rfl ?_
    exact yb rfl (k36 M ⟨rfl, (by rw [h36]; rfl), trivial⟩)
  refine AO (d := 16) rfl (fun h16 => ?_) (fun h16 => ?_)
  ·iterate 4 refine yo rfl ?_
   refine CB rfl rfl rfl rfl rfl (CB rfl rfl rfl rfl rfl (CB rfl rfl rfl rfl rfl (yo rfl (yo rfl ?_))))
   iterate 5 refine CB rfl rfl rfl rfl rfl ?_
   exact yo rfl (yb rfl (k16 M ⟨rfl, rfl, (by rw [h16]; rfl), trivial⟩))
  ·refine gyq rfl (CJ M 0 rfl rfl rfl (B3 (some 19) (BG rfl rfl rfl) rfl rfl (AP rfl rfl call67) (EI _ _ (by first | assumption | omega)) ?_))
   rintro _ w6 ⟨rfl, hfw6⟩
   refine ⟨_, rfl, ?_⟩
   have M := M.step hfw6
   refine gyq rfl (fvm M 4 [16, 4, 2] [(24, .bool ((CT t.worker) && (decide ((0 : Int) ≤ t.until_))))] ?_ (fun k20 => ?_))
   ·intro w7 M
    refine gyq rfl (fvm M 6 [16, 4, 2] [(31, .bool (((CT t.worker) && (decide ((0 : Int) ≤ t.until_))) && (decide (t.until_ ≤ (k + (1048576 : Int))))))] ?_ (fun k25 => ?_))
    ·intro w8 M
     exact yb rfl (k16 M ⟨rfl, rfl, (by rw [h16]; rfl), trivial⟩)
    refine AO (d := 25) rfl (fun h25 => ?_) (fun h25 => ?_)
    ·exact gyq rfl (CJ M 0 rfl rfl rfl (gyq rfl (yd rfl (BO rfl rfl rfl AM) (yd rfl (GP rfl rfl rfl) (gyq rfl (k25 M ⟨rfl, rfl, rfl, (by rw [h25]; rfl), trivial⟩))))))
    ·iterate 5 refine yo rfl ?_
     exact gyq rfl (k25 M ⟨rfl, rfl, rfl, (by rw [h25]; rfl), trivial⟩)
   refine AO (d := 20) rfl (fun h20 => ?_) (fun h20 => ?_)
   ·exact gyq rfl (CJ M 0 rfl rfl rfl (yd rfl (FQ rfl rfl rfl) (gyq rfl (k20 M ⟨rfl, rfl, rfl, (by rw [h20]; rfl), trivial⟩))))
   ·exact yo rfl (yo rfl (yo rfl (gyq rfl (k20 M ⟨rfl, rfl, rfl, (by rw [h20]; rfl), trivial⟩))))
 refine AO (d := 11) rfl (fun h11 => ?_) (fun h11 => ?_)
 ·exact gyq rfl (CJ M 0 rfl rfl rfl (yd rfl (BZ rfl rfl rfl) (yb rfl (k11 M ⟨rfl, rfl, (by rw [h11]; rfl), trivial⟩))))
 ·exact yo rfl (yo rfl (yo rfl (yb rfl (k11 M ⟨rfl, rfl, (by rw [h11]; rfl), trivial⟩))))
def XV (a b : Bd) : Bool := (((decide (a.name = b.name)) && (decide ((a.v.kind.toNat : Int) = (b.v.kind.toNat : Int)))) && (decide ((chk a.v) = (0 : Int))))
theorem eP (a b : Bd) (w : World) (hb : (a.v.text.length : Int) < 4611686018427387904) (hY : Lay0 w) :
 Calls prog 64 #[.agg a.cells.toArray, .agg b.cells.toArray] w (CG w (.bool (XV a b))) := by
 refine C5 func64 ntmps64 rfl fun M => srg (CR M rfl rfl fun g2 w1 hg2 M => CR M rfl rfl fun g3 w2 hg3 M => AY rfl (AQ rfl (BC M 1 rfl rfl rfl (yb rfl (BC M 0 rfl rfl rfl ?_)))))
 refine ya rfl (DM rfl rfl rfl) (yb rfl (fvm M 8 [4, 2] [(18, .bool ((decide (a.name = b.name)) && (decide ((a.v.kind.toNat : Int) = (b.v.kind.toNat : Int)))))] ?_ (fun k10 => ?_)))
 ·intro w3 M
  refine yb rfl (fvm M 5 [4] [(24, .bool (((decide (a.name = b.name)) && (decide ((a.v.kind.toNat : Int) = (b.v.kind.toNat : Int)))) && (decide ((chk a.v) = (0 : Int)))))] ?_ (fun k19 => ?_))
  ·intro w4 M
   exact yb rfl (gnr (gr1 rfl ⟨by rw [XV], M.fr⟩))
  refine AO (d := 19) rfl (fun h19 => ?_) (fun h19 => ?_)
  ·refine gyq rfl (yd rfl (AU (xs := [.int .u8 (a.v.kind.toNat : Int), AJ a.v.int, .bool a.v.bool, str a.v.text]) rfl rfl (FS (M.blk 1 rfl) 1 4 rfl rfl) underlying45 rfl AC) (B3 (some 22) (BG rfl rfl rfl) rfl rfl (AP rfl rfl call65) (FR a.v _ hb (hY.fr0 M.fr).utf) ?_))
   rintro _ w5 ⟨rfl, hfw5⟩
   refine ⟨_, rfl, ?_⟩
   have M := M.step hfw5
   exact yd rfl (BZ rfl rfl rfl) (yb rfl (k19 M ⟨rfl, (by rw [h19]; rfl), trivial⟩))
  ·iterate 4 refine yo rfl ?_
   exact yb rfl (k19 M ⟨rfl, (by rw [h19]; rfl), trivial⟩)
 refine AO (d := 10) rfl (fun h10 => ?_) (fun h10 => ?_)
 ·exact gyq rfl (gyq rfl (CJ M 1 rfl rfl rfl (gyq rfl (gyq rfl (CJ M 0 rfl rfl rfl (yd rfl (BZ rfl rfl rfl) (yb rfl (k10 M ⟨rfl, rfl, (by rw [h10]; rfl), trivial⟩))))))))
 ·iterate 7 refine yo rfl ?_
  exact yb rfl (k10 M ⟨rfl, rfl, (by rw [h10]; rfl), trivial⟩)
def HO : List Bd → List Bd → Bool
 | [], [] => true
 | a :: r, b :: s => XV a b && HO r s
 | _, _ => false
theorem PA : ∀ {l k : List Bd}, l.length ≠ k.length → HO l k = false
 | [], [], h => absurd rfl h
 | [], _ :: _, _ => rfl
 | _ :: _, [], _ => rfl
 | a :: r, b :: s, h => by
  rw [HO, PA (l := r) (k := s) (fun hh => h (by simp [hh])), Bool.and_false]
theorem o0 (l1 l2 : List Bd) (A B : Option Addr) (c d : Nat) (w : World) (hok : BdOk l1) (hA : Rd w A (l1.length * 5) (AH Bd.cells l1)) (hB : Rd w B (l2.length * 5) (AH Bd.cells l2)) (hY : Lay0 w) :
 Calls prog 63 #[.slice A l1.length c, .slice B l2.length d, .func (.func 64) #[] #[]] w (CG w (.bool (HO l1 l2))) := by
 have hl := hok.len
 refine C5 func63 ntmps63 rfl fun M => srg (AY rfl (AF (AQ rfl (ya rfl (C3 rfl rfl (sl rfl)) (yb rfl (ya rfl (C3 rfl rfl (sl rfl)) (DA rfl rfl (nq ?_))))))))
 refine AL rfl (fun h14 => ?_) (fun h14 => ?_)
 ·have h14p := (odf (CK h14))
  exact AQ rfl (gnr (AB (gr1 rfl ⟨by rw [PA AM], M.fr⟩)))
 ·have h14p := (odt (BQ h14))
  refine AI (AD (AF (AQ rfl (ya rfl (C3 rfl rfl (sl rfl)) (AY rfl (AS (flp [16, 15, 2, 1] (fun ze e wr mz => ∃ (i : Nat), e = (17, AJ ((i : Nat) : Int)) :: ze ∧ Mem w B0 [] wr ∧ (i ≤ l1.length) ∧ (HO l1 l2 = HO (l1.drop i) (l2.drop i)) ∧ mz = l1.length - i) ⟨0, rfl, M, Nat.zero_le _, rfl, rfl⟩ ?_)))))))
  rintro _ w1 _ ⟨i, rfl, M, hi, hE, rfl⟩
  refine srg (CF rfl rfl (nq (AF (AL rfl (fun h18 => ?_) (fun h18 => ?_)))))
  ·have h18p := (odt h18)
   refine AI (AD (AF (AS (AQ rfl ?_))))
   obtain ⟨x, hx⟩ := CC (l := l1) (i := i) AM
   obtain ⟨b_x, o_x, hA_x⟩ := BI (k := 5) AM (hA.fr0 M.fr) hx
   refine ya rfl (B1 i hA_x rfl rfl rfl (sl rfl) AM) (ya rfl (AU rfl rfl (BV Bd.len (hA.fr0 M.fr) hA_x hx) underlying47 rfl EY) (DC M rfl Q0 fun g8 w2 hg8 M => yb rfl (C4 M 0 rfl rfl EY rfl fun w3 M => nq (AQ rfl (yb rfl ?_)))))
   obtain ⟨y, hy⟩ := CC (l := l2) (i := i) AM
   obtain ⟨b_y, o_y, hA_y⟩ := BI (k := 5) AM (hB.fr0 M.fr) hy
   refine ya rfl (B1 i hA_y rfl rfl rfl (sl rfl) AM) (ya rfl (AU rfl rfl (BV Bd.len (hB.fr0 M.fr) hA_y hy) underlying47 rfl EY) (DC M rfl Q0 fun g9 w4 hg9 M => C4 M 0 rfl rfl EY rfl fun w5 M => nq (AQ rfl (CW M 1 rfl rfl underlying47 EY rfl (CW M 0 rfl rfl underlying47 EY rfl (OZ M 29 rfl (BX rfl rfl rfl call64) (eP x y _ (hok.text x (List.mem_of_getElem? hx)) (hY.fr0 M.fr)) fun w6 M => yb rfl (AR ?_)))))))
   refine AD (AL rfl (fun h30 => ?_) (fun h30 => ?_))
   ·exact AQ rfl (gnr (AN (AB (AB (AN (AB (gr1 rfl ⟨by rw [hE, B7 hx, B7 hy, HO, CK h30]; rfl, M.fr⟩)))))))
   ·have h30p := (BQ h30)
    refine AI (AE (AD (AK (ya rfl (BO rfl rfl rfl AM) (yb rfl (AR (fag ⟨i + 1, rfl, (M.pick [] BU), ?_, ?_, rfl⟩)))))))
    ·omega
    ·rw [hE, B7 hx, B7 hy, HO, BQ h30]; rfl
  ·have h18p := (odf h18)
   refine BF (AG (AG (AV (AD (AQ rfl (gnr (gr1 rfl ?_)))))))
   obtain rfl : i = l1.length := by omega
   exact ⟨by rw [hE, List.drop_length, List.drop_of_length_le AM]; rfl, M.fr⟩
theorem Z8 (m : Md) (gc : Nat) (c : CrA) (F : List Nat) (l : List Bd) (A : Option Addr) (cap : Nat) (w : World) (hC : CourseN w m gc c F) (hok : BdOk l) (hA : Rd w A (l.length * 5) (AH Bd.cells l)) (hY : Lay0 w) :
 Calls prog 26 #[.pointer (some ⟨gc, 0, none⟩), .slice A l.length cap] w (CG w (.bool (HO l m.vars))) := by
 refine C5 func26 ntmps26 rfl fun M => srg (AY rfl (srg ?_))
 iterate 5 refine yb rfl ?_
 exact yl rfl rfl (Blk.c ((hC.fr0 M.fr).blk) 2 rfl) (D4 M 11 rfl rfl call63 (o0 l m.vars A c.a.V cap c.a.vc _ hok (hA.fr0 M.fr) ((hC.fr0 M.fr).md.md.vars) (hY.fr0 M.fr)) fun w1 M => yb rfl (gnr (gr1 rfl ⟨rfl, M.fr⟩)))
theorem kF (g3 : Nat) (id : Int) (t : Tk) (w : World) (hb : Blk w g3 3 [AJ id]) :
 Calls prog 21 #[.agg t.cells.toArray, .pointer (some ⟨g3, 0, none⟩)] w (CG w (.bool (decide (t.id = id)))) := by
 refine C5 func21 ntmps21 rfl fun M => srg (CR M rfl rfl fun g2 w1 hg2 M => AY rfl (AQ rfl (BC M 0 rfl rfl rfl (yl rfl rfl (Blk.c (hb.fr0 M.fr) 0 rfl) (CN rfl rfl (yb rfl (AR ?_)))))))
 exact AD (BN (gr1 rfl ⟨rfl, M.fr⟩))
section
section
variable {P : Program} {e : Env} {w : World} {o : Oper} {ρ : Operand → Value}
theorem oP {t len cap sz el : Nat} {A : Option Addr} (k : Nat) {x i : Operand} (ho : o.op = .slice t x none (some i) none) (hx : ev e x = some (.slice A len cap)) (hi : ev e i = some (AJ (k : Int))) (ht : DY P t = some (el, sz)) (h : k ≤ cap) : Y P e o w (.slice A k cap) := by
 have := aW (w := w) ho hx hi ht AM
 rwa [Int.toNat_natCast] at this
theorem Z0 {t len cap sz el g : Nat} (k : Nat) {x i : Operand} (ho : o.op = .slice t x (some i) none none) (hx : ev e x = some (.slice (some ⟨g, 0, none⟩) len cap)) (hi : ev e i = some (AJ (k : Int))) (ht : DY P t = some (el, sz)) (h : k ≤ len) : Y P e o w (.slice (if cap = k then some ⟨g, 0, none⟩ else some ⟨g, 0 + k * sz, none⟩) (len - k) (cap - k)) := by
 have := VF (w := w) ho hx hi ht AM
 rw [Int.toNat_natCast, Option.map_some, Addr.add_mid] at this
 exact this
theorem oQ {t len cap sz el g : Nat} (lo n : Nat) {x i j : Operand} (ho : o.op = .slice t x (some i) (some j) none) (hx : ev e x = some (.slice (some ⟨g, 0, none⟩) len cap)) (hi : ev e i = some (AJ (lo : Int))) (hj : ev e j = some (AJ (n : Int))) (ht : DY P t = some (el, sz)) (h1 : lo < n) (h2 : n ≤ cap) :
 Y P e o w (.slice (some ⟨g, 0 + lo * sz, none⟩) (n - lo) (cap - lo)) := fun ρ h => by
 unfold DY at ht
 split at ht
 ·rename_i el' hu
  split at ht
  ·rename_i i' hi'
   simp only [Option.some.injEq, Prod.mk.injEq] at ht
   obtain ⟨rfl, rfl⟩ := ht
   have q2 : lo ≤ n := by omega
   have q4 : ¬ cap = lo := by omega
   unfold execOp
   simp [ho, h _ _ hx, h _ _ hi, h _ _ hj, Instr.sliceAt, Instr.slice, run_underlying hu, Instr.sliceBounds, Instr.sliceBound, asIntOf, q2, h2, q4, sizeOf, typeInfo, hi', Addr.add_lit]
  ·cases ht
 ·cases ht
theorem rD {t len cap sz el g : Nat} (i n m : Nat) {x a b c : Operand} (ho : o.op = .slice t x (some a) (some b) (some c)) (hx : ev e x = some (.slice (some ⟨g, 0, none⟩) len cap)) (ha : ev e a = some (AJ (i : Int))) (hb : ev e b = some (AJ (n : Int))) (hc : ev e c = some (AJ (m : Int))) (ht : DY P t = some (el, sz)) (h1 : i ≤ n) (h2 : n ≤ m) (h3 : m ≤ cap) (h4 : i < m) :
 Y P e o w (.slice (some ⟨g, 0 + i * sz, none⟩) (n - i) (m - i)) := fun ρ h => by
 unfold DY at ht
 split at ht
 ·rename_i el' hu
  split at ht
  ·rename_i i' hi'
   simp only [Option.some.injEq, Prod.mk.injEq] at ht
   obtain ⟨rfl, rfl⟩ := ht
   have q5 : ¬ m = i := by omega
   unfold execOp
   simp [ho, h _ _ hx, h _ _ ha, h _ _ hb, h _ _ hc, Instr.sliceAt, Instr.slice, run_underlying hu, Instr.sliceBounds, Instr.sliceBound, asIntOf, h1, h2, h3, q5, sizeOf, typeInfo, hi', Addr.add_lit]
  ·cases ht
 ·cases ht
theorem S6 {s x : Operand} {t : TypeId} (ho : o.op = .call { callee := .builtin .append, args := #[s, x], argTypes := #[t, t] }) {el : TypeId} {size g n cap m c : Nat} {cs news : List Value} {A : Option Addr} (ht : P.underlying t = some (.slice el)) (hi : (P.info? el).map (·.size) = some size)
 (hs : ρ s = .slice (some ⟨g, 0, none⟩) n cap) (hb : Blk w g el cs) (hx : ρ x = .slice A m c) (hr : Rd w A (m * size) news) (h1 : ∀ u ∈ news, u.oneCell' = true) (hroom : n + m ≤ cap) (hl : n * size + news.length ≤ cs.length) :
 GM P ρ o w fun v w' => v = .slice (some ⟨g, 0, none⟩) (n + m) cap ∧ Blk w' g el (put cs (n * size) news) ∧ Fr (fun k => k = g) w w' := by
 have hst := run_storeCells_at P g (n * size) el news 0 cs.toArray w hb (by simpa using hl) h1
 simp only [Nat.add_zero] at hst
 refine ⟨_, w.setRow g (put cs (n * size) news).toArray, .inl ?_, rfl, setRow_heap w g _ _ el _ hb, MT w g _⟩
 cases hq : P.info? el with
 | none => simp [hq] at hi
 | some i =>
  have hsz : i.size = size := by simpa [hq] using hi
  subst hsz
  have hfc : (Builtin.firstCells i.size m (.slice A m c)).run P w = .ok news.toArray w := by
   rcases A with _ | ad
   ·have : news = [] := by
     rcases Nat.eq_zero_or_pos (m * i.size) with h0 | h0
     ·exact List.eq_nil_of_length_eq_zero (by rw [hr.1, h0])
     ·obtain ⟨b, off, h, _⟩ := hr.2 h0; cases h
    subst this; rfl
   ·refine run_firstCells_some (P := P) w i.size m ad m c news hr.1 (fun j u hu => ?_)
    have hl : 0 < m * i.size := by have := (List.getElem?_eq_some_iff.1 hu).1; rw [hr.1] at this; omega
    obtain ⟨b', off', h, hc⟩ := hr.2 hl
    injection h with h
    subst h
    rw [Addr.add_mid]; exact hc j u hu
  unfold execOp
  simp [ho, hs, hx, resolve, invoke, builtin, Builtin.append_, run_underlying ht, sizeOf, typeInfo, hq, Builtin.lenOf, hroom, hfc, Addr.add_lit, hst, put]
theorem TW {x : Operand} {t : TypeId} (ho : o.op = .call { callee := .builtin .clear, args := #[x], argTypes := #[t] }) {el : TypeId} {g off n c : Nat} {cs zs : List Value} {z : Value} (ht : P.underlying t = some (.slice el)) (hi : (P.info? el).map (·.zero) = some (some z)) (hz : z.cells = zs.toArray)
 (hx : ρ x = .slice (some ⟨g, off, none⟩) n c) (hn : n = 1) (hb : Blk w g el cs) (h1 : ∀ u ∈ zs, u.oneCell' = true) (hl : off + zs.length ≤ cs.length) :
 GM P ρ o w fun _ w' => Blk w' g el (put cs off zs) ∧ Fr (fun k => k = g) w w' := by
 subst hn
 have hst := run_storeCells_at P g off el zs 0 cs.toArray w hb (by simpa using hl) h1
 simp only [Nat.add_zero] at hst
 refine ⟨.tuple #[], w.setRow g (put cs off zs).toArray, .inl ?_, setRow_heap w g _ _ el _ hb, MT w g _⟩
 cases hq : P.info? el with
 | none => simp [hq] at hi
 | some i =>
  have hzz : i.zero = some z := by simpa [hq] using hi
  have hzc : (Builtin.zeroCells z.cells 1).toList = zs := by
   rw [hz]
   apply List.ext_getElem
   ·simp [Builtin.zeroCells]
   ·intro k h1 h2
    simp [Builtin.zeroCells, Nat.mod_eq_of_lt h2, h2]
  unfold execOp
  simp [ho, hx, resolve, invoke, builtin, Builtin.clear_, run_underlying ht, zeroValue, typeInfo, hq, hzz, hzc, hst, put]
end
theorem ZL {w : World} {g n k cap sz : Nat} {t : TypeId} {cs : List Value} (hb : Blk w g t cs) (hl : n * sz ≤ cs.length) (hk : k ≤ n) (hn : n ≤ cap) : Rd w (if cap = k then some ⟨g, 0, none⟩ else some ⟨g, 0 + k * sz, none⟩) ((n - k) * sz) ((cs.take (n * sz)).drop (k * sz)) := by
 have hlen : ((cs.take (n * sz)).drop (k * sz)).length = (n - k) * sz := by
  rw [List.length_drop, List.length_take, Nat.min_eq_left hl, Nat.sub_mul]
 refine ⟨hlen, fun h0 => ?_⟩
 have hck : ¬ cap = k := fun hh => by
  have : n - k = 0 := by omega
  rw [this, Nat.zero_mul] at h0; omega
 rw [if_neg hck]
 refine ⟨g, _, rfl, fun j u hu => ?_⟩
 rw [List.getElem?_drop] at hu
 have h2 := List.getElem?_take_of_lt (l := cs) (i := k * sz + j) (j := n * sz) (by
  have := (List.getElem?_eq_some_iff.1 hu).1
  rw [List.length_take] at this; omega)
 rw [h2] at hu
 have := (hb.c (k * sz + j) hu).get w rfl
 simpa using this
def X9 (cs zs : List Value) (n i sz : Nat) : List Value := put (put cs (i * sz) ((cs.take (n * sz)).drop ((i + 1) * sz))) ((i + (n - (i + 1))) * sz) zs
theorem jX {cs zs : List Value} {n i sz : Nat} (hl : n * sz ≤ cs.length) (hi : i < n) (hz : zs.length = sz) : (X9 cs zs n i sz).length = cs.length := by
 have e1 : n * sz = i * sz + sz + (n - (i + 1)) * sz := by
  rw [← Nat.add_one_mul, ← Nat.add_mul]; congr 1; omega
 have e2 : (i + (n - (i + 1))) * sz = i * sz + (n - (i + 1)) * sz := Nat.add_mul _ _ _
 have e3 : (i + 1) * sz = i * sz + sz := Nat.add_one_mul _ _
 have h1 : (put cs (i * sz) ((cs.take (n * sz)).drop ((i + 1) * sz))).length = cs.length := J9 _ _ _ (by rw [List.length_drop, List.length_take]; omega)
 unfold X9
 rw [J9 _ _ _ AM, h1]
theorem dF {α : Type} {cells : α → List Value} {cs zs : List Value} {l : List α} {i sz : Nat} (hk : ∀ x, (cells x).length = sz) (ht : cs.take (l.length * sz) = AH cells l) (hl : l.length * sz ≤ cs.length) (hi : i < l.length) (hz : zs.length = sz) :
 (X9 cs zs l.length i sz).take ((i + (l.length - (i + 1))) * sz) = AH cells (l.eraseIdx i) := by
 have e1 : l.length * sz = i * sz + sz + (l.length - (i + 1)) * sz := by
  rw [← Nat.add_one_mul, ← Nat.add_mul]; congr 1; omega
 have e2 : (i + (l.length - (i + 1))) * sz = i * sz + (l.length - (i + 1)) * sz := Nat.add_mul _ _ _
 have e3 : (i + 1) * sz = i * sz + sz := Nat.add_one_mul _ _
 have hp : (put cs (i * sz) ((cs.take (l.length * sz)).drop ((i + 1) * sz))).length = cs.length := J9 _ _ _ (by rw [List.length_drop, List.length_take]; omega)
 have fl : ∀ k : List α, (AH cells k).length = k.length * sz := fun k => by
  induction k with
  | nil => simp [AH]
  | cons x r ih => rw [show AH cells (x :: r) = cells x ++ AH cells r from rfl, List.length_append, hk, ih, List.length_cons, Nat.add_one_mul, Nat.add_comm]
 have sp : ∀ k : Nat, k ≤ l.length → AH cells l = AH cells (l.take k) ++ AH cells (l.drop k) := fun k _ => by
  conv => lhs; rw [← List.take_append_drop k l]
  rw [C1]
 have f1 : (AH cells (l.take i)).length = i * sz := by rw [fl, List.length_take, Nat.min_eq_left AM]
 have f2 : (AH cells (l.take (i + 1))).length = (i + 1) * sz := by rw [fl, List.length_take, Nat.min_eq_left AM]
 have hd : (cs.take (l.length * sz)).drop ((i + 1) * sz) = AH cells (l.drop (i + 1)) := by
  rw [ht, sp (i + 1) AM, List.drop_append_of_le_length AM, ← f2, List.drop_length, List.nil_append]
 have hti : cs.take (i * sz) = AH cells (l.take i) := by
  have : (cs.take (l.length * sz)).take (i * sz) = cs.take (i * sz) := by rw [List.take_take, Nat.min_eq_left AM]
  rw [← this, ht, sp i AM, List.take_append_of_le_length AM, ← f1, List.take_length]
 have f3 : (AH cells (l.drop (i + 1))).length = (l.length - (i + 1)) * sz := by rw [fl, List.length_drop]
 unfold X9
 rw [put, List.take_append_of_le_length (by rw [List.length_take, hp]; omega), List.take_take, Nat.min_self, put, hd, hti, List.eraseIdx_eq_take_drop_succ, C1, e2]
 rw [List.take_append, f1, List.take_of_length_le AM, show i * sz + (l.length - (i + 1)) * sz - i * sz = (l.length - (i + 1)) * sz by omega, List.take_append_of_le_length AM, ← f3, List.take_length]
theorem ZP {α : Type} {cells : α → List Value} {w' : World} {zs : List Value} {l : List α} {i sz base g cap : Nat} {t : TypeId} {cur : List Value} (hk : ∀ x, (cells x).length = sz) (hb : Blk w' g t (X9 cur zs l.length i sz)) (hg : base ≤ g) (hcap : l.length ≤ cap) (hm : cap ≤ maxLen) (hc : cur.length = cap * sz) (ht : cur.take (l.length * sz) = AH cells l) (hi : i < l.length) (hz : zs.length = sz) :
 w'.ownsRow base t sz (.slice (some ⟨g, 0, none⟩) (l.eraseIdx i).length cap) (l.eraseIdx i).length (AH cells (l.eraseIdx i)) := by
 have hle : l.length * sz ≤ cur.length := by rw [hc]; exact Nat.mul_le_mul_right _ hcap
 have hlen : (l.eraseIdx i).length = i + (l.length - (i + 1)) := by rw [List.length_eraseIdx_of_lt hi]; omega
 have htk := dF (zs := zs) hk ht hle hi hz
 have hdl := jX (zs := zs) hle hi hz
 rw [hlen]
 refine ⟨?_, .inr ⟨g, cap, (X9 cur zs l.length i sz).toArray, rfl, hg, hb, by omega, hm, by simp [hdl, hc], by simpa using htk⟩⟩
 rw [← htk, List.length_take, hdl]
 refine Nat.min_eq_left (Nat.le_trans (Nat.mul_le_mul_right _ AM) hle)
end
end Go.Proofs.YtjaocmocdhckaaaGreatDoor
