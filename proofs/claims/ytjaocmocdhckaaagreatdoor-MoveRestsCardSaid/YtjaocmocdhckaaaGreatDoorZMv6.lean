/- Lemmas that the last text rests on. Condition: each says its own. -/
import Derived.Test.YtjaocmocdhckaaaGreatDoorZMv5
set_option maxHeartbeats 16000000
set_option maxRecDepth 100000
namespace Go.Proofs.YtjaocmocdhckaaaGreatDoor
open Go.RowKit
open Tryz
def Tk.same (a b : Tk) : Bool := decide (a.id = b.id) && (decide (a.loc = b.loc) && (decide (a.on = b.on) && (decide (a.born = b.born) && (decide (a.tries = b.tries) && (decide (a.worker = b.worker) && (decide (a.until_ = b.until_) && (decide ((a.inc.toNat : Int) = (b.inc.toNat : Int)) && (decide (a.err = b.err)))))))))
theorem VU : prog.eqGuardType prog.depth 43 = false := by kernel_rfl
theorem lZ : prog.stoodInHeld 43 = false := by kernel_rfl
theorem bF : prog.underlying 43 = some (.struct (prog.fieldsOf 43)) := by kernel_rfl
theorem eY {w : World} (a b : Tk) : (Op.equalIn 10000 43 (.agg a.cells.toArray) (.agg b.cells.toArray)).run prog w = .ok (a.same b) w := by
 have s_ : ∀ (u v : List UInt8), (Op.equalIn 9999 9 (str u) (str v)).run prog w = .ok (decide (u = v)) w := fun u v => by
  have := run_equalIn_string (P := prog) w 9998 9 ⟨u.toArray⟩ ⟨v.toArray⟩ underlying9
  unfold str
  rw [this, ByteArray.toList_eq, ByteArray.toList_eq]
  by_cases huv : u = v <;> simp [huv]
 have i_ : ∀ (t : Nat) (k : IntKind) (u v : Int), prog.underlying t = some (.int k) → (Op.equalIn 9999 t (.int k u) (.int k v)).run prog w = .ok (decide (u = v)) w := fun t k u v ht => by
  have := run_equalIn_int (P := prog) w 9998 t k k u v ht
  rw [this]; by_cases huv : u = v <;> simp [huv]
 rw [run_equalIn_struct w 9999 43 _ _ bF lZ]
 have hl : (prog.fieldsOf 43).toList = (match prog.underlying 43 with | some (.struct fs) => fs.toList | _ => []) := by unfold Program.fieldsOf; rw [underlying43]
 rw [hl, underlying43]
 simp only
 have E_ := isAgg33 w
 have N_ := isAgg3 w
 have S_ := isAgg9 w
 have U_ := isAgg5 w
 rw [BL (a := AJ a.id) (b := AJ b.id) BU (BH N_ rfl) (BH N_ rfl) (i_ _ _ _ _ underlying3)]
 refine EF ?_
 rw [BL (a := str a.loc) (b := str b.loc) BU (BH S_ rfl) (BH S_ rfl) (s_ _ _)]
 refine EF ?_
 rw [BL (a := str a.on) (b := str b.on) BU (BH S_ rfl) (BH S_ rfl) (s_ _ _)]
 refine EF ?_
 rw [BL (a := AJ a.born) (b := AJ b.born) BU (BH N_ rfl) (BH N_ rfl) (i_ _ _ _ _ underlying3)]
 refine EF ?_
 rw [BL (a := AJ a.tries) (b := AJ b.tries) BU (BH N_ rfl) (BH N_ rfl) (i_ _ _ _ _ underlying3)]
 refine EF ?_
 rw [BL (a := str a.worker) (b := str b.worker) BU (BH S_ rfl) (BH S_ rfl) (s_ _ _)]
 refine EF ?_
 rw [BL (a := AJ a.until_) (b := AJ b.until_) BU (BH N_ rfl) (BH N_ rfl) (i_ _ _ _ _ underlying3)]
 refine EF ?_
 rw [BL (a := .int .u8 (a.inc.toNat : Int)) (b := .int .u8 (b.inc.toNat : Int)) BU (BH U_ rfl) (BH U_ rfl) (i_ _ _ _ _ underlying5)]
 refine EF ?_
 rw [BL (a := AJ a.err) (b := AJ b.err) BU (BH E_ rfl) (BH E_ rfl) (i_ _ _ _ _ underlying33), L3]
 cases (decide (a.err = b.err)) <;> rfl
theorem NE {e : Env} {w : World} {o : Oper} {t' : Nat} {x y : Operand} {a b : Tk} (ho : o.op = .binOp .eql 43 x y t') (hx : ev e x = some (.agg a.cells.toArray)) (hy : ev e y = some (.agg b.cells.toArray)) : Y prog e o w (.bool (a.same b)) := fun ρ h => by
 have h1 : ρ x = .agg a.cells.toArray := h _ _ hx
 have h2 : ρ y = .agg b.cells.toArray := h _ _ hy
 have hg := run_eqGuard_agg (P := prog) w .eql 43 x y a.cells.toArray b.cells.toArray VU
 unfold execOp
 simp only [ho, h1, h2, Sem.run_bind, hg, Result.andThen_ok, run_eql_struct, eY a b]
 rfl
def Wt.same (a b : Wt) : Bool := decide (a.via = b.via) && (decide ((a.ev.toNat : Int) = (b.ev.toNat : Int)) && (decide (a.nm = b.nm) && (decide (a.key = b.key) && (decide (a.due = b.due)))))
theorem eF : prog.eqGuardType prog.depth 54 = false := by kernel_rfl
theorem lK : prog.stoodInHeld 54 = false := by kernel_rfl
theorem bA : prog.underlying 54 = some (.struct (prog.fieldsOf 54)) := by kernel_rfl
theorem pH {w : World} (a b : Wt) : (Op.equalIn 10000 54 (.agg a.cells.toArray) (.agg b.cells.toArray)).run prog w = .ok (a.same b) w := by
 have s_ : ∀ (u v : List UInt8), (Op.equalIn 9999 9 (str u) (str v)).run prog w = .ok (decide (u = v)) w := fun u v => by
  have := run_equalIn_string (P := prog) w 9998 9 ⟨u.toArray⟩ ⟨v.toArray⟩ underlying9
  unfold str
  rw [this, ByteArray.toList_eq, ByteArray.toList_eq]
  by_cases huv : u = v <;> simp [huv]
 have i_ : ∀ (t : Nat) (k : IntKind) (u v : Int), prog.underlying t = some (.int k) → (Op.equalIn 9999 t (.int k u) (.int k v)).run prog w = .ok (decide (u = v)) w := fun t k u v ht => by
  have := run_equalIn_int (P := prog) w 9998 t k k u v ht
  rw [this]; by_cases huv : u = v <;> simp [huv]
 rw [run_equalIn_struct w 9999 54 _ _ bA lK]
 have hl : (prog.fieldsOf 54).toList = (match prog.underlying 54 with | some (.struct fs) => fs.toList | _ => []) := by unfold Program.fieldsOf; rw [underlying54]
 rw [hl, underlying54]
 simp only
 have N_ := isAgg3 w
 have S_ := isAgg9 w
 have U_ := isAgg5 w
 rw [BL (a := str a.via) (b := str b.via) BU (BH S_ rfl) (BH S_ rfl) (s_ _ _)]
 refine EF ?_
 rw [BL (a := .int .u8 (a.ev.toNat : Int)) (b := .int .u8 (b.ev.toNat : Int)) BU (BH U_ rfl) (BH U_ rfl) (i_ _ _ _ _ underlying5)]
 refine EF ?_
 rw [BL (a := str a.nm) (b := str b.nm) BU (BH S_ rfl) (BH S_ rfl) (s_ _ _)]
 refine EF ?_
 rw [BL (a := str a.key) (b := str b.key) BU (BH S_ rfl) (BH S_ rfl) (s_ _ _)]
 refine EF ?_
 rw [BL (a := AJ a.due) (b := AJ b.due) BU (BH N_ rfl) (BH N_ rfl) (i_ _ _ _ _ underlying3), L3]
 cases (decide (a.due = b.due)) <;> rfl
theorem JI (a0 : Int) (a1 : List UInt8) (a3 : Int) : prog.built 43 [(0, AJ a0), (1, str a1), (3, AJ a3)] = some #[AJ a0, str a1, str [], AJ a3, AJ 0, str [], AJ 0, .int .u8 0, AJ 0] := by kernel_rfl
theorem KM (a0 : Int) (a2 : List UInt8) : prog.built 43 [(0, AJ a0), (2, str a2)] = some #[AJ a0, str [], str a2, AJ 0, AJ 0, str [], AJ 0, .int .u8 0, AJ 0] := by kernel_rfl
theorem BD : (prog.info? 43).map (·.size) = some 9 := by kernel_rfl
theorem FE : (prog.info? 43).map (·.zero) = some (some (.agg #[AJ 0, str [], str [], AJ 0, AJ 0, str [], AJ 0, .int .u8 0, AJ 0])) := by kernel_rfl
def E1 (m : Md) (c : CrA) (t : Tk) : Bool := (if (decide (t.loc = [])) = true then (if ((decide (((c.atf ((c.flf t.on).tg)).kind.toNat : Int) = (5 : Int))) && (decide ((1 : Int) < (((c.outs ((c.atf ((c.flf t.on).tg)).id)).length : Nat) : Int)))) = true then (((c.isF t.on) && (((decide (((c.atf ((c.flf t.on).tg)).kind.toNat : Int) = (5 : Int))) && (decide ((1 : Int) < (((c.outs ((c.atf ((c.flf t.on).tg)).id)).length : Nat) : Int)))) || (decide (((c.atf ((c.flf t.on).tg)).kind.toNat : Int) = (6 : Int))))) && (Tk.same t (⟨t.id, [], t.on, 0, 0, [], 0, 1, 91⟩ : Tk))) else (((c.isF t.on) && (((decide (((c.atf ((c.flf t.on).tg)).kind.toNat : Int) = (5 : Int))) && (decide ((1 : Int) < (((c.outs ((c.atf ((c.flf t.on).tg)).id)).length : Nat) : Int)))) || (decide (((c.atf ((c.flf t.on).tg)).kind.toNat : Int) = (6 : Int))))) && (Tk.same t (⟨t.id, [], t.on, 0, 0, [], 0, 0, 0⟩ : Tk)))) else (if (decide (((c.atf t.loc).kind.toNat : Int) = (4 : Int))) = true then (if (decide (t.tries = (0 : Int))) = true then ((((c.isA t.loc) && (Tk.same t (⟨t.id, t.loc, [], t.born, t.tries, [], 0, 2, 0⟩ : Tk))) && (decide ((0 : Int) ≤ t.tries))) && (decide (t.tries ≤ (100 : Int)))) else ((((c.isA t.loc) && (Tk.same t (⟨t.id, t.loc, [], t.born, t.tries, t.worker, t.until_, 0, 0⟩ : Tk))) && (decide ((0 : Int) ≤ t.tries))) && (decide (t.tries ≤ (100 : Int))))) else (if (decide (((c.atf t.loc).kind.toNat : Int) = (8 : Int))) = true then (((c.isA t.loc) && (Tk.same t (⟨t.id, t.loc, [], t.born, 0, [], 0, 0, 0⟩ : Tk))) && (!(MA m t.loc).2)) else (((c.isA t.loc) && (Tk.same t (⟨t.id, t.loc, [], t.born, 0, [], 0, 0, 0⟩ : Tk))) && ((decide (((c.atf t.loc).kind.toNat : Int) = (3 : Int))) || (decide (((c.atf t.loc).kind.toNat : Int) = (7 : Int))))))))
theorem RJ (m : Md) (gc : Nat) (c : CrA) (F : List Nat) (t : Tk) (w : World) (ho : MdOk m) (hC : CourseN w m gc c F) :
 Calls prog 27 #[pg gc, .agg t.cells.toArray] w (CG w (.bool (E1 m c t))) := by
 refine C5 func27 ntmps27 rfl fun M => srg (CR M rfl rfl fun g3 w1 hg3 M => AY rfl (AF (AQ rfl (BC M 0 rfl rfl rfl (ya rfl (DM rfl rfl rfl) (nq ?_))))))
 refine AL rfl (fun h17 => ?_) (fun h17 => ?_)
 ·refine AF (CV 13 (fun w' => Mem w B0 [As.blk g3 43 (Tk.cells t)] w') CZ ?_)
  have M := M.drew
  refine oc 0 13 rfl rfl M (oc 1 13 rfl rfl M (oc 2 13 rfl rfl M (ol 3 13 rfl rfl rfl M (fun _ M => (Blk.c ((hC.fr0 M.fr).blk) 6 rfl)) (oc 4 13 rfl rfl M (ol 5 13 rfl rfl rfl M (fun _ M => (M.cell 0 rfl rfl)) (oa 6 13 rfl rfl M (fun _ M => E6 rfl rfl rfl underlying63 underlying9 FF ((hC.fr0 M.fr).L) (hC.getL _) (hC.isL _)) (oc 7 13 rfl rfl M (oc 8 13 rfl rfl M (oc 9 13 rfl rfl M (fon M 10 5 rfl rfl FF fun g5 w2 hg5 M => fop M 11 0 rfl rfl rfl D3 rfl (·.drop 1) fun w3 M => oc 12 13 rfl rfl (M.drop 1) (fdn (AD (AF ?_)))))))))))))
  refine CV 9 (fun w' => Mem w B0 [As.blk g5 72 (Fl.cells (c.flf t.on)), As.blk g3 43 (Tk.cells t)] w') CZ ?_
  have M := M.drew
  refine oc 0 9 rfl rfl M (oc 1 9 rfl rfl M (oc 2 9 rfl rfl M (ol 3 9 rfl rfl rfl M (fun _ M => (Blk.c ((hC.fr0 M.fr).blk) 5 rfl)) (oc 4 9 rfl rfl M (ol 5 9 rfl rfl rfl M (fun _ M => (M.cell 0 rfl rfl)) (oa 6 9 rfl rfl M (fun _ M => BT rfl rfl rfl underlying62 underlying9 B6 ((hC.fr0 M.fr).A) (hC.getA _)) (fon M 7 7 rfl rfl B6 fun g7 w4 hg7 M => fop M 8 0 rfl rfl rfl B2 rfl (·.drop 1) fun w5 M => fdn (AD (AF (ER CZ gkr ?_))))))))))
  have M := M.drew
  refine sb rfl (FL M 0 rfl rfl rfl (sa rfl (BZ rfl rfl rfl) (sb rfl (fvs 10 [7, 6, 3] [(48, .bool ((decide (((c.atf ((c.flf t.on).tg)).kind.toNat : Int) = (5 : Int))) && (decide ((1 : Int) < (((c.outs ((c.atf ((c.flf t.on).tg)).id)).length : Nat) : Int)))))] ?_ (fun k38 => ?_)))))
  ·refine sb rfl (FA (AD (AQ rfl (BC M 2 rfl rfl rfl (yb rfl (BC M 2 rfl rfl rfl (ya rfl (BA (parts := [(0, _), (2, _)]) rfl rfl (KM _ _)) (DC M rfl FE fun g9 w6 hg9 M => C4 M 0 rfl rfl BD rfl fun w7 M => nq ?_))))))))
   refine AF (srg (AY rfl (AL rfl (fun h54 => ?_) (fun h54 => ?_))))
   ·refine AK (yb rfl (gp1 M 0 rfl rfl rfl K5 fun w8 M => yb rfl (gp1 M 0 rfl rfl rfl KR fun w9 M => nq (AQ rfl (yb rfl (fvm M 7 [9, 3] [(65, .bool ((c.isF t.on) && (((decide (((c.atf ((c.flf t.on).tg)).kind.toNat : Int) = (5 : Int))) && (decide ((1 : Int) < (((c.outs ((c.atf ((c.flf t.on).tg)).id)).length : Nat) : Int)))) || (decide (((c.atf ((c.flf t.on).tg)).kind.toNat : Int) = (6 : Int))))))] ?_ (fun k58 => ?_)))))))
    ·intro w10 M
     refine yb rfl (fvm M 4 [] [(70, .bool (((c.isF t.on) && (((decide (((c.atf ((c.flf t.on).tg)).kind.toNat : Int) = (5 : Int))) && (decide ((1 : Int) < (((c.outs ((c.atf ((c.flf t.on).tg)).id)).length : Nat) : Int)))) || (decide (((c.atf ((c.flf t.on).tg)).kind.toNat : Int) = (6 : Int))))) && (Tk.same t (⟨t.id, [], t.on, 0, 0, [], 0, 1, 91⟩ : Tk))))] ?_ (fun k66 => ?_))
     ·intro w11 M
      exact yb rfl (gnr (AB (gr1 rfl ⟨by rw [E1, if_pos h17, if_pos h54], M.fr⟩)))
     refine AO (d := 66) rfl (fun h66 => ?_) (fun h66 => ?_)
     ·exact yd rfl (AU (xs := Tk.cells t) rfl rfl (M.rdBlk 3 rfl rfl) underlying43 rfl BD) (yd rfl (AU (xs := [AJ t.id, str [], str t.on, AJ 0, AJ 0, str [], AJ 0, .int .u8 1, AJ 91]) rfl rfl (M.rdBlk 0 rfl rfl) underlying43 rfl BD) (yd rfl (NE (a := t) (b := (⟨t.id, [], t.on, 0, 0, [], 0, 1, 91⟩ : Tk)) rfl rfl rfl) (yb rfl (k66 M ⟨(by rw [h66]; rfl), trivial⟩))))
     ·exact yo rfl (yo rfl (yo rfl (yb rfl (k66 M ⟨(by rw [h66]; rfl), trivial⟩))))
    refine AO (d := 58) rfl (fun h58 => ?_) (fun h58 => ?_)
    ·refine gyq rfl (gyq rfl (fvm M 4 [58, 9, 3] [(64, .bool (((decide (((c.atf ((c.flf t.on).tg)).kind.toNat : Int) = (5 : Int))) && (decide ((1 : Int) < (((c.outs ((c.atf ((c.flf t.on).tg)).id)).length : Nat) : Int)))) || (decide (((c.atf ((c.flf t.on).tg)).kind.toNat : Int) = (6 : Int)))))] ?_ (fun k60 => ?_)))
     ·intro w12 M
      exact yb rfl (k58 M ⟨rfl, rfl, (by rw [h58]; rfl), trivial⟩)
     refine AO (d := 60) rfl (fun h60 => ?_) (fun h60 => ?_)
     ·exact yo rfl (yo rfl (yo rfl (gyq rfl (k60 M ⟨rfl, rfl, rfl, (by rw [h60]; rfl), trivial⟩))))
     ·exact gyq rfl (CJ M 1 rfl rfl rfl (yd rfl (BZ rfl rfl rfl) (gyq rfl (k60 M ⟨rfl, rfl, rfl, (by rw [h60]; rfl), trivial⟩))))
    ·exact yo rfl (yo rfl (CB rfl rfl rfl rfl rfl (CB rfl rfl rfl rfl rfl (CB rfl rfl rfl rfl rfl (yo rfl (yb rfl (k58 M ⟨rfl, rfl, (by rw [h58]; rfl), trivial⟩)))))))
   ·have h54p := ((DT h54).imp (fun z => (odf z)) (fun z => (odf z)))
    refine AI (AD (AQ rfl (yb rfl (fvm M 7 [9, 3] [(65, .bool ((c.isF t.on) && (((decide (((c.atf ((c.flf t.on).tg)).kind.toNat : Int) = (5 : Int))) && (decide ((1 : Int) < (((c.outs ((c.atf ((c.flf t.on).tg)).id)).length : Nat) : Int)))) || (decide (((c.atf ((c.flf t.on).tg)).kind.toNat : Int) = (6 : Int))))))] ?_ (fun k58 => ?_)))))
    ·intro w13 M
     refine yb rfl (fvm M 4 [] [(70, .bool (((c.isF t.on) && (((decide (((c.atf ((c.flf t.on).tg)).kind.toNat : Int) = (5 : Int))) && (decide ((1 : Int) < (((c.outs ((c.atf ((c.flf t.on).tg)).id)).length : Nat) : Int)))) || (decide (((c.atf ((c.flf t.on).tg)).kind.toNat : Int) = (6 : Int))))) && (Tk.same t (⟨t.id, [], t.on, 0, 0, [], 0, 0, 0⟩ : Tk))))] ?_ (fun k66 => ?_))
     ·intro w14 M
      exact yb rfl (gnr (AB (gr1 rfl ⟨by rw [E1, if_pos h17, AT h54], M.fr⟩)))
     refine AO (d := 66) rfl (fun h66 => ?_) (fun h66 => ?_)
     ·exact yd rfl (AU (xs := Tk.cells t) rfl rfl (M.rdBlk 3 rfl rfl) underlying43 rfl BD) (yd rfl (AU (xs := [AJ t.id, str [], str t.on, AJ 0, AJ 0, str [], AJ 0, .int .u8 0, AJ 0]) rfl rfl (M.rdBlk 0 rfl rfl) underlying43 rfl BD) (yd rfl (NE (a := t) (b := (⟨t.id, [], t.on, 0, 0, [], 0, 0, 0⟩ : Tk)) rfl rfl rfl) (yb rfl (k66 M ⟨(by rw [h66]; rfl), trivial⟩))))
     ·exact yo rfl (yo rfl (yo rfl (yb rfl (k66 M ⟨(by rw [h66]; rfl), trivial⟩))))
    refine AO (d := 58) rfl (fun h58 => ?_) (fun h58 => ?_)
    ·refine gyq rfl (gyq rfl (fvm M 4 [58, 9, 3] [(64, .bool (((decide (((c.atf ((c.flf t.on).tg)).kind.toNat : Int) = (5 : Int))) && (decide ((1 : Int) < (((c.outs ((c.atf ((c.flf t.on).tg)).id)).length : Nat) : Int)))) || (decide (((c.atf ((c.flf t.on).tg)).kind.toNat : Int) = (6 : Int)))))] ?_ (fun k60 => ?_)))
     ·intro w15 M
      exact yb rfl (k58 M ⟨rfl, rfl, (by rw [h58]; rfl), trivial⟩)
     refine AO (d := 60) rfl (fun h60 => ?_) (fun h60 => ?_)
     ·exact yo rfl (yo rfl (yo rfl (gyq rfl (k60 M ⟨rfl, rfl, rfl, (by rw [h60]; rfl), trivial⟩))))
     ·exact gyq rfl (CJ M 1 rfl rfl rfl (yd rfl (BZ rfl rfl rfl) (gyq rfl (k60 M ⟨rfl, rfl, rfl, (by rw [h60]; rfl), trivial⟩))))
    ·exact yo rfl (yo rfl (CB rfl rfl rfl rfl rfl (CB rfl rfl rfl rfl rfl (CB rfl rfl rfl rfl rfl (yo rfl (yb rfl (k58 M ⟨rfl, rfl, (by rw [h58]; rfl), trivial⟩)))))))
  refine DU (d := 38) rfl (fun h38 => ?_) (fun h38 => ?_)
  ·exact gsg rfl (yp rfl) (gsg rfl (yp rfl) (gsg rfl (yp rfl) (gsg rfl (BW rfl rfl (sc rfl) (Blk.c ((hC.fr0 M.fr).blk) 8 rfl)) (gsg rfl (yp rfl) (gsg rfl (BW rfl rfl (sc rfl) (M.cell 0 rfl rfl)) (gsg rfl (BT rfl rfl rfl underlying64 underlying9 DH ((hC.fr0 M.fr).O) (hC.getO _)) (gsg rfl (C3 rfl rfl (sl rfl)) (gsg rfl (GC rfl rfl rfl) (sb rfl (k38 _ ⟨rfl, rfl, rfl, (by rw [h38]; rfl), trivial⟩))))))))))
  ·iterate 9 refine DV rfl rfl rfl rfl rfl rfl ?_
   exact sb rfl (k38 _ ⟨rfl, rfl, rfl, (by rw [h38]; rfl), trivial⟩)
 ·refine AI (AD (AF (CV 13 (fun w' => Mem w B0 [As.blk g3 43 (Tk.cells t)] w') CZ ?_)))
  have M := M.drew
  refine oc 0 13 rfl rfl M (oc 1 13 rfl rfl M (oc 2 13 rfl rfl M (ol 3 13 rfl rfl rfl M (fun _ M => (Blk.c ((hC.fr0 M.fr).blk) 5 rfl)) (oc 4 13 rfl rfl M (ol 5 13 rfl rfl rfl M (fun _ M => (M.cell 0 rfl rfl)) (oa 6 13 rfl rfl M (fun _ M => E6 rfl rfl rfl underlying62 underlying9 B6 ((hC.fr0 M.fr).A) (hC.getA _) (hC.isA _)) (oc 7 13 rfl rfl M (oc 8 13 rfl rfl M (oc 9 13 rfl rfl M (fon M 10 10 rfl rfl B6 fun g10 w16 hg10 M => fop M 11 0 rfl rfl rfl B2 rfl (·.drop 1) fun w17 M => oc 12 13 rfl rfl (M.drop 1) (fdn (AD (AF ?_)))))))))))))
  refine AK (yb rfl (BC M 1 rfl rfl rfl (yb rfl (BC M 1 rfl rfl rfl (yb rfl (BC M 1 rfl rfl rfl (ya rfl (BA (parts := [(0, _), (1, _), (3, _)]) rfl rfl (JI _ _ _)) (DC M rfl FE fun g12 w18 hg12 M => C4 M 0 rfl rfl BD rfl fun w19 M => nq (AF (AF ?_))))))))))
  refine AK (yb rfl (BC M 1 rfl rfl rfl (nq (AS (srg (CN rfl rfl (AY rfl (AL rfl (fun h90 => ?_) (fun h90 => ?_)))))))))
  ·refine AF (CV 12 (fun w' => Mem w B0 [As.blk g10 69 (El.cells (c.atf t.loc)), As.blk g3 43 (Tk.cells t)] w') CZ ?_)
   have M := M.drew
   refine oc 0 12 rfl rfl (M.pk [1, 2]) (ol 1 12 rfl rfl rfl (M.pk [1, 2]) (fun _ M => (M.cell 1 rfl rfl)) (oc 2 12 rfl rfl (M.pk [1, 2]) (ol 3 12 rfl rfl rfl (M.pk [1, 2]) (fun _ M => (M.cell 1 rfl rfl)) (oc 4 12 rfl rfl (M.pk [1, 2]) (ol 5 12 rfl rfl rfl (M.pk [1, 2]) (fun _ M => (M.cell 1 rfl rfl)) (oc 6 12 rfl rfl (M.pk [1, 2]) (BB 7 none gkr rfl (AA rfl) rfl rfl (fun ρ hρ => E9 3 _ _ rfl g12 4 43 _ (AJ t.tries) (hρ _ _ rfl) (hρ _ _ rfl) rfl (M.blk 0 rfl) GQ (CO rfl) rfl) ?_)))))))
   rintro _ w20 ⟨rfl, hbw20, hfw20⟩
   replace M : Mem w B0 (List.set _ 0 (As.blk g12 43 [AJ t.id, str t.loc, str [], AJ t.born, AJ t.tries, str [], AJ 0, .int .u8 0, AJ 0])) w20 := M.putB 0 rfl hbw20 hfw20
   refine ⟨fun _ => (M.pk [1, 2]), oc 8 12 rfl rfl (M.pk [1, 2]) (BB 9 none gkr rfl (AA rfl) rfl rfl (fun ρ hρ => E9 9 _ _ rfl g12 5 43 _ (str t.worker) (hρ _ _ rfl) (hρ _ _ rfl) rfl (M.blk 0 rfl) G5 (CO rfl) rfl) ?_)⟩
   rintro _ w21 ⟨rfl, hbw21, hfw21⟩
   replace M : Mem w B0 (List.set _ 0 (As.blk g12 43 [AJ t.id, str t.loc, str [], AJ t.born, AJ t.tries, str t.worker, AJ 0, .int .u8 0, AJ 0])) w21 := M.putB 0 rfl hbw21 hfw21
   refine ⟨fun _ => (M.pk [1, 2]), oc 10 12 rfl rfl (M.pk [1, 2]) (BB 11 none gkr rfl (AA rfl) rfl rfl (fun ρ hρ => E9 3 _ _ rfl g12 6 43 _ (AJ t.until_) (hρ _ _ rfl) (hρ _ _ rfl) rfl (M.blk 0 rfl) GQ (CO rfl) rfl) ?_)⟩
   rintro _ w22 ⟨rfl, hbw22, hfw22⟩
   replace M : Mem w B0 (List.set _ 0 (As.blk g12 43 [AJ t.id, str t.loc, str [], AJ t.born, AJ t.tries, str t.worker, AJ t.until_, .int .u8 0, AJ 0])) w22 := M.putB 0 rfl hbw22 hfw22
   refine ⟨fun _ => (M.pk [1, 2]), fdn (AD (AF (AQ rfl (BC M 2 rfl rfl rfl (CN rfl rfl (nq (AL rfl (fun h103 => ?_) (fun h103 => ?_))))))))⟩
   ·refine AK (yb rfl (gp1 M 0 rfl rfl rfl K5 fun w23 M => yb rfl (gp1 M 0 rfl rfl rfl G5 fun w24 M => yb rfl (gp1 M 0 rfl rfl rfl GQ fun w25 M => nq (AQ rfl (yb rfl ?_))))))
    refine fvm M 4 [12, 11, 10, 4, 3] [(112, .bool ((c.isA t.loc) && (Tk.same t (⟨t.id, t.loc, [], t.born, t.tries, [], 0, 2, 0⟩ : Tk))))] ?_ (fun k108 => ?_)
    ·intro w26 M
     refine yb rfl (fvm M 4 [12, 11, 10, 4, 3] [(117, .bool (((c.isA t.loc) && (Tk.same t (⟨t.id, t.loc, [], t.born, t.tries, [], 0, 2, 0⟩ : Tk))) && (decide ((0 : Int) ≤ t.tries))))] ?_ (fun k113 => ?_))
     ·intro w27 M
      refine yb rfl (fvm M 4 [12, 11, 10, 4, 3] [(122, .bool ((((c.isA t.loc) && (Tk.same t (⟨t.id, t.loc, [], t.born, t.tries, [], 0, 2, 0⟩ : Tk))) && (decide ((0 : Int) ≤ t.tries))) && (decide (t.tries ≤ (100 : Int)))))] ?_ (fun k118 => ?_))
      ·intro w28 M
       exact yb rfl (gnr (AN (AB (gr1 rfl ⟨by rw [E1, AT h17, if_pos h90, if_pos h103], M.fr⟩))))
      refine AO (d := 118) rfl (fun h118 => ?_) (fun h118 => ?_)
      ·exact gyq rfl (CJ M 2 rfl rfl rfl (yd rfl (GP rfl rfl rfl) (yb rfl (k118 M ⟨rfl, rfl, rfl, rfl, rfl, (by rw [h118]; rfl), trivial⟩))))
      ·exact yo rfl (yo rfl (yo rfl (yb rfl (k118 M ⟨rfl, rfl, rfl, rfl, rfl, (by rw [h118]; rfl), trivial⟩))))
     refine AO (d := 113) rfl (fun h113 => ?_) (fun h113 => ?_)
     ·exact gyq rfl (CJ M 2 rfl rfl rfl (yd rfl (FQ rfl rfl rfl) (yb rfl (k113 M ⟨rfl, rfl, rfl, rfl, rfl, (by rw [h113]; rfl), trivial⟩))))
     ·exact yo rfl (yo rfl (yo rfl (yb rfl (k113 M ⟨rfl, rfl, rfl, rfl, rfl, (by rw [h113]; rfl), trivial⟩))))
    refine AO (d := 108) rfl (fun h108 => ?_) (fun h108 => ?_)
    ·exact yd rfl (AU (xs := Tk.cells t) rfl rfl (M.rdBlk 2 rfl rfl) underlying43 rfl BD) (yd rfl (AU (xs := [AJ t.id, str t.loc, str [], AJ t.born, AJ t.tries, str [], AJ 0, .int .u8 2, AJ 0]) rfl rfl (M.rdBlk 0 rfl rfl) underlying43 rfl BD) (yd rfl (NE (a := t) (b := (⟨t.id, t.loc, [], t.born, t.tries, [], 0, 2, 0⟩ : Tk)) rfl rfl rfl) (yb rfl (k108 M ⟨rfl, rfl, rfl, rfl, rfl, (by rw [h108]; rfl), trivial⟩))))
    ·exact yo rfl (yo rfl (yo rfl (yb rfl (k108 M ⟨rfl, rfl, rfl, rfl, rfl, (by rw [h108]; rfl), trivial⟩))))
   ·refine AI (AD (AQ rfl (yb rfl (fvm M 4 [12, 11, 10, 4, 3] [(112, .bool ((c.isA t.loc) && (Tk.same t (⟨t.id, t.loc, [], t.born, t.tries, t.worker, t.until_, 0, 0⟩ : Tk))))] ?_ (fun k108 => ?_)))))
    ·intro w29 M
     refine yb rfl (fvm M 4 [12, 11, 10, 4, 3] [(117, .bool (((c.isA t.loc) && (Tk.same t (⟨t.id, t.loc, [], t.born, t.tries, t.worker, t.until_, 0, 0⟩ : Tk))) && (decide ((0 : Int) ≤ t.tries))))] ?_ (fun k113 => ?_))
     ·intro w30 M
      refine yb rfl (fvm M 4 [12, 11, 10, 4, 3] [(122, .bool ((((c.isA t.loc) && (Tk.same t (⟨t.id, t.loc, [], t.born, t.tries, t.worker, t.until_, 0, 0⟩ : Tk))) && (decide ((0 : Int) ≤ t.tries))) && (decide (t.tries ≤ (100 : Int)))))] ?_ (fun k118 => ?_))
      ·intro w31 M
       exact yb rfl (gnr (AN (AB (gr1 rfl ⟨by rw [E1, AT h17, if_pos h90, AT h103], M.fr⟩))))
      refine AO (d := 118) rfl (fun h118 => ?_) (fun h118 => ?_)
      ·exact gyq rfl (CJ M 2 rfl rfl rfl (yd rfl (GP rfl rfl rfl) (yb rfl (k118 M ⟨rfl, rfl, rfl, rfl, rfl, (by rw [h118]; rfl), trivial⟩))))
      ·exact yo rfl (yo rfl (yo rfl (yb rfl (k118 M ⟨rfl, rfl, rfl, rfl, rfl, (by rw [h118]; rfl), trivial⟩))))
     refine AO (d := 113) rfl (fun h113 => ?_) (fun h113 => ?_)
     ·exact gyq rfl (CJ M 2 rfl rfl rfl (yd rfl (FQ rfl rfl rfl) (yb rfl (k113 M ⟨rfl, rfl, rfl, rfl, rfl, (by rw [h113]; rfl), trivial⟩))))
     ·exact yo rfl (yo rfl (yo rfl (yb rfl (k113 M ⟨rfl, rfl, rfl, rfl, rfl, (by rw [h113]; rfl), trivial⟩))))
    refine AO (d := 108) rfl (fun h108 => ?_) (fun h108 => ?_)
    ·exact yd rfl (AU (xs := Tk.cells t) rfl rfl (M.rdBlk 2 rfl rfl) underlying43 rfl BD) (yd rfl (AU (xs := [AJ t.id, str t.loc, str [], AJ t.born, AJ t.tries, str t.worker, AJ t.until_, .int .u8 0, AJ 0]) rfl rfl (M.rdBlk 0 rfl rfl) underlying43 rfl BD) (yd rfl (NE (a := t) (b := (⟨t.id, t.loc, [], t.born, t.tries, t.worker, t.until_, 0, 0⟩ : Tk)) rfl rfl rfl) (yb rfl (k108 M ⟨rfl, rfl, rfl, rfl, rfl, (by rw [h108]; rfl), trivial⟩))))
    ·exact yo rfl (yo rfl (yo rfl (yb rfl (k108 M ⟨rfl, rfl, rfl, rfl, rfl, (by rw [h108]; rfl), trivial⟩))))
  ·refine srg (CN rfl rfl (AY rfl (AL rfl (fun h123 => ?_) (fun h123 => ?_))))
   ·refine AF (CV 12 (fun w' => Mem w B0 [As.blk g12 43 [AJ t.id, str t.loc, str [], AJ t.born, AJ 0, str [], AJ 0, .int .u8 0, AJ 0], As.blk g10 69 (El.cells (c.atf t.loc)), As.blk g3 43 (Tk.cells t)] w') CZ ?_)
    have M := M.drew
    refine oc 0 12 rfl rfl M (oc 1 12 rfl rfl M (oc 2 12 rfl rfl M (oa 3 12 rfl rfl M (fun _ M => AU (xs := [str m.id, str m.nm, .slice c.a.V m.vars.length c.a.vc, .slice c.a.E m.els.length c.a.ec, .slice c.a.F m.fls.length c.a.fc]) rfl rfl (FS ((hC.fr0 M.fr).blk) 0 5 rfl rfl) underlying26 rfl C0) (oc 4 12 rfl rfl M (ol 5 12 rfl rfl rfl M (fun _ M => (M.cell 2 rfl rfl)) (C7 6 (some 132) gkr rfl (AA rfl) rfl rfl (AP rfl rfl call66) (j8 m c.a t.loc _ ho (hC.fr0 M.fr).md.md) ?_))))))
    rintro _ w32 ⟨rfl, hfw32⟩
    refine ⟨_, rfl, fun _ => M.step hfw32, ?_⟩
    have M := M.step hfw32
    refine oc 7 12 rfl rfl M (oc 8 12 rfl rfl M (oc 9 12 rfl rfl M (oc 10 12 rfl rfl M (oc 11 12 rfl rfl M (fdn (AD (AQ rfl (yb rfl (fvm M 4 [14, 12, 11, 10, 4, 3] [(140, .bool ((c.isA t.loc) && (Tk.same t (⟨t.id, t.loc, [], t.born, 0, [], 0, 0, 0⟩ : Tk))))] ?_ (fun k136 => ?_))))))))))
    ·intro w33 M
     refine yb rfl (fvm M 3 [12, 11, 10, 4, 3] [(144, .bool (((c.isA t.loc) && (Tk.same t (⟨t.id, t.loc, [], t.born, 0, [], 0, 0, 0⟩ : Tk))) && (!(MA m t.loc).2)))] ?_ (fun k141 => ?_))
     ·intro w34 M
      exact yb rfl (gnr (AN (AB (gr1 rfl ⟨by rw [E1, AT h17, AT h90, if_pos h123], M.fr⟩))))
     refine AO (d := 141) rfl (fun h141 => ?_) (fun h141 => ?_)
     ·exact gyq rfl (gyq rfl (yb rfl (k141 M ⟨rfl, rfl, rfl, rfl, rfl, (by rw [h141]; rfl), trivial⟩)))
     ·exact yo rfl (yo rfl (yb rfl (k141 M ⟨rfl, rfl, rfl, rfl, rfl, (by rw [h141]; rfl), trivial⟩)))
    refine AO (d := 136) rfl (fun h136 => ?_) (fun h136 => ?_)
    ·exact yd rfl (AU (xs := Tk.cells t) rfl rfl (M.rdBlk 2 rfl rfl) underlying43 rfl BD) (yd rfl (AU (xs := [AJ t.id, str t.loc, str [], AJ t.born, AJ 0, str [], AJ 0, .int .u8 0, AJ 0]) rfl rfl (M.rdBlk 0 rfl rfl) underlying43 rfl BD) (yd rfl (NE (a := t) (b := (⟨t.id, t.loc, [], t.born, 0, [], 0, 0, 0⟩ : Tk)) rfl rfl rfl) (yb rfl (k136 M ⟨rfl, rfl, rfl, rfl, rfl, rfl, (by rw [h136]; rfl), trivial⟩))))
    ·exact yo rfl (yo rfl (yo rfl (yb rfl (k136 M ⟨rfl, rfl, rfl, rfl, rfl, rfl, (by rw [h136]; rfl), trivial⟩))))
   ·refine AI (AE (AD (AQ rfl (yb rfl (fvm M 4 [10, 4] [(150, .bool ((c.isA t.loc) && (Tk.same t (⟨t.id, t.loc, [], t.born, 0, [], 0, 0, 0⟩ : Tk))))] ?_ (fun k146 => ?_))))))
    ·intro w35 M
     refine yb rfl (fvm M 9 [4] [(160, .bool (((c.isA t.loc) && (Tk.same t (⟨t.id, t.loc, [], t.born, 0, [], 0, 0, 0⟩ : Tk))) && ((decide (((c.atf t.loc).kind.toNat : Int) = (3 : Int))) || (decide (((c.atf t.loc).kind.toNat : Int) = (7 : Int))))))] ?_ (fun k151 => ?_))
     ·intro w36 M
      exact yb rfl (gnr (gr1 rfl ⟨by rw [E1, AT h17, AT h90, AT h123], M.fr⟩))
     refine AO (d := 151) rfl (fun h151 => ?_) (fun h151 => ?_)
     ·refine gyq rfl (CJ M 1 rfl rfl rfl (yd rfl (BZ rfl rfl rfl) (gyq rfl (fvm M 4 [151, 4] [(159, .bool ((decide (((c.atf t.loc).kind.toNat : Int) = (3 : Int))) || (decide (((c.atf t.loc).kind.toNat : Int) = (7 : Int)))))] ?_ (fun k155 => ?_)))))
      ·intro w37 M
       exact yb rfl (k151 M ⟨rfl, (by rw [h151]; rfl), trivial⟩)
      refine AO (d := 155) rfl (fun h155 => ?_) (fun h155 => ?_)
      ·exact yo rfl (yo rfl (yo rfl (gyq rfl (k155 M ⟨rfl, rfl, (by rw [h155]; rfl), trivial⟩))))
      ·exact gyq rfl (CJ M 1 rfl rfl rfl (yd rfl (BZ rfl rfl rfl) (gyq rfl (k155 M ⟨rfl, rfl, (by rw [h155]; rfl), trivial⟩))))
     ·iterate 4 refine yo rfl ?_
      exact CB rfl rfl rfl rfl rfl (CB rfl rfl rfl rfl rfl (CB rfl rfl rfl rfl rfl (yo rfl (yb rfl (k151 M ⟨rfl, (by rw [h151]; rfl), trivial⟩)))))
    refine AO (d := 146) rfl (fun h146 => ?_) (fun h146 => ?_)
    ·exact yd rfl (AU (xs := Tk.cells t) rfl rfl (M.rdBlk 2 rfl rfl) underlying43 rfl BD) (yd rfl (AU (xs := [AJ t.id, str t.loc, str [], AJ t.born, AJ 0, str [], AJ 0, .int .u8 0, AJ 0]) rfl rfl (M.rdBlk 0 rfl rfl) underlying43 rfl BD) (yd rfl (NE (a := t) (b := (⟨t.id, t.loc, [], t.born, 0, [], 0, 0, 0⟩ : Tk)) rfl rfl rfl) (yb rfl (k146 M ⟨rfl, rfl, (by rw [h146]; rfl), trivial⟩))))
    ·exact yo rfl (yo rfl (yo rfl (yb rfl (k146 M ⟨rfl, rfl, (by rw [h146]; rfl), trivial⟩))))
end Go.Proofs.YtjaocmocdhckaaaGreatDoor
