/- Lemmas that the last text rests on. Condition: each says its own. -/
import Derived.Test.YtaheakjfkpkefaaGreatDoorYMv5
set_option maxHeartbeats 16000000
set_option maxRecDepth 100000
namespace Go.Proofs.YtaheakjfkpkefaaGreatDoor
open Go.RowKit
open Tryz
def Tk.same (a b : Tk) : Bool := decide (a.id = b.id) && (decide (a.loc = b.loc) && (decide (a.on = b.on) && (decide (a.born = b.born) && (decide (a.tries = b.tries) && (decide (a.worker = b.worker) && (decide (a.until_ = b.until_) && (decide ((a.inc.toNat : Int) = (b.inc.toNat : Int)) && (decide (a.err = b.err)))))))))
theorem fN : prog.eqGuardType prog.depth 56 = false := by kernel_rfl
theorem mN : prog.stoodInHeld 56 = false := by kernel_rfl
theorem bK : prog.underlying 56 = some (.struct (prog.fieldsOf 56)) := by kernel_rfl
theorem qL {w : World} (a b : Tk) : (Op.equalIn 10000 56 (.agg a.cells.toArray) (.agg b.cells.toArray)).run prog w = .ok (a.same b) w := by
 have s_ : ∀ (u v : List UInt8), (Op.equalIn 9999 9 (str u) (str v)).run prog w = .ok (decide (u = v)) w := fun u v => by
  have := run_equalIn_string (P := prog) w 9998 9 ⟨u.toArray⟩ ⟨v.toArray⟩ underlying9
  unfold str
  rw [this, ByteArray.toList_eq, ByteArray.toList_eq]
  by_cases huv : u = v <;> simp [huv]
 have i_ : ∀ (t : Nat) (k : IntKind) (u v : Int), prog.underlying t = some (.int k) → (Op.equalIn 9999 t (.int k u) (.int k v)).run prog w = .ok (decide (u = v)) w := fun t k u v ht => by
  have := run_equalIn_int (P := prog) w 9998 t k k u v ht
  rw [this]; by_cases huv : u = v <;> simp [huv]
 rw [run_equalIn_struct w 9999 56 _ _ bK mN]
 have hl : (prog.fieldsOf 56).toList = (match prog.underlying 56 with | some (.struct fs) => fs.toList | _ => []) := by unfold Program.fieldsOf; rw [underlying56]
 rw [hl, underlying56]
 simp only
 have E_ := isAgg51 w
 have N_ := isAgg3 w
 have S_ := isAgg9 w
 have U_ := isAgg5 w
 rw [B4 (a := AA a.id) (b := AA b.id) AU (AZ N_ rfl) (AZ N_ rfl) (i_ _ _ _ _ underlying3)]
 refine DS ?_
 rw [B4 (a := str a.loc) (b := str b.loc) AU (AZ S_ rfl) (AZ S_ rfl) (s_ _ _)]
 refine DS ?_
 rw [B4 (a := str a.on) (b := str b.on) AU (AZ S_ rfl) (AZ S_ rfl) (s_ _ _)]
 refine DS ?_
 rw [B4 (a := AA a.born) (b := AA b.born) AU (AZ N_ rfl) (AZ N_ rfl) (i_ _ _ _ _ underlying3)]
 refine DS ?_
 rw [B4 (a := AA a.tries) (b := AA b.tries) AU (AZ N_ rfl) (AZ N_ rfl) (i_ _ _ _ _ underlying3)]
 refine DS ?_
 rw [B4 (a := str a.worker) (b := str b.worker) AU (AZ S_ rfl) (AZ S_ rfl) (s_ _ _)]
 refine DS ?_
 rw [B4 (a := AA a.until_) (b := AA b.until_) AU (AZ N_ rfl) (AZ N_ rfl) (i_ _ _ _ _ underlying3)]
 refine DS ?_
 rw [B4 (a := .int .u8 (a.inc.toNat : Int)) (b := .int .u8 (b.inc.toNat : Int)) AU (AZ U_ rfl) (AZ U_ rfl) (i_ _ _ _ _ underlying5)]
 refine DS ?_
 rw [B4 (a := AA a.err) (b := AA b.err) AU (AZ E_ rfl) (AZ E_ rfl) (i_ _ _ _ _ underlying51), KG]
 cases (decide (a.err = b.err)) <;> rfl
theorem OM {e : Env} {w : World} {o : Oper} {t' : Nat} {x y : Operand} {a b : Tk} (ho : o.op = .binOp .eql 56 x y t') (hx : ev e x = some (.agg a.cells.toArray)) (hy : ev e y = some (.agg b.cells.toArray)) : Y prog e o w (.bool (a.same b)) := fun ρ h => by
 have h1 : ρ x = .agg a.cells.toArray := h _ _ hx
 have h2 : ρ y = .agg b.cells.toArray := h _ _ hy
 have hg := run_eqGuard_agg (P := prog) w .eql 56 x y a.cells.toArray b.cells.toArray fN
 unfold execOp
 simp only [ho, h1, h2, Sem.run_bind, hg, Result.andThen_ok, run_eql_struct, qL a b]
 rfl
theorem N5 (a0 : Int) (a1 : List UInt8) (a3 : Int) : prog.built 56 [(0, AA a0), (1, str a1), (3, AA a3)] = some #[AA a0, str a1, str [], AA a3, AA 0, str [], AA 0, .int .u8 0, AA 0] := by kernel_rfl
theorem JY (a0 : Int) (a2 : List UInt8) : prog.built 56 [(0, AA a0), (2, str a2)] = some #[AA a0, str [], str a2, AA 0, AA 0, str [], AA 0, .int .u8 0, AA 0] := by kernel_rfl
theorem B1 : (prog.info? 56).map (·.size) = some 9 := by kernel_rfl
theorem EP : (prog.info? 56).map (·.zero) = some (some (.agg #[AA 0, str [], str [], AA 0, AA 0, str [], AA 0, .int .u8 0, AA 0])) := by kernel_rfl
def JA (m : Md) (c : CrA) (t : Tk) : Bool := (if (decide (t.loc = [])) = true then (if ((decide (((c.atf ((c.flf t.on).tg)).kind.toNat : Int) = (5 : Int))) && (decide ((1 : Int) < (((c.outs ((c.atf ((c.flf t.on).tg)).id)).length : Nat) : Int)))) = true then (((c.isF t.on) && (((decide (((c.atf ((c.flf t.on).tg)).kind.toNat : Int) = (5 : Int))) && (decide ((1 : Int) < (((c.outs ((c.atf ((c.flf t.on).tg)).id)).length : Nat) : Int)))) || (decide (((c.atf ((c.flf t.on).tg)).kind.toNat : Int) = (6 : Int))))) && (Tk.same t (⟨t.id, [], t.on, 0, 0, [], 0, 1, 91⟩ : Tk))) else (((c.isF t.on) && (((decide (((c.atf ((c.flf t.on).tg)).kind.toNat : Int) = (5 : Int))) && (decide ((1 : Int) < (((c.outs ((c.atf ((c.flf t.on).tg)).id)).length : Nat) : Int)))) || (decide (((c.atf ((c.flf t.on).tg)).kind.toNat : Int) = (6 : Int))))) && (Tk.same t (⟨t.id, [], t.on, 0, 0, [], 0, 0, 0⟩ : Tk)))) else (if (decide (((c.atf t.loc).kind.toNat : Int) = (4 : Int))) = true then (if (decide (t.tries = (0 : Int))) = true then ((((c.isA t.loc) && (Tk.same t (⟨t.id, t.loc, [], t.born, t.tries, [], 0, 2, 0⟩ : Tk))) && (decide ((0 : Int) ≤ t.tries))) && (decide (t.tries ≤ (100 : Int)))) else ((((c.isA t.loc) && (Tk.same t (⟨t.id, t.loc, [], t.born, t.tries, t.worker, t.until_, 0, 0⟩ : Tk))) && (decide ((0 : Int) ≤ t.tries))) && (decide (t.tries ≤ (100 : Int))))) else (if (decide (((c.atf t.loc).kind.toNat : Int) = (8 : Int))) = true then (((c.isA t.loc) && (Tk.same t (⟨t.id, t.loc, [], t.born, 0, [], 0, 0, 0⟩ : Tk))) && (!(PS m t.loc).2)) else (((c.isA t.loc) && (Tk.same t (⟨t.id, t.loc, [], t.born, 0, [], 0, 0, 0⟩ : Tk))) && ((decide (((c.atf t.loc).kind.toNat : Int) = (3 : Int))) || (decide (((c.atf t.loc).kind.toNat : Int) = (7 : Int))))))))
theorem R8 (m : Md) (gc : Nat) (c : CrA) (F : List Nat) (t : Tk) (w : World) (ho : MdOk m) (hC : CourseN w m gc c F) :
 Calls prog 31 #[pg gc, .agg t.cells.toArray] w (BN w (.bool (JA m c t))) := by
 refine BL func31 ntmps31 rfl fun M => srg (DD M rfl rfl fun g3 w1 hg3 M => AG rfl (sx_seq (AC rfl (B2 M 0 rfl rfl rfl (ya rfl (CS rfl rfl rfl) (nq ?_))))))
 refine AF rfl (fun h17 => ?_) (fun h17 => ?_)
 ·refine sx_seq (I6 M 13 CL fun M => oc 0 13 rfl rfl M (oc 1 13 rfl rfl M (oc 2 13 rfl rfl M (ol 3 13 rfl rfl rfl M (fun _ M => (Blk.c ((hC.fr0 M.fr).blk) 6 rfl)) (oc 4 13 rfl rfl M (ol 5 13 rfl rfl rfl M (fun _ M => (M.cell 0 rfl rfl)) (oa 6 13 rfl rfl M (fun _ M => DI rfl rfl rfl underlying86 underlying9 E9 ((hC.fr0 M.fr).L) (hC.getL _) (hC.isL _)) (oc 7 13 rfl rfl M (oc 8 13 rfl rfl M (oc 9 13 rfl rfl M (fon M 10 5 rfl rfl E9 fun g5 w2 hg5 M => fop M 11 0 rfl rfl rfl C4 rfl (·.drop 1) fun w3 M => oc 12 13 rfl rfl (M.drop 1) (fdn ?_))))))))))))
  refine qx_seq (sx_seq (I6 M 9 CL fun M => oc 0 9 rfl rfl M (oc 1 9 rfl rfl M (oc 2 9 rfl rfl M (ol 3 9 rfl rfl rfl M (fun _ M => (Blk.c ((hC.fr0 M.fr).blk) 5 rfl)) (oc 4 9 rfl rfl M (ol 5 9 rfl rfl rfl M (fun _ M => (M.cell 0 rfl rfl)) (oa 6 9 rfl rfl M (fun _ M => BD rfl rfl rfl underlying85 underlying9 AQ ((hC.fr0 M.fr).A) (hC.getA _)) (fon M 7 7 rfl rfl AQ fun g7 w4 hg7 M => fop M 8 0 rfl rfl rfl AK rfl (·.drop 1) fun w5 M => fdn (qx_seq (sx_seq (HT CL gkr ?_))))))))))))
  have M := M.drew
  refine sb rfl (GZ M 0 rfl rfl rfl (sa rfl (BO rfl rfl rfl) (sb rfl (fvs 10 [7, 6, 3] [(48, .bool ((decide (((c.atf ((c.flf t.on).tg)).kind.toNat : Int) = 5)) && (decide (1 < ((c.outs ((c.atf ((c.flf t.on).tg)).id)).length : Int)))))] ?_ (fun k38 => ?_)))))
  ·refine sb rfl (IY (qx_seq (AC rfl (B2 M 2 rfl rfl rfl (yb rfl (B2 M 2 rfl rfl rfl (ya rfl (AY (parts := [(0, _), (2, _)]) rfl rfl (JY _ _)) (CO M rfl EP fun g9 w6 hg9 M => C2 M 0 rfl rfl B1 rfl fun w7 M => nq ?_))))))))
   refine sx_seq (srg (AG rfl (AF rfl (fun h54 => ?_) (fun h54 => ?_))))
   ·refine sx_region (yb rfl (gp1 M 0 rfl rfl rfl JK fun w8 M => yb rfl (gp1 M 0 rfl rfl rfl K1 fun w9 M => nq (AC rfl (yb rfl (fvm M 7 [9, 3] [(65, .bool ((c.isF t.on) && (((decide (((c.atf ((c.flf t.on).tg)).kind.toNat : Int) = 5)) && (decide (1 < ((c.outs ((c.atf ((c.flf t.on).tg)).id)).length : Int)))) || (decide (((c.atf ((c.flf t.on).tg)).kind.toNat : Int) = 6)))))] ?_ (fun k58 => ?_)))))))
    ·intro w10 M
     refine yb rfl (fvm M 4 [] [(70, .bool (((c.isF t.on) && (((decide (((c.atf ((c.flf t.on).tg)).kind.toNat : Int) = 5)) && (decide (1 < ((c.outs ((c.atf ((c.flf t.on).tg)).id)).length : Int)))) || (decide (((c.atf ((c.flf t.on).tg)).kind.toNat : Int) = 6)))) && (Tk.same t (⟨t.id, [], t.on, 0, 0, [], 0, 1, 91⟩ : Tk))))] ?_ (fun k66 => ?_))
     ·intro w11 M
      exact yb rfl (gnr (qx_then_ret (gr1 rfl ⟨by rw [JA, if_pos h17, if_pos h54], M.fr⟩)))
     refine AD (d := 66) rfl (fun h66 => ?_) (fun h66 => ?_)
     ·exact yd rfl (AH (xs := Tk.cells t) rfl rfl (M.rdBlk 3 rfl rfl) underlying56 rfl B1) (yd rfl (AH (xs := [AA t.id, str [], str t.on, AA 0, AA 0, str [], AA 0, .int .u8 1, AA 91]) rfl rfl (M.rdBlk 0 rfl rfl) underlying56 rfl B1) (yd rfl (OM (a := t) (b := (⟨t.id, [], t.on, 0, 0, [], 0, 1, 91⟩ : Tk)) rfl rfl rfl) (yb rfl (k66 M ⟨(by rw [h66]; rfl), trivial⟩))))
     ·exact yo rfl (yo rfl (yo rfl (yb rfl (k66 M ⟨(by rw [h66]; rfl), trivial⟩))))
    refine AD (d := 58) rfl (fun h58 => ?_) (fun h58 => ?_)
    ·refine gyq rfl (gyq rfl (fvm M 4 [58, 9, 3] [(64, .bool (((decide (((c.atf ((c.flf t.on).tg)).kind.toNat : Int) = 5)) && (decide (1 < ((c.outs ((c.atf ((c.flf t.on).tg)).id)).length : Int)))) || (decide (((c.atf ((c.flf t.on).tg)).kind.toNat : Int) = 6))))] ?_ (fun k60 => ?_)))
     ·intro w12 M
      exact yb rfl (k58 M ⟨rfl, rfl, (by rw [h58]; rfl), trivial⟩)
     refine AD (d := 60) rfl (fun h60 => ?_) (fun h60 => ?_)
     ·exact yo rfl (yo rfl (yo rfl (gyq rfl (k60 M ⟨rfl, rfl, rfl, (by rw [h60]; rfl), trivial⟩))))
     ·exact gyq rfl (C3 M 1 rfl rfl rfl (yd rfl (BO rfl rfl rfl) (gyq rfl (k60 M ⟨rfl, rfl, rfl, (by rw [h60]; rfl), trivial⟩))))
    ·exact yo rfl (yo rfl (BE rfl rfl rfl rfl rfl (BE rfl rfl rfl rfl rfl (BE rfl rfl rfl rfl rfl (yo rfl (yb rfl (k58 M ⟨rfl, rfl, (by rw [h58]; rfl), trivial⟩)))))))
   ·have h54p := ((DA h54).imp (fun z => (odf z)) (fun z => (odf z)))
    refine sx_skip (qx_seq (AC rfl (yb rfl (fvm M 7 [9, 3] [(65, .bool ((c.isF t.on) && (((decide (((c.atf ((c.flf t.on).tg)).kind.toNat : Int) = 5)) && (decide (1 < ((c.outs ((c.atf ((c.flf t.on).tg)).id)).length : Int)))) || (decide (((c.atf ((c.flf t.on).tg)).kind.toNat : Int) = 6)))))] ?_ (fun k58 => ?_)))))
    ·intro w13 M
     refine yb rfl (fvm M 4 [] [(70, .bool (((c.isF t.on) && (((decide (((c.atf ((c.flf t.on).tg)).kind.toNat : Int) = 5)) && (decide (1 < ((c.outs ((c.atf ((c.flf t.on).tg)).id)).length : Int)))) || (decide (((c.atf ((c.flf t.on).tg)).kind.toNat : Int) = 6)))) && (Tk.same t (⟨t.id, [], t.on, 0, 0, [], 0, 0, 0⟩ : Tk))))] ?_ (fun k66 => ?_))
     ·intro w14 M
      exact yb rfl (gnr (qx_then_ret (gr1 rfl ⟨by rw [JA, if_pos h17, AS h54], M.fr⟩)))
     refine AD (d := 66) rfl (fun h66 => ?_) (fun h66 => ?_)
     ·exact yd rfl (AH (xs := Tk.cells t) rfl rfl (M.rdBlk 3 rfl rfl) underlying56 rfl B1) (yd rfl (AH (xs := [AA t.id, str [], str t.on, AA 0, AA 0, str [], AA 0, .int .u8 0, AA 0]) rfl rfl (M.rdBlk 0 rfl rfl) underlying56 rfl B1) (yd rfl (OM (a := t) (b := (⟨t.id, [], t.on, 0, 0, [], 0, 0, 0⟩ : Tk)) rfl rfl rfl) (yb rfl (k66 M ⟨(by rw [h66]; rfl), trivial⟩))))
     ·exact yo rfl (yo rfl (yo rfl (yb rfl (k66 M ⟨(by rw [h66]; rfl), trivial⟩))))
    refine AD (d := 58) rfl (fun h58 => ?_) (fun h58 => ?_)
    ·refine gyq rfl (gyq rfl (fvm M 4 [58, 9, 3] [(64, .bool (((decide (((c.atf ((c.flf t.on).tg)).kind.toNat : Int) = 5)) && (decide (1 < ((c.outs ((c.atf ((c.flf t.on).tg)).id)).length : Int)))) || (decide (((c.atf ((c.flf t.on).tg)).kind.toNat : Int) = 6))))] ?_ (fun k60 => ?_)))
     ·intro w15 M
      exact yb rfl (k58 M ⟨rfl, rfl, (by rw [h58]; rfl), trivial⟩)
     refine AD (d := 60) rfl (fun h60 => ?_) (fun h60 => ?_)
     ·exact yo rfl (yo rfl (yo rfl (gyq rfl (k60 M ⟨rfl, rfl, rfl, (by rw [h60]; rfl), trivial⟩))))
     ·exact gyq rfl (C3 M 1 rfl rfl rfl (yd rfl (BO rfl rfl rfl) (gyq rfl (k60 M ⟨rfl, rfl, rfl, (by rw [h60]; rfl), trivial⟩))))
    ·exact yo rfl (yo rfl (BE rfl rfl rfl rfl rfl (BE rfl rfl rfl rfl rfl (BE rfl rfl rfl rfl rfl (yo rfl (yb rfl (k58 M ⟨rfl, rfl, (by rw [h58]; rfl), trivial⟩)))))))
  refine D6 (d := 38) rfl (fun h38 => ?_) (fun h38 => ?_)
  ·exact gsg rfl (yp rfl) (gsg rfl (yp rfl) (gsg rfl (yp rfl) (gsg rfl (B9 rfl rfl (sc rfl) (Blk.c ((hC.fr0 M.fr).blk) 8 rfl)) (gsg rfl (yp rfl) (gsg rfl (B9 rfl rfl (sc rfl) (M.cell 0 rfl rfl)) (gsg rfl (BD rfl rfl rfl underlying87 underlying9 EO ((hC.fr0 M.fr).O) (hC.getO _)) (gsg rfl (F5 rfl rfl (sl rfl)) (gsg rfl (G9 rfl rfl rfl) (sb rfl (k38 _ ⟨rfl, rfl, rfl, (by rw [h38]; rfl), trivial⟩))))))))))
  ·iterate 9 refine D3 rfl rfl rfl rfl rfl rfl ?_
   exact sb rfl (k38 _ ⟨rfl, rfl, rfl, (by rw [h38]; rfl), trivial⟩)
 ·refine sx_skip (qx_seq (sx_seq (I6 M 13 CL fun M => oc 0 13 rfl rfl M (oc 1 13 rfl rfl M (oc 2 13 rfl rfl M (ol 3 13 rfl rfl rfl M (fun _ M => (Blk.c ((hC.fr0 M.fr).blk) 5 rfl)) (oc 4 13 rfl rfl M (ol 5 13 rfl rfl rfl M (fun _ M => (M.cell 0 rfl rfl)) (oa 6 13 rfl rfl M (fun _ M => DI rfl rfl rfl underlying85 underlying9 AQ ((hC.fr0 M.fr).A) (hC.getA _) (hC.isA _)) (oc 7 13 rfl rfl M (oc 8 13 rfl rfl M (oc 9 13 rfl rfl M (fon M 10 10 rfl rfl AQ fun g10 w16 hg10 M => fop M 11 0 rfl rfl rfl AK rfl (·.drop 1) fun w17 M => ?_)))))))))))))
  refine oc 12 13 rfl rfl (M.drop 1) (fdn (qx_seq (AC rfl (B2 M 1 rfl rfl rfl (yb rfl (B2 M 1 rfl rfl rfl (yb rfl (B2 M 1 rfl rfl rfl (ya rfl (AY (parts := [(0, _), (1, _), (3, _)]) rfl rfl (N5 _ _ _)) (CO M rfl EP fun g12 w18 hg12 M => C2 M 0 rfl rfl B1 rfl fun w19 M => ?_))))))))))
  refine nq (sx_seq (AC rfl (B2 M 1 rfl rfl rfl (nq (sx_block (srg (C7 rfl rfl (AG rfl ?_))))))))
  refine AF rfl (fun h90 => ?_) (fun h90 => ?_)
  ·refine sx_seq (EG 12 (fun w' => Mem w AM [As.blk g10 95 (El.cells (c.atf t.loc)), As.blk g3 56 (Tk.cells t)] w') CL ?_)
   have M := M.drew
   refine oc 0 12 rfl rfl (M.pk [1, 2]) (ol 1 12 rfl rfl rfl (M.pk [1, 2]) (fun _ M => (M.cell 1 rfl rfl)) (oc 2 12 rfl rfl (M.pk [1, 2]) (ol 3 12 rfl rfl rfl (M.pk [1, 2]) (fun _ M => (M.cell 1 rfl rfl)) (oc 4 12 rfl rfl (M.pk [1, 2]) (ol 5 12 rfl rfl rfl (M.pk [1, 2]) (fun _ M => (M.cell 1 rfl rfl)) (oc 6 12 rfl rfl (M.pk [1, 2]) (AR 7 none gkr rfl (wn_none rfl) rfl rfl (fun ρ hρ => CQ 3 _ _ rfl g12 4 56 _ (AA t.tries) (hρ _ _ rfl) (hρ _ _ rfl) rfl (M.blk 0 rfl) FW (BR rfl) rfl) ?_)))))))
   rintro _ w20 ⟨rfl, hbw20, hfw20⟩
   replace M : Mem w AM (List.set _ 0 (As.blk g12 56 [AA t.id, str t.loc, str [], AA t.born, AA t.tries, str [], AA 0, .int .u8 0, AA 0])) w20 := M.putB 0 rfl hbw20 hfw20
   refine ⟨fun _ => (M.pk [1, 2]), oc 8 12 rfl rfl (M.pk [1, 2]) (AR 9 none gkr rfl (wn_none rfl) rfl rfl (fun ρ hρ => CQ 9 _ _ rfl g12 5 56 _ (str t.worker) (hρ _ _ rfl) (hρ _ _ rfl) rfl (M.blk 0 rfl) FN (BR rfl) rfl) ?_)⟩
   rintro _ w21 ⟨rfl, hbw21, hfw21⟩
   replace M : Mem w AM (List.set _ 0 (As.blk g12 56 [AA t.id, str t.loc, str [], AA t.born, AA t.tries, str t.worker, AA 0, .int .u8 0, AA 0])) w21 := M.putB 0 rfl hbw21 hfw21
   refine ⟨fun _ => (M.pk [1, 2]), oc 10 12 rfl rfl (M.pk [1, 2]) (AR 11 none gkr rfl (wn_none rfl) rfl rfl (fun ρ hρ => CQ 3 _ _ rfl g12 6 56 _ (AA t.until_) (hρ _ _ rfl) (hρ _ _ rfl) rfl (M.blk 0 rfl) FW (BR rfl) rfl) ?_)⟩
   rintro _ w22 ⟨rfl, hbw22, hfw22⟩
   replace M : Mem w AM (List.set _ 0 (As.blk g12 56 [AA t.id, str t.loc, str [], AA t.born, AA t.tries, str t.worker, AA t.until_, .int .u8 0, AA 0])) w22 := M.putB 0 rfl hbw22 hfw22
   refine ⟨fun _ => (M.pk [1, 2]), fdn (qx_seq (sx_seq (AC rfl (B2 M 2 rfl rfl rfl (C7 rfl rfl (nq (AF rfl (fun h103 => ?_) (fun h103 => ?_))))))))⟩
   ·refine sx_region (yb rfl (gp1 M 0 rfl rfl rfl JK fun w23 M => yb rfl (gp1 M 0 rfl rfl rfl FN fun w24 M => yb rfl (gp1 M 0 rfl rfl rfl FW fun w25 M => nq (AC rfl (yb rfl ?_))))))
    refine fvm M 4 [12, 11, 10, 4, 3] [(112, .bool ((c.isA t.loc) && (Tk.same t (⟨t.id, t.loc, [], t.born, t.tries, [], 0, 2, 0⟩ : Tk))))] ?_ (fun k108 => ?_)
    ·intro w26 M
     refine yb rfl (fvm M 4 [12, 11, 10, 4, 3] [(117, .bool (((c.isA t.loc) && (Tk.same t (⟨t.id, t.loc, [], t.born, t.tries, [], 0, 2, 0⟩ : Tk))) && (decide ((0 : Int) ≤ t.tries))))] ?_ (fun k113 => ?_))
     ·intro w27 M
      refine yb rfl (fvm M 4 [12, 11, 10, 4, 3] [(122, .bool ((((c.isA t.loc) && (Tk.same t (⟨t.id, t.loc, [], t.born, t.tries, [], 0, 2, 0⟩ : Tk))) && (decide ((0 : Int) ≤ t.tries))) && (decide (t.tries ≤ (100 : Int)))))] ?_ (fun k118 => ?_))
      ·intro w28 M
       exact yb rfl (gnr (qx_block_ret (qx_then_ret (gr1 rfl ⟨by rw [JA, AS h17, if_pos h90, if_pos h103], M.fr⟩))))
      refine AD (d := 118) rfl (fun h118 => ?_) (fun h118 => ?_)
      ·exact gyq rfl (C3 M 2 rfl rfl rfl (yd rfl (G8 rfl rfl rfl) (yb rfl (k118 M ⟨rfl, rfl, rfl, rfl, rfl, (by rw [h118]; rfl), trivial⟩))))
      ·exact yo rfl (yo rfl (yo rfl (yb rfl (k118 M ⟨rfl, rfl, rfl, rfl, rfl, (by rw [h118]; rfl), trivial⟩))))
     refine AD (d := 113) rfl (fun h113 => ?_) (fun h113 => ?_)
     ·exact gyq rfl (C3 M 2 rfl rfl rfl (yd rfl (GK rfl rfl rfl) (yb rfl (k113 M ⟨rfl, rfl, rfl, rfl, rfl, (by rw [h113]; rfl), trivial⟩))))
     ·exact yo rfl (yo rfl (yo rfl (yb rfl (k113 M ⟨rfl, rfl, rfl, rfl, rfl, (by rw [h113]; rfl), trivial⟩))))
    refine AD (d := 108) rfl (fun h108 => ?_) (fun h108 => ?_)
    ·exact yd rfl (AH (xs := Tk.cells t) rfl rfl (M.rdBlk 2 rfl rfl) underlying56 rfl B1) (yd rfl (AH (xs := [AA t.id, str t.loc, str [], AA t.born, AA t.tries, str [], AA 0, .int .u8 2, AA 0]) rfl rfl (M.rdBlk 0 rfl rfl) underlying56 rfl B1) (yd rfl (OM (a := t) (b := (⟨t.id, t.loc, [], t.born, t.tries, [], 0, 2, 0⟩ : Tk)) rfl rfl rfl) (yb rfl (k108 M ⟨rfl, rfl, rfl, rfl, rfl, (by rw [h108]; rfl), trivial⟩))))
    ·exact yo rfl (yo rfl (yo rfl (yb rfl (k108 M ⟨rfl, rfl, rfl, rfl, rfl, (by rw [h108]; rfl), trivial⟩))))
   ·refine sx_skip (qx_seq (AC rfl (yb rfl (fvm M 4 [12, 11, 10, 4, 3] [(112, .bool ((c.isA t.loc) && (Tk.same t (⟨t.id, t.loc, [], t.born, t.tries, t.worker, t.until_, 0, 0⟩ : Tk))))] ?_ (fun k108 => ?_)))))
    ·intro w29 M
     refine yb rfl (fvm M 4 [12, 11, 10, 4, 3] [(117, .bool (((c.isA t.loc) && (Tk.same t (⟨t.id, t.loc, [], t.born, t.tries, t.worker, t.until_, 0, 0⟩ : Tk))) && (decide ((0 : Int) ≤ t.tries))))] ?_ (fun k113 => ?_))
     ·intro w30 M
      refine yb rfl (fvm M 4 [12, 11, 10, 4, 3] [(122, .bool ((((c.isA t.loc) && (Tk.same t (⟨t.id, t.loc, [], t.born, t.tries, t.worker, t.until_, 0, 0⟩ : Tk))) && (decide ((0 : Int) ≤ t.tries))) && (decide (t.tries ≤ (100 : Int)))))] ?_ (fun k118 => ?_))
      ·intro w31 M
       exact yb rfl (gnr (qx_block_ret (qx_then_ret (gr1 rfl ⟨by rw [JA, AS h17, if_pos h90, AS h103], M.fr⟩))))
      refine AD (d := 118) rfl (fun h118 => ?_) (fun h118 => ?_)
      ·exact gyq rfl (C3 M 2 rfl rfl rfl (yd rfl (G8 rfl rfl rfl) (yb rfl (k118 M ⟨rfl, rfl, rfl, rfl, rfl, (by rw [h118]; rfl), trivial⟩))))
      ·exact yo rfl (yo rfl (yo rfl (yb rfl (k118 M ⟨rfl, rfl, rfl, rfl, rfl, (by rw [h118]; rfl), trivial⟩))))
     refine AD (d := 113) rfl (fun h113 => ?_) (fun h113 => ?_)
     ·exact gyq rfl (C3 M 2 rfl rfl rfl (yd rfl (GK rfl rfl rfl) (yb rfl (k113 M ⟨rfl, rfl, rfl, rfl, rfl, (by rw [h113]; rfl), trivial⟩))))
     ·exact yo rfl (yo rfl (yo rfl (yb rfl (k113 M ⟨rfl, rfl, rfl, rfl, rfl, (by rw [h113]; rfl), trivial⟩))))
    refine AD (d := 108) rfl (fun h108 => ?_) (fun h108 => ?_)
    ·exact yd rfl (AH (xs := Tk.cells t) rfl rfl (M.rdBlk 2 rfl rfl) underlying56 rfl B1) (yd rfl (AH (xs := [AA t.id, str t.loc, str [], AA t.born, AA t.tries, str t.worker, AA t.until_, .int .u8 0, AA 0]) rfl rfl (M.rdBlk 0 rfl rfl) underlying56 rfl B1) (yd rfl (OM (a := t) (b := (⟨t.id, t.loc, [], t.born, t.tries, t.worker, t.until_, 0, 0⟩ : Tk)) rfl rfl rfl) (yb rfl (k108 M ⟨rfl, rfl, rfl, rfl, rfl, (by rw [h108]; rfl), trivial⟩))))
    ·exact yo rfl (yo rfl (yo rfl (yb rfl (k108 M ⟨rfl, rfl, rfl, rfl, rfl, (by rw [h108]; rfl), trivial⟩))))
  ·refine srg (C7 rfl rfl (AG rfl (AF rfl (fun h123 => ?_) (fun h123 => ?_))))
   ·refine sx_seq (I6 M 12 CL fun M => oc 0 12 rfl rfl M (oc 1 12 rfl rfl M (oc 2 12 rfl rfl M (oa 3 12 rfl rfl M (fun _ M => AH (xs := [str m.id, str m.nm, .slice c.a.V m.vars.length c.a.vc, .slice c.a.E m.els.length c.a.ec, .slice c.a.F m.fls.length c.a.fc]) rfl rfl (DK ((hC.fr0 M.fr).blk) 0 5 rfl rfl) underlying62 rfl B6) (oc 4 12 rfl rfl M (ol 5 12 rfl rfl rfl M (fun _ M => (M.cell 2 rfl rfl)) (C5 6 (some 132) gkr rfl (wn_none rfl) rfl rfl (AE rfl rfl call60) (kD m c.a t.loc _ ho (hC.fr0 M.fr).md.md) ?_)))))))
    rintro _ w32 ⟨rfl, hfw32⟩
    refine ⟨_, rfl, fun _ => M.step hfw32, ?_⟩
    have M := M.step hfw32
    refine oc 7 12 rfl rfl M (oc 8 12 rfl rfl M (oc 9 12 rfl rfl M (oc 10 12 rfl rfl M (oc 11 12 rfl rfl M (fdn (qx_seq (AC rfl (yb rfl (fvm M 4 [14, 12, 11, 10, 4, 3] [(140, .bool ((c.isA t.loc) && (Tk.same t (⟨t.id, t.loc, [], t.born, 0, [], 0, 0, 0⟩ : Tk))))] ?_ (fun k136 => ?_))))))))))
    ·intro w33 M
     refine yb rfl (fvm M 3 [12, 11, 10, 4, 3] [(144, .bool (((c.isA t.loc) && (Tk.same t (⟨t.id, t.loc, [], t.born, 0, [], 0, 0, 0⟩ : Tk))) && (!(PS m t.loc).2)))] ?_ (fun k141 => ?_))
     ·intro w34 M
      exact yb rfl (gnr (qx_block_ret (qx_then_ret (gr1 rfl ⟨by rw [JA, AS h17, AS h90, if_pos h123], M.fr⟩))))
     refine AD (d := 141) rfl (fun h141 => ?_) (fun h141 => ?_)
     ·exact gyq rfl (gyq rfl (yb rfl (k141 M ⟨rfl, rfl, rfl, rfl, rfl, (by rw [h141]; rfl), trivial⟩)))
     ·exact yo rfl (yo rfl (yb rfl (k141 M ⟨rfl, rfl, rfl, rfl, rfl, (by rw [h141]; rfl), trivial⟩)))
    refine AD (d := 136) rfl (fun h136 => ?_) (fun h136 => ?_)
    ·exact yd rfl (AH (xs := Tk.cells t) rfl rfl (M.rdBlk 2 rfl rfl) underlying56 rfl B1) (yd rfl (AH (xs := [AA t.id, str t.loc, str [], AA t.born, AA 0, str [], AA 0, .int .u8 0, AA 0]) rfl rfl (M.rdBlk 0 rfl rfl) underlying56 rfl B1) (yd rfl (OM (a := t) (b := (⟨t.id, t.loc, [], t.born, 0, [], 0, 0, 0⟩ : Tk)) rfl rfl rfl) (yb rfl (k136 M ⟨rfl, rfl, rfl, rfl, rfl, rfl, (by rw [h136]; rfl), trivial⟩))))
    ·exact yo rfl (yo rfl (yo rfl (yb rfl (k136 M ⟨rfl, rfl, rfl, rfl, rfl, rfl, (by rw [h136]; rfl), trivial⟩))))
   ·refine sx_skip (qx_block_normal (qx_seq (AC rfl (yb rfl (fvm M 4 [10, 4] [(150, .bool ((c.isA t.loc) && (Tk.same t (⟨t.id, t.loc, [], t.born, 0, [], 0, 0, 0⟩ : Tk))))] ?_ (fun k146 => ?_))))))
    ·intro w35 M
     refine yb rfl (fvm M 9 [4] [(160, .bool (((c.isA t.loc) && (Tk.same t (⟨t.id, t.loc, [], t.born, 0, [], 0, 0, 0⟩ : Tk))) && ((decide (((c.atf t.loc).kind.toNat : Int) = 3)) || (decide (((c.atf t.loc).kind.toNat : Int) = 7)))))] ?_ (fun k151 => ?_))
     ·intro w36 M
      exact yb rfl (gnr (gr1 rfl ⟨by rw [JA, AS h17, AS h90, AS h123], M.fr⟩))
     refine AD (d := 151) rfl (fun h151 => ?_) (fun h151 => ?_)
     ·refine gyq rfl (C3 M 1 rfl rfl rfl (yd rfl (BO rfl rfl rfl) (gyq rfl (fvm M 4 [151, 4] [(159, .bool ((decide (((c.atf t.loc).kind.toNat : Int) = 3)) || (decide (((c.atf t.loc).kind.toNat : Int) = 7))))] ?_ (fun k155 => ?_)))))
      ·intro w37 M
       exact yb rfl (k151 M ⟨rfl, (by rw [h151]; rfl), trivial⟩)
      refine AD (d := 155) rfl (fun h155 => ?_) (fun h155 => ?_)
      ·exact yo rfl (yo rfl (yo rfl (gyq rfl (k155 M ⟨rfl, rfl, (by rw [h155]; rfl), trivial⟩))))
      ·exact gyq rfl (C3 M 1 rfl rfl rfl (yd rfl (BO rfl rfl rfl) (gyq rfl (k155 M ⟨rfl, rfl, (by rw [h155]; rfl), trivial⟩))))
     ·iterate 4 refine yo rfl ?_
      exact BE rfl rfl rfl rfl rfl (BE rfl rfl rfl rfl rfl (BE rfl rfl rfl rfl rfl (yo rfl (yb rfl (k151 M ⟨rfl, (by rw [h151]; rfl), trivial⟩)))))
    refine AD (d := 146) rfl (fun h146 => ?_) (fun h146 => ?_)
    ·exact yd rfl (AH (xs := Tk.cells t) rfl rfl (M.rdBlk 2 rfl rfl) underlying56 rfl B1) (yd rfl (AH (xs := [AA t.id, str t.loc, str [], AA t.born, AA 0, str [], AA 0, .int .u8 0, AA 0]) rfl rfl (M.rdBlk 0 rfl rfl) underlying56 rfl B1) (yd rfl (OM (a := t) (b := (⟨t.id, t.loc, [], t.born, 0, [], 0, 0, 0⟩ : Tk)) rfl rfl rfl) (yb rfl (k146 M ⟨rfl, rfl, (by rw [h146]; rfl), trivial⟩))))
    ·exact yo rfl (yo rfl (yo rfl (yb rfl (k146 M ⟨rfl, rfl, (by rw [h146]; rfl), trivial⟩))))
end Go.Proofs.YtaheakjfkpkefaaGreatDoor
