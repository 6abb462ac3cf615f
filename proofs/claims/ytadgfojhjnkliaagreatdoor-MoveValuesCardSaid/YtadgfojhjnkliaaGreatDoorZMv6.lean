/- Lemmas that the last text rests on. Condition: each says its own. -/
import Derived.Test.YtadgfojhjnkliaaGreatDoorZMv5
set_option maxHeartbeats 16000000
set_option maxRecDepth 100000
namespace Go.Proofs.YtadgfojhjnkliaaGreatDoor
open Go.RowKit
open Tryz
def Tk.same (a b : Tk) : Bool := decide (a.id = b.id) && (decide (a.loc = b.loc) && (decide (a.on = b.on) && (decide (a.born = b.born) && (decide (a.tries = b.tries) && (decide (a.worker = b.worker) && (decide (a.until_ = b.until_) && (decide ((a.inc.toNat : Int) = (b.inc.toNat : Int)) && (decide (a.err = b.err)))))))))
theorem fU : prog.eqGuardType prog.depth 29 = false := by kernel_rfl
theorem mH : prog.stoodInHeld 29 = false := by kernel_rfl
theorem cJ : prog.underlying 29 = some (.struct (prog.fieldsOf 29)) := by kernel_rfl
theorem qH {w : World} (a b : Tk) : (Op.equalIn 10000 29 (.agg a.cells.toArray) (.agg b.cells.toArray)).run prog w = .ok (a.same b) w := by
 have s_ : ∀ (u v : List UInt8), (Op.equalIn 9999 9 (str u) (str v)).run prog w = .ok (decide (u = v)) w := fun u v => by
  have := run_equalIn_string (P := prog) w 9998 9 ⟨u.toArray⟩ ⟨v.toArray⟩ underlying9
  unfold str
  rw [this, ByteArray.toList_eq, ByteArray.toList_eq]
  by_cases huv : u = v <;> simp [huv]
 have i_ : ∀ (t : Nat) (k : IntKind) (u v : Int), prog.underlying t = some (.int k) → (Op.equalIn 9999 t (.int k u) (.int k v)).run prog w = .ok (decide (u = v)) w := fun t k u v ht => by
  have := run_equalIn_int (P := prog) w 9998 t k k u v ht
  rw [this]; by_cases huv : u = v <;> simp [huv]
 rw [run_equalIn_struct w 9999 29 _ _ cJ mH]
 have hl : (prog.fieldsOf 29).toList = (match prog.underlying 29 with | some (.struct fs) => fs.toList | _ => []) := by unfold Program.fieldsOf; rw [underlying29]
 rw [hl, underlying29]
 simp only
 have E_ := isAgg27 w
 have N_ := isAgg3 w
 have S_ := isAgg9 w
 have U_ := isAgg5 w
 rw [B8 (a := .int .i64 a.id) (b := .int .i64 b.id) (by decide) (B4 N_ rfl) (B4 N_ rfl) (i_ _ _ _ _ underlying3)]
 refine DF ?_
 rw [B8 (a := str a.loc) (b := str b.loc) (by decide) (B4 S_ rfl) (B4 S_ rfl) (s_ _ _)]
 refine DF ?_
 rw [B8 (a := str a.on) (b := str b.on) (by decide) (B4 S_ rfl) (B4 S_ rfl) (s_ _ _)]
 refine DF ?_
 rw [B8 (a := .int .i64 a.born) (b := .int .i64 b.born) (by decide) (B4 N_ rfl) (B4 N_ rfl) (i_ _ _ _ _ underlying3)]
 refine DF ?_
 rw [B8 (a := .int .i64 a.tries) (b := .int .i64 b.tries) (by decide) (B4 N_ rfl) (B4 N_ rfl) (i_ _ _ _ _ underlying3)]
 refine DF ?_
 rw [B8 (a := str a.worker) (b := str b.worker) (by decide) (B4 S_ rfl) (B4 S_ rfl) (s_ _ _)]
 refine DF ?_
 rw [B8 (a := .int .i64 a.until_) (b := .int .i64 b.until_) (by decide) (B4 N_ rfl) (B4 N_ rfl) (i_ _ _ _ _ underlying3)]
 refine DF ?_
 rw [B8 (a := .int .u8 (a.inc.toNat : Int)) (b := .int .u8 (b.inc.toNat : Int)) (by decide) (B4 U_ rfl) (B4 U_ rfl) (i_ _ _ _ _ underlying5)]
 refine DF ?_
 rw [B8 (a := .int .i64 a.err) (b := .int .i64 b.err) (by decide) (B4 E_ rfl) (B4 E_ rfl) (i_ _ _ _ _ underlying27), JO]
 cases (decide (a.err = b.err)) <;> rfl
theorem N9 {e : Env} {w : World} {o : Oper} {t' : Nat} {x y : Operand} {a b : Tk} (ho : o.op = .binOp .eql 29 x y t') (hx : ev e x = some (.agg a.cells.toArray)) (hy : ev e y = some (.agg b.cells.toArray)) : Y prog e o w (.bool (a.same b)) := fun ρ h => by
 have h1 : ρ x = .agg a.cells.toArray := h _ _ hx
 have h2 : ρ y = .agg b.cells.toArray := h _ _ hy
 have hg := run_eqGuard_agg (P := prog) w .eql 29 x y a.cells.toArray b.cells.toArray fU
 unfold execOp
 simp only [ho, h1, h2, Sem.run_bind, hg, Result.andThen_ok, run_eql_struct, qH a b]
 rfl
def Wt.same (a b : Wt) : Bool := decide (a.via = b.via) && (decide ((a.ev.toNat : Int) = (b.ev.toNat : Int)) && (decide (a.nm = b.nm) && (decide (a.key = b.key) && (decide (a.due = b.due)))))
theorem fE : prog.eqGuardType prog.depth 39 = false := by kernel_rfl
theorem lX : prog.stoodInHeld 39 = false := by kernel_rfl
theorem bW : prog.underlying 39 = some (.struct (prog.fieldsOf 39)) := by kernel_rfl
theorem pX {w : World} (a b : Wt) : (Op.equalIn 10000 39 (.agg a.cells.toArray) (.agg b.cells.toArray)).run prog w = .ok (a.same b) w := by
 have s_ : ∀ (u v : List UInt8), (Op.equalIn 9999 9 (str u) (str v)).run prog w = .ok (decide (u = v)) w := fun u v => by
  have := run_equalIn_string (P := prog) w 9998 9 ⟨u.toArray⟩ ⟨v.toArray⟩ underlying9
  unfold str
  rw [this, ByteArray.toList_eq, ByteArray.toList_eq]
  by_cases huv : u = v <;> simp [huv]
 have i_ : ∀ (t : Nat) (k : IntKind) (u v : Int), prog.underlying t = some (.int k) → (Op.equalIn 9999 t (.int k u) (.int k v)).run prog w = .ok (decide (u = v)) w := fun t k u v ht => by
  have := run_equalIn_int (P := prog) w 9998 t k k u v ht
  rw [this]; by_cases huv : u = v <;> simp [huv]
 rw [run_equalIn_struct w 9999 39 _ _ bW lX]
 have hl : (prog.fieldsOf 39).toList = (match prog.underlying 39 with | some (.struct fs) => fs.toList | _ => []) := by unfold Program.fieldsOf; rw [underlying39]
 rw [hl, underlying39]
 simp only
 have N_ := isAgg3 w
 have S_ := isAgg9 w
 have U_ := isAgg5 w
 rw [B8 (a := str a.via) (b := str b.via) (by decide) (B4 S_ rfl) (B4 S_ rfl) (s_ _ _)]
 refine DF ?_
 rw [B8 (a := .int .u8 (a.ev.toNat : Int)) (b := .int .u8 (b.ev.toNat : Int)) (by decide) (B4 U_ rfl) (B4 U_ rfl) (i_ _ _ _ _ underlying5)]
 refine DF ?_
 rw [B8 (a := str a.nm) (b := str b.nm) (by decide) (B4 S_ rfl) (B4 S_ rfl) (s_ _ _)]
 refine DF ?_
 rw [B8 (a := str a.key) (b := str b.key) (by decide) (B4 S_ rfl) (B4 S_ rfl) (s_ _ _)]
 refine DF ?_
 rw [B8 (a := .int .i64 a.due) (b := .int .i64 b.due) (by decide) (B4 N_ rfl) (B4 N_ rfl) (i_ _ _ _ _ underlying3), JO]
 cases (decide (a.due = b.due)) <;> rfl
theorem lO {e : Env} {w : World} {o : Oper} {t' : Nat} {x y : Operand} {a b : Wt} (ho : o.op = .binOp .neq 39 x y t') (hx : ev e x = some (.agg a.cells.toArray)) (hy : ev e y = some (.agg b.cells.toArray)) : Y prog e o w (.bool (!(a.same b))) := fun ρ h => by
 have h1 : ρ x = .agg a.cells.toArray := h _ _ hx
 have h2 : ρ y = .agg b.cells.toArray := h _ _ hy
 have hg := run_eqGuard_agg (P := prog) w .neq 39 x y a.cells.toArray b.cells.toArray fE
 unfold execOp
 simp only [ho, h1, h2, Sem.run_bind, hg, Result.andThen_ok, run_neq_struct, pX a b]
 rfl
theorem LT (a0 : Int) (a1 : List UInt8) (a3 : Int) : prog.built 29 [(0, .int .i64 a0), (1, str a1), (3, .int .i64 a3)] = some #[.int .i64 a0, str a1, str [], .int .i64 a3, .int .i64 0, str [], .int .i64 0, .int .u8 0, .int .i64 0] := by kernel_rfl
theorem O5 (a0 : Int) (a2 : List UInt8) : prog.built 29 [(0, .int .i64 a0), (2, str a2)] = some #[.int .i64 a0, str [], str a2, .int .i64 0, .int .i64 0, str [], .int .i64 0, .int .u8 0, .int .i64 0] := by kernel_rfl
theorem C7 : (prog.info? 29).map (·.size) = some 9 := by kernel_rfl
theorem LX : (prog.info? 29).map (·.zero) = some (some (.agg #[.int .i64 0, str [], str [], .int .i64 0, .int .i64 0, str [], .int .i64 0, .int .u8 0, .int .i64 0])) := by kernel_rfl
def HE (m : Md) (c : CrA) (t : Tk) : Bool := (if (decide (t.loc = [])) = true then (if ((decide (((c.atf ((c.flf t.on).tg)).kind.toNat : Int) = (5 : Int))) && (decide ((1 : Int) < (((c.outs ((c.atf ((c.flf t.on).tg)).id)).length : Nat) : Int)))) = true then (((c.isF t.on) && (((decide (((c.atf ((c.flf t.on).tg)).kind.toNat : Int) = (5 : Int))) && (decide ((1 : Int) < (((c.outs ((c.atf ((c.flf t.on).tg)).id)).length : Nat) : Int)))) || (decide (((c.atf ((c.flf t.on).tg)).kind.toNat : Int) = (6 : Int))))) && (Tk.same t (⟨t.id, [], t.on, 0, 0, [], 0, 1, 91⟩ : Tk))) else (((c.isF t.on) && (((decide (((c.atf ((c.flf t.on).tg)).kind.toNat : Int) = (5 : Int))) && (decide ((1 : Int) < (((c.outs ((c.atf ((c.flf t.on).tg)).id)).length : Nat) : Int)))) || (decide (((c.atf ((c.flf t.on).tg)).kind.toNat : Int) = (6 : Int))))) && (Tk.same t (⟨t.id, [], t.on, 0, 0, [], 0, 0, 0⟩ : Tk)))) else (if (decide (((c.atf t.loc).kind.toNat : Int) = (4 : Int))) = true then (if (decide (t.tries = (0 : Int))) = true then ((((c.isA t.loc) && (Tk.same t (⟨t.id, t.loc, [], t.born, t.tries, [], 0, 2, 0⟩ : Tk))) && (decide ((0 : Int) ≤ t.tries))) && (decide (t.tries ≤ (100 : Int)))) else ((((c.isA t.loc) && (Tk.same t (⟨t.id, t.loc, [], t.born, t.tries, t.worker, t.until_, 0, 0⟩ : Tk))) && (decide ((0 : Int) ≤ t.tries))) && (decide (t.tries ≤ (100 : Int))))) else (if (decide (((c.atf t.loc).kind.toNat : Int) = (8 : Int))) = true then (((c.isA t.loc) && (Tk.same t (⟨t.id, t.loc, [], t.born, 0, [], 0, 0, 0⟩ : Tk))) && (!(OP m t.loc).2)) else (((c.isA t.loc) && (Tk.same t (⟨t.id, t.loc, [], t.born, 0, [], 0, 0, 0⟩ : Tk))) && ((decide (((c.atf t.loc).kind.toNat : Int) = (3 : Int))) || (decide (((c.atf t.loc).kind.toNat : Int) = (7 : Int))))))))
theorem iG (m : Md) (gc : Nat) (c : CrA) (F : List Nat) (t : Tk) (w : World) (ho : MdOk m) (hC : CourseN w m gc c F) :
 Calls prog 17 #[pg gc, .agg t.cells.toArray] w fun e w' => e = .returned (.bool (HE m c t)) ∧ Fr0 w w' := by
 refine AK (vs := [_, _]) func17 rfl ntmps17 rfl ?_
 have M := CK w
 refine A4 (A0 (BD M (A9 rfl) rfl rfl 29 rfl rfl (Tk.cells t) rfl fun g3 w1 hg3 M => yb rfl (A1 (A2 (A4 (A4 (A0 (yb rfl (yl rfl rfl (M.cell 0 rfl rfl) (ya rfl (DG rfl rfl rfl) (A1 (A2 (AQ (b := (decide (t.loc = []))) rfl (fun h17 => ?_) (fun h17 => ?_))))))))))))))
 ·have h17p := (odt h17)
  refine A4 (D8 13 (fun w' => Mem w AB [As.blk g3 29 (Tk.cells t)] w') DT ?_)
  have M := M.drew
  refine oc 0 13 rfl rfl M (oc 1 13 rfl rfl M (oc 2 13 rfl rfl M (ol 3 13 rfl rfl rfl M (fun _ M => (Blk.c ((hC.fr0 M.fr).blk) 6 rfl)) (oc 4 13 rfl rfl M (ol 5 13 rfl rfl rfl M (fun _ M => (M.cell 0 rfl rfl)) (oa 6 13 rfl rfl M (fun _ M => DE rfl rfl rfl underlying56 underlying9 EF ((hC.fr0 M.fr).L) (hC.getL _) (hC.isL _)) (oc 7 13 rfl rfl M (oc 8 13 rfl rfl M (oc 9 13 rfl rfl M (B3 10 (some 5) (by kernel_rfl) rfl (A9 rfl) rfl rfl (fun ρ hρ => BX 65 rfl _ [str [], str [], str [], str []] EF rfl) ?_))))))))))
  rintro _ w2 ⟨g5, rfl, hg5, hq5, hb5, hfw2⟩
  refine ⟨fun _ => M.step hfw2, ?_⟩
  have M := M.push hfw2 _ hb5 (DA hg5 hq5)
  replace M : Mem w AB (As.blk g5 65 [str [], str [], str [], str []] :: _) w2 := M
  refine B3 11 none (by kernel_rfl) rfl (A9 rfl) rfl rfl (fun ρ hρ => BP 65 _ _ rfl g5 0 65 _ (Fl.cells (c.flf t.on)) (hρ _ _ rfl) (hρ _ _ rfl) (M.blk 0 rfl) CB (AP rfl) (AW rfl)) ?_
  rintro _ w3 ⟨rfl, hbw3, hfw3⟩
  replace M : Mem w AB (List.set _ 0 (As.blk g5 65 (Fl.cells (c.flf t.on)))) w3 := M.putB 0 rfl hbw3 hfw3
  refine ⟨fun _ => M.drop 1, oc 12 13 rfl rfl (M.drop 1) (BJ (by kernel_rfl) (A2 (A4 (D8 9 (fun w' => Mem w AB [As.blk g5 65 (Fl.cells (c.flf t.on)), As.blk g3 29 (Tk.cells t)] w') DT ?_))))⟩
  have M := M.drew
  refine oc 0 9 rfl rfl M (oc 1 9 rfl rfl M (oc 2 9 rfl rfl M (ol 3 9 rfl rfl rfl M (fun _ M => (Blk.c ((hC.fr0 M.fr).blk) 5 rfl)) (oc 4 9 rfl rfl M (ol 5 9 rfl rfl rfl M (fun _ M => (M.cell 0 rfl rfl)) (oa 6 9 rfl rfl M (fun _ M => C2 rfl rfl rfl underlying55 underlying9 AY ((hC.fr0 M.fr).A) (hC.getA _)) (B3 7 (some 7) (by kernel_rfl) rfl (A9 rfl) rfl rfl (fun ρ hρ => BX 62 rfl _ [str [], str [], .int .u8 0, str [], str [], str [], .int .u8 0, str [], str [], .int .i64 0, .int .i64 0] AY rfl) ?_)))))))
  rintro _ w4 ⟨g7, rfl, hg7, hq7, hb7, hfw4⟩
  refine ⟨fun _ => M.step hfw4, ?_⟩
  have M := M.push hfw4 _ hb7 (DA hg7 hq7)
  replace M : Mem w AB (As.blk g7 62 [str [], str [], .int .u8 0, str [], str [], str [], .int .u8 0, str [], str [], .int .i64 0, .int .i64 0] :: _) w4 := M
  refine B3 8 none (by kernel_rfl) rfl (A9 rfl) rfl rfl (fun ρ hρ => BP 62 _ _ rfl g7 0 62 _ (El.cells (c.atf ((c.flf t.on).tg))) (hρ _ _ rfl) (hρ _ _ rfl) (M.blk 0 rfl) AU (AP rfl) (AW rfl)) ?_
  rintro _ w5 ⟨rfl, hbw5, hfw5⟩
  replace M : Mem w AB (List.set _ 0 (As.blk g7 62 (El.cells (c.atf ((c.flf t.on).tg))))) w5 := M.putB 0 rfl hbw5 hfw5
  refine ⟨fun _ => M.drop 1, BJ (by kernel_rfl) (A2 (A4 (GV DT (by kernel_rfl) ?_)))⟩
  have M := M.drew
  refine sb rfl (sd rfl rfl (M.cell 0 rfl rfl) (sa rfl (B9 rfl rfl rfl) (sb rfl (M9 10 [(3, pg g3), (6, .bool (c.isF t.on)), (7, pg g7), (48, .bool ((decide (((c.atf ((c.flf t.on).tg)).kind.toNat : Int) = (5 : Int))) && (decide ((1 : Int) < (((c.outs ((c.atf ((c.flf t.on).tg)).id)).length : Nat) : Int)))))] ?_ (fun k38 => ?_)))))
  ·refine sb rfl (IP (A2 (A4 (A0 (yb rfl (yl rfl rfl (M.cell 2 rfl rfl) (yb rfl (yl rfl rfl (M.cell 2 rfl rfl) (ya rfl (BO (parts := [(0, _), (2, _)]) rfl rfl (O5 _ _)) (BI M (A9 rfl) rfl rfl 29 rfl [.int .i64 0, str [], str [], .int .i64 0, .int .i64 0, str [], .int .i64 0, .int .u8 0, .int .i64 0] LX rfl fun g9 w6 hg9 M => B5 (cs' := [.int .i64 t.id, str [], str t.on, .int .i64 0, .int .i64 0, str [], .int .i64 0, .int .u8 0, .int .i64 0]) M 0 (A9 rfl) rfl rfl rfl rfl rfl C7 rfl (AP rfl) (AW rfl) rfl fun w7 M => A1 (A2 ?_)))))))))))
   refine A4 (A4 (A0 (yb rfl (A1 (A2 (AQ (b := ((decide (((c.atf ((c.flf t.on).tg)).kind.toNat : Int) = (5 : Int))) && (decide ((1 : Int) < (((c.outs ((c.atf ((c.flf t.on).tg)).id)).length : Nat) : Int))))) rfl (fun h54 => ?_) (fun h54 => ?_)))))))
   ·have h54p := (And.intro (odt (C5 h54).1) (odt (C5 h54).2))
    refine A0 (yb rfl (BQ (cs' := [.int .i64 t.id, str [], str t.on, .int .i64 0, .int .i64 0, str [], .int .i64 0, .int .u8 1, .int .i64 0]) M 0 (A9 rfl) rfl rfl rfl rfl rfl rfl rfl PY (AZ rfl) rfl fun w8 M => yb rfl (BQ (cs' := [.int .i64 t.id, str [], str t.on, .int .i64 0, .int .i64 0, str [], .int .i64 0, .int .u8 1, .int .i64 91]) M 0 (A9 rfl) rfl rfl rfl rfl rfl rfl rfl M7 (AZ rfl) rfl fun w9 M => A1 (A2 (A4 (A0 (yb rfl (yb rfl (AT 7 [(3, pg g3), (9, pg g9), (65, .bool ((c.isF t.on) && (((decide (((c.atf ((c.flf t.on).tg)).kind.toNat : Int) = (5 : Int))) && (decide ((1 : Int) < (((c.outs ((c.atf ((c.flf t.on).tg)).id)).length : Nat) : Int)))) || (decide (((c.atf ((c.flf t.on).tg)).kind.toNat : Int) = (6 : Int))))))] (fun w' => Mem w AB [As.blk g9 29 [.int .i64 t.id, str [], str t.on, .int .i64 0, .int .i64 0, str [], .int .i64 0, .int .u8 1, .int .i64 91], As.blk g7 62 (El.cells (c.atf ((c.flf t.on).tg))), As.blk g5 65 (Fl.cells (c.flf t.on)), As.blk g3 29 (Tk.cells t)] w') ?_ (fun k58 => ?_))))))))))
    ·intro w10 M
     refine yb rfl (AT 4 [(70, .bool (((c.isF t.on) && (((decide (((c.atf ((c.flf t.on).tg)).kind.toNat : Int) = (5 : Int))) && (decide ((1 : Int) < (((c.outs ((c.atf ((c.flf t.on).tg)).id)).length : Nat) : Int)))) || (decide (((c.atf ((c.flf t.on).tg)).kind.toNat : Int) = (6 : Int))))) && (Tk.same t (⟨t.id, [], t.on, 0, 0, [], 0, 1, 91⟩ : Tk))))] (fun w' => Mem w AB [As.blk g9 29 [.int .i64 t.id, str [], str t.on, .int .i64 0, .int .i64 0, str [], .int .i64 0, .int .u8 1, .int .i64 91], As.blk g7 62 (El.cells (c.atf ((c.flf t.on).tg))), As.blk g5 65 (Fl.cells (c.flf t.on)), As.blk g3 29 (Tk.cells t)] w') ?_ (fun k66 => ?_))
     ·intro w11 M
      exact yb rfl (A1 (A2 (AD (AA (AH rfl rfl ⟨by rw [HE, if_pos h17, if_pos h54], M.fr⟩)))))
     refine AE (d := 66) (b := ((c.isF t.on) && (((decide (((c.atf ((c.flf t.on).tg)).kind.toNat : Int) = (5 : Int))) && (decide ((1 : Int) < (((c.outs ((c.atf ((c.flf t.on).tg)).id)).length : Nat) : Int)))) || (decide (((c.atf ((c.flf t.on).tg)).kind.toNat : Int) = (6 : Int)))))) rfl (fun h66 => ?_) (fun h66 => ?_)
     ·exact yd rfl (AN (xs := Tk.cells t) rfl rfl (M.rdBlk 3 rfl rfl) underlying29 rfl C7) (yd rfl (AN (xs := [.int .i64 t.id, str [], str t.on, .int .i64 0, .int .i64 0, str [], .int .i64 0, .int .u8 1, .int .i64 91]) rfl rfl (M.rdBlk 0 rfl rfl) underlying29 rfl C7) (yd rfl (N9 (a := t) (b := (⟨t.id, [], t.on, 0, 0, [], 0, 1, 91⟩ : Tk)) rfl rfl rfl) (yb rfl (k66 _ _ M ⟨(by rw [h66]; rfl), trivial⟩))))
     ·exact yo rfl (yo rfl (yo rfl (yb rfl (k66 _ _ M ⟨(by rw [h66]; rfl), trivial⟩))))
    refine AE (d := 58) (b := (c.isF t.on)) rfl (fun h58 => ?_) (fun h58 => ?_)
    ·refine yd rfl (yp rfl) (yd rfl (yp rfl) (AT 4 [(3, pg g3), (9, pg g9), (58, .bool true), (64, .bool (((decide (((c.atf ((c.flf t.on).tg)).kind.toNat : Int) = (5 : Int))) && (decide ((1 : Int) < (((c.outs ((c.atf ((c.flf t.on).tg)).id)).length : Nat) : Int)))) || (decide (((c.atf ((c.flf t.on).tg)).kind.toNat : Int) = (6 : Int)))))] (fun w' => Mem w AB [As.blk g9 29 [.int .i64 t.id, str [], str t.on, .int .i64 0, .int .i64 0, str [], .int .i64 0, .int .u8 1, .int .i64 91], As.blk g7 62 (El.cells (c.atf ((c.flf t.on).tg))), As.blk g5 65 (Fl.cells (c.flf t.on)), As.blk g3 29 (Tk.cells t)] w') ?_ (fun k60 => ?_)))
     ·intro w12 M
      exact yb rfl (k58 _ _ M ⟨rfl, rfl, (by rw [h58]; rfl), trivial⟩)
     refine AE (d := 60) (b := ((decide (((c.atf ((c.flf t.on).tg)).kind.toNat : Int) = (5 : Int))) && (decide ((1 : Int) < (((c.outs ((c.atf ((c.flf t.on).tg)).id)).length : Nat) : Int))))) rfl (fun h60 => ?_) (fun h60 => ?_)
     ·exact yo rfl (yo rfl (yo rfl (yd rfl (yp rfl) (k60 _ _ M ⟨rfl, rfl, rfl, (by rw [h60]; rfl), trivial⟩))))
     ·exact yd rfl (yp rfl) (ym rfl rfl (M.cell 1 rfl rfl) (yd rfl (B9 rfl rfl rfl) (yd rfl (yp rfl) (k60 _ _ M ⟨rfl, rfl, rfl, (by rw [h60]; rfl), trivial⟩))))
    ·exact yo rfl (yo rfl (BZ rfl rfl rfl rfl rfl (BZ rfl rfl rfl rfl rfl (BZ rfl rfl rfl rfl rfl (yo rfl (yb rfl (k58 _ _ M ⟨rfl, rfl, (by rw [h58]; rfl), trivial⟩)))))))
   ·have h54p := ((E9 h54).imp (fun z => (odf z)) (fun z => (odf z)))
    refine AL (A2 (A4 (A0 (yb rfl (yb rfl (AT 7 [(3, pg g3), (9, pg g9), (65, .bool ((c.isF t.on) && (((decide (((c.atf ((c.flf t.on).tg)).kind.toNat : Int) = (5 : Int))) && (decide ((1 : Int) < (((c.outs ((c.atf ((c.flf t.on).tg)).id)).length : Nat) : Int)))) || (decide (((c.atf ((c.flf t.on).tg)).kind.toNat : Int) = (6 : Int))))))] (fun w' => Mem w AB [As.blk g9 29 [.int .i64 t.id, str [], str t.on, .int .i64 0, .int .i64 0, str [], .int .i64 0, .int .u8 0, .int .i64 0], As.blk g7 62 (El.cells (c.atf ((c.flf t.on).tg))), As.blk g5 65 (Fl.cells (c.flf t.on)), As.blk g3 29 (Tk.cells t)] w') ?_ (fun k58 => ?_)))))))
    ·intro w13 M
     refine yb rfl (AT 4 [(70, .bool (((c.isF t.on) && (((decide (((c.atf ((c.flf t.on).tg)).kind.toNat : Int) = (5 : Int))) && (decide ((1 : Int) < (((c.outs ((c.atf ((c.flf t.on).tg)).id)).length : Nat) : Int)))) || (decide (((c.atf ((c.flf t.on).tg)).kind.toNat : Int) = (6 : Int))))) && (Tk.same t (⟨t.id, [], t.on, 0, 0, [], 0, 0, 0⟩ : Tk))))] (fun w' => Mem w AB [As.blk g9 29 [.int .i64 t.id, str [], str t.on, .int .i64 0, .int .i64 0, str [], .int .i64 0, .int .u8 0, .int .i64 0], As.blk g7 62 (El.cells (c.atf ((c.flf t.on).tg))), As.blk g5 65 (Fl.cells (c.flf t.on)), As.blk g3 29 (Tk.cells t)] w') ?_ (fun k66 => ?_))
     ·intro w14 M
      exact yb rfl (A1 (A2 (AD (AA (AH rfl rfl ⟨by rw [HE, if_pos h17, if_neg (BA h54)], M.fr⟩)))))
     refine AE (d := 66) (b := ((c.isF t.on) && (((decide (((c.atf ((c.flf t.on).tg)).kind.toNat : Int) = (5 : Int))) && (decide ((1 : Int) < (((c.outs ((c.atf ((c.flf t.on).tg)).id)).length : Nat) : Int)))) || (decide (((c.atf ((c.flf t.on).tg)).kind.toNat : Int) = (6 : Int)))))) rfl (fun h66 => ?_) (fun h66 => ?_)
     ·exact yd rfl (AN (xs := Tk.cells t) rfl rfl (M.rdBlk 3 rfl rfl) underlying29 rfl C7) (yd rfl (AN (xs := [.int .i64 t.id, str [], str t.on, .int .i64 0, .int .i64 0, str [], .int .i64 0, .int .u8 0, .int .i64 0]) rfl rfl (M.rdBlk 0 rfl rfl) underlying29 rfl C7) (yd rfl (N9 (a := t) (b := (⟨t.id, [], t.on, 0, 0, [], 0, 0, 0⟩ : Tk)) rfl rfl rfl) (yb rfl (k66 _ _ M ⟨(by rw [h66]; rfl), trivial⟩))))
     ·exact yo rfl (yo rfl (yo rfl (yb rfl (k66 _ _ M ⟨(by rw [h66]; rfl), trivial⟩))))
    refine AE (d := 58) (b := (c.isF t.on)) rfl (fun h58 => ?_) (fun h58 => ?_)
    ·refine yd rfl (yp rfl) (yd rfl (yp rfl) (AT 4 [(3, pg g3), (9, pg g9), (58, .bool true), (64, .bool (((decide (((c.atf ((c.flf t.on).tg)).kind.toNat : Int) = (5 : Int))) && (decide ((1 : Int) < (((c.outs ((c.atf ((c.flf t.on).tg)).id)).length : Nat) : Int)))) || (decide (((c.atf ((c.flf t.on).tg)).kind.toNat : Int) = (6 : Int)))))] (fun w' => Mem w AB [As.blk g9 29 [.int .i64 t.id, str [], str t.on, .int .i64 0, .int .i64 0, str [], .int .i64 0, .int .u8 0, .int .i64 0], As.blk g7 62 (El.cells (c.atf ((c.flf t.on).tg))), As.blk g5 65 (Fl.cells (c.flf t.on)), As.blk g3 29 (Tk.cells t)] w') ?_ (fun k60 => ?_)))
     ·intro w15 M
      exact yb rfl (k58 _ _ M ⟨rfl, rfl, (by rw [h58]; rfl), trivial⟩)
     refine AE (d := 60) (b := ((decide (((c.atf ((c.flf t.on).tg)).kind.toNat : Int) = (5 : Int))) && (decide ((1 : Int) < (((c.outs ((c.atf ((c.flf t.on).tg)).id)).length : Nat) : Int))))) rfl (fun h60 => ?_) (fun h60 => ?_)
     ·exact yo rfl (yo rfl (yo rfl (yd rfl (yp rfl) (k60 _ _ M ⟨rfl, rfl, rfl, (by rw [h60]; rfl), trivial⟩))))
     ·exact yd rfl (yp rfl) (ym rfl rfl (M.cell 1 rfl rfl) (yd rfl (B9 rfl rfl rfl) (yd rfl (yp rfl) (k60 _ _ M ⟨rfl, rfl, rfl, (by rw [h60]; rfl), trivial⟩))))
    ·exact yo rfl (yo rfl (BZ rfl rfl rfl rfl rfl (BZ rfl rfl rfl rfl rfl (BZ rfl rfl rfl rfl rfl (yo rfl (yb rfl (k58 _ _ M ⟨rfl, rfl, (by rw [h58]; rfl), trivial⟩)))))))
  refine GH (d := 38) (b := (decide (((c.atf ((c.flf t.on).tg)).kind.toNat : Int) = (5 : Int)))) rfl (fun h38 => ?_) (fun h38 => ?_)
  ·exact CN (B7 rfl rfl rfl) rfl rfl (yp rfl) (CN (B7 rfl rfl rfl) rfl rfl (yp rfl) (CN (B7 rfl rfl rfl) rfl rfl (yp rfl) (CN (B7 rfl rfl rfl) rfl rfl (CO rfl rfl (sc rfl) (Blk.c ((hC.fr0 M.fr).blk) 8 rfl)) (CN (B7 rfl rfl rfl) rfl rfl (yp rfl) (CN (B7 rfl rfl rfl) rfl rfl (CO rfl rfl (sc rfl) (M.cell 0 rfl rfl)) (CN (B7 rfl rfl rfl) rfl rfl (C2 rfl rfl rfl underlying57 underlying9 HJ ((hC.fr0 M.fr).O) (hC.getO _)) (CN (B7 rfl rfl rfl) rfl rfl (CY rfl rfl (sl rfl)) (CN (B7 rfl rfl rfl) rfl rfl (FR rfl rfl rfl) (sb rfl (k38 _ ⟨rfl, rfl, rfl, (by rw [h38]; rfl), trivial⟩))))))))))
  ·iterate 9 refine IO rfl rfl rfl rfl rfl rfl ?_
   exact sb rfl (k38 _ ⟨rfl, rfl, rfl, (by rw [h38]; rfl), trivial⟩)
 ·have h17p := (odf h17)
  refine AL (A2 (A4 (D8 13 (fun w' => Mem w AB [As.blk g3 29 (Tk.cells t)] w') DT ?_)))
  have M := M.drew
  refine oc 0 13 rfl rfl M (oc 1 13 rfl rfl M (oc 2 13 rfl rfl M (ol 3 13 rfl rfl rfl M (fun _ M => (Blk.c ((hC.fr0 M.fr).blk) 5 rfl)) (oc 4 13 rfl rfl M (ol 5 13 rfl rfl rfl M (fun _ M => (M.cell 0 rfl rfl)) (oa 6 13 rfl rfl M (fun _ M => DE rfl rfl rfl underlying55 underlying9 AY ((hC.fr0 M.fr).A) (hC.getA _) (hC.isA _)) (oc 7 13 rfl rfl M (oc 8 13 rfl rfl M (oc 9 13 rfl rfl M (B3 10 (some 10) (by kernel_rfl) rfl (A9 rfl) rfl rfl (fun ρ hρ => BX 62 rfl _ [str [], str [], .int .u8 0, str [], str [], str [], .int .u8 0, str [], str [], .int .i64 0, .int .i64 0] AY rfl) ?_))))))))))
  rintro _ w16 ⟨g10, rfl, hg10, hq10, hb10, hfw16⟩
  refine ⟨fun _ => M.step hfw16, ?_⟩
  have M := M.push hfw16 _ hb10 (DA hg10 hq10)
  replace M : Mem w AB (As.blk g10 62 [str [], str [], .int .u8 0, str [], str [], str [], .int .u8 0, str [], str [], .int .i64 0, .int .i64 0] :: _) w16 := M
  refine B3 11 none (by kernel_rfl) rfl (A9 rfl) rfl rfl (fun ρ hρ => BP 62 _ _ rfl g10 0 62 _ (El.cells (c.atf t.loc)) (hρ _ _ rfl) (hρ _ _ rfl) (M.blk 0 rfl) AU (AP rfl) (AW rfl)) ?_
  rintro _ w17 ⟨rfl, hbw17, hfw17⟩
  replace M : Mem w AB (List.set _ 0 (As.blk g10 62 (El.cells (c.atf t.loc)))) w17 := M.putB 0 rfl hbw17 hfw17
  refine ⟨fun _ => M.drop 1, oc 12 13 rfl rfl (M.drop 1) (BJ (by kernel_rfl) (A2 (A4 (A0 (yb rfl (yl rfl rfl (M.cell 1 rfl rfl) (yb rfl (yl rfl rfl (M.cell 1 rfl rfl) (yb rfl (yl rfl rfl (M.cell 1 rfl rfl) (ya rfl (BO (parts := [(0, _), (1, _), (3, _)]) rfl rfl (LT _ _ _)) (BI M (A9 rfl) rfl rfl 29 rfl [.int .i64 0, str [], str [], .int .i64 0, .int .i64 0, str [], .int .i64 0, .int .u8 0, .int .i64 0] LX rfl fun g12 w18 hg12 M => B5 (cs' := [.int .i64 t.id, str t.loc, str [], .int .i64 t.born, .int .i64 0, str [], .int .i64 0, .int .u8 0, .int .i64 0]) M 0 (A9 rfl) rfl rfl rfl rfl rfl C7 rfl (AP rfl) (AW rfl) rfl ?_))))))))))))⟩
  intro w19 M
  refine A1 (A2 (A4 (A4 (A0 (yb rfl (yl rfl rfl (M.cell 1 rfl rfl) (A1 (A2 (AV (A4 (A0 (ya rfl (B9 rfl rfl rfl) (yb rfl (A1 (A2 ?_)))))))))))))))
  refine AQ (b := (decide (((c.atf t.loc).kind.toNat : Int) = (4 : Int)))) rfl (fun h90 => ?_) (fun h90 => ?_)
  ·have h90p := (odt h90)
   refine A4 (D8 12 (fun w' => Mem w AB [As.blk g10 62 (El.cells (c.atf t.loc)), As.blk g3 29 (Tk.cells t)] w') DT ?_)
   have M := M.drew
   refine oc 0 12 rfl rfl (M.pk [1, 2]) (ol 1 12 rfl rfl rfl (M.pk [1, 2]) (fun _ M => (M.cell 1 rfl rfl)) (oc 2 12 rfl rfl (M.pk [1, 2]) (ol 3 12 rfl rfl rfl (M.pk [1, 2]) (fun _ M => (M.cell 1 rfl rfl)) (oc 4 12 rfl rfl (M.pk [1, 2]) (ol 5 12 rfl rfl rfl (M.pk [1, 2]) (fun _ M => (M.cell 1 rfl rfl)) (oc 6 12 rfl rfl (M.pk [1, 2]) (B3 7 none (by kernel_rfl) rfl (A9 rfl) rfl rfl (fun ρ hρ => DZ 3 _ _ rfl g12 4 29 _ (.int .i64 t.tries) (hρ _ _ rfl) (hρ _ _ rfl) rfl (M.blk 0 rfl) FT (AZ rfl) rfl) ?_)))))))
   rintro _ w20 ⟨rfl, hbw20, hfw20⟩
   replace M : Mem w AB (List.set _ 0 (As.blk g12 29 [.int .i64 t.id, str t.loc, str [], .int .i64 t.born, .int .i64 t.tries, str [], .int .i64 0, .int .u8 0, .int .i64 0])) w20 := M.putB 0 rfl hbw20 hfw20
   refine ⟨fun _ => (M.pk [1, 2]), oc 8 12 rfl rfl (M.pk [1, 2]) (B3 9 none (by kernel_rfl) rfl (A9 rfl) rfl rfl (fun ρ hρ => DZ 9 _ _ rfl g12 5 29 _ (str t.worker) (hρ _ _ rfl) (hρ _ _ rfl) rfl (M.blk 0 rfl) EM (AZ rfl) rfl) ?_)⟩
   rintro _ w21 ⟨rfl, hbw21, hfw21⟩
   replace M : Mem w AB (List.set _ 0 (As.blk g12 29 [.int .i64 t.id, str t.loc, str [], .int .i64 t.born, .int .i64 t.tries, str t.worker, .int .i64 0, .int .u8 0, .int .i64 0])) w21 := M.putB 0 rfl hbw21 hfw21
   refine ⟨fun _ => (M.pk [1, 2]), oc 10 12 rfl rfl (M.pk [1, 2]) (B3 11 none (by kernel_rfl) rfl (A9 rfl) rfl rfl (fun ρ hρ => DZ 3 _ _ rfl g12 6 29 _ (.int .i64 t.until_) (hρ _ _ rfl) (hρ _ _ rfl) rfl (M.blk 0 rfl) FT (AZ rfl) rfl) ?_)⟩
   rintro _ w22 ⟨rfl, hbw22, hfw22⟩
   replace M : Mem w AB (List.set _ 0 (As.blk g12 29 [.int .i64 t.id, str t.loc, str [], .int .i64 t.born, .int .i64 t.tries, str t.worker, .int .i64 t.until_, .int .u8 0, .int .i64 0])) w22 := M.putB 0 rfl hbw22 hfw22
   refine ⟨fun _ => (M.pk [1, 2]), BJ (by kernel_rfl) (A2 (A4 (A4 (A0 (yb rfl (yl rfl rfl (M.cell 2 rfl rfl) (ya rfl (B9 rfl rfl rfl) (A1 (A2 (AQ (b := (decide (t.tries = (0 : Int)))) rfl (fun h103 => ?_) (fun h103 => ?_)))))))))))⟩
   ·have h103p := (odt h103)
    refine A0 (yb rfl (BQ (cs' := [.int .i64 t.id, str t.loc, str [], .int .i64 t.born, .int .i64 t.tries, str t.worker, .int .i64 t.until_, .int .u8 2, .int .i64 0]) M 0 (A9 rfl) rfl rfl rfl rfl rfl rfl rfl PY (AZ rfl) rfl fun w23 M => yb rfl (BQ (cs' := [.int .i64 t.id, str t.loc, str [], .int .i64 t.born, .int .i64 t.tries, str [], .int .i64 t.until_, .int .u8 2, .int .i64 0]) M 0 (A9 rfl) rfl rfl rfl rfl rfl rfl rfl EM (AZ rfl) rfl fun w24 M => yb rfl (BQ (cs' := [.int .i64 t.id, str t.loc, str [], .int .i64 t.born, .int .i64 t.tries, str [], .int .i64 0, .int .u8 2, .int .i64 0]) M 0 (A9 rfl) rfl rfl rfl rfl rfl rfl rfl FT (AZ rfl) rfl fun w25 M => A1 (A2 (A4 (A0 (yb rfl (yb rfl ?_)))))))))
    refine AT 4 [(3, pg g3), (4, .bool false), (10, pg g10), (11, .bool (c.isA t.loc)), (12, pg g12), (112, .bool ((c.isA t.loc) && (Tk.same t (⟨t.id, t.loc, [], t.born, t.tries, [], 0, 2, 0⟩ : Tk))))] (fun w' => Mem w AB [As.blk g12 29 [.int .i64 t.id, str t.loc, str [], .int .i64 t.born, .int .i64 t.tries, str [], .int .i64 0, .int .u8 2, .int .i64 0], As.blk g10 62 (El.cells (c.atf t.loc)), As.blk g3 29 (Tk.cells t)] w') ?_ (fun k108 => ?_)
    ·intro w26 M
     refine yb rfl (AT 4 [(3, pg g3), (4, .bool false), (10, pg g10), (11, .bool (c.isA t.loc)), (12, pg g12), (117, .bool (((c.isA t.loc) && (Tk.same t (⟨t.id, t.loc, [], t.born, t.tries, [], 0, 2, 0⟩ : Tk))) && (decide ((0 : Int) ≤ t.tries))))] (fun w' => Mem w AB [As.blk g12 29 [.int .i64 t.id, str t.loc, str [], .int .i64 t.born, .int .i64 t.tries, str [], .int .i64 0, .int .u8 2, .int .i64 0], As.blk g10 62 (El.cells (c.atf t.loc)), As.blk g3 29 (Tk.cells t)] w') ?_ (fun k113 => ?_))
     ·intro w27 M
      refine yb rfl (AT 4 [(3, pg g3), (4, .bool false), (10, pg g10), (11, .bool (c.isA t.loc)), (12, pg g12), (122, .bool ((((c.isA t.loc) && (Tk.same t (⟨t.id, t.loc, [], t.born, t.tries, [], 0, 2, 0⟩ : Tk))) && (decide ((0 : Int) ≤ t.tries))) && (decide (t.tries ≤ (100 : Int)))))] (fun w' => Mem w AB [As.blk g12 29 [.int .i64 t.id, str t.loc, str [], .int .i64 t.born, .int .i64 t.tries, str [], .int .i64 0, .int .u8 2, .int .i64 0], As.blk g10 62 (El.cells (c.atf t.loc)), As.blk g3 29 (Tk.cells t)] w') ?_ (fun k118 => ?_))
      ·intro w28 M
       exact yb rfl (A1 (A2 (AD (AJ (AA (AH rfl rfl ⟨by rw [HE, if_neg (BA h17), if_pos h90, if_pos h103], M.fr⟩))))))
      refine AE (d := 118) (b := (((c.isA t.loc) && (Tk.same t (⟨t.id, t.loc, [], t.born, t.tries, [], 0, 2, 0⟩ : Tk))) && (decide ((0 : Int) ≤ t.tries)))) rfl (fun h118 => ?_) (fun h118 => ?_)
      ·exact yd rfl (yp rfl) (ym rfl rfl (M.cell 2 rfl rfl) (yd rfl (I2 rfl rfl rfl) (yb rfl (k118 _ _ M ⟨rfl, rfl, rfl, rfl, rfl, (by rw [h118]; rfl), trivial⟩))))
      ·exact yo rfl (yo rfl (yo rfl (yb rfl (k118 _ _ M ⟨rfl, rfl, rfl, rfl, rfl, (by rw [h118]; rfl), trivial⟩))))
     refine AE (d := 113) (b := ((c.isA t.loc) && (Tk.same t (⟨t.id, t.loc, [], t.born, t.tries, [], 0, 2, 0⟩ : Tk)))) rfl (fun h113 => ?_) (fun h113 => ?_)
     ·exact yd rfl (yp rfl) (ym rfl rfl (M.cell 2 rfl rfl) (yd rfl (EP rfl rfl rfl) (yb rfl (k113 _ _ M ⟨rfl, rfl, rfl, rfl, rfl, (by rw [h113]; rfl), trivial⟩))))
     ·exact yo rfl (yo rfl (yo rfl (yb rfl (k113 _ _ M ⟨rfl, rfl, rfl, rfl, rfl, (by rw [h113]; rfl), trivial⟩))))
    refine AE (d := 108) (b := (c.isA t.loc)) rfl (fun h108 => ?_) (fun h108 => ?_)
    ·exact yd rfl (AN (xs := Tk.cells t) rfl rfl (M.rdBlk 2 rfl rfl) underlying29 rfl C7) (yd rfl (AN (xs := [.int .i64 t.id, str t.loc, str [], .int .i64 t.born, .int .i64 t.tries, str [], .int .i64 0, .int .u8 2, .int .i64 0]) rfl rfl (M.rdBlk 0 rfl rfl) underlying29 rfl C7) (yd rfl (N9 (a := t) (b := (⟨t.id, t.loc, [], t.born, t.tries, [], 0, 2, 0⟩ : Tk)) rfl rfl rfl) (yb rfl (k108 _ _ M ⟨rfl, rfl, rfl, rfl, rfl, (by rw [h108]; rfl), trivial⟩))))
    ·exact yo rfl (yo rfl (yo rfl (yb rfl (k108 _ _ M ⟨rfl, rfl, rfl, rfl, rfl, (by rw [h108]; rfl), trivial⟩))))
   ·have h103p := (odf h103)
    refine AL (A2 (A4 (A0 (yb rfl (yb rfl (AT 4 [(3, pg g3), (4, .bool false), (10, pg g10), (11, .bool (c.isA t.loc)), (12, pg g12), (112, .bool ((c.isA t.loc) && (Tk.same t (⟨t.id, t.loc, [], t.born, t.tries, t.worker, t.until_, 0, 0⟩ : Tk))))] (fun w' => Mem w AB [As.blk g12 29 [.int .i64 t.id, str t.loc, str [], .int .i64 t.born, .int .i64 t.tries, str t.worker, .int .i64 t.until_, .int .u8 0, .int .i64 0], As.blk g10 62 (El.cells (c.atf t.loc)), As.blk g3 29 (Tk.cells t)] w') ?_ (fun k108 => ?_)))))))
    ·intro w29 M
     refine yb rfl (AT 4 [(3, pg g3), (4, .bool false), (10, pg g10), (11, .bool (c.isA t.loc)), (12, pg g12), (117, .bool (((c.isA t.loc) && (Tk.same t (⟨t.id, t.loc, [], t.born, t.tries, t.worker, t.until_, 0, 0⟩ : Tk))) && (decide ((0 : Int) ≤ t.tries))))] (fun w' => Mem w AB [As.blk g12 29 [.int .i64 t.id, str t.loc, str [], .int .i64 t.born, .int .i64 t.tries, str t.worker, .int .i64 t.until_, .int .u8 0, .int .i64 0], As.blk g10 62 (El.cells (c.atf t.loc)), As.blk g3 29 (Tk.cells t)] w') ?_ (fun k113 => ?_))
     ·intro w30 M
      refine yb rfl (AT 4 [(3, pg g3), (4, .bool false), (10, pg g10), (11, .bool (c.isA t.loc)), (12, pg g12), (122, .bool ((((c.isA t.loc) && (Tk.same t (⟨t.id, t.loc, [], t.born, t.tries, t.worker, t.until_, 0, 0⟩ : Tk))) && (decide ((0 : Int) ≤ t.tries))) && (decide (t.tries ≤ (100 : Int)))))] (fun w' => Mem w AB [As.blk g12 29 [.int .i64 t.id, str t.loc, str [], .int .i64 t.born, .int .i64 t.tries, str t.worker, .int .i64 t.until_, .int .u8 0, .int .i64 0], As.blk g10 62 (El.cells (c.atf t.loc)), As.blk g3 29 (Tk.cells t)] w') ?_ (fun k118 => ?_))
      ·intro w31 M
       exact yb rfl (A1 (A2 (AD (AJ (AA (AH rfl rfl ⟨by rw [HE, if_neg (BA h17), if_pos h90, if_neg (BA h103)], M.fr⟩))))))
      refine AE (d := 118) (b := (((c.isA t.loc) && (Tk.same t (⟨t.id, t.loc, [], t.born, t.tries, t.worker, t.until_, 0, 0⟩ : Tk))) && (decide ((0 : Int) ≤ t.tries)))) rfl (fun h118 => ?_) (fun h118 => ?_)
      ·exact yd rfl (yp rfl) (ym rfl rfl (M.cell 2 rfl rfl) (yd rfl (I2 rfl rfl rfl) (yb rfl (k118 _ _ M ⟨rfl, rfl, rfl, rfl, rfl, (by rw [h118]; rfl), trivial⟩))))
      ·exact yo rfl (yo rfl (yo rfl (yb rfl (k118 _ _ M ⟨rfl, rfl, rfl, rfl, rfl, (by rw [h118]; rfl), trivial⟩))))
     refine AE (d := 113) (b := ((c.isA t.loc) && (Tk.same t (⟨t.id, t.loc, [], t.born, t.tries, t.worker, t.until_, 0, 0⟩ : Tk)))) rfl (fun h113 => ?_) (fun h113 => ?_)
     ·exact yd rfl (yp rfl) (ym rfl rfl (M.cell 2 rfl rfl) (yd rfl (EP rfl rfl rfl) (yb rfl (k113 _ _ M ⟨rfl, rfl, rfl, rfl, rfl, (by rw [h113]; rfl), trivial⟩))))
     ·exact yo rfl (yo rfl (yo rfl (yb rfl (k113 _ _ M ⟨rfl, rfl, rfl, rfl, rfl, (by rw [h113]; rfl), trivial⟩))))
    refine AE (d := 108) (b := (c.isA t.loc)) rfl (fun h108 => ?_) (fun h108 => ?_)
    ·exact yd rfl (AN (xs := Tk.cells t) rfl rfl (M.rdBlk 2 rfl rfl) underlying29 rfl C7) (yd rfl (AN (xs := [.int .i64 t.id, str t.loc, str [], .int .i64 t.born, .int .i64 t.tries, str t.worker, .int .i64 t.until_, .int .u8 0, .int .i64 0]) rfl rfl (M.rdBlk 0 rfl rfl) underlying29 rfl C7) (yd rfl (N9 (a := t) (b := (⟨t.id, t.loc, [], t.born, t.tries, t.worker, t.until_, 0, 0⟩ : Tk)) rfl rfl rfl) (yb rfl (k108 _ _ M ⟨rfl, rfl, rfl, rfl, rfl, (by rw [h108]; rfl), trivial⟩))))
    ·exact yo rfl (yo rfl (yo rfl (yb rfl (k108 _ _ M ⟨rfl, rfl, rfl, rfl, rfl, (by rw [h108]; rfl), trivial⟩))))
  ·have h90p := (odf h90)
   refine A4 (A0 (ya rfl (B9 rfl rfl rfl) (yb rfl (A1 (A2 (AQ (b := (decide (((c.atf t.loc).kind.toNat : Int) = (8 : Int)))) rfl (fun h123 => ?_) (fun h123 => ?_)))))))
   ·have h123p := (odt h123)
    refine A4 (D8 12 (fun w' => Mem w AB [As.blk g12 29 [.int .i64 t.id, str t.loc, str [], .int .i64 t.born, .int .i64 0, str [], .int .i64 0, .int .u8 0, .int .i64 0], As.blk g10 62 (El.cells (c.atf t.loc)), As.blk g3 29 (Tk.cells t)] w') DT ?_)
    have M := M.drew
    refine oc 0 12 rfl rfl M (oc 1 12 rfl rfl M (oc 2 12 rfl rfl M (oa 3 12 rfl rfl M (fun _ M => AN (xs := [str m.id, str m.nm, .slice c.a.V m.vars.length c.a.vc, .slice c.a.E m.els.length c.a.ec, .slice c.a.F m.fls.length c.a.fc]) rfl rfl (FD ((hC.fr0 M.fr).blk) 0 5 rfl rfl) underlying26 rfl BL) (oc 4 12 rfl rfl M (ol 5 12 rfl rfl rfl M (fun _ M => (M.cell 2 rfl rfl)) (D0 6 (some 132) (by kernel_rfl) rfl (A9 rfl) rfl rfl (AF rfl rfl call54) (jK m c.a t.loc _ ho (hC.fr0 M.fr).md.md) ?_))))))
    rintro _ w32 ⟨rfl, hfw32⟩
    refine ⟨_, rfl, fun _ => M.step hfw32, ?_⟩
    have M := M.step hfw32
    refine oc 7 12 rfl rfl M (oc 8 12 rfl rfl M (oc 9 12 rfl rfl M (oc 10 12 rfl rfl M (oc 11 12 rfl rfl M (BJ (by kernel_rfl) (A2 (A4 (A0 (yb rfl (yb rfl (AT 4 [(3, pg g3), (4, .bool false), (10, pg g10), (11, .bool (c.isA t.loc)), (12, pg g12), (14, .bool ((OP m t.loc).2)), (140, .bool ((c.isA t.loc) && (Tk.same t (⟨t.id, t.loc, [], t.born, 0, [], 0, 0, 0⟩ : Tk))))] (fun w' => Mem w AB [As.blk g12 29 [.int .i64 t.id, str t.loc, str [], .int .i64 t.born, .int .i64 0, str [], .int .i64 0, .int .u8 0, .int .i64 0], As.blk g10 62 (El.cells (c.atf t.loc)), As.blk g3 29 (Tk.cells t)] w') ?_ (fun k136 => ?_))))))))))))
    ·intro w33 M
     refine yb rfl (AT 3 [(3, pg g3), (4, .bool false), (10, pg g10), (11, .bool (c.isA t.loc)), (12, pg g12), (144, .bool (((c.isA t.loc) && (Tk.same t (⟨t.id, t.loc, [], t.born, 0, [], 0, 0, 0⟩ : Tk))) && (!(OP m t.loc).2)))] (fun w' => Mem w AB [As.blk g12 29 [.int .i64 t.id, str t.loc, str [], .int .i64 t.born, .int .i64 0, str [], .int .i64 0, .int .u8 0, .int .i64 0], As.blk g10 62 (El.cells (c.atf t.loc)), As.blk g3 29 (Tk.cells t)] w') ?_ (fun k141 => ?_))
     ·intro w34 M
      exact yb rfl (A1 (A2 (AD (AJ (AA (AH rfl rfl ⟨by rw [HE, if_neg (BA h17), if_neg (BA h90), if_pos h123], M.fr⟩))))))
     refine AE (d := 141) (b := ((c.isA t.loc) && (Tk.same t (⟨t.id, t.loc, [], t.born, 0, [], 0, 0, 0⟩ : Tk)))) rfl (fun h141 => ?_) (fun h141 => ?_)
     ·exact yd rfl (yp rfl) (yd rfl (yp rfl) (yb rfl (k141 _ _ M ⟨rfl, rfl, rfl, rfl, rfl, (by rw [h141]; rfl), trivial⟩)))
     ·exact yo rfl (yo rfl (yb rfl (k141 _ _ M ⟨rfl, rfl, rfl, rfl, rfl, (by rw [h141]; rfl), trivial⟩)))
    refine AE (d := 136) (b := (c.isA t.loc)) rfl (fun h136 => ?_) (fun h136 => ?_)
    ·exact yd rfl (AN (xs := Tk.cells t) rfl rfl (M.rdBlk 2 rfl rfl) underlying29 rfl C7) (yd rfl (AN (xs := [.int .i64 t.id, str t.loc, str [], .int .i64 t.born, .int .i64 0, str [], .int .i64 0, .int .u8 0, .int .i64 0]) rfl rfl (M.rdBlk 0 rfl rfl) underlying29 rfl C7) (yd rfl (N9 (a := t) (b := (⟨t.id, t.loc, [], t.born, 0, [], 0, 0, 0⟩ : Tk)) rfl rfl rfl) (yb rfl (k136 _ _ M ⟨rfl, rfl, rfl, rfl, rfl, rfl, (by rw [h136]; rfl), trivial⟩))))
    ·exact yo rfl (yo rfl (yo rfl (yb rfl (k136 _ _ M ⟨rfl, rfl, rfl, rfl, rfl, rfl, (by rw [h136]; rfl), trivial⟩))))
   ·have h123p := (odf h123)
    refine AL (AC (A2 (A4 (A0 (yb rfl (yb rfl (AT 4 [(4, .bool false), (10, pg g10), (150, .bool ((c.isA t.loc) && (Tk.same t (⟨t.id, t.loc, [], t.born, 0, [], 0, 0, 0⟩ : Tk))))] (fun w' => Mem w AB [As.blk g12 29 [.int .i64 t.id, str t.loc, str [], .int .i64 t.born, .int .i64 0, str [], .int .i64 0, .int .u8 0, .int .i64 0], As.blk g10 62 (El.cells (c.atf t.loc)), As.blk g3 29 (Tk.cells t)] w') ?_ (fun k146 => ?_))))))))
    ·intro w35 M
     refine yb rfl (AT 9 [(4, .bool false), (160, .bool (((c.isA t.loc) && (Tk.same t (⟨t.id, t.loc, [], t.born, 0, [], 0, 0, 0⟩ : Tk))) && ((decide (((c.atf t.loc).kind.toNat : Int) = (3 : Int))) || (decide (((c.atf t.loc).kind.toNat : Int) = (7 : Int))))))] (fun w' => Mem w AB [As.blk g12 29 [.int .i64 t.id, str t.loc, str [], .int .i64 t.born, .int .i64 0, str [], .int .i64 0, .int .u8 0, .int .i64 0], As.blk g10 62 (El.cells (c.atf t.loc)), As.blk g3 29 (Tk.cells t)] w') ?_ (fun k151 => ?_))
     ·intro w36 M
      exact yb rfl (A1 (A2 (AD (AH rfl rfl ⟨by rw [HE, if_neg (BA h17), if_neg (BA h90), if_neg (BA h123)], M.fr⟩))))
     refine AE (d := 151) (b := ((c.isA t.loc) && (Tk.same t (⟨t.id, t.loc, [], t.born, 0, [], 0, 0, 0⟩ : Tk)))) rfl (fun h151 => ?_) (fun h151 => ?_)
     ·refine yd rfl (yp rfl) (ym rfl rfl (M.cell 1 rfl rfl) (yd rfl (B9 rfl rfl rfl) (yd rfl (yp rfl) (AT 4 [(4, .bool false), (151, .bool true), (159, .bool ((decide (((c.atf t.loc).kind.toNat : Int) = (3 : Int))) || (decide (((c.atf t.loc).kind.toNat : Int) = (7 : Int)))))] (fun w' => Mem w AB [As.blk g12 29 [.int .i64 t.id, str t.loc, str [], .int .i64 t.born, .int .i64 0, str [], .int .i64 0, .int .u8 0, .int .i64 0], As.blk g10 62 (El.cells (c.atf t.loc)), As.blk g3 29 (Tk.cells t)] w') ?_ (fun k155 => ?_)))))
      ·intro w37 M
       exact yb rfl (k151 _ _ M ⟨rfl, (by rw [h151]; rfl), trivial⟩)
      refine AE (d := 155) (b := (decide (((c.atf t.loc).kind.toNat : Int) = (3 : Int)))) rfl (fun h155 => ?_) (fun h155 => ?_)
      ·exact yo rfl (yo rfl (yo rfl (yd rfl (yp rfl) (k155 _ _ M ⟨rfl, rfl, (by rw [h155]; rfl), trivial⟩))))
      ·exact yd rfl (yp rfl) (ym rfl rfl (M.cell 1 rfl rfl) (yd rfl (B9 rfl rfl rfl) (yd rfl (yp rfl) (k155 _ _ M ⟨rfl, rfl, (by rw [h155]; rfl), trivial⟩))))
     ·iterate 4 refine yo rfl ?_
      exact BZ rfl rfl rfl rfl rfl (BZ rfl rfl rfl rfl rfl (BZ rfl rfl rfl rfl rfl (yo rfl (yb rfl (k151 _ _ M ⟨rfl, (by rw [h151]; rfl), trivial⟩)))))
    refine AE (d := 146) (b := (c.isA t.loc)) rfl (fun h146 => ?_) (fun h146 => ?_)
    ·exact yd rfl (AN (xs := Tk.cells t) rfl rfl (M.rdBlk 2 rfl rfl) underlying29 rfl C7) (yd rfl (AN (xs := [.int .i64 t.id, str t.loc, str [], .int .i64 t.born, .int .i64 0, str [], .int .i64 0, .int .u8 0, .int .i64 0]) rfl rfl (M.rdBlk 0 rfl rfl) underlying29 rfl C7) (yd rfl (N9 (a := t) (b := (⟨t.id, t.loc, [], t.born, 0, [], 0, 0, 0⟩ : Tk)) rfl rfl rfl) (yb rfl (k146 _ _ M ⟨rfl, rfl, (by rw [h146]; rfl), trivial⟩))))
    ·exact yo rfl (yo rfl (yo rfl (yb rfl (k146 _ _ M ⟨rfl, rfl, (by rw [h146]; rfl), trivial⟩))))
end Go.Proofs.YtadgfojhjnkliaaGreatDoor
