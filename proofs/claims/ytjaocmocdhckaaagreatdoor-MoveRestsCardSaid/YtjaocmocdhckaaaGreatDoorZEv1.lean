/- Lemmas that the last text rests on. Condition: each says its own. -/
import Derived.Test.YtjaocmocdhckaaaGreatDoorZEvB
set_option maxHeartbeats 16000000
set_option maxRecDepth 100000
namespace Go.Proofs.YtjaocmocdhckaaaGreatDoor
open Go.RowKit
open Tryz
theorem SS (a b : List UInt8) (w : World) : Calls prog 266 #[str a, str b] w fun e w' => e = .returned (.int .i64 (Lib.compareBytes a b)) ∧ Fr0 w w' :=
 (Tryz.strings_Compare ⟨a.toArray⟩ ⟨b.toArray⟩ w).mono fun _ _ ⟨h1, h2⟩ => ⟨h1, h2 ▸ Fr.refl⟩
theorem GW : (prog.info? 45).map (fun i => (i.zero, i.size)) = some (some (.agg #[.int .u8 0, AJ 0, .bool false, str []]), 4) := by kernel_rfl
theorem ZX : (prog.info? 3).map (fun i => (i.zero, i.size)) = some (some (AJ 0), 1) := by kernel_rfl
def IU (b : Bool) : Int := (if b = true then 1 else 0)
theorem SL (b : Bool) (w : World) : Calls prog 265 #[.bool b] w (CG w (AJ (IU b))) := by
 refine C5 func265 ntmps265 rfl fun M => srg (AY rfl (AF (srg (AY rfl (AL rfl (fun h3 => ?_) (fun h3 => ?_))))))
 ·exact AQ rfl (gnr (AB (gr1 rfl ⟨by rw [IU, if_pos h3] <;> rfl, M.fr⟩)))
 ·exact AI (AD (AQ rfl (gnr (gr1 rfl ⟨by rw [IU, AT h3] <;> rfl, M.fr⟩))))
theorem XN (b : Bool) : 0 ≤ IU b ∧ IU b ≤ 1 := by unfold IU; split <;> decide
theorem iX (x : Int) (w : World) : Calls prog 267 #[.int .u8 x] w (CG w (.bool (!(decide (x = x))))) := by
 refine C5 func267 ntmps267 rfl fun M => srg (AY rfl (AQ rfl (yb rfl (DA rfl rfl (yb rfl (gnr (gr1 rfl ?_)))))))
 exact ⟨rfl, M.fr⟩
def LH (x y : Int) : Int := (if (!(decide (x = x))) = true then (if (!(decide (y = y))) = true then 0 else (-1)) else (if (!(decide (y = y))) = true then 1 else (if (decide (x < y)) = true then (-1) else (if (decide (y < x)) = true then 1 else 0))))
theorem XC (x y : Int) (w : World) : Calls prog 263 #[.int .u8 x, .int .u8 y] w (CG w (AJ (LH x y))) := by
 refine C5 func263 ntmps263 rfl fun M => srg (AY rfl (AQ rfl (D4 M 8 rfl rfl call267 (iX x _) fun w1 M => AY rfl (AQ rfl ?_))))
 refine D4 M 10 rfl rfl call267 (iX y _) fun w2 M => AY rfl (AF (srg (AY rfl (AL rfl (fun h11 => ?_) (fun h11 => ?_)))))
 ·refine AF (srg (AY rfl (AL rfl (fun h12 => ?_) (fun h12 => ?_))))
  ·exact AQ rfl (gnr (AB (AB (gr1 rfl ⟨by rw [LH, if_pos h11, if_pos h12] <;> rfl, M.fr⟩))))
  ·exact AI (AD (AQ rfl (gnr (AB (gr1 rfl ⟨by rw [LH, if_pos h11, AT h12] <;> rfl, M.fr⟩)))))
 ·refine AI (AD (AF (srg (AY rfl (AL rfl (fun h13 => ?_) (fun h13 => ?_))))))
  ·exact AQ rfl (gnr (AB (gr1 rfl ⟨by rw [LH, AT h11, if_pos h13] <;> rfl, M.fr⟩)))
  ·refine AI (AD (AF (AQ rfl (yb rfl (CF rfl rfl (nq (AL rfl (fun h16 => ?_) (fun h16 => ?_))))))))
   ·exact AQ rfl (gnr (AB (gr1 rfl ⟨by rw [LH, AT h11, AT h13, if_pos h16] <;> rfl, M.fr⟩)))
   ·refine AI (AD (AF (AQ rfl (yb rfl (LD rfl rfl (nq (AL rfl (fun h19 => ?_) (fun h19 => ?_))))))))
    ·exact AQ rfl (gnr (AB (gr1 rfl ⟨by rw [LH, AT h11, AT h13, AT h16, if_pos h19] <;> rfl, M.fr⟩)))
    ·exact AI (AD (AQ rfl (gnr (gr1 rfl ⟨by rw [LH, AT h11, AT h13, AT h16, AT h19] <;> rfl, M.fr⟩))))
theorem iY (x : Int) (w : World) : Calls prog 268 #[AJ x] w (CG w (.bool (!(decide (x = x))))) := by
 refine C5 func268 ntmps268 rfl fun M => srg (AY rfl (AQ rfl (yb rfl (DA rfl rfl (yb rfl (gnr (gr1 rfl ?_)))))))
 exact ⟨rfl, M.fr⟩
def LJ (x y : Int) : Int := (if (!(decide (x = x))) = true then (if (!(decide (y = y))) = true then 0 else (-1)) else (if (!(decide (y = y))) = true then 1 else (if (decide (x < y)) = true then (-1) else (if (decide (y < x)) = true then 1 else 0))))
theorem XD (x y : Int) (w : World) : Calls prog 264 #[AJ x, AJ y] w (CG w (AJ (LJ x y))) := by
 refine C5 func264 ntmps264 rfl fun M => srg (AY rfl (AQ rfl (D4 M 8 rfl rfl call268 (iY x _) fun w1 M => AY rfl (AQ rfl ?_))))
 refine D4 M 10 rfl rfl call268 (iY y _) fun w2 M => AY rfl (AF (srg (AY rfl (AL rfl (fun h11 => ?_) (fun h11 => ?_)))))
 ·refine AF (srg (AY rfl (AL rfl (fun h12 => ?_) (fun h12 => ?_))))
  ·exact AQ rfl (gnr (AB (AB (gr1 rfl ⟨by rw [LJ, if_pos h11, if_pos h12] <;> rfl, M.fr⟩))))
  ·exact AI (AD (AQ rfl (gnr (AB (gr1 rfl ⟨by rw [LJ, if_pos h11, AT h12] <;> rfl, M.fr⟩)))))
 ·refine AI (AD (AF (srg (AY rfl (AL rfl (fun h13 => ?_) (fun h13 => ?_))))))
  ·exact AQ rfl (gnr (AB (gr1 rfl ⟨by rw [LJ, AT h11, if_pos h13] <;> rfl, M.fr⟩)))
  ·refine AI (AD (AF (AQ rfl (yb rfl (CF rfl rfl (nq (AL rfl (fun h16 => ?_) (fun h16 => ?_))))))))
   ·exact AQ rfl (gnr (AB (gr1 rfl ⟨by rw [LJ, AT h11, AT h13, if_pos h16] <;> rfl, M.fr⟩)))
   ·refine AI (AD (AF (AQ rfl (yb rfl (LD rfl rfl (nq (AL rfl (fun h19 => ?_) (fun h19 => ?_))))))))
    ·exact AQ rfl (gnr (AB (gr1 rfl ⟨by rw [LJ, AT h11, AT h13, AT h16, if_pos h19] <;> rfl, M.fr⟩)))
    ·exact AI (AD (AQ rfl (gnr (gr1 rfl ⟨by rw [LJ, AT h11, AT h13, AT h16, AT h19] <;> rfl, M.fr⟩))))
def orP : List Int → Int
 | [] => 0
 | x :: r => if (!decide (x = (0 : Int))) = true then x else orP r
theorem kK (A : Option Addr) (c : Nat) (l : List Int) (w : World) (hl : l.length ≤ 1048576) (hR : Rd w A (l.length * 1) (AH NQ l)) : Calls prog 262 #[.slice A l.length c] w (CG w (AJ (orP l))) := by
 refine C5 func262 ntmps262 rfl fun M => srg (AY rfl (srg (AY rfl (AF (AQ rfl (ya rfl (C3 rfl rfl (sl rfl)) ?_))))))
 refine AY rfl (AS (flp [7, 6, 3] (fun ze e wr mz => ∃ (i : Nat), e = (8, AJ ((i : Nat) : Int)) :: ze ∧ Mem w B0 [] wr ∧ (i ≤ l.length) ∧ (orP l = orP (l.drop i)) ∧ mz = l.length - i) ⟨0, rfl, M, Nat.zero_le _, rfl, rfl⟩ ?_))
 rintro _ w1 _ ⟨i, rfl, M, hi, hE, rfl⟩
 refine srg (CF rfl rfl (nq (AF (AL rfl (fun h9 => ?_) (fun h9 => ?_)))))
 ·have h9p := (odt h9)
  refine AI (AD (AF (AS (srg ?_))))
  obtain ⟨x, hx⟩ := CC (l := l) (i := i) AM
  obtain ⟨b_x, o_x, hA_x⟩ := BI (k := 1) AM (hR.fr0 M.fr) hx
  refine ya rfl (B1 i hA_x rfl rfl rfl (sl rfl) AM) (yl rfl rfl (DQ WN (hR.fr0 M.fr) hA_x hx 0 rfl) (AY rfl (AQ rfl (yb rfl (DA rfl rfl (nq (AL rfl (fun h14 => ?_) (fun h14 => ?_))))))))
  ·exact AQ rfl (yb rfl (gnr (AN (AB (AB (AN (AB (gr1 rfl ⟨by rw [hE, B7 hx, orP, if_pos h14], M.fr⟩))))))))
  ·have h14p := (odt (BQ h14))
   refine AI (AE (AD (AK (ya rfl (BO rfl rfl rfl AM) (yb rfl (AR (fag ⟨i + 1, rfl, M, ?_, ?_, rfl⟩)))))))
   ·omega
   ·rw [hE, B7 hx, orP, AT h14]
 ·have h9p := (odf h9)
  refine BF (AG (AG (AV (AD (AQ rfl (yb rfl (gnr (gr1 rfl ?_))))))))
  obtain rfl : i = l.length := by omega
  exact ⟨by rw [hE, List.drop_length]; rfl, M.fr⟩
def eN (a b : Vl) : Int := (orP [(LH (a.kind.toNat : Int) (b.kind.toNat : Int)), (LJ a.int b.int), ((IU a.bool) - (IU b.bool)), (Lib.compareBytes a.text b.text)])
theorem lR (a b : Vl) (w : World) : Calls prog 259 #[.agg a.cells.toArray, .agg b.cells.toArray] w fun e w' => e = .returned (.int .i64 (eN a b)) ∧ Fr0 w w' := by
 have hba := XN a.bool
 have hbb := XN b.bool
 refine C5 func259 ntmps259 rfl fun M => srg (CR M rfl rfl fun g2 w1 hg2 M => CR M rfl rfl fun g3 w2 hg3 M => AY rfl (AF (CV 25 (fun w' => Mem w B0 [As.blk g3 45 (Vl.cells b), As.blk g2 45 (Vl.cells a)] w') CZ ?_)))
 have M := M.drew
 refine oc 0 25 rfl rfl M (ol 1 25 rfl rfl rfl M (fun _ M => (M.cell 1 rfl rfl)) (oc 2 25 rfl rfl M (ol 3 25 rfl rfl rfl M (fun _ M => (M.cell 0 rfl rfl)) (oc 5 25 rfl rfl M (ol 6 25 rfl rfl rfl M (fun _ M => (M.cell 1 rfl rfl)) (oc 7 25 rfl rfl M (ol 8 25 rfl rfl rfl M (fun _ M => (M.cell 0 rfl rfl)) (oc 10 25 rfl rfl M (ol 11 25 rfl rfl rfl M (fun _ M => (M.cell 1 rfl rfl)) (oc 13 25 rfl rfl M (ol 14 25 rfl rfl rfl M (fun _ M => (M.cell 0 rfl rfl)) (oc 17 25 rfl rfl M (ol 18 25 rfl rfl rfl M (fun _ M => (M.cell 1 rfl rfl)) (oc 19 25 rfl rfl M (ol 20 25 rfl rfl rfl M (fun _ M => (M.cell 0 rfl rfl)) ?_)))))))))))))))
 refine C7 4 (some 9) gkr rfl (AA rfl) rfl rfl (AP rfl rfl call263) (XC (a.kind.toNat : Int) (b.kind.toNat : Int) _) ?_
 rintro _ w3 ⟨rfl, hfw3⟩
 refine ⟨_, rfl, fun _ => M.step hfw3, ?_⟩
 have M := M.step hfw3
 refine C7 9 (some 14) gkr rfl (AA rfl) rfl rfl (AP rfl rfl call264) (XD a.int b.int _) ?_
 rintro _ w4 ⟨rfl, hfw4⟩
 refine ⟨_, rfl, fun _ => M.step hfw4, ?_⟩
 have M := M.step hfw4
 refine C7 12 (some 17) gkr rfl (AA rfl) rfl rfl (AP rfl rfl call265) (SL a.bool _) ?_
 rintro _ w5 ⟨rfl, hfw5⟩
 refine ⟨_, rfl, fun _ => M.step hfw5, ?_⟩
 have M := M.step hfw5
 refine C7 15 (some 20) gkr rfl (AA rfl) rfl rfl (AP rfl rfl call265) (SL b.bool _) ?_
 rintro _ w6 ⟨rfl, hfw6⟩
 refine ⟨_, rfl, fun _ => M.step hfw6, ?_⟩
 have M := M.step hfw6
 refine oa 16 25 rfl rfl M (fun _ M => oO rfl rfl rfl AM) (C7 21 (some 26) gkr rfl (AA rfl) rfl rfl (AP rfl rfl call266) (SS a.text b.text _) ?_)
 rintro _ w7 ⟨rfl, hfw7⟩
 refine ⟨_, rfl, fun _ => M.step hfw7, ?_⟩
 have M := M.step hfw7
 refine BB 22 (some 27) gkr rfl (AA rfl) rfl rfl (fun ρ hρ => DR [.int .i64 (LH (a.kind.toNat : Int) (b.kind.toNat : Int)), .int .i64 (LJ a.int b.int), .int .i64 ((IU a.bool) - (IU b.bool)), .int .i64 (Lib.compareBytes a.text b.text)] _ hρ rfl rfl rfl rfl underlying215 ZX BU BU (by intro v hv; simp only [List.mem_cons, List.not_mem_nil, or_false] at hv; rcases hv with rfl | rfl | rfl | rfl <;> rfl)) ?_
 rintro _ w8 ⟨g27, rfl, hg27, hq27, hb27, hfw8⟩
 replace hb27 : Blk w8 g27 3 ([.int .i64 (LH (a.kind.toNat : Int) (b.kind.toNat : Int)), .int .i64 (LJ a.int b.int), .int .i64 ((IU a.bool) - (IU b.bool)), .int .i64 (Lib.compareBytes a.text b.text)]) := hb27
 refine ⟨fun _ => M.step hfw8, ?_⟩
 have M := M.push hfw8 _ hb27 (EB hg27 hq27)
 replace M : Mem w B0 (As.blk g27 3 ([.int .i64 (LH (a.kind.toNat : Int) (b.kind.toNat : Int)), .int .i64 (LJ a.int b.int), .int .i64 ((IU a.bool) - (IU b.bool)), .int .i64 (Lib.compareBytes a.text b.text)]) :: _) w8 := M
 refine C7 23 (some 28) gkr rfl (AA rfl) rfl rfl (AP rfl rfl call262) (kK (some ⟨g27, 0, none⟩) 4 [(LH (a.kind.toNat : Int) (b.kind.toNat : Int)), (LJ a.int b.int), ((IU a.bool) - (IU b.bool)), (Lib.compareBytes a.text b.text)] _ (by simp) (M.rdBlk 0 rfl rfl)) ?_
 rintro _ w9 ⟨rfl, hfw9⟩
 refine ⟨_, rfl, fun _ => (M.drop 1).step hfw9, ?_⟩
 have M := M.step hfw9
 exact oc 24 25 rfl rfl (M.drop 1) (fdn (AD (BN (gr1 rfl ⟨by rw [eN] <;> rfl, M.fr⟩))))
def JW (a b : Vl) : Bool × Int := (if ((((!decide ((a.kind.toNat : Int) = (b.kind.toNat : Int))) || (decide ((a.kind.toNat : Int) = (2 : Int)))) || (!decide ((chk a) = (0 : Int)))) || (!decide ((chk b) = (0 : Int)))) = true then (false, 90) else ((decide ((eN a b) < (0 : Int))), 0))
theorem eK (a b : Vl) (w : World) (ha : a.text.length ≤ 1048576) (hb : b.text.length ≤ 1048576) (hY : Lay0 w) : Calls prog 249 #[.agg a.cells.toArray, .agg b.cells.toArray] w (CG w (.tuple #[.bool (JW a b).1, AJ (JW a b).2])) := by
 refine C5 func249 ntmps249 rfl fun M => srg (CR M rfl rfl fun g2 w1 hg2 M => CR M rfl rfl fun g3 w2 hg3 M => yb rfl (AY rfl (AF (AQ rfl (BC M 1 rfl rfl rfl ?_)))))
 refine yb rfl (BC M 0 rfl rfl rfl (DA rfl rfl (yb rfl (fvm M 4 [3, 2] [(15, .bool ((!decide ((a.kind.toNat : Int) = (b.kind.toNat : Int))) || (decide ((a.kind.toNat : Int) = (2 : Int)))))] ?_ (fun k11 => ?_)))))
 ·intro w3 M
  refine yb rfl (fvm M 4 [3, 2] [(20, .bool (((!decide ((a.kind.toNat : Int) = (b.kind.toNat : Int))) || (decide ((a.kind.toNat : Int) = (2 : Int)))) || (!decide ((chk a) = (0 : Int)))))] ?_ (fun k16 => ?_))
  ·intro w4 M
   refine yb rfl (fvm M 4 [3, 2] [(25, .bool ((((!decide ((a.kind.toNat : Int) = (b.kind.toNat : Int))) || (decide ((a.kind.toNat : Int) = (2 : Int)))) || (!decide ((chk a) = (0 : Int)))) || (!decide ((chk b) = (0 : Int)))))] ?_ (fun k21 => ?_))
   ·intro w5 M
    refine nq (AL rfl (fun h25 => ?_) (fun h25 => ?_))
    ·have h25p := ((EO h25).imp (fun z => ((EO z).imp (fun z => ((EO z).imp (fun z => (odf (CK z))) (fun z => (odt z)))) (fun z => (odf (CK z))))) (fun z => (odf (CK z))))
     exact AQ rfl (yb rfl (gnr (AB (CI rfl rfl rfl ⟨by rw [JW, if_pos h25] <;> rfl, M.fr⟩))))
    ·exact AI (AD (srg (CW M 1 rfl rfl underlying45 AC rfl (CW M 0 rfl rfl underlying45 AC rfl (D4 M 28 rfl rfl call259 (lR a b _) fun w6 M => CF rfl rfl (BM rfl rfl (gnr (CI rfl rfl rfl ⟨by rw [JW, AT h25] <;> rfl, M.fr⟩))))))))
   refine AO (d := 21) rfl (fun h21 => ?_) (fun h21 => ?_)
   ·exact yo rfl (yo rfl (yo rfl (yb rfl (k21 M ⟨rfl, rfl, (by rw [h21]; rfl), trivial⟩))))
   ·refine yd rfl (AU (xs := Vl.cells b) rfl rfl (M.rdBlk 0 rfl rfl) underlying45 rfl AC) (B3 (some 23) (BG rfl rfl rfl) rfl rfl (AP rfl rfl call65) (FR b _ AM (hY.fr0 M.fr).utf) ?_)
    rintro _ w7 ⟨rfl, hfw7⟩
    refine ⟨_, rfl, ?_⟩
    have M := M.step hfw7
    exact yd rfl (E4 rfl rfl rfl) (yb rfl (k21 M ⟨rfl, rfl, (by rw [h21]; rfl), trivial⟩))
  refine AO (d := 16) rfl (fun h16 => ?_) (fun h16 => ?_)
  ·exact yo rfl (yo rfl (yo rfl (yb rfl (k16 M ⟨rfl, rfl, (by rw [h16]; rfl), trivial⟩))))
  ·refine yd rfl (AU (xs := Vl.cells a) rfl rfl (M.rdBlk 1 rfl rfl) underlying45 rfl AC) (B3 (some 18) (BG rfl rfl rfl) rfl rfl (AP rfl rfl call65) (FR a _ AM (hY.fr0 M.fr).utf) ?_)
   rintro _ w8 ⟨rfl, hfw8⟩
   refine ⟨_, rfl, ?_⟩
   have M := M.step hfw8
   exact yd rfl (E4 rfl rfl rfl) (yb rfl (k16 M ⟨rfl, rfl, (by rw [h16]; rfl), trivial⟩))
 refine AO (d := 11) rfl (fun h11 => ?_) (fun h11 => ?_)
 ·exact yo rfl (yo rfl (yo rfl (yb rfl (k11 M ⟨rfl, rfl, (by rw [h11]; rfl), trivial⟩))))
 ·exact gyq rfl (CJ M 1 rfl rfl rfl (yd rfl (BZ rfl rfl rfl) (yb rfl (k11 M ⟨rfl, rfl, (by rw [h11]; rfl), trivial⟩))))
def i6 (v : Vl) : Bool := (!decide ((v.kind.toNat : Int) = (1 : Int))) || (!decide (chk v = (0 : Int)))
def IR (l : List Vl) : Int := if l.any i6 = true then 90 else 0
theorem RL (v : Vl) (r : List Vl) : IR (v :: r) = if i6 v = true then 90 else IR r := by unfold IR; rw [List.any_cons]; cases i6 v <;> rfl
theorem JB (A : Option Addr) (c : Nat) (l : List Vl) (w : World) (hl : l.length ≤ 1048576) (ht : ∀ v ∈ l, v.text.length ≤ 1048576) (hR : Rd w A (l.length * 4) (AH Vl.cells l)) (hY : Lay0 w) : Calls prog 251 #[.slice A l.length c] w (CG w (AJ (IR l))) := by
 refine C5 func251 ntmps251 rfl fun M => srg (AY rfl (AF (AQ rfl (ya rfl (C3 rfl rfl (sl rfl)) (AY rfl (AS (flp [6, 5] (fun ze e wr mz => ∃ (i : Nat), e = (7, AJ ((i : Nat) : Int)) :: ze ∧ Mem w B0 [] wr ∧ (i ≤ l.length) ∧ (IR l = IR (l.drop i)) ∧ mz = l.length - i) ⟨0, rfl, M, Nat.zero_le _, rfl, rfl⟩ ?_)))))))
 rintro _ w1 _ ⟨i, rfl, M, hi, hE, rfl⟩
 refine srg (CF rfl rfl (nq (AF (AL rfl (fun h8 => ?_) (fun h8 => ?_)))))
 ·have h8p := (odt h8)
  refine AI (AD (AF (AS (srg ?_))))
  obtain ⟨x, hx⟩ := CC (l := l) (i := i) AM
  obtain ⟨b_x, o_x, hA_x⟩ := BI (k := 4) AM (hR.fr0 M.fr) hx
  refine ya rfl (B1 i hA_x rfl rfl rfl (sl rfl) AM) (ya rfl (AU rfl rfl (BV Vl.len (hR.fr0 M.fr) hA_x hx) underlying45 rfl AC) (DC M rfl BR fun g4 w2 hg4 M => C4 M 0 rfl rfl AC rfl fun w3 M => nq (AQ rfl (BC M 0 rfl rfl rfl (DA rfl rfl (yb rfl (fvm M 4 [7, 6, 5] [(18, .bool ((!decide ((x.kind.toNat : Int) = (1 : Int))) || (!decide ((chk x) = (0 : Int)))))] ?_ (fun k14 => ?_))))))))
  ·intro w4 M
   refine nq (AL rfl (fun h18 => ?_) (fun h18 => ?_))
   ·have h18p := ((EO h18).imp (fun z => (odf (CK z))) (fun z => (odf (CK z))))
    exact AQ rfl (gnr (AN (AB (AB (AN (AB (gr1 rfl ⟨by rw [hE, B7 hx, RL, if_pos (show i6 x = true from h18)], M.fr⟩)))))))
   ·have h18p := (And.intro (odt (BQ (CP h18).1)) (odt (BQ (CP h18).2)))
    refine AI (AE (AD (AK (ya rfl (BO rfl rfl rfl AM) (yb rfl (AR (fag ⟨i + 1, rfl, (M.pick [] BU), ?_, ?_, rfl⟩)))))))
    ·omega
    ·rw [hE, B7 hx, RL, if_neg (I2 (show i6 x = false from h18))]
  refine AO (d := 14) rfl (fun h14 => ?_) (fun h14 => ?_)
  ·exact yo rfl (yo rfl (yo rfl (yb rfl (k14 M ⟨rfl, rfl, rfl, (by rw [h14]; rfl), trivial⟩))))
  ·refine yd rfl (AU (xs := Vl.cells x) rfl rfl (M.rdBlk 0 rfl rfl) underlying45 rfl AC) (B3 (some 16) (BG rfl rfl rfl) rfl rfl (AP rfl rfl call65) (FR x _ (by have := ht x (List.mem_of_getElem? hx); omega) (hY.fr0 M.fr).utf) ?_)
   rintro _ w5 ⟨rfl, hfw5⟩
   refine ⟨_, rfl, ?_⟩
   have M := M.step hfw5
   exact yd rfl (E4 rfl rfl rfl) (yb rfl (k14 M ⟨rfl, rfl, rfl, (by rw [h14]; rfl), trivial⟩))
 ·have h8p := (odf h8)
  refine BF (AG (AG (AV (AD (AQ rfl (gnr (gr1 rfl ?_)))))))
  obtain rfl : i = l.length := by omega
  exact ⟨by rw [hE, List.drop_length]; rfl, M.fr⟩
def L5 (n : Int) (ok : Bool) : Vl × Int := (if (!ok) = true then ((⟨0, 0, false, []⟩ : Vl), 91) else ((⟨1, n, false, []⟩ : Vl), 0))
theorem I9 (n : Int) (ok : Bool) (w : World) : Calls prog 252 #[AJ n, .bool ok] w (CG w (.tuple #[.agg (Vl.cells (L5 n ok).1).toArray, AJ (L5 n ok).2])) := by
 refine C5 func252 ntmps252 rfl fun M => srg (DC M rfl BR fun g4 w1 hg4 M => AY rfl (AF (AQ rfl (AY rfl (AL rfl (fun h7 => ?_) (fun h7 => ?_))))))
 ·exact srg (ya rfl (BA (parts := []) rfl rfl (C8)) (C4 M 0 rfl rfl AC rfl fun w2 M => yb rfl (gnr (AB (B9 rfl rfl (M.rdBlk 0 rfl rfl) underlying45 rfl AC rfl ⟨by rw [L5, if_pos h7] <;> rfl, M.fr⟩)))))
 ·exact AI (AD (AQ rfl (D4 M 10 rfl rfl call120 (PH n _) fun w3 M => C4 M 0 rfl rfl AC rfl fun w4 M => yb rfl (gnr (B9 rfl rfl (M.rdBlk 0 rfl rfl) underlying45 rfl AC rfl ⟨by rw [L5, AT h7] <;> rfl, M.fr⟩)))))
def R6 (a b : Vl) : Vl × Int := (if (!decide ((IR [a, b]) = (0 : Int))) = true then ((⟨0, 0, false, []⟩ : Vl), (IR [a, b])) else (((L5 ((IntKind.i64).wrap (a.int + b.int)) ((decide (((IntKind.i64).wrap (a.int + b.int)) < a.int)) == (decide (b.int < (0 : Int))))).1), (L5 ((IntKind.i64).wrap (a.int + b.int)) ((decide (((IntKind.i64).wrap (a.int + b.int)) < a.int)) == (decide (b.int < (0 : Int))))).2))
theorem lS (a b : Vl) (w : World) (ha : a.text.length ≤ 1048576) (hb : b.text.length ≤ 1048576) (hY : Lay0 w) : Calls prog 250 #[.agg a.cells.toArray, .agg b.cells.toArray] w (CG w (.tuple #[.agg (Vl.cells (R6 a b).1).toArray, AJ (R6 a b).2])) := by
 refine C5 func250 ntmps250 rfl fun M => srg (CR M rfl rfl fun g2 w1 hg2 M => CR M rfl rfl fun g3 w2 hg3 M => DC M rfl BR fun g4 w3 hg4 M => AY rfl (AF (srg (CW M 2 rfl rfl underlying45 AC rfl ?_))))
 refine CW M 1 rfl rfl underlying45 AC rfl (DF M (AA rfl) rfl rfl [.agg (Vl.cells a).toArray, .agg (Vl.cells b).toArray] ([.int .u8 (a.kind.toNat : Int), AJ a.int, .bool a.bool, str a.text, .int .u8 (b.kind.toNat : Int), AJ b.int, .bool b.bool, str b.text]) rfl rfl rfl rfl underlying306 GW rfl rfl (by intro v hv; simp only [List.mem_cons, List.not_mem_nil, or_false] at hv; rcases hv with rfl | rfl <;> rfl) rfl fun g10 w4 hg10 M => D4 M 11 rfl rfl call251 (JB (some ⟨g10, 0, none⟩) 2 [a, b] _ (by simp) (O8 CX CX) (M.rdBlk 0 rfl rfl) (hY.fr0 M.fr)) fun w5 M => AY rfl (AQ rfl (DA rfl rfl (nq (AL rfl (fun h13 => ?_) (fun h13 => ?_))))))
 ·exact srg (ya rfl (BA (parts := []) rfl rfl (C8)) (yb rfl (C4 M 1 rfl rfl AC rfl fun w6 M => yb rfl (gnr (AB (B9 rfl rfl (M.rdBlk 1 rfl rfl) underlying45 rfl AC rfl ⟨by rw [R6, if_pos h13] <;> rfl, M.fr⟩))))))
 ·refine AI (AD (AQ rfl (BC M 3 rfl rfl rfl (yb rfl (BC M 2 rfl rfl rfl (ya rfl (eE rfl rfl rfl) (AY rfl (AQ rfl (yb rfl ?_)))))))))
  refine yb rfl (BC M 3 rfl rfl rfl (CF rfl rfl (yb rfl (BC M 2 rfl rfl rfl (CF rfl rfl (ya rfl (J0 rfl rfl rfl underlying4) (D4 M 30 rfl rfl call252 (I9 ((IntKind.i64).wrap (a.int + b.int)) ((decide (((IntKind.i64).wrap (a.int + b.int)) < a.int)) == (decide (b.int < (0 : Int)))) _) fun w7 M => BM rfl rfl (C4 M 1 rfl rfl AC rfl fun w8 M => yb rfl (gnr ?_)))))))))
  exact B9 rfl rfl (M.rdBlk 1 rfl rfl) underlying45 rfl AC rfl ⟨by rw [R6, AT h13] <;> rfl, M.fr⟩
def L8 (a b : Vl) : Vl × Int := (if (!decide ((IR [a, b]) = (0 : Int))) = true then ((⟨0, 0, false, []⟩ : Vl), (IR [a, b])) else (((L5 ((IntKind.i64).wrap (a.int - b.int)) ((decide (a.int < ((IntKind.i64).wrap (a.int - b.int)))) == (decide (b.int < (0 : Int))))).1), (L5 ((IntKind.i64).wrap (a.int - b.int)) ((decide (a.int < ((IntKind.i64).wrap (a.int - b.int)))) == (decide (b.int < (0 : Int))))).2))
theorem Z6 (a b : Vl) (w : World) (ha : a.text.length ≤ 1048576) (hb : b.text.length ≤ 1048576) (hY : Lay0 w) : Calls prog 238 #[.agg a.cells.toArray, .agg b.cells.toArray] w (CG w (.tuple #[.agg (Vl.cells (L8 a b).1).toArray, AJ (L8 a b).2])) := by
 refine C5 func238 ntmps238 rfl fun M => srg (CR M rfl rfl fun g2 w1 hg2 M => CR M rfl rfl fun g3 w2 hg3 M => DC M rfl BR fun g4 w3 hg4 M => AY rfl (AF (srg (CW M 2 rfl rfl underlying45 AC rfl ?_))))
 refine CW M 1 rfl rfl underlying45 AC rfl (DF M (AA rfl) rfl rfl [.agg (Vl.cells a).toArray, .agg (Vl.cells b).toArray] ([.int .u8 (a.kind.toNat : Int), AJ a.int, .bool a.bool, str a.text, .int .u8 (b.kind.toNat : Int), AJ b.int, .bool b.bool, str b.text]) rfl rfl rfl rfl underlying306 GW rfl rfl (by intro v hv; simp only [List.mem_cons, List.not_mem_nil, or_false] at hv; rcases hv with rfl | rfl <;> rfl) rfl fun g10 w4 hg10 M => D4 M 11 rfl rfl call251 (JB (some ⟨g10, 0, none⟩) 2 [a, b] _ (by simp) (O8 CX CX) (M.rdBlk 0 rfl rfl) (hY.fr0 M.fr)) fun w5 M => AY rfl (AQ rfl (DA rfl rfl (nq (AL rfl (fun h13 => ?_) (fun h13 => ?_))))))
 ·exact srg (ya rfl (BA (parts := []) rfl rfl (C8)) (yb rfl (C4 M 1 rfl rfl AC rfl fun w6 M => yb rfl (gnr (AB (B9 rfl rfl (M.rdBlk 1 rfl rfl) underlying45 rfl AC rfl ⟨by rw [L8, if_pos h13] <;> rfl, M.fr⟩))))))
 ·refine AI (AD (AQ rfl (BC M 3 rfl rfl rfl (yb rfl (BC M 2 rfl rfl rfl (ya rfl (oX rfl rfl rfl) (AY rfl (AQ rfl (yb rfl ?_)))))))))
  refine yb rfl (BC M 3 rfl rfl rfl (LD rfl rfl (yb rfl (BC M 2 rfl rfl rfl (CF rfl rfl (ya rfl (J0 rfl rfl rfl underlying4) (D4 M 30 rfl rfl call252 (I9 ((IntKind.i64).wrap (a.int - b.int)) ((decide (a.int < ((IntKind.i64).wrap (a.int - b.int)))) == (decide (b.int < (0 : Int)))) _) fun w7 M => BM rfl rfl (C4 M 1 rfl rfl AC rfl fun w8 M => yb rfl (gnr ?_)))))))))
  exact B9 rfl rfl (M.rdBlk 1 rfl rfl) underlying45 rfl AC rfl ⟨by rw [L8, AT h13] <;> rfl, M.fr⟩
def FN (n : Int) : Int := (if (decide (n < (0 : Int))) = true then ((IntKind.u64).wrap (-((IntKind.u64).wrap n))) else ((IntKind.u64).wrap n))
theorem VO (n : Int) (w : World) : Calls prog 254 #[AJ n] w (CG w (.int .u64 (FN n))) := by
 refine C5 func254 ntmps254 rfl fun M => srg (AY rfl (AF (AQ rfl (CF rfl rfl (nq (AL rfl (fun h4 => ?_) (fun h4 => ?_)))))))
 ·exact AQ rfl (ya rfl (K4 rfl rfl underlying2 underlying231 rfl) (ya rfl (pA rfl rfl) (yb rfl (gnr (AB (gr1 rfl ⟨by rw [FN, if_pos h4] <;> rfl, M.fr⟩))))))
 ·exact AI (AD (AQ rfl (ya rfl (K4 rfl rfl underlying2 underlying231 rfl) (yb rfl (gnr (gr1 rfl ⟨by rw [FN, AT h4] <;> rfl, M.fr⟩))))))
theorem W1 (n : Int) : 0 ≤ FN n ∧ FN n < 18446744073709551616 := by
 unfold FN
 split
 ·exact eS _
 ·exact eS _
def hiP (x y : Int) : Int := ((x.toNat * y.toNat / 18446744073709551616 : Nat) : Int)
def loP (x y : Int) : Int := ((x.toNat * y.toNat % 18446744073709551616 : Nat) : Int)
theorem iG (x y : Int) (w : World) (hx : 0 ≤ x ∧ x < 18446744073709551616) (hy : 0 ≤ y ∧ y < 18446744073709551616) : Calls prog 253 #[.int .u64 x, .int .u64 y] w (CG w (.tuple #[.int .u64 (hiP x y), .int .u64 (loP x y)])) := by
 obtain ⟨a, rfl⟩ : ∃ a : Nat, x = (a : Int) := ⟨x.toNat, by omega⟩
 obtain ⟨b, rfl⟩ : ∃ b : Nat, y = (b : Int) := ⟨y.toNat, by omega⟩
 refine (Tryz.bits_Mul64 a b AM AM w).mono ?_
 rintro e w' ⟨rfl, rfl⟩
 exact ⟨rfl, Fr.refl⟩
def T9 (a b : Vl) : Vl × Int := (if (!decide ((IR [a, b]) = (0 : Int))) = true then ((⟨0, 0, false, []⟩ : Vl), (IR [a, b])) else (((L5 ((IntKind.i64).wrap (a.int * b.int)) ((decide ((hiP (FN a.int) (FN b.int)) = (0 : Int))) && (decide ((loP (FN a.int) (FN b.int)) ≤ ((if (!((decide (a.int < (0 : Int))) == (decide (b.int < (0 : Int))))) then 9223372036854775808 else 9223372036854775807 : Nat) : Int))))).1), (L5 ((IntKind.i64).wrap (a.int * b.int)) ((decide ((hiP (FN a.int) (FN b.int)) = (0 : Int))) && (decide ((loP (FN a.int) (FN b.int)) ≤ ((if (!((decide (a.int < (0 : Int))) == (decide (b.int < (0 : Int))))) then 9223372036854775808 else 9223372036854775807 : Nat) : Int))))).2))
theorem lO (a b : Vl) (w : World) (ha : a.text.length ≤ 1048576) (hb : b.text.length ≤ 1048576) (hY : Lay0 w) : Calls prog 239 #[.agg a.cells.toArray, .agg b.cells.toArray] w (CG w (.tuple #[.agg (Vl.cells (T9 a b).1).toArray, AJ (T9 a b).2])) := by
 refine C5 func239 ntmps239 rfl fun M => srg (CR M rfl rfl fun g2 w1 hg2 M => CR M rfl rfl fun g3 w2 hg3 M => DC M rfl BR fun g4 w3 hg4 M => AY rfl (AF (srg (CW M 2 rfl rfl underlying45 AC rfl ?_))))
 refine CW M 1 rfl rfl underlying45 AC rfl (DF M (AA rfl) rfl rfl [.agg (Vl.cells a).toArray, .agg (Vl.cells b).toArray] ([.int .u8 (a.kind.toNat : Int), AJ a.int, .bool a.bool, str a.text, .int .u8 (b.kind.toNat : Int), AJ b.int, .bool b.bool, str b.text]) rfl rfl rfl rfl underlying306 GW rfl rfl (by intro v hv; simp only [List.mem_cons, List.not_mem_nil, or_false] at hv; rcases hv with rfl | rfl <;> rfl) rfl fun g12 w4 hg12 M => D4 M 13 rfl rfl call251 (JB (some ⟨g12, 0, none⟩) 2 [a, b] _ (by simp) (O8 CX CX) (M.rdBlk 0 rfl rfl) (hY.fr0 M.fr)) fun w5 M => AY rfl (AQ rfl (DA rfl rfl (nq (AL rfl (fun h15 => ?_) (fun h15 => ?_))))))
 ·exact srg (ya rfl (BA (parts := []) rfl rfl (C8)) (yb rfl (C4 M 1 rfl rfl AC rfl fun w6 M => yb rfl (gnr (AB (B9 rfl rfl (M.rdBlk 1 rfl rfl) underlying45 rfl AC rfl ⟨by rw [T9, if_pos h15] <;> rfl, M.fr⟩))))))
 ·refine AI (AD (AF (CV 12 (fun w' => Mem w B0 [As.blk g12 45 [.int .u8 (a.kind.toNat : Int), AJ a.int, .bool a.bool, str a.text, .int .u8 (b.kind.toNat : Int), AJ b.int, .bool b.bool, str b.text], As.blk g4 45 [.int .u8 0, AJ 0, .bool false, str []], As.blk g3 45 (Vl.cells b), As.blk g2 45 (Vl.cells a)] w') CZ ?_)))
  have M := M.drew
  refine oc 0 12 rfl rfl M (ol 1 12 rfl rfl rfl M (fun _ M => (M.cell 3 rfl rfl)) (oc 3 12 rfl rfl M (ol 4 12 rfl rfl rfl M (fun _ M => (M.cell 2 rfl rfl)) (C7 2 (some 21) gkr rfl (AA rfl) rfl rfl (AP rfl rfl call254) (VO a.int _) ?_))))
  rintro _ w7 ⟨rfl, hfw7⟩
  refine ⟨_, rfl, fun _ => M.step hfw7, ?_⟩
  have M := M.step hfw7
  refine C7 5 (some 24) gkr rfl (AA rfl) rfl rfl (AP rfl rfl call254) (VO b.int _) ?_
  rintro _ w8 ⟨rfl, hfw8⟩
  refine ⟨_, rfl, fun _ => M.step hfw8, ?_⟩
  have M := M.step hfw8
  refine C7 6 (some 25) gkr rfl (AA rfl) rfl rfl (AP rfl rfl call253) (iG (FN a.int) (FN b.int) _ (W1 _) (W1 _)) ?_
  rintro _ w9 ⟨rfl, hfw9⟩
  refine ⟨_, rfl, fun _ => M.step hfw9, ?_⟩
  have M := M.step hfw9
  refine oc 7 12 rfl rfl M (oc 8 12 rfl rfl M (oc 9 12 rfl rfl M (oc 10 12 rfl rfl M (oc 11 12 rfl rfl M (fdn (AD (srg (AY rfl (AF (AQ rfl ?_))))))))))
  refine BC M 3 rfl rfl rfl (CF rfl rfl (yb rfl (BC M 2 rfl rfl rfl (CF rfl rfl (ya rfl (T5 rfl rfl rfl underlying4) (nq (JP [(2, pg g2), (3, pg g3), (4, pg g4), (7, .int .u64 (hiP (FN a.int) (FN b.int))), (8, .int .u64 (loP (FN a.int) (FN b.int))), (9, .int .u64 ((if (!((decide (a.int < (0 : Int))) == (decide (b.int < (0 : Int))))) then 9223372036854775808 else 9223372036854775807 : Nat) : Int))] (fun w' => Mem w B0 [As.blk g12 45 [.int .u8 (a.kind.toNat : Int), AJ a.int, .bool a.bool, str a.text, .int .u8 (b.kind.toNat : Int), AJ b.int, .bool b.bool, str b.text], As.blk g4 45 [.int .u8 0, AJ 0, .bool false, str []], As.blk g3 45 (Vl.cells b), As.blk g2 45 (Vl.cells a)] w') ?_ (fun k34 => ?_))))))))
  ·intro w10 M
   refine AD (AQ rfl (BC M 3 rfl rfl rfl (yb rfl (BC M 2 rfl rfl rfl (ya rfl (pB rfl rfl rfl) (yb rfl (CN rfl rfl (yb rfl (fvm M 4 [39, 4] [(46, .bool ((decide ((hiP (FN a.int) (FN b.int)) = (0 : Int))) && (decide ((loP (FN a.int) (FN b.int)) ≤ ((if (!((decide (a.int < (0 : Int))) == (decide (b.int < (0 : Int))))) then 9223372036854775808 else 9223372036854775807 : Nat) : Int)))))] ?_ (fun k42 => ?_))))))))))
   ·intro w11 M
    exact D4 M 47 rfl rfl call252 (I9 ((IntKind.i64).wrap (a.int * b.int)) ((decide ((hiP (FN a.int) (FN b.int)) = (0 : Int))) && (decide ((loP (FN a.int) (FN b.int)) ≤ ((if (!((decide (a.int < (0 : Int))) == (decide (b.int < (0 : Int))))) then 9223372036854775808 else 9223372036854775807 : Nat) : Int)))) _) fun w12 M => BM rfl rfl (C4 M 1 rfl rfl AC rfl fun w13 M => yb rfl (gnr (B9 rfl rfl (M.rdBlk 1 rfl rfl) underlying45 rfl AC rfl ⟨by rw [T9, AT h15] <;> rfl, M.fr⟩)))
   refine AO (d := 42) rfl (fun h42 => ?_) (fun h42 => ?_)
   ·exact gyq rfl (gyq rfl (yd rfl (GP rfl rfl rfl) (yb rfl (k42 M ⟨rfl, rfl, (by rw [h42]; rfl), trivial⟩))))
   ·exact yo rfl (yo rfl (yo rfl (yb rfl (k42 M ⟨rfl, rfl, (by rw [h42]; rfl), trivial⟩))))
  refine AL rfl (fun h34 => ?_) (fun h34 => ?_)
  ·exact AK (yb rfl (AR (k34 _ _ M ⟨rfl, rfl, rfl, rfl, rfl, (by rw [h34]; rfl), trivial⟩)))
  ·exact AI (k34 _ _ M ⟨rfl, rfl, rfl, rfl, rfl, (by rw [h34]; rfl), trivial⟩)
def R3 (a b : Vl) : Vl × Int := (if (!decide ((IR [a, b]) = (0 : Int))) = true then ((⟨0, 0, false, []⟩ : Vl), (IR [a, b])) else (if ((decide (b.int = (0 : Int))) || ((decide (a.int = (-9223372036854775808 : Int))) && (decide (b.int = (-1 : Int))))) = true then (((L5 0 false).1), (L5 0 false).2) else (((L5 ((IntKind.i64).wrap (a.int.tdiv b.int)) true).1), (L5 ((IntKind.i64).wrap (a.int.tdiv b.int)) true).2)))
theorem lQ (a b : Vl) (w : World) (ha : a.text.length ≤ 1048576) (hb : b.text.length ≤ 1048576) (hY : Lay0 w) : Calls prog 240 #[.agg a.cells.toArray, .agg b.cells.toArray] w (CG w (.tuple #[.agg (Vl.cells (R3 a b).1).toArray, AJ (R3 a b).2])) := by
 refine C5 func240 ntmps240 rfl fun M => srg (CR M rfl rfl fun g2 w1 hg2 M => CR M rfl rfl fun g3 w2 hg3 M => DC M rfl BR fun g4 w3 hg4 M => AY rfl (AF (srg (CW M 2 rfl rfl underlying45 AC rfl ?_))))
 refine CW M 1 rfl rfl underlying45 AC rfl (DF M (AA rfl) rfl rfl [.agg (Vl.cells a).toArray, .agg (Vl.cells b).toArray] ([.int .u8 (a.kind.toNat : Int), AJ a.int, .bool a.bool, str a.text, .int .u8 (b.kind.toNat : Int), AJ b.int, .bool b.bool, str b.text]) rfl rfl rfl rfl underlying306 GW rfl rfl (by intro v hv; simp only [List.mem_cons, List.not_mem_nil, or_false] at hv; rcases hv with rfl | rfl <;> rfl) rfl fun g9 w4 hg9 M => D4 M 10 rfl rfl call251 (JB (some ⟨g9, 0, none⟩) 2 [a, b] _ (by simp) (O8 CX CX) (M.rdBlk 0 rfl rfl) (hY.fr0 M.fr)) fun w5 M => AY rfl (AQ rfl (DA rfl rfl (nq (AL rfl (fun h12 => ?_) (fun h12 => ?_))))))
 ·exact srg (ya rfl (BA (parts := []) rfl rfl (C8)) (yb rfl (C4 M 1 rfl rfl AC rfl fun w6 M => yb rfl (gnr (AB (B9 rfl rfl (M.rdBlk 1 rfl rfl) underlying45 rfl AC rfl ⟨by rw [R3, if_pos h12] <;> rfl, M.fr⟩))))))
 ·refine AI (AD (AF (AQ rfl (BC M 2 rfl rfl rfl (CN rfl rfl (yb rfl (fvm M 9 [4, 3, 2] [(27, .bool ((decide (b.int = (0 : Int))) || ((decide (a.int = (-9223372036854775808 : Int))) && (decide (b.int = (-1 : Int))))))] ?_ (fun k18 => ?_))))))))
  ·intro w7 M
   refine nq (AL rfl (fun h27 => ?_) (fun h27 => ?_))
   ·have h27p := ((EO h27).imp (fun z => (odt z)) (fun z => (And.intro (odt (CL z).1) (odt (CL z).2))))
    exact srg (D4 M 28 rfl rfl call252 (I9 0 false _) fun w8 M => BM rfl rfl (C4 M 1 rfl rfl AC rfl fun w9 M => yb rfl (gnr (AB (B9 rfl rfl (M.rdBlk 1 rfl rfl) underlying45 rfl AC rfl ⟨by rw [R3, AT h12, if_pos h27] <;> rfl, M.fr⟩)))))
   ·have h27p := (And.intro (odf (CP h27).1) ((DT (CP h27).2).imp (fun z => (odf z)) (fun z => (odf z))))
    refine AI (AD (AQ rfl (BC M 3 rfl rfl rfl (yb rfl (BC M 2 rfl rfl rfl (ya rfl (p8 rfl rfl rfl (fun hz => by simp [hz] at h27)) (D4 M 36 rfl rfl call252 (I9 ((IntKind.i64).wrap (a.int.tdiv b.int)) true _) fun w10 M => BM rfl rfl (C4 M 1 rfl rfl AC rfl fun w11 M => yb rfl (AR ?_)))))))))
    exact AD (BN (B9 rfl rfl (M.rdBlk 1 rfl rfl) underlying45 rfl AC rfl ⟨by rw [R3, AT h12, AT h27] <;> rfl, M.fr⟩))
  refine AO (d := 18) rfl (fun h18 => ?_) (fun h18 => ?_)
  ·iterate 4 refine yo rfl ?_
   exact CB rfl rfl rfl rfl rfl (CB rfl rfl rfl rfl rfl (CB rfl rfl rfl rfl rfl (yo rfl (yb rfl (k18 M ⟨rfl, rfl, rfl, (by rw [h18]; rfl), trivial⟩)))))
  ·refine gyq rfl (CJ M 3 rfl rfl rfl (yd rfl (BZ rfl rfl rfl) (gyq rfl (fvm M 4 [18, 4, 3, 2] [(26, .bool ((decide (a.int = (-9223372036854775808 : Int))) && (decide (b.int = (-1 : Int)))))] ?_ (fun k22 => ?_)))))
   ·intro w12 M
    exact yb rfl (k18 M ⟨rfl, rfl, rfl, (by rw [h18]; rfl), trivial⟩)
   refine AO (d := 22) rfl (fun h22 => ?_) (fun h22 => ?_)
   ·exact gyq rfl (CJ M 2 rfl rfl rfl (yd rfl (BZ rfl rfl rfl) (gyq rfl (k22 M ⟨rfl, rfl, rfl, rfl, (by rw [h22]; rfl), trivial⟩))))
   ·exact yo rfl (yo rfl (yo rfl (gyq rfl (k22 M ⟨rfl, rfl, rfl, rfl, (by rw [h22]; rfl), trivial⟩))))
def R1 (a b : Vl) : Vl × Int := (if (!decide ((IR [a, b]) = (0 : Int))) = true then ((⟨0, 0, false, []⟩ : Vl), (IR [a, b])) else (if ((decide (b.int = (0 : Int))) || (decide (b.int = (-1 : Int)))) = true then (((L5 0 (!decide (b.int = (0 : Int)))).1), (L5 0 (!decide (b.int = (0 : Int)))).2) else (((L5 (a.int.tmod b.int) true).1), (L5 (a.int.tmod b.int) true).2)))
theorem lP (a b : Vl) (w : World) (ha : a.text.length ≤ 1048576) (hb : b.text.length ≤ 1048576) (hY : Lay0 w) : Calls prog 241 #[.agg a.cells.toArray, .agg b.cells.toArray] w (CG w (.tuple #[.agg (Vl.cells (R1 a b).1).toArray, AJ (R1 a b).2])) := by
 refine C5 func241 ntmps241 rfl fun M => srg (CR M rfl rfl fun g2 w1 hg2 M => CR M rfl rfl fun g3 w2 hg3 M => DC M rfl BR fun g4 w3 hg4 M => AY rfl (AF (srg (CW M 2 rfl rfl underlying45 AC rfl ?_))))
 refine CW M 1 rfl rfl underlying45 AC rfl (DF M (AA rfl) rfl rfl [.agg (Vl.cells a).toArray, .agg (Vl.cells b).toArray] ([.int .u8 (a.kind.toNat : Int), AJ a.int, .bool a.bool, str a.text, .int .u8 (b.kind.toNat : Int), AJ b.int, .bool b.bool, str b.text]) rfl rfl rfl rfl underlying306 GW rfl rfl (by intro v hv; simp only [List.mem_cons, List.not_mem_nil, or_false] at hv; rcases hv with rfl | rfl <;> rfl) rfl fun g9 w4 hg9 M => D4 M 10 rfl rfl call251 (JB (some ⟨g9, 0, none⟩) 2 [a, b] _ (by simp) (O8 CX CX) (M.rdBlk 0 rfl rfl) (hY.fr0 M.fr)) fun w5 M => AY rfl (AQ rfl (DA rfl rfl (nq (AL rfl (fun h12 => ?_) (fun h12 => ?_))))))
 ·exact srg (ya rfl (BA (parts := []) rfl rfl (C8)) (yb rfl (C4 M 1 rfl rfl AC rfl fun w6 M => yb rfl (gnr (AB (B9 rfl rfl (M.rdBlk 1 rfl rfl) underlying45 rfl AC rfl ⟨by rw [R1, if_pos h12] <;> rfl, M.fr⟩))))))
 ·refine AI (AD (AF (AQ rfl (BC M 2 rfl rfl rfl (CN rfl rfl (yb rfl (fvm M 4 [4, 3, 2] [(22, .bool ((decide (b.int = (0 : Int))) || (decide (b.int = (-1 : Int)))))] ?_ (fun k18 => ?_))))))))
  ·intro w7 M
   refine nq (AL rfl (fun h22 => ?_) (fun h22 => ?_))
   ·have h22p := ((EO h22).imp (fun z => (odt z)) (fun z => (odt z)))
    refine AQ rfl (BC M 2 rfl rfl rfl (DA rfl rfl (D4 M 26 rfl rfl call252 (I9 0 (!decide (b.int = (0 : Int))) _) fun w8 M => BM rfl rfl (C4 M 1 rfl rfl AC rfl fun w9 M => yb rfl (gnr (AB (B9 rfl rfl (M.rdBlk 1 rfl rfl) underlying45 rfl AC rfl ?_)))))))
    exact ⟨by rw [R1, AT h12, if_pos h22] <;> rfl, M.fr⟩
   ·refine AI (AD (AQ rfl (BC M 3 rfl rfl rfl (yb rfl (BC M 2 rfl rfl rfl (ya rfl (oZ rfl rfl rfl (fun hz => by simp [hz] at h22)) (D4 M 34 rfl rfl call252 (I9 (a.int.tmod b.int) true _) fun w10 M => BM rfl rfl (C4 M 1 rfl rfl AC rfl fun w11 M => yb rfl (AR ?_)))))))))
    exact AD (BN (B9 rfl rfl (M.rdBlk 1 rfl rfl) underlying45 rfl AC rfl ⟨by rw [R1, AT h12, AT h22] <;> rfl, M.fr⟩))
  refine AO (d := 18) rfl (fun h18 => ?_) (fun h18 => ?_)
  ·exact yo rfl (yo rfl (yo rfl (yb rfl (k18 M ⟨rfl, rfl, rfl, (by rw [h18]; rfl), trivial⟩))))
  ·exact gyq rfl (CJ M 2 rfl rfl rfl (yd rfl (BZ rfl rfl rfl) (yb rfl (k18 M ⟨rfl, rfl, rfl, (by rw [h18]; rfl), trivial⟩))))
theorem lN (a : Vl) (w : World) (ha : a.text.length ≤ 1048576) (hY : Lay0 w) : Calls prog 242 #[.agg a.cells.toArray] w (CG w (.tuple #[.agg (Vl.cells (L8 ⟨1, 0, false, []⟩ a).1).toArray, AJ (L8 ⟨1, 0, false, []⟩ a).2])) := by
 refine C5 func242 ntmps242 rfl fun M => srg (CR M rfl rfl fun g1 w1 hg1 M => DC M rfl BR fun g2 w2 hg2 M => AY rfl (AF (CV 5 (fun w' => Mem w B0 [As.blk g2 45 [.int .u8 0, AJ 0, .bool false, str []], As.blk g1 45 (Vl.cells a)] w') CZ ?_)))
 have M := M.drew
 refine oa 1 5 rfl rfl M (fun _ M => AU (xs := Vl.cells a) rfl rfl (M.rdBlk 1 rfl rfl) underlying45 rfl AC) (C7 0 (some 4) gkr rfl (AA rfl) rfl rfl (AP rfl rfl call120) (PH 0 _) ?_)
 rintro _ w3 ⟨rfl, hfw3⟩
 refine ⟨_, rfl, fun _ => M.step hfw3, ?_⟩
 have M := M.step hfw3
 refine C7 2 (some 6) gkr rfl (AA rfl) rfl rfl (AP rfl rfl call238) (Z6 (⟨1, 0, false, []⟩ : Vl) a _ CX CX (hY.fr0 M.fr)) ?_
 rintro _ w4 ⟨rfl, hfw4⟩
 refine ⟨_, rfl, fun _ => M.step hfw4, ?_⟩
 have M := M.step hfw4
 refine oc 3 5 rfl rfl M (oc 4 5 rfl rfl M (BB 5 none gkr rfl (AA rfl) rfl rfl (fun ρ hρ => C2 45 _ _ rfl g2 0 45 _ (Vl.cells ((L8 (⟨1, 0, false, []⟩ : Vl) a).1)) (hρ _ _ rfl) (hρ _ _ rfl) (M.blk 0 rfl) AC (BS rfl) (BP rfl)) ?_))
 rintro _ w5 ⟨rfl, hbw5, hfw5⟩
 replace M : Mem w B0 (List.set _ 0 (As.blk g2 45 (Vl.cells ((L8 (⟨1, 0, false, []⟩ : Vl) a).1)))) w5 := M.putB 0 rfl hbw5 hfw5
 exact ⟨fun h => absurd h BU, fo1 6 rfl rfl (yp rfl) (fdn (AD (BN (B9 rfl rfl (M.rdBlk 0 rfl rfl) underlying45 rfl AC rfl ⟨rfl, M.fr⟩))))⟩
end Go.Proofs.YtjaocmocdhckaaaGreatDoor
