/- Lemmas that the last text rests on. Condition: each says its own. -/
import Derived.Test.YtjaocmocdhckaaaGreatDoorZEvB
set_option maxHeartbeats 16000000
set_option maxRecDepth 100000
namespace Go.Proofs.YtjaocmocdhckaaaGreatDoor
open Go.RowKit
open Tryz
theorem S5 (a b : List UInt8) (w : World) : Calls prog 266 #[str a, str b] w fun e w' => e = .returned (.int .i64 (Lib.compareBytes a b)) ∧ Fr0 w w' :=
 (Tryz.strings_Compare ⟨a.toArray⟩ ⟨b.toArray⟩ w).mono fun _ _ ⟨h1, h2⟩ => ⟨h1, h2 ▸ Fr.refl⟩
theorem GS : (prog.info? 45).map (fun i => (i.zero, i.size)) = some (some (.agg #[.int .u8 0, .int .i64 0, .bool false, str []]), 4) := by kernel_rfl
theorem Z9 : (prog.info? 3).map (fun i => (i.zero, i.size)) = some (some (.int .i64 0), 1) := by kernel_rfl
def IH (b : Bool) : Int := (if b = true then 1 else 0)
theorem RZ (b : Bool) (w : World) : Calls prog 265 #[.bool b] w fun e w' => e = .returned (.int .i64 (IH b)) ∧ Fr0 w w' := by
 refine C2 func265 ntmps265 rfl fun M => AD (AB (yb rfl (AC (AA (AD (AD (AB (yb rfl (AC (AA (AN rfl (fun h3 => ?_) (fun h3 => ?_))))))))))))
 ·exact srg (yb rfl (nq (AI (AE (gr1 rfl ⟨by rw [IH, if_pos h3] <;> rfl, M.fr⟩)))))
 ·exact AL (AA (srg (yb rfl (nq (AI (gr1 rfl ⟨by rw [IH, if_neg (AS h3)] <;> rfl, M.fr⟩))))))
theorem WS (b : Bool) : 0 ≤ IH b ∧ IH b ≤ 1 := by unfold IH; split <;> decide
theorem gW (x : Int) (w : World) : Calls prog 267 #[.int .u8 x] w fun e w' => e = .returned (.bool (!(decide (x = x)))) ∧ Fr0 w w' := by
 refine C2 func267 ntmps267 rfl fun M => srg (yb rfl (nq (srg (yb rfl (yb rfl (D4 rfl rfl (yb rfl (nq (AI (gr1 rfl ?_))))))))))
 exact ⟨rfl, M.fr⟩
def KU (x y : Int) : Int := (if (!(decide (x = x))) = true then (if (!(decide (y = y))) = true then 0 else (-1)) else (if (!(decide (y = y))) = true then 1 else (if (decide (x < y)) = true then (-1) else (if (decide (y < x)) = true then 1 else 0))))
theorem WH (x y : Int) (w : World) : Calls prog 263 #[.int .u8 x, .int .u8 y] w fun e w' => e = .returned (.int .i64 (KU x y)) ∧ Fr0 w w' := by
 refine C2 func263 ntmps263 rfl fun M => srg (yb rfl (nq (srg (yb rfl (D1 M 8 rfl rfl call267 (gW x _) fun w1 M => yb rfl (nq (srg (yb rfl ?_))))))))
 refine D1 M 10 rfl rfl call267 (gW y _) fun w2 M => yb rfl (AC (AA (AD (AD (AB (yb rfl (AC (AA (AN rfl (fun h11 => ?_) (fun h11 => ?_))))))))))
 ·refine AD (AD (AB (yb rfl (AC (AA (AN rfl (fun h12 => ?_) (fun h12 => ?_)))))))
  ·exact srg (yb rfl (nq (AI (AE (AE (gr1 rfl ⟨by rw [KU, if_pos h11, if_pos h12] <;> rfl, M.fr⟩))))))
  ·exact AL (AA (srg (yb rfl (nq (AI (AE (gr1 rfl ⟨by rw [KU, if_pos h11, if_neg (AS h12)] <;> rfl, M.fr⟩)))))))
 ·refine AL (AA (AD (AD (AB (yb rfl (AC (AA (AN rfl (fun h13 => ?_) (fun h13 => ?_)))))))))
  ·exact srg (yb rfl (nq (AI (AE (gr1 rfl ⟨by rw [KU, if_neg (AS h11), if_pos h13] <;> rfl, M.fr⟩)))))
  ·refine AL (AA (AD (AD (AB (yb rfl (yb rfl (CB rfl rfl (AC (AA (AN rfl (fun h16 => ?_) (fun h16 => ?_)))))))))))
   ·exact srg (yb rfl (nq (AI (AE (gr1 rfl ⟨by rw [KU, if_neg (AS h11), if_neg (AS h13), if_pos h16] <;> rfl, M.fr⟩)))))
   ·refine AL (AA (AD (AD (AB (yb rfl (yb rfl (LM rfl rfl (AC (AA (AN rfl (fun h19 => ?_) (fun h19 => ?_)))))))))))
    ·exact srg (yb rfl (nq (AI (AE (gr1 rfl ⟨by rw [KU, if_neg (AS h11), if_neg (AS h13), if_neg (AS h16), if_pos h19] <;> rfl, M.fr⟩)))))
    ·exact AL (AA (srg (yb rfl (nq (AI (gr1 rfl ⟨by rw [KU, if_neg (AS h11), if_neg (AS h13), if_neg (AS h16), if_neg (AS h19)] <;> rfl, M.fr⟩))))))
theorem gX (x : Int) (w : World) : Calls prog 268 #[.int .i64 x] w fun e w' => e = .returned (.bool (!(decide (x = x)))) ∧ Fr0 w w' := by
 refine C2 func268 ntmps268 rfl fun M => srg (yb rfl (nq (srg (yb rfl (yb rfl (D4 rfl rfl (yb rfl (nq (AI (gr1 rfl ?_))))))))))
 exact ⟨rfl, M.fr⟩
def KV (x y : Int) : Int := (if (!(decide (x = x))) = true then (if (!(decide (y = y))) = true then 0 else (-1)) else (if (!(decide (y = y))) = true then 1 else (if (decide (x < y)) = true then (-1) else (if (decide (y < x)) = true then 1 else 0))))
theorem WI (x y : Int) (w : World) : Calls prog 264 #[.int .i64 x, .int .i64 y] w fun e w' => e = .returned (.int .i64 (KV x y)) ∧ Fr0 w w' := by
 refine C2 func264 ntmps264 rfl fun M => srg (yb rfl (nq (srg (yb rfl (D1 M 8 rfl rfl call268 (gX x _) fun w1 M => yb rfl (nq (srg (yb rfl ?_))))))))
 refine D1 M 10 rfl rfl call268 (gX y _) fun w2 M => yb rfl (AC (AA (AD (AD (AB (yb rfl (AC (AA (AN rfl (fun h11 => ?_) (fun h11 => ?_))))))))))
 ·refine AD (AD (AB (yb rfl (AC (AA (AN rfl (fun h12 => ?_) (fun h12 => ?_)))))))
  ·exact srg (yb rfl (nq (AI (AE (AE (gr1 rfl ⟨by rw [KV, if_pos h11, if_pos h12] <;> rfl, M.fr⟩))))))
  ·exact AL (AA (srg (yb rfl (nq (AI (AE (gr1 rfl ⟨by rw [KV, if_pos h11, if_neg (AS h12)] <;> rfl, M.fr⟩)))))))
 ·refine AL (AA (AD (AD (AB (yb rfl (AC (AA (AN rfl (fun h13 => ?_) (fun h13 => ?_)))))))))
  ·exact srg (yb rfl (nq (AI (AE (gr1 rfl ⟨by rw [KV, if_neg (AS h11), if_pos h13] <;> rfl, M.fr⟩)))))
  ·refine AL (AA (AD (AD (AB (yb rfl (yb rfl (CB rfl rfl (AC (AA (AN rfl (fun h16 => ?_) (fun h16 => ?_)))))))))))
   ·exact srg (yb rfl (nq (AI (AE (gr1 rfl ⟨by rw [KV, if_neg (AS h11), if_neg (AS h13), if_pos h16] <;> rfl, M.fr⟩)))))
   ·refine AL (AA (AD (AD (AB (yb rfl (yb rfl (LM rfl rfl (AC (AA (AN rfl (fun h19 => ?_) (fun h19 => ?_)))))))))))
    ·exact srg (yb rfl (nq (AI (AE (gr1 rfl ⟨by rw [KV, if_neg (AS h11), if_neg (AS h13), if_neg (AS h16), if_pos h19] <;> rfl, M.fr⟩)))))
    ·exact AL (AA (srg (yb rfl (nq (AI (gr1 rfl ⟨by rw [KV, if_neg (AS h11), if_neg (AS h13), if_neg (AS h16), if_neg (AS h19)] <;> rfl, M.fr⟩))))))
def orP : List Int → Int
 | [] => 0
 | x :: r => if (!decide (x = (0 : Int))) = true then x else orP r
theorem jI (A : Option Addr) (c : Nat) (l : List Int) (w : World) (hl : l.length ≤ 1048576) (hR : Rd w A (l.length * 1) (AK N7 l)) : Calls prog 262 #[.slice A l.length c] w fun e w' => e = .returned (.int .i64 (orP l)) ∧ Fr0 w w' := by
 refine C2 func262 ntmps262 rfl fun M => srg (yb rfl (nq (srg (yb rfl (nq (AD (srg (yb rfl (ya rfl (C7 rfl rfl (sl rfl)) ?_)))))))))
 refine yb rfl (nq (AR (flp [7, 6, 3] (fun ze e wr mz => ∃ (i : Nat), e = (8, .int .i64 ((i : Nat) : Int)) :: ze ∧ Mem w AV [] wr ∧ (i ≤ l.length) ∧ (orP l = orP (l.drop i)) ∧ mz = l.length - i) ⟨0, rfl, M, Nat.zero_le _, rfl, rfl⟩ ?_)))
 rintro _ w1 _ ⟨i, rfl, M, hi, hE, rfl⟩
 refine AD (AB (CB rfl rfl (AC (AA (AD (AN rfl (fun h9 => ?_) (fun h9 => ?_)))))))
 ·have h9p := (odt h9)
  refine AL (AA (AD (AR (srg ?_))))
  obtain ⟨x, hx⟩ := CA (l := l) (i := i) AO
  obtain ⟨b_x, o_x, hA_x⟩ := BI (k := 1) AO (hR.fr0 M.fr) hx
  refine ya rfl (B1 i hA_x rfl rfl rfl (sl rfl) AO) (yl rfl rfl (DO VT (hR.fr0 M.fr) hA_x hx 0 rfl) (yb rfl (AC (AA (AD (AB (yb rfl (yb rfl (D4 rfl rfl (AC (AA (AN rfl (fun h14 => ?_) (fun h14 => ?_)))))))))))))
  ·exact srg (yb rfl (yb rfl (nq (AI (AM (AE (AE (AM (AE (gr1 rfl ⟨by rw [hE, B5 hx, orP, if_pos h14], M.fr⟩))))))))))
  ·have h14p := (odt (BM h14))
   refine AL (AH (AA (AB (ya rfl (BF rfl rfl rfl AO) (yb rfl (AC (fag ⟨i + 1, rfl, M, ?_, ?_, rfl⟩)))))))
   ·omega
   ·rw [hE, B5 hx, orP, if_neg (AS h14)]
 ·have h9p := (odf h9)
  refine BG (AJ (AJ (AY (AA (srg (yb rfl (yb rfl (nq (AI (gr1 rfl ?_))))))))))
  obtain rfl : i = l.length := by omega
  exact ⟨by rw [hE, List.drop_length]; rfl, M.fr⟩
def dF (a b : Vl) : Int := (orP [(KU (a.kind.toNat : Int) (b.kind.toNat : Int)), (KV a.int b.int), ((IH a.bool) - (IH b.bool)), (Lib.compareBytes a.text b.text)])
theorem kU (a b : Vl) (w : World) : Calls prog 259 #[.agg a.cells.toArray, .agg b.cells.toArray] w fun e w' => e = .returned (.int .i64 (dF a b)) ∧ Fr0 w w' := by
 have hba := WS a.bool
 have hbb := WS b.bool
 refine C2 func259 ntmps259 rfl fun M => srg (CN M rfl rfl fun g2 w1 hg2 M => CN M rfl rfl fun g3 w2 hg3 M => yb rfl (nq (AD (CO 25 (fun w' => Mem w AV [As.blk g3 45 (Vl.cells b), As.blk g2 45 (Vl.cells a)] w') CU ?_))))
 have M := M.drew
 refine oc 0 25 rfl rfl M (ol 1 25 rfl rfl rfl M (fun _ M => (M.cell 1 rfl rfl)) (oc 2 25 rfl rfl M (ol 3 25 rfl rfl rfl M (fun _ M => (M.cell 0 rfl rfl)) (oc 5 25 rfl rfl M (ol 6 25 rfl rfl rfl M (fun _ M => (M.cell 1 rfl rfl)) (oc 7 25 rfl rfl M (ol 8 25 rfl rfl rfl M (fun _ M => (M.cell 0 rfl rfl)) (oc 10 25 rfl rfl M (ol 11 25 rfl rfl rfl M (fun _ M => (M.cell 1 rfl rfl)) (oc 13 25 rfl rfl M (ol 14 25 rfl rfl rfl M (fun _ M => (M.cell 0 rfl rfl)) (oc 17 25 rfl rfl M (ol 18 25 rfl rfl rfl M (fun _ M => (M.cell 1 rfl rfl)) (oc 19 25 rfl rfl M (ol 20 25 rfl rfl rfl M (fun _ M => (M.cell 0 rfl rfl)) ?_)))))))))))))))
 refine C0 4 (some 9) gkr rfl (AF rfl) rfl rfl (AQ rfl rfl call263) (WH (a.kind.toNat : Int) (b.kind.toNat : Int) _) ?_
 rintro _ w3 ⟨rfl, hfw3⟩
 refine ⟨_, rfl, fun _ => M.step hfw3, ?_⟩
 have M := M.step hfw3
 refine C0 9 (some 14) gkr rfl (AF rfl) rfl rfl (AQ rfl rfl call264) (WI a.int b.int _) ?_
 rintro _ w4 ⟨rfl, hfw4⟩
 refine ⟨_, rfl, fun _ => M.step hfw4, ?_⟩
 have M := M.step hfw4
 refine C0 12 (some 17) gkr rfl (AF rfl) rfl rfl (AQ rfl rfl call265) (RZ a.bool _) ?_
 rintro _ w5 ⟨rfl, hfw5⟩
 refine ⟨_, rfl, fun _ => M.step hfw5, ?_⟩
 have M := M.step hfw5
 refine C0 15 (some 20) gkr rfl (AF rfl) rfl rfl (AQ rfl rfl call265) (RZ b.bool _) ?_
 rintro _ w6 ⟨rfl, hfw6⟩
 refine ⟨_, rfl, fun _ => M.step hfw6, ?_⟩
 have M := M.step hfw6
 refine oa 16 25 rfl rfl M (fun _ M => nP rfl rfl rfl AO) (C0 21 (some 26) gkr rfl (AF rfl) rfl rfl (AQ rfl rfl call266) (S5 a.text b.text _) ?_)
 rintro _ w7 ⟨rfl, hfw7⟩
 refine ⟨_, rfl, fun _ => M.step hfw7, ?_⟩
 have M := M.step hfw7
 refine B7 22 (some 27) gkr rfl (AF rfl) rfl rfl (fun ρ hρ => DL [.int .i64 (KU (a.kind.toNat : Int) (b.kind.toNat : Int)), .int .i64 (KV a.int b.int), .int .i64 ((IH a.bool) - (IH b.bool)), .int .i64 (Lib.compareBytes a.text b.text)] _ hρ rfl rfl rfl rfl underlying215 Z9 BR BR (by intro v hv; simp only [List.mem_cons, List.not_mem_nil, or_false] at hv; rcases hv with rfl | rfl | rfl | rfl <;> rfl)) ?_
 rintro _ w8 ⟨g27, rfl, hg27, hq27, hb27, hfw8⟩
 replace hb27 : Blk w8 g27 3 ([.int .i64 (KU (a.kind.toNat : Int) (b.kind.toNat : Int)), .int .i64 (KV a.int b.int), .int .i64 ((IH a.bool) - (IH b.bool)), .int .i64 (Lib.compareBytes a.text b.text)]) := hb27
 refine ⟨fun _ => M.step hfw8, ?_⟩
 have M := M.push hfw8 _ hb27 (DV hg27 hq27)
 replace M : Mem w AV (As.blk g27 3 ([.int .i64 (KU (a.kind.toNat : Int) (b.kind.toNat : Int)), .int .i64 (KV a.int b.int), .int .i64 ((IH a.bool) - (IH b.bool)), .int .i64 (Lib.compareBytes a.text b.text)]) :: _) w8 := M
 refine C0 23 (some 28) gkr rfl (AF rfl) rfl rfl (AQ rfl rfl call262) (jI (some ⟨g27, 0, none⟩) 4 [(KU (a.kind.toNat : Int) (b.kind.toNat : Int)), (KV a.int b.int), ((IH a.bool) - (IH b.bool)), (Lib.compareBytes a.text b.text)] _ (by simp) (M.rdBlk 0 rfl rfl)) ?_
 rintro _ w9 ⟨rfl, hfw9⟩
 refine ⟨_, rfl, fun _ => (M.drop 1).step hfw9, ?_⟩
 have M := M.step hfw9
 exact oc 24 25 rfl rfl (M.drop 1) (fdn (AA (AI (gr1 rfl ⟨by rw [dF] <;> rfl, M.fr⟩))))
def JG (a b : Vl) : Bool × Int := (if ((((!decide ((a.kind.toNat : Int) = (b.kind.toNat : Int))) || (decide ((a.kind.toNat : Int) = (2 : Int)))) || (!decide ((chk a) = (0 : Int)))) || (!decide ((chk b) = (0 : Int)))) = true then (false, 90) else ((decide ((dF a b) < (0 : Int))), 0))
theorem dE (a b : Vl) (w : World) (ha : a.text.length ≤ 1048576) (hb : b.text.length ≤ 1048576) (hY : Lay0 w) : Calls prog 249 #[.agg a.cells.toArray, .agg b.cells.toArray] w fun e w' => e = .returned (.tuple #[.bool (JG a b).1, .int .i64 (JG a b).2]) ∧ Fr0 w w' := by
 refine C2 func249 ntmps249 rfl fun M => srg (CN M rfl rfl fun g2 w1 hg2 M => CN M rfl rfl fun g3 w2 hg3 M => yb rfl (yb rfl (nq (AD (srg (yb rfl (BA M 1 rfl rfl rfl ?_)))))))
 refine yb rfl (BA M 0 rfl rfl rfl (D4 rfl rfl (yb rfl (fvm M 4 [3, 2] [(15, .bool ((!decide ((a.kind.toNat : Int) = (b.kind.toNat : Int))) || (decide ((a.kind.toNat : Int) = (2 : Int)))))] ?_ (fun k11 => ?_)))))
 ·intro w3 M
  refine yb rfl (fvm M 4 [3, 2] [(20, .bool (((!decide ((a.kind.toNat : Int) = (b.kind.toNat : Int))) || (decide ((a.kind.toNat : Int) = (2 : Int)))) || (!decide ((chk a) = (0 : Int)))))] ?_ (fun k16 => ?_))
  ·intro w4 M
   refine yb rfl (fvm M 4 [3, 2] [(25, .bool ((((!decide ((a.kind.toNat : Int) = (b.kind.toNat : Int))) || (decide ((a.kind.toNat : Int) = (2 : Int)))) || (!decide ((chk a) = (0 : Int)))) || (!decide ((chk b) = (0 : Int)))))] ?_ (fun k21 => ?_))
   ·intro w5 M
    refine AC (AA (AN rfl (fun h25 => ?_) (fun h25 => ?_)))
    ·have h25p := ((EJ h25).imp (fun z => ((EJ z).imp (fun z => ((EJ z).imp (fun z => (odf (CE z))) (fun z => (odt z)))) (fun z => (odf (CE z))))) (fun z => (odf (CE z))))
     exact srg (yb rfl (yb rfl (nq (AI (AE (CD rfl rfl rfl ⟨by rw [JG, if_pos h25] <;> rfl, M.fr⟩))))))
    ·exact AL (AA (srg (CR M 1 rfl rfl underlying45 AG rfl (CR M 0 rfl rfl underlying45 AG rfl (D1 M 28 rfl rfl call259 (kU a b _) fun w6 M => CB rfl rfl (yb rfl (yb rfl (nq (AI (CD rfl rfl rfl ⟨by rw [JG, if_neg (AS h25)] <;> rfl, M.fr⟩))))))))))
   refine AP (d := 21) rfl (fun h21 => ?_) (fun h21 => ?_)
   ·exact yo rfl (yo rfl (yo rfl (yb rfl (k21 M ⟨rfl, rfl, (by rw [h21]; rfl), trivial⟩))))
   ·refine yd rfl (AT (xs := Vl.cells b) rfl rfl (M.rdBlk 0 rfl rfl) underlying45 rfl AG) (B0 (some 23) (BD rfl rfl rfl) rfl rfl (AQ rfl rfl call65) (FH b _ AO (hY.fr0 M.fr).utf) ?_)
    rintro _ w7 ⟨rfl, hfw7⟩
    refine ⟨_, rfl, ?_⟩
    have M := M.step hfw7
    exact yd rfl (DC rfl rfl rfl) (yb rfl (k21 M ⟨rfl, rfl, (by rw [h21]; rfl), trivial⟩))
  refine AP (d := 16) rfl (fun h16 => ?_) (fun h16 => ?_)
  ·exact yo rfl (yo rfl (yo rfl (yb rfl (k16 M ⟨rfl, rfl, (by rw [h16]; rfl), trivial⟩))))
  ·refine yd rfl (AT (xs := Vl.cells a) rfl rfl (M.rdBlk 1 rfl rfl) underlying45 rfl AG) (B0 (some 18) (BD rfl rfl rfl) rfl rfl (AQ rfl rfl call65) (FH a _ AO (hY.fr0 M.fr).utf) ?_)
   rintro _ w8 ⟨rfl, hfw8⟩
   refine ⟨_, rfl, ?_⟩
   have M := M.step hfw8
   exact yd rfl (DC rfl rfl rfl) (yb rfl (k16 M ⟨rfl, rfl, (by rw [h16]; rfl), trivial⟩))
 refine AP (d := 11) rfl (fun h11 => ?_) (fun h11 => ?_)
 ·exact yo rfl (yo rfl (yo rfl (yb rfl (k11 M ⟨rfl, rfl, (by rw [h11]; rfl), trivial⟩))))
 ·exact gyq rfl (CH M 1 rfl rfl rfl (yd rfl (C3 rfl rfl rfl) (yb rfl (k11 M ⟨rfl, rfl, (by rw [h11]; rfl), trivial⟩))))
def fT (v : Vl) : Bool := (!decide ((v.kind.toNat : Int) = (1 : Int))) || (!decide (chk v = (0 : Int)))
def IF (l : List Vl) : Int := if l.any fT = true then 90 else 0
theorem QY (v : Vl) (r : List Vl) : IF (v :: r) = if fT v = true then 90 else IF r := by unfold IF; rw [List.any_cons]; cases fT v <;> rfl
theorem IW (A : Option Addr) (c : Nat) (l : List Vl) (w : World) (hl : l.length ≤ 1048576) (ht : ∀ v ∈ l, v.text.length ≤ 1048576) (hR : Rd w A (l.length * 4) (AK Vl.cells l)) (hY : Lay0 w) : Calls prog 251 #[.slice A l.length c] w fun e w' => e = .returned (.int .i64 (IF l)) ∧ Fr0 w w' := by
 refine C2 func251 ntmps251 rfl fun M => srg (yb rfl (nq (AD (srg (yb rfl (ya rfl (C7 rfl rfl (sl rfl)) (yb rfl (nq (AR (flp [6, 5] (fun ze e wr mz => ∃ (i : Nat), e = (7, .int .i64 ((i : Nat) : Int)) :: ze ∧ Mem w AV [] wr ∧ (i ≤ l.length) ∧ (IF l = IF (l.drop i)) ∧ mz = l.length - i) ⟨0, rfl, M, Nat.zero_le _, rfl, rfl⟩ ?_))))))))))
 rintro _ w1 _ ⟨i, rfl, M, hi, hE, rfl⟩
 refine AD (AB (CB rfl rfl (AC (AA (AD (AN rfl (fun h8 => ?_) (fun h8 => ?_)))))))
 ·have h8p := (odt h8)
  refine AL (AA (AD (AR (srg ?_))))
  obtain ⟨x, hx⟩ := CA (l := l) (i := i) AO
  obtain ⟨b_x, o_x, hA_x⟩ := BI (k := 4) AO (hR.fr0 M.fr) hx
  refine ya rfl (B1 i hA_x rfl rfl rfl (sl rfl) AO) (ya rfl (AT rfl rfl (BQ Vl.len (hR.fr0 M.fr) hA_x hx) underlying45 rfl AG) (D6 M rfl BN fun g4 w2 hg4 M => C1 M 0 rfl rfl AG rfl fun w3 M => AC (AA (AD (AB (yb rfl (BA M 0 rfl rfl rfl (D4 rfl rfl (yb rfl (fvm M 4 [7, 6, 5] [(18, .bool ((!decide ((x.kind.toNat : Int) = (1 : Int))) || (!decide ((chk x) = (0 : Int)))))] ?_ (fun k14 => ?_)))))))))))
  ·intro w4 M
   refine AC (AA (AN rfl (fun h18 => ?_) (fun h18 => ?_)))
   ·have h18p := ((EJ h18).imp (fun z => (odf (CE z))) (fun z => (odf (CE z))))
    exact srg (yb rfl (nq (AI (AM (AE (AE (AM (AE (gr1 rfl ⟨by rw [hE, B5 hx, QY, if_pos (show fT x = true from h18)], M.fr⟩)))))))))
   ·have h18p := (And.intro (odt (BM (CL h18).1)) (odt (BM (CL h18).2)))
    refine AL (AH (AA (AB (ya rfl (BF rfl rfl rfl AO) (yb rfl (AC (fag ⟨i + 1, rfl, (M.pick [] BR), ?_, ?_, rfl⟩)))))))
    ·omega
    ·rw [hE, B5 hx, QY, if_neg (AS (show fT x = false from h18))]
  refine AP (d := 14) rfl (fun h14 => ?_) (fun h14 => ?_)
  ·exact yo rfl (yo rfl (yo rfl (yb rfl (k14 M ⟨rfl, rfl, rfl, (by rw [h14]; rfl), trivial⟩))))
  ·refine yd rfl (AT (xs := Vl.cells x) rfl rfl (M.rdBlk 0 rfl rfl) underlying45 rfl AG) (B0 (some 16) (BD rfl rfl rfl) rfl rfl (AQ rfl rfl call65) (FH x _ (by have := ht x (List.mem_of_getElem? hx); omega) (hY.fr0 M.fr).utf) ?_)
   rintro _ w5 ⟨rfl, hfw5⟩
   refine ⟨_, rfl, ?_⟩
   have M := M.step hfw5
   exact yd rfl (DC rfl rfl rfl) (yb rfl (k14 M ⟨rfl, rfl, rfl, (by rw [h14]; rfl), trivial⟩))
 ·have h8p := (odf h8)
  refine BG (AJ (AJ (AY (AA (srg (yb rfl (nq (AI (gr1 rfl ?_)))))))))
  obtain rfl : i = l.length := by omega
  exact ⟨by rw [hE, List.drop_length]; rfl, M.fr⟩
def KO (n : Int) (ok : Bool) : Vl × Int := (if (!ok) = true then ((⟨0, 0, false, []⟩ : Vl), 91) else ((⟨1, n, false, []⟩ : Vl), 0))
theorem HZ (n : Int) (ok : Bool) (w : World) : Calls prog 252 #[.int .i64 n, .bool ok] w fun e w' => e = .returned (.tuple #[.agg (Vl.cells (KO n ok).1).toArray, .int .i64 (KO n ok).2]) ∧ Fr0 w w' := by
 refine C2 func252 ntmps252 rfl fun M => AD (AB (D6 M rfl BN fun g4 w1 hg4 M => yb rfl (AC (AA (AD (AD (AB (yb rfl (yb rfl (AC (AA (AN rfl (fun h7 => ?_) (fun h7 => ?_)))))))))))))
 ·exact srg (ya rfl (B9 (parts := []) rfl rfl (C4)) (C1 M 0 rfl rfl AG rfl fun w2 M => yb rfl (nq (AI (AE (B8 rfl rfl (M.rdBlk 0 rfl rfl) underlying45 rfl AG rfl ⟨by rw [KO, if_pos h7] <;> rfl, M.fr⟩))))))
 ·exact AL (AA (srg (yb rfl (D1 M 10 rfl rfl call120 (OO n _) fun w3 M => C1 M 0 rfl rfl AG rfl fun w4 M => yb rfl (nq (AI (B8 rfl rfl (M.rdBlk 0 rfl rfl) underlying45 rfl AG rfl ⟨by rw [KO, if_neg (AS h7)] <;> rfl, M.fr⟩)))))))
def QI (a b : Vl) : Vl × Int := (if (!decide ((IF [a, b]) = (0 : Int))) = true then ((⟨0, 0, false, []⟩ : Vl), (IF [a, b])) else (((KO ((IntKind.i64).wrap (a.int + b.int)) ((decide (((IntKind.i64).wrap (a.int + b.int)) < a.int)) == (decide (b.int < (0 : Int))))).1), (KO ((IntKind.i64).wrap (a.int + b.int)) ((decide (((IntKind.i64).wrap (a.int + b.int)) < a.int)) == (decide (b.int < (0 : Int))))).2))
theorem kV (a b : Vl) (w : World) (ha : a.text.length ≤ 1048576) (hb : b.text.length ≤ 1048576) (hY : Lay0 w) : Calls prog 250 #[.agg a.cells.toArray, .agg b.cells.toArray] w fun e w' => e = .returned (.tuple #[.agg (Vl.cells (QI a b).1).toArray, .int .i64 (QI a b).2]) ∧ Fr0 w w' := by
 refine C2 func250 ntmps250 rfl fun M => srg (CN M rfl rfl fun g2 w1 hg2 M => CN M rfl rfl fun g3 w2 hg3 M => D6 M rfl BN fun g4 w3 hg4 M => yb rfl (nq (AD (srg (CR M 2 rfl rfl underlying45 AG rfl ?_)))))
 refine CR M 1 rfl rfl underlying45 AG rfl (DA M (AF rfl) rfl rfl [.agg (Vl.cells a).toArray, .agg (Vl.cells b).toArray] ([.int .u8 (a.kind.toNat : Int), .int .i64 a.int, .bool a.bool, str a.text, .int .u8 (b.kind.toNat : Int), .int .i64 b.int, .bool b.bool, str b.text]) rfl rfl rfl rfl underlying306 GS rfl rfl (by intro v hv; simp only [List.mem_cons, List.not_mem_nil, or_false] at hv; rcases hv with rfl | rfl <;> rfl) rfl fun g10 w4 hg10 M => D1 M 11 rfl rfl call251 (IW (some ⟨g10, 0, none⟩) 2 [a, b] _ (by simp) (NM (by first | omega | (simp only [List.length_nil]; omega)) (by first | omega | (simp only [List.length_nil]; omega))) (M.rdBlk 0 rfl rfl) (hY.fr0 M.fr)) fun w5 M => yb rfl (AC (AA (AD (AB (yb rfl (D4 rfl rfl (AC (AA (AN rfl (fun h13 => ?_) (fun h13 => ?_)))))))))))
 ·exact srg (ya rfl (B9 (parts := []) rfl rfl (C4)) (yb rfl (C1 M 1 rfl rfl AG rfl fun w6 M => yb rfl (nq (AI (AE (B8 rfl rfl (M.rdBlk 1 rfl rfl) underlying45 rfl AG rfl ⟨by rw [QI, if_pos h13] <;> rfl, M.fr⟩)))))))
 ·refine AL (AA (srg (yb rfl (BA M 3 rfl rfl rfl (yb rfl (BA M 2 rfl rfl rfl (ya rfl (d9 rfl rfl rfl) (yb rfl (nq (srg (yb rfl (yb rfl ?_))))))))))))
  refine yb rfl (BA M 3 rfl rfl rfl (CB rfl rfl (yb rfl (BA M 2 rfl rfl rfl (CB rfl rfl (ya rfl (IP rfl rfl rfl underlying4) (D1 M 30 rfl rfl call252 (HZ ((IntKind.i64).wrap (a.int + b.int)) ((decide (((IntKind.i64).wrap (a.int + b.int)) < a.int)) == (decide (b.int < (0 : Int)))) _) fun w7 M => yb rfl (yb rfl (C1 M 1 rfl rfl AG rfl fun w8 M => yb rfl (nq (AI ?_)))))))))))
  exact B8 rfl rfl (M.rdBlk 1 rfl rfl) underlying45 rfl AG rfl ⟨by rw [QI, if_neg (AS h13)] <;> rfl, M.fr⟩
def KR (a b : Vl) : Vl × Int := (if (!decide ((IF [a, b]) = (0 : Int))) = true then ((⟨0, 0, false, []⟩ : Vl), (IF [a, b])) else (((KO ((IntKind.i64).wrap (a.int - b.int)) ((decide (a.int < ((IntKind.i64).wrap (a.int - b.int)))) == (decide (b.int < (0 : Int))))).1), (KO ((IntKind.i64).wrap (a.int - b.int)) ((decide (a.int < ((IntKind.i64).wrap (a.int - b.int)))) == (decide (b.int < (0 : Int))))).2))
theorem YG (a b : Vl) (w : World) (ha : a.text.length ≤ 1048576) (hb : b.text.length ≤ 1048576) (hY : Lay0 w) : Calls prog 238 #[.agg a.cells.toArray, .agg b.cells.toArray] w fun e w' => e = .returned (.tuple #[.agg (Vl.cells (KR a b).1).toArray, .int .i64 (KR a b).2]) ∧ Fr0 w w' := by
 refine C2 func238 ntmps238 rfl fun M => srg (CN M rfl rfl fun g2 w1 hg2 M => CN M rfl rfl fun g3 w2 hg3 M => D6 M rfl BN fun g4 w3 hg4 M => yb rfl (nq (AD (srg (CR M 2 rfl rfl underlying45 AG rfl ?_)))))
 refine CR M 1 rfl rfl underlying45 AG rfl (DA M (AF rfl) rfl rfl [.agg (Vl.cells a).toArray, .agg (Vl.cells b).toArray] ([.int .u8 (a.kind.toNat : Int), .int .i64 a.int, .bool a.bool, str a.text, .int .u8 (b.kind.toNat : Int), .int .i64 b.int, .bool b.bool, str b.text]) rfl rfl rfl rfl underlying306 GS rfl rfl (by intro v hv; simp only [List.mem_cons, List.not_mem_nil, or_false] at hv; rcases hv with rfl | rfl <;> rfl) rfl fun g10 w4 hg10 M => D1 M 11 rfl rfl call251 (IW (some ⟨g10, 0, none⟩) 2 [a, b] _ (by simp) (NM (by first | omega | (simp only [List.length_nil]; omega)) (by first | omega | (simp only [List.length_nil]; omega))) (M.rdBlk 0 rfl rfl) (hY.fr0 M.fr)) fun w5 M => yb rfl (AC (AA (AD (AB (yb rfl (D4 rfl rfl (AC (AA (AN rfl (fun h13 => ?_) (fun h13 => ?_)))))))))))
 ·exact srg (ya rfl (B9 (parts := []) rfl rfl (C4)) (yb rfl (C1 M 1 rfl rfl AG rfl fun w6 M => yb rfl (nq (AI (AE (B8 rfl rfl (M.rdBlk 1 rfl rfl) underlying45 rfl AG rfl ⟨by rw [KR, if_pos h13] <;> rfl, M.fr⟩)))))))
 ·refine AL (AA (srg (yb rfl (BA M 3 rfl rfl rfl (yb rfl (BA M 2 rfl rfl rfl (ya rfl (nX rfl rfl rfl) (yb rfl (nq (srg (yb rfl (yb rfl ?_))))))))))))
  refine yb rfl (BA M 3 rfl rfl rfl (LM rfl rfl (yb rfl (BA M 2 rfl rfl rfl (CB rfl rfl (ya rfl (IP rfl rfl rfl underlying4) (D1 M 30 rfl rfl call252 (HZ ((IntKind.i64).wrap (a.int - b.int)) ((decide (a.int < ((IntKind.i64).wrap (a.int - b.int)))) == (decide (b.int < (0 : Int)))) _) fun w7 M => yb rfl (yb rfl (C1 M 1 rfl rfl AG rfl fun w8 M => yb rfl (nq (AI ?_)))))))))))
  exact B8 rfl rfl (M.rdBlk 1 rfl rfl) underlying45 rfl AG rfl ⟨by rw [KR, if_neg (AS h13)] <;> rfl, M.fr⟩
def FF (n : Int) : Int := (if (decide (n < (0 : Int))) = true then ((IntKind.u64).wrap (-((IntKind.u64).wrap n))) else ((IntKind.u64).wrap n))
theorem UX (n : Int) (w : World) : Calls prog 254 #[.int .i64 n] w fun e w' => e = .returned (.int .u64 (FF n)) ∧ Fr0 w w' := by
 refine C2 func254 ntmps254 rfl fun M => AD (AB (yb rfl (AC (AA (AD (AD (AB (yb rfl (CB rfl rfl (AC (AA (AN rfl (fun h4 => ?_) (fun h4 => ?_)))))))))))))
 ·exact srg (yb rfl (ya rfl (JQ rfl rfl underlying2 underlying231 rfl) (ya rfl (o2 rfl rfl) (yb rfl (nq (AI (AE (gr1 rfl ⟨by rw [FF, if_pos h4] <;> rfl, M.fr⟩))))))))
 ·exact AL (AA (srg (yb rfl (ya rfl (JQ rfl rfl underlying2 underlying231 rfl) (yb rfl (nq (AI (gr1 rfl ⟨by rw [FF, if_neg (AS h4)] <;> rfl, M.fr⟩))))))))
theorem V9 (n : Int) : 0 ≤ FF n ∧ FF n < 18446744073709551616 := by
 unfold FF
 split
 ·exact dJ _
 ·exact dJ _
def hiP (x y : Int) : Int := ((x.toNat * y.toNat / 18446744073709551616 : Nat) : Int)
def loP (x y : Int) : Int := ((x.toNat * y.toNat % 18446744073709551616 : Nat) : Int)
theorem gB (x y : Int) (w : World) (hx : 0 ≤ x ∧ x < 18446744073709551616) (hy : 0 ≤ y ∧ y < 18446744073709551616) : Calls prog 253 #[.int .u64 x, .int .u64 y] w fun e w' => e = .returned (.tuple #[.int .u64 (hiP x y), .int .u64 (loP x y)]) ∧ Fr0 w w' := by
 obtain ⟨a, rfl⟩ : ∃ a : Nat, x = (a : Int) := ⟨x.toNat, by omega⟩
 obtain ⟨b, rfl⟩ : ∃ b : Nat, y = (b : Int) := ⟨y.toNat, by omega⟩
 refine (Tryz.bits_Mul64 a b AO AO w).mono ?_
 rintro e w' ⟨rfl, rfl⟩
 exact ⟨rfl, Fr.refl⟩
def SI (a b : Vl) : Vl × Int := (if (!decide ((IF [a, b]) = (0 : Int))) = true then ((⟨0, 0, false, []⟩ : Vl), (IF [a, b])) else (((KO ((IntKind.i64).wrap (a.int * b.int)) ((decide ((hiP (FF a.int) (FF b.int)) = (0 : Int))) && (decide ((loP (FF a.int) (FF b.int)) ≤ ((if (!((decide (a.int < (0 : Int))) == (decide (b.int < (0 : Int))))) then 9223372036854775808 else 9223372036854775807 : Nat) : Int))))).1), (KO ((IntKind.i64).wrap (a.int * b.int)) ((decide ((hiP (FF a.int) (FF b.int)) = (0 : Int))) && (decide ((loP (FF a.int) (FF b.int)) ≤ ((if (!((decide (a.int < (0 : Int))) == (decide (b.int < (0 : Int))))) then 9223372036854775808 else 9223372036854775807 : Nat) : Int))))).2))
theorem kR (a b : Vl) (w : World) (ha : a.text.length ≤ 1048576) (hb : b.text.length ≤ 1048576) (hY : Lay0 w) : Calls prog 239 #[.agg a.cells.toArray, .agg b.cells.toArray] w fun e w' => e = .returned (.tuple #[.agg (Vl.cells (SI a b).1).toArray, .int .i64 (SI a b).2]) ∧ Fr0 w w' := by
 refine C2 func239 ntmps239 rfl fun M => srg (CN M rfl rfl fun g2 w1 hg2 M => CN M rfl rfl fun g3 w2 hg3 M => D6 M rfl BN fun g4 w3 hg4 M => yb rfl (nq (AD (srg (CR M 2 rfl rfl underlying45 AG rfl ?_)))))
 refine CR M 1 rfl rfl underlying45 AG rfl (DA M (AF rfl) rfl rfl [.agg (Vl.cells a).toArray, .agg (Vl.cells b).toArray] ([.int .u8 (a.kind.toNat : Int), .int .i64 a.int, .bool a.bool, str a.text, .int .u8 (b.kind.toNat : Int), .int .i64 b.int, .bool b.bool, str b.text]) rfl rfl rfl rfl underlying306 GS rfl rfl (by intro v hv; simp only [List.mem_cons, List.not_mem_nil, or_false] at hv; rcases hv with rfl | rfl <;> rfl) rfl fun g12 w4 hg12 M => D1 M 13 rfl rfl call251 (IW (some ⟨g12, 0, none⟩) 2 [a, b] _ (by simp) (NM (by first | omega | (simp only [List.length_nil]; omega)) (by first | omega | (simp only [List.length_nil]; omega))) (M.rdBlk 0 rfl rfl) (hY.fr0 M.fr)) fun w5 M => yb rfl (AC (AA (AD (AB (yb rfl (D4 rfl rfl (AC (AA (AN rfl (fun h15 => ?_) (fun h15 => ?_)))))))))))
 ·exact srg (ya rfl (B9 (parts := []) rfl rfl (C4)) (yb rfl (C1 M 1 rfl rfl AG rfl fun w6 M => yb rfl (nq (AI (AE (B8 rfl rfl (M.rdBlk 1 rfl rfl) underlying45 rfl AG rfl ⟨by rw [SI, if_pos h15] <;> rfl, M.fr⟩)))))))
 ·refine AL (AA (AD (CO 12 (fun w' => Mem w AV [As.blk g12 45 [.int .u8 (a.kind.toNat : Int), .int .i64 a.int, .bool a.bool, str a.text, .int .u8 (b.kind.toNat : Int), .int .i64 b.int, .bool b.bool, str b.text], As.blk g4 45 [.int .u8 0, .int .i64 0, .bool false, str []], As.blk g3 45 (Vl.cells b), As.blk g2 45 (Vl.cells a)] w') CU ?_)))
  have M := M.drew
  refine oc 0 12 rfl rfl M (ol 1 12 rfl rfl rfl M (fun _ M => (M.cell 3 rfl rfl)) (oc 3 12 rfl rfl M (ol 4 12 rfl rfl rfl M (fun _ M => (M.cell 2 rfl rfl)) (C0 2 (some 21) gkr rfl (AF rfl) rfl rfl (AQ rfl rfl call254) (UX a.int _) ?_))))
  rintro _ w7 ⟨rfl, hfw7⟩
  refine ⟨_, rfl, fun _ => M.step hfw7, ?_⟩
  have M := M.step hfw7
  refine C0 5 (some 24) gkr rfl (AF rfl) rfl rfl (AQ rfl rfl call254) (UX b.int _) ?_
  rintro _ w8 ⟨rfl, hfw8⟩
  refine ⟨_, rfl, fun _ => M.step hfw8, ?_⟩
  have M := M.step hfw8
  refine C0 6 (some 25) gkr rfl (AF rfl) rfl rfl (AQ rfl rfl call253) (gB (FF a.int) (FF b.int) _ (V9 _) (V9 _)) ?_
  rintro _ w9 ⟨rfl, hfw9⟩
  refine ⟨_, rfl, fun _ => M.step hfw9, ?_⟩
  have M := M.step hfw9
  refine oc 7 12 rfl rfl M (oc 8 12 rfl rfl M (oc 9 12 rfl rfl M (oc 10 12 rfl rfl M (oc 11 12 rfl rfl M (fdn (AA (srg (yb rfl (nq (AD (srg (yb rfl ?_))))))))))))
  refine BA M 3 rfl rfl rfl (CB rfl rfl (yb rfl (BA M 2 rfl rfl rfl (CB rfl rfl (ya rfl (ZY rfl rfl rfl underlying4) (AC (AA (IK [(2, pg g2), (3, pg g3), (4, pg g4), (7, .int .u64 (hiP (FF a.int) (FF b.int))), (8, .int .u64 (loP (FF a.int) (FF b.int))), (9, .int .u64 ((if (!((decide (a.int < (0 : Int))) == (decide (b.int < (0 : Int))))) then 9223372036854775808 else 9223372036854775807 : Nat) : Int))] (fun w' => Mem w AV [As.blk g12 45 [.int .u8 (a.kind.toNat : Int), .int .i64 a.int, .bool a.bool, str a.text, .int .u8 (b.kind.toNat : Int), .int .i64 b.int, .bool b.bool, str b.text], As.blk g4 45 [.int .u8 0, .int .i64 0, .bool false, str []], As.blk g3 45 (Vl.cells b), As.blk g2 45 (Vl.cells a)] w') ?_ (fun k34 => ?_)))))))))
  ·intro w10 M
   refine AA (AD (AB (yb rfl (BA M 3 rfl rfl rfl (yb rfl (BA M 2 rfl rfl rfl (ya rfl (o3 rfl rfl rfl) (yb rfl (CI rfl rfl (yb rfl (fvm M 4 [39, 4] [(46, .bool ((decide ((hiP (FF a.int) (FF b.int)) = (0 : Int))) && (decide ((loP (FF a.int) (FF b.int)) ≤ ((if (!((decide (a.int < (0 : Int))) == (decide (b.int < (0 : Int))))) then 9223372036854775808 else 9223372036854775807 : Nat) : Int)))))] ?_ (fun k42 => ?_))))))))))))
   ·intro w11 M
    exact D1 M 47 rfl rfl call252 (HZ ((IntKind.i64).wrap (a.int * b.int)) ((decide ((hiP (FF a.int) (FF b.int)) = (0 : Int))) && (decide ((loP (FF a.int) (FF b.int)) ≤ ((if (!((decide (a.int < (0 : Int))) == (decide (b.int < (0 : Int))))) then 9223372036854775808 else 9223372036854775807 : Nat) : Int)))) _) fun w12 M => yb rfl (yb rfl (C1 M 1 rfl rfl AG rfl fun w13 M => yb rfl (nq (AI (B8 rfl rfl (M.rdBlk 1 rfl rfl) underlying45 rfl AG rfl ⟨by rw [SI, if_neg (AS h15)] <;> rfl, M.fr⟩)))))
   refine AP (d := 42) rfl (fun h42 => ?_) (fun h42 => ?_)
   ·exact gyq rfl (gyq rfl (yd rfl (GL rfl rfl rfl) (yb rfl (k42 M ⟨rfl, rfl, (by rw [h42]; rfl), trivial⟩))))
   ·exact yo rfl (yo rfl (yo rfl (yb rfl (k42 M ⟨rfl, rfl, (by rw [h42]; rfl), trivial⟩))))
  refine AN rfl (fun h34 => ?_) (fun h34 => ?_)
  ·exact AB (yb rfl (AC (k34 _ _ M ⟨rfl, rfl, rfl, rfl, rfl, (by rw [h34]; rfl), trivial⟩)))
  ·exact AL (k34 _ _ M ⟨rfl, rfl, rfl, rfl, rfl, (by rw [h34]; rfl), trivial⟩)
def QF (a b : Vl) : Vl × Int := (if (!decide ((IF [a, b]) = (0 : Int))) = true then ((⟨0, 0, false, []⟩ : Vl), (IF [a, b])) else (if ((decide (b.int = (0 : Int))) || ((decide (a.int = (-9223372036854775808 : Int))) && (decide (b.int = (-1 : Int))))) = true then (((KO 0 false).1), (KO 0 false).2) else (((KO ((IntKind.i64).wrap (a.int.tdiv b.int)) true).1), (KO ((IntKind.i64).wrap (a.int.tdiv b.int)) true).2)))
theorem kT (a b : Vl) (w : World) (ha : a.text.length ≤ 1048576) (hb : b.text.length ≤ 1048576) (hY : Lay0 w) : Calls prog 240 #[.agg a.cells.toArray, .agg b.cells.toArray] w fun e w' => e = .returned (.tuple #[.agg (Vl.cells (QF a b).1).toArray, .int .i64 (QF a b).2]) ∧ Fr0 w w' := by
 refine C2 func240 ntmps240 rfl fun M => srg (CN M rfl rfl fun g2 w1 hg2 M => CN M rfl rfl fun g3 w2 hg3 M => D6 M rfl BN fun g4 w3 hg4 M => yb rfl (nq (AD (srg (CR M 2 rfl rfl underlying45 AG rfl ?_)))))
 refine CR M 1 rfl rfl underlying45 AG rfl (DA M (AF rfl) rfl rfl [.agg (Vl.cells a).toArray, .agg (Vl.cells b).toArray] ([.int .u8 (a.kind.toNat : Int), .int .i64 a.int, .bool a.bool, str a.text, .int .u8 (b.kind.toNat : Int), .int .i64 b.int, .bool b.bool, str b.text]) rfl rfl rfl rfl underlying306 GS rfl rfl (by intro v hv; simp only [List.mem_cons, List.not_mem_nil, or_false] at hv; rcases hv with rfl | rfl <;> rfl) rfl fun g9 w4 hg9 M => D1 M 10 rfl rfl call251 (IW (some ⟨g9, 0, none⟩) 2 [a, b] _ (by simp) (NM (by first | omega | (simp only [List.length_nil]; omega)) (by first | omega | (simp only [List.length_nil]; omega))) (M.rdBlk 0 rfl rfl) (hY.fr0 M.fr)) fun w5 M => yb rfl (AC (AA (AD (AB (yb rfl (D4 rfl rfl (AC (AA (AN rfl (fun h12 => ?_) (fun h12 => ?_)))))))))))
 ·exact srg (ya rfl (B9 (parts := []) rfl rfl (C4)) (yb rfl (C1 M 1 rfl rfl AG rfl fun w6 M => yb rfl (nq (AI (AE (B8 rfl rfl (M.rdBlk 1 rfl rfl) underlying45 rfl AG rfl ⟨by rw [QF, if_pos h12] <;> rfl, M.fr⟩)))))))
 ·refine AL (AA (AD (AD (AB (yb rfl (BA M 2 rfl rfl rfl (CI rfl rfl (yb rfl (fvm M 9 [4, 3, 2] [(27, .bool ((decide (b.int = (0 : Int))) || ((decide (a.int = (-9223372036854775808 : Int))) && (decide (b.int = (-1 : Int))))))] ?_ (fun k18 => ?_))))))))))
  ·intro w7 M
   refine AC (AA (AN rfl (fun h27 => ?_) (fun h27 => ?_)))
   ·have h27p := ((EJ h27).imp (fun z => (odt z)) (fun z => (And.intro (odt (CF z).1) (odt (CF z).2))))
    exact srg (D1 M 28 rfl rfl call252 (HZ 0 false _) fun w8 M => yb rfl (yb rfl (C1 M 1 rfl rfl AG rfl fun w9 M => yb rfl (nq (AI (AE (B8 rfl rfl (M.rdBlk 1 rfl rfl) underlying45 rfl AG rfl ⟨by rw [QF, if_neg (AS h12), if_pos h27] <;> rfl, M.fr⟩)))))))
   ·have h27p := (And.intro (odf (CL h27).1) ((DM (CL h27).2).imp (fun z => (odf z)) (fun z => (odf z))))
    refine AL (AA (srg (yb rfl (BA M 3 rfl rfl rfl (yb rfl (BA M 2 rfl rfl rfl (ya rfl (o0 rfl rfl rfl (fun hz => by simp [hz] at h27)) (D1 M 36 rfl rfl call252 (HZ ((IntKind.i64).wrap (a.int.tdiv b.int)) true _) fun w10 M => yb rfl (yb rfl (C1 M 1 rfl rfl AG rfl fun w11 M => yb rfl (AC ?_)))))))))))
    exact AA (AI (B8 rfl rfl (M.rdBlk 1 rfl rfl) underlying45 rfl AG rfl ⟨by rw [QF, if_neg (AS h12), if_neg (AS h27)] <;> rfl, M.fr⟩))
  refine AP (d := 18) rfl (fun h18 => ?_) (fun h18 => ?_)
  ·iterate 4 refine yo rfl ?_
   exact BS rfl rfl rfl rfl rfl (BS rfl rfl rfl rfl rfl (BS rfl rfl rfl rfl rfl (yo rfl (yb rfl (k18 M ⟨rfl, rfl, rfl, (by rw [h18]; rfl), trivial⟩)))))
  ·refine gyq rfl (CH M 3 rfl rfl rfl (yd rfl (C3 rfl rfl rfl) (gyq rfl (fvm M 4 [18, 4, 3, 2] [(26, .bool ((decide (a.int = (-9223372036854775808 : Int))) && (decide (b.int = (-1 : Int)))))] ?_ (fun k22 => ?_)))))
   ·intro w12 M
    exact yb rfl (k18 M ⟨rfl, rfl, rfl, (by rw [h18]; rfl), trivial⟩)
   refine AP (d := 22) rfl (fun h22 => ?_) (fun h22 => ?_)
   ·exact gyq rfl (CH M 2 rfl rfl rfl (yd rfl (C3 rfl rfl rfl) (gyq rfl (k22 M ⟨rfl, rfl, rfl, rfl, (by rw [h22]; rfl), trivial⟩))))
   ·exact yo rfl (yo rfl (yo rfl (gyq rfl (k22 M ⟨rfl, rfl, rfl, rfl, (by rw [h22]; rfl), trivial⟩))))
def QD (a b : Vl) : Vl × Int := (if (!decide ((IF [a, b]) = (0 : Int))) = true then ((⟨0, 0, false, []⟩ : Vl), (IF [a, b])) else (if ((decide (b.int = (0 : Int))) || (decide (b.int = (-1 : Int)))) = true then (((KO 0 (!decide (b.int = (0 : Int)))).1), (KO 0 (!decide (b.int = (0 : Int)))).2) else (((KO (a.int.tmod b.int) true).1), (KO (a.int.tmod b.int) true).2)))
theorem kS (a b : Vl) (w : World) (ha : a.text.length ≤ 1048576) (hb : b.text.length ≤ 1048576) (hY : Lay0 w) : Calls prog 241 #[.agg a.cells.toArray, .agg b.cells.toArray] w fun e w' => e = .returned (.tuple #[.agg (Vl.cells (QD a b).1).toArray, .int .i64 (QD a b).2]) ∧ Fr0 w w' := by
 refine C2 func241 ntmps241 rfl fun M => srg (CN M rfl rfl fun g2 w1 hg2 M => CN M rfl rfl fun g3 w2 hg3 M => D6 M rfl BN fun g4 w3 hg4 M => yb rfl (nq (AD (srg (CR M 2 rfl rfl underlying45 AG rfl ?_)))))
 refine CR M 1 rfl rfl underlying45 AG rfl (DA M (AF rfl) rfl rfl [.agg (Vl.cells a).toArray, .agg (Vl.cells b).toArray] ([.int .u8 (a.kind.toNat : Int), .int .i64 a.int, .bool a.bool, str a.text, .int .u8 (b.kind.toNat : Int), .int .i64 b.int, .bool b.bool, str b.text]) rfl rfl rfl rfl underlying306 GS rfl rfl (by intro v hv; simp only [List.mem_cons, List.not_mem_nil, or_false] at hv; rcases hv with rfl | rfl <;> rfl) rfl fun g9 w4 hg9 M => D1 M 10 rfl rfl call251 (IW (some ⟨g9, 0, none⟩) 2 [a, b] _ (by simp) (NM (by first | omega | (simp only [List.length_nil]; omega)) (by first | omega | (simp only [List.length_nil]; omega))) (M.rdBlk 0 rfl rfl) (hY.fr0 M.fr)) fun w5 M => yb rfl (AC (AA (AD (AB (yb rfl (D4 rfl rfl (AC (AA (AN rfl (fun h12 => ?_) (fun h12 => ?_)))))))))))
 ·exact srg (ya rfl (B9 (parts := []) rfl rfl (C4)) (yb rfl (C1 M 1 rfl rfl AG rfl fun w6 M => yb rfl (nq (AI (AE (B8 rfl rfl (M.rdBlk 1 rfl rfl) underlying45 rfl AG rfl ⟨by rw [QD, if_pos h12] <;> rfl, M.fr⟩)))))))
 ·refine AL (AA (AD (AD (AB (yb rfl (BA M 2 rfl rfl rfl (CI rfl rfl (yb rfl (fvm M 4 [4, 3, 2] [(22, .bool ((decide (b.int = (0 : Int))) || (decide (b.int = (-1 : Int)))))] ?_ (fun k18 => ?_))))))))))
  ·intro w7 M
   refine AC (AA (AN rfl (fun h22 => ?_) (fun h22 => ?_)))
   ·have h22p := ((EJ h22).imp (fun z => (odt z)) (fun z => (odt z)))
    refine srg (yb rfl (BA M 2 rfl rfl rfl (D4 rfl rfl (D1 M 26 rfl rfl call252 (HZ 0 (!decide (b.int = (0 : Int))) _) fun w8 M => yb rfl (yb rfl (C1 M 1 rfl rfl AG rfl fun w9 M => yb rfl (nq (AI (AE (B8 rfl rfl (M.rdBlk 1 rfl rfl) underlying45 rfl AG rfl ?_))))))))))
    exact ⟨by rw [QD, if_neg (AS h12), if_pos h22] <;> rfl, M.fr⟩
   ·refine AL (AA (srg (yb rfl (BA M 3 rfl rfl rfl (yb rfl (BA M 2 rfl rfl rfl (ya rfl (nZ rfl rfl rfl (fun hz => by simp [hz] at h22)) (D1 M 34 rfl rfl call252 (HZ (a.int.tmod b.int) true _) fun w10 M => yb rfl (yb rfl (C1 M 1 rfl rfl AG rfl fun w11 M => yb rfl (AC ?_)))))))))))
    exact AA (AI (B8 rfl rfl (M.rdBlk 1 rfl rfl) underlying45 rfl AG rfl ⟨by rw [QD, if_neg (AS h12), if_neg (AS h22)] <;> rfl, M.fr⟩))
  refine AP (d := 18) rfl (fun h18 => ?_) (fun h18 => ?_)
  ·exact yo rfl (yo rfl (yo rfl (yb rfl (k18 M ⟨rfl, rfl, rfl, (by rw [h18]; rfl), trivial⟩))))
  ·exact gyq rfl (CH M 2 rfl rfl rfl (yd rfl (C3 rfl rfl rfl) (yb rfl (k18 M ⟨rfl, rfl, rfl, (by rw [h18]; rfl), trivial⟩))))
theorem kQ (a : Vl) (w : World) (ha : a.text.length ≤ 1048576) (hY : Lay0 w) : Calls prog 242 #[.agg a.cells.toArray] w fun e w' => e = .returned (.tuple #[.agg (Vl.cells (KR ⟨1, 0, false, []⟩ a).1).toArray, .int .i64 (KR ⟨1, 0, false, []⟩ a).2]) ∧ Fr0 w w' := by
 refine C2 func242 ntmps242 rfl fun M => srg (CN M rfl rfl fun g1 w1 hg1 M => D6 M rfl BN fun g2 w2 hg2 M => yb rfl (nq (AD (CO 5 (fun w' => Mem w AV [As.blk g2 45 [.int .u8 0, .int .i64 0, .bool false, str []], As.blk g1 45 (Vl.cells a)] w') CU ?_))))
 have M := M.drew
 refine oa 1 5 rfl rfl M (fun _ M => AT (xs := Vl.cells a) rfl rfl (M.rdBlk 1 rfl rfl) underlying45 rfl AG) (C0 0 (some 4) gkr rfl (AF rfl) rfl rfl (AQ rfl rfl call120) (OO 0 _) ?_)
 rintro _ w3 ⟨rfl, hfw3⟩
 refine ⟨_, rfl, fun _ => M.step hfw3, ?_⟩
 have M := M.step hfw3
 refine C0 2 (some 6) gkr rfl (AF rfl) rfl rfl (AQ rfl rfl call238) (YG (⟨1, 0, false, []⟩ : Vl) a _ (by first | omega | (simp only [List.length_nil]; omega)) (by first | omega | (simp only [List.length_nil]; omega)) (hY.fr0 M.fr)) ?_
 rintro _ w4 ⟨rfl, hfw4⟩
 refine ⟨_, rfl, fun _ => M.step hfw4, ?_⟩
 have M := M.step hfw4
 refine oc 3 5 rfl rfl M (oc 4 5 rfl rfl M (B7 5 none gkr rfl (AF rfl) rfl rfl (fun ρ hρ => BZ 45 _ _ rfl g2 0 45 _ (Vl.cells ((KR (⟨1, 0, false, []⟩ : Vl) a).1)) (hρ _ _ rfl) (hρ _ _ rfl) (M.blk 0 rfl) AG (BO rfl) (BL rfl)) ?_))
 rintro _ w5 ⟨rfl, hbw5, hfw5⟩
 replace M : Mem w AV (List.set _ 0 (As.blk g2 45 (Vl.cells ((KR (⟨1, 0, false, []⟩ : Vl) a).1)))) w5 := M.putB 0 rfl hbw5 hfw5
 exact ⟨fun h => absurd h BR, fo1 6 rfl rfl (yp rfl) (fdn (AA (AI (B8 rfl rfl (M.rdBlk 0 rfl rfl) underlying45 rfl AG rfl ⟨rfl, M.fr⟩))))⟩
end Go.Proofs.YtjaocmocdhckaaaGreatDoor
