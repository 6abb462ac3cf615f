/- Lemmas that the last text rests on. Condition: each says its own. -/
import Derived.Test.YtadgfojhjnkliaaGreatDoorZRu8
import Derived.Test.YtadgfojhjnkliaaGreatDoorZRu9
set_option maxHeartbeats 16000000
set_option maxRecDepth 100000
namespace Go.Proofs.YtadgfojhjnkliaaGreatDoor
open Go.RowKit
open Tryz
def uB : List Value := [.func (.func 31) #[] #[], .func (.func 32) #[] #[], .func (.func 33) #[] #[], .func (.func 34) #[] #[], .func (.func 35) #[] #[], .func (.func 36) #[] #[], .func (.func 37) #[] #[], .func (.func 38) #[] #[], .func (.func 39) #[] #[]]
def oT (m : Md) : List (Option (List UInt8)) := [HQ m, ffE (cH m) m.els, ffF (PW m) m.fls, ffE (L6 m) m.els, jT m, cP m, ffE (JI m) m.els, ffE (RF m) m.els, ffE (dG m) m.els]
theorem sD (m : Md) (a : MdA) (ix : IxA) (gx : Nat) (ho : MdOk m) : ∀ i, i < 9 → ∃ fd b, uB[i]? = some (.func (.func fd) #[] #[]) ∧ (oT m)[i]? = some b ∧ (∀ (ar : Array Value) (w : World), (callFunc fd ar).run prog w = .ok (.enter fd ar) w) ∧
 ∀ W, IxAt W m a ix gx → Lay0 W → Calls prog fd #[pg gx] W fun e w' => e = .returned (.tuple #[str (b.getD []), .bool b.isSome]) ∧ Fr0 W w' := by
 intro i hi
 match i, hi with
 | 0, _ => exact ⟨_, _, rfl, rfl, call31, fun W hx hY => nC m a ix gx W ho hx hY⟩
 | 1, _ => exact ⟨_, _, rfl, rfl, call32, fun W hx _ => mE m a ix gx W ho hx⟩
 | 2, _ => exact ⟨_, _, rfl, rfl, call33, fun W hx _ => cK m a ix gx W ho hx⟩
 | 3, _ => exact ⟨_, _, rfl, rfl, call34, fun W hx _ => jO m a ix gx W ho hx⟩
 | 4, _ => exact ⟨_, _, rfl, rfl, call35, fun W hx _ => jS m a ix gx W ho hx⟩
 | 5, _ => exact ⟨_, _, rfl, rfl, call36, fun W hx hY => mS m a ix gx W ho hx hY⟩
 | 6, _ => exact ⟨_, _, rfl, rfl, call37, fun W hx _ => cR m a ix gx W ho hx⟩
 | 7, _ => exact ⟨_, _, rfl, rfl, call38, fun W hx _ => eL m a ix gx W ho hx⟩
 | 8, _ => exact ⟨_, _, rfl, rfl, call39, fun W hx _ => iP m a ix gx W ho hx⟩
 | i + 9, hi => omega
def ID : Nat → List (Option (List UInt8)) → Nat × List UInt8 × Int
 | _, [] => (0, [], 0)
 | i, some k :: _ => (i + 1, k, 140)
 | i, none :: r => ID (i + 1) r
theorem SB {i : Nat} {b : Option (List UInt8)} {r : List (Option (List UInt8))} (h : b.isSome = false) : ID i (b :: r) = ID (i + 1) r := by
 cases b with
 | none => rfl
 | some k => cases h
theorem SA {i : Nat} {b : Option (List UInt8)} {r : List (Option (List UInt8))} (h : b.isSome = true) : ID i (b :: r) = (i + 1, b.getD [], 140) := by
 cases b with
 | none => cases h
 | some k => rfl
def MG (m : Md) : Nat × List UInt8 × Int := ID 0 (oT m)
theorem NV : (prog.info? 91).map (fun i => (i.zero, i.size)) = some (some (.nilFunc), 1) := by kernel_rfl
theorem TZ (m : Md) (a : MdA) (w : World) (ho : MdOk m) (hM : MdIn w m a) (hY : Lay0 w) :
 Calls prog 12 #[.agg (Md.cells m a).toArray] w fun e w' => e = .returned (.tuple #[.int .i64 (((MG m).1 : Nat) : Int), str (MG m).2.1, .int .i64 (MG m).2.2]) ∧ Fr0 w w' := by
 refine AK (vs := [_]) func12 rfl ntmps12 rfl ?_
 have M := CK w
 refine A4 (A0 (BD M (A9 rfl) rfl rfl 26 rfl rfl (Md.cells m a) rfl fun g1 w1 hg1 M => yb rfl (yb rfl (yb rfl (A1 (A2 (A4 (A0 (ya rfl (AN (xs := Md.cells m a) rfl rfl (M.rdBlk 0 rfl rfl) underlying26 rfl BL) (cl 11 rfl (AF rfl rfl call30) (R2 m a _ ho (hM.fr0 M.fr)) ?_))))))))))
 rintro _ w2 ⟨ix, gx, FX, rfl, hix, hnx, hfw2⟩
 refine ⟨_, rfl, ?_⟩
 have M := M.push hfw2 (As.ixp m a ix gx FX) hix hnx
 refine yb rfl (A1 (A2 (A4 (A4 (A0 (F1 M (A9 rfl) rfl rfl [.func (.func 31) #[] #[], .func (.func 32) #[] #[], .func (.func 33) #[] #[], .func (.func 34) #[] #[], .func (.func 35) #[] #[], .func (.func 36) #[] #[], .func (.func 37) #[] #[], .func (.func 38) #[] #[], .func (.func 39) #[] #[]] ([.func (.func 31) #[] #[], .func (.func 32) #[] #[], .func (.func 33) #[] #[], .func (.func 34) #[] #[], .func (.func 35) #[] #[], .func (.func 36) #[] #[], .func (.func 37) #[] #[], .func (.func 38) #[] #[], .func (.func 39) #[] #[]]) rfl rfl rfl rfl underlying90 NV rfl rfl (by intro v hv; simp only [List.mem_cons, List.not_mem_nil, or_false] at hv; rcases hv with rfl | rfl | rfl | rfl | rfl | rfl | rfl | rfl | rfl <;> rfl) rfl fun g12 w3 hg12 M => ya rfl (CY rfl rfl (sl rfl)) (yb rfl (A1 (A2 (AV (CM (fun e wr mz => ∃ (i : Nat), e = [(5, pg gx), (12, .slice (some ⟨g12, 0, none⟩) 9 9), (13, .int .i64 9), (14, .int .i64 ((i : Nat) : Int))] ∧ Mem w AB [As.blk g12 91 [.func (.func 31) #[] #[], .func (.func 32) #[] #[], .func (.func 33) #[] #[], .func (.func 34) #[] #[], .func (.func 35) #[] #[], .func (.func 36) #[] #[], .func (.func 37) #[] #[], .func (.func 38) #[] #[], .func (.func 39) #[] #[]], As.ixp m a ix gx FX, As.blk g1 26 (Md.cells m a)] wr ∧ (i ≤ 9) ∧ (ID 0 (oT m) = ID i ((oT m).drop i)) ∧ mz = 9 - i) ⟨0, rfl, M, Nat.zero_le _, rfl, rfl⟩ ⟨rfl, rfl, rfl, rfl, trivial⟩ ?_)))))))))))
 rintro _ w4 _ ⟨i, rfl, M, hi, hE, rfl⟩
 refine A4 (A0 (ya rfl (CH rfl rfl rfl) (A1 (A2 (A4 (AQ (b := (decide (((i : Nat) : Int) < (9 : Int)))) rfl (fun h15 => ?_) (fun h15 => ?_)))))))
 ·have h15p := (odt h15)
  have hil : i < 9 := by omega
  refine AL (A2 (A4 (AV (A4 (A0 (yb rfl ?_))))))
  obtain ⟨fd, b, hfd, hbk, hen, hcl⟩ := sD m a ix gx ho i hil
  refine ya rfl (V8 (j := i) rfl rfl rfl (sl rfl) (by omega)) (yl rfl rfl (Blk.c (M.blk 0 rfl) (0 + i * 1) (by rw [Nat.zero_add, Nat.mul_one]; exact hfd)) (yb rfl (yb rfl (A1 (A2 (A4 (A0 (yb rfl (yb rfl (cp M 22 rfl (C0 rfl rfl rfl hen) (hcl _ (IxN.at (M.ok 1 _ rfl) (hM.fr0 M.fr)) (hY.fr0 M.fr)) fun w5 M => ?_))))))))))
  iterate 5 refine yb rfl ?_
  refine A1 (A2 (A4 (A0 (yb rfl (A1 (A2 (AQ (b := b.isSome) rfl (fun h25 => ?_) (fun h25 => ?_))))))))
  ·refine A4 (A0 (yb rfl (ya rfl (CQ rfl rfl rfl (by omega)) ?_)))
   iterate 4 refine yb rfl ?_
   exact A1 (A2 (AD (AJ (AA (AA (AJ (AA (ZT rfl rfl rfl rfl ⟨by rw [MG, hE, BG hbk, SA h25] <;> rfl, M.fr⟩))))))))
  ·refine AL (AC (A2 (A0 (ya rfl (CQ rfl rfl rfl (by omega)) (yb rfl (A1 (BM [(5, pg gx), (12, .slice (some ⟨g12, 0, none⟩) 9 9), (13, .int .i64 9), (14, .int .i64 (((i + 1) : Nat) : Int))] (9 - (i + 1)) ⟨i + 1, rfl, M, ?_, ?_, rfl⟩ (by first | omega | (simp <;> omega)) ⟨rfl, rfl, rfl, rfl, trivial⟩)))))))
   ·omega
   ·rw [hE, BG hbk, SB h25]
 ·have h15p := (odf h15)
  refine CD (AI (AI ?_))
  obtain rfl : i = 9 := by omega
  exact BB (A2 (A4 (A0 (yb rfl (yb rfl (yb rfl (A1 (A2 (AD (ZT rfl rfl rfl rfl ⟨by rw [MG, hE]; rfl, M.fr⟩))))))))))
end Go.Proofs.YtadgfojhjnkliaaGreatDoor
