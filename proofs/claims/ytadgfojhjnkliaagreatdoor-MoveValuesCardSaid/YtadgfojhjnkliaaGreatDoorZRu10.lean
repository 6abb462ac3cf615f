/- The rules of the program, all: printed by gw/ru10.py. Conditions: as Ex3's. -/
import Derived.Test.YtadgfojhjnkliaaGreatDoorZRu8
import Derived.Test.YtadgfojhjnkliaaGreatDoorZRu9
set_option maxHeartbeats 16000000
set_option maxRecDepth 100000
namespace Go.Proofs.YtadgfojhjnkliaaGreatDoor
open Go.RowKit
def uA : List Value := [.func (.func 31) #[] #[], .func (.func 32) #[] #[], .func (.func 33) #[] #[], .func (.func 34) #[] #[], .func (.func 35) #[] #[], .func (.func 36) #[] #[], .func (.func 37) #[] #[], .func (.func 38) #[] #[], .func (.func 39) #[] #[]]
def oS (m : Md) : List (Option (List UInt8)) := [HP m, ffE (cF m) m.els, ffF (PT m) m.fls, ffE (L5 m) m.els, jS m, cN m, ffE (JI m) m.els, ffE (RC m) m.els, ffE (dE m) m.els]
theorem sC (m : Md) (a : MdA) (ix : IxA) (gx : Nat) (ho : MdOk m) : ∀ i, i < 9 → ∃ fd b, uA[i]? = some (.func (.func fd) #[] #[]) ∧ (oS m)[i]? = some b ∧ (∀ (ar : Array Value) (w : World), (callFunc fd ar).run Tryz.prog w = .ok (.enter fd ar) w) ∧
 ∀ W, IxAt W m a ix gx → Lay0 W → Calls Tryz.prog fd #[.pointer (some ⟨gx, 0, none⟩)] W fun e w' => e = .returned (.tuple #[str (b.getD []), .bool b.isSome]) ∧ Fr0 W w' := by
 intro i hi
 match i, hi with
 | 0, _ => exact ⟨_, _, rfl, rfl, Tryz.call31, fun W hx hY => nB m a ix gx W ho hx hY⟩
 | 1, _ => exact ⟨_, _, rfl, rfl, Tryz.call32, fun W hx _ => mD m a ix gx W ho hx⟩
 | 2, _ => exact ⟨_, _, rfl, rfl, Tryz.call33, fun W hx _ => cI m a ix gx W ho hx⟩
 | 3, _ => exact ⟨_, _, rfl, rfl, Tryz.call34, fun W hx _ => jN m a ix gx W ho hx⟩
 | 4, _ => exact ⟨_, _, rfl, rfl, Tryz.call35, fun W hx _ => jR m a ix gx W ho hx⟩
 | 5, _ => exact ⟨_, _, rfl, rfl, Tryz.call36, fun W hx hY => mR m a ix gx W ho hx hY⟩
 | 6, _ => exact ⟨_, _, rfl, rfl, Tryz.call37, fun W hx _ => cP m a ix gx W ho hx⟩
 | 7, _ => exact ⟨_, _, rfl, rfl, Tryz.call38, fun W hx _ => eJ m a ix gx W ho hx⟩
 | 8, _ => exact ⟨_, _, rfl, rfl, Tryz.call39, fun W hx _ => iO m a ix gx W ho hx⟩
 | i + 9, hi => omega
def IC : Nat → List (Option (List UInt8)) → Nat × List UInt8 × Int
 | _, [] => (0, [], 0)
 | i, some k :: _ => (i + 1, k, 140)
 | i, none :: r => IC (i + 1) r
theorem S9 {i : Nat} {b : Option (List UInt8)} {r : List (Option (List UInt8))} (h : b.isSome = false) : IC i (b :: r) = IC (i + 1) r := by
 cases b with
 | none => rfl
 | some k => cases h
theorem S8 {i : Nat} {b : Option (List UInt8)} {r : List (Option (List UInt8))} (h : b.isSome = true) : IC i (b :: r) = (i + 1, b.getD [], 140) := by
 cases b with
 | none => cases h
 | some k => rfl
def MF (m : Md) : Nat × List UInt8 × Int := IC 0 (oS m)
theorem NS : (Tryz.prog.info? 91).map (fun i => (i.zero, i.size)) = some (some (.nilFunc), 1) := by kernel_rfl
theorem TX (m : Md) (a : MdA) (w : World) (ho : MdOk m) (hM : MdIn w m a) (hY : Lay0 w) :
 Calls Tryz.prog 12 #[.agg (Md.cells m a).toArray] w fun e w' => e = .returned (.tuple #[.int .i64 (((MF m).1 : Nat) : Int), str (MF m).2.1, .int .i64 (MF m).2.2]) ∧ Fr0 w w' := by
 refine AL (vs := [_]) Tryz.func12 rfl Tryz.ntmps12 rfl ?_
 have M := CM w
 refine A9 (A0 (BG M (A4 rfl) rfl rfl 26 rfl rfl (Md.cells m a) rfl fun g1 w1 hg1 M => yb rfl (yb rfl (yb rfl (A1 (A2 (A9 (A0 (ya rfl (AO (xs := Md.cells m a) rfl rfl (M.rdBlk 0 rfl rfl) Tryz.underlying26 rfl BO) (AC (some 11) (A4 rfl) rfl rfl (AG rfl rfl Tryz.call30) (R0 m a _ ho (hM.fr0 M.fr)) ?_))))))))))
 rintro _ w2 ⟨ix, gx, FX, rfl, hix, hnx, hfw2⟩
 refine ⟨_, rfl, ?_⟩
 have M := M.push hfw2 (As.ixp m a ix gx FX) hix hnx
 refine yb rfl (A1 (A2 (A9 (A9 (A0 (F1 M (A4 rfl) rfl rfl [.func (.func 31) #[] #[], .func (.func 32) #[] #[], .func (.func 33) #[] #[], .func (.func 34) #[] #[], .func (.func 35) #[] #[], .func (.func 36) #[] #[], .func (.func 37) #[] #[], .func (.func 38) #[] #[], .func (.func 39) #[] #[]] ([.func (.func 31) #[] #[], .func (.func 32) #[] #[], .func (.func 33) #[] #[], .func (.func 34) #[] #[], .func (.func 35) #[] #[], .func (.func 36) #[] #[], .func (.func 37) #[] #[], .func (.func 38) #[] #[], .func (.func 39) #[] #[]]) rfl rfl rfl rfl Tryz.underlying90 NS rfl rfl (by intro v hv; simp only [List.mem_cons, List.not_mem_nil, or_false] at hv; rcases hv with rfl | rfl | rfl | rfl | rfl | rfl | rfl | rfl | rfl <;> rfl) rfl fun g12 w3 hg12 M => ya rfl (CY rfl rfl (sl rfl)) (yb rfl (A1 (A2 (AZ (CO (fun e wr mz => ∃ (i : Nat), e = [(5, .pointer (some ⟨gx, 0, none⟩)), (12, .slice (some ⟨g12, 0, none⟩) 9 9), (13, .int .i64 9), (14, .int .i64 ((i : Nat) : Int))] ∧ Mem w AB [As.blk g12 91 [.func (.func 31) #[] #[], .func (.func 32) #[] #[], .func (.func 33) #[] #[], .func (.func 34) #[] #[], .func (.func 35) #[] #[], .func (.func 36) #[] #[], .func (.func 37) #[] #[], .func (.func 38) #[] #[], .func (.func 39) #[] #[]], As.ixp m a ix gx FX, As.blk g1 26 (Md.cells m a)] wr ∧ (i ≤ 9) ∧ (IC 0 (oS m) = IC i ((oS m).drop i)) ∧ mz = 9 - i) ⟨0, rfl, M, Nat.zero_le _, rfl, rfl⟩ ⟨rfl, rfl, rfl, rfl, trivial⟩ ?_)))))))))))
 rintro _ w4 _ ⟨i, rfl, M, hi, hE, rfl⟩
 refine A9 (A0 (ya rfl (CJ rfl rfl rfl) (A1 (A2 (A9 (AR (b := (decide (((i : Nat) : Int) < (9 : Int)))) rfl (fun h15 => ?_) (fun h15 => ?_)))))))
 ·have h15p := (of_decide_eq_true h15)
  have hil : i < 9 := by omega
  refine AM (A2 (A9 (AZ (A9 (A0 (yb rfl ?_))))))
  obtain ⟨fd, b, hfd, hbk, hen, hcl⟩ := sC m a ix gx ho i hil
  refine ya rfl (V6 (j := i) rfl rfl rfl (sl rfl) (by omega)) (yl rfl rfl (Blk.c (M.blk 0 rfl) (0 + i * 1) (by rw [Nat.zero_add, Nat.mul_one]; exact hfd)) (yb rfl (yb rfl (A1 (A2 (A9 (A0 (yb rfl (yb rfl (AC (some 22) (A4 rfl) rfl rfl (C3 rfl rfl rfl hen) (hcl _ (IxN.at (M.ok 1 _ rfl) (hM.fr0 M.fr)) (hY.fr0 M.fr)) ?_))))))))))
  rintro _ w5 ⟨rfl, hfw5⟩
  refine ⟨_, rfl, ?_⟩
  have M := M.step hfw5
  iterate 5 refine yb rfl ?_
  refine A1 (A2 (A9 (A0 (yb rfl (A1 (A2 (AR (b := b.isSome) rfl (fun h25 => ?_) (fun h25 => ?_))))))))
  ·refine A9 (A0 (yb rfl (ya rfl (CQ rfl rfl rfl (by omega)) ?_)))
   iterate 4 refine yb rfl ?_
   exact A1 (A2 (AE (AK (AA (AA (AK (AA (ZR rfl rfl rfl rfl ⟨by rw [MF, hE, BJ hbk, S8 h25] <;> rfl, M.fr⟩))))))))
  ·refine AM (AD (A2 (A0 (ya rfl (CQ rfl rfl rfl (by omega)) (yb rfl (A1 (BP [(5, .pointer (some ⟨gx, 0, none⟩)), (12, .slice (some ⟨g12, 0, none⟩) 9 9), (13, .int .i64 9), (14, .int .i64 (((i + 1) : Nat) : Int))] (9 - (i + 1)) ⟨i + 1, rfl, M, ?_, ?_, rfl⟩ (by first | omega | (simp only [List.length_append, List.length_cons, List.length_nil]; omega)) ⟨rfl, rfl, rfl, rfl, trivial⟩)))))))
   ·omega
   ·rw [hE, BJ hbk, S9 h25]
 ·have h15p := (of_decide_eq_false h15)
  refine CF (AJ (AJ ?_))
  obtain rfl : i = 9 := by omega
  exact BE (A2 (A9 (A0 (yb rfl (yb rfl (yb rfl (A1 (A2 (AE (ZR rfl rfl rfl rfl ⟨by rw [MF, hE]; rfl, M.fr⟩))))))))))
end Go.Proofs.YtadgfojhjnkliaaGreatDoor
