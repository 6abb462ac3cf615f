/- Lemmas that the last text rests on. Condition: each says its own. -/
import Derived.Test.YtdaihdknnlphkaaGreatDoorZRu8
import Derived.Test.YtdaihdknnlphkaaGreatDoorZRu9
set_option maxHeartbeats 16000000
set_option maxRecDepth 100000
namespace Go.Proofs.YtdaihdknnlphkaaGreatDoor
open Go.RowKit
open Tryz
def zD : List Value := [.func (.func 23) #[] #[], .func (.func 24) #[] #[], .func (.func 25) #[] #[], .func (.func 26) #[] #[], .func (.func 27) #[] #[], .func (.func 28) #[] #[], .func (.func 29) #[] #[], .func (.func 30) #[] #[], .func (.func 31) #[] #[]]
def X4 (m : Md) : List (Option (List UInt8)) := [EU m, ffE (R9 m) m.els, ffF (KV m) m.fls, ffE (JX m) m.els, V3 m, aH m, ffE (HU m) m.els, ffE (N6 m) m.els, ffE (W8 m) m.els]
theorem x7 (m : Md) (a : MdA) (ix : IxA) (gx : Nat) (ho : MdOk m) : ∀ i, i < 9 → ∃ fd b, zD[i]? = some (.func (.func fd) #[] #[]) ∧ (X4 m)[i]? = some b ∧ (∀ (ar : Array Value) (w : World), (callFunc fd ar).run prog w = .ok (.enter fd ar) w) ∧
 ∀ W, IxAt W m a ix gx → Lay0 W → Calls prog fd #[pg gx] W fun e w' => e = .returned (.tuple #[str (b.getD []), .bool b.isSome]) ∧ Fr0 W w' := by
 intro i hi
 match i, hi with
 | 0, _ => exact ⟨_, _, rfl, rfl, call23, fun W hx hY => rM m a ix gx W ho hx hY⟩
 | 1, _ => exact ⟨_, _, rfl, rfl, call24, fun W hx _ => qG m a ix gx W ho hx⟩
 | 2, _ => exact ⟨_, _, rfl, rfl, call25, fun W hx _ => fZ m a ix gx W ho hx⟩
 | 3, _ => exact ⟨_, _, rfl, rfl, call26, fun W hx _ => o0 m a ix gx W ho hx⟩
 | 4, _ => exact ⟨_, _, rfl, rfl, call27, fun W hx _ => o4 m a ix gx W ho hx⟩
 | 5, _ => exact ⟨_, _, rfl, rfl, call28, fun W hx hY => qW m a ix gx W ho hx hY⟩
 | 6, _ => exact ⟨_, _, rfl, rfl, call29, fun W hx _ => gM m a ix gx W ho hx⟩
 | 7, _ => exact ⟨_, _, rfl, rfl, call30, fun W hx _ => jH m a ix gx W ho hx⟩
 | 8, _ => exact ⟨_, _, rfl, rfl, call31, fun W hx _ => mN m a ix gx W ho hx⟩
 | i + 9, hi => omega
def F8 : Nat → List (Option (List UInt8)) → Nat × List UInt8 × Int
 | _, [] => (0, [], 0)
 | i, some k :: _ => (i + 1, k, 140)
 | i, none :: r => F8 (i + 1) r
theorem U1 {i : Nat} {b : Option (List UInt8)} {r : List (Option (List UInt8))} (h : b.isSome = false) : F8 i (b :: r) = F8 (i + 1) r := by
 cases b with
 | none => rfl
 | some k => cases h
theorem U0 {i : Nat} {b : Option (List UInt8)} {r : List (Option (List UInt8))} (h : b.isSome = true) : F8 i (b :: r) = (i + 1, b.getD [], 140) := by
 cases b with
 | none => cases h
 | some k => rfl
def EA (m : Md) : Nat × List UInt8 × Int := F8 0 (X4 m)
theorem P4 : (prog.info? 71).map (fun i => (i.zero, i.size)) = some (some (.nilFunc), 1) := by kernel_rfl
theorem VY (m : Md) (a : MdA) (w : World) (ho : MdOk m) (hM : MdIn w m a) (hY : Lay0 w) :
 Calls prog 13 #[.agg (Md.cells m a).toArray] w fun e w' => e = .returned (.tuple #[.int .i64 (((EA m).1 : Nat) : Int), str (EA m).2.1, .int .i64 (EA m).2.2]) ∧ Fr0 w w' := by
 refine AJ (vs := [_]) func13 rfl ntmps13 rfl ?_
 have M := CN w
 refine A9 (A0 (B4 M (AA rfl) rfl rfl 26 rfl rfl (Md.cells m a) rfl fun g1 w1 hg1 M => yb rfl (yb rfl (yb rfl (A4 (A5 (A9 (A0 (ya rfl (AU (xs := Md.cells m a) rfl rfl (M.rdBlk 0 rfl rfl) underlying26 rfl BC) (cl 11 rfl (AE rfl rfl call22) (SN m a _ ho (hM.fr0 M.fr)) ?_))))))))))
 rintro _ w2 ⟨ix, gx, FX, rfl, hix, hnx, hfw2⟩
 refine ⟨_, rfl, ?_⟩
 have M := M.push hfw2 (As.ixp m a ix gx FX) hix hnx
 refine yb rfl (A4 (A5 (A9 (A9 (A0 (DC M (AA rfl) rfl rfl [.func (.func 23) #[] #[], .func (.func 24) #[] #[], .func (.func 25) #[] #[], .func (.func 26) #[] #[], .func (.func 27) #[] #[], .func (.func 28) #[] #[], .func (.func 29) #[] #[], .func (.func 30) #[] #[], .func (.func 31) #[] #[]] ([.func (.func 23) #[] #[], .func (.func 24) #[] #[], .func (.func 25) #[] #[], .func (.func 26) #[] #[], .func (.func 27) #[] #[], .func (.func 28) #[] #[], .func (.func 29) #[] #[], .func (.func 30) #[] #[], .func (.func 31) #[] #[]]) rfl rfl rfl rfl underlying70 P4 rfl rfl (by intro v hv; simp only [List.mem_cons, List.not_mem_nil, or_false] at hv; rcases hv with rfl | rfl | rfl | rfl | rfl | rfl | rfl | rfl | rfl <;> rfl) rfl fun g12 w3 hg12 M => ya rfl (CS rfl rfl (sl rfl)) (yb rfl (A4 (A5 (AV (CL (fun e wr mz => ∃ (i : Nat), e = [(5, pg gx), (12, .slice (some ⟨g12, 0, none⟩) 9 9), (13, .int .i64 9), (14, .int .i64 ((i : Nat) : Int))] ∧ Mem w AD [As.blk g12 71 [.func (.func 23) #[] #[], .func (.func 24) #[] #[], .func (.func 25) #[] #[], .func (.func 26) #[] #[], .func (.func 27) #[] #[], .func (.func 28) #[] #[], .func (.func 29) #[] #[], .func (.func 30) #[] #[], .func (.func 31) #[] #[]], As.ixp m a ix gx FX, As.blk g1 26 (Md.cells m a)] wr ∧ (i ≤ 9) ∧ (F8 0 (X4 m) = F8 i ((X4 m).drop i)) ∧ mz = 9 - i) ⟨0, rfl, M, Nat.zero_le _, rfl, rfl⟩ ⟨rfl, rfl, rfl, rfl, trivial⟩ ?_)))))))))))
 rintro _ w4 _ ⟨i, rfl, M, hi, hE, rfl⟩
 refine A9 (A0 (ya rfl (CB rfl rfl rfl) (A4 (A5 (A9 (AT (b := (decide (((i : Nat) : Int) < (9 : Int)))) rfl (fun h15 => ?_) (fun h15 => ?_)))))))
 ·have h15p := (odt h15)
  have hil : i < 9 := by omega
  refine AN (A5 (A9 (AV (A9 (A0 (yb rfl ?_))))))
  obtain ⟨fd, b, hfd, hbk, hen, hcl⟩ := x7 m a ix gx ho i hil
  refine ya rfl (XC (j := i) rfl rfl rfl (sl rfl) (by omega)) (yl rfl rfl (Blk.c (M.blk 0 rfl) (0 + i * 1) (by rw [Nat.zero_add, Nat.mul_one]; exact hfd)) (yb rfl (yb rfl (A4 (A5 (A9 (A0 (yb rfl (yb rfl (cp M 22 rfl (BK rfl rfl rfl hen) (hcl _ (IxN.at (M.ok 1 _ rfl) (hM.fr0 M.fr)) (hY.fr0 M.fr)) fun w5 M => ?_))))))))))
  iterate 5 refine yb rfl ?_
  refine A4 (A5 (A9 (A0 (yb rfl (A4 (A5 (AT (b := b.isSome) rfl (fun h25 => ?_) (fun h25 => ?_))))))))
  ·refine A9 (A0 (yb rfl (ya rfl (CI rfl rfl rfl (by omega)) ?_)))
   iterate 4 refine yb rfl ?_
   exact A4 (A5 (AF (AL (AB (AB (AL (AB (dI rfl rfl rfl rfl ⟨by rw [EA, hE, BH hbk, U0 h25] <;> rfl, M.fr⟩))))))))
  ·refine AN (AC (A5 (A0 (ya rfl (CI rfl rfl rfl (by omega)) (yb rfl (A4 (BF [(5, pg gx), (12, .slice (some ⟨g12, 0, none⟩) 9 9), (13, .int .i64 9), (14, .int .i64 (((i + 1) : Nat) : Int))] (9 - (i + 1)) ⟨i + 1, rfl, M, ?_, ?_, rfl⟩ (by first | omega | (simp <;> omega)) ⟨rfl, rfl, rfl, rfl, trivial⟩)))))))
   ·omega
   ·rw [hE, BH hbk, U1 h25]
 ·have h15p := (odf h15)
  refine C2 (AG (AG ?_))
  obtain rfl : i = 9 := by omega
  exact B5 (A5 (A9 (A0 (yb rfl (yb rfl (yb rfl (A4 (A5 (AF (dI rfl rfl rfl rfl ⟨by rw [EA, hE]; rfl, M.fr⟩))))))))))
end Go.Proofs.YtdaihdknnlphkaaGreatDoor
