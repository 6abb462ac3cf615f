/- Lemmas that the last text rests on. Condition: each says its own. -/
import Derived.Test.YtdaihdknnlphkaaGreatDoorZEx9
set_option maxHeartbeats 16000000
set_option maxRecDepth 100000
namespace Go.Proofs.YtdaihdknnlphkaaGreatDoor
open Go.RowKit
open Tryz
def VS : List (UInt8 × Int) → Option Int
 | [] => none
 | q :: r => if (!decide (q.2 = 0)) = true then some q.2 else VS r
def tyT (n : Xn) (vars : List Bd) (ts : List (UInt8 × Int)) : UInt8 × Int :=
 if (decide ((n.op.toNat : Int) = (1 : Int))) = true then (n.vl.kind, 0)
 else if (decide ((n.op.toNat : Int) = (2 : Int))) = true then (match ffN (fun (_ : Nat) (b : Bd) => !(decide (b.name = n.nm))) 0 vars with
  | none => (0, 100)
  | some b => (b.v.kind, 0))
 else match VS ts with
  | some e => (0, e)
  | none => PU n.op (ts.map (·.1))
theorem cW (f : Xq → UInt8 × Int) : ∀ L : List Xq, NG f L = VS (L.map f)
 | [] => rfl
 | q :: r => by rw [NG, List.map_cons, VS, cW f r]
theorem xJ (n : Xn) (vars : List Bd) (f : Xq → UInt8 × Int) (L : List Xq) : tyW n vars f L = tyT n vars (L.map f) := by
 unfold tyW tyT
 rw [cW, List.map_map]
 rfl
def tyX (vars : List Bd) : Xn → UInt8 × Int
 | .un o a => tyT (.un o a) vars [tyX vars a]
 | .bin o a b => tyT (.bin o a b) vars [tyX vars a, tyX vars b]
 | .zero => tyT .zero vars []
 | .lit v => tyT (.lit v) vars []
 | .var s => tyT (.var s) vars []
theorem v6 (vars : List Bd) (n : Xn) : tyX vars n = tyT n vars (n.kids.map (tyX vars)) := by cases n <;> simp [tyX, Xn.kids]
def KU (n : Xn) (vars : List Bd) : UInt8 × Int := if chkX n = true then tyX vars n else (0, 1)
theorem tJ {n : Xn} {k : Bool} (h : IS n k = true) : ((n.nk : Nat) : Int) = MK n.op := by
 unfold IS at h
 by_cases h1 : (!decide (((n.nk : Nat) : Int) = (MK n.op))) = true
 ·rw [if_pos h1] at h; cases h
 ·simpa using h1
theorem wX {n : Xn} {k : Bool} (h : IS n k = true) : k = false := by
 cases k with
 | false => rfl
 | true =>
  exfalso
  unfold IS at h
  revert h
  repeat' split
  all_goals simp
theorem p4 {n a : Xn} (h : chkX n = true) (ha : a ∈ n.kids) : chkX a = true := by
 rw [X0] at h
 have h1 := wX h
 rw [List.any_eq_false] at h1
 simpa using h1 a ha
theorem tI {n : Xn} (h : chkX n = true) (h1 : ¬ (n.op.toNat : Int) = 1) (h2 : ¬ (n.op.toNat : Int) = 2) : 0 < n.nk := by
 rw [X0] at h
 have h3 := tJ h
 unfold MK at h3
 split at h3
 ·omega
 ·rename_i h4
  have h5 := odf (CE (Bool.eq_false_iff.2 h4)).1
  split at h3
  ·rename_i h6
   have := odt h6
   omega
  ·split at h3 <;> omega
theorem fW (vars : List Bd) (hvl : vars.length ≤ 4611686018427387904) : ∀ (n : Xn) (A : Option Addr) (F : List Nat) (V : Option Addr) (cv : Nat) (w : World), n.AtL 129 w A F → chkX n = true → Rd w V (vars.length * 5) (AS Bd.cells vars) →
 Calls prog 131 #[.agg (n.cells A).toArray, .slice V vars.length cv] w fun e w' => e = .returned (.tuple #[.int .u8 ((tyX vars n).1.toNat : Int), .int .i64 (tyX vars n).2]) ∧ Fr0 w w' := by
 refine Xn.ind fun n ih A F V cv w hA hc hV => ?_
 obtain ⟨L, hL, hk, hR, hq⟩ := hA.kids
 have h1 : n.cells A = IL n A L.length := by rw [hk]; rfl
 have h2 : tyX vars n = tyW n vars (fun q => tyX vars q.1) L := by
  rw [xJ, v6, ← hL, List.map_map]; rfl
 rw [h1, h2]
 refine kT n A V cv vars L (fun q => tyX vars q.1) w hvl hV (by have := n.nk_le; omega) hR (fun h3 h4 => by rw [hk]; exact tI hc h3 h4) (fun q hq' W hW => ?_)
 obtain ⟨F', hF'⟩ := hq q hq'
 have hk' : q.1 ∈ n.kids := by rw [← hL]; exact List.mem_map_of_mem hq'
 exact ih q.1 hk' q.2 F' V cv W (hF'.fr0 hW) (p4 hc hk') (hV.fr0 hW)
theorem Xn.sm_mono {j k : Nat} (h : j ≤ k) (n : Xn) : n.sm j → n.sm k := by
 induction n with
 | zero => exact id
 | lit v => exact fun q => Nat.le_trans q h
 | var s => exact fun q => Nat.le_trans q h
 | un o a ih => exact ih
 | bin o a b ih1 ih2 => exact fun q => ⟨ih1 q.1, ih2 q.2⟩
theorem aQ (s : List UInt8) : (CQ s).1.sm 1048576 := by
 by_cases h : 256 < s.length
 ·rw [show CQ s = (.zero, 0, 3) from if_pos h]; trivial
 ·exact Xn.sm_mono (by omega) _ (i7 s)
def nQ (vars : List Bd) (s : List UInt8) : Bool := ((decide ((CQ s).2.2 = (0 : Int))) && (decide ((KU (CQ s).1 vars).2 = (0 : Int)))) && (decide (((KU (CQ s).1 vars).1.toNat : Int) = (2 : Int)))
theorem qF (vars : List Bd) (hvl : vars.length ≤ 4611686018427387904) (n : Xn) (A : Option Addr) (F : List Nat) (V : Option Addr) (cv : Nat) (w : World) (hA : n.AtL 129 w A F) (hs : n.sm 1048576) (hU : Laid w utfL) (hV : Rd w V (vars.length * 5) (AS Bd.cells vars)) :
 Calls prog 116 #[.agg (n.cells A).toArray, .slice V vars.length cv] w fun e w' => e = .returned (.tuple #[.int .u8 ((KU n vars).1.toNat : Int), .int .i64 (KU n vars).2]) ∧ Fr0 w w' := by
 refine AJ (vs := [_, _]) func116 rfl ntmps116 rfl ?_
 have M := CN w
 refine A9 (A0 (B4 M (AA rfl) rfl rfl 129 rfl rfl (Xn.cells n A) rfl fun g2 w1 hg2 M => yb rfl (yb rfl (A4 (A5 (A9 (A9 (A0 (ya rfl (AU (xs := Xn.cells n A) rfl rfl (M.rdBlk 0 rfl rfl) underlying129 rfl AR) (cp M 7 rfl (AE rfl rfl call130) (p5 n A F _ (hA.fr0 M.fr) hs (F6 hU M.fr)) fun w2 M => yb rfl (A4 (A5 ?_))))))))))))
 refine AT (b := (!(chkX n))) rfl (fun h8 => ?_) (fun h8 => ?_)
 ·have h8p := (C4 h8)
  replace h8 := C4 h8
  exact A9 (A0 (yb rfl (yb rfl (A4 (A5 (AF (AB (CA rfl rfl rfl ⟨by rw [KU, if_neg (BE h8)]; rfl, M.fr⟩))))))))
 ·have h8p := (C5 h8)
  replace h8 := C5 h8
  refine AN (A5 (A9 (A0 (ya rfl (AU (xs := Xn.cells n A) rfl rfl (M.rdBlk 0 rfl rfl) underlying129 rfl AR) (yb rfl (cp M 11 rfl (AE rfl rfl call131) (fW vars hvl n A F V cv _ (hA.fr0 M.fr) h8 (hV.fr0 M.fr)) fun w3 M => ?_))))))
  iterate 4 refine yb rfl ?_
  exact A4 (A5 (AF (CA rfl rfl rfl ⟨by rw [KU, if_pos h8] <;> rfl, M.fr⟩)))
theorem gW (vars : List Bd) (hvl : vars.length ≤ 4611686018427387904) (s : List UInt8) (hs : s.length ≤ 4611686018427387904) (V : Option Addr) (cv : Nat) (w : World) (hY : Lay0 w) (hV : Rd w V (vars.length * 5) (AS Bd.cells vars)) :
 Calls prog 81 #[str s, .slice V vars.length cv] w fun e w' => e = .returned (.bool (nQ vars s)) ∧ Fr0 w w' := by
 refine AJ (vs := [_, _]) func81 rfl ntmps81 rfl ?_
 have M := CN w
 refine A9 (A0 (yb rfl (A4 (A5 (A9 (A0 (yb rfl (cl 12 rfl (AE rfl rfl call115) (mF s _ hs (hY.fr M.fr (fun _ h => h.elim))) ?_))))))))
 rintro _ w1 ⟨A, F, rfl, hat, hnw, hfw1⟩
 refine ⟨_, rfl, ?_⟩
 have M := M.push hfw1 (As.xn 129 (CQ s).1 A F) hat hnw
 iterate 4 refine yb rfl ?_
 refine BI M (AA rfl) rfl rfl 129 rfl [.int .u8 0, .int .u8 0, .int .i64 0, .bool false, str [], str [], .slice none 0 0] D0 rfl fun g5 w2 hg5 M => B8 (cs' := (Xn.cells (CQ s).1 A)) M 0 (AA rfl) rfl rfl rfl rfl rfl AR rfl (AI rfl) (AY rfl) rfl fun w3 M => yb rfl (yb rfl (A4 (A5 (A9 (A0 (ya rfl (AU (xs := Xn.cells (CQ s).1 A) rfl rfl (M.rdBlk 0 rfl rfl) underlying129 rfl AR) (yb rfl (cp M 19 rfl (AE rfl rfl call116) (qF vars hvl (CQ s).1 A F V cv _ (M.ok 1 _ rfl) (aQ s) (F6 hY.utf M.fr) (hV.fr0 M.fr)) fun w4 M => ?_))))))))
 iterate 5 refine yb rfl ?_
 refine A4 (A5 (A9 (A0 (yb rfl (ya rfl (BB rfl rfl rfl) (yb rfl (AX 3 [(4, .bool false), (8, .int .u8 ((KU (CQ s).1 vars).1.toNat : Int)), (27, .bool ((decide ((CQ s).2.2 = (0 : Int))) && (decide ((KU (CQ s).1 vars).2 = (0 : Int)))))] (fun w' => Mem w AD [As.blk g5 129 (Xn.cells (CQ s).1 A), As.xn 129 (CQ s).1 A F] w') ?_ (fun k24 => ?_))))))))
 ·intro w5 M
  refine yb rfl (AX 3 [(4, .bool false), (31, .bool (((decide ((CQ s).2.2 = (0 : Int))) && (decide ((KU (CQ s).1 vars).2 = (0 : Int)))) && (decide (((KU (CQ s).1 vars).1.toNat : Int) = (2 : Int)))))] (fun w' => Mem w AD [As.blk g5 129 (Xn.cells (CQ s).1 A), As.xn 129 (CQ s).1 A F] w') ?_ (fun k28 => ?_))
  ·intro w6 M
   exact yb rfl (A4 (A5 (AF (AK rfl rfl ⟨rfl, M.fr⟩))))
  refine AM (d := 28) (b := ((decide ((CQ s).2.2 = (0 : Int))) && (decide ((KU (CQ s).1 vars).2 = (0 : Int))))) rfl (fun h28 => ?_) (fun h28 => ?_)
  ·exact yd rfl (yp rfl) (yd rfl (BB rfl rfl rfl) (yb rfl (k28 _ _ M ⟨rfl, (by rw [h28]; rfl), trivial⟩)))
  ·exact yo rfl (yo rfl (yb rfl (k28 _ _ M ⟨rfl, (by rw [h28]; rfl), trivial⟩)))
 refine AM (d := 24) (b := (decide ((CQ s).2.2 = (0 : Int)))) rfl (fun h24 => ?_) (fun h24 => ?_)
 ·exact yd rfl (yp rfl) (yd rfl (BB rfl rfl rfl) (yb rfl (k24 _ _ M ⟨rfl, rfl, (by rw [h24]; rfl), trivial⟩)))
 ·exact yo rfl (yo rfl (yb rfl (k24 _ _ M ⟨rfl, rfl, (by rw [h24]; rfl), trivial⟩)))
end Go.Proofs.YtdaihdknnlphkaaGreatDoor
