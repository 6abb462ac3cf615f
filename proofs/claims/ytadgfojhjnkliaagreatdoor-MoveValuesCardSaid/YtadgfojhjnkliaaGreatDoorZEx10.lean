/- Lemmas that the last text rests on. Condition: each says its own. -/
import Derived.Test.YtadgfojhjnkliaaGreatDoorZEx9
set_option maxHeartbeats 16000000
set_option maxRecDepth 100000
namespace Go.Proofs.YtadgfojhjnkliaaGreatDoor
open Go.RowKit
open Tryz
def TV : List (UInt8 × Int) → Option Int
 | [] => none
 | q :: r => if (!decide (q.2 = 0)) = true then some q.2 else TV r
def tyT (n : Xn) (vars : List Bd) (ts : List (UInt8 × Int)) : UInt8 × Int :=
 if (decide ((n.op.toNat : Int) = (1 : Int))) = true then (n.vl.kind, 0)
 else if (decide ((n.op.toNat : Int) = (2 : Int))) = true then (match ffN (fun (_ : Nat) (b : Bd) => !(decide (b.name = n.nm))) 0 vars with
  | none => (0, 100)
  | some b => (b.v.kind, 0))
 else match TV ts with
  | some e => (0, e)
  | none => OF n.op (ts.map (·.1))
theorem ZK (f : Xq → UInt8 × Int) : ∀ L : List Xq, M4 f L = TV (L.map f)
 | [] => rfl
 | q :: r => by rw [M4, List.map_cons, TV, ZK f r]
theorem sR (n : Xn) (vars : List Bd) (f : Xq → UInt8 × Int) (L : List Xq) : tyW n vars f L = tyT n vars (L.map f) := by
 unfold tyW tyT
 rw [ZK, List.map_map]
 rfl
def tyX (vars : List Bd) : Xn → UInt8 × Int
 | .un o a => tyT (.un o a) vars [tyX vars a]
 | .bin o a b => tyT (.bin o a b) vars [tyX vars a, tyX vars b]
 | .zero => tyT .zero vars []
 | .lit v => tyT (.lit v) vars []
 | .var s => tyT (.var s) vars []
theorem qE (vars : List Bd) (n : Xn) : tyX vars n = tyT n vars (n.kids.map (tyX vars)) := by cases n <;> simp [tyX, Xn.kids]
def JZ (n : Xn) (vars : List Bd) : UInt8 × Int := if chkX n = true then tyX vars n else (0, 1)
theorem oP {n : Xn} {k : Bool} (h : IG n k = true) : ((n.nk : Nat) : Int) = KY n.op := by
 unfold IG at h
 by_cases h1 : (!decide (((n.nk : Nat) : Int) = (KY n.op))) = true
 ·rw [if_pos h1] at h; cases h
 ·simpa using h1
theorem s6 {n : Xn} {k : Bool} (h : IG n k = true) : k = false := by
 cases k with
 | false => rfl
 | true =>
  exfalso
  unfold IG at h
  revert h
  repeat' split
  all_goals simp
theorem kZ {n a : Xn} (h : chkX n = true) (ha : a ∈ n.kids) : chkX a = true := by
 rw [UX] at h
 have h1 := s6 h
 rw [List.any_eq_false] at h1
 simpa using h1 a ha
theorem oO {n : Xn} (h : chkX n = true) (h1 : ¬ (n.op.toNat : Int) = 1) (h2 : ¬ (n.op.toNat : Int) = 2) : 0 < n.nk := by
 rw [UX] at h
 have h3 := oP h
 unfold KY at h3
 split at h3
 ·omega
 ·rename_i h4
  have h5 := odf (CA (Bool.eq_false_iff.2 h4)).1
  split at h3
  ·rename_i h6
   have := odt h6
   omega
  ·split at h3 <;> omega
theorem cG (vars : List Bd) (hvl : vars.length ≤ 4611686018427387904) : ∀ (n : Xn) (A : Option Addr) (F : List Nat) (V : Option Addr) (cv : Nat) (w : World), n.AtL 70 w A F → chkX n = true → Rd w V (vars.length * 5) (AR Bd.cells vars) →
 Calls prog 154 #[.agg (n.cells A).toArray, .slice V vars.length cv] w fun e w' => e = .returned (.tuple #[.int .u8 ((tyX vars n).1.toNat : Int), .int .i64 (tyX vars n).2]) ∧ Fr0 w w' := by
 refine Xn.ind fun n ih A F V cv w hA hc hV => ?_
 obtain ⟨L, hL, hk, hR, hq⟩ := hA.kids
 have h1 : n.cells A = I7 n A L.length := by rw [hk]; rfl
 have h2 : tyX vars n = tyW n vars (fun q => tyX vars q.1) L := by
  rw [sR, qE, ← hL, List.map_map]; rfl
 rw [h1, h2]
 refine fP n A V cv vars L (fun q => tyX vars q.1) w hvl hV (by have := n.nk_le; omega) hR (fun h3 h4 => by rw [hk]; exact oO hc h3 h4) (fun q hq' W hW => ?_)
 obtain ⟨F', hF'⟩ := hq q hq'
 have hk' : q.1 ∈ n.kids := by rw [← hL]; exact List.mem_map_of_mem hq'
 exact ih q.1 hk' q.2 F' V cv W (hF'.fr0 hW) (kZ hc hk') (hV.fr0 hW)
theorem Xn.sm_mono {j k : Nat} (h : j ≤ k) (n : Xn) : n.sm j → n.sm k := by
 induction n with
 | zero => exact id
 | lit v => exact fun q => Nat.le_trans q h
 | var s => exact fun q => Nat.le_trans q h
 | un o a ih => exact ih
 | bin o a b ih1 ih2 => exact fun q => ⟨ih1 q.1, ih2 q.2⟩
theorem Y2 (s : List UInt8) : (C8 s).1.sm 1048576 := by
 by_cases h : 256 < s.length
 ·rw [show C8 s = (.zero, 0, 3) from if_pos h]; trivial
 ·exact Xn.sm_mono (by omega) _ (dA s)
def jD (vars : List Bd) (s : List UInt8) : Bool := ((decide ((C8 s).2.2 = (0 : Int))) && (decide ((JZ (C8 s).1 vars).2 = (0 : Int)))) && (decide (((JZ (C8 s).1 vars).1.toNat : Int) = (2 : Int)))
theorem mD (vars : List Bd) (hvl : vars.length ≤ 4611686018427387904) (n : Xn) (A : Option Addr) (F : List Nat) (V : Option Addr) (cv : Nat) (w : World) (hA : n.AtL 70 w A F) (hs : n.sm 1048576) (hU : Laid w utfL) (hV : Rd w V (vars.length * 5) (AR Bd.cells vars)) :
 Calls prog 133 #[.agg (n.cells A).toArray, .slice V vars.length cv] w fun e w' => e = .returned (.tuple #[.int .u8 ((JZ n vars).1.toNat : Int), .int .i64 (JZ n vars).2]) ∧ Fr0 w w' := by
 refine AK (vs := [_, _]) func133 rfl ntmps133 rfl ?_
 have M := CK w
 refine A4 (A0 (BD M (A9 rfl) rfl rfl 70 rfl rfl (Xn.cells n A) rfl fun g2 w1 hg2 M => yb rfl (yb rfl (A1 (A2 (A4 (A4 (A0 (ya rfl (AN (xs := Xn.cells n A) rfl rfl (M.rdBlk 0 rfl rfl) underlying70 rfl AM) (cp M 7 rfl (AF rfl rfl call153) (l0 n A F _ (hA.fr0 M.fr) hs (EX hU M.fr)) fun w2 M => yb rfl (A1 (A2 ?_))))))))))))
 refine AQ (b := (!(chkX n))) rfl (fun h8 => ?_) (fun h8 => ?_)
 ·have h8p := (C1 h8)
  replace h8 := C1 h8
  exact A4 (A0 (yb rfl (yb rfl (A1 (A2 (AD (AA (BY rfl rfl rfl ⟨by rw [JZ, if_neg (BA h8)]; rfl, M.fr⟩))))))))
 ·have h8p := (C3 h8)
  replace h8 := C3 h8
  refine AL (A2 (A4 (A0 (ya rfl (AN (xs := Xn.cells n A) rfl rfl (M.rdBlk 0 rfl rfl) underlying70 rfl AM) (yb rfl (cp M 11 rfl (AF rfl rfl call154) (cG vars hvl n A F V cv _ (hA.fr0 M.fr) h8 (hV.fr0 M.fr)) fun w3 M => ?_))))))
  iterate 4 refine yb rfl ?_
  exact A1 (A2 (AD (BY rfl rfl rfl ⟨by rw [JZ, if_pos h8] <;> rfl, M.fr⟩)))
theorem cW (vars : List Bd) (hvl : vars.length ≤ 4611686018427387904) (s : List UInt8) (hs : s.length ≤ 4611686018427387904) (V : Option Addr) (cv : Nat) (w : World) (hY : Lay0 w) (hV : Rd w V (vars.length * 5) (AR Bd.cells vars)) :
 Calls prog 92 #[str s, .slice V vars.length cv] w fun e w' => e = .returned (.bool (jD vars s)) ∧ Fr0 w w' := by
 refine AK (vs := [_, _]) func92 rfl ntmps92 rfl ?_
 have M := CK w
 refine A4 (A0 (yb rfl (A1 (A2 (A4 (A0 (yb rfl (cl 12 rfl (AF rfl rfl call16) (VU s _ hs (hY.fr M.fr (fun _ h => h.elim))) ?_))))))))
 rintro _ w1 ⟨A, F, rfl, hat, hnw, hfw1⟩
 refine ⟨_, rfl, ?_⟩
 have M := M.push hfw1 (As.xn 70 (C8 s).1 A F) hat hnw
 iterate 4 refine yb rfl ?_
 refine BI M (A9 rfl) rfl rfl 70 rfl [.int .u8 0, .int .u8 0, .int .i64 0, .bool false, str [], str [], .slice none 0 0] CW rfl fun g5 w2 hg5 M => B5 (cs' := (Xn.cells (C8 s).1 A)) M 0 (A9 rfl) rfl rfl rfl rfl rfl AM rfl (AP rfl) (AW rfl) rfl fun w3 M => yb rfl (yb rfl (A1 (A2 (A4 (A0 (ya rfl (AN (xs := Xn.cells (C8 s).1 A) rfl rfl (M.rdBlk 0 rfl rfl) underlying70 rfl AM) (yb rfl (cp M 19 rfl (AF rfl rfl call133) (mD vars hvl (C8 s).1 A F V cv _ (M.ok 1 _ rfl) (Y2 s) (EX hY.utf M.fr) (hV.fr0 M.fr)) fun w4 M => ?_))))))))
 iterate 5 refine yb rfl ?_
 refine A1 (A2 (A4 (A0 (yb rfl (ya rfl (B9 rfl rfl rfl) (yb rfl (AT 3 [(4, .bool false), (8, .int .u8 ((JZ (C8 s).1 vars).1.toNat : Int)), (27, .bool ((decide ((C8 s).2.2 = (0 : Int))) && (decide ((JZ (C8 s).1 vars).2 = (0 : Int)))))] (fun w' => Mem w AB [As.blk g5 70 (Xn.cells (C8 s).1 A), As.xn 70 (C8 s).1 A F] w') ?_ (fun k24 => ?_))))))))
 ·intro w5 M
  refine yb rfl (AT 3 [(4, .bool false), (31, .bool (((decide ((C8 s).2.2 = (0 : Int))) && (decide ((JZ (C8 s).1 vars).2 = (0 : Int)))) && (decide (((JZ (C8 s).1 vars).1.toNat : Int) = (2 : Int)))))] (fun w' => Mem w AB [As.blk g5 70 (Xn.cells (C8 s).1 A), As.xn 70 (C8 s).1 A F] w') ?_ (fun k28 => ?_))
  ·intro w6 M
   exact yb rfl (A1 (A2 (AD (AH rfl rfl ⟨rfl, M.fr⟩))))
  refine AE (d := 28) (b := ((decide ((C8 s).2.2 = (0 : Int))) && (decide ((JZ (C8 s).1 vars).2 = (0 : Int))))) rfl (fun h28 => ?_) (fun h28 => ?_)
  ·exact yd rfl (yp rfl) (yd rfl (B9 rfl rfl rfl) (yb rfl (k28 _ _ M ⟨rfl, (by rw [h28]; rfl), trivial⟩)))
  ·exact yo rfl (yo rfl (yb rfl (k28 _ _ M ⟨rfl, (by rw [h28]; rfl), trivial⟩)))
 refine AE (d := 24) (b := (decide ((C8 s).2.2 = (0 : Int)))) rfl (fun h24 => ?_) (fun h24 => ?_)
 ·exact yd rfl (yp rfl) (yd rfl (B9 rfl rfl rfl) (yb rfl (k24 _ _ M ⟨rfl, rfl, (by rw [h24]; rfl), trivial⟩)))
 ·exact yo rfl (yo rfl (yb rfl (k24 _ _ M ⟨rfl, rfl, (by rw [h24]; rfl), trivial⟩)))
end Go.Proofs.YtadgfojhjnkliaaGreatDoor
