/- The type of a condition, whole: printed by gw/ex10.py. Condition: the tables of unicode/utf8 are as they are laid. -/
import Derived.Test.YtadgfojhjnkliaaGreatDoorZEx9
set_option maxHeartbeats 16000000
set_option maxRecDepth 100000
namespace Go.Proofs.YtadgfojhjnkliaaGreatDoor
open Go.RowKit
def TT : List (UInt8 × Int) → Option Int
 | [] => none
 | q :: r => if (!decide (q.2 = 0)) = true then some q.2 else TT r
def tyT (n : Xn) (vars : List Bd) (ts : List (UInt8 × Int)) : UInt8 × Int :=
 if (decide ((n.op.toNat : Int) = (1 : Int))) = true then (n.vl.kind, 0)
 else if (decide ((n.op.toNat : Int) = (2 : Int))) = true then (match ffN (fun (_ : Nat) (b : Bd) => !(decide (b.name = n.nm))) 0 vars with
  | none => (0, 100)
  | some b => (b.v.kind, 0))
 else match TT ts with
  | some e => (0, e)
  | none => OB n.op (ts.map (·.1))
theorem ZJ (f : Xq → UInt8 × Int) : ∀ L : List Xq, M3 f L = TT (L.map f)
 | [] => rfl
 | q :: r => by rw [M3, List.map_cons, TT, ZJ f r]
theorem sQ (n : Xn) (vars : List Bd) (f : Xq → UInt8 × Int) (L : List Xq) : tyW n vars f L = tyT n vars (L.map f) := by
 unfold tyW tyT
 rw [ZJ, List.map_map]
 rfl
def tyX (vars : List Bd) : Xn → UInt8 × Int
 | .un o a => tyT (.un o a) vars [tyX vars a]
 | .bin o a b => tyT (.bin o a b) vars [tyX vars a, tyX vars b]
 | .zero => tyT .zero vars []
 | .lit v => tyT (.lit v) vars []
 | .var s => tyT (.var s) vars []
theorem qD (vars : List Bd) (n : Xn) : tyX vars n = tyT n vars (n.kids.map (tyX vars)) := by cases n <;> simp [tyX, Xn.kids]
def JY (n : Xn) (vars : List Bd) : UInt8 × Int := if chkX n = true then tyX vars n else (0, 1)
theorem oO {n : Xn} {k : Bool} (h : IF n k = true) : ((n.nk : Nat) : Int) = KX n.op := by
 unfold IF at h
 by_cases h1 : (!decide (((n.nk : Nat) : Int) = (KX n.op))) = true
 ·rw [if_pos h1] at h; cases h
 ·simpa using h1
theorem rZ {n : Xn} {k : Bool} (h : IF n k = true) : k = false := by
 cases k with
 | false => rfl
 | true =>
  exfalso
  unfold IF at h
  revert h
  repeat' split
  all_goals simp
theorem kY {n a : Xn} (h : chkX n = true) (ha : a ∈ n.kids) : chkX a = true := by
 rw [UV] at h
 have h1 := rZ h
 rw [List.any_eq_false] at h1
 simpa using h1 a ha
theorem oN {n : Xn} (h : chkX n = true) (h1 : ¬ (n.op.toNat : Int) = 1) (h2 : ¬ (n.op.toNat : Int) = 2) : 0 < n.nk := by
 rw [UV] at h
 have h3 := oO h
 unfold KX at h3
 split at h3
 ·omega
 ·rename_i h4
  have h5 := of_decide_eq_false (CD (Bool.eq_false_iff.2 h4)).1
  split at h3
  ·rename_i h6
   have := of_decide_eq_true h6
   omega
  ·split at h3 <;> omega
theorem cE (vars : List Bd) (hvl : vars.length ≤ 4611686018427387904) : ∀ (n : Xn) (A : Option Addr) (F : List Nat) (V : Option Addr) (cv : Nat) (w : World), n.AtL 70 w A F → chkX n = true → Rd w V (vars.length * 5) (AS Bd.cells vars) →
 Calls Tryz.prog 154 #[.agg (n.cells A).toArray, .slice V vars.length cv] w fun e w' => e = .returned (.tuple #[.int .u8 ((tyX vars n).1.toNat : Int), .int .i64 (tyX vars n).2]) ∧ Fr0 w w' := by
 refine Xn.ind fun n ih A F V cv w hA hc hV => ?_
 obtain ⟨L, hL, hk, hR, hq⟩ := hA.kids
 have h1 : n.cells A = I6 n A L.length := by rw [hk]; rfl
 have h2 : tyX vars n = tyW n vars (fun q => tyX vars q.1) L := by
  rw [sQ, qD, ← hL, List.map_map]; rfl
 rw [h1, h2]
 refine fN n A V cv vars L (fun q => tyX vars q.1) w hvl hV (by have := n.nk_le; omega) hR (fun h3 h4 => by rw [hk]; exact oN hc h3 h4) (fun q hq' W hW => ?_)
 obtain ⟨F', hF'⟩ := hq q hq'
 have hk' : q.1 ∈ n.kids := by rw [← hL]; exact List.mem_map_of_mem hq'
 exact ih q.1 hk' q.2 F' V cv W (hF'.fr0 hW) (kY hc hk') (hV.fr0 hW)
theorem Xn.sm_mono {j k : Nat} (h : j ≤ k) (n : Xn) : n.sm j → n.sm k := by
 induction n with
 | zero => exact id
 | lit v => exact fun q => Nat.le_trans q h
 | var s => exact fun q => Nat.le_trans q h
 | un o a ih => exact ih
 | bin o a b ih1 ih2 => exact fun q => ⟨ih1 q.1, ih2 q.2⟩
theorem Y0 (s : List UInt8) : (CB s).1.sm 1048576 := by
 by_cases h : 256 < s.length
 ·rw [show CB s = (.zero, 0, 3) from if_pos h]; trivial
 ·exact Xn.sm_mono (by omega) _ (d6 s)
def jC (vars : List Bd) (s : List UInt8) : Bool := ((decide ((CB s).2.2 = (0 : Int))) && (decide ((JY (CB s).1 vars).2 = (0 : Int)))) && (decide (((JY (CB s).1 vars).1.toNat : Int) = (2 : Int)))
theorem mC (vars : List Bd) (hvl : vars.length ≤ 4611686018427387904) (n : Xn) (A : Option Addr) (F : List Nat) (V : Option Addr) (cv : Nat) (w : World) (hA : n.AtL 70 w A F) (hs : n.sm 1048576) (hU : Laid w utfL) (hV : Rd w V (vars.length * 5) (AS Bd.cells vars)) :
 Calls Tryz.prog 133 #[.agg (n.cells A).toArray, .slice V vars.length cv] w fun e w' => e = .returned (.tuple #[.int .u8 ((JY n vars).1.toNat : Int), .int .i64 (JY n vars).2]) ∧ Fr0 w w' := by
 refine AL (vs := [_, _]) Tryz.func133 rfl Tryz.ntmps133 rfl ?_
 have M := CM w
 refine A9 (A0 (BG M (A4 rfl) rfl rfl 70 rfl rfl (Xn.cells n A) rfl fun g2 w1 hg2 M => yb rfl (yb rfl (A1 (A2 (A9 (A9 (A0 (ya rfl (AO (xs := Xn.cells n A) rfl rfl (M.rdBlk 0 rfl rfl) Tryz.underlying70 rfl AN) (AC (some 7) (A4 rfl) rfl rfl (AG rfl rfl Tryz.call153) (kZ n A F _ (hA.fr0 M.fr) hs (EX hU M.fr)) ?_))))))))))
 rintro _ w2 ⟨rfl, hfw2⟩
 refine ⟨_, rfl, ?_⟩
 have M := M.step hfw2
 refine yb rfl (A1 (A2 (AR (b := (!(chkX n))) rfl (fun h8 => ?_) (fun h8 => ?_))))
 ·have h8p := (C4 h8)
  replace h8 := C4 h8
  exact A9 (A0 (yb rfl (yb rfl (A1 (A2 (AE (AA (C1 rfl rfl rfl ⟨by rw [JY, if_neg (BD h8)]; rfl, M.fr⟩))))))))
 ·have h8p := (C6 h8)
  replace h8 := C6 h8
  refine AM (A2 (A9 (A0 (ya rfl (AO (xs := Xn.cells n A) rfl rfl (M.rdBlk 0 rfl rfl) Tryz.underlying70 rfl AN) (yb rfl (AC (some 11) (A4 rfl) rfl rfl (AG rfl rfl Tryz.call154) (cE vars hvl n A F V cv _ (hA.fr0 M.fr) h8 (hV.fr0 M.fr)) ?_))))))
  rintro _ w3 ⟨rfl, hfw3⟩
  refine ⟨_, rfl, ?_⟩
  have M := M.step hfw3
  iterate 4 refine yb rfl ?_
  exact A1 (A2 (AE (C1 rfl rfl rfl ⟨by rw [JY, if_pos h8] <;> rfl, M.fr⟩)))
theorem cU (vars : List Bd) (hvl : vars.length ≤ 4611686018427387904) (s : List UInt8) (hs : s.length ≤ 4611686018427387904) (V : Option Addr) (cv : Nat) (w : World) (hY : Lay0 w) (hV : Rd w V (vars.length * 5) (AS Bd.cells vars)) :
 Calls Tryz.prog 92 #[str s, .slice V vars.length cv] w fun e w' => e = .returned (.bool (jC vars s)) ∧ Fr0 w w' := by
 refine AL (vs := [_, _]) Tryz.func92 rfl Tryz.ntmps92 rfl ?_
 have M := CM w
 refine A9 (A0 (yb rfl (A1 (A2 (A9 (A0 (yb rfl (AC (some 12) (A4 rfl) rfl rfl (AG rfl rfl Tryz.call16) (VS s _ hs (hY.fr M.fr (fun _ h => h.elim))) ?_))))))))
 rintro _ w1 ⟨A, F, rfl, hat, hnw, hfw1⟩
 refine ⟨_, rfl, ?_⟩
 have M := M.push hfw1 (As.xn 70 (CB s).1 A F) hat hnw
 iterate 4 refine yb rfl ?_
 refine BL M (A4 rfl) rfl rfl 70 rfl [.int .u8 0, .int .u8 0, .int .i64 0, .bool false, str [], str [], .slice none 0 0] CW rfl fun g5 w2 hg5 M => B8 (cs' := (Xn.cells (CB s).1 A)) M 0 (A4 rfl) rfl rfl rfl rfl rfl AN rfl (AQ rfl) (B3 rfl) rfl fun w3 M => yb rfl (yb rfl (A1 (A2 (A9 (A0 (ya rfl (AO (xs := Xn.cells (CB s).1 A) rfl rfl (M.rdBlk 0 rfl rfl) Tryz.underlying70 rfl AN) (yb rfl (AC (some 19) (A4 rfl) rfl rfl (AG rfl rfl Tryz.call133) (mC vars hvl (CB s).1 A F V cv _ (M.ok 1 _ rfl) (Y0 s) (EX hY.utf M.fr) (hV.fr0 M.fr)) ?_))))))))
 rintro _ w4 ⟨rfl, hfw4⟩
 refine ⟨_, rfl, ?_⟩
 have M := M.step hfw4
 iterate 5 refine yb rfl ?_
 refine A1 (A2 (A9 (A0 (yb rfl (ya rfl (BC rfl rfl rfl) (yb rfl (AV 3 [(4, .bool false), (8, .int .u8 ((JY (CB s).1 vars).1.toNat : Int)), (27, .bool ((decide ((CB s).2.2 = (0 : Int))) && (decide ((JY (CB s).1 vars).2 = (0 : Int)))))] (fun w' => Mem w AB [As.blk g5 70 (Xn.cells (CB s).1 A), As.xn 70 (CB s).1 A F] w') ?_ (fun k24 => ?_))))))))
 ·intro w5 M
  refine yb rfl (AV 3 [(4, .bool false), (31, .bool (((decide ((CB s).2.2 = (0 : Int))) && (decide ((JY (CB s).1 vars).2 = (0 : Int)))) && (decide (((JY (CB s).1 vars).1.toNat : Int) = (2 : Int)))))] (fun w' => Mem w AB [As.blk g5 70 (Xn.cells (CB s).1 A), As.xn 70 (CB s).1 A F] w') ?_ (fun k28 => ?_))
  ·intro w6 M
   exact yb rfl (A1 (A2 (AE (AI rfl rfl ⟨rfl, M.fr⟩))))
  refine AF (d := 28) (b := ((decide ((CB s).2.2 = (0 : Int))) && (decide ((JY (CB s).1 vars).2 = (0 : Int))))) rfl (fun h28 => ?_) (fun h28 => ?_)
  ·exact yd rfl (yp rfl) (yd rfl (BC rfl rfl rfl) (yb rfl (k28 _ _ M ⟨rfl, (by rw [h28]; rfl), trivial⟩)))
  ·exact yo rfl (yo rfl (yb rfl (k28 _ _ M ⟨rfl, (by rw [h28]; rfl), trivial⟩)))
 refine AF (d := 24) (b := (decide ((CB s).2.2 = (0 : Int)))) rfl (fun h24 => ?_) (fun h24 => ?_)
 ·exact yd rfl (yp rfl) (yd rfl (BC rfl rfl rfl) (yb rfl (k24 _ _ M ⟨rfl, rfl, (by rw [h24]; rfl), trivial⟩)))
 ·exact yo rfl (yo rfl (yb rfl (k24 _ _ M ⟨rfl, rfl, (by rw [h24]; rfl), trivial⟩)))
end Go.Proofs.YtadgfojhjnkliaaGreatDoor
