/- Lemmas that the last text rests on. Condition: each says its own. -/
import Derived.Test.YtjaocmocdhckaaaGreatDoorZEx9
set_option maxHeartbeats 16000000
set_option maxRecDepth 100000
namespace Go.Proofs.YtjaocmocdhckaaaGreatDoor
open Go.RowKit
open Tryz
def U9 : List (UInt8 × Int) → Option Int
 | [] => none
 | q :: r => if (!decide (q.2 = 0)) = true then some q.2 else U9 r
def tyT (n : Xn) (vars : List Bd) (ts : List (UInt8 × Int)) : UInt8 × Int :=
 if (decide ((n.op.toNat : Int) = (1 : Int))) = true then (n.vl.kind, 0)
 else if (decide ((n.op.toNat : Int) = (2 : Int))) = true then (match ffN (fun (_ : Nat) (b : Bd) => !(decide (b.name = n.nm))) 0 vars with
  | none => (0, 100)
  | some b => (b.v.kind, 0))
 else match U9 ts with
  | some e => (0, e)
  | none => Q4 n.op (ts.map (·.1))
theorem Z9 (f : Xq → UInt8 × Int) : ∀ L : List Xq, O7 f L = U9 (L.map f)
 | [] => rfl
 | q :: r => by rw [O7, List.map_cons, U9, Z9 f r]
theorem rJ (n : Xn) (vars : List Bd) (f : Xq → UInt8 × Int) (L : List Xq) : tyW n vars f L = tyT n vars (L.map f) := by
 unfold tyW tyT
 rw [Z9, List.map_map]
 rfl
def tyX (vars : List Bd) : Xn → UInt8 × Int
 | .un o a => tyT (.un o a) vars [tyX vars a]
 | .bin o a b => tyT (.bin o a b) vars [tyX vars a, tyX vars b]
 | .zero => tyT .zero vars []
 | .lit v => tyT (.lit v) vars []
 | .var s => tyT (.var s) vars []
theorem pK (vars : List Bd) (n : Xn) : tyX vars n = tyT n vars (n.kids.map (tyX vars)) := by cases n <;> simp [tyX, Xn.kids]
def O6 (n : Xn) (vars : List Bd) : UInt8 × Int := if chkX n = true then tyX vars n else (0, 1)
theorem aO {n : Xn} {k : Bool} (h : JG n k = true) : ((n.nk : Nat) : Int) = NA n.op := by
 unfold JG at h
 by_cases h1 : (!decide (((n.nk : Nat) : Int) = (NA n.op))) = true
 ·rw [if_pos h1] at h; cases h
 ·simpa using h1
theorem r6 {n : Xn} {k : Bool} (h : JG n k = true) : k = false := by
 cases k with
 | false => rfl
 | true =>
  exfalso
  unfold JG at h
  revert h
  repeat' split
  all_goals simp
theorem SC {n a : Xn} (h : chkX n = true) (ha : a ∈ n.kids) : chkX a = true := by
 rw [QU] at h
 have h1 := r6 h
 rw [List.any_eq_false] at h1
 simpa using h1 a ha
theorem aN {n : Xn} (h : chkX n = true) (h1 : ¬ (n.op.toNat : Int) = 1) (h2 : ¬ (n.op.toNat : Int) = 2) : 0 < n.nk := by
 rw [QU] at h
 have h3 := aO h
 unfold NA at h3
 split at h3
 ·omega
 ·rename_i h4
  have h5 := odf (CP (Bool.eq_false_iff.2 h4)).1
  split at h3
  ·rename_i h6
   have := odt h6
   omega
  ·split at h3 <;> omega
theorem bE (vars : List Bd) (hvl : vars.length ≤ 4611686018427387904) : ∀ (n : Xn) (A : Option Addr) (F : List Nat) (V : Option Addr) (cv : Nat) (w : World), n.AtL 75 w A F → chkX n = true → Rd w V (vars.length * 5) (AH Bd.cells vars) →
 Calls prog 156 #[.agg (n.cells A).toArray, .slice V vars.length cv] w (CG w (.tuple #[.int .u8 ((tyX vars n).1.toNat : Int), AJ (tyX vars n).2])) := by
 refine Xn.ind fun n ih A F V cv w hA hc hV => ?_
 obtain ⟨L, hL, hk, hR, hq⟩ := hA.kids
 have h1 : n.cells A = M6 n A L.length := by rw [hk]; rfl
 have h2 : tyX vars n = tyW n vars (fun q => tyX vars q.1) L := by
  rw [rJ, pK, ← hL, List.map_map]; rfl
 rw [h1, h2]
 refine eT n A V cv vars L (fun q => tyX vars q.1) w hvl hV (by have := n.nk_le; omega) hR (fun h3 h4 => by rw [hk]; exact aN hc h3 h4) (fun q hq' W hW => ?_)
 obtain ⟨F', hF'⟩ := hq q hq'
 have hk' : q.1 ∈ n.kids := by rw [← hL]; exact List.mem_map_of_mem hq'
 exact ih q.1 hk' q.2 F' V cv W (hF'.fr0 hW) (SC hc hk') (hV.fr0 hW)
theorem Xn.sm_mono {j k : Nat} (h : j ≤ k) (n : Xn) : n.sm j → n.sm k := by
 induction n with
 | zero => exact id
 | lit v => exact fun q => Nat.le_trans q h
 | var s => exact fun q => Nat.le_trans q h
 | un o a ih => exact ih
 | bin o a b ih1 ih2 => exact fun q => ⟨ih1 q.1, ih2 q.2⟩
theorem RK (s : List UInt8) : (D6 s).1.sm 1048576 := by
 by_cases h : 256 < s.length
 ·rw [show D6 s = (.zero, 0, 3) from if_pos h]; trivial
 ·exact Xn.sm_mono AM _ (bX s)
def j4 (vars : List Bd) (s : List UInt8) : Bool := ((decide ((D6 s).2.2 = (0 : Int))) && (decide ((O6 (D6 s).1 vars).2 = (0 : Int)))) && (decide (((O6 (D6 s).1 vars).1.toNat : Int) = (2 : Int)))
theorem lV (vars : List Bd) (hvl : vars.length ≤ 4611686018427387904) (n : Xn) (A : Option Addr) (F : List Nat) (V : Option Addr) (cv : Nat) (w : World) (hA : n.AtL 75 w A F) (hs : n.sm 1048576) (hU : Laid w utfL) (hV : Rd w V (vars.length * 5) (AH Bd.cells vars)) :
 Calls prog 135 #[.agg (n.cells A).toArray, .slice V vars.length cv] w (CG w (.tuple #[.int .u8 ((O6 n vars).1.toNat : Int), AJ (O6 n vars).2])) := by
 refine C5 func135 ntmps135 rfl fun M => srg (CR M rfl rfl fun g2 w1 hg2 M => yb rfl (AY rfl (AF (srg (CW M 0 rfl rfl underlying75 AZ rfl (D4 M 7 rfl rfl call155 (XG n A F _ (hA.fr0 M.fr) hs (GG hU M.fr)) fun w2 M => yb rfl (AR ?_)))))))
 refine AD (AL rfl (fun h8 => ?_) (fun h8 => ?_))
 ·replace h8 := CK h8
  exact AQ rfl (yb rfl (gnr (AB (CI rfl rfl rfl ⟨by rw [O6, AT h8]; rfl, M.fr⟩))))
 ·replace h8 := BQ h8
  refine AI (AD (srg (CW M 0 rfl rfl underlying75 AZ rfl (yb rfl (D4 M 11 rfl rfl call156 (bE vars hvl n A F V cv _ (hA.fr0 M.fr) h8 (hV.fr0 M.fr)) fun w3 M => ?_)))))
  iterate 4 refine yb rfl ?_
  exact gnr (CI rfl rfl rfl ⟨by rw [O6, if_pos h8] <;> rfl, M.fr⟩)
theorem bR (vars : List Bd) (hvl : vars.length ≤ 4611686018427387904) (s : List UInt8) (hs : s.length ≤ 4611686018427387904) (V : Option Addr) (cv : Nat) (w : World) (hY : Lay0 w) (hV : Rd w V (vars.length * 5) (AH Bd.cells vars)) :
 Calls prog 95 #[str s, .slice V vars.length cv] w (CG w (.bool (j4 vars s))) := by
 refine C5 func95 ntmps95 rfl fun M => srg (AY rfl (AQ rfl (cl 12 rfl (AP rfl rfl call19) (W8 s _ hs (hY.fr M.fr (fun _ h => h.elim))) ?_)))
 rintro _ w1 ⟨A, F, rfl, hat, hnw, hfw1⟩
 refine ⟨_, rfl, ?_⟩
 have M := M.push hfw1 (As.xn 75 (D6 s).1 A F) hat hnw
 iterate 4 refine yb rfl ?_
 refine DC M rfl DD fun g5 w2 hg5 M => C4 M 0 rfl rfl AZ rfl fun w3 M => yb rfl (AY rfl (srg (CW M 0 rfl rfl underlying75 AZ rfl (yb rfl (D4 M 19 rfl rfl call135 (lV vars hvl (D6 s).1 A F V cv _ (M.ok 1 _ rfl) (RK s) (GG hY.utf M.fr) (hV.fr0 M.fr)) fun w4 M => ?_)))))
 iterate 5 refine yb rfl ?_
 refine nq (AQ rfl (CN rfl rfl (yb rfl (fvm M 3 [8, 4] [(27, .bool ((decide ((D6 s).2.2 = (0 : Int))) && (decide ((O6 (D6 s).1 vars).2 = (0 : Int)))))] ?_ (fun k24 => ?_)))))
 ·intro w5 M
  refine yb rfl (fvm M 3 [4] [(31, .bool (((decide ((D6 s).2.2 = (0 : Int))) && (decide ((O6 (D6 s).1 vars).2 = (0 : Int)))) && (decide (((O6 (D6 s).1 vars).1.toNat : Int) = (2 : Int)))))] ?_ (fun k28 => ?_))
  ·intro w6 M
   exact yb rfl (gnr (gr1 rfl ⟨rfl, M.fr⟩))
  refine AO (d := 28) rfl (fun h28 => ?_) (fun h28 => ?_)
  ·exact gyq rfl (yd rfl (BZ rfl rfl rfl) (yb rfl (k28 M ⟨rfl, (by rw [h28]; rfl), trivial⟩)))
  ·exact yo rfl (yo rfl (yb rfl (k28 M ⟨rfl, (by rw [h28]; rfl), trivial⟩)))
 refine AO (d := 24) rfl (fun h24 => ?_) (fun h24 => ?_)
 ·exact gyq rfl (yd rfl (BZ rfl rfl rfl) (yb rfl (k24 M ⟨rfl, rfl, (by rw [h24]; rfl), trivial⟩)))
 ·exact yo rfl (yo rfl (yb rfl (k24 M ⟨rfl, rfl, (by rw [h24]; rfl), trivial⟩)))
end Go.Proofs.YtjaocmocdhckaaaGreatDoor
