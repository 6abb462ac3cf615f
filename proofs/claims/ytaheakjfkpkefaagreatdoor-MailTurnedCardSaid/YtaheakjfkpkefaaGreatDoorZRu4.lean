/- Lemmas that the last text rests on. Condition: each says its own. -/
import Derived.Test.YtaheakjfkpkefaaGreatDoorZEx9
import Derived.Test.YtaheakjfkpkefaaGreatDoorZRu3
set_option maxHeartbeats 16000000
set_option maxRecDepth 100000
namespace Go.Proofs.YtaheakjfkpkefaaGreatDoor
open Go.RowKit
open Tryz
def UC : List (UInt8 × Int) → Option Int
 | [] => none
 | q :: r => if (!decide (q.2 = 0)) = true then some q.2 else UC r
def tyT (n : Xn) (vars : List Bd) (ts : List (UInt8 × Int)) : UInt8 × Int :=
 if (decide ((n.op.toNat : Int) = (1 : Int))) = true then (n.vl.kind, 0)
 else if (decide ((n.op.toNat : Int) = (2 : Int))) = true then (match ffN (fun (_ : Nat) (b : Bd) => !(decide (b.name = n.nm))) 0 vars with
  | none => (0, 100)
  | some b => (b.v.kind, 0))
 else match UC ts with
  | some e => (0, e)
  | none => PM n.op (ts.map (·.1))
theorem ZU (f : Xq → UInt8 × Int) : ∀ L : List Xq, NO f L = UC (L.map f)
 | [] => rfl
 | q :: r => by rw [NO, List.map_cons, UC, ZU f r]
theorem u0 (n : Xn) (vars : List Bd) (f : Xq → UInt8 × Int) (L : List Xq) : tyW n vars f L = tyT n vars (L.map f) := by
 unfold tyW tyT
 rw [ZU, List.map_map]
 rfl
def tyX (vars : List Bd) : Xn → UInt8 × Int
 | .un o a => tyT (.un o a) vars [tyX vars a]
 | .bin o a b => tyT (.bin o a b) vars [tyX vars a, tyX vars b]
 | .zero => tyT .zero vars []
 | .lit v => tyT (.lit v) vars []
 | .var s => tyT (.var s) vars []
theorem rS (vars : List Bd) (n : Xn) : tyX vars n = tyT n vars (n.kids.map (tyX vars)) := by cases n <;> simp [tyX, Xn.kids]
def NN (n : Xn) (vars : List Bd) : UInt8 × Int := if chkX n = true then tyX vars n else (0, 1)
theorem qI {n : Xn} {k : Bool} (h : IM n k = true) : (n.nk : Int) = O8 n.op := by
 unfold IM at h
 by_cases h1 : (!decide ((n.nk : Int) = (O8 n.op))) = true
 ·rw [if_pos h1] at h; cases h
 ·simpa using h1
theorem tJ {n : Xn} {k : Bool} (h : IM n k = true) : k = false := by
 cases k with
 | false => rfl
 | true =>
  exfalso
  unfold IM at h
  revert h
  repeat' split
  all_goals simp
theorem mD {n a : Xn} (h : chkX n = true) (ha : a ∈ n.kids) : chkX a = true := by
 rw [VD] at h
 have h1 := tJ h
 rw [List.any_eq_false] at h1
 simpa using h1 a ha
theorem qH {n : Xn} (h : chkX n = true) (h1 : ¬ (n.op.toNat : Int) = 1) (h2 : ¬ (n.op.toNat : Int) = 2) : 0 < n.nk := by
 rw [VD] at h
 have h3 := qI h
 unfold O8 at h3
 split at h3
 ·omega
 ·rename_i h4
  have h5 := odf (BS (Bool.eq_false_iff.2 h4)).1
  split at h3
  ·rename_i h6
   have := odt h6
   omega
  ·split at h3 <;> omega
theorem cG (vars : List Bd) (hvl : vars.length ≤ 4611686018427387904) : ∀ (n : Xn) (A : Option Addr) (F : List Nat) (V : Option Addr) (cv : Nat) (w : World), n.AtL 112 w A F → chkX n = true → Rd w V (vars.length * 5) (AB Bd.cells vars) →
 Calls prog 191 #[.agg (n.cells A).toArray, .slice V vars.length cv] w (BM w (.tuple #[.int .u8 ((tyX vars n).1.toNat : Int), AA (tyX vars n).2])) := by
 refine Xn.ind fun n ih A F V cv w hA hc hV => ?_
 obtain ⟨L, hL, hk, hR, hq⟩ := hA.kids
 have h1 : n.cells A = WS n A L.length := by rw [hk]; rfl
 have h2 : tyX vars n = tyW n vars (fun q => tyX vars q.1) L := by
  rw [u0, rS, ← hL, List.map_map]; rfl
 rw [h1, h2]
 refine gQ n A V cv vars L (fun q => tyX vars q.1) w hvl hV (by have := n.nk_le; omega) hR (fun h3 h4 => by rw [hk]; exact qH hc h3 h4) (fun q hq' W hW => ?_)
 obtain ⟨F', hF'⟩ := hq q hq'
 have hk' : q.1 ∈ n.kids := by rw [← hL]; exact List.mem_map_of_mem hq'
 exact ih q.1 hk' q.2 F' V cv W (hF'.fr0 hW) (mD hc hk') (hV.fr0 hW)
theorem Xn.sm_mono {j k : Nat} (h : j ≤ k) (n : Xn) : n.sm j → n.sm k := by
 induction n with
 | zero => exact id
 | lit v => exact fun q => Nat.le_trans q h
 | var s => exact fun q => Nat.le_trans q h
 | un o a ih => exact ih
 | bin o a b ih1 ih2 => exact fun q => ⟨ih1 q.1, ih2 q.2⟩
theorem YN (s : List UInt8) : (C8 s).1.sm 1048576 := by
 by_cases h : 256 < s.length
 ·rw [show C8 s = (.zero, 0, 3) from if_pos h]; trivial
 ·exact Xn.sm_mono A0 _ (dF s)
def lB (vars : List Bd) (s : List UInt8) : Bool := ((decide ((C8 s).2.2 = (0 : Int))) && (decide ((NN (C8 s).1 vars).2 = (0 : Int)))) && (decide (((NN (C8 s).1 vars).1.toNat : Int) = (2 : Int)))
theorem nG (vars : List Bd) (hvl : vars.length ≤ 4611686018427387904) (n : Xn) (A : Option Addr) (F : List Nat) (V : Option Addr) (cv : Nat) (w : World) (hA : n.AtL 112 w A F) (hs : n.sm 1048576) (hU : Laid w utfL) (hV : Rd w V (vars.length * 5) (AB Bd.cells vars)) :
 Calls prog 166 #[.agg (n.cells A).toArray, .slice V vars.length cv] w (BM w (.tuple #[.int .u8 ((NN n vars).1.toNat : Int), AA (NN n vars).2])) := by
 refine BK func166 ntmps166 rfl fun M => srg (D7 M rfl rfl fun g2 w1 hg2 M => yb rfl (AG rfl (sx_seq (srg (DP M 0 rfl rfl underlying112 AJ rfl (DH M 7 rfl rfl call190 (mF n A F _ (hA.fr0 M.fr) hs (FH hU M.fr)) fun w2 M => yb rfl (sxl_nil ?_)))))))
 refine qx_seq (AF rfl (fun h8 => ?_) (fun h8 => ?_))
 ·replace h8 := BO h8
  exact AC rfl (yb rfl (gnr (qx_then_ret (BR rfl rfl rfl ⟨by rw [NN, AR h8]; rfl, M.fr⟩))))
 ·replace h8 := BC h8
  refine sx_skip (qx_seq (srg (DP M 0 rfl rfl underlying112 AJ rfl (yb rfl (DH M 11 rfl rfl call191 (cG vars hvl n A F V cv _ (hA.fr0 M.fr) h8 (hV.fr0 M.fr)) fun w3 M => ?_)))))
  iterate 4 refine yb rfl ?_
  exact gnr (BR rfl rfl rfl ⟨by rw [NN, if_pos h8] <;> rfl, M.fr⟩)
theorem dB (vars : List Bd) (hvl : vars.length ≤ 4611686018427387904) (s : List UInt8) (hs : s.length ≤ 4611686018427387904) (V : Option Addr) (cv : Nat) (w : World) (hY : Lay0 w) (hV : Rd w V (vars.length * 5) (AB Bd.cells vars)) :
 Calls prog 128 #[str s, .slice V vars.length cv] w (BM w (.bool (lB vars s))) := by
 refine BK func128 ntmps128 rfl fun M => srg (AG rfl (AC rfl (cl 12 rfl (AE rfl rfl call42) (WH s _ hs (hY.fr M.fr (fun _ h => h.elim))) ?_)))
 rintro _ w1 ⟨A, F, rfl, hat, hnw, hfw1⟩
 refine ⟨_, rfl, ?_⟩
 have M := M.push hfw1 (As.xn 112 (C8 s).1 A F) hat hnw
 iterate 4 refine yb rfl ?_
 refine CV M rfl CR fun g5 w2 hg5 M => C1 M 0 rfl rfl AJ rfl fun w3 M => yb rfl (AG rfl (srg (DP M 0 rfl rfl underlying112 AJ rfl (yb rfl (DH M 19 rfl rfl call166 (nG vars hvl (C8 s).1 A F V cv _ (M.ok 1 _ rfl) (YN s) (FH hY.utf M.fr) (hV.fr0 M.fr)) fun w4 M => ?_)))))
 iterate 5 refine yb rfl ?_
 refine nq (AC rfl (C2 rfl rfl (yb rfl (fvm M 3 [8, 4] [(27, .bool ((decide ((C8 s).2.2 = (0 : Int))) && (decide ((NN (C8 s).1 vars).2 = (0 : Int)))))] ?_ (fun k24 => ?_)))))
 ·intro w5 M
  refine yb rfl (fvm M 3 [4] [(31, .bool (((decide ((C8 s).2.2 = (0 : Int))) && (decide ((NN (C8 s).1 vars).2 = (0 : Int)))) && (decide (((NN (C8 s).1 vars).1.toNat : Int) = 2))))] ?_ (fun k28 => ?_))
  ·intro w6 M
   exact yb rfl (gnr (gr1 rfl ⟨rfl, M.fr⟩))
  refine AD (d := 28) rfl (fun h28 => ?_) (fun h28 => ?_)
  ·exact gyq rfl (yd rfl (BW rfl rfl rfl) (yb rfl (k28 M ⟨rfl, (by rw [h28]; rfl), trivial⟩)))
  ·exact yo rfl (yo rfl (yb rfl (k28 M ⟨rfl, (by rw [h28]; rfl), trivial⟩)))
 refine AD (d := 24) rfl (fun h24 => ?_) (fun h24 => ?_)
 ·exact gyq rfl (yd rfl (BW rfl rfl rfl) (yb rfl (k24 M ⟨rfl, rfl, (by rw [h24]; rfl), trivial⟩)))
 ·exact yo rfl (yo rfl (yb rfl (k24 M ⟨rfl, rfl, (by rw [h24]; rfl), trivial⟩)))
theorem Lay0.fr0 {w w' : World} (h : Lay0 w) (hf : Fr0 w w') : Lay0 w' := h.fr hf (fun _ hh => hh.elim)
def ML (m : Md) (y : Fl) : Bool := (if (((decide ((((B4 m.els y.frm).getD zeroEl).kind.toNat : Int) = (5 : Int))) && (decide ((1 : Int) < (((BI m.fls y.frm).length : Nat) : Int)))) && (!decide (((B4 m.els y.frm).getD zeroEl).dflt = y.id))) = true then (if (!decide (y.cond = [])) = true then (lB m.vars y.cond) else false) else (decide (y.cond = [])))
theorem nW (m : Md) (a : MdA) (ix : IxA) (gx gp : Nat) (y : Fl) (w : World) (oy : FlOk y) (ho : MdOk m) (hx : IxAt w m a ix gx) (hp : Blk w gp 155 [pg gx]) (hY : Lay0 w) :
 Calls prog 127 #[.agg y.cells.toArray, pg gp] w (BM w (.bool (ML m y))) := by
 have hOl := DR m.fls y.frm
 have hnf := ho.nfls
 refine BK func127 ntmps127 rfl fun M => srg (D7 M rfl rfl fun g2 w1 hg2 M => AG rfl (sx_seq (HT M 9 CF fun M => ol 0 9 rfl rfl rfl M (fun _ M => (Blk.c (hp.fr0 M.fr) 0 rfl)) (oc 1 9 rfl rfl M (oc 2 9 rfl rfl M (ol 3 9 rfl rfl rfl M (fun _ M => (Blk.c ((hx.fr0 M.fr).blk) 5 rfl)) (oc 4 9 rfl rfl M (ol 5 9 rfl rfl rfl M (fun _ M => (M.cell 0 rfl rfl)) ?_))))))))
 refine oa 6 9 rfl rfl M (fun _ M => BF rfl rfl rfl underlying85 underlying9 AQ ((hx.fr0 M.fr).E) (hx.getE _)) (fon M 7 4 rfl rfl AQ fun g4 w2 hg4 M => fop M 8 0 rfl rfl rfl AM rfl (·.drop 1) fun w3 M => fdn (qx_seq (sx_seq (sx_seq (EQ CF gkr ?_)))))
 have M := M.drew
 refine sb rfl (GL M 0 rfl rfl rfl (sa rfl (BW rfl rfl rfl) (sb rfl (fvs 10 [4, 2, 1] [(25, .bool ((decide ((((B4 m.els y.frm).getD zeroEl).kind.toNat : Int) = 5)) && (decide (1 < ((BI m.fls y.frm).length : Int)))))] ?_ (fun k15 => ?_)))))
 ·refine sb rfl (fvs 6 [2, 1] [(32, .bool (((decide ((((B4 m.els y.frm).getD zeroEl).kind.toNat : Int) = 5)) && (decide (1 < ((BI m.fls y.frm).length : Int)))) && (!decide (((B4 m.els y.frm).getD zeroEl).dflt = y.id))))] ?_ (fun k26 => ?_))
  ·refine EL (qx_seq (AF rfl (fun h32 => ?_) (fun h32 => ?_)))
   ·have h32p := (And.intro (And.intro (odt (BX (BX h32).1).1) (odt (BX (BX h32).1).2)) (odf (BO (BX h32).2)))
    refine sx_seq (DK 11 CF gkr ?_)
    have M := M.drew
    refine sb rfl (GL M 1 rfl rfl rfl (sa rfl (ES rfl rfl rfl) (sb rfl (BZ (d := 36) rfl (fun h36 => ?_) (fun h36 => ?_)))))
    ·have h36p := (odf (BO h36))
     refine gsg rfl (yp rfl) (gsg rfl (B6 rfl rfl (sc rfl) (M.cell 1 rfl rfl)) (gsg rfl (B6 rfl rfl (sc rfl) (Blk.c (hp.fr0 M.fr) 0 rfl)) (gsg rfl (yp rfl) (gsg rfl (yp rfl) (gsg rfl (yp rfl) (gsg rfl (B6 rfl rfl (sc rfl) (Blk.c ((hx.fr0 M.fr).blk) 2 rfl)) (CD (sxl_call (some 44) (wn_on rfl rfl rfl) rfl rfl (AE rfl rfl call128) (dB m.vars (by have := ho.nvars; omega) y.cond (by have := oy.cond; omega) _ _ _ (hY.fr0 M.fr) (hx.fr0 M.fr).md.vars) ?_))))))))
     rintro _ w4 ⟨rfl, hfw4⟩
     refine ⟨_, rfl, ?_⟩
     have M := M.step hfw4
     exact AT rfl rfl (gnr (qx_then_ret (gr1 rfl ⟨by rw [ML, if_pos h32, if_pos h36], M.fr⟩)))
    ·iterate 7 refine CE rfl rfl rfl rfl rfl rfl ?_
     exact CD (yo rfl (AT rfl rfl (gnr (qx_then_ret (gr1 rfl ⟨by rw [ML, if_pos h32, AR h36], M.fr⟩)))))
   ·have h32p := ((D8 h32).imp (fun z => ((D8 z).imp (fun z => (odf z)) (fun z => (odf z)))) (fun z => (odt (BC z))))
    exact sx_skip (qx_seq (AC rfl (AS M 1 rfl rfl rfl (ya rfl (CP rfl rfl rfl) (yb rfl (gnr (gr1 rfl ⟨by rw [ML, AR h32], M.fr⟩)))))))
  refine BZ (d := 26) rfl (fun h26 => ?_) (fun h26 => ?_)
  ·exact gsg rfl (yp rfl) (gsg rfl (B6 rfl rfl (sc rfl) (M.cell 0 rfl rfl)) (gsg rfl (yp rfl) (gsg rfl (B6 rfl rfl (sc rfl) (M.cell 1 rfl rfl)) (gsg rfl (ES rfl rfl rfl) (sb rfl (k26 _ ⟨rfl, rfl, (by rw [h26]; rfl), trivial⟩))))))
  ·iterate 5 refine CE rfl rfl rfl rfl rfl rfl ?_
   exact sb rfl (k26 _ ⟨rfl, rfl, (by rw [h26]; rfl), trivial⟩)
 refine BZ (d := 15) rfl (fun h15 => ?_) (fun h15 => ?_)
 ·exact gsg rfl (B6 rfl rfl (sc rfl) (Blk.c (hp.fr0 M.fr) 0 rfl)) (gsg rfl (yp rfl) (gsg rfl (yp rfl) (gsg rfl (B6 rfl rfl (sc rfl) (Blk.c ((hx.fr0 M.fr).blk) 7 rfl)) (gsg rfl (yp rfl) (gsg rfl (B6 rfl rfl (sc rfl) (M.cell 1 rfl rfl)) (gsg rfl (BF rfl rfl rfl underlying197 underlying9 zr_sl_api_Flow ((hx.fr0 M.fr).O) (hx.getO _)) (gsg rfl (EX rfl rfl (sl rfl)) (gsg rfl (FW rfl rfl rfl) (sb rfl (k15 _ ⟨rfl, rfl, rfl, (by rw [h15]; rfl), trivial⟩))))))))))
 ·iterate 9 refine CE rfl rfl rfl rfl rfl rfl ?_
  exact sb rfl (k15 _ ⟨rfl, rfl, rfl, (by rw [h15]; rfl), trivial⟩)
def W7 (m : Md) : Option (List UInt8) := match ffE (IC m) m.els with
 | some k => some k
 | none => ffF (ML m) m.fls
theorem nU {m : Md} (h : (ffN (fun _ => (IC m)) 0 m.els).isSome = true) : Value.tuple #[str ((ffN (fun _ => (IC m)) 0 m.els).elim [] (fun x => x.id)), .bool true] = J4 (W7 m) := by
 unfold W7 ffE J4
 cases hq : ffN (fun _ => (IC m)) 0 m.els with
 | none => rw [hq] at h; cases h
 | some x => rfl
theorem nT {m : Md} (h : (ffN (fun _ => (IC m)) 0 m.els).isSome = false) : Value.tuple #[str ((ffN (fun _ => (ML m)) 0 m.fls).elim [] (fun x => x.id)), .bool (ffN (fun _ => (ML m)) 0 m.fls).isSome] = J4 (W7 m) := by
 rw [lS]
 unfold W7 ffE
 cases hq : ffN (fun _ => (IC m)) 0 m.els with
 | none => rfl
 | some x => rw [hq] at h; cases h
theorem nV (m : Md) (a : MdA) (ix : IxA) (gx : Nat) (w : World) (ho : MdOk m) (hx : IxAt w m a ix gx) (hY : Lay0 w) :
 Calls prog 71 #[pg gx] w (BM w (J4 (W7 m))) := by
 refine BK func71 ntmps71 rfl fun M => srg (D3 M (wn_none rfl) rfl rfl 155 rfl rfl ([pg gx]) rfl fun g1 w1 hg1 M => yb rfl (AG rfl (sx_seq (srg (AS M 0 rfl rfl rfl (AT rfl rfl (yb rfl ?_)))))))
 refine yl rfl rfl (Blk.c ((hx.fr0 M.fr).blk) 3 rfl) (ya rfl (CB (us := []) (vs := [pg g1]) rfl rfl rfl) (DH M 13 rfl rfl call110 (I9 _ _ m.els (by have := ho.nfls; have := ho.nels; have := ho.nvars; omega) 125 [pg g1] (IC m) _ (G5 call125 (fun z hz w9 hf9 => nX m a ix gx _ z w9 (ho.els z hz) ho ((hx.fr0 M.fr).fr0 hf9) ((M.blk 0 rfl).fr0 hf9))) (M.rd hx.md.els)) fun w2 M => ?_))
 iterate 5 refine yb rfl ?_
 refine EC (AG rfl (AF rfl (fun h16 => ?_) (fun h16 => ?_)))
 ·exact AC rfl (AT rfl rfl (gnr (qx_then_ret (BR rfl rfl rfl ⟨congrArg Ending.returned (nU h16), M.fr⟩))))
 ·refine sx_skip (qx_seq (srg (AS M 0 rfl rfl rfl (AT rfl rfl (yb rfl (yl rfl rfl (Blk.c ((hx.fr0 M.fr).blk) 4 rfl) (ya rfl (CB (us := []) (vs := [pg g1]) rfl rfl rfl) (DH M 24 rfl rfl call113 (TQ _ _ m.fls (by have := ho.nfls; have := ho.nels; have := ho.nvars; omega) 127 [pg g1] (ML m) _ (G5 call127 (fun z hz w9 hf9 => nW m a ix gx _ z w9 (ho.fls z hz) ho ((hx.fr0 M.fr).fr0 hf9) ((M.blk 0 rfl).fr0 hf9) ((hY.fr0 M.fr).fr0 hf9))) (M.rd hx.md.fls)) fun w3 M => ?_))))))))
  iterate 4 refine yb rfl ?_
  exact gnr (BR rfl rfl rfl ⟨congrArg Ending.returned (nT h16), M.fr⟩)
end Go.Proofs.YtaheakjfkpkefaaGreatDoor
