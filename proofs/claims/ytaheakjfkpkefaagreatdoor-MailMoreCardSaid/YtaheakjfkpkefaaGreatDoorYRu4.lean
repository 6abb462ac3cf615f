/- Lemmas that the last text rests on. Condition: each says its own. -/
import Derived.Test.YtaheakjfkpkefaaGreatDoorYEx9
import Derived.Test.YtaheakjfkpkefaaGreatDoorYRu3
set_option maxHeartbeats 16000000
set_option maxRecDepth 100000
namespace Go.Proofs.YtaheakjfkpkefaaGreatDoor
open Go.RowKit
open Tryz
def U7 : List (UInt8 × Int) → Option Int
 | [] => none
 | q :: r => if (!decide (q.2 = 0)) = true then some q.2 else U7 r
def tyT (n : Xn) (vars : List Bd) (ts : List (UInt8 × Int)) : UInt8 × Int :=
 if (decide ((n.op.toNat : Int) = (1 : Int))) = true then (n.vl.kind, 0)
 else if (decide ((n.op.toNat : Int) = (2 : Int))) = true then (match ffN (fun (_ : Nat) (b : Bd) => !(decide (b.name = n.nm))) 0 vars with
  | none => (0, 100)
  | some b => (b.v.kind, 0))
 else match U7 ts with
  | some e => (0, e)
  | none => PK n.op (ts.map (·.1))
theorem ZB (f : Xq → UInt8 × Int) : ∀ L : List Xq, NJ f L = U7 (L.map f)
 | [] => rfl
 | q :: r => by rw [NJ, List.map_cons, U7, ZB f r]
theorem sP (n : Xn) (vars : List Bd) (f : Xq → UInt8 × Int) (L : List Xq) : tyW n vars f L = tyT n vars (L.map f) := by
 unfold tyW tyT
 rw [ZB, List.map_map]
 rfl
def tyX (vars : List Bd) : Xn → UInt8 × Int
 | .un o a => tyT (.un o a) vars [tyX vars a]
 | .bin o a b => tyT (.bin o a b) vars [tyX vars a, tyX vars b]
 | .zero => tyT .zero vars []
 | .lit v => tyT (.lit v) vars []
 | .var s => tyT (.var s) vars []
theorem qI (vars : List Bd) (n : Xn) : tyX vars n = tyT n vars (n.kids.map (tyX vars)) := by cases n <;> simp [tyX, Xn.kids]
def NI (n : Xn) (vars : List Bd) : UInt8 × Int := if chkX n = true then tyX vars n else (0, 1)
theorem pC {n : Xn} {k : Bool} (h : IQ n k = true) : (n.nk : Int) = O5 n.op := by
 unfold IQ at h
 by_cases h1 : (!decide ((n.nk : Int) = (O5 n.op))) = true
 ·rw [if_pos h1] at h; cases h
 ·simpa using h1
theorem s6 {n : Xn} {k : Bool} (h : IQ n k = true) : k = false := by
 cases k with
 | false => rfl
 | true =>
  exfalso
  unfold IQ at h
  revert h
  repeat' split
  all_goals simp
theorem lF {n a : Xn} (h : chkX n = true) (ha : a ∈ n.kids) : chkX a = true := by
 rw [VB] at h
 have h1 := s6 h
 rw [List.any_eq_false] at h1
 simpa using h1 a ha
theorem pB {n : Xn} (h : chkX n = true) (h1 : ¬ (n.op.toNat : Int) = 1) (h2 : ¬ (n.op.toNat : Int) = 2) : 0 < n.nk := by
 rw [VB] at h
 have h3 := pC h
 unfold O5 at h3
 split at h3
 ·omega
 ·rename_i h4
  have h5 := odf (BT (Bool.eq_false_iff.2 h4)).1
  split at h3
  ·rename_i h6
   have := odt h6
   omega
  ·split at h3 <;> omega
theorem bI (vars : List Bd) (hvl : vars.length ≤ 4611686018427387904) : ∀ (n : Xn) (A : Option Addr) (F : List Nat) (V : Option Addr) (cv : Nat) (w : World), n.AtL 112 w A F → chkX n = true → Rd w V (vars.length * 5) (AB Bd.cells vars) →
 Calls prog 191 #[.agg (n.cells A).toArray, .slice V vars.length cv] w (BN w (.tuple #[.int .u8 ((tyX vars n).1.toNat : Int), AA (tyX vars n).2])) := by
 refine Xn.ind fun n ih A F V cv w hA hc hV => ?_
 obtain ⟨L, hL, hk, hR, hq⟩ := hA.kids
 have h1 : n.cells A = WJ n A L.length := by rw [hk]; rfl
 have h2 : tyX vars n = tyW n vars (fun q => tyX vars q.1) L := by
  rw [sP, qI, ← hL, List.map_map]; rfl
 rw [h1, h2]
 refine fI n A V cv vars L (fun q => tyX vars q.1) w hvl hV (by have := n.nk_le; omega) hR (fun h3 h4 => by rw [hk]; exact pB hc h3 h4) (fun q hq' W hW => ?_)
 obtain ⟨F', hF'⟩ := hq q hq'
 have hk' : q.1 ∈ n.kids := by rw [← hL]; exact List.mem_map_of_mem hq'
 exact ih q.1 hk' q.2 F' V cv W (hF'.fr0 hW) (lF hc hk') (hV.fr0 hW)
theorem Xn.sm_mono {j k : Nat} (h : j ≤ k) (n : Xn) : n.sm j → n.sm k := by
 induction n with
 | zero => exact id
 | lit v => exact fun q => Nat.le_trans q h
 | var s => exact fun q => Nat.le_trans q h
 | un o a ih => exact ih
 | bin o a b ih1 ih2 => exact fun q => ⟨ih1 q.1, ih2 q.2⟩
theorem Y9 (s : List UInt8) : (C8 s).1.sm 1048576 := by
 by_cases h : 256 < s.length
 ·rw [show C8 s = (.zero, 0, 3) from if_pos h]; trivial
 ·exact Xn.sm_mono A0 _ (cH s)
def kA (vars : List Bd) (s : List UInt8) : Bool := ((decide ((C8 s).2.2 = (0 : Int))) && (decide ((NI (C8 s).1 vars).2 = (0 : Int)))) && (decide (((NI (C8 s).1 vars).1.toNat : Int) = (2 : Int)))
theorem mJ (vars : List Bd) (hvl : vars.length ≤ 4611686018427387904) (n : Xn) (A : Option Addr) (F : List Nat) (V : Option Addr) (cv : Nat) (w : World) (hA : n.AtL 112 w A F) (hs : n.sm 1048576) (hU : Laid w utfL) (hV : Rd w V (vars.length * 5) (AB Bd.cells vars)) :
 Calls prog 166 #[.agg (n.cells A).toArray, .slice V vars.length cv] w (BN w (.tuple #[.int .u8 ((NI n vars).1.toNat : Int), AA (NI n vars).2])) := by
 refine BL func166 ntmps166 rfl fun M => srg (DD M rfl rfl fun g2 w1 hg2 M => yb rfl (AG rfl (sx_seq (srg (DO M 0 rfl rfl underlying112 AI rfl (DV M 7 rfl rfl call190 (lI n A F _ (hA.fr0 M.fr) hs (FG hU M.fr)) fun w2 M => yb rfl (sxl_nil ?_)))))))
 refine qx_seq (AF rfl (fun h8 => ?_) (fun h8 => ?_))
 ·replace h8 := BY h8
  exact AC rfl (yb rfl (gnr (qx_then_ret (BS rfl rfl rfl ⟨by rw [NI, AS h8]; rfl, M.fr⟩))))
 ·replace h8 := BJ h8
  refine sx_skip (qx_seq (srg (DO M 0 rfl rfl underlying112 AI rfl (yb rfl (DV M 11 rfl rfl call191 (bI vars hvl n A F V cv _ (hA.fr0 M.fr) h8 (hV.fr0 M.fr)) fun w3 M => ?_)))))
  iterate 4 refine yb rfl ?_
  exact gnr (BS rfl rfl rfl ⟨by rw [NI, if_pos h8] <;> rfl, M.fr⟩)
theorem cC (vars : List Bd) (hvl : vars.length ≤ 4611686018427387904) (s : List UInt8) (hs : s.length ≤ 4611686018427387904) (V : Option Addr) (cv : Nat) (w : World) (hY : Lay0 w) (hV : Rd w V (vars.length * 5) (AB Bd.cells vars)) :
 Calls prog 128 #[str s, .slice V vars.length cv] w (BN w (.bool (kA vars s))) := by
 refine BL func128 ntmps128 rfl fun M => srg (AG rfl (AC rfl (cl 12 rfl (AE rfl rfl call42) (W9 s _ hs (hY.fr M.fr (fun _ h => h.elim))) ?_)))
 rintro _ w1 ⟨A, F, rfl, hat, hnw, hfw1⟩
 refine ⟨_, rfl, ?_⟩
 have M := M.push hfw1 (As.xn 112 (C8 s).1 A F) hat hnw
 iterate 4 refine yb rfl ?_
 refine CO M rfl CR fun g5 w2 hg5 M => C2 M 0 rfl rfl AI rfl fun w3 M => yb rfl (AG rfl (srg (DO M 0 rfl rfl underlying112 AI rfl (yb rfl (DV M 19 rfl rfl call166 (mJ vars hvl (C8 s).1 A F V cv _ (M.ok 1 _ rfl) (Y9 s) (FG hY.utf M.fr) (hV.fr0 M.fr)) fun w4 M => ?_)))))
 iterate 5 refine yb rfl ?_
 refine nq (AC rfl (C7 rfl rfl (yb rfl (fvm M 3 [8, 4] [(27, .bool ((decide ((C8 s).2.2 = (0 : Int))) && (decide ((NI (C8 s).1 vars).2 = (0 : Int)))))] ?_ (fun k24 => ?_)))))
 ·intro w5 M
  refine yb rfl (fvm M 3 [4] [(31, .bool (((decide ((C8 s).2.2 = (0 : Int))) && (decide ((NI (C8 s).1 vars).2 = (0 : Int)))) && (decide (((NI (C8 s).1 vars).1.toNat : Int) = 2))))] ?_ (fun k28 => ?_))
  ·intro w6 M
   exact yb rfl (gnr (gr1 rfl ⟨rfl, M.fr⟩))
  refine AD (d := 28) rfl (fun h28 => ?_) (fun h28 => ?_)
  ·exact gyq rfl (yd rfl (BO rfl rfl rfl) (yb rfl (k28 M ⟨rfl, (by rw [h28]; rfl), trivial⟩)))
  ·exact yo rfl (yo rfl (yb rfl (k28 M ⟨rfl, (by rw [h28]; rfl), trivial⟩)))
 refine AD (d := 24) rfl (fun h24 => ?_) (fun h24 => ?_)
 ·exact gyq rfl (yd rfl (BO rfl rfl rfl) (yb rfl (k24 M ⟨rfl, rfl, (by rw [h24]; rfl), trivial⟩)))
 ·exact yo rfl (yo rfl (yb rfl (k24 M ⟨rfl, rfl, (by rw [h24]; rfl), trivial⟩)))
theorem Lay0.fr0 {w w' : World} (h : Lay0 w) (hf : Fr0 w w') : Lay0 w' := h.fr hf (fun _ hh => hh.elim)
def MJ (m : Md) (y : Fl) : Bool := (if (((decide ((((B3 m.els y.frm).getD zeroEl).kind.toNat : Int) = (5 : Int))) && (decide ((1 : Int) < (((BI m.fls y.frm).length : Nat) : Int)))) && (!decide (((B3 m.els y.frm).getD zeroEl).dflt = y.id))) = true then (if (!decide (y.cond = [])) = true then (kA m.vars y.cond) else false) else (decide (y.cond = [])))
theorem mX (m : Md) (a : MdA) (ix : IxA) (gx gp : Nat) (y : Fl) (w : World) (oy : FlOk y) (ho : MdOk m) (hx : IxAt w m a ix gx) (hp : Blk w gp 155 [pg gx]) (hY : Lay0 w) :
 Calls prog 127 #[.agg y.cells.toArray, pg gp] w (BN w (.bool (MJ m y))) := by
 have hOl := DR m.fls y.frm
 have hnf := ho.nfls
 refine BL func127 ntmps127 rfl fun M => srg (DD M rfl rfl fun g2 w1 hg2 M => AG rfl (sx_seq (I6 M 9 CL fun M => ol 0 9 rfl rfl rfl M (fun _ M => (Blk.c (hp.fr0 M.fr) 0 rfl)) (oc 1 9 rfl rfl M (oc 2 9 rfl rfl M (ol 3 9 rfl rfl rfl M (fun _ M => (Blk.c ((hx.fr0 M.fr).blk) 5 rfl)) (oc 4 9 rfl rfl M (ol 5 9 rfl rfl rfl M (fun _ M => (M.cell 0 rfl rfl)) ?_))))))))
 refine oa 6 9 rfl rfl M (fun _ M => BD rfl rfl rfl underlying85 underlying9 AQ ((hx.fr0 M.fr).E) (hx.getE _)) (fon M 7 4 rfl rfl AQ fun g4 w2 hg4 M => fop M 8 0 rfl rfl rfl AK rfl (·.drop 1) fun w3 M => fdn (qx_seq (sx_seq (sx_seq (HT CL gkr ?_)))))
 have M := M.drew
 refine sb rfl (GZ M 0 rfl rfl rfl (sa rfl (BO rfl rfl rfl) (sb rfl (fvs 10 [4, 2, 1] [(25, .bool ((decide ((((B3 m.els y.frm).getD zeroEl).kind.toNat : Int) = 5)) && (decide (1 < ((BI m.fls y.frm).length : Int)))))] ?_ (fun k15 => ?_)))))
 ·refine sb rfl (fvs 6 [2, 1] [(32, .bool (((decide ((((B3 m.els y.frm).getD zeroEl).kind.toNat : Int) = 5)) && (decide (1 < ((BI m.fls y.frm).length : Int)))) && (!decide (((B3 m.els y.frm).getD zeroEl).dflt = y.id))))] ?_ (fun k26 => ?_))
  ·refine IY (qx_seq (AF rfl (fun h32 => ?_) (fun h32 => ?_)))
   ·have h32p := (And.intro (And.intro (odt (BX (BX h32).1).1) (odt (BX (BX h32).1).2)) (odf (BY (BX h32).2)))
    refine sx_seq (DL 11 CL gkr ?_)
    have M := M.drew
    refine sb rfl (GZ M 1 rfl rfl rfl (sa rfl (FV rfl rfl rfl) (sb rfl (D6 (d := 36) rfl (fun h36 => ?_) (fun h36 => ?_)))))
    ·have h36p := (odf (BY h36))
     refine gsg rfl (yp rfl) (gsg rfl (B9 rfl rfl (sc rfl) (M.cell 1 rfl rfl)) (gsg rfl (B9 rfl rfl (sc rfl) (Blk.c (hp.fr0 M.fr) 0 rfl)) (gsg rfl (yp rfl) (gsg rfl (yp rfl) (gsg rfl (yp rfl) (gsg rfl (B9 rfl rfl (sc rfl) (Blk.c ((hx.fr0 M.fr).blk) 2 rfl)) (CB (sxl_call (some 44) (wn_on rfl rfl rfl) rfl rfl (AE rfl rfl call128) (cC m.vars (by have := ho.nvars; omega) y.cond (by have := oy.cond; omega) _ _ _ (hY.fr0 M.fr) (hx.fr0 M.fr).md.vars) ?_))))))))
     rintro _ w4 ⟨rfl, hfw4⟩
     refine ⟨_, rfl, ?_⟩
     have M := M.step hfw4
     exact AV rfl rfl (gnr (qx_then_ret (gr1 rfl ⟨by rw [MJ, if_pos h32, if_pos h36], M.fr⟩)))
    ·iterate 7 refine D3 rfl rfl rfl rfl rfl rfl ?_
     exact CB (yo rfl (AV rfl rfl (gnr (qx_then_ret (gr1 rfl ⟨by rw [MJ, if_pos h32, AS h36], M.fr⟩)))))
   ·have h32p := ((DA h32).imp (fun z => ((DA z).imp (fun z => (odf z)) (fun z => (odf z)))) (fun z => (odt (BJ z))))
    exact sx_skip (qx_seq (AC rfl (B2 M 1 rfl rfl rfl (ya rfl (CS rfl rfl rfl) (yb rfl (gnr (gr1 rfl ⟨by rw [MJ, AS h32], M.fr⟩)))))))
  refine D6 (d := 26) rfl (fun h26 => ?_) (fun h26 => ?_)
  ·exact gsg rfl (yp rfl) (gsg rfl (B9 rfl rfl (sc rfl) (M.cell 0 rfl rfl)) (gsg rfl (yp rfl) (gsg rfl (B9 rfl rfl (sc rfl) (M.cell 1 rfl rfl)) (gsg rfl (FV rfl rfl rfl) (sb rfl (k26 _ ⟨rfl, rfl, (by rw [h26]; rfl), trivial⟩))))))
  ·iterate 5 refine D3 rfl rfl rfl rfl rfl rfl ?_
   exact sb rfl (k26 _ ⟨rfl, rfl, (by rw [h26]; rfl), trivial⟩)
 refine D6 (d := 15) rfl (fun h15 => ?_) (fun h15 => ?_)
 ·exact gsg rfl (B9 rfl rfl (sc rfl) (Blk.c (hp.fr0 M.fr) 0 rfl)) (gsg rfl (yp rfl) (gsg rfl (yp rfl) (gsg rfl (B9 rfl rfl (sc rfl) (Blk.c ((hx.fr0 M.fr).blk) 7 rfl)) (gsg rfl (yp rfl) (gsg rfl (B9 rfl rfl (sc rfl) (M.cell 1 rfl rfl)) (gsg rfl (BD rfl rfl rfl underlying197 underlying9 zr_sl_api_Flow ((hx.fr0 M.fr).O) (hx.getO _)) (gsg rfl (F5 rfl rfl (sl rfl)) (gsg rfl (G9 rfl rfl rfl) (sb rfl (k15 _ ⟨rfl, rfl, rfl, (by rw [h15]; rfl), trivial⟩))))))))))
 ·iterate 9 refine D3 rfl rfl rfl rfl rfl rfl ?_
  exact sb rfl (k15 _ ⟨rfl, rfl, rfl, (by rw [h15]; rfl), trivial⟩)
def VY (m : Md) : Option (List UInt8) := match ffE (IE m) m.els with
 | some k => some k
 | none => ffF (MJ m) m.fls
theorem mV {m : Md} (h : (ffN (fun _ => (IE m)) 0 m.els).isSome = true) : Value.tuple #[str ((ffN (fun _ => (IE m)) 0 m.els).elim [] (fun x => x.id)), .bool true] = J9 (VY m) := by
 unfold VY ffE J9
 cases hq : ffN (fun _ => (IE m)) 0 m.els with
 | none => rw [hq] at h; cases h
 | some x => rfl
theorem mU {m : Md} (h : (ffN (fun _ => (IE m)) 0 m.els).isSome = false) : Value.tuple #[str ((ffN (fun _ => (MJ m)) 0 m.fls).elim [] (fun x => x.id)), .bool (ffN (fun _ => (MJ m)) 0 m.fls).isSome] = J9 (VY m) := by
 rw [kR]
 unfold VY ffE
 cases hq : ffN (fun _ => (IE m)) 0 m.els with
 | none => rfl
 | some x => rw [hq] at h; cases h
theorem mW (m : Md) (a : MdA) (ix : IxA) (gx : Nat) (w : World) (ho : MdOk m) (hx : IxAt w m a ix gx) (hY : Lay0 w) :
 Calls prog 71 #[pg gx] w (BN w (J9 (VY m))) := by
 refine BL func71 ntmps71 rfl fun M => srg (DB M (wn_none rfl) rfl rfl 155 rfl rfl ([pg gx]) rfl fun g1 w1 hg1 M => yb rfl (AG rfl (sx_seq (srg (B2 M 0 rfl rfl rfl (AV rfl rfl (yb rfl ?_)))))))
 refine yl rfl rfl (Blk.c ((hx.fr0 M.fr).blk) 3 rfl) (ya rfl (CE (us := []) (vs := [pg g1]) rfl rfl rfl) (DV M 13 rfl rfl call110 (IA _ _ m.els (by have := ho.nfls; have := ho.nels; have := ho.nvars; omega) 125 [pg g1] (IE m) _ (G3 call125 (fun z hz w9 hf9 => mY m a ix gx _ z w9 (ho.els z hz) ho ((hx.fr0 M.fr).fr0 hf9) ((M.blk 0 rfl).fr0 hf9))) (M.rd hx.md.els)) fun w2 M => ?_))
 iterate 5 refine yb rfl ?_
 refine EF (AG rfl (AF rfl (fun h16 => ?_) (fun h16 => ?_)))
 ·exact AC rfl (AV rfl rfl (gnr (qx_then_ret (BS rfl rfl rfl ⟨congrArg Ending.returned (mV h16), M.fr⟩))))
 ·refine sx_skip (qx_seq (srg (B2 M 0 rfl rfl rfl (AV rfl rfl (yb rfl (yl rfl rfl (Blk.c ((hx.fr0 M.fr).blk) 4 rfl) (ya rfl (CE (us := []) (vs := [pg g1]) rfl rfl rfl) (DV M 24 rfl rfl call113 (TP _ _ m.fls (by have := ho.nfls; have := ho.nels; have := ho.nvars; omega) 127 [pg g1] (MJ m) _ (G3 call127 (fun z hz w9 hf9 => mX m a ix gx _ z w9 (ho.fls z hz) ho ((hx.fr0 M.fr).fr0 hf9) ((M.blk 0 rfl).fr0 hf9) ((hY.fr0 M.fr).fr0 hf9))) (M.rd hx.md.fls)) fun w3 M => ?_))))))))
  iterate 4 refine yb rfl ?_
  exact gnr (BS rfl rfl rfl ⟨congrArg Ending.returned (mU h16), M.fr⟩)
end Go.Proofs.YtaheakjfkpkefaaGreatDoor
