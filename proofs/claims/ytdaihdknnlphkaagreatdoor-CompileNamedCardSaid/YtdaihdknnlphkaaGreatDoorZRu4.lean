/- Lemmas that the last text rests on. Condition: each says its own. -/
import Derived.Test.YtdaihdknnlphkaaGreatDoorZRu3
import Derived.Test.YtdaihdknnlphkaaGreatDoorZEx10
set_option maxHeartbeats 16000000
set_option maxRecDepth 100000
namespace Go.Proofs.YtdaihdknnlphkaaGreatDoor
open Go.RowKit
open Tryz
theorem Lay0.fr0 {w w' : World} (h : Lay0 w) (hf : Fr0 w w') : Lay0 w' := h.fr hf (fun _ hh => hh.elim)
def KZ (m : Md) (y : Fl) : Bool := (if (((decide ((((AO m.els y.frm).getD zeroEl).kind.toNat : Int) = (5 : Int))) && (decide ((1 : Int) < (((BJ m.fls y.frm).length : Nat) : Int)))) && (!decide (((AO m.els y.frm).getD zeroEl).dflt = y.id))) = true then (if (!decide (y.cond = [])) = true then (nQ m.vars y.cond) else false) else (decide (y.cond = [])))
theorem qX (m : Md) (a : MdA) (ix : IxA) (gx gp : Nat) (y : Fl) (w : World) (oy : FlOk y) (ho : MdOk m) (hx : IxAt w m a ix gx) (hp : Blk w gp 67 [pg gx]) (hY : Lay0 w) :
 Calls prog 80 #[.agg y.cells.toArray, pg gp] w fun e w' => e = .returned (.bool (KZ m y)) ∧ Fr0 w w' := by
 have hOl := AQ m.fls y.frm
 have hnf := ho.nfls
 refine AJ (vs := [_, _]) func80 rfl ntmps80 rfl ?_
 have M := CN w
 refine A9 (A0 (B4 M (AA rfl) rfl rfl 41 rfl rfl (Fl.cells y) rfl fun g2 w1 hg2 M => yb rfl (A4 (A5 (A9 (DB 9 (fun w' => Mem w AD [As.blk g2 41 (Fl.cells y)] w') DV ?_))))))
 have M := M.drew
 refine ol 0 9 rfl rfl rfl M (fun _ M => (Blk.c (hp.fr0 M.fr) 0 rfl)) (oc 1 9 rfl rfl M (oc 2 9 rfl rfl M (ol 3 9 rfl rfl rfl M (fun _ M => (Blk.c ((hx.fr0 M.fr).blk) 5 rfl)) (oc 4 9 rfl rfl M (ol 5 9 rfl rfl rfl M (fun _ M => (M.cell 0 rfl rfl)) (oa 6 9 rfl rfl M (fun _ M => CK rfl rfl rfl underlying87 underlying9 B7 ((hx.fr0 M.fr).E) (hx.getE _)) (BG 7 (some 4) (by kernel_rfl) rfl (AA rfl) rfl rfl (fun ρ hρ => C6 39 rfl _ [str [], str [], .int .u8 0, str [], str [], str [], .int .u8 0, str [], str [], .int .i64 0, .int .i64 0] B7 rfl) ?_)))))))
 rintro _ w2 ⟨g4, rfl, hg4, hq4, hb4, hfw2⟩
 refine ⟨fun _ => M.step hfw2, ?_⟩
 have M := M.push hfw2 _ hb4 (DX hg4 hq4)
 replace M : Mem w AD (As.blk g4 39 [str [], str [], .int .u8 0, str [], str [], str [], .int .u8 0, str [], str [], .int .i64 0, .int .i64 0] :: _) w2 := M
 refine BG 8 none (by kernel_rfl) rfl (AA rfl) rfl rfl (fun ρ hρ => BW 39 _ _ rfl g4 0 39 _ (El.cells ((AO m.els y.frm).getD zeroEl)) (hρ _ _ rfl) (hρ _ _ rfl) (M.blk 0 rfl) AP (AI rfl) (AY rfl)) ?_
 rintro _ w3 ⟨rfl, hbw3, hfw3⟩
 replace M : Mem w AD (List.set _ 0 (As.blk g4 39 (El.cells ((AO m.els y.frm).getD zeroEl)))) w3 := M.putB 0 rfl hbw3 hfw3
 refine ⟨fun _ => M.drop 1, BN (by kernel_rfl) (A5 (A9 (A9 (JN DV (by kernel_rfl) ?_))))⟩
 have M := M.drew
 refine sb rfl (sd rfl rfl (M.cell 0 rfl rfl) (sa rfl (BB rfl rfl rfl) (sb rfl (QM 10 [(1, pg gp), (2, pg g2), (4, pg g4), (25, .bool ((decide ((((AO m.els y.frm).getD zeroEl).kind.toNat : Int) = (5 : Int))) && (decide ((1 : Int) < (((BJ m.fls y.frm).length : Nat) : Int)))))] ?_ (fun k15 => ?_)))))
 ·refine sb rfl (QM 6 [(1, pg gp), (2, pg g2), (32, .bool (((decide ((((AO m.els y.frm).getD zeroEl).kind.toNat : Int) = (5 : Int))) && (decide ((1 : Int) < (((BJ m.fls y.frm).length : Nat) : Int)))) && (!decide (((AO m.els y.frm).getD zeroEl).dflt = y.id))))] ?_ (fun k26 => ?_))
  ·refine LQ (A5 (AT (b := (((decide ((((AO m.els y.frm).getD zeroEl).kind.toNat : Int) = (5 : Int))) && (decide ((1 : Int) < (((BJ m.fls y.frm).length : Nat) : Int)))) && (!decide (((AO m.els y.frm).getD zeroEl).dflt = y.id)))) rfl (fun h32 => ?_) (fun h32 => ?_)))
   ·have h32p := (And.intro (And.intro (odt (C9 (C9 h32).1).1) (odt (C9 (C9 h32).1).2)) (odf (C4 (C9 h32).2)))
    refine A9 (GC 11 DV (by kernel_rfl) ?_)
    have M := M.drew
    refine sb rfl (sd rfl rfl (M.cell 1 rfl rfl) (sa rfl (GR rfl rfl rfl) (sb rfl (I9 (d := 36) (b := (!decide (y.cond = []))) rfl (fun h36 => ?_) (fun h36 => ?_)))))
    ·have h36p := (odf (C4 h36))
     refine CZ (AW rfl rfl rfl) rfl rfl (yp rfl) (CZ (AW rfl rfl rfl) rfl rfl (C0 rfl rfl (sc rfl) (M.cell 1 rfl rfl)) (CZ (AW rfl rfl rfl) rfl rfl (C0 rfl rfl (sc rfl) (Blk.c (hp.fr0 M.fr) 0 rfl)) (CZ (AW rfl rfl rfl) rfl rfl (yp rfl) (CZ (AW rfl rfl rfl) rfl rfl (yp rfl) (CZ (AW rfl rfl rfl) rfl rfl (yp rfl) (CZ (AW rfl rfl rfl) rfl rfl (C0 rfl rfl (sc rfl) (Blk.c ((hx.fr0 M.fr).blk) 2 rfl)) (E9 (CF (some 44) (AW rfl rfl rfl) rfl rfl (AE rfl rfl call81) (gW m.vars (by have := ho.nvars; omega) y.cond (by have := oy.cond; omega) _ _ _ (hY.fr0 M.fr) (hx.fr0 M.fr).md.vars) ?_))))))))
     rintro _ w4 ⟨rfl, hfw4⟩
     refine ⟨_, rfl, ?_⟩
     have M := M.step hfw4
     exact yb rfl (yb rfl (A4 (A5 (AF (AB (AK rfl rfl ⟨by rw [KZ, if_pos h32, if_pos h36], M.fr⟩))))))
    ·have h36p := (odt (C5 h36))
     iterate 7 refine K9 rfl rfl rfl rfl rfl rfl ?_
     exact E9 (yo rfl (yb rfl (yb rfl (A4 (A5 (AF (AB (AK rfl rfl ⟨by rw [KZ, if_pos h32, if_neg (BE h36)], M.fr⟩))))))))
   ·have h32p := ((EH h32).imp (fun z => ((EH z).imp (fun z => (odf z)) (fun z => (odf z)))) (fun z => (odt (C5 z))))
    exact AN (A5 (A9 (A0 (yb rfl (yl rfl rfl (M.cell 1 rfl rfl) (ya rfl (DE rfl rfl rfl) (yb rfl (A4 (A5 (AF (AK rfl rfl ⟨by rw [KZ, if_neg (BE h32)], M.fr⟩)))))))))))
  refine I9 (d := 26) (b := ((decide ((((AO m.els y.frm).getD zeroEl).kind.toNat : Int) = (5 : Int))) && (decide ((1 : Int) < (((BJ m.fls y.frm).length : Nat) : Int))))) rfl (fun h26 => ?_) (fun h26 => ?_)
  ·exact CZ (AW rfl rfl rfl) rfl rfl (yp rfl) (CZ (AW rfl rfl rfl) rfl rfl (C0 rfl rfl (sc rfl) (M.cell 0 rfl rfl)) (CZ (AW rfl rfl rfl) rfl rfl (yp rfl) (CZ (AW rfl rfl rfl) rfl rfl (C0 rfl rfl (sc rfl) (M.cell 1 rfl rfl)) (CZ (AW rfl rfl rfl) rfl rfl (GR rfl rfl rfl) (sb rfl (k26 _ ⟨rfl, rfl, (by rw [h26]; rfl), trivial⟩))))))
  ·iterate 5 refine K9 rfl rfl rfl rfl rfl rfl ?_
   exact sb rfl (k26 _ ⟨rfl, rfl, (by rw [h26]; rfl), trivial⟩)
 refine I9 (d := 15) (b := (decide ((((AO m.els y.frm).getD zeroEl).kind.toNat : Int) = (5 : Int)))) rfl (fun h15 => ?_) (fun h15 => ?_)
 ·exact CZ (AW rfl rfl rfl) rfl rfl (C0 rfl rfl (sc rfl) (Blk.c (hp.fr0 M.fr) 0 rfl)) (CZ (AW rfl rfl rfl) rfl rfl (yp rfl) (CZ (AW rfl rfl rfl) rfl rfl (yp rfl) (CZ (AW rfl rfl rfl) rfl rfl (C0 rfl rfl (sc rfl) (Blk.c ((hx.fr0 M.fr).blk) 7 rfl)) (CZ (AW rfl rfl rfl) rfl rfl (yp rfl) (CZ (AW rfl rfl rfl) rfl rfl (C0 rfl rfl (sc rfl) (M.cell 1 rfl rfl)) (CZ (AW rfl rfl rfl) rfl rfl (CK rfl rfl rfl underlying88 underlying9 zr_sl_api_Flow ((hx.fr0 M.fr).O) (hx.getO _)) (CZ (AW rfl rfl rfl) rfl rfl (CS rfl rfl (sl rfl)) (CZ (AW rfl rfl rfl) rfl rfl (FF rfl rfl rfl) (sb rfl (k15 _ ⟨rfl, rfl, rfl, (by rw [h15]; rfl), trivial⟩))))))))))
 ·iterate 9 refine K9 rfl rfl rfl rfl rfl rfl ?_
  exact sb rfl (k15 _ ⟨rfl, rfl, rfl, (by rw [h15]; rfl), trivial⟩)
def aH (m : Md) : Option (List UInt8) := match ffE (HX m) m.els with
 | some k => some k
 | none => ffF (KZ m) m.fls
theorem qV {m : Md} (h : (ffN (fun _ => (HX m)) 0 m.els).isSome = true) : Value.tuple #[str ((ffN (fun _ => (HX m)) 0 m.els).elim [] (fun x => x.id)), .bool true] = JF (aH m) := by
 unfold aH ffE JF
 cases hq : ffN (fun _ => (HX m)) 0 m.els with
 | none => rw [hq] at h; cases h
 | some x => rfl
theorem qU {m : Md} (h : (ffN (fun _ => (HX m)) 0 m.els).isSome = false) : Value.tuple #[str ((ffN (fun _ => (KZ m)) 0 m.fls).elim [] (fun x => x.id)), .bool (ffN (fun _ => (KZ m)) 0 m.fls).isSome] = JF (aH m) := by
 rw [oE]
 unfold aH ffE
 cases hq : ffN (fun _ => (HX m)) 0 m.els with
 | none => rfl
 | some x => rw [hq] at h; cases h
theorem qW (m : Md) (a : MdA) (ix : IxA) (gx : Nat) (w : World) (ho : MdOk m) (hx : IxAt w m a ix gx) (hY : Lay0 w) :
 Calls prog 28 #[pg gx] w fun e w' => e = .returned (JF (aH m)) ∧ Fr0 w w' := by
 refine AJ (vs := [_]) func28 rfl ntmps28 rfl ?_
 have M := CN w
 refine A9 (A0 (B4 M (AA rfl) rfl rfl 67 rfl rfl ([pg gx]) rfl fun g1 w1 hg1 M => yb rfl (yb rfl (A4 (A5 (A9 (A9 (A0 (yl rfl rfl (M.cell 0 rfl rfl) (yb rfl (yb rfl (yb rfl (yl rfl rfl (Blk.c ((hx.fr0 M.fr).blk) 3 rfl) ?_)))))))))))))
 refine ya rfl (CC (us := []) (vs := [pg g1]) rfl rfl rfl) (cp M 13 rfl (AE rfl rfl call63) (IC _ _ m.els (by have := ho.nfls; have := ho.nels; have := ho.nvars; omega) 78 [pg g1] (HX m) _ (GO call78 (fun z hz w9 hf9 => qY m a ix gx _ z w9 (ho.els z hz) ho ((hx.fr0 M.fr).fr0 hf9) ((M.blk 0 rfl).fr0 hf9))) (M.rd hx.md.els)) fun w2 M => ?_)
 iterate 5 refine yb rfl ?_
 refine A4 (A5 (A9 (A0 (yb rfl (A4 (A5 (AT (b := (ffN (fun _ => (HX m)) 0 m.els).isSome) rfl (fun h16 => ?_) (fun h16 => ?_))))))))
 ·exact A9 (A0 (yb rfl (yb rfl (yb rfl (A4 (A5 (AF (AB (CA rfl rfl rfl ⟨congrArg Ending.returned (qV h16), M.fr⟩)))))))))
 ·refine AN (A5 (A9 (A0 (yl rfl rfl (M.cell 0 rfl rfl) (yb rfl (yb rfl (yb rfl (yl rfl rfl (Blk.c ((hx.fr0 M.fr).blk) 4 rfl) (ya rfl (CC (us := []) (vs := [pg g1]) rfl rfl rfl) (cp M 24 rfl (AE rfl rfl call66) (V4 _ _ m.fls (by have := ho.nfls; have := ho.nels; have := ho.nvars; omega) 80 [pg g1] (KZ m) _ (GO call80 (fun z hz w9 hf9 => qX m a ix gx _ z w9 (ho.fls z hz) ho ((hx.fr0 M.fr).fr0 hf9) ((M.blk 0 rfl).fr0 hf9) ((hY.fr0 M.fr).fr0 hf9))) (M.rd hx.md.fls)) fun w3 M => ?_))))))))))
  iterate 4 refine yb rfl ?_
  exact A4 (A5 (AF (CA rfl rfl rfl ⟨congrArg Ending.returned (qU h16), M.fr⟩)))
end Go.Proofs.YtdaihdknnlphkaaGreatDoor
