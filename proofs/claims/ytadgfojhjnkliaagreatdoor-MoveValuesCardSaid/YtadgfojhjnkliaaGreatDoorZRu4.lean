/- Lemmas that the last text rests on. Condition: each says its own. -/
import Derived.Test.YtadgfojhjnkliaaGreatDoorZRu3
import Derived.Test.YtadgfojhjnkliaaGreatDoorZEx10
set_option maxHeartbeats 16000000
set_option maxRecDepth 100000
namespace Go.Proofs.YtadgfojhjnkliaaGreatDoor
open Go.RowKit
open Tryz
theorem Lay0.fr0 {w w' : World} (h : Lay0 w) (hf : Fr0 w w') : Lay0 w' := h.fr hf (fun _ hh => hh.elim)
def OH (m : Md) (y : Fl) : Bool := (if (((decide ((((AS m.els y.frm).getD zeroEl).kind.toNat : Int) = (5 : Int))) && (decide ((1 : Int) < (((BK m.fls y.frm).length : Nat) : Int)))) && (!decide (((AS m.els y.frm).getD zeroEl).dflt = y.id))) = true then (if (!decide (y.cond = [])) = true then (jD m.vars y.cond) else false) else (decide (y.cond = [])))
theorem mT (m : Md) (a : MdA) (ix : IxA) (gx gp : Nat) (y : Fl) (w : World) (oy : FlOk y) (ho : MdOk m) (hx : IxAt w m a ix gx) (hp : Blk w gp 87 [pg gx]) (hY : Lay0 w) :
 Calls prog 91 #[.agg y.cells.toArray, pg gp] w fun e w' => e = .returned (.bool (OH m y)) ∧ Fr0 w w' := by
 have hOl := DM m.fls y.frm
 have hnf := ho.nfls
 refine AK (vs := [_, _]) func91 rfl ntmps91 rfl ?_
 have M := CK w
 refine A4 (A0 (BD M (A9 rfl) rfl rfl 65 rfl rfl (Fl.cells y) rfl fun g2 w1 hg2 M => yb rfl (A1 (A2 (A4 (D8 9 (fun w' => Mem w AB [As.blk g2 65 (Fl.cells y)] w') DT ?_))))))
 have M := M.drew
 refine ol 0 9 rfl rfl rfl M (fun _ M => (Blk.c (hp.fr0 M.fr) 0 rfl)) (oc 1 9 rfl rfl M (oc 2 9 rfl rfl M (ol 3 9 rfl rfl rfl M (fun _ M => (Blk.c ((hx.fr0 M.fr).blk) 5 rfl)) (oc 4 9 rfl rfl M (ol 5 9 rfl rfl rfl M (fun _ M => (M.cell 0 rfl rfl)) (oa 6 9 rfl rfl M (fun _ M => C2 rfl rfl rfl underlying55 underlying9 AY ((hx.fr0 M.fr).E) (hx.getE _)) (B3 7 (some 4) (by kernel_rfl) rfl (A9 rfl) rfl rfl (fun ρ hρ => BX 62 rfl _ [str [], str [], .int .u8 0, str [], str [], str [], .int .u8 0, str [], str [], .int .i64 0, .int .i64 0] AY rfl) ?_)))))))
 rintro _ w2 ⟨g4, rfl, hg4, hq4, hb4, hfw2⟩
 refine ⟨fun _ => M.step hfw2, ?_⟩
 have M := M.push hfw2 _ hb4 (DA hg4 hq4)
 replace M : Mem w AB (As.blk g4 62 [str [], str [], .int .u8 0, str [], str [], str [], .int .u8 0, str [], str [], .int .i64 0, .int .i64 0] :: _) w2 := M
 refine B3 8 none (by kernel_rfl) rfl (A9 rfl) rfl rfl (fun ρ hρ => BP 62 _ _ rfl g4 0 62 _ (El.cells ((AS m.els y.frm).getD zeroEl)) (hρ _ _ rfl) (hρ _ _ rfl) (M.blk 0 rfl) AU (AP rfl) (AW rfl)) ?_
 rintro _ w3 ⟨rfl, hbw3, hfw3⟩
 replace M : Mem w AB (List.set _ 0 (As.blk g4 62 (El.cells ((AS m.els y.frm).getD zeroEl)))) w3 := M.putB 0 rfl hbw3 hfw3
 refine ⟨fun _ => M.drop 1, BJ (by kernel_rfl) (A2 (A4 (A4 (GV DT (by kernel_rfl) ?_))))⟩
 have M := M.drew
 refine sb rfl (sd rfl rfl (M.cell 0 rfl rfl) (sa rfl (B9 rfl rfl rfl) (sb rfl (M9 10 [(1, pg gp), (2, pg g2), (4, pg g4), (25, .bool ((decide ((((AS m.els y.frm).getD zeroEl).kind.toNat : Int) = (5 : Int))) && (decide ((1 : Int) < (((BK m.fls y.frm).length : Nat) : Int)))))] ?_ (fun k15 => ?_)))))
 ·refine sb rfl (M9 6 [(1, pg gp), (2, pg g2), (32, .bool (((decide ((((AS m.els y.frm).getD zeroEl).kind.toNat : Int) = (5 : Int))) && (decide ((1 : Int) < (((BK m.fls y.frm).length : Nat) : Int)))) && (!decide (((AS m.els y.frm).getD zeroEl).dflt = y.id))))] ?_ (fun k26 => ?_))
  ·refine IP (A2 (AQ (b := (((decide ((((AS m.els y.frm).getD zeroEl).kind.toNat : Int) = (5 : Int))) && (decide ((1 : Int) < (((BK m.fls y.frm).length : Nat) : Int)))) && (!decide (((AS m.els y.frm).getD zeroEl).dflt = y.id)))) rfl (fun h32 => ?_) (fun h32 => ?_)))
   ·have h32p := (And.intro (And.intro (odt (C5 (C5 h32).1).1) (odt (C5 (C5 h32).1).2)) (odf (C1 (C5 h32).2)))
    refine A4 (GP 11 DT (by kernel_rfl) ?_)
    have M := M.drew
    refine sb rfl (sd rfl rfl (M.cell 1 rfl rfl) (sa rfl (HD rfl rfl rfl) (sb rfl (GH (d := 36) (b := (!decide (y.cond = []))) rfl (fun h36 => ?_) (fun h36 => ?_)))))
    ·have h36p := (odf (C1 h36))
     refine CN (B7 rfl rfl rfl) rfl rfl (yp rfl) (CN (B7 rfl rfl rfl) rfl rfl (CO rfl rfl (sc rfl) (M.cell 1 rfl rfl)) (CN (B7 rfl rfl rfl) rfl rfl (CO rfl rfl (sc rfl) (Blk.c (hp.fr0 M.fr) 0 rfl)) (CN (B7 rfl rfl rfl) rfl rfl (yp rfl) (CN (B7 rfl rfl rfl) rfl rfl (yp rfl) (CN (B7 rfl rfl rfl) rfl rfl (yp rfl) (CN (B7 rfl rfl rfl) rfl rfl (CO rfl rfl (sc rfl) (Blk.c ((hx.fr0 M.fr).blk) 2 rfl)) (EJ (CC (some 44) (B7 rfl rfl rfl) rfl rfl (AF rfl rfl call92) (cW m.vars (by have := ho.nvars; omega) y.cond (by have := oy.cond; omega) _ _ _ (hY.fr0 M.fr) (hx.fr0 M.fr).md.vars) ?_))))))))
     rintro _ w4 ⟨rfl, hfw4⟩
     refine ⟨_, rfl, ?_⟩
     have M := M.step hfw4
     exact yb rfl (yb rfl (A1 (A2 (AD (AA (AH rfl rfl ⟨by rw [OH, if_pos h32, if_pos h36], M.fr⟩))))))
    ·have h36p := (odt (C3 h36))
     iterate 7 refine IO rfl rfl rfl rfl rfl rfl ?_
     exact EJ (yo rfl (yb rfl (yb rfl (A1 (A2 (AD (AA (AH rfl rfl ⟨by rw [OH, if_pos h32, if_neg (BA h36)], M.fr⟩))))))))
   ·have h32p := ((E9 h32).imp (fun z => ((E9 z).imp (fun z => (odf z)) (fun z => (odf z)))) (fun z => (odt (C3 z))))
    exact AL (A2 (A4 (A0 (yb rfl (yl rfl rfl (M.cell 1 rfl rfl) (ya rfl (DG rfl rfl rfl) (yb rfl (A1 (A2 (AD (AH rfl rfl ⟨by rw [OH, if_neg (BA h32)], M.fr⟩)))))))))))
  refine GH (d := 26) (b := ((decide ((((AS m.els y.frm).getD zeroEl).kind.toNat : Int) = (5 : Int))) && (decide ((1 : Int) < (((BK m.fls y.frm).length : Nat) : Int))))) rfl (fun h26 => ?_) (fun h26 => ?_)
  ·exact CN (B7 rfl rfl rfl) rfl rfl (yp rfl) (CN (B7 rfl rfl rfl) rfl rfl (CO rfl rfl (sc rfl) (M.cell 0 rfl rfl)) (CN (B7 rfl rfl rfl) rfl rfl (yp rfl) (CN (B7 rfl rfl rfl) rfl rfl (CO rfl rfl (sc rfl) (M.cell 1 rfl rfl)) (CN (B7 rfl rfl rfl) rfl rfl (HD rfl rfl rfl) (sb rfl (k26 _ ⟨rfl, rfl, (by rw [h26]; rfl), trivial⟩))))))
  ·iterate 5 refine IO rfl rfl rfl rfl rfl rfl ?_
   exact sb rfl (k26 _ ⟨rfl, rfl, (by rw [h26]; rfl), trivial⟩)
 refine GH (d := 15) (b := (decide ((((AS m.els y.frm).getD zeroEl).kind.toNat : Int) = (5 : Int)))) rfl (fun h15 => ?_) (fun h15 => ?_)
 ·exact CN (B7 rfl rfl rfl) rfl rfl (CO rfl rfl (sc rfl) (Blk.c (hp.fr0 M.fr) 0 rfl)) (CN (B7 rfl rfl rfl) rfl rfl (yp rfl) (CN (B7 rfl rfl rfl) rfl rfl (yp rfl) (CN (B7 rfl rfl rfl) rfl rfl (CO rfl rfl (sc rfl) (Blk.c ((hx.fr0 M.fr).blk) 7 rfl)) (CN (B7 rfl rfl rfl) rfl rfl (yp rfl) (CN (B7 rfl rfl rfl) rfl rfl (CO rfl rfl (sc rfl) (M.cell 1 rfl rfl)) (CN (B7 rfl rfl rfl) rfl rfl (C2 rfl rfl rfl underlying137 underlying9 zr_sl_api_Flow ((hx.fr0 M.fr).O) (hx.getO _)) (CN (B7 rfl rfl rfl) rfl rfl (CY rfl rfl (sl rfl)) (CN (B7 rfl rfl rfl) rfl rfl (FR rfl rfl rfl) (sb rfl (k15 _ ⟨rfl, rfl, rfl, (by rw [h15]; rfl), trivial⟩))))))))))
 ·iterate 9 refine IO rfl rfl rfl rfl rfl rfl ?_
  exact sb rfl (k15 _ ⟨rfl, rfl, rfl, (by rw [h15]; rfl), trivial⟩)
def cP (m : Md) : Option (List UInt8) := match ffE (JT m) m.els with
 | some k => some k
 | none => ffF (OH m) m.fls
theorem mR {m : Md} (h : (ffN (fun _ => (JT m)) 0 m.els).isSome = true) : Value.tuple #[str ((ffN (fun _ => (JT m)) 0 m.els).elim [] (fun x => x.id)), .bool true] = IU (cP m) := by
 unfold cP ffE IU
 cases hq : ffN (fun _ => (JT m)) 0 m.els with
 | none => rw [hq] at h; cases h
 | some x => rfl
theorem mQ {m : Md} (h : (ffN (fun _ => (JT m)) 0 m.els).isSome = false) : Value.tuple #[str ((ffN (fun _ => (OH m)) 0 m.fls).elim [] (fun x => x.id)), .bool (ffN (fun _ => (OH m)) 0 m.fls).isSome] = IU (cP m) := by
 rw [kA]
 unfold cP ffE
 cases hq : ffN (fun _ => (JT m)) 0 m.els with
 | none => rfl
 | some x => rw [hq] at h; cases h
theorem mS (m : Md) (a : MdA) (ix : IxA) (gx : Nat) (w : World) (ho : MdOk m) (hx : IxAt w m a ix gx) (hY : Lay0 w) :
 Calls prog 36 #[pg gx] w fun e w' => e = .returned (IU (cP m)) ∧ Fr0 w w' := by
 refine AK (vs := [_]) func36 rfl ntmps36 rfl ?_
 have M := CK w
 refine A4 (A0 (BD M (A9 rfl) rfl rfl 87 rfl rfl ([pg gx]) rfl fun g1 w1 hg1 M => yb rfl (yb rfl (A1 (A2 (A4 (A4 (A0 (yl rfl rfl (M.cell 0 rfl rfl) (yb rfl (yb rfl (yb rfl (yl rfl rfl (Blk.c ((hx.fr0 M.fr).blk) 3 rfl) ?_)))))))))))))
 refine ya rfl (CT (us := []) (vs := [pg g1]) rfl rfl rfl) (cp M 13 rfl (AF rfl rfl call74) (HZ _ _ m.els (by have := ho.nfls; have := ho.nels; have := ho.nvars; omega) 89 [pg g1] (JT m) _ (GE call89 (fun z hz w9 hf9 => mU m a ix gx _ z w9 (ho.els z hz) ho ((hx.fr0 M.fr).fr0 hf9) ((M.blk 0 rfl).fr0 hf9))) (M.rd hx.md.els)) fun w2 M => ?_)
 iterate 5 refine yb rfl ?_
 refine A1 (A2 (A4 (A0 (yb rfl (A1 (A2 (AQ (b := (ffN (fun _ => (JT m)) 0 m.els).isSome) rfl (fun h16 => ?_) (fun h16 => ?_))))))))
 ·exact A4 (A0 (yb rfl (yb rfl (yb rfl (A1 (A2 (AD (AA (BY rfl rfl rfl ⟨congrArg Ending.returned (mR h16), M.fr⟩)))))))))
 ·refine AL (A2 (A4 (A0 (yl rfl rfl (M.cell 0 rfl rfl) (yb rfl (yb rfl (yb rfl (yl rfl rfl (Blk.c ((hx.fr0 M.fr).blk) 4 rfl) (ya rfl (CT (us := []) (vs := [pg g1]) rfl rfl rfl) (cp M 24 rfl (AF rfl rfl call77) (T8 _ _ m.fls (by have := ho.nfls; have := ho.nels; have := ho.nvars; omega) 91 [pg g1] (OH m) _ (GE call91 (fun z hz w9 hf9 => mT m a ix gx _ z w9 (ho.fls z hz) ho ((hx.fr0 M.fr).fr0 hf9) ((M.blk 0 rfl).fr0 hf9) ((hY.fr0 M.fr).fr0 hf9))) (M.rd hx.md.fls)) fun w3 M => ?_))))))))))
  iterate 4 refine yb rfl ?_
  exact A1 (A2 (AD (BY rfl rfl rfl ⟨congrArg Ending.returned (mQ h16), M.fr⟩)))
end Go.Proofs.YtadgfojhjnkliaaGreatDoor
