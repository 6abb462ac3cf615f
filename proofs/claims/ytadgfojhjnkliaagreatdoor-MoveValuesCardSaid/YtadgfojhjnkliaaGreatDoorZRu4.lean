/- The rules of the program: six: printed by gw/ru4.py. Conditions: as Ex3's. -/
import Derived.Test.YtadgfojhjnkliaaGreatDoorZRu3
import Derived.Test.YtadgfojhjnkliaaGreatDoorZEx10
set_option maxHeartbeats 16000000
set_option maxRecDepth 100000
namespace Go.Proofs.YtadgfojhjnkliaaGreatDoor
open Go.RowKit
theorem Lay0.fr0 {w w' : World} (h : Lay0 w) (hf : Fr0 w w') : Lay0 w' := h.fr hf (fun _ hh => hh.elim)
def OD (m : Md) (y : Fl) : Bool := (if (((decide ((((AT m.els y.frm).getD zeroEl).kind.toNat : Int) = (5 : Int))) && (decide ((1 : Int) < (((BN m.fls y.frm).length : Nat) : Int)))) && (!decide (((AT m.els y.frm).getD zeroEl).dflt = y.id))) = true then (if (!decide (y.cond = [])) = true then (jC m.vars y.cond) else false) else (decide (y.cond = [])))
theorem mS (m : Md) (a : MdA) (ix : IxA) (gx gp : Nat) (y : Fl) (w : World) (oy : FlOk y) (ho : MdOk m) (hx : IxAt w m a ix gx) (hp : Blk w gp 87 [.pointer (some ⟨gx, 0, none⟩)]) (hY : Lay0 w) :
 Calls Tryz.prog 91 #[.agg y.cells.toArray, .pointer (some ⟨gp, 0, none⟩)] w fun e w' => e = .returned (.bool (OD m y)) ∧ Fr0 w w' := by
 have hOl := DM m.fls y.frm
 have hnf := ho.nfls
 refine AL (vs := [_, _]) Tryz.func91 rfl Tryz.ntmps91 rfl ?_
 have M := CM w
 refine A9 (A0 (BG M (A4 rfl) rfl rfl 65 rfl rfl (Fl.cells y) rfl fun g2 w1 hg2 M => yb rfl (A1 (A2 (A9 (D8 9 (fun w' => Mem w AB [As.blk g2 65 (Fl.cells y)] w') DT ?_))))))
 have M := M.drew
 refine oa 0 9 rfl rfl M (fun _ M => AW rfl rfl (sc rfl) (Blk.c (hp.fr0 M.fr) 0 rfl)) (oc 1 9 rfl rfl M (oc 2 9 rfl rfl M (oa 3 9 rfl rfl M (fun _ M => AW rfl rfl (sc rfl) (Blk.c ((hx.fr0 M.fr).blk) 5 rfl)) (oc 4 9 rfl rfl M (oa 5 9 rfl rfl M (fun _ M => AW rfl rfl (sc rfl) (M.cell 0 rfl rfl)) (oa 6 9 rfl rfl M (fun _ M => C5 rfl rfl rfl Tryz.underlying55 Tryz.underlying9 B4 ((hx.fr0 M.fr).E) (hx.getE _)) (B6 7 (some 4) (by kernel_rfl) rfl (A4 rfl) rfl rfl (fun ρ hρ => C0 62 rfl _ [str [], str [], .int .u8 0, str [], str [], str [], .int .u8 0, str [], str [], .int .i64 0, .int .i64 0] B4 rfl) ?_)))))))
 rintro _ w2 ⟨g4, rfl, hg4, hq4, hb4, hfw2⟩
 refine ⟨fun _ => M.step hfw2, ?_⟩
 have M := M.push hfw2 _ hb4 (DA hg4 hq4)
 replace M : Mem w AB (As.blk g4 62 [str [], str [], .int .u8 0, str [], str [], str [], .int .u8 0, str [], str [], .int .i64 0, .int .i64 0] :: _) w2 := M
 refine B6 8 none (by kernel_rfl) rfl (A4 rfl) rfl rfl (fun ρ hρ => BT 62 _ _ rfl g4 0 62 _ (El.cells ((AT m.els y.frm).getD zeroEl)) (hρ _ _ rfl) (hρ _ _ rfl) (M.blk 0 rfl) AY (AQ rfl) (B3 rfl)) ?_
 rintro _ w3 ⟨rfl, hbw3, hfw3⟩
 replace M : Mem w AB (List.set _ 0 (As.blk g4 62 (El.cells ((AT m.els y.frm).getD zeroEl)))) w3 := M.putB 0 rfl hbw3 hfw3
 refine ⟨fun _ => M.drop 1, BM (by kernel_rfl) (A2 (A9 (A9 (GV DT (by kernel_rfl) ?_))))⟩
 have M := M.drew
 refine AU (A4 rfl) rfl rfl (yp rfl) (AU (A4 rfl) rfl rfl (AW rfl rfl (sc rfl) (M.cell 0 rfl rfl)) (AU (A4 rfl) rfl rfl (BC rfl rfl rfl) (AU (A4 rfl) rfl rfl (yp rfl) (M8 10 [(1, .pointer (some ⟨gp, 0, none⟩)), (2, .pointer (some ⟨g2, 0, none⟩)), (4, .pointer (some ⟨g4, 0, none⟩)), (25, .bool ((decide ((((AT m.els y.frm).getD zeroEl).kind.toNat : Int) = (5 : Int))) && (decide ((1 : Int) < (((BN m.fls y.frm).length : Nat) : Int)))))] ?_ (fun k15 => ?_)))))
 ·refine AU (A4 rfl) rfl rfl (yp rfl) (M8 6 [(1, .pointer (some ⟨gp, 0, none⟩)), (2, .pointer (some ⟨g2, 0, none⟩)), (32, .bool (((decide ((((AT m.els y.frm).getD zeroEl).kind.toNat : Int) = (5 : Int))) && (decide ((1 : Int) < (((BN m.fls y.frm).length : Nat) : Int)))) && (!decide (((AT m.els y.frm).getD zeroEl).dflt = y.id))))] ?_ (fun k26 => ?_))
  ·refine IP (A2 (AR (b := (((decide ((((AT m.els y.frm).getD zeroEl).kind.toNat : Int) = (5 : Int))) && (decide ((1 : Int) < (((BN m.fls y.frm).length : Nat) : Int)))) && (!decide (((AT m.els y.frm).getD zeroEl).dflt = y.id)))) rfl (fun h32 => ?_) (fun h32 => ?_)))
   ·have h32p := (And.intro (And.intro (of_decide_eq_true (C8 (C8 h32).1).1) (of_decide_eq_true (C8 (C8 h32).1).2)) (of_decide_eq_false (C4 (C8 h32).2)))
    refine A9 (GP 11 DT (by kernel_rfl) ?_)
    have M := M.drew
    refine AU (A4 rfl) rfl rfl (yp rfl) (AU (A4 rfl) rfl rfl (AW rfl rfl (sc rfl) (M.cell 1 rfl rfl)) (AU (A4 rfl) rfl rfl (HD rfl rfl rfl) (AU (A4 rfl) rfl rfl (yp rfl) (GH (d := 36) (b := (!decide (y.cond = []))) rfl (fun h36 => ?_) (fun h36 => ?_)))))
    ·have h36p := (of_decide_eq_false (C4 h36))
     refine AU (BA rfl rfl rfl) rfl rfl (yp rfl) (AU (BA rfl rfl rfl) rfl rfl (AW rfl rfl (sc rfl) (M.cell 1 rfl rfl)) (AU (BA rfl rfl rfl) rfl rfl (AW rfl rfl (sc rfl) (Blk.c (hp.fr0 M.fr) 0 rfl)) (AU (BA rfl rfl rfl) rfl rfl (yp rfl) (AU (BA rfl rfl rfl) rfl rfl (yp rfl) (AU (BA rfl rfl rfl) rfl rfl (yp rfl) (AU (BA rfl rfl rfl) rfl rfl (AW rfl rfl (sc rfl) (Blk.c ((hx.fr0 M.fr).blk) 2 rfl)) (EJ (AC (some 44) (BA rfl rfl rfl) rfl rfl (AG rfl rfl Tryz.call92) (cU m.vars (by have := ho.nvars; omega) y.cond (by have := oy.cond; omega) _ _ _ (hY.fr0 M.fr) (hx.fr0 M.fr).md.vars) ?_))))))))
     rintro _ w4 ⟨rfl, hfw4⟩
     refine ⟨_, rfl, ?_⟩
     have M := M.step hfw4
     exact yb rfl (yb rfl (A1 (A2 (AE (AA (AI rfl rfl ⟨by rw [OD, if_pos h32, if_pos h36], M.fr⟩))))))
    ·have h36p := (of_decide_eq_true (C6 h36))
     iterate 7 refine IO rfl rfl rfl rfl rfl rfl ?_
     exact EJ (yo rfl (yb rfl (yb rfl (A1 (A2 (AE (AA (AI rfl rfl ⟨by rw [OD, if_pos h32, if_neg (BD h36)], M.fr⟩))))))))
   ·have h32p := ((E9 h32).imp (fun z => ((E9 z).imp (fun z => (of_decide_eq_false z)) (fun z => (of_decide_eq_false z)))) (fun z => (of_decide_eq_true (C6 z))))
    exact AM (A2 (A9 (A0 (yb rfl (yl rfl rfl (M.cell 1 rfl rfl) (ya rfl (DG rfl rfl rfl) (yb rfl (A1 (A2 (AE (AI rfl rfl ⟨by rw [OD, if_neg (BD h32)], M.fr⟩)))))))))))
  refine GH (d := 26) (b := ((decide ((((AT m.els y.frm).getD zeroEl).kind.toNat : Int) = (5 : Int))) && (decide ((1 : Int) < (((BN m.fls y.frm).length : Nat) : Int))))) rfl (fun h26 => ?_) (fun h26 => ?_)
  ·exact AU (BA rfl rfl rfl) rfl rfl (yp rfl) (AU (BA rfl rfl rfl) rfl rfl (AW rfl rfl (sc rfl) (M.cell 0 rfl rfl)) (AU (BA rfl rfl rfl) rfl rfl (yp rfl) (AU (BA rfl rfl rfl) rfl rfl (AW rfl rfl (sc rfl) (M.cell 1 rfl rfl)) (AU (BA rfl rfl rfl) rfl rfl (HD rfl rfl rfl) (AU (A4 rfl) rfl rfl (yp rfl) (k26 _ ⟨rfl, rfl, (by rw [h26]; rfl), trivial⟩))))))
  ·iterate 5 refine IO rfl rfl rfl rfl rfl rfl ?_
   exact AU (A4 rfl) rfl rfl (yp rfl) (k26 _ ⟨rfl, rfl, (by rw [h26]; rfl), trivial⟩)
 refine GH (d := 15) (b := (decide ((((AT m.els y.frm).getD zeroEl).kind.toNat : Int) = (5 : Int)))) rfl (fun h15 => ?_) (fun h15 => ?_)
 ·exact AU (BA rfl rfl rfl) rfl rfl (AW rfl rfl (sc rfl) (Blk.c (hp.fr0 M.fr) 0 rfl)) (AU (BA rfl rfl rfl) rfl rfl (yp rfl) (AU (BA rfl rfl rfl) rfl rfl (yp rfl) (AU (BA rfl rfl rfl) rfl rfl (AW rfl rfl (sc rfl) (Blk.c ((hx.fr0 M.fr).blk) 7 rfl)) (AU (BA rfl rfl rfl) rfl rfl (yp rfl) (AU (BA rfl rfl rfl) rfl rfl (AW rfl rfl (sc rfl) (M.cell 1 rfl rfl)) (AU (BA rfl rfl rfl) rfl rfl (C5 rfl rfl rfl Tryz.underlying137 Tryz.underlying9 zr_sl_api_Flow ((hx.fr0 M.fr).O) (hx.getO _)) (AU (BA rfl rfl rfl) rfl rfl (CY rfl rfl (sl rfl)) (AU (BA rfl rfl rfl) rfl rfl (FR rfl rfl rfl) (AU (A4 rfl) rfl rfl (yp rfl) (k15 _ ⟨rfl, rfl, rfl, (by rw [h15]; rfl), trivial⟩))))))))))
 ·iterate 9 refine IO rfl rfl rfl rfl rfl rfl ?_
  exact AU (A4 rfl) rfl rfl (yp rfl) (k15 _ ⟨rfl, rfl, rfl, (by rw [h15]; rfl), trivial⟩)
def cN (m : Md) : Option (List UInt8) := match ffE (JS m) m.els with
 | some k => some k
 | none => ffF (OD m) m.fls
theorem mQ {m : Md} (h : (ffN (fun _ => (JS m)) 0 m.els).isSome = true) : Value.tuple #[str ((ffN (fun _ => (JS m)) 0 m.els).elim [] (fun x => x.id)), .bool true] = IU (cN m) := by
 unfold cN ffE IU
 cases hq : ffN (fun _ => (JS m)) 0 m.els with
 | none => rw [hq] at h; cases h
 | some x => rfl
theorem mP {m : Md} (h : (ffN (fun _ => (JS m)) 0 m.els).isSome = false) : Value.tuple #[str ((ffN (fun _ => (OD m)) 0 m.fls).elim [] (fun x => x.id)), .bool (ffN (fun _ => (OD m)) 0 m.fls).isSome] = IU (cN m) := by
 rw [jZ]
 unfold cN ffE
 cases hq : ffN (fun _ => (JS m)) 0 m.els with
 | none => rfl
 | some x => rw [hq] at h; cases h
theorem mR (m : Md) (a : MdA) (ix : IxA) (gx : Nat) (w : World) (ho : MdOk m) (hx : IxAt w m a ix gx) (hY : Lay0 w) :
 Calls Tryz.prog 36 #[.pointer (some ⟨gx, 0, none⟩)] w fun e w' => e = .returned (IU (cN m)) ∧ Fr0 w w' := by
 refine AL (vs := [_]) Tryz.func36 rfl Tryz.ntmps36 rfl ?_
 have M := CM w
 refine A9 (A0 (BG M (A4 rfl) rfl rfl 87 rfl rfl ([.pointer (some ⟨gx, 0, none⟩)]) rfl fun g1 w1 hg1 M => yb rfl (yb rfl (A1 (A2 (A9 (A9 (A0 (yl rfl rfl (M.cell 0 rfl rfl) (yb rfl (yb rfl (yb rfl (yl rfl rfl (Blk.c ((hx.fr0 M.fr).blk) 3 rfl) ?_)))))))))))))
 refine ya rfl (CT (us := []) (vs := [.pointer (some ⟨g1, 0, none⟩)]) rfl rfl rfl) (AC (some 13) (A4 rfl) rfl rfl (AG rfl rfl Tryz.call74) (HY _ _ m.els (by have := ho.nfls; have := ho.nels; have := ho.nvars; omega) 89 [.pointer (some ⟨g1, 0, none⟩)] (JS m) _ (GE Tryz.call89 (fun z hz w9 hf9 => mT m a ix gx _ z w9 (ho.els z hz) ho ((hx.fr0 M.fr).fr0 hf9) ((M.blk 0 rfl).fr0 hf9))) (M.rd hx.md.els)) ?_)
 rintro _ w2 ⟨rfl, hfw2⟩
 refine ⟨_, rfl, ?_⟩
 have M := M.step hfw2
 iterate 5 refine yb rfl ?_
 refine A1 (A2 (A9 (A0 (yb rfl (A1 (A2 (AR (b := (ffN (fun _ => (JS m)) 0 m.els).isSome) rfl (fun h16 => ?_) (fun h16 => ?_))))))))
 ·exact A9 (A0 (yb rfl (yb rfl (yb rfl (A1 (A2 (AE (AA (C1 rfl rfl rfl ⟨congrArg Ending.returned (mQ h16), M.fr⟩)))))))))
 ·refine AM (A2 (A9 (A0 (yl rfl rfl (M.cell 0 rfl rfl) (yb rfl (yb rfl (yb rfl (yl rfl rfl (Blk.c ((hx.fr0 M.fr).blk) 4 rfl) (ya rfl (CT (us := []) (vs := [.pointer (some ⟨g1, 0, none⟩)]) rfl rfl rfl) (AC (some 24) (A4 rfl) rfl rfl (AG rfl rfl Tryz.call77) (T6 _ _ m.fls (by have := ho.nfls; have := ho.nels; have := ho.nvars; omega) 91 [.pointer (some ⟨g1, 0, none⟩)] (OD m) _ (GE Tryz.call91 (fun z hz w9 hf9 => mS m a ix gx _ z w9 (ho.fls z hz) ho ((hx.fr0 M.fr).fr0 hf9) ((M.blk 0 rfl).fr0 hf9) ((hY.fr0 M.fr).fr0 hf9))) (M.rd hx.md.fls)) ?_))))))))))
  rintro _ w3 ⟨rfl, hfw3⟩
  refine ⟨_, rfl, ?_⟩
  have M := M.step hfw3
  iterate 4 refine yb rfl ?_
  exact A1 (A2 (AE (C1 rfl rfl rfl ⟨congrArg Ending.returned (mP h16), M.fr⟩)))
end Go.Proofs.YtadgfojhjnkliaaGreatDoor
