/- Lemmas that the last text rests on. Condition: each says its own. -/
import Derived.Test.YtadgfojhjnkliaaGreatDoorZMv6
set_option maxHeartbeats 16000000
set_option maxRecDepth 100000
namespace Go.Proofs.YtadgfojhjnkliaaGreatDoor
open Go.RowKit
open Tryz
theorem pU {e : Env} {w : World} {o : Oper} {x : Operand} {b : Fl} (ho : o.op = .field 65 x 2) (hx : ev e x = some (.agg b.cells.toArray)) : Y prog e o w (str b.tg) := fun ρ h => by
 unfold execOp
 simp [ho, h _ _ hx, Instr.field, run_underlying underlying65, asAgg, part, isAgg9, Fl.cells]
theorem EH (m : Md) (id : List UInt8) : (CS m id).length ≤ m.els.length := by unfold CS; rw [List.length_map]; exact List.length_filter_le _ _
def d6 (c : CrA) (t : Tk) : List (List UInt8) :=
 if ((decide (((c.atf t.loc).kind.toNat : Int) = (3 : Int))) || (decide (((c.atf t.loc).kind.toNat : Int) = (8 : Int)))) = true then [t.loc]
 else if (decide (((c.atf t.loc).kind.toNat : Int) = (7 : Int))) = true then (c.outs t.loc).map (fun k => (c.flf k).tg)
 else []
def DI (m : Md) (c : CrA) (t : Tk) : List (List UInt8) :=
 if (decide (t.loc = [])) = true then [] else d6 c t ++ ([t.loc] ++ AO m.els t.loc).flatMap (CS m)
theorem m6 (m : Md) (gc : Nat) (c : CrA) (F : List Nat) (t : Tk) (w : World) (ho : MdOk m) (hC : CourseN w m gc c F) :
 Calls prog 18 #[pg gc, .agg t.cells.toArray] w fun e w' => ∃ A c', e = .returned (.slice A (DI m c t).length c') ∧ w'.ownsRow w.heap.size 9 1 (.slice A (DI m c t).length c') (DI m c t).length (AR C4 (DI m c t)) ∧ Fr0 w w' := by
 have hne := ho.nels
 have hnf := ho.nfls
 have hol := hC.lenO t.loc
 have har := KG m.els t.loc
 have hAL : ([t.loc] ++ (AO m.els t.loc)).length ≤ 65 := by rw [List.length_append, List.length_cons, List.length_nil]; omega
 refine AK (vs := [_, _]) func18 rfl ntmps18 rfl ?_
 have M := CK w
 refine A4 (A0 (BD M (A9 rfl) rfl rfl 29 rfl rfl (Tk.cells t) rfl fun g3 w1 hg3 M => yb rfl (A1 (A2 (A4 (A4 (A0 (yb rfl (yl rfl rfl (M.cell 0 rfl rfl) (ya rfl (DG rfl rfl rfl) (A1 (A2 (AQ (b := (decide (t.loc = []))) rfl (fun h12 => ?_) (fun h12 => ?_))))))))))))))
 ·have h12p := (odt h12)
  refine A4 (A0 (yb rfl (A1 (A2 (AD (AA (AH rfl rfl ?_)))))))
  have hv0 : DI m c t = [] := if_pos h12
  rw [hv0]
  exact ⟨none, 0, rfl, World.ownsRow_nil _ _ _ _, M.fr⟩
 ·have h12p := (odf h12)
  refine AL (A2 (A4 (A0 (yb rfl (A1 (A2 (A4 (A4 (GV DT (by kernel_rfl) ?_)))))))))
  have M := M.drew
  refine sb rfl (sb rfl (sb rfl (sd rfl rfl (Blk.c ((hC.fr0 M.fr).blk) 5 rfl) (sb rfl (sd rfl rfl (M.cell 0 rfl rfl) (sa rfl (C2 rfl rfl rfl underlying55 underlying9 AY ((hC.fr0 M.fr).A) (hC.getA _)) (sa rfl (PS (b := (c.atf t.loc)) rfl rfl) (IP (A2 (AV (A4 (A4 (A0 (ya rfl (B9 rfl rfl rfl) (yb rfl ?_)))))))))))))))
  refine A1 (A2 (PB [(0, pg gc), (3, pg g3), (5, .slice none 0 0), (20, .int .u8 ((c.atf t.loc).kind.toNat : Int)), (21, .bool ((decide (((c.atf t.loc).kind.toNat : Int) = (3 : Int))) || (decide (((c.atf t.loc).kind.toNat : Int) = (8 : Int)))))] (fun w' => Mem w AB [As.blk g3 29 (Tk.cells t)] w') ?_ (fun k21 => ?_)))
  ·intro w2 M
   refine A2 (AQ (b := ((decide (((c.atf t.loc).kind.toNat : Int) = (3 : Int))) || (decide (((c.atf t.loc).kind.toNat : Int) = (8 : Int))))) rfl (fun h21 => ?_) (fun h21 => ?_))
   ·have h21p := ((EK h21).imp (fun z => (odt z)) (fun z => (odt z)))
    refine A0 (yb rfl (yb rfl (yl rfl rfl (M.cell 0 rfl rfl) (F1 M (A9 rfl) rfl rfl [str t.loc] ([str t.loc]) rfl rfl rfl rfl underlying45 D5 rfl rfl (JL rfl) rfl fun g27 w3 hg27 M => ?_))))
    have M := M.nilOwn 9 1
    refine EQ (len' := [t.loc].length) (xs' := AR C4 [t.loc]) M 0 (A9 rfl) rfl rfl rfl rfl rfl rfl (M.rdBlk 1 rfl rfl) underlying45 CU rfl (by decide) (AW rfl) (Nat.le_refl _) (Nat.le_refl _) (by first | omega | (simp <;> omega)) (by unfold maxLen; first | omega | (simp only [List.length_append, List.length_cons, List.length_nil]; omega)) (by simp) (by first | exact (D3 _ _ _).symm | simp [AR, C4]) fun A28 c28 w4 M => yb rfl (A1 (AC (A2 (A4 (A4 (Q3 (fun (A63 : Option Addr) (c63 : Nat) (A64 : Option Addr) (c64 : Nat) => [(0, pg gc), (5, .slice A28 ([t.loc].length) c28), (64, .slice A64 (([t.loc] ++ (AO m.els t.loc)).length) c64), (65, .int .i64 ((([t.loc] ++ (AO m.els t.loc)).length : Nat) : Int)), (66, .int .i64 0)]) (fun (A63 : Option Addr) (c63 : Nat) (A64 : Option Addr) (c64 : Nat) => fun w' => Mem w AB [As.own w.heap.size 9 1 (.slice A63 (AO m.els t.loc).length c63) ((AO m.els t.loc).length) (AR C4 (AO m.els t.loc)), As.own w.heap.size 9 1 (.slice A64 (([t.loc] ++ (AO m.els t.loc)).length) c64) (([t.loc] ++ (AO m.els t.loc)).length) (AR C4 ([t.loc] ++ (AO m.els t.loc))), As.own w.heap.size 9 1 (.slice A28 ([t.loc].length) c28) ([t.loc].length) (AR C4 [t.loc]), As.blk g27 9 [str t.loc], As.blk g3 29 (Tk.cells t)] w') ?_ (fun kr14 => ?_)))))))
    ·intro A63 c63 A64 c64 w5 M
     refine A2 (AV (CM (fun e wr mz => ∃ (q : Nat) (acc2 : List (List UInt8)) (A6 : Option Addr) (c6 : Nat), e = [(0, pg gc), (5, .slice A6 acc2.length c6), (64, .slice A64 (([t.loc] ++ (AO m.els t.loc)).length) c64), (65, .int .i64 ((([t.loc] ++ (AO m.els t.loc)).length : Nat) : Int)), (66, .int .i64 ((q : Nat) : Int))] ∧ Mem w AB [As.own w.heap.size 9 1 (.slice A63 (AO m.els t.loc).length c63) ((AO m.els t.loc).length) (AR C4 (AO m.els t.loc)), As.own w.heap.size 9 1 (.slice A64 (([t.loc] ++ (AO m.els t.loc)).length) c64) (([t.loc] ++ (AO m.els t.loc)).length) (AR C4 ([t.loc] ++ (AO m.els t.loc))), As.own w.heap.size 9 1 (.slice A6 acc2.length c6) acc2.length (AR C4 acc2), As.blk g27 9 [str t.loc], As.blk g3 29 (Tk.cells t)] wr ∧ (q ≤ ([t.loc] ++ (AO m.els t.loc)).length) ∧ (acc2 = [t.loc] ++ (([t.loc] ++ (AO m.els t.loc)).take q).flatMap (CS m)) ∧ (acc2.length ≤ 400 + q * 200) ∧ mz = ([t.loc] ++ (AO m.els t.loc)).length - q) ⟨0, [t.loc], A28, c28, rfl, M, Nat.zero_le _, by rw [List.take_zero, List.flatMap_nil, List.append_nil], by simp only [List.length_cons, List.length_nil]; omega, rfl⟩ ⟨rfl, rfl, rfl, rfl, rfl, trivial⟩ ?_))
     rintro _ w6 _ ⟨q, acc2, A6, c6, rfl, M, hq, hv, hl2, rfl⟩
     refine A4 (A0 (ya rfl (CH rfl rfl rfl) (A1 (A2 (A4 (AQ (b := (decide (((q : Nat) : Int) < ((([t.loc] ++ (AO m.els t.loc)).length : Nat) : Int)))) rfl (fun h67 => ?_) (fun h67 => ?_)))))))
     ·have h67p := (odt h67)
      refine AL (A2 (A4 (AV (A4 (A0 ?_)))))
      obtain ⟨z, hz⟩ := DY (l := [t.loc] ++ (AO m.els t.loc)) (i := q) (by omega)
      obtain ⟨b_z, o_z, hA_z⟩ := CL (k := 1) (by omega) (M.rdOwn 1 rfl) hz
      refine ya rfl (BW q hA_z rfl rfl rfl (sl rfl) (by omega)) (yl rfl rfl (G1 FW (M.rdOwn 1 rfl) hA_z hz 0 rfl) (yb rfl (A1 (A2 (A0 ?_)))))
      iterate 4 refine yb rfl ?_
      refine ya rfl (AN (xs := [str m.id, str m.nm, .slice c.a.V m.vars.length c.a.vc, .slice c.a.E m.els.length c.a.ec, .slice c.a.F m.fls.length c.a.fc]) rfl rfl (FD ((hC.fr0 M.fr).blk) 0 5 rfl rfl) underlying26 rfl BL) (yb rfl (cl 76 rfl (AF rfl rfl call56) (KF m c.a z _ ho (hC.fr0 M.fr).md.md) ?_))
      rintro _ w7 ⟨A76, c76, rfl, how7, hfw7⟩
      refine ⟨_, rfl, ?_⟩
      have M := M.pushOwn hfw7 (Nat.le_refl _) how7
      have hL76 := M.ownLen 0 rfl
      have hbl := EH m z
      refine EQ (len' := (acc2 ++ (CS m z)).length) (xs' := AR C4 (acc2 ++ (CS m z))) M 3 (A9 rfl) rfl rfl rfl rfl rfl rfl (M.rdOwn 0 rfl) underlying45 CU rfl (by decide) (EL FV) (Nat.le_refl _) (Nat.le_refl _) (by first | omega | (simp <;> omega)) (by unfold maxLen; first | omega | (simp only [List.length_append, List.length_cons, List.length_nil]; omega)) (by simp) (by first | exact (D3 _ _ _).symm | simp [AR, C4]) fun A77 c77 w8 M => yb rfl (A1 (AC (A2 (A0 (ya rfl (CQ rfl rfl rfl (by omega)) (yb rfl (A1 (BM [(0, pg gc), (5, .slice A77 (acc2 ++ (CS m z)).length c77), (64, .slice A64 (([t.loc] ++ (AO m.els t.loc)).length) c64), (65, .int .i64 ((([t.loc] ++ (AO m.els t.loc)).length : Nat) : Int)), (66, .int .i64 (((q + 1) : Nat) : Int))] (([t.loc] ++ (AO m.els t.loc)).length - (q + 1)) ⟨q + 1, acc2 ++ (CS m z), A77, c77, rfl, (M.pk [1, 2, 3, 4, 5]), ?_, ?_, ?_, rfl⟩ (by first | omega | (simp <;> omega)) ⟨rfl, rfl, rfl, rfl, rfl, trivial⟩))))))))
      ·omega
      ·rw [hv, BH hz, List.flatMap_append, List.append_assoc]; simp
      ·have hbz := EH m z; rw [List.length_append]; omega
     ·have h67p := (odf h67)
      refine CD (AI (AI ?_))
      have hqE : q = ([t.loc] ++ (AO m.els t.loc)).length := by omega
      rw [hqE, List.take_length] at hv
      refine BB (A2 (A4 (A0 (yb rfl (yb rfl (A1 (A2 (AD (AH rfl rfl ?_)))))))))
      have hvp : DI m c t = acc2 := by rw [DI, if_neg (BA h12), hv, d6, if_pos h21] <;> rfl
      rw [hvp]
      exact ⟨_, _, rfl, M.own 2 rfl, M.fr⟩
    refine D8 13 (fun w' => Mem w AB [As.own w.heap.size 9 1 (.slice A28 ([t.loc].length) c28) ([t.loc].length) (AR C4 [t.loc]), As.blk g27 9 [str t.loc], As.blk g3 29 (Tk.cells t)] w') DT ?_
    have M := M.drew
    refine oc 0 13 rfl rfl M (ol 1 13 rfl rfl rfl M (fun _ M => (M.cell 2 rfl rfl)) (oc 3 13 rfl rfl M (oc 4 13 rfl rfl M (oc 5 13 rfl rfl M (oa 6 13 rfl rfl M (fun _ M => AN (xs := [str m.id, str m.nm, .slice c.a.V m.vars.length c.a.vc, .slice c.a.E m.els.length c.a.ec, .slice c.a.F m.fls.length c.a.fc]) rfl rfl (FD ((hC.fr0 M.fr).blk) 0 5 rfl rfl) underlying26 rfl BL) (oc 7 13 rfl rfl M (ol 8 13 rfl rfl rfl M (fun _ M => (M.cell 2 rfl rfl)) (oc 12 13 rfl rfl M (FU (rs := [2, 9]) (by kernel_rfl) (by simp) fun iz hiz => ?_)))))))))
    simp only [List.mem_cons, List.not_mem_nil, or_false] at hiz
    rcases hiz with rfl | rfl
    ·refine E0 (some 56) rfl (A9 rfl) rfl rfl (fun ρ hρ => E1 [str t.loc] _ hρ rfl rfl rfl rfl underlying45 D5 (by decide) (by decide) (JL rfl)) ?_
     rintro _ w9 ⟨g56, rfl, hg56, hq56, hb56, hfw9⟩
     replace hb56 : Blk w9 g56 9 ([str t.loc]) := hb56
     refine ⟨fun _ => M.step hfw9, ?_⟩
     have M := M.push hfw9 _ hb56 (DA hg56 hq56)
     replace M : Mem w AB (As.blk g56 9 ([str t.loc]) :: _) w9 := M
     refine D0 9 (some 63) (by kernel_rfl) rfl (A9 rfl) rfl rfl (AF rfl rfl call55) (GM m c.a t.loc _ ho (hC.fr0 M.fr).md.md) ?_
     rintro _ w10 ⟨A63, c63, rfl, how10, hfw10⟩
     refine ⟨_, rfl, fun _ => (M.drop 1).step hfw10, ?_⟩
     have M := M.pushOwn hfw10 (Nat.le_refl _) how10
     have hL63 := M.ownLen 0 rfl
     have M := M.blkOwn 1 (size := 1) (n := 1) rfl rfl (by unfold maxLen; omega)
     refine B3 10 (some 64) (by kernel_rfl) rfl (A9 rfl) rfl rfl (fun ρ hρ => DU _ _ _ rfl w.heap.size _ _ _ _ underlying45 CU rfl (by decide) _ _ _ (hρ _ _ rfl) (M.own 1 rfl) _ _ _ _ (hρ _ _ rfl) (M.rdOwn 0 rfl) (EL FV) (by unfold maxLen; first | omega | (simp only [List.length_append, List.length_cons, List.length_nil]; omega)) (by first | omega | (simp <;> omega)) M.fr.size) ?_
     rintro v64 w11 ⟨ho64, hgr64, hvb64⟩
     replace ho64 : World.ownsRow w11 w.heap.size 9 1 v64 (([t.loc] ++ (AO m.els t.loc)).length) (AR C4 ([t.loc] ++ (AO m.els t.loc))) := by rw [show (([t.loc] ++ (AO m.els t.loc)).length) = 1 + (AO m.els t.loc).length from by first | (simp only [List.length_append, List.length_cons, List.length_nil]; omega) | simp only [List.length_append, List.length_cons, List.length_nil], show (AR C4 ([t.loc] ++ (AO m.els t.loc))) = (AR C4 [t.loc]) ++ (AR C4 (AO m.els t.loc)) from by first | exact D3 _ _ _ | simp [AR, C4]]; exact ho64
     have M := M.appOwn 1 rfl ho64 hgr64 hvb64
     obtain ⟨A64, c64, rfl, _⟩ := E3 ho64
     exact ⟨fun _ => (M.drop 2), oa 11 13 rfl rfl (M.drop 2) (fun _ M => CY rfl rfl (sl rfl)) (BJ (by kernel_rfl) (kr14 A63 c63 A64 c64 _ _ M ⟨rfl, rfl, rfl, rfl, rfl, trivial⟩))⟩
    ·refine JK (some 63) rfl (A9 rfl) rfl rfl (AF rfl rfl call55) (GM m c.a t.loc _ ho (hC.fr0 M.fr).md.md) ?_
     rintro _ w12 ⟨A63, c63, rfl, how12, hfw12⟩
     refine ⟨_, rfl, fun _ => M.step hfw12, ?_⟩
     have M := M.pushOwn hfw12 (Nat.le_refl _) how12
     have hL63 := M.ownLen 0 rfl
     refine B3 2 (some 56) (by kernel_rfl) rfl (A9 rfl) rfl rfl (fun ρ hρ => E1 [str t.loc] _ hρ rfl rfl rfl rfl underlying45 D5 (by decide) (by decide) (JL rfl)) ?_
     rintro _ w13 ⟨g56, rfl, hg56, hq56, hb56, hfw13⟩
     replace hb56 : Blk w13 g56 9 ([str t.loc]) := hb56
     refine ⟨fun _ => (M.drop 1).step hfw13, ?_⟩
     have M := M.push hfw13 _ hb56 (DA hg56 hq56)
     replace M : Mem w AB (As.blk g56 9 ([str t.loc]) :: _) w13 := M
     have M := M.blkOwn 0 (size := 1) (n := 1) rfl rfl (by unfold maxLen; omega)
     refine B3 10 (some 64) (by kernel_rfl) rfl (A9 rfl) rfl rfl (fun ρ hρ => DU _ _ _ rfl w.heap.size _ _ _ _ underlying45 CU rfl (by decide) _ _ _ (hρ _ _ rfl) (M.own 0 rfl) _ _ _ _ (hρ _ _ rfl) (M.rdOwn 1 rfl) (EL FV) (by unfold maxLen; first | omega | (simp only [List.length_append, List.length_cons, List.length_nil]; omega)) (by first | omega | (simp <;> omega)) M.fr.size) ?_
     rintro v64 w14 ⟨ho64, hgr64, hvb64⟩
     replace ho64 : World.ownsRow w14 w.heap.size 9 1 v64 (([t.loc] ++ (AO m.els t.loc)).length) (AR C4 ([t.loc] ++ (AO m.els t.loc))) := by rw [show (([t.loc] ++ (AO m.els t.loc)).length) = 1 + (AO m.els t.loc).length from by first | (simp only [List.length_append, List.length_cons, List.length_nil]; omega) | simp only [List.length_append, List.length_cons, List.length_nil], show (AR C4 ([t.loc] ++ (AO m.els t.loc))) = (AR C4 [t.loc]) ++ (AR C4 (AO m.els t.loc)) from by first | exact D3 _ _ _ | simp [AR, C4]]; exact ho64
     have M := M.appOwn 0 rfl ho64 hgr64 hvb64
     obtain ⟨A64, c64, rfl, _⟩ := E3 ho64
     exact ⟨fun _ => (M.drop 2), oa 11 13 rfl rfl (M.drop 2) (fun _ M => CY rfl rfl (sl rfl)) (BJ (by kernel_rfl) (kr14 A63 c63 A64 c64 _ _ (M.pk [1, 0, 2, 3, 4]) ⟨rfl, rfl, rfl, rfl, rfl, trivial⟩))⟩
   ·have h21p := (And.intro (odf (CA h21).1) (odf (CA h21).2))
    refine A4 (A0 (ya rfl (B9 rfl rfl rfl) (yb rfl (A1 (A2 (AQ (b := (decide (((c.atf t.loc).kind.toNat : Int) = (7 : Int)))) rfl (fun h29 => ?_) (fun h29 => ?_)))))))
    ·have h29p := (odt h29)
     refine A4 (GV DT (by kernel_rfl) ?_)
     have M := M.drew
     refine sb rfl (sb rfl (sb rfl (sd rfl rfl (Blk.c ((hC.fr0 M.fr).blk) 8 rfl) (sb rfl (sd rfl rfl (M.cell 0 rfl rfl) (sa rfl (C2 rfl rfl rfl underlying57 underlying9 HJ ((hC.fr0 M.fr).O) (hC.getO _)) (sa rfl (CY rfl rfl (sl rfl)) (sb rfl (IP (A2 (AV ?_)))))))))))
     have M := M.nilOwn 9 1
     refine CM (fun e wr mz => ∃ (j : Nat) (acc : List (List UInt8)) (A5 : Option Addr) (c5 : Nat), e = [(0, pg gc), (3, pg g3), (5, .slice A5 acc.length c5), (37, .slice (MI (EB c.LO t.loc)) ((c.outs t.loc).length) (XX (EB c.LO t.loc))), (38, .int .i64 (((c.outs t.loc).length : Nat) : Int)), (39, .int .i64 ((j : Nat) : Int))] ∧ Mem w AB [As.own w.heap.size 9 1 (.slice A5 acc.length c5) acc.length (AR C4 acc), As.blk g3 29 (Tk.cells t)] wr ∧ (j ≤ (c.outs t.loc).length) ∧ (acc = ((c.outs t.loc).take j).map (fun k => (c.flf k).tg) ∧ acc.length = j) ∧ mz = (c.outs t.loc).length - j) ⟨0, [], none, 0, rfl, M, Nat.zero_le _, ⟨rfl, rfl⟩, rfl⟩ ⟨rfl, rfl, rfl, rfl, rfl, rfl, trivial⟩ ?_
     rintro _ w15 _ ⟨j, acc, A5, c5, rfl, M, hj, hacc, rfl⟩
     refine A4 (A0 (ya rfl (CH rfl rfl rfl) (A1 (A2 (A4 (AQ (b := (decide (((j : Nat) : Int) < (((c.outs t.loc).length : Nat) : Int)))) rfl (fun h40 => ?_) (fun h40 => ?_)))))))
     ·have h40p := (odt h40)
      refine AL (A2 (A4 (AV (A4 (A0 ?_)))))
      obtain ⟨k, hk⟩ := DY (l := (c.outs t.loc)) (i := j) (by omega)
      obtain ⟨b_k, o_k, hA_k⟩ := CL (k := 1) (by omega) ((hC.fr0 M.fr).rdO _) hk
      refine ya rfl (BW j hA_k rfl rfl rfl (sl rfl) (by omega)) (yl rfl rfl (G1 FW ((hC.fr0 M.fr).rdO _) hA_k hk 0 rfl) (yb rfl (A1 (A2 (A0 ?_)))))
      iterate 4 refine yb rfl ?_
      refine yl rfl rfl (Blk.c ((hC.fr0 M.fr).blk) 6 rfl) (yb rfl (ya rfl (C2 rfl rfl rfl underlying56 underlying9 EF ((hC.fr0 M.fr).L) (hC.getL _)) (ya rfl (pU (b := (c.flf k)) rfl rfl) (F1 M (A9 rfl) rfl rfl [str ((c.flf k).tg)] ([str ((c.flf k).tg)]) rfl rfl rfl rfl underlying45 D5 rfl rfl (JL rfl) rfl fun g51 w16 hg51 M => EQ (len' := (acc ++ [(c.flf k).tg]).length) (xs' := AR C4 (acc ++ [(c.flf k).tg])) M 1 (A9 rfl) rfl rfl rfl rfl rfl rfl (M.rdBlk 0 rfl rfl) underlying45 CU rfl (by decide) (AW rfl) (Nat.le_refl _) (Nat.le_refl _) (by first | omega | (simp <;> omega)) (by unfold maxLen; first | omega | (simp only [List.length_append, List.length_cons, List.length_nil]; omega)) (by simp) (by first | exact (D3 _ _ _).symm | simp [AR, C4]) fun A52 c52 w17 M => yb rfl (A1 (AC (A2 (A0 (ya rfl (CQ rfl rfl rfl (by omega)) (yb rfl (A1 ?_)))))))))))
      refine BM [(0, pg gc), (3, pg g3), (5, .slice A52 (acc ++ [(c.flf k).tg]).length c52), (37, .slice (MI (EB c.LO t.loc)) ((c.outs t.loc).length) (XX (EB c.LO t.loc))), (38, .int .i64 (((c.outs t.loc).length : Nat) : Int)), (39, .int .i64 (((j + 1) : Nat) : Int))] ((c.outs t.loc).length - (j + 1)) ⟨j + 1, acc ++ [(c.flf k).tg], A52, c52, rfl, (M.pk [1, 2]), ?_, ?_, rfl⟩ (by first | omega | (simp <;> omega)) ⟨rfl, rfl, rfl, rfl, rfl, rfl, trivial⟩
      ·omega
      ·exact ⟨by rw [hacc.1, BH hk, List.map_append]; rfl, by rw [List.length_append, hacc.2]; rfl⟩
     ·have h40p := (odf h40)
      refine CD (AI (AI ?_))
      have hjE : j = (c.outs t.loc).length := by omega
      have hal : acc.length ≤ 400 := by rw [hacc.2, hjE]; omega
      have hac := hacc.1
      rw [hjE, List.take_length] at hac
      refine BB (AC (A2 (A4 (A4 (Q3 (fun (A63 : Option Addr) (c63 : Nat) (A64 : Option Addr) (c64 : Nat) => [(0, pg gc), (5, .slice A5 acc.length c5), (64, .slice A64 (([t.loc] ++ (AO m.els t.loc)).length) c64), (65, .int .i64 ((([t.loc] ++ (AO m.els t.loc)).length : Nat) : Int)), (66, .int .i64 0)]) (fun (A63 : Option Addr) (c63 : Nat) (A64 : Option Addr) (c64 : Nat) => fun w' => Mem w AB [As.own w.heap.size 9 1 (.slice A63 (AO m.els t.loc).length c63) ((AO m.els t.loc).length) (AR C4 (AO m.els t.loc)), As.own w.heap.size 9 1 (.slice A64 (([t.loc] ++ (AO m.els t.loc)).length) c64) (([t.loc] ++ (AO m.els t.loc)).length) (AR C4 ([t.loc] ++ (AO m.els t.loc))), As.own w.heap.size 9 1 (.slice A5 acc.length c5) acc.length (AR C4 acc), As.blk g3 29 (Tk.cells t)] w') ?_ (fun kr14 => ?_))))))
      ·intro A63 c63 A64 c64 w18 M
       refine A2 (AV (CM (fun e wr mz => ∃ (q : Nat) (acc2 : List (List UInt8)) (A6 : Option Addr) (c6 : Nat), e = [(0, pg gc), (5, .slice A6 acc2.length c6), (64, .slice A64 (([t.loc] ++ (AO m.els t.loc)).length) c64), (65, .int .i64 ((([t.loc] ++ (AO m.els t.loc)).length : Nat) : Int)), (66, .int .i64 ((q : Nat) : Int))] ∧ Mem w AB [As.own w.heap.size 9 1 (.slice A63 (AO m.els t.loc).length c63) ((AO m.els t.loc).length) (AR C4 (AO m.els t.loc)), As.own w.heap.size 9 1 (.slice A64 (([t.loc] ++ (AO m.els t.loc)).length) c64) (([t.loc] ++ (AO m.els t.loc)).length) (AR C4 ([t.loc] ++ (AO m.els t.loc))), As.own w.heap.size 9 1 (.slice A6 acc2.length c6) acc2.length (AR C4 acc2), As.blk g3 29 (Tk.cells t)] wr ∧ (q ≤ ([t.loc] ++ (AO m.els t.loc)).length) ∧ (acc2 = acc ++ (([t.loc] ++ (AO m.els t.loc)).take q).flatMap (CS m)) ∧ (acc2.length ≤ 400 + q * 200) ∧ mz = ([t.loc] ++ (AO m.els t.loc)).length - q) ⟨0, acc, A5, c5, rfl, M, Nat.zero_le _, by rw [List.take_zero, List.flatMap_nil, List.append_nil], by omega, rfl⟩ ⟨rfl, rfl, rfl, rfl, rfl, trivial⟩ ?_))
       rintro _ w19 _ ⟨q, acc2, A6, c6, rfl, M, hq, hv, hl2, rfl⟩
       refine A4 (A0 (ya rfl (CH rfl rfl rfl) (A1 (A2 (A4 (AQ (b := (decide (((q : Nat) : Int) < ((([t.loc] ++ (AO m.els t.loc)).length : Nat) : Int)))) rfl (fun h67 => ?_) (fun h67 => ?_)))))))
       ·have h67p := (odt h67)
        refine AL (A2 (A4 (AV (A4 (A0 ?_)))))
        obtain ⟨z, hz⟩ := DY (l := [t.loc] ++ (AO m.els t.loc)) (i := q) (by omega)
        obtain ⟨b_z, o_z, hA_z⟩ := CL (k := 1) (by omega) (M.rdOwn 1 rfl) hz
        refine ya rfl (BW q hA_z rfl rfl rfl (sl rfl) (by omega)) (yl rfl rfl (G1 FW (M.rdOwn 1 rfl) hA_z hz 0 rfl) (yb rfl (A1 (A2 (A0 ?_)))))
        iterate 4 refine yb rfl ?_
        refine ya rfl (AN (xs := [str m.id, str m.nm, .slice c.a.V m.vars.length c.a.vc, .slice c.a.E m.els.length c.a.ec, .slice c.a.F m.fls.length c.a.fc]) rfl rfl (FD ((hC.fr0 M.fr).blk) 0 5 rfl rfl) underlying26 rfl BL) (yb rfl (cl 76 rfl (AF rfl rfl call56) (KF m c.a z _ ho (hC.fr0 M.fr).md.md) ?_))
        rintro _ w20 ⟨A76, c76, rfl, how20, hfw20⟩
        refine ⟨_, rfl, ?_⟩
        have M := M.pushOwn hfw20 (Nat.le_refl _) how20
        have hL76 := M.ownLen 0 rfl
        have hbl := EH m z
        refine EQ (len' := (acc2 ++ (CS m z)).length) (xs' := AR C4 (acc2 ++ (CS m z))) M 3 (A9 rfl) rfl rfl rfl rfl rfl rfl (M.rdOwn 0 rfl) underlying45 CU rfl (by decide) (EL FV) (Nat.le_refl _) (Nat.le_refl _) (by first | omega | (simp <;> omega)) (by unfold maxLen; first | omega | (simp only [List.length_append, List.length_cons, List.length_nil]; omega)) (by simp) (by first | exact (D3 _ _ _).symm | simp [AR, C4]) fun A77 c77 w21 M => yb rfl (A1 (AC (A2 (A0 (ya rfl (CQ rfl rfl rfl (by omega)) (yb rfl (A1 (BM [(0, pg gc), (5, .slice A77 (acc2 ++ (CS m z)).length c77), (64, .slice A64 (([t.loc] ++ (AO m.els t.loc)).length) c64), (65, .int .i64 ((([t.loc] ++ (AO m.els t.loc)).length : Nat) : Int)), (66, .int .i64 (((q + 1) : Nat) : Int))] (([t.loc] ++ (AO m.els t.loc)).length - (q + 1)) ⟨q + 1, acc2 ++ (CS m z), A77, c77, rfl, (M.pk [1, 2, 3, 4]), ?_, ?_, ?_, rfl⟩ (by first | omega | (simp <;> omega)) ⟨rfl, rfl, rfl, rfl, rfl, trivial⟩))))))))
        ·omega
        ·rw [hv, BH hz, List.flatMap_append, List.append_assoc]; simp
        ·have hbz := EH m z; rw [List.length_append]; omega
       ·have h67p := (odf h67)
        refine CD (AI (AI ?_))
        have hqE : q = ([t.loc] ++ (AO m.els t.loc)).length := by omega
        rw [hqE, List.take_length] at hv
        refine BB (A2 (A4 (A0 (yb rfl (yb rfl (A1 (A2 (AD (AH rfl rfl ?_)))))))))
        have hvp : DI m c t = acc2 := by rw [DI, if_neg (BA h12), hv, d6, if_neg (BA h21), if_pos h29, ← hac] <;> rfl
        rw [hvp]
        exact ⟨_, _, rfl, M.own 2 rfl, M.fr⟩
      refine D8 13 (fun w' => Mem w AB [As.own w.heap.size 9 1 (.slice A5 acc.length c5) acc.length (AR C4 acc), As.blk g3 29 (Tk.cells t)] w') DT ?_
      have M := M.drew
      refine oc 0 13 rfl rfl M (ol 1 13 rfl rfl rfl M (fun _ M => (M.cell 1 rfl rfl)) (oc 3 13 rfl rfl M (oc 4 13 rfl rfl M (oc 5 13 rfl rfl M (oa 6 13 rfl rfl M (fun _ M => AN (xs := [str m.id, str m.nm, .slice c.a.V m.vars.length c.a.vc, .slice c.a.E m.els.length c.a.ec, .slice c.a.F m.fls.length c.a.fc]) rfl rfl (FD ((hC.fr0 M.fr).blk) 0 5 rfl rfl) underlying26 rfl BL) (oc 7 13 rfl rfl M (ol 8 13 rfl rfl rfl M (fun _ M => (M.cell 1 rfl rfl)) (oc 12 13 rfl rfl M (FU (rs := [2, 9]) (by kernel_rfl) (by simp) fun iz hiz => ?_)))))))))
      simp only [List.mem_cons, List.not_mem_nil, or_false] at hiz
      rcases hiz with rfl | rfl
      ·refine E0 (some 56) rfl (A9 rfl) rfl rfl (fun ρ hρ => E1 [str t.loc] _ hρ rfl rfl rfl rfl underlying45 D5 (by decide) (by decide) (JL rfl)) ?_
       rintro _ w22 ⟨g56, rfl, hg56, hq56, hb56, hfw22⟩
       replace hb56 : Blk w22 g56 9 ([str t.loc]) := hb56
       refine ⟨fun _ => M.step hfw22, ?_⟩
       have M := M.push hfw22 _ hb56 (DA hg56 hq56)
       replace M : Mem w AB (As.blk g56 9 ([str t.loc]) :: _) w22 := M
       refine D0 9 (some 63) (by kernel_rfl) rfl (A9 rfl) rfl rfl (AF rfl rfl call55) (GM m c.a t.loc _ ho (hC.fr0 M.fr).md.md) ?_
       rintro _ w23 ⟨A63, c63, rfl, how23, hfw23⟩
       refine ⟨_, rfl, fun _ => (M.drop 1).step hfw23, ?_⟩
       have M := M.pushOwn hfw23 (Nat.le_refl _) how23
       have hL63 := M.ownLen 0 rfl
       have M := M.blkOwn 1 (size := 1) (n := 1) rfl rfl (by unfold maxLen; omega)
       refine B3 10 (some 64) (by kernel_rfl) rfl (A9 rfl) rfl rfl (fun ρ hρ => DU _ _ _ rfl w.heap.size _ _ _ _ underlying45 CU rfl (by decide) _ _ _ (hρ _ _ rfl) (M.own 1 rfl) _ _ _ _ (hρ _ _ rfl) (M.rdOwn 0 rfl) (EL FV) (by unfold maxLen; first | omega | (simp only [List.length_append, List.length_cons, List.length_nil]; omega)) (by first | omega | (simp <;> omega)) M.fr.size) ?_
       rintro v64 w24 ⟨ho64, hgr64, hvb64⟩
       replace ho64 : World.ownsRow w24 w.heap.size 9 1 v64 (([t.loc] ++ (AO m.els t.loc)).length) (AR C4 ([t.loc] ++ (AO m.els t.loc))) := by rw [show (([t.loc] ++ (AO m.els t.loc)).length) = 1 + (AO m.els t.loc).length from by first | (simp only [List.length_append, List.length_cons, List.length_nil]; omega) | simp only [List.length_append, List.length_cons, List.length_nil], show (AR C4 ([t.loc] ++ (AO m.els t.loc))) = (AR C4 [t.loc]) ++ (AR C4 (AO m.els t.loc)) from by first | exact D3 _ _ _ | simp [AR, C4]]; exact ho64
       have M := M.appOwn 1 rfl ho64 hgr64 hvb64
       obtain ⟨A64, c64, rfl, _⟩ := E3 ho64
       exact ⟨fun _ => (M.drop 2), oa 11 13 rfl rfl (M.drop 2) (fun _ M => CY rfl rfl (sl rfl)) (BJ (by kernel_rfl) (kr14 A63 c63 A64 c64 _ _ M ⟨rfl, rfl, rfl, rfl, rfl, trivial⟩))⟩
      ·refine JK (some 63) rfl (A9 rfl) rfl rfl (AF rfl rfl call55) (GM m c.a t.loc _ ho (hC.fr0 M.fr).md.md) ?_
       rintro _ w25 ⟨A63, c63, rfl, how25, hfw25⟩
       refine ⟨_, rfl, fun _ => M.step hfw25, ?_⟩
       have M := M.pushOwn hfw25 (Nat.le_refl _) how25
       have hL63 := M.ownLen 0 rfl
       refine B3 2 (some 56) (by kernel_rfl) rfl (A9 rfl) rfl rfl (fun ρ hρ => E1 [str t.loc] _ hρ rfl rfl rfl rfl underlying45 D5 (by decide) (by decide) (JL rfl)) ?_
       rintro _ w26 ⟨g56, rfl, hg56, hq56, hb56, hfw26⟩
       replace hb56 : Blk w26 g56 9 ([str t.loc]) := hb56
       refine ⟨fun _ => (M.drop 1).step hfw26, ?_⟩
       have M := M.push hfw26 _ hb56 (DA hg56 hq56)
       replace M : Mem w AB (As.blk g56 9 ([str t.loc]) :: _) w26 := M
       have M := M.blkOwn 0 (size := 1) (n := 1) rfl rfl (by unfold maxLen; omega)
       refine B3 10 (some 64) (by kernel_rfl) rfl (A9 rfl) rfl rfl (fun ρ hρ => DU _ _ _ rfl w.heap.size _ _ _ _ underlying45 CU rfl (by decide) _ _ _ (hρ _ _ rfl) (M.own 0 rfl) _ _ _ _ (hρ _ _ rfl) (M.rdOwn 1 rfl) (EL FV) (by unfold maxLen; first | omega | (simp only [List.length_append, List.length_cons, List.length_nil]; omega)) (by first | omega | (simp <;> omega)) M.fr.size) ?_
       rintro v64 w27 ⟨ho64, hgr64, hvb64⟩
       replace ho64 : World.ownsRow w27 w.heap.size 9 1 v64 (([t.loc] ++ (AO m.els t.loc)).length) (AR C4 ([t.loc] ++ (AO m.els t.loc))) := by rw [show (([t.loc] ++ (AO m.els t.loc)).length) = 1 + (AO m.els t.loc).length from by first | (simp only [List.length_append, List.length_cons, List.length_nil]; omega) | simp only [List.length_append, List.length_cons, List.length_nil], show (AR C4 ([t.loc] ++ (AO m.els t.loc))) = (AR C4 [t.loc]) ++ (AR C4 (AO m.els t.loc)) from by first | exact D3 _ _ _ | simp [AR, C4]]; exact ho64
       have M := M.appOwn 0 rfl ho64 hgr64 hvb64
       obtain ⟨A64, c64, rfl, _⟩ := E3 ho64
       exact ⟨fun _ => (M.drop 2), oa 11 13 rfl rfl (M.drop 2) (fun _ M => CY rfl rfl (sl rfl)) (BJ (by kernel_rfl) (kr14 A63 c63 A64 c64 _ _ (M.pk [1, 0, 2, 3]) ⟨rfl, rfl, rfl, rfl, rfl, trivial⟩))⟩
    ·have h29p := (odf h29)
     refine AL (AC (A2 (A4 (A4 (Q3 (fun (A63 : Option Addr) (c63 : Nat) (A64 : Option Addr) (c64 : Nat) => [(0, pg gc), (5, .slice none 0 0), (64, .slice A64 (([t.loc] ++ (AO m.els t.loc)).length) c64), (65, .int .i64 ((([t.loc] ++ (AO m.els t.loc)).length : Nat) : Int)), (66, .int .i64 0)]) (fun (A63 : Option Addr) (c63 : Nat) (A64 : Option Addr) (c64 : Nat) => fun w' => Mem w AB [As.own w.heap.size 9 1 (.slice A63 (AO m.els t.loc).length c63) ((AO m.els t.loc).length) (AR C4 (AO m.els t.loc)), As.own w.heap.size 9 1 (.slice A64 (([t.loc] ++ (AO m.els t.loc)).length) c64) (([t.loc] ++ (AO m.els t.loc)).length) (AR C4 ([t.loc] ++ (AO m.els t.loc))), As.blk g3 29 (Tk.cells t)] w') ?_ (fun kr14 => ?_))))))
     ·intro A63 c63 A64 c64 w28 M
      refine A2 (AV ?_)
      have M := M.nilOwn 9 1
      refine CM (fun e wr mz => ∃ (q : Nat) (acc2 : List (List UInt8)) (A6 : Option Addr) (c6 : Nat), e = [(0, pg gc), (5, .slice A6 acc2.length c6), (64, .slice A64 (([t.loc] ++ (AO m.els t.loc)).length) c64), (65, .int .i64 ((([t.loc] ++ (AO m.els t.loc)).length : Nat) : Int)), (66, .int .i64 ((q : Nat) : Int))] ∧ Mem w AB [As.own w.heap.size 9 1 (.slice A6 acc2.length c6) acc2.length (AR C4 acc2), As.own w.heap.size 9 1 (.slice A63 (AO m.els t.loc).length c63) ((AO m.els t.loc).length) (AR C4 (AO m.els t.loc)), As.own w.heap.size 9 1 (.slice A64 (([t.loc] ++ (AO m.els t.loc)).length) c64) (([t.loc] ++ (AO m.els t.loc)).length) (AR C4 ([t.loc] ++ (AO m.els t.loc))), As.blk g3 29 (Tk.cells t)] wr ∧ (q ≤ ([t.loc] ++ (AO m.els t.loc)).length) ∧ (acc2 = [] ++ (([t.loc] ++ (AO m.els t.loc)).take q).flatMap (CS m)) ∧ (acc2.length ≤ 400 + q * 200) ∧ mz = ([t.loc] ++ (AO m.els t.loc)).length - q) ⟨0, [], none, 0, rfl, M, Nat.zero_le _, by rw [List.take_zero, List.flatMap_nil, List.append_nil], by simp only [List.length_nil]; omega, rfl⟩ ⟨rfl, rfl, rfl, rfl, rfl, trivial⟩ ?_
      rintro _ w29 _ ⟨q, acc2, A6, c6, rfl, M, hq, hv, hl2, rfl⟩
      refine A4 (A0 (ya rfl (CH rfl rfl rfl) (A1 (A2 (A4 (AQ (b := (decide (((q : Nat) : Int) < ((([t.loc] ++ (AO m.els t.loc)).length : Nat) : Int)))) rfl (fun h67 => ?_) (fun h67 => ?_)))))))
      ·have h67p := (odt h67)
       refine AL (A2 (A4 (AV (A4 (A0 ?_)))))
       obtain ⟨z, hz⟩ := DY (l := [t.loc] ++ (AO m.els t.loc)) (i := q) (by omega)
       obtain ⟨b_z, o_z, hA_z⟩ := CL (k := 1) (by omega) (M.rdOwn 2 rfl) hz
       refine ya rfl (BW q hA_z rfl rfl rfl (sl rfl) (by omega)) (yl rfl rfl (G1 FW (M.rdOwn 2 rfl) hA_z hz 0 rfl) (yb rfl (A1 (A2 (A0 ?_)))))
       iterate 4 refine yb rfl ?_
       refine ya rfl (AN (xs := [str m.id, str m.nm, .slice c.a.V m.vars.length c.a.vc, .slice c.a.E m.els.length c.a.ec, .slice c.a.F m.fls.length c.a.fc]) rfl rfl (FD ((hC.fr0 M.fr).blk) 0 5 rfl rfl) underlying26 rfl BL) (yb rfl (cl 76 rfl (AF rfl rfl call56) (KF m c.a z _ ho (hC.fr0 M.fr).md.md) ?_))
       rintro _ w30 ⟨A76, c76, rfl, how30, hfw30⟩
       refine ⟨_, rfl, ?_⟩
       have M := M.pushOwn hfw30 (Nat.le_refl _) how30
       have hL76 := M.ownLen 0 rfl
       have hbl := EH m z
       refine EQ (len' := (acc2 ++ (CS m z)).length) (xs' := AR C4 (acc2 ++ (CS m z))) M 1 (A9 rfl) rfl rfl rfl rfl rfl rfl (M.rdOwn 0 rfl) underlying45 CU rfl (by decide) (EL FV) (Nat.le_refl _) (Nat.le_refl _) (by first | omega | (simp <;> omega)) (by unfold maxLen; first | omega | (simp only [List.length_append, List.length_cons, List.length_nil]; omega)) (by simp) (by first | exact (D3 _ _ _).symm | simp [AR, C4]) fun A77 c77 w31 M => yb rfl (A1 (AC (A2 (A0 (ya rfl (CQ rfl rfl rfl (by omega)) (yb rfl (A1 (BM [(0, pg gc), (5, .slice A77 (acc2 ++ (CS m z)).length c77), (64, .slice A64 (([t.loc] ++ (AO m.els t.loc)).length) c64), (65, .int .i64 ((([t.loc] ++ (AO m.els t.loc)).length : Nat) : Int)), (66, .int .i64 (((q + 1) : Nat) : Int))] (([t.loc] ++ (AO m.els t.loc)).length - (q + 1)) ⟨q + 1, acc2 ++ (CS m z), A77, c77, rfl, (M.pk [1, 2, 3, 4]), ?_, ?_, ?_, rfl⟩ (by first | omega | (simp <;> omega)) ⟨rfl, rfl, rfl, rfl, rfl, trivial⟩))))))))
       ·omega
       ·rw [hv, BH hz, List.flatMap_append, List.append_assoc]; simp
       ·have hbz := EH m z; rw [List.length_append]; omega
      ·have h67p := (odf h67)
       refine CD (AI (AI ?_))
       have hqE : q = ([t.loc] ++ (AO m.els t.loc)).length := by omega
       rw [hqE, List.take_length] at hv
       refine BB (A2 (A4 (A0 (yb rfl (yb rfl (A1 (A2 (AD (AH rfl rfl ?_)))))))))
       have hvp : DI m c t = acc2 := by rw [DI, if_neg (BA h12), hv, d6, if_neg (BA h21), if_neg (BA h29)] <;> rfl
       rw [hvp]
       exact ⟨_, _, rfl, M.own 0 rfl, M.fr⟩
     refine D8 13 (fun w' => Mem w AB [As.blk g3 29 (Tk.cells t)] w') DT ?_
     have M := M.drew
     refine oc 0 13 rfl rfl M (ol 1 13 rfl rfl rfl M (fun _ M => (M.cell 0 rfl rfl)) (oc 3 13 rfl rfl M (oc 4 13 rfl rfl M (oc 5 13 rfl rfl M (oa 6 13 rfl rfl M (fun _ M => AN (xs := [str m.id, str m.nm, .slice c.a.V m.vars.length c.a.vc, .slice c.a.E m.els.length c.a.ec, .slice c.a.F m.fls.length c.a.fc]) rfl rfl (FD ((hC.fr0 M.fr).blk) 0 5 rfl rfl) underlying26 rfl BL) (oc 7 13 rfl rfl M (ol 8 13 rfl rfl rfl M (fun _ M => (M.cell 0 rfl rfl)) (oc 12 13 rfl rfl M (FU (rs := [2, 9]) (by kernel_rfl) (by simp) fun iz hiz => ?_)))))))))
     simp only [List.mem_cons, List.not_mem_nil, or_false] at hiz
     rcases hiz with rfl | rfl
     ·refine E0 (some 56) rfl (A9 rfl) rfl rfl (fun ρ hρ => E1 [str t.loc] _ hρ rfl rfl rfl rfl underlying45 D5 (by decide) (by decide) (JL rfl)) ?_
      rintro _ w32 ⟨g56, rfl, hg56, hq56, hb56, hfw32⟩
      replace hb56 : Blk w32 g56 9 ([str t.loc]) := hb56
      refine ⟨fun _ => M.step hfw32, ?_⟩
      have M := M.push hfw32 _ hb56 (DA hg56 hq56)
      replace M : Mem w AB (As.blk g56 9 ([str t.loc]) :: _) w32 := M
      refine D0 9 (some 63) (by kernel_rfl) rfl (A9 rfl) rfl rfl (AF rfl rfl call55) (GM m c.a t.loc _ ho (hC.fr0 M.fr).md.md) ?_
      rintro _ w33 ⟨A63, c63, rfl, how33, hfw33⟩
      refine ⟨_, rfl, fun _ => (M.drop 1).step hfw33, ?_⟩
      have M := M.pushOwn hfw33 (Nat.le_refl _) how33
      have hL63 := M.ownLen 0 rfl
      have M := M.blkOwn 1 (size := 1) (n := 1) rfl rfl (by unfold maxLen; omega)
      refine B3 10 (some 64) (by kernel_rfl) rfl (A9 rfl) rfl rfl (fun ρ hρ => DU _ _ _ rfl w.heap.size _ _ _ _ underlying45 CU rfl (by decide) _ _ _ (hρ _ _ rfl) (M.own 1 rfl) _ _ _ _ (hρ _ _ rfl) (M.rdOwn 0 rfl) (EL FV) (by unfold maxLen; first | omega | (simp only [List.length_append, List.length_cons, List.length_nil]; omega)) (by first | omega | (simp <;> omega)) M.fr.size) ?_
      rintro v64 w34 ⟨ho64, hgr64, hvb64⟩
      replace ho64 : World.ownsRow w34 w.heap.size 9 1 v64 (([t.loc] ++ (AO m.els t.loc)).length) (AR C4 ([t.loc] ++ (AO m.els t.loc))) := by rw [show (([t.loc] ++ (AO m.els t.loc)).length) = 1 + (AO m.els t.loc).length from by first | (simp only [List.length_append, List.length_cons, List.length_nil]; omega) | simp only [List.length_append, List.length_cons, List.length_nil], show (AR C4 ([t.loc] ++ (AO m.els t.loc))) = (AR C4 [t.loc]) ++ (AR C4 (AO m.els t.loc)) from by first | exact D3 _ _ _ | simp [AR, C4]]; exact ho64
      have M := M.appOwn 1 rfl ho64 hgr64 hvb64
      obtain ⟨A64, c64, rfl, _⟩ := E3 ho64
      exact ⟨fun _ => (M.drop 2), oa 11 13 rfl rfl (M.drop 2) (fun _ M => CY rfl rfl (sl rfl)) (BJ (by kernel_rfl) (kr14 A63 c63 A64 c64 _ _ M ⟨rfl, rfl, rfl, rfl, rfl, trivial⟩))⟩
     ·refine JK (some 63) rfl (A9 rfl) rfl rfl (AF rfl rfl call55) (GM m c.a t.loc _ ho (hC.fr0 M.fr).md.md) ?_
      rintro _ w35 ⟨A63, c63, rfl, how35, hfw35⟩
      refine ⟨_, rfl, fun _ => M.step hfw35, ?_⟩
      have M := M.pushOwn hfw35 (Nat.le_refl _) how35
      have hL63 := M.ownLen 0 rfl
      refine B3 2 (some 56) (by kernel_rfl) rfl (A9 rfl) rfl rfl (fun ρ hρ => E1 [str t.loc] _ hρ rfl rfl rfl rfl underlying45 D5 (by decide) (by decide) (JL rfl)) ?_
      rintro _ w36 ⟨g56, rfl, hg56, hq56, hb56, hfw36⟩
      replace hb56 : Blk w36 g56 9 ([str t.loc]) := hb56
      refine ⟨fun _ => (M.drop 1).step hfw36, ?_⟩
      have M := M.push hfw36 _ hb56 (DA hg56 hq56)
      replace M : Mem w AB (As.blk g56 9 ([str t.loc]) :: _) w36 := M
      have M := M.blkOwn 0 (size := 1) (n := 1) rfl rfl (by unfold maxLen; omega)
      refine B3 10 (some 64) (by kernel_rfl) rfl (A9 rfl) rfl rfl (fun ρ hρ => DU _ _ _ rfl w.heap.size _ _ _ _ underlying45 CU rfl (by decide) _ _ _ (hρ _ _ rfl) (M.own 0 rfl) _ _ _ _ (hρ _ _ rfl) (M.rdOwn 1 rfl) (EL FV) (by unfold maxLen; first | omega | (simp only [List.length_append, List.length_cons, List.length_nil]; omega)) (by first | omega | (simp <;> omega)) M.fr.size) ?_
      rintro v64 w37 ⟨ho64, hgr64, hvb64⟩
      replace ho64 : World.ownsRow w37 w.heap.size 9 1 v64 (([t.loc] ++ (AO m.els t.loc)).length) (AR C4 ([t.loc] ++ (AO m.els t.loc))) := by rw [show (([t.loc] ++ (AO m.els t.loc)).length) = 1 + (AO m.els t.loc).length from by first | (simp only [List.length_append, List.length_cons, List.length_nil]; omega) | simp only [List.length_append, List.length_cons, List.length_nil], show (AR C4 ([t.loc] ++ (AO m.els t.loc))) = (AR C4 [t.loc]) ++ (AR C4 (AO m.els t.loc)) from by first | exact D3 _ _ _ | simp [AR, C4]]; exact ho64
      have M := M.appOwn 0 rfl ho64 hgr64 hvb64
      obtain ⟨A64, c64, rfl, _⟩ := E3 ho64
      exact ⟨fun _ => (M.drop 2), oa 11 13 rfl rfl (M.drop 2) (fun _ M => CY rfl rfl (sl rfl)) (BJ (by kernel_rfl) (kr14 A63 c63 A64 c64 _ _ (M.pk [1, 0, 2]) ⟨rfl, rfl, rfl, rfl, rfl, trivial⟩))⟩
  refine AQ (b := (decide (((c.atf t.loc).kind.toNat : Int) = (3 : Int)))) rfl (fun h21 => ?_) (fun h21 => ?_)
  ·exact AL (k21 _ _ M ⟨rfl, rfl, rfl, rfl, (by rw [h21]; rfl), trivial⟩)
  ·exact A0 (ya rfl (B9 rfl rfl rfl) (yb rfl (A1 (k21 _ _ M ⟨rfl, rfl, rfl, rfl, (by rw [h21]; rfl), trivial⟩))))
end Go.Proofs.YtadgfojhjnkliaaGreatDoor
