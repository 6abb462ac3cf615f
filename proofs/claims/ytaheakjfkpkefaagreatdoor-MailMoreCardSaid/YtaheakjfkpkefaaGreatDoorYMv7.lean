/- Lemmas that the last text rests on. Condition: each says its own. -/
import Derived.Test.YtaheakjfkpkefaaGreatDoorYMv6
set_option maxHeartbeats 16000000
set_option maxRecDepth 100000
namespace Go.Proofs.YtaheakjfkpkefaaGreatDoor
open Go.RowKit
open Tryz
theorem f7 {e : Env} {w : World} {o : Oper} {x : Operand} {b : Fl} (ho : o.op = .field 109 x 2) (hx : ev e x = some (.agg b.cells.toArray)) : Y prog e o w (str b.tg) := fun ρ h => by
 unfold execOp
 simp [ho, h _ _ hx, Instr.field, run_underlying underlying109, asAgg, part, isAgg9, Fl.cells]
theorem EU (m : Md) (id : List UInt8) : (D1 m id).length ≤ m.els.length := by unfold D1; rw [List.length_map]; exact List.length_filter_le _ _
def cE (c : CrA) (t : Tk) : List (List UInt8) :=
 if ((decide (((c.atf t.loc).kind.toNat : Int) = (3 : Int))) || (decide (((c.atf t.loc).kind.toNat : Int) = (8 : Int)))) = true then [t.loc]
 else if (decide (((c.atf t.loc).kind.toNat : Int) = (7 : Int))) = true then (c.outs t.loc).map (fun k => (c.flf k).tg)
 else []
def EL (m : Md) (c : CrA) (t : Tk) : List (List UInt8) :=
 if (decide (t.loc = [])) = true then [] else cE c t ++ ([t.loc] ++ AN m.els t.loc).flatMap (D1 m)
theorem mG (m : Md) (gc : Nat) (c : CrA) (F : List Nat) (t : Tk) (w : World) (ho : MdOk m) (hC : CourseN w m gc c F) :
 Calls prog 52 #[pg gc, .agg t.cells.toArray] w fun e w' => ∃ A c', e = .returned (.slice A (EL m c t).length c') ∧ w'.ownsRow w.heap.size 9 1 (.slice A (EL m c t).length c') (EL m c t).length (AB BK (EL m c t)) ∧ Fr0 w w' := by
 have hne := ho.nels
 have hnf := ho.nfls
 have hol := hC.lenO t.loc
 have har := LR m.els t.loc
 have hAL : ([t.loc] ++ (AN m.els t.loc)).length ≤ 65 := by rw [List.length_append, List.length_cons, List.length_nil]; omega
 refine BL func52 ntmps52 rfl fun M => srg (DD M rfl rfl fun g3 w1 hg3 M => AG rfl (sx_seq (AC rfl (B2 M 0 rfl rfl rfl (ya rfl (CS rfl rfl rfl) (nq ?_))))))
 refine AF rfl (fun h12 => ?_) (fun h12 => ?_)
 ·refine AC rfl (gnr (qx_then_ret (gr1 rfl ?_)))
  have hv0 : EL m c t = [] := if_pos h12
  rw [hv0]
  exact ⟨none, 0, rfl, World.ownsRow_nil _ _ _ _, M.fr⟩
 ·have h12p := (odf h12)
  refine sx_skip (qx_seq (srg (AG rfl (sx_seq (sx_seq (HT CL gkr ?_))))))
  have M := M.drew
  refine sb rfl (sb rfl (sb rfl (sd rfl rfl (Blk.c ((hC.fr0 M.fr).blk) 5 rfl) (sb rfl (GZ M 0 rfl rfl rfl (sa rfl (BD rfl rfl rfl underlying85 underlying9 AQ ((hC.fr0 M.fr).A) (hC.getA _)) (sa rfl (QR (b := (c.atf t.loc)) rfl rfl) (IY (qx_seq (sx_block (sx_seq (srg (C7 rfl rfl (yb rfl ?_))))))))))))))
  refine nq (LU [(0, pg gc), (3, pg g3), (5, .slice none 0 0), (20, .int .u8 ((c.atf t.loc).kind.toNat : Int)), (21, .bool ((decide (((c.atf t.loc).kind.toNat : Int) = 3)) || (decide (((c.atf t.loc).kind.toNat : Int) = 8))))] (fun w' => Mem w AM [As.blk g3 56 (Tk.cells t)] w') ?_ (fun k21 => ?_))
  ·intro w2 M
   refine qx_seq (AF rfl (fun h21 => ?_) (fun h21 => ?_))
   ·have h21p := ((E6 h21).imp (fun z => (odt z)) (fun z => (odt z)))
    refine sx_region (AV rfl rfl (B2 M 0 rfl rfl rfl (CU M (wn_none rfl) rfl rfl [str t.loc] ([str t.loc]) rfl rfl rfl rfl underlying48 CP rfl rfl (EZ rfl) rfl fun g27 w3 hg27 M => ?_)))
    have M := M.nilOwn 9 1
    refine DC (len' := [t.loc].length) (xs' := AB BK [t.loc]) M 0 (wn_none rfl) rfl rfl rfl rfl rfl rfl (M.rdBlk 1 rfl rfl) underlying48 CI rfl AU (BG rfl) (Nat.le_refl _) (Nat.le_refl _) CX (by unfold maxLen; first | omega | (simp only [List.length_append, List.length_cons, List.length_nil]; omega)) (by simp) (by first | exact (AT _ _ _).symm | simp [AB, BK]) fun A28 c28 w4 M => yb rfl (sxl_nil (qx_block_normal (qx_seq (sx_seq (sx_seq (R0 (fun (A63 : Option Addr) (c63 : Nat) (A64 : Option Addr) (c64 : Nat) => [(0, pg gc), (5, .slice A28 ([t.loc].length) c28), (64, .slice A64 (([t.loc] ++ (AN m.els t.loc)).length) c64), (65, AA (([t.loc] ++ (AN m.els t.loc)).length : Int)), (66, AA 0)]) (fun (A63 : Option Addr) (c63 : Nat) (A64 : Option Addr) (c64 : Nat) => fun w' => Mem w AM [As.own w.heap.size 9 1 (.slice A63 (AN m.els t.loc).length c63) ((AN m.els t.loc).length) (AB BK (AN m.els t.loc)), As.own w.heap.size 9 1 (.slice A64 (([t.loc] ++ (AN m.els t.loc)).length) c64) (([t.loc] ++ (AN m.els t.loc)).length) (AB BK ([t.loc] ++ (AN m.els t.loc))), As.own w.heap.size 9 1 (.slice A28 ([t.loc].length) c28) ([t.loc].length) (AB BK [t.loc]), As.blk g27 9 [str t.loc], As.blk g3 56 (Tk.cells t)] w') ?_ (fun kr14 => ?_)))))))
    ·intro A63 c63 A64 c64 w5 M
     refine qx_seq (sx_block (flp [65, 64, 0] (fun ze e wr mz => ∃ (q : Nat) (acc2 : List (List UInt8)) (A6 : Option Addr) (c6 : Nat), e = (5, .slice A6 acc2.length c6) :: (66, AA (q : Int)) :: ze ∧ Mem w AM [As.own w.heap.size 9 1 (.slice A63 (AN m.els t.loc).length c63) ((AN m.els t.loc).length) (AB BK (AN m.els t.loc)), As.own w.heap.size 9 1 (.slice A64 (([t.loc] ++ (AN m.els t.loc)).length) c64) (([t.loc] ++ (AN m.els t.loc)).length) (AB BK ([t.loc] ++ (AN m.els t.loc))), As.own w.heap.size 9 1 (.slice A6 acc2.length c6) acc2.length (AB BK acc2), As.blk g27 9 [str t.loc], As.blk g3 56 (Tk.cells t)] wr ∧ (q ≤ ([t.loc] ++ (AN m.els t.loc)).length) ∧ (acc2 = [t.loc] ++ (([t.loc] ++ (AN m.els t.loc)).take q).flatMap (D1 m)) ∧ (acc2.length ≤ 400 + q * 200) ∧ mz = ([t.loc] ++ (AN m.els t.loc)).length - q) ⟨0, [t.loc], A28, c28, rfl, M, Nat.zero_le _, by rw [List.take_zero, List.flatMap_nil, List.append_nil], by simp only [List.length_cons, List.length_nil]; omega, rfl⟩ ?_))
     rintro _ w6 _ ⟨q, acc2, A6, c6, rfl, M, hq, hv, hl2, rfl⟩
     refine srg (BM rfl rfl (nq (sx_seq (AF rfl (fun h67 => ?_) (fun h67 => ?_)))))
     ·have h67p := (odt h67)
      refine sx_skip (qx_seq (sx_seq (sx_block (srg ?_))))
      obtain ⟨z, hz⟩ := BZ (l := [t.loc] ++ (AN m.els t.loc)) (i := q) A0
      obtain ⟨b_z, o_z, hA_z⟩ := B7 (k := 1) A0 (M.rdOwn 1 rfl) hz
      refine ya rfl (AP q hA_z rfl rfl rfl (sl rfl) A0) (yl rfl rfl (E5 FD (M.rdOwn 1 rfl) hA_z hz 0 rfl) (AG rfl (sx_region ?_)))
      iterate 4 refine yb rfl ?_
      refine ya rfl (AH (xs := [str m.id, str m.nm, .slice c.a.V m.vars.length c.a.vc, .slice c.a.E m.els.length c.a.ec, .slice c.a.F m.fls.length c.a.fc]) rfl rfl (DK ((hC.fr0 M.fr).blk) 0 5 rfl rfl) underlying62 rfl B6) (yb rfl (cl 76 rfl (AE rfl rfl call95) (LP m c.a z _ ho (hC.fr0 M.fr).md.md) ?_))
      rintro _ w7 ⟨A76, c76, rfl, how7, hfw7⟩
      refine ⟨_, rfl, ?_⟩
      have M := M.pushOwn hfw7 (Nat.le_refl _) how7
      have hL76 := M.ownLen 0 rfl
      have hbl := EU m z
      refine DC (len' := (acc2 ++ (D1 m z)).length) (xs' := AB BK (acc2 ++ (D1 m z))) M 3 (wn_none rfl) rfl rfl rfl rfl rfl rfl (M.rdOwn 0 rfl) underlying48 CI rfl AU (D8 GO) (Nat.le_refl _) (Nat.le_refl _) CX (by unfold maxLen; first | omega | (simp only [List.length_append, List.length_cons, List.length_nil]; omega)) (by simp) (by first | exact (AT _ _ _).symm | simp [AB, BK]) fun A77 c77 w8 M => yb rfl (sxl_nil (qx_block_normal (qx_seq (sx_region (C1 rfl rfl (yb rfl (sxl_nil (fag ⟨q + 1, acc2 ++ (D1 m z), A77, c77, rfl, (M.pk [1, 2, 3, 4, 5]), ?_, ?_, ?_, rfl⟩))))))))
      ·omega
      ·rw [hv, AJ hz, List.flatMap_append, List.append_assoc]; simp
      ·have hbz := EU m z; rw [List.length_append]; omega
     ·have h67p := (odf h67)
      refine sx_exit (qx_then_exit (qx_then_exit ?_))
      have hqE : q = ([t.loc] ++ (AN m.els t.loc)).length := by omega
      rw [hqE, List.take_length] at hv
      refine qx_block_hit (qx_seq (AC rfl (yb rfl (gnr (gr1 rfl ?_)))))
      have hvp : EL m c t = acc2 := by rw [EL, AS h12, hv, cE, if_pos h21] <;> rfl
      rw [hvp]
      exact ⟨_, _, rfl, M.own 2 rfl, M.fr⟩
    refine I6 M 13 CL fun M => oc 0 13 rfl rfl M (ol 1 13 rfl rfl rfl M (fun _ M => (M.cell 2 rfl rfl)) (oc 3 13 rfl rfl M (oc 4 13 rfl rfl M (oc 5 13 rfl rfl M (oa 6 13 rfl rfl M (fun _ M => AH (xs := [str m.id, str m.nm, .slice c.a.V m.vars.length c.a.vc, .slice c.a.E m.els.length c.a.ec, .slice c.a.F m.fls.length c.a.fc]) rfl rfl (DK ((hC.fr0 M.fr).blk) 0 5 rfl rfl) underlying62 rfl B6) (oc 7 13 rfl rfl M (ol 8 13 rfl rfl rfl M (fun _ M => (M.cell 2 rfl rfl)) (oc 12 13 rfl rfl M (FP (rs := [2, 9]) gkr (by simp) fun iz hiz => ?_)))))))))
    simp only [List.mem_cons, List.not_mem_nil, or_false] at hiz
    rcases hiz with rfl | rfl
    ·refine DE (some 56) rfl (wn_none rfl) rfl rfl (fun ρ hρ => CM [str t.loc] _ hρ rfl rfl rfl rfl underlying48 CP AU AU (EZ rfl)) ?_
     rintro _ w9 ⟨g56, rfl, hg56, hq56, hb56, hfw9⟩
     replace hb56 : Blk w9 g56 9 ([str t.loc]) := hb56
     refine ⟨fun _ => M.step hfw9, ?_⟩
     have M := M.push hfw9 _ hb56 (DF hg56 hq56)
     replace M : Mem w AM (As.blk g56 9 ([str t.loc]) :: _) w9 := M
     refine C5 9 (some 63) gkr rfl (wn_none rfl) rfl rfl (AE rfl rfl call94) (HH m c.a t.loc _ ho (hC.fr0 M.fr).md.md) ?_
     rintro _ w10 ⟨A63, c63, rfl, how10, hfw10⟩
     refine ⟨_, rfl, fun _ => (M.drop 1).step hfw10, ?_⟩
     have M := M.pushOwn hfw10 (Nat.le_refl _) how10
     have hL63 := M.ownLen 0 rfl
     have M := M.blkOwn 1 (size := 1) (n := 1) rfl rfl (by unfold maxLen; omega)
     refine AR 10 (some 64) gkr rfl (wn_none rfl) rfl rfl (fun ρ hρ => BV _ _ _ rfl w.heap.size _ _ _ _ underlying48 CI rfl AU _ _ _ (hρ _ _ rfl) (M.own 1 rfl) _ _ _ _ (hρ _ _ rfl) (M.rdOwn 0 rfl) (D8 GO) (by unfold maxLen; first | omega | (simp only [List.length_append, List.length_cons, List.length_nil]; omega)) CX M.fr.size) ?_
     rintro v64 w11 ⟨ho64, hgr64, hvb64⟩
     replace ho64 : World.ownsRow w11 w.heap.size 9 1 v64 (([t.loc] ++ (AN m.els t.loc)).length) (AB BK ([t.loc] ++ (AN m.els t.loc))) := by rw [show (([t.loc] ++ (AN m.els t.loc)).length) = 1 + (AN m.els t.loc).length from by first | (simp only [List.length_append, List.length_cons, List.length_nil]; omega) | simp only [List.length_append, List.length_cons, List.length_nil], show (AB BK ([t.loc] ++ (AN m.els t.loc))) = (AB BK [t.loc]) ++ (AB BK (AN m.els t.loc)) from by first | exact AT _ _ _ | simp [AB, BK]]; exact ho64
     have M := M.appOwn 1 rfl ho64 hgr64 hvb64
     obtain ⟨A64, c64, rfl, _⟩ := CC ho64
     exact ⟨fun _ => (M.drop 2), oa 11 13 rfl rfl (M.drop 2) (fun _ M => F5 rfl rfl (sl rfl)) (fdn (kr14 A63 c63 A64 c64 _ _ M ⟨rfl, rfl, rfl, rfl, rfl, trivial⟩))⟩
    ·refine K9 (some 63) rfl (wn_none rfl) rfl rfl (AE rfl rfl call94) (HH m c.a t.loc _ ho (hC.fr0 M.fr).md.md) ?_
     rintro _ w12 ⟨A63, c63, rfl, how12, hfw12⟩
     refine ⟨_, rfl, fun _ => M.step hfw12, ?_⟩
     have M := M.pushOwn hfw12 (Nat.le_refl _) how12
     have hL63 := M.ownLen 0 rfl
     refine AR 2 (some 56) gkr rfl (wn_none rfl) rfl rfl (fun ρ hρ => CM [str t.loc] _ hρ rfl rfl rfl rfl underlying48 CP AU AU (EZ rfl)) ?_
     rintro _ w13 ⟨g56, rfl, hg56, hq56, hb56, hfw13⟩
     replace hb56 : Blk w13 g56 9 ([str t.loc]) := hb56
     refine ⟨fun _ => (M.drop 1).step hfw13, ?_⟩
     have M := M.push hfw13 _ hb56 (DF hg56 hq56)
     replace M : Mem w AM (As.blk g56 9 ([str t.loc]) :: _) w13 := M
     have M := M.blkOwn 0 (size := 1) (n := 1) rfl rfl (by unfold maxLen; omega)
     refine AR 10 (some 64) gkr rfl (wn_none rfl) rfl rfl (fun ρ hρ => BV _ _ _ rfl w.heap.size _ _ _ _ underlying48 CI rfl AU _ _ _ (hρ _ _ rfl) (M.own 0 rfl) _ _ _ _ (hρ _ _ rfl) (M.rdOwn 1 rfl) (D8 GO) (by unfold maxLen; first | omega | (simp only [List.length_append, List.length_cons, List.length_nil]; omega)) CX M.fr.size) ?_
     rintro v64 w14 ⟨ho64, hgr64, hvb64⟩
     replace ho64 : World.ownsRow w14 w.heap.size 9 1 v64 (([t.loc] ++ (AN m.els t.loc)).length) (AB BK ([t.loc] ++ (AN m.els t.loc))) := by rw [show (([t.loc] ++ (AN m.els t.loc)).length) = 1 + (AN m.els t.loc).length from by first | (simp only [List.length_append, List.length_cons, List.length_nil]; omega) | simp only [List.length_append, List.length_cons, List.length_nil], show (AB BK ([t.loc] ++ (AN m.els t.loc))) = (AB BK [t.loc]) ++ (AB BK (AN m.els t.loc)) from by first | exact AT _ _ _ | simp [AB, BK]]; exact ho64
     have M := M.appOwn 0 rfl ho64 hgr64 hvb64
     obtain ⟨A64, c64, rfl, _⟩ := CC ho64
     exact ⟨fun _ => (M.drop 2), oa 11 13 rfl rfl (M.drop 2) (fun _ M => F5 rfl rfl (sl rfl)) (fdn (kr14 A63 c63 A64 c64 _ _ (M.pk [1, 0, 2, 3, 4]) ⟨rfl, rfl, rfl, rfl, rfl, trivial⟩))⟩
   ·have h21p := (And.intro (odf (BT h21).1) (odf (BT h21).2))
    refine srg (C7 rfl rfl (AG rfl (AF rfl (fun h29 => ?_) (fun h29 => ?_))))
    ·have h29p := (odt h29)
     refine sx_seq (HT CL gkr ?_)
     have M := M.drew
     refine sb rfl (sb rfl (sb rfl (sd rfl rfl (Blk.c ((hC.fr0 M.fr).blk) 8 rfl) (sb rfl (GZ M 0 rfl rfl rfl (sa rfl (BD rfl rfl rfl underlying87 underlying9 EO ((hC.fr0 M.fr).O) (hC.getO _)) (sa rfl (F5 rfl rfl (sl rfl)) (sb rfl (IY (qx_seq (sx_block ?_)))))))))))
     have M := M.nilOwn 9 1
     refine flp [38, 37, 3, 0] (fun ze e wr mz => ∃ (j : Nat) (acc : List (List UInt8)) (A5 : Option Addr) (c5 : Nat), e = (5, .slice A5 acc.length c5) :: (39, AA (j : Int)) :: ze ∧ Mem w AM [As.own w.heap.size 9 1 (.slice A5 acc.length c5) acc.length (AB BK acc), As.blk g3 56 (Tk.cells t)] wr ∧ (j ≤ (c.outs t.loc).length) ∧ (acc = ((c.outs t.loc).take j).map (fun k => (c.flf k).tg) ∧ acc.length = j) ∧ mz = (c.outs t.loc).length - j) ⟨0, [], none, 0, rfl, M, Nat.zero_le _, ⟨rfl, rfl⟩, rfl⟩ ?_
     rintro _ w15 _ ⟨j, acc, A5, c5, rfl, M, hj, hacc, rfl⟩
     refine srg (BM rfl rfl (nq (sx_seq (AF rfl (fun h40 => ?_) (fun h40 => ?_)))))
     ·have h40p := (odt h40)
      refine sx_skip (qx_seq (sx_seq (sx_block (srg ?_))))
      obtain ⟨k, hk⟩ := BZ (l := (c.outs t.loc)) (i := j) A0
      obtain ⟨b_k, o_k, hA_k⟩ := B7 (k := 1) A0 ((hC.fr0 M.fr).rdO _) hk
      refine ya rfl (AP j hA_k rfl rfl rfl (sl rfl) A0) (yl rfl rfl (E5 FD ((hC.fr0 M.fr).rdO _) hA_k hk 0 rfl) (AG rfl (sx_region ?_)))
      iterate 4 refine yb rfl ?_
      refine yl rfl rfl (Blk.c ((hC.fr0 M.fr).blk) 6 rfl) (yb rfl (ya rfl (BD rfl rfl rfl underlying86 underlying9 E9 ((hC.fr0 M.fr).L) (hC.getL _)) (ya rfl (f7 (b := (c.flf k)) rfl rfl) (CU M (wn_none rfl) rfl rfl [str ((c.flf k).tg)] ([str ((c.flf k).tg)]) rfl rfl rfl rfl underlying48 CP rfl rfl (EZ rfl) rfl fun g51 w16 hg51 M => DC (len' := (acc ++ [(c.flf k).tg]).length) (xs' := AB BK (acc ++ [(c.flf k).tg])) M 1 (wn_none rfl) rfl rfl rfl rfl rfl rfl (M.rdBlk 0 rfl rfl) underlying48 CI rfl AU (BG rfl) (Nat.le_refl _) (Nat.le_refl _) CX (by unfold maxLen; first | omega | (simp only [List.length_append, List.length_cons, List.length_nil]; omega)) (by simp) (by first | exact (AT _ _ _).symm | simp [AB, BK]) fun A52 c52 w17 M => yb rfl (sxl_nil (qx_block_normal (qx_seq (sx_region (C1 rfl rfl (yb rfl (sxl_nil ?_)))))))))))
      refine fag ⟨j + 1, acc ++ [(c.flf k).tg], A52, c52, rfl, (M.pk [1, 2]), ?_, ?_, rfl⟩
      ·omega
      ·exact ⟨by rw [hacc.1, AJ hk, List.map_append]; rfl, by rw [List.length_append, hacc.2]; rfl⟩
     ·have h40p := (odf h40)
      refine sx_exit (qx_then_exit (qx_then_exit ?_))
      have hjE : j = (c.outs t.loc).length := by omega
      have hal : acc.length ≤ 400 := by rw [hacc.2, hjE]; omega
      have hac := hacc.1
      rw [hjE, List.take_length] at hac
      refine qx_block_hit (qx_block_normal (qx_seq (sx_seq (sx_seq (R0 (fun (A63 : Option Addr) (c63 : Nat) (A64 : Option Addr) (c64 : Nat) => [(0, pg gc), (5, .slice A5 acc.length c5), (64, .slice A64 (([t.loc] ++ (AN m.els t.loc)).length) c64), (65, AA (([t.loc] ++ (AN m.els t.loc)).length : Int)), (66, AA 0)]) (fun (A63 : Option Addr) (c63 : Nat) (A64 : Option Addr) (c64 : Nat) => fun w' => Mem w AM [As.own w.heap.size 9 1 (.slice A63 (AN m.els t.loc).length c63) ((AN m.els t.loc).length) (AB BK (AN m.els t.loc)), As.own w.heap.size 9 1 (.slice A64 (([t.loc] ++ (AN m.els t.loc)).length) c64) (([t.loc] ++ (AN m.els t.loc)).length) (AB BK ([t.loc] ++ (AN m.els t.loc))), As.own w.heap.size 9 1 (.slice A5 acc.length c5) acc.length (AB BK acc), As.blk g3 56 (Tk.cells t)] w') ?_ (fun kr14 => ?_))))))
      ·intro A63 c63 A64 c64 w18 M
       refine qx_seq (sx_block (flp [65, 64, 0] (fun ze e wr mz => ∃ (q : Nat) (acc2 : List (List UInt8)) (A6 : Option Addr) (c6 : Nat), e = (5, .slice A6 acc2.length c6) :: (66, AA (q : Int)) :: ze ∧ Mem w AM [As.own w.heap.size 9 1 (.slice A63 (AN m.els t.loc).length c63) ((AN m.els t.loc).length) (AB BK (AN m.els t.loc)), As.own w.heap.size 9 1 (.slice A64 (([t.loc] ++ (AN m.els t.loc)).length) c64) (([t.loc] ++ (AN m.els t.loc)).length) (AB BK ([t.loc] ++ (AN m.els t.loc))), As.own w.heap.size 9 1 (.slice A6 acc2.length c6) acc2.length (AB BK acc2), As.blk g3 56 (Tk.cells t)] wr ∧ (q ≤ ([t.loc] ++ (AN m.els t.loc)).length) ∧ (acc2 = acc ++ (([t.loc] ++ (AN m.els t.loc)).take q).flatMap (D1 m)) ∧ (acc2.length ≤ 400 + q * 200) ∧ mz = ([t.loc] ++ (AN m.els t.loc)).length - q) ⟨0, acc, A5, c5, rfl, M, Nat.zero_le _, by rw [List.take_zero, List.flatMap_nil, List.append_nil], by omega, rfl⟩ ?_))
       rintro _ w19 _ ⟨q, acc2, A6, c6, rfl, M, hq, hv, hl2, rfl⟩
       refine srg (BM rfl rfl (nq (sx_seq (AF rfl (fun h67 => ?_) (fun h67 => ?_)))))
       ·have h67p := (odt h67)
        refine sx_skip (qx_seq (sx_seq (sx_block (srg ?_))))
        obtain ⟨z, hz⟩ := BZ (l := [t.loc] ++ (AN m.els t.loc)) (i := q) A0
        obtain ⟨b_z, o_z, hA_z⟩ := B7 (k := 1) A0 (M.rdOwn 1 rfl) hz
        refine ya rfl (AP q hA_z rfl rfl rfl (sl rfl) A0) (yl rfl rfl (E5 FD (M.rdOwn 1 rfl) hA_z hz 0 rfl) (AG rfl (sx_region ?_)))
        iterate 4 refine yb rfl ?_
        refine ya rfl (AH (xs := [str m.id, str m.nm, .slice c.a.V m.vars.length c.a.vc, .slice c.a.E m.els.length c.a.ec, .slice c.a.F m.fls.length c.a.fc]) rfl rfl (DK ((hC.fr0 M.fr).blk) 0 5 rfl rfl) underlying62 rfl B6) (yb rfl (cl 76 rfl (AE rfl rfl call95) (LP m c.a z _ ho (hC.fr0 M.fr).md.md) ?_))
        rintro _ w20 ⟨A76, c76, rfl, how20, hfw20⟩
        refine ⟨_, rfl, ?_⟩
        have M := M.pushOwn hfw20 (Nat.le_refl _) how20
        have hL76 := M.ownLen 0 rfl
        have hbl := EU m z
        refine DC (len' := (acc2 ++ (D1 m z)).length) (xs' := AB BK (acc2 ++ (D1 m z))) M 3 (wn_none rfl) rfl rfl rfl rfl rfl rfl (M.rdOwn 0 rfl) underlying48 CI rfl AU (D8 GO) (Nat.le_refl _) (Nat.le_refl _) CX (by unfold maxLen; first | omega | (simp only [List.length_append, List.length_cons, List.length_nil]; omega)) (by simp) (by first | exact (AT _ _ _).symm | simp [AB, BK]) fun A77 c77 w21 M => yb rfl (sxl_nil (qx_block_normal (qx_seq (sx_region (C1 rfl rfl (yb rfl (sxl_nil (fag ⟨q + 1, acc2 ++ (D1 m z), A77, c77, rfl, (M.pk [1, 2, 3, 4]), ?_, ?_, ?_, rfl⟩))))))))
        ·omega
        ·rw [hv, AJ hz, List.flatMap_append, List.append_assoc]; simp
        ·have hbz := EU m z; rw [List.length_append]; omega
       ·have h67p := (odf h67)
        refine sx_exit (qx_then_exit (qx_then_exit ?_))
        have hqE : q = ([t.loc] ++ (AN m.els t.loc)).length := by omega
        rw [hqE, List.take_length] at hv
        refine qx_block_hit (qx_seq (AC rfl (yb rfl (gnr (gr1 rfl ?_)))))
        have hvp : EL m c t = acc2 := by rw [EL, AS h12, hv, cE, AS h21, if_pos h29, ← hac] <;> rfl
        rw [hvp]
        exact ⟨_, _, rfl, M.own 2 rfl, M.fr⟩
      refine I6 M 13 CL fun M => oc 0 13 rfl rfl M (ol 1 13 rfl rfl rfl M (fun _ M => (M.cell 1 rfl rfl)) (oc 3 13 rfl rfl M (oc 4 13 rfl rfl M (oc 5 13 rfl rfl M (oa 6 13 rfl rfl M (fun _ M => AH (xs := [str m.id, str m.nm, .slice c.a.V m.vars.length c.a.vc, .slice c.a.E m.els.length c.a.ec, .slice c.a.F m.fls.length c.a.fc]) rfl rfl (DK ((hC.fr0 M.fr).blk) 0 5 rfl rfl) underlying62 rfl B6) (oc 7 13 rfl rfl M (ol 8 13 rfl rfl rfl M (fun _ M => (M.cell 1 rfl rfl)) (oc 12 13 rfl rfl M (FP (rs := [2, 9]) gkr (by simp) fun iz hiz => ?_)))))))))
      simp only [List.mem_cons, List.not_mem_nil, or_false] at hiz
      rcases hiz with rfl | rfl
      ·refine DE (some 56) rfl (wn_none rfl) rfl rfl (fun ρ hρ => CM [str t.loc] _ hρ rfl rfl rfl rfl underlying48 CP AU AU (EZ rfl)) ?_
       rintro _ w22 ⟨g56, rfl, hg56, hq56, hb56, hfw22⟩
       replace hb56 : Blk w22 g56 9 ([str t.loc]) := hb56
       refine ⟨fun _ => M.step hfw22, ?_⟩
       have M := M.push hfw22 _ hb56 (DF hg56 hq56)
       replace M : Mem w AM (As.blk g56 9 ([str t.loc]) :: _) w22 := M
       refine C5 9 (some 63) gkr rfl (wn_none rfl) rfl rfl (AE rfl rfl call94) (HH m c.a t.loc _ ho (hC.fr0 M.fr).md.md) ?_
       rintro _ w23 ⟨A63, c63, rfl, how23, hfw23⟩
       refine ⟨_, rfl, fun _ => (M.drop 1).step hfw23, ?_⟩
       have M := M.pushOwn hfw23 (Nat.le_refl _) how23
       have hL63 := M.ownLen 0 rfl
       have M := M.blkOwn 1 (size := 1) (n := 1) rfl rfl (by unfold maxLen; omega)
       refine AR 10 (some 64) gkr rfl (wn_none rfl) rfl rfl (fun ρ hρ => BV _ _ _ rfl w.heap.size _ _ _ _ underlying48 CI rfl AU _ _ _ (hρ _ _ rfl) (M.own 1 rfl) _ _ _ _ (hρ _ _ rfl) (M.rdOwn 0 rfl) (D8 GO) (by unfold maxLen; first | omega | (simp only [List.length_append, List.length_cons, List.length_nil]; omega)) CX M.fr.size) ?_
       rintro v64 w24 ⟨ho64, hgr64, hvb64⟩
       replace ho64 : World.ownsRow w24 w.heap.size 9 1 v64 (([t.loc] ++ (AN m.els t.loc)).length) (AB BK ([t.loc] ++ (AN m.els t.loc))) := by rw [show (([t.loc] ++ (AN m.els t.loc)).length) = 1 + (AN m.els t.loc).length from by first | (simp only [List.length_append, List.length_cons, List.length_nil]; omega) | simp only [List.length_append, List.length_cons, List.length_nil], show (AB BK ([t.loc] ++ (AN m.els t.loc))) = (AB BK [t.loc]) ++ (AB BK (AN m.els t.loc)) from by first | exact AT _ _ _ | simp [AB, BK]]; exact ho64
       have M := M.appOwn 1 rfl ho64 hgr64 hvb64
       obtain ⟨A64, c64, rfl, _⟩ := CC ho64
       exact ⟨fun _ => (M.drop 2), oa 11 13 rfl rfl (M.drop 2) (fun _ M => F5 rfl rfl (sl rfl)) (fdn (kr14 A63 c63 A64 c64 _ _ M ⟨rfl, rfl, rfl, rfl, rfl, trivial⟩))⟩
      ·refine K9 (some 63) rfl (wn_none rfl) rfl rfl (AE rfl rfl call94) (HH m c.a t.loc _ ho (hC.fr0 M.fr).md.md) ?_
       rintro _ w25 ⟨A63, c63, rfl, how25, hfw25⟩
       refine ⟨_, rfl, fun _ => M.step hfw25, ?_⟩
       have M := M.pushOwn hfw25 (Nat.le_refl _) how25
       have hL63 := M.ownLen 0 rfl
       refine AR 2 (some 56) gkr rfl (wn_none rfl) rfl rfl (fun ρ hρ => CM [str t.loc] _ hρ rfl rfl rfl rfl underlying48 CP AU AU (EZ rfl)) ?_
       rintro _ w26 ⟨g56, rfl, hg56, hq56, hb56, hfw26⟩
       replace hb56 : Blk w26 g56 9 ([str t.loc]) := hb56
       refine ⟨fun _ => (M.drop 1).step hfw26, ?_⟩
       have M := M.push hfw26 _ hb56 (DF hg56 hq56)
       replace M : Mem w AM (As.blk g56 9 ([str t.loc]) :: _) w26 := M
       have M := M.blkOwn 0 (size := 1) (n := 1) rfl rfl (by unfold maxLen; omega)
       refine AR 10 (some 64) gkr rfl (wn_none rfl) rfl rfl (fun ρ hρ => BV _ _ _ rfl w.heap.size _ _ _ _ underlying48 CI rfl AU _ _ _ (hρ _ _ rfl) (M.own 0 rfl) _ _ _ _ (hρ _ _ rfl) (M.rdOwn 1 rfl) (D8 GO) (by unfold maxLen; first | omega | (simp only [List.length_append, List.length_cons, List.length_nil]; omega)) CX M.fr.size) ?_
       rintro v64 w27 ⟨ho64, hgr64, hvb64⟩
       replace ho64 : World.ownsRow w27 w.heap.size 9 1 v64 (([t.loc] ++ (AN m.els t.loc)).length) (AB BK ([t.loc] ++ (AN m.els t.loc))) := by rw [show (([t.loc] ++ (AN m.els t.loc)).length) = 1 + (AN m.els t.loc).length from by first | (simp only [List.length_append, List.length_cons, List.length_nil]; omega) | simp only [List.length_append, List.length_cons, List.length_nil], show (AB BK ([t.loc] ++ (AN m.els t.loc))) = (AB BK [t.loc]) ++ (AB BK (AN m.els t.loc)) from by first | exact AT _ _ _ | simp [AB, BK]]; exact ho64
       have M := M.appOwn 0 rfl ho64 hgr64 hvb64
       obtain ⟨A64, c64, rfl, _⟩ := CC ho64
       exact ⟨fun _ => (M.drop 2), oa 11 13 rfl rfl (M.drop 2) (fun _ M => F5 rfl rfl (sl rfl)) (fdn (kr14 A63 c63 A64 c64 _ _ (M.pk [1, 0, 2, 3]) ⟨rfl, rfl, rfl, rfl, rfl, trivial⟩))⟩
    ·have h29p := (odf h29)
     refine sx_skip (qx_block_normal (qx_seq (sx_seq (sx_seq (R0 (fun (A63 : Option Addr) (c63 : Nat) (A64 : Option Addr) (c64 : Nat) => [(0, pg gc), (5, .slice none 0 0), (64, .slice A64 (([t.loc] ++ (AN m.els t.loc)).length) c64), (65, AA (([t.loc] ++ (AN m.els t.loc)).length : Int)), (66, AA 0)]) (fun (A63 : Option Addr) (c63 : Nat) (A64 : Option Addr) (c64 : Nat) => fun w' => Mem w AM [As.own w.heap.size 9 1 (.slice A63 (AN m.els t.loc).length c63) ((AN m.els t.loc).length) (AB BK (AN m.els t.loc)), As.own w.heap.size 9 1 (.slice A64 (([t.loc] ++ (AN m.els t.loc)).length) c64) (([t.loc] ++ (AN m.els t.loc)).length) (AB BK ([t.loc] ++ (AN m.els t.loc))), As.blk g3 56 (Tk.cells t)] w') ?_ (fun kr14 => ?_))))))
     ·intro A63 c63 A64 c64 w28 M
      refine qx_seq (sx_block ?_)
      have M := M.nilOwn 9 1
      refine flp [65, 64, 0] (fun ze e wr mz => ∃ (q : Nat) (acc2 : List (List UInt8)) (A6 : Option Addr) (c6 : Nat), e = (5, .slice A6 acc2.length c6) :: (66, AA (q : Int)) :: ze ∧ Mem w AM [As.own w.heap.size 9 1 (.slice A6 acc2.length c6) acc2.length (AB BK acc2), As.own w.heap.size 9 1 (.slice A63 (AN m.els t.loc).length c63) ((AN m.els t.loc).length) (AB BK (AN m.els t.loc)), As.own w.heap.size 9 1 (.slice A64 (([t.loc] ++ (AN m.els t.loc)).length) c64) (([t.loc] ++ (AN m.els t.loc)).length) (AB BK ([t.loc] ++ (AN m.els t.loc))), As.blk g3 56 (Tk.cells t)] wr ∧ (q ≤ ([t.loc] ++ (AN m.els t.loc)).length) ∧ (acc2 = [] ++ (([t.loc] ++ (AN m.els t.loc)).take q).flatMap (D1 m)) ∧ (acc2.length ≤ 400 + q * 200) ∧ mz = ([t.loc] ++ (AN m.els t.loc)).length - q) ⟨0, [], none, 0, rfl, M, Nat.zero_le _, by rw [List.take_zero, List.flatMap_nil, List.append_nil], by simp only [List.length_nil]; omega, rfl⟩ ?_
      rintro _ w29 _ ⟨q, acc2, A6, c6, rfl, M, hq, hv, hl2, rfl⟩
      refine srg (BM rfl rfl (nq (sx_seq (AF rfl (fun h67 => ?_) (fun h67 => ?_)))))
      ·have h67p := (odt h67)
       refine sx_skip (qx_seq (sx_seq (sx_block (srg ?_))))
       obtain ⟨z, hz⟩ := BZ (l := [t.loc] ++ (AN m.els t.loc)) (i := q) A0
       obtain ⟨b_z, o_z, hA_z⟩ := B7 (k := 1) A0 (M.rdOwn 2 rfl) hz
       refine ya rfl (AP q hA_z rfl rfl rfl (sl rfl) A0) (yl rfl rfl (E5 FD (M.rdOwn 2 rfl) hA_z hz 0 rfl) (AG rfl (sx_region ?_)))
       iterate 4 refine yb rfl ?_
       refine ya rfl (AH (xs := [str m.id, str m.nm, .slice c.a.V m.vars.length c.a.vc, .slice c.a.E m.els.length c.a.ec, .slice c.a.F m.fls.length c.a.fc]) rfl rfl (DK ((hC.fr0 M.fr).blk) 0 5 rfl rfl) underlying62 rfl B6) (yb rfl (cl 76 rfl (AE rfl rfl call95) (LP m c.a z _ ho (hC.fr0 M.fr).md.md) ?_))
       rintro _ w30 ⟨A76, c76, rfl, how30, hfw30⟩
       refine ⟨_, rfl, ?_⟩
       have M := M.pushOwn hfw30 (Nat.le_refl _) how30
       have hL76 := M.ownLen 0 rfl
       have hbl := EU m z
       refine DC (len' := (acc2 ++ (D1 m z)).length) (xs' := AB BK (acc2 ++ (D1 m z))) M 1 (wn_none rfl) rfl rfl rfl rfl rfl rfl (M.rdOwn 0 rfl) underlying48 CI rfl AU (D8 GO) (Nat.le_refl _) (Nat.le_refl _) CX (by unfold maxLen; first | omega | (simp only [List.length_append, List.length_cons, List.length_nil]; omega)) (by simp) (by first | exact (AT _ _ _).symm | simp [AB, BK]) fun A77 c77 w31 M => yb rfl (sxl_nil (qx_block_normal (qx_seq (sx_region (C1 rfl rfl (yb rfl (sxl_nil (fag ⟨q + 1, acc2 ++ (D1 m z), A77, c77, rfl, (M.pk [1, 2, 3, 4]), ?_, ?_, ?_, rfl⟩))))))))
       ·omega
       ·rw [hv, AJ hz, List.flatMap_append, List.append_assoc]; simp
       ·have hbz := EU m z; rw [List.length_append]; omega
      ·have h67p := (odf h67)
       refine sx_exit (qx_then_exit (qx_then_exit ?_))
       have hqE : q = ([t.loc] ++ (AN m.els t.loc)).length := by omega
       rw [hqE, List.take_length] at hv
       refine qx_block_hit (qx_seq (AC rfl (yb rfl (gnr (gr1 rfl ?_)))))
       have hvp : EL m c t = acc2 := by rw [EL, AS h12, hv, cE, AS h21, AS h29] <;> rfl
       rw [hvp]
       exact ⟨_, _, rfl, M.own 0 rfl, M.fr⟩
     refine I6 M 13 CL fun M => oc 0 13 rfl rfl M (ol 1 13 rfl rfl rfl M (fun _ M => (M.cell 0 rfl rfl)) (oc 3 13 rfl rfl M (oc 4 13 rfl rfl M (oc 5 13 rfl rfl M (oa 6 13 rfl rfl M (fun _ M => AH (xs := [str m.id, str m.nm, .slice c.a.V m.vars.length c.a.vc, .slice c.a.E m.els.length c.a.ec, .slice c.a.F m.fls.length c.a.fc]) rfl rfl (DK ((hC.fr0 M.fr).blk) 0 5 rfl rfl) underlying62 rfl B6) (oc 7 13 rfl rfl M (ol 8 13 rfl rfl rfl M (fun _ M => (M.cell 0 rfl rfl)) (oc 12 13 rfl rfl M (FP (rs := [2, 9]) gkr (by simp) fun iz hiz => ?_)))))))))
     simp only [List.mem_cons, List.not_mem_nil, or_false] at hiz
     rcases hiz with rfl | rfl
     ·refine DE (some 56) rfl (wn_none rfl) rfl rfl (fun ρ hρ => CM [str t.loc] _ hρ rfl rfl rfl rfl underlying48 CP AU AU (EZ rfl)) ?_
      rintro _ w32 ⟨g56, rfl, hg56, hq56, hb56, hfw32⟩
      replace hb56 : Blk w32 g56 9 ([str t.loc]) := hb56
      refine ⟨fun _ => M.step hfw32, ?_⟩
      have M := M.push hfw32 _ hb56 (DF hg56 hq56)
      replace M : Mem w AM (As.blk g56 9 ([str t.loc]) :: _) w32 := M
      refine C5 9 (some 63) gkr rfl (wn_none rfl) rfl rfl (AE rfl rfl call94) (HH m c.a t.loc _ ho (hC.fr0 M.fr).md.md) ?_
      rintro _ w33 ⟨A63, c63, rfl, how33, hfw33⟩
      refine ⟨_, rfl, fun _ => (M.drop 1).step hfw33, ?_⟩
      have M := M.pushOwn hfw33 (Nat.le_refl _) how33
      have hL63 := M.ownLen 0 rfl
      have M := M.blkOwn 1 (size := 1) (n := 1) rfl rfl (by unfold maxLen; omega)
      refine AR 10 (some 64) gkr rfl (wn_none rfl) rfl rfl (fun ρ hρ => BV _ _ _ rfl w.heap.size _ _ _ _ underlying48 CI rfl AU _ _ _ (hρ _ _ rfl) (M.own 1 rfl) _ _ _ _ (hρ _ _ rfl) (M.rdOwn 0 rfl) (D8 GO) (by unfold maxLen; first | omega | (simp only [List.length_append, List.length_cons, List.length_nil]; omega)) CX M.fr.size) ?_
      rintro v64 w34 ⟨ho64, hgr64, hvb64⟩
      replace ho64 : World.ownsRow w34 w.heap.size 9 1 v64 (([t.loc] ++ (AN m.els t.loc)).length) (AB BK ([t.loc] ++ (AN m.els t.loc))) := by rw [show (([t.loc] ++ (AN m.els t.loc)).length) = 1 + (AN m.els t.loc).length from by first | (simp only [List.length_append, List.length_cons, List.length_nil]; omega) | simp only [List.length_append, List.length_cons, List.length_nil], show (AB BK ([t.loc] ++ (AN m.els t.loc))) = (AB BK [t.loc]) ++ (AB BK (AN m.els t.loc)) from by first | exact AT _ _ _ | simp [AB, BK]]; exact ho64
      have M := M.appOwn 1 rfl ho64 hgr64 hvb64
      obtain ⟨A64, c64, rfl, _⟩ := CC ho64
      exact ⟨fun _ => (M.drop 2), oa 11 13 rfl rfl (M.drop 2) (fun _ M => F5 rfl rfl (sl rfl)) (fdn (kr14 A63 c63 A64 c64 _ _ M ⟨rfl, rfl, rfl, rfl, rfl, trivial⟩))⟩
     ·refine K9 (some 63) rfl (wn_none rfl) rfl rfl (AE rfl rfl call94) (HH m c.a t.loc _ ho (hC.fr0 M.fr).md.md) ?_
      rintro _ w35 ⟨A63, c63, rfl, how35, hfw35⟩
      refine ⟨_, rfl, fun _ => M.step hfw35, ?_⟩
      have M := M.pushOwn hfw35 (Nat.le_refl _) how35
      have hL63 := M.ownLen 0 rfl
      refine AR 2 (some 56) gkr rfl (wn_none rfl) rfl rfl (fun ρ hρ => CM [str t.loc] _ hρ rfl rfl rfl rfl underlying48 CP AU AU (EZ rfl)) ?_
      rintro _ w36 ⟨g56, rfl, hg56, hq56, hb56, hfw36⟩
      replace hb56 : Blk w36 g56 9 ([str t.loc]) := hb56
      refine ⟨fun _ => (M.drop 1).step hfw36, ?_⟩
      have M := M.push hfw36 _ hb56 (DF hg56 hq56)
      replace M : Mem w AM (As.blk g56 9 ([str t.loc]) :: _) w36 := M
      have M := M.blkOwn 0 (size := 1) (n := 1) rfl rfl (by unfold maxLen; omega)
      refine AR 10 (some 64) gkr rfl (wn_none rfl) rfl rfl (fun ρ hρ => BV _ _ _ rfl w.heap.size _ _ _ _ underlying48 CI rfl AU _ _ _ (hρ _ _ rfl) (M.own 0 rfl) _ _ _ _ (hρ _ _ rfl) (M.rdOwn 1 rfl) (D8 GO) (by unfold maxLen; first | omega | (simp only [List.length_append, List.length_cons, List.length_nil]; omega)) CX M.fr.size) ?_
      rintro v64 w37 ⟨ho64, hgr64, hvb64⟩
      replace ho64 : World.ownsRow w37 w.heap.size 9 1 v64 (([t.loc] ++ (AN m.els t.loc)).length) (AB BK ([t.loc] ++ (AN m.els t.loc))) := by rw [show (([t.loc] ++ (AN m.els t.loc)).length) = 1 + (AN m.els t.loc).length from by first | (simp only [List.length_append, List.length_cons, List.length_nil]; omega) | simp only [List.length_append, List.length_cons, List.length_nil], show (AB BK ([t.loc] ++ (AN m.els t.loc))) = (AB BK [t.loc]) ++ (AB BK (AN m.els t.loc)) from by first | exact AT _ _ _ | simp [AB, BK]]; exact ho64
      have M := M.appOwn 0 rfl ho64 hgr64 hvb64
      obtain ⟨A64, c64, rfl, _⟩ := CC ho64
      exact ⟨fun _ => (M.drop 2), oa 11 13 rfl rfl (M.drop 2) (fun _ M => F5 rfl rfl (sl rfl)) (fdn (kr14 A63 c63 A64 c64 _ _ (M.pk [1, 0, 2]) ⟨rfl, rfl, rfl, rfl, rfl, trivial⟩))⟩
  refine AF rfl (fun h21 => ?_) (fun h21 => ?_)
  ·exact sx_skip (k21 _ _ M ⟨rfl, rfl, rfl, rfl, (by rw [h21]; rfl), trivial⟩)
  ·exact sx_region (C7 rfl rfl (yb rfl (sxl_nil (k21 _ _ M ⟨rfl, rfl, rfl, rfl, (by rw [h21]; rfl), trivial⟩))))
end Go.Proofs.YtaheakjfkpkefaaGreatDoor
