/- Lemmas that the last text rests on. Condition: each says its own. -/
import Derived.Test.YtdaihdknnlphkaaGreatDoorZCn1
set_option maxHeartbeats 16000000
set_option maxRecDepth 100000
namespace Go.Proofs.YtdaihdknnlphkaaGreatDoor
open Go.RowKit
open Tryz
theorem N8 (a0 : List UInt8) (A1 : Option Addr) (n1 c1 : Nat) (A2 : Option Addr) (n2 c2 : Nat) : prog.built 45 [(0, str a0), (1, .slice A1 n1 c1), (2, .slice A2 n2 c2)] = some #[str a0, .slice A1 n1 c1, .slice A2 n2 c2] := by kernel_rfl
theorem SM : (prog.info? 45).map (fun i => (i.zero, i.size, i.bytes)) = some (some (.agg #[str [], .slice none 0 0, .slice none 0 0]), 3, 64) := by kernel_rfl
theorem nL : (prog.info? 3).map (fun i => (i.zero, i.size, i.bytes)) = some (some (.int .i64 0), 1, 8) := by kernel_rfl
theorem TX : (prog.info? 45).map (fun i => (i.zero, i.size)) = some (some (.agg #[str [], .slice none 0 0, .slice none 0 0]), 3) := by kernel_rfl
theorem sR : (prog.info? 3).map (fun i => (i.zero, i.size)) = some (some (.int .i64 0), 1) := by kernel_rfl
theorem QE : (prog.info? 30).map (·.size) = some 1 := by kernel_rfl
theorem VV : (prog.info? 29).map (·.size) = some 1 := by kernel_rfl
theorem kC : (prog.info? 3).map (·.zero) = some (some (.int .i64 0)) := by kernel_rfl
theorem dQ (m : Md) (x : MkA) (gx g4 : Nat) (pl l : List (List UInt8)) (A : Option Addr) (cA : Nat) (w : World) (hl : l.length ≤ 100000) (hR : Rd w A (l.length * 1) (AS D7 l)) (h4 : Blk w g4 52 [pg gx]) (hb_ : Blk w gx 55 (x.cells m pl)) (hM_ : Mp w x.gP x.L) (hL : ∀ k, (D5 x.L k).getD (.int .i64 0) = .int .i64 ((idxP pl k : Nat) : Int)) :
 Calls prog 93 #[.slice A l.length cA, pg g4] w fun e w' => ∃ A' c', e = .returned (.slice A' l.length c') ∧ w'.ownsRow w.heap.size 3 1 (.slice A' l.length c') l.length (AS LL (DT pl l)) ∧ Fr0 w w' := by
 refine AJ (vs := [_, _]) func93 rfl ntmps93 rfl ?_
 have M := CN w
 refine A9 (A0 (yb rfl (A4 (A5 (A9 (A0 (yb rfl (A4 (A5 (A9 (A9 (A0 (yb rfl (ya rfl (CS rfl rfl (sl rfl)) (yb rfl ?_)))))))))))))))
 refine A4 (A5 (AV ?_))
 have M := M.nilOwn 3 1
 refine CL (fun e wr mz => ∃ (i : Nat) (acc : List Int) (A1 : Option Addr) (c1 : Nat), e = [(1, pg g4), (4, .slice A1 acc.length c1), (7, .slice A l.length cA), (8, .int .i64 ((l.length : Nat) : Int)), (9, .int .i64 ((i : Nat) : Int))] ∧ Mem w AD [As.own w.heap.size 3 1 (.slice A1 acc.length c1) acc.length (AS LL acc)] wr ∧ (i ≤ l.length) ∧ (acc = (l.take i).map fun s => ((idxP pl s : Nat) : Int)) ∧ (acc.length ≤ i) ∧ mz = l.length - i) ⟨0, [], none, 0, rfl, M, Nat.zero_le _, rfl, Nat.le_refl _, rfl⟩ ⟨rfl, rfl, rfl, rfl, rfl, trivial⟩ ?_
 rintro _ w1 _ ⟨i, acc, A1, c1, rfl, M, hi, hacc, hal, rfl⟩
 refine A9 (A0 (ya rfl (CB rfl rfl rfl) (A4 (A5 (A9 (AT (b := (decide (((i : Nat) : Int) < ((l.length : Nat) : Int)))) rfl (fun h10 => ?_) (fun h10 => ?_)))))))
 ·have h10p := (odt h10)
  refine AN (A5 (A9 (AV (A9 (A0 ?_)))))
  obtain ⟨s, hs⟩ := DA (l := l) (i := i) (by omega)
  obtain ⟨b_s, o_s, hA_s⟩ := C7 (k := 1) (by omega) (hR.fr0 M.fr) hs
  refine ya rfl (BM i hA_s rfl rfl rfl (sl rfl) (by omega)) (yl rfl rfl (EB GD (hR.fr0 M.fr) hA_s hs 0 rfl) (yb rfl (A4 (A5 (A0 (yb rfl (yl rfl rfl (Blk.c ((h4.fr0 M.fr)) 0 rfl) (yb rfl (yb rfl (yl rfl rfl (Blk.c ((hb_.fr0 M.fr)) 9 rfl) (yb rfl (ya rfl (CK rfl rfl rfl underlying53 underlying9 kC ((hM_.fr M.fr (fun h => h))) (hL _)) (DC M (AA rfl) rfl rfl [.int .i64 ((idxP pl s : Nat) : Int)] ([.int .i64 ((idxP pl s : Nat) : Int)]) rfl rfl rfl rfl underlying43 sR rfl rfl (IK rfl) rfl fun g20 w2 hg20 M => J4 (len' := (acc ++ [((idxP pl s : Nat) : Int)]).length) (xs' := AS LL (acc ++ [((idxP pl s : Nat) : Int)])) M 1 (AA rfl) rfl rfl rfl rfl rfl rfl (M.rdBlk 0 rfl rfl) underlying43 nL rfl (by decide) (AY rfl) (Nat.le_refl _) (Nat.le_refl _) (by first | omega | (simp <;> omega)) (by unfold maxLen; first | omega | (simp only [List.length_append, List.length_cons, List.length_nil]; omega)) (by simp) (by first | exact (E2 _ _ _).symm | simp [AS, LL]) ?_)))))))))))))
  intro A21 c21 w3 M
  refine yb rfl (A4 (AC (A5 (A0 (ya rfl (CI rfl rfl rfl (by omega)) (yb rfl (A4 (BF [(1, pg g4), (4, .slice A21 (acc ++ [((idxP pl s : Nat) : Int)]).length c21), (7, .slice A l.length cA), (8, .int .i64 ((l.length : Nat) : Int)), (9, .int .i64 (((i + 1) : Nat) : Int))] (l.length - (i + 1)) ⟨i + 1, acc ++ [((idxP pl s : Nat) : Int)], A21, c21, rfl, (M.pk [1]), ?_, ?_, ?_, rfl⟩ (by first | omega | (simp <;> omega)) ⟨rfl, rfl, rfl, rfl, rfl, trivial⟩))))))))
  ·omega
  ·rw [B3 hs, List.map_append, hacc]; rfl
  ·first | omega | (simp only [List.length_append, List.length_cons, List.length_nil]; omega)
 ·have h10p := (odf h10)
  refine C2 (AG (AG ?_))
  have hiE : i = l.length := by omega
  rw [hiE, List.take_length] at hacc
  refine B5 (A5 (A9 (A0 (yb rfl (cl 24 rfl (AE rfl rfl call94) (qT _ (by first | rfl | simp) (M.own 0 rfl) (by first | omega | (simp; omega))) ?_)))))
  rintro _ w4 ⟨rfl, how4, hfw4⟩
  refine ⟨_, rfl, ?_⟩
  have M := M.upd 0 rfl hfw4 (As.own w.heap.size 3 1 (.slice A1 acc.length c1) acc.length (AS LL (RJ acc))) how4 (fun _ h => .inl h)
  refine A4 (A5 (A9 (A0 (yb rfl (yb rfl (A4 (A5 (AF (AK rfl rfl ?_)))))))))
  have hlen : acc.length = l.length := by rw [hacc, List.length_map]
  have hnum : RJ acc = DT pl l := by rw [hacc]; rfl
  have ho := M.own 0 rfl
  rw [hnum, hlen] at ho
  rw [hlen]
  exact ⟨_, _, rfl, ho, M.fr⟩
theorem LS (m : Md) (a : MdA) (gx : Nat) (fin : Int) (pl : List (List UInt8)) (ts : List Tr1) (F : List Nat) (nm : List UInt8) (w : World) (hpl : pl.length ≤ 100000) (hN : MkN w m a gx fin pl ts F) :
 Calls prog 14 #[pg gx, str nm] w fun e w' => e = .returned (.tuple #[]) ∧ ME m a gx fin (pl ++ [nm]) ts F w w' := by
 obtain ⟨hgx, hlt, x, rfl, rfl, hL, M⟩ := hN
 refine AJ (vs := [_, _]) func14 rfl ntmps14 rfl ?_
 replace M : Mem w (fun k => k ∈ F) [As.blk gx 55 (x.cells m pl), As.mp x.gP x.L, As.own 0 9 1 (.slice x.A pl.length x.c) pl.length (AS D7 pl), As.own 0 45 3 (.slice x.B x.rs.length x.d) x.rs.length (AS TrR.cells x.rs), As.trs x.FT ts x.rs] w := M
 refine A9 (GC 11 DV (by kernel_rfl) ?_)
 have M := M.drew
 refine sb rfl (sb rfl (sb rfl (sd rfl rfl (M.cell 0 rfl rfl) ?_)))
 iterate 5 refine sb rfl ?_
 refine sd rfl rfl (M.cell 0 rfl rfl) (sa rfl (CS rfl rfl (sl rfl)) (E9 (FR M 1 (AA rfl) rfl rfl rfl rfl rfl underlying53 underlying9 rfl fun w1 M => A4 (A5 (A0 ?_)))))
 iterate 5 refine yb rfl ?_
 refine yl rfl rfl (M.cell 0 rfl rfl) (yb rfl (DC M (AA rfl) rfl rfl [str nm] ([str nm]) rfl rfl rfl rfl underlying29 CR rfl rfl (IK rfl) rfl fun g22 w2 hg22 M => lB (len' := (pl ++ [nm]).length) (xs' := AS D7 (pl ++ [nm])) M 3 (AA rfl) rfl rfl rfl rfl rfl rfl (M.rdBlk 0 rfl rfl) underlying29 JA rfl (by decide) (AY rfl) (by first | omega | (simp <;> omega)) (by unfold maxLen; first | omega | (simp only [List.length_append, List.length_cons, List.length_nil]; omega)) (by simp) (by first | exact (E2 _ _ _).symm | simp [AS, D7]) fun A23 c23 w3 M => yb rfl (yb rfl (yb rfl (BP (cs' := [str m.id, str m.nm, .slice x.a.V m.vars.length x.a.vc, .slice x.a.E m.els.length x.a.ec, .slice x.a.F m.fls.length x.a.fc, .slice A23 ((pl ++ [nm]).length) c23, .slice x.B x.rs.length x.d, .int .i64 0, .int .i64 x.fin, .map (some x.gP)]) M 1 (AA rfl) rfl rfl rfl rfl rfl rfl rfl VV (AZ rfl) rfl fun w4 M => A4 (C3 (Or.inr rfl) rfl ?_))))))
 have M := M.pk [1, 2, 3, 4, 5]
 exact ⟨rfl, MkN.close (x := {x with L := EW x.L nm (.int .i64 ((pl.length : Nat) : Int)), A := A23, c := c23}) hgx hlt (sS hL) M⟩
theorem HB (m : Md) (a : MdA) (gx : Nat) (fin : Int) (pl : List (List UInt8)) (ts : List Tr1) (F : List Nat) (lb : List UInt8) (fr tg : List (List UInt8)) (A B : Option Addr) (cA cB : Nat) (w : World) (hts : ts.length ≤ 100000000) (hlf : fr.length ≤ 100000) (hlt_ : tg.length ≤ 100000) (hA : Rd w A (fr.length * 1) (AS D7 fr)) (hB : Rd w B (tg.length * 1) (AS D7 tg)) (hnA : ∀ b off p, A = some ⟨b, off, p⟩ → b ∉ F) (hnB : ∀ b off p, B = some ⟨b, off, p⟩ → b ∉ F) (hN : MkN w m a gx fin pl ts F) :
 Calls prog 36 #[pg gx, str lb, .slice A fr.length cA, .slice B tg.length cB] w fun e w' => e = .returned (.tuple #[]) ∧ ME m a gx fin pl (ts ++ [trP pl ⟨lb, fr, tg⟩]) F w w' := by
 obtain ⟨hgx, hlt, x, rfl, rfl, hL, M⟩ := hN
 have hrs : x.rs.length = ts.length := ((M.ok 4 _ rfl : TrsOk w x.FT ts x.rs).1).symm
 refine AJ (vs := [_, _, _, _]) func36 rfl ntmps36 rfl ?_
 replace M : Mem w (fun k => k ∈ F) [As.blk gx 55 (x.cells m pl), As.mp x.gP x.L, As.own 0 9 1 (.slice x.A pl.length x.c) pl.length (AS D7 pl), As.own 0 45 3 (.slice x.B x.rs.length x.d) x.rs.length (AS TrR.cells x.rs), As.trs x.FT ts x.rs] w := M
 refine A9 (A0 (B4 M (AA rfl) rfl rfl 52 rfl rfl ([pg gx]) rfl fun g4 w1 hg4 M => A4 (A5 (A9 (A0 (ya rfl (CC (us := []) (vs := [pg g4]) rfl rfl rfl) (yb rfl (A4 (A5 (DB 16 (fun w' => Mem w (fun k => k ∈ F) [As.blk g4 52 [pg gx], As.blk gx 55 (x.cells m pl), As.mp x.gP x.L, As.own 0 9 1 (.slice x.A pl.length x.c) pl.length (AS D7 pl), As.trs x.FT ts x.rs] w') DV ?_))))))))))
 have M := M.drew
 refine ol 0 16 rfl rfl rfl (M.pk [0, 1, 2, 3, 5]) (fun _ M => (M.cell 0 rfl rfl)) (ol 1 16 rfl rfl rfl (M.pk [0, 1, 2, 3, 5]) (fun _ M => (M.cell 0 rfl rfl)) (oc 2 16 rfl rfl (M.pk [0, 1, 2, 3, 5]) (oc 3 16 rfl rfl (M.pk [0, 1, 2, 3, 5]) (oc 4 16 rfl rfl (M.pk [0, 1, 2, 3, 5]) (ol 5 16 rfl rfl rfl (M.pk [0, 1, 2, 3, 5]) (fun _ M => (M.cell 1 rfl rfl)) (oc 6 16 rfl rfl (M.pk [0, 1, 2, 3, 5]) (oc 7 16 rfl rfl (M.pk [0, 1, 2, 3, 5]) (oc 8 16 rfl rfl (M.pk [0, 1, 2, 3, 5]) (oc 10 16 rfl rfl (M.pk [0, 1, 2, 3, 5]) (oc 11 16 rfl rfl (M.pk [0, 1, 2, 3, 5]) (BY 9 (some 19) (by kernel_rfl) rfl (AA rfl) rfl rfl (BK rfl rfl rfl call93) (dQ m x gx g4 pl fr A cA _ (by omega) ((DW hA M.fr hnA)) (M.blk 0 rfl) (M.blk 1 rfl) (M.mp 2 rfl) hL) ?_)))))))))))
 rintro _ w2 ⟨A19, c19, rfl, how2, hfw2⟩
 refine ⟨_, rfl, fun _ => (M.pk [0, 1, 2, 3, 5]).step hfw2, ?_⟩
 have M := M.pushOwn hfw2 (Nat.le_refl _) how2
 refine BY 12 (some 22) (by kernel_rfl) rfl (AA rfl) rfl rfl (BK rfl rfl rfl call93) (dQ m x gx g4 pl tg B cB _ (by omega) ((DW hB M.fr hnB)) (M.blk 1 rfl) (M.blk 2 rfl) (M.mp 3 rfl) hL) ?_
 rintro _ w3 ⟨A22, c22, rfl, how3, hfw3⟩
 refine ⟨_, rfl, fun _ => (M.pk [1, 2, 3, 4, 6]).step hfw3, ?_⟩
 have M := M.pushOwn hfw3 (Nat.le_refl _) how3
 refine oa 13 16 rfl rfl (M.pk [2, 3, 4, 5, 7]) (fun _ M => BU (parts := [(0, _), (1, _), (2, _)]) rfl rfl (N8 _ _ _ _ _ _ _)) (BG 14 (some 24) (by kernel_rfl) rfl (AA rfl) rfl rfl (fun ρ hρ => GZ [.agg #[str lb, .slice A19 fr.length c19, .slice A22 tg.length c22]] _ hρ rfl rfl rfl rfl underlying30 TX (by decide) (by decide) (IK rfl)) ?_)
 rintro _ w4 ⟨g24, rfl, hg24, hq24, hb24, hfw4⟩
 replace hb24 : Blk w4 g24 45 ([str lb, .slice A19 fr.length c19, .slice A22 tg.length c22]) := hb24
 refine ⟨fun _ => (M.pk [2, 3, 4, 5, 7]).step hfw4, ?_⟩
 have M := M.push hfw4 _ hb24 (DX hg24 hq24)
 replace M : Mem w (fun k => k ∈ F) (As.blk g24 45 ([str lb, .slice A19 fr.length c19, .slice A22 tg.length c22]) :: _) w4 := M
 refine BG 15 (some 25) (by kernel_rfl) rfl (AA rfl) rfl rfl (fun ρ hρ => GJ _ _ _ rfl 0 _ _ _ _ underlying30 SM rfl (by decide) _ _ _ (hρ _ _ rfl) (M.own 7 rfl) _ _ _ _ (hρ _ _ rfl) (M.rdBlk 0 rfl rfl) (AY rfl) (by unfold maxLen; first | omega | (simp only [List.length_append, List.length_cons, List.length_nil]; omega)) (by first | omega | (simp <;> omega)) (Nat.zero_le _)) ?_
 rintro v25 w5 ⟨ho25, hgr25, hvb25⟩
 replace ho25 : World.ownsRow w5 0 45 3 v25 ((x.rs ++ [(⟨lb, A19, fr.length, c19, A22, tg.length, c22⟩ : TrR)]).length) (AS TrR.cells (x.rs ++ [(⟨lb, A19, fr.length, c19, A22, tg.length, c22⟩ : TrR)])) := by rw [show ((x.rs ++ [(⟨lb, A19, fr.length, c19, A22, tg.length, c22⟩ : TrR)]).length) = x.rs.length + 1 from by first | (simp only [List.length_append, List.length_cons, List.length_nil]; omega) | simp only [List.length_append, List.length_cons, List.length_nil], show (AS TrR.cells (x.rs ++ [(⟨lb, A19, fr.length, c19, A22, tg.length, c22⟩ : TrR)])) = (AS TrR.cells x.rs) ++ [str lb, .slice A19 fr.length c19, .slice A22 tg.length c22] from by first | exact E2 _ _ _ | simp [AS, TrR.cells]]; exact ho25
 have M := M.appOwn 7 rfl ho25 hgr25 hvb25
 obtain ⟨A25, c25, rfl, _⟩ := G3 ho25
 refine ⟨fun _ => (M.pk [3, 4, 5, 6, 8]), LR 16 (by kernel_rfl) rfl (AA rfl) rfl rfl (yp rfl) (fun h => absurd h (by decide)) (LR 17 (by kernel_rfl) rfl (AA rfl) rfl rfl (yp rfl) (fun h => absurd h (by decide)) (LR 18 (by kernel_rfl) rfl (AA rfl) rfl rfl (yp rfl) (fun h => absurd h (by decide)) (BG 19 none (by kernel_rfl) rfl (AA rfl) rfl rfl (fun ρ hρ => EG 30 _ _ rfl gx 6 55 _ (.slice A25 ((x.rs ++ [(⟨lb, A19, fr.length, c19, A22, tg.length, c22⟩ : TrR)]).length) c25) (hρ _ _ rfl) (hρ _ _ rfl) rfl (M.blk 4 rfl) QE (AZ rfl) rfl) ?_)))⟩
 rintro _ w6 ⟨rfl, hbw6, hfw6⟩
 replace M : Mem w (fun k => k ∈ F) (List.set _ 4 (As.blk gx 55 [str m.id, str m.nm, .slice x.a.V m.vars.length x.a.vc, .slice x.a.E m.els.length x.a.ec, .slice x.a.F m.fls.length x.a.fc, .slice x.A pl.length x.c, .slice A25 ((x.rs ++ [(⟨lb, A19, fr.length, c19, A22, tg.length, c22⟩ : TrR)]).length) c25, .int .i64 0, .int .i64 x.fin, .map (some x.gP)])) w6 := M.putB 4 rfl hbw6 hfw6
 exact ⟨fun h => absurd h (by decide), BN (by kernel_rfl) (C3 (Or.inr rfl) rfl ⟨rfl, tY hgx hlt hL (by simp [DT]) (by simp [DT]) (M.pk [2, 1, 8, 4, 5, 6, 7])⟩)⟩
end Go.Proofs.YtdaihdknnlphkaaGreatDoor
