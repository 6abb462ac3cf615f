/- Lemmas that the last text rests on. Condition: each says its own. -/
import Derived.Test.YtaheakjfkpkefaaGreatDoorYMl0
import Derived.Test.YtaheakjfkpkefaaGreatDoorYSp0
set_option maxHeartbeats 16000000
set_option maxRecDepth 100000
namespace Go.Proofs.YtaheakjfkpkefaaGreatDoor
open Go.RowKit
open Tryz
theorem aF (g n cp : Nat) (fc : FuncId) (fq : St → St → Int) (f : St → Int) (rs : List Value) (a b : Nat) (hfc : ∀ (ar : Array Value) (w : World), (callFunc fc ar).run prog w = .ok (.enter fc ar) w) (hcmp : ∀ (a b : St) (w : World), Calls prog fc #[.agg a.cells.toArray, .agg b.cells.toArray] w (BN w (AA (fq a b)))) (hfq : ∀ a b, fq a b < 0 ↔ f a < f b) (hm : n ≤ 1000000000) (l : List St) (w : World) (hb : Blk w g 119 (AB St.cells l ++ rs)) (hn : l.length = n) (hab : a ≤ b) (hbn : b ≤ n) :
 Calls prog 177 #[.slice (some ⟨g, 0, none⟩) n cp, AA ((a : Nat) : Int), AA ((b : Nat) : Int), .func (.func fc) #[] #[]] w fun e w' => e = .returned (.tuple #[]) ∧ ∃ l' : List St, l'.Perm l ∧ (Isd f l l' a b) ∧ Blk w' g 119 (AB St.cells l' ++ rs) ∧ Fr (fun k => k = g) w w' := by
 have hp_l : l.Perm l := List.Perm.refl _
 have hn_l : l.length = n := hn
 refine sx_enter (vs := [_, _, _, _]) func177 rfl ntmps177 rfl ?_
 have M : Mem w (fun k => k = g) [As.blk g 119 (AB St.cells l ++ rs)] w := Mem.one hb
 refine AC rfl (C1 rfl rfl (AG rfl (sx_block (flp [3, 2, 1, 0] (fun ze e wr mz => ∃ (i : Nat) (l1 : List St), e = (8, AA (i : Int)) :: ze ∧ Mem w (fun k => k = g) [As.blk g 119 (AB St.cells l1 ++ rs)] wr ∧ (a + 1 ≤ i ∧ i ≤ b + 1) ∧ (InI f l a b i l1) ∧ (l1.Perm l) ∧ (l1.length = n) ∧ mz = b + 1 - i) ⟨(a + 1), l, rfl, M, ⟨Nat.le_refl _, by omega⟩, InI.start l a b, hp_l, hn_l, rfl⟩ ?_))))
 rintro _ w1 _ ⟨i, l1, rfl, M, hi, hI, hp_l1, hn_l1, rfl⟩
 refine sx_seq (AC rfl (yb rfl (BM rfl rfl (nq (AF rfl (fun h14 => ?_) (fun h14 => ?_))))))
 ·have h14p := (odt h14)
  refine sx_skip (qx_seq (sx_seq (sx_block (AC rfl (AG rfl (sx_block (flp [8, 3, 2, 1, 0] (fun ze e wr mz => ∃ (j : Nat) (l2 : List St), e = (9, AA (j : Int)) :: ze ∧ Mem w (fun k => k = g) [As.blk g 119 (AB St.cells l2 ++ rs)] wr ∧ (j ≤ i) ∧ (InJ f l a b i j l2) ∧ (l2.Perm l) ∧ (l2.length = n) ∧ mz = j + 1) ⟨i, l1, rfl, M, Nat.le_refl _, hI.j, hp_l1, hn_l1, rfl⟩ ?_)))))))
  rintro _ w2 _ ⟨j, l2, rfl, M, hj, hJ, hp_l2, hn_l2, rfl⟩
  refine sx_seq (sx_seq (DL 14 CL gkr ?_))
  have M := M.drew
  refine sb rfl (sb rfl (sa rfl (G9 rfl rfl rfl) (sb rfl (D6 (d := 21) rfl (fun h21 => ?_) (fun h21 => ?_)))))
  ·have h21p := (odt h21)
   refine gsg rfl (yp rfl) (gsg rfl (yp rfl) (gsg rfl (yp rfl) (gsg rfl (AP j rfl rfl rfl rfl (sl rfl) A0) ?_)))
   obtain ⟨x1, hx1⟩ := BZ (l := l2) (i := j) A0
   refine gsg rfl (AH (xs := St.cells x1) rfl rfl (BB St.len (FZ St.len (M.blk 0 rfl)) rfl hx1) underlying119 rfl BA) (gsg rfl (yp rfl) (gsg rfl (yp rfl) (gsg rfl (DW (a := j) (b := 1) rfl rfl rfl A0 A0) (gsg rfl (AP (j - 1) rfl rfl rfl rfl (sl rfl) A0) ?_))))
   obtain ⟨x2, hx2⟩ := BZ (l := l2) (i := j - 1) A0
   refine gsg rfl (AH (xs := St.cells x2) rfl rfl (BB St.len (FZ St.len (M.blk 0 rfl)) rfl hx2) underlying119 rfl BA) (CB (sxl_call (some 32) (wn_on rfl rfl rfl) rfl rfl (BC rfl rfl rfl hfc) (hcmp _ _ _) ?_))
   rintro _ w3 ⟨rfl, hfw3⟩
   refine ⟨_, rfl, ?_⟩
   have M := M.step hfw3
   refine yd rfl (EQ rfl rfl rfl) (AG rfl (AF rfl (fun h34 => ?_) (fun h34 => ?_)))
   ·have h34p := (odt h34)
    refine sx_skip (qx_seq (sx_seq (sx_block (EG 18 (fun _ => True) CL ?_))))
    have M := M.drew
    refine oa 0 18 rfl rfl trivial (fun _ _ => yp rfl) (oa 1 18 rfl rfl trivial (fun _ _ => yp rfl) (oa 2 18 rfl rfl trivial (fun _ _ => yp rfl) (oa 3 18 rfl rfl trivial (fun _ _ => yp rfl) (oa 4 18 rfl rfl trivial (fun _ _ => DW (a := j) (b := 1) rfl rfl rfl A0 A0) (oa 5 18 rfl rfl trivial (fun _ _ => yp rfl) (oa 6 18 rfl rfl trivial (fun _ _ => yp rfl) (oa 7 18 rfl rfl trivial (fun _ _ => DW (a := j) (b := 1) rfl rfl rfl A0 A0) (oa 8 18 rfl rfl trivial (fun _ _ => AP (j - 1) rfl rfl rfl rfl (sl rfl) A0) (oa 10 18 rfl rfl trivial (fun _ _ => yp rfl) (oa 11 18 rfl rfl trivial (fun _ _ => yp rfl) (oa 12 18 rfl rfl trivial (fun _ _ => AP j rfl rfl rfl rfl (sl rfl) A0) (K2 14 (fun w' => Mem w (fun k => k = g) [As.blk g 119 (AB St.cells l2 ++ rs)] w') ?_))))))))))))
    obtain ⟨x3, hx3⟩ := BZ (l := l2) (i := j - 1) A0
    refine GB 9 gkr (fun c a t v w h => by cases t <;> exact h) gkr gkr gkr rfl (wn_none rfl) rfl rfl M (fun _ M => AH (xs := St.cells x3) rfl rfl (BB St.len (FZ St.len (M.blk 0 rfl)) rfl hx3) underlying119 rfl BA) ?_
    obtain ⟨x4, hx4⟩ := BZ (l := l2) (i := j) A0
    refine GB 13 gkr (fun c a t v w h => by cases t <;> exact h) gkr gkr gkr rfl (wn_none rfl) rfl rfl M (fun _ M => AH (xs := St.cells x4) rfl rfl (BB St.len (FZ St.len (M.blk 0 rfl)) rfl hx4) underlying119 rfl BA) (fo1 14 rfl rfl (AP j rfl rfl rfl rfl (sl rfl) A0) (AR 15 none gkr rfl (wn_none rfl) rfl rfl (fun ρ hρ => BH 119 _ _ rfl g (0 + j * 10) 119 (AB St.cells l2 ++ rs) (St.cells x3) (hρ _ _ rfl) (hρ _ _ rfl) (M.blk 0 rfl) BA (J4 St.len CX rfl) (St.cells_one _)) ?_))
    rintro _ w4 ⟨rfl, hbw4, hfw4⟩
    rw [HV St.len CX] at hbw4
    replace M : Mem w (fun k => k = g) (List.set _ 0 (As.blk g 119 (AB St.cells (l2.set j x3) ++ rs))) w4 := M.putB 0 rfl hbw4 hfw4
    refine ⟨fun h => absurd h AU, fo1 16 rfl rfl (AP (j - 1) rfl rfl rfl rfl (sl rfl) A0) (AR 17 none gkr rfl (wn_none rfl) rfl rfl (fun ρ hρ => BH 119 _ _ rfl g (0 + (j - 1) * 10) 119 (AB St.cells (l2.set j x3) ++ rs) (St.cells x4) (hρ _ _ rfl) (hρ _ _ rfl) (M.blk 0 rfl) BA (J4 St.len CX rfl) (St.cells_one _)) ?_)⟩
    rintro _ w5 ⟨rfl, hbw5, hfw5⟩
    rw [HV St.len CX] at hbw5
    replace M : Mem w (fun k => k = g) (List.set _ 0 (As.blk g 119 (AB St.cells ((l2.set j x3).set (j - 1) x4) ++ rs))) w5 := M.putB 0 rfl hbw5 hfw5
    refine ⟨fun h => absurd h AU, fdn (qx_block_normal (qx_seq (sx_region (yb rfl (ya rfl (DW (a := j) (b := 1) rfl rfl rfl A0 A0) (yb rfl (sxl_nil (fag ⟨j - 1, ((l2.set j x3).set (j - 1) x4), rfl, M, ?_, ?_, ?_, ?_, rfl⟩))))))))⟩
    ·omega
    ·exact hJ.step2 ((hfq _ _).1 h34p) (by assumption) (by assumption) (by assumption) (by assumption) A0 A0 A0
    ·first
      | assumption
      | (refine (CY ?_ ?_).trans (by assumption) <;> assumption)
    ·first
      | assumption
      | (simp; assumption)
   ·have h34p := (odf h34)
    refine sx_exit (qx_then_exit (qx_then_exit (qx_block_hit (qx_block_normal (qx_seq (sx_region (yb rfl (C1 rfl rfl (yb rfl (sxl_nil (fag ⟨i + 1, l2, rfl, M, ?_, ?_, ?_, ?_, rfl⟩)))))))))))
    ·omega
    ·first
      | exact hJ.done0 A0
      | exact hJ.done1 (by assumption) (by assumption) (fun hh => h34p ((hfq _ _).2 hh))
    ·first
      | assumption
      | (refine (CY ?_ ?_).trans (by assumption) <;> assumption)
    ·first
      | assumption
      | (simp; assumption)
  ·have h21p := (odf h21)
   iterate 10 refine D3 rfl rfl rfl rfl rfl rfl ?_
   refine CB (yo rfl (yo rfl (AG rfl (sx_false rfl (sx_exit (qx_then_exit (qx_then_exit (qx_block_hit (qx_block_normal (qx_seq (sx_region (yb rfl (C1 rfl rfl ?_)))))))))))))
   refine yb rfl (sxl_nil (fag ⟨i + 1, l2, rfl, M, ?_, ?_, ?_, ?_, rfl⟩))
   ·omega
   ·first
     | exact hJ.done0 A0
     | exact hJ.done1 (by assumption) (by assumption) (fun hh => h34p ((hfq _ _).2 hh))
   ·first
     | assumption
     | (refine (CY ?_ ?_).trans (by assumption) <;> assumption)
   ·first
     | assumption
     | (simp; assumption)
 ·have h14p := (odf h14)
  exact sx_exit (qx_then_exit (qx_then_exit (qx_block_hit (qx_ret0 (Or.inr rfl) rfl ⟨rfl, l1, hp_l1, hI.done A0, M.blk 0 rfl, M.fr⟩))))
theorem UE (g n cp : Nat) (fc : FuncId) (rs : List Value) (a b d : Nat) (hm : n ≤ 1000000000) (l : List St) (w : World) (hb : Blk w g 119 (AB St.cells l ++ rs)) (hn : l.length = n) (had : a + d ≤ b) (hbd : b + d ≤ n) :
 Calls prog 219 #[.slice (some ⟨g, 0, none⟩) n cp, AA ((a : Nat) : Int), AA (b : Int), AA (d : Int), .func (.func fc) #[] #[]] w fun e w' => e = .returned (.tuple #[]) ∧ ∃ l' : List St, l'.Perm l ∧ (Sws l l' a b d) ∧ Blk w' g 119 (AB St.cells l' ++ rs) ∧ Fr (fun k => k = g) w w' := by
 have hp_l : l.Perm l := List.Perm.refl _
 have hn_l : l.length = n := hn
 refine sx_enter (vs := [_, _, _, _, _]) func219 rfl ntmps219 rfl ?_
 have M : Mem w (fun k => k = g) [As.blk g 119 (AB St.cells l ++ rs)] w := Mem.one hb
 refine srg (AG rfl (sx_block (flp [3, 2, 1, 0] (fun ze e wr mz => ∃ (i : Nat) (l1 : List St), e = (10, AA (i : Int)) :: ze ∧ Mem w (fun k => k = g) [As.blk g 119 (AB St.cells l1 ++ rs)] wr ∧ (i ≤ d) ∧ (Sws l l1 a b i) ∧ (l1.Perm l) ∧ (l1.length = n) ∧ mz = d - i) ⟨0, l, rfl, M, Nat.zero_le _, Sws.start l a b, hp_l, hn_l, rfl⟩ ?_)))
 rintro _ w1 _ ⟨i, l1, rfl, M, hi, hS, hp_l1, hn_l1, rfl⟩
 refine sx_seq (AC rfl (yb rfl (BM rfl rfl (nq (AF rfl (fun h13 => ?_) (fun h13 => ?_))))))
 ·have h13p := (odt h13)
  refine sx_skip (qx_seq (sx_seq (sx_block (EG 24 (fun _ => True) CL ?_))))
  have M := M.drew
  refine oa 0 24 rfl rfl trivial (fun _ _ => yp rfl) (oa 1 24 rfl rfl trivial (fun _ _ => yp rfl) (oa 2 24 rfl rfl trivial (fun _ _ => yp rfl) (oa 3 24 rfl rfl trivial (fun _ _ => GD rfl rfl rfl A0) (oa 4 24 rfl rfl trivial (fun _ _ => yp rfl) (oa 5 24 rfl rfl trivial (fun _ _ => yp rfl) (oa 6 24 rfl rfl trivial (fun _ _ => yp rfl) (oa 7 24 rfl rfl trivial (fun _ _ => GD rfl rfl rfl A0) (oa 8 24 rfl rfl trivial (fun _ _ => yp rfl) (oa 9 24 rfl rfl trivial (fun _ _ => yp rfl) (oa 10 24 rfl rfl trivial (fun _ _ => yp rfl) (oa 11 24 rfl rfl trivial (fun _ _ => GD rfl rfl rfl A0) (oa 12 24 rfl rfl trivial (fun _ _ => AP (b + i) rfl rfl rfl rfl (sl rfl) A0) (oa 14 24 rfl rfl trivial (fun _ _ => yp rfl) (oa 15 24 rfl rfl trivial (fun _ _ => yp rfl) (oa 16 24 rfl rfl trivial (fun _ _ => yp rfl) ?_)))))))))))))))
  refine oa 17 24 rfl rfl trivial (fun _ _ => GD rfl rfl rfl A0) (oa 18 24 rfl rfl trivial (fun _ _ => AP (a + i) rfl rfl rfl rfl (sl rfl) A0) (K2 20 (fun w' => Mem w (fun k => k = g) [As.blk g 119 (AB St.cells l1 ++ rs)] w') ?_))
  obtain ⟨x1, hx1⟩ := BZ (l := l1) (i := b + i) A0
  refine GB 13 gkr (fun c a t v w h => by cases t <;> exact h) gkr gkr gkr rfl (wn_none rfl) rfl rfl M (fun _ M => AH (xs := St.cells x1) rfl rfl (BB St.len (FZ St.len (M.blk 0 rfl)) rfl hx1) underlying119 rfl BA) ?_
  obtain ⟨x2, hx2⟩ := BZ (l := l1) (i := a + i) A0
  refine GB 19 gkr (fun c a t v w h => by cases t <;> exact h) gkr gkr gkr rfl (wn_none rfl) rfl rfl M (fun _ M => AH (xs := St.cells x2) rfl rfl (BB St.len (FZ St.len (M.blk 0 rfl)) rfl hx2) underlying119 rfl BA) (fo1 20 rfl rfl (AP (a + i) rfl rfl rfl rfl (sl rfl) A0) (AR 21 none gkr rfl (wn_none rfl) rfl rfl (fun ρ hρ => BH 119 _ _ rfl g (0 + (a + i) * 10) 119 (AB St.cells l1 ++ rs) (St.cells x1) (hρ _ _ rfl) (hρ _ _ rfl) (M.blk 0 rfl) BA (J4 St.len CX rfl) (St.cells_one _)) ?_))
  rintro _ w2 ⟨rfl, hbw2, hfw2⟩
  rw [HV St.len CX] at hbw2
  replace M : Mem w (fun k => k = g) (List.set _ 0 (As.blk g 119 (AB St.cells (l1.set (a + i) x1) ++ rs))) w2 := M.putB 0 rfl hbw2 hfw2
  refine ⟨fun h => absurd h AU, fo1 22 rfl rfl (AP (b + i) rfl rfl rfl rfl (sl rfl) A0) (AR 23 none gkr rfl (wn_none rfl) rfl rfl (fun ρ hρ => BH 119 _ _ rfl g (0 + (b + i) * 10) 119 (AB St.cells (l1.set (a + i) x1) ++ rs) (St.cells x2) (hρ _ _ rfl) (hρ _ _ rfl) (M.blk 0 rfl) BA (J4 St.len CX rfl) (St.cells_one _)) ?_)⟩
  rintro _ w3 ⟨rfl, hbw3, hfw3⟩
  rw [HV St.len CX] at hbw3
  replace M : Mem w (fun k => k = g) (List.set _ 0 (As.blk g 119 (AB St.cells ((l1.set (a + i) x1).set (b + i) x2) ++ rs))) w3 := M.putB 0 rfl hbw3 hfw3
  refine ⟨fun h => absurd h AU, fdn (qx_block_normal (qx_seq (sx_region (yb rfl (C1 rfl rfl (yb rfl (sxl_nil (fag ⟨i + 1, ((l1.set (a + i) x1).set (b + i) x2), rfl, M, ?_, ?_, ?_, ?_, rfl⟩))))))))⟩
  ·omega
  ·exact hS.step (by assumption) (by assumption) A0
  ·first
    | assumption
    | (refine (CY ?_ ?_).trans (by assumption) <;> assumption)
  ·first
    | assumption
    | (simp; assumption)
 ·have h13p := (odf h13)
  refine sx_exit (qx_then_exit (qx_then_exit (qx_block_hit (qx_ret0 (Or.inr rfl) rfl ?_))))
  obtain rfl : i = d := by omega
  exact ⟨rfl, l1, hp_l1, hS, M.blk 0 rfl, M.fr⟩
theorem qS (g n cp : Nat) (fc : FuncId) (rs : List Value) (a m b : Nat) (hm : n ≤ 1000000000) (l : List St) (w : World) (hb : Blk w g 119 (AB St.cells l ++ rs)) (hn : l.length = n) (ham : a < m) (hmb : m < b) (hbn : b ≤ n) :
 Calls prog 199 #[.slice (some ⟨g, 0, none⟩) n cp, AA (a : Int), AA (m : Int), AA (b : Int), .func (.func fc) #[] #[]] w fun e w' => e = .returned (.tuple #[]) ∧ ∃ l' : List St, l'.Perm l ∧ (Rot l l' a m b) ∧ Blk w' g 119 (AB St.cells l' ++ rs) ∧ Fr (fun k => k = g) w w' := by
 have hp_l : l.Perm l := List.Perm.refl _
 have hn_l : l.length = n := hn
 refine sx_enter (vs := [_, _, _, _, _]) func199 rfl ntmps199 rfl ?_
 have M : Mem w (fun k => k = g) [As.blk g 119 (AB St.cells l ++ rs)] w := Mem.one hb
 refine AC rfl (yb rfl (ya rfl (DW (a := m) (b := a) rfl rfl rfl A0 A0) (AG rfl (AC rfl (yb rfl (ya rfl (DW (a := b) (b := m) rfl rfl rfl A0 A0) (AG rfl ?_)))))))
 refine sx_seq (sx_block (flp [4, 2, 0] (fun ze e wr mz => ∃ (i : Nat) (j : Nat) (l1 : List St), e = (10, AA (i : Int)) :: (11, AA (j : Int)) :: ze ∧ Mem w (fun k => k = g) [As.blk g 119 (AB St.cells l1 ++ rs)] wr ∧ (0 < i ∧ 0 < j ∧ i ≤ m - a ∧ j ≤ b - m) ∧ (RoS l l1 a m b i j) ∧ (l1.Perm l) ∧ (l1.length = n) ∧ mz = i + j) ⟨(m - a), (b - m), l, rfl, M, by omega, RoS.start l ham hmb, hp_l, hn_l, rfl⟩ ?_))
 rintro _ w1 _ ⟨i, j, l1, rfl, M, hij, hR, hp_l1, hn_l1, rfl⟩
 refine sx_seq (AC rfl (yb rfl (FT rfl rfl (nq (AF rfl (fun h20 => ?_) (fun h20 => ?_))))))
 ·have h20p := (odf (BY h20))
  refine sx_skip (qx_seq (sx_block (AC rfl (yb rfl (O8 rfl rfl (nq (AF rfl (fun h23 => ?_) (fun h23 => ?_))))))))
  ·have h23p := (odt h23)
   refine AC rfl (AV rfl rfl (ya rfl (DW (a := m) (b := i) rfl rfl rfl A0 A0) (AV rfl rfl (yb rfl (cl 31 rfl (AE rfl rfl call219) (UE g n cp fc rs (m - i) m j hm l1 _ (M.blk 0 rfl) hn_l1 A0 A0) ?_)))))
   rintro _ w2 ⟨rfl, l1, hqw2, hrw2, hbw2, hfw2⟩
   refine ⟨_, rfl, ?_⟩
   have M := M.putB 0 rfl hbw2 hfw2
   have hp_l1 : l1.Perm l := hqw2.trans hp_l1
   have hn_l1 : l1.length = n := hqw2.length_eq.trans hn_l1
   refine nq (sx_region (AV rfl rfl (ya rfl (DW (a := i) (b := j) rfl rfl rfl A0 A0) (yb rfl (sxl_nil (qx_block_normal (fag ⟨i - j, j, l1, rfl, M, ?_, ?_, ?_, ?_, rfl⟩)))))))
   ·omega
   ·first
     | exact hR.left (by assumption) A0 A0
     | exact hR.right (by assumption) A0 A0
   ·first
     | assumption
     | (refine (CY ?_ ?_).trans (by assumption) <;> assumption)
   ·first
     | assumption
     | (simp; assumption)
  ·have h23p := (odf h23)
   refine AC rfl (AV rfl rfl (ya rfl (DW (a := m) (b := i) rfl rfl rfl A0 A0) (AV rfl rfl (C1 rfl rfl (yb rfl (ya rfl (DW (a := m + j) (b := i) rfl rfl rfl A0 A0) (AV rfl rfl (cl 46 rfl (AE rfl rfl call219) (UE g n cp fc rs (m - i) ((m + j) - i) i hm l1 _ (M.blk 0 rfl) hn_l1 A0 A0) ?_))))))))
   rintro _ w3 ⟨rfl, l2, hqw3, hrw3, hbw3, hfw3⟩
   refine ⟨_, rfl, ?_⟩
   have M := M.putB 0 rfl hbw3 hfw3
   have hp_l2 : l2.Perm l := hqw3.trans hp_l1
   have hn_l2 : l2.length = n := hqw3.length_eq.trans hn_l1
   refine nq (sx_region (AV rfl rfl (ya rfl (DW (a := j) (b := i) rfl rfl rfl A0 A0) (yb rfl (sxl_nil (qx_block_normal (fag ⟨i, j - i, l2, rfl, M, ?_, ?_, ?_, ?_, rfl⟩)))))))
   ·omega
   ·first
     | exact hR.left (by assumption) A0 A0
     | exact hR.right (by assumption) A0 A0
   ·first
     | assumption
     | (refine (CY ?_ ?_).trans (by assumption) <;> assumption)
   ·first
     | assumption
     | (simp; assumption)
 ·have h20p := (odt (BJ h20))
  refine sx_exit (qx_then_exit (qx_then_exit (qx_block_hit (qx_seq (sx_region (AV rfl rfl (yb rfl (ya rfl (DW (a := m) (b := i) rfl rfl rfl A0 A0) (AV rfl rfl (yb rfl (cl 57 rfl (AE rfl rfl call219) (UE g n cp fc rs (m - i) m i hm l1 _ (M.blk 0 rfl) hn_l1 A0 A0) ?_)))))))))))
  rintro _ w4 ⟨rfl, l3, hqw4, hrw4, hbw4, hfw4⟩
  refine ⟨_, rfl, ?_⟩
  have M := M.putB 0 rfl hbw4 hfw4
  have hp_l3 : l3.Perm l := hqw4.trans hp_l1
  have hn_l3 : l3.length = n := hqw4.length_eq.trans hn_l1
  refine sxl_nil (qx_ret0 (Or.inr rfl) rfl ?_)
  obtain rfl : i = j := by omega
  exact ⟨rfl, l3, hp_l3, hR.done hrw4 A0, M.blk 0 rfl, M.fr⟩
theorem fU (g n cp : Nat) (fc : FuncId) (fq : St → St → Int) (f : St → Int) (rs : List Value) (a m b : Nat) (hfc : ∀ (ar : Array Value) (w : World), (callFunc fc ar).run prog w = .ok (.enter fc ar) w) (hcmp : ∀ (a b : St) (w : World), Calls prog fc #[.agg a.cells.toArray, .agg b.cells.toArray] w (BN w (AA (fq a b)))) (hfq : ∀ a b, fq a b < 0 ↔ f a < f b) (hm : n ≤ 1000000000) (l : List St) (w : World) (hb : Blk w g 119 (AB St.cells l ++ rs)) (hn : l.length = n) (ham : a < m) (hmb : m < b) (hbn : b ≤ n) (S1 : Srt f l a m) (S2 : Srt f l m b) (hrec : ∀ (a' m' b' : Nat) (l : List St) (w : World), a' < m' → m' < b' → b' ≤ n → b' - a' < b - a → Blk w g 119 (AB St.cells l ++ rs) → l.length = n → Srt f l a' m' → Srt f l m' b' → Calls prog 178 #[.slice (some ⟨g, 0, none⟩) n cp, AA (a' : Int), AA (m' : Int), AA (b' : Int), .func (.func fc) #[] #[]] w fun e w' => e = .returned (.tuple #[]) ∧ ∃ l' : List St, l'.Perm l ∧ (Mgd f l l' a' b') ∧ Blk w' g 119 (AB St.cells l' ++ rs) ∧ Fr (fun k => k = g) w w') :
 Calls prog 178 #[.slice (some ⟨g, 0, none⟩) n cp, AA ((a : Nat) : Int), AA (m : Int), AA ((b : Nat) : Int), .func (.func fc) #[] #[]] w fun e w' => e = .returned (.tuple #[]) ∧ ∃ l' : List St, l'.Perm l ∧ (Mgd f l l' a b) ∧ Blk w' g 119 (AB St.cells l' ++ rs) ∧ Fr (fun k => k = g) w w' := by
 have hp_l : l.Perm l := List.Perm.refl _
 have hn_l : l.length = n := hn
 refine sx_enter (vs := [_, _, _, _, _]) func178 rfl ntmps178 rfl ?_
 have M : Mem w (fun k => k = g) [As.blk g 119 (AB St.cells l ++ rs)] w := Mem.one hb
 refine sx_seq (AC rfl (yb rfl (ya rfl (DW (a := m) (b := a) rfl rfl rfl A0 A0) (C7 rfl rfl (nq (AF rfl (fun h28 => ?_) (fun h28 => ?_)))))))
 ·have h28p := (odt h28)
  refine AC rfl (AG rfl (AC rfl (AG rfl (sx_seq (sx_block (flp [4, 1, 0] (fun ze e wr mz => ∃ (i : Nat) (j : Nat) (l1 : List St), e = (10, AA (i : Int)) :: (11, AA (j : Int)) :: ze ∧ Mem w (fun k => k = g) [As.blk g 119 (AB St.cells l1 ++ rs)] wr ∧ (m ≤ i ∧ i ≤ j ∧ j ≤ b) ∧ (Srt f l1 a m) ∧ (Srt f l1 m b) ∧ (l1 = l) ∧ (∀ q, m ≤ q → q < i → Kf f l1 q < Kf f l1 a) ∧ (∀ q, j ≤ q → q < b → Kf f l1 a ≤ Kf f l1 q) ∧ (l1.Perm l) ∧ (l1.length = n) ∧ mz = j - i) ⟨m, b, l, rfl, M, by omega, S1, S2, rfl, fun q h1 h2 => by omega, fun q h1 h2 => by omega, hp_l, hn_l, rfl⟩ ?_))))))
  rintro _ w1 _ ⟨i, j, l1, rfl, M, hij, hS1, hS2, he, hbL, hbR, hp_l1, hn_l1, rfl⟩
  refine sx_seq (AC rfl (yb rfl (BM rfl rfl (nq (AF rfl (fun h33 => ?_) (fun h33 => ?_))))))
  ·have h33p := (odt h33)
   refine sx_skip (qx_seq (sx_block (AC rfl (yb rfl (C1 rfl rfl (ya rfl (Q7 rfl rfl underlying3 underlying44 A0) (ya rfl (U0 (a := i + j) rfl rfl rfl) (ya rfl (Q8 rfl rfl underlying44 underlying3 A0) (AG rfl (sx_seq (DL 9 CL gkr ?_)))))))))))
   have M := M.drew
   refine sb rfl (sb rfl (sb rfl (sa rfl (AP ((i + j) / 2) rfl rfl rfl rfl (sl rfl) A0) ?_)))
   obtain ⟨x1, hx1⟩ := BZ (l := l1) (i := (i + j) / 2) A0
   refine sa rfl (AH (xs := St.cells x1) rfl rfl (BB St.len (FZ St.len (M.blk 0 rfl)) rfl hx1) underlying119 rfl BA) (sb rfl (sb rfl (sa rfl (AP a rfl rfl rfl rfl (sl rfl) A0) ?_)))
   obtain ⟨x2, hx2⟩ := BZ (l := l1) (i := a) A0
   refine sa rfl (AH (xs := St.cells x2) rfl rfl (BB St.len (FZ St.len (M.blk 0 rfl)) rfl hx2) underlying119 rfl BA) (CB (MC M 49 rfl (BC rfl rfl rfl hfc) (hcmp _ _ _) fun w2 M => BM rfl rfl (nq (AF rfl (fun h50 => ?_) (fun h50 => ?_)))))
   ·have h50p := (odt h50)
    refine sx_region (yb rfl (C1 rfl rfl (yb rfl (sxl_nil (qx_block_normal (fag ⟨((i + j) / 2) + 1, j, l1, rfl, M, ?_, ?_, ?_, ?_, ?_, ?_, ?_, ?_, rfl⟩))))))
    ·omega
    ·assumption
    ·assumption
    ·assumption
    ·first
      | exact hbL
      | exact q8 hS2 ((hfq _ _).1 h50p) (by assumption) (by assumption) A0
    ·first
      | exact hbR
      | exact q6 hS2 (fun hh => h50p ((hfq _ _).2 hh)) (by assumption) (by assumption) A0
    ·first
      | assumption
      | (refine (CY ?_ ?_).trans (by assumption) <;> assumption)
    ·first
      | assumption
      | (simp; assumption)
   ·have h50p := (odf h50)
    refine sx_region (AV rfl rfl (sxl_nil (qx_block_normal (fag ⟨i, (i + j) / 2, l1, rfl, M, ?_, ?_, ?_, ?_, ?_, ?_, ?_, ?_, rfl⟩))))
    ·omega
    ·assumption
    ·assumption
    ·assumption
    ·first
      | exact hbL
      | exact q8 hS2 ((hfq _ _).1 h50p) (by assumption) (by assumption) A0
    ·first
      | exact hbR
      | exact q6 hS2 (fun hh => h50p ((hfq _ _).2 hh)) (by assumption) (by assumption) A0
    ·first
      | assumption
      | (refine (CY ?_ ?_).trans (by assumption) <;> assumption)
    ·first
      | assumption
      | (simp; assumption)
  ·have h33p := (odf h33)
   refine sx_exit (qx_then_exit (qx_then_exit (qx_block_hit (qx_seq (sx_seq (AC rfl (AG rfl (sx_block (flp [10, 0] (fun ze e wr mz => ∃ (k : Nat) (l2 : List St), e = (13, AA ((k : Nat) : Int)) :: ze ∧ Mem w (fun k => k = g) [As.blk g 119 (AB St.cells l2 ++ rs)] wr ∧ (a ≤ k ∧ k + 1 ≤ i) ∧ (Rot l1 l2 a (a + 1) (k + 1)) ∧ (l2.Perm l) ∧ (l2.length = n) ∧ mz = i - k) ⟨a, l1, rfl, M, by omega, FE (.inr rfl), hp_l1, hn_l1, rfl⟩ ?_)))))))))
   rintro _ w3 _ ⟨k, l2, rfl, M, hk, hT, hp_l2, hn_l2, rfl⟩
   refine sx_seq (AC rfl (yb rfl (ya rfl (DW (a := i) (b := 1) rfl rfl rfl A0 A0) (BM rfl rfl (nq (AF rfl (fun h58 => ?_) (fun h58 => ?_)))))))
   ·have h58p := (odt h58)
    refine sx_skip (qx_seq (sx_seq (sx_block (EG 18 (fun _ => True) CL ?_))))
    have M := M.drew
    refine oa 0 18 rfl rfl trivial (fun _ _ => yp rfl) (oa 1 18 rfl rfl trivial (fun _ _ => yp rfl) (oa 2 18 rfl rfl trivial (fun _ _ => yp rfl) (oa 3 18 rfl rfl trivial (fun _ _ => yp rfl) (oa 4 18 rfl rfl trivial (fun _ _ => GD rfl rfl rfl A0) (oa 5 18 rfl rfl trivial (fun _ _ => yp rfl) (oa 6 18 rfl rfl trivial (fun _ _ => yp rfl) (oa 7 18 rfl rfl trivial (fun _ _ => GD rfl rfl rfl A0) (oa 8 18 rfl rfl trivial (fun _ _ => AP (k + 1) rfl rfl rfl rfl (sl rfl) A0) (oa 10 18 rfl rfl trivial (fun _ _ => yp rfl) (oa 11 18 rfl rfl trivial (fun _ _ => yp rfl) (oa 12 18 rfl rfl trivial (fun _ _ => AP k rfl rfl rfl rfl (sl rfl) A0) (K2 14 (fun w' => Mem w (fun k => k = g) [As.blk g 119 (AB St.cells l2 ++ rs)] w') ?_))))))))))))
    obtain ⟨x3, hx3⟩ := BZ (l := l2) (i := k + 1) A0
    refine GB 9 gkr (fun c a t v w h => by cases t <;> exact h) gkr gkr gkr rfl (wn_none rfl) rfl rfl M (fun _ M => AH (xs := St.cells x3) rfl rfl (BB St.len (FZ St.len (M.blk 0 rfl)) rfl hx3) underlying119 rfl BA) ?_
    obtain ⟨x4, hx4⟩ := BZ (l := l2) (i := k) A0
    refine GB 13 gkr (fun c a t v w h => by cases t <;> exact h) gkr gkr gkr rfl (wn_none rfl) rfl rfl M (fun _ M => AH (xs := St.cells x4) rfl rfl (BB St.len (FZ St.len (M.blk 0 rfl)) rfl hx4) underlying119 rfl BA) (fo1 14 rfl rfl (AP k rfl rfl rfl rfl (sl rfl) A0) (AR 15 none gkr rfl (wn_none rfl) rfl rfl (fun ρ hρ => BH 119 _ _ rfl g (0 + k * 10) 119 (AB St.cells l2 ++ rs) (St.cells x3) (hρ _ _ rfl) (hρ _ _ rfl) (M.blk 0 rfl) BA (J4 St.len CX rfl) (St.cells_one _)) ?_))
    rintro _ w4 ⟨rfl, hbw4, hfw4⟩
    rw [HV St.len CX] at hbw4
    replace M : Mem w (fun k => k = g) (List.set _ 0 (As.blk g 119 (AB St.cells (l2.set k x3) ++ rs))) w4 := M.putB 0 rfl hbw4 hfw4
    refine ⟨fun h => absurd h AU, fo1 16 rfl rfl (AP (k + 1) rfl rfl rfl rfl (sl rfl) A0) (AR 17 none gkr rfl (wn_none rfl) rfl rfl (fun ρ hρ => BH 119 _ _ rfl g (0 + (k + 1) * 10) 119 (AB St.cells (l2.set k x3) ++ rs) (St.cells x4) (hρ _ _ rfl) (hρ _ _ rfl) (M.blk 0 rfl) BA (J4 St.len CX rfl) (St.cells_one _)) ?_)⟩
    rintro _ w5 ⟨rfl, hbw5, hfw5⟩
    rw [HV St.len CX] at hbw5
    replace M : Mem w (fun k => k = g) (List.set _ 0 (As.blk g 119 (AB St.cells ((l2.set k x3).set (k + 1) x4) ++ rs))) w5 := M.putB 0 rfl hbw5 hfw5
    refine ⟨fun h => absurd h AU, fdn (qx_block_normal (qx_seq (sx_region (yb rfl (C1 rfl rfl (yb rfl (sxl_nil (fag ⟨k + 1, ((l2.set k x3).set (k + 1) x4), rfl, M, ?_, ?_, ?_, ?_, rfl⟩))))))))⟩
    ·omega
    ·exact cB hT A0 (by assumption) (by assumption)
    ·first
      | assumption
      | (refine (CY ?_ ?_).trans (by assumption) <;> assumption)
    ·first
      | assumption
      | (simp; assumption)
   ·have h58p := (odf h58)
    exact sx_exit (qx_then_exit (qx_then_exit (qx_block_hit (qx_seq (sx_ret (qx_then_ret (qx_ret0 (Or.inl rfl) rfl ⟨rfl, l2, hp_l2, (by rw [← he]; exact o6 A0 hS2 A0 A0 A0 hbL (fun q h1 h2 => hbR q A0 h2) (hT.cast rfl A0 A0)), M.blk 0 rfl, M.fr⟩)))))))
 ·have h28p := (odf h28)
  refine sx_skip (qx_seq (sx_seq (AC rfl (yb rfl (ya rfl (DW (a := b) (b := m) rfl rfl rfl A0 A0) (C7 rfl rfl (nq (AF rfl (fun h80 => ?_) (fun h80 => ?_)))))))))
  ·have h80p := (odt h80)
   refine AC rfl (AG rfl (AC rfl (AG rfl (sx_seq (sx_block (flp [4, 2, 0] (fun ze e wr mz => ∃ (i : Nat) (j : Nat) (l1 : List St), e = (14, AA (i : Int)) :: (15, AA (j : Int)) :: ze ∧ Mem w (fun k => k = g) [As.blk g 119 (AB St.cells l1 ++ rs)] wr ∧ (a ≤ i ∧ i ≤ j ∧ j ≤ m) ∧ (Srt f l1 a m) ∧ (Srt f l1 m b) ∧ (l1 = l) ∧ (∀ q, a ≤ q → q < i → Kf f l1 q ≤ Kf f l1 m) ∧ (∀ q, j ≤ q → q < m → Kf f l1 m < Kf f l1 q) ∧ (l1.Perm l) ∧ (l1.length = n) ∧ mz = j - i) ⟨a, m, l, rfl, M, by omega, S1, S2, rfl, fun q h1 h2 => by omega, fun q h1 h2 => by omega, hp_l, hn_l, rfl⟩ ?_))))))
   rintro _ w6 _ ⟨i, j, l1, rfl, M, hij, hS1, hS2, he, hbL, hbR, hp_l1, hn_l1, rfl⟩
   refine sx_seq (AC rfl (yb rfl (BM rfl rfl (nq (AF rfl (fun h85 => ?_) (fun h85 => ?_))))))
   ·have h85p := (odt h85)
    refine sx_skip (qx_seq (sx_block (AC rfl (yb rfl (C1 rfl rfl (ya rfl (Q7 rfl rfl underlying3 underlying44 A0) (ya rfl (U0 (a := i + j) rfl rfl rfl) (ya rfl (Q8 rfl rfl underlying44 underlying3 A0) (AG rfl (sx_seq (DL 9 CL gkr ?_)))))))))))
    have M := M.drew
    refine sb rfl (sb rfl (sb rfl (sa rfl (AP m rfl rfl rfl rfl (sl rfl) A0) ?_)))
    obtain ⟨x5, hx5⟩ := BZ (l := l1) (i := m) A0
    refine sa rfl (AH (xs := St.cells x5) rfl rfl (BB St.len (FZ St.len (M.blk 0 rfl)) rfl hx5) underlying119 rfl BA) (sb rfl (sb rfl (sa rfl (AP ((i + j) / 2) rfl rfl rfl rfl (sl rfl) A0) ?_)))
    obtain ⟨x6, hx6⟩ := BZ (l := l1) (i := (i + j) / 2) A0
    refine sa rfl (AH (xs := St.cells x6) rfl rfl (BB St.len (FZ St.len (M.blk 0 rfl)) rfl hx6) underlying119 rfl BA) (CB (MC M 101 rfl (BC rfl rfl rfl hfc) (hcmp _ _ _) fun w7 M => BM rfl rfl (AG rfl (AF rfl (fun h103 => ?_) (fun h103 => ?_)))))
    ·have h103p := (odf (BY h103))
     refine sx_region (yb rfl (C1 rfl rfl (yb rfl (sxl_nil (qx_block_normal (fag ⟨((i + j) / 2) + 1, j, l1, rfl, M, ?_, ?_, ?_, ?_, ?_, ?_, ?_, ?_, rfl⟩))))))
     ·omega
     ·assumption
     ·assumption
     ·assumption
     ·first
       | exact hbL
       | exact q7 hS1 (fun hh => h103p ((hfq _ _).2 hh)) (by assumption) (by assumption) A0
     ·first
       | exact hbR
       | exact pZ hS1 ((hfq _ _).1 h103p) (by assumption) (by assumption) A0
     ·first
       | assumption
       | (refine (CY ?_ ?_).trans (by assumption) <;> assumption)
     ·first
       | assumption
       | (simp; assumption)
    ·have h103p := (odt (BJ h103))
     refine sx_region (AV rfl rfl (sxl_nil (qx_block_normal (fag ⟨i, (i + j) / 2, l1, rfl, M, ?_, ?_, ?_, ?_, ?_, ?_, ?_, ?_, rfl⟩))))
     ·omega
     ·assumption
     ·assumption
     ·assumption
     ·first
       | exact hbL
       | exact q7 hS1 (fun hh => h103p ((hfq _ _).2 hh)) (by assumption) (by assumption) A0
     ·first
       | exact hbR
       | exact pZ hS1 ((hfq _ _).1 h103p) (by assumption) (by assumption) A0
     ·first
       | assumption
       | (refine (CY ?_ ?_).trans (by assumption) <;> assumption)
     ·first
       | assumption
       | (simp; assumption)
   ·have h85p := (odf h85)
    refine sx_exit (qx_then_exit (qx_then_exit (qx_block_hit (qx_seq (sx_seq (AC rfl (AG rfl (sx_block (flp [14, 0] (fun ze e wr mz => ∃ (k : Nat) (l2 : List St), e = (17, AA ((k : Nat) : Int)) :: ze ∧ Mem w (fun k => k = g) [As.blk g 119 (AB St.cells l2 ++ rs)] wr ∧ (i ≤ k ∧ k ≤ m) ∧ (Rot l1 l2 k m (m + 1)) ∧ (l2.Perm l) ∧ (l2.length = n) ∧ mz = k - i) ⟨m, l1, rfl, M, by omega, FE (.inl rfl), hp_l1, hn_l1, rfl⟩ ?_)))))))))
    rintro _ w8 _ ⟨k, l2, rfl, M, hk, hT, hp_l2, hn_l2, rfl⟩
    refine sx_seq (AC rfl (yb rfl (O8 rfl rfl (nq (AF rfl (fun h110 => ?_) (fun h110 => ?_))))))
    ·have h110p := (odt h110)
     refine sx_skip (qx_seq (sx_seq (sx_block (EG 18 (fun _ => True) CL ?_))))
     have M := M.drew
     refine oa 0 18 rfl rfl trivial (fun _ _ => yp rfl) (oa 1 18 rfl rfl trivial (fun _ _ => yp rfl) (oa 2 18 rfl rfl trivial (fun _ _ => yp rfl) (oa 3 18 rfl rfl trivial (fun _ _ => yp rfl) (oa 4 18 rfl rfl trivial (fun _ _ => DW (a := k) (b := 1) rfl rfl rfl A0 A0) (oa 5 18 rfl rfl trivial (fun _ _ => yp rfl) (oa 6 18 rfl rfl trivial (fun _ _ => yp rfl) (oa 7 18 rfl rfl trivial (fun _ _ => DW (a := k) (b := 1) rfl rfl rfl A0 A0) (oa 8 18 rfl rfl trivial (fun _ _ => AP (k - 1) rfl rfl rfl rfl (sl rfl) A0) (oa 10 18 rfl rfl trivial (fun _ _ => yp rfl) (oa 11 18 rfl rfl trivial (fun _ _ => yp rfl) (oa 12 18 rfl rfl trivial (fun _ _ => AP k rfl rfl rfl rfl (sl rfl) A0) (K2 14 (fun w' => Mem w (fun k => k = g) [As.blk g 119 (AB St.cells l2 ++ rs)] w') ?_))))))))))))
     obtain ⟨x7, hx7⟩ := BZ (l := l2) (i := k - 1) A0
     refine GB 9 gkr (fun c a t v w h => by cases t <;> exact h) gkr gkr gkr rfl (wn_none rfl) rfl rfl M (fun _ M => AH (xs := St.cells x7) rfl rfl (BB St.len (FZ St.len (M.blk 0 rfl)) rfl hx7) underlying119 rfl BA) ?_
     obtain ⟨x8, hx8⟩ := BZ (l := l2) (i := k) A0
     refine GB 13 gkr (fun c a t v w h => by cases t <;> exact h) gkr gkr gkr rfl (wn_none rfl) rfl rfl M (fun _ M => AH (xs := St.cells x8) rfl rfl (BB St.len (FZ St.len (M.blk 0 rfl)) rfl hx8) underlying119 rfl BA) (fo1 14 rfl rfl (AP k rfl rfl rfl rfl (sl rfl) A0) (AR 15 none gkr rfl (wn_none rfl) rfl rfl (fun ρ hρ => BH 119 _ _ rfl g (0 + k * 10) 119 (AB St.cells l2 ++ rs) (St.cells x7) (hρ _ _ rfl) (hρ _ _ rfl) (M.blk 0 rfl) BA (J4 St.len CX rfl) (St.cells_one _)) ?_))
     rintro _ w9 ⟨rfl, hbw9, hfw9⟩
     rw [HV St.len CX] at hbw9
     replace M : Mem w (fun k => k = g) (List.set _ 0 (As.blk g 119 (AB St.cells (l2.set k x7) ++ rs))) w9 := M.putB 0 rfl hbw9 hfw9
     refine ⟨fun h => absurd h AU, fo1 16 rfl rfl (AP (k - 1) rfl rfl rfl rfl (sl rfl) A0) (AR 17 none gkr rfl (wn_none rfl) rfl rfl (fun ρ hρ => BH 119 _ _ rfl g (0 + (k - 1) * 10) 119 (AB St.cells (l2.set k x7) ++ rs) (St.cells x8) (hρ _ _ rfl) (hρ _ _ rfl) (M.blk 0 rfl) BA (J4 St.len CX rfl) (St.cells_one _)) ?_)⟩
     rintro _ w10 ⟨rfl, hbw10, hfw10⟩
     rw [HV St.len CX] at hbw10
     replace M : Mem w (fun k => k = g) (List.set _ 0 (As.blk g 119 (AB St.cells ((l2.set k x7).set (k - 1) x8) ++ rs))) w10 := M.putB 0 rfl hbw10 hfw10
     refine ⟨fun h => absurd h AU, fdn (qx_block_normal (qx_seq (sx_region (yb rfl (ya rfl (DW (a := k) (b := 1) rfl rfl rfl A0 A0) (yb rfl (sxl_nil (fag ⟨k - 1, ((l2.set k x7).set (k - 1) x8), rfl, M, ?_, ?_, ?_, ?_, rfl⟩))))))))⟩
     ·omega
     ·exact cA hT A0 A0 (by assumption) (by assumption)
     ·first
       | assumption
       | (refine (CY ?_ ?_).trans (by assumption) <;> assumption)
     ·first
       | assumption
       | (simp; assumption)
    ·have h110p := (odf h110)
     exact sx_exit (qx_then_exit (qx_then_exit (qx_block_hit (qx_seq (sx_ret (qx_then_ret (qx_ret0 (Or.inl rfl) rfl ⟨rfl, l2, hp_l2, (by rw [← he]; exact jC A0 hS1 A0 A0 A0 hbL (fun q h1 h2 => hbR q A0 h2) (hT.cast A0 rfl A0)), M.blk 0 rfl, M.fr⟩)))))))
  ·have h80p := (odf h80)
   refine sx_skip (qx_seq (AC rfl (yb rfl (C1 rfl rfl (ya rfl (Q7 rfl rfl underlying3 underlying44 A0) (ya rfl (U0 (a := a + b) rfl rfl rfl) (ya rfl (Q8 rfl rfl underlying44 underlying3 A0) (AG rfl (AC rfl ?_)))))))))
   refine yb rfl (C1 rfl rfl (AG rfl (AC rfl (AG rfl (sx_seq (AC rfl (yb rfl ?_)))))))
   refine O8 rfl rfl (nq (LU [(0, .slice (some ⟨g, 0, none⟩) n cp), (1, AA ((a : Nat) : Int)), (2, AA (m : Int)), (3, AA ((b : Nat) : Int)), (4, .func (.func fc) #[] #[]), (18, AA (((a + b) / 2 : Nat) : Int)), (19, AA ((((a + b) / 2) + m : Nat) : Int)), (20, AA ((if (decide ((((a + b) / 2 : Nat) : Int) < (m : Int))) then (((a + b) / 2) + m) - b else a : Nat) : Int)), (21, AA ((if (decide ((((a + b) / 2 : Nat) : Int) < (m : Int))) then (a + b) / 2 else m : Nat) : Int))] (fun w' => Mem w (fun k => k = g) [As.blk g 119 (AB St.cells l ++ rs)] w') ?_ (fun k140 => ?_)))
   ·intro w11 M
    refine qx_seq (AC rfl (ya rfl (DW (a := ((a + b) / 2) + m) (b := 1) rfl rfl rfl A0 A0) (AG rfl (sx_seq (sx_block ?_)))))
    have hst : ((a + b) / 2 < m ∧ (if (decide ((((a + b) / 2 : Nat) : Int) < (m : Int))) then (((a + b) / 2) + m) - b else a) + b = (a + b) / 2 + m ∧ (if (decide ((((a + b) / 2 : Nat) : Int) < (m : Int))) then (a + b) / 2 else m) = (a + b) / 2) ∨ (m ≤ (a + b) / 2 ∧ (if (decide ((((a + b) / 2 : Nat) : Int) < (m : Int))) then (((a + b) / 2) + m) - b else a) = a ∧ (if (decide ((((a + b) / 2 : Nat) : Int) < (m : Int))) then (a + b) / 2 else m) = m) := by
     split
     ·rename_i hq
      have := odt hq
      left; omega
     ·rename_i hq
      have := odf (Bool.eq_false_iff.2 hq)
      right; omega
    obtain ⟨s0, hs0⟩ : ∃ s0 : Nat, s0 = if (decide ((((a + b) / 2 : Nat) : Int) < (m : Int))) then (((a + b) / 2) + m) - b else a := ⟨_, rfl⟩
    obtain ⟨r0, hr0⟩ : ∃ r0 : Nat, r0 = if (decide ((((a + b) / 2 : Nat) : Int) < (m : Int))) then (a + b) / 2 else m := ⟨_, rfl⟩
    rw [← hs0, ← hr0] at hst
    refine flp [22, 19, 18, 4, 3, 2, 1, 0] (fun ze e wr mz => ∃ (s : Nat) (r : Nat) (l1 : List St), e = (20, AA (s : Int)) :: (21, AA (r : Int)) :: ze ∧ Mem w (fun k => k = g) [As.blk g 119 (AB St.cells l1 ++ rs)] wr ∧ (s0 ≤ s ∧ s ≤ r ∧ r ≤ r0) ∧ (Srt f l1 a m) ∧ (Srt f l1 m b) ∧ (l1 = l) ∧ (Sea f l1 ((a + b) / 2 + m - 1) s0 r0 s r) ∧ (l1.Perm l) ∧ (l1.length = n) ∧ mz = r - s) ⟨(if (decide ((((a + b) / 2 : Nat) : Int) < (m : Int))) then (((a + b) / 2) + m) - b else a), (if (decide ((((a + b) / 2 : Nat) : Int) < (m : Int))) then (a + b) / 2 else m), l, rfl, M, by rw [← hs0, ← hr0]; omega, S1, S2, rfl, ⟨fun c h1 h2 => by omega, fun c h1 h2 => by omega⟩, hp_l, hn_l, rfl⟩ ?_
    rintro _ w12 _ ⟨s, r, l1, rfl, M, hsr, hS1, hS2, he, hse, hp_l1, hn_l1, rfl⟩
    refine sx_seq (AC rfl (yb rfl (BM rfl rfl (nq (AF rfl (fun h151 => ?_) (fun h151 => ?_))))))
    ·have h151p := (odt h151)
     refine sx_skip (qx_seq (sx_block (AC rfl (yb rfl (C1 rfl rfl (ya rfl (Q7 rfl rfl underlying3 underlying44 A0) (ya rfl (U0 (a := s + r) rfl rfl rfl) (ya rfl (Q8 rfl rfl underlying44 underlying3 A0) (AG rfl (sx_seq (DL 11 CL gkr ?_)))))))))))
     have M := M.drew
     iterate 4 refine sb rfl ?_
     refine sa rfl (DW (a := (((a + b) / 2) + m) - 1) (b := (s + r) / 2) rfl rfl rfl A0 A0) (sa rfl (AP (((((a + b) / 2) + m) - 1) - ((s + r) / 2)) rfl rfl rfl rfl (sl rfl) A0) ?_)
     obtain ⟨x9, hx9⟩ := BZ (l := l1) (i := ((((a + b) / 2) + m) - 1) - ((s + r) / 2)) A0
     refine sa rfl (AH (xs := St.cells x9) rfl rfl (BB St.len (FZ St.len (M.blk 0 rfl)) rfl hx9) underlying119 rfl BA) (sb rfl (sb rfl (sa rfl (AP ((s + r) / 2) rfl rfl rfl rfl (sl rfl) A0) ?_)))
     obtain ⟨x10, hx10⟩ := BZ (l := l1) (i := (s + r) / 2) A0
     refine sa rfl (AH (xs := St.cells x10) rfl rfl (BB St.len (FZ St.len (M.blk 0 rfl)) rfl hx10) underlying119 rfl BA) (CB (MC M 169 rfl (BC rfl rfl rfl hfc) (hcmp _ _ _) fun w13 M => BM rfl rfl (AG rfl (AF rfl (fun h171 => ?_) (fun h171 => ?_)))))
     ·have h171p := (odf (BY h171))
      refine sx_region (yb rfl (C1 rfl rfl (yb rfl (sxl_nil (qx_block_normal (fag ⟨((s + r) / 2) + 1, r, l1, rfl, M, ?_, ?_, ?_, ?_, ?_, ?_, ?_, rfl⟩))))))
      ·omega
      ·assumption
      ·assumption
      ·assumption
      ·first
        | exact hse.up hst ham hS1 hS2 A0 hsr.2.2 (by assumption) (by assumption) (fun hh => h171p ((hfq _ _).2 hh))
        | exact hse.down hst hS1 hS2 hsr.1 A0 A0 hsr.2.2 (by assumption) (by assumption) ((hfq _ _).1 h171p)
      ·first
        | assumption
        | (refine (CY ?_ ?_).trans (by assumption) <;> assumption)
      ·first
        | assumption
        | (simp; assumption)
     ·have h171p := (odt (BJ h171))
      refine sx_region (AV rfl rfl (sxl_nil (qx_block_normal (fag ⟨s, (s + r) / 2, l1, rfl, M, ?_, ?_, ?_, ?_, ?_, ?_, ?_, rfl⟩))))
      ·omega
      ·assumption
      ·assumption
      ·assumption
      ·first
        | exact hse.up hst ham hS1 hS2 A0 hsr.2.2 (by assumption) (by assumption) (fun hh => h171p ((hfq _ _).2 hh))
        | exact hse.down hst hS1 hS2 hsr.1 A0 A0 hsr.2.2 (by assumption) (by assumption) ((hfq _ _).1 h171p)
      ·first
        | assumption
        | (refine (CY ?_ ?_).trans (by assumption) <;> assumption)
      ·first
        | assumption
        | (simp; assumption)
    ·have h151p := (odf h151)
     refine sx_exit (qx_then_exit (qx_then_exit ?_))
     obtain rfl : s = r := by omega
     have hall : ∀ l2, Rot l1 l2 s m ((a + b) / 2 + m - s) → MgA f l1 l2 a b s ((a + b) / 2) ((a + b) / 2 + m - s) := fun l2 R => rE hse hst ham hmb A0 hS1 hS2 hsr.1 hsr.2.2 R
     refine qx_block_hit (qx_seq (AC rfl (yb rfl (ya rfl (DW (a := ((a + b) / 2) + m) (b := s) rfl rfl rfl A0 A0) (AG rfl (sx_seq (AC rfl (yb rfl (BM rfl rfl ?_)))))))))
     refine yb rfl (fvm M 4 [24, 20, 18, 4, 3, 2, 1, 0] [(185, .bool ((decide ((s : Int) < (m : Int))) && (decide ((m : Int) < (((((a + b) / 2) + m) - s : Nat) : Int)))))] ?_ (fun k181 => ?_))
     ·intro w14 M
      refine nq (AF rfl (fun h185 => ?_) (fun h185 => ?_))
      ·have h185p := (And.intro (odt (BX h185).1) (odt (BX h185).2))
       refine sx_region ?_
       iterate 5 refine yb rfl ?_
       refine cl 191 rfl (AE rfl rfl call199) (qS g n cp fc rs s m ((((a + b) / 2) + m) - s) hm l1 _ (M.blk 0 rfl) hn_l1 A0 A0 A0) ?_
       rintro _ w15 ⟨rfl, l11, hqw15, hrw15, hbw15, hfw15⟩
       refine ⟨_, rfl, ?_⟩
       have M := M.putB 0 rfl hbw15 hfw15
       have hp_l11 : l11.Perm l := hqw15.trans hp_l1
       have hn_l11 : l11.length = n := hqw15.length_eq.trans hn_l1
       refine nq (sx_seq (AC rfl (yb rfl (BM rfl rfl (yb rfl (fvm M 4 [24, 20, 18, 4, 3, 1, 0] [(199, .bool ((decide (((a : Nat) : Int) < (s : Int))) && (decide ((s : Int) < (((a + b) / 2 : Nat) : Int)))))] ?_ (fun k195 => ?_)))))))
       ·intro w16 M
        refine nq (AF rfl (fun h199 => ?_) (fun h199 => ?_))
        ·have h199p := (And.intro (odt (BX h199).1) (odt (BX h199).2))
         refine sx_region ?_
         iterate 5 refine yb rfl ?_
         refine cl 205 rfl (AE rfl rfl call178) (hrec a s ((a + b) / 2) l11 _ A0 A0 A0 A0 (M.blk 0 rfl) hn_l11 (hall _ hrw15).s1 (hall _ hrw15).s2) ?_
         rintro _ w17 ⟨rfl, l12, hqw17, hrw17, hbw17, hfw17⟩
         refine ⟨_, rfl, ?_⟩
         have M := M.putB 0 rfl hbw17 hfw17
         have hp_l12 : l12.Perm l := hqw17.trans hp_l11
         have hn_l12 : l12.length = n := hqw17.length_eq.trans hn_l11
         refine nq (AC rfl (yb rfl (BM rfl rfl (yb rfl (fvm M 4 [24, 18, 4, 3, 0] [(213, .bool ((decide ((((a + b) / 2 : Nat) : Int) < (((((a + b) / 2) + m) - s : Nat) : Int))) && (decide ((((((a + b) / 2) + m) - s : Nat) : Int) < ((b : Nat) : Int)))))] ?_ (fun k209 => ?_))))))
         ·intro w18 M
          refine nq (AF rfl (fun h213 => ?_) (fun h213 => ?_))
          ·have h213p := (And.intro (odt (BX h213).1) (odt (BX h213).2))
           refine sx_region ?_
           iterate 5 refine yb rfl ?_
           refine cl 219 rfl (AE rfl rfl call178) (hrec ((a + b) / 2) ((((a + b) / 2) + m) - s) b l12 _ A0 A0 A0 A0 (M.blk 0 rfl) hn_l12 ((hall _ hrw15).s3.out hrw17.out (.inr (Nat.le_refl _))) ((hall _ hrw15).s4.out hrw17.out (.inr A0))) ?_
           rintro _ w19 ⟨rfl, l13, hqw19, hrw19, hbw19, hfw19⟩
           refine ⟨_, rfl, ?_⟩
           have M := M.putB 0 rfl hbw19 hfw19
           have hp_l13 : l13.Perm l := hqw19.trans hp_l12
           have hn_l13 : l13.length = n := hqw19.length_eq.trans hn_l12
           exact sxl_nil (qx_ret0 (Or.inr rfl) rfl ⟨rfl, l13, hp_l13, (by rw [← he]; exact L8 (hall _ hrw15) A0 A0 hrw17 hrw19), M.blk 0 rfl, M.fr⟩)
          ·have h213p := ((DA h213).imp (fun z => (odf z)) (fun z => (odf z)))
           exact sx_skip (qx_ret0 (Or.inr rfl) rfl ⟨rfl, l12, hp_l12, (by rw [← he]; exact L8 (hall _ hrw15) A0 A0 hrw17 ((hall _ hrw15).right hrw17 A0)), M.blk 0 rfl, M.fr⟩)
         refine AD (d := 209) rfl (fun h209 => ?_) (fun h209 => ?_)
         ·exact gyq rfl (gyq rfl (yd rfl (EQ rfl rfl rfl) (yb rfl (k209 M ⟨rfl, rfl, rfl, rfl, rfl, (by rw [h209]; rfl), trivial⟩))))
         ·exact yo rfl (yo rfl (yo rfl (yb rfl (k209 M ⟨rfl, rfl, rfl, rfl, rfl, (by rw [h209]; rfl), trivial⟩))))
        ·have h199p := ((DA h199).imp (fun z => (odf z)) (fun z => (odf z)))
         refine sx_skip (qx_seq (AC rfl (yb rfl (BM rfl rfl (yb rfl (fvm M 4 [24, 18, 4, 3, 0] [(213, .bool ((decide ((((a + b) / 2 : Nat) : Int) < (((((a + b) / 2) + m) - s : Nat) : Int))) && (decide ((((((a + b) / 2) + m) - s : Nat) : Int) < ((b : Nat) : Int)))))] ?_ (fun k209 => ?_)))))))
         ·intro w20 M
          refine nq (AF rfl (fun h213 => ?_) (fun h213 => ?_))
          ·have h213p := (And.intro (odt (BX h213).1) (odt (BX h213).2))
           refine sx_region ?_
           iterate 5 refine yb rfl ?_
           refine cl 219 rfl (AE rfl rfl call178) (hrec ((a + b) / 2) ((((a + b) / 2) + m) - s) b l11 _ A0 A0 A0 A0 (M.blk 0 rfl) hn_l11 (hall _ hrw15).s3 (hall _ hrw15).s4) ?_
           rintro _ w21 ⟨rfl, l14, hqw21, hrw21, hbw21, hfw21⟩
           refine ⟨_, rfl, ?_⟩
           have M := M.putB 0 rfl hbw21 hfw21
           have hp_l14 : l14.Perm l := hqw21.trans hp_l11
           have hn_l14 : l14.length = n := hqw21.length_eq.trans hn_l11
           exact sxl_nil (qx_ret0 (Or.inr rfl) rfl ⟨rfl, l14, hp_l14, (by rw [← he]; exact L8 (hall _ hrw15) A0 A0 ((hall _ hrw15).left A0) hrw21), M.blk 0 rfl, M.fr⟩)
          ·have h213p := ((DA h213).imp (fun z => (odf z)) (fun z => (odf z)))
           exact sx_skip (qx_ret0 (Or.inr rfl) rfl ⟨rfl, l11, hp_l11, (by rw [← he]; exact L8 (hall _ hrw15) A0 A0 ((hall _ hrw15).left A0) ((hall _ hrw15).right ((hall _ hrw15).left A0) A0)), M.blk 0 rfl, M.fr⟩)
         refine AD (d := 209) rfl (fun h209 => ?_) (fun h209 => ?_)
         ·exact gyq rfl (gyq rfl (yd rfl (EQ rfl rfl rfl) (yb rfl (k209 M ⟨rfl, rfl, rfl, rfl, rfl, (by rw [h209]; rfl), trivial⟩))))
         ·exact yo rfl (yo rfl (yo rfl (yb rfl (k209 M ⟨rfl, rfl, rfl, rfl, rfl, (by rw [h209]; rfl), trivial⟩))))
       refine AD (d := 195) rfl (fun h195 => ?_) (fun h195 => ?_)
       ·exact gyq rfl (gyq rfl (yd rfl (EQ rfl rfl rfl) (yb rfl (k195 M ⟨rfl, rfl, rfl, rfl, rfl, rfl, rfl, (by rw [h195]; rfl), trivial⟩))))
       ·exact yo rfl (yo rfl (yo rfl (yb rfl (k195 M ⟨rfl, rfl, rfl, rfl, rfl, rfl, rfl, (by rw [h195]; rfl), trivial⟩))))
      ·have h185p := ((DA h185).imp (fun z => (odf z)) (fun z => (odf z)))
       refine sx_skip (qx_seq (sx_seq (AC rfl (yb rfl (BM rfl rfl (yb rfl (fvm M 4 [24, 20, 18, 4, 3, 1, 0] [(199, .bool ((decide (((a : Nat) : Int) < (s : Int))) && (decide ((s : Int) < (((a + b) / 2 : Nat) : Int)))))] ?_ (fun k195 => ?_))))))))
       ·intro w22 M
        refine nq (AF rfl (fun h199 => ?_) (fun h199 => ?_))
        ·have h199p := (And.intro (odt (BX h199).1) (odt (BX h199).2))
         refine sx_region ?_
         iterate 5 refine yb rfl ?_
         refine cl 205 rfl (AE rfl rfl call178) (hrec a s ((a + b) / 2) l1 _ A0 A0 A0 A0 (M.blk 0 rfl) hn_l1 (hall _ (FE A0)).s1 (hall _ (FE A0)).s2) ?_
         rintro _ w23 ⟨rfl, l15, hqw23, hrw23, hbw23, hfw23⟩
         refine ⟨_, rfl, ?_⟩
         have M := M.putB 0 rfl hbw23 hfw23
         have hp_l15 : l15.Perm l := hqw23.trans hp_l1
         have hn_l15 : l15.length = n := hqw23.length_eq.trans hn_l1
         refine nq (AC rfl (yb rfl (BM rfl rfl (yb rfl (fvm M 4 [24, 18, 4, 3, 0] [(213, .bool ((decide ((((a + b) / 2 : Nat) : Int) < (((((a + b) / 2) + m) - s : Nat) : Int))) && (decide ((((((a + b) / 2) + m) - s : Nat) : Int) < ((b : Nat) : Int)))))] ?_ (fun k209 => ?_))))))
         ·intro w24 M
          refine nq (AF rfl (fun h213 => ?_) (fun h213 => ?_))
          ·have h213p := (And.intro (odt (BX h213).1) (odt (BX h213).2))
           refine sx_region ?_
           iterate 5 refine yb rfl ?_
           refine cl 219 rfl (AE rfl rfl call178) (hrec ((a + b) / 2) ((((a + b) / 2) + m) - s) b l15 _ A0 A0 A0 A0 (M.blk 0 rfl) hn_l15 ((hall _ (FE A0)).s3.out hrw23.out (.inr (Nat.le_refl _))) ((hall _ (FE A0)).s4.out hrw23.out (.inr A0))) ?_
           rintro _ w25 ⟨rfl, l16, hqw25, hrw25, hbw25, hfw25⟩
           refine ⟨_, rfl, ?_⟩
           have M := M.putB 0 rfl hbw25 hfw25
           have hp_l16 : l16.Perm l := hqw25.trans hp_l15
           have hn_l16 : l16.length = n := hqw25.length_eq.trans hn_l15
           exact sxl_nil (qx_ret0 (Or.inr rfl) rfl ⟨rfl, l16, hp_l16, (by rw [← he]; exact L8 (hall _ (FE A0)) A0 A0 hrw23 hrw25), M.blk 0 rfl, M.fr⟩)
          ·have h213p := ((DA h213).imp (fun z => (odf z)) (fun z => (odf z)))
           exact sx_skip (qx_ret0 (Or.inr rfl) rfl ⟨rfl, l15, hp_l15, (by rw [← he]; exact L8 (hall _ (FE A0)) A0 A0 hrw23 ((hall _ (FE A0)).right hrw23 A0)), M.blk 0 rfl, M.fr⟩)
         refine AD (d := 209) rfl (fun h209 => ?_) (fun h209 => ?_)
         ·exact gyq rfl (gyq rfl (yd rfl (EQ rfl rfl rfl) (yb rfl (k209 M ⟨rfl, rfl, rfl, rfl, rfl, (by rw [h209]; rfl), trivial⟩))))
         ·exact yo rfl (yo rfl (yo rfl (yb rfl (k209 M ⟨rfl, rfl, rfl, rfl, rfl, (by rw [h209]; rfl), trivial⟩))))
        ·have h199p := ((DA h199).imp (fun z => (odf z)) (fun z => (odf z)))
         refine sx_skip (qx_seq (AC rfl (yb rfl (BM rfl rfl (yb rfl (fvm M 4 [24, 18, 4, 3, 0] [(213, .bool ((decide ((((a + b) / 2 : Nat) : Int) < (((((a + b) / 2) + m) - s : Nat) : Int))) && (decide ((((((a + b) / 2) + m) - s : Nat) : Int) < ((b : Nat) : Int)))))] ?_ (fun k209 => ?_)))))))
         ·intro w26 M
          refine nq (AF rfl (fun h213 => ?_) (fun h213 => ?_))
          ·have h213p := (And.intro (odt (BX h213).1) (odt (BX h213).2))
           refine sx_region ?_
           iterate 5 refine yb rfl ?_
           refine cl 219 rfl (AE rfl rfl call178) (hrec ((a + b) / 2) ((((a + b) / 2) + m) - s) b l1 _ A0 A0 A0 A0 (M.blk 0 rfl) hn_l1 (hall _ (FE A0)).s3 (hall _ (FE A0)).s4) ?_
           rintro _ w27 ⟨rfl, l17, hqw27, hrw27, hbw27, hfw27⟩
           refine ⟨_, rfl, ?_⟩
           have M := M.putB 0 rfl hbw27 hfw27
           have hp_l17 : l17.Perm l := hqw27.trans hp_l1
           have hn_l17 : l17.length = n := hqw27.length_eq.trans hn_l1
           exact sxl_nil (qx_ret0 (Or.inr rfl) rfl ⟨rfl, l17, hp_l17, (by rw [← he]; exact L8 (hall _ (FE A0)) A0 A0 ((hall _ (FE A0)).left A0) hrw27), M.blk 0 rfl, M.fr⟩)
          ·have h213p := ((DA h213).imp (fun z => (odf z)) (fun z => (odf z)))
           exact sx_skip (qx_ret0 (Or.inr rfl) rfl ⟨rfl, l1, hp_l1, (by rw [← he]; exact L8 (hall _ (FE A0)) A0 A0 ((hall _ (FE A0)).left A0) ((hall _ (FE A0)).right ((hall _ (FE A0)).left A0) A0)), M.blk 0 rfl, M.fr⟩)
         refine AD (d := 209) rfl (fun h209 => ?_) (fun h209 => ?_)
         ·exact gyq rfl (gyq rfl (yd rfl (EQ rfl rfl rfl) (yb rfl (k209 M ⟨rfl, rfl, rfl, rfl, rfl, (by rw [h209]; rfl), trivial⟩))))
         ·exact yo rfl (yo rfl (yo rfl (yb rfl (k209 M ⟨rfl, rfl, rfl, rfl, rfl, (by rw [h209]; rfl), trivial⟩))))
       refine AD (d := 195) rfl (fun h195 => ?_) (fun h195 => ?_)
       ·exact gyq rfl (gyq rfl (yd rfl (EQ rfl rfl rfl) (yb rfl (k195 M ⟨rfl, rfl, rfl, rfl, rfl, rfl, rfl, (by rw [h195]; rfl), trivial⟩))))
       ·exact yo rfl (yo rfl (yo rfl (yb rfl (k195 M ⟨rfl, rfl, rfl, rfl, rfl, rfl, rfl, (by rw [h195]; rfl), trivial⟩))))
     refine AD (d := 181) rfl (fun h181 => ?_) (fun h181 => ?_)
     ·exact gyq rfl (gyq rfl (yd rfl (EQ rfl rfl rfl) (yb rfl (k181 M ⟨rfl, rfl, rfl, rfl, rfl, rfl, rfl, rfl, (by rw [h181]; rfl), trivial⟩))))
     ·exact yo rfl (yo rfl (yo rfl (yb rfl (k181 M ⟨rfl, rfl, rfl, rfl, rfl, rfl, rfl, rfl, (by rw [h181]; rfl), trivial⟩))))
   refine AF rfl (fun h140 => ?_) (fun h140 => ?_)
   ·have h140p := (odt h140)
    exact AC rfl (yb rfl (ya rfl (DW (a := ((a + b) / 2) + m) (b := b) rfl rfl rfl A0 A0) (AG rfl (sx_region (AV rfl rfl (sxl_nil (k140 _ _ M ⟨rfl, rfl, rfl, rfl, rfl, rfl, rfl, (by rw [h140]; rfl), (by rw [h140]; rfl), trivial⟩)))))))
   ·exact AC rfl (AG rfl (sx_region (AV rfl rfl (sxl_nil (k140 _ _ M ⟨rfl, rfl, rfl, rfl, rfl, rfl, rfl, (by rw [h140]; rfl), (by rw [h140]; rfl), trivial⟩)))))
theorem fV (g n cp : Nat) (fc : FuncId) (fq : St → St → Int) (f : St → Int) (rs : List Value) (hfc : ∀ (ar : Array Value) (w : World), (callFunc fc ar).run prog w = .ok (.enter fc ar) w) (hcmp : ∀ (a b : St) (w : World), Calls prog fc #[.agg a.cells.toArray, .agg b.cells.toArray] w (BN w (AA (fq a b)))) (hfq : ∀ a b, fq a b < 0 ↔ f a < f b) (hm : n ≤ 1000000000) : ∀ (d a m b : Nat) (l : List St) (w : World), b - a ≤ d → a < m → m < b → b ≤ n → Blk w g 119 (AB St.cells l ++ rs) → l.length = n → Srt f l a m → Srt f l m b → Calls prog 178 #[.slice (some ⟨g, 0, none⟩) n cp, AA ((a : Nat) : Int), AA ((m : Nat) : Int), AA ((b : Nat) : Int), .func (.func fc) #[] #[]] w fun e w' => e = .returned (.tuple #[]) ∧ ∃ l' : List St, l'.Perm l ∧ (Mgd f l l' a b) ∧ Blk w' g 119 (AB St.cells l' ++ rs) ∧ Fr (fun k => k = g) w w' := by
 intro d
 induction d with
 | zero => intro a m b l w hd h1 h2; omega
 | succ d ih => exact fun a m b l w hd h1 h2 h3 hb hn s1 s2 => fU g n cp fc fq f rs a m b hfc hcmp hfq hm l w hb hn h1 h2 h3 s1 s2 fun a' m' b' l w q1 q2 q3 q4 hb hn s1 s2 => ih a' m' b' l w A0 q1 q2 q3 hb hn s1 s2
theorem gN (g n cp : Nat) (fc : FuncId) (fq : St → St → Int) (f : St → Int) (rs : List Value) (hfc : ∀ (ar : Array Value) (w : World), (callFunc fc ar).run prog w = .ok (.enter fc ar) w) (hcmp : ∀ (a b : St) (w : World), Calls prog fc #[.agg a.cells.toArray, .agg b.cells.toArray] w (BN w (AA (fq a b)))) (hfq : ∀ a b, fq a b < 0 ↔ f a < f b) (hm : n ≤ 1000000000) (l : List St) (w : World) (hb : Blk w g 119 (AB St.cells l ++ rs)) (hn : l.length = n) :
 Calls prog 147 #[.slice (some ⟨g, 0, none⟩) n cp, AA (n : Int), .func (.func fc) #[] #[]] w fun e w' => e = .returned (.tuple #[]) ∧ ∃ l' : List St, l'.Perm l ∧ (Stf f l l' ∧ Srt f l' 0 n) ∧ Blk w' g 119 (AB St.cells l' ++ rs) ∧ Fr (fun k => k = g) w w' := by
 have hp_l : l.Perm l := List.Perm.refl _
 have hn_l : l.length = n := hn
 refine sx_enter (vs := [_, _, _]) func147 rfl ntmps147 rfl ?_
 have M : Mem w (fun k => k = g) [As.blk g 119 (AB St.cells l ++ rs)] w := Mem.one hb
 refine srg (AG rfl (AC rfl (yb rfl (AG rfl (sx_seq (sx_block (flp [6, 2, 1, 0] (fun ze e wr mz => ∃ (x : Nat) (l1 : List St), e = (7, AA (x : Int)) :: (8, AA ((x + 20 : Nat) : Int)) :: ze ∧ Mem w (fun k => k = g) [As.blk g 119 (AB St.cells l1 ++ rs)] wr ∧ (x ≤ n) ∧ (Bk1 f l l1 x) ∧ (l1.Perm l) ∧ (l1.length = n) ∧ mz = n - x) ⟨0, l, rfl, M, Nat.zero_le _, Bk1.start l, hp_l, hn_l, rfl⟩ ?_)))))))
 rintro _ w1 _ ⟨x, l1, rfl, M, hx, hB1, hp_l1, hn_l1, rfl⟩
 refine sx_seq (AC rfl (yb rfl (PR rfl rfl (nq (AF rfl (fun h13 => ?_) (fun h13 => ?_))))))
 ·have h13p := (odt h13)
  refine sx_skip (qx_seq (sx_block (srg ?_)))
  iterate 4 refine yb rfl ?_
  refine cl 18 rfl (AE rfl rfl call177) (aF g n cp fc fq f rs x (x + 20) hfc hcmp hfq hm l1 _ (M.blk 0 rfl) hn_l1 A0 A0) ?_
  rintro _ w2 ⟨rfl, l1, hqw2, hrw2, hbw2, hfw2⟩
  refine ⟨_, rfl, ?_⟩
  have M := M.putB 0 rfl hbw2 hfw2
  have hp_l1 : l1.Perm l := hqw2.trans hp_l1
  have hn_l1 : l1.length = n := hqw2.length_eq.trans hn_l1
  refine nq (AC rfl (AG rfl (sx_region (AV rfl rfl (C1 rfl rfl (yb rfl (sxl_nil (qx_block_normal (fag ⟨x + 20, l1, rfl, M, ?_, ?_, ?_, ?_, rfl⟩)))))))))
  ·omega
  ·exact hB1.step (by assumption)
  ·first
    | assumption
    | (refine (CY ?_ ?_).trans (by assumption) <;> assumption)
  ·first
    | assumption
    | (simp; assumption)
 ·have h13p := (odf h13)
  refine sx_exit (qx_then_exit (qx_then_exit (qx_block_hit (qx_seq (srg ?_)))))
  iterate 4 refine yb rfl ?_
  refine cl 27 rfl (AE rfl rfl call177) (aF g n cp fc fq f rs x n hfc hcmp hfq hm l1 _ (M.blk 0 rfl) hn_l1 A0 A0) ?_
  rintro _ w3 ⟨rfl, l2, hqw3, hrw3, hbw3, hfw3⟩
  refine ⟨_, rfl, ?_⟩
  have M := M.putB 0 rfl hbw3 hfw3
  have hp_l2 : l2.Perm l := hqw3.trans hp_l1
  have hn_l2 : l2.length = n := hqw3.length_eq.trans hn_l1
  refine nq (sx_block (flp [2, 1, 0] (fun ze e wr mz => ∃ (z : Nat) (l2 : List St), e = (6, AA (z : Int)) :: ze ∧ Mem w (fun k => k = g) [As.blk g 119 (AB St.cells l2 ++ rs)] wr ∧ (20 ≤ z ∧ z ≤ 2 * n + 20) ∧ (Bks f l l2 n z 0) ∧ (l2.Perm l) ∧ (l2.length = n) ∧ mz = n - z) ⟨20, l2, rfl, M, by omega, hB1.done (by assumption), hp_l2, hn_l2, rfl⟩ ?_))
  rintro _ w4 _ ⟨z, l2, rfl, M, hz, hB, hp_l2, hn_l2, rfl⟩
  refine sx_seq (AC rfl (yb rfl (BM rfl rfl (nq (AF rfl (fun h30 => ?_) (fun h30 => ?_))))))
  ·have h30p := (odt h30)
   refine sx_skip (qx_seq (sx_block (AC rfl (ya rfl (U3 (a := 2) (b := z) rfl rfl rfl A0) (yb rfl (AG rfl (sx_seq (sx_block (flp [6, 2, 1, 0] (fun ze e wr mz => ∃ (y : Nat) (y8 : Nat) (l3 : List St), e = (7, AA (y : Int)) :: (8, AA (y8 : Int)) :: ze ∧ Mem w (fun k => k = g) [As.blk g 119 (AB St.cells l3 ++ rs)] wr ∧ (y ≤ n) ∧ (y8 = y + 2 * z) ∧ (Bks f l l3 n z y) ∧ (l3.Perm l) ∧ (l3.length = n) ∧ mz = n - y) ⟨0, (2 * z), l2, rfl, M, Nat.zero_le _, by omega, hB, hp_l2, hn_l2, rfl⟩ ?_)))))))))
   rintro _ w5 _ ⟨y, y8, l3, rfl, M, hy, hy8, hBy, hp_l3, hn_l3, rfl⟩
   refine sx_seq (AC rfl (yb rfl (PR rfl rfl (nq (AF rfl (fun h35 => ?_) (fun h35 => ?_))))))
   ·have h35p := (odt h35)
    refine sx_skip (qx_seq (sx_block (srg ?_)))
    iterate 4 refine yb rfl ?_
    refine C1 rfl rfl (AV rfl rfl (cl 43 rfl (AE rfl rfl call178) (fV g n cp fc fq f rs hfc hcmp hfq hm n y (y + z) y8 l3 _ A0 A0 A0 A0 (M.blk 0 rfl) hn_l3 (hBy.l1 A0 A0) (hBy.l2 A0 A0)) ?_))
    rintro _ w6 ⟨rfl, l3, hqw6, hrw6, hbw6, hfw6⟩
    refine ⟨_, rfl, ?_⟩
    have M := M.putB 0 rfl hbw6 hfw6
    have hp_l3 : l3.Perm l := hqw6.trans hp_l3
    have hn_l3 : l3.length = n := hqw6.length_eq.trans hn_l3
    refine nq (AC rfl (AG rfl (sx_region (AV rfl rfl (ya rfl (U3 (a := 2) (b := z) rfl rfl rfl A0) (C1 rfl rfl (yb rfl (sxl_nil (qx_block_normal ?_)))))))))
    refine fag ⟨y8, y8 + (2 * z), l3, rfl, M, ?_, ?_, ?_, ?_, ?_, rfl⟩
    ·omega
    ·omega
    ·subst hy8; exact hBy.step A0 (by assumption)
    ·first
      | assumption
      | (refine (CY ?_ ?_).trans (by assumption) <;> assumption)
    ·first
      | assumption
      | (simp; assumption)
   ·have h35p := (odf h35)
    refine sx_exit (qx_then_exit (qx_then_exit (qx_block_hit (qx_seq (sx_seq (AC rfl (yb rfl (C1 rfl rfl (AG rfl (srg ?_))))))))))
    refine AV rfl rfl (BM rfl rfl (nq (AF rfl (fun h54 => ?_) (fun h54 => ?_))))
    ·have h54p := (odt h54)
     refine sx_region ?_
     iterate 5 refine yb rfl ?_
     refine cl 60 rfl (AE rfl rfl call178) (fV g n cp fc fq f rs hfc hcmp hfq hm n y (y + z) n l3 _ A0 A0 A0 A0 (M.blk 0 rfl) hn_l3 (hBy.l1 A0 A0) (hBy.l2 A0 A0)) ?_
     rintro _ w7 ⟨rfl, l4, hqw7, hrw7, hbw7, hfw7⟩
     refine ⟨_, rfl, ?_⟩
     have M := M.putB 0 rfl hbw7 hfw7
     have hp_l4 : l4.Perm l := hqw7.trans hp_l3
     have hn_l4 : l4.length = n := hqw7.length_eq.trans hn_l3
     refine nq (sx_region (yb rfl (ya rfl (U3 (a := z) (b := 2) rfl rfl rfl A0) (yb rfl (sxl_nil (qx_block_normal (fag ⟨z * 2, l4, rfl, M, ?_, ?_, ?_, ?_, rfl⟩)))))))
     ·omega
     ·first
       | exact QL (hBy.next A0)
       | exact QL (hBy.next2 (by assumption))
     ·first
       | assumption
       | (refine (CY ?_ ?_).trans (by assumption) <;> assumption)
     ·first
       | assumption
       | (simp; assumption)
    ·have h54p := (odf h54)
     refine sx_skip (qx_seq (sx_region (yb rfl (ya rfl (U3 (a := z) (b := 2) rfl rfl rfl A0) (yb rfl (sxl_nil (qx_block_normal (fag ⟨z * 2, l3, rfl, M, ?_, ?_, ?_, ?_, rfl⟩))))))))
     ·omega
     ·first
       | exact QL (hBy.next A0)
       | exact QL (hBy.next2 (by assumption))
     ·first
       | assumption
       | (refine (CY ?_ ?_).trans (by assumption) <;> assumption)
     ·first
       | assumption
       | (simp; assumption)
  ·have h30p := (odf h30)
   exact sx_exit (qx_then_exit (qx_then_exit (qx_block_hit (qx_ret0 (Or.inr rfl) rfl ⟨rfl, l2, hp_l2, hB.done A0, M.blk 0 rfl, M.fr⟩))))
theorem XZ (g n cp : Nat) (fc : FuncId) (fq : St → St → Int) (f : St → Int) (rs : List Value) (hfc : ∀ (ar : Array Value) (w : World), (callFunc fc ar).run prog w = .ok (.enter fc ar) w) (hcmp : ∀ (a b : St) (w : World), Calls prog fc #[.agg a.cells.toArray, .agg b.cells.toArray] w (BN w (AA (fq a b)))) (hfq : ∀ a b, fq a b < 0 ↔ f a < f b) (hm : n ≤ 1000000000) (l : List St) (w : World) (hb : Blk w g 119 (AB St.cells l ++ rs)) (hn : l.length = n) :
 Calls prog 88 #[.slice (some ⟨g, 0, none⟩) n cp, .func (.func fc) #[] #[]] w fun e w' => e = .returned (.tuple #[]) ∧ ∃ l' : List St, l'.Perm l ∧ (Stf f l l' ∧ Srt f l' 0 n) ∧ Blk w' g 119 (AB St.cells l' ++ rs) ∧ Fr (fun k => k = g) w w' := by
 have hp_l : l.Perm l := List.Perm.refl _
 have hn_l : l.length = n := hn
 refine sx_enter (vs := [_, _]) func88 rfl ntmps88 rfl ?_
 have M : Mem w (fun k => k = g) [As.blk g 119 (AB St.cells l ++ rs)] w := Mem.one hb
 refine sx_region (AV rfl rfl (DP rfl rfl (yb rfl (cl 8 rfl (AE rfl rfl call147) (gN g n cp fc fq f rs hfc hcmp hfq hm l _ (M.blk 0 rfl) hn_l) ?_))))
 rintro _ w1 ⟨rfl, l1, hqw1, hrw1, hbw1, hfw1⟩
 refine ⟨_, rfl, ?_⟩
 have M := M.putB 0 rfl hbw1 hfw1
 have hp_l1 : l1.Perm l := hqw1.trans hp_l
 have hn_l1 : l1.length = n := hqw1.length_eq.trans hn_l
 exact sxl_nil (qx_ret0 (Or.inr rfl) rfl ⟨rfl, l1, hp_l1, hrw1, M.blk 0 rfl, M.fr⟩)
theorem jR (A : Option Addr) (cp : Nat) (fc : FuncId) (w : World) : Calls prog 177 #[.slice A 0 cp, AA 0, AA 0, .func (.func fc) #[] #[]] w (BN w (.tuple #[])) := by
 refine BL func177 ntmps177 rfl fun M => AC rfl (C1 rfl rfl (AG rfl (sx_block (sx_loop (fun e wr mz => e = [(0, .slice A 0 cp), (1, AA 0), (2, AA 0), (3, .func (.func fc) #[] #[]), (8, AA 1)] ∧ Mem w AM [] wr ∧ mz = 0) ⟨rfl, M, rfl⟩ ⟨rfl, rfl, rfl, rfl, rfl, trivial⟩ ?_))))
 rintro _ w1 _ ⟨rfl, M, rfl⟩
 exact sx_seq (AC rfl (yb rfl (BM rfl rfl (nq (sx_false rfl (sx_exit (qx_then_exit (qx_then_exit (qx_block_hit (qx_ret0 (Or.inr rfl) rfl ⟨rfl, M.fr⟩))))))))))
theorem bR (A : Option Addr) (cp : Nat) (fc : FuncId) (w : World) : Calls prog 147 #[.slice A 0 cp, AA 0, .func (.func fc) #[] #[]] w (BN w (.tuple #[])) := by
 refine BL func147 ntmps147 rfl fun M => srg (AG rfl (AC rfl (yb rfl (AG rfl (sx_seq (sx_block (sx_loop (fun e wr mz => e = [(0, .slice A 0 cp), (1, AA 0), (2, .func (.func fc) #[] #[]), (6, AA 20), (7, AA 0), (8, AA 20)] ∧ Mem w AM [] wr ∧ mz = 0) ⟨rfl, M, rfl⟩ ⟨rfl, rfl, rfl, rfl, rfl, rfl, trivial⟩ ?_)))))))
 rintro _ w1 _ ⟨rfl, M, rfl⟩
 refine sx_seq (AC rfl (yb rfl (PR rfl rfl (nq (sx_false rfl (sx_exit (qx_then_exit (qx_then_exit (qx_block_hit (qx_seq (srg ?_)))))))))))
 iterate 4 refine yb rfl ?_
 refine DV M 27 rfl rfl call177 (jR A cp fc _) fun w2 M => nq (sx_block (sx_loop (fun e wr mz => e = [(0, .slice A 0 cp), (1, AA 0), (2, .func (.func fc) #[] #[]), (6, AA 20)] ∧ Mem w AM [] wr ∧ mz = 0) ⟨rfl, M, rfl⟩ ⟨rfl, rfl, rfl, rfl, trivial⟩ ?_))
 rintro _ w3 _ ⟨rfl, M, rfl⟩
 exact sx_seq (AC rfl (yb rfl (BM rfl rfl (nq (sx_false rfl (sx_exit (qx_then_exit (qx_then_exit (qx_block_hit (qx_ret0 (Or.inr rfl) rfl ⟨rfl, M.fr⟩))))))))))
theorem bT (A : Option Addr) (cp : Nat) (fc : FuncId) (w : World) : Calls prog 88 #[.slice A 0 cp, .func (.func fc) #[] #[]] w (BN w (.tuple #[])) := by
 exact BL func88 ntmps88 rfl fun M => sx_region (AV rfl rfl (DP rfl rfl (yb rfl (DV M 8 rfl rfl call147 (bR A cp fc _) fun w1 M => sxl_nil (qx_ret0 (Or.inr rfl) rfl ⟨rfl, M.fr⟩)))))
theorem gV (base : Nat) (A : Option Addr) (c n : Nat) (fc : FuncId) (fq : St → St → Int) (f : St → Int) (l : List St) (w : World) (hfc : ∀ (ar : Array Value) (w : World), (callFunc fc ar).run prog w = .ok (.enter fc ar) w) (hcmp : ∀ (a b : St) (w : World), Calls prog fc #[.agg a.cells.toArray, .agg b.cells.toArray] w (BN w (AA (fq a b)))) (hfq : ∀ a b, fq a b < 0 ↔ f a < f b) (hm : n ≤ 1000000000) (hn : l.length = n) (ho : w.ownsRow base 119 10 (.slice A n c) n (AB St.cells l)) :
 Calls prog 88 #[.slice A n c, .func (.func fc) #[] #[]] w fun e w' => e = .returned (.tuple #[]) ∧ ∃ l' : List St, l'.Perm l ∧ (Stf f l l' ∧ Srt f l' 0 n) ∧ w'.ownsRow base 119 10 (.slice A n c) n (AB St.cells l') ∧ Fr (fun k => k ∈ (Value.slice A n c).ownBlock.toList) w w' := by
 rcases ho.2 with ⟨hv, h0⟩ | ⟨g, cap, cur, hv, hg, hb, hnc, hcm, hcs, ht⟩
 ·subst h0
  refine (bT A c fc w).mono ?_
  rintro e w' ⟨rfl, hf⟩
  exact ⟨rfl, l, List.Perm.refl _, ⟨Stf.refl l, fun q h1 h2 => absurd h2 A0⟩, (As.own base 119 10 (.slice A 0 c) 0 (AB St.cells l)).keep (fun k _ hk => hf.block k hk (fun hh => hh)) ho, Fr.of0 hf⟩
 ·injection hv with e1 _ e3
  subst e1; subst e3
  have hfl : (AB St.cells l).length = n * 10 := by rw [I9 St.len, hn]
  have hcl : cur.toList = AB St.cells l ++ cur.toList.drop (n * 10) := by rw [← ht, List.take_append_drop]
  have hb' : Blk w g 119 (AB St.cells l ++ cur.toList.drop (n * 10)) := by rw [← hcl, Blk, Array.toArray_toList]; exact hb
  refine (XZ g n c fc fq f (cur.toList.drop (n * 10)) hfc hcmp hfq hm l w hb' hn).mono ?_
  rintro e w' ⟨rfl, l', hp, hst, hb2, hf⟩
  have hl' : (AB St.cells l').length = n * 10 := by rw [I9 St.len, hp.length_eq, hn]
  refine ⟨rfl, l', hp, hst, ⟨hl', .inr ⟨g, c, _, rfl, hg, hb2, hnc, hcm, ?_, ?_⟩⟩, hf.mono fun k _ hk => ?_⟩
  ·have := congrArg List.length hcl
   rw [Array.length_toList, List.length_append, hfl] at this
   rw [List.size_toArray, List.length_append, hl', ← hcs]; omega
  ·rw [List.take_left' hl']
  ·subst hk; simp [Value.ownBlock]
end Go.Proofs.YtaheakjfkpkefaaGreatDoor
