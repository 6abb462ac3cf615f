/- Lemmas that the last text rests on. Condition: each says its own. -/
import Derived.Test.YtjaocmocdhckaaaGreatDoorZSsB
import Derived.Test.YtjaocmocdhckaaaGreatDoorZMw1
set_option maxHeartbeats 16000000
set_option maxRecDepth 100000
namespace Go.Proofs.YtjaocmocdhckaaaGreatDoor
open Go.RowKit
open Tryz
theorem ZW (g n cp : Nat) (fc : FuncId) (fq : Ar → Ar → Int) (rs : List Value) (a b : Nat) (hfc : ∀ (ar : Array Value) (w : World), (callFunc fc ar).run prog w = .ok (.enter fc ar) w) (hcmp : ∀ (a b : Ar) (w : World), Calls prog fc #[.agg a.cells.toArray, .agg b.cells.toArray] w (CG w (AJ (fq a b)))) (hm : n ≤ 1000000000) (l : List Ar) (w : World) (hb : Blk w g 126 (AH Ar.cells l ++ rs)) (hn : l.length = n) (hab : a ≤ b) (hbn : b ≤ n) :
 Calls prog 171 #[.slice (some ⟨g, 0, none⟩) n cp, AJ ((a : Nat) : Int), AJ ((b : Nat) : Int), .func (.func fc) #[] #[]] w fun e w' => e = .returned (.tuple #[]) ∧ ∃ l' : List Ar, l'.Perm l ∧ Blk w' g 126 (AH Ar.cells l' ++ rs) ∧ Fr (fun k => k = g) w w' := by
 have hp_l : l.Perm l := List.Perm.refl _
 have hn_l : l.length = n := hn
 refine BE (vs := [_, _, _, _]) func171 rfl ntmps171 rfl ?_
 have M : Mem w (fun k => k = g) [As.blk g 126 (AH Ar.cells l ++ rs)] w := Mem.one hb
 refine AQ rfl (ya rfl (BO rfl rfl rfl AM) (AY rfl (AS (flp [3, 2, 1, 0] (fun ze e wr mz => ∃ (i : Nat) (l1 : List Ar), e = (8, AJ ((i : Nat) : Int)) :: ze ∧ Mem w (fun k => k = g) [As.blk g 126 (AH Ar.cells l1 ++ rs)] wr ∧ (a + 1 ≤ i ∧ i ≤ b + 1) ∧ (l1.Perm l) ∧ (l1.length = n) ∧ mz = b + 1 - i) ⟨(a + 1), l, rfl, M, ⟨Nat.le_refl _, by omega⟩, hp_l, hn_l, rfl⟩ ?_))))
 rintro _ w1 _ ⟨i, l1, rfl, M, hi, hp_l1, hn_l1, rfl⟩
 refine AF (AQ rfl (yb rfl (CF rfl rfl (nq (AL rfl (fun h14 => ?_) (fun h14 => ?_))))))
 ·have h14p := (odt h14)
  refine AI (AD (AF (AS (AQ rfl (AY rfl (AS (flp [8, 3, 2, 1, 0] (fun ze e wr mz => ∃ (j : Nat) (l2 : List Ar), e = (9, AJ ((j : Nat) : Int)) :: ze ∧ Mem w (fun k => k = g) [As.blk g 126 (AH Ar.cells l2 ++ rs)] wr ∧ (j ≤ i) ∧ (l2.Perm l) ∧ (l2.length = n) ∧ mz = j + 1) ⟨i, l1, rfl, M, Nat.le_refl _, hp_l1, hn_l1, rfl⟩ ?_)))))))
  rintro _ w2 _ ⟨j, l2, rfl, M, hj, hp_l2, hn_l2, rfl⟩
  refine AF (AF (DP 14 CZ gkr ?_))
  have M := M.drew
  refine sb rfl (sb rfl (sa rfl (GC rfl rfl rfl) (sb rfl (DU (d := 21) rfl (fun h21 => ?_) (fun h21 => ?_)))))
  ·have h21p := (odt h21)
   refine gsg rfl (yp rfl) (gsg rfl (yp rfl) (gsg rfl (yp rfl) (gsg rfl (B1 j rfl rfl rfl rfl (sl rfl) AM) ?_)))
   obtain ⟨x1, hx1⟩ := CC (l := l2) (i := j) AM
   refine gsg rfl (AU (xs := Ar.cells x1) rfl rfl (BV Ar.len (GS Ar.len (M.blk 0 rfl)) rfl hx1) underlying126 rfl B8) (gsg rfl (yp rfl) (gsg rfl (yp rfl) (gsg rfl (EV (a := j) (b := 1) rfl rfl rfl AM AM) (gsg rfl (B1 (j - 1) rfl rfl rfl rfl (sl rfl) AM) ?_))))
   obtain ⟨x2, hx2⟩ := CC (l := l2) (i := j - 1) AM
   refine gsg rfl (AU (xs := Ar.cells x2) rfl rfl (BV Ar.len (GS Ar.len (M.blk 0 rfl)) rfl hx2) underlying126 rfl B8) (CS (B3 (some 32) (BG rfl rfl rfl) rfl rfl (BX rfl rfl rfl hfc) (hcmp _ _ _) ?_))
   rintro _ w3 ⟨rfl, hfw3⟩
   refine ⟨_, rfl, ?_⟩
   have M := M.step hfw3
   refine yd rfl (ED rfl rfl rfl) (AY rfl (AL rfl (fun h34 => ?_) (fun h34 => ?_)))
   ·have h34p := (odt h34)
    refine AI (AD (AF (AS (CV 18 (fun _ => True) CZ ?_))))
    have M := M.drew
    refine oa 0 18 rfl rfl trivial (fun _ _ => yp rfl) (oa 1 18 rfl rfl trivial (fun _ _ => yp rfl) (oa 2 18 rfl rfl trivial (fun _ _ => yp rfl) (oa 3 18 rfl rfl trivial (fun _ _ => yp rfl) (oa 4 18 rfl rfl trivial (fun _ _ => EV (a := j) (b := 1) rfl rfl rfl AM AM) (oa 5 18 rfl rfl trivial (fun _ _ => yp rfl) (oa 6 18 rfl rfl trivial (fun _ _ => yp rfl) (oa 7 18 rfl rfl trivial (fun _ _ => EV (a := j) (b := 1) rfl rfl rfl AM AM) (oa 8 18 rfl rfl trivial (fun _ _ => B1 (j - 1) rfl rfl rfl rfl (sl rfl) AM) (oa 10 18 rfl rfl trivial (fun _ _ => yp rfl) (oa 11 18 rfl rfl trivial (fun _ _ => yp rfl) (oa 12 18 rfl rfl trivial (fun _ _ => B1 j rfl rfl rfl rfl (sl rfl) AM) (KS 14 (fun w' => Mem w (fun k => k = g) [As.blk g 126 (AH Ar.cells l2 ++ rs)] w') ?_))))))))))))
    obtain ⟨x3, hx3⟩ := CC (l := l2) (i := j - 1) AM
    refine HD 9 gkr (fun c a t v w h => by cases t <;> exact h) gkr gkr gkr rfl (AA rfl) rfl rfl M (fun _ M => AU (xs := Ar.cells x3) rfl rfl (BV Ar.len (GS Ar.len (M.blk 0 rfl)) rfl hx3) underlying126 rfl B8) ?_
    obtain ⟨x4, hx4⟩ := CC (l := l2) (i := j) AM
    refine HD 13 gkr (fun c a t v w h => by cases t <;> exact h) gkr gkr gkr rfl (AA rfl) rfl rfl M (fun _ M => AU (xs := Ar.cells x4) rfl rfl (BV Ar.len (GS Ar.len (M.blk 0 rfl)) rfl hx4) underlying126 rfl B8) (fo1 14 rfl rfl (B1 j rfl rfl rfl rfl (sl rfl) AM) (BB 15 none gkr rfl (AA rfl) rfl rfl (fun ρ hρ => C2 126 _ _ rfl g (0 + j * 5) 126 (AH Ar.cells l2 ++ rs) (Ar.cells x3) (hρ _ _ rfl) (hρ _ _ rfl) (M.blk 0 rfl) B8 (JT Ar.len CX rfl) (Ar.cells_one _)) ?_))
    rintro _ w4 ⟨rfl, hbw4, hfw4⟩
    rw [IJ Ar.len CX] at hbw4
    replace M : Mem w (fun k => k = g) (List.set _ 0 (As.blk g 126 (AH Ar.cells (l2.set j x3) ++ rs))) w4 := M.putB 0 rfl hbw4 hfw4
    refine ⟨fun h => absurd h BU, fo1 16 rfl rfl (B1 (j - 1) rfl rfl rfl rfl (sl rfl) AM) (BB 17 none gkr rfl (AA rfl) rfl rfl (fun ρ hρ => C2 126 _ _ rfl g (0 + (j - 1) * 5) 126 (AH Ar.cells (l2.set j x3) ++ rs) (Ar.cells x4) (hρ _ _ rfl) (hρ _ _ rfl) (M.blk 0 rfl) B8 (JT Ar.len CX rfl) (Ar.cells_one _)) ?_)⟩
    rintro _ w5 ⟨rfl, hbw5, hfw5⟩
    rw [IJ Ar.len CX] at hbw5
    replace M : Mem w (fun k => k = g) (List.set _ 0 (As.blk g 126 (AH Ar.cells ((l2.set j x3).set (j - 1) x4) ++ rs))) w5 := M.putB 0 rfl hbw5 hfw5
    refine ⟨fun h => absurd h BU, fdn (AE (AD (AK (yb rfl (ya rfl (EV (a := j) (b := 1) rfl rfl rfl AM AM) (yb rfl (AR (fag ⟨j - 1, ((l2.set j x3).set (j - 1) x4), rfl, M, ?_, ?_, ?_, rfl⟩))))))))⟩
    ·omega
    ·first
      | assumption
      | (refine (DX ?_ ?_).trans (by assumption) <;> assumption)
    ·first
      | assumption
      | (simp; assumption)
   ·have h34p := (odf h34)
    refine BF (AG (AG (AV (AE (AD (AK (yb rfl (ya rfl (BO rfl rfl rfl AM) (yb rfl (AR (fag ⟨i + 1, l2, rfl, M, ?_, ?_, ?_, rfl⟩)))))))))))
    ·omega
    ·first
      | assumption
      | (refine (DX ?_ ?_).trans (by assumption) <;> assumption)
    ·first
      | assumption
      | (simp; assumption)
  ·have h21p := (odf h21)
   iterate 10 refine DV rfl rfl rfl rfl rfl rfl ?_
   refine CS (yo rfl (yo rfl (AY rfl (D8 rfl (BF (AG (AG (AV (AE (AD (AK (yb rfl (ya rfl (BO rfl rfl rfl AM) ?_)))))))))))))
   refine yb rfl (AR (fag ⟨i + 1, l2, rfl, M, ?_, ?_, ?_, rfl⟩))
   ·omega
   ·first
     | assumption
     | (refine (DX ?_ ?_).trans (by assumption) <;> assumption)
   ·first
     | assumption
     | (simp; assumption)
 ·exact BF (AG (AG (AV (CM (Or.inr rfl) rfl ⟨rfl, l1, hp_l1, M.blk 0 rfl, M.fr⟩))))
theorem UF (g n cp : Nat) (fc : FuncId) (rs : List Value) (a b d : Nat) (hm : n ≤ 1000000000) (l : List Ar) (w : World) (hb : Blk w g 126 (AH Ar.cells l ++ rs)) (hn : l.length = n) (had : a + d ≤ n) (hbd : b + d ≤ n) :
 Calls prog 217 #[.slice (some ⟨g, 0, none⟩) n cp, AJ ((a : Nat) : Int), AJ ((b : Nat) : Int), AJ ((d : Nat) : Int), .func (.func fc) #[] #[]] w fun e w' => e = .returned (.tuple #[]) ∧ ∃ l' : List Ar, l'.Perm l ∧ Blk w' g 126 (AH Ar.cells l' ++ rs) ∧ Fr (fun k => k = g) w w' := by
 have hp_l : l.Perm l := List.Perm.refl _
 have hn_l : l.length = n := hn
 refine BE (vs := [_, _, _, _, _]) func217 rfl ntmps217 rfl ?_
 have M : Mem w (fun k => k = g) [As.blk g 126 (AH Ar.cells l ++ rs)] w := Mem.one hb
 refine srg (AY rfl (AS (flp [3, 2, 1, 0] (fun ze e wr mz => ∃ (i : Nat) (l1 : List Ar), e = (10, AJ ((i : Nat) : Int)) :: ze ∧ Mem w (fun k => k = g) [As.blk g 126 (AH Ar.cells l1 ++ rs)] wr ∧ (i ≤ d) ∧ (l1.Perm l) ∧ (l1.length = n) ∧ mz = d - i) ⟨0, l, rfl, M, Nat.zero_le _, hp_l, hn_l, rfl⟩ ?_)))
 rintro _ w1 _ ⟨i, l1, rfl, M, hi, hp_l1, hn_l1, rfl⟩
 refine AF (AQ rfl (yb rfl (CF rfl rfl (nq (AL rfl (fun h13 => ?_) (fun h13 => ?_))))))
 ·have h13p := (odt h13)
  refine AI (AD (AF (AS (CV 24 (fun _ => True) CZ ?_))))
  have M := M.drew
  refine oa 0 24 rfl rfl trivial (fun _ _ => yp rfl) (oa 1 24 rfl rfl trivial (fun _ _ => yp rfl) (oa 2 24 rfl rfl trivial (fun _ _ => yp rfl) (oa 3 24 rfl rfl trivial (fun _ _ => BO rfl rfl rfl AM) (oa 4 24 rfl rfl trivial (fun _ _ => yp rfl) (oa 5 24 rfl rfl trivial (fun _ _ => yp rfl) (oa 6 24 rfl rfl trivial (fun _ _ => yp rfl) (oa 7 24 rfl rfl trivial (fun _ _ => BO rfl rfl rfl AM) (oa 8 24 rfl rfl trivial (fun _ _ => yp rfl) (oa 9 24 rfl rfl trivial (fun _ _ => yp rfl) (oa 10 24 rfl rfl trivial (fun _ _ => yp rfl) (oa 11 24 rfl rfl trivial (fun _ _ => BO rfl rfl rfl AM) (oa 12 24 rfl rfl trivial (fun _ _ => B1 (b + i) rfl rfl rfl rfl (sl rfl) AM) (oa 14 24 rfl rfl trivial (fun _ _ => yp rfl) (oa 15 24 rfl rfl trivial (fun _ _ => yp rfl) (oa 16 24 rfl rfl trivial (fun _ _ => yp rfl) ?_)))))))))))))))
  refine oa 17 24 rfl rfl trivial (fun _ _ => BO rfl rfl rfl AM) (oa 18 24 rfl rfl trivial (fun _ _ => B1 (a + i) rfl rfl rfl rfl (sl rfl) AM) (KS 20 (fun w' => Mem w (fun k => k = g) [As.blk g 126 (AH Ar.cells l1 ++ rs)] w') ?_))
  obtain ⟨x1, hx1⟩ := CC (l := l1) (i := b + i) AM
  refine HD 13 gkr (fun c a t v w h => by cases t <;> exact h) gkr gkr gkr rfl (AA rfl) rfl rfl M (fun _ M => AU (xs := Ar.cells x1) rfl rfl (BV Ar.len (GS Ar.len (M.blk 0 rfl)) rfl hx1) underlying126 rfl B8) ?_
  obtain ⟨x2, hx2⟩ := CC (l := l1) (i := a + i) AM
  refine HD 19 gkr (fun c a t v w h => by cases t <;> exact h) gkr gkr gkr rfl (AA rfl) rfl rfl M (fun _ M => AU (xs := Ar.cells x2) rfl rfl (BV Ar.len (GS Ar.len (M.blk 0 rfl)) rfl hx2) underlying126 rfl B8) (fo1 20 rfl rfl (B1 (a + i) rfl rfl rfl rfl (sl rfl) AM) (BB 21 none gkr rfl (AA rfl) rfl rfl (fun ρ hρ => C2 126 _ _ rfl g (0 + (a + i) * 5) 126 (AH Ar.cells l1 ++ rs) (Ar.cells x1) (hρ _ _ rfl) (hρ _ _ rfl) (M.blk 0 rfl) B8 (JT Ar.len CX rfl) (Ar.cells_one _)) ?_))
  rintro _ w2 ⟨rfl, hbw2, hfw2⟩
  rw [IJ Ar.len CX] at hbw2
  replace M : Mem w (fun k => k = g) (List.set _ 0 (As.blk g 126 (AH Ar.cells (l1.set (a + i) x1) ++ rs))) w2 := M.putB 0 rfl hbw2 hfw2
  refine ⟨fun h => absurd h BU, fo1 22 rfl rfl (B1 (b + i) rfl rfl rfl rfl (sl rfl) AM) (BB 23 none gkr rfl (AA rfl) rfl rfl (fun ρ hρ => C2 126 _ _ rfl g (0 + (b + i) * 5) 126 (AH Ar.cells (l1.set (a + i) x1) ++ rs) (Ar.cells x2) (hρ _ _ rfl) (hρ _ _ rfl) (M.blk 0 rfl) B8 (JT Ar.len CX rfl) (Ar.cells_one _)) ?_)⟩
  rintro _ w3 ⟨rfl, hbw3, hfw3⟩
  rw [IJ Ar.len CX] at hbw3
  replace M : Mem w (fun k => k = g) (List.set _ 0 (As.blk g 126 (AH Ar.cells ((l1.set (a + i) x1).set (b + i) x2) ++ rs))) w3 := M.putB 0 rfl hbw3 hfw3
  refine ⟨fun h => absurd h BU, fdn (AE (AD (AK (yb rfl (ya rfl (BO rfl rfl rfl AM) (yb rfl (AR (fag ⟨i + 1, ((l1.set (a + i) x1).set (b + i) x2), rfl, M, ?_, ?_, ?_, rfl⟩))))))))⟩
  ·omega
  ·first
    | assumption
    | (refine (DX ?_ ?_).trans (by assumption) <;> assumption)
  ·first
    | assumption
    | (simp; assumption)
 ·exact BF (AG (AG (AV (CM (Or.inr rfl) rfl ⟨rfl, l1, hp_l1, M.blk 0 rfl, M.fr⟩))))
theorem pW (g n cp : Nat) (fc : FuncId) (rs : List Value) (a m b : Nat) (hm : n ≤ 1000000000) (l : List Ar) (w : World) (hb : Blk w g 126 (AH Ar.cells l ++ rs)) (hn : l.length = n) (ham : a < m) (hmb : m < b) (hbn : b ≤ n) :
 Calls prog 192 #[.slice (some ⟨g, 0, none⟩) n cp, AJ ((a : Nat) : Int), AJ ((m : Nat) : Int), AJ ((b : Nat) : Int), .func (.func fc) #[] #[]] w fun e w' => e = .returned (.tuple #[]) ∧ ∃ l' : List Ar, l'.Perm l ∧ Blk w' g 126 (AH Ar.cells l' ++ rs) ∧ Fr (fun k => k = g) w w' := by
 have hp_l : l.Perm l := List.Perm.refl _
 have hn_l : l.length = n := hn
 refine BE (vs := [_, _, _, _, _]) func192 rfl ntmps192 rfl ?_
 have M : Mem w (fun k => k = g) [As.blk g 126 (AH Ar.cells l ++ rs)] w := Mem.one hb
 refine AQ rfl (yb rfl (ya rfl (EV (a := m) (b := a) rfl rfl rfl AM AM) (AY rfl (AQ rfl (yb rfl (ya rfl (EV (a := b) (b := m) rfl rfl rfl AM AM) (AY rfl ?_)))))))
 refine AF (AS (flp [4, 2, 0] (fun ze e wr mz => ∃ (i : Nat) (j : Nat) (l1 : List Ar), e = (10, AJ ((i : Nat) : Int)) :: (11, AJ ((j : Nat) : Int)) :: ze ∧ Mem w (fun k => k = g) [As.blk g 126 (AH Ar.cells l1 ++ rs)] wr ∧ (0 < i ∧ 0 < j ∧ i ≤ m - a ∧ j ≤ b - m) ∧ (l1.Perm l) ∧ (l1.length = n) ∧ mz = i + j) ⟨(m - a), (b - m), l, rfl, M, by omega, hp_l, hn_l, rfl⟩ ?_))
 rintro _ w1 _ ⟨i, j, l1, rfl, M, hij, hp_l1, hn_l1, rfl⟩
 refine AF (AQ rfl (yb rfl (DA rfl rfl (nq (AL rfl (fun h20 => ?_) (fun h20 => ?_))))))
 ·have h20p := (odf (CK h20))
  refine AI (AD (AS (AQ rfl (yb rfl (LD rfl rfl (nq (AL rfl (fun h23 => ?_) (fun h23 => ?_))))))))
  ·have h23p := (odt h23)
   refine AQ rfl (BM rfl rfl (ya rfl (EV (a := m) (b := i) rfl rfl rfl AM AM) (BM rfl rfl (yb rfl (cl 31 rfl (AP rfl rfl call217) (UF g n cp fc rs (m - i) m j hm l1 _ (M.blk 0 rfl) hn_l1 AM AM) ?_)))))
   rintro _ w2 ⟨rfl, l1, hqw2, hbw2, hfw2⟩
   refine ⟨_, rfl, ?_⟩
   have M := M.putB 0 rfl hbw2 hfw2
   have hp_l1 : l1.Perm l := hqw2.trans hp_l1
   have hn_l1 : l1.length = n := hqw2.length_eq.trans hn_l1
   refine nq (AK (BM rfl rfl (ya rfl (EV (a := i) (b := j) rfl rfl rfl AM AM) (yb rfl (AR (AE (fag ⟨i - j, j, l1, rfl, M, ?_, ?_, ?_, rfl⟩)))))))
   ·omega
   ·first
     | assumption
     | (refine (DX ?_ ?_).trans (by assumption) <;> assumption)
   ·first
     | assumption
     | (simp; assumption)
  ·have h23p := (odf h23)
   refine AQ rfl (BM rfl rfl (ya rfl (EV (a := m) (b := i) rfl rfl rfl AM AM) (BM rfl rfl (ya rfl (BO rfl rfl rfl AM) (yb rfl (ya rfl (EV (a := m + j) (b := i) rfl rfl rfl AM AM) (BM rfl rfl (cl 46 rfl (AP rfl rfl call217) (UF g n cp fc rs (m - i) ((m + j) - i) i hm l1 _ (M.blk 0 rfl) hn_l1 AM AM) ?_))))))))
   rintro _ w3 ⟨rfl, l2, hqw3, hbw3, hfw3⟩
   refine ⟨_, rfl, ?_⟩
   have M := M.putB 0 rfl hbw3 hfw3
   have hp_l2 : l2.Perm l := hqw3.trans hp_l1
   have hn_l2 : l2.length = n := hqw3.length_eq.trans hn_l1
   refine nq (AK (BM rfl rfl (ya rfl (EV (a := j) (b := i) rfl rfl rfl AM AM) (yb rfl (AR (AE (fag ⟨i, j - i, l2, rfl, M, ?_, ?_, ?_, rfl⟩)))))))
   ·omega
   ·first
     | assumption
     | (refine (DX ?_ ?_).trans (by assumption) <;> assumption)
   ·first
     | assumption
     | (simp; assumption)
 ·have h20p := (odt (BQ h20))
  refine BF (AG (AG (AV (AD (AK (BM rfl rfl (yb rfl (ya rfl (EV (a := m) (b := i) rfl rfl rfl AM AM) (BM rfl rfl (yb rfl (cl 57 rfl (AP rfl rfl call217) (UF g n cp fc rs (m - i) m i hm l1 _ (M.blk 0 rfl) hn_l1 AM AM) ?_)))))))))))
  rintro _ w4 ⟨rfl, l3, hqw4, hbw4, hfw4⟩
  refine ⟨_, rfl, ?_⟩
  have M := M.putB 0 rfl hbw4 hfw4
  have hp_l3 : l3.Perm l := hqw4.trans hp_l1
  have hn_l3 : l3.length = n := hqw4.length_eq.trans hn_l1
  exact AR (CM (Or.inr rfl) rfl ⟨rfl, l3, hp_l3, M.blk 0 rfl, M.fr⟩)
theorem fA (g n cp : Nat) (fc : FuncId) (fq : Ar → Ar → Int) (rs : List Value) (a m b : Nat) (hfc : ∀ (ar : Array Value) (w : World), (callFunc fc ar).run prog w = .ok (.enter fc ar) w) (hcmp : ∀ (a b : Ar) (w : World), Calls prog fc #[.agg a.cells.toArray, .agg b.cells.toArray] w (CG w (AJ (fq a b)))) (hm : n ≤ 1000000000) (l : List Ar) (w : World) (hb : Blk w g 126 (AH Ar.cells l ++ rs)) (hn : l.length = n) (ham : a < m) (hmb : m < b) (hbn : b ≤ n) (hrec : ∀ (a' m' b' : Nat) (l : List Ar) (w : World), a' < m' → m' < b' → b' ≤ n → b' - a' < b - a → Blk w g 126 (AH Ar.cells l ++ rs) → l.length = n → Calls prog 172 #[.slice (some ⟨g, 0, none⟩) n cp, AJ ((a' : Nat) : Int), AJ ((m' : Nat) : Int), AJ ((b' : Nat) : Int), .func (.func fc) #[] #[]] w fun e w' => e = .returned (.tuple #[]) ∧ ∃ l' : List Ar, l'.Perm l ∧ Blk w' g 126 (AH Ar.cells l' ++ rs) ∧ Fr (fun k => k = g) w w') :
 Calls prog 172 #[.slice (some ⟨g, 0, none⟩) n cp, AJ ((a : Nat) : Int), AJ ((m : Nat) : Int), AJ ((b : Nat) : Int), .func (.func fc) #[] #[]] w fun e w' => e = .returned (.tuple #[]) ∧ ∃ l' : List Ar, l'.Perm l ∧ Blk w' g 126 (AH Ar.cells l' ++ rs) ∧ Fr (fun k => k = g) w w' := by
 have hp_l : l.Perm l := List.Perm.refl _
 have hn_l : l.length = n := hn
 refine BE (vs := [_, _, _, _, _]) func172 rfl ntmps172 rfl ?_
 have M : Mem w (fun k => k = g) [As.blk g 126 (AH Ar.cells l ++ rs)] w := Mem.one hb
 refine AF (AQ rfl (yb rfl (ya rfl (EV (a := m) (b := a) rfl rfl rfl AM AM) (CN rfl rfl (nq (AL rfl (fun h28 => ?_) (fun h28 => ?_)))))))
 ·have h28p := (odt h28)
  refine AQ rfl (AY rfl (AQ rfl (AY rfl (AF (AS (flp [4, 1, 0] (fun ze e wr mz => ∃ (i : Nat) (j : Nat) (l1 : List Ar), e = (10, AJ ((i : Nat) : Int)) :: (11, AJ ((j : Nat) : Int)) :: ze ∧ Mem w (fun k => k = g) [As.blk g 126 (AH Ar.cells l1 ++ rs)] wr ∧ (m ≤ i ∧ i ≤ j ∧ j ≤ b) ∧ (l1.Perm l) ∧ (l1.length = n) ∧ mz = j - i) ⟨m, b, l, rfl, M, by omega, hp_l, hn_l, rfl⟩ ?_))))))
  rintro _ w1 _ ⟨i, j, l1, rfl, M, hij, hp_l1, hn_l1, rfl⟩
  refine AF (AQ rfl (yb rfl (CF rfl rfl (nq (AL rfl (fun h33 => ?_) (fun h33 => ?_))))))
  ·have h33p := (odt h33)
   refine AI (AD (AS (AQ rfl (yb rfl (ya rfl (BO rfl rfl rfl AM) (ya rfl (QM rfl rfl underlying3 underlying225 AM) (ya rfl (U5 (a := i + j) rfl rfl rfl) (ya rfl (QN rfl rfl underlying225 underlying3 AM) (AY rfl (AF (DP 9 CZ gkr ?_)))))))))))
   have M := M.drew
   refine sb rfl (sb rfl (sb rfl (sa rfl (B1 ((i + j) / 2) rfl rfl rfl rfl (sl rfl) AM) ?_)))
   obtain ⟨x1, hx1⟩ := CC (l := l1) (i := (i + j) / 2) AM
   refine sa rfl (AU (xs := Ar.cells x1) rfl rfl (BV Ar.len (GS Ar.len (M.blk 0 rfl)) rfl hx1) underlying126 rfl B8) (sb rfl (sb rfl (sa rfl (B1 a rfl rfl rfl rfl (sl rfl) AM) ?_)))
   obtain ⟨x2, hx2⟩ := CC (l := l1) (i := a) AM
   refine sa rfl (AU (xs := Ar.cells x2) rfl rfl (BV Ar.len (GS Ar.len (M.blk 0 rfl)) rfl hx2) underlying126 rfl B8) (CS (OZ M 49 rfl (BX rfl rfl rfl hfc) (hcmp _ _ _) fun w2 M => CF rfl rfl (nq (AL rfl (fun h50 => ?_) (fun h50 => ?_)))))
   ·have h50p := (odt h50)
    refine AK (yb rfl (ya rfl (BO rfl rfl rfl AM) (yb rfl (AR (AE (fag ⟨((i + j) / 2) + 1, j, l1, rfl, M, ?_, ?_, ?_, rfl⟩))))))
    ·omega
    ·first
      | assumption
      | (refine (DX ?_ ?_).trans (by assumption) <;> assumption)
    ·first
      | assumption
      | (simp; assumption)
   ·have h50p := (odf h50)
    refine AK (BM rfl rfl (AR (AE (fag ⟨i, (i + j) / 2, l1, rfl, M, ?_, ?_, ?_, rfl⟩))))
    ·omega
    ·first
      | assumption
      | (refine (DX ?_ ?_).trans (by assumption) <;> assumption)
    ·first
      | assumption
      | (simp; assumption)
  ·have h33p := (odf h33)
   refine BF (AG (AG (AV (AD (AF (AQ rfl (AY rfl (AS (flp [10, 0] (fun ze e wr mz => ∃ (k : Nat) (l2 : List Ar), e = (13, AJ ((k : Nat) : Int)) :: ze ∧ Mem w (fun k => k = g) [As.blk g 126 (AH Ar.cells l2 ++ rs)] wr ∧ (a ≤ k ∧ k ≤ i) ∧ (l2.Perm l) ∧ (l2.length = n) ∧ mz = i - k) ⟨a, l1, rfl, M, by omega, hp_l1, hn_l1, rfl⟩ ?_)))))))))
   rintro _ w3 _ ⟨k, l2, rfl, M, hk, hp_l2, hn_l2, rfl⟩
   refine AF (AQ rfl (yb rfl (ya rfl (EV (a := i) (b := 1) rfl rfl rfl AM AM) (CF rfl rfl (nq (AL rfl (fun h58 => ?_) (fun h58 => ?_)))))))
   ·have h58p := (odt h58)
    refine AI (AD (AF (AS (CV 18 (fun _ => True) CZ ?_))))
    have M := M.drew
    refine oa 0 18 rfl rfl trivial (fun _ _ => yp rfl) (oa 1 18 rfl rfl trivial (fun _ _ => yp rfl) (oa 2 18 rfl rfl trivial (fun _ _ => yp rfl) (oa 3 18 rfl rfl trivial (fun _ _ => yp rfl) (oa 4 18 rfl rfl trivial (fun _ _ => BO rfl rfl rfl AM) (oa 5 18 rfl rfl trivial (fun _ _ => yp rfl) (oa 6 18 rfl rfl trivial (fun _ _ => yp rfl) (oa 7 18 rfl rfl trivial (fun _ _ => BO rfl rfl rfl AM) (oa 8 18 rfl rfl trivial (fun _ _ => B1 (k + 1) rfl rfl rfl rfl (sl rfl) AM) (oa 10 18 rfl rfl trivial (fun _ _ => yp rfl) (oa 11 18 rfl rfl trivial (fun _ _ => yp rfl) (oa 12 18 rfl rfl trivial (fun _ _ => B1 k rfl rfl rfl rfl (sl rfl) AM) (KS 14 (fun w' => Mem w (fun k => k = g) [As.blk g 126 (AH Ar.cells l2 ++ rs)] w') ?_))))))))))))
    obtain ⟨x3, hx3⟩ := CC (l := l2) (i := k + 1) AM
    refine HD 9 gkr (fun c a t v w h => by cases t <;> exact h) gkr gkr gkr rfl (AA rfl) rfl rfl M (fun _ M => AU (xs := Ar.cells x3) rfl rfl (BV Ar.len (GS Ar.len (M.blk 0 rfl)) rfl hx3) underlying126 rfl B8) ?_
    obtain ⟨x4, hx4⟩ := CC (l := l2) (i := k) AM
    refine HD 13 gkr (fun c a t v w h => by cases t <;> exact h) gkr gkr gkr rfl (AA rfl) rfl rfl M (fun _ M => AU (xs := Ar.cells x4) rfl rfl (BV Ar.len (GS Ar.len (M.blk 0 rfl)) rfl hx4) underlying126 rfl B8) (fo1 14 rfl rfl (B1 k rfl rfl rfl rfl (sl rfl) AM) (BB 15 none gkr rfl (AA rfl) rfl rfl (fun ρ hρ => C2 126 _ _ rfl g (0 + k * 5) 126 (AH Ar.cells l2 ++ rs) (Ar.cells x3) (hρ _ _ rfl) (hρ _ _ rfl) (M.blk 0 rfl) B8 (JT Ar.len CX rfl) (Ar.cells_one _)) ?_))
    rintro _ w4 ⟨rfl, hbw4, hfw4⟩
    rw [IJ Ar.len CX] at hbw4
    replace M : Mem w (fun k => k = g) (List.set _ 0 (As.blk g 126 (AH Ar.cells (l2.set k x3) ++ rs))) w4 := M.putB 0 rfl hbw4 hfw4
    refine ⟨fun h => absurd h BU, fo1 16 rfl rfl (B1 (k + 1) rfl rfl rfl rfl (sl rfl) AM) (BB 17 none gkr rfl (AA rfl) rfl rfl (fun ρ hρ => C2 126 _ _ rfl g (0 + (k + 1) * 5) 126 (AH Ar.cells (l2.set k x3) ++ rs) (Ar.cells x4) (hρ _ _ rfl) (hρ _ _ rfl) (M.blk 0 rfl) B8 (JT Ar.len CX rfl) (Ar.cells_one _)) ?_)⟩
    rintro _ w5 ⟨rfl, hbw5, hfw5⟩
    rw [IJ Ar.len CX] at hbw5
    replace M : Mem w (fun k => k = g) (List.set _ 0 (As.blk g 126 (AH Ar.cells ((l2.set k x3).set (k + 1) x4) ++ rs))) w5 := M.putB 0 rfl hbw5 hfw5
    refine ⟨fun h => absurd h BU, fdn (AE (AD (AK (yb rfl (ya rfl (BO rfl rfl rfl AM) (yb rfl (AR (fag ⟨k + 1, ((l2.set k x3).set (k + 1) x4), rfl, M, ?_, ?_, ?_, rfl⟩))))))))⟩
    ·omega
    ·first
      | assumption
      | (refine (DX ?_ ?_).trans (by assumption) <;> assumption)
    ·first
      | assumption
      | (simp; assumption)
   ·exact BF (AG (AG (AV (AD (BN (AB (CM (Or.inl rfl) rfl ⟨rfl, l2, hp_l2, M.blk 0 rfl, M.fr⟩)))))))
 ·have h28p := (odf h28)
  refine AI (AD (AF (AQ rfl (yb rfl (ya rfl (EV (a := b) (b := m) rfl rfl rfl AM AM) (CN rfl rfl (nq (AL rfl (fun h80 => ?_) (fun h80 => ?_)))))))))
  ·have h80p := (odt h80)
   refine AQ rfl (AY rfl (AQ rfl (AY rfl (AF (AS (flp [4, 2, 0] (fun ze e wr mz => ∃ (i : Nat) (j : Nat) (l1 : List Ar), e = (14, AJ ((i : Nat) : Int)) :: (15, AJ ((j : Nat) : Int)) :: ze ∧ Mem w (fun k => k = g) [As.blk g 126 (AH Ar.cells l1 ++ rs)] wr ∧ (a ≤ i ∧ i ≤ j ∧ j ≤ m) ∧ (l1.Perm l) ∧ (l1.length = n) ∧ mz = j - i) ⟨a, m, l, rfl, M, by omega, hp_l, hn_l, rfl⟩ ?_))))))
   rintro _ w6 _ ⟨i, j, l1, rfl, M, hij, hp_l1, hn_l1, rfl⟩
   refine AF (AQ rfl (yb rfl (CF rfl rfl (nq (AL rfl (fun h85 => ?_) (fun h85 => ?_))))))
   ·have h85p := (odt h85)
    refine AI (AD (AS (AQ rfl (yb rfl (ya rfl (BO rfl rfl rfl AM) (ya rfl (QM rfl rfl underlying3 underlying225 AM) (ya rfl (U5 (a := i + j) rfl rfl rfl) (ya rfl (QN rfl rfl underlying225 underlying3 AM) (AY rfl (AF (DP 9 CZ gkr ?_)))))))))))
    have M := M.drew
    refine sb rfl (sb rfl (sb rfl (sa rfl (B1 m rfl rfl rfl rfl (sl rfl) AM) ?_)))
    obtain ⟨x5, hx5⟩ := CC (l := l1) (i := m) AM
    refine sa rfl (AU (xs := Ar.cells x5) rfl rfl (BV Ar.len (GS Ar.len (M.blk 0 rfl)) rfl hx5) underlying126 rfl B8) (sb rfl (sb rfl (sa rfl (B1 ((i + j) / 2) rfl rfl rfl rfl (sl rfl) AM) ?_)))
    obtain ⟨x6, hx6⟩ := CC (l := l1) (i := (i + j) / 2) AM
    refine sa rfl (AU (xs := Ar.cells x6) rfl rfl (BV Ar.len (GS Ar.len (M.blk 0 rfl)) rfl hx6) underlying126 rfl B8) (CS (OZ M 101 rfl (BX rfl rfl rfl hfc) (hcmp _ _ _) fun w7 M => CF rfl rfl (AY rfl (AL rfl (fun h103 => ?_) (fun h103 => ?_)))))
    ·have h103p := (odf (CK h103))
     refine AK (yb rfl (ya rfl (BO rfl rfl rfl AM) (yb rfl (AR (AE (fag ⟨((i + j) / 2) + 1, j, l1, rfl, M, ?_, ?_, ?_, rfl⟩))))))
     ·omega
     ·first
       | assumption
       | (refine (DX ?_ ?_).trans (by assumption) <;> assumption)
     ·first
       | assumption
       | (simp; assumption)
    ·have h103p := (odt (BQ h103))
     refine AK (BM rfl rfl (AR (AE (fag ⟨i, (i + j) / 2, l1, rfl, M, ?_, ?_, ?_, rfl⟩))))
     ·omega
     ·first
       | assumption
       | (refine (DX ?_ ?_).trans (by assumption) <;> assumption)
     ·first
       | assumption
       | (simp; assumption)
   ·have h85p := (odf h85)
    refine BF (AG (AG (AV (AD (AF (AQ rfl (AY rfl (AS (flp [14, 0] (fun ze e wr mz => ∃ (k : Nat) (l2 : List Ar), e = (17, AJ ((k : Nat) : Int)) :: ze ∧ Mem w (fun k => k = g) [As.blk g 126 (AH Ar.cells l2 ++ rs)] wr ∧ (i ≤ k ∧ k ≤ m) ∧ (l2.Perm l) ∧ (l2.length = n) ∧ mz = k - i) ⟨m, l1, rfl, M, by omega, hp_l1, hn_l1, rfl⟩ ?_)))))))))
    rintro _ w8 _ ⟨k, l2, rfl, M, hk, hp_l2, hn_l2, rfl⟩
    refine AF (AQ rfl (yb rfl (LD rfl rfl (nq (AL rfl (fun h110 => ?_) (fun h110 => ?_))))))
    ·have h110p := (odt h110)
     refine AI (AD (AF (AS (CV 18 (fun _ => True) CZ ?_))))
     have M := M.drew
     refine oa 0 18 rfl rfl trivial (fun _ _ => yp rfl) (oa 1 18 rfl rfl trivial (fun _ _ => yp rfl) (oa 2 18 rfl rfl trivial (fun _ _ => yp rfl) (oa 3 18 rfl rfl trivial (fun _ _ => yp rfl) (oa 4 18 rfl rfl trivial (fun _ _ => EV (a := k) (b := 1) rfl rfl rfl AM AM) (oa 5 18 rfl rfl trivial (fun _ _ => yp rfl) (oa 6 18 rfl rfl trivial (fun _ _ => yp rfl) (oa 7 18 rfl rfl trivial (fun _ _ => EV (a := k) (b := 1) rfl rfl rfl AM AM) (oa 8 18 rfl rfl trivial (fun _ _ => B1 (k - 1) rfl rfl rfl rfl (sl rfl) AM) (oa 10 18 rfl rfl trivial (fun _ _ => yp rfl) (oa 11 18 rfl rfl trivial (fun _ _ => yp rfl) (oa 12 18 rfl rfl trivial (fun _ _ => B1 k rfl rfl rfl rfl (sl rfl) AM) (KS 14 (fun w' => Mem w (fun k => k = g) [As.blk g 126 (AH Ar.cells l2 ++ rs)] w') ?_))))))))))))
     obtain ⟨x7, hx7⟩ := CC (l := l2) (i := k - 1) AM
     refine HD 9 gkr (fun c a t v w h => by cases t <;> exact h) gkr gkr gkr rfl (AA rfl) rfl rfl M (fun _ M => AU (xs := Ar.cells x7) rfl rfl (BV Ar.len (GS Ar.len (M.blk 0 rfl)) rfl hx7) underlying126 rfl B8) ?_
     obtain ⟨x8, hx8⟩ := CC (l := l2) (i := k) AM
     refine HD 13 gkr (fun c a t v w h => by cases t <;> exact h) gkr gkr gkr rfl (AA rfl) rfl rfl M (fun _ M => AU (xs := Ar.cells x8) rfl rfl (BV Ar.len (GS Ar.len (M.blk 0 rfl)) rfl hx8) underlying126 rfl B8) (fo1 14 rfl rfl (B1 k rfl rfl rfl rfl (sl rfl) AM) (BB 15 none gkr rfl (AA rfl) rfl rfl (fun ρ hρ => C2 126 _ _ rfl g (0 + k * 5) 126 (AH Ar.cells l2 ++ rs) (Ar.cells x7) (hρ _ _ rfl) (hρ _ _ rfl) (M.blk 0 rfl) B8 (JT Ar.len CX rfl) (Ar.cells_one _)) ?_))
     rintro _ w9 ⟨rfl, hbw9, hfw9⟩
     rw [IJ Ar.len CX] at hbw9
     replace M : Mem w (fun k => k = g) (List.set _ 0 (As.blk g 126 (AH Ar.cells (l2.set k x7) ++ rs))) w9 := M.putB 0 rfl hbw9 hfw9
     refine ⟨fun h => absurd h BU, fo1 16 rfl rfl (B1 (k - 1) rfl rfl rfl rfl (sl rfl) AM) (BB 17 none gkr rfl (AA rfl) rfl rfl (fun ρ hρ => C2 126 _ _ rfl g (0 + (k - 1) * 5) 126 (AH Ar.cells (l2.set k x7) ++ rs) (Ar.cells x8) (hρ _ _ rfl) (hρ _ _ rfl) (M.blk 0 rfl) B8 (JT Ar.len CX rfl) (Ar.cells_one _)) ?_)⟩
     rintro _ w10 ⟨rfl, hbw10, hfw10⟩
     rw [IJ Ar.len CX] at hbw10
     replace M : Mem w (fun k => k = g) (List.set _ 0 (As.blk g 126 (AH Ar.cells ((l2.set k x7).set (k - 1) x8) ++ rs))) w10 := M.putB 0 rfl hbw10 hfw10
     refine ⟨fun h => absurd h BU, fdn (AE (AD (AK (yb rfl (ya rfl (EV (a := k) (b := 1) rfl rfl rfl AM AM) (yb rfl (AR (fag ⟨k - 1, ((l2.set k x7).set (k - 1) x8), rfl, M, ?_, ?_, ?_, rfl⟩))))))))⟩
     ·omega
     ·first
       | assumption
       | (refine (DX ?_ ?_).trans (by assumption) <;> assumption)
     ·first
       | assumption
       | (simp; assumption)
    ·exact BF (AG (AG (AV (AD (BN (AB (CM (Or.inl rfl) rfl ⟨rfl, l2, hp_l2, M.blk 0 rfl, M.fr⟩)))))))
  ·have h80p := (odf h80)
   refine AI (AD (AQ rfl (yb rfl (ya rfl (BO rfl rfl rfl AM) (ya rfl (QM rfl rfl underlying3 underlying225 AM) (ya rfl (U5 (a := a + b) rfl rfl rfl) (ya rfl (QN rfl rfl underlying225 underlying3 AM) (AY rfl (AQ rfl ?_)))))))))
   refine yb rfl (ya rfl (BO rfl rfl rfl AM) (AY rfl (AQ rfl (AY rfl (AF (AQ rfl (yb rfl ?_)))))))
   refine LD rfl rfl (nq (JP [(0, .slice (some ⟨g, 0, none⟩) n cp), (1, AJ ((a : Nat) : Int)), (2, AJ ((m : Nat) : Int)), (3, AJ ((b : Nat) : Int)), (4, .func (.func fc) #[] #[]), (18, AJ (((a + b) / 2 : Nat) : Int)), (19, AJ ((((a + b) / 2) + m : Nat) : Int)), (20, AJ ((if (decide ((((a + b) / 2 : Nat) : Int) < ((m : Nat) : Int))) then (((a + b) / 2) + m) - b else a : Nat) : Int)), (21, AJ ((if (decide ((((a + b) / 2 : Nat) : Int) < ((m : Nat) : Int))) then (a + b) / 2 else m : Nat) : Int))] (fun w' => Mem w (fun k => k = g) [As.blk g 126 (AH Ar.cells l ++ rs)] w') ?_ (fun k140 => ?_)))
   ·intro w11 M
    refine AD (AQ rfl (ya rfl (EV (a := ((a + b) / 2) + m) (b := 1) rfl rfl rfl AM AM) (AY rfl (AF (AS ?_)))))
    have hst : ((a + b) / 2 < m ∧ (if (decide ((((a + b) / 2 : Nat) : Int) < ((m : Nat) : Int))) then (((a + b) / 2) + m) - b else a) + b = (a + b) / 2 + m ∧ (if (decide ((((a + b) / 2 : Nat) : Int) < ((m : Nat) : Int))) then (a + b) / 2 else m) = (a + b) / 2) ∨ (m ≤ (a + b) / 2 ∧ (if (decide ((((a + b) / 2 : Nat) : Int) < ((m : Nat) : Int))) then (((a + b) / 2) + m) - b else a) = a ∧ (if (decide ((((a + b) / 2 : Nat) : Int) < ((m : Nat) : Int))) then (a + b) / 2 else m) = m) := by
     split
     ·rename_i hq
      have := odt hq
      left; omega
     ·rename_i hq
      have := odf (Bool.eq_false_iff.2 hq)
      right; omega
    obtain ⟨s0, hs0⟩ : ∃ s0 : Nat, s0 = if (decide ((((a + b) / 2 : Nat) : Int) < ((m : Nat) : Int))) then (((a + b) / 2) + m) - b else a := ⟨_, rfl⟩
    obtain ⟨r0, hr0⟩ : ∃ r0 : Nat, r0 = if (decide ((((a + b) / 2 : Nat) : Int) < ((m : Nat) : Int))) then (a + b) / 2 else m := ⟨_, rfl⟩
    rw [← hs0, ← hr0] at hst
    refine flp [22, 19, 18, 4, 3, 2, 1, 0] (fun ze e wr mz => ∃ (s : Nat) (r : Nat) (l1 : List Ar), e = (20, AJ ((s : Nat) : Int)) :: (21, AJ ((r : Nat) : Int)) :: ze ∧ Mem w (fun k => k = g) [As.blk g 126 (AH Ar.cells l1 ++ rs)] wr ∧ (s0 ≤ s ∧ s ≤ r ∧ r ≤ r0) ∧ (l1.Perm l) ∧ (l1.length = n) ∧ mz = r - s) ⟨(if (decide ((((a + b) / 2 : Nat) : Int) < ((m : Nat) : Int))) then (((a + b) / 2) + m) - b else a), (if (decide ((((a + b) / 2 : Nat) : Int) < ((m : Nat) : Int))) then (a + b) / 2 else m), l, rfl, M, by rw [← hs0, ← hr0]; omega, hp_l, hn_l, rfl⟩ ?_
    rintro _ w12 _ ⟨s, r, l1, rfl, M, hsr, hp_l1, hn_l1, rfl⟩
    refine AF (AQ rfl (yb rfl (CF rfl rfl (nq (AL rfl (fun h151 => ?_) (fun h151 => ?_))))))
    ·have h151p := (odt h151)
     refine AI (AD (AS (AQ rfl (yb rfl (ya rfl (BO rfl rfl rfl AM) (ya rfl (QM rfl rfl underlying3 underlying225 AM) (ya rfl (U5 (a := s + r) rfl rfl rfl) (ya rfl (QN rfl rfl underlying225 underlying3 AM) (AY rfl (AF (DP 11 CZ gkr ?_)))))))))))
     have M := M.drew
     iterate 4 refine sb rfl ?_
     refine sa rfl (EV (a := (((a + b) / 2) + m) - 1) (b := (s + r) / 2) rfl rfl rfl AM AM) (sa rfl (B1 (((((a + b) / 2) + m) - 1) - ((s + r) / 2)) rfl rfl rfl rfl (sl rfl) AM) ?_)
     obtain ⟨x9, hx9⟩ := CC (l := l1) (i := ((((a + b) / 2) + m) - 1) - ((s + r) / 2)) AM
     refine sa rfl (AU (xs := Ar.cells x9) rfl rfl (BV Ar.len (GS Ar.len (M.blk 0 rfl)) rfl hx9) underlying126 rfl B8) (sb rfl (sb rfl (sa rfl (B1 ((s + r) / 2) rfl rfl rfl rfl (sl rfl) AM) ?_)))
     obtain ⟨x10, hx10⟩ := CC (l := l1) (i := (s + r) / 2) AM
     refine sa rfl (AU (xs := Ar.cells x10) rfl rfl (BV Ar.len (GS Ar.len (M.blk 0 rfl)) rfl hx10) underlying126 rfl B8) (CS (OZ M 169 rfl (BX rfl rfl rfl hfc) (hcmp _ _ _) fun w13 M => CF rfl rfl (AY rfl (AL rfl (fun h171 => ?_) (fun h171 => ?_)))))
     ·have h171p := (odf (CK h171))
      refine AK (yb rfl (ya rfl (BO rfl rfl rfl AM) (yb rfl (AR (AE (fag ⟨((s + r) / 2) + 1, r, l1, rfl, M, ?_, ?_, ?_, rfl⟩))))))
      ·omega
      ·first
        | assumption
        | (refine (DX ?_ ?_).trans (by assumption) <;> assumption)
      ·first
        | assumption
        | (simp; assumption)
     ·have h171p := (odt (BQ h171))
      refine AK (BM rfl rfl (AR (AE (fag ⟨s, (s + r) / 2, l1, rfl, M, ?_, ?_, ?_, rfl⟩))))
      ·omega
      ·first
        | assumption
        | (refine (DX ?_ ?_).trans (by assumption) <;> assumption)
      ·first
        | assumption
        | (simp; assumption)
    ·have h151p := (odf h151)
     refine BF (AG (AG (AV (AD (AQ rfl (yb rfl (ya rfl (EV (a := ((a + b) / 2) + m) (b := s) rfl rfl rfl AM AM) (AY rfl (AF (srg ?_))))))))))
     refine BM rfl rfl (CF rfl rfl (yb rfl (DI 4 [(0, .slice (some ⟨g, 0, none⟩) n cp), (1, AJ ((a : Nat) : Int)), (2, AJ ((m : Nat) : Int)), (3, AJ ((b : Nat) : Int)), (4, .func (.func fc) #[] #[]), (18, AJ (((a + b) / 2 : Nat) : Int)), (20, AJ ((s : Nat) : Int)), (24, AJ (((((a + b) / 2) + m) - s : Nat) : Int)), (185, .bool ((decide (((s : Nat) : Int) < ((m : Nat) : Int))) && (decide (((m : Nat) : Int) < (((((a + b) / 2) + m) - s : Nat) : Int)))))] (fun w' => Mem w (fun k => k = g) [As.blk g 126 (AH Ar.cells l1 ++ rs)] w') ?_ (fun k181 => ?_))))
     ·intro w14 M
      refine nq (AL rfl (fun h185 => ?_) (fun h185 => ?_))
      ·have h185p := (And.intro (odt (CL h185).1) (odt (CL h185).2))
       refine AK ?_
       iterate 5 refine yb rfl ?_
       refine cl 191 rfl (AP rfl rfl call192) (pW g n cp fc rs s m ((((a + b) / 2) + m) - s) hm l1 _ (M.blk 0 rfl) hn_l1 AM AM AM) ?_
       rintro _ w15 ⟨rfl, l11, hqw15, hbw15, hfw15⟩
       refine ⟨_, rfl, ?_⟩
       have M := M.putB 0 rfl hbw15 hfw15
       have hp_l11 : l11.Perm l := hqw15.trans hp_l1
       have hn_l11 : l11.length = n := hqw15.length_eq.trans hn_l1
       refine nq (AF (AQ rfl (yb rfl (CF rfl rfl (yb rfl (DI 4 [(0, .slice (some ⟨g, 0, none⟩) n cp), (1, AJ ((a : Nat) : Int)), (3, AJ ((b : Nat) : Int)), (4, .func (.func fc) #[] #[]), (18, AJ (((a + b) / 2 : Nat) : Int)), (20, AJ ((s : Nat) : Int)), (24, AJ (((((a + b) / 2) + m) - s : Nat) : Int)), (199, .bool ((decide (((a : Nat) : Int) < ((s : Nat) : Int))) && (decide (((s : Nat) : Int) < (((a + b) / 2 : Nat) : Int)))))] (fun w' => Mem w (fun k => k = g) [As.blk g 126 (AH Ar.cells l11 ++ rs)] w') ?_ (fun k195 => ?_)))))))
       ·intro w16 M
        refine nq (AL rfl (fun h199 => ?_) (fun h199 => ?_))
        ·have h199p := (And.intro (odt (CL h199).1) (odt (CL h199).2))
         refine AK ?_
         iterate 5 refine yb rfl ?_
         refine cl 205 rfl (AP rfl rfl call172) (hrec a s ((a + b) / 2) l11 _ AM AM AM AM (M.blk 0 rfl) hn_l11) ?_
         rintro _ w17 ⟨rfl, l12, hqw17, hbw17, hfw17⟩
         refine ⟨_, rfl, ?_⟩
         have M := M.putB 0 rfl hbw17 hfw17
         have hp_l12 : l12.Perm l := hqw17.trans hp_l11
         have hn_l12 : l12.length = n := hqw17.length_eq.trans hn_l11
         refine nq (AQ rfl (yb rfl (CF rfl rfl (yb rfl (DI 4 [(0, .slice (some ⟨g, 0, none⟩) n cp), (3, AJ ((b : Nat) : Int)), (4, .func (.func fc) #[] #[]), (18, AJ (((a + b) / 2 : Nat) : Int)), (24, AJ (((((a + b) / 2) + m) - s : Nat) : Int)), (213, .bool ((decide ((((a + b) / 2 : Nat) : Int) < (((((a + b) / 2) + m) - s : Nat) : Int))) && (decide ((((((a + b) / 2) + m) - s : Nat) : Int) < ((b : Nat) : Int)))))] (fun w' => Mem w (fun k => k = g) [As.blk g 126 (AH Ar.cells l12 ++ rs)] w') ?_ (fun k209 => ?_))))))
         ·intro w18 M
          refine nq (AL rfl (fun h213 => ?_) (fun h213 => ?_))
          ·have h213p := (And.intro (odt (CL h213).1) (odt (CL h213).2))
           refine AK ?_
           iterate 5 refine yb rfl ?_
           refine cl 219 rfl (AP rfl rfl call172) (hrec ((a + b) / 2) ((((a + b) / 2) + m) - s) b l12 _ AM AM AM AM (M.blk 0 rfl) hn_l12) ?_
           rintro _ w19 ⟨rfl, l13, hqw19, hbw19, hfw19⟩
           refine ⟨_, rfl, ?_⟩
           have M := M.putB 0 rfl hbw19 hfw19
           have hp_l13 : l13.Perm l := hqw19.trans hp_l12
           have hn_l13 : l13.length = n := hqw19.length_eq.trans hn_l12
           exact AR (CM (Or.inr rfl) rfl ⟨rfl, l13, hp_l13, M.blk 0 rfl, M.fr⟩)
          ·have h213p := ((DT h213).imp (fun z => (odf z)) (fun z => (odf z)))
           exact AI (CM (Or.inr rfl) rfl ⟨rfl, l12, hp_l12, M.blk 0 rfl, M.fr⟩)
         refine AO (d := 209) rfl (fun h209 => ?_) (fun h209 => ?_)
         ·exact gyq rfl (gyq rfl (yd rfl (ED rfl rfl rfl) (yb rfl (k209 _ _ M ⟨rfl, rfl, rfl, rfl, rfl, (by rw [h209]; rfl), trivial⟩))))
         ·exact yo rfl (yo rfl (yo rfl (yb rfl (k209 _ _ M ⟨rfl, rfl, rfl, rfl, rfl, (by rw [h209]; rfl), trivial⟩))))
        ·have h199p := ((DT h199).imp (fun z => (odf z)) (fun z => (odf z)))
         refine AI (AD (AQ rfl (yb rfl (CF rfl rfl (yb rfl (DI 4 [(0, .slice (some ⟨g, 0, none⟩) n cp), (3, AJ ((b : Nat) : Int)), (4, .func (.func fc) #[] #[]), (18, AJ (((a + b) / 2 : Nat) : Int)), (24, AJ (((((a + b) / 2) + m) - s : Nat) : Int)), (213, .bool ((decide ((((a + b) / 2 : Nat) : Int) < (((((a + b) / 2) + m) - s : Nat) : Int))) && (decide ((((((a + b) / 2) + m) - s : Nat) : Int) < ((b : Nat) : Int)))))] (fun w' => Mem w (fun k => k = g) [As.blk g 126 (AH Ar.cells l11 ++ rs)] w') ?_ (fun k209 => ?_)))))))
         ·intro w20 M
          refine nq (AL rfl (fun h213 => ?_) (fun h213 => ?_))
          ·have h213p := (And.intro (odt (CL h213).1) (odt (CL h213).2))
           refine AK ?_
           iterate 5 refine yb rfl ?_
           refine cl 219 rfl (AP rfl rfl call172) (hrec ((a + b) / 2) ((((a + b) / 2) + m) - s) b l11 _ AM AM AM AM (M.blk 0 rfl) hn_l11) ?_
           rintro _ w21 ⟨rfl, l14, hqw21, hbw21, hfw21⟩
           refine ⟨_, rfl, ?_⟩
           have M := M.putB 0 rfl hbw21 hfw21
           have hp_l14 : l14.Perm l := hqw21.trans hp_l11
           have hn_l14 : l14.length = n := hqw21.length_eq.trans hn_l11
           exact AR (CM (Or.inr rfl) rfl ⟨rfl, l14, hp_l14, M.blk 0 rfl, M.fr⟩)
          ·have h213p := ((DT h213).imp (fun z => (odf z)) (fun z => (odf z)))
           exact AI (CM (Or.inr rfl) rfl ⟨rfl, l11, hp_l11, M.blk 0 rfl, M.fr⟩)
         refine AO (d := 209) rfl (fun h209 => ?_) (fun h209 => ?_)
         ·exact gyq rfl (gyq rfl (yd rfl (ED rfl rfl rfl) (yb rfl (k209 _ _ M ⟨rfl, rfl, rfl, rfl, rfl, (by rw [h209]; rfl), trivial⟩))))
         ·exact yo rfl (yo rfl (yo rfl (yb rfl (k209 _ _ M ⟨rfl, rfl, rfl, rfl, rfl, (by rw [h209]; rfl), trivial⟩))))
       refine AO (d := 195) rfl (fun h195 => ?_) (fun h195 => ?_)
       ·exact gyq rfl (gyq rfl (yd rfl (ED rfl rfl rfl) (yb rfl (k195 _ _ M ⟨rfl, rfl, rfl, rfl, rfl, rfl, rfl, (by rw [h195]; rfl), trivial⟩))))
       ·exact yo rfl (yo rfl (yo rfl (yb rfl (k195 _ _ M ⟨rfl, rfl, rfl, rfl, rfl, rfl, rfl, (by rw [h195]; rfl), trivial⟩))))
      ·have h185p := ((DT h185).imp (fun z => (odf z)) (fun z => (odf z)))
       refine AI (AD (AF (AQ rfl (yb rfl (CF rfl rfl (yb rfl (DI 4 [(0, .slice (some ⟨g, 0, none⟩) n cp), (1, AJ ((a : Nat) : Int)), (3, AJ ((b : Nat) : Int)), (4, .func (.func fc) #[] #[]), (18, AJ (((a + b) / 2 : Nat) : Int)), (20, AJ ((s : Nat) : Int)), (24, AJ (((((a + b) / 2) + m) - s : Nat) : Int)), (199, .bool ((decide (((a : Nat) : Int) < ((s : Nat) : Int))) && (decide (((s : Nat) : Int) < (((a + b) / 2 : Nat) : Int)))))] (fun w' => Mem w (fun k => k = g) [As.blk g 126 (AH Ar.cells l1 ++ rs)] w') ?_ (fun k195 => ?_))))))))
       ·intro w22 M
        refine nq (AL rfl (fun h199 => ?_) (fun h199 => ?_))
        ·have h199p := (And.intro (odt (CL h199).1) (odt (CL h199).2))
         refine AK ?_
         iterate 5 refine yb rfl ?_
         refine cl 205 rfl (AP rfl rfl call172) (hrec a s ((a + b) / 2) l1 _ AM AM AM AM (M.blk 0 rfl) hn_l1) ?_
         rintro _ w23 ⟨rfl, l15, hqw23, hbw23, hfw23⟩
         refine ⟨_, rfl, ?_⟩
         have M := M.putB 0 rfl hbw23 hfw23
         have hp_l15 : l15.Perm l := hqw23.trans hp_l1
         have hn_l15 : l15.length = n := hqw23.length_eq.trans hn_l1
         refine nq (AQ rfl (yb rfl (CF rfl rfl (yb rfl (DI 4 [(0, .slice (some ⟨g, 0, none⟩) n cp), (3, AJ ((b : Nat) : Int)), (4, .func (.func fc) #[] #[]), (18, AJ (((a + b) / 2 : Nat) : Int)), (24, AJ (((((a + b) / 2) + m) - s : Nat) : Int)), (213, .bool ((decide ((((a + b) / 2 : Nat) : Int) < (((((a + b) / 2) + m) - s : Nat) : Int))) && (decide ((((((a + b) / 2) + m) - s : Nat) : Int) < ((b : Nat) : Int)))))] (fun w' => Mem w (fun k => k = g) [As.blk g 126 (AH Ar.cells l15 ++ rs)] w') ?_ (fun k209 => ?_))))))
         ·intro w24 M
          refine nq (AL rfl (fun h213 => ?_) (fun h213 => ?_))
          ·have h213p := (And.intro (odt (CL h213).1) (odt (CL h213).2))
           refine AK ?_
           iterate 5 refine yb rfl ?_
           refine cl 219 rfl (AP rfl rfl call172) (hrec ((a + b) / 2) ((((a + b) / 2) + m) - s) b l15 _ AM AM AM AM (M.blk 0 rfl) hn_l15) ?_
           rintro _ w25 ⟨rfl, l16, hqw25, hbw25, hfw25⟩
           refine ⟨_, rfl, ?_⟩
           have M := M.putB 0 rfl hbw25 hfw25
           have hp_l16 : l16.Perm l := hqw25.trans hp_l15
           have hn_l16 : l16.length = n := hqw25.length_eq.trans hn_l15
           exact AR (CM (Or.inr rfl) rfl ⟨rfl, l16, hp_l16, M.blk 0 rfl, M.fr⟩)
          ·have h213p := ((DT h213).imp (fun z => (odf z)) (fun z => (odf z)))
           exact AI (CM (Or.inr rfl) rfl ⟨rfl, l15, hp_l15, M.blk 0 rfl, M.fr⟩)
         refine AO (d := 209) rfl (fun h209 => ?_) (fun h209 => ?_)
         ·exact gyq rfl (gyq rfl (yd rfl (ED rfl rfl rfl) (yb rfl (k209 _ _ M ⟨rfl, rfl, rfl, rfl, rfl, (by rw [h209]; rfl), trivial⟩))))
         ·exact yo rfl (yo rfl (yo rfl (yb rfl (k209 _ _ M ⟨rfl, rfl, rfl, rfl, rfl, (by rw [h209]; rfl), trivial⟩))))
        ·have h199p := ((DT h199).imp (fun z => (odf z)) (fun z => (odf z)))
         refine AI (AD (AQ rfl (yb rfl (CF rfl rfl (yb rfl (DI 4 [(0, .slice (some ⟨g, 0, none⟩) n cp), (3, AJ ((b : Nat) : Int)), (4, .func (.func fc) #[] #[]), (18, AJ (((a + b) / 2 : Nat) : Int)), (24, AJ (((((a + b) / 2) + m) - s : Nat) : Int)), (213, .bool ((decide ((((a + b) / 2 : Nat) : Int) < (((((a + b) / 2) + m) - s : Nat) : Int))) && (decide ((((((a + b) / 2) + m) - s : Nat) : Int) < ((b : Nat) : Int)))))] (fun w' => Mem w (fun k => k = g) [As.blk g 126 (AH Ar.cells l1 ++ rs)] w') ?_ (fun k209 => ?_)))))))
         ·intro w26 M
          refine nq (AL rfl (fun h213 => ?_) (fun h213 => ?_))
          ·have h213p := (And.intro (odt (CL h213).1) (odt (CL h213).2))
           refine AK ?_
           iterate 5 refine yb rfl ?_
           refine cl 219 rfl (AP rfl rfl call172) (hrec ((a + b) / 2) ((((a + b) / 2) + m) - s) b l1 _ AM AM AM AM (M.blk 0 rfl) hn_l1) ?_
           rintro _ w27 ⟨rfl, l17, hqw27, hbw27, hfw27⟩
           refine ⟨_, rfl, ?_⟩
           have M := M.putB 0 rfl hbw27 hfw27
           have hp_l17 : l17.Perm l := hqw27.trans hp_l1
           have hn_l17 : l17.length = n := hqw27.length_eq.trans hn_l1
           exact AR (CM (Or.inr rfl) rfl ⟨rfl, l17, hp_l17, M.blk 0 rfl, M.fr⟩)
          ·have h213p := ((DT h213).imp (fun z => (odf z)) (fun z => (odf z)))
           exact AI (CM (Or.inr rfl) rfl ⟨rfl, l1, hp_l1, M.blk 0 rfl, M.fr⟩)
         refine AO (d := 209) rfl (fun h209 => ?_) (fun h209 => ?_)
         ·exact gyq rfl (gyq rfl (yd rfl (ED rfl rfl rfl) (yb rfl (k209 _ _ M ⟨rfl, rfl, rfl, rfl, rfl, (by rw [h209]; rfl), trivial⟩))))
         ·exact yo rfl (yo rfl (yo rfl (yb rfl (k209 _ _ M ⟨rfl, rfl, rfl, rfl, rfl, (by rw [h209]; rfl), trivial⟩))))
       refine AO (d := 195) rfl (fun h195 => ?_) (fun h195 => ?_)
       ·exact gyq rfl (gyq rfl (yd rfl (ED rfl rfl rfl) (yb rfl (k195 _ _ M ⟨rfl, rfl, rfl, rfl, rfl, rfl, rfl, (by rw [h195]; rfl), trivial⟩))))
       ·exact yo rfl (yo rfl (yo rfl (yb rfl (k195 _ _ M ⟨rfl, rfl, rfl, rfl, rfl, rfl, rfl, (by rw [h195]; rfl), trivial⟩))))
     refine AO (d := 181) rfl (fun h181 => ?_) (fun h181 => ?_)
     ·exact gyq rfl (gyq rfl (yd rfl (ED rfl rfl rfl) (yb rfl (k181 _ _ M ⟨rfl, rfl, rfl, rfl, rfl, rfl, rfl, rfl, (by rw [h181]; rfl), trivial⟩))))
     ·exact yo rfl (yo rfl (yo rfl (yb rfl (k181 _ _ M ⟨rfl, rfl, rfl, rfl, rfl, rfl, rfl, rfl, (by rw [h181]; rfl), trivial⟩))))
   refine AL rfl (fun h140 => ?_) (fun h140 => ?_)
   ·have h140p := (odt h140)
    exact AQ rfl (yb rfl (ya rfl (EV (a := ((a + b) / 2) + m) (b := b) rfl rfl rfl AM AM) (AY rfl (AK (BM rfl rfl (AR (k140 _ _ M ⟨rfl, rfl, rfl, rfl, rfl, rfl, rfl, (by rw [h140]; rfl), (by rw [h140]; rfl), trivial⟩)))))))
   ·exact AQ rfl (AY rfl (AK (BM rfl rfl (AR (k140 _ _ M ⟨rfl, rfl, rfl, rfl, rfl, rfl, rfl, (by rw [h140]; rfl), (by rw [h140]; rfl), trivial⟩)))))
theorem fB (g n cp : Nat) (fc : FuncId) (fq : Ar → Ar → Int) (rs : List Value) (hfc : ∀ (ar : Array Value) (w : World), (callFunc fc ar).run prog w = .ok (.enter fc ar) w) (hcmp : ∀ (a b : Ar) (w : World), Calls prog fc #[.agg a.cells.toArray, .agg b.cells.toArray] w (CG w (AJ (fq a b)))) (hm : n ≤ 1000000000) : ∀ (d a m b : Nat) (l : List Ar) (w : World), b - a ≤ d → a < m → m < b → b ≤ n → Blk w g 126 (AH Ar.cells l ++ rs) → l.length = n → Calls prog 172 #[.slice (some ⟨g, 0, none⟩) n cp, AJ ((a : Nat) : Int), AJ ((m : Nat) : Int), AJ ((b : Nat) : Int), .func (.func fc) #[] #[]] w fun e w' => e = .returned (.tuple #[]) ∧ ∃ l' : List Ar, l'.Perm l ∧ Blk w' g 126 (AH Ar.cells l' ++ rs) ∧ Fr (fun k => k = g) w w' := by
 intro d
 induction d with
 | zero => intro a m b l w hd h1 h2; omega
 | succ d ih => exact fun a m b l w hd h1 h2 h3 hb hn => fA g n cp fc fq rs a m b hfc hcmp hm l w hb hn h1 h2 h3 fun a' m' b' l w q1 q2 q3 q4 hb hn => ih a' m' b' l w AM q1 q2 q3 hb hn
theorem fM (g n cp : Nat) (fc : FuncId) (fq : Ar → Ar → Int) (rs : List Value) (hfc : ∀ (ar : Array Value) (w : World), (callFunc fc ar).run prog w = .ok (.enter fc ar) w) (hcmp : ∀ (a b : Ar) (w : World), Calls prog fc #[.agg a.cells.toArray, .agg b.cells.toArray] w (CG w (AJ (fq a b)))) (hm : n ≤ 1000000000) (l : List Ar) (w : World) (hb : Blk w g 126 (AH Ar.cells l ++ rs)) (hn : l.length = n) :
 Calls prog 151 #[.slice (some ⟨g, 0, none⟩) n cp, AJ ((n : Nat) : Int), .func (.func fc) #[] #[]] w fun e w' => e = .returned (.tuple #[]) ∧ ∃ l' : List Ar, l'.Perm l ∧ Blk w' g 126 (AH Ar.cells l' ++ rs) ∧ Fr (fun k => k = g) w w' := by
 have hp_l : l.Perm l := List.Perm.refl _
 have hn_l : l.length = n := hn
 refine BE (vs := [_, _, _]) func151 rfl ntmps151 rfl ?_
 have M : Mem w (fun k => k = g) [As.blk g 126 (AH Ar.cells l ++ rs)] w := Mem.one hb
 refine srg (AY rfl (AQ rfl (yb rfl (AY rfl (AF (AS (flp [6, 2, 1, 0] (fun ze e wr mz => ∃ (x : Nat) (l1 : List Ar), e = (7, AJ ((x : Nat) : Int)) :: (8, AJ ((x + 20 : Nat) : Int)) :: ze ∧ Mem w (fun k => k = g) [As.blk g 126 (AH Ar.cells l1 ++ rs)] wr ∧ (x ≤ n) ∧ (l1.Perm l) ∧ (l1.length = n) ∧ mz = n - x) ⟨0, l, rfl, M, Nat.zero_le _, hp_l, hn_l, rfl⟩ ?_)))))))
 rintro _ w1 _ ⟨x, l1, rfl, M, hx, hp_l1, hn_l1, rfl⟩
 refine AF (AQ rfl (yb rfl (RW rfl rfl (nq (AL rfl (fun h13 => ?_) (fun h13 => ?_))))))
 ·have h13p := (odt h13)
  refine AI (AD (AS (srg ?_)))
  iterate 4 refine yb rfl ?_
  refine cl 18 rfl (AP rfl rfl call171) (ZW g n cp fc fq rs x (x + 20) hfc hcmp hm l1 _ (M.blk 0 rfl) hn_l1 AM AM) ?_
  rintro _ w2 ⟨rfl, l1, hqw2, hbw2, hfw2⟩
  refine ⟨_, rfl, ?_⟩
  have M := M.putB 0 rfl hbw2 hfw2
  have hp_l1 : l1.Perm l := hqw2.trans hp_l1
  have hn_l1 : l1.length = n := hqw2.length_eq.trans hn_l1
  refine nq (AQ rfl (AY rfl (AK (BM rfl rfl (ya rfl (BO rfl rfl rfl AM) (yb rfl (AR (AE (fag ⟨x + 20, l1, rfl, M, ?_, ?_, ?_, rfl⟩)))))))))
  ·omega
  ·first
    | assumption
    | (refine (DX ?_ ?_).trans (by assumption) <;> assumption)
  ·first
    | assumption
    | (simp; assumption)
 ·have h13p := (odf h13)
  refine BF (AG (AG (AV (AD (srg ?_)))))
  iterate 4 refine yb rfl ?_
  refine cl 27 rfl (AP rfl rfl call171) (ZW g n cp fc fq rs x n hfc hcmp hm l1 _ (M.blk 0 rfl) hn_l1 AM AM) ?_
  rintro _ w3 ⟨rfl, l2, hqw3, hbw3, hfw3⟩
  refine ⟨_, rfl, ?_⟩
  have M := M.putB 0 rfl hbw3 hfw3
  have hp_l2 : l2.Perm l := hqw3.trans hp_l1
  have hn_l2 : l2.length = n := hqw3.length_eq.trans hn_l1
  refine nq (AS (flp [2, 1, 0] (fun ze e wr mz => ∃ (z : Nat) (l2 : List Ar), e = (6, AJ ((z : Nat) : Int)) :: ze ∧ Mem w (fun k => k = g) [As.blk g 126 (AH Ar.cells l2 ++ rs)] wr ∧ (20 ≤ z ∧ z ≤ 2 * n + 20) ∧ (l2.Perm l) ∧ (l2.length = n) ∧ mz = n - z) ⟨20, l2, rfl, M, by omega, hp_l2, hn_l2, rfl⟩ ?_))
  rintro _ w4 _ ⟨z, l2, rfl, M, hz, hp_l2, hn_l2, rfl⟩
  refine AF (AQ rfl (yb rfl (CF rfl rfl (nq (AL rfl (fun h30 => ?_) (fun h30 => ?_))))))
  ·have h30p := (odt h30)
   refine AI (AD (AS (AQ rfl (ya rfl (U6 (a := 2) (b := z) rfl rfl rfl AM) (yb rfl (AY rfl (AF (AS (flp [6, 2, 1, 0] (fun ze e wr mz => ∃ (y : Nat) (y8 : Nat) (l3 : List Ar), e = (7, AJ ((y : Nat) : Int)) :: (8, AJ ((y8 : Nat) : Int)) :: ze ∧ Mem w (fun k => k = g) [As.blk g 126 (AH Ar.cells l3 ++ rs)] wr ∧ (y ≤ n) ∧ (y8 = y + 2 * z) ∧ (l3.Perm l) ∧ (l3.length = n) ∧ mz = n - y) ⟨0, (2 * z), l2, rfl, M, Nat.zero_le _, by omega, hp_l2, hn_l2, rfl⟩ ?_)))))))))
   rintro _ w5 _ ⟨y, y8, l3, rfl, M, hy, hy8, hp_l3, hn_l3, rfl⟩
   refine AF (AQ rfl (yb rfl (RW rfl rfl (nq (AL rfl (fun h35 => ?_) (fun h35 => ?_))))))
   ·have h35p := (odt h35)
    refine AI (AD (AS (srg ?_)))
    iterate 4 refine yb rfl ?_
    refine ya rfl (BO rfl rfl rfl AM) (BM rfl rfl (cl 43 rfl (AP rfl rfl call172) (fB g n cp fc fq rs hfc hcmp hm n y (y + z) y8 l3 _ AM AM AM AM (M.blk 0 rfl) hn_l3) ?_))
    rintro _ w6 ⟨rfl, l3, hqw6, hbw6, hfw6⟩
    refine ⟨_, rfl, ?_⟩
    have M := M.putB 0 rfl hbw6 hfw6
    have hp_l3 : l3.Perm l := hqw6.trans hp_l3
    have hn_l3 : l3.length = n := hqw6.length_eq.trans hn_l3
    refine nq (AQ rfl (AY rfl (AK (BM rfl rfl (ya rfl (U6 (a := 2) (b := z) rfl rfl rfl AM) (ya rfl (BO rfl rfl rfl AM) (yb rfl (AR (AE ?_)))))))))
    refine fag ⟨y8, y8 + (2 * z), l3, rfl, M, ?_, ?_, ?_, ?_, rfl⟩
    ·omega
    ·omega
    ·first
      | assumption
      | (refine (DX ?_ ?_).trans (by assumption) <;> assumption)
    ·first
      | assumption
      | (simp; assumption)
   ·have h35p := (odf h35)
    refine BF (AG (AG (AV (AD (AF (AQ rfl (yb rfl (ya rfl (BO rfl rfl rfl AM) (AY rfl (srg ?_))))))))))
    refine BM rfl rfl (CF rfl rfl (nq (AL rfl (fun h54 => ?_) (fun h54 => ?_))))
    ·have h54p := (odt h54)
     refine AK ?_
     iterate 5 refine yb rfl ?_
     refine cl 60 rfl (AP rfl rfl call172) (fB g n cp fc fq rs hfc hcmp hm n y (y + z) n l3 _ AM AM AM AM (M.blk 0 rfl) hn_l3) ?_
     rintro _ w7 ⟨rfl, l4, hqw7, hbw7, hfw7⟩
     refine ⟨_, rfl, ?_⟩
     have M := M.putB 0 rfl hbw7 hfw7
     have hp_l4 : l4.Perm l := hqw7.trans hp_l3
     have hn_l4 : l4.length = n := hqw7.length_eq.trans hn_l3
     refine nq (AK (yb rfl (ya rfl (U6 (a := z) (b := 2) rfl rfl rfl AM) (yb rfl (AR (AE (fag ⟨z * 2, l4, rfl, M, ?_, ?_, ?_, rfl⟩)))))))
     ·omega
     ·first
       | assumption
       | (refine (DX ?_ ?_).trans (by assumption) <;> assumption)
     ·first
       | assumption
       | (simp; assumption)
    ·have h54p := (odf h54)
     refine AI (AD (AK (yb rfl (ya rfl (U6 (a := z) (b := 2) rfl rfl rfl AM) (yb rfl (AR (AE (fag ⟨z * 2, l3, rfl, M, ?_, ?_, ?_, rfl⟩))))))))
     ·omega
     ·first
       | assumption
       | (refine (DX ?_ ?_).trans (by assumption) <;> assumption)
     ·first
       | assumption
       | (simp; assumption)
  ·exact BF (AG (AG (AV (CM (Or.inr rfl) rfl ⟨rfl, l2, hp_l2, M.blk 0 rfl, M.fr⟩))))
theorem Y2 (g n cp : Nat) (fc : FuncId) (fq : Ar → Ar → Int) (rs : List Value) (hfc : ∀ (ar : Array Value) (w : World), (callFunc fc ar).run prog w = .ok (.enter fc ar) w) (hcmp : ∀ (a b : Ar) (w : World), Calls prog fc #[.agg a.cells.toArray, .agg b.cells.toArray] w (CG w (AJ (fq a b)))) (hm : n ≤ 1000000000) (l : List Ar) (w : World) (hb : Blk w g 126 (AH Ar.cells l ++ rs)) (hn : l.length = n) :
 Calls prog 117 #[.slice (some ⟨g, 0, none⟩) n cp, .func (.func fc) #[] #[]] w fun e w' => e = .returned (.tuple #[]) ∧ ∃ l' : List Ar, l'.Perm l ∧ Blk w' g 126 (AH Ar.cells l' ++ rs) ∧ Fr (fun k => k = g) w w' := by
 have hp_l : l.Perm l := List.Perm.refl _
 have hn_l : l.length = n := hn
 refine BE (vs := [_, _]) func117 rfl ntmps117 rfl ?_
 have M : Mem w (fun k => k = g) [As.blk g 126 (AH Ar.cells l ++ rs)] w := Mem.one hb
 refine AK (BM rfl rfl (ya rfl (C3 rfl rfl (sl rfl)) (yb rfl (cl 8 rfl (AP rfl rfl call151) (fM g n cp fc fq rs hfc hcmp hm l _ (M.blk 0 rfl) hn_l) ?_))))
 rintro _ w1 ⟨rfl, l1, hqw1, hbw1, hfw1⟩
 refine ⟨_, rfl, ?_⟩
 have M := M.putB 0 rfl hbw1 hfw1
 have hp_l1 : l1.Perm l := hqw1.trans hp_l
 have hn_l1 : l1.length = n := hqw1.length_eq.trans hn_l
 exact AR (CM (Or.inr rfl) rfl ⟨rfl, l1, hp_l1, M.blk 0 rfl, M.fr⟩)
theorem iW (A : Option Addr) (cp : Nat) (fc : FuncId) (w : World) : Calls prog 171 #[.slice A 0 cp, AJ 0, AJ 0, .func (.func fc) #[] #[]] w (CG w (.tuple #[])) := by
 refine C5 func171 ntmps171 rfl fun M => AQ rfl (ya rfl (BO rfl rfl rfl AM) (AY rfl (AS (G0 (fun e wr mz => e = [(0, .slice A 0 cp), (1, AJ 0), (2, AJ 0), (3, .func (.func fc) #[] #[]), (8, AJ 1)] ∧ Mem w B0 [] wr ∧ mz = 0) ⟨rfl, M, rfl⟩ ⟨rfl, rfl, rfl, rfl, rfl, trivial⟩ ?_))))
 rintro _ w1 _ ⟨rfl, M, rfl⟩
 exact AF (AQ rfl (yb rfl (CF rfl rfl (nq (D8 rfl (BF (AG (AG (AV (CM (Or.inr rfl) rfl ⟨rfl, M.fr⟩))))))))))
theorem bL (A : Option Addr) (cp : Nat) (fc : FuncId) (w : World) : Calls prog 151 #[.slice A 0 cp, AJ 0, .func (.func fc) #[] #[]] w (CG w (.tuple #[])) := by
 refine C5 func151 ntmps151 rfl fun M => srg (AY rfl (AQ rfl (yb rfl (AY rfl (AF (AS (G0 (fun e wr mz => e = [(0, .slice A 0 cp), (1, AJ 0), (2, .func (.func fc) #[] #[]), (6, AJ 20), (7, AJ 0), (8, AJ 20)] ∧ Mem w B0 [] wr ∧ mz = 0) ⟨rfl, M, rfl⟩ ⟨rfl, rfl, rfl, rfl, rfl, rfl, trivial⟩ ?_)))))))
 rintro _ w1 _ ⟨rfl, M, rfl⟩
 refine AF (AQ rfl (yb rfl (RW rfl rfl (nq (D8 rfl (BF (AG (AG (AV (AD (srg ?_)))))))))))
 iterate 4 refine yb rfl ?_
 refine D4 M 27 rfl rfl call171 (iW A cp fc _) fun w2 M => nq (AS (G0 (fun e wr mz => e = [(0, .slice A 0 cp), (1, AJ 0), (2, .func (.func fc) #[] #[]), (6, AJ 20)] ∧ Mem w B0 [] wr ∧ mz = 0) ⟨rfl, M, rfl⟩ ⟨rfl, rfl, rfl, rfl, trivial⟩ ?_))
 rintro _ w3 _ ⟨rfl, M, rfl⟩
 exact AF (AQ rfl (yb rfl (CF rfl rfl (nq (D8 rfl (BF (AG (AG (AV (CM (Or.inr rfl) rfl ⟨rfl, M.fr⟩))))))))))
theorem bM (A : Option Addr) (cp : Nat) (fc : FuncId) (w : World) : Calls prog 117 #[.slice A 0 cp, .func (.func fc) #[] #[]] w (CG w (.tuple #[])) := by
 exact C5 func117 ntmps117 rfl fun M => AK (BM rfl rfl (ya rfl (C3 rfl rfl (sl rfl)) (yb rfl (D4 M 8 rfl rfl call151 (bL A cp fc _) fun w1 M => AR (CM (Or.inr rfl) rfl ⟨rfl, M.fr⟩)))))
theorem fS (base : Nat) (A : Option Addr) (c n : Nat) (fc : FuncId) (fq : Ar → Ar → Int) (l : List Ar) (w : World) (hfc : ∀ (ar : Array Value) (w : World), (callFunc fc ar).run prog w = .ok (.enter fc ar) w) (hcmp : ∀ (a b : Ar) (w : World), Calls prog fc #[.agg a.cells.toArray, .agg b.cells.toArray] w (CG w (AJ (fq a b)))) (hm : n ≤ 1000000000) (hn : l.length = n) (ho : w.ownsRow base 126 5 (.slice A n c) n (AH Ar.cells l)) :
 Calls prog 117 #[.slice A n c, .func (.func fc) #[] #[]] w fun e w' => e = .returned (.tuple #[]) ∧ ∃ l' : List Ar, l'.Perm l ∧ w'.ownsRow base 126 5 (.slice A n c) n (AH Ar.cells l') ∧ Fr (fun k => k ∈ (Value.slice A n c).ownBlock.toList) w w' := by
 rcases ho.2 with ⟨hv, h0⟩ | ⟨g, cap, cur, hv, hg, hb, hnc, hcm, hcs, ht⟩
 ·subst h0
  refine (bM A c fc w).mono ?_
  rintro e w' ⟨rfl, hf⟩
  exact ⟨rfl, l, List.Perm.refl _, (As.own base 126 5 (.slice A 0 c) 0 (AH Ar.cells l)).keep (fun k _ hk => hf.block k hk (fun hh => hh)) ho, Fr.of0 hf⟩
 ·injection hv with e1 _ e3
  subst e1; subst e3
  have hfl : (AH Ar.cells l).length = n * 5 := by rw [J3 Ar.len, hn]
  have hcl : cur.toList = AH Ar.cells l ++ cur.toList.drop (n * 5) := by rw [← ht, List.take_append_drop]
  have hb' : Blk w g 126 (AH Ar.cells l ++ cur.toList.drop (n * 5)) := by rw [← hcl, Blk, Array.toArray_toList]; exact hb
  refine (Y2 g n c fc fq (cur.toList.drop (n * 5)) hfc hcmp hm l w hb' hn).mono ?_
  rintro e w' ⟨rfl, l', hp, hb2, hf⟩
  have hl' : (AH Ar.cells l').length = n * 5 := by rw [J3 Ar.len, hp.length_eq, hn]
  refine ⟨rfl, l', hp, ⟨hl', .inr ⟨g, c, _, rfl, hg, hb2, hnc, hcm, ?_, ?_⟩⟩, hf.mono fun k _ hk => ?_⟩
  ·have := congrArg List.length hcl
   rw [Array.length_toList, List.length_append, hfl] at this
   rw [List.size_toArray, List.length_append, hl', ← hcs]; omega
  ·rw [List.take_left' hl']
  ·subst hk; simp [Value.ownBlock]
end Go.Proofs.YtjaocmocdhckaaaGreatDoor
