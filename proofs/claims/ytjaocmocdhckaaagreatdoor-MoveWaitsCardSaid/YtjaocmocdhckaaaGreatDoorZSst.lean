/- Lemmas that the last text rests on. Condition: each says its own. -/
import Derived.Test.YtjaocmocdhckaaaGreatDoorZSsB
import Derived.Test.YtjaocmocdhckaaaGreatDoorZMw1
set_option maxHeartbeats 16000000
set_option maxRecDepth 100000
namespace Go.Proofs.YtjaocmocdhckaaaGreatDoor
open Go.RowKit
open Tryz
theorem Z8 (g n cp : Nat) (fc : FuncId) (fq : Ar → Ar → Int) (rs : List Value) (a b : Nat) (hfc : ∀ (ar : Array Value) (w : World), (callFunc fc ar).run prog w = .ok (.enter fc ar) w) (hcmp : ∀ (a b : Ar) (w : World), Calls prog fc #[.agg a.cells.toArray, .agg b.cells.toArray] w fun e w' => e = .returned (.int .i64 (fq a b)) ∧ Fr0 w w') (hm : n ≤ 1000000000) (l : List Ar) (w : World) (hb : Blk w g 126 (AK Ar.cells l ++ rs)) (hn : l.length = n) (hab : a ≤ b) (hbn : b ≤ n) :
 Calls prog 171 #[.slice (some ⟨g, 0, none⟩) n cp, .int .i64 ((a : Nat) : Int), .int .i64 ((b : Nat) : Int), .func (.func fc) #[] #[]] w fun e w' => e = .returned (.tuple #[]) ∧ ∃ l' : List Ar, l'.Perm l ∧ Blk w' g 126 (AK Ar.cells l' ++ rs) ∧ Fr (fun k => k = g) w w' := by
 have hp_l : l.Perm l := List.Perm.refl _
 have hn_l : l.length = n := hn
 refine BC (vs := [_, _, _, _]) func171 rfl ntmps171 rfl ?_
 have M : Mem w (fun k => k = g) [As.blk g 126 (AK Ar.cells l ++ rs)] w := Mem.one hb
 refine srg (yb rfl (ya rfl (BF rfl rfl rfl AO) (yb rfl (nq (AR (flp [3, 2, 1, 0] (fun ze e wr mz => ∃ (i : Nat) (l1 : List Ar), e = (8, .int .i64 ((i : Nat) : Int)) :: ze ∧ Mem w (fun k => k = g) [As.blk g 126 (AK Ar.cells l1 ++ rs)] wr ∧ (a + 1 ≤ i ∧ i ≤ b + 1) ∧ (l1.Perm l) ∧ (l1.length = n) ∧ mz = b + 1 - i) ⟨(a + 1), l, rfl, M, ⟨Nat.le_refl _, by omega⟩, hp_l, hn_l, rfl⟩ ?_))))))
 rintro _ w1 _ ⟨i, l1, rfl, M, hi, hp_l1, hn_l1, rfl⟩
 refine AD (AD (AB (yb rfl (yb rfl (CB rfl rfl (AC (AA (AN rfl (fun h14 => ?_) (fun h14 => ?_)))))))))
 ·have h14p := (odt h14)
  refine AL (AA (AD (AR (srg (yb rfl (yb rfl (nq (AR (flp [8, 3, 2, 1, 0] (fun ze e wr mz => ∃ (j : Nat) (l2 : List Ar), e = (9, .int .i64 ((j : Nat) : Int)) :: ze ∧ Mem w (fun k => k = g) [As.blk g 126 (AK Ar.cells l2 ++ rs)] wr ∧ (j ≤ i) ∧ (l2.Perm l) ∧ (l2.length = n) ∧ mz = j + 1) ⟨i, l1, rfl, M, Nat.le_refl _, hp_l1, hn_l1, rfl⟩ ?_)))))))))
  rintro _ w2 _ ⟨j, l2, rfl, M, hj, hp_l2, hn_l2, rfl⟩
  refine AD (AD (DN 14 CU gkr ?_))
  have M := M.drew
  refine sb rfl (sb rfl (sa rfl (G6 rfl rfl rfl) (sb rfl (E7 (d := 21) rfl (fun h21 => ?_) (fun h21 => ?_)))))
  ·have h21p := (odt h21)
   refine gsg rfl (yp rfl) (gsg rfl (yp rfl) (gsg rfl (yp rfl) (gsg rfl (B1 j rfl rfl rfl rfl (sl rfl) AO) ?_)))
   obtain ⟨x1, hx1⟩ := CA (l := l2) (i := j) AO
   refine gsg rfl (AT (xs := Ar.cells x1) rfl rfl (BQ Ar.len (GO Ar.len (M.blk 0 rfl)) rfl hx1) underlying126 rfl B6) (gsg rfl (yp rfl) (gsg rfl (yp rfl) (gsg rfl (EN (a := j) (b := 1) rfl rfl rfl AO AO) (gsg rfl (B1 (j - 1) rfl rfl rfl rfl (sl rfl) AO) ?_))))
   obtain ⟨x2, hx2⟩ := CA (l := l2) (i := j - 1) AO
   refine gsg rfl (AT (xs := Ar.cells x2) rfl rfl (BQ Ar.len (GO Ar.len (M.blk 0 rfl)) rfl hx2) underlying126 rfl B6) (CS (B0 (some 32) (BD rfl rfl rfl) rfl rfl (BV rfl rfl rfl hfc) (hcmp _ _ _) ?_))
   rintro _ w3 ⟨rfl, hfw3⟩
   refine ⟨_, rfl, ?_⟩
   have M := M.step hfw3
   refine yd rfl (E9 rfl rfl rfl) (yb rfl (AC (AA (AN rfl (fun h34 => ?_) (fun h34 => ?_)))))
   ·have h34p := (odt h34)
    refine AL (AA (AD (AR (CO 18 (fun _ => True) CU ?_))))
    have M := M.drew
    refine oa 0 18 rfl rfl trivial (fun _ _ => yp rfl) (oa 1 18 rfl rfl trivial (fun _ _ => yp rfl) (oa 2 18 rfl rfl trivial (fun _ _ => yp rfl) (oa 3 18 rfl rfl trivial (fun _ _ => yp rfl) (oa 4 18 rfl rfl trivial (fun _ _ => EN (a := j) (b := 1) rfl rfl rfl AO AO) (oa 5 18 rfl rfl trivial (fun _ _ => yp rfl) (oa 6 18 rfl rfl trivial (fun _ _ => yp rfl) (oa 7 18 rfl rfl trivial (fun _ _ => EN (a := j) (b := 1) rfl rfl rfl AO AO) (oa 8 18 rfl rfl trivial (fun _ _ => B1 (j - 1) rfl rfl rfl rfl (sl rfl) AO) (oa 10 18 rfl rfl trivial (fun _ _ => yp rfl) (oa 11 18 rfl rfl trivial (fun _ _ => yp rfl) (oa 12 18 rfl rfl trivial (fun _ _ => B1 j rfl rfl rfl rfl (sl rfl) AO) (KC 14 (fun w' => Mem w (fun k => k = g) [As.blk g 126 (AK Ar.cells l2 ++ rs)] w') ?_))))))))))))
    obtain ⟨x3, hx3⟩ := CA (l := l2) (i := j - 1) AO
    refine GW 9 gkr (fun c a t v w h => by cases t <;> exact h) gkr gkr gkr rfl (AF rfl) rfl rfl M (fun _ M => AT (xs := Ar.cells x3) rfl rfl (BQ Ar.len (GO Ar.len (M.blk 0 rfl)) rfl hx3) underlying126 rfl B6) ?_
    obtain ⟨x4, hx4⟩ := CA (l := l2) (i := j) AO
    refine GW 13 gkr (fun c a t v w h => by cases t <;> exact h) gkr gkr gkr rfl (AF rfl) rfl rfl M (fun _ M => AT (xs := Ar.cells x4) rfl rfl (BQ Ar.len (GO Ar.len (M.blk 0 rfl)) rfl hx4) underlying126 rfl B6) (fo1 14 rfl rfl (B1 j rfl rfl rfl rfl (sl rfl) AO) (B7 15 none gkr rfl (AF rfl) rfl rfl (fun ρ hρ => BZ 126 _ _ rfl g (0 + j * 5) 126 (AK Ar.cells l2 ++ rs) (Ar.cells x3) (hρ _ _ rfl) (hρ _ _ rfl) (M.blk 0 rfl) B6 (JC Ar.len (by first | omega | (simp; omega)) rfl) (Ar.cells_one _)) ?_))
    rintro _ w4 ⟨rfl, hbw4, hfw4⟩
    rw [I9 Ar.len (by first | omega | (simp; omega))] at hbw4
    replace M : Mem w (fun k => k = g) (List.set _ 0 (As.blk g 126 (AK Ar.cells (l2.set j x3) ++ rs))) w4 := M.putB 0 rfl hbw4 hfw4
    refine ⟨fun h => absurd h BR, fo1 16 rfl rfl (B1 (j - 1) rfl rfl rfl rfl (sl rfl) AO) (B7 17 none gkr rfl (AF rfl) rfl rfl (fun ρ hρ => BZ 126 _ _ rfl g (0 + (j - 1) * 5) 126 (AK Ar.cells (l2.set j x3) ++ rs) (Ar.cells x4) (hρ _ _ rfl) (hρ _ _ rfl) (M.blk 0 rfl) B6 (JC Ar.len (by first | omega | (simp; omega)) rfl) (Ar.cells_one _)) ?_)⟩
    rintro _ w5 ⟨rfl, hbw5, hfw5⟩
    rw [I9 Ar.len (by first | omega | (simp; omega))] at hbw5
    replace M : Mem w (fun k => k = g) (List.set _ 0 (As.blk g 126 (AK Ar.cells ((l2.set j x3).set (j - 1) x4) ++ rs))) w5 := M.putB 0 rfl hbw5 hfw5
    refine ⟨fun h => absurd h BR, fdn (AH (AA (AB (yb rfl (ya rfl (EN (a := j) (b := 1) rfl rfl rfl AO AO) (yb rfl (AC (fag ⟨j - 1, ((l2.set j x3).set (j - 1) x4), rfl, M, ?_, ?_, ?_, rfl⟩))))))))⟩
    ·omega
    ·first
      | assumption
      | (refine (DR ?_ ?_).trans (by assumption) <;> assumption)
    ·first
      | assumption
      | (simp; assumption)
   ·have h34p := (odf h34)
    refine BG (AJ (AJ (AY (AH (AA (AB (yb rfl (ya rfl (BF rfl rfl rfl AO) (yb rfl (AC (fag ⟨i + 1, l2, rfl, M, ?_, ?_, ?_, rfl⟩)))))))))))
    ·omega
    ·first
      | assumption
      | (refine (DR ?_ ?_).trans (by assumption) <;> assumption)
    ·first
      | assumption
      | (simp; assumption)
  ·have h21p := (odf h21)
   iterate 10 refine E3 rfl rfl rfl rfl rfl rfl ?_
   refine CS (yo rfl (yo rfl (yb rfl (nq (CK rfl (BG (AJ (AJ (AY (AH (AA (AB (yb rfl (ya rfl (BF rfl rfl rfl AO) ?_))))))))))))))
   refine yb rfl (AC (fag ⟨i + 1, l2, rfl, M, ?_, ?_, ?_, rfl⟩))
   ·omega
   ·first
     | assumption
     | (refine (DR ?_ ?_).trans (by assumption) <;> assumption)
   ·first
     | assumption
     | (simp; assumption)
 ·exact BG (AJ (AJ (AY (CG (Or.inr rfl) rfl ⟨rfl, l1, hp_l1, M.blk 0 rfl, M.fr⟩))))
theorem TR (g n cp : Nat) (fc : FuncId) (rs : List Value) (a b d : Nat) (hm : n ≤ 1000000000) (l : List Ar) (w : World) (hb : Blk w g 126 (AK Ar.cells l ++ rs)) (hn : l.length = n) (had : a + d ≤ n) (hbd : b + d ≤ n) :
 Calls prog 217 #[.slice (some ⟨g, 0, none⟩) n cp, .int .i64 ((a : Nat) : Int), .int .i64 ((b : Nat) : Int), .int .i64 ((d : Nat) : Int), .func (.func fc) #[] #[]] w fun e w' => e = .returned (.tuple #[]) ∧ ∃ l' : List Ar, l'.Perm l ∧ Blk w' g 126 (AK Ar.cells l' ++ rs) ∧ Fr (fun k => k = g) w w' := by
 have hp_l : l.Perm l := List.Perm.refl _
 have hn_l : l.length = n := hn
 refine BC (vs := [_, _, _, _, _]) func217 rfl ntmps217 rfl ?_
 have M : Mem w (fun k => k = g) [As.blk g 126 (AK Ar.cells l ++ rs)] w := Mem.one hb
 refine srg (yb rfl (nq (AR (flp [3, 2, 1, 0] (fun ze e wr mz => ∃ (i : Nat) (l1 : List Ar), e = (10, .int .i64 ((i : Nat) : Int)) :: ze ∧ Mem w (fun k => k = g) [As.blk g 126 (AK Ar.cells l1 ++ rs)] wr ∧ (i ≤ d) ∧ (l1.Perm l) ∧ (l1.length = n) ∧ mz = d - i) ⟨0, l, rfl, M, Nat.zero_le _, hp_l, hn_l, rfl⟩ ?_))))
 rintro _ w1 _ ⟨i, l1, rfl, M, hi, hp_l1, hn_l1, rfl⟩
 refine AD (AD (AB (yb rfl (yb rfl (CB rfl rfl (AC (AA (AN rfl (fun h13 => ?_) (fun h13 => ?_)))))))))
 ·have h13p := (odt h13)
  refine AL (AA (AD (AR (CO 24 (fun _ => True) CU ?_))))
  have M := M.drew
  refine oa 0 24 rfl rfl trivial (fun _ _ => yp rfl) (oa 1 24 rfl rfl trivial (fun _ _ => yp rfl) (oa 2 24 rfl rfl trivial (fun _ _ => yp rfl) (oa 3 24 rfl rfl trivial (fun _ _ => BF rfl rfl rfl AO) (oa 4 24 rfl rfl trivial (fun _ _ => yp rfl) (oa 5 24 rfl rfl trivial (fun _ _ => yp rfl) (oa 6 24 rfl rfl trivial (fun _ _ => yp rfl) (oa 7 24 rfl rfl trivial (fun _ _ => BF rfl rfl rfl AO) (oa 8 24 rfl rfl trivial (fun _ _ => yp rfl) (oa 9 24 rfl rfl trivial (fun _ _ => yp rfl) (oa 10 24 rfl rfl trivial (fun _ _ => yp rfl) (oa 11 24 rfl rfl trivial (fun _ _ => BF rfl rfl rfl AO) (oa 12 24 rfl rfl trivial (fun _ _ => B1 (b + i) rfl rfl rfl rfl (sl rfl) AO) (oa 14 24 rfl rfl trivial (fun _ _ => yp rfl) (oa 15 24 rfl rfl trivial (fun _ _ => yp rfl) (oa 16 24 rfl rfl trivial (fun _ _ => yp rfl) ?_)))))))))))))))
  refine oa 17 24 rfl rfl trivial (fun _ _ => BF rfl rfl rfl AO) (oa 18 24 rfl rfl trivial (fun _ _ => B1 (a + i) rfl rfl rfl rfl (sl rfl) AO) (KC 20 (fun w' => Mem w (fun k => k = g) [As.blk g 126 (AK Ar.cells l1 ++ rs)] w') ?_))
  obtain ⟨x1, hx1⟩ := CA (l := l1) (i := b + i) AO
  refine GW 13 gkr (fun c a t v w h => by cases t <;> exact h) gkr gkr gkr rfl (AF rfl) rfl rfl M (fun _ M => AT (xs := Ar.cells x1) rfl rfl (BQ Ar.len (GO Ar.len (M.blk 0 rfl)) rfl hx1) underlying126 rfl B6) ?_
  obtain ⟨x2, hx2⟩ := CA (l := l1) (i := a + i) AO
  refine GW 19 gkr (fun c a t v w h => by cases t <;> exact h) gkr gkr gkr rfl (AF rfl) rfl rfl M (fun _ M => AT (xs := Ar.cells x2) rfl rfl (BQ Ar.len (GO Ar.len (M.blk 0 rfl)) rfl hx2) underlying126 rfl B6) (fo1 20 rfl rfl (B1 (a + i) rfl rfl rfl rfl (sl rfl) AO) (B7 21 none gkr rfl (AF rfl) rfl rfl (fun ρ hρ => BZ 126 _ _ rfl g (0 + (a + i) * 5) 126 (AK Ar.cells l1 ++ rs) (Ar.cells x1) (hρ _ _ rfl) (hρ _ _ rfl) (M.blk 0 rfl) B6 (JC Ar.len (by first | omega | (simp; omega)) rfl) (Ar.cells_one _)) ?_))
  rintro _ w2 ⟨rfl, hbw2, hfw2⟩
  rw [I9 Ar.len (by first | omega | (simp; omega))] at hbw2
  replace M : Mem w (fun k => k = g) (List.set _ 0 (As.blk g 126 (AK Ar.cells (l1.set (a + i) x1) ++ rs))) w2 := M.putB 0 rfl hbw2 hfw2
  refine ⟨fun h => absurd h BR, fo1 22 rfl rfl (B1 (b + i) rfl rfl rfl rfl (sl rfl) AO) (B7 23 none gkr rfl (AF rfl) rfl rfl (fun ρ hρ => BZ 126 _ _ rfl g (0 + (b + i) * 5) 126 (AK Ar.cells (l1.set (a + i) x1) ++ rs) (Ar.cells x2) (hρ _ _ rfl) (hρ _ _ rfl) (M.blk 0 rfl) B6 (JC Ar.len (by first | omega | (simp; omega)) rfl) (Ar.cells_one _)) ?_)⟩
  rintro _ w3 ⟨rfl, hbw3, hfw3⟩
  rw [I9 Ar.len (by first | omega | (simp; omega))] at hbw3
  replace M : Mem w (fun k => k = g) (List.set _ 0 (As.blk g 126 (AK Ar.cells ((l1.set (a + i) x1).set (b + i) x2) ++ rs))) w3 := M.putB 0 rfl hbw3 hfw3
  refine ⟨fun h => absurd h BR, fdn (AH (AA (AB (yb rfl (ya rfl (BF rfl rfl rfl AO) (yb rfl (AC (fag ⟨i + 1, ((l1.set (a + i) x1).set (b + i) x2), rfl, M, ?_, ?_, ?_, rfl⟩))))))))⟩
  ·omega
  ·first
    | assumption
    | (refine (DR ?_ ?_).trans (by assumption) <;> assumption)
  ·first
    | assumption
    | (simp; assumption)
 ·exact BG (AJ (AJ (AY (CG (Or.inr rfl) rfl ⟨rfl, l1, hp_l1, M.blk 0 rfl, M.fr⟩))))
theorem oN (g n cp : Nat) (fc : FuncId) (rs : List Value) (a m b : Nat) (hm : n ≤ 1000000000) (l : List Ar) (w : World) (hb : Blk w g 126 (AK Ar.cells l ++ rs)) (hn : l.length = n) (ham : a < m) (hmb : m < b) (hbn : b ≤ n) :
 Calls prog 192 #[.slice (some ⟨g, 0, none⟩) n cp, .int .i64 ((a : Nat) : Int), .int .i64 ((m : Nat) : Int), .int .i64 ((b : Nat) : Int), .func (.func fc) #[] #[]] w fun e w' => e = .returned (.tuple #[]) ∧ ∃ l' : List Ar, l'.Perm l ∧ Blk w' g 126 (AK Ar.cells l' ++ rs) ∧ Fr (fun k => k = g) w w' := by
 have hp_l : l.Perm l := List.Perm.refl _
 have hn_l : l.length = n := hn
 refine BC (vs := [_, _, _, _, _]) func192 rfl ntmps192 rfl ?_
 have M : Mem w (fun k => k = g) [As.blk g 126 (AK Ar.cells l ++ rs)] w := Mem.one hb
 refine srg (yb rfl (yb rfl (ya rfl (EN (a := m) (b := a) rfl rfl rfl AO AO) (yb rfl (nq (srg (yb rfl (yb rfl (ya rfl (EN (a := b) (b := m) rfl rfl rfl AO AO) (yb rfl (nq ?_)))))))))))
 refine AD (AR (flp [4, 2, 0] (fun ze e wr mz => ∃ (i : Nat) (j : Nat) (l1 : List Ar), e = (10, .int .i64 ((i : Nat) : Int)) :: (11, .int .i64 ((j : Nat) : Int)) :: ze ∧ Mem w (fun k => k = g) [As.blk g 126 (AK Ar.cells l1 ++ rs)] wr ∧ (0 < i ∧ 0 < j ∧ i ≤ m - a ∧ j ≤ b - m) ∧ (l1.Perm l) ∧ (l1.length = n) ∧ mz = i + j) ⟨(m - a), (b - m), l, rfl, M, by omega, hp_l, hn_l, rfl⟩ ?_))
 rintro _ w1 _ ⟨i, j, l1, rfl, M, hij, hp_l1, hn_l1, rfl⟩
 refine AD (AD (AB (yb rfl (yb rfl (D4 rfl rfl (AC (AA (AN rfl (fun h20 => ?_) (fun h20 => ?_)))))))))
 ·have h20p := (odf (CE h20))
  refine AL (AA (AR (AD (AB (yb rfl (yb rfl (LM rfl rfl (AC (AA (AN rfl (fun h23 => ?_) (fun h23 => ?_)))))))))))
  ·have h23p := (odt h23)
   refine srg (yb rfl (yb rfl (yb rfl (ya rfl (EN (a := m) (b := i) rfl rfl rfl AO AO) (yb rfl (yb rfl (yb rfl (cl 31 rfl (AQ rfl rfl call217) (TR g n cp fc rs (m - i) m j hm l1 _ (M.blk 0 rfl) hn_l1 AO AO) ?_))))))))
   rintro _ w2 ⟨rfl, l1, hqw2, hbw2, hfw2⟩
   refine ⟨_, rfl, ?_⟩
   have M := M.putB 0 rfl hbw2 hfw2
   have hp_l1 : l1.Perm l := hqw2.trans hp_l1
   have hn_l1 : l1.length = n := hqw2.length_eq.trans hn_l1
   refine AC (AA (AB (yb rfl (yb rfl (ya rfl (EN (a := i) (b := j) rfl rfl rfl AO AO) (yb rfl (AC (AH (fag ⟨i - j, j, l1, rfl, M, ?_, ?_, ?_, rfl⟩)))))))))
   ·omega
   ·first
     | assumption
     | (refine (DR ?_ ?_).trans (by assumption) <;> assumption)
   ·first
     | assumption
     | (simp; assumption)
  ·have h23p := (odf h23)
   refine srg (yb rfl (yb rfl (yb rfl (ya rfl (EN (a := m) (b := i) rfl rfl rfl AO AO) (yb rfl (yb rfl (ya rfl (BF rfl rfl rfl AO) (yb rfl (ya rfl (EN (a := m + j) (b := i) rfl rfl rfl AO AO) (yb rfl (yb rfl (cl 46 rfl (AQ rfl rfl call217) (TR g n cp fc rs (m - i) ((m + j) - i) i hm l1 _ (M.blk 0 rfl) hn_l1 AO AO) ?_))))))))))))
   rintro _ w3 ⟨rfl, l2, hqw3, hbw3, hfw3⟩
   refine ⟨_, rfl, ?_⟩
   have M := M.putB 0 rfl hbw3 hfw3
   have hp_l2 : l2.Perm l := hqw3.trans hp_l1
   have hn_l2 : l2.length = n := hqw3.length_eq.trans hn_l1
   refine AC (AA (AB (yb rfl (yb rfl (ya rfl (EN (a := j) (b := i) rfl rfl rfl AO AO) (yb rfl (AC (AH (fag ⟨i, j - i, l2, rfl, M, ?_, ?_, ?_, rfl⟩)))))))))
   ·omega
   ·first
     | assumption
     | (refine (DR ?_ ?_).trans (by assumption) <;> assumption)
   ·first
     | assumption
     | (simp; assumption)
 ·have h20p := (odt (BM h20))
  refine BG (AJ (AJ (AY (AA (AB (yb rfl (yb rfl (yb rfl (ya rfl (EN (a := m) (b := i) rfl rfl rfl AO AO) (yb rfl (yb rfl (yb rfl (cl 57 rfl (AQ rfl rfl call217) (TR g n cp fc rs (m - i) m i hm l1 _ (M.blk 0 rfl) hn_l1 AO AO) ?_)))))))))))))
  rintro _ w4 ⟨rfl, l3, hqw4, hbw4, hfw4⟩
  refine ⟨_, rfl, ?_⟩
  have M := M.putB 0 rfl hbw4 hfw4
  have hp_l3 : l3.Perm l := hqw4.trans hp_l1
  have hn_l3 : l3.length = n := hqw4.length_eq.trans hn_l1
  exact AC (CG (Or.inr rfl) rfl ⟨rfl, l3, hp_l3, M.blk 0 rfl, M.fr⟩)
theorem dW (g n cp : Nat) (fc : FuncId) (fq : Ar → Ar → Int) (rs : List Value) (a m b : Nat) (hfc : ∀ (ar : Array Value) (w : World), (callFunc fc ar).run prog w = .ok (.enter fc ar) w) (hcmp : ∀ (a b : Ar) (w : World), Calls prog fc #[.agg a.cells.toArray, .agg b.cells.toArray] w fun e w' => e = .returned (.int .i64 (fq a b)) ∧ Fr0 w w') (hm : n ≤ 1000000000) (l : List Ar) (w : World) (hb : Blk w g 126 (AK Ar.cells l ++ rs)) (hn : l.length = n) (ham : a < m) (hmb : m < b) (hbn : b ≤ n) (hrec : ∀ (a' m' b' : Nat) (l : List Ar) (w : World), a' < m' → m' < b' → b' ≤ n → b' - a' < b - a → Blk w g 126 (AK Ar.cells l ++ rs) → l.length = n → Calls prog 172 #[.slice (some ⟨g, 0, none⟩) n cp, .int .i64 ((a' : Nat) : Int), .int .i64 ((m' : Nat) : Int), .int .i64 ((b' : Nat) : Int), .func (.func fc) #[] #[]] w fun e w' => e = .returned (.tuple #[]) ∧ ∃ l' : List Ar, l'.Perm l ∧ Blk w' g 126 (AK Ar.cells l' ++ rs) ∧ Fr (fun k => k = g) w w') :
 Calls prog 172 #[.slice (some ⟨g, 0, none⟩) n cp, .int .i64 ((a : Nat) : Int), .int .i64 ((m : Nat) : Int), .int .i64 ((b : Nat) : Int), .func (.func fc) #[] #[]] w fun e w' => e = .returned (.tuple #[]) ∧ ∃ l' : List Ar, l'.Perm l ∧ Blk w' g 126 (AK Ar.cells l' ++ rs) ∧ Fr (fun k => k = g) w w' := by
 have hp_l : l.Perm l := List.Perm.refl _
 have hn_l : l.length = n := hn
 refine BC (vs := [_, _, _, _, _]) func172 rfl ntmps172 rfl ?_
 have M : Mem w (fun k => k = g) [As.blk g 126 (AK Ar.cells l ++ rs)] w := Mem.one hb
 refine AD (AD (AB (yb rfl (yb rfl (ya rfl (EN (a := m) (b := a) rfl rfl rfl AO AO) (CI rfl rfl (AC (AA (AN rfl (fun h28 => ?_) (fun h28 => ?_))))))))))
 ·have h28p := (odt h28)
  refine srg (yb rfl (yb rfl (nq (srg (yb rfl (yb rfl (nq (AD (AR (flp [4, 1, 0] (fun ze e wr mz => ∃ (i : Nat) (j : Nat) (l1 : List Ar), e = (10, .int .i64 ((i : Nat) : Int)) :: (11, .int .i64 ((j : Nat) : Int)) :: ze ∧ Mem w (fun k => k = g) [As.blk g 126 (AK Ar.cells l1 ++ rs)] wr ∧ (m ≤ i ∧ i ≤ j ∧ j ≤ b) ∧ (l1.Perm l) ∧ (l1.length = n) ∧ mz = j - i) ⟨m, b, l, rfl, M, by omega, hp_l, hn_l, rfl⟩ ?_))))))))))
  rintro _ w1 _ ⟨i, j, l1, rfl, M, hij, hp_l1, hn_l1, rfl⟩
  refine AD (AD (AB (yb rfl (yb rfl (CB rfl rfl (AC (AA (AN rfl (fun h33 => ?_) (fun h33 => ?_)))))))))
  ·have h33p := (odt h33)
   refine AL (AA (AR (srg (yb rfl (yb rfl (ya rfl (BF rfl rfl rfl AO) (ya rfl (PU rfl rfl underlying3 underlying225 AO) (ya rfl (TE (a := i + j) rfl rfl rfl) (ya rfl (PV rfl rfl underlying225 underlying3 AO) (yb rfl (nq (AD (DN 9 CU gkr ?_)))))))))))))
   have M := M.drew
   refine sb rfl (sb rfl (sb rfl (sa rfl (B1 ((i + j) / 2) rfl rfl rfl rfl (sl rfl) AO) ?_)))
   obtain ⟨x1, hx1⟩ := CA (l := l1) (i := (i + j) / 2) AO
   refine sa rfl (AT (xs := Ar.cells x1) rfl rfl (BQ Ar.len (GO Ar.len (M.blk 0 rfl)) rfl hx1) underlying126 rfl B6) (sb rfl (sb rfl (sa rfl (B1 a rfl rfl rfl rfl (sl rfl) AO) ?_)))
   obtain ⟨x2, hx2⟩ := CA (l := l1) (i := a) AO
   refine sa rfl (AT (xs := Ar.cells x2) rfl rfl (BQ Ar.len (GO Ar.len (M.blk 0 rfl)) rfl hx2) underlying126 rfl B6) (CS (O9 M 49 rfl (BV rfl rfl rfl hfc) (hcmp _ _ _) fun w2 M => CB rfl rfl (AC (AA (AN rfl (fun h50 => ?_) (fun h50 => ?_))))))
   ·have h50p := (odt h50)
    refine AB (yb rfl (ya rfl (BF rfl rfl rfl AO) (yb rfl (AC (AH (fag ⟨((i + j) / 2) + 1, j, l1, rfl, M, ?_, ?_, ?_, rfl⟩))))))
    ·omega
    ·first
      | assumption
      | (refine (DR ?_ ?_).trans (by assumption) <;> assumption)
    ·first
      | assumption
      | (simp; assumption)
   ·have h50p := (odf h50)
    refine AB (yb rfl (yb rfl (AC (AH (fag ⟨i, (i + j) / 2, l1, rfl, M, ?_, ?_, ?_, rfl⟩)))))
    ·omega
    ·first
      | assumption
      | (refine (DR ?_ ?_).trans (by assumption) <;> assumption)
    ·first
      | assumption
      | (simp; assumption)
  ·have h33p := (odf h33)
   refine BG (AJ (AJ (AY (AA (AD (srg (yb rfl (yb rfl (nq (AR (flp [10, 0] (fun ze e wr mz => ∃ (k : Nat) (l2 : List Ar), e = (13, .int .i64 ((k : Nat) : Int)) :: ze ∧ Mem w (fun k => k = g) [As.blk g 126 (AK Ar.cells l2 ++ rs)] wr ∧ (a ≤ k ∧ k ≤ i) ∧ (l2.Perm l) ∧ (l2.length = n) ∧ mz = i - k) ⟨a, l1, rfl, M, by omega, hp_l1, hn_l1, rfl⟩ ?_)))))))))))
   rintro _ w3 _ ⟨k, l2, rfl, M, hk, hp_l2, hn_l2, rfl⟩
   refine AD (AD (AB (yb rfl (yb rfl (ya rfl (EN (a := i) (b := 1) rfl rfl rfl AO AO) (CB rfl rfl (AC (AA (AN rfl (fun h58 => ?_) (fun h58 => ?_))))))))))
   ·have h58p := (odt h58)
    refine AL (AA (AD (AR (CO 18 (fun _ => True) CU ?_))))
    have M := M.drew
    refine oa 0 18 rfl rfl trivial (fun _ _ => yp rfl) (oa 1 18 rfl rfl trivial (fun _ _ => yp rfl) (oa 2 18 rfl rfl trivial (fun _ _ => yp rfl) (oa 3 18 rfl rfl trivial (fun _ _ => yp rfl) (oa 4 18 rfl rfl trivial (fun _ _ => BF rfl rfl rfl AO) (oa 5 18 rfl rfl trivial (fun _ _ => yp rfl) (oa 6 18 rfl rfl trivial (fun _ _ => yp rfl) (oa 7 18 rfl rfl trivial (fun _ _ => BF rfl rfl rfl AO) (oa 8 18 rfl rfl trivial (fun _ _ => B1 (k + 1) rfl rfl rfl rfl (sl rfl) AO) (oa 10 18 rfl rfl trivial (fun _ _ => yp rfl) (oa 11 18 rfl rfl trivial (fun _ _ => yp rfl) (oa 12 18 rfl rfl trivial (fun _ _ => B1 k rfl rfl rfl rfl (sl rfl) AO) (KC 14 (fun w' => Mem w (fun k => k = g) [As.blk g 126 (AK Ar.cells l2 ++ rs)] w') ?_))))))))))))
    obtain ⟨x3, hx3⟩ := CA (l := l2) (i := k + 1) AO
    refine GW 9 gkr (fun c a t v w h => by cases t <;> exact h) gkr gkr gkr rfl (AF rfl) rfl rfl M (fun _ M => AT (xs := Ar.cells x3) rfl rfl (BQ Ar.len (GO Ar.len (M.blk 0 rfl)) rfl hx3) underlying126 rfl B6) ?_
    obtain ⟨x4, hx4⟩ := CA (l := l2) (i := k) AO
    refine GW 13 gkr (fun c a t v w h => by cases t <;> exact h) gkr gkr gkr rfl (AF rfl) rfl rfl M (fun _ M => AT (xs := Ar.cells x4) rfl rfl (BQ Ar.len (GO Ar.len (M.blk 0 rfl)) rfl hx4) underlying126 rfl B6) (fo1 14 rfl rfl (B1 k rfl rfl rfl rfl (sl rfl) AO) (B7 15 none gkr rfl (AF rfl) rfl rfl (fun ρ hρ => BZ 126 _ _ rfl g (0 + k * 5) 126 (AK Ar.cells l2 ++ rs) (Ar.cells x3) (hρ _ _ rfl) (hρ _ _ rfl) (M.blk 0 rfl) B6 (JC Ar.len (by first | omega | (simp; omega)) rfl) (Ar.cells_one _)) ?_))
    rintro _ w4 ⟨rfl, hbw4, hfw4⟩
    rw [I9 Ar.len (by first | omega | (simp; omega))] at hbw4
    replace M : Mem w (fun k => k = g) (List.set _ 0 (As.blk g 126 (AK Ar.cells (l2.set k x3) ++ rs))) w4 := M.putB 0 rfl hbw4 hfw4
    refine ⟨fun h => absurd h BR, fo1 16 rfl rfl (B1 (k + 1) rfl rfl rfl rfl (sl rfl) AO) (B7 17 none gkr rfl (AF rfl) rfl rfl (fun ρ hρ => BZ 126 _ _ rfl g (0 + (k + 1) * 5) 126 (AK Ar.cells (l2.set k x3) ++ rs) (Ar.cells x4) (hρ _ _ rfl) (hρ _ _ rfl) (M.blk 0 rfl) B6 (JC Ar.len (by first | omega | (simp; omega)) rfl) (Ar.cells_one _)) ?_)⟩
    rintro _ w5 ⟨rfl, hbw5, hfw5⟩
    rw [I9 Ar.len (by first | omega | (simp; omega))] at hbw5
    replace M : Mem w (fun k => k = g) (List.set _ 0 (As.blk g 126 (AK Ar.cells ((l2.set k x3).set (k + 1) x4) ++ rs))) w5 := M.putB 0 rfl hbw5 hfw5
    refine ⟨fun h => absurd h BR, fdn (AH (AA (AB (yb rfl (ya rfl (BF rfl rfl rfl AO) (yb rfl (AC (fag ⟨k + 1, ((l2.set k x3).set (k + 1) x4), rfl, M, ?_, ?_, ?_, rfl⟩))))))))⟩
    ·omega
    ·first
      | assumption
      | (refine (DR ?_ ?_).trans (by assumption) <;> assumption)
    ·first
      | assumption
      | (simp; assumption)
   ·exact BG (AJ (AJ (AY (AA (AI (AE (CG (Or.inl rfl) rfl ⟨rfl, l2, hp_l2, M.blk 0 rfl, M.fr⟩)))))))
 ·have h28p := (odf h28)
  refine AL (AA (AD (AD (AB (yb rfl (yb rfl (ya rfl (EN (a := b) (b := m) rfl rfl rfl AO AO) (CI rfl rfl (AC (AA (AN rfl (fun h80 => ?_) (fun h80 => ?_))))))))))))
  ·have h80p := (odt h80)
   refine srg (yb rfl (yb rfl (nq (srg (yb rfl (yb rfl (nq (AD (AR (flp [4, 2, 0] (fun ze e wr mz => ∃ (i : Nat) (j : Nat) (l1 : List Ar), e = (14, .int .i64 ((i : Nat) : Int)) :: (15, .int .i64 ((j : Nat) : Int)) :: ze ∧ Mem w (fun k => k = g) [As.blk g 126 (AK Ar.cells l1 ++ rs)] wr ∧ (a ≤ i ∧ i ≤ j ∧ j ≤ m) ∧ (l1.Perm l) ∧ (l1.length = n) ∧ mz = j - i) ⟨a, m, l, rfl, M, by omega, hp_l, hn_l, rfl⟩ ?_))))))))))
   rintro _ w6 _ ⟨i, j, l1, rfl, M, hij, hp_l1, hn_l1, rfl⟩
   refine AD (AD (AB (yb rfl (yb rfl (CB rfl rfl (AC (AA (AN rfl (fun h85 => ?_) (fun h85 => ?_)))))))))
   ·have h85p := (odt h85)
    refine AL (AA (AR (srg (yb rfl (yb rfl (ya rfl (BF rfl rfl rfl AO) (ya rfl (PU rfl rfl underlying3 underlying225 AO) (ya rfl (TE (a := i + j) rfl rfl rfl) (ya rfl (PV rfl rfl underlying225 underlying3 AO) (yb rfl (nq (AD (DN 9 CU gkr ?_)))))))))))))
    have M := M.drew
    refine sb rfl (sb rfl (sb rfl (sa rfl (B1 m rfl rfl rfl rfl (sl rfl) AO) ?_)))
    obtain ⟨x5, hx5⟩ := CA (l := l1) (i := m) AO
    refine sa rfl (AT (xs := Ar.cells x5) rfl rfl (BQ Ar.len (GO Ar.len (M.blk 0 rfl)) rfl hx5) underlying126 rfl B6) (sb rfl (sb rfl (sa rfl (B1 ((i + j) / 2) rfl rfl rfl rfl (sl rfl) AO) ?_)))
    obtain ⟨x6, hx6⟩ := CA (l := l1) (i := (i + j) / 2) AO
    refine sa rfl (AT (xs := Ar.cells x6) rfl rfl (BQ Ar.len (GO Ar.len (M.blk 0 rfl)) rfl hx6) underlying126 rfl B6) (CS (O9 M 101 rfl (BV rfl rfl rfl hfc) (hcmp _ _ _) fun w7 M => CB rfl rfl (yb rfl (AC (AA (AN rfl (fun h103 => ?_) (fun h103 => ?_)))))))
    ·have h103p := (odf (CE h103))
     refine AB (yb rfl (ya rfl (BF rfl rfl rfl AO) (yb rfl (AC (AH (fag ⟨((i + j) / 2) + 1, j, l1, rfl, M, ?_, ?_, ?_, rfl⟩))))))
     ·omega
     ·first
       | assumption
       | (refine (DR ?_ ?_).trans (by assumption) <;> assumption)
     ·first
       | assumption
       | (simp; assumption)
    ·have h103p := (odt (BM h103))
     refine AB (yb rfl (yb rfl (AC (AH (fag ⟨i, (i + j) / 2, l1, rfl, M, ?_, ?_, ?_, rfl⟩)))))
     ·omega
     ·first
       | assumption
       | (refine (DR ?_ ?_).trans (by assumption) <;> assumption)
     ·first
       | assumption
       | (simp; assumption)
   ·have h85p := (odf h85)
    refine BG (AJ (AJ (AY (AA (AD (srg (yb rfl (yb rfl (nq (AR (flp [14, 0] (fun ze e wr mz => ∃ (k : Nat) (l2 : List Ar), e = (17, .int .i64 ((k : Nat) : Int)) :: ze ∧ Mem w (fun k => k = g) [As.blk g 126 (AK Ar.cells l2 ++ rs)] wr ∧ (i ≤ k ∧ k ≤ m) ∧ (l2.Perm l) ∧ (l2.length = n) ∧ mz = k - i) ⟨m, l1, rfl, M, by omega, hp_l1, hn_l1, rfl⟩ ?_)))))))))))
    rintro _ w8 _ ⟨k, l2, rfl, M, hk, hp_l2, hn_l2, rfl⟩
    refine AD (AD (AB (yb rfl (yb rfl (LM rfl rfl (AC (AA (AN rfl (fun h110 => ?_) (fun h110 => ?_)))))))))
    ·have h110p := (odt h110)
     refine AL (AA (AD (AR (CO 18 (fun _ => True) CU ?_))))
     have M := M.drew
     refine oa 0 18 rfl rfl trivial (fun _ _ => yp rfl) (oa 1 18 rfl rfl trivial (fun _ _ => yp rfl) (oa 2 18 rfl rfl trivial (fun _ _ => yp rfl) (oa 3 18 rfl rfl trivial (fun _ _ => yp rfl) (oa 4 18 rfl rfl trivial (fun _ _ => EN (a := k) (b := 1) rfl rfl rfl AO AO) (oa 5 18 rfl rfl trivial (fun _ _ => yp rfl) (oa 6 18 rfl rfl trivial (fun _ _ => yp rfl) (oa 7 18 rfl rfl trivial (fun _ _ => EN (a := k) (b := 1) rfl rfl rfl AO AO) (oa 8 18 rfl rfl trivial (fun _ _ => B1 (k - 1) rfl rfl rfl rfl (sl rfl) AO) (oa 10 18 rfl rfl trivial (fun _ _ => yp rfl) (oa 11 18 rfl rfl trivial (fun _ _ => yp rfl) (oa 12 18 rfl rfl trivial (fun _ _ => B1 k rfl rfl rfl rfl (sl rfl) AO) (KC 14 (fun w' => Mem w (fun k => k = g) [As.blk g 126 (AK Ar.cells l2 ++ rs)] w') ?_))))))))))))
     obtain ⟨x7, hx7⟩ := CA (l := l2) (i := k - 1) AO
     refine GW 9 gkr (fun c a t v w h => by cases t <;> exact h) gkr gkr gkr rfl (AF rfl) rfl rfl M (fun _ M => AT (xs := Ar.cells x7) rfl rfl (BQ Ar.len (GO Ar.len (M.blk 0 rfl)) rfl hx7) underlying126 rfl B6) ?_
     obtain ⟨x8, hx8⟩ := CA (l := l2) (i := k) AO
     refine GW 13 gkr (fun c a t v w h => by cases t <;> exact h) gkr gkr gkr rfl (AF rfl) rfl rfl M (fun _ M => AT (xs := Ar.cells x8) rfl rfl (BQ Ar.len (GO Ar.len (M.blk 0 rfl)) rfl hx8) underlying126 rfl B6) (fo1 14 rfl rfl (B1 k rfl rfl rfl rfl (sl rfl) AO) (B7 15 none gkr rfl (AF rfl) rfl rfl (fun ρ hρ => BZ 126 _ _ rfl g (0 + k * 5) 126 (AK Ar.cells l2 ++ rs) (Ar.cells x7) (hρ _ _ rfl) (hρ _ _ rfl) (M.blk 0 rfl) B6 (JC Ar.len (by first | omega | (simp; omega)) rfl) (Ar.cells_one _)) ?_))
     rintro _ w9 ⟨rfl, hbw9, hfw9⟩
     rw [I9 Ar.len (by first | omega | (simp; omega))] at hbw9
     replace M : Mem w (fun k => k = g) (List.set _ 0 (As.blk g 126 (AK Ar.cells (l2.set k x7) ++ rs))) w9 := M.putB 0 rfl hbw9 hfw9
     refine ⟨fun h => absurd h BR, fo1 16 rfl rfl (B1 (k - 1) rfl rfl rfl rfl (sl rfl) AO) (B7 17 none gkr rfl (AF rfl) rfl rfl (fun ρ hρ => BZ 126 _ _ rfl g (0 + (k - 1) * 5) 126 (AK Ar.cells (l2.set k x7) ++ rs) (Ar.cells x8) (hρ _ _ rfl) (hρ _ _ rfl) (M.blk 0 rfl) B6 (JC Ar.len (by first | omega | (simp; omega)) rfl) (Ar.cells_one _)) ?_)⟩
     rintro _ w10 ⟨rfl, hbw10, hfw10⟩
     rw [I9 Ar.len (by first | omega | (simp; omega))] at hbw10
     replace M : Mem w (fun k => k = g) (List.set _ 0 (As.blk g 126 (AK Ar.cells ((l2.set k x7).set (k - 1) x8) ++ rs))) w10 := M.putB 0 rfl hbw10 hfw10
     refine ⟨fun h => absurd h BR, fdn (AH (AA (AB (yb rfl (ya rfl (EN (a := k) (b := 1) rfl rfl rfl AO AO) (yb rfl (AC (fag ⟨k - 1, ((l2.set k x7).set (k - 1) x8), rfl, M, ?_, ?_, ?_, rfl⟩))))))))⟩
     ·omega
     ·first
       | assumption
       | (refine (DR ?_ ?_).trans (by assumption) <;> assumption)
     ·first
       | assumption
       | (simp; assumption)
    ·exact BG (AJ (AJ (AY (AA (AI (AE (CG (Or.inl rfl) rfl ⟨rfl, l2, hp_l2, M.blk 0 rfl, M.fr⟩)))))))
  ·have h80p := (odf h80)
   refine AL (AA (srg (yb rfl (yb rfl (ya rfl (BF rfl rfl rfl AO) (ya rfl (PU rfl rfl underlying3 underlying225 AO) (ya rfl (TE (a := a + b) rfl rfl rfl) (ya rfl (PV rfl rfl underlying225 underlying3 AO) (yb rfl (nq (srg (yb rfl ?_))))))))))))
   refine yb rfl (ya rfl (BF rfl rfl rfl AO) (yb rfl (nq (srg (yb rfl (yb rfl (nq (AD (srg (yb rfl (yb rfl ?_)))))))))))
   refine LM rfl rfl (AC (AA (IK [(0, .slice (some ⟨g, 0, none⟩) n cp), (1, .int .i64 ((a : Nat) : Int)), (2, .int .i64 ((m : Nat) : Int)), (3, .int .i64 ((b : Nat) : Int)), (4, .func (.func fc) #[] #[]), (18, .int .i64 (((a + b) / 2 : Nat) : Int)), (19, .int .i64 ((((a + b) / 2) + m : Nat) : Int)), (20, .int .i64 ((if (decide ((((a + b) / 2 : Nat) : Int) < ((m : Nat) : Int))) then (((a + b) / 2) + m) - b else a : Nat) : Int)), (21, .int .i64 ((if (decide ((((a + b) / 2 : Nat) : Int) < ((m : Nat) : Int))) then (a + b) / 2 else m : Nat) : Int))] (fun w' => Mem w (fun k => k = g) [As.blk g 126 (AK Ar.cells l ++ rs)] w') ?_ (fun k140 => ?_))))
   ·intro w11 M
    refine AA (srg (yb rfl (ya rfl (EN (a := ((a + b) / 2) + m) (b := 1) rfl rfl rfl AO AO) (yb rfl (nq (AD (AR ?_)))))))
    have hst : ((a + b) / 2 < m ∧ (if (decide ((((a + b) / 2 : Nat) : Int) < ((m : Nat) : Int))) then (((a + b) / 2) + m) - b else a) + b = (a + b) / 2 + m ∧ (if (decide ((((a + b) / 2 : Nat) : Int) < ((m : Nat) : Int))) then (a + b) / 2 else m) = (a + b) / 2) ∨ (m ≤ (a + b) / 2 ∧ (if (decide ((((a + b) / 2 : Nat) : Int) < ((m : Nat) : Int))) then (((a + b) / 2) + m) - b else a) = a ∧ (if (decide ((((a + b) / 2 : Nat) : Int) < ((m : Nat) : Int))) then (a + b) / 2 else m) = m) := by
     split
     ·rename_i hq
      have := odt hq
      left; omega
     ·rename_i hq
      have := odf (Bool.eq_false_iff.2 hq)
      right; omega
    obtain ⟨s0, hs0⟩ : ∃ s0 : Nat, s0 = if (decide ((((a + b) / 2 : Nat) : Int) < ((m : Nat) : Int))) then (((a + b) / 2) + m) - b else a := ⟨_, rfl⟩
    obtain ⟨r0, hr0⟩ : ∃ r0 : Nat, r0 = if (decide ((((a + b) / 2 : Nat) : Int) < ((m : Nat) : Int))) then (a + b) / 2 else m := ⟨_, rfl⟩
    rw [← hs0, ← hr0] at hst
    refine flp [22, 19, 18, 4, 3, 2, 1, 0] (fun ze e wr mz => ∃ (s : Nat) (r : Nat) (l1 : List Ar), e = (20, .int .i64 ((s : Nat) : Int)) :: (21, .int .i64 ((r : Nat) : Int)) :: ze ∧ Mem w (fun k => k = g) [As.blk g 126 (AK Ar.cells l1 ++ rs)] wr ∧ (s0 ≤ s ∧ s ≤ r ∧ r ≤ r0) ∧ (l1.Perm l) ∧ (l1.length = n) ∧ mz = r - s) ⟨(if (decide ((((a + b) / 2 : Nat) : Int) < ((m : Nat) : Int))) then (((a + b) / 2) + m) - b else a), (if (decide ((((a + b) / 2 : Nat) : Int) < ((m : Nat) : Int))) then (a + b) / 2 else m), l, rfl, M, by rw [← hs0, ← hr0]; omega, hp_l, hn_l, rfl⟩ ?_
    rintro _ w12 _ ⟨s, r, l1, rfl, M, hsr, hp_l1, hn_l1, rfl⟩
    refine AD (AD (AB (yb rfl (yb rfl (CB rfl rfl (AC (AA (AN rfl (fun h151 => ?_) (fun h151 => ?_)))))))))
    ·have h151p := (odt h151)
     refine AL (AA (AR (srg (yb rfl (yb rfl (ya rfl (BF rfl rfl rfl AO) (ya rfl (PU rfl rfl underlying3 underlying225 AO) (ya rfl (TE (a := s + r) rfl rfl rfl) (ya rfl (PV rfl rfl underlying225 underlying3 AO) (yb rfl (nq (AD (DN 11 CU gkr ?_)))))))))))))
     have M := M.drew
     iterate 4 refine sb rfl ?_
     refine sa rfl (EN (a := (((a + b) / 2) + m) - 1) (b := (s + r) / 2) rfl rfl rfl AO AO) (sa rfl (B1 (((((a + b) / 2) + m) - 1) - ((s + r) / 2)) rfl rfl rfl rfl (sl rfl) AO) ?_)
     obtain ⟨x9, hx9⟩ := CA (l := l1) (i := ((((a + b) / 2) + m) - 1) - ((s + r) / 2)) AO
     refine sa rfl (AT (xs := Ar.cells x9) rfl rfl (BQ Ar.len (GO Ar.len (M.blk 0 rfl)) rfl hx9) underlying126 rfl B6) (sb rfl (sb rfl (sa rfl (B1 ((s + r) / 2) rfl rfl rfl rfl (sl rfl) AO) ?_)))
     obtain ⟨x10, hx10⟩ := CA (l := l1) (i := (s + r) / 2) AO
     refine sa rfl (AT (xs := Ar.cells x10) rfl rfl (BQ Ar.len (GO Ar.len (M.blk 0 rfl)) rfl hx10) underlying126 rfl B6) (CS (O9 M 169 rfl (BV rfl rfl rfl hfc) (hcmp _ _ _) fun w13 M => CB rfl rfl (yb rfl (AC (AA (AN rfl (fun h171 => ?_) (fun h171 => ?_)))))))
     ·have h171p := (odf (CE h171))
      refine AB (yb rfl (ya rfl (BF rfl rfl rfl AO) (yb rfl (AC (AH (fag ⟨((s + r) / 2) + 1, r, l1, rfl, M, ?_, ?_, ?_, rfl⟩))))))
      ·omega
      ·first
        | assumption
        | (refine (DR ?_ ?_).trans (by assumption) <;> assumption)
      ·first
        | assumption
        | (simp; assumption)
     ·have h171p := (odt (BM h171))
      refine AB (yb rfl (yb rfl (AC (AH (fag ⟨s, (s + r) / 2, l1, rfl, M, ?_, ?_, ?_, rfl⟩)))))
      ·omega
      ·first
        | assumption
        | (refine (DR ?_ ?_).trans (by assumption) <;> assumption)
      ·first
        | assumption
        | (simp; assumption)
    ·have h151p := (odf h151)
     refine BG (AJ (AJ (AY (AA (srg (yb rfl (yb rfl (ya rfl (EN (a := ((a + b) / 2) + m) (b := s) rfl rfl rfl AO AO) (yb rfl (nq (AD (srg ?_))))))))))))
     refine yb rfl (yb rfl (CB rfl rfl (yb rfl (DF 4 [(0, .slice (some ⟨g, 0, none⟩) n cp), (1, .int .i64 ((a : Nat) : Int)), (2, .int .i64 ((m : Nat) : Int)), (3, .int .i64 ((b : Nat) : Int)), (4, .func (.func fc) #[] #[]), (18, .int .i64 (((a + b) / 2 : Nat) : Int)), (20, .int .i64 ((s : Nat) : Int)), (24, .int .i64 (((((a + b) / 2) + m) - s : Nat) : Int)), (185, .bool ((decide (((s : Nat) : Int) < ((m : Nat) : Int))) && (decide (((m : Nat) : Int) < (((((a + b) / 2) + m) - s : Nat) : Int)))))] (fun w' => Mem w (fun k => k = g) [As.blk g 126 (AK Ar.cells l1 ++ rs)] w') ?_ (fun k181 => ?_)))))
     ·intro w14 M
      refine AC (AA (AN rfl (fun h185 => ?_) (fun h185 => ?_)))
      ·have h185p := (And.intro (odt (CF h185).1) (odt (CF h185).2))
       refine AB ?_
       iterate 5 refine yb rfl ?_
       refine cl 191 rfl (AQ rfl rfl call192) (oN g n cp fc rs s m ((((a + b) / 2) + m) - s) hm l1 _ (M.blk 0 rfl) hn_l1 AO AO AO) ?_
       rintro _ w15 ⟨rfl, l11, hqw15, hbw15, hfw15⟩
       refine ⟨_, rfl, ?_⟩
       have M := M.putB 0 rfl hbw15 hfw15
       have hp_l11 : l11.Perm l := hqw15.trans hp_l1
       have hn_l11 : l11.length = n := hqw15.length_eq.trans hn_l1
       refine AC (AA (AD (AD (AB (yb rfl (yb rfl (CB rfl rfl (yb rfl (DF 4 [(0, .slice (some ⟨g, 0, none⟩) n cp), (1, .int .i64 ((a : Nat) : Int)), (3, .int .i64 ((b : Nat) : Int)), (4, .func (.func fc) #[] #[]), (18, .int .i64 (((a + b) / 2 : Nat) : Int)), (20, .int .i64 ((s : Nat) : Int)), (24, .int .i64 (((((a + b) / 2) + m) - s : Nat) : Int)), (199, .bool ((decide (((a : Nat) : Int) < ((s : Nat) : Int))) && (decide (((s : Nat) : Int) < (((a + b) / 2 : Nat) : Int)))))] (fun w' => Mem w (fun k => k = g) [As.blk g 126 (AK Ar.cells l11 ++ rs)] w') ?_ (fun k195 => ?_))))))))))
       ·intro w16 M
        refine AC (AA (AN rfl (fun h199 => ?_) (fun h199 => ?_)))
        ·have h199p := (And.intro (odt (CF h199).1) (odt (CF h199).2))
         refine AB ?_
         iterate 5 refine yb rfl ?_
         refine cl 205 rfl (AQ rfl rfl call172) (hrec a s ((a + b) / 2) l11 _ AO AO AO AO (M.blk 0 rfl) hn_l11) ?_
         rintro _ w17 ⟨rfl, l12, hqw17, hbw17, hfw17⟩
         refine ⟨_, rfl, ?_⟩
         have M := M.putB 0 rfl hbw17 hfw17
         have hp_l12 : l12.Perm l := hqw17.trans hp_l11
         have hn_l12 : l12.length = n := hqw17.length_eq.trans hn_l11
         refine AC (AA (AD (AB (yb rfl (yb rfl (CB rfl rfl (yb rfl (DF 4 [(0, .slice (some ⟨g, 0, none⟩) n cp), (3, .int .i64 ((b : Nat) : Int)), (4, .func (.func fc) #[] #[]), (18, .int .i64 (((a + b) / 2 : Nat) : Int)), (24, .int .i64 (((((a + b) / 2) + m) - s : Nat) : Int)), (213, .bool ((decide ((((a + b) / 2 : Nat) : Int) < (((((a + b) / 2) + m) - s : Nat) : Int))) && (decide ((((((a + b) / 2) + m) - s : Nat) : Int) < ((b : Nat) : Int)))))] (fun w' => Mem w (fun k => k = g) [As.blk g 126 (AK Ar.cells l12 ++ rs)] w') ?_ (fun k209 => ?_)))))))))
         ·intro w18 M
          refine AC (AA (AN rfl (fun h213 => ?_) (fun h213 => ?_)))
          ·have h213p := (And.intro (odt (CF h213).1) (odt (CF h213).2))
           refine AB ?_
           iterate 5 refine yb rfl ?_
           refine cl 219 rfl (AQ rfl rfl call172) (hrec ((a + b) / 2) ((((a + b) / 2) + m) - s) b l12 _ AO AO AO AO (M.blk 0 rfl) hn_l12) ?_
           rintro _ w19 ⟨rfl, l13, hqw19, hbw19, hfw19⟩
           refine ⟨_, rfl, ?_⟩
           have M := M.putB 0 rfl hbw19 hfw19
           have hp_l13 : l13.Perm l := hqw19.trans hp_l12
           have hn_l13 : l13.length = n := hqw19.length_eq.trans hn_l12
           exact AC (CG (Or.inr rfl) rfl ⟨rfl, l13, hp_l13, M.blk 0 rfl, M.fr⟩)
          ·have h213p := ((DM h213).imp (fun z => (odf z)) (fun z => (odf z)))
           exact AL (CG (Or.inr rfl) rfl ⟨rfl, l12, hp_l12, M.blk 0 rfl, M.fr⟩)
         refine AP (d := 209) rfl (fun h209 => ?_) (fun h209 => ?_)
         ·exact gyq rfl (gyq rfl (yd rfl (E9 rfl rfl rfl) (yb rfl (k209 _ _ M ⟨rfl, rfl, rfl, rfl, rfl, (by rw [h209]; rfl), trivial⟩))))
         ·exact yo rfl (yo rfl (yo rfl (yb rfl (k209 _ _ M ⟨rfl, rfl, rfl, rfl, rfl, (by rw [h209]; rfl), trivial⟩))))
        ·have h199p := ((DM h199).imp (fun z => (odf z)) (fun z => (odf z)))
         refine AL (AA (AD (AB (yb rfl (yb rfl (CB rfl rfl (yb rfl (DF 4 [(0, .slice (some ⟨g, 0, none⟩) n cp), (3, .int .i64 ((b : Nat) : Int)), (4, .func (.func fc) #[] #[]), (18, .int .i64 (((a + b) / 2 : Nat) : Int)), (24, .int .i64 (((((a + b) / 2) + m) - s : Nat) : Int)), (213, .bool ((decide ((((a + b) / 2 : Nat) : Int) < (((((a + b) / 2) + m) - s : Nat) : Int))) && (decide ((((((a + b) / 2) + m) - s : Nat) : Int) < ((b : Nat) : Int)))))] (fun w' => Mem w (fun k => k = g) [As.blk g 126 (AK Ar.cells l11 ++ rs)] w') ?_ (fun k209 => ?_)))))))))
         ·intro w20 M
          refine AC (AA (AN rfl (fun h213 => ?_) (fun h213 => ?_)))
          ·have h213p := (And.intro (odt (CF h213).1) (odt (CF h213).2))
           refine AB ?_
           iterate 5 refine yb rfl ?_
           refine cl 219 rfl (AQ rfl rfl call172) (hrec ((a + b) / 2) ((((a + b) / 2) + m) - s) b l11 _ AO AO AO AO (M.blk 0 rfl) hn_l11) ?_
           rintro _ w21 ⟨rfl, l14, hqw21, hbw21, hfw21⟩
           refine ⟨_, rfl, ?_⟩
           have M := M.putB 0 rfl hbw21 hfw21
           have hp_l14 : l14.Perm l := hqw21.trans hp_l11
           have hn_l14 : l14.length = n := hqw21.length_eq.trans hn_l11
           exact AC (CG (Or.inr rfl) rfl ⟨rfl, l14, hp_l14, M.blk 0 rfl, M.fr⟩)
          ·have h213p := ((DM h213).imp (fun z => (odf z)) (fun z => (odf z)))
           exact AL (CG (Or.inr rfl) rfl ⟨rfl, l11, hp_l11, M.blk 0 rfl, M.fr⟩)
         refine AP (d := 209) rfl (fun h209 => ?_) (fun h209 => ?_)
         ·exact gyq rfl (gyq rfl (yd rfl (E9 rfl rfl rfl) (yb rfl (k209 _ _ M ⟨rfl, rfl, rfl, rfl, rfl, (by rw [h209]; rfl), trivial⟩))))
         ·exact yo rfl (yo rfl (yo rfl (yb rfl (k209 _ _ M ⟨rfl, rfl, rfl, rfl, rfl, (by rw [h209]; rfl), trivial⟩))))
       refine AP (d := 195) rfl (fun h195 => ?_) (fun h195 => ?_)
       ·exact gyq rfl (gyq rfl (yd rfl (E9 rfl rfl rfl) (yb rfl (k195 _ _ M ⟨rfl, rfl, rfl, rfl, rfl, rfl, rfl, (by rw [h195]; rfl), trivial⟩))))
       ·exact yo rfl (yo rfl (yo rfl (yb rfl (k195 _ _ M ⟨rfl, rfl, rfl, rfl, rfl, rfl, rfl, (by rw [h195]; rfl), trivial⟩))))
      ·have h185p := ((DM h185).imp (fun z => (odf z)) (fun z => (odf z)))
       refine AL (AA (AD (AD (AB (yb rfl (yb rfl (CB rfl rfl (yb rfl (DF 4 [(0, .slice (some ⟨g, 0, none⟩) n cp), (1, .int .i64 ((a : Nat) : Int)), (3, .int .i64 ((b : Nat) : Int)), (4, .func (.func fc) #[] #[]), (18, .int .i64 (((a + b) / 2 : Nat) : Int)), (20, .int .i64 ((s : Nat) : Int)), (24, .int .i64 (((((a + b) / 2) + m) - s : Nat) : Int)), (199, .bool ((decide (((a : Nat) : Int) < ((s : Nat) : Int))) && (decide (((s : Nat) : Int) < (((a + b) / 2 : Nat) : Int)))))] (fun w' => Mem w (fun k => k = g) [As.blk g 126 (AK Ar.cells l1 ++ rs)] w') ?_ (fun k195 => ?_))))))))))
       ·intro w22 M
        refine AC (AA (AN rfl (fun h199 => ?_) (fun h199 => ?_)))
        ·have h199p := (And.intro (odt (CF h199).1) (odt (CF h199).2))
         refine AB ?_
         iterate 5 refine yb rfl ?_
         refine cl 205 rfl (AQ rfl rfl call172) (hrec a s ((a + b) / 2) l1 _ AO AO AO AO (M.blk 0 rfl) hn_l1) ?_
         rintro _ w23 ⟨rfl, l15, hqw23, hbw23, hfw23⟩
         refine ⟨_, rfl, ?_⟩
         have M := M.putB 0 rfl hbw23 hfw23
         have hp_l15 : l15.Perm l := hqw23.trans hp_l1
         have hn_l15 : l15.length = n := hqw23.length_eq.trans hn_l1
         refine AC (AA (AD (AB (yb rfl (yb rfl (CB rfl rfl (yb rfl (DF 4 [(0, .slice (some ⟨g, 0, none⟩) n cp), (3, .int .i64 ((b : Nat) : Int)), (4, .func (.func fc) #[] #[]), (18, .int .i64 (((a + b) / 2 : Nat) : Int)), (24, .int .i64 (((((a + b) / 2) + m) - s : Nat) : Int)), (213, .bool ((decide ((((a + b) / 2 : Nat) : Int) < (((((a + b) / 2) + m) - s : Nat) : Int))) && (decide ((((((a + b) / 2) + m) - s : Nat) : Int) < ((b : Nat) : Int)))))] (fun w' => Mem w (fun k => k = g) [As.blk g 126 (AK Ar.cells l15 ++ rs)] w') ?_ (fun k209 => ?_)))))))))
         ·intro w24 M
          refine AC (AA (AN rfl (fun h213 => ?_) (fun h213 => ?_)))
          ·have h213p := (And.intro (odt (CF h213).1) (odt (CF h213).2))
           refine AB ?_
           iterate 5 refine yb rfl ?_
           refine cl 219 rfl (AQ rfl rfl call172) (hrec ((a + b) / 2) ((((a + b) / 2) + m) - s) b l15 _ AO AO AO AO (M.blk 0 rfl) hn_l15) ?_
           rintro _ w25 ⟨rfl, l16, hqw25, hbw25, hfw25⟩
           refine ⟨_, rfl, ?_⟩
           have M := M.putB 0 rfl hbw25 hfw25
           have hp_l16 : l16.Perm l := hqw25.trans hp_l15
           have hn_l16 : l16.length = n := hqw25.length_eq.trans hn_l15
           exact AC (CG (Or.inr rfl) rfl ⟨rfl, l16, hp_l16, M.blk 0 rfl, M.fr⟩)
          ·have h213p := ((DM h213).imp (fun z => (odf z)) (fun z => (odf z)))
           exact AL (CG (Or.inr rfl) rfl ⟨rfl, l15, hp_l15, M.blk 0 rfl, M.fr⟩)
         refine AP (d := 209) rfl (fun h209 => ?_) (fun h209 => ?_)
         ·exact gyq rfl (gyq rfl (yd rfl (E9 rfl rfl rfl) (yb rfl (k209 _ _ M ⟨rfl, rfl, rfl, rfl, rfl, (by rw [h209]; rfl), trivial⟩))))
         ·exact yo rfl (yo rfl (yo rfl (yb rfl (k209 _ _ M ⟨rfl, rfl, rfl, rfl, rfl, (by rw [h209]; rfl), trivial⟩))))
        ·have h199p := ((DM h199).imp (fun z => (odf z)) (fun z => (odf z)))
         refine AL (AA (AD (AB (yb rfl (yb rfl (CB rfl rfl (yb rfl (DF 4 [(0, .slice (some ⟨g, 0, none⟩) n cp), (3, .int .i64 ((b : Nat) : Int)), (4, .func (.func fc) #[] #[]), (18, .int .i64 (((a + b) / 2 : Nat) : Int)), (24, .int .i64 (((((a + b) / 2) + m) - s : Nat) : Int)), (213, .bool ((decide ((((a + b) / 2 : Nat) : Int) < (((((a + b) / 2) + m) - s : Nat) : Int))) && (decide ((((((a + b) / 2) + m) - s : Nat) : Int) < ((b : Nat) : Int)))))] (fun w' => Mem w (fun k => k = g) [As.blk g 126 (AK Ar.cells l1 ++ rs)] w') ?_ (fun k209 => ?_)))))))))
         ·intro w26 M
          refine AC (AA (AN rfl (fun h213 => ?_) (fun h213 => ?_)))
          ·have h213p := (And.intro (odt (CF h213).1) (odt (CF h213).2))
           refine AB ?_
           iterate 5 refine yb rfl ?_
           refine cl 219 rfl (AQ rfl rfl call172) (hrec ((a + b) / 2) ((((a + b) / 2) + m) - s) b l1 _ AO AO AO AO (M.blk 0 rfl) hn_l1) ?_
           rintro _ w27 ⟨rfl, l17, hqw27, hbw27, hfw27⟩
           refine ⟨_, rfl, ?_⟩
           have M := M.putB 0 rfl hbw27 hfw27
           have hp_l17 : l17.Perm l := hqw27.trans hp_l1
           have hn_l17 : l17.length = n := hqw27.length_eq.trans hn_l1
           exact AC (CG (Or.inr rfl) rfl ⟨rfl, l17, hp_l17, M.blk 0 rfl, M.fr⟩)
          ·have h213p := ((DM h213).imp (fun z => (odf z)) (fun z => (odf z)))
           exact AL (CG (Or.inr rfl) rfl ⟨rfl, l1, hp_l1, M.blk 0 rfl, M.fr⟩)
         refine AP (d := 209) rfl (fun h209 => ?_) (fun h209 => ?_)
         ·exact gyq rfl (gyq rfl (yd rfl (E9 rfl rfl rfl) (yb rfl (k209 _ _ M ⟨rfl, rfl, rfl, rfl, rfl, (by rw [h209]; rfl), trivial⟩))))
         ·exact yo rfl (yo rfl (yo rfl (yb rfl (k209 _ _ M ⟨rfl, rfl, rfl, rfl, rfl, (by rw [h209]; rfl), trivial⟩))))
       refine AP (d := 195) rfl (fun h195 => ?_) (fun h195 => ?_)
       ·exact gyq rfl (gyq rfl (yd rfl (E9 rfl rfl rfl) (yb rfl (k195 _ _ M ⟨rfl, rfl, rfl, rfl, rfl, rfl, rfl, (by rw [h195]; rfl), trivial⟩))))
       ·exact yo rfl (yo rfl (yo rfl (yb rfl (k195 _ _ M ⟨rfl, rfl, rfl, rfl, rfl, rfl, rfl, (by rw [h195]; rfl), trivial⟩))))
     refine AP (d := 181) rfl (fun h181 => ?_) (fun h181 => ?_)
     ·exact gyq rfl (gyq rfl (yd rfl (E9 rfl rfl rfl) (yb rfl (k181 _ _ M ⟨rfl, rfl, rfl, rfl, rfl, rfl, rfl, rfl, (by rw [h181]; rfl), trivial⟩))))
     ·exact yo rfl (yo rfl (yo rfl (yb rfl (k181 _ _ M ⟨rfl, rfl, rfl, rfl, rfl, rfl, rfl, rfl, (by rw [h181]; rfl), trivial⟩))))
   refine AN rfl (fun h140 => ?_) (fun h140 => ?_)
   ·have h140p := (odt h140)
    exact srg (yb rfl (yb rfl (ya rfl (EN (a := ((a + b) / 2) + m) (b := b) rfl rfl rfl AO AO) (yb rfl (nq (AB (yb rfl (yb rfl (AC (k140 _ _ M ⟨rfl, rfl, rfl, rfl, rfl, rfl, rfl, (by rw [h140]; rfl), (by rw [h140]; rfl), trivial⟩))))))))))
   ·exact srg (yb rfl (yb rfl (nq (AB (yb rfl (yb rfl (AC (k140 _ _ M ⟨rfl, rfl, rfl, rfl, rfl, rfl, rfl, (by rw [h140]; rfl), (by rw [h140]; rfl), trivial⟩))))))))
theorem dX (g n cp : Nat) (fc : FuncId) (fq : Ar → Ar → Int) (rs : List Value) (hfc : ∀ (ar : Array Value) (w : World), (callFunc fc ar).run prog w = .ok (.enter fc ar) w) (hcmp : ∀ (a b : Ar) (w : World), Calls prog fc #[.agg a.cells.toArray, .agg b.cells.toArray] w fun e w' => e = .returned (.int .i64 (fq a b)) ∧ Fr0 w w') (hm : n ≤ 1000000000) : ∀ (d a m b : Nat) (l : List Ar) (w : World), b - a ≤ d → a < m → m < b → b ≤ n → Blk w g 126 (AK Ar.cells l ++ rs) → l.length = n → Calls prog 172 #[.slice (some ⟨g, 0, none⟩) n cp, .int .i64 ((a : Nat) : Int), .int .i64 ((m : Nat) : Int), .int .i64 ((b : Nat) : Int), .func (.func fc) #[] #[]] w fun e w' => e = .returned (.tuple #[]) ∧ ∃ l' : List Ar, l'.Perm l ∧ Blk w' g 126 (AK Ar.cells l' ++ rs) ∧ Fr (fun k => k = g) w w' := by
 intro d
 induction d with
 | zero => intro a m b l w hd h1 h2; omega
 | succ d ih => exact fun a m b l w hd h1 h2 h3 hb hn => dW g n cp fc fq rs a m b hfc hcmp hm l w hb hn h1 h2 h3 fun a' m' b' l w q1 q2 q3 q4 hb hn => ih a' m' b' l w AO q1 q2 q3 hb hn
theorem eN (g n cp : Nat) (fc : FuncId) (fq : Ar → Ar → Int) (rs : List Value) (hfc : ∀ (ar : Array Value) (w : World), (callFunc fc ar).run prog w = .ok (.enter fc ar) w) (hcmp : ∀ (a b : Ar) (w : World), Calls prog fc #[.agg a.cells.toArray, .agg b.cells.toArray] w fun e w' => e = .returned (.int .i64 (fq a b)) ∧ Fr0 w w') (hm : n ≤ 1000000000) (l : List Ar) (w : World) (hb : Blk w g 126 (AK Ar.cells l ++ rs)) (hn : l.length = n) :
 Calls prog 151 #[.slice (some ⟨g, 0, none⟩) n cp, .int .i64 ((n : Nat) : Int), .func (.func fc) #[] #[]] w fun e w' => e = .returned (.tuple #[]) ∧ ∃ l' : List Ar, l'.Perm l ∧ Blk w' g 126 (AK Ar.cells l' ++ rs) ∧ Fr (fun k => k = g) w w' := by
 have hp_l : l.Perm l := List.Perm.refl _
 have hn_l : l.length = n := hn
 refine BC (vs := [_, _, _]) func151 rfl ntmps151 rfl ?_
 have M : Mem w (fun k => k = g) [As.blk g 126 (AK Ar.cells l ++ rs)] w := Mem.one hb
 refine srg (yb rfl (nq (srg (yb rfl (yb rfl (yb rfl (nq (AD (AR (flp [6, 2, 1, 0] (fun ze e wr mz => ∃ (x : Nat) (l1 : List Ar), e = (7, .int .i64 ((x : Nat) : Int)) :: (8, .int .i64 ((x + 20 : Nat) : Int)) :: ze ∧ Mem w (fun k => k = g) [As.blk g 126 (AK Ar.cells l1 ++ rs)] wr ∧ (x ≤ n) ∧ (l1.Perm l) ∧ (l1.length = n) ∧ mz = n - x) ⟨0, l, rfl, M, Nat.zero_le _, hp_l, hn_l, rfl⟩ ?_))))))))))
 rintro _ w1 _ ⟨x, l1, rfl, M, hx, hp_l1, hn_l1, rfl⟩
 refine AD (AD (AB (yb rfl (yb rfl (RA rfl rfl (AC (AA (AN rfl (fun h13 => ?_) (fun h13 => ?_)))))))))
 ·have h13p := (odt h13)
  refine AL (AA (AR (srg ?_)))
  iterate 4 refine yb rfl ?_
  refine cl 18 rfl (AQ rfl rfl call171) (Z8 g n cp fc fq rs x (x + 20) hfc hcmp hm l1 _ (M.blk 0 rfl) hn_l1 AO AO) ?_
  rintro _ w2 ⟨rfl, l1, hqw2, hbw2, hfw2⟩
  refine ⟨_, rfl, ?_⟩
  have M := M.putB 0 rfl hbw2 hfw2
  have hp_l1 : l1.Perm l := hqw2.trans hp_l1
  have hn_l1 : l1.length = n := hqw2.length_eq.trans hn_l1
  refine AC (AA (AD (AB (yb rfl (yb rfl (AC (AA (AB (yb rfl (yb rfl (ya rfl (BF rfl rfl rfl AO) (yb rfl (AC (AH (fag ⟨x + 20, l1, rfl, M, ?_, ?_, ?_, rfl⟩)))))))))))))))
  ·omega
  ·first
    | assumption
    | (refine (DR ?_ ?_).trans (by assumption) <;> assumption)
  ·first
    | assumption
    | (simp; assumption)
 ·have h13p := (odf h13)
  refine BG (AJ (AJ (AY (AA (srg ?_)))))
  iterate 4 refine yb rfl ?_
  refine cl 27 rfl (AQ rfl rfl call171) (Z8 g n cp fc fq rs x n hfc hcmp hm l1 _ (M.blk 0 rfl) hn_l1 AO AO) ?_
  rintro _ w3 ⟨rfl, l2, hqw3, hbw3, hfw3⟩
  refine ⟨_, rfl, ?_⟩
  have M := M.putB 0 rfl hbw3 hfw3
  have hp_l2 : l2.Perm l := hqw3.trans hp_l1
  have hn_l2 : l2.length = n := hqw3.length_eq.trans hn_l1
  refine nq (AR (flp [2, 1, 0] (fun ze e wr mz => ∃ (z : Nat) (l2 : List Ar), e = (6, .int .i64 ((z : Nat) : Int)) :: ze ∧ Mem w (fun k => k = g) [As.blk g 126 (AK Ar.cells l2 ++ rs)] wr ∧ (20 ≤ z ∧ z ≤ 2 * n + 20) ∧ (l2.Perm l) ∧ (l2.length = n) ∧ mz = n - z) ⟨20, l2, rfl, M, by omega, hp_l2, hn_l2, rfl⟩ ?_))
  rintro _ w4 _ ⟨z, l2, rfl, M, hz, hp_l2, hn_l2, rfl⟩
  refine AD (AD (AB (yb rfl (yb rfl (CB rfl rfl (AC (AA (AN rfl (fun h30 => ?_) (fun h30 => ?_)))))))))
  ·have h30p := (odt h30)
   refine AL (AA (AR (srg (yb rfl (ya rfl (TF (a := 2) (b := z) rfl rfl rfl AO) (yb rfl (yb rfl (nq (AD (AR (flp [6, 2, 1, 0] (fun ze e wr mz => ∃ (y : Nat) (y8 : Nat) (l3 : List Ar), e = (7, .int .i64 ((y : Nat) : Int)) :: (8, .int .i64 ((y8 : Nat) : Int)) :: ze ∧ Mem w (fun k => k = g) [As.blk g 126 (AK Ar.cells l3 ++ rs)] wr ∧ (y ≤ n) ∧ (y8 = y + 2 * z) ∧ (l3.Perm l) ∧ (l3.length = n) ∧ mz = n - y) ⟨0, (2 * z), l2, rfl, M, Nat.zero_le _, by omega, hp_l2, hn_l2, rfl⟩ ?_)))))))))))
   rintro _ w5 _ ⟨y, y8, l3, rfl, M, hy, hy8, hp_l3, hn_l3, rfl⟩
   refine AD (AD (AB (yb rfl (yb rfl (RA rfl rfl (AC (AA (AN rfl (fun h35 => ?_) (fun h35 => ?_)))))))))
   ·have h35p := (odt h35)
    refine AL (AA (AR (srg ?_)))
    iterate 4 refine yb rfl ?_
    refine ya rfl (BF rfl rfl rfl AO) (yb rfl (yb rfl (cl 43 rfl (AQ rfl rfl call172) (dX g n cp fc fq rs hfc hcmp hm n y (y + z) y8 l3 _ AO AO AO AO (M.blk 0 rfl) hn_l3) ?_)))
    rintro _ w6 ⟨rfl, l3, hqw6, hbw6, hfw6⟩
    refine ⟨_, rfl, ?_⟩
    have M := M.putB 0 rfl hbw6 hfw6
    have hp_l3 : l3.Perm l := hqw6.trans hp_l3
    have hn_l3 : l3.length = n := hqw6.length_eq.trans hn_l3
    refine nq (srg (yb rfl (yb rfl (nq (AB (yb rfl (yb rfl (ya rfl (TF (a := 2) (b := z) rfl rfl rfl AO) (ya rfl (BF rfl rfl rfl AO) (yb rfl (AC (AH ?_))))))))))))
    refine fag ⟨y8, y8 + (2 * z), l3, rfl, M, ?_, ?_, ?_, ?_, rfl⟩
    ·omega
    ·omega
    ·first
      | assumption
      | (refine (DR ?_ ?_).trans (by assumption) <;> assumption)
    ·first
      | assumption
      | (simp; assumption)
   ·have h35p := (odf h35)
    refine BG (AJ (AJ (AY (AA (AD (srg (yb rfl (yb rfl (ya rfl (BF rfl rfl rfl AO) (yb rfl (nq (srg ?_))))))))))))
    refine yb rfl (yb rfl (CB rfl rfl (AC (AA (AN rfl (fun h54 => ?_) (fun h54 => ?_))))))
    ·have h54p := (odt h54)
     refine AB ?_
     iterate 5 refine yb rfl ?_
     refine cl 60 rfl (AQ rfl rfl call172) (dX g n cp fc fq rs hfc hcmp hm n y (y + z) n l3 _ AO AO AO AO (M.blk 0 rfl) hn_l3) ?_
     rintro _ w7 ⟨rfl, l4, hqw7, hbw7, hfw7⟩
     refine ⟨_, rfl, ?_⟩
     have M := M.putB 0 rfl hbw7 hfw7
     have hp_l4 : l4.Perm l := hqw7.trans hp_l3
     have hn_l4 : l4.length = n := hqw7.length_eq.trans hn_l3
     refine AC (AA (AB (yb rfl (ya rfl (TF (a := z) (b := 2) rfl rfl rfl AO) (yb rfl (AC (AH (fag ⟨z * 2, l4, rfl, M, ?_, ?_, ?_, rfl⟩))))))))
     ·omega
     ·first
       | assumption
       | (refine (DR ?_ ?_).trans (by assumption) <;> assumption)
     ·first
       | assumption
       | (simp; assumption)
    ·have h54p := (odf h54)
     refine AL (AA (AB (yb rfl (ya rfl (TF (a := z) (b := 2) rfl rfl rfl AO) (yb rfl (AC (AH (fag ⟨z * 2, l3, rfl, M, ?_, ?_, ?_, rfl⟩))))))))
     ·omega
     ·first
       | assumption
       | (refine (DR ?_ ?_).trans (by assumption) <;> assumption)
     ·first
       | assumption
       | (simp; assumption)
  ·exact BG (AJ (AJ (AY (CG (Or.inr rfl) rfl ⟨rfl, l2, hp_l2, M.blk 0 rfl, M.fr⟩))))
theorem X7 (g n cp : Nat) (fc : FuncId) (fq : Ar → Ar → Int) (rs : List Value) (hfc : ∀ (ar : Array Value) (w : World), (callFunc fc ar).run prog w = .ok (.enter fc ar) w) (hcmp : ∀ (a b : Ar) (w : World), Calls prog fc #[.agg a.cells.toArray, .agg b.cells.toArray] w fun e w' => e = .returned (.int .i64 (fq a b)) ∧ Fr0 w w') (hm : n ≤ 1000000000) (l : List Ar) (w : World) (hb : Blk w g 126 (AK Ar.cells l ++ rs)) (hn : l.length = n) :
 Calls prog 117 #[.slice (some ⟨g, 0, none⟩) n cp, .func (.func fc) #[] #[]] w fun e w' => e = .returned (.tuple #[]) ∧ ∃ l' : List Ar, l'.Perm l ∧ Blk w' g 126 (AK Ar.cells l' ++ rs) ∧ Fr (fun k => k = g) w w' := by
 have hp_l : l.Perm l := List.Perm.refl _
 have hn_l : l.length = n := hn
 refine BC (vs := [_, _]) func117 rfl ntmps117 rfl ?_
 have M : Mem w (fun k => k = g) [As.blk g 126 (AK Ar.cells l ++ rs)] w := Mem.one hb
 refine AB (yb rfl (yb rfl (ya rfl (C7 rfl rfl (sl rfl)) (yb rfl (cl 8 rfl (AQ rfl rfl call151) (eN g n cp fc fq rs hfc hcmp hm l _ (M.blk 0 rfl) hn_l) ?_)))))
 rintro _ w1 ⟨rfl, l1, hqw1, hbw1, hfw1⟩
 refine ⟨_, rfl, ?_⟩
 have M := M.putB 0 rfl hbw1 hfw1
 have hp_l1 : l1.Perm l := hqw1.trans hp_l
 have hn_l1 : l1.length = n := hqw1.length_eq.trans hn_l
 exact AC (CG (Or.inr rfl) rfl ⟨rfl, l1, hp_l1, M.blk 0 rfl, M.fr⟩)
theorem gV (A : Option Addr) (cp : Nat) (fc : FuncId) (w : World) : Calls prog 171 #[.slice A 0 cp, .int .i64 0, .int .i64 0, .func (.func fc) #[] #[]] w fun e w' => e = .returned (.tuple #[]) ∧ Fr0 w w' := by
 refine C2 func171 ntmps171 rfl fun M => srg (yb rfl (ya rfl (BF rfl rfl rfl AO) (yb rfl (nq (AR (FT (fun e wr mz => e = [(0, .slice A 0 cp), (1, .int .i64 0), (2, .int .i64 0), (3, .func (.func fc) #[] #[]), (8, .int .i64 1)] ∧ Mem w AV [] wr ∧ mz = 0) ⟨rfl, M, rfl⟩ ⟨rfl, rfl, rfl, rfl, rfl, trivial⟩ ?_))))))
 rintro _ w1 _ ⟨rfl, M, rfl⟩
 exact AD (srg (yb rfl (yb rfl (CB rfl rfl (nq (CK rfl (BG (AJ (AJ (AY (CG (Or.inr rfl) rfl ⟨rfl, M.fr⟩)))))))))))
theorem aO (A : Option Addr) (cp : Nat) (fc : FuncId) (w : World) : Calls prog 151 #[.slice A 0 cp, .int .i64 0, .func (.func fc) #[] #[]] w fun e w' => e = .returned (.tuple #[]) ∧ Fr0 w w' := by
 refine C2 func151 ntmps151 rfl fun M => srg (yb rfl (nq (srg (yb rfl (yb rfl (yb rfl (nq (AD (AR (FT (fun e wr mz => e = [(0, .slice A 0 cp), (1, .int .i64 0), (2, .func (.func fc) #[] #[]), (6, .int .i64 20), (7, .int .i64 0), (8, .int .i64 20)] ∧ Mem w AV [] wr ∧ mz = 0) ⟨rfl, M, rfl⟩ ⟨rfl, rfl, rfl, rfl, rfl, rfl, trivial⟩ ?_))))))))))
 rintro _ w1 _ ⟨rfl, M, rfl⟩
 refine AD (srg (yb rfl (yb rfl (RA rfl rfl (nq (CK rfl (BG (AJ (AJ (AY (AA (srg ?_))))))))))))
 iterate 4 refine yb rfl ?_
 refine D1 M 27 rfl rfl call171 (gV A cp fc _) fun w2 M => nq (AR (FT (fun e wr mz => e = [(0, .slice A 0 cp), (1, .int .i64 0), (2, .func (.func fc) #[] #[]), (6, .int .i64 20)] ∧ Mem w AV [] wr ∧ mz = 0) ⟨rfl, M, rfl⟩ ⟨rfl, rfl, rfl, rfl, trivial⟩ ?_))
 rintro _ w3 _ ⟨rfl, M, rfl⟩
 exact AD (srg (yb rfl (yb rfl (CB rfl rfl (nq (CK rfl (BG (AJ (AJ (AY (CG (Or.inr rfl) rfl ⟨rfl, M.fr⟩)))))))))))
theorem aP (A : Option Addr) (cp : Nat) (fc : FuncId) (w : World) : Calls prog 117 #[.slice A 0 cp, .func (.func fc) #[] #[]] w fun e w' => e = .returned (.tuple #[]) ∧ Fr0 w w' := by
 exact C2 func117 ntmps117 rfl fun M => AB (yb rfl (yb rfl (ya rfl (C7 rfl rfl (sl rfl)) (yb rfl (D1 M 8 rfl rfl call151 (aO A cp fc _) fun w1 M => AC (CG (Or.inr rfl) rfl ⟨rfl, M.fr⟩))))))
theorem eU (base : Nat) (A : Option Addr) (c n : Nat) (fc : FuncId) (fq : Ar → Ar → Int) (l : List Ar) (w : World) (hfc : ∀ (ar : Array Value) (w : World), (callFunc fc ar).run prog w = .ok (.enter fc ar) w) (hcmp : ∀ (a b : Ar) (w : World), Calls prog fc #[.agg a.cells.toArray, .agg b.cells.toArray] w fun e w' => e = .returned (.int .i64 (fq a b)) ∧ Fr0 w w') (hm : n ≤ 1000000000) (hn : l.length = n) (ho : w.ownsRow base 126 5 (.slice A n c) n (AK Ar.cells l)) :
 Calls prog 117 #[.slice A n c, .func (.func fc) #[] #[]] w fun e w' => e = .returned (.tuple #[]) ∧ ∃ l' : List Ar, l'.Perm l ∧ w'.ownsRow base 126 5 (.slice A n c) n (AK Ar.cells l') ∧ Fr (fun k => k ∈ (Value.slice A n c).ownBlock.toList) w w' := by
 rcases ho.2 with ⟨hv, h0⟩ | ⟨g, cap, cur, hv, hg, hb, hnc, hcm, hcs, ht⟩
 ·subst h0
  refine (aP A c fc w).mono ?_
  rintro e w' ⟨rfl, hf⟩
  exact ⟨rfl, l, List.Perm.refl _, (As.own base 126 5 (.slice A 0 c) 0 (AK Ar.cells l)).keep (fun k _ hk => hf.block k hk (fun hh => hh)) ho, Fr.of0 hf⟩
 ·injection hv with e1 _ e3
  subst e1; subst e3
  have hfl : (AK Ar.cells l).length = n * 5 := by rw [IR Ar.len, hn]
  have hcl : cur.toList = AK Ar.cells l ++ cur.toList.drop (n * 5) := by rw [← ht, List.take_append_drop]
  have hb' : Blk w g 126 (AK Ar.cells l ++ cur.toList.drop (n * 5)) := by rw [← hcl, Blk, Array.toArray_toList]; exact hb
  refine (X7 g n c fc fq (cur.toList.drop (n * 5)) hfc hcmp hm l w hb' hn).mono ?_
  rintro e w' ⟨rfl, l', hp, hb2, hf⟩
  have hl' : (AK Ar.cells l').length = n * 5 := by rw [IR Ar.len, hp.length_eq, hn]
  refine ⟨rfl, l', hp, ⟨hl', .inr ⟨g, c, _, rfl, hg, hb2, hnc, hcm, ?_, ?_⟩⟩, hf.mono fun k _ hk => ?_⟩
  ·have := congrArg List.length hcl
   rw [Array.length_toList, List.length_append, hfl] at this
   rw [List.size_toArray, List.length_append, hl', ← hcs]; omega
  ·rw [List.take_left' hl']
  ·subst hk; simp [Value.ownBlock]
end Go.Proofs.YtjaocmocdhckaaaGreatDoor
