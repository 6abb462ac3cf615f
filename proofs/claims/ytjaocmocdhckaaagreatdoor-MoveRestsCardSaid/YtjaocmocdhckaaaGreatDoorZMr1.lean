/- Lemmas that the last text rests on. Condition: each says its own. -/
import Derived.Test.YtjaocmocdhckaaaGreatDoorZMr0
set_option maxHeartbeats 16000000
set_option maxRecDepth 100000
namespace Go.Proofs.YtjaocmocdhckaaaGreatDoor
open Go.RowKit
open Tryz
theorem RP (m : Md) (a : MdA) (i : In) (V T : Option Addr) (vc tc : Nat) (tid : Int) (via : List UInt8) (next clock : Int) (w : World) (hs : MdStr m) (hM : MdIn w m a) (hok : BdOk i.vars) (hwk : ∀ t ∈ i.toks, (t.worker.length : Int) < 4611686018427387904) (hvia : via.length ≤ 4611686018427387903) (hV : Rd w V (i.vars.length * 5) (AH Bd.cells i.vars)) (hT : Rd w T (i.toks.length * 9) (AH Tk.cells i.toks)) (hY : Lay0 w) :
 Calls prog 3 #[.agg (Md.cells m a).toArray, .agg (In.cells i V T vc tc).toArray, AJ tid, str via, AJ next, AJ clock] w (CG w (.bool true)) := by
 have hvl := hok.len
 refine C5 func3 ntmps3 rfl fun M => srg (CR M rfl rfl fun g6 w1 hg6 M => CR M rfl rfl fun g7 w2 hg7 M => AY rfl (AF (srg (D4 M 22 rfl rfl call5 (QZ _ (hY.fr0 M.fr)) fun w3 M => BM rfl rfl ?_))))
 refine yd rfl (AU (xs := Md.cells m a) rfl rfl (M.rdBlk 1 rfl rfl) underlying26 rfl C0) (B3 (some 26) (BG rfl rfl rfl) rfl rfl (AP rfl rfl call6) (iL m a _) ?_)
 rintro _ w4 ⟨rfl, hfw4⟩
 refine ⟨_, rfl, ?_⟩
 have M := M.step hfw4
 refine BM rfl rfl (AO (d := 28) rfl (fun h28 => ?_) (fun h28 => ?_))
 ·iterate 4 refine yo rfl ?_
  exact AY rfl (EL rfl (srg (D4 M 34 rfl rfl call5 (QZ _ (hY.fr0 M.fr)) fun w5 M => yb rfl (gnr (AB (gr1 rfl ⟨rfl, M.fr⟩))))))
 ·have ho := hs.ok h28
  refine gyq rfl (CJ M 0 rfl rfl rfl (yd rfl (C3 rfl rfl (sl rfl)) (yd rfl (GC rfl rfl rfl) (AY rfl (AL rfl (fun h33 => ?_) (fun h33 => ?_))))))
  ·exact srg (D4 M 34 rfl rfl call5 (QZ _ (hY.fr0 M.fr)) fun w6 M => yb rfl (gnr (AB (gr1 rfl ⟨rfl, M.fr⟩))))
  ·have h33p := (odf h33)
   refine AI (AD (srg (CW M 1 rfl rfl underlying26 C0 rfl (cl 37 rfl (AP rfl rfl call7) (n8 m a _ ho (hM.fr0 M.fr) (hY.fr0 M.fr)) ?_))))
   rintro _ w7 ⟨p, er, c, F, rfl, hcr, hnw, hnc, hnil, hfw7⟩
   refine ⟨_, rfl, ?_⟩
   have M := M.push hfw7 (As.crs m p er c F) hcr hnc
   iterate 5 refine yb rfl ?_
   refine nq (AF (AQ rfl (DA rfl rfl (nq (AL rfl (fun h41 => ?_) (fun h41 => ?_))))))
   ·have h41p := (odf (CK h41))
    have her : ¬ er = 0 := by simpa using h41
    obtain rfl := hnil her
    exact AQ rfl (ya rfl (J5 rfl rfl rfl (pt rfl)) (yb rfl (gnr (AB (gr1 rfl ⟨rfl, M.fr⟩)))))
   ·have h41p := (odt (BQ h41))
    have her : er = 0 := by simpa using h41
    obtain ⟨gc, rfl, _⟩ := (M.ok 0 _ rfl) her
    have hR : Rl m := oT (hnw her)
    have Z : Cz m c := (M.crs 0 her rfl).cz
    have hil : ∀ q, (c.ins q).length ≤ 400 := fun q => (V4 hR Z q).2
    refine AI (AD (AQ rfl (CW M 1 rfl rfl underlying29 EN rfl ?_)))
    iterate 4 refine yb rfl ?_
    refine cl 51 rfl (AP rfl rfl call8) (sB m gc c F i V T vc tc tid via next clock _ ho hR (M.crs 0 her rfl) AM hok hwk hvia (hV.fr0 M.fr) (hT.fr0 M.fr) (hY.fr0 M.fr)) ?_
    rintro _ w8 ⟨ro, p, st, a0, a1, W0, vn, wc, X0, xc, a5, Y0, yn, yc, er1, rfl, hno, hyes, hres, hfw8⟩
    refine ⟨_, rfl, ?_⟩
    have M := M.push hfw8 (As.res _ _ [] (fun w2 => er1 = 0 → Rd w2 W0 (i.vars.length * 5) (AH Bd.cells i.vars) ∧ Rd w2 X0 (ro.length * 9) (AH Tk.cells ro))) (fun w2 h2 => hres w2 (oN h2)) (n7)
    refine BM rfl rfl (yb rfl (DC M rfl G4 fun g15 w9 hg15 M => C4 M 0 rfl rfl C6 rfl fun w10 M => AY rfl (AF (AQ rfl (DA rfl rfl (AR ?_))))))
    refine AD (AL rfl (fun h55 => ?_) (fun h55 => ?_))
    ·have h55p := (odf (CK h55))
     have he1 : ¬ er1 = 0 := by simpa using h55
     obtain ⟨rfl, rfl, rfl⟩ := hno he1
     refine AQ rfl (BC M 0 rfl rfl rfl (CN rfl rfl (yb rfl (AO (d := 59) rfl (fun h59 => ?_) (fun h59 => ?_)))))
     ·refine gyq rfl (CJ M 0 rfl rfl rfl (yd rfl (C3 rfl rfl (sl rfl)) (yd rfl (BZ rfl rfl rfl) (BM rfl rfl (gyq rfl (gyq rfl (CJ M 0 rfl rfl rfl (yd rfl (C3 rfl rfl (sl rfl)) (yd rfl (BZ rfl rfl rfl) (BM rfl rfl (gnr ?_)))))))))))
      exact AB (gr1 rfl ⟨by simp, M.fr⟩)
     ·have h59p := (odf h59)
      exact absurd rfl h59p
    ·have h55p := (odt (BQ h55))
     have he1 : er1 = 0 := by simpa using h55
     obtain ⟨rfl, O⟩ := hyes he1
     have hcnt := O.cnt
     have hlo := O.lo
     have hpl := O.pl
     have hol := O.len
     have hnb := (MH O.chk).1.2.1
     refine AI (AD (AF (AQ rfl (yb rfl (ya rfl (AU (xs := [AJ a0, str a1, .int .u8 (st.toNat : Int), .slice W0 i.vars.length wc, .slice X0 ro.length xc]) rfl rfl (FS (M.blk 0 rfl) 0 5 rfl rfl) underlying29 rfl EN) (yb rfl (BC M 0 rfl rfl rfl (yb rfl (D4 M 78 rfl rfl call9 (XH m gc c F (⟨a0, a1, st, i.vars, ro⟩ : In) W0 X0 wc xc a5 clock _ ho (M.crs 2 her rfl) hil O.len hok O.wk (M.resA 1 rfl _ (fun _ _ _ => rfl) he1).1 (M.resA 1 rfl _ (fun _ _ _ => rfl) he1).2 (hY.fr0 M.fr)) fun w11 M => DA rfl rfl (yb rfl (AO (d := 80) rfl (fun h80 => ?_) (fun h80 => ?_))))))))))))
     ·rw [if_pos O.chk] at h80; exact absurd h80 BU
     ·have h80p := (odt (BQ h80))
      refine gyq rfl (CJ M 0 rfl rfl rfl (gyq rfl (yd rfl (ED rfl rfl rfl) (BM rfl rfl (AO (d := 86) rfl (fun h86 => ?_) (fun h86 => ?_))))))
      ·have h86p := (odt h86)
       have := O.ge; omega
      ·have h86p := (odf h86)
       refine gyq rfl (gyq rfl (CJ M 0 rfl rfl rfl (yd rfl (BZ rfl rfl rfl) (gyq rfl (gyq rfl (CJ M 0 rfl rfl rfl (yd rfl (C3 rfl rfl (sl rfl)) (yd rfl (BZ rfl rfl rfl) (yd rfl (T5 rfl rfl rfl underlying4) (BM rfl rfl (AO (d := 98) rfl (fun h98 => ?_) (fun h98 => ?_))))))))))))
       ·rw [show decide ((st.toNat : Int) = (2 : Int)) = decide (((ro.length : Nat) : Int) = (0 : Int)) from decide_eq_decide.2 (by have := O.st; omega)] at h98; simp at h98
       ·refine gyq rfl (gyq rfl (CJ M 0 rfl rfl rfl (gyq rfl (CJ M 3 rfl rfl rfl (yd rfl (E4 rfl rfl rfl) (AY rfl (AL rfl (fun h105 => ?_) (fun h105 => ?_))))))))
        ·have h105p := (odf (CK h105))
         exact absurd O.id h105p
        ·have h105p := (odt (BQ h105))
         refine AI (AD (AQ rfl (AY rfl (AF (srg (AY rfl (AS (flp [15, 7, 5, 4, 2] (fun ze e wr mz => ∃ (k : Nat) (g : Int), e = (16, AJ g) :: (17, AJ ((k : Nat) : Int)) :: ze ∧ Mem w B0 [As.blk g15 38 [AJ a0, str a1, .int .u8 (st.toNat : Int), .slice W0 i.vars.length wc, .slice X0 ro.length xc, AJ a5, .slice Y0 yn yc], As.res _ _ [] (fun w2 => er1 = 0 → Rd w2 W0 (i.vars.length * 5) (AH Bd.cells i.vars) ∧ Rd w2 X0 (ro.length * 9) (AH Tk.cells ro)), As.crs m (some ⟨gc, 0, none⟩) er c F, As.blk g7 29 (In.cells i V T vc tc), As.blk g6 26 (Md.cells m a)] wr ∧ (k ≤ ro.length) ∧ (g = next + ((k - p : Nat) : Int)) ∧ mz = ro.length - k) ⟨0, next, rfl, M, Nat.zero_le _, by simp, rfl⟩ ?_))))))))
         rintro _ w12 _ ⟨k, g, rfl, M, hk, hg, rfl⟩
         refine AF (AQ rfl (BM rfl rfl (BC M 0 rfl rfl rfl (ya rfl (C3 rfl rfl (sl rfl)) (CF rfl rfl (nq (AL rfl (fun h112 => ?_) (fun h112 => ?_))))))))
         ·have h112p := (odt h112)
          refine AI (AD (AF (AS (AQ rfl (yb rfl (BC M 0 rfl rfl rfl (yb rfl ?_)))))))
          obtain ⟨y, hy⟩ := CC (l := ro) (i := k) AM
          obtain ⟨b_y, o_y, hA_y⟩ := BI (k := 9) AM ((M.resA 1 rfl _ (fun _ _ _ => rfl) he1).2) hy
          refine ya rfl (B1 k hA_y rfl rfl rfl (sl rfl) AM) (ya rfl (AU rfl rfl (BV Tk.len ((M.resA 1 rfl _ (fun _ _ _ => rfl) he1).2) hA_y hy) underlying43 rfl BD) (DC M rfl FE fun g18 w13 hg18 M => C4 M 0 rfl rfl BD rfl fun w14 M => nq (AF (AQ rfl (BC M 0 rfl rfl rfl (yb rfl (LD rfl rfl (AR ?_))))))))
          refine AD (AL rfl (fun h124 => ?_) (fun h124 => ?_))
          ·have h124p := (odt h124)
           refine AQ rfl (ya rfl (BO rfl rfl rfl AM) (AY rfl (AF (AQ rfl (BC M 0 rfl rfl rfl (yb rfl (DA rfl rfl (yb rfl (AO (d := 131) rfl (fun h131 => ?_) (fun h131 => ?_))))))))))
           ·have h131p := (odf (CK h131))
            exfalso
            by_cases hkp : k < p
            ·have := (O.old k y hy hkp).1; omega
            ·have h2 := O.new k y hy AM; omega
           ·have h131p := (odt (BQ h131))
            refine gyq rfl (CJ M 0 rfl rfl rfl (yd rfl (FP rfl rfl rfl) (gyq rfl (AO (d := 135) rfl (fun h135 => ?_) (fun h135 => ?_)))))
            ·have h135p := (odf (CK h135))
             refine gyq rfl (CJ M 0 rfl rfl rfl (gyq rfl (yd rfl (E4 rfl rfl rfl) (gyq rfl (BM rfl rfl (AO (d := 142) rfl (fun h142 => ?_) (fun h142 => ?_)))))))
             ·have h142p := (odf (CK h142))
              exfalso
              by_cases hkp : k < p
              ·have := (O.old k y hy hkp).1; omega
              ·have h2 := O.new k y hy AM; exact h142p (h2.2.1 h135p)
             ·have h142p := (odt (BQ h142))
              refine gyq rfl (CJ M 0 rfl rfl rfl (yd rfl (FP rfl rfl rfl) (AY rfl (AL rfl (fun h146 => ?_) (fun h146 => ?_)))))
              ·have h146p := (odf (CK h146))
               exfalso
               by_cases hkp : k < p
               ·have := (O.old k y hy hkp).1; omega
               ·have h2 := O.new k y hy AM; exact h146p h2.2.2
              ·have h146p := (odt (BQ h146))
               refine AI (AD (BF (AG (AV (AD (AK (yb rfl (ya rfl (BO rfl rfl rfl AM) (yb rfl (AR (fag ⟨k + 1, (g + (1 : Int)), rfl, (M.pk [1, 2, 3, 4, 5]), ?_, ?_, rfl⟩)))))))))))
               ·omega
               ·rcases Nat.lt_or_ge k p with hkp | hkp
                ·have := (O.old k y hy hkp).1; omega
                ·have := (O.new k y hy hkp).1; omega
            ·have h135p := (odt (BQ h135))
             iterate 4 refine yo rfl ?_
             refine gyq rfl (BM rfl rfl (gyq rfl (CJ M 0 rfl rfl rfl (yd rfl (FP rfl rfl rfl) (AY rfl (AL rfl (fun h146 => ?_) (fun h146 => ?_)))))))
             ·have h146p := (odf (CK h146))
              exfalso
              by_cases hkp : k < p
              ·have := (O.old k y hy hkp).1; omega
              ·have h2 := O.new k y hy AM; exact h146p h2.2.2
             ·have h146p := (odt (BQ h146))
              refine AI (AD (BF (AG (AV (AD (AK (yb rfl (ya rfl (BO rfl rfl rfl AM) (yb rfl (AR (fag ⟨k + 1, (g + (1 : Int)), rfl, (M.pk [1, 2, 3, 4, 5]), ?_, ?_, rfl⟩)))))))))))
              ·omega
              ·rcases Nat.lt_or_ge k p with hkp | hkp
               ·have := (O.old k y hy hkp).1; omega
               ·have := (O.new k y hy hkp).1; omega
          ·have h124p := (odf h124)
           refine AI (AD (srg (AY rfl (AF (srg (AY rfl (AS (flp [18, 17, 16, 15, 7, 5, 4, 2] (fun ze e wr mz => ∃ (q : Nat) (b : Bool), e = (19, .bool b) :: (20, AJ ((q : Nat) : Int)) :: ze ∧ Mem w B0 [As.blk g18 43 (Tk.cells y), As.blk g15 38 [AJ a0, str a1, .int .u8 (st.toNat : Int), .slice W0 i.vars.length wc, .slice X0 ro.length xc, AJ a5, .slice Y0 yn yc], As.res _ _ [] (fun w2 => er1 = 0 → Rd w2 W0 (i.vars.length * 5) (AH Bd.cells i.vars) ∧ Rd w2 X0 (ro.length * 9) (AH Tk.cells ro)), As.crs m (some ⟨gc, 0, none⟩) er c F, As.blk g7 29 (In.cells i V T vc tc), As.blk g6 26 (Md.cells m a)] wr ∧ (q ≤ i.toks.length) ∧ (b = (i.toks.take q).any (fun z => Tk.same z y && !decide (y.id = tid))) ∧ mz = i.toks.length - q) ⟨0, false, rfl, M, Nat.zero_le _, rfl, rfl⟩ ?_))))))))
           rintro _ w15 _ ⟨q, b, rfl, M, hq, hb, rfl⟩
           refine AF (AQ rfl (yb rfl (BC M 4 rfl rfl rfl (ya rfl (C3 rfl rfl (sl rfl)) (CF rfl rfl (nq (AL rfl (fun h151 => ?_) (fun h151 => ?_))))))))
           ·have h151p := (odt h151)
            refine AI (AD (AF (AS (ER CZ gkr ?_))))
            have M := M.drew
            refine sb rfl (sb rfl (DU (d := 155) rfl (fun h155 => ?_) (fun h155 => ?_)))
            ·iterate 8 refine DV rfl rfl rfl rfl rfl rfl ?_
             iterate 4 refine fC rfl rfl rfl rfl rfl ?_
             refine DV rfl rfl rfl rfl rfl rfl (sb rfl (sb rfl (FA (AE (AD (AK (yb rfl (ya rfl (BO rfl rfl rfl AM) (yb rfl (AR (fag ⟨q + 1, true, rfl, M, ?_, ?_, rfl⟩)))))))))))
             ·omega
             ·first
               | rw [B4 hz, List.any_append, ← hb]
               | rw [B4 (List.getElem?_eq_getElem (show q < i.toks.length by omega)), List.any_append, ← hb]
              first
               | (simp [h155, h163]; done)
               | simp [h155]
            ·refine gsg rfl (yp rfl) (gsg rfl (BW rfl rfl (sc rfl) (M.cell 4 rfl rfl)) (gsg rfl (yp rfl) ?_))
             obtain ⟨z, hz⟩ := CC (l := i.toks) (i := q) AM
             obtain ⟨b_z, o_z, hA_z⟩ := BI (k := 9) AM (hT.fr0 M.fr) hz
             refine gsg rfl (B1 q hA_z rfl rfl rfl (sl rfl) AM) (gsg rfl (AU rfl rfl (BV Tk.len (hT.fr0 M.fr) hA_z hz) underlying43 rfl BD) (gsg rfl (AU (xs := Tk.cells y) rfl rfl (M.rdBlk 0 rfl rfl) underlying43 rfl BD) (gsg rfl (NE (a := z) (b := y) rfl rfl rfl) (gsg rfl (yp rfl) (DU (d := 163) rfl (fun h163 => ?_) (fun h163 => ?_))))))
             ·refine gsg rfl (yp rfl) (gsg rfl (BW rfl rfl (sc rfl) (M.cell 0 rfl rfl)) (gsg rfl (yp rfl) (gsg rfl (E4 rfl rfl rfl) (gsg rfl (yp rfl) (sb rfl (sb rfl (FA (AE (AD (AK (yb rfl (ya rfl (BO rfl rfl rfl AM) (yb rfl (AR (fag ⟨q + 1, (!decide (y.id = tid)), rfl, M, ?_, ?_, rfl⟩)))))))))))))))
              ·omega
              ·first
                | rw [B4 hz, List.any_append, ← hb]
                | rw [B4 (List.getElem?_eq_getElem (show q < i.toks.length by omega)), List.any_append, ← hb]
               first
                | (simp [h155, h163]; done)
                | simp [h155]
             ·iterate 4 refine DV rfl rfl rfl rfl rfl rfl ?_
              refine gsg rfl (yp rfl) (sb rfl (sb rfl (FA (AE (AD (AK (yb rfl (ya rfl (BO rfl rfl rfl AM) (yb rfl (AR (fag ⟨q + 1, false, rfl, M, ?_, ?_, rfl⟩)))))))))))
              ·omega
              ·first
                | rw [B4 hz, List.any_append, ← hb]
                | rw [B4 (List.getElem?_eq_getElem (show q < i.toks.length by omega)), List.any_append, ← hb]
               first
                | (simp [h155, h163]; done)
                | simp [h155]
           ·have h151p := (odf h151)
            refine BF (AG (AG ?_))
            obtain rfl : q = i.toks.length := by omega
            rw [List.take_length] at hb
            refine AV (AD (AQ rfl (AY rfl (AL rfl (fun h171 => ?_) (fun h171 => ?_)))))
            ·have h171p := (CK h171)
             exfalso
             have hkp : k < p := Classical.byContradiction fun hkp => by have := (O.new k y hy AM).1; omega
             obtain ⟨_, hne, hmem⟩ := O.old k y hy hkp
             have hbt : b = true := by rw [hb]; exact List.any_eq_true.2 ⟨y, hmem, by simp [J2, hne]⟩
             rw [hbt] at h171; cases h171
            ·have h171p := (BQ h171)
             refine AI (AE (AD (AK (yb rfl (ya rfl (BO rfl rfl rfl AM) (yb rfl (AR (fag ⟨k + 1, g, rfl, (M.pk [1, 2, 3, 4, 5]), ?_, ?_, rfl⟩))))))))
             ·omega
             ·rcases Nat.lt_or_ge k p with hkp | hkp
              ·have := (O.old k y hy hkp).1; omega
              ·have := (O.new k y hy hkp).1; omega
         ·have h112p := (odf h112)
          refine BF (AG (AG ?_))
          obtain rfl : k = ro.length := by omega
          refine AV (AD (AF (srg (AY rfl (AS (flp [16, 15, 7] (fun ze e wr mz => ∃ (v : Nat), e = (21, AJ ((v : Nat) : Int)) :: ze ∧ Mem w B0 [As.blk g15 38 [AJ a0, str a1, .int .u8 (st.toNat : Int), .slice W0 i.vars.length wc, .slice X0 ro.length xc, AJ a5, .slice Y0 yn yc], As.res _ _ [] (fun w2 => er1 = 0 → Rd w2 W0 (i.vars.length * 5) (AH Bd.cells i.vars) ∧ Rd w2 X0 (ro.length * 9) (AH Tk.cells ro)), As.crs m (some ⟨gc, 0, none⟩) er c F, As.blk g7 29 (In.cells i V T vc tc), As.blk g6 26 (Md.cells m a)] wr ∧ (v ≤ i.vars.length) ∧ mz = i.vars.length - v) ⟨0, rfl, M, Nat.zero_le _, rfl⟩ ?_))))))
          rintro _ w16 _ ⟨v, rfl, M, hv, rfl⟩
          refine AF (AQ rfl (yb rfl (BC M 3 rfl rfl rfl (ya rfl (C3 rfl rfl (sl rfl)) (CF rfl rfl (nq (AL rfl (fun h176 => ?_) (fun h176 => ?_))))))))
          ·have h176p := (odt h176)
           refine AI (AD (AF (AS (AF (DP 28 CZ gkr ?_)))))
           have M := M.drew
           refine sb rfl (sb rfl (FL M 0 rfl rfl rfl (sb rfl ?_)))
           obtain ⟨zr, hzr⟩ := CC (l := (i.vars)) (i := v) AM
           obtain ⟨b_zr, o_zr, hA_zr⟩ := BI (k := 5) AM ((M.resA 1 rfl _ (fun _ _ _ => rfl) he1).1) hzr
           refine sa rfl (B1 v hA_zr rfl rfl rfl (sl rfl) AM) (sb rfl (sa rfl (BW rfl rfl (sc rfl) (DQ Bd.len ((M.resA 1 rfl _ (fun _ _ _ => rfl) he1).1) hA_zr hzr 0 rfl)) (sb rfl (FL M 3 rfl rfl rfl (sb rfl ?_)))))
           obtain ⟨z, hz⟩ := CC (l := i.vars) (i := v) AM
           obtain ⟨b_z, o_z, hA_z⟩ := BI (k := 5) AM (hV.fr0 M.fr) hz
           have hzz : zr = z := Option.some.inj (hzr.symm.trans hz)
           refine sa rfl (B1 v hA_z rfl rfl rfl (sl rfl) AM) (sb rfl (sd rfl rfl (DQ Bd.len (hV.fr0 M.fr) hA_z hz 0 rfl) (sa rfl (FP rfl rfl rfl) (sb rfl (DU (d := 193) rfl (fun h193 => ?_) (fun h193 => ?_))))))
           ·rw [hzz] at h193; exact absurd h193 (by simp)
           ·have h193p := (odt (BQ h193))
            refine gsg rfl (yp rfl) (gsg rfl (yp rfl) (gsg rfl (BW rfl rfl (sc rfl) (M.cell 0 rfl rfl)) (gsg rfl (yp rfl) (gsg rfl (B1 v hA_zr rfl rfl rfl (sl rfl) AM) (gsg rfl (yp rfl) (gsg rfl (AU (xs := Vl.cells zr.v) rfl rfl (UJ Bd.len ((M.resA 1 rfl _ (fun _ _ _ => rfl) he1).1) hA_zr hzr 1 4 rfl rfl) underlying45 rfl AC) (gsg rfl (yp rfl) (gsg rfl (BW rfl rfl (sc rfl) (M.cell 3 rfl rfl)) (gsg rfl (yp rfl) (gsg rfl (B1 v hA_z rfl rfl rfl (sl rfl) AM) (gsg rfl (yp rfl) (gsg rfl (AU (xs := Vl.cells z.v) rfl rfl (UJ Bd.len (hV.fr0 M.fr) hA_z hz 1 4 rfl rfl) underlying45 rfl AC) (CS (B3 (some 207) (BG rfl rfl rfl) rfl rfl (AP rfl rfl call10) (VP zr.v z.v _) ?_))))))))))))))
            rintro _ w17 ⟨rfl, hfw17⟩
            refine ⟨_, rfl, ?_⟩
            have M := M.step hfw17
            refine gyq rfl (AY rfl (AL rfl (fun h209 => ?_) (fun h209 => ?_)))
            ·rw [hzz] at h209; exact absurd h209 (by simp [Vl.same])
            ·have h209p := (BQ h209)
             refine AI (AE (AD (AK (yb rfl (ya rfl (BO rfl rfl rfl AM) (yb rfl (AR (fag ⟨v + 1, rfl, M, ?_, rfl⟩))))))))
             ·omega
          ·have h176p := (odf h176)
           refine BF (AG (AG (AV (AD (AQ rfl (yb rfl (BC M 0 rfl rfl rfl (CN rfl rfl (yb rfl (AO (d := 214) rfl (fun h214 => ?_) (fun h214 => ?_)))))))))))
           ·exact gyq rfl (gyq rfl (CJ M 0 rfl rfl rfl (yd rfl (C3 rfl rfl (sl rfl)) (gyq rfl (CJ M 3 rfl rfl rfl (yd rfl (C3 rfl rfl (sl rfl)) (yd rfl (BZ rfl rfl rfl) (BM rfl rfl (gnr (gr1 rfl ⟨by simp, M.fr⟩))))))))))
           ·have h214p := (odf h214)
            exfalso; have := O.cnt; omega
end Go.Proofs.YtjaocmocdhckaaaGreatDoor
