/- Lemmas that the last text rests on. Condition: each says its own. -/
import Derived.Test.YtjaocmocdhckaaaGreatDoorZMw10
set_option maxHeartbeats 16000000
set_option maxRecDepth 100000
namespace Go.Proofs.YtjaocmocdhckaaaGreatDoor
open Go.RowKit
open Tryz
def l5 (m : Md) (l : List Bd) (next clock : Int) : Bool := ((((!(HO l m.vars)) || (decide (next < (0 : Int)))) || (decide ((2147483647 : Int) ≤ next))) || (decide (clock < (0 : Int)))) || (decide ((1099511627776 : Int) < clock))
def l0 (m : Md) (l : List Bd) (next clock : Int) : Bool := !(l5 m l next clock)
theorem oI {m : Md} {l : List Bd} {next clock : Int} (h : l5 m l next clock = false) : HO l m.vars = true ∧ 0 ≤ next ∧ next < 2147483647 := by
 unfold l5 at h
 simp only [Bool.or_eq_false_iff, decide_eq_false_iff_not, Bool.not_eq_false'] at h
 exact ⟨h.1.1.1.1, by omega, by omega⟩
theorem nL {α : Type} {p : α → Bool} {l : List α} (h : ∃ x ∈ l, p x = true) : ∀ i : Nat, ∃ j x, ixJ (fun (_ : Nat) => p) i l = ((i + j : Nat) : Int) ∧ l[j]? = some x ∧ p x = true := by
 induction l with
 | nil => obtain ⟨x, hx, _⟩ := h; cases hx
 | cons b r ih =>
  intro i
  unfold ixJ
  by_cases hb : p b = true
  ·exact ⟨0, b, by rw [if_pos hb]; rfl, rfl, hb⟩
  ·rw [if_neg hb]
   obtain ⟨x, hx, hp⟩ := h
   rcases List.mem_cons.1 hx with rfl | hx
   ·exact absurd hp hb
   ·obtain ⟨j, a, h1, h2, h3⟩ := ih ⟨x, hx, hp⟩ (i + 1)
    exact ⟨j + 1, a, by rw [h1]; congr 1; omega, by simpa using h2, h3⟩
theorem kZ {m : Md} (R : Rl m) : ∃ j x, ixJ (fun (_ : Nat) (x : El) => (decide ((x.kind.toNat : Int) = (1 : Int)) && decide (x.inn = []))) 0 m.els = ((j : Nat) : Int) ∧ m.els[j]? = some x ∧ x.kind.toNat = 1 ∧ x.inn = [] := by
 have h5 := R.five [] List.mem_cons_self
 unfold RZ at h5
 simp only [Bool.and_eq_true, decide_eq_true_eq] at h5
 have h1 : 0 < cntK 1 m.els [] := by omega
 unfold cntK at h1
 obtain ⟨x, hx⟩ := List.exists_mem_of_length_pos h1
 obtain ⟨hx1, hx2⟩ := List.mem_filter.1 hx
 simp only [Bool.and_eq_true, decide_eq_true_eq] at hx2
 obtain ⟨j, y, h1, h2, h3⟩ := nL (p := fun x : El => (decide ((x.kind.toNat : Int) = (1 : Int)) && decide (x.inn = []))) ⟨x, hx1, by simp [hx2.1, hx2.2]⟩ 0
 simp only [Bool.and_eq_true, decide_eq_true_eq] at h3
 exact ⟨j, y, by rw [h1, Nat.zero_add], h2, by omega, h3.2⟩
theorem LM (a0 : Int) (a1 : List UInt8) (A3 : Option Addr) (n3 c3 : Nat) : prog.built 29 [(0, AJ a0), (1, str a1), (3, .slice A3 n3 c3)] = some #[AJ a0, str a1, .int .u8 0, .slice A3 n3 c3, .slice none 0 0] := by kernel_rfl
theorem dR (x : El) (w : World) :
 Calls prog 34 #[.agg x.cells.toArray] w (CG w (.bool (decide ((x.kind.toNat : Int) = (1 : Int)) && decide (x.inn = [])))) := by
 refine C5 func34 ntmps34 rfl fun M => srg (CR M rfl rfl fun g1 w1 hg1 M => AY rfl (AQ rfl (BC M 0 rfl rfl rfl (CN rfl rfl (yb rfl (fvm M 4 [2] [(10, .bool ((decide ((x.kind.toNat : Int) = (1 : Int))) && (decide (x.inn = []))))] ?_ (fun k6 => ?_)))))))
 ·intro w2 M
  exact yb rfl (gnr (gr1 rfl ⟨rfl, M.fr⟩))
 refine AO (d := 6) rfl (fun h6 => ?_) (fun h6 => ?_)
 ·exact gyq rfl (CJ M 0 rfl rfl rfl (yd rfl (DM rfl rfl rfl) (yb rfl (k6 M ⟨rfl, (by rw [h6]; rfl), trivial⟩))))
 ·exact yo rfl (yo rfl (yo rfl (yb rfl (k6 M ⟨rfl, (by rw [h6]; rfl), trivial⟩))))
theorem kY (m : Md) (gc : Nat) (c : CrA) (F : List Nat) (l : List Bd) (V : Option Addr) (vc : Nat) (next clock : Int) (w : World) (ho : MdOk m) (R : Rl m) (hC : CourseN w m gc c F) (hok : BdOk l) (hV : Rd w V (l.length * 5) (AH Bd.cells l)) (hY : Lay0 w) :
 Calls prog 13 #[pg gc, .slice V l.length vc, AJ next, AJ clock] w fun e w' => Fr0 w w' ∧ ((e = .returned (.tuple #[.agg zMvd.toArray, AJ 1]) ∧ l0 m l next clock = false) ∨ (l0 m l next clock = true ∧ ∃ x ∈ m.els, x.kind.toNat = 1 ∧ x.inn = [] ∧ ∀ w2, SP w.heap.size [] w' w2 → MvD m c ⟨next + 1, m.id, 0, l, []⟩ [] (((c.outs x.id)[0]?).getD []) [x.id] (next + 1) clock e w2)) := by
 have Z := hC.cz
 have hne := ho.nels
 refine C5 func13 ntmps13 rfl fun M => srg (DC M rfl G4 fun g8 w1 hg8 M => AY rfl (AF (AQ rfl (ya rfl (J5 rfl rfl rfl (pt rfl)) (nq (D8 rfl ?_))))))
 refine AI (AD (AF (AQ rfl (yb rfl (D4 M 17 rfl rfl call26 (Z8 m gc c F l V vc _ (hC.fr0 M.fr) hok (hV.fr0 M.fr) (hY.fr0 M.fr)) fun w2 M => BM rfl rfl (fvm M 3 [8, 3, 2, 1, 0] [(22, .bool ((!(HO l m.vars)) || (decide (next < (0 : Int)))))] ?_ (fun k19 => ?_)))))))
 ·intro w3 M
  refine yb rfl (fvm M 3 [8, 3, 2, 1, 0] [(26, .bool (((!(HO l m.vars)) || (decide (next < (0 : Int)))) || (decide ((2147483647 : Int) ≤ next))))] ?_ (fun k23 => ?_))
  ·intro w4 M
   refine yb rfl (fvm M 3 [8, 3, 2, 1, 0] [(30, .bool ((((!(HO l m.vars)) || (decide (next < (0 : Int)))) || (decide ((2147483647 : Int) ≤ next))) || (decide (clock < (0 : Int)))))] ?_ (fun k27 => ?_))
   ·intro w5 M
    refine yb rfl (fvm M 3 [8, 3, 2, 1, 0] [(34, .bool (((((!(HO l m.vars)) || (decide (next < (0 : Int)))) || (decide ((2147483647 : Int) ≤ next))) || (decide (clock < (0 : Int)))) || (decide ((1099511627776 : Int) < clock))))] ?_ (fun k31 => ?_))
    ·intro w6 M
     refine nq (AL rfl (fun h34 => ?_) (fun h34 => ?_))
     ·have h34p := ((EO h34).imp (fun z => ((EO z).imp (fun z => ((EO z).imp (fun z => ((EO z).imp (fun z => (CK z)) (fun z => (odt z)))) (fun z => (odt z)))) (fun z => (odt z)))) (fun z => (odt z)))
      exact srg (ya rfl (BA (parts := []) rfl rfl (G8)) (C4 M 0 rfl rfl C6 rfl fun w7 M => yb rfl (gnr (AB (B9 rfl rfl (M.rdBlk 0 rfl rfl) underlying38 rfl C6 rfl ⟨M.fr, .inl ⟨rfl, by rw [l0, l5, h34]; rfl⟩⟩)))))
     ·have h34p := (And.intro (And.intro (And.intro (And.intro (BQ (CP (CP (CP (CP h34).1).1).1).1) (odf (CP (CP (CP (CP h34).1).1).1).2)) (odf (CP (CP (CP h34).1).1).2)) (odf (CP (CP h34).1).2)) (odf (CP h34).2))
      obtain ⟨hvE, hn1, hn2⟩ := oI (m := m) (l := l) (next := next) (clock := clock) h34
      have hvl : l.length ≤ 1000 := by rw [R4 hvE]; have := R.lens.2.2; omega
      refine AI (AD (srg ?_))
      iterate 4 refine yb rfl ?_
      refine yl rfl rfl (Blk.c ((hC.fr0 M.fr).blk) 3 rfl) (cl 41 rfl (AP rfl rfl call33) (QQ El.cells El.len c.a.E c.a.ec m.els AM 34 [] (fun (_ : Nat) (x : El) => (decide ((x.kind.toNat : Int) = (1 : Int)) && decide (x.inn = []))) B0 (fun _ _ => True) _ (GN call34 (fun x _ w9 _ => dR x w9)) (fun _ hf9 => (hC.fr0 M.fr).md.md.els.fr0 hf9) trivial) ?_)
      rintro _ w8 ⟨rfl, _, hfw8⟩
      refine ⟨_, rfl, ?_⟩
      have M := M.step hfw8
      obtain ⟨j, x, hj, hx, hx1, hx2⟩ := kZ R
      have hxm : x ∈ m.els := List.mem_of_getElem? hx
      have hjl : j < m.els.length := (List.getElem?_eq_some_iff.1 hx).1
      rw [hj]
      obtain ⟨b_x, o_x, hA_x⟩ := BI (k := 11) AM ((hC.fr0 M.fr).md.md.els) hx
      have hz0 := GZ R Z hxm AM
      refine AY rfl (srg ?_)
      iterate 4 refine yb rfl ?_
      refine yl rfl rfl (Blk.c ((hC.fr0 M.fr).blk) 3 rfl) (yb rfl (ya rfl (B1 j hA_x rfl rfl rfl (sl rfl) AM) (yb rfl (yl rfl rfl (DQ El.len ((hC.fr0 M.fr).md.md.els) hA_x hx 0 rfl) (AY rfl (AF (CV 26 (fun w' => Mem w B0 [As.blk g8 38 [AJ 0, str [], .int .u8 0, .slice none 0 0, .slice none 0 0, AJ 0, .slice none 0 0]] w') CZ ?_)))))))
      have M := M.drew
      refine oc 0 26 rfl rfl M (oc 1 26 rfl rfl M (oa 2 26 rfl rfl M (fun _ M => BO rfl rfl rfl AM) (oc 3 26 rfl rfl M (oc 4 26 rfl rfl M (oc 5 26 rfl rfl M (oc 6 26 rfl rfl M (ol 7 26 rfl rfl rfl M (fun _ M => (Blk.c ((hC.fr0 M.fr).blk) 0 rfl)) (oc 8 26 rfl rfl M (oa 9 26 rfl rfl M (fun _ M => BA (parts := [(0, _), (1, _), (3, _)]) rfl rfl (LM _ _ _ _ _)) (oc 10 26 rfl rfl M (oc 11 26 rfl rfl M (oc 12 26 rfl rfl M (ol 13 26 rfl rfl rfl M (fun _ M => (Blk.c ((hC.fr0 M.fr).blk) 8 rfl)) (oc 14 26 rfl rfl M (oa 15 26 rfl rfl M (fun _ M => BT rfl rfl rfl underlying64 underlying9 DH ((hC.fr0 M.fr).O) (hC.getO _)) ?_)))))))))))))))
      obtain ⟨z, hz⟩ := CC (l := (c.outs x.id)) (i := 0) AM
      obtain ⟨b_z, o_z, hA_z⟩ := BI (k := 1) AM ((hC.fr0 M.fr).rdO _) hz
      refine oa 16 26 rfl rfl M (fun _ M => B1 0 hA_z rfl rfl rfl (sl rfl) AM) (ol 17 26 rfl rfl rfl M (fun _ M => (DQ E0 ((hC.fr0 M.fr).rdO _) hA_z hz 0 rfl)) (oc 18 26 rfl rfl M (oc 20 26 rfl rfl M (oa 21 26 rfl rfl M (fun _ M => BO rfl rfl rfl AM) (oc 22 26 rfl rfl M (BB 19 (some 70) gkr rfl (AA rfl) rfl rfl (fun ρ hρ => DR [str x.id] _ hρ rfl rfl rfl rfl underlying36 D1 BU BU (HE rfl)) ?_))))))
      rintro _ w9 ⟨g70, rfl, hg70, hq70, hb70, hfw9⟩
      replace hb70 : Blk w9 g70 9 ([str x.id]) := hb70
      refine ⟨fun _ => M.step hfw9, ?_⟩
      have M := M.push hfw9 _ hb70 (EB hg70 hq70)
      replace M : Mem w B0 (As.blk g70 9 ([str x.id]) :: _) w9 := M
      have M := M.blkOwn 0 (size := 1) (n := 1) rfl rfl (by unfold maxLen; omega)
      have M := M.nilOwn 43 9
      have M2 := M.pk [1, 0, 2]
      refine C7 23 (some 74) gkr rfl (AA rfl) rfl rfl (AP rfl rfl call23) (WL w m gc c F (⟨next + 1, m.id, 0, l, []⟩ : In) V none none (some ⟨g70, 0, none⟩) vc 0 0 1 _ _ [] z [x.id] (next + 1) clock _ _ ho R hvl hok hV hY hC M.fr M2.new2 (fun t ht _ => by cases ht) (JU R Z (List.mem_of_getElem? hz)) (Nat.zero_le _) (by show 1 ≤ 2; decide) AM AM M2.self2) ?_
      rintro e9 w10 ⟨hfw10, hres⟩
      have M := M2.swap2 hfw10 hres
      obtain ⟨a0, a1, a2, W0, wn, wc, X0, xn, xc, a5, Y0, yn, yc, er, rfl, her⟩ := MvD.shape (hres _ fun _ _ _ => rfl)
      refine ⟨_, rfl, fun _ => (M.drop 1), ?_⟩
      refine oc 24 26 rfl rfl (M.drop 1) (oc 25 26 rfl rfl (M.drop 1) (BB 26 none gkr rfl (AA rfl) rfl rfl (fun ρ hρ => C2 38 _ _ rfl g8 0 38 _ ([AJ a0, str a1, .int .u8 a2, .slice W0 wn wc, .slice X0 xn xc, AJ a5, .slice Y0 yn yc]) (hρ _ _ rfl) (hρ _ _ rfl) (M.blk 1 rfl) C6 (BS rfl) (BP rfl)) ?_))
      rintro _ w11 ⟨rfl, hbw11, hfw11⟩
      replace M : Mem w B0 (List.set _ 1 (As.blk g8 38 [AJ a0, str a1, .int .u8 a2, .slice W0 wn wc, .slice X0 xn xc, AJ a5, .slice Y0 yn yc])) w11 := M.putB 1 rfl hbw11 hfw11
      exact ⟨fun h => absurd h BU, fo1 27 rfl rfl (yp rfl) (fdn (AD (BN (B9 rfl rfl (M.rdBlk 1 rfl rfl) underlying38 rfl C6 rfl ⟨M.fr, .inr ⟨by rw [l0, l5, h34]; rfl, x, hxm, hx1, hx2, by rw [hz]; exact M.resA 0 rfl⟩⟩))))⟩
    refine AO (d := 31) rfl (fun h31 => ?_) (fun h31 => ?_)
    ·exact yo rfl (yo rfl (yb rfl (k31 M ⟨rfl, rfl, rfl, rfl, rfl, (by rw [h31]; rfl), trivial⟩)))
    ·exact gyq rfl (yd rfl (GC rfl rfl rfl) (yb rfl (k31 M ⟨rfl, rfl, rfl, rfl, rfl, (by rw [h31]; rfl), trivial⟩)))
   refine AO (d := 27) rfl (fun h27 => ?_) (fun h27 => ?_)
   ·exact yo rfl (yo rfl (yb rfl (k27 M ⟨rfl, rfl, rfl, rfl, rfl, (by rw [h27]; rfl), trivial⟩)))
   ·exact gyq rfl (yd rfl (ED rfl rfl rfl) (yb rfl (k27 M ⟨rfl, rfl, rfl, rfl, rfl, (by rw [h27]; rfl), trivial⟩)))
  refine AO (d := 23) rfl (fun h23 => ?_) (fun h23 => ?_)
  ·exact yo rfl (yo rfl (yb rfl (k23 M ⟨rfl, rfl, rfl, rfl, rfl, (by rw [h23]; rfl), trivial⟩)))
  ·exact gyq rfl (yd rfl (FQ rfl rfl rfl) (yb rfl (k23 M ⟨rfl, rfl, rfl, rfl, rfl, (by rw [h23]; rfl), trivial⟩)))
 refine AO (d := 19) rfl (fun h19 => ?_) (fun h19 => ?_)
 ·exact yo rfl (yo rfl (yb rfl (k19 M ⟨rfl, rfl, rfl, rfl, rfl, (by rw [h19]; rfl), trivial⟩)))
 ·exact gyq rfl (yd rfl (ED rfl rfl rfl) (yb rfl (k19 M ⟨rfl, rfl, rfl, rfl, rfl, (by rw [h19]; rfl), trivial⟩)))
end Go.Proofs.YtjaocmocdhckaaaGreatDoor
