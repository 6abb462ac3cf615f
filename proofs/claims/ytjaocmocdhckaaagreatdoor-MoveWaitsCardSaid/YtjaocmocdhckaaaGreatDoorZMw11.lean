/- Lemmas that the last text rests on. Condition: each says its own. -/
import Derived.Test.YtjaocmocdhckaaaGreatDoorZMw10
set_option maxHeartbeats 16000000
set_option maxRecDepth 100000
namespace Go.Proofs.YtjaocmocdhckaaaGreatDoor
open Go.RowKit
open Tryz
def jZ (m : Md) (l : List Bd) (next clock : Int) : Bool := ((((!(FZ l m.vars)) || (decide (next < (0 : Int)))) || (decide ((2147483647 : Int) ≤ next))) || (decide (clock < (0 : Int)))) || (decide ((1099511627776 : Int) < clock))
def jY (m : Md) (l : List Bd) (next clock : Int) : Bool := !(jZ m l next clock)
theorem nL {m : Md} {l : List Bd} {next clock : Int} (h : jZ m l next clock = false) : FZ l m.vars = true ∧ 0 ≤ next ∧ next < 2147483647 := by
 unfold jZ at h
 simp only [Bool.or_eq_false_iff, decide_eq_false_iff_not, Bool.not_eq_false'] at h
 exact ⟨h.1.1.1.1, by omega, by omega⟩
theorem Z7 {α : Type} {p : α → Bool} {l : List α} (h : ∃ x ∈ l, p x = true) : ∀ i : Nat, ∃ j x, ixJ (fun (_ : Nat) => p) i l = ((i + j : Nat) : Int) ∧ l[j]? = some x ∧ p x = true := by
 induction l with
 | nil => obtain ⟨x, hx, _⟩ := h; cases hx
 | cons b r ih =>
  intro i
  unfold ixJ
  by_cases hb : p b = true
  ·exact ⟨0, b, by rw [if_pos hb]; rfl, rfl, hb⟩
  ·rw [if_neg hb]
   obtain ⟨x, hx, hp⟩ := h
   rcases List.mem_cons.1 hx with rfl | hx
   ·exact absurd hp hb
   ·obtain ⟨j, a, h1, h2, h3⟩ := ih ⟨x, hx, hp⟩ (i + 1)
    exact ⟨j + 1, a, by rw [h1]; congr 1; omega, by simpa using h2, h3⟩
theorem jX {m : Md} (R : Rl m) : ∃ j x, ixJ (fun (_ : Nat) (x : El) => (decide ((x.kind.toNat : Int) = (1 : Int)) && decide (x.inn = []))) 0 m.els = ((j : Nat) : Int) ∧ m.els[j]? = some x ∧ x.kind.toNat = 1 ∧ x.inn = [] := by
 have h5 := R.five [] List.mem_cons_self
 unfold RD at h5
 simp only [Bool.and_eq_true, decide_eq_true_eq] at h5
 have h1 : 0 < cntK 1 m.els [] := by omega
 unfold cntK at h1
 obtain ⟨x, hx⟩ := List.exists_mem_of_length_pos h1
 obtain ⟨hx1, hx2⟩ := List.mem_filter.1 hx
 simp only [Bool.and_eq_true, decide_eq_true_eq] at hx2
 obtain ⟨j, y, h1, h2, h3⟩ := Z7 (p := fun x : El => (decide ((x.kind.toNat : Int) = (1 : Int)) && decide (x.inn = []))) ⟨x, hx1, by simp [hx2.1, hx2.2]⟩ 0
 simp only [Bool.and_eq_true, decide_eq_true_eq] at h3
 exact ⟨j, y, by rw [h1, Nat.zero_add], h2, by omega, h3.2⟩
theorem KY (a0 : Int) (a1 : List UInt8) (A3 : Option Addr) (n3 c3 : Nat) : prog.built 29 [(0, .int .i64 a0), (1, str a1), (3, .slice A3 n3 c3)] = some #[.int .i64 a0, str a1, .int .u8 0, .slice A3 n3 c3, .slice none 0 0] := by kernel_rfl
theorem cQ (x : El) (w : World) :
 Calls prog 34 #[.agg x.cells.toArray] w fun e w' => e = .returned (.bool (decide ((x.kind.toNat : Int) = (1 : Int)) && decide (x.inn = []))) ∧ Fr0 w w' := by
 refine C2 func34 ntmps34 rfl fun M => AD (AB (CN M rfl rfl fun g1 w1 hg1 M => yb rfl (AC (AA (AD (AB (yb rfl (BA M 0 rfl rfl rfl (CI rfl rfl (yb rfl (fvm M 4 [2] [(10, .bool ((decide ((x.kind.toNat : Int) = (1 : Int))) && (decide (x.inn = []))))] ?_ (fun k6 => ?_))))))))))))
 ·intro w2 M
  exact yb rfl (nq (AI (gr1 rfl ⟨rfl, M.fr⟩)))
 refine AP (d := 6) rfl (fun h6 => ?_) (fun h6 => ?_)
 ·exact gyq rfl (CH M 0 rfl rfl rfl (yd rfl (D8 rfl rfl rfl) (yb rfl (k6 M ⟨rfl, (by rw [h6]; rfl), trivial⟩))))
 ·exact yo rfl (yo rfl (yo rfl (yb rfl (k6 M ⟨rfl, (by rw [h6]; rfl), trivial⟩))))
theorem jW (m : Md) (gc : Nat) (c : CrA) (F : List Nat) (l : List Bd) (V : Option Addr) (vc : Nat) (next clock : Int) (w : World) (ho : MdOk m) (R : Rl m) (hC : CourseN w m gc c F) (hok : BdOk l) (hV : Rd w V (l.length * 5) (AK Bd.cells l)) (hY : Lay0 w) :
 Calls prog 13 #[pg gc, .slice V l.length vc, .int .i64 next, .int .i64 clock] w fun e w' => Fr0 w w' ∧ ((e = .returned (.tuple #[.agg zMvd.toArray, .int .i64 1]) ∧ jY m l next clock = false) ∨ (jY m l next clock = true ∧ ∃ x ∈ m.els, x.kind.toNat = 1 ∧ x.inn = [] ∧ ∀ w2, cT w.heap.size [] w' w2 → MvD m c ⟨next + 1, m.id, 0, l, []⟩ [] (((c.outs x.id)[0]?).getD []) [x.id] (next + 1) clock e w2)) := by
 have Z := hC.cz
 have hne := ho.nels
 refine C2 func13 ntmps13 rfl fun M => srg (D6 M rfl ER fun g8 w1 hg8 M => yb rfl (nq (AD (srg (yb rfl (ya rfl (JP rfl rfl rfl (pt rfl)) (nq (CK rfl ?_))))))))
 refine AL (AA (AD (AD (AB (yb rfl (yb rfl (D1 M 17 rfl rfl call26 (YJ m gc c F l V vc _ (hC.fr0 M.fr) hok (hV.fr0 M.fr) (hY.fr0 M.fr)) fun w2 M => yb rfl (yb rfl (fvm M 3 [8, 3, 2, 1, 0] [(22, .bool ((!(FZ l m.vars)) || (decide (next < (0 : Int)))))] ?_ (fun k19 => ?_))))))))))
 ·intro w3 M
  refine yb rfl (fvm M 3 [8, 3, 2, 1, 0] [(26, .bool (((!(FZ l m.vars)) || (decide (next < (0 : Int)))) || (decide ((2147483647 : Int) ≤ next))))] ?_ (fun k23 => ?_))
  ·intro w4 M
   refine yb rfl (fvm M 3 [8, 3, 2, 1, 0] [(30, .bool ((((!(FZ l m.vars)) || (decide (next < (0 : Int)))) || (decide ((2147483647 : Int) ≤ next))) || (decide (clock < (0 : Int)))))] ?_ (fun k27 => ?_))
   ·intro w5 M
    refine yb rfl (fvm M 3 [8, 3, 2, 1, 0] [(34, .bool (((((!(FZ l m.vars)) || (decide (next < (0 : Int)))) || (decide ((2147483647 : Int) ≤ next))) || (decide (clock < (0 : Int)))) || (decide ((1099511627776 : Int) < clock))))] ?_ (fun k31 => ?_))
    ·intro w6 M
     refine AC (AA (AN rfl (fun h34 => ?_) (fun h34 => ?_)))
     ·have h34p := ((EJ h34).imp (fun z => ((EJ z).imp (fun z => ((EJ z).imp (fun z => ((EJ z).imp (fun z => (CE z)) (fun z => (odt z)))) (fun z => (odt z)))) (fun z => (odt z)))) (fun z => (odt z)))
      exact srg (ya rfl (B9 (parts := []) rfl rfl (G3)) (C1 M 0 rfl rfl BT rfl fun w7 M => yb rfl (nq (AI (AE (B8 rfl rfl (M.rdBlk 0 rfl rfl) underlying38 rfl BT rfl ⟨M.fr, .inl ⟨rfl, by rw [jY, jZ, h34]; rfl⟩⟩))))))
     ·have h34p := (And.intro (And.intro (And.intro (And.intro (BM (CL (CL (CL (CL h34).1).1).1).1) (odf (CL (CL (CL (CL h34).1).1).1).2)) (odf (CL (CL (CL h34).1).1).2)) (odf (CL (CL h34).1).2)) (odf (CL h34).2))
      obtain ⟨hvE, hn1, hn2⟩ := nL (m := m) (l := l) (next := next) (clock := clock) h34
      have hvl : l.length ≤ 1000 := by rw [QG hvE]; have := R.lens.2.2; omega
      refine AL (AA (srg ?_))
      iterate 4 refine yb rfl ?_
      refine yl rfl rfl (Blk.c ((hC.fr0 M.fr).blk) 3 rfl) (cl 41 rfl (AQ rfl rfl call33) (Q1 El.cells El.len c.a.E c.a.ec m.els AO 34 [] (fun (_ : Nat) (x : El) => (decide ((x.kind.toNat : Int) = (1 : Int)) && decide (x.inn = []))) AV (fun _ _ => True) _ (GI call34 (fun x _ w9 _ => cQ x w9)) (fun _ hf9 => (hC.fr0 M.fr).md.md.els.fr0 hf9) trivial) ?_)
      rintro _ w8 ⟨rfl, _, hfw8⟩
      refine ⟨_, rfl, ?_⟩
      have M := M.step hfw8
      obtain ⟨j, x, hj, hx, hx1, hx2⟩ := jX R
      have hxm : x ∈ m.els := List.mem_of_getElem? hx
      have hjl : j < m.els.length := (List.getElem?_eq_some_iff.1 hx).1
      rw [hj]
      obtain ⟨b_x, o_x, hA_x⟩ := BI (k := 11) AO ((hC.fr0 M.fr).md.md.els) hx
      have hz0 := I6 R Z hxm AO
      refine yb rfl (nq (srg ?_))
      iterate 4 refine yb rfl ?_
      refine yl rfl rfl (Blk.c ((hC.fr0 M.fr).blk) 3 rfl) (yb rfl (ya rfl (B1 j hA_x rfl rfl rfl (sl rfl) AO) (yb rfl (yl rfl rfl (DO El.len ((hC.fr0 M.fr).md.md.els) hA_x hx 0 rfl) (yb rfl (nq (AD (CO 26 (fun w' => Mem w AV [As.blk g8 38 [.int .i64 0, str [], .int .u8 0, .slice none 0 0, .slice none 0 0, .int .i64 0, .slice none 0 0]] w') CU ?_))))))))
      have M := M.drew
      refine oc 0 26 rfl rfl M (oc 1 26 rfl rfl M (oa 2 26 rfl rfl M (fun _ M => BF rfl rfl rfl AO) (oc 3 26 rfl rfl M (oc 4 26 rfl rfl M (oc 5 26 rfl rfl M (oc 6 26 rfl rfl M (ol 7 26 rfl rfl rfl M (fun _ M => (Blk.c ((hC.fr0 M.fr).blk) 0 rfl)) (oc 8 26 rfl rfl M (oa 9 26 rfl rfl M (fun _ M => B9 (parts := [(0, _), (1, _), (3, _)]) rfl rfl (KY _ _ _ _ _)) (oc 10 26 rfl rfl M (oc 11 26 rfl rfl M (oc 12 26 rfl rfl M (ol 13 26 rfl rfl rfl M (fun _ M => (Blk.c ((hC.fr0 M.fr).blk) 8 rfl)) (oc 14 26 rfl rfl M (oa 15 26 rfl rfl M (fun _ M => BP rfl rfl rfl underlying64 underlying9 DE ((hC.fr0 M.fr).O) (hC.getO _)) ?_)))))))))))))))
      obtain ⟨z, hz⟩ := CA (l := (c.outs x.id)) (i := 0) AO
      obtain ⟨b_z, o_z, hA_z⟩ := BI (k := 1) AO ((hC.fr0 M.fr).rdO _) hz
      refine oa 16 26 rfl rfl M (fun _ M => B1 0 hA_z rfl rfl rfl (sl rfl) AO) (ol 17 26 rfl rfl rfl M (fun _ M => (DO DU ((hC.fr0 M.fr).rdO _) hA_z hz 0 rfl)) (oc 18 26 rfl rfl M (oc 20 26 rfl rfl M (oa 21 26 rfl rfl M (fun _ M => BF rfl rfl rfl AO) (oc 22 26 rfl rfl M (B7 19 (some 70) gkr rfl (AF rfl) rfl rfl (fun ρ hρ => DL [str x.id] _ hρ rfl rfl rfl rfl underlying36 CW BR BR (GX rfl)) ?_))))))
      rintro _ w9 ⟨g70, rfl, hg70, hq70, hb70, hfw9⟩
      replace hb70 : Blk w9 g70 9 ([str x.id]) := hb70
      refine ⟨fun _ => M.step hfw9, ?_⟩
      have M := M.push hfw9 _ hb70 (DV hg70 hq70)
      replace M : Mem w AV (As.blk g70 9 ([str x.id]) :: _) w9 := M
      have M := M.blkOwn 0 (size := 1) (n := 1) rfl rfl (by unfold maxLen; omega)
      have M := M.nilOwn 43 9
      have M2 := M.pk [1, 0, 2]
      refine C0 23 (some 74) gkr rfl (AF rfl) rfl rfl (AQ rfl rfl call23) (VR w m gc c F (⟨next + 1, m.id, 0, l, []⟩ : In) V none none (some ⟨g70, 0, none⟩) vc 0 0 1 _ _ [] z [x.id] (next + 1) clock _ _ ho R hvl hok hV hY hC M.fr M2.new2 (fun t ht _ => by cases ht) (JD R Z (List.mem_of_getElem? hz)) (Nat.zero_le _) (by show 1 ≤ 2; decide) AO AO M2.self2) ?_
      rintro e9 w10 ⟨hfw10, hres⟩
      have M := M2.swap2 hfw10 hres
      obtain ⟨a0, a1, a2, W0, wn, wc, X0, xn, xc, a5, Y0, yn, yc, er, rfl, her⟩ := MvD.shape (hres _ fun _ _ _ => rfl)
      refine ⟨_, rfl, fun _ => (M.drop 1), ?_⟩
      refine oc 24 26 rfl rfl (M.drop 1) (oc 25 26 rfl rfl (M.drop 1) (B7 26 none gkr rfl (AF rfl) rfl rfl (fun ρ hρ => BZ 38 _ _ rfl g8 0 38 _ ([.int .i64 a0, str a1, .int .u8 a2, .slice W0 wn wc, .slice X0 xn xc, .int .i64 a5, .slice Y0 yn yc]) (hρ _ _ rfl) (hρ _ _ rfl) (M.blk 1 rfl) BT (BO rfl) (BL rfl)) ?_))
      rintro _ w11 ⟨rfl, hbw11, hfw11⟩
      replace M : Mem w AV (List.set _ 1 (As.blk g8 38 [.int .i64 a0, str a1, .int .u8 a2, .slice W0 wn wc, .slice X0 xn xc, .int .i64 a5, .slice Y0 yn yc])) w11 := M.putB 1 rfl hbw11 hfw11
      exact ⟨fun h => absurd h BR, fo1 27 rfl rfl (yp rfl) (fdn (AA (AI (B8 rfl rfl (M.rdBlk 1 rfl rfl) underlying38 rfl BT rfl ⟨M.fr, .inr ⟨by rw [jY, jZ, h34]; rfl, x, hxm, hx1, hx2, by rw [hz]; exact M.resA 0 rfl⟩⟩))))⟩
    refine AP (d := 31) rfl (fun h31 => ?_) (fun h31 => ?_)
    ·exact yo rfl (yo rfl (yb rfl (k31 M ⟨rfl, rfl, rfl, rfl, rfl, (by rw [h31]; rfl), trivial⟩)))
    ·exact gyq rfl (yd rfl (G6 rfl rfl rfl) (yb rfl (k31 M ⟨rfl, rfl, rfl, rfl, rfl, (by rw [h31]; rfl), trivial⟩)))
   refine AP (d := 27) rfl (fun h27 => ?_) (fun h27 => ?_)
   ·exact yo rfl (yo rfl (yb rfl (k27 M ⟨rfl, rfl, rfl, rfl, rfl, (by rw [h27]; rfl), trivial⟩)))
   ·exact gyq rfl (yd rfl (E9 rfl rfl rfl) (yb rfl (k27 M ⟨rfl, rfl, rfl, rfl, rfl, (by rw [h27]; rfl), trivial⟩)))
  refine AP (d := 23) rfl (fun h23 => ?_) (fun h23 => ?_)
  ·exact yo rfl (yo rfl (yb rfl (k23 M ⟨rfl, rfl, rfl, rfl, rfl, (by rw [h23]; rfl), trivial⟩)))
  ·exact gyq rfl (yd rfl (FG rfl rfl rfl) (yb rfl (k23 M ⟨rfl, rfl, rfl, rfl, rfl, (by rw [h23]; rfl), trivial⟩)))
 refine AP (d := 19) rfl (fun h19 => ?_) (fun h19 => ?_)
 ·exact yo rfl (yo rfl (yb rfl (k19 M ⟨rfl, rfl, rfl, rfl, rfl, (by rw [h19]; rfl), trivial⟩)))
 ·exact gyq rfl (yd rfl (E9 rfl rfl rfl) (yb rfl (k19 M ⟨rfl, rfl, rfl, rfl, rfl, (by rw [h19]; rfl), trivial⟩)))
end Go.Proofs.YtjaocmocdhckaaaGreatDoor
