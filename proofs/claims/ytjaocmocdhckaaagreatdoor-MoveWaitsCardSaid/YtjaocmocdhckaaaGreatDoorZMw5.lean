/- Lemmas that the last text rests on. Condition: each says its own. -/
import Derived.Test.YtjaocmocdhckaaaGreatDoorZMp
set_option maxHeartbeats 16000000
set_option maxRecDepth 100000
namespace Go.Proofs.YtjaocmocdhckaaaGreatDoor
open Go.RowKit
open Tryz
theorem moF {we w w' : World} {F F2 : List Nat} {L : List As} {gc vn vc gx : Nat} {V : Option Addr} {σ : Mo} (M : Mem w (fun k => k ∈ F) L w') (i : Nat) (hi : L[i]? = some (As.mo gc V vn vc gx σ F2)) (hFe : ∀ g ∈ F, we.heap.size ≤ g) (hs : we.heap.size ≤ w.heap.size) : ∀ g ∈ F2, we.heap.size ≤ g := fun g hg => by
 obtain ⟨_, h2⟩ := M.lt i _ hi g hg
 rcases h2 with h2 | h2
 ·exact Nat.le_trans hs h2
 ·exact hFe g h2
theorem G7 : (prog.info? 166).map (·.zero) = some (some (.nilFunc)) := by kernel_rfl
def PD : List (UInt8 × Value) := [(3, .func (.func 146) #[] #[]), (4, .func (.func 146) #[] #[]), (8, .func (.func 146) #[] #[]), (7, .func (.func 146) #[] #[]), (10, .func (.func 147) #[] #[]), (2, .func (.func 148) #[] #[]), (5, .func (.func 149) #[] #[]), (6, .func (.func 150) #[] #[])]
theorem lV (we : World) (m : Md) (gc : Nat) (c : CrA) (Fc : List Nat) (V : Option Addr) (vc : Nat) (vs : List Bd) (ho : MdOk m) (R : Rl m) (hvl : vs.length ≤ 4611686018427387904) (hok : BdOk vs) (hV : Rd we V (vs.length * 5) (AK Bd.cells vs)) (hY : Lay0 we) (hC : CourseN we m gc c Fc) (x : El) (hx : x ∈ m.els) (h9 : x.kind.toNat ≠ 9) (h1' : x.kind.toNat ≠ 1) : ∃ fd, (HE PD x.kind).getD .nilFunc = .func (.func fd) #[] #[] ∧ (∀ (ar : Array Value) (w : World), (callFunc fd ar).run prog w = .ok (.enter fd ar) w) ∧
 ∀ (gx : Nat) (σ : Mo) (F : List Nat) (i : Nat) (a : Ar) (w : World), σ.on.length ≤ 500000 → σ.fired.length ≤ 500000 → σ.came ≤ 500000000 → σ.done.length ≤ 500000 → σ.on[i]? = some a → a.flow.length ≤ 100000 → Fr0 we w → (∀ g ∈ F, we.heap.size ≤ g) → MoN w gc V vs.length vc gx σ F →
  Calls prog fd #[pg gx, .int .i64 ((i : Nat) : Int), .agg x.cells.toArray] w fun e w' => ∃ b σ', e = .returned (.bool b) ∧ P6 gc V vs.length vc gx σ' F w w' ∧ Pd m c vs σ i a x b σ' ∧ (b = false → ∀ u, Cell w.heap gx 2 u → Cell w'.heap gx 2 u) := by
 have hk := R.kind hx
 have Z := hC.cz
 have hxl : x.id.length ≤ 100000 := by have := (HD (R.elN x hx)).2; omega
 have cases_ : x.kind = 2 ∨ x.kind = 3 ∨ x.kind = 4 ∨ x.kind = 5 ∨ x.kind = 6 ∨ x.kind = 7 ∨ x.kind = 8 ∨ x.kind = 10 := by
  have : ∀ k : UInt8, k.toNat = 2 ∨ k.toNat = 3 ∨ k.toNat = 4 ∨ k.toNat = 5 ∨ k.toNat = 6 ∨ k.toNat = 7 ∨ k.toNat = 8 ∨ k.toNat = 10 → k = 2 ∨ k = 3 ∨ k = 4 ∨ k = 5 ∨ k = 6 ∨ k = 7 ∨ k = 8 ∨ k = 10 := by
   intro k h
   have hk : k = UInt8.ofNat k.toNat := by simp
   rcases h with h | h | h | h | h | h | h | h <;> (rw [h] at hk; subst hk; decide)
  exact this _ AO
 rcases cases_ with h | h | h | h | h | h | h | h
 ·exact ⟨148, by rw [h]; rfl, call148, fun gx σ F i a w h1 h2 h3 h4 ha hal hwe hFe hN => (pR we m gc c Fc V vs.length vc gx σ F i a x w h1 h2 h3 ha hxl (fun hin => by obtain ⟨s, hs, hs1, hs2⟩ := R.sub_at hx hin; rw [← hs1]; exact I6 R Z hs AO) hC hwe hFe hN).mono fun _ _ ⟨e1, e2⟩ => ⟨true, _, e1, e2, .inr (.inr (.inl ⟨by rw [h]; decide, rfl, rfl⟩)), fun hb => by cases hb⟩⟩
 ·exact ⟨146, by rw [h]; rfl, call146, fun gx σ F i a w h1 h2 h3 h4 ha hal hwe hFe hN => (PW gc V vs.length vc gx σ F i a x w h1 h2 h3 h4 ha hxl hN).mono fun _ _ ⟨e1, e2⟩ => ⟨true, _, e1, e2, .inl ⟨by rw [h]; decide, rfl, rfl⟩, fun hb => by cases hb⟩⟩
 ·exact ⟨146, by rw [h]; rfl, call146, fun gx σ F i a w h1 h2 h3 h4 ha hal hwe hFe hN => (PW gc V vs.length vc gx σ F i a x w h1 h2 h3 h4 ha hxl hN).mono fun _ _ ⟨e1, e2⟩ => ⟨true, _, e1, e2, .inl ⟨by rw [h]; decide, rfl, rfl⟩, fun hb => by cases hb⟩⟩
 ·exact ⟨149, by rw [h]; rfl, call149, fun gx σ F i a w h1 h2 h3 h4 ha hal hwe hFe hN => (cK we m gc c Fc V vc gx vs σ F i a x w ho h1 h2 h3 (I6 R Z hx (by rw [h]; decide)) (fun q hq => by obtain ⟨f, hf, he, _⟩ := OY R Z hq; have := (HD (R.flN f hf)).2; rw [← he]; omega) (ZI R Z hx (by rw [h]; decide)).2 hal hvl hok hV hY ha hxl hC hwe hFe hN).mono fun _ _ ⟨e1, e2, e3⟩ => ⟨_, _, e1, e2, .inr (.inr (.inr (.inl ⟨by rw [h]; decide, rfl, rfl⟩))), e3⟩⟩
 ·exact ⟨150, by rw [h]; rfl, call150, fun gx σ F i a w h1 h2 h3 h4 ha hal hwe hFe hN => (mJ we m gc c Fc V vs.length vc gx σ F i x w ho (UD R Z x.id).1 (UD R Z x.id).2 h1 h2 h3 hC hwe hFe hN).mono fun _ _ ⟨e1, e2, e3⟩ => ⟨_, _, e1, e2, .inr (.inr (.inr (.inr ⟨by rw [h]; decide, rfl, rfl⟩))), e3⟩⟩
 ·exact ⟨146, by rw [h]; rfl, call146, fun gx σ F i a w h1 h2 h3 h4 ha hal hwe hFe hN => (PW gc V vs.length vc gx σ F i a x w h1 h2 h3 h4 ha hxl hN).mono fun _ _ ⟨e1, e2⟩ => ⟨true, _, e1, e2, .inl ⟨by rw [h]; decide, rfl, rfl⟩, fun hb => by cases hb⟩⟩
 ·exact ⟨146, by rw [h]; rfl, call146, fun gx σ F i a w h1 h2 h3 h4 ha hal hwe hFe hN => (PW gc V vs.length vc gx σ F i a x w h1 h2 h3 h4 ha hxl hN).mono fun _ _ ⟨e1, e2⟩ => ⟨true, _, e1, e2, .inl ⟨by rw [h]; decide, rfl, rfl⟩, fun hb => by cases hb⟩⟩
 ·exact ⟨147, by rw [h]; rfl, call147, fun gx σ F i a w h1 h2 h3 h4 ha hal hwe hFe hN => (oF we m gc c Fc V vs.length vc gx σ F i a x w h1 h2 h3 ha hxl ho (fun y hy hy1 _ => I6 R Z hy AO) hC hwe hFe hN).mono fun _ _ ⟨e1, e2⟩ => ⟨true, _, e1, e2, .inr (.inl ⟨by rw [h]; decide, rfl, rfl⟩), fun hb => by cases hb⟩⟩
theorem bA (w : World) : Calls prog 115 #[] w fun e w' => ∃ g, e = .returned (.map (some g)) ∧ MpU w' g PD ∧ (w.heap.size ≤ g ∧ g < w'.heap.size) ∧ Fr0 w w' := by
 refine C2 func115 ntmps115 rfl fun M => srg (yb rfl (nq (srg (yb rfl (nq (srg (V8 M (AF rfl) rfl rfl rfl fun g1 w1 hg1 M => yb rfl ?_)))))))
 refine E5 M 0 (k := (3 : UInt8)) (AF rfl) rfl rfl rfl rfl rfl underlying164 underlying5 rfl fun w2 M => yb rfl (E5 M 0 (k := (4 : UInt8)) (AF rfl) rfl rfl rfl rfl rfl underlying164 underlying5 rfl fun w3 M => yb rfl (E5 M 0 (k := (8 : UInt8)) (AF rfl) rfl rfl rfl rfl rfl underlying164 underlying5 rfl fun w4 M => yb rfl (E5 M 0 (k := (7 : UInt8)) (AF rfl) rfl rfl rfl rfl rfl underlying164 underlying5 rfl fun w5 M => E5 M 0 (k := (10 : UInt8)) (AF rfl) rfl rfl rfl rfl rfl underlying164 underlying5 rfl fun w6 M => E5 M 0 (k := (2 : UInt8)) (AF rfl) rfl rfl rfl rfl rfl underlying164 underlying5 rfl fun w7 M => E5 M 0 (k := (5 : UInt8)) (AF rfl) rfl rfl rfl rfl rfl underlying164 underlying5 rfl ?_)))
 intro w8 M
 exact E5 M 0 (k := (6 : UInt8)) (AF rfl) rfl rfl rfl rfl rfl underlying164 underlying5 rfl fun w9 M => yb rfl (yb rfl (nq (AI (gr1 rfl ⟨g1, rfl, (M.ok 0 _ rfl : MpU _ _ _), M.new0 0 rfl _ (by simp [As.mpU]), M.fr⟩))))
theorem oM (we : World) (m : Md) (gc : Nat) (c : CrA) (Fc : List Nat) (V : Option Addr) (vc gx : Nat) (vs : List Bd) (σ : Mo) (F : List Nat) (w : World) (ho : MdOk m) (R : Rl m) (hvl : vs.length ≤ 4611686018427387904) (hok : BdOk vs) (hV : Rd we V (vs.length * 5) (AK Bd.cells vs)) (hY : Lay0 we) (hC : CourseN we m gc c Fc) (hwe : Fr0 we w) (hFe : ∀ g ∈ F, we.heap.size ≤ g) (hN : MoN w gc V vs.length vc gx σ F) (hI : Iv c σ) (hf0 : σ.fired.length ≤ 2) :
 Calls prog 61 #[pg gx] w fun e w' => ∃ er σ', e = .returned (.int .i64 er) ∧ P6 gc V vs.length vc gx σ' F w w' ∧ Rn m c vs σ σ' ∧ Iv c σ' ∧ σ'.fired.length ≤ 1025 ∧ ((er = 0 ∧ WX c σ') ∨ (er = 3 ∧ 1024 < σ'.fired.length)) := by
 obtain ⟨on, dn, fi, cm⟩ := σ
 dsimp only at hf0
 have Z := hC.cz
 refine BC (vs := [_]) func61 rfl ntmps61 rfl ?_
 have M : Mem w (fun k => k ∈ F) [As.mo gc V vs.length vc gx (⟨on, dn, fi, cm⟩ : Mo) F] w := Mem.oneMo hN
 obtain ⟨x1, M⟩ := Mem.openMo M
 replace M : Mem w (fun k => k ∈ F) [As.blk gx 124 [pg gc, .slice V vs.length vc, .slice x1.A on.length x1.a, .slice x1.B dn.length x1.b, .slice x1.C fi.length x1.c, .int .i64 ((cm : Nat) : Int)], As.own 0 126 5 (.slice x1.A on.length x1.a) on.length (AK Ar.cells on), As.own 0 126 5 (.slice x1.B dn.length x1.b) dn.length (AK Ar.cells dn), As.own 0 9 1 (.slice x1.C fi.length x1.c) fi.length (AK BW fi)] w := M
 refine srg (yb rfl (nq (eG (srg (cl 7 rfl (AQ rfl rfl call115) (bA _) ?_)))))
 rintro _ w1 ⟨gm, rfl, hm, hnm, hfw1⟩
 refine ⟨_, rfl, ?_⟩
 have M := M.push hfw1 (As.mpU gm PD) hm (fun g hg => by simp only [As.mpU, List.mem_singleton] at hg; subst hg; exact hnm)
 refine yb rfl (nq (AD (eH (AA (AD (AR ?_))))))
 obtain ⟨F2, M⟩ := Mem.closeMo (M.pk [1, 2, 3, 4, 0])
 refine flp [3, 0] (fun ze e wr mz => ∃ (on1 : List Ar) (dn1 : List Ar) (fi1 : List (List UInt8)) (cm1 : Nat) (F1 : List Nat), e = ze ∧ Mem w (fun k => k ∈ F) [As.mo gc V vs.length vc gx (⟨on1, dn1, fi1, cm1⟩ : Mo) F1, As.mpU gm PD] wr ∧ (Rn m c vs ⟨on, dn, fi, cm⟩ (⟨on1, dn1, fi1, cm1⟩ : Mo)) ∧ (Iv c (⟨on1, dn1, fi1, cm1⟩ : Mo)) ∧ (fi1.length ≤ 1025) ∧ mz = 1026 - fi1.length) ⟨on, dn, fi, cm, _, rfl, M, .refl, hI, by omega, rfl⟩ ?_
 rintro _ w2 _ ⟨on1, dn1, fi1, cm1, F1, rfl, M, hR, hI1, hfl, rfl⟩
 refine AD (srg (yb rfl (yb rfl (yb rfl ?_))))
 obtain ⟨x3, M⟩ := Mem.openMo M
 replace M : Mem w (fun k => k ∈ F) [As.blk gx 124 [pg gc, .slice V vs.length vc, .slice x3.A on1.length x3.a, .slice x3.B dn1.length x3.b, .slice x3.C fi1.length x3.c, .int .i64 ((cm1 : Nat) : Int)], As.own 0 126 5 (.slice x3.A on1.length x3.a) on1.length (AK Ar.cells on1), As.own 0 126 5 (.slice x3.B dn1.length x3.b) dn1.length (AK Ar.cells dn1), As.own 0 9 1 (.slice x3.C fi1.length x3.c) fi1.length (AK BW fi1), As.mpU gm PD] w2 := M
 refine BA M 0 rfl rfl rfl (ya rfl (C7 rfl rfl (sl rfl)) (RA rfl rfl (AC (AA (AN rfl (fun h13 => ?_) (fun h13 => ?_))))))
 ·have h13p := (odt h13)
  refine AL (AA (AR (AD (srg (yb rfl (yb rfl (yb rfl (BA M 0 rfl rfl rfl (ya rfl (C7 rfl rfl (sl rfl)) (yb rfl (nq (AR ?_))))))))))))
  have hc0 := M.cell 0 (off := 2) rfl rfl
  have hfb : fi1.length ≤ 1024 := by omega
  have hb1 := hI1.on
  have hb2 := hI1.came
  have hb3 := hI1.done
  dsimp only at hb1 hb2 hb3
  obtain ⟨F4, M⟩ := Mem.closeMo (M.pk [0, 1, 2, 3, 4])
  refine flp [18, 17, 3, 0] (fun ze e wr mz => ∃ (i : Nat) (on2 : List Ar) (F2 : List Nat), e = (19, .int .i64 ((i : Nat) : Int)) :: ze ∧ Mem w (fun k => k ∈ F) [As.mo gc V vs.length vc gx (⟨on2, dn1, fi1, cm1⟩ : Mo) F2, As.mpU gm PD] wr ∧ (i ≤ on1.length) ∧ (Rn m c vs ⟨on, dn, fi, cm⟩ (⟨on2, dn1, fi1, cm1⟩ : Mo)) ∧ (Iv c (⟨on2, dn1, fi1, cm1⟩ : Mo)) ∧ (on2.length = on1.length) ∧ (∀ (k : Nat) (b : Ar), k < i → on2[k]? = some b → Stl c on2 b) ∧ (Cell wr.heap gx 2 (.slice x3.A on1.length x3.a)) ∧ mz = on1.length - i) ⟨0, on1, _, rfl, M, Nat.zero_le _, hR, hI1, rfl, fun k _ h => absurd h (Nat.not_lt_zero k), hc0, rfl⟩ ?_
  rintro _ w3 _ ⟨i, on2, F2, rfl, M, hi, hR2, hI2, hl2, hS2, hc2, rfl⟩
  refine AD (AB (CB rfl rfl (AC (AA (AD (AN rfl (fun h20 => ?_) (fun h20 => ?_)))))))
  ·have h20p := (odt h20)
   refine AL (AA (AD (AR (srg (yb rfl ?_)))))
   obtain ⟨x5, M⟩ := Mem.openMo M
   replace M : Mem w (fun k => k ∈ F) [As.blk gx 124 [pg gc, .slice V vs.length vc, .slice x5.A on2.length x5.a, .slice x5.B dn1.length x5.b, .slice x5.C fi1.length x5.c, .int .i64 ((cm1 : Nat) : Int)], As.own 0 126 5 (.slice x5.A on2.length x5.a) on2.length (AK Ar.cells on2), As.own 0 126 5 (.slice x5.B dn1.length x5.b) dn1.length (AK Ar.cells dn1), As.own 0 9 1 (.slice x5.C fi1.length x5.c) fi1.length (AK BW fi1), As.mpU gm PD] w3 := M
   have hq5 := UI (M.cell 0 (off := 2) rfl rfl) hc2
   injection hq5 with hqA hqn hqc
   rw [← hqA, ← hqc] at M
   obtain ⟨y, hy⟩ := CA (l := on2) (i := i) AO
   obtain ⟨b22, o22, hA22⟩ := BI (k := 5) AO (M.rdOwn 1 rfl) hy
   refine ya rfl (B1 i hA22 rfl rfl rfl (sl rfl) AO) (ya rfl (AT rfl rfl (BQ Ar.len (M.rdOwn 1 rfl) hA22 hy) underlying126 rfl B6) (D6 M rfl FY fun g5 w4 hg5 M => yb rfl (C1 M 0 rfl rfl B6 rfl fun w5 M => nq (AD (CO 21 (fun w' => Mem w (fun k => k ∈ F) [As.blk g5 126 (Ar.cells y), As.blk gx 124 [pg gc, .slice V vs.length vc, .slice x3.A on2.length x3.a, .slice x5.B dn1.length x5.b, .slice x5.C fi1.length x5.c, .int .i64 ((cm1 : Nat) : Int)], As.own 0 126 5 (.slice x3.A on2.length x3.a) on2.length (AK Ar.cells on2), As.own 0 126 5 (.slice x5.B dn1.length x5.b) dn1.length (AK Ar.cells dn1), As.own 0 9 1 (.slice x5.C fi1.length x5.c) fi1.length (AK BW fi1), As.mpU gm PD] w') CU ?_)))))
   have M := M.drew
   refine oc 0 21 rfl rfl M (oc 1 21 rfl rfl M (oc 2 21 rfl rfl M (ol 3 21 rfl rfl rfl M (fun _ M => (M.cell 1 rfl rfl)) (oc 4 21 rfl rfl M (oc 5 21 rfl rfl M (oa 6 21 rfl rfl M (fun _ M => BU rfl rfl (sc rfl) (Blk.c ((hC.fr0 (C6 hwe M.fr hFe)).blk) 5 rfl)) (oc 7 21 rfl rfl M (oc 8 21 rfl rfl M (oc 9 21 rfl rfl M (ol 10 21 rfl rfl rfl M (fun _ M => (M.cell 1 rfl rfl)) (oc 11 21 rfl rfl M (oc 12 21 rfl rfl M (oa 13 21 rfl rfl M (fun _ M => BU rfl rfl (sc rfl) (Blk.c ((hC.fr0 (C6 hwe M.fr hFe)).blk) 6 rfl)) (oc 14 21 rfl rfl M (ol 15 21 rfl rfl rfl M (fun _ M => (M.cell 0 rfl rfl)) ?_)))))))))))))))
   refine oa 16 21 rfl rfl M (fun _ M => BP rfl rfl rfl underlying63 underlying9 EY ((hC.fr0 (C6 hwe M.fr hFe)).L) (hC.getL _)) (oa 17 21 rfl rfl M (fun _ M => cZ (b := (c.flf y.flow)) rfl rfl) (oa 18 21 rfl rfl M (fun _ M => BP rfl rfl rfl underlying62 underlying9 B4 ((hC.fr0 (C6 hwe M.fr hFe)).A) (hC.getA _)) (fon M 19 6 rfl rfl B4 fun g6 w6 hg6 M => B7 20 none gkr rfl (AF rfl) rfl rfl (fun ρ hρ => BZ 69 _ _ rfl g6 0 69 _ (El.cells (c.atf ((c.flf y.flow).tg))) (hρ _ _ rfl) (hρ _ _ rfl) (M.blk 0 rfl) AZ (BO rfl) (BL rfl)) ?_)))
   rintro _ w7 ⟨rfl, hbw7, hfw7⟩
   replace M : Mem w (fun k => k ∈ F) (List.set _ 0 (As.blk g6 69 (El.cells (c.atf ((c.flf y.flow).tg))))) w7 := M.putB 0 rfl hbw7 hfw7
   refine ⟨fun _ => M.drop 1, fdn (AA (AD (AB (yb rfl (BA M 1 rfl rfl rfl (yb rfl (yb rfl (AP (d := 46) rfl (fun h46 => ?_) (fun h46 => ?_)))))))))⟩
   ·have h46p := (CE h46)
    refine gyq rfl (gyq rfl (CH M 0 rfl rfl rfl (yd rfl (WZ rfl rfl rfl underlying164 underlying5 G7 (M.ok 6 _ rfl : MpU _ _ _)) (gyq rfl (gyq rfl (yd rfl (AT (xs := El.cells (c.atf ((c.flf y.flow).tg))) rfl rfl (M.rdBlk 0 rfl rfl) underlying69 rfl AZ) ?_))))))
    obtain ⟨x0, hxm, hx0, _, hk9, hk1⟩ := qX R Z (hI2.isF y (List.mem_of_getElem? hy))
    have hx0 : PS c y = x0 := hx0
    rw [← hx0] at hxm hk9 hk1
    have hyl : y.flow.length ≤ 100000 := by obtain ⟨f, hf, he, _⟩ := XU R Z (hI2.isF y (List.mem_of_getElem? hy)); have := (HD (R.flN f hf)).2; rw [← he]; omega
    have hc3 := M.cell 2 (off := 2) rfl rfl
    obtain ⟨F8, M⟩ := Mem.closeMo (M.pk [2, 3, 4, 5, 0, 1, 6])
    obtain ⟨fd, hfv, hfn, hfc⟩ := lV we m gc c Fc V vc vs ho R hvl hok hV hY hC (PS c y) hxm hk9 hk1
    refine B0 (some 54) (BD rfl rfl rfl) rfl rfl (BV rfl (congrArg some hfv) rfl hfn) (hfc gx (⟨on2, dn1, fi1, cm1⟩ : Mo) F8 i y _ (by dsimp only; omega) (by dsimp only; omega) (by dsimp only; omega) (by dsimp only; omega) hy hyl (C6 hwe M.fr hFe) (moF M 0 rfl hFe hwe.size) (M.ok 0 _ rfl)) ?_
    rintro _ w8 ⟨b, σ', rfl, ⟨F9, hN9, hq9, hf9⟩, hP, hkc⟩
    refine ⟨_, rfl, ?_⟩
    obtain ⟨on3, dn3, fi3, cm3⟩ := σ'
    have M := M.updMo 0 rfl (σ' := (⟨on3, dn3, fi3, cm3⟩ : Mo)) hN9 hq9 hf9
    refine yb rfl (AC (AA (AN rfl (fun h55 => ?_) (fun h55 => ?_))))
    ·refine BG (G1 rfl (AJ (AJ (G1 rfl (AJ (AY ?_))))))
     have h9 := (Q0 R Z vs hxm hI2 hy hP).2.1 h55
     dsimp only at h9
     refine fag ⟨on3, dn3, fi3, cm3, F9, rfl, (M.pk [0, 3]), ?_, ?_, ?_, rfl⟩
     ·exact Rn.step hR2 hy h46p hP
     ·exact (Q0 R Z vs hxm hI2 hy hP).1
     ·omega
    ·subst h55
     obtain ⟨p1, p2, p3, p4, p5, p6, p7⟩ := fK hy hP
     dsimp only at p1 p2 p3 p4 p5 p6 p7
     replace p5 := p5.symm
     subst p5
     replace p6 := p6.symm
     subst p6
     replace p7 := p7.symm
     subst p7
     refine AL (AH (AA (AB (ya rfl (BF rfl rfl rfl AO) (yb rfl (AC (fag ⟨i + 1, on3, F9, rfl, (M.pk [0, 3]), ?_, ?_, ?_, ?_, ?_, ?_, rfl⟩)))))))
     ·omega
     ·first
       | exact Rn.step hR2 hy h46p hP
       | exact hR2
     ·first
       | exact (Q0 R Z vs hxm hI2 hy hP).1
       | exact hI2
     ·first
       | exact p1.trans hl2
       | exact hl2
     ·intro k b hk hb
      by_cases hki : k = i
      ·subst hki
       first
        | (obtain ⟨a', ha1, ha2⟩ := p4; rw [ha1] at hb; injection hb with hb; exact hb ▸ ha2)
        | (rw [hy] at hb; injection hb with hb; exact hb ▸ .inl (by simpa using h46p))
      ·first
        | exact YR p3 (hS2 k b AO ((p2 k hki).symm.trans hb))
        | exact hS2 k b AO hb
     ·first
       | exact hl2 ▸ hkc rfl _ hc3
       | exact hl2 ▸ hc3
   ·have h46p := (BM h46)
    iterate 8 refine yo rfl ?_
    refine yb rfl (nq (CK rfl (AL (AH (AA (AB (ya rfl (BF rfl rfl rfl AO) (yb rfl (AC ?_)))))))))
    have hc3 := M.cell 2 (off := 2) rfl rfl
    obtain ⟨F9, M⟩ := Mem.closeMo (M.pk [2, 3, 4, 5, 0, 1, 6])
    refine fag ⟨i + 1, on2, F9, rfl, (M.pk [0, 3]), ?_, ?_, ?_, ?_, ?_, ?_, rfl⟩
    ·omega
    ·first
      | exact Rn.step hR2 hy h46p hP
      | exact hR2
    ·first
      | exact (Q0 R Z vs hxm hI2 hy hP).1
      | exact hI2
    ·first
      | exact p1.trans hl2
      | exact hl2
    ·intro k b hk hb
     by_cases hki : k = i
     ·subst hki
      first
       | (obtain ⟨a', ha1, ha2⟩ := p4; rw [ha1] at hb; injection hb with hb; exact hb ▸ ha2)
       | (rw [hy] at hb; injection hb with hb; exact hb ▸ .inl (by simpa using h46p))
     ·first
       | exact YR p3 (hS2 k b AO ((p2 k hki).symm.trans hb))
       | exact hS2 k b AO hb
    ·first
      | exact hl2 ▸ hkc rfl _ hc3
      | exact hl2 ▸ hc3
  ·have h20p := (odf h20)
   refine BG (AJ (AJ (AY (AA (srg (yb rfl (nq (AI (AM (AE (AM (AE (O1 ?_)))))))))))))
   exact gr1 rfl ⟨0, _, rfl, GY (M.pk [0]), hR2, hI2, by dsimp only; omega, .inl ⟨rfl, fun k b hb => hS2 k b (by have := (List.getElem?_eq_some_iff.1 hb).1; dsimp only at this; omega) hb⟩⟩
 ·have h13p := (odf h13)
  refine BG (AJ (AJ (AY (AA (srg (yb rfl (nq (AI (O1 (gr1 rfl ?_))))))))))
  obtain ⟨F10, M⟩ := Mem.closeMo (M.pk [0, 1, 2, 3, 4])
  exact ⟨3, _, rfl, GY (M.pk [0]), hR, hI1, hfl, .inr ⟨rfl, by dsimp only; omega⟩⟩
end Go.Proofs.YtjaocmocdhckaaaGreatDoor
