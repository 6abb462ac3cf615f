/- Lemmas that the last text rests on. Condition: each says its own. -/
import Derived.Test.YtjaocmocdhckaaaGreatDoorZMp
set_option maxHeartbeats 16000000
set_option maxRecDepth 100000
namespace Go.Proofs.YtjaocmocdhckaaaGreatDoor
open Go.RowKit
open Tryz
theorem moF {we w w' : World} {F F2 : List Nat} {L : List As} {gc vn vc gx : Nat} {V : Option Addr} {σ : Mo} (M : Mem w (fun k => k ∈ F) L w') (i : Nat) (hi : L[i]? = some (As.mo gc V vn vc gx σ F2)) (hFe : ∀ g ∈ F, we.heap.size ≤ g) (hs : we.heap.size ≤ w.heap.size) : ∀ g ∈ F2, we.heap.size ≤ g := fun g hg => by
 obtain ⟨_, h2⟩ := M.lt i _ hi g hg
 rcases h2 with h2 | h2
 ·exact Nat.le_trans hs h2
 ·exact hFe g h2
theorem GE : (prog.info? 166).map (·.zero) = some (some (.nilFunc)) := by kernel_rfl
def Q6 : List (UInt8 × Value) := [(3, .func (.func 146) #[] #[]), (4, .func (.func 146) #[] #[]), (8, .func (.func 146) #[] #[]), (7, .func (.func 146) #[] #[]), (10, .func (.func 147) #[] #[]), (2, .func (.func 148) #[] #[]), (5, .func (.func 149) #[] #[]), (6, .func (.func 150) #[] #[])]
theorem mO (we : World) (m : Md) (gc : Nat) (c : CrA) (Fc : List Nat) (V : Option Addr) (vc : Nat) (vs : List Bd) (ho : MdOk m) (R : Rl m) (hvl : vs.length ≤ 4611686018427387904) (hok : BdOk vs) (hV : Rd we V (vs.length * 5) (AH Bd.cells vs)) (hY : Lay0 we) (hC : CourseN we m gc c Fc) (x : El) (hx : x ∈ m.els) (h9 : x.kind.toNat ≠ 9) (h1' : x.kind.toNat ≠ 1) : ∃ fd, (HK Q6 x.kind).getD .nilFunc = .func (.func fd) #[] #[] ∧ (∀ (ar : Array Value) (w : World), (callFunc fd ar).run prog w = .ok (.enter fd ar) w) ∧
 ∀ (gx : Nat) (σ : Mo) (F : List Nat) (i : Nat) (a : Ar) (w : World), σ.on.length ≤ 500000 → σ.fired.length ≤ 500000 → σ.came ≤ 500000000 → σ.done.length ≤ 500000 → σ.on[i]? = some a → a.flow.length ≤ 100000 → Fr0 we w → (∀ g ∈ F, we.heap.size ≤ g) → MoN w gc V vs.length vc gx σ F →
  Calls prog fd #[pg gx, AJ ((i : Nat) : Int), .agg x.cells.toArray] w fun e w' => ∃ b σ', e = .returned (.bool b) ∧ PZ gc V vs.length vc gx σ' F w w' ∧ Pd m c vs σ i a x b σ' ∧ (b = false → ∀ u, Cell w.heap gx 2 u → Cell w'.heap gx 2 u) := by
 have hk := R.kind hx
 have Z := hC.cz
 have hxl : x.id.length ≤ 100000 := by have := (HJ (R.elN x hx)).2; omega
 have cases_ : x.kind = 2 ∨ x.kind = 3 ∨ x.kind = 4 ∨ x.kind = 5 ∨ x.kind = 6 ∨ x.kind = 7 ∨ x.kind = 8 ∨ x.kind = 10 := by
  have : ∀ k : UInt8, k.toNat = 2 ∨ k.toNat = 3 ∨ k.toNat = 4 ∨ k.toNat = 5 ∨ k.toNat = 6 ∨ k.toNat = 7 ∨ k.toNat = 8 ∨ k.toNat = 10 → k = 2 ∨ k = 3 ∨ k = 4 ∨ k = 5 ∨ k = 6 ∨ k = 7 ∨ k = 8 ∨ k = 10 := by
   intro k h
   have hk : k = UInt8.ofNat k.toNat := by simp
   rcases h with h | h | h | h | h | h | h | h <;> (rw [h] at hk; subst hk; decide)
  exact this _ AM
 rcases cases_ with h | h | h | h | h | h | h | h
 ·exact ⟨148, by rw [h]; rfl, call148, fun gx σ F i a w h1 h2 h3 h4 ha hal hwe hFe hN => (qX we m gc c Fc V vs.length vc gx σ F i a x w h1 h2 h3 ha hxl (fun hin => by obtain ⟨s, hs, hs1, hs2⟩ := R.sub_at hx hin; rw [← hs1]; exact GZ R Z hs AM) hC hwe hFe hN).mono fun _ _ ⟨e1, e2⟩ => ⟨true, _, e1, e2, .inr (.inr (.inl ⟨by rw [h]; decide, rfl, rfl⟩)), fun hb => by cases hb⟩⟩
 ·exact ⟨146, by rw [h]; rfl, call146, fun gx σ F i a w h1 h2 h3 h4 ha hal hwe hFe hN => (QO gc V vs.length vc gx σ F i a x w h1 h2 h3 h4 ha hxl hN).mono fun _ _ ⟨e1, e2⟩ => ⟨true, _, e1, e2, .inl ⟨by rw [h]; decide, rfl, rfl⟩, fun hb => by cases hb⟩⟩
 ·exact ⟨146, by rw [h]; rfl, call146, fun gx σ F i a w h1 h2 h3 h4 ha hal hwe hFe hN => (QO gc V vs.length vc gx σ F i a x w h1 h2 h3 h4 ha hxl hN).mono fun _ _ ⟨e1, e2⟩ => ⟨true, _, e1, e2, .inl ⟨by rw [h]; decide, rfl, rfl⟩, fun hb => by cases hb⟩⟩
 ·exact ⟨149, by rw [h]; rfl, call149, fun gx σ F i a w h1 h2 h3 h4 ha hal hwe hFe hN => (dI we m gc c Fc V vc gx vs σ F i a x w ho h1 h2 h3 (GZ R Z hx (by rw [h]; decide)) (fun q hq => by obtain ⟨f, hf, he, _⟩ := KG R Z hq; have := (HJ (R.flN f hf)).2; rw [← he]; omega) (aH R Z hx (by rw [h]; decide)).2 hal hvl hok hV hY ha hxl hC hwe hFe hN).mono fun _ _ ⟨e1, e2, e3⟩ => ⟨_, _, e1, e2, .inr (.inr (.inr (.inl ⟨by rw [h]; decide, rfl, rfl⟩))), e3⟩⟩
 ·exact ⟨150, by rw [h]; rfl, call150, fun gx σ F i a w h1 h2 h3 h4 ha hal hwe hFe hN => (nH we m gc c Fc V vs.length vc gx σ F i x w ho (V4 R Z x.id).1 (V4 R Z x.id).2 h1 h2 h3 hC hwe hFe hN).mono fun _ _ ⟨e1, e2, e3⟩ => ⟨_, _, e1, e2, .inr (.inr (.inr (.inr ⟨by rw [h]; decide, rfl, rfl⟩))), e3⟩⟩
 ·exact ⟨146, by rw [h]; rfl, call146, fun gx σ F i a w h1 h2 h3 h4 ha hal hwe hFe hN => (QO gc V vs.length vc gx σ F i a x w h1 h2 h3 h4 ha hxl hN).mono fun _ _ ⟨e1, e2⟩ => ⟨true, _, e1, e2, .inl ⟨by rw [h]; decide, rfl, rfl⟩, fun hb => by cases hb⟩⟩
 ·exact ⟨146, by rw [h]; rfl, call146, fun gx σ F i a w h1 h2 h3 h4 ha hal hwe hFe hN => (QO gc V vs.length vc gx σ F i a x w h1 h2 h3 h4 ha hxl hN).mono fun _ _ ⟨e1, e2⟩ => ⟨true, _, e1, e2, .inl ⟨by rw [h]; decide, rfl, rfl⟩, fun hb => by cases hb⟩⟩
 ·exact ⟨147, by rw [h]; rfl, call147, fun gx σ F i a w h1 h2 h3 h4 ha hal hwe hFe hN => (pN we m gc c Fc V vs.length vc gx σ F i a x w h1 h2 h3 ha hxl ho (fun y hy hy1 _ => GZ R Z hy AM) hC hwe hFe hN).mono fun _ _ ⟨e1, e2⟩ => ⟨true, _, e1, e2, .inr (.inl ⟨by rw [h]; decide, rfl, rfl⟩), fun hb => by cases hb⟩⟩
theorem bW (w : World) : Calls prog 115 #[] w fun e w' => ∃ g, e = .returned (.map (some g)) ∧ MpU w' g Q6 ∧ (w.heap.size ≤ g ∧ g < w'.heap.size) ∧ Fr0 w w' := by
 refine C5 func115 ntmps115 rfl fun M => srg (AY rfl (srg (AY rfl (srg (VZ M (AA rfl) rfl rfl rfl fun g1 w1 hg1 M => yb rfl ?_)))))
 refine EE M 0 (k := (3 : UInt8)) (AA rfl) rfl rfl rfl rfl rfl underlying164 underlying5 rfl fun w2 M => yb rfl (EE M 0 (k := (4 : UInt8)) (AA rfl) rfl rfl rfl rfl rfl underlying164 underlying5 rfl fun w3 M => yb rfl (EE M 0 (k := (8 : UInt8)) (AA rfl) rfl rfl rfl rfl rfl underlying164 underlying5 rfl fun w4 M => yb rfl (EE M 0 (k := (7 : UInt8)) (AA rfl) rfl rfl rfl rfl rfl underlying164 underlying5 rfl fun w5 M => EE M 0 (k := (10 : UInt8)) (AA rfl) rfl rfl rfl rfl rfl underlying164 underlying5 rfl fun w6 M => EE M 0 (k := (2 : UInt8)) (AA rfl) rfl rfl rfl rfl rfl underlying164 underlying5 rfl fun w7 M => EE M 0 (k := (5 : UInt8)) (AA rfl) rfl rfl rfl rfl rfl underlying164 underlying5 rfl ?_)))
 intro w8 M
 exact EE M 0 (k := (6 : UInt8)) (AA rfl) rfl rfl rfl rfl rfl underlying164 underlying5 rfl fun w9 M => BM rfl rfl (gnr (gr1 rfl ⟨g1, rfl, (M.ok 0 _ rfl : MpU _ _ _), M.new0 0 rfl _ (by simp [As.mpU]), M.fr⟩))
theorem pU (we : World) (m : Md) (gc : Nat) (c : CrA) (Fc : List Nat) (V : Option Addr) (vc gx : Nat) (vs : List Bd) (σ : Mo) (F : List Nat) (w : World) (ho : MdOk m) (R : Rl m) (hvl : vs.length ≤ 4611686018427387904) (hok : BdOk vs) (hV : Rd we V (vs.length * 5) (AH Bd.cells vs)) (hY : Lay0 we) (hC : CourseN we m gc c Fc) (hwe : Fr0 we w) (hFe : ∀ g ∈ F, we.heap.size ≤ g) (hN : MoN w gc V vs.length vc gx σ F) (hI : Iv c σ) (hf0 : σ.fired.length ≤ 2) :
 Calls prog 61 #[pg gx] w fun e w' => ∃ er σ', e = .returned (AJ er) ∧ PZ gc V vs.length vc gx σ' F w w' ∧ Rn m c vs σ σ' ∧ Iv c σ' ∧ σ'.fired.length ≤ 1025 ∧ ((er = 0 ∧ SO c σ') ∨ (er = 3 ∧ 1024 < σ'.fired.length)) := by
 obtain ⟨on, dn, fi, cm⟩ := σ
 dsimp only at hf0
 have Z := hC.cz
 refine BE (vs := [_]) func61 rfl ntmps61 rfl ?_
 have M : Mem w (fun k => k ∈ F) [As.mo gc V vs.length vc gx (⟨on, dn, fi, cm⟩ : Mo) F] w := Mem.oneMo hN
 obtain ⟨x1, M⟩ := Mem.openMo M
 replace M : Mem w (fun k => k ∈ F) [As.blk gx 124 [pg gc, .slice V vs.length vc, .slice x1.A on.length x1.a, .slice x1.B dn.length x1.b, .slice x1.C fi.length x1.c, AJ ((cm : Nat) : Int)], As.own 0 126 5 (.slice x1.A on.length x1.a) on.length (AH Ar.cells on), As.own 0 126 5 (.slice x1.B dn.length x1.b) dn.length (AH Ar.cells dn), As.own 0 9 1 (.slice x1.C fi.length x1.c) fi.length (AH BY fi)] w := M
 refine srg (AY rfl (fI (srg (cl 7 rfl (AP rfl rfl call115) (bW _) ?_))))
 rintro _ w1 ⟨gm, rfl, hm, hnm, hfw1⟩
 refine ⟨_, rfl, ?_⟩
 have M := M.push hfw1 (As.mpU gm Q6) hm (fun g hg => by simp only [As.mpU, List.mem_singleton] at hg; subst hg; exact hnm)
 refine AY rfl (AF (fJ (AD (AF (AS ?_)))))
 obtain ⟨F2, M⟩ := Mem.closeMo (M.pk [1, 2, 3, 4, 0])
 refine flp [3, 0] (fun ze e wr mz => ∃ (on1 : List Ar) (dn1 : List Ar) (fi1 : List (List UInt8)) (cm1 : Nat) (F1 : List Nat), e = ze ∧ Mem w (fun k => k ∈ F) [As.mo gc V vs.length vc gx (⟨on1, dn1, fi1, cm1⟩ : Mo) F1, As.mpU gm Q6] wr ∧ (Rn m c vs ⟨on, dn, fi, cm⟩ (⟨on1, dn1, fi1, cm1⟩ : Mo)) ∧ (Iv c (⟨on1, dn1, fi1, cm1⟩ : Mo)) ∧ (fi1.length ≤ 1025) ∧ mz = 1026 - fi1.length) ⟨on, dn, fi, cm, _, rfl, M, .refl, hI, by omega, rfl⟩ ?_
 rintro _ w2 _ ⟨on1, dn1, fi1, cm1, F1, rfl, M, hR, hI1, hfl, rfl⟩
 refine AF (AQ rfl (BM rfl rfl ?_))
 obtain ⟨x3, M⟩ := Mem.openMo M
 replace M : Mem w (fun k => k ∈ F) [As.blk gx 124 [pg gc, .slice V vs.length vc, .slice x3.A on1.length x3.a, .slice x3.B dn1.length x3.b, .slice x3.C fi1.length x3.c, AJ ((cm1 : Nat) : Int)], As.own 0 126 5 (.slice x3.A on1.length x3.a) on1.length (AH Ar.cells on1), As.own 0 126 5 (.slice x3.B dn1.length x3.b) dn1.length (AH Ar.cells dn1), As.own 0 9 1 (.slice x3.C fi1.length x3.c) fi1.length (AH BY fi1), As.mpU gm Q6] w2 := M
 refine BC M 0 rfl rfl rfl (ya rfl (C3 rfl rfl (sl rfl)) (RW rfl rfl (nq (AL rfl (fun h13 => ?_) (fun h13 => ?_)))))
 ·have h13p := (odt h13)
  refine AI (AD (AS (AF (AQ rfl (BM rfl rfl (BC M 0 rfl rfl rfl (ya rfl (C3 rfl rfl (sl rfl)) (AY rfl (AS ?_)))))))))
  have hc0 := M.cell 0 (off := 2) rfl rfl
  have hfb : fi1.length ≤ 1024 := by omega
  have hb1 := hI1.on
  have hb2 := hI1.came
  have hb3 := hI1.done
  dsimp only at hb1 hb2 hb3
  obtain ⟨F4, M⟩ := Mem.closeMo (M.pk [0, 1, 2, 3, 4])
  refine flp [18, 17, 3, 0] (fun ze e wr mz => ∃ (i : Nat) (on2 : List Ar) (F2 : List Nat), e = (19, AJ ((i : Nat) : Int)) :: ze ∧ Mem w (fun k => k ∈ F) [As.mo gc V vs.length vc gx (⟨on2, dn1, fi1, cm1⟩ : Mo) F2, As.mpU gm Q6] wr ∧ (i ≤ on1.length) ∧ (Rn m c vs ⟨on, dn, fi, cm⟩ (⟨on2, dn1, fi1, cm1⟩ : Mo)) ∧ (Iv c (⟨on2, dn1, fi1, cm1⟩ : Mo)) ∧ (on2.length = on1.length) ∧ (∀ (k : Nat) (b : Ar), k < i → on2[k]? = some b → Stl c on2 b) ∧ (Cell wr.heap gx 2 (.slice x3.A on1.length x3.a)) ∧ mz = on1.length - i) ⟨0, on1, _, rfl, M, Nat.zero_le _, hR, hI1, rfl, fun k _ h => absurd h (Nat.not_lt_zero k), hc0, rfl⟩ ?_
  rintro _ w3 _ ⟨i, on2, F2, rfl, M, hi, hR2, hI2, hl2, hS2, hc2, rfl⟩
  refine srg (CF rfl rfl (nq (AF (AL rfl (fun h20 => ?_) (fun h20 => ?_)))))
  ·have h20p := (odt h20)
   refine AI (AD (AF (AS (AQ rfl ?_))))
   obtain ⟨x5, M⟩ := Mem.openMo M
   replace M : Mem w (fun k => k ∈ F) [As.blk gx 124 [pg gc, .slice V vs.length vc, .slice x5.A on2.length x5.a, .slice x5.B dn1.length x5.b, .slice x5.C fi1.length x5.c, AJ ((cm1 : Nat) : Int)], As.own 0 126 5 (.slice x5.A on2.length x5.a) on2.length (AH Ar.cells on2), As.own 0 126 5 (.slice x5.B dn1.length x5.b) dn1.length (AH Ar.cells dn1), As.own 0 9 1 (.slice x5.C fi1.length x5.c) fi1.length (AH BY fi1), As.mpU gm Q6] w3 := M
   have hq5 := VA (M.cell 0 (off := 2) rfl rfl) hc2
   injection hq5 with hqA hqn hqc
   rw [← hqA, ← hqc] at M
   obtain ⟨y, hy⟩ := CC (l := on2) (i := i) AM
   obtain ⟨b22, o22, hA22⟩ := BI (k := 5) AM (M.rdOwn 1 rfl) hy
   refine ya rfl (B1 i hA22 rfl rfl rfl (sl rfl) AM) (ya rfl (AU rfl rfl (BV Ar.len (M.rdOwn 1 rfl) hA22 hy) underlying126 rfl B8) (DC M rfl G3 fun g5 w4 hg5 M => yb rfl (C4 M 0 rfl rfl B8 rfl fun w5 M => nq (AF (CV 21 (fun w' => Mem w (fun k => k ∈ F) [As.blk g5 126 (Ar.cells y), As.blk gx 124 [pg gc, .slice V vs.length vc, .slice x3.A on2.length x3.a, .slice x5.B dn1.length x5.b, .slice x5.C fi1.length x5.c, AJ ((cm1 : Nat) : Int)], As.own 0 126 5 (.slice x3.A on2.length x3.a) on2.length (AH Ar.cells on2), As.own 0 126 5 (.slice x5.B dn1.length x5.b) dn1.length (AH Ar.cells dn1), As.own 0 9 1 (.slice x5.C fi1.length x5.c) fi1.length (AH BY fi1), As.mpU gm Q6] w') CZ ?_)))))
   have M := M.drew
   refine oc 0 21 rfl rfl M (oc 1 21 rfl rfl M (oc 2 21 rfl rfl M (ol 3 21 rfl rfl rfl M (fun _ M => (M.cell 1 rfl rfl)) (oc 4 21 rfl rfl M (oc 5 21 rfl rfl M (oa 6 21 rfl rfl M (fun _ M => BW rfl rfl (sc rfl) (Blk.c ((hC.fr0 (CA hwe M.fr hFe)).blk) 5 rfl)) (oc 7 21 rfl rfl M (oc 8 21 rfl rfl M (oc 9 21 rfl rfl M (ol 10 21 rfl rfl rfl M (fun _ M => (M.cell 1 rfl rfl)) (oc 11 21 rfl rfl M (oc 12 21 rfl rfl M (oa 13 21 rfl rfl M (fun _ M => BW rfl rfl (sc rfl) (Blk.c ((hC.fr0 (CA hwe M.fr hFe)).blk) 6 rfl)) (oc 14 21 rfl rfl M (ol 15 21 rfl rfl rfl M (fun _ M => (M.cell 0 rfl rfl)) ?_)))))))))))))))
   refine oa 16 21 rfl rfl M (fun _ M => BT rfl rfl rfl underlying63 underlying9 FF ((hC.fr0 (CA hwe M.fr hFe)).L) (hC.getL _)) (oa 17 21 rfl rfl M (fun _ M => dZ (b := (c.flf y.flow)) rfl rfl) (oa 18 21 rfl rfl M (fun _ M => BT rfl rfl rfl underlying62 underlying9 B6 ((hC.fr0 (CA hwe M.fr hFe)).A) (hC.getA _)) (fon M 19 6 rfl rfl B6 fun g6 w6 hg6 M => BB 20 none gkr rfl (AA rfl) rfl rfl (fun ρ hρ => C2 69 _ _ rfl g6 0 69 _ (El.cells (c.atf ((c.flf y.flow).tg))) (hρ _ _ rfl) (hρ _ _ rfl) (M.blk 0 rfl) B2 (BS rfl) (BP rfl)) ?_)))
   rintro _ w7 ⟨rfl, hbw7, hfw7⟩
   replace M : Mem w (fun k => k ∈ F) (List.set _ 0 (As.blk g6 69 (El.cells (c.atf ((c.flf y.flow).tg))))) w7 := M.putB 0 rfl hbw7 hfw7
   refine ⟨fun _ => M.drop 1, fdn (AD (AQ rfl (BC M 1 rfl rfl rfl (BM rfl rfl (AO (d := 46) rfl (fun h46 => ?_) (fun h46 => ?_))))))⟩
   ·have h46p := (CK h46)
    refine gyq rfl (gyq rfl (CJ M 0 rfl rfl rfl (yd rfl (XS rfl rfl rfl underlying164 underlying5 GE (M.ok 6 _ rfl : MpU _ _ _)) (gyq rfl (gyq rfl (yd rfl (AU (xs := El.cells (c.atf ((c.flf y.flow).tg))) rfl rfl (M.rdBlk 0 rfl rfl) underlying69 rfl B2) ?_))))))
    obtain ⟨x0, hxm, hx0, _, hk9, hk1⟩ := oW R Z (hI2.isF y (List.mem_of_getElem? hy))
    have hx0 : IP c y = x0 := hx0
    rw [← hx0] at hxm hk9 hk1
    have hyl : y.flow.length ≤ 100000 := by obtain ⟨f, hf, he, _⟩ := YP R Z (hI2.isF y (List.mem_of_getElem? hy)); have := (HJ (R.flN f hf)).2; rw [← he]; omega
    have hc3 := M.cell 2 (off := 2) rfl rfl
    obtain ⟨F8, M⟩ := Mem.closeMo (M.pk [2, 3, 4, 5, 0, 1, 6])
    obtain ⟨fd, hfv, hfn, hfc⟩ := mO we m gc c Fc V vc vs ho R hvl hok hV hY hC (IP c y) hxm hk9 hk1
    refine B3 (some 54) (BG rfl rfl rfl) rfl rfl (BX rfl (congrArg some hfv) rfl hfn) (hfc gx (⟨on2, dn1, fi1, cm1⟩ : Mo) F8 i y _ (by dsimp only; omega) (by dsimp only; omega) (by dsimp only; omega) (by dsimp only; omega) hy hyl (CA hwe M.fr hFe) (moF M 0 rfl hFe hwe.size) (M.ok 0 _ rfl)) ?_
    rintro _ w8 ⟨b, σ', rfl, ⟨F9, hN9, hq9, hf9⟩, hP, hkc⟩
    refine ⟨_, rfl, ?_⟩
    obtain ⟨on3, dn3, fi3, cm3⟩ := σ'
    have M := M.updMo 0 rfl (σ' := (⟨on3, dn3, fi3, cm3⟩ : Mo)) hN9 hq9 hf9
    refine AY rfl (AL rfl (fun h55 => ?_) (fun h55 => ?_))
    ·refine BF (G6 rfl (AG (AG (G6 rfl (AG (AV ?_))))))
     have h9 := (QP R Z vs hxm hI2 hy hP).2.1 h55
     dsimp only at h9
     refine fag ⟨on3, dn3, fi3, cm3, F9, rfl, (M.pk [0, 3]), ?_, ?_, ?_, rfl⟩
     ·exact Rn.step hR2 hy h46p hP
     ·exact (QP R Z vs hxm hI2 hy hP).1
     ·omega
    ·subst h55
     obtain ⟨p1, p2, p3, p4, p5, p6, p7⟩ := gU hy hP
     dsimp only at p1 p2 p3 p4 p5 p6 p7
     replace p5 := p5.symm
     subst p5
     replace p6 := p6.symm
     subst p6
     replace p7 := p7.symm
     subst p7
     refine AI (AE (AD (AK (ya rfl (BO rfl rfl rfl AM) (yb rfl (AR (fag ⟨i + 1, on3, F9, rfl, (M.pk [0, 3]), ?_, ?_, ?_, ?_, ?_, ?_, rfl⟩)))))))
     ·omega
     ·first
       | exact Rn.step hR2 hy h46p hP
       | exact hR2
     ·first
       | exact (QP R Z vs hxm hI2 hy hP).1
       | exact hI2
     ·first
       | exact p1.trans hl2
       | exact hl2
     ·intro k b hk hb
      by_cases hki : k = i
      ·subst hki
       first
        | (obtain ⟨a', ha1, ha2⟩ := p4; rw [ha1] at hb; injection hb with hb; exact hb ▸ ha2)
        | (rw [hy] at hb; injection hb with hb; exact hb ▸ .inl (by simpa using h46p))
      ·first
        | exact ZG p3 (hS2 k b AM ((p2 k hki).symm.trans hb))
        | exact hS2 k b AM hb
     ·first
       | exact hl2 ▸ hkc rfl _ hc3
       | exact hl2 ▸ hc3
   ·have h46p := (BQ h46)
    iterate 8 refine yo rfl ?_
    refine AY rfl (D8 rfl (AI (AE (AD (AK (ya rfl (BO rfl rfl rfl AM) (yb rfl (AR ?_))))))))
    have hc3 := M.cell 2 (off := 2) rfl rfl
    obtain ⟨F9, M⟩ := Mem.closeMo (M.pk [2, 3, 4, 5, 0, 1, 6])
    refine fag ⟨i + 1, on2, F9, rfl, (M.pk [0, 3]), ?_, ?_, ?_, ?_, ?_, ?_, rfl⟩
    ·omega
    ·first
      | exact Rn.step hR2 hy h46p hP
      | exact hR2
    ·first
      | exact (QP R Z vs hxm hI2 hy hP).1
      | exact hI2
    ·first
      | exact p1.trans hl2
      | exact hl2
    ·intro k b hk hb
     by_cases hki : k = i
     ·subst hki
      first
       | (obtain ⟨a', ha1, ha2⟩ := p4; rw [ha1] at hb; injection hb with hb; exact hb ▸ ha2)
       | (rw [hy] at hb; injection hb with hb; exact hb ▸ .inl (by simpa using h46p))
     ·first
       | exact ZG p3 (hS2 k b AM ((p2 k hki).symm.trans hb))
       | exact hS2 k b AM hb
    ·first
      | exact hl2 ▸ hkc rfl _ hc3
      | exact hl2 ▸ hc3
  ·have h20p := (odf h20)
   refine BF (AG (AG (AV (AD (AQ rfl (gnr (AN (AB (AN (AB (ON ?_)))))))))))
   exact gr1 rfl ⟨0, _, rfl, HF (M.pk [0]), hR2, hI2, by dsimp only; omega, .inl ⟨rfl, fun k b hb => hS2 k b (by have := (List.getElem?_eq_some_iff.1 hb).1; dsimp only at this; omega) hb⟩⟩
 ·have h13p := (odf h13)
  refine BF (AG (AG (AV (AD (AQ rfl (gnr (ON (gr1 rfl ?_))))))))
  obtain ⟨F10, M⟩ := Mem.closeMo (M.pk [0, 1, 2, 3, 4])
  exact ⟨3, _, rfl, HF (M.pk [0]), hR, hI1, hfl, .inr ⟨rfl, by dsimp only; omega⟩⟩
end Go.Proofs.YtjaocmocdhckaaaGreatDoor
