/- Lemmas that the last text rests on. Condition: each says its own. -/
import Derived.Test.YtaheakjfkpkefaaGreatDoorYMp
set_option maxHeartbeats 16000000
set_option maxRecDepth 100000
namespace Go.Proofs.YtaheakjfkpkefaaGreatDoor
open Go.RowKit
open Tryz
theorem moF {we w w' : World} {F F2 : List Nat} {L : List As} {gc vn vc gx : Nat} {V : Option Addr} {σ : Mo} (M : Mem w (fun k => k ∈ F) L w') (i : Nat) (hi : L[i]? = some (As.mo gc V vn vc gx σ F2)) (hFe : ∀ g ∈ F, we.heap.size ≤ g) (hs : we.heap.size ≤ w.heap.size) : ∀ g ∈ F2, we.heap.size ≤ g := fun g hg => by
 obtain ⟨_, h2⟩ := M.lt i _ hi g hg
 rcases h2 with h2 | h2
 ·exact Nat.le_trans hs h2
 ·exact hFe g h2
theorem FB : (prog.info? 187).map (·.zero) = some (some (.nilFunc)) := by kernel_rfl
def R9 : List (UInt8 × Value) := [(3, .func (.func 150) #[] #[]), (4, .func (.func 150) #[] #[]), (8, .func (.func 150) #[] #[]), (7, .func (.func 150) #[] #[]), (10, .func (.func 151) #[] #[]), (2, .func (.func 152) #[] #[]), (5, .func (.func 153) #[] #[]), (6, .func (.func 154) #[] #[])]
def Z3 (we : World) (m : Md) (gc : Nat) (c : CrA) (V : Option Addr) (vc : Nat) (vs : List Bd) (x : El) : Prop := ∃ fd, (IL R9 x.kind).getD .nilFunc = .func (.func fd) #[] #[] ∧ (∀ (ar : Array Value) (w : World), (callFunc fd ar).run prog w = .ok (.enter fd ar) w) ∧
 ∀ (gx : Nat) (σ : Mo) (F : List Nat) (i : Nat) (a : Ar) (w : World), σ.on.length ≤ 500000 → σ.fired.length ≤ 500000 → σ.came ≤ 500000000 → σ.done.length ≤ 500000 → σ.on[i]? = some a → a.flow.length ≤ 100000 → Fr0 we w → (∀ g ∈ F, we.heap.size ≤ g) → MoN w gc V vs.length vc gx σ F →
  Calls prog fd #[.pointer (some ⟨gx, 0, none⟩), .int .i64 ((i : Nat) : Int), .agg x.cells.toArray] w fun e w' => ∃ b σ', e = .returned (.bool b) ∧ XK gc V vs.length vc gx σ' F w w' ∧ Pd m c vs σ i a x b σ' ∧ (b = false → ∀ u, Cell w.heap gx 2 u → Cell w'.heap gx 2 u)
def QO (we : World) (m : Md) (gc : Nat) (c : CrA) (V : Option Addr) (vc : Nat) (vs : List Bd) : Prop := ∀ x ∈ m.els, x.kind.toNat ≠ 9 → x.kind.toNat ≠ 1 → Z3 we m gc c V vc vs x
theorem cG (we : World) (m : Md) (gc : Nat) (c : CrA) (V : Option Addr) (vc : Nat) (vs : List Bd) (x : El) (hxl : x.id.length ≤ 100000) (hk : x.kind = 3 ∨ x.kind = 4 ∨ x.kind = 7 ∨ x.kind = 8) : Z3 we m gc c V vc vs x := by
 rcases hk with h | h | h | h
 ·exact ⟨150, by rw [h]; rfl, call150, fun gx σ F i a w h1 h2 h3 h4 ha hal hwe hFe hN => (Q9 gc V vs.length vc gx σ F i a x w h1 h2 h3 h4 ha hxl hN).mono fun _ _ ⟨e1, e2⟩ => ⟨true, _, e1, e2, .inl ⟨by rw [h]; decide, rfl, rfl⟩, fun hb => by cases hb⟩⟩
 ·exact ⟨150, by rw [h]; rfl, call150, fun gx σ F i a w h1 h2 h3 h4 ha hal hwe hFe hN => (Q9 gc V vs.length vc gx σ F i a x w h1 h2 h3 h4 ha hxl hN).mono fun _ _ ⟨e1, e2⟩ => ⟨true, _, e1, e2, .inl ⟨by rw [h]; decide, rfl, rfl⟩, fun hb => by cases hb⟩⟩
 ·exact ⟨150, by rw [h]; rfl, call150, fun gx σ F i a w h1 h2 h3 h4 ha hal hwe hFe hN => (Q9 gc V vs.length vc gx σ F i a x w h1 h2 h3 h4 ha hxl hN).mono fun _ _ ⟨e1, e2⟩ => ⟨true, _, e1, e2, .inl ⟨by rw [h]; decide, rfl, rfl⟩, fun hb => by cases hb⟩⟩
 ·exact ⟨150, by rw [h]; rfl, call150, fun gx σ F i a w h1 h2 h3 h4 ha hal hwe hFe hN => (Q9 gc V vs.length vc gx σ F i a x w h1 h2 h3 h4 ha hxl hN).mono fun _ _ ⟨e1, e2⟩ => ⟨true, _, e1, e2, .inl ⟨by rw [h]; decide, rfl, rfl⟩, fun hb => by cases hb⟩⟩
theorem iN (we : World) (m : Md) (gc : Nat) (c : CrA) (Fc : List Nat) (V : Option Addr) (vc : Nat) (vs : List Bd) (hC : CourseN we m gc c Fc) (x : El) (hxl : x.id.length ≤ 100000) (hin : x.inn ≠ [] → 0 < (c.outs x.inn).length) (h : x.kind = 2) : Z3 we m gc c V vc vs x :=
 ⟨152, by rw [h]; rfl, call152, fun gx σ F i a w h1 h2 h3 h4 ha hal hwe hFe hN => (rW we m gc c Fc V vs.length vc gx σ F i a x w h1 h2 h3 ha hxl hin hC hwe hFe hN).mono fun _ _ ⟨e1, e2⟩ => ⟨true, _, e1, e2, .inr (.inr (.inl ⟨by rw [h]; decide, rfl, rfl⟩)), fun hb => by cases hb⟩⟩
theorem cF (w : World) : Calls prog 96 #[] w fun e w' => ∃ g, e = .returned (.map (some g)) ∧ MpU w' g R9 ∧ (w.heap.size ≤ g ∧ g < w'.heap.size) ∧ Fr0 w w' := by
 refine BL func96 ntmps96 rfl fun M => srg (AG rfl (srg (AG rfl (srg (fZ M (wn_none rfl) rfl rfl rfl fun g1 w1 hg1 M => yb rfl ?_)))))
 refine HR M 0 (k := (3 : UInt8)) (wn_none rfl) rfl rfl rfl rfl rfl underlying185 underlying5 rfl fun w2 M => yb rfl (HR M 0 (k := (4 : UInt8)) (wn_none rfl) rfl rfl rfl rfl rfl underlying185 underlying5 rfl fun w3 M => yb rfl (HR M 0 (k := (8 : UInt8)) (wn_none rfl) rfl rfl rfl rfl rfl underlying185 underlying5 rfl fun w4 M => yb rfl (HR M 0 (k := (7 : UInt8)) (wn_none rfl) rfl rfl rfl rfl rfl underlying185 underlying5 rfl fun w5 M => HR M 0 (k := (10 : UInt8)) (wn_none rfl) rfl rfl rfl rfl rfl underlying185 underlying5 rfl fun w6 M => HR M 0 (k := (2 : UInt8)) (wn_none rfl) rfl rfl rfl rfl rfl underlying185 underlying5 rfl fun w7 M => HR M 0 (k := (5 : UInt8)) (wn_none rfl) rfl rfl rfl rfl rfl underlying185 underlying5 rfl ?_)))
 intro w8 M
 exact HR M 0 (k := (6 : UInt8)) (wn_none rfl) rfl rfl rfl rfl rfl underlying185 underlying5 rfl fun w9 M => AV rfl rfl (gnr (gr1 rfl ⟨g1, rfl, (M.ok 0 _ rfl : MpU _ _ _), M.new0 0 rfl _ (by simp [As.mpU]), M.fr⟩))
theorem n0 (we : World) (m : Md) (gc : Nat) (c : CrA) (Fc : List Nat) (V : Option Addr) (vc gx : Nat) (vs : List Bd) (σ : Mo) (F : List Nat) (w : World) (R : Rl m) (hC : CourseN we m gc c Fc) (hwe : Fr0 we w) (hFe : ∀ g ∈ F, we.heap.size ≤ g) (hN : MoN w gc V vs.length vc gx σ F) (hI : Iv c σ) (hf0 : σ.fired.length ≤ 2) (hps : QO we m gc c V vc vs) :
 Calls prog 54 #[pg gx] w fun e w' => ∃ er σ', e = .returned (AA er) ∧ XK gc V vs.length vc gx σ' F w w' ∧ Rn m c vs σ σ' ∧ Iv c σ' ∧ σ'.fired.length ≤ 1025 ∧ ((er = 0 ∧ Z2 c σ') ∨ (er = 3 ∧ 1024 < σ'.fired.length)) := by
 obtain ⟨on, dn, fi, cm⟩ := σ
 dsimp only at hf0
 have Z := hC.cz
 refine sx_enter (vs := [_]) func54 rfl ntmps54 rfl ?_
 have M : Mem w (fun k => k ∈ F) [As.mo gc V vs.length vc gx (⟨on, dn, fi, cm⟩ : Mo) F] w := Mem.oneMo hN
 obtain ⟨x1, M⟩ := Mem.openMo M
 replace M : Mem w (fun k => k ∈ F) [As.blk gx 137 [pg gc, .slice V vs.length vc, .slice x1.A on.length x1.a, .slice x1.B dn.length x1.b, .slice x1.C fi.length x1.c, AA (cm : Int)], As.own 0 139 5 (.slice x1.A on.length x1.a) on.length (AB Ar.cells on), As.own 0 139 5 (.slice x1.B dn.length x1.b) dn.length (AB Ar.cells dn), As.own 0 9 1 (.slice x1.C fi.length x1.c) fi.length (AB BK fi)] w := M
 refine srg (AG rfl (gG (srg (cl 7 rfl (AE rfl rfl call96) (cF _) ?_))))
 rintro _ w1 ⟨gm, rfl, hm, hnm, hfw1⟩
 refine ⟨_, rfl, ?_⟩
 have M := M.push hfw1 (As.mpU gm R9) hm (fun g hg => by simp only [As.mpU, List.mem_singleton] at hg; subst hg; exact hnm)
 refine AG rfl (sx_seq (gJ (qx_seq (sx_seq (sx_block ?_)))))
 obtain ⟨F2, M⟩ := Mem.closeMo (M.pk [1, 2, 3, 4, 0])
 refine flp [3, 0] (fun ze e wr mz => ∃ (on1 : List Ar) (dn1 : List Ar) (fi1 : List (List UInt8)) (cm1 : Nat) (F1 : List Nat), e = ze ∧ Mem w (fun k => k ∈ F) [As.mo gc V vs.length vc gx (⟨on1, dn1, fi1, cm1⟩ : Mo) F1, As.mpU gm R9] wr ∧ (Rn m c vs ⟨on, dn, fi, cm⟩ (⟨on1, dn1, fi1, cm1⟩ : Mo)) ∧ (Iv c (⟨on1, dn1, fi1, cm1⟩ : Mo)) ∧ (fi1.length ≤ 1025) ∧ mz = 1026 - fi1.length) ⟨on, dn, fi, cm, _, rfl, M, .refl, hI, by omega, rfl⟩ ?_
 rintro _ w2 _ ⟨on1, dn1, fi1, cm1, F1, rfl, M, hR, hI1, hfl, rfl⟩
 refine sx_seq (AC rfl (AV rfl rfl ?_))
 obtain ⟨x3, M⟩ := Mem.openMo M
 replace M : Mem w (fun k => k ∈ F) [As.blk gx 137 [pg gc, .slice V vs.length vc, .slice x3.A on1.length x3.a, .slice x3.B dn1.length x3.b, .slice x3.C fi1.length x3.c, AA (cm1 : Int)], As.own 0 139 5 (.slice x3.A on1.length x3.a) on1.length (AB Ar.cells on1), As.own 0 139 5 (.slice x3.B dn1.length x3.b) dn1.length (AB Ar.cells dn1), As.own 0 9 1 (.slice x3.C fi1.length x3.c) fi1.length (AB BK fi1), As.mpU gm R9] w2 := M
 refine B2 M 0 rfl rfl rfl (DP rfl rfl (PR rfl rfl (nq (AF rfl (fun h13 => ?_) (fun h13 => ?_)))))
 ·have h13p := (odt h13)
  refine sx_skip (qx_seq (sx_block (sx_seq (AC rfl (AV rfl rfl (B2 M 0 rfl rfl rfl (DP rfl rfl (AG rfl (sx_block ?_)))))))))
  have hc0 := M.cell 0 (off := 2) rfl rfl
  have hfb : fi1.length ≤ 1024 := by omega
  have hb1 := hI1.on
  have hb2 := hI1.came
  have hb3 := hI1.done
  dsimp only at hb1 hb2 hb3
  obtain ⟨F4, M⟩ := Mem.closeMo (M.pk [0, 1, 2, 3, 4])
  refine flp [18, 17, 3, 0] (fun ze e wr mz => ∃ (i : Nat) (on2 : List Ar) (F2 : List Nat), e = (19, AA (i : Int)) :: ze ∧ Mem w (fun k => k ∈ F) [As.mo gc V vs.length vc gx (⟨on2, dn1, fi1, cm1⟩ : Mo) F2, As.mpU gm R9] wr ∧ (i ≤ on1.length) ∧ (Rn m c vs ⟨on, dn, fi, cm⟩ (⟨on2, dn1, fi1, cm1⟩ : Mo)) ∧ (Iv c (⟨on2, dn1, fi1, cm1⟩ : Mo)) ∧ (on2.length = on1.length) ∧ (∀ (k : Nat) (b : Ar), k < i → on2[k]? = some b → Stl c on2 b) ∧ (Cell wr.heap gx 2 (.slice x3.A on1.length x3.a)) ∧ mz = on1.length - i) ⟨0, on1, _, rfl, M, Nat.zero_le _, hR, hI1, rfl, fun k _ h => absurd h (Nat.not_lt_zero k), hc0, rfl⟩ ?_
  rintro _ w3 _ ⟨i, on2, F2, rfl, M, hi, hR2, hI2, hl2, hS2, hc2, rfl⟩
  refine srg (BM rfl rfl (nq (sx_seq (AF rfl (fun h20 => ?_) (fun h20 => ?_)))))
  ·have h20p := (odt h20)
   refine sx_skip (qx_seq (sx_seq (sx_block (AC rfl ?_))))
   obtain ⟨x5, M⟩ := Mem.openMo M
   replace M : Mem w (fun k => k ∈ F) [As.blk gx 137 [pg gc, .slice V vs.length vc, .slice x5.A on2.length x5.a, .slice x5.B dn1.length x5.b, .slice x5.C fi1.length x5.c, AA (cm1 : Int)], As.own 0 139 5 (.slice x5.A on2.length x5.a) on2.length (AB Ar.cells on2), As.own 0 139 5 (.slice x5.B dn1.length x5.b) dn1.length (AB Ar.cells dn1), As.own 0 9 1 (.slice x5.C fi1.length x5.c) fi1.length (AB BK fi1), As.mpU gm R9] w3 := M
   have hq5 := pI (M.cell 0 (off := 2) rfl rfl) hc2
   injection hq5 with hqA hqn hqc
   rw [← hqA, ← hqc] at M
   obtain ⟨y, hy⟩ := BZ (l := on2) (i := i) A0
   obtain ⟨b22, o22, hA22⟩ := B7 (k := 5) A0 (M.rdOwn 1 rfl) hy
   refine ya rfl (AP i hA22 rfl rfl rfl (sl rfl) A0) (ya rfl (AH rfl rfl (BB Ar.len (M.rdOwn 1 rfl) hA22 hy) underlying139 rfl CG) (CO M rfl EV fun g5 w4 hg5 M => yb rfl (C2 M 0 rfl rfl CG rfl fun w5 M => nq (sx_seq (I6 M 21 CL fun M => oc 0 21 rfl rfl M (oc 1 21 rfl rfl M (oc 2 21 rfl rfl M (ol 3 21 rfl rfl rfl M (fun _ M => (M.cell 1 rfl rfl)) (oc 4 21 rfl rfl M ?_)))))))))
   refine oc 5 21 rfl rfl M (oa 6 21 rfl rfl M (fun _ M => B9 rfl rfl (sc rfl) (Blk.c ((hC.fr0 (D4 hwe M.fr hFe)).blk) 5 rfl)) (oc 7 21 rfl rfl M (oc 8 21 rfl rfl M (oc 9 21 rfl rfl M (ol 10 21 rfl rfl rfl M (fun _ M => (M.cell 1 rfl rfl)) (oc 11 21 rfl rfl M (oc 12 21 rfl rfl M (oa 13 21 rfl rfl M (fun _ M => B9 rfl rfl (sc rfl) (Blk.c ((hC.fr0 (D4 hwe M.fr hFe)).blk) 6 rfl)) (oc 14 21 rfl rfl M (ol 15 21 rfl rfl rfl M (fun _ M => (M.cell 0 rfl rfl)) (oa 16 21 rfl rfl M (fun _ M => BD rfl rfl rfl underlying86 underlying9 E9 ((hC.fr0 (D4 hwe M.fr hFe)).L) (hC.getL _)) (oa 17 21 rfl rfl M (fun _ M => f7 (b := (c.flf y.flow)) rfl rfl) (oa 18 21 rfl rfl M (fun _ M => BD rfl rfl rfl underlying85 underlying9 AQ ((hC.fr0 (D4 hwe M.fr hFe)).A) (hC.getA _)) (fon M 19 6 rfl rfl AQ fun g6 w6 hg6 M => fop M 20 0 rfl rfl rfl AK rfl (·.drop 1) fun w7 M => ?_))))))))))))))
   refine fdn (qx_seq (AC rfl (B2 M 1 rfl rfl rfl (AV rfl rfl (AD (d := 46) rfl (fun h46 => ?_) (fun h46 => ?_))))))
   ·have h46p := (BY h46)
    refine gyq rfl (gyq rfl (C3 M 0 rfl rfl rfl (yd rfl (XL rfl rfl rfl underlying185 underlying5 FB (M.ok 6 _ rfl : MpU _ _ _)) (gyq rfl (gyq rfl (yd rfl (AH (xs := El.cells (c.atf ((c.flf y.flow).tg))) rfl rfl (M.rdBlk 0 rfl rfl) underlying95 rfl AK) ?_))))))
    obtain ⟨x0, hxm, hx0, _, hk9, hk1⟩ := tE R Z (hI2.isF y (List.mem_of_getElem? hy))
    have hx0 : OA c y = x0 := hx0
    rw [← hx0] at hxm hk9 hk1
    have hyl : y.flow.length ≤ 100000 := by obtain ⟨f, hf, he, _⟩ := kY R Z (hI2.isF y (List.mem_of_getElem? hy)); have := (TI (R.flN f hf)).2; rw [← he]; omega
    have hc3 := M.cell 2 (off := 2) rfl rfl
    obtain ⟨F8, M⟩ := Mem.closeMo (M.pk [2, 3, 4, 5, 0, 1, 6])
    obtain ⟨fd, hfv, hfn, hfc⟩ := hps (OA c y) hxm hk9 hk1
    refine sxl_call (some 54) (wn_on rfl rfl rfl) rfl rfl (BC rfl (congrArg some hfv) rfl hfn) (hfc gx (⟨on2, dn1, fi1, cm1⟩ : Mo) F8 i y _ (by dsimp only; omega) (by dsimp only; omega) (by dsimp only; omega) (by dsimp only; omega) hy hyl (D4 hwe M.fr hFe) (moF M 0 rfl hFe hwe.size) (M.ok 0 _ rfl)) ?_
    rintro _ w8 ⟨b, σ', rfl, ⟨F9, hN9, hq9, hf9⟩, hP, hkc⟩
    refine ⟨_, rfl, ?_⟩
    obtain ⟨on3, dn3, fi3, cm3⟩ := σ'
    have M := M.updMo 0 rfl (σ' := (⟨on3, dn3, fi3, cm3⟩ : Mo)) hN9 hq9 hf9
    refine AG rfl (AF rfl (fun h55 => ?_) (fun h55 => ?_))
    ·refine sx_exit (G2 rfl (qx_then_exit (qx_then_exit (G2 rfl (qx_then_exit (qx_block_hit ?_))))))
     have h9 := (QF R Z vs hxm hI2 hy hP).2.1 h55
     dsimp only at h9
     refine fag ⟨on3, dn3, fi3, cm3, F9, rfl, (M.pk [0, 3]), ?_, ?_, ?_, rfl⟩
     ·exact Rn.step hR2 hy h46p hP
     ·exact (QF R Z vs hxm hI2 hy hP).1
     ·omega
    ·subst h55
     obtain ⟨p1, p2, p3, p4, p5, p6, p7⟩ := iM hy hP
     dsimp only at p1 p2 p3 p4 p5 p6 p7
     replace p5 := p5.symm
     subst p5
     replace p6 := p6.symm
     subst p6
     replace p7 := p7.symm
     subst p7
     refine sx_skip (qx_block_normal (qx_seq (sx_region (C1 rfl rfl (yb rfl (sxl_nil (fag ⟨i + 1, on3, F9, rfl, (M.pk [0, 3]), ?_, ?_, ?_, ?_, ?_, ?_, rfl⟩)))))))
     ·omega
     ·first
       | exact Rn.step hR2 hy h46p hP
       | exact hR2
     ·first
       | exact (QF R Z vs hxm hI2 hy hP).1
       | exact hI2
     ·first
       | exact p1.trans hl2
       | exact hl2
     ·intro k b hk hb
      by_cases hki : k = i
      ·subst hki
       first
        | (obtain ⟨a', ha1, ha2⟩ := p4; rw [ha1] at hb; injection hb with hb; exact hb ▸ ha2)
        | (rw [hy] at hb; injection hb with hb; exact hb ▸ .inl (by simpa using h46p))
      ·first
        | exact ZJ p3 (hS2 k b A0 ((p2 k hki).symm.trans hb))
        | exact hS2 k b A0 hb
     ·first
       | exact hl2 ▸ hkc rfl _ hc3
       | exact hl2 ▸ hc3
   ·have h46p := (BJ h46)
    iterate 8 refine yo rfl ?_
    refine AG rfl (sx_false rfl (sx_skip (qx_block_normal (qx_seq (sx_region (C1 rfl rfl (yb rfl (sxl_nil ?_))))))))
    have hc3 := M.cell 2 (off := 2) rfl rfl
    obtain ⟨F9, M⟩ := Mem.closeMo (M.pk [2, 3, 4, 5, 0, 1, 6])
    refine fag ⟨i + 1, on2, F9, rfl, (M.pk [0, 3]), ?_, ?_, ?_, ?_, ?_, ?_, rfl⟩
    ·omega
    ·first
      | exact Rn.step hR2 hy h46p hP
      | exact hR2
    ·first
      | exact (QF R Z vs hxm hI2 hy hP).1
      | exact hI2
    ·first
      | exact p1.trans hl2
      | exact hl2
    ·intro k b hk hb
     by_cases hki : k = i
     ·subst hki
      first
       | (obtain ⟨a', ha1, ha2⟩ := p4; rw [ha1] at hb; injection hb with hb; exact hb ▸ ha2)
       | (rw [hy] at hb; injection hb with hb; exact hb ▸ .inl (by simpa using h46p))
     ·first
       | exact ZJ p3 (hS2 k b A0 ((p2 k hki).symm.trans hb))
       | exact hS2 k b A0 hb
    ·first
      | exact hl2 ▸ hkc rfl _ hc3
      | exact hl2 ▸ hc3
  ·have h20p := (odf h20)
   refine sx_exit (qx_then_exit (qx_then_exit (qx_block_hit (qx_seq (AC rfl (gnr (qx_block_ret (qx_then_ret (qx_block_ret (qx_then_ret (NY ?_)))))))))))
   exact gr1 rfl ⟨0, _, rfl, L7 (M.pk [0]), hR2, hI2, by dsimp only; omega, .inl ⟨rfl, fun k b hb => hS2 k b (by have := (List.getElem?_eq_some_iff.1 hb).1; dsimp only at this; omega) hb⟩⟩
 ·have h13p := (odf h13)
  refine sx_exit (qx_then_exit (qx_then_exit (qx_block_hit (qx_seq (AC rfl (gnr (NY (gr1 rfl ?_))))))))
  obtain ⟨F10, M⟩ := Mem.closeMo (M.pk [0, 1, 2, 3, 4])
  exact ⟨3, _, rfl, L7 (M.pk [0]), hR, hI1, hfl, .inr ⟨rfl, by dsimp only; omega⟩⟩
section
theorem PH {P : Program} {ops : Array Oper} {Q : Exit → Act → World → Prop} {t : Nat} : ∀ (fuel : Nat) (listed : Array Bool) (a : Act) (w : World), wpAny P .any ops Q fuel listed a w → HY P ops Q t (fun _ => True) fuel listed a w
 | 0, _, _, _, h => h
 | fuel + 1, _, _, _, h => ⟨h.1, fun i hi => wpOp_mono (fun a' w' h' => ⟨fun _ => trivial, PH fuel _ a' w' h'⟩) (h.2 i hi)⟩
theorem K2 {P : Program} {ops : Array Oper} {Q : Exit → Act → World → Prop} {t1 n f : Nat} {listed : Array Bool} {e : Env} {w : World} (t : Nat) (S : World → Prop) (k : SxO P ops Q t S n f listed e w) : SxO P ops Q t1 (fun _ => True) n f listed e w :=
 ⟨fun a ha => PH _ _ _ _ (MO _ _ _ _ (k.run a ha))⟩
section
variable {P : Program} {e : Env} {w : World} {o : Oper} {t t' : Nat} {x y : Operand} {a b : Nat}
theorem U3 (ho : o.op = .binOp .mul t x y t') (hx : ev e x = some (AA (a : Int))) (hy : ev e y = some (AA (b : Int))) (h : a * b ≤ 4611686018427387904) : Y P e o w (AA ((a * b : Nat) : Int)) := by
 have := sJ (P := P) (w := w) ho hx hy ⟨by have : (0 : Int) ≤ (a : Int) * (b : Int) := Int.mul_nonneg A0 A0; omega, by have : ((a * b : Nat) : Int) = (a : Int) * (b : Int) := Int.natCast_mul a b; omega⟩
 rwa [show (a : Int) * (b : Int) = ((a * b : Nat) : Int) from (Int.natCast_mul a b).symm] at this
theorem Q7 {s d : Nat} {ds : TypeDesc} (ho : o.op = .convert s d x) (hx : ev e x = some (AA (a : Int))) (hs : P.underlying s = some ds) (hd : P.underlying d = some (.int .u64)) (h : a ≤ 9223372036854775807) : Y P e o w (.int .u64 (a : Int)) :=
 ON ho hx hs hd (by rw [IntKind.wrap_u64]; omega)
theorem Q8 {s d : Nat} {ds : TypeDesc} (ho : o.op = .convert s d x) (hx : ev e x = some (.int .u64 (a : Int))) (hs : P.underlying s = some ds) (hd : P.underlying d = some (.int .i64)) (h : a ≤ 9223372036854775807) : Y P e o w (AA (a : Int)) :=
 ON ho hx hs hd (IntWalk.i64_in _ ⟨by omega, by omega⟩)
theorem U0 {k : IntKind} (ho : o.op = .binOp .shr t x y t') (hx : ev e x = some (.int .u64 (a : Int))) (hy : ev e y = some (.int k 1)) : Y P e o w (.int .u64 ((a / 2 : Nat) : Int)) := fun ρ h => by
 have hs : (Op.shift .shr .u64 (a : Int) k 1).run P w = .ok (.int .u64 ((a / 2 : Nat) : Int)) w := by
  have hn : min (1 : Int).toNat IntKind.u64.bits = 1 := by decide
  have he : Int.fdiv (a : Int) (2 ^ 1) = ((a / 2 : Nat) : Int) := by
   rw [show (2 ^ 1 : Int) = ((2 : Nat) : Int) by rfl, Int.ofNat_fdiv]
  unfold Op.shift
  rw [if_neg (by decide)]
  simp only [hn, he]
  rfl
 unfold execOp; simp [ho, h _ _ hx, h _ _ hy, eqGuard_shr, binOp_shr, hs]
end
section
variable {α : Type} {cells : α → List Value} {k : Nat} {l : List α} {rs : List Value}
theorem TO {j : Nat} {x : α} (hx : l[j]? = some x) : AB cells l = AB cells (l.take j) ++ (cells x ++ AB cells (l.drop (j + 1))) := by
 have h1 : l = l.take j ++ x :: l.drop (j + 1) := by
  rw [← B0 hx, List.take_append_drop]
 conv => lhs; rw [h1]
 rw [AT]; simp [AB]
theorem FZ (hk : ∀ x, (cells x).length = k) {w : World} {g t : Nat} (hb : Blk w g t (AB cells l ++ rs)) : Rd w (some ⟨g, 0, none⟩) (l.length * k) (AB cells l) :=
 DK hb 0 (l.length * k) (by rw [List.drop_zero, List.take_left' (I9 hk l)]) (I9 hk l)
theorem J4 (hk : ∀ x, (cells x).length = k) {j m : Nat} (h : j < l.length) (hm : m = k) : 0 + j * k + m ≤ (AB cells l ++ rs).length := by
 subst hm
 rw [List.length_append, I9 hk]
 have : (j + 1) * m ≤ l.length * m := Nat.mul_le_mul_right _ h
 rw [Nat.succ_mul] at this
 omega
theorem HV (hk : ∀ x, (cells x).length = k) {j : Nat} {y : α} (h : j < l.length) : put (AB cells l ++ rs) (0 + j * k) (cells y) = AB cells (l.set j y) ++ rs := by
 obtain ⟨x, hx⟩ : ∃ x, l[j]? = some x := ⟨l[j], List.getElem?_eq_getElem h⟩
 have hy : (l.set j y)[j]? = some y := List.getElem?_set_self h
 have hl : (AB cells (l.take j)).length = j * k := by rw [I9 hk, List.length_take, Nat.min_eq_left (Nat.le_of_lt h)]
 rw [TO hx, TO hy, List.take_set_of_le (Nat.le_refl _), List.drop_set_of_lt A0, Nat.zero_add]
 unfold put
 rw [List.append_assoc, List.append_assoc, List.take_left' hl, hk, ← List.drop_drop, List.drop_left' hl, List.append_assoc, List.drop_left' (hk x), List.append_assoc]
theorem CY {i j : Nat} {a b : α} (ha : l[i]? = some a) (hb : l[j]? = some b) : ((l.set i b).set j a).Perm l := by
 obtain ⟨h1, rfl⟩ := List.getElem?_eq_some_iff.1 ha
 obtain ⟨h2, rfl⟩ := List.getElem?_eq_some_iff.1 hb
 exact List.set_set_perm h1 h2
end
end
section
theorem Mi.keep {w w' : World} {g : Nat} {f : Int → Option Value} (h : Mi w g f) (hk : g < w.heap.size → w'.heap[g]? = w.heap[g]?) : Mi w' g f := by
 obtain ⟨es, cl, h1, h2⟩ := h
 exact ⟨es, cl, (hk (Array.getElem?_eq_some_iff.1 h1).1).trans h1, h2⟩
def As.mi (g : Nat) (f : Int → Option Value) : As := ⟨[g], fun w => Mi w g f, fun h hb => hb.keep (h g (by simp))⟩
section
variable {P : Program} {Q : Exit → Act → World → Prop} {n : Nat} {e : Env} {w w0 : World} {S : Nat → Prop} {L : List As} {ops : Array Oper} {o : Oper} {rest : List Oper}
theorem bO (M : Mem w0 S L w) {d t : Nat} (hw : Wn ops e o) (hd : o.dst = some d) (hn : Nat.blt d n = true) (ho : o.op = .makeMap t none)
 (k : ∀ g w', w.heap.size ≤ g → Mem w0 S (As.mi g (fun _ => none) :: L) w' → SxL P ops Q n rest ((d, .map (some g)) :: e) w') : SxL P ops Q n (o :: rest) e w := by
 refine sxl_does (some d) hw hd hn (fun ρ hρ => eD ho) ?_
 rintro _ w1 ⟨g, rfl, h1, h2, hb, hf⟩
 exact k g w1 h1 (M.push hf _ hb (fun g' hg' => by simp only [As.mi, List.mem_singleton] at hg'; subst hg'; exact ⟨h1, h2⟩))
theorem fY (M : Mem w0 S L w) (i : Nat) (hw : Wn ops e o) (hd : o.dst = none) {t kt el g : Nat} {q : IntKind} {mp ix x : Operand} {k : Int} {v : Value} {f : Int → Option Value} (ho : o.op = .mapUpdate t mp ix x) (hm : ev e mp = some (.map (some g))) (hx : ev e ix = some (AA k)) (hv : ev e x = some v) (hu : P.underlying t = some (.map kt el)) (hk : P.underlying kt = some (.int q))
 (hi : L[i]? = some (As.mi g f)) (c : ∀ w', Mem w0 S (L.set i (As.mi g (upd f k v))) w' → SxL P ops Q n rest e w') : SxL P ops Q n (o :: rest) e w := by
 refine sxl_does none hw hd rfl (fun ρ hρ => dZ ho (hρ _ _ hm) (hρ _ _ hx) (hρ _ _ hv) hu hk (M.ok i _ hi : Mi w g f)) ?_
 rintro _ w1 ⟨rfl, hf, hb⟩
 exact c w1 (M.upd i hi (hf.mono fun k _ e => by simp only [As.mi, List.mem_singleton]; exact e) (As.mi g _) hb (fun g' hg' => .inl hg'))
end
theorem f6 {P : Program} {w : World} {o : Oper} {e : Env} {t kt el : TypeId} {q : IntKind} {x i : Operand} {g : Nat} {k : Int} {f : Int → Option Value} {z v : Value} (ho : o.op = .lookup t x i false) (hx : ev e x = some (.map (some g))) (hi : ev e i = some (AA k)) (hu : P.underlying t = some (.map kt el)) (hd : P.underlying kt = some (.int q)) (hz : (P.info? el).map (·.zero) = some (some z)) (hM : Mi w g f) (hv : (f k).getD z = v) : Y P e o w v := by
 have := m4 (P := P) (ok := false) ho hx hi hu hd hz hM
 rw [← hv]; exact this
end
end Go.Proofs.YtaheakjfkpkefaaGreatDoor
