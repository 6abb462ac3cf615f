/- Lemmas that the last text rests on. Condition: each says its own. -/
import Derived.Test.YtjaocmocdhckaaaGreatDoorZMw13
set_option maxHeartbeats 16000000
set_option maxRecDepth 100000
namespace Go.Proofs.YtjaocmocdhckaaaGreatDoor
open Go.RowKit
open Tryz
theorem mA (m : Md) (a : MdA) (w : World) (ho : MdOk m) (hM : MdIn w m a) (hY : Lay0 w) :
 Calls prog 7 #[.agg (Md.cells m a).toArray] w fun e w' => ∃ p er c F, e = .returned (.tuple #[.pointer p, .int .i64 er]) ∧ (er = 0 → ∃ gc, p = some ⟨gc, 0, none⟩ ∧ CourseN w' m gc c F) ∧ (er = 0 → KT m = true) ∧ (∀ g ∈ F, w.heap.size ≤ g ∧ g < w'.heap.size) ∧ Fr0 w w' :=
 (fZ m a w ho hM hY).mono fun e w' ⟨h, hf⟩ => by
  rcases h with ⟨hn, gc, c, F, h1, h2, h3⟩ | ⟨_, h1⟩
  ·exact ⟨some ⟨gc, 0, none⟩, 0, c, F, h1, fun _ => ⟨gc, rfl, h2⟩, fun _ => hn, h3, hf⟩
  ·exact ⟨none, 140, ⟨⟨none, 0, none, 0, none, 0⟩, 0, 0, 0, 0, 0, [], [], [], fun _ => zeroEl, fun _ => false, fun _ => zeroFl, fun _ => false, fun _ => [], [], fun _ => [], [], fun _ => none, fun _ => none, []⟩, [], h1, fun z => absurd z BR, fun z => absurd z BR, fun g hg => absurd hg (by simp), hf⟩
theorem pA {m : Md} {c : CrA} {i : In} {next clock : Int} (hck : GZ m c i next clock = true) {q : Nat} {y : Tk} (hy : i.toks[q]? = some y) : ixT y.id i.toks = ((q : Nat) : Int) := by
 obtain ⟨j, z, h1, h2, h3⟩ := Z7 (p := fun t : Tk => decide (t.id = y.id)) ⟨y, List.mem_of_getElem? hy, by simp⟩ 0
 have := XY hck h2 hy (odt h3)
 unfold ixT
 rw [h1, this, Nat.zero_add]
theorem jC (m : Md) (gc : Nat) (c : CrA) (F : List Nat) (i : In) (V T : Option Addr) (vc tc q : Nat) (y : Tk) (via : List UInt8) (next clock : Int) (w : World) (ho : MdOk m) (R : Rl m) (hC : CourseN w m gc c F) (htl : i.toks.length ≤ 300) (hok : BdOk i.vars) (hwk : ∀ t ∈ i.toks, (t.worker.length : Int) < 4611686018427387904) (hvia : via.length ≤ 4611686018427387903) (hV : Rd w V (i.vars.length * 5) (AK Bd.cells i.vars)) (hT : Rd w T (i.toks.length * 9) (AK Tk.cells i.toks)) (hY : Lay0 w) (hck : GZ m c i next clock = true) (hy : i.toks[q]? = some y) :
 Calls prog 8 #[pg gc, .agg (In.cells i V T vc tc).toArray, .int .i64 y.id, str via, .int .i64 next, .int .i64 clock] w fun e w' => ∃ a0 a1 a2 W0 wn wc X0 xn xc a5 Y0 yn yc er, e = .returned (.tuple #[.agg [.int .i64 a0, str a1, .int .u8 a2, .slice W0 wn wc, .slice X0 xn xc, .int .i64 a5, .slice Y0 yn yc].toArray, .int .i64 er]) ∧ (er = 0 ∨ er = 1 ∨ er = 3) ∧ ((DD m c y via).2.2 = true → er ≠ 1) ∧ Fr0 w w' :=
 (ZJ m gc c F i V T vc tc y.id via next clock w ho R hC htl hok hwk hvia hV hT hY).mono fun e w' ⟨hf, h⟩ => by
  rcases h with ⟨rfl, h⟩ | ⟨j, z, _, h⟩
  ·exact ⟨_, _, _, _, _, _, _, _, _, _, _, _, _, _, rfl, .inr (.inl rfl), fun hc _ => h q y ⟨hck, pA hck hy, hy, hc⟩, hf⟩
  ·obtain ⟨a0, a1, a2, W0, wn, wc, X0, xn, xc, a5, Y0, yn, yc, er, h1, h2⟩ := MvD.shape (h w' fun _ _ _ => rfl)
   refine ⟨a0, a1, a2, W0, wn, wc, X0, xn, xc, a5, Y0, yn, yc, er, h1, ?_, fun _ => ?_, hf⟩
   ·rcases h2 with h | h
    ·exact .inl h
    ·exact .inr (.inr h)
   ·rcases h2 with rfl | rfl <;> decide
section
variable {m : Md} {c : CrA} (R : Rl m) (Z : Cz m c)
include R Z
theorem TH {vars : List Bd} (hv : FZ vars m.vars = true) {y : Tk} (hp : EO m c y = true) {j : Nat} {x : Wt} (hx : (DY m c y vars).1[j]? = some x) : x.via ∈ DK m c y := by
 rw [← (QB R Z hv hp).2]
 exact List.mem_map_of_mem (List.mem_of_getElem? hx)
theorem YI {y : Tk} {via : List UInt8} (h : via ∈ DK m c y) : via.length ≤ 4611686018427387903 := by
 obtain ⟨_, x, hx, rfl, _⟩ := JR R Z (.inl h)
 have := (HD (R.elN x hx)).2
 omega
theorem WU {y : Tk} (hp : EO m c y = true) : y.loc.length ≤ 32 ∧ y.on.length ≤ 32 ∧ (y.loc = [] → y.on ≠ []) := by
 by_cases hl : y.loc = []
 ·obtain ⟨f, hf, he, _⟩ := XU R Z (KG hp hl).1
  have := HD (R.flN f hf)
  rw [he] at this
  exact ⟨by rw [hl]; exact Nat.zero_le _, this.2, fun _ => this.1⟩
 ·have h := L9 hp hl
  have h1 := h.1
  rw [Z.eB] at h1
  obtain ⟨x, hx, he⟩ := gZ h1
  have := (HD (R.elN x hx)).2
  rw [he] at this
  exact ⟨this, by rw [h.2.1]; exact Nat.zero_le _, fun h => absurd h hl⟩
theorem PZ {y : Tk} (hp : EO m c y = true) (hn : (DD m c y (y.loc ++ y.on)).2.2 = true → False) (h0 : (DK m c y).length = 0) (h1 : y.on = [] ∨ y.inc.toNat ≠ 0) (h2 : y.inc.toNat ≠ 2) : False := by
 by_cases hl : y.loc = []
 ·have hon := (WU R Z hp).2.2 hl
  have hi := (KG hp hl).2
  have h1 := h1.resolve_left hon
  exact hn (j9 AO (by rw [hl]; rfl))
 ·obtain ⟨_, hon, hk⟩ := L9 hp hl
  rcases hk with ⟨h4, hi⟩ | ⟨hk, _⟩
  ·exact hn (jB h4 AO (by rw [hon, List.append_nil]))
  ·exact aE R Z hp hl AO (List.eq_nil_of_length_eq_zero h0)
end
theorem R2 (m : Md) (a : MdA) (i : In) (V T : Option Addr) (vc tc : Nat) (next clock : Int) (w : World) (hs : MdStr m) (hM : MdIn w m a) (hok : BdOk i.vars) (hwk : ∀ t ∈ i.toks, (t.worker.length : Int) < 4611686018427387904) (hV : Rd w V (i.vars.length * 5) (AK Bd.cells i.vars)) (hT : Rd w T (i.toks.length * 9) (AK Tk.cells i.toks)) (hY : Lay0 w) :
 Calls prog 4 #[.agg (Md.cells m a).toArray, .agg (In.cells i V T vc tc).toArray, .int .i64 next, .int .i64 clock] w fun e w' => e = .returned (.bool true) ∧ Fr0 w w' := by
 refine C2 func4 ntmps4 rfl fun M => srg (CN M rfl rfl fun g4 w1 hg4 M => CN M rfl rfl fun g5 w2 hg5 M => yb rfl (nq (AD (srg (D1 M 21 rfl rfl call5 (QA _ (hY.fr0 M.fr)) fun w3 M => yb rfl (yb rfl ?_))))))
 refine yd rfl (AT (xs := Md.cells m a) rfl rfl (M.rdBlk 1 rfl rfl) underlying26 rfl BX) (B0 (some 25) (BD rfl rfl rfl) rfl rfl (AQ rfl rfl call6) (gK m a _) ?_)
 rintro _ w4 ⟨rfl, hfw4⟩
 refine ⟨_, rfl, ?_⟩
 have M := M.step hfw4
 refine yb rfl (yb rfl (AP (d := 27) rfl (fun h27 => ?_) (fun h27 => ?_)))
 ·iterate 4 refine yo rfl ?_
  exact yb rfl (nq (EA rfl (srg (D1 M 33 rfl rfl call5 (QA _ (hY.fr0 M.fr)) fun w5 M => yb rfl (nq (AI (AE (gr1 rfl ⟨rfl, M.fr⟩))))))))
 ·have ho := hs.ok h27
  refine gyq rfl (CH M 0 rfl rfl rfl (yd rfl (C7 rfl rfl (sl rfl)) (yd rfl (G6 rfl rfl rfl) (yb rfl (AC (AA (AN rfl (fun h32 => ?_) (fun h32 => ?_))))))))
  ·exact srg (D1 M 33 rfl rfl call5 (QA _ (hY.fr0 M.fr)) fun w6 M => yb rfl (nq (AI (AE (gr1 rfl ⟨rfl, M.fr⟩)))))
  ·have h32p := (odf h32)
   refine AL (AA (srg (CR M 1 rfl rfl underlying26 BX rfl (cl 36 rfl (AQ rfl rfl call7) (mA m a _ ho (hM.fr0 M.fr) (hY.fr0 M.fr)) ?_))))
   rintro _ w7 ⟨p, er, c, F, rfl, hcr, hnw, hnc, hfw7⟩
   refine ⟨_, rfl, ?_⟩
   have M := M.push hfw7 (As.crs m p er c F) hcr hnc
   iterate 5 refine yb rfl ?_
   refine AC (AA (AD (AD (AB (yb rfl (D4 rfl rfl (yb rfl (AP (d := 41) rfl (fun h41 => ?_) (fun h41 => ?_)))))))))
   ·iterate 6 refine yo rfl ?_
    exact yb rfl (nq (EA rfl (srg (yb rfl (nq (AI (AE (gr1 rfl ⟨rfl, M.fr⟩))))))))
   ·have h41p := (odt (BM h41))
    have her : er = 0 := by simpa using h41
    obtain ⟨gc, rfl, _⟩ := (M.ok 0 _ rfl) her
    have hR : Rl m := nU (hnw her)
    have Z : Cz m c := (M.crs 0 her rfl).cz
    have hil : ∀ q, (c.ins q).length ≤ 400 := fun q => (UD hR Z q).2
    refine gyq rfl (yd rfl (AT (xs := In.cells i V T vc tc) rfl rfl (M.rdBlk 1 rfl rfl) underlying29 rfl E8) (gyq rfl (gyq rfl (B0 (some 46) (BD rfl rfl rfl) rfl rfl (AQ rfl rfl call9) (WM m gc c F i V T vc tc next clock _ ho (M.crs 0 her rfl) hil AO hok hwk (hV.fr0 M.fr) (hT.fr0 M.fr) (hY.fr0 M.fr)) ?_))))
    rintro _ w8 ⟨rfl, hfw8⟩
    refine ⟨_, rfl, ?_⟩
    have M := M.step hfw8
    refine yd rfl (DC rfl rfl rfl) (yb rfl (AC (AA (AN rfl (fun h48 => ?_) (fun h48 => ?_)))))
    ·exact srg (yb rfl (nq (AI (AE (gr1 rfl ⟨rfl, M.fr⟩)))))
    ·have h48p := (odt (BM h48))
     have hck : GZ m c i next clock = true := Classical.byContradiction fun hn => by rw [if_neg hn] at h48; cases h48
     have hvE := (RR hck).1.2.2.2.2.2
     refine AL (AA (AD (srg (yb rfl (nq (AR (flp [9, 5, 3, 2] (fun ze e wr mz => ∃ (q : Nat), e = (11, .int .i64 ((q : Nat) : Int)) :: ze ∧ Mem w AV [As.crs m (some ⟨gc, 0, none⟩) er c F, As.blk g5 29 (In.cells i V T vc tc), As.blk g4 26 (Md.cells m a)] wr ∧ (q ≤ i.toks.length) ∧ mz = i.toks.length - q) ⟨0, rfl, M, Nat.zero_le _, rfl⟩ ?_)))))))
     rintro _ w9 _ ⟨q, rfl, M, hq, rfl⟩
     refine AD (AD (AB (yb rfl (yb rfl (BA M 1 rfl rfl rfl (ya rfl (C7 rfl rfl (sl rfl)) (CB rfl rfl (AC (AA (AN rfl (fun h53 => ?_) (fun h53 => ?_)))))))))))
     ·have h53p := (odt h53)
      refine AL (AA (AD (AR (srg (yb rfl (BA M 1 rfl rfl rfl (yb rfl ?_)))))))
      obtain ⟨y, hy⟩ := CA (l := i.toks) (i := q) AO
      obtain ⟨b_y, o_y, hA_y⟩ := BI (k := 9) AO (hT.fr0 M.fr) hy
      have hyp := (RR hck).2 y (List.mem_of_getElem? hy)
      have hyl := WU hR Z hyp.1
      have hyn : (y.loc ++ y.on).length ≤ 64 := by rw [List.length_append]; omega
      refine ya rfl (B1 q hA_y rfl rfl rfl (sl rfl) AO) (ya rfl (AT rfl rfl (BQ Tk.len (hT.fr0 M.fr) hA_y hy) underlying43 rfl BB) (D6 M rfl EX fun g12 w10 hg12 M => C1 M 0 rfl rfl BB rfl fun w11 M => nq (srg (yb rfl (yb rfl (BA M 2 rfl rfl rfl (CR M 0 rfl rfl underlying43 BB rfl (cl 66 rfl (AQ rfl rfl call11) (UW m gc c F y V vc i.vars _ ho (M.crs 1 her rfl) (by have := hok.len; omega) (hV.fr0 M.fr)) ?_))))))))
      rintro _ w12 ⟨A66, c66, rfl, how12, hfw12⟩
      refine ⟨.tuple #[.slice A66 (DY m c y i.vars).1.length c66, .int .i64 0], by rw [show (DY m c y i.vars).2 = 0 from by rw [(QB hR Z hvE hyp.1).1]], ?_⟩
      have M := M.pushOwn hfw12 (Nat.le_refl _) how12
      have hL66 := M.ownLen 0 rfl
      have hvl0 : (DK m c y).length = (DY m c y i.vars).1.length := by rw [← (QB hR Z hvE hyp.1).2, List.length_map]
      have hvlb := OH ho (M.crs 2 her rfl) y
      iterate 5 refine yb rfl ?_
      refine nq (AD (srg (yb rfl (D4 rfl rfl (nq (CK rfl (AL (AA (srg (yb rfl (AC ?_)))))))))))
      refine AA (AD (srg (yb rfl (nq (AR (flp [13, 12, 11, 9, 5, 3, 2] (fun ze e wr mz => ∃ (j : Nat), e = (15, .int .i64 ((j : Nat) : Int)) :: (16, .int .i64 ((j : Nat) : Int)) :: ze ∧ Mem w AV [As.own w.heap.size 54 5 (.slice A66 (DY m c y i.vars).1.length c66) ((DY m c y i.vars).1.length) (AK Wt.cells (DY m c y i.vars).1), As.blk g12 43 (Tk.cells y), As.crs m (some ⟨gc, 0, none⟩) er c F, As.blk g5 29 (In.cells i V T vc tc), As.blk g4 26 (Md.cells m a)] wr ∧ (j ≤ (DY m c y i.vars).1.length) ∧ mz = (DY m c y i.vars).1.length - j) ⟨0, rfl, M, Nat.zero_le _, rfl⟩ ?_))))))
      rintro _ w13 _ ⟨j, rfl, M, hj, rfl⟩
      refine AD (AD (AB (yb rfl (yb rfl (ya rfl (C7 rfl rfl (sl rfl)) (CB rfl rfl (AC (AA (AN rfl (fun h74 => ?_) (fun h74 => ?_))))))))))
      ·have h74p := (odt h74)
       refine AL (AA (AD (AR (AD (CO 17 (fun w' => Mem w AV [As.own w.heap.size 54 5 (.slice A66 (DY m c y i.vars).1.length c66) ((DY m c y i.vars).1.length) (AK Wt.cells (DY m c y i.vars).1), As.blk g12 43 (Tk.cells y), As.crs m (some ⟨gc, 0, none⟩) er c F, As.blk g5 29 (In.cells i V T vc tc), As.blk g4 26 (Md.cells m a)] w') CU ?_)))))
       have M := M.drew
       refine oc 0 17 rfl rfl M (oa 1 17 rfl rfl M (fun _ M => AT (xs := In.cells i V T vc tc) rfl rfl (M.rdBlk 3 rfl rfl) underlying29 rfl E8) (oc 2 17 rfl rfl M (ol 3 17 rfl rfl rfl M (fun _ M => (M.cell 1 rfl rfl)) (oc 4 17 rfl rfl M (oc 5 17 rfl rfl M ?_)))))
       obtain ⟨x, hx⟩ := CA (l := (DY m c y i.vars).1) (i := j) AO
       obtain ⟨b_x, o_x, hA_x⟩ := BI (k := 5) AO (M.rdOwn 0 rfl) hx
       refine oa 6 17 rfl rfl M (fun _ M => B1 j hA_x rfl rfl rfl (sl rfl) AO) (oc 7 17 rfl rfl M (ol 8 17 rfl rfl rfl M (fun _ M => (DO Wt.len (M.rdOwn 0 rfl) hA_x hx 0 rfl)) (oc 9 17 rfl rfl M (oc 10 17 rfl rfl M (GE (rs := [11, 15]) gkr (by simp) fun iz hiz => ?_)))))
       simp only [List.mem_cons, List.not_mem_nil, or_false] at hiz
       rcases hiz with rfl | rfl
       ·refine IN (some 89) rfl (AF rfl) rfl rfl (AQ rfl rfl call8) (jC m gc c F i V T vc tc q y x.via next clock _ ho hR (M.crs 2 her rfl) AO hok hwk (YI hR Z (TH hR Z hvE hyp.1 hx)) (hV.fr0 M.fr) (hT.fr0 M.fr) (hY.fr0 M.fr) hck hy) ?_
        rintro _ w14 ⟨a0, a1, a2, W0, wn, wc, X0, xn, xc, a5, Y0, yn, yc, er1, rfl, her1, hco, hfw14⟩
        refine ⟨_, rfl, fun _ => M.step hfw14, ?_⟩
        have M := M.step hfw14
        refine oc 12 17 rfl rfl M (oc 13 17 rfl rfl M (oc 14 17 rfl rfl M (B7 15 (some 17) gkr rfl (AF rfl) rfl rfl (fun ρ hρ => CX 38 rfl _ [.int .i64 0, str [], .int .u8 0, .slice none 0 0, .slice none 0 0, .int .i64 0, .slice none 0 0] ER rfl) ?_)))
        rintro _ w15 ⟨g17, rfl, hg17, hq17, hb17, hfw15⟩
        refine ⟨fun _ => M.step hfw15, ?_⟩
        have M := M.push hfw15 _ hb17 (DV hg17 hq17)
        replace M : Mem w AV (As.blk g17 38 [.int .i64 0, str [], .int .u8 0, .slice none 0 0, .slice none 0 0, .int .i64 0, .slice none 0 0] :: _) w15 := M
        refine fop M 16 0 rfl rfl rfl BT rfl (·.drop 1) fun w16 M => fo1 17 rfl rfl (yp rfl) (fdn (AA (AD (AD (AB (yb rfl (D4 rfl rfl (yb rfl (AP (d := 94) rfl (fun h94 => ?_) (fun h94 => ?_))))))))))
        ·have h94p := (odf (CE h94))
         refine gyq rfl (yd rfl (DC rfl rfl rfl) (yb rfl (AC (AA (AN rfl (fun h97 => ?_) (fun h97 => ?_))))))
         ·have h97p := (odf (CE h97))
          refine srg (yb rfl (nq (AI (AE (AM (AE (AE (AM (AE (AM (AE (AE (AM ?_)))))))))))))
          refine AE (gr1 rfl ?_)
          exfalso
          exact hco (T8 (TH hR Z hvE hyp.1 hx)) AO
         ·have h97p := (odt (BM h97))
          refine AL (AA (AB (yb rfl (ya rfl (BF rfl rfl rfl AO) (yb rfl (AC (AH (AA (AB (yb rfl (ya rfl (BF rfl rfl rfl AO) (yb rfl (AC (fag ⟨j + 1, rfl, (M.pk [1, 2, 3, 4, 5]), ?_, rfl⟩))))))))))))))
          ·omega
        ·have h94p := (odt (BM h94))
         refine yo rfl (yo rfl (yb rfl (nq (CK rfl (AL (AA (AB (yb rfl (ya rfl (BF rfl rfl rfl AO) (yb rfl (AC (AH (AA (AB ?_))))))))))))))
         refine yb rfl (ya rfl (BF rfl rfl rfl AO) (yb rfl (AC (fag ⟨j + 1, rfl, (M.pk [1, 2, 3, 4, 5]), ?_, rfl⟩))))
         ·omega
       ·refine EF (some 17) rfl (AF rfl) rfl rfl (fun ρ hρ => CX 38 rfl _ [.int .i64 0, str [], .int .u8 0, .slice none 0 0, .slice none 0 0, .int .i64 0, .slice none 0 0] ER rfl) ?_
        rintro _ w17 ⟨g17, rfl, hg17, hq17, hb17, hfw17⟩
        refine ⟨fun _ => M.step hfw17, ?_⟩
        have M := M.push hfw17 _ hb17 (DV hg17 hq17)
        replace M : Mem w AV (As.blk g17 38 [.int .i64 0, str [], .int .u8 0, .slice none 0 0, .slice none 0 0, .int .i64 0, .slice none 0 0] :: _) w17 := M
        refine C0 11 (some 89) gkr rfl (AF rfl) rfl rfl (AQ rfl rfl call8) (jC m gc c F i V T vc tc q y x.via next clock _ ho hR (M.crs 3 her rfl) AO hok hwk (YI hR Z (TH hR Z hvE hyp.1 hx)) (hV.fr0 M.fr) (hT.fr0 M.fr) (hY.fr0 M.fr) hck hy) ?_
        rintro _ w18 ⟨a0, a1, a2, W0, wn, wc, X0, xn, xc, a5, Y0, yn, yc, er1, rfl, her1, hco, hfw18⟩
        refine ⟨_, rfl, fun _ => (M.drop 1).step hfw18, ?_⟩
        have M := M.step hfw18
        refine oc 12 17 rfl rfl (M.drop 1) (oc 13 17 rfl rfl (M.drop 1) (oc 14 17 rfl rfl (M.drop 1) (fop M 16 0 rfl rfl rfl BT rfl (·.drop 1) fun w19 M => fo1 17 rfl rfl (yp rfl) (fdn (AA (AD (AD (AB (yb rfl (D4 rfl rfl (yb rfl (AP (d := 94) rfl (fun h94 => ?_) (fun h94 => ?_)))))))))))))
        ·have h94p := (odf (CE h94))
         refine gyq rfl (yd rfl (DC rfl rfl rfl) (yb rfl (AC (AA (AN rfl (fun h97 => ?_) (fun h97 => ?_))))))
         ·have h97p := (odf (CE h97))
          refine srg (yb rfl (nq (AI (AE (AM (AE (AE (AM (AE (AM (AE (AE (AM ?_)))))))))))))
          refine AE (gr1 rfl ?_)
          exfalso
          exact hco (T8 (TH hR Z hvE hyp.1 hx)) AO
         ·have h97p := (odt (BM h97))
          refine AL (AA (AB (yb rfl (ya rfl (BF rfl rfl rfl AO) (yb rfl (AC (AH (AA (AB (yb rfl (ya rfl (BF rfl rfl rfl AO) (yb rfl (AC (fag ⟨j + 1, rfl, (M.pk [1, 2, 3, 4, 5]), ?_, rfl⟩))))))))))))))
          ·omega
        ·have h94p := (odt (BM h94))
         refine yo rfl (yo rfl (yb rfl (nq (CK rfl (AL (AA (AB (yb rfl (ya rfl (BF rfl rfl rfl AO) (yb rfl (AC (AH (AA (AB ?_))))))))))))))
         refine yb rfl (ya rfl (BF rfl rfl rfl AO) (yb rfl (AC (fag ⟨j + 1, rfl, (M.pk [1, 2, 3, 4, 5]), ?_, rfl⟩))))
         ·omega
      ·have h74p := (odf h74)
       refine BG (AJ (AJ (AY (AA (srg (yb rfl (CR M 3 rfl rfl underlying29 E8 rfl (yb rfl (BA M 1 rfl rfl rfl (yb rfl (BA M 1 rfl rfl rfl (yb rfl (BA M 1 rfl rfl rfl (ya rfl (FN rfl rfl rfl (by first | omega | (simp; omega))) ?_))))))))))))))
       refine yb rfl (yb rfl (cl 112 rfl (AQ rfl rfl call8) (jC m gc c F i V T vc tc q y (y.loc ++ y.on) next clock _ ho hR (M.crs 2 her rfl) AO hok hwk AO (hV.fr0 M.fr) (hT.fr0 M.fr) (hY.fr0 M.fr) hck hy) ?_))
       rintro _ w20 ⟨a09, a19, a29, W09, wn9, wc9, X09, xn9, xc9, a59, Y09, yn9, yc9, er19, rfl, her19, hco9, hfw20⟩
       refine ⟨_, rfl, ?_⟩
       have M := M.step hfw20
       refine yb rfl (yb rfl (yb rfl (D6 M rfl ER fun g19 w21 hg19 M => C1 M 0 rfl rfl BT rfl fun w22 M => yb rfl (nq (AD (srg (yb rfl (CI rfl rfl (yb rfl ?_)))))))))
       refine AP (d := 117) rfl (fun h117 => ?_) (fun h117 => ?_)
       ·have h117p := (odt h117)
        refine yo rfl (yo rfl (yb rfl (nq (EA rfl (AB (yb rfl (ya rfl (BF rfl rfl rfl AO) (yb rfl (nq (srg (yb rfl (CI rfl rfl ?_))))))))))))
        refine yb rfl (AP (d := 125) rfl (fun h125 => ?_) (fun h125 => ?_))
        ·have h125p := (odt h125)
         refine gyq rfl (CH M 2 rfl rfl rfl (yd rfl (D8 rfl rfl rfl) (gyq rfl (AP (d := 129) rfl (fun h129 => ?_) (fun h129 => ?_)))))
         ·have h129p := (odt h129)
          refine yo rfl (yo rfl (yo rfl (gyq rfl (yb rfl (yb rfl (gyq rfl (CH M 2 rfl rfl rfl (yd rfl (DC rfl rfl rfl) (yb rfl (AC (AA (AN rfl (fun h139 => ?_) (fun h139 => ?_)))))))))))))
          ·have h139p := (odf (CE h139))
           refine srg (yb rfl (nq (AI (AM (AE (AE (AM (AE (gr1 rfl ?_)))))))))
           exfalso
           try have hq3 : ¬ er19 = 3 ∧ j = 0 := by by_cases h3 : er19 = 3 <;> first | (exfalso; simp at h125p <;> omega) | (exfalso; simp [h3] at h125p <;> omega) | exact ⟨h3, by simp [h3] at h125p <;> omega⟩
           first | omega | exact PZ hR Z hyp.1 (fun hh => by have := hco9 hh; omega) AO (by first | exact .inl (by assumption) | exact .inr AO) AO
          ·have h139p := (odt (BM h139))
           refine AL (AH (AA (AB (yb rfl (ya rfl (BF rfl rfl rfl AO) (yb rfl (AC (fag ⟨q + 1, rfl, (M.pk [3, 4, 5]), ?_, rfl⟩))))))))
           ·omega
         ·have h129p := (odf h129)
          refine gyq rfl (CH M 2 rfl rfl rfl (yd rfl (DC rfl rfl rfl) (gyq rfl (yb rfl (yb rfl (AP (d := 135) rfl (fun h135 => ?_) (fun h135 => ?_)))))))
          ·have h135p := (odf (CE h135))
           refine gyq rfl (CH M 2 rfl rfl rfl (yd rfl (DC rfl rfl rfl) (yb rfl (AC (AA (AN rfl (fun h139 => ?_) (fun h139 => ?_)))))))
           ·have h139p := (odf (CE h139))
            refine srg (yb rfl (nq (AI (AM (AE (AE (AM (AE (gr1 rfl ?_)))))))))
            exfalso
            try have hq3 : ¬ er19 = 3 ∧ j = 0 := by by_cases h3 : er19 = 3 <;> first | (exfalso; simp at h125p <;> omega) | (exfalso; simp [h3] at h125p <;> omega) | exact ⟨h3, by simp [h3] at h125p <;> omega⟩
            first | omega | exact PZ hR Z hyp.1 (fun hh => by have := hco9 hh; omega) AO (by first | exact .inl (by assumption) | exact .inr AO) AO
           ·have h139p := (odt (BM h139))
            refine AL (AH (AA (AB (yb rfl (ya rfl (BF rfl rfl rfl AO) (yb rfl (AC (fag ⟨q + 1, rfl, (M.pk [3, 4, 5]), ?_, rfl⟩))))))))
            ·omega
          ·have h135p := (odt (BM h135))
           refine yo rfl (yo rfl (yo rfl (yb rfl (AC (AA (CK rfl (AL (AH (AA (AB (yb rfl (ya rfl (BF rfl rfl rfl AO) (yb rfl (AC (fag ⟨q + 1, rfl, (M.pk [3, 4, 5]), ?_, rfl⟩)))))))))))))))
           ·omega
        ·have h125p := (odf h125)
         iterate 4 refine yo rfl ?_
         refine BS rfl rfl rfl rfl rfl (BS rfl rfl rfl rfl rfl (BS rfl rfl rfl rfl rfl (yo rfl (yb rfl (yb rfl (yo rfl (yo rfl (yo rfl (yb rfl (nq (CK rfl (AL (AH (AA ?_))))))))))))))
         refine AB (yb rfl (ya rfl (BF rfl rfl rfl AO) (yb rfl (AC (fag ⟨q + 1, rfl, (M.pk [3, 4, 5]), ?_, rfl⟩)))))
         ·omega
       ·have h117p := (odf h117)
        refine gyq rfl (yd rfl (C3 rfl rfl rfl) (yb rfl (AC (AA (IK [(2, .int .i64 next), (3, .int .i64 clock), (5, pg g5), (9, pg gc), (11, .int .i64 ((q : Nat) : Int)), (12, pg g12), (15, .int .i64 ((if (decide (er19 = (3 : Int))) then j + 1 else j : Nat) : Int))] (fun w' => Mem w AV [As.blk g19 38 [.int .i64 a09, str a19, .int .u8 a29, .slice W09 wn9 wc9, .slice X09 xn9 xc9, .int .i64 a59, .slice Y09 yn9 yc9], As.own w.heap.size 54 5 (.slice A66 (DY m c y i.vars).1.length c66) ((DY m c y i.vars).1.length) (AK Wt.cells (DY m c y i.vars).1), As.blk g12 43 (Tk.cells y), As.crs m (some ⟨gc, 0, none⟩) er c F, As.blk g5 29 (In.cells i V T vc tc), As.blk g4 26 (Md.cells m a)] w') ?_ (fun k120 => ?_))))))
        ·intro w23 M
         refine AA (AD (AB (yb rfl (CI rfl rfl (yb rfl (AP (d := 125) rfl (fun h125 => ?_) (fun h125 => ?_)))))))
         ·have h125p := (odt h125)
          refine gyq rfl (CH M 2 rfl rfl rfl (yd rfl (D8 rfl rfl rfl) (gyq rfl (AP (d := 129) rfl (fun h129 => ?_) (fun h129 => ?_)))))
          ·have h129p := (odt h129)
           refine yo rfl (yo rfl (yo rfl (gyq rfl (yb rfl (yb rfl (gyq rfl (CH M 2 rfl rfl rfl (yd rfl (DC rfl rfl rfl) (yb rfl (AC (AA (AN rfl (fun h139 => ?_) (fun h139 => ?_)))))))))))))
           ·have h139p := (odf (CE h139))
            refine srg (yb rfl (nq (AI (AM (AE (AE (AM (AE (gr1 rfl ?_)))))))))
            exfalso
            try have hq3 : ¬ er19 = 3 ∧ j = 0 := by by_cases h3 : er19 = 3 <;> first | (exfalso; simp at h125p <;> omega) | (exfalso; simp [h3] at h125p <;> omega) | exact ⟨h3, by simp [h3] at h125p <;> omega⟩
            first | omega | exact PZ hR Z hyp.1 (fun hh => by have := hco9 hh; omega) AO (by first | exact .inl (by assumption) | exact .inr AO) AO
           ·have h139p := (odt (BM h139))
            refine AL (AH (AA (AB (yb rfl (ya rfl (BF rfl rfl rfl AO) (yb rfl (AC (fag ⟨q + 1, rfl, (M.pk [3, 4, 5]), ?_, rfl⟩))))))))
            ·omega
          ·have h129p := (odf h129)
           refine gyq rfl (CH M 2 rfl rfl rfl (yd rfl (DC rfl rfl rfl) (gyq rfl (yb rfl (yb rfl (AP (d := 135) rfl (fun h135 => ?_) (fun h135 => ?_)))))))
           ·have h135p := (odf (CE h135))
            refine gyq rfl (CH M 2 rfl rfl rfl (yd rfl (DC rfl rfl rfl) (yb rfl (AC (AA (AN rfl (fun h139 => ?_) (fun h139 => ?_)))))))
            ·have h139p := (odf (CE h139))
             refine srg (yb rfl (nq (AI (AM (AE (AE (AM (AE (gr1 rfl ?_)))))))))
             exfalso
             try have hq3 : ¬ er19 = 3 ∧ j = 0 := by by_cases h3 : er19 = 3 <;> first | (exfalso; simp at h125p <;> omega) | (exfalso; simp [h3] at h125p <;> omega) | exact ⟨h3, by simp [h3] at h125p <;> omega⟩
             first | omega | exact PZ hR Z hyp.1 (fun hh => by have := hco9 hh; omega) AO (by first | exact .inl (by assumption) | exact .inr AO) AO
            ·have h139p := (odt (BM h139))
             refine AL (AH (AA (AB (yb rfl (ya rfl (BF rfl rfl rfl AO) (yb rfl (AC (fag ⟨q + 1, rfl, (M.pk [3, 4, 5]), ?_, rfl⟩))))))))
             ·omega
           ·have h135p := (odt (BM h135))
            refine yo rfl (yo rfl (yo rfl (yb rfl (AC (AA (CK rfl (AL (AH (AA (AB (yb rfl (ya rfl (BF rfl rfl rfl AO) (yb rfl (AC (fag ⟨q + 1, rfl, (M.pk [3, 4, 5]), ?_, rfl⟩)))))))))))))))
            ·omega
         ·have h125p := (odf h125)
          iterate 4 refine yo rfl ?_
          refine BS rfl rfl rfl rfl rfl (BS rfl rfl rfl rfl rfl (BS rfl rfl rfl rfl rfl (yo rfl (yb rfl (yb rfl (yo rfl (yo rfl (yo rfl (yb rfl (nq (CK rfl (AL (AH (AA ?_))))))))))))))
          refine AB (yb rfl (ya rfl (BF rfl rfl rfl AO) (yb rfl (AC (fag ⟨q + 1, rfl, (M.pk [3, 4, 5]), ?_, rfl⟩)))))
          ·omega
        refine AN rfl (fun h120 => ?_) (fun h120 => ?_)
        ·exact AB (yb rfl (ya rfl (BF rfl rfl rfl AO) (yb rfl (AC (k120 _ _ M ⟨rfl, rfl, rfl, rfl, rfl, rfl, (by rw [h120]; rfl), trivial⟩)))))
        ·exact AL (k120 _ _ M ⟨rfl, rfl, rfl, rfl, rfl, rfl, (by rw [h120]; rfl), trivial⟩)
     ·exact BG (AJ (AJ (AY (AA (srg (yb rfl (nq (AI (gr1 rfl ⟨rfl, M.fr⟩)))))))))
end Go.Proofs.YtjaocmocdhckaaaGreatDoor
