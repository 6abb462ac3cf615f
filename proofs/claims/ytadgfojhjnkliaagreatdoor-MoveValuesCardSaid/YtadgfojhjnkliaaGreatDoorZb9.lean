/- Lemmas that the last text rests on. Condition: each says its own. -/
import Derived.Test.YtadgfojhjnkliaaGreatDoorZb8
set_option maxHeartbeats 16000000
set_option maxRecDepth 100000
namespace Go.Proofs.YtadgfojhjnkliaaGreatDoor
open Go.RowKit
open Tryz
section
section
variable {P : Program} {ops : Array Oper} {Q : Exit → Act → World → Prop} {S : World → Prop} {t n f : Nat} {listed : Array Bool} {e : Env} {w : World}
theorem ZO {o : Oper} {d : Nat} {v : Value} (i : Nat) (hr : Region.ready .any ops listed = [i]) (ho : ops[i]? = some o) (hw : Wn ops e o) (hd : o.dst = some d) (hn : Nat.blt d n = true) (hy : Y P e o w v) (hS : i < t → S w)
 (k : SxO P ops Q t S n f (listed.setIfInBounds i true) ((d, v) :: e) w) : SxO P ops Q t S n (f + 1) listed e w :=
 B3 i (some d) hr ho hw hd hn (R := fun u w' => u = v ∧ w' = w) (fun ρ hρ => ⟨v, w, .inl (hy ρ hρ), rfl, rfl⟩) fun u w' ⟨h1, h2⟩ => by subst h1; subst h2; exact ⟨hS, k⟩
end
theorem Mem.bin {w0 w : World} {S : Nat → Prop} {L : List As} {t g : Nat} {op : UInt8} {a b : Xn} {B C : Option Addr} {F F' : List Nat} (M : Mem w0 S (As.blk g t (a.cells B ++ b.cells C) :: As.xn t a B F :: As.xn t b C F' :: L) w) : Mem w0 S (As.xn t (.bin op a b) (some ⟨g, 0, none⟩) (g :: (F ++ F')) :: L) w := by
 have get : ∀ (i : Nat) (c : As), L[i]? = some c → (As.blk g t (a.cells B ++ b.cells C) :: As.xn t a B F :: As.xn t b C F' :: L)[i + 3]? = some c := fun i c h => h
 have fp : ∀ k, k ∈ (As.xn t (.bin op a b) (some ⟨g, 0, none⟩) (g :: (F ++ F'))).fp → ∃ (i : Nat) (c : As), i < 3 ∧ (As.blk g t (a.cells B ++ b.cells C) :: As.xn t a B F :: As.xn t b C F' :: L)[i]? = some c ∧ k ∈ c.fp := fun k hk => by
  rcases List.mem_cons.1 (show k ∈ g :: (F ++ F') from hk) with rfl | hk
  ·exact ⟨0, _, by decide, rfl, by simp [As.blk]⟩
  ·rcases List.mem_append.1 hk with hk | hk
   ·exact ⟨1, _, by decide, rfl, hk⟩
   ·exact ⟨2, _, by decide, rfl, hk⟩
 refine ⟨M.fr, ?_, ?_, ?_⟩
 ·intro i c hi
  cases i with
  | zero =>
   simp only [List.getElem?_cons_zero, Option.some.injEq] at hi; subst hi
   exact ⟨g, B, C, F, F', rfl, rfl, M.blk 0 rfl, M.ok 1 _ rfl, M.ok 2 _ rfl⟩
  | succ i => exact M.ok (i + 3) c (get i c (by simpa using hi))
 ·intro i c hi k hk
  cases i with
  | zero =>
   simp only [List.getElem?_cons_zero, Option.some.injEq] at hi; subst hi
   obtain ⟨j, d, _, h1, h2⟩ := fp k hk
   exact M.lt j d h1 k h2
  | succ i => exact M.lt (i + 3) c (get i c (by simpa using hi)) k hk
 ·intro i j c d hi hj hne k hk hk'
  cases i with
  | zero =>
   cases j with
   | zero => exact hne rfl
   | succ j =>
    simp only [List.getElem?_cons_zero, Option.some.injEq] at hi; subst hi
    obtain ⟨q, d', hq, h1, h2⟩ := fp k hk
    exact M.apart q (j + 3) d' d h1 (get j d (by simpa using hj)) (by omega) k h2 hk'
  | succ i =>
   cases j with
   | zero =>
    simp only [List.getElem?_cons_zero, Option.some.injEq] at hj; subst hj
    obtain ⟨q, d', hq, h1, h2⟩ := fp k hk'
    exact M.apart (i + 3) q c d' (get i c (by simpa using hi)) h1 (by omega) k hk h2
   | succ j => exact M.apart (i + 3) (j + 3) c d (get i c (by simpa using hi)) (get j d (by simpa using hj)) (by omega) k hk hk'
theorem aJ {s : List UInt8} {x : Lx} (h : LxI s x) (he : x.e = 0) : 0 < lxM s x := by
 have := h.at_; have := h.tat
 unfold lxM; rw [if_pos he]; omega
theorem iF (k : List UInt8) : ((AG k).getD (0, 0)).2 ≤ 6 := nA k
theorem oD {s : List UInt8} {f line : Nat} {x : Lx} (h : ¬ x.e = 0) : CF s (f + 1) line x = (.zero, x) := by rw [CF, if_pos h]
theorem jL {s : List UInt8} {f line : Nat} {x : Lx} {fr : Nat → Lx → Xn × Lx} (h : x.e = 0) (hfr : fr = CF s (f + 1)) : CF s (f + 1 + 1) line x = F9 s fr (f + 1) line (D7 s fr line x).1 (D7 s fr line x).2 := by
 subst hfr
 rw [CF, if_neg (fun z => z h)]
section
variable {s : List UInt8} {fr : Nat → Lx → Xn × Lx} {line k : Nat} {n : Xn} {y : Lx}
theorem dT (h : ¬ y.e = 0) : F9 s fr k line n y = (n, y) := by
 cases k with
 | zero => rfl
 | succ k => rw [F9, if_pos h]
theorem cQ (h : ((!(AG y.say).isSome) || (decide (((((AG y.say).getD (0, 0)).2 : Nat) : Int) < ((line : Nat) : Int)))) = false) : ¬ y.say = [] := VL fun z => by
 have := C3 (CA h).1
 cases hs : AG y.say with
 | none => rw [hs] at this; cases this
 | some v => rw [hs] at z; cases z
theorem YH (he : y.e = 0) (h : ((!(AG y.say).isSome) || (decide (((((AG y.say).getD (0, 0)).2 : Nat) : Int) < ((line : Nat) : Int)))) = true) : F9 s fr (k + 1) line n y = (n, y) := by
 rw [F9, if_neg (fun z => z he), if_pos]
 rcases EK h with h | h
 ·left
  have := C1 h
  cases hs : AG y.say with
  | none => rfl
  | some v => rw [hs] at this; cases this
 ·right
  have := odt h
  unfold P6; omega
theorem QU (he : y.e = 0) (h : ((!(AG y.say).isSome) || (decide (((((AG y.say).getD (0, 0)).2 : Nat) : Int) < ((line : Nat) : Int)))) = false) : F9 s fr (k + 1) line n y = F9 s fr k line (.bin ((AG y.say).getD (0, 0)).1 n (K0 s fr y).1) (K0 s fr y).2 := by
 rw [F9, if_neg (fun z => z he), if_neg]
 intro z
 rcases z with z | z
 ·have := C3 (CA h).1
  cases hs : AG y.say with
  | none => rw [hs] at this; cases this
  | some v => rw [hs] at z; cases z
 ·have := odf (CA h).2
  unfold P6 at z; omega
theorem dU (he : y.e = 0) (h : ((!(AG y.say).isSome) || (decide (((((AG y.say).getD (0, 0)).2 : Nat) : Int) < ((line : Nat) : Int)))) = false)
 (h2 : ((decide (((((AG y.say).getD (0, 0)).2 : Nat) : Int) = (4 : Int))) && (decide (((((AG (fr (((AG y.say).getD (0, 0)).2 + 1) (B6 s y)).2.say).getD (0, 0)).2 : Nat) : Int) = (4 : Int)))) = true) : F9 s fr (k + 1) line n y = F9 s fr k line (.bin ((AG y.say).getD (0, 0)).1 n (fr (((AG y.say).getD (0, 0)).2 + 1) (B6 s y)).1) ((fr (((AG y.say).getD (0, 0)).2 + 1) (B6 s y)).2.fail 4 (fr (((AG y.say).getD (0, 0)).2 + 1) (B6 s y)).2.tat) := by
 rw [QU he h]
 have h3 := odt (C5 h2).1
 have h4 := odt (C5 h2).2
 unfold K0 P6
 simp only
 rw [if_pos ⟨by omega, by omega⟩]
theorem j1 (he : y.e = 0) (h : ((!(AG y.say).isSome) || (decide (((((AG y.say).getD (0, 0)).2 : Nat) : Int) < ((line : Nat) : Int)))) = false)
 (h2 : ((decide (((((AG y.say).getD (0, 0)).2 : Nat) : Int) = (4 : Int))) && (decide (((((AG (fr (((AG y.say).getD (0, 0)).2 + 1) (B6 s y)).2.say).getD (0, 0)).2 : Nat) : Int) = (4 : Int)))) = false) : F9 s fr (k + 1) line n y = F9 s fr k line (.bin ((AG y.say).getD (0, 0)).1 n (fr (((AG y.say).getD (0, 0)).2 + 1) (B6 s y)).1) (fr (((AG y.say).getD (0, 0)).2 + 1) (B6 s y)).2 := by
 rw [QU he h]
 have h3 := (E9 h2).imp odf odf
 unfold K0 P6
 simp only
 rw [if_neg (by omega)]
end
theorem HV  : prog.built 70 [] = some #[.int .u8 0, .int .u8 0, .int .i64 0, .bool false, str [], str [], .slice none 0 0] := by kernel_rfl
theorem VY {s : List UInt8} {gx c5 c6 c7 c8 c9 c10 : Nat} {f : Nat} (h : ∀ f', f = f' + 1 → FromOK s gx c5 c6 c7 c8 c9 c10 f' (CF s (f' + 1))) (line : Nat) (hl : line ≤ 7) (x : Lx) (w : World) (hb : Blk w gx 104 (Lx.cells s x)) (hx : LxI s x) (hm : lxM s x ≤ f) (hE : PE s w gx c5 c6 c7 c8 c9 c10) (hY : Lay0 w) :
 Calls prog 52 #[.int .i64 (line : Int), pg c5, pg c10, pg c6] w (TQ s gx w (CF s (f + 1) line x)) := by
 have hGx : ∀ k, k = gx → nGlob ≤ k := fun _ e => e ▸ hE.g
 refine AK (vs := [_, _, _, _]) func52 rfl ntmps52 rfl ?_
 have M : Mem w (fun k => k = gx) [As.blk gx 104 (Lx.cells s x)] w := Mem.one hb
 refine A4 (A0 (BI M (A9 rfl) rfl rfl 70 rfl [.int .u8 0, .int .u8 0, .int .i64 0, .bool false, str [], str [], .slice none 0 0] CW rfl fun g5 w1 hg5 M => A1 (A2 (A4 (A4 (A0 (yl rfl rfl (Blk.c ((hE.fr M.fr).b5) 0 rfl) (yb rfl (yb rfl (yl rfl rfl (M.cell 1 rfl rfl) (ya rfl (CX rfl rfl rfl) (A1 (A2 ?_)))))))))))))
 refine AQ (b := (!decide (x.e = (0 : Int)))) rfl (fun h14 => ?_) (fun h14 => ?_)
 ·have h14p := (odf (C1 h14))
  refine A4 (A0 (ya rfl (BO (parts := []) rfl rfl (HV)) (B5 (cs' := [.int .u8 0, .int .u8 0, .int .i64 0, .bool false, str [], str [], .slice none 0 0]) M 0 (A9 rfl) rfl rfl rfl rfl rfl AM rfl (AP rfl) (AW rfl) rfl fun w2 M => A1 (A2 (AD (AA (EA rfl rfl (M.rdBlk 0 rfl rfl) underlying70 rfl AM ?_)))))))
  rw [oD h14p]
  exact ⟨none, [], rfl, ⟨rfl, rfl⟩, (fun k hk => absurd hk (by simp)), M.blk 1 rfl, M.fr⟩
 ·have h14p := (odt (C3 h14))
  obtain ⟨f', rfl⟩ : ∃ f', f = f' + 1 := ⟨f - 1, by have := aJ hx h14p; omega⟩
  have hF := h f' rfl
  obtain ⟨fr, hfr⟩ : ∃ fr, fr = CF s (f' + 1) := ⟨_, rfl⟩
  rw [← hfr] at hF
  refine AL (A2 (A4 (A0 (yl rfl rfl (Blk.c ((hE.fr M.fr).b10) 0 rfl) (yb rfl (cl 18 rfl (C0 rfl rfl rfl call51) (dB hF line (by omega) x _ (M.blk 1 rfl) hx h14p (by omega) (hE.fr M.fr) (hY.fr M.fr hGx)) ?_))))))
  rintro _ w3 ⟨A18, F18, rfl, hat18, hnw18, hbw3, hfw3⟩
  have M := M.putPush 1 rfl hbw3 hfw3 (As.xn 70 (D7 s fr line x).1 A18 F18) hat18 hnw18
  have hI18 := (UQ hF.I hx h14p (by omega) line).1
  refine ⟨_, rfl, ?_⟩
  have hm18 := (UQ hF.I hx h14p (by omega) line).2
  have hfp := jL (line := line) h14p hfr
  refine BI M (A9 rfl) rfl rfl 70 rfl [.int .u8 0, .int .u8 0, .int .i64 0, .bool false, str [], str [], .slice none 0 0] CW rfl fun g6 w4 hg6 M => B5 (cs' := (Xn.cells ((D7 s fr line x).1) A18)) M 0 (A9 rfl) rfl rfl rfl rfl rfl AM rfl (AP rfl) (AW rfl) rfl fun w5 M => A1 (A2 (A4 (AV (CM (fun e wr mz => ∃ (n : Xn) (A : Option Addr) (F : List Nat) (y : Lx) (k : Nat), e = [(0, .int .i64 ((line : Nat) : Int)), (1, pg c5), (3, pg c6), (5, pg g5), (6, pg g6)] ∧ Mem w (fun k => k = gx) [As.blk g6 70 (Xn.cells n A), As.xn 70 n A F, As.blk g5 70 [.int .u8 0, .int .u8 0, .int .i64 0, .bool false, str [], str [], .slice none 0 0], As.blk gx 104 (Lx.cells s y)] wr ∧ (LxI s y) ∧ (lxM s y ≤ k ∧ k ≤ f' + 1) ∧ (CF s (f' + 1 + 1) line x = F9 s fr k line n y) ∧ mz = 2 * k) ⟨(D7 s fr line x).1, A18, F18, (D7 s fr line x).2, (f' + 1), rfl, M, hI18, ⟨by omega, Nat.le_refl _⟩, hfp, rfl⟩ ⟨rfl, rfl, rfl, rfl, rfl, trivial⟩ ?_))))
  rintro _ w6 _ ⟨n, A, F, y, k, rfl, M, hyI, hk, heq, rfl⟩
  refine A4 (A4 (A0 (yl rfl rfl (Blk.c ((hE.fr M.fr).b5) 0 rfl) (yb rfl (yb rfl (yl rfl rfl (M.cell 3 rfl rfl) (ya rfl (B9 rfl rfl rfl) (A1 (A2 (AQ (b := (decide (y.e = (0 : Int)))) rfl (fun h23 => ?_) (fun h23 => ?_)))))))))))
  ·have h23p := (odt h23)
   obtain ⟨j, rfl⟩ : ∃ j, k = j + 1 := ⟨k - 1, by have := aJ hyI h23p; omega⟩
   refine AL (A2 (AV (A4 (MB (fun (g7 : Nat) (g25 : Nat) => [(0, .int .i64 ((line : Nat) : Int)), (1, pg c5), (3, pg c6), (5, pg g5), (6, pg g6), (7, pg g7), (8, .bool ((AG y.say).isSome))]) (fun (g7 : Nat) (g25 : Nat) => fun w' => Mem w (fun k => k = gx) [As.blk g7 110 [.int .u8 (((AG y.say).getD (0, 0)).1.toNat : Int), .int .i64 ((((AG y.say).getD (0, 0)).2 : Nat) : Int)], As.mp g25 D4, As.blk g6 70 (Xn.cells n A), As.xn 70 n A F, As.blk g5 70 [.int .u8 0, .int .u8 0, .int .i64 0, .bool false, str [], str [], .slice none 0 0], As.blk gx 104 (Lx.cells s y)] w') ?_ (fun kr5 => ?_)))))
   ·intro g7 g25 w7 M
    refine A2 (A4 (A4 (A0 (yb rfl (yb rfl (yb rfl (AT 5 [(0, .int .i64 ((line : Nat) : Int)), (1, pg c5), (3, pg c6), (5, pg g5), (6, pg g6), (7, pg g7), (41, .bool ((!(AG y.say).isSome) || (decide (((((AG y.say).getD (0, 0)).2 : Nat) : Int) < ((line : Nat) : Int)))))] (fun w' => Mem w (fun k => k = gx) [As.blk g7 110 [.int .u8 (((AG y.say).getD (0, 0)).1.toNat : Int), .int .i64 ((((AG y.say).getD (0, 0)).2 : Nat) : Int)], As.mp g25 D4, As.blk g6 70 (Xn.cells n A), As.xn 70 n A F, As.blk g5 70 [.int .u8 0, .int .u8 0, .int .i64 0, .bool false, str [], str [], .slice none 0 0], As.blk gx 104 (Lx.cells s y)] w') ?_ (fun k36 => ?_))))))))
    ·intro w8 M
     refine A1 (A2 (AQ (b := ((!(AG y.say).isSome) || (decide (((((AG y.say).getD (0, 0)).2 : Nat) : Int) < ((line : Nat) : Int))))) rfl (fun h41 => ?_) (fun h41 => ?_)))
     ·have h41p := ((EK h41).imp (fun z => (C1 z)) (fun z => (odt z)))
      refine A4 (A0 (ya rfl (AN (xs := Xn.cells n A) rfl rfl (M.rdBlk 2 rfl rfl) underlying70 rfl AM) (B5 (cs' := (Xn.cells n A)) M 4 (A9 rfl) rfl rfl rfl rfl rfl AM rfl (AP rfl) (AW rfl) rfl fun w9 M => A1 (A2 (AD (AA (AJ (AA (AJ (AA (EA rfl rfl (M.rdBlk 4 rfl rfl) underlying70 rfl AM ?_)))))))))))
      rw [heq.trans (YH h23p h41)]
      exact ⟨_, _, rfl, M.ok 3 _ rfl, M.newOf 3 5 rfl rfl (by decide), M.blk 5 rfl, M.fr⟩
     ·have h41p := (And.intro (C3 (CA h41).1) (odf (CA h41).2))
      have hpr := iF y.say
      have hst := J6 hyI h23p (cQ h41)
      refine AL (A2 (A4 (A0 (yl rfl rfl (Blk.c ((hE.fr M.fr).b5) 0 rfl) (cl 44 rfl (AF rfl rfl call46) (FP s y _ _ (M.blk 5 rfl) hyI.at_ hE.len (hY.fr M.fr hGx) hE.g) ?_)))))
      rintro _ w10 ⟨rfl, hbw10, hfw10⟩
      have M := M.putB 5 rfl hbw10 hfw10
      refine ⟨_, rfl, A1 (A2 (A4 (D8 10 (fun w' => Mem w (fun k => k = gx) [As.blk g7 110 [.int .u8 (((AG y.say).getD (0, 0)).1.toNat : Int), .int .i64 ((((AG y.say).getD (0, 0)).2 : Nat) : Int)], As.mp g25 D4, As.blk g6 70 (Xn.cells n A), As.xn 70 n A F, As.blk g5 70 [.int .u8 0, .int .u8 0, .int .i64 0, .bool false, str [], str [], .slice none 0 0]] w') DT ?_)))⟩
      have M := M.drew
      refine oc 0 10 rfl rfl (M.pk [0, 1, 2, 3, 4]) (ol 1 10 rfl rfl rfl (M.pk [0, 1, 2, 3, 4]) (fun _ M => (M.cell 0 rfl rfl)) (oa 2 10 rfl rfl (M.pk [0, 1, 2, 3, 4]) (fun _ M => AN (xs := Xn.cells n A) rfl rfl (M.rdBlk 2 rfl rfl) underlying70 rfl AM) (ol 3 10 rfl rfl rfl (M.pk [0, 1, 2, 3, 4]) (fun _ M => (Blk.c ((hE.fr M.fr).b6) 0 rfl)) (oc 4 10 rfl rfl (M.pk [0, 1, 2, 3, 4]) (ol 5 10 rfl rfl rfl (M.pk [0, 1, 2, 3, 4]) (fun _ M => (M.cell 0 rfl rfl)) (oa 6 10 rfl rfl (M.pk [0, 1, 2, 3, 4]) (fun _ M => CQ rfl rfl rfl (by omega)) (D0 7 (some 52) (by kernel_rfl) rfl (A9 rfl) rfl rfl (C0 rfl rfl rfl call52) (hF.call ((((AG y.say).getD (0, 0)).2) + 1) (B6 s y) _ (by omega) (M.blk 5 rfl) DR (by omega) (hE.fr M.fr) (hY.fr M.fr hGx)) ?_)))))))
      rintro _ w11 ⟨A52, F52, rfl, hat52, hnw52, hbw11, hfw11⟩
      have M := M.putPush 5 rfl hbw11 hfw11 (As.xn 70 (fr ((((AG y.say).getD (0, 0)).2) + 1) (B6 s y)).1 A52 F52) hat52 hnw52
      have hI52 := hF.I.I ((((AG y.say).getD (0, 0)).2) + 1) (B6 s y) DR (by omega)
      refine ⟨_, rfl, fun _ => (M.pk [1, 2, 3, 4, 5]), ?_⟩
      have hm52 := hF.I.m ((((AG y.say).getD (0, 0)).2) + 1) (B6 s y) DR (by omega)
      refine B3 8 (some 53) (by kernel_rfl) rfl (A9 rfl) rfl rfl (fun ρ hρ => E1 [.agg (Xn.cells n A).toArray, .agg (Xn.cells ((fr ((((AG y.say).getD (0, 0)).2) + 1) (B6 s y)).1) A52).toArray] _ hρ rfl rfl rfl rfl underlying68 L5 (by decide) (by decide) (by intro v hv; simp only [List.mem_cons, List.not_mem_nil, or_false] at hv; rcases hv with rfl | rfl <;> rfl)) ?_
      rintro _ w12 ⟨g53, rfl, hg53, hq53, hb53, hfw12⟩
      replace hb53 : Blk w12 g53 70 ((Xn.cells n A) ++ (Xn.cells ((fr ((((AG y.say).getD (0, 0)).2) + 1) (B6 s y)).1) A52)) := hb53
      refine ⟨fun _ => (M.pk [1, 2, 3, 4, 5]).step hfw12, ?_⟩
      have M := M.push hfw12 _ hb53 (DA hg53 hq53)
      replace M : Mem w (fun k => k = gx) (As.blk g53 70 ((Xn.cells n A) ++ (Xn.cells ((fr ((((AG y.say).getD (0, 0)).2) + 1) (B6 s y)).1) A52)) :: _) w12 := M
      refine oa 9 10 rfl rfl (M.pk [2, 3, 4, 5, 6]) (fun _ M => BO (parts := [(0, _), (3, _)]) rfl rfl (JA _ _ _ _)) (B3 10 none (by kernel_rfl) rfl (A9 rfl) rfl rfl (fun ρ hρ => BP 70 _ _ rfl g6 0 70 _ ([.int .u8 (((AG y.say).getD (0, 0)).1.toNat : Int), .int .u8 0, .int .i64 0, .bool false, str [], str [], .slice (some ⟨g53, 0, none⟩) 2 2]) (hρ _ _ rfl) (hρ _ _ rfl) (M.blk 4 rfl) AM (AP rfl) (AW rfl)) ?_)
      rintro _ w13 ⟨rfl, hbw13, hfw13⟩
      replace M : Mem w (fun k => k = gx) (List.set _ 4 (As.blk g6 70 [.int .u8 (((AG y.say).getD (0, 0)).1.toNat : Int), .int .u8 0, .int .i64 0, .bool false, str [], str [], .slice (some ⟨g53, 0, none⟩) 2 2])) w13 := M.putB 4 rfl hbw13 hfw13
      refine ⟨fun h => absurd h (by decide), BJ (by kernel_rfl) (A2 (A4 (MB (fun (g9 : Nat) (g55 : Nat) => [(0, .int .i64 ((line : Nat) : Int)), (1, pg c5), (3, pg c6), (5, pg g5), (6, pg g6), (7, pg g7), (9, pg g9)]) (fun (g9 : Nat) (g55 : Nat) => fun w' => Mem w (fun k => k = gx) [As.blk g9 110 [.int .u8 (((AG ((fr ((((AG y.say).getD (0, 0)).2) + 1) (B6 s y)).2.say)).getD (0, 0)).1.toNat : Int), .int .i64 ((((AG ((fr ((((AG y.say).getD (0, 0)).2) + 1) (B6 s y)).2.say)).getD (0, 0)).2 : Nat) : Int)], As.mp g55 D4, As.blk g53 70 ((Xn.cells n A) ++ (Xn.cells ((fr ((((AG y.say).getD (0, 0)).2) + 1) (B6 s y)).1) A52)), As.xn 70 ((fr ((((AG y.say).getD (0, 0)).2) + 1) (B6 s y)).1) A52 F52, As.blk g7 110 [.int .u8 (((AG y.say).getD (0, 0)).1.toNat : Int), .int .i64 ((((AG y.say).getD (0, 0)).2 : Nat) : Int)], As.mp g25 D4, As.blk g6 70 [.int .u8 (((AG y.say).getD (0, 0)).1.toNat : Int), .int .u8 0, .int .i64 0, .bool false, str [], str [], .slice (some ⟨g53, 0, none⟩) 2 2], As.xn 70 n A F, As.blk g5 70 [.int .u8 0, .int .u8 0, .int .i64 0, .bool false, str [], str [], .slice none 0 0], As.blk gx 104 (Lx.cells s ((fr ((((AG y.say).getD (0, 0)).2) + 1) (B6 s y)).2))] w') ?_ (fun kr10 => ?_))))⟩
      ·intro g9 g55 w14 M
       refine A2 (A4 (A0 (yb rfl (yl rfl rfl (M.cell 4 rfl rfl) (ya rfl (B9 rfl rfl rfl) (yb rfl (AT 4 [(0, .int .i64 ((line : Nat) : Int)), (1, pg c5), (3, pg c6), (5, pg g5), (6, pg g6), (69, .bool ((decide (((((AG y.say).getD (0, 0)).2 : Nat) : Int) = (4 : Int))) && (decide (((((AG ((fr ((((AG y.say).getD (0, 0)).2) + 1) (B6 s y)).2.say)).getD (0, 0)).2 : Nat) : Int) = (4 : Int)))))] (fun w' => Mem w (fun k => k = gx) [As.blk g9 110 [.int .u8 (((AG ((fr ((((AG y.say).getD (0, 0)).2) + 1) (B6 s y)).2.say)).getD (0, 0)).1.toNat : Int), .int .i64 ((((AG ((fr ((((AG y.say).getD (0, 0)).2) + 1) (B6 s y)).2.say)).getD (0, 0)).2 : Nat) : Int)], As.mp g55 D4, As.blk g53 70 ((Xn.cells n A) ++ (Xn.cells ((fr ((((AG y.say).getD (0, 0)).2) + 1) (B6 s y)).1) A52)), As.xn 70 ((fr ((((AG y.say).getD (0, 0)).2) + 1) (B6 s y)).1) A52 F52, As.blk g7 110 [.int .u8 (((AG y.say).getD (0, 0)).1.toNat : Int), .int .i64 ((((AG y.say).getD (0, 0)).2 : Nat) : Int)], As.mp g25 D4, As.blk g6 70 [.int .u8 (((AG y.say).getD (0, 0)).1.toNat : Int), .int .u8 0, .int .i64 0, .bool false, str [], str [], .slice (some ⟨g53, 0, none⟩) 2 2], As.xn 70 n A F, As.blk g5 70 [.int .u8 0, .int .u8 0, .int .i64 0, .bool false, str [], str [], .slice none 0 0], As.blk gx 104 (Lx.cells s ((fr ((((AG y.say).getD (0, 0)).2) + 1) (B6 s y)).2))] w') ?_ (fun k65 => ?_))))))))
       ·intro w15 M
        refine A1 (A2 (AQ (b := ((decide (((((AG y.say).getD (0, 0)).2 : Nat) : Int) = (4 : Int))) && (decide (((((AG ((fr ((((AG y.say).getD (0, 0)).2) + 1) (B6 s y)).2.say)).getD (0, 0)).2 : Nat) : Int) = (4 : Int))))) rfl (fun h69 => ?_) (fun h69 => ?_)))
        ·have h69p := (And.intro (odt (C5 h69).1) (odt (C5 h69).2))
         refine GP 6 DT (by kernel_rfl) ?_
         have M := M.drew
         refine sd rfl rfl (Blk.c ((hE.fr M.fr).b5) 0 rfl) (sd rfl rfl (Blk.c ((hE.fr M.fr).b5) 0 rfl) (sb rfl (sb rfl (sb rfl (sd rfl rfl (M.cell 9 rfl rfl) (EJ (cl 76 rfl (AF rfl rfl call49) (EC s ((fr ((((AG y.say).getD (0, 0)).2) + 1) (B6 s y)).2) _ _ _ _ (M.blk 9 rfl)) ?_)))))))
         rintro _ w16 ⟨rfl, hbw16, hfw16⟩
         have M := M.putB 9 rfl hbw16 hfw16
         refine ⟨_, rfl, A1 (AC ?_)⟩
         have M := Mem.bin (op := ((AG y.say).getD (0, 0)).1) (M.pk [2, 7, 3, 6, 8, 9])
         refine BM [(0, .int .i64 ((line : Nat) : Int)), (1, pg c5), (3, pg c6), (5, pg g5), (6, pg g6)] (2 * j) ⟨(Xn.bin ((AG y.say).getD (0, 0)).1 n (fr (((AG y.say).getD (0, 0)).2 + 1) (B6 s y)).1), (some ⟨g53, 0, none⟩), (g53 :: (F ++ F52)), (((fr ((((AG y.say).getD (0, 0)).2) + 1) (B6 s y)).2).fail 4 ((fr ((((AG y.say).getD (0, 0)).2) + 1) (B6 s y)).2.tat)), j, rfl, (M.pk [1, 0, 2, 3]), ?_, ?_, ?_, rfl⟩ (by first | omega | (simp <;> omega)) ⟨rfl, rfl, rfl, rfl, rfl, trivial⟩
         ·exact hI52.fail _ _
         ·rw [MO (by decide)]; exact ⟨Nat.zero_le _, by omega⟩
         ·exact heq.trans (dU h23p h41 h69)
        ·have h69p := ((E9 h69).imp (fun z => (odf z)) (fun z => (odf z)))
         refine AL (AC ?_)
         have M := Mem.bin (op := ((AG y.say).getD (0, 0)).1) (M.pk [2, 7, 3, 6, 8, 9])
         refine BM [(0, .int .i64 ((line : Nat) : Int)), (1, pg c5), (3, pg c6), (5, pg g5), (6, pg g6)] (2 * j) ⟨(Xn.bin ((AG y.say).getD (0, 0)).1 n (fr (((AG y.say).getD (0, 0)).2 + 1) (B6 s y)).1), (some ⟨g53, 0, none⟩), (g53 :: (F ++ F52)), ((fr ((((AG y.say).getD (0, 0)).2) + 1) (B6 s y)).2), j, rfl, (M.pk [1, 0, 2, 3]), ?_, ?_, ?_, rfl⟩ (by first | omega | (simp <;> omega)) ⟨rfl, rfl, rfl, rfl, rfl, trivial⟩
         ·exact hI52
         ·exact ⟨by omega, by omega⟩
         ·exact heq.trans (j1 h23p h41 h69)
       refine AE (d := 65) (b := (decide (((((AG y.say).getD (0, 0)).2 : Nat) : Int) = (4 : Int)))) rfl (fun h65 => ?_) (fun h65 => ?_)
       ·exact yd rfl (yp rfl) (ym rfl rfl (M.cell 0 rfl rfl) (yd rfl (B9 rfl rfl rfl) (yb rfl (k65 _ _ M ⟨rfl, rfl, rfl, rfl, rfl, (by rw [h65]; rfl), trivial⟩))))
       ·exact yo rfl (yo rfl (yo rfl (yb rfl (k65 _ _ M ⟨rfl, rfl, rfl, rfl, rfl, (by rw [h65]; rfl), trivial⟩))))
      refine D8 9 (fun w' => Mem w (fun k => k = gx) [As.blk g53 70 ((Xn.cells n A) ++ (Xn.cells ((fr ((((AG y.say).getD (0, 0)).2) + 1) (B6 s y)).1) A52)), As.xn 70 ((fr ((((AG y.say).getD (0, 0)).2) + 1) (B6 s y)).1) A52 F52, As.blk g7 110 [.int .u8 (((AG y.say).getD (0, 0)).1.toNat : Int), .int .i64 ((((AG y.say).getD (0, 0)).2 : Nat) : Int)], As.mp g25 D4, As.blk g6 70 [.int .u8 (((AG y.say).getD (0, 0)).1.toNat : Int), .int .u8 0, .int .i64 0, .bool false, str [], str [], .slice (some ⟨g53, 0, none⟩) 2 2], As.xn 70 n A F, As.blk g5 70 [.int .u8 0, .int .u8 0, .int .i64 0, .bool false, str [], str [], .slice none 0 0], As.blk gx 104 (Lx.cells s ((fr ((((AG y.say).getD (0, 0)).2) + 1) (B6 s y)).2))] w') DT ?_
      have M := M.drew
      refine ol 1 9 rfl rfl rfl M (fun _ M => (Blk.c ((hE.fr M.fr).b5) 0 rfl)) (oc 2 9 rfl rfl M (oc 3 9 rfl rfl M (oc 4 9 rfl rfl M (ol 5 9 rfl rfl rfl M (fun _ M => (M.cell 7 rfl rfl)) (FU (rs := [0, 7]) (by kernel_rfl) (by simp) fun iz hiz => ?_)))))
      simp only [List.mem_cons, List.not_mem_nil, or_false] at hiz
      rcases hiz with rfl | rfl
      ·refine JK (some 55) rfl (A9 rfl) rfl rfl (AF rfl rfl call53) (GW _) ?_
       rintro _ w17 ⟨g55, rfl, hMw17, hgw17, hfw17⟩
       refine ⟨_, rfl, fun _ => M.step hfw17, ?_⟩
       have M := M.push hfw17 (As.mp g55 D4) hMw17 (K8 hgw17 hMw17.lt)
       refine FU (rs := [6, 7]) (by kernel_rfl) (by simp) fun iz hiz => ?_
       simp only [List.mem_cons, List.not_mem_nil, or_false] at hiz
       rcases hiz with rfl | rfl
       ·refine E0 (some 61) rfl (A9 rfl) rfl rfl (aY (C2 rfl rfl rfl underlying112 underlying9 BN (M.mp 0 rfl) (E2 _))) ?_
        rintro _ _ ⟨rfl, rfl⟩
        refine ⟨fun _ => (M.drop 1), B3 7 (some 9) (by kernel_rfl) rfl (A9 rfl) rfl rfl (fun ρ hρ => BX 110 rfl _ [.int .u8 0, .int .i64 0] BN rfl) ?_⟩
        rintro _ w18 ⟨g9, rfl, hg9, hq9, hb9, hfw18⟩
        refine ⟨fun _ => (M.drop 1).step hfw18, ?_⟩
        have M := M.push hfw18 _ hb9 (DA hg9 hq9)
        replace M : Mem w (fun k => k = gx) (As.blk g9 110 [.int .u8 0, .int .i64 0] :: _) w18 := M
        refine B3 8 none (by kernel_rfl) rfl (A9 rfl) rfl rfl (fun ρ hρ => BP 110 _ _ rfl g9 0 110 _ ([.int .u8 (((AG ((fr ((((AG y.say).getD (0, 0)).2) + 1) (B6 s y)).2.say)).getD (0, 0)).1.toNat : Int), .int .i64 ((((AG ((fr ((((AG y.say).getD (0, 0)).2) + 1) (B6 s y)).2.say)).getD (0, 0)).2 : Nat) : Int)]) (hρ _ _ rfl) (hρ _ _ rfl) (M.blk 0 rfl) D1 (AP rfl) (AW rfl)) ?_
        rintro _ w19 ⟨rfl, hbw19, hfw19⟩
        replace M : Mem w (fun k => k = gx) (List.set _ 0 (As.blk g9 110 [.int .u8 (((AG ((fr ((((AG y.say).getD (0, 0)).2) + 1) (B6 s y)).2.say)).getD (0, 0)).1.toNat : Int), .int .i64 ((((AG ((fr ((((AG y.say).getD (0, 0)).2) + 1) (B6 s y)).2.say)).getD (0, 0)).2 : Nat) : Int)])) w19 := M.putB 0 rfl hbw19 hfw19
        exact ⟨fun _ => M.drop 2, BJ (by kernel_rfl) (kr10 g9 g55 _ _ M ⟨rfl, rfl, rfl, rfl, rfl, rfl, rfl, trivial⟩)⟩
       ·refine E0 (some 9) rfl (A9 rfl) rfl rfl (fun ρ hρ => BX 110 rfl _ [.int .u8 0, .int .i64 0] BN rfl) ?_
        rintro _ w20 ⟨g9, rfl, hg9, hq9, hb9, hfw20⟩
        refine ⟨fun _ => (M.drop 1).step hfw20, ?_⟩
        have M := M.push hfw20 _ hb9 (DA hg9 hq9)
        replace M : Mem w (fun k => k = gx) (As.blk g9 110 [.int .u8 0, .int .i64 0] :: _) w20 := M
        refine CZ 6 (by kernel_rfl) rfl (A9 rfl) rfl rfl (C2 rfl rfl rfl underlying112 underlying9 BN (M.mp 1 rfl) (E2 _)) (M.drop 2) (B3 8 none (by kernel_rfl) rfl (A9 rfl) rfl rfl (fun ρ hρ => BP 110 _ _ rfl g9 0 110 _ ([.int .u8 (((AG ((fr ((((AG y.say).getD (0, 0)).2) + 1) (B6 s y)).2.say)).getD (0, 0)).1.toNat : Int), .int .i64 ((((AG ((fr ((((AG y.say).getD (0, 0)).2) + 1) (B6 s y)).2.say)).getD (0, 0)).2 : Nat) : Int)]) (hρ _ _ rfl) (hρ _ _ rfl) (M.blk 0 rfl) D1 (AP rfl) (AW rfl)) ?_)
        rintro _ w21 ⟨rfl, hbw21, hfw21⟩
        replace M : Mem w (fun k => k = gx) (List.set _ 0 (As.blk g9 110 [.int .u8 (((AG ((fr ((((AG y.say).getD (0, 0)).2) + 1) (B6 s y)).2.say)).getD (0, 0)).1.toNat : Int), .int .i64 ((((AG ((fr ((((AG y.say).getD (0, 0)).2) + 1) (B6 s y)).2.say)).getD (0, 0)).2 : Nat) : Int)])) w21 := M.putB 0 rfl hbw21 hfw21
        exact ⟨fun _ => M.drop 2, BJ (by kernel_rfl) (kr10 g9 g55 _ _ M ⟨rfl, rfl, rfl, rfl, rfl, rfl, rfl, trivial⟩)⟩
      ·refine E0 (some 9) rfl (A9 rfl) rfl rfl (fun ρ hρ => BX 110 rfl _ [.int .u8 0, .int .i64 0] BN rfl) ?_
       rintro _ w22 ⟨g9, rfl, hg9, hq9, hb9, hfw22⟩
       refine ⟨fun _ => M.step hfw22, ?_⟩
       have M := M.push hfw22 _ hb9 (DA hg9 hq9)
       replace M : Mem w (fun k => k = gx) (As.blk g9 110 [.int .u8 0, .int .i64 0] :: _) w22 := M
       refine D0 0 (some 55) (by kernel_rfl) rfl (A9 rfl) rfl rfl (AF rfl rfl call53) (GW _) ?_
       rintro _ w23 ⟨g55, rfl, hMw23, hgw23, hfw23⟩
       refine ⟨_, rfl, fun _ => (M.drop 1).step hfw23, ?_⟩
       have M := M.push hfw23 (As.mp g55 D4) hMw23 (K8 hgw23 hMw23.lt)
       refine CZ 6 (by kernel_rfl) rfl (A9 rfl) rfl rfl (C2 rfl rfl rfl underlying112 underlying9 BN (M.mp 0 rfl) (E2 _)) (M.drop 2) (B3 8 none (by kernel_rfl) rfl (A9 rfl) rfl rfl (fun ρ hρ => BP 110 _ _ rfl g9 0 110 _ ([.int .u8 (((AG ((fr ((((AG y.say).getD (0, 0)).2) + 1) (B6 s y)).2.say)).getD (0, 0)).1.toNat : Int), .int .i64 ((((AG ((fr ((((AG y.say).getD (0, 0)).2) + 1) (B6 s y)).2.say)).getD (0, 0)).2 : Nat) : Int)]) (hρ _ _ rfl) (hρ _ _ rfl) (M.blk 1 rfl) D1 (AP rfl) (AW rfl)) ?_)
       rintro _ w24 ⟨rfl, hbw24, hfw24⟩
       replace M : Mem w (fun k => k = gx) (List.set _ 1 (As.blk g9 110 [.int .u8 (((AG ((fr ((((AG y.say).getD (0, 0)).2) + 1) (B6 s y)).2.say)).getD (0, 0)).1.toNat : Int), .int .i64 ((((AG ((fr ((((AG y.say).getD (0, 0)).2) + 1) (B6 s y)).2.say)).getD (0, 0)).2 : Nat) : Int)])) w24 := M.putB 1 rfl hbw24 hfw24
       exact ⟨fun _ => M.drop 2, BJ (by kernel_rfl) (kr10 g9 g55 _ _ (M.pk [1, 0, 2, 3, 4, 5, 6, 7, 8, 9]) ⟨rfl, rfl, rfl, rfl, rfl, rfl, rfl, trivial⟩)⟩
    refine AE (d := 36) (b := (!(AG y.say).isSome)) rfl (fun h36 => ?_) (fun h36 => ?_)
    ·iterate 4 refine yo rfl ?_
     exact yb rfl (k36 _ _ M ⟨rfl, rfl, rfl, rfl, rfl, rfl, (by rw [h36]; rfl), trivial⟩)
    ·exact yd rfl (yp rfl) (ym rfl rfl (M.cell 0 rfl rfl) (yd rfl (yp rfl) (yd rfl (CH rfl rfl rfl) (yb rfl (k36 _ _ M ⟨rfl, rfl, rfl, rfl, rfl, rfl, (by rw [h36]; rfl), trivial⟩)))))
   refine D8 13 (fun w' => Mem w (fun k => k = gx) [As.blk g6 70 (Xn.cells n A), As.xn 70 n A F, As.blk g5 70 [.int .u8 0, .int .u8 0, .int .i64 0, .bool false, str [], str [], .slice none 0 0], As.blk gx 104 (Lx.cells s y)] w') DT ?_
   have M := M.drew
   refine ol 1 13 rfl rfl rfl M (fun _ M => (Blk.c ((hE.fr M.fr).b5) 0 rfl)) (oc 2 13 rfl rfl M (oc 3 13 rfl rfl M (oc 4 13 rfl rfl M (ol 5 13 rfl rfl rfl M (fun _ M => (M.cell 3 rfl rfl)) (FU (rs := [0, 10]) (by kernel_rfl) (by simp) fun iz hiz => ?_)))))
   simp only [List.mem_cons, List.not_mem_nil, or_false] at hiz
   rcases hiz with rfl | rfl
   ·refine JK (some 25) rfl (A9 rfl) rfl rfl (AF rfl rfl call53) (GW _) ?_
    rintro _ w25 ⟨g25, rfl, hMw25, hgw25, hfw25⟩
    refine ⟨_, rfl, fun _ => M.step hfw25, ?_⟩
    have M := M.push hfw25 (As.mp g25 D4) hMw25 (K8 hgw25 hMw25.lt)
    refine FU (rs := [6, 10]) (by kernel_rfl) (by simp) fun iz hiz => ?_
    simp only [List.mem_cons, List.not_mem_nil, or_false] at hiz
    rcases hiz with rfl | rfl
    ·refine E0 (some 31) rfl (A9 rfl) rfl rfl (aY (DE rfl rfl rfl underlying112 underlying9 BN (M.mp 0 rfl) (E2 _) (FY _))) ?_
     rintro _ _ ⟨rfl, rfl⟩
     refine ⟨fun _ => (M.drop 1), oc 7 13 rfl rfl (M.drop 1) (oc 8 13 rfl rfl (M.drop 1) (oc 9 13 rfl rfl (M.drop 1) (B3 10 (some 7) (by kernel_rfl) rfl (A9 rfl) rfl rfl (fun ρ hρ => BX 110 rfl _ [.int .u8 0, .int .i64 0] BN rfl) ?_)))⟩
     rintro _ w26 ⟨g7, rfl, hg7, hq7, hb7, hfw26⟩
     refine ⟨fun _ => (M.drop 1).step hfw26, ?_⟩
     have M := M.push hfw26 _ hb7 (DA hg7 hq7)
     replace M : Mem w (fun k => k = gx) (As.blk g7 110 [.int .u8 0, .int .i64 0] :: _) w26 := M
     refine B3 11 none (by kernel_rfl) rfl (A9 rfl) rfl rfl (fun ρ hρ => BP 110 _ _ rfl g7 0 110 _ ([.int .u8 (((AG y.say).getD (0, 0)).1.toNat : Int), .int .i64 ((((AG y.say).getD (0, 0)).2 : Nat) : Int)]) (hρ _ _ rfl) (hρ _ _ rfl) (M.blk 0 rfl) D1 (AP rfl) (AW rfl)) ?_
     rintro _ w27 ⟨rfl, hbw27, hfw27⟩
     replace M : Mem w (fun k => k = gx) (List.set _ 0 (As.blk g7 110 [.int .u8 (((AG y.say).getD (0, 0)).1.toNat : Int), .int .i64 ((((AG y.say).getD (0, 0)).2 : Nat) : Int)])) w27 := M.putB 0 rfl hbw27 hfw27
     exact ⟨fun _ => M.drop 2, oc 12 13 rfl rfl (M.drop 2) (BJ (by kernel_rfl) (kr5 g7 g25 _ _ M ⟨rfl, rfl, rfl, rfl, rfl, rfl, rfl, trivial⟩))⟩
    ·refine E0 (some 7) rfl (A9 rfl) rfl rfl (fun ρ hρ => BX 110 rfl _ [.int .u8 0, .int .i64 0] BN rfl) ?_
     rintro _ w28 ⟨g7, rfl, hg7, hq7, hb7, hfw28⟩
     refine ⟨fun _ => (M.drop 1).step hfw28, ?_⟩
     have M := M.push hfw28 _ hb7 (DA hg7 hq7)
     replace M : Mem w (fun k => k = gx) (As.blk g7 110 [.int .u8 0, .int .i64 0] :: _) w28 := M
     refine CZ 6 (by kernel_rfl) rfl (A9 rfl) rfl rfl (DE rfl rfl rfl underlying112 underlying9 BN (M.mp 1 rfl) (E2 _) (FY _)) (M.drop 2) (oc 7 13 rfl rfl (M.drop 2) (oc 8 13 rfl rfl (M.drop 2) (oc 9 13 rfl rfl (M.drop 2) (B3 11 none (by kernel_rfl) rfl (A9 rfl) rfl rfl (fun ρ hρ => BP 110 _ _ rfl g7 0 110 _ ([.int .u8 (((AG y.say).getD (0, 0)).1.toNat : Int), .int .i64 ((((AG y.say).getD (0, 0)).2 : Nat) : Int)]) (hρ _ _ rfl) (hρ _ _ rfl) (M.blk 0 rfl) D1 (AP rfl) (AW rfl)) ?_))))
     rintro _ w29 ⟨rfl, hbw29, hfw29⟩
     replace M : Mem w (fun k => k = gx) (List.set _ 0 (As.blk g7 110 [.int .u8 (((AG y.say).getD (0, 0)).1.toNat : Int), .int .i64 ((((AG y.say).getD (0, 0)).2 : Nat) : Int)])) w29 := M.putB 0 rfl hbw29 hfw29
     exact ⟨fun _ => M.drop 2, oc 12 13 rfl rfl (M.drop 2) (BJ (by kernel_rfl) (kr5 g7 g25 _ _ M ⟨rfl, rfl, rfl, rfl, rfl, rfl, rfl, trivial⟩))⟩
   ·refine E0 (some 7) rfl (A9 rfl) rfl rfl (fun ρ hρ => BX 110 rfl _ [.int .u8 0, .int .i64 0] BN rfl) ?_
    rintro _ w30 ⟨g7, rfl, hg7, hq7, hb7, hfw30⟩
    refine ⟨fun _ => M.step hfw30, ?_⟩
    have M := M.push hfw30 _ hb7 (DA hg7 hq7)
    replace M : Mem w (fun k => k = gx) (As.blk g7 110 [.int .u8 0, .int .i64 0] :: _) w30 := M
    refine D0 0 (some 25) (by kernel_rfl) rfl (A9 rfl) rfl rfl (AF rfl rfl call53) (GW _) ?_
    rintro _ w31 ⟨g25, rfl, hMw31, hgw31, hfw31⟩
    refine ⟨_, rfl, fun _ => (M.drop 1).step hfw31, ?_⟩
    have M := M.push hfw31 (As.mp g25 D4) hMw31 (K8 hgw31 hMw31.lt)
    refine CZ 6 (by kernel_rfl) rfl (A9 rfl) rfl rfl (DE rfl rfl rfl underlying112 underlying9 BN (M.mp 0 rfl) (E2 _) (FY _)) (M.drop 2) (oc 7 13 rfl rfl (M.drop 2) (oc 8 13 rfl rfl (M.drop 2) (oc 9 13 rfl rfl (M.drop 2) (B3 11 none (by kernel_rfl) rfl (A9 rfl) rfl rfl (fun ρ hρ => BP 110 _ _ rfl g7 0 110 _ ([.int .u8 (((AG y.say).getD (0, 0)).1.toNat : Int), .int .i64 ((((AG y.say).getD (0, 0)).2 : Nat) : Int)]) (hρ _ _ rfl) (hρ _ _ rfl) (M.blk 1 rfl) D1 (AP rfl) (AW rfl)) ?_))))
    rintro _ w32 ⟨rfl, hbw32, hfw32⟩
    replace M : Mem w (fun k => k = gx) (List.set _ 1 (As.blk g7 110 [.int .u8 (((AG y.say).getD (0, 0)).1.toNat : Int), .int .i64 ((((AG y.say).getD (0, 0)).2 : Nat) : Int)])) w32 := M.putB 1 rfl hbw32 hfw32
    exact ⟨fun _ => M.drop 2, oc 12 13 rfl rfl (M.drop 2) (BJ (by kernel_rfl) (kr5 g7 g25 _ _ (M.pk [1, 0, 2, 3, 4, 5]) ⟨rfl, rfl, rfl, rfl, rfl, rfl, rfl, trivial⟩))⟩
  ·have h23p := (odf h23)
   refine CD (AI (AI (BB (A2 (A4 (A0 (ya rfl (AN (xs := Xn.cells n A) rfl rfl (M.rdBlk 0 rfl rfl) underlying70 rfl AM) (B5 (cs' := (Xn.cells n A)) M 2 (A9 rfl) rfl rfl rfl rfl rfl AM rfl (AP rfl) (AW rfl) rfl fun w33 M => A1 (A2 (AD (EA rfl rfl (M.rdBlk 2 rfl rfl) underlying70 rfl AM ?_)))))))))))
   rw [heq.trans (dT h23p)]
   exact ⟨_, _, rfl, M.ok 1 _ rfl, M.newOf 1 3 rfl rfl (by decide), M.blk 3 rfl, M.fr⟩
theorem jM (s : List UInt8) (gx c5 c6 c7 c8 c9 c10 : Nat) : ∀ f : Nat, FromOK s gx c5 c6 c7 c8 c9 c10 f (CF s (f + 1))
 | 0 => ⟨UO s 0, fun line x w hl hb hx hm hE hY => VY (f := 0) (fun _ h => by cases h) line hl x w hb hx hm hE hY⟩
 | f + 1 => ⟨UO s (f + 1), fun line x w hl hb hx hm hE hY => VY (f := f + 1) (fun f' h => by cases h; exact jM s gx c5 c6 c7 c8 c9 c10 f) line hl x w hb hx hm hE hY⟩
end
section
theorem Mem.neBlk {w0 w : World} {S : Nat → Prop} {L : List As} (M : Mem w0 S L w) (i j : Nat) {a b t u : Nat} {cs ds : List Value} (hi : L[i]? = some (As.blk a t cs)) (hj : L[j]? = some (As.blk b u ds)) (h : i ≠ j) : ¬ a = b := fun e =>
 M.apart i j _ _ hi hj h a (by simp [As.blk]) (by simp [As.blk, e])
theorem t6 (s : List UInt8) : LxI s lx0 := ⟨Nat.zero_le _, Nat.le_refl _, fun h => absurd rfl h, rfl⟩
theorem aK (s : List UInt8) (x : Lx) : lxM s x ≤ s.length + 1 := by unfold lxM; split <;> omega
theorem VV {s : List UInt8} (h : (256 : Int) < ((s.length : Nat) : Int)) : C8 s = (.zero, 0, 3) := if_pos (by omega)
section
variable {s : List UInt8} (h : ¬ (256 : Int) < ((s.length : Nat) : Int))
include h
theorem U3 (h1 : (CF s 258 1 (B6 s lx0)).2.fin = false) (h2 : ¬ ((CF s 258 1 (B6 s lx0)).2.fail 4 (CF s 258 1 (B6 s lx0)).2.tat).e = 0) :
 C8 s = (.zero, ((CF s 258 1 (B6 s lx0)).2.fail 4 (CF s 258 1 (B6 s lx0)).2.tat).wh, ((CF s 258 1 (B6 s lx0)).2.fail 4 (CF s 258 1 (B6 s lx0)).2.tat).e) := by
 unfold C8
 rw [if_neg (by omega)]
 simp only [h1, if_true, if_neg h2]
theorem U2 (h1 : (CF s 258 1 (B6 s lx0)).2.fin = false) (h2 : ((CF s 258 1 (B6 s lx0)).2.fail 4 (CF s 258 1 (B6 s lx0)).2.tat).e = 0) : C8 s = ((CF s 258 1 (B6 s lx0)).1, 0, 0) := by
 unfold C8
 rw [if_neg (by omega)]
 simp only [h1, if_true, if_pos h2]
theorem VX (h1 : (CF s 258 1 (B6 s lx0)).2.fin = true) (h2 : ¬ (CF s 258 1 (B6 s lx0)).2.e = 0) : C8 s = (.zero, (CF s 258 1 (B6 s lx0)).2.wh, (CF s 258 1 (B6 s lx0)).2.e) := by
 unfold C8
 rw [if_neg (by omega)]
 simp only [h1, Bool.true_eq_false, if_false, if_neg h2]
theorem VW (h1 : (CF s 258 1 (B6 s lx0)).2.fin = true) (h2 : (CF s 258 1 (B6 s lx0)).2.e = 0) : C8 s = ((CF s 258 1 (B6 s lx0)).1, 0, 0) := by
 unfold C8
 rw [if_neg (by omega)]
 simp only [h1, Bool.true_eq_false, if_false, if_pos h2]
end
theorem PA (a0 : List UInt8) : prog.built 104 [(0, str a0)] = some #[str a0, .int .i64 0, .int .u8 0, .int .u8 0, .int .i64 0, .bool false, str [], str [], .slice none 0 0, str [], .int .i64 0, .bool false, .int .i64 0, .int .i64 0] := by kernel_rfl
theorem IM : (prog.info? 108).map (·.size) = some 1 := by kernel_rfl
theorem GD : (prog.info? 105).map (·.size) = some 1 := by kernel_rfl
theorem HM : (prog.info? 106).map (·.size) = some 1 := by kernel_rfl
theorem P3 : (prog.info? 100).map (·.size) = some 1 := by kernel_rfl
theorem IL : (prog.info? 108).map (·.zero) = some (some (.nilFunc)) := by kernel_rfl
theorem GC : (prog.info? 105).map (·.zero) = some (some (.nilFunc)) := by kernel_rfl
theorem HK : (prog.info? 106).map (·.zero) = some (some (.nilFunc)) := by kernel_rfl
theorem P2 : (prog.info? 100).map (·.zero) = some (some (.pointer none)) := by kernel_rfl
theorem VU (s : List UInt8) (w : World) (hs : s.length ≤ 4611686018427387904) (hY : Lay0 w) :
 Calls prog 16 #[str s] w fun e w' => ∃ A F, e = .returned (.tuple #[.agg ((C8 s).1.cells A).toArray, .int .i64 (((C8 s).2.1 : Nat) : Int), .int .i64 (C8 s).2.2]) ∧ (C8 s).1.AtL 70 w' A F ∧ (∀ k ∈ F, w.heap.size ≤ k ∧ k < w'.heap.size) ∧ Fr0 w w' := by
 have hGx : ∀ k, AB k → nGlob ≤ k := fun _ h => h.elim
 refine AK (vs := [_]) func16 rfl ntmps16 rfl ?_
 have M := CK w
 refine A4 (A0 (BI M (A9 rfl) rfl rfl 70 rfl [.int .u8 0, .int .u8 0, .int .i64 0, .bool false, str [], str [], .slice none 0 0] CW rfl fun g2 w1 hg2 M => yb rfl (yb rfl (A1 (A2 (A4 (A4 (A0 (yb rfl (ya rfl (EO rfl rfl underlying9) (ya rfl (FR rfl rfl rfl) (A1 (A2 ?_)))))))))))))
 refine AQ (b := (decide ((256 : Int) < ((s.length : Nat) : Int)))) rfl (fun h14 => ?_) (fun h14 => ?_)
 ·have h14p := (odt h14)
  refine A4 (A0 (ya rfl (BO (parts := []) rfl rfl (HV)) (B5 (cs' := [.int .u8 0, .int .u8 0, .int .i64 0, .bool false, str [], str [], .slice none 0 0]) M 0 (A9 rfl) rfl rfl rfl rfl rfl AM rfl (AP rfl) (AW rfl) rfl fun w2 M => yb rfl (yb rfl (A1 (A2 (AD (AA (K3 rfl rfl (M.rdBlk 0 rfl rfl) underlying70 rfl AM rfl rfl ?_)))))))))
  rw [VV h14p]
  exact ⟨none, [], rfl, ⟨rfl, rfl⟩, (fun k hk => absurd hk (by simp)), M.fr⟩
 ·have h14p := (odf h14)
  refine AL (A2 (A4 (A0 (yb rfl (ya rfl (BO (parts := [(0, _)]) rfl rfl (PA _)) (BD M (A9 rfl) rfl rfl 104 rfl rfl (Lx.cells s lx0) rfl fun gx w3 hgx M => ?_))))))
  have hnx : nGlob ≤ gx := Nat.le_trans hY.size (M.new0 0 rfl gx (by simp [As.blk])).1
  refine BI M (A9 rfl) rfl rfl 100 rfl [.pointer none] P2 rfl fun g5 w4 hg5 M => BQ (cs' := [pg gx]) M 0 (A9 rfl) rfl rfl rfl rfl rfl rfl rfl P3 (AZ rfl) rfl fun w5 M => A1 (A2 (A4 (A0 (yl rfl rfl (M.cell 0 rfl rfl) (cl 20 rfl (AF rfl rfl call46) (FP s lx0 _ _ (M.blk 1 rfl) (t6 s).at_ (by omega) (hY.fr M.fr hGx) hnx) ?_)))))
  rintro _ w6 ⟨rfl, hbw6, hfw6⟩
  have M := M.putB 1 rfl hbw6 hfw6
  refine ⟨_, rfl, A1 (A2 (A4 (A0 (BI M (A9 rfl) rfl rfl 105 rfl [.nilFunc] GC rfl fun g6 w7 hg6 M => A1 (A2 (A4 (A0 (ya rfl (CT (us := []) (vs := [pg g5, pg g6]) rfl rfl rfl) (BI M (A9 rfl) rfl rfl 106 rfl [.nilFunc] HK rfl fun g7 w8 hg7 M => BQ (cs' := [.func (.func 47) #[] #[pg g5, pg g6]]) M 0 (A9 rfl) rfl rfl rfl rfl rfl rfl rfl HM (AZ rfl) rfl fun w9 M => ?_)))))))))⟩
  refine A1 (A2 (A4 (A0 (ya rfl (CT (us := []) (vs := [pg g5]) rfl rfl rfl) (BI M (A9 rfl) rfl rfl 108 rfl [.nilFunc] IL rfl fun g8 w10 hg8 M => BQ (cs' := [.func (.func 48) #[] #[pg g5]]) M 0 (A9 rfl) rfl rfl rfl rfl rfl rfl rfl IM (AZ rfl) rfl fun w11 M => A1 (A2 (A4 (A0 (ya rfl (CT (us := []) (vs := [pg g5, pg g6]) rfl rfl rfl) (BI M (A9 rfl) rfl rfl 108 rfl [.nilFunc] IL rfl fun g9 w12 hg9 M => ?_))))))))))
  refine BQ (cs' := [.func (.func 50) #[] #[pg g5, pg g6]]) M 0 (A9 rfl) rfl rfl rfl rfl rfl rfl rfl IM (AZ rfl) rfl fun w13 M => A1 (A2 (A4 (A0 (ya rfl (CT (us := []) (vs := [pg g5, pg g7, pg g9, pg g8]) rfl rfl rfl) (BI M (A9 rfl) rfl rfl 105 rfl [.nilFunc] GC rfl fun g10 w14 hg10 M => BQ (cs' := [.func (.func 51) #[] #[pg g5, pg g7, pg g9, pg g8]]) M 0 (A9 rfl) rfl rfl rfl rfl rfl rfl rfl GD (AZ rfl) rfl fun w15 M => A1 (A2 (A4 (A0 (ya rfl (CT (us := []) (vs := [pg g5, pg g10, pg g6]) rfl rfl rfl) ?_)))))))))
  refine BQ (cs' := [.func (.func 52) #[] #[pg g5, pg g10, pg g6]]) M 4 (A9 rfl) rfl rfl rfl rfl rfl rfl rfl GD (AZ rfl) rfl fun w16 M => A1 (A2 (A4 (A0 (yl rfl rfl (M.cell 4 rfl rfl) (cl 27 rfl (C0 rfl rfl rfl call52) ((jM s gx g5 g6 g7 g8 g9 g10 257).call 1 (B6 s lx0) _ (by decide) (M.blk 6 rfl) DR (Nat.le_trans (aK _ _) (by omega)) ⟨M.blk 5 rfl, M.blk 4 rfl, M.blk 3 rfl, M.blk 2 rfl, M.blk 1 rfl, M.blk 0 rfl, ⟨M.neBlk 5 6 rfl rfl (by decide), M.neBlk 4 6 rfl rfl (by decide), M.neBlk 3 6 rfl rfl (by decide), M.neBlk 2 6 rfl rfl (by decide), M.neBlk 1 6 rfl rfl (by decide), M.neBlk 0 6 rfl rfl (by decide)⟩, hnx, by omega⟩ (hY.fr M.fr hGx)) ?_)))))
  rintro _ w17 ⟨A27, F27, rfl, hat27, hnw27, hbw17, hfw17⟩
  have M := M.putPush 6 rfl hbw17 hfw17 (As.xn 70 (CF s 258 1 (B6 s lx0)).1 A27 F27) hat27 hnw27
  have hI27 := (UO s 257).I 1 (B6 s lx0) DR (Nat.le_trans (aK _ _) (by omega))
  refine ⟨_, rfl, BI M (A9 rfl) rfl rfl 70 rfl [.int .u8 0, .int .u8 0, .int .i64 0, .bool false, str [], str [], .slice none 0 0] CW rfl fun g11 w18 hg11 M => B5 (cs' := (Xn.cells ((CF s 258 1 (B6 s lx0)).1) A27)) M 0 (A9 rfl) rfl rfl rfl rfl rfl AM rfl (AP rfl) (AW rfl) rfl fun w19 M => A1 (A2 (A4 (A4 (A0 (yl rfl rfl (M.cell 7 rfl rfl) (yb rfl (yb rfl (yb rfl (yl rfl rfl (M.cell 8 rfl rfl) (yb rfl ?_))))))))))⟩
  refine A1 (A2 (AQ (b := (!(CF s 258 1 (B6 s lx0)).2.fin)) rfl (fun h33 => ?_) (fun h33 => ?_)))
  ·have h33p := (C1 h33)
   refine GP 6 DT (by kernel_rfl) ?_
   have M := M.drew
   refine sd rfl rfl (M.cell 7 rfl rfl) (sd rfl rfl (M.cell 7 rfl rfl) (sb rfl (sb rfl (sb rfl (sd rfl rfl (M.cell 8 rfl rfl) (EJ (cl 40 rfl (AF rfl rfl call49) (EC s ((CF s 258 1 (B6 s lx0)).2) _ _ _ _ (M.blk 8 rfl)) ?_)))))))
   rintro _ w20 ⟨rfl, hbw20, hfw20⟩
   have M := M.putB 8 rfl hbw20 hfw20
   refine ⟨_, rfl, A1 (A2 (A4 (A4 (A0 (yl rfl rfl (M.cell 7 rfl rfl) (yb rfl (yb rfl (yl rfl rfl (M.cell 8 rfl rfl) (ya rfl (CX rfl rfl rfl) (A1 (A2 (AQ (b := (!decide ((((CF s 258 1 (B6 s lx0)).2).fail 4 ((CF s 258 1 (B6 s lx0)).2.tat)).e = (0 : Int)))) rfl (fun h45 => ?_) (fun h45 => ?_)))))))))))))⟩
   ·have h45p := (odf (C1 h45))
    refine A4 (D8 12 (fun w' => Mem w AB [As.blk g11 70 (Xn.cells ((CF s 258 1 (B6 s lx0)).1) A27), As.xn 70 ((CF s 258 1 (B6 s lx0)).1) A27 F27, As.blk g10 105 [.func (.func 51) #[] #[pg g5, pg g7, pg g9, pg g8]], As.blk g9 108 [.func (.func 50) #[] #[pg g5, pg g6]], As.blk g8 108 [.func (.func 48) #[] #[pg g5]], As.blk g7 106 [.func (.func 47) #[] #[pg g5, pg g6]], As.blk g6 105 [.func (.func 52) #[] #[pg g5, pg g10, pg g6]], As.blk g5 100 [pg gx], As.blk gx 104 (Lx.cells s (((CF s 258 1 (B6 s lx0)).2).fail 4 ((CF s 258 1 (B6 s lx0)).2.tat)))] w') DT ?_)
    have M := M.drew
    refine oa 0 12 rfl rfl (M.pk [0, 1, 2, 3, 4, 5, 6, 7, 8]) (fun _ M => BO (parts := []) rfl rfl (HV)) (ol 1 12 rfl rfl rfl (M.pk [0, 1, 2, 3, 4, 5, 6, 7, 8]) (fun _ M => (M.cell 7 rfl rfl)) (oc 2 12 rfl rfl (M.pk [0, 1, 2, 3, 4, 5, 6, 7, 8]) (oc 3 12 rfl rfl (M.pk [0, 1, 2, 3, 4, 5, 6, 7, 8]) (ol 4 12 rfl rfl rfl (M.pk [0, 1, 2, 3, 4, 5, 6, 7, 8]) (fun _ M => (M.cell 8 rfl rfl)) (ol 5 12 rfl rfl rfl (M.pk [0, 1, 2, 3, 4, 5, 6, 7, 8]) (fun _ M => (M.cell 7 rfl rfl)) (oc 6 12 rfl rfl (M.pk [0, 1, 2, 3, 4, 5, 6, 7, 8]) (oc 7 12 rfl rfl (M.pk [0, 1, 2, 3, 4, 5, 6, 7, 8]) (ol 8 12 rfl rfl rfl (M.pk [0, 1, 2, 3, 4, 5, 6, 7, 8]) (fun _ M => (M.cell 8 rfl rfl)) (B3 9 none (by kernel_rfl) rfl (A9 rfl) rfl rfl (fun ρ hρ => BP 70 _ _ rfl g2 0 70 _ ([.int .u8 0, .int .u8 0, .int .i64 0, .bool false, str [], str [], .slice none 0 0]) (hρ _ _ rfl) (hρ _ _ rfl) (M.blk 9 rfl) AM (AP rfl) (AW rfl)) ?_)))))))))
    rintro _ w21 ⟨rfl, hbw21, hfw21⟩
    replace M : Mem w AB (List.set _ 9 (As.blk g2 70 [.int .u8 0, .int .u8 0, .int .i64 0, .bool false, str [], str [], .slice none 0 0])) w21 := M.putB 9 rfl hbw21 hfw21
    refine ⟨fun _ => (M.pk [0, 1, 2, 3, 4, 5, 6, 7, 8]), oc 10 12 rfl rfl (M.pk [0, 1, 2, 3, 4, 5, 6, 7, 8]) (oc 11 12 rfl rfl (M.pk [0, 1, 2, 3, 4, 5, 6, 7, 8]) (BJ (by kernel_rfl) (A2 (AD (AA (K3 rfl rfl (M.rdBlk 9 rfl rfl) underlying70 rfl AM rfl rfl ?_))))))⟩
    rw [U3 h14p h33p h45p]
    exact ⟨none, [], rfl, ⟨rfl, rfl⟩, (fun k hk => absurd hk (by simp)), M.fr⟩
   ·have h45p := (odt (C3 h45))
    refine AL (A2 (A4 (A0 (ya rfl (AN (xs := Xn.cells ((CF s 258 1 (B6 s lx0)).1) A27) rfl rfl (M.rdBlk 0 rfl rfl) underlying70 rfl AM) (B5 (cs' := (Xn.cells ((CF s 258 1 (B6 s lx0)).1) A27)) M 9 (A9 rfl) rfl rfl rfl rfl rfl AM rfl (AP rfl) (AW rfl) rfl fun w22 M => yb rfl (yb rfl (A1 (A2 (AD (K3 rfl rfl (M.rdBlk 9 rfl rfl) underlying70 rfl AM rfl rfl ?_))))))))))
    rw [U2 h14p h33p h45p]
    exact ⟨_, _, rfl, M.ok 1 _ rfl, M.new0 1 rfl, M.fr⟩
  ·have h33p := (C3 h33)
   refine AL (A2 (A4 (A4 (A0 (yl rfl rfl (M.cell 7 rfl rfl) (yb rfl (yb rfl (yl rfl rfl (M.cell 8 rfl rfl) (ya rfl (CX rfl rfl rfl) (A1 (A2 (AQ (b := (!decide ((CF s 258 1 (B6 s lx0)).2.e = (0 : Int)))) rfl (fun h45 => ?_) (fun h45 => ?_)))))))))))))
   ·have h45p := (odf (C1 h45))
    refine A4 (D8 12 (fun w' => Mem w AB [As.blk g11 70 (Xn.cells ((CF s 258 1 (B6 s lx0)).1) A27), As.xn 70 ((CF s 258 1 (B6 s lx0)).1) A27 F27, As.blk g10 105 [.func (.func 51) #[] #[pg g5, pg g7, pg g9, pg g8]], As.blk g9 108 [.func (.func 50) #[] #[pg g5, pg g6]], As.blk g8 108 [.func (.func 48) #[] #[pg g5]], As.blk g7 106 [.func (.func 47) #[] #[pg g5, pg g6]], As.blk g6 105 [.func (.func 52) #[] #[pg g5, pg g10, pg g6]], As.blk g5 100 [pg gx], As.blk gx 104 (Lx.cells s ((CF s 258 1 (B6 s lx0)).2))] w') DT ?_)
    have M := M.drew
    refine oa 0 12 rfl rfl (M.pk [0, 1, 2, 3, 4, 5, 6, 7, 8]) (fun _ M => BO (parts := []) rfl rfl (HV)) (ol 1 12 rfl rfl rfl (M.pk [0, 1, 2, 3, 4, 5, 6, 7, 8]) (fun _ M => (M.cell 7 rfl rfl)) (oc 2 12 rfl rfl (M.pk [0, 1, 2, 3, 4, 5, 6, 7, 8]) (oc 3 12 rfl rfl (M.pk [0, 1, 2, 3, 4, 5, 6, 7, 8]) (ol 4 12 rfl rfl rfl (M.pk [0, 1, 2, 3, 4, 5, 6, 7, 8]) (fun _ M => (M.cell 8 rfl rfl)) (ol 5 12 rfl rfl rfl (M.pk [0, 1, 2, 3, 4, 5, 6, 7, 8]) (fun _ M => (M.cell 7 rfl rfl)) (oc 6 12 rfl rfl (M.pk [0, 1, 2, 3, 4, 5, 6, 7, 8]) (oc 7 12 rfl rfl (M.pk [0, 1, 2, 3, 4, 5, 6, 7, 8]) (ol 8 12 rfl rfl rfl (M.pk [0, 1, 2, 3, 4, 5, 6, 7, 8]) (fun _ M => (M.cell 8 rfl rfl)) (B3 9 none (by kernel_rfl) rfl (A9 rfl) rfl rfl (fun ρ hρ => BP 70 _ _ rfl g2 0 70 _ ([.int .u8 0, .int .u8 0, .int .i64 0, .bool false, str [], str [], .slice none 0 0]) (hρ _ _ rfl) (hρ _ _ rfl) (M.blk 9 rfl) AM (AP rfl) (AW rfl)) ?_)))))))))
    rintro _ w23 ⟨rfl, hbw23, hfw23⟩
    replace M : Mem w AB (List.set _ 9 (As.blk g2 70 [.int .u8 0, .int .u8 0, .int .i64 0, .bool false, str [], str [], .slice none 0 0])) w23 := M.putB 9 rfl hbw23 hfw23
    refine ⟨fun _ => (M.pk [0, 1, 2, 3, 4, 5, 6, 7, 8]), oc 10 12 rfl rfl (M.pk [0, 1, 2, 3, 4, 5, 6, 7, 8]) (oc 11 12 rfl rfl (M.pk [0, 1, 2, 3, 4, 5, 6, 7, 8]) (BJ (by kernel_rfl) (A2 (AD (AA (K3 rfl rfl (M.rdBlk 9 rfl rfl) underlying70 rfl AM rfl rfl ?_))))))⟩
    rw [VX h14p h33p h45p]
    exact ⟨none, [], rfl, ⟨rfl, rfl⟩, (fun k hk => absurd hk (by simp)), M.fr⟩
   ·have h45p := (odt (C3 h45))
    refine AL (A2 (A4 (A0 (ya rfl (AN (xs := Xn.cells ((CF s 258 1 (B6 s lx0)).1) A27) rfl rfl (M.rdBlk 0 rfl rfl) underlying70 rfl AM) (B5 (cs' := (Xn.cells ((CF s 258 1 (B6 s lx0)).1) A27)) M 9 (A9 rfl) rfl rfl rfl rfl rfl AM rfl (AP rfl) (AW rfl) rfl fun w24 M => yb rfl (yb rfl (A1 (A2 (AD (K3 rfl rfl (M.rdBlk 9 rfl rfl) underlying70 rfl AM rfl rfl ?_))))))))))
    rw [VW h14p h33p h45p]
    exact ⟨_, _, rfl, M.ok 1 _ rfl, M.new0 1 rfl, M.fr⟩
end
section
theorem lP {e : Env} {w : World} {o : Oper} {t' : Nat} {x y : Operand} {a b : Vl} (ho : o.op = .binOp .neq 67 x y t') (hx : ev e x = some (.agg a.cells.toArray)) (hy : ev e y = some (.agg b.cells.toArray)) : Y prog e o w (.bool (!(a.same b))) := fun ρ h => by
 have h1 : ρ x = .agg a.cells.toArray := h _ _ hx
 have h2 : ρ y = .agg b.cells.toArray := h _ _ hy
 have hg := run_eqGuard_agg (P := prog) w .neq 67 x y a.cells.toArray b.cells.toArray OB
 have hrun : (Op.equalIn 10000 67 (.agg a.cells.toArray) (.agg b.cells.toArray)).run prog w = .ok (a.same b) w := by
  rw [run_equalIn_struct w 9999 67 _ _ M3 PV]
  have hl : (prog.fieldsOf 67).toList = (match prog.underlying 67 with | some (.struct fs) => fs.toList | _ => []) := by unfold Program.fieldsOf; rw [underlying67]
  rw [hl, underlying67]
  simp only
  rw [B8 (a := .int .u8 (a.kind.toNat : Int)) (b := .int .u8 (b.kind.toNat : Int)) (by decide) (B4 (isAgg5 w) rfl) (B4 (isAgg5 w) rfl) (run_equalIn_int w 9998 5 _ _ _ _ underlying5),
   B8 (a := .int .i64 a.int) (b := .int .i64 b.int) (by decide) (B4 (isAgg2 w) rfl) (B4 (isAgg2 w) rfl) (run_equalIn_int w 9998 2 _ _ _ _ underlying2),
   B8 (a := .bool a.bool) (b := .bool b.bool) (by decide) (B4 (isAgg4 w) rfl) (B4 (isAgg4 w) rfl) (run_equalIn_bool' w 9998 4 _ _ underlying4),
   B8 (a := str a.text) (b := str b.text) (by decide) (B4 (isAgg9 w) rfl) (B4 (isAgg9 w) rfl) (run_equalIn_string w 9998 9 _ _ underlying9)]
  have ht : ((⟨a.text.toArray⟩ : ByteArray).toList == (⟨b.text.toArray⟩ : ByteArray).toList) = decide (a.text = b.text) := by
   rw [ByteArray.toList_eq, ByteArray.toList_eq]
   by_cases h : a.text = b.text <;> simp [h]
  rw [ht]
  simp only [Op.eqFields, Sem.run_pure]
  unfold Vl.same
  by_cases h1 : (a.kind.toNat : Int) = b.kind.toNat <;> by_cases h2 : a.int = b.int <;> by_cases h3 : a.bool = b.bool <;> by_cases h4 : a.text = b.text <;> simp [h1, h2, h3, h4]
 unfold execOp
 simp only [ho, h1, h2, Sem.run_bind, hg, Result.andThen_ok, run_neq_struct, hrun]
 rfl
def Xn.sm (k : Nat) : Xn → Prop
 | .zero => True
 | .lit v => v.text.length ≤ k
 | .var s => s.length ≤ k
 | .un _ a => a.sm k
 | .bin _ a b => a.sm k ∧ b.sm k
theorem Xn.sm_vl {k : Nat} : ∀ {n : Xn}, n.sm k → n.vl.text.length ≤ k
 | .zero, _ => Nat.zero_le _
 | .lit _, h => h
 | .var _, _ => Nat.zero_le _
 | .un _ _, _ => Nat.zero_le _
 | .bin _ _ _, _ => Nat.zero_le _
theorem Xn.sm_nm {k : Nat} : ∀ {n : Xn}, n.sm k → n.nm.length ≤ k
 | .zero, _ => Nat.zero_le _
 | .lit _, _ => Nat.zero_le _
 | .var _, h => h
 | .un _ _, _ => Nat.zero_le _
 | .bin _ _ _, _ => Nat.zero_le _
theorem qO {m : Nat} : ∀ (l b : List UInt8) {b' : List UInt8} {n : Nat}, l.length ≤ m → qt b l = some (b', n) → b'.length ≤ b.length + l.length := by
 induction m with
 | zero =>
  intro l b b' n hl h
  cases l with
  | nil => cases h
  | cons c r => simp at hl
 | succ m ih =>
  intro l b b' n hl h
  match l, h with
  | [c], h =>
   by_cases hc : (c.toNat : Int) = 39
   ·rw [show qt b [c] = if (c.toNat : Int) = 39 then some (b, 0) else none from rfl, if_pos hc] at h
    cases h; simp
   ·rw [show qt b [c] = if (c.toNat : Int) = 39 then some (b, 0) else none from rfl, if_neg hc] at h
    cases h
  | c :: d :: r, h =>
   simp only [List.length_cons] at hl
   by_cases hc : (c.toNat : Int) = 39
   ·by_cases hd : (d.toNat : Int) = 39
    ·rw [qt, if_pos hc, if_pos hd] at h
     have := ih r (b ++ [d]) (by omega) h
     simp only [List.length_append, List.length_cons, List.length_nil] at this ⊢; omega
    ·rw [qt, if_pos hc, if_neg hd] at h
     cases h; simp
   ·rw [qt, if_neg hc] at h
    have := ih (d :: r) (b ++ [c]) (by simp only [List.length_cons]; omega) h
    simp only [List.length_append, List.length_cons, List.length_nil] at this ⊢; omega
theorem fV {k : Nat} {l : List UInt8} {x : Lx} (hl : l.length ≤ k) (h : x.nd.sm k) : (GU l x).nd.sm k := by
 unfold GU
 split
 ·rename_i b n hq
  split
  ·have := qO (m := l.tail.length) l.tail [] (Nat.le_refl _) hq
   simp only [List.length_tail, List.length_nil] at this
   show b.length ≤ k
   omega
  ·rw [DO]; exact h
 ·rw [DO]; exact h
theorem nJ {k : Nat} {t : List UInt8} {x : Lx} (h : x.nd.sm k) : (GA t x).nd.sm k := by
 unfold GA
 split
 ·rw [DO]; exact h
 ·split <;> exact Nat.zero_le _
theorem fH {k : Nat} {t : List UInt8} {x : Lx} (hl : t.length ≤ k) (h : x.nd.sm k) : (E8 t x).nd.sm k := by
 unfold E8
 repeat' split
 all_goals first
  | exact Nat.zero_le _
  | exact h
  | (rw [DO]; exact h)
  | exact hl
theorem iS {s r : List UInt8} {x : Lx} (hr : r.length ≤ s.length) : (GY s r x).nd.sm s.length := by
 unfold GY
 split
 ·trivial
 ·split
  ·exact nJ (x := ⟨_, .zero, _, _, _, _, _⟩) trivial
  ·split
   ·exact fH (x := ⟨_, .zero, _, _, _, _, _⟩) (by rw [List.length_take]; omega) trivial
   ·split
    ·exact fV (x := ⟨_, .zero, _, _, _, _, _⟩) hr trivial
    ·split
     ·show (Lx.fail _ _ _).nd.sm s.length
      rw [DO]; trivial
     ·trivial
theorem I8 {s : List UInt8} {x : Lx} : (B6 s x).nd.sm s.length := iS (J9 _ _)
def FrS (s : List UInt8) (fr : Nat → Lx → Xn × Lx) : Prop := ∀ (line : Nat) (x : Lx), x.nd.sm s.length → (fr line x).1.sm s.length ∧ (fr line x).2.nd.sm s.length
section
variable {s : List UInt8} {fr : Nat → Lx → Xn × Lx}
theorem jW (h : FrS s fr) {line : Nat} {x : Lx} (hx : x.nd.sm s.length) : (D7 s fr line x).1.sm s.length ∧ (D7 s fr line x).2.nd.sm s.length := by
 unfold D7
 split
 ·exact h _ _ I8
 ·split
  ·exact h _ _ I8
  ·split
   ·exact ⟨(h _ _ I8).1, I8⟩
   ·exact ⟨hx, I8⟩
theorem aM (h : FrS s fr) (line : Nat) : ∀ (k : Nat) (n : Xn) (x : Lx), n.sm s.length → x.nd.sm s.length → (F9 s fr k line n x).1.sm s.length ∧ (F9 s fr k line n x).2.nd.sm s.length
 | 0, _, _, hn, hx => ⟨hn, hx⟩
 | k + 1, n, x, hn, hx => by
  unfold F9
  split
  ·exact ⟨hn, hx⟩
  ·split
   ·exact ⟨hn, hx⟩
   ·have h1 := h (P6 x.say + 1) (B6 s x) I8
    refine aM h line k _ _ ⟨hn, h1.1⟩ ?_
    unfold K0
    simp only
    split
    ·rw [DO]; exact h1.2
    ·exact h1.2
theorem UN (s : List UInt8) : ∀ f : Nat, FrS s (CF s f)
 | 0 => fun _ _ hx => ⟨trivial, hx⟩
 | f + 1 => fun line x hx => by
  unfold CF
  split
  ·exact ⟨trivial, hx⟩
  ·have h1 := jW (UN s f) (line := line) hx
   exact aM (UN s f) line f _ _ h1.1 h1.2
end
theorem dA (s : List UInt8) : (C8 s).1.sm s.length := by
 unfold C8
 split
 ·trivial
 ·simp only
  repeat' split
  all_goals first
   | exact (UN s 258 1 _ I8).1
   | trivial
def Xn.kids : Xn → List Xn
 | .un _ a => [a]
 | .bin _ a b => [a, b]
 | _ => []
theorem Xn.ind {C : Xn → Prop} (h : ∀ n : Xn, (∀ a ∈ n.kids, C a) → C n) : ∀ n : Xn, C n
 | .zero => h _ (fun _ hh => by cases hh)
 | .lit _ => h _ (fun _ hh => by cases hh)
 | .var _ => h _ (fun _ hh => by cases hh)
 | .un o a =>
  have ha := Xn.ind h a
  h (.un o a) (fun x hx => by simp only [Xn.kids, List.mem_singleton] at hx; subst hx; exact ha)
 | .bin o a b =>
  have ha := Xn.ind h a
  have hb := Xn.ind h b
  h (.bin o a b) (fun x hx => by
   simp only [Xn.kids, List.mem_cons, List.not_mem_nil, or_false] at hx
   rcases hx with rfl | rfl
   ·exact ha
   ·exact hb)
theorem Xn.sm_kid {k : Nat} : ∀ {n a : Xn}, n.sm k → a ∈ n.kids → a.sm k
 | .un _ _, _, h, hx => by simp only [Xn.kids, List.mem_singleton] at hx; subst hx; exact h
 | .bin _ _ _, _, h, hx => by
  simp only [Xn.kids, List.mem_cons, List.not_mem_nil, or_false] at hx
  rcases hx with rfl | rfl
  ·exact h.1
  ·exact h.2
def ndC (q : Xn × Option Addr) : List Value := q.1.cells q.2
theorem nS (q : Xn × Option Addr) : (ndC q).length = 7 := rfl
theorem Xn.AtL.kids {t : TypeId} {w : World} : ∀ {n : Xn} {A : Option Addr} {F : List Nat}, n.AtL t w A F → ∃ L : List (Xn × Option Addr), L.map Prod.fst = n.kids ∧ L.length = n.nk ∧ Rd w A (L.length * 7) (AR ndC L) ∧ ∀ q ∈ L, ∃ F', q.1.AtL t w q.2 F'
 | .zero, _, _, h => ⟨[], rfl, rfl, by rw [h.1]; exact Rd.nil, fun _ hh => by cases hh⟩
 | .lit _, _, _, h => ⟨[], rfl, rfl, by rw [h.1]; exact Rd.nil, fun _ hh => by cases hh⟩
 | .var _, _, _, h => ⟨[], rfl, rfl, by rw [h.1]; exact Rd.nil, fun _ hh => by cases hh⟩
 | .un _ a, _, _, ⟨g, B, F', h1, _, h3, h4⟩ => ⟨[(a, B)], rfl, rfl, by rw [h1]; exact Rd.ofBlk h3 rfl, fun q hq => by
  simp only [List.mem_singleton] at hq; subst hq; exact ⟨_, h4⟩⟩
 | .bin _ a b, _, _, ⟨g, B, C, F', F'', h1, _, h3, h4, h5⟩ => ⟨[(a, B), (b, C)], rfl, rfl, by rw [h1]; exact Rd.ofBlk h3 rfl, fun q hq => by
  simp only [List.mem_cons, List.not_mem_nil, or_false] at hq
  rcases hq with rfl | rfl
  ·exact ⟨_, h4⟩
  ·exact ⟨_, h5⟩⟩
theorem Xn.AtL.fr0 {t : TypeId} {w w' : World} {n : Xn} {A : Option Addr} {F : List Nat} (h : n.AtL t w A F) (hf : Fr0 w w') : n.AtL t w' A F := h.keep (fun g _ hg => hf.block g hg (fun hh => hh))
theorem Xn.nk_le (n : Xn) : n.nk ≤ 2 := by cases n <;> simp [Xn.nk]
theorem EX {w w' : World} {L : List (Nat × List Value)} (h : Laid w L) (hf : Fr0 w w') : Laid w' L := fun p hp => by
 obtain ⟨el, fz, h1⟩ := h p hp
 exact ⟨el, fz, (hf.block _ (Array.getElem?_eq_some_iff.1 h1).1 (fun hh => hh)).trans h1⟩
def HC (b : UInt8) : List Value := [.int .u8 (b.toNat : Int)]
theorem TL (b : UInt8) : (HC b).length = 1 := rfl
end
end Go.Proofs.YtadgfojhjnkliaaGreatDoor
