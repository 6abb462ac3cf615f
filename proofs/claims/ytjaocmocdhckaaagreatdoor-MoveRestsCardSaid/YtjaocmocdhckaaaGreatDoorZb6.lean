/- Lemmas that the last text rests on. Condition: each says its own. -/
import Derived.Test.YtjaocmocdhckaaaGreatDoorZb5
set_option maxHeartbeats 16000000
set_option maxRecDepth 100000
namespace Go.Proofs.YtjaocmocdhckaaaGreatDoor
open Go.RowKit
open Tryz
section
section
variable {P : Program} {ops : Array Oper} {Q : Exit → Act → World → Prop} {S : World → Prop} {t n f : Nat} {listed : Array Bool} {e : Env} {w : World}
theorem sC {o : Oper} {d : Nat} {v : Value} (i : Nat) (hr : Region.ready .any ops listed = [i]) (ho : ops[i]? = some o) (hw : Wn ops e o) (hd : o.dst = some d) (hn : Nat.blt d n = true) (hy : Y P e o w v) (hS : i < t → S w)
 (k : SxO P ops Q t S n f (listed.setIfInBounds i true) ((d, v) :: e) w) : SxO P ops Q t S n (f + 1) listed e w :=
 BB i (some d) hr ho hw hd hn (R := fun u w' => u = v ∧ w' = w) (fun ρ hρ => ⟨v, w, .inl (hy ρ hρ), rfl, rfl⟩) fun u w' ⟨h1, h2⟩ => by subst h1; subst h2; exact ⟨hS, k⟩
end
theorem Mem.bin {w0 w : World} {S : Nat → Prop} {L : List As} {t g : Nat} {op : UInt8} {a b : Xn} {B C : Option Addr} {F F' : List Nat} (M : Mem w0 S (As.blk g t (a.cells B ++ b.cells C) :: As.xn t a B F :: As.xn t b C F' :: L) w) : Mem w0 S (As.xn t (.bin op a b) (some ⟨g, 0, none⟩) (g :: (F ++ F')) :: L) w := by
 have get : ∀ (i : Nat) (c : As), L[i]? = some c → (As.blk g t (a.cells B ++ b.cells C) :: As.xn t a B F :: As.xn t b C F' :: L)[i + 3]? = some c := fun i c h => h
 have fp : ∀ k, k ∈ (As.xn t (.bin op a b) (some ⟨g, 0, none⟩) (g :: (F ++ F'))).fp → ∃ (i : Nat) (c : As), i < 3 ∧ (As.blk g t (a.cells B ++ b.cells C) :: As.xn t a B F :: As.xn t b C F' :: L)[i]? = some c ∧ k ∈ c.fp := fun k hk => by
  rcases List.mem_cons.1 (show k ∈ g :: (F ++ F') from hk) with rfl | hk
  ·exact ⟨0, _, by decide, rfl, by simp [As.blk]⟩
  ·rcases List.mem_append.1 hk with hk | hk
   ·exact ⟨1, _, by decide, rfl, hk⟩
   ·exact ⟨2, _, by decide, rfl, hk⟩
 refine ⟨M.fr, ?_, ?_, ?_⟩
 ·intro i c hi
  cases i with
  | zero =>
   simp only [List.getElem?_cons_zero, Option.some.injEq] at hi; subst hi
   exact ⟨g, B, C, F, F', rfl, rfl, M.blk 0 rfl, M.ok 1 _ rfl, M.ok 2 _ rfl⟩
  | succ i => exact M.ok (i + 3) c (get i c (by simpa using hi))
 ·intro i c hi k hk
  cases i with
  | zero =>
   simp only [List.getElem?_cons_zero, Option.some.injEq] at hi; subst hi
   obtain ⟨j, d, _, h1, h2⟩ := fp k hk
   exact M.lt j d h1 k h2
  | succ i => exact M.lt (i + 3) c (get i c (by simpa using hi)) k hk
 ·intro i j c d hi hj hne k hk hk'
  cases i with
  | zero =>
   cases j with
   | zero => exact hne rfl
   | succ j =>
    simp only [List.getElem?_cons_zero, Option.some.injEq] at hi; subst hi
    obtain ⟨q, d', hq, h1, h2⟩ := fp k hk
    exact M.apart q (j + 3) d' d h1 (get j d (by simpa using hj)) (by omega) k h2 hk'
  | succ i =>
   cases j with
   | zero =>
    simp only [List.getElem?_cons_zero, Option.some.injEq] at hj; subst hj
    obtain ⟨q, d', hq, h1, h2⟩ := fp k hk'
    exact M.apart (i + 3) q c d' (get i c (by simpa using hi)) h1 (by omega) k hk h2
   | succ j => exact M.apart (i + 3) (j + 3) c d (get i c (by simpa using hi)) (get j d (by simpa using hj)) (by omega) k hk hk'
theorem ZR {s : List UInt8} {x : Lx} (h : LxI s x) (he : x.e = 0) : 0 < lxM s x := by
 have := h.at_; have := h.tat
 unfold lxM; rw [if_pos he]; omega
theorem gT (k : List UInt8) : ((AW k).getD (0, 0)).2 ≤ 6 := mN k
theorem nY {s : List UInt8} {f line : Nat} {x : Lx} (h : ¬ x.e = 0) : D5 s (f + 1) line x = (.zero, x) := by rw [D5, if_pos h]
theorem j9 {s : List UInt8} {f line : Nat} {x : Lx} {fr : Nat → Lx → Xn × Lx} (h : x.e = 0) (hfr : fr = D5 s (f + 1)) : D5 s (f + 1 + 1) line x = GV s fr (f + 1) line (EA s fr line x).1 (EA s fr line x).2 := by
 subst hfr
 rw [D5, if_neg (fun z => z h)]
section
variable {s : List UInt8} {fr : Nat → Lx → Xn × Lx} {line k : Nat} {n : Xn} {y : Lx}
theorem cL (h : ¬ y.e = 0) : GV s fr k line n y = (n, y) := by
 cases k with
 | zero => rfl
 | succ k => rw [GV, if_pos h]
theorem bN (h : ((!(AW y.say).isSome) || (decide (((((AW y.say).getD (0, 0)).2 : Nat) : Int) < ((line : Nat) : Int)))) = false) : ¬ y.say = [] := W3 fun z => by
 have := BQ (CP h).1
 cases hs : AW y.say with
 | none => rw [hs] at this; cases this
 | some v => rw [hs] at z; cases z
theorem YG (he : y.e = 0) (h : ((!(AW y.say).isSome) || (decide (((((AW y.say).getD (0, 0)).2 : Nat) : Int) < ((line : Nat) : Int)))) = true) : GV s fr (k + 1) line n y = (n, y) := by
 rw [GV, if_neg (fun z => z he), if_pos]
 rcases EO h with h | h
 ·left
  have := CK h
  cases hs : AW y.say with
  | none => rfl
  | some v => rw [hs] at this; cases this
 ·right
  have := odt h
  unfold QI; omega
theorem RT (he : y.e = 0) (h : ((!(AW y.say).isSome) || (decide (((((AW y.say).getD (0, 0)).2 : Nat) : Int) < ((line : Nat) : Int)))) = false) : GV s fr (k + 1) line n y = GV s fr k line (.bin ((AW y.say).getD (0, 0)).1 n (LU s fr y).1) (LU s fr y).2 := by
 rw [GV, if_neg (fun z => z he), if_neg]
 intro z
 rcases z with z | z
 ·have := BQ (CP h).1
  cases hs : AW y.say with
  | none => rw [hs] at this; cases this
  | some v => rw [hs] at z; cases z
 ·have := odf (CP h).2
  unfold QI at z; omega
theorem cM (he : y.e = 0) (h : ((!(AW y.say).isSome) || (decide (((((AW y.say).getD (0, 0)).2 : Nat) : Int) < ((line : Nat) : Int)))) = false)
 (h2 : ((decide (((((AW y.say).getD (0, 0)).2 : Nat) : Int) = (4 : Int))) && (decide (((((AW (fr (((AW y.say).getD (0, 0)).2 + 1) (BJ s y)).2.say).getD (0, 0)).2 : Nat) : Int) = (4 : Int)))) = true) : GV s fr (k + 1) line n y = GV s fr k line (.bin ((AW y.say).getD (0, 0)).1 n (fr (((AW y.say).getD (0, 0)).2 + 1) (BJ s y)).1) ((fr (((AW y.say).getD (0, 0)).2 + 1) (BJ s y)).2.fail 4 (fr (((AW y.say).getD (0, 0)).2 + 1) (BJ s y)).2.tat) := by
 rw [RT he h]
 have h3 := odt (CL h2).1
 have h4 := odt (CL h2).2
 unfold LU QI
 simp only
 rw [if_pos ⟨by omega, by omega⟩]
theorem iK (he : y.e = 0) (h : ((!(AW y.say).isSome) || (decide (((((AW y.say).getD (0, 0)).2 : Nat) : Int) < ((line : Nat) : Int)))) = false)
 (h2 : ((decide (((((AW y.say).getD (0, 0)).2 : Nat) : Int) = (4 : Int))) && (decide (((((AW (fr (((AW y.say).getD (0, 0)).2 + 1) (BJ s y)).2.say).getD (0, 0)).2 : Nat) : Int) = (4 : Int)))) = false) : GV s fr (k + 1) line n y = GV s fr k line (.bin ((AW y.say).getD (0, 0)).1 n (fr (((AW y.say).getD (0, 0)).2 + 1) (BJ s y)).1) (fr (((AW y.say).getD (0, 0)).2 + 1) (BJ s y)).2 := by
 rw [RT he h]
 have h3 := (DT h2).imp odf odf
 unfold LU QI
 simp only
 rw [if_neg (by omega)]
end
theorem IZ  : prog.built 75 [] = some #[.int .u8 0, .int .u8 0, .int .i64 0, .bool false, str [], str [], .slice none 0 0] := by kernel_rfl
theorem WC {s : List UInt8} {gx c5 c6 c7 c8 c9 c10 : Nat} {f : Nat} (h : ∀ f', f = f' + 1 → FromOK s gx c5 c6 c7 c8 c9 c10 f' (D5 s (f' + 1))) (line : Nat) (hl : line ≤ 7) (x : Lx) (w : World) (hb : Blk w gx 110 (Lx.cells s x)) (hx : LxI s x) (hm : lxM s x ≤ f) (hE : PE s w gx c5 c6 c7 c8 c9 c10) (hY : Lay0 w) :
 Calls prog 57 #[.int .i64 (line : Int), .pointer (some ⟨c5, 0, none⟩), .pointer (some ⟨c10, 0, none⟩), .pointer (some ⟨c6, 0, none⟩)] w (U4 s gx w (D5 s (f + 1) line x)) := by
 have hGx : ∀ k, k = gx → nGlob ≤ k := fun _ e => e ▸ hE.g
 refine BE (vs := [_, _, _, _]) func57 rfl ntmps57 rfl ?_
 have M : Mem w (fun k => k = gx) [As.blk gx 110 (Lx.cells s x)] w := Mem.one hb
 refine srg (DJ M (AA rfl) rfl rfl 75 rfl [.int .u8 0, .int .u8 0, .int .i64 0, .bool false, str [], str [], .slice none 0 0] DD rfl fun g5 w1 hg5 M => nq (AF (srg (yl rfl rfl (Blk.c ((hE.fr M.fr).b5) 0 rfl) (yb rfl (yb rfl (yl rfl rfl (M.cell 1 rfl rfl) (ya rfl (E4 rfl rfl rfl) (nq ?_)))))))))
 refine AL (b := (!decide (x.e = (0 : Int)))) rfl (fun h14 => ?_) (fun h14 => ?_)
 ·have h14p := (odf (CK h14))
  refine srg (ya rfl (BA (parts := []) rfl rfl (IZ)) (D7 (cs' := [.int .u8 0, .int .u8 0, .int .i64 0, .bool false, str [], str [], .slice none 0 0]) M 0 (AA rfl) rfl rfl rfl rfl rfl AZ rfl (BS rfl) (BP rfl) rfl fun w2 M => nq (BN (AB (FB rfl rfl (M.rdBlk 0 rfl rfl) underlying75 rfl AZ ?_)))))
  rw [nY h14p]
  exact ⟨none, [], rfl, ⟨rfl, rfl⟩, (fun k hk => absurd hk (by simp)), M.blk 1 rfl, M.fr⟩
 ·have h14p := (odt (BQ h14))
  obtain ⟨f', rfl⟩ : ∃ f', f = f' + 1 := ⟨f - 1, by have := ZR hx h14p; omega⟩
  have hF := h f' rfl
  obtain ⟨fr, hfr⟩ : ∃ fr, fr = D5 s (f' + 1) := ⟨_, rfl⟩
  rw [← hfr] at hF
  refine AI (AD (srg (yl rfl rfl (Blk.c ((hE.fr M.fr).b10) 0 rfl) (yb rfl (B3 (some 18) (AA rfl) rfl rfl (BX rfl rfl rfl call56) (bY hF line (by omega) x _ (M.blk 1 rfl) hx h14p (by omega) (hE.fr M.fr) (hY.fr M.fr hGx)) ?_)))))
  rintro _ w3 ⟨A18, F18, rfl, hat18, hnw18, hbw3, hfw3⟩
  have M := M.putPush 1 rfl hbw3 hfw3 (As.xn 75 (EA s fr line x).1 A18 F18) hat18 hnw18
  have hI18 := (UZ hF.I hx h14p (by omega) line).1
  refine ⟨_, rfl, ?_⟩
  have hm18 := (UZ hF.I hx h14p (by omega) line).2
  have hfp := j9 (line := line) h14p hfr
  refine DJ M (AA rfl) rfl rfl 75 rfl [.int .u8 0, .int .u8 0, .int .i64 0, .bool false, str [], str [], .slice none 0 0] DD rfl fun g6 w4 hg6 M => D7 (cs' := (Xn.cells ((EA s fr line x).1) A18)) M 0 (AA rfl) rfl rfl rfl rfl rfl AZ rfl (BS rfl) (BP rfl) rfl fun w5 M => nq (AF (AS (G0 (fun e wr mz => ∃ (n : Xn) (A : Option Addr) (F : List Nat) (y : Lx) (k : Nat), e = [(0, .int .i64 ((line : Nat) : Int)), (1, .pointer (some ⟨c5, 0, none⟩)), (3, .pointer (some ⟨c6, 0, none⟩)), (5, .pointer (some ⟨g5, 0, none⟩)), (6, .pointer (some ⟨g6, 0, none⟩))] ∧ Mem w (fun k => k = gx) [As.blk g6 75 (Xn.cells n A), As.xn 75 n A F, As.blk g5 75 [.int .u8 0, .int .u8 0, .int .i64 0, .bool false, str [], str [], .slice none 0 0], As.blk gx 110 (Lx.cells s y)] wr ∧ (LxI s y) ∧ (lxM s y ≤ k ∧ k ≤ f' + 1) ∧ (D5 s (f' + 1 + 1) line x = GV s fr k line n y) ∧ mz = 2 * k) ⟨(EA s fr line x).1, A18, F18, (EA s fr line x).2, (f' + 1), rfl, M, hI18, ⟨by omega, Nat.le_refl _⟩, hfp, rfl⟩ ⟨rfl, rfl, rfl, rfl, rfl, trivial⟩ ?_)))
  rintro _ w6 _ ⟨n, A, F, y, k, rfl, M, hyI, hk, heq, rfl⟩
  refine AF (srg (yl rfl rfl (Blk.c ((hE.fr M.fr).b5) 0 rfl) (yb rfl (yb rfl (yl rfl rfl (M.cell 3 rfl rfl) (ya rfl (BZ rfl rfl rfl) (nq (AL (b := (decide (y.e = (0 : Int)))) rfl (fun h23 => ?_) (fun h23 => ?_)))))))))
  ·have h23p := (odt h23)
   obtain ⟨j, rfl⟩ : ∃ j, k = j + 1 := ⟨k - 1, by have := ZR hyI h23p; omega⟩
   refine AI (AD (AS (AF (OD (fun (g7 : Nat) (g25 : Nat) => [(0, .int .i64 ((line : Nat) : Int)), (1, .pointer (some ⟨c5, 0, none⟩)), (3, .pointer (some ⟨c6, 0, none⟩)), (5, .pointer (some ⟨g5, 0, none⟩)), (6, .pointer (some ⟨g6, 0, none⟩)), (7, .pointer (some ⟨g7, 0, none⟩)), (8, .bool ((AW y.say).isSome))]) (fun (g7 : Nat) (g25 : Nat) => fun w' => Mem w (fun k => k = gx) [As.blk g7 116 [.int .u8 (((AW y.say).getD (0, 0)).1.toNat : Int), .int .i64 ((((AW y.say).getD (0, 0)).2 : Nat) : Int)], As.mp g25 E5, As.blk g6 75 (Xn.cells n A), As.xn 75 n A F, As.blk g5 75 [.int .u8 0, .int .u8 0, .int .i64 0, .bool false, str [], str [], .slice none 0 0], As.blk gx 110 (Lx.cells s y)] w') ?_ (fun kr5 => ?_)))))
   ·intro g7 g25 w7 M
    refine AD (AF (srg (yb rfl (yb rfl (yb rfl (DI 5 [(0, .int .i64 ((line : Nat) : Int)), (1, .pointer (some ⟨c5, 0, none⟩)), (3, .pointer (some ⟨c6, 0, none⟩)), (5, .pointer (some ⟨g5, 0, none⟩)), (6, .pointer (some ⟨g6, 0, none⟩)), (7, .pointer (some ⟨g7, 0, none⟩)), (41, .bool ((!(AW y.say).isSome) || (decide (((((AW y.say).getD (0, 0)).2 : Nat) : Int) < ((line : Nat) : Int)))))] (fun w' => Mem w (fun k => k = gx) [As.blk g7 116 [.int .u8 (((AW y.say).getD (0, 0)).1.toNat : Int), .int .i64 ((((AW y.say).getD (0, 0)).2 : Nat) : Int)], As.mp g25 E5, As.blk g6 75 (Xn.cells n A), As.xn 75 n A F, As.blk g5 75 [.int .u8 0, .int .u8 0, .int .i64 0, .bool false, str [], str [], .slice none 0 0], As.blk gx 110 (Lx.cells s y)] w') ?_ (fun k36 => ?_)))))))
    ·intro w8 M
     refine nq (AL (b := ((!(AW y.say).isSome) || (decide (((((AW y.say).getD (0, 0)).2 : Nat) : Int) < ((line : Nat) : Int))))) rfl (fun h41 => ?_) (fun h41 => ?_))
     ·have h41p := ((EO h41).imp (fun z => (CK z)) (fun z => (odt z)))
      refine srg (ya rfl (AU (xs := Xn.cells n A) rfl rfl (M.rdBlk 2 rfl rfl) underlying75 rfl AZ) (D7 (cs' := (Xn.cells n A)) M 4 (AA rfl) rfl rfl rfl rfl rfl AZ rfl (BS rfl) (BP rfl) rfl fun w9 M => nq (BN (AB (AN (AB (AN (AB (FB rfl rfl (M.rdBlk 4 rfl rfl) underlying75 rfl AZ ?_)))))))))
      rw [heq.trans (YG h23p h41)]
      exact ⟨_, _, rfl, M.ok 3 _ rfl, M.newOf 3 5 rfl rfl (by decide), M.blk 5 rfl, M.fr⟩
     ·have h41p := (And.intro (BQ (CP h41).1) (odf (CP h41).2))
      have hpr := gT y.say
      have hst := KD hyI h23p (bN h41)
      refine AI (AD (srg (yl rfl rfl (Blk.c ((hE.fr M.fr).b5) 0 rfl) (B3 (some 44) (AA rfl) rfl rfl (AP rfl rfl call51) (HL s y _ _ (M.blk 5 rfl) hyI.at_ hE.len (hY.fr M.fr hGx) hE.g) ?_))))
      rintro _ w10 ⟨rfl, hbw10, hfw10⟩
      have M := M.putB 5 rfl hbw10 hfw10
      refine ⟨_, rfl, nq (AF (CV 10 (fun w' => Mem w (fun k => k = gx) [As.blk g7 116 [.int .u8 (((AW y.say).getD (0, 0)).1.toNat : Int), .int .i64 ((((AW y.say).getD (0, 0)).2 : Nat) : Int)], As.mp g25 E5, As.blk g6 75 (Xn.cells n A), As.xn 75 n A F, As.blk g5 75 [.int .u8 0, .int .u8 0, .int .i64 0, .bool false, str [], str [], .slice none 0 0]] w') CZ ?_))⟩
      have M := M.drew
      refine oc 0 10 rfl rfl (M.pick [0, 1, 2, 3, 4] (by decide)) (ol 1 10 rfl rfl rfl (M.pick [0, 1, 2, 3, 4] (by decide)) (fun _ M => (M.cell 0 rfl rfl)) (oa 2 10 rfl rfl (M.pick [0, 1, 2, 3, 4] (by decide)) (fun _ M => AU (xs := Xn.cells n A) rfl rfl (M.rdBlk 2 rfl rfl) underlying75 rfl AZ) (ol 3 10 rfl rfl rfl (M.pick [0, 1, 2, 3, 4] (by decide)) (fun _ M => (Blk.c ((hE.fr M.fr).b6) 0 rfl)) (oc 4 10 rfl rfl (M.pick [0, 1, 2, 3, 4] (by decide)) (ol 5 10 rfl rfl rfl (M.pick [0, 1, 2, 3, 4] (by decide)) (fun _ M => (M.cell 0 rfl rfl)) (oa 6 10 rfl rfl (M.pick [0, 1, 2, 3, 4] (by decide)) (fun _ M => BO rfl rfl rfl (by omega)) (C7 7 (some 52) (by kernel_rfl) rfl (AA rfl) rfl rfl (BX rfl rfl rfl call57) (hF.call ((((AW y.say).getD (0, 0)).2) + 1) (BJ s y) _ (by omega) (M.blk 5 rfl) EW (by omega) (hE.fr M.fr) (hY.fr M.fr hGx)) ?_)))))))
      rintro _ w11 ⟨A52, F52, rfl, hat52, hnw52, hbw11, hfw11⟩
      have M := M.putPush 5 rfl hbw11 hfw11 (As.xn 75 (fr ((((AW y.say).getD (0, 0)).2) + 1) (BJ s y)).1 A52 F52) hat52 hnw52
      have hI52 := hF.I.I ((((AW y.say).getD (0, 0)).2) + 1) (BJ s y) EW (by omega)
      refine ⟨_, rfl, fun _ => (M.pick [1, 2, 3, 4, 5] (by decide)), ?_⟩
      have hm52 := hF.I.m ((((AW y.say).getD (0, 0)).2) + 1) (BJ s y) EW (by omega)
      refine BB 8 (some 53) (by kernel_rfl) rfl (AA rfl) rfl rfl (fun ρ hρ => DR [.agg (Xn.cells n A).toArray, .agg (Xn.cells ((fr ((((AW y.say).getD (0, 0)).2) + 1) (BJ s y)).1) A52).toArray] _ hρ rfl rfl rfl rfl underlying73 NB (by decide) (by decide) (by intro v hv; simp only [List.mem_cons, List.not_mem_nil, or_false] at hv; rcases hv with rfl | rfl <;> rfl)) ?_
      rintro _ w12 ⟨g53, rfl, hg53, hq53, hb53, hfw12⟩
      replace hb53 : Blk w12 g53 75 ((Xn.cells n A) ++ (Xn.cells ((fr ((((AW y.say).getD (0, 0)).2) + 1) (BJ s y)).1) A52)) := hb53
      refine ⟨fun _ => (M.pick [1, 2, 3, 4, 5] (by decide)).step hfw12, ?_⟩
      have M := M.push hfw12 _ hb53 (EB hg53 hq53)
      replace M : Mem w (fun k => k = gx) (As.blk g53 75 ((Xn.cells n A) ++ (Xn.cells ((fr ((((AW y.say).getD (0, 0)).2) + 1) (BJ s y)).1) A52)) :: _) w12 := M
      refine oa 9 10 rfl rfl (M.pick [2, 3, 4, 5, 6] (by decide)) (fun _ M => BA (parts := [(0, _), (3, _)]) rfl rfl (KJ _ _ _ _)) (BB 10 none (by kernel_rfl) rfl (AA rfl) rfl rfl (fun ρ hρ => C2 75 _ _ rfl g6 0 75 _ ([.int .u8 (((AW y.say).getD (0, 0)).1.toNat : Int), .int .u8 0, .int .i64 0, .bool false, str [], str [], .slice (some ⟨g53, 0, none⟩) 2 2]) (hρ _ _ rfl) (hρ _ _ rfl) (M.blk 4 rfl) AZ (BS rfl) (BP rfl)) ?_)
      rintro _ w13 ⟨rfl, hbw13, hfw13⟩
      replace M : Mem w (fun k => k = gx) (List.set _ 4 (As.blk g6 75 [.int .u8 (((AW y.say).getD (0, 0)).1.toNat : Int), .int .u8 0, .int .i64 0, .bool false, str [], str [], .slice (some ⟨g53, 0, none⟩) 2 2])) w13 := M.putB 4 rfl hbw13 hfw13
      refine ⟨fun h => absurd h (by decide), EQ (by kernel_rfl) (AD (AF (OD (fun (g9 : Nat) (g55 : Nat) => [(0, .int .i64 ((line : Nat) : Int)), (1, .pointer (some ⟨c5, 0, none⟩)), (3, .pointer (some ⟨c6, 0, none⟩)), (5, .pointer (some ⟨g5, 0, none⟩)), (6, .pointer (some ⟨g6, 0, none⟩)), (7, .pointer (some ⟨g7, 0, none⟩)), (9, .pointer (some ⟨g9, 0, none⟩))]) (fun (g9 : Nat) (g55 : Nat) => fun w' => Mem w (fun k => k = gx) [As.blk g9 116 [.int .u8 (((AW ((fr ((((AW y.say).getD (0, 0)).2) + 1) (BJ s y)).2.say)).getD (0, 0)).1.toNat : Int), .int .i64 ((((AW ((fr ((((AW y.say).getD (0, 0)).2) + 1) (BJ s y)).2.say)).getD (0, 0)).2 : Nat) : Int)], As.mp g55 E5, As.blk g53 75 ((Xn.cells n A) ++ (Xn.cells ((fr ((((AW y.say).getD (0, 0)).2) + 1) (BJ s y)).1) A52)), As.xn 75 ((fr ((((AW y.say).getD (0, 0)).2) + 1) (BJ s y)).1) A52 F52, As.blk g7 116 [.int .u8 (((AW y.say).getD (0, 0)).1.toNat : Int), .int .i64 ((((AW y.say).getD (0, 0)).2 : Nat) : Int)], As.mp g25 E5, As.blk g6 75 [.int .u8 (((AW y.say).getD (0, 0)).1.toNat : Int), .int .u8 0, .int .i64 0, .bool false, str [], str [], .slice (some ⟨g53, 0, none⟩) 2 2], As.xn 75 n A F, As.blk g5 75 [.int .u8 0, .int .u8 0, .int .i64 0, .bool false, str [], str [], .slice none 0 0], As.blk gx 110 (Lx.cells s ((fr ((((AW y.say).getD (0, 0)).2) + 1) (BJ s y)).2))] w') ?_ (fun kr10 => ?_))))⟩
      ·intro g9 g55 w14 M
       refine AD (srg (yb rfl (yl rfl rfl (M.cell 4 rfl rfl) (ya rfl (BZ rfl rfl rfl) (yb rfl (DI 4 [(0, .int .i64 ((line : Nat) : Int)), (1, .pointer (some ⟨c5, 0, none⟩)), (3, .pointer (some ⟨c6, 0, none⟩)), (5, .pointer (some ⟨g5, 0, none⟩)), (6, .pointer (some ⟨g6, 0, none⟩)), (69, .bool ((decide (((((AW y.say).getD (0, 0)).2 : Nat) : Int) = (4 : Int))) && (decide (((((AW ((fr ((((AW y.say).getD (0, 0)).2) + 1) (BJ s y)).2.say)).getD (0, 0)).2 : Nat) : Int) = (4 : Int)))))] (fun w' => Mem w (fun k => k = gx) [As.blk g9 116 [.int .u8 (((AW ((fr ((((AW y.say).getD (0, 0)).2) + 1) (BJ s y)).2.say)).getD (0, 0)).1.toNat : Int), .int .i64 ((((AW ((fr ((((AW y.say).getD (0, 0)).2) + 1) (BJ s y)).2.say)).getD (0, 0)).2 : Nat) : Int)], As.mp g55 E5, As.blk g53 75 ((Xn.cells n A) ++ (Xn.cells ((fr ((((AW y.say).getD (0, 0)).2) + 1) (BJ s y)).1) A52)), As.xn 75 ((fr ((((AW y.say).getD (0, 0)).2) + 1) (BJ s y)).1) A52 F52, As.blk g7 116 [.int .u8 (((AW y.say).getD (0, 0)).1.toNat : Int), .int .i64 ((((AW y.say).getD (0, 0)).2 : Nat) : Int)], As.mp g25 E5, As.blk g6 75 [.int .u8 (((AW y.say).getD (0, 0)).1.toNat : Int), .int .u8 0, .int .i64 0, .bool false, str [], str [], .slice (some ⟨g53, 0, none⟩) 2 2], As.xn 75 n A F, As.blk g5 75 [.int .u8 0, .int .u8 0, .int .i64 0, .bool false, str [], str [], .slice none 0 0], As.blk gx 110 (Lx.cells s ((fr ((((AW y.say).getD (0, 0)).2) + 1) (BJ s y)).2))] w') ?_ (fun k65 => ?_)))))))
       ·intro w15 M
        refine nq (AL (b := ((decide (((((AW y.say).getD (0, 0)).2 : Nat) : Int) = (4 : Int))) && (decide (((((AW ((fr ((((AW y.say).getD (0, 0)).2) + 1) (BJ s y)).2.say)).getD (0, 0)).2 : Nat) : Int) = (4 : Int))))) rfl (fun h69 => ?_) (fun h69 => ?_))
        ·have h69p := (And.intro (odt (CL h69).1) (odt (CL h69).2))
         refine DP 6 CZ (by kernel_rfl) ?_
         have M := M.drew
         refine sd rfl rfl (Blk.c ((hE.fr M.fr).b5) 0 rfl) (sd rfl rfl (Blk.c ((hE.fr M.fr).b5) 0 rfl) (sb rfl (sb rfl (sb rfl (sd rfl rfl (M.cell 9 rfl rfl) (CS (B3 (some 76) (AA rfl) rfl rfl (AP rfl rfl call54) (FT s ((fr ((((AW y.say).getD (0, 0)).2) + 1) (BJ s y)).2) _ _ _ _ (M.blk 9 rfl)) ?_)))))))
         rintro _ w16 ⟨rfl, hbw16, hfw16⟩
         have M := M.putB 9 rfl hbw16 hfw16
         refine ⟨_, rfl, AR (AE ?_)⟩
         have M := Mem.bin (op := ((AW y.say).getD (0, 0)).1) (M.pick [2, 7, 3, 6, 8, 9] (by decide))
         refine FH [(0, .int .i64 ((line : Nat) : Int)), (1, .pointer (some ⟨c5, 0, none⟩)), (3, .pointer (some ⟨c6, 0, none⟩)), (5, .pointer (some ⟨g5, 0, none⟩)), (6, .pointer (some ⟨g6, 0, none⟩))] (2 * j) ⟨(Xn.bin ((AW y.say).getD (0, 0)).1 n (fr (((AW y.say).getD (0, 0)).2 + 1) (BJ s y)).1), (some ⟨g53, 0, none⟩), (g53 :: (F ++ F52)), (((fr ((((AW y.say).getD (0, 0)).2) + 1) (BJ s y)).2).fail 4 ((fr ((((AW y.say).getD (0, 0)).2) + 1) (BJ s y)).2.tat)), j, rfl, (M.pick [1, 0, 2, 3] (by decide)), ?_, ?_, ?_, rfl⟩ (by first | omega | (simp only [List.length_append, List.length_cons, List.length_nil]; omega)) ⟨rfl, rfl, rfl, rfl, rfl, trivial⟩
         ·exact hI52.fail _ _
         ·rw [OW (by decide)]; exact ⟨Nat.zero_le _, by omega⟩
         ·exact heq.trans (cM h23p h41 h69)
        ·have h69p := ((DT h69).imp (fun z => (odf z)) (fun z => (odf z)))
         refine AI (AE ?_)
         have M := Mem.bin (op := ((AW y.say).getD (0, 0)).1) (M.pick [2, 7, 3, 6, 8, 9] (by decide))
         refine FH [(0, .int .i64 ((line : Nat) : Int)), (1, .pointer (some ⟨c5, 0, none⟩)), (3, .pointer (some ⟨c6, 0, none⟩)), (5, .pointer (some ⟨g5, 0, none⟩)), (6, .pointer (some ⟨g6, 0, none⟩))] (2 * j) ⟨(Xn.bin ((AW y.say).getD (0, 0)).1 n (fr (((AW y.say).getD (0, 0)).2 + 1) (BJ s y)).1), (some ⟨g53, 0, none⟩), (g53 :: (F ++ F52)), ((fr ((((AW y.say).getD (0, 0)).2) + 1) (BJ s y)).2), j, rfl, (M.pick [1, 0, 2, 3] (by decide)), ?_, ?_, ?_, rfl⟩ (by first | omega | (simp only [List.length_append, List.length_cons, List.length_nil]; omega)) ⟨rfl, rfl, rfl, rfl, rfl, trivial⟩
         ·exact hI52
         ·exact ⟨by omega, by omega⟩
         ·exact heq.trans (iK h23p h41 h69)
       refine AO (d := 65) (b := (decide (((((AW y.say).getD (0, 0)).2 : Nat) : Int) = (4 : Int)))) rfl (fun h65 => ?_) (fun h65 => ?_)
       ·exact yd rfl (yp rfl) (ym rfl rfl (M.cell 0 rfl rfl) (yd rfl (BZ rfl rfl rfl) (yb rfl (k65 _ _ M ⟨rfl, rfl, rfl, rfl, rfl, (by rw [h65]; rfl), trivial⟩))))
       ·exact yo rfl (yo rfl (yo rfl (yb rfl (k65 _ _ M ⟨rfl, rfl, rfl, rfl, rfl, (by rw [h65]; rfl), trivial⟩))))
      refine CV 9 (fun w' => Mem w (fun k => k = gx) [As.blk g53 75 ((Xn.cells n A) ++ (Xn.cells ((fr ((((AW y.say).getD (0, 0)).2) + 1) (BJ s y)).1) A52)), As.xn 75 ((fr ((((AW y.say).getD (0, 0)).2) + 1) (BJ s y)).1) A52 F52, As.blk g7 116 [.int .u8 (((AW y.say).getD (0, 0)).1.toNat : Int), .int .i64 ((((AW y.say).getD (0, 0)).2 : Nat) : Int)], As.mp g25 E5, As.blk g6 75 [.int .u8 (((AW y.say).getD (0, 0)).1.toNat : Int), .int .u8 0, .int .i64 0, .bool false, str [], str [], .slice (some ⟨g53, 0, none⟩) 2 2], As.xn 75 n A F, As.blk g5 75 [.int .u8 0, .int .u8 0, .int .i64 0, .bool false, str [], str [], .slice none 0 0], As.blk gx 110 (Lx.cells s ((fr ((((AW y.say).getD (0, 0)).2) + 1) (BJ s y)).2))] w') CZ ?_
      have M := M.drew
      refine ol 1 9 rfl rfl rfl M (fun _ M => (Blk.c ((hE.fr M.fr).b5) 0 rfl)) (oc 2 9 rfl rfl M (oc 3 9 rfl rfl M (oc 4 9 rfl rfl M (ol 5 9 rfl rfl rfl M (fun _ M => (M.cell 7 rfl rfl)) (GX (rs := [0, 7]) (by kernel_rfl) (by simp) fun iz hiz => ?_)))))
      simp only [List.mem_cons, List.not_mem_nil, or_false] at hiz
      rcases hiz with rfl | rfl
      ·refine JQ (some 55) rfl (AA rfl) rfl rfl (AP rfl rfl call58) (II _) ?_
       rintro _ w17 ⟨g55, rfl, hMw17, hgw17, hfw17⟩
       refine ⟨_, rfl, fun _ => M.step hfw17, ?_⟩
       have M := M.push hfw17 (As.mp g55 E5) hMw17 (M7 hgw17 hMw17.lt)
       refine GX (rs := [6, 7]) (by kernel_rfl) (by simp) fun iz hiz => ?_
       simp only [List.mem_cons, List.not_mem_nil, or_false] at hiz
       rcases hiz with rfl | rfl
       ·refine ET (some 61) rfl (AA rfl) rfl rfl (aF (BT rfl rfl rfl underlying118 underlying9 CD (M.mp 0 rfl) (FD _))) ?_
        rintro _ _ ⟨rfl, rfl⟩
        refine ⟨fun _ => (M.drop 1), BB 7 (some 9) (by kernel_rfl) rfl (AA rfl) rfl rfl (fun ρ hρ => D9 116 rfl _ [.int .u8 0, .int .i64 0] CD rfl) ?_⟩
        rintro _ w18 ⟨g9, rfl, hg9, hq9, hb9, hfw18⟩
        refine ⟨fun _ => (M.drop 1).step hfw18, ?_⟩
        have M := M.push hfw18 _ hb9 (EB hg9 hq9)
        replace M : Mem w (fun k => k = gx) (As.blk g9 116 [.int .u8 0, .int .i64 0] :: _) w18 := M
        refine BB 8 none (by kernel_rfl) rfl (AA rfl) rfl rfl (fun ρ hρ => C2 116 _ _ rfl g9 0 116 _ ([.int .u8 (((AW ((fr ((((AW y.say).getD (0, 0)).2) + 1) (BJ s y)).2.say)).getD (0, 0)).1.toNat : Int), .int .i64 ((((AW ((fr ((((AW y.say).getD (0, 0)).2) + 1) (BJ s y)).2.say)).getD (0, 0)).2 : Nat) : Int)]) (hρ _ _ rfl) (hρ _ _ rfl) (M.blk 0 rfl) E2 (BS rfl) (BP rfl)) ?_
        rintro _ w19 ⟨rfl, hbw19, hfw19⟩
        replace M : Mem w (fun k => k = gx) (List.set _ 0 (As.blk g9 116 [.int .u8 (((AW ((fr ((((AW y.say).getD (0, 0)).2) + 1) (BJ s y)).2.say)).getD (0, 0)).1.toNat : Int), .int .i64 ((((AW ((fr ((((AW y.say).getD (0, 0)).2) + 1) (BJ s y)).2.say)).getD (0, 0)).2 : Nat) : Int)])) w19 := M.putB 0 rfl hbw19 hfw19
        exact ⟨fun _ => M.drop 2, EQ (by kernel_rfl) (kr10 g9 g55 _ _ M ⟨rfl, rfl, rfl, rfl, rfl, rfl, rfl, trivial⟩)⟩
       ·refine ET (some 9) rfl (AA rfl) rfl rfl (fun ρ hρ => D9 116 rfl _ [.int .u8 0, .int .i64 0] CD rfl) ?_
        rintro _ w20 ⟨g9, rfl, hg9, hq9, hb9, hfw20⟩
        refine ⟨fun _ => (M.drop 1).step hfw20, ?_⟩
        have M := M.push hfw20 _ hb9 (EB hg9 hq9)
        replace M : Mem w (fun k => k = gx) (As.blk g9 116 [.int .u8 0, .int .i64 0] :: _) w20 := M
        refine DW 6 (by kernel_rfl) rfl (AA rfl) rfl rfl (BT rfl rfl rfl underlying118 underlying9 CD (M.mp 1 rfl) (FD _)) (M.drop 2) (BB 8 none (by kernel_rfl) rfl (AA rfl) rfl rfl (fun ρ hρ => C2 116 _ _ rfl g9 0 116 _ ([.int .u8 (((AW ((fr ((((AW y.say).getD (0, 0)).2) + 1) (BJ s y)).2.say)).getD (0, 0)).1.toNat : Int), .int .i64 ((((AW ((fr ((((AW y.say).getD (0, 0)).2) + 1) (BJ s y)).2.say)).getD (0, 0)).2 : Nat) : Int)]) (hρ _ _ rfl) (hρ _ _ rfl) (M.blk 0 rfl) E2 (BS rfl) (BP rfl)) ?_)
        rintro _ w21 ⟨rfl, hbw21, hfw21⟩
        replace M : Mem w (fun k => k = gx) (List.set _ 0 (As.blk g9 116 [.int .u8 (((AW ((fr ((((AW y.say).getD (0, 0)).2) + 1) (BJ s y)).2.say)).getD (0, 0)).1.toNat : Int), .int .i64 ((((AW ((fr ((((AW y.say).getD (0, 0)).2) + 1) (BJ s y)).2.say)).getD (0, 0)).2 : Nat) : Int)])) w21 := M.putB 0 rfl hbw21 hfw21
        exact ⟨fun _ => M.drop 2, EQ (by kernel_rfl) (kr10 g9 g55 _ _ M ⟨rfl, rfl, rfl, rfl, rfl, rfl, rfl, trivial⟩)⟩
      ·refine ET (some 9) rfl (AA rfl) rfl rfl (fun ρ hρ => D9 116 rfl _ [.int .u8 0, .int .i64 0] CD rfl) ?_
       rintro _ w22 ⟨g9, rfl, hg9, hq9, hb9, hfw22⟩
       refine ⟨fun _ => M.step hfw22, ?_⟩
       have M := M.push hfw22 _ hb9 (EB hg9 hq9)
       replace M : Mem w (fun k => k = gx) (As.blk g9 116 [.int .u8 0, .int .i64 0] :: _) w22 := M
       refine C7 0 (some 55) (by kernel_rfl) rfl (AA rfl) rfl rfl (AP rfl rfl call58) (II _) ?_
       rintro _ w23 ⟨g55, rfl, hMw23, hgw23, hfw23⟩
       refine ⟨_, rfl, fun _ => (M.drop 1).step hfw23, ?_⟩
       have M := M.push hfw23 (As.mp g55 E5) hMw23 (M7 hgw23 hMw23.lt)
       refine DW 6 (by kernel_rfl) rfl (AA rfl) rfl rfl (BT rfl rfl rfl underlying118 underlying9 CD (M.mp 0 rfl) (FD _)) (M.drop 2) (BB 8 none (by kernel_rfl) rfl (AA rfl) rfl rfl (fun ρ hρ => C2 116 _ _ rfl g9 0 116 _ ([.int .u8 (((AW ((fr ((((AW y.say).getD (0, 0)).2) + 1) (BJ s y)).2.say)).getD (0, 0)).1.toNat : Int), .int .i64 ((((AW ((fr ((((AW y.say).getD (0, 0)).2) + 1) (BJ s y)).2.say)).getD (0, 0)).2 : Nat) : Int)]) (hρ _ _ rfl) (hρ _ _ rfl) (M.blk 1 rfl) E2 (BS rfl) (BP rfl)) ?_)
       rintro _ w24 ⟨rfl, hbw24, hfw24⟩
       replace M : Mem w (fun k => k = gx) (List.set _ 1 (As.blk g9 116 [.int .u8 (((AW ((fr ((((AW y.say).getD (0, 0)).2) + 1) (BJ s y)).2.say)).getD (0, 0)).1.toNat : Int), .int .i64 ((((AW ((fr ((((AW y.say).getD (0, 0)).2) + 1) (BJ s y)).2.say)).getD (0, 0)).2 : Nat) : Int)])) w24 := M.putB 1 rfl hbw24 hfw24
       exact ⟨fun _ => M.drop 2, EQ (by kernel_rfl) (kr10 g9 g55 _ _ (M.pick [1, 0, 2, 3, 4, 5, 6, 7, 8, 9] (by decide)) ⟨rfl, rfl, rfl, rfl, rfl, rfl, rfl, trivial⟩)⟩
    refine AO (d := 36) (b := (!(AW y.say).isSome)) rfl (fun h36 => ?_) (fun h36 => ?_)
    ·iterate 4 refine yo rfl ?_
     exact yb rfl (k36 _ _ M ⟨rfl, rfl, rfl, rfl, rfl, rfl, (by rw [h36]; rfl), trivial⟩)
    ·exact yd rfl (yp rfl) (ym rfl rfl (M.cell 0 rfl rfl) (yd rfl (yp rfl) (yd rfl (ED rfl rfl rfl) (yb rfl (k36 _ _ M ⟨rfl, rfl, rfl, rfl, rfl, rfl, (by rw [h36]; rfl), trivial⟩)))))
   refine CV 13 (fun w' => Mem w (fun k => k = gx) [As.blk g6 75 (Xn.cells n A), As.xn 75 n A F, As.blk g5 75 [.int .u8 0, .int .u8 0, .int .i64 0, .bool false, str [], str [], .slice none 0 0], As.blk gx 110 (Lx.cells s y)] w') CZ ?_
   have M := M.drew
   refine ol 1 13 rfl rfl rfl M (fun _ M => (Blk.c ((hE.fr M.fr).b5) 0 rfl)) (oc 2 13 rfl rfl M (oc 3 13 rfl rfl M (oc 4 13 rfl rfl M (ol 5 13 rfl rfl rfl M (fun _ M => (M.cell 3 rfl rfl)) (GX (rs := [0, 10]) (by kernel_rfl) (by simp) fun iz hiz => ?_)))))
   simp only [List.mem_cons, List.not_mem_nil, or_false] at hiz
   rcases hiz with rfl | rfl
   ·refine JQ (some 25) rfl (AA rfl) rfl rfl (AP rfl rfl call58) (II _) ?_
    rintro _ w25 ⟨g25, rfl, hMw25, hgw25, hfw25⟩
    refine ⟨_, rfl, fun _ => M.step hfw25, ?_⟩
    have M := M.push hfw25 (As.mp g25 E5) hMw25 (M7 hgw25 hMw25.lt)
    refine GX (rs := [6, 10]) (by kernel_rfl) (by simp) fun iz hiz => ?_
    simp only [List.mem_cons, List.not_mem_nil, or_false] at hiz
    rcases hiz with rfl | rfl
    ·refine ET (some 31) rfl (AA rfl) rfl rfl (aF (E6 rfl rfl rfl underlying118 underlying9 CD (M.mp 0 rfl) (FD _) (HR _))) ?_
     rintro _ _ ⟨rfl, rfl⟩
     refine ⟨fun _ => (M.drop 1), oc 7 13 rfl rfl (M.drop 1) (oc 8 13 rfl rfl (M.drop 1) (oc 9 13 rfl rfl (M.drop 1) (BB 10 (some 7) (by kernel_rfl) rfl (AA rfl) rfl rfl (fun ρ hρ => D9 116 rfl _ [.int .u8 0, .int .i64 0] CD rfl) ?_)))⟩
     rintro _ w26 ⟨g7, rfl, hg7, hq7, hb7, hfw26⟩
     refine ⟨fun _ => (M.drop 1).step hfw26, ?_⟩
     have M := M.push hfw26 _ hb7 (EB hg7 hq7)
     replace M : Mem w (fun k => k = gx) (As.blk g7 116 [.int .u8 0, .int .i64 0] :: _) w26 := M
     refine BB 11 none (by kernel_rfl) rfl (AA rfl) rfl rfl (fun ρ hρ => C2 116 _ _ rfl g7 0 116 _ ([.int .u8 (((AW y.say).getD (0, 0)).1.toNat : Int), .int .i64 ((((AW y.say).getD (0, 0)).2 : Nat) : Int)]) (hρ _ _ rfl) (hρ _ _ rfl) (M.blk 0 rfl) E2 (BS rfl) (BP rfl)) ?_
     rintro _ w27 ⟨rfl, hbw27, hfw27⟩
     replace M : Mem w (fun k => k = gx) (List.set _ 0 (As.blk g7 116 [.int .u8 (((AW y.say).getD (0, 0)).1.toNat : Int), .int .i64 ((((AW y.say).getD (0, 0)).2 : Nat) : Int)])) w27 := M.putB 0 rfl hbw27 hfw27
     exact ⟨fun _ => M.drop 2, oc 12 13 rfl rfl (M.drop 2) (EQ (by kernel_rfl) (kr5 g7 g25 _ _ M ⟨rfl, rfl, rfl, rfl, rfl, rfl, rfl, trivial⟩))⟩
    ·refine ET (some 7) rfl (AA rfl) rfl rfl (fun ρ hρ => D9 116 rfl _ [.int .u8 0, .int .i64 0] CD rfl) ?_
     rintro _ w28 ⟨g7, rfl, hg7, hq7, hb7, hfw28⟩
     refine ⟨fun _ => (M.drop 1).step hfw28, ?_⟩
     have M := M.push hfw28 _ hb7 (EB hg7 hq7)
     replace M : Mem w (fun k => k = gx) (As.blk g7 116 [.int .u8 0, .int .i64 0] :: _) w28 := M
     refine DW 6 (by kernel_rfl) rfl (AA rfl) rfl rfl (E6 rfl rfl rfl underlying118 underlying9 CD (M.mp 1 rfl) (FD _) (HR _)) (M.drop 2) (oc 7 13 rfl rfl (M.drop 2) (oc 8 13 rfl rfl (M.drop 2) (oc 9 13 rfl rfl (M.drop 2) (BB 11 none (by kernel_rfl) rfl (AA rfl) rfl rfl (fun ρ hρ => C2 116 _ _ rfl g7 0 116 _ ([.int .u8 (((AW y.say).getD (0, 0)).1.toNat : Int), .int .i64 ((((AW y.say).getD (0, 0)).2 : Nat) : Int)]) (hρ _ _ rfl) (hρ _ _ rfl) (M.blk 0 rfl) E2 (BS rfl) (BP rfl)) ?_))))
     rintro _ w29 ⟨rfl, hbw29, hfw29⟩
     replace M : Mem w (fun k => k = gx) (List.set _ 0 (As.blk g7 116 [.int .u8 (((AW y.say).getD (0, 0)).1.toNat : Int), .int .i64 ((((AW y.say).getD (0, 0)).2 : Nat) : Int)])) w29 := M.putB 0 rfl hbw29 hfw29
     exact ⟨fun _ => M.drop 2, oc 12 13 rfl rfl (M.drop 2) (EQ (by kernel_rfl) (kr5 g7 g25 _ _ M ⟨rfl, rfl, rfl, rfl, rfl, rfl, rfl, trivial⟩))⟩
   ·refine ET (some 7) rfl (AA rfl) rfl rfl (fun ρ hρ => D9 116 rfl _ [.int .u8 0, .int .i64 0] CD rfl) ?_
    rintro _ w30 ⟨g7, rfl, hg7, hq7, hb7, hfw30⟩
    refine ⟨fun _ => M.step hfw30, ?_⟩
    have M := M.push hfw30 _ hb7 (EB hg7 hq7)
    replace M : Mem w (fun k => k = gx) (As.blk g7 116 [.int .u8 0, .int .i64 0] :: _) w30 := M
    refine C7 0 (some 25) (by kernel_rfl) rfl (AA rfl) rfl rfl (AP rfl rfl call58) (II _) ?_
    rintro _ w31 ⟨g25, rfl, hMw31, hgw31, hfw31⟩
    refine ⟨_, rfl, fun _ => (M.drop 1).step hfw31, ?_⟩
    have M := M.push hfw31 (As.mp g25 E5) hMw31 (M7 hgw31 hMw31.lt)
    refine DW 6 (by kernel_rfl) rfl (AA rfl) rfl rfl (E6 rfl rfl rfl underlying118 underlying9 CD (M.mp 0 rfl) (FD _) (HR _)) (M.drop 2) (oc 7 13 rfl rfl (M.drop 2) (oc 8 13 rfl rfl (M.drop 2) (oc 9 13 rfl rfl (M.drop 2) (BB 11 none (by kernel_rfl) rfl (AA rfl) rfl rfl (fun ρ hρ => C2 116 _ _ rfl g7 0 116 _ ([.int .u8 (((AW y.say).getD (0, 0)).1.toNat : Int), .int .i64 ((((AW y.say).getD (0, 0)).2 : Nat) : Int)]) (hρ _ _ rfl) (hρ _ _ rfl) (M.blk 1 rfl) E2 (BS rfl) (BP rfl)) ?_))))
    rintro _ w32 ⟨rfl, hbw32, hfw32⟩
    replace M : Mem w (fun k => k = gx) (List.set _ 1 (As.blk g7 116 [.int .u8 (((AW y.say).getD (0, 0)).1.toNat : Int), .int .i64 ((((AW y.say).getD (0, 0)).2 : Nat) : Int)])) w32 := M.putB 1 rfl hbw32 hfw32
    exact ⟨fun _ => M.drop 2, oc 12 13 rfl rfl (M.drop 2) (EQ (by kernel_rfl) (kr5 g7 g25 _ _ (M.pick [1, 0, 2, 3, 4, 5] (by decide)) ⟨rfl, rfl, rfl, rfl, rfl, rfl, rfl, trivial⟩))⟩
  ·have h23p := (odf h23)
   refine BF (AG (AG (AV (AD (srg (ya rfl (AU (xs := Xn.cells n A) rfl rfl (M.rdBlk 0 rfl rfl) underlying75 rfl AZ) (D7 (cs' := (Xn.cells n A)) M 2 (AA rfl) rfl rfl rfl rfl rfl AZ rfl (BS rfl) (BP rfl) rfl fun w33 M => nq (BN (FB rfl rfl (M.rdBlk 2 rfl rfl) underlying75 rfl AZ ?_)))))))))
   rw [heq.trans (cL h23p)]
   exact ⟨_, _, rfl, M.ok 1 _ rfl, M.newOf 1 3 rfl rfl (by decide), M.blk 3 rfl, M.fr⟩
theorem jA (s : List UInt8) (gx c5 c6 c7 c8 c9 c10 : Nat) : ∀ f : Nat, FromOK s gx c5 c6 c7 c8 c9 c10 f (D5 s (f + 1))
 | 0 => ⟨UY s 0, fun line x w hl hb hx hm hE hY => WC (f := 0) (fun _ h => by cases h) line hl x w hb hx hm hE hY⟩
 | f + 1 => ⟨UY s (f + 1), fun line x w hl hb hx hm hE hY => WC (f := f + 1) (fun f' h => by cases h; exact jA s gx c5 c6 c7 c8 c9 c10 f) line hl x w hb hx hm hE hY⟩
end
section
theorem Mem.neBlk {w0 w : World} {S : Nat → Prop} {L : List As} (M : Mem w0 S L w) (i j : Nat) {a b t u : Nat} {cs ds : List Value} (hi : L[i]? = some (As.blk a t cs)) (hj : L[j]? = some (As.blk b u ds)) (h : i ≠ j) : ¬ a = b := fun e =>
 M.apart i j _ _ hi hj h a (by simp [As.blk]) (by simp [As.blk, e])
theorem rR (s : List UInt8) : LxI s lx0 := ⟨Nat.zero_le _, Nat.le_refl _, fun h => absurd rfl h, rfl⟩
theorem ZS (s : List UInt8) (x : Lx) : lxM s x ≤ s.length + 1 := by unfold lxM; split <;> omega
theorem W9 {s : List UInt8} (h : (256 : Int) < ((s.length : Nat) : Int)) : D6 s = (.zero, 0, 3) := if_pos (by omega)
section
variable {s : List UInt8} (h : ¬ (256 : Int) < ((s.length : Nat) : Int))
include h
theorem UM (h1 : (D5 s 258 1 (BJ s lx0)).2.fin = false) (h2 : ¬ ((D5 s 258 1 (BJ s lx0)).2.fail 4 (D5 s 258 1 (BJ s lx0)).2.tat).e = 0) :
 D6 s = (.zero, ((D5 s 258 1 (BJ s lx0)).2.fail 4 (D5 s 258 1 (BJ s lx0)).2.tat).wh, ((D5 s 258 1 (BJ s lx0)).2.fail 4 (D5 s 258 1 (BJ s lx0)).2.tat).e) := by
 unfold D6
 rw [if_neg (by omega)]
 simp only [h1, if_true, if_neg h2]
theorem UL (h1 : (D5 s 258 1 (BJ s lx0)).2.fin = false) (h2 : ((D5 s 258 1 (BJ s lx0)).2.fail 4 (D5 s 258 1 (BJ s lx0)).2.tat).e = 0) : D6 s = ((D5 s 258 1 (BJ s lx0)).1, 0, 0) := by
 unfold D6
 rw [if_neg (by omega)]
 simp only [h1, if_true, if_pos h2]
theorem WB (h1 : (D5 s 258 1 (BJ s lx0)).2.fin = true) (h2 : ¬ (D5 s 258 1 (BJ s lx0)).2.e = 0) : D6 s = (.zero, (D5 s 258 1 (BJ s lx0)).2.wh, (D5 s 258 1 (BJ s lx0)).2.e) := by
 unfold D6
 rw [if_neg (by omega)]
 simp only [h1, Bool.true_eq_false, if_false, if_neg h2]
theorem WA (h1 : (D5 s 258 1 (BJ s lx0)).2.fin = true) (h2 : (D5 s 258 1 (BJ s lx0)).2.e = 0) : D6 s = ((D5 s 258 1 (BJ s lx0)).1, 0, 0) := by
 unfold D6
 rw [if_neg (by omega)]
 simp only [h1, Bool.true_eq_false, if_false, if_pos h2]
end
theorem QL (a0 : List UInt8) : prog.built 110 [(0, str a0)] = some #[str a0, .int .i64 0, .int .u8 0, .int .u8 0, .int .i64 0, .bool false, str [], str [], .slice none 0 0, str [], .int .i64 0, .bool false, .int .i64 0, .int .i64 0] := by kernel_rfl
theorem JO : (prog.info? 114).map (·.size) = some 1 := by kernel_rfl
theorem I4 : (prog.info? 111).map (·.size) = some 1 := by kernel_rfl
theorem IW : (prog.info? 112).map (·.size) = some 1 := by kernel_rfl
theorem QG : (prog.info? 106).map (·.size) = some 1 := by kernel_rfl
theorem JM : (prog.info? 114).map (·.zero) = some (some (.nilFunc)) := by kernel_rfl
theorem I3 : (prog.info? 111).map (·.zero) = some (some (.nilFunc)) := by kernel_rfl
theorem IV : (prog.info? 112).map (·.zero) = some (some (.nilFunc)) := by kernel_rfl
theorem QE : (prog.info? 106).map (·.zero) = some (some (.pointer none)) := by kernel_rfl
theorem W8 (s : List UInt8) (w : World) (hs : s.length ≤ 4611686018427387904) (hY : Lay0 w) :
 Calls prog 19 #[str s] w fun e w' => ∃ A F, e = .returned (.tuple #[.agg ((D6 s).1.cells A).toArray, .int .i64 (((D6 s).2.1 : Nat) : Int), .int .i64 (D6 s).2.2]) ∧ (D6 s).1.AtL 75 w' A F ∧ (∀ k ∈ F, w.heap.size ≤ k ∧ k < w'.heap.size) ∧ Fr0 w w' := by
 have hGx : ∀ k, B0 k → nGlob ≤ k := fun _ h => h.elim
 refine BE (vs := [_]) func19 rfl ntmps19 rfl ?_
 have M := NP w
 refine srg (DJ M (AA rfl) rfl rfl 75 rfl [.int .u8 0, .int .u8 0, .int .i64 0, .bool false, str [], str [], .slice none 0 0] DD rfl fun g2 w1 hg2 M => yb rfl (yb rfl (nq (AF (srg (yb rfl (ya rfl (GA rfl rfl underlying9) (ya rfl (GC rfl rfl rfl) (nq ?_)))))))))
 refine AL (b := (decide ((256 : Int) < ((s.length : Nat) : Int)))) rfl (fun h14 => ?_) (fun h14 => ?_)
 ·have h14p := (odt h14)
  refine srg (ya rfl (BA (parts := []) rfl rfl (IZ)) (D7 (cs' := [.int .u8 0, .int .u8 0, .int .i64 0, .bool false, str [], str [], .slice none 0 0]) M 0 (AA rfl) rfl rfl rfl rfl rfl AZ rfl (BS rfl) (BP rfl) rfl fun w2 M => yb rfl (yb rfl (nq (BN (AB (LX rfl rfl (M.rdBlk 0 rfl rfl) underlying75 rfl AZ rfl rfl ?_)))))))
  rw [W9 h14p]
  exact ⟨none, [], rfl, ⟨rfl, rfl⟩, (fun k hk => absurd hk (by simp)), M.fr⟩
 ·have h14p := (odf h14)
  refine AI (AD (srg (yb rfl (ya rfl (BA (parts := [(0, _)]) rfl rfl (QL _)) (E3 M (AA rfl) rfl rfl 110 rfl rfl (Lx.cells s lx0) rfl fun gx w3 hgx M => ?_)))))
  have hnx : nGlob ≤ gx := Nat.le_trans hY.size (M.new0 0 rfl gx (by simp [As.blk])).1
  refine DJ M (AA rfl) rfl rfl 106 rfl [.pointer none] QE rfl fun g5 w4 hg5 M => D0 (cs' := [.pointer (some ⟨gx, 0, none⟩)]) M 0 (AA rfl) rfl rfl rfl rfl rfl rfl rfl QG (CO rfl) rfl fun w5 M => nq (srg (yl rfl rfl (M.cell 0 rfl rfl) (B3 (some 20) (AA rfl) rfl rfl (AP rfl rfl call51) (HL s lx0 _ _ (M.blk 1 rfl) (rR s).at_ (by omega) (hY.fr M.fr hGx) hnx) ?_)))
  rintro _ w6 ⟨rfl, hbw6, hfw6⟩
  have M := M.putB 1 rfl hbw6 hfw6
  refine ⟨_, rfl, nq (srg (DJ M (AA rfl) rfl rfl 111 rfl [.nilFunc] I3 rfl fun g6 w7 hg6 M => nq (srg (ya rfl (DE (us := []) (vs := [.pointer (some ⟨g5, 0, none⟩), .pointer (some ⟨g6, 0, none⟩)]) rfl rfl rfl) (DJ M (AA rfl) rfl rfl 112 rfl [.nilFunc] IV rfl fun g7 w8 hg7 M => D0 (cs' := [.func (.func 52) #[] #[.pointer (some ⟨g5, 0, none⟩), .pointer (some ⟨g6, 0, none⟩)]]) M 0 (AA rfl) rfl rfl rfl rfl rfl rfl rfl IW (CO rfl) rfl fun w9 M => ?_)))))⟩
  refine nq (srg (ya rfl (DE (us := []) (vs := [.pointer (some ⟨g5, 0, none⟩)]) rfl rfl rfl) (DJ M (AA rfl) rfl rfl 114 rfl [.nilFunc] JM rfl fun g8 w10 hg8 M => D0 (cs' := [.func (.func 53) #[] #[.pointer (some ⟨g5, 0, none⟩)]]) M 0 (AA rfl) rfl rfl rfl rfl rfl rfl rfl JO (CO rfl) rfl fun w11 M => nq (srg (ya rfl (DE (us := []) (vs := [.pointer (some ⟨g5, 0, none⟩), .pointer (some ⟨g6, 0, none⟩)]) rfl rfl rfl) (DJ M (AA rfl) rfl rfl 114 rfl [.nilFunc] JM rfl fun g9 w12 hg9 M => ?_))))))
  refine D0 (cs' := [.func (.func 55) #[] #[.pointer (some ⟨g5, 0, none⟩), .pointer (some ⟨g6, 0, none⟩)]]) M 0 (AA rfl) rfl rfl rfl rfl rfl rfl rfl JO (CO rfl) rfl fun w13 M => nq (srg (ya rfl (DE (us := []) (vs := [.pointer (some ⟨g5, 0, none⟩), .pointer (some ⟨g7, 0, none⟩), .pointer (some ⟨g9, 0, none⟩), .pointer (some ⟨g8, 0, none⟩)]) rfl rfl rfl) (DJ M (AA rfl) rfl rfl 111 rfl [.nilFunc] I3 rfl fun g10 w14 hg10 M => D0 (cs' := [.func (.func 56) #[] #[.pointer (some ⟨g5, 0, none⟩), .pointer (some ⟨g7, 0, none⟩), .pointer (some ⟨g9, 0, none⟩), .pointer (some ⟨g8, 0, none⟩)]]) M 0 (AA rfl) rfl rfl rfl rfl rfl rfl rfl I4 (CO rfl) rfl fun w15 M => nq (srg (ya rfl (DE (us := []) (vs := [.pointer (some ⟨g5, 0, none⟩), .pointer (some ⟨g10, 0, none⟩), .pointer (some ⟨g6, 0, none⟩)]) rfl rfl rfl) ?_)))))
  refine D0 (cs' := [.func (.func 57) #[] #[.pointer (some ⟨g5, 0, none⟩), .pointer (some ⟨g10, 0, none⟩), .pointer (some ⟨g6, 0, none⟩)]]) M 4 (AA rfl) rfl rfl rfl rfl rfl rfl rfl I4 (CO rfl) rfl fun w16 M => nq (srg (yl rfl rfl (M.cell 4 rfl rfl) (B3 (some 27) (AA rfl) rfl rfl (BX rfl rfl rfl call57) ((jA s gx g5 g6 g7 g8 g9 g10 257).call 1 (BJ s lx0) _ (by decide) (M.blk 6 rfl) EW (Nat.le_trans (ZS _ _) (by omega)) ⟨M.blk 5 rfl, M.blk 4 rfl, M.blk 3 rfl, M.blk 2 rfl, M.blk 1 rfl, M.blk 0 rfl, ⟨M.neBlk 5 6 rfl rfl (by decide), M.neBlk 4 6 rfl rfl (by decide), M.neBlk 3 6 rfl rfl (by decide), M.neBlk 2 6 rfl rfl (by decide), M.neBlk 1 6 rfl rfl (by decide), M.neBlk 0 6 rfl rfl (by decide)⟩, hnx, by omega⟩ (hY.fr M.fr hGx)) ?_)))
  rintro _ w17 ⟨A27, F27, rfl, hat27, hnw27, hbw17, hfw17⟩
  have M := M.putPush 6 rfl hbw17 hfw17 (As.xn 75 (D5 s 258 1 (BJ s lx0)).1 A27 F27) hat27 hnw27
  have hI27 := (UY s 257).I 1 (BJ s lx0) EW (Nat.le_trans (ZS _ _) (by omega))
  refine ⟨_, rfl, DJ M (AA rfl) rfl rfl 75 rfl [.int .u8 0, .int .u8 0, .int .i64 0, .bool false, str [], str [], .slice none 0 0] DD rfl fun g11 w18 hg11 M => D7 (cs' := (Xn.cells ((D5 s 258 1 (BJ s lx0)).1) A27)) M 0 (AA rfl) rfl rfl rfl rfl rfl AZ rfl (BS rfl) (BP rfl) rfl fun w19 M => nq (AF (srg (yl rfl rfl (M.cell 7 rfl rfl) (yb rfl (yb rfl (yb rfl (yl rfl rfl (M.cell 8 rfl rfl) (yb rfl ?_))))))))⟩
  refine nq (AL (b := (!(D5 s 258 1 (BJ s lx0)).2.fin)) rfl (fun h33 => ?_) (fun h33 => ?_))
  ·have h33p := (CK h33)
   refine DP 6 CZ (by kernel_rfl) ?_
   have M := M.drew
   refine sd rfl rfl (M.cell 7 rfl rfl) (sd rfl rfl (M.cell 7 rfl rfl) (sb rfl (sb rfl (sb rfl (sd rfl rfl (M.cell 8 rfl rfl) (CS (B3 (some 40) (AA rfl) rfl rfl (AP rfl rfl call54) (FT s ((D5 s 258 1 (BJ s lx0)).2) _ _ _ _ (M.blk 8 rfl)) ?_)))))))
   rintro _ w20 ⟨rfl, hbw20, hfw20⟩
   have M := M.putB 8 rfl hbw20 hfw20
   refine ⟨_, rfl, nq (AF (srg (yl rfl rfl (M.cell 7 rfl rfl) (yb rfl (yb rfl (yl rfl rfl (M.cell 8 rfl rfl) (ya rfl (E4 rfl rfl rfl) (nq (AL (b := (!decide ((((D5 s 258 1 (BJ s lx0)).2).fail 4 ((D5 s 258 1 (BJ s lx0)).2.tat)).e = (0 : Int)))) rfl (fun h45 => ?_) (fun h45 => ?_))))))))))⟩
   ·have h45p := (odf (CK h45))
    refine AF (CV 12 (fun w' => Mem w B0 [As.blk g11 75 (Xn.cells ((D5 s 258 1 (BJ s lx0)).1) A27), As.xn 75 ((D5 s 258 1 (BJ s lx0)).1) A27 F27, As.blk g10 111 [.func (.func 56) #[] #[.pointer (some ⟨g5, 0, none⟩), .pointer (some ⟨g7, 0, none⟩), .pointer (some ⟨g9, 0, none⟩), .pointer (some ⟨g8, 0, none⟩)]], As.blk g9 114 [.func (.func 55) #[] #[.pointer (some ⟨g5, 0, none⟩), .pointer (some ⟨g6, 0, none⟩)]], As.blk g8 114 [.func (.func 53) #[] #[.pointer (some ⟨g5, 0, none⟩)]], As.blk g7 112 [.func (.func 52) #[] #[.pointer (some ⟨g5, 0, none⟩), .pointer (some ⟨g6, 0, none⟩)]], As.blk g6 111 [.func (.func 57) #[] #[.pointer (some ⟨g5, 0, none⟩), .pointer (some ⟨g10, 0, none⟩), .pointer (some ⟨g6, 0, none⟩)]], As.blk g5 106 [.pointer (some ⟨gx, 0, none⟩)], As.blk gx 110 (Lx.cells s (((D5 s 258 1 (BJ s lx0)).2).fail 4 ((D5 s 258 1 (BJ s lx0)).2.tat)))] w') CZ ?_)
    have M := M.drew
    refine oa 0 12 rfl rfl (M.pick [0, 1, 2, 3, 4, 5, 6, 7, 8] (by decide)) (fun _ M => BA (parts := []) rfl rfl (IZ)) (ol 1 12 rfl rfl rfl (M.pick [0, 1, 2, 3, 4, 5, 6, 7, 8] (by decide)) (fun _ M => (M.cell 7 rfl rfl)) (oc 2 12 rfl rfl (M.pick [0, 1, 2, 3, 4, 5, 6, 7, 8] (by decide)) (oc 3 12 rfl rfl (M.pick [0, 1, 2, 3, 4, 5, 6, 7, 8] (by decide)) (ol 4 12 rfl rfl rfl (M.pick [0, 1, 2, 3, 4, 5, 6, 7, 8] (by decide)) (fun _ M => (M.cell 8 rfl rfl)) (ol 5 12 rfl rfl rfl (M.pick [0, 1, 2, 3, 4, 5, 6, 7, 8] (by decide)) (fun _ M => (M.cell 7 rfl rfl)) (oc 6 12 rfl rfl (M.pick [0, 1, 2, 3, 4, 5, 6, 7, 8] (by decide)) (oc 7 12 rfl rfl (M.pick [0, 1, 2, 3, 4, 5, 6, 7, 8] (by decide)) (ol 8 12 rfl rfl rfl (M.pick [0, 1, 2, 3, 4, 5, 6, 7, 8] (by decide)) (fun _ M => (M.cell 8 rfl rfl)) (BB 9 none (by kernel_rfl) rfl (AA rfl) rfl rfl (fun ρ hρ => C2 75 _ _ rfl g2 0 75 _ ([.int .u8 0, .int .u8 0, .int .i64 0, .bool false, str [], str [], .slice none 0 0]) (hρ _ _ rfl) (hρ _ _ rfl) (M.blk 9 rfl) AZ (BS rfl) (BP rfl)) ?_)))))))))
    rintro _ w21 ⟨rfl, hbw21, hfw21⟩
    replace M : Mem w B0 (List.set _ 9 (As.blk g2 75 [.int .u8 0, .int .u8 0, .int .i64 0, .bool false, str [], str [], .slice none 0 0])) w21 := M.putB 9 rfl hbw21 hfw21
    refine ⟨fun _ => (M.pick [0, 1, 2, 3, 4, 5, 6, 7, 8] (by decide)), oc 10 12 rfl rfl (M.pick [0, 1, 2, 3, 4, 5, 6, 7, 8] (by decide)) (oc 11 12 rfl rfl (M.pick [0, 1, 2, 3, 4, 5, 6, 7, 8] (by decide)) (EQ (by kernel_rfl) (AD (BN (AB (LX rfl rfl (M.rdBlk 9 rfl rfl) underlying75 rfl AZ rfl rfl ?_))))))⟩
    rw [UM h14p h33p h45p]
    exact ⟨none, [], rfl, ⟨rfl, rfl⟩, (fun k hk => absurd hk (by simp)), M.fr⟩
   ·have h45p := (odt (BQ h45))
    refine AI (AD (srg (ya rfl (AU (xs := Xn.cells ((D5 s 258 1 (BJ s lx0)).1) A27) rfl rfl (M.rdBlk 0 rfl rfl) underlying75 rfl AZ) (D7 (cs' := (Xn.cells ((D5 s 258 1 (BJ s lx0)).1) A27)) M 9 (AA rfl) rfl rfl rfl rfl rfl AZ rfl (BS rfl) (BP rfl) rfl fun w22 M => yb rfl (yb rfl (nq (BN (LX rfl rfl (M.rdBlk 9 rfl rfl) underlying75 rfl AZ rfl rfl ?_))))))))
    rw [UL h14p h33p h45p]
    exact ⟨_, _, rfl, M.ok 1 _ rfl, M.new0 1 rfl, M.fr⟩
  ·have h33p := (BQ h33)
   refine AI (AD (AF (srg (yl rfl rfl (M.cell 7 rfl rfl) (yb rfl (yb rfl (yl rfl rfl (M.cell 8 rfl rfl) (ya rfl (E4 rfl rfl rfl) (nq (AL (b := (!decide ((D5 s 258 1 (BJ s lx0)).2.e = (0 : Int)))) rfl (fun h45 => ?_) (fun h45 => ?_)))))))))))
   ·have h45p := (odf (CK h45))
    refine AF (CV 12 (fun w' => Mem w B0 [As.blk g11 75 (Xn.cells ((D5 s 258 1 (BJ s lx0)).1) A27), As.xn 75 ((D5 s 258 1 (BJ s lx0)).1) A27 F27, As.blk g10 111 [.func (.func 56) #[] #[.pointer (some ⟨g5, 0, none⟩), .pointer (some ⟨g7, 0, none⟩), .pointer (some ⟨g9, 0, none⟩), .pointer (some ⟨g8, 0, none⟩)]], As.blk g9 114 [.func (.func 55) #[] #[.pointer (some ⟨g5, 0, none⟩), .pointer (some ⟨g6, 0, none⟩)]], As.blk g8 114 [.func (.func 53) #[] #[.pointer (some ⟨g5, 0, none⟩)]], As.blk g7 112 [.func (.func 52) #[] #[.pointer (some ⟨g5, 0, none⟩), .pointer (some ⟨g6, 0, none⟩)]], As.blk g6 111 [.func (.func 57) #[] #[.pointer (some ⟨g5, 0, none⟩), .pointer (some ⟨g10, 0, none⟩), .pointer (some ⟨g6, 0, none⟩)]], As.blk g5 106 [.pointer (some ⟨gx, 0, none⟩)], As.blk gx 110 (Lx.cells s ((D5 s 258 1 (BJ s lx0)).2))] w') CZ ?_)
    have M := M.drew
    refine oa 0 12 rfl rfl (M.pick [0, 1, 2, 3, 4, 5, 6, 7, 8] (by decide)) (fun _ M => BA (parts := []) rfl rfl (IZ)) (ol 1 12 rfl rfl rfl (M.pick [0, 1, 2, 3, 4, 5, 6, 7, 8] (by decide)) (fun _ M => (M.cell 7 rfl rfl)) (oc 2 12 rfl rfl (M.pick [0, 1, 2, 3, 4, 5, 6, 7, 8] (by decide)) (oc 3 12 rfl rfl (M.pick [0, 1, 2, 3, 4, 5, 6, 7, 8] (by decide)) (ol 4 12 rfl rfl rfl (M.pick [0, 1, 2, 3, 4, 5, 6, 7, 8] (by decide)) (fun _ M => (M.cell 8 rfl rfl)) (ol 5 12 rfl rfl rfl (M.pick [0, 1, 2, 3, 4, 5, 6, 7, 8] (by decide)) (fun _ M => (M.cell 7 rfl rfl)) (oc 6 12 rfl rfl (M.pick [0, 1, 2, 3, 4, 5, 6, 7, 8] (by decide)) (oc 7 12 rfl rfl (M.pick [0, 1, 2, 3, 4, 5, 6, 7, 8] (by decide)) (ol 8 12 rfl rfl rfl (M.pick [0, 1, 2, 3, 4, 5, 6, 7, 8] (by decide)) (fun _ M => (M.cell 8 rfl rfl)) (BB 9 none (by kernel_rfl) rfl (AA rfl) rfl rfl (fun ρ hρ => C2 75 _ _ rfl g2 0 75 _ ([.int .u8 0, .int .u8 0, .int .i64 0, .bool false, str [], str [], .slice none 0 0]) (hρ _ _ rfl) (hρ _ _ rfl) (M.blk 9 rfl) AZ (BS rfl) (BP rfl)) ?_)))))))))
    rintro _ w23 ⟨rfl, hbw23, hfw23⟩
    replace M : Mem w B0 (List.set _ 9 (As.blk g2 75 [.int .u8 0, .int .u8 0, .int .i64 0, .bool false, str [], str [], .slice none 0 0])) w23 := M.putB 9 rfl hbw23 hfw23
    refine ⟨fun _ => (M.pick [0, 1, 2, 3, 4, 5, 6, 7, 8] (by decide)), oc 10 12 rfl rfl (M.pick [0, 1, 2, 3, 4, 5, 6, 7, 8] (by decide)) (oc 11 12 rfl rfl (M.pick [0, 1, 2, 3, 4, 5, 6, 7, 8] (by decide)) (EQ (by kernel_rfl) (AD (BN (AB (LX rfl rfl (M.rdBlk 9 rfl rfl) underlying75 rfl AZ rfl rfl ?_))))))⟩
    rw [WB h14p h33p h45p]
    exact ⟨none, [], rfl, ⟨rfl, rfl⟩, (fun k hk => absurd hk (by simp)), M.fr⟩
   ·have h45p := (odt (BQ h45))
    refine AI (AD (srg (ya rfl (AU (xs := Xn.cells ((D5 s 258 1 (BJ s lx0)).1) A27) rfl rfl (M.rdBlk 0 rfl rfl) underlying75 rfl AZ) (D7 (cs' := (Xn.cells ((D5 s 258 1 (BJ s lx0)).1) A27)) M 9 (AA rfl) rfl rfl rfl rfl rfl AZ rfl (BS rfl) (BP rfl) rfl fun w24 M => yb rfl (yb rfl (nq (BN (LX rfl rfl (M.rdBlk 9 rfl rfl) underlying75 rfl AZ rfl rfl ?_))))))))
    rw [WA h14p h33p h45p]
    exact ⟨_, _, rfl, M.ok 1 _ rfl, M.new0 1 rfl, M.fr⟩
end
section
theorem lB {e : Env} {w : World} {o : Oper} {t' : Nat} {x y : Operand} {a b : Vl} (ho : o.op = .binOp .neq 45 x y t') (hx : ev e x = some (.agg a.cells.toArray)) (hy : ev e y = some (.agg b.cells.toArray)) : Y prog e o w (.bool (!(a.same b))) := fun ρ h => by
 have h1 : ρ x = .agg a.cells.toArray := h _ _ hx
 have h2 : ρ y = .agg b.cells.toArray := h _ _ hy
 have hg := run_eqGuard_agg (P := prog) w .neq 45 x y a.cells.toArray b.cells.toArray Q2
 have hrun : (Op.equalIn 10000 45 (.agg a.cells.toArray) (.agg b.cells.toArray)).run prog w = .ok (a.same b) w := by
  rw [run_equalIn_struct w 9999 45 _ _ O5 R5]
  have hl : (prog.fieldsOf 45).toList = (match prog.underlying 45 with | some (.struct fs) => fs.toList | _ => []) := by unfold Program.fieldsOf; rw [underlying45]
  rw [hl, underlying45]
  simp only
  rw [BL (a := .int .u8 (a.kind.toNat : Int)) (b := .int .u8 (b.kind.toNat : Int)) (by decide) (BH (isAgg5 w) rfl) (BH (isAgg5 w) rfl) (run_equalIn_int w 9998 5 _ _ _ _ underlying5),
   BL (a := .int .i64 a.int) (b := .int .i64 b.int) (by decide) (BH (isAgg2 w) rfl) (BH (isAgg2 w) rfl) (run_equalIn_int w 9998 2 _ _ _ _ underlying2),
   BL (a := .bool a.bool) (b := .bool b.bool) (by decide) (BH (isAgg4 w) rfl) (BH (isAgg4 w) rfl) (run_equalIn_bool' w 9998 4 _ _ underlying4),
   BL (a := str a.text) (b := str b.text) (by decide) (BH (isAgg9 w) rfl) (BH (isAgg9 w) rfl) (run_equalIn_string w 9998 9 _ _ underlying9)]
  have ht : ((⟨a.text.toArray⟩ : ByteArray).toList == (⟨b.text.toArray⟩ : ByteArray).toList) = decide (a.text = b.text) := by
   rw [ByteArray.toList_eq, ByteArray.toList_eq]
   by_cases h : a.text = b.text <;> simp [h]
  rw [ht]
  simp only [Op.eqFields, Sem.run_pure]
  unfold Vl.same
  by_cases h1 : (a.kind.toNat : Int) = b.kind.toNat <;> by_cases h2 : a.int = b.int <;> by_cases h3 : a.bool = b.bool <;> by_cases h4 : a.text = b.text <;> simp [h1, h2, h3, h4]
 unfold execOp
 simp only [ho, h1, h2, Sem.run_bind, hg, Result.andThen_ok, run_neq_struct, hrun]
 rfl
def Xn.sm (k : Nat) : Xn → Prop
 | .zero => True
 | .lit v => v.text.length ≤ k
 | .var s => s.length ≤ k
 | .un _ a => a.sm k
 | .bin _ a b => a.sm k ∧ b.sm k
theorem Xn.sm_vl {k : Nat} : ∀ {n : Xn}, n.sm k → n.vl.text.length ≤ k
 | .zero, _ => Nat.zero_le _
 | .lit _, h => h
 | .var _, _ => Nat.zero_le _
 | .un _ _, _ => Nat.zero_le _
 | .bin _ _ _, _ => Nat.zero_le _
theorem Xn.sm_nm {k : Nat} : ∀ {n : Xn}, n.sm k → n.nm.length ≤ k
 | .zero, _ => Nat.zero_le _
 | .lit _, _ => Nat.zero_le _
 | .var _, h => h
 | .un _ _, _ => Nat.zero_le _
 | .bin _ _ _, _ => Nat.zero_le _
theorem pY {m : Nat} : ∀ (l b : List UInt8) {b' : List UInt8} {n : Nat}, l.length ≤ m → qt b l = some (b', n) → b'.length ≤ b.length + l.length := by
 induction m with
 | zero =>
  intro l b b' n hl h
  cases l with
  | nil => cases h
  | cons c r => simp at hl
 | succ m ih =>
  intro l b b' n hl h
  match l, h with
  | [c], h =>
   by_cases hc : (c.toNat : Int) = 39
   ·rw [show qt b [c] = if (c.toNat : Int) = 39 then some (b, 0) else none from rfl, if_pos hc] at h
    cases h; simp
   ·rw [show qt b [c] = if (c.toNat : Int) = 39 then some (b, 0) else none from rfl, if_neg hc] at h
    cases h
  | c :: d :: r, h =>
   simp only [List.length_cons] at hl
   by_cases hc : (c.toNat : Int) = 39
   ·by_cases hd : (d.toNat : Int) = 39
    ·rw [qt, if_pos hc, if_pos hd] at h
     have := ih r (b ++ [d]) (by omega) h
     simp only [List.length_append, List.length_cons, List.length_nil] at this ⊢; omega
    ·rw [qt, if_pos hc, if_neg hd] at h
     cases h; simp
   ·rw [qt, if_neg hc] at h
    have := ih (d :: r) (b ++ [c]) (by simp only [List.length_cons]; omega) h
    simp only [List.length_append, List.length_cons, List.length_nil] at this ⊢; omega
theorem f4 {k : Nat} {l : List UInt8} {x : Lx} (hl : l.length ≤ k) (h : x.nd.sm k) : (IH l x).nd.sm k := by
 unfold IH
 split
 ·rename_i b n hq
  split
  ·have := pY (m := l.tail.length) l.tail [] (Nat.le_refl _) hq
   simp only [List.length_tail, List.length_nil] at this
   show b.length ≤ k
   omega
  ·rw [EP]; exact h
 ·rw [EP]; exact h
theorem mV {k : Nat} {t : List UInt8} {x : Lx} (h : x.nd.sm k) : (I1 t x).nd.sm k := by
 unfold I1
 split
 ·rw [EP]; exact h
 ·split <;> exact Nat.zero_le _
theorem eG {k : Nat} {t : List UInt8} {x : Lx} (hl : t.length ≤ k) (h : x.nd.sm k) : (FM t x).nd.sm k := by
 unfold FM
 repeat' split
 all_goals first
  | exact Nat.zero_le _
  | exact h
  | (rw [EP]; exact h)
  | exact hl
theorem iE {s r : List UInt8} {x : Lx} (hr : r.length ≤ s.length) : (IK s r x).nd.sm s.length := by
 unfold IK
 split
 ·trivial
 ·split
  ·exact mV (x := ⟨_, .zero, _, _, _, _, _⟩) trivial
  ·split
   ·exact eG (x := ⟨_, .zero, _, _, _, _, _⟩) (by rw [List.length_take]; omega) trivial
   ·split
    ·exact f4 (x := ⟨_, .zero, _, _, _, _, _⟩) hr trivial
    ·split
     ·show (Lx.fail _ _ _).nd.sm s.length
      rw [EP]; trivial
     ·trivial
theorem JC {s : List UInt8} {x : Lx} : (BJ s x).nd.sm s.length := iE (KF _ _)
def FrS (s : List UInt8) (fr : Nat → Lx → Xn × Lx) : Prop := ∀ (line : Nat) (x : Lx), x.nd.sm s.length → (fr line x).1.sm s.length ∧ (fr line x).2.nd.sm s.length
section
variable {s : List UInt8} {fr : Nat → Lx → Xn × Lx}
theorem jI (h : FrS s fr) {line : Nat} {x : Lx} (hx : x.nd.sm s.length) : (EA s fr line x).1.sm s.length ∧ (EA s fr line x).2.nd.sm s.length := by
 unfold EA
 split
 ·exact h _ _ JC
 ·split
  ·exact h _ _ JC
  ·split
   ·exact ⟨(h _ _ JC).1, JC⟩
   ·exact ⟨hx, JC⟩
theorem ZT (h : FrS s fr) (line : Nat) : ∀ (k : Nat) (n : Xn) (x : Lx), n.sm s.length → x.nd.sm s.length → (GV s fr k line n x).1.sm s.length ∧ (GV s fr k line n x).2.nd.sm s.length
 | 0, _, _, hn, hx => ⟨hn, hx⟩
 | k + 1, n, x, hn, hx => by
  unfold GV
  split
  ·exact ⟨hn, hx⟩
  ·split
   ·exact ⟨hn, hx⟩
   ·have h1 := h (QI x.say + 1) (BJ s x) JC
    refine ZT h line k _ _ ⟨hn, h1.1⟩ ?_
    unfold LU
    simp only
    split
    ·rw [EP]; exact h1.2
    ·exact h1.2
theorem UX (s : List UInt8) : ∀ f : Nat, FrS s (D5 s f)
 | 0 => fun _ _ hx => ⟨trivial, hx⟩
 | f + 1 => fun line x hx => by
  unfold D5
  split
  ·exact ⟨trivial, hx⟩
  ·have h1 := jI (UX s f) (line := line) hx
   exact ZT (UX s f) line f _ _ h1.1 h1.2
end
theorem bX (s : List UInt8) : (D6 s).1.sm s.length := by
 unfold D6
 split
 ·trivial
 ·simp only
  repeat' split
  all_goals first
   | exact (UX s 258 1 _ JC).1
   | trivial
def Xn.kids : Xn → List Xn
 | .un _ a => [a]
 | .bin _ a b => [a, b]
 | _ => []
theorem Xn.ind {C : Xn → Prop} (h : ∀ n : Xn, (∀ a ∈ n.kids, C a) → C n) : ∀ n : Xn, C n
 | .zero => h _ (fun _ hh => by cases hh)
 | .lit _ => h _ (fun _ hh => by cases hh)
 | .var _ => h _ (fun _ hh => by cases hh)
 | .un o a =>
  have ha := Xn.ind h a
  h (.un o a) (fun x hx => by simp only [Xn.kids, List.mem_singleton] at hx; subst hx; exact ha)
 | .bin o a b =>
  have ha := Xn.ind h a
  have hb := Xn.ind h b
  h (.bin o a b) (fun x hx => by
   simp only [Xn.kids, List.mem_cons, List.not_mem_nil, or_false] at hx
   rcases hx with rfl | rfl
   ·exact ha
   ·exact hb)
theorem Xn.sm_kid {k : Nat} : ∀ {n a : Xn}, n.sm k → a ∈ n.kids → a.sm k
 | .un _ _, _, h, hx => by simp only [Xn.kids, List.mem_singleton] at hx; subst hx; exact h
 | .bin _ _ _, _, h, hx => by
  simp only [Xn.kids, List.mem_cons, List.not_mem_nil, or_false] at hx
  rcases hx with rfl | rfl
  ·exact h.1
  ·exact h.2
def ndC (q : Xn × Option Addr) : List Value := q.1.cells q.2
theorem nA (q : Xn × Option Addr) : (ndC q).length = 7 := rfl
theorem Xn.AtL.kids {t : TypeId} {w : World} : ∀ {n : Xn} {A : Option Addr} {F : List Nat}, n.AtL t w A F → ∃ L : List (Xn × Option Addr), L.map Prod.fst = n.kids ∧ L.length = n.nk ∧ Rd w A (L.length * 7) (AH ndC L) ∧ ∀ q ∈ L, ∃ F', q.1.AtL t w q.2 F'
 | .zero, _, _, h => ⟨[], rfl, rfl, by rw [h.1]; exact Rd.nil, fun _ hh => by cases hh⟩
 | .lit _, _, _, h => ⟨[], rfl, rfl, by rw [h.1]; exact Rd.nil, fun _ hh => by cases hh⟩
 | .var _, _, _, h => ⟨[], rfl, rfl, by rw [h.1]; exact Rd.nil, fun _ hh => by cases hh⟩
 | .un _ a, _, _, ⟨g, B, F', h1, _, h3, h4⟩ => ⟨[(a, B)], rfl, rfl, by rw [h1]; exact Rd.ofBlk h3 rfl, fun q hq => by
  simp only [List.mem_singleton] at hq; subst hq; exact ⟨_, h4⟩⟩
 | .bin _ a b, _, _, ⟨g, B, C, F', F'', h1, _, h3, h4, h5⟩ => ⟨[(a, B), (b, C)], rfl, rfl, by rw [h1]; exact Rd.ofBlk h3 rfl, fun q hq => by
  simp only [List.mem_cons, List.not_mem_nil, or_false] at hq
  rcases hq with rfl | rfl
  ·exact ⟨_, h4⟩
  ·exact ⟨_, h5⟩⟩
theorem Xn.AtL.fr0 {t : TypeId} {w w' : World} {n : Xn} {A : Option Addr} {F : List Nat} (h : n.AtL t w A F) (hf : Fr0 w w') : n.AtL t w' A F := h.keep (fun g _ hg => hf.block g hg (fun hh => hh))
theorem Xn.nk_le (n : Xn) : n.nk ≤ 2 := by cases n <;> simp [Xn.nk]
theorem GG {w w' : World} {L : List (Nat × List Value)} (h : Laid w L) (hf : Fr0 w w') : Laid w' L := fun p hp => by
 obtain ⟨el, fz, h1⟩ := h p hp
 exact ⟨el, fz, (hf.block _ (Array.getElem?_eq_some_iff.1 h1).1 (fun hh => hh)).trans h1⟩
def SG (b : UInt8) : List Value := [.int .u8 (b.toNat : Int)]
theorem U1 (b : UInt8) : (SG b).length = 1 := rfl
section
variable {P : Program} {Q : Exit → Act → World → Prop} {n f t : Nat} {e : Env} {w w0 : World} {S : World → Prop} {U : Nat → Prop} {L : List As} {ops : Array Oper} {o : Oper} {rest : List Oper} {listed : Array Bool} {x y : Operand} {g d ty m tb : Nat} {cs new xs zs : List Value} {v : Value} {k : IntKind} {a b : Int}
inductive Kp (e : Env) : List Nat → Env → Env → Prop
 | nil {r : Env} : Kp e [] r r
 | cons {k : Nat} {v : Value} {ks : List Nat} {r r' : Env} (h : e.get k = some v) (t : Kp e ks ((k, v) :: r) r') : Kp e (k :: ks) r r'
theorem flp {c : Code} (ks : List Nat) {z : Env} (I : Env → Env → World → Nat → Prop) {m0 : Nat} {e0 : Env} (h0 : I z e0 w m0) (k : ∀ e w m, I z e w m → Sx P c (Exit.then (aU (I z) n m) Q) n e w) (hk : Kp e ks [] z := by repeat (first | exact Kp.nil | (apply Kp.cons; exact rfl))) (hl : e0.le e := by repeat (first | exact trivial | refine ⟨rfl, ?_⟩)) : Sx P (Code.loop c) Q n e w := let _ := hk; G0 (I z) h0 hl k
theorem fag {I : Env → World → Nat → Prop} {m : Nat} {r : Env} {m' : Nat} (hI : I r w m') (hm : m' < m := by first | omega | (simp <;> omega)) (hl : r.le e := by repeat (first | exact trivial | refine ⟨rfl, ?_⟩)) : QX (Exit.then (aU I n m) Q) .normal n e w := FH r m' hI hm hl
theorem fvm {l : List Oper} (M : Mem w0 U L w) (cut : Nat) (ks : List Nat) (nw : Env) {r : Env} (h : ∀ w', Mem w0 U L w' → SxL P ops Q n (l.drop cut) r w') (k : (∀ {e' w'}, Mem w0 U L w' → (hl : r.le e' := by repeat (first | exact trivial | refine ⟨rfl, ?_⟩)) → SxL P ops Q n (l.drop cut) e' w') → SxL P ops Q n l e w) (hk : Kp e ks nw r := by repeat (first | exact Kp.nil | (apply Kp.cons; exact rfl))) : SxL P ops Q n l e w := let _ := M; let _ := hk; DI cut r (Mem w0 U L) h fun k' => k fun {_ _} h1 h2 => k' _ _ h1 h2
theorem fvs {q : Act → Prop} {l : List Oper} (cut : Nat) (ks : List Nat) (nw : Env) {r : Env} (h : SxS P ops w q n (l.drop cut) r) (k : (∀ e', r.le e' → SxS P ops w q n (l.drop cut) e') → SxS P ops w q n l e) (hk : Kp e ks nw r := by repeat (first | exact Kp.nil | (apply Kp.cons; exact rfl))) : SxS P ops w q n l e := let _ := hk; m4 cut r h k
theorem fon {t1 : Nat} (M : Mem w0 U L w) (i d : Nat) (ho : ops[i]? = some o) (hd : (o.guard, o.dst, Nat.blt d n, o.op) = (none, some d, true, .alloc t1)) (hz : (P.info? t1).map (·.zero) = some (some (.agg zs.toArray))) (k : ∀ g w', w.heap.size ≤ g → Mem w0 U (As.blk g t1 zs :: L) w' → SxO P ops Q t S n f (listed.setIfInBounds i true) ((d, .pointer (some ⟨g, 0, none⟩)) :: e) w') (hr : Region.ready .any ops listed = [i] := by kernel_rfl) (hS : ∀ w', Mem w0 U L w' → S w' := by exact fun _ h => h) : SxO P ops Q t S n (f + 1) listed e w := by
 simp only [Prod.mk.injEq] at hd
 refine BB i (some d) hr ho (AA hd.1) hd.2.1 hd.2.2.1 (fun ρ hρ => D9 t1 hd.2.2.2 _ zs hz rfl) ?_
 rintro _ w1 ⟨g, rfl, h1, h2, hb, hf⟩
 exact ⟨fun _ => hS _ (M.step hf), k g w1 h1 (M.push hf _ hb (EB h1 h2))⟩
theorem fop (M : Mem w0 U L w) (i j : Nat) (ho : ops[i]? = some o) (hd : (o.guard, o.dst, o.op) = (none, none, .store ty x y)) (hx : (ev e x, ev e y, L[j]?) = (some (.pointer (some ⟨g, 0, none⟩)), some (.agg new.toArray), some (As.blk g tb cs))) (hi : (P.info? ty).map (·.size) = some m) (hm : (new.length, cs.length, YB new) = (m, m, true)) (hS : ∀ {w'}, Mem w0 U (L.set j (As.blk g tb new)) w' → S w') (k : ∀ w', Mem w0 U (L.set j (As.blk g tb new)) w' → SxO P ops Q t S n f (listed.setIfInBounds i true) e w') (hr : Region.ready .any ops listed = [i] := by kernel_rfl) : SxO P ops Q t S n (f + 1) listed e w := by
 simp only [Prod.mk.injEq] at hd hx hm
 obtain ⟨hm1, hm2, h1⟩ := hm
 subst hm1
 refine BB i none hr ho (AA hd.1) hd.2.1 rfl (fun ρ hρ => C2 ty x y hd.2.2 g 0 tb cs new (hρ _ _ hx.1) (hρ _ _ hx.2.1) (M.blk j hx.2.2) hi (by omega) (BP h1)) ?_
 rintro _ w1 ⟨rfl, hb, hf⟩
 rw [KV _ _ hm2.symm] at hb
 have M' := M.putB j hx.2.2 hb hf
 exact ⟨fun _ => hS M', k w1 M'⟩
theorem fo1 (i : Nat) (ho : ops[i]? = some o) (hd : (o.guard, o.dst, Nat.blt d n) = (none, some d, true)) (hy : Y P e o w v) (k : SxO P ops Q t S n f (listed.setIfInBounds i true) ((d, v) :: e) w) (hr : Region.ready .any ops listed = [i] := by kernel_rfl) (hS : i < t → S w := by exact fun h => absurd h (by decide)) : SxO P ops Q t S n (f + 1) listed e w := by
 simp only [Prod.mk.injEq] at hd
 exact BB i (some d) hr ho (AA hd.1) hd.2.1 hd.2.2 (R := fun u w' => u = v ∧ w' = w) (fun ρ hρ => ⟨v, w, .inl (hy ρ hρ), rfl, rfl⟩) fun u w' ⟨h1, h2⟩ => by subst h1; subst h2; exact ⟨hS, k⟩
theorem fdn (k : QX Q .normal n e w) (hr : Region.ready .any ops listed = [] := by kernel_rfl) : SxO P ops Q t S n f listed e w := EQ hr k
theorem CW {c : TypeDesc} (M : Mem w0 U L w) (j : Nat) (h : (o.guard, o.dst, Nat.blt d n, o.op) = (none, some d, true, .load ty x)) (hx : (ev e x, L[j]?) = (some (.pointer (some ⟨g, 0, none⟩)), some (As.blk g tb xs))) (hu : P.underlying ty = some c) (hi : (P.info? ty).map (·.size) = some m) (hr : (c.isRow, xs.length) = (true, m)) (k : SxL P ops Q n rest ((d, .agg xs.toArray) :: e) w) : SxL P ops Q n (o :: rest) e w := by
 simp only [Prod.mk.injEq] at h hx hr
 exact J7 (AA h.1) h.2.1 h.2.2.1 (AU h.2.2.2 hx.1 (M.rdBlk j hx.2 hr.2) hu hr.1 hi) k
theorem C4 (M : Mem w0 U L w) (j : Nat) (hd : (o.guard, o.dst, o.op) = (none, none, .store ty x y)) (hx : (ev e x, ev e y, L[j]?) = (some (.pointer (some ⟨g, 0, none⟩)), some (.agg new.toArray), some (As.blk g tb cs))) (hi : (P.info? ty).map (·.size) = some m) (hm : (new.length, cs.length, YB new) = (m, m, true)) (k : ∀ w', Mem w0 U (L.set j (As.blk g tb new)) w' → SxL P ops Q n rest e w') : SxL P ops Q n (o :: rest) e w := by
 simp only [Prod.mk.injEq] at hd hx hm
 obtain ⟨hm1, hm2, h1⟩ := hm
 exact D7 M j (AA hd.1) hd.2.1 hd.2.2 hx.1 hx.2.1 hx.2.2 hi hm1 (by omega) (BP h1) (KV _ _ (by omega)) k
theorem gp1 {off : Nat} (M : Mem w0 U L w) (j : Nat) (hd : (o.guard, o.dst, o.op) = (none, none, .store ty x y)) (hx : (ev e x, ev e y, L[j]?) = (some (.pointer (some ⟨g, off, none⟩)), some v, some (As.blk g tb cs))) (hv : (v.cells, v.oneCell', Nat.blt off cs.length) = (#[v], true, true)) (hi : (P.info? ty).map (·.size) = some 1) (k : ∀ w', Mem w0 U (L.set j (As.blk g tb (cs.set off v))) w' → SxL P ops Q n rest e w') : SxL P ops Q n (o :: rest) e w := by
 simp only [Prod.mk.injEq] at hd hx hv
 exact D0 M j (AA hd.1) hd.2.1 hd.2.2 hx.1 hx.2.1 hx.2.2 hv.1 hv.2.1 hi (CO hv.2.2) rfl k
theorem CR (M : Mem w0 U L w) (h : (o.guard, o.dst, Nat.blt d n, o.op) = (none, some d, true, .box ty x)) (hx : ev e x = some (.agg cs.toArray)) (k : ∀ g w', w.heap.size ≤ g → Mem w0 U (As.blk g ty cs :: L) w' → SxL P ops Q n rest ((d, .pointer (some ⟨g, 0, none⟩)) :: e) w') : SxL P ops Q n (o :: rest) e w := by
 simp only [Prod.mk.injEq] at h
 exact E3 M (AA h.1) h.2.1 h.2.2.1 ty h.2.2.2 hx cs rfl k
theorem DC (M : Mem w0 U L w) (h : (o.guard, o.dst, Nat.blt d n, o.op) = (none, some d, true, .alloc ty)) (hz : (P.info? ty).map (·.zero) = some (some (.agg zs.toArray))) (k : ∀ g w', w.heap.size ≤ g → Mem w0 U (As.blk g ty zs :: L) w' → SxL P ops Q n rest ((d, .pointer (some ⟨g, 0, none⟩)) :: e) w') : SxL P ops Q n (o :: rest) e w := by
 simp only [Prod.mk.injEq] at h
 exact DJ M (AA h.1) h.2.1 h.2.2.1 ty h.2.2.2 zs hz rfl k
theorem D4 {F : FuncId} {xs : List Operand} {vs : List Value} {ts : Array TypeId} (M : Mem w0 U L w) (d : Nat) (h : (o.guard, o.dst, MF n (some d), o.op) = (none, some d, true, .call { callee := .value (.func F), args := xs.toArray, argTypes := ts })) (hx : evs e xs = some vs) (hc : ∀ (us : Array Value) (w : World), (callFunc F us).run P w = .ok (.enter F us) w) (hC : Calls P F vs.toArray w fun x w' => x = .returned v ∧ Fr0 w w') (k : ∀ w', Mem w0 U L w' → SxL P ops Q n rest ((d, v) :: e) w') : SxL P ops Q n (o :: rest) e w := by
 simp only [Prod.mk.injEq] at h
 exact OZ M d (by simp only [h.1, h.2.1, h.2.2.1]) (AP h.2.2.2 hx hc) hC k
theorem sJ {F : FuncId} {xs : List Operand} {vs : List Value} {ts : Array TypeId} {R : Ending → World → Prop} (d : Nat) (h : (o.guard, o.dst, MF n (some d), o.op) = (none, some d, true, .call { callee := .value (.func F), args := xs.toArray, argTypes := ts })) (hx : evs e xs = some vs) (hc : ∀ (us : Array Value) (w : World), (callFunc F us).run P w = .ok (.enter F us) w) (hC : Calls P F vs.toArray w R) (k : ∀ x w', R x w' → ∃ v, x = .returned v ∧ SxL P ops Q n rest (e.ins (some d) v) w') : SxL P ops Q n (o :: rest) e w := by
 simp only [Prod.mk.injEq] at h
 exact B3 (some d) (AA h.1) h.2.1 h.2.2.1 (AP h.2.2.2 hx hc) hC k
theorem CF {t t' : Nat} (h : (o.guard, o.dst, Nat.blt d n, o.op) = (none, some d, true, .binOp .lss t x y t')) (hx : (ev e x, ev e y) = (some (.int k a), some (.int k b))) (q : SxL P ops Q n rest ((d, .bool (decide (a < b))) :: e) w) : SxL P ops Q n (o :: rest) e w := by
 simp only [Prod.mk.injEq] at h hx
 exact J7 (AA h.1) h.2.1 h.2.2.1 (ED h.2.2.2 hx.1 hx.2) q
theorem RW {t t' : Nat} (h : (o.guard, o.dst, Nat.blt d n, o.op) = (none, some d, true, .binOp .leq t x y t')) (hx : (ev e x, ev e y) = (some (.int k a), some (.int k b))) (q : SxL P ops Q n rest ((d, .bool (decide (a ≤ b))) :: e) w) : SxL P ops Q n (o :: rest) e w := by
 simp only [Prod.mk.injEq] at h hx
 exact J7 (AA h.1) h.2.1 h.2.2.1 (GP h.2.2.2 hx.1 hx.2) q
theorem LD {t t' : Nat} (h : (o.guard, o.dst, Nat.blt d n, o.op) = (none, some d, true, .binOp .gtr t x y t')) (hx : (ev e x, ev e y) = (some (.int k a), some (.int k b))) (q : SxL P ops Q n rest ((d, .bool (decide (b < a))) :: e) w) : SxL P ops Q n (o :: rest) e w := by
 simp only [Prod.mk.injEq] at h hx
 exact J7 (AA h.1) h.2.1 h.2.2.1 (GC h.2.2.2 hx.1 hx.2) q
theorem RX {t t' : Nat} (h : (o.guard, o.dst, Nat.blt d n, o.op) = (none, some d, true, .binOp .geq t x y t')) (hx : (ev e x, ev e y) = (some (.int k a), some (.int k b))) (q : SxL P ops Q n rest ((d, .bool (decide (b ≤ a))) :: e) w) : SxL P ops Q n (o :: rest) e w := by
 simp only [Prod.mk.injEq] at h hx
 exact J7 (AA h.1) h.2.1 h.2.2.1 (FQ h.2.2.2 hx.1 hx.2) q
theorem CN {t t' : Nat} (h : (o.guard, o.dst, Nat.blt d n, o.op) = (none, some d, true, .binOp .eql t x y t')) (hx : (ev e x, ev e y) = (some (.int k a), some (.int k b))) (q : SxL P ops Q n rest ((d, .bool (decide (a = b))) :: e) w) : SxL P ops Q n (o :: rest) e w := by
 simp only [Prod.mk.injEq] at h hx
 exact J7 (AA h.1) h.2.1 h.2.2.1 (BZ h.2.2.2 hx.1 hx.2) q
theorem DA {t t' : Nat} (h : (o.guard, o.dst, Nat.blt d n, o.op) = (none, some d, true, .binOp .neq t x y t')) (hx : (ev e x, ev e y) = (some (.int k a), some (.int k b))) (q : SxL P ops Q n rest ((d, .bool (!decide (a = b))) :: e) w) : SxL P ops Q n (o :: rest) e w := by
 simp only [Prod.mk.injEq] at h hx
 exact J7 (AA h.1) h.2.1 h.2.2.1 (E4 h.2.2.2 hx.1 hx.2) q
theorem gyq {j d' : Nat} {b : Bool} (h : (o.guard, (ops[j]?).bind (·.dst), e.get d', o.dst, Nat.blt d n, JA (NR foL) e o.op) = (some (j, b), some d', some (.bool b), some d, true, some v)) (k : SxL prog ops Q n rest ((d, v) :: e) w) : SxL prog ops Q n (o :: rest) e w := by
 simp only [Prod.mk.injEq] at h
 exact J7 (BG h.1 h.2.1 h.2.2.1) h.2.2.2.1 h.2.2.2.2.1 (yp h.2.2.2.2.2) k
theorem gsg {q : Act → Prop} {j d' : Nat} {b : Bool} (h : (o.guard, (ops[j]?).bind (·.dst), e.get d', o.dst, Nat.blt d n) = (some (j, b), some d', some (.bool b), some d, true)) (hy : Y P e o w v) (k : SxS P ops w q n rest ((d, v) :: e)) : SxS P ops w q n (o :: rest) e := by
 simp only [Prod.mk.injEq] at h
 exact VY (BG h.1 h.2.1 h.2.2.1) h.2.2.2.1 h.2.2.2.2 hy k
theorem BC {off : Nat} (M : Mem w0 U L w) (i : Nat) (h : (o.guard, o.dst, Nat.blt d n, o.op) = (none, some d, true, .load ty x)) (hx : (ev e x, QK scL ty, L[i]?) = (some (.pointer (some ⟨g, off, none⟩)), true, some (As.blk g tb cs))) (hu : cs[off]? = some v) (k : SxL prog ops Q n rest ((d, v) :: e) w) : SxL prog ops Q n (o :: rest) e w := by
 simp only [Prod.mk.injEq] at h hx
 exact J7 (AA h.1) h.2.1 h.2.2.1 (BW h.2.2.2 hx.1 (sc hx.2.1) (M.cell i hx.2.2 hu)) k
theorem CJ {off j d' : Nat} {b : Bool} (M : Mem w0 U L w) (i : Nat) (h : (o.guard, (ops[j]?).bind (·.dst), e.get d', o.dst, Nat.blt d n, o.op) = (some (j, b), some d', some (.bool b), some d, true, .load ty x)) (hx : (ev e x, QK scL ty, L[i]?) = (some (.pointer (some ⟨g, off, none⟩)), true, some (As.blk g tb cs))) (hu : cs[off]? = some v) (k : SxL prog ops Q n rest ((d, v) :: e) w) : SxL prog ops Q n (o :: rest) e w := by
 simp only [Prod.mk.injEq] at h hx
 exact J7 (BG h.1 h.2.1 h.2.2.1) h.2.2.2.1 h.2.2.2.2.1 (BW h.2.2.2.2.2 hx.1 (sc hx.2.1) (M.cell i hx.2.2 hu)) k
theorem FL {off : Nat} {q : Act → Prop} (M : Mem w0 U L w) (i : Nat) (h : (o.guard, o.dst, Nat.blt d n, o.op) = (none, some d, true, .load ty x)) (hx : (ev e x, QK scL ty, L[i]?) = (some (.pointer (some ⟨g, off, none⟩)), true, some (As.blk g tb cs))) (hu : cs[off]? = some v) (k : SxS prog ops w q n rest ((d, v) :: e)) : SxS prog ops w q n (o :: rest) e := by
 simp only [Prod.mk.injEq] at h hx
 exact VY (AA h.1) h.2.1 h.2.2.1 (BW h.2.2.2 hx.1 (sc hx.2.1) (M.cell i hx.2.2 hu)) k
def qC (ops : Array Oper) (e : Env) (i n : Nat) : Option Nat := match ops[i]? with
 | some o => match o.guard, o.dst with
  | some (j, b), some d => match (ops[j]?).bind (·.dst) with
   | some d0 => match e.get d0, Nat.blt d n with
    | some (.bool c), true => match c == b with
     | true => none
     | false => some d
    | _, _ => none
   | none => none
  | _, _ => none
 | none => none
theorem cB {i : Nat} (h : qC ops e i n = some d) : ∃ o j b d0 c, ops[i]? = some o ∧ o.guard = some (j, b) ∧ (ops[j]?).bind (·.dst) = some d0 ∧ e.get d0 = some (.bool c) ∧ (c == b) = false ∧ o.dst = some d ∧ Nat.blt d n = true := by
 unfold qC at h
 split at h
 ·rename_i o ho
  split at h
  ·rename_i j b d1 hg hd
   split at h
   ·rename_i d0 h0
    split at h
    ·rename_i c hc hn
     split at h
     ·cases h
     ·rename_i hcb
      obtain rfl : d1 = d := Option.some.inj h
      exact ⟨o, j, b, d0, c, ho, hg, h0, hc, hcb, hd, hn⟩
    ·cases h
   ·cases h
  ·cases h
 ·cases h
theorem C9 (i h : Nat) (hd : qC ops e i n = some d) (hS : S w) (k : SxO P ops Q t S n f (listed.setIfInBounds i true) ((d, undef) :: e) w) (hs : Region.noSelect ops = true := by kernel_rfl) (hQ : ∀ c (a : Act) t v w, Q (.panic c) (a.put t v) w → Q (.panic c) a w := by exact fun c a t v w h => by cases t <;> exact h) (hwait : HN ops h t = true := by kernel_rfl) (hih : Nat.blt i h = true := by exact rfl) (hf : Region.free .any ops listed i = true := by kernel_rfl) (hr : (Region.ready .any ops listed).contains i = true := by kernel_rfl) : SxO P ops Q t S n (f + 1) listed e w := by
 obtain ⟨o, j, b, d0, c, ho, hg, h0, hc, hcb, hd, hn⟩ := cB hd
 exact ZE i h hs hQ hwait hih hf hr ho hg h0 hc hcb hd hn hS k
theorem fD {o : Oper} {d d0 j : Nat} {b : Bool} (i h : Nat) (hs : Region.noSelect ops = true) (hQ : ∀ c (a : Act) t v w, Q (.panic c) (a.put t v) w → Q (.panic c) a w) (hwait : HN ops h t = true) (hih : Nat.blt i h = true) (hf : Region.free .any ops listed i = true) (hr : (Region.ready .any ops listed).contains i = true) (ho : ops[i]? = some o) (hg : o.guard = some (j, b)) (hj : (ops[j]?).bind (·.dst) = some d0) (hb : e.get d0 = some undef) (hd : o.dst = some d) (hn : Nat.blt d n = true) (hS : S w)
 (k : SxO P ops Q t S n f (listed.setIfInBounds i true) ((d, undef) :: e) w) : SxO P ops Q t S n (f + 1) listed e w := ⟨fun a ha => by
 have hw : Region.wanted o (yielded ops a.tmps) = false := by
  simp [Region.wanted, hg, yielded, hj, ha.get d0 _ hb, undef]
 refine KO (v := undef) ho (Region.noSelect_spec hs) (fun c a w => hQ c a _ _ w) hwait (CO hih) f listed a w (Region.free_spec ho hf) (by simpa using hr) (.inr ⟨hw, rfl⟩) hS ?_
 rw [hd]; exact k.run _ (ha.put (CO hn) undef)⟩
theorem EU {d0 j : Nat} {b : Bool} (i h : Nat) (ho : ops[i]? = some o) (hd : (o.guard, (ops[j]?).bind (·.dst), e.get d0, o.dst, Nat.blt d n) = (some (j, b), some d0, some undef, some d, true)) (hS : S w) (k : SxO P ops Q t S n f (listed.setIfInBounds i true) ((d, undef) :: e) w) (hs : Region.noSelect ops = true := by kernel_rfl) (hQ : ∀ c (a : Act) t v w, Q (.panic c) (a.put t v) w → Q (.panic c) a w := by exact fun c a t v w h => by cases t <;> exact h) (hwait : HN ops h t = true := by kernel_rfl) (hih : Nat.blt i h = true := by exact rfl) (hf : Region.free .any ops listed i = true := by kernel_rfl) (hr : (Region.ready .any ops listed).contains i = true := by kernel_rfl) : SxO P ops Q t S n (f + 1) listed e w := by
 simp only [Prod.mk.injEq] at hd
 exact fD i h hs hQ hwait hih hf hr ho hd.1 hd.2.1 hd.2.2.1 hd.2.2.2.1 hd.2.2.2.2 hS k
theorem C5 {F : FuncId} {fn : Func} {c : Code} {vs : List Value} {R : Ending → World → Prop} (hf : P.funcs[F]? = some fn) (hn : fn.ntmps = n) (hb : (fn.body, Nat.ble vs.length n) = (some c, true)) (h : Mem w B0 [] w → Sx P c (bodyPost P fn R) n (PY 0 vs) w) : Calls P F vs.toArray w R := by
 simp only [Prod.mk.injEq] at hb
 exact BE hf hb.1 hn hb.2 (h (Mem.nil w))
theorem gr1 {fn : Func} {R : Ending → World → Prop} {t : Nat} (hr : (fn.results, e.get t) = (#[.tmp t], some v)) (h : R (.returned v) w) : QX (bodyPost P fn R) .ret n e w := by
 simp only [Prod.mk.injEq] at hr
 exact CQ hr.1 hr.2 h
theorem gnr (h : QX Q .ret n e w) {Q' : Exit → Act → World → Prop} : SxL P ops (Exit.then (Code.ret.wp P Q) Q') n [] e w := AR (AD (BN h))
theorem AT {α : Type} {b : Bool} {x y : α} (h : b = false) : (if b = true then x else y) = y := if_neg (I2 h)
theorem AY {y : Code} {Q' : Exit → Act → World → Prop} (h : (o.guard, o.dst, Nat.blt d n, JA (NR foL) e o.op) = (none, some d, true, some v)) (k : Sx prog y Q n ((d, v) :: e) w) : SxL prog ops (Exit.then (y.wp prog Q) Q') n [o] e w := yb h (nq k)
theorem AQ {id : Nat} {y : Code} (h : (o.guard, o.dst, Nat.blt d n, JA (NR foL) e o.op) = (none, some d, true, some v)) (k : SxL prog (o :: rest).toArray (Exit.then (y.wp prog Q) Q) n rest ((d, v) :: e) w) : Sx prog (Code.seq (Code.region id (o :: rest).toArray false) y) Q n e w := srg (yb h k)
theorem BM {o' : Oper} {d' : Nat} {v' : Value} (h : (o.guard, o.dst, Nat.blt d n, JA (NR foL) e o.op) = (none, some d, true, some v)) (h' : (o'.guard, o'.dst, Nat.blt d' n, JA (NR foL) ((d, v) :: e) o'.op) = (none, some d', true, some v')) (k : SxL prog ops Q n rest ((d', v') :: (d, v) :: e) w) : SxL prog ops Q n (o :: o' :: rest) e w := yb h (yb h' k)
theorem N2 {id : Nat} {l : List Oper} {y : Code} {Q' : Exit → Act → World → Prop} (h : SxL P l.toArray (Exit.then (y.wp P Q) Q) n l e w) : SxL P ops (Exit.then ((Code.seq (Code.region id l.toArray false) y).wp P Q) Q') n [] e w := nq (srg h)
theorem AM {p : Prop} (h : p := by omega) : p := h
theorem CX {p : Prop} (h : p := by first | omega | (simp; omega) | (simp <;> omega)) : p := h
theorem gkr {p : Prop} (h : p := by kernel_rfl) : p := h
theorem BU {p : Prop} (h : p := by decide) : p := h
end
end
end Go.Proofs.YtjaocmocdhckaaaGreatDoor
