/- Lemmas that the last text rests on. Condition: each says its own. -/
import Derived.Test.YtdaihdknnlphkaaGreatDoorZb8
set_option maxHeartbeats 16000000
set_option maxRecDepth 100000
namespace Go.Proofs.YtdaihdknnlphkaaGreatDoor
open Go.RowKit
open Tryz
section
section
variable {P : Program} {ops : Array Oper} {Q : Exit → Act → World → Prop} {S : World → Prop} {t n f : Nat} {listed : Array Bool} {e : Env} {w : World}
theorem LR {o : Oper} {d : Nat} {v : Value} (i : Nat) (hr : Region.ready .any ops listed = [i]) (ho : ops[i]? = some o) (hw : Wn ops e o) (hd : o.dst = some d) (hn : Nat.blt d n = true) (hy : Y P e o w v) (hS : i < t → S w)
 (k : SxO P ops Q t S n f (listed.setIfInBounds i true) ((d, v) :: e) w) : SxO P ops Q t S n (f + 1) listed e w :=
 BG i (some d) hr ho hw hd hn (R := fun u w' => u = v ∧ w' = w) (fun ρ hρ => ⟨v, w, .inl (hy ρ hρ), rfl, rfl⟩) fun u w' ⟨h1, h2⟩ => by subst h1; subst h2; exact ⟨hS, k⟩
end
theorem Mem.bin {w0 w : World} {S : Nat → Prop} {L : List As} {t g : Nat} {op : UInt8} {a b : Xn} {B C : Option Addr} {F F' : List Nat} (M : Mem w0 S (As.blk g t (a.cells B ++ b.cells C) :: As.xn t a B F :: As.xn t b C F' :: L) w) : Mem w0 S (As.xn t (.bin op a b) (some ⟨g, 0, none⟩) (g :: (F ++ F')) :: L) w := by
 have get : ∀ (i : Nat) (c : As), L[i]? = some c → (As.blk g t (a.cells B ++ b.cells C) :: As.xn t a B F :: As.xn t b C F' :: L)[i + 3]? = some c := fun i c h => h
 have fp : ∀ k, k ∈ (As.xn t (.bin op a b) (some ⟨g, 0, none⟩) (g :: (F ++ F'))).fp → ∃ (i : Nat) (c : As), i < 3 ∧ (As.blk g t (a.cells B ++ b.cells C) :: As.xn t a B F :: As.xn t b C F' :: L)[i]? = some c ∧ k ∈ c.fp := fun k hk => by
  rcases List.mem_cons.1 (show k ∈ g :: (F ++ F') from hk) with rfl | hk
  ·exact ⟨0, _, by decide, rfl, by simp [As.blk]⟩
  ·rcases List.mem_append.1 hk with hk | hk
   ·exact ⟨1, _, by decide, rfl, hk⟩
   ·exact ⟨2, _, by decide, rfl, hk⟩
 refine ⟨M.fr, ?_, ?_, ?_⟩
 ·intro i c hi
  cases i with
  | zero =>
   simp only [List.getElem?_cons_zero, Option.some.injEq] at hi; subst hi
   exact ⟨g, B, C, F, F', rfl, rfl, M.blk 0 rfl, M.ok 1 _ rfl, M.ok 2 _ rfl⟩
  | succ i => exact M.ok (i + 3) c (get i c (by simpa using hi))
 ·intro i c hi k hk
  cases i with
  | zero =>
   simp only [List.getElem?_cons_zero, Option.some.injEq] at hi; subst hi
   obtain ⟨j, d, _, h1, h2⟩ := fp k hk
   exact M.lt j d h1 k h2
  | succ i => exact M.lt (i + 3) c (get i c (by simpa using hi)) k hk
 ·intro i j c d hi hj hne k hk hk'
  cases i with
  | zero =>
   cases j with
   | zero => exact hne rfl
   | succ j =>
    simp only [List.getElem?_cons_zero, Option.some.injEq] at hi; subst hi
    obtain ⟨q, d', hq, h1, h2⟩ := fp k hk
    exact M.apart q (j + 3) d' d h1 (get j d (by simpa using hj)) (by omega) k h2 hk'
  | succ i =>
   cases j with
   | zero =>
    simp only [List.getElem?_cons_zero, Option.some.injEq] at hj; subst hj
    obtain ⟨q, d', hq, h1, h2⟩ := fp k hk'
    exact M.apart (i + 3) q c d' (get i c (by simpa using hi)) h1 (by omega) k hk h2
   | succ j => exact M.apart (i + 3) (j + 3) c d (get i c (by simpa using hi)) (get j d (by simpa using hj)) (by omega) k hk hk'
theorem eA {s : List UInt8} {x : Lx} (h : LxI s x) (he : x.e = 0) : 0 < lxM s x := by
 have := h.at_; have := h.tat
 unfold lxM; rw [if_pos he]; omega
theorem mD (k : List UInt8) : ((AH k).getD (0, 0)).2 ≤ 6 := rH k
theorem t8 {s : List UInt8} {f line : Nat} {x : Lx} (h : ¬ x.e = 0) : CG s (f + 1) line x = (.zero, x) := by rw [CG, if_pos h]
theorem nX {s : List UInt8} {f line : Nat} {x : Lx} {fr : Nat → Lx → Xn × Lx} (h : x.e = 0) (hfr : fr = CG s (f + 1)) : CG s (f + 1 + 1) line x = FM s fr (f + 1) line (D6 s fr line x).1 (D6 s fr line x).2 := by
 subst hfr
 rw [CG, if_neg (fun z => z h)]
section
variable {s : List UInt8} {fr : Nat → Lx → Xn × Lx} {line k : Nat} {n : Xn} {y : Lx}
theorem iT (h : ¬ y.e = 0) : FM s fr k line n y = (n, y) := by
 cases k with
 | zero => rfl
 | succ k => rw [FM, if_pos h]
theorem gL (h : ((!(AH y.say).isSome) || (decide (((((AH y.say).getD (0, 0)).2 : Nat) : Int) < ((line : Nat) : Int)))) = false) : ¬ y.say = [] := XR fun z => by
 have := C5 (CE h).1
 cases hs : AH y.say with
 | none => rw [hs] at this; cases this
 | some v => rw [hs] at z; cases z
theorem bE (he : y.e = 0) (h : ((!(AH y.say).isSome) || (decide (((((AH y.say).getD (0, 0)).2 : Nat) : Int) < ((line : Nat) : Int)))) = true) : FM s fr (k + 1) line n y = (n, y) := by
 rw [FM, if_neg (fun z => z he), if_pos]
 rcases EL h with h | h
 ·left
  have := C4 h
  cases hs : AH y.say with
  | none => rfl
  | some v => rw [hs] at this; cases this
 ·right
  have := odt h
  unfold QI; omega
theorem SD (he : y.e = 0) (h : ((!(AH y.say).isSome) || (decide (((((AH y.say).getD (0, 0)).2 : Nat) : Int) < ((line : Nat) : Int)))) = false) : FM s fr (k + 1) line n y = FM s fr k line (.bin ((AH y.say).getD (0, 0)).1 n (KW s fr y).1) (KW s fr y).2 := by
 rw [FM, if_neg (fun z => z he), if_neg]
 intro z
 rcases z with z | z
 ·have := C5 (CE h).1
  cases hs : AH y.say with
  | none => rw [hs] at this; cases this
  | some v => rw [hs] at z; cases z
 ·have := odf (CE h).2
  unfold QI at z; omega
theorem iU (he : y.e = 0) (h : ((!(AH y.say).isSome) || (decide (((((AH y.say).getD (0, 0)).2 : Nat) : Int) < ((line : Nat) : Int)))) = false)
 (h2 : ((decide (((((AH y.say).getD (0, 0)).2 : Nat) : Int) = (4 : Int))) && (decide (((((AH (fr (((AH y.say).getD (0, 0)).2 + 1) (B6 s y)).2.say).getD (0, 0)).2 : Nat) : Int) = (4 : Int)))) = true) : FM s fr (k + 1) line n y = FM s fr k line (.bin ((AH y.say).getD (0, 0)).1 n (fr (((AH y.say).getD (0, 0)).2 + 1) (B6 s y)).1) ((fr (((AH y.say).getD (0, 0)).2 + 1) (B6 s y)).2.fail 4 (fr (((AH y.say).getD (0, 0)).2 + 1) (B6 s y)).2.tat) := by
 rw [SD he h]
 have h3 := odt (C9 h2).1
 have h4 := odt (C9 h2).2
 unfold KW QI
 simp only
 rw [if_pos ⟨by omega, by omega⟩]
theorem mZ (he : y.e = 0) (h : ((!(AH y.say).isSome) || (decide (((((AH y.say).getD (0, 0)).2 : Nat) : Int) < ((line : Nat) : Int)))) = false)
 (h2 : ((decide (((((AH y.say).getD (0, 0)).2 : Nat) : Int) = (4 : Int))) && (decide (((((AH (fr (((AH y.say).getD (0, 0)).2 + 1) (B6 s y)).2.say).getD (0, 0)).2 : Nat) : Int) = (4 : Int)))) = false) : FM s fr (k + 1) line n y = FM s fr k line (.bin ((AH y.say).getD (0, 0)).1 n (fr (((AH y.say).getD (0, 0)).2 + 1) (B6 s y)).1) (fr (((AH y.say).getD (0, 0)).2 + 1) (B6 s y)).2 := by
 rw [SD he h]
 have h3 := (EH h2).imp odf odf
 unfold KW QI
 simp only
 rw [if_neg (by omega)]
end
theorem I7  : prog.built 129 [] = some #[.int .u8 0, .int .u8 0, .int .i64 0, .bool false, str [], str [], .slice none 0 0] := by kernel_rfl
theorem Y2 {s : List UInt8} {gx c5 c6 c7 c8 c9 c10 : Nat} {f : Nat} (h : ∀ f', f = f' + 1 → FromOK s gx c5 c6 c7 c8 c9 c10 f' (CG s (f' + 1))) (line : Nat) (hl : line ≤ 7) (x : Lx) (w : World) (hb : Blk w gx 142 (Lx.cells s x)) (hx : LxI s x) (hm : lxM s x ≤ f) (hE : PE s w gx c5 c6 c7 c8 c9 c10) (hY : Lay0 w) :
 Calls prog 128 #[.int .i64 (line : Int), pg c5, pg c10, pg c6] w (VM s gx w (CG s (f + 1) line x)) := by
 have hGx : ∀ k, k = gx → nGlob ≤ k := fun _ e => e ▸ hE.g
 refine AJ (vs := [_, _, _, _]) func128 rfl ntmps128 rfl ?_
 have M : Mem w (fun k => k = gx) [As.blk gx 142 (Lx.cells s x)] w := Mem.one hb
 refine A9 (A0 (BI M (AA rfl) rfl rfl 129 rfl [.int .u8 0, .int .u8 0, .int .i64 0, .bool false, str [], str [], .slice none 0 0] D0 rfl fun g5 w1 hg5 M => A4 (A5 (A9 (A9 (A0 (yl rfl rfl (Blk.c ((hE.fr M.fr).b5) 0 rfl) (yb rfl (yb rfl (yl rfl rfl (M.cell 1 rfl rfl) (ya rfl (CX rfl rfl rfl) (A4 (A5 ?_)))))))))))))
 refine AT (b := (!decide (x.e = (0 : Int)))) rfl (fun h14 => ?_) (fun h14 => ?_)
 ·have h14p := (odf (C4 h14))
  refine A9 (A0 (ya rfl (BU (parts := []) rfl rfl (I7)) (B8 (cs' := [.int .u8 0, .int .u8 0, .int .i64 0, .bool false, str [], str [], .slice none 0 0]) M 0 (AA rfl) rfl rfl rfl rfl rfl AR rfl (AI rfl) (AY rfl) rfl fun w2 M => A4 (A5 (AF (AB (E8 rfl rfl (M.rdBlk 0 rfl rfl) underlying129 rfl AR ?_)))))))
  rw [t8 h14p]
  exact ⟨none, [], rfl, ⟨rfl, rfl⟩, (fun k hk => absurd hk (by simp)), M.blk 1 rfl, M.fr⟩
 ·have h14p := (odt (C5 h14))
  obtain ⟨f', rfl⟩ : ∃ f', f = f' + 1 := ⟨f - 1, by have := eA hx h14p; omega⟩
  have hF := h f' rfl
  obtain ⟨fr, hfr⟩ : ∃ fr, fr = CG s (f' + 1) := ⟨_, rfl⟩
  rw [← hfr] at hF
  refine AN (A5 (A9 (A0 (yl rfl rfl (Blk.c ((hE.fr M.fr).b10) 0 rfl) (yb rfl (cl 18 rfl (BK rfl rfl rfl call127) (iB hF line (by omega) x _ (M.blk 1 rfl) hx h14p (by omega) (hE.fr M.fr) (hY.fr M.fr hGx)) ?_))))))
  rintro _ w3 ⟨A18, F18, rfl, hat18, hnw18, hbw3, hfw3⟩
  have M := M.putPush 1 rfl hbw3 hfw3 (As.xn 129 (D6 s fr line x).1 A18 F18) hat18 hnw18
  have hI18 := (WP hF.I hx h14p (by omega) line).1
  refine ⟨_, rfl, ?_⟩
  have hm18 := (WP hF.I hx h14p (by omega) line).2
  have hfp := nX (line := line) h14p hfr
  refine BI M (AA rfl) rfl rfl 129 rfl [.int .u8 0, .int .u8 0, .int .i64 0, .bool false, str [], str [], .slice none 0 0] D0 rfl fun g6 w4 hg6 M => B8 (cs' := (Xn.cells ((D6 s fr line x).1) A18)) M 0 (AA rfl) rfl rfl rfl rfl rfl AR rfl (AI rfl) (AY rfl) rfl fun w5 M => A4 (A5 (A9 (AV (CL (fun e wr mz => ∃ (n : Xn) (A : Option Addr) (F : List Nat) (y : Lx) (k : Nat), e = [(0, .int .i64 ((line : Nat) : Int)), (1, pg c5), (3, pg c6), (5, pg g5), (6, pg g6)] ∧ Mem w (fun k => k = gx) [As.blk g6 129 (Xn.cells n A), As.xn 129 n A F, As.blk g5 129 [.int .u8 0, .int .u8 0, .int .i64 0, .bool false, str [], str [], .slice none 0 0], As.blk gx 142 (Lx.cells s y)] wr ∧ (LxI s y) ∧ (lxM s y ≤ k ∧ k ≤ f' + 1) ∧ (CG s (f' + 1 + 1) line x = FM s fr k line n y) ∧ mz = 2 * k) ⟨(D6 s fr line x).1, A18, F18, (D6 s fr line x).2, (f' + 1), rfl, M, hI18, ⟨by omega, Nat.le_refl _⟩, hfp, rfl⟩ ⟨rfl, rfl, rfl, rfl, rfl, trivial⟩ ?_))))
  rintro _ w6 _ ⟨n, A, F, y, k, rfl, M, hyI, hk, heq, rfl⟩
  refine A9 (A9 (A0 (yl rfl rfl (Blk.c ((hE.fr M.fr).b5) 0 rfl) (yb rfl (yb rfl (yl rfl rfl (M.cell 3 rfl rfl) (ya rfl (BB rfl rfl rfl) (A4 (A5 (AT (b := (decide (y.e = (0 : Int)))) rfl (fun h23 => ?_) (fun h23 => ?_)))))))))))
  ·have h23p := (odt h23)
   obtain ⟨j, rfl⟩ : ∃ j, k = j + 1 := ⟨k - 1, by have := eA hyI h23p; omega⟩
   refine AN (A5 (AV (A9 (NL (fun (g7 : Nat) (g25 : Nat) => [(0, .int .i64 ((line : Nat) : Int)), (1, pg c5), (3, pg c6), (5, pg g5), (6, pg g6), (7, pg g7), (8, .bool ((AH y.say).isSome))]) (fun (g7 : Nat) (g25 : Nat) => fun w' => Mem w (fun k => k = gx) [As.blk g7 148 [.int .u8 (((AH y.say).getD (0, 0)).1.toNat : Int), .int .i64 ((((AH y.say).getD (0, 0)).2 : Nat) : Int)], As.mp g25 D2, As.blk g6 129 (Xn.cells n A), As.xn 129 n A F, As.blk g5 129 [.int .u8 0, .int .u8 0, .int .i64 0, .bool false, str [], str [], .slice none 0 0], As.blk gx 142 (Lx.cells s y)] w') ?_ (fun kr5 => ?_)))))
   ·intro g7 g25 w7 M
    refine A5 (A9 (A9 (A0 (yb rfl (yb rfl (yb rfl (AX 5 [(0, .int .i64 ((line : Nat) : Int)), (1, pg c5), (3, pg c6), (5, pg g5), (6, pg g6), (7, pg g7), (41, .bool ((!(AH y.say).isSome) || (decide (((((AH y.say).getD (0, 0)).2 : Nat) : Int) < ((line : Nat) : Int)))))] (fun w' => Mem w (fun k => k = gx) [As.blk g7 148 [.int .u8 (((AH y.say).getD (0, 0)).1.toNat : Int), .int .i64 ((((AH y.say).getD (0, 0)).2 : Nat) : Int)], As.mp g25 D2, As.blk g6 129 (Xn.cells n A), As.xn 129 n A F, As.blk g5 129 [.int .u8 0, .int .u8 0, .int .i64 0, .bool false, str [], str [], .slice none 0 0], As.blk gx 142 (Lx.cells s y)] w') ?_ (fun k36 => ?_))))))))
    ·intro w8 M
     refine A4 (A5 (AT (b := ((!(AH y.say).isSome) || (decide (((((AH y.say).getD (0, 0)).2 : Nat) : Int) < ((line : Nat) : Int))))) rfl (fun h41 => ?_) (fun h41 => ?_)))
     ·have h41p := ((EL h41).imp (fun z => (C4 z)) (fun z => (odt z)))
      refine A9 (A0 (ya rfl (AU (xs := Xn.cells n A) rfl rfl (M.rdBlk 2 rfl rfl) underlying129 rfl AR) (B8 (cs' := (Xn.cells n A)) M 4 (AA rfl) rfl rfl rfl rfl rfl AR rfl (AI rfl) (AY rfl) rfl fun w9 M => A4 (A5 (AF (AB (AL (AB (AL (AB (E8 rfl rfl (M.rdBlk 4 rfl rfl) underlying129 rfl AR ?_)))))))))))
      rw [heq.trans (bE h23p h41)]
      exact ⟨_, _, rfl, M.ok 3 _ rfl, M.newOf 3 5 rfl rfl (by decide), M.blk 5 rfl, M.fr⟩
     ·have h41p := (And.intro (C5 (CE h41).1) (odf (CE h41).2))
      have hpr := mD y.say
      have hst := JU hyI h23p (gL h41)
      refine AN (A5 (A9 (A0 (yl rfl rfl (Blk.c ((hE.fr M.fr).b5) 0 rfl) (cl 44 rfl (AE rfl rfl call122) (G5 s y _ _ (M.blk 5 rfl) hyI.at_ hE.len (hY.fr M.fr hGx) hE.g) ?_)))))
      rintro _ w10 ⟨rfl, hbw10, hfw10⟩
      have M := M.putB 5 rfl hbw10 hfw10
      refine ⟨_, rfl, A4 (A5 (A9 (DB 10 (fun w' => Mem w (fun k => k = gx) [As.blk g7 148 [.int .u8 (((AH y.say).getD (0, 0)).1.toNat : Int), .int .i64 ((((AH y.say).getD (0, 0)).2 : Nat) : Int)], As.mp g25 D2, As.blk g6 129 (Xn.cells n A), As.xn 129 n A F, As.blk g5 129 [.int .u8 0, .int .u8 0, .int .i64 0, .bool false, str [], str [], .slice none 0 0]] w') DV ?_)))⟩
      have M := M.drew
      refine oc 0 10 rfl rfl (M.pk [0, 1, 2, 3, 4]) (ol 1 10 rfl rfl rfl (M.pk [0, 1, 2, 3, 4]) (fun _ M => (M.cell 0 rfl rfl)) (oa 2 10 rfl rfl (M.pk [0, 1, 2, 3, 4]) (fun _ M => AU (xs := Xn.cells n A) rfl rfl (M.rdBlk 2 rfl rfl) underlying129 rfl AR) (ol 3 10 rfl rfl rfl (M.pk [0, 1, 2, 3, 4]) (fun _ M => (Blk.c ((hE.fr M.fr).b6) 0 rfl)) (oc 4 10 rfl rfl (M.pk [0, 1, 2, 3, 4]) (ol 5 10 rfl rfl rfl (M.pk [0, 1, 2, 3, 4]) (fun _ M => (M.cell 0 rfl rfl)) (oa 6 10 rfl rfl (M.pk [0, 1, 2, 3, 4]) (fun _ M => CI rfl rfl rfl (by omega)) (BY 7 (some 52) (by kernel_rfl) rfl (AA rfl) rfl rfl (BK rfl rfl rfl call128) (hF.call ((((AH y.say).getD (0, 0)).2) + 1) (B6 s y) _ (by omega) (M.blk 5 rfl) DO (by omega) (hE.fr M.fr) (hY.fr M.fr hGx)) ?_)))))))
      rintro _ w11 ⟨A52, F52, rfl, hat52, hnw52, hbw11, hfw11⟩
      have M := M.putPush 5 rfl hbw11 hfw11 (As.xn 129 (fr ((((AH y.say).getD (0, 0)).2) + 1) (B6 s y)).1 A52 F52) hat52 hnw52
      have hI52 := hF.I.I ((((AH y.say).getD (0, 0)).2) + 1) (B6 s y) DO (by omega)
      refine ⟨_, rfl, fun _ => (M.pk [1, 2, 3, 4, 5]), ?_⟩
      have hm52 := hF.I.m ((((AH y.say).getD (0, 0)).2) + 1) (B6 s y) DO (by omega)
      refine BG 8 (some 53) (by kernel_rfl) rfl (AA rfl) rfl rfl (fun ρ hρ => GZ [.agg (Xn.cells n A).toArray, .agg (Xn.cells ((fr ((((AH y.say).getD (0, 0)).2) + 1) (B6 s y)).1) A52).toArray] _ hρ rfl rfl rfl rfl underlying127 MN (by decide) (by decide) (by intro v hv; simp only [List.mem_cons, List.not_mem_nil, or_false] at hv; rcases hv with rfl | rfl <;> rfl)) ?_
      rintro _ w12 ⟨g53, rfl, hg53, hq53, hb53, hfw12⟩
      replace hb53 : Blk w12 g53 129 ((Xn.cells n A) ++ (Xn.cells ((fr ((((AH y.say).getD (0, 0)).2) + 1) (B6 s y)).1) A52)) := hb53
      refine ⟨fun _ => (M.pk [1, 2, 3, 4, 5]).step hfw12, ?_⟩
      have M := M.push hfw12 _ hb53 (DX hg53 hq53)
      replace M : Mem w (fun k => k = gx) (As.blk g53 129 ((Xn.cells n A) ++ (Xn.cells ((fr ((((AH y.say).getD (0, 0)).2) + 1) (B6 s y)).1) A52)) :: _) w12 := M
      refine oa 9 10 rfl rfl (M.pk [2, 3, 4, 5, 6]) (fun _ M => BU (parts := [(0, _), (3, _)]) rfl rfl (K0 _ _ _ _)) (BG 10 none (by kernel_rfl) rfl (AA rfl) rfl rfl (fun ρ hρ => BW 129 _ _ rfl g6 0 129 _ ([.int .u8 (((AH y.say).getD (0, 0)).1.toNat : Int), .int .u8 0, .int .i64 0, .bool false, str [], str [], .slice (some ⟨g53, 0, none⟩) 2 2]) (hρ _ _ rfl) (hρ _ _ rfl) (M.blk 4 rfl) AR (AI rfl) (AY rfl)) ?_)
      rintro _ w13 ⟨rfl, hbw13, hfw13⟩
      replace M : Mem w (fun k => k = gx) (List.set _ 4 (As.blk g6 129 [.int .u8 (((AH y.say).getD (0, 0)).1.toNat : Int), .int .u8 0, .int .i64 0, .bool false, str [], str [], .slice (some ⟨g53, 0, none⟩) 2 2])) w13 := M.putB 4 rfl hbw13 hfw13
      refine ⟨fun h => absurd h (by decide), BN (by kernel_rfl) (A5 (A9 (NL (fun (g9 : Nat) (g55 : Nat) => [(0, .int .i64 ((line : Nat) : Int)), (1, pg c5), (3, pg c6), (5, pg g5), (6, pg g6), (7, pg g7), (9, pg g9)]) (fun (g9 : Nat) (g55 : Nat) => fun w' => Mem w (fun k => k = gx) [As.blk g9 148 [.int .u8 (((AH ((fr ((((AH y.say).getD (0, 0)).2) + 1) (B6 s y)).2.say)).getD (0, 0)).1.toNat : Int), .int .i64 ((((AH ((fr ((((AH y.say).getD (0, 0)).2) + 1) (B6 s y)).2.say)).getD (0, 0)).2 : Nat) : Int)], As.mp g55 D2, As.blk g53 129 ((Xn.cells n A) ++ (Xn.cells ((fr ((((AH y.say).getD (0, 0)).2) + 1) (B6 s y)).1) A52)), As.xn 129 ((fr ((((AH y.say).getD (0, 0)).2) + 1) (B6 s y)).1) A52 F52, As.blk g7 148 [.int .u8 (((AH y.say).getD (0, 0)).1.toNat : Int), .int .i64 ((((AH y.say).getD (0, 0)).2 : Nat) : Int)], As.mp g25 D2, As.blk g6 129 [.int .u8 (((AH y.say).getD (0, 0)).1.toNat : Int), .int .u8 0, .int .i64 0, .bool false, str [], str [], .slice (some ⟨g53, 0, none⟩) 2 2], As.xn 129 n A F, As.blk g5 129 [.int .u8 0, .int .u8 0, .int .i64 0, .bool false, str [], str [], .slice none 0 0], As.blk gx 142 (Lx.cells s ((fr ((((AH y.say).getD (0, 0)).2) + 1) (B6 s y)).2))] w') ?_ (fun kr10 => ?_))))⟩
      ·intro g9 g55 w14 M
       refine A5 (A9 (A0 (yb rfl (yl rfl rfl (M.cell 4 rfl rfl) (ya rfl (BB rfl rfl rfl) (yb rfl (AX 4 [(0, .int .i64 ((line : Nat) : Int)), (1, pg c5), (3, pg c6), (5, pg g5), (6, pg g6), (69, .bool ((decide (((((AH y.say).getD (0, 0)).2 : Nat) : Int) = (4 : Int))) && (decide (((((AH ((fr ((((AH y.say).getD (0, 0)).2) + 1) (B6 s y)).2.say)).getD (0, 0)).2 : Nat) : Int) = (4 : Int)))))] (fun w' => Mem w (fun k => k = gx) [As.blk g9 148 [.int .u8 (((AH ((fr ((((AH y.say).getD (0, 0)).2) + 1) (B6 s y)).2.say)).getD (0, 0)).1.toNat : Int), .int .i64 ((((AH ((fr ((((AH y.say).getD (0, 0)).2) + 1) (B6 s y)).2.say)).getD (0, 0)).2 : Nat) : Int)], As.mp g55 D2, As.blk g53 129 ((Xn.cells n A) ++ (Xn.cells ((fr ((((AH y.say).getD (0, 0)).2) + 1) (B6 s y)).1) A52)), As.xn 129 ((fr ((((AH y.say).getD (0, 0)).2) + 1) (B6 s y)).1) A52 F52, As.blk g7 148 [.int .u8 (((AH y.say).getD (0, 0)).1.toNat : Int), .int .i64 ((((AH y.say).getD (0, 0)).2 : Nat) : Int)], As.mp g25 D2, As.blk g6 129 [.int .u8 (((AH y.say).getD (0, 0)).1.toNat : Int), .int .u8 0, .int .i64 0, .bool false, str [], str [], .slice (some ⟨g53, 0, none⟩) 2 2], As.xn 129 n A F, As.blk g5 129 [.int .u8 0, .int .u8 0, .int .i64 0, .bool false, str [], str [], .slice none 0 0], As.blk gx 142 (Lx.cells s ((fr ((((AH y.say).getD (0, 0)).2) + 1) (B6 s y)).2))] w') ?_ (fun k65 => ?_))))))))
       ·intro w15 M
        refine A4 (A5 (AT (b := ((decide (((((AH y.say).getD (0, 0)).2 : Nat) : Int) = (4 : Int))) && (decide (((((AH ((fr ((((AH y.say).getD (0, 0)).2) + 1) (B6 s y)).2.say)).getD (0, 0)).2 : Nat) : Int) = (4 : Int))))) rfl (fun h69 => ?_) (fun h69 => ?_)))
        ·have h69p := (And.intro (odt (C9 h69).1) (odt (C9 h69).2))
         refine GC 6 DV (by kernel_rfl) ?_
         have M := M.drew
         refine sd rfl rfl (Blk.c ((hE.fr M.fr).b5) 0 rfl) (sd rfl rfl (Blk.c ((hE.fr M.fr).b5) 0 rfl) (sb rfl (sb rfl (sb rfl (sd rfl rfl (M.cell 9 rfl rfl) (E9 (cl 76 rfl (AE rfl rfl call125) (EC s ((fr ((((AH y.say).getD (0, 0)).2) + 1) (B6 s y)).2) _ _ _ _ (M.blk 9 rfl)) ?_)))))))
         rintro _ w16 ⟨rfl, hbw16, hfw16⟩
         have M := M.putB 9 rfl hbw16 hfw16
         refine ⟨_, rfl, A4 (AC ?_)⟩
         have M := Mem.bin (op := ((AH y.say).getD (0, 0)).1) (M.pk [2, 7, 3, 6, 8, 9])
         refine BF [(0, .int .i64 ((line : Nat) : Int)), (1, pg c5), (3, pg c6), (5, pg g5), (6, pg g6)] (2 * j) ⟨(Xn.bin ((AH y.say).getD (0, 0)).1 n (fr (((AH y.say).getD (0, 0)).2 + 1) (B6 s y)).1), (some ⟨g53, 0, none⟩), (g53 :: (F ++ F52)), (((fr ((((AH y.say).getD (0, 0)).2) + 1) (B6 s y)).2).fail 4 ((fr ((((AH y.say).getD (0, 0)).2) + 1) (B6 s y)).2.tat)), j, rfl, (M.pk [1, 0, 2, 3]), ?_, ?_, ?_, rfl⟩ (by first | omega | (simp <;> omega)) ⟨rfl, rfl, rfl, rfl, rfl, trivial⟩
         ·exact hI52.fail _ _
         ·rw [NX (by decide)]; exact ⟨Nat.zero_le _, by omega⟩
         ·exact heq.trans (iU h23p h41 h69)
        ·have h69p := ((EH h69).imp (fun z => (odf z)) (fun z => (odf z)))
         refine AN (AC ?_)
         have M := Mem.bin (op := ((AH y.say).getD (0, 0)).1) (M.pk [2, 7, 3, 6, 8, 9])
         refine BF [(0, .int .i64 ((line : Nat) : Int)), (1, pg c5), (3, pg c6), (5, pg g5), (6, pg g6)] (2 * j) ⟨(Xn.bin ((AH y.say).getD (0, 0)).1 n (fr (((AH y.say).getD (0, 0)).2 + 1) (B6 s y)).1), (some ⟨g53, 0, none⟩), (g53 :: (F ++ F52)), ((fr ((((AH y.say).getD (0, 0)).2) + 1) (B6 s y)).2), j, rfl, (M.pk [1, 0, 2, 3]), ?_, ?_, ?_, rfl⟩ (by first | omega | (simp <;> omega)) ⟨rfl, rfl, rfl, rfl, rfl, trivial⟩
         ·exact hI52
         ·exact ⟨by omega, by omega⟩
         ·exact heq.trans (mZ h23p h41 h69)
       refine AM (d := 65) (b := (decide (((((AH y.say).getD (0, 0)).2 : Nat) : Int) = (4 : Int)))) rfl (fun h65 => ?_) (fun h65 => ?_)
       ·exact yd rfl (yp rfl) (ym rfl rfl (M.cell 0 rfl rfl) (yd rfl (BB rfl rfl rfl) (yb rfl (k65 _ _ M ⟨rfl, rfl, rfl, rfl, rfl, (by rw [h65]; rfl), trivial⟩))))
       ·exact yo rfl (yo rfl (yo rfl (yb rfl (k65 _ _ M ⟨rfl, rfl, rfl, rfl, rfl, (by rw [h65]; rfl), trivial⟩))))
      refine DB 9 (fun w' => Mem w (fun k => k = gx) [As.blk g53 129 ((Xn.cells n A) ++ (Xn.cells ((fr ((((AH y.say).getD (0, 0)).2) + 1) (B6 s y)).1) A52)), As.xn 129 ((fr ((((AH y.say).getD (0, 0)).2) + 1) (B6 s y)).1) A52 F52, As.blk g7 148 [.int .u8 (((AH y.say).getD (0, 0)).1.toNat : Int), .int .i64 ((((AH y.say).getD (0, 0)).2 : Nat) : Int)], As.mp g25 D2, As.blk g6 129 [.int .u8 (((AH y.say).getD (0, 0)).1.toNat : Int), .int .u8 0, .int .i64 0, .bool false, str [], str [], .slice (some ⟨g53, 0, none⟩) 2 2], As.xn 129 n A F, As.blk g5 129 [.int .u8 0, .int .u8 0, .int .i64 0, .bool false, str [], str [], .slice none 0 0], As.blk gx 142 (Lx.cells s ((fr ((((AH y.say).getD (0, 0)).2) + 1) (B6 s y)).2))] w') DV ?_
      have M := M.drew
      refine ol 1 9 rfl rfl rfl M (fun _ M => (Blk.c ((hE.fr M.fr).b5) 0 rfl)) (oc 2 9 rfl rfl M (oc 3 9 rfl rfl M (oc 4 9 rfl rfl M (ol 5 9 rfl rfl rfl M (fun _ M => (M.cell 7 rfl rfl)) (J2 (rs := [0, 7]) (by kernel_rfl) (by simp) fun iz hiz => ?_)))))
      simp only [List.mem_cons, List.not_mem_nil, or_false] at hiz
      rcases hiz with rfl | rfl
      ·refine QS (some 55) rfl (AA rfl) rfl rfl (AE rfl rfl call129) (HJ _) ?_
       rintro _ w17 ⟨g55, rfl, hMw17, hgw17, hfw17⟩
       refine ⟨_, rfl, fun _ => M.step hfw17, ?_⟩
       have M := M.push hfw17 (As.mp g55 D2) hMw17 (L9 hgw17 hMw17.lt)
       refine J2 (rs := [6, 7]) (by kernel_rfl) (by simp) fun iz hiz => ?_
       simp only [List.mem_cons, List.not_mem_nil, or_false] at hiz
       rcases hiz with rfl | rfl
       ·refine EM (some 61) rfl (AA rfl) rfl rfl (eT (CK rfl rfl rfl underlying150 underlying9 BO (M.mp 0 rfl) (DY _))) ?_
        rintro _ _ ⟨rfl, rfl⟩
        refine ⟨fun _ => (M.drop 1), BG 7 (some 9) (by kernel_rfl) rfl (AA rfl) rfl rfl (fun ρ hρ => C6 148 rfl _ [.int .u8 0, .int .i64 0] BO rfl) ?_⟩
        rintro _ w18 ⟨g9, rfl, hg9, hq9, hb9, hfw18⟩
        refine ⟨fun _ => (M.drop 1).step hfw18, ?_⟩
        have M := M.push hfw18 _ hb9 (DX hg9 hq9)
        replace M : Mem w (fun k => k = gx) (As.blk g9 148 [.int .u8 0, .int .i64 0] :: _) w18 := M
        refine BG 8 none (by kernel_rfl) rfl (AA rfl) rfl rfl (fun ρ hρ => BW 148 _ _ rfl g9 0 148 _ ([.int .u8 (((AH ((fr ((((AH y.say).getD (0, 0)).2) + 1) (B6 s y)).2.say)).getD (0, 0)).1.toNat : Int), .int .i64 ((((AH ((fr ((((AH y.say).getD (0, 0)).2) + 1) (B6 s y)).2.say)).getD (0, 0)).2 : Nat) : Int)]) (hρ _ _ rfl) (hρ _ _ rfl) (M.blk 0 rfl) D1 (AI rfl) (AY rfl)) ?_
        rintro _ w19 ⟨rfl, hbw19, hfw19⟩
        replace M : Mem w (fun k => k = gx) (List.set _ 0 (As.blk g9 148 [.int .u8 (((AH ((fr ((((AH y.say).getD (0, 0)).2) + 1) (B6 s y)).2.say)).getD (0, 0)).1.toNat : Int), .int .i64 ((((AH ((fr ((((AH y.say).getD (0, 0)).2) + 1) (B6 s y)).2.say)).getD (0, 0)).2 : Nat) : Int)])) w19 := M.putB 0 rfl hbw19 hfw19
        exact ⟨fun _ => M.drop 2, BN (by kernel_rfl) (kr10 g9 g55 _ _ M ⟨rfl, rfl, rfl, rfl, rfl, rfl, rfl, trivial⟩)⟩
       ·refine EM (some 9) rfl (AA rfl) rfl rfl (fun ρ hρ => C6 148 rfl _ [.int .u8 0, .int .i64 0] BO rfl) ?_
        rintro _ w20 ⟨g9, rfl, hg9, hq9, hb9, hfw20⟩
        refine ⟨fun _ => (M.drop 1).step hfw20, ?_⟩
        have M := M.push hfw20 _ hb9 (DX hg9 hq9)
        replace M : Mem w (fun k => k = gx) (As.blk g9 148 [.int .u8 0, .int .i64 0] :: _) w20 := M
        refine CY 6 (by kernel_rfl) rfl (AA rfl) rfl rfl (CK rfl rfl rfl underlying150 underlying9 BO (M.mp 1 rfl) (DY _)) (M.drop 2) (BG 8 none (by kernel_rfl) rfl (AA rfl) rfl rfl (fun ρ hρ => BW 148 _ _ rfl g9 0 148 _ ([.int .u8 (((AH ((fr ((((AH y.say).getD (0, 0)).2) + 1) (B6 s y)).2.say)).getD (0, 0)).1.toNat : Int), .int .i64 ((((AH ((fr ((((AH y.say).getD (0, 0)).2) + 1) (B6 s y)).2.say)).getD (0, 0)).2 : Nat) : Int)]) (hρ _ _ rfl) (hρ _ _ rfl) (M.blk 0 rfl) D1 (AI rfl) (AY rfl)) ?_)
        rintro _ w21 ⟨rfl, hbw21, hfw21⟩
        replace M : Mem w (fun k => k = gx) (List.set _ 0 (As.blk g9 148 [.int .u8 (((AH ((fr ((((AH y.say).getD (0, 0)).2) + 1) (B6 s y)).2.say)).getD (0, 0)).1.toNat : Int), .int .i64 ((((AH ((fr ((((AH y.say).getD (0, 0)).2) + 1) (B6 s y)).2.say)).getD (0, 0)).2 : Nat) : Int)])) w21 := M.putB 0 rfl hbw21 hfw21
        exact ⟨fun _ => M.drop 2, BN (by kernel_rfl) (kr10 g9 g55 _ _ M ⟨rfl, rfl, rfl, rfl, rfl, rfl, rfl, trivial⟩)⟩
      ·refine EM (some 9) rfl (AA rfl) rfl rfl (fun ρ hρ => C6 148 rfl _ [.int .u8 0, .int .i64 0] BO rfl) ?_
       rintro _ w22 ⟨g9, rfl, hg9, hq9, hb9, hfw22⟩
       refine ⟨fun _ => M.step hfw22, ?_⟩
       have M := M.push hfw22 _ hb9 (DX hg9 hq9)
       replace M : Mem w (fun k => k = gx) (As.blk g9 148 [.int .u8 0, .int .i64 0] :: _) w22 := M
       refine BY 0 (some 55) (by kernel_rfl) rfl (AA rfl) rfl rfl (AE rfl rfl call129) (HJ _) ?_
       rintro _ w23 ⟨g55, rfl, hMw23, hgw23, hfw23⟩
       refine ⟨_, rfl, fun _ => (M.drop 1).step hfw23, ?_⟩
       have M := M.push hfw23 (As.mp g55 D2) hMw23 (L9 hgw23 hMw23.lt)
       refine CY 6 (by kernel_rfl) rfl (AA rfl) rfl rfl (CK rfl rfl rfl underlying150 underlying9 BO (M.mp 0 rfl) (DY _)) (M.drop 2) (BG 8 none (by kernel_rfl) rfl (AA rfl) rfl rfl (fun ρ hρ => BW 148 _ _ rfl g9 0 148 _ ([.int .u8 (((AH ((fr ((((AH y.say).getD (0, 0)).2) + 1) (B6 s y)).2.say)).getD (0, 0)).1.toNat : Int), .int .i64 ((((AH ((fr ((((AH y.say).getD (0, 0)).2) + 1) (B6 s y)).2.say)).getD (0, 0)).2 : Nat) : Int)]) (hρ _ _ rfl) (hρ _ _ rfl) (M.blk 1 rfl) D1 (AI rfl) (AY rfl)) ?_)
       rintro _ w24 ⟨rfl, hbw24, hfw24⟩
       replace M : Mem w (fun k => k = gx) (List.set _ 1 (As.blk g9 148 [.int .u8 (((AH ((fr ((((AH y.say).getD (0, 0)).2) + 1) (B6 s y)).2.say)).getD (0, 0)).1.toNat : Int), .int .i64 ((((AH ((fr ((((AH y.say).getD (0, 0)).2) + 1) (B6 s y)).2.say)).getD (0, 0)).2 : Nat) : Int)])) w24 := M.putB 1 rfl hbw24 hfw24
       exact ⟨fun _ => M.drop 2, BN (by kernel_rfl) (kr10 g9 g55 _ _ (M.pk [1, 0, 2, 3, 4, 5, 6, 7, 8, 9]) ⟨rfl, rfl, rfl, rfl, rfl, rfl, rfl, trivial⟩)⟩
    refine AM (d := 36) (b := (!(AH y.say).isSome)) rfl (fun h36 => ?_) (fun h36 => ?_)
    ·iterate 4 refine yo rfl ?_
     exact yb rfl (k36 _ _ M ⟨rfl, rfl, rfl, rfl, rfl, rfl, (by rw [h36]; rfl), trivial⟩)
    ·exact yd rfl (yp rfl) (ym rfl rfl (M.cell 0 rfl rfl) (yd rfl (yp rfl) (yd rfl (CB rfl rfl rfl) (yb rfl (k36 _ _ M ⟨rfl, rfl, rfl, rfl, rfl, rfl, (by rw [h36]; rfl), trivial⟩)))))
   refine DB 13 (fun w' => Mem w (fun k => k = gx) [As.blk g6 129 (Xn.cells n A), As.xn 129 n A F, As.blk g5 129 [.int .u8 0, .int .u8 0, .int .i64 0, .bool false, str [], str [], .slice none 0 0], As.blk gx 142 (Lx.cells s y)] w') DV ?_
   have M := M.drew
   refine ol 1 13 rfl rfl rfl M (fun _ M => (Blk.c ((hE.fr M.fr).b5) 0 rfl)) (oc 2 13 rfl rfl M (oc 3 13 rfl rfl M (oc 4 13 rfl rfl M (ol 5 13 rfl rfl rfl M (fun _ M => (M.cell 3 rfl rfl)) (J2 (rs := [0, 10]) (by kernel_rfl) (by simp) fun iz hiz => ?_)))))
   simp only [List.mem_cons, List.not_mem_nil, or_false] at hiz
   rcases hiz with rfl | rfl
   ·refine QS (some 25) rfl (AA rfl) rfl rfl (AE rfl rfl call129) (HJ _) ?_
    rintro _ w25 ⟨g25, rfl, hMw25, hgw25, hfw25⟩
    refine ⟨_, rfl, fun _ => M.step hfw25, ?_⟩
    have M := M.push hfw25 (As.mp g25 D2) hMw25 (L9 hgw25 hMw25.lt)
    refine J2 (rs := [6, 10]) (by kernel_rfl) (by simp) fun iz hiz => ?_
    simp only [List.mem_cons, List.not_mem_nil, or_false] at hiz
    rcases hiz with rfl | rfl
    ·refine EM (some 31) rfl (AA rfl) rfl rfl (eT (DH rfl rfl rfl underlying150 underlying9 BO (M.mp 0 rfl) (DY _) (GE _))) ?_
     rintro _ _ ⟨rfl, rfl⟩
     refine ⟨fun _ => (M.drop 1), oc 7 13 rfl rfl (M.drop 1) (oc 8 13 rfl rfl (M.drop 1) (oc 9 13 rfl rfl (M.drop 1) (BG 10 (some 7) (by kernel_rfl) rfl (AA rfl) rfl rfl (fun ρ hρ => C6 148 rfl _ [.int .u8 0, .int .i64 0] BO rfl) ?_)))⟩
     rintro _ w26 ⟨g7, rfl, hg7, hq7, hb7, hfw26⟩
     refine ⟨fun _ => (M.drop 1).step hfw26, ?_⟩
     have M := M.push hfw26 _ hb7 (DX hg7 hq7)
     replace M : Mem w (fun k => k = gx) (As.blk g7 148 [.int .u8 0, .int .i64 0] :: _) w26 := M
     refine BG 11 none (by kernel_rfl) rfl (AA rfl) rfl rfl (fun ρ hρ => BW 148 _ _ rfl g7 0 148 _ ([.int .u8 (((AH y.say).getD (0, 0)).1.toNat : Int), .int .i64 ((((AH y.say).getD (0, 0)).2 : Nat) : Int)]) (hρ _ _ rfl) (hρ _ _ rfl) (M.blk 0 rfl) D1 (AI rfl) (AY rfl)) ?_
     rintro _ w27 ⟨rfl, hbw27, hfw27⟩
     replace M : Mem w (fun k => k = gx) (List.set _ 0 (As.blk g7 148 [.int .u8 (((AH y.say).getD (0, 0)).1.toNat : Int), .int .i64 ((((AH y.say).getD (0, 0)).2 : Nat) : Int)])) w27 := M.putB 0 rfl hbw27 hfw27
     exact ⟨fun _ => M.drop 2, oc 12 13 rfl rfl (M.drop 2) (BN (by kernel_rfl) (kr5 g7 g25 _ _ M ⟨rfl, rfl, rfl, rfl, rfl, rfl, rfl, trivial⟩))⟩
    ·refine EM (some 7) rfl (AA rfl) rfl rfl (fun ρ hρ => C6 148 rfl _ [.int .u8 0, .int .i64 0] BO rfl) ?_
     rintro _ w28 ⟨g7, rfl, hg7, hq7, hb7, hfw28⟩
     refine ⟨fun _ => (M.drop 1).step hfw28, ?_⟩
     have M := M.push hfw28 _ hb7 (DX hg7 hq7)
     replace M : Mem w (fun k => k = gx) (As.blk g7 148 [.int .u8 0, .int .i64 0] :: _) w28 := M
     refine CY 6 (by kernel_rfl) rfl (AA rfl) rfl rfl (DH rfl rfl rfl underlying150 underlying9 BO (M.mp 1 rfl) (DY _) (GE _)) (M.drop 2) (oc 7 13 rfl rfl (M.drop 2) (oc 8 13 rfl rfl (M.drop 2) (oc 9 13 rfl rfl (M.drop 2) (BG 11 none (by kernel_rfl) rfl (AA rfl) rfl rfl (fun ρ hρ => BW 148 _ _ rfl g7 0 148 _ ([.int .u8 (((AH y.say).getD (0, 0)).1.toNat : Int), .int .i64 ((((AH y.say).getD (0, 0)).2 : Nat) : Int)]) (hρ _ _ rfl) (hρ _ _ rfl) (M.blk 0 rfl) D1 (AI rfl) (AY rfl)) ?_))))
     rintro _ w29 ⟨rfl, hbw29, hfw29⟩
     replace M : Mem w (fun k => k = gx) (List.set _ 0 (As.blk g7 148 [.int .u8 (((AH y.say).getD (0, 0)).1.toNat : Int), .int .i64 ((((AH y.say).getD (0, 0)).2 : Nat) : Int)])) w29 := M.putB 0 rfl hbw29 hfw29
     exact ⟨fun _ => M.drop 2, oc 12 13 rfl rfl (M.drop 2) (BN (by kernel_rfl) (kr5 g7 g25 _ _ M ⟨rfl, rfl, rfl, rfl, rfl, rfl, rfl, trivial⟩))⟩
   ·refine EM (some 7) rfl (AA rfl) rfl rfl (fun ρ hρ => C6 148 rfl _ [.int .u8 0, .int .i64 0] BO rfl) ?_
    rintro _ w30 ⟨g7, rfl, hg7, hq7, hb7, hfw30⟩
    refine ⟨fun _ => M.step hfw30, ?_⟩
    have M := M.push hfw30 _ hb7 (DX hg7 hq7)
    replace M : Mem w (fun k => k = gx) (As.blk g7 148 [.int .u8 0, .int .i64 0] :: _) w30 := M
    refine BY 0 (some 25) (by kernel_rfl) rfl (AA rfl) rfl rfl (AE rfl rfl call129) (HJ _) ?_
    rintro _ w31 ⟨g25, rfl, hMw31, hgw31, hfw31⟩
    refine ⟨_, rfl, fun _ => (M.drop 1).step hfw31, ?_⟩
    have M := M.push hfw31 (As.mp g25 D2) hMw31 (L9 hgw31 hMw31.lt)
    refine CY 6 (by kernel_rfl) rfl (AA rfl) rfl rfl (DH rfl rfl rfl underlying150 underlying9 BO (M.mp 0 rfl) (DY _) (GE _)) (M.drop 2) (oc 7 13 rfl rfl (M.drop 2) (oc 8 13 rfl rfl (M.drop 2) (oc 9 13 rfl rfl (M.drop 2) (BG 11 none (by kernel_rfl) rfl (AA rfl) rfl rfl (fun ρ hρ => BW 148 _ _ rfl g7 0 148 _ ([.int .u8 (((AH y.say).getD (0, 0)).1.toNat : Int), .int .i64 ((((AH y.say).getD (0, 0)).2 : Nat) : Int)]) (hρ _ _ rfl) (hρ _ _ rfl) (M.blk 1 rfl) D1 (AI rfl) (AY rfl)) ?_))))
    rintro _ w32 ⟨rfl, hbw32, hfw32⟩
    replace M : Mem w (fun k => k = gx) (List.set _ 1 (As.blk g7 148 [.int .u8 (((AH y.say).getD (0, 0)).1.toNat : Int), .int .i64 ((((AH y.say).getD (0, 0)).2 : Nat) : Int)])) w32 := M.putB 1 rfl hbw32 hfw32
    exact ⟨fun _ => M.drop 2, oc 12 13 rfl rfl (M.drop 2) (BN (by kernel_rfl) (kr5 g7 g25 _ _ (M.pk [1, 0, 2, 3, 4, 5]) ⟨rfl, rfl, rfl, rfl, rfl, rfl, rfl, trivial⟩))⟩
  ·have h23p := (odf h23)
   refine C2 (AG (AG (B5 (A5 (A9 (A0 (ya rfl (AU (xs := Xn.cells n A) rfl rfl (M.rdBlk 0 rfl rfl) underlying129 rfl AR) (B8 (cs' := (Xn.cells n A)) M 2 (AA rfl) rfl rfl rfl rfl rfl AR rfl (AI rfl) (AY rfl) rfl fun w33 M => A4 (A5 (AF (E8 rfl rfl (M.rdBlk 2 rfl rfl) underlying129 rfl AR ?_)))))))))))
   rw [heq.trans (iT h23p)]
   exact ⟨_, _, rfl, M.ok 1 _ rfl, M.newOf 1 3 rfl rfl (by decide), M.blk 3 rfl, M.fr⟩
theorem nY (s : List UInt8) (gx c5 c6 c7 c8 c9 c10 : Nat) : ∀ f : Nat, FromOK s gx c5 c6 c7 c8 c9 c10 f (CG s (f + 1))
 | 0 => ⟨WO s 0, fun line x w hl hb hx hm hE hY => Y2 (f := 0) (fun _ h => by cases h) line hl x w hb hx hm hE hY⟩
 | f + 1 => ⟨WO s (f + 1), fun line x w hl hb hx hm hE hY => Y2 (f := f + 1) (fun f' h => by cases h; exact nY s gx c5 c6 c7 c8 c9 c10 f) line hl x w hb hx hm hE hY⟩
end
section
theorem Mem.neBlk {w0 w : World} {S : Nat → Prop} {L : List As} (M : Mem w0 S L w) (i j : Nat) {a b t u : Nat} {cs ds : List Value} (hi : L[i]? = some (As.blk a t cs)) (hj : L[j]? = some (As.blk b u ds)) (h : i ≠ j) : ¬ a = b := fun e =>
 M.apart i j _ _ hi hj h a (by simp [As.blk]) (by simp [As.blk, e])
theorem xS (s : List UInt8) : LxI s lx0 := ⟨Nat.zero_le _, Nat.le_refl _, fun h => absurd rfl h, rfl⟩
theorem eB (s : List UInt8) (x : Lx) : lxM s x ≤ s.length + 1 := by unfold lxM; split <;> omega
theorem XZ {s : List UInt8} (h : (256 : Int) < ((s.length : Nat) : Int)) : CQ s = (.zero, 0, 3) := if_pos (by omega)
section
variable {s : List UInt8} (h : ¬ (256 : Int) < ((s.length : Nat) : Int))
include h
theorem W2 (h1 : (CG s 258 1 (B6 s lx0)).2.fin = false) (h2 : ¬ ((CG s 258 1 (B6 s lx0)).2.fail 4 (CG s 258 1 (B6 s lx0)).2.tat).e = 0) :
 CQ s = (.zero, ((CG s 258 1 (B6 s lx0)).2.fail 4 (CG s 258 1 (B6 s lx0)).2.tat).wh, ((CG s 258 1 (B6 s lx0)).2.fail 4 (CG s 258 1 (B6 s lx0)).2.tat).e) := by
 unfold CQ
 rw [if_neg (by omega)]
 simp only [h1, if_true, if_neg h2]
theorem W1 (h1 : (CG s 258 1 (B6 s lx0)).2.fin = false) (h2 : ((CG s 258 1 (B6 s lx0)).2.fail 4 (CG s 258 1 (B6 s lx0)).2.tat).e = 0) : CQ s = ((CG s 258 1 (B6 s lx0)).1, 0, 0) := by
 unfold CQ
 rw [if_neg (by omega)]
 simp only [h1, if_true, if_pos h2]
theorem Y1 (h1 : (CG s 258 1 (B6 s lx0)).2.fin = true) (h2 : ¬ (CG s 258 1 (B6 s lx0)).2.e = 0) : CQ s = (.zero, (CG s 258 1 (B6 s lx0)).2.wh, (CG s 258 1 (B6 s lx0)).2.e) := by
 unfold CQ
 rw [if_neg (by omega)]
 simp only [h1, Bool.true_eq_false, if_false, if_neg h2]
theorem Y0 (h1 : (CG s 258 1 (B6 s lx0)).2.fin = true) (h2 : (CG s 258 1 (B6 s lx0)).2.e = 0) : CQ s = ((CG s 258 1 (B6 s lx0)).1, 0, 0) := by
 unfold CQ
 rw [if_neg (by omega)]
 simp only [h1, Bool.true_eq_false, if_false, if_pos h2]
end
theorem QL (a0 : List UInt8) : prog.built 142 [(0, str a0)] = some #[str a0, .int .i64 0, .int .u8 0, .int .u8 0, .int .i64 0, .bool false, str [], str [], .slice none 0 0, str [], .int .i64 0, .bool false, .int .i64 0, .int .i64 0] := by kernel_rfl
theorem J0 : (prog.info? 146).map (·.size) = some 1 := by kernel_rfl
theorem GN : (prog.info? 143).map (·.size) = some 1 := by kernel_rfl
theorem I0 : (prog.info? 144).map (·.size) = some 1 := by kernel_rfl
theorem QF : (prog.info? 138).map (·.size) = some 1 := by kernel_rfl
theorem IY : (prog.info? 146).map (·.zero) = some (some (.nilFunc)) := by kernel_rfl
theorem GM : (prog.info? 143).map (·.zero) = some (some (.nilFunc)) := by kernel_rfl
theorem HY : (prog.info? 144).map (·.zero) = some (some (.nilFunc)) := by kernel_rfl
theorem QD : (prog.info? 138).map (·.zero) = some (some (.pointer none)) := by kernel_rfl
theorem mF (s : List UInt8) (w : World) (hs : s.length ≤ 4611686018427387904) (hY : Lay0 w) :
 Calls prog 115 #[str s] w fun e w' => ∃ A F, e = .returned (.tuple #[.agg ((CQ s).1.cells A).toArray, .int .i64 (((CQ s).2.1 : Nat) : Int), .int .i64 (CQ s).2.2]) ∧ (CQ s).1.AtL 129 w' A F ∧ (∀ k ∈ F, w.heap.size ≤ k ∧ k < w'.heap.size) ∧ Fr0 w w' := by
 have hGx : ∀ k, AD k → nGlob ≤ k := fun _ h => h.elim
 refine AJ (vs := [_]) func115 rfl ntmps115 rfl ?_
 have M := CN w
 refine A9 (A0 (BI M (AA rfl) rfl rfl 129 rfl [.int .u8 0, .int .u8 0, .int .i64 0, .bool false, str [], str [], .slice none 0 0] D0 rfl fun g2 w1 hg2 M => yb rfl (yb rfl (A4 (A5 (A9 (A9 (A0 (yb rfl (ya rfl (E3 rfl rfl underlying9) (ya rfl (FF rfl rfl rfl) (A4 (A5 ?_)))))))))))))
 refine AT (b := (decide ((256 : Int) < ((s.length : Nat) : Int)))) rfl (fun h14 => ?_) (fun h14 => ?_)
 ·have h14p := (odt h14)
  refine A9 (A0 (ya rfl (BU (parts := []) rfl rfl (I7)) (B8 (cs' := [.int .u8 0, .int .u8 0, .int .i64 0, .bool false, str [], str [], .slice none 0 0]) M 0 (AA rfl) rfl rfl rfl rfl rfl AR rfl (AI rfl) (AY rfl) rfl fun w2 M => yb rfl (yb rfl (A4 (A5 (AF (AB (L5 rfl rfl (M.rdBlk 0 rfl rfl) underlying129 rfl AR rfl rfl ?_)))))))))
  rw [XZ h14p]
  exact ⟨none, [], rfl, ⟨rfl, rfl⟩, (fun k hk => absurd hk (by simp)), M.fr⟩
 ·have h14p := (odf h14)
  refine AN (A5 (A9 (A0 (yb rfl (ya rfl (BU (parts := [(0, _)]) rfl rfl (QL _)) (B4 M (AA rfl) rfl rfl 142 rfl rfl (Lx.cells s lx0) rfl fun gx w3 hgx M => ?_))))))
  have hnx : nGlob ≤ gx := Nat.le_trans hY.size (M.new0 0 rfl gx (by simp [As.blk])).1
  refine BI M (AA rfl) rfl rfl 138 rfl [.pointer none] QD rfl fun g5 w4 hg5 M => BP (cs' := [pg gx]) M 0 (AA rfl) rfl rfl rfl rfl rfl rfl rfl QF (AZ rfl) rfl fun w5 M => A4 (A5 (A9 (A0 (yl rfl rfl (M.cell 0 rfl rfl) (cl 20 rfl (AE rfl rfl call122) (G5 s lx0 _ _ (M.blk 1 rfl) (xS s).at_ (by omega) (hY.fr M.fr hGx) hnx) ?_)))))
  rintro _ w6 ⟨rfl, hbw6, hfw6⟩
  have M := M.putB 1 rfl hbw6 hfw6
  refine ⟨_, rfl, A4 (A5 (A9 (A0 (BI M (AA rfl) rfl rfl 143 rfl [.nilFunc] GM rfl fun g6 w7 hg6 M => A4 (A5 (A9 (A0 (ya rfl (CC (us := []) (vs := [pg g5, pg g6]) rfl rfl rfl) (BI M (AA rfl) rfl rfl 144 rfl [.nilFunc] HY rfl fun g7 w8 hg7 M => BP (cs' := [.func (.func 123) #[] #[pg g5, pg g6]]) M 0 (AA rfl) rfl rfl rfl rfl rfl rfl rfl I0 (AZ rfl) rfl fun w9 M => ?_)))))))))⟩
  refine A4 (A5 (A9 (A0 (ya rfl (CC (us := []) (vs := [pg g5]) rfl rfl rfl) (BI M (AA rfl) rfl rfl 146 rfl [.nilFunc] IY rfl fun g8 w10 hg8 M => BP (cs' := [.func (.func 124) #[] #[pg g5]]) M 0 (AA rfl) rfl rfl rfl rfl rfl rfl rfl J0 (AZ rfl) rfl fun w11 M => A4 (A5 (A9 (A0 (ya rfl (CC (us := []) (vs := [pg g5, pg g6]) rfl rfl rfl) (BI M (AA rfl) rfl rfl 146 rfl [.nilFunc] IY rfl fun g9 w12 hg9 M => ?_))))))))))
  refine BP (cs' := [.func (.func 126) #[] #[pg g5, pg g6]]) M 0 (AA rfl) rfl rfl rfl rfl rfl rfl rfl J0 (AZ rfl) rfl fun w13 M => A4 (A5 (A9 (A0 (ya rfl (CC (us := []) (vs := [pg g5, pg g7, pg g9, pg g8]) rfl rfl rfl) (BI M (AA rfl) rfl rfl 143 rfl [.nilFunc] GM rfl fun g10 w14 hg10 M => BP (cs' := [.func (.func 127) #[] #[pg g5, pg g7, pg g9, pg g8]]) M 0 (AA rfl) rfl rfl rfl rfl rfl rfl rfl GN (AZ rfl) rfl fun w15 M => A4 (A5 (A9 (A0 (ya rfl (CC (us := []) (vs := [pg g5, pg g10, pg g6]) rfl rfl rfl) ?_)))))))))
  refine BP (cs' := [.func (.func 128) #[] #[pg g5, pg g10, pg g6]]) M 4 (AA rfl) rfl rfl rfl rfl rfl rfl rfl GN (AZ rfl) rfl fun w16 M => A4 (A5 (A9 (A0 (yl rfl rfl (M.cell 4 rfl rfl) (cl 27 rfl (BK rfl rfl rfl call128) ((nY s gx g5 g6 g7 g8 g9 g10 257).call 1 (B6 s lx0) _ (by decide) (M.blk 6 rfl) DO (Nat.le_trans (eB _ _) (by omega)) ⟨M.blk 5 rfl, M.blk 4 rfl, M.blk 3 rfl, M.blk 2 rfl, M.blk 1 rfl, M.blk 0 rfl, ⟨M.neBlk 5 6 rfl rfl (by decide), M.neBlk 4 6 rfl rfl (by decide), M.neBlk 3 6 rfl rfl (by decide), M.neBlk 2 6 rfl rfl (by decide), M.neBlk 1 6 rfl rfl (by decide), M.neBlk 0 6 rfl rfl (by decide)⟩, hnx, by omega⟩ (hY.fr M.fr hGx)) ?_)))))
  rintro _ w17 ⟨A27, F27, rfl, hat27, hnw27, hbw17, hfw17⟩
  have M := M.putPush 6 rfl hbw17 hfw17 (As.xn 129 (CG s 258 1 (B6 s lx0)).1 A27 F27) hat27 hnw27
  have hI27 := (WO s 257).I 1 (B6 s lx0) DO (Nat.le_trans (eB _ _) (by omega))
  refine ⟨_, rfl, BI M (AA rfl) rfl rfl 129 rfl [.int .u8 0, .int .u8 0, .int .i64 0, .bool false, str [], str [], .slice none 0 0] D0 rfl fun g11 w18 hg11 M => B8 (cs' := (Xn.cells ((CG s 258 1 (B6 s lx0)).1) A27)) M 0 (AA rfl) rfl rfl rfl rfl rfl AR rfl (AI rfl) (AY rfl) rfl fun w19 M => A4 (A5 (A9 (A9 (A0 (yl rfl rfl (M.cell 7 rfl rfl) (yb rfl (yb rfl (yb rfl (yl rfl rfl (M.cell 8 rfl rfl) (yb rfl ?_))))))))))⟩
  refine A4 (A5 (AT (b := (!(CG s 258 1 (B6 s lx0)).2.fin)) rfl (fun h33 => ?_) (fun h33 => ?_)))
  ·have h33p := (C4 h33)
   refine GC 6 DV (by kernel_rfl) ?_
   have M := M.drew
   refine sd rfl rfl (M.cell 7 rfl rfl) (sd rfl rfl (M.cell 7 rfl rfl) (sb rfl (sb rfl (sb rfl (sd rfl rfl (M.cell 8 rfl rfl) (E9 (cl 40 rfl (AE rfl rfl call125) (EC s ((CG s 258 1 (B6 s lx0)).2) _ _ _ _ (M.blk 8 rfl)) ?_)))))))
   rintro _ w20 ⟨rfl, hbw20, hfw20⟩
   have M := M.putB 8 rfl hbw20 hfw20
   refine ⟨_, rfl, A4 (A5 (A9 (A9 (A0 (yl rfl rfl (M.cell 7 rfl rfl) (yb rfl (yb rfl (yl rfl rfl (M.cell 8 rfl rfl) (ya rfl (CX rfl rfl rfl) (A4 (A5 (AT (b := (!decide ((((CG s 258 1 (B6 s lx0)).2).fail 4 ((CG s 258 1 (B6 s lx0)).2.tat)).e = (0 : Int)))) rfl (fun h45 => ?_) (fun h45 => ?_)))))))))))))⟩
   ·have h45p := (odf (C4 h45))
    refine A9 (DB 12 (fun w' => Mem w AD [As.blk g11 129 (Xn.cells ((CG s 258 1 (B6 s lx0)).1) A27), As.xn 129 ((CG s 258 1 (B6 s lx0)).1) A27 F27, As.blk g10 143 [.func (.func 127) #[] #[pg g5, pg g7, pg g9, pg g8]], As.blk g9 146 [.func (.func 126) #[] #[pg g5, pg g6]], As.blk g8 146 [.func (.func 124) #[] #[pg g5]], As.blk g7 144 [.func (.func 123) #[] #[pg g5, pg g6]], As.blk g6 143 [.func (.func 128) #[] #[pg g5, pg g10, pg g6]], As.blk g5 138 [pg gx], As.blk gx 142 (Lx.cells s (((CG s 258 1 (B6 s lx0)).2).fail 4 ((CG s 258 1 (B6 s lx0)).2.tat)))] w') DV ?_)
    have M := M.drew
    refine oa 0 12 rfl rfl (M.pk [0, 1, 2, 3, 4, 5, 6, 7, 8]) (fun _ M => BU (parts := []) rfl rfl (I7)) (ol 1 12 rfl rfl rfl (M.pk [0, 1, 2, 3, 4, 5, 6, 7, 8]) (fun _ M => (M.cell 7 rfl rfl)) (oc 2 12 rfl rfl (M.pk [0, 1, 2, 3, 4, 5, 6, 7, 8]) (oc 3 12 rfl rfl (M.pk [0, 1, 2, 3, 4, 5, 6, 7, 8]) (ol 4 12 rfl rfl rfl (M.pk [0, 1, 2, 3, 4, 5, 6, 7, 8]) (fun _ M => (M.cell 8 rfl rfl)) (ol 5 12 rfl rfl rfl (M.pk [0, 1, 2, 3, 4, 5, 6, 7, 8]) (fun _ M => (M.cell 7 rfl rfl)) (oc 6 12 rfl rfl (M.pk [0, 1, 2, 3, 4, 5, 6, 7, 8]) (oc 7 12 rfl rfl (M.pk [0, 1, 2, 3, 4, 5, 6, 7, 8]) (ol 8 12 rfl rfl rfl (M.pk [0, 1, 2, 3, 4, 5, 6, 7, 8]) (fun _ M => (M.cell 8 rfl rfl)) (BG 9 none (by kernel_rfl) rfl (AA rfl) rfl rfl (fun ρ hρ => BW 129 _ _ rfl g2 0 129 _ ([.int .u8 0, .int .u8 0, .int .i64 0, .bool false, str [], str [], .slice none 0 0]) (hρ _ _ rfl) (hρ _ _ rfl) (M.blk 9 rfl) AR (AI rfl) (AY rfl)) ?_)))))))))
    rintro _ w21 ⟨rfl, hbw21, hfw21⟩
    replace M : Mem w AD (List.set _ 9 (As.blk g2 129 [.int .u8 0, .int .u8 0, .int .i64 0, .bool false, str [], str [], .slice none 0 0])) w21 := M.putB 9 rfl hbw21 hfw21
    refine ⟨fun _ => (M.pk [0, 1, 2, 3, 4, 5, 6, 7, 8]), oc 10 12 rfl rfl (M.pk [0, 1, 2, 3, 4, 5, 6, 7, 8]) (oc 11 12 rfl rfl (M.pk [0, 1, 2, 3, 4, 5, 6, 7, 8]) (BN (by kernel_rfl) (A5 (AF (AB (L5 rfl rfl (M.rdBlk 9 rfl rfl) underlying129 rfl AR rfl rfl ?_))))))⟩
    rw [W2 h14p h33p h45p]
    exact ⟨none, [], rfl, ⟨rfl, rfl⟩, (fun k hk => absurd hk (by simp)), M.fr⟩
   ·have h45p := (odt (C5 h45))
    refine AN (A5 (A9 (A0 (ya rfl (AU (xs := Xn.cells ((CG s 258 1 (B6 s lx0)).1) A27) rfl rfl (M.rdBlk 0 rfl rfl) underlying129 rfl AR) (B8 (cs' := (Xn.cells ((CG s 258 1 (B6 s lx0)).1) A27)) M 9 (AA rfl) rfl rfl rfl rfl rfl AR rfl (AI rfl) (AY rfl) rfl fun w22 M => yb rfl (yb rfl (A4 (A5 (AF (L5 rfl rfl (M.rdBlk 9 rfl rfl) underlying129 rfl AR rfl rfl ?_))))))))))
    rw [W1 h14p h33p h45p]
    exact ⟨_, _, rfl, M.ok 1 _ rfl, M.new0 1 rfl, M.fr⟩
  ·have h33p := (C5 h33)
   refine AN (A5 (A9 (A9 (A0 (yl rfl rfl (M.cell 7 rfl rfl) (yb rfl (yb rfl (yl rfl rfl (M.cell 8 rfl rfl) (ya rfl (CX rfl rfl rfl) (A4 (A5 (AT (b := (!decide ((CG s 258 1 (B6 s lx0)).2.e = (0 : Int)))) rfl (fun h45 => ?_) (fun h45 => ?_)))))))))))))
   ·have h45p := (odf (C4 h45))
    refine A9 (DB 12 (fun w' => Mem w AD [As.blk g11 129 (Xn.cells ((CG s 258 1 (B6 s lx0)).1) A27), As.xn 129 ((CG s 258 1 (B6 s lx0)).1) A27 F27, As.blk g10 143 [.func (.func 127) #[] #[pg g5, pg g7, pg g9, pg g8]], As.blk g9 146 [.func (.func 126) #[] #[pg g5, pg g6]], As.blk g8 146 [.func (.func 124) #[] #[pg g5]], As.blk g7 144 [.func (.func 123) #[] #[pg g5, pg g6]], As.blk g6 143 [.func (.func 128) #[] #[pg g5, pg g10, pg g6]], As.blk g5 138 [pg gx], As.blk gx 142 (Lx.cells s ((CG s 258 1 (B6 s lx0)).2))] w') DV ?_)
    have M := M.drew
    refine oa 0 12 rfl rfl (M.pk [0, 1, 2, 3, 4, 5, 6, 7, 8]) (fun _ M => BU (parts := []) rfl rfl (I7)) (ol 1 12 rfl rfl rfl (M.pk [0, 1, 2, 3, 4, 5, 6, 7, 8]) (fun _ M => (M.cell 7 rfl rfl)) (oc 2 12 rfl rfl (M.pk [0, 1, 2, 3, 4, 5, 6, 7, 8]) (oc 3 12 rfl rfl (M.pk [0, 1, 2, 3, 4, 5, 6, 7, 8]) (ol 4 12 rfl rfl rfl (M.pk [0, 1, 2, 3, 4, 5, 6, 7, 8]) (fun _ M => (M.cell 8 rfl rfl)) (ol 5 12 rfl rfl rfl (M.pk [0, 1, 2, 3, 4, 5, 6, 7, 8]) (fun _ M => (M.cell 7 rfl rfl)) (oc 6 12 rfl rfl (M.pk [0, 1, 2, 3, 4, 5, 6, 7, 8]) (oc 7 12 rfl rfl (M.pk [0, 1, 2, 3, 4, 5, 6, 7, 8]) (ol 8 12 rfl rfl rfl (M.pk [0, 1, 2, 3, 4, 5, 6, 7, 8]) (fun _ M => (M.cell 8 rfl rfl)) (BG 9 none (by kernel_rfl) rfl (AA rfl) rfl rfl (fun ρ hρ => BW 129 _ _ rfl g2 0 129 _ ([.int .u8 0, .int .u8 0, .int .i64 0, .bool false, str [], str [], .slice none 0 0]) (hρ _ _ rfl) (hρ _ _ rfl) (M.blk 9 rfl) AR (AI rfl) (AY rfl)) ?_)))))))))
    rintro _ w23 ⟨rfl, hbw23, hfw23⟩
    replace M : Mem w AD (List.set _ 9 (As.blk g2 129 [.int .u8 0, .int .u8 0, .int .i64 0, .bool false, str [], str [], .slice none 0 0])) w23 := M.putB 9 rfl hbw23 hfw23
    refine ⟨fun _ => (M.pk [0, 1, 2, 3, 4, 5, 6, 7, 8]), oc 10 12 rfl rfl (M.pk [0, 1, 2, 3, 4, 5, 6, 7, 8]) (oc 11 12 rfl rfl (M.pk [0, 1, 2, 3, 4, 5, 6, 7, 8]) (BN (by kernel_rfl) (A5 (AF (AB (L5 rfl rfl (M.rdBlk 9 rfl rfl) underlying129 rfl AR rfl rfl ?_))))))⟩
    rw [Y1 h14p h33p h45p]
    exact ⟨none, [], rfl, ⟨rfl, rfl⟩, (fun k hk => absurd hk (by simp)), M.fr⟩
   ·have h45p := (odt (C5 h45))
    refine AN (A5 (A9 (A0 (ya rfl (AU (xs := Xn.cells ((CG s 258 1 (B6 s lx0)).1) A27) rfl rfl (M.rdBlk 0 rfl rfl) underlying129 rfl AR) (B8 (cs' := (Xn.cells ((CG s 258 1 (B6 s lx0)).1) A27)) M 9 (AA rfl) rfl rfl rfl rfl rfl AR rfl (AI rfl) (AY rfl) rfl fun w24 M => yb rfl (yb rfl (A4 (A5 (AF (L5 rfl rfl (M.rdBlk 9 rfl rfl) underlying129 rfl AR rfl rfl ?_))))))))))
    rw [Y0 h14p h33p h45p]
    exact ⟨_, _, rfl, M.ok 1 _ rfl, M.new0 1 rfl, M.fr⟩
end
section
theorem pT {e : Env} {w : World} {o : Oper} {t' : Nat} {x y : Operand} {a b : Vl} (ho : o.op = .binOp .neq 95 x y t') (hx : ev e x = some (.agg a.cells.toArray)) (hy : ev e y = some (.agg b.cells.toArray)) : Y prog e o w (.bool (!(a.same b))) := fun ρ h => by
 have h1 : ρ x = .agg a.cells.toArray := h _ _ hx
 have h2 : ρ y = .agg b.cells.toArray := h _ _ hy
 have hg := run_eqGuard_agg (P := prog) w .neq 95 x y a.cells.toArray b.cells.toArray PR
 have hrun : (Op.equalIn 10000 95 (.agg a.cells.toArray) (.agg b.cells.toArray)).run prog w = .ok (a.same b) w := by
  rw [run_equalIn_struct w 9999 95 _ _ NF R8]
  have hl : (prog.fieldsOf 95).toList = (match prog.underlying 95 with | some (.struct fs) => fs.toList | _ => []) := by unfold Program.fieldsOf; rw [underlying95]
  rw [hl, underlying95]
  simp only
  rw [BX (a := .int .u8 (a.kind.toNat : Int)) (b := .int .u8 (b.kind.toNat : Int)) (by decide) (BQ (isAgg5 w) rfl) (BQ (isAgg5 w) rfl) (run_equalIn_int w 9998 5 _ _ _ _ underlying5),
   BX (a := .int .i64 a.int) (b := .int .i64 b.int) (by decide) (BQ (isAgg2 w) rfl) (BQ (isAgg2 w) rfl) (run_equalIn_int w 9998 2 _ _ _ _ underlying2),
   BX (a := .bool a.bool) (b := .bool b.bool) (by decide) (BQ (isAgg4 w) rfl) (BQ (isAgg4 w) rfl) (run_equalIn_bool' w 9998 4 _ _ underlying4),
   BX (a := str a.text) (b := str b.text) (by decide) (BQ (isAgg9 w) rfl) (BQ (isAgg9 w) rfl) (run_equalIn_string w 9998 9 _ _ underlying9)]
  have ht : ((⟨a.text.toArray⟩ : ByteArray).toList == (⟨b.text.toArray⟩ : ByteArray).toList) = decide (a.text = b.text) := by
   rw [ByteArray.toList_eq, ByteArray.toList_eq]
   by_cases h : a.text = b.text <;> simp [h]
  rw [ht]
  simp only [Op.eqFields, Sem.run_pure]
  unfold Vl.same
  by_cases h1 : (a.kind.toNat : Int) = b.kind.toNat <;> by_cases h2 : a.int = b.int <;> by_cases h3 : a.bool = b.bool <;> by_cases h4 : a.text = b.text <;> simp [h1, h2, h3, h4]
 unfold execOp
 simp only [ho, h1, h2, Sem.run_bind, hg, Result.andThen_ok, run_neq_struct, hrun]
 rfl
def Xn.sm (k : Nat) : Xn → Prop
 | .zero => True
 | .lit v => v.text.length ≤ k
 | .var s => s.length ≤ k
 | .un _ a => a.sm k
 | .bin _ a b => a.sm k ∧ b.sm k
theorem Xn.sm_vl {k : Nat} : ∀ {n : Xn}, n.sm k → n.vl.text.length ≤ k
 | .zero, _ => Nat.zero_le _
 | .lit _, h => h
 | .var _, _ => Nat.zero_le _
 | .un _ _, _ => Nat.zero_le _
 | .bin _ _ _, _ => Nat.zero_le _
theorem Xn.sm_nm {k : Nat} : ∀ {n : Xn}, n.sm k → n.nm.length ≤ k
 | .zero, _ => Nat.zero_le _
 | .lit _, _ => Nat.zero_le _
 | .var _, h => h
 | .un _ _, _ => Nat.zero_le _
 | .bin _ _ _, _ => Nat.zero_le _
theorem vH {m : Nat} : ∀ (l b : List UInt8) {b' : List UInt8} {n : Nat}, l.length ≤ m → qt b l = some (b', n) → b'.length ≤ b.length + l.length := by
 induction m with
 | zero =>
  intro l b b' n hl h
  cases l with
  | nil => cases h
  | cons c r => simp at hl
 | succ m ih =>
  intro l b b' n hl h
  match l, h with
  | [c], h =>
   by_cases hc : (c.toNat : Int) = 39
   ·rw [show qt b [c] = if (c.toNat : Int) = 39 then some (b, 0) else none from rfl, if_pos hc] at h
    cases h; simp
   ·rw [show qt b [c] = if (c.toNat : Int) = 39 then some (b, 0) else none from rfl, if_neg hc] at h
    cases h
  | c :: d :: r, h =>
   simp only [List.length_cons] at hl
   by_cases hc : (c.toNat : Int) = 39
   ·by_cases hd : (d.toNat : Int) = 39
    ·rw [qt, if_pos hc, if_pos hd] at h
     have := ih r (b ++ [d]) (by omega) h
     simp only [List.length_append, List.length_cons, List.length_nil] at this ⊢; omega
    ·rw [qt, if_pos hc, if_neg hd] at h
     cases h; simp
   ·rw [qt, if_neg hc] at h
    have := ih (d :: r) (b ++ [c]) (by simp only [List.length_cons]; omega) h
    simp only [List.length_append, List.length_cons, List.length_nil] at this ⊢; omega
theorem kZ {k : Nat} {l : List UInt8} {x : Lx} (hl : l.length ≤ k) (h : x.nd.sm k) : (HI l x).nd.sm k := by
 unfold HI
 split
 ·rename_i b n hq
  split
  ·have := vH (m := l.tail.length) l.tail [] (Nat.le_refl _) hq
   simp only [List.length_tail, List.length_nil] at this
   show b.length ≤ k
   omega
  ·rw [DM]; exact h
 ·rw [DM]; exact h
theorem rT {k : Nat} {t : List UInt8} {x : Lx} (h : x.nd.sm k) : (GL t x).nd.sm k := by
 unfold GL
 split
 ·rw [DM]; exact h
 ·split <;> exact Nat.zero_le _
theorem kL {k : Nat} {t : List UInt8} {x : Lx} (hl : t.length ≤ k) (h : x.nd.sm k) : (E7 t x).nd.sm k := by
 unfold E7
 repeat' split
 all_goals first
  | exact Nat.zero_le _
  | exact h
  | (rw [DM]; exact h)
  | exact hl
theorem mQ {s r : List UInt8} {x : Lx} (hr : r.length ≤ s.length) : (HM s r x).nd.sm s.length := by
 unfold HM
 split
 ·trivial
 ·split
  ·exact rT (x := ⟨_, .zero, _, _, _, _, _⟩) trivial
  ·split
   ·exact kL (x := ⟨_, .zero, _, _, _, _, _⟩) (by rw [List.length_take]; omega) trivial
   ·split
    ·exact kZ (x := ⟨_, .zero, _, _, _, _, _⟩) hr trivial
    ·split
     ·show (Lx.fail _ _ _).nd.sm s.length
      rw [DM]; trivial
     ·trivial
theorem IM {s : List UInt8} {x : Lx} : (B6 s x).nd.sm s.length := mQ (JZ _ _)
def FrS (s : List UInt8) (fr : Nat → Lx → Xn × Lx) : Prop := ∀ (line : Nat) (x : Lx), x.nd.sm s.length → (fr line x).1.sm s.length ∧ (fr line x).2.nd.sm s.length
section
variable {s : List UInt8} {fr : Nat → Lx → Xn × Lx}
theorem o7 (h : FrS s fr) {line : Nat} {x : Lx} (hx : x.nd.sm s.length) : (D6 s fr line x).1.sm s.length ∧ (D6 s fr line x).2.nd.sm s.length := by
 unfold D6
 split
 ·exact h _ _ IM
 ·split
  ·exact h _ _ IM
  ·split
   ·exact ⟨(h _ _ IM).1, IM⟩
   ·exact ⟨hx, IM⟩
theorem eD (h : FrS s fr) (line : Nat) : ∀ (k : Nat) (n : Xn) (x : Lx), n.sm s.length → x.nd.sm s.length → (FM s fr k line n x).1.sm s.length ∧ (FM s fr k line n x).2.nd.sm s.length
 | 0, _, _, hn, hx => ⟨hn, hx⟩
 | k + 1, n, x, hn, hx => by
  unfold FM
  split
  ·exact ⟨hn, hx⟩
  ·split
   ·exact ⟨hn, hx⟩
   ·have h1 := h (QI x.say + 1) (B6 s x) IM
    refine eD h line k _ _ ⟨hn, h1.1⟩ ?_
    unfold KW
    simp only
    split
    ·rw [DM]; exact h1.2
    ·exact h1.2
theorem WN (s : List UInt8) : ∀ f : Nat, FrS s (CG s f)
 | 0 => fun _ _ hx => ⟨trivial, hx⟩
 | f + 1 => fun line x hx => by
  unfold CG
  split
  ·exact ⟨trivial, hx⟩
  ·have h1 := o7 (WN s f) (line := line) hx
   exact eD (WN s f) line f _ _ h1.1 h1.2
end
theorem i7 (s : List UInt8) : (CQ s).1.sm s.length := by
 unfold CQ
 split
 ·trivial
 ·simp only
  repeat' split
  all_goals first
   | exact (WN s 258 1 _ IM).1
   | trivial
def Xn.kids : Xn → List Xn
 | .un _ a => [a]
 | .bin _ a b => [a, b]
 | _ => []
theorem Xn.ind {C : Xn → Prop} (h : ∀ n : Xn, (∀ a ∈ n.kids, C a) → C n) : ∀ n : Xn, C n
 | .zero => h _ (fun _ hh => by cases hh)
 | .lit _ => h _ (fun _ hh => by cases hh)
 | .var _ => h _ (fun _ hh => by cases hh)
 | .un o a =>
  have ha := Xn.ind h a
  h (.un o a) (fun x hx => by simp only [Xn.kids, List.mem_singleton] at hx; subst hx; exact ha)
 | .bin o a b =>
  have ha := Xn.ind h a
  have hb := Xn.ind h b
  h (.bin o a b) (fun x hx => by
   simp only [Xn.kids, List.mem_cons, List.not_mem_nil, or_false] at hx
   rcases hx with rfl | rfl
   ·exact ha
   ·exact hb)
theorem Xn.sm_kid {k : Nat} : ∀ {n a : Xn}, n.sm k → a ∈ n.kids → a.sm k
 | .un _ _, _, h, hx => by simp only [Xn.kids, List.mem_singleton] at hx; subst hx; exact h
 | .bin _ _ _, _, h, hx => by
  simp only [Xn.kids, List.mem_cons, List.not_mem_nil, or_false] at hx
  rcases hx with rfl | rfl
  ·exact h.1
  ·exact h.2
def ndC (q : Xn × Option Addr) : List Value := q.1.cells q.2
theorem sA (q : Xn × Option Addr) : (ndC q).length = 7 := rfl
theorem Xn.AtL.kids {t : TypeId} {w : World} : ∀ {n : Xn} {A : Option Addr} {F : List Nat}, n.AtL t w A F → ∃ L : List (Xn × Option Addr), L.map Prod.fst = n.kids ∧ L.length = n.nk ∧ Rd w A (L.length * 7) (AS ndC L) ∧ ∀ q ∈ L, ∃ F', q.1.AtL t w q.2 F'
 | .zero, _, _, h => ⟨[], rfl, rfl, by rw [h.1]; exact Rd.nil, fun _ hh => by cases hh⟩
 | .lit _, _, _, h => ⟨[], rfl, rfl, by rw [h.1]; exact Rd.nil, fun _ hh => by cases hh⟩
 | .var _, _, _, h => ⟨[], rfl, rfl, by rw [h.1]; exact Rd.nil, fun _ hh => by cases hh⟩
 | .un _ a, _, _, ⟨g, B, F', h1, _, h3, h4⟩ => ⟨[(a, B)], rfl, rfl, by rw [h1]; exact Rd.ofBlk h3 rfl, fun q hq => by
  simp only [List.mem_singleton] at hq; subst hq; exact ⟨_, h4⟩⟩
 | .bin _ a b, _, _, ⟨g, B, C, F', F'', h1, _, h3, h4, h5⟩ => ⟨[(a, B), (b, C)], rfl, rfl, by rw [h1]; exact Rd.ofBlk h3 rfl, fun q hq => by
  simp only [List.mem_cons, List.not_mem_nil, or_false] at hq
  rcases hq with rfl | rfl
  ·exact ⟨_, h4⟩
  ·exact ⟨_, h5⟩⟩
theorem Xn.AtL.fr0 {t : TypeId} {w w' : World} {n : Xn} {A : Option Addr} {F : List Nat} (h : n.AtL t w A F) (hf : Fr0 w w') : n.AtL t w' A F := h.keep (fun g _ hg => hf.block g hg (fun hh => hh))
theorem Xn.nk_le (n : Xn) : n.nk ≤ 2 := by cases n <;> simp [Xn.nk]
theorem F6 {w w' : World} {L : List (Nat × List Value)} (h : Laid w L) (hf : Fr0 w w') : Laid w' L := fun p hp => by
 obtain ⟨el, fz, h1⟩ := h p hp
 exact ⟨el, fz, (hf.block _ (Array.getElem?_eq_some_iff.1 h1).1 (fun hh => hh)).trans h1⟩
def HR (b : UInt8) : List Value := [.int .u8 (b.toNat : Int)]
theorem VH (b : UInt8) : (HR b).length = 1 := rfl
end
end Go.Proofs.YtdaihdknnlphkaaGreatDoor
