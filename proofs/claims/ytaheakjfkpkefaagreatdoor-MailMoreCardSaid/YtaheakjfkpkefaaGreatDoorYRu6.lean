/- Lemmas that the last text rests on. Condition: each says its own. -/
import Derived.Test.YtaheakjfkpkefaaGreatDoorYRu5
set_option maxHeartbeats 16000000
set_option maxRecDepth 100000
namespace Go.Proofs.YtaheakjfkpkefaaGreatDoor
open Go.RowKit
open Tryz
def FK (k : List UInt8) (seen : List (List UInt8)) : Bool := BU k && !(decide (k ∈ seen))
def Fresh (w : World) (g3 g6 : Nat) (seen : List (List UInt8)) : Prop := Blk w g3 92 [.map (some g6)] ∧ ¬ g3 = g6 ∧ ∃ L, Mp w g6 L ∧ ∀ k, (BP L k).getD (.bool false) = .bool (decide (k ∈ seen))
theorem P2 {L : List (List UInt8 × Value)} {seen : List (List UInt8)} {k : List UInt8} (hL : ∀ k, (BP L k).getD (.bool false) = .bool (decide (k ∈ seen))) : ∀ k', (BP (CK L k (.bool true)) k').getD (.bool false) = .bool (decide (k' ∈ k :: seen)) := fun k' => by
 rw [E8]
 by_cases h : k' = k
 ·rw [if_pos h]; simp [h]
 ·rw [if_neg h, hL]; simp [h]
theorem j5 {w : World} {g : Nat} {L : List (List UInt8 × Value)} (h : Mp w g L) : g < w.heap.size := by
 obtain ⟨es, cl, h1, _⟩ := h
 exact (Array.getElem?_eq_some_iff.1 h1).1
theorem Mem.cellMp {w : World} {g3 g6 t : Nat} {cs : List Value} {L : List (List UInt8 × Value)} (hc : Blk w g3 t cs) (hm : Mp w g6 L) (hne : ¬ g3 = g6) : Mem w (fun k => k = g3 ∨ k = g6) [As.blk g3 t cs, As.mp g6 L] w where
 fr := Fr.refl
 ok i a hi := by
  match i with
  | 0 => simp only [List.getElem?_cons_zero, Option.some.injEq] at hi; subst hi; exact hc
  | 1 => simp only [List.getElem?_cons_succ, List.getElem?_cons_zero, Option.some.injEq] at hi; subst hi; exact hm
  | i + 2 => simp at hi
 lt i a hi g hg := by
  match i with
  | 0 =>
   simp only [List.getElem?_cons_zero, Option.some.injEq] at hi; subst hi
   simp only [As.blk, List.mem_singleton] at hg; subst hg; exact ⟨hc.lt, .inr (.inl rfl)⟩
  | 1 =>
   simp only [List.getElem?_cons_succ, List.getElem?_cons_zero, Option.some.injEq] at hi; subst hi
   simp only [As.mp, List.mem_singleton] at hg; subst hg; exact ⟨j5 hm, .inr (.inr rfl)⟩
  | i + 2 => simp at hi
 apart i j a b hi hj hij g hg hg' := by
  match i, j with
  | 0, 0 => exact hij rfl
  | 1, 1 => exact hij rfl
  | 0, 1 =>
   simp only [List.getElem?_cons_succ, List.getElem?_cons_zero, Option.some.injEq] at hi hj; subst hi; subst hj
   simp only [As.blk, As.mp, List.mem_singleton] at hg hg'; exact hne (hg ▸ hg')
  | 1, 0 =>
   simp only [List.getElem?_cons_succ, List.getElem?_cons_zero, Option.some.injEq] at hi hj; subst hi; subst hj
   simp only [As.blk, As.mp, List.mem_singleton] at hg hg'; exact hne (hg' ▸ hg)
  | i + 2, _ => simp at hi
  | 0, j + 2 => simp at hj
  | 1, j + 2 => simp at hj
theorem Mem.neMp {w0 w : World} {S : Nat → Prop} {L : List As} (M : Mem w0 S L w) (i j : Nat) {a b t : Nat} {cs : List Value} {K : List (List UInt8 × Value)} (hi : L[i]? = some (As.blk a t cs)) (hj : L[j]? = some (As.mp b K)) (h : i ≠ j) : ¬ a = b := fun e =>
 M.apart i j _ _ hi hj h a (by simp [As.blk]) (by simp [As.mp, e])
theorem Fresh.keep {w w' : World} {g3 g6 : Nat} {seen : List (List UInt8)} (hk : ∀ g ∈ [g3, g6], g < w.heap.size → w'.heap[g]? = w.heap[g]?) (h : Fresh w g3 g6 seen) : Fresh w' g3 g6 seen := by
 obtain ⟨hc, hne, L, ⟨es, cl, h1, h2⟩, hL⟩ := h
 exact ⟨(hk g3 (by simp) hc.lt).trans hc, hne, L, ⟨es, cl, (hk g6 (by simp) (Array.getElem?_eq_some_iff.1 h1).1).trans h1, h2⟩, hL⟩
def As.fresh (g3 g6 : Nat) (seen : List (List UInt8)) : As := ⟨[g3, g6], fun w => Fresh w g3 g6 seen, fun h hb => hb.keep h⟩
theorem Mem.oneFresh {w : World} {g3 g6 : Nat} {seen : List (List UInt8)} (h : Fresh w g3 g6 seen) : Mem w (fun k => k = g3 ∨ k = g6) [As.fresh g3 g6 seen] w where
 fr := Fr.refl
 ok i a hi := by
  cases i with
  | zero => simp only [List.getElem?_cons_zero, Option.some.injEq] at hi; subst hi; exact h
  | succ i => simp at hi
 lt i a hi g hg := by
  cases i with
  | zero =>
   simp only [List.getElem?_cons_zero, Option.some.injEq] at hi; subst hi
   obtain ⟨hc, _, L, hm, _⟩ := h
   simp only [As.fresh, List.mem_cons, List.not_mem_nil, or_false] at hg
   rcases hg with rfl | rfl
   ·exact ⟨hc.lt, .inr (.inl rfl)⟩
   ·exact ⟨j5 hm, .inr (.inr rfl)⟩
  | succ i => simp at hi
 apart i j a b hi hj hij := by
  cases i with
  | zero => cases j with
   | zero => exact absurd rfl hij
   | succ j => simp at hj
  | succ i => simp at hi
theorem Mem.updFresh {w0 w w' : World} {S : Nat → Prop} {L : List As} (M : Mem w0 S L w) (i : Nat) {g3 g6 : Nat} {seen seen' : List (List UInt8)} (hi : L[i]? = some (As.fresh g3 g6 seen)) (hF : Fresh w' g3 g6 seen') (hf : Fr (fun k => k = g3 ∨ k = g6) w w') : Mem w0 S (L.set i (As.fresh g3 g6 seen')) w' :=
 M.upd i hi (hf.mono fun k _ e => by simpa [As.fresh] using e) (As.fresh g3 g6 seen') hF (fun g' hg' => .inl hg')
def U5 (k : Nat) : Prop := ∃ p ∈ utfL, p.1 = k
theorem L9 {S : Nat → Prop} {w w' : World} (h : Laid w utfL) (hf : Fr S w w') (hS : ∀ k, S k → ¬ U5 k) : Laid w' utfL := fun p hp => by
 obtain ⟨el, fz, h1⟩ := h p hp
 exact ⟨el, fz, (hf.block _ (Array.getElem?_eq_some_iff.1 h1).1 (fun hh => hS _ hh ⟨p, hp, rfl⟩)).trans h1⟩
theorem GA : (prog.info? 92).map (·.size) = some 1 := by kernel_rfl
theorem LS : (prog.info? 4).map (·.zero) = some (some (.bool false)) := by kernel_rfl
theorem G7 : (prog.info? 92).map (·.zero) = some (some (.map none)) := by kernel_rfl
theorem P4 (g3 g6 : Nat) (seen : List (List UInt8)) (k : List UInt8) (w : World) (hk : (k.length : Int) < 4611686018427387904) (hF : Fresh w g3 g6 seen) :
 Calls prog 158 #[str k, pg g3] w fun e w' => e = .returned (.bool (FK k seen)) ∧ Fresh w' g3 g6 (k :: seen) ∧ Fr (fun k => k = g3 ∨ k = g6) w w' := by
 obtain ⟨hc, hne, L, hm, hL⟩ := hF
 refine sx_enter (vs := [_, _]) func158 rfl ntmps158 rfl ?_
 have M : Mem w (fun k => k = g3 ∨ k = g6) [As.blk g3 92 [.map (some g6)], As.mp g6 L] w := Mem.cellMp hc hm hne
 refine srg (AG rfl (AC rfl (DV M 6 rfl rfl call61 (DJ _ _ (by first | assumption | omega)) fun w1 M => yb rfl (fvm M 5 [1, 0] [(12, .bool ((BU k) && (!(decide (k ∈ seen)))))] ?_ (fun k7 => ?_)))))
 ·intro w2 M
  refine AG rfl (srg (B2 M 0 rfl rfl rfl (yb rfl (ES M 1 (wn_none rfl) rfl rfl rfl rfl rfl underlying92 underlying9 rfl fun w3 M => nq (AC rfl (yb rfl (sxl_nil ?_)))))))
  exact qx_seq (sx_ret (gr1 rfl ⟨rfl, ⟨M.blk 0 rfl, hne, _, M.mp 1 rfl, P2 hL⟩, M.fr⟩))
 refine AD (d := 7) rfl (fun h7 => ?_) (fun h7 => ?_)
 ·exact C3 M 0 rfl rfl rfl (gyq rfl (yd rfl (BD rfl rfl rfl underlying92 underlying9 LS (M.mp 1 rfl) (hL _)) (gyq rfl (yb rfl (k7 M ⟨rfl, rfl, (by rw [h7]; rfl), trivial⟩)))))
 ·iterate 4 refine yo rfl ?_
  exact yb rfl (k7 M ⟨rfl, rfl, (by rw [h7]; rfl), trivial⟩)
theorem TA (A : Option Addr) (c : Nat) (tk : List (List UInt8)) (w : World) (hl : tk.length ≤ 4611686018427387904) (hR : Rd w A (tk.length * 1) (AB BK tk)) :
 Calls prog 106 #[.slice A tk.length c] w fun e w' => ∃ g3 g6, e = .returned (.func (.func 158) #[] #[pg g3]) ∧ Fresh w' g3 g6 tk.reverse ∧ (∀ k ∈ [g3, g6], w.heap.size ≤ k ∧ k < w'.heap.size) ∧ Fr0 w w' := by
 refine BL func106 ntmps106 rfl fun M => srg (AG rfl (srg (HL M (wn_none rfl) rfl rfl rfl fun g6 w1 hg6 M => E4 M (wn_none rfl) rfl rfl 92 rfl [.map none] G7 rfl fun g3 w2 hg3 M => gp1 M 0 rfl rfl rfl GA fun w3 M => nq ?_)))
 refine sx_seq (AC rfl (DP rfl rfl (AG rfl (sx_block (flp [8, 7, 3] (fun ze e wr mz => ∃ (i : Nat) (L : List (List UInt8 × Value)), e = (9, AA (i : Int)) :: ze ∧ Mem w AM [As.blk g3 92 [.map (some g6)], As.mp g6 L] wr ∧ (i ≤ tk.length) ∧ (∀ k, (BP L k).getD (.bool false) = .bool (decide (k ∈ (tk.take i).reverse))) ∧ mz = tk.length - i) ⟨0, [], rfl, M, Nat.zero_le _, fun _ => rfl, rfl⟩ ?_)))))
 rintro _ w4 _ ⟨i, L, rfl, M, hi, hL, rfl⟩
 refine srg (BM rfl rfl (nq (sx_seq (AF rfl (fun h10 => ?_) (fun h10 => ?_)))))
 ·have h10p := (odt h10)
  refine sx_skip (qx_seq (sx_seq (sx_block (srg ?_))))
  obtain ⟨x, hx⟩ := BZ (l := tk) (i := i) A0
  obtain ⟨b_x, o_x, hA_x⟩ := B7 (k := 1) A0 (hR.fr0 M.fr) hx
  refine ya rfl (AP i hA_x rfl rfl rfl (sl rfl) A0) (yl rfl rfl (E5 FD (hR.fr0 M.fr) hA_x hx 0 rfl) (AG rfl (sx_region (B2 M 0 rfl rfl rfl (yb rfl (ES M 1 (wn_none rfl) rfl rfl rfl rfl rfl underlying92 underlying9 rfl fun w5 M => sxl_nil (qx_block_normal (qx_seq (sx_region (C1 rfl rfl (yb rfl ?_)))))))))))
  refine sxl_nil (fag ⟨i + 1, CK L x (.bool true), rfl, M, ?_, ?_, rfl⟩)
  ·omega
  ·rw [AJ hx, List.reverse_append]
   exact P2 hL
 ·have h10p := (odf h10)
  refine sx_exit (qx_then_exit (qx_then_exit ?_))
  have hiE : i = tk.length := by omega
  rw [hiE, List.take_length] at hL
  refine qx_block_hit (qx_seq (srg (ya rfl (CE (us := []) (vs := [pg g3]) rfl rfl rfl) (yb rfl (gnr (gr1 rfl ?_))))))
  exact ⟨_, _, rfl, ⟨M.blk 0 rfl, M.neMp 0 1 rfl rfl AU, _, M.mp 1 rfl, hL⟩, (fun k hk => by
   rcases List.mem_cons.1 hk with rfl | hk
   ·exact M.new0 0 rfl k (by simp [As.blk])
   ·obtain rfl : k = _ := by simpa using hk
    exact M.new0 1 rfl _ (by simp [As.mp])), M.fr⟩
theorem nP (g3 g6 g5 : Nat) (seen : List (List UInt8)) (x : Bd) (w : World) (hx0 : ((x.name).length : Int) < 4611686018427387904) (hx1 : ((x.v.text).length : Int) < 4611686018427387904) (hT : Laid w utfL) (hTn : ∀ k, (fun k => k = g3 ∨ k = g6) k → ¬ U5 k) (hF : Fresh w g3 g6 seen) (hn5 : ¬ (g5 = g3 ∨ g5 = g6)) (hb5 : Blk w g5 97 [.func (.func 158) #[] #[pg g3]]) :
 Calls prog 109 #[.agg x.cells.toArray, pg g5] w fun e w' => e = .returned (.bool (FK x.name seen && decide (chk x.v = (0 : Int)))) ∧ Fresh w' g3 g6 (x.name :: seen) ∧ Fr (fun k => k = g3 ∨ k = g6) w w' := by
 refine sx_enter (vs := [_, _]) func109 rfl ntmps109 rfl ?_
 have M : Mem w (fun k => k = g3 ∨ k = g6) [As.fresh g3 g6 seen] w := Mem.oneFresh hF
 refine srg (DD M rfl rfl fun g2 w1 hg2 M => AG rfl (srg (yl rfl rfl (Blk.c (hb5.fr M.fr hn5) 0 rfl) (yb rfl (B2 M 0 rfl rfl rfl (cl 7 rfl (BC rfl rfl rfl call158) (P4 g3 g6 seen x.name _ hx0 (M.ok 1 _ rfl)) ?_))))))
 rintro _ w2 ⟨rfl, hFw2, hfw2⟩
 have M := M.updFresh 1 rfl hFw2 hfw2
 refine ⟨_, rfl, yb rfl (fvm M 5 [3] [(13, .bool ((FK x.name seen) && (decide ((chk (⟨x.v.kind, x.v.int, x.v.bool, x.v.text⟩ : Vl)) = (0 : Int)))))] ?_ (fun k8 => ?_))⟩
 ·intro w3 M
  exact yb rfl (gnr (gr1 rfl ⟨rfl, M.ok 1 _ rfl, M.fr⟩))
 refine AD (d := 8) rfl (fun h8 => ?_) (fun h8 => ?_)
 ·refine gyq rfl (yd rfl (AH (xs := [.int .u8 (x.v.kind.toNat : Int), AA x.v.int, .bool x.v.bool, str x.v.text]) rfl rfl (DK (M.blk 0 rfl) 1 4 rfl rfl) underlying100 rfl CT) (sxl_call (some 11) (wn_on rfl rfl rfl) rfl rfl (AE rfl rfl call59) (HC (⟨x.v.kind, x.v.int, x.v.bool, x.v.text⟩ : Vl) _ hx1 (L9 hT M.fr hTn)) ?_))
  rintro _ w4 ⟨rfl, hfw4⟩
  refine ⟨_, rfl, ?_⟩
  have M := M.step hfw4
  exact yd rfl (BO rfl rfl rfl) (yb rfl (k8 M ⟨rfl, (by rw [h8]; rfl), trivial⟩))
 ·iterate 4 refine yo rfl ?_
  exact yb rfl (k8 M ⟨rfl, (by rw [h8]; rfl), trivial⟩)
theorem nO (g3 g6 g5 : Nat) (seen : List (List UInt8)) (x : El) (w : World) (hx0 : ((x.id).length : Int) < 4611686018427387904) (hx1 : ((x.nm).length : Int) < 4611686018427387904) (hT : Laid w utfL) (hTn : ∀ k, (fun k => k = g3 ∨ k = g6) k → ¬ U5 k) (hF : Fresh w g3 g6 seen) (hn5 : ¬ (g5 = g3 ∨ g5 = g6)) (hb5 : Blk w g5 97 [.func (.func 158) #[] #[pg g3]]) :
 Calls prog 112 #[.agg x.cells.toArray, pg g5] w fun e w' => e = .returned (.bool (FK x.id seen && QU x.nm)) ∧ Fresh w' g3 g6 (x.id :: seen) ∧ Fr (fun k => k = g3 ∨ k = g6) w w' := by
 refine sx_enter (vs := [_, _]) func112 rfl ntmps112 rfl ?_
 have M : Mem w (fun k => k = g3 ∨ k = g6) [As.fresh g3 g6 seen] w := Mem.oneFresh hF
 refine srg (DD M rfl rfl fun g2 w1 hg2 M => AG rfl (srg (yl rfl rfl (Blk.c (hb5.fr M.fr hn5) 0 rfl) (yb rfl (B2 M 0 rfl rfl rfl (cl 7 rfl (BC rfl rfl rfl call158) (P4 g3 g6 seen x.id _ hx0 (M.ok 1 _ rfl)) ?_))))))
 rintro _ w2 ⟨rfl, hFw2, hfw2⟩
 have M := M.updFresh 1 rfl hFw2 hfw2
 refine ⟨_, rfl, yb rfl (fvm M 4 [3] [(12, .bool ((FK x.id seen) && (QU x.nm)))] ?_ (fun k8 => ?_))⟩
 ·intro w3 M
  exact yb rfl (gnr (gr1 rfl ⟨rfl, M.ok 1 _ rfl, M.fr⟩))
 refine AD (d := 8) rfl (fun h8 => ?_) (fun h8 => ?_)
 ·refine gyq rfl (C3 M 0 rfl rfl rfl (sxl_call (some 11) (wn_on rfl rfl rfl) rfl rfl (AE rfl rfl call105) (ZD _ _ hx1 (L9 hT M.fr hTn)) ?_))
  rintro _ w4 ⟨rfl, hfw4⟩
  refine ⟨_, rfl, ?_⟩
  have M := M.step hfw4
  exact yb rfl (k8 M ⟨rfl, (by rw [h8]; rfl), trivial⟩)
 ·exact yo rfl (yo rfl (yo rfl (yb rfl (k8 M ⟨rfl, (by rw [h8]; rfl), trivial⟩))))
theorem nN (g3 g6 g5 : Nat) (seen : List (List UInt8)) (x : Fl) (w : World) (hx0 : ((x.id).length : Int) < 4611686018427387904) (_hT : Laid w utfL) (_hTn : ∀ k, (fun k => k = g3 ∨ k = g6) k → ¬ U5 k) (hF : Fresh w g3 g6 seen) (hn5 : ¬ (g5 = g3 ∨ g5 = g6)) (hb5 : Blk w g5 97 [.func (.func 158) #[] #[pg g3]]) :
 Calls prog 115 #[.agg x.cells.toArray, pg g5] w fun e w' => e = .returned (.bool (FK x.id seen)) ∧ Fresh w' g3 g6 (x.id :: seen) ∧ Fr (fun k => k = g3 ∨ k = g6) w w' := by
 refine sx_enter (vs := [_, _]) func115 rfl ntmps115 rfl ?_
 have M : Mem w (fun k => k = g3 ∨ k = g6) [As.fresh g3 g6 seen] w := Mem.oneFresh hF
 refine srg (DD M rfl rfl fun g2 w1 hg2 M => AG rfl (srg (yl rfl rfl (Blk.c (hb5.fr M.fr hn5) 0 rfl) (yb rfl (B2 M 0 rfl rfl rfl (cl 7 rfl (BC rfl rfl rfl call158) (P4 g3 g6 seen x.id _ hx0 (M.ok 1 _ rfl)) ?_))))))
 rintro _ w2 ⟨rfl, hFw2, hfw2⟩
 have M := M.updFresh 1 rfl hFw2 hfw2
 exact ⟨_, rfl, yb rfl (gnr (gr1 rfl ⟨rfl, M.ok 1 _ rfl, M.fr⟩))⟩
end Go.Proofs.YtaheakjfkpkefaaGreatDoor
