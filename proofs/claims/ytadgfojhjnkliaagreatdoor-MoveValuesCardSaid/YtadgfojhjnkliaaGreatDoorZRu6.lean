/- Lemmas that the last text rests on. Condition: each says its own. -/
import Derived.Test.YtadgfojhjnkliaaGreatDoorZRu5
set_option maxHeartbeats 16000000
set_option maxRecDepth 100000
namespace Go.Proofs.YtadgfojhjnkliaaGreatDoor
open Go.RowKit
open Tryz
def G5 (k : List UInt8) (seen : List (List UInt8)) : Bool := BU k && !(decide (k ∈ seen))
def Fresh (w : World) (g3 g6 : Nat) (seen : List (List UInt8)) : Prop := Blk w g3 132 [.map (some g6)] ∧ ¬ g3 = g6 ∧ ∃ L, Mp w g6 L ∧ ∀ k, (CE L k).getD (.bool false) = .bool (decide (k ∈ seen))
theorem NX {L : List (List UInt8 × Value)} {seen : List (List UInt8)} {k : List UInt8} (hL : ∀ k, (CE L k).getD (.bool false) = .bool (decide (k ∈ seen))) : ∀ k', (CE (CV L k (.bool true)) k').getD (.bool false) = .bool (decide (k' ∈ k :: seen)) := fun k' => by
 rw [FM]
 by_cases h : k' = k
 ·rw [if_pos h]; simp [h]
 ·rw [if_neg h, hL]; simp [h]
theorem iT {w : World} {g : Nat} {L : List (List UInt8 × Value)} (h : Mp w g L) : g < w.heap.size := by
 obtain ⟨es, cl, h1, _⟩ := h
 exact (Array.getElem?_eq_some_iff.1 h1).1
theorem Mem.cellMp {w : World} {g3 g6 t : Nat} {cs : List Value} {L : List (List UInt8 × Value)} (hc : Blk w g3 t cs) (hm : Mp w g6 L) (hne : ¬ g3 = g6) : Mem w (fun k => k = g3 ∨ k = g6) [As.blk g3 t cs, As.mp g6 L] w where
 fr := Fr.refl
 ok i a hi := by
  match i with
  | 0 => simp only [List.getElem?_cons_zero, Option.some.injEq] at hi; subst hi; exact hc
  | 1 => simp only [List.getElem?_cons_succ, List.getElem?_cons_zero, Option.some.injEq] at hi; subst hi; exact hm
  | i + 2 => simp at hi
 lt i a hi g hg := by
  match i with
  | 0 =>
   simp only [List.getElem?_cons_zero, Option.some.injEq] at hi; subst hi
   simp only [As.blk, List.mem_singleton] at hg; subst hg; exact ⟨hc.lt, .inr (.inl rfl)⟩
  | 1 =>
   simp only [List.getElem?_cons_succ, List.getElem?_cons_zero, Option.some.injEq] at hi; subst hi
   simp only [As.mp, List.mem_singleton] at hg; subst hg; exact ⟨iT hm, .inr (.inr rfl)⟩
  | i + 2 => simp at hi
 apart i j a b hi hj hij g hg hg' := by
  match i, j with
  | 0, 0 => exact hij rfl
  | 1, 1 => exact hij rfl
  | 0, 1 =>
   simp only [List.getElem?_cons_succ, List.getElem?_cons_zero, Option.some.injEq] at hi hj; subst hi; subst hj
   simp only [As.blk, As.mp, List.mem_singleton] at hg hg'; exact hne (hg ▸ hg')
  | 1, 0 =>
   simp only [List.getElem?_cons_succ, List.getElem?_cons_zero, Option.some.injEq] at hi hj; subst hi; subst hj
   simp only [As.blk, As.mp, List.mem_singleton] at hg hg'; exact hne (hg' ▸ hg)
  | i + 2, _ => simp at hi
  | 0, j + 2 => simp at hj
  | 1, j + 2 => simp at hj
theorem Mem.neMp {w0 w : World} {S : Nat → Prop} {L : List As} (M : Mem w0 S L w) (i j : Nat) {a b t : Nat} {cs : List Value} {K : List (List UInt8 × Value)} (hi : L[i]? = some (As.blk a t cs)) (hj : L[j]? = some (As.mp b K)) (h : i ≠ j) : ¬ a = b := fun e =>
 M.apart i j _ _ hi hj h a (by simp [As.blk]) (by simp [As.mp, e])
theorem Fresh.keep {w w' : World} {g3 g6 : Nat} {seen : List (List UInt8)} (hk : ∀ g ∈ [g3, g6], g < w.heap.size → w'.heap[g]? = w.heap[g]?) (h : Fresh w g3 g6 seen) : Fresh w' g3 g6 seen := by
 obtain ⟨hc, hne, L, ⟨es, cl, h1, h2⟩, hL⟩ := h
 exact ⟨(hk g3 (by simp) hc.lt).trans hc, hne, L, ⟨es, cl, (hk g6 (by simp) (Array.getElem?_eq_some_iff.1 h1).1).trans h1, h2⟩, hL⟩
def As.fresh (g3 g6 : Nat) (seen : List (List UInt8)) : As := ⟨[g3, g6], fun w => Fresh w g3 g6 seen, fun h hb => hb.keep h⟩
theorem Mem.oneFresh {w : World} {g3 g6 : Nat} {seen : List (List UInt8)} (h : Fresh w g3 g6 seen) : Mem w (fun k => k = g3 ∨ k = g6) [As.fresh g3 g6 seen] w where
 fr := Fr.refl
 ok i a hi := by
  cases i with
  | zero => simp only [List.getElem?_cons_zero, Option.some.injEq] at hi; subst hi; exact h
  | succ i => simp at hi
 lt i a hi g hg := by
  cases i with
  | zero =>
   simp only [List.getElem?_cons_zero, Option.some.injEq] at hi; subst hi
   obtain ⟨hc, _, L, hm, _⟩ := h
   simp only [As.fresh, List.mem_cons, List.not_mem_nil, or_false] at hg
   rcases hg with rfl | rfl
   ·exact ⟨hc.lt, .inr (.inl rfl)⟩
   ·exact ⟨iT hm, .inr (.inr rfl)⟩
  | succ i => simp at hi
 apart i j a b hi hj hij := by
  cases i with
  | zero => cases j with
   | zero => exact absurd rfl hij
   | succ j => simp at hj
  | succ i => simp at hi
theorem Mem.updFresh {w0 w w' : World} {S : Nat → Prop} {L : List As} (M : Mem w0 S L w) (i : Nat) {g3 g6 : Nat} {seen seen' : List (List UInt8)} (hi : L[i]? = some (As.fresh g3 g6 seen)) (hF : Fresh w' g3 g6 seen') (hf : Fr (fun k => k = g3 ∨ k = g6) w w') : Mem w0 S (L.set i (As.fresh g3 g6 seen')) w' :=
 M.upd i hi (hf.mono fun k _ e => by simpa [As.fresh] using e) (As.fresh g3 g6 seen') hF (fun g' hg' => .inl hg')
def TT (k : Nat) : Prop := ∃ p ∈ utfL, p.1 = k
theorem KC {S : Nat → Prop} {w w' : World} (h : Laid w utfL) (hf : Fr S w w') (hS : ∀ k, S k → ¬ TT k) : Laid w' utfL := fun p hp => by
 obtain ⟨el, fz, h1⟩ := h p hp
 exact ⟨el, fz, (hf.block _ (Array.getElem?_eq_some_iff.1 h1).1 (fun hh => hS _ hh ⟨p, hp, rfl⟩)).trans h1⟩
theorem I4 : (prog.info? 132).map (·.size) = some 1 := by kernel_rfl
theorem TR : (prog.info? 4).map (·.zero) = some (some (.bool false)) := by kernel_rfl
theorem I1 : (prog.info? 132).map (·.zero) = some (some (.map none)) := by kernel_rfl
theorem NZ (g3 g6 : Nat) (seen : List (List UInt8)) (k : List UInt8) (w : World) (hk : (k.length : Int) < 4611686018427387904) (hF : Fresh w g3 g6 seen) :
 Calls prog 126 #[str k, pg g3] w fun e w' => e = .returned (.bool (G5 k seen)) ∧ Fresh w' g3 g6 (k :: seen) ∧ Fr (fun k => k = g3 ∨ k = g6) w w' := by
 obtain ⟨hc, hne, L, hm, hL⟩ := hF
 refine AK (vs := [_, _]) func126 rfl ntmps126 rfl ?_
 have M : Mem w (fun k => k = g3 ∨ k = g6) [As.blk g3 132 [.map (some g6)], As.mp g6 L] w := Mem.cellMp hc hm hne
 refine A4 (A0 (yb rfl (A1 (A2 (A4 (A0 (yb rfl (cp M 6 rfl (AF rfl rfl call68) (DV _ _ (by first | assumption | omega)) fun w1 M => yb rfl (AT 5 [(0, str k), (1, pg g3), (12, .bool ((BU k) && (!(decide (k ∈ seen)))))] (fun w' => Mem w (fun k => k = g3 ∨ k = g6) [As.blk g3 132 [.map (some g6)], As.mp g6 L] w') ?_ (fun k7 => ?_))))))))))
 ·intro w2 M
  refine yb rfl (A1 (A2 (A4 (A0 (yl rfl rfl (M.cell 0 rfl rfl) (yb rfl (ES M 1 (A9 rfl) rfl rfl rfl rfl rfl underlying132 underlying9 rfl fun w3 M => A1 (A2 (A4 (A0 (yb rfl (yb rfl (A1 ?_)))))))))))))
  exact A2 (AD (AH rfl rfl ⟨rfl, ⟨M.blk 0 rfl, hne, _, M.mp 1 rfl, NX hL⟩, M.fr⟩))
 refine AE (d := 7) (b := (BU k)) rfl (fun h7 => ?_) (fun h7 => ?_)
 ·exact ym rfl rfl (M.cell 0 rfl rfl) (yd rfl (yp rfl) (yd rfl (C2 rfl rfl rfl underlying132 underlying9 TR (M.mp 1 rfl) (hL _)) (yd rfl (yp rfl) (yb rfl (k7 _ _ M ⟨rfl, rfl, (by rw [h7]; rfl), trivial⟩)))))
 ·iterate 4 refine yo rfl ?_
  exact yb rfl (k7 _ _ M ⟨rfl, rfl, (by rw [h7]; rfl), trivial⟩)
theorem SM (A : Option Addr) (c : Nat) (tk : List (List UInt8)) (w : World) (hl : tk.length ≤ 4611686018427387904) (hR : Rd w A (tk.length * 1) (AR C4 tk)) :
 Calls prog 70 #[.slice A tk.length c] w fun e w' => ∃ g3 g6, e = .returned (.func (.func 126) #[] #[pg g3]) ∧ Fresh w' g3 g6 tk.reverse ∧ (∀ k ∈ [g3, g6], w.heap.size ≤ k ∧ k < w'.heap.size) ∧ Fr0 w w' := by
 refine AK (vs := [_]) func70 rfl ntmps70 rfl ?_
 have M := CK w
 refine A4 (A0 (yb rfl (A1 (A2 (A4 (A0 (HN M (A9 rfl) rfl rfl rfl fun g6 w1 hg6 M => BI M (A9 rfl) rfl rfl 132 rfl [.map none] I1 rfl fun g3 w2 hg3 M => BQ (cs' := [.map (some g6)]) M 0 (A9 rfl) rfl rfl rfl rfl rfl rfl rfl I4 (AZ rfl) rfl fun w3 M => A1 (A2 (A4 ?_)))))))))
 refine A4 (A0 (yb rfl (ya rfl (CY rfl rfl (sl rfl)) (yb rfl (A1 (A2 (AV (CM (fun e wr mz => ∃ (i : Nat) (L : List (List UInt8 × Value)), e = [(3, pg g3), (7, .slice A tk.length c), (8, .int .i64 ((tk.length : Nat) : Int)), (9, .int .i64 ((i : Nat) : Int))] ∧ Mem w AB [As.blk g3 132 [.map (some g6)], As.mp g6 L] wr ∧ (i ≤ tk.length) ∧ (∀ k, (CE L k).getD (.bool false) = .bool (decide (k ∈ (tk.take i).reverse))) ∧ mz = tk.length - i) ⟨0, [], rfl, M, Nat.zero_le _, fun _ => rfl, rfl⟩ ⟨rfl, rfl, rfl, rfl, trivial⟩ ?_))))))))
 rintro _ w4 _ ⟨i, L, rfl, M, hi, hL, rfl⟩
 refine A4 (A0 (ya rfl (CH rfl rfl rfl) (A1 (A2 (A4 (AQ (b := (decide (((i : Nat) : Int) < ((tk.length : Nat) : Int)))) rfl (fun h10 => ?_) (fun h10 => ?_)))))))
 ·have h10p := (odt h10)
  refine AL (A2 (A4 (AV (A4 (A0 ?_)))))
  obtain ⟨x, hx⟩ := DY (l := tk) (i := i) (by omega)
  obtain ⟨b_x, o_x, hA_x⟩ := CL (k := 1) (by omega) (hR.fr0 M.fr) hx
  refine ya rfl (BW i hA_x rfl rfl rfl (sl rfl) (by omega)) (yl rfl rfl (G1 FW (hR.fr0 M.fr) hA_x hx 0 rfl) (yb rfl (A1 (A2 (A0 (yl rfl rfl (M.cell 0 rfl rfl) (yb rfl (ES M 1 (A9 rfl) rfl rfl rfl rfl rfl underlying132 underlying9 rfl fun w5 M => A1 (AC (A2 (A0 (ya rfl (CQ rfl rfl rfl (by omega)) (yb rfl ?_)))))))))))))
  refine A1 (BM [(3, pg g3), (7, .slice A tk.length c), (8, .int .i64 ((tk.length : Nat) : Int)), (9, .int .i64 (((i + 1) : Nat) : Int))] (tk.length - (i + 1)) ⟨i + 1, CV L x (.bool true), rfl, M, ?_, ?_, rfl⟩ (by first | omega | (simp <;> omega)) ⟨rfl, rfl, rfl, rfl, trivial⟩)
  ·omega
  ·rw [BH hx, List.reverse_append]
   exact NX hL
 ·have h10p := (odf h10)
  refine CD (AI (AI ?_))
  have hiE : i = tk.length := by omega
  rw [hiE, List.take_length] at hL
  refine BB (A2 (A4 (A0 (ya rfl (CT (us := []) (vs := [pg g3]) rfl rfl rfl) (yb rfl (A1 (A2 (AD (AH rfl rfl ?_)))))))))
  exact ⟨_, _, rfl, ⟨M.blk 0 rfl, M.neMp 0 1 rfl rfl (by decide), _, M.mp 1 rfl, hL⟩, (fun k hk => by
   rcases List.mem_cons.1 hk with rfl | hk
   ·exact M.new0 0 rfl k (by simp [As.blk])
   ·obtain rfl : k = _ := by simpa using hk
    exact M.new0 1 rfl _ (by simp [As.mp])), M.fr⟩
theorem nG (g3 g6 g5 : Nat) (seen : List (List UInt8)) (x : Bd) (w : World) (hx0 : ((x.name).length : Int) < 4611686018427387904) (hx1 : ((x.v.text).length : Int) < 4611686018427387904) (hT : Laid w utfL) (hTn : ∀ k, (fun k => k = g3 ∨ k = g6) k → ¬ TT k) (hF : Fresh w g3 g6 seen) (hn5 : ¬ (g5 = g3 ∨ g5 = g6)) (hb5 : Blk w g5 135 [.func (.func 126) #[] #[pg g3]]) :
 Calls prog 73 #[.agg x.cells.toArray, pg g5] w fun e w' => e = .returned (.bool (G5 x.name seen && decide (chk x.v = (0 : Int)))) ∧ Fresh w' g3 g6 (x.name :: seen) ∧ Fr (fun k => k = g3 ∨ k = g6) w w' := by
 refine AK (vs := [_, _]) func73 rfl ntmps73 rfl ?_
 have M : Mem w (fun k => k = g3 ∨ k = g6) [As.fresh g3 g6 seen] w := Mem.oneFresh hF
 refine A4 (A0 (BD M (A9 rfl) rfl rfl 95 rfl rfl (Bd.cells x) rfl fun g2 w1 hg2 M => yb rfl (A1 (A2 (A4 (A0 (yl rfl rfl (Blk.c (hb5.fr M.fr hn5) 0 rfl) (yb rfl (yl rfl rfl (M.cell 0 rfl rfl) (cl 7 rfl (C0 rfl rfl rfl call126) (NZ g3 g6 seen x.name _ hx0 (M.ok 1 _ rfl)) ?_))))))))))
 rintro _ w2 ⟨rfl, hFw2, hfw2⟩
 have M := M.updFresh 1 rfl hFw2 hfw2
 refine ⟨_, rfl, yb rfl (AT 5 [(3, .bool false), (13, .bool ((G5 x.name seen) && (decide ((chk (⟨x.v.kind, x.v.int, x.v.bool, x.v.text⟩ : Vl)) = (0 : Int)))))] (fun w' => Mem w (fun k => k = g3 ∨ k = g6) [As.blk g2 95 (Bd.cells x), As.fresh g3 g6 (x.name :: seen)] w') ?_ (fun k8 => ?_))⟩
 ·intro w3 M
  exact yb rfl (A1 (A2 (AD (AH rfl rfl ⟨rfl, M.ok 1 _ rfl, M.fr⟩))))
 refine AE (d := 8) (b := (G5 x.name seen)) rfl (fun h8 => ?_) (fun h8 => ?_)
 ·refine yd rfl (yp rfl) (yd rfl (AN (xs := [.int .u8 (x.v.kind.toNat : Int), .int .i64 x.v.int, .bool x.v.bool, str x.v.text]) rfl rfl (FD (M.blk 0 rfl) 1 4 rfl rfl) underlying67 rfl D2) (CC (some 11) (B7 rfl rfl rfl) rfl rfl (AF rfl rfl call60) (J1 (⟨x.v.kind, x.v.int, x.v.bool, x.v.text⟩ : Vl) _ hx1 (KC hT M.fr hTn)) ?_))
  rintro _ w4 ⟨rfl, hfw4⟩
  refine ⟨_, rfl, ?_⟩
  have M := M.step hfw4
  exact yd rfl (B9 rfl rfl rfl) (yb rfl (k8 _ _ M ⟨rfl, (by rw [h8]; rfl), trivial⟩))
 ·iterate 4 refine yo rfl ?_
  exact yb rfl (k8 _ _ M ⟨rfl, (by rw [h8]; rfl), trivial⟩)
theorem nF (g3 g6 g5 : Nat) (seen : List (List UInt8)) (x : El) (w : World) (hx0 : ((x.id).length : Int) < 4611686018427387904) (hx1 : ((x.nm).length : Int) < 4611686018427387904) (hT : Laid w utfL) (hTn : ∀ k, (fun k => k = g3 ∨ k = g6) k → ¬ TT k) (hF : Fresh w g3 g6 seen) (hn5 : ¬ (g5 = g3 ∨ g5 = g6)) (hb5 : Blk w g5 135 [.func (.func 126) #[] #[pg g3]]) :
 Calls prog 76 #[.agg x.cells.toArray, pg g5] w fun e w' => e = .returned (.bool (G5 x.id seen && LJ x.nm)) ∧ Fresh w' g3 g6 (x.id :: seen) ∧ Fr (fun k => k = g3 ∨ k = g6) w w' := by
 refine AK (vs := [_, _]) func76 rfl ntmps76 rfl ?_
 have M : Mem w (fun k => k = g3 ∨ k = g6) [As.fresh g3 g6 seen] w := Mem.oneFresh hF
 refine A4 (A0 (BD M (A9 rfl) rfl rfl 62 rfl rfl (El.cells x) rfl fun g2 w1 hg2 M => yb rfl (A1 (A2 (A4 (A0 (yl rfl rfl (Blk.c (hb5.fr M.fr hn5) 0 rfl) (yb rfl (yl rfl rfl (M.cell 0 rfl rfl) (cl 7 rfl (C0 rfl rfl rfl call126) (NZ g3 g6 seen x.id _ hx0 (M.ok 1 _ rfl)) ?_))))))))))
 rintro _ w2 ⟨rfl, hFw2, hfw2⟩
 have M := M.updFresh 1 rfl hFw2 hfw2
 refine ⟨_, rfl, yb rfl (AT 4 [(3, .bool false), (12, .bool ((G5 x.id seen) && (LJ x.nm)))] (fun w' => Mem w (fun k => k = g3 ∨ k = g6) [As.blk g2 62 (El.cells x), As.fresh g3 g6 (x.id :: seen)] w') ?_ (fun k8 => ?_))⟩
 ·intro w3 M
  exact yb rfl (A1 (A2 (AD (AH rfl rfl ⟨rfl, M.ok 1 _ rfl, M.fr⟩))))
 refine AE (d := 8) (b := (G5 x.id seen)) rfl (fun h8 => ?_) (fun h8 => ?_)
 ·refine yd rfl (yp rfl) (ym rfl rfl (M.cell 0 rfl rfl) (CC (some 11) (B7 rfl rfl rfl) rfl rfl (AF rfl rfl call69) (ZL _ _ hx1 (KC hT M.fr hTn)) ?_))
  rintro _ w4 ⟨rfl, hfw4⟩
  refine ⟨_, rfl, ?_⟩
  have M := M.step hfw4
  exact yb rfl (k8 _ _ M ⟨rfl, (by rw [h8]; rfl), trivial⟩)
 ·exact yo rfl (yo rfl (yo rfl (yb rfl (k8 _ _ M ⟨rfl, (by rw [h8]; rfl), trivial⟩))))
theorem nE (g3 g6 g5 : Nat) (seen : List (List UInt8)) (x : Fl) (w : World) (hx0 : ((x.id).length : Int) < 4611686018427387904) (_hT : Laid w utfL) (_hTn : ∀ k, (fun k => k = g3 ∨ k = g6) k → ¬ TT k) (hF : Fresh w g3 g6 seen) (hn5 : ¬ (g5 = g3 ∨ g5 = g6)) (hb5 : Blk w g5 135 [.func (.func 126) #[] #[pg g3]]) :
 Calls prog 79 #[.agg x.cells.toArray, pg g5] w fun e w' => e = .returned (.bool (G5 x.id seen)) ∧ Fresh w' g3 g6 (x.id :: seen) ∧ Fr (fun k => k = g3 ∨ k = g6) w w' := by
 refine AK (vs := [_, _]) func79 rfl ntmps79 rfl ?_
 have M : Mem w (fun k => k = g3 ∨ k = g6) [As.fresh g3 g6 seen] w := Mem.oneFresh hF
 refine A4 (A0 (BD M (A9 rfl) rfl rfl 65 rfl rfl (Fl.cells x) rfl fun g2 w1 hg2 M => yb rfl (A1 (A2 (A4 (A0 (yl rfl rfl (Blk.c (hb5.fr M.fr hn5) 0 rfl) (yb rfl (yl rfl rfl (M.cell 0 rfl rfl) (cl 7 rfl (C0 rfl rfl rfl call126) (NZ g3 g6 seen x.id _ hx0 (M.ok 1 _ rfl)) ?_))))))))))
 rintro _ w2 ⟨rfl, hFw2, hfw2⟩
 have M := M.updFresh 1 rfl hFw2 hfw2
 exact ⟨_, rfl, yb rfl (A1 (A2 (AD (AH rfl rfl ⟨rfl, M.ok 1 _ rfl, M.fr⟩))))⟩
end Go.Proofs.YtadgfojhjnkliaaGreatDoor
