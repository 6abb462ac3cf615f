/- Lemmas that the last text rests on. Condition: each says its own. -/
import Derived.Test.YtdaihdknnlphkaaGreatDoorZRu5
set_option maxHeartbeats 16000000
set_option maxRecDepth 100000
namespace Go.Proofs.YtdaihdknnlphkaaGreatDoor
open Go.RowKit
open Tryz
def EJ (k : List UInt8) (seen : List (List UInt8)) : Bool := BL k && !(decide (k ∈ seen))
def Fresh (w : World) (g3 g6 : Nat) (seen : List (List UInt8)) : Prop := Blk w g3 113 [.map (some g6)] ∧ ¬ g3 = g6 ∧ ∃ L, Mp w g6 L ∧ ∀ k, (D5 L k).getD (.bool false) = .bool (decide (k ∈ seen))
theorem P7 {L : List (List UInt8 × Value)} {seen : List (List UInt8)} {k : List UInt8} (hL : ∀ k, (D5 L k).getD (.bool false) = .bool (decide (k ∈ seen))) : ∀ k', (D5 (EW L k (.bool true)) k').getD (.bool false) = .bool (decide (k' ∈ k :: seen)) := fun k' => by
 rw [IB]
 by_cases h : k' = k
 ·rw [if_pos h]; simp [h]
 ·rw [if_neg h, hL]; simp [h]
theorem mR {w : World} {g : Nat} {L : List (List UInt8 × Value)} (h : Mp w g L) : g < w.heap.size := by
 obtain ⟨es, cl, h1, _⟩ := h
 exact (Array.getElem?_eq_some_iff.1 h1).1
theorem Mem.cellMp {w : World} {g3 g6 t : Nat} {cs : List Value} {L : List (List UInt8 × Value)} (hc : Blk w g3 t cs) (hm : Mp w g6 L) (hne : ¬ g3 = g6) : Mem w (fun k => k = g3 ∨ k = g6) [As.blk g3 t cs, As.mp g6 L] w where
 fr := Fr.refl
 ok i a hi := by
  match i with
  | 0 => simp only [List.getElem?_cons_zero, Option.some.injEq] at hi; subst hi; exact hc
  | 1 => simp only [List.getElem?_cons_succ, List.getElem?_cons_zero, Option.some.injEq] at hi; subst hi; exact hm
  | i + 2 => simp at hi
 lt i a hi g hg := by
  match i with
  | 0 =>
   simp only [List.getElem?_cons_zero, Option.some.injEq] at hi; subst hi
   simp only [As.blk, List.mem_singleton] at hg; subst hg; exact ⟨hc.lt, .inr (.inl rfl)⟩
  | 1 =>
   simp only [List.getElem?_cons_succ, List.getElem?_cons_zero, Option.some.injEq] at hi; subst hi
   simp only [As.mp, List.mem_singleton] at hg; subst hg; exact ⟨mR hm, .inr (.inr rfl)⟩
  | i + 2 => simp at hi
 apart i j a b hi hj hij g hg hg' := by
  match i, j with
  | 0, 0 => exact hij rfl
  | 1, 1 => exact hij rfl
  | 0, 1 =>
   simp only [List.getElem?_cons_succ, List.getElem?_cons_zero, Option.some.injEq] at hi hj; subst hi; subst hj
   simp only [As.blk, As.mp, List.mem_singleton] at hg hg'; exact hne (hg ▸ hg')
  | 1, 0 =>
   simp only [List.getElem?_cons_succ, List.getElem?_cons_zero, Option.some.injEq] at hi hj; subst hi; subst hj
   simp only [As.blk, As.mp, List.mem_singleton] at hg hg'; exact hne (hg' ▸ hg)
  | i + 2, _ => simp at hi
  | 0, j + 2 => simp at hj
  | 1, j + 2 => simp at hj
theorem Mem.neMp {w0 w : World} {S : Nat → Prop} {L : List As} (M : Mem w0 S L w) (i j : Nat) {a b t : Nat} {cs : List Value} {K : List (List UInt8 × Value)} (hi : L[i]? = some (As.blk a t cs)) (hj : L[j]? = some (As.mp b K)) (h : i ≠ j) : ¬ a = b := fun e =>
 M.apart i j _ _ hi hj h a (by simp [As.blk]) (by simp [As.mp, e])
theorem Fresh.keep {w w' : World} {g3 g6 : Nat} {seen : List (List UInt8)} (hk : ∀ g ∈ [g3, g6], g < w.heap.size → w'.heap[g]? = w.heap[g]?) (h : Fresh w g3 g6 seen) : Fresh w' g3 g6 seen := by
 obtain ⟨hc, hne, L, ⟨es, cl, h1, h2⟩, hL⟩ := h
 exact ⟨(hk g3 (by simp) hc.lt).trans hc, hne, L, ⟨es, cl, (hk g6 (by simp) (Array.getElem?_eq_some_iff.1 h1).1).trans h1, h2⟩, hL⟩
def As.fresh (g3 g6 : Nat) (seen : List (List UInt8)) : As := ⟨[g3, g6], fun w => Fresh w g3 g6 seen, fun h hb => hb.keep h⟩
theorem Mem.oneFresh {w : World} {g3 g6 : Nat} {seen : List (List UInt8)} (h : Fresh w g3 g6 seen) : Mem w (fun k => k = g3 ∨ k = g6) [As.fresh g3 g6 seen] w where
 fr := Fr.refl
 ok i a hi := by
  cases i with
  | zero => simp only [List.getElem?_cons_zero, Option.some.injEq] at hi; subst hi; exact h
  | succ i => simp at hi
 lt i a hi g hg := by
  cases i with
  | zero =>
   simp only [List.getElem?_cons_zero, Option.some.injEq] at hi; subst hi
   obtain ⟨hc, _, L, hm, _⟩ := h
   simp only [As.fresh, List.mem_cons, List.not_mem_nil, or_false] at hg
   rcases hg with rfl | rfl
   ·exact ⟨hc.lt, .inr (.inl rfl)⟩
   ·exact ⟨mR hm, .inr (.inr rfl)⟩
  | succ i => simp at hi
 apart i j a b hi hj hij := by
  cases i with
  | zero => cases j with
   | zero => exact absurd rfl hij
   | succ j => simp at hj
  | succ i => simp at hi
theorem Mem.updFresh {w0 w w' : World} {S : Nat → Prop} {L : List As} (M : Mem w0 S L w) (i : Nat) {g3 g6 : Nat} {seen seen' : List (List UInt8)} (hi : L[i]? = some (As.fresh g3 g6 seen)) (hF : Fresh w' g3 g6 seen') (hf : Fr (fun k => k = g3 ∨ k = g6) w w') : Mem w0 S (L.set i (As.fresh g3 g6 seen')) w' :=
 M.upd i hi (hf.mono fun k _ e => by simpa [As.fresh] using e) (As.fresh g3 g6 seen') hF (fun g' hg' => .inl hg')
def VP (k : Nat) : Prop := ∃ p ∈ utfL, p.1 = k
theorem LK {S : Nat → Prop} {w w' : World} (h : Laid w utfL) (hf : Fr S w w') (hS : ∀ k, S k → ¬ VP k) : Laid w' utfL := fun p hp => by
 obtain ⟨el, fz, h1⟩ := h p hp
 exact ⟨el, fz, (hf.block _ (Array.getElem?_eq_some_iff.1 h1).1 (fun hh => hS _ hh ⟨p, hp, rfl⟩)).trans h1⟩
theorem IF : (prog.info? 113).map (·.size) = some 1 := by kernel_rfl
theorem VN : (prog.info? 4).map (·.zero) = some (some (.bool false)) := by kernel_rfl
theorem IE : (prog.info? 113).map (·.zero) = some (some (.map none)) := by kernel_rfl
theorem P9 (g3 g6 : Nat) (seen : List (List UInt8)) (k : List UInt8) (w : World) (hk : (k.length : Int) < 4611686018427387904) (hF : Fresh w g3 g6 seen) :
 Calls prog 103 #[str k, pg g3] w fun e w' => e = .returned (.bool (EJ k seen)) ∧ Fresh w' g3 g6 (k :: seen) ∧ Fr (fun k => k = g3 ∨ k = g6) w w' := by
 obtain ⟨hc, hne, L, hm, hL⟩ := hF
 refine AJ (vs := [_, _]) func103 rfl ntmps103 rfl ?_
 have M : Mem w (fun k => k = g3 ∨ k = g6) [As.blk g3 113 [.map (some g6)], As.mp g6 L] w := Mem.cellMp hc hm hne
 refine A9 (A0 (yb rfl (A4 (A5 (A9 (A0 (yb rfl (cp M 6 rfl (AE rfl rfl call56) (DQ _ _ (by first | assumption | omega)) fun w1 M => yb rfl (AX 5 [(0, str k), (1, pg g3), (12, .bool ((BL k) && (!(decide (k ∈ seen)))))] (fun w' => Mem w (fun k => k = g3 ∨ k = g6) [As.blk g3 113 [.map (some g6)], As.mp g6 L] w') ?_ (fun k7 => ?_))))))))))
 ·intro w2 M
  refine yb rfl (A4 (A5 (A9 (A0 (yl rfl rfl (M.cell 0 rfl rfl) (yb rfl (FR M 1 (AA rfl) rfl rfl rfl rfl rfl underlying113 underlying9 rfl fun w3 M => A4 (A5 (A9 (A0 (yb rfl (yb rfl (A4 ?_)))))))))))))
  exact A5 (AF (AK rfl rfl ⟨rfl, ⟨M.blk 0 rfl, hne, _, M.mp 1 rfl, P7 hL⟩, M.fr⟩))
 refine AM (d := 7) (b := (BL k)) rfl (fun h7 => ?_) (fun h7 => ?_)
 ·exact ym rfl rfl (M.cell 0 rfl rfl) (yd rfl (yp rfl) (yd rfl (CK rfl rfl rfl underlying113 underlying9 VN (M.mp 1 rfl) (hL _)) (yd rfl (yp rfl) (yb rfl (k7 _ _ M ⟨rfl, rfl, (by rw [h7]; rfl), trivial⟩)))))
 ·iterate 4 refine yo rfl ?_
  exact yb rfl (k7 _ _ M ⟨rfl, rfl, (by rw [h7]; rfl), trivial⟩)
theorem UG (A : Option Addr) (c : Nat) (tk : List (List UInt8)) (w : World) (hl : tk.length ≤ 4611686018427387904) (hR : Rd w A (tk.length * 1) (AS D7 tk)) :
 Calls prog 58 #[.slice A tk.length c] w fun e w' => ∃ g3 g6, e = .returned (.func (.func 103) #[] #[pg g3]) ∧ Fresh w' g3 g6 tk.reverse ∧ (∀ k ∈ [g3, g6], w.heap.size ≤ k ∧ k < w'.heap.size) ∧ Fr0 w w' := by
 refine AJ (vs := [_]) func58 rfl ntmps58 rfl ?_
 have M := CN w
 refine A9 (A0 (yb rfl (A4 (A5 (A9 (A0 (J3 M (AA rfl) rfl rfl rfl fun g6 w1 hg6 M => BI M (AA rfl) rfl rfl 113 rfl [.map none] IE rfl fun g3 w2 hg3 M => BP (cs' := [.map (some g6)]) M 0 (AA rfl) rfl rfl rfl rfl rfl rfl rfl IF (AZ rfl) rfl fun w3 M => A4 (A5 (A9 ?_)))))))))
 refine A9 (A0 (yb rfl (ya rfl (CS rfl rfl (sl rfl)) (yb rfl (A4 (A5 (AV (CL (fun e wr mz => ∃ (i : Nat) (L : List (List UInt8 × Value)), e = [(3, pg g3), (7, .slice A tk.length c), (8, .int .i64 ((tk.length : Nat) : Int)), (9, .int .i64 ((i : Nat) : Int))] ∧ Mem w AD [As.blk g3 113 [.map (some g6)], As.mp g6 L] wr ∧ (i ≤ tk.length) ∧ (∀ k, (D5 L k).getD (.bool false) = .bool (decide (k ∈ (tk.take i).reverse))) ∧ mz = tk.length - i) ⟨0, [], rfl, M, Nat.zero_le _, fun _ => rfl, rfl⟩ ⟨rfl, rfl, rfl, rfl, trivial⟩ ?_))))))))
 rintro _ w4 _ ⟨i, L, rfl, M, hi, hL, rfl⟩
 refine A9 (A0 (ya rfl (CB rfl rfl rfl) (A4 (A5 (A9 (AT (b := (decide (((i : Nat) : Int) < ((tk.length : Nat) : Int)))) rfl (fun h10 => ?_) (fun h10 => ?_)))))))
 ·have h10p := (odt h10)
  refine AN (A5 (A9 (AV (A9 (A0 ?_)))))
  obtain ⟨x, hx⟩ := DA (l := tk) (i := i) (by omega)
  obtain ⟨b_x, o_x, hA_x⟩ := C7 (k := 1) (by omega) (hR.fr0 M.fr) hx
  refine ya rfl (BM i hA_x rfl rfl rfl (sl rfl) (by omega)) (yl rfl rfl (EB GD (hR.fr0 M.fr) hA_x hx 0 rfl) (yb rfl (A4 (A5 (A0 (yl rfl rfl (M.cell 0 rfl rfl) (yb rfl (FR M 1 (AA rfl) rfl rfl rfl rfl rfl underlying113 underlying9 rfl fun w5 M => A4 (AC (A5 (A0 (ya rfl (CI rfl rfl rfl (by omega)) (yb rfl ?_)))))))))))))
  refine A4 (BF [(3, pg g3), (7, .slice A tk.length c), (8, .int .i64 ((tk.length : Nat) : Int)), (9, .int .i64 (((i + 1) : Nat) : Int))] (tk.length - (i + 1)) ⟨i + 1, EW L x (.bool true), rfl, M, ?_, ?_, rfl⟩ (by first | omega | (simp <;> omega)) ⟨rfl, rfl, rfl, rfl, trivial⟩)
  ·omega
  ·rw [B3 hx, List.reverse_append]
   exact P7 hL
 ·have h10p := (odf h10)
  refine C2 (AG (AG ?_))
  have hiE : i = tk.length := by omega
  rw [hiE, List.take_length] at hL
  refine B5 (A5 (A9 (A0 (ya rfl (CC (us := []) (vs := [pg g3]) rfl rfl rfl) (yb rfl (A4 (A5 (AF (AK rfl rfl ?_)))))))))
  exact ⟨_, _, rfl, ⟨M.blk 0 rfl, M.neMp 0 1 rfl rfl (by decide), _, M.mp 1 rfl, hL⟩, (fun k hk => by
   rcases List.mem_cons.1 hk with rfl | hk
   ·exact M.new0 0 rfl k (by simp [As.blk])
   ·obtain rfl : k = _ := by simpa using hk
    exact M.new0 1 rfl _ (by simp [As.mp])), M.fr⟩
theorem rQ (g3 g6 g5 : Nat) (seen : List (List UInt8)) (x : Bd) (w : World) (hx0 : ((x.name).length : Int) < 4611686018427387904) (hx1 : ((x.v.text).length : Int) < 4611686018427387904) (hT : Laid w utfL) (hTn : ∀ k, (fun k => k = g3 ∨ k = g6) k → ¬ VP k) (hF : Fresh w g3 g6 seen) (hn5 : ¬ (g5 = g3 ∨ g5 = g6)) (hb5 : Blk w g5 91 [.func (.func 103) #[] #[pg g3]]) :
 Calls prog 61 #[.agg x.cells.toArray, pg g5] w fun e w' => e = .returned (.bool (EJ x.name seen && decide (chk x.v = (0 : Int)))) ∧ Fresh w' g3 g6 (x.name :: seen) ∧ Fr (fun k => k = g3 ∨ k = g6) w w' := by
 refine AJ (vs := [_, _]) func61 rfl ntmps61 rfl ?_
 have M : Mem w (fun k => k = g3 ∨ k = g6) [As.fresh g3 g6 seen] w := Mem.oneFresh hF
 refine A9 (A0 (B4 M (AA rfl) rfl rfl 97 rfl rfl (Bd.cells x) rfl fun g2 w1 hg2 M => yb rfl (A4 (A5 (A9 (A0 (yl rfl rfl (Blk.c (hb5.fr M.fr hn5) 0 rfl) (yb rfl (yl rfl rfl (M.cell 0 rfl rfl) (cl 7 rfl (BK rfl rfl rfl call103) (P9 g3 g6 seen x.name _ hx0 (M.ok 1 _ rfl)) ?_))))))))))
 rintro _ w2 ⟨rfl, hFw2, hfw2⟩
 have M := M.updFresh 1 rfl hFw2 hfw2
 refine ⟨_, rfl, yb rfl (AX 5 [(3, .bool false), (13, .bool ((EJ x.name seen) && (decide ((chk (⟨x.v.kind, x.v.int, x.v.bool, x.v.text⟩ : Vl)) = (0 : Int)))))] (fun w' => Mem w (fun k => k = g3 ∨ k = g6) [As.blk g2 97 (Bd.cells x), As.fresh g3 g6 (x.name :: seen)] w') ?_ (fun k8 => ?_))⟩
 ·intro w3 M
  exact yb rfl (A4 (A5 (AF (AK rfl rfl ⟨rfl, M.ok 1 _ rfl, M.fr⟩))))
 refine AM (d := 8) (b := (EJ x.name seen)) rfl (fun h8 => ?_) (fun h8 => ?_)
 ·refine yd rfl (yp rfl) (yd rfl (AU (xs := [.int .u8 (x.v.kind.toNat : Int), .int .i64 x.v.int, .bool x.v.bool, str x.v.text]) rfl rfl (II (M.blk 0 rfl) 1 4 rfl rfl) underlying95 rfl FA) (CF (some 11) (AW rfl rfl rfl) rfl rfl (AE rfl rfl call62) (JM (⟨x.v.kind, x.v.int, x.v.bool, x.v.text⟩ : Vl) _ hx1 (LK hT M.fr hTn)) ?_))
  rintro _ w4 ⟨rfl, hfw4⟩
  refine ⟨_, rfl, ?_⟩
  have M := M.step hfw4
  exact yd rfl (BB rfl rfl rfl) (yb rfl (k8 _ _ M ⟨rfl, (by rw [h8]; rfl), trivial⟩))
 ·iterate 4 refine yo rfl ?_
  exact yb rfl (k8 _ _ M ⟨rfl, (by rw [h8]; rfl), trivial⟩)
theorem rP (g3 g6 g5 : Nat) (seen : List (List UInt8)) (x : El) (w : World) (hx0 : ((x.id).length : Int) < 4611686018427387904) (hx1 : ((x.nm).length : Int) < 4611686018427387904) (hT : Laid w utfL) (hTn : ∀ k, (fun k => k = g3 ∨ k = g6) k → ¬ VP k) (hF : Fresh w g3 g6 seen) (hn5 : ¬ (g5 = g3 ∨ g5 = g6)) (hb5 : Blk w g5 91 [.func (.func 103) #[] #[pg g3]]) :
 Calls prog 65 #[.agg x.cells.toArray, pg g5] w fun e w' => e = .returned (.bool (EJ x.id seen && MY x.nm)) ∧ Fresh w' g3 g6 (x.id :: seen) ∧ Fr (fun k => k = g3 ∨ k = g6) w w' := by
 refine AJ (vs := [_, _]) func65 rfl ntmps65 rfl ?_
 have M : Mem w (fun k => k = g3 ∨ k = g6) [As.fresh g3 g6 seen] w := Mem.oneFresh hF
 refine A9 (A0 (B4 M (AA rfl) rfl rfl 39 rfl rfl (El.cells x) rfl fun g2 w1 hg2 M => yb rfl (A4 (A5 (A9 (A0 (yl rfl rfl (Blk.c (hb5.fr M.fr hn5) 0 rfl) (yb rfl (yl rfl rfl (M.cell 0 rfl rfl) (cl 7 rfl (BK rfl rfl rfl call103) (P9 g3 g6 seen x.id _ hx0 (M.ok 1 _ rfl)) ?_))))))))))
 rintro _ w2 ⟨rfl, hFw2, hfw2⟩
 have M := M.updFresh 1 rfl hFw2 hfw2
 refine ⟨_, rfl, yb rfl (AX 4 [(3, .bool false), (12, .bool ((EJ x.id seen) && (MY x.nm)))] (fun w' => Mem w (fun k => k = g3 ∨ k = g6) [As.blk g2 39 (El.cells x), As.fresh g3 g6 (x.id :: seen)] w') ?_ (fun k8 => ?_))⟩
 ·intro w3 M
  exact yb rfl (A4 (A5 (AF (AK rfl rfl ⟨rfl, M.ok 1 _ rfl, M.fr⟩))))
 refine AM (d := 8) (b := (EJ x.id seen)) rfl (fun h8 => ?_) (fun h8 => ?_)
 ·refine yd rfl (yp rfl) (ym rfl rfl (M.cell 0 rfl rfl) (CF (some 11) (AW rfl rfl rfl) rfl rfl (AE rfl rfl call57) (cX _ _ hx1 (LK hT M.fr hTn)) ?_))
  rintro _ w4 ⟨rfl, hfw4⟩
  refine ⟨_, rfl, ?_⟩
  have M := M.step hfw4
  exact yb rfl (k8 _ _ M ⟨rfl, (by rw [h8]; rfl), trivial⟩)
 ·exact yo rfl (yo rfl (yo rfl (yb rfl (k8 _ _ M ⟨rfl, (by rw [h8]; rfl), trivial⟩))))
theorem rO (g3 g6 g5 : Nat) (seen : List (List UInt8)) (x : Fl) (w : World) (hx0 : ((x.id).length : Int) < 4611686018427387904) (_hT : Laid w utfL) (_hTn : ∀ k, (fun k => k = g3 ∨ k = g6) k → ¬ VP k) (hF : Fresh w g3 g6 seen) (hn5 : ¬ (g5 = g3 ∨ g5 = g6)) (hb5 : Blk w g5 91 [.func (.func 103) #[] #[pg g3]]) :
 Calls prog 68 #[.agg x.cells.toArray, pg g5] w fun e w' => e = .returned (.bool (EJ x.id seen)) ∧ Fresh w' g3 g6 (x.id :: seen) ∧ Fr (fun k => k = g3 ∨ k = g6) w w' := by
 refine AJ (vs := [_, _]) func68 rfl ntmps68 rfl ?_
 have M : Mem w (fun k => k = g3 ∨ k = g6) [As.fresh g3 g6 seen] w := Mem.oneFresh hF
 refine A9 (A0 (B4 M (AA rfl) rfl rfl 41 rfl rfl (Fl.cells x) rfl fun g2 w1 hg2 M => yb rfl (A4 (A5 (A9 (A0 (yl rfl rfl (Blk.c (hb5.fr M.fr hn5) 0 rfl) (yb rfl (yl rfl rfl (M.cell 0 rfl rfl) (cl 7 rfl (BK rfl rfl rfl call103) (P9 g3 g6 seen x.id _ hx0 (M.ok 1 _ rfl)) ?_))))))))))
 rintro _ w2 ⟨rfl, hFw2, hfw2⟩
 have M := M.updFresh 1 rfl hFw2 hfw2
 exact ⟨_, rfl, yb rfl (A4 (A5 (AF (AK rfl rfl ⟨rfl, M.ok 1 _ rfl, M.fr⟩))))⟩
end Go.Proofs.YtdaihdknnlphkaaGreatDoor
