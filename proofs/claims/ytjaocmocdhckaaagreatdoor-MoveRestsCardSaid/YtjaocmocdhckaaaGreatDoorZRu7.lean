/- Lemmas that the last text rests on. Condition: each says its own. -/
import Derived.Test.YtjaocmocdhckaaaGreatDoorZRu5
set_option maxHeartbeats 16000000
set_option maxRecDepth 100000
namespace Go.Proofs.YtjaocmocdhckaaaGreatDoor
open Go.RowKit
open Tryz
def GJ (k : List UInt8) (seen : List (List UInt8)) : Bool := CT k && !(decide (k ∈ seen))
def Fresh (w : World) (g3 g6 : Nat) (seen : List (List UInt8)) : Prop := Blk w g3 86 [.map (some g6)] ∧ ¬ g3 = g6 ∧ ∃ L, Mp w g6 L ∧ ∀ k, (CU L k).getD (.bool false) = .bool (decide (k ∈ seen))
theorem PO {L : List (List UInt8 × Value)} {seen : List (List UInt8)} {k : List UInt8} (hL : ∀ k, (CU L k).getD (.bool false) = .bool (decide (k ∈ seen))) : ∀ k', (CU (DN L k (.bool true)) k').getD (.bool false) = .bool (decide (k' ∈ k :: seen)) := fun k' => by
 rw [G7]
 by_cases h : k' = k
 ·rw [if_pos h]; simp [h]
 ·rw [if_neg h, hL]; simp [h]
theorem iH {w : World} {g : Nat} {L : List (List UInt8 × Value)} (h : Mp w g L) : g < w.heap.size := by
 obtain ⟨es, cl, h1, _⟩ := h
 exact (Array.getElem?_eq_some_iff.1 h1).1
theorem Mem.cellMp {w : World} {g3 g6 t : Nat} {cs : List Value} {L : List (List UInt8 × Value)} (hc : Blk w g3 t cs) (hm : Mp w g6 L) (hne : ¬ g3 = g6) : Mem w (fun k => k = g3 ∨ k = g6) [As.blk g3 t cs, As.mp g6 L] w where
 fr := Fr.refl
 ok i a hi := by
  match i with
  | 0 => simp only [List.getElem?_cons_zero, Option.some.injEq] at hi; subst hi; exact hc
  | 1 => simp only [List.getElem?_cons_succ, List.getElem?_cons_zero, Option.some.injEq] at hi; subst hi; exact hm
  | i + 2 => simp at hi
 lt i a hi g hg := by
  match i with
  | 0 =>
   simp only [List.getElem?_cons_zero, Option.some.injEq] at hi; subst hi
   simp only [As.blk, List.mem_singleton] at hg; subst hg; exact ⟨hc.lt, .inr (.inl rfl)⟩
  | 1 =>
   simp only [List.getElem?_cons_succ, List.getElem?_cons_zero, Option.some.injEq] at hi; subst hi
   simp only [As.mp, List.mem_singleton] at hg; subst hg; exact ⟨iH hm, .inr (.inr rfl)⟩
  | i + 2 => simp at hi
 apart i j a b hi hj hij g hg hg' := by
  match i, j with
  | 0, 0 => exact hij rfl
  | 1, 1 => exact hij rfl
  | 0, 1 =>
   simp only [List.getElem?_cons_succ, List.getElem?_cons_zero, Option.some.injEq] at hi hj; subst hi; subst hj
   simp only [As.blk, As.mp, List.mem_singleton] at hg hg'; exact hne (hg ▸ hg')
  | 1, 0 =>
   simp only [List.getElem?_cons_succ, List.getElem?_cons_zero, Option.some.injEq] at hi hj; subst hi; subst hj
   simp only [As.blk, As.mp, List.mem_singleton] at hg hg'; exact hne (hg' ▸ hg)
  | i + 2, _ => simp at hi
  | 0, j + 2 => simp at hj
  | 1, j + 2 => simp at hj
theorem Mem.neMp {w0 w : World} {S : Nat → Prop} {L : List As} (M : Mem w0 S L w) (i j : Nat) {a b t : Nat} {cs : List Value} {K : List (List UInt8 × Value)} (hi : L[i]? = some (As.blk a t cs)) (hj : L[j]? = some (As.mp b K)) (h : i ≠ j) : ¬ a = b := fun e =>
 M.apart i j _ _ hi hj h a (by simp [As.blk]) (by simp [As.mp, e])
theorem Fresh.keep {w w' : World} {g3 g6 : Nat} {seen : List (List UInt8)} (hk : ∀ g ∈ [g3, g6], g < w.heap.size → w'.heap[g]? = w.heap[g]?) (h : Fresh w g3 g6 seen) : Fresh w' g3 g6 seen := by
 obtain ⟨hc, hne, L, ⟨es, cl, h1, h2⟩, hL⟩ := h
 exact ⟨(hk g3 (by simp) hc.lt).trans hc, hne, L, ⟨es, cl, (hk g6 (by simp) (Array.getElem?_eq_some_iff.1 h1).1).trans h1, h2⟩, hL⟩
def As.fresh (g3 g6 : Nat) (seen : List (List UInt8)) : As := ⟨[g3, g6], fun w => Fresh w g3 g6 seen, fun h hb => hb.keep h⟩
theorem Mem.oneFresh {w : World} {g3 g6 : Nat} {seen : List (List UInt8)} (h : Fresh w g3 g6 seen) : Mem w (fun k => k = g3 ∨ k = g6) [As.fresh g3 g6 seen] w where
 fr := Fr.refl
 ok i a hi := by
  cases i with
  | zero => simp only [List.getElem?_cons_zero, Option.some.injEq] at hi; subst hi; exact h
  | succ i => simp at hi
 lt i a hi g hg := by
  cases i with
  | zero =>
   simp only [List.getElem?_cons_zero, Option.some.injEq] at hi; subst hi
   obtain ⟨hc, _, L, hm, _⟩ := h
   simp only [As.fresh, List.mem_cons, List.not_mem_nil, or_false] at hg
   rcases hg with rfl | rfl
   ·exact ⟨hc.lt, .inr (.inl rfl)⟩
   ·exact ⟨iH hm, .inr (.inr rfl)⟩
  | succ i => simp at hi
 apart i j a b hi hj hij := by
  cases i with
  | zero => cases j with
   | zero => exact absurd rfl hij
   | succ j => simp at hj
  | succ i => simp at hi
theorem Mem.updFresh {w0 w w' : World} {S : Nat → Prop} {L : List As} (M : Mem w0 S L w) (i : Nat) {g3 g6 : Nat} {seen seen' : List (List UInt8)} (hi : L[i]? = some (As.fresh g3 g6 seen)) (hF : Fresh w' g3 g6 seen') (hf : Fr (fun k => k = g3 ∨ k = g6) w w') : Mem w0 S (L.set i (As.fresh g3 g6 seen')) w' :=
 M.upd i hi (hf.mono fun k _ e => by simpa [As.fresh] using e) (As.fresh g3 g6 seen') hF (fun g' hg' => .inl hg')
def U8 (k : Nat) : Prop := ∃ p ∈ utfL, p.1 = k
theorem M9 {S : Nat → Prop} {w w' : World} (h : Laid w utfL) (hf : Fr S w w') (hS : ∀ k, S k → ¬ U8 k) : Laid w' utfL := fun p hp => by
 obtain ⟨el, fz, h1⟩ := h p hp
 exact ⟨el, fz, (hf.block _ (Array.getElem?_eq_some_iff.1 h1).1 (fun hh => hS _ hh ⟨p, hp, rfl⟩)).trans h1⟩
theorem HC : (prog.info? 86).map (·.size) = some 1 := by kernel_rfl
theorem O0 : (prog.info? 4).map (·.zero) = some (some (.bool false)) := by kernel_rfl
theorem HB : (prog.info? 86).map (·.zero) = some (some (.map none)) := by kernel_rfl
theorem PQ (g3 g6 : Nat) (seen : List (List UInt8)) (k : List UInt8) (w : World) (hk : (k.length : Int) < 4611686018427387904) (hF : Fresh w g3 g6 seen) :
 Calls prog 128 #[str k, pg g3] w fun e w' => e = .returned (.bool (GJ k seen)) ∧ Fresh w' g3 g6 (k :: seen) ∧ Fr (fun k => k = g3 ∨ k = g6) w w' := by
 obtain ⟨hc, hne, L, hm, hL⟩ := hF
 refine BE (vs := [_, _]) func128 rfl ntmps128 rfl ?_
 have M : Mem w (fun k => k = g3 ∨ k = g6) [As.blk g3 86 [.map (some g6)], As.mp g6 L] w := Mem.cellMp hc hm hne
 refine srg (AY rfl (AQ rfl (D4 M 6 rfl rfl call67 (EI _ _ (by first | assumption | omega)) fun w1 M => yb rfl (DI 5 [(0, str k), (1, pg g3), (12, .bool ((CT k) && (!(decide (k ∈ seen)))))] (fun w' => Mem w (fun k => k = g3 ∨ k = g6) [As.blk g3 86 [.map (some g6)], As.mp g6 L] w') ?_ (fun k7 => ?_)))))
 ·intro w2 M
  refine AY rfl (srg (BC M 0 rfl rfl rfl (yb rfl (FZ M 1 (AA rfl) rfl rfl rfl rfl rfl underlying86 underlying9 rfl fun w3 M => nq (AQ rfl (yb rfl (AR ?_)))))))
  exact AD (BN (gr1 rfl ⟨rfl, ⟨M.blk 0 rfl, hne, _, M.mp 1 rfl, PO hL⟩, M.fr⟩))
 refine AO (d := 7) rfl (fun h7 => ?_) (fun h7 => ?_)
 ·exact CJ M 0 rfl rfl rfl (gyq rfl (yd rfl (BT rfl rfl rfl underlying86 underlying9 O0 (M.mp 1 rfl) (hL _)) (gyq rfl (yb rfl (k7 _ _ M ⟨rfl, rfl, (by rw [h7]; rfl), trivial⟩)))))
 ·iterate 4 refine yo rfl ?_
  exact yb rfl (k7 _ _ M ⟨rfl, rfl, (by rw [h7]; rfl), trivial⟩)
theorem TH (A : Option Addr) (c : Nat) (tk : List (List UInt8)) (w : World) (hl : tk.length ≤ 4611686018427387904) (hR : Rd w A (tk.length * 1) (AH BY tk)) :
 Calls prog 73 #[.slice A tk.length c] w fun e w' => ∃ g3 g6, e = .returned (.func (.func 128) #[] #[pg g3]) ∧ Fresh w' g3 g6 tk.reverse ∧ (∀ k ∈ [g3, g6], w.heap.size ≤ k ∧ k < w'.heap.size) ∧ Fr0 w w' := by
 refine C5 func73 ntmps73 rfl fun M => srg (AY rfl (srg (ID M (AA rfl) rfl rfl rfl fun g6 w1 hg6 M => DJ M (AA rfl) rfl rfl 86 rfl [.map none] HB rfl fun g3 w2 hg3 M => gp1 M 0 rfl rfl rfl HC fun w3 M => nq ?_)))
 refine AF (AQ rfl (ya rfl (C3 rfl rfl (sl rfl)) (AY rfl (AS (flp [8, 7, 3] (fun ze e wr mz => ∃ (i : Nat) (L : List (List UInt8 × Value)), e = (9, AJ ((i : Nat) : Int)) :: ze ∧ Mem w B0 [As.blk g3 86 [.map (some g6)], As.mp g6 L] wr ∧ (i ≤ tk.length) ∧ (∀ k, (CU L k).getD (.bool false) = .bool (decide (k ∈ (tk.take i).reverse))) ∧ mz = tk.length - i) ⟨0, [], rfl, M, Nat.zero_le _, fun _ => rfl, rfl⟩ ?_)))))
 rintro _ w4 _ ⟨i, L, rfl, M, hi, hL, rfl⟩
 refine srg (CF rfl rfl (nq (AF (AL rfl (fun h10 => ?_) (fun h10 => ?_)))))
 ·have h10p := (odt h10)
  refine AI (AD (AF (AS (srg ?_))))
  obtain ⟨x, hx⟩ := CC (l := tk) (i := i) AM
  obtain ⟨b_x, o_x, hA_x⟩ := BI (k := 1) AM (hR.fr0 M.fr) hx
  refine ya rfl (B1 i hA_x rfl rfl rfl (sl rfl) AM) (yl rfl rfl (DQ E0 (hR.fr0 M.fr) hA_x hx 0 rfl) (AY rfl (AK (BC M 0 rfl rfl rfl (yb rfl (FZ M 1 (AA rfl) rfl rfl rfl rfl rfl underlying86 underlying9 rfl fun w5 M => AR (AE (AD (AK (ya rfl (BO rfl rfl rfl AM) (yb rfl ?_)))))))))))
  refine AR (fag ⟨i + 1, DN L x (.bool true), rfl, M, ?_, ?_, rfl⟩)
  ·omega
  ·rw [B4 hx, List.reverse_append]
   exact PO hL
 ·have h10p := (odf h10)
  refine BF (AG (AG ?_))
  have hiE : i = tk.length := by omega
  rw [hiE, List.take_length] at hL
  refine AV (AD (srg (ya rfl (DE (us := []) (vs := [pg g3]) rfl rfl rfl) (yb rfl (gnr (gr1 rfl ?_))))))
  exact ⟨_, _, rfl, ⟨M.blk 0 rfl, M.neMp 0 1 rfl rfl BU, _, M.mp 1 rfl, hL⟩, (fun k hk => by
   rcases List.mem_cons.1 hk with rfl | hk
   ·exact M.new0 0 rfl k (by simp [As.blk])
   ·obtain rfl : k = _ := by simpa using hk
    exact M.new0 1 rfl _ (by simp [As.mp])), M.fr⟩
theorem mT (g3 g6 g5 : Nat) (seen : List (List UInt8)) (x : Bd) (w : World) (hx0 : ((x.name).length : Int) < 4611686018427387904) (hx1 : ((x.v.text).length : Int) < 4611686018427387904) (hT : Laid w utfL) (hTn : ∀ k, (fun k => k = g3 ∨ k = g6) k → ¬ U8 k) (hF : Fresh w g3 g6 seen) (hn5 : ¬ (g5 = g3 ∨ g5 = g6)) (hb5 : Blk w g5 89 [.func (.func 128) #[] #[pg g3]]) :
 Calls prog 76 #[.agg x.cells.toArray, pg g5] w fun e w' => e = .returned (.bool (GJ x.name seen && decide (chk x.v = (0 : Int)))) ∧ Fresh w' g3 g6 (x.name :: seen) ∧ Fr (fun k => k = g3 ∨ k = g6) w w' := by
 refine BE (vs := [_, _]) func76 rfl ntmps76 rfl ?_
 have M : Mem w (fun k => k = g3 ∨ k = g6) [As.fresh g3 g6 seen] w := Mem.oneFresh hF
 refine srg (CR M rfl rfl fun g2 w1 hg2 M => AY rfl (srg (yl rfl rfl (Blk.c (hb5.fr M.fr hn5) 0 rfl) (yb rfl (BC M 0 rfl rfl rfl (cl 7 rfl (BX rfl rfl rfl call128) (PQ g3 g6 seen x.name _ hx0 (M.ok 1 _ rfl)) ?_))))))
 rintro _ w2 ⟨rfl, hFw2, hfw2⟩
 have M := M.updFresh 1 rfl hFw2 hfw2
 refine ⟨_, rfl, yb rfl (DI 5 [(3, .bool false), (13, .bool ((GJ x.name seen) && (decide ((chk (⟨x.v.kind, x.v.int, x.v.bool, x.v.text⟩ : Vl)) = (0 : Int)))))] (fun w' => Mem w (fun k => k = g3 ∨ k = g6) [As.blk g2 47 (Bd.cells x), As.fresh g3 g6 (x.name :: seen)] w') ?_ (fun k8 => ?_))⟩
 ·intro w3 M
  exact yb rfl (gnr (gr1 rfl ⟨rfl, M.ok 1 _ rfl, M.fr⟩))
 refine AO (d := 8) rfl (fun h8 => ?_) (fun h8 => ?_)
 ·refine gyq rfl (yd rfl (AU (xs := [.int .u8 (x.v.kind.toNat : Int), AJ x.v.int, .bool x.v.bool, str x.v.text]) rfl rfl (FS (M.blk 0 rfl) 1 4 rfl rfl) underlying45 rfl AC) (B3 (some 11) (BG rfl rfl rfl) rfl rfl (AP rfl rfl call65) (FR (⟨x.v.kind, x.v.int, x.v.bool, x.v.text⟩ : Vl) _ hx1 (M9 hT M.fr hTn)) ?_))
  rintro _ w4 ⟨rfl, hfw4⟩
  refine ⟨_, rfl, ?_⟩
  have M := M.step hfw4
  exact yd rfl (BZ rfl rfl rfl) (yb rfl (k8 _ _ M ⟨rfl, (by rw [h8]; rfl), trivial⟩))
 ·iterate 4 refine yo rfl ?_
  exact yb rfl (k8 _ _ M ⟨rfl, (by rw [h8]; rfl), trivial⟩)
theorem mS (g3 g6 g5 : Nat) (seen : List (List UInt8)) (x : El) (w : World) (hx0 : ((x.id).length : Int) < 4611686018427387904) (hx1 : ((x.nm).length : Int) < 4611686018427387904) (hT : Laid w utfL) (hTn : ∀ k, (fun k => k = g3 ∨ k = g6) k → ¬ U8 k) (hF : Fresh w g3 g6 seen) (hn5 : ¬ (g5 = g3 ∨ g5 = g6)) (hb5 : Blk w g5 89 [.func (.func 128) #[] #[pg g3]]) :
 Calls prog 79 #[.agg x.cells.toArray, pg g5] w fun e w' => e = .returned (.bool (GJ x.id seen && R7 x.nm)) ∧ Fresh w' g3 g6 (x.id :: seen) ∧ Fr (fun k => k = g3 ∨ k = g6) w w' := by
 refine BE (vs := [_, _]) func79 rfl ntmps79 rfl ?_
 have M : Mem w (fun k => k = g3 ∨ k = g6) [As.fresh g3 g6 seen] w := Mem.oneFresh hF
 refine srg (CR M rfl rfl fun g2 w1 hg2 M => AY rfl (srg (yl rfl rfl (Blk.c (hb5.fr M.fr hn5) 0 rfl) (yb rfl (BC M 0 rfl rfl rfl (cl 7 rfl (BX rfl rfl rfl call128) (PQ g3 g6 seen x.id _ hx0 (M.ok 1 _ rfl)) ?_))))))
 rintro _ w2 ⟨rfl, hFw2, hfw2⟩
 have M := M.updFresh 1 rfl hFw2 hfw2
 refine ⟨_, rfl, yb rfl (DI 4 [(3, .bool false), (12, .bool ((GJ x.id seen) && (R7 x.nm)))] (fun w' => Mem w (fun k => k = g3 ∨ k = g6) [As.blk g2 69 (El.cells x), As.fresh g3 g6 (x.id :: seen)] w') ?_ (fun k8 => ?_))⟩
 ·intro w3 M
  exact yb rfl (gnr (gr1 rfl ⟨rfl, M.ok 1 _ rfl, M.fr⟩))
 refine AO (d := 8) rfl (fun h8 => ?_) (fun h8 => ?_)
 ·refine gyq rfl (CJ M 0 rfl rfl rfl (B3 (some 11) (BG rfl rfl rfl) rfl rfl (AP rfl rfl call72) (ZA _ _ hx1 (M9 hT M.fr hTn)) ?_))
  rintro _ w4 ⟨rfl, hfw4⟩
  refine ⟨_, rfl, ?_⟩
  have M := M.step hfw4
  exact yb rfl (k8 _ _ M ⟨rfl, (by rw [h8]; rfl), trivial⟩)
 ·exact yo rfl (yo rfl (yo rfl (yb rfl (k8 _ _ M ⟨rfl, (by rw [h8]; rfl), trivial⟩))))
theorem mR (g3 g6 g5 : Nat) (seen : List (List UInt8)) (x : Fl) (w : World) (hx0 : ((x.id).length : Int) < 4611686018427387904) (_hT : Laid w utfL) (_hTn : ∀ k, (fun k => k = g3 ∨ k = g6) k → ¬ U8 k) (hF : Fresh w g3 g6 seen) (hn5 : ¬ (g5 = g3 ∨ g5 = g6)) (hb5 : Blk w g5 89 [.func (.func 128) #[] #[pg g3]]) :
 Calls prog 82 #[.agg x.cells.toArray, pg g5] w fun e w' => e = .returned (.bool (GJ x.id seen)) ∧ Fresh w' g3 g6 (x.id :: seen) ∧ Fr (fun k => k = g3 ∨ k = g6) w w' := by
 refine BE (vs := [_, _]) func82 rfl ntmps82 rfl ?_
 have M : Mem w (fun k => k = g3 ∨ k = g6) [As.fresh g3 g6 seen] w := Mem.oneFresh hF
 refine srg (CR M rfl rfl fun g2 w1 hg2 M => AY rfl (srg (yl rfl rfl (Blk.c (hb5.fr M.fr hn5) 0 rfl) (yb rfl (BC M 0 rfl rfl rfl (cl 7 rfl (BX rfl rfl rfl call128) (PQ g3 g6 seen x.id _ hx0 (M.ok 1 _ rfl)) ?_))))))
 rintro _ w2 ⟨rfl, hFw2, hfw2⟩
 have M := M.updFresh 1 rfl hFw2 hfw2
 exact ⟨_, rfl, yb rfl (gnr (gr1 rfl ⟨rfl, M.ok 1 _ rfl, M.fr⟩))⟩
section
def FV {α : Type} (f : α → List UInt8) (base : List (List UInt8)) (l : List α) (i : Nat) : List (List UInt8) := ((l.take i).map f).reverse ++ base
theorem NH {α : Type} {f : α → List UInt8} {base : List (List UInt8)} {l : List α} {i : Nat} {x : α} (hx : l[i]? = some x) : FV f base l (i + 1) = f x :: FV f base l i := by
 unfold FV
 rw [B4 hx, List.map_append, List.reverse_append]; rfl
def pV (m : Md) (i : Nat) (x : Bd) : Bool := GJ x.name (FV (fun x => x.name) [] m.vars i) && decide (chk x.v = (0 : Int))
def pE (m : Md) (i : Nat) (x : El) : Bool := GJ x.id (FV (fun x => x.id) [m.id] m.els i) && R7 x.nm
def pF (m : Md) (i : Nat) (x : Fl) : Bool := GJ x.id (FV (fun x => x.id) (FV (fun x => x.id) [m.id] m.els m.els.length) m.fls i)
def UO (m : Md) : Bool := (((((!(CT m.id)) || (!(R7 m.nm))) || (decide ((64 : Int) < ((m.els.length : Nat) : Int)))) || (decide ((128 : Int) < ((m.fls.length : Nat) : Int)))) || (decide ((16 : Int) < ((m.vars.length : Nat) : Int))))
def HU (m : Md) : Option (List UInt8) := if UO m = true then some [] else match ffN (pV m) 0 m.vars with
 | some b => some b.name
 | none => match ffN (pE m) 0 m.els with
  | some b => some b.id
  | none => (ffN (pF m) 0 m.fls).map (·.id)
section
variable {m : Md} (h : UO m = false)
include h
theorem rM (h1 : (ffN (pV m) 0 m.vars).isSome = true) : Value.tuple #[str ((ffN (pV m) 0 m.vars).elim [] (fun x => x.name)), .bool true] = JZ (HU m) := by
 unfold HU
 rw [AT h]
 cases hq : ffN (pV m) 0 m.vars with
 | none => rw [hq] at h1; cases h1
 | some b => rfl
theorem rP (h1 : (ffN (pV m) 0 m.vars).isSome = false) (h2 : (ffN (pE m) 0 m.els).isSome = true) : Value.tuple #[str ((ffN (pE m) 0 m.els).elim [] (fun x => x.id)), .bool true] = JZ (HU m) := by
 unfold HU
 rw [AT h]
 cases hq : ffN (pV m) 0 m.vars with
 | some b => rw [hq] at h1; cases h1
 | none =>
  cases hr : ffN (pE m) 0 m.els with
  | none => rw [hr] at h2; cases h2
  | some b => rfl
theorem rN (h1 : (ffN (pV m) 0 m.vars).isSome = false) (h2 : (ffN (pE m) 0 m.els).isSome = false) : Value.tuple #[str ((ffN (pF m) 0 m.fls).elim [] (fun x => x.id)), .bool (ffN (pF m) 0 m.fls).isSome] = JZ (HU m) := by
 unfold HU
 rw [AT h]
 cases hq : ffN (pV m) 0 m.vars with
 | some b => rw [hq] at h1; cases h1
 | none =>
  cases hr : ffN (pE m) 0 m.els with
  | some b => rw [hr] at h2; cases h2
  | none => cases ffN (pF m) 0 m.fls <;> rfl
end
theorem ZU {α : Type} {p : Nat → α → Bool} : ∀ (l : List α) (i : Nat), ffN p i l = none → ixN (fun i x => !(p i x)) i l = i + l.length
 | [], _, _ => rfl
 | x :: r, i, h => by
  rw [ffN] at h
  by_cases hp : p i x = true
  ·rw [if_pos hp] at h
   rw [ixN, if_neg (by simp [hp]), ZU r (i + 1) h, List.length_cons]; omega
  ·rw [if_neg hp] at h; cases h
theorem nJ {α : Type} {p : Nat → α → Bool} {l : List α} (h : (ffN p 0 l).isSome = false) : ixN (fun i x => !(p i x)) 0 l = l.length := by
 have : ffN p 0 l = none := by
  cases hq : ffN p 0 l with
  | none => rfl
  | some x => rw [hq] at h; cases h
 rw [ZU l 0 this, Nat.zero_add]
theorem CA {w wc w9 : World} {S : Nat → Prop} (hf : Fr0 w wc) (h9 : Fr S wc w9) (hS : ∀ k, S k → w.heap.size ≤ k) : Fr0 w w9 :=
 ⟨h9.os.trans hf.os, h9.tape.trans hf.tape, h9.output.trans hf.output, Nat.le_trans hf.size h9.size, fun k hk _ => (h9.block k (Nat.lt_of_lt_of_le hk hf.size) (fun hh => by have := hS k hh; omega)).trans (hf.block k hk (fun hh => hh))⟩
theorem lT {k : Nat} (h : U8 k) : k < nGlob := by
 have hn := WK
 simp only [Bool.and_eq_true] at hn
 obtain ⟨n1, n2, _, _⟩ := hn
 obtain ⟨p, hp, rfl⟩ := h
 simp only [utfL, List.mem_cons, List.not_mem_nil, or_false] at hp
 rcases hp with rfl | rfl
 ·exact CO n1
 ·exact CO n2
theorem Mem.newF {w0 w : World} {L : List As} (M : Mem w0 B0 L w) (i : Nat) {g3 g6 : Nat} {seen : List (List UInt8)} (hi : L[i]? = some (As.fresh g3 g6 seen)) : ∀ k, (k = g3 ∨ k = g6) → w0.heap.size ≤ k := fun k hk =>
 (M.new0 i hi k (by simpa [As.fresh] using hk)).1
theorem Mem.noU {w0 w : World} {L : List As} (M : Mem w0 B0 L w) (i : Nat) {g3 g6 : Nat} {seen : List (List UInt8)} (hi : L[i]? = some (As.fresh g3 g6 seen)) (hY : Lay0 w0) : ∀ k, (k = g3 ∨ k = g6) → ¬ U8 k := fun k hk hu => by
 have h1 := M.newF i hi k hk
 have h2 : nGlob ≤ w0.heap.size := hY.size
 have h3 := lT hu
 omega
theorem Mem.neFresh {w0 w : World} {S : Nat → Prop} {L : List As} (M : Mem w0 S L w) (i j : Nat) {g t g3 g6 : Nat} {cs : List Value} {seen : List (List UInt8)} (hi : L[i]? = some (As.blk g t cs)) (hj : L[j]? = some (As.fresh g3 g6 seen)) (h : i ≠ j) : ¬ (g = g3 ∨ g = g6) := fun hh =>
 M.apart i j _ _ hi hj h g (by simp [As.blk]) (by simpa [As.fresh] using hh)
section
variable {g3 g6 g5 : Nat} {base : List (List UInt8)} {w : World}
theorem PP (hF : Fresh w g3 g6 base) : ∀ g, (g = g3 ∨ g = g6) → g < w.heap.size := fun g hg => by
 obtain ⟨h1, _, L, h2, _⟩ := hF
 rcases hg with rfl | rfl
 ·exact h1.lt
 ·exact iH h2
theorem gS {l : List Bd} (hok : BdOk l) (hT : Laid w utfL) (hF : Fresh w g3 g6 base) (hnu : ∀ k, (k = g3 ∨ k = g6) → ¬ U8 k) (hn5 : ¬ (g5 = g3 ∨ g5 = g6)) (hb5 : Blk w g5 89 [.func (.func 128) #[] #[pg g3]]) :
 PredJ prog 76 [pg g5] (fun x : Bd => .agg x.cells.toArray) l (fun i x => GJ x.name (FV (fun x => x.name) base l i) && decide (chk x.v = (0 : Int))) (fun k => k = g3 ∨ k = g6) (fun i W => Fresh W g3 g6 (FV (fun x => x.name) base l i)) w where
 fn := call76
 call i x w1 hx hf hJ := by
  have hm := List.mem_of_getElem? hx
  have h := mT g3 g6 g5 (FV (fun x => x.name) base l i) x w1 (hok.name x hm) (hok.text x hm) (M9 hT hf hnu) hnu hJ hn5 (hb5.fr hf hn5)
  rw [← NH (f := fun x : Bd => x.name) (base := base) hx] at h
  exact h
 st i w1 w2 hf hJ := hJ.keep (fun g _ hg => hf.block g hg (fun hh => hh))
 old := PP hF
theorem gR {l : List El} (hok : ∀ x ∈ l, ElOk x) (hT : Laid w utfL) (hF : Fresh w g3 g6 base) (hnu : ∀ k, (k = g3 ∨ k = g6) → ¬ U8 k) (hn5 : ¬ (g5 = g3 ∨ g5 = g6)) (hb5 : Blk w g5 89 [.func (.func 128) #[] #[pg g3]]) :
 PredJ prog 79 [pg g5] (fun x : El => .agg x.cells.toArray) l (fun i x => GJ x.id (FV (fun x => x.id) base l i) && R7 x.nm) (fun k => k = g3 ∨ k = g6) (fun i W => Fresh W g3 g6 (FV (fun x => x.id) base l i)) w where
 fn := call79
 call i x w1 hx hf hJ := by
  have hm := List.mem_of_getElem? hx
  have h := mS g3 g6 g5 (FV (fun x => x.id) base l i) x w1 (hok x hm).id (hok x hm).nm (M9 hT hf hnu) hnu hJ hn5 (hb5.fr hf hn5)
  rw [← NH (f := fun x : El => x.id) (base := base) hx] at h
  exact h
 st i w1 w2 hf hJ := hJ.keep (fun g _ hg => hf.block g hg (fun hh => hh))
 old := PP hF
theorem gQ {l : List Fl} (hok : ∀ x ∈ l, FlOk x) (hT : Laid w utfL) (hF : Fresh w g3 g6 base) (hnu : ∀ k, (k = g3 ∨ k = g6) → ¬ U8 k) (hn5 : ¬ (g5 = g3 ∨ g5 = g6)) (hb5 : Blk w g5 89 [.func (.func 128) #[] #[pg g3]]) :
 PredJ prog 82 [pg g5] (fun x : Fl => .agg x.cells.toArray) l (fun i x => GJ x.id (FV (fun x => x.id) base l i)) (fun k => k = g3 ∨ k = g6) (fun i W => Fresh W g3 g6 (FV (fun x => x.id) base l i)) w where
 fn := call82
 call i x w1 hx hf hJ := by
  have hm := List.mem_of_getElem? hx
  have h := mR g3 g6 g5 (FV (fun x => x.id) base l i) x w1 (hok x hm).id (M9 hT hf hnu) hnu hJ hn5 (hb5.fr hf hn5)
  rw [← NH (f := fun x : Fl => x.id) (base := base) hx] at h
  exact h
 st i w1 w2 hf hJ := hJ.keep (fun g _ hg => hf.block g hg (fun hh => hh))
 old := PP hF
end
theorem GR : (prog.info? 89).map (·.size) = some 1 := by kernel_rfl
theorem zr_api_Model : (prog.info? 26).map (·.zero) = some (some (.agg #[str [], str [], .slice none 0 0, .slice none 0 0, .slice none 0 0])) := by kernel_rfl
theorem GO : (prog.info? 89).map (·.zero) = some (some (.nilFunc)) := by kernel_rfl
theorem mQ (m : Md) (a : MdA) (ix : IxA) (gx : Nat) (w : World) (ho : MdOk m) (hx : IxAt w m a ix gx) (hY : Lay0 w) :
 Calls prog 36 #[pg gx] w (CG w (JZ (HU m))) := by
 refine C5 func36 ntmps36 rfl fun M => AQ rfl (AY rfl (AQ rfl (BM rfl rfl (ya rfl (AU (xs := [str m.id, str m.nm, .slice a.V m.vars.length a.vc, .slice a.E m.els.length a.ec, .slice a.F m.fls.length a.fc]) rfl rfl (FS ((hx.fr0 M.fr).blk) 0 5 rfl rfl) underlying26 rfl C0) (DC M rfl zr_api_Model fun g4 w1 hg4 M => C4 M 0 rfl rfl C0 rfl ?_)))))
 intro w2 M
 refine nq (AF (AQ rfl (BC M 0 rfl rfl rfl (D4 M 17 rfl rfl call67 (EI _ _ ho.id) fun w3 M => BM rfl rfl (fvm M 5 [4] [(24, .bool ((!(CT m.id)) || (!(R7 m.nm))))] ?_ (fun k19 => ?_))))))
 ·intro w4 M
  refine yb rfl (fvm M 5 [4] [(30, .bool (((!(CT m.id)) || (!(R7 m.nm))) || (decide ((64 : Int) < ((m.els.length : Nat) : Int)))))] ?_ (fun k25 => ?_))
  ·intro w5 M
   refine yb rfl (fvm M 5 [4] [(36, .bool ((((!(CT m.id)) || (!(R7 m.nm))) || (decide ((64 : Int) < ((m.els.length : Nat) : Int)))) || (decide ((128 : Int) < ((m.fls.length : Nat) : Int)))))] ?_ (fun k31 => ?_))
   ·intro w6 M
    refine yb rfl (fvm M 5 [4] [(42, .bool (((((!(CT m.id)) || (!(R7 m.nm))) || (decide ((64 : Int) < ((m.els.length : Nat) : Int)))) || (decide ((128 : Int) < ((m.fls.length : Nat) : Int)))) || (decide ((16 : Int) < ((m.vars.length : Nat) : Int)))))] ?_ (fun k37 => ?_))
    ·intro w7 M
     refine nq (AL rfl (fun h42 => ?_) (fun h42 => ?_))
     ·have h42p := ((EO h42).imp (fun z => ((EO z).imp (fun z => ((EO z).imp (fun z => ((EO z).imp (fun z => (CK z)) (fun z => (CK z)))) (fun z => (odt z)))) (fun z => (odt z)))) (fun z => (odt z)))
      exact AQ rfl (yb rfl (gnr (AB (CI rfl rfl rfl ⟨by rw [show HU m = some [] from if_pos h42]; rfl, M.fr⟩))))
     ·have h42p := (And.intro (And.intro (And.intro (And.intro (BQ (CP (CP (CP (CP h42).1).1).1).1) (BQ (CP (CP (CP (CP h42).1).1).1).2)) (odf (CP (CP (CP h42).1).1).2)) (odf (CP (CP h42).1).2)) (odf (CP h42).2))
      refine AI (AD (srg (cl 43 rfl (AP rfl rfl call73) (TH none 0 [] _ (Nat.zero_le _) Rd.nil) ?_)))
      rintro _ w8 ⟨ga43, gb43, rfl, hfr, hnw, hfw8⟩
      refine ⟨_, rfl, ?_⟩
      have M := M.push hfw8 (As.fresh ga43 gb43 []) hfr hnw
      refine DJ M (AA rfl) rfl rfl 89 rfl [.nilFunc] GO rfl fun g5 w9 hg5 M => D0 (cs' := [.func (.func 128) #[] #[pg ga43]]) M 0 (AA rfl) rfl rfl rfl rfl rfl rfl rfl GR (CO rfl) rfl fun w10 M => nq (AF (AQ rfl (BC M 2 rfl rfl rfl (ya rfl (DE (us := []) (vs := [pg g5]) rfl rfl rfl) ?_))))
      have hnU48 := M.noU 1 rfl hY
      have hnw48 : ∀ k, (k = ga43 ∨ k = gb43) → w.heap.size ≤ k := M.newF 1 rfl
      refine cl 48 rfl (AP rfl rfl call74) (jK a.V a.vc m.vars (by have := ho.nvars; have := ho.nels; have := ho.nfls; omega) 76 [pg g5] (pV m) (fun k => k = ga43 ∨ k = gb43) (fun i W => Fresh W ga43 gb43 (FV (fun x : Bd => x.name) [] m.vars i)) _ (gS ho.vars (GG hY.utf M.fr) (M.ok 1 _ rfl) hnU48 (M.neFresh 0 1 rfl rfl BU) (M.blk 0 rfl)) (fun w9 hf9 => hx.md.vars.fr0 (CA M.fr hf9 hnw48)) (M.ok 1 _ rfl)) ?_
      rintro _ w11 ⟨rfl, hJw11, hfw11⟩
      have M := M.updFresh 1 rfl hJw11 hfw11
      refine ⟨_, rfl, ?_⟩
      iterate 5 refine yb rfl ?_
      refine N2 (AY rfl (AL rfl (fun h51 => ?_) (fun h51 => ?_)))
      ·exact AQ rfl (BM rfl rfl (gnr (AB (CI rfl rfl rfl ⟨congrArg Ending.returned (rM h42 h51), M.fr⟩))))
      ·refine AI (AD (AQ rfl (BC M 2 rfl rfl rfl (DF M (AA rfl) rfl rfl [str m.id] ([str m.id]) rfl rfl rfl rfl underlying36 D1 rfl rfl (HE rfl) rfl fun g55 w12 hg55 M => cl 56 rfl (AP rfl rfl call73) (TH (some ⟨g55, 0, none⟩) 1 [m.id] _ (BS rfl) (M.rdBlk 0 rfl rfl)) ?_))))
       rintro _ w13 ⟨ga56, gb56, rfl, hfr, hnw, hfw13⟩
       refine ⟨_, rfl, ?_⟩
       have M := M.push hfw13 (As.fresh ga56 gb56 [m.id]) hfr hnw
       refine DJ M (AA rfl) rfl rfl 89 rfl [.nilFunc] GO rfl fun g8 w14 hg8 M => D0 (cs' := [.func (.func 128) #[] #[pg ga56]]) M 0 (AA rfl) rfl rfl rfl rfl rfl rfl rfl GR (CO rfl) rfl fun w15 M => nq (AF (AQ rfl (BC M 5 rfl rfl rfl (ya rfl (DE (us := []) (vs := [pg g8]) rfl rfl rfl) ?_))))
       have hnU61 := M.noU 1 rfl hY
       have hnw61 : ∀ k, (k = ga56 ∨ k = gb56) → w.heap.size ≤ k := M.newF 1 rfl
       refine cl 61 rfl (AP rfl rfl call77) (WZ a.E a.ec m.els (by have := ho.nvars; have := ho.nels; have := ho.nfls; omega) 79 [pg g8] (pE m) (fun k => k = ga56 ∨ k = gb56) (fun i W => Fresh W ga56 gb56 (FV (fun x : El => x.id) [m.id] m.els i)) _ (gR ho.els (GG hY.utf M.fr) (M.ok 1 _ rfl) hnU61 (M.neFresh 0 1 rfl rfl BU) (M.blk 0 rfl)) (fun w9 hf9 => hx.md.els.fr0 (CA M.fr hf9 hnw61)) (M.ok 1 _ rfl)) ?_
       rintro _ w16 ⟨rfl, hJw16, hfw16⟩
       have M := M.updFresh 1 rfl hJw16 hfw16
       refine ⟨_, rfl, ?_⟩
       iterate 5 refine yb rfl ?_
       refine N2 (AY rfl (AL rfl (fun h64 => ?_) (fun h64 => ?_)))
       ·exact AQ rfl (BM rfl rfl (gnr (AB (CI rfl rfl rfl ⟨congrArg Ending.returned (rP h42 h51 h64), M.fr⟩))))
       ·rw [nJ h64] at M
        refine AI (AD (AQ rfl (BC M 5 rfl rfl rfl (ya rfl (DE (us := []) (vs := [pg g8]) rfl rfl rfl) ?_))))
        have hnU69 := M.noU 1 rfl hY
        have hnw69 : ∀ k, (k = ga56 ∨ k = gb56) → w.heap.size ≤ k := M.newF 1 rfl
        refine cl 69 rfl (AP rfl rfl call80) (WY a.F a.fc m.fls (by have := ho.nvars; have := ho.nels; have := ho.nfls; omega) 82 [pg g8] (pF m) (fun k => k = ga56 ∨ k = gb56) (fun i W => Fresh W ga56 gb56 (FV (fun x : Fl => x.id) (FV (fun x : El => x.id) [m.id] m.els m.els.length) m.fls i)) _ (gQ ho.fls (GG hY.utf M.fr) (M.ok 1 _ rfl) hnU69 (M.neFresh 0 1 rfl rfl BU) (M.blk 0 rfl)) (fun w9 hf9 => hx.md.fls.fr0 (CA M.fr hf9 hnw69)) (M.ok 1 _ rfl)) ?_
        rintro _ w17 ⟨rfl, hJw17, hfw17⟩
        have M := M.updFresh 1 rfl hJw17 hfw17
        refine ⟨_, rfl, ?_⟩
        iterate 4 refine yb rfl ?_
        exact gnr (CI rfl rfl rfl ⟨congrArg Ending.returned (rN h42 h51 h64), M.fr⟩)
    refine AO (d := 37) rfl (fun h37 => ?_) (fun h37 => ?_)
    ·iterate 4 refine yo rfl ?_
     exact yb rfl (k37 M ⟨rfl, (by rw [h37]; rfl), trivial⟩)
    ·exact gyq rfl (CJ M 0 rfl rfl rfl (yd rfl (C3 rfl rfl (sl rfl)) (yd rfl (GC rfl rfl rfl) (yb rfl (k37 M ⟨rfl, (by rw [h37]; rfl), trivial⟩)))))
   refine AO (d := 31) rfl (fun h31 => ?_) (fun h31 => ?_)
   ·iterate 4 refine yo rfl ?_
    exact yb rfl (k31 M ⟨rfl, (by rw [h31]; rfl), trivial⟩)
   ·exact gyq rfl (CJ M 0 rfl rfl rfl (yd rfl (C3 rfl rfl (sl rfl)) (yd rfl (GC rfl rfl rfl) (yb rfl (k31 M ⟨rfl, (by rw [h31]; rfl), trivial⟩)))))
  refine AO (d := 25) rfl (fun h25 => ?_) (fun h25 => ?_)
  ·iterate 4 refine yo rfl ?_
   exact yb rfl (k25 M ⟨rfl, (by rw [h25]; rfl), trivial⟩)
  ·exact gyq rfl (CJ M 0 rfl rfl rfl (yd rfl (C3 rfl rfl (sl rfl)) (yd rfl (GC rfl rfl rfl) (yb rfl (k25 M ⟨rfl, (by rw [h25]; rfl), trivial⟩)))))
 refine AO (d := 19) rfl (fun h19 => ?_) (fun h19 => ?_)
 ·iterate 4 refine yo rfl ?_
  exact yb rfl (k19 M ⟨rfl, (by rw [h19]; rfl), trivial⟩)
 ·refine gyq rfl (CJ M 0 rfl rfl rfl (B3 (some 22) (BG rfl rfl rfl) rfl rfl (AP rfl rfl call72) (ZA _ _ ho.nm (GG hY.utf M.fr)) ?_))
  rintro _ w18 ⟨rfl, hfw18⟩
  refine ⟨_, rfl, ?_⟩
  have M := M.step hfw18
  exact gyq rfl (yb rfl (k19 M ⟨rfl, (by rw [h19]; rfl), trivial⟩))
end
end Go.Proofs.YtjaocmocdhckaaaGreatDoor
