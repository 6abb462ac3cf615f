/- Lemmas that the last text rests on. Condition: each says its own. -/
import Derived.Test.YtjaocmocdhckaaaGreatDoorZRu5
set_option maxHeartbeats 16000000
set_option maxRecDepth 100000
namespace Go.Proofs.YtjaocmocdhckaaaGreatDoor
open Go.RowKit
open Tryz
def GC (k : List UInt8) (seen : List (List UInt8)) : Bool := CP k && !(decide (k ∈ seen))
def Fresh (w : World) (g3 g6 : Nat) (seen : List (List UInt8)) : Prop := Blk w g3 86 [.map (some g6)] ∧ ¬ g3 = g6 ∧ ∃ L, Mp w g6 L ∧ ∀ k, (CQ L k).getD (.bool false) = .bool (decide (k ∈ seen))
theorem OU {L : List (List UInt8 × Value)} {seen : List (List UInt8)} {k : List UInt8} (hL : ∀ k, (CQ L k).getD (.bool false) = .bool (decide (k ∈ seen))) : ∀ k', (CQ (DJ L k (.bool true)) k').getD (.bool false) = .bool (decide (k' ∈ k :: seen)) := fun k' => by
 rw [G2]
 by_cases h : k' = k
 ·rw [if_pos h]; simp [h]
 ·rw [if_neg h, hL]; simp [h]
theorem gD {w : World} {g : Nat} {L : List (List UInt8 × Value)} (h : Mp w g L) : g < w.heap.size := by
 obtain ⟨es, cl, h1, _⟩ := h
 exact (Array.getElem?_eq_some_iff.1 h1).1
theorem Mem.cellMp {w : World} {g3 g6 t : Nat} {cs : List Value} {L : List (List UInt8 × Value)} (hc : Blk w g3 t cs) (hm : Mp w g6 L) (hne : ¬ g3 = g6) : Mem w (fun k => k = g3 ∨ k = g6) [As.blk g3 t cs, As.mp g6 L] w where
 fr := Fr.refl
 ok i a hi := by
  match i with
  | 0 => simp only [List.getElem?_cons_zero, Option.some.injEq] at hi; subst hi; exact hc
  | 1 => simp only [List.getElem?_cons_succ, List.getElem?_cons_zero, Option.some.injEq] at hi; subst hi; exact hm
  | i + 2 => simp at hi
 lt i a hi g hg := by
  match i with
  | 0 =>
   simp only [List.getElem?_cons_zero, Option.some.injEq] at hi; subst hi
   simp only [As.blk, List.mem_singleton] at hg; subst hg; exact ⟨hc.lt, .inr (.inl rfl)⟩
  | 1 =>
   simp only [List.getElem?_cons_succ, List.getElem?_cons_zero, Option.some.injEq] at hi; subst hi
   simp only [As.mp, List.mem_singleton] at hg; subst hg; exact ⟨gD hm, .inr (.inr rfl)⟩
  | i + 2 => simp at hi
 apart i j a b hi hj hij g hg hg' := by
  match i, j with
  | 0, 0 => exact hij rfl
  | 1, 1 => exact hij rfl
  | 0, 1 =>
   simp only [List.getElem?_cons_succ, List.getElem?_cons_zero, Option.some.injEq] at hi hj; subst hi; subst hj
   simp only [As.blk, As.mp, List.mem_singleton] at hg hg'; exact hne (hg ▸ hg')
  | 1, 0 =>
   simp only [List.getElem?_cons_succ, List.getElem?_cons_zero, Option.some.injEq] at hi hj; subst hi; subst hj
   simp only [As.blk, As.mp, List.mem_singleton] at hg hg'; exact hne (hg' ▸ hg)
  | i + 2, _ => simp at hi
  | 0, j + 2 => simp at hj
  | 1, j + 2 => simp at hj
theorem Mem.neMp {w0 w : World} {S : Nat → Prop} {L : List As} (M : Mem w0 S L w) (i j : Nat) {a b t : Nat} {cs : List Value} {K : List (List UInt8 × Value)} (hi : L[i]? = some (As.blk a t cs)) (hj : L[j]? = some (As.mp b K)) (h : i ≠ j) : ¬ a = b := fun e =>
 M.apart i j _ _ hi hj h a (by simp [As.blk]) (by simp [As.mp, e])
theorem Fresh.keep {w w' : World} {g3 g6 : Nat} {seen : List (List UInt8)} (hk : ∀ g ∈ [g3, g6], g < w.heap.size → w'.heap[g]? = w.heap[g]?) (h : Fresh w g3 g6 seen) : Fresh w' g3 g6 seen := by
 obtain ⟨hc, hne, L, ⟨es, cl, h1, h2⟩, hL⟩ := h
 exact ⟨(hk g3 (by simp) hc.lt).trans hc, hne, L, ⟨es, cl, (hk g6 (by simp) (Array.getElem?_eq_some_iff.1 h1).1).trans h1, h2⟩, hL⟩
def As.fresh (g3 g6 : Nat) (seen : List (List UInt8)) : As := ⟨[g3, g6], fun w => Fresh w g3 g6 seen, fun h hb => hb.keep h⟩
theorem Mem.oneFresh {w : World} {g3 g6 : Nat} {seen : List (List UInt8)} (h : Fresh w g3 g6 seen) : Mem w (fun k => k = g3 ∨ k = g6) [As.fresh g3 g6 seen] w where
 fr := Fr.refl
 ok i a hi := by
  cases i with
  | zero => simp only [List.getElem?_cons_zero, Option.some.injEq] at hi; subst hi; exact h
  | succ i => simp at hi
 lt i a hi g hg := by
  cases i with
  | zero =>
   simp only [List.getElem?_cons_zero, Option.some.injEq] at hi; subst hi
   obtain ⟨hc, _, L, hm, _⟩ := h
   simp only [As.fresh, List.mem_cons, List.not_mem_nil, or_false] at hg
   rcases hg with rfl | rfl
   ·exact ⟨hc.lt, .inr (.inl rfl)⟩
   ·exact ⟨gD hm, .inr (.inr rfl)⟩
  | succ i => simp at hi
 apart i j a b hi hj hij := by
  cases i with
  | zero => cases j with
   | zero => exact absurd rfl hij
   | succ j => simp at hj
  | succ i => simp at hi
theorem Mem.updFresh {w0 w w' : World} {S : Nat → Prop} {L : List As} (M : Mem w0 S L w) (i : Nat) {g3 g6 : Nat} {seen seen' : List (List UInt8)} (hi : L[i]? = some (As.fresh g3 g6 seen)) (hF : Fresh w' g3 g6 seen') (hf : Fr (fun k => k = g3 ∨ k = g6) w w') : Mem w0 S (L.set i (As.fresh g3 g6 seen')) w' :=
 M.upd i hi (hf.mono fun k _ e => by simpa [As.fresh] using e) (As.fresh g3 g6 seen') hF (fun g' hg' => .inl hg')
def TK (k : Nat) : Prop := ∃ p ∈ utfL, p.1 = k
theorem LL {S : Nat → Prop} {w w' : World} (h : Laid w utfL) (hf : Fr S w w') (hS : ∀ k, S k → ¬ TK k) : Laid w' utfL := fun p hp => by
 obtain ⟨el, fz, h1⟩ := h p hp
 exact ⟨el, fz, (hf.block _ (Array.getElem?_eq_some_iff.1 h1).1 (fun hh => hS _ hh ⟨p, hp, rfl⟩)).trans h1⟩
theorem GV : (prog.info? 86).map (·.size) = some 1 := by kernel_rfl
theorem NE : (prog.info? 4).map (·.zero) = some (some (.bool false)) := by kernel_rfl
theorem GU : (prog.info? 86).map (·.zero) = some (some (.map none)) := by kernel_rfl
theorem OW (g3 g6 : Nat) (seen : List (List UInt8)) (k : List UInt8) (w : World) (hk : (k.length : Int) < 4611686018427387904) (hF : Fresh w g3 g6 seen) :
 Calls prog 128 #[str k, pg g3] w fun e w' => e = .returned (.bool (GC k seen)) ∧ Fresh w' g3 g6 (k :: seen) ∧ Fr (fun k => k = g3 ∨ k = g6) w w' := by
 obtain ⟨hc, hne, L, hm, hL⟩ := hF
 refine BC (vs := [_, _]) func128 rfl ntmps128 rfl ?_
 have M : Mem w (fun k => k = g3 ∨ k = g6) [As.blk g3 86 [.map (some g6)], As.mp g6 L] w := Mem.cellMp hc hm hne
 refine AD (AB (yb rfl (AC (AA (AD (AB (yb rfl (D1 M 6 rfl rfl call67 (EE _ _ (by first | assumption | omega)) fun w1 M => yb rfl (DF 5 [(0, str k), (1, pg g3), (12, .bool ((CP k) && (!(decide (k ∈ seen)))))] (fun w' => Mem w (fun k => k = g3 ∨ k = g6) [As.blk g3 86 [.map (some g6)], As.mp g6 L] w') ?_ (fun k7 => ?_))))))))))
 ·intro w2 M
  refine yb rfl (nq (srg (BA M 0 rfl rfl rfl (yb rfl (FS M 1 (AF rfl) rfl rfl rfl rfl rfl underlying86 underlying9 rfl fun w3 M => nq (srg (yb rfl (yb rfl (AC ?_)))))))))
  exact AA (AI (gr1 rfl ⟨rfl, ⟨M.blk 0 rfl, hne, _, M.mp 1 rfl, OU hL⟩, M.fr⟩))
 refine AP (d := 7) rfl (fun h7 => ?_) (fun h7 => ?_)
 ·exact CH M 0 rfl rfl rfl (gyq rfl (yd rfl (BP rfl rfl rfl underlying86 underlying9 NE (M.mp 1 rfl) (hL _)) (gyq rfl (yb rfl (k7 _ _ M ⟨rfl, rfl, (by rw [h7]; rfl), trivial⟩)))))
 ·iterate 4 refine yo rfl ?_
  exact yb rfl (k7 _ _ M ⟨rfl, rfl, (by rw [h7]; rfl), trivial⟩)
theorem SP (A : Option Addr) (c : Nat) (tk : List (List UInt8)) (w : World) (hl : tk.length ≤ 4611686018427387904) (hR : Rd w A (tk.length * 1) (AK BW tk)) :
 Calls prog 73 #[.slice A tk.length c] w fun e w' => ∃ g3 g6, e = .returned (.func (.func 128) #[] #[pg g3]) ∧ Fresh w' g3 g6 tk.reverse ∧ (∀ k ∈ [g3, g6], w.heap.size ≤ k ∧ k < w'.heap.size) ∧ Fr0 w w' := by
 refine C2 func73 ntmps73 rfl fun M => srg (yb rfl (nq (srg (I3 M (AF rfl) rfl rfl rfl fun g6 w1 hg6 M => DG M (AF rfl) rfl rfl 86 rfl [.map none] GU rfl fun g3 w2 hg3 M => gp1 M 0 rfl rfl rfl GV fun w3 M => nq ?_))))
 refine AD (srg (yb rfl (ya rfl (C7 rfl rfl (sl rfl)) (yb rfl (nq (AR (flp [8, 7, 3] (fun ze e wr mz => ∃ (i : Nat) (L : List (List UInt8 × Value)), e = (9, .int .i64 ((i : Nat) : Int)) :: ze ∧ Mem w AV [As.blk g3 86 [.map (some g6)], As.mp g6 L] wr ∧ (i ≤ tk.length) ∧ (∀ k, (CQ L k).getD (.bool false) = .bool (decide (k ∈ (tk.take i).reverse))) ∧ mz = tk.length - i) ⟨0, [], rfl, M, Nat.zero_le _, fun _ => rfl, rfl⟩ ?_)))))))
 rintro _ w4 _ ⟨i, L, rfl, M, hi, hL, rfl⟩
 refine AD (AB (CB rfl rfl (AC (AA (AD (AN rfl (fun h10 => ?_) (fun h10 => ?_)))))))
 ·have h10p := (odt h10)
  refine AL (AA (AD (AR (srg ?_))))
  obtain ⟨x, hx⟩ := CA (l := tk) (i := i) AO
  obtain ⟨b_x, o_x, hA_x⟩ := BI (k := 1) AO (hR.fr0 M.fr) hx
  refine ya rfl (B1 i hA_x rfl rfl rfl (sl rfl) AO) (yl rfl rfl (DO DU (hR.fr0 M.fr) hA_x hx 0 rfl) (yb rfl (nq (AB (BA M 0 rfl rfl rfl (yb rfl (FS M 1 (AF rfl) rfl rfl rfl rfl rfl underlying86 underlying9 rfl fun w5 M => AC (AH (AA (AB (ya rfl (BF rfl rfl rfl AO) (yb rfl ?_))))))))))))
  refine AC (fag ⟨i + 1, DJ L x (.bool true), rfl, M, ?_, ?_, rfl⟩)
  ·omega
  ·rw [B2 hx, List.reverse_append]
   exact OU hL
 ·have h10p := (odf h10)
  refine BG (AJ (AJ ?_))
  have hiE : i = tk.length := by omega
  rw [hiE, List.take_length] at hL
  refine AY (AA (srg (ya rfl (D9 (us := []) (vs := [pg g3]) rfl rfl rfl) (yb rfl (nq (AI (gr1 rfl ?_)))))))
  exact ⟨_, _, rfl, ⟨M.blk 0 rfl, M.neMp 0 1 rfl rfl BR, _, M.mp 1 rfl, hL⟩, (fun k hk => by
   rcases List.mem_cons.1 hk with rfl | hk
   ·exact M.new0 0 rfl k (by simp [As.blk])
   ·obtain rfl : k = _ := by simpa using hk
    exact M.new0 1 rfl _ (by simp [As.mp])), M.fr⟩
theorem m1 (g3 g6 g5 : Nat) (seen : List (List UInt8)) (x : Bd) (w : World) (hx0 : ((x.name).length : Int) < 4611686018427387904) (hx1 : ((x.v.text).length : Int) < 4611686018427387904) (hT : Laid w utfL) (hTn : ∀ k, (fun k => k = g3 ∨ k = g6) k → ¬ TK k) (hF : Fresh w g3 g6 seen) (hn5 : ¬ (g5 = g3 ∨ g5 = g6)) (hb5 : Blk w g5 89 [.func (.func 128) #[] #[pg g3]]) :
 Calls prog 76 #[.agg x.cells.toArray, pg g5] w fun e w' => e = .returned (.bool (GC x.name seen && decide (chk x.v = (0 : Int)))) ∧ Fresh w' g3 g6 (x.name :: seen) ∧ Fr (fun k => k = g3 ∨ k = g6) w w' := by
 refine BC (vs := [_, _]) func76 rfl ntmps76 rfl ?_
 have M : Mem w (fun k => k = g3 ∨ k = g6) [As.fresh g3 g6 seen] w := Mem.oneFresh hF
 refine srg (CN M rfl rfl fun g2 w1 hg2 M => yb rfl (nq (srg (yl rfl rfl (Blk.c (hb5.fr M.fr hn5) 0 rfl) (yb rfl (BA M 0 rfl rfl rfl (cl 7 rfl (BV rfl rfl rfl call128) (OW g3 g6 seen x.name _ hx0 (M.ok 1 _ rfl)) ?_)))))))
 rintro _ w2 ⟨rfl, hFw2, hfw2⟩
 have M := M.updFresh 1 rfl hFw2 hfw2
 refine ⟨_, rfl, yb rfl (DF 5 [(3, .bool false), (13, .bool ((GC x.name seen) && (decide ((chk (⟨x.v.kind, x.v.int, x.v.bool, x.v.text⟩ : Vl)) = (0 : Int)))))] (fun w' => Mem w (fun k => k = g3 ∨ k = g6) [As.blk g2 47 (Bd.cells x), As.fresh g3 g6 (x.name :: seen)] w') ?_ (fun k8 => ?_))⟩
 ·intro w3 M
  exact yb rfl (nq (AI (gr1 rfl ⟨rfl, M.ok 1 _ rfl, M.fr⟩)))
 refine AP (d := 8) rfl (fun h8 => ?_) (fun h8 => ?_)
 ·refine gyq rfl (yd rfl (AT (xs := [.int .u8 (x.v.kind.toNat : Int), .int .i64 x.v.int, .bool x.v.bool, str x.v.text]) rfl rfl (FU (M.blk 0 rfl) 1 4 rfl rfl) underlying45 rfl AG) (B0 (some 11) (BD rfl rfl rfl) rfl rfl (AQ rfl rfl call65) (FH (⟨x.v.kind, x.v.int, x.v.bool, x.v.text⟩ : Vl) _ hx1 (LL hT M.fr hTn)) ?_))
  rintro _ w4 ⟨rfl, hfw4⟩
  refine ⟨_, rfl, ?_⟩
  have M := M.step hfw4
  exact yd rfl (C3 rfl rfl rfl) (yb rfl (k8 _ _ M ⟨rfl, (by rw [h8]; rfl), trivial⟩))
 ·iterate 4 refine yo rfl ?_
  exact yb rfl (k8 _ _ M ⟨rfl, (by rw [h8]; rfl), trivial⟩)
theorem lZ (g3 g6 g5 : Nat) (seen : List (List UInt8)) (x : El) (w : World) (hx0 : ((x.id).length : Int) < 4611686018427387904) (hx1 : ((x.nm).length : Int) < 4611686018427387904) (hT : Laid w utfL) (hTn : ∀ k, (fun k => k = g3 ∨ k = g6) k → ¬ TK k) (hF : Fresh w g3 g6 seen) (hn5 : ¬ (g5 = g3 ∨ g5 = g6)) (hb5 : Blk w g5 89 [.func (.func 128) #[] #[pg g3]]) :
 Calls prog 79 #[.agg x.cells.toArray, pg g5] w fun e w' => e = .returned (.bool (GC x.id seen && QJ x.nm)) ∧ Fresh w' g3 g6 (x.id :: seen) ∧ Fr (fun k => k = g3 ∨ k = g6) w w' := by
 refine BC (vs := [_, _]) func79 rfl ntmps79 rfl ?_
 have M : Mem w (fun k => k = g3 ∨ k = g6) [As.fresh g3 g6 seen] w := Mem.oneFresh hF
 refine srg (CN M rfl rfl fun g2 w1 hg2 M => yb rfl (nq (srg (yl rfl rfl (Blk.c (hb5.fr M.fr hn5) 0 rfl) (yb rfl (BA M 0 rfl rfl rfl (cl 7 rfl (BV rfl rfl rfl call128) (OW g3 g6 seen x.id _ hx0 (M.ok 1 _ rfl)) ?_)))))))
 rintro _ w2 ⟨rfl, hFw2, hfw2⟩
 have M := M.updFresh 1 rfl hFw2 hfw2
 refine ⟨_, rfl, yb rfl (DF 4 [(3, .bool false), (12, .bool ((GC x.id seen) && (QJ x.nm)))] (fun w' => Mem w (fun k => k = g3 ∨ k = g6) [As.blk g2 69 (El.cells x), As.fresh g3 g6 (x.id :: seen)] w') ?_ (fun k8 => ?_))⟩
 ·intro w3 M
  exact yb rfl (nq (AI (gr1 rfl ⟨rfl, M.ok 1 _ rfl, M.fr⟩)))
 refine AP (d := 8) rfl (fun h8 => ?_) (fun h8 => ?_)
 ·refine gyq rfl (CH M 0 rfl rfl rfl (B0 (some 11) (BD rfl rfl rfl) rfl rfl (AQ rfl rfl call72) (YL _ _ hx1 (LL hT M.fr hTn)) ?_))
  rintro _ w4 ⟨rfl, hfw4⟩
  refine ⟨_, rfl, ?_⟩
  have M := M.step hfw4
  exact yb rfl (k8 _ _ M ⟨rfl, (by rw [h8]; rfl), trivial⟩)
 ·exact yo rfl (yo rfl (yo rfl (yb rfl (k8 _ _ M ⟨rfl, (by rw [h8]; rfl), trivial⟩))))
theorem lY (g3 g6 g5 : Nat) (seen : List (List UInt8)) (x : Fl) (w : World) (hx0 : ((x.id).length : Int) < 4611686018427387904) (_hT : Laid w utfL) (_hTn : ∀ k, (fun k => k = g3 ∨ k = g6) k → ¬ TK k) (hF : Fresh w g3 g6 seen) (hn5 : ¬ (g5 = g3 ∨ g5 = g6)) (hb5 : Blk w g5 89 [.func (.func 128) #[] #[pg g3]]) :
 Calls prog 82 #[.agg x.cells.toArray, pg g5] w fun e w' => e = .returned (.bool (GC x.id seen)) ∧ Fresh w' g3 g6 (x.id :: seen) ∧ Fr (fun k => k = g3 ∨ k = g6) w w' := by
 refine BC (vs := [_, _]) func82 rfl ntmps82 rfl ?_
 have M : Mem w (fun k => k = g3 ∨ k = g6) [As.fresh g3 g6 seen] w := Mem.oneFresh hF
 refine srg (CN M rfl rfl fun g2 w1 hg2 M => yb rfl (nq (srg (yl rfl rfl (Blk.c (hb5.fr M.fr hn5) 0 rfl) (yb rfl (BA M 0 rfl rfl rfl (cl 7 rfl (BV rfl rfl rfl call128) (OW g3 g6 seen x.id _ hx0 (M.ok 1 _ rfl)) ?_)))))))
 rintro _ w2 ⟨rfl, hFw2, hfw2⟩
 have M := M.updFresh 1 rfl hFw2 hfw2
 exact ⟨_, rfl, yb rfl (nq (AI (gr1 rfl ⟨rfl, M.ok 1 _ rfl, M.fr⟩)))⟩
section
def FM {α : Type} (f : α → List UInt8) (base : List (List UInt8)) (l : List α) (i : Nat) : List (List UInt8) := ((l.take i).map f).reverse ++ base
theorem MZ {α : Type} {f : α → List UInt8} {base : List (List UInt8)} {l : List α} {i : Nat} {x : α} (hx : l[i]? = some x) : FM f base l (i + 1) = f x :: FM f base l i := by
 unfold FM
 rw [B2 hx, List.map_append, List.reverse_append]; rfl
def pV (m : Md) (i : Nat) (x : Bd) : Bool := GC x.name (FM (fun x => x.name) [] m.vars i) && decide (chk x.v = (0 : Int))
def pE (m : Md) (i : Nat) (x : El) : Bool := GC x.id (FM (fun x => x.id) [m.id] m.els i) && QJ x.nm
def pF (m : Md) (i : Nat) (x : Fl) : Bool := GC x.id (FM (fun x => x.id) (FM (fun x => x.id) [m.id] m.els m.els.length) m.fls i)
def TY (m : Md) : Bool := (((((!(CP m.id)) || (!(QJ m.nm))) || (decide ((64 : Int) < ((m.els.length : Nat) : Int)))) || (decide ((128 : Int) < ((m.fls.length : Nat) : Int)))) || (decide ((16 : Int) < ((m.vars.length : Nat) : Int))))
def HL (m : Md) : Option (List UInt8) := if TY m = true then some [] else match ffN (pV m) 0 m.vars with
 | some b => some b.name
 | none => match ffN (pE m) 0 m.els with
  | some b => some b.id
  | none => (ffN (pF m) 0 m.fls).map (·.id)
section
variable {m : Md} (h : TY m = false)
include h
theorem qH (h1 : (ffN (pV m) 0 m.vars).isSome = true) : Value.tuple #[str ((ffN (pV m) 0 m.vars).elim [] (fun x => x.name)), .bool true] = JJ (HL m) := by
 unfold HL
 rw [if_neg (AS h)]
 cases hq : ffN (pV m) 0 m.vars with
 | none => rw [hq] at h1; cases h1
 | some b => rfl
theorem qJ (h1 : (ffN (pV m) 0 m.vars).isSome = false) (h2 : (ffN (pE m) 0 m.els).isSome = true) : Value.tuple #[str ((ffN (pE m) 0 m.els).elim [] (fun x => x.id)), .bool true] = JJ (HL m) := by
 unfold HL
 rw [if_neg (AS h)]
 cases hq : ffN (pV m) 0 m.vars with
 | some b => rw [hq] at h1; cases h1
 | none =>
  cases hr : ffN (pE m) 0 m.els with
  | none => rw [hr] at h2; cases h2
  | some b => rfl
theorem qI (h1 : (ffN (pV m) 0 m.vars).isSome = false) (h2 : (ffN (pE m) 0 m.els).isSome = false) : Value.tuple #[str ((ffN (pF m) 0 m.fls).elim [] (fun x => x.id)), .bool (ffN (pF m) 0 m.fls).isSome] = JJ (HL m) := by
 unfold HL
 rw [if_neg (AS h)]
 cases hq : ffN (pV m) 0 m.vars with
 | some b => rw [hq] at h1; cases h1
 | none =>
  cases hr : ffN (pE m) 0 m.els with
  | some b => rw [hr] at h2; cases h2
  | none => cases ffN (pF m) 0 m.fls <;> rfl
end
theorem Z6 {α : Type} {p : Nat → α → Bool} : ∀ (l : List α) (i : Nat), ffN p i l = none → ixN (fun i x => !(p i x)) i l = i + l.length
 | [], _, _ => rfl
 | x :: r, i, h => by
  rw [ffN] at h
  by_cases hp : p i x = true
  ·rw [if_pos hp] at h
   rw [ixN, if_neg (by simp [hp]), Z6 r (i + 1) h, List.length_cons]; omega
  ·rw [if_neg hp] at h; cases h
theorem mK {α : Type} {p : Nat → α → Bool} {l : List α} (h : (ffN p 0 l).isSome = false) : ixN (fun i x => !(p i x)) 0 l = l.length := by
 have : ffN p 0 l = none := by
  cases hq : ffN p 0 l with
  | none => rfl
  | some x => rw [hq] at h; cases h
 rw [Z6 l 0 this, Nat.zero_add]
theorem C6 {w wc w9 : World} {S : Nat → Prop} (hf : Fr0 w wc) (h9 : Fr S wc w9) (hS : ∀ k, S k → w.heap.size ≤ k) : Fr0 w w9 :=
 ⟨h9.os.trans hf.os, h9.tape.trans hf.tape, h9.output.trans hf.output, Nat.le_trans hf.size h9.size, fun k hk _ => (h9.block k (Nat.lt_of_lt_of_le hk hf.size) (fun hh => by have := hS k hh; omega)).trans (hf.block k hk (fun hh => hh))⟩
theorem kW {k : Nat} (h : TK k) : k < nGlob := by
 have hn := VQ
 simp only [Bool.and_eq_true] at hn
 obtain ⟨n1, n2, _, _⟩ := hn
 obtain ⟨p, hp, rfl⟩ := h
 simp only [utfL, List.mem_cons, List.not_mem_nil, or_false] at hp
 rcases hp with rfl | rfl
 ·exact CJ n1
 ·exact CJ n2
theorem Mem.newF {w0 w : World} {L : List As} (M : Mem w0 AV L w) (i : Nat) {g3 g6 : Nat} {seen : List (List UInt8)} (hi : L[i]? = some (As.fresh g3 g6 seen)) : ∀ k, (k = g3 ∨ k = g6) → w0.heap.size ≤ k := fun k hk =>
 (M.new0 i hi k (by simpa [As.fresh] using hk)).1
theorem Mem.noU {w0 w : World} {L : List As} (M : Mem w0 AV L w) (i : Nat) {g3 g6 : Nat} {seen : List (List UInt8)} (hi : L[i]? = some (As.fresh g3 g6 seen)) (hY : Lay0 w0) : ∀ k, (k = g3 ∨ k = g6) → ¬ TK k := fun k hk hu => by
 have h1 := M.newF i hi k hk
 have h2 : nGlob ≤ w0.heap.size := hY.size
 have h3 := kW hu
 omega
theorem Mem.neFresh {w0 w : World} {S : Nat → Prop} {L : List As} (M : Mem w0 S L w) (i j : Nat) {g t g3 g6 : Nat} {cs : List Value} {seen : List (List UInt8)} (hi : L[i]? = some (As.blk g t cs)) (hj : L[j]? = some (As.fresh g3 g6 seen)) (h : i ≠ j) : ¬ (g = g3 ∨ g = g6) := fun hh =>
 M.apart i j _ _ hi hj h g (by simp [As.blk]) (by simpa [As.fresh] using hh)
section
variable {g3 g6 g5 : Nat} {base : List (List UInt8)} {w : World}
theorem OV (hF : Fresh w g3 g6 base) : ∀ g, (g = g3 ∨ g = g6) → g < w.heap.size := fun g hg => by
 obtain ⟨h1, _, L, h2, _⟩ := hF
 rcases hg with rfl | rfl
 ·exact h1.lt
 ·exact gD h2
theorem fI {l : List Bd} (hok : BdOk l) (hT : Laid w utfL) (hF : Fresh w g3 g6 base) (hnu : ∀ k, (k = g3 ∨ k = g6) → ¬ TK k) (hn5 : ¬ (g5 = g3 ∨ g5 = g6)) (hb5 : Blk w g5 89 [.func (.func 128) #[] #[pg g3]]) :
 PredJ prog 76 [pg g5] (fun x : Bd => .agg x.cells.toArray) l (fun i x => GC x.name (FM (fun x => x.name) base l i) && decide (chk x.v = (0 : Int))) (fun k => k = g3 ∨ k = g6) (fun i W => Fresh W g3 g6 (FM (fun x => x.name) base l i)) w where
 fn := call76
 call i x w1 hx hf hJ := by
  have hm := List.mem_of_getElem? hx
  have h := m1 g3 g6 g5 (FM (fun x => x.name) base l i) x w1 (hok.name x hm) (hok.text x hm) (LL hT hf hnu) hnu hJ hn5 (hb5.fr hf hn5)
  rw [← MZ (f := fun x : Bd => x.name) (base := base) hx] at h
  exact h
 st i w1 w2 hf hJ := hJ.keep (fun g _ hg => hf.block g hg (fun hh => hh))
 old := OV hF
theorem fH {l : List El} (hok : ∀ x ∈ l, ElOk x) (hT : Laid w utfL) (hF : Fresh w g3 g6 base) (hnu : ∀ k, (k = g3 ∨ k = g6) → ¬ TK k) (hn5 : ¬ (g5 = g3 ∨ g5 = g6)) (hb5 : Blk w g5 89 [.func (.func 128) #[] #[pg g3]]) :
 PredJ prog 79 [pg g5] (fun x : El => .agg x.cells.toArray) l (fun i x => GC x.id (FM (fun x => x.id) base l i) && QJ x.nm) (fun k => k = g3 ∨ k = g6) (fun i W => Fresh W g3 g6 (FM (fun x => x.id) base l i)) w where
 fn := call79
 call i x w1 hx hf hJ := by
  have hm := List.mem_of_getElem? hx
  have h := lZ g3 g6 g5 (FM (fun x => x.id) base l i) x w1 (hok x hm).id (hok x hm).nm (LL hT hf hnu) hnu hJ hn5 (hb5.fr hf hn5)
  rw [← MZ (f := fun x : El => x.id) (base := base) hx] at h
  exact h
 st i w1 w2 hf hJ := hJ.keep (fun g _ hg => hf.block g hg (fun hh => hh))
 old := OV hF
theorem fG {l : List Fl} (hok : ∀ x ∈ l, FlOk x) (hT : Laid w utfL) (hF : Fresh w g3 g6 base) (hnu : ∀ k, (k = g3 ∨ k = g6) → ¬ TK k) (hn5 : ¬ (g5 = g3 ∨ g5 = g6)) (hb5 : Blk w g5 89 [.func (.func 128) #[] #[pg g3]]) :
 PredJ prog 82 [pg g5] (fun x : Fl => .agg x.cells.toArray) l (fun i x => GC x.id (FM (fun x => x.id) base l i)) (fun k => k = g3 ∨ k = g6) (fun i W => Fresh W g3 g6 (FM (fun x => x.id) base l i)) w where
 fn := call82
 call i x w1 hx hf hJ := by
  have hm := List.mem_of_getElem? hx
  have h := lY g3 g6 g5 (FM (fun x => x.id) base l i) x w1 (hok x hm).id (LL hT hf hnu) hnu hJ hn5 (hb5.fr hf hn5)
  rw [← MZ (f := fun x : Fl => x.id) (base := base) hx] at h
  exact h
 st i w1 w2 hf hJ := hJ.keep (fun g _ hg => hf.block g hg (fun hh => hh))
 old := OV hF
end
theorem GN : (prog.info? 89).map (·.size) = some 1 := by kernel_rfl
theorem zr_api_Model : (prog.info? 26).map (·.zero) = some (some (.agg #[str [], str [], .slice none 0 0, .slice none 0 0, .slice none 0 0])) := by kernel_rfl
theorem GJ : (prog.info? 89).map (·.zero) = some (some (.nilFunc)) := by kernel_rfl
theorem lX (m : Md) (a : MdA) (ix : IxA) (gx : Nat) (w : World) (ho : MdOk m) (hx : IxAt w m a ix gx) (hY : Lay0 w) :
 Calls prog 36 #[pg gx] w fun e w' => e = .returned (JJ (HL m)) ∧ Fr0 w w' := by
 refine C2 func36 ntmps36 rfl fun M => srg (yb rfl (yb rfl (nq (srg (yb rfl (yb rfl (yb rfl (ya rfl (AT (xs := [str m.id, str m.nm, .slice a.V m.vars.length a.vc, .slice a.E m.els.length a.ec, .slice a.F m.fls.length a.fc]) rfl rfl (FU ((hx.fr0 M.fr).blk) 0 5 rfl rfl) underlying26 rfl BX) (D6 M rfl zr_api_Model fun g4 w1 hg4 M => C1 M 0 rfl rfl BX rfl ?_)))))))))
 intro w2 M
 refine AC (AA (AD (AD (AB (yb rfl (BA M 0 rfl rfl rfl (D1 M 17 rfl rfl call67 (EE _ _ ho.id) fun w3 M => yb rfl (yb rfl (fvm M 5 [4] [(24, .bool ((!(CP m.id)) || (!(QJ m.nm))))] ?_ (fun k19 => ?_))))))))))
 ·intro w4 M
  refine yb rfl (fvm M 5 [4] [(30, .bool (((!(CP m.id)) || (!(QJ m.nm))) || (decide ((64 : Int) < ((m.els.length : Nat) : Int)))))] ?_ (fun k25 => ?_))
  ·intro w5 M
   refine yb rfl (fvm M 5 [4] [(36, .bool ((((!(CP m.id)) || (!(QJ m.nm))) || (decide ((64 : Int) < ((m.els.length : Nat) : Int)))) || (decide ((128 : Int) < ((m.fls.length : Nat) : Int)))))] ?_ (fun k31 => ?_))
   ·intro w6 M
    refine yb rfl (fvm M 5 [4] [(42, .bool (((((!(CP m.id)) || (!(QJ m.nm))) || (decide ((64 : Int) < ((m.els.length : Nat) : Int)))) || (decide ((128 : Int) < ((m.fls.length : Nat) : Int)))) || (decide ((16 : Int) < ((m.vars.length : Nat) : Int)))))] ?_ (fun k37 => ?_))
    ·intro w7 M
     refine AC (AA (AN rfl (fun h42 => ?_) (fun h42 => ?_)))
     ·have h42p := ((EJ h42).imp (fun z => ((EJ z).imp (fun z => ((EJ z).imp (fun z => ((EJ z).imp (fun z => (CE z)) (fun z => (CE z)))) (fun z => (odt z)))) (fun z => (odt z)))) (fun z => (odt z)))
      exact srg (yb rfl (yb rfl (nq (AI (AE (CD rfl rfl rfl ⟨by rw [show HL m = some [] from if_pos h42]; rfl, M.fr⟩))))))
     ·have h42p := (And.intro (And.intro (And.intro (And.intro (BM (CL (CL (CL (CL h42).1).1).1).1) (BM (CL (CL (CL (CL h42).1).1).1).2)) (odf (CL (CL (CL h42).1).1).2)) (odf (CL (CL h42).1).2)) (odf (CL h42).2))
      refine AL (AA (srg (cl 43 rfl (AQ rfl rfl call73) (SP none 0 [] _ (Nat.zero_le _) Rd.nil) ?_)))
      rintro _ w8 ⟨ga43, gb43, rfl, hfr, hnw, hfw8⟩
      refine ⟨_, rfl, ?_⟩
      have M := M.push hfw8 (As.fresh ga43 gb43 []) hfr hnw
      refine DG M (AF rfl) rfl rfl 89 rfl [.nilFunc] GJ rfl fun g5 w9 hg5 M => CV (cs' := [.func (.func 128) #[] #[pg ga43]]) M 0 (AF rfl) rfl rfl rfl rfl rfl rfl rfl GN (CJ rfl) rfl fun w10 M => nq (AD (srg (yb rfl (BA M 2 rfl rfl rfl (ya rfl (D9 (us := []) (vs := [pg g5]) rfl rfl rfl) ?_)))))
      have hnU48 := M.noU 1 rfl hY
      have hnw48 : ∀ k, (k = ga43 ∨ k = gb43) → w.heap.size ≤ k := M.newF 1 rfl
      refine cl 48 rfl (AQ rfl rfl call74) (iM a.V a.vc m.vars (by have := ho.nvars; have := ho.nels; have := ho.nfls; omega) 76 [pg g5] (pV m) (fun k => k = ga43 ∨ k = gb43) (fun i W => Fresh W ga43 gb43 (FM (fun x : Bd => x.name) [] m.vars i)) _ (fI ho.vars (G9 hY.utf M.fr) (M.ok 1 _ rfl) hnU48 (M.neFresh 0 1 rfl rfl BR) (M.blk 0 rfl)) (fun w9 hf9 => hx.md.vars.fr0 (C6 M.fr hf9 hnw48)) (M.ok 1 _ rfl)) ?_
      rintro _ w11 ⟨rfl, hJw11, hfw11⟩
      have M := M.updFresh 1 rfl hJw11 hfw11
      refine ⟨_, rfl, ?_⟩
      iterate 5 refine yb rfl ?_
      refine AC (AA (AD (AB (yb rfl (AC (AA (AN rfl (fun h51 => ?_) (fun h51 => ?_))))))))
      ·exact srg (yb rfl (yb rfl (yb rfl (nq (AI (AE (CD rfl rfl rfl ⟨congrArg Ending.returned (qH h42 h51), M.fr⟩)))))))
      ·refine AL (AA (srg (yb rfl (BA M 2 rfl rfl rfl (DA M (AF rfl) rfl rfl [str m.id] ([str m.id]) rfl rfl rfl rfl underlying36 CW rfl rfl (GX rfl) rfl fun g55 w12 hg55 M => cl 56 rfl (AQ rfl rfl call73) (SP (some ⟨g55, 0, none⟩) 1 [m.id] _ (BO rfl) (M.rdBlk 0 rfl rfl)) ?_)))))
       rintro _ w13 ⟨ga56, gb56, rfl, hfr, hnw, hfw13⟩
       refine ⟨_, rfl, ?_⟩
       have M := M.push hfw13 (As.fresh ga56 gb56 [m.id]) hfr hnw
       refine DG M (AF rfl) rfl rfl 89 rfl [.nilFunc] GJ rfl fun g8 w14 hg8 M => CV (cs' := [.func (.func 128) #[] #[pg ga56]]) M 0 (AF rfl) rfl rfl rfl rfl rfl rfl rfl GN (CJ rfl) rfl fun w15 M => nq (AD (srg (yb rfl (BA M 5 rfl rfl rfl (ya rfl (D9 (us := []) (vs := [pg g8]) rfl rfl rfl) ?_)))))
       have hnU61 := M.noU 1 rfl hY
       have hnw61 : ∀ k, (k = ga56 ∨ k = gb56) → w.heap.size ≤ k := M.newF 1 rfl
       refine cl 61 rfl (AQ rfl rfl call77) (W6 a.E a.ec m.els (by have := ho.nvars; have := ho.nels; have := ho.nfls; omega) 79 [pg g8] (pE m) (fun k => k = ga56 ∨ k = gb56) (fun i W => Fresh W ga56 gb56 (FM (fun x : El => x.id) [m.id] m.els i)) _ (fH ho.els (G9 hY.utf M.fr) (M.ok 1 _ rfl) hnU61 (M.neFresh 0 1 rfl rfl BR) (M.blk 0 rfl)) (fun w9 hf9 => hx.md.els.fr0 (C6 M.fr hf9 hnw61)) (M.ok 1 _ rfl)) ?_
       rintro _ w16 ⟨rfl, hJw16, hfw16⟩
       have M := M.updFresh 1 rfl hJw16 hfw16
       refine ⟨_, rfl, ?_⟩
       iterate 5 refine yb rfl ?_
       refine AC (AA (AD (AB (yb rfl (AC (AA (AN rfl (fun h64 => ?_) (fun h64 => ?_))))))))
       ·exact srg (yb rfl (yb rfl (yb rfl (nq (AI (AE (CD rfl rfl rfl ⟨congrArg Ending.returned (qJ h42 h51 h64), M.fr⟩)))))))
       ·rw [mK h64] at M
        refine AL (AA (srg (yb rfl (BA M 5 rfl rfl rfl (ya rfl (D9 (us := []) (vs := [pg g8]) rfl rfl rfl) ?_)))))
        have hnU69 := M.noU 1 rfl hY
        have hnw69 : ∀ k, (k = ga56 ∨ k = gb56) → w.heap.size ≤ k := M.newF 1 rfl
        refine cl 69 rfl (AQ rfl rfl call80) (W5 a.F a.fc m.fls (by have := ho.nvars; have := ho.nels; have := ho.nfls; omega) 82 [pg g8] (pF m) (fun k => k = ga56 ∨ k = gb56) (fun i W => Fresh W ga56 gb56 (FM (fun x : Fl => x.id) (FM (fun x : El => x.id) [m.id] m.els m.els.length) m.fls i)) _ (fG ho.fls (G9 hY.utf M.fr) (M.ok 1 _ rfl) hnU69 (M.neFresh 0 1 rfl rfl BR) (M.blk 0 rfl)) (fun w9 hf9 => hx.md.fls.fr0 (C6 M.fr hf9 hnw69)) (M.ok 1 _ rfl)) ?_
        rintro _ w17 ⟨rfl, hJw17, hfw17⟩
        have M := M.updFresh 1 rfl hJw17 hfw17
        refine ⟨_, rfl, ?_⟩
        iterate 4 refine yb rfl ?_
        exact nq (AI (CD rfl rfl rfl ⟨congrArg Ending.returned (qI h42 h51 h64), M.fr⟩))
    refine AP (d := 37) rfl (fun h37 => ?_) (fun h37 => ?_)
    ·iterate 4 refine yo rfl ?_
     exact yb rfl (k37 M ⟨rfl, (by rw [h37]; rfl), trivial⟩)
    ·exact gyq rfl (CH M 0 rfl rfl rfl (yd rfl (C7 rfl rfl (sl rfl)) (yd rfl (G6 rfl rfl rfl) (yb rfl (k37 M ⟨rfl, (by rw [h37]; rfl), trivial⟩)))))
   refine AP (d := 31) rfl (fun h31 => ?_) (fun h31 => ?_)
   ·iterate 4 refine yo rfl ?_
    exact yb rfl (k31 M ⟨rfl, (by rw [h31]; rfl), trivial⟩)
   ·exact gyq rfl (CH M 0 rfl rfl rfl (yd rfl (C7 rfl rfl (sl rfl)) (yd rfl (G6 rfl rfl rfl) (yb rfl (k31 M ⟨rfl, (by rw [h31]; rfl), trivial⟩)))))
  refine AP (d := 25) rfl (fun h25 => ?_) (fun h25 => ?_)
  ·iterate 4 refine yo rfl ?_
   exact yb rfl (k25 M ⟨rfl, (by rw [h25]; rfl), trivial⟩)
  ·exact gyq rfl (CH M 0 rfl rfl rfl (yd rfl (C7 rfl rfl (sl rfl)) (yd rfl (G6 rfl rfl rfl) (yb rfl (k25 M ⟨rfl, (by rw [h25]; rfl), trivial⟩)))))
 refine AP (d := 19) rfl (fun h19 => ?_) (fun h19 => ?_)
 ·iterate 4 refine yo rfl ?_
  exact yb rfl (k19 M ⟨rfl, (by rw [h19]; rfl), trivial⟩)
 ·refine gyq rfl (CH M 0 rfl rfl rfl (B0 (some 22) (BD rfl rfl rfl) rfl rfl (AQ rfl rfl call72) (YL _ _ ho.nm (G9 hY.utf M.fr)) ?_))
  rintro _ w18 ⟨rfl, hfw18⟩
  refine ⟨_, rfl, ?_⟩
  have M := M.step hfw18
  exact gyq rfl (yb rfl (k19 M ⟨rfl, (by rw [h19]; rfl), trivial⟩))
end
end Go.Proofs.YtjaocmocdhckaaaGreatDoor
