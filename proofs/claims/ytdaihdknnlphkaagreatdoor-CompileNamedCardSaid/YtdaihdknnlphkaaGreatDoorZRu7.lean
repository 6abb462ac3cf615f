/- Lemmas that the last text rests on. Condition: each says its own. -/
import Derived.Test.YtdaihdknnlphkaaGreatDoorZRu6
set_option maxHeartbeats 16000000
set_option maxRecDepth 100000
namespace Go.Proofs.YtdaihdknnlphkaaGreatDoor
open Go.RowKit
open Tryz
def EX {α : Type} (f : α → List UInt8) (base : List (List UInt8)) (l : List α) (i : Nat) : List (List UInt8) := ((l.take i).map f).reverse ++ base
theorem MZ {α : Type} {f : α → List UInt8} {base : List (List UInt8)} {l : List α} {i : Nat} {x : α} (hx : l[i]? = some x) : EX f base l (i + 1) = f x :: EX f base l i := by
 unfold EX
 rw [B3 hx, List.map_append, List.reverse_append]; rfl
def pV (m : Md) (i : Nat) (x : Bd) : Bool := EJ x.name (EX (fun x => x.name) [] m.vars i) && decide (chk x.v = (0 : Int))
def pE (m : Md) (i : Nat) (x : El) : Bool := EJ x.id (EX (fun x => x.id) [m.id] m.els i) && MY x.nm
def pF (m : Md) (i : Nat) (x : Fl) : Bool := EJ x.id (EX (fun x => x.id) (EX (fun x => x.id) [m.id] m.els m.els.length) m.fls i)
def N3 (m : Md) : Bool := (((((!(BL m.id)) || (!(MY m.nm))) || (decide ((64 : Int) < ((m.els.length : Nat) : Int)))) || (decide ((128 : Int) < ((m.fls.length : Nat) : Int)))) || (decide ((16 : Int) < ((m.vars.length : Nat) : Int))))
def EU (m : Md) : Option (List UInt8) := if N3 m = true then some [] else match ffN (pV m) 0 m.vars with
 | some b => some b.name
 | none => match ffN (pE m) 0 m.els with
  | some b => some b.id
  | none => (ffN (pF m) 0 m.fls).map (·.id)
section
variable {m : Md} (h : N3 m = false)
include h
theorem xM (h1 : (ffN (pV m) 0 m.vars).isSome = true) : Value.tuple #[str ((ffN (pV m) 0 m.vars).elim [] (fun x => x.name)), .bool true] = JF (EU m) := by
 unfold EU
 rw [if_neg (BE h)]
 cases hq : ffN (pV m) 0 m.vars with
 | none => rw [hq] at h1; cases h1
 | some b => rfl
theorem xO (h1 : (ffN (pV m) 0 m.vars).isSome = false) (h2 : (ffN (pE m) 0 m.els).isSome = true) : Value.tuple #[str ((ffN (pE m) 0 m.els).elim [] (fun x => x.id)), .bool true] = JF (EU m) := by
 unfold EU
 rw [if_neg (BE h)]
 cases hq : ffN (pV m) 0 m.vars with
 | some b => rw [hq] at h1; cases h1
 | none =>
  cases hr : ffN (pE m) 0 m.els with
  | none => rw [hr] at h2; cases h2
  | some b => rfl
theorem xN (h1 : (ffN (pV m) 0 m.vars).isSome = false) (h2 : (ffN (pE m) 0 m.els).isSome = false) : Value.tuple #[str ((ffN (pF m) 0 m.fls).elim [] (fun x => x.id)), .bool (ffN (pF m) 0 m.fls).isSome] = JF (EU m) := by
 unfold EU
 rw [if_neg (BE h)]
 cases hq : ffN (pV m) 0 m.vars with
 | some b => rw [hq] at h1; cases h1
 | none =>
  cases hr : ffN (pE m) 0 m.els with
  | some b => rw [hr] at h2; cases h2
  | none => cases ffN (pF m) 0 m.fls <;> rfl
end
theorem eI {α : Type} {p : Nat → α → Bool} : ∀ (l : List α) (i : Nat), ffN p i l = none → ixN (fun i x => !(p i x)) i l = i + l.length
 | [], _, _ => rfl
 | x :: r, i, h => by
  rw [ffN] at h
  by_cases hp : p i x = true
  ·rw [if_pos hp] at h
   rw [ixN, if_neg (by simp [hp]), eI r (i + 1) h, List.length_cons]; omega
  ·rw [if_neg hp] at h; cases h
theorem sM {α : Type} {p : Nat → α → Bool} {l : List α} (h : (ffN p 0 l).isSome = false) : ixN (fun i x => !(p i x)) 0 l = l.length := by
 have : ffN p 0 l = none := by
  cases hq : ffN p 0 l with
  | none => rfl
  | some x => rw [hq] at h; cases h
 rw [eI l 0 this, Nat.zero_add]
theorem D9 {w wc w9 : World} {S : Nat → Prop} (hf : Fr0 w wc) (h9 : Fr S wc w9) (hS : ∀ k, S k → w.heap.size ≤ k) : Fr0 w w9 :=
 ⟨h9.os.trans hf.os, h9.tape.trans hf.tape, h9.output.trans hf.output, Nat.le_trans hf.size h9.size, fun k hk _ => (h9.block k (Nat.lt_of_lt_of_le hk hf.size) (fun hh => by have := hS k hh; omega)).trans (hf.block k hk (fun hh => hh))⟩
theorem qD {k : Nat} (h : VP k) : k < nGlob := by
 have hn := YA
 simp only [Bool.and_eq_true] at hn
 obtain ⟨n1, n2, _, _⟩ := hn
 obtain ⟨p, hp, rfl⟩ := h
 simp only [utfL, List.mem_cons, List.not_mem_nil, or_false] at hp
 rcases hp with rfl | rfl
 ·exact AZ n1
 ·exact AZ n2
theorem Mem.newF {w0 w : World} {L : List As} (M : Mem w0 AD L w) (i : Nat) {g3 g6 : Nat} {seen : List (List UInt8)} (hi : L[i]? = some (As.fresh g3 g6 seen)) : ∀ k, (k = g3 ∨ k = g6) → w0.heap.size ≤ k := fun k hk =>
 (M.new0 i hi k (by simpa [As.fresh] using hk)).1
theorem Mem.noU {w0 w : World} {L : List As} (M : Mem w0 AD L w) (i : Nat) {g3 g6 : Nat} {seen : List (List UInt8)} (hi : L[i]? = some (As.fresh g3 g6 seen)) (hY : Lay0 w0) : ∀ k, (k = g3 ∨ k = g6) → ¬ VP k := fun k hk hu => by
 have h1 := M.newF i hi k hk
 have h2 : nGlob ≤ w0.heap.size := hY.size
 have h3 := qD hu
 omega
theorem Mem.neFresh {w0 w : World} {S : Nat → Prop} {L : List As} (M : Mem w0 S L w) (i j : Nat) {g t g3 g6 : Nat} {cs : List Value} {seen : List (List UInt8)} (hi : L[i]? = some (As.blk g t cs)) (hj : L[j]? = some (As.fresh g3 g6 seen)) (h : i ≠ j) : ¬ (g = g3 ∨ g = g6) := fun hh =>
 M.apart i j _ _ hi hj h g (by simp [As.blk]) (by simpa [As.fresh] using hh)
section
variable {g3 g6 g5 : Nat} {base : List (List UInt8)} {w : World}
theorem P8 (hF : Fresh w g3 g6 base) : ∀ g, (g = g3 ∨ g = g6) → g < w.heap.size := fun g hg => by
 obtain ⟨h1, _, L, h2, _⟩ := hF
 rcases hg with rfl | rfl
 ·exact h1.lt
 ·exact mR h2
theorem mC {l : List Bd} (hok : BdOk l) (hT : Laid w utfL) (hF : Fresh w g3 g6 base) (hnu : ∀ k, (k = g3 ∨ k = g6) → ¬ VP k) (hn5 : ¬ (g5 = g3 ∨ g5 = g6)) (hb5 : Blk w g5 91 [.func (.func 103) #[] #[pg g3]]) :
 PredJ prog 61 [pg g5] (fun x : Bd => .agg x.cells.toArray) l (fun i x => EJ x.name (EX (fun x => x.name) base l i) && decide (chk x.v = (0 : Int))) (fun k => k = g3 ∨ k = g6) (fun i W => Fresh W g3 g6 (EX (fun x => x.name) base l i)) w where
 fn := call61
 call i x w1 hx hf hJ := by
  have hm := List.mem_of_getElem? hx
  have h := rQ g3 g6 g5 (EX (fun x => x.name) base l i) x w1 (hok.name x hm) (hok.text x hm) (LK hT hf hnu) hnu hJ hn5 (hb5.fr hf hn5)
  rw [← MZ (f := fun x : Bd => x.name) (base := base) hx] at h
  exact h
 st i w1 w2 hf hJ := hJ.keep (fun g _ hg => hf.block g hg (fun hh => hh))
 old := P8 hF
theorem mB {l : List El} (hok : ∀ x ∈ l, ElOk x) (hT : Laid w utfL) (hF : Fresh w g3 g6 base) (hnu : ∀ k, (k = g3 ∨ k = g6) → ¬ VP k) (hn5 : ¬ (g5 = g3 ∨ g5 = g6)) (hb5 : Blk w g5 91 [.func (.func 103) #[] #[pg g3]]) :
 PredJ prog 65 [pg g5] (fun x : El => .agg x.cells.toArray) l (fun i x => EJ x.id (EX (fun x => x.id) base l i) && MY x.nm) (fun k => k = g3 ∨ k = g6) (fun i W => Fresh W g3 g6 (EX (fun x => x.id) base l i)) w where
 fn := call65
 call i x w1 hx hf hJ := by
  have hm := List.mem_of_getElem? hx
  have h := rP g3 g6 g5 (EX (fun x => x.id) base l i) x w1 (hok x hm).id (hok x hm).nm (LK hT hf hnu) hnu hJ hn5 (hb5.fr hf hn5)
  rw [← MZ (f := fun x : El => x.id) (base := base) hx] at h
  exact h
 st i w1 w2 hf hJ := hJ.keep (fun g _ hg => hf.block g hg (fun hh => hh))
 old := P8 hF
theorem mA {l : List Fl} (hok : ∀ x ∈ l, FlOk x) (hT : Laid w utfL) (hF : Fresh w g3 g6 base) (hnu : ∀ k, (k = g3 ∨ k = g6) → ¬ VP k) (hn5 : ¬ (g5 = g3 ∨ g5 = g6)) (hb5 : Blk w g5 91 [.func (.func 103) #[] #[pg g3]]) :
 PredJ prog 68 [pg g5] (fun x : Fl => .agg x.cells.toArray) l (fun i x => EJ x.id (EX (fun x => x.id) base l i)) (fun k => k = g3 ∨ k = g6) (fun i W => Fresh W g3 g6 (EX (fun x => x.id) base l i)) w where
 fn := call68
 call i x w1 hx hf hJ := by
  have hm := List.mem_of_getElem? hx
  have h := rO g3 g6 g5 (EX (fun x => x.id) base l i) x w1 (hok x hm).id (LK hT hf hnu) hnu hJ hn5 (hb5.fr hf hn5)
  rw [← MZ (f := fun x : Fl => x.id) (base := base) hx] at h
  exact h
 st i w1 w2 hf hJ := hJ.keep (fun g _ hg => hf.block g hg (fun hh => hh))
 old := P8 hF
end
theorem FH : (prog.info? 91).map (·.size) = some 1 := by kernel_rfl
theorem K4 : (prog.info? 26).map (·.zero) = some (some (.agg #[str [], str [], .slice none 0 0, .slice none 0 0, .slice none 0 0])) := by kernel_rfl
theorem FD : (prog.info? 91).map (·.zero) = some (some (.nilFunc)) := by kernel_rfl
theorem rM (m : Md) (a : MdA) (ix : IxA) (gx : Nat) (w : World) (ho : MdOk m) (hx : IxAt w m a ix gx) (hY : Lay0 w) :
 Calls prog 23 #[pg gx] w fun e w' => e = .returned (JF (EU m)) ∧ Fr0 w w' := by
 refine AJ (vs := [_]) func23 rfl ntmps23 rfl ?_
 have M := CN w
 refine A9 (A0 (yb rfl (yb rfl (A4 (A5 (A9 (A0 (yb rfl (yb rfl (yb rfl (ya rfl (AU (xs := [str m.id, str m.nm, .slice a.V m.vars.length a.vc, .slice a.E m.els.length a.ec, .slice a.F m.fls.length a.fc]) rfl rfl (II ((hx.fr0 M.fr).blk) 0 5 rfl rfl) underlying26 rfl BC) (BI M (AA rfl) rfl rfl 26 rfl [str [], str [], .slice none 0 0, .slice none 0 0, .slice none 0 0] K4 rfl fun g4 w1 hg4 M => B8 (cs' := [str m.id, str m.nm, .slice a.V m.vars.length a.vc, .slice a.E m.els.length a.ec, .slice a.F m.fls.length a.fc]) M 0 (AA rfl) rfl rfl rfl rfl rfl BC rfl (AI rfl) (AY rfl) rfl fun w2 M => ?_))))))))))))
 refine A4 (A5 (A9 (A9 (A0 (yb rfl (yl rfl rfl (M.cell 0 rfl rfl) (cp M 17 rfl (AE rfl rfl call56) (DQ _ _ ho.id) fun w3 M => yb rfl (yb rfl (AX 5 [(4, pg g4), (24, .bool ((!(BL m.id)) || (!(MY m.nm))))] (fun w' => Mem w AD [As.blk g4 26 [str m.id, str m.nm, .slice a.V m.vars.length a.vc, .slice a.E m.els.length a.ec, .slice a.F m.fls.length a.fc]] w') ?_ (fun k19 => ?_))))))))))
 ·intro w4 M
  refine yb rfl (AX 5 [(4, pg g4), (30, .bool (((!(BL m.id)) || (!(MY m.nm))) || (decide ((64 : Int) < ((m.els.length : Nat) : Int)))))] (fun w' => Mem w AD [As.blk g4 26 [str m.id, str m.nm, .slice a.V m.vars.length a.vc, .slice a.E m.els.length a.ec, .slice a.F m.fls.length a.fc]] w') ?_ (fun k25 => ?_))
  ·intro w5 M
   refine yb rfl (AX 5 [(4, pg g4), (36, .bool ((((!(BL m.id)) || (!(MY m.nm))) || (decide ((64 : Int) < ((m.els.length : Nat) : Int)))) || (decide ((128 : Int) < ((m.fls.length : Nat) : Int)))))] (fun w' => Mem w AD [As.blk g4 26 [str m.id, str m.nm, .slice a.V m.vars.length a.vc, .slice a.E m.els.length a.ec, .slice a.F m.fls.length a.fc]] w') ?_ (fun k31 => ?_))
   ·intro w6 M
    refine yb rfl (AX 5 [(4, pg g4), (42, .bool (((((!(BL m.id)) || (!(MY m.nm))) || (decide ((64 : Int) < ((m.els.length : Nat) : Int)))) || (decide ((128 : Int) < ((m.fls.length : Nat) : Int)))) || (decide ((16 : Int) < ((m.vars.length : Nat) : Int)))))] (fun w' => Mem w AD [As.blk g4 26 [str m.id, str m.nm, .slice a.V m.vars.length a.vc, .slice a.E m.els.length a.ec, .slice a.F m.fls.length a.fc]] w') ?_ (fun k37 => ?_))
    ·intro w7 M
     refine A4 (A5 (AT (b := (((((!(BL m.id)) || (!(MY m.nm))) || (decide ((64 : Int) < ((m.els.length : Nat) : Int)))) || (decide ((128 : Int) < ((m.fls.length : Nat) : Int)))) || (decide ((16 : Int) < ((m.vars.length : Nat) : Int))))) rfl (fun h42 => ?_) (fun h42 => ?_)))
     ·have h42p := ((EL h42).imp (fun z => ((EL z).imp (fun z => ((EL z).imp (fun z => ((EL z).imp (fun z => (C4 z)) (fun z => (C4 z)))) (fun z => (odt z)))) (fun z => (odt z)))) (fun z => (odt z)))
      exact A9 (A0 (yb rfl (yb rfl (A4 (A5 (AF (AB (CA rfl rfl rfl ⟨by rw [show EU m = some [] from if_pos h42]; rfl, M.fr⟩))))))))
     ·have h42p := (And.intro (And.intro (And.intro (And.intro (C5 (CE (CE (CE (CE h42).1).1).1).1) (C5 (CE (CE (CE (CE h42).1).1).1).2)) (odf (CE (CE (CE h42).1).1).2)) (odf (CE (CE h42).1).2)) (odf (CE h42).2))
      refine AN (A5 (A9 (A0 (cl 43 rfl (AE rfl rfl call58) (UG none 0 [] _ (Nat.zero_le _) Rd.nil) ?_))))
      rintro _ w8 ⟨ga43, gb43, rfl, hfr, hnw, hfw8⟩
      refine ⟨_, rfl, ?_⟩
      have M := M.push hfw8 (As.fresh ga43 gb43 []) hfr hnw
      refine BI M (AA rfl) rfl rfl 91 rfl [.nilFunc] FD rfl fun g5 w9 hg5 M => BP (cs' := [.func (.func 103) #[] #[pg ga43]]) M 0 (AA rfl) rfl rfl rfl rfl rfl rfl rfl FH (AZ rfl) rfl fun w10 M => A4 (A5 (A9 (A9 (A0 (yb rfl (yl rfl rfl (M.cell 2 rfl rfl) (ya rfl (CC (us := []) (vs := [pg g5]) rfl rfl rfl) ?_)))))))
      have hnU48 := M.noU 1 rfl hY
      have hnw48 : ∀ k, (k = ga43 ∨ k = gb43) → w.heap.size ≤ k := M.newF 1 rfl
      refine cl 48 rfl (AE rfl rfl call59) (o9 a.V a.vc m.vars (by have := ho.nvars; have := ho.nels; have := ho.nfls; omega) 61 [pg g5] (pV m) (fun k => k = ga43 ∨ k = gb43) (fun i W => Fresh W ga43 gb43 (EX (fun x : Bd => x.name) [] m.vars i)) _ (mC ho.vars (F6 hY.utf M.fr) (M.ok 1 _ rfl) hnU48 (M.neFresh 0 1 rfl rfl (by decide)) (M.blk 0 rfl)) (fun w9 hf9 => hx.md.vars.fr0 (D9 M.fr hf9 hnw48)) (M.ok 1 _ rfl)) ?_
      rintro _ w11 ⟨rfl, hJw11, hfw11⟩
      have M := M.updFresh 1 rfl hJw11 hfw11
      refine ⟨_, rfl, ?_⟩
      iterate 5 refine yb rfl ?_
      refine A4 (A5 (A9 (A0 (yb rfl (A4 (A5 (AT (b := (ffN (pV m) 0 m.vars).isSome) rfl (fun h51 => ?_) (fun h51 => ?_))))))))
      ·exact A9 (A0 (yb rfl (yb rfl (yb rfl (A4 (A5 (AF (AB (CA rfl rfl rfl ⟨congrArg Ending.returned (xM h42 h51), M.fr⟩)))))))))
      ·refine AN (A5 (A9 (A0 (yb rfl (yl rfl rfl (M.cell 2 rfl rfl) (DC M (AA rfl) rfl rfl [str m.id] ([str m.id]) rfl rfl rfl rfl underlying29 CR rfl rfl (IK rfl) rfl fun g55 w12 hg55 M => cl 56 rfl (AE rfl rfl call58) (UG (some ⟨g55, 0, none⟩) 1 [m.id] _ (AI rfl) (M.rdBlk 0 rfl rfl)) ?_))))))
       rintro _ w13 ⟨ga56, gb56, rfl, hfr, hnw, hfw13⟩
       refine ⟨_, rfl, ?_⟩
       have M := M.push hfw13 (As.fresh ga56 gb56 [m.id]) hfr hnw
       refine BI M (AA rfl) rfl rfl 91 rfl [.nilFunc] FD rfl fun g8 w14 hg8 M => BP (cs' := [.func (.func 103) #[] #[pg ga56]]) M 0 (AA rfl) rfl rfl rfl rfl rfl rfl rfl FH (AZ rfl) rfl fun w15 M => A4 (A5 (A9 (A9 (A0 (yb rfl (yl rfl rfl (M.cell 5 rfl rfl) (ya rfl (CC (us := []) (vs := [pg g8]) rfl rfl rfl) ?_)))))))
       have hnU61 := M.noU 1 rfl hY
       have hnw61 : ∀ k, (k = ga56 ∨ k = gb56) → w.heap.size ≤ k := M.newF 1 rfl
       refine cl 61 rfl (AE rfl rfl call63) (YZ a.E a.ec m.els (by have := ho.nvars; have := ho.nels; have := ho.nfls; omega) 65 [pg g8] (pE m) (fun k => k = ga56 ∨ k = gb56) (fun i W => Fresh W ga56 gb56 (EX (fun x : El => x.id) [m.id] m.els i)) _ (mB ho.els (F6 hY.utf M.fr) (M.ok 1 _ rfl) hnU61 (M.neFresh 0 1 rfl rfl (by decide)) (M.blk 0 rfl)) (fun w9 hf9 => hx.md.els.fr0 (D9 M.fr hf9 hnw61)) (M.ok 1 _ rfl)) ?_
       rintro _ w16 ⟨rfl, hJw16, hfw16⟩
       have M := M.updFresh 1 rfl hJw16 hfw16
       refine ⟨_, rfl, ?_⟩
       iterate 5 refine yb rfl ?_
       refine A4 (A5 (A9 (A0 (yb rfl (A4 (A5 (AT (b := (ffN (pE m) 0 m.els).isSome) rfl (fun h64 => ?_) (fun h64 => ?_))))))))
       ·exact A9 (A0 (yb rfl (yb rfl (yb rfl (A4 (A5 (AF (AB (CA rfl rfl rfl ⟨congrArg Ending.returned (xO h42 h51 h64), M.fr⟩)))))))))
       ·rw [sM h64] at M
        refine AN (A5 (A9 (A0 (yb rfl (yl rfl rfl (M.cell 5 rfl rfl) (ya rfl (CC (us := []) (vs := [pg g8]) rfl rfl rfl) ?_))))))
        have hnU69 := M.noU 1 rfl hY
        have hnw69 : ∀ k, (k = ga56 ∨ k = gb56) → w.heap.size ≤ k := M.newF 1 rfl
        refine cl 69 rfl (AE rfl rfl call66) (YY a.F a.fc m.fls (by have := ho.nvars; have := ho.nels; have := ho.nfls; omega) 68 [pg g8] (pF m) (fun k => k = ga56 ∨ k = gb56) (fun i W => Fresh W ga56 gb56 (EX (fun x : Fl => x.id) (EX (fun x : El => x.id) [m.id] m.els m.els.length) m.fls i)) _ (mA ho.fls (F6 hY.utf M.fr) (M.ok 1 _ rfl) hnU69 (M.neFresh 0 1 rfl rfl (by decide)) (M.blk 0 rfl)) (fun w9 hf9 => hx.md.fls.fr0 (D9 M.fr hf9 hnw69)) (M.ok 1 _ rfl)) ?_
        rintro _ w17 ⟨rfl, hJw17, hfw17⟩
        have M := M.updFresh 1 rfl hJw17 hfw17
        refine ⟨_, rfl, ?_⟩
        iterate 4 refine yb rfl ?_
        exact A4 (A5 (AF (CA rfl rfl rfl ⟨congrArg Ending.returned (xN h42 h51 h64), M.fr⟩)))
    refine AM (d := 37) (b := ((((!(BL m.id)) || (!(MY m.nm))) || (decide ((64 : Int) < ((m.els.length : Nat) : Int)))) || (decide ((128 : Int) < ((m.fls.length : Nat) : Int))))) rfl (fun h37 => ?_) (fun h37 => ?_)
    ·iterate 4 refine yo rfl ?_
     exact yb rfl (k37 _ _ M ⟨rfl, (by rw [h37]; rfl), trivial⟩)
    ·exact yd rfl (yp rfl) (ym rfl rfl (M.cell 0 rfl rfl) (yd rfl (CS rfl rfl (sl rfl)) (yd rfl (FF rfl rfl rfl) (yb rfl (k37 _ _ M ⟨rfl, (by rw [h37]; rfl), trivial⟩)))))
   refine AM (d := 31) (b := (((!(BL m.id)) || (!(MY m.nm))) || (decide ((64 : Int) < ((m.els.length : Nat) : Int))))) rfl (fun h31 => ?_) (fun h31 => ?_)
   ·iterate 4 refine yo rfl ?_
    exact yb rfl (k31 _ _ M ⟨rfl, (by rw [h31]; rfl), trivial⟩)
   ·exact yd rfl (yp rfl) (ym rfl rfl (M.cell 0 rfl rfl) (yd rfl (CS rfl rfl (sl rfl)) (yd rfl (FF rfl rfl rfl) (yb rfl (k31 _ _ M ⟨rfl, (by rw [h31]; rfl), trivial⟩)))))
  refine AM (d := 25) (b := ((!(BL m.id)) || (!(MY m.nm)))) rfl (fun h25 => ?_) (fun h25 => ?_)
  ·iterate 4 refine yo rfl ?_
   exact yb rfl (k25 _ _ M ⟨rfl, (by rw [h25]; rfl), trivial⟩)
  ·exact yd rfl (yp rfl) (ym rfl rfl (M.cell 0 rfl rfl) (yd rfl (CS rfl rfl (sl rfl)) (yd rfl (FF rfl rfl rfl) (yb rfl (k25 _ _ M ⟨rfl, (by rw [h25]; rfl), trivial⟩)))))
 refine AM (d := 19) (b := (!(BL m.id))) rfl (fun h19 => ?_) (fun h19 => ?_)
 ·iterate 4 refine yo rfl ?_
  exact yb rfl (k19 _ _ M ⟨rfl, (by rw [h19]; rfl), trivial⟩)
 ·refine yd rfl (yp rfl) (ym rfl rfl (M.cell 0 rfl rfl) (CF (some 22) (AW rfl rfl rfl) rfl rfl (AE rfl rfl call57) (cX _ _ ho.nm (F6 hY.utf M.fr)) ?_))
  rintro _ w18 ⟨rfl, hfw18⟩
  refine ⟨_, rfl, ?_⟩
  have M := M.step hfw18
  exact yd rfl (yp rfl) (yb rfl (k19 _ _ M ⟨rfl, (by rw [h19]; rfl), trivial⟩))
end Go.Proofs.YtdaihdknnlphkaaGreatDoor
