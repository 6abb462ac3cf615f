/- Lemmas that the last text rests on. Condition: each says its own. -/
import Derived.Test.YtadgfojhjnkliaaGreatDoorZRu6
set_option maxHeartbeats 16000000
set_option maxRecDepth 100000
namespace Go.Proofs.YtadgfojhjnkliaaGreatDoor
open Go.RowKit
open Tryz
def FJ {α : Type} (f : α → List UInt8) (base : List (List UInt8)) (l : List α) (i : Nat) : List (List UInt8) := ((l.take i).map f).reverse ++ base
theorem LL {α : Type} {f : α → List UInt8} {base : List (List UInt8)} {l : List α} {i : Nat} {x : α} (hx : l[i]? = some x) : FJ f base l (i + 1) = f x :: FJ f base l i := by
 unfold FJ
 rw [BH hx, List.map_append, List.reverse_append]; rfl
def pV (m : Md) (i : Nat) (x : Bd) : Bool := G5 x.name (FJ (fun x => x.name) [] m.vars i) && decide (chk x.v = (0 : Int))
def pE (m : Md) (i : Nat) (x : El) : Bool := G5 x.id (FJ (fun x => x.id) [m.id] m.els i) && LJ x.nm
def pF (m : Md) (i : Nat) (x : Fl) : Bool := G5 x.id (FJ (fun x => x.id) (FJ (fun x => x.id) [m.id] m.els m.els.length) m.fls i)
def iL (m : Md) : Bool := (((((!(BU m.id)) || (!(LJ m.nm))) || (decide ((64 : Int) < ((m.els.length : Nat) : Int)))) || (decide ((128 : Int) < ((m.fls.length : Nat) : Int)))) || (decide ((16 : Int) < ((m.vars.length : Nat) : Int))))
def HQ (m : Md) : Option (List UInt8) := if iL m = true then some [] else match ffN (pV m) 0 m.vars with
 | some b => some b.name
 | none => match ffN (pE m) 0 m.els with
  | some b => some b.id
  | none => (ffN (pF m) 0 m.fls).map (·.id)
section
variable {m : Md} (h : iL m = false)
include h
theorem sU (h1 : (ffN (pV m) 0 m.vars).isSome = true) : Value.tuple #[str ((ffN (pV m) 0 m.vars).elim [] (fun x => x.name)), .bool true] = IU (HQ m) := by
 unfold HQ
 rw [if_neg (BA h)]
 cases hq : ffN (pV m) 0 m.vars with
 | none => rw [hq] at h1; cases h1
 | some b => rfl
theorem sW (h1 : (ffN (pV m) 0 m.vars).isSome = false) (h2 : (ffN (pE m) 0 m.els).isSome = true) : Value.tuple #[str ((ffN (pE m) 0 m.els).elim [] (fun x => x.id)), .bool true] = IU (HQ m) := by
 unfold HQ
 rw [if_neg (BA h)]
 cases hq : ffN (pV m) 0 m.vars with
 | some b => rw [hq] at h1; cases h1
 | none =>
  cases hr : ffN (pE m) 0 m.els with
  | none => rw [hr] at h2; cases h2
  | some b => rfl
theorem sV (h1 : (ffN (pV m) 0 m.vars).isSome = false) (h2 : (ffN (pE m) 0 m.els).isSome = false) : Value.tuple #[str ((ffN (pF m) 0 m.fls).elim [] (fun x => x.id)), .bool (ffN (pF m) 0 m.fls).isSome] = IU (HQ m) := by
 unfold HQ
 rw [if_neg (BA h)]
 cases hq : ffN (pV m) 0 m.vars with
 | some b => rw [hq] at h1; cases h1
 | none =>
  cases hr : ffN (pE m) 0 m.els with
  | some b => rw [hr] at h2; cases h2
  | none => cases ffN (pF m) 0 m.fls <;> rfl
end
theorem aR {α : Type} {p : Nat → α → Bool} : ∀ (l : List α) (i : Nat), ffN p i l = none → ixN (fun i x => !(p i x)) i l = i + l.length
 | [], _, _ => rfl
 | x :: r, i, h => by
  rw [ffN] at h
  by_cases hp : p i x = true
  ·rw [if_pos hp] at h
   rw [ixN, if_neg (by simp [hp]), aR r (i + 1) h, List.length_cons]; omega
  ·rw [if_neg hp] at h; cases h
theorem o0 {α : Type} {p : Nat → α → Bool} {l : List α} (h : (ffN p 0 l).isSome = false) : ixN (fun i x => !(p i x)) 0 l = l.length := by
 have : ffN p 0 l = none := by
  cases hq : ffN p 0 l with
  | none => rfl
  | some x => rw [hq] at h; cases h
 rw [aR l 0 this, Nat.zero_add]
theorem FB {w wc w9 : World} {S : Nat → Prop} (hf : Fr0 w wc) (h9 : Fr S wc w9) (hS : ∀ k, S k → w.heap.size ≤ k) : Fr0 w w9 :=
 ⟨h9.os.trans hf.os, h9.tape.trans hf.tape, h9.output.trans hf.output, Nat.le_trans hf.size h9.size, fun k hk _ => (h9.block k (Nat.lt_of_lt_of_le hk hf.size) (fun hh => by have := hS k hh; omega)).trans (hf.block k hk (fun hh => hh))⟩
theorem mB {k : Nat} (h : TT k) : k < nGlob := by
 have hn := W3
 simp only [Bool.and_eq_true] at hn
 obtain ⟨n1, n2, _, _⟩ := hn
 obtain ⟨p, hp, rfl⟩ := h
 simp only [utfL, List.mem_cons, List.not_mem_nil, or_false] at hp
 rcases hp with rfl | rfl
 ·exact AZ n1
 ·exact AZ n2
theorem Mem.newF {w0 w : World} {L : List As} (M : Mem w0 AB L w) (i : Nat) {g3 g6 : Nat} {seen : List (List UInt8)} (hi : L[i]? = some (As.fresh g3 g6 seen)) : ∀ k, (k = g3 ∨ k = g6) → w0.heap.size ≤ k := fun k hk =>
 (M.new0 i hi k (by simpa [As.fresh] using hk)).1
theorem Mem.noU {w0 w : World} {L : List As} (M : Mem w0 AB L w) (i : Nat) {g3 g6 : Nat} {seen : List (List UInt8)} (hi : L[i]? = some (As.fresh g3 g6 seen)) (hY : Lay0 w0) : ∀ k, (k = g3 ∨ k = g6) → ¬ TT k := fun k hk hu => by
 have h1 := M.newF i hi k hk
 have h2 : nGlob ≤ w0.heap.size := hY.size
 have h3 := mB hu
 omega
theorem Mem.neFresh {w0 w : World} {S : Nat → Prop} {L : List As} (M : Mem w0 S L w) (i j : Nat) {g t g3 g6 : Nat} {cs : List Value} {seen : List (List UInt8)} (hi : L[i]? = some (As.blk g t cs)) (hj : L[j]? = some (As.fresh g3 g6 seen)) (h : i ≠ j) : ¬ (g = g3 ∨ g = g6) := fun hh =>
 M.apart i j _ _ hi hj h g (by simp [As.blk]) (by simpa [As.fresh] using hh)
section
variable {g3 g6 g5 : Nat} {base : List (List UInt8)} {w : World}
theorem NY (hF : Fresh w g3 g6 base) : ∀ g, (g = g3 ∨ g = g6) → g < w.heap.size := fun g hg => by
 obtain ⟨h1, _, L, h2, _⟩ := hF
 rcases hg with rfl | rfl
 ·exact h1.lt
 ·exact iT h2
theorem iE {l : List Bd} (hok : BdOk l) (hT : Laid w utfL) (hF : Fresh w g3 g6 base) (hnu : ∀ k, (k = g3 ∨ k = g6) → ¬ TT k) (hn5 : ¬ (g5 = g3 ∨ g5 = g6)) (hb5 : Blk w g5 135 [.func (.func 126) #[] #[pg g3]]) :
 PredJ prog 73 [pg g5] (fun x : Bd => .agg x.cells.toArray) l (fun i x => G5 x.name (FJ (fun x => x.name) base l i) && decide (chk x.v = (0 : Int))) (fun k => k = g3 ∨ k = g6) (fun i W => Fresh W g3 g6 (FJ (fun x => x.name) base l i)) w where
 fn := call73
 call i x w1 hx hf hJ := by
  have hm := List.mem_of_getElem? hx
  have h := nG g3 g6 g5 (FJ (fun x => x.name) base l i) x w1 (hok.name x hm) (hok.text x hm) (KC hT hf hnu) hnu hJ hn5 (hb5.fr hf hn5)
  rw [← LL (f := fun x : Bd => x.name) (base := base) hx] at h
  exact h
 st i w1 w2 hf hJ := hJ.keep (fun g _ hg => hf.block g hg (fun hh => hh))
 old := NY hF
theorem iD {l : List El} (hok : ∀ x ∈ l, ElOk x) (hT : Laid w utfL) (hF : Fresh w g3 g6 base) (hnu : ∀ k, (k = g3 ∨ k = g6) → ¬ TT k) (hn5 : ¬ (g5 = g3 ∨ g5 = g6)) (hb5 : Blk w g5 135 [.func (.func 126) #[] #[pg g3]]) :
 PredJ prog 76 [pg g5] (fun x : El => .agg x.cells.toArray) l (fun i x => G5 x.id (FJ (fun x => x.id) base l i) && LJ x.nm) (fun k => k = g3 ∨ k = g6) (fun i W => Fresh W g3 g6 (FJ (fun x => x.id) base l i)) w where
 fn := call76
 call i x w1 hx hf hJ := by
  have hm := List.mem_of_getElem? hx
  have h := nF g3 g6 g5 (FJ (fun x => x.id) base l i) x w1 (hok x hm).id (hok x hm).nm (KC hT hf hnu) hnu hJ hn5 (hb5.fr hf hn5)
  rw [← LL (f := fun x : El => x.id) (base := base) hx] at h
  exact h
 st i w1 w2 hf hJ := hJ.keep (fun g _ hg => hf.block g hg (fun hh => hh))
 old := NY hF
theorem iB {l : List Fl} (hok : ∀ x ∈ l, FlOk x) (hT : Laid w utfL) (hF : Fresh w g3 g6 base) (hnu : ∀ k, (k = g3 ∨ k = g6) → ¬ TT k) (hn5 : ¬ (g5 = g3 ∨ g5 = g6)) (hb5 : Blk w g5 135 [.func (.func 126) #[] #[pg g3]]) :
 PredJ prog 79 [pg g5] (fun x : Fl => .agg x.cells.toArray) l (fun i x => G5 x.id (FJ (fun x => x.id) base l i)) (fun k => k = g3 ∨ k = g6) (fun i W => Fresh W g3 g6 (FJ (fun x => x.id) base l i)) w where
 fn := call79
 call i x w1 hx hf hJ := by
  have hm := List.mem_of_getElem? hx
  have h := nE g3 g6 g5 (FJ (fun x => x.id) base l i) x w1 (hok x hm).id (KC hT hf hnu) hnu hJ hn5 (hb5.fr hf hn5)
  rw [← LL (f := fun x : Fl => x.id) (base := base) hx] at h
  exact h
 st i w1 w2 hf hJ := hJ.keep (fun g _ hg => hf.block g hg (fun hh => hh))
 old := NY hF
end
theorem F4 : (prog.info? 135).map (·.size) = some 1 := by kernel_rfl
theorem zr_api_Model : (prog.info? 26).map (·.zero) = some (some (.agg #[str [], str [], .slice none 0 0, .slice none 0 0, .slice none 0 0])) := by kernel_rfl
theorem F3 : (prog.info? 135).map (·.zero) = some (some (.nilFunc)) := by kernel_rfl
theorem nC (m : Md) (a : MdA) (ix : IxA) (gx : Nat) (w : World) (ho : MdOk m) (hx : IxAt w m a ix gx) (hY : Lay0 w) :
 Calls prog 31 #[pg gx] w fun e w' => e = .returned (IU (HQ m)) ∧ Fr0 w w' := by
 refine AK (vs := [_]) func31 rfl ntmps31 rfl ?_
 have M := CK w
 refine A4 (A0 (yb rfl (yb rfl (A1 (A2 (A4 (A0 (yb rfl (yb rfl (yb rfl (ya rfl (AN (xs := [str m.id, str m.nm, .slice a.V m.vars.length a.vc, .slice a.E m.els.length a.ec, .slice a.F m.fls.length a.fc]) rfl rfl (FD ((hx.fr0 M.fr).blk) 0 5 rfl rfl) underlying26 rfl BL) (BI M (A9 rfl) rfl rfl 26 rfl [str [], str [], .slice none 0 0, .slice none 0 0, .slice none 0 0] zr_api_Model rfl fun g4 w1 hg4 M => B5 (cs' := [str m.id, str m.nm, .slice a.V m.vars.length a.vc, .slice a.E m.els.length a.ec, .slice a.F m.fls.length a.fc]) M 0 (A9 rfl) rfl rfl rfl rfl rfl BL rfl (AP rfl) (AW rfl) rfl fun w2 M => ?_))))))))))))
 refine A1 (A2 (A4 (A4 (A0 (yb rfl (yl rfl rfl (M.cell 0 rfl rfl) (cp M 17 rfl (AF rfl rfl call68) (DV _ _ ho.id) fun w3 M => yb rfl (yb rfl (AT 5 [(4, pg g4), (24, .bool ((!(BU m.id)) || (!(LJ m.nm))))] (fun w' => Mem w AB [As.blk g4 26 [str m.id, str m.nm, .slice a.V m.vars.length a.vc, .slice a.E m.els.length a.ec, .slice a.F m.fls.length a.fc]] w') ?_ (fun k19 => ?_))))))))))
 ·intro w4 M
  refine yb rfl (AT 5 [(4, pg g4), (30, .bool (((!(BU m.id)) || (!(LJ m.nm))) || (decide ((64 : Int) < ((m.els.length : Nat) : Int)))))] (fun w' => Mem w AB [As.blk g4 26 [str m.id, str m.nm, .slice a.V m.vars.length a.vc, .slice a.E m.els.length a.ec, .slice a.F m.fls.length a.fc]] w') ?_ (fun k25 => ?_))
  ·intro w5 M
   refine yb rfl (AT 5 [(4, pg g4), (36, .bool ((((!(BU m.id)) || (!(LJ m.nm))) || (decide ((64 : Int) < ((m.els.length : Nat) : Int)))) || (decide ((128 : Int) < ((m.fls.length : Nat) : Int)))))] (fun w' => Mem w AB [As.blk g4 26 [str m.id, str m.nm, .slice a.V m.vars.length a.vc, .slice a.E m.els.length a.ec, .slice a.F m.fls.length a.fc]] w') ?_ (fun k31 => ?_))
   ·intro w6 M
    refine yb rfl (AT 5 [(4, pg g4), (42, .bool (((((!(BU m.id)) || (!(LJ m.nm))) || (decide ((64 : Int) < ((m.els.length : Nat) : Int)))) || (decide ((128 : Int) < ((m.fls.length : Nat) : Int)))) || (decide ((16 : Int) < ((m.vars.length : Nat) : Int)))))] (fun w' => Mem w AB [As.blk g4 26 [str m.id, str m.nm, .slice a.V m.vars.length a.vc, .slice a.E m.els.length a.ec, .slice a.F m.fls.length a.fc]] w') ?_ (fun k37 => ?_))
    ·intro w7 M
     refine A1 (A2 (AQ (b := (((((!(BU m.id)) || (!(LJ m.nm))) || (decide ((64 : Int) < ((m.els.length : Nat) : Int)))) || (decide ((128 : Int) < ((m.fls.length : Nat) : Int)))) || (decide ((16 : Int) < ((m.vars.length : Nat) : Int))))) rfl (fun h42 => ?_) (fun h42 => ?_)))
     ·have h42p := ((EK h42).imp (fun z => ((EK z).imp (fun z => ((EK z).imp (fun z => ((EK z).imp (fun z => (C1 z)) (fun z => (C1 z)))) (fun z => (odt z)))) (fun z => (odt z)))) (fun z => (odt z)))
      exact A4 (A0 (yb rfl (yb rfl (A1 (A2 (AD (AA (BY rfl rfl rfl ⟨by rw [show HQ m = some [] from if_pos h42]; rfl, M.fr⟩))))))))
     ·have h42p := (And.intro (And.intro (And.intro (And.intro (C3 (CA (CA (CA (CA h42).1).1).1).1) (C3 (CA (CA (CA (CA h42).1).1).1).2)) (odf (CA (CA (CA h42).1).1).2)) (odf (CA (CA h42).1).2)) (odf (CA h42).2))
      refine AL (A2 (A4 (A0 (cl 43 rfl (AF rfl rfl call70) (SM none 0 [] _ (Nat.zero_le _) Rd.nil) ?_))))
      rintro _ w8 ⟨ga43, gb43, rfl, hfr, hnw, hfw8⟩
      refine ⟨_, rfl, ?_⟩
      have M := M.push hfw8 (As.fresh ga43 gb43 []) hfr hnw
      refine BI M (A9 rfl) rfl rfl 135 rfl [.nilFunc] F3 rfl fun g5 w9 hg5 M => BQ (cs' := [.func (.func 126) #[] #[pg ga43]]) M 0 (A9 rfl) rfl rfl rfl rfl rfl rfl rfl F4 (AZ rfl) rfl fun w10 M => A1 (A2 (A4 (A4 (A0 (yb rfl (yl rfl rfl (M.cell 2 rfl rfl) (ya rfl (CT (us := []) (vs := [pg g5]) rfl rfl rfl) ?_)))))))
      have hnU48 := M.noU 1 rfl hY
      have hnw48 : ∀ k, (k = ga43 ∨ k = gb43) → w.heap.size ≤ k := M.newF 1 rfl
      refine cl 48 rfl (AF rfl rfl call71) (jY a.V a.vc m.vars (by have := ho.nvars; have := ho.nels; have := ho.nfls; omega) 73 [pg g5] (pV m) (fun k => k = ga43 ∨ k = gb43) (fun i W => Fresh W ga43 gb43 (FJ (fun x : Bd => x.name) [] m.vars i)) _ (iE ho.vars (EX hY.utf M.fr) (M.ok 1 _ rfl) hnU48 (M.neFresh 0 1 rfl rfl (by decide)) (M.blk 0 rfl)) (fun w9 hf9 => hx.md.vars.fr0 (FB M.fr hf9 hnw48)) (M.ok 1 _ rfl)) ?_
      rintro _ w11 ⟨rfl, hJw11, hfw11⟩
      have M := M.updFresh 1 rfl hJw11 hfw11
      refine ⟨_, rfl, ?_⟩
      iterate 5 refine yb rfl ?_
      refine A1 (A2 (A4 (A0 (yb rfl (A1 (A2 (AQ (b := (ffN (pV m) 0 m.vars).isSome) rfl (fun h51 => ?_) (fun h51 => ?_))))))))
      ·exact A4 (A0 (yb rfl (yb rfl (yb rfl (A1 (A2 (AD (AA (BY rfl rfl rfl ⟨congrArg Ending.returned (sU h42 h51), M.fr⟩)))))))))
      ·refine AL (A2 (A4 (A0 (yb rfl (yl rfl rfl (M.cell 2 rfl rfl) (F1 M (A9 rfl) rfl rfl [str m.id] ([str m.id]) rfl rfl rfl rfl underlying45 D5 rfl rfl (JL rfl) rfl fun g55 w12 hg55 M => cl 56 rfl (AF rfl rfl call70) (SM (some ⟨g55, 0, none⟩) 1 [m.id] _ (AP rfl) (M.rdBlk 0 rfl rfl)) ?_))))))
       rintro _ w13 ⟨ga56, gb56, rfl, hfr, hnw, hfw13⟩
       refine ⟨_, rfl, ?_⟩
       have M := M.push hfw13 (As.fresh ga56 gb56 [m.id]) hfr hnw
       refine BI M (A9 rfl) rfl rfl 135 rfl [.nilFunc] F3 rfl fun g8 w14 hg8 M => BQ (cs' := [.func (.func 126) #[] #[pg ga56]]) M 0 (A9 rfl) rfl rfl rfl rfl rfl rfl rfl F4 (AZ rfl) rfl fun w15 M => A1 (A2 (A4 (A4 (A0 (yb rfl (yl rfl rfl (M.cell 5 rfl rfl) (ya rfl (CT (us := []) (vs := [pg g8]) rfl rfl rfl) ?_)))))))
       have hnU61 := M.noU 1 rfl hY
       have hnw61 : ∀ k, (k = ga56 ∨ k = gb56) → w.heap.size ≤ k := M.newF 1 rfl
       refine cl 61 rfl (AF rfl rfl call74) (WO a.E a.ec m.els (by have := ho.nvars; have := ho.nels; have := ho.nfls; omega) 76 [pg g8] (pE m) (fun k => k = ga56 ∨ k = gb56) (fun i W => Fresh W ga56 gb56 (FJ (fun x : El => x.id) [m.id] m.els i)) _ (iD ho.els (EX hY.utf M.fr) (M.ok 1 _ rfl) hnU61 (M.neFresh 0 1 rfl rfl (by decide)) (M.blk 0 rfl)) (fun w9 hf9 => hx.md.els.fr0 (FB M.fr hf9 hnw61)) (M.ok 1 _ rfl)) ?_
       rintro _ w16 ⟨rfl, hJw16, hfw16⟩
       have M := M.updFresh 1 rfl hJw16 hfw16
       refine ⟨_, rfl, ?_⟩
       iterate 5 refine yb rfl ?_
       refine A1 (A2 (A4 (A0 (yb rfl (A1 (A2 (AQ (b := (ffN (pE m) 0 m.els).isSome) rfl (fun h64 => ?_) (fun h64 => ?_))))))))
       ·exact A4 (A0 (yb rfl (yb rfl (yb rfl (A1 (A2 (AD (AA (BY rfl rfl rfl ⟨congrArg Ending.returned (sW h42 h51 h64), M.fr⟩)))))))))
       ·rw [o0 h64] at M
        refine AL (A2 (A4 (A0 (yb rfl (yl rfl rfl (M.cell 5 rfl rfl) (ya rfl (CT (us := []) (vs := [pg g8]) rfl rfl rfl) ?_))))))
        have hnU69 := M.noU 1 rfl hY
        have hnw69 : ∀ k, (k = ga56 ∨ k = gb56) → w.heap.size ≤ k := M.newF 1 rfl
        refine cl 69 rfl (AF rfl rfl call77) (WN a.F a.fc m.fls (by have := ho.nvars; have := ho.nels; have := ho.nfls; omega) 79 [pg g8] (pF m) (fun k => k = ga56 ∨ k = gb56) (fun i W => Fresh W ga56 gb56 (FJ (fun x : Fl => x.id) (FJ (fun x : El => x.id) [m.id] m.els m.els.length) m.fls i)) _ (iB ho.fls (EX hY.utf M.fr) (M.ok 1 _ rfl) hnU69 (M.neFresh 0 1 rfl rfl (by decide)) (M.blk 0 rfl)) (fun w9 hf9 => hx.md.fls.fr0 (FB M.fr hf9 hnw69)) (M.ok 1 _ rfl)) ?_
        rintro _ w17 ⟨rfl, hJw17, hfw17⟩
        have M := M.updFresh 1 rfl hJw17 hfw17
        refine ⟨_, rfl, ?_⟩
        iterate 4 refine yb rfl ?_
        exact A1 (A2 (AD (BY rfl rfl rfl ⟨congrArg Ending.returned (sV h42 h51 h64), M.fr⟩)))
    refine AE (d := 37) (b := ((((!(BU m.id)) || (!(LJ m.nm))) || (decide ((64 : Int) < ((m.els.length : Nat) : Int)))) || (decide ((128 : Int) < ((m.fls.length : Nat) : Int))))) rfl (fun h37 => ?_) (fun h37 => ?_)
    ·iterate 4 refine yo rfl ?_
     exact yb rfl (k37 _ _ M ⟨rfl, (by rw [h37]; rfl), trivial⟩)
    ·exact yd rfl (yp rfl) (ym rfl rfl (M.cell 0 rfl rfl) (yd rfl (CY rfl rfl (sl rfl)) (yd rfl (FR rfl rfl rfl) (yb rfl (k37 _ _ M ⟨rfl, (by rw [h37]; rfl), trivial⟩)))))
   refine AE (d := 31) (b := (((!(BU m.id)) || (!(LJ m.nm))) || (decide ((64 : Int) < ((m.els.length : Nat) : Int))))) rfl (fun h31 => ?_) (fun h31 => ?_)
   ·iterate 4 refine yo rfl ?_
    exact yb rfl (k31 _ _ M ⟨rfl, (by rw [h31]; rfl), trivial⟩)
   ·exact yd rfl (yp rfl) (ym rfl rfl (M.cell 0 rfl rfl) (yd rfl (CY rfl rfl (sl rfl)) (yd rfl (FR rfl rfl rfl) (yb rfl (k31 _ _ M ⟨rfl, (by rw [h31]; rfl), trivial⟩)))))
  refine AE (d := 25) (b := ((!(BU m.id)) || (!(LJ m.nm)))) rfl (fun h25 => ?_) (fun h25 => ?_)
  ·iterate 4 refine yo rfl ?_
   exact yb rfl (k25 _ _ M ⟨rfl, (by rw [h25]; rfl), trivial⟩)
  ·exact yd rfl (yp rfl) (ym rfl rfl (M.cell 0 rfl rfl) (yd rfl (CY rfl rfl (sl rfl)) (yd rfl (FR rfl rfl rfl) (yb rfl (k25 _ _ M ⟨rfl, (by rw [h25]; rfl), trivial⟩)))))
 refine AE (d := 19) (b := (!(BU m.id))) rfl (fun h19 => ?_) (fun h19 => ?_)
 ·iterate 4 refine yo rfl ?_
  exact yb rfl (k19 _ _ M ⟨rfl, (by rw [h19]; rfl), trivial⟩)
 ·refine yd rfl (yp rfl) (ym rfl rfl (M.cell 0 rfl rfl) (CC (some 22) (B7 rfl rfl rfl) rfl rfl (AF rfl rfl call69) (ZL _ _ ho.nm (EX hY.utf M.fr)) ?_))
  rintro _ w18 ⟨rfl, hfw18⟩
  refine ⟨_, rfl, ?_⟩
  have M := M.step hfw18
  exact yd rfl (yp rfl) (yb rfl (k19 _ _ M ⟨rfl, (by rw [h19]; rfl), trivial⟩))
end Go.Proofs.YtadgfojhjnkliaaGreatDoor
