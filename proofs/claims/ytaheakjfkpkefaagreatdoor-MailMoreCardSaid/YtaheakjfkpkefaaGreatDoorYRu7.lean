/- Lemmas that the last text rests on. Condition: each says its own. -/
import Derived.Test.YtaheakjfkpkefaaGreatDoorYRu6
import Derived.Test.YtaheakjfkpkefaaGreatDoorYRu9
set_option maxHeartbeats 16000000
set_option maxRecDepth 100000
namespace Go.Proofs.YtaheakjfkpkefaaGreatDoor
open Go.RowKit
open Tryz
def EN {α : Type} (f : α → List UInt8) (base : List (List UInt8)) (l : List α) (i : Nat) : List (List UInt8) := ((l.take i).map f).reverse ++ base
theorem MQ {α : Type} {f : α → List UInt8} {base : List (List UInt8)} {l : List α} {i : Nat} {x : α} (hx : l[i]? = some x) : EN f base l (i + 1) = f x :: EN f base l i := by
 unfold EN
 rw [AJ hx, List.map_append, List.reverse_append]; rfl
def pV (m : Md) (i : Nat) (x : Bd) : Bool := FK x.name (EN (fun x => x.name) [] m.vars i) && decide (chk x.v = (0 : Int))
def pE (m : Md) (i : Nat) (x : El) : Bool := FK x.id (EN (fun x => x.id) [m.id] m.els i) && QU x.nm
def pF (m : Md) (i : Nat) (x : Fl) : Bool := FK x.id (EN (fun x => x.id) (EN (fun x => x.id) [m.id] m.els m.els.length) m.fls i)
def OU (m : Md) : Bool := (((((!(BU m.id)) || (!(QU m.nm))) || (decide ((64 : Int) < ((m.els.length : Nat) : Int)))) || (decide ((128 : Int) < ((m.fls.length : Nat) : Int)))) || (decide ((16 : Int) < ((m.vars.length : Nat) : Int))))
def FA (m : Md) : Option (List UInt8) := if OU m = true then some [] else match ffN (pV m) 0 m.vars with
 | some b => some b.name
 | none => match ffN (pE m) 0 m.els with
  | some b => some b.id
  | none => (ffN (pF m) 0 m.fls).map (·.id)
section
variable {m : Md} (h : OU m = false)
include h
theorem sQ (h1 : (ffN (pV m) 0 m.vars).isSome = true) : Value.tuple #[str ((ffN (pV m) 0 m.vars).elim [] (fun x => x.name)), .bool true] = J9 (FA m) := by
 unfold FA
 rw [AS h]
 cases hq : ffN (pV m) 0 m.vars with
 | none => rw [hq] at h1; cases h1
 | some b => rfl
theorem sS (h1 : (ffN (pV m) 0 m.vars).isSome = false) (h2 : (ffN (pE m) 0 m.els).isSome = true) : Value.tuple #[str ((ffN (pE m) 0 m.els).elim [] (fun x => x.id)), .bool true] = J9 (FA m) := by
 unfold FA
 rw [AS h]
 cases hq : ffN (pV m) 0 m.vars with
 | some b => rw [hq] at h1; cases h1
 | none =>
  cases hr : ffN (pE m) 0 m.els with
  | none => rw [hr] at h2; cases h2
  | some b => rfl
theorem sR (h1 : (ffN (pV m) 0 m.vars).isSome = false) (h2 : (ffN (pE m) 0 m.els).isSome = false) : Value.tuple #[str ((ffN (pF m) 0 m.fls).elim [] (fun x => x.id)), .bool (ffN (pF m) 0 m.fls).isSome] = J9 (FA m) := by
 unfold FA
 rw [AS h]
 cases hq : ffN (pV m) 0 m.vars with
 | some b => rw [hq] at h1; cases h1
 | none =>
  cases hr : ffN (pE m) 0 m.els with
  | some b => rw [hr] at h2; cases h2
  | none => cases ffN (pF m) 0 m.fls <;> rfl
end
theorem aD {α : Type} {p : Nat → α → Bool} : ∀ (l : List α) (i : Nat), ffN p i l = none → ixN (fun i x => !(p i x)) i l = i + l.length
 | [], _, _ => rfl
 | x :: r, i, h => by
  rw [ffN] at h
  by_cases hp : p i x = true
  ·rw [if_pos hp] at h
   rw [ixN, if_neg (by simp [hp]), aD r (i + 1) h, List.length_cons]; omega
  ·rw [if_neg hp] at h; cases h
theorem oD {α : Type} {p : Nat → α → Bool} {l : List α} (h : (ffN p 0 l).isSome = false) : ixN (fun i x => !(p i x)) 0 l = l.length := by
 have : ffN p 0 l = none := by
  cases hq : ffN p 0 l with
  | none => rfl
  | some x => rw [hq] at h; cases h
 rw [aD l 0 this, Nat.zero_add]
theorem D4 {w wc w9 : World} {S : Nat → Prop} (hf : Fr0 w wc) (h9 : Fr S wc w9) (hS : ∀ k, S k → w.heap.size ≤ k) : Fr0 w w9 :=
 ⟨h9.os.trans hf.os, h9.tape.trans hf.tape, h9.output.trans hf.output, Nat.le_trans hf.size h9.size, fun k hk _ => (h9.block k (Nat.lt_of_lt_of_le hk hf.size) (fun hh => by have := hS k hh; omega)).trans (hf.block k hk (fun hh => hh))⟩
theorem mH {k : Nat} (h : U5 k) : k < nGlob := by
 have hn := WM
 simp only [Bool.and_eq_true] at hn
 obtain ⟨n1, n2, _, _⟩ := hn
 obtain ⟨p, hp, rfl⟩ := h
 simp only [utfL, List.mem_cons, List.not_mem_nil, or_false] at hp
 rcases hp with rfl | rfl
 ·exact BR n1
 ·exact BR n2
theorem Mem.newF {w0 w : World} {L : List As} (M : Mem w0 AM L w) (i : Nat) {g3 g6 : Nat} {seen : List (List UInt8)} (hi : L[i]? = some (As.fresh g3 g6 seen)) : ∀ k, (k = g3 ∨ k = g6) → w0.heap.size ≤ k := fun k hk =>
 (M.new0 i hi k (by simpa [As.fresh] using hk)).1
theorem Mem.noU {w0 w : World} {L : List As} (M : Mem w0 AM L w) (i : Nat) {g3 g6 : Nat} {seen : List (List UInt8)} (hi : L[i]? = some (As.fresh g3 g6 seen)) (hY : Lay0 w0) : ∀ k, (k = g3 ∨ k = g6) → ¬ U5 k := fun k hk hu => by
 have h1 := M.newF i hi k hk
 have h2 : nGlob ≤ w0.heap.size := hY.size
 have h3 := mH hu
 omega
theorem Mem.neFresh {w0 w : World} {S : Nat → Prop} {L : List As} (M : Mem w0 S L w) (i j : Nat) {g t g3 g6 : Nat} {cs : List Value} {seen : List (List UInt8)} (hi : L[i]? = some (As.blk g t cs)) (hj : L[j]? = some (As.fresh g3 g6 seen)) (h : i ≠ j) : ¬ (g = g3 ∨ g = g6) := fun hh =>
 M.apart i j _ _ hi hj h g (by simp [As.blk]) (by simpa [As.fresh] using hh)
section
variable {g3 g6 g5 : Nat} {base : List (List UInt8)} {w : World}
theorem P3 (hF : Fresh w g3 g6 base) : ∀ g, (g = g3 ∨ g = g6) → g < w.heap.size := fun g hg => by
 obtain ⟨h1, _, L, h2, _⟩ := hF
 rcases hg with rfl | rfl
 ·exact h1.lt
 ·exact j5 h2
theorem iK {l : List Bd} (hok : BdOk l) (hT : Laid w utfL) (hF : Fresh w g3 g6 base) (hnu : ∀ k, (k = g3 ∨ k = g6) → ¬ U5 k) (hn5 : ¬ (g5 = g3 ∨ g5 = g6)) (hb5 : Blk w g5 97 [.func (.func 158) #[] #[pg g3]]) :
 PredJ prog 109 [pg g5] (fun x : Bd => .agg x.cells.toArray) l (fun i x => FK x.name (EN (fun x => x.name) base l i) && decide (chk x.v = (0 : Int))) (fun k => k = g3 ∨ k = g6) (fun i W => Fresh W g3 g6 (EN (fun x => x.name) base l i)) w where
 fn := call109
 call i x w1 hx hf hJ := by
  have hm := List.mem_of_getElem? hx
  have h := nP g3 g6 g5 (EN (fun x => x.name) base l i) x w1 (hok.name x hm) (hok.text x hm) (L9 hT hf hnu) hnu hJ hn5 (hb5.fr hf hn5)
  rw [← MQ (f := fun x : Bd => x.name) (base := base) hx] at h
  exact h
 st i w1 w2 hf hJ := hJ.keep (fun g _ hg => hf.block g hg (fun hh => hh))
 old := P3 hF
theorem iJ {l : List El} (hok : ∀ x ∈ l, ElOk x) (hT : Laid w utfL) (hF : Fresh w g3 g6 base) (hnu : ∀ k, (k = g3 ∨ k = g6) → ¬ U5 k) (hn5 : ¬ (g5 = g3 ∨ g5 = g6)) (hb5 : Blk w g5 97 [.func (.func 158) #[] #[pg g3]]) :
 PredJ prog 112 [pg g5] (fun x : El => .agg x.cells.toArray) l (fun i x => FK x.id (EN (fun x => x.id) base l i) && QU x.nm) (fun k => k = g3 ∨ k = g6) (fun i W => Fresh W g3 g6 (EN (fun x => x.id) base l i)) w where
 fn := call112
 call i x w1 hx hf hJ := by
  have hm := List.mem_of_getElem? hx
  have h := nO g3 g6 g5 (EN (fun x => x.id) base l i) x w1 (hok x hm).id (hok x hm).nm (L9 hT hf hnu) hnu hJ hn5 (hb5.fr hf hn5)
  rw [← MQ (f := fun x : El => x.id) (base := base) hx] at h
  exact h
 st i w1 w2 hf hJ := hJ.keep (fun g _ hg => hf.block g hg (fun hh => hh))
 old := P3 hF
theorem iI {l : List Fl} (hok : ∀ x ∈ l, FlOk x) (hT : Laid w utfL) (hF : Fresh w g3 g6 base) (hnu : ∀ k, (k = g3 ∨ k = g6) → ¬ U5 k) (hn5 : ¬ (g5 = g3 ∨ g5 = g6)) (hb5 : Blk w g5 97 [.func (.func 158) #[] #[pg g3]]) :
 PredJ prog 115 [pg g5] (fun x : Fl => .agg x.cells.toArray) l (fun i x => FK x.id (EN (fun x => x.id) base l i)) (fun k => k = g3 ∨ k = g6) (fun i W => Fresh W g3 g6 (EN (fun x => x.id) base l i)) w where
 fn := call115
 call i x w1 hx hf hJ := by
  have hm := List.mem_of_getElem? hx
  have h := nN g3 g6 g5 (EN (fun x => x.id) base l i) x w1 (hok x hm).id (L9 hT hf hnu) hnu hJ hn5 (hb5.fr hf hn5)
  rw [← MQ (f := fun x : Fl => x.id) (base := base) hx] at h
  exact h
 st i w1 w2 hf hJ := hJ.keep (fun g _ hg => hf.block g hg (fun hh => hh))
 old := P3 hF
end
theorem FY : (prog.info? 97).map (·.size) = some 1 := by kernel_rfl
theorem zr_api_Model : (prog.info? 62).map (·.zero) = some (some (.agg #[str [], str [], .slice none 0 0, .slice none 0 0, .slice none 0 0])) := by kernel_rfl
theorem FU : (prog.info? 97).map (·.zero) = some (some (.nilFunc)) := by kernel_rfl
theorem nM (m : Md) (a : MdA) (ix : IxA) (gx : Nat) (w : World) (ho : MdB m) (hx : IxAt w m a ix gx) (hY : Lay0 w) :
 Calls prog 66 #[pg gx] w (BN w (J9 (FA m))) := by
 refine BL func66 ntmps66 rfl fun M => AC rfl (AG rfl (AC rfl (AV rfl rfl (ya rfl (AH (xs := [str m.id, str m.nm, .slice a.V m.vars.length a.vc, .slice a.E m.els.length a.ec, .slice a.F m.fls.length a.fc]) rfl rfl (DK ((hx.fr0 M.fr).blk) 0 5 rfl rfl) underlying62 rfl B6) (CO M rfl zr_api_Model fun g4 w1 hg4 M => C2 M 0 rfl rfl B6 rfl ?_)))))
 intro w2 M
 refine nq (sx_seq (AC rfl (B2 M 0 rfl rfl rfl (DV M 17 rfl rfl call61 (DJ _ _ ho.id) fun w3 M => AV rfl rfl (fvm M 5 [4] [(24, .bool ((!(BU m.id)) || (!(QU m.nm))))] ?_ (fun k19 => ?_))))))
 ·intro w4 M
  refine yb rfl (fvm M 5 [4] [(30, .bool (((!(BU m.id)) || (!(QU m.nm))) || (decide (64 < (m.els.length : Int)))))] ?_ (fun k25 => ?_))
  ·intro w5 M
   refine yb rfl (fvm M 5 [4] [(36, .bool ((((!(BU m.id)) || (!(QU m.nm))) || (decide (64 < (m.els.length : Int)))) || (decide (128 < (m.fls.length : Int)))))] ?_ (fun k31 => ?_))
   ·intro w6 M
    refine yb rfl (fvm M 5 [4] [(42, .bool (((((!(BU m.id)) || (!(QU m.nm))) || (decide (64 < (m.els.length : Int)))) || (decide (128 < (m.fls.length : Int)))) || (decide (16 < (m.vars.length : Int)))))] ?_ (fun k37 => ?_))
    ·intro w7 M
     refine nq (AF rfl (fun h42 => ?_) (fun h42 => ?_))
     ·have h42p := ((E6 h42).imp (fun z => ((E6 z).imp (fun z => ((E6 z).imp (fun z => ((E6 z).imp (fun z => (BY z)) (fun z => (BY z)))) (fun z => (odt z)))) (fun z => (odt z)))) (fun z => (odt z)))
      exact AC rfl (yb rfl (gnr (qx_then_ret (BS rfl rfl rfl ⟨by rw [show FA m = some [] from if_pos h42]; rfl, M.fr⟩))))
     ·have h42p := (And.intro (And.intro (And.intro (And.intro (BJ (BT (BT (BT (BT h42).1).1).1).1) (BJ (BT (BT (BT (BT h42).1).1).1).2)) (odf (BT (BT (BT h42).1).1).2)) (odf (BT (BT h42).1).2)) (odf (BT h42).2))
      refine sx_skip (qx_seq (srg (cl 43 rfl (AE rfl rfl call106) (TA none 0 [] _ (Nat.zero_le _) Rd.nil) ?_)))
      rintro _ w8 ⟨ga43, gb43, rfl, hfr, hnw, hfw8⟩
      refine ⟨_, rfl, ?_⟩
      have M := M.push hfw8 (As.fresh ga43 gb43 []) hfr hnw
      refine E4 M (wn_none rfl) rfl rfl 97 rfl [.nilFunc] FU rfl fun g5 w9 hg5 M => CF (cs' := [.func (.func 158) #[] #[pg ga43]]) M 0 (wn_none rfl) rfl rfl rfl rfl rfl rfl rfl FY (BR rfl) rfl fun w10 M => nq (sx_seq (AC rfl (B2 M 2 rfl rfl rfl (ya rfl (CE (us := []) (vs := [pg g5]) rfl rfl rfl) ?_))))
      have hnU48 := M.noU 1 rfl hY
      have hnw48 : ∀ k, (k = ga43 ∨ k = gb43) → w.heap.size ≤ k := M.newF 1 rfl
      refine cl 48 rfl (AE rfl rfl call107) (kO a.V a.vc m.vars (by have := ho.nvars; have := ho.nels; have := ho.nfls; omega) 109 [pg g5] (pV m) (fun k => k = ga43 ∨ k = gb43) (fun i W => Fresh W ga43 gb43 (EN (fun x : Bd => x.name) [] m.vars i)) _ (iK ho.vars (FG hY.utf M.fr) (M.ok 1 _ rfl) hnU48 (M.neFresh 0 1 rfl rfl AU) (M.blk 0 rfl)) (fun w9 hf9 => hx.md.vars.fr0 (D4 M.fr hf9 hnw48)) (M.ok 1 _ rfl)) ?_
      rintro _ w11 ⟨rfl, hJw11, hfw11⟩
      have M := M.updFresh 1 rfl hJw11 hfw11
      refine ⟨_, rfl, ?_⟩
      iterate 5 refine yb rfl ?_
      refine EF (AG rfl (AF rfl (fun h51 => ?_) (fun h51 => ?_)))
      ·exact AC rfl (AV rfl rfl (gnr (qx_then_ret (BS rfl rfl rfl ⟨congrArg Ending.returned (sQ h42 h51), M.fr⟩))))
      ·refine sx_skip (qx_seq (AC rfl (B2 M 2 rfl rfl rfl (CU M (wn_none rfl) rfl rfl [str m.id] ([str m.id]) rfl rfl rfl rfl underlying48 CP rfl rfl (EZ rfl) rfl fun g55 w12 hg55 M => cl 56 rfl (AE rfl rfl call106) (TA (some ⟨g55, 0, none⟩) 1 [m.id] _ (D0 rfl) (M.rdBlk 0 rfl rfl)) ?_))))
       rintro _ w13 ⟨ga56, gb56, rfl, hfr, hnw, hfw13⟩
       refine ⟨_, rfl, ?_⟩
       have M := M.push hfw13 (As.fresh ga56 gb56 [m.id]) hfr hnw
       refine E4 M (wn_none rfl) rfl rfl 97 rfl [.nilFunc] FU rfl fun g8 w14 hg8 M => CF (cs' := [.func (.func 158) #[] #[pg ga56]]) M 0 (wn_none rfl) rfl rfl rfl rfl rfl rfl rfl FY (BR rfl) rfl fun w15 M => nq (sx_seq (AC rfl (B2 M 5 rfl rfl rfl (ya rfl (CE (us := []) (vs := [pg g8]) rfl rfl rfl) ?_))))
       have hnU61 := M.noU 1 rfl hY
       have hnw61 : ∀ k, (k = ga56 ∨ k = gb56) → w.heap.size ≤ k := M.newF 1 rfl
       refine cl 61 rfl (AE rfl rfl call110) (X4 a.E a.ec m.els (by have := ho.nvars; have := ho.nels; have := ho.nfls; omega) 112 [pg g8] (pE m) (fun k => k = ga56 ∨ k = gb56) (fun i W => Fresh W ga56 gb56 (EN (fun x : El => x.id) [m.id] m.els i)) _ (iJ ho.els (FG hY.utf M.fr) (M.ok 1 _ rfl) hnU61 (M.neFresh 0 1 rfl rfl AU) (M.blk 0 rfl)) (fun w9 hf9 => hx.md.els.fr0 (D4 M.fr hf9 hnw61)) (M.ok 1 _ rfl)) ?_
       rintro _ w16 ⟨rfl, hJw16, hfw16⟩
       have M := M.updFresh 1 rfl hJw16 hfw16
       refine ⟨_, rfl, ?_⟩
       iterate 5 refine yb rfl ?_
       refine EF (AG rfl (AF rfl (fun h64 => ?_) (fun h64 => ?_)))
       ·exact AC rfl (AV rfl rfl (gnr (qx_then_ret (BS rfl rfl rfl ⟨congrArg Ending.returned (sS h42 h51 h64), M.fr⟩))))
       ·rw [oD h64] at M
        refine sx_skip (qx_seq (AC rfl (B2 M 5 rfl rfl rfl (ya rfl (CE (us := []) (vs := [pg g8]) rfl rfl rfl) ?_))))
        have hnU69 := M.noU 1 rfl hY
        have hnw69 : ∀ k, (k = ga56 ∨ k = gb56) → w.heap.size ≤ k := M.newF 1 rfl
        refine cl 69 rfl (AE rfl rfl call113) (X3 a.F a.fc m.fls (by have := ho.nvars; have := ho.nels; have := ho.nfls; omega) 115 [pg g8] (pF m) (fun k => k = ga56 ∨ k = gb56) (fun i W => Fresh W ga56 gb56 (EN (fun x : Fl => x.id) (EN (fun x : El => x.id) [m.id] m.els m.els.length) m.fls i)) _ (iI ho.fls (FG hY.utf M.fr) (M.ok 1 _ rfl) hnU69 (M.neFresh 0 1 rfl rfl AU) (M.blk 0 rfl)) (fun w9 hf9 => hx.md.fls.fr0 (D4 M.fr hf9 hnw69)) (M.ok 1 _ rfl)) ?_
        rintro _ w17 ⟨rfl, hJw17, hfw17⟩
        have M := M.updFresh 1 rfl hJw17 hfw17
        refine ⟨_, rfl, ?_⟩
        iterate 4 refine yb rfl ?_
        exact gnr (BS rfl rfl rfl ⟨congrArg Ending.returned (sR h42 h51 h64), M.fr⟩)
    refine AD (d := 37) rfl (fun h37 => ?_) (fun h37 => ?_)
    ·iterate 4 refine yo rfl ?_
     exact yb rfl (k37 M ⟨rfl, (by rw [h37]; rfl), trivial⟩)
    ·exact gyq rfl (C3 M 0 rfl rfl rfl (yd rfl (F5 rfl rfl (sl rfl)) (yd rfl (G9 rfl rfl rfl) (yb rfl (k37 M ⟨rfl, (by rw [h37]; rfl), trivial⟩)))))
   refine AD (d := 31) rfl (fun h31 => ?_) (fun h31 => ?_)
   ·iterate 4 refine yo rfl ?_
    exact yb rfl (k31 M ⟨rfl, (by rw [h31]; rfl), trivial⟩)
   ·exact gyq rfl (C3 M 0 rfl rfl rfl (yd rfl (F5 rfl rfl (sl rfl)) (yd rfl (G9 rfl rfl rfl) (yb rfl (k31 M ⟨rfl, (by rw [h31]; rfl), trivial⟩)))))
  refine AD (d := 25) rfl (fun h25 => ?_) (fun h25 => ?_)
  ·iterate 4 refine yo rfl ?_
   exact yb rfl (k25 M ⟨rfl, (by rw [h25]; rfl), trivial⟩)
  ·exact gyq rfl (C3 M 0 rfl rfl rfl (yd rfl (F5 rfl rfl (sl rfl)) (yd rfl (G9 rfl rfl rfl) (yb rfl (k25 M ⟨rfl, (by rw [h25]; rfl), trivial⟩)))))
 refine AD (d := 19) rfl (fun h19 => ?_) (fun h19 => ?_)
 ·iterate 4 refine yo rfl ?_
  exact yb rfl (k19 M ⟨rfl, (by rw [h19]; rfl), trivial⟩)
 ·refine gyq rfl (C3 M 0 rfl rfl rfl (sxl_call (some 22) (wn_on rfl rfl rfl) rfl rfl (AE rfl rfl call105) (ZD _ _ ho.nm (FG hY.utf M.fr)) ?_))
  rintro _ w18 ⟨rfl, hfw18⟩
  refine ⟨_, rfl, ?_⟩
  have M := M.step hfw18
  exact gyq rfl (yb rfl (k19 M ⟨rfl, (by rw [h19]; rfl), trivial⟩))
end Go.Proofs.YtaheakjfkpkefaaGreatDoor
