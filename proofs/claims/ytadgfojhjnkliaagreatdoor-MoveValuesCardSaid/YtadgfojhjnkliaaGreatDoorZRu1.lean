/- Lemmas that the last text rests on. Condition: each says its own. -/
import Derived.Test.YtadgfojhjnkliaaGreatDoorZRu0
import Derived.Test.YtadgfojhjnkliaaGreatDoorZSxG
set_option maxHeartbeats 16000000
set_option maxRecDepth 100000
namespace Go.Proofs.YtadgfojhjnkliaaGreatDoor
open Go.RowKit
open Tryz
theorem tB (x : El) (w : World) : Calls prog 75 #[.agg x.cells.toArray] w fun e w' => e = .returned (str x.id) ∧ Fr0 w w' := by
 refine AK (vs := [_]) func75 rfl ntmps75 rfl ?_
 have M := CK w
 refine A4 (A0 (BD M (A9 rfl) rfl rfl 62 rfl rfl (El.cells x) rfl fun g1 w1 hg1 M => yb rfl (A1 (A2 (A4 (A0 (yb rfl (yl rfl rfl (M.cell 0 rfl rfl) (yb rfl (A1 (A2 (AD (AH rfl rfl ?_)))))))))))))
 exact ⟨rfl, M.fr⟩
theorem tA (x : Fl) (w : World) : Calls prog 78 #[.agg x.cells.toArray] w fun e w' => e = .returned (str x.id) ∧ Fr0 w w' := by
 refine AK (vs := [_]) func78 rfl ntmps78 rfl ?_
 have M := CK w
 refine A4 (A0 (BD M (A9 rfl) rfl rfl 65 rfl rfl (Fl.cells x) rfl fun g1 w1 hg1 M => yb rfl (A1 (A2 (A4 (A0 (yb rfl (yl rfl rfl (M.cell 0 rfl rfl) (yb rfl (A1 (A2 (AD (AH rfl rfl ?_)))))))))))))
 exact ⟨rfl, M.fr⟩
theorem tC (x : Bd) (w : World) : Calls prog 72 #[.agg x.cells.toArray] w fun e w' => e = .returned (str x.name) ∧ Fr0 w w' := by
 refine AK (vs := [_]) func72 rfl ntmps72 rfl ?_
 have M := CK w
 refine A4 (A0 (BD M (A9 rfl) rfl rfl 95 rfl rfl (Bd.cells x) rfl fun g1 w1 hg1 M => yb rfl (A1 (A2 (A4 (A0 (yb rfl (yl rfl rfl (M.cell 0 rfl rfl) (yb rfl (A1 (A2 (AD (AH rfl rfl ?_)))))))))))))
 exact ⟨rfl, M.fr⟩
theorem rM (x : List UInt8) (w : World) : Calls prog 87 #[str x] w fun e w' => e = .returned (str x) ∧ Fr0 w w' := by
 refine AK (vs := [_]) func87 rfl ntmps87 rfl ?_
 have M := CK w
 exact A4 (A0 (yb rfl (A1 (A2 (A4 (A0 (yb rfl (yb rfl (A1 (A2 (AD (AH rfl rfl ⟨rfl, M.fr⟩))))))))))))
theorem qX (g : FuncId) (cs : List Value) (g5 : Nat) (x : El) (b : Bool) (K : World → Prop) (w : World) (hb : Blk w g5 79 [.func (.func g) #[] cs.toArray]) (hfn : ∀ (ar : Array Value) (w : World), (callFunc g ar).run prog w = .ok (.enter g ar) w)
 (hc : ∀ w3, Fr0 w w3 → Calls prog g (.agg x.cells.toArray :: cs).toArray w3 fun e w' => e = .returned (.bool b) ∧ K w') : Calls prog 128 #[.agg x.cells.toArray, pg g5] w fun e w' => e = .returned (.bool (!b)) ∧ K w' := by
 refine AK (vs := [_, _]) func128 rfl ntmps128 rfl ?_
 have M := CK w
 refine A4 (A0 (BD M (A9 rfl) rfl rfl 62 rfl rfl (El.cells x) rfl fun g2 w1 hg2 M => yb rfl (A1 (A2 (A4 (A0 (yl rfl rfl (Blk.c (hb.fr0 M.fr) 0 rfl) (ya rfl (AN (xs := El.cells x) rfl rfl (M.rdBlk 0 rfl rfl) underlying62 rfl AU) (cl 6 rfl (C0 rfl rfl rfl hfn) (hc _ M.fr) ?_)))))))))
 rintro _ w9 ⟨rfl, hK⟩
 exact ⟨_, rfl, yb rfl (yb rfl (A1 (A2 (AD (AH rfl rfl ⟨rfl, hK⟩)))))⟩
theorem nM {l : List (El)} {g : FuncId} {cs : List Value} {p : Nat → El → Bool} {S : Nat → Prop} {J : Nat → World → Prop} {w w1 : World} {g5 : Nat} (hP : PredJ prog g cs (fun x : El => .agg x.cells.toArray) l p S J w) (hf : Fr0 w w1) (hg : w.heap.size ≤ g5) (hb : Blk w1 g5 79 [.func (.func g) #[] cs.toArray]) :
 PredJ prog 128 [pg g5] (fun x : El => .agg x.cells.toArray) l (fun i x => !(p i x)) S J w1 where
 fn := call128
 call i x w2 hx hf2 hJ := by
  have hn : ¬ S g5 := fun h => by have := hP.old g5 h; omega
  exact qX g cs g5 x (p i x) (fun w' => J (i + 1) w' ∧ Fr S w2 w') w2 (hb.fr hf2 hn) hP.fn fun w3 hf3 =>
   (hP.call i x w3 hx ((Fr.of0 hf).trans (hf2.then0 hf3)) (hP.st i w2 w3 hf3 hJ)).mono fun _ _ ⟨h1, h2, h3⟩ => ⟨h1, h2, (Fr.of0 hf3).trans h3⟩
 st := hP.st
 old s hs := Nat.lt_of_lt_of_le (hP.old s hs) hf.size
theorem WO (A : Option Addr) (c : Nat) (l : List (El)) (hl : l.length ≤ 4611686018427387904) (g : FuncId) (cs : List Value) (p : Nat → El → Bool) (S : Nat → Prop) (J : Nat → World → Prop) (w : World) (hP : PredJ prog g cs (fun x : El => .agg x.cells.toArray) l p S J w) (hR : ∀ w1, Fr S w w1 → Rd w1 A (l.length * 11) (AR El.cells l)) (hJ : J 0 w) :
 Calls prog 74 #[.slice A l.length c, .func (.func 75) #[] #[], .func (.func g) #[] cs.toArray] w fun e w' => e = .returned (.tuple #[str ((ffN p 0 l).elim [] (fun x => x.id)), .bool (ffN p 0 l).isSome]) ∧ J (ixN (fun i x => !(p i x)) 0 l) w' ∧ Fr S w w' := by
 refine AK (vs := [_, _, _]) func74 rfl ntmps74 rfl ?_
 have M := CK w
 refine A4 (A0 (BD M (A9 rfl) rfl rfl 79 rfl rfl ([.func (.func g) #[] cs.toArray]) rfl fun g5 w1 hg5 M => yb rfl (yb rfl (A1 (A2 (A4 (A0 (yb rfl (ya rfl (CT (us := []) (vs := [pg g5]) rfl rfl rfl) (cl 11 rfl (AF rfl rfl call21) (UK El.cells El.len A c l hl 128 [pg g5] (fun i x => !(p i x)) S J _ (nM hP M.fr hg5 (M.blk 0 rfl)) (fun w9 hf9 => hR w9 ((Fr.of0 M.fr).trans hf9)) (hP.st 0 _ _ M.fr hJ)) ?_))))))))))
 rintro _ w9 ⟨rfl, hJ9, hf9⟩
 refine ⟨_, rfl, ?_⟩
 have M : Mem w S [] w9 := Mem.ofFr ((Fr.of0 M.fr).trans hf9)
 refine yb rfl (A1 (A2 (A4 (A4 (A0 (yb rfl (ya rfl (CH rfl rfl rfl) (A1 (A2 (AQ (b := (decide ((ixJ (fun i x => !(p i x)) 0 l) < (0 : Int)))) rfl (fun h13 => ?_) (fun h13 => ?_)))))))))))
 ·have h13p := (odt h13)
  have hff := LQ h13p
  exact A4 (A0 (yb rfl (yb rfl (A1 (A2 (AD (AA (BY rfl rfl rfl ⟨by rw [hff]; rfl, hJ9, M.fr⟩))))))))
 ·have h13p := (odf h13)
  obtain ⟨j, x, hj, hx, hff⟩ := LR h13p
  have hjl : j < l.length := (List.getElem?_eq_some_iff.1 hx).1
  rw [hj]
  obtain ⟨b_x, o_x, hA_x⟩ := CL (k := 11) (by omega) (hR _ M.fr) hx
  refine AL (A2 (A4 (A0 (yb rfl (yb rfl (yb rfl (ya rfl (BW j hA_x rfl rfl rfl (sl rfl) (by omega)) (ya rfl (AN rfl rfl (DK El.len (hR _ M.fr) hA_x hx) underlying62 rfl AU) (cl 19 rfl (C0 rfl rfl rfl call75) (tB x _) ?_)))))))))
  rintro _ w10 ⟨rfl, hf10⟩
  exact ⟨_, rfl, yb rfl (yb rfl (A1 (A2 (AD (BY rfl rfl rfl ⟨by rw [hff]; rfl, hP.st _ _ _ hf10 hJ9, M.fr.then0 hf10⟩)))))⟩
theorem qW (g : FuncId) (cs : List Value) (g5 : Nat) (x : Fl) (b : Bool) (K : World → Prop) (w : World) (hb : Blk w g5 99 [.func (.func g) #[] cs.toArray]) (hfn : ∀ (ar : Array Value) (w : World), (callFunc g ar).run prog w = .ok (.enter g ar) w)
 (hc : ∀ w3, Fr0 w w3 → Calls prog g (.agg x.cells.toArray :: cs).toArray w3 fun e w' => e = .returned (.bool b) ∧ K w') : Calls prog 130 #[.agg x.cells.toArray, pg g5] w fun e w' => e = .returned (.bool (!b)) ∧ K w' := by
 refine AK (vs := [_, _]) func130 rfl ntmps130 rfl ?_
 have M := CK w
 refine A4 (A0 (BD M (A9 rfl) rfl rfl 65 rfl rfl (Fl.cells x) rfl fun g2 w1 hg2 M => yb rfl (A1 (A2 (A4 (A0 (yl rfl rfl (Blk.c (hb.fr0 M.fr) 0 rfl) (ya rfl (AN (xs := Fl.cells x) rfl rfl (M.rdBlk 0 rfl rfl) underlying65 rfl CB) (cl 6 rfl (C0 rfl rfl rfl hfn) (hc _ M.fr) ?_)))))))))
 rintro _ w9 ⟨rfl, hK⟩
 exact ⟨_, rfl, yb rfl (yb rfl (A1 (A2 (AD (AH rfl rfl ⟨rfl, hK⟩)))))⟩
theorem nL {l : List (Fl)} {g : FuncId} {cs : List Value} {p : Nat → Fl → Bool} {S : Nat → Prop} {J : Nat → World → Prop} {w w1 : World} {g5 : Nat} (hP : PredJ prog g cs (fun x : Fl => .agg x.cells.toArray) l p S J w) (hf : Fr0 w w1) (hg : w.heap.size ≤ g5) (hb : Blk w1 g5 99 [.func (.func g) #[] cs.toArray]) :
 PredJ prog 130 [pg g5] (fun x : Fl => .agg x.cells.toArray) l (fun i x => !(p i x)) S J w1 where
 fn := call130
 call i x w2 hx hf2 hJ := by
  have hn : ¬ S g5 := fun h => by have := hP.old g5 h; omega
  exact qW g cs g5 x (p i x) (fun w' => J (i + 1) w' ∧ Fr S w2 w') w2 (hb.fr hf2 hn) hP.fn fun w3 hf3 =>
   (hP.call i x w3 hx ((Fr.of0 hf).trans (hf2.then0 hf3)) (hP.st i w2 w3 hf3 hJ)).mono fun _ _ ⟨h1, h2, h3⟩ => ⟨h1, h2, (Fr.of0 hf3).trans h3⟩
 st := hP.st
 old s hs := Nat.lt_of_lt_of_le (hP.old s hs) hf.size
theorem WN (A : Option Addr) (c : Nat) (l : List (Fl)) (hl : l.length ≤ 4611686018427387904) (g : FuncId) (cs : List Value) (p : Nat → Fl → Bool) (S : Nat → Prop) (J : Nat → World → Prop) (w : World) (hP : PredJ prog g cs (fun x : Fl => .agg x.cells.toArray) l p S J w) (hR : ∀ w1, Fr S w w1 → Rd w1 A (l.length * 4) (AR Fl.cells l)) (hJ : J 0 w) :
 Calls prog 77 #[.slice A l.length c, .func (.func 78) #[] #[], .func (.func g) #[] cs.toArray] w fun e w' => e = .returned (.tuple #[str ((ffN p 0 l).elim [] (fun x => x.id)), .bool (ffN p 0 l).isSome]) ∧ J (ixN (fun i x => !(p i x)) 0 l) w' ∧ Fr S w w' := by
 refine AK (vs := [_, _, _]) func77 rfl ntmps77 rfl ?_
 have M := CK w
 refine A4 (A0 (BD M (A9 rfl) rfl rfl 99 rfl rfl ([.func (.func g) #[] cs.toArray]) rfl fun g5 w1 hg5 M => yb rfl (yb rfl (A1 (A2 (A4 (A0 (yb rfl (ya rfl (CT (us := []) (vs := [pg g5]) rfl rfl rfl) (cl 11 rfl (AF rfl rfl call129) (aS Fl.cells Fl.len A c l hl 130 [pg g5] (fun i x => !(p i x)) S J _ (nL hP M.fr hg5 (M.blk 0 rfl)) (fun w9 hf9 => hR w9 ((Fr.of0 M.fr).trans hf9)) (hP.st 0 _ _ M.fr hJ)) ?_))))))))))
 rintro _ w9 ⟨rfl, hJ9, hf9⟩
 refine ⟨_, rfl, ?_⟩
 have M : Mem w S [] w9 := Mem.ofFr ((Fr.of0 M.fr).trans hf9)
 refine yb rfl (A1 (A2 (A4 (A4 (A0 (yb rfl (ya rfl (CH rfl rfl rfl) (A1 (A2 (AQ (b := (decide ((ixJ (fun i x => !(p i x)) 0 l) < (0 : Int)))) rfl (fun h13 => ?_) (fun h13 => ?_)))))))))))
 ·have h13p := (odt h13)
  have hff := LQ h13p
  exact A4 (A0 (yb rfl (yb rfl (A1 (A2 (AD (AA (BY rfl rfl rfl ⟨by rw [hff]; rfl, hJ9, M.fr⟩))))))))
 ·have h13p := (odf h13)
  obtain ⟨j, x, hj, hx, hff⟩ := LR h13p
  have hjl : j < l.length := (List.getElem?_eq_some_iff.1 hx).1
  rw [hj]
  obtain ⟨b_x, o_x, hA_x⟩ := CL (k := 4) (by omega) (hR _ M.fr) hx
  refine AL (A2 (A4 (A0 (yb rfl (yb rfl (yb rfl (ya rfl (BW j hA_x rfl rfl rfl (sl rfl) (by omega)) (ya rfl (AN rfl rfl (DK Fl.len (hR _ M.fr) hA_x hx) underlying65 rfl CB) (cl 19 rfl (C0 rfl rfl rfl call78) (tA x _) ?_)))))))))
  rintro _ w10 ⟨rfl, hf10⟩
  exact ⟨_, rfl, yb rfl (yb rfl (A1 (A2 (AD (BY rfl rfl rfl ⟨by rw [hff]; rfl, hP.st _ _ _ hf10 hJ9, M.fr.then0 hf10⟩)))))⟩
theorem qY (g : FuncId) (cs : List Value) (g5 : Nat) (x : Bd) (b : Bool) (K : World → Prop) (w : World) (hb : Blk w g5 143 [.func (.func g) #[] cs.toArray]) (hfn : ∀ (ar : Array Value) (w : World), (callFunc g ar).run prog w = .ok (.enter g ar) w)
 (hc : ∀ w3, Fr0 w w3 → Calls prog g (.agg x.cells.toArray :: cs).toArray w3 fun e w' => e = .returned (.bool b) ∧ K w') : Calls prog 127 #[.agg x.cells.toArray, pg g5] w fun e w' => e = .returned (.bool (!b)) ∧ K w' := by
 refine AK (vs := [_, _]) func127 rfl ntmps127 rfl ?_
 have M := CK w
 refine A4 (A0 (BD M (A9 rfl) rfl rfl 95 rfl rfl (Bd.cells x) rfl fun g2 w1 hg2 M => yb rfl (A1 (A2 (A4 (A0 (yl rfl rfl (Blk.c (hb.fr0 M.fr) 0 rfl) (ya rfl (AN (xs := Bd.cells x) rfl rfl (M.rdBlk 0 rfl rfl) underlying95 rfl IN) (cl 6 rfl (C0 rfl rfl rfl hfn) (hc _ M.fr) ?_)))))))))
 rintro _ w9 ⟨rfl, hK⟩
 exact ⟨_, rfl, yb rfl (yb rfl (A1 (A2 (AD (AH rfl rfl ⟨rfl, hK⟩)))))⟩
theorem nN {l : List (Bd)} {g : FuncId} {cs : List Value} {p : Nat → Bd → Bool} {S : Nat → Prop} {J : Nat → World → Prop} {w w1 : World} {g5 : Nat} (hP : PredJ prog g cs (fun x : Bd => .agg x.cells.toArray) l p S J w) (hf : Fr0 w w1) (hg : w.heap.size ≤ g5) (hb : Blk w1 g5 143 [.func (.func g) #[] cs.toArray]) :
 PredJ prog 127 [pg g5] (fun x : Bd => .agg x.cells.toArray) l (fun i x => !(p i x)) S J w1 where
 fn := call127
 call i x w2 hx hf2 hJ := by
  have hn : ¬ S g5 := fun h => by have := hP.old g5 h; omega
  exact qY g cs g5 x (p i x) (fun w' => J (i + 1) w' ∧ Fr S w2 w') w2 (hb.fr hf2 hn) hP.fn fun w3 hf3 =>
   (hP.call i x w3 hx ((Fr.of0 hf).trans (hf2.then0 hf3)) (hP.st i w2 w3 hf3 hJ)).mono fun _ _ ⟨h1, h2, h3⟩ => ⟨h1, h2, (Fr.of0 hf3).trans h3⟩
 st := hP.st
 old s hs := Nat.lt_of_lt_of_le (hP.old s hs) hf.size
theorem jY (A : Option Addr) (c : Nat) (l : List (Bd)) (hl : l.length ≤ 4611686018427387904) (g : FuncId) (cs : List Value) (p : Nat → Bd → Bool) (S : Nat → Prop) (J : Nat → World → Prop) (w : World) (hP : PredJ prog g cs (fun x : Bd => .agg x.cells.toArray) l p S J w) (hR : ∀ w1, Fr S w w1 → Rd w1 A (l.length * 5) (AR Bd.cells l)) (hJ : J 0 w) :
 Calls prog 71 #[.slice A l.length c, .func (.func 72) #[] #[], .func (.func g) #[] cs.toArray] w fun e w' => e = .returned (.tuple #[str ((ffN p 0 l).elim [] (fun x => x.name)), .bool (ffN p 0 l).isSome]) ∧ J (ixN (fun i x => !(p i x)) 0 l) w' ∧ Fr S w w' := by
 refine AK (vs := [_, _, _]) func71 rfl ntmps71 rfl ?_
 have M := CK w
 refine A4 (A0 (BD M (A9 rfl) rfl rfl 143 rfl rfl ([.func (.func g) #[] cs.toArray]) rfl fun g5 w1 hg5 M => yb rfl (yb rfl (A1 (A2 (A4 (A0 (yb rfl (ya rfl (CT (us := []) (vs := [pg g5]) rfl rfl rfl) (cl 11 rfl (AF rfl rfl call112) (PJ Bd.cells Bd.len A c l hl 127 [pg g5] (fun i x => !(p i x)) S J _ (nN hP M.fr hg5 (M.blk 0 rfl)) (fun w9 hf9 => hR w9 ((Fr.of0 M.fr).trans hf9)) (hP.st 0 _ _ M.fr hJ)) ?_))))))))))
 rintro _ w9 ⟨rfl, hJ9, hf9⟩
 refine ⟨_, rfl, ?_⟩
 have M : Mem w S [] w9 := Mem.ofFr ((Fr.of0 M.fr).trans hf9)
 refine yb rfl (A1 (A2 (A4 (A4 (A0 (yb rfl (ya rfl (CH rfl rfl rfl) (A1 (A2 (AQ (b := (decide ((ixJ (fun i x => !(p i x)) 0 l) < (0 : Int)))) rfl (fun h13 => ?_) (fun h13 => ?_)))))))))))
 ·have h13p := (odt h13)
  have hff := LQ h13p
  exact A4 (A0 (yb rfl (yb rfl (A1 (A2 (AD (AA (BY rfl rfl rfl ⟨by rw [hff]; rfl, hJ9, M.fr⟩))))))))
 ·have h13p := (odf h13)
  obtain ⟨j, x, hj, hx, hff⟩ := LR h13p
  have hjl : j < l.length := (List.getElem?_eq_some_iff.1 hx).1
  rw [hj]
  obtain ⟨b_x, o_x, hA_x⟩ := CL (k := 5) (by omega) (hR _ M.fr) hx
  refine AL (A2 (A4 (A0 (yb rfl (yb rfl (yb rfl (ya rfl (BW j hA_x rfl rfl rfl (sl rfl) (by omega)) (ya rfl (AN rfl rfl (DK Bd.len (hR _ M.fr) hA_x hx) underlying95 rfl IN) (cl 19 rfl (C0 rfl rfl rfl call72) (tC x _) ?_)))))))))
  rintro _ w10 ⟨rfl, hf10⟩
  exact ⟨_, rfl, yb rfl (yb rfl (A1 (A2 (AD (BY rfl rfl rfl ⟨by rw [hff]; rfl, hP.st _ _ _ hf10 hJ9, M.fr.then0 hf10⟩)))))⟩
theorem nK (g : FuncId) (cs : List Value) (g5 : Nat) (x : List UInt8) (b : Bool) (K : World → Prop) (w : World) (hb : Blk w g5 135 [.func (.func g) #[] cs.toArray]) (hfn : ∀ (ar : Array Value) (w : World), (callFunc g ar).run prog w = .ok (.enter g ar) w)
 (hc : ∀ w3, Fr0 w w3 → Calls prog g (str x :: cs).toArray w3 fun e w' => e = .returned (.bool b) ∧ K w') : Calls prog 132 #[str x, pg g5] w fun e w' => e = .returned (.bool (!b)) ∧ K w' := by
 refine AK (vs := [_, _]) func132 rfl ntmps132 rfl ?_
 have M := CK w
 refine A4 (A0 (yb rfl (A1 (A2 (A4 (A0 (yl rfl rfl (Blk.c (hb.fr0 M.fr) 0 rfl) (yb rfl (cl 6 rfl (C0 rfl rfl rfl hfn) (hc _ M.fr) ?_)))))))))
 rintro _ w9 ⟨rfl, hK⟩
 exact ⟨_, rfl, yb rfl (yb rfl (A1 (A2 (AD (AH rfl rfl ⟨rfl, hK⟩)))))⟩
theorem iO {l : List (List UInt8)} {g : FuncId} {cs : List Value} {p : Nat → List UInt8 → Bool} {S : Nat → Prop} {J : Nat → World → Prop} {w w1 : World} {g5 : Nat} (hP : PredJ prog g cs str l p S J w) (hf : Fr0 w w1) (hg : w.heap.size ≤ g5) (hb : Blk w1 g5 135 [.func (.func g) #[] cs.toArray]) :
 PredJ prog 132 [pg g5] str l (fun i x => !(p i x)) S J w1 where
 fn := call132
 call i x w2 hx hf2 hJ := by
  have hn : ¬ S g5 := fun h => by have := hP.old g5 h; omega
  exact nK g cs g5 x (p i x) (fun w' => J (i + 1) w' ∧ Fr S w2 w') w2 (hb.fr hf2 hn) hP.fn fun w3 hf3 =>
   (hP.call i x w3 hx ((Fr.of0 hf).trans (hf2.then0 hf3)) (hP.st i w2 w3 hf3 hJ)).mono fun _ _ ⟨h1, h2, h3⟩ => ⟨h1, h2, (Fr.of0 hf3).trans h3⟩
 st := hP.st
 old s hs := Nat.lt_of_lt_of_le (hP.old s hs) hf.size
theorem eH (A : Option Addr) (c : Nat) (l : List (List UInt8)) (hl : l.length ≤ 4611686018427387904) (g : FuncId) (cs : List Value) (p : Nat → List UInt8 → Bool) (S : Nat → Prop) (J : Nat → World → Prop) (w : World) (hP : PredJ prog g cs str l p S J w) (hR : ∀ w1, Fr S w w1 → Rd w1 A (l.length * 1) (AR C4 l)) (hJ : J 0 w) :
 Calls prog 86 #[.slice A l.length c, .func (.func 87) #[] #[], .func (.func g) #[] cs.toArray] w fun e w' => e = .returned (.tuple #[str ((ffN p 0 l).elim [] (fun x => x)), .bool (ffN p 0 l).isSome]) ∧ J (ixN (fun i x => !(p i x)) 0 l) w' ∧ Fr S w w' := by
 refine AK (vs := [_, _, _]) func86 rfl ntmps86 rfl ?_
 have M := CK w
 refine A4 (A0 (BD M (A9 rfl) rfl rfl 135 rfl rfl ([.func (.func g) #[] cs.toArray]) rfl fun g5 w1 hg5 M => yb rfl (yb rfl (A1 (A2 (A4 (A0 (yb rfl (ya rfl (CT (us := []) (vs := [pg g5]) rfl rfl rfl) (cl 11 rfl (AF rfl rfl call123) (jC A c l hl 132 [pg g5] (fun i x => !(p i x)) S J _ (iO hP M.fr hg5 (M.blk 0 rfl)) (fun w9 hf9 => hR w9 ((Fr.of0 M.fr).trans hf9)) (hP.st 0 _ _ M.fr hJ)) ?_))))))))))
 rintro _ w9 ⟨rfl, hJ9, hf9⟩
 refine ⟨_, rfl, ?_⟩
 have M : Mem w S [] w9 := Mem.ofFr ((Fr.of0 M.fr).trans hf9)
 refine yb rfl (A1 (A2 (A4 (A4 (A0 (yb rfl (ya rfl (CH rfl rfl rfl) (A1 (A2 (AQ (b := (decide ((ixJ (fun i x => !(p i x)) 0 l) < (0 : Int)))) rfl (fun h13 => ?_) (fun h13 => ?_)))))))))))
 ·have h13p := (odt h13)
  have hff := LQ h13p
  exact A4 (A0 (yb rfl (yb rfl (A1 (A2 (AD (AA (BY rfl rfl rfl ⟨by rw [hff]; rfl, hJ9, M.fr⟩))))))))
 ·have h13p := (odf h13)
  obtain ⟨j, x, hj, hx, hff⟩ := LR h13p
  have hjl : j < l.length := (List.getElem?_eq_some_iff.1 hx).1
  rw [hj]
  obtain ⟨b_x, o_x, hA_x⟩ := CL (k := 1) (by omega) (hR _ M.fr) hx
  refine AL (A2 (A4 (A0 (yb rfl (yb rfl (yb rfl (ya rfl (BW j hA_x rfl rfl rfl (sl rfl) (by omega)) (yl rfl rfl (G1 FW (hR _ M.fr) hA_x hx 0 rfl) (cl 19 rfl (C0 rfl rfl rfl call87) (rM x _) ?_)))))))))
  rintro _ w10 ⟨rfl, hf10⟩
  exact ⟨_, rfl, yb rfl (yb rfl (A1 (A2 (AD (BY rfl rfl rfl ⟨by rw [hff]; rfl, hP.st _ _ _ hf10 hJ9, M.fr.then0 hf10⟩)))))⟩
end Go.Proofs.YtadgfojhjnkliaaGreatDoor
