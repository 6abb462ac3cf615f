/- Lemmas that the last text rests on. Condition: each says its own. -/
import Derived.Test.YtdaihdknnlphkaaGreatDoorZRu0
import Derived.Test.YtdaihdknnlphkaaGreatDoorZSxG
set_option maxHeartbeats 16000000
set_option maxRecDepth 100000
namespace Go.Proofs.YtdaihdknnlphkaaGreatDoor
open Go.RowKit
open Tryz
theorem xX (x : El) (w : World) : Calls prog 64 #[.agg x.cells.toArray] w fun e w' => e = .returned (str x.id) ∧ Fr0 w w' := by
 refine AJ (vs := [_]) func64 rfl ntmps64 rfl ?_
 have M := CN w
 refine A9 (A0 (B4 M (AA rfl) rfl rfl 39 rfl rfl (El.cells x) rfl fun g1 w1 hg1 M => yb rfl (A4 (A5 (A9 (A0 (yb rfl (yl rfl rfl (M.cell 0 rfl rfl) (yb rfl (A4 (A5 (AF (AK rfl rfl ?_)))))))))))))
 exact ⟨rfl, M.fr⟩
theorem xW (x : Fl) (w : World) : Calls prog 67 #[.agg x.cells.toArray] w fun e w' => e = .returned (str x.id) ∧ Fr0 w w' := by
 refine AJ (vs := [_]) func67 rfl ntmps67 rfl ?_
 have M := CN w
 refine A9 (A0 (B4 M (AA rfl) rfl rfl 41 rfl rfl (Fl.cells x) rfl fun g1 w1 hg1 M => yb rfl (A4 (A5 (A9 (A0 (yb rfl (yl rfl rfl (M.cell 0 rfl rfl) (yb rfl (A4 (A5 (AF (AK rfl rfl ?_)))))))))))))
 exact ⟨rfl, M.fr⟩
theorem xY (x : Bd) (w : World) : Calls prog 60 #[.agg x.cells.toArray] w fun e w' => e = .returned (str x.name) ∧ Fr0 w w' := by
 refine AJ (vs := [_]) func60 rfl ntmps60 rfl ?_
 have M := CN w
 refine A9 (A0 (B4 M (AA rfl) rfl rfl 97 rfl rfl (Bd.cells x) rfl fun g1 w1 hg1 M => yb rfl (A4 (A5 (A9 (A0 (yb rfl (yl rfl rfl (M.cell 0 rfl rfl) (yb rfl (A4 (A5 (AF (AK rfl rfl ?_)))))))))))))
 exact ⟨rfl, M.fr⟩
theorem wJ (x : List UInt8) (w : World) : Calls prog 76 #[str x] w fun e w' => e = .returned (str x) ∧ Fr0 w w' := by
 refine AJ (vs := [_]) func76 rfl ntmps76 rfl ?_
 have M := CN w
 exact A9 (A0 (yb rfl (A4 (A5 (A9 (A0 (yb rfl (yb rfl (A4 (A5 (AF (AK rfl rfl ⟨rfl, M.fr⟩))))))))))))
theorem vS (g : FuncId) (cs : List Value) (g5 : Nat) (x : El) (b : Bool) (K : World → Prop) (w : World) (hb : Blk w g5 74 [.func (.func g) #[] cs.toArray]) (hfn : ∀ (ar : Array Value) (w : World), (callFunc g ar).run prog w = .ok (.enter g ar) w)
 (hc : ∀ w3, Fr0 w w3 → Calls prog g (.agg x.cells.toArray :: cs).toArray w3 fun e w' => e = .returned (.bool b) ∧ K w') : Calls prog 109 #[.agg x.cells.toArray, pg g5] w fun e w' => e = .returned (.bool (!b)) ∧ K w' := by
 refine AJ (vs := [_, _]) func109 rfl ntmps109 rfl ?_
 have M := CN w
 refine A9 (A0 (B4 M (AA rfl) rfl rfl 39 rfl rfl (El.cells x) rfl fun g2 w1 hg2 M => yb rfl (A4 (A5 (A9 (A0 (yl rfl rfl (Blk.c (hb.fr0 M.fr) 0 rfl) (ya rfl (AU (xs := El.cells x) rfl rfl (M.rdBlk 0 rfl rfl) underlying39 rfl AP) (cl 6 rfl (BK rfl rfl rfl hfn) (hc _ M.fr) ?_)))))))))
 rintro _ w9 ⟨rfl, hK⟩
 exact ⟨_, rfl, yb rfl (yb rfl (A4 (A5 (AF (AK rfl rfl ⟨rfl, hK⟩)))))⟩
theorem rW {l : List (El)} {g : FuncId} {cs : List Value} {p : Nat → El → Bool} {S : Nat → Prop} {J : Nat → World → Prop} {w w1 : World} {g5 : Nat} (hP : PredJ prog g cs (fun x : El => .agg x.cells.toArray) l p S J w) (hf : Fr0 w w1) (hg : w.heap.size ≤ g5) (hb : Blk w1 g5 74 [.func (.func g) #[] cs.toArray]) :
 PredJ prog 109 [pg g5] (fun x : El => .agg x.cells.toArray) l (fun i x => !(p i x)) S J w1 where
 fn := call109
 call i x w2 hx hf2 hJ := by
  have hn : ¬ S g5 := fun h => by have := hP.old g5 h; omega
  exact vS g cs g5 x (p i x) (fun w' => J (i + 1) w' ∧ Fr S w2 w') w2 (hb.fr hf2 hn) hP.fn fun w3 hf3 =>
   (hP.call i x w3 hx ((Fr.of0 hf).trans (hf2.then0 hf3)) (hP.st i w2 w3 hf3 hJ)).mono fun _ _ ⟨h1, h2, h3⟩ => ⟨h1, h2, (Fr.of0 hf3).trans h3⟩
 st := hP.st
 old s hs := Nat.lt_of_lt_of_le (hP.old s hs) hf.size
theorem YZ (A : Option Addr) (c : Nat) (l : List (El)) (hl : l.length ≤ 4611686018427387904) (g : FuncId) (cs : List Value) (p : Nat → El → Bool) (S : Nat → Prop) (J : Nat → World → Prop) (w : World) (hP : PredJ prog g cs (fun x : El => .agg x.cells.toArray) l p S J w) (hR : ∀ w1, Fr S w w1 → Rd w1 A (l.length * 11) (AS El.cells l)) (hJ : J 0 w) :
 Calls prog 63 #[.slice A l.length c, .func (.func 64) #[] #[], .func (.func g) #[] cs.toArray] w fun e w' => e = .returned (.tuple #[str ((ffN p 0 l).elim [] (fun x => x.id)), .bool (ffN p 0 l).isSome]) ∧ J (ixN (fun i x => !(p i x)) 0 l) w' ∧ Fr S w w' := by
 refine AJ (vs := [_, _, _]) func63 rfl ntmps63 rfl ?_
 have M := CN w
 refine A9 (A0 (B4 M (AA rfl) rfl rfl 74 rfl rfl ([.func (.func g) #[] cs.toArray]) rfl fun g5 w1 hg5 M => yb rfl (yb rfl (A4 (A5 (A9 (A0 (yb rfl (ya rfl (CC (us := []) (vs := [pg g5]) rfl rfl rfl) (cl 11 rfl (AE rfl rfl call32) (QZ El.cells El.len A c l hl 109 [pg g5] (fun i x => !(p i x)) S J _ (rW hP M.fr hg5 (M.blk 0 rfl)) (fun w9 hf9 => hR w9 ((Fr.of0 M.fr).trans hf9)) (hP.st 0 _ _ M.fr hJ)) ?_))))))))))
 rintro _ w9 ⟨rfl, hJ9, hf9⟩
 refine ⟨_, rfl, ?_⟩
 have M : Mem w S [] w9 := Mem.ofFr ((Fr.of0 M.fr).trans hf9)
 refine yb rfl (A4 (A5 (A9 (A9 (A0 (yb rfl (ya rfl (CB rfl rfl rfl) (A4 (A5 (AT (b := (decide ((ixJ (fun i x => !(p i x)) 0 l) < (0 : Int)))) rfl (fun h13 => ?_) (fun h13 => ?_)))))))))))
 ·have h13p := (odt h13)
  have hff := PD h13p
  exact A9 (A0 (yb rfl (yb rfl (A4 (A5 (AF (AB (CA rfl rfl rfl ⟨by rw [hff]; rfl, hJ9, M.fr⟩))))))))
 ·have h13p := (odf h13)
  obtain ⟨j, x, hj, hx, hff⟩ := PF h13p
  have hjl : j < l.length := (List.getElem?_eq_some_iff.1 hx).1
  rw [hj]
  obtain ⟨b_x, o_x, hA_x⟩ := C7 (k := 11) (by omega) (hR _ M.fr) hx
  refine AN (A5 (A9 (A0 (yb rfl (yb rfl (yb rfl (ya rfl (BM j hA_x rfl rfl rfl (sl rfl) (by omega)) (ya rfl (AU rfl rfl (DD El.len (hR _ M.fr) hA_x hx) underlying39 rfl AP) (cl 19 rfl (BK rfl rfl rfl call64) (xX x _) ?_)))))))))
  rintro _ w10 ⟨rfl, hf10⟩
  exact ⟨_, rfl, yb rfl (yb rfl (A4 (A5 (AF (CA rfl rfl rfl ⟨by rw [hff]; rfl, hP.st _ _ _ hf10 hJ9, M.fr.then0 hf10⟩)))))⟩
theorem vR (g : FuncId) (cs : List Value) (g5 : Nat) (x : Fl) (b : Bool) (K : World → Prop) (w : World) (hb : Blk w g5 80 [.func (.func g) #[] cs.toArray]) (hfn : ∀ (ar : Array Value) (w : World), (callFunc g ar).run prog w = .ok (.enter g ar) w)
 (hc : ∀ w3, Fr0 w w3 → Calls prog g (.agg x.cells.toArray :: cs).toArray w3 fun e w' => e = .returned (.bool b) ∧ K w') : Calls prog 111 #[.agg x.cells.toArray, pg g5] w fun e w' => e = .returned (.bool (!b)) ∧ K w' := by
 refine AJ (vs := [_, _]) func111 rfl ntmps111 rfl ?_
 have M := CN w
 refine A9 (A0 (B4 M (AA rfl) rfl rfl 41 rfl rfl (Fl.cells x) rfl fun g2 w1 hg2 M => yb rfl (A4 (A5 (A9 (A0 (yl rfl rfl (Blk.c (hb.fr0 M.fr) 0 rfl) (ya rfl (AU (xs := Fl.cells x) rfl rfl (M.rdBlk 0 rfl rfl) underlying41 rfl C8) (cl 6 rfl (BK rfl rfl rfl hfn) (hc _ M.fr) ?_)))))))))
 rintro _ w9 ⟨rfl, hK⟩
 exact ⟨_, rfl, yb rfl (yb rfl (A4 (A5 (AF (AK rfl rfl ⟨rfl, hK⟩)))))⟩
theorem rV {l : List (Fl)} {g : FuncId} {cs : List Value} {p : Nat → Fl → Bool} {S : Nat → Prop} {J : Nat → World → Prop} {w w1 : World} {g5 : Nat} (hP : PredJ prog g cs (fun x : Fl => .agg x.cells.toArray) l p S J w) (hf : Fr0 w w1) (hg : w.heap.size ≤ g5) (hb : Blk w1 g5 80 [.func (.func g) #[] cs.toArray]) :
 PredJ prog 111 [pg g5] (fun x : Fl => .agg x.cells.toArray) l (fun i x => !(p i x)) S J w1 where
 fn := call111
 call i x w2 hx hf2 hJ := by
  have hn : ¬ S g5 := fun h => by have := hP.old g5 h; omega
  exact vR g cs g5 x (p i x) (fun w' => J (i + 1) w' ∧ Fr S w2 w') w2 (hb.fr hf2 hn) hP.fn fun w3 hf3 =>
   (hP.call i x w3 hx ((Fr.of0 hf).trans (hf2.then0 hf3)) (hP.st i w2 w3 hf3 hJ)).mono fun _ _ ⟨h1, h2, h3⟩ => ⟨h1, h2, (Fr.of0 hf3).trans h3⟩
 st := hP.st
 old s hs := Nat.lt_of_lt_of_le (hP.old s hs) hf.size
theorem YY (A : Option Addr) (c : Nat) (l : List (Fl)) (hl : l.length ≤ 4611686018427387904) (g : FuncId) (cs : List Value) (p : Nat → Fl → Bool) (S : Nat → Prop) (J : Nat → World → Prop) (w : World) (hP : PredJ prog g cs (fun x : Fl => .agg x.cells.toArray) l p S J w) (hR : ∀ w1, Fr S w w1 → Rd w1 A (l.length * 4) (AS Fl.cells l)) (hJ : J 0 w) :
 Calls prog 66 #[.slice A l.length c, .func (.func 67) #[] #[], .func (.func g) #[] cs.toArray] w fun e w' => e = .returned (.tuple #[str ((ffN p 0 l).elim [] (fun x => x.id)), .bool (ffN p 0 l).isSome]) ∧ J (ixN (fun i x => !(p i x)) 0 l) w' ∧ Fr S w w' := by
 refine AJ (vs := [_, _, _]) func66 rfl ntmps66 rfl ?_
 have M := CN w
 refine A9 (A0 (B4 M (AA rfl) rfl rfl 80 rfl rfl ([.func (.func g) #[] cs.toArray]) rfl fun g5 w1 hg5 M => yb rfl (yb rfl (A4 (A5 (A9 (A0 (yb rfl (ya rfl (CC (us := []) (vs := [pg g5]) rfl rfl rfl) (cl 11 rfl (AE rfl rfl call110) (eO Fl.cells Fl.len A c l hl 111 [pg g5] (fun i x => !(p i x)) S J _ (rV hP M.fr hg5 (M.blk 0 rfl)) (fun w9 hf9 => hR w9 ((Fr.of0 M.fr).trans hf9)) (hP.st 0 _ _ M.fr hJ)) ?_))))))))))
 rintro _ w9 ⟨rfl, hJ9, hf9⟩
 refine ⟨_, rfl, ?_⟩
 have M : Mem w S [] w9 := Mem.ofFr ((Fr.of0 M.fr).trans hf9)
 refine yb rfl (A4 (A5 (A9 (A9 (A0 (yb rfl (ya rfl (CB rfl rfl rfl) (A4 (A5 (AT (b := (decide ((ixJ (fun i x => !(p i x)) 0 l) < (0 : Int)))) rfl (fun h13 => ?_) (fun h13 => ?_)))))))))))
 ·have h13p := (odt h13)
  have hff := PD h13p
  exact A9 (A0 (yb rfl (yb rfl (A4 (A5 (AF (AB (CA rfl rfl rfl ⟨by rw [hff]; rfl, hJ9, M.fr⟩))))))))
 ·have h13p := (odf h13)
  obtain ⟨j, x, hj, hx, hff⟩ := PF h13p
  have hjl : j < l.length := (List.getElem?_eq_some_iff.1 hx).1
  rw [hj]
  obtain ⟨b_x, o_x, hA_x⟩ := C7 (k := 4) (by omega) (hR _ M.fr) hx
  refine AN (A5 (A9 (A0 (yb rfl (yb rfl (yb rfl (ya rfl (BM j hA_x rfl rfl rfl (sl rfl) (by omega)) (ya rfl (AU rfl rfl (DD Fl.len (hR _ M.fr) hA_x hx) underlying41 rfl C8) (cl 19 rfl (BK rfl rfl rfl call67) (xW x _) ?_)))))))))
  rintro _ w10 ⟨rfl, hf10⟩
  exact ⟨_, rfl, yb rfl (yb rfl (A4 (A5 (AF (CA rfl rfl rfl ⟨by rw [hff]; rfl, hP.st _ _ _ hf10 hJ9, M.fr.then0 hf10⟩)))))⟩
theorem vT (g : FuncId) (cs : List Value) (g5 : Nat) (x : Bd) (b : Bool) (K : World → Prop) (w : World) (hb : Blk w g5 100 [.func (.func g) #[] cs.toArray]) (hfn : ∀ (ar : Array Value) (w : World), (callFunc g ar).run prog w = .ok (.enter g ar) w)
 (hc : ∀ w3, Fr0 w w3 → Calls prog g (.agg x.cells.toArray :: cs).toArray w3 fun e w' => e = .returned (.bool b) ∧ K w') : Calls prog 105 #[.agg x.cells.toArray, pg g5] w fun e w' => e = .returned (.bool (!b)) ∧ K w' := by
 refine AJ (vs := [_, _]) func105 rfl ntmps105 rfl ?_
 have M := CN w
 refine A9 (A0 (B4 M (AA rfl) rfl rfl 97 rfl rfl (Bd.cells x) rfl fun g2 w1 hg2 M => yb rfl (A4 (A5 (A9 (A0 (yl rfl rfl (Blk.c (hb.fr0 M.fr) 0 rfl) (ya rfl (AU (xs := Bd.cells x) rfl rfl (M.rdBlk 0 rfl rfl) underlying97 rfl J1) (cl 6 rfl (BK rfl rfl rfl hfn) (hc _ M.fr) ?_)))))))))
 rintro _ w9 ⟨rfl, hK⟩
 exact ⟨_, rfl, yb rfl (yb rfl (A4 (A5 (AF (AK rfl rfl ⟨rfl, hK⟩)))))⟩
theorem rX {l : List (Bd)} {g : FuncId} {cs : List Value} {p : Nat → Bd → Bool} {S : Nat → Prop} {J : Nat → World → Prop} {w w1 : World} {g5 : Nat} (hP : PredJ prog g cs (fun x : Bd => .agg x.cells.toArray) l p S J w) (hf : Fr0 w w1) (hg : w.heap.size ≤ g5) (hb : Blk w1 g5 100 [.func (.func g) #[] cs.toArray]) :
 PredJ prog 105 [pg g5] (fun x : Bd => .agg x.cells.toArray) l (fun i x => !(p i x)) S J w1 where
 fn := call105
 call i x w2 hx hf2 hJ := by
  have hn : ¬ S g5 := fun h => by have := hP.old g5 h; omega
  exact vT g cs g5 x (p i x) (fun w' => J (i + 1) w' ∧ Fr S w2 w') w2 (hb.fr hf2 hn) hP.fn fun w3 hf3 =>
   (hP.call i x w3 hx ((Fr.of0 hf).trans (hf2.then0 hf3)) (hP.st i w2 w3 hf3 hJ)).mono fun _ _ ⟨h1, h2, h3⟩ => ⟨h1, h2, (Fr.of0 hf3).trans h3⟩
 st := hP.st
 old s hs := Nat.lt_of_lt_of_le (hP.old s hs) hf.size
theorem o9 (A : Option Addr) (c : Nat) (l : List (Bd)) (hl : l.length ≤ 4611686018427387904) (g : FuncId) (cs : List Value) (p : Nat → Bd → Bool) (S : Nat → Prop) (J : Nat → World → Prop) (w : World) (hP : PredJ prog g cs (fun x : Bd => .agg x.cells.toArray) l p S J w) (hR : ∀ w1, Fr S w w1 → Rd w1 A (l.length * 5) (AS Bd.cells l)) (hJ : J 0 w) :
 Calls prog 59 #[.slice A l.length c, .func (.func 60) #[] #[], .func (.func g) #[] cs.toArray] w fun e w' => e = .returned (.tuple #[str ((ffN p 0 l).elim [] (fun x => x.name)), .bool (ffN p 0 l).isSome]) ∧ J (ixN (fun i x => !(p i x)) 0 l) w' ∧ Fr S w w' := by
 refine AJ (vs := [_, _, _]) func59 rfl ntmps59 rfl ?_
 have M := CN w
 refine A9 (A0 (B4 M (AA rfl) rfl rfl 100 rfl rfl ([.func (.func g) #[] cs.toArray]) rfl fun g5 w1 hg5 M => yb rfl (yb rfl (A4 (A5 (A9 (A0 (yb rfl (ya rfl (CC (us := []) (vs := [pg g5]) rfl rfl rfl) (cl 11 rfl (AE rfl rfl call104) (WJ Bd.cells Bd.len A c l hl 105 [pg g5] (fun i x => !(p i x)) S J _ (rX hP M.fr hg5 (M.blk 0 rfl)) (fun w9 hf9 => hR w9 ((Fr.of0 M.fr).trans hf9)) (hP.st 0 _ _ M.fr hJ)) ?_))))))))))
 rintro _ w9 ⟨rfl, hJ9, hf9⟩
 refine ⟨_, rfl, ?_⟩
 have M : Mem w S [] w9 := Mem.ofFr ((Fr.of0 M.fr).trans hf9)
 refine yb rfl (A4 (A5 (A9 (A9 (A0 (yb rfl (ya rfl (CB rfl rfl rfl) (A4 (A5 (AT (b := (decide ((ixJ (fun i x => !(p i x)) 0 l) < (0 : Int)))) rfl (fun h13 => ?_) (fun h13 => ?_)))))))))))
 ·have h13p := (odt h13)
  have hff := PD h13p
  exact A9 (A0 (yb rfl (yb rfl (A4 (A5 (AF (AB (CA rfl rfl rfl ⟨by rw [hff]; rfl, hJ9, M.fr⟩))))))))
 ·have h13p := (odf h13)
  obtain ⟨j, x, hj, hx, hff⟩ := PF h13p
  have hjl : j < l.length := (List.getElem?_eq_some_iff.1 hx).1
  rw [hj]
  obtain ⟨b_x, o_x, hA_x⟩ := C7 (k := 5) (by omega) (hR _ M.fr) hx
  refine AN (A5 (A9 (A0 (yb rfl (yb rfl (yb rfl (ya rfl (BM j hA_x rfl rfl rfl (sl rfl) (by omega)) (ya rfl (AU rfl rfl (DD Bd.len (hR _ M.fr) hA_x hx) underlying97 rfl J1) (cl 19 rfl (BK rfl rfl rfl call60) (xY x _) ?_)))))))))
  rintro _ w10 ⟨rfl, hf10⟩
  exact ⟨_, rfl, yb rfl (yb rfl (A4 (A5 (AF (CA rfl rfl rfl ⟨by rw [hff]; rfl, hP.st _ _ _ hf10 hJ9, M.fr.then0 hf10⟩)))))⟩
theorem rU (g : FuncId) (cs : List Value) (g5 : Nat) (x : List UInt8) (b : Bool) (K : World → Prop) (w : World) (hb : Blk w g5 91 [.func (.func g) #[] cs.toArray]) (hfn : ∀ (ar : Array Value) (w : World), (callFunc g ar).run prog w = .ok (.enter g ar) w)
 (hc : ∀ w3, Fr0 w w3 → Calls prog g (str x :: cs).toArray w3 fun e w' => e = .returned (.bool b) ∧ K w') : Calls prog 114 #[str x, pg g5] w fun e w' => e = .returned (.bool (!b)) ∧ K w' := by
 refine AJ (vs := [_, _]) func114 rfl ntmps114 rfl ?_
 have M := CN w
 refine A9 (A0 (yb rfl (A4 (A5 (A9 (A0 (yl rfl rfl (Blk.c (hb.fr0 M.fr) 0 rfl) (yb rfl (cl 6 rfl (BK rfl rfl rfl hfn) (hc _ M.fr) ?_)))))))))
 rintro _ w9 ⟨rfl, hK⟩
 exact ⟨_, rfl, yb rfl (yb rfl (A4 (A5 (AF (AK rfl rfl ⟨rfl, hK⟩)))))⟩
theorem mM {l : List (List UInt8)} {g : FuncId} {cs : List Value} {p : Nat → List UInt8 → Bool} {S : Nat → Prop} {J : Nat → World → Prop} {w w1 : World} {g5 : Nat} (hP : PredJ prog g cs str l p S J w) (hf : Fr0 w w1) (hg : w.heap.size ≤ g5) (hb : Blk w1 g5 91 [.func (.func g) #[] cs.toArray]) :
 PredJ prog 114 [pg g5] str l (fun i x => !(p i x)) S J w1 where
 fn := call114
 call i x w2 hx hf2 hJ := by
  have hn : ¬ S g5 := fun h => by have := hP.old g5 h; omega
  exact rU g cs g5 x (p i x) (fun w' => J (i + 1) w' ∧ Fr S w2 w') w2 (hb.fr hf2 hn) hP.fn fun w3 hf3 =>
   (hP.call i x w3 hx ((Fr.of0 hf).trans (hf2.then0 hf3)) (hP.st i w2 w3 hf3 hJ)).mono fun _ _ ⟨h1, h2, h3⟩ => ⟨h1, h2, (Fr.of0 hf3).trans h3⟩
 st := hP.st
 old s hs := Nat.lt_of_lt_of_le (hP.old s hs) hf.size
theorem jD (A : Option Addr) (c : Nat) (l : List (List UInt8)) (hl : l.length ≤ 4611686018427387904) (g : FuncId) (cs : List Value) (p : Nat → List UInt8 → Bool) (S : Nat → Prop) (J : Nat → World → Prop) (w : World) (hP : PredJ prog g cs str l p S J w) (hR : ∀ w1, Fr S w w1 → Rd w1 A (l.length * 1) (AS D7 l)) (hJ : J 0 w) :
 Calls prog 75 #[.slice A l.length c, .func (.func 76) #[] #[], .func (.func g) #[] cs.toArray] w fun e w' => e = .returned (.tuple #[str ((ffN p 0 l).elim [] (fun x => x)), .bool (ffN p 0 l).isSome]) ∧ J (ixN (fun i x => !(p i x)) 0 l) w' ∧ Fr S w w' := by
 refine AJ (vs := [_, _, _]) func75 rfl ntmps75 rfl ?_
 have M := CN w
 refine A9 (A0 (B4 M (AA rfl) rfl rfl 91 rfl rfl ([.func (.func g) #[] cs.toArray]) rfl fun g5 w1 hg5 M => yb rfl (yb rfl (A4 (A5 (A9 (A0 (yb rfl (ya rfl (CC (us := []) (vs := [pg g5]) rfl rfl rfl) (cl 11 rfl (AE rfl rfl call113) (nP A c l hl 114 [pg g5] (fun i x => !(p i x)) S J _ (mM hP M.fr hg5 (M.blk 0 rfl)) (fun w9 hf9 => hR w9 ((Fr.of0 M.fr).trans hf9)) (hP.st 0 _ _ M.fr hJ)) ?_))))))))))
 rintro _ w9 ⟨rfl, hJ9, hf9⟩
 refine ⟨_, rfl, ?_⟩
 have M : Mem w S [] w9 := Mem.ofFr ((Fr.of0 M.fr).trans hf9)
 refine yb rfl (A4 (A5 (A9 (A9 (A0 (yb rfl (ya rfl (CB rfl rfl rfl) (A4 (A5 (AT (b := (decide ((ixJ (fun i x => !(p i x)) 0 l) < (0 : Int)))) rfl (fun h13 => ?_) (fun h13 => ?_)))))))))))
 ·have h13p := (odt h13)
  have hff := PD h13p
  exact A9 (A0 (yb rfl (yb rfl (A4 (A5 (AF (AB (CA rfl rfl rfl ⟨by rw [hff]; rfl, hJ9, M.fr⟩))))))))
 ·have h13p := (odf h13)
  obtain ⟨j, x, hj, hx, hff⟩ := PF h13p
  have hjl : j < l.length := (List.getElem?_eq_some_iff.1 hx).1
  rw [hj]
  obtain ⟨b_x, o_x, hA_x⟩ := C7 (k := 1) (by omega) (hR _ M.fr) hx
  refine AN (A5 (A9 (A0 (yb rfl (yb rfl (yb rfl (ya rfl (BM j hA_x rfl rfl rfl (sl rfl) (by omega)) (yl rfl rfl (EB GD (hR _ M.fr) hA_x hx 0 rfl) (cl 19 rfl (BK rfl rfl rfl call76) (wJ x _) ?_)))))))))
  rintro _ w10 ⟨rfl, hf10⟩
  exact ⟨_, rfl, yb rfl (yb rfl (A4 (A5 (AF (CA rfl rfl rfl ⟨by rw [hff]; rfl, hP.st _ _ _ hf10 hJ9, M.fr.then0 hf10⟩)))))⟩
end Go.Proofs.YtdaihdknnlphkaaGreatDoor
