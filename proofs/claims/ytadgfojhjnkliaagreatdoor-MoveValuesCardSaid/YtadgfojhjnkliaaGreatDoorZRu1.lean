/- The rules of the program: first, by a predicate: printed by gw/ru1.py. Condition: none. -/
import Derived.Test.YtadgfojhjnkliaaGreatDoorZRu0
import Derived.Test.YtadgfojhjnkliaaGreatDoorZSxG
set_option maxHeartbeats 16000000
set_option maxRecDepth 100000
namespace Go.Proofs.YtadgfojhjnkliaaGreatDoor
open Go.RowKit
theorem tA (x : El) (w : World) : Calls Tryz.prog 75 #[.agg x.cells.toArray] w fun e w' => e = .returned (str x.id) ∧ Fr0 w w' := by
 refine AL (vs := [_]) Tryz.func75 rfl Tryz.ntmps75 rfl ?_
 have M := CM w
 refine A9 (A0 (BG M (A4 rfl) rfl rfl 62 rfl rfl (El.cells x) rfl fun g1 w1 hg1 M => yb rfl (A1 (A2 (A9 (A0 (yb rfl (yl rfl rfl (M.cell 0 rfl rfl) (yb rfl (A1 (A2 (AE (AI rfl rfl ?_)))))))))))))
 exact ⟨rfl, M.fr⟩
theorem t8 (x : Fl) (w : World) : Calls Tryz.prog 78 #[.agg x.cells.toArray] w fun e w' => e = .returned (str x.id) ∧ Fr0 w w' := by
 refine AL (vs := [_]) Tryz.func78 rfl Tryz.ntmps78 rfl ?_
 have M := CM w
 refine A9 (A0 (BG M (A4 rfl) rfl rfl 65 rfl rfl (Fl.cells x) rfl fun g1 w1 hg1 M => yb rfl (A1 (A2 (A9 (A0 (yb rfl (yl rfl rfl (M.cell 0 rfl rfl) (yb rfl (A1 (A2 (AE (AI rfl rfl ?_)))))))))))))
 exact ⟨rfl, M.fr⟩
theorem tB (x : Bd) (w : World) : Calls Tryz.prog 72 #[.agg x.cells.toArray] w fun e w' => e = .returned (str x.name) ∧ Fr0 w w' := by
 refine AL (vs := [_]) Tryz.func72 rfl Tryz.ntmps72 rfl ?_
 have M := CM w
 refine A9 (A0 (BG M (A4 rfl) rfl rfl 95 rfl rfl (Bd.cells x) rfl fun g1 w1 hg1 M => yb rfl (A1 (A2 (A9 (A0 (yb rfl (yl rfl rfl (M.cell 0 rfl rfl) (yb rfl (A1 (A2 (AE (AI rfl rfl ?_)))))))))))))
 exact ⟨rfl, M.fr⟩
theorem rL (x : List UInt8) (w : World) : Calls Tryz.prog 87 #[str x] w fun e w' => e = .returned (str x) ∧ Fr0 w w' := by
 refine AL (vs := [_]) Tryz.func87 rfl Tryz.ntmps87 rfl ?_
 have M := CM w
 exact A9 (A0 (yb rfl (A1 (A2 (A9 (A0 (yb rfl (yb rfl (A1 (A2 (AE (AI rfl rfl ⟨rfl, M.fr⟩))))))))))))
theorem qW (g : FuncId) (cs : List Value) (g5 : Nat) (x : El) (b : Bool) (K : World → Prop) (w : World) (hb : Blk w g5 79 [.func (.func g) #[] cs.toArray]) (hfn : ∀ (ar : Array Value) (w : World), (callFunc g ar).run Tryz.prog w = .ok (.enter g ar) w)
 (hc : ∀ w3, Fr0 w w3 → Calls Tryz.prog g (.agg x.cells.toArray :: cs).toArray w3 fun e w' => e = .returned (.bool b) ∧ K w') : Calls Tryz.prog 128 #[.agg x.cells.toArray, .pointer (some ⟨g5, 0, none⟩)] w fun e w' => e = .returned (.bool (!b)) ∧ K w' := by
 refine AL (vs := [_, _]) Tryz.func128 rfl Tryz.ntmps128 rfl ?_
 have M := CM w
 refine A9 (A0 (BG M (A4 rfl) rfl rfl 62 rfl rfl (El.cells x) rfl fun g2 w1 hg2 M => yb rfl (A1 (A2 (A9 (A0 (yl rfl rfl (Blk.c (hb.fr0 M.fr) 0 rfl) (ya rfl (AO (xs := El.cells x) rfl rfl (M.rdBlk 0 rfl rfl) Tryz.underlying62 rfl AY) (AC (some 6) (A4 rfl) rfl rfl (C3 rfl rfl rfl hfn) (hc _ M.fr) ?_)))))))))
 rintro _ w9 ⟨rfl, hK⟩
 exact ⟨_, rfl, yb rfl (yb rfl (A1 (A2 (AE (AI rfl rfl ⟨rfl, hK⟩)))))⟩
theorem nL {l : List (El)} {g : FuncId} {cs : List Value} {p : Nat → El → Bool} {S : Nat → Prop} {J : Nat → World → Prop} {w w1 : World} {g5 : Nat} (hP : PredJ Tryz.prog g cs (fun x : El => .agg x.cells.toArray) l p S J w) (hf : Fr0 w w1) (hg : w.heap.size ≤ g5) (hb : Blk w1 g5 79 [.func (.func g) #[] cs.toArray]) :
 PredJ Tryz.prog 128 [.pointer (some ⟨g5, 0, none⟩)] (fun x : El => .agg x.cells.toArray) l (fun i x => !(p i x)) S J w1 where
 fn := Tryz.call128
 call i x w2 hx hf2 hJ := by
  have hn : ¬ S g5 := fun h => by have := hP.old g5 h; omega
  exact qW g cs g5 x (p i x) (fun w' => J (i + 1) w' ∧ Fr S w2 w') w2 (hb.fr hf2 hn) hP.fn fun w3 hf3 =>
   (hP.call i x w3 hx ((Fr.of0 hf).trans (hf2.then0 hf3)) (hP.st i w2 w3 hf3 hJ)).mono fun _ _ ⟨h1, h2, h3⟩ => ⟨h1, h2, (Fr.of0 hf3).trans h3⟩
 st := hP.st
 old s hs := Nat.lt_of_lt_of_le (hP.old s hs) hf.size
theorem WM (A : Option Addr) (c : Nat) (l : List (El)) (hl : l.length ≤ 4611686018427387904) (g : FuncId) (cs : List Value) (p : Nat → El → Bool) (S : Nat → Prop) (J : Nat → World → Prop) (w : World) (hP : PredJ Tryz.prog g cs (fun x : El => .agg x.cells.toArray) l p S J w) (hR : ∀ w1, Fr S w w1 → Rd w1 A (l.length * 11) (AS El.cells l)) (hJ : J 0 w) :
 Calls Tryz.prog 74 #[.slice A l.length c, .func (.func 75) #[] #[], .func (.func g) #[] cs.toArray] w fun e w' => e = .returned (.tuple #[str ((ffN p 0 l).elim [] (fun x => x.id)), .bool (ffN p 0 l).isSome]) ∧ J (ixN (fun i x => !(p i x)) 0 l) w' ∧ Fr S w w' := by
 refine AL (vs := [_, _, _]) Tryz.func74 rfl Tryz.ntmps74 rfl ?_
 have M := CM w
 refine A9 (A0 (BG M (A4 rfl) rfl rfl 79 rfl rfl ([.func (.func g) #[] cs.toArray]) rfl fun g5 w1 hg5 M => yb rfl (yb rfl (A1 (A2 (A9 (A0 (yb rfl (ya rfl (CT (us := []) (vs := [.pointer (some ⟨g5, 0, none⟩)]) rfl rfl rfl) (AC (some 11) (A4 rfl) rfl rfl (AG rfl rfl Tryz.call21) (UI El.cells El.len A c l hl 128 [.pointer (some ⟨g5, 0, none⟩)] (fun i x => !(p i x)) S J _ (nL hP M.fr hg5 (M.blk 0 rfl)) (fun w9 hf9 => hR w9 ((Fr.of0 M.fr).trans hf9)) (hP.st 0 _ _ M.fr hJ)) ?_))))))))))
 rintro _ w9 ⟨rfl, hJ9, hf9⟩
 refine ⟨_, rfl, ?_⟩
 have M : Mem w S [] w9 := Mem.ofFr ((Fr.of0 M.fr).trans hf9)
 refine yb rfl (A1 (A2 (A9 (A9 (A0 (yb rfl (ya rfl (CJ rfl rfl rfl) (A1 (A2 (AR (b := (decide ((ixJ (fun i x => !(p i x)) 0 l) < (0 : Int)))) rfl (fun h13 => ?_) (fun h13 => ?_)))))))))))
 ·have h13p := (of_decide_eq_true h13)
  have hff := LP h13p
  exact A9 (A0 (yb rfl (yb rfl (A1 (A2 (AE (AA (C1 rfl rfl rfl ⟨by rw [hff]; rfl, hJ9, M.fr⟩))))))))
 ·have h13p := (of_decide_eq_false h13)
  obtain ⟨j, x, hj, hx, hff⟩ := LQ h13p
  have hjl : j < l.length := (List.getElem?_eq_some_iff.1 hx).1
  rw [hj]
  obtain ⟨b_x, o_x, hA_x⟩ := CN (k := 11) (by omega) (hR _ M.fr) hx
  refine AM (A2 (A9 (A0 (yb rfl (yb rfl (yb rfl (ya rfl (BZ j hA_x rfl rfl rfl (sl rfl) (by omega)) (ya rfl (AO rfl rfl (DK El.len (hR _ M.fr) hA_x hx) Tryz.underlying62 rfl AY) (AC (some 19) (A4 rfl) rfl rfl (C3 rfl rfl rfl Tryz.call75) (tA x _) ?_)))))))))
  rintro _ w10 ⟨rfl, hf10⟩
  exact ⟨_, rfl, yb rfl (yb rfl (A1 (A2 (AE (C1 rfl rfl rfl ⟨by rw [hff]; rfl, hP.st _ _ _ hf10 hJ9, M.fr.then0 hf10⟩)))))⟩
theorem qV (g : FuncId) (cs : List Value) (g5 : Nat) (x : Fl) (b : Bool) (K : World → Prop) (w : World) (hb : Blk w g5 99 [.func (.func g) #[] cs.toArray]) (hfn : ∀ (ar : Array Value) (w : World), (callFunc g ar).run Tryz.prog w = .ok (.enter g ar) w)
 (hc : ∀ w3, Fr0 w w3 → Calls Tryz.prog g (.agg x.cells.toArray :: cs).toArray w3 fun e w' => e = .returned (.bool b) ∧ K w') : Calls Tryz.prog 130 #[.agg x.cells.toArray, .pointer (some ⟨g5, 0, none⟩)] w fun e w' => e = .returned (.bool (!b)) ∧ K w' := by
 refine AL (vs := [_, _]) Tryz.func130 rfl Tryz.ntmps130 rfl ?_
 have M := CM w
 refine A9 (A0 (BG M (A4 rfl) rfl rfl 65 rfl rfl (Fl.cells x) rfl fun g2 w1 hg2 M => yb rfl (A1 (A2 (A9 (A0 (yl rfl rfl (Blk.c (hb.fr0 M.fr) 0 rfl) (ya rfl (AO (xs := Fl.cells x) rfl rfl (M.rdBlk 0 rfl rfl) Tryz.underlying65 rfl CE) (AC (some 6) (A4 rfl) rfl rfl (C3 rfl rfl rfl hfn) (hc _ M.fr) ?_)))))))))
 rintro _ w9 ⟨rfl, hK⟩
 exact ⟨_, rfl, yb rfl (yb rfl (A1 (A2 (AE (AI rfl rfl ⟨rfl, hK⟩)))))⟩
theorem nK {l : List (Fl)} {g : FuncId} {cs : List Value} {p : Nat → Fl → Bool} {S : Nat → Prop} {J : Nat → World → Prop} {w w1 : World} {g5 : Nat} (hP : PredJ Tryz.prog g cs (fun x : Fl => .agg x.cells.toArray) l p S J w) (hf : Fr0 w w1) (hg : w.heap.size ≤ g5) (hb : Blk w1 g5 99 [.func (.func g) #[] cs.toArray]) :
 PredJ Tryz.prog 130 [.pointer (some ⟨g5, 0, none⟩)] (fun x : Fl => .agg x.cells.toArray) l (fun i x => !(p i x)) S J w1 where
 fn := Tryz.call130
 call i x w2 hx hf2 hJ := by
  have hn : ¬ S g5 := fun h => by have := hP.old g5 h; omega
  exact qV g cs g5 x (p i x) (fun w' => J (i + 1) w' ∧ Fr S w2 w') w2 (hb.fr hf2 hn) hP.fn fun w3 hf3 =>
   (hP.call i x w3 hx ((Fr.of0 hf).trans (hf2.then0 hf3)) (hP.st i w2 w3 hf3 hJ)).mono fun _ _ ⟨h1, h2, h3⟩ => ⟨h1, h2, (Fr.of0 hf3).trans h3⟩
 st := hP.st
 old s hs := Nat.lt_of_lt_of_le (hP.old s hs) hf.size
theorem WL (A : Option Addr) (c : Nat) (l : List (Fl)) (hl : l.length ≤ 4611686018427387904) (g : FuncId) (cs : List Value) (p : Nat → Fl → Bool) (S : Nat → Prop) (J : Nat → World → Prop) (w : World) (hP : PredJ Tryz.prog g cs (fun x : Fl => .agg x.cells.toArray) l p S J w) (hR : ∀ w1, Fr S w w1 → Rd w1 A (l.length * 4) (AS Fl.cells l)) (hJ : J 0 w) :
 Calls Tryz.prog 77 #[.slice A l.length c, .func (.func 78) #[] #[], .func (.func g) #[] cs.toArray] w fun e w' => e = .returned (.tuple #[str ((ffN p 0 l).elim [] (fun x => x.id)), .bool (ffN p 0 l).isSome]) ∧ J (ixN (fun i x => !(p i x)) 0 l) w' ∧ Fr S w w' := by
 refine AL (vs := [_, _, _]) Tryz.func77 rfl Tryz.ntmps77 rfl ?_
 have M := CM w
 refine A9 (A0 (BG M (A4 rfl) rfl rfl 99 rfl rfl ([.func (.func g) #[] cs.toArray]) rfl fun g5 w1 hg5 M => yb rfl (yb rfl (A1 (A2 (A9 (A0 (yb rfl (ya rfl (CT (us := []) (vs := [.pointer (some ⟨g5, 0, none⟩)]) rfl rfl rfl) (AC (some 11) (A4 rfl) rfl rfl (AG rfl rfl Tryz.call129) (aQ Fl.cells Fl.len A c l hl 130 [.pointer (some ⟨g5, 0, none⟩)] (fun i x => !(p i x)) S J _ (nK hP M.fr hg5 (M.blk 0 rfl)) (fun w9 hf9 => hR w9 ((Fr.of0 M.fr).trans hf9)) (hP.st 0 _ _ M.fr hJ)) ?_))))))))))
 rintro _ w9 ⟨rfl, hJ9, hf9⟩
 refine ⟨_, rfl, ?_⟩
 have M : Mem w S [] w9 := Mem.ofFr ((Fr.of0 M.fr).trans hf9)
 refine yb rfl (A1 (A2 (A9 (A9 (A0 (yb rfl (ya rfl (CJ rfl rfl rfl) (A1 (A2 (AR (b := (decide ((ixJ (fun i x => !(p i x)) 0 l) < (0 : Int)))) rfl (fun h13 => ?_) (fun h13 => ?_)))))))))))
 ·have h13p := (of_decide_eq_true h13)
  have hff := LP h13p
  exact A9 (A0 (yb rfl (yb rfl (A1 (A2 (AE (AA (C1 rfl rfl rfl ⟨by rw [hff]; rfl, hJ9, M.fr⟩))))))))
 ·have h13p := (of_decide_eq_false h13)
  obtain ⟨j, x, hj, hx, hff⟩ := LQ h13p
  have hjl : j < l.length := (List.getElem?_eq_some_iff.1 hx).1
  rw [hj]
  obtain ⟨b_x, o_x, hA_x⟩ := CN (k := 4) (by omega) (hR _ M.fr) hx
  refine AM (A2 (A9 (A0 (yb rfl (yb rfl (yb rfl (ya rfl (BZ j hA_x rfl rfl rfl (sl rfl) (by omega)) (ya rfl (AO rfl rfl (DK Fl.len (hR _ M.fr) hA_x hx) Tryz.underlying65 rfl CE) (AC (some 19) (A4 rfl) rfl rfl (C3 rfl rfl rfl Tryz.call78) (t8 x _) ?_)))))))))
  rintro _ w10 ⟨rfl, hf10⟩
  exact ⟨_, rfl, yb rfl (yb rfl (A1 (A2 (AE (C1 rfl rfl rfl ⟨by rw [hff]; rfl, hP.st _ _ _ hf10 hJ9, M.fr.then0 hf10⟩)))))⟩
theorem qX (g : FuncId) (cs : List Value) (g5 : Nat) (x : Bd) (b : Bool) (K : World → Prop) (w : World) (hb : Blk w g5 143 [.func (.func g) #[] cs.toArray]) (hfn : ∀ (ar : Array Value) (w : World), (callFunc g ar).run Tryz.prog w = .ok (.enter g ar) w)
 (hc : ∀ w3, Fr0 w w3 → Calls Tryz.prog g (.agg x.cells.toArray :: cs).toArray w3 fun e w' => e = .returned (.bool b) ∧ K w') : Calls Tryz.prog 127 #[.agg x.cells.toArray, .pointer (some ⟨g5, 0, none⟩)] w fun e w' => e = .returned (.bool (!b)) ∧ K w' := by
 refine AL (vs := [_, _]) Tryz.func127 rfl Tryz.ntmps127 rfl ?_
 have M := CM w
 refine A9 (A0 (BG M (A4 rfl) rfl rfl 95 rfl rfl (Bd.cells x) rfl fun g2 w1 hg2 M => yb rfl (A1 (A2 (A9 (A0 (yl rfl rfl (Blk.c (hb.fr0 M.fr) 0 rfl) (ya rfl (AO (xs := Bd.cells x) rfl rfl (M.rdBlk 0 rfl rfl) Tryz.underlying95 rfl IN) (AC (some 6) (A4 rfl) rfl rfl (C3 rfl rfl rfl hfn) (hc _ M.fr) ?_)))))))))
 rintro _ w9 ⟨rfl, hK⟩
 exact ⟨_, rfl, yb rfl (yb rfl (A1 (A2 (AE (AI rfl rfl ⟨rfl, hK⟩)))))⟩
theorem nM {l : List (Bd)} {g : FuncId} {cs : List Value} {p : Nat → Bd → Bool} {S : Nat → Prop} {J : Nat → World → Prop} {w w1 : World} {g5 : Nat} (hP : PredJ Tryz.prog g cs (fun x : Bd => .agg x.cells.toArray) l p S J w) (hf : Fr0 w w1) (hg : w.heap.size ≤ g5) (hb : Blk w1 g5 143 [.func (.func g) #[] cs.toArray]) :
 PredJ Tryz.prog 127 [.pointer (some ⟨g5, 0, none⟩)] (fun x : Bd => .agg x.cells.toArray) l (fun i x => !(p i x)) S J w1 where
 fn := Tryz.call127
 call i x w2 hx hf2 hJ := by
  have hn : ¬ S g5 := fun h => by have := hP.old g5 h; omega
  exact qX g cs g5 x (p i x) (fun w' => J (i + 1) w' ∧ Fr S w2 w') w2 (hb.fr hf2 hn) hP.fn fun w3 hf3 =>
   (hP.call i x w3 hx ((Fr.of0 hf).trans (hf2.then0 hf3)) (hP.st i w2 w3 hf3 hJ)).mono fun _ _ ⟨h1, h2, h3⟩ => ⟨h1, h2, (Fr.of0 hf3).trans h3⟩
 st := hP.st
 old s hs := Nat.lt_of_lt_of_le (hP.old s hs) hf.size
theorem jX (A : Option Addr) (c : Nat) (l : List (Bd)) (hl : l.length ≤ 4611686018427387904) (g : FuncId) (cs : List Value) (p : Nat → Bd → Bool) (S : Nat → Prop) (J : Nat → World → Prop) (w : World) (hP : PredJ Tryz.prog g cs (fun x : Bd => .agg x.cells.toArray) l p S J w) (hR : ∀ w1, Fr S w w1 → Rd w1 A (l.length * 5) (AS Bd.cells l)) (hJ : J 0 w) :
 Calls Tryz.prog 71 #[.slice A l.length c, .func (.func 72) #[] #[], .func (.func g) #[] cs.toArray] w fun e w' => e = .returned (.tuple #[str ((ffN p 0 l).elim [] (fun x => x.name)), .bool (ffN p 0 l).isSome]) ∧ J (ixN (fun i x => !(p i x)) 0 l) w' ∧ Fr S w w' := by
 refine AL (vs := [_, _, _]) Tryz.func71 rfl Tryz.ntmps71 rfl ?_
 have M := CM w
 refine A9 (A0 (BG M (A4 rfl) rfl rfl 143 rfl rfl ([.func (.func g) #[] cs.toArray]) rfl fun g5 w1 hg5 M => yb rfl (yb rfl (A1 (A2 (A9 (A0 (yb rfl (ya rfl (CT (us := []) (vs := [.pointer (some ⟨g5, 0, none⟩)]) rfl rfl rfl) (AC (some 11) (A4 rfl) rfl rfl (AG rfl rfl Tryz.call112) (PG Bd.cells Bd.len A c l hl 127 [.pointer (some ⟨g5, 0, none⟩)] (fun i x => !(p i x)) S J _ (nM hP M.fr hg5 (M.blk 0 rfl)) (fun w9 hf9 => hR w9 ((Fr.of0 M.fr).trans hf9)) (hP.st 0 _ _ M.fr hJ)) ?_))))))))))
 rintro _ w9 ⟨rfl, hJ9, hf9⟩
 refine ⟨_, rfl, ?_⟩
 have M : Mem w S [] w9 := Mem.ofFr ((Fr.of0 M.fr).trans hf9)
 refine yb rfl (A1 (A2 (A9 (A9 (A0 (yb rfl (ya rfl (CJ rfl rfl rfl) (A1 (A2 (AR (b := (decide ((ixJ (fun i x => !(p i x)) 0 l) < (0 : Int)))) rfl (fun h13 => ?_) (fun h13 => ?_)))))))))))
 ·have h13p := (of_decide_eq_true h13)
  have hff := LP h13p
  exact A9 (A0 (yb rfl (yb rfl (A1 (A2 (AE (AA (C1 rfl rfl rfl ⟨by rw [hff]; rfl, hJ9, M.fr⟩))))))))
 ·have h13p := (of_decide_eq_false h13)
  obtain ⟨j, x, hj, hx, hff⟩ := LQ h13p
  have hjl : j < l.length := (List.getElem?_eq_some_iff.1 hx).1
  rw [hj]
  obtain ⟨b_x, o_x, hA_x⟩ := CN (k := 5) (by omega) (hR _ M.fr) hx
  refine AM (A2 (A9 (A0 (yb rfl (yb rfl (yb rfl (ya rfl (BZ j hA_x rfl rfl rfl (sl rfl) (by omega)) (ya rfl (AO rfl rfl (DK Bd.len (hR _ M.fr) hA_x hx) Tryz.underlying95 rfl IN) (AC (some 19) (A4 rfl) rfl rfl (C3 rfl rfl rfl Tryz.call72) (tB x _) ?_)))))))))
  rintro _ w10 ⟨rfl, hf10⟩
  exact ⟨_, rfl, yb rfl (yb rfl (A1 (A2 (AE (C1 rfl rfl rfl ⟨by rw [hff]; rfl, hP.st _ _ _ hf10 hJ9, M.fr.then0 hf10⟩)))))⟩
theorem nJ (g : FuncId) (cs : List Value) (g5 : Nat) (x : List UInt8) (b : Bool) (K : World → Prop) (w : World) (hb : Blk w g5 135 [.func (.func g) #[] cs.toArray]) (hfn : ∀ (ar : Array Value) (w : World), (callFunc g ar).run Tryz.prog w = .ok (.enter g ar) w)
 (hc : ∀ w3, Fr0 w w3 → Calls Tryz.prog g (str x :: cs).toArray w3 fun e w' => e = .returned (.bool b) ∧ K w') : Calls Tryz.prog 132 #[str x, .pointer (some ⟨g5, 0, none⟩)] w fun e w' => e = .returned (.bool (!b)) ∧ K w' := by
 refine AL (vs := [_, _]) Tryz.func132 rfl Tryz.ntmps132 rfl ?_
 have M := CM w
 refine A9 (A0 (yb rfl (A1 (A2 (A9 (A0 (yl rfl rfl (Blk.c (hb.fr0 M.fr) 0 rfl) (yb rfl (AC (some 6) (A4 rfl) rfl rfl (C3 rfl rfl rfl hfn) (hc _ M.fr) ?_)))))))))
 rintro _ w9 ⟨rfl, hK⟩
 exact ⟨_, rfl, yb rfl (yb rfl (A1 (A2 (AE (AI rfl rfl ⟨rfl, hK⟩)))))⟩
theorem iN {l : List (List UInt8)} {g : FuncId} {cs : List Value} {p : Nat → List UInt8 → Bool} {S : Nat → Prop} {J : Nat → World → Prop} {w w1 : World} {g5 : Nat} (hP : PredJ Tryz.prog g cs str l p S J w) (hf : Fr0 w w1) (hg : w.heap.size ≤ g5) (hb : Blk w1 g5 135 [.func (.func g) #[] cs.toArray]) :
 PredJ Tryz.prog 132 [.pointer (some ⟨g5, 0, none⟩)] str l (fun i x => !(p i x)) S J w1 where
 fn := Tryz.call132
 call i x w2 hx hf2 hJ := by
  have hn : ¬ S g5 := fun h => by have := hP.old g5 h; omega
  exact nJ g cs g5 x (p i x) (fun w' => J (i + 1) w' ∧ Fr S w2 w') w2 (hb.fr hf2 hn) hP.fn fun w3 hf3 =>
   (hP.call i x w3 hx ((Fr.of0 hf).trans (hf2.then0 hf3)) (hP.st i w2 w3 hf3 hJ)).mono fun _ _ ⟨h1, h2, h3⟩ => ⟨h1, h2, (Fr.of0 hf3).trans h3⟩
 st := hP.st
 old s hs := Nat.lt_of_lt_of_le (hP.old s hs) hf.size
theorem eF (A : Option Addr) (c : Nat) (l : List (List UInt8)) (hl : l.length ≤ 4611686018427387904) (g : FuncId) (cs : List Value) (p : Nat → List UInt8 → Bool) (S : Nat → Prop) (J : Nat → World → Prop) (w : World) (hP : PredJ Tryz.prog g cs str l p S J w) (hR : ∀ w1, Fr S w w1 → Rd w1 A (l.length * 1) (AS C7 l)) (hJ : J 0 w) :
 Calls Tryz.prog 86 #[.slice A l.length c, .func (.func 87) #[] #[], .func (.func g) #[] cs.toArray] w fun e w' => e = .returned (.tuple #[str ((ffN p 0 l).elim [] (fun x => x)), .bool (ffN p 0 l).isSome]) ∧ J (ixN (fun i x => !(p i x)) 0 l) w' ∧ Fr S w w' := by
 refine AL (vs := [_, _, _]) Tryz.func86 rfl Tryz.ntmps86 rfl ?_
 have M := CM w
 refine A9 (A0 (BG M (A4 rfl) rfl rfl 135 rfl rfl ([.func (.func g) #[] cs.toArray]) rfl fun g5 w1 hg5 M => yb rfl (yb rfl (A1 (A2 (A9 (A0 (yb rfl (ya rfl (CT (us := []) (vs := [.pointer (some ⟨g5, 0, none⟩)]) rfl rfl rfl) (AC (some 11) (A4 rfl) rfl rfl (AG rfl rfl Tryz.call123) (jB A c l hl 132 [.pointer (some ⟨g5, 0, none⟩)] (fun i x => !(p i x)) S J _ (iN hP M.fr hg5 (M.blk 0 rfl)) (fun w9 hf9 => hR w9 ((Fr.of0 M.fr).trans hf9)) (hP.st 0 _ _ M.fr hJ)) ?_))))))))))
 rintro _ w9 ⟨rfl, hJ9, hf9⟩
 refine ⟨_, rfl, ?_⟩
 have M : Mem w S [] w9 := Mem.ofFr ((Fr.of0 M.fr).trans hf9)
 refine yb rfl (A1 (A2 (A9 (A9 (A0 (yb rfl (ya rfl (CJ rfl rfl rfl) (A1 (A2 (AR (b := (decide ((ixJ (fun i x => !(p i x)) 0 l) < (0 : Int)))) rfl (fun h13 => ?_) (fun h13 => ?_)))))))))))
 ·have h13p := (of_decide_eq_true h13)
  have hff := LP h13p
  exact A9 (A0 (yb rfl (yb rfl (A1 (A2 (AE (AA (C1 rfl rfl rfl ⟨by rw [hff]; rfl, hJ9, M.fr⟩))))))))
 ·have h13p := (of_decide_eq_false h13)
  obtain ⟨j, x, hj, hx, hff⟩ := LQ h13p
  have hjl : j < l.length := (List.getElem?_eq_some_iff.1 hx).1
  rw [hj]
  obtain ⟨b_x, o_x, hA_x⟩ := CN (k := 1) (by omega) (hR _ M.fr) hx
  refine AM (A2 (A9 (A0 (yb rfl (yb rfl (yb rfl (ya rfl (BZ j hA_x rfl rfl rfl (sl rfl) (by omega)) (yl rfl rfl (G1 FW (hR _ M.fr) hA_x hx 0 rfl) (AC (some 19) (A4 rfl) rfl rfl (C3 rfl rfl rfl Tryz.call87) (rL x _) ?_)))))))))
  rintro _ w10 ⟨rfl, hf10⟩
  exact ⟨_, rfl, yb rfl (yb rfl (A1 (A2 (AE (C1 rfl rfl rfl ⟨by rw [hff]; rfl, hP.st _ _ _ hf10 hJ9, M.fr.then0 hf10⟩)))))⟩
end Go.Proofs.YtadgfojhjnkliaaGreatDoor
