/- Lemmas that the last text rests on. Condition: each says its own. -/
import Derived.Test.YtjaocmocdhckaaaGreatDoorZRu0
set_option maxHeartbeats 16000000
set_option maxRecDepth 100000
namespace Go.Proofs.YtjaocmocdhckaaaGreatDoor
open Go.RowKit
open Tryz
theorem rV (x : El) (w : World) : Calls prog 78 #[.agg x.cells.toArray] w (CG w (str x.id)) := by
 refine C5 func78 ntmps78 rfl fun M => srg (CR M rfl rfl fun g1 w1 hg1 M => AY rfl (AQ rfl (BC M 0 rfl rfl rfl (yb rfl (gnr ?_)))))
 exact gr1 rfl ⟨rfl, M.fr⟩
theorem rU (x : Fl) (w : World) : Calls prog 81 #[.agg x.cells.toArray] w (CG w (str x.id)) := by
 refine C5 func81 ntmps81 rfl fun M => srg (CR M rfl rfl fun g1 w1 hg1 M => AY rfl (AQ rfl (BC M 0 rfl rfl rfl (yb rfl (gnr ?_)))))
 exact gr1 rfl ⟨rfl, M.fr⟩
theorem rW (x : Bd) (w : World) : Calls prog 75 #[.agg x.cells.toArray] w (CG w (str x.name)) := by
 refine C5 func75 ntmps75 rfl fun M => srg (CR M rfl rfl fun g1 w1 hg1 M => AY rfl (AQ rfl (BC M 0 rfl rfl rfl (yb rfl (gnr ?_)))))
 exact gr1 rfl ⟨rfl, M.fr⟩
theorem qQ (x : List UInt8) (w : World) : Calls prog 90 #[str x] w (CG w (str x)) := by
 exact C5 func90 ntmps90 rfl fun M => srg (AY rfl (AQ rfl (yb rfl (gnr (gr1 rfl ⟨rfl, M.fr⟩)))))
theorem qE (g : FuncId) (cs : List Value) (g5 : Nat) (x : El) (b : Bool) (K : World → Prop) (w : World) (hb : Blk w g5 94 [.func (.func g) #[] cs.toArray]) (hfn : ∀ (ar : Array Value) (w : World), (callFunc g ar).run prog w = .ok (.enter g ar) w)
 (hc : ∀ w3, Fr0 w w3 → Calls prog g (.agg x.cells.toArray :: cs).toArray w3 fun e w' => e = .returned (.bool b) ∧ K w') : Calls prog 130 #[.agg x.cells.toArray, pg g5] w fun e w' => e = .returned (.bool (!b)) ∧ K w' := by
 refine C5 func130 ntmps130 rfl fun M => srg (CR M rfl rfl fun g2 w1 hg2 M => AY rfl (srg (yl rfl rfl (Blk.c (hb.fr0 M.fr) 0 rfl) (CW M 0 rfl rfl underlying69 B2 rfl (cl 6 rfl (BX rfl rfl rfl hfn) (hc _ M.fr) ?_)))))
 rintro _ w9 ⟨rfl, hK⟩
 exact ⟨_, rfl, BM rfl rfl (gnr (gr1 rfl ⟨rfl, hK⟩))⟩
theorem mZ {l : List (El)} {g : FuncId} {cs : List Value} {p : Nat → El → Bool} {S : Nat → Prop} {J : Nat → World → Prop} {w w1 : World} {g5 : Nat} (hP : PredJ prog g cs (fun x : El => .agg x.cells.toArray) l p S J w) (hf : Fr0 w w1) (hg : w.heap.size ≤ g5) (hb : Blk w1 g5 94 [.func (.func g) #[] cs.toArray]) :
 PredJ prog 130 [pg g5] (fun x : El => .agg x.cells.toArray) l (fun i x => !(p i x)) S J w1 where
 fn := call130
 call i x w2 hx hf2 hJ := by
  have hn : ¬ S g5 := fun h => by have := hP.old g5 h; omega
  exact qE g cs g5 x (p i x) (fun w' => J (i + 1) w' ∧ Fr S w2 w') w2 (hb.fr hf2 hn) hP.fn fun w3 hf3 =>
   (hP.call i x w3 hx ((Fr.of0 hf).trans (hf2.then0 hf3)) (hP.st i w2 w3 hf3 hJ)).mono fun _ _ ⟨h1, h2, h3⟩ => ⟨h1, h2, (Fr.of0 hf3).trans h3⟩
 st := hP.st
 old s hs := Nat.lt_of_lt_of_le (hP.old s hs) hf.size
theorem WZ (A : Option Addr) (c : Nat) (l : List (El)) (hl : l.length ≤ 4611686018427387904) (g : FuncId) (cs : List Value) (p : Nat → El → Bool) (S : Nat → Prop) (J : Nat → World → Prop) (w : World) (hP : PredJ prog g cs (fun x : El => .agg x.cells.toArray) l p S J w) (hR : ∀ w1, Fr S w w1 → Rd w1 A (l.length * 11) (AH El.cells l)) (hJ : J 0 w) :
 Calls prog 77 #[.slice A l.length c, .func (.func 78) #[] #[], .func (.func g) #[] cs.toArray] w fun e w' => e = .returned (.tuple #[str ((ffN p 0 l).elim [] (fun x => x.id)), .bool (ffN p 0 l).isSome]) ∧ J (ixN (fun i x => !(p i x)) 0 l) w' ∧ Fr S w w' := by
 refine C5 func77 ntmps77 rfl fun M => srg (E3 M (AA rfl) rfl rfl 94 rfl rfl ([.func (.func g) #[] cs.toArray]) rfl fun g5 w1 hg5 M => yb rfl (AY rfl (AQ rfl (ya rfl (DE (us := []) (vs := [pg g5]) rfl rfl rfl) (cl 11 rfl (AP rfl rfl call33) (QQ El.cells El.len A c l hl 130 [pg g5] (fun i x => !(p i x)) S J _ (mZ hP M.fr hg5 (M.blk 0 rfl)) (fun w9 hf9 => hR w9 ((Fr.of0 M.fr).trans hf9)) (hP.st 0 _ _ M.fr hJ)) ?_)))))
 rintro _ w9 ⟨rfl, hJ9, hf9⟩
 refine ⟨_, rfl, ?_⟩
 have M : Mem w S [] w9 := Mem.ofFr ((Fr.of0 M.fr).trans hf9)
 refine AY rfl (AF (AQ rfl (CF rfl rfl (nq (AL rfl (fun h13 => ?_) (fun h13 => ?_))))))
 ·have h13p := (odt h13)
  have hff := NT h13p
  exact AQ rfl (yb rfl (gnr (AB (CI rfl rfl rfl ⟨by rw [hff]; rfl, hJ9, M.fr⟩))))
 ·have h13p := (odf h13)
  obtain ⟨j, x, hj, hx, hff⟩ := NU h13p
  have hjl : j < l.length := (List.getElem?_eq_some_iff.1 hx).1
  rw [hj]
  obtain ⟨b_x, o_x, hA_x⟩ := BI (k := 11) AM (hR _ M.fr) hx
  refine AI (AD (AQ rfl (BM rfl rfl (ya rfl (B1 j hA_x rfl rfl rfl (sl rfl) AM) (ya rfl (AU rfl rfl (BV El.len (hR _ M.fr) hA_x hx) underlying69 rfl B2) (cl 19 rfl (BX rfl rfl rfl call78) (rV x _) ?_))))))
  rintro _ w10 ⟨rfl, hf10⟩
  exact ⟨_, rfl, BM rfl rfl (gnr (CI rfl rfl rfl ⟨by rw [hff]; rfl, hP.st _ _ _ hf10 hJ9, M.fr.then0 hf10⟩))⟩
theorem qD (g : FuncId) (cs : List Value) (g5 : Nat) (x : Fl) (b : Bool) (K : World → Prop) (w : World) (hb : Blk w g5 105 [.func (.func g) #[] cs.toArray]) (hfn : ∀ (ar : Array Value) (w : World), (callFunc g ar).run prog w = .ok (.enter g ar) w)
 (hc : ∀ w3, Fr0 w w3 → Calls prog g (.agg x.cells.toArray :: cs).toArray w3 fun e w' => e = .returned (.bool b) ∧ K w') : Calls prog 132 #[.agg x.cells.toArray, pg g5] w fun e w' => e = .returned (.bool (!b)) ∧ K w' := by
 refine C5 func132 ntmps132 rfl fun M => srg (CR M rfl rfl fun g2 w1 hg2 M => AY rfl (srg (yl rfl rfl (Blk.c (hb.fr0 M.fr) 0 rfl) (CW M 0 rfl rfl underlying72 D3 rfl (cl 6 rfl (BX rfl rfl rfl hfn) (hc _ M.fr) ?_)))))
 rintro _ w9 ⟨rfl, hK⟩
 exact ⟨_, rfl, BM rfl rfl (gnr (gr1 rfl ⟨rfl, hK⟩))⟩
theorem mY {l : List (Fl)} {g : FuncId} {cs : List Value} {p : Nat → Fl → Bool} {S : Nat → Prop} {J : Nat → World → Prop} {w w1 : World} {g5 : Nat} (hP : PredJ prog g cs (fun x : Fl => .agg x.cells.toArray) l p S J w) (hf : Fr0 w w1) (hg : w.heap.size ≤ g5) (hb : Blk w1 g5 105 [.func (.func g) #[] cs.toArray]) :
 PredJ prog 132 [pg g5] (fun x : Fl => .agg x.cells.toArray) l (fun i x => !(p i x)) S J w1 where
 fn := call132
 call i x w2 hx hf2 hJ := by
  have hn : ¬ S g5 := fun h => by have := hP.old g5 h; omega
  exact qD g cs g5 x (p i x) (fun w' => J (i + 1) w' ∧ Fr S w2 w') w2 (hb.fr hf2 hn) hP.fn fun w3 hf3 =>
   (hP.call i x w3 hx ((Fr.of0 hf).trans (hf2.then0 hf3)) (hP.st i w2 w3 hf3 hJ)).mono fun _ _ ⟨h1, h2, h3⟩ => ⟨h1, h2, (Fr.of0 hf3).trans h3⟩
 st := hP.st
 old s hs := Nat.lt_of_lt_of_le (hP.old s hs) hf.size
theorem WY (A : Option Addr) (c : Nat) (l : List (Fl)) (hl : l.length ≤ 4611686018427387904) (g : FuncId) (cs : List Value) (p : Nat → Fl → Bool) (S : Nat → Prop) (J : Nat → World → Prop) (w : World) (hP : PredJ prog g cs (fun x : Fl => .agg x.cells.toArray) l p S J w) (hR : ∀ w1, Fr S w w1 → Rd w1 A (l.length * 4) (AH Fl.cells l)) (hJ : J 0 w) :
 Calls prog 80 #[.slice A l.length c, .func (.func 81) #[] #[], .func (.func g) #[] cs.toArray] w fun e w' => e = .returned (.tuple #[str ((ffN p 0 l).elim [] (fun x => x.id)), .bool (ffN p 0 l).isSome]) ∧ J (ixN (fun i x => !(p i x)) 0 l) w' ∧ Fr S w w' := by
 refine C5 func80 ntmps80 rfl fun M => srg (E3 M (AA rfl) rfl rfl 105 rfl rfl ([.func (.func g) #[] cs.toArray]) rfl fun g5 w1 hg5 M => yb rfl (AY rfl (AQ rfl (ya rfl (DE (us := []) (vs := [pg g5]) rfl rfl rfl) (cl 11 rfl (AP rfl rfl call131) (ZY Fl.cells Fl.len A c l hl 132 [pg g5] (fun i x => !(p i x)) S J _ (mY hP M.fr hg5 (M.blk 0 rfl)) (fun w9 hf9 => hR w9 ((Fr.of0 M.fr).trans hf9)) (hP.st 0 _ _ M.fr hJ)) ?_)))))
 rintro _ w9 ⟨rfl, hJ9, hf9⟩
 refine ⟨_, rfl, ?_⟩
 have M : Mem w S [] w9 := Mem.ofFr ((Fr.of0 M.fr).trans hf9)
 refine AY rfl (AF (AQ rfl (CF rfl rfl (nq (AL rfl (fun h13 => ?_) (fun h13 => ?_))))))
 ·have h13p := (odt h13)
  have hff := NT h13p
  exact AQ rfl (yb rfl (gnr (AB (CI rfl rfl rfl ⟨by rw [hff]; rfl, hJ9, M.fr⟩))))
 ·have h13p := (odf h13)
  obtain ⟨j, x, hj, hx, hff⟩ := NU h13p
  have hjl : j < l.length := (List.getElem?_eq_some_iff.1 hx).1
  rw [hj]
  obtain ⟨b_x, o_x, hA_x⟩ := BI (k := 4) AM (hR _ M.fr) hx
  refine AI (AD (AQ rfl (BM rfl rfl (ya rfl (B1 j hA_x rfl rfl rfl (sl rfl) AM) (ya rfl (AU rfl rfl (BV Fl.len (hR _ M.fr) hA_x hx) underlying72 rfl D3) (cl 19 rfl (BX rfl rfl rfl call81) (rU x _) ?_))))))
  rintro _ w10 ⟨rfl, hf10⟩
  exact ⟨_, rfl, BM rfl rfl (gnr (CI rfl rfl rfl ⟨by rw [hff]; rfl, hP.st _ _ _ hf10 hJ9, M.fr.then0 hf10⟩))⟩
theorem qF (g : FuncId) (cs : List Value) (g5 : Nat) (x : Bd) (b : Bool) (K : World → Prop) (w : World) (hb : Blk w g5 146 [.func (.func g) #[] cs.toArray]) (hfn : ∀ (ar : Array Value) (w : World), (callFunc g ar).run prog w = .ok (.enter g ar) w)
 (hc : ∀ w3, Fr0 w w3 → Calls prog g (.agg x.cells.toArray :: cs).toArray w3 fun e w' => e = .returned (.bool b) ∧ K w') : Calls prog 129 #[.agg x.cells.toArray, pg g5] w fun e w' => e = .returned (.bool (!b)) ∧ K w' := by
 refine C5 func129 ntmps129 rfl fun M => srg (CR M rfl rfl fun g2 w1 hg2 M => AY rfl (srg (yl rfl rfl (Blk.c (hb.fr0 M.fr) 0 rfl) (CW M 0 rfl rfl underlying47 EY rfl (cl 6 rfl (BX rfl rfl rfl hfn) (hc _ M.fr) ?_)))))
 rintro _ w9 ⟨rfl, hK⟩
 exact ⟨_, rfl, BM rfl rfl (gnr (gr1 rfl ⟨rfl, hK⟩))⟩
theorem n5 {l : List (Bd)} {g : FuncId} {cs : List Value} {p : Nat → Bd → Bool} {S : Nat → Prop} {J : Nat → World → Prop} {w w1 : World} {g5 : Nat} (hP : PredJ prog g cs (fun x : Bd => .agg x.cells.toArray) l p S J w) (hf : Fr0 w w1) (hg : w.heap.size ≤ g5) (hb : Blk w1 g5 146 [.func (.func g) #[] cs.toArray]) :
 PredJ prog 129 [pg g5] (fun x : Bd => .agg x.cells.toArray) l (fun i x => !(p i x)) S J w1 where
 fn := call129
 call i x w2 hx hf2 hJ := by
  have hn : ¬ S g5 := fun h => by have := hP.old g5 h; omega
  exact qF g cs g5 x (p i x) (fun w' => J (i + 1) w' ∧ Fr S w2 w') w2 (hb.fr hf2 hn) hP.fn fun w3 hf3 =>
   (hP.call i x w3 hx ((Fr.of0 hf).trans (hf2.then0 hf3)) (hP.st i w2 w3 hf3 hJ)).mono fun _ _ ⟨h1, h2, h3⟩ => ⟨h1, h2, (Fr.of0 hf3).trans h3⟩
 st := hP.st
 old s hs := Nat.lt_of_lt_of_le (hP.old s hs) hf.size
theorem jK (A : Option Addr) (c : Nat) (l : List (Bd)) (hl : l.length ≤ 4611686018427387904) (g : FuncId) (cs : List Value) (p : Nat → Bd → Bool) (S : Nat → Prop) (J : Nat → World → Prop) (w : World) (hP : PredJ prog g cs (fun x : Bd => .agg x.cells.toArray) l p S J w) (hR : ∀ w1, Fr S w w1 → Rd w1 A (l.length * 5) (AH Bd.cells l)) (hJ : J 0 w) :
 Calls prog 74 #[.slice A l.length c, .func (.func 75) #[] #[], .func (.func g) #[] cs.toArray] w fun e w' => e = .returned (.tuple #[str ((ffN p 0 l).elim [] (fun x => x.name)), .bool (ffN p 0 l).isSome]) ∧ J (ixN (fun i x => !(p i x)) 0 l) w' ∧ Fr S w w' := by
 refine C5 func74 ntmps74 rfl fun M => srg (E3 M (AA rfl) rfl rfl 146 rfl rfl ([.func (.func g) #[] cs.toArray]) rfl fun g5 w1 hg5 M => yb rfl (AY rfl (AQ rfl (ya rfl (DE (us := []) (vs := [pg g5]) rfl rfl rfl) (cl 11 rfl (AP rfl rfl call126) (QR Bd.cells Bd.len A c l hl 129 [pg g5] (fun i x => !(p i x)) S J _ (n5 hP M.fr hg5 (M.blk 0 rfl)) (fun w9 hf9 => hR w9 ((Fr.of0 M.fr).trans hf9)) (hP.st 0 _ _ M.fr hJ)) ?_)))))
 rintro _ w9 ⟨rfl, hJ9, hf9⟩
 refine ⟨_, rfl, ?_⟩
 have M : Mem w S [] w9 := Mem.ofFr ((Fr.of0 M.fr).trans hf9)
 refine AY rfl (AF (AQ rfl (CF rfl rfl (nq (AL rfl (fun h13 => ?_) (fun h13 => ?_))))))
 ·have h13p := (odt h13)
  have hff := NT h13p
  exact AQ rfl (yb rfl (gnr (AB (CI rfl rfl rfl ⟨by rw [hff]; rfl, hJ9, M.fr⟩))))
 ·have h13p := (odf h13)
  obtain ⟨j, x, hj, hx, hff⟩ := NU h13p
  have hjl : j < l.length := (List.getElem?_eq_some_iff.1 hx).1
  rw [hj]
  obtain ⟨b_x, o_x, hA_x⟩ := BI (k := 5) AM (hR _ M.fr) hx
  refine AI (AD (AQ rfl (BM rfl rfl (ya rfl (B1 j hA_x rfl rfl rfl (sl rfl) AM) (ya rfl (AU rfl rfl (BV Bd.len (hR _ M.fr) hA_x hx) underlying47 rfl EY) (cl 19 rfl (BX rfl rfl rfl call75) (rW x _) ?_))))))
  rintro _ w10 ⟨rfl, hf10⟩
  exact ⟨_, rfl, BM rfl rfl (gnr (CI rfl rfl rfl ⟨by rw [hff]; rfl, hP.st _ _ _ hf10 hJ9, M.fr.then0 hf10⟩))⟩
theorem mX (g : FuncId) (cs : List Value) (g5 : Nat) (x : List UInt8) (b : Bool) (K : World → Prop) (w : World) (hb : Blk w g5 89 [.func (.func g) #[] cs.toArray]) (hfn : ∀ (ar : Array Value) (w : World), (callFunc g ar).run prog w = .ok (.enter g ar) w)
 (hc : ∀ w3, Fr0 w w3 → Calls prog g (str x :: cs).toArray w3 fun e w' => e = .returned (.bool b) ∧ K w') : Calls prog 134 #[str x, pg g5] w fun e w' => e = .returned (.bool (!b)) ∧ K w' := by
 refine C5 func134 ntmps134 rfl fun M => srg (AY rfl (srg (yl rfl rfl (Blk.c (hb.fr0 M.fr) 0 rfl) (yb rfl (cl 6 rfl (BX rfl rfl rfl hfn) (hc _ M.fr) ?_)))))
 rintro _ w9 ⟨rfl, hK⟩
 exact ⟨_, rfl, BM rfl rfl (gnr (gr1 rfl ⟨rfl, hK⟩))⟩
theorem i7 {l : List (List UInt8)} {g : FuncId} {cs : List Value} {p : Nat → List UInt8 → Bool} {S : Nat → Prop} {J : Nat → World → Prop} {w w1 : World} {g5 : Nat} (hP : PredJ prog g cs str l p S J w) (hf : Fr0 w w1) (hg : w.heap.size ≤ g5) (hb : Blk w1 g5 89 [.func (.func g) #[] cs.toArray]) :
 PredJ prog 134 [pg g5] str l (fun i x => !(p i x)) S J w1 where
 fn := call134
 call i x w2 hx hf2 hJ := by
  have hn : ¬ S g5 := fun h => by have := hP.old g5 h; omega
  exact mX g cs g5 x (p i x) (fun w' => J (i + 1) w' ∧ Fr S w2 w') w2 (hb.fr hf2 hn) hP.fn fun w3 hf3 =>
   (hP.call i x w3 hx ((Fr.of0 hf).trans (hf2.then0 hf3)) (hP.st i w2 w3 hf3 hJ)).mono fun _ _ ⟨h1, h2, h3⟩ => ⟨h1, h2, (Fr.of0 hf3).trans h3⟩
 st := hP.st
 old s hs := Nat.lt_of_lt_of_le (hP.old s hs) hf.size
theorem cY (A : Option Addr) (c : Nat) (l : List (List UInt8)) (hl : l.length ≤ 4611686018427387904) (g : FuncId) (cs : List Value) (p : Nat → List UInt8 → Bool) (S : Nat → Prop) (J : Nat → World → Prop) (w : World) (hP : PredJ prog g cs str l p S J w) (hR : ∀ w1, Fr S w w1 → Rd w1 A (l.length * 1) (AH BY l)) (hJ : J 0 w) :
 Calls prog 89 #[.slice A l.length c, .func (.func 90) #[] #[], .func (.func g) #[] cs.toArray] w fun e w' => e = .returned (.tuple #[str ((ffN p 0 l).elim [] (fun x => x)), .bool (ffN p 0 l).isSome]) ∧ J (ixN (fun i x => !(p i x)) 0 l) w' ∧ Fr S w w' := by
 refine C5 func89 ntmps89 rfl fun M => srg (E3 M (AA rfl) rfl rfl 89 rfl rfl ([.func (.func g) #[] cs.toArray]) rfl fun g5 w1 hg5 M => yb rfl (AY rfl (AQ rfl (ya rfl (DE (us := []) (vs := [pg g5]) rfl rfl rfl) (cl 11 rfl (AP rfl rfl call68) (WQ A c l hl 134 [pg g5] (fun i x => !(p i x)) S J _ (i7 hP M.fr hg5 (M.blk 0 rfl)) (fun w9 hf9 => hR w9 ((Fr.of0 M.fr).trans hf9)) (hP.st 0 _ _ M.fr hJ)) ?_)))))
 rintro _ w9 ⟨rfl, hJ9, hf9⟩
 refine ⟨_, rfl, ?_⟩
 have M : Mem w S [] w9 := Mem.ofFr ((Fr.of0 M.fr).trans hf9)
 refine AY rfl (AF (AQ rfl (CF rfl rfl (nq (AL rfl (fun h13 => ?_) (fun h13 => ?_))))))
 ·have h13p := (odt h13)
  have hff := NT h13p
  exact AQ rfl (yb rfl (gnr (AB (CI rfl rfl rfl ⟨by rw [hff]; rfl, hJ9, M.fr⟩))))
 ·have h13p := (odf h13)
  obtain ⟨j, x, hj, hx, hff⟩ := NU h13p
  have hjl : j < l.length := (List.getElem?_eq_some_iff.1 hx).1
  rw [hj]
  obtain ⟨b_x, o_x, hA_x⟩ := BI (k := 1) AM (hR _ M.fr) hx
  refine AI (AD (AQ rfl (BM rfl rfl (ya rfl (B1 j hA_x rfl rfl rfl (sl rfl) AM) (yl rfl rfl (DQ E0 (hR _ M.fr) hA_x hx 0 rfl) (cl 19 rfl (BX rfl rfl rfl call90) (qQ x _) ?_))))))
  rintro _ w10 ⟨rfl, hf10⟩
  exact ⟨_, rfl, BM rfl rfl (gnr (CI rfl rfl rfl ⟨by rw [hff]; rfl, hP.st _ _ _ hf10 hJ9, M.fr.then0 hf10⟩))⟩
end Go.Proofs.YtjaocmocdhckaaaGreatDoor
