/- Lemmas that the last text rests on. Condition: each says its own. -/
import Derived.Test.YtjaocmocdhckaaaGreatDoorZRu0
set_option maxHeartbeats 16000000
set_option maxRecDepth 100000
namespace Go.Proofs.YtjaocmocdhckaaaGreatDoor
open Go.RowKit
open Tryz
theorem qP (x : El) (w : World) : Calls prog 78 #[.agg x.cells.toArray] w fun e w' => e = .returned (str x.id) ∧ Fr0 w w' := by
 refine C2 func78 ntmps78 rfl fun M => srg (CN M rfl rfl fun g1 w1 hg1 M => yb rfl (nq (srg (yb rfl (BA M 0 rfl rfl rfl (yb rfl (nq (AI ?_))))))))
 exact gr1 rfl ⟨rfl, M.fr⟩
theorem qO (x : Fl) (w : World) : Calls prog 81 #[.agg x.cells.toArray] w fun e w' => e = .returned (str x.id) ∧ Fr0 w w' := by
 refine C2 func81 ntmps81 rfl fun M => srg (CN M rfl rfl fun g1 w1 hg1 M => yb rfl (nq (srg (yb rfl (BA M 0 rfl rfl rfl (yb rfl (nq (AI ?_))))))))
 exact gr1 rfl ⟨rfl, M.fr⟩
theorem qQ (x : Bd) (w : World) : Calls prog 75 #[.agg x.cells.toArray] w fun e w' => e = .returned (str x.name) ∧ Fr0 w w' := by
 refine C2 func75 ntmps75 rfl fun M => srg (CN M rfl rfl fun g1 w1 hg1 M => yb rfl (nq (srg (yb rfl (BA M 0 rfl rfl rfl (yb rfl (nq (AI ?_))))))))
 exact gr1 rfl ⟨rfl, M.fr⟩
theorem pJ (x : List UInt8) (w : World) : Calls prog 90 #[str x] w fun e w' => e = .returned (str x) ∧ Fr0 w w' := by
 exact C2 func90 ntmps90 rfl fun M => srg (yb rfl (nq (srg (yb rfl (yb rfl (nq (AI (gr1 rfl ⟨rfl, M.fr⟩))))))))
theorem oW (g : FuncId) (cs : List Value) (g5 : Nat) (x : El) (b : Bool) (K : World → Prop) (w : World) (hb : Blk w g5 94 [.func (.func g) #[] cs.toArray]) (hfn : ∀ (ar : Array Value) (w : World), (callFunc g ar).run prog w = .ok (.enter g ar) w)
 (hc : ∀ w3, Fr0 w w3 → Calls prog g (.agg x.cells.toArray :: cs).toArray w3 fun e w' => e = .returned (.bool b) ∧ K w') : Calls prog 130 #[.agg x.cells.toArray, pg g5] w fun e w' => e = .returned (.bool (!b)) ∧ K w' := by
 refine C2 func130 ntmps130 rfl fun M => srg (CN M rfl rfl fun g2 w1 hg2 M => yb rfl (nq (srg (yl rfl rfl (Blk.c (hb.fr0 M.fr) 0 rfl) (CR M 0 rfl rfl underlying69 AZ rfl (cl 6 rfl (BV rfl rfl rfl hfn) (hc _ M.fr) ?_))))))
 rintro _ w9 ⟨rfl, hK⟩
 exact ⟨_, rfl, yb rfl (yb rfl (nq (AI (gr1 rfl ⟨rfl, hK⟩))))⟩
theorem m7 {l : List (El)} {g : FuncId} {cs : List Value} {p : Nat → El → Bool} {S : Nat → Prop} {J : Nat → World → Prop} {w w1 : World} {g5 : Nat} (hP : PredJ prog g cs (fun x : El => .agg x.cells.toArray) l p S J w) (hf : Fr0 w w1) (hg : w.heap.size ≤ g5) (hb : Blk w1 g5 94 [.func (.func g) #[] cs.toArray]) :
 PredJ prog 130 [pg g5] (fun x : El => .agg x.cells.toArray) l (fun i x => !(p i x)) S J w1 where
 fn := call130
 call i x w2 hx hf2 hJ := by
  have hn : ¬ S g5 := fun h => by have := hP.old g5 h; omega
  exact oW g cs g5 x (p i x) (fun w' => J (i + 1) w' ∧ Fr S w2 w') w2 (hb.fr hf2 hn) hP.fn fun w3 hf3 =>
   (hP.call i x w3 hx ((Fr.of0 hf).trans (hf2.then0 hf3)) (hP.st i w2 w3 hf3 hJ)).mono fun _ _ ⟨h1, h2, h3⟩ => ⟨h1, h2, (Fr.of0 hf3).trans h3⟩
 st := hP.st
 old s hs := Nat.lt_of_lt_of_le (hP.old s hs) hf.size
theorem W6 (A : Option Addr) (c : Nat) (l : List (El)) (hl : l.length ≤ 4611686018427387904) (g : FuncId) (cs : List Value) (p : Nat → El → Bool) (S : Nat → Prop) (J : Nat → World → Prop) (w : World) (hP : PredJ prog g cs (fun x : El => .agg x.cells.toArray) l p S J w) (hR : ∀ w1, Fr S w w1 → Rd w1 A (l.length * 11) (AK El.cells l)) (hJ : J 0 w) :
 Calls prog 77 #[.slice A l.length c, .func (.func 78) #[] #[], .func (.func g) #[] cs.toArray] w fun e w' => e = .returned (.tuple #[str ((ffN p 0 l).elim [] (fun x => x.id)), .bool (ffN p 0 l).isSome]) ∧ J (ixN (fun i x => !(p i x)) 0 l) w' ∧ Fr S w w' := by
 refine C2 func77 ntmps77 rfl fun M => srg (DX M (AF rfl) rfl rfl 94 rfl rfl ([.func (.func g) #[] cs.toArray]) rfl fun g5 w1 hg5 M => yb rfl (yb rfl (nq (srg (yb rfl (ya rfl (D9 (us := []) (vs := [pg g5]) rfl rfl rfl) (cl 11 rfl (AQ rfl rfl call33) (Q1 El.cells El.len A c l hl 130 [pg g5] (fun i x => !(p i x)) S J _ (m7 hP M.fr hg5 (M.blk 0 rfl)) (fun w9 hf9 => hR w9 ((Fr.of0 M.fr).trans hf9)) (hP.st 0 _ _ M.fr hJ)) ?_)))))))
 rintro _ w9 ⟨rfl, hJ9, hf9⟩
 refine ⟨_, rfl, ?_⟩
 have M : Mem w S [] w9 := Mem.ofFr ((Fr.of0 M.fr).trans hf9)
 refine yb rfl (AC (AA (AD (AD (AB (yb rfl (CB rfl rfl (AC (AA (AN rfl (fun h13 => ?_) (fun h13 => ?_)))))))))))
 ·have h13p := (odt h13)
  have hff := N9 h13p
  exact srg (yb rfl (yb rfl (nq (AI (AE (CD rfl rfl rfl ⟨by rw [hff]; rfl, hJ9, M.fr⟩))))))
 ·have h13p := (odf h13)
  obtain ⟨j, x, hj, hx, hff⟩ := NA h13p
  have hjl : j < l.length := (List.getElem?_eq_some_iff.1 hx).1
  rw [hj]
  obtain ⟨b_x, o_x, hA_x⟩ := BI (k := 11) AO (hR _ M.fr) hx
  refine AL (AA (srg (yb rfl (yb rfl (yb rfl (ya rfl (B1 j hA_x rfl rfl rfl (sl rfl) AO) (ya rfl (AT rfl rfl (BQ El.len (hR _ M.fr) hA_x hx) underlying69 rfl AZ) (cl 19 rfl (BV rfl rfl rfl call78) (qP x _) ?_))))))))
  rintro _ w10 ⟨rfl, hf10⟩
  exact ⟨_, rfl, yb rfl (yb rfl (nq (AI (CD rfl rfl rfl ⟨by rw [hff]; rfl, hP.st _ _ _ hf10 hJ9, M.fr.then0 hf10⟩))))⟩
theorem oV (g : FuncId) (cs : List Value) (g5 : Nat) (x : Fl) (b : Bool) (K : World → Prop) (w : World) (hb : Blk w g5 105 [.func (.func g) #[] cs.toArray]) (hfn : ∀ (ar : Array Value) (w : World), (callFunc g ar).run prog w = .ok (.enter g ar) w)
 (hc : ∀ w3, Fr0 w w3 → Calls prog g (.agg x.cells.toArray :: cs).toArray w3 fun e w' => e = .returned (.bool b) ∧ K w') : Calls prog 132 #[.agg x.cells.toArray, pg g5] w fun e w' => e = .returned (.bool (!b)) ∧ K w' := by
 refine C2 func132 ntmps132 rfl fun M => srg (CN M rfl rfl fun g2 w1 hg2 M => yb rfl (nq (srg (yl rfl rfl (Blk.c (hb.fr0 M.fr) 0 rfl) (CR M 0 rfl rfl underlying72 CZ rfl (cl 6 rfl (BV rfl rfl rfl hfn) (hc _ M.fr) ?_))))))
 rintro _ w9 ⟨rfl, hK⟩
 exact ⟨_, rfl, yb rfl (yb rfl (nq (AI (gr1 rfl ⟨rfl, hK⟩))))⟩
theorem m6 {l : List (Fl)} {g : FuncId} {cs : List Value} {p : Nat → Fl → Bool} {S : Nat → Prop} {J : Nat → World → Prop} {w w1 : World} {g5 : Nat} (hP : PredJ prog g cs (fun x : Fl => .agg x.cells.toArray) l p S J w) (hf : Fr0 w w1) (hg : w.heap.size ≤ g5) (hb : Blk w1 g5 105 [.func (.func g) #[] cs.toArray]) :
 PredJ prog 132 [pg g5] (fun x : Fl => .agg x.cells.toArray) l (fun i x => !(p i x)) S J w1 where
 fn := call132
 call i x w2 hx hf2 hJ := by
  have hn : ¬ S g5 := fun h => by have := hP.old g5 h; omega
  exact oV g cs g5 x (p i x) (fun w' => J (i + 1) w' ∧ Fr S w2 w') w2 (hb.fr hf2 hn) hP.fn fun w3 hf3 =>
   (hP.call i x w3 hx ((Fr.of0 hf).trans (hf2.then0 hf3)) (hP.st i w2 w3 hf3 hJ)).mono fun _ _ ⟨h1, h2, h3⟩ => ⟨h1, h2, (Fr.of0 hf3).trans h3⟩
 st := hP.st
 old s hs := Nat.lt_of_lt_of_le (hP.old s hs) hf.size
theorem W5 (A : Option Addr) (c : Nat) (l : List (Fl)) (hl : l.length ≤ 4611686018427387904) (g : FuncId) (cs : List Value) (p : Nat → Fl → Bool) (S : Nat → Prop) (J : Nat → World → Prop) (w : World) (hP : PredJ prog g cs (fun x : Fl => .agg x.cells.toArray) l p S J w) (hR : ∀ w1, Fr S w w1 → Rd w1 A (l.length * 4) (AK Fl.cells l)) (hJ : J 0 w) :
 Calls prog 80 #[.slice A l.length c, .func (.func 81) #[] #[], .func (.func g) #[] cs.toArray] w fun e w' => e = .returned (.tuple #[str ((ffN p 0 l).elim [] (fun x => x.id)), .bool (ffN p 0 l).isSome]) ∧ J (ixN (fun i x => !(p i x)) 0 l) w' ∧ Fr S w w' := by
 refine C2 func80 ntmps80 rfl fun M => srg (DX M (AF rfl) rfl rfl 105 rfl rfl ([.func (.func g) #[] cs.toArray]) rfl fun g5 w1 hg5 M => yb rfl (yb rfl (nq (srg (yb rfl (ya rfl (D9 (us := []) (vs := [pg g5]) rfl rfl rfl) (cl 11 rfl (AQ rfl rfl call131) (ZA Fl.cells Fl.len A c l hl 132 [pg g5] (fun i x => !(p i x)) S J _ (m6 hP M.fr hg5 (M.blk 0 rfl)) (fun w9 hf9 => hR w9 ((Fr.of0 M.fr).trans hf9)) (hP.st 0 _ _ M.fr hJ)) ?_)))))))
 rintro _ w9 ⟨rfl, hJ9, hf9⟩
 refine ⟨_, rfl, ?_⟩
 have M : Mem w S [] w9 := Mem.ofFr ((Fr.of0 M.fr).trans hf9)
 refine yb rfl (AC (AA (AD (AD (AB (yb rfl (CB rfl rfl (AC (AA (AN rfl (fun h13 => ?_) (fun h13 => ?_)))))))))))
 ·have h13p := (odt h13)
  have hff := N9 h13p
  exact srg (yb rfl (yb rfl (nq (AI (AE (CD rfl rfl rfl ⟨by rw [hff]; rfl, hJ9, M.fr⟩))))))
 ·have h13p := (odf h13)
  obtain ⟨j, x, hj, hx, hff⟩ := NA h13p
  have hjl : j < l.length := (List.getElem?_eq_some_iff.1 hx).1
  rw [hj]
  obtain ⟨b_x, o_x, hA_x⟩ := BI (k := 4) AO (hR _ M.fr) hx
  refine AL (AA (srg (yb rfl (yb rfl (yb rfl (ya rfl (B1 j hA_x rfl rfl rfl (sl rfl) AO) (ya rfl (AT rfl rfl (BQ Fl.len (hR _ M.fr) hA_x hx) underlying72 rfl CZ) (cl 19 rfl (BV rfl rfl rfl call81) (qO x _) ?_))))))))
  rintro _ w10 ⟨rfl, hf10⟩
  exact ⟨_, rfl, yb rfl (yb rfl (nq (AI (CD rfl rfl rfl ⟨by rw [hff]; rfl, hP.st _ _ _ hf10 hJ9, M.fr.then0 hf10⟩))))⟩
theorem oX (g : FuncId) (cs : List Value) (g5 : Nat) (x : Bd) (b : Bool) (K : World → Prop) (w : World) (hb : Blk w g5 146 [.func (.func g) #[] cs.toArray]) (hfn : ∀ (ar : Array Value) (w : World), (callFunc g ar).run prog w = .ok (.enter g ar) w)
 (hc : ∀ w3, Fr0 w w3 → Calls prog g (.agg x.cells.toArray :: cs).toArray w3 fun e w' => e = .returned (.bool b) ∧ K w') : Calls prog 129 #[.agg x.cells.toArray, pg g5] w fun e w' => e = .returned (.bool (!b)) ∧ K w' := by
 refine C2 func129 ntmps129 rfl fun M => srg (CN M rfl rfl fun g2 w1 hg2 M => yb rfl (nq (srg (yl rfl rfl (Blk.c (hb.fr0 M.fr) 0 rfl) (CR M 0 rfl rfl underlying47 ES rfl (cl 6 rfl (BV rfl rfl rfl hfn) (hc _ M.fr) ?_))))))
 rintro _ w9 ⟨rfl, hK⟩
 exact ⟨_, rfl, yb rfl (yb rfl (nq (AI (gr1 rfl ⟨rfl, hK⟩))))⟩
theorem m8 {l : List (Bd)} {g : FuncId} {cs : List Value} {p : Nat → Bd → Bool} {S : Nat → Prop} {J : Nat → World → Prop} {w w1 : World} {g5 : Nat} (hP : PredJ prog g cs (fun x : Bd => .agg x.cells.toArray) l p S J w) (hf : Fr0 w w1) (hg : w.heap.size ≤ g5) (hb : Blk w1 g5 146 [.func (.func g) #[] cs.toArray]) :
 PredJ prog 129 [pg g5] (fun x : Bd => .agg x.cells.toArray) l (fun i x => !(p i x)) S J w1 where
 fn := call129
 call i x w2 hx hf2 hJ := by
  have hn : ¬ S g5 := fun h => by have := hP.old g5 h; omega
  exact oX g cs g5 x (p i x) (fun w' => J (i + 1) w' ∧ Fr S w2 w') w2 (hb.fr hf2 hn) hP.fn fun w3 hf3 =>
   (hP.call i x w3 hx ((Fr.of0 hf).trans (hf2.then0 hf3)) (hP.st i w2 w3 hf3 hJ)).mono fun _ _ ⟨h1, h2, h3⟩ => ⟨h1, h2, (Fr.of0 hf3).trans h3⟩
 st := hP.st
 old s hs := Nat.lt_of_lt_of_le (hP.old s hs) hf.size
theorem iM (A : Option Addr) (c : Nat) (l : List (Bd)) (hl : l.length ≤ 4611686018427387904) (g : FuncId) (cs : List Value) (p : Nat → Bd → Bool) (S : Nat → Prop) (J : Nat → World → Prop) (w : World) (hP : PredJ prog g cs (fun x : Bd => .agg x.cells.toArray) l p S J w) (hR : ∀ w1, Fr S w w1 → Rd w1 A (l.length * 5) (AK Bd.cells l)) (hJ : J 0 w) :
 Calls prog 74 #[.slice A l.length c, .func (.func 75) #[] #[], .func (.func g) #[] cs.toArray] w fun e w' => e = .returned (.tuple #[str ((ffN p 0 l).elim [] (fun x => x.name)), .bool (ffN p 0 l).isSome]) ∧ J (ixN (fun i x => !(p i x)) 0 l) w' ∧ Fr S w w' := by
 refine C2 func74 ntmps74 rfl fun M => srg (DX M (AF rfl) rfl rfl 146 rfl rfl ([.func (.func g) #[] cs.toArray]) rfl fun g5 w1 hg5 M => yb rfl (yb rfl (nq (srg (yb rfl (ya rfl (D9 (us := []) (vs := [pg g5]) rfl rfl rfl) (cl 11 rfl (AQ rfl rfl call126) (Q2 Bd.cells Bd.len A c l hl 129 [pg g5] (fun i x => !(p i x)) S J _ (m8 hP M.fr hg5 (M.blk 0 rfl)) (fun w9 hf9 => hR w9 ((Fr.of0 M.fr).trans hf9)) (hP.st 0 _ _ M.fr hJ)) ?_)))))))
 rintro _ w9 ⟨rfl, hJ9, hf9⟩
 refine ⟨_, rfl, ?_⟩
 have M : Mem w S [] w9 := Mem.ofFr ((Fr.of0 M.fr).trans hf9)
 refine yb rfl (AC (AA (AD (AD (AB (yb rfl (CB rfl rfl (AC (AA (AN rfl (fun h13 => ?_) (fun h13 => ?_)))))))))))
 ·have h13p := (odt h13)
  have hff := N9 h13p
  exact srg (yb rfl (yb rfl (nq (AI (AE (CD rfl rfl rfl ⟨by rw [hff]; rfl, hJ9, M.fr⟩))))))
 ·have h13p := (odf h13)
  obtain ⟨j, x, hj, hx, hff⟩ := NA h13p
  have hjl : j < l.length := (List.getElem?_eq_some_iff.1 hx).1
  rw [hj]
  obtain ⟨b_x, o_x, hA_x⟩ := BI (k := 5) AO (hR _ M.fr) hx
  refine AL (AA (srg (yb rfl (yb rfl (yb rfl (ya rfl (B1 j hA_x rfl rfl rfl (sl rfl) AO) (ya rfl (AT rfl rfl (BQ Bd.len (hR _ M.fr) hA_x hx) underlying47 rfl ES) (cl 19 rfl (BV rfl rfl rfl call75) (qQ x _) ?_))))))))
  rintro _ w10 ⟨rfl, hf10⟩
  exact ⟨_, rfl, yb rfl (yb rfl (nq (AI (CD rfl rfl rfl ⟨by rw [hff]; rfl, hP.st _ _ _ hf10 hJ9, M.fr.then0 hf10⟩))))⟩
theorem m5 (g : FuncId) (cs : List Value) (g5 : Nat) (x : List UInt8) (b : Bool) (K : World → Prop) (w : World) (hb : Blk w g5 89 [.func (.func g) #[] cs.toArray]) (hfn : ∀ (ar : Array Value) (w : World), (callFunc g ar).run prog w = .ok (.enter g ar) w)
 (hc : ∀ w3, Fr0 w w3 → Calls prog g (str x :: cs).toArray w3 fun e w' => e = .returned (.bool b) ∧ K w') : Calls prog 134 #[str x, pg g5] w fun e w' => e = .returned (.bool (!b)) ∧ K w' := by
 refine C2 func134 ntmps134 rfl fun M => srg (yb rfl (nq (srg (yl rfl rfl (Blk.c (hb.fr0 M.fr) 0 rfl) (yb rfl (cl 6 rfl (BV rfl rfl rfl hfn) (hc _ M.fr) ?_))))))
 rintro _ w9 ⟨rfl, hK⟩
 exact ⟨_, rfl, yb rfl (yb rfl (nq (AI (gr1 rfl ⟨rfl, hK⟩))))⟩
theorem fU {l : List (List UInt8)} {g : FuncId} {cs : List Value} {p : Nat → List UInt8 → Bool} {S : Nat → Prop} {J : Nat → World → Prop} {w w1 : World} {g5 : Nat} (hP : PredJ prog g cs str l p S J w) (hf : Fr0 w w1) (hg : w.heap.size ≤ g5) (hb : Blk w1 g5 89 [.func (.func g) #[] cs.toArray]) :
 PredJ prog 134 [pg g5] str l (fun i x => !(p i x)) S J w1 where
 fn := call134
 call i x w2 hx hf2 hJ := by
  have hn : ¬ S g5 := fun h => by have := hP.old g5 h; omega
  exact m5 g cs g5 x (p i x) (fun w' => J (i + 1) w' ∧ Fr S w2 w') w2 (hb.fr hf2 hn) hP.fn fun w3 hf3 =>
   (hP.call i x w3 hx ((Fr.of0 hf).trans (hf2.then0 hf3)) (hP.st i w2 w3 hf3 hJ)).mono fun _ _ ⟨h1, h2, h3⟩ => ⟨h1, h2, (Fr.of0 hf3).trans h3⟩
 st := hP.st
 old s hs := Nat.lt_of_lt_of_le (hP.old s hs) hf.size
theorem bZ (A : Option Addr) (c : Nat) (l : List (List UInt8)) (hl : l.length ≤ 4611686018427387904) (g : FuncId) (cs : List Value) (p : Nat → List UInt8 → Bool) (S : Nat → Prop) (J : Nat → World → Prop) (w : World) (hP : PredJ prog g cs str l p S J w) (hR : ∀ w1, Fr S w w1 → Rd w1 A (l.length * 1) (AK BW l)) (hJ : J 0 w) :
 Calls prog 89 #[.slice A l.length c, .func (.func 90) #[] #[], .func (.func g) #[] cs.toArray] w fun e w' => e = .returned (.tuple #[str ((ffN p 0 l).elim [] (fun x => x)), .bool (ffN p 0 l).isSome]) ∧ J (ixN (fun i x => !(p i x)) 0 l) w' ∧ Fr S w w' := by
 refine C2 func89 ntmps89 rfl fun M => srg (DX M (AF rfl) rfl rfl 89 rfl rfl ([.func (.func g) #[] cs.toArray]) rfl fun g5 w1 hg5 M => yb rfl (yb rfl (nq (srg (yb rfl (ya rfl (D9 (us := []) (vs := [pg g5]) rfl rfl rfl) (cl 11 rfl (AQ rfl rfl call68) (VW A c l hl 134 [pg g5] (fun i x => !(p i x)) S J _ (fU hP M.fr hg5 (M.blk 0 rfl)) (fun w9 hf9 => hR w9 ((Fr.of0 M.fr).trans hf9)) (hP.st 0 _ _ M.fr hJ)) ?_)))))))
 rintro _ w9 ⟨rfl, hJ9, hf9⟩
 refine ⟨_, rfl, ?_⟩
 have M : Mem w S [] w9 := Mem.ofFr ((Fr.of0 M.fr).trans hf9)
 refine yb rfl (AC (AA (AD (AD (AB (yb rfl (CB rfl rfl (AC (AA (AN rfl (fun h13 => ?_) (fun h13 => ?_)))))))))))
 ·have h13p := (odt h13)
  have hff := N9 h13p
  exact srg (yb rfl (yb rfl (nq (AI (AE (CD rfl rfl rfl ⟨by rw [hff]; rfl, hJ9, M.fr⟩))))))
 ·have h13p := (odf h13)
  obtain ⟨j, x, hj, hx, hff⟩ := NA h13p
  have hjl : j < l.length := (List.getElem?_eq_some_iff.1 hx).1
  rw [hj]
  obtain ⟨b_x, o_x, hA_x⟩ := BI (k := 1) AO (hR _ M.fr) hx
  refine AL (AA (srg (yb rfl (yb rfl (yb rfl (ya rfl (B1 j hA_x rfl rfl rfl (sl rfl) AO) (yl rfl rfl (DO DU (hR _ M.fr) hA_x hx 0 rfl) (cl 19 rfl (BV rfl rfl rfl call90) (pJ x _) ?_))))))))
  rintro _ w10 ⟨rfl, hf10⟩
  exact ⟨_, rfl, yb rfl (yb rfl (nq (AI (CD rfl rfl rfl ⟨by rw [hff]; rfl, hP.st _ _ _ hf10 hJ9, M.fr.then0 hf10⟩))))⟩
end Go.Proofs.YtjaocmocdhckaaaGreatDoor
