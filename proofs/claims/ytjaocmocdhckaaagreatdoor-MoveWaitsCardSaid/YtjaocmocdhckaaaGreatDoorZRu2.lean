/- Lemmas that the last text rests on. Condition: each says its own. -/
import Derived.Test.YtjaocmocdhckaaaGreatDoorZRu1
set_option maxHeartbeats 16000000
set_option maxRecDepth 100000
namespace Go.Proofs.YtjaocmocdhckaaaGreatDoor
open Go.RowKit
open Tryz
def OL (els : List El) : Nat → List UInt8 → Bool
 | 0, s => decide (s = [])
 | n + 1, s => if s = [] then true else decide ((((BK els s).getD zeroEl).kind.toNat : Int) = 10) && OL els n ((BK els s).getD zeroEl).inn
theorem aN (els : List El) {d : Nat} {s : List UInt8} (h : ¬ s = []) (hd : d < 4) (hk : (((BK els s).getD zeroEl).kind.toNat : Int) = 10) : OL els (4 - d) s = OL els (4 - (d + 1)) ((BK els s).getD zeroEl).inn := by
 rw [show 4 - d = (4 - (d + 1)) + 1 by omega, OL, if_neg h, decide_eq_true hk]; rfl
theorem oG (els : List El) {d : Nat} {s : List UInt8} (h : ¬ s = []) (hk : ¬ (((BK els s).getD zeroEl).kind.toNat : Int) = 10 ∨ (d : Int) = 4) : OL els (4 - d) s = false := by
 rcases hk with hk | hk
 ·cases 4 - d with
  | zero => exact decide_eq_false h
  | succ n => rw [OL, if_neg h, decide_eq_false hk]; rfl
 ·rw [show 4 - d = 0 by omega]; exact decide_eq_false h
theorem oH (els : List El) {n : Nat} {s : List UInt8} (h : s = []) : OL els n s = true := by
 subst h; cases n <;> simp [OL]
theorem nN (A : Option Addr) (c : Nat) (l : List El) (hl : l.length ≤ 4611686018427387904) (f : FuncId) (cs : List Value) (p : El → Bool) (w : World) (hP : PredJ prog f cs (fun x : El => .agg x.cells.toArray) l (fun _ => p) AV (fun _ _ => True) w) (hR : Rd w A (l.length * 11) (AK El.cells l)) :
 Calls prog 97 #[.slice A l.length c, .func (.func f) #[] cs.toArray] w fun e w' => e = .returned (.bool (l.any p)) ∧ Fr0 w w' :=
 (j7 El.cells El.len A c l hl f cs (fun _ => p) AV (fun _ _ => True) w hP (fun _ hf => hR.fr0 hf) trivial).mono fun _ _ ⟨h1, _, h2⟩ => ⟨by rw [h1, JB], h2⟩
theorem IS (A : Option Addr) (c : Nat) (l : List El) (hl : l.length ≤ 4611686018427387904) (f : FuncId) (cs : List Value) (p : El → Bool) (w : World) (hP : PredJ prog f cs (fun x : El => .agg x.cells.toArray) l (fun _ => p) AV (fun _ _ => True) w) (hR : Rd w A (l.length * 11) (AK El.cells l)) :
 Calls prog 77 #[.slice A l.length c, .func (.func 78) #[] #[], .func (.func f) #[] cs.toArray] w fun e w' => e = .returned (.tuple #[str ((ffN (fun _ => p) 0 l).elim [] (fun x => x.id)), .bool (ffN (fun _ => p) 0 l).isSome]) ∧ Fr0 w w' :=
 (W6 A c l hl f cs (fun _ => p) AV (fun _ _ => True) w hP (fun _ hf => hR.fr0 hf) trivial).mono fun _ _ ⟨h1, _, h2⟩ => ⟨h1, h2⟩
theorem ZS (A : Option Addr) (c : Nat) (l : List Fl) (hl : l.length ≤ 4611686018427387904) (f : FuncId) (cs : List Value) (p : Fl → Bool) (w : World) (hP : PredJ prog f cs (fun x : Fl => .agg x.cells.toArray) l (fun _ => p) AV (fun _ _ => True) w) (hR : Rd w A (l.length * 4) (AK Fl.cells l)) :
 Calls prog 87 #[.slice A l.length c, .func (.func f) #[] cs.toArray] w fun e w' => e = .returned (.bool (l.any p)) ∧ Fr0 w w' :=
 (j6 Fl.cells Fl.len A c l hl f cs (fun _ => p) AV (fun _ _ => True) w hP (fun _ hf => hR.fr0 hf) trivial).mono fun _ _ ⟨h1, _, h2⟩ => ⟨by rw [h1, JB], h2⟩
theorem T0 (A : Option Addr) (c : Nat) (l : List Fl) (hl : l.length ≤ 4611686018427387904) (f : FuncId) (cs : List Value) (p : Fl → Bool) (w : World) (hP : PredJ prog f cs (fun x : Fl => .agg x.cells.toArray) l (fun _ => p) AV (fun _ _ => True) w) (hR : Rd w A (l.length * 4) (AK Fl.cells l)) :
 Calls prog 80 #[.slice A l.length c, .func (.func 81) #[] #[], .func (.func f) #[] cs.toArray] w fun e w' => e = .returned (.tuple #[str ((ffN (fun _ => p) 0 l).elim [] (fun x => x.id)), .bool (ffN (fun _ => p) 0 l).isSome]) ∧ Fr0 w w' :=
 (W5 A c l hl f cs (fun _ => p) AV (fun _ _ => True) w hP (fun _ hf => hR.fr0 hf) trivial).mono fun _ _ ⟨h1, _, h2⟩ => ⟨h1, h2⟩
theorem nO (A : Option Addr) (c : Nat) (l : List Bd) (hl : l.length ≤ 4611686018427387904) (f : FuncId) (cs : List Value) (p : Bd → Bool) (w : World) (hP : PredJ prog f cs (fun x : Bd => .agg x.cells.toArray) l (fun _ => p) AV (fun _ _ => True) w) (hR : Rd w A (l.length * 5) (AK Bd.cells l)) :
 Calls prog 101 #[.slice A l.length c, .func (.func f) #[] cs.toArray] w fun e w' => e = .returned (.bool (l.any p)) ∧ Fr0 w w' :=
 (j8 Bd.cells Bd.len A c l hl f cs (fun _ => p) AV (fun _ _ => True) w hP (fun _ hf => hR.fr0 hf) trivial).mono fun _ _ ⟨h1, _, h2⟩ => ⟨by rw [h1, JB], h2⟩
theorem P4 (a2 : Int) : prog.built 69 [(2, .int .u8 a2)] = some #[str [], str [], .int .u8 a2, str [], str [], str [], .int .u8 0, str [], str [], .int .i64 0, .int .i64 0] := by kernel_rfl
theorem MN (a2 : Int) (a10 : Int) : prog.built 69 [(2, .int .u8 a2), (10, .int .i64 a10)] = some #[str [], str [], .int .u8 a2, str [], str [], str [], .int .u8 0, str [], str [], .int .i64 0, .int .i64 a10] := by kernel_rfl
theorem ND (a2 : Int) (a4 : List UInt8) : prog.built 69 [(2, .int .u8 a2), (4, str a4)] = some #[str [], str [], .int .u8 a2, str [], str a4, str [], .int .u8 0, str [], str [], .int .i64 0, .int .i64 0] := by kernel_rfl
theorem zr_sl_api_Flow : (prog.info? 24).map (·.zero) = some (some (.slice none 0 0)) := by kernel_rfl
def QJ (l : List UInt8) : Bool := ((decide (((l.length : Nat) : Int) ≤ (1024 : Int))) && (utf l))
theorem YL (l : List UInt8) (w : World) (hl : (l.length : Int) < 4611686018427387904) (hT : Laid w utfL) :
 Calls prog 72 #[str l] w fun e w' => e = .returned (.bool (QJ l)) ∧ Fr0 w w' := by
 refine C2 func72 ntmps72 rfl fun M => AD (AB (yb rfl (AC (AA (AD (AB (yb rfl (ya rfl (G5 rfl rfl underlying9) (RA rfl rfl (yb rfl (fvm M 3 [2] [(9, .bool ((decide (((l.length : Nat) : Int) ≤ (1024 : Int))) && (utf l)))] ?_ (fun k6 => ?_))))))))))))
 ·intro w1 M
  exact yb rfl (nq (AI (gr1 rfl ⟨by rw [QJ], M.fr⟩)))
 refine AP (d := 6) rfl (fun h6 => ?_) (fun h6 => ?_)
 ·refine gyq rfl (B0 (some 8) (BD rfl rfl rfl) rfl rfl (AQ rfl rfl call123) (K9 _ _ AO (hT.fr M.fr)) ?_)
  rintro _ w2 ⟨rfl, hfw2⟩
  refine ⟨_, rfl, ?_⟩
  have M := M.step hfw2
  exact yb rfl (k6 M ⟨rfl, (by rw [h6]; rfl), trivial⟩)
 ·exact yo rfl (yo rfl (yb rfl (k6 M ⟨rfl, (by rw [h6]; rfl), trivial⟩)))
def KL (y : El) : Bool := (if (decide ((y.ev.toNat : Int) = (1 : Int))) = true then ((((decide ((1 : Int) ≤ y.ticks)) && (decide (y.ticks ≤ (1048576 : Int)))) && (decide (y.ref = []))) && (decide (y.key = []))) else (if (decide ((y.ev.toNat : Int) = (2 : Int))) = true then (((decide (y.ticks = (0 : Int))) && (CP y.ref)) && (CP y.key)) else (if (decide ((y.ev.toNat : Int) = (3 : Int))) = true then (((decide (y.ticks = (0 : Int))) && (CP y.ref)) && (decide (y.key = []))) else false)))
theorem iQ (y : El) (w : World) (oy : ElOk y) :
 Calls prog 133 #[.agg y.cells.toArray] w fun e w' => e = .returned (.bool (KL y)) ∧ Fr0 w w' := by
 have oy3 := oy.ref
 have oy4 := oy.key
 have oy5 := oy.id
 have oy6 := oy.nm
 have oy7 := oy.inn
 have oy8 := oy.att
 refine C2 func133 ntmps133 rfl fun M => srg (CN M rfl rfl fun g1 w1 hg1 M => yb rfl (nq (AD (srg (yb rfl (BA M 0 rfl rfl rfl (nq (AR ?_))))))))
 refine AD (AB (CI rfl rfl (yb rfl (AC (AA (AN rfl (fun h5 => ?_) (fun h5 => ?_)))))))
 ·refine AD (AB (yb rfl (BA M 0 rfl rfl rfl (RB rfl rfl (yb rfl (fvm M 4 [2, 1] [(14, .bool ((decide ((1 : Int) ≤ y.ticks)) && (decide (y.ticks ≤ (1048576 : Int)))))] ?_ (fun k10 => ?_)))))))
  ·intro w2 M
   refine yb rfl (fvm M 4 [2, 1] [(19, .bool (((decide ((1 : Int) ≤ y.ticks)) && (decide (y.ticks ≤ (1048576 : Int)))) && (decide (y.ref = []))))] ?_ (fun k15 => ?_))
   ·intro w3 M
    refine yb rfl (fvm M 4 [2] [(24, .bool ((((decide ((1 : Int) ≤ y.ticks)) && (decide (y.ticks ≤ (1048576 : Int)))) && (decide (y.ref = []))) && (decide (y.key = []))))] ?_ (fun k20 => ?_))
    ·intro w4 M
     exact yb rfl (nq (AI (AM (AE (gr1 rfl ⟨by rw [KL, if_pos h5], M.fr⟩)))))
    refine AP (d := 20) rfl (fun h20 => ?_) (fun h20 => ?_)
    ·exact gyq rfl (CH M 0 rfl rfl rfl (yd rfl (D8 rfl rfl rfl) (yb rfl (k20 M ⟨rfl, (by rw [h20]; rfl), trivial⟩))))
    ·exact yo rfl (yo rfl (yo rfl (yb rfl (k20 M ⟨rfl, (by rw [h20]; rfl), trivial⟩))))
   refine AP (d := 15) rfl (fun h15 => ?_) (fun h15 => ?_)
   ·exact gyq rfl (CH M 0 rfl rfl rfl (yd rfl (D8 rfl rfl rfl) (yb rfl (k15 M ⟨rfl, rfl, (by rw [h15]; rfl), trivial⟩))))
   ·exact yo rfl (yo rfl (yo rfl (yb rfl (k15 M ⟨rfl, rfl, (by rw [h15]; rfl), trivial⟩))))
  refine AP (d := 10) rfl (fun h10 => ?_) (fun h10 => ?_)
  ·exact gyq rfl (CH M 0 rfl rfl rfl (yd rfl (GL rfl rfl rfl) (yb rfl (k10 M ⟨rfl, rfl, (by rw [h10]; rfl), trivial⟩))))
  ·exact yo rfl (yo rfl (yo rfl (yb rfl (k10 M ⟨rfl, rfl, (by rw [h10]; rfl), trivial⟩))))
 ·have h5p := (odf h5)
  refine AD (AB (CI rfl rfl (yb rfl (AC (AA (AN rfl (fun h25 => ?_) (fun h25 => ?_)))))))
  ·have h25p := (odt h25)
   refine AD (AB (yb rfl (BA M 0 rfl rfl rfl (CI rfl rfl (yb rfl (fvm M 4 [2, 1] [(34, .bool ((decide (y.ticks = (0 : Int))) && (CP y.ref)))] ?_ (fun k30 => ?_)))))))
   ·intro w5 M
    refine yb rfl (fvm M 4 [2] [(39, .bool (((decide (y.ticks = (0 : Int))) && (CP y.ref)) && (CP y.key)))] ?_ (fun k35 => ?_))
    ·intro w6 M
     exact yb rfl (nq (AI (AM (AE (gr1 rfl ⟨by rw [KL, if_neg (AS h5), if_pos h25], M.fr⟩)))))
    refine AP (d := 35) rfl (fun h35 => ?_) (fun h35 => ?_)
    ·refine gyq rfl (CH M 0 rfl rfl rfl (B0 (some 38) (BD rfl rfl rfl) rfl rfl (AQ rfl rfl call67) (EE _ _ AO) ?_))
     rintro _ w7 ⟨rfl, hfw7⟩
     refine ⟨_, rfl, ?_⟩
     have M := M.step hfw7
     exact yb rfl (k35 M ⟨rfl, (by rw [h35]; rfl), trivial⟩)
    ·exact yo rfl (yo rfl (yo rfl (yb rfl (k35 M ⟨rfl, (by rw [h35]; rfl), trivial⟩))))
   refine AP (d := 30) rfl (fun h30 => ?_) (fun h30 => ?_)
   ·refine gyq rfl (CH M 0 rfl rfl rfl (B0 (some 33) (BD rfl rfl rfl) rfl rfl (AQ rfl rfl call67) (EE _ _ AO) ?_))
    rintro _ w8 ⟨rfl, hfw8⟩
    refine ⟨_, rfl, ?_⟩
    have M := M.step hfw8
    exact yb rfl (k30 M ⟨rfl, rfl, (by rw [h30]; rfl), trivial⟩)
   ·exact yo rfl (yo rfl (yo rfl (yb rfl (k30 M ⟨rfl, rfl, (by rw [h30]; rfl), trivial⟩))))
  ·have h25p := (odf h25)
   refine AD (AB (CI rfl rfl (yb rfl (AC (AA (AN rfl (fun h40 => ?_) (fun h40 => ?_)))))))
   ·have h40p := (odt h40)
    refine AD (AB (yb rfl (BA M 0 rfl rfl rfl (CI rfl rfl (yb rfl (fvm M 4 [2, 1] [(49, .bool ((decide (y.ticks = (0 : Int))) && (CP y.ref)))] ?_ (fun k45 => ?_)))))))
    ·intro w9 M
     refine yb rfl (fvm M 4 [2] [(54, .bool (((decide (y.ticks = (0 : Int))) && (CP y.ref)) && (decide (y.key = []))))] ?_ (fun k50 => ?_))
     ·intro w10 M
      exact yb rfl (nq (AI (AM (AE (gr1 rfl ⟨by rw [KL, if_neg (AS h5), if_neg (AS h25), if_pos h40], M.fr⟩)))))
     refine AP (d := 50) rfl (fun h50 => ?_) (fun h50 => ?_)
     ·exact gyq rfl (CH M 0 rfl rfl rfl (yd rfl (D8 rfl rfl rfl) (yb rfl (k50 M ⟨rfl, (by rw [h50]; rfl), trivial⟩))))
     ·exact yo rfl (yo rfl (yo rfl (yb rfl (k50 M ⟨rfl, (by rw [h50]; rfl), trivial⟩))))
    refine AP (d := 45) rfl (fun h45 => ?_) (fun h45 => ?_)
    ·refine gyq rfl (CH M 0 rfl rfl rfl (B0 (some 48) (BD rfl rfl rfl) rfl rfl (AQ rfl rfl call67) (EE _ _ AO) ?_))
     rintro _ w11 ⟨rfl, hfw11⟩
     refine ⟨_, rfl, ?_⟩
     have M := M.step hfw11
     exact yb rfl (k45 M ⟨rfl, rfl, (by rw [h45]; rfl), trivial⟩)
    ·exact yo rfl (yo rfl (yo rfl (yb rfl (k45 M ⟨rfl, rfl, (by rw [h45]; rfl), trivial⟩))))
   ·exact AL (AH (AA (srg (yb rfl (nq (AI (gr1 rfl ⟨by rw [KL, if_neg (AS h5), if_neg (AS h25), if_neg (AS h40)], M.fr⟩)))))))
def U6 (y : El) : Bool := (if ((decide ((y.kind.toNat : Int) < (1 : Int))) || (decide ((10 : Int) < (y.kind.toNat : Int)))) = true then false else (if (decide ((y.kind.toNat : Int) = (4 : Int))) = true then (((decide ((1 : Int) ≤ y.tries)) && (decide (y.tries ≤ (100 : Int)))) && (El.same (⟨[], [], y.kind, [], y.dflt, y.att, y.ev, y.ref, y.key, y.ticks, y.tries⟩ : El) (⟨[], [], y.kind, [], [], [], 0, [], [], 0, y.tries⟩ : El))) else (if (decide ((y.kind.toNat : Int) = (5 : Int))) = true then (El.same (⟨[], [], y.kind, [], y.dflt, y.att, y.ev, y.ref, y.key, y.ticks, y.tries⟩ : El) (⟨[], [], y.kind, [], y.dflt, [], 0, [], [], 0, 0⟩ : El)) else (if ((decide ((y.kind.toNat : Int) = (8 : Int))) || (decide ((y.kind.toNat : Int) = (9 : Int)))) = true then ((((KL y) && (decide (y.tries = (0 : Int)))) && (decide (y.dflt = []))) && ((decide ((y.kind.toNat : Int) = (9 : Int))) || (decide (y.att = [])))) else (El.same (⟨[], [], y.kind, [], y.dflt, y.att, y.ev, y.ref, y.key, y.ticks, y.tries⟩ : El) (⟨[], [], y.kind, [], [], [], 0, [], [], 0, 0⟩ : El))))))
theorem pK (y : El) (w : World) (oy : ElOk y) :
 Calls prog 84 #[.agg y.cells.toArray] w fun e w' => e = .returned (.bool (U6 y)) ∧ Fr0 w w' := by
 have oy3 := oy.ref
 have oy4 := oy.key
 have oy5 := oy.id
 have oy6 := oy.nm
 have oy7 := oy.inn
 have oy8 := oy.att
 refine C2 func84 ntmps84 rfl fun M => srg (CN M rfl rfl fun g1 w1 hg1 M => yb rfl (nq (srg (CR M 0 rfl rfl underlying69 AZ rfl (D6 M rfl B4 fun g3 w2 hg3 M => C1 M 0 rfl rfl AZ rfl fun w3 M => AC ?_)))))
 refine AA (srg (yb rfl (gp1 M 0 rfl rfl rfl G0 fun w4 M => yb rfl (gp1 M 0 rfl rfl rfl G0 fun w5 M => yb rfl (gp1 M 0 rfl rfl rfl G0 fun w6 M => nq (AD (AR ?_)))))))
 refine AD (AB (yb rfl (BA M 1 rfl rfl rfl (CB rfl rfl (yb rfl (fvm M 4 [3, 1] [(16, .bool ((decide ((y.kind.toNat : Int) < (1 : Int))) || (decide ((10 : Int) < (y.kind.toNat : Int)))))] ?_ (fun k12 => ?_)))))))
 ·intro w7 M
  refine yb rfl (AC (AA (AN rfl (fun h8 => ?_) (fun h8 => ?_))))
  ·have h8p := ((EJ h8).imp (fun z => (odt z)) (fun z => (odt z)))
   exact srg (yb rfl (nq (AI (AM (AE (gr1 rfl ⟨by rw [U6, if_pos h8], M.fr⟩))))))
  ·have h8p := (And.intro (odf (CL h8).1) (odf (CL h8).2))
   refine AD (AB (yb rfl (BA M 1 rfl rfl rfl (CI rfl rfl (yb rfl (AC (AA (AN rfl (fun h17 => ?_) (fun h17 => ?_)))))))))
   ·refine AD (AB (yb rfl (BA M 1 rfl rfl rfl (RB rfl rfl (yb rfl (fvm M 4 [3, 1] [(28, .bool ((decide ((1 : Int) ≤ y.tries)) && (decide (y.tries ≤ (100 : Int)))))] ?_ (fun k24 => ?_)))))))
    ·intro w8 M
     refine yb rfl (fvm M 8 [3, 1] [(37, .bool (((decide ((1 : Int) ≤ y.tries)) && (decide (y.tries ≤ (100 : Int)))) && (El.same (⟨[], [], y.kind, [], y.dflt, y.att, y.ev, y.ref, y.key, y.ticks, y.tries⟩ : El) (⟨[], [], y.kind, [], [], [], 0, [], [], 0, y.tries⟩ : El))))] ?_ (fun k29 => ?_))
     ·intro w9 M
      exact yb rfl (nq (AI (AM (AE (gr1 rfl ⟨by rw [U6, if_neg (AS h8), if_pos h17], M.fr⟩)))))
     refine AP (d := 29) rfl (fun h29 => ?_) (fun h29 => ?_)
     ·exact yd rfl (AT (xs := [str [], str [], .int .u8 (y.kind.toNat : Int), str [], str y.dflt, str y.att, .int .u8 (y.ev.toNat : Int), str y.ref, str y.key, .int .i64 y.ticks, .int .i64 y.tries]) rfl rfl (M.rdBlk 0 rfl rfl) underlying69 rfl AZ) (gyq rfl (CH M 1 rfl rfl rfl (gyq rfl (CH M 1 rfl rfl rfl (yd rfl (B9 (parts := [(2, _), (10, _)]) rfl rfl (MN _ _)) (yd rfl (X1 (a := (⟨[], [], y.kind, [], y.dflt, y.att, y.ev, y.ref, y.key, y.ticks, y.tries⟩ : El)) (b := (⟨[], [], y.kind, [], [], [], 0, [], [], 0, y.tries⟩ : El)) rfl rfl rfl) (yb rfl (k29 M ⟨rfl, rfl, (by rw [h29]; rfl), trivial⟩))))))))
     ·iterate 7 refine yo rfl ?_
      exact yb rfl (k29 M ⟨rfl, rfl, (by rw [h29]; rfl), trivial⟩)
    refine AP (d := 24) rfl (fun h24 => ?_) (fun h24 => ?_)
    ·exact gyq rfl (CH M 1 rfl rfl rfl (yd rfl (GL rfl rfl rfl) (yb rfl (k24 M ⟨rfl, rfl, (by rw [h24]; rfl), trivial⟩))))
    ·exact yo rfl (yo rfl (yo rfl (yb rfl (k24 M ⟨rfl, rfl, (by rw [h24]; rfl), trivial⟩))))
   ·have h17p := (odf h17)
    refine AD (AB (yb rfl (BA M 1 rfl rfl rfl (CI rfl rfl (yb rfl (AC (AA (AN rfl (fun h38 => ?_) (fun h38 => ?_)))))))))
    ·refine srg (CR M 0 rfl rfl underlying69 AZ rfl (yb rfl (BA M 1 rfl rfl rfl (yb rfl (BA M 1 rfl rfl rfl (ya rfl (B9 (parts := [(2, _), (4, _)]) rfl rfl (ND _ _)) (ya rfl (X1 (a := (⟨[], [], y.kind, [], y.dflt, y.att, y.ev, y.ref, y.key, y.ticks, y.tries⟩ : El)) (b := (⟨[], [], y.kind, [], y.dflt, [], 0, [], [], 0, 0⟩ : El)) rfl rfl rfl) (yb rfl (nq (AI (AM (AE (gr1 rfl ?_)))))))))))))
     exact ⟨by rw [U6, if_neg (AS h8), if_neg (AS h17), if_pos h38], M.fr⟩
    ·have h38p := (odf h38)
     refine AD (AB (yb rfl (BA M 1 rfl rfl rfl (CI rfl rfl (yb rfl (fvm M 4 [3, 1] [(57, .bool ((decide ((y.kind.toNat : Int) = (8 : Int))) || (decide ((y.kind.toNat : Int) = (9 : Int)))))] ?_ (fun k53 => ?_)))))))
     ·intro w10 M
      refine yb rfl (AC (AA (AN rfl (fun h49 => ?_) (fun h49 => ?_))))
      ·have h49p := ((EJ h49).imp (fun z => (odt z)) (fun z => (odt z)))
       refine AD (AB (CR M 1 rfl rfl underlying69 AZ rfl (D1 M 59 rfl rfl call133 (iQ _ _ (by assumption)) fun w11 M => yb rfl (fvm M 4 [3, 1] [(64, .bool ((KL y) && (decide (y.tries = (0 : Int)))))] ?_ (fun k60 => ?_)))))
       ·intro w12 M
        refine yb rfl (fvm M 4 [3, 1] [(69, .bool (((KL y) && (decide (y.tries = (0 : Int)))) && (decide (y.dflt = []))))] ?_ (fun k65 => ?_))
        ·intro w13 M
         refine yb rfl (fvm M 9 [3, 1] [(79, .bool ((((KL y) && (decide (y.tries = (0 : Int)))) && (decide (y.dflt = []))) && ((decide ((y.kind.toNat : Int) = (9 : Int))) || (decide (y.att = [])))))] ?_ (fun k70 => ?_))
         ·intro w14 M
          exact yb rfl (nq (AI (AM (AE (gr1 rfl ⟨by rw [U6, if_neg (AS h8), if_neg (AS h17), if_neg (AS h38), if_pos h49], M.fr⟩)))))
         refine AP (d := 70) rfl (fun h70 => ?_) (fun h70 => ?_)
         ·refine gyq rfl (CH M 1 rfl rfl rfl (yd rfl (C3 rfl rfl rfl) (gyq rfl (fvm M 4 [70, 3, 1] [(78, .bool ((decide ((y.kind.toNat : Int) = (9 : Int))) || (decide (y.att = []))))] ?_ (fun k74 => ?_)))))
          ·intro w15 M
           exact yb rfl (k70 M ⟨rfl, rfl, (by rw [h70]; rfl), trivial⟩)
          refine AP (d := 74) rfl (fun h74 => ?_) (fun h74 => ?_)
          ·exact yo rfl (yo rfl (yo rfl (gyq rfl (k74 M ⟨rfl, rfl, rfl, (by rw [h74]; rfl), trivial⟩))))
          ·exact gyq rfl (CH M 1 rfl rfl rfl (yd rfl (D8 rfl rfl rfl) (gyq rfl (k74 M ⟨rfl, rfl, rfl, (by rw [h74]; rfl), trivial⟩))))
         ·iterate 4 refine yo rfl ?_
          exact BS rfl rfl rfl rfl rfl (BS rfl rfl rfl rfl rfl (BS rfl rfl rfl rfl rfl (yo rfl (yb rfl (k70 M ⟨rfl, rfl, (by rw [h70]; rfl), trivial⟩)))))
        refine AP (d := 65) rfl (fun h65 => ?_) (fun h65 => ?_)
        ·exact gyq rfl (CH M 1 rfl rfl rfl (yd rfl (D8 rfl rfl rfl) (yb rfl (k65 M ⟨rfl, rfl, (by rw [h65]; rfl), trivial⟩))))
        ·exact yo rfl (yo rfl (yo rfl (yb rfl (k65 M ⟨rfl, rfl, (by rw [h65]; rfl), trivial⟩))))
       refine AP (d := 60) rfl (fun h60 => ?_) (fun h60 => ?_)
       ·exact gyq rfl (CH M 1 rfl rfl rfl (yd rfl (C3 rfl rfl rfl) (yb rfl (k60 M ⟨rfl, rfl, (by rw [h60]; rfl), trivial⟩))))
       ·exact yo rfl (yo rfl (yo rfl (yb rfl (k60 M ⟨rfl, rfl, (by rw [h60]; rfl), trivial⟩))))
      ·exact AL (AH (AA (srg (CR M 0 rfl rfl underlying69 AZ rfl (yb rfl (BA M 1 rfl rfl rfl (ya rfl (B9 (parts := [(2, _)]) rfl rfl (P4 _)) (ya rfl (X1 (a := (⟨[], [], y.kind, [], y.dflt, y.att, y.ev, y.ref, y.key, y.ticks, y.tries⟩ : El)) (b := (⟨[], [], y.kind, [], [], [], 0, [], [], 0, 0⟩ : El)) rfl rfl rfl) (yb rfl (nq (AI (gr1 rfl ⟨by rw [U6, if_neg (AS h8), if_neg (AS h17), if_neg (AS h38), if_neg (AS h49)], M.fr⟩))))))))))))
     refine AP (d := 53) rfl (fun h53 => ?_) (fun h53 => ?_)
     ·exact yo rfl (yo rfl (yo rfl (yb rfl (k53 M ⟨rfl, rfl, (by rw [h53]; rfl), trivial⟩))))
     ·exact gyq rfl (CH M 1 rfl rfl rfl (yd rfl (C3 rfl rfl rfl) (yb rfl (k53 M ⟨rfl, rfl, (by rw [h53]; rfl), trivial⟩))))
 refine AP (d := 12) rfl (fun h12 => ?_) (fun h12 => ?_)
 ·exact yo rfl (yo rfl (yo rfl (yb rfl (k12 M ⟨rfl, rfl, (by rw [h12]; rfl), trivial⟩))))
 ·exact gyq rfl (CH M 1 rfl rfl rfl (yd rfl (G6 rfl rfl rfl) (yb rfl (k12 M ⟨rfl, rfl, (by rw [h12]; rfl), trivial⟩))))
def TM (m : Md) (y : El) : Bool := OL m.els 4 y.inn && U6 y
theorem l0 (m : Md) (a : MdA) (ix : IxA) (gx gp : Nat) (y : El) (w : World) (oy : ElOk y) (_ho : MdOk m) (hx : IxAt w m a ix gx) (hp : Blk w gp 95 [pg gx]) :
 Calls prog 83 #[.agg y.cells.toArray, pg gp] w fun e w' => e = .returned (.bool (TM m y)) ∧ Fr0 w w' := by
 have oy3 := oy.ref
 have oy4 := oy.key
 have oy5 := oy.id
 have oy6 := oy.nm
 have oy7 := oy.inn
 have oy8 := oy.att
 refine C2 func83 ntmps83 rfl fun M => srg (CN M rfl rfl fun g2 w1 hg2 M => yb rfl (nq (srg (yb rfl (BA M 0 rfl rfl rfl (yb rfl (nq (AD ?_))))))))
 refine srg (yb rfl (nq (AR (flp [2, 1] (fun ze e wr mz => ∃ (d : Nat) (q : List UInt8), e = (4, str q) :: (5, .int .i64 ((d : Nat) : Int)) :: ze ∧ Mem w AV [As.blk g2 69 (El.cells y)] wr ∧ (d ≤ 4) ∧ (OL m.els 4 y.inn = OL m.els (4 - d) q) ∧ mz = 4 - d) ⟨0, y.inn, rfl, M, Nat.zero_le _, rfl, rfl⟩ ?_))))
 rintro _ w2 _ ⟨d, q, rfl, M, hd, hs, rfl⟩
 refine AD (AD (AB (yb rfl (ya rfl (GK rfl rfl rfl) (AC (AA (AN rfl (fun h10 => ?_) (fun h10 => ?_))))))))
 ·have h10p := (odf (CE h10))
  refine AL (AA (AD (AR (srg (yl rfl rfl (Blk.c (hp.fr0 M.fr) 0 rfl) (yb rfl (yb rfl (yl rfl rfl (Blk.c ((hx.fr0 M.fr).blk) 5 rfl) (yb rfl (ya rfl (BP rfl rfl rfl underlying62 underlying9 B4 ((hx.fr0 M.fr).E) (hx.getE _)) (D6 M rfl B4 fun g6 w3 hg6 M => C1 M 0 rfl rfl AZ rfl fun w4 M => ?_)))))))))))
  refine AC (AA (AD (AD (AB (yb rfl (BA M 0 rfl rfl rfl (D4 rfl rfl (yb rfl (fvm M 3 [6, 5, 4, 2, 1] [(25, .bool ((!decide ((((BK m.els q).getD zeroEl).kind.toNat : Int) = (10 : Int))) || (decide (((d : Nat) : Int) = (4 : Int)))))] ?_ (fun k22 => ?_))))))))))
  ·intro w5 M
   refine AC (AA (AN rfl (fun h25 => ?_) (fun h25 => ?_)))
   ·have h25p := ((EJ h25).imp (fun z => (odf (CE z))) (fun z => (odt z)))
    exact srg (yb rfl (nq (AI (AE (AM (AE (AE (AM (AE (gr1 rfl ⟨by rw [TM, hs, oG m.els h10p h25p]; rfl, M.fr⟩))))))))))
   ·have h25p := (And.intro (odt (BM (CL h25).1)) (odf (CL h25).2))
    refine AL (AA (AB (yb rfl (BA M 0 rfl rfl rfl (yb rfl (AC (AH (AA (AB (yb rfl (ya rfl (BF rfl rfl rfl AO) (yb rfl (AC ?_)))))))))))))
    have h10q : ¬ q = [] := h10p
    have hd4 : ¬ (d : Int) = 4 := h25p.2
    have hdlt : d < 4 := by omega
    refine fag ⟨d + 1, ((BK m.els q).getD zeroEl).inn, rfl, (M.pk [1]), ?_, ?_, rfl⟩
    ·omega
    ·rw [hs, aN m.els h10q hdlt h25p.1]
  refine AP (d := 22) rfl (fun h22 => ?_) (fun h22 => ?_)
  ·exact yo rfl (yo rfl (yb rfl (k22 M ⟨rfl, rfl, rfl, rfl, rfl, (by rw [h22]; rfl), trivial⟩)))
  ·exact gyq rfl (yd rfl (C3 rfl rfl rfl) (yb rfl (k22 M ⟨rfl, rfl, rfl, rfl, rfl, (by rw [h22]; rfl), trivial⟩)))
 ·have h10p := (odt (BM h10))
  exact BG (AJ (AJ (AY (AA (srg (CR M 0 rfl rfl underlying69 AZ rfl (D1 M 29 rfl rfl call84 (pK _ _ (by assumption)) fun w6 M => yb rfl (nq (AI (gr1 rfl ⟨by rw [TM, hs, oH m.els h10p]; rfl, M.fr⟩))))))))))
def L3 (m : Md) (y : Fl) : Bool := (((((BK m.els y.frm).isSome && (BK m.els y.tg).isSome) && (decide (((BK m.els y.frm).getD zeroEl).inn = ((BK m.els y.tg).getD zeroEl).inn))) && (!decide ((((BK m.els y.tg).getD zeroEl).kind.toNat : Int) = (9 : Int)))) && (!decide (y.frm = y.tg)))
theorem aK (m : Md) (a : MdA) (ix : IxA) (gx gp : Nat) (y : Fl) (w : World) (_ho : MdOk m) (hx : IxAt w m a ix gx) (hp : Blk w gp 95 [pg gx]) :
 Calls prog 85 #[.agg y.cells.toArray, pg gp] w fun e w' => e = .returned (.bool (L3 m y)) ∧ Fr0 w w' := by
 refine C2 func85 ntmps85 rfl fun M => srg (CN M rfl rfl fun g2 w1 hg2 M => yb rfl (nq (AD (CO 13 (fun w' => Mem w AV [As.blk g2 72 (Fl.cells y)] w') CU ?_))))
 have M := M.drew
 refine ol 0 13 rfl rfl rfl M (fun _ M => (Blk.c (hp.fr0 M.fr) 0 rfl)) (oc 1 13 rfl rfl M (oc 2 13 rfl rfl M (ol 3 13 rfl rfl rfl M (fun _ M => (Blk.c ((hx.fr0 M.fr).blk) 5 rfl)) (oc 4 13 rfl rfl M (ol 5 13 rfl rfl rfl M (fun _ M => (M.cell 0 rfl rfl)) (oa 6 13 rfl rfl M (fun _ M => E0 rfl rfl rfl underlying62 underlying9 B4 ((hx.fr0 M.fr).E) (hx.getE _) (hx.isE _)) (oc 7 13 rfl rfl M (oc 8 13 rfl rfl M (oc 9 13 rfl rfl M (fon M 10 4 rfl rfl B4 fun g4 w2 hg4 M => fop M 11 0 rfl rfl rfl AZ rfl (·.drop 1) fun w3 M => oc 12 13 rfl rfl (M.drop 1) (fdn (AA (AD ?_)))))))))))))
 refine CO 13 (fun w' => Mem w AV [As.blk g4 69 (El.cells ((BK m.els y.frm).getD zeroEl)), As.blk g2 72 (Fl.cells y)] w') CU ?_
 have M := M.drew
 refine ol 0 13 rfl rfl rfl M (fun _ M => (Blk.c (hp.fr0 M.fr) 0 rfl)) (oc 1 13 rfl rfl M (oc 2 13 rfl rfl M (ol 3 13 rfl rfl rfl M (fun _ M => (Blk.c ((hx.fr0 M.fr).blk) 5 rfl)) (oc 4 13 rfl rfl M (ol 5 13 rfl rfl rfl M (fun _ M => (M.cell 1 rfl rfl)) (oa 6 13 rfl rfl M (fun _ M => E0 rfl rfl rfl underlying62 underlying9 B4 ((hx.fr0 M.fr).E) (hx.getE _) (hx.isE _)) (oc 7 13 rfl rfl M (oc 8 13 rfl rfl M (oc 9 13 rfl rfl M (fon M 10 6 rfl rfl B4 fun g6 w4 hg6 M => fop M 11 0 rfl rfl rfl AZ rfl (·.drop 1) fun w5 M => oc 12 13 rfl rfl (M.drop 1) (fdn (AA (AD ?_)))))))))))))
 refine AB (yb rfl (yb rfl (fvm M 2 [6, 4, 3, 2] [(31, .bool ((BK m.els y.frm).isSome && (BK m.els y.tg).isSome))] ?_ (fun k29 => ?_))))
 ·intro w6 M
  refine yb rfl (fvm M 6 [6, 3, 2] [(38, .bool (((BK m.els y.frm).isSome && (BK m.els y.tg).isSome) && (decide (((BK m.els y.frm).getD zeroEl).inn = ((BK m.els y.tg).getD zeroEl).inn))))] ?_ (fun k32 => ?_))
  ·intro w7 M
   refine yb rfl (fvm M 4 [3, 2] [(43, .bool ((((BK m.els y.frm).isSome && (BK m.els y.tg).isSome) && (decide (((BK m.els y.frm).getD zeroEl).inn = ((BK m.els y.tg).getD zeroEl).inn))) && (!decide ((((BK m.els y.tg).getD zeroEl).kind.toNat : Int) = (9 : Int)))))] ?_ (fun k39 => ?_))
   ·intro w8 M
    refine yb rfl (fvm M 6 [3] [(50, .bool (((((BK m.els y.frm).isSome && (BK m.els y.tg).isSome) && (decide (((BK m.els y.frm).getD zeroEl).inn = ((BK m.els y.tg).getD zeroEl).inn))) && (!decide ((((BK m.els y.tg).getD zeroEl).kind.toNat : Int) = (9 : Int)))) && (!decide (y.frm = y.tg))))] ?_ (fun k44 => ?_))
    ·intro w9 M
     exact yb rfl (nq (AI (gr1 rfl ⟨by rw [L3], M.fr⟩)))
    refine AP (d := 44) rfl (fun h44 => ?_) (fun h44 => ?_)
    ·exact gyq rfl (CH M 2 rfl rfl rfl (gyq rfl (CH M 2 rfl rfl rfl (yd rfl (GK rfl rfl rfl) (yb rfl (k44 M ⟨rfl, (by rw [h44]; rfl), trivial⟩))))))
    ·iterate 5 refine yo rfl ?_
     exact yb rfl (k44 M ⟨rfl, (by rw [h44]; rfl), trivial⟩)
   refine AP (d := 39) rfl (fun h39 => ?_) (fun h39 => ?_)
   ·exact gyq rfl (CH M 0 rfl rfl rfl (yd rfl (DC rfl rfl rfl) (yb rfl (k39 M ⟨rfl, rfl, (by rw [h39]; rfl), trivial⟩))))
   ·exact yo rfl (yo rfl (yo rfl (yb rfl (k39 M ⟨rfl, rfl, (by rw [h39]; rfl), trivial⟩))))
  refine AP (d := 32) rfl (fun h32 => ?_) (fun h32 => ?_)
  ·exact gyq rfl (CH M 1 rfl rfl rfl (gyq rfl (CH M 0 rfl rfl rfl (yd rfl (D8 rfl rfl rfl) (yb rfl (k32 M ⟨rfl, rfl, rfl, (by rw [h32]; rfl), trivial⟩))))))
  ·iterate 5 refine yo rfl ?_
   exact yb rfl (k32 M ⟨rfl, rfl, rfl, (by rw [h32]; rfl), trivial⟩)
 refine AP (d := 29) rfl (fun h29 => ?_) (fun h29 => ?_)
 ·exact gyq rfl (yb rfl (k29 M ⟨rfl, rfl, rfl, rfl, (by rw [h29]; rfl), trivial⟩))
 ·exact yo rfl (yb rfl (k29 M ⟨rfl, rfl, rfl, rfl, (by rw [h29]; rfl), trivial⟩))
def N8 (m : Md) (y : Fl) : Bool := ((!decide ((((BK m.els y.tg).getD zeroEl).kind.toNat : Int) = (8 : Int))) || (!decide ((((E6 m.fls y.tg).length : Nat) : Int) = (1 : Int))))
theorem bY (m : Md) (a : MdA) (ix : IxA) (gx gp : Nat) (y : Fl) (w : World) (ho : MdOk m) (hx : IxAt w m a ix gx) (hp : Blk w gp 95 [pg gx]) :
 Calls prog 88 #[.agg y.cells.toArray, pg gp] w fun e w' => e = .returned (.bool (N8 m y)) ∧ Fr0 w w' := by
 have hIl := GA m.fls y.tg
 have hnf := ho.nfls
 refine C2 func88 ntmps88 rfl fun M => srg (CN M rfl rfl fun g2 w1 hg2 M => yb rfl (nq (AD (EU CU gkr ?_))))
 have M := M.drew
 refine sd rfl rfl (Blk.c (hp.fr0 M.fr) 0 rfl) (sb rfl (sb rfl (sd rfl rfl (Blk.c ((hx.fr0 M.fr).blk) 5 rfl) (sb rfl (FK M 0 rfl rfl rfl (sa rfl (BP rfl rfl rfl underlying62 underlying9 B4 ((hx.fr0 M.fr).E) (hx.getE _)) (sa rfl (NG (b := ((BK m.els y.tg).getD zeroEl)) rfl rfl) (sa rfl (DC rfl rfl rfl) (sb rfl (fvs 10 [3] [(23, .bool ((!decide ((((BK m.els y.tg).getD zeroEl).kind.toNat : Int) = (8 : Int))) || (!decide ((((E6 m.fls y.tg).length : Nat) : Int) = (1 : Int)))))] ?_ (fun k13 => ?_)))))))))))
 ·exact sb rfl (FR (AA (AI (gr1 rfl ⟨by rw [N8], M.fr⟩))))
 refine E7 (d := 13) rfl (fun h13 => ?_) (fun h13 => ?_)
 ·iterate 9 refine E3 rfl rfl rfl rfl rfl rfl ?_
  exact sb rfl (k13 _ ⟨rfl, (by rw [h13]; rfl), trivial⟩)
 ·exact gsg rfl (BU rfl rfl (sc rfl) (Blk.c (hp.fr0 M.fr) 0 rfl)) (gsg rfl (yp rfl) (gsg rfl (yp rfl) (gsg rfl (BU rfl rfl (sc rfl) (Blk.c ((hx.fr0 M.fr).blk) 6 rfl)) (gsg rfl (yp rfl) (gsg rfl (BU rfl rfl (sc rfl) (M.cell 0 rfl rfl)) (gsg rfl (BP rfl rfl rfl underlying140 underlying9 zr_sl_api_Flow ((hx.fr0 M.fr).I) (hx.getI _)) (gsg rfl (C7 rfl rfl (sl rfl)) (gsg rfl (DC rfl rfl rfl) (sb rfl (k13 _ ⟨rfl, (by rw [h13]; rfl), trivial⟩))))))))))
def J0 (m : Md) (y : El) : Bool := (if ((decide ((y.kind.toNat : Int) = (1 : Int))) || (decide ((y.kind.toNat : Int) = (9 : Int)))) = true then ((decide ((((E6 m.fls y.id).length : Nat) : Int) = (0 : Int))) && (decide ((((C9 m.fls y.id).length : Nat) : Int) = (1 : Int)))) else (if (decide ((y.kind.toNat : Int) = (2 : Int))) = true then ((decide ((((E6 m.fls y.id).length : Nat) : Int) = (1 : Int))) && (decide ((((C9 m.fls y.id).length : Nat) : Int) = (0 : Int)))) else (if ((decide ((y.kind.toNat : Int) = (5 : Int))) || (decide ((y.kind.toNat : Int) = (6 : Int)))) = true then ((decide ((1 : Int) ≤ (((E6 m.fls y.id).length : Nat) : Int))) && (decide ((1 : Int) ≤ (((C9 m.fls y.id).length : Nat) : Int)))) else (if (decide ((y.kind.toNat : Int) = (7 : Int))) = true then (if ((decide ((((E6 m.fls y.id).length : Nat) : Int) = (1 : Int))) && (decide ((2 : Int) ≤ (((C9 m.fls y.id).length : Nat) : Int)))) = true then (!((C9 m.fls y.id).any (N8 m))) else false) else ((decide ((((E6 m.fls y.id).length : Nat) : Int) = (1 : Int))) && (decide ((((C9 m.fls y.id).length : Nat) : Int) = (1 : Int))))))))
theorem bX (m : Md) (a : MdA) (ix : IxA) (gx gp : Nat) (y : El) (w : World) (oy : ElOk y) (ho : MdOk m) (hx : IxAt w m a ix gx) (hp : Blk w gp 95 [pg gx]) :
 Calls prog 86 #[.agg y.cells.toArray, pg gp] w fun e w' => e = .returned (.bool (J0 m y)) ∧ Fr0 w w' := by
 have oy3 := oy.ref
 have oy4 := oy.key
 have oy5 := oy.id
 have oy6 := oy.nm
 have oy7 := oy.inn
 have oy8 := oy.att
 have hIl := GA m.fls y.id
 have hOl := EI m.fls y.id
 have hnf := ho.nfls
 refine C2 func86 ntmps86 rfl fun M => srg (CN M rfl rfl fun g2 w1 hg2 M => yb rfl (nq (AD (EU CU gkr ?_))))
 have M := M.drew
 refine sd rfl rfl (Blk.c (hp.fr0 M.fr) 0 rfl) (sb rfl (sb rfl (sd rfl rfl (Blk.c ((hx.fr0 M.fr).blk) 6 rfl) (sb rfl (FK M 0 rfl rfl rfl (sa rfl (BP rfl rfl rfl underlying140 underlying9 zr_sl_api_Flow ((hx.fr0 M.fr).I) (hx.getI _)) (sa rfl (C7 rfl rfl (sl rfl)) (sd rfl rfl (Blk.c (hp.fr0 M.fr) 0 rfl) (sb rfl (sb rfl (sd rfl rfl (Blk.c ((hx.fr0 M.fr).blk) 7 rfl) (sb rfl (FK M 0 rfl rfl rfl (sa rfl (BP rfl rfl rfl underlying140 underlying9 zr_sl_api_Flow ((hx.fr0 M.fr).O) (hx.getO _)) (sa rfl (C7 rfl rfl (sl rfl)) ?_)))))))))))))))
 refine sb rfl (sb rfl (FR (AA (AD (srg (yb rfl (BA M 0 rfl rfl rfl (nq (AR (AD (srg (CI rfl rfl ?_))))))))))))
 refine yb rfl (AC (AA (IK [(1, pg gp), (2, pg g2), (4, .int .i64 (((E6 m.fls y.id).length : Nat) : Int)), (5, .int .i64 (((C9 m.fls y.id).length : Nat) : Int)), (23, .int .u8 (y.kind.toNat : Int)), (24, .bool ((decide ((y.kind.toNat : Int) = (1 : Int))) || (decide ((y.kind.toNat : Int) = (9 : Int)))))] (fun w' => Mem w AV [As.blk g2 69 (El.cells y)] w') ?_ (fun k24 => ?_))))
 ·intro w2 M
  refine AA (AN rfl (fun h24 => ?_) (fun h24 => ?_))
  ·have h24p := ((EJ h24).imp (fun z => (odt z)) (fun z => (odt z)))
   refine AD (AB (yb rfl (CI rfl rfl (yb rfl (fvm M 3 [5, 4] [(32, .bool ((decide ((((E6 m.fls y.id).length : Nat) : Int) = (0 : Int))) && (decide ((((C9 m.fls y.id).length : Nat) : Int) = (1 : Int)))))] ?_ (fun k29 => ?_))))))
   ·intro w3 M
    exact yb rfl (nq (AI (AM (AE (gr1 rfl ⟨by rw [J0, if_pos h24], M.fr⟩)))))
   refine AP (d := 29) rfl (fun h29 => ?_) (fun h29 => ?_)
   ·exact gyq rfl (yd rfl (C3 rfl rfl rfl) (yb rfl (k29 M ⟨rfl, rfl, (by rw [h29]; rfl), trivial⟩)))
   ·exact yo rfl (yo rfl (yb rfl (k29 M ⟨rfl, rfl, (by rw [h29]; rfl), trivial⟩)))
  ·have h24p := (And.intro (odf (CL h24).1) (odf (CL h24).2))
   refine AD (AB (CI rfl rfl (yb rfl (AC (AA (AN rfl (fun h33 => ?_) (fun h33 => ?_)))))))
   ·refine AD (AB (yb rfl (CI rfl rfl (yb rfl (fvm M 3 [5, 4] [(40, .bool ((decide ((((E6 m.fls y.id).length : Nat) : Int) = (1 : Int))) && (decide ((((C9 m.fls y.id).length : Nat) : Int) = (0 : Int)))))] ?_ (fun k37 => ?_))))))
    ·intro w4 M
     exact yb rfl (nq (AI (AM (AE (gr1 rfl ⟨by rw [J0, if_neg (AS h24), if_pos h33], M.fr⟩)))))
    refine AP (d := 37) rfl (fun h37 => ?_) (fun h37 => ?_)
    ·exact gyq rfl (yd rfl (C3 rfl rfl rfl) (yb rfl (k37 M ⟨rfl, rfl, (by rw [h37]; rfl), trivial⟩)))
    ·exact yo rfl (yo rfl (yb rfl (k37 M ⟨rfl, rfl, (by rw [h37]; rfl), trivial⟩)))
   ·have h33p := (odf h33)
    refine AD (AD (AB (CI rfl rfl (yb rfl (AC (AA (IK [(1, pg gp), (2, pg g2), (4, .int .i64 (((E6 m.fls y.id).length : Nat) : Int)), (5, .int .i64 (((C9 m.fls y.id).length : Nat) : Int)), (23, .int .u8 (y.kind.toNat : Int)), (41, .bool ((decide ((y.kind.toNat : Int) = (5 : Int))) || (decide ((y.kind.toNat : Int) = (6 : Int)))))] (fun w' => Mem w AV [As.blk g2 69 (El.cells y)] w') ?_ (fun k41 => ?_))))))))
    ·intro w5 M
     refine AA (AN rfl (fun h41 => ?_) (fun h41 => ?_))
     ·have h41p := ((EJ h41).imp (fun z => (odt z)) (fun z => (odt z)))
      refine AD (AB (yb rfl (RB rfl rfl (yb rfl (fvm M 3 [5, 4] [(49, .bool ((decide ((1 : Int) ≤ (((E6 m.fls y.id).length : Nat) : Int))) && (decide ((1 : Int) ≤ (((C9 m.fls y.id).length : Nat) : Int)))))] ?_ (fun k46 => ?_))))))
      ·intro w6 M
       exact yb rfl (nq (AI (AM (AE (gr1 rfl ⟨by rw [J0, if_neg (AS h24), if_neg (AS h33), if_pos h41], M.fr⟩)))))
      refine AP (d := 46) rfl (fun h46 => ?_) (fun h46 => ?_)
      ·exact gyq rfl (yd rfl (FG rfl rfl rfl) (yb rfl (k46 M ⟨rfl, rfl, (by rw [h46]; rfl), trivial⟩)))
      ·exact yo rfl (yo rfl (yb rfl (k46 M ⟨rfl, rfl, (by rw [h46]; rfl), trivial⟩)))
     ·have h41p := (And.intro (odf (CL h41).1) (odf (CL h41).2))
      refine AD (AB (CI rfl rfl (yb rfl (AC (AA (AN rfl (fun h50 => ?_) (fun h50 => ?_)))))))
      ·have h50p := (odt h50)
       refine AD (DN 15 CU gkr ?_)
       have M := M.drew
       refine sb rfl (sa rfl (C3 rfl rfl rfl) (sb rfl (fvs 3 [5, 4, 2, 1] [(57, .bool ((decide ((((E6 m.fls y.id).length : Nat) : Int) = (1 : Int))) && (decide ((2 : Int) ≤ (((C9 m.fls y.id).length : Nat) : Int)))))] ?_ (fun k54 => ?_))))
       ·refine sb rfl (E7 (d := 58) rfl (fun h58 => ?_) (fun h58 => ?_))
        ·have h58p := (And.intro (odt (CF h58).1) (odt (CF h58).2))
         refine gsg rfl (BU rfl rfl (sc rfl) (Blk.c (hp.fr0 M.fr) 0 rfl)) (gsg rfl (yp rfl) (gsg rfl (yp rfl) (gsg rfl (BU rfl rfl (sc rfl) (Blk.c ((hx.fr0 M.fr).blk) 7 rfl)) (gsg rfl (yp rfl) (gsg rfl (BU rfl rfl (sc rfl) (M.cell 0 rfl rfl)) (gsg rfl (BP rfl rfl rfl underlying140 underlying9 zr_sl_api_Flow ((hx.fr0 M.fr).O) (hx.getO _)) (gsg rfl (D9 (us := []) (vs := [pg gp]) rfl rfl rfl) (CS (B0 (some 67) (BD rfl rfl rfl) rfl rfl (AQ rfl rfl call87) (ZS _ _ (C9 m.fls y.id) (by have := GA m.fls; have := EI m.fls; have := ho.nfls; have := ho.nels; have := ho.nvars; first | omega | exact Nat.le_trans (GA _ _) AO | exact Nat.le_trans (EI _ _) AO) 88 [pg gp] (N8 m) _ (GI call88 (fun z hz w9 hf9 => bY m a ix gx gp z w9 ho ((hx.fr0 M.fr).fr0 hf9) ((hp.fr0 M.fr).fr0 hf9))) ((hx.fr0 M.fr).rdO _)) ?_)))))))))
         rintro _ w7 ⟨rfl, hfw7⟩
         refine ⟨_, rfl, ?_⟩
         have M := M.step hfw7
         exact gyq rfl (yb rfl (yb rfl (nq (AI (AM (AE (gr1 rfl ⟨by rw [J0, if_neg (AS h24), if_neg (AS h33), if_neg (AS h41), if_pos h50, if_pos h58], M.fr⟩)))))))
        ·have h58p := ((DM h58).imp (fun z => (odf z)) (fun z => (odf z)))
         iterate 8 refine E3 rfl rfl rfl rfl rfl rfl ?_
         exact CS (yo rfl (yo rfl (yb rfl (yb rfl (nq (AI (AM (AE (gr1 rfl ⟨by rw [J0, if_neg (AS h24), if_neg (AS h33), if_neg (AS h41), if_pos h50, if_neg (AS h58)], M.fr⟩)))))))))
       refine E7 (d := 54) rfl (fun h54 => ?_) (fun h54 => ?_)
       ·exact gsg rfl (yp rfl) (gsg rfl (FG rfl rfl rfl) (sb rfl (k54 _ ⟨rfl, rfl, rfl, rfl, (by rw [h54]; rfl), trivial⟩)))
       ·exact E3 rfl rfl rfl rfl rfl rfl (E3 rfl rfl rfl rfl rfl rfl (sb rfl (k54 _ ⟨rfl, rfl, rfl, rfl, (by rw [h54]; rfl), trivial⟩)))
      ·refine AL (AH (AA (AD (AB (yb rfl (CI rfl rfl (yb rfl (fvm M 3 [] [(75, .bool ((decide ((((E6 m.fls y.id).length : Nat) : Int) = (1 : Int))) && (decide ((((C9 m.fls y.id).length : Nat) : Int) = (1 : Int)))))] ?_ (fun k72 => ?_)))))))))
       ·intro w8 M
        exact yb rfl (nq (AI (gr1 rfl ⟨by rw [J0, if_neg (AS h24), if_neg (AS h33), if_neg (AS h41), if_neg (AS h50)], M.fr⟩)))
       refine AP (d := 72) rfl (fun h72 => ?_) (fun h72 => ?_)
       ·exact gyq rfl (yd rfl (C3 rfl rfl rfl) (yb rfl (k72 M ⟨(by rw [h72]; rfl), trivial⟩)))
       ·exact yo rfl (yo rfl (yb rfl (k72 M ⟨(by rw [h72]; rfl), trivial⟩)))
    refine AN rfl (fun h41 => ?_) (fun h41 => ?_)
    ·exact AL (k41 _ _ M ⟨rfl, rfl, rfl, rfl, rfl, (by rw [h41]; rfl), trivial⟩)
    ·exact AB (CI rfl rfl (yb rfl (AC (k41 _ _ M ⟨rfl, rfl, rfl, rfl, rfl, (by rw [h41]; rfl), trivial⟩))))
 refine AN rfl (fun h24 => ?_) (fun h24 => ?_)
 ·exact AL (k24 _ _ M ⟨rfl, rfl, rfl, rfl, rfl, (by rw [h24]; rfl), trivial⟩)
 ·exact AB (CI rfl rfl (yb rfl (AC (k24 _ _ M ⟨rfl, rfl, rfl, rfl, rfl, (by rw [h24]; rfl), trivial⟩))))
theorem eZ (y : El) (gy : Nat) (z : Fl) (w : World) (hb : Blk w gy 69 y.cells) :
 Calls prog 93 #[.agg z.cells.toArray, pg gy] w fun e w' => e = .returned (.bool (decide (z.id = y.dflt))) ∧ Fr0 w w' := by
 refine C2 func93 ntmps93 rfl fun M => srg (CN M rfl rfl fun g2 w1 hg2 M => yb rfl (nq (srg (yb rfl (BA M 0 rfl rfl rfl (yb rfl (yl rfl rfl (Blk.c (hb.fr0 M.fr) 4 rfl) (ya rfl (D8 rfl rfl rfl) (yb rfl ?_)))))))))
 exact nq (AI (gr1 rfl ⟨rfl, M.fr⟩))
def IU (m : Md) (y : El) : Bool := (if (!decide ((y.kind.toNat : Int) = (5 : Int))) = true then true else (if (decide ((((C9 m.fls y.id).length : Nat) : Int) = (1 : Int))) = true then (decide (y.dflt = [])) else ((C9 m.fls y.id).any (fun z => decide (z.id = y.dflt)))))
theorem lM (m : Md) (a : MdA) (ix : IxA) (gx gp : Nat) (y : El) (w : World) (oy : ElOk y) (ho : MdOk m) (hx : IxAt w m a ix gx) (hp : Blk w gp 95 [pg gx]) :
 Calls prog 92 #[.agg y.cells.toArray, pg gp] w fun e w' => e = .returned (.bool (IU m y)) ∧ Fr0 w w' := by
 have oy3 := oy.ref
 have oy4 := oy.key
 have oy5 := oy.id
 have oy6 := oy.nm
 have oy7 := oy.inn
 have oy8 := oy.att
 have hOl := EI m.fls y.id
 have hnf := ho.nfls
 refine C2 func92 ntmps92 rfl fun M => srg (CN M rfl rfl fun g2 w1 hg2 M => yb rfl (nq (AD (EU CU gkr ?_))))
 have M := M.drew
 refine sd rfl rfl (Blk.c (hp.fr0 M.fr) 0 rfl) (sb rfl (sb rfl (sd rfl rfl (Blk.c ((hx.fr0 M.fr).blk) 7 rfl) (sb rfl (FK M 0 rfl rfl rfl (sa rfl (BP rfl rfl rfl underlying140 underlying9 zr_sl_api_Flow ((hx.fr0 M.fr).O) (hx.getO _)) (sb rfl (FR (AA (AD (AR (srg (yb rfl (BA M 0 rfl rfl rfl ?_))))))))))))))
 refine D4 rfl rfl (yb rfl (AC (AA (AN rfl (fun h12 => ?_) (fun h12 => ?_)))))
 ·exact srg (yb rfl (nq (AI (AM (AE (gr1 rfl ⟨by rw [IU, if_pos h12], M.fr⟩))))))
 ·have h12p := (odt (BM h12))
  refine AD (AB (yb rfl (ya rfl (C7 rfl rfl (sl rfl)) (CI rfl rfl (yb rfl (AC (AA (AN rfl (fun h16 => ?_) (fun h16 => ?_)))))))))
  ·exact srg (yb rfl (BA M 0 rfl rfl rfl (ya rfl (D8 rfl rfl rfl) (yb rfl (nq (AI (AM (AE (gr1 rfl ⟨by rw [IU, if_neg (AS h12), if_pos h16], M.fr⟩)))))))))
  ·have h16p := (odf h16)
   exact AL (AH (AA (srg (yb rfl (ya rfl (D9 (us := []) (vs := [pg g2]) rfl rfl rfl) (D1 M 25 rfl rfl call87 (ZS _ _ (C9 m.fls y.id) (by have := GA m.fls; have := EI m.fls; have := ho.nfls; have := ho.nels; have := ho.nvars; first | omega | exact Nat.le_trans (GA _ _) AO | exact Nat.le_trans (EI _ _) AO) 93 [pg g2] (fun z => decide (z.id = y.dflt)) _ (GI call93 (fun z hz w9 hf9 => eZ y _ z w9 ((M.blk 0 rfl).fr0 hf9))) ((hx.fr0 M.fr).rdO _)) fun w2 M => yb rfl (nq (AI (gr1 rfl ⟨by rw [IU, if_neg (AS h12), if_neg (AS h16)], M.fr⟩)))))))))
def MB (y : El) (z : Bd) : Bool := ((decide (z.name = (y).key)) && (decide ((z.v.kind.toNat : Int) = (3 : Int))))
theorem XS (y : El) (gy : Nat) (z : Bd) (w : World) (hb : Blk w gy 69 y.cells) :
 Calls prog 102 #[.agg z.cells.toArray, pg gy] w fun e w' => e = .returned (.bool (MB y z)) ∧ Fr0 w w' := by
 refine C2 func102 ntmps102 rfl fun M => srg (CN M rfl rfl fun g2 w1 hg2 M => yb rfl (nq (srg (yb rfl (BA M 0 rfl rfl rfl (yb rfl (yl rfl rfl (Blk.c (hb.fr0 M.fr) 8 rfl) (ya rfl (D8 rfl rfl rfl) (yb rfl ?_)))))))))
 refine fvm M 5 [3] [(14, .bool ((decide (z.name = (y).key)) && (decide ((z.v.kind.toNat : Int) = (3 : Int)))))] ?_ (fun k9 => ?_)
 ·intro w2 M
  exact yb rfl (nq (AI (gr1 rfl ⟨by rw [MB], M.fr⟩)))
 refine AP (d := 9) rfl (fun h9 => ?_) (fun h9 => ?_)
 ·exact gyq rfl (gyq rfl (CH M 0 rfl rfl rfl (yd rfl (C3 rfl rfl rfl) (yb rfl (k9 M ⟨rfl, (by rw [h9]; rfl), trivial⟩)))))
 ·iterate 4 refine yo rfl ?_
  exact yb rfl (k9 M ⟨rfl, (by rw [h9]; rfl), trivial⟩)
def LT (m : Md) (y : El) : Bool := ((!decide ((y.ev.toNat : Int) = (2 : Int))) || (m.vars.any (MB y)))
theorem cE (m : Md) (a : MdA) (ix : IxA) (gx gp : Nat) (y : El) (w : World) (oy : ElOk y) (ho : MdOk m) (hx : IxAt w m a ix gx) (hp : Blk w gp 95 [pg gx]) :
 Calls prog 100 #[.agg y.cells.toArray, pg gp] w fun e w' => e = .returned (.bool (LT m y)) ∧ Fr0 w w' := by
 have oy3 := oy.ref
 have oy4 := oy.key
 have oy5 := oy.id
 have oy6 := oy.nm
 have oy7 := oy.inn
 have oy8 := oy.att
 refine C2 func100 ntmps100 rfl fun M => AD (AB (CN M rfl rfl fun g2 w1 hg2 M => yb rfl (AC (AA (AD (AB (yb rfl (BA M 0 rfl rfl rfl (D4 rfl rfl (yb rfl (fvm M 8 [3] [(15, .bool ((!decide ((y.ev.toNat : Int) = (2 : Int))) || (m.vars.any (MB y))))] ?_ (fun k7 => ?_))))))))))))
 ·intro w2 M
  exact yb rfl (nq (AI (gr1 rfl ⟨by rw [LT], M.fr⟩)))
 refine AP (d := 7) rfl (fun h7 => ?_) (fun h7 => ?_)
 ·iterate 7 refine yo rfl ?_
  exact yb rfl (k7 M ⟨rfl, (by rw [h7]; rfl), trivial⟩)
 ·refine ym rfl rfl (Blk.c (hp.fr0 M.fr) 0 rfl) (gyq rfl (gyq rfl (gyq rfl (ym rfl rfl (Blk.c ((hx.fr0 M.fr).blk) 2 rfl) (yd rfl (D9 (us := []) (vs := [pg g2]) rfl rfl rfl) (B0 (some 14) (BD rfl rfl rfl) rfl rfl (AQ rfl rfl call101) (nO _ _ m.vars (by have := GA m.fls; have := EI m.fls; have := ho.nfls; have := ho.nels; have := ho.nvars; first | omega | exact Nat.le_trans (GA _ _) AO | exact Nat.le_trans (EI _ _) AO) 102 [pg g2] (MB y) _ (GI call102 (fun z hz w9 hf9 => XS y _ z w9 ((M.blk 0 rfl).fr0 hf9))) (M.rd hx.md.vars)) ?_))))))
  rintro _ w3 ⟨rfl, hfw3⟩
  refine ⟨_, rfl, ?_⟩
  have M := M.step hfw3
  exact yb rfl (k7 M ⟨rfl, (by rw [h7]; rfl), trivial⟩)
def VE (m : Md) (k : List UInt8) : Bool := (((decide ((((BK m.els k).getD zeroEl).kind.toNat : Int) = (5 : Int))) || (decide ((((BK m.els k).getD zeroEl).kind.toNat : Int) = (6 : Int)))) || (decide ((((BK m.els k).getD zeroEl).kind.toNat : Int) = (10 : Int))))
theorem VP (m : Md) (a : MdA) (ix : IxA) (gx gp : Nat) (k : List UInt8) (w : World) (_ho : MdOk m) (hx : IxAt w m a ix gx) (hp : Blk w gp 95 [pg gx]) :
 Calls prog 103 #[str k, pg gp] w fun e w' => e = .returned (.bool (VE m k)) ∧ Fr0 w w' := by
 refine C2 func103 ntmps103 rfl fun M => srg (yb rfl (nq (srg (yl rfl rfl (Blk.c (hp.fr0 M.fr) 0 rfl) (yb rfl (yb rfl (yl rfl rfl (Blk.c ((hx.fr0 M.fr).blk) 5 rfl) (yb rfl (ya rfl (BP rfl rfl rfl underlying62 underlying9 B4 ((hx.fr0 M.fr).E) (hx.getE _)) (ya rfl (NG (b := ((BK m.els k).getD zeroEl)) rfl rfl) (yb rfl ?_)))))))))))
 refine AC (AA (AD (AB (yb rfl (CI rfl rfl (yb rfl (fvm M 3 [4, 3] [(17, .bool ((decide ((((BK m.els k).getD zeroEl).kind.toNat : Int) = (5 : Int))) || (decide ((((BK m.els k).getD zeroEl).kind.toNat : Int) = (6 : Int)))))] ?_ (fun k14 => ?_))))))))
 ·intro w1 M
  refine yb rfl (fvm M 3 [3] [(21, .bool (((decide ((((BK m.els k).getD zeroEl).kind.toNat : Int) = (5 : Int))) || (decide ((((BK m.els k).getD zeroEl).kind.toNat : Int) = (6 : Int)))) || (decide ((((BK m.els k).getD zeroEl).kind.toNat : Int) = (10 : Int)))))] ?_ (fun k18 => ?_))
  ·intro w2 M
   exact yb rfl (nq (AI (gr1 rfl ⟨by rw [VE], M.fr⟩)))
  refine AP (d := 18) rfl (fun h18 => ?_) (fun h18 => ?_)
  ·exact yo rfl (yo rfl (yb rfl (k18 M ⟨rfl, (by rw [h18]; rfl), trivial⟩)))
  ·exact gyq rfl (yd rfl (C3 rfl rfl rfl) (yb rfl (k18 M ⟨rfl, (by rw [h18]; rfl), trivial⟩)))
 refine AP (d := 14) rfl (fun h14 => ?_) (fun h14 => ?_)
 ·exact yo rfl (yo rfl (yb rfl (k14 M ⟨rfl, rfl, (by rw [h14]; rfl), trivial⟩)))
 ·exact gyq rfl (yd rfl (C3 rfl rfl rfl) (yb rfl (k14 M ⟨rfl, rfl, (by rw [h14]; rfl), trivial⟩)))
end Go.Proofs.YtjaocmocdhckaaaGreatDoor
