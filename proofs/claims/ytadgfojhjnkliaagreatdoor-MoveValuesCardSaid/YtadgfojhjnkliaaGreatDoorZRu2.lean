/- Lemmas that the last text rests on. Condition: each says its own. -/
import Derived.Test.YtadgfojhjnkliaaGreatDoorZRu1
set_option maxHeartbeats 16000000
set_option maxRecDepth 100000
namespace Go.Proofs.YtadgfojhjnkliaaGreatDoor
open Go.RowKit
open Tryz
def Q4 (els : List El) : Nat → List UInt8 → Bool
 | 0, s => decide (s = [])
 | n + 1, s => if s = [] then true else decide ((((AS els s).getD zeroEl).kind.toNat : Int) = 10) && Q4 els n ((AS els s).getD zeroEl).inn
theorem cO (els : List El) {d : Nat} {s : List UInt8} (h : ¬ s = []) (hd : d < 4) (hk : (((AS els s).getD zeroEl).kind.toNat : Int) = 10) : Q4 els (4 - d) s = Q4 els (4 - (d + 1)) ((AS els s).getD zeroEl).inn := by
 rw [show 4 - d = (4 - (d + 1)) + 1 by omega, Q4, if_neg h, decide_eq_true hk]; rfl
theorem qI (els : List El) {d : Nat} {s : List UInt8} (h : ¬ s = []) (hk : ¬ (((AS els s).getD zeroEl).kind.toNat : Int) = 10 ∨ (d : Int) = 4) : Q4 els (4 - d) s = false := by
 rcases hk with hk | hk
 ·cases 4 - d with
  | zero => exact decide_eq_false h
  | succ n => rw [Q4, if_neg h, decide_eq_false hk]; rfl
 ·rw [show 4 - d = 0 by omega]; exact decide_eq_false h
theorem qJ (els : List El) {n : Nat} {s : List UInt8} (h : s = []) : Q4 els n s = true := by
 subst h; cases n <;> simp [Q4]
theorem p6 (A : Option Addr) (c : Nat) (l : List El) (hl : l.length ≤ 4611686018427387904) (f : FuncId) (cs : List Value) (p : El → Bool) (w : World) (hP : PredJ prog f cs (fun x : El => .agg x.cells.toArray) l (fun _ => p) AB (fun _ _ => True) w) (hR : Rd w A (l.length * 11) (AR El.cells l)) :
 Calls prog 94 #[.slice A l.length c, .func (.func f) #[] cs.toArray] w fun e w' => e = .returned (.bool (l.any p)) ∧ Fr0 w w' :=
 (kU El.cells El.len A c l hl f cs (fun _ => p) AB (fun _ _ => True) w hP (fun _ hf => hR.fr0 hf) trivial).mono fun _ _ ⟨h1, _, h2⟩ => ⟨by rw [h1, JN], h2⟩
theorem HZ (A : Option Addr) (c : Nat) (l : List El) (hl : l.length ≤ 4611686018427387904) (f : FuncId) (cs : List Value) (p : El → Bool) (w : World) (hP : PredJ prog f cs (fun x : El => .agg x.cells.toArray) l (fun _ => p) AB (fun _ _ => True) w) (hR : Rd w A (l.length * 11) (AR El.cells l)) :
 Calls prog 74 #[.slice A l.length c, .func (.func 75) #[] #[], .func (.func f) #[] cs.toArray] w fun e w' => e = .returned (.tuple #[str ((ffN (fun _ => p) 0 l).elim [] (fun x => x.id)), .bool (ffN (fun _ => p) 0 l).isSome]) ∧ Fr0 w w' :=
 (WO A c l hl f cs (fun _ => p) AB (fun _ _ => True) w hP (fun _ hf => hR.fr0 hf) trivial).mono fun _ _ ⟨h1, _, h2⟩ => ⟨h1, h2⟩
theorem bP (A : Option Addr) (c : Nat) (l : List Fl) (hl : l.length ≤ 4611686018427387904) (f : FuncId) (cs : List Value) (p : Fl → Bool) (w : World) (hP : PredJ prog f cs (fun x : Fl => .agg x.cells.toArray) l (fun _ => p) AB (fun _ _ => True) w) (hR : Rd w A (l.length * 4) (AR Fl.cells l)) :
 Calls prog 84 #[.slice A l.length c, .func (.func f) #[] cs.toArray] w fun e w' => e = .returned (.bool (l.any p)) ∧ Fr0 w w' :=
 (kT Fl.cells Fl.len A c l hl f cs (fun _ => p) AB (fun _ _ => True) w hP (fun _ hf => hR.fr0 hf) trivial).mono fun _ _ ⟨h1, _, h2⟩ => ⟨by rw [h1, JN], h2⟩
theorem T8 (A : Option Addr) (c : Nat) (l : List Fl) (hl : l.length ≤ 4611686018427387904) (f : FuncId) (cs : List Value) (p : Fl → Bool) (w : World) (hP : PredJ prog f cs (fun x : Fl => .agg x.cells.toArray) l (fun _ => p) AB (fun _ _ => True) w) (hR : Rd w A (l.length * 4) (AR Fl.cells l)) :
 Calls prog 77 #[.slice A l.length c, .func (.func 78) #[] #[], .func (.func f) #[] cs.toArray] w fun e w' => e = .returned (.tuple #[str ((ffN (fun _ => p) 0 l).elim [] (fun x => x.id)), .bool (ffN (fun _ => p) 0 l).isSome]) ∧ Fr0 w w' :=
 (WN A c l hl f cs (fun _ => p) AB (fun _ _ => True) w hP (fun _ hf => hR.fr0 hf) trivial).mono fun _ _ ⟨h1, _, h2⟩ => ⟨h1, h2⟩
theorem p7 (A : Option Addr) (c : Nat) (l : List Bd) (hl : l.length ≤ 4611686018427387904) (f : FuncId) (cs : List Value) (p : Bd → Bool) (w : World) (hP : PredJ prog f cs (fun x : Bd => .agg x.cells.toArray) l (fun _ => p) AB (fun _ _ => True) w) (hR : Rd w A (l.length * 5) (AR Bd.cells l)) :
 Calls prog 98 #[.slice A l.length c, .func (.func f) #[] cs.toArray] w fun e w' => e = .returned (.bool (l.any p)) ∧ Fr0 w w' :=
 (kV Bd.cells Bd.len A c l hl f cs (fun _ => p) AB (fun _ _ => True) w hP (fun _ hf => hR.fr0 hf) trivial).mono fun _ _ ⟨h1, _, h2⟩ => ⟨by rw [h1, JN], h2⟩
theorem O6 (a2 : Int) : prog.built 62 [(2, .int .u8 a2)] = some #[str [], str [], .int .u8 a2, str [], str [], str [], .int .u8 0, str [], str [], .int .i64 0, .int .i64 0] := by kernel_rfl
theorem KT (a2 : Int) (a10 : Int) : prog.built 62 [(2, .int .u8 a2), (10, .int .i64 a10)] = some #[str [], str [], .int .u8 a2, str [], str [], str [], .int .u8 0, str [], str [], .int .i64 0, .int .i64 a10] := by kernel_rfl
theorem LU (a2 : Int) (a4 : List UInt8) : prog.built 62 [(2, .int .u8 a2), (4, str a4)] = some #[str [], str [], .int .u8 a2, str [], str a4, str [], .int .u8 0, str [], str [], .int .i64 0, .int .i64 0] := by kernel_rfl
theorem zr_sl_api_Flow : (prog.info? 24).map (·.zero) = some (some (.slice none 0 0)) := by kernel_rfl
def LJ (l : List UInt8) : Bool := ((decide (((l.length : Nat) : Int) ≤ (1024 : Int))) && (utf l))
theorem ZL (l : List UInt8) (w : World) (hl : (l.length : Int) < 4611686018427387904) (hT : Laid w utfL) :
 Calls prog 69 #[str l] w fun e w' => e = .returned (.bool (LJ l)) ∧ Fr0 w w' := by
 refine AK (vs := [_]) func69 rfl ntmps69 rfl ?_
 have M := CK w
 refine A4 (A0 (yb rfl (A1 (A2 (A4 (A0 (yb rfl (ya rfl (EO rfl rfl underlying9) (ya rfl (I2 rfl rfl rfl) (yb rfl (AT 3 [(2, .bool false), (9, .bool ((decide (((l.length : Nat) : Int) ≤ (1024 : Int))) && (utf l)))] (fun w' => Mem w AB [] w') ?_ (fun k6 => ?_))))))))))))
 ·intro w1 M
  exact yb rfl (A1 (A2 (AD (AH rfl rfl ⟨by rw [LJ], M.fr⟩))))
 refine AE (d := 6) (b := (decide (((l.length : Nat) : Int) ≤ (1024 : Int)))) rfl (fun h6 => ?_) (fun h6 => ?_)
 ·refine yd rfl (yp rfl) (CC (some 8) (B7 rfl rfl rfl) rfl rfl (AF rfl rfl call117) (JG _ _ (by omega) (hT.fr M.fr)) ?_)
  rintro _ w2 ⟨rfl, hfw2⟩
  refine ⟨_, rfl, ?_⟩
  have M := M.step hfw2
  exact yb rfl (k6 _ _ M ⟨rfl, (by rw [h6]; rfl), trivial⟩)
 ·exact yo rfl (yo rfl (yb rfl (k6 _ _ M ⟨rfl, (by rw [h6]; rfl), trivial⟩)))
def HG (y : El) : Bool := (if (decide ((y.ev.toNat : Int) = (1 : Int))) = true then ((((decide ((1 : Int) ≤ y.ticks)) && (decide (y.ticks ≤ (1048576 : Int)))) && (decide (y.ref = []))) && (decide (y.key = []))) else (if (decide ((y.ev.toNat : Int) = (2 : Int))) = true then (((decide (y.ticks = (0 : Int))) && (BU y.ref)) && (BU y.key)) else (if (decide ((y.ev.toNat : Int) = (3 : Int))) = true then (((decide (y.ticks = (0 : Int))) && (BU y.ref)) && (decide (y.key = []))) else false)))
theorem kG (y : El) (w : World) (oy : ElOk y) :
 Calls prog 131 #[.agg y.cells.toArray] w fun e w' => e = .returned (.bool (HG y)) ∧ Fr0 w w' := by
 have oy3 := oy.ref
 have oy4 := oy.key
 have oy5 := oy.id
 have oy6 := oy.nm
 have oy7 := oy.inn
 have oy8 := oy.att
 refine AK (vs := [_]) func131 rfl ntmps131 rfl ?_
 have M := CK w
 refine A4 (A0 (BD M (A9 rfl) rfl rfl 62 rfl rfl (El.cells y) rfl fun g1 w1 hg1 M => yb rfl (A1 (A2 (A4 (A4 (A0 (yb rfl (yl rfl rfl (M.cell 0 rfl rfl) (A1 (A2 (AV (A4 ?_)))))))))))))
 refine A0 (ya rfl (B9 rfl rfl rfl) (yb rfl (A1 (A2 (AQ (b := (decide ((y.ev.toNat : Int) = (1 : Int)))) rfl (fun h5 => ?_) (fun h5 => ?_))))))
 ·have h5p := (odt h5)
  refine A4 (A0 (yb rfl (yl rfl rfl (M.cell 0 rfl rfl) (ya rfl (EP rfl rfl rfl) (yb rfl (AT 4 [(1, pg g1), (2, .bool false), (14, .bool ((decide ((1 : Int) ≤ y.ticks)) && (decide (y.ticks ≤ (1048576 : Int)))))] (fun w' => Mem w AB [As.blk g1 62 (El.cells y)] w') ?_ (fun k10 => ?_)))))))
  ·intro w2 M
   refine yb rfl (AT 4 [(1, pg g1), (2, .bool false), (19, .bool (((decide ((1 : Int) ≤ y.ticks)) && (decide (y.ticks ≤ (1048576 : Int)))) && (decide (y.ref = []))))] (fun w' => Mem w AB [As.blk g1 62 (El.cells y)] w') ?_ (fun k15 => ?_))
   ·intro w3 M
    refine yb rfl (AT 4 [(2, .bool false), (24, .bool ((((decide ((1 : Int) ≤ y.ticks)) && (decide (y.ticks ≤ (1048576 : Int)))) && (decide (y.ref = []))) && (decide (y.key = []))))] (fun w' => Mem w AB [As.blk g1 62 (El.cells y)] w') ?_ (fun k20 => ?_))
    ·intro w4 M
     exact yb rfl (A1 (A2 (AD (AJ (AA (AH rfl rfl ⟨by rw [HG, if_pos h5], M.fr⟩))))))
    refine AE (d := 20) (b := (((decide ((1 : Int) ≤ y.ticks)) && (decide (y.ticks ≤ (1048576 : Int)))) && (decide (y.ref = [])))) rfl (fun h20 => ?_) (fun h20 => ?_)
    ·exact yd rfl (yp rfl) (ym rfl rfl (M.cell 0 rfl rfl) (yd rfl (DG rfl rfl rfl) (yb rfl (k20 _ _ M ⟨rfl, (by rw [h20]; rfl), trivial⟩))))
    ·exact yo rfl (yo rfl (yo rfl (yb rfl (k20 _ _ M ⟨rfl, (by rw [h20]; rfl), trivial⟩))))
   refine AE (d := 15) (b := ((decide ((1 : Int) ≤ y.ticks)) && (decide (y.ticks ≤ (1048576 : Int))))) rfl (fun h15 => ?_) (fun h15 => ?_)
   ·exact yd rfl (yp rfl) (ym rfl rfl (M.cell 0 rfl rfl) (yd rfl (DG rfl rfl rfl) (yb rfl (k15 _ _ M ⟨rfl, rfl, (by rw [h15]; rfl), trivial⟩))))
   ·exact yo rfl (yo rfl (yo rfl (yb rfl (k15 _ _ M ⟨rfl, rfl, (by rw [h15]; rfl), trivial⟩))))
  refine AE (d := 10) (b := (decide ((1 : Int) ≤ y.ticks))) rfl (fun h10 => ?_) (fun h10 => ?_)
  ·exact yd rfl (yp rfl) (ym rfl rfl (M.cell 0 rfl rfl) (yd rfl (I2 rfl rfl rfl) (yb rfl (k10 _ _ M ⟨rfl, rfl, (by rw [h10]; rfl), trivial⟩))))
  ·exact yo rfl (yo rfl (yo rfl (yb rfl (k10 _ _ M ⟨rfl, rfl, (by rw [h10]; rfl), trivial⟩))))
 ·have h5p := (odf h5)
  refine A4 (A0 (ya rfl (B9 rfl rfl rfl) (yb rfl (A1 (A2 (AQ (b := (decide ((y.ev.toNat : Int) = (2 : Int)))) rfl (fun h25 => ?_) (fun h25 => ?_)))))))
  ·have h25p := (odt h25)
   refine A4 (A0 (yb rfl (yl rfl rfl (M.cell 0 rfl rfl) (ya rfl (B9 rfl rfl rfl) (yb rfl (AT 4 [(1, pg g1), (2, .bool false), (34, .bool ((decide (y.ticks = (0 : Int))) && (BU y.ref)))] (fun w' => Mem w AB [As.blk g1 62 (El.cells y)] w') ?_ (fun k30 => ?_)))))))
   ·intro w5 M
    refine yb rfl (AT 4 [(2, .bool false), (39, .bool (((decide (y.ticks = (0 : Int))) && (BU y.ref)) && (BU y.key)))] (fun w' => Mem w AB [As.blk g1 62 (El.cells y)] w') ?_ (fun k35 => ?_))
    ·intro w6 M
     exact yb rfl (A1 (A2 (AD (AJ (AA (AH rfl rfl ⟨by rw [HG, if_neg (BA h5), if_pos h25], M.fr⟩))))))
    refine AE (d := 35) (b := ((decide (y.ticks = (0 : Int))) && (BU y.ref))) rfl (fun h35 => ?_) (fun h35 => ?_)
    ·refine yd rfl (yp rfl) (ym rfl rfl (M.cell 0 rfl rfl) (CC (some 38) (B7 rfl rfl rfl) rfl rfl (AF rfl rfl call68) (DV _ _ (by omega)) ?_))
     rintro _ w7 ⟨rfl, hfw7⟩
     refine ⟨_, rfl, ?_⟩
     have M := M.step hfw7
     exact yb rfl (k35 _ _ M ⟨rfl, (by rw [h35]; rfl), trivial⟩)
    ·exact yo rfl (yo rfl (yo rfl (yb rfl (k35 _ _ M ⟨rfl, (by rw [h35]; rfl), trivial⟩))))
   refine AE (d := 30) (b := (decide (y.ticks = (0 : Int)))) rfl (fun h30 => ?_) (fun h30 => ?_)
   ·refine yd rfl (yp rfl) (ym rfl rfl (M.cell 0 rfl rfl) (CC (some 33) (B7 rfl rfl rfl) rfl rfl (AF rfl rfl call68) (DV _ _ (by omega)) ?_))
    rintro _ w8 ⟨rfl, hfw8⟩
    refine ⟨_, rfl, ?_⟩
    have M := M.step hfw8
    exact yb rfl (k30 _ _ M ⟨rfl, rfl, (by rw [h30]; rfl), trivial⟩)
   ·exact yo rfl (yo rfl (yo rfl (yb rfl (k30 _ _ M ⟨rfl, rfl, (by rw [h30]; rfl), trivial⟩))))
  ·have h25p := (odf h25)
   refine A4 (A0 (ya rfl (B9 rfl rfl rfl) (yb rfl (A1 (A2 (AQ (b := (decide ((y.ev.toNat : Int) = (3 : Int)))) rfl (fun h40 => ?_) (fun h40 => ?_)))))))
   ·have h40p := (odt h40)
    refine A4 (A0 (yb rfl (yl rfl rfl (M.cell 0 rfl rfl) (ya rfl (B9 rfl rfl rfl) (yb rfl (AT 4 [(1, pg g1), (2, .bool false), (49, .bool ((decide (y.ticks = (0 : Int))) && (BU y.ref)))] (fun w' => Mem w AB [As.blk g1 62 (El.cells y)] w') ?_ (fun k45 => ?_)))))))
    ·intro w9 M
     refine yb rfl (AT 4 [(2, .bool false), (54, .bool (((decide (y.ticks = (0 : Int))) && (BU y.ref)) && (decide (y.key = []))))] (fun w' => Mem w AB [As.blk g1 62 (El.cells y)] w') ?_ (fun k50 => ?_))
     ·intro w10 M
      exact yb rfl (A1 (A2 (AD (AJ (AA (AH rfl rfl ⟨by rw [HG, if_neg (BA h5), if_neg (BA h25), if_pos h40], M.fr⟩))))))
     refine AE (d := 50) (b := ((decide (y.ticks = (0 : Int))) && (BU y.ref))) rfl (fun h50 => ?_) (fun h50 => ?_)
     ·exact yd rfl (yp rfl) (ym rfl rfl (M.cell 0 rfl rfl) (yd rfl (DG rfl rfl rfl) (yb rfl (k50 _ _ M ⟨rfl, (by rw [h50]; rfl), trivial⟩))))
     ·exact yo rfl (yo rfl (yo rfl (yb rfl (k50 _ _ M ⟨rfl, (by rw [h50]; rfl), trivial⟩))))
    refine AE (d := 45) (b := (decide (y.ticks = (0 : Int)))) rfl (fun h45 => ?_) (fun h45 => ?_)
    ·refine yd rfl (yp rfl) (ym rfl rfl (M.cell 0 rfl rfl) (CC (some 48) (B7 rfl rfl rfl) rfl rfl (AF rfl rfl call68) (DV _ _ (by omega)) ?_))
     rintro _ w11 ⟨rfl, hfw11⟩
     refine ⟨_, rfl, ?_⟩
     have M := M.step hfw11
     exact yb rfl (k45 _ _ M ⟨rfl, rfl, (by rw [h45]; rfl), trivial⟩)
    ·exact yo rfl (yo rfl (yo rfl (yb rfl (k45 _ _ M ⟨rfl, rfl, (by rw [h45]; rfl), trivial⟩))))
   ·have h40p := (odf h40)
    exact AL (AC (A2 (A4 (A0 (yb rfl (A1 (A2 (AD (AH rfl rfl ⟨by rw [HG, if_neg (BA h5), if_neg (BA h25), if_neg (BA h40)], M.fr⟩)))))))))
def YO (y : El) : Bool := (if ((decide ((y.kind.toNat : Int) < (1 : Int))) || (decide ((10 : Int) < (y.kind.toNat : Int)))) = true then false else (if (decide ((y.kind.toNat : Int) = (4 : Int))) = true then (((decide ((1 : Int) ≤ y.tries)) && (decide (y.tries ≤ (100 : Int)))) && (El.same (⟨[], [], y.kind, [], y.dflt, y.att, y.ev, y.ref, y.key, y.ticks, y.tries⟩ : El) (⟨[], [], y.kind, [], [], [], 0, [], [], 0, y.tries⟩ : El))) else (if (decide ((y.kind.toNat : Int) = (5 : Int))) = true then (El.same (⟨[], [], y.kind, [], y.dflt, y.att, y.ev, y.ref, y.key, y.ticks, y.tries⟩ : El) (⟨[], [], y.kind, [], y.dflt, [], 0, [], [], 0, 0⟩ : El)) else (if ((decide ((y.kind.toNat : Int) = (8 : Int))) || (decide ((y.kind.toNat : Int) = (9 : Int)))) = true then ((((HG y) && (decide (y.tries = (0 : Int)))) && (decide (y.dflt = []))) && ((decide ((y.kind.toNat : Int) = (9 : Int))) || (decide (y.att = [])))) else (El.same (⟨[], [], y.kind, [], y.dflt, y.att, y.ev, y.ref, y.key, y.ticks, y.tries⟩ : El) (⟨[], [], y.kind, [], [], [], 0, [], [], 0, 0⟩ : El))))))
theorem rP (y : El) (w : World) (oy : ElOk y) :
 Calls prog 81 #[.agg y.cells.toArray] w fun e w' => e = .returned (.bool (YO y)) ∧ Fr0 w w' := by
 have oy3 := oy.ref
 have oy4 := oy.key
 have oy5 := oy.id
 have oy6 := oy.nm
 have oy7 := oy.inn
 have oy8 := oy.att
 refine AK (vs := [_]) func81 rfl ntmps81 rfl ?_
 have M := CK w
 refine A4 (A0 (BD M (A9 rfl) rfl rfl 62 rfl rfl (El.cells y) rfl fun g1 w1 hg1 M => yb rfl (A1 (A2 (A4 (A0 (ya rfl (AN (xs := El.cells y) rfl rfl (M.rdBlk 0 rfl rfl) underlying62 rfl AU) (BI M (A9 rfl) rfl rfl 62 rfl [str [], str [], .int .u8 0, str [], str [], str [], .int .u8 0, str [], str [], .int .i64 0, .int .i64 0] AY rfl fun g3 w2 hg3 M => B5 (cs' := (El.cells y)) M 0 (A9 rfl) rfl rfl rfl rfl rfl AU rfl (AP rfl) (AW rfl) rfl fun w3 M => A1 (A2 ?_)))))))))
 refine A4 (A0 (yb rfl (BQ (cs' := [str [], str y.nm, .int .u8 (y.kind.toNat : Int), str y.inn, str y.dflt, str y.att, .int .u8 (y.ev.toNat : Int), str y.ref, str y.key, .int .i64 y.ticks, .int .i64 y.tries]) M 0 (A9 rfl) rfl rfl rfl rfl rfl rfl rfl EM (AZ rfl) rfl fun w4 M => yb rfl (BQ (cs' := [str [], str [], .int .u8 (y.kind.toNat : Int), str y.inn, str y.dflt, str y.att, .int .u8 (y.ev.toNat : Int), str y.ref, str y.key, .int .i64 y.ticks, .int .i64 y.tries]) M 0 (A9 rfl) rfl rfl rfl rfl rfl rfl rfl EM (AZ rfl) rfl fun w5 M => yb rfl (BQ (cs' := [str [], str [], .int .u8 (y.kind.toNat : Int), str [], str y.dflt, str y.att, .int .u8 (y.ev.toNat : Int), str y.ref, str y.key, .int .i64 y.ticks, .int .i64 y.tries]) M 0 (A9 rfl) rfl rfl rfl rfl rfl rfl rfl EM (AZ rfl) rfl fun w6 M => A1 (A2 (A4 (AV (A4 ?_)))))))))
 refine A0 (yb rfl (yl rfl rfl (M.cell 1 rfl rfl) (ya rfl (CH rfl rfl rfl) (yb rfl (AT 4 [(1, pg g1), (3, pg g3), (16, .bool ((decide ((y.kind.toNat : Int) < (1 : Int))) || (decide ((10 : Int) < (y.kind.toNat : Int)))))] (fun w' => Mem w AB [As.blk g3 62 [str [], str [], .int .u8 (y.kind.toNat : Int), str [], str y.dflt, str y.att, .int .u8 (y.ev.toNat : Int), str y.ref, str y.key, .int .i64 y.ticks, .int .i64 y.tries], As.blk g1 62 (El.cells y)] w') ?_ (fun k12 => ?_))))))
 ·intro w7 M
  refine yb rfl (A1 (A2 (AQ (b := ((decide ((y.kind.toNat : Int) < (1 : Int))) || (decide ((10 : Int) < (y.kind.toNat : Int))))) rfl (fun h8 => ?_) (fun h8 => ?_))))
  ·have h8p := ((EK h8).imp (fun z => (odt z)) (fun z => (odt z)))
   exact A4 (A0 (yb rfl (A1 (A2 (AD (AJ (AA (AH rfl rfl ⟨by rw [YO, if_pos h8], M.fr⟩))))))))
  ·have h8p := (And.intro (odf (CA h8).1) (odf (CA h8).2))
   refine A4 (A0 (yb rfl (yl rfl rfl (M.cell 1 rfl rfl) (ya rfl (B9 rfl rfl rfl) (yb rfl (A1 (A2 (AQ (b := (decide ((y.kind.toNat : Int) = (4 : Int)))) rfl (fun h17 => ?_) (fun h17 => ?_)))))))))
   ·have h17p := (odt h17)
    refine A4 (A0 (yb rfl (yl rfl rfl (M.cell 1 rfl rfl) (ya rfl (EP rfl rfl rfl) (yb rfl (AT 4 [(1, pg g1), (3, pg g3), (28, .bool ((decide ((1 : Int) ≤ y.tries)) && (decide (y.tries ≤ (100 : Int)))))] (fun w' => Mem w AB [As.blk g3 62 [str [], str [], .int .u8 (y.kind.toNat : Int), str [], str y.dflt, str y.att, .int .u8 (y.ev.toNat : Int), str y.ref, str y.key, .int .i64 y.ticks, .int .i64 y.tries], As.blk g1 62 (El.cells y)] w') ?_ (fun k24 => ?_)))))))
    ·intro w8 M
     refine yb rfl (AT 8 [(1, pg g1), (3, pg g3), (37, .bool (((decide ((1 : Int) ≤ y.tries)) && (decide (y.tries ≤ (100 : Int)))) && (El.same (⟨[], [], y.kind, [], y.dflt, y.att, y.ev, y.ref, y.key, y.ticks, y.tries⟩ : El) (⟨[], [], y.kind, [], [], [], 0, [], [], 0, y.tries⟩ : El))))] (fun w' => Mem w AB [As.blk g3 62 [str [], str [], .int .u8 (y.kind.toNat : Int), str [], str y.dflt, str y.att, .int .u8 (y.ev.toNat : Int), str y.ref, str y.key, .int .i64 y.ticks, .int .i64 y.tries], As.blk g1 62 (El.cells y)] w') ?_ (fun k29 => ?_))
     ·intro w9 M
      exact yb rfl (A1 (A2 (AD (AJ (AA (AH rfl rfl ⟨by rw [YO, if_neg (BA h8), if_pos h17], M.fr⟩))))))
     refine AE (d := 29) (b := ((decide ((1 : Int) ≤ y.tries)) && (decide (y.tries ≤ (100 : Int))))) rfl (fun h29 => ?_) (fun h29 => ?_)
     ·exact yd rfl (AN (xs := [str [], str [], .int .u8 (y.kind.toNat : Int), str [], str y.dflt, str y.att, .int .u8 (y.ev.toNat : Int), str y.ref, str y.key, .int .i64 y.ticks, .int .i64 y.tries]) rfl rfl (M.rdBlk 0 rfl rfl) underlying62 rfl AU) (yd rfl (yp rfl) (ym rfl rfl (M.cell 1 rfl rfl) (yd rfl (yp rfl) (ym rfl rfl (M.cell 1 rfl rfl) (yd rfl (BO (parts := [(2, _), (10, _)]) rfl rfl (KT _ _)) (yd rfl (XM (a := (⟨[], [], y.kind, [], y.dflt, y.att, y.ev, y.ref, y.key, y.ticks, y.tries⟩ : El)) (b := (⟨[], [], y.kind, [], [], [], 0, [], [], 0, y.tries⟩ : El)) rfl rfl rfl) (yb rfl (k29 _ _ M ⟨rfl, rfl, (by rw [h29]; rfl), trivial⟩))))))))
     ·iterate 7 refine yo rfl ?_
      exact yb rfl (k29 _ _ M ⟨rfl, rfl, (by rw [h29]; rfl), trivial⟩)
    refine AE (d := 24) (b := (decide ((1 : Int) ≤ y.tries))) rfl (fun h24 => ?_) (fun h24 => ?_)
    ·exact yd rfl (yp rfl) (ym rfl rfl (M.cell 1 rfl rfl) (yd rfl (I2 rfl rfl rfl) (yb rfl (k24 _ _ M ⟨rfl, rfl, (by rw [h24]; rfl), trivial⟩))))
    ·exact yo rfl (yo rfl (yo rfl (yb rfl (k24 _ _ M ⟨rfl, rfl, (by rw [h24]; rfl), trivial⟩))))
   ·have h17p := (odf h17)
    refine A4 (A0 (yb rfl (yl rfl rfl (M.cell 1 rfl rfl) (ya rfl (B9 rfl rfl rfl) (yb rfl (A1 (A2 (AQ (b := (decide ((y.kind.toNat : Int) = (5 : Int)))) rfl (fun h38 => ?_) (fun h38 => ?_)))))))))
    ·have h38p := (odt h38)
     refine A4 (A0 (ya rfl (AN (xs := [str [], str [], .int .u8 (y.kind.toNat : Int), str [], str y.dflt, str y.att, .int .u8 (y.ev.toNat : Int), str y.ref, str y.key, .int .i64 y.ticks, .int .i64 y.tries]) rfl rfl (M.rdBlk 0 rfl rfl) underlying62 rfl AU) (yb rfl (yl rfl rfl (M.cell 1 rfl rfl) (yb rfl (yl rfl rfl (M.cell 1 rfl rfl) (ya rfl (BO (parts := [(2, _), (4, _)]) rfl rfl (LU _ _)) (ya rfl (XM (a := (⟨[], [], y.kind, [], y.dflt, y.att, y.ev, y.ref, y.key, y.ticks, y.tries⟩ : El)) (b := (⟨[], [], y.kind, [], y.dflt, [], 0, [], [], 0, 0⟩ : El)) rfl rfl rfl) (yb rfl (A1 (A2 (AD (AJ (AA (AH rfl rfl ?_)))))))))))))))
     exact ⟨by rw [YO, if_neg (BA h8), if_neg (BA h17), if_pos h38], M.fr⟩
    ·have h38p := (odf h38)
     refine A4 (A0 (yb rfl (yl rfl rfl (M.cell 1 rfl rfl) (ya rfl (B9 rfl rfl rfl) (yb rfl (AT 4 [(1, pg g1), (3, pg g3), (57, .bool ((decide ((y.kind.toNat : Int) = (8 : Int))) || (decide ((y.kind.toNat : Int) = (9 : Int)))))] (fun w' => Mem w AB [As.blk g3 62 [str [], str [], .int .u8 (y.kind.toNat : Int), str [], str y.dflt, str y.att, .int .u8 (y.ev.toNat : Int), str y.ref, str y.key, .int .i64 y.ticks, .int .i64 y.tries], As.blk g1 62 (El.cells y)] w') ?_ (fun k53 => ?_)))))))
     ·intro w10 M
      refine yb rfl (A1 (A2 (AQ (b := ((decide ((y.kind.toNat : Int) = (8 : Int))) || (decide ((y.kind.toNat : Int) = (9 : Int))))) rfl (fun h49 => ?_) (fun h49 => ?_))))
      ·have h49p := ((EK h49).imp (fun z => (odt z)) (fun z => (odt z)))
       refine A4 (A0 (ya rfl (AN (xs := El.cells y) rfl rfl (M.rdBlk 1 rfl rfl) underlying62 rfl AU) (cp M 59 rfl (AF rfl rfl call131) (kG _ _ (by assumption)) fun w11 M => yb rfl (AT 4 [(1, pg g1), (3, pg g3), (64, .bool ((HG y) && (decide (y.tries = (0 : Int)))))] (fun w' => Mem w AB [As.blk g3 62 [str [], str [], .int .u8 (y.kind.toNat : Int), str [], str y.dflt, str y.att, .int .u8 (y.ev.toNat : Int), str y.ref, str y.key, .int .i64 y.ticks, .int .i64 y.tries], As.blk g1 62 (El.cells y)] w') ?_ (fun k60 => ?_)))))
       ·intro w12 M
        refine yb rfl (AT 4 [(1, pg g1), (3, pg g3), (69, .bool (((HG y) && (decide (y.tries = (0 : Int)))) && (decide (y.dflt = []))))] (fun w' => Mem w AB [As.blk g3 62 [str [], str [], .int .u8 (y.kind.toNat : Int), str [], str y.dflt, str y.att, .int .u8 (y.ev.toNat : Int), str y.ref, str y.key, .int .i64 y.ticks, .int .i64 y.tries], As.blk g1 62 (El.cells y)] w') ?_ (fun k65 => ?_))
        ·intro w13 M
         refine yb rfl (AT 9 [(1, pg g1), (3, pg g3), (79, .bool ((((HG y) && (decide (y.tries = (0 : Int)))) && (decide (y.dflt = []))) && ((decide ((y.kind.toNat : Int) = (9 : Int))) || (decide (y.att = [])))))] (fun w' => Mem w AB [As.blk g3 62 [str [], str [], .int .u8 (y.kind.toNat : Int), str [], str y.dflt, str y.att, .int .u8 (y.ev.toNat : Int), str y.ref, str y.key, .int .i64 y.ticks, .int .i64 y.tries], As.blk g1 62 (El.cells y)] w') ?_ (fun k70 => ?_))
         ·intro w14 M
          exact yb rfl (A1 (A2 (AD (AJ (AA (AH rfl rfl ⟨by rw [YO, if_neg (BA h8), if_neg (BA h17), if_neg (BA h38), if_pos h49], M.fr⟩))))))
         refine AE (d := 70) (b := (((HG y) && (decide (y.tries = (0 : Int)))) && (decide (y.dflt = [])))) rfl (fun h70 => ?_) (fun h70 => ?_)
         ·refine yd rfl (yp rfl) (ym rfl rfl (M.cell 1 rfl rfl) (yd rfl (B9 rfl rfl rfl) (yd rfl (yp rfl) (AT 4 [(1, pg g1), (3, pg g3), (70, .bool true), (78, .bool ((decide ((y.kind.toNat : Int) = (9 : Int))) || (decide (y.att = []))))] (fun w' => Mem w AB [As.blk g3 62 [str [], str [], .int .u8 (y.kind.toNat : Int), str [], str y.dflt, str y.att, .int .u8 (y.ev.toNat : Int), str y.ref, str y.key, .int .i64 y.ticks, .int .i64 y.tries], As.blk g1 62 (El.cells y)] w') ?_ (fun k74 => ?_)))))
          ·intro w15 M
           exact yb rfl (k70 _ _ M ⟨rfl, rfl, (by rw [h70]; rfl), trivial⟩)
          refine AE (d := 74) (b := (decide ((y.kind.toNat : Int) = (9 : Int)))) rfl (fun h74 => ?_) (fun h74 => ?_)
          ·exact yo rfl (yo rfl (yo rfl (yd rfl (yp rfl) (k74 _ _ M ⟨rfl, rfl, rfl, (by rw [h74]; rfl), trivial⟩))))
          ·exact yd rfl (yp rfl) (ym rfl rfl (M.cell 1 rfl rfl) (yd rfl (DG rfl rfl rfl) (yd rfl (yp rfl) (k74 _ _ M ⟨rfl, rfl, rfl, (by rw [h74]; rfl), trivial⟩))))
         ·iterate 4 refine yo rfl ?_
          exact BZ rfl rfl rfl rfl rfl (BZ rfl rfl rfl rfl rfl (BZ rfl rfl rfl rfl rfl (yo rfl (yb rfl (k70 _ _ M ⟨rfl, rfl, (by rw [h70]; rfl), trivial⟩)))))
        refine AE (d := 65) (b := ((HG y) && (decide (y.tries = (0 : Int))))) rfl (fun h65 => ?_) (fun h65 => ?_)
        ·exact yd rfl (yp rfl) (ym rfl rfl (M.cell 1 rfl rfl) (yd rfl (DG rfl rfl rfl) (yb rfl (k65 _ _ M ⟨rfl, rfl, (by rw [h65]; rfl), trivial⟩))))
        ·exact yo rfl (yo rfl (yo rfl (yb rfl (k65 _ _ M ⟨rfl, rfl, (by rw [h65]; rfl), trivial⟩))))
       refine AE (d := 60) (b := (HG y)) rfl (fun h60 => ?_) (fun h60 => ?_)
       ·exact yd rfl (yp rfl) (ym rfl rfl (M.cell 1 rfl rfl) (yd rfl (B9 rfl rfl rfl) (yb rfl (k60 _ _ M ⟨rfl, rfl, (by rw [h60]; rfl), trivial⟩))))
       ·exact yo rfl (yo rfl (yo rfl (yb rfl (k60 _ _ M ⟨rfl, rfl, (by rw [h60]; rfl), trivial⟩))))
      ·have h49p := (And.intro (odf (CA h49).1) (odf (CA h49).2))
       exact AL (AC (A2 (A4 (A0 (ya rfl (AN (xs := [str [], str [], .int .u8 (y.kind.toNat : Int), str [], str y.dflt, str y.att, .int .u8 (y.ev.toNat : Int), str y.ref, str y.key, .int .i64 y.ticks, .int .i64 y.tries]) rfl rfl (M.rdBlk 0 rfl rfl) underlying62 rfl AU) (yb rfl (yl rfl rfl (M.cell 1 rfl rfl) (ya rfl (BO (parts := [(2, _)]) rfl rfl (O6 _)) (ya rfl (XM (a := (⟨[], [], y.kind, [], y.dflt, y.att, y.ev, y.ref, y.key, y.ticks, y.tries⟩ : El)) (b := (⟨[], [], y.kind, [], [], [], 0, [], [], 0, 0⟩ : El)) rfl rfl rfl) (yb rfl (A1 (A2 (AD (AH rfl rfl ⟨by rw [YO, if_neg (BA h8), if_neg (BA h17), if_neg (BA h38), if_neg (BA h49)], M.fr⟩))))))))))))))
     refine AE (d := 53) (b := (decide ((y.kind.toNat : Int) = (8 : Int)))) rfl (fun h53 => ?_) (fun h53 => ?_)
     ·exact yo rfl (yo rfl (yo rfl (yb rfl (k53 _ _ M ⟨rfl, rfl, (by rw [h53]; rfl), trivial⟩))))
     ·exact yd rfl (yp rfl) (ym rfl rfl (M.cell 1 rfl rfl) (yd rfl (B9 rfl rfl rfl) (yb rfl (k53 _ _ M ⟨rfl, rfl, (by rw [h53]; rfl), trivial⟩))))
 refine AE (d := 12) (b := (decide ((y.kind.toNat : Int) < (1 : Int)))) rfl (fun h12 => ?_) (fun h12 => ?_)
 ·exact yo rfl (yo rfl (yo rfl (yb rfl (k12 _ _ M ⟨rfl, rfl, (by rw [h12]; rfl), trivial⟩))))
 ·exact yd rfl (yp rfl) (ym rfl rfl (M.cell 1 rfl rfl) (yd rfl (FR rfl rfl rfl) (yb rfl (k12 _ _ M ⟨rfl, rfl, (by rw [h12]; rfl), trivial⟩))))
def cH (m : Md) (y : El) : Bool := Q4 m.els 4 y.inn && YO y
theorem mF (m : Md) (a : MdA) (ix : IxA) (gx gp : Nat) (y : El) (w : World) (oy : ElOk y) (_ho : MdOk m) (hx : IxAt w m a ix gx) (hp : Blk w gp 87 [pg gx]) :
 Calls prog 80 #[.agg y.cells.toArray, pg gp] w fun e w' => e = .returned (.bool (cH m y)) ∧ Fr0 w w' := by
 have oy3 := oy.ref
 have oy4 := oy.key
 have oy5 := oy.id
 have oy6 := oy.nm
 have oy7 := oy.inn
 have oy8 := oy.att
 refine AK (vs := [_, _]) func80 rfl ntmps80 rfl ?_
 have M := CK w
 refine A4 (A0 (BD M (A9 rfl) rfl rfl 62 rfl rfl (El.cells y) rfl fun g2 w1 hg2 M => yb rfl (A1 (A2 (A4 (A0 (yb rfl (yl rfl rfl (M.cell 0 rfl rfl) (yb rfl (A1 (A2 (A4 (A4 ?_)))))))))))))
 refine A0 (yb rfl (A1 (A2 (AV (CM (fun e wr mz => ∃ (d : Nat) (q : List UInt8), e = [(1, pg gp), (2, pg g2), (4, str q), (5, .int .i64 ((d : Nat) : Int))] ∧ Mem w AB [As.blk g2 62 (El.cells y)] wr ∧ (d ≤ 4) ∧ (Q4 m.els 4 y.inn = Q4 m.els (4 - d) q) ∧ mz = 4 - d) ⟨0, y.inn, rfl, M, Nat.zero_le _, rfl, rfl⟩ ⟨rfl, rfl, rfl, rfl, trivial⟩ ?_)))))
 rintro _ w2 _ ⟨d, q, rfl, M, hd, hs, rfl⟩
 refine A4 (A4 (A0 (yb rfl (ya rfl (HD rfl rfl rfl) (A1 (A2 (AQ (b := (!decide (q = []))) rfl (fun h10 => ?_) (fun h10 => ?_))))))))
 ·have h10p := (odf (C1 h10))
  refine AL (A2 (A4 (AV (A4 (A0 (yl rfl rfl (Blk.c (hp.fr0 M.fr) 0 rfl) (yb rfl (yb rfl (yl rfl rfl (Blk.c ((hx.fr0 M.fr).blk) 5 rfl) (yb rfl (ya rfl (C2 rfl rfl rfl underlying55 underlying9 AY ((hx.fr0 M.fr).E) (hx.getE _)) (BI M (A9 rfl) rfl rfl 62 rfl [str [], str [], .int .u8 0, str [], str [], str [], .int .u8 0, str [], str [], .int .i64 0, .int .i64 0] AY rfl fun g6 w3 hg6 M => B5 (cs' := (El.cells ((AS m.els q).getD zeroEl))) M 0 (A9 rfl) rfl rfl rfl rfl rfl AU rfl (AP rfl) (AW rfl) rfl fun w4 M => ?_))))))))))))
  refine A1 (A2 (A4 (A4 (A0 (yb rfl (yl rfl rfl (M.cell 0 rfl rfl) (ya rfl (CX rfl rfl rfl) (yb rfl (AT 3 [(1, pg gp), (2, pg g2), (4, str q), (5, .int .i64 ((d : Nat) : Int)), (6, pg g6), (25, .bool ((!decide ((((AS m.els q).getD zeroEl).kind.toNat : Int) = (10 : Int))) || (decide (((d : Nat) : Int) = (4 : Int)))))] (fun w' => Mem w AB [As.blk g6 62 (El.cells ((AS m.els q).getD zeroEl)), As.blk g2 62 (El.cells y)] w') ?_ (fun k22 => ?_))))))))))
  ·intro w5 M
   refine A1 (A2 (AQ (b := ((!decide ((((AS m.els q).getD zeroEl).kind.toNat : Int) = (10 : Int))) || (decide (((d : Nat) : Int) = (4 : Int))))) rfl (fun h25 => ?_) (fun h25 => ?_)))
   ·have h25p := ((EK h25).imp (fun z => (odf (C1 z))) (fun z => (odt z)))
    exact A4 (A0 (yb rfl (A1 (A2 (AD (AA (AJ (AA (AA (AJ (AA (AH rfl rfl ⟨by rw [cH, hs, qI m.els h10p h25p]; rfl, M.fr⟩))))))))))))
   ·have h25p := (And.intro (odt (C3 (CA h25).1)) (odf (CA h25).2))
    refine AL (A2 (A0 (yb rfl (yl rfl rfl (M.cell 0 rfl rfl) (yb rfl (A1 (AC (A2 (A0 (yb rfl (ya rfl (CQ rfl rfl rfl (by omega)) (yb rfl (A1 ?_)))))))))))))
    have h10q : ¬ q = [] := h10p
    have hd4 : ¬ (d : Int) = 4 := h25p.2
    have hdlt : d < 4 := by omega
    refine BM [(1, pg gp), (2, pg g2), (4, str (((AS m.els q).getD zeroEl).inn)), (5, .int .i64 (((d + 1) : Nat) : Int))] (4 - (d + 1)) ⟨d + 1, ((AS m.els q).getD zeroEl).inn, rfl, (M.pk [1]), ?_, ?_, rfl⟩ (by first | omega | (simp <;> omega)) ⟨rfl, rfl, rfl, rfl, trivial⟩
    ·omega
    ·rw [hs, cO m.els h10q hdlt h25p.1]
  refine AE (d := 22) (b := (!decide ((((AS m.els q).getD zeroEl).kind.toNat : Int) = (10 : Int)))) rfl (fun h22 => ?_) (fun h22 => ?_)
  ·exact yo rfl (yo rfl (yb rfl (k22 _ _ M ⟨rfl, rfl, rfl, rfl, rfl, (by rw [h22]; rfl), trivial⟩)))
  ·exact yd rfl (yp rfl) (yd rfl (B9 rfl rfl rfl) (yb rfl (k22 _ _ M ⟨rfl, rfl, rfl, rfl, rfl, (by rw [h22]; rfl), trivial⟩)))
 ·have h10p := (odt (C3 h10))
  exact CD (AI (AI (BB (A2 (A4 (A0 (ya rfl (AN (xs := El.cells y) rfl rfl (M.rdBlk 0 rfl rfl) underlying62 rfl AU) (cp M 29 rfl (AF rfl rfl call81) (rP _ _ (by assumption)) fun w6 M => yb rfl (A1 (A2 (AD (AH rfl rfl ⟨by rw [cH, hs, qJ m.els h10p]; rfl, M.fr⟩))))))))))))
def PW (m : Md) (y : Fl) : Bool := (((((AS m.els y.frm).isSome && (AS m.els y.tg).isSome) && (decide (((AS m.els y.frm).getD zeroEl).inn = ((AS m.els y.tg).getD zeroEl).inn))) && (!decide ((((AS m.els y.tg).getD zeroEl).kind.toNat : Int) = (9 : Int)))) && (!decide (y.frm = y.tg)))
theorem cL (m : Md) (a : MdA) (ix : IxA) (gx gp : Nat) (y : Fl) (w : World) (_ho : MdOk m) (hx : IxAt w m a ix gx) (hp : Blk w gp 87 [pg gx]) :
 Calls prog 82 #[.agg y.cells.toArray, pg gp] w fun e w' => e = .returned (.bool (PW m y)) ∧ Fr0 w w' := by
 refine AK (vs := [_, _]) func82 rfl ntmps82 rfl ?_
 have M := CK w
 refine A4 (A0 (BD M (A9 rfl) rfl rfl 65 rfl rfl (Fl.cells y) rfl fun g2 w1 hg2 M => yb rfl (A1 (A2 (A4 (D8 13 (fun w' => Mem w AB [As.blk g2 65 (Fl.cells y)] w') DT ?_))))))
 have M := M.drew
 refine ol 0 13 rfl rfl rfl M (fun _ M => (Blk.c (hp.fr0 M.fr) 0 rfl)) (oc 1 13 rfl rfl M (oc 2 13 rfl rfl M (ol 3 13 rfl rfl rfl M (fun _ M => (Blk.c ((hx.fr0 M.fr).blk) 5 rfl)) (oc 4 13 rfl rfl M (ol 5 13 rfl rfl rfl M (fun _ M => (M.cell 0 rfl rfl)) (oa 6 13 rfl rfl M (fun _ M => DE rfl rfl rfl underlying55 underlying9 AY ((hx.fr0 M.fr).E) (hx.getE _) (hx.isE _)) (oc 7 13 rfl rfl M (oc 8 13 rfl rfl M (oc 9 13 rfl rfl M (B3 10 (some 4) (by kernel_rfl) rfl (A9 rfl) rfl rfl (fun ρ hρ => BX 62 rfl _ [str [], str [], .int .u8 0, str [], str [], str [], .int .u8 0, str [], str [], .int .i64 0, .int .i64 0] AY rfl) ?_))))))))))
 rintro _ w2 ⟨g4, rfl, hg4, hq4, hb4, hfw2⟩
 refine ⟨fun _ => M.step hfw2, ?_⟩
 have M := M.push hfw2 _ hb4 (DA hg4 hq4)
 replace M : Mem w AB (As.blk g4 62 [str [], str [], .int .u8 0, str [], str [], str [], .int .u8 0, str [], str [], .int .i64 0, .int .i64 0] :: _) w2 := M
 refine B3 11 none (by kernel_rfl) rfl (A9 rfl) rfl rfl (fun ρ hρ => BP 62 _ _ rfl g4 0 62 _ (El.cells ((AS m.els y.frm).getD zeroEl)) (hρ _ _ rfl) (hρ _ _ rfl) (M.blk 0 rfl) AU (AP rfl) (AW rfl)) ?_
 rintro _ w3 ⟨rfl, hbw3, hfw3⟩
 replace M : Mem w AB (List.set _ 0 (As.blk g4 62 (El.cells ((AS m.els y.frm).getD zeroEl)))) w3 := M.putB 0 rfl hbw3 hfw3
 refine ⟨fun _ => M.drop 1, oc 12 13 rfl rfl (M.drop 1) (BJ (by kernel_rfl) (A2 (A4 (D8 13 (fun w' => Mem w AB [As.blk g4 62 (El.cells ((AS m.els y.frm).getD zeroEl)), As.blk g2 65 (Fl.cells y)] w') DT ?_))))⟩
 have M := M.drew
 refine ol 0 13 rfl rfl rfl M (fun _ M => (Blk.c (hp.fr0 M.fr) 0 rfl)) (oc 1 13 rfl rfl M (oc 2 13 rfl rfl M (ol 3 13 rfl rfl rfl M (fun _ M => (Blk.c ((hx.fr0 M.fr).blk) 5 rfl)) (oc 4 13 rfl rfl M (ol 5 13 rfl rfl rfl M (fun _ M => (M.cell 1 rfl rfl)) (oa 6 13 rfl rfl M (fun _ M => DE rfl rfl rfl underlying55 underlying9 AY ((hx.fr0 M.fr).E) (hx.getE _) (hx.isE _)) (oc 7 13 rfl rfl M (oc 8 13 rfl rfl M (oc 9 13 rfl rfl M (B3 10 (some 6) (by kernel_rfl) rfl (A9 rfl) rfl rfl (fun ρ hρ => BX 62 rfl _ [str [], str [], .int .u8 0, str [], str [], str [], .int .u8 0, str [], str [], .int .i64 0, .int .i64 0] AY rfl) ?_))))))))))
 rintro _ w4 ⟨g6, rfl, hg6, hq6, hb6, hfw4⟩
 refine ⟨fun _ => M.step hfw4, ?_⟩
 have M := M.push hfw4 _ hb6 (DA hg6 hq6)
 replace M : Mem w AB (As.blk g6 62 [str [], str [], .int .u8 0, str [], str [], str [], .int .u8 0, str [], str [], .int .i64 0, .int .i64 0] :: _) w4 := M
 refine B3 11 none (by kernel_rfl) rfl (A9 rfl) rfl rfl (fun ρ hρ => BP 62 _ _ rfl g6 0 62 _ (El.cells ((AS m.els y.tg).getD zeroEl)) (hρ _ _ rfl) (hρ _ _ rfl) (M.blk 0 rfl) AU (AP rfl) (AW rfl)) ?_
 rintro _ w5 ⟨rfl, hbw5, hfw5⟩
 replace M : Mem w AB (List.set _ 0 (As.blk g6 62 (El.cells ((AS m.els y.tg).getD zeroEl)))) w5 := M.putB 0 rfl hbw5 hfw5
 refine ⟨fun _ => M.drop 1, oc 12 13 rfl rfl (M.drop 1) (BJ (by kernel_rfl) (A2 (A4 (A0 (yb rfl (yb rfl (AT 2 [(2, pg g2), (3, .bool false), (4, pg g4), (6, pg g6), (31, .bool ((AS m.els y.frm).isSome && (AS m.els y.tg).isSome))] (fun w' => Mem w AB [As.blk g6 62 (El.cells ((AS m.els y.tg).getD zeroEl)), As.blk g4 62 (El.cells ((AS m.els y.frm).getD zeroEl)), As.blk g2 65 (Fl.cells y)] w') ?_ (fun k29 => ?_))))))))⟩
 ·intro w6 M
  refine yb rfl (AT 6 [(2, pg g2), (3, .bool false), (6, pg g6), (38, .bool (((AS m.els y.frm).isSome && (AS m.els y.tg).isSome) && (decide (((AS m.els y.frm).getD zeroEl).inn = ((AS m.els y.tg).getD zeroEl).inn))))] (fun w' => Mem w AB [As.blk g6 62 (El.cells ((AS m.els y.tg).getD zeroEl)), As.blk g4 62 (El.cells ((AS m.els y.frm).getD zeroEl)), As.blk g2 65 (Fl.cells y)] w') ?_ (fun k32 => ?_))
  ·intro w7 M
   refine yb rfl (AT 4 [(2, pg g2), (3, .bool false), (43, .bool ((((AS m.els y.frm).isSome && (AS m.els y.tg).isSome) && (decide (((AS m.els y.frm).getD zeroEl).inn = ((AS m.els y.tg).getD zeroEl).inn))) && (!decide ((((AS m.els y.tg).getD zeroEl).kind.toNat : Int) = (9 : Int)))))] (fun w' => Mem w AB [As.blk g6 62 (El.cells ((AS m.els y.tg).getD zeroEl)), As.blk g4 62 (El.cells ((AS m.els y.frm).getD zeroEl)), As.blk g2 65 (Fl.cells y)] w') ?_ (fun k39 => ?_))
   ·intro w8 M
    refine yb rfl (AT 6 [(3, .bool false), (50, .bool (((((AS m.els y.frm).isSome && (AS m.els y.tg).isSome) && (decide (((AS m.els y.frm).getD zeroEl).inn = ((AS m.els y.tg).getD zeroEl).inn))) && (!decide ((((AS m.els y.tg).getD zeroEl).kind.toNat : Int) = (9 : Int)))) && (!decide (y.frm = y.tg))))] (fun w' => Mem w AB [As.blk g6 62 (El.cells ((AS m.els y.tg).getD zeroEl)), As.blk g4 62 (El.cells ((AS m.els y.frm).getD zeroEl)), As.blk g2 65 (Fl.cells y)] w') ?_ (fun k44 => ?_))
    ·intro w9 M
     exact yb rfl (A1 (A2 (AD (AH rfl rfl ⟨by rw [PW], M.fr⟩))))
    refine AE (d := 44) (b := ((((AS m.els y.frm).isSome && (AS m.els y.tg).isSome) && (decide (((AS m.els y.frm).getD zeroEl).inn = ((AS m.els y.tg).getD zeroEl).inn))) && (!decide ((((AS m.els y.tg).getD zeroEl).kind.toNat : Int) = (9 : Int))))) rfl (fun h44 => ?_) (fun h44 => ?_)
    ·exact yd rfl (yp rfl) (ym rfl rfl (M.cell 2 rfl rfl) (yd rfl (yp rfl) (ym rfl rfl (M.cell 2 rfl rfl) (yd rfl (HD rfl rfl rfl) (yb rfl (k44 _ _ M ⟨rfl, (by rw [h44]; rfl), trivial⟩))))))
    ·iterate 5 refine yo rfl ?_
     exact yb rfl (k44 _ _ M ⟨rfl, (by rw [h44]; rfl), trivial⟩)
   refine AE (d := 39) (b := (((AS m.els y.frm).isSome && (AS m.els y.tg).isSome) && (decide (((AS m.els y.frm).getD zeroEl).inn = ((AS m.els y.tg).getD zeroEl).inn)))) rfl (fun h39 => ?_) (fun h39 => ?_)
   ·exact yd rfl (yp rfl) (ym rfl rfl (M.cell 0 rfl rfl) (yd rfl (CX rfl rfl rfl) (yb rfl (k39 _ _ M ⟨rfl, rfl, (by rw [h39]; rfl), trivial⟩))))
   ·exact yo rfl (yo rfl (yo rfl (yb rfl (k39 _ _ M ⟨rfl, rfl, (by rw [h39]; rfl), trivial⟩))))
  refine AE (d := 32) (b := ((AS m.els y.frm).isSome && (AS m.els y.tg).isSome)) rfl (fun h32 => ?_) (fun h32 => ?_)
  ·exact yd rfl (yp rfl) (ym rfl rfl (M.cell 1 rfl rfl) (yd rfl (yp rfl) (ym rfl rfl (M.cell 0 rfl rfl) (yd rfl (DG rfl rfl rfl) (yb rfl (k32 _ _ M ⟨rfl, rfl, rfl, (by rw [h32]; rfl), trivial⟩))))))
  ·iterate 5 refine yo rfl ?_
   exact yb rfl (k32 _ _ M ⟨rfl, rfl, rfl, (by rw [h32]; rfl), trivial⟩)
 refine AE (d := 29) (b := (AS m.els y.frm).isSome) rfl (fun h29 => ?_) (fun h29 => ?_)
 ·exact yd rfl (yp rfl) (yb rfl (k29 _ _ M ⟨rfl, rfl, rfl, rfl, (by rw [h29]; rfl), trivial⟩))
 ·exact yo rfl (yb rfl (k29 _ _ M ⟨rfl, rfl, rfl, rfl, (by rw [h29]; rfl), trivial⟩))
def UP (m : Md) (y : Fl) : Bool := ((!decide ((((AS m.els y.tg).getD zeroEl).kind.toNat : Int) = (8 : Int))) || (!decide ((((DD m.fls y.tg).length : Nat) : Int) = (1 : Int))))
theorem eG (m : Md) (a : MdA) (ix : IxA) (gx gp : Nat) (y : Fl) (w : World) (ho : MdOk m) (hx : IxAt w m a ix gx) (hp : Blk w gp 87 [pg gx]) :
 Calls prog 85 #[.agg y.cells.toArray, pg gp] w fun e w' => e = .returned (.bool (UP m y)) ∧ Fr0 w w' := by
 have hIl := EY m.fls y.tg
 have hnf := ho.nfls
 refine AK (vs := [_, _]) func85 rfl ntmps85 rfl ?_
 have M := CK w
 refine A4 (A0 (BD M (A9 rfl) rfl rfl 65 rfl rfl (Fl.cells y) rfl fun g2 w1 hg2 M => yb rfl (A1 (A2 (A4 (GV DT (by kernel_rfl) ?_))))))
 have M := M.drew
 refine sd rfl rfl (Blk.c (hp.fr0 M.fr) 0 rfl) (sb rfl (sb rfl (sd rfl rfl (Blk.c ((hx.fr0 M.fr).blk) 5 rfl) (sb rfl (sd rfl rfl (M.cell 0 rfl rfl) (sa rfl (C2 rfl rfl rfl underlying55 underlying9 AY ((hx.fr0 M.fr).E) (hx.getE _)) (sa rfl (PS (b := ((AS m.els y.tg).getD zeroEl)) rfl rfl) (sa rfl (CX rfl rfl rfl) (sb rfl (M9 10 [(3, .bool false), (23, .bool ((!decide ((((AS m.els y.tg).getD zeroEl).kind.toNat : Int) = (8 : Int))) || (!decide ((((DD m.fls y.tg).length : Nat) : Int) = (1 : Int)))))] ?_ (fun k13 => ?_)))))))))))
 ·exact sb rfl (IP (A2 (AD (AH rfl rfl ⟨by rw [UP], M.fr⟩))))
 refine GH (d := 13) (b := (!decide ((((AS m.els y.tg).getD zeroEl).kind.toNat : Int) = (8 : Int)))) rfl (fun h13 => ?_) (fun h13 => ?_)
 ·iterate 9 refine IO rfl rfl rfl rfl rfl rfl ?_
  exact sb rfl (k13 _ ⟨rfl, (by rw [h13]; rfl), trivial⟩)
 ·exact CN (B7 rfl rfl rfl) rfl rfl (CO rfl rfl (sc rfl) (Blk.c (hp.fr0 M.fr) 0 rfl)) (CN (B7 rfl rfl rfl) rfl rfl (yp rfl) (CN (B7 rfl rfl rfl) rfl rfl (yp rfl) (CN (B7 rfl rfl rfl) rfl rfl (CO rfl rfl (sc rfl) (Blk.c ((hx.fr0 M.fr).blk) 6 rfl)) (CN (B7 rfl rfl rfl) rfl rfl (yp rfl) (CN (B7 rfl rfl rfl) rfl rfl (CO rfl rfl (sc rfl) (M.cell 0 rfl rfl)) (CN (B7 rfl rfl rfl) rfl rfl (C2 rfl rfl rfl underlying137 underlying9 zr_sl_api_Flow ((hx.fr0 M.fr).I) (hx.getI _)) (CN (B7 rfl rfl rfl) rfl rfl (CY rfl rfl (sl rfl)) (CN (B7 rfl rfl rfl) rfl rfl (CX rfl rfl rfl) (sb rfl (k13 _ ⟨rfl, (by rw [h13]; rfl), trivial⟩))))))))))
def L6 (m : Md) (y : El) : Bool := (if ((decide ((y.kind.toNat : Int) = (1 : Int))) || (decide ((y.kind.toNat : Int) = (9 : Int)))) = true then ((decide ((((DD m.fls y.id).length : Nat) : Int) = (0 : Int))) && (decide ((((BK m.fls y.id).length : Nat) : Int) = (1 : Int)))) else (if (decide ((y.kind.toNat : Int) = (2 : Int))) = true then ((decide ((((DD m.fls y.id).length : Nat) : Int) = (1 : Int))) && (decide ((((BK m.fls y.id).length : Nat) : Int) = (0 : Int)))) else (if ((decide ((y.kind.toNat : Int) = (5 : Int))) || (decide ((y.kind.toNat : Int) = (6 : Int)))) = true then ((decide ((1 : Int) ≤ (((DD m.fls y.id).length : Nat) : Int))) && (decide ((1 : Int) ≤ (((BK m.fls y.id).length : Nat) : Int)))) else (if (decide ((y.kind.toNat : Int) = (7 : Int))) = true then (if ((decide ((((DD m.fls y.id).length : Nat) : Int) = (1 : Int))) && (decide ((2 : Int) ≤ (((BK m.fls y.id).length : Nat) : Int)))) = true then (!((BK m.fls y.id).any (UP m))) else false) else ((decide ((((DD m.fls y.id).length : Nat) : Int) = (1 : Int))) && (decide ((((BK m.fls y.id).length : Nat) : Int) = (1 : Int))))))))
theorem eF (m : Md) (a : MdA) (ix : IxA) (gx gp : Nat) (y : El) (w : World) (oy : ElOk y) (ho : MdOk m) (hx : IxAt w m a ix gx) (hp : Blk w gp 87 [pg gx]) :
 Calls prog 83 #[.agg y.cells.toArray, pg gp] w fun e w' => e = .returned (.bool (L6 m y)) ∧ Fr0 w w' := by
 have oy3 := oy.ref
 have oy4 := oy.key
 have oy5 := oy.id
 have oy6 := oy.nm
 have oy7 := oy.inn
 have oy8 := oy.att
 have hIl := EY m.fls y.id
 have hOl := DM m.fls y.id
 have hnf := ho.nfls
 refine AK (vs := [_, _]) func83 rfl ntmps83 rfl ?_
 have M := CK w
 refine A4 (A0 (BD M (A9 rfl) rfl rfl 62 rfl rfl (El.cells y) rfl fun g2 w1 hg2 M => yb rfl (A1 (A2 (A4 (GV DT (by kernel_rfl) ?_))))))
 have M := M.drew
 refine sd rfl rfl (Blk.c (hp.fr0 M.fr) 0 rfl) (sb rfl (sb rfl (sd rfl rfl (Blk.c ((hx.fr0 M.fr).blk) 6 rfl) (sb rfl (sd rfl rfl (M.cell 0 rfl rfl) (sa rfl (C2 rfl rfl rfl underlying137 underlying9 zr_sl_api_Flow ((hx.fr0 M.fr).I) (hx.getI _)) (sa rfl (CY rfl rfl (sl rfl)) (sd rfl rfl (Blk.c (hp.fr0 M.fr) 0 rfl) (sb rfl (sb rfl (sd rfl rfl (Blk.c ((hx.fr0 M.fr).blk) 7 rfl) (sb rfl (sd rfl rfl (M.cell 0 rfl rfl) (sa rfl (C2 rfl rfl rfl underlying137 underlying9 zr_sl_api_Flow ((hx.fr0 M.fr).O) (hx.getO _)) (sa rfl (CY rfl rfl (sl rfl)) ?_)))))))))))))))
 refine sb rfl (sb rfl (IP (A2 (A4 (A4 (A0 (yb rfl (yl rfl rfl (M.cell 0 rfl rfl) (A1 (A2 (AV (A4 (A4 (A0 (ya rfl (B9 rfl rfl rfl) ?_)))))))))))))))
 refine yb rfl (A1 (A2 (PB [(1, pg gp), (2, pg g2), (4, .int .i64 (((DD m.fls y.id).length : Nat) : Int)), (5, .int .i64 (((BK m.fls y.id).length : Nat) : Int)), (23, .int .u8 (y.kind.toNat : Int)), (24, .bool ((decide ((y.kind.toNat : Int) = (1 : Int))) || (decide ((y.kind.toNat : Int) = (9 : Int)))))] (fun w' => Mem w AB [As.blk g2 62 (El.cells y)] w') ?_ (fun k24 => ?_))))
 ·intro w2 M
  refine A2 (AQ (b := ((decide ((y.kind.toNat : Int) = (1 : Int))) || (decide ((y.kind.toNat : Int) = (9 : Int))))) rfl (fun h24 => ?_) (fun h24 => ?_))
  ·have h24p := ((EK h24).imp (fun z => (odt z)) (fun z => (odt z)))
   refine A4 (A0 (yb rfl (ya rfl (B9 rfl rfl rfl) (yb rfl (AT 3 [(4, .int .i64 (((DD m.fls y.id).length : Nat) : Int)), (5, .int .i64 (((BK m.fls y.id).length : Nat) : Int)), (32, .bool ((decide ((((DD m.fls y.id).length : Nat) : Int) = (0 : Int))) && (decide ((((BK m.fls y.id).length : Nat) : Int) = (1 : Int)))))] (fun w' => Mem w AB [As.blk g2 62 (El.cells y)] w') ?_ (fun k29 => ?_))))))
   ·intro w3 M
    exact yb rfl (A1 (A2 (AD (AJ (AA (AH rfl rfl ⟨by rw [L6, if_pos h24], M.fr⟩))))))
   refine AE (d := 29) (b := (decide ((((DD m.fls y.id).length : Nat) : Int) = (0 : Int)))) rfl (fun h29 => ?_) (fun h29 => ?_)
   ·exact yd rfl (yp rfl) (yd rfl (B9 rfl rfl rfl) (yb rfl (k29 _ _ M ⟨rfl, rfl, (by rw [h29]; rfl), trivial⟩)))
   ·exact yo rfl (yo rfl (yb rfl (k29 _ _ M ⟨rfl, rfl, (by rw [h29]; rfl), trivial⟩)))
  ·have h24p := (And.intro (odf (CA h24).1) (odf (CA h24).2))
   refine A4 (A0 (ya rfl (B9 rfl rfl rfl) (yb rfl (A1 (A2 (AQ (b := (decide ((y.kind.toNat : Int) = (2 : Int)))) rfl (fun h33 => ?_) (fun h33 => ?_)))))))
   ·have h33p := (odt h33)
    refine A4 (A0 (yb rfl (ya rfl (B9 rfl rfl rfl) (yb rfl (AT 3 [(4, .int .i64 (((DD m.fls y.id).length : Nat) : Int)), (5, .int .i64 (((BK m.fls y.id).length : Nat) : Int)), (40, .bool ((decide ((((DD m.fls y.id).length : Nat) : Int) = (1 : Int))) && (decide ((((BK m.fls y.id).length : Nat) : Int) = (0 : Int)))))] (fun w' => Mem w AB [As.blk g2 62 (El.cells y)] w') ?_ (fun k37 => ?_))))))
    ·intro w4 M
     exact yb rfl (A1 (A2 (AD (AJ (AA (AH rfl rfl ⟨by rw [L6, if_neg (BA h24), if_pos h33], M.fr⟩))))))
    refine AE (d := 37) (b := (decide ((((DD m.fls y.id).length : Nat) : Int) = (1 : Int)))) rfl (fun h37 => ?_) (fun h37 => ?_)
    ·exact yd rfl (yp rfl) (yd rfl (B9 rfl rfl rfl) (yb rfl (k37 _ _ M ⟨rfl, rfl, (by rw [h37]; rfl), trivial⟩)))
    ·exact yo rfl (yo rfl (yb rfl (k37 _ _ M ⟨rfl, rfl, (by rw [h37]; rfl), trivial⟩)))
   ·have h33p := (odf h33)
    refine A4 (A4 (A0 (ya rfl (B9 rfl rfl rfl) (yb rfl (A1 (A2 (PB [(1, pg gp), (2, pg g2), (4, .int .i64 (((DD m.fls y.id).length : Nat) : Int)), (5, .int .i64 (((BK m.fls y.id).length : Nat) : Int)), (23, .int .u8 (y.kind.toNat : Int)), (41, .bool ((decide ((y.kind.toNat : Int) = (5 : Int))) || (decide ((y.kind.toNat : Int) = (6 : Int)))))] (fun w' => Mem w AB [As.blk g2 62 (El.cells y)] w') ?_ (fun k41 => ?_))))))))
    ·intro w5 M
     refine A2 (AQ (b := ((decide ((y.kind.toNat : Int) = (5 : Int))) || (decide ((y.kind.toNat : Int) = (6 : Int))))) rfl (fun h41 => ?_) (fun h41 => ?_))
     ·have h41p := ((EK h41).imp (fun z => (odt z)) (fun z => (odt z)))
      refine A4 (A0 (yb rfl (ya rfl (EP rfl rfl rfl) (yb rfl (AT 3 [(4, .int .i64 (((DD m.fls y.id).length : Nat) : Int)), (5, .int .i64 (((BK m.fls y.id).length : Nat) : Int)), (49, .bool ((decide ((1 : Int) ≤ (((DD m.fls y.id).length : Nat) : Int))) && (decide ((1 : Int) ≤ (((BK m.fls y.id).length : Nat) : Int)))))] (fun w' => Mem w AB [As.blk g2 62 (El.cells y)] w') ?_ (fun k46 => ?_))))))
      ·intro w6 M
       exact yb rfl (A1 (A2 (AD (AJ (AA (AH rfl rfl ⟨by rw [L6, if_neg (BA h24), if_neg (BA h33), if_pos h41], M.fr⟩))))))
      refine AE (d := 46) (b := (decide ((1 : Int) ≤ (((DD m.fls y.id).length : Nat) : Int)))) rfl (fun h46 => ?_) (fun h46 => ?_)
      ·exact yd rfl (yp rfl) (yd rfl (EP rfl rfl rfl) (yb rfl (k46 _ _ M ⟨rfl, rfl, (by rw [h46]; rfl), trivial⟩)))
      ·exact yo rfl (yo rfl (yb rfl (k46 _ _ M ⟨rfl, rfl, (by rw [h46]; rfl), trivial⟩)))
     ·have h41p := (And.intro (odf (CA h41).1) (odf (CA h41).2))
      refine A4 (A0 (ya rfl (B9 rfl rfl rfl) (yb rfl (A1 (A2 (AQ (b := (decide ((y.kind.toNat : Int) = (7 : Int)))) rfl (fun h50 => ?_) (fun h50 => ?_)))))))
      ·have h50p := (odt h50)
       refine A4 (GP 15 DT (by kernel_rfl) ?_)
       have M := M.drew
       refine sb rfl (sa rfl (B9 rfl rfl rfl) (sb rfl (M9 3 [(1, pg gp), (2, pg g2), (4, .int .i64 (((DD m.fls y.id).length : Nat) : Int)), (5, .int .i64 (((BK m.fls y.id).length : Nat) : Int)), (57, .bool ((decide ((((DD m.fls y.id).length : Nat) : Int) = (1 : Int))) && (decide ((2 : Int) ≤ (((BK m.fls y.id).length : Nat) : Int)))))] ?_ (fun k54 => ?_))))
       ·refine sb rfl (GH (d := 58) (b := ((decide ((((DD m.fls y.id).length : Nat) : Int) = (1 : Int))) && (decide ((2 : Int) ≤ (((BK m.fls y.id).length : Nat) : Int))))) rfl (fun h58 => ?_) (fun h58 => ?_))
        ·have h58p := (And.intro (odt (C5 h58).1) (odt (C5 h58).2))
         refine CN (B7 rfl rfl rfl) rfl rfl (CO rfl rfl (sc rfl) (Blk.c (hp.fr0 M.fr) 0 rfl)) (CN (B7 rfl rfl rfl) rfl rfl (yp rfl) (CN (B7 rfl rfl rfl) rfl rfl (yp rfl) (CN (B7 rfl rfl rfl) rfl rfl (CO rfl rfl (sc rfl) (Blk.c ((hx.fr0 M.fr).blk) 7 rfl)) (CN (B7 rfl rfl rfl) rfl rfl (yp rfl) (CN (B7 rfl rfl rfl) rfl rfl (CO rfl rfl (sc rfl) (M.cell 0 rfl rfl)) (CN (B7 rfl rfl rfl) rfl rfl (C2 rfl rfl rfl underlying137 underlying9 zr_sl_api_Flow ((hx.fr0 M.fr).O) (hx.getO _)) (CN (B7 rfl rfl rfl) rfl rfl (CT (us := []) (vs := [pg gp]) rfl rfl rfl) (EJ (CC (some 67) (B7 rfl rfl rfl) rfl rfl (AF rfl rfl call84) (bP _ _ (BK m.fls y.id) (by have := EY m.fls; have := DM m.fls; have := ho.nfls; have := ho.nels; have := ho.nvars; first | omega | exact Nat.le_trans (EY _ _) (by omega) | exact Nat.le_trans (DM _ _) (by omega)) 85 [pg gp] (UP m) _ (GE call85 (fun z hz w9 hf9 => eG m a ix gx gp z w9 ho ((hx.fr0 M.fr).fr0 hf9) ((hp.fr0 M.fr).fr0 hf9))) ((hx.fr0 M.fr).rdO _)) ?_)))))))))
         rintro _ w7 ⟨rfl, hfw7⟩
         refine ⟨_, rfl, ?_⟩
         have M := M.step hfw7
         exact yd rfl (yp rfl) (yb rfl (yb rfl (A1 (A2 (AD (AJ (AA (AH rfl rfl ⟨by rw [L6, if_neg (BA h24), if_neg (BA h33), if_neg (BA h41), if_pos h50, if_pos h58], M.fr⟩))))))))
        ·have h58p := ((E9 h58).imp (fun z => (odf z)) (fun z => (odf z)))
         iterate 8 refine IO rfl rfl rfl rfl rfl rfl ?_
         exact EJ (yo rfl (yo rfl (yb rfl (yb rfl (A1 (A2 (AD (AJ (AA (AH rfl rfl ⟨by rw [L6, if_neg (BA h24), if_neg (BA h33), if_neg (BA h41), if_pos h50, if_neg (BA h58)], M.fr⟩))))))))))
       refine GH (d := 54) (b := (decide ((((DD m.fls y.id).length : Nat) : Int) = (1 : Int)))) rfl (fun h54 => ?_) (fun h54 => ?_)
       ·exact CN (B7 rfl rfl rfl) rfl rfl (yp rfl) (CN (B7 rfl rfl rfl) rfl rfl (EP rfl rfl rfl) (sb rfl (k54 _ ⟨rfl, rfl, rfl, rfl, (by rw [h54]; rfl), trivial⟩)))
       ·exact IO rfl rfl rfl rfl rfl rfl (IO rfl rfl rfl rfl rfl rfl (sb rfl (k54 _ ⟨rfl, rfl, rfl, rfl, (by rw [h54]; rfl), trivial⟩)))
      ·have h50p := (odf h50)
       refine AL (AC (A2 (A4 (A0 (yb rfl (ya rfl (B9 rfl rfl rfl) (yb rfl (AT 3 [(75, .bool ((decide ((((DD m.fls y.id).length : Nat) : Int) = (1 : Int))) && (decide ((((BK m.fls y.id).length : Nat) : Int) = (1 : Int)))))] (fun w' => Mem w AB [As.blk g2 62 (El.cells y)] w') ?_ (fun k72 => ?_)))))))))
       ·intro w8 M
        exact yb rfl (A1 (A2 (AD (AH rfl rfl ⟨by rw [L6, if_neg (BA h24), if_neg (BA h33), if_neg (BA h41), if_neg (BA h50)], M.fr⟩))))
       refine AE (d := 72) (b := (decide ((((DD m.fls y.id).length : Nat) : Int) = (1 : Int)))) rfl (fun h72 => ?_) (fun h72 => ?_)
       ·exact yd rfl (yp rfl) (yd rfl (B9 rfl rfl rfl) (yb rfl (k72 _ _ M ⟨(by rw [h72]; rfl), trivial⟩)))
       ·exact yo rfl (yo rfl (yb rfl (k72 _ _ M ⟨(by rw [h72]; rfl), trivial⟩)))
    refine AQ (b := (decide ((y.kind.toNat : Int) = (5 : Int)))) rfl (fun h41 => ?_) (fun h41 => ?_)
    ·exact AL (k41 _ _ M ⟨rfl, rfl, rfl, rfl, rfl, (by rw [h41]; rfl), trivial⟩)
    ·exact A0 (ya rfl (B9 rfl rfl rfl) (yb rfl (A1 (k41 _ _ M ⟨rfl, rfl, rfl, rfl, rfl, (by rw [h41]; rfl), trivial⟩))))
 refine AQ (b := (decide ((y.kind.toNat : Int) = (1 : Int)))) rfl (fun h24 => ?_) (fun h24 => ?_)
 ·exact AL (k24 _ _ M ⟨rfl, rfl, rfl, rfl, rfl, (by rw [h24]; rfl), trivial⟩)
 ·exact A0 (ya rfl (B9 rfl rfl rfl) (yb rfl (A1 (k24 _ _ M ⟨rfl, rfl, rfl, rfl, rfl, (by rw [h24]; rfl), trivial⟩))))
theorem gQ (y : El) (gy : Nat) (z : Fl) (w : World) (hb : Blk w gy 62 y.cells) :
 Calls prog 90 #[.agg z.cells.toArray, pg gy] w fun e w' => e = .returned (.bool (decide (z.id = y.dflt))) ∧ Fr0 w w' := by
 refine AK (vs := [_, _]) func90 rfl ntmps90 rfl ?_
 have M := CK w
 refine A4 (A0 (BD M (A9 rfl) rfl rfl 65 rfl rfl (Fl.cells z) rfl fun g2 w1 hg2 M => yb rfl (A1 (A2 (A4 (A0 (yb rfl (yl rfl rfl (M.cell 0 rfl rfl) (yb rfl (yl rfl rfl (Blk.c (hb.fr0 M.fr) 4 rfl) (ya rfl (DG rfl rfl rfl) (yb rfl (A1 ?_)))))))))))))
 exact A2 (AD (AH rfl rfl ⟨rfl, M.fr⟩))
def JT (m : Md) (y : El) : Bool := (if (!decide ((y.kind.toNat : Int) = (5 : Int))) = true then true else (if (decide ((((BK m.fls y.id).length : Nat) : Int) = (1 : Int))) = true then (decide (y.dflt = [])) else ((BK m.fls y.id).any (fun z => decide (z.id = y.dflt)))))
theorem mU (m : Md) (a : MdA) (ix : IxA) (gx gp : Nat) (y : El) (w : World) (oy : ElOk y) (ho : MdOk m) (hx : IxAt w m a ix gx) (hp : Blk w gp 87 [pg gx]) :
 Calls prog 89 #[.agg y.cells.toArray, pg gp] w fun e w' => e = .returned (.bool (JT m y)) ∧ Fr0 w w' := by
 have oy3 := oy.ref
 have oy4 := oy.key
 have oy5 := oy.id
 have oy6 := oy.nm
 have oy7 := oy.inn
 have oy8 := oy.att
 have hOl := DM m.fls y.id
 have hnf := ho.nfls
 refine AK (vs := [_, _]) func89 rfl ntmps89 rfl ?_
 have M := CK w
 refine A4 (A0 (BD M (A9 rfl) rfl rfl 62 rfl rfl (El.cells y) rfl fun g2 w1 hg2 M => yb rfl (A1 (A2 (A4 (GV DT (by kernel_rfl) ?_))))))
 have M := M.drew
 refine sd rfl rfl (Blk.c (hp.fr0 M.fr) 0 rfl) (sb rfl (sb rfl (sd rfl rfl (Blk.c ((hx.fr0 M.fr).blk) 7 rfl) (sb rfl (sd rfl rfl (M.cell 0 rfl rfl) (sa rfl (C2 rfl rfl rfl underlying137 underlying9 zr_sl_api_Flow ((hx.fr0 M.fr).O) (hx.getO _)) (sb rfl (IP (A2 (A4 (AV (A4 (A0 (yb rfl (yl rfl rfl (M.cell 0 rfl rfl) ?_)))))))))))))))
 refine ya rfl (CX rfl rfl rfl) (yb rfl (A1 (A2 (AQ (b := (!decide ((y.kind.toNat : Int) = (5 : Int)))) rfl (fun h12 => ?_) (fun h12 => ?_)))))
 ·have h12p := (odf (C1 h12))
  exact A4 (A0 (yb rfl (A1 (A2 (AD (AJ (AA (AH rfl rfl ⟨by rw [JT, if_pos h12], M.fr⟩))))))))
 ·have h12p := (odt (C3 h12))
  refine A4 (A0 (yb rfl (ya rfl (CY rfl rfl (sl rfl)) (ya rfl (B9 rfl rfl rfl) (yb rfl (A1 (A2 (AQ (b := (decide ((((BK m.fls y.id).length : Nat) : Int) = (1 : Int)))) rfl (fun h16 => ?_) (fun h16 => ?_)))))))))
  ·have h16p := (odt h16)
   exact A4 (A0 (yb rfl (yl rfl rfl (M.cell 0 rfl rfl) (ya rfl (DG rfl rfl rfl) (yb rfl (A1 (A2 (AD (AJ (AA (AH rfl rfl ⟨by rw [JT, if_neg (BA h12), if_pos h16], M.fr⟩)))))))))))
  ·have h16p := (odf h16)
   exact AL (AC (A2 (A4 (A0 (yb rfl (ya rfl (CT (us := []) (vs := [pg g2]) rfl rfl rfl) (cp M 25 rfl (AF rfl rfl call84) (bP _ _ (BK m.fls y.id) (by have := EY m.fls; have := DM m.fls; have := ho.nfls; have := ho.nels; have := ho.nvars; first | omega | exact Nat.le_trans (EY _ _) (by omega) | exact Nat.le_trans (DM _ _) (by omega)) 90 [pg g2] (fun z => decide (z.id = y.dflt)) _ (GE call90 (fun z hz w9 hf9 => gQ y _ z w9 ((M.blk 0 rfl).fr0 hf9))) ((hx.fr0 M.fr).rdO _)) fun w2 M => yb rfl (A1 (A2 (AD (AH rfl rfl ⟨by rw [JT, if_neg (BA h12), if_neg (BA h16)], M.fr⟩)))))))))))
def MY (y : El) (z : Bd) : Bool := ((decide (z.name = (y).key)) && (decide ((z.v.kind.toNat : Int) = (3 : Int))))
theorem YU (y : El) (gy : Nat) (z : Bd) (w : World) (hb : Blk w gy 62 y.cells) :
 Calls prog 99 #[.agg z.cells.toArray, pg gy] w fun e w' => e = .returned (.bool (MY y z)) ∧ Fr0 w w' := by
 refine AK (vs := [_, _]) func99 rfl ntmps99 rfl ?_
 have M := CK w
 refine A4 (A0 (BD M (A9 rfl) rfl rfl 95 rfl rfl (Bd.cells z) rfl fun g2 w1 hg2 M => yb rfl (A1 (A2 (A4 (A0 (yb rfl (yl rfl rfl (M.cell 0 rfl rfl) (yb rfl (yl rfl rfl (Blk.c (hb.fr0 M.fr) 8 rfl) (ya rfl (DG rfl rfl rfl) (yb rfl (AT 5 [(3, .bool false), (14, .bool ((decide (z.name = (y).key)) && (decide ((z.v.kind.toNat : Int) = (3 : Int)))))] (fun w' => Mem w AB [As.blk g2 95 (Bd.cells z)] w') ?_ (fun k9 => ?_))))))))))))))
 ·intro w2 M
  exact yb rfl (A1 (A2 (AD (AH rfl rfl ⟨by rw [MY], M.fr⟩))))
 refine AE (d := 9) (b := (decide (z.name = (y).key))) rfl (fun h9 => ?_) (fun h9 => ?_)
 ·exact yd rfl (yp rfl) (yd rfl (yp rfl) (ym rfl rfl (M.cell 0 rfl rfl) (yd rfl (B9 rfl rfl rfl) (yb rfl (k9 _ _ M ⟨rfl, (by rw [h9]; rfl), trivial⟩)))))
 ·iterate 4 refine yo rfl ?_
  exact yb rfl (k9 _ _ M ⟨rfl, (by rw [h9]; rfl), trivial⟩)
def RF (m : Md) (y : El) : Bool := ((!decide ((y.ev.toNat : Int) = (2 : Int))) || (m.vars.any (MY y)))
theorem eM (m : Md) (a : MdA) (ix : IxA) (gx gp : Nat) (y : El) (w : World) (oy : ElOk y) (ho : MdOk m) (hx : IxAt w m a ix gx) (hp : Blk w gp 87 [pg gx]) :
 Calls prog 97 #[.agg y.cells.toArray, pg gp] w fun e w' => e = .returned (.bool (RF m y)) ∧ Fr0 w w' := by
 have oy3 := oy.ref
 have oy4 := oy.key
 have oy5 := oy.id
 have oy6 := oy.nm
 have oy7 := oy.inn
 have oy8 := oy.att
 refine AK (vs := [_, _]) func97 rfl ntmps97 rfl ?_
 have M := CK w
 refine A4 (A0 (BD M (A9 rfl) rfl rfl 62 rfl rfl (El.cells y) rfl fun g2 w1 hg2 M => yb rfl (A1 (A2 (A4 (A0 (yb rfl (yl rfl rfl (M.cell 0 rfl rfl) (ya rfl (CX rfl rfl rfl) (yb rfl (AT 8 [(3, .bool false), (15, .bool ((!decide ((y.ev.toNat : Int) = (2 : Int))) || (m.vars.any (MY y))))] (fun w' => Mem w AB [As.blk g2 62 (El.cells y)] w') ?_ (fun k7 => ?_))))))))))))
 ·intro w2 M
  exact yb rfl (A1 (A2 (AD (AH rfl rfl ⟨by rw [RF], M.fr⟩))))
 refine AE (d := 7) (b := (!decide ((y.ev.toNat : Int) = (2 : Int)))) rfl (fun h7 => ?_) (fun h7 => ?_)
 ·iterate 7 refine yo rfl ?_
  exact yb rfl (k7 _ _ M ⟨rfl, (by rw [h7]; rfl), trivial⟩)
 ·refine ym rfl rfl (Blk.c (hp.fr0 M.fr) 0 rfl) (yd rfl (yp rfl) (yd rfl (yp rfl) (yd rfl (yp rfl) (ym rfl rfl (Blk.c ((hx.fr0 M.fr).blk) 2 rfl) (yd rfl (CT (us := []) (vs := [pg g2]) rfl rfl rfl) (CC (some 14) (B7 rfl rfl rfl) rfl rfl (AF rfl rfl call98) (p7 _ _ m.vars (by have := EY m.fls; have := DM m.fls; have := ho.nfls; have := ho.nels; have := ho.nvars; first | omega | exact Nat.le_trans (EY _ _) (by omega) | exact Nat.le_trans (DM _ _) (by omega)) 99 [pg g2] (MY y) _ (GE call99 (fun z hz w9 hf9 => YU y _ z w9 ((M.blk 0 rfl).fr0 hf9))) (M.rd hx.md.vars)) ?_))))))
  rintro _ w3 ⟨rfl, hfw3⟩
  refine ⟨_, rfl, ?_⟩
  have M := M.step hfw3
  exact yb rfl (k7 _ _ M ⟨rfl, (by rw [h7]; rfl), trivial⟩)
def OK (m : Md) (k : List UInt8) : Bool := (((decide ((((AS m.els k).getD zeroEl).kind.toNat : Int) = (5 : Int))) || (decide ((((AS m.els k).getD zeroEl).kind.toNat : Int) = (6 : Int)))) || (decide ((((AS m.els k).getD zeroEl).kind.toNat : Int) = (10 : Int))))
theorem W2 (m : Md) (a : MdA) (ix : IxA) (gx gp : Nat) (k : List UInt8) (w : World) (_ho : MdOk m) (hx : IxAt w m a ix gx) (hp : Blk w gp 87 [pg gx]) :
 Calls prog 100 #[str k, pg gp] w fun e w' => e = .returned (.bool (OK m k)) ∧ Fr0 w w' := by
 refine AK (vs := [_, _]) func100 rfl ntmps100 rfl ?_
 have M := CK w
 refine A4 (A0 (yb rfl (A1 (A2 (A4 (A0 (yl rfl rfl (Blk.c (hp.fr0 M.fr) 0 rfl) (yb rfl (yb rfl (yl rfl rfl (Blk.c ((hx.fr0 M.fr).blk) 5 rfl) (yb rfl (ya rfl (C2 rfl rfl rfl underlying55 underlying9 AY ((hx.fr0 M.fr).E) (hx.getE _)) (ya rfl (PS (b := ((AS m.els k).getD zeroEl)) rfl rfl) (yb rfl (A1 ?_)))))))))))))))
 refine A2 (A4 (A0 (yb rfl (ya rfl (B9 rfl rfl rfl) (yb rfl (AT 3 [(3, .bool false), (4, .int .u8 (((AS m.els k).getD zeroEl).kind.toNat : Int)), (17, .bool ((decide ((((AS m.els k).getD zeroEl).kind.toNat : Int) = (5 : Int))) || (decide ((((AS m.els k).getD zeroEl).kind.toNat : Int) = (6 : Int)))))] (fun w' => Mem w AB [] w') ?_ (fun k14 => ?_)))))))
 ·intro w1 M
  refine yb rfl (AT 3 [(3, .bool false), (21, .bool (((decide ((((AS m.els k).getD zeroEl).kind.toNat : Int) = (5 : Int))) || (decide ((((AS m.els k).getD zeroEl).kind.toNat : Int) = (6 : Int)))) || (decide ((((AS m.els k).getD zeroEl).kind.toNat : Int) = (10 : Int)))))] (fun w' => Mem w AB [] w') ?_ (fun k18 => ?_))
  ·intro w2 M
   exact yb rfl (A1 (A2 (AD (AH rfl rfl ⟨by rw [OK], M.fr⟩))))
  refine AE (d := 18) (b := ((decide ((((AS m.els k).getD zeroEl).kind.toNat : Int) = (5 : Int))) || (decide ((((AS m.els k).getD zeroEl).kind.toNat : Int) = (6 : Int))))) rfl (fun h18 => ?_) (fun h18 => ?_)
  ·exact yo rfl (yo rfl (yb rfl (k18 _ _ M ⟨rfl, (by rw [h18]; rfl), trivial⟩)))
  ·exact yd rfl (yp rfl) (yd rfl (B9 rfl rfl rfl) (yb rfl (k18 _ _ M ⟨rfl, (by rw [h18]; rfl), trivial⟩)))
 refine AE (d := 14) (b := (decide ((((AS m.els k).getD zeroEl).kind.toNat : Int) = (5 : Int)))) rfl (fun h14 => ?_) (fun h14 => ?_)
 ·exact yo rfl (yo rfl (yb rfl (k14 _ _ M ⟨rfl, rfl, (by rw [h14]; rfl), trivial⟩)))
 ·exact yd rfl (yp rfl) (yd rfl (B9 rfl rfl rfl) (yb rfl (k14 _ _ M ⟨rfl, rfl, (by rw [h14]; rfl), trivial⟩)))
end Go.Proofs.YtadgfojhjnkliaaGreatDoor
