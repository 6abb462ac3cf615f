/- Lemmas that the last text rests on. Condition: each says its own. -/
import Derived.Test.YtdaihdknnlphkaaGreatDoorZRu1
set_option maxHeartbeats 16000000
set_option maxRecDepth 100000
namespace Go.Proofs.YtdaihdknnlphkaaGreatDoor
open Go.RowKit
open Tryz
def NM (els : List El) : Nat → List UInt8 → Bool
 | 0, s => decide (s = [])
 | n + 1, s => if s = [] then true else decide ((((AO els s).getD zeroEl).kind.toNat : Int) = 10) && NM els n ((AO els s).getD zeroEl).inn
theorem gG (els : List El) {d : Nat} {s : List UInt8} (h : ¬ s = []) (hd : d < 4) (hk : (((AO els s).getD zeroEl).kind.toNat : Int) = 10) : NM els (4 - d) s = NM els (4 - (d + 1)) ((AO els s).getD zeroEl).inn := by
 rw [show 4 - d = (4 - (d + 1)) + 1 by omega, NM, if_neg h, decide_eq_true hk]; rfl
theorem vA (els : List El) {d : Nat} {s : List UInt8} (h : ¬ s = []) (hk : ¬ (((AO els s).getD zeroEl).kind.toNat : Int) = 10 ∨ (d : Int) = 4) : NM els (4 - d) s = false := by
 rcases hk with hk | hk
 ·cases 4 - d with
  | zero => exact decide_eq_false h
  | succ n => rw [NM, if_neg h, decide_eq_false hk]; rfl
 ·rw [show 4 - d = 0 by omega]; exact decide_eq_false h
theorem vB (els : List El) {n : Nat} {s : List UInt8} (h : s = []) : NM els n s = true := by
 subst h; cases n <;> simp [NM]
theorem tV (A : Option Addr) (c : Nat) (l : List El) (hl : l.length ≤ 4611686018427387904) (f : FuncId) (cs : List Value) (p : El → Bool) (w : World) (hP : PredJ prog f cs (fun x : El => .agg x.cells.toArray) l (fun _ => p) AD (fun _ _ => True) w) (hR : Rd w A (l.length * 11) (AS El.cells l)) :
 Calls prog 83 #[.slice A l.length c, .func (.func f) #[] cs.toArray] w fun e w' => e = .returned (.bool (l.any p)) ∧ Fr0 w w' :=
 (oY El.cells El.len A c l hl f cs (fun _ => p) AD (fun _ _ => True) w hP (fun _ hf => hR.fr0 hf) trivial).mono fun _ _ ⟨h1, _, h2⟩ => ⟨by rw [h1, KI], h2⟩
theorem IC (A : Option Addr) (c : Nat) (l : List El) (hl : l.length ≤ 4611686018427387904) (f : FuncId) (cs : List Value) (p : El → Bool) (w : World) (hP : PredJ prog f cs (fun x : El => .agg x.cells.toArray) l (fun _ => p) AD (fun _ _ => True) w) (hR : Rd w A (l.length * 11) (AS El.cells l)) :
 Calls prog 63 #[.slice A l.length c, .func (.func 64) #[] #[], .func (.func f) #[] cs.toArray] w fun e w' => e = .returned (.tuple #[str ((ffN (fun _ => p) 0 l).elim [] (fun x => x.id)), .bool (ffN (fun _ => p) 0 l).isSome]) ∧ Fr0 w w' :=
 (YZ A c l hl f cs (fun _ => p) AD (fun _ _ => True) w hP (fun _ hf => hR.fr0 hf) trivial).mono fun _ _ ⟨h1, _, h2⟩ => ⟨h1, h2⟩
theorem fL (A : Option Addr) (c : Nat) (l : List Fl) (hl : l.length ≤ 4611686018427387904) (f : FuncId) (cs : List Value) (p : Fl → Bool) (w : World) (hP : PredJ prog f cs (fun x : Fl => .agg x.cells.toArray) l (fun _ => p) AD (fun _ _ => True) w) (hR : Rd w A (l.length * 4) (AS Fl.cells l)) :
 Calls prog 73 #[.slice A l.length c, .func (.func f) #[] cs.toArray] w fun e w' => e = .returned (.bool (l.any p)) ∧ Fr0 w w' :=
 (oX Fl.cells Fl.len A c l hl f cs (fun _ => p) AD (fun _ _ => True) w hP (fun _ hf => hR.fr0 hf) trivial).mono fun _ _ ⟨h1, _, h2⟩ => ⟨by rw [h1, KI], h2⟩
theorem V4 (A : Option Addr) (c : Nat) (l : List Fl) (hl : l.length ≤ 4611686018427387904) (f : FuncId) (cs : List Value) (p : Fl → Bool) (w : World) (hP : PredJ prog f cs (fun x : Fl => .agg x.cells.toArray) l (fun _ => p) AD (fun _ _ => True) w) (hR : Rd w A (l.length * 4) (AS Fl.cells l)) :
 Calls prog 66 #[.slice A l.length c, .func (.func 67) #[] #[], .func (.func f) #[] cs.toArray] w fun e w' => e = .returned (.tuple #[str ((ffN (fun _ => p) 0 l).elim [] (fun x => x.id)), .bool (ffN (fun _ => p) 0 l).isSome]) ∧ Fr0 w w' :=
 (YY A c l hl f cs (fun _ => p) AD (fun _ _ => True) w hP (fun _ hf => hR.fr0 hf) trivial).mono fun _ _ ⟨h1, _, h2⟩ => ⟨h1, h2⟩
theorem tW (A : Option Addr) (c : Nat) (l : List Bd) (hl : l.length ≤ 4611686018427387904) (f : FuncId) (cs : List Value) (p : Bd → Bool) (w : World) (hP : PredJ prog f cs (fun x : Bd => .agg x.cells.toArray) l (fun _ => p) AD (fun _ _ => True) w) (hR : Rd w A (l.length * 5) (AS Bd.cells l)) :
 Calls prog 88 #[.slice A l.length c, .func (.func f) #[] cs.toArray] w fun e w' => e = .returned (.bool (l.any p)) ∧ Fr0 w w' :=
 (oZ Bd.cells Bd.len A c l hl f cs (fun _ => p) AD (fun _ _ => True) w hP (fun _ hf => hR.fr0 hf) trivial).mono fun _ _ ⟨h1, _, h2⟩ => ⟨by rw [h1, KI], h2⟩
theorem PM (a2 : Int) : prog.built 39 [(2, .int .u8 a2)] = some #[str [], str [], .int .u8 a2, str [], str [], str [], .int .u8 0, str [], str [], .int .i64 0, .int .i64 0] := by kernel_rfl
theorem MD (a2 : Int) (a10 : Int) : prog.built 39 [(2, .int .u8 a2), (10, .int .i64 a10)] = some #[str [], str [], .int .u8 a2, str [], str [], str [], .int .u8 0, str [], str [], .int .i64 0, .int .i64 a10] := by kernel_rfl
theorem N9 (a2 : Int) (a4 : List UInt8) : prog.built 39 [(2, .int .u8 a2), (4, str a4)] = some #[str [], str [], .int .u8 a2, str [], str a4, str [], .int .u8 0, str [], str [], .int .i64 0, .int .i64 0] := by kernel_rfl
theorem sz_string : (prog.info? 9).map (·.size) = some 1 := by kernel_rfl
theorem zr_sl_api_Flow : (prog.info? 24).map (·.zero) = some (some (.slice none 0 0)) := by kernel_rfl
def MY (l : List UInt8) : Bool := ((decide (((l.length : Nat) : Int) ≤ (1024 : Int))) && (utf l))
theorem cX (l : List UInt8) (w : World) (hl : (l.length : Int) < 4611686018427387904) (hT : Laid w utfL) :
 Calls prog 57 #[str l] w fun e w' => e = .returned (.bool (MY l)) ∧ Fr0 w w' := by
 refine AJ (vs := [_]) func57 rfl ntmps57 rfl ?_
 have M := CN w
 refine A9 (A0 (yb rfl (A4 (A5 (A9 (A0 (yb rfl (ya rfl (E3 rfl rfl underlying9) (ya rfl (K5 rfl rfl rfl) (yb rfl (AX 3 [(2, .bool false), (9, .bool ((decide (((l.length : Nat) : Int) ≤ (1024 : Int))) && (utf l)))] (fun w' => Mem w AD [] w') ?_ (fun k6 => ?_))))))))))))
 ·intro w1 M
  exact yb rfl (A4 (A5 (AF (AK rfl rfl ⟨by rw [MY], M.fr⟩))))
 refine AM (d := 6) (b := (decide (((l.length : Nat) : Int) ≤ (1024 : Int)))) rfl (fun h6 => ?_) (fun h6 => ?_)
 ·refine yd rfl (yp rfl) (CF (some 8) (AW rfl rfl rfl) rfl rfl (AE rfl rfl call102) (K8 _ _ (by omega) (hT.fr M.fr)) ?_)
  rintro _ w2 ⟨rfl, hfw2⟩
  refine ⟨_, rfl, ?_⟩
  have M := M.step hfw2
  exact yb rfl (k6 _ _ M ⟨rfl, (by rw [h6]; rfl), trivial⟩)
 ·exact yo rfl (yo rfl (yb rfl (k6 _ _ M ⟨rfl, (by rw [h6]; rfl), trivial⟩)))
def GY (y : El) : Bool := (if (decide ((y.ev.toNat : Int) = (1 : Int))) = true then ((((decide ((1 : Int) ≤ y.ticks)) && (decide (y.ticks ≤ (1048576 : Int)))) && (decide (y.ref = []))) && (decide (y.key = []))) else (if (decide ((y.ev.toNat : Int) = (2 : Int))) = true then (((decide (y.ticks = (0 : Int))) && (BL y.ref)) && (BL y.key)) else (if (decide ((y.ev.toNat : Int) = (3 : Int))) = true then (((decide (y.ticks = (0 : Int))) && (BL y.ref)) && (decide (y.key = []))) else false)))
theorem oK (y : El) (w : World) (oy : ElOk y) :
 Calls prog 112 #[.agg y.cells.toArray] w fun e w' => e = .returned (.bool (GY y)) ∧ Fr0 w w' := by
 have oy3 := oy.ref
 have oy4 := oy.key
 have oy5 := oy.id
 have oy6 := oy.nm
 have oy7 := oy.inn
 have oy8 := oy.att
 refine AJ (vs := [_]) func112 rfl ntmps112 rfl ?_
 have M := CN w
 refine A9 (A0 (B4 M (AA rfl) rfl rfl 39 rfl rfl (El.cells y) rfl fun g1 w1 hg1 M => yb rfl (A4 (A5 (A9 (A9 (A0 (yb rfl (yl rfl rfl (M.cell 0 rfl rfl) (A4 (A5 (AV (A9 ?_)))))))))))))
 refine A0 (ya rfl (BB rfl rfl rfl) (yb rfl (A4 (A5 (AT (b := (decide ((y.ev.toNat : Int) = (1 : Int)))) rfl (fun h5 => ?_) (fun h5 => ?_))))))
 ·have h5p := (odt h5)
  refine A9 (A0 (yb rfl (yl rfl rfl (M.cell 0 rfl rfl) (ya rfl (FG rfl rfl rfl) (yb rfl (AX 4 [(1, pg g1), (2, .bool false), (14, .bool ((decide ((1 : Int) ≤ y.ticks)) && (decide (y.ticks ≤ (1048576 : Int)))))] (fun w' => Mem w AD [As.blk g1 39 (El.cells y)] w') ?_ (fun k10 => ?_)))))))
  ·intro w2 M
   refine yb rfl (AX 4 [(1, pg g1), (2, .bool false), (19, .bool (((decide ((1 : Int) ≤ y.ticks)) && (decide (y.ticks ≤ (1048576 : Int)))) && (decide (y.ref = []))))] (fun w' => Mem w AD [As.blk g1 39 (El.cells y)] w') ?_ (fun k15 => ?_))
   ·intro w3 M
    refine yb rfl (AX 4 [(2, .bool false), (24, .bool ((((decide ((1 : Int) ≤ y.ticks)) && (decide (y.ticks ≤ (1048576 : Int)))) && (decide (y.ref = []))) && (decide (y.key = []))))] (fun w' => Mem w AD [As.blk g1 39 (El.cells y)] w') ?_ (fun k20 => ?_))
    ·intro w4 M
     exact yb rfl (A4 (A5 (AF (AL (AB (AK rfl rfl ⟨by rw [GY, if_pos h5], M.fr⟩))))))
    refine AM (d := 20) (b := (((decide ((1 : Int) ≤ y.ticks)) && (decide (y.ticks ≤ (1048576 : Int)))) && (decide (y.ref = [])))) rfl (fun h20 => ?_) (fun h20 => ?_)
    ·exact yd rfl (yp rfl) (ym rfl rfl (M.cell 0 rfl rfl) (yd rfl (DE rfl rfl rfl) (yb rfl (k20 _ _ M ⟨rfl, (by rw [h20]; rfl), trivial⟩))))
    ·exact yo rfl (yo rfl (yo rfl (yb rfl (k20 _ _ M ⟨rfl, (by rw [h20]; rfl), trivial⟩))))
   refine AM (d := 15) (b := ((decide ((1 : Int) ≤ y.ticks)) && (decide (y.ticks ≤ (1048576 : Int))))) rfl (fun h15 => ?_) (fun h15 => ?_)
   ·exact yd rfl (yp rfl) (ym rfl rfl (M.cell 0 rfl rfl) (yd rfl (DE rfl rfl rfl) (yb rfl (k15 _ _ M ⟨rfl, rfl, (by rw [h15]; rfl), trivial⟩))))
   ·exact yo rfl (yo rfl (yo rfl (yb rfl (k15 _ _ M ⟨rfl, rfl, (by rw [h15]; rfl), trivial⟩))))
  refine AM (d := 10) (b := (decide ((1 : Int) ≤ y.ticks))) rfl (fun h10 => ?_) (fun h10 => ?_)
  ·exact yd rfl (yp rfl) (ym rfl rfl (M.cell 0 rfl rfl) (yd rfl (K5 rfl rfl rfl) (yb rfl (k10 _ _ M ⟨rfl, rfl, (by rw [h10]; rfl), trivial⟩))))
  ·exact yo rfl (yo rfl (yo rfl (yb rfl (k10 _ _ M ⟨rfl, rfl, (by rw [h10]; rfl), trivial⟩))))
 ·have h5p := (odf h5)
  refine A9 (A0 (ya rfl (BB rfl rfl rfl) (yb rfl (A4 (A5 (AT (b := (decide ((y.ev.toNat : Int) = (2 : Int)))) rfl (fun h25 => ?_) (fun h25 => ?_)))))))
  ·have h25p := (odt h25)
   refine A9 (A0 (yb rfl (yl rfl rfl (M.cell 0 rfl rfl) (ya rfl (BB rfl rfl rfl) (yb rfl (AX 4 [(1, pg g1), (2, .bool false), (34, .bool ((decide (y.ticks = (0 : Int))) && (BL y.ref)))] (fun w' => Mem w AD [As.blk g1 39 (El.cells y)] w') ?_ (fun k30 => ?_)))))))
   ·intro w5 M
    refine yb rfl (AX 4 [(2, .bool false), (39, .bool (((decide (y.ticks = (0 : Int))) && (BL y.ref)) && (BL y.key)))] (fun w' => Mem w AD [As.blk g1 39 (El.cells y)] w') ?_ (fun k35 => ?_))
    ·intro w6 M
     exact yb rfl (A4 (A5 (AF (AL (AB (AK rfl rfl ⟨by rw [GY, if_neg (BE h5), if_pos h25], M.fr⟩))))))
    refine AM (d := 35) (b := ((decide (y.ticks = (0 : Int))) && (BL y.ref))) rfl (fun h35 => ?_) (fun h35 => ?_)
    ·refine yd rfl (yp rfl) (ym rfl rfl (M.cell 0 rfl rfl) (CF (some 38) (AW rfl rfl rfl) rfl rfl (AE rfl rfl call56) (DQ _ _ (by omega)) ?_))
     rintro _ w7 ⟨rfl, hfw7⟩
     refine ⟨_, rfl, ?_⟩
     have M := M.step hfw7
     exact yb rfl (k35 _ _ M ⟨rfl, (by rw [h35]; rfl), trivial⟩)
    ·exact yo rfl (yo rfl (yo rfl (yb rfl (k35 _ _ M ⟨rfl, (by rw [h35]; rfl), trivial⟩))))
   refine AM (d := 30) (b := (decide (y.ticks = (0 : Int)))) rfl (fun h30 => ?_) (fun h30 => ?_)
   ·refine yd rfl (yp rfl) (ym rfl rfl (M.cell 0 rfl rfl) (CF (some 33) (AW rfl rfl rfl) rfl rfl (AE rfl rfl call56) (DQ _ _ (by omega)) ?_))
    rintro _ w8 ⟨rfl, hfw8⟩
    refine ⟨_, rfl, ?_⟩
    have M := M.step hfw8
    exact yb rfl (k30 _ _ M ⟨rfl, rfl, (by rw [h30]; rfl), trivial⟩)
   ·exact yo rfl (yo rfl (yo rfl (yb rfl (k30 _ _ M ⟨rfl, rfl, (by rw [h30]; rfl), trivial⟩))))
  ·have h25p := (odf h25)
   refine A9 (A0 (ya rfl (BB rfl rfl rfl) (yb rfl (A4 (A5 (AT (b := (decide ((y.ev.toNat : Int) = (3 : Int)))) rfl (fun h40 => ?_) (fun h40 => ?_)))))))
   ·have h40p := (odt h40)
    refine A9 (A0 (yb rfl (yl rfl rfl (M.cell 0 rfl rfl) (ya rfl (BB rfl rfl rfl) (yb rfl (AX 4 [(1, pg g1), (2, .bool false), (49, .bool ((decide (y.ticks = (0 : Int))) && (BL y.ref)))] (fun w' => Mem w AD [As.blk g1 39 (El.cells y)] w') ?_ (fun k45 => ?_)))))))
    ·intro w9 M
     refine yb rfl (AX 4 [(2, .bool false), (54, .bool (((decide (y.ticks = (0 : Int))) && (BL y.ref)) && (decide (y.key = []))))] (fun w' => Mem w AD [As.blk g1 39 (El.cells y)] w') ?_ (fun k50 => ?_))
     ·intro w10 M
      exact yb rfl (A4 (A5 (AF (AL (AB (AK rfl rfl ⟨by rw [GY, if_neg (BE h5), if_neg (BE h25), if_pos h40], M.fr⟩))))))
     refine AM (d := 50) (b := ((decide (y.ticks = (0 : Int))) && (BL y.ref))) rfl (fun h50 => ?_) (fun h50 => ?_)
     ·exact yd rfl (yp rfl) (ym rfl rfl (M.cell 0 rfl rfl) (yd rfl (DE rfl rfl rfl) (yb rfl (k50 _ _ M ⟨rfl, (by rw [h50]; rfl), trivial⟩))))
     ·exact yo rfl (yo rfl (yo rfl (yb rfl (k50 _ _ M ⟨rfl, (by rw [h50]; rfl), trivial⟩))))
    refine AM (d := 45) (b := (decide (y.ticks = (0 : Int)))) rfl (fun h45 => ?_) (fun h45 => ?_)
    ·refine yd rfl (yp rfl) (ym rfl rfl (M.cell 0 rfl rfl) (CF (some 48) (AW rfl rfl rfl) rfl rfl (AE rfl rfl call56) (DQ _ _ (by omega)) ?_))
     rintro _ w11 ⟨rfl, hfw11⟩
     refine ⟨_, rfl, ?_⟩
     have M := M.step hfw11
     exact yb rfl (k45 _ _ M ⟨rfl, rfl, (by rw [h45]; rfl), trivial⟩)
    ·exact yo rfl (yo rfl (yo rfl (yb rfl (k45 _ _ M ⟨rfl, rfl, (by rw [h45]; rfl), trivial⟩))))
   ·have h40p := (odf h40)
    exact AN (AC (A5 (A9 (A0 (yb rfl (A4 (A5 (AF (AK rfl rfl ⟨by rw [GY, if_neg (BE h5), if_neg (BE h25), if_neg (BE h40)], M.fr⟩)))))))))
def SP (y : El) : Bool := (if ((decide ((y.kind.toNat : Int) < (1 : Int))) || (decide ((10 : Int) < (y.kind.toNat : Int)))) = true then false else (if (decide ((y.kind.toNat : Int) = (4 : Int))) = true then (((decide ((1 : Int) ≤ y.tries)) && (decide (y.tries ≤ (100 : Int)))) && (El.same (⟨[], [], y.kind, [], y.dflt, y.att, y.ev, y.ref, y.key, y.ticks, y.tries⟩ : El) (⟨[], [], y.kind, [], [], [], 0, [], [], 0, y.tries⟩ : El))) else (if (decide ((y.kind.toNat : Int) = (5 : Int))) = true then (El.same (⟨[], [], y.kind, [], y.dflt, y.att, y.ev, y.ref, y.key, y.ticks, y.tries⟩ : El) (⟨[], [], y.kind, [], y.dflt, [], 0, [], [], 0, 0⟩ : El)) else (if ((decide ((y.kind.toNat : Int) = (8 : Int))) || (decide ((y.kind.toNat : Int) = (9 : Int)))) = true then ((((GY y) && (decide (y.tries = (0 : Int)))) && (decide (y.dflt = []))) && ((decide ((y.kind.toNat : Int) = (9 : Int))) || (decide (y.att = [])))) else (El.same (⟨[], [], y.kind, [], y.dflt, y.att, y.ev, y.ref, y.key, y.ticks, y.tries⟩ : El) (⟨[], [], y.kind, [], [], [], 0, [], [], 0, 0⟩ : El))))))
theorem wL (y : El) (w : World) (oy : ElOk y) :
 Calls prog 70 #[.agg y.cells.toArray] w fun e w' => e = .returned (.bool (SP y)) ∧ Fr0 w w' := by
 have oy3 := oy.ref
 have oy4 := oy.key
 have oy5 := oy.id
 have oy6 := oy.nm
 have oy7 := oy.inn
 have oy8 := oy.att
 refine AJ (vs := [_]) func70 rfl ntmps70 rfl ?_
 have M := CN w
 refine A9 (A0 (B4 M (AA rfl) rfl rfl 39 rfl rfl (El.cells y) rfl fun g1 w1 hg1 M => yb rfl (A4 (A5 (A9 (A0 (ya rfl (AU (xs := El.cells y) rfl rfl (M.rdBlk 0 rfl rfl) underlying39 rfl AP) (BI M (AA rfl) rfl rfl 39 rfl [str [], str [], .int .u8 0, str [], str [], str [], .int .u8 0, str [], str [], .int .i64 0, .int .i64 0] B7 rfl fun g3 w2 hg3 M => B8 (cs' := (El.cells y)) M 0 (AA rfl) rfl rfl rfl rfl rfl AP rfl (AI rfl) (AY rfl) rfl fun w3 M => A4 (A5 ?_)))))))))
 refine A9 (A0 (yb rfl (BP (cs' := [str [], str y.nm, .int .u8 (y.kind.toNat : Int), str y.inn, str y.dflt, str y.att, .int .u8 (y.ev.toNat : Int), str y.ref, str y.key, .int .i64 y.ticks, .int .i64 y.tries]) M 0 (AA rfl) rfl rfl rfl rfl rfl rfl rfl sz_string (AZ rfl) rfl fun w4 M => yb rfl (BP (cs' := [str [], str [], .int .u8 (y.kind.toNat : Int), str y.inn, str y.dflt, str y.att, .int .u8 (y.ev.toNat : Int), str y.ref, str y.key, .int .i64 y.ticks, .int .i64 y.tries]) M 0 (AA rfl) rfl rfl rfl rfl rfl rfl rfl sz_string (AZ rfl) rfl fun w5 M => yb rfl (BP (cs' := [str [], str [], .int .u8 (y.kind.toNat : Int), str [], str y.dflt, str y.att, .int .u8 (y.ev.toNat : Int), str y.ref, str y.key, .int .i64 y.ticks, .int .i64 y.tries]) M 0 (AA rfl) rfl rfl rfl rfl rfl rfl rfl sz_string (AZ rfl) rfl fun w6 M => A4 (A5 (A9 (AV (A9 ?_)))))))))
 refine A0 (yb rfl (yl rfl rfl (M.cell 1 rfl rfl) (ya rfl (CB rfl rfl rfl) (yb rfl (AX 4 [(1, pg g1), (3, pg g3), (16, .bool ((decide ((y.kind.toNat : Int) < (1 : Int))) || (decide ((10 : Int) < (y.kind.toNat : Int)))))] (fun w' => Mem w AD [As.blk g3 39 [str [], str [], .int .u8 (y.kind.toNat : Int), str [], str y.dflt, str y.att, .int .u8 (y.ev.toNat : Int), str y.ref, str y.key, .int .i64 y.ticks, .int .i64 y.tries], As.blk g1 39 (El.cells y)] w') ?_ (fun k12 => ?_))))))
 ·intro w7 M
  refine yb rfl (A4 (A5 (AT (b := ((decide ((y.kind.toNat : Int) < (1 : Int))) || (decide ((10 : Int) < (y.kind.toNat : Int))))) rfl (fun h8 => ?_) (fun h8 => ?_))))
  ·have h8p := ((EL h8).imp (fun z => (odt z)) (fun z => (odt z)))
   exact A9 (A0 (yb rfl (A4 (A5 (AF (AL (AB (AK rfl rfl ⟨by rw [SP, if_pos h8], M.fr⟩))))))))
  ·have h8p := (And.intro (odf (CE h8).1) (odf (CE h8).2))
   refine A9 (A0 (yb rfl (yl rfl rfl (M.cell 1 rfl rfl) (ya rfl (BB rfl rfl rfl) (yb rfl (A4 (A5 (AT (b := (decide ((y.kind.toNat : Int) = (4 : Int)))) rfl (fun h17 => ?_) (fun h17 => ?_)))))))))
   ·have h17p := (odt h17)
    refine A9 (A0 (yb rfl (yl rfl rfl (M.cell 1 rfl rfl) (ya rfl (FG rfl rfl rfl) (yb rfl (AX 4 [(1, pg g1), (3, pg g3), (28, .bool ((decide ((1 : Int) ≤ y.tries)) && (decide (y.tries ≤ (100 : Int)))))] (fun w' => Mem w AD [As.blk g3 39 [str [], str [], .int .u8 (y.kind.toNat : Int), str [], str y.dflt, str y.att, .int .u8 (y.ev.toNat : Int), str y.ref, str y.key, .int .i64 y.ticks, .int .i64 y.tries], As.blk g1 39 (El.cells y)] w') ?_ (fun k24 => ?_)))))))
    ·intro w8 M
     refine yb rfl (AX 8 [(1, pg g1), (3, pg g3), (37, .bool (((decide ((1 : Int) ≤ y.tries)) && (decide (y.tries ≤ (100 : Int)))) && (El.same (⟨[], [], y.kind, [], y.dflt, y.att, y.ev, y.ref, y.key, y.ticks, y.tries⟩ : El) (⟨[], [], y.kind, [], [], [], 0, [], [], 0, y.tries⟩ : El))))] (fun w' => Mem w AD [As.blk g3 39 [str [], str [], .int .u8 (y.kind.toNat : Int), str [], str y.dflt, str y.att, .int .u8 (y.ev.toNat : Int), str y.ref, str y.key, .int .i64 y.ticks, .int .i64 y.tries], As.blk g1 39 (El.cells y)] w') ?_ (fun k29 => ?_))
     ·intro w9 M
      exact yb rfl (A4 (A5 (AF (AL (AB (AK rfl rfl ⟨by rw [SP, if_neg (BE h8), if_pos h17], M.fr⟩))))))
     refine AM (d := 29) (b := ((decide ((1 : Int) ≤ y.tries)) && (decide (y.tries ≤ (100 : Int))))) rfl (fun h29 => ?_) (fun h29 => ?_)
     ·exact yd rfl (AU (xs := [str [], str [], .int .u8 (y.kind.toNat : Int), str [], str y.dflt, str y.att, .int .u8 (y.ev.toNat : Int), str y.ref, str y.key, .int .i64 y.ticks, .int .i64 y.tries]) rfl rfl (M.rdBlk 0 rfl rfl) underlying39 rfl AP) (yd rfl (yp rfl) (ym rfl rfl (M.cell 1 rfl rfl) (yd rfl (yp rfl) (ym rfl rfl (M.cell 1 rfl rfl) (yd rfl (BU (parts := [(2, _), (10, _)]) rfl rfl (MD _ _)) (yd rfl (ZX (a := (⟨[], [], y.kind, [], y.dflt, y.att, y.ev, y.ref, y.key, y.ticks, y.tries⟩ : El)) (b := (⟨[], [], y.kind, [], [], [], 0, [], [], 0, y.tries⟩ : El)) rfl rfl rfl) (yb rfl (k29 _ _ M ⟨rfl, rfl, (by rw [h29]; rfl), trivial⟩))))))))
     ·iterate 7 refine yo rfl ?_
      exact yb rfl (k29 _ _ M ⟨rfl, rfl, (by rw [h29]; rfl), trivial⟩)
    refine AM (d := 24) (b := (decide ((1 : Int) ≤ y.tries))) rfl (fun h24 => ?_) (fun h24 => ?_)
    ·exact yd rfl (yp rfl) (ym rfl rfl (M.cell 1 rfl rfl) (yd rfl (K5 rfl rfl rfl) (yb rfl (k24 _ _ M ⟨rfl, rfl, (by rw [h24]; rfl), trivial⟩))))
    ·exact yo rfl (yo rfl (yo rfl (yb rfl (k24 _ _ M ⟨rfl, rfl, (by rw [h24]; rfl), trivial⟩))))
   ·have h17p := (odf h17)
    refine A9 (A0 (yb rfl (yl rfl rfl (M.cell 1 rfl rfl) (ya rfl (BB rfl rfl rfl) (yb rfl (A4 (A5 (AT (b := (decide ((y.kind.toNat : Int) = (5 : Int)))) rfl (fun h38 => ?_) (fun h38 => ?_)))))))))
    ·have h38p := (odt h38)
     refine A9 (A0 (ya rfl (AU (xs := [str [], str [], .int .u8 (y.kind.toNat : Int), str [], str y.dflt, str y.att, .int .u8 (y.ev.toNat : Int), str y.ref, str y.key, .int .i64 y.ticks, .int .i64 y.tries]) rfl rfl (M.rdBlk 0 rfl rfl) underlying39 rfl AP) (yb rfl (yl rfl rfl (M.cell 1 rfl rfl) (yb rfl (yl rfl rfl (M.cell 1 rfl rfl) (ya rfl (BU (parts := [(2, _), (4, _)]) rfl rfl (N9 _ _)) (ya rfl (ZX (a := (⟨[], [], y.kind, [], y.dflt, y.att, y.ev, y.ref, y.key, y.ticks, y.tries⟩ : El)) (b := (⟨[], [], y.kind, [], y.dflt, [], 0, [], [], 0, 0⟩ : El)) rfl rfl rfl) (yb rfl (A4 (A5 (AF (AL (AB (AK rfl rfl ?_)))))))))))))))
     exact ⟨by rw [SP, if_neg (BE h8), if_neg (BE h17), if_pos h38], M.fr⟩
    ·have h38p := (odf h38)
     refine A9 (A0 (yb rfl (yl rfl rfl (M.cell 1 rfl rfl) (ya rfl (BB rfl rfl rfl) (yb rfl (AX 4 [(1, pg g1), (3, pg g3), (57, .bool ((decide ((y.kind.toNat : Int) = (8 : Int))) || (decide ((y.kind.toNat : Int) = (9 : Int)))))] (fun w' => Mem w AD [As.blk g3 39 [str [], str [], .int .u8 (y.kind.toNat : Int), str [], str y.dflt, str y.att, .int .u8 (y.ev.toNat : Int), str y.ref, str y.key, .int .i64 y.ticks, .int .i64 y.tries], As.blk g1 39 (El.cells y)] w') ?_ (fun k53 => ?_)))))))
     ·intro w10 M
      refine yb rfl (A4 (A5 (AT (b := ((decide ((y.kind.toNat : Int) = (8 : Int))) || (decide ((y.kind.toNat : Int) = (9 : Int))))) rfl (fun h49 => ?_) (fun h49 => ?_))))
      ·have h49p := ((EL h49).imp (fun z => (odt z)) (fun z => (odt z)))
       refine A9 (A0 (ya rfl (AU (xs := El.cells y) rfl rfl (M.rdBlk 1 rfl rfl) underlying39 rfl AP) (cp M 59 rfl (AE rfl rfl call112) (oK _ _ (by assumption)) fun w11 M => yb rfl (AX 4 [(1, pg g1), (3, pg g3), (64, .bool ((GY y) && (decide (y.tries = (0 : Int)))))] (fun w' => Mem w AD [As.blk g3 39 [str [], str [], .int .u8 (y.kind.toNat : Int), str [], str y.dflt, str y.att, .int .u8 (y.ev.toNat : Int), str y.ref, str y.key, .int .i64 y.ticks, .int .i64 y.tries], As.blk g1 39 (El.cells y)] w') ?_ (fun k60 => ?_)))))
       ·intro w12 M
        refine yb rfl (AX 4 [(1, pg g1), (3, pg g3), (69, .bool (((GY y) && (decide (y.tries = (0 : Int)))) && (decide (y.dflt = []))))] (fun w' => Mem w AD [As.blk g3 39 [str [], str [], .int .u8 (y.kind.toNat : Int), str [], str y.dflt, str y.att, .int .u8 (y.ev.toNat : Int), str y.ref, str y.key, .int .i64 y.ticks, .int .i64 y.tries], As.blk g1 39 (El.cells y)] w') ?_ (fun k65 => ?_))
        ·intro w13 M
         refine yb rfl (AX 9 [(1, pg g1), (3, pg g3), (79, .bool ((((GY y) && (decide (y.tries = (0 : Int)))) && (decide (y.dflt = []))) && ((decide ((y.kind.toNat : Int) = (9 : Int))) || (decide (y.att = [])))))] (fun w' => Mem w AD [As.blk g3 39 [str [], str [], .int .u8 (y.kind.toNat : Int), str [], str y.dflt, str y.att, .int .u8 (y.ev.toNat : Int), str y.ref, str y.key, .int .i64 y.ticks, .int .i64 y.tries], As.blk g1 39 (El.cells y)] w') ?_ (fun k70 => ?_))
         ·intro w14 M
          exact yb rfl (A4 (A5 (AF (AL (AB (AK rfl rfl ⟨by rw [SP, if_neg (BE h8), if_neg (BE h17), if_neg (BE h38), if_pos h49], M.fr⟩))))))
         refine AM (d := 70) (b := (((GY y) && (decide (y.tries = (0 : Int)))) && (decide (y.dflt = [])))) rfl (fun h70 => ?_) (fun h70 => ?_)
         ·refine yd rfl (yp rfl) (ym rfl rfl (M.cell 1 rfl rfl) (yd rfl (BB rfl rfl rfl) (yd rfl (yp rfl) (AX 4 [(1, pg g1), (3, pg g3), (70, .bool true), (78, .bool ((decide ((y.kind.toNat : Int) = (9 : Int))) || (decide (y.att = []))))] (fun w' => Mem w AD [As.blk g3 39 [str [], str [], .int .u8 (y.kind.toNat : Int), str [], str y.dflt, str y.att, .int .u8 (y.ev.toNat : Int), str y.ref, str y.key, .int .i64 y.ticks, .int .i64 y.tries], As.blk g1 39 (El.cells y)] w') ?_ (fun k74 => ?_)))))
          ·intro w15 M
           exact yb rfl (k70 _ _ M ⟨rfl, rfl, (by rw [h70]; rfl), trivial⟩)
          refine AM (d := 74) (b := (decide ((y.kind.toNat : Int) = (9 : Int)))) rfl (fun h74 => ?_) (fun h74 => ?_)
          ·exact yo rfl (yo rfl (yo rfl (yd rfl (yp rfl) (k74 _ _ M ⟨rfl, rfl, rfl, (by rw [h74]; rfl), trivial⟩))))
          ·exact yd rfl (yp rfl) (ym rfl rfl (M.cell 1 rfl rfl) (yd rfl (DE rfl rfl rfl) (yd rfl (yp rfl) (k74 _ _ M ⟨rfl, rfl, rfl, (by rw [h74]; rfl), trivial⟩))))
         ·iterate 4 refine yo rfl ?_
          exact CO rfl rfl rfl rfl rfl (CO rfl rfl rfl rfl rfl (CO rfl rfl rfl rfl rfl (yo rfl (yb rfl (k70 _ _ M ⟨rfl, rfl, (by rw [h70]; rfl), trivial⟩)))))
        refine AM (d := 65) (b := ((GY y) && (decide (y.tries = (0 : Int))))) rfl (fun h65 => ?_) (fun h65 => ?_)
        ·exact yd rfl (yp rfl) (ym rfl rfl (M.cell 1 rfl rfl) (yd rfl (DE rfl rfl rfl) (yb rfl (k65 _ _ M ⟨rfl, rfl, (by rw [h65]; rfl), trivial⟩))))
        ·exact yo rfl (yo rfl (yo rfl (yb rfl (k65 _ _ M ⟨rfl, rfl, (by rw [h65]; rfl), trivial⟩))))
       refine AM (d := 60) (b := (GY y)) rfl (fun h60 => ?_) (fun h60 => ?_)
       ·exact yd rfl (yp rfl) (ym rfl rfl (M.cell 1 rfl rfl) (yd rfl (BB rfl rfl rfl) (yb rfl (k60 _ _ M ⟨rfl, rfl, (by rw [h60]; rfl), trivial⟩))))
       ·exact yo rfl (yo rfl (yo rfl (yb rfl (k60 _ _ M ⟨rfl, rfl, (by rw [h60]; rfl), trivial⟩))))
      ·have h49p := (And.intro (odf (CE h49).1) (odf (CE h49).2))
       exact AN (AC (A5 (A9 (A0 (ya rfl (AU (xs := [str [], str [], .int .u8 (y.kind.toNat : Int), str [], str y.dflt, str y.att, .int .u8 (y.ev.toNat : Int), str y.ref, str y.key, .int .i64 y.ticks, .int .i64 y.tries]) rfl rfl (M.rdBlk 0 rfl rfl) underlying39 rfl AP) (yb rfl (yl rfl rfl (M.cell 1 rfl rfl) (ya rfl (BU (parts := [(2, _)]) rfl rfl (PM _)) (ya rfl (ZX (a := (⟨[], [], y.kind, [], y.dflt, y.att, y.ev, y.ref, y.key, y.ticks, y.tries⟩ : El)) (b := (⟨[], [], y.kind, [], [], [], 0, [], [], 0, 0⟩ : El)) rfl rfl rfl) (yb rfl (A4 (A5 (AF (AK rfl rfl ⟨by rw [SP, if_neg (BE h8), if_neg (BE h17), if_neg (BE h38), if_neg (BE h49)], M.fr⟩))))))))))))))
     refine AM (d := 53) (b := (decide ((y.kind.toNat : Int) = (8 : Int)))) rfl (fun h53 => ?_) (fun h53 => ?_)
     ·exact yo rfl (yo rfl (yo rfl (yb rfl (k53 _ _ M ⟨rfl, rfl, (by rw [h53]; rfl), trivial⟩))))
     ·exact yd rfl (yp rfl) (ym rfl rfl (M.cell 1 rfl rfl) (yd rfl (BB rfl rfl rfl) (yb rfl (k53 _ _ M ⟨rfl, rfl, (by rw [h53]; rfl), trivial⟩))))
 refine AM (d := 12) (b := (decide ((y.kind.toNat : Int) < (1 : Int)))) rfl (fun h12 => ?_) (fun h12 => ?_)
 ·exact yo rfl (yo rfl (yo rfl (yb rfl (k12 _ _ M ⟨rfl, rfl, (by rw [h12]; rfl), trivial⟩))))
 ·exact yd rfl (yp rfl) (ym rfl rfl (M.cell 1 rfl rfl) (yd rfl (FF rfl rfl rfl) (yb rfl (k12 _ _ M ⟨rfl, rfl, (by rw [h12]; rfl), trivial⟩))))
def R9 (m : Md) (y : El) : Bool := NM m.els 4 y.inn && SP y
theorem qI (m : Md) (a : MdA) (ix : IxA) (gx gp : Nat) (y : El) (w : World) (oy : ElOk y) (_ho : MdOk m) (hx : IxAt w m a ix gx) (hp : Blk w gp 67 [pg gx]) :
 Calls prog 69 #[.agg y.cells.toArray, pg gp] w fun e w' => e = .returned (.bool (R9 m y)) ∧ Fr0 w w' := by
 have oy3 := oy.ref
 have oy4 := oy.key
 have oy5 := oy.id
 have oy6 := oy.nm
 have oy7 := oy.inn
 have oy8 := oy.att
 refine AJ (vs := [_, _]) func69 rfl ntmps69 rfl ?_
 have M := CN w
 refine A9 (A0 (B4 M (AA rfl) rfl rfl 39 rfl rfl (El.cells y) rfl fun g2 w1 hg2 M => yb rfl (A4 (A5 (A9 (A0 (yb rfl (yl rfl rfl (M.cell 0 rfl rfl) (yb rfl (A4 (A5 (A9 (A9 ?_)))))))))))))
 refine A0 (yb rfl (A4 (A5 (AV (CL (fun e wr mz => ∃ (d : Nat) (q : List UInt8), e = [(1, pg gp), (2, pg g2), (4, str q), (5, .int .i64 ((d : Nat) : Int))] ∧ Mem w AD [As.blk g2 39 (El.cells y)] wr ∧ (d ≤ 4) ∧ (NM m.els 4 y.inn = NM m.els (4 - d) q) ∧ mz = 4 - d) ⟨0, y.inn, rfl, M, Nat.zero_le _, rfl, rfl⟩ ⟨rfl, rfl, rfl, rfl, trivial⟩ ?_)))))
 rintro _ w2 _ ⟨d, q, rfl, M, hd, hs, rfl⟩
 refine A9 (A9 (A0 (yb rfl (ya rfl (GR rfl rfl rfl) (A4 (A5 (AT (b := (!decide (q = []))) rfl (fun h10 => ?_) (fun h10 => ?_))))))))
 ·have h10p := (odf (C4 h10))
  refine AN (A5 (A9 (AV (A9 (A0 (yl rfl rfl (Blk.c (hp.fr0 M.fr) 0 rfl) (yb rfl (yb rfl (yl rfl rfl (Blk.c ((hx.fr0 M.fr).blk) 5 rfl) (yb rfl (ya rfl (CK rfl rfl rfl underlying87 underlying9 B7 ((hx.fr0 M.fr).E) (hx.getE _)) (BI M (AA rfl) rfl rfl 39 rfl [str [], str [], .int .u8 0, str [], str [], str [], .int .u8 0, str [], str [], .int .i64 0, .int .i64 0] B7 rfl fun g6 w3 hg6 M => B8 (cs' := (El.cells ((AO m.els q).getD zeroEl))) M 0 (AA rfl) rfl rfl rfl rfl rfl AP rfl (AI rfl) (AY rfl) rfl fun w4 M => ?_))))))))))))
  refine A4 (A5 (A9 (A9 (A0 (yb rfl (yl rfl rfl (M.cell 0 rfl rfl) (ya rfl (CX rfl rfl rfl) (yb rfl (AX 3 [(1, pg gp), (2, pg g2), (4, str q), (5, .int .i64 ((d : Nat) : Int)), (6, pg g6), (25, .bool ((!decide ((((AO m.els q).getD zeroEl).kind.toNat : Int) = (10 : Int))) || (decide (((d : Nat) : Int) = (4 : Int)))))] (fun w' => Mem w AD [As.blk g6 39 (El.cells ((AO m.els q).getD zeroEl)), As.blk g2 39 (El.cells y)] w') ?_ (fun k22 => ?_))))))))))
  ·intro w5 M
   refine A4 (A5 (AT (b := ((!decide ((((AO m.els q).getD zeroEl).kind.toNat : Int) = (10 : Int))) || (decide (((d : Nat) : Int) = (4 : Int))))) rfl (fun h25 => ?_) (fun h25 => ?_)))
   ·have h25p := ((EL h25).imp (fun z => (odf (C4 z))) (fun z => (odt z)))
    exact A9 (A0 (yb rfl (A4 (A5 (AF (AB (AL (AB (AB (AL (AB (AK rfl rfl ⟨by rw [R9, hs, vA m.els h10p h25p]; rfl, M.fr⟩))))))))))))
   ·have h25p := (And.intro (odt (C5 (CE h25).1)) (odf (CE h25).2))
    refine AN (A5 (A0 (yb rfl (yl rfl rfl (M.cell 0 rfl rfl) (yb rfl (A4 (AC (A5 (A0 (yb rfl (ya rfl (CI rfl rfl rfl (by omega)) (yb rfl (A4 ?_)))))))))))))
    have h10q : ¬ q = [] := h10p
    have hd4 : ¬ (d : Int) = 4 := h25p.2
    have hdlt : d < 4 := by omega
    refine BF [(1, pg gp), (2, pg g2), (4, str (((AO m.els q).getD zeroEl).inn)), (5, .int .i64 (((d + 1) : Nat) : Int))] (4 - (d + 1)) ⟨d + 1, ((AO m.els q).getD zeroEl).inn, rfl, (M.pk [1]), ?_, ?_, rfl⟩ (by first | omega | (simp <;> omega)) ⟨rfl, rfl, rfl, rfl, trivial⟩
    ·omega
    ·rw [hs, gG m.els h10q hdlt h25p.1]
  refine AM (d := 22) (b := (!decide ((((AO m.els q).getD zeroEl).kind.toNat : Int) = (10 : Int)))) rfl (fun h22 => ?_) (fun h22 => ?_)
  ·exact yo rfl (yo rfl (yb rfl (k22 _ _ M ⟨rfl, rfl, rfl, rfl, rfl, (by rw [h22]; rfl), trivial⟩)))
  ·exact yd rfl (yp rfl) (yd rfl (BB rfl rfl rfl) (yb rfl (k22 _ _ M ⟨rfl, rfl, rfl, rfl, rfl, (by rw [h22]; rfl), trivial⟩)))
 ·have h10p := (odt (C5 h10))
  exact C2 (AG (AG (B5 (A5 (A9 (A0 (ya rfl (AU (xs := El.cells y) rfl rfl (M.rdBlk 0 rfl rfl) underlying39 rfl AP) (cp M 29 rfl (AE rfl rfl call70) (wL _ _ (by assumption)) fun w6 M => yb rfl (A4 (A5 (AF (AK rfl rfl ⟨by rw [R9, hs, vB m.els h10p]; rfl, M.fr⟩))))))))))))
def KV (m : Md) (y : Fl) : Bool := (((((AO m.els y.frm).isSome && (AO m.els y.tg).isSome) && (decide (((AO m.els y.frm).getD zeroEl).inn = ((AO m.els y.tg).getD zeroEl).inn))) && (!decide ((((AO m.els y.tg).getD zeroEl).kind.toNat : Int) = (9 : Int)))) && (!decide (y.frm = y.tg)))
theorem gB (m : Md) (a : MdA) (ix : IxA) (gx gp : Nat) (y : Fl) (w : World) (_ho : MdOk m) (hx : IxAt w m a ix gx) (hp : Blk w gp 67 [pg gx]) :
 Calls prog 71 #[.agg y.cells.toArray, pg gp] w fun e w' => e = .returned (.bool (KV m y)) ∧ Fr0 w w' := by
 refine AJ (vs := [_, _]) func71 rfl ntmps71 rfl ?_
 have M := CN w
 refine A9 (A0 (B4 M (AA rfl) rfl rfl 41 rfl rfl (Fl.cells y) rfl fun g2 w1 hg2 M => yb rfl (A4 (A5 (A9 (DB 13 (fun w' => Mem w AD [As.blk g2 41 (Fl.cells y)] w') DV ?_))))))
 have M := M.drew
 refine ol 0 13 rfl rfl rfl M (fun _ M => (Blk.c (hp.fr0 M.fr) 0 rfl)) (oc 1 13 rfl rfl M (oc 2 13 rfl rfl M (ol 3 13 rfl rfl rfl M (fun _ M => (Blk.c ((hx.fr0 M.fr).blk) 5 rfl)) (oc 4 13 rfl rfl M (ol 5 13 rfl rfl rfl M (fun _ M => (M.cell 0 rfl rfl)) (oa 6 13 rfl rfl M (fun _ M => DH rfl rfl rfl underlying87 underlying9 B7 ((hx.fr0 M.fr).E) (hx.getE _) (hx.isE _)) (oc 7 13 rfl rfl M (oc 8 13 rfl rfl M (oc 9 13 rfl rfl M (BG 10 (some 4) (by kernel_rfl) rfl (AA rfl) rfl rfl (fun ρ hρ => C6 39 rfl _ [str [], str [], .int .u8 0, str [], str [], str [], .int .u8 0, str [], str [], .int .i64 0, .int .i64 0] B7 rfl) ?_))))))))))
 rintro _ w2 ⟨g4, rfl, hg4, hq4, hb4, hfw2⟩
 refine ⟨fun _ => M.step hfw2, ?_⟩
 have M := M.push hfw2 _ hb4 (DX hg4 hq4)
 replace M : Mem w AD (As.blk g4 39 [str [], str [], .int .u8 0, str [], str [], str [], .int .u8 0, str [], str [], .int .i64 0, .int .i64 0] :: _) w2 := M
 refine BG 11 none (by kernel_rfl) rfl (AA rfl) rfl rfl (fun ρ hρ => BW 39 _ _ rfl g4 0 39 _ (El.cells ((AO m.els y.frm).getD zeroEl)) (hρ _ _ rfl) (hρ _ _ rfl) (M.blk 0 rfl) AP (AI rfl) (AY rfl)) ?_
 rintro _ w3 ⟨rfl, hbw3, hfw3⟩
 replace M : Mem w AD (List.set _ 0 (As.blk g4 39 (El.cells ((AO m.els y.frm).getD zeroEl)))) w3 := M.putB 0 rfl hbw3 hfw3
 refine ⟨fun _ => M.drop 1, oc 12 13 rfl rfl (M.drop 1) (BN (by kernel_rfl) (A5 (A9 (DB 13 (fun w' => Mem w AD [As.blk g4 39 (El.cells ((AO m.els y.frm).getD zeroEl)), As.blk g2 41 (Fl.cells y)] w') DV ?_))))⟩
 have M := M.drew
 refine ol 0 13 rfl rfl rfl M (fun _ M => (Blk.c (hp.fr0 M.fr) 0 rfl)) (oc 1 13 rfl rfl M (oc 2 13 rfl rfl M (ol 3 13 rfl rfl rfl M (fun _ M => (Blk.c ((hx.fr0 M.fr).blk) 5 rfl)) (oc 4 13 rfl rfl M (ol 5 13 rfl rfl rfl M (fun _ M => (M.cell 1 rfl rfl)) (oa 6 13 rfl rfl M (fun _ M => DH rfl rfl rfl underlying87 underlying9 B7 ((hx.fr0 M.fr).E) (hx.getE _) (hx.isE _)) (oc 7 13 rfl rfl M (oc 8 13 rfl rfl M (oc 9 13 rfl rfl M (BG 10 (some 6) (by kernel_rfl) rfl (AA rfl) rfl rfl (fun ρ hρ => C6 39 rfl _ [str [], str [], .int .u8 0, str [], str [], str [], .int .u8 0, str [], str [], .int .i64 0, .int .i64 0] B7 rfl) ?_))))))))))
 rintro _ w4 ⟨g6, rfl, hg6, hq6, hb6, hfw4⟩
 refine ⟨fun _ => M.step hfw4, ?_⟩
 have M := M.push hfw4 _ hb6 (DX hg6 hq6)
 replace M : Mem w AD (As.blk g6 39 [str [], str [], .int .u8 0, str [], str [], str [], .int .u8 0, str [], str [], .int .i64 0, .int .i64 0] :: _) w4 := M
 refine BG 11 none (by kernel_rfl) rfl (AA rfl) rfl rfl (fun ρ hρ => BW 39 _ _ rfl g6 0 39 _ (El.cells ((AO m.els y.tg).getD zeroEl)) (hρ _ _ rfl) (hρ _ _ rfl) (M.blk 0 rfl) AP (AI rfl) (AY rfl)) ?_
 rintro _ w5 ⟨rfl, hbw5, hfw5⟩
 replace M : Mem w AD (List.set _ 0 (As.blk g6 39 (El.cells ((AO m.els y.tg).getD zeroEl)))) w5 := M.putB 0 rfl hbw5 hfw5
 refine ⟨fun _ => M.drop 1, oc 12 13 rfl rfl (M.drop 1) (BN (by kernel_rfl) (A5 (A9 (A0 (yb rfl (yb rfl (AX 2 [(2, pg g2), (3, .bool false), (4, pg g4), (6, pg g6), (31, .bool ((AO m.els y.frm).isSome && (AO m.els y.tg).isSome))] (fun w' => Mem w AD [As.blk g6 39 (El.cells ((AO m.els y.tg).getD zeroEl)), As.blk g4 39 (El.cells ((AO m.els y.frm).getD zeroEl)), As.blk g2 41 (Fl.cells y)] w') ?_ (fun k29 => ?_))))))))⟩
 ·intro w6 M
  refine yb rfl (AX 6 [(2, pg g2), (3, .bool false), (6, pg g6), (38, .bool (((AO m.els y.frm).isSome && (AO m.els y.tg).isSome) && (decide (((AO m.els y.frm).getD zeroEl).inn = ((AO m.els y.tg).getD zeroEl).inn))))] (fun w' => Mem w AD [As.blk g6 39 (El.cells ((AO m.els y.tg).getD zeroEl)), As.blk g4 39 (El.cells ((AO m.els y.frm).getD zeroEl)), As.blk g2 41 (Fl.cells y)] w') ?_ (fun k32 => ?_))
  ·intro w7 M
   refine yb rfl (AX 4 [(2, pg g2), (3, .bool false), (43, .bool ((((AO m.els y.frm).isSome && (AO m.els y.tg).isSome) && (decide (((AO m.els y.frm).getD zeroEl).inn = ((AO m.els y.tg).getD zeroEl).inn))) && (!decide ((((AO m.els y.tg).getD zeroEl).kind.toNat : Int) = (9 : Int)))))] (fun w' => Mem w AD [As.blk g6 39 (El.cells ((AO m.els y.tg).getD zeroEl)), As.blk g4 39 (El.cells ((AO m.els y.frm).getD zeroEl)), As.blk g2 41 (Fl.cells y)] w') ?_ (fun k39 => ?_))
   ·intro w8 M
    refine yb rfl (AX 6 [(3, .bool false), (50, .bool (((((AO m.els y.frm).isSome && (AO m.els y.tg).isSome) && (decide (((AO m.els y.frm).getD zeroEl).inn = ((AO m.els y.tg).getD zeroEl).inn))) && (!decide ((((AO m.els y.tg).getD zeroEl).kind.toNat : Int) = (9 : Int)))) && (!decide (y.frm = y.tg))))] (fun w' => Mem w AD [As.blk g6 39 (El.cells ((AO m.els y.tg).getD zeroEl)), As.blk g4 39 (El.cells ((AO m.els y.frm).getD zeroEl)), As.blk g2 41 (Fl.cells y)] w') ?_ (fun k44 => ?_))
    ·intro w9 M
     exact yb rfl (A4 (A5 (AF (AK rfl rfl ⟨by rw [KV], M.fr⟩))))
    refine AM (d := 44) (b := ((((AO m.els y.frm).isSome && (AO m.els y.tg).isSome) && (decide (((AO m.els y.frm).getD zeroEl).inn = ((AO m.els y.tg).getD zeroEl).inn))) && (!decide ((((AO m.els y.tg).getD zeroEl).kind.toNat : Int) = (9 : Int))))) rfl (fun h44 => ?_) (fun h44 => ?_)
    ·exact yd rfl (yp rfl) (ym rfl rfl (M.cell 2 rfl rfl) (yd rfl (yp rfl) (ym rfl rfl (M.cell 2 rfl rfl) (yd rfl (GR rfl rfl rfl) (yb rfl (k44 _ _ M ⟨rfl, (by rw [h44]; rfl), trivial⟩))))))
    ·iterate 5 refine yo rfl ?_
     exact yb rfl (k44 _ _ M ⟨rfl, (by rw [h44]; rfl), trivial⟩)
   refine AM (d := 39) (b := (((AO m.els y.frm).isSome && (AO m.els y.tg).isSome) && (decide (((AO m.els y.frm).getD zeroEl).inn = ((AO m.els y.tg).getD zeroEl).inn)))) rfl (fun h39 => ?_) (fun h39 => ?_)
   ·exact yd rfl (yp rfl) (ym rfl rfl (M.cell 0 rfl rfl) (yd rfl (CX rfl rfl rfl) (yb rfl (k39 _ _ M ⟨rfl, rfl, (by rw [h39]; rfl), trivial⟩))))
   ·exact yo rfl (yo rfl (yo rfl (yb rfl (k39 _ _ M ⟨rfl, rfl, (by rw [h39]; rfl), trivial⟩))))
  refine AM (d := 32) (b := ((AO m.els y.frm).isSome && (AO m.els y.tg).isSome)) rfl (fun h32 => ?_) (fun h32 => ?_)
  ·exact yd rfl (yp rfl) (ym rfl rfl (M.cell 1 rfl rfl) (yd rfl (yp rfl) (ym rfl rfl (M.cell 0 rfl rfl) (yd rfl (DE rfl rfl rfl) (yb rfl (k32 _ _ M ⟨rfl, rfl, rfl, (by rw [h32]; rfl), trivial⟩))))))
  ·iterate 5 refine yo rfl ?_
   exact yb rfl (k32 _ _ M ⟨rfl, rfl, rfl, (by rw [h32]; rfl), trivial⟩)
 refine AM (d := 29) (b := (AO m.els y.frm).isSome) rfl (fun h29 => ?_) (fun h29 => ?_)
 ·exact yd rfl (yp rfl) (yb rfl (k29 _ _ M ⟨rfl, rfl, rfl, rfl, (by rw [h29]; rfl), trivial⟩))
 ·exact yo rfl (yb rfl (k29 _ _ M ⟨rfl, rfl, rfl, rfl, (by rw [h29]; rfl), trivial⟩))
def N5 (m : Md) (y : Fl) : Bool := ((!decide ((((AO m.els y.tg).getD zeroEl).kind.toNat : Int) = (8 : Int))) || (!decide ((((D3 m.fls y.tg).length : Nat) : Int) = (1 : Int))))
theorem jC (m : Md) (a : MdA) (ix : IxA) (gx gp : Nat) (y : Fl) (w : World) (ho : MdOk m) (hx : IxAt w m a ix gx) (hp : Blk w gp 67 [pg gx]) :
 Calls prog 74 #[.agg y.cells.toArray, pg gp] w fun e w' => e = .returned (.bool (N5 m y)) ∧ Fr0 w w' := by
 have hIl := BS m.fls y.tg
 have hnf := ho.nfls
 refine AJ (vs := [_, _]) func74 rfl ntmps74 rfl ?_
 have M := CN w
 refine A9 (A0 (B4 M (AA rfl) rfl rfl 41 rfl rfl (Fl.cells y) rfl fun g2 w1 hg2 M => yb rfl (A4 (A5 (A9 (JN DV (by kernel_rfl) ?_))))))
 have M := M.drew
 refine sd rfl rfl (Blk.c (hp.fr0 M.fr) 0 rfl) (sb rfl (sb rfl (sd rfl rfl (Blk.c ((hx.fr0 M.fr).blk) 5 rfl) (sb rfl (sd rfl rfl (M.cell 0 rfl rfl) (sa rfl (CK rfl rfl rfl underlying87 underlying9 B7 ((hx.fr0 M.fr).E) (hx.getE _)) (sa rfl (XE (b := ((AO m.els y.tg).getD zeroEl)) rfl rfl) (sa rfl (CX rfl rfl rfl) (sb rfl (QM 10 [(3, .bool false), (23, .bool ((!decide ((((AO m.els y.tg).getD zeroEl).kind.toNat : Int) = (8 : Int))) || (!decide ((((D3 m.fls y.tg).length : Nat) : Int) = (1 : Int)))))] ?_ (fun k13 => ?_)))))))))))
 ·exact sb rfl (LQ (A5 (AF (AK rfl rfl ⟨by rw [N5], M.fr⟩))))
 refine I9 (d := 13) (b := (!decide ((((AO m.els y.tg).getD zeroEl).kind.toNat : Int) = (8 : Int)))) rfl (fun h13 => ?_) (fun h13 => ?_)
 ·iterate 9 refine K9 rfl rfl rfl rfl rfl rfl ?_
  exact sb rfl (k13 _ ⟨rfl, (by rw [h13]; rfl), trivial⟩)
 ·exact CZ (AW rfl rfl rfl) rfl rfl (C0 rfl rfl (sc rfl) (Blk.c (hp.fr0 M.fr) 0 rfl)) (CZ (AW rfl rfl rfl) rfl rfl (yp rfl) (CZ (AW rfl rfl rfl) rfl rfl (yp rfl) (CZ (AW rfl rfl rfl) rfl rfl (C0 rfl rfl (sc rfl) (Blk.c ((hx.fr0 M.fr).blk) 6 rfl)) (CZ (AW rfl rfl rfl) rfl rfl (yp rfl) (CZ (AW rfl rfl rfl) rfl rfl (C0 rfl rfl (sc rfl) (M.cell 0 rfl rfl)) (CZ (AW rfl rfl rfl) rfl rfl (CK rfl rfl rfl underlying88 underlying9 zr_sl_api_Flow ((hx.fr0 M.fr).I) (hx.getI _)) (CZ (AW rfl rfl rfl) rfl rfl (CS rfl rfl (sl rfl)) (CZ (AW rfl rfl rfl) rfl rfl (CX rfl rfl rfl) (sb rfl (k13 _ ⟨rfl, (by rw [h13]; rfl), trivial⟩))))))))))
def JX (m : Md) (y : El) : Bool := (if ((decide ((y.kind.toNat : Int) = (1 : Int))) || (decide ((y.kind.toNat : Int) = (9 : Int)))) = true then ((decide ((((D3 m.fls y.id).length : Nat) : Int) = (0 : Int))) && (decide ((((BJ m.fls y.id).length : Nat) : Int) = (1 : Int)))) else (if (decide ((y.kind.toNat : Int) = (2 : Int))) = true then ((decide ((((D3 m.fls y.id).length : Nat) : Int) = (1 : Int))) && (decide ((((BJ m.fls y.id).length : Nat) : Int) = (0 : Int)))) else (if ((decide ((y.kind.toNat : Int) = (5 : Int))) || (decide ((y.kind.toNat : Int) = (6 : Int)))) = true then ((decide ((1 : Int) ≤ (((D3 m.fls y.id).length : Nat) : Int))) && (decide ((1 : Int) ≤ (((BJ m.fls y.id).length : Nat) : Int)))) else (if (decide ((y.kind.toNat : Int) = (7 : Int))) = true then (if ((decide ((((D3 m.fls y.id).length : Nat) : Int) = (1 : Int))) && (decide ((2 : Int) ≤ (((BJ m.fls y.id).length : Nat) : Int)))) = true then (!((BJ m.fls y.id).any (N5 m))) else false) else ((decide ((((D3 m.fls y.id).length : Nat) : Int) = (1 : Int))) && (decide ((((BJ m.fls y.id).length : Nat) : Int) = (1 : Int))))))))
theorem jA (m : Md) (a : MdA) (ix : IxA) (gx gp : Nat) (y : El) (w : World) (oy : ElOk y) (ho : MdOk m) (hx : IxAt w m a ix gx) (hp : Blk w gp 67 [pg gx]) :
 Calls prog 72 #[.agg y.cells.toArray, pg gp] w fun e w' => e = .returned (.bool (JX m y)) ∧ Fr0 w w' := by
 have oy3 := oy.ref
 have oy4 := oy.key
 have oy5 := oy.id
 have oy6 := oy.nm
 have oy7 := oy.inn
 have oy8 := oy.att
 have hIl := BS m.fls y.id
 have hOl := AQ m.fls y.id
 have hnf := ho.nfls
 refine AJ (vs := [_, _]) func72 rfl ntmps72 rfl ?_
 have M := CN w
 refine A9 (A0 (B4 M (AA rfl) rfl rfl 39 rfl rfl (El.cells y) rfl fun g2 w1 hg2 M => yb rfl (A4 (A5 (A9 (JN DV (by kernel_rfl) ?_))))))
 have M := M.drew
 refine sd rfl rfl (Blk.c (hp.fr0 M.fr) 0 rfl) (sb rfl (sb rfl (sd rfl rfl (Blk.c ((hx.fr0 M.fr).blk) 6 rfl) (sb rfl (sd rfl rfl (M.cell 0 rfl rfl) (sa rfl (CK rfl rfl rfl underlying88 underlying9 zr_sl_api_Flow ((hx.fr0 M.fr).I) (hx.getI _)) (sa rfl (CS rfl rfl (sl rfl)) (sd rfl rfl (Blk.c (hp.fr0 M.fr) 0 rfl) (sb rfl (sb rfl (sd rfl rfl (Blk.c ((hx.fr0 M.fr).blk) 7 rfl) (sb rfl (sd rfl rfl (M.cell 0 rfl rfl) (sa rfl (CK rfl rfl rfl underlying88 underlying9 zr_sl_api_Flow ((hx.fr0 M.fr).O) (hx.getO _)) (sa rfl (CS rfl rfl (sl rfl)) ?_)))))))))))))))
 refine sb rfl (sb rfl (LQ (A5 (A9 (A9 (A0 (yb rfl (yl rfl rfl (M.cell 0 rfl rfl) (A4 (A5 (AV (A9 (A9 (A0 (ya rfl (BB rfl rfl rfl) ?_)))))))))))))))
 refine yb rfl (A4 (A5 (QN [(1, pg gp), (2, pg g2), (4, .int .i64 (((D3 m.fls y.id).length : Nat) : Int)), (5, .int .i64 (((BJ m.fls y.id).length : Nat) : Int)), (23, .int .u8 (y.kind.toNat : Int)), (24, .bool ((decide ((y.kind.toNat : Int) = (1 : Int))) || (decide ((y.kind.toNat : Int) = (9 : Int)))))] (fun w' => Mem w AD [As.blk g2 39 (El.cells y)] w') ?_ (fun k24 => ?_))))
 ·intro w2 M
  refine A5 (AT (b := ((decide ((y.kind.toNat : Int) = (1 : Int))) || (decide ((y.kind.toNat : Int) = (9 : Int))))) rfl (fun h24 => ?_) (fun h24 => ?_))
  ·have h24p := ((EL h24).imp (fun z => (odt z)) (fun z => (odt z)))
   refine A9 (A0 (yb rfl (ya rfl (BB rfl rfl rfl) (yb rfl (AX 3 [(4, .int .i64 (((D3 m.fls y.id).length : Nat) : Int)), (5, .int .i64 (((BJ m.fls y.id).length : Nat) : Int)), (32, .bool ((decide ((((D3 m.fls y.id).length : Nat) : Int) = (0 : Int))) && (decide ((((BJ m.fls y.id).length : Nat) : Int) = (1 : Int)))))] (fun w' => Mem w AD [As.blk g2 39 (El.cells y)] w') ?_ (fun k29 => ?_))))))
   ·intro w3 M
    exact yb rfl (A4 (A5 (AF (AL (AB (AK rfl rfl ⟨by rw [JX, if_pos h24], M.fr⟩))))))
   refine AM (d := 29) (b := (decide ((((D3 m.fls y.id).length : Nat) : Int) = (0 : Int)))) rfl (fun h29 => ?_) (fun h29 => ?_)
   ·exact yd rfl (yp rfl) (yd rfl (BB rfl rfl rfl) (yb rfl (k29 _ _ M ⟨rfl, rfl, (by rw [h29]; rfl), trivial⟩)))
   ·exact yo rfl (yo rfl (yb rfl (k29 _ _ M ⟨rfl, rfl, (by rw [h29]; rfl), trivial⟩)))
  ·have h24p := (And.intro (odf (CE h24).1) (odf (CE h24).2))
   refine A9 (A0 (ya rfl (BB rfl rfl rfl) (yb rfl (A4 (A5 (AT (b := (decide ((y.kind.toNat : Int) = (2 : Int)))) rfl (fun h33 => ?_) (fun h33 => ?_)))))))
   ·have h33p := (odt h33)
    refine A9 (A0 (yb rfl (ya rfl (BB rfl rfl rfl) (yb rfl (AX 3 [(4, .int .i64 (((D3 m.fls y.id).length : Nat) : Int)), (5, .int .i64 (((BJ m.fls y.id).length : Nat) : Int)), (40, .bool ((decide ((((D3 m.fls y.id).length : Nat) : Int) = (1 : Int))) && (decide ((((BJ m.fls y.id).length : Nat) : Int) = (0 : Int)))))] (fun w' => Mem w AD [As.blk g2 39 (El.cells y)] w') ?_ (fun k37 => ?_))))))
    ·intro w4 M
     exact yb rfl (A4 (A5 (AF (AL (AB (AK rfl rfl ⟨by rw [JX, if_neg (BE h24), if_pos h33], M.fr⟩))))))
    refine AM (d := 37) (b := (decide ((((D3 m.fls y.id).length : Nat) : Int) = (1 : Int)))) rfl (fun h37 => ?_) (fun h37 => ?_)
    ·exact yd rfl (yp rfl) (yd rfl (BB rfl rfl rfl) (yb rfl (k37 _ _ M ⟨rfl, rfl, (by rw [h37]; rfl), trivial⟩)))
    ·exact yo rfl (yo rfl (yb rfl (k37 _ _ M ⟨rfl, rfl, (by rw [h37]; rfl), trivial⟩)))
   ·have h33p := (odf h33)
    refine A9 (A9 (A0 (ya rfl (BB rfl rfl rfl) (yb rfl (A4 (A5 (QN [(1, pg gp), (2, pg g2), (4, .int .i64 (((D3 m.fls y.id).length : Nat) : Int)), (5, .int .i64 (((BJ m.fls y.id).length : Nat) : Int)), (23, .int .u8 (y.kind.toNat : Int)), (41, .bool ((decide ((y.kind.toNat : Int) = (5 : Int))) || (decide ((y.kind.toNat : Int) = (6 : Int)))))] (fun w' => Mem w AD [As.blk g2 39 (El.cells y)] w') ?_ (fun k41 => ?_))))))))
    ·intro w5 M
     refine A5 (AT (b := ((decide ((y.kind.toNat : Int) = (5 : Int))) || (decide ((y.kind.toNat : Int) = (6 : Int))))) rfl (fun h41 => ?_) (fun h41 => ?_))
     ·have h41p := ((EL h41).imp (fun z => (odt z)) (fun z => (odt z)))
      refine A9 (A0 (yb rfl (ya rfl (FG rfl rfl rfl) (yb rfl (AX 3 [(4, .int .i64 (((D3 m.fls y.id).length : Nat) : Int)), (5, .int .i64 (((BJ m.fls y.id).length : Nat) : Int)), (49, .bool ((decide ((1 : Int) ≤ (((D3 m.fls y.id).length : Nat) : Int))) && (decide ((1 : Int) ≤ (((BJ m.fls y.id).length : Nat) : Int)))))] (fun w' => Mem w AD [As.blk g2 39 (El.cells y)] w') ?_ (fun k46 => ?_))))))
      ·intro w6 M
       exact yb rfl (A4 (A5 (AF (AL (AB (AK rfl rfl ⟨by rw [JX, if_neg (BE h24), if_neg (BE h33), if_pos h41], M.fr⟩))))))
      refine AM (d := 46) (b := (decide ((1 : Int) ≤ (((D3 m.fls y.id).length : Nat) : Int)))) rfl (fun h46 => ?_) (fun h46 => ?_)
      ·exact yd rfl (yp rfl) (yd rfl (FG rfl rfl rfl) (yb rfl (k46 _ _ M ⟨rfl, rfl, (by rw [h46]; rfl), trivial⟩)))
      ·exact yo rfl (yo rfl (yb rfl (k46 _ _ M ⟨rfl, rfl, (by rw [h46]; rfl), trivial⟩)))
     ·have h41p := (And.intro (odf (CE h41).1) (odf (CE h41).2))
      refine A9 (A0 (ya rfl (BB rfl rfl rfl) (yb rfl (A4 (A5 (AT (b := (decide ((y.kind.toNat : Int) = (7 : Int)))) rfl (fun h50 => ?_) (fun h50 => ?_)))))))
      ·have h50p := (odt h50)
       refine A9 (GC 15 DV (by kernel_rfl) ?_)
       have M := M.drew
       refine sb rfl (sa rfl (BB rfl rfl rfl) (sb rfl (QM 3 [(1, pg gp), (2, pg g2), (4, .int .i64 (((D3 m.fls y.id).length : Nat) : Int)), (5, .int .i64 (((BJ m.fls y.id).length : Nat) : Int)), (57, .bool ((decide ((((D3 m.fls y.id).length : Nat) : Int) = (1 : Int))) && (decide ((2 : Int) ≤ (((BJ m.fls y.id).length : Nat) : Int)))))] ?_ (fun k54 => ?_))))
       ·refine sb rfl (I9 (d := 58) (b := ((decide ((((D3 m.fls y.id).length : Nat) : Int) = (1 : Int))) && (decide ((2 : Int) ≤ (((BJ m.fls y.id).length : Nat) : Int))))) rfl (fun h58 => ?_) (fun h58 => ?_))
        ·have h58p := (And.intro (odt (C9 h58).1) (odt (C9 h58).2))
         refine CZ (AW rfl rfl rfl) rfl rfl (C0 rfl rfl (sc rfl) (Blk.c (hp.fr0 M.fr) 0 rfl)) (CZ (AW rfl rfl rfl) rfl rfl (yp rfl) (CZ (AW rfl rfl rfl) rfl rfl (yp rfl) (CZ (AW rfl rfl rfl) rfl rfl (C0 rfl rfl (sc rfl) (Blk.c ((hx.fr0 M.fr).blk) 7 rfl)) (CZ (AW rfl rfl rfl) rfl rfl (yp rfl) (CZ (AW rfl rfl rfl) rfl rfl (C0 rfl rfl (sc rfl) (M.cell 0 rfl rfl)) (CZ (AW rfl rfl rfl) rfl rfl (CK rfl rfl rfl underlying88 underlying9 zr_sl_api_Flow ((hx.fr0 M.fr).O) (hx.getO _)) (CZ (AW rfl rfl rfl) rfl rfl (CC (us := []) (vs := [pg gp]) rfl rfl rfl) (E9 (CF (some 67) (AW rfl rfl rfl) rfl rfl (AE rfl rfl call73) (fL _ _ (BJ m.fls y.id) (by have := BS m.fls; have := AQ m.fls; have := ho.nfls; have := ho.nels; have := ho.nvars; first | omega | exact Nat.le_trans (BS _ _) (by omega) | exact Nat.le_trans (AQ _ _) (by omega)) 74 [pg gp] (N5 m) _ (GO call74 (fun z hz w9 hf9 => jC m a ix gx gp z w9 ho ((hx.fr0 M.fr).fr0 hf9) ((hp.fr0 M.fr).fr0 hf9))) ((hx.fr0 M.fr).rdO _)) ?_)))))))))
         rintro _ w7 ⟨rfl, hfw7⟩
         refine ⟨_, rfl, ?_⟩
         have M := M.step hfw7
         exact yd rfl (yp rfl) (yb rfl (yb rfl (A4 (A5 (AF (AL (AB (AK rfl rfl ⟨by rw [JX, if_neg (BE h24), if_neg (BE h33), if_neg (BE h41), if_pos h50, if_pos h58], M.fr⟩))))))))
        ·have h58p := ((EH h58).imp (fun z => (odf z)) (fun z => (odf z)))
         iterate 8 refine K9 rfl rfl rfl rfl rfl rfl ?_
         exact E9 (yo rfl (yo rfl (yb rfl (yb rfl (A4 (A5 (AF (AL (AB (AK rfl rfl ⟨by rw [JX, if_neg (BE h24), if_neg (BE h33), if_neg (BE h41), if_pos h50, if_neg (BE h58)], M.fr⟩))))))))))
       refine I9 (d := 54) (b := (decide ((((D3 m.fls y.id).length : Nat) : Int) = (1 : Int)))) rfl (fun h54 => ?_) (fun h54 => ?_)
       ·exact CZ (AW rfl rfl rfl) rfl rfl (yp rfl) (CZ (AW rfl rfl rfl) rfl rfl (FG rfl rfl rfl) (sb rfl (k54 _ ⟨rfl, rfl, rfl, rfl, (by rw [h54]; rfl), trivial⟩)))
       ·exact K9 rfl rfl rfl rfl rfl rfl (K9 rfl rfl rfl rfl rfl rfl (sb rfl (k54 _ ⟨rfl, rfl, rfl, rfl, (by rw [h54]; rfl), trivial⟩)))
      ·have h50p := (odf h50)
       refine AN (AC (A5 (A9 (A0 (yb rfl (ya rfl (BB rfl rfl rfl) (yb rfl (AX 3 [(75, .bool ((decide ((((D3 m.fls y.id).length : Nat) : Int) = (1 : Int))) && (decide ((((BJ m.fls y.id).length : Nat) : Int) = (1 : Int)))))] (fun w' => Mem w AD [As.blk g2 39 (El.cells y)] w') ?_ (fun k72 => ?_)))))))))
       ·intro w8 M
        exact yb rfl (A4 (A5 (AF (AK rfl rfl ⟨by rw [JX, if_neg (BE h24), if_neg (BE h33), if_neg (BE h41), if_neg (BE h50)], M.fr⟩))))
       refine AM (d := 72) (b := (decide ((((D3 m.fls y.id).length : Nat) : Int) = (1 : Int)))) rfl (fun h72 => ?_) (fun h72 => ?_)
       ·exact yd rfl (yp rfl) (yd rfl (BB rfl rfl rfl) (yb rfl (k72 _ _ M ⟨(by rw [h72]; rfl), trivial⟩)))
       ·exact yo rfl (yo rfl (yb rfl (k72 _ _ M ⟨(by rw [h72]; rfl), trivial⟩)))
    refine AT (b := (decide ((y.kind.toNat : Int) = (5 : Int)))) rfl (fun h41 => ?_) (fun h41 => ?_)
    ·exact AN (k41 _ _ M ⟨rfl, rfl, rfl, rfl, rfl, (by rw [h41]; rfl), trivial⟩)
    ·exact A0 (ya rfl (BB rfl rfl rfl) (yb rfl (A4 (k41 _ _ M ⟨rfl, rfl, rfl, rfl, rfl, (by rw [h41]; rfl), trivial⟩))))
 refine AT (b := (decide ((y.kind.toNat : Int) = (1 : Int)))) rfl (fun h24 => ?_) (fun h24 => ?_)
 ·exact AN (k24 _ _ M ⟨rfl, rfl, rfl, rfl, rfl, (by rw [h24]; rfl), trivial⟩)
 ·exact A0 (ya rfl (BB rfl rfl rfl) (yb rfl (A4 (k24 _ _ M ⟨rfl, rfl, rfl, rfl, rfl, (by rw [h24]; rfl), trivial⟩))))
theorem lP (y : El) (gy : Nat) (z : Fl) (w : World) (hb : Blk w gy 39 y.cells) :
 Calls prog 79 #[.agg z.cells.toArray, pg gy] w fun e w' => e = .returned (.bool (decide (z.id = y.dflt))) ∧ Fr0 w w' := by
 refine AJ (vs := [_, _]) func79 rfl ntmps79 rfl ?_
 have M := CN w
 refine A9 (A0 (B4 M (AA rfl) rfl rfl 41 rfl rfl (Fl.cells z) rfl fun g2 w1 hg2 M => yb rfl (A4 (A5 (A9 (A0 (yb rfl (yl rfl rfl (M.cell 0 rfl rfl) (yb rfl (yl rfl rfl (Blk.c (hb.fr0 M.fr) 4 rfl) (ya rfl (DE rfl rfl rfl) (yb rfl (A4 ?_)))))))))))))
 exact A5 (AF (AK rfl rfl ⟨rfl, M.fr⟩))
def HX (m : Md) (y : El) : Bool := (if (!decide ((y.kind.toNat : Int) = (5 : Int))) = true then true else (if (decide ((((BJ m.fls y.id).length : Nat) : Int) = (1 : Int))) = true then (decide (y.dflt = [])) else ((BJ m.fls y.id).any (fun z => decide (z.id = y.dflt)))))
theorem qY (m : Md) (a : MdA) (ix : IxA) (gx gp : Nat) (y : El) (w : World) (oy : ElOk y) (ho : MdOk m) (hx : IxAt w m a ix gx) (hp : Blk w gp 67 [pg gx]) :
 Calls prog 78 #[.agg y.cells.toArray, pg gp] w fun e w' => e = .returned (.bool (HX m y)) ∧ Fr0 w w' := by
 have oy3 := oy.ref
 have oy4 := oy.key
 have oy5 := oy.id
 have oy6 := oy.nm
 have oy7 := oy.inn
 have oy8 := oy.att
 have hOl := AQ m.fls y.id
 have hnf := ho.nfls
 refine AJ (vs := [_, _]) func78 rfl ntmps78 rfl ?_
 have M := CN w
 refine A9 (A0 (B4 M (AA rfl) rfl rfl 39 rfl rfl (El.cells y) rfl fun g2 w1 hg2 M => yb rfl (A4 (A5 (A9 (JN DV (by kernel_rfl) ?_))))))
 have M := M.drew
 refine sd rfl rfl (Blk.c (hp.fr0 M.fr) 0 rfl) (sb rfl (sb rfl (sd rfl rfl (Blk.c ((hx.fr0 M.fr).blk) 7 rfl) (sb rfl (sd rfl rfl (M.cell 0 rfl rfl) (sa rfl (CK rfl rfl rfl underlying88 underlying9 zr_sl_api_Flow ((hx.fr0 M.fr).O) (hx.getO _)) (sb rfl (LQ (A5 (A9 (AV (A9 (A0 (yb rfl (yl rfl rfl (M.cell 0 rfl rfl) ?_)))))))))))))))
 refine ya rfl (CX rfl rfl rfl) (yb rfl (A4 (A5 (AT (b := (!decide ((y.kind.toNat : Int) = (5 : Int)))) rfl (fun h12 => ?_) (fun h12 => ?_)))))
 ·have h12p := (odf (C4 h12))
  exact A9 (A0 (yb rfl (A4 (A5 (AF (AL (AB (AK rfl rfl ⟨by rw [HX, if_pos h12], M.fr⟩))))))))
 ·have h12p := (odt (C5 h12))
  refine A9 (A0 (yb rfl (ya rfl (CS rfl rfl (sl rfl)) (ya rfl (BB rfl rfl rfl) (yb rfl (A4 (A5 (AT (b := (decide ((((BJ m.fls y.id).length : Nat) : Int) = (1 : Int)))) rfl (fun h16 => ?_) (fun h16 => ?_)))))))))
  ·have h16p := (odt h16)
   exact A9 (A0 (yb rfl (yl rfl rfl (M.cell 0 rfl rfl) (ya rfl (DE rfl rfl rfl) (yb rfl (A4 (A5 (AF (AL (AB (AK rfl rfl ⟨by rw [HX, if_neg (BE h12), if_pos h16], M.fr⟩)))))))))))
  ·have h16p := (odf h16)
   exact AN (AC (A5 (A9 (A0 (yb rfl (ya rfl (CC (us := []) (vs := [pg g2]) rfl rfl rfl) (cp M 25 rfl (AE rfl rfl call73) (fL _ _ (BJ m.fls y.id) (by have := BS m.fls; have := AQ m.fls; have := ho.nfls; have := ho.nels; have := ho.nvars; first | omega | exact Nat.le_trans (BS _ _) (by omega) | exact Nat.le_trans (AQ _ _) (by omega)) 79 [pg g2] (fun z => decide (z.id = y.dflt)) _ (GO call79 (fun z hz w9 hf9 => lP y _ z w9 ((M.blk 0 rfl).fr0 hf9))) ((hx.fr0 M.fr).rdO _)) fun w2 M => yb rfl (A4 (A5 (AF (AK rfl rfl ⟨by rw [HX, if_neg (BE h12), if_neg (BE h16)], M.fr⟩)))))))))))
def O6 (y : El) (z : Bd) : Bool := ((decide (z.name = (y).key)) && (decide ((z.v.kind.toNat : Int) = (3 : Int))))
theorem bR (y : El) (gy : Nat) (z : Bd) (w : World) (hb : Blk w gy 39 y.cells) :
 Calls prog 89 #[.agg z.cells.toArray, pg gy] w fun e w' => e = .returned (.bool (O6 y z)) ∧ Fr0 w w' := by
 refine AJ (vs := [_, _]) func89 rfl ntmps89 rfl ?_
 have M := CN w
 refine A9 (A0 (B4 M (AA rfl) rfl rfl 97 rfl rfl (Bd.cells z) rfl fun g2 w1 hg2 M => yb rfl (A4 (A5 (A9 (A0 (yb rfl (yl rfl rfl (M.cell 0 rfl rfl) (yb rfl (yl rfl rfl (Blk.c (hb.fr0 M.fr) 8 rfl) (ya rfl (DE rfl rfl rfl) (yb rfl (AX 5 [(3, .bool false), (14, .bool ((decide (z.name = (y).key)) && (decide ((z.v.kind.toNat : Int) = (3 : Int)))))] (fun w' => Mem w AD [As.blk g2 97 (Bd.cells z)] w') ?_ (fun k9 => ?_))))))))))))))
 ·intro w2 M
  exact yb rfl (A4 (A5 (AF (AK rfl rfl ⟨by rw [O6], M.fr⟩))))
 refine AM (d := 9) (b := (decide (z.name = (y).key))) rfl (fun h9 => ?_) (fun h9 => ?_)
 ·exact yd rfl (yp rfl) (yd rfl (yp rfl) (ym rfl rfl (M.cell 0 rfl rfl) (yd rfl (BB rfl rfl rfl) (yb rfl (k9 _ _ M ⟨rfl, (by rw [h9]; rfl), trivial⟩)))))
 ·iterate 4 refine yo rfl ?_
  exact yb rfl (k9 _ _ M ⟨rfl, (by rw [h9]; rfl), trivial⟩)
def N6 (m : Md) (y : El) : Bool := ((!decide ((y.ev.toNat : Int) = (2 : Int))) || (m.vars.any (O6 y)))
theorem jJ (m : Md) (a : MdA) (ix : IxA) (gx gp : Nat) (y : El) (w : World) (oy : ElOk y) (ho : MdOk m) (hx : IxAt w m a ix gx) (hp : Blk w gp 67 [pg gx]) :
 Calls prog 87 #[.agg y.cells.toArray, pg gp] w fun e w' => e = .returned (.bool (N6 m y)) ∧ Fr0 w w' := by
 have oy3 := oy.ref
 have oy4 := oy.key
 have oy5 := oy.id
 have oy6 := oy.nm
 have oy7 := oy.inn
 have oy8 := oy.att
 refine AJ (vs := [_, _]) func87 rfl ntmps87 rfl ?_
 have M := CN w
 refine A9 (A0 (B4 M (AA rfl) rfl rfl 39 rfl rfl (El.cells y) rfl fun g2 w1 hg2 M => yb rfl (A4 (A5 (A9 (A0 (yb rfl (yl rfl rfl (M.cell 0 rfl rfl) (ya rfl (CX rfl rfl rfl) (yb rfl (AX 8 [(3, .bool false), (15, .bool ((!decide ((y.ev.toNat : Int) = (2 : Int))) || (m.vars.any (O6 y))))] (fun w' => Mem w AD [As.blk g2 39 (El.cells y)] w') ?_ (fun k7 => ?_))))))))))))
 ·intro w2 M
  exact yb rfl (A4 (A5 (AF (AK rfl rfl ⟨by rw [N6], M.fr⟩))))
 refine AM (d := 7) (b := (!decide ((y.ev.toNat : Int) = (2 : Int)))) rfl (fun h7 => ?_) (fun h7 => ?_)
 ·iterate 7 refine yo rfl ?_
  exact yb rfl (k7 _ _ M ⟨rfl, (by rw [h7]; rfl), trivial⟩)
 ·refine ym rfl rfl (Blk.c (hp.fr0 M.fr) 0 rfl) (yd rfl (yp rfl) (yd rfl (yp rfl) (yd rfl (yp rfl) (ym rfl rfl (Blk.c ((hx.fr0 M.fr).blk) 2 rfl) (yd rfl (CC (us := []) (vs := [pg g2]) rfl rfl rfl) (CF (some 14) (AW rfl rfl rfl) rfl rfl (AE rfl rfl call88) (tW _ _ m.vars (by have := BS m.fls; have := AQ m.fls; have := ho.nfls; have := ho.nels; have := ho.nvars; first | omega | exact Nat.le_trans (BS _ _) (by omega) | exact Nat.le_trans (AQ _ _) (by omega)) 89 [pg g2] (O6 y) _ (GO call89 (fun z hz w9 hf9 => bR y _ z w9 ((M.blk 0 rfl).fr0 hf9))) (M.rd hx.md.vars)) ?_))))))
  rintro _ w3 ⟨rfl, hfw3⟩
  refine ⟨_, rfl, ?_⟩
  have M := M.step hfw3
  exact yb rfl (k7 _ _ M ⟨rfl, (by rw [h7]; rfl), trivial⟩)
def JO (m : Md) (k : List UInt8) : Bool := (((decide ((((AO m.els k).getD zeroEl).kind.toNat : Int) = (5 : Int))) || (decide ((((AO m.els k).getD zeroEl).kind.toNat : Int) = (6 : Int)))) || (decide ((((AO m.els k).getD zeroEl).kind.toNat : Int) = (10 : Int))))
theorem Y8 (m : Md) (a : MdA) (ix : IxA) (gx gp : Nat) (k : List UInt8) (w : World) (_ho : MdOk m) (hx : IxAt w m a ix gx) (hp : Blk w gp 67 [pg gx]) :
 Calls prog 90 #[str k, pg gp] w fun e w' => e = .returned (.bool (JO m k)) ∧ Fr0 w w' := by
 refine AJ (vs := [_, _]) func90 rfl ntmps90 rfl ?_
 have M := CN w
 refine A9 (A0 (yb rfl (A4 (A5 (A9 (A0 (yl rfl rfl (Blk.c (hp.fr0 M.fr) 0 rfl) (yb rfl (yb rfl (yl rfl rfl (Blk.c ((hx.fr0 M.fr).blk) 5 rfl) (yb rfl (ya rfl (CK rfl rfl rfl underlying87 underlying9 B7 ((hx.fr0 M.fr).E) (hx.getE _)) (ya rfl (XE (b := ((AO m.els k).getD zeroEl)) rfl rfl) (yb rfl (A4 ?_)))))))))))))))
 refine A5 (A9 (A0 (yb rfl (ya rfl (BB rfl rfl rfl) (yb rfl (AX 3 [(3, .bool false), (4, .int .u8 (((AO m.els k).getD zeroEl).kind.toNat : Int)), (17, .bool ((decide ((((AO m.els k).getD zeroEl).kind.toNat : Int) = (5 : Int))) || (decide ((((AO m.els k).getD zeroEl).kind.toNat : Int) = (6 : Int)))))] (fun w' => Mem w AD [] w') ?_ (fun k14 => ?_)))))))
 ·intro w1 M
  refine yb rfl (AX 3 [(3, .bool false), (21, .bool (((decide ((((AO m.els k).getD zeroEl).kind.toNat : Int) = (5 : Int))) || (decide ((((AO m.els k).getD zeroEl).kind.toNat : Int) = (6 : Int)))) || (decide ((((AO m.els k).getD zeroEl).kind.toNat : Int) = (10 : Int)))))] (fun w' => Mem w AD [] w') ?_ (fun k18 => ?_))
  ·intro w2 M
   exact yb rfl (A4 (A5 (AF (AK rfl rfl ⟨by rw [JO], M.fr⟩))))
  refine AM (d := 18) (b := ((decide ((((AO m.els k).getD zeroEl).kind.toNat : Int) = (5 : Int))) || (decide ((((AO m.els k).getD zeroEl).kind.toNat : Int) = (6 : Int))))) rfl (fun h18 => ?_) (fun h18 => ?_)
  ·exact yo rfl (yo rfl (yb rfl (k18 _ _ M ⟨rfl, (by rw [h18]; rfl), trivial⟩)))
  ·exact yd rfl (yp rfl) (yd rfl (BB rfl rfl rfl) (yb rfl (k18 _ _ M ⟨rfl, (by rw [h18]; rfl), trivial⟩)))
 refine AM (d := 14) (b := (decide ((((AO m.els k).getD zeroEl).kind.toNat : Int) = (5 : Int)))) rfl (fun h14 => ?_) (fun h14 => ?_)
 ·exact yo rfl (yo rfl (yb rfl (k14 _ _ M ⟨rfl, rfl, (by rw [h14]; rfl), trivial⟩)))
 ·exact yd rfl (yp rfl) (yd rfl (BB rfl rfl rfl) (yb rfl (k14 _ _ M ⟨rfl, rfl, (by rw [h14]; rfl), trivial⟩)))
end Go.Proofs.YtdaihdknnlphkaaGreatDoor
