/- The rules of the program, what each asks of an element or a flow: printed by gw/ru2.py. Condition: the tables of unicode/utf8 are as they are laid (text). -/
import Derived.Test.YtadgfojhjnkliaaGreatDoorZRu1
set_option maxHeartbeats 16000000
set_option maxRecDepth 100000
namespace Go.Proofs.YtadgfojhjnkliaaGreatDoor
open Go.RowKit
def Q1 (els : List El) : Nat → List UInt8 → Bool
 | 0, s => decide (s = [])
 | n + 1, s => if s = [] then true else decide ((((AT els s).getD zeroEl).kind.toNat : Int) = 10) && Q1 els n ((AT els s).getD zeroEl).inn
theorem cM (els : List El) {d : Nat} {s : List UInt8} (h : ¬ s = []) (hd : d < 4) (hk : (((AT els s).getD zeroEl).kind.toNat : Int) = 10) : Q1 els (4 - d) s = Q1 els (4 - (d + 1)) ((AT els s).getD zeroEl).inn := by
 rw [show 4 - d = (4 - (d + 1)) + 1 by omega, Q1, if_neg h, decide_eq_true hk]; rfl
theorem qH (els : List El) {d : Nat} {s : List UInt8} (h : ¬ s = []) (hk : ¬ (((AT els s).getD zeroEl).kind.toNat : Int) = 10 ∨ (d : Int) = 4) : Q1 els (4 - d) s = false := by
 rcases hk with hk | hk
 ·cases 4 - d with
  | zero => exact decide_eq_false h
  | succ n => rw [Q1, if_neg h, decide_eq_false hk]; rfl
 ·rw [show 4 - d = 0 by omega]; exact decide_eq_false h
theorem qI (els : List El) {n : Nat} {s : List UInt8} (h : s = []) : Q1 els n s = true := by
 subst h; cases n <;> simp [Q1]
theorem p5 (A : Option Addr) (c : Nat) (l : List El) (hl : l.length ≤ 4611686018427387904) (f : FuncId) (cs : List Value) (p : El → Bool) (w : World) (hP : PredJ Tryz.prog f cs (fun x : El => .agg x.cells.toArray) l (fun _ => p) AB (fun _ _ => True) w) (hR : Rd w A (l.length * 11) (AS El.cells l)) :
 Calls Tryz.prog 94 #[.slice A l.length c, .func (.func f) #[] cs.toArray] w fun e w' => e = .returned (.bool (l.any p)) ∧ Fr0 w w' :=
 (kT El.cells El.len A c l hl f cs (fun _ => p) AB (fun _ _ => True) w hP (fun _ hf => hR.fr0 hf) trivial).mono fun _ _ ⟨h1, _, h2⟩ => ⟨by rw [h1, JM], h2⟩
theorem HY (A : Option Addr) (c : Nat) (l : List El) (hl : l.length ≤ 4611686018427387904) (f : FuncId) (cs : List Value) (p : El → Bool) (w : World) (hP : PredJ Tryz.prog f cs (fun x : El => .agg x.cells.toArray) l (fun _ => p) AB (fun _ _ => True) w) (hR : Rd w A (l.length * 11) (AS El.cells l)) :
 Calls Tryz.prog 74 #[.slice A l.length c, .func (.func 75) #[] #[], .func (.func f) #[] cs.toArray] w fun e w' => e = .returned (.tuple #[str ((ffN (fun _ => p) 0 l).elim [] (fun x => x.id)), .bool (ffN (fun _ => p) 0 l).isSome]) ∧ Fr0 w w' :=
 (WM A c l hl f cs (fun _ => p) AB (fun _ _ => True) w hP (fun _ hf => hR.fr0 hf) trivial).mono fun _ _ ⟨h1, _, h2⟩ => ⟨h1, h2⟩
theorem bN (A : Option Addr) (c : Nat) (l : List Fl) (hl : l.length ≤ 4611686018427387904) (f : FuncId) (cs : List Value) (p : Fl → Bool) (w : World) (hP : PredJ Tryz.prog f cs (fun x : Fl => .agg x.cells.toArray) l (fun _ => p) AB (fun _ _ => True) w) (hR : Rd w A (l.length * 4) (AS Fl.cells l)) :
 Calls Tryz.prog 84 #[.slice A l.length c, .func (.func f) #[] cs.toArray] w fun e w' => e = .returned (.bool (l.any p)) ∧ Fr0 w w' :=
 (kS Fl.cells Fl.len A c l hl f cs (fun _ => p) AB (fun _ _ => True) w hP (fun _ hf => hR.fr0 hf) trivial).mono fun _ _ ⟨h1, _, h2⟩ => ⟨by rw [h1, JM], h2⟩
theorem T6 (A : Option Addr) (c : Nat) (l : List Fl) (hl : l.length ≤ 4611686018427387904) (f : FuncId) (cs : List Value) (p : Fl → Bool) (w : World) (hP : PredJ Tryz.prog f cs (fun x : Fl => .agg x.cells.toArray) l (fun _ => p) AB (fun _ _ => True) w) (hR : Rd w A (l.length * 4) (AS Fl.cells l)) :
 Calls Tryz.prog 77 #[.slice A l.length c, .func (.func 78) #[] #[], .func (.func f) #[] cs.toArray] w fun e w' => e = .returned (.tuple #[str ((ffN (fun _ => p) 0 l).elim [] (fun x => x.id)), .bool (ffN (fun _ => p) 0 l).isSome]) ∧ Fr0 w w' :=
 (WL A c l hl f cs (fun _ => p) AB (fun _ _ => True) w hP (fun _ hf => hR.fr0 hf) trivial).mono fun _ _ ⟨h1, _, h2⟩ => ⟨h1, h2⟩
theorem p6 (A : Option Addr) (c : Nat) (l : List Bd) (hl : l.length ≤ 4611686018427387904) (f : FuncId) (cs : List Value) (p : Bd → Bool) (w : World) (hP : PredJ Tryz.prog f cs (fun x : Bd => .agg x.cells.toArray) l (fun _ => p) AB (fun _ _ => True) w) (hR : Rd w A (l.length * 5) (AS Bd.cells l)) :
 Calls Tryz.prog 98 #[.slice A l.length c, .func (.func f) #[] cs.toArray] w fun e w' => e = .returned (.bool (l.any p)) ∧ Fr0 w w' :=
 (kU Bd.cells Bd.len A c l hl f cs (fun _ => p) AB (fun _ _ => True) w hP (fun _ hf => hR.fr0 hf) trivial).mono fun _ _ ⟨h1, _, h2⟩ => ⟨by rw [h1, JM], h2⟩
theorem O3 (a2 : Int) : Tryz.prog.built 62 [(2, .int .u8 a2)] = some #[str [], str [], .int .u8 a2, str [], str [], str [], .int .u8 0, str [], str [], .int .i64 0, .int .i64 0] := by kernel_rfl
theorem KS (a2 : Int) (a10 : Int) : Tryz.prog.built 62 [(2, .int .u8 a2), (10, .int .i64 a10)] = some #[str [], str [], .int .u8 a2, str [], str [], str [], .int .u8 0, str [], str [], .int .i64 0, .int .i64 a10] := by kernel_rfl
theorem LT (a2 : Int) (a4 : List UInt8) : Tryz.prog.built 62 [(2, .int .u8 a2), (4, str a4)] = some #[str [], str [], .int .u8 a2, str [], str a4, str [], .int .u8 0, str [], str [], .int .i64 0, .int .i64 0] := by kernel_rfl
theorem zr_sl_api_Flow : (Tryz.prog.info? 24).map (·.zero) = some (some (.slice none 0 0)) := by kernel_rfl
def LH (l : List UInt8) : Bool := ((decide (((l.length : Nat) : Int) ≤ (1024 : Int))) && (utf l))
theorem ZK (l : List UInt8) (w : World) (hl : (l.length : Int) < 4611686018427387904) (hT : Laid w utfL) :
 Calls Tryz.prog 69 #[str l] w fun e w' => e = .returned (.bool (LH l)) ∧ Fr0 w w' := by
 refine AL (vs := [_]) Tryz.func69 rfl Tryz.ntmps69 rfl ?_
 have M := CM w
 refine A9 (A0 (yb rfl (A1 (A2 (A9 (A0 (yb rfl (ya rfl (EO rfl rfl Tryz.underlying9) (ya rfl (I1 rfl rfl rfl) (yb rfl (AV 3 [(2, .bool false), (9, .bool ((decide (((l.length : Nat) : Int) ≤ (1024 : Int))) && (utf l)))] (fun w' => Mem w AB [] w') ?_ (fun k6 => ?_))))))))))))
 ·intro w1 M
  exact yb rfl (A1 (A2 (AE (AI rfl rfl ⟨by rw [LH], M.fr⟩))))
 refine AF (d := 6) (b := (decide (((l.length : Nat) : Int) ≤ (1024 : Int)))) rfl (fun h6 => ?_) (fun h6 => ?_)
 ·refine yd rfl (yp rfl) (AC (some 8) (BA rfl rfl rfl) rfl rfl (AG rfl rfl Tryz.call117) (JG _ _ (by omega) (hT.fr M.fr)) ?_)
  rintro _ w2 ⟨rfl, hfw2⟩
  refine ⟨_, rfl, ?_⟩
  have M := M.step hfw2
  exact yb rfl (k6 _ _ M ⟨rfl, (by rw [h6]; rfl), trivial⟩)
 ·exact yo rfl (yo rfl (yb rfl (k6 _ _ M ⟨rfl, (by rw [h6]; rfl), trivial⟩)))
def HG (y : El) : Bool := (if (decide ((y.ev.toNat : Int) = (1 : Int))) = true then ((((decide ((1 : Int) ≤ y.ticks)) && (decide (y.ticks ≤ (1048576 : Int)))) && (decide (y.ref = []))) && (decide (y.key = []))) else (if (decide ((y.ev.toNat : Int) = (2 : Int))) = true then (((decide (y.ticks = (0 : Int))) && (BX y.ref)) && (BX y.key)) else (if (decide ((y.ev.toNat : Int) = (3 : Int))) = true then (((decide (y.ticks = (0 : Int))) && (BX y.ref)) && (decide (y.key = []))) else false)))
theorem kF (y : El) (w : World) (oy : ElOk y) :
 Calls Tryz.prog 131 #[.agg y.cells.toArray] w fun e w' => e = .returned (.bool (HG y)) ∧ Fr0 w w' := by
 have oy3 := oy.ref
 have oy4 := oy.key
 have oy5 := oy.id
 have oy6 := oy.nm
 have oy7 := oy.inn
 have oy8 := oy.att
 refine AL (vs := [_]) Tryz.func131 rfl Tryz.ntmps131 rfl ?_
 have M := CM w
 refine A9 (A0 (BG M (A4 rfl) rfl rfl 62 rfl rfl (El.cells y) rfl fun g1 w1 hg1 M => yb rfl (A1 (A2 (A9 (A9 (A0 (yb rfl (yl rfl rfl (M.cell 0 rfl rfl) (A1 (A2 (AZ (A9 ?_)))))))))))))
 refine A0 (ya rfl (BC rfl rfl rfl) (yb rfl (A1 (A2 (AR (b := (decide ((y.ev.toNat : Int) = (1 : Int)))) rfl (fun h5 => ?_) (fun h5 => ?_))))))
 ·have h5p := (of_decide_eq_true h5)
  refine A9 (A0 (yb rfl (yl rfl rfl (M.cell 0 rfl rfl) (ya rfl (EP rfl rfl rfl) (yb rfl (AV 4 [(1, .pointer (some ⟨g1, 0, none⟩)), (2, .bool false), (14, .bool ((decide ((1 : Int) ≤ y.ticks)) && (decide (y.ticks ≤ (1048576 : Int)))))] (fun w' => Mem w AB [As.blk g1 62 (El.cells y)] w') ?_ (fun k10 => ?_)))))))
  ·intro w2 M
   refine yb rfl (AV 4 [(1, .pointer (some ⟨g1, 0, none⟩)), (2, .bool false), (19, .bool (((decide ((1 : Int) ≤ y.ticks)) && (decide (y.ticks ≤ (1048576 : Int)))) && (decide (y.ref = []))))] (fun w' => Mem w AB [As.blk g1 62 (El.cells y)] w') ?_ (fun k15 => ?_))
   ·intro w3 M
    refine yb rfl (AV 4 [(2, .bool false), (24, .bool ((((decide ((1 : Int) ≤ y.ticks)) && (decide (y.ticks ≤ (1048576 : Int)))) && (decide (y.ref = []))) && (decide (y.key = []))))] (fun w' => Mem w AB [As.blk g1 62 (El.cells y)] w') ?_ (fun k20 => ?_))
    ·intro w4 M
     exact yb rfl (A1 (A2 (AE (AK (AA (AI rfl rfl ⟨by rw [HG, if_pos h5], M.fr⟩))))))
    refine AF (d := 20) (b := (((decide ((1 : Int) ≤ y.ticks)) && (decide (y.ticks ≤ (1048576 : Int)))) && (decide (y.ref = [])))) rfl (fun h20 => ?_) (fun h20 => ?_)
    ·exact yd rfl (yp rfl) (ym rfl rfl (M.cell 0 rfl rfl) (yd rfl (DG rfl rfl rfl) (yb rfl (k20 _ _ M ⟨rfl, (by rw [h20]; rfl), trivial⟩))))
    ·exact yo rfl (yo rfl (yo rfl (yb rfl (k20 _ _ M ⟨rfl, (by rw [h20]; rfl), trivial⟩))))
   refine AF (d := 15) (b := ((decide ((1 : Int) ≤ y.ticks)) && (decide (y.ticks ≤ (1048576 : Int))))) rfl (fun h15 => ?_) (fun h15 => ?_)
   ·exact yd rfl (yp rfl) (ym rfl rfl (M.cell 0 rfl rfl) (yd rfl (DG rfl rfl rfl) (yb rfl (k15 _ _ M ⟨rfl, rfl, (by rw [h15]; rfl), trivial⟩))))
   ·exact yo rfl (yo rfl (yo rfl (yb rfl (k15 _ _ M ⟨rfl, rfl, (by rw [h15]; rfl), trivial⟩))))
  refine AF (d := 10) (b := (decide ((1 : Int) ≤ y.ticks))) rfl (fun h10 => ?_) (fun h10 => ?_)
  ·exact yd rfl (yp rfl) (ym rfl rfl (M.cell 0 rfl rfl) (yd rfl (I1 rfl rfl rfl) (yb rfl (k10 _ _ M ⟨rfl, rfl, (by rw [h10]; rfl), trivial⟩))))
  ·exact yo rfl (yo rfl (yo rfl (yb rfl (k10 _ _ M ⟨rfl, rfl, (by rw [h10]; rfl), trivial⟩))))
 ·have h5p := (of_decide_eq_false h5)
  refine A9 (A0 (ya rfl (BC rfl rfl rfl) (yb rfl (A1 (A2 (AR (b := (decide ((y.ev.toNat : Int) = (2 : Int)))) rfl (fun h25 => ?_) (fun h25 => ?_)))))))
  ·have h25p := (of_decide_eq_true h25)
   refine A9 (A0 (yb rfl (yl rfl rfl (M.cell 0 rfl rfl) (ya rfl (BC rfl rfl rfl) (yb rfl (AV 4 [(1, .pointer (some ⟨g1, 0, none⟩)), (2, .bool false), (34, .bool ((decide (y.ticks = (0 : Int))) && (BX y.ref)))] (fun w' => Mem w AB [As.blk g1 62 (El.cells y)] w') ?_ (fun k30 => ?_)))))))
   ·intro w5 M
    refine yb rfl (AV 4 [(2, .bool false), (39, .bool (((decide (y.ticks = (0 : Int))) && (BX y.ref)) && (BX y.key)))] (fun w' => Mem w AB [As.blk g1 62 (El.cells y)] w') ?_ (fun k35 => ?_))
    ·intro w6 M
     exact yb rfl (A1 (A2 (AE (AK (AA (AI rfl rfl ⟨by rw [HG, if_neg (BD h5), if_pos h25], M.fr⟩))))))
    refine AF (d := 35) (b := ((decide (y.ticks = (0 : Int))) && (BX y.ref))) rfl (fun h35 => ?_) (fun h35 => ?_)
    ·refine yd rfl (yp rfl) (ym rfl rfl (M.cell 0 rfl rfl) (AC (some 38) (BA rfl rfl rfl) rfl rfl (AG rfl rfl Tryz.call68) (DV _ _ (by omega)) ?_))
     rintro _ w7 ⟨rfl, hfw7⟩
     refine ⟨_, rfl, ?_⟩
     have M := M.step hfw7
     exact yb rfl (k35 _ _ M ⟨rfl, (by rw [h35]; rfl), trivial⟩)
    ·exact yo rfl (yo rfl (yo rfl (yb rfl (k35 _ _ M ⟨rfl, (by rw [h35]; rfl), trivial⟩))))
   refine AF (d := 30) (b := (decide (y.ticks = (0 : Int)))) rfl (fun h30 => ?_) (fun h30 => ?_)
   ·refine yd rfl (yp rfl) (ym rfl rfl (M.cell 0 rfl rfl) (AC (some 33) (BA rfl rfl rfl) rfl rfl (AG rfl rfl Tryz.call68) (DV _ _ (by omega)) ?_))
    rintro _ w8 ⟨rfl, hfw8⟩
    refine ⟨_, rfl, ?_⟩
    have M := M.step hfw8
    exact yb rfl (k30 _ _ M ⟨rfl, rfl, (by rw [h30]; rfl), trivial⟩)
   ·exact yo rfl (yo rfl (yo rfl (yb rfl (k30 _ _ M ⟨rfl, rfl, (by rw [h30]; rfl), trivial⟩))))
  ·have h25p := (of_decide_eq_false h25)
   refine A9 (A0 (ya rfl (BC rfl rfl rfl) (yb rfl (A1 (A2 (AR (b := (decide ((y.ev.toNat : Int) = (3 : Int)))) rfl (fun h40 => ?_) (fun h40 => ?_)))))))
   ·have h40p := (of_decide_eq_true h40)
    refine A9 (A0 (yb rfl (yl rfl rfl (M.cell 0 rfl rfl) (ya rfl (BC rfl rfl rfl) (yb rfl (AV 4 [(1, .pointer (some ⟨g1, 0, none⟩)), (2, .bool false), (49, .bool ((decide (y.ticks = (0 : Int))) && (BX y.ref)))] (fun w' => Mem w AB [As.blk g1 62 (El.cells y)] w') ?_ (fun k45 => ?_)))))))
    ·intro w9 M
     refine yb rfl (AV 4 [(2, .bool false), (54, .bool (((decide (y.ticks = (0 : Int))) && (BX y.ref)) && (decide (y.key = []))))] (fun w' => Mem w AB [As.blk g1 62 (El.cells y)] w') ?_ (fun k50 => ?_))
     ·intro w10 M
      exact yb rfl (A1 (A2 (AE (AK (AA (AI rfl rfl ⟨by rw [HG, if_neg (BD h5), if_neg (BD h25), if_pos h40], M.fr⟩))))))
     refine AF (d := 50) (b := ((decide (y.ticks = (0 : Int))) && (BX y.ref))) rfl (fun h50 => ?_) (fun h50 => ?_)
     ·exact yd rfl (yp rfl) (ym rfl rfl (M.cell 0 rfl rfl) (yd rfl (DG rfl rfl rfl) (yb rfl (k50 _ _ M ⟨rfl, (by rw [h50]; rfl), trivial⟩))))
     ·exact yo rfl (yo rfl (yo rfl (yb rfl (k50 _ _ M ⟨rfl, (by rw [h50]; rfl), trivial⟩))))
    refine AF (d := 45) (b := (decide (y.ticks = (0 : Int)))) rfl (fun h45 => ?_) (fun h45 => ?_)
    ·refine yd rfl (yp rfl) (ym rfl rfl (M.cell 0 rfl rfl) (AC (some 48) (BA rfl rfl rfl) rfl rfl (AG rfl rfl Tryz.call68) (DV _ _ (by omega)) ?_))
     rintro _ w11 ⟨rfl, hfw11⟩
     refine ⟨_, rfl, ?_⟩
     have M := M.step hfw11
     exact yb rfl (k45 _ _ M ⟨rfl, rfl, (by rw [h45]; rfl), trivial⟩)
    ·exact yo rfl (yo rfl (yo rfl (yb rfl (k45 _ _ M ⟨rfl, rfl, (by rw [h45]; rfl), trivial⟩))))
   ·have h40p := (of_decide_eq_false h40)
    exact AM (AD (A2 (A9 (A0 (yb rfl (A1 (A2 (AE (AI rfl rfl ⟨by rw [HG, if_neg (BD h5), if_neg (BD h25), if_neg (BD h40)], M.fr⟩)))))))))
def YM (y : El) : Bool := (if ((decide ((y.kind.toNat : Int) < (1 : Int))) || (decide ((10 : Int) < (y.kind.toNat : Int)))) = true then false else (if (decide ((y.kind.toNat : Int) = (4 : Int))) = true then (((decide ((1 : Int) ≤ y.tries)) && (decide (y.tries ≤ (100 : Int)))) && (El.same (⟨[], [], y.kind, [], y.dflt, y.att, y.ev, y.ref, y.key, y.ticks, y.tries⟩ : El) (⟨[], [], y.kind, [], [], [], 0, [], [], 0, y.tries⟩ : El))) else (if (decide ((y.kind.toNat : Int) = (5 : Int))) = true then (El.same (⟨[], [], y.kind, [], y.dflt, y.att, y.ev, y.ref, y.key, y.ticks, y.tries⟩ : El) (⟨[], [], y.kind, [], y.dflt, [], 0, [], [], 0, 0⟩ : El)) else (if ((decide ((y.kind.toNat : Int) = (8 : Int))) || (decide ((y.kind.toNat : Int) = (9 : Int)))) = true then ((((HG y) && (decide (y.tries = (0 : Int)))) && (decide (y.dflt = []))) && ((decide ((y.kind.toNat : Int) = (9 : Int))) || (decide (y.att = [])))) else (El.same (⟨[], [], y.kind, [], y.dflt, y.att, y.ev, y.ref, y.key, y.ticks, y.tries⟩ : El) (⟨[], [], y.kind, [], [], [], 0, [], [], 0, 0⟩ : El))))))
theorem rN (y : El) (w : World) (oy : ElOk y) :
 Calls Tryz.prog 81 #[.agg y.cells.toArray] w fun e w' => e = .returned (.bool (YM y)) ∧ Fr0 w w' := by
 have oy3 := oy.ref
 have oy4 := oy.key
 have oy5 := oy.id
 have oy6 := oy.nm
 have oy7 := oy.inn
 have oy8 := oy.att
 refine AL (vs := [_]) Tryz.func81 rfl Tryz.ntmps81 rfl ?_
 have M := CM w
 refine A9 (A0 (BG M (A4 rfl) rfl rfl 62 rfl rfl (El.cells y) rfl fun g1 w1 hg1 M => yb rfl (A1 (A2 (A9 (A0 (ya rfl (AO (xs := El.cells y) rfl rfl (M.rdBlk 0 rfl rfl) Tryz.underlying62 rfl AY) (BL M (A4 rfl) rfl rfl 62 rfl [str [], str [], .int .u8 0, str [], str [], str [], .int .u8 0, str [], str [], .int .i64 0, .int .i64 0] B4 rfl fun g3 w2 hg3 M => B8 (cs' := (El.cells y)) M 0 (A4 rfl) rfl rfl rfl rfl rfl AY rfl (AQ rfl) (B3 rfl) rfl fun w3 M => A1 (A2 ?_)))))))))
 refine A9 (A0 (yb rfl (BU (cs' := [str [], str y.nm, .int .u8 (y.kind.toNat : Int), str y.inn, str y.dflt, str y.att, .int .u8 (y.ev.toNat : Int), str y.ref, str y.key, .int .i64 y.ticks, .int .i64 y.tries]) M 0 (A4 rfl) rfl rfl rfl rfl rfl rfl rfl EM (B5 rfl) rfl fun w4 M => yb rfl (BU (cs' := [str [], str [], .int .u8 (y.kind.toNat : Int), str y.inn, str y.dflt, str y.att, .int .u8 (y.ev.toNat : Int), str y.ref, str y.key, .int .i64 y.ticks, .int .i64 y.tries]) M 0 (A4 rfl) rfl rfl rfl rfl rfl rfl rfl EM (B5 rfl) rfl fun w5 M => yb rfl (BU (cs' := [str [], str [], .int .u8 (y.kind.toNat : Int), str [], str y.dflt, str y.att, .int .u8 (y.ev.toNat : Int), str y.ref, str y.key, .int .i64 y.ticks, .int .i64 y.tries]) M 0 (A4 rfl) rfl rfl rfl rfl rfl rfl rfl EM (B5 rfl) rfl fun w6 M => A1 (A2 (A9 (AZ (A9 ?_)))))))))
 refine A0 (yb rfl (yl rfl rfl (M.cell 1 rfl rfl) (ya rfl (CJ rfl rfl rfl) (yb rfl (AV 4 [(1, .pointer (some ⟨g1, 0, none⟩)), (3, .pointer (some ⟨g3, 0, none⟩)), (16, .bool ((decide ((y.kind.toNat : Int) < (1 : Int))) || (decide ((10 : Int) < (y.kind.toNat : Int)))))] (fun w' => Mem w AB [As.blk g3 62 [str [], str [], .int .u8 (y.kind.toNat : Int), str [], str y.dflt, str y.att, .int .u8 (y.ev.toNat : Int), str y.ref, str y.key, .int .i64 y.ticks, .int .i64 y.tries], As.blk g1 62 (El.cells y)] w') ?_ (fun k12 => ?_))))))
 ·intro w7 M
  refine yb rfl (A1 (A2 (AR (b := ((decide ((y.kind.toNat : Int) < (1 : Int))) || (decide ((10 : Int) < (y.kind.toNat : Int))))) rfl (fun h8 => ?_) (fun h8 => ?_))))
  ·have h8p := ((EK h8).imp (fun z => (of_decide_eq_true z)) (fun z => (of_decide_eq_true z)))
   exact A9 (A0 (yb rfl (A1 (A2 (AE (AK (AA (AI rfl rfl ⟨by rw [YM, if_pos h8], M.fr⟩))))))))
  ·have h8p := (And.intro (of_decide_eq_false (CD h8).1) (of_decide_eq_false (CD h8).2))
   refine A9 (A0 (yb rfl (yl rfl rfl (M.cell 1 rfl rfl) (ya rfl (BC rfl rfl rfl) (yb rfl (A1 (A2 (AR (b := (decide ((y.kind.toNat : Int) = (4 : Int)))) rfl (fun h17 => ?_) (fun h17 => ?_)))))))))
   ·have h17p := (of_decide_eq_true h17)
    refine A9 (A0 (yb rfl (yl rfl rfl (M.cell 1 rfl rfl) (ya rfl (EP rfl rfl rfl) (yb rfl (AV 4 [(1, .pointer (some ⟨g1, 0, none⟩)), (3, .pointer (some ⟨g3, 0, none⟩)), (28, .bool ((decide ((1 : Int) ≤ y.tries)) && (decide (y.tries ≤ (100 : Int)))))] (fun w' => Mem w AB [As.blk g3 62 [str [], str [], .int .u8 (y.kind.toNat : Int), str [], str y.dflt, str y.att, .int .u8 (y.ev.toNat : Int), str y.ref, str y.key, .int .i64 y.ticks, .int .i64 y.tries], As.blk g1 62 (El.cells y)] w') ?_ (fun k24 => ?_)))))))
    ·intro w8 M
     refine yb rfl (AV 8 [(1, .pointer (some ⟨g1, 0, none⟩)), (3, .pointer (some ⟨g3, 0, none⟩)), (37, .bool (((decide ((1 : Int) ≤ y.tries)) && (decide (y.tries ≤ (100 : Int)))) && (El.same (⟨[], [], y.kind, [], y.dflt, y.att, y.ev, y.ref, y.key, y.ticks, y.tries⟩ : El) (⟨[], [], y.kind, [], [], [], 0, [], [], 0, y.tries⟩ : El))))] (fun w' => Mem w AB [As.blk g3 62 [str [], str [], .int .u8 (y.kind.toNat : Int), str [], str y.dflt, str y.att, .int .u8 (y.ev.toNat : Int), str y.ref, str y.key, .int .i64 y.ticks, .int .i64 y.tries], As.blk g1 62 (El.cells y)] w') ?_ (fun k29 => ?_))
     ·intro w9 M
      exact yb rfl (A1 (A2 (AE (AK (AA (AI rfl rfl ⟨by rw [YM, if_neg (BD h8), if_pos h17], M.fr⟩))))))
     refine AF (d := 29) (b := ((decide ((1 : Int) ≤ y.tries)) && (decide (y.tries ≤ (100 : Int))))) rfl (fun h29 => ?_) (fun h29 => ?_)
     ·exact yd rfl (AO (xs := [str [], str [], .int .u8 (y.kind.toNat : Int), str [], str y.dflt, str y.att, .int .u8 (y.ev.toNat : Int), str y.ref, str y.key, .int .i64 y.ticks, .int .i64 y.tries]) rfl rfl (M.rdBlk 0 rfl rfl) Tryz.underlying62 rfl AY) (yd rfl (yp rfl) (ym rfl rfl (M.cell 1 rfl rfl) (yd rfl (yp rfl) (ym rfl rfl (M.cell 1 rfl rfl) (yd rfl (BS (parts := [(2, _), (10, _)]) rfl rfl (KS _ _)) (yd rfl (XK (a := (⟨[], [], y.kind, [], y.dflt, y.att, y.ev, y.ref, y.key, y.ticks, y.tries⟩ : El)) (b := (⟨[], [], y.kind, [], [], [], 0, [], [], 0, y.tries⟩ : El)) rfl rfl rfl) (yb rfl (k29 _ _ M ⟨rfl, rfl, (by rw [h29]; rfl), trivial⟩))))))))
     ·iterate 7 refine yo rfl ?_
      exact yb rfl (k29 _ _ M ⟨rfl, rfl, (by rw [h29]; rfl), trivial⟩)
    refine AF (d := 24) (b := (decide ((1 : Int) ≤ y.tries))) rfl (fun h24 => ?_) (fun h24 => ?_)
    ·exact yd rfl (yp rfl) (ym rfl rfl (M.cell 1 rfl rfl) (yd rfl (I1 rfl rfl rfl) (yb rfl (k24 _ _ M ⟨rfl, rfl, (by rw [h24]; rfl), trivial⟩))))
    ·exact yo rfl (yo rfl (yo rfl (yb rfl (k24 _ _ M ⟨rfl, rfl, (by rw [h24]; rfl), trivial⟩))))
   ·have h17p := (of_decide_eq_false h17)
    refine A9 (A0 (yb rfl (yl rfl rfl (M.cell 1 rfl rfl) (ya rfl (BC rfl rfl rfl) (yb rfl (A1 (A2 (AR (b := (decide ((y.kind.toNat : Int) = (5 : Int)))) rfl (fun h38 => ?_) (fun h38 => ?_)))))))))
    ·have h38p := (of_decide_eq_true h38)
     refine A9 (A0 (ya rfl (AO (xs := [str [], str [], .int .u8 (y.kind.toNat : Int), str [], str y.dflt, str y.att, .int .u8 (y.ev.toNat : Int), str y.ref, str y.key, .int .i64 y.ticks, .int .i64 y.tries]) rfl rfl (M.rdBlk 0 rfl rfl) Tryz.underlying62 rfl AY) (yb rfl (yl rfl rfl (M.cell 1 rfl rfl) (yb rfl (yl rfl rfl (M.cell 1 rfl rfl) (ya rfl (BS (parts := [(2, _), (4, _)]) rfl rfl (LT _ _)) (ya rfl (XK (a := (⟨[], [], y.kind, [], y.dflt, y.att, y.ev, y.ref, y.key, y.ticks, y.tries⟩ : El)) (b := (⟨[], [], y.kind, [], y.dflt, [], 0, [], [], 0, 0⟩ : El)) rfl rfl rfl) (yb rfl (A1 (A2 (AE (AK (AA (AI rfl rfl ?_)))))))))))))))
     exact ⟨by rw [YM, if_neg (BD h8), if_neg (BD h17), if_pos h38], M.fr⟩
    ·have h38p := (of_decide_eq_false h38)
     refine A9 (A0 (yb rfl (yl rfl rfl (M.cell 1 rfl rfl) (ya rfl (BC rfl rfl rfl) (yb rfl (AV 4 [(1, .pointer (some ⟨g1, 0, none⟩)), (3, .pointer (some ⟨g3, 0, none⟩)), (57, .bool ((decide ((y.kind.toNat : Int) = (8 : Int))) || (decide ((y.kind.toNat : Int) = (9 : Int)))))] (fun w' => Mem w AB [As.blk g3 62 [str [], str [], .int .u8 (y.kind.toNat : Int), str [], str y.dflt, str y.att, .int .u8 (y.ev.toNat : Int), str y.ref, str y.key, .int .i64 y.ticks, .int .i64 y.tries], As.blk g1 62 (El.cells y)] w') ?_ (fun k53 => ?_)))))))
     ·intro w10 M
      refine yb rfl (A1 (A2 (AR (b := ((decide ((y.kind.toNat : Int) = (8 : Int))) || (decide ((y.kind.toNat : Int) = (9 : Int))))) rfl (fun h49 => ?_) (fun h49 => ?_))))
      ·have h49p := ((EK h49).imp (fun z => (of_decide_eq_true z)) (fun z => (of_decide_eq_true z)))
       refine A9 (A0 (ya rfl (AO (xs := El.cells y) rfl rfl (M.rdBlk 1 rfl rfl) Tryz.underlying62 rfl AY) (AC (some 59) (A4 rfl) rfl rfl (AG rfl rfl Tryz.call131) (kF _ _ (by assumption)) ?_)))
       rintro _ w11 ⟨rfl, hfw11⟩
       refine ⟨_, rfl, ?_⟩
       have M := M.step hfw11
       refine yb rfl (AV 4 [(1, .pointer (some ⟨g1, 0, none⟩)), (3, .pointer (some ⟨g3, 0, none⟩)), (64, .bool ((HG y) && (decide (y.tries = (0 : Int)))))] (fun w' => Mem w AB [As.blk g3 62 [str [], str [], .int .u8 (y.kind.toNat : Int), str [], str y.dflt, str y.att, .int .u8 (y.ev.toNat : Int), str y.ref, str y.key, .int .i64 y.ticks, .int .i64 y.tries], As.blk g1 62 (El.cells y)] w') ?_ (fun k60 => ?_))
       ·intro w12 M
        refine yb rfl (AV 4 [(1, .pointer (some ⟨g1, 0, none⟩)), (3, .pointer (some ⟨g3, 0, none⟩)), (69, .bool (((HG y) && (decide (y.tries = (0 : Int)))) && (decide (y.dflt = []))))] (fun w' => Mem w AB [As.blk g3 62 [str [], str [], .int .u8 (y.kind.toNat : Int), str [], str y.dflt, str y.att, .int .u8 (y.ev.toNat : Int), str y.ref, str y.key, .int .i64 y.ticks, .int .i64 y.tries], As.blk g1 62 (El.cells y)] w') ?_ (fun k65 => ?_))
        ·intro w13 M
         refine yb rfl (AV 9 [(1, .pointer (some ⟨g1, 0, none⟩)), (3, .pointer (some ⟨g3, 0, none⟩)), (79, .bool ((((HG y) && (decide (y.tries = (0 : Int)))) && (decide (y.dflt = []))) && ((decide ((y.kind.toNat : Int) = (9 : Int))) || (decide (y.att = [])))))] (fun w' => Mem w AB [As.blk g3 62 [str [], str [], .int .u8 (y.kind.toNat : Int), str [], str y.dflt, str y.att, .int .u8 (y.ev.toNat : Int), str y.ref, str y.key, .int .i64 y.ticks, .int .i64 y.tries], As.blk g1 62 (El.cells y)] w') ?_ (fun k70 => ?_))
         ·intro w14 M
          exact yb rfl (A1 (A2 (AE (AK (AA (AI rfl rfl ⟨by rw [YM, if_neg (BD h8), if_neg (BD h17), if_neg (BD h38), if_pos h49], M.fr⟩))))))
         refine AF (d := 70) (b := (((HG y) && (decide (y.tries = (0 : Int)))) && (decide (y.dflt = [])))) rfl (fun h70 => ?_) (fun h70 => ?_)
         ·refine yd rfl (yp rfl) (ym rfl rfl (M.cell 1 rfl rfl) (yd rfl (BC rfl rfl rfl) (yd rfl (yp rfl) (AV 4 [(1, .pointer (some ⟨g1, 0, none⟩)), (3, .pointer (some ⟨g3, 0, none⟩)), (70, .bool true), (78, .bool ((decide ((y.kind.toNat : Int) = (9 : Int))) || (decide (y.att = []))))] (fun w' => Mem w AB [As.blk g3 62 [str [], str [], .int .u8 (y.kind.toNat : Int), str [], str y.dflt, str y.att, .int .u8 (y.ev.toNat : Int), str y.ref, str y.key, .int .i64 y.ticks, .int .i64 y.tries], As.blk g1 62 (El.cells y)] w') ?_ (fun k74 => ?_)))))
          ·intro w15 M
           exact yb rfl (k70 _ _ M ⟨rfl, rfl, (by rw [h70]; rfl), trivial⟩)
          refine AF (d := 74) (b := (decide ((y.kind.toNat : Int) = (9 : Int)))) rfl (fun h74 => ?_) (fun h74 => ?_)
          ·exact yo rfl (yo rfl (yo rfl (yd rfl (yp rfl) (k74 _ _ M ⟨rfl, rfl, rfl, (by rw [h74]; rfl), trivial⟩))))
          ·exact yd rfl (yp rfl) (ym rfl rfl (M.cell 1 rfl rfl) (yd rfl (DG rfl rfl rfl) (yd rfl (yp rfl) (k74 _ _ M ⟨rfl, rfl, rfl, (by rw [h74]; rfl), trivial⟩))))
         ·iterate 4 refine yo rfl ?_
          exact C2 rfl rfl rfl rfl rfl (C2 rfl rfl rfl rfl rfl (C2 rfl rfl rfl rfl rfl (yo rfl (yb rfl (k70 _ _ M ⟨rfl, rfl, (by rw [h70]; rfl), trivial⟩)))))
        refine AF (d := 65) (b := ((HG y) && (decide (y.tries = (0 : Int))))) rfl (fun h65 => ?_) (fun h65 => ?_)
        ·exact yd rfl (yp rfl) (ym rfl rfl (M.cell 1 rfl rfl) (yd rfl (DG rfl rfl rfl) (yb rfl (k65 _ _ M ⟨rfl, rfl, (by rw [h65]; rfl), trivial⟩))))
        ·exact yo rfl (yo rfl (yo rfl (yb rfl (k65 _ _ M ⟨rfl, rfl, (by rw [h65]; rfl), trivial⟩))))
       refine AF (d := 60) (b := (HG y)) rfl (fun h60 => ?_) (fun h60 => ?_)
       ·exact yd rfl (yp rfl) (ym rfl rfl (M.cell 1 rfl rfl) (yd rfl (BC rfl rfl rfl) (yb rfl (k60 _ _ M ⟨rfl, rfl, (by rw [h60]; rfl), trivial⟩))))
       ·exact yo rfl (yo rfl (yo rfl (yb rfl (k60 _ _ M ⟨rfl, rfl, (by rw [h60]; rfl), trivial⟩))))
      ·have h49p := (And.intro (of_decide_eq_false (CD h49).1) (of_decide_eq_false (CD h49).2))
       exact AM (AD (A2 (A9 (A0 (ya rfl (AO (xs := [str [], str [], .int .u8 (y.kind.toNat : Int), str [], str y.dflt, str y.att, .int .u8 (y.ev.toNat : Int), str y.ref, str y.key, .int .i64 y.ticks, .int .i64 y.tries]) rfl rfl (M.rdBlk 0 rfl rfl) Tryz.underlying62 rfl AY) (yb rfl (yl rfl rfl (M.cell 1 rfl rfl) (ya rfl (BS (parts := [(2, _)]) rfl rfl (O3 _)) (ya rfl (XK (a := (⟨[], [], y.kind, [], y.dflt, y.att, y.ev, y.ref, y.key, y.ticks, y.tries⟩ : El)) (b := (⟨[], [], y.kind, [], [], [], 0, [], [], 0, 0⟩ : El)) rfl rfl rfl) (yb rfl (A1 (A2 (AE (AI rfl rfl ⟨by rw [YM, if_neg (BD h8), if_neg (BD h17), if_neg (BD h38), if_neg (BD h49)], M.fr⟩))))))))))))))
     refine AF (d := 53) (b := (decide ((y.kind.toNat : Int) = (8 : Int)))) rfl (fun h53 => ?_) (fun h53 => ?_)
     ·exact yo rfl (yo rfl (yo rfl (yb rfl (k53 _ _ M ⟨rfl, rfl, (by rw [h53]; rfl), trivial⟩))))
     ·exact yd rfl (yp rfl) (ym rfl rfl (M.cell 1 rfl rfl) (yd rfl (BC rfl rfl rfl) (yb rfl (k53 _ _ M ⟨rfl, rfl, (by rw [h53]; rfl), trivial⟩))))
 refine AF (d := 12) (b := (decide ((y.kind.toNat : Int) < (1 : Int)))) rfl (fun h12 => ?_) (fun h12 => ?_)
 ·exact yo rfl (yo rfl (yo rfl (yb rfl (k12 _ _ M ⟨rfl, rfl, (by rw [h12]; rfl), trivial⟩))))
 ·exact yd rfl (yp rfl) (ym rfl rfl (M.cell 1 rfl rfl) (yd rfl (FR rfl rfl rfl) (yb rfl (k12 _ _ M ⟨rfl, rfl, (by rw [h12]; rfl), trivial⟩))))
def cF (m : Md) (y : El) : Bool := Q1 m.els 4 y.inn && YM y
theorem mE (m : Md) (a : MdA) (ix : IxA) (gx gp : Nat) (y : El) (w : World) (oy : ElOk y) (_ho : MdOk m) (hx : IxAt w m a ix gx) (hp : Blk w gp 87 [.pointer (some ⟨gx, 0, none⟩)]) :
 Calls Tryz.prog 80 #[.agg y.cells.toArray, .pointer (some ⟨gp, 0, none⟩)] w fun e w' => e = .returned (.bool (cF m y)) ∧ Fr0 w w' := by
 have oy3 := oy.ref
 have oy4 := oy.key
 have oy5 := oy.id
 have oy6 := oy.nm
 have oy7 := oy.inn
 have oy8 := oy.att
 refine AL (vs := [_, _]) Tryz.func80 rfl Tryz.ntmps80 rfl ?_
 have M := CM w
 refine A9 (A0 (BG M (A4 rfl) rfl rfl 62 rfl rfl (El.cells y) rfl fun g2 w1 hg2 M => yb rfl (A1 (A2 (A9 (A0 (yb rfl (yl rfl rfl (M.cell 0 rfl rfl) (yb rfl (A1 (A2 (A9 (A9 ?_)))))))))))))
 refine A0 (yb rfl (A1 (A2 (AZ (CO (fun e wr mz => ∃ (d : Nat) (q : List UInt8), e = [(1, .pointer (some ⟨gp, 0, none⟩)), (2, .pointer (some ⟨g2, 0, none⟩)), (4, str q), (5, .int .i64 ((d : Nat) : Int))] ∧ Mem w AB [As.blk g2 62 (El.cells y)] wr ∧ (d ≤ 4) ∧ (Q1 m.els 4 y.inn = Q1 m.els (4 - d) q) ∧ mz = 4 - d) ⟨0, y.inn, rfl, M, Nat.zero_le _, rfl, rfl⟩ ⟨rfl, rfl, rfl, rfl, trivial⟩ ?_)))))
 rintro _ w2 _ ⟨d, q, rfl, M, hd, hs, rfl⟩
 refine A9 (A9 (A0 (yb rfl (ya rfl (HD rfl rfl rfl) (A1 (A2 (AR (b := (!decide (q = []))) rfl (fun h10 => ?_) (fun h10 => ?_))))))))
 ·have h10p := (of_decide_eq_false (C4 h10))
  refine AM (A2 (A9 (AZ (A9 (A0 (yl rfl rfl (Blk.c (hp.fr0 M.fr) 0 rfl) (yb rfl (yb rfl (yl rfl rfl (Blk.c ((hx.fr0 M.fr).blk) 5 rfl) (yb rfl (ya rfl (C5 rfl rfl rfl Tryz.underlying55 Tryz.underlying9 B4 ((hx.fr0 M.fr).E) (hx.getE _)) (BL M (A4 rfl) rfl rfl 62 rfl [str [], str [], .int .u8 0, str [], str [], str [], .int .u8 0, str [], str [], .int .i64 0, .int .i64 0] B4 rfl fun g6 w3 hg6 M => B8 (cs' := (El.cells ((AT m.els q).getD zeroEl))) M 0 (A4 rfl) rfl rfl rfl rfl rfl AY rfl (AQ rfl) (B3 rfl) rfl fun w4 M => ?_))))))))))))
  refine A1 (A2 (A9 (A9 (A0 (yb rfl (yl rfl rfl (M.cell 0 rfl rfl) (ya rfl (CX rfl rfl rfl) (yb rfl (AV 3 [(1, .pointer (some ⟨gp, 0, none⟩)), (2, .pointer (some ⟨g2, 0, none⟩)), (4, str q), (5, .int .i64 ((d : Nat) : Int)), (6, .pointer (some ⟨g6, 0, none⟩)), (25, .bool ((!decide ((((AT m.els q).getD zeroEl).kind.toNat : Int) = (10 : Int))) || (decide (((d : Nat) : Int) = (4 : Int)))))] (fun w' => Mem w AB [As.blk g6 62 (El.cells ((AT m.els q).getD zeroEl)), As.blk g2 62 (El.cells y)] w') ?_ (fun k22 => ?_))))))))))
  ·intro w5 M
   refine A1 (A2 (AR (b := ((!decide ((((AT m.els q).getD zeroEl).kind.toNat : Int) = (10 : Int))) || (decide (((d : Nat) : Int) = (4 : Int))))) rfl (fun h25 => ?_) (fun h25 => ?_)))
   ·have h25p := ((EK h25).imp (fun z => (of_decide_eq_false (C4 z))) (fun z => (of_decide_eq_true z)))
    exact A9 (A0 (yb rfl (A1 (A2 (AE (AA (AK (AA (AA (AK (AA (AI rfl rfl ⟨by rw [cF, hs, qH m.els h10p h25p]; rfl, M.fr⟩))))))))))))
   ·have h25p := (And.intro (of_decide_eq_true (C6 (CD h25).1)) (of_decide_eq_false (CD h25).2))
    refine AM (A2 (A0 (yb rfl (yl rfl rfl (M.cell 0 rfl rfl) (yb rfl (A1 (AD (A2 (A0 (yb rfl (ya rfl (CQ rfl rfl rfl (by omega)) (yb rfl (A1 ?_)))))))))))))
    have h10q : ¬ q = [] := h10p
    have hd4 : ¬ (d : Int) = 4 := h25p.2
    have hdlt : d < 4 := by omega
    refine BP [(1, .pointer (some ⟨gp, 0, none⟩)), (2, .pointer (some ⟨g2, 0, none⟩)), (4, str (((AT m.els q).getD zeroEl).inn)), (5, .int .i64 (((d + 1) : Nat) : Int))] (4 - (d + 1)) ⟨d + 1, ((AT m.els q).getD zeroEl).inn, rfl, (M.pick [1] (by decide)), ?_, ?_, rfl⟩ (by first | omega | (simp only [List.length_append, List.length_cons, List.length_nil]; omega)) ⟨rfl, rfl, rfl, rfl, trivial⟩
    ·omega
    ·rw [hs, cM m.els h10q hdlt h25p.1]
  refine AF (d := 22) (b := (!decide ((((AT m.els q).getD zeroEl).kind.toNat : Int) = (10 : Int)))) rfl (fun h22 => ?_) (fun h22 => ?_)
  ·exact yo rfl (yo rfl (yb rfl (k22 _ _ M ⟨rfl, rfl, rfl, rfl, rfl, (by rw [h22]; rfl), trivial⟩)))
  ·exact yd rfl (yp rfl) (yd rfl (BC rfl rfl rfl) (yb rfl (k22 _ _ M ⟨rfl, rfl, rfl, rfl, rfl, (by rw [h22]; rfl), trivial⟩)))
 ·have h10p := (of_decide_eq_true (C6 h10))
  refine CF (AJ (AJ (BE (A2 (A9 (A0 (ya rfl (AO (xs := El.cells y) rfl rfl (M.rdBlk 0 rfl rfl) Tryz.underlying62 rfl AY) (AC (some 29) (A4 rfl) rfl rfl (AG rfl rfl Tryz.call81) (rN _ _ (by assumption)) ?_))))))))
  rintro _ w6 ⟨rfl, hfw6⟩
  refine ⟨_, rfl, ?_⟩
  have M := M.step hfw6
  exact yb rfl (A1 (A2 (AE (AI rfl rfl ⟨by rw [cF, hs, qI m.els h10p]; rfl, M.fr⟩))))
def PT (m : Md) (y : Fl) : Bool := (((((AT m.els y.frm).isSome && (AT m.els y.tg).isSome) && (decide (((AT m.els y.frm).getD zeroEl).inn = ((AT m.els y.tg).getD zeroEl).inn))) && (!decide ((((AT m.els y.tg).getD zeroEl).kind.toNat : Int) = (9 : Int)))) && (!decide (y.frm = y.tg)))
theorem cJ (m : Md) (a : MdA) (ix : IxA) (gx gp : Nat) (y : Fl) (w : World) (_ho : MdOk m) (hx : IxAt w m a ix gx) (hp : Blk w gp 87 [.pointer (some ⟨gx, 0, none⟩)]) :
 Calls Tryz.prog 82 #[.agg y.cells.toArray, .pointer (some ⟨gp, 0, none⟩)] w fun e w' => e = .returned (.bool (PT m y)) ∧ Fr0 w w' := by
 refine AL (vs := [_, _]) Tryz.func82 rfl Tryz.ntmps82 rfl ?_
 have M := CM w
 refine A9 (A0 (BG M (A4 rfl) rfl rfl 65 rfl rfl (Fl.cells y) rfl fun g2 w1 hg2 M => yb rfl (A1 (A2 (A9 (D8 13 (fun w' => Mem w AB [As.blk g2 65 (Fl.cells y)] w') DT ?_))))))
 have M := M.drew
 refine oa 0 13 rfl rfl M (fun _ M => AW rfl rfl (sc rfl) (Blk.c (hp.fr0 M.fr) 0 rfl)) (oc 1 13 rfl rfl M (oc 2 13 rfl rfl M (oa 3 13 rfl rfl M (fun _ M => AW rfl rfl (sc rfl) (Blk.c ((hx.fr0 M.fr).blk) 5 rfl)) (oc 4 13 rfl rfl M (oa 5 13 rfl rfl M (fun _ M => AW rfl rfl (sc rfl) (M.cell 0 rfl rfl)) (oa 6 13 rfl rfl M (fun _ M => DE rfl rfl rfl Tryz.underlying55 Tryz.underlying9 B4 ((hx.fr0 M.fr).E) (hx.getE _) (hx.isE _)) (oc 7 13 rfl rfl M (oc 8 13 rfl rfl M (oc 9 13 rfl rfl M (B6 10 (some 4) (by kernel_rfl) rfl (A4 rfl) rfl rfl (fun ρ hρ => C0 62 rfl _ [str [], str [], .int .u8 0, str [], str [], str [], .int .u8 0, str [], str [], .int .i64 0, .int .i64 0] B4 rfl) ?_))))))))))
 rintro _ w2 ⟨g4, rfl, hg4, hq4, hb4, hfw2⟩
 refine ⟨fun _ => M.step hfw2, ?_⟩
 have M := M.push hfw2 _ hb4 (DA hg4 hq4)
 replace M : Mem w AB (As.blk g4 62 [str [], str [], .int .u8 0, str [], str [], str [], .int .u8 0, str [], str [], .int .i64 0, .int .i64 0] :: _) w2 := M
 refine B6 11 none (by kernel_rfl) rfl (A4 rfl) rfl rfl (fun ρ hρ => BT 62 _ _ rfl g4 0 62 _ (El.cells ((AT m.els y.frm).getD zeroEl)) (hρ _ _ rfl) (hρ _ _ rfl) (M.blk 0 rfl) AY (AQ rfl) (B3 rfl)) ?_
 rintro _ w3 ⟨rfl, hbw3, hfw3⟩
 replace M : Mem w AB (List.set _ 0 (As.blk g4 62 (El.cells ((AT m.els y.frm).getD zeroEl)))) w3 := M.putB 0 rfl hbw3 hfw3
 refine ⟨fun _ => M.drop 1, oc 12 13 rfl rfl (M.drop 1) (BM (by kernel_rfl) (A2 (A9 (D8 13 (fun w' => Mem w AB [As.blk g4 62 (El.cells ((AT m.els y.frm).getD zeroEl)), As.blk g2 65 (Fl.cells y)] w') DT ?_))))⟩
 have M := M.drew
 refine oa 0 13 rfl rfl M (fun _ M => AW rfl rfl (sc rfl) (Blk.c (hp.fr0 M.fr) 0 rfl)) (oc 1 13 rfl rfl M (oc 2 13 rfl rfl M (oa 3 13 rfl rfl M (fun _ M => AW rfl rfl (sc rfl) (Blk.c ((hx.fr0 M.fr).blk) 5 rfl)) (oc 4 13 rfl rfl M (oa 5 13 rfl rfl M (fun _ M => AW rfl rfl (sc rfl) (M.cell 1 rfl rfl)) (oa 6 13 rfl rfl M (fun _ M => DE rfl rfl rfl Tryz.underlying55 Tryz.underlying9 B4 ((hx.fr0 M.fr).E) (hx.getE _) (hx.isE _)) (oc 7 13 rfl rfl M (oc 8 13 rfl rfl M (oc 9 13 rfl rfl M (B6 10 (some 6) (by kernel_rfl) rfl (A4 rfl) rfl rfl (fun ρ hρ => C0 62 rfl _ [str [], str [], .int .u8 0, str [], str [], str [], .int .u8 0, str [], str [], .int .i64 0, .int .i64 0] B4 rfl) ?_))))))))))
 rintro _ w4 ⟨g6, rfl, hg6, hq6, hb6, hfw4⟩
 refine ⟨fun _ => M.step hfw4, ?_⟩
 have M := M.push hfw4 _ hb6 (DA hg6 hq6)
 replace M : Mem w AB (As.blk g6 62 [str [], str [], .int .u8 0, str [], str [], str [], .int .u8 0, str [], str [], .int .i64 0, .int .i64 0] :: _) w4 := M
 refine B6 11 none (by kernel_rfl) rfl (A4 rfl) rfl rfl (fun ρ hρ => BT 62 _ _ rfl g6 0 62 _ (El.cells ((AT m.els y.tg).getD zeroEl)) (hρ _ _ rfl) (hρ _ _ rfl) (M.blk 0 rfl) AY (AQ rfl) (B3 rfl)) ?_
 rintro _ w5 ⟨rfl, hbw5, hfw5⟩
 replace M : Mem w AB (List.set _ 0 (As.blk g6 62 (El.cells ((AT m.els y.tg).getD zeroEl)))) w5 := M.putB 0 rfl hbw5 hfw5
 refine ⟨fun _ => M.drop 1, oc 12 13 rfl rfl (M.drop 1) (BM (by kernel_rfl) (A2 (A9 (A0 (yb rfl (yb rfl (AV 2 [(2, .pointer (some ⟨g2, 0, none⟩)), (3, .bool false), (4, .pointer (some ⟨g4, 0, none⟩)), (6, .pointer (some ⟨g6, 0, none⟩)), (31, .bool ((AT m.els y.frm).isSome && (AT m.els y.tg).isSome))] (fun w' => Mem w AB [As.blk g6 62 (El.cells ((AT m.els y.tg).getD zeroEl)), As.blk g4 62 (El.cells ((AT m.els y.frm).getD zeroEl)), As.blk g2 65 (Fl.cells y)] w') ?_ (fun k29 => ?_))))))))⟩
 ·intro w6 M
  refine yb rfl (AV 6 [(2, .pointer (some ⟨g2, 0, none⟩)), (3, .bool false), (6, .pointer (some ⟨g6, 0, none⟩)), (38, .bool (((AT m.els y.frm).isSome && (AT m.els y.tg).isSome) && (decide (((AT m.els y.frm).getD zeroEl).inn = ((AT m.els y.tg).getD zeroEl).inn))))] (fun w' => Mem w AB [As.blk g6 62 (El.cells ((AT m.els y.tg).getD zeroEl)), As.blk g4 62 (El.cells ((AT m.els y.frm).getD zeroEl)), As.blk g2 65 (Fl.cells y)] w') ?_ (fun k32 => ?_))
  ·intro w7 M
   refine yb rfl (AV 4 [(2, .pointer (some ⟨g2, 0, none⟩)), (3, .bool false), (43, .bool ((((AT m.els y.frm).isSome && (AT m.els y.tg).isSome) && (decide (((AT m.els y.frm).getD zeroEl).inn = ((AT m.els y.tg).getD zeroEl).inn))) && (!decide ((((AT m.els y.tg).getD zeroEl).kind.toNat : Int) = (9 : Int)))))] (fun w' => Mem w AB [As.blk g6 62 (El.cells ((AT m.els y.tg).getD zeroEl)), As.blk g4 62 (El.cells ((AT m.els y.frm).getD zeroEl)), As.blk g2 65 (Fl.cells y)] w') ?_ (fun k39 => ?_))
   ·intro w8 M
    refine yb rfl (AV 6 [(3, .bool false), (50, .bool (((((AT m.els y.frm).isSome && (AT m.els y.tg).isSome) && (decide (((AT m.els y.frm).getD zeroEl).inn = ((AT m.els y.tg).getD zeroEl).inn))) && (!decide ((((AT m.els y.tg).getD zeroEl).kind.toNat : Int) = (9 : Int)))) && (!decide (y.frm = y.tg))))] (fun w' => Mem w AB [As.blk g6 62 (El.cells ((AT m.els y.tg).getD zeroEl)), As.blk g4 62 (El.cells ((AT m.els y.frm).getD zeroEl)), As.blk g2 65 (Fl.cells y)] w') ?_ (fun k44 => ?_))
    ·intro w9 M
     exact yb rfl (A1 (A2 (AE (AI rfl rfl ⟨by rw [PT], M.fr⟩))))
    refine AF (d := 44) (b := ((((AT m.els y.frm).isSome && (AT m.els y.tg).isSome) && (decide (((AT m.els y.frm).getD zeroEl).inn = ((AT m.els y.tg).getD zeroEl).inn))) && (!decide ((((AT m.els y.tg).getD zeroEl).kind.toNat : Int) = (9 : Int))))) rfl (fun h44 => ?_) (fun h44 => ?_)
    ·exact yd rfl (yp rfl) (ym rfl rfl (M.cell 2 rfl rfl) (yd rfl (yp rfl) (ym rfl rfl (M.cell 2 rfl rfl) (yd rfl (HD rfl rfl rfl) (yb rfl (k44 _ _ M ⟨rfl, (by rw [h44]; rfl), trivial⟩))))))
    ·iterate 5 refine yo rfl ?_
     exact yb rfl (k44 _ _ M ⟨rfl, (by rw [h44]; rfl), trivial⟩)
   refine AF (d := 39) (b := (((AT m.els y.frm).isSome && (AT m.els y.tg).isSome) && (decide (((AT m.els y.frm).getD zeroEl).inn = ((AT m.els y.tg).getD zeroEl).inn)))) rfl (fun h39 => ?_) (fun h39 => ?_)
   ·exact yd rfl (yp rfl) (ym rfl rfl (M.cell 0 rfl rfl) (yd rfl (CX rfl rfl rfl) (yb rfl (k39 _ _ M ⟨rfl, rfl, (by rw [h39]; rfl), trivial⟩))))
   ·exact yo rfl (yo rfl (yo rfl (yb rfl (k39 _ _ M ⟨rfl, rfl, (by rw [h39]; rfl), trivial⟩))))
  refine AF (d := 32) (b := ((AT m.els y.frm).isSome && (AT m.els y.tg).isSome)) rfl (fun h32 => ?_) (fun h32 => ?_)
  ·exact yd rfl (yp rfl) (ym rfl rfl (M.cell 1 rfl rfl) (yd rfl (yp rfl) (ym rfl rfl (M.cell 0 rfl rfl) (yd rfl (DG rfl rfl rfl) (yb rfl (k32 _ _ M ⟨rfl, rfl, rfl, (by rw [h32]; rfl), trivial⟩))))))
  ·iterate 5 refine yo rfl ?_
   exact yb rfl (k32 _ _ M ⟨rfl, rfl, rfl, (by rw [h32]; rfl), trivial⟩)
 refine AF (d := 29) (b := (AT m.els y.frm).isSome) rfl (fun h29 => ?_) (fun h29 => ?_)
 ·exact yd rfl (yp rfl) (yb rfl (k29 _ _ M ⟨rfl, rfl, rfl, rfl, (by rw [h29]; rfl), trivial⟩))
 ·exact yo rfl (yb rfl (k29 _ _ M ⟨rfl, rfl, rfl, rfl, (by rw [h29]; rfl), trivial⟩))
def UN (m : Md) (y : Fl) : Bool := ((!decide ((((AT m.els y.tg).getD zeroEl).kind.toNat : Int) = (8 : Int))) || (!decide ((((DD m.fls y.tg).length : Nat) : Int) = (1 : Int))))
theorem eE (m : Md) (a : MdA) (ix : IxA) (gx gp : Nat) (y : Fl) (w : World) (ho : MdOk m) (hx : IxAt w m a ix gx) (hp : Blk w gp 87 [.pointer (some ⟨gx, 0, none⟩)]) :
 Calls Tryz.prog 85 #[.agg y.cells.toArray, .pointer (some ⟨gp, 0, none⟩)] w fun e w' => e = .returned (.bool (UN m y)) ∧ Fr0 w w' := by
 have hIl := EY m.fls y.tg
 have hnf := ho.nfls
 refine AL (vs := [_, _]) Tryz.func85 rfl Tryz.ntmps85 rfl ?_
 have M := CM w
 refine A9 (A0 (BG M (A4 rfl) rfl rfl 65 rfl rfl (Fl.cells y) rfl fun g2 w1 hg2 M => yb rfl (A1 (A2 (A9 (GV DT (by kernel_rfl) ?_))))))
 have M := M.drew
 refine AU (A4 rfl) rfl rfl (AW rfl rfl (sc rfl) (Blk.c (hp.fr0 M.fr) 0 rfl)) (AU (A4 rfl) rfl rfl (yp rfl) (AU (A4 rfl) rfl rfl (yp rfl) (AU (A4 rfl) rfl rfl (AW rfl rfl (sc rfl) (Blk.c ((hx.fr0 M.fr).blk) 5 rfl)) (AU (A4 rfl) rfl rfl (yp rfl) (AU (A4 rfl) rfl rfl (AW rfl rfl (sc rfl) (M.cell 0 rfl rfl)) (AU (A4 rfl) rfl rfl (C5 rfl rfl rfl Tryz.underlying55 Tryz.underlying9 B4 ((hx.fr0 M.fr).E) (hx.getE _)) (AU (A4 rfl) rfl rfl (PP (b := ((AT m.els y.tg).getD zeroEl)) rfl rfl) (AU (A4 rfl) rfl rfl (CX rfl rfl rfl) (AU (A4 rfl) rfl rfl (yp rfl) (M8 10 [(3, .bool false), (23, .bool ((!decide ((((AT m.els y.tg).getD zeroEl).kind.toNat : Int) = (8 : Int))) || (!decide ((((DD m.fls y.tg).length : Nat) : Int) = (1 : Int)))))] ?_ (fun k13 => ?_)))))))))))
 ·exact AU (A4 rfl) rfl rfl (yp rfl) (IP (A2 (AE (AI rfl rfl ⟨by rw [UN], M.fr⟩))))
 refine GH (d := 13) (b := (!decide ((((AT m.els y.tg).getD zeroEl).kind.toNat : Int) = (8 : Int)))) rfl (fun h13 => ?_) (fun h13 => ?_)
 ·iterate 9 refine IO rfl rfl rfl rfl rfl rfl ?_
  exact AU (A4 rfl) rfl rfl (yp rfl) (k13 _ ⟨rfl, (by rw [h13]; rfl), trivial⟩)
 ·exact AU (BA rfl rfl rfl) rfl rfl (AW rfl rfl (sc rfl) (Blk.c (hp.fr0 M.fr) 0 rfl)) (AU (BA rfl rfl rfl) rfl rfl (yp rfl) (AU (BA rfl rfl rfl) rfl rfl (yp rfl) (AU (BA rfl rfl rfl) rfl rfl (AW rfl rfl (sc rfl) (Blk.c ((hx.fr0 M.fr).blk) 6 rfl)) (AU (BA rfl rfl rfl) rfl rfl (yp rfl) (AU (BA rfl rfl rfl) rfl rfl (AW rfl rfl (sc rfl) (M.cell 0 rfl rfl)) (AU (BA rfl rfl rfl) rfl rfl (C5 rfl rfl rfl Tryz.underlying137 Tryz.underlying9 zr_sl_api_Flow ((hx.fr0 M.fr).I) (hx.getI _)) (AU (BA rfl rfl rfl) rfl rfl (CY rfl rfl (sl rfl)) (AU (BA rfl rfl rfl) rfl rfl (CX rfl rfl rfl) (AU (A4 rfl) rfl rfl (yp rfl) (k13 _ ⟨rfl, (by rw [h13]; rfl), trivial⟩))))))))))
def L5 (m : Md) (y : El) : Bool := (if ((decide ((y.kind.toNat : Int) = (1 : Int))) || (decide ((y.kind.toNat : Int) = (9 : Int)))) = true then ((decide ((((DD m.fls y.id).length : Nat) : Int) = (0 : Int))) && (decide ((((BN m.fls y.id).length : Nat) : Int) = (1 : Int)))) else (if (decide ((y.kind.toNat : Int) = (2 : Int))) = true then ((decide ((((DD m.fls y.id).length : Nat) : Int) = (1 : Int))) && (decide ((((BN m.fls y.id).length : Nat) : Int) = (0 : Int)))) else (if ((decide ((y.kind.toNat : Int) = (5 : Int))) || (decide ((y.kind.toNat : Int) = (6 : Int)))) = true then ((decide ((1 : Int) ≤ (((DD m.fls y.id).length : Nat) : Int))) && (decide ((1 : Int) ≤ (((BN m.fls y.id).length : Nat) : Int)))) else (if (decide ((y.kind.toNat : Int) = (7 : Int))) = true then (if ((decide ((((DD m.fls y.id).length : Nat) : Int) = (1 : Int))) && (decide ((2 : Int) ≤ (((BN m.fls y.id).length : Nat) : Int)))) = true then (!((BN m.fls y.id).any (UN m))) else false) else ((decide ((((DD m.fls y.id).length : Nat) : Int) = (1 : Int))) && (decide ((((BN m.fls y.id).length : Nat) : Int) = (1 : Int))))))))
theorem eD (m : Md) (a : MdA) (ix : IxA) (gx gp : Nat) (y : El) (w : World) (oy : ElOk y) (ho : MdOk m) (hx : IxAt w m a ix gx) (hp : Blk w gp 87 [.pointer (some ⟨gx, 0, none⟩)]) :
 Calls Tryz.prog 83 #[.agg y.cells.toArray, .pointer (some ⟨gp, 0, none⟩)] w fun e w' => e = .returned (.bool (L5 m y)) ∧ Fr0 w w' := by
 have oy3 := oy.ref
 have oy4 := oy.key
 have oy5 := oy.id
 have oy6 := oy.nm
 have oy7 := oy.inn
 have oy8 := oy.att
 have hIl := EY m.fls y.id
 have hOl := DM m.fls y.id
 have hnf := ho.nfls
 refine AL (vs := [_, _]) Tryz.func83 rfl Tryz.ntmps83 rfl ?_
 have M := CM w
 refine A9 (A0 (BG M (A4 rfl) rfl rfl 62 rfl rfl (El.cells y) rfl fun g2 w1 hg2 M => yb rfl (A1 (A2 (A9 (GV DT (by kernel_rfl) ?_))))))
 have M := M.drew
 refine AU (A4 rfl) rfl rfl (AW rfl rfl (sc rfl) (Blk.c (hp.fr0 M.fr) 0 rfl)) (AU (A4 rfl) rfl rfl (yp rfl) (AU (A4 rfl) rfl rfl (yp rfl) (AU (A4 rfl) rfl rfl (AW rfl rfl (sc rfl) (Blk.c ((hx.fr0 M.fr).blk) 6 rfl)) (AU (A4 rfl) rfl rfl (yp rfl) (AU (A4 rfl) rfl rfl (AW rfl rfl (sc rfl) (M.cell 0 rfl rfl)) (AU (A4 rfl) rfl rfl (C5 rfl rfl rfl Tryz.underlying137 Tryz.underlying9 zr_sl_api_Flow ((hx.fr0 M.fr).I) (hx.getI _)) (AU (A4 rfl) rfl rfl (CY rfl rfl (sl rfl)) (AU (A4 rfl) rfl rfl (AW rfl rfl (sc rfl) (Blk.c (hp.fr0 M.fr) 0 rfl)) (AU (A4 rfl) rfl rfl (yp rfl) (AU (A4 rfl) rfl rfl (yp rfl) (AU (A4 rfl) rfl rfl (AW rfl rfl (sc rfl) (Blk.c ((hx.fr0 M.fr).blk) 7 rfl)) (AU (A4 rfl) rfl rfl (yp rfl) (AU (A4 rfl) rfl rfl (AW rfl rfl (sc rfl) (M.cell 0 rfl rfl)) (AU (A4 rfl) rfl rfl (C5 rfl rfl rfl Tryz.underlying137 Tryz.underlying9 zr_sl_api_Flow ((hx.fr0 M.fr).O) (hx.getO _)) (AU (A4 rfl) rfl rfl (CY rfl rfl (sl rfl)) ?_)))))))))))))))
 refine AU (A4 rfl) rfl rfl (yp rfl) (AU (A4 rfl) rfl rfl (yp rfl) (IP (A2 (A9 (A9 (A0 (yb rfl (yl rfl rfl (M.cell 0 rfl rfl) (A1 (A2 (AZ (A9 (A9 (A0 (ya rfl (BC rfl rfl rfl) ?_)))))))))))))))
 refine yb rfl (A1 (A2 (P8 [(1, .pointer (some ⟨gp, 0, none⟩)), (2, .pointer (some ⟨g2, 0, none⟩)), (4, .int .i64 (((DD m.fls y.id).length : Nat) : Int)), (5, .int .i64 (((BN m.fls y.id).length : Nat) : Int)), (23, .int .u8 (y.kind.toNat : Int)), (24, .bool ((decide ((y.kind.toNat : Int) = (1 : Int))) || (decide ((y.kind.toNat : Int) = (9 : Int)))))] (fun w' => Mem w AB [As.blk g2 62 (El.cells y)] w') ?_ (fun k24 => ?_))))
 ·intro w2 M
  refine A2 (AR (b := ((decide ((y.kind.toNat : Int) = (1 : Int))) || (decide ((y.kind.toNat : Int) = (9 : Int))))) rfl (fun h24 => ?_) (fun h24 => ?_))
  ·have h24p := ((EK h24).imp (fun z => (of_decide_eq_true z)) (fun z => (of_decide_eq_true z)))
   refine A9 (A0 (yb rfl (ya rfl (BC rfl rfl rfl) (yb rfl (AV 3 [(4, .int .i64 (((DD m.fls y.id).length : Nat) : Int)), (5, .int .i64 (((BN m.fls y.id).length : Nat) : Int)), (32, .bool ((decide ((((DD m.fls y.id).length : Nat) : Int) = (0 : Int))) && (decide ((((BN m.fls y.id).length : Nat) : Int) = (1 : Int)))))] (fun w' => Mem w AB [As.blk g2 62 (El.cells y)] w') ?_ (fun k29 => ?_))))))
   ·intro w3 M
    exact yb rfl (A1 (A2 (AE (AK (AA (AI rfl rfl ⟨by rw [L5, if_pos h24], M.fr⟩))))))
   refine AF (d := 29) (b := (decide ((((DD m.fls y.id).length : Nat) : Int) = (0 : Int)))) rfl (fun h29 => ?_) (fun h29 => ?_)
   ·exact yd rfl (yp rfl) (yd rfl (BC rfl rfl rfl) (yb rfl (k29 _ _ M ⟨rfl, rfl, (by rw [h29]; rfl), trivial⟩)))
   ·exact yo rfl (yo rfl (yb rfl (k29 _ _ M ⟨rfl, rfl, (by rw [h29]; rfl), trivial⟩)))
  ·have h24p := (And.intro (of_decide_eq_false (CD h24).1) (of_decide_eq_false (CD h24).2))
   refine A9 (A0 (ya rfl (BC rfl rfl rfl) (yb rfl (A1 (A2 (AR (b := (decide ((y.kind.toNat : Int) = (2 : Int)))) rfl (fun h33 => ?_) (fun h33 => ?_)))))))
   ·have h33p := (of_decide_eq_true h33)
    refine A9 (A0 (yb rfl (ya rfl (BC rfl rfl rfl) (yb rfl (AV 3 [(4, .int .i64 (((DD m.fls y.id).length : Nat) : Int)), (5, .int .i64 (((BN m.fls y.id).length : Nat) : Int)), (40, .bool ((decide ((((DD m.fls y.id).length : Nat) : Int) = (1 : Int))) && (decide ((((BN m.fls y.id).length : Nat) : Int) = (0 : Int)))))] (fun w' => Mem w AB [As.blk g2 62 (El.cells y)] w') ?_ (fun k37 => ?_))))))
    ·intro w4 M
     exact yb rfl (A1 (A2 (AE (AK (AA (AI rfl rfl ⟨by rw [L5, if_neg (BD h24), if_pos h33], M.fr⟩))))))
    refine AF (d := 37) (b := (decide ((((DD m.fls y.id).length : Nat) : Int) = (1 : Int)))) rfl (fun h37 => ?_) (fun h37 => ?_)
    ·exact yd rfl (yp rfl) (yd rfl (BC rfl rfl rfl) (yb rfl (k37 _ _ M ⟨rfl, rfl, (by rw [h37]; rfl), trivial⟩)))
    ·exact yo rfl (yo rfl (yb rfl (k37 _ _ M ⟨rfl, rfl, (by rw [h37]; rfl), trivial⟩)))
   ·have h33p := (of_decide_eq_false h33)
    refine A9 (A9 (A0 (ya rfl (BC rfl rfl rfl) (yb rfl (A1 (A2 (P8 [(1, .pointer (some ⟨gp, 0, none⟩)), (2, .pointer (some ⟨g2, 0, none⟩)), (4, .int .i64 (((DD m.fls y.id).length : Nat) : Int)), (5, .int .i64 (((BN m.fls y.id).length : Nat) : Int)), (23, .int .u8 (y.kind.toNat : Int)), (41, .bool ((decide ((y.kind.toNat : Int) = (5 : Int))) || (decide ((y.kind.toNat : Int) = (6 : Int)))))] (fun w' => Mem w AB [As.blk g2 62 (El.cells y)] w') ?_ (fun k41 => ?_))))))))
    ·intro w5 M
     refine A2 (AR (b := ((decide ((y.kind.toNat : Int) = (5 : Int))) || (decide ((y.kind.toNat : Int) = (6 : Int))))) rfl (fun h41 => ?_) (fun h41 => ?_))
     ·have h41p := ((EK h41).imp (fun z => (of_decide_eq_true z)) (fun z => (of_decide_eq_true z)))
      refine A9 (A0 (yb rfl (ya rfl (EP rfl rfl rfl) (yb rfl (AV 3 [(4, .int .i64 (((DD m.fls y.id).length : Nat) : Int)), (5, .int .i64 (((BN m.fls y.id).length : Nat) : Int)), (49, .bool ((decide ((1 : Int) ≤ (((DD m.fls y.id).length : Nat) : Int))) && (decide ((1 : Int) ≤ (((BN m.fls y.id).length : Nat) : Int)))))] (fun w' => Mem w AB [As.blk g2 62 (El.cells y)] w') ?_ (fun k46 => ?_))))))
      ·intro w6 M
       exact yb rfl (A1 (A2 (AE (AK (AA (AI rfl rfl ⟨by rw [L5, if_neg (BD h24), if_neg (BD h33), if_pos h41], M.fr⟩))))))
      refine AF (d := 46) (b := (decide ((1 : Int) ≤ (((DD m.fls y.id).length : Nat) : Int)))) rfl (fun h46 => ?_) (fun h46 => ?_)
      ·exact yd rfl (yp rfl) (yd rfl (EP rfl rfl rfl) (yb rfl (k46 _ _ M ⟨rfl, rfl, (by rw [h46]; rfl), trivial⟩)))
      ·exact yo rfl (yo rfl (yb rfl (k46 _ _ M ⟨rfl, rfl, (by rw [h46]; rfl), trivial⟩)))
     ·have h41p := (And.intro (of_decide_eq_false (CD h41).1) (of_decide_eq_false (CD h41).2))
      refine A9 (A0 (ya rfl (BC rfl rfl rfl) (yb rfl (A1 (A2 (AR (b := (decide ((y.kind.toNat : Int) = (7 : Int)))) rfl (fun h50 => ?_) (fun h50 => ?_)))))))
      ·have h50p := (of_decide_eq_true h50)
       refine A9 (GP 15 DT (by kernel_rfl) ?_)
       have M := M.drew
       refine AU (A4 rfl) rfl rfl (yp rfl) (AU (A4 rfl) rfl rfl (BC rfl rfl rfl) (AU (A4 rfl) rfl rfl (yp rfl) (M8 3 [(1, .pointer (some ⟨gp, 0, none⟩)), (2, .pointer (some ⟨g2, 0, none⟩)), (4, .int .i64 (((DD m.fls y.id).length : Nat) : Int)), (5, .int .i64 (((BN m.fls y.id).length : Nat) : Int)), (57, .bool ((decide ((((DD m.fls y.id).length : Nat) : Int) = (1 : Int))) && (decide ((2 : Int) ≤ (((BN m.fls y.id).length : Nat) : Int)))))] ?_ (fun k54 => ?_))))
       ·refine AU (A4 rfl) rfl rfl (yp rfl) (GH (d := 58) (b := ((decide ((((DD m.fls y.id).length : Nat) : Int) = (1 : Int))) && (decide ((2 : Int) ≤ (((BN m.fls y.id).length : Nat) : Int))))) rfl (fun h58 => ?_) (fun h58 => ?_))
        ·have h58p := (And.intro (of_decide_eq_true (C8 h58).1) (of_decide_eq_true (C8 h58).2))
         refine AU (BA rfl rfl rfl) rfl rfl (AW rfl rfl (sc rfl) (Blk.c (hp.fr0 M.fr) 0 rfl)) (AU (BA rfl rfl rfl) rfl rfl (yp rfl) (AU (BA rfl rfl rfl) rfl rfl (yp rfl) (AU (BA rfl rfl rfl) rfl rfl (AW rfl rfl (sc rfl) (Blk.c ((hx.fr0 M.fr).blk) 7 rfl)) (AU (BA rfl rfl rfl) rfl rfl (yp rfl) (AU (BA rfl rfl rfl) rfl rfl (AW rfl rfl (sc rfl) (M.cell 0 rfl rfl)) (AU (BA rfl rfl rfl) rfl rfl (C5 rfl rfl rfl Tryz.underlying137 Tryz.underlying9 zr_sl_api_Flow ((hx.fr0 M.fr).O) (hx.getO _)) (AU (BA rfl rfl rfl) rfl rfl (CT (us := []) (vs := [.pointer (some ⟨gp, 0, none⟩)]) rfl rfl rfl) (EJ (AC (some 67) (BA rfl rfl rfl) rfl rfl (AG rfl rfl Tryz.call84) (bN _ _ (BN m.fls y.id) (by have := EY m.fls; have := DM m.fls; have := ho.nfls; have := ho.nels; have := ho.nvars; first | omega | exact Nat.le_trans (EY _ _) (by omega) | exact Nat.le_trans (DM _ _) (by omega)) 85 [.pointer (some ⟨gp, 0, none⟩)] (UN m) _ (GE Tryz.call85 (fun z hz w9 hf9 => eE m a ix gx gp z w9 ho ((hx.fr0 M.fr).fr0 hf9) ((hp.fr0 M.fr).fr0 hf9))) ((hx.fr0 M.fr).rdO _)) ?_)))))))))
         rintro _ w7 ⟨rfl, hfw7⟩
         refine ⟨_, rfl, ?_⟩
         have M := M.step hfw7
         exact yd rfl (yp rfl) (yb rfl (yb rfl (A1 (A2 (AE (AK (AA (AI rfl rfl ⟨by rw [L5, if_neg (BD h24), if_neg (BD h33), if_neg (BD h41), if_pos h50, if_pos h58], M.fr⟩))))))))
        ·have h58p := ((E9 h58).imp (fun z => (of_decide_eq_false z)) (fun z => (of_decide_eq_false z)))
         iterate 8 refine IO rfl rfl rfl rfl rfl rfl ?_
         exact EJ (yo rfl (yo rfl (yb rfl (yb rfl (A1 (A2 (AE (AK (AA (AI rfl rfl ⟨by rw [L5, if_neg (BD h24), if_neg (BD h33), if_neg (BD h41), if_pos h50, if_neg (BD h58)], M.fr⟩))))))))))
       refine GH (d := 54) (b := (decide ((((DD m.fls y.id).length : Nat) : Int) = (1 : Int)))) rfl (fun h54 => ?_) (fun h54 => ?_)
       ·exact AU (BA rfl rfl rfl) rfl rfl (yp rfl) (AU (BA rfl rfl rfl) rfl rfl (EP rfl rfl rfl) (AU (A4 rfl) rfl rfl (yp rfl) (k54 _ ⟨rfl, rfl, rfl, rfl, (by rw [h54]; rfl), trivial⟩)))
       ·exact IO rfl rfl rfl rfl rfl rfl (IO rfl rfl rfl rfl rfl rfl (AU (A4 rfl) rfl rfl (yp rfl) (k54 _ ⟨rfl, rfl, rfl, rfl, (by rw [h54]; rfl), trivial⟩)))
      ·have h50p := (of_decide_eq_false h50)
       refine AM (AD (A2 (A9 (A0 (yb rfl (ya rfl (BC rfl rfl rfl) (yb rfl (AV 3 [(75, .bool ((decide ((((DD m.fls y.id).length : Nat) : Int) = (1 : Int))) && (decide ((((BN m.fls y.id).length : Nat) : Int) = (1 : Int)))))] (fun w' => Mem w AB [As.blk g2 62 (El.cells y)] w') ?_ (fun k72 => ?_)))))))))
       ·intro w8 M
        exact yb rfl (A1 (A2 (AE (AI rfl rfl ⟨by rw [L5, if_neg (BD h24), if_neg (BD h33), if_neg (BD h41), if_neg (BD h50)], M.fr⟩))))
       refine AF (d := 72) (b := (decide ((((DD m.fls y.id).length : Nat) : Int) = (1 : Int)))) rfl (fun h72 => ?_) (fun h72 => ?_)
       ·exact yd rfl (yp rfl) (yd rfl (BC rfl rfl rfl) (yb rfl (k72 _ _ M ⟨(by rw [h72]; rfl), trivial⟩)))
       ·exact yo rfl (yo rfl (yb rfl (k72 _ _ M ⟨(by rw [h72]; rfl), trivial⟩)))
    refine AR (b := (decide ((y.kind.toNat : Int) = (5 : Int)))) rfl (fun h41 => ?_) (fun h41 => ?_)
    ·exact AM (k41 _ _ M ⟨rfl, rfl, rfl, rfl, rfl, (by rw [h41]; rfl), trivial⟩)
    ·exact A0 (ya rfl (BC rfl rfl rfl) (yb rfl (A1 (k41 _ _ M ⟨rfl, rfl, rfl, rfl, rfl, (by rw [h41]; rfl), trivial⟩))))
 refine AR (b := (decide ((y.kind.toNat : Int) = (1 : Int)))) rfl (fun h24 => ?_) (fun h24 => ?_)
 ·exact AM (k24 _ _ M ⟨rfl, rfl, rfl, rfl, rfl, (by rw [h24]; rfl), trivial⟩)
 ·exact A0 (ya rfl (BC rfl rfl rfl) (yb rfl (A1 (k24 _ _ M ⟨rfl, rfl, rfl, rfl, rfl, (by rw [h24]; rfl), trivial⟩))))
theorem gP (y : El) (gy : Nat) (z : Fl) (w : World) (hb : Blk w gy 62 y.cells) :
 Calls Tryz.prog 90 #[.agg z.cells.toArray, .pointer (some ⟨gy, 0, none⟩)] w fun e w' => e = .returned (.bool (decide (z.id = y.dflt))) ∧ Fr0 w w' := by
 refine AL (vs := [_, _]) Tryz.func90 rfl Tryz.ntmps90 rfl ?_
 have M := CM w
 refine A9 (A0 (BG M (A4 rfl) rfl rfl 65 rfl rfl (Fl.cells z) rfl fun g2 w1 hg2 M => yb rfl (A1 (A2 (A9 (A0 (yb rfl (yl rfl rfl (M.cell 0 rfl rfl) (yb rfl (yl rfl rfl (Blk.c (hb.fr0 M.fr) 4 rfl) (ya rfl (DG rfl rfl rfl) (yb rfl (A1 ?_)))))))))))))
 exact A2 (AE (AI rfl rfl ⟨rfl, M.fr⟩))
def JS (m : Md) (y : El) : Bool := (if (!decide ((y.kind.toNat : Int) = (5 : Int))) = true then true else (if (decide ((((BN m.fls y.id).length : Nat) : Int) = (1 : Int))) = true then (decide (y.dflt = [])) else ((BN m.fls y.id).any (fun z => decide (z.id = y.dflt)))))
theorem mT (m : Md) (a : MdA) (ix : IxA) (gx gp : Nat) (y : El) (w : World) (oy : ElOk y) (ho : MdOk m) (hx : IxAt w m a ix gx) (hp : Blk w gp 87 [.pointer (some ⟨gx, 0, none⟩)]) :
 Calls Tryz.prog 89 #[.agg y.cells.toArray, .pointer (some ⟨gp, 0, none⟩)] w fun e w' => e = .returned (.bool (JS m y)) ∧ Fr0 w w' := by
 have oy3 := oy.ref
 have oy4 := oy.key
 have oy5 := oy.id
 have oy6 := oy.nm
 have oy7 := oy.inn
 have oy8 := oy.att
 have hOl := DM m.fls y.id
 have hnf := ho.nfls
 refine AL (vs := [_, _]) Tryz.func89 rfl Tryz.ntmps89 rfl ?_
 have M := CM w
 refine A9 (A0 (BG M (A4 rfl) rfl rfl 62 rfl rfl (El.cells y) rfl fun g2 w1 hg2 M => yb rfl (A1 (A2 (A9 (GV DT (by kernel_rfl) ?_))))))
 have M := M.drew
 refine AU (A4 rfl) rfl rfl (AW rfl rfl (sc rfl) (Blk.c (hp.fr0 M.fr) 0 rfl)) (AU (A4 rfl) rfl rfl (yp rfl) (AU (A4 rfl) rfl rfl (yp rfl) (AU (A4 rfl) rfl rfl (AW rfl rfl (sc rfl) (Blk.c ((hx.fr0 M.fr).blk) 7 rfl)) (AU (A4 rfl) rfl rfl (yp rfl) (AU (A4 rfl) rfl rfl (AW rfl rfl (sc rfl) (M.cell 0 rfl rfl)) (AU (A4 rfl) rfl rfl (C5 rfl rfl rfl Tryz.underlying137 Tryz.underlying9 zr_sl_api_Flow ((hx.fr0 M.fr).O) (hx.getO _)) (AU (A4 rfl) rfl rfl (yp rfl) (IP (A2 (A9 (AZ (A9 (A0 (yb rfl (yl rfl rfl (M.cell 0 rfl rfl) ?_)))))))))))))))
 refine ya rfl (CX rfl rfl rfl) (yb rfl (A1 (A2 (AR (b := (!decide ((y.kind.toNat : Int) = (5 : Int)))) rfl (fun h12 => ?_) (fun h12 => ?_)))))
 ·have h12p := (of_decide_eq_false (C4 h12))
  exact A9 (A0 (yb rfl (A1 (A2 (AE (AK (AA (AI rfl rfl ⟨by rw [JS, if_pos h12], M.fr⟩))))))))
 ·have h12p := (of_decide_eq_true (C6 h12))
  refine A9 (A0 (yb rfl (ya rfl (CY rfl rfl (sl rfl)) (ya rfl (BC rfl rfl rfl) (yb rfl (A1 (A2 (AR (b := (decide ((((BN m.fls y.id).length : Nat) : Int) = (1 : Int)))) rfl (fun h16 => ?_) (fun h16 => ?_)))))))))
  ·have h16p := (of_decide_eq_true h16)
   exact A9 (A0 (yb rfl (yl rfl rfl (M.cell 0 rfl rfl) (ya rfl (DG rfl rfl rfl) (yb rfl (A1 (A2 (AE (AK (AA (AI rfl rfl ⟨by rw [JS, if_neg (BD h12), if_pos h16], M.fr⟩)))))))))))
  ·have h16p := (of_decide_eq_false h16)
   refine AM (AD (A2 (A9 (A0 (yb rfl (ya rfl (CT (us := []) (vs := [.pointer (some ⟨g2, 0, none⟩)]) rfl rfl rfl) (AC (some 25) (A4 rfl) rfl rfl (AG rfl rfl Tryz.call84) (bN _ _ (BN m.fls y.id) (by have := EY m.fls; have := DM m.fls; have := ho.nfls; have := ho.nels; have := ho.nvars; first | omega | exact Nat.le_trans (EY _ _) (by omega) | exact Nat.le_trans (DM _ _) (by omega)) 90 [.pointer (some ⟨g2, 0, none⟩)] (fun z => decide (z.id = y.dflt)) _ (GE Tryz.call90 (fun z hz w9 hf9 => gP y _ z w9 ((M.blk 0 rfl).fr0 hf9))) ((hx.fr0 M.fr).rdO _)) ?_)))))))
   rintro _ w2 ⟨rfl, hfw2⟩
   refine ⟨_, rfl, ?_⟩
   have M := M.step hfw2
   exact yb rfl (A1 (A2 (AE (AI rfl rfl ⟨by rw [JS, if_neg (BD h12), if_neg (BD h16)], M.fr⟩))))
def MX (y : El) (z : Bd) : Bool := ((decide (z.name = (y).key)) && (decide ((z.v.kind.toNat : Int) = (3 : Int))))
theorem YT (y : El) (gy : Nat) (z : Bd) (w : World) (hb : Blk w gy 62 y.cells) :
 Calls Tryz.prog 99 #[.agg z.cells.toArray, .pointer (some ⟨gy, 0, none⟩)] w fun e w' => e = .returned (.bool (MX y z)) ∧ Fr0 w w' := by
 refine AL (vs := [_, _]) Tryz.func99 rfl Tryz.ntmps99 rfl ?_
 have M := CM w
 refine A9 (A0 (BG M (A4 rfl) rfl rfl 95 rfl rfl (Bd.cells z) rfl fun g2 w1 hg2 M => yb rfl (A1 (A2 (A9 (A0 (yb rfl (yl rfl rfl (M.cell 0 rfl rfl) (yb rfl (yl rfl rfl (Blk.c (hb.fr0 M.fr) 8 rfl) (ya rfl (DG rfl rfl rfl) (yb rfl (AV 5 [(3, .bool false), (14, .bool ((decide (z.name = (y).key)) && (decide ((z.v.kind.toNat : Int) = (3 : Int)))))] (fun w' => Mem w AB [As.blk g2 95 (Bd.cells z)] w') ?_ (fun k9 => ?_))))))))))))))
 ·intro w2 M
  exact yb rfl (A1 (A2 (AE (AI rfl rfl ⟨by rw [MX], M.fr⟩))))
 refine AF (d := 9) (b := (decide (z.name = (y).key))) rfl (fun h9 => ?_) (fun h9 => ?_)
 ·exact yd rfl (yp rfl) (yd rfl (yp rfl) (ym rfl rfl (M.cell 0 rfl rfl) (yd rfl (BC rfl rfl rfl) (yb rfl (k9 _ _ M ⟨rfl, (by rw [h9]; rfl), trivial⟩)))))
 ·iterate 4 refine yo rfl ?_
  exact yb rfl (k9 _ _ M ⟨rfl, (by rw [h9]; rfl), trivial⟩)
def RC (m : Md) (y : El) : Bool := ((!decide ((y.ev.toNat : Int) = (2 : Int))) || (m.vars.any (MX y)))
theorem eK (m : Md) (a : MdA) (ix : IxA) (gx gp : Nat) (y : El) (w : World) (oy : ElOk y) (ho : MdOk m) (hx : IxAt w m a ix gx) (hp : Blk w gp 87 [.pointer (some ⟨gx, 0, none⟩)]) :
 Calls Tryz.prog 97 #[.agg y.cells.toArray, .pointer (some ⟨gp, 0, none⟩)] w fun e w' => e = .returned (.bool (RC m y)) ∧ Fr0 w w' := by
 have oy3 := oy.ref
 have oy4 := oy.key
 have oy5 := oy.id
 have oy6 := oy.nm
 have oy7 := oy.inn
 have oy8 := oy.att
 refine AL (vs := [_, _]) Tryz.func97 rfl Tryz.ntmps97 rfl ?_
 have M := CM w
 refine A9 (A0 (BG M (A4 rfl) rfl rfl 62 rfl rfl (El.cells y) rfl fun g2 w1 hg2 M => yb rfl (A1 (A2 (A9 (A0 (yb rfl (yl rfl rfl (M.cell 0 rfl rfl) (ya rfl (CX rfl rfl rfl) (yb rfl (AV 8 [(3, .bool false), (15, .bool ((!decide ((y.ev.toNat : Int) = (2 : Int))) || (m.vars.any (MX y))))] (fun w' => Mem w AB [As.blk g2 62 (El.cells y)] w') ?_ (fun k7 => ?_))))))))))))
 ·intro w2 M
  exact yb rfl (A1 (A2 (AE (AI rfl rfl ⟨by rw [RC], M.fr⟩))))
 refine AF (d := 7) (b := (!decide ((y.ev.toNat : Int) = (2 : Int)))) rfl (fun h7 => ?_) (fun h7 => ?_)
 ·iterate 7 refine yo rfl ?_
  exact yb rfl (k7 _ _ M ⟨rfl, (by rw [h7]; rfl), trivial⟩)
 ·refine ym rfl rfl (Blk.c (hp.fr0 M.fr) 0 rfl) (yd rfl (yp rfl) (yd rfl (yp rfl) (yd rfl (yp rfl) (ym rfl rfl (Blk.c ((hx.fr0 M.fr).blk) 2 rfl) (yd rfl (CT (us := []) (vs := [.pointer (some ⟨g2, 0, none⟩)]) rfl rfl rfl) (AC (some 14) (BA rfl rfl rfl) rfl rfl (AG rfl rfl Tryz.call98) (p6 _ _ m.vars (by have := EY m.fls; have := DM m.fls; have := ho.nfls; have := ho.nels; have := ho.nvars; first | omega | exact Nat.le_trans (EY _ _) (by omega) | exact Nat.le_trans (DM _ _) (by omega)) 99 [.pointer (some ⟨g2, 0, none⟩)] (MX y) _ (GE Tryz.call99 (fun z hz w9 hf9 => YT y _ z w9 ((M.blk 0 rfl).fr0 hf9))) (M.rd hx.md.vars)) ?_))))))
  rintro _ w3 ⟨rfl, hfw3⟩
  refine ⟨_, rfl, ?_⟩
  have M := M.step hfw3
  exact yb rfl (k7 _ _ M ⟨rfl, (by rw [h7]; rfl), trivial⟩)
def OH (m : Md) (k : List UInt8) : Bool := (((decide ((((AT m.els k).getD zeroEl).kind.toNat : Int) = (5 : Int))) || (decide ((((AT m.els k).getD zeroEl).kind.toNat : Int) = (6 : Int)))) || (decide ((((AT m.els k).getD zeroEl).kind.toNat : Int) = (10 : Int))))
theorem W0 (m : Md) (a : MdA) (ix : IxA) (gx gp : Nat) (k : List UInt8) (w : World) (_ho : MdOk m) (hx : IxAt w m a ix gx) (hp : Blk w gp 87 [.pointer (some ⟨gx, 0, none⟩)]) :
 Calls Tryz.prog 100 #[str k, .pointer (some ⟨gp, 0, none⟩)] w fun e w' => e = .returned (.bool (OH m k)) ∧ Fr0 w w' := by
 refine AL (vs := [_, _]) Tryz.func100 rfl Tryz.ntmps100 rfl ?_
 have M := CM w
 refine A9 (A0 (yb rfl (A1 (A2 (A9 (A0 (yl rfl rfl (Blk.c (hp.fr0 M.fr) 0 rfl) (yb rfl (yb rfl (yl rfl rfl (Blk.c ((hx.fr0 M.fr).blk) 5 rfl) (yb rfl (ya rfl (C5 rfl rfl rfl Tryz.underlying55 Tryz.underlying9 B4 ((hx.fr0 M.fr).E) (hx.getE _)) (ya rfl (PP (b := ((AT m.els k).getD zeroEl)) rfl rfl) (yb rfl (A1 ?_)))))))))))))))
 refine A2 (A9 (A0 (yb rfl (ya rfl (BC rfl rfl rfl) (yb rfl (AV 3 [(3, .bool false), (4, .int .u8 (((AT m.els k).getD zeroEl).kind.toNat : Int)), (17, .bool ((decide ((((AT m.els k).getD zeroEl).kind.toNat : Int) = (5 : Int))) || (decide ((((AT m.els k).getD zeroEl).kind.toNat : Int) = (6 : Int)))))] (fun w' => Mem w AB [] w') ?_ (fun k14 => ?_)))))))
 ·intro w1 M
  refine yb rfl (AV 3 [(3, .bool false), (21, .bool (((decide ((((AT m.els k).getD zeroEl).kind.toNat : Int) = (5 : Int))) || (decide ((((AT m.els k).getD zeroEl).kind.toNat : Int) = (6 : Int)))) || (decide ((((AT m.els k).getD zeroEl).kind.toNat : Int) = (10 : Int)))))] (fun w' => Mem w AB [] w') ?_ (fun k18 => ?_))
  ·intro w2 M
   exact yb rfl (A1 (A2 (AE (AI rfl rfl ⟨by rw [OH], M.fr⟩))))
  refine AF (d := 18) (b := ((decide ((((AT m.els k).getD zeroEl).kind.toNat : Int) = (5 : Int))) || (decide ((((AT m.els k).getD zeroEl).kind.toNat : Int) = (6 : Int))))) rfl (fun h18 => ?_) (fun h18 => ?_)
  ·exact yo rfl (yo rfl (yb rfl (k18 _ _ M ⟨rfl, (by rw [h18]; rfl), trivial⟩)))
  ·exact yd rfl (yp rfl) (yd rfl (BC rfl rfl rfl) (yb rfl (k18 _ _ M ⟨rfl, (by rw [h18]; rfl), trivial⟩)))
 refine AF (d := 14) (b := (decide ((((AT m.els k).getD zeroEl).kind.toNat : Int) = (5 : Int)))) rfl (fun h14 => ?_) (fun h14 => ?_)
 ·exact yo rfl (yo rfl (yb rfl (k14 _ _ M ⟨rfl, rfl, (by rw [h14]; rfl), trivial⟩)))
 ·exact yd rfl (yp rfl) (yd rfl (BC rfl rfl rfl) (yb rfl (k14 _ _ M ⟨rfl, rfl, (by rw [h14]; rfl), trivial⟩)))
end Go.Proofs.YtadgfojhjnkliaaGreatDoor
