/- Lemmas that the last text rests on. Condition: each says its own. -/
import Derived.Test.YtjaocmocdhckaaaGreatDoorZRu1
set_option maxHeartbeats 16000000
set_option maxRecDepth 100000
namespace Go.Proofs.YtjaocmocdhckaaaGreatDoor
open Go.RowKit
open Tryz
def PD (els : List El) : Nat → List UInt8 → Bool
 | 0, s => decide (s = [])
 | n + 1, s => if s = [] then true else decide ((((BK els s).getD zeroEl).kind.toNat : Int) = 10) && PD els n ((BK els s).getD zeroEl).inn
theorem bK (els : List El) {d : Nat} {s : List UInt8} (h : ¬ s = []) (hd : d < 4) (hk : (((BK els s).getD zeroEl).kind.toNat : Int) = 10) : PD els (4 - d) s = PD els (4 - (d + 1)) ((BK els s).getD zeroEl).inn := by
 rw [show 4 - d = (4 - (d + 1)) + 1 by omega, PD, if_neg h, decide_eq_true hk]; rfl
theorem pO (els : List El) {d : Nat} {s : List UInt8} (h : ¬ s = []) (hk : ¬ (((BK els s).getD zeroEl).kind.toNat : Int) = 10 ∨ (d : Int) = 4) : PD els (4 - d) s = false := by
 rcases hk with hk | hk
 ·cases 4 - d with
  | zero => exact decide_eq_false h
  | succ n => rw [PD, if_neg h, decide_eq_false hk]; rfl
 ·rw [show 4 - d = 0 by omega]; exact decide_eq_false h
theorem pP (els : List El) {n : Nat} {s : List UInt8} (h : s = []) : PD els n s = true := by
 subst h; cases n <;> simp [PD]
theorem oK (A : Option Addr) (c : Nat) (l : List El) (hl : l.length ≤ 4611686018427387904) (f : FuncId) (cs : List Value) (p : El → Bool) (w : World) (hP : PredJ prog f cs (fun x : El => .agg x.cells.toArray) l (fun _ => p) B0 (fun _ _ => True) w) (hR : Rd w A (l.length * 11) (AH El.cells l)) :
 Calls prog 97 #[.slice A l.length c, .func (.func f) #[] cs.toArray] w (CG w (.bool (l.any p))) :=
 (kC El.cells El.len A c l hl f cs (fun _ => p) B0 (fun _ _ => True) w hP (fun _ hf => hR.fr0 hf) trivial).mono fun _ _ ⟨h1, _, h2⟩ => ⟨by rw [h1, JS], h2⟩
theorem J4 (A : Option Addr) (c : Nat) (l : List El) (hl : l.length ≤ 4611686018427387904) (f : FuncId) (cs : List Value) (p : El → Bool) (w : World) (hP : PredJ prog f cs (fun x : El => .agg x.cells.toArray) l (fun _ => p) B0 (fun _ _ => True) w) (hR : Rd w A (l.length * 11) (AH El.cells l)) :
 Calls prog 77 #[.slice A l.length c, .func (.func 78) #[] #[], .func (.func f) #[] cs.toArray] w (CG w (.tuple #[str ((ffN (fun _ => p) 0 l).elim [] (fun x => x.id)), .bool (ffN (fun _ => p) 0 l).isSome])) :=
 (WZ A c l hl f cs (fun _ => p) B0 (fun _ _ => True) w hP (fun _ hf => hR.fr0 hf) trivial).mono fun _ _ ⟨h1, _, h2⟩ => ⟨h1, h2⟩
theorem aS (A : Option Addr) (c : Nat) (l : List Fl) (hl : l.length ≤ 4611686018427387904) (f : FuncId) (cs : List Value) (p : Fl → Bool) (w : World) (hP : PredJ prog f cs (fun x : Fl => .agg x.cells.toArray) l (fun _ => p) B0 (fun _ _ => True) w) (hR : Rd w A (l.length * 4) (AH Fl.cells l)) :
 Calls prog 87 #[.slice A l.length c, .func (.func f) #[] cs.toArray] w (CG w (.bool (l.any p))) :=
 (kB Fl.cells Fl.len A c l hl f cs (fun _ => p) B0 (fun _ _ => True) w hP (fun _ hf => hR.fr0 hf) trivial).mono fun _ _ ⟨h1, _, h2⟩ => ⟨by rw [h1, JS], h2⟩
theorem TS (A : Option Addr) (c : Nat) (l : List Fl) (hl : l.length ≤ 4611686018427387904) (f : FuncId) (cs : List Value) (p : Fl → Bool) (w : World) (hP : PredJ prog f cs (fun x : Fl => .agg x.cells.toArray) l (fun _ => p) B0 (fun _ _ => True) w) (hR : Rd w A (l.length * 4) (AH Fl.cells l)) :
 Calls prog 80 #[.slice A l.length c, .func (.func 81) #[] #[], .func (.func f) #[] cs.toArray] w (CG w (.tuple #[str ((ffN (fun _ => p) 0 l).elim [] (fun x => x.id)), .bool (ffN (fun _ => p) 0 l).isSome])) :=
 (WY A c l hl f cs (fun _ => p) B0 (fun _ _ => True) w hP (fun _ hf => hR.fr0 hf) trivial).mono fun _ _ ⟨h1, _, h2⟩ => ⟨h1, h2⟩
theorem oL (A : Option Addr) (c : Nat) (l : List Bd) (hl : l.length ≤ 4611686018427387904) (f : FuncId) (cs : List Value) (p : Bd → Bool) (w : World) (hP : PredJ prog f cs (fun x : Bd => .agg x.cells.toArray) l (fun _ => p) B0 (fun _ _ => True) w) (hR : Rd w A (l.length * 5) (AH Bd.cells l)) :
 Calls prog 101 #[.slice A l.length c, .func (.func f) #[] cs.toArray] w (CG w (.bool (l.any p))) :=
 (kD Bd.cells Bd.len A c l hl f cs (fun _ => p) B0 (fun _ _ => True) w hP (fun _ hf => hR.fr0 hf) trivial).mono fun _ _ ⟨h1, _, h2⟩ => ⟨by rw [h1, JS], h2⟩
theorem PX (a2 : Int) : prog.built 69 [(2, .int .u8 a2)] = some #[str [], str [], .int .u8 a2, str [], str [], str [], .int .u8 0, str [], str [], AJ 0, AJ 0] := by kernel_rfl
theorem N6 (a2 : Int) (a10 : Int) : prog.built 69 [(2, .int .u8 a2), (10, AJ a10)] = some #[str [], str [], .int .u8 a2, str [], str [], str [], .int .u8 0, str [], str [], AJ 0, AJ a10] := by kernel_rfl
theorem NZ (a2 : Int) (a4 : List UInt8) : prog.built 69 [(2, .int .u8 a2), (4, str a4)] = some #[str [], str [], .int .u8 a2, str [], str a4, str [], .int .u8 0, str [], str [], AJ 0, AJ 0] := by kernel_rfl
theorem zr_sl_api_Flow : (prog.info? 24).map (·.zero) = some (some (.slice none 0 0)) := by kernel_rfl
def R7 (l : List UInt8) : Bool := ((decide (((l.length : Nat) : Int) ≤ (1024 : Int))) && (utf l))
theorem ZA (l : List UInt8) (w : World) (hl : (l.length : Int) < 4611686018427387904) (hT : Laid w utfL) :
 Calls prog 72 #[str l] w (CG w (.bool (R7 l))) := by
 refine C5 func72 ntmps72 rfl fun M => srg (AY rfl (AQ rfl (ya rfl (GA rfl rfl underlying9) (RW rfl rfl (yb rfl (fvm M 3 [2] [(9, .bool ((decide (((l.length : Nat) : Int) ≤ (1024 : Int))) && (utf l)))] ?_ (fun k6 => ?_)))))))
 ·intro w1 M
  exact yb rfl (gnr (gr1 rfl ⟨by rw [R7], M.fr⟩))
 refine AO (d := 6) rfl (fun h6 => ?_) (fun h6 => ?_)
 ·refine gyq rfl (B3 (some 8) (BG rfl rfl rfl) rfl rfl (AP rfl rfl call123) (KP _ _ AM (hT.fr M.fr)) ?_)
  rintro _ w2 ⟨rfl, hfw2⟩
  refine ⟨_, rfl, ?_⟩
  have M := M.step hfw2
  exact yb rfl (k6 M ⟨rfl, (by rw [h6]; rfl), trivial⟩)
 ·exact yo rfl (yo rfl (yb rfl (k6 M ⟨rfl, (by rw [h6]; rfl), trivial⟩)))
def L2 (y : El) : Bool := (if (decide ((y.ev.toNat : Int) = (1 : Int))) = true then ((((decide ((1 : Int) ≤ y.ticks)) && (decide (y.ticks ≤ (1048576 : Int)))) && (decide (y.ref = []))) && (decide (y.key = []))) else (if (decide ((y.ev.toNat : Int) = (2 : Int))) = true then (((decide (y.ticks = (0 : Int))) && (CT y.ref)) && (CT y.key)) else (if (decide ((y.ev.toNat : Int) = (3 : Int))) = true then (((decide (y.ticks = (0 : Int))) && (CT y.ref)) && (decide (y.key = []))) else false)))
theorem jO (y : El) (w : World) (oy : ElOk y) :
 Calls prog 133 #[.agg y.cells.toArray] w (CG w (.bool (L2 y))) := by
 have oy3 := oy.ref
 have oy4 := oy.key
 have oy5 := oy.id
 have oy6 := oy.nm
 have oy7 := oy.inn
 have oy8 := oy.att
 refine C5 func133 ntmps133 rfl fun M => srg (CR M rfl rfl fun g1 w1 hg1 M => AY rfl (AF (AQ rfl (BC M 0 rfl rfl rfl (nq (AS ?_))))))
 refine srg (CN rfl rfl (AY rfl (AL rfl (fun h5 => ?_) (fun h5 => ?_))))
 ·refine AQ rfl (BC M 0 rfl rfl rfl (RX rfl rfl (yb rfl (fvm M 4 [2, 1] [(14, .bool ((decide ((1 : Int) ≤ y.ticks)) && (decide (y.ticks ≤ (1048576 : Int)))))] ?_ (fun k10 => ?_)))))
  ·intro w2 M
   refine yb rfl (fvm M 4 [2, 1] [(19, .bool (((decide ((1 : Int) ≤ y.ticks)) && (decide (y.ticks ≤ (1048576 : Int)))) && (decide (y.ref = []))))] ?_ (fun k15 => ?_))
   ·intro w3 M
    refine yb rfl (fvm M 4 [2] [(24, .bool ((((decide ((1 : Int) ≤ y.ticks)) && (decide (y.ticks ≤ (1048576 : Int)))) && (decide (y.ref = []))) && (decide (y.key = []))))] ?_ (fun k20 => ?_))
    ·intro w4 M
     exact yb rfl (gnr (AN (AB (gr1 rfl ⟨by rw [L2, if_pos h5], M.fr⟩))))
    refine AO (d := 20) rfl (fun h20 => ?_) (fun h20 => ?_)
    ·exact gyq rfl (CJ M 0 rfl rfl rfl (yd rfl (DM rfl rfl rfl) (yb rfl (k20 M ⟨rfl, (by rw [h20]; rfl), trivial⟩))))
    ·exact yo rfl (yo rfl (yo rfl (yb rfl (k20 M ⟨rfl, (by rw [h20]; rfl), trivial⟩))))
   refine AO (d := 15) rfl (fun h15 => ?_) (fun h15 => ?_)
   ·exact gyq rfl (CJ M 0 rfl rfl rfl (yd rfl (DM rfl rfl rfl) (yb rfl (k15 M ⟨rfl, rfl, (by rw [h15]; rfl), trivial⟩))))
   ·exact yo rfl (yo rfl (yo rfl (yb rfl (k15 M ⟨rfl, rfl, (by rw [h15]; rfl), trivial⟩))))
  refine AO (d := 10) rfl (fun h10 => ?_) (fun h10 => ?_)
  ·exact gyq rfl (CJ M 0 rfl rfl rfl (yd rfl (GP rfl rfl rfl) (yb rfl (k10 M ⟨rfl, rfl, (by rw [h10]; rfl), trivial⟩))))
  ·exact yo rfl (yo rfl (yo rfl (yb rfl (k10 M ⟨rfl, rfl, (by rw [h10]; rfl), trivial⟩))))
 ·have h5p := (odf h5)
  refine srg (CN rfl rfl (AY rfl (AL rfl (fun h25 => ?_) (fun h25 => ?_))))
  ·have h25p := (odt h25)
   refine AQ rfl (BC M 0 rfl rfl rfl (CN rfl rfl (yb rfl (fvm M 4 [2, 1] [(34, .bool ((decide (y.ticks = (0 : Int))) && (CT y.ref)))] ?_ (fun k30 => ?_)))))
   ·intro w5 M
    refine yb rfl (fvm M 4 [2] [(39, .bool (((decide (y.ticks = (0 : Int))) && (CT y.ref)) && (CT y.key)))] ?_ (fun k35 => ?_))
    ·intro w6 M
     exact yb rfl (gnr (AN (AB (gr1 rfl ⟨by rw [L2, AT h5, if_pos h25], M.fr⟩))))
    refine AO (d := 35) rfl (fun h35 => ?_) (fun h35 => ?_)
    ·refine gyq rfl (CJ M 0 rfl rfl rfl (B3 (some 38) (BG rfl rfl rfl) rfl rfl (AP rfl rfl call67) (EI _ _ AM) ?_))
     rintro _ w7 ⟨rfl, hfw7⟩
     refine ⟨_, rfl, ?_⟩
     have M := M.step hfw7
     exact yb rfl (k35 M ⟨rfl, (by rw [h35]; rfl), trivial⟩)
    ·exact yo rfl (yo rfl (yo rfl (yb rfl (k35 M ⟨rfl, (by rw [h35]; rfl), trivial⟩))))
   refine AO (d := 30) rfl (fun h30 => ?_) (fun h30 => ?_)
   ·refine gyq rfl (CJ M 0 rfl rfl rfl (B3 (some 33) (BG rfl rfl rfl) rfl rfl (AP rfl rfl call67) (EI _ _ AM) ?_))
    rintro _ w8 ⟨rfl, hfw8⟩
    refine ⟨_, rfl, ?_⟩
    have M := M.step hfw8
    exact yb rfl (k30 M ⟨rfl, rfl, (by rw [h30]; rfl), trivial⟩)
   ·exact yo rfl (yo rfl (yo rfl (yb rfl (k30 M ⟨rfl, rfl, (by rw [h30]; rfl), trivial⟩))))
  ·have h25p := (odf h25)
   refine srg (CN rfl rfl (AY rfl (AL rfl (fun h40 => ?_) (fun h40 => ?_))))
   ·have h40p := (odt h40)
    refine AQ rfl (BC M 0 rfl rfl rfl (CN rfl rfl (yb rfl (fvm M 4 [2, 1] [(49, .bool ((decide (y.ticks = (0 : Int))) && (CT y.ref)))] ?_ (fun k45 => ?_)))))
    ·intro w9 M
     refine yb rfl (fvm M 4 [2] [(54, .bool (((decide (y.ticks = (0 : Int))) && (CT y.ref)) && (decide (y.key = []))))] ?_ (fun k50 => ?_))
     ·intro w10 M
      exact yb rfl (gnr (AN (AB (gr1 rfl ⟨by rw [L2, AT h5, AT h25, if_pos h40], M.fr⟩))))
     refine AO (d := 50) rfl (fun h50 => ?_) (fun h50 => ?_)
     ·exact gyq rfl (CJ M 0 rfl rfl rfl (yd rfl (DM rfl rfl rfl) (yb rfl (k50 M ⟨rfl, (by rw [h50]; rfl), trivial⟩))))
     ·exact yo rfl (yo rfl (yo rfl (yb rfl (k50 M ⟨rfl, (by rw [h50]; rfl), trivial⟩))))
    refine AO (d := 45) rfl (fun h45 => ?_) (fun h45 => ?_)
    ·refine gyq rfl (CJ M 0 rfl rfl rfl (B3 (some 48) (BG rfl rfl rfl) rfl rfl (AP rfl rfl call67) (EI _ _ AM) ?_))
     rintro _ w11 ⟨rfl, hfw11⟩
     refine ⟨_, rfl, ?_⟩
     have M := M.step hfw11
     exact yb rfl (k45 M ⟨rfl, rfl, (by rw [h45]; rfl), trivial⟩)
    ·exact yo rfl (yo rfl (yo rfl (yb rfl (k45 M ⟨rfl, rfl, (by rw [h45]; rfl), trivial⟩))))
   ·exact AI (AE (AD (AQ rfl (gnr (gr1 rfl ⟨by rw [L2, AT h5, AT h25, AT h40], M.fr⟩)))))
def SZ (y : El) : Bool := (if ((decide ((y.kind.toNat : Int) < (1 : Int))) || (decide ((10 : Int) < (y.kind.toNat : Int)))) = true then false else (if (decide ((y.kind.toNat : Int) = (4 : Int))) = true then (((decide ((1 : Int) ≤ y.tries)) && (decide (y.tries ≤ (100 : Int)))) && (El.same (⟨[], [], y.kind, [], y.dflt, y.att, y.ev, y.ref, y.key, y.ticks, y.tries⟩ : El) (⟨[], [], y.kind, [], [], [], 0, [], [], 0, y.tries⟩ : El))) else (if (decide ((y.kind.toNat : Int) = (5 : Int))) = true then (El.same (⟨[], [], y.kind, [], y.dflt, y.att, y.ev, y.ref, y.key, y.ticks, y.tries⟩ : El) (⟨[], [], y.kind, [], y.dflt, [], 0, [], [], 0, 0⟩ : El)) else (if ((decide ((y.kind.toNat : Int) = (8 : Int))) || (decide ((y.kind.toNat : Int) = (9 : Int)))) = true then ((((L2 y) && (decide (y.tries = (0 : Int)))) && (decide (y.dflt = []))) && ((decide ((y.kind.toNat : Int) = (9 : Int))) || (decide (y.att = [])))) else (El.same (⟨[], [], y.kind, [], y.dflt, y.att, y.ev, y.ref, y.key, y.ticks, y.tries⟩ : El) (⟨[], [], y.kind, [], [], [], 0, [], [], 0, 0⟩ : El))))))
theorem qR (y : El) (w : World) (oy : ElOk y) :
 Calls prog 84 #[.agg y.cells.toArray] w (CG w (.bool (SZ y))) := by
 have oy3 := oy.ref
 have oy4 := oy.key
 have oy5 := oy.id
 have oy6 := oy.nm
 have oy7 := oy.inn
 have oy8 := oy.att
 refine C5 func84 ntmps84 rfl fun M => srg (CR M rfl rfl fun g1 w1 hg1 M => AY rfl (srg (CW M 0 rfl rfl underlying69 B2 rfl (DC M rfl B6 fun g3 w2 hg3 M => C4 M 0 rfl rfl B2 rfl fun w3 M => AR ?_))))
 refine AD (AQ rfl (gp1 M 0 rfl rfl rfl G5 fun w4 M => yb rfl (gp1 M 0 rfl rfl rfl G5 fun w5 M => yb rfl (gp1 M 0 rfl rfl rfl G5 fun w6 M => nq (AF (AS ?_))))))
 refine AQ rfl (BC M 1 rfl rfl rfl (CF rfl rfl (yb rfl (fvm M 4 [3, 1] [(16, .bool ((decide ((y.kind.toNat : Int) < (1 : Int))) || (decide ((10 : Int) < (y.kind.toNat : Int)))))] ?_ (fun k12 => ?_)))))
 ·intro w7 M
  refine AY rfl (AL rfl (fun h8 => ?_) (fun h8 => ?_))
  ·have h8p := ((EO h8).imp (fun z => (odt z)) (fun z => (odt z)))
   exact AQ rfl (gnr (AN (AB (gr1 rfl ⟨by rw [SZ, if_pos h8], M.fr⟩))))
  ·have h8p := (And.intro (odf (CP h8).1) (odf (CP h8).2))
   refine AQ rfl (BC M 1 rfl rfl rfl (CN rfl rfl (AY rfl (AL rfl (fun h17 => ?_) (fun h17 => ?_)))))
   ·refine AQ rfl (BC M 1 rfl rfl rfl (RX rfl rfl (yb rfl (fvm M 4 [3, 1] [(28, .bool ((decide ((1 : Int) ≤ y.tries)) && (decide (y.tries ≤ (100 : Int)))))] ?_ (fun k24 => ?_)))))
    ·intro w8 M
     refine yb rfl (fvm M 8 [3, 1] [(37, .bool (((decide ((1 : Int) ≤ y.tries)) && (decide (y.tries ≤ (100 : Int)))) && (El.same (⟨[], [], y.kind, [], y.dflt, y.att, y.ev, y.ref, y.key, y.ticks, y.tries⟩ : El) (⟨[], [], y.kind, [], [], [], 0, [], [], 0, y.tries⟩ : El))))] ?_ (fun k29 => ?_))
     ·intro w9 M
      exact yb rfl (gnr (AN (AB (gr1 rfl ⟨by rw [SZ, AT h8, if_pos h17], M.fr⟩))))
     refine AO (d := 29) rfl (fun h29 => ?_) (fun h29 => ?_)
     ·exact yd rfl (AU (xs := [str [], str [], .int .u8 (y.kind.toNat : Int), str [], str y.dflt, str y.att, .int .u8 (y.ev.toNat : Int), str y.ref, str y.key, AJ y.ticks, AJ y.tries]) rfl rfl (M.rdBlk 0 rfl rfl) underlying69 rfl B2) (gyq rfl (CJ M 1 rfl rfl rfl (gyq rfl (CJ M 1 rfl rfl rfl (yd rfl (BA (parts := [(2, _), (10, _)]) rfl rfl (N6 _ _)) (yd rfl (XT (a := (⟨[], [], y.kind, [], y.dflt, y.att, y.ev, y.ref, y.key, y.ticks, y.tries⟩ : El)) (b := (⟨[], [], y.kind, [], [], [], 0, [], [], 0, y.tries⟩ : El)) rfl rfl rfl) (yb rfl (k29 M ⟨rfl, rfl, (by rw [h29]; rfl), trivial⟩))))))))
     ·iterate 7 refine yo rfl ?_
      exact yb rfl (k29 M ⟨rfl, rfl, (by rw [h29]; rfl), trivial⟩)
    refine AO (d := 24) rfl (fun h24 => ?_) (fun h24 => ?_)
    ·exact gyq rfl (CJ M 1 rfl rfl rfl (yd rfl (GP rfl rfl rfl) (yb rfl (k24 M ⟨rfl, rfl, (by rw [h24]; rfl), trivial⟩))))
    ·exact yo rfl (yo rfl (yo rfl (yb rfl (k24 M ⟨rfl, rfl, (by rw [h24]; rfl), trivial⟩))))
   ·have h17p := (odf h17)
    refine AQ rfl (BC M 1 rfl rfl rfl (CN rfl rfl (AY rfl (AL rfl (fun h38 => ?_) (fun h38 => ?_)))))
    ·refine srg (CW M 0 rfl rfl underlying69 B2 rfl (yb rfl (BC M 1 rfl rfl rfl (yb rfl (BC M 1 rfl rfl rfl (ya rfl (BA (parts := [(2, _), (4, _)]) rfl rfl (NZ _ _)) (ya rfl (XT (a := (⟨[], [], y.kind, [], y.dflt, y.att, y.ev, y.ref, y.key, y.ticks, y.tries⟩ : El)) (b := (⟨[], [], y.kind, [], y.dflt, [], 0, [], [], 0, 0⟩ : El)) rfl rfl rfl) (yb rfl (gnr (AN (AB (gr1 rfl ?_))))))))))))
     exact ⟨by rw [SZ, AT h8, AT h17, if_pos h38], M.fr⟩
    ·have h38p := (odf h38)
     refine AQ rfl (BC M 1 rfl rfl rfl (CN rfl rfl (yb rfl (fvm M 4 [3, 1] [(57, .bool ((decide ((y.kind.toNat : Int) = (8 : Int))) || (decide ((y.kind.toNat : Int) = (9 : Int)))))] ?_ (fun k53 => ?_)))))
     ·intro w10 M
      refine AY rfl (AL rfl (fun h49 => ?_) (fun h49 => ?_))
      ·have h49p := ((EO h49).imp (fun z => (odt z)) (fun z => (odt z)))
       refine srg (CW M 1 rfl rfl underlying69 B2 rfl (D4 M 59 rfl rfl call133 (jO _ _ (by assumption)) fun w11 M => yb rfl (fvm M 4 [3, 1] [(64, .bool ((L2 y) && (decide (y.tries = (0 : Int)))))] ?_ (fun k60 => ?_))))
       ·intro w12 M
        refine yb rfl (fvm M 4 [3, 1] [(69, .bool (((L2 y) && (decide (y.tries = (0 : Int)))) && (decide (y.dflt = []))))] ?_ (fun k65 => ?_))
        ·intro w13 M
         refine yb rfl (fvm M 9 [3, 1] [(79, .bool ((((L2 y) && (decide (y.tries = (0 : Int)))) && (decide (y.dflt = []))) && ((decide ((y.kind.toNat : Int) = (9 : Int))) || (decide (y.att = [])))))] ?_ (fun k70 => ?_))
         ·intro w14 M
          exact yb rfl (gnr (AN (AB (gr1 rfl ⟨by rw [SZ, AT h8, AT h17, AT h38, if_pos h49], M.fr⟩))))
         refine AO (d := 70) rfl (fun h70 => ?_) (fun h70 => ?_)
         ·refine gyq rfl (CJ M 1 rfl rfl rfl (yd rfl (BZ rfl rfl rfl) (gyq rfl (fvm M 4 [70, 3, 1] [(78, .bool ((decide ((y.kind.toNat : Int) = (9 : Int))) || (decide (y.att = []))))] ?_ (fun k74 => ?_)))))
          ·intro w15 M
           exact yb rfl (k70 M ⟨rfl, rfl, (by rw [h70]; rfl), trivial⟩)
          refine AO (d := 74) rfl (fun h74 => ?_) (fun h74 => ?_)
          ·exact yo rfl (yo rfl (yo rfl (gyq rfl (k74 M ⟨rfl, rfl, rfl, (by rw [h74]; rfl), trivial⟩))))
          ·exact gyq rfl (CJ M 1 rfl rfl rfl (yd rfl (DM rfl rfl rfl) (gyq rfl (k74 M ⟨rfl, rfl, rfl, (by rw [h74]; rfl), trivial⟩))))
         ·iterate 4 refine yo rfl ?_
          exact CB rfl rfl rfl rfl rfl (CB rfl rfl rfl rfl rfl (CB rfl rfl rfl rfl rfl (yo rfl (yb rfl (k70 M ⟨rfl, rfl, (by rw [h70]; rfl), trivial⟩)))))
        refine AO (d := 65) rfl (fun h65 => ?_) (fun h65 => ?_)
        ·exact gyq rfl (CJ M 1 rfl rfl rfl (yd rfl (DM rfl rfl rfl) (yb rfl (k65 M ⟨rfl, rfl, (by rw [h65]; rfl), trivial⟩))))
        ·exact yo rfl (yo rfl (yo rfl (yb rfl (k65 M ⟨rfl, rfl, (by rw [h65]; rfl), trivial⟩))))
       refine AO (d := 60) rfl (fun h60 => ?_) (fun h60 => ?_)
       ·exact gyq rfl (CJ M 1 rfl rfl rfl (yd rfl (BZ rfl rfl rfl) (yb rfl (k60 M ⟨rfl, rfl, (by rw [h60]; rfl), trivial⟩))))
       ·exact yo rfl (yo rfl (yo rfl (yb rfl (k60 M ⟨rfl, rfl, (by rw [h60]; rfl), trivial⟩))))
      ·exact AI (AE (AD (srg (CW M 0 rfl rfl underlying69 B2 rfl (yb rfl (BC M 1 rfl rfl rfl (ya rfl (BA (parts := [(2, _)]) rfl rfl (PX _)) (ya rfl (XT (a := (⟨[], [], y.kind, [], y.dflt, y.att, y.ev, y.ref, y.key, y.ticks, y.tries⟩ : El)) (b := (⟨[], [], y.kind, [], [], [], 0, [], [], 0, 0⟩ : El)) rfl rfl rfl) (yb rfl (gnr (gr1 rfl ⟨by rw [SZ, AT h8, AT h17, AT h38, AT h49], M.fr⟩)))))))))))
     refine AO (d := 53) rfl (fun h53 => ?_) (fun h53 => ?_)
     ·exact yo rfl (yo rfl (yo rfl (yb rfl (k53 M ⟨rfl, rfl, (by rw [h53]; rfl), trivial⟩))))
     ·exact gyq rfl (CJ M 1 rfl rfl rfl (yd rfl (BZ rfl rfl rfl) (yb rfl (k53 M ⟨rfl, rfl, (by rw [h53]; rfl), trivial⟩))))
 refine AO (d := 12) rfl (fun h12 => ?_) (fun h12 => ?_)
 ·exact yo rfl (yo rfl (yo rfl (yb rfl (k12 M ⟨rfl, rfl, (by rw [h12]; rfl), trivial⟩))))
 ·exact gyq rfl (CJ M 1 rfl rfl rfl (yd rfl (GC rfl rfl rfl) (yb rfl (k12 M ⟨rfl, rfl, (by rw [h12]; rfl), trivial⟩))))
def UA (m : Md) (y : El) : Bool := PD m.els 4 y.inn && SZ y
theorem lX (m : Md) (a : MdA) (ix : IxA) (gx gp : Nat) (y : El) (w : World) (oy : ElOk y) (_ho : MdOk m) (hx : IxAt w m a ix gx) (hp : Blk w gp 95 [pg gx]) :
 Calls prog 83 #[.agg y.cells.toArray, pg gp] w (CG w (.bool (UA m y))) := by
 have oy3 := oy.ref
 have oy4 := oy.key
 have oy5 := oy.id
 have oy6 := oy.nm
 have oy7 := oy.inn
 have oy8 := oy.att
 refine C5 func83 ntmps83 rfl fun M => srg (CR M rfl rfl fun g2 w1 hg2 M => AY rfl (AQ rfl (BC M 0 rfl rfl rfl (AY rfl (AF ?_)))))
 refine srg (AY rfl (AS (flp [2, 1] (fun ze e wr mz => ∃ (d : Nat) (q : List UInt8), e = (4, str q) :: (5, AJ ((d : Nat) : Int)) :: ze ∧ Mem w B0 [As.blk g2 69 (El.cells y)] wr ∧ (d ≤ 4) ∧ (PD m.els 4 y.inn = PD m.els (4 - d) q) ∧ mz = 4 - d) ⟨0, y.inn, rfl, M, Nat.zero_le _, rfl, rfl⟩ ?_)))
 rintro _ w2 _ ⟨d, q, rfl, M, hd, hs, rfl⟩
 refine AF (AQ rfl (ya rfl (FP rfl rfl rfl) (nq (AL rfl (fun h10 => ?_) (fun h10 => ?_)))))
 ·have h10p := (odf (CK h10))
  refine AI (AD (AF (AS (srg (yl rfl rfl (Blk.c (hp.fr0 M.fr) 0 rfl) (BM rfl rfl (yl rfl rfl (Blk.c ((hx.fr0 M.fr).blk) 5 rfl) (yb rfl (ya rfl (BT rfl rfl rfl underlying62 underlying9 B6 ((hx.fr0 M.fr).E) (hx.getE _)) (DC M rfl B6 fun g6 w3 hg6 M => C4 M 0 rfl rfl B2 rfl fun w4 M => ?_))))))))))
  refine nq (AF (AQ rfl (BC M 0 rfl rfl rfl (DA rfl rfl (yb rfl (fvm M 3 [6, 5, 4, 2, 1] [(25, .bool ((!decide ((((BK m.els q).getD zeroEl).kind.toNat : Int) = (10 : Int))) || (decide (((d : Nat) : Int) = (4 : Int)))))] ?_ (fun k22 => ?_)))))))
  ·intro w5 M
   refine nq (AL rfl (fun h25 => ?_) (fun h25 => ?_))
   ·have h25p := ((EO h25).imp (fun z => (odf (CK z))) (fun z => (odt z)))
    exact AQ rfl (gnr (AB (AN (AB (AB (AN (AB (gr1 rfl ⟨by rw [UA, hs, pO m.els h10p h25p]; rfl, M.fr⟩))))))))
   ·have h25p := (And.intro (odt (BQ (CP h25).1)) (odf (CP h25).2))
    refine AI (AD (AK (yb rfl (BC M 0 rfl rfl rfl (yb rfl (AR (AE (AD (AK (yb rfl (ya rfl (BO rfl rfl rfl AM) (yb rfl (AR ?_)))))))))))))
    have h10q : ¬ q = [] := h10p
    have hd4 : ¬ (d : Int) = 4 := h25p.2
    have hdlt : d < 4 := by omega
    refine fag ⟨d + 1, ((BK m.els q).getD zeroEl).inn, rfl, (M.pk [1]), ?_, ?_, rfl⟩
    ·omega
    ·rw [hs, bK m.els h10q hdlt h25p.1]
  refine AO (d := 22) rfl (fun h22 => ?_) (fun h22 => ?_)
  ·exact yo rfl (yo rfl (yb rfl (k22 M ⟨rfl, rfl, rfl, rfl, rfl, (by rw [h22]; rfl), trivial⟩)))
  ·exact gyq rfl (yd rfl (BZ rfl rfl rfl) (yb rfl (k22 M ⟨rfl, rfl, rfl, rfl, rfl, (by rw [h22]; rfl), trivial⟩)))
 ·have h10p := (odt (BQ h10))
  exact BF (AG (AG (AV (AD (srg (CW M 0 rfl rfl underlying69 B2 rfl (D4 M 29 rfl rfl call84 (qR _ _ (by assumption)) fun w6 M => yb rfl (gnr (gr1 rfl ⟨by rw [UA, hs, pP m.els h10p]; rfl, M.fr⟩)))))))))
def LS (m : Md) (y : Fl) : Bool := (((((BK m.els y.frm).isSome && (BK m.els y.tg).isSome) && (decide (((BK m.els y.frm).getD zeroEl).inn = ((BK m.els y.tg).getD zeroEl).inn))) && (!decide ((((BK m.els y.tg).getD zeroEl).kind.toNat : Int) = (9 : Int)))) && (!decide (y.frm = y.tg)))
theorem bH (m : Md) (a : MdA) (ix : IxA) (gx gp : Nat) (y : Fl) (w : World) (_ho : MdOk m) (hx : IxAt w m a ix gx) (hp : Blk w gp 95 [pg gx]) :
 Calls prog 85 #[.agg y.cells.toArray, pg gp] w (CG w (.bool (LS m y))) := by
 refine C5 func85 ntmps85 rfl fun M => srg (CR M rfl rfl fun g2 w1 hg2 M => AY rfl (AF (CV 13 (fun w' => Mem w B0 [As.blk g2 72 (Fl.cells y)] w') CZ ?_)))
 have M := M.drew
 refine ol 0 13 rfl rfl rfl M (fun _ M => (Blk.c (hp.fr0 M.fr) 0 rfl)) (oc 1 13 rfl rfl M (oc 2 13 rfl rfl M (ol 3 13 rfl rfl rfl M (fun _ M => (Blk.c ((hx.fr0 M.fr).blk) 5 rfl)) (oc 4 13 rfl rfl M (ol 5 13 rfl rfl rfl M (fun _ M => (M.cell 0 rfl rfl)) (oa 6 13 rfl rfl M (fun _ M => E6 rfl rfl rfl underlying62 underlying9 B6 ((hx.fr0 M.fr).E) (hx.getE _) (hx.isE _)) (oc 7 13 rfl rfl M (oc 8 13 rfl rfl M (oc 9 13 rfl rfl M (fon M 10 4 rfl rfl B6 fun g4 w2 hg4 M => fop M 11 0 rfl rfl rfl B2 rfl (·.drop 1) fun w3 M => oc 12 13 rfl rfl (M.drop 1) (fdn (AD (AF ?_)))))))))))))
 refine CV 13 (fun w' => Mem w B0 [As.blk g4 69 (El.cells ((BK m.els y.frm).getD zeroEl)), As.blk g2 72 (Fl.cells y)] w') CZ ?_
 have M := M.drew
 refine ol 0 13 rfl rfl rfl M (fun _ M => (Blk.c (hp.fr0 M.fr) 0 rfl)) (oc 1 13 rfl rfl M (oc 2 13 rfl rfl M (ol 3 13 rfl rfl rfl M (fun _ M => (Blk.c ((hx.fr0 M.fr).blk) 5 rfl)) (oc 4 13 rfl rfl M (ol 5 13 rfl rfl rfl M (fun _ M => (M.cell 1 rfl rfl)) (oa 6 13 rfl rfl M (fun _ M => E6 rfl rfl rfl underlying62 underlying9 B6 ((hx.fr0 M.fr).E) (hx.getE _) (hx.isE _)) (oc 7 13 rfl rfl M (oc 8 13 rfl rfl M (oc 9 13 rfl rfl M (fon M 10 6 rfl rfl B6 fun g6 w4 hg6 M => fop M 11 0 rfl rfl rfl B2 rfl (·.drop 1) fun w5 M => oc 12 13 rfl rfl (M.drop 1) (fdn (AD (AF ?_)))))))))))))
 refine AK (BM rfl rfl (fvm M 2 [6, 4, 3, 2] [(31, .bool ((BK m.els y.frm).isSome && (BK m.els y.tg).isSome))] ?_ (fun k29 => ?_)))
 ·intro w6 M
  refine yb rfl (fvm M 6 [6, 3, 2] [(38, .bool (((BK m.els y.frm).isSome && (BK m.els y.tg).isSome) && (decide (((BK m.els y.frm).getD zeroEl).inn = ((BK m.els y.tg).getD zeroEl).inn))))] ?_ (fun k32 => ?_))
  ·intro w7 M
   refine yb rfl (fvm M 4 [3, 2] [(43, .bool ((((BK m.els y.frm).isSome && (BK m.els y.tg).isSome) && (decide (((BK m.els y.frm).getD zeroEl).inn = ((BK m.els y.tg).getD zeroEl).inn))) && (!decide ((((BK m.els y.tg).getD zeroEl).kind.toNat : Int) = (9 : Int)))))] ?_ (fun k39 => ?_))
   ·intro w8 M
    refine yb rfl (fvm M 6 [3] [(50, .bool (((((BK m.els y.frm).isSome && (BK m.els y.tg).isSome) && (decide (((BK m.els y.frm).getD zeroEl).inn = ((BK m.els y.tg).getD zeroEl).inn))) && (!decide ((((BK m.els y.tg).getD zeroEl).kind.toNat : Int) = (9 : Int)))) && (!decide (y.frm = y.tg))))] ?_ (fun k44 => ?_))
    ·intro w9 M
     exact yb rfl (gnr (gr1 rfl ⟨by rw [LS], M.fr⟩))
    refine AO (d := 44) rfl (fun h44 => ?_) (fun h44 => ?_)
    ·exact gyq rfl (CJ M 2 rfl rfl rfl (gyq rfl (CJ M 2 rfl rfl rfl (yd rfl (FP rfl rfl rfl) (yb rfl (k44 M ⟨rfl, (by rw [h44]; rfl), trivial⟩))))))
    ·iterate 5 refine yo rfl ?_
     exact yb rfl (k44 M ⟨rfl, (by rw [h44]; rfl), trivial⟩)
   refine AO (d := 39) rfl (fun h39 => ?_) (fun h39 => ?_)
   ·exact gyq rfl (CJ M 0 rfl rfl rfl (yd rfl (E4 rfl rfl rfl) (yb rfl (k39 M ⟨rfl, rfl, (by rw [h39]; rfl), trivial⟩))))
   ·exact yo rfl (yo rfl (yo rfl (yb rfl (k39 M ⟨rfl, rfl, (by rw [h39]; rfl), trivial⟩))))
  refine AO (d := 32) rfl (fun h32 => ?_) (fun h32 => ?_)
  ·exact gyq rfl (CJ M 1 rfl rfl rfl (gyq rfl (CJ M 0 rfl rfl rfl (yd rfl (DM rfl rfl rfl) (yb rfl (k32 M ⟨rfl, rfl, rfl, (by rw [h32]; rfl), trivial⟩))))))
  ·iterate 5 refine yo rfl ?_
   exact yb rfl (k32 M ⟨rfl, rfl, rfl, (by rw [h32]; rfl), trivial⟩)
 refine AO (d := 29) rfl (fun h29 => ?_) (fun h29 => ?_)
 ·exact gyq rfl (yb rfl (k29 M ⟨rfl, rfl, rfl, rfl, (by rw [h29]; rfl), trivial⟩))
 ·exact yo rfl (yb rfl (k29 M ⟨rfl, rfl, rfl, rfl, (by rw [h29]; rfl), trivial⟩))
def NS (m : Md) (y : Fl) : Bool := ((!decide ((((BK m.els y.tg).getD zeroEl).kind.toNat : Int) = (8 : Int))) || (!decide ((((EC m.fls y.tg).length : Nat) : Int) = (1 : Int))))
theorem cX (m : Md) (a : MdA) (ix : IxA) (gx gp : Nat) (y : Fl) (w : World) (ho : MdOk m) (hx : IxAt w m a ix gx) (hp : Blk w gp 95 [pg gx]) :
 Calls prog 88 #[.agg y.cells.toArray, pg gp] w (CG w (.bool (NS m y))) := by
 have hIl := GH m.fls y.tg
 have hnf := ho.nfls
 refine C5 func88 ntmps88 rfl fun M => srg (CR M rfl rfl fun g2 w1 hg2 M => AY rfl (AF (ER CZ gkr ?_)))
 have M := M.drew
 refine sd rfl rfl (Blk.c (hp.fr0 M.fr) 0 rfl) (sb rfl (sb rfl (sd rfl rfl (Blk.c ((hx.fr0 M.fr).blk) 5 rfl) (sb rfl (FL M 0 rfl rfl rfl (sa rfl (BT rfl rfl rfl underlying62 underlying9 B6 ((hx.fr0 M.fr).E) (hx.getE _)) (sa rfl (O2 (b := ((BK m.els y.tg).getD zeroEl)) rfl rfl) (sa rfl (E4 rfl rfl rfl) (sb rfl (fvs 10 [3] [(23, .bool ((!decide ((((BK m.els y.tg).getD zeroEl).kind.toNat : Int) = (8 : Int))) || (!decide ((((EC m.fls y.tg).length : Nat) : Int) = (1 : Int)))))] ?_ (fun k13 => ?_)))))))))))
 ·exact sb rfl (FA (AD (BN (gr1 rfl ⟨by rw [NS], M.fr⟩))))
 refine DU (d := 13) rfl (fun h13 => ?_) (fun h13 => ?_)
 ·iterate 9 refine DV rfl rfl rfl rfl rfl rfl ?_
  exact sb rfl (k13 _ ⟨rfl, (by rw [h13]; rfl), trivial⟩)
 ·exact gsg rfl (BW rfl rfl (sc rfl) (Blk.c (hp.fr0 M.fr) 0 rfl)) (gsg rfl (yp rfl) (gsg rfl (yp rfl) (gsg rfl (BW rfl rfl (sc rfl) (Blk.c ((hx.fr0 M.fr).blk) 6 rfl)) (gsg rfl (yp rfl) (gsg rfl (BW rfl rfl (sc rfl) (M.cell 0 rfl rfl)) (gsg rfl (BT rfl rfl rfl underlying140 underlying9 zr_sl_api_Flow ((hx.fr0 M.fr).I) (hx.getI _)) (gsg rfl (C3 rfl rfl (sl rfl)) (gsg rfl (E4 rfl rfl rfl) (sb rfl (k13 _ ⟨rfl, (by rw [h13]; rfl), trivial⟩))))))))))
def IS (m : Md) (y : El) : Bool := (if ((decide ((y.kind.toNat : Int) = (1 : Int))) || (decide ((y.kind.toNat : Int) = (9 : Int)))) = true then ((decide ((((EC m.fls y.id).length : Nat) : Int) = (0 : Int))) && (decide ((((CE m.fls y.id).length : Nat) : Int) = (1 : Int)))) else (if (decide ((y.kind.toNat : Int) = (2 : Int))) = true then ((decide ((((EC m.fls y.id).length : Nat) : Int) = (1 : Int))) && (decide ((((CE m.fls y.id).length : Nat) : Int) = (0 : Int)))) else (if ((decide ((y.kind.toNat : Int) = (5 : Int))) || (decide ((y.kind.toNat : Int) = (6 : Int)))) = true then ((decide ((1 : Int) ≤ (((EC m.fls y.id).length : Nat) : Int))) && (decide ((1 : Int) ≤ (((CE m.fls y.id).length : Nat) : Int)))) else (if (decide ((y.kind.toNat : Int) = (7 : Int))) = true then (if ((decide ((((EC m.fls y.id).length : Nat) : Int) = (1 : Int))) && (decide ((2 : Int) ≤ (((CE m.fls y.id).length : Nat) : Int)))) = true then (!((CE m.fls y.id).any (NS m))) else false) else ((decide ((((EC m.fls y.id).length : Nat) : Int) = (1 : Int))) && (decide ((((CE m.fls y.id).length : Nat) : Int) = (1 : Int))))))))
theorem cW (m : Md) (a : MdA) (ix : IxA) (gx gp : Nat) (y : El) (w : World) (oy : ElOk y) (ho : MdOk m) (hx : IxAt w m a ix gx) (hp : Blk w gp 95 [pg gx]) :
 Calls prog 86 #[.agg y.cells.toArray, pg gp] w (CG w (.bool (IS m y))) := by
 have oy3 := oy.ref
 have oy4 := oy.key
 have oy5 := oy.id
 have oy6 := oy.nm
 have oy7 := oy.inn
 have oy8 := oy.att
 have hIl := GH m.fls y.id
 have hOl := EM m.fls y.id
 have hnf := ho.nfls
 refine C5 func86 ntmps86 rfl fun M => srg (CR M rfl rfl fun g2 w1 hg2 M => AY rfl (AF (ER CZ gkr ?_)))
 have M := M.drew
 refine sd rfl rfl (Blk.c (hp.fr0 M.fr) 0 rfl) (sb rfl (sb rfl (sd rfl rfl (Blk.c ((hx.fr0 M.fr).blk) 6 rfl) (sb rfl (FL M 0 rfl rfl rfl (sa rfl (BT rfl rfl rfl underlying140 underlying9 zr_sl_api_Flow ((hx.fr0 M.fr).I) (hx.getI _)) (sa rfl (C3 rfl rfl (sl rfl)) (sd rfl rfl (Blk.c (hp.fr0 M.fr) 0 rfl) (sb rfl (sb rfl (sd rfl rfl (Blk.c ((hx.fr0 M.fr).blk) 7 rfl) (sb rfl (FL M 0 rfl rfl rfl (sa rfl (BT rfl rfl rfl underlying140 underlying9 zr_sl_api_Flow ((hx.fr0 M.fr).O) (hx.getO _)) (sa rfl (C3 rfl rfl (sl rfl)) ?_)))))))))))))))
 refine sb rfl (sb rfl (FA (AD (AF (AQ rfl (BC M 0 rfl rfl rfl (nq (AS (AF (srg (CN rfl rfl ?_)))))))))))
 refine AY rfl (JP [(1, pg gp), (2, pg g2), (4, AJ (((EC m.fls y.id).length : Nat) : Int)), (5, AJ (((CE m.fls y.id).length : Nat) : Int)), (23, .int .u8 (y.kind.toNat : Int)), (24, .bool ((decide ((y.kind.toNat : Int) = (1 : Int))) || (decide ((y.kind.toNat : Int) = (9 : Int)))))] (fun w' => Mem w B0 [As.blk g2 69 (El.cells y)] w') ?_ (fun k24 => ?_))
 ·intro w2 M
  refine AD (AL rfl (fun h24 => ?_) (fun h24 => ?_))
  ·have h24p := ((EO h24).imp (fun z => (odt z)) (fun z => (odt z)))
   refine AQ rfl (CN rfl rfl (yb rfl (fvm M 3 [5, 4] [(32, .bool ((decide ((((EC m.fls y.id).length : Nat) : Int) = (0 : Int))) && (decide ((((CE m.fls y.id).length : Nat) : Int) = (1 : Int)))))] ?_ (fun k29 => ?_))))
   ·intro w3 M
    exact yb rfl (gnr (AN (AB (gr1 rfl ⟨by rw [IS, if_pos h24], M.fr⟩))))
   refine AO (d := 29) rfl (fun h29 => ?_) (fun h29 => ?_)
   ·exact gyq rfl (yd rfl (BZ rfl rfl rfl) (yb rfl (k29 M ⟨rfl, rfl, (by rw [h29]; rfl), trivial⟩)))
   ·exact yo rfl (yo rfl (yb rfl (k29 M ⟨rfl, rfl, (by rw [h29]; rfl), trivial⟩)))
  ·have h24p := (And.intro (odf (CP h24).1) (odf (CP h24).2))
   refine srg (CN rfl rfl (AY rfl (AL rfl (fun h33 => ?_) (fun h33 => ?_))))
   ·refine AQ rfl (CN rfl rfl (yb rfl (fvm M 3 [5, 4] [(40, .bool ((decide ((((EC m.fls y.id).length : Nat) : Int) = (1 : Int))) && (decide ((((CE m.fls y.id).length : Nat) : Int) = (0 : Int)))))] ?_ (fun k37 => ?_))))
    ·intro w4 M
     exact yb rfl (gnr (AN (AB (gr1 rfl ⟨by rw [IS, AT h24, if_pos h33], M.fr⟩))))
    refine AO (d := 37) rfl (fun h37 => ?_) (fun h37 => ?_)
    ·exact gyq rfl (yd rfl (BZ rfl rfl rfl) (yb rfl (k37 M ⟨rfl, rfl, (by rw [h37]; rfl), trivial⟩)))
    ·exact yo rfl (yo rfl (yb rfl (k37 M ⟨rfl, rfl, (by rw [h37]; rfl), trivial⟩)))
   ·have h33p := (odf h33)
    refine AF (srg (CN rfl rfl (AY rfl (JP [(1, pg gp), (2, pg g2), (4, AJ (((EC m.fls y.id).length : Nat) : Int)), (5, AJ (((CE m.fls y.id).length : Nat) : Int)), (23, .int .u8 (y.kind.toNat : Int)), (41, .bool ((decide ((y.kind.toNat : Int) = (5 : Int))) || (decide ((y.kind.toNat : Int) = (6 : Int)))))] (fun w' => Mem w B0 [As.blk g2 69 (El.cells y)] w') ?_ (fun k41 => ?_)))))
    ·intro w5 M
     refine AD (AL rfl (fun h41 => ?_) (fun h41 => ?_))
     ·have h41p := ((EO h41).imp (fun z => (odt z)) (fun z => (odt z)))
      refine AQ rfl (RX rfl rfl (yb rfl (fvm M 3 [5, 4] [(49, .bool ((decide ((1 : Int) ≤ (((EC m.fls y.id).length : Nat) : Int))) && (decide ((1 : Int) ≤ (((CE m.fls y.id).length : Nat) : Int)))))] ?_ (fun k46 => ?_))))
      ·intro w6 M
       exact yb rfl (gnr (AN (AB (gr1 rfl ⟨by rw [IS, AT h24, AT h33, if_pos h41], M.fr⟩))))
      refine AO (d := 46) rfl (fun h46 => ?_) (fun h46 => ?_)
      ·exact gyq rfl (yd rfl (FQ rfl rfl rfl) (yb rfl (k46 M ⟨rfl, rfl, (by rw [h46]; rfl), trivial⟩)))
      ·exact yo rfl (yo rfl (yb rfl (k46 M ⟨rfl, rfl, (by rw [h46]; rfl), trivial⟩)))
     ·have h41p := (And.intro (odf (CP h41).1) (odf (CP h41).2))
      refine srg (CN rfl rfl (AY rfl (AL rfl (fun h50 => ?_) (fun h50 => ?_))))
      ·have h50p := (odt h50)
       refine AF (DP 15 CZ gkr ?_)
       have M := M.drew
       refine sb rfl (sa rfl (BZ rfl rfl rfl) (sb rfl (fvs 3 [5, 4, 2, 1] [(57, .bool ((decide ((((EC m.fls y.id).length : Nat) : Int) = (1 : Int))) && (decide ((2 : Int) ≤ (((CE m.fls y.id).length : Nat) : Int)))))] ?_ (fun k54 => ?_))))
       ·refine sb rfl (DU (d := 58) rfl (fun h58 => ?_) (fun h58 => ?_))
        ·have h58p := (And.intro (odt (CL h58).1) (odt (CL h58).2))
         refine gsg rfl (BW rfl rfl (sc rfl) (Blk.c (hp.fr0 M.fr) 0 rfl)) (gsg rfl (yp rfl) (gsg rfl (yp rfl) (gsg rfl (BW rfl rfl (sc rfl) (Blk.c ((hx.fr0 M.fr).blk) 7 rfl)) (gsg rfl (yp rfl) (gsg rfl (BW rfl rfl (sc rfl) (M.cell 0 rfl rfl)) (gsg rfl (BT rfl rfl rfl underlying140 underlying9 zr_sl_api_Flow ((hx.fr0 M.fr).O) (hx.getO _)) (gsg rfl (DE (us := []) (vs := [pg gp]) rfl rfl rfl) (CS (B3 (some 67) (BG rfl rfl rfl) rfl rfl (AP rfl rfl call87) (aS _ _ (CE m.fls y.id) (by have := GH m.fls; have := EM m.fls; have := ho.nfls; have := ho.nels; have := ho.nvars; first | omega | exact Nat.le_trans (GH _ _) AM | exact Nat.le_trans (EM _ _) AM) 88 [pg gp] (NS m) _ (GN call88 (fun z hz w9 hf9 => cX m a ix gx gp z w9 ho ((hx.fr0 M.fr).fr0 hf9) ((hp.fr0 M.fr).fr0 hf9))) ((hx.fr0 M.fr).rdO _)) ?_)))))))))
         rintro _ w7 ⟨rfl, hfw7⟩
         refine ⟨_, rfl, ?_⟩
         have M := M.step hfw7
         exact gyq rfl (BM rfl rfl (gnr (AN (AB (gr1 rfl ⟨by rw [IS, AT h24, AT h33, AT h41, if_pos h50, if_pos h58], M.fr⟩)))))
        ·have h58p := ((DT h58).imp (fun z => (odf z)) (fun z => (odf z)))
         iterate 8 refine DV rfl rfl rfl rfl rfl rfl ?_
         exact CS (yo rfl (yo rfl (BM rfl rfl (gnr (AN (AB (gr1 rfl ⟨by rw [IS, AT h24, AT h33, AT h41, if_pos h50, AT h58], M.fr⟩)))))))
       refine DU (d := 54) rfl (fun h54 => ?_) (fun h54 => ?_)
       ·exact gsg rfl (yp rfl) (gsg rfl (FQ rfl rfl rfl) (sb rfl (k54 _ ⟨rfl, rfl, rfl, rfl, (by rw [h54]; rfl), trivial⟩)))
       ·exact DV rfl rfl rfl rfl rfl rfl (DV rfl rfl rfl rfl rfl rfl (sb rfl (k54 _ ⟨rfl, rfl, rfl, rfl, (by rw [h54]; rfl), trivial⟩)))
      ·refine AI (AE (AD (AQ rfl (CN rfl rfl (yb rfl (fvm M 3 [] [(75, .bool ((decide ((((EC m.fls y.id).length : Nat) : Int) = (1 : Int))) && (decide ((((CE m.fls y.id).length : Nat) : Int) = (1 : Int)))))] ?_ (fun k72 => ?_)))))))
       ·intro w8 M
        exact yb rfl (gnr (gr1 rfl ⟨by rw [IS, AT h24, AT h33, AT h41, AT h50], M.fr⟩))
       refine AO (d := 72) rfl (fun h72 => ?_) (fun h72 => ?_)
       ·exact gyq rfl (yd rfl (BZ rfl rfl rfl) (yb rfl (k72 M ⟨(by rw [h72]; rfl), trivial⟩)))
       ·exact yo rfl (yo rfl (yb rfl (k72 M ⟨(by rw [h72]; rfl), trivial⟩)))
    refine AL rfl (fun h41 => ?_) (fun h41 => ?_)
    ·exact AI (k41 _ _ M ⟨rfl, rfl, rfl, rfl, rfl, (by rw [h41]; rfl), trivial⟩)
    ·exact AK (CN rfl rfl (yb rfl (AR (k41 _ _ M ⟨rfl, rfl, rfl, rfl, rfl, (by rw [h41]; rfl), trivial⟩))))
 refine AL rfl (fun h24 => ?_) (fun h24 => ?_)
 ·exact AI (k24 _ _ M ⟨rfl, rfl, rfl, rfl, rfl, (by rw [h24]; rfl), trivial⟩)
 ·exact AK (CN rfl rfl (yb rfl (AR (k24 _ _ M ⟨rfl, rfl, rfl, rfl, rfl, (by rw [h24]; rfl), trivial⟩))))
theorem fX (y : El) (gy : Nat) (z : Fl) (w : World) (hb : Blk w gy 69 y.cells) :
 Calls prog 93 #[.agg z.cells.toArray, pg gy] w (CG w (.bool (decide (z.id = y.dflt)))) := by
 refine C5 func93 ntmps93 rfl fun M => srg (CR M rfl rfl fun g2 w1 hg2 M => AY rfl (AQ rfl (BC M 0 rfl rfl rfl (yb rfl (yl rfl rfl (Blk.c (hb.fr0 M.fr) 4 rfl) (ya rfl (DM rfl rfl rfl) (yb rfl ?_)))))))
 exact gnr (gr1 rfl ⟨rfl, M.fr⟩)
def J8 (m : Md) (y : El) : Bool := (if (!decide ((y.kind.toNat : Int) = (5 : Int))) = true then true else (if (decide ((((CE m.fls y.id).length : Nat) : Int) = (1 : Int))) = true then (decide (y.dflt = [])) else ((CE m.fls y.id).any (fun z => decide (z.id = y.dflt)))))
theorem mG (m : Md) (a : MdA) (ix : IxA) (gx gp : Nat) (y : El) (w : World) (oy : ElOk y) (ho : MdOk m) (hx : IxAt w m a ix gx) (hp : Blk w gp 95 [pg gx]) :
 Calls prog 92 #[.agg y.cells.toArray, pg gp] w (CG w (.bool (J8 m y))) := by
 have oy3 := oy.ref
 have oy4 := oy.key
 have oy5 := oy.id
 have oy6 := oy.nm
 have oy7 := oy.inn
 have oy8 := oy.att
 have hOl := EM m.fls y.id
 have hnf := ho.nfls
 refine C5 func92 ntmps92 rfl fun M => srg (CR M rfl rfl fun g2 w1 hg2 M => AY rfl (AF (ER CZ gkr ?_)))
 have M := M.drew
 refine sd rfl rfl (Blk.c (hp.fr0 M.fr) 0 rfl) (sb rfl (sb rfl (sd rfl rfl (Blk.c ((hx.fr0 M.fr).blk) 7 rfl) (sb rfl (FL M 0 rfl rfl rfl (sa rfl (BT rfl rfl rfl underlying140 underlying9 zr_sl_api_Flow ((hx.fr0 M.fr).O) (hx.getO _)) (sb rfl (FA (AD (AF (AS (AQ rfl (BC M 0 rfl rfl rfl ?_)))))))))))))
 refine DA rfl rfl (AY rfl (AL rfl (fun h12 => ?_) (fun h12 => ?_)))
 ·exact AQ rfl (gnr (AN (AB (gr1 rfl ⟨by rw [J8, if_pos h12], M.fr⟩))))
 ·have h12p := (odt (BQ h12))
  refine AQ rfl (ya rfl (C3 rfl rfl (sl rfl)) (CN rfl rfl (AY rfl (AL rfl (fun h16 => ?_) (fun h16 => ?_)))))
  ·exact AQ rfl (BC M 0 rfl rfl rfl (ya rfl (DM rfl rfl rfl) (yb rfl (gnr (AN (AB (gr1 rfl ⟨by rw [J8, AT h12, if_pos h16], M.fr⟩)))))))
  ·have h16p := (odf h16)
   exact AI (AE (AD (AQ rfl (ya rfl (DE (us := []) (vs := [pg g2]) rfl rfl rfl) (D4 M 25 rfl rfl call87 (aS _ _ (CE m.fls y.id) (by have := GH m.fls; have := EM m.fls; have := ho.nfls; have := ho.nels; have := ho.nvars; first | omega | exact Nat.le_trans (GH _ _) AM | exact Nat.le_trans (EM _ _) AM) 93 [pg g2] (fun z => decide (z.id = y.dflt)) _ (GN call93 (fun z hz w9 hf9 => fX y _ z w9 ((M.blk 0 rfl).fr0 hf9))) ((hx.fr0 M.fr).rdO _)) fun w2 M => yb rfl (gnr (gr1 rfl ⟨by rw [J8, AT h12, AT h16], M.fr⟩)))))))
def P2 (y : El) (z : Bd) : Bool := ((decide (z.name = (y).key)) && (decide ((z.v.kind.toNat : Int) = (3 : Int))))
theorem YN (y : El) (gy : Nat) (z : Bd) (w : World) (hb : Blk w gy 69 y.cells) :
 Calls prog 102 #[.agg z.cells.toArray, pg gy] w (CG w (.bool (P2 y z))) := by
 refine C5 func102 ntmps102 rfl fun M => srg (CR M rfl rfl fun g2 w1 hg2 M => AY rfl (AQ rfl (BC M 0 rfl rfl rfl (yb rfl (yl rfl rfl (Blk.c (hb.fr0 M.fr) 8 rfl) (ya rfl (DM rfl rfl rfl) (yb rfl ?_)))))))
 refine fvm M 5 [3] [(14, .bool ((decide (z.name = (y).key)) && (decide ((z.v.kind.toNat : Int) = (3 : Int)))))] ?_ (fun k9 => ?_)
 ·intro w2 M
  exact yb rfl (gnr (gr1 rfl ⟨by rw [P2], M.fr⟩))
 refine AO (d := 9) rfl (fun h9 => ?_) (fun h9 => ?_)
 ·exact gyq rfl (gyq rfl (CJ M 0 rfl rfl rfl (yd rfl (BZ rfl rfl rfl) (yb rfl (k9 M ⟨rfl, (by rw [h9]; rfl), trivial⟩)))))
 ·iterate 4 refine yo rfl ?_
  exact yb rfl (k9 M ⟨rfl, (by rw [h9]; rfl), trivial⟩)
def NV (m : Md) (y : El) : Bool := ((!decide ((y.ev.toNat : Int) = (2 : Int))) || (m.vars.any (P2 y)))
theorem dB (m : Md) (a : MdA) (ix : IxA) (gx gp : Nat) (y : El) (w : World) (oy : ElOk y) (ho : MdOk m) (hx : IxAt w m a ix gx) (hp : Blk w gp 95 [pg gx]) :
 Calls prog 100 #[.agg y.cells.toArray, pg gp] w (CG w (.bool (NV m y))) := by
 have oy3 := oy.ref
 have oy4 := oy.key
 have oy5 := oy.id
 have oy6 := oy.nm
 have oy7 := oy.inn
 have oy8 := oy.att
 refine C5 func100 ntmps100 rfl fun M => srg (CR M rfl rfl fun g2 w1 hg2 M => AY rfl (AQ rfl (BC M 0 rfl rfl rfl (DA rfl rfl (yb rfl (fvm M 8 [3] [(15, .bool ((!decide ((y.ev.toNat : Int) = (2 : Int))) || (m.vars.any (P2 y))))] ?_ (fun k7 => ?_)))))))
 ·intro w2 M
  exact yb rfl (gnr (gr1 rfl ⟨by rw [NV], M.fr⟩))
 refine AO (d := 7) rfl (fun h7 => ?_) (fun h7 => ?_)
 ·iterate 7 refine yo rfl ?_
  exact yb rfl (k7 M ⟨rfl, (by rw [h7]; rfl), trivial⟩)
 ·refine ym rfl rfl (Blk.c (hp.fr0 M.fr) 0 rfl) (gyq rfl (gyq rfl (gyq rfl (ym rfl rfl (Blk.c ((hx.fr0 M.fr).blk) 2 rfl) (yd rfl (DE (us := []) (vs := [pg g2]) rfl rfl rfl) (B3 (some 14) (BG rfl rfl rfl) rfl rfl (AP rfl rfl call101) (oL _ _ m.vars (by have := GH m.fls; have := EM m.fls; have := ho.nfls; have := ho.nels; have := ho.nvars; first | omega | exact Nat.le_trans (GH _ _) AM | exact Nat.le_trans (EM _ _) AM) 102 [pg g2] (P2 y) _ (GN call102 (fun z hz w9 hf9 => YN y _ z w9 ((M.blk 0 rfl).fr0 hf9))) (M.rd hx.md.vars)) ?_))))))
  rintro _ w3 ⟨rfl, hfw3⟩
  refine ⟨_, rfl, ?_⟩
  have M := M.step hfw3
  exact yb rfl (k7 M ⟨rfl, (by rw [h7]; rfl), trivial⟩)
def W7 (m : Md) (k : List UInt8) : Bool := (((decide ((((BK m.els k).getD zeroEl).kind.toNat : Int) = (5 : Int))) || (decide ((((BK m.els k).getD zeroEl).kind.toNat : Int) = (6 : Int)))) || (decide ((((BK m.els k).getD zeroEl).kind.toNat : Int) = (10 : Int))))
theorem WJ (m : Md) (a : MdA) (ix : IxA) (gx gp : Nat) (k : List UInt8) (w : World) (_ho : MdOk m) (hx : IxAt w m a ix gx) (hp : Blk w gp 95 [pg gx]) :
 Calls prog 103 #[str k, pg gp] w (CG w (.bool (W7 m k))) := by
 refine C5 func103 ntmps103 rfl fun M => srg (AY rfl (srg (yl rfl rfl (Blk.c (hp.fr0 M.fr) 0 rfl) (BM rfl rfl (yl rfl rfl (Blk.c ((hx.fr0 M.fr).blk) 5 rfl) (yb rfl (ya rfl (BT rfl rfl rfl underlying62 underlying9 B6 ((hx.fr0 M.fr).E) (hx.getE _)) (ya rfl (O2 (b := ((BK m.els k).getD zeroEl)) rfl rfl) (yb rfl ?_)))))))))
 refine nq (AQ rfl (CN rfl rfl (yb rfl (fvm M 3 [4, 3] [(17, .bool ((decide ((((BK m.els k).getD zeroEl).kind.toNat : Int) = (5 : Int))) || (decide ((((BK m.els k).getD zeroEl).kind.toNat : Int) = (6 : Int)))))] ?_ (fun k14 => ?_)))))
 ·intro w1 M
  refine yb rfl (fvm M 3 [3] [(21, .bool (((decide ((((BK m.els k).getD zeroEl).kind.toNat : Int) = (5 : Int))) || (decide ((((BK m.els k).getD zeroEl).kind.toNat : Int) = (6 : Int)))) || (decide ((((BK m.els k).getD zeroEl).kind.toNat : Int) = (10 : Int)))))] ?_ (fun k18 => ?_))
  ·intro w2 M
   exact yb rfl (gnr (gr1 rfl ⟨by rw [W7], M.fr⟩))
  refine AO (d := 18) rfl (fun h18 => ?_) (fun h18 => ?_)
  ·exact yo rfl (yo rfl (yb rfl (k18 M ⟨rfl, (by rw [h18]; rfl), trivial⟩)))
  ·exact gyq rfl (yd rfl (BZ rfl rfl rfl) (yb rfl (k18 M ⟨rfl, (by rw [h18]; rfl), trivial⟩)))
 refine AO (d := 14) rfl (fun h14 => ?_) (fun h14 => ?_)
 ·exact yo rfl (yo rfl (yb rfl (k14 M ⟨rfl, rfl, (by rw [h14]; rfl), trivial⟩)))
 ·exact gyq rfl (yd rfl (BZ rfl rfl rfl) (yb rfl (k14 M ⟨rfl, rfl, (by rw [h14]; rfl), trivial⟩)))
end Go.Proofs.YtjaocmocdhckaaaGreatDoor
