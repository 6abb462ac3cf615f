/- Lemmas that the last text rests on. Condition: each says its own. -/
import Derived.Test.YtaheakjfkpkefaaGreatDoorYRu1
set_option maxHeartbeats 16000000
set_option maxRecDepth 100000
namespace Go.Proofs.YtaheakjfkpkefaaGreatDoor
open Go.RowKit
open Tryz
def OS (els : List El) : Nat → List UInt8 → Bool
 | 0, s => decide (s = [])
 | n + 1, s => if s = [] then true else decide ((((B3 els s).getD zeroEl).kind.toNat : Int) = 10) && OS els n ((B3 els s).getD zeroEl).inn
theorem bQ (els : List El) {d : Nat} {s : List UInt8} (h : ¬ s = []) (hd : d < 4) (hk : (((B3 els s).getD zeroEl).kind.toNat : Int) = 10) : OS els (4 - d) s = OS els (4 - (d + 1)) ((B3 els s).getD zeroEl).inn := by
 rw [show 4 - d = (4 - (d + 1)) + 1 by omega, OS, if_neg h, decide_eq_true hk]; rfl
theorem qN (els : List El) {d : Nat} {s : List UInt8} (h : ¬ s = []) (hk : ¬ (((B3 els s).getD zeroEl).kind.toNat : Int) = 10 ∨ (d : Int) = 4) : OS els (4 - d) s = false := by
 rcases hk with hk | hk
 ·cases 4 - d with
  | zero => exact decide_eq_false h
  | succ n => rw [OS, if_neg h, decide_eq_false hk]; rfl
 ·rw [show 4 - d = 0 by omega]; exact decide_eq_false h
theorem qO (els : List El) {n : Nat} {s : List UInt8} (h : s = []) : OS els n s = true := by
 subst h; cases n <;> simp [OS]
theorem pM (A : Option Addr) (c : Nat) (l : List El) (hl : l.length ≤ 4611686018427387904) (f : FuncId) (cs : List Value) (p : El → Bool) (w : World) (hP : PredJ prog f cs (fun x : El => .agg x.cells.toArray) l (fun _ => p) AM (fun _ _ => True) w) (hR : Rd w A (l.length * 11) (AB El.cells l)) :
 Calls prog 130 #[.slice A l.length c, .func (.func f) #[] cs.toArray] w (BN w (.bool (l.any p))) :=
 (l8 El.cells El.len A c l hl f cs (fun _ => p) AM (fun _ _ => True) w hP (fun _ hf => hR.fr0 hf) trivial).mono fun _ _ ⟨h1, _, h2⟩ => ⟨by rw [h1, J1], h2⟩
theorem IA (A : Option Addr) (c : Nat) (l : List El) (hl : l.length ≤ 4611686018427387904) (f : FuncId) (cs : List Value) (p : El → Bool) (w : World) (hP : PredJ prog f cs (fun x : El => .agg x.cells.toArray) l (fun _ => p) AM (fun _ _ => True) w) (hR : Rd w A (l.length * 11) (AB El.cells l)) :
 Calls prog 110 #[.slice A l.length c, .func (.func 111) #[] #[], .func (.func f) #[] cs.toArray] w (BN w (.tuple #[str ((ffN (fun _ => p) 0 l).elim [] (fun x => x.id)), .bool (ffN (fun _ => p) 0 l).isSome])) :=
 (X4 A c l hl f cs (fun _ => p) AM (fun _ _ => True) w hP (fun _ hf => hR.fr0 hf) trivial).mono fun _ _ ⟨h1, _, h2⟩ => ⟨h1, h2⟩
theorem aV (A : Option Addr) (c : Nat) (l : List Fl) (hl : l.length ≤ 4611686018427387904) (f : FuncId) (cs : List Value) (p : Fl → Bool) (w : World) (hP : PredJ prog f cs (fun x : Fl => .agg x.cells.toArray) l (fun _ => p) AM (fun _ _ => True) w) (hR : Rd w A (l.length * 4) (AB Fl.cells l)) :
 Calls prog 120 #[.slice A l.length c, .func (.func f) #[] cs.toArray] w (BN w (.bool (l.any p))) :=
 (l7 Fl.cells Fl.len A c l hl f cs (fun _ => p) AM (fun _ _ => True) w hP (fun _ hf => hR.fr0 hf) trivial).mono fun _ _ ⟨h1, _, h2⟩ => ⟨by rw [h1, J1], h2⟩
theorem TP (A : Option Addr) (c : Nat) (l : List Fl) (hl : l.length ≤ 4611686018427387904) (f : FuncId) (cs : List Value) (p : Fl → Bool) (w : World) (hP : PredJ prog f cs (fun x : Fl => .agg x.cells.toArray) l (fun _ => p) AM (fun _ _ => True) w) (hR : Rd w A (l.length * 4) (AB Fl.cells l)) :
 Calls prog 113 #[.slice A l.length c, .func (.func 114) #[] #[], .func (.func f) #[] cs.toArray] w (BN w (.tuple #[str ((ffN (fun _ => p) 0 l).elim [] (fun x => x.id)), .bool (ffN (fun _ => p) 0 l).isSome])) :=
 (X3 A c l hl f cs (fun _ => p) AM (fun _ _ => True) w hP (fun _ hf => hR.fr0 hf) trivial).mono fun _ _ ⟨h1, _, h2⟩ => ⟨h1, h2⟩
theorem pN (A : Option Addr) (c : Nat) (l : List Bd) (hl : l.length ≤ 4611686018427387904) (f : FuncId) (cs : List Value) (p : Bd → Bool) (w : World) (hP : PredJ prog f cs (fun x : Bd => .agg x.cells.toArray) l (fun _ => p) AM (fun _ _ => True) w) (hR : Rd w A (l.length * 5) (AB Bd.cells l)) :
 Calls prog 134 #[.slice A l.length c, .func (.func f) #[] cs.toArray] w (BN w (.bool (l.any p))) :=
 (l9 Bd.cells Bd.len A c l hl f cs (fun _ => p) AM (fun _ _ => True) w hP (fun _ hf => hR.fr0 hf) trivial).mono fun _ _ ⟨h1, _, h2⟩ => ⟨by rw [h1, J1], h2⟩
theorem PC (a2 : Int) : prog.built 95 [(2, .int .u8 a2)] = some #[str [], str [], .int .u8 a2, str [], str [], str [], .int .u8 0, str [], str [], AA 0, AA 0] := by kernel_rfl
theorem MF (a2 : Int) (a10 : Int) : prog.built 95 [(2, .int .u8 a2), (10, AA a10)] = some #[str [], str [], .int .u8 a2, str [], str [], str [], .int .u8 0, str [], str [], AA 0, AA a10] := by kernel_rfl
theorem N6 (a2 : Int) (a4 : List UInt8) : prog.built 95 [(2, .int .u8 a2), (4, str a4)] = some #[str [], str [], .int .u8 a2, str [], str a4, str [], .int .u8 0, str [], str [], AA 0, AA 0] := by kernel_rfl
theorem zr_sl_api_Flow : (prog.info? 60).map (·.zero) = some (some (.slice none 0 0)) := by kernel_rfl
def QU (l : List UInt8) : Bool := ((decide (((l.length : Nat) : Int) ≤ (1024 : Int))) && (utf l))
theorem ZD (l : List UInt8) (w : World) (hl : (l.length : Int) < 4611686018427387904) (hT : Laid w utfL) :
 Calls prog 105 #[str l] w (BN w (.bool (QU l))) := by
 refine BL func105 ntmps105 rfl fun M => srg (AG rfl (AC rfl (ya rfl (EY rfl rfl underlying9) (PR rfl rfl (yb rfl (fvm M 3 [2] [(9, .bool ((decide ((l.length : Int) ≤ 1024)) && (utf l)))] ?_ (fun k6 => ?_)))))))
 ·intro w1 M
  exact yb rfl (gnr (gr1 rfl ⟨by rw [QU], M.fr⟩))
 refine AD (d := 6) rfl (fun h6 => ?_) (fun h6 => ?_)
 ·refine gyq rfl (sxl_call (some 8) (wn_on rfl rfl rfl) rfl rfl (AE rfl rfl call102) (K0 _ _ A0 (hT.fr M.fr)) ?_)
  rintro _ w2 ⟨rfl, hfw2⟩
  refine ⟨_, rfl, ?_⟩
  have M := M.step hfw2
  exact yb rfl (k6 M ⟨rfl, (by rw [h6]; rfl), trivial⟩)
 ·exact yo rfl (yo rfl (yb rfl (k6 M ⟨rfl, (by rw [h6]; rfl), trivial⟩)))
def KF (y : El) : Bool := (if (decide ((y.ev.toNat : Int) = (1 : Int))) = true then ((((decide ((1 : Int) ≤ y.ticks)) && (decide (y.ticks ≤ (1048576 : Int)))) && (decide (y.ref = []))) && (decide (y.key = []))) else (if (decide ((y.ev.toNat : Int) = (2 : Int))) = true then (((decide (y.ticks = (0 : Int))) && (BU y.ref)) && (BU y.key)) else (if (decide ((y.ev.toNat : Int) = (3 : Int))) = true then (((decide (y.ticks = (0 : Int))) && (BU y.ref)) && (decide (y.key = []))) else false)))
theorem kS (y : El) (w : World) (oy : ElOk y) :
 Calls prog 164 #[.agg y.cells.toArray] w (BN w (.bool (KF y))) := by
 have oy3 := oy.ref
 have oy4 := oy.key
 have oy5 := oy.id
 have oy6 := oy.nm
 have oy7 := oy.inn
 have oy8 := oy.att
 refine BL func164 ntmps164 rfl fun M => srg (DD M rfl rfl fun g1 w1 hg1 M => AG rfl (sx_seq (AC rfl (B2 M 0 rfl rfl rfl (nq (sx_block ?_))))))
 refine srg (C7 rfl rfl (AG rfl (AF rfl (fun h5 => ?_) (fun h5 => ?_))))
 ·refine AC rfl (B2 M 0 rfl rfl rfl (J2 rfl rfl (yb rfl (fvm M 4 [2, 1] [(14, .bool ((decide ((1 : Int) ≤ y.ticks)) && (decide (y.ticks ≤ (1048576 : Int)))))] ?_ (fun k10 => ?_)))))
  ·intro w2 M
   refine yb rfl (fvm M 4 [2, 1] [(19, .bool (((decide ((1 : Int) ≤ y.ticks)) && (decide (y.ticks ≤ (1048576 : Int)))) && (decide (y.ref = []))))] ?_ (fun k15 => ?_))
   ·intro w3 M
    refine yb rfl (fvm M 4 [2] [(24, .bool ((((decide ((1 : Int) ≤ y.ticks)) && (decide (y.ticks ≤ (1048576 : Int)))) && (decide (y.ref = []))) && (decide (y.key = []))))] ?_ (fun k20 => ?_))
    ·intro w4 M
     exact yb rfl (gnr (qx_block_ret (qx_then_ret (gr1 rfl ⟨by rw [KF, if_pos h5], M.fr⟩))))
    refine AD (d := 20) rfl (fun h20 => ?_) (fun h20 => ?_)
    ·exact gyq rfl (C3 M 0 rfl rfl rfl (yd rfl (CS rfl rfl rfl) (yb rfl (k20 M ⟨rfl, (by rw [h20]; rfl), trivial⟩))))
    ·exact yo rfl (yo rfl (yo rfl (yb rfl (k20 M ⟨rfl, (by rw [h20]; rfl), trivial⟩))))
   refine AD (d := 15) rfl (fun h15 => ?_) (fun h15 => ?_)
   ·exact gyq rfl (C3 M 0 rfl rfl rfl (yd rfl (CS rfl rfl rfl) (yb rfl (k15 M ⟨rfl, rfl, (by rw [h15]; rfl), trivial⟩))))
   ·exact yo rfl (yo rfl (yo rfl (yb rfl (k15 M ⟨rfl, rfl, (by rw [h15]; rfl), trivial⟩))))
  refine AD (d := 10) rfl (fun h10 => ?_) (fun h10 => ?_)
  ·exact gyq rfl (C3 M 0 rfl rfl rfl (yd rfl (G8 rfl rfl rfl) (yb rfl (k10 M ⟨rfl, rfl, (by rw [h10]; rfl), trivial⟩))))
  ·exact yo rfl (yo rfl (yo rfl (yb rfl (k10 M ⟨rfl, rfl, (by rw [h10]; rfl), trivial⟩))))
 ·have h5p := (odf h5)
  refine srg (C7 rfl rfl (AG rfl (AF rfl (fun h25 => ?_) (fun h25 => ?_))))
  ·have h25p := (odt h25)
   refine AC rfl (B2 M 0 rfl rfl rfl (C7 rfl rfl (yb rfl (fvm M 4 [2, 1] [(34, .bool ((decide (y.ticks = (0 : Int))) && (BU y.ref)))] ?_ (fun k30 => ?_)))))
   ·intro w5 M
    refine yb rfl (fvm M 4 [2] [(39, .bool (((decide (y.ticks = (0 : Int))) && (BU y.ref)) && (BU y.key)))] ?_ (fun k35 => ?_))
    ·intro w6 M
     exact yb rfl (gnr (qx_block_ret (qx_then_ret (gr1 rfl ⟨by rw [KF, AS h5, if_pos h25], M.fr⟩))))
    refine AD (d := 35) rfl (fun h35 => ?_) (fun h35 => ?_)
    ·refine gyq rfl (C3 M 0 rfl rfl rfl (sxl_call (some 38) (wn_on rfl rfl rfl) rfl rfl (AE rfl rfl call61) (DJ _ _ A0) ?_))
     rintro _ w7 ⟨rfl, hfw7⟩
     refine ⟨_, rfl, ?_⟩
     have M := M.step hfw7
     exact yb rfl (k35 M ⟨rfl, (by rw [h35]; rfl), trivial⟩)
    ·exact yo rfl (yo rfl (yo rfl (yb rfl (k35 M ⟨rfl, (by rw [h35]; rfl), trivial⟩))))
   refine AD (d := 30) rfl (fun h30 => ?_) (fun h30 => ?_)
   ·refine gyq rfl (C3 M 0 rfl rfl rfl (sxl_call (some 33) (wn_on rfl rfl rfl) rfl rfl (AE rfl rfl call61) (DJ _ _ A0) ?_))
    rintro _ w8 ⟨rfl, hfw8⟩
    refine ⟨_, rfl, ?_⟩
    have M := M.step hfw8
    exact yb rfl (k30 M ⟨rfl, rfl, (by rw [h30]; rfl), trivial⟩)
   ·exact yo rfl (yo rfl (yo rfl (yb rfl (k30 M ⟨rfl, rfl, (by rw [h30]; rfl), trivial⟩))))
  ·have h25p := (odf h25)
   refine srg (C7 rfl rfl (AG rfl (AF rfl (fun h40 => ?_) (fun h40 => ?_))))
   ·have h40p := (odt h40)
    refine AC rfl (B2 M 0 rfl rfl rfl (C7 rfl rfl (yb rfl (fvm M 4 [2, 1] [(49, .bool ((decide (y.ticks = (0 : Int))) && (BU y.ref)))] ?_ (fun k45 => ?_)))))
    ·intro w9 M
     refine yb rfl (fvm M 4 [2] [(54, .bool (((decide (y.ticks = (0 : Int))) && (BU y.ref)) && (decide (y.key = []))))] ?_ (fun k50 => ?_))
     ·intro w10 M
      exact yb rfl (gnr (qx_block_ret (qx_then_ret (gr1 rfl ⟨by rw [KF, AS h5, AS h25, if_pos h40], M.fr⟩))))
     refine AD (d := 50) rfl (fun h50 => ?_) (fun h50 => ?_)
     ·exact gyq rfl (C3 M 0 rfl rfl rfl (yd rfl (CS rfl rfl rfl) (yb rfl (k50 M ⟨rfl, (by rw [h50]; rfl), trivial⟩))))
     ·exact yo rfl (yo rfl (yo rfl (yb rfl (k50 M ⟨rfl, (by rw [h50]; rfl), trivial⟩))))
    refine AD (d := 45) rfl (fun h45 => ?_) (fun h45 => ?_)
    ·refine gyq rfl (C3 M 0 rfl rfl rfl (sxl_call (some 48) (wn_on rfl rfl rfl) rfl rfl (AE rfl rfl call61) (DJ _ _ A0) ?_))
     rintro _ w11 ⟨rfl, hfw11⟩
     refine ⟨_, rfl, ?_⟩
     have M := M.step hfw11
     exact yb rfl (k45 M ⟨rfl, rfl, (by rw [h45]; rfl), trivial⟩)
    ·exact yo rfl (yo rfl (yo rfl (yb rfl (k45 M ⟨rfl, rfl, (by rw [h45]; rfl), trivial⟩))))
   ·exact sx_skip (qx_block_normal (qx_seq (AC rfl (gnr (gr1 rfl ⟨by rw [KF, AS h5, AS h25, AS h40], M.fr⟩)))))
def WU (y : El) : Bool := (if ((decide ((y.kind.toNat : Int) < (1 : Int))) || (decide ((10 : Int) < (y.kind.toNat : Int)))) = true then false else (if (decide ((y.kind.toNat : Int) = (4 : Int))) = true then (((decide ((1 : Int) ≤ y.tries)) && (decide (y.tries ≤ (100 : Int)))) && (El.same (⟨[], [], y.kind, [], y.dflt, y.att, y.ev, y.ref, y.key, y.ticks, y.tries⟩ : El) (⟨[], [], y.kind, [], [], [], 0, [], [], 0, y.tries⟩ : El))) else (if (decide ((y.kind.toNat : Int) = (5 : Int))) = true then (El.same (⟨[], [], y.kind, [], y.dflt, y.att, y.ev, y.ref, y.key, y.ticks, y.tries⟩ : El) (⟨[], [], y.kind, [], y.dflt, [], 0, [], [], 0, 0⟩ : El)) else (if ((decide ((y.kind.toNat : Int) = (8 : Int))) || (decide ((y.kind.toNat : Int) = (9 : Int)))) = true then ((((KF y) && (decide (y.tries = (0 : Int)))) && (decide (y.dflt = []))) && ((decide ((y.kind.toNat : Int) = (9 : Int))) || (decide (y.att = [])))) else (El.same (⟨[], [], y.kind, [], y.dflt, y.att, y.ev, y.ref, y.key, y.ticks, y.tries⟩ : El) (⟨[], [], y.kind, [], [], [], 0, [], [], 0, 0⟩ : El))))))
theorem rR (y : El) (w : World) (oy : ElOk y) :
 Calls prog 117 #[.agg y.cells.toArray] w (BN w (.bool (WU y))) := by
 have oy3 := oy.ref
 have oy4 := oy.key
 have oy5 := oy.id
 have oy6 := oy.nm
 have oy7 := oy.inn
 have oy8 := oy.att
 refine BL func117 ntmps117 rfl fun M => srg (DD M rfl rfl fun g1 w1 hg1 M => AG rfl (srg (DO M 0 rfl rfl underlying95 AK rfl (CO M rfl AQ fun g3 w2 hg3 M => C2 M 0 rfl rfl AK rfl fun w3 M => sxl_nil ?_))))
 refine qx_seq (AC rfl (gp1 M 0 rfl rfl rfl FN fun w4 M => yb rfl (gp1 M 0 rfl rfl rfl FN fun w5 M => yb rfl (gp1 M 0 rfl rfl rfl FN fun w6 M => nq (sx_seq (sx_block ?_))))))
 refine AC rfl (B2 M 1 rfl rfl rfl (BM rfl rfl (yb rfl (fvm M 4 [3, 1] [(16, .bool ((decide ((y.kind.toNat : Int) < 1)) || (decide (10 < (y.kind.toNat : Int)))))] ?_ (fun k12 => ?_)))))
 ·intro w7 M
  refine AG rfl (AF rfl (fun h8 => ?_) (fun h8 => ?_))
  ·have h8p := ((E6 h8).imp (fun z => (odt z)) (fun z => (odt z)))
   exact AC rfl (gnr (qx_block_ret (qx_then_ret (gr1 rfl ⟨by rw [WU, if_pos h8], M.fr⟩))))
  ·have h8p := (And.intro (odf (BT h8).1) (odf (BT h8).2))
   refine AC rfl (B2 M 1 rfl rfl rfl (C7 rfl rfl (AG rfl (AF rfl (fun h17 => ?_) (fun h17 => ?_)))))
   ·refine AC rfl (B2 M 1 rfl rfl rfl (J2 rfl rfl (yb rfl (fvm M 4 [3, 1] [(28, .bool ((decide ((1 : Int) ≤ y.tries)) && (decide (y.tries ≤ (100 : Int)))))] ?_ (fun k24 => ?_)))))
    ·intro w8 M
     refine yb rfl (fvm M 8 [3, 1] [(37, .bool (((decide ((1 : Int) ≤ y.tries)) && (decide (y.tries ≤ (100 : Int)))) && (El.same (⟨[], [], y.kind, [], y.dflt, y.att, y.ev, y.ref, y.key, y.ticks, y.tries⟩ : El) (⟨[], [], y.kind, [], [], [], 0, [], [], 0, y.tries⟩ : El))))] ?_ (fun k29 => ?_))
     ·intro w9 M
      exact yb rfl (gnr (qx_block_ret (qx_then_ret (gr1 rfl ⟨by rw [WU, AS h8, if_pos h17], M.fr⟩))))
     refine AD (d := 29) rfl (fun h29 => ?_) (fun h29 => ?_)
     ·exact yd rfl (AH (xs := [str [], str [], .int .u8 (y.kind.toNat : Int), str [], str y.dflt, str y.att, .int .u8 (y.ev.toNat : Int), str y.ref, str y.key, AA y.ticks, AA y.tries]) rfl rfl (M.rdBlk 0 rfl rfl) underlying95 rfl AK) (gyq rfl (C3 M 1 rfl rfl rfl (gyq rfl (C3 M 1 rfl rfl rfl (yd rfl (AY (parts := [(2, _), (10, _)]) rfl rfl (MF _ _)) (yd rfl (XO (a := (⟨[], [], y.kind, [], y.dflt, y.att, y.ev, y.ref, y.key, y.ticks, y.tries⟩ : El)) (b := (⟨[], [], y.kind, [], [], [], 0, [], [], 0, y.tries⟩ : El)) rfl rfl rfl) (yb rfl (k29 M ⟨rfl, rfl, (by rw [h29]; rfl), trivial⟩))))))))
     ·iterate 7 refine yo rfl ?_
      exact yb rfl (k29 M ⟨rfl, rfl, (by rw [h29]; rfl), trivial⟩)
    refine AD (d := 24) rfl (fun h24 => ?_) (fun h24 => ?_)
    ·exact gyq rfl (C3 M 1 rfl rfl rfl (yd rfl (G8 rfl rfl rfl) (yb rfl (k24 M ⟨rfl, rfl, (by rw [h24]; rfl), trivial⟩))))
    ·exact yo rfl (yo rfl (yo rfl (yb rfl (k24 M ⟨rfl, rfl, (by rw [h24]; rfl), trivial⟩))))
   ·have h17p := (odf h17)
    refine AC rfl (B2 M 1 rfl rfl rfl (C7 rfl rfl (AG rfl (AF rfl (fun h38 => ?_) (fun h38 => ?_)))))
    ·refine srg (DO M 0 rfl rfl underlying95 AK rfl (yb rfl (B2 M 1 rfl rfl rfl (yb rfl (B2 M 1 rfl rfl rfl (ya rfl (AY (parts := [(2, _), (4, _)]) rfl rfl (N6 _ _)) (ya rfl (XO (a := (⟨[], [], y.kind, [], y.dflt, y.att, y.ev, y.ref, y.key, y.ticks, y.tries⟩ : El)) (b := (⟨[], [], y.kind, [], y.dflt, [], 0, [], [], 0, 0⟩ : El)) rfl rfl rfl) (yb rfl (gnr (qx_block_ret (qx_then_ret (gr1 rfl ?_))))))))))))
     exact ⟨by rw [WU, AS h8, AS h17, if_pos h38], M.fr⟩
    ·have h38p := (odf h38)
     refine AC rfl (B2 M 1 rfl rfl rfl (C7 rfl rfl (yb rfl (fvm M 4 [3, 1] [(57, .bool ((decide ((y.kind.toNat : Int) = 8)) || (decide ((y.kind.toNat : Int) = 9))))] ?_ (fun k53 => ?_)))))
     ·intro w10 M
      refine AG rfl (AF rfl (fun h49 => ?_) (fun h49 => ?_))
      ·have h49p := ((E6 h49).imp (fun z => (odt z)) (fun z => (odt z)))
       refine srg (DO M 1 rfl rfl underlying95 AK rfl (DV M 59 rfl rfl call164 (kS _ _ (by assumption)) fun w11 M => yb rfl (fvm M 4 [3, 1] [(64, .bool ((KF y) && (decide (y.tries = (0 : Int)))))] ?_ (fun k60 => ?_))))
       ·intro w12 M
        refine yb rfl (fvm M 4 [3, 1] [(69, .bool (((KF y) && (decide (y.tries = (0 : Int)))) && (decide (y.dflt = []))))] ?_ (fun k65 => ?_))
        ·intro w13 M
         refine yb rfl (fvm M 9 [3, 1] [(79, .bool ((((KF y) && (decide (y.tries = (0 : Int)))) && (decide (y.dflt = []))) && ((decide ((y.kind.toNat : Int) = 9)) || (decide (y.att = [])))))] ?_ (fun k70 => ?_))
         ·intro w14 M
          exact yb rfl (gnr (qx_block_ret (qx_then_ret (gr1 rfl ⟨by rw [WU, AS h8, AS h17, AS h38, if_pos h49], M.fr⟩))))
         refine AD (d := 70) rfl (fun h70 => ?_) (fun h70 => ?_)
         ·refine gyq rfl (C3 M 1 rfl rfl rfl (yd rfl (BO rfl rfl rfl) (gyq rfl (fvm M 4 [70, 3, 1] [(78, .bool ((decide ((y.kind.toNat : Int) = 9)) || (decide (y.att = []))))] ?_ (fun k74 => ?_)))))
          ·intro w15 M
           exact yb rfl (k70 M ⟨rfl, rfl, (by rw [h70]; rfl), trivial⟩)
          refine AD (d := 74) rfl (fun h74 => ?_) (fun h74 => ?_)
          ·exact yo rfl (yo rfl (yo rfl (gyq rfl (k74 M ⟨rfl, rfl, rfl, (by rw [h74]; rfl), trivial⟩))))
          ·exact gyq rfl (C3 M 1 rfl rfl rfl (yd rfl (CS rfl rfl rfl) (gyq rfl (k74 M ⟨rfl, rfl, rfl, (by rw [h74]; rfl), trivial⟩))))
         ·iterate 4 refine yo rfl ?_
          exact BE rfl rfl rfl rfl rfl (BE rfl rfl rfl rfl rfl (BE rfl rfl rfl rfl rfl (yo rfl (yb rfl (k70 M ⟨rfl, rfl, (by rw [h70]; rfl), trivial⟩)))))
        refine AD (d := 65) rfl (fun h65 => ?_) (fun h65 => ?_)
        ·exact gyq rfl (C3 M 1 rfl rfl rfl (yd rfl (CS rfl rfl rfl) (yb rfl (k65 M ⟨rfl, rfl, (by rw [h65]; rfl), trivial⟩))))
        ·exact yo rfl (yo rfl (yo rfl (yb rfl (k65 M ⟨rfl, rfl, (by rw [h65]; rfl), trivial⟩))))
       refine AD (d := 60) rfl (fun h60 => ?_) (fun h60 => ?_)
       ·exact gyq rfl (C3 M 1 rfl rfl rfl (yd rfl (BO rfl rfl rfl) (yb rfl (k60 M ⟨rfl, rfl, (by rw [h60]; rfl), trivial⟩))))
       ·exact yo rfl (yo rfl (yo rfl (yb rfl (k60 M ⟨rfl, rfl, (by rw [h60]; rfl), trivial⟩))))
      ·exact sx_skip (qx_block_normal (qx_seq (srg (DO M 0 rfl rfl underlying95 AK rfl (yb rfl (B2 M 1 rfl rfl rfl (ya rfl (AY (parts := [(2, _)]) rfl rfl (PC _)) (ya rfl (XO (a := (⟨[], [], y.kind, [], y.dflt, y.att, y.ev, y.ref, y.key, y.ticks, y.tries⟩ : El)) (b := (⟨[], [], y.kind, [], [], [], 0, [], [], 0, 0⟩ : El)) rfl rfl rfl) (yb rfl (gnr (gr1 rfl ⟨by rw [WU, AS h8, AS h17, AS h38, AS h49], M.fr⟩)))))))))))
     refine AD (d := 53) rfl (fun h53 => ?_) (fun h53 => ?_)
     ·exact yo rfl (yo rfl (yo rfl (yb rfl (k53 M ⟨rfl, rfl, (by rw [h53]; rfl), trivial⟩))))
     ·exact gyq rfl (C3 M 1 rfl rfl rfl (yd rfl (BO rfl rfl rfl) (yb rfl (k53 M ⟨rfl, rfl, (by rw [h53]; rfl), trivial⟩))))
 refine AD (d := 12) rfl (fun h12 => ?_) (fun h12 => ?_)
 ·exact yo rfl (yo rfl (yo rfl (yb rfl (k12 M ⟨rfl, rfl, (by rw [h12]; rfl), trivial⟩))))
 ·exact gyq rfl (C3 M 1 rfl rfl rfl (yd rfl (G9 rfl rfl rfl) (yb rfl (k12 M ⟨rfl, rfl, (by rw [h12]; rfl), trivial⟩))))
def U8 (m : Md) (y : El) : Bool := OS m.els 4 y.inn && WU y
theorem mL (m : Md) (a : MdA) (ix : IxA) (gx gp : Nat) (y : El) (w : World) (oy : ElOk y) (_ho : MdOk m) (hx : IxAt w m a ix gx) (hp : Blk w gp 155 [pg gx]) :
 Calls prog 116 #[.agg y.cells.toArray, pg gp] w (BN w (.bool (U8 m y))) := by
 have oy3 := oy.ref
 have oy4 := oy.key
 have oy5 := oy.id
 have oy6 := oy.nm
 have oy7 := oy.inn
 have oy8 := oy.att
 refine BL func116 ntmps116 rfl fun M => srg (DD M rfl rfl fun g2 w1 hg2 M => AG rfl (AC rfl (B2 M 0 rfl rfl rfl (AG rfl (sx_seq ?_)))))
 refine srg (AG rfl (sx_block (MX M [2, 1] (fun ze zF e wr mz => ∃ (d : Nat) (q : List UInt8), e = (4, str q) :: (5, AA (d : Int)) :: ze ∧ zF wr ∧ (d ≤ 4) ∧ (OS m.els 4 y.inn = OS m.els (4 - d) q) ∧ mz = 4 - d) ⟨0, y.inn, rfl, M, Nat.zero_le _, rfl, rfl⟩ ?_)))
 rintro _ w2 _ ⟨d, q, rfl, M, hd, hs, rfl⟩
 refine sx_seq (AC rfl (ya rfl (FV rfl rfl rfl) (nq (AF rfl (fun h10 => ?_) (fun h10 => ?_)))))
 ·have h10p := (odf (BY h10))
  refine sx_skip (qx_seq (sx_seq (sx_block (srg (yl rfl rfl (Blk.c (hp.fr0 M.fr) 0 rfl) (AV rfl rfl (yl rfl rfl (Blk.c ((hx.fr0 M.fr).blk) 5 rfl) (yb rfl (ya rfl (BD rfl rfl rfl underlying85 underlying9 AQ ((hx.fr0 M.fr).E) (hx.getE _)) (CO M rfl AQ fun g6 w3 hg6 M => C2 M 0 rfl rfl AK rfl fun w4 M => ?_))))))))))
  refine nq (sx_seq (AC rfl (B2 M 0 rfl rfl rfl (FT rfl rfl (yb rfl (fvm M 3 [6, 5, 4, 2, 1] [(25, .bool ((!decide ((((B3 m.els q).getD zeroEl).kind.toNat : Int) = 10)) || (decide ((d : Int) = 4))))] ?_ (fun k22 => ?_)))))))
  ·intro w5 M
   refine nq (AF rfl (fun h25 => ?_) (fun h25 => ?_))
   ·have h25p := ((E6 h25).imp (fun z => (odf (BY z))) (fun z => (odt z)))
    exact AC rfl (gnr (qx_then_ret (qx_block_ret (qx_then_ret (qx_then_ret (qx_block_ret (qx_then_ret (gr1 rfl ⟨by rw [U8, hs, qN m.els h10p h25p]; rfl, M.fr⟩))))))))
   ·have h25p := (And.intro (odt (BJ (BT h25).1)) (odf (BT h25).2))
    refine sx_skip (qx_seq (sx_region (yb rfl (B2 M 0 rfl rfl rfl (yb rfl (sxl_nil (qx_block_normal (qx_seq (sx_region (yb rfl (C1 rfl rfl (yb rfl (sxl_nil ?_)))))))))))))
    have h10q : ¬ q = [] := h10p
    have hd4 : ¬ (d : Int) = 4 := h25p.2
    have hdlt : d < 4 := by omega
    refine fag ⟨d + 1, ((B3 m.els q).getD zeroEl).inn, rfl, (M.pk [1]), ?_, ?_, rfl⟩
    ·omega
    ·rw [hs, bQ m.els h10q hdlt h25p.1]
  refine AD (d := 22) rfl (fun h22 => ?_) (fun h22 => ?_)
  ·exact yo rfl (yo rfl (yb rfl (k22 M ⟨rfl, rfl, rfl, rfl, rfl, (by rw [h22]; rfl), trivial⟩)))
  ·exact gyq rfl (yd rfl (BO rfl rfl rfl) (yb rfl (k22 M ⟨rfl, rfl, rfl, rfl, rfl, (by rw [h22]; rfl), trivial⟩)))
 ·have h10p := (odt (BJ h10))
  exact sx_exit (qx_then_exit (qx_then_exit (qx_block_hit (qx_seq (srg (DO M 0 rfl rfl underlying95 AK rfl (DV M 29 rfl rfl call117 (rR _ _ (by assumption)) fun w6 M => yb rfl (gnr (gr1 rfl ⟨by rw [U8, hs, qO m.els h10p]; rfl, M.fr⟩)))))))))
def KW (m : Md) (y : Fl) : Bool := (((((B3 m.els y.frm).isSome && (B3 m.els y.tg).isSome) && (decide (((B3 m.els y.frm).getD zeroEl).inn = ((B3 m.els y.tg).getD zeroEl).inn))) && (!decide ((((B3 m.els y.tg).getD zeroEl).kind.toNat : Int) = (9 : Int)))) && (!decide (y.frm = y.tg)))
theorem bM (m : Md) (a : MdA) (ix : IxA) (gx gp : Nat) (y : Fl) (w : World) (_ho : MdOk m) (hx : IxAt w m a ix gx) (hp : Blk w gp 155 [pg gx]) :
 Calls prog 118 #[.agg y.cells.toArray, pg gp] w (BN w (.bool (KW m y))) := by
 refine BL func118 ntmps118 rfl fun M => srg (DD M rfl rfl fun g2 w1 hg2 M => AG rfl (sx_seq (I6 M 13 CL fun M => ol 0 13 rfl rfl rfl M (fun _ M => (Blk.c (hp.fr0 M.fr) 0 rfl)) (oc 1 13 rfl rfl M (oc 2 13 rfl rfl M (ol 3 13 rfl rfl rfl M (fun _ M => (Blk.c ((hx.fr0 M.fr).blk) 5 rfl)) (oc 4 13 rfl rfl M (ol 5 13 rfl rfl rfl M (fun _ M => (M.cell 0 rfl rfl)) ?_))))))))
 refine oa 6 13 rfl rfl M (fun _ M => DI rfl rfl rfl underlying85 underlying9 AQ ((hx.fr0 M.fr).E) (hx.getE _) (hx.isE _)) (oc 7 13 rfl rfl M (oc 8 13 rfl rfl M (oc 9 13 rfl rfl M (fon M 10 4 rfl rfl AQ fun g4 w2 hg4 M => fop M 11 0 rfl rfl rfl AK rfl (·.drop 1) fun w3 M => oc 12 13 rfl rfl (M.drop 1) (fdn (qx_seq (sx_seq (I6 M 13 CL fun M => ol 0 13 rfl rfl rfl M (fun _ M => (Blk.c (hp.fr0 M.fr) 0 rfl)) (oc 1 13 rfl rfl M (oc 2 13 rfl rfl M (ol 3 13 rfl rfl rfl M (fun _ M => (Blk.c ((hx.fr0 M.fr).blk) 5 rfl)) (oc 4 13 rfl rfl M ?_))))))))))))
 refine ol 5 13 rfl rfl rfl M (fun _ M => (M.cell 1 rfl rfl)) (oa 6 13 rfl rfl M (fun _ M => DI rfl rfl rfl underlying85 underlying9 AQ ((hx.fr0 M.fr).E) (hx.getE _) (hx.isE _)) (oc 7 13 rfl rfl M (oc 8 13 rfl rfl M (oc 9 13 rfl rfl M (fon M 10 6 rfl rfl AQ fun g6 w4 hg6 M => fop M 11 0 rfl rfl rfl AK rfl (·.drop 1) fun w5 M => oc 12 13 rfl rfl (M.drop 1) (fdn (qx_seq (AC rfl (yb rfl (fvm M 2 [6, 4, 3, 2] [(31, .bool ((B3 m.els y.frm).isSome && (B3 m.els y.tg).isSome))] ?_ (fun k29 => ?_)))))))))))
 ·intro w6 M
  refine yb rfl (fvm M 6 [6, 3, 2] [(38, .bool (((B3 m.els y.frm).isSome && (B3 m.els y.tg).isSome) && (decide (((B3 m.els y.frm).getD zeroEl).inn = ((B3 m.els y.tg).getD zeroEl).inn))))] ?_ (fun k32 => ?_))
  ·intro w7 M
   refine yb rfl (fvm M 4 [3, 2] [(43, .bool ((((B3 m.els y.frm).isSome && (B3 m.els y.tg).isSome) && (decide (((B3 m.els y.frm).getD zeroEl).inn = ((B3 m.els y.tg).getD zeroEl).inn))) && (!decide ((((B3 m.els y.tg).getD zeroEl).kind.toNat : Int) = 9))))] ?_ (fun k39 => ?_))
   ·intro w8 M
    refine yb rfl (fvm M 6 [3] [(50, .bool (((((B3 m.els y.frm).isSome && (B3 m.els y.tg).isSome) && (decide (((B3 m.els y.frm).getD zeroEl).inn = ((B3 m.els y.tg).getD zeroEl).inn))) && (!decide ((((B3 m.els y.tg).getD zeroEl).kind.toNat : Int) = 9))) && (!decide (y.frm = y.tg))))] ?_ (fun k44 => ?_))
    ·intro w9 M
     exact yb rfl (gnr (gr1 rfl ⟨by rw [KW], M.fr⟩))
    refine AD (d := 44) rfl (fun h44 => ?_) (fun h44 => ?_)
    ·exact gyq rfl (C3 M 2 rfl rfl rfl (gyq rfl (C3 M 2 rfl rfl rfl (yd rfl (FV rfl rfl rfl) (yb rfl (k44 M ⟨rfl, (by rw [h44]; rfl), trivial⟩))))))
    ·iterate 5 refine yo rfl ?_
     exact yb rfl (k44 M ⟨rfl, (by rw [h44]; rfl), trivial⟩)
   refine AD (d := 39) rfl (fun h39 => ?_) (fun h39 => ?_)
   ·exact gyq rfl (C3 M 0 rfl rfl rfl (yd rfl (E1 rfl rfl rfl) (yb rfl (k39 M ⟨rfl, rfl, (by rw [h39]; rfl), trivial⟩))))
   ·exact yo rfl (yo rfl (yo rfl (yb rfl (k39 M ⟨rfl, rfl, (by rw [h39]; rfl), trivial⟩))))
  refine AD (d := 32) rfl (fun h32 => ?_) (fun h32 => ?_)
  ·exact gyq rfl (C3 M 1 rfl rfl rfl (gyq rfl (C3 M 0 rfl rfl rfl (yd rfl (CS rfl rfl rfl) (yb rfl (k32 M ⟨rfl, rfl, rfl, (by rw [h32]; rfl), trivial⟩))))))
  ·iterate 5 refine yo rfl ?_
   exact yb rfl (k32 M ⟨rfl, rfl, rfl, (by rw [h32]; rfl), trivial⟩)
 refine AD (d := 29) rfl (fun h29 => ?_) (fun h29 => ?_)
 ·exact gyq rfl (yb rfl (k29 M ⟨rfl, rfl, rfl, rfl, (by rw [h29]; rfl), trivial⟩))
 ·exact yo rfl (yb rfl (k29 M ⟨rfl, rfl, rfl, rfl, (by rw [h29]; rfl), trivial⟩))
def UZ (m : Md) (y : Fl) : Bool := ((!decide ((((B3 m.els y.tg).getD zeroEl).kind.toNat : Int) = (8 : Int))) || (!decide ((((DG m.fls y.tg).length : Nat) : Int) = (1 : Int))))
theorem dS (m : Md) (a : MdA) (ix : IxA) (gx gp : Nat) (y : Fl) (w : World) (ho : MdOk m) (hx : IxAt w m a ix gx) (hp : Blk w gp 155 [pg gx]) :
 Calls prog 121 #[.agg y.cells.toArray, pg gp] w (BN w (.bool (UZ m y))) := by
 have hIl := FH m.fls y.tg
 have hnf := ho.nfls
 refine BL func121 ntmps121 rfl fun M => srg (DD M rfl rfl fun g2 w1 hg2 M => AG rfl (sx_seq (HT CL gkr ?_)))
 have M := M.drew
 refine sd rfl rfl (Blk.c (hp.fr0 M.fr) 0 rfl) (sb rfl (sb rfl (sd rfl rfl (Blk.c ((hx.fr0 M.fr).blk) 5 rfl) (sb rfl (GZ M 0 rfl rfl rfl (sa rfl (BD rfl rfl rfl underlying85 underlying9 AQ ((hx.fr0 M.fr).E) (hx.getE _)) (sa rfl (QR (b := ((B3 m.els y.tg).getD zeroEl)) rfl rfl) (sa rfl (E1 rfl rfl rfl) (sb rfl (fvs 10 [3] [(23, .bool ((!decide ((((B3 m.els y.tg).getD zeroEl).kind.toNat : Int) = 8)) || (!decide (((DG m.fls y.tg).length : Int) = 1))))] ?_ (fun k13 => ?_)))))))))))
 ·exact sb rfl (IY (qx_seq (sx_ret (gr1 rfl ⟨by rw [UZ], M.fr⟩))))
 refine D6 (d := 13) rfl (fun h13 => ?_) (fun h13 => ?_)
 ·iterate 9 refine D3 rfl rfl rfl rfl rfl rfl ?_
  exact sb rfl (k13 _ ⟨rfl, (by rw [h13]; rfl), trivial⟩)
 ·exact gsg rfl (B9 rfl rfl (sc rfl) (Blk.c (hp.fr0 M.fr) 0 rfl)) (gsg rfl (yp rfl) (gsg rfl (yp rfl) (gsg rfl (B9 rfl rfl (sc rfl) (Blk.c ((hx.fr0 M.fr).blk) 6 rfl)) (gsg rfl (yp rfl) (gsg rfl (B9 rfl rfl (sc rfl) (M.cell 0 rfl rfl)) (gsg rfl (BD rfl rfl rfl underlying197 underlying9 zr_sl_api_Flow ((hx.fr0 M.fr).I) (hx.getI _)) (gsg rfl (F5 rfl rfl (sl rfl)) (gsg rfl (E1 rfl rfl rfl) (sb rfl (k13 _ ⟨rfl, (by rw [h13]; rfl), trivial⟩))))))))))
def J3 (m : Md) (y : El) : Bool := (if ((decide ((y.kind.toNat : Int) = (1 : Int))) || (decide ((y.kind.toNat : Int) = (9 : Int)))) = true then ((decide ((((DG m.fls y.id).length : Nat) : Int) = (0 : Int))) && (decide ((((BI m.fls y.id).length : Nat) : Int) = (1 : Int)))) else (if (decide ((y.kind.toNat : Int) = (2 : Int))) = true then ((decide ((((DG m.fls y.id).length : Nat) : Int) = (1 : Int))) && (decide ((((BI m.fls y.id).length : Nat) : Int) = (0 : Int)))) else (if ((decide ((y.kind.toNat : Int) = (5 : Int))) || (decide ((y.kind.toNat : Int) = (6 : Int)))) = true then ((decide ((1 : Int) ≤ (((DG m.fls y.id).length : Nat) : Int))) && (decide ((1 : Int) ≤ (((BI m.fls y.id).length : Nat) : Int)))) else (if (decide ((y.kind.toNat : Int) = (7 : Int))) = true then (if ((decide ((((DG m.fls y.id).length : Nat) : Int) = (1 : Int))) && (decide ((2 : Int) ≤ (((BI m.fls y.id).length : Nat) : Int)))) = true then (!((BI m.fls y.id).any (UZ m))) else false) else ((decide ((((DG m.fls y.id).length : Nat) : Int) = (1 : Int))) && (decide ((((BI m.fls y.id).length : Nat) : Int) = (1 : Int))))))))
theorem dR (m : Md) (a : MdA) (ix : IxA) (gx gp : Nat) (y : El) (w : World) (oy : ElOk y) (ho : MdOk m) (hx : IxAt w m a ix gx) (hp : Blk w gp 155 [pg gx]) :
 Calls prog 119 #[.agg y.cells.toArray, pg gp] w (BN w (.bool (J3 m y))) := by
 have oy3 := oy.ref
 have oy4 := oy.key
 have oy5 := oy.id
 have oy6 := oy.nm
 have oy7 := oy.inn
 have oy8 := oy.att
 have hIl := FH m.fls y.id
 have hOl := DR m.fls y.id
 have hnf := ho.nfls
 refine BL func119 ntmps119 rfl fun M => srg (DD M rfl rfl fun g2 w1 hg2 M => AG rfl (sx_seq (HT CL gkr ?_)))
 have M := M.drew
 refine sd rfl rfl (Blk.c (hp.fr0 M.fr) 0 rfl) (sb rfl (sb rfl (sd rfl rfl (Blk.c ((hx.fr0 M.fr).blk) 6 rfl) (sb rfl (GZ M 0 rfl rfl rfl (sa rfl (BD rfl rfl rfl underlying197 underlying9 zr_sl_api_Flow ((hx.fr0 M.fr).I) (hx.getI _)) (sa rfl (F5 rfl rfl (sl rfl)) (sd rfl rfl (Blk.c (hp.fr0 M.fr) 0 rfl) (sb rfl (sb rfl (sd rfl rfl (Blk.c ((hx.fr0 M.fr).blk) 7 rfl) (sb rfl (GZ M 0 rfl rfl rfl (sa rfl (BD rfl rfl rfl underlying197 underlying9 zr_sl_api_Flow ((hx.fr0 M.fr).O) (hx.getO _)) (sa rfl (F5 rfl rfl (sl rfl)) ?_)))))))))))))))
 refine sb rfl (sb rfl (IY (qx_seq (sx_seq (AC rfl (B2 M 0 rfl rfl rfl (nq (sx_block (sx_seq (srg (C7 rfl rfl ?_)))))))))))
 refine AG rfl (LU [(1, pg gp), (2, pg g2), (4, AA ((DG m.fls y.id).length : Int)), (5, AA ((BI m.fls y.id).length : Int)), (23, .int .u8 (y.kind.toNat : Int)), (24, .bool ((decide ((y.kind.toNat : Int) = 1)) || (decide ((y.kind.toNat : Int) = 9))))] (fun w' => Mem w AM [As.blk g2 95 (El.cells y)] w') ?_ (fun k24 => ?_))
 ·intro w2 M
  refine qx_seq (AF rfl (fun h24 => ?_) (fun h24 => ?_))
  ·have h24p := ((E6 h24).imp (fun z => (odt z)) (fun z => (odt z)))
   refine AC rfl (C7 rfl rfl (yb rfl (fvm M 3 [5, 4] [(32, .bool ((decide (((DG m.fls y.id).length : Int) = 0)) && (decide (((BI m.fls y.id).length : Int) = 1))))] ?_ (fun k29 => ?_))))
   ·intro w3 M
    exact yb rfl (gnr (qx_block_ret (qx_then_ret (gr1 rfl ⟨by rw [J3, if_pos h24], M.fr⟩))))
   refine AD (d := 29) rfl (fun h29 => ?_) (fun h29 => ?_)
   ·exact gyq rfl (yd rfl (BO rfl rfl rfl) (yb rfl (k29 M ⟨rfl, rfl, (by rw [h29]; rfl), trivial⟩)))
   ·exact yo rfl (yo rfl (yb rfl (k29 M ⟨rfl, rfl, (by rw [h29]; rfl), trivial⟩)))
  ·have h24p := (And.intro (odf (BT h24).1) (odf (BT h24).2))
   refine srg (C7 rfl rfl (AG rfl (AF rfl (fun h33 => ?_) (fun h33 => ?_))))
   ·refine AC rfl (C7 rfl rfl (yb rfl (fvm M 3 [5, 4] [(40, .bool ((decide (((DG m.fls y.id).length : Int) = 1)) && (decide (((BI m.fls y.id).length : Int) = 0))))] ?_ (fun k37 => ?_))))
    ·intro w4 M
     exact yb rfl (gnr (qx_block_ret (qx_then_ret (gr1 rfl ⟨by rw [J3, AS h24, if_pos h33], M.fr⟩))))
    refine AD (d := 37) rfl (fun h37 => ?_) (fun h37 => ?_)
    ·exact gyq rfl (yd rfl (BO rfl rfl rfl) (yb rfl (k37 M ⟨rfl, rfl, (by rw [h37]; rfl), trivial⟩)))
    ·exact yo rfl (yo rfl (yb rfl (k37 M ⟨rfl, rfl, (by rw [h37]; rfl), trivial⟩)))
   ·have h33p := (odf h33)
    refine sx_seq (srg (C7 rfl rfl (AG rfl (LU [(1, pg gp), (2, pg g2), (4, AA ((DG m.fls y.id).length : Int)), (5, AA ((BI m.fls y.id).length : Int)), (23, .int .u8 (y.kind.toNat : Int)), (41, .bool ((decide ((y.kind.toNat : Int) = 5)) || (decide ((y.kind.toNat : Int) = 6))))] (fun w' => Mem w AM [As.blk g2 95 (El.cells y)] w') ?_ (fun k41 => ?_)))))
    ·intro w5 M
     refine qx_seq (AF rfl (fun h41 => ?_) (fun h41 => ?_))
     ·have h41p := ((E6 h41).imp (fun z => (odt z)) (fun z => (odt z)))
      refine AC rfl (J2 rfl rfl (yb rfl (fvm M 3 [5, 4] [(49, .bool ((decide (1 ≤ ((DG m.fls y.id).length : Int))) && (decide (1 ≤ ((BI m.fls y.id).length : Int)))))] ?_ (fun k46 => ?_))))
      ·intro w6 M
       exact yb rfl (gnr (qx_block_ret (qx_then_ret (gr1 rfl ⟨by rw [J3, AS h24, AS h33, if_pos h41], M.fr⟩))))
      refine AD (d := 46) rfl (fun h46 => ?_) (fun h46 => ?_)
      ·exact gyq rfl (yd rfl (GK rfl rfl rfl) (yb rfl (k46 M ⟨rfl, rfl, (by rw [h46]; rfl), trivial⟩)))
      ·exact yo rfl (yo rfl (yb rfl (k46 M ⟨rfl, rfl, (by rw [h46]; rfl), trivial⟩)))
     ·have h41p := (And.intro (odf (BT h41).1) (odf (BT h41).2))
      refine srg (C7 rfl rfl (AG rfl (AF rfl (fun h50 => ?_) (fun h50 => ?_))))
      ·have h50p := (odt h50)
       refine sx_seq (DL 15 CL gkr ?_)
       have M := M.drew
       refine sb rfl (sa rfl (BO rfl rfl rfl) (sb rfl (fvs 3 [5, 4, 2, 1] [(57, .bool ((decide (((DG m.fls y.id).length : Int) = 1)) && (decide (2 ≤ ((BI m.fls y.id).length : Int)))))] ?_ (fun k54 => ?_))))
       ·refine sb rfl (D6 (d := 58) rfl (fun h58 => ?_) (fun h58 => ?_))
        ·have h58p := (And.intro (odt (BX h58).1) (odt (BX h58).2))
         refine gsg rfl (B9 rfl rfl (sc rfl) (Blk.c (hp.fr0 M.fr) 0 rfl)) (gsg rfl (yp rfl) (gsg rfl (yp rfl) (gsg rfl (B9 rfl rfl (sc rfl) (Blk.c ((hx.fr0 M.fr).blk) 7 rfl)) (gsg rfl (yp rfl) (gsg rfl (B9 rfl rfl (sc rfl) (M.cell 0 rfl rfl)) (gsg rfl (BD rfl rfl rfl underlying197 underlying9 zr_sl_api_Flow ((hx.fr0 M.fr).O) (hx.getO _)) (gsg rfl (CE (us := []) (vs := [pg gp]) rfl rfl rfl) (CB (sxl_call (some 67) (wn_on rfl rfl rfl) rfl rfl (AE rfl rfl call120) (aV _ _ (BI m.fls y.id) (by have := FH m.fls; have := DR m.fls; have := ho.nfls; have := ho.nels; have := ho.nvars; first | omega | exact Nat.le_trans (FH _ _) A0 | exact Nat.le_trans (DR _ _) A0) 121 [pg gp] (UZ m) _ (G3 call121 (fun z hz w9 hf9 => dS m a ix gx gp z w9 ho ((hx.fr0 M.fr).fr0 hf9) ((hp.fr0 M.fr).fr0 hf9))) ((hx.fr0 M.fr).rdO _)) ?_)))))))))
         rintro _ w7 ⟨rfl, hfw7⟩
         refine ⟨_, rfl, ?_⟩
         have M := M.step hfw7
         exact gyq rfl (AV rfl rfl (gnr (qx_block_ret (qx_then_ret (gr1 rfl ⟨by rw [J3, AS h24, AS h33, AS h41, if_pos h50, if_pos h58], M.fr⟩)))))
        ·have h58p := ((DA h58).imp (fun z => (odf z)) (fun z => (odf z)))
         iterate 8 refine D3 rfl rfl rfl rfl rfl rfl ?_
         exact CB (yo rfl (yo rfl (AV rfl rfl (gnr (qx_block_ret (qx_then_ret (gr1 rfl ⟨by rw [J3, AS h24, AS h33, AS h41, if_pos h50, AS h58], M.fr⟩)))))))
       refine D6 (d := 54) rfl (fun h54 => ?_) (fun h54 => ?_)
       ·exact gsg rfl (yp rfl) (gsg rfl (GK rfl rfl rfl) (sb rfl (k54 _ ⟨rfl, rfl, rfl, rfl, (by rw [h54]; rfl), trivial⟩)))
       ·exact D3 rfl rfl rfl rfl rfl rfl (D3 rfl rfl rfl rfl rfl rfl (sb rfl (k54 _ ⟨rfl, rfl, rfl, rfl, (by rw [h54]; rfl), trivial⟩)))
      ·refine sx_skip (qx_block_normal (qx_seq (AC rfl (C7 rfl rfl (yb rfl (fvm M 3 [] [(75, .bool ((decide (((DG m.fls y.id).length : Int) = 1)) && (decide (((BI m.fls y.id).length : Int) = 1))))] ?_ (fun k72 => ?_)))))))
       ·intro w8 M
        exact yb rfl (gnr (gr1 rfl ⟨by rw [J3, AS h24, AS h33, AS h41, AS h50], M.fr⟩))
       refine AD (d := 72) rfl (fun h72 => ?_) (fun h72 => ?_)
       ·exact gyq rfl (yd rfl (BO rfl rfl rfl) (yb rfl (k72 M ⟨(by rw [h72]; rfl), trivial⟩)))
       ·exact yo rfl (yo rfl (yb rfl (k72 M ⟨(by rw [h72]; rfl), trivial⟩)))
    refine AF rfl (fun h41 => ?_) (fun h41 => ?_)
    ·exact sx_skip (k41 _ _ M ⟨rfl, rfl, rfl, rfl, rfl, (by rw [h41]; rfl), trivial⟩)
    ·exact sx_region (C7 rfl rfl (yb rfl (sxl_nil (k41 _ _ M ⟨rfl, rfl, rfl, rfl, rfl, (by rw [h41]; rfl), trivial⟩))))
 refine AF rfl (fun h24 => ?_) (fun h24 => ?_)
 ·exact sx_skip (k24 _ _ M ⟨rfl, rfl, rfl, rfl, rfl, (by rw [h24]; rfl), trivial⟩)
 ·exact sx_region (C7 rfl rfl (yb rfl (sxl_nil (k24 _ _ M ⟨rfl, rfl, rfl, rfl, rfl, (by rw [h24]; rfl), trivial⟩))))
theorem gZ (y : El) (gy : Nat) (z : Fl) (w : World) (hb : Blk w gy 95 y.cells) :
 Calls prog 126 #[.agg z.cells.toArray, pg gy] w (BN w (.bool (decide (z.id = y.dflt)))) := by
 refine BL func126 ntmps126 rfl fun M => srg (DD M rfl rfl fun g2 w1 hg2 M => AG rfl (AC rfl (B2 M 0 rfl rfl rfl (yb rfl (yl rfl rfl (Blk.c (hb.fr0 M.fr) 4 rfl) (ya rfl (CS rfl rfl rfl) (yb rfl ?_)))))))
 exact gnr (gr1 rfl ⟨rfl, M.fr⟩)
def IE (m : Md) (y : El) : Bool := (if (!decide ((y.kind.toNat : Int) = (5 : Int))) = true then true else (if (decide ((((BI m.fls y.id).length : Nat) : Int) = (1 : Int))) = true then (decide (y.dflt = [])) else ((BI m.fls y.id).any (fun z => decide (z.id = y.dflt)))))
theorem mY (m : Md) (a : MdA) (ix : IxA) (gx gp : Nat) (y : El) (w : World) (oy : ElOk y) (ho : MdOk m) (hx : IxAt w m a ix gx) (hp : Blk w gp 155 [pg gx]) :
 Calls prog 125 #[.agg y.cells.toArray, pg gp] w (BN w (.bool (IE m y))) := by
 have oy3 := oy.ref
 have oy4 := oy.key
 have oy5 := oy.id
 have oy6 := oy.nm
 have oy7 := oy.inn
 have oy8 := oy.att
 have hOl := DR m.fls y.id
 have hnf := ho.nfls
 refine BL func125 ntmps125 rfl fun M => srg (DD M rfl rfl fun g2 w1 hg2 M => AG rfl (sx_seq (HT CL gkr ?_)))
 have M := M.drew
 refine sd rfl rfl (Blk.c (hp.fr0 M.fr) 0 rfl) (sb rfl (sb rfl (sd rfl rfl (Blk.c ((hx.fr0 M.fr).blk) 7 rfl) (sb rfl (GZ M 0 rfl rfl rfl (sa rfl (BD rfl rfl rfl underlying197 underlying9 zr_sl_api_Flow ((hx.fr0 M.fr).O) (hx.getO _)) (sb rfl (IY (qx_seq (sx_seq (sx_block (AC rfl (B2 M 0 rfl rfl rfl ?_)))))))))))))
 refine FT rfl rfl (AG rfl (AF rfl (fun h12 => ?_) (fun h12 => ?_)))
 ·exact AC rfl (gnr (qx_block_ret (qx_then_ret (gr1 rfl ⟨by rw [IE, if_pos h12], M.fr⟩))))
 ·have h12p := (odt (BJ h12))
  refine AC rfl (DP rfl rfl (C7 rfl rfl (AG rfl (AF rfl (fun h16 => ?_) (fun h16 => ?_)))))
  ·exact AC rfl (B2 M 0 rfl rfl rfl (ya rfl (CS rfl rfl rfl) (yb rfl (gnr (qx_block_ret (qx_then_ret (gr1 rfl ⟨by rw [IE, AS h12, if_pos h16], M.fr⟩)))))))
  ·have h16p := (odf h16)
   exact sx_skip (qx_block_normal (qx_seq (AC rfl (ya rfl (CE (us := []) (vs := [pg g2]) rfl rfl rfl) (DV M 25 rfl rfl call120 (aV _ _ (BI m.fls y.id) (by have := FH m.fls; have := DR m.fls; have := ho.nfls; have := ho.nels; have := ho.nvars; first | omega | exact Nat.le_trans (FH _ _) A0 | exact Nat.le_trans (DR _ _) A0) 126 [pg g2] (fun z => decide (z.id = y.dflt)) _ (G3 call126 (fun z hz w9 hf9 => gZ y _ z w9 ((M.blk 0 rfl).fr0 hf9))) ((hx.fr0 M.fr).rdO _)) fun w2 M => yb rfl (gnr (gr1 rfl ⟨by rw [IE, AS h12, AS h16], M.fr⟩)))))))
def OB (y : El) (z : Bd) : Bool := ((decide (z.name = (y).key)) && (decide ((z.v.kind.toNat : Int) = (3 : Int))))
theorem YS (y : El) (gy : Nat) (z : Bd) (w : World) (hb : Blk w gy 95 y.cells) :
 Calls prog 135 #[.agg z.cells.toArray, pg gy] w (BN w (.bool (OB y z))) := by
 refine BL func135 ntmps135 rfl fun M => srg (DD M rfl rfl fun g2 w1 hg2 M => AG rfl (AC rfl (B2 M 0 rfl rfl rfl (yb rfl (yl rfl rfl (Blk.c (hb.fr0 M.fr) 8 rfl) (ya rfl (CS rfl rfl rfl) (yb rfl ?_)))))))
 refine fvm M 5 [3] [(14, .bool ((decide (z.name = (y).key)) && (decide ((z.v.kind.toNat : Int) = 3))))] ?_ (fun k9 => ?_)
 ·intro w2 M
  exact yb rfl (gnr (gr1 rfl ⟨by rw [OB], M.fr⟩))
 refine AD (d := 9) rfl (fun h9 => ?_) (fun h9 => ?_)
 ·exact gyq rfl (gyq rfl (C3 M 0 rfl rfl rfl (yd rfl (BO rfl rfl rfl) (yb rfl (k9 M ⟨rfl, (by rw [h9]; rfl), trivial⟩)))))
 ·iterate 4 refine yo rfl ?_
  exact yb rfl (k9 M ⟨rfl, (by rw [h9]; rfl), trivial⟩)
def N1 (m : Md) (y : El) : Bool := ((!decide ((y.ev.toNat : Int) = (2 : Int))) || (m.vars.any (OB y)))
theorem dY (m : Md) (a : MdA) (ix : IxA) (gx gp : Nat) (y : El) (w : World) (oy : ElOk y) (ho : MdOk m) (hx : IxAt w m a ix gx) (hp : Blk w gp 155 [pg gx]) :
 Calls prog 133 #[.agg y.cells.toArray, pg gp] w (BN w (.bool (N1 m y))) := by
 have oy3 := oy.ref
 have oy4 := oy.key
 have oy5 := oy.id
 have oy6 := oy.nm
 have oy7 := oy.inn
 have oy8 := oy.att
 refine BL func133 ntmps133 rfl fun M => srg (DD M rfl rfl fun g2 w1 hg2 M => AG rfl (AC rfl (B2 M 0 rfl rfl rfl (FT rfl rfl (yb rfl (fvm M 8 [3] [(15, .bool ((!decide ((y.ev.toNat : Int) = 2)) || (m.vars.any (OB y))))] ?_ (fun k7 => ?_)))))))
 ·intro w2 M
  exact yb rfl (gnr (gr1 rfl ⟨by rw [N1], M.fr⟩))
 refine AD (d := 7) rfl (fun h7 => ?_) (fun h7 => ?_)
 ·iterate 7 refine yo rfl ?_
  exact yb rfl (k7 M ⟨rfl, (by rw [h7]; rfl), trivial⟩)
 ·refine ym rfl rfl (Blk.c (hp.fr0 M.fr) 0 rfl) (gyq rfl (gyq rfl (gyq rfl (ym rfl rfl (Blk.c ((hx.fr0 M.fr).blk) 2 rfl) (yd rfl (CE (us := []) (vs := [pg g2]) rfl rfl rfl) (sxl_call (some 14) (wn_on rfl rfl rfl) rfl rfl (AE rfl rfl call134) (pN _ _ m.vars (by have := FH m.fls; have := DR m.fls; have := ho.nfls; have := ho.nels; have := ho.nvars; first | omega | exact Nat.le_trans (FH _ _) A0 | exact Nat.le_trans (DR _ _) A0) 135 [pg g2] (OB y) _ (G3 call135 (fun z hz w9 hf9 => YS y _ z w9 ((M.blk 0 rfl).fr0 hf9))) (M.rd hx.md.vars)) ?_))))))
  rintro _ w3 ⟨rfl, hfw3⟩
  refine ⟨_, rfl, ?_⟩
  have M := M.step hfw3
  exact yb rfl (k7 M ⟨rfl, (by rw [h7]; rfl), trivial⟩)
def W7 (m : Md) (k : List UInt8) : Bool := (((decide ((((B3 m.els k).getD zeroEl).kind.toNat : Int) = (5 : Int))) || (decide ((((B3 m.els k).getD zeroEl).kind.toNat : Int) = (6 : Int)))) || (decide ((((B3 m.els k).getD zeroEl).kind.toNat : Int) = (10 : Int))))
theorem WK (m : Md) (a : MdA) (ix : IxA) (gx gp : Nat) (k : List UInt8) (w : World) (_ho : MdOk m) (hx : IxAt w m a ix gx) (hp : Blk w gp 155 [pg gx]) :
 Calls prog 136 #[str k, pg gp] w (BN w (.bool (W7 m k))) := by
 refine BL func136 ntmps136 rfl fun M => srg (AG rfl (srg (yl rfl rfl (Blk.c (hp.fr0 M.fr) 0 rfl) (AV rfl rfl (yl rfl rfl (Blk.c ((hx.fr0 M.fr).blk) 5 rfl) (yb rfl (ya rfl (BD rfl rfl rfl underlying85 underlying9 AQ ((hx.fr0 M.fr).E) (hx.getE _)) (ya rfl (QR (b := ((B3 m.els k).getD zeroEl)) rfl rfl) (yb rfl ?_)))))))))
 refine nq (AC rfl (C7 rfl rfl (yb rfl (fvm M 3 [4, 3] [(17, .bool ((decide ((((B3 m.els k).getD zeroEl).kind.toNat : Int) = 5)) || (decide ((((B3 m.els k).getD zeroEl).kind.toNat : Int) = 6))))] ?_ (fun k14 => ?_)))))
 ·intro w1 M
  refine yb rfl (fvm M 3 [3] [(21, .bool (((decide ((((B3 m.els k).getD zeroEl).kind.toNat : Int) = 5)) || (decide ((((B3 m.els k).getD zeroEl).kind.toNat : Int) = 6))) || (decide ((((B3 m.els k).getD zeroEl).kind.toNat : Int) = 10))))] ?_ (fun k18 => ?_))
  ·intro w2 M
   exact yb rfl (gnr (gr1 rfl ⟨by rw [W7], M.fr⟩))
  refine AD (d := 18) rfl (fun h18 => ?_) (fun h18 => ?_)
  ·exact yo rfl (yo rfl (yb rfl (k18 M ⟨rfl, (by rw [h18]; rfl), trivial⟩)))
  ·exact gyq rfl (yd rfl (BO rfl rfl rfl) (yb rfl (k18 M ⟨rfl, (by rw [h18]; rfl), trivial⟩)))
 refine AD (d := 14) rfl (fun h14 => ?_) (fun h14 => ?_)
 ·exact yo rfl (yo rfl (yb rfl (k14 M ⟨rfl, rfl, (by rw [h14]; rfl), trivial⟩)))
 ·exact gyq rfl (yd rfl (BO rfl rfl rfl) (yb rfl (k14 M ⟨rfl, rfl, (by rw [h14]; rfl), trivial⟩)))
end Go.Proofs.YtaheakjfkpkefaaGreatDoor
