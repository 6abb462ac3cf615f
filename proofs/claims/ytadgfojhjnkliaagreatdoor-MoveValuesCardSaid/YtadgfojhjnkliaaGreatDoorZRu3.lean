/- Lemmas that the last text rests on. Condition: each says its own. -/
import Derived.Test.YtadgfojhjnkliaaGreatDoorZRu2
set_option maxHeartbeats 16000000
set_option maxRecDepth 100000
namespace Go.Proofs.YtadgfojhjnkliaaGreatDoor
open Go.RowKit
open Tryz
def FC (els : List El) : Nat → El → List (List UInt8)
 | 0, _ => []
 | f + 1, y => if y.inn = [] then [] else match AS els y.inn with
  | none => []
  | some x => if x.kind.toNat = 10 then x.id :: FC els f x else []
def AO (els : List El) (id : List UInt8) : List (List UInt8) := FC els 64 ((AS els id).getD zeroEl)
theorem V1 (els : List El) {y : El} {n : Nat} (h1 : ¬ y.inn = []) (hn : n < 64) (h2 : (AS els y.inn).isSome = true) (h3 : (((AS els y.inn).getD zeroEl).kind.toNat : Int) = 10) : FC els (64 - n) y = ((AS els y.inn).getD zeroEl).id :: FC els (64 - (n + 1)) ((AS els y.inn).getD zeroEl) := by
 rw [show 64 - n = (64 - (n + 1)) + 1 by omega, FC, if_neg h1]
 cases hx : AS els y.inn with
 | none => rw [hx] at h2; cases h2
 | some x =>
  rw [hx] at h3
  have h3' : x.kind.toNat = 10 := by simp only [Option.getD_some] at h3; omega
  simp only [if_pos h3', Option.getD_some]
theorem V0 (els : List El) {y : El} {n : Nat} (h : (AS els y.inn).isSome = false ∨ ¬ (((AS els y.inn).getD zeroEl).kind.toNat : Int) = 10) : FC els n y = [] := by
 cases n with
 | zero => rfl
 | succ n =>
  rw [FC]
  split
  ·rfl
  ·cases hx : AS els y.inn with
   | none => rfl
   | some x =>
    rw [hx] at h
    simp only [Option.isSome_some, Bool.true_eq_false, Option.getD_some, false_or] at h
    simp only
    rw [if_neg (by omega)]
theorem XI (els : List El) {y : El} {n : Nat} (h : y.inn = [] ∨ ¬ (n : Int) < 64) : FC els (64 - n) y = [] := by
 rcases h with h | h
 ·cases 64 - n with
  | zero => rfl
  | succ k => rw [FC, if_pos h]
 ·rw [show 64 - n = 0 by omega]; rfl
theorem P1 (els : List El) : ∀ (n : Nat) (y : El), (FC els n y).length ≤ n
 | 0, _ => Nat.le_refl _
 | n + 1, y => by
  rw [FC]
  split
  ·exact Nat.zero_le _
  ·split
   ·exact Nat.zero_le _
   ·split
    ·have := P1 els n; simp only [List.length_cons]; exact Nat.succ_le_succ (this _)
    ·exact Nat.zero_le _
theorem KG (els : List El) (id : List UInt8) : (AO els id).length ≤ 64 := P1 els 64 _
theorem TO (m : Md) (a : MdA) (ix : IxA) (gx : Nat) (id : List UInt8) (w : World) (_ho : MdOk m) (hx : IxAt w m a ix gx) :
 Calls prog 96 #[pg gx, str id] w fun e w' => ∃ A c, e = .returned (.slice A (AO m.els id).length c) ∧ w'.ownsRow w.heap.size 9 1 (.slice A (AO m.els id).length c) (AO m.els id).length (AR C4 (AO m.els id)) ∧ Fr0 w w' := by
 refine AK (vs := [_, _]) func96 rfl ntmps96 rfl ?_
 have M := CK w
 refine A4 (A0 (yb rfl (A1 (A2 (A4 (A0 (yb rfl (A1 (A2 (A4 (A4 (A0 (yb rfl (yb rfl (yb rfl ?_)))))))))))))))
 refine yl rfl rfl (Blk.c ((hx.fr0 M.fr).blk) 5 rfl) (yb rfl (ya rfl (C2 rfl rfl rfl underlying55 underlying9 AY ((hx.fr0 M.fr).E) (hx.getE _)) (BI M (A9 rfl) rfl rfl 62 rfl [str [], str [], .int .u8 0, str [], str [], str [], .int .u8 0, str [], str [], .int .i64 0, .int .i64 0] AY rfl fun g6 w1 hg6 M => B5 (cs' := (El.cells ((AS m.els id).getD zeroEl))) M 0 (A9 rfl) rfl rfl rfl rfl rfl AU rfl (AP rfl) (AW rfl) rfl fun w2 M => A1 (A2 (AV ?_)))))
 have M := M.nilOwn 9 1
 refine CM (fun e wr mz => ∃ (y : El) (acc : List (List UInt8)) (A : Option Addr) (c : Nat) (gv : Nat), e = [(0, pg gx), (5, .slice A acc.length c), (6, pg gv)] ∧ Mem w AB [As.own w.heap.size 9 1 (.slice A acc.length c) acc.length (AR C4 acc), As.blk gv 62 (El.cells y)] wr ∧ (acc.length ≤ 64) ∧ (AO m.els id = acc ++ FC m.els (64 - acc.length) y) ∧ mz = 64 - acc.length) ⟨(AS m.els id).getD zeroEl, [], none, 0, g6, rfl, M, Nat.zero_le _, rfl, rfl⟩ ⟨rfl, rfl, rfl, trivial⟩ ?_
 rintro _ w3 _ ⟨y, acc, A, c, gv, rfl, M, hl, hr, rfl⟩
 refine A4 (A4 (A0 (yb rfl (yl rfl rfl (M.cell 1 rfl rfl) (ya rfl (HD rfl rfl rfl) (yb rfl (AT 4 [(0, pg gx), (5, .slice A acc.length c), (6, pg gv), (22, .bool ((!decide (y.inn = [])) && (decide (((acc.length : Nat) : Int) < (64 : Int)))))] (fun w' => Mem w AB [As.own w.heap.size 9 1 (.slice A acc.length c) acc.length (AR C4 acc), As.blk gv 62 (El.cells y)] w') ?_ (fun k18 => ?_))))))))
 ·intro w4 M
  refine A1 (A2 (AQ (b := ((!decide (y.inn = [])) && (decide (((acc.length : Nat) : Int) < (64 : Int))))) rfl (fun h22 => ?_) (fun h22 => ?_)))
  ·have h22p := (And.intro (odf (C1 (C5 h22).1)) (odt (C5 h22).2))
   refine AL (A2 (A4 (AV (A4 (D8 13 (fun w' => Mem w AB [As.own w.heap.size 9 1 (.slice A acc.length c) acc.length (AR C4 acc), As.blk gv 62 (El.cells y)] w') DT ?_)))))
   have M := M.drew
   refine oc 0 13 rfl rfl M (oc 1 13 rfl rfl M (oc 2 13 rfl rfl M (ol 3 13 rfl rfl rfl M (fun _ M => (Blk.c ((hx.fr0 M.fr).blk) 5 rfl)) (oc 4 13 rfl rfl M (ol 5 13 rfl rfl rfl M (fun _ M => (M.cell 1 rfl rfl)) (oa 6 13 rfl rfl M (fun _ M => DE rfl rfl rfl underlying55 underlying9 AY ((hx.fr0 M.fr).E) (hx.getE _) (hx.isE _)) (oc 7 13 rfl rfl M (oc 8 13 rfl rfl M (oc 9 13 rfl rfl M (B3 10 (some 7) (by kernel_rfl) rfl (A9 rfl) rfl rfl (fun ρ hρ => BX 62 rfl _ [str [], str [], .int .u8 0, str [], str [], str [], .int .u8 0, str [], str [], .int .i64 0, .int .i64 0] AY rfl) ?_))))))))))
   rintro _ w5 ⟨g7, rfl, hg7, hq7, hb7, hfw5⟩
   refine ⟨fun _ => M.step hfw5, ?_⟩
   have M := M.push hfw5 _ hb7 (DA hg7 hq7)
   replace M : Mem w AB (As.blk g7 62 [str [], str [], .int .u8 0, str [], str [], str [], .int .u8 0, str [], str [], .int .i64 0, .int .i64 0] :: _) w5 := M
   refine B3 11 none (by kernel_rfl) rfl (A9 rfl) rfl rfl (fun ρ hρ => BP 62 _ _ rfl g7 0 62 _ (El.cells ((AS m.els y.inn).getD zeroEl)) (hρ _ _ rfl) (hρ _ _ rfl) (M.blk 0 rfl) AU (AP rfl) (AW rfl)) ?_
   rintro _ w6 ⟨rfl, hbw6, hfw6⟩
   replace M : Mem w AB (List.set _ 0 (As.blk g7 62 (El.cells ((AS m.els y.inn).getD zeroEl)))) w6 := M.putB 0 rfl hbw6 hfw6
   refine ⟨fun _ => M.drop 1, oc 12 13 rfl rfl (M.drop 1) (BJ (by kernel_rfl) (A2 (A4 (A4 (A0 (yb rfl (yb rfl (yb rfl (AT 4 [(0, pg gx), (5, .slice A acc.length c), (6, pg gv), (7, pg g7), (39, .bool ((!(AS m.els y.inn).isSome) || (!decide ((((AS m.els y.inn).getD zeroEl).kind.toNat : Int) = (10 : Int)))))] (fun w' => Mem w AB [As.blk g7 62 (El.cells ((AS m.els y.inn).getD zeroEl)), As.own w.heap.size 9 1 (.slice A acc.length c) acc.length (AR C4 acc), As.blk gv 62 (El.cells y)] w') ?_ (fun k35 => ?_))))))))))⟩
   ·intro w7 M
    refine A1 (A2 (AQ (b := ((!(AS m.els y.inn).isSome) || (!decide ((((AS m.els y.inn).getD zeroEl).kind.toNat : Int) = (10 : Int))))) rfl (fun h39 => ?_) (fun h39 => ?_)))
    ·have h39p := ((EK h39).imp (fun z => (C1 z)) (fun z => (odf (C1 z))))
     refine CD (AI (IW rfl (AI (AI (BB (A2 (A4 (A0 (yb rfl (yb rfl (A1 (A2 (AD (AH rfl rfl ?_))))))))))))))
     rw [V0 m.els h39p, List.append_nil] at hr
     subst hr
     exact ⟨_, _, rfl, M.own 1 rfl, M.fr⟩
    ·have h39p := (And.intro (C3 (CA h39).1) (odt (C3 (CA h39).2)))
     refine AL (A2 (A4 (A0 (yb rfl (yb rfl (yl rfl rfl (M.cell 0 rfl rfl) (F1 M (A9 rfl) rfl rfl [str (((AS m.els y.inn).getD zeroEl).id)] ([str (((AS m.els y.inn).getD zeroEl).id)]) rfl rfl rfl rfl underlying45 D5 rfl rfl (JL rfl) rfl fun g43 w8 hg43 M => EQ (len' := (acc ++ [((AS m.els y.inn).getD zeroEl).id]).length) (xs' := AR C4 (acc ++ [((AS m.els y.inn).getD zeroEl).id])) M 2 (A9 rfl) rfl rfl rfl rfl rfl rfl (M.rdBlk 0 rfl rfl) underlying45 CU rfl (by decide) (AW rfl) (Nat.le_refl _) (Nat.le_refl _) (by first | omega | (simp <;> omega)) (by unfold maxLen; first | omega | (simp only [List.length_append, List.length_cons, List.length_nil]; omega)) (by simp) (by simp [AR, C4]) fun A44 c44 w9 M => yb rfl (A1 (A2 (A0 (ya rfl (AN (xs := El.cells ((AS m.els y.inn).getD zeroEl)) rfl rfl (M.rdBlk 1 rfl rfl) underlying62 rfl AU) ?_)))))))))))
     refine B5 (cs' := (El.cells ((AS m.els y.inn).getD zeroEl))) M 3 (A9 rfl) rfl rfl rfl rfl rfl AU rfl (AP rfl) (AW rfl) rfl fun w10 M => A1 (AC (A2 (A4 (A0 (ya rfl (AN (xs := El.cells ((AS m.els y.inn).getD zeroEl)) rfl rfl (M.rdBlk 3 rfl rfl) underlying62 rfl AU) (A1 (A2 (A0 (BI M (A9 rfl) rfl rfl 62 rfl [str [], str [], .int .u8 0, str [], str [], str [], .int .u8 0, str [], str [], .int .i64 0, .int .i64 0] AY rfl fun g6 w11 hg6 M => B5 (cs' := (El.cells ((AS m.els y.inn).getD zeroEl))) M 0 (A9 rfl) rfl rfl rfl rfl rfl AU rfl (AP rfl) (AW rfl) rfl fun w12 M => A1 ?_)))))))))
     have hlen := h22p.2
     refine BM [(0, pg gx), (5, .slice A44 (acc ++ [((AS m.els y.inn).getD zeroEl).id]).length c44), (6, pg g6)] (64 - (acc ++ [((AS m.els y.inn).getD zeroEl).id]).length) ⟨((AS m.els y.inn).getD zeroEl), acc ++ [((AS m.els y.inn).getD zeroEl).id], A44, c44, g6, rfl, (M.pk [3, 0]), ?_, ?_, rfl⟩ (by first | omega | (simp <;> omega)) ⟨rfl, rfl, rfl, trivial⟩
     ·simp only [List.length_append, List.length_cons, List.length_nil]; omega
     ·rw [hr, V1 m.els h22p.1 (by omega) h39p.1 h39p.2]; simp
   refine AE (d := 35) (b := (!(AS m.els y.inn).isSome)) rfl (fun h35 => ?_) (fun h35 => ?_)
   ·exact yo rfl (yo rfl (yo rfl (yb rfl (k35 _ _ M ⟨rfl, rfl, rfl, rfl, (by rw [h35]; rfl), trivial⟩))))
   ·exact yd rfl (yp rfl) (ym rfl rfl (M.cell 0 rfl rfl) (yd rfl (CX rfl rfl rfl) (yb rfl (k35 _ _ M ⟨rfl, rfl, rfl, rfl, (by rw [h35]; rfl), trivial⟩))))
  ·have h22p := ((E9 h22).imp (fun z => (odt (C3 z))) (fun z => (odf z)))
   refine CD (AI (AI (BB (A2 (A4 (A0 (yb rfl (yb rfl (A1 (A2 (AD (AH rfl rfl ?_))))))))))))
   rw [XI m.els h22p, List.append_nil] at hr
   subst hr
   exact ⟨_, _, rfl, M.own 0 rfl, M.fr⟩
 refine AE (d := 18) (b := (!decide (y.inn = []))) rfl (fun h18 => ?_) (fun h18 => ?_)
 ·exact yd rfl (yp rfl) (yd rfl (CY rfl rfl (sl rfl)) (yd rfl (CH rfl rfl rfl) (yb rfl (k18 _ _ M ⟨rfl, rfl, rfl, (by rw [h18]; rfl), trivial⟩))))
 ·exact yo rfl (yo rfl (yo rfl (yb rfl (k18 _ _ M ⟨rfl, rfl, rfl, (by rw [h18]; rfl), trivial⟩))))
def ME (m : Md) (b y : El) : Bool := (if (decide ((y.kind.toNat : Int) = (6 : Int))) = true then ((AO m.els y.id).any (fun z => decide (b.id = z))) else false)
theorem XW (m : Md) (a : MdA) (ix : IxA) (gx gp : Nat) (b : El) (gb : Nat) (y : El) (w : World) (ho : MdOk m) (hx : IxAt w m a ix gx) (hp : Blk w gp 87 [pg gx]) (hb : Blk w gb 62 b.cells) :
 Calls prog 95 #[.agg y.cells.toArray, pg gp, pg gb] w fun e w' => e = .returned (.bool (ME m b y)) ∧ Fr0 w w' := by
 refine AK (vs := [_, _, _]) func95 rfl ntmps95 rfl ?_
 have M := CK w
 refine A4 (A0 (BD M (A9 rfl) rfl rfl 62 rfl rfl (El.cells y) rfl fun g3 w1 hg3 M => yb rfl (A1 (A2 (A4 (D8 13 (fun w' => Mem w AB [As.blk g3 62 (El.cells y)] w') DT ?_))))))
 have M := M.drew
 refine oc 0 13 rfl rfl M (ol 1 13 rfl rfl rfl M (fun _ M => (M.cell 0 rfl rfl)) (oa 2 13 rfl rfl M (fun _ M => B9 rfl rfl rfl) (oc 3 13 rfl rfl M (HX (d := 8) (b := (decide ((y.kind.toNat : Int) = (6 : Int)))) rfl (fun h8 => ?_) (fun h8 => ?_)))))
 ·have h8p := (odt h8)
  refine ob 4 13 rfl (B7 rfl rfl rfl) rfl rfl M (fun _ M => CO rfl rfl (sc rfl) (Blk.c (hp.fr0 M.fr) 0 rfl)) (ob 5 13 rfl (B7 rfl rfl rfl) rfl rfl M (fun _ M => yp rfl) (ob 6 13 rfl (B7 rfl rfl rfl) rfl rfl M (fun _ M => CO rfl rfl (sc rfl) (M.cell 0 rfl rfl)) (ob 8 13 rfl (B7 rfl rfl rfl) rfl rfl M (fun _ M => yp rfl) (ob 9 13 rfl (B7 rfl rfl rfl) rfl rfl M (fun _ M => CO rfl rfl (sc rfl) (Blk.c (hb.fr0 M.fr) 0 rfl)) (D0 7 (some 12) (by kernel_rfl) rfl (B7 rfl rfl rfl) rfl rfl (AF rfl rfl call96) (TO m a ix gx _ _ ho (hx.fr0 M.fr)) ?_)))))
  rintro _ w2 ⟨A12, c12, rfl, how2, hfw2⟩
  refine ⟨_, rfl, fun _ => M.step hfw2, ?_⟩
  have M := M.pushOwn hfw2 (Nat.le_refl _) how2
  have hL12 := M.ownLen 0 rfl
  refine D0 10 (some 15) (by kernel_rfl) rfl (B7 rfl rfl rfl) rfl rfl (AF rfl rfl call67) (X1 _ _ (AO m.els y.id) _ _ (by have hL := M.ownLen 0 rfl; have := KG m.els y.id; omega) (M.rdOwn 0 rfl)) ?_
  rintro _ w3 ⟨rfl, hfw3⟩
  refine ⟨_, rfl, fun _ => (M.drop 1).step hfw3, ?_⟩
  have M := M.step hfw3
  exact oc 11 13 rfl rfl (M.drop 1) (oc 12 13 rfl rfl (M.drop 1) (BJ (by kernel_rfl) (A2 (AD (AH rfl rfl ⟨by rw [ME, if_pos h8], M.fr⟩)))))
 ·have h8p := (odf h8)
  exact oo1 4 13 rfl rfl rfl rfl rfl rfl rfl M (oo1 5 13 rfl rfl rfl rfl rfl rfl rfl M (oo1 6 13 rfl rfl rfl rfl rfl rfl rfl M (oo1 7 13 rfl rfl rfl rfl rfl rfl rfl M (oo1 8 13 rfl rfl rfl rfl rfl rfl rfl M (oo1 9 13 rfl rfl rfl rfl rfl rfl rfl M (oo1 10 13 rfl rfl rfl rfl rfl rfl rfl M (oc 11 13 rfl rfl M (oc 12 13 rfl rfl M (BJ (by kernel_rfl) (A2 (AD (AH rfl rfl ⟨by rw [ME, if_neg (BA h8)], M.fr⟩))))))))))))
def JI (m : Md) (y : El) : Bool := (if (!decide ((y.kind.toNat : Int) = (9 : Int))) = true then true else (if ((!(AS m.els y.att).isSome) || (!decide (((AS m.els y.att).getD zeroEl).inn = y.inn))) = true then false else (if ((decide ((((AS m.els y.att).getD zeroEl).kind.toNat : Int) = (3 : Int))) || (decide ((((AS m.els y.att).getD zeroEl).kind.toNat : Int) = (4 : Int)))) = true then true else (if ((!decide ((((AS m.els y.att).getD zeroEl).kind.toNat : Int) = (10 : Int))) || (decide ((y.ev.toNat : Int) = (1 : Int)))) = true then false else (!(m.els.any (ME m ((AS m.els y.att).getD zeroEl))))))))
theorem cS (m : Md) (a : MdA) (ix : IxA) (gx gp : Nat) (y : El) (w : World) (oy : ElOk y) (ho : MdOk m) (hx : IxAt w m a ix gx) (hp : Blk w gp 87 [pg gx]) :
 Calls prog 93 #[.agg y.cells.toArray, pg gp] w fun e w' => e = .returned (.bool (JI m y)) ∧ Fr0 w w' := by
 have oy3 := oy.ref
 have oy4 := oy.key
 have oy5 := oy.id
 have oy6 := oy.nm
 have oy7 := oy.inn
 have oy8 := oy.att
 refine AK (vs := [_, _]) func93 rfl ntmps93 rfl ?_
 have M := CK w
 refine A4 (A0 (BD M (A9 rfl) rfl rfl 62 rfl rfl (El.cells y) rfl fun g2 w1 hg2 M => yb rfl (A1 (A2 (A4 (D8 13 (fun w' => Mem w AB [As.blk g2 62 (El.cells y)] w') DT ?_))))))
 have M := M.drew
 refine ol 0 13 rfl rfl rfl M (fun _ M => (Blk.c (hp.fr0 M.fr) 0 rfl)) (oc 1 13 rfl rfl M (oc 2 13 rfl rfl M (ol 3 13 rfl rfl rfl M (fun _ M => (Blk.c ((hx.fr0 M.fr).blk) 5 rfl)) (oc 4 13 rfl rfl M (ol 5 13 rfl rfl rfl M (fun _ M => (M.cell 0 rfl rfl)) (oa 6 13 rfl rfl M (fun _ M => DE rfl rfl rfl underlying55 underlying9 AY ((hx.fr0 M.fr).E) (hx.getE _) (hx.isE _)) (oc 7 13 rfl rfl M (oc 8 13 rfl rfl M (oc 9 13 rfl rfl M (B3 10 (some 4) (by kernel_rfl) rfl (A9 rfl) rfl rfl (fun ρ hρ => BX 62 rfl _ [str [], str [], .int .u8 0, str [], str [], str [], .int .u8 0, str [], str [], .int .i64 0, .int .i64 0] AY rfl) ?_))))))))))
 rintro _ w2 ⟨g4, rfl, hg4, hq4, hb4, hfw2⟩
 refine ⟨fun _ => M.step hfw2, ?_⟩
 have M := M.push hfw2 _ hb4 (DA hg4 hq4)
 replace M : Mem w AB (As.blk g4 62 [str [], str [], .int .u8 0, str [], str [], str [], .int .u8 0, str [], str [], .int .i64 0, .int .i64 0] :: _) w2 := M
 refine B3 11 none (by kernel_rfl) rfl (A9 rfl) rfl rfl (fun ρ hρ => BP 62 _ _ rfl g4 0 62 _ (El.cells ((AS m.els y.att).getD zeroEl)) (hρ _ _ rfl) (hρ _ _ rfl) (M.blk 0 rfl) AU (AP rfl) (AW rfl)) ?_
 rintro _ w3 ⟨rfl, hbw3, hfw3⟩
 replace M : Mem w AB (List.set _ 0 (As.blk g4 62 (El.cells ((AS m.els y.att).getD zeroEl)))) w3 := M.putB 0 rfl hbw3 hfw3
 refine ⟨fun _ => M.drop 1, oc 12 13 rfl rfl (M.drop 1) (BJ (by kernel_rfl) (A2 (A4 (AV (A4 (A0 (yb rfl (yl rfl rfl (M.cell 1 rfl rfl) (ya rfl (CX rfl rfl rfl) (yb rfl (A1 (A2 (AQ (b := (!decide ((y.kind.toNat : Int) = (9 : Int)))) rfl (fun h16 => ?_) (fun h16 => ?_))))))))))))))⟩
 ·have h16p := (odf (C1 h16))
  exact A4 (A0 (yb rfl (A1 (A2 (AD (AJ (AA (AH rfl rfl ⟨by rw [JI, if_pos h16], M.fr⟩))))))))
 ·have h16p := (odt (C3 h16))
  refine A4 (A0 (yb rfl (yb rfl (yb rfl (AT 6 [(1, pg gp), (2, pg g2), (4, pg g4), (29, .bool ((!(AS m.els y.att).isSome) || (!decide (((AS m.els y.att).getD zeroEl).inn = y.inn))))] (fun w' => Mem w AB [As.blk g4 62 (El.cells ((AS m.els y.att).getD zeroEl)), As.blk g2 62 (El.cells y)] w') ?_ (fun k23 => ?_))))))
  ·intro w4 M
   refine yb rfl (A1 (A2 (AQ (b := ((!(AS m.els y.att).isSome) || (!decide (((AS m.els y.att).getD zeroEl).inn = y.inn)))) rfl (fun h20 => ?_) (fun h20 => ?_))))
   ·have h20p := ((EK h20).imp (fun z => (C1 z)) (fun z => (odf (C1 z))))
    exact A4 (A0 (yb rfl (A1 (A2 (AD (AJ (AA (AH rfl rfl ⟨by rw [JI, if_neg (BA h16), if_pos h20], M.fr⟩))))))))
   ·have h20p := (And.intro (C3 (CA h20).1) (odt (C3 (CA h20).2)))
    refine A4 (A0 (yb rfl (yl rfl rfl (M.cell 0 rfl rfl) (ya rfl (B9 rfl rfl rfl) (yb rfl (AT 4 [(1, pg gp), (2, pg g2), (4, pg g4), (38, .bool ((decide ((((AS m.els y.att).getD zeroEl).kind.toNat : Int) = (3 : Int))) || (decide ((((AS m.els y.att).getD zeroEl).kind.toNat : Int) = (4 : Int)))))] (fun w' => Mem w AB [As.blk g4 62 (El.cells ((AS m.els y.att).getD zeroEl)), As.blk g2 62 (El.cells y)] w') ?_ (fun k34 => ?_)))))))
    ·intro w5 M
     refine yb rfl (A1 (A2 (AQ (b := ((decide ((((AS m.els y.att).getD zeroEl).kind.toNat : Int) = (3 : Int))) || (decide ((((AS m.els y.att).getD zeroEl).kind.toNat : Int) = (4 : Int))))) rfl (fun h30 => ?_) (fun h30 => ?_))))
     ·have h30p := ((EK h30).imp (fun z => (odt z)) (fun z => (odt z)))
      exact A4 (A0 (yb rfl (A1 (A2 (AD (AJ (AA (AH rfl rfl ⟨by rw [JI, if_neg (BA h16), if_neg (BA h20), if_pos h30], M.fr⟩))))))))
     ·have h30p := (And.intro (odf (CA h30).1) (odf (CA h30).2))
      refine A4 (A0 (yb rfl (yl rfl rfl (M.cell 0 rfl rfl) (ya rfl (CX rfl rfl rfl) (yb rfl (AT 4 [(1, pg gp), (4, pg g4), (47, .bool ((!decide ((((AS m.els y.att).getD zeroEl).kind.toNat : Int) = (10 : Int))) || (decide ((y.ev.toNat : Int) = (1 : Int)))))] (fun w' => Mem w AB [As.blk g4 62 (El.cells ((AS m.els y.att).getD zeroEl)), As.blk g2 62 (El.cells y)] w') ?_ (fun k43 => ?_)))))))
      ·intro w6 M
       refine yb rfl (A1 (A2 (AQ (b := ((!decide ((((AS m.els y.att).getD zeroEl).kind.toNat : Int) = (10 : Int))) || (decide ((y.ev.toNat : Int) = (1 : Int))))) rfl (fun h39 => ?_) (fun h39 => ?_))))
       ·have h39p := ((EK h39).imp (fun z => (odf (C1 z))) (fun z => (odt z)))
        exact A4 (A0 (yb rfl (A1 (A2 (AD (AJ (AA (AH rfl rfl ⟨by rw [JI, if_neg (BA h16), if_neg (BA h20), if_neg (BA h30), if_pos h39], M.fr⟩))))))))
       ·have h39p := (And.intro (odt (C3 (CA h39).1)) (odf (CA h39).2))
        refine AL (AC (A2 (A4 (A0 (yl rfl rfl (Blk.c (hp.fr0 M.fr) 0 rfl) (yb rfl (yb rfl (yb rfl (yl rfl rfl (Blk.c ((hx.fr0 M.fr).blk) 3 rfl) (ya rfl (CT (us := []) (vs := [pg gp, pg g4]) rfl rfl rfl) (cp M 54 rfl (AF rfl rfl call94) (p6 _ _ m.els (by have := EY m.fls; have := DM m.fls; have := ho.nfls; have := ho.nels; have := ho.nvars; first | omega | exact Nat.le_trans (EY _ _) (by omega) | exact Nat.le_trans (DM _ _) (by omega)) 95 [pg gp, pg g4] (ME m ((AS m.els y.att).getD zeroEl)) _ (GE call95 (fun z hz w9 hf9 => XW m a ix gx gp ((AS m.els y.att).getD zeroEl) _ z w9 ho ((hx.fr0 M.fr).fr0 hf9) ((hp.fr0 M.fr).fr0 hf9) ((M.blk 0 rfl).fr0 hf9))) (M.rd hx.md.els)) fun w7 M => yb rfl (yb rfl (A1 (A2 ?_))))))))))))))
        exact AD (AH rfl rfl ⟨by rw [JI, if_neg (BA h16), if_neg (BA h20), if_neg (BA h30), if_neg (BA h39)], M.fr⟩)
      refine AE (d := 43) (b := (!decide ((((AS m.els y.att).getD zeroEl).kind.toNat : Int) = (10 : Int)))) rfl (fun h43 => ?_) (fun h43 => ?_)
      ·exact yo rfl (yo rfl (yo rfl (yb rfl (k43 _ _ M ⟨rfl, rfl, (by rw [h43]; rfl), trivial⟩))))
      ·exact yd rfl (yp rfl) (ym rfl rfl (M.cell 1 rfl rfl) (yd rfl (B9 rfl rfl rfl) (yb rfl (k43 _ _ M ⟨rfl, rfl, (by rw [h43]; rfl), trivial⟩))))
    refine AE (d := 34) (b := (decide ((((AS m.els y.att).getD zeroEl).kind.toNat : Int) = (3 : Int)))) rfl (fun h34 => ?_) (fun h34 => ?_)
    ·exact yo rfl (yo rfl (yo rfl (yb rfl (k34 _ _ M ⟨rfl, rfl, rfl, (by rw [h34]; rfl), trivial⟩))))
    ·exact yd rfl (yp rfl) (ym rfl rfl (M.cell 0 rfl rfl) (yd rfl (B9 rfl rfl rfl) (yb rfl (k34 _ _ M ⟨rfl, rfl, rfl, (by rw [h34]; rfl), trivial⟩))))
  refine AE (d := 23) (b := (!(AS m.els y.att).isSome)) rfl (fun h23 => ?_) (fun h23 => ?_)
  ·iterate 5 refine yo rfl ?_
   exact yb rfl (k23 _ _ M ⟨rfl, rfl, rfl, (by rw [h23]; rfl), trivial⟩)
  ·exact yd rfl (yp rfl) (ym rfl rfl (M.cell 0 rfl rfl) (yd rfl (yp rfl) (ym rfl rfl (M.cell 1 rfl rfl) (yd rfl (HD rfl rfl rfl) (yb rfl (k23 _ _ M ⟨rfl, rfl, rfl, (by rw [h23]; rfl), trivial⟩))))))
def IU (r : Option (List UInt8)) : Value := .tuple #[str (r.getD []), .bool r.isSome]
def ffE (p : El → Bool) (l : List El) : Option (List UInt8) := (ffN (fun _ => p) 0 l).map (·.id)
def ffF (p : Fl → Bool) (l : List Fl) : Option (List UInt8) := (ffN (fun _ => p) 0 l).map (·.id)
theorem RB (p : El → Bool) (l : List El) : Value.tuple #[str ((ffN (fun _ => p) 0 l).elim [] (fun x => x.id)), .bool (ffN (fun _ => p) 0 l).isSome] = IU (ffE p l) := by unfold IU ffE; cases ffN (fun _ => p) 0 l <;> rfl
theorem kA (p : Fl → Bool) (l : List Fl) : Value.tuple #[str ((ffN (fun _ => p) 0 l).elim [] (fun x => x.id)), .bool (ffN (fun _ => p) 0 l).isSome] = IU (ffF p l) := by unfold IU ffF; cases ffN (fun _ => p) 0 l <;> rfl
theorem mE (m : Md) (a : MdA) (ix : IxA) (gx : Nat) (w : World) (ho : MdOk m) (hx : IxAt w m a ix gx) :
 Calls prog 32 #[pg gx] w fun e w' => e = .returned (IU (ffE (cH m) m.els)) ∧ Fr0 w w' := by
 refine AK (vs := [_]) func32 rfl ntmps32 rfl ?_
 have M := CK w
 refine A4 (A0 (BD M (A9 rfl) rfl rfl 87 rfl rfl ([pg gx]) rfl fun g1 w1 hg1 M => yb rfl (yb rfl (A1 (A2 (A4 (A0 (yl rfl rfl (M.cell 0 rfl rfl) (yb rfl (yb rfl (yb rfl (yl rfl rfl (Blk.c ((hx.fr0 M.fr).blk) 3 rfl) (ya rfl (CT (us := []) (vs := [pg g1]) rfl rfl rfl) ?_)))))))))))))
 refine cp M 10 rfl (AF rfl rfl call74) (HZ _ _ m.els (by have := ho.nfls; have := ho.nels; have := ho.nvars; omega) 80 [pg g1] (cH m) _ (GE call80 (fun z hz w9 hf9 => mF m a ix gx _ z w9 (ho.els z hz) ho ((hx.fr0 M.fr).fr0 hf9) ((M.blk 0 rfl).fr0 hf9))) (M.rd hx.md.els)) fun w2 M => ?_
 iterate 4 refine yb rfl ?_
 exact A1 (A2 (AD (BY rfl rfl rfl ⟨congrArg Ending.returned (RB _ _), M.fr⟩)))
theorem cK (m : Md) (a : MdA) (ix : IxA) (gx : Nat) (w : World) (ho : MdOk m) (hx : IxAt w m a ix gx) :
 Calls prog 33 #[pg gx] w fun e w' => e = .returned (IU (ffF (PW m) m.fls)) ∧ Fr0 w w' := by
 refine AK (vs := [_]) func33 rfl ntmps33 rfl ?_
 have M := CK w
 refine A4 (A0 (BD M (A9 rfl) rfl rfl 87 rfl rfl ([pg gx]) rfl fun g1 w1 hg1 M => yb rfl (yb rfl (A1 (A2 (A4 (A0 (yl rfl rfl (M.cell 0 rfl rfl) (yb rfl (yb rfl (yb rfl (yl rfl rfl (Blk.c ((hx.fr0 M.fr).blk) 4 rfl) (ya rfl (CT (us := []) (vs := [pg g1]) rfl rfl rfl) ?_)))))))))))))
 refine cp M 10 rfl (AF rfl rfl call77) (T8 _ _ m.fls (by have := ho.nfls; have := ho.nels; have := ho.nvars; omega) 82 [pg g1] (PW m) _ (GE call82 (fun z hz w9 hf9 => cL m a ix gx _ z w9 ho ((hx.fr0 M.fr).fr0 hf9) ((M.blk 0 rfl).fr0 hf9))) (M.rd hx.md.fls)) fun w2 M => ?_
 iterate 4 refine yb rfl ?_
 exact A1 (A2 (AD (BY rfl rfl rfl ⟨congrArg Ending.returned (kA _ _), M.fr⟩)))
theorem jO (m : Md) (a : MdA) (ix : IxA) (gx : Nat) (w : World) (ho : MdOk m) (hx : IxAt w m a ix gx) :
 Calls prog 34 #[pg gx] w fun e w' => e = .returned (IU (ffE (L6 m) m.els)) ∧ Fr0 w w' := by
 refine AK (vs := [_]) func34 rfl ntmps34 rfl ?_
 have M := CK w
 refine A4 (A0 (BD M (A9 rfl) rfl rfl 87 rfl rfl ([pg gx]) rfl fun g1 w1 hg1 M => yb rfl (yb rfl (A1 (A2 (A4 (A0 (yl rfl rfl (M.cell 0 rfl rfl) (yb rfl (yb rfl (yb rfl (yl rfl rfl (Blk.c ((hx.fr0 M.fr).blk) 3 rfl) (ya rfl (CT (us := []) (vs := [pg g1]) rfl rfl rfl) ?_)))))))))))))
 refine cp M 10 rfl (AF rfl rfl call74) (HZ _ _ m.els (by have := ho.nfls; have := ho.nels; have := ho.nvars; omega) 83 [pg g1] (L6 m) _ (GE call83 (fun z hz w9 hf9 => eF m a ix gx _ z w9 (ho.els z hz) ho ((hx.fr0 M.fr).fr0 hf9) ((M.blk 0 rfl).fr0 hf9))) (M.rd hx.md.els)) fun w2 M => ?_
 iterate 4 refine yb rfl ?_
 exact A1 (A2 (AD (BY rfl rfl rfl ⟨congrArg Ending.returned (RB _ _), M.fr⟩)))
theorem cR (m : Md) (a : MdA) (ix : IxA) (gx : Nat) (w : World) (ho : MdOk m) (hx : IxAt w m a ix gx) :
 Calls prog 37 #[pg gx] w fun e w' => e = .returned (IU (ffE (JI m) m.els)) ∧ Fr0 w w' := by
 refine AK (vs := [_]) func37 rfl ntmps37 rfl ?_
 have M := CK w
 refine A4 (A0 (BD M (A9 rfl) rfl rfl 87 rfl rfl ([pg gx]) rfl fun g1 w1 hg1 M => yb rfl (yb rfl (A1 (A2 (A4 (A0 (yl rfl rfl (M.cell 0 rfl rfl) (yb rfl (yb rfl (yb rfl (yl rfl rfl (Blk.c ((hx.fr0 M.fr).blk) 3 rfl) (ya rfl (CT (us := []) (vs := [pg g1]) rfl rfl rfl) ?_)))))))))))))
 refine cp M 10 rfl (AF rfl rfl call74) (HZ _ _ m.els (by have := ho.nfls; have := ho.nels; have := ho.nvars; omega) 93 [pg g1] (JI m) _ (GE call93 (fun z hz w9 hf9 => cS m a ix gx _ z w9 (ho.els z hz) ho ((hx.fr0 M.fr).fr0 hf9) ((M.blk 0 rfl).fr0 hf9))) (M.rd hx.md.els)) fun w2 M => ?_
 iterate 4 refine yb rfl ?_
 exact A1 (A2 (AD (BY rfl rfl rfl ⟨congrArg Ending.returned (RB _ _), M.fr⟩)))
theorem eL (m : Md) (a : MdA) (ix : IxA) (gx : Nat) (w : World) (ho : MdOk m) (hx : IxAt w m a ix gx) :
 Calls prog 38 #[pg gx] w fun e w' => e = .returned (IU (ffE (RF m) m.els)) ∧ Fr0 w w' := by
 refine AK (vs := [_]) func38 rfl ntmps38 rfl ?_
 have M := CK w
 refine A4 (A0 (BD M (A9 rfl) rfl rfl 87 rfl rfl ([pg gx]) rfl fun g1 w1 hg1 M => yb rfl (yb rfl (A1 (A2 (A4 (A0 (yl rfl rfl (M.cell 0 rfl rfl) (yb rfl (yb rfl (yb rfl (yl rfl rfl (Blk.c ((hx.fr0 M.fr).blk) 3 rfl) (ya rfl (CT (us := []) (vs := [pg g1]) rfl rfl rfl) ?_)))))))))))))
 refine cp M 10 rfl (AF rfl rfl call74) (HZ _ _ m.els (by have := ho.nfls; have := ho.nels; have := ho.nvars; omega) 97 [pg g1] (RF m) _ (GE call97 (fun z hz w9 hf9 => eM m a ix gx _ z w9 (ho.els z hz) ho ((hx.fr0 M.fr).fr0 hf9) ((M.blk 0 rfl).fr0 hf9))) (M.rd hx.md.els)) fun w2 M => ?_
 iterate 4 refine yb rfl ?_
 exact A1 (A2 (AD (BY rfl rfl rfl ⟨congrArg Ending.returned (RB _ _), M.fr⟩)))
end Go.Proofs.YtadgfojhjnkliaaGreatDoor
