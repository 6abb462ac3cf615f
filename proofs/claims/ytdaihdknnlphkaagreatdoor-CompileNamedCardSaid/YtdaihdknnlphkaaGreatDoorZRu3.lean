/- Lemmas that the last text rests on. Condition: each says its own. -/
import Derived.Test.YtdaihdknnlphkaaGreatDoorZRu2
import Derived.Test.YtdaihdknnlphkaaGreatDoorZb7
set_option maxHeartbeats 16000000
set_option maxRecDepth 100000
namespace Go.Proofs.YtdaihdknnlphkaaGreatDoor
open Go.RowKit
open Tryz
def DU (els : List El) : Nat → El → List (List UInt8)
 | 0, _ => []
 | f + 1, y => if y.inn = [] then [] else match AO els y.inn with
  | none => []
  | some x => if x.kind.toNat = 10 then x.id :: DU els f x else []
def DL (els : List El) (id : List UInt8) : List (List UInt8) := DU els 64 ((AO els id).getD zeroEl)
theorem X6 (els : List El) {y : El} {n : Nat} (h1 : ¬ y.inn = []) (hn : n < 64) (h2 : (AO els y.inn).isSome = true) (h3 : (((AO els y.inn).getD zeroEl).kind.toNat : Int) = 10) : DU els (64 - n) y = ((AO els y.inn).getD zeroEl).id :: DU els (64 - (n + 1)) ((AO els y.inn).getD zeroEl) := by
 rw [show 64 - n = (64 - (n + 1)) + 1 by omega, DU, if_neg h1]
 cases hx : AO els y.inn with
 | none => rw [hx] at h2; cases h2
 | some x =>
  rw [hx] at h3
  have h3' : x.kind.toNat = 10 := by simp only [Option.getD_some] at h3; omega
  simp only [if_pos h3', Option.getD_some]
theorem X5 (els : List El) {y : El} {n : Nat} (h : (AO els y.inn).isSome = false ∨ ¬ (((AO els y.inn).getD zeroEl).kind.toNat : Int) = 10) : DU els n y = [] := by
 cases n with
 | zero => rfl
 | succ n =>
  rw [DU]
  split
  ·rfl
  ·cases hx : AO els y.inn with
   | none => rfl
   | some x =>
    rw [hx] at h
    simp only [Option.isSome_some, Bool.true_eq_false, Option.getD_some, false_or] at h
    simp only
    rw [if_neg (by omega)]
theorem ZS (els : List El) {y : El} {n : Nat} (h : y.inn = [] ∨ ¬ (n : Int) < 64) : DU els (64 - n) y = [] := by
 rcases h with h | h
 ·cases 64 - n with
  | zero => rfl
  | succ k => rw [DU, if_pos h]
 ·rw [show 64 - n = 0 by omega]; rfl
theorem QC (els : List El) : ∀ (n : Nat) (y : El), (DU els n y).length ≤ n
 | 0, _ => Nat.le_refl _
 | n + 1, y => by
  rw [DU]
  split
  ·exact Nat.zero_le _
  ·split
   ·exact Nat.zero_le _
   ·split
    ·have := QC els n; simp only [List.length_cons]; exact Nat.succ_le_succ (this _)
    ·exact Nat.zero_le _
theorem LN (els : List El) (id : List UInt8) : (DL els id).length ≤ 64 := QC els 64 _
theorem VK (m : Md) (a : MdA) (ix : IxA) (gx : Nat) (id : List UInt8) (w : World) (_ho : MdOk m) (hx : IxAt w m a ix gx) :
 Calls prog 86 #[pg gx, str id] w fun e w' => ∃ A c, e = .returned (.slice A (DL m.els id).length c) ∧ w'.ownsRow w.heap.size 9 1 (.slice A (DL m.els id).length c) (DL m.els id).length (AS D7 (DL m.els id)) ∧ Fr0 w w' := by
 refine AJ (vs := [_, _]) func86 rfl ntmps86 rfl ?_
 have M := CN w
 refine A9 (A0 (yb rfl (A4 (A5 (A9 (A0 (yb rfl (A4 (A5 (A9 (A9 (A0 (yb rfl (yb rfl (yb rfl ?_)))))))))))))))
 refine yl rfl rfl (Blk.c ((hx.fr0 M.fr).blk) 5 rfl) (yb rfl (ya rfl (CK rfl rfl rfl underlying87 underlying9 B7 ((hx.fr0 M.fr).E) (hx.getE _)) (BI M (AA rfl) rfl rfl 39 rfl [str [], str [], .int .u8 0, str [], str [], str [], .int .u8 0, str [], str [], .int .i64 0, .int .i64 0] B7 rfl fun g6 w1 hg6 M => B8 (cs' := (El.cells ((AO m.els id).getD zeroEl))) M 0 (AA rfl) rfl rfl rfl rfl rfl AP rfl (AI rfl) (AY rfl) rfl fun w2 M => A4 (A5 (AV ?_)))))
 have M := M.nilOwn 9 1
 refine CL (fun e wr mz => ∃ (y : El) (acc : List (List UInt8)) (A : Option Addr) (c : Nat) (gv : Nat), e = [(0, pg gx), (5, .slice A acc.length c), (6, pg gv)] ∧ Mem w AD [As.own w.heap.size 9 1 (.slice A acc.length c) acc.length (AS D7 acc), As.blk gv 39 (El.cells y)] wr ∧ (acc.length ≤ 64) ∧ (DL m.els id = acc ++ DU m.els (64 - acc.length) y) ∧ mz = 64 - acc.length) ⟨(AO m.els id).getD zeroEl, [], none, 0, g6, rfl, M, Nat.zero_le _, rfl, rfl⟩ ⟨rfl, rfl, rfl, trivial⟩ ?_
 rintro _ w3 _ ⟨y, acc, A, c, gv, rfl, M, hl, hr, rfl⟩
 refine A9 (A9 (A0 (yb rfl (yl rfl rfl (M.cell 1 rfl rfl) (ya rfl (GR rfl rfl rfl) (yb rfl (AX 4 [(0, pg gx), (5, .slice A acc.length c), (6, pg gv), (22, .bool ((!decide (y.inn = [])) && (decide (((acc.length : Nat) : Int) < (64 : Int)))))] (fun w' => Mem w AD [As.own w.heap.size 9 1 (.slice A acc.length c) acc.length (AS D7 acc), As.blk gv 39 (El.cells y)] w') ?_ (fun k18 => ?_))))))))
 ·intro w4 M
  refine A4 (A5 (AT (b := ((!decide (y.inn = [])) && (decide (((acc.length : Nat) : Int) < (64 : Int))))) rfl (fun h22 => ?_) (fun h22 => ?_)))
  ·have h22p := (And.intro (odf (C4 (C9 h22).1)) (odt (C9 h22).2))
   refine AN (A5 (A9 (AV (A9 (DB 13 (fun w' => Mem w AD [As.own w.heap.size 9 1 (.slice A acc.length c) acc.length (AS D7 acc), As.blk gv 39 (El.cells y)] w') DV ?_)))))
   have M := M.drew
   refine oc 0 13 rfl rfl M (oc 1 13 rfl rfl M (oc 2 13 rfl rfl M (ol 3 13 rfl rfl rfl M (fun _ M => (Blk.c ((hx.fr0 M.fr).blk) 5 rfl)) (oc 4 13 rfl rfl M (ol 5 13 rfl rfl rfl M (fun _ M => (M.cell 1 rfl rfl)) (oa 6 13 rfl rfl M (fun _ M => DH rfl rfl rfl underlying87 underlying9 B7 ((hx.fr0 M.fr).E) (hx.getE _) (hx.isE _)) (oc 7 13 rfl rfl M (oc 8 13 rfl rfl M (oc 9 13 rfl rfl M (BG 10 (some 7) (by kernel_rfl) rfl (AA rfl) rfl rfl (fun ρ hρ => C6 39 rfl _ [str [], str [], .int .u8 0, str [], str [], str [], .int .u8 0, str [], str [], .int .i64 0, .int .i64 0] B7 rfl) ?_))))))))))
   rintro _ w5 ⟨g7, rfl, hg7, hq7, hb7, hfw5⟩
   refine ⟨fun _ => M.step hfw5, ?_⟩
   have M := M.push hfw5 _ hb7 (DX hg7 hq7)
   replace M : Mem w AD (As.blk g7 39 [str [], str [], .int .u8 0, str [], str [], str [], .int .u8 0, str [], str [], .int .i64 0, .int .i64 0] :: _) w5 := M
   refine BG 11 none (by kernel_rfl) rfl (AA rfl) rfl rfl (fun ρ hρ => BW 39 _ _ rfl g7 0 39 _ (El.cells ((AO m.els y.inn).getD zeroEl)) (hρ _ _ rfl) (hρ _ _ rfl) (M.blk 0 rfl) AP (AI rfl) (AY rfl)) ?_
   rintro _ w6 ⟨rfl, hbw6, hfw6⟩
   replace M : Mem w AD (List.set _ 0 (As.blk g7 39 (El.cells ((AO m.els y.inn).getD zeroEl)))) w6 := M.putB 0 rfl hbw6 hfw6
   refine ⟨fun _ => M.drop 1, oc 12 13 rfl rfl (M.drop 1) (BN (by kernel_rfl) (A5 (A9 (A9 (A0 (yb rfl (yb rfl (yb rfl (AX 4 [(0, pg gx), (5, .slice A acc.length c), (6, pg gv), (7, pg g7), (39, .bool ((!(AO m.els y.inn).isSome) || (!decide ((((AO m.els y.inn).getD zeroEl).kind.toNat : Int) = (10 : Int)))))] (fun w' => Mem w AD [As.blk g7 39 (El.cells ((AO m.els y.inn).getD zeroEl)), As.own w.heap.size 9 1 (.slice A acc.length c) acc.length (AS D7 acc), As.blk gv 39 (El.cells y)] w') ?_ (fun k35 => ?_))))))))))⟩
   ·intro w7 M
    refine A4 (A5 (AT (b := ((!(AO m.els y.inn).isSome) || (!decide ((((AO m.els y.inn).getD zeroEl).kind.toNat : Int) = (10 : Int))))) rfl (fun h39 => ?_) (fun h39 => ?_)))
    ·have h39p := ((EL h39).imp (fun z => (C4 z)) (fun z => (odf (C4 z))))
     refine C2 (AG (JH rfl (AG (AG (B5 (A5 (A9 (A0 (yb rfl (yb rfl (A4 (A5 (AF (AK rfl rfl ?_))))))))))))))
     rw [X5 m.els h39p, List.append_nil] at hr
     subst hr
     exact ⟨_, _, rfl, M.own 1 rfl, M.fr⟩
    ·have h39p := (And.intro (C5 (CE h39).1) (odt (C5 (CE h39).2)))
     refine AN (A5 (A9 (A0 (yb rfl (yb rfl (yl rfl rfl (M.cell 0 rfl rfl) (DC M (AA rfl) rfl rfl [str (((AO m.els y.inn).getD zeroEl).id)] ([str (((AO m.els y.inn).getD zeroEl).id)]) rfl rfl rfl rfl underlying29 CR rfl rfl (IK rfl) rfl fun g43 w8 hg43 M => J4 (len' := (acc ++ [((AO m.els y.inn).getD zeroEl).id]).length) (xs' := AS D7 (acc ++ [((AO m.els y.inn).getD zeroEl).id])) M 2 (AA rfl) rfl rfl rfl rfl rfl rfl (M.rdBlk 0 rfl rfl) underlying29 JA rfl (by decide) (AY rfl) (Nat.le_refl _) (Nat.le_refl _) (by first | omega | (simp <;> omega)) (by unfold maxLen; first | omega | (simp only [List.length_append, List.length_cons, List.length_nil]; omega)) (by simp) (by simp [AS, D7]) fun A44 c44 w9 M => yb rfl (A4 (A5 (A0 (ya rfl (AU (xs := El.cells ((AO m.els y.inn).getD zeroEl)) rfl rfl (M.rdBlk 1 rfl rfl) underlying39 rfl AP) ?_)))))))))))
     refine B8 (cs' := (El.cells ((AO m.els y.inn).getD zeroEl))) M 3 (AA rfl) rfl rfl rfl rfl rfl AP rfl (AI rfl) (AY rfl) rfl fun w10 M => A4 (AC (A5 (A9 (A0 (ya rfl (AU (xs := El.cells ((AO m.els y.inn).getD zeroEl)) rfl rfl (M.rdBlk 3 rfl rfl) underlying39 rfl AP) (A4 (A5 (A0 (BI M (AA rfl) rfl rfl 39 rfl [str [], str [], .int .u8 0, str [], str [], str [], .int .u8 0, str [], str [], .int .i64 0, .int .i64 0] B7 rfl fun g6 w11 hg6 M => B8 (cs' := (El.cells ((AO m.els y.inn).getD zeroEl))) M 0 (AA rfl) rfl rfl rfl rfl rfl AP rfl (AI rfl) (AY rfl) rfl fun w12 M => A4 ?_)))))))))
     have hlen := h22p.2
     refine BF [(0, pg gx), (5, .slice A44 (acc ++ [((AO m.els y.inn).getD zeroEl).id]).length c44), (6, pg g6)] (64 - (acc ++ [((AO m.els y.inn).getD zeroEl).id]).length) ⟨((AO m.els y.inn).getD zeroEl), acc ++ [((AO m.els y.inn).getD zeroEl).id], A44, c44, g6, rfl, (M.pk [3, 0]), ?_, ?_, rfl⟩ (by first | omega | (simp <;> omega)) ⟨rfl, rfl, rfl, trivial⟩
     ·simp only [List.length_append, List.length_cons, List.length_nil]; omega
     ·rw [hr, X6 m.els h22p.1 (by omega) h39p.1 h39p.2]; simp
   refine AM (d := 35) (b := (!(AO m.els y.inn).isSome)) rfl (fun h35 => ?_) (fun h35 => ?_)
   ·exact yo rfl (yo rfl (yo rfl (yb rfl (k35 _ _ M ⟨rfl, rfl, rfl, rfl, (by rw [h35]; rfl), trivial⟩))))
   ·exact yd rfl (yp rfl) (ym rfl rfl (M.cell 0 rfl rfl) (yd rfl (CX rfl rfl rfl) (yb rfl (k35 _ _ M ⟨rfl, rfl, rfl, rfl, (by rw [h35]; rfl), trivial⟩))))
  ·have h22p := ((EH h22).imp (fun z => (odt (C5 z))) (fun z => (odf z)))
   refine C2 (AG (AG (B5 (A5 (A9 (A0 (yb rfl (yb rfl (A4 (A5 (AF (AK rfl rfl ?_))))))))))))
   rw [ZS m.els h22p, List.append_nil] at hr
   subst hr
   exact ⟨_, _, rfl, M.own 0 rfl, M.fr⟩
 refine AM (d := 18) (b := (!decide (y.inn = []))) rfl (fun h18 => ?_) (fun h18 => ?_)
 ·exact yd rfl (yp rfl) (yd rfl (CS rfl rfl (sl rfl)) (yd rfl (CB rfl rfl rfl) (yb rfl (k18 _ _ M ⟨rfl, rfl, rfl, (by rw [h18]; rfl), trivial⟩))))
 ·exact yo rfl (yo rfl (yo rfl (yb rfl (k18 _ _ M ⟨rfl, rfl, rfl, (by rw [h18]; rfl), trivial⟩))))
def J5 (m : Md) (b y : El) : Bool := (if (decide ((y.kind.toNat : Int) = (6 : Int))) = true then ((DL m.els y.id).any (fun z => decide (b.id = z))) else false)
theorem aJ (m : Md) (a : MdA) (ix : IxA) (gx gp : Nat) (b : El) (gb : Nat) (y : El) (w : World) (ho : MdOk m) (hx : IxAt w m a ix gx) (hp : Blk w gp 67 [pg gx]) (hb : Blk w gb 39 b.cells) :
 Calls prog 84 #[.agg y.cells.toArray, pg gp, pg gb] w fun e w' => e = .returned (.bool (J5 m b y)) ∧ Fr0 w w' := by
 refine AJ (vs := [_, _, _]) func84 rfl ntmps84 rfl ?_
 have M := CN w
 refine A9 (A0 (B4 M (AA rfl) rfl rfl 39 rfl rfl (El.cells y) rfl fun g3 w1 hg3 M => yb rfl (A4 (A5 (A9 (DB 13 (fun w' => Mem w AD [As.blk g3 39 (El.cells y)] w') DV ?_))))))
 have M := M.drew
 refine oc 0 13 rfl rfl M (ol 1 13 rfl rfl rfl M (fun _ M => (M.cell 0 rfl rfl)) (oa 2 13 rfl rfl M (fun _ M => BB rfl rfl rfl) (oc 3 13 rfl rfl M (EO (d := 8) (b := (decide ((y.kind.toNat : Int) = (6 : Int)))) rfl (fun h8 => ?_) (fun h8 => ?_)))))
 ·have h8p := (odt h8)
  refine ob 4 13 rfl (AW rfl rfl rfl) rfl rfl M (fun _ M => C0 rfl rfl (sc rfl) (Blk.c (hp.fr0 M.fr) 0 rfl)) (ob 5 13 rfl (AW rfl rfl rfl) rfl rfl M (fun _ M => yp rfl) (ob 6 13 rfl (AW rfl rfl rfl) rfl rfl M (fun _ M => C0 rfl rfl (sc rfl) (M.cell 0 rfl rfl)) (ob 8 13 rfl (AW rfl rfl rfl) rfl rfl M (fun _ M => yp rfl) (ob 9 13 rfl (AW rfl rfl rfl) rfl rfl M (fun _ M => C0 rfl rfl (sc rfl) (Blk.c (hb.fr0 M.fr) 0 rfl)) (BY 7 (some 12) (by kernel_rfl) rfl (AW rfl rfl rfl) rfl rfl (AE rfl rfl call86) (VK m a ix gx _ _ ho (hx.fr0 M.fr)) ?_)))))
  rintro _ w2 ⟨A12, c12, rfl, how2, hfw2⟩
  refine ⟨_, rfl, fun _ => M.step hfw2, ?_⟩
  have M := M.pushOwn hfw2 (Nat.le_refl _) how2
  have hL12 := M.ownLen 0 rfl
  refine BY 10 (some 15) (by kernel_rfl) rfl (AW rfl rfl rfl) rfl rfl (AE rfl rfl call85) (O9 _ _ (DL m.els y.id) _ _ (by have hL := M.ownLen 0 rfl; have := LN m.els y.id; omega) (M.rdOwn 0 rfl)) ?_
  rintro _ w3 ⟨rfl, hfw3⟩
  refine ⟨_, rfl, fun _ => (M.drop 1).step hfw3, ?_⟩
  have M := M.step hfw3
  exact oc 11 13 rfl rfl (M.drop 1) (oc 12 13 rfl rfl (M.drop 1) (BN (by kernel_rfl) (A5 (AF (AK rfl rfl ⟨by rw [J5, if_pos h8], M.fr⟩)))))
 ·have h8p := (odf h8)
  exact oo1 4 13 rfl rfl rfl rfl rfl rfl rfl M (oo1 5 13 rfl rfl rfl rfl rfl rfl rfl M (oo1 6 13 rfl rfl rfl rfl rfl rfl rfl M (oo1 7 13 rfl rfl rfl rfl rfl rfl rfl M (oo1 8 13 rfl rfl rfl rfl rfl rfl rfl M (oo1 9 13 rfl rfl rfl rfl rfl rfl rfl M (oo1 10 13 rfl rfl rfl rfl rfl rfl rfl M (oc 11 13 rfl rfl M (oc 12 13 rfl rfl M (BN (by kernel_rfl) (A5 (AF (AK rfl rfl ⟨by rw [J5, if_neg (BE h8)], M.fr⟩))))))))))))
def HU (m : Md) (y : El) : Bool := (if (!decide ((y.kind.toNat : Int) = (9 : Int))) = true then true else (if ((!(AO m.els y.att).isSome) || (!decide (((AO m.els y.att).getD zeroEl).inn = y.inn))) = true then false else (if ((decide ((((AO m.els y.att).getD zeroEl).kind.toNat : Int) = (3 : Int))) || (decide ((((AO m.els y.att).getD zeroEl).kind.toNat : Int) = (4 : Int)))) = true then true else (if ((!decide ((((AO m.els y.att).getD zeroEl).kind.toNat : Int) = (10 : Int))) || (decide ((y.ev.toNat : Int) = (1 : Int)))) = true then false else (!(m.els.any (J5 m ((AO m.els y.att).getD zeroEl))))))))
theorem gQ (m : Md) (a : MdA) (ix : IxA) (gx gp : Nat) (y : El) (w : World) (oy : ElOk y) (ho : MdOk m) (hx : IxAt w m a ix gx) (hp : Blk w gp 67 [pg gx]) :
 Calls prog 82 #[.agg y.cells.toArray, pg gp] w fun e w' => e = .returned (.bool (HU m y)) ∧ Fr0 w w' := by
 have oy3 := oy.ref
 have oy4 := oy.key
 have oy5 := oy.id
 have oy6 := oy.nm
 have oy7 := oy.inn
 have oy8 := oy.att
 refine AJ (vs := [_, _]) func82 rfl ntmps82 rfl ?_
 have M := CN w
 refine A9 (A0 (B4 M (AA rfl) rfl rfl 39 rfl rfl (El.cells y) rfl fun g2 w1 hg2 M => yb rfl (A4 (A5 (A9 (DB 13 (fun w' => Mem w AD [As.blk g2 39 (El.cells y)] w') DV ?_))))))
 have M := M.drew
 refine ol 0 13 rfl rfl rfl M (fun _ M => (Blk.c (hp.fr0 M.fr) 0 rfl)) (oc 1 13 rfl rfl M (oc 2 13 rfl rfl M (ol 3 13 rfl rfl rfl M (fun _ M => (Blk.c ((hx.fr0 M.fr).blk) 5 rfl)) (oc 4 13 rfl rfl M (ol 5 13 rfl rfl rfl M (fun _ M => (M.cell 0 rfl rfl)) (oa 6 13 rfl rfl M (fun _ M => DH rfl rfl rfl underlying87 underlying9 B7 ((hx.fr0 M.fr).E) (hx.getE _) (hx.isE _)) (oc 7 13 rfl rfl M (oc 8 13 rfl rfl M (oc 9 13 rfl rfl M (BG 10 (some 4) (by kernel_rfl) rfl (AA rfl) rfl rfl (fun ρ hρ => C6 39 rfl _ [str [], str [], .int .u8 0, str [], str [], str [], .int .u8 0, str [], str [], .int .i64 0, .int .i64 0] B7 rfl) ?_))))))))))
 rintro _ w2 ⟨g4, rfl, hg4, hq4, hb4, hfw2⟩
 refine ⟨fun _ => M.step hfw2, ?_⟩
 have M := M.push hfw2 _ hb4 (DX hg4 hq4)
 replace M : Mem w AD (As.blk g4 39 [str [], str [], .int .u8 0, str [], str [], str [], .int .u8 0, str [], str [], .int .i64 0, .int .i64 0] :: _) w2 := M
 refine BG 11 none (by kernel_rfl) rfl (AA rfl) rfl rfl (fun ρ hρ => BW 39 _ _ rfl g4 0 39 _ (El.cells ((AO m.els y.att).getD zeroEl)) (hρ _ _ rfl) (hρ _ _ rfl) (M.blk 0 rfl) AP (AI rfl) (AY rfl)) ?_
 rintro _ w3 ⟨rfl, hbw3, hfw3⟩
 replace M : Mem w AD (List.set _ 0 (As.blk g4 39 (El.cells ((AO m.els y.att).getD zeroEl)))) w3 := M.putB 0 rfl hbw3 hfw3
 refine ⟨fun _ => M.drop 1, oc 12 13 rfl rfl (M.drop 1) (BN (by kernel_rfl) (A5 (A9 (AV (A9 (A0 (yb rfl (yl rfl rfl (M.cell 1 rfl rfl) (ya rfl (CX rfl rfl rfl) (yb rfl (A4 (A5 (AT (b := (!decide ((y.kind.toNat : Int) = (9 : Int)))) rfl (fun h16 => ?_) (fun h16 => ?_))))))))))))))⟩
 ·have h16p := (odf (C4 h16))
  exact A9 (A0 (yb rfl (A4 (A5 (AF (AL (AB (AK rfl rfl ⟨by rw [HU, if_pos h16], M.fr⟩))))))))
 ·have h16p := (odt (C5 h16))
  refine A9 (A0 (yb rfl (yb rfl (yb rfl (AX 6 [(1, pg gp), (2, pg g2), (4, pg g4), (29, .bool ((!(AO m.els y.att).isSome) || (!decide (((AO m.els y.att).getD zeroEl).inn = y.inn))))] (fun w' => Mem w AD [As.blk g4 39 (El.cells ((AO m.els y.att).getD zeroEl)), As.blk g2 39 (El.cells y)] w') ?_ (fun k23 => ?_))))))
  ·intro w4 M
   refine yb rfl (A4 (A5 (AT (b := ((!(AO m.els y.att).isSome) || (!decide (((AO m.els y.att).getD zeroEl).inn = y.inn)))) rfl (fun h20 => ?_) (fun h20 => ?_))))
   ·have h20p := ((EL h20).imp (fun z => (C4 z)) (fun z => (odf (C4 z))))
    exact A9 (A0 (yb rfl (A4 (A5 (AF (AL (AB (AK rfl rfl ⟨by rw [HU, if_neg (BE h16), if_pos h20], M.fr⟩))))))))
   ·have h20p := (And.intro (C5 (CE h20).1) (odt (C5 (CE h20).2)))
    refine A9 (A0 (yb rfl (yl rfl rfl (M.cell 0 rfl rfl) (ya rfl (BB rfl rfl rfl) (yb rfl (AX 4 [(1, pg gp), (2, pg g2), (4, pg g4), (38, .bool ((decide ((((AO m.els y.att).getD zeroEl).kind.toNat : Int) = (3 : Int))) || (decide ((((AO m.els y.att).getD zeroEl).kind.toNat : Int) = (4 : Int)))))] (fun w' => Mem w AD [As.blk g4 39 (El.cells ((AO m.els y.att).getD zeroEl)), As.blk g2 39 (El.cells y)] w') ?_ (fun k34 => ?_)))))))
    ·intro w5 M
     refine yb rfl (A4 (A5 (AT (b := ((decide ((((AO m.els y.att).getD zeroEl).kind.toNat : Int) = (3 : Int))) || (decide ((((AO m.els y.att).getD zeroEl).kind.toNat : Int) = (4 : Int))))) rfl (fun h30 => ?_) (fun h30 => ?_))))
     ·have h30p := ((EL h30).imp (fun z => (odt z)) (fun z => (odt z)))
      exact A9 (A0 (yb rfl (A4 (A5 (AF (AL (AB (AK rfl rfl ⟨by rw [HU, if_neg (BE h16), if_neg (BE h20), if_pos h30], M.fr⟩))))))))
     ·have h30p := (And.intro (odf (CE h30).1) (odf (CE h30).2))
      refine A9 (A0 (yb rfl (yl rfl rfl (M.cell 0 rfl rfl) (ya rfl (CX rfl rfl rfl) (yb rfl (AX 4 [(1, pg gp), (4, pg g4), (47, .bool ((!decide ((((AO m.els y.att).getD zeroEl).kind.toNat : Int) = (10 : Int))) || (decide ((y.ev.toNat : Int) = (1 : Int)))))] (fun w' => Mem w AD [As.blk g4 39 (El.cells ((AO m.els y.att).getD zeroEl)), As.blk g2 39 (El.cells y)] w') ?_ (fun k43 => ?_)))))))
      ·intro w6 M
       refine yb rfl (A4 (A5 (AT (b := ((!decide ((((AO m.els y.att).getD zeroEl).kind.toNat : Int) = (10 : Int))) || (decide ((y.ev.toNat : Int) = (1 : Int))))) rfl (fun h39 => ?_) (fun h39 => ?_))))
       ·have h39p := ((EL h39).imp (fun z => (odf (C4 z))) (fun z => (odt z)))
        exact A9 (A0 (yb rfl (A4 (A5 (AF (AL (AB (AK rfl rfl ⟨by rw [HU, if_neg (BE h16), if_neg (BE h20), if_neg (BE h30), if_pos h39], M.fr⟩))))))))
       ·have h39p := (And.intro (odt (C5 (CE h39).1)) (odf (CE h39).2))
        refine AN (AC (A5 (A9 (A0 (yl rfl rfl (Blk.c (hp.fr0 M.fr) 0 rfl) (yb rfl (yb rfl (yb rfl (yl rfl rfl (Blk.c ((hx.fr0 M.fr).blk) 3 rfl) (ya rfl (CC (us := []) (vs := [pg gp, pg g4]) rfl rfl rfl) (cp M 54 rfl (AE rfl rfl call83) (tV _ _ m.els (by have := BS m.fls; have := AQ m.fls; have := ho.nfls; have := ho.nels; have := ho.nvars; first | omega | exact Nat.le_trans (BS _ _) (by omega) | exact Nat.le_trans (AQ _ _) (by omega)) 84 [pg gp, pg g4] (J5 m ((AO m.els y.att).getD zeroEl)) _ (GO call84 (fun z hz w9 hf9 => aJ m a ix gx gp ((AO m.els y.att).getD zeroEl) _ z w9 ho ((hx.fr0 M.fr).fr0 hf9) ((hp.fr0 M.fr).fr0 hf9) ((M.blk 0 rfl).fr0 hf9))) (M.rd hx.md.els)) fun w7 M => yb rfl (yb rfl (A4 (A5 ?_))))))))))))))
        exact AF (AK rfl rfl ⟨by rw [HU, if_neg (BE h16), if_neg (BE h20), if_neg (BE h30), if_neg (BE h39)], M.fr⟩)
      refine AM (d := 43) (b := (!decide ((((AO m.els y.att).getD zeroEl).kind.toNat : Int) = (10 : Int)))) rfl (fun h43 => ?_) (fun h43 => ?_)
      ·exact yo rfl (yo rfl (yo rfl (yb rfl (k43 _ _ M ⟨rfl, rfl, (by rw [h43]; rfl), trivial⟩))))
      ·exact yd rfl (yp rfl) (ym rfl rfl (M.cell 1 rfl rfl) (yd rfl (BB rfl rfl rfl) (yb rfl (k43 _ _ M ⟨rfl, rfl, (by rw [h43]; rfl), trivial⟩))))
    refine AM (d := 34) (b := (decide ((((AO m.els y.att).getD zeroEl).kind.toNat : Int) = (3 : Int)))) rfl (fun h34 => ?_) (fun h34 => ?_)
    ·exact yo rfl (yo rfl (yo rfl (yb rfl (k34 _ _ M ⟨rfl, rfl, rfl, (by rw [h34]; rfl), trivial⟩))))
    ·exact yd rfl (yp rfl) (ym rfl rfl (M.cell 0 rfl rfl) (yd rfl (BB rfl rfl rfl) (yb rfl (k34 _ _ M ⟨rfl, rfl, rfl, (by rw [h34]; rfl), trivial⟩))))
  refine AM (d := 23) (b := (!(AO m.els y.att).isSome)) rfl (fun h23 => ?_) (fun h23 => ?_)
  ·iterate 5 refine yo rfl ?_
   exact yb rfl (k23 _ _ M ⟨rfl, rfl, rfl, (by rw [h23]; rfl), trivial⟩)
  ·exact yd rfl (yp rfl) (ym rfl rfl (M.cell 0 rfl rfl) (yd rfl (yp rfl) (ym rfl rfl (M.cell 1 rfl rfl) (yd rfl (GR rfl rfl rfl) (yb rfl (k23 _ _ M ⟨rfl, rfl, rfl, (by rw [h23]; rfl), trivial⟩))))))
def JF (r : Option (List UInt8)) : Value := .tuple #[str (r.getD []), .bool r.isSome]
def ffE (p : El → Bool) (l : List El) : Option (List UInt8) := (ffN (fun _ => p) 0 l).map (·.id)
def ffF (p : Fl → Bool) (l : List Fl) : Option (List UInt8) := (ffN (fun _ => p) 0 l).map (·.id)
theorem T1 (p : El → Bool) (l : List El) : Value.tuple #[str ((ffN (fun _ => p) 0 l).elim [] (fun x => x.id)), .bool (ffN (fun _ => p) 0 l).isSome] = JF (ffE p l) := by unfold JF ffE; cases ffN (fun _ => p) 0 l <;> rfl
theorem oE (p : Fl → Bool) (l : List Fl) : Value.tuple #[str ((ffN (fun _ => p) 0 l).elim [] (fun x => x.id)), .bool (ffN (fun _ => p) 0 l).isSome] = JF (ffF p l) := by unfold JF ffF; cases ffN (fun _ => p) 0 l <;> rfl
theorem qG (m : Md) (a : MdA) (ix : IxA) (gx : Nat) (w : World) (ho : MdOk m) (hx : IxAt w m a ix gx) :
 Calls prog 24 #[pg gx] w fun e w' => e = .returned (JF (ffE (R9 m) m.els)) ∧ Fr0 w w' := by
 refine AJ (vs := [_]) func24 rfl ntmps24 rfl ?_
 have M := CN w
 refine A9 (A0 (B4 M (AA rfl) rfl rfl 67 rfl rfl ([pg gx]) rfl fun g1 w1 hg1 M => yb rfl (yb rfl (A4 (A5 (A9 (A0 (yl rfl rfl (M.cell 0 rfl rfl) (yb rfl (yb rfl (yb rfl (yl rfl rfl (Blk.c ((hx.fr0 M.fr).blk) 3 rfl) (ya rfl (CC (us := []) (vs := [pg g1]) rfl rfl rfl) ?_)))))))))))))
 refine cp M 10 rfl (AE rfl rfl call63) (IC _ _ m.els (by have := ho.nfls; have := ho.nels; have := ho.nvars; omega) 69 [pg g1] (R9 m) _ (GO call69 (fun z hz w9 hf9 => qI m a ix gx _ z w9 (ho.els z hz) ho ((hx.fr0 M.fr).fr0 hf9) ((M.blk 0 rfl).fr0 hf9))) (M.rd hx.md.els)) fun w2 M => ?_
 iterate 4 refine yb rfl ?_
 exact A4 (A5 (AF (CA rfl rfl rfl ⟨congrArg Ending.returned (T1 _ _), M.fr⟩)))
theorem fZ (m : Md) (a : MdA) (ix : IxA) (gx : Nat) (w : World) (ho : MdOk m) (hx : IxAt w m a ix gx) :
 Calls prog 25 #[pg gx] w fun e w' => e = .returned (JF (ffF (KV m) m.fls)) ∧ Fr0 w w' := by
 refine AJ (vs := [_]) func25 rfl ntmps25 rfl ?_
 have M := CN w
 refine A9 (A0 (B4 M (AA rfl) rfl rfl 67 rfl rfl ([pg gx]) rfl fun g1 w1 hg1 M => yb rfl (yb rfl (A4 (A5 (A9 (A0 (yl rfl rfl (M.cell 0 rfl rfl) (yb rfl (yb rfl (yb rfl (yl rfl rfl (Blk.c ((hx.fr0 M.fr).blk) 4 rfl) (ya rfl (CC (us := []) (vs := [pg g1]) rfl rfl rfl) ?_)))))))))))))
 refine cp M 10 rfl (AE rfl rfl call66) (V4 _ _ m.fls (by have := ho.nfls; have := ho.nels; have := ho.nvars; omega) 71 [pg g1] (KV m) _ (GO call71 (fun z hz w9 hf9 => gB m a ix gx _ z w9 ho ((hx.fr0 M.fr).fr0 hf9) ((M.blk 0 rfl).fr0 hf9))) (M.rd hx.md.fls)) fun w2 M => ?_
 iterate 4 refine yb rfl ?_
 exact A4 (A5 (AF (CA rfl rfl rfl ⟨congrArg Ending.returned (oE _ _), M.fr⟩)))
theorem o0 (m : Md) (a : MdA) (ix : IxA) (gx : Nat) (w : World) (ho : MdOk m) (hx : IxAt w m a ix gx) :
 Calls prog 26 #[pg gx] w fun e w' => e = .returned (JF (ffE (JX m) m.els)) ∧ Fr0 w w' := by
 refine AJ (vs := [_]) func26 rfl ntmps26 rfl ?_
 have M := CN w
 refine A9 (A0 (B4 M (AA rfl) rfl rfl 67 rfl rfl ([pg gx]) rfl fun g1 w1 hg1 M => yb rfl (yb rfl (A4 (A5 (A9 (A0 (yl rfl rfl (M.cell 0 rfl rfl) (yb rfl (yb rfl (yb rfl (yl rfl rfl (Blk.c ((hx.fr0 M.fr).blk) 3 rfl) (ya rfl (CC (us := []) (vs := [pg g1]) rfl rfl rfl) ?_)))))))))))))
 refine cp M 10 rfl (AE rfl rfl call63) (IC _ _ m.els (by have := ho.nfls; have := ho.nels; have := ho.nvars; omega) 72 [pg g1] (JX m) _ (GO call72 (fun z hz w9 hf9 => jA m a ix gx _ z w9 (ho.els z hz) ho ((hx.fr0 M.fr).fr0 hf9) ((M.blk 0 rfl).fr0 hf9))) (M.rd hx.md.els)) fun w2 M => ?_
 iterate 4 refine yb rfl ?_
 exact A4 (A5 (AF (CA rfl rfl rfl ⟨congrArg Ending.returned (T1 _ _), M.fr⟩)))
theorem gM (m : Md) (a : MdA) (ix : IxA) (gx : Nat) (w : World) (ho : MdOk m) (hx : IxAt w m a ix gx) :
 Calls prog 29 #[pg gx] w fun e w' => e = .returned (JF (ffE (HU m) m.els)) ∧ Fr0 w w' := by
 refine AJ (vs := [_]) func29 rfl ntmps29 rfl ?_
 have M := CN w
 refine A9 (A0 (B4 M (AA rfl) rfl rfl 67 rfl rfl ([pg gx]) rfl fun g1 w1 hg1 M => yb rfl (yb rfl (A4 (A5 (A9 (A0 (yl rfl rfl (M.cell 0 rfl rfl) (yb rfl (yb rfl (yb rfl (yl rfl rfl (Blk.c ((hx.fr0 M.fr).blk) 3 rfl) (ya rfl (CC (us := []) (vs := [pg g1]) rfl rfl rfl) ?_)))))))))))))
 refine cp M 10 rfl (AE rfl rfl call63) (IC _ _ m.els (by have := ho.nfls; have := ho.nels; have := ho.nvars; omega) 82 [pg g1] (HU m) _ (GO call82 (fun z hz w9 hf9 => gQ m a ix gx _ z w9 (ho.els z hz) ho ((hx.fr0 M.fr).fr0 hf9) ((M.blk 0 rfl).fr0 hf9))) (M.rd hx.md.els)) fun w2 M => ?_
 iterate 4 refine yb rfl ?_
 exact A4 (A5 (AF (CA rfl rfl rfl ⟨congrArg Ending.returned (T1 _ _), M.fr⟩)))
theorem jH (m : Md) (a : MdA) (ix : IxA) (gx : Nat) (w : World) (ho : MdOk m) (hx : IxAt w m a ix gx) :
 Calls prog 30 #[pg gx] w fun e w' => e = .returned (JF (ffE (N6 m) m.els)) ∧ Fr0 w w' := by
 refine AJ (vs := [_]) func30 rfl ntmps30 rfl ?_
 have M := CN w
 refine A9 (A0 (B4 M (AA rfl) rfl rfl 67 rfl rfl ([pg gx]) rfl fun g1 w1 hg1 M => yb rfl (yb rfl (A4 (A5 (A9 (A0 (yl rfl rfl (M.cell 0 rfl rfl) (yb rfl (yb rfl (yb rfl (yl rfl rfl (Blk.c ((hx.fr0 M.fr).blk) 3 rfl) (ya rfl (CC (us := []) (vs := [pg g1]) rfl rfl rfl) ?_)))))))))))))
 refine cp M 10 rfl (AE rfl rfl call63) (IC _ _ m.els (by have := ho.nfls; have := ho.nels; have := ho.nvars; omega) 87 [pg g1] (N6 m) _ (GO call87 (fun z hz w9 hf9 => jJ m a ix gx _ z w9 (ho.els z hz) ho ((hx.fr0 M.fr).fr0 hf9) ((M.blk 0 rfl).fr0 hf9))) (M.rd hx.md.els)) fun w2 M => ?_
 iterate 4 refine yb rfl ?_
 exact A4 (A5 (AF (CA rfl rfl rfl ⟨congrArg Ending.returned (T1 _ _), M.fr⟩)))
end Go.Proofs.YtdaihdknnlphkaaGreatDoor
