/- Lemmas that the last text rests on. Condition: each says its own. -/
import Derived.Test.YtjaocmocdhckaaaGreatDoorZRu2
import Derived.Test.YtjaocmocdhckaaaGreatDoorZb6
set_option maxHeartbeats 16000000
set_option maxRecDepth 100000
namespace Go.Proofs.YtjaocmocdhckaaaGreatDoor
open Go.RowKit
open Tryz
def GT (els : List El) : Nat → El → List (List UInt8)
 | 0, _ => []
 | f + 1, y => if y.inn = [] then [] else match BK els y.inn with
  | none => []
  | some x => if x.kind.toNat = 10 then x.id :: GT els f x else []
def B3 (els : List El) (id : List UInt8) : List (List UInt8) := GT els 64 ((BK els id).getD zeroEl)
theorem UK (els : List El) {y : El} {n : Nat} (h1 : ¬ y.inn = []) (hn : n < 64) (h2 : (BK els y.inn).isSome = true) (h3 : (((BK els y.inn).getD zeroEl).kind.toNat : Int) = 10) : GT els (64 - n) y = ((BK els y.inn).getD zeroEl).id :: GT els (64 - (n + 1)) ((BK els y.inn).getD zeroEl) := by
 rw [show 64 - n = (64 - (n + 1)) + 1 by omega, GT, if_neg h1]
 cases hx : BK els y.inn with
 | none => rw [hx] at h2; cases h2
 | some x =>
  rw [hx] at h3
  have h3' : x.kind.toNat = 10 := by simp only [Option.getD_some] at h3; omega
  simp only [if_pos h3', Option.getD_some]
theorem UJ (els : List El) {y : El} {n : Nat} (h : (BK els y.inn).isSome = false ∨ ¬ (((BK els y.inn).getD zeroEl).kind.toNat : Int) = 10) : GT els n y = [] := by
 cases n with
 | zero => rfl
 | succ n =>
  rw [GT]
  split
  ·rfl
  ·cases hx : BK els y.inn with
   | none => rfl
   | some x =>
    rw [hx] at h
    simp only [Option.isSome_some, Bool.true_eq_false, Option.getD_some, false_or] at h
    simp only
    rw [if_neg AO]
theorem WW (els : List El) {y : El} {n : Nat} (h : y.inn = [] ∨ ¬ (n : Int) < 64) : GT els (64 - n) y = [] := by
 rcases h with h | h
 ·cases 64 - n with
  | zero => rfl
  | succ k => rw [GT, if_pos h]
 ·rw [show 64 - n = 0 by omega]; rfl
theorem PK (els : List El) : ∀ (n : Nat) (y : El), (GT els n y).length ≤ n
 | 0, _ => Nat.le_refl _
 | n + 1, y => by
  rw [GT]
  split
  ·exact Nat.zero_le _
  ·split
   ·exact Nat.zero_le _
   ·split
    ·have := PK els n; simp only [List.length_cons]; exact Nat.succ_le_succ (this _)
    ·exact Nat.zero_le _
theorem LY (els : List El) (id : List UInt8) : (B3 els id).length ≤ 64 := PK els 64 _
theorem TC (m : Md) (a : MdA) (ix : IxA) (gx : Nat) (id : List UInt8) (w : World) (_ho : MdOk m) (hx : IxAt w m a ix gx) :
 Calls prog 99 #[pg gx, str id] w fun e w' => ∃ A c, e = .returned (.slice A (B3 m.els id).length c) ∧ w'.ownsRow w.heap.size 9 1 (.slice A (B3 m.els id).length c) (B3 m.els id).length (AK BW (B3 m.els id)) ∧ Fr0 w w' := by
 refine C2 func99 ntmps99 rfl fun M => srg (yb rfl (nq (srg (yb rfl (nq (AD (srg (yb rfl (yb rfl ?_)))))))))
 refine yb rfl (yl rfl rfl (Blk.c ((hx.fr0 M.fr).blk) 5 rfl) (yb rfl (ya rfl (BP rfl rfl rfl underlying62 underlying9 B4 ((hx.fr0 M.fr).E) (hx.getE _)) (D6 M rfl B4 fun g6 w1 hg6 M => C1 M 0 rfl rfl AZ rfl fun w2 M => nq (AR ?_)))))
 have M := M.nilOwn 9 1
 refine flp [0] (fun ze e wr mz => ∃ (y : El) (acc : List (List UInt8)) (A : Option Addr) (c : Nat) (gv : Nat), e = (5, .slice A acc.length c) :: (6, pg gv) :: ze ∧ Mem w AV [As.own w.heap.size 9 1 (.slice A acc.length c) acc.length (AK BW acc), As.blk gv 69 (El.cells y)] wr ∧ (acc.length ≤ 64) ∧ (B3 m.els id = acc ++ GT m.els (64 - acc.length) y) ∧ mz = 64 - acc.length) ⟨(BK m.els id).getD zeroEl, [], none, 0, g6, rfl, M, Nat.zero_le _, rfl, rfl⟩ ?_
 rintro _ w3 _ ⟨y, acc, A, c, gv, rfl, M, hl, hr, rfl⟩
 refine AD (AD (AB (yb rfl (BA M 1 rfl rfl rfl (ya rfl (GK rfl rfl rfl) (yb rfl (fvm M 4 [6, 5, 0] [(22, .bool ((!decide (y.inn = [])) && (decide (((acc.length : Nat) : Int) < (64 : Int)))))] ?_ (fun k18 => ?_))))))))
 ·intro w4 M
  refine AC (AA (AN rfl (fun h22 => ?_) (fun h22 => ?_)))
  ·have h22p := (And.intro (odf (CE (CF h22).1)) (odt (CF h22).2))
   refine AL (AA (AD (AR (AD (CO 13 (fun w' => Mem w AV [As.own w.heap.size 9 1 (.slice A acc.length c) acc.length (AK BW acc), As.blk gv 69 (El.cells y)] w') CU ?_)))))
   have M := M.drew
   refine oc 0 13 rfl rfl M (oc 1 13 rfl rfl M (oc 2 13 rfl rfl M (ol 3 13 rfl rfl rfl M (fun _ M => (Blk.c ((hx.fr0 M.fr).blk) 5 rfl)) (oc 4 13 rfl rfl M (ol 5 13 rfl rfl rfl M (fun _ M => (M.cell 1 rfl rfl)) (oa 6 13 rfl rfl M (fun _ M => E0 rfl rfl rfl underlying62 underlying9 B4 ((hx.fr0 M.fr).E) (hx.getE _) (hx.isE _)) (oc 7 13 rfl rfl M (oc 8 13 rfl rfl M (oc 9 13 rfl rfl M (fon M 10 7 rfl rfl B4 fun g7 w5 hg7 M => fop M 11 0 rfl rfl rfl AZ rfl (·.drop 1) fun w6 M => oc 12 13 rfl rfl (M.drop 1) (fdn (AA (AD ?_)))))))))))))
   refine AD (AB (yb rfl (yb rfl (yb rfl (fvm M 4 [7, 6, 5, 0] [(39, .bool ((!(BK m.els y.inn).isSome) || (!decide ((((BK m.els y.inn).getD zeroEl).kind.toNat : Int) = (10 : Int)))))] ?_ (fun k35 => ?_))))))
   ·intro w7 M
    refine AC (AA (AN rfl (fun h39 => ?_) (fun h39 => ?_)))
    ·have h39p := ((EJ h39).imp (fun z => (CE z)) (fun z => (odf (CE z))))
     refine BG (AJ (G1 rfl (AJ (AJ (AY (AA (srg (yb rfl (yb rfl (nq (AI (gr1 rfl ?_))))))))))))
     rw [UJ m.els h39p, List.append_nil] at hr
     subst hr
     exact ⟨_, _, rfl, M.own 1 rfl, M.fr⟩
    ·have h39p := (And.intro (BM (CL h39).1) (odt (BM (CL h39).2)))
     refine AL (AA (srg (yb rfl (yb rfl (BA M 0 rfl rfl rfl (DA M (AF rfl) rfl rfl [str (((BK m.els y.inn).getD zeroEl).id)] ([str (((BK m.els y.inn).getD zeroEl).id)]) rfl rfl rfl rfl underlying36 CW rfl rfl (GX rfl) rfl fun g43 w8 hg43 M => ED (len' := (acc ++ [((BK m.els y.inn).getD zeroEl).id]).length) (xs' := AK BW (acc ++ [((BK m.els y.inn).getD zeroEl).id])) M 2 (AF rfl) rfl rfl rfl rfl rfl rfl (M.rdBlk 0 rfl rfl) underlying36 DB rfl BR (BL rfl) (Nat.le_refl _) (Nat.le_refl _) (by first | omega | (simp <;> omega)) (by unfold maxLen; first | omega | (simp only [List.length_append, List.length_cons, List.length_nil]; omega)) (by simp) (by simp [AK, BW]) fun A44 c44 w9 M => yb rfl (nq (AB (CR M 1 rfl rfl underlying69 AZ rfl ?_)))))))))
     refine C1 M 3 rfl rfl AZ rfl fun w10 M => AC (AH (AA (srg (CR M 3 rfl rfl underlying69 AZ rfl (nq (AB (D6 M rfl B4 fun g6 w11 hg6 M => C1 M 0 rfl rfl AZ rfl fun w12 M => AC ?_)))))))
     have hlen := h22p.2
     refine fag ⟨((BK m.els y.inn).getD zeroEl), acc ++ [((BK m.els y.inn).getD zeroEl).id], A44, c44, g6, rfl, (M.pk [3, 0]), ?_, ?_, rfl⟩
     ·simp only [List.length_append, List.length_cons, List.length_nil]; omega
     ·rw [hr, UK m.els h22p.1 AO h39p.1 h39p.2]; simp
   refine AP (d := 35) rfl (fun h35 => ?_) (fun h35 => ?_)
   ·exact yo rfl (yo rfl (yo rfl (yb rfl (k35 M ⟨rfl, rfl, rfl, rfl, (by rw [h35]; rfl), trivial⟩))))
   ·exact gyq rfl (CH M 0 rfl rfl rfl (yd rfl (DC rfl rfl rfl) (yb rfl (k35 M ⟨rfl, rfl, rfl, rfl, (by rw [h35]; rfl), trivial⟩))))
  ·have h22p := ((DM h22).imp (fun z => (odt (BM z))) (fun z => (odf z)))
   refine BG (AJ (AJ (AY (AA (srg (yb rfl (yb rfl (nq (AI (gr1 rfl ?_))))))))))
   rw [WW m.els h22p, List.append_nil] at hr
   subst hr
   exact ⟨_, _, rfl, M.own 0 rfl, M.fr⟩
 refine AP (d := 18) rfl (fun h18 => ?_) (fun h18 => ?_)
 ·exact gyq rfl (yd rfl (C7 rfl rfl (sl rfl)) (yd rfl (E9 rfl rfl rfl) (yb rfl (k18 M ⟨rfl, rfl, rfl, (by rw [h18]; rfl), trivial⟩))))
 ·exact yo rfl (yo rfl (yo rfl (yb rfl (k18 M ⟨rfl, rfl, rfl, (by rw [h18]; rfl), trivial⟩))))
def NU (m : Md) (b y : El) : Bool := (if (decide ((y.kind.toNat : Int) = (6 : Int))) = true then ((B3 m.els y.id).any (fun z => decide (b.id = z))) else false)
theorem X8 (m : Md) (a : MdA) (ix : IxA) (gx gp : Nat) (b : El) (gb : Nat) (y : El) (w : World) (ho : MdOk m) (hx : IxAt w m a ix gx) (hp : Blk w gp 95 [pg gx]) (hb : Blk w gb 69 b.cells) :
 Calls prog 98 #[.agg y.cells.toArray, pg gp, pg gb] w fun e w' => e = .returned (.bool (NU m b y)) ∧ Fr0 w w' := by
 refine C2 func98 ntmps98 rfl fun M => srg (CN M rfl rfl fun g3 w1 hg3 M => yb rfl (nq (AD (CO 13 (fun w' => Mem w AV [As.blk g3 69 (El.cells y)] w') CU ?_))))
 have M := M.drew
 refine oc 0 13 rfl rfl M (ol 1 13 rfl rfl rfl M (fun _ M => (M.cell 0 rfl rfl)) (oa 2 13 rfl rfl M (fun _ M => C3 rfl rfl rfl) (oc 3 13 rfl rfl M (EH (d := 8) rfl (fun h8 => ?_) (fun h8 => ?_)))))
 ·have h8p := (odt h8)
  refine ob 4 13 rfl (BD rfl rfl rfl) rfl rfl M (fun _ M => BU rfl rfl (sc rfl) (Blk.c (hp.fr0 M.fr) 0 rfl)) (ob 5 13 rfl (BD rfl rfl rfl) rfl rfl M (fun _ M => yp rfl) (ob 6 13 rfl (BD rfl rfl rfl) rfl rfl M (fun _ M => BU rfl rfl (sc rfl) (M.cell 0 rfl rfl)) (ob 8 13 rfl (BD rfl rfl rfl) rfl rfl M (fun _ M => yp rfl) (ob 9 13 rfl (BD rfl rfl rfl) rfl rfl M (fun _ M => BU rfl rfl (sc rfl) (Blk.c (hb.fr0 M.fr) 0 rfl)) (C0 7 (some 12) gkr rfl (BD rfl rfl rfl) rfl rfl (AQ rfl rfl call99) (TC m a ix gx _ _ ho (hx.fr0 M.fr)) ?_)))))
  rintro _ w2 ⟨A12, c12, rfl, how2, hfw2⟩
  refine ⟨_, rfl, fun _ => M.step hfw2, ?_⟩
  have M := M.pushOwn hfw2 (Nat.le_refl _) how2
  have hL12 := M.ownLen 0 rfl
  refine C0 10 (some 15) gkr rfl (BD rfl rfl rfl) rfl rfl (AQ rfl rfl call59) (RL _ _ (B3 m.els y.id) _ _ (by have hL := M.ownLen 0 rfl; have := LY m.els y.id; omega) (M.rdOwn 0 rfl)) ?_
  rintro _ w3 ⟨rfl, hfw3⟩
  refine ⟨_, rfl, fun _ => (M.drop 1).step hfw3, ?_⟩
  have M := M.step hfw3
  exact oc 11 13 rfl rfl (M.drop 1) (oc 12 13 rfl rfl (M.drop 1) (fdn (AA (AI (gr1 rfl ⟨by rw [NU, if_pos h8], M.fr⟩)))))
 ·exact C5 4 13 rfl M (C5 5 13 rfl M (C5 6 13 rfl M (C5 7 13 rfl M (C5 8 13 rfl M (C5 9 13 rfl M (C5 10 13 rfl M (oc 11 13 rfl rfl M (oc 12 13 rfl rfl M (fdn (AA (AI (gr1 rfl ⟨by rw [NU, if_neg (AS h8)], M.fr⟩))))))))))))
def KE (m : Md) (y : El) : Bool := (if (!decide ((y.kind.toNat : Int) = (9 : Int))) = true then true else (if ((!(BK m.els y.att).isSome) || (!decide (((BK m.els y.att).getD zeroEl).inn = y.inn))) = true then false else (if ((decide ((((BK m.els y.att).getD zeroEl).kind.toNat : Int) = (3 : Int))) || (decide ((((BK m.els y.att).getD zeroEl).kind.toNat : Int) = (4 : Int)))) = true then true else (if ((!decide ((((BK m.els y.att).getD zeroEl).kind.toNat : Int) = (10 : Int))) || (decide ((y.ev.toNat : Int) = (1 : Int)))) = true then false else (!(m.els.any (NU m ((BK m.els y.att).getD zeroEl))))))))
theorem aS (m : Md) (a : MdA) (ix : IxA) (gx gp : Nat) (y : El) (w : World) (oy : ElOk y) (ho : MdOk m) (hx : IxAt w m a ix gx) (hp : Blk w gp 95 [pg gx]) :
 Calls prog 96 #[.agg y.cells.toArray, pg gp] w fun e w' => e = .returned (.bool (KE m y)) ∧ Fr0 w w' := by
 have oy3 := oy.ref
 have oy4 := oy.key
 have oy5 := oy.id
 have oy6 := oy.nm
 have oy7 := oy.inn
 have oy8 := oy.att
 refine C2 func96 ntmps96 rfl fun M => srg (CN M rfl rfl fun g2 w1 hg2 M => yb rfl (nq (AD (CO 13 (fun w' => Mem w AV [As.blk g2 69 (El.cells y)] w') CU ?_))))
 have M := M.drew
 refine ol 0 13 rfl rfl rfl M (fun _ M => (Blk.c (hp.fr0 M.fr) 0 rfl)) (oc 1 13 rfl rfl M (oc 2 13 rfl rfl M (ol 3 13 rfl rfl rfl M (fun _ M => (Blk.c ((hx.fr0 M.fr).blk) 5 rfl)) (oc 4 13 rfl rfl M (ol 5 13 rfl rfl rfl M (fun _ M => (M.cell 0 rfl rfl)) (oa 6 13 rfl rfl M (fun _ M => E0 rfl rfl rfl underlying62 underlying9 B4 ((hx.fr0 M.fr).E) (hx.getE _) (hx.isE _)) (oc 7 13 rfl rfl M (oc 8 13 rfl rfl M (oc 9 13 rfl rfl M (fon M 10 4 rfl rfl B4 fun g4 w2 hg4 M => fop M 11 0 rfl rfl rfl AZ rfl (·.drop 1) fun w3 M => oc 12 13 rfl rfl (M.drop 1) (fdn (AA (AD ?_)))))))))))))
 refine AR (AD (AB (yb rfl (BA M 1 rfl rfl rfl (D4 rfl rfl (yb rfl (AC (AA (AN rfl (fun h16 => ?_) (fun h16 => ?_))))))))))
 ·exact srg (yb rfl (nq (AI (AM (AE (gr1 rfl ⟨by rw [KE, if_pos h16], M.fr⟩))))))
 ·have h16p := (odt (BM h16))
  refine AD (AB (yb rfl (yb rfl (yb rfl (fvm M 6 [4, 2, 1] [(29, .bool ((!(BK m.els y.att).isSome) || (!decide (((BK m.els y.att).getD zeroEl).inn = y.inn))))] ?_ (fun k23 => ?_))))))
  ·intro w4 M
   refine yb rfl (AC (AA (AN rfl (fun h20 => ?_) (fun h20 => ?_))))
   ·have h20p := ((EJ h20).imp (fun z => (CE z)) (fun z => (odf (CE z))))
    exact srg (yb rfl (nq (AI (AM (AE (gr1 rfl ⟨by rw [KE, if_neg (AS h16), if_pos h20], M.fr⟩))))))
   ·have h20p := (And.intro (BM (CL h20).1) (odt (BM (CL h20).2)))
    refine AD (AB (yb rfl (BA M 0 rfl rfl rfl (CI rfl rfl (yb rfl (fvm M 4 [4, 2, 1] [(38, .bool ((decide ((((BK m.els y.att).getD zeroEl).kind.toNat : Int) = (3 : Int))) || (decide ((((BK m.els y.att).getD zeroEl).kind.toNat : Int) = (4 : Int)))))] ?_ (fun k34 => ?_)))))))
    ·intro w5 M
     refine yb rfl (AC (AA (AN rfl (fun h30 => ?_) (fun h30 => ?_))))
     ·have h30p := ((EJ h30).imp (fun z => (odt z)) (fun z => (odt z)))
      exact srg (yb rfl (nq (AI (AM (AE (gr1 rfl ⟨by rw [KE, if_neg (AS h16), if_neg (AS h20), if_pos h30], M.fr⟩))))))
     ·have h30p := (And.intro (odf (CL h30).1) (odf (CL h30).2))
      refine AD (AB (yb rfl (BA M 0 rfl rfl rfl (D4 rfl rfl (yb rfl (fvm M 4 [4, 1] [(47, .bool ((!decide ((((BK m.els y.att).getD zeroEl).kind.toNat : Int) = (10 : Int))) || (decide ((y.ev.toNat : Int) = (1 : Int)))))] ?_ (fun k43 => ?_)))))))
      ·intro w6 M
       refine yb rfl (AC (AA (AN rfl (fun h39 => ?_) (fun h39 => ?_))))
       ·have h39p := ((EJ h39).imp (fun z => (odf (CE z))) (fun z => (odt z)))
        exact srg (yb rfl (nq (AI (AM (AE (gr1 rfl ⟨by rw [KE, if_neg (AS h16), if_neg (AS h20), if_neg (AS h30), if_pos h39], M.fr⟩))))))
       ·have h39p := (And.intro (odt (BM (CL h39).1)) (odf (CL h39).2))
        refine AL (AH (AA (srg (yl rfl rfl (Blk.c (hp.fr0 M.fr) 0 rfl) (yb rfl (yb rfl (yb rfl (yl rfl rfl (Blk.c ((hx.fr0 M.fr).blk) 3 rfl) (ya rfl (D9 (us := []) (vs := [pg gp, pg g4]) rfl rfl rfl) (D1 M 54 rfl rfl call97 (nN _ _ m.els (by have := GA m.fls; have := EI m.fls; have := ho.nfls; have := ho.nels; have := ho.nvars; first | omega | exact Nat.le_trans (GA _ _) AO | exact Nat.le_trans (EI _ _) AO) 98 [pg gp, pg g4] (NU m ((BK m.els y.att).getD zeroEl)) _ (GI call98 (fun z hz w9 hf9 => X8 m a ix gx gp ((BK m.els y.att).getD zeroEl) _ z w9 ho ((hx.fr0 M.fr).fr0 hf9) ((hp.fr0 M.fr).fr0 hf9) ((M.blk 0 rfl).fr0 hf9))) (M.rd hx.md.els)) fun w7 M => yb rfl (yb rfl (nq ?_))))))))))))
        exact AI (gr1 rfl ⟨by rw [KE, if_neg (AS h16), if_neg (AS h20), if_neg (AS h30), if_neg (AS h39)], M.fr⟩)
      refine AP (d := 43) rfl (fun h43 => ?_) (fun h43 => ?_)
      ·exact yo rfl (yo rfl (yo rfl (yb rfl (k43 M ⟨rfl, rfl, (by rw [h43]; rfl), trivial⟩))))
      ·exact gyq rfl (CH M 1 rfl rfl rfl (yd rfl (C3 rfl rfl rfl) (yb rfl (k43 M ⟨rfl, rfl, (by rw [h43]; rfl), trivial⟩))))
    refine AP (d := 34) rfl (fun h34 => ?_) (fun h34 => ?_)
    ·exact yo rfl (yo rfl (yo rfl (yb rfl (k34 M ⟨rfl, rfl, rfl, (by rw [h34]; rfl), trivial⟩))))
    ·exact gyq rfl (CH M 0 rfl rfl rfl (yd rfl (C3 rfl rfl rfl) (yb rfl (k34 M ⟨rfl, rfl, rfl, (by rw [h34]; rfl), trivial⟩))))
  refine AP (d := 23) rfl (fun h23 => ?_) (fun h23 => ?_)
  ·iterate 5 refine yo rfl ?_
   exact yb rfl (k23 M ⟨rfl, rfl, rfl, (by rw [h23]; rfl), trivial⟩)
  ·exact gyq rfl (CH M 0 rfl rfl rfl (gyq rfl (CH M 1 rfl rfl rfl (yd rfl (GK rfl rfl rfl) (yb rfl (k23 M ⟨rfl, rfl, rfl, (by rw [h23]; rfl), trivial⟩))))))
def JJ (r : Option (List UInt8)) : Value := .tuple #[str (r.getD []), .bool r.isSome]
def ffE (p : El → Bool) (l : List El) : Option (List UInt8) := (ffN (fun _ => p) 0 l).map (·.id)
def ffF (p : Fl → Bool) (l : List Fl) : Option (List UInt8) := (ffN (fun _ => p) 0 l).map (·.id)
theorem RF (p : El → Bool) (l : List El) : Value.tuple #[str ((ffN (fun _ => p) 0 l).elim [] (fun x => x.id)), .bool (ffN (fun _ => p) 0 l).isSome] = JJ (ffE p l) := by unfold JJ ffE; cases ffN (fun _ => p) 0 l <;> rfl
theorem iP (p : Fl → Bool) (l : List Fl) : Value.tuple #[str ((ffN (fun _ => p) 0 l).elim [] (fun x => x.id)), .bool (ffN (fun _ => p) 0 l).isSome] = JJ (ffF p l) := by unfold JJ ffF; cases ffN (fun _ => p) 0 l <;> rfl
theorem kZ (m : Md) (a : MdA) (ix : IxA) (gx : Nat) (w : World) (ho : MdOk m) (hx : IxAt w m a ix gx) :
 Calls prog 37 #[pg gx] w fun e w' => e = .returned (JJ (ffE (TM m) m.els)) ∧ Fr0 w w' := by
 refine C2 func37 ntmps37 rfl fun M => srg (DX M (AF rfl) rfl rfl 95 rfl rfl ([pg gx]) rfl fun g1 w1 hg1 M => yb rfl (yb rfl (nq (srg (BA M 0 rfl rfl rfl (yb rfl (yb rfl (yb rfl (yl rfl rfl (Blk.c ((hx.fr0 M.fr).blk) 3 rfl) ?_)))))))))
 refine ya rfl (D9 (us := []) (vs := [pg g1]) rfl rfl rfl) (D1 M 10 rfl rfl call77 (IS _ _ m.els (by have := ho.nfls; have := ho.nels; have := ho.nvars; omega) 83 [pg g1] (TM m) _ (GI call83 (fun z hz w9 hf9 => l0 m a ix gx _ z w9 (ho.els z hz) ho ((hx.fr0 M.fr).fr0 hf9) ((M.blk 0 rfl).fr0 hf9))) (M.rd hx.md.els)) fun w2 M => ?_)
 iterate 4 refine yb rfl ?_
 exact nq (AI (CD rfl rfl rfl ⟨congrArg Ending.returned (RF _ _), M.fr⟩))
theorem aJ (m : Md) (a : MdA) (ix : IxA) (gx : Nat) (w : World) (ho : MdOk m) (hx : IxAt w m a ix gx) :
 Calls prog 38 #[pg gx] w fun e w' => e = .returned (JJ (ffF (L3 m) m.fls)) ∧ Fr0 w w' := by
 refine C2 func38 ntmps38 rfl fun M => srg (DX M (AF rfl) rfl rfl 95 rfl rfl ([pg gx]) rfl fun g1 w1 hg1 M => yb rfl (yb rfl (nq (srg (BA M 0 rfl rfl rfl (yb rfl (yb rfl (yb rfl (yl rfl rfl (Blk.c ((hx.fr0 M.fr).blk) 4 rfl) ?_)))))))))
 refine ya rfl (D9 (us := []) (vs := [pg g1]) rfl rfl rfl) (D1 M 10 rfl rfl call80 (T0 _ _ m.fls (by have := ho.nfls; have := ho.nels; have := ho.nvars; omega) 85 [pg g1] (L3 m) _ (GI call85 (fun z hz w9 hf9 => aK m a ix gx _ z w9 ho ((hx.fr0 M.fr).fr0 hf9) ((M.blk 0 rfl).fr0 hf9))) (M.rd hx.md.fls)) fun w2 M => ?_)
 iterate 4 refine yb rfl ?_
 exact nq (AI (CD rfl rfl rfl ⟨congrArg Ending.returned (iP _ _), M.fr⟩))
theorem iF (m : Md) (a : MdA) (ix : IxA) (gx : Nat) (w : World) (ho : MdOk m) (hx : IxAt w m a ix gx) :
 Calls prog 39 #[pg gx] w fun e w' => e = .returned (JJ (ffE (J0 m) m.els)) ∧ Fr0 w w' := by
 refine C2 func39 ntmps39 rfl fun M => srg (DX M (AF rfl) rfl rfl 95 rfl rfl ([pg gx]) rfl fun g1 w1 hg1 M => yb rfl (yb rfl (nq (srg (BA M 0 rfl rfl rfl (yb rfl (yb rfl (yb rfl (yl rfl rfl (Blk.c ((hx.fr0 M.fr).blk) 3 rfl) ?_)))))))))
 refine ya rfl (D9 (us := []) (vs := [pg g1]) rfl rfl rfl) (D1 M 10 rfl rfl call77 (IS _ _ m.els (by have := ho.nfls; have := ho.nels; have := ho.nvars; omega) 86 [pg g1] (J0 m) _ (GI call86 (fun z hz w9 hf9 => bX m a ix gx _ z w9 (ho.els z hz) ho ((hx.fr0 M.fr).fr0 hf9) ((M.blk 0 rfl).fr0 hf9))) (M.rd hx.md.els)) fun w2 M => ?_)
 iterate 4 refine yb rfl ?_
 exact nq (AI (CD rfl rfl rfl ⟨congrArg Ending.returned (RF _ _), M.fr⟩))
theorem aR (m : Md) (a : MdA) (ix : IxA) (gx : Nat) (w : World) (ho : MdOk m) (hx : IxAt w m a ix gx) :
 Calls prog 42 #[pg gx] w fun e w' => e = .returned (JJ (ffE (KE m) m.els)) ∧ Fr0 w w' := by
 refine C2 func42 ntmps42 rfl fun M => srg (DX M (AF rfl) rfl rfl 95 rfl rfl ([pg gx]) rfl fun g1 w1 hg1 M => yb rfl (yb rfl (nq (srg (BA M 0 rfl rfl rfl (yb rfl (yb rfl (yb rfl (yl rfl rfl (Blk.c ((hx.fr0 M.fr).blk) 3 rfl) ?_)))))))))
 refine ya rfl (D9 (us := []) (vs := [pg g1]) rfl rfl rfl) (D1 M 10 rfl rfl call77 (IS _ _ m.els (by have := ho.nfls; have := ho.nels; have := ho.nvars; omega) 96 [pg g1] (KE m) _ (GI call96 (fun z hz w9 hf9 => aS m a ix gx _ z w9 (ho.els z hz) ho ((hx.fr0 M.fr).fr0 hf9) ((M.blk 0 rfl).fr0 hf9))) (M.rd hx.md.els)) fun w2 M => ?_)
 iterate 4 refine yb rfl ?_
 exact nq (AI (CD rfl rfl rfl ⟨congrArg Ending.returned (RF _ _), M.fr⟩))
theorem cD (m : Md) (a : MdA) (ix : IxA) (gx : Nat) (w : World) (ho : MdOk m) (hx : IxAt w m a ix gx) :
 Calls prog 43 #[pg gx] w fun e w' => e = .returned (JJ (ffE (LT m) m.els)) ∧ Fr0 w w' := by
 refine C2 func43 ntmps43 rfl fun M => srg (DX M (AF rfl) rfl rfl 95 rfl rfl ([pg gx]) rfl fun g1 w1 hg1 M => yb rfl (yb rfl (nq (srg (BA M 0 rfl rfl rfl (yb rfl (yb rfl (yb rfl (yl rfl rfl (Blk.c ((hx.fr0 M.fr).blk) 3 rfl) ?_)))))))))
 refine ya rfl (D9 (us := []) (vs := [pg g1]) rfl rfl rfl) (D1 M 10 rfl rfl call77 (IS _ _ m.els (by have := ho.nfls; have := ho.nels; have := ho.nvars; omega) 100 [pg g1] (LT m) _ (GI call100 (fun z hz w9 hf9 => cE m a ix gx _ z w9 (ho.els z hz) ho ((hx.fr0 M.fr).fr0 hf9) ((M.blk 0 rfl).fr0 hf9))) (M.rd hx.md.els)) fun w2 M => ?_)
 iterate 4 refine yb rfl ?_
 exact nq (AI (CD rfl rfl rfl ⟨congrArg Ending.returned (RF _ _), M.fr⟩))
end Go.Proofs.YtjaocmocdhckaaaGreatDoor
