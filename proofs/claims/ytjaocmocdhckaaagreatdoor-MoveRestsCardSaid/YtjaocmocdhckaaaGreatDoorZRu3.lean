/- Lemmas that the last text rests on. Condition: each says its own. -/
import Derived.Test.YtjaocmocdhckaaaGreatDoorZRu2
import Derived.Test.YtjaocmocdhckaaaGreatDoorZb6
set_option maxHeartbeats 16000000
set_option maxRecDepth 100000
namespace Go.Proofs.YtjaocmocdhckaaaGreatDoor
open Go.RowKit
open Tryz
def HA (els : List El) : Nat → El → List (List UInt8)
 | 0, _ => []
 | f + 1, y => if y.inn = [] then [] else match BK els y.inn with
  | none => []
  | some x => if x.kind.toNat = 10 then x.id :: HA els f x else []
def B5 (els : List El) (id : List UInt8) : List (List UInt8) := HA els 64 ((BK els id).getD zeroEl)
theorem VC (els : List El) {y : El} {n : Nat} (h1 : ¬ y.inn = []) (hn : n < 64) (h2 : (BK els y.inn).isSome = true) (h3 : (((BK els y.inn).getD zeroEl).kind.toNat : Int) = 10) : HA els (64 - n) y = ((BK els y.inn).getD zeroEl).id :: HA els (64 - (n + 1)) ((BK els y.inn).getD zeroEl) := by
 rw [show 64 - n = (64 - (n + 1)) + 1 by omega, HA, if_neg h1]
 cases hx : BK els y.inn with
 | none => rw [hx] at h2; cases h2
 | some x =>
  rw [hx] at h3
  have h3' : x.kind.toNat = 10 := by simp only [Option.getD_some] at h3; omega
  simp only [if_pos h3', Option.getD_some]
theorem VB (els : List El) {y : El} {n : Nat} (h : (BK els y.inn).isSome = false ∨ ¬ (((BK els y.inn).getD zeroEl).kind.toNat : Int) = 10) : HA els n y = [] := by
 cases n with
 | zero => rfl
 | succ n =>
  rw [HA]
  split
  ·rfl
  ·cases hx : BK els y.inn with
   | none => rfl
   | some x =>
    rw [hx] at h
    simp only [Option.isSome_some, Bool.true_eq_false, Option.getD_some, false_or] at h
    simp only
    rw [if_neg AM]
theorem XQ (els : List El) {y : El} {n : Nat} (h : y.inn = [] ∨ ¬ (n : Int) < 64) : HA els (64 - n) y = [] := by
 rcases h with h | h
 ·cases 64 - n with
  | zero => rfl
  | succ k => rw [HA, if_pos h]
 ·rw [show 64 - n = 0 by omega]; rfl
theorem QD (els : List El) : ∀ (n : Nat) (y : El), (HA els n y).length ≤ n
 | 0, _ => Nat.le_refl _
 | n + 1, y => by
  rw [HA]
  split
  ·exact Nat.zero_le _
  ·split
   ·exact Nat.zero_le _
   ·split
    ·have := QD els n; simp only [List.length_cons]; exact Nat.succ_le_succ (this _)
    ·exact Nat.zero_le _
theorem ML (els : List El) (id : List UInt8) : (B5 els id).length ≤ 64 := QD els 64 _
theorem U3 (m : Md) (a : MdA) (ix : IxA) (gx : Nat) (id : List UInt8) (w : World) (_ho : MdOk m) (hx : IxAt w m a ix gx) :
 Calls prog 99 #[pg gx, str id] w fun e w' => ∃ A c, e = .returned (.slice A (B5 m.els id).length c) ∧ w'.ownsRow w.heap.size 9 1 (.slice A (B5 m.els id).length c) (B5 m.els id).length (AH BY (B5 m.els id)) ∧ Fr0 w w' := by
 refine C5 func99 ntmps99 rfl fun M => srg (AY rfl (srg (AY rfl (AF (AQ rfl (yb rfl ?_))))))
 refine yb rfl (yl rfl rfl (Blk.c ((hx.fr0 M.fr).blk) 5 rfl) (yb rfl (ya rfl (BT rfl rfl rfl underlying62 underlying9 B6 ((hx.fr0 M.fr).E) (hx.getE _)) (DC M rfl B6 fun g6 w1 hg6 M => C4 M 0 rfl rfl B2 rfl fun w2 M => nq (AS ?_)))))
 have M := M.nilOwn 9 1
 refine flp [0] (fun ze e wr mz => ∃ (y : El) (acc : List (List UInt8)) (A : Option Addr) (c : Nat) (gv : Nat), e = (5, .slice A acc.length c) :: (6, pg gv) :: ze ∧ Mem w B0 [As.own w.heap.size 9 1 (.slice A acc.length c) acc.length (AH BY acc), As.blk gv 69 (El.cells y)] wr ∧ (acc.length ≤ 64) ∧ (B5 m.els id = acc ++ HA m.els (64 - acc.length) y) ∧ mz = 64 - acc.length) ⟨(BK m.els id).getD zeroEl, [], none, 0, g6, rfl, M, Nat.zero_le _, rfl, rfl⟩ ?_
 rintro _ w3 _ ⟨y, acc, A, c, gv, rfl, M, hl, hr, rfl⟩
 refine AF (AQ rfl (BC M 1 rfl rfl rfl (ya rfl (FP rfl rfl rfl) (yb rfl (fvm M 4 [6, 5, 0] [(22, .bool ((!decide (y.inn = [])) && (decide (((acc.length : Nat) : Int) < (64 : Int)))))] ?_ (fun k18 => ?_))))))
 ·intro w4 M
  refine nq (AL rfl (fun h22 => ?_) (fun h22 => ?_))
  ·have h22p := (And.intro (odf (CK (CL h22).1)) (odt (CL h22).2))
   refine AI (AD (AF (AS (AF (CV 13 (fun w' => Mem w B0 [As.own w.heap.size 9 1 (.slice A acc.length c) acc.length (AH BY acc), As.blk gv 69 (El.cells y)] w') CZ ?_)))))
   have M := M.drew
   refine oc 0 13 rfl rfl M (oc 1 13 rfl rfl M (oc 2 13 rfl rfl M (ol 3 13 rfl rfl rfl M (fun _ M => (Blk.c ((hx.fr0 M.fr).blk) 5 rfl)) (oc 4 13 rfl rfl M (ol 5 13 rfl rfl rfl M (fun _ M => (M.cell 1 rfl rfl)) (oa 6 13 rfl rfl M (fun _ M => E6 rfl rfl rfl underlying62 underlying9 B6 ((hx.fr0 M.fr).E) (hx.getE _) (hx.isE _)) (oc 7 13 rfl rfl M (oc 8 13 rfl rfl M (oc 9 13 rfl rfl M (fon M 10 7 rfl rfl B6 fun g7 w5 hg7 M => fop M 11 0 rfl rfl rfl B2 rfl (·.drop 1) fun w6 M => oc 12 13 rfl rfl (M.drop 1) (fdn (AD (AF ?_)))))))))))))
   refine AQ rfl (BM rfl rfl (fvm M 4 [7, 6, 5, 0] [(39, .bool ((!(BK m.els y.inn).isSome) || (!decide ((((BK m.els y.inn).getD zeroEl).kind.toNat : Int) = (10 : Int)))))] ?_ (fun k35 => ?_)))
   ·intro w7 M
    refine nq (AL rfl (fun h39 => ?_) (fun h39 => ?_))
    ·have h39p := ((EO h39).imp (fun z => (CK z)) (fun z => (odf (CK z))))
     refine BF (AG (G6 rfl (AG (AG (AV (AD (AQ rfl (yb rfl (gnr (gr1 rfl ?_))))))))))
     rw [VB m.els h39p, List.append_nil] at hr
     subst hr
     exact ⟨_, _, rfl, M.own 1 rfl, M.fr⟩
    ·have h39p := (And.intro (BQ (CP h39).1) (odt (BQ (CP h39).2)))
     refine AI (AD (AQ rfl (yb rfl (BC M 0 rfl rfl rfl (DF M (AA rfl) rfl rfl [str (((BK m.els y.inn).getD zeroEl).id)] ([str (((BK m.els y.inn).getD zeroEl).id)]) rfl rfl rfl rfl underlying36 D1 rfl rfl (HE rfl) rfl fun g43 w8 hg43 M => EH (len' := (acc ++ [((BK m.els y.inn).getD zeroEl).id]).length) (xs' := AH BY (acc ++ [((BK m.els y.inn).getD zeroEl).id])) M 2 (AA rfl) rfl rfl rfl rfl rfl rfl (M.rdBlk 0 rfl rfl) underlying36 DG rfl BU (BP rfl) (Nat.le_refl _) (Nat.le_refl _) CX (by unfold maxLen; first | omega | (simp only [List.length_append, List.length_cons, List.length_nil]; omega)) (by simp) (by simp [AH, BY]) fun A44 c44 w9 M => AY rfl (AK (CW M 1 rfl rfl underlying69 B2 rfl ?_)))))))
     refine C4 M 3 rfl rfl B2 rfl fun w10 M => AR (AE (AD (srg (CW M 3 rfl rfl underlying69 B2 rfl (nq (AK (DC M rfl B6 fun g6 w11 hg6 M => C4 M 0 rfl rfl B2 rfl fun w12 M => AR ?_)))))))
     have hlen := h22p.2
     refine fag ⟨((BK m.els y.inn).getD zeroEl), acc ++ [((BK m.els y.inn).getD zeroEl).id], A44, c44, g6, rfl, (M.pk [3, 0]), ?_, ?_, rfl⟩
     ·simp only [List.length_append, List.length_cons, List.length_nil]; omega
     ·rw [hr, VC m.els h22p.1 AM h39p.1 h39p.2]; simp
   refine AO (d := 35) rfl (fun h35 => ?_) (fun h35 => ?_)
   ·exact yo rfl (yo rfl (yo rfl (yb rfl (k35 M ⟨rfl, rfl, rfl, rfl, (by rw [h35]; rfl), trivial⟩))))
   ·exact gyq rfl (CJ M 0 rfl rfl rfl (yd rfl (E4 rfl rfl rfl) (yb rfl (k35 M ⟨rfl, rfl, rfl, rfl, (by rw [h35]; rfl), trivial⟩))))
  ·have h22p := ((DT h22).imp (fun z => (odt (BQ z))) (fun z => (odf z)))
   refine BF (AG (AG (AV (AD (AQ rfl (yb rfl (gnr (gr1 rfl ?_))))))))
   rw [XQ m.els h22p, List.append_nil] at hr
   subst hr
   exact ⟨_, _, rfl, M.own 0 rfl, M.fr⟩
 refine AO (d := 18) rfl (fun h18 => ?_) (fun h18 => ?_)
 ·exact gyq rfl (yd rfl (C3 rfl rfl (sl rfl)) (yd rfl (ED rfl rfl rfl) (yb rfl (k18 M ⟨rfl, rfl, rfl, (by rw [h18]; rfl), trivial⟩))))
 ·exact yo rfl (yo rfl (yo rfl (yb rfl (k18 M ⟨rfl, rfl, rfl, (by rw [h18]; rfl), trivial⟩))))
def OG (m : Md) (b y : El) : Bool := (if (decide ((y.kind.toNat : Int) = (6 : Int))) = true then ((B5 m.els y.id).any (fun z => decide (b.id = z))) else false)
theorem Y3 (m : Md) (a : MdA) (ix : IxA) (gx gp : Nat) (b : El) (gb : Nat) (y : El) (w : World) (ho : MdOk m) (hx : IxAt w m a ix gx) (hp : Blk w gp 95 [pg gx]) (hb : Blk w gb 69 b.cells) :
 Calls prog 98 #[.agg y.cells.toArray, pg gp, pg gb] w (CG w (.bool (OG m b y))) := by
 refine C5 func98 ntmps98 rfl fun M => srg (CR M rfl rfl fun g3 w1 hg3 M => AY rfl (AF (CV 13 (fun w' => Mem w B0 [As.blk g3 69 (El.cells y)] w') CZ ?_)))
 have M := M.drew
 refine oc 0 13 rfl rfl M (ol 1 13 rfl rfl rfl M (fun _ M => (M.cell 0 rfl rfl)) (oa 2 13 rfl rfl M (fun _ M => BZ rfl rfl rfl) (oc 3 13 rfl rfl M (EK (d := 8) rfl (fun h8 => ?_) (fun h8 => ?_)))))
 ·have h8p := (odt h8)
  refine ob 4 13 rfl (BG rfl rfl rfl) rfl rfl M (fun _ M => BW rfl rfl (sc rfl) (Blk.c (hp.fr0 M.fr) 0 rfl)) (ob 5 13 rfl (BG rfl rfl rfl) rfl rfl M (fun _ M => yp rfl) (ob 6 13 rfl (BG rfl rfl rfl) rfl rfl M (fun _ M => BW rfl rfl (sc rfl) (M.cell 0 rfl rfl)) (ob 8 13 rfl (BG rfl rfl rfl) rfl rfl M (fun _ M => yp rfl) (ob 9 13 rfl (BG rfl rfl rfl) rfl rfl M (fun _ M => BW rfl rfl (sc rfl) (Blk.c (hb.fr0 M.fr) 0 rfl)) (C7 7 (some 12) gkr rfl (BG rfl rfl rfl) rfl rfl (AP rfl rfl call99) (U3 m a ix gx _ _ ho (hx.fr0 M.fr)) ?_)))))
  rintro _ w2 ⟨A12, c12, rfl, how2, hfw2⟩
  refine ⟨_, rfl, fun _ => M.step hfw2, ?_⟩
  have M := M.pushOwn hfw2 (Nat.le_refl _) how2
  have hL12 := M.ownLen 0 rfl
  refine C7 10 (some 15) gkr rfl (BG rfl rfl rfl) rfl rfl (AP rfl rfl call59) (S8 _ _ (B5 m.els y.id) _ _ (by have hL := M.ownLen 0 rfl; have := ML m.els y.id; omega) (M.rdOwn 0 rfl)) ?_
  rintro _ w3 ⟨rfl, hfw3⟩
  refine ⟨_, rfl, fun _ => (M.drop 1).step hfw3, ?_⟩
  have M := M.step hfw3
  exact oc 11 13 rfl rfl (M.drop 1) (oc 12 13 rfl rfl (M.drop 1) (fdn (AD (BN (gr1 rfl ⟨by rw [OG, if_pos h8], M.fr⟩)))))
 ·exact C9 4 13 rfl M (C9 5 13 rfl M (C9 6 13 rfl M (C9 7 13 rfl M (C9 8 13 rfl M (C9 9 13 rfl M (C9 10 13 rfl M (oc 11 13 rfl rfl M (oc 12 13 rfl rfl M (fdn (AD (BN (gr1 rfl ⟨by rw [OG, AT h8], M.fr⟩))))))))))))
def KT (m : Md) (y : El) : Bool := (if (!decide ((y.kind.toNat : Int) = (9 : Int))) = true then true else (if ((!(BK m.els y.att).isSome) || (!decide (((BK m.els y.att).getD zeroEl).inn = y.inn))) = true then false else (if ((decide ((((BK m.els y.att).getD zeroEl).kind.toNat : Int) = (3 : Int))) || (decide ((((BK m.els y.att).getD zeroEl).kind.toNat : Int) = (4 : Int)))) = true then true else (if ((!decide ((((BK m.els y.att).getD zeroEl).kind.toNat : Int) = (10 : Int))) || (decide ((y.ev.toNat : Int) = (1 : Int)))) = true then false else (!(m.els.any (OG m ((BK m.els y.att).getD zeroEl))))))))
theorem bP (m : Md) (a : MdA) (ix : IxA) (gx gp : Nat) (y : El) (w : World) (oy : ElOk y) (ho : MdOk m) (hx : IxAt w m a ix gx) (hp : Blk w gp 95 [pg gx]) :
 Calls prog 96 #[.agg y.cells.toArray, pg gp] w (CG w (.bool (KT m y))) := by
 have oy3 := oy.ref
 have oy4 := oy.key
 have oy5 := oy.id
 have oy6 := oy.nm
 have oy7 := oy.inn
 have oy8 := oy.att
 refine C5 func96 ntmps96 rfl fun M => srg (CR M rfl rfl fun g2 w1 hg2 M => AY rfl (AF (CV 13 (fun w' => Mem w B0 [As.blk g2 69 (El.cells y)] w') CZ ?_)))
 have M := M.drew
 refine ol 0 13 rfl rfl rfl M (fun _ M => (Blk.c (hp.fr0 M.fr) 0 rfl)) (oc 1 13 rfl rfl M (oc 2 13 rfl rfl M (ol 3 13 rfl rfl rfl M (fun _ M => (Blk.c ((hx.fr0 M.fr).blk) 5 rfl)) (oc 4 13 rfl rfl M (ol 5 13 rfl rfl rfl M (fun _ M => (M.cell 0 rfl rfl)) (oa 6 13 rfl rfl M (fun _ M => E6 rfl rfl rfl underlying62 underlying9 B6 ((hx.fr0 M.fr).E) (hx.getE _) (hx.isE _)) (oc 7 13 rfl rfl M (oc 8 13 rfl rfl M (oc 9 13 rfl rfl M (fon M 10 4 rfl rfl B6 fun g4 w2 hg4 M => fop M 11 0 rfl rfl rfl B2 rfl (·.drop 1) fun w3 M => oc 12 13 rfl rfl (M.drop 1) (fdn (AD (AF ?_)))))))))))))
 refine AS (AQ rfl (BC M 1 rfl rfl rfl (DA rfl rfl (AY rfl (AL rfl (fun h16 => ?_) (fun h16 => ?_))))))
 ·exact AQ rfl (gnr (AN (AB (gr1 rfl ⟨by rw [KT, if_pos h16], M.fr⟩))))
 ·have h16p := (odt (BQ h16))
  refine AQ rfl (BM rfl rfl (fvm M 6 [4, 2, 1] [(29, .bool ((!(BK m.els y.att).isSome) || (!decide (((BK m.els y.att).getD zeroEl).inn = y.inn))))] ?_ (fun k23 => ?_)))
  ·intro w4 M
   refine AY rfl (AL rfl (fun h20 => ?_) (fun h20 => ?_))
   ·have h20p := ((EO h20).imp (fun z => (CK z)) (fun z => (odf (CK z))))
    exact AQ rfl (gnr (AN (AB (gr1 rfl ⟨by rw [KT, AT h16, if_pos h20], M.fr⟩))))
   ·have h20p := (And.intro (BQ (CP h20).1) (odt (BQ (CP h20).2)))
    refine AQ rfl (BC M 0 rfl rfl rfl (CN rfl rfl (yb rfl (fvm M 4 [4, 2, 1] [(38, .bool ((decide ((((BK m.els y.att).getD zeroEl).kind.toNat : Int) = (3 : Int))) || (decide ((((BK m.els y.att).getD zeroEl).kind.toNat : Int) = (4 : Int)))))] ?_ (fun k34 => ?_)))))
    ·intro w5 M
     refine AY rfl (AL rfl (fun h30 => ?_) (fun h30 => ?_))
     ·have h30p := ((EO h30).imp (fun z => (odt z)) (fun z => (odt z)))
      exact AQ rfl (gnr (AN (AB (gr1 rfl ⟨by rw [KT, AT h16, AT h20, if_pos h30], M.fr⟩))))
     ·have h30p := (And.intro (odf (CP h30).1) (odf (CP h30).2))
      refine AQ rfl (BC M 0 rfl rfl rfl (DA rfl rfl (yb rfl (fvm M 4 [4, 1] [(47, .bool ((!decide ((((BK m.els y.att).getD zeroEl).kind.toNat : Int) = (10 : Int))) || (decide ((y.ev.toNat : Int) = (1 : Int)))))] ?_ (fun k43 => ?_)))))
      ·intro w6 M
       refine AY rfl (AL rfl (fun h39 => ?_) (fun h39 => ?_))
       ·have h39p := ((EO h39).imp (fun z => (odf (CK z))) (fun z => (odt z)))
        exact AQ rfl (gnr (AN (AB (gr1 rfl ⟨by rw [KT, AT h16, AT h20, AT h30, if_pos h39], M.fr⟩))))
       ·have h39p := (And.intro (odt (BQ (CP h39).1)) (odf (CP h39).2))
        refine AI (AE (AD (srg (yl rfl rfl (Blk.c (hp.fr0 M.fr) 0 rfl) (BM rfl rfl (yb rfl (yl rfl rfl (Blk.c ((hx.fr0 M.fr).blk) 3 rfl) (ya rfl (DE (us := []) (vs := [pg gp, pg g4]) rfl rfl rfl) (D4 M 54 rfl rfl call97 (oK _ _ m.els (by have := GH m.fls; have := EM m.fls; have := ho.nfls; have := ho.nels; have := ho.nvars; first | omega | exact Nat.le_trans (GH _ _) AM | exact Nat.le_trans (EM _ _) AM) 98 [pg gp, pg g4] (OG m ((BK m.els y.att).getD zeroEl)) _ (GN call98 (fun z hz w9 hf9 => Y3 m a ix gx gp ((BK m.els y.att).getD zeroEl) _ z w9 ho ((hx.fr0 M.fr).fr0 hf9) ((hp.fr0 M.fr).fr0 hf9) ((M.blk 0 rfl).fr0 hf9))) (M.rd hx.md.els)) fun w7 M => yb rfl (AY rfl ?_))))))))))
        exact BN (gr1 rfl ⟨by rw [KT, AT h16, AT h20, AT h30, AT h39], M.fr⟩)
      refine AO (d := 43) rfl (fun h43 => ?_) (fun h43 => ?_)
      ·exact yo rfl (yo rfl (yo rfl (yb rfl (k43 M ⟨rfl, rfl, (by rw [h43]; rfl), trivial⟩))))
      ·exact gyq rfl (CJ M 1 rfl rfl rfl (yd rfl (BZ rfl rfl rfl) (yb rfl (k43 M ⟨rfl, rfl, (by rw [h43]; rfl), trivial⟩))))
    refine AO (d := 34) rfl (fun h34 => ?_) (fun h34 => ?_)
    ·exact yo rfl (yo rfl (yo rfl (yb rfl (k34 M ⟨rfl, rfl, rfl, (by rw [h34]; rfl), trivial⟩))))
    ·exact gyq rfl (CJ M 0 rfl rfl rfl (yd rfl (BZ rfl rfl rfl) (yb rfl (k34 M ⟨rfl, rfl, rfl, (by rw [h34]; rfl), trivial⟩))))
  refine AO (d := 23) rfl (fun h23 => ?_) (fun h23 => ?_)
  ·iterate 5 refine yo rfl ?_
   exact yb rfl (k23 M ⟨rfl, rfl, rfl, (by rw [h23]; rfl), trivial⟩)
  ·exact gyq rfl (CJ M 0 rfl rfl rfl (gyq rfl (CJ M 1 rfl rfl rfl (yd rfl (FP rfl rfl rfl) (yb rfl (k23 M ⟨rfl, rfl, rfl, (by rw [h23]; rfl), trivial⟩))))))
def JZ (r : Option (List UInt8)) : Value := .tuple #[str (r.getD []), .bool r.isSome]
def ffE (p : El → Bool) (l : List El) : Option (List UInt8) := (ffN (fun _ => p) 0 l).map (·.id)
def ffF (p : Fl → Bool) (l : List Fl) : Option (List UInt8) := (ffN (fun _ => p) 0 l).map (·.id)
theorem S1 (p : El → Bool) (l : List El) : Value.tuple #[str ((ffN (fun _ => p) 0 l).elim [] (fun x => x.id)), .bool (ffN (fun _ => p) 0 l).isSome] = JZ (ffE p l) := by unfold JZ ffE; cases ffN (fun _ => p) 0 l <;> rfl
theorem jN (p : Fl → Bool) (l : List Fl) : Value.tuple #[str ((ffN (fun _ => p) 0 l).elim [] (fun x => x.id)), .bool (ffN (fun _ => p) 0 l).isSome] = JZ (ffF p l) := by unfold JZ ffF; cases ffN (fun _ => p) 0 l <;> rfl
theorem lW (m : Md) (a : MdA) (ix : IxA) (gx : Nat) (w : World) (ho : MdOk m) (hx : IxAt w m a ix gx) :
 Calls prog 37 #[pg gx] w (CG w (JZ (ffE (UA m) m.els))) := by
 refine C5 func37 ntmps37 rfl fun M => srg (E3 M (AA rfl) rfl rfl 95 rfl rfl ([pg gx]) rfl fun g1 w1 hg1 M => yb rfl (AY rfl (srg (BC M 0 rfl rfl rfl (BM rfl rfl (yb rfl (yl rfl rfl (Blk.c ((hx.fr0 M.fr).blk) 3 rfl) ?_)))))))
 refine ya rfl (DE (us := []) (vs := [pg g1]) rfl rfl rfl) (D4 M 10 rfl rfl call77 (J4 _ _ m.els (by have := ho.nfls; have := ho.nels; have := ho.nvars; omega) 83 [pg g1] (UA m) _ (GN call83 (fun z hz w9 hf9 => lX m a ix gx _ z w9 (ho.els z hz) ho ((hx.fr0 M.fr).fr0 hf9) ((M.blk 0 rfl).fr0 hf9))) (M.rd hx.md.els)) fun w2 M => ?_)
 iterate 4 refine yb rfl ?_
 exact gnr (CI rfl rfl rfl ⟨congrArg Ending.returned (S1 _ _), M.fr⟩)
theorem bG (m : Md) (a : MdA) (ix : IxA) (gx : Nat) (w : World) (ho : MdOk m) (hx : IxAt w m a ix gx) :
 Calls prog 38 #[pg gx] w (CG w (JZ (ffF (LS m) m.fls))) := by
 refine C5 func38 ntmps38 rfl fun M => srg (E3 M (AA rfl) rfl rfl 95 rfl rfl ([pg gx]) rfl fun g1 w1 hg1 M => yb rfl (AY rfl (srg (BC M 0 rfl rfl rfl (BM rfl rfl (yb rfl (yl rfl rfl (Blk.c ((hx.fr0 M.fr).blk) 4 rfl) ?_)))))))
 refine ya rfl (DE (us := []) (vs := [pg g1]) rfl rfl rfl) (D4 M 10 rfl rfl call80 (TS _ _ m.fls (by have := ho.nfls; have := ho.nels; have := ho.nvars; omega) 85 [pg g1] (LS m) _ (GN call85 (fun z hz w9 hf9 => bH m a ix gx _ z w9 ho ((hx.fr0 M.fr).fr0 hf9) ((M.blk 0 rfl).fr0 hf9))) (M.rd hx.md.fls)) fun w2 M => ?_)
 iterate 4 refine yb rfl ?_
 exact gnr (CI rfl rfl rfl ⟨congrArg Ending.returned (jN _ _), M.fr⟩)
theorem jB (m : Md) (a : MdA) (ix : IxA) (gx : Nat) (w : World) (ho : MdOk m) (hx : IxAt w m a ix gx) :
 Calls prog 39 #[pg gx] w (CG w (JZ (ffE (IS m) m.els))) := by
 refine C5 func39 ntmps39 rfl fun M => srg (E3 M (AA rfl) rfl rfl 95 rfl rfl ([pg gx]) rfl fun g1 w1 hg1 M => yb rfl (AY rfl (srg (BC M 0 rfl rfl rfl (BM rfl rfl (yb rfl (yl rfl rfl (Blk.c ((hx.fr0 M.fr).blk) 3 rfl) ?_)))))))
 refine ya rfl (DE (us := []) (vs := [pg g1]) rfl rfl rfl) (D4 M 10 rfl rfl call77 (J4 _ _ m.els (by have := ho.nfls; have := ho.nels; have := ho.nvars; omega) 86 [pg g1] (IS m) _ (GN call86 (fun z hz w9 hf9 => cW m a ix gx _ z w9 (ho.els z hz) ho ((hx.fr0 M.fr).fr0 hf9) ((M.blk 0 rfl).fr0 hf9))) (M.rd hx.md.els)) fun w2 M => ?_)
 iterate 4 refine yb rfl ?_
 exact gnr (CI rfl rfl rfl ⟨congrArg Ending.returned (S1 _ _), M.fr⟩)
theorem bO (m : Md) (a : MdA) (ix : IxA) (gx : Nat) (w : World) (ho : MdOk m) (hx : IxAt w m a ix gx) :
 Calls prog 42 #[pg gx] w (CG w (JZ (ffE (KT m) m.els))) := by
 refine C5 func42 ntmps42 rfl fun M => srg (E3 M (AA rfl) rfl rfl 95 rfl rfl ([pg gx]) rfl fun g1 w1 hg1 M => yb rfl (AY rfl (srg (BC M 0 rfl rfl rfl (BM rfl rfl (yb rfl (yl rfl rfl (Blk.c ((hx.fr0 M.fr).blk) 3 rfl) ?_)))))))
 refine ya rfl (DE (us := []) (vs := [pg g1]) rfl rfl rfl) (D4 M 10 rfl rfl call77 (J4 _ _ m.els (by have := ho.nfls; have := ho.nels; have := ho.nvars; omega) 96 [pg g1] (KT m) _ (GN call96 (fun z hz w9 hf9 => bP m a ix gx _ z w9 (ho.els z hz) ho ((hx.fr0 M.fr).fr0 hf9) ((M.blk 0 rfl).fr0 hf9))) (M.rd hx.md.els)) fun w2 M => ?_)
 iterate 4 refine yb rfl ?_
 exact gnr (CI rfl rfl rfl ⟨congrArg Ending.returned (S1 _ _), M.fr⟩)
theorem dA (m : Md) (a : MdA) (ix : IxA) (gx : Nat) (w : World) (ho : MdOk m) (hx : IxAt w m a ix gx) :
 Calls prog 43 #[pg gx] w (CG w (JZ (ffE (NV m) m.els))) := by
 refine C5 func43 ntmps43 rfl fun M => srg (E3 M (AA rfl) rfl rfl 95 rfl rfl ([pg gx]) rfl fun g1 w1 hg1 M => yb rfl (AY rfl (srg (BC M 0 rfl rfl rfl (BM rfl rfl (yb rfl (yl rfl rfl (Blk.c ((hx.fr0 M.fr).blk) 3 rfl) ?_)))))))
 refine ya rfl (DE (us := []) (vs := [pg g1]) rfl rfl rfl) (D4 M 10 rfl rfl call77 (J4 _ _ m.els (by have := ho.nfls; have := ho.nels; have := ho.nvars; omega) 100 [pg g1] (NV m) _ (GN call100 (fun z hz w9 hf9 => dB m a ix gx _ z w9 (ho.els z hz) ho ((hx.fr0 M.fr).fr0 hf9) ((M.blk 0 rfl).fr0 hf9))) (M.rd hx.md.els)) fun w2 M => ?_)
 iterate 4 refine yb rfl ?_
 exact gnr (CI rfl rfl rfl ⟨congrArg Ending.returned (S1 _ _), M.fr⟩)
end Go.Proofs.YtjaocmocdhckaaaGreatDoor
